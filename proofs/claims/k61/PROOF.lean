import PyProof.Rows.All
import Wide.All
import OpenK.AllK
import Wide.FinOn
import HandS.ForMost
import HandS.Evl
import HandS.IsInst
import HandS.Strs
import HandS.SetFor
import HandS.WideBits
import HandS.Codes
import HandS.Conv
import KE.SortData
import KE.DatumOrd
import KE.GoesMore
import KE.GoesEnum
import PyProof.ReprLen
import PyProof.StrHeap
import PySem.Challenge.RW_twoabove_k61_whole_levels_and_boards_tha
set_option Elab.async false
set_option linter.all false
set_option maxRecDepth 100000
set_option maxHeartbeats 4000000
/-! The plain laws: lots as bits, boards that come, the walk's boards. No program in sight. -/
namespace K61
/-! ### bits -/
def bitsOf (l : List Nat) : Nat := l.foldl (fun f s => f ||| 2 ^ s) 0
theorem bitsOf_snoc (l : List Nat) (s : Nat) : bitsOf (l ++ [s]) = bitsOf l ||| 2 ^ s := by
  unfold bitsOf
  rw [List.foldl_append]
  rfl
theorem fold_bit (l : List Nat) : ∀ (a i : Nat), (l.foldl (fun f s => f ||| 2 ^ s) a).testBit i = (a.testBit i || decide (i ∈ l)) := by
  induction l with
  | nil => intro a i; simp
  | cons s r ih =>
    intro a i
    rw [List.foldl_cons, ih, Nat.testBit_or, Nat.testBit_two_pow]
    by_cases h : s = i
    · subst h; simp
    · have h' : ¬ i = s := fun e => h e.symm
      simp [h, h']
theorem bitsOf_bit (l : List Nat) (i : Nat) : (bitsOf l).testBit i = decide (i ∈ l) := by
  unfold bitsOf
  rw [fold_bit]
  simp
/-- the shelves of bits, rising -/
def spots (b : Nat) : List Nat := (List.range 8).filter fun s => b.testBit s
theorem mem_spots {b s : Nat} : s ∈ spots b ↔ s < 8 ∧ b.testBit s = true := by
  unfold spots
  rw [List.mem_filter, List.mem_range]
theorem spots_len (b : Nat) : (spots b).length ≤ 8 := by
  unfold spots
  have h := List.length_filter_le (fun s => b.testBit s) (List.range 8)
  rw [List.length_range] at h
  exact h
theorem bits_eq {a b : Nat} (h : ∀ i, a.testBit i = b.testBit i) : a = b := Nat.eq_of_testBit_eq h
theorem bit_lt {b i : Nat} (hb : b < 256) (h : b.testBit i = true) : i < 8 := by
  rcases Nat.lt_or_ge i 8 with c | c
  · exact c
  · have h2 : b < 2 ^ i := Nat.lt_of_lt_of_le (show b < 2 ^ 8 from hb) (Nat.pow_le_pow_right (by decide) c)
    rw [Nat.testBit_lt_two_pow h2] at h
    cases h
theorem bitsOf_spots {b : Nat} (hb : b < 256) : bitsOf (spots b) = b := by
  refine bits_eq fun i => ?_
  rw [bitsOf_bit]
  by_cases h : b.testBit i = true
  · rw [h]
    exact decide_eq_true (mem_spots.mpr ⟨bit_lt hb h, h⟩)
  · have h' : b.testBit i = false := by simpa using h
    rw [h']
    exact decide_eq_false fun m => by rw [(mem_spots.mp m).2] at h'; cases h'
theorem bitsOf_lt {l : List Nat} (h : ∀ s ∈ l, s < 8) : bitsOf l < 256 := by
  have e : (256 : Nat) = 2 ^ 8 := by decide
  rw [e]
  refine Nat.lt_pow_two_of_testBit _ fun i hi => ?_
  rw [bitsOf_bit]
  exact decide_eq_false fun m => by have := h i m; omega
/-- a lies within b -/
def Within (a b : Nat) : Prop := ∀ i, a.testBit i = true → b.testBit i = true
theorem within_iff {a b : Nat} : Within a b ↔ a &&& b = a := by
  constructor
  · intro h
    refine bits_eq fun i => ?_
    rw [Nat.testBit_and]
    cases e : a.testBit i with
    | false => rfl
    | true => rw [h i e]; rfl
  · intro h i e
    rw [← h, Nat.testBit_and] at e
    exact (Bool.and_eq_true_iff.mp e).2

/-! ### boards -/
/-- what shelf s holds -/
def at_ (bd : List Nat) (s : Nat) : Nat := bd.getD s 0
/-- a kind with s whose shelves all hold l or more -/
def Up (ks : List (List Nat)) (bd : List Nat) (l s : Nat) : Prop := ∃ k ∈ ks, s ∈ k ∧ ∀ t ∈ k, l ≤ at_ bd t
def Due (ks : List (List Nat)) (bd : List Nat) : Prop := ∀ l s, s < bd.length → l < at_ bd s → Up ks bd l s
def Looked (ks : List (List Nat)) (bd : List Nat) : Prop := ∀ s, s < bd.length → 0 < at_ bd s → ∃ k ∈ ks, s ∈ k ∧ ∀ t ∈ k, at_ bd s ≤ at_ bd t + 1
theorem due_looked {ks : List (List Nat)} {bd : List Nat} : Due ks bd ↔ Looked ks bd := by
  constructor
  · intro h s hs h0
    obtain ⟨k, hk, hm, ha⟩ := h (at_ bd s - 1) s hs (by omega)
    exact ⟨k, hk, hm, fun t ht => by have := ha t ht; omega⟩
  · intro h l s hs hl
    obtain ⟨k, hk, hm, ha⟩ := h s hs (by omega)
    exact ⟨k, hk, hm, fun t ht => by have := ha t ht; omega⟩
/-- the kinds as bits -/
def Rep (D : List Nat) (ks : List (List Nat)) : Prop := ∀ b, b ∈ D ↔ ∃ k ∈ ks, bitsOf k = b
def KindsOk (n : Nat) (ks : List (List Nat)) : Prop := ∀ k ∈ ks, k ≠ [] ∧ k.Nodup ∧ ∀ s ∈ k, s < n
/-- the shelves that hold l or more -/
def lotAt (bd : List Nat) (l : Nat) : Nat := bitsOf ((List.range bd.length).filter fun s => decide (l ≤ at_ bd s))
theorem lotAt_bit {bd : List Nat} {l i : Nat} : (lotAt bd l).testBit i = true ↔ i < bd.length ∧ l ≤ at_ bd i := by
  unfold lotAt
  rw [bitsOf_bit, decide_eq_true_eq, List.mem_filter, List.mem_range, decide_eq_true_eq]
theorem all_lot {bd : List Nat} : 2 ^ bd.length - 1 = lotAt bd 0 := by
  refine bits_eq fun i => ?_
  rw [Nat.testBit_two_pow_sub_one]
  by_cases h : i < bd.length
  · rw [decide_eq_true h]
    exact (lotAt_bit.mpr ⟨h, Nat.zero_le _⟩).symm
  · rw [decide_eq_false h]
    cases e : (lotAt bd 0).testBit i with
    | false => rfl
    | true => exact absurd (lotAt_bit.mp e).1 h
/-- the join of the kinds within a lot -/
def supOf (D : List Nat) (b : Nat) : Nat := D.foldl (fun f k => if k &&& b = k then f ||| k else f) 0
theorem supOf_snoc (D : List Nat) (b k : Nat) : supOf (D ++ [k]) b = if k &&& b = k then supOf D b ||| k else supOf D b := by
  unfold supOf
  rw [List.foldl_append]
  rfl
theorem sup_fold (D : List Nat) (b i : Nat) : ∀ a : Nat, (D.foldl (fun f k => if k &&& b = k then f ||| k else f) a).testBit i = true ↔ a.testBit i = true ∨ ∃ k ∈ D, Within k b ∧ k.testBit i = true := by
  induction D with
  | nil => intro a; simp
  | cons k r ih =>
    intro a
    rw [List.foldl_cons, ih]
    by_cases h : k &&& b = k
    · rw [if_pos h, Nat.testBit_or, Bool.or_eq_true]
      have hw := within_iff.mpr h
      constructor
      · rintro ((e | e) | ⟨k', h1, h2, h3⟩)
        · exact .inl e
        · exact .inr ⟨k, List.mem_cons_self, hw, e⟩
        · exact .inr ⟨k', List.mem_cons_of_mem _ h1, h2, h3⟩
      · rintro (e | ⟨k', h1, h2, h3⟩)
        · exact .inl (.inl e)
        · rcases List.mem_cons.mp h1 with q | q
          · exact .inl (.inr (q ▸ h3))
          · exact .inr ⟨k', q, h2, h3⟩
    · rw [if_neg h]
      constructor
      · rintro (e | ⟨k', h1, h2, h3⟩)
        · exact .inl e
        · exact .inr ⟨k', List.mem_cons_of_mem _ h1, h2, h3⟩
      · rintro (e | ⟨k', h1, h2, h3⟩)
        · exact .inl e
        · rcases List.mem_cons.mp h1 with q | q
          · exact absurd (within_iff.mp (q ▸ h2)) h
          · exact .inr ⟨k', q, h2, h3⟩
theorem supOf_bit {D : List Nat} {b i : Nat} : (supOf D b).testBit i = true ↔ ∃ k ∈ D, Within k b ∧ k.testBit i = true := by
  unfold supOf
  rw [sup_fold]
  simp
/-- the join of the kinds within a lot, by the kinds themselves -/
def Join (ks : List (List Nat)) (lot : List Nat) (s : Nat) : Prop := ∃ k ∈ ks, s ∈ k ∧ ∀ t ∈ k, t ∈ lot
theorem sup_join {D : List Nat} {ks : List (List Nat)} (r : Rep D ks) {lot : List Nat} {i : Nat} : (supOf D (bitsOf lot)).testBit i = true ↔ Join ks lot i := by
  rw [supOf_bit]
  constructor
  · rintro ⟨b, hb, hw, hi⟩
    obtain ⟨k, hk, rfl⟩ := (r b).mp hb
    refine ⟨k, hk, by rw [bitsOf_bit] at hi; exact of_decide_eq_true hi, fun t ht => ?_⟩
    have h2 := hw t (by rw [bitsOf_bit]; exact decide_eq_true ht)
    rw [bitsOf_bit] at h2
    exact of_decide_eq_true h2
  · rintro ⟨k, hk, hi, ha⟩
    refine ⟨bitsOf k, (r _).mpr ⟨k, hk, rfl⟩, fun t ht => ?_, by rw [bitsOf_bit]; exact decide_eq_true hi⟩
    rw [bitsOf_bit] at ht ⊢
    exact decide_eq_true (ha t (of_decide_eq_true ht))
theorem sup_up {D : List Nat} {ks : List (List Nat)} {bd : List Nat} (r : Rep D ks) (hk : KindsOk bd.length ks) {l i : Nat} : (supOf D (lotAt bd l)).testBit i = true ↔ Up ks bd l i := by
  unfold lotAt
  rw [sup_join r]
  constructor
  · rintro ⟨k, h1, h2, h3⟩
    refine ⟨k, h1, h2, fun t ht => ?_⟩
    have := List.mem_filter.mp (h3 t ht)
    exact of_decide_eq_true this.2
  · rintro ⟨k, h1, h2, h3⟩
    exact ⟨k, h1, h2, fun t ht => List.mem_filter.mpr ⟨List.mem_range.mpr ((hk k h1).2.2 t ht), decide_eq_true (h3 t ht)⟩⟩
/-- level by level -/
def Climb (D : List Nat) (bd : List Nat) (m : Nat) : Prop := ∀ l, l < m → Within (lotAt bd (l + 1)) (supOf D (lotAt bd l))
theorem climb_due {D : List Nat} {ks : List (List Nat)} {bd : List Nat} (r : Rep D ks) (hk : KindsOk bd.length ks) {m : Nat} (hm : ∀ s, s < bd.length → at_ bd s ≤ m) : Climb D bd m ↔ Due ks bd := by
  constructor
  · intro h l s hs hl
    have hlm : l < m := Nat.lt_of_lt_of_le hl (hm s hs)
    exact (sup_up r hk).mp (h l hlm s (lotAt_bit.mpr ⟨hs, hl⟩))
  · intro h l hl i hi
    obtain ⟨h1, h2⟩ := lotAt_bit.mp hi
    exact (sup_up r hk).mpr (h l i h1 h2)
/-- one look, by bits -/
def Gives (D : List Nat) (bd : List Nat) : Prop := ∀ s, s < bd.length → 0 < at_ bd s → ∃ b ∈ D, b.testBit s = true ∧ ∀ t, b.testBit t = true → at_ bd s ≤ at_ bd t + 1
theorem gives_looked {D : List Nat} {ks : List (List Nat)} {bd : List Nat} (r : Rep D ks) : Gives D bd ↔ Looked ks bd := by
  constructor
  · intro h s hs h0
    obtain ⟨b, hb, h1, h2⟩ := h s hs h0
    obtain ⟨k, hk, rfl⟩ := (r b).mp hb
    rw [bitsOf_bit] at h1
    exact ⟨k, hk, of_decide_eq_true h1, fun t ht => h2 t (by rw [bitsOf_bit]; exact decide_eq_true ht)⟩
  · intro h s hs h0
    obtain ⟨k, hk, h1, h2⟩ := h s hs h0
    refine ⟨bitsOf k, (r _).mpr ⟨k, hk, rfl⟩, by rw [bitsOf_bit]; exact decide_eq_true h1, fun t ht => ?_⟩
    rw [bitsOf_bit] at ht
    exact h2 t (of_decide_eq_true ht)

/-! ### the walk -/
theorem at_set {bd : List Nat} {s t v : Nat} (hs : s < bd.length) : at_ (bd.set s v) t = if t = s then v else at_ bd t := by
  unfold at_
  rw [List.getD_eq_getElem?_getD, List.getD_eq_getElem?_getD, List.getElem?_set]
  by_cases h : s = t
  · subst h
    rw [if_pos rfl, if_pos rfl, if_pos hs]
    rfl
  · rw [if_neg h, if_neg fun e => h e.symm]
/-- a delivery to a shelf that holds least -/
theorem looked_put {ks : List (List Nat)} {bd : List Nat} {k : List Nat} {s : Nat} (h : Looked ks bd) (hk : k ∈ ks) (hs : s ∈ k) (hl : s < bd.length) (hm : ∀ t ∈ k, at_ bd s ≤ at_ bd t) : Looked ks (bd.set s (at_ bd s + 1)) := by
  intro u hu h0
  rw [List.length_set] at hu
  rw [at_set hl] at h0 ⊢
  have up : ∀ t, at_ bd t ≤ at_ (bd.set s (at_ bd s + 1)) t := fun t => by
    rw [at_set hl]
    split
    · rename_i e; rw [e]; omega
    · exact Nat.le_refl _
  by_cases e : u = s
  · rw [if_pos e]
    refine ⟨k, hk, e ▸ hs, fun t ht => ?_⟩
    have h1 := hm t ht
    have h2 := up t
    omega
  · rw [if_neg e] at h0 ⊢
    obtain ⟨k', h1, h2, h3⟩ := h u hu h0
    refine ⟨k', h1, h2, fun t ht => ?_⟩
    have h4 := h3 t ht
    have h5 := up t
    omega
theorem looked_zero (ks : List (List Nat)) (n : Nat) : Looked ks (List.replicate n 0) := by
  intro s hs h0
  rw [List.length_replicate] at hs
  exfalso
  unfold at_ at h0
  rw [List.getD_eq_getElem?_getD, List.getElem?_replicate, if_pos hs] at h0
  exact absurd h0 (by decide)
theorem at_get {bd : List Nat} {s : Nat} (h : s < bd.length) : bd[s]? = some (at_ bd s) := by
  unfold at_
  rw [List.getD_eq_getElem?_getD, List.getElem?_eq_getElem h]
  rfl
/-- truth of a proposition, as a Bool -/
noncomputable def dB (p : Prop) : Bool := @decide p (Classical.propDecidable p)
theorem dB_iff {p : Prop} : dB p = true ↔ p := @decide_eq_true_iff p (Classical.propDecidable p)
theorem dB_pos {p : Prop} (h : p) : dB p = true := dB_iff.mpr h
theorem dB_neg {p : Prop} (h : ¬ p) : dB p = false := by
  cases e : dB p with
  | false => rfl
  | true => exact absurd (dB_iff.mp e) h
theorem dB_congr {p q : Prop} (h : p ↔ q) : dB p = dB q := by
  rw [propext h]
theorem dB_is {p : Prop} {b : Bool} (h : b = true ↔ p) : b = dB p := by
  cases b with
  | true => exact (dB_pos (h.mp rfl)).symm
  | false => exact (dB_neg fun hp => Bool.noConfusion (h.mpr hp)).symm
end K61

/-! Rules of my own over the hand layer: a sequence (list or tuple) walked, its greatest int, sorted of rows, set of a sequence. -/
namespace K61
open PySem PySem.Spec PyProof.Rows L2

/-- a list or a tuple that is read -/
def Sq (K : PySem.W.Frag) (H : Hp) (a : Addr) (xs : List V) : Prop := SqL K H a xs ∨ SqT K H a xs

section
variable {X : Cx}
/-! ### walking a sequence -/
def iSeq (K : PySem.W.Frag) (tl : TE) : TI := fun σ H R => tl σ H fun x H1 => ∃ (a : Addr) (xs : List V), x = .ref a ∧ ((SqL K H1 a xs ∧ R (Itl K a) H1) ∨ (SqT K H1 a xs ∧ R (Itt K a) H1))
theorem pi_seq {tg l : Expr} {tl : TE} (hl : PE X l tl) : PI X tg l (iSeq X.K tl) := by
  refine ⟨fun pins s σ H R I h => ?_⟩
  -- which of the two it is, is known only behind the expression: both rules are run from its value
  have key : ∀ (v : Value) (s1 : Shared), EP X pins σ (fun x H1 => ∃ (a : Addr) (xs : List V), x = .ref a ∧ ((SqL X.K H1 a xs ∧ R (Itl X.K a) H1) ∨ (SqT X.K H1 a xs ∧ R (Itt X.K a) H1))) v s1 →
      wpAny (model X.prog X.w) X.A (pyIter v) (PIE X pins σ tg R) X.xe s1 := by
    rintro v s1 ⟨x, H1, I1, r1, a, xs, rfl, c⟩
    cases r1
    rcases c with ⟨hq, q⟩ | ⟨hq, q⟩
    · obtain ⟨its, rv, p, hz⟩ := I1.list hq
      refine wpAny_pyIter_list p.isList ⟨s1.heap.objs.size, [s1.heap.objs.size], _, _, H1, rfl, I1.kept (t' := s1.toks) fun b o e => Heap.get?_push_of_some _ e, turn_list a _, ⟨_, Heap.get?_push_size _ rfl, rfl, rfl⟩, ?_, q⟩
      intro b hb
      cases List.mem_singleton.mp hb
      exact I1.fpOk (Nat.le_refl _) (I1.hok.fresh (Nat.le_refl _))
    · obtain ⟨its, rv, p, hz⟩ := I1.tuple hq
      refine wpAny_pyIter_tuple (items := its.toArray) p ⟨s1.heap.objs.size, [s1.heap.objs.size], _, _, H1, rfl, I1.kept (t' := s1.toks) fun b o e => Heap.get?_push_of_some _ e, turn_tuple a _, ⟨_, Heap.get?_push_size _ rfl, rfl, rfl⟩, ?_, q⟩
      intro b hb
      cases List.mem_singleton.mp hb
      exact I1.fpOk (Nat.le_refl _) (I1.hok.fresh (Nat.le_refl _))
  exact thn (hl.run pins s σ H _ I h) key

/-! ### max of a sequence of ints -/
def rMaxS (K : PySem.W.Frag) : List V → Hp → VK → Prop := fun vs H Q => ∃ (a : Addr) (ns : List Int), vs = [V.ref a] ∧ Sq K H a (ns.map V.int) ∧ ns ≠ [] ∧ ∀ m, m ∈ ns → (∀ y, y ∈ ns → y ≤ m) → Q (.int m) H
theorem readsAll_ints {h : Heap} : ∀ {ns : List Int} {its : List Value}, Vals (ns.map V.int) its → ReadsAll h its (ns.map PyData.int) []
  | [], _, .nil => .nil
  | n :: ns, _, .cons r t => by
    obtain ⟨tk, rfl⟩ := r
    exact .cons (as := []) (bs := []) (.int n tk) (readsAll_ints t)
theorem top_fold : ∀ (xs : List Int) (x : Int), (PySem.W.maxOf x xs ∈ x :: xs) ∧ ∀ y ∈ x :: xs, y ≤ PySem.W.maxOf x xs
  | [], x => ⟨List.mem_cons_self, fun y hy => by rw [List.mem_singleton.mp hy]; exact Int.le_refl _⟩
  | z :: xs, x => by
    have step : PySem.W.maxOf x (z :: xs) = PySem.W.maxOf (if decide (x < z) = true then z else x) xs := rfl
    rw [step]
    by_cases h : x < z
    · rw [if_pos (decide_eq_true h)]
      obtain ⟨h1, h2⟩ := top_fold xs z
      refine ⟨List.mem_cons_of_mem _ h1, fun y hy => ?_⟩
      rcases List.mem_cons.mp hy with e | e
      · have := h2 z List.mem_cons_self
        rw [e]
        omega
      · exact h2 y e
    · rw [if_neg (by rw [decide_eq_true_eq]; exact h)]
      obtain ⟨h1, h2⟩ := top_fold xs x
      constructor
      · rcases List.mem_cons.mp h1 with e | e
        · rw [e]
          exact List.mem_cons_self
        · exact List.mem_cons_of_mem _ (List.mem_cons_of_mem _ e)
      · intro y hy
        rcases List.mem_cons.mp hy with e | e
        · rw [e]
          exact h2 x List.mem_cons_self
        · rcases List.mem_cons.mp e with e | e
          · have := h2 x List.mem_cons_self
            rw [e]
            omega
          · exact h2 y (List.mem_cons_of_mem _ e)
theorem cr_maxS (hc : X.calm = true) (hu : X.A.units + 64 < cLine) : CallR X (.builtin "max") (rMaxS X.K) := by
  intro pins s σ H vs us Q I r h
  obtain ⟨a, ns, rfl, hs, hne, q⟩ := h
  rcases hs with hs | hs
  · exact cr_max hc pins s σ H _ us Q I r ⟨a, ns, rfl, hs, List.length_pos_iff.mpr hne, q⟩
  · obtain ⟨its, rv, ht, _⟩ := I.tuple hs
    rw [Vals.ref1 r]
    cases ns with
    | nil => exact absurd rfl hne
    | cons x xs =>
      have hold : PySem.W.HoldAll s.heap its.toArray.toList (x :: xs) := ⟨[], (readsAll_ints rv : ReadsAll s.heap its ((x :: xs).map PyData.int) [])⟩
      refine PySem.W.max_tuple_datum (I.ok.hd hc) ht hold (by show X.A.units + 1 + 0 < cLine; omega) fun i v h' tk _ hv hk => ?_
      obtain ⟨as, hr⟩ := hv
      have hr' : Reads h' v (.int (PySem.W.maxOf x xs)) as := hr
      cases hr' with
      | int _ t =>
        obtain ⟨h1, h2⟩ := top_fold xs x
        exact ⟨.int _, H, I.kept (t' := tk) hk, ⟨t, rfl⟩, q _ h1 h2⟩

/-! ### sorted of rows of ints -/
/-- each value is a list of ints -/
def Rows (K : PySem.W.Frag) (H : Hp) (xs : List V) : Prop := ∀ x ∈ xs, ∃ (p : Addr) (ns : List Int), x = .ref p ∧ SqL K H p (ns.map V.int)
def rSortedR (K : PySem.W.Frag) : List V → Hp → VK → Prop := fun vs H Q => ∃ (a : Addr) (xs : List V), vs = [V.ref a] ∧ SqL K H a xs ∧ Rows K H xs ∧ ∀ (ys : List V) (p : Addr), ys.Perm xs → H p = none → Q (.ref p) (upd H p (.lst ys))
theorem row_reads {pins : List (Addr × Obj)} {σ : L2.St} {H : Hp} {s : Shared} (I : Inv X pins σ H s) {p : Addr} {ns : List Int} (h : SqL X.K H p (ns.map V.int)) : Reads s.heap (.ref p) (.list (ns.map PyData.int)) [p] := by
  obtain ⟨its, rv, ⟨o, n, ho, hc, _, hd⟩, _⟩ := I.list h
  exact .list ho hc hd (readsAll_ints rv)
theorem rows_each {pins : List (Addr × Obj)} {σ : L2.St} {H : Hp} {s : Shared} (I : Inv X pins σ H s) : ∀ {xs : List V} {its : List Value}, Vals xs its → Rows X.K H xs →
    ∃ bs : List (V × List Int), bs.map (·.1) = xs ∧ PySem.W.EachIs (fun v b => RelV b.1 v) its bs ∧ PySem.W.EachIs (fun v b => ∃ as, Reads s.heap v (.list (b.2.map PyData.int)) as) its bs
  | [], _, .nil, _ => ⟨[], rfl, .nil, .nil⟩
  | x :: xs, _, .cons r t, hr => by
    obtain ⟨bs, e1, e2, e3⟩ := rows_each I t fun y hy => hr y (List.mem_cons_of_mem _ hy)
    obtain ⟨p, ns, rfl, hp⟩ := hr x List.mem_cons_self
    refine ⟨(.ref p, ns) :: bs, by rw [List.map_cons, e1], .cons r e2, .cons ⟨[p], ?_⟩ e3⟩
    cases r
    exact row_reads I hp
theorem vals_each {out : List Value} {bs : List (V × List Int)} (e : PySem.W.EachIs (fun v b => RelV b.1 v) out bs) : Vals (bs.map (·.1)) out := by
  induction e with
  | nil => exact .nil
  | cons h _ ih => exact .cons h ih
theorem row_alike (ns ms : List Int) : PySem.W.alike (.list (ns.map PyData.int)) (.list (ms.map PyData.int)) = true := by
  rw [PySem.W.alike]
  exact PySem.W.alike_ints ns ms
theorem row_other (ns : List Int) : PyData.list (ns.map PyData.int) ≠ .none ∧ ∀ xs, PyData.list (ns.map PyData.int) ≠ .tuple xs := by
  constructor
  · intro z
    cases z
  · intro xs z
    cases z
theorem cr_sortedR (hu : X.A.units + 64 < cLine) : CallR X (.builtin "sorted") (rSortedR X.K) := by
  intro pins s σ H vs us Q I r h
  obtain ⟨a, xs, rfl, hs, hr, q⟩ := h
  obtain ⟨its, rv, hl, hz⟩ := I.list hs
  rw [Vals.ref1 r]
  obtain ⟨bs, e1, e2, e3⟩ := rows_each I rv hr
  have hbl : bs.length = xs.length := by rw [← e1, List.length_map]
  refine PySem.W.sorted_data (R := fun v (b : V × List Int) => RelV b.1 v) (enc := fun b => .list (b.2.map PyData.int)) hl.isList e2 e3
    (PySem.W.AllAlike.of fun b b' => row_alike b.2 b'.2) (PySem.W.Sortable.others fun b => row_other b.2) (by rw [hbl]; exact hz) (fun b _ => ?_) fun out ho eo => ?_
  · have hd : (PyData.list (b.2.map PyData.int)).depth = 1 := by
      show PyData.depthAll (b.2.map PyData.int) + 1 = 1
      rw [PySem.W.depth_ints]
    rw [hd]
    omega
  · obtain ⟨ep, he⟩ := PyProof.Rows.sortedAll_at s.heap its out.toArray
    have hp := ((List.mergeSort_perm bs (PySem.W.dataLe false fun b : V × List Int => .list (b.2.map PyData.int))).map (·.1))
    rw [e1] at hp
    refine ⟨.ref (s.heap.objs.size + 1), _, I.laid (a := s.heap.objs.size + 1) (t' := s.toks) (fun _ _ z => PyProof.Rows.sortedAll_old z) (Nat.le_succ _) ?_, rfl, q _ _ hp (I.hok.fresh (Nat.le_succ _))⟩
    exact ⟨by rw [hp.length_eq]; exact hz, out, ep, vals_each eo, he⟩
end
end K61

/-! set(..) of a list of ints -/
namespace K61
open PySem PySem.Spec PyProof.Rows L2
section
variable {P : Program} {w : World} {A : Around} {E : Value → Shared → Prop} {s : Shared}
/-- the object that set(..) begins with -/
abbrev blank (w : World) : Obj := { cls := .type "set", dict := none, data := .set #[] 0 (.fresh 0 0 (!w.params.followText "set-order")) }
/-- T(args): what __new__ gives, then __init__ whose own check is shown apart -/
theorem made_by {T newId initId : String} {Bi : Builtin} {args : List Value} {Q Q₁ : Value → Shared → Prop} (ft : TypeCalled T newId initId) (hct : checkTypeCall T ⟨args, []⟩ = pure ()) (entryI : entryFor table initId = some Bi)
    (hnew : codeAny (model P w) A.in1 (.call (.builtin newId) ⟨.type T :: args, []⟩) (wants Q₁ E) s)
    (hnext : ∀ obj s₁, Q₁ obj s₁ → codeAny (model P w) A.in1 (.call (.builtin initId) ⟨obj :: args, []⟩) (wants (fun r s₂ => r = .none ∧ Q obj s₂) E) s₁ ∧ s₁.TypeIs obj T) :
    wpAny (model P w) A (call (.type T) args) Q E s := by
  have way := ft.mro
  obtain ⟨c, tl, hmro⟩ := way
  have q1 := ft.made; have q2 := ft.sub; have q3 := ft.notType; have q4 := ft.canCreate
  refine wpAny_call (codeAny_of_tree (show wpAny _ _ (callAny (.type T) _) _ _ _ from ?_))
  refine wpAny_pure ⟨Code.quiet_builtin _ (by decide +kernel), codeAny_builtin F.entry_type_call ?_⟩
  rw [Around.under_plain (weight_type_call_type T args []) rfl]
  repeat (any_goals (first | assumption | wp_step))
  refine codeAny_mono hnew fun r s₁ hr => ?_
  match r, hr with
  | .error e, hr => exact hr
  | .ok .next, hr => exact hr.elim
  | .ok .brk, hr => exact hr.elim
  | .ok .cont, hr => exact hr.elim
  | .ok (.ret obj), hr =>
    obtain ⟨hi, hT⟩ := hnext obj s₁ hr
    have q5 := ft.init.lookup; have q6 := ft.init.bind obj
    repeat (any_goals (first | assumption | wp_step))
    refine codeAny_mono hi fun r₂ s₂ hr₂ => ?_
    match r₂, hr₂ with
    | .error e, hr₂ => exact hr₂
    | .ok .next, hr₂ => exact hr₂.elim
    | .ok .brk, hr₂ => exact hr₂.elim
    | .ok .cont, hr₂ => exact hr₂.elim
    | .ok (.ret r), hr₂ =>
      obtain ⟨rfl, hq⟩ := hr₂
      repeat (any_goals (first | assumption | wp_step))
theorem set_from_list {l : Addr} {items : Array Value} (ns : List Int) {Q : Value → Shared → Prop} (hh : A.handled = none) (hl : s.heap.IsList l items) (hi : IntsAre items.toList ns) (hb : ns.length + 1 < scanBound)
    (h : ∀ (h' : Heap) (tk c : Nat), SetR w h' s.heap.objs.size (fun j => decide (j ∈ ns)) c → c ≤ ns.length → (∀ b o, s.heap.get? b = some o → h'.get? b = some o) → Q (.ref s.heap.objs.size) { s with heap := h', toks := tk }) :
    wpAny (model P w) A (call (.type "set") [.ref l]) Q E s := by
  obtain ⟨⟨ocls, odict, odata, oslots⟩, hol, hcl, nl, hdl⟩ := id hl
  simp only at hcl hdl
  subst hcl hdl
  have hls : l < s.heap.objs.size := Heap.lt_size hol
  have size1 : (s.heap.push (blank w)).objs.size = s.heap.objs.size + 1 := Heap.size_push ..
  have at0 : (s.heap.push (blank w)).get? s.heap.objs.size = some (blank w) := Heap.get?_push_size _ rfl
  have isz : items.size = ns.length := by
    have q := hi.length
    rw [Array.length_toList] at q
    exact q
  refine made_by (Q₁ := fun obj s₁ => obj = .ref s.heap.objs.size ∧ s₁ = { s with heap := s.heap.push (blank w) }) F.called_set (F.typeCall_set_1 _) F.entry_set_init (code_set_led1 _ ⟨rfl, rfl⟩) ?_
  rintro _ _ ⟨rfl, rfl⟩
  have ty : Shared.TypeIs { s with heap := s.heap.push (blank w) } (.ref s.heap.objs.size) "set" := ⟨_, at0, rfl⟩
  refine ⟨codeAny_call_builtin F.called_set.init.plain F.entry_set_init (check_set_init_1 ty ?_), ty⟩
  have hol1 : (s.heap.push (blank w)).get? l = some ⟨.type "list", odict, .seq items nl, oslots⟩ := Heap.get?_push_of_some _ hol
  have hl1 : (s.heap.push (blank w)).IsList l items := ⟨_, hol1, rfl, nl, rfl⟩
  have n1 := F.sub_list_set; have n2 := F.sub_list_frozenset
  have n3 : (Value.type "list" == Value.type "dict") = false := by decide
  unfold Builtin.«set.__init__» noKeywords Builtin.Frozenset.updateFrom
  generalize hPI : pyIter = PI
  wp_walk
  subst hPI
  refine wpAny_pyIter_list hl1 (wpAny_bind (wpAny_runValue ?_))
  have hne : l ≠ (s.heap.push (blank w)).objs.size := by rw [size1]; exact Nat.ne_of_lt (Nat.lt_succ_of_lt hls)
  have hh3 : A.in1.in1.in1.handled = none := hh
  refine set_update_ints ((Walks.list hh3 _ l hne items).toS) s.heap.objs.size ?_ ns isz hb (fun i v hv => ?_) items.size 0 _ (Nat.sub_zero _) (Nat.zero_le _) ⟨⟨_, Heap.get?_push_size _ rfl, rfl, rfl⟩, hl1.push _⟩ ⟨0, Nat.le_refl 0, setR_new_at (Heap.get?_push_of_some _ at0)⟩ ?_
  · intro m
    rw [size1] at m
    rcases List.mem_cons.mp m with e | e
    · exact Nat.ne_of_lt (Nat.lt_succ_self _) e
    · exact Nat.ne_of_gt hls (List.mem_singleton.mp e)
  · obtain ⟨t, e⟩ := PyProof.Rows.IntsAre.int_at hi i v (by rw [Array.getElem?_toList]; exact hv)
    have hin : i < ns.length := by rw [← isz]; exact (Array.getElem?_eq_some_iff.mp hv).1
    rw [List.getD_eq_getElem?_getD, List.getElem?_eq_getElem hin] at e
    exact ⟨ns[i], t, List.getElem?_eq_getElem hin, e⟩
  · rintro ⟨h', g2, d', tk', os'⟩ c' hm hc' hS'
    obtain rfl : g2 = s.gens := hm.gens
    obtain rfl : d' = s.drawn := hm.drawn
    obtain rfl : os' = s.os := hm.os
    refine wpAny_pure (show wpAny _ _ (ret Value.none) _ _ _ from wpAny_pure ⟨rfl, h h' tk' c' hS' (by rw [← isz]; exact hc') fun b o e => ?_⟩)
    have hb0 : b < s.heap.objs.size := Heap.lt_size e
    refine hm.heap b o ?_ (Heap.get?_push_of_some _ (Heap.get?_push_of_some _ e))
    intro m
    rw [size1] at m
    rcases List.mem_cons.mp m with q | q
    · exact Nat.ne_of_lt hb0 q
    · exact Nat.ne_of_lt (Nat.lt_succ_of_lt hb0) (List.mem_singleton.mp q)
end
section
variable {X : Cx}
/-- set(xs), xs a list or a tuple of ints -/
def rSetS (K : PySem.W.Frag) (w : World) : List V → Hp → VK → Prop := fun vs H Q => ∃ (p : Addr) (ns : List Int), vs = [V.ref p] ∧ Sq K H p (ns.map V.int) ∧ ns.length ≤ 1000 ∧
  ∀ (a : Addr) (n : Nat), H a = none → n ≤ ns.length → (ns.Nodup → n = ns.length) → Q (.ref a) (upd H a (SetO w a (fun j => decide (j ∈ ns)) n))
theorem set_count {w : World} {h : Heap} {a : Addr} {ns : List Int} {c : Nat} (R : SetR w h a (fun j => decide (j ∈ ns)) c) (nd : ns.Nodup) : c = ns.length := by
  obtain ⟨o, es, ep, t, _, _, _, _, hd, hm, _, _, hc, _⟩ := R
  have e : (es.toList.map keyOf).Perm ns := (List.perm_ext_iff_of_nodup hd nd).mpr fun k => by
    rw [← hm k, decide_eq_true_eq]
  have e2 := e.length_eq
  rw [List.length_map, Array.length_toList] at e2
  omega
theorem cr_setS (hc : X.calm = true) : CallR X (.type "set") (rSetS X.K X.w) := by
  intro pins s σ H vs us Q I r h
  obtain ⟨p, ns, rfl, hs, hz, q⟩ := h
  rw [Vals.ref1 r]
  have fin : ∀ (h' : Heap) (tk c : Nat), SetR X.w h' s.heap.objs.size (fun j => decide (j ∈ ns)) c → c ≤ ns.length → (∀ b o, s.heap.get? b = some o → h'.get? b = some o) → EP X pins σ Q (.ref s.heap.objs.size) { s with heap := h', toks := tk } := fun h' tk c R hcn k =>
    ⟨.ref s.heap.objs.size, _, I.laid (t' := tk) k (Nat.le_refl _) (setO_new R), rfl, q _ c (I.hok.fresh (Nat.le_refl _)) hcn (set_count R)⟩
  have hb : ns.length + 1 < scanBound := by unfold scanBound; omega
  rcases hs with hs | hs
  · obtain ⟨its, rv, hl, _⟩ := I.list hs
    exact set_from_list ns (I.ok.hd hc) hl.isList (ints_of_vals rv : IntsAre its.toArray.toList ns) hb fin
  · obtain ⟨its, rv, ht, _⟩ := I.tuple hs
    exact call_set_tupI ns (I.ok.hd hc) (show s.heap.IsTuple p its.toArray from ht) (ints_of_vals rv : IntsAre its.toArray.toList ns) hb fin
end
end K61

/-! enumerate(..) of a tuple, and of a list or a tuple -/
namespace K61
open PySem PySem.Spec PyProof.Rows L2
/-- a new enumerate object over the iterator at it -/
abbrev enumObj (it : Addr) : Obj := { cls := .type "enumerate", data := .fields #[.none, .bool false, .ref it, rawInt 0, .none, .none] }
theorem enum_new1 {v : Value} {o : Obj} {Z : Heap → Prop} (B : Begins v o Z) :
    Meets (Builtin.«enumerate.__new__» ⟨[.type "enumerate", v], []⟩) (fun _ R s => Z s.heap ∧ R (.ok (.ret (.ref (s.heap.push o).objs.size))) { s with heap := (s.heap.push o).push (enumObj s.heap.objs.size) }) :=
  .of_wp fun prog w A R s h => by
    obtain ⟨hp, g, d, tk, os⟩ := s
    obtain ⟨hz, h⟩ := h
    have own := sub_enumerate
    have it1 : ∀ {A' : Around} {E : Value → Shared → Prop} {Q : Value → Shared → Prop}, Q (.ref hp.objs.size) ⟨hp.push o, g, d, tk, os⟩ → wpAny (model prog w) A' (pyIter v) Q E ⟨hp, g, d, tk, os⟩ := fun q => B.iter prog w _ _ ⟨hp, g, d, tk, os⟩ _ hz q
    wp_walk using it1
    refine wpAny_stack_any fun st => wpAny_pure ?_
    split
    case h_1 c _ _ _ _ _ =>
      cases (c == Value.type "enumerate") <;> (wp_walk using it1; exact ⟨_, rfl, h⟩)
    all_goals (wp_walk using it1; exact ⟨_, rfl, h⟩)
section
variable {prog : Program} {w : World} {A : Around} {E : Value → Shared → Prop} {s : Shared}
theorem enum_call1 {v : Value} {o : Obj} {Z : Heap → Prop} {Q : Value → Shared → Prop} (B : Begins v o Z) (hz : Z s.heap)
    (h : ∀ h', IsEnum h' (s.heap.objs.size + 1) s.heap.objs.size 0 .none → h'.get? s.heap.objs.size = some o → (∀ b o, s.heap.get? b = some o → h'.get? b = some o) → Q (.ref (s.heap.objs.size + 1)) { s with heap := h' }) :
    wpAny (model prog w) A (call (.type "enumerate") [v]) Q E s := by
  refine callType_new F.called_enumerate (by decide) (F.typeCall_enumerate_1 _) (F.newCall_enumerate_1 _) (fun obj => F.args_object_init_2 obj _) F.entry_enumerate_new (enum_new1 B) ⟨hz, ?_⟩
  have e1 : (s.heap.push o).objs.size = s.heap.objs.size + 1 := Heap.size_push ..
  have e2 : ((s.heap.push o).push (enumObj s.heap.objs.size)).get? (s.heap.push o).objs.size = some (enumObj s.heap.objs.size) := Heap.get?_push_size _ rfl
  show _ ∧ _
  rw [e1] at e2 ⊢
  exact ⟨⟨_, e2, rfl⟩, h _ e2 (Heap.get?_push_of_some _ (Heap.get?_push_size _ B.free)) fun b o x => Heap.get?_push_of_some _ (Heap.get?_push_of_some _ x)⟩
end
/-- a tuple's items with their places, each in a new pair -/
def IteT (K : PySem.W.Frag) (a : Addr) : It :=
  ⟨fun i H => ∃ (xs : List V) (x : V), SqT K H a xs ∧ xs[i]? = some x, fun i H v H' => ∃ T x, v = .ref T ∧ H T = none ∧ H' = upd H T (.tup [.int (i : Nat), x]) ∧ ∀ xs, SqT K H a xs → xs[i]? = some x, fun i H => ∃ xs : List V, SqT K H a xs ∧ xs.length = i⟩
theorem cls_ne {h : Heap} {a b : Addr} {o u : Obj} {x y : String} (e1 : h.get? a = some o) (c1 : o.cls = .type x) (e2 : h.get? b = some u) (c2 : u.cls = .type y) (d : x ≠ y) : a ≠ b := by
  rintro rfl
  rw [e1] at e2
  cases e2
  rw [c1] at c2
  exact d (Value.type.inj c2)
theorem turn_enumT {P : Program} {w : World} {K : PySem.W.Frag} {elts : List Expr} {kk : Nat} {tpos : Pos} (a e it : Addr) :
    Turn P w K (.Tuple elts kk tpos) (IteT K a) [e, it] e (fun i h => (∃ old, IsEnum h e it ((i : Nat) : Int) old) ∧ h.IsTupleIter it a i) where
  mem := List.mem_cons_self
  obj := by
    rintro i h ⟨⟨old, he⟩, o, ho, _, hd⟩ b hb
    rcases List.mem_cons.mp hb with rfl | hb
    · exact ⟨_, he, fun v q => nomatch q⟩
    · rw [List.mem_singleton.mp hb]
      exact ⟨o, ho, fun v q => by rw [hd] at q; cases q⟩
  keep := by
    rintro i h h' ⟨⟨old, he⟩, hi⟩ k
    exact ⟨⟨old, k e List.mem_cons_self _ he⟩, hi.at fun o q => k it (List.mem_cons_of_mem _ List.mem_cons_self) o q⟩
  item := by
    intro X hP hw hK hc i pins s σ H E I hf st hg
    subst hP hw hK
    obtain ⟨⟨old, he⟩, hit⟩ := st
    obtain ⟨xs, x, hq, hx⟩ := hg
    obtain ⟨its, rv, ht, hz⟩ := I.tuple hq
    obtain ⟨u, hu, ru⟩ := rv.get hx
    obtain ⟨ot, h1, h2, _⟩ := id ht
    obtain ⟨oi, h3, h4, _⟩ := id hit
    have nai : a ≠ it := cls_ne h1 h2 h3 h4 (by decide)
    have nei : e ≠ it := cls_ne he rfl h3 h4 (by decide)
    have nea : e ≠ a := cls_ne he rfl h1 h2 (by decide)
    have hin : i < its.toArray.size := by
      rw [List.size_toArray]
      exact (List.getElem?_eq_some_iff.mp hu).1
    have D := Draws.tuple (prog := X.prog) (w := X.w) (A := X.A.in1) (show X.A.in1.handled = none from I.ok.hd hc) it a nai its.toArray
    refine wpAny_pyNext_enum_itemD D he ⟨hit, ht⟩ hin nei (by
      intro m
      rcases List.mem_cons.mp m with q | q
      · exact nei q
      · exact nea (List.mem_singleton.mp q)) fun y h' tk hy ho' hit' hT _ hk => ?_
    have hy' : y = u := by
      have hyu : its.toArray[i]? = some y := hy
      rw [List.getElem?_toArray, hu] at hyu
      exact (Option.some.inj hyu).symm
    subst hy'
    refine ⟨_, rfl, wpAny_letOwnedTupleGo_enum (s := { s with heap := h', toks := tk + 1 }) ho' fun h'' he' sb => ?_⟩
    have el : e < s.heap.objs.size := Heap.lt_size he
    have il : it < s.heap.objs.size := Heap.lt_size h3
    have hT2 := (sb.2 _ (Nat.ne_of_gt el)).trans hT
    have new : ObjOk X.prog X.w (upd H s.heap.objs.size (.tup [.int (i : Nat), x])) h'' s.heap.objs.size (.tup [.int (i : Nat), x]) :=
      ⟨by show 2 ≤ sizeLine; decide, [.int i tk, y], .cons ⟨_, rfl⟩ (.cons ru .nil), ⟨_, hT2, rfl, _, rfl⟩⟩
    have I1 : Inv X pins σ (upd H s.heap.objs.size (.tup [.int (i : Nat), x])) { s with heap := h'', toks := tk + 1 } := by
      refine I.turnedNew (t' := tk + 1) (ch := [e, it]) (fun b ob hb q => ?_) hf (Nat.le_refl _) new
      have hbe : b ≠ e := fun z => hb (z ▸ List.mem_cons_self)
      have hbi : b ≠ it := fun z => hb (z ▸ List.mem_cons_of_mem _ List.mem_cons_self)
      exact (sb.2 b hbe).trans (hk b ob hbe hbi q)
    refine ⟨.ref s.heap.objs.size, _, I1, rfl, ⟨_, x, rfl, I.hok.fresh (Nat.le_refl _), rfl, fun ys hy => by rw [I.tuple_inj hy hq]; exact hx⟩, ⟨⟨y, ?_⟩, hit'.1.at fun o q => (sb.2 it (Ne.symm nei)).trans q⟩, fun b hb => ?_⟩
    · rw [show ((i + 1 : Nat) : Int) = (i : Int) + 1 by omega]
      exact he'
    · have hbl : b < s.heap.objs.size := by
        rcases List.mem_cons.mp hb with z | z
        · exact z ▸ el
        · exact (List.mem_singleton.mp z) ▸ il
      rw [upd_ne (Nat.ne_of_lt hbl)]
      exact (hf b hb).1
  done := by
    intro X hP hw hK hc i pins s σ H E I hf st hg
    subst hP hw hK
    obtain ⟨⟨old, he⟩, hit⟩ := st
    obtain ⟨xs, hq, hx⟩ := hg
    obtain ⟨its, rv, ht, hz⟩ := I.tuple hq
    obtain ⟨ot, h1, h2, _⟩ := id ht
    obtain ⟨oi, h3, h4, _⟩ := id hit
    have nai : a ≠ it := cls_ne h1 h2 h3 h4 (by decide)
    obtain ⟨f0, f1, f2, f3, f4, f5⟩ := hf it (List.mem_cons_of_mem _ List.mem_cons_self)
    have D := Draws.tuple (prog := X.prog) (w := X.w) (A := X.A.in1) (show X.A.in1.handled = none from I.ok.hd hc) it a nai its.toArray
    have hn : i = its.toArray.size := by
      rw [List.size_toArray, ← rv.length, hx]
    refine wpAny_pyNext_enum_endD D he ⟨by rw [← hn]; exact hit, ht⟩ fun h' eb => ⟨rfl, I.turned (t' := s.toks) (fun b o hb q => eb b o hb q) f0 f1 f3 f4 f5⟩
  self := fun A i s Q E st h => wpAny_pyIter_enum st.1.choose_spec h
/-- enumerate of a list or a tuple -/
def iEnumS (K : PySem.W.Frag) (ta : TA) : TI := fun σ H R => ta σ H fun vs H1 => ∃ (a : Addr) (xs : List V), vs = [.ref a] ∧ ((SqL K H1 a xs ∧ R (Ite K a) H1) ∨ (SqT K H1 a xs ∧ R (IteT K a) H1))
theorem pi_enumS {X : Cx} {e : Expr} {ta : TA} {p pos tpos : Pos} {elts : List Expr} {kk : Nat} (hg : Gl X "enumerate") (hm : X.mg "enumerate" = none) (ha : PA X [e] ta) (hs : starEach [e] X.env = [(false, eval e X.env)] := by rfl) :
    PI X (.Tuple elts kk tpos) (.Call (.Name "enumerate" p) [e] [] pos) (iEnumS X.K ta) := by
  refine ⟨fun pins s σ H R I h => ?_⟩
  refine Call_ (ld_blt I hg hm boot_enumerate (PyProof.Rows.callWith_type1 (thn (ha.run pos pins s σ H _ I h) fun us s1 hv => ?_) hs rfl))
  obtain ⟨vs, H1, I1, r1, a, xs, rfl, q⟩ := hv
  rw [Vals.ref1 r1]
  -- the two new cells, whatever was walked
  have cells : ∀ b ∈ [s1.heap.objs.size + 1, s1.heap.objs.size], FpOk X pins H1 b := fun b hb => by
    have hle : s1.heap.objs.size ≤ b := by
      rcases List.mem_cons.mp hb with z | z
      · exact z ▸ Nat.le_succ _
      · exact (List.mem_singleton.mp z) ▸ Nat.le_refl _
    exact I1.fpOk hle (I1.hok.fresh hle)
  rcases q with ⟨hq, q⟩ | ⟨hq, q⟩
  · obtain ⟨its, rv, pl, hz⟩ := I1.list hq
    refine call_enumerate_list pl.isList fun h' he hit _ hk => wpAny_pyIter_enum he ?_
    exact ⟨s1.heap.objs.size + 1, [s1.heap.objs.size + 1, s1.heap.objs.size], _, _, H1, rfl, I1.kept (t' := s1.toks) hk, turn_enum a _ _, ⟨⟨.none, he⟩, hit, Nat.succ_ne_self _⟩, cells, q⟩
  · obtain ⟨its, rv, ht, hz⟩ := I1.tuple hq
    refine enum_call1 (begins_tuple a its.toArray) ht fun h' he hit hk => wpAny_pyIter_enum he ?_
    exact ⟨s1.heap.objs.size + 1, [s1.heap.objs.size + 1, s1.heap.objs.size], _, _, H1, rfl, I1.kept (t' := s1.toks) hk, turn_enumT a _ _, ⟨⟨.none, he⟩, ⟨_, hit, rfl, rfl⟩⟩, cells, q⟩
end K61

/-! repr of a list of ints, where what runs around is known by its guards; calls with keywords alone -/
namespace K61
open PySem PySem.Spec PyProof.Rows L2
/-! ### the guards around may be taken as known -/
theorem know_guards {α : Type} {M : Model} {A : Around} {t : Sem α} {Q : α → Shared → Prop} {E : Value → Shared → Prop} {s : Shared} (h : ∀ g, wpAny M { A with guards := some g } t Q E s) : wpAny M A t Q E s := fun Γ p hΓ =>
  h (Γ.code.guards ++ guardsOf Γ.below) Γ p ⟨hΓ.1, hΓ.2.1, hΓ.2.2.1, fun g hg => Option.some.inj hg, hΓ.2.2.2.2⟩
abbrev gX (X : Cx) (g : List Code) : Cx := { X with A := { X.A with guards := some g } }
section
variable {X : Cx} {g : List Code} {pins : List (Addr × Obj)} {σ : L2.St} {H : Hp} {s : Shared}
theorem ok_g (ok : X.Ok) : (gX X g).Ok :=
  ⟨ok.mod, ok.kind, ok.glob, ok.blt, ok.above, ok.inj, ok.has, ok.cab, ok.hd, ok.frames, ok.stk, ok.exf, ok.bs, ok.bsz, ok.noex, ok.exfs, ok.funs, ok.frf⟩
theorem ok_ug (ok : (gX X g).Ok) : X.Ok :=
  ⟨ok.mod, ok.kind, ok.glob, ok.blt, ok.above, ok.inj, ok.has, ok.cab, ok.hd, ok.frames, ok.stk, ok.exf, ok.bs, ok.bsz, ok.noex, ok.exfs, ok.funs, ok.frf⟩
theorem inv_g (I : Inv X pins σ H s) : Inv (gX X g) pins σ H s := ⟨ok_g I.ok, I.os, I.bare, I.base, I.loc, I.cell, I.free, I.freeC, I.pin, I.hok, I.len⟩
theorem inv_ug (I : Inv (gX X g) pins σ H s) : Inv X pins σ H s := ⟨ok_ug I.ok, I.os, I.bare, I.base, I.loc, I.cell, I.free, I.freeC, I.pin, I.hok, I.len⟩
theorem sp_ug {D : Ends} {f : Flow} {s' : Shared} (h : SP (gX X g) pins D f s') : SP X pins D f s' := by
  cases f with
  | ret u => exact let ⟨v, σ', H', I, r, q⟩ := h; ⟨v, σ', H', inv_ug I, r, q⟩
  | next => exact let ⟨σ', H', I, q⟩ := h; ⟨σ', H', inv_ug I, q⟩
  | brk => exact let ⟨σ', H', I, q⟩ := h; ⟨σ', H', inv_ug I, q⟩
  | cont => exact let ⟨σ', H', I, q⟩ := h; ⟨σ', H', inv_ug I, q⟩
theorem room_g {k : Nat} {A : Around} (r : Room k A) : Room k { A with guards := some g } := ⟨r.hd, r.dp, r.un⟩
/-- a body is walked for each list of guards -/
theorem body_g {body : List Stmt} {D : Ends} (h : ∀ g, ∃ t, PSs (gX X g) body t ∧ t D σ H) : ∃ t, PSs X body t ∧ t D σ H := by
  refine ⟨fun D' σ' H' => ∀ g, (h g).choose D' σ' H', ⟨fun pins s σ' H' D' I hw => know_guards fun g => ?_⟩, fun g => (h g).choose_spec.2⟩
  exact thn ((h g).choose_spec.1.run pins s σ' H' D' (inv_g I) (hw g)) fun f s' q => sp_ug q
end

/-! ### repr -/
/-- a list's repr that is under way -/
def sameLoop (a : Addr) : Code × Pos → Bool
  | (.builtin "list.__repr__.loop" ⟨v :: _, _⟩, _) => Builtin.List.listSameRef v (.ref a)
  | _ => false
def under (g : List Code) (a : Addr) : Bool := g.any fun c => sameLoop a (c, default)
/-- what repr says of a list of ints -/
def said (g : List Code) (a : Addr) (ns : List Int) : Str := if under g a = true then "[...]" else listText (ns.map fun n => (toString n : Str))
section
variable {prog : Program} {w : World} {A : Around} {E : Value → Shared → Prop} {s : Shared} {a : Addr} {g : List Code}
theorem loop_only {a : Addr} : ∀ (c : Code) (p : Pos), c.isGuard = false → sameLoop a (c, p) = false := by
  intro c p hc
  unfold sameLoop
  split
  · next v rest kw q heq =>
    cases heq
    simp [Code.isGuard, guardIds] at hc
  · rfl
theorem loop_pos {a : Addr} : ∀ (c : Code) (p : Pos), sameLoop a (c, p) = sameLoop a (c, default) := by
  intro c p
  unfold sameLoop
  split
  · next v rest kw q heq =>
    cases heq
    rfl
  · next h =>
    split
    · next v rest kw q heq =>
      cases heq
      exact absurd rfl (h v rest kw p)
    · rfl
theorem repr_itself {Q : Value → Shared → Prop} {o : Obj} {x : Value} {l : List Value} {n : Nat} (hg : A.guards = some g) (hu : under g a = true) (hget : s.heap.get? a = some o) (hc : o.cls = .type "list") (hd : o.data = .seq (x :: l).toArray n)
    (h : ∀ u tk, Q (.str "[...]" u) { s with toks := tk }) : wpAny (model prog w) A (call (.builtin "list.__repr__") [.ref a]) Q E s := by
  refine wpAny_call (codeAny_call_builtin_own (Code.quiet_builtin _ (by decide +kernel)) F.entry_list_repr (F.slot_list_repr.check _ _ _ _ _ _ _ _ ⟨o, hget, hc⟩ (F.args_list_repr_1 _) ?_))
  intro Γ p hcode hΓ
  have hrun : Γ.below.any (sameLoop a) = true := by
    rw [any_eq_guards loop_only loop_pos, hΓ.2.2.2.1 g hg]
    exact hu
  show Sem.wp _ Γ (Builtin.listReprAt 0 ⟨[.ref a], []⟩) _ _ p s
  unfold Builtin.listReprAt
  simp [slotArgs, Builtin.List.listItems, seqItems?, Sem.wp_load_of (h := hget), hd, Sem.stack]
  show Sem.wp _ Γ (if (Γ.below.any (sameLoop a)) = true then _ else _) _ _ p s
  rw [if_pos hrun]
  have fits : ("[...]" : Str).length ≤ sizeLine := by decide +kernel
  have key : wpAny (model prog w) (A.under Γ.code) (do rule "list.__repr__.in-itself"; retStr (Str.ofString "[...]")) (fun fin s' => ∃ u tk, fin = PySem.Fin.done (Flow.ret (.str (Str.ofString "[...]") u)) ∧ s' = { s with toks := tk }) (fun _ _ => False) s :=
    wpAny_bind (wpAny_rule (wpAny_bind (wpAny_mkStr (wpAny_pure ⟨_, _, rfl, rfl⟩) fits)))
  refine Sem.wp_mono _ _ _ ?_ ?_ _ _ (key Γ p hΓ.in)
  · rintro _ _ _ ⟨u, tk, rfl, rfl⟩
    exact h u tk
  · intro _ _ _ z
    exact z.elim
theorem repr_plain {Q : Value → Shared → Prop} {o : Obj} {x : Value} {l : List Value} {n : Nat} {ts : List Str} (hg : A.guards = some g) (hu : under g a = false) (hget : s.heap.get? a = some o) (hc : o.cls = .type "list") (hd : o.data = .seq (x :: l).toArray n) (hlen : ts.length = (x :: l).toArray.size)
    (hT : ∀ (i : Nat) (y : Value), (x :: l).toArray[i]? = some y → ∃ t, ts[i]? = some t ∧ ReprIs prog w y t)
    (h : ∀ h' u tk, (∀ b o, s.heap.get? b = some o → h'.get? b = some o) → Q (.str (listText ts) u) { s with heap := h', toks := tk }) (hsz : (listText ts).length ≤ sizeLine) : wpAny (model prog w) A (call (.builtin "list.__repr__") [.ref a]) Q E s := by
  refine call_list_repr ⟨o, hget, hc⟩ hg (fun v rest kw m => ?_) hget hd hlen hT h hsz
  unfold under at hu
  rw [List.any_eq_false] at hu
  have q := hu _ m
  cases e : Builtin.List.listSameRef v (.ref a) with
  | false => rfl
  | true => exact absurd e q
end
section
variable {X : Cx}
/-- repr(xs): small ints; the same text for the same list each time -/
def rReprI (g : List Code) : List V → Hp → VK → Prop := fun vs H Q => ∃ (a : Addr) (ns : List Int), vs = [V.ref a] ∧ H a = some (.lst (ns.map V.int)) ∧ ns ≠ [] ∧ ns.length ≤ 1000 ∧ (∀ n ∈ ns, 0 ≤ n ∧ n ≤ 99) ∧ Q (.str (said g a ns)) H
theorem short99 : ∀ n : Nat, n < 100 → ((toString (n : Int) : String) : Str).length ≤ 2 := by decide +kernel
theorem text_len {ns : List Int} (h : ∀ n ∈ ns, 0 ≤ n ∧ n ≤ 99) : ((ns.map fun n => ((toString n : String) : Str)).map (·.length)).sum ≤ 2 * ns.length := by
  induction ns with
  | nil => exact Nat.le_refl _
  | cons n ns ih =>
    have h1 := ih fun m hm => h m (List.mem_cons_of_mem _ hm)
    obtain ⟨h2, h3⟩ := h n List.mem_cons_self
    obtain ⟨k, rfl⟩ := Int.eq_ofNat_of_zero_le h2
    have h4 := short99 k (by omega)
    rw [List.map_cons, List.map_cons, List.sum_cons, List.length_cons]
    omega
theorem cr_repr {g : List Code} (hg : X.A.guards = some g) (hu : X.A.units + 64 < cLine) : CallR X (.builtin "repr") (rReprI g) := by
  intro pins s σ H vs us Q I r h
  obtain ⟨a, ns, rfl, ha, hne, hl, hb, q⟩ := h
  rw [Vals.ref1 r]
  obtain ⟨its, rv, ⟨o, n, ho, hc, _, hd⟩, _⟩ := I.list (.of ha)
  have hI := rv.ints
  cases ns with
  | nil => exact absurd rfl hne
  | cons k ns =>
    cases rv with
    | @cons _ x _ l r0 rr =>
      refine call_repr_slot (by omega) ⟨o, ho, hc⟩ F.slot_list_repr.toG ?_
      unfold said at q
      by_cases c : under g a = true
      · rw [if_pos c] at q
        exact repr_itself (A := X.A.in1) hg c ho hc hd fun u tk => ⟨_, _, rfl, ⟨.str "[...]", H, I.tok tk, ⟨u, rfl⟩, q⟩⟩
      · rw [if_neg c] at q
        refine repr_plain (A := X.A.in1) (ts := (k :: ns).map fun n => ((toString n : String) : Str)) hg (by simpa using c) ho hc hd ?_ (fun i y hy => ?_) (fun h' u tk hk => ⟨_, _, rfl, ⟨.str _, H, I.kept (t' := tk) hk, ⟨u, rfl⟩, q⟩⟩) ?_
        · rw [List.length_map, List.size_toArray, ← hI.length]
        · rw [List.getElem?_toArray] at hy
          obtain ⟨t, e⟩ := PyProof.Rows.IntsAre.int_at hI i y hy
          have hi : i < (k :: ns).length := by
            rw [← hI.length]
            exact (List.getElem?_eq_some_iff.mp hy).1
          rw [List.getD_eq_getElem?_getD, List.getElem?_eq_getElem hi] at e
          refine ⟨_, by rw [List.getElem?_map, List.getElem?_eq_getElem hi]; rfl, ?_⟩
          rw [e]
          refine ReprIs.int t ?_
          obtain ⟨h1, h2⟩ := hb _ (List.getElem_mem hi)
          show ((k :: ns)[i]).natAbs.log2 < 1920
          have h3 : ((k :: ns)[i]).natAbs ≤ 99 := by omega
          exact Nat.lt_of_le_of_lt (Nat.log2_le_self _) (by omega)
        · have h1 := listText_len_le ((k :: ns).map fun n => ((toString n : String) : Str))
          have h2 := text_len hb
          rw [List.length_map] at h1
          exact Nat.le_trans h1 (Nat.le_trans (by omega : _ ≤ 100000) (by decide))
end
/-! ### f(k = v, ..) -/
section
variable {X : Cx} {CX : CXT} {k : Nat} {f : Addr} {fd : FuncData} {ps ks : List Str} {sp : Sp} {E : XK} {x : Str} {p pos : Pos} {kws : List Keyword} {tk : TA} {g : List Value → List Value → List Value} {gV : List V → List V → List V}
theorem pe_callK0 (F : FnOk X.prog X.w X.K X.mg X.base CX k f fd ps sp) (hr : Room k X.A) (hg : Gl X x) (hm : X.mg x = some (.ref f)) (hk : PySem.W.keepIn X.K (.ref f) = true) (hb : KBinds X.K fd ps ks g gV) (hx : Passes CX X E)
    (hkw : PK X kws tk) (hall : (backToKw pos (keywordEach kws X.env)).all (·.1.isSome) = true := by rfl) (hks : (backToKw pos (keywordEach kws X.env)).filterMap (·.1) = ks := by rfl) (hdb : (x == ("__debug__" : Str)) = false := by decide)
    (hpl : ((backTo pos (starEach [] X.env)).any (·.1) || (backToKw pos (keywordEach kws X.env)).any (·.1.isNone)) = false := by rfl) :
    PE X (.Call (.Name x p) [] kws pos) (tCallK sp gV E tNil tk) := by
  refine ⟨fun pins s σ H Q I h => ?_⟩
  refine wpAny_Call_Name_kw (ld_glob I hg hm ?_ hdb)
  refine PySem.W.callWith_KW0 (h₀ := X.base) I.ok.mod.kin hk hall (thn (hkw.run pos pins s σ H _ I h) fun ws s2 hz => ?_) hpl
  obtain ⟨zs, H2, I2, rz, q2⟩ := hz
  refine ⟨I2.kIn, ?_⟩
  rw [hks]
  exact run_fnk F hr hb hx I2 .nil rz q2
end
end K61

/-! What evaluates to what, for the new rules: sequences, pairs, calls of built-ins -/
namespace K61
open PySem PySem.Spec PyProof.Rows L2 Evl

section
variable {K : PySem.W.Frag} {σ : L2.St} {H H' : Hp} {ta tb te tx : TE} {t u : TT} {x y z v : V} {r : R2} {D : Ends} {tu tw tz : TS} {g : TG}
theorem Sq.mono {a : Addr} {xs : List V} (e : Ex H H') (h : Sq K H a xs) : Sq K H' a xs := h.imp (ex_l e) (ex_t e)
/-- a tracked list or tuple -/
def Tk (H : Hp) (a : Addr) (xs : List V) : Prop := H a = some (.lst xs) ∨ H a = some (.tup xs)
theorem Tk.sq {a : Addr} {xs : List V} (h : Tk H a xs) : Sq K H a xs := h.imp sq_of st_of
theorem Tk.mono {a : Addr} {xs : List V} (e : Ex H H') (h : Tk H a xs) : Tk H' a xs := h.imp (e a _) (e a _)

/-! ### loops over a sequence -/
theorem s_forS {a : Addr} {xs : List V} {tl : TE} {j : Nat} (h : Ev tl σ H (.ref a)) (hx : Sq K H a xs) (Pv : Nat → L2.St → Hp → Prop) (h0 : ∀ H1, Ex H H1 → Pv 0 σ H1) (hl : ∀ i σ' H', i ≤ xs.length → Pv i σ' H' → Ex H H')
    (hs : ∀ i x σ' H', xs[i]? = some x → Pv i σ' H' → tu { D with nx := Pv (i + 1), ct := Pv (i + 1), bk := D.nx } (σ'.set j (some x)) H') (hd : ∀ σ' H', Pv xs.length σ' H' → D.nx σ' H') : tFor (iSeq K tl) (gName j) tu D σ H :=
  h H (Ex.refl H) _ fun H1 e => by
    rcases hx with hx | hx
    · exact ⟨a, xs, rfl, .inl ⟨ex_l e hx, for_list Pv (h0 H1 e) (fun i σ' H' hi p => ex_l (hl i σ' H' hi p) hx) hs hd⟩⟩
    · exact ⟨a, xs, rfl, .inr ⟨ex_t e hx, for_tup Pv (h0 H1 e) (fun i σ' H' hi p => ex_t (hl i σ' H' hi p) hx) hs hd⟩⟩
theorem q_forS {a : Addr} {xs : List V} {tl : TE} {j : Nat} (h : Ev tl σ H (.ref a)) (hx : Sq K H a xs) (Pv : Nat → L2.St → Hp → Prop) (h0 : ∀ H1, Ex H H1 → Pv 0 σ H1) (hl : ∀ i σ' H', i ≤ xs.length → Pv i σ' H' → Ex H H')
    (hs : ∀ i x σ' H', xs[i]? = some x → Pv i σ' H' → tu { D with nx := Pv (i + 1), ct := Pv (i + 1), bk := tz D } (σ'.set j (some x)) H') (hd : ∀ σ' H', Pv xs.length σ' H' → tz D σ' H') : tSeq (tFor (iSeq K tl) (gName j) tu) tz D σ H :=
  s_forS (D := { D with nx := tz D }) h hx Pv h0 hl hs hd

/-! ### comprehensions over a sequence -/
theorem el_lcS {a : Addr} {xs : List V} {tl : TE} {j : Nat} {vs : List Nat} (f : Nat → Bool) (v : Nat → V) (h : Ev tl σ H (.ref a)) (hx : Sq K H a xs) (hz : xs.length ≤ 40000) (hw : ∀ x, wipe ((wipe σ vs).set j (some x)) vs = wipe σ vs)
    (ht : ∀ (i : Nat) (x : V), xs[i]? = some x → EvT t ((wipe σ vs).set j (some x)) H (f i)) (he : ∀ (i : Nat) (x : V), xs[i]? = some x → f i = true → Ev te ((wipe σ vs).set j (some x)) H (v i)) :
    EvL (tLc (iSeq K tl) (gName j) t te vs) σ H (given xs.length f v) := fun H0 e Q q => h H0 e _ fun H1 e1 => by
  have e01 := e.trans e1
  have turn : ∀ (Dl : Addr) (i : Nat) (x : V) (H' : Hp), xs[i]? = some x → Cw H1 f v Dl i H' → wipe ((wipe σ vs).set j (some x)) vs = wipe σ vs ∧ t ((wipe σ vs).set j (some x)) H' fun b H3 => if b = true then te ((wipe σ vs).set j (some x)) H3 fun y H4 => ∃ acc, H4 Dl = some (.lst acc) ∧ acc.length < sizeLine ∧ Cw H1 f v Dl (i + 1) (upd H4 Dl (.lst (acc ++ [y]))) else Cw H1 f v Dl (i + 1) H3 := fun Dl i x H' hi p =>
    ⟨hw x, cw_turn p (by have := (List.getElem?_eq_some_iff.mp hi).1; omega) ((ht i x hi).mono e01) (fun hf => (he i x hi hf).mono e01)⟩
  have fin : ∀ (Dl : Addr) (H' : Hp), Cw H1 f v Dl xs.length H' → Q (.ref Dl) H' := fun Dl H' p => q Dl H' (fresh_back e1 p.1) (e1.trans p.2.1) p.2.2
  rcases hx with hx | hx
  · exact ⟨a, xs, rfl, .inl ⟨ex_l e01 hx, fun Dl hD => lc_list (xs := xs) (Cw H1 f v Dl) ⟨hD, Ex.new hD, upd_same⟩ (fun i H' _ p => ex_l (e01.trans p.2.1) hx) (turn Dl) (fin Dl)⟩⟩
  · exact ⟨a, xs, rfl, .inr ⟨ex_t e01 hx, fun Dl hD => lc_tup (xs := xs) (Cw H1 f v Dl) ⟨hD, Ex.new hD, upd_same⟩ (fun i H' _ p => ex_t (e01.trans p.2.1) hx) (turn Dl) (fin Dl)⟩⟩

/-! ### pairs: enumerate, zip -/
/-- the target of a pair, two names -/
abbrev gPair (K : PySem.W.Frag) (j1 j2 : Nat) : TG := gTup K 2 (gCons (gName j1) (gCons (gName j2) gNil))
structure Pairs (J : It) (n : Nat) (H : Hp) (x y : Nat → V) : Prop where
  go : ∀ i H', i < n → Ex H H' → J.go i H'
  stop : ∀ H', Ex H H' → J.stop n H'
  yld : ∀ i H' v H'', i < n → Ex H H' → J.yld i H' v H'' → ∃ T, v = .ref T ∧ H' T = none ∧ H'' = upd H' T (.tup [x i, y i])
theorem pairs_enumL {a : Addr} {xs : List V} (hx : SqL K H a xs) : Pairs (Ite K a) xs.length H (fun i => .int (i : Nat)) (fun i => xs.getD i .non) where
  go := fun i H' hi e => ⟨xs, xs[i], ex_l e hx, List.getElem?_eq_getElem hi⟩
  stop := fun H' e => ⟨xs, ex_l e hx, Nat.le_refl _⟩
  yld := by
    rintro i H' v H'' hi e ⟨T, x, rfl, hT, rfl, hxs⟩
    refine ⟨T, rfl, hT, ?_⟩
    rw [List.getD_eq_getElem?_getD, hxs xs (ex_l e hx)]
    rfl
theorem pairs_enumT {a : Addr} {xs : List V} (hx : SqT K H a xs) : Pairs (IteT K a) xs.length H (fun i => .int (i : Nat)) (fun i => xs.getD i .non) where
  go := fun i H' hi e => ⟨xs, xs[i], ex_t e hx, List.getElem?_eq_getElem hi⟩
  stop := fun H' e => ⟨xs, ex_t e hx, rfl⟩
  yld := by
    rintro i H' v H'' hi e ⟨T, x, rfl, hT, rfl, hxs⟩
    refine ⟨T, rfl, hT, ?_⟩
    rw [List.getD_eq_getElem?_getD, hxs xs (ex_t e hx)]
    rfl
theorem pairs_zip {a b : Addr} {xs ys : List V} (hx : SqL K H a xs) (hy : SqL K H b ys) (hl : xs.length = ys.length) : Pairs (Itz K a b) xs.length H (fun i => xs.getD i .non) (fun i => ys.getD i .non) where
  go := fun i H' hi e => ⟨xs, ys, xs[i], ys[i]'(hl ▸ hi), ex_l e hx, ex_l e hy, List.getElem?_eq_getElem hi, List.getElem?_eq_getElem (hl ▸ hi)⟩
  stop := fun H' e => ⟨xs, ys, ex_l e hx, ex_l e hy, .inl (Nat.le_refl _)⟩
  yld := by
    rintro i H' v H'' hi e ⟨T, x, y, rfl, hT, rfl, hxs, hys⟩
    refine ⟨T, rfl, hT, ?_⟩
    rw [List.getD_eq_getElem?_getD, hxs xs (ex_l e hx), List.getD_eq_getElem?_getD, hys ys (ex_l e hy)]
    rfl
theorem g_pair {j1 j2 : Nat} {T : Addr} {x y : V} {Q : L2.St → Hp → Prop} (h : H T = some (.tup [x, y])) (q : Q ((σ.set j1 (some x)).set j2 (some y)) H) : gPair K j1 j2 (.ref T) σ H Q :=
  ⟨T, [x, y], rfl, st_of h, rfl, x, [y], rfl, y, [], rfl, rfl, q⟩
theorem lc_pairs {J : It} {n : Nat} {x y : Nat → V} {j1 j2 : Nat} {vs : List Nat} (f : Nat → Bool) (v : Nat → V) (P : Pairs J n H x y) {Dl : Addr} (hD : H Dl = none) (hn : n ≤ 40000) (hw : ∀ a b, wipe (((wipe σ vs).set j1 (some a)).set j2 (some b)) vs = wipe σ vs)
    (ht : ∀ i, i < n → EvT t (((wipe σ vs).set j1 (some (x i))).set j2 (some (y i))) H (f i)) (he : ∀ i, i < n → f i = true → Ev te (((wipe σ vs).set j1 (some (x i))).set j2 (some (y i))) H (v i)) {Qd : Hp → Prop} (hq : ∀ H', Cw H f v Dl n H' → Qd H') :
    ∃ W : Nat → Nat → Hp → Prop, (∃ m, W 0 m (upd H Dl (.lst []))) ∧ ∀ i m H', W i m H' →
      (J.stop i H' ∧ Qd H') ∨ (J.go i H' ∧ ∃ Nx : Hp → Prop, (∀ H'', Nx H'' → ∃ m', m' < m ∧ W (i + 1) m' H'') ∧ ∀ a H'', J.yld i H' a H'' → gPair K j1 j2 a (wipe σ vs) H'' fun σ2 H2 => wipe σ2 vs = wipe σ vs ∧ t σ2 H2 fun b H3 =>
        if b = true then te σ2 H3 fun y H4 => ∃ acc, H4 Dl = some (.lst acc) ∧ acc.length < sizeLine ∧ Nx (upd H4 Dl (.lst (acc ++ [y]))) else Nx H3) := by
  refine ⟨fun i m H' => m = n - i ∧ i ≤ n ∧ Cw H f v Dl i H', ⟨n, rfl, Nat.zero_le _, hD, Ex.new hD, upd_same⟩, ?_⟩
  rintro i m H' ⟨rfl, hi, p⟩
  by_cases hlt : i < n
  · refine .inr ⟨P.go i H' hlt p.2.1, Cw H f v Dl (i + 1), fun H'' p' => ⟨n - (i + 1), by omega, rfl, hlt, p'⟩, fun a H'' hy => ?_⟩
    obtain ⟨T, rfl, hT, rfl⟩ := P.yld i H' a H'' hlt p.2.1 hy
    refine g_pair upd_same ⟨hw _ _, cw_turn ?_ (by omega) (ht i hlt) (he i hlt)⟩
    exact ⟨p.1, p.2.1.trans (Ex.new hT), by rw [upd_ne (ne_of_none p.2.2 hT)]; exact p.2.2⟩
  · have e : i = n := by omega
    subst e
    exact .inl ⟨P.stop H' p.2.1, hq H' p⟩
theorem el_lcE {ta : TA} {a : Addr} {xs : List V} {j1 j2 : Nat} {vs : List Nat} (f : Nat → Bool) (v : Nat → V) (h : EvA ta σ H [.ref a]) (hx : Sq K H a xs) (hz : xs.length ≤ 40000) (hw : ∀ a b, wipe (((wipe σ vs).set j1 (some a)).set j2 (some b)) vs = wipe σ vs)
    (ht : ∀ i, i < xs.length → EvT t (((wipe σ vs).set j1 (some (.int (i : Nat)))).set j2 (some (xs.getD i .non))) H (f i)) (he : ∀ i, i < xs.length → f i = true → Ev te (((wipe σ vs).set j1 (some (.int (i : Nat)))).set j2 (some (xs.getD i .non))) H (v i)) :
    EvL (tLc (iEnumS K ta) (gPair K j1 j2) t te vs) σ H (given xs.length f v) := fun H0 e Q q => h H0 e _ fun H1 e1 => by
  have e01 := e.trans e1
  have fin : ∀ (Dl : Addr) (H' : Hp), Cw H1 f v Dl xs.length H' → Q (.ref Dl) H' := fun Dl H' p => q Dl H' (fresh_back e1 p.1) (e1.trans p.2.1) p.2.2
  rcases hx with hx | hx
  · exact ⟨a, xs, rfl, .inl ⟨ex_l e01 hx, fun Dl hD => lc_pairs f v (pairs_enumL (ex_l e01 hx)) hD hz hw (fun i hi => (ht i hi).mono e01) (fun i hi hf => (he i hi hf).mono e01) (fin Dl)⟩⟩
  · exact ⟨a, xs, rfl, .inr ⟨ex_t e01 hx, fun Dl hD => lc_pairs f v (pairs_enumT (ex_t e01 hx)) hD hz hw (fun i hi => (ht i hi).mono e01) (fun i hi hf => (he i hi hf).mono e01) (fin Dl)⟩⟩
theorem el_lcZ {ta : TA} {a b : Addr} {xs ys : List V} {j1 j2 : Nat} {vs : List Nat} (f : Nat → Bool) (v : Nat → V) (h : EvA ta σ H [.ref a, .ref b]) (hx : SqL K H a xs) (hy : SqL K H b ys) (hl : xs.length = ys.length) (hz : xs.length ≤ 40000)
    (hw : ∀ a b, wipe (((wipe σ vs).set j1 (some a)).set j2 (some b)) vs = wipe σ vs)
    (ht : ∀ i, i < xs.length → EvT t (((wipe σ vs).set j1 (some (xs.getD i .non))).set j2 (some (ys.getD i .non))) H (f i)) (he : ∀ i, i < xs.length → f i = true → Ev te (((wipe σ vs).set j1 (some (xs.getD i .non))).set j2 (some (ys.getD i .non))) H (v i)) :
    EvL (tLc (iZip K ta) (gPair K j1 j2) t te vs) σ H (given xs.length f v) := fun H0 e Q q => h H0 e _ fun H1 e1 => by
  have e01 := e.trans e1
  exact ⟨a, b, xs, ys, rfl, ex_l e01 hx, ex_l e01 hy, fun Dl hD => lc_pairs f v (pairs_zip (ex_l e01 hx) (ex_l e01 hy) hl) hD hz hw (fun i hi => (ht i hi).mono e01) (fun i hi hf => (he i hi hf).mono e01)
    fun H' p => q Dl H' (fresh_back e1 p.1) (e1.trans p.2.1) p.2.2⟩
/-- for a, b in enumerate(xs): body -/
theorem s_forE {ta : TA} {a : Addr} {xs : List V} {j1 j2 : Nat} (h : EvA ta σ H [.ref a]) (hx : Sq K H a xs) (Pv : Nat → L2.St → Hp → Prop) (h0 : ∀ H1, Ex H H1 → Pv 0 σ H1) (hl : ∀ i σ' H', i ≤ xs.length → Pv i σ' H' → Ex H H')
    (hs : ∀ i σ' H' H'', i < xs.length → Pv i σ' H' → Ex H' H'' → tu { D with nx := Pv (i + 1), ct := Pv (i + 1), bk := D.nx } ((σ'.set j1 (some (.int (i : Nat)))).set j2 (some (xs.getD i .non))) H'') (hd : ∀ σ' H', Pv xs.length σ' H' → D.nx σ' H') : tFor (iEnumS K ta) (gPair K j1 j2) tu D σ H :=
  h H (Ex.refl H) _ fun H1 e => by
    have main : ∀ J : It, Pairs J xs.length H (fun i => .int (i : Nat)) (fun i => xs.getD i .non) → ∃ W : Nat → Nat → L2.St → Hp → Prop, (∃ m, W 0 m σ H1) ∧ ∀ i m σ H, W i m σ H →
        (J.stop i H ∧ D.nx σ H) ∨ (J.go i H ∧ ∃ N : L2.St → Hp → Prop, (∀ σ' H', N σ' H' → ∃ m', m' < m ∧ W (i + 1) m' σ' H') ∧ ∀ x H', J.yld i H x H' → gPair K j1 j2 x σ H' fun σ2 H2 => tu { D with nx := N, ct := N, bk := D.nx } σ2 H2) := by
      intro J P
      refine ⟨fun i m σ' H' => m = xs.length - i ∧ i ≤ xs.length ∧ Pv i σ' H', ⟨xs.length, rfl, Nat.zero_le _, h0 H1 e⟩, ?_⟩
      rintro i m σ' H' ⟨rfl, hi, p⟩
      have eh := hl i σ' H' hi p
      by_cases hlt : i < xs.length
      · refine .inr ⟨P.go i H' hlt eh, Pv (i + 1), fun σ2 H2 p' => ⟨xs.length - (i + 1), by omega, rfl, hlt, p'⟩, fun v H'' hy => ?_⟩
        obtain ⟨T, rfl, hT, rfl⟩ := P.yld i H' v H'' hlt eh hy
        exact g_pair upd_same (hs i σ' H' _ hlt p (Ex.new hT))
      · have e2 : i = xs.length := by omega
        subst e2
        exact .inl ⟨P.stop H' eh, hd σ' H' p⟩
    rcases hx with hx | hx
    · exact ⟨a, xs, rfl, .inl ⟨ex_l e hx, main _ (pairs_enumL hx)⟩⟩
    · exact ⟨a, xs, rfl, .inr ⟨ex_t e hx, main _ (pairs_enumT hx)⟩⟩
theorem q_forE {ta : TA} {a : Addr} {xs : List V} {j1 j2 : Nat} (h : EvA ta σ H [.ref a]) (hx : Sq K H a xs) (Pv : Nat → L2.St → Hp → Prop) (h0 : ∀ H1, Ex H H1 → Pv 0 σ H1) (hl : ∀ i σ' H', i ≤ xs.length → Pv i σ' H' → Ex H H')
    (hs : ∀ i σ' H' H'', i < xs.length → Pv i σ' H' → Ex H' H'' → tu { D with nx := Pv (i + 1), ct := Pv (i + 1), bk := tz D } ((σ'.set j1 (some (.int (i : Nat)))).set j2 (some (xs.getD i .non))) H'') (hd : ∀ σ' H', Pv xs.length σ' H' → tz D σ' H') : tSeq (tFor (iEnumS K ta) (gPair K j1 j2) tu) tz D σ H :=
  s_forE (D := { D with nx := tz D }) h hx Pv h0 hl hs hd

/-! ### calls of built-ins -/
abbrev rLen2 (K : PySem.W.Frag) : List V → Hp → VK → Prop := fun xs H Q => ∃ p ys, xs = [.ref p] ∧ (SqL K H p ys ∨ SqT K H p ys) ∧ Q (.int ys.length) H
theorem rc_len {a : Addr} {xs : List V} (h : Sq K H a xs) : RC (rLen2 K) [.ref a] H (.int (xs.length : Int)) := fun H1 e Q q => ⟨a, xs, rfl, h.mono e, q H1 (Ex.refl H1)⟩
theorem rc_max {a : Addr} {ns : List Int} {m : Int} (h : Sq K H a (ns.map V.int)) (hm : m ∈ ns) (hb : ∀ y ∈ ns, y ≤ m) : RC (rMaxS K) [.ref a] H (.int m) := fun H1 e Q q =>
  ⟨a, ns, rfl, h.mono e, fun z => (by rw [z] at hm; cases hm), fun m' h1 h2 => by
    have e1 : m' = m := Int.le_antisymm (hb _ h1) (h2 _ hm)
    rw [e1]
    exact q H1 (Ex.refl H1)⟩
theorem rc_min {a : Addr} {ns : List Int} {m : Int} (h : SqL K H a (ns.map V.int)) (hm : m ∈ ns) (hb : ∀ y ∈ ns, m ≤ y) : RC (rMin K) [.ref a] H (.int m) := fun H1 e Q q =>
  ⟨a, ns, rfl, ex_l e h, List.length_pos_of_mem hm, fun m' h1 h2 => by
    have e1 : m' = m := Int.le_antisymm (h2 _ hm) (hb _ h1)
    rw [e1]
    exact q H1 (Ex.refl H1)⟩
theorem rc_all {a : Addr} {bs : List Bool} (h : SqL K H a (bs.map V.bl)) : RC (rAll K) [.ref a] H (.bl (bs.all id)) := fun H1 e Q q => ⟨a, bs, rfl, ex_l e h, q H1 (Ex.refl H1)⟩
/-- a call of one argument that is a new list -/
theorem ev_cbL {r : List V → Hp → VK → Prop} {xs : List V} (h : EvL ta σ H xs) (hr : ∀ p H1, Ex H H1 → H1 p = some (.lst xs) → RC r [.ref p] H1 z) : Ev (tCB r (tCons ta tNil)) σ H z := fun H1 e Q q =>
  h H1 e _ fun p H2 _ e2 hp => hr p H2 (e.trans e2) hp H2 (Ex.refl H2) Q fun H3 e3 => q H3 (e2.trans e3)
theorem el_cbL {r : List V → Hp → VK → Prop} {xs ys : List V} (h : EvL ta σ H xs) (hr : ∀ p H1, Ex H H1 → H1 p = some (.lst xs) → RCL r [.ref p] H1 ys) : EvL (tCB r (tCons ta tNil)) σ H ys := fun H1 e Q q =>
  h H1 e _ fun p H2 _ e2 hp => hr p H2 (e.trans e2) hp H2 (Ex.refl H2) Q fun p3 H3 hp3 e3 h3 => q p3 H3 (fresh_back e2 hp3) (e2.trans e3) h3
/-- a def's call of one argument that is a new list -/
theorem ev_callL {sp : Sp} {E : XK} {xs : List V} (h : EvL ta σ H xs) (hs : ∀ p H1, Ex H H1 → H1 p = some (.lst xs) → SpV sp [.ref p] H1 z) : Ev (tCall sp [] E (tCons ta tNil)) σ H z := fun H1 e Q q =>
  h H1 e _ fun p H2 _ e2 hp => hs p H2 (e.trans e2) hp H2 (Ex.refl H2) Q (fun H3 e3 => q H3 (e2.trans e3)) E
end
end K61

/-! The text by places (printed by gen_text.py) -/
namespace K61
open PySem PySem.Spec PyProof.Rows L2 Evl
def topS (i : Nat) : Stmt := PySem.Challenge.pw_twoabove_k61_whole_levels_and_boards_tha.main.body.getD i (.Pass ⟨0, 0, 0, 0⟩)
abbrev s_is_integer : Stmt := topS 10
abbrev s_is_count : Stmt := topS 11
abbrev s_is_list : Stmt := topS 12
abbrev s_are_shelves : Stmt := topS 16
abbrev s_want_shelves : Stmt := topS 17
abbrev s_is_lot_of : Stmt := topS 18
abbrev s_want_lot : Stmt := topS 19
abbrev s_bits_of : Stmt := topS 20
abbrev s_spots_of : Stmt := topS 21
abbrev s_told_lot : Stmt := topS 22
abbrev s_is_kind : Stmt := topS 25
abbrev s_are_kinds : Stmt := topS 26
abbrev s_plain_kinds : Stmt := topS 27
abbrev s_want_store : Stmt := topS 29
abbrev s_want_lot_of : Stmt := topS 30
abbrev s_is_board_of : Stmt := topS 33
abbrev s_want_board : Stmt := topS 34
abbrev s_want_wished : Stmt := topS 35
abbrev s_lot_at : Stmt := topS 36
abbrev s_all_of : Stmt := topS 38
abbrev s_supported_of : Stmt := topS 39
abbrev s_comes_up : Stmt := topS 40
abbrev s_supported : Stmt := topS 41
abbrev s_can_come : Stmt := topS 42
abbrev s_kinds_with : Stmt := topS 44
abbrev s_gainers_of : Stmt := topS 45
abbrev s_losers_of : Stmt := topS 46
abbrev s_is_giver : Stmt := topS 47
abbrev s_givers_for : Stmt := topS 48
abbrev s_givers_to : Stmt := topS 49
abbrev s_comes_from : Stmt := topS 50
abbrev s_want_both : Stmt := topS 51
abbrev s_comes : Stmt := topS 52
abbrev s_law_pot : Stmt := topS 54
abbrev s_law_draw : Stmt := topS 55
abbrev s_law_pick : Stmt := topS 56
abbrev s_law_kinds : Stmt := topS 57
abbrev s_law_up : Stmt := topS 58
abbrev s_law_walk : Stmt := topS 59
abbrev s_law_is_due : Stmt := topS 60
abbrev s_law_is_looked : Stmt := topS 61
abbrev s_law_board_right : Stmt := topS 62
abbrev s_law_right : Stmt := topS 63
abbrev s_law : Stmt := topS 64
abbrev s_init : Stmt := inClass (topS 28) 0
abbrev n_is_integer : List Str := ["value"]
abbrev p_is_integer : List Str := ["value"]
theorem sc_is_integer : FnScope n_is_integer p_is_integer (defScope s_is_integer) := ⟨rfl, rfl, rfl, by decide +kernel, rfl, by decide +kernel, by decide +kernel⟩
abbrev n_is_count : List Str := ["value"]
abbrev p_is_count : List Str := ["value"]
theorem sc_is_count : FnScope n_is_count p_is_count (defScope s_is_count) := ⟨rfl, rfl, rfl, by decide +kernel, rfl, by decide +kernel, by decide +kernel⟩
abbrev n_is_list : List Str := ["value"]
abbrev p_is_list : List Str := ["value"]
theorem sc_is_list : FnScope n_is_list p_is_list (defScope s_is_list) := ⟨rfl, rfl, rfl, by decide +kernel, rfl, by decide +kernel, by decide +kernel⟩
abbrev n_are_shelves : List Str := ["value"]
abbrev p_are_shelves : List Str := ["value"]
theorem sc_are_shelves : FnScope n_are_shelves p_are_shelves (defScope s_are_shelves) := ⟨rfl, rfl, rfl, by decide +kernel, rfl, by decide +kernel, by decide +kernel⟩
abbrev n_want_shelves : List Str := ["value"]
abbrev p_want_shelves : List Str := ["value"]
theorem sc_want_shelves : FnScope n_want_shelves p_want_shelves (defScope s_want_shelves) := ⟨rfl, rfl, rfl, by decide +kernel, rfl, by decide +kernel, by decide +kernel⟩
abbrev n_is_lot_of : List Str := ["shelves", "value", "shelf"]
abbrev p_is_lot_of : List Str := ["shelves", "value"]
theorem sc_is_lot_of : FnScope n_is_lot_of p_is_lot_of (defScope s_is_lot_of) := ⟨rfl, rfl, rfl, by decide +kernel, rfl, by decide +kernel, by decide +kernel⟩
abbrev n_want_lot : List Str := ["shelves", "value"]
abbrev p_want_lot : List Str := ["shelves", "value"]
theorem sc_want_lot : FnScope n_want_lot p_want_lot (defScope s_want_lot) := ⟨rfl, rfl, rfl, by decide +kernel, rfl, by decide +kernel, by decide +kernel⟩
abbrev n_bits_of : List Str := ["lot", "found", "shelf"]
abbrev p_bits_of : List Str := ["lot"]
theorem sc_bits_of : FnScope n_bits_of p_bits_of (defScope s_bits_of) := ⟨rfl, rfl, rfl, by decide +kernel, rfl, by decide +kernel, by decide +kernel⟩
abbrev n_spots_of : List Str := ["bits", "shelf"]
abbrev p_spots_of : List Str := ["bits"]
theorem sc_spots_of : FnScope n_spots_of p_spots_of (defScope s_spots_of) := ⟨rfl, rfl, rfl, by decide +kernel, rfl, by decide +kernel, by decide +kernel⟩
abbrev n_told_lot : List Str := ["bits"]
abbrev p_told_lot : List Str := ["bits"]
theorem sc_told_lot : FnScope n_told_lot p_told_lot (defScope s_told_lot) := ⟨rfl, rfl, rfl, by decide +kernel, rfl, by decide +kernel, by decide +kernel⟩
abbrev n_is_kind : List Str := ["shelves", "value"]
abbrev p_is_kind : List Str := ["shelves", "value"]
theorem sc_is_kind : FnScope n_is_kind p_is_kind (defScope s_is_kind) := ⟨rfl, rfl, rfl, by decide +kernel, rfl, by decide +kernel, by decide +kernel⟩
abbrev n_are_kinds : List Str := ["shelves", "value", "one"]
abbrev p_are_kinds : List Str := ["shelves", "value"]
theorem sc_are_kinds : FnScope n_are_kinds p_are_kinds (defScope s_are_kinds) := ⟨rfl, rfl, rfl, by decide +kernel, rfl, by decide +kernel, by decide +kernel⟩
abbrev n_plain_kinds : List Str := ["kinds", "bits", "lot"]
abbrev p_plain_kinds : List Str := ["kinds"]
theorem sc_plain_kinds : FnScope n_plain_kinds p_plain_kinds (defScope s_plain_kinds) := ⟨rfl, rfl, rfl, by decide +kernel, rfl, by decide +kernel, by decide +kernel⟩
abbrev n_want_store : List Str := ["value"]
abbrev p_want_store : List Str := ["value"]
theorem sc_want_store : FnScope n_want_store p_want_store (defScope s_want_store) := ⟨rfl, rfl, rfl, by decide +kernel, rfl, by decide +kernel, by decide +kernel⟩
abbrev n_want_lot_of : List Str := ["store", "value"]
abbrev p_want_lot_of : List Str := ["store", "value"]
theorem sc_want_lot_of : FnScope n_want_lot_of p_want_lot_of (defScope s_want_lot_of) := ⟨rfl, rfl, rfl, by decide +kernel, rfl, by decide +kernel, by decide +kernel⟩
abbrev n_is_board_of : List Str := ["store", "value", "number"]
abbrev p_is_board_of : List Str := ["store", "value"]
theorem sc_is_board_of : FnScope n_is_board_of p_is_board_of (defScope s_is_board_of) := ⟨rfl, rfl, rfl, by decide +kernel, rfl, by decide +kernel, by decide +kernel⟩
abbrev n_want_board : List Str := ["store", "value"]
abbrev p_want_board : List Str := ["store", "value"]
theorem sc_want_board : FnScope n_want_board p_want_board (defScope s_want_board) := ⟨rfl, rfl, rfl, by decide +kernel, rfl, by decide +kernel, by decide +kernel⟩
abbrev n_want_wished : List Str := ["store", "value"]
abbrev p_want_wished : List Str := ["store", "value"]
theorem sc_want_wished : FnScope n_want_wished p_want_wished (defScope s_want_wished) := ⟨rfl, rfl, rfl, by decide +kernel, rfl, by decide +kernel, by decide +kernel⟩
abbrev n_lot_at : List Str := ["board", "level", "shelf", "number"]
abbrev p_lot_at : List Str := ["board", "level"]
theorem sc_lot_at : FnScope n_lot_at p_lot_at (defScope s_lot_at) := ⟨rfl, rfl, rfl, by decide +kernel, rfl, by decide +kernel, by decide +kernel⟩
abbrev n_all_of : List Str := ["store"]
abbrev p_all_of : List Str := ["store"]
theorem sc_all_of : FnScope n_all_of p_all_of (defScope s_all_of) := ⟨rfl, rfl, rfl, by decide +kernel, rfl, by decide +kernel, by decide +kernel⟩
abbrev n_supported_of : List Str := ["store", "bits", "found", "kind"]
abbrev p_supported_of : List Str := ["store", "bits"]
theorem sc_supported_of : FnScope n_supported_of p_supported_of (defScope s_supported_of) := ⟨rfl, rfl, rfl, by decide +kernel, rfl, by decide +kernel, by decide +kernel⟩
abbrev n_comes_up : List Str := ["store", "board", "here", "level", "above"]
abbrev p_comes_up : List Str := ["store", "board"]
theorem sc_comes_up : FnScope n_comes_up p_comes_up (defScope s_comes_up) := ⟨rfl, rfl, rfl, by decide +kernel, rfl, by decide +kernel, by decide +kernel⟩
abbrev n_supported : List Str := ["store", "lot"]
abbrev p_supported : List Str := ["store", "lot"]
theorem sc_supported : FnScope n_supported p_supported (defScope s_supported) := ⟨rfl, rfl, rfl, by decide +kernel, rfl, by decide +kernel, by decide +kernel⟩
abbrev n_can_come : List Str := ["store", "board"]
abbrev p_can_come : List Str := ["store", "board"]
theorem sc_can_come : FnScope n_can_come p_can_come (defScope s_can_come) := ⟨rfl, rfl, rfl, by decide +kernel, rfl, by decide +kernel, by decide +kernel⟩
abbrev n_kinds_with : List Str := ["kinds", "shelf", "position", "kind"]
abbrev p_kinds_with : List Str := ["kinds", "shelf"]
theorem sc_kinds_with : FnScope n_kinds_with p_kinds_with (defScope s_kinds_with) := ⟨rfl, rfl, rfl, by decide +kernel, rfl, by decide +kernel, by decide +kernel⟩
abbrev n_gainers_of : List Str := ["board", "wished", "shelf", "number"]
abbrev p_gainers_of : List Str := ["board", "wished"]
theorem sc_gainers_of : FnScope n_gainers_of p_gainers_of (defScope s_gainers_of) := ⟨rfl, rfl, rfl, by decide +kernel, rfl, by decide +kernel, by decide +kernel⟩
abbrev n_losers_of : List Str := ["board", "wished", "shelf", "number"]
abbrev p_losers_of : List Str := ["board", "wished"]
theorem sc_losers_of : FnScope n_losers_of p_losers_of (defScope s_losers_of) := ⟨rfl, rfl, rfl, by decide +kernel, rfl, by decide +kernel, by decide +kernel⟩
abbrev n_is_giver : List Str := ["store", "wished", "shelf", "position", "one"]
abbrev p_is_giver : List Str := ["store", "wished", "shelf", "position"]
theorem sc_is_giver : FnScope n_is_giver p_is_giver (defScope s_is_giver) := ⟨rfl, rfl, rfl, by decide +kernel, rfl, by decide +kernel, by decide +kernel⟩
abbrev n_givers_for : List Str := ["store", "wished", "shelf", "some", "position"]
abbrev p_givers_for : List Str := ["store", "wished", "shelf"]
theorem sc_givers_for : FnScope n_givers_for p_givers_for (defScope s_givers_for) := ⟨rfl, rfl, rfl, by decide +kernel, rfl, by decide +kernel, by decide +kernel⟩
abbrev n_givers_to : List Str := ["store", "board", "wished", "found", "shelf", "some"]
abbrev p_givers_to : List Str := ["store", "board", "wished"]
theorem sc_givers_to : FnScope n_givers_to p_givers_to (defScope s_givers_to) := ⟨rfl, rfl, rfl, by decide +kernel, rfl, by decide +kernel, by decide +kernel⟩
abbrev n_comes_from : List Str := ["store", "board", "wished"]
abbrev p_comes_from : List Str := ["store", "board", "wished"]
theorem sc_comes_from : FnScope n_comes_from p_comes_from (defScope s_comes_from) := ⟨rfl, rfl, rfl, by decide +kernel, rfl, by decide +kernel, by decide +kernel⟩
abbrev n_want_both : List Str := ["store", "board", "wished", "told", "near"]
abbrev p_want_both : List Str := ["store", "board", "wished"]
theorem sc_want_both : FnScope n_want_both p_want_both (defScope s_want_both) := ⟨rfl, rfl, rfl, by decide +kernel, rfl, by decide +kernel, by decide +kernel⟩
abbrev n_comes : List Str := ["store", "board", "wished", "told", "near", "far"]
abbrev p_comes : List Str := ["store", "board", "wished"]
theorem sc_comes : FnScope n_comes p_comes (defScope s_comes) := ⟨rfl, rfl, rfl, by decide +kernel, rfl, by decide +kernel, by decide +kernel⟩
abbrev n_law_pot : List Str := ["_law_script", "_law_k", "_law_cell", "_law_mixed"]
abbrev p_law_pot : List Str := ["_law_script", "_law_k"]
theorem sc_law_pot : FnScope n_law_pot p_law_pot (defScope s_law_pot) := ⟨rfl, rfl, rfl, by decide +kernel, rfl, by decide +kernel, by decide +kernel⟩
abbrev n_law_draw : List Str := ["_law_pot_here", "_law_sides", "_law_digit"]
abbrev p_law_draw : List Str := ["_law_pot_here", "_law_sides"]
theorem sc_law_draw : FnScope n_law_draw p_law_draw (defScope s_law_draw) := ⟨rfl, rfl, rfl, by decide +kernel, rfl, by decide +kernel, by decide +kernel⟩
abbrev n_law_pick : List Str := ["_law_pot_here", "_law_some"]
abbrev p_law_pick : List Str := ["_law_pot_here", "_law_some"]
theorem sc_law_pick : FnScope n_law_pick p_law_pick (defScope s_law_pick) := ⟨rfl, rfl, rfl, by decide +kernel, rfl, by decide +kernel, by decide +kernel⟩
abbrev n_law_kinds : List Str := ["_law_pot_here", "_law_shelves", "_law_many", "_law_found", "_law_turn", "_law_kind", "_law_shelf"]
abbrev p_law_kinds : List Str := ["_law_pot_here", "_law_shelves", "_law_many"]
theorem sc_law_kinds : FnScope n_law_kinds p_law_kinds (defScope s_law_kinds) := ⟨rfl, rfl, rfl, by decide +kernel, rfl, by decide +kernel, by decide +kernel⟩
abbrev n_law_up : List Str := ["_law_kinds_here", "_law_lot", "_law_found", "_law_kind", "_law_shelf", "_law_one"]
abbrev p_law_up : List Str := ["_law_kinds_here", "_law_lot"]
theorem sc_law_up : FnScope n_law_up p_law_up (defScope s_law_up) := ⟨rfl, rfl, rfl, by decide +kernel, rfl, by decide +kernel, by decide +kernel⟩
abbrev n_law_walk : List Str := ["_law_pot_here", "_law_kinds_here", "_law_shelves", "_law_many", "_law_board", "_law_turn", "_law_kind", "_law_least", "_law_shelf", "_law_one"]
abbrev p_law_walk : List Str := ["_law_pot_here", "_law_kinds_here", "_law_shelves", "_law_many"]
theorem sc_law_walk : FnScope n_law_walk p_law_walk (defScope s_law_walk) := ⟨rfl, rfl, rfl, by decide +kernel, rfl, by decide +kernel, by decide +kernel⟩
abbrev n_law_is_due : List Str := ["_law_kinds_here", "_law_board", "_law_level", "_law_up_here", "_law_number", "_law_one"]
abbrev p_law_is_due : List Str := ["_law_kinds_here", "_law_board"]
theorem sc_law_is_due : FnScope n_law_is_due p_law_is_due (defScope s_law_is_due) := ⟨rfl, rfl, rfl, by decide +kernel, rfl, by decide +kernel, by decide +kernel⟩
abbrev n_law_is_looked : List Str := ["_law_kinds_here", "_law_board", "_law_shelf", "_law_number", "_law_some", "_law_right_here", "_law_kind", "_law_one"]
abbrev p_law_is_looked : List Str := ["_law_kinds_here", "_law_board"]
theorem sc_law_is_looked : FnScope n_law_is_looked p_law_is_looked (defScope s_law_is_looked) := ⟨rfl, rfl, rfl, by decide +kernel, rfl, by decide +kernel, by decide +kernel⟩
abbrev n_law_board_right : List Str := ["_law_store", "_law_kinds_here", "_law_board", "_law_due", "_law_shown"]
abbrev p_law_board_right : List Str := ["_law_store", "_law_kinds_here", "_law_board"]
theorem sc_law_board_right : FnScope n_law_board_right p_law_board_right (defScope s_law_board_right) := ⟨rfl, rfl, rfl, by decide +kernel, rfl, by decide +kernel, by decide +kernel⟩
abbrev n_law_right : List Str := ["_law_pot_here", "_law_shelves", "_law_kinds_here", "_law_store", "_law_lot", "_law_board", "_law_shelf", "_law_up_here", "_law_due", "_law_at", "_law_changed", "_law_drawn", "_law_one"]
abbrev p_law_right : List Str := ["_law_pot_here"]
theorem sc_law_right : FnScope n_law_right p_law_right (defScope s_law_right) := ⟨rfl, rfl, rfl, by decide +kernel, rfl, by decide +kernel, by decide +kernel⟩
abbrev n_law : List Str := ["_law_script"]
abbrev p_law : List Str := ["_law_script"]
theorem sc_law : FnScope n_law p_law (defScope s_law) := ⟨rfl, rfl, rfl, by decide +kernel, rfl, by decide +kernel, by decide +kernel⟩
abbrev n_init : List Str := ["self", "shelves", "deliveries", "sales", "kind"]
abbrev p_init : List Str := ["self", "shelves", "deliveries", "sales"]
theorem sc_init : FnScope n_init p_init (defScope s_init) := ⟨rfl, rfl, rfl, by decide +kernel, rfl, by decide +kernel, by decide +kernel⟩
/-- a def of the module stands where its name says -/
def DefAt (K : PySem.W.Frag) (mg : Str → Option Value) (name : Str) (st : Stmt) : Prop := ∃ f fd, Fun K name name st f fd ∧ mg name = some (.ref f)
/-- what the walk asks of the text behind the top -/
structure Txt (K : PySem.W.Frag) (mg : Str → Option Value) : Prop where
  d_is_integer : DefAt K mg "is_integer" s_is_integer
  d_is_count : DefAt K mg "is_count" s_is_count
  d_is_list : DefAt K mg "is_list" s_is_list
  d_are_shelves : DefAt K mg "are_shelves" s_are_shelves
  d_want_shelves : DefAt K mg "want_shelves" s_want_shelves
  d_is_lot_of : DefAt K mg "is_lot_of" s_is_lot_of
  d_want_lot : DefAt K mg "want_lot" s_want_lot
  d_bits_of : DefAt K mg "bits_of" s_bits_of
  d_spots_of : DefAt K mg "spots_of" s_spots_of
  d_told_lot : DefAt K mg "told_lot" s_told_lot
  d_is_kind : DefAt K mg "is_kind" s_is_kind
  d_are_kinds : DefAt K mg "are_kinds" s_are_kinds
  d_plain_kinds : DefAt K mg "plain_kinds" s_plain_kinds
  d_want_store : DefAt K mg "want_store" s_want_store
  d_want_lot_of : DefAt K mg "want_lot_of" s_want_lot_of
  d_is_board_of : DefAt K mg "is_board_of" s_is_board_of
  d_want_board : DefAt K mg "want_board" s_want_board
  d_want_wished : DefAt K mg "want_wished" s_want_wished
  d_lot_at : DefAt K mg "lot_at" s_lot_at
  d_all_of : DefAt K mg "all_of" s_all_of
  d_supported_of : DefAt K mg "supported_of" s_supported_of
  d_comes_up : DefAt K mg "comes_up" s_comes_up
  d_supported : DefAt K mg "supported" s_supported
  d_can_come : DefAt K mg "can_come" s_can_come
  d_kinds_with : DefAt K mg "kinds_with" s_kinds_with
  d_gainers_of : DefAt K mg "gainers_of" s_gainers_of
  d_losers_of : DefAt K mg "losers_of" s_losers_of
  d_is_giver : DefAt K mg "is_giver" s_is_giver
  d_givers_for : DefAt K mg "givers_for" s_givers_for
  d_givers_to : DefAt K mg "givers_to" s_givers_to
  d_comes_from : DefAt K mg "comes_from" s_comes_from
  d_want_both : DefAt K mg "want_both" s_want_both
  d_comes : DefAt K mg "comes" s_comes
  d_law_pot : DefAt K mg "_law_pot" s_law_pot
  d_law_draw : DefAt K mg "_law_draw" s_law_draw
  d_law_pick : DefAt K mg "_law_pick" s_law_pick
  d_law_kinds : DefAt K mg "_law_kinds" s_law_kinds
  d_law_up : DefAt K mg "_law_up" s_law_up
  d_law_walk : DefAt K mg "_law_walk" s_law_walk
  d_law_is_due : DefAt K mg "_law_is_due" s_law_is_due
  d_law_is_looked : DefAt K mg "_law_is_looked" s_law_is_looked
  d_law_board_right : DefAt K mg "_law_board_right" s_law_board_right
  d_law_right : DefAt K mg "_law_right" s_law_right
  d_law : DefAt K mg "law" s_law
  b_isinstance : mg "isinstance" = none
  b_all : mg "all" = none
  b_len : mg "len" = none
  b_sorted : mg "sorted" = none
  b_set : mg "set" = none
  b_enumerate : mg "enumerate" = none
  b_range : mg "range" = none
  b_max : mg "max" = none
  b_min : mg "min" = none
  b_zip : mg "zip" = none
  b_divmod : mg "divmod" = none
  b_abs : mg "abs" = none
  b_int : mg "int" = none
  b_list : mg "list" = none
  b_tuple : mg "tuple" = none
  b_repr : mg "repr" = none
  b_bool : mg "bool" = none
  c_LEAST_SHELVES : ∃ t, mg "LEAST_SHELVES" = some (.int 2 t)
  c_MOST_SHELVES : ∃ t, mg "MOST_SHELVES" = some (.int 8 t)
  c_MOST_KINDS : ∃ t, mg "MOST_KINDS" = some (.int 8 t)
  c_MOST_PIECES : ∃ t, mg "MOST_PIECES" = some (.int 60 t)
/-- the class Store -/
structure TxtC (K : PySem.W.Frag) (mg : Str → Option Value) (C : Addr) : Prop where
  mgC : mg "Store" = some (.ref C)
  ins : C8.InsC K C
  n_own_shelves : NoAttr K C "own_shelves"
  n_own_deliveries : NoAttr K C "own_deliveries"
  n_own_sales : NoAttr K C "own_sales"
  n_own_kept : NoAttr K C "own_kept"
  init : ∃ f fd, Fun K "__init__" "Store.__init__" s_init f fd ∧ Mk K C f
/-- a def as its callers use it -/
def Cal (P : Program) (w : World) (K : PySem.W.Frag) (mg : Str → Option Value) (base : Heap) (name : Str) (ps : List Str) (k : Nat) (sp : Sp) : Prop :=
  ∃ f fd, FnOk P w K mg base CX0 k f fd ps sp ∧ mg name = some (.ref f) ∧ PySem.W.keepIn K (.ref f) = true ∧ Binds K fd ps [] ∧ ∃ (oc : Value) (od : Option Addr) (osl : Array (Option Value)), K.lookup f = some ⟨oc, od, .func fd, osl⟩
section
variable {P : Program} {w : World} {K : PySem.W.Frag} {mg : Str → Option Value} {base : Heap}
theorem cal_of {name : Str} {st : Stmt} {N ps : List Str} {k : Nat} {sp : Sp} (d : DefAt K mg name st) (S : FnScope N ps (defScope st))
    (hb : ∀ (kV doc pm : Value) (an : Option Addr) (cdv ct : Value) (us : List Value), us.length = ps.length → bindArgs (PySem.W.fnOf name name (defArgs st) (defBody st) (defScope st) .none kV doc pm an cdv ct) ⟨us, []⟩ = pure (ps.zip us))
    (len : ∀ vs H Q E, sp vs H Q E → vs.length = ps.length)
    (body : ∀ (f : Addr) (cdv : Value) (A : Around) (outer : List Env) (s : Shared) (H : Hp) (vs : List V) (Q : VK) (E : XK), Room k (A.deeper (envOfC name (defScope st) s.heap.objs.size f cdv)) → sp vs H Q E →
      ∃ t, PSs (cxOf CX0 P w K mg base N name (defScope st) f cdv A outer s H E).nox (defBody st) t ∧ t { nx := fun _ H' => Q .non H', rt := Q } (start N vs) H) : Cal P w K mg base name ps (k + 1) sp := by
  obtain ⟨f, fd, F, g⟩ := d
  exact ⟨f, fd, F.ok S len fun cdv A outer s H vs Q E hr h => body f cdv A outer s H vs Q E hr h, g, F.kp, F.binds hb, (let ⟨oc, od, _, _, _, _, _, _, osl, _, lk, _⟩ := F.ex; ⟨oc, od, osl, lk⟩)⟩
theorem Cal.mono {name : Str} {ps : List Str} {j k : Nat} {sp : Sp} (c : Cal P w K mg base name ps j sp) (h : j ≤ k) : Cal P w K mg base name ps k sp := by
  obtain ⟨f, fd, F, r⟩ := c
  exact ⟨f, fd, F.mono h, r⟩
end
theorem pe_cal {X : Cx} {name : Str} {ps : List Str} {k : Nat} {sp : Sp} {p pos : Pos} {e : Expr} {es : List Expr} {t : TA} (c : Cal X.prog X.w X.K X.mg X.base name ps k sp) (hr : Room k X.A) (ha : PA X (e :: es) t) (hg : Gl X name := by rfl)
    (hdb : (name == ("__debug__" : Str)) = false := by decide) (he : starEach (e :: es) X.env = (false, eval e X.env) :: starEach es X.env := by rfl) (hpl : (backTo pos (starEach es X.env)).any (·.1) = false := by rfl) : PE X (.Call (.Name name p) (e :: es) [] pos) (tCall sp [] E0 t) := by
  obtain ⟨f, fd, F, g, kp, b, _⟩ := c
  exact pe_call F hr hg g kp b .nil pass0 ha hdb he hpl
end K61

/-! basics.py and lots.py, def by def -/
namespace K61
open PySem PySem.Spec PyProof.Rows L2 Evl

/-! ### numbers as values -/
abbrev iN (l : List Nat) : List Int := l.map fun n : Nat => (n : Int)
/-- natural numbers as values -/
abbrev vN (l : List Nat) : List V := (iN l).map V.int
theorem vN_get {l : List Nat} {i : Nat} {x : V} (h : (vN l)[i]? = some x) : ∃ n, l[i]? = some n ∧ x = .int (n : Int) := by
  unfold vN iN at h
  rw [List.getElem?_map, List.getElem?_map] at h
  cases e : l[i]? with
  | none => rw [e] at h; cases h
  | some n => rw [e] at h; exact ⟨n, rfl, (Option.some.inj h).symm⟩
theorem vN_at {l : List Nat} {i n : Nat} (h : l[i]? = some n) : (vN l)[i]? = some (.int (n : Int)) := by
  unfold vN iN
  rw [List.getElem?_map, List.getElem?_map, h]
  rfl
theorem vN_len (l : List Nat) : (vN l).length = l.length := by
  unfold vN iN
  rw [List.length_map, List.length_map]
theorem vN_getD {l : List Nat} {i : Nat} (h : i < l.length) : (vN l).getD i .non = .int ((l.getD i 0 : Nat) : Int) := by
  rw [List.getD_eq_getElem?_getD, vN_at (List.getElem?_eq_getElem h), List.getD_eq_getElem?_getD, List.getElem?_eq_getElem h]
  rfl

section
variable {K : PySem.W.Frag} {σ : L2.St} {H : Hp}
theorem rc_isi {i : Int} {n : String} {b : Bool} (h : kitB "int" n = some b) : RC (rIsi K) [.int i, .ty n] H (.bl b) := fun H1 e Q q =>
  ⟨.int i, .ty n, .type "int", .type n, b, rfl, .ty n, .base (.int i), kit_ty h, q H1 (Ex.refl H1)⟩
theorem rv_shl1 {k : Nat} (h : k ≤ 1000) : RV (fun x y H Q => ∃ k : Nat, x = .int 1 ∧ y = .int (k : Int) ∧ k ≤ 134217727 ∧ Q (.int (2 ^ k)) H) (.int 1) (.int (k : Int)) H (.int ((2 ^ k : Nat) : Int)) := fun H1 e Q q =>
  ⟨k, rfl, rfl, by omega, by rw [← PySem.W.kbt_cast k]; exact q H1 (Ex.refl H1)⟩
theorem rv_or {a b : Nat} : RV (rI0 fun i j => .int (Builtin.bitOr i j)) (.int (a : Int)) (.int (b : Int)) H (.int ((a ||| b : Nat) : Int)) := fun H1 e Q q => by
  refine ⟨a, b, rfl, rfl, ?_⟩
  show Q (.int (Builtin.bitOr (a : Int) (b : Int))) H1
  rw [bitOr_nn (Int.natCast_nonneg _) (Int.natCast_nonneg _)]
  exact q H1 (Ex.refl H1)
theorem rv_shr {a k : Nat} : RV (fun x y H Q => ∃ (i : Int) (k : Nat), x = .int i ∧ y = .int (k : Int) ∧ Q (.int (i / 2 ^ k)) H) (.int (a : Int)) (.int (k : Int)) H (.int ((a / 2 ^ k : Nat) : Int)) := fun H1 e Q q => by
  refine ⟨a, k, rfl, rfl, ?_⟩
  rw [Int.natCast_ediv, PySem.W.kbt_cast] at q
  exact q H1 (Ex.refl H1)
theorem rv_odd {a : Nat} : RV (fun x y H Q => ∃ n : Nat, x = .int (n : Int) ∧ y = .int 1 ∧ Q (.int ((n % 2 : Nat) : Int)) H) (.int (a : Int)) (.int 1) H (.int ((a % 2 : Nat) : Int)) := fun H1 e Q q => ⟨a, rfl, rfl, q H1 (Ex.refl H1)⟩
theorem rv_eqI {i j : Int} : RV rEq (.int i) (.int j) H (.bl (decide (i = j))) := fun H1 e Q q => by
  refine ⟨rfl, ?_⟩
  have h : decide (V.int i = V.int j) = decide (i = j) := by
    rw [dec_int]
    exact Bool.eq_iff_iff.mpr (by rw [beq_iff_eq, decide_eq_true_eq])
  rw [h]
  exact q H1 (Ex.refl H1)
theorem rv_neI {i j : Int} : RV rNe (.int i) (.int j) H (.bl (!decide (i = j))) := fun H1 e Q q => by
  refine ⟨rfl, ?_⟩
  have h : decide (V.int i = V.int j) = decide (i = j) := by
    rw [dec_int]
    exact Bool.eq_iff_iff.mpr (by rw [beq_iff_eq, decide_eq_true_eq])
  rw [h]
  exact q H1 (Ex.refl H1)
theorem bit_test (b s : Nat) : decide (((b / 2 ^ s % 2 : Nat) : Int) = 1) = b.testBit s := by
  rw [Nat.testBit_eq_decide_div_mod_eq]
  refine decide_eq_decide.mpr ?_
  omega
/-- bits >> shelf & 1 == 1 -/
theorem ev_bit {ta tb : TE} {b s : Nat} (ha : Ev ta σ H (.int (b : Int))) (hb : Ev tb σ H (.int (s : Int))) :
    Ev (tOp rEq (tOp (fun x y H Q => ∃ n : Nat, x = .int (n : Int) ∧ y = .int 1 ∧ Q (.int ((n % 2 : Nat) : Int)) H) (tOp (fun x y H Q => ∃ (i : Int) (k : Nat), x = .int i ∧ y = .int (k : Int) ∧ Q (.int (i / 2 ^ k)) H) ta tb) (tC (.int 1))) (tC (.int 1))) σ H (.bl (b.testBit s)) := by
  rw [← bit_test]
  exact ev_op (ev_op (ev_op ha hb rv_shr) ev_c rv_odd) ev_c rv_eqI
/-- a call that makes a tuple -/
def RCU (r : List V → Hp → VK → Prop) (vs : List V) (H : Hp) (xs : List V) : Prop := ∀ H1, Ex H H1 → ∀ Q : VK, (∀ p H2, H1 p = none → Ex H1 H2 → H2 p = some (.tup xs) → Q (.ref p) H2) → r vs H1 Q
theorem eu_cbL {ta : TE} {r : List V → Hp → VK → Prop} {xs ys : List V} (h : EvL ta σ H xs) (hr : ∀ p H1, Ex H H1 → H1 p = some (.lst xs) → RCU r [.ref p] H1 ys) : EvU (tCB r (tCons ta tNil)) σ H ys := fun H1 e Q q =>
  h H1 e _ fun p H2 _ e2 hp => hr p H2 (e.trans e2) hp H2 (Ex.refl H2) Q fun p3 H3 hp3 e3 h3 => q p3 H3 (fresh_back e2 hp3) (e2.trans e3) h3
theorem el_cbU {ta : TE} {r : List V → Hp → VK → Prop} {xs ys : List V} (h : EvU ta σ H xs) (hr : ∀ p H1, Ex H H1 → H1 p = some (.tup xs) → RCL r [.ref p] H1 ys) : EvL (tCB r (tCons ta tNil)) σ H ys := fun H1 e Q q =>
  h H1 e _ fun p H2 _ e2 hp => hr p H2 (e.trans e2) hp H2 (Ex.refl H2) Q fun p3 H3 hp3 e3 h3 => q p3 H3 (fresh_back e2 hp3) (e2.trans e3) h3
abbrev rTupOf (K : PySem.W.Frag) : List V → Hp → VK → Prop := fun xs H Q => ∃ p ys, xs = [.ref p] ∧ ((SqL K H p ys ∧ ∀ l, H l = none → Q (.ref l) (upd H l (.tup ys))) ∨ (SqT K H p ys ∧ Q (.ref p) H))
theorem ru_tup {a : Addr} {xs : List V} (h : SqL K H a xs) : RCU (rTupOf K) [.ref a] H xs := fun H1 e Q q => ⟨a, xs, rfl, .inl ⟨ex_l e h, fun l hl => q l _ hl (Ex.new hl) upd_same⟩⟩
abbrev rLstOf (K : PySem.W.Frag) : List V → Hp → VK → Prop := fun xs H Q => ∃ p ys, xs = [.ref p] ∧ (SqL K H p ys ∨ SqT K H p ys) ∧ ∀ l, H l = none → Q (.ref l) (upd H l (.lst ys))
theorem rl_list {a : Addr} {xs : List V} (h : Sq K H a xs) : RCL (rLstOf K) [.ref a] H xs := fun H1 e Q q => ⟨a, xs, rfl, h.mono e, fun l hl => q l _ hl (Ex.new hl) upd_same⟩
def SpU (sp : Sp) (vs : List V) (H : Hp) (xs : List V) : Prop := ∀ H1, Ex H H1 → ∀ Q : VK, (∀ p H2, H1 p = none → Ex H1 H2 → H2 p = some (.tup xs) → Q (.ref p) H2) → ∀ E : XK, sp vs H1 Q E
theorem eu_call {sp : Sp} {vs xs : List V} {E : XK} {ta : TA} (h : EvA ta σ H vs) (hs : SpU sp vs H xs) : EvU (tCall sp [] E ta) σ H xs := fun H1 e Q q =>
  h H1 e _ fun H2 e2 => by
    rw [List.append_nil]
    exact hs H2 (e.trans e2) Q (fun p H3 hp e3 h3 => q p H3 (fresh_back e2 hp) (e2.trans e3) h3) E
/-- the same with a list handed in as the only argument of a def -/
theorem Tk.lst {a : Addr} {xs : List V} (h : H a = some (.lst xs)) : Tk H a xs := .inl h
end

/-! ### the promises -/
def spIsInteger : Sp := fun vs H Q _ => ∃ i : Int, vs = [.int i] ∧ RetV (.bl true) H Q
def spIsCount : Sp := fun vs H Q _ => ∃ i : Int, vs = [.int i] ∧ RetV (.bl (decide (0 ≤ i))) H Q
def spIsList : Sp := fun vs H Q _ => ∃ a xs, vs = [.ref a] ∧ Tk H a xs ∧ RetV (.bl true) H Q
def spAreShelves : Sp := fun vs H Q _ => ∃ n : Nat, vs = [.int (n : Int)] ∧ (2 ≤ n ∧ n ≤ 8) ∧ RetV (.bl true) H Q
def spWantShelves : Sp := fun vs H Q _ => ∃ n : Nat, vs = [.int (n : Int)] ∧ (2 ≤ n ∧ n ≤ 8) ∧ RetV .non H Q
/-- a lot of so many shelves -/
def LotOk (n : Nat) (l : List Nat) : Prop := l.Nodup ∧ ∀ s ∈ l, s < n
def spLotTrue : Sp := fun vs H Q _ => ∃ (n : Nat) (a : Addr) (l : List Nat), vs = [.int (n : Int), .ref a] ∧ Tk H a (vN l) ∧ LotOk n l ∧ n ≤ 8 ∧ RetV (.bl true) H Q
def spWantLot : Sp := fun vs H Q _ => ∃ (n : Nat) (a : Addr) (l : List Nat), vs = [.int (n : Int), .ref a] ∧ Tk H a (vN l) ∧ LotOk n l ∧ n ≤ 8 ∧ RetV (.int (bitsOf l : Nat)) H Q
def spBitsOf : Sp := fun vs H Q _ => ∃ (a : Addr) (l : List Nat), vs = [.ref a] ∧ Tk H a (vN l) ∧ (∀ s ∈ l, s < 8) ∧ RetV (.int (bitsOf l : Nat)) H Q
def RetU (xs : List V) (H : Hp) (Q : VK) : Prop := ∀ p H2, H p = none → Ex H H2 → H2 p = some (.tup xs) → Q (.ref p) H2
def spSpotsOf : Sp := fun vs H Q _ => ∃ b : Nat, vs = [.int (b : Int)] ∧ RetU (vN (spots b)) H Q
def spToldLot : Sp := fun vs H Q _ => ∃ b : Nat, vs = [.int (b : Int)] ∧ RetL (vN (spots b)) H Q

section
variable {P : Program} {w : World} {K : PySem.W.Frag} {mg : Str → Option Value} {base : Heap}
theorem ok_is_integer (T : Txt K mg) : Cal P w K mg base "is_integer" p_is_integer 1 spIsInteger := by
  refine cal_of T.d_is_integer sc_is_integer (fun _ _ _ _ _ _ us hl => match us, hl with | [_], _ => rfl) (fun vs H Q E h => ?_) (fun f cdv A outer s H vs Q E hr h => ?_)
  · obtain ⟨i, rfl, _⟩ := h
    rfl
  · obtain ⟨i, rfl, q⟩ := h
    refine ⟨_, pss_one (ps_ret (pe_and (pe_callB call_isi (by rfl) T.b_isinstance (by decide +kernel) (pa_cons (pv 0) (pa_cons (pe_bltn (v := .ty "int") (by rfl) T.b_int (by decide +kernel) rfl) pa_nil)))
      (pe_one (pe_not (pe_callB call_isi (by rfl) T.b_isinstance (by decide +kernel) (pa_cons (pv 0) (pa_cons (pe_bltn (v := .ty "bool") (by rfl) T.b_bool (by decide +kernel) rfl) pa_nil))))))), ?_⟩
    exact s_ret (ev_andV (a := true) (b := true) (ev_cb (ea_cons (ev_var rfl) (ea_cons ev_c ea_nil)) (rc_isi (by decide +kernel))) fun _ => ev_notV (a := false) (ev_cb (ea_cons (ev_var rfl) (ea_cons ev_c ea_nil)) (rc_isi (by decide +kernel)))) fun H1 e => q H1 e
theorem sv_is_integer {i : Int} {H : Hp} : SpV spIsInteger [.int i] H (.bl true) := fun H1 e Q q E => ⟨i, rfl, q⟩
theorem ok_is_count (T : Txt K mg) : Cal P w K mg base "is_count" p_is_count 2 spIsCount := by
  refine cal_of T.d_is_count sc_is_count (fun _ _ _ _ _ _ us hl => match us, hl with | [_], _ => rfl) (fun vs H Q E h => ?_) (fun f cdv A outer s H vs Q E hr h => ?_)
  · obtain ⟨i, rfl, _⟩ := h
    rfl
  · obtain ⟨i, rfl, q⟩ := h
    refine ⟨_, pss_one (ps_ret (pe_and (pe_cal (ok_is_integer T) hr (pa_cons (pv 0) pa_nil)) (pe_one (pe_cmpR op_ge (pv 0) pe_int (nomark _))))), ?_⟩
    exact s_ret (ev_andV (a := true) (ev_call (ea_cons (ev_var rfl) ea_nil) sv_is_integer) fun _ => ev_op (ev_var rfl) ev_c rv_I0) fun H1 e => q H1 e
theorem sv_is_count {i : Int} {H : Hp} : SpV spIsCount [.int i] H (.bl (decide (0 ≤ i))) := fun H1 e Q q E => ⟨i, rfl, q⟩
theorem ok_is_list (T : Txt K mg) : Cal P w K mg base "is_list" p_is_list 1 spIsList := by
  refine cal_of T.d_is_list sc_is_list (fun _ _ _ _ _ _ us hl => match us, hl with | [_], _ => rfl) (fun vs H Q E h => ?_) (fun f cdv A outer s H vs Q E hr h => ?_)
  · obtain ⟨a, xs, rfl, _⟩ := h
    rfl
  · obtain ⟨a, xs, rfl, ha, q⟩ := h
    refine ⟨_, pss_one (ps_ret (pe_callB call_isiT (by rfl) T.b_isinstance (by decide +kernel) (pa_cons (pv 0) (pa_cons (pe_tup (pa_cons (pe_bltn (v := .ty "list") (by rfl) T.b_list (by decide +kernel) rfl) (pa_cons (pe_bltn (v := .ty "tuple") (by rfl) T.b_tuple (by decide +kernel) rfl) pa_nil))) pa_nil)))), ?_⟩
    refine ⟨_, rfl, (by show 2 ≤ sizeLine; decide), fun p hp => ?_⟩
    have e1 : Ex H (upd H p (.tup [.ty "list", .ty "tuple"])) := Ex.new hp
    have fin : ∀ t : Value, TyX K (upd H p (.tup [.ty "list", .ty "tuple"])) (.ref a) t → PySem.W.kitAny K t [.type "list", .type "tuple"] = some true → rIsiT K [.ref a, .ref p] (upd H p (.tup [.ty "list", .ty "tuple"])) Q := fun t ty k =>
      ⟨.ref a, p, _, t, _, true, rfl, upd_same, .cons (.ty _) (.cons (.ty _) .nil), ty, k, q _ e1⟩
    rcases ha with ha | ha
    · exact fin _ (.base (.lst (e1 a _ ha))) (kitAny_cons (b := true) (kit_ty (by decide +kernel)) (fun z => nomatch z) fun _ => rfl)
    · exact fin _ (.base (.tup (e1 a _ ha))) (kitAny_cons (b := false) (kit_ty (by decide +kernel)) (fun _ => kitAny_cons (b := true) (kit_ty (by decide +kernel)) (fun z => nomatch z) fun _ => rfl) fun z => nomatch z)
theorem sv_is_list {a : Addr} {xs : List V} {H : Hp} (h : Tk H a xs) : SpV spIsList [.ref a] H (.bl true) := fun H1 e Q q E => ⟨a, xs, rfl, h.mono e, q⟩
theorem ok_are_shelves (T : Txt K mg) : Cal P w K mg base "are_shelves" p_are_shelves 3 spAreShelves := by
  refine cal_of T.d_are_shelves sc_are_shelves (fun _ _ _ _ _ _ us hl => match us, hl with | [_], _ => rfl) (fun vs H Q E h => ?_) (fun f cdv A outer s H vs Q E hr h => ?_)
  · obtain ⟨n, rfl, _⟩ := h
    rfl
  · obtain ⟨n, rfl, hn, q⟩ := h
    obtain ⟨t1, g1⟩ := T.c_LEAST_SHELVES
    obtain ⟨t2, g2⟩ := T.c_MOST_SHELVES
    refine ⟨_, pss_one (ps_ret (pe_and (pe_cal (ok_is_count T) hr (pa_cons (pv 0) pa_nil)) (pe_one (pe_chain op_le op_le (pe_glob (v := .int 2) (by rfl) g1 ⟨_, rfl⟩) (pv 0) (pe_glob (v := .int 8) (by rfl) g2 ⟨_, rfl⟩))))), ?_⟩
    refine s_ret (v := .bl true) (ev_andV (a := true) (b := true) ?_ fun _ => ?_) fun H1 e => q H1 e
    · exact ev_is (ev_call (ea_cons (ev_var rfl) ea_nil) sv_is_count) (by rw [decide_eq_true (Int.natCast_nonneg n)])
    · intro H1 e Q q
      refine ⟨_, rfl, 2, n, rfl, rfl, true, ?_, ?_⟩
      · show V.bl (decide ((2 : Int) ≤ (n : Int))) = V.bl true
        rw [decide_eq_true (by omega : (2 : Int) ≤ (n : Int))]
      · refine iteT ⟨n, 8, rfl, rfl, ?_⟩
        show Q (.bl (decide ((n : Int) ≤ 8))) H1
        rw [decide_eq_true (by omega : (n : Int) ≤ 8)]
        exact q H1 (Ex.refl H1)
theorem sv_are_shelves {n : Nat} {H : Hp} (h : 2 ≤ n ∧ n ≤ 8) : SpV spAreShelves [.int (n : Int)] H (.bl true) := fun H1 e Q q E => ⟨n, rfl, h, q⟩
theorem ok_want_shelves (T : Txt K mg) : Cal P w K mg base "want_shelves" p_want_shelves 4 spWantShelves := by
  refine cal_of T.d_want_shelves sc_want_shelves (fun _ _ _ _ _ _ us hl => match us, hl with | [_], _ => rfl) (fun vs H Q E h => ?_) (fun f cdv A outer s H vs Q E hr h => ?_)
  · obtain ⟨n, rfl, _⟩ := h
    rfl
  · obtain ⟨n, rfl, hn, q⟩ := h
    refine ⟨_, pss_one (ps_if (pt_not (pt_val (pe_cal (ok_are_shelves T) hr (pa_cons (pv 0) pa_nil)))) pss_never pss_nil), ?_⟩
    exact s_if (et_not (et_B (ev_call (ea_cons (ev_var rfl) ea_nil) (sv_are_shelves hn)))) (fun z => nomatch z) fun _ H1 e => q H1 e
theorem sv_want_shelves {n : Nat} {H : Hp} (h : 2 ≤ n ∧ n ≤ 8) : SpV spWantShelves [.int (n : Int)] H .non := fun H1 e Q q E => ⟨n, rfl, h, q⟩
theorem ok_bits_of (T : Txt K mg) : Cal P w K mg base "bits_of" p_bits_of 1 spBitsOf := by
  refine cal_of T.d_bits_of sc_bits_of (fun _ _ _ _ _ _ us hl => match us, hl with | [_], _ => rfl) (fun vs H Q E h => ?_) (fun f cdv A outer s H vs Q E hr h => ?_)
  · obtain ⟨a, l, rfl, _⟩ := h
    rfl
  · obtain ⟨a, l, rfl, ha, hl, q⟩ := h
    refine ⟨_, pss_cons (ps_set (i := 1) sc_bits_of.nd rfl (.inl rfl) pe_int)
      (pss_cons (ps_for PassesOwn.never rfl (pi_seq (pv 0)) (pg_name (i := 2) sc_bits_of.nd rfl (.inl rfl)) (pss_one (ps_set (i := 1) sc_bits_of.nd rfl (.inl rfl) (pe_op op_or (pv 1) (pe_op op_oneShl pe_int (pv 2))))))
      (pss_one (ps_ret (pv 1)))), ?_⟩
    refine q_asg ev_c fun H1 e1 => ?_
    refine q_forS (ev_var rfl) (ha.mono e1).sq (fun i σ' H' => ∃ y, σ' = [some (.ref a), some (.int (bitsOf (l.take i) : Nat)), y] ∧ Ex H1 H') (fun H2 e2 => ⟨none, rfl, e2⟩) ?_ ?_ ?_
    · rintro i σ' H' _ ⟨y, _, e⟩
      exact e
    · rintro i x σ' H' hx ⟨y, rfl, e⟩
      obtain ⟨n, hn, rfl⟩ := vN_get hx
      refine s_asg (v := .int (bitsOf (l.take (i + 1)) : Nat)) (ev_is (ev_op (ev_var rfl) (ev_op ev_c (ev_var rfl) (rv_shl1 ?_)) rv_or) ?_) fun H2 e2 => ⟨_, rfl, e.trans e2⟩
      · have := hl n (List.mem_of_getElem? hn)
        omega
      · rw [List.take_add_one, hn]
        exact congrArg (fun b : Nat => V.int (b : Int)) (bitsOf_snoc _ _).symm
    · rintro σ' H' ⟨y, rfl, e⟩
      rw [vN_len, List.take_length]
      exact s_ret (ev_var rfl) fun H2 e2 => q H2 ((e1.trans e).trans e2)
theorem sv_bits_of {a : Addr} {l : List Nat} {H : Hp} (h : Tk H a (vN l)) (hl : ∀ s ∈ l, s < 8) : SpV spBitsOf [.ref a] H (.int (bitsOf l : Nat)) := fun H1 e Q q E => ⟨a, l, rfl, h.mono e, hl, q⟩
theorem et_yes {σ : L2.St} {H : Hp} : EvT tYes σ H true := fun H1 e Q q => q H1 (Ex.refl H1)
theorem given_nat (n : Nat) (f : Nat → Bool) (v : Nat → Nat) : given n f (fun i => .int (v i : Nat)) = vN (((List.range n).filter f).map v) := by
  unfold given vN iN
  rw [List.map_map, List.map_map]
  rfl
theorem given_bl (n : Nat) (g : Nat → Bool) : given n (fun _ => true) (fun i => .bl (g i)) = ((List.range n).map g).map V.bl := by
  unfold given
  rw [List.map_map, List.filter_eq_self.mpr fun _ _ => rfl]
  rfl
theorem ok_spots_of (T : Txt K mg) : Cal P w K mg base "spots_of" p_spots_of 1 spSpotsOf := by
  refine cal_of T.d_spots_of sc_spots_of (fun _ _ _ _ _ _ us hl => match us, hl with | [_], _ => rfl) (fun vs H Q E h => ?_) (fun f cdv A outer s H vs Q E hr h => ?_)
  · obtain ⟨b, rfl, _⟩ := h
    rfl
  · obtain ⟨b, rfl, q⟩ := h
    obtain ⟨t2, g2⟩ := T.c_MOST_SHELVES
    refine ⟨_, pss_one (ps_ret (pe_callTy call_tuple_of (by rfl) T.b_tuple (by decide +kernel) (pa_cons (pe_lc (own := [("shelf", 1)]) rfl sc_spots_of.nd (pi_range1 (by rfl) T.b_range (pa_cons (pe_glob (v := .int 8) (by rfl) g2 ⟨_, rfl⟩) pa_nil))
      (blkOk_by (N := n_spots_of) (sc := defScope s_spots_of) (by decide +kernel)) (fun _ _ _ _ _ => pg_name (i := 1) sc_spots_of.nd rfl (Or.inl rfl))
      (fun _ _ _ _ _ => pts_one (pt_cmpR op_eq (pe_op op_odd (pe_op op_shrN (pv 0) (pv 1)) pe_int) pe_int (nomark _))) (fun _ _ _ _ _ => pv 1)) pa_nil))), ?_⟩
    refine s_retU (eu_cbL (el_lcR1 (n := 8) (fun i => b.testBit i) (fun i => .int (i : Nat)) (ea_cons ev_c ea_nil) (by omega) (fun x => rfl) (fun i H1 e hi => et_test (ev_bit (ev_var rfl) (ev_var rfl))) (fun i H1 e hi hf => ev_var rfl)) fun p H1 e h1 => ru_tup (.of h1)) fun p H1 hp e1 h1 => q p H1 hp e1 ?_
    have e2 := given_nat 8 (fun i => b.testBit i) fun i => i
    rw [List.map_id'] at e2
    exact h1.trans (congrArg (fun l => some (HO.tup l)) e2)
theorem su_spots_of {b : Nat} {H : Hp} : SpU spSpotsOf [.int (b : Int)] H (vN (spots b)) := fun H1 e Q q E => ⟨b, rfl, q⟩
theorem ok_told_lot (T : Txt K mg) : Cal P w K mg base "told_lot" p_told_lot 2 spToldLot := by
  refine cal_of T.d_told_lot sc_told_lot (fun _ _ _ _ _ _ us hl => match us, hl with | [_], _ => rfl) (fun vs H Q E h => ?_) (fun f cdv A outer s H vs Q E hr h => ?_)
  · obtain ⟨b, rfl, _⟩ := h
    rfl
  · obtain ⟨b, rfl, q⟩ := h
    refine ⟨_, pss_one (ps_ret (pe_callTy call_list_of (by rfl) T.b_list (by decide +kernel) (pa_cons (pe_cal (ok_spots_of T) hr (pa_cons (pv 0) pa_nil)) pa_nil))), ?_⟩
    exact s_retL (el_cbU (eu_call (ea_cons (ev_var rfl) ea_nil) su_spots_of) fun p H1 e h1 => rl_list (.inr (.of h1))) fun p H1 hp e1 h1 => q p H1 hp e1 h1
theorem sl_told_lot {b : Nat} {H : Hp} : SpL spToldLot [.int (b : Int)] H (vN (spots b)) := fun H1 e Q q E => ⟨b, rfl, q⟩
end
end K61

/-! lots that are handed in, kinds -/
namespace K61
open PySem PySem.Spec PyProof.Rows L2 Evl

/-! ### sorted(set(xs)) -/
section
variable {K : PySem.W.Frag} {w : World} {σ : L2.St} {H : Hp}
abbrev tSS (K : PySem.W.Frag) (w : World) (tx : TE) : TE := tCB (rSortedSet w) (tCons (tCB (rSetS K w) (tCons tx tNil)) tNil)
theorem go_ss {tx : TE} {a : Addr} {ns : List Int} (h : Ev tx σ H (.ref a)) (hs : Sq K H a (ns.map V.int)) (hz : ns.length ≤ 60) : ∀ H1, Ex H H1 → ∀ Q : VK,
    (∀ (ns' : List Int) p H2, H1 p = none → Ex H1 H2 → H2 p = some (.lst (ns'.map V.int)) → (∀ k, k ∈ ns' ↔ k ∈ ns) → ns'.length ≤ ns.length → (ns.Nodup → ns'.length = ns.length) → Q (.ref p) H2) → tSS K w tx σ H1 Q := fun H1 e Q q =>
  h H1 e _ fun H2 e2 => ⟨a, ns, rfl, hs.mono (e.trans e2), by omega, fun b n hb hn hd => ⟨b, _, n, rfl, upd_same, by omega, fun ns' p _ hm hl hp =>
    q ns' p _ (fresh_back e2 (fresh_back (Ex.new hb) hp)) (e2.trans ((Ex.new hb).trans (Ex.new hp))) upd_same (fun k => (hm k).trans (by rw [decide_eq_true_eq])) (by omega) fun nd => by rw [hl, hd nd]⟩⟩
theorem ev_lenSS {tx : TE} {a : Addr} {ns : List Int} (h : Ev tx σ H (.ref a)) (hs : Sq K H a (ns.map V.int)) (hz : ns.length ≤ 60) (nd : ns.Nodup) : Ev (tCB (rLen2 K) (tCons (tSS K w tx) tNil)) σ H (.int (ns.length : Int)) := fun H1 e Q q =>
  go_ss h hs hz H1 e _ fun ns' p H2 _ e2 h2 _ _ hl => ⟨p, _, rfl, .inl (.of h2), by
    rw [List.length_map, hl nd]
    exact q H2 e2⟩
end
theorem nodup_iN {l : List Nat} (h : l.Nodup) : (iN l).Nodup := by
  refine List.pairwise_map.mpr (h.imp fun {a b} hne e => hne ?_)
  exact Int.ofNat.inj e
theorem few : ∀ (n : Nat) (l : List Nat), l.Nodup → (∀ s ∈ l, s < n) → l.length ≤ n
  | 0, l, _, h => by
    cases l with
    | nil => exact Nat.le_refl _
    | cons s r => exact absurd (h s List.mem_cons_self) (Nat.not_lt_zero _)
  | n + 1, l, nd, h => by
    by_cases m : n ∈ l
    · have h1 := few n (l.erase n) (nd.erase n) fun s hs => by
        have h2 := (List.Nodup.mem_erase_iff nd).mp hs
        have h3 := h s h2.2
        have h4 := h2.1
        omega
      rw [List.length_erase_of_mem m] at h1
      omega
    · have h1 := few n l nd fun s hs => by
        have h3 := h s hs
        have h4 : s ≠ n := fun e => m (e ▸ hs)
        omega
      omega
theorem lot_len {n : Nat} {l : List Nat} (h : LotOk n l) : l.length ≤ n := few n l h.1 h.2
theorem all_map_true {n : Nat} {g : Nat → Bool} (h : ∀ i, i < n → g i = true) : ((List.range n).map g).all id = true := by
  rw [List.all_eq_true]
  intro b hb
  obtain ⟨i, hi, rfl⟩ := List.mem_map.mp hb
  exact h i (List.mem_range.mp hi)
section
variable {P : Program} {w : World} {K : PySem.W.Frag} {mg : Str → Option Value} {base : Heap}
theorem ok_is_lot_of (T : Txt K mg) : Cal P w K mg base "is_lot_of" p_is_lot_of 3 spLotTrue := by
  refine cal_of T.d_is_lot_of sc_is_lot_of (fun _ _ _ _ _ _ us hl => match us, hl with | [_, _], _ => rfl) (fun vs H Q E h => ?_) (fun f cdv A outer s H vs Q E hr h => ?_)
  · obtain ⟨n, a, l, rfl, _⟩ := h
    rfl
  · obtain ⟨n, a, l, rfl, ha, hl, hn, q⟩ := h
    have hr1 : Room 1 _ := hr.mono (by decide)
    refine ⟨_, pss_cons (ps_if (PW.pt (pw_or (pt_not (pt_val (pe_cal (ok_is_list T) hr1 (pa_cons (pv 1) pa_nil)))) (pw_or1 (pt_not (pt_val (pe_callB (cr_all rfl) (by rfl) T.b_all (by decide +kernel) (pa_cons
        (pe_lc (own := [("shelf", 2)]) rfl sc_is_lot_of.nd (pi_seq (pv 1)) (blkOk_by (N := n_is_lot_of) (sc := defScope s_is_lot_of) (by decide +kernel)) (fun _ _ _ _ _ => pg_name (i := 2) sc_is_lot_of.nd rfl (Or.inl rfl)) (fun _ _ _ _ _ => pts_nil)
          (fun _ _ _ _ _ => pe_and (pe_cal (ok_is_count T) hr (pa_cons (pv 2) pa_nil)) (pe_one (pe_cmpR op_lt (pv 2) (pv 0) (nomark _))))) pa_nil))))))) pss_never pss_nil)
      (pss_one (ps_ret (pe_cmpR op_eq (pe_callB call_len_seq (by rfl) T.b_len boot_len (pa_cons (pe_callB (cr_sortedSet rfl) (by rfl) T.b_sorted (by decide +kernel) (pa_cons (pe_callTy (cr_setS rfl) (by rfl) T.b_set (by decide +kernel) (pa_cons (pv 1) pa_nil)) pa_nil)) pa_nil))
        (pe_callB call_len_seq (by rfl) T.b_len boot_len (pa_cons (pv 1) pa_nil)) (nomark _)))), ?_⟩
    have hlen := lot_len hl
    refine q_when (b := false) (et_or (a := false) (b := false) (et_not (a := true) (et_B (ev_call (ea_cons (ev_var rfl) ea_nil) (sv_is_list ha)))) fun _ => et_not (a := true) (et_B ?_)) (fun z => nomatch z) fun _ H1 e1 => ?_
    · refine ev_is (ev_cbL (el_lcS (fun _ => true) (fun _ => .bl true) (ev_var rfl) ha.sq (by rw [vN_len]; omega) (fun x => rfl) (fun i x hx => et_yes) fun i x hx _ => ?_) fun p H1 e1 h1 => rc_all (bs := (List.range (vN l).length).map fun _ => true) (.of (h1.trans (congrArg (fun l => some (HO.lst l)) (given_bl _ fun _ => true))))) ?_
      · obtain ⟨k, hk, rfl⟩ := vN_get hx
        have hkn := hl.2 k (List.mem_of_getElem? hk)
        refine ev_is (ev_andV (ev_call (ea_cons (ev_var rfl) ea_nil) sv_is_count) fun _ => ev_op (ev_var rfl) (ev_var rfl) rv_I0) ?_
        rw [decide_eq_true (Int.natCast_nonneg k), decide_eq_true (by omega : (k : Int) < (n : Int))]
        rfl
      · rw [all_map_true fun _ _ => rfl]
    · refine s_ret (v := .bl true) (ev_is (ev_op (ev_lenSS (ev_var rfl) (ha.mono e1).sq (by rw [List.length_map]; omega) (nodup_iN hl.1)) (ev_cb (ea_cons (ev_var rfl) ea_nil) (rc_len (ha.mono e1).sq)) rv_eqI) ?_) fun H2 e2 => q H2 (e1.trans e2)
      rw [List.length_map, vN_len, decide_eq_true rfl]
theorem sv_is_lot_of {n : Nat} {a : Addr} {l : List Nat} {H : Hp} (h : Tk H a (vN l)) (hl : LotOk n l) (hn : n ≤ 8) : SpV spLotTrue [.int (n : Int), .ref a] H (.bl true) := fun H1 e Q q E => ⟨n, a, l, rfl, h.mono e, hl, hn, q⟩
theorem ok_want_lot (T : Txt K mg) : Cal P w K mg base "want_lot" p_want_lot 4 spWantLot := by
  refine cal_of T.d_want_lot sc_want_lot (fun _ _ _ _ _ _ us hl => match us, hl with | [_, _], _ => rfl) (fun vs H Q E h => ?_) (fun f cdv A outer s H vs Q E hr h => ?_)
  · obtain ⟨n, a, l, rfl, _⟩ := h
    rfl
  · obtain ⟨n, a, l, rfl, ha, hl, hn, q⟩ := h
    refine ⟨_, pss_cons (ps_if (pt_not (pt_val (pe_cal (ok_is_lot_of T) hr (pa_cons (pv 0) (pa_cons (pv 1) pa_nil))))) pss_never pss_nil) (pss_one (ps_ret (pe_cal (ok_bits_of T) (hr.mono (by decide)) (pa_cons (pv 1) pa_nil)))), ?_⟩
    refine q_when (b := false) (et_not (a := true) (et_B (ev_call (ea_cons (ev_var rfl) (ea_cons (ev_var rfl) ea_nil)) (sv_is_lot_of ha hl hn)))) (fun z => nomatch z) fun _ H1 e1 => ?_
    exact s_ret (ev_call (ea_cons (ev_var rfl) ea_nil) (sv_bits_of (ha.mono e1) fun s hs => Nat.lt_of_lt_of_le (hl.2 s hs) hn)) fun H2 e2 => q H2 (e1.trans e2)
theorem sv_want_lot {n : Nat} {a : Addr} {l : List Nat} {H : Hp} (h : Tk H a (vN l)) (hl : LotOk n l) (hn : n ≤ 8) : SpV spWantLot [.int (n : Int), .ref a] H (.int (bitsOf l : Nat)) := fun H1 e Q q E => ⟨n, a, l, rfl, h.mono e, hl, hn, q⟩

/-! ### kinds -/
def spIsKind : Sp := fun vs H Q _ => ∃ (n : Nat) (a : Addr) (l : List Nat), vs = [.int (n : Int), .ref a] ∧ Tk H a (vN l) ∧ LotOk n l ∧ l ≠ [] ∧ n ≤ 8 ∧ RetV (.bl true) H Q
theorem ok_is_kind (T : Txt K mg) : Cal P w K mg base "is_kind" p_is_kind 4 spIsKind := by
  refine cal_of T.d_is_kind sc_is_kind (fun _ _ _ _ _ _ us hl => match us, hl with | [_, _], _ => rfl) (fun vs H Q E h => ?_) (fun f cdv A outer s H vs Q E hr h => ?_)
  · obtain ⟨n, a, l, rfl, _⟩ := h
    rfl
  · obtain ⟨n, a, l, rfl, ha, hl, hne, hn, q⟩ := h
    refine ⟨_, pss_one (ps_ret (pe_and (pe_cal (ok_is_lot_of T) hr (pa_cons (pv 0) (pa_cons (pv 1) pa_nil))) (pe_one (pe_cmpR op_gt (pe_callB call_len_seq (by rfl) T.b_len boot_len (pa_cons (pv 1) pa_nil)) pe_int (nomark _))))), ?_⟩
    refine s_ret (v := .bl true) (ev_is (ev_andV (ev_call (ea_cons (ev_var rfl) (ea_cons (ev_var rfl) ea_nil)) (sv_is_lot_of ha hl hn)) fun _ => ev_op (ev_cb (ea_cons (ev_var rfl) ea_nil) (rc_len ha.sq)) ev_c rv_I0) ?_) fun H1 e => q H1 e
    have h0 : 0 < l.length := List.length_pos_iff.mpr hne
    rw [vN_len, decide_eq_true (by omega : (0 : Int) < (l.length : Int))]
    rfl
theorem sv_is_kind {n : Nat} {a : Addr} {l : List Nat} {H : Hp} (h : Tk H a (vN l)) (hl : LotOk n l) (hne : l ≠ []) (hn : n ≤ 8) : SpV spIsKind [.int (n : Int), .ref a] H (.bl true) := fun H1 e Q q E => ⟨n, a, l, rfl, h.mono e, hl, hne, hn, q⟩
/-- kinds stand at a, each a list of its own -/
def KindsAt (H : Hp) (a : Addr) (ks : List (List Nat)) : Prop := ∃ ps : List Addr, Tk H a (ps.map V.ref) ∧ ps.length = ks.length ∧ ∀ (i : Nat) p k, ps[i]? = some p → ks[i]? = some k → Tk H p (vN k)
theorem KindsAt.mono {H H' : Hp} {a : Addr} {ks : List (List Nat)} (e : Ex H H') (h : KindsAt H a ks) : KindsAt H' a ks := by
  obtain ⟨ps, h1, h2, h3⟩ := h
  exact ⟨ps, h1.mono e, h2, fun i p k hp hk => (h3 i p k hp hk).mono e⟩
theorem kinds_get {ps : List Addr} {ks : List (List Nat)} {i : Nat} {x : V} (hl : ps.length = ks.length) (hx : (ps.map V.ref)[i]? = some x) : ∃ p k, ps[i]? = some p ∧ ks[i]? = some k ∧ x = .ref p := by
  rw [List.getElem?_map] at hx
  cases e : ps[i]? with
  | none => rw [e] at hx; cases hx
  | some p =>
    rw [e] at hx
    have hi := (List.getElem?_eq_some_iff.mp e).1
    exact ⟨p, ks[i]'(hl ▸ hi), rfl, List.getElem?_eq_getElem (hl ▸ hi), (Option.some.inj hx).symm⟩
def spAreKinds : Sp := fun vs H Q _ => ∃ (n : Nat) (a : Addr) (ks : List (List Nat)), vs = [.int (n : Int), .ref a] ∧ KindsAt H a ks ∧ KindsOk n ks ∧ ks.length ≤ 8 ∧ n ≤ 8 ∧ RetV (.bl true) H Q
theorem ok_are_kinds (T : Txt K mg) : Cal P w K mg base "are_kinds" p_are_kinds 5 spAreKinds := by
  refine cal_of T.d_are_kinds sc_are_kinds (fun _ _ _ _ _ _ us hl => match us, hl with | [_, _], _ => rfl) (fun vs H Q E h => ?_) (fun f cdv A outer s H vs Q E hr h => ?_)
  · obtain ⟨n, a, l, rfl, _⟩ := h
    rfl
  · obtain ⟨n, a, ks, rfl, ha, hk, hm, hn, q⟩ := h
    obtain ⟨ps, h1, h2, h3⟩ := id ha
    obtain ⟨t2, g2⟩ := T.c_MOST_KINDS
    refine ⟨_, pss_one (ps_ret (pe_and (pe_cal (ok_is_list T) (hr.mono (by decide)) (pa_cons (pv 1) pa_nil)) (pe_and (pe_cmpR op_le (pe_callB call_len_seq (by rfl) T.b_len boot_len (pa_cons (pv 1) pa_nil)) (pe_glob (v := .int 8) (by rfl) g2 ⟨_, rfl⟩) (nomark _))
      (pe_one (pe_callB (cr_all rfl) (by rfl) T.b_all (by decide +kernel) (pa_cons
        (pe_lc (own := [("one", 2)]) rfl sc_are_kinds.nd (pi_seq (pv 1)) (blkOk_by (N := n_are_kinds) (sc := defScope s_are_kinds) (by decide +kernel)) (fun _ _ _ _ _ => pg_name (i := 2) sc_are_kinds.nd rfl (Or.inl rfl)) (fun _ _ _ _ _ => pts_nil)
          (fun _ _ _ _ _ => pe_cal (ok_is_kind T) hr (pa_cons (pv 0) (pa_cons (pv 2) pa_nil)))) pa_nil)))))), ?_⟩
    have hl8 : (ps.map V.ref).length ≤ 8 := by rw [List.length_map, h2]; exact hm
    refine s_ret (v := .bl true) (ev_is (ev_andV (b := true) (ev_call (ea_cons (ev_var rfl) ea_nil) (sv_is_list h1)) fun _ => ev_is (ev_andV (ev_op (ev_cb (ea_cons (ev_var rfl) ea_nil) (rc_len h1.sq)) ev_c rv_I0) fun _ =>
      ev_cbL (el_lcS (fun _ => true) (fun _ => .bl true) (ev_var rfl) h1.sq (by omega) (fun x => rfl) (fun i x hx => et_yes) fun i x hx _ => ?_) fun p H1 e1 h1 => rc_all (bs := (List.range (ps.map V.ref).length).map fun _ => true) (.of (h1.trans (congrArg (fun l => some (HO.lst l)) (given_bl _ fun _ => true))))) ?_) rfl) fun H1 e => q H1 e
    · obtain ⟨p, k, hp, hkk, rfl⟩ := kinds_get h2 hx
      obtain ⟨k1, k2, k3⟩ := hk k (List.mem_of_getElem? hkk)
      exact ev_call (ea_cons (ev_var rfl) (ea_cons (ev_var rfl) ea_nil)) (sv_is_kind (h3 i p k hp hkk) ⟨k2, k3⟩ k1 hn)
    · rw [all_map_true fun _ _ => rfl, decide_eq_true (by omega : (((ps.map V.ref).length : Nat) : Int) ≤ 8)]
      rfl
theorem sv_are_kinds {n : Nat} {a : Addr} {ks : List (List Nat)} {H : Hp} (h : KindsAt H a ks) (hk : KindsOk n ks) (hm : ks.length ≤ 8) (hn : n ≤ 8) : SpV spAreKinds [.int (n : Int), .ref a] H (.bl true) := fun H1 e Q q E => ⟨n, a, ks, rfl, h.mono e, hk, hm, hn, q⟩
end
end K61

/-! plain_kinds, a Store made -/
namespace K61
open PySem PySem.Spec PyProof.Rows L2 Evl

section
variable {K : PySem.W.Frag} {w : World} {σ : L2.St} {H : Hp}
/-- a comprehension over a list that stands, each item a new list -/
theorem lc_objs {te : TE} {a : Addr} {xs : List V} {j : Nat} {vs : List Nat} {Dl : Addr} (ys : Nat → List V) (hx : SqL K H a xs) (hD : H Dl = none) (hz : xs.length ≤ 40000) (hw : ∀ x, wipe ((wipe σ vs).set j (some x)) vs = wipe σ vs)
    (he : ∀ (i : Nat) (x : V), xs[i]? = some x → EvL te ((wipe σ vs).set j (some x)) H (ys i)) {Qd : Hp → Prop}
    (hq : ∀ (ps : List Addr) H', ps.length = xs.length → Ex H H' → H' Dl = some (.lst (ps.map V.ref)) → (∀ (i : Nat) p, ps[i]? = some p → H' p = some (.lst (ys i))) → Qd H') :
    ∃ W : Nat → Nat → Hp → Prop, (∃ m, W 0 m (upd H Dl (.lst []))) ∧ ∀ i m H, W i m H →
      ((Itl K a).stop i H ∧ Qd H) ∨ ((Itl K a).go i H ∧ ∃ Nx : Hp → Prop, (∀ H', Nx H' → ∃ m', m' < m ∧ W (i + 1) m' H') ∧ ∀ x H', (Itl K a).yld i H x H' → gName j x (wipe σ vs) H' fun σ2 H2 => wipe σ2 vs = wipe σ vs ∧ tYes σ2 H2 fun b H3 =>
        if b = true then te σ2 H3 fun y H4 => ∃ acc, H4 Dl = some (.lst acc) ∧ acc.length < sizeLine ∧ Nx (upd H4 Dl (.lst (acc ++ [y]))) else Nx H3) := by
  refine lc_list (xs := xs) (g := gName j) (fun i H' => ∃ ps : List Addr, ps.length = i ∧ Ex H H' ∧ H' Dl = some (.lst (ps.map V.ref)) ∧ ∀ (k : Nat) p, ps[k]? = some p → p ≠ Dl ∧ H' p = some (.lst (ys k)))
    ⟨[], rfl, Ex.new hD, upd_same, fun k p h => by simp at h⟩ (fun i H' _ ⟨_, _, e, _⟩ => ex_l e hx) ?_ fun H' ⟨ps, h1, h2, h3, h4⟩ => hq ps H' h1 h2 h3 fun i p hp => (h4 i p hp).2
  rintro i x H' hi ⟨ps, h1, h2, h3, h4⟩
  have hlt := (List.getElem?_eq_some_iff.mp hi).1
  refine ⟨hw x, ?_⟩
  show te ((wipe σ vs).set j (some x)) H' _
  refine he i x hi H' h2 _ fun p H2 hp e hl => ?_
  have hpD : p ≠ Dl := fun z => by rw [z, h3] at hp; cases hp
  refine ⟨ps.map V.ref, e Dl _ h3, by rw [List.length_map, h1]; exact sz_lt (by omega), ps ++ [p], by rw [List.length_append, h1]; rfl, Ex.mut (h2.trans e) hD, by rw [upd_same, List.map_append]; rfl, fun k q hk => ?_⟩
  rcases Nat.lt_or_ge k ps.length with c | c
  · rw [List.getElem?_append_left c] at hk
    obtain ⟨z1, z2⟩ := h4 k q hk
    exact ⟨z1, by rw [upd_ne z1]; exact e q _ z2⟩
  · rw [List.getElem?_append_right c] at hk
    have hk2 := (List.getElem?_eq_some_iff.mp hk).1
    rw [List.length_singleton] at hk2
    have e0 : k - ps.length = 0 := by omega
    have ek : k = i := by omega
    rw [e0] at hk
    cases hk
    rw [ek]
    exact ⟨hpD, by rw [upd_ne hpD]; exact hl⟩
theorem vN_inj {l m : List Nat} (h : vN l = vN m) : l = m := by
  unfold vN iN at h
  rw [List.map_map, List.map_map] at h
  exact (List.map_inj_right fun a b e => Int.ofNat.inj (V.int.inj e)).mp h
theorem ints_nat {ns' : List Int} {bs : List Nat} (h : ∀ k, k ∈ ns' ↔ k ∈ iN bs) : ∃ ms : List Nat, ns' = iN ms ∧ ∀ b, b ∈ ms ↔ b ∈ bs := by
  have inN : ∀ (l : List Nat) (b : Nat), (b : Int) ∈ iN l ↔ b ∈ l := fun l b => by
    unfold iN
    rw [List.mem_map]
    constructor
    · rintro ⟨c, hc, e⟩
      rw [← Int.ofNat.inj e]
      exact hc
    · exact fun hb => ⟨b, hb, rfl⟩
  refine ⟨ns'.map Int.toNat, ?_, fun b => ?_⟩
  · unfold iN
    rw [List.map_map]
    refine (List.map_id ns').symm.trans (List.map_congr_left fun k hk => ?_)
    obtain ⟨c, _, rfl⟩ := List.mem_map.mp ((h k).mp hk)
    rfl
  · rw [List.mem_map, ← inN bs b, ← h]
    constructor
    · rintro ⟨k, hk, rfl⟩
      obtain ⟨c, _, rfl⟩ := List.mem_map.mp ((h k).mp hk)
      exact hk
    · exact fun hb => ⟨_, hb, rfl⟩
end
def spPlain : Sp := fun vs H Q _ => ∃ (a : Addr) (bs : List Nat), vs = [.ref a] ∧ Tk H a (vN bs) ∧ bs.length ≤ 8 ∧ (∀ b ∈ bs, b < 256) ∧ ∀ (D : List Nat) p H2, H p = none → Ex H H2 → H2 p = some (.tup (vN D)) → (∀ b, b ∈ D ↔ b ∈ bs) → D.length ≤ 8 → Q (.ref p) H2
section
variable {P : Program} {w : World} {K : PySem.W.Frag} {mg : Str → Option Value} {base : Heap}
theorem ok_plain_kinds (T : Txt K mg) : Cal P w K mg base "plain_kinds" p_plain_kinds 3 spPlain := by
  refine cal_of T.d_plain_kinds sc_plain_kinds (fun _ _ _ _ _ _ us hl => match us, hl with | [_], _ => rfl) (fun vs H Q E h => ?_) (fun f cdv A outer s H vs Q E hr h => ?_)
  · obtain ⟨a, bs, rfl, _⟩ := h
    rfl
  · obtain ⟨a, bs, rfl, ha, hl, hb, q⟩ := h
    have hr1 : Room 1 _ := hr.mono (by decide)
    refine ⟨_, pss_one (ps_ret (pe_callTy call_tuple_of (by rfl) T.b_tuple (by decide +kernel) (pa_cons (pe_lc (own := [("lot", 2)]) rfl sc_plain_kinds.nd
      (pi_seq (pe_callB (cr_sortedR hr.units) (by rfl) T.b_sorted (by decide +kernel) (pa_cons
        (pe_lc (own := [("bits", 1)]) rfl sc_plain_kinds.nd (pi_seq (pe_callB (cr_sortedSet rfl) (by rfl) T.b_sorted (by decide +kernel) (pa_cons (pe_callTy (cr_setS rfl) (by rfl) T.b_set (by decide +kernel) (pa_cons (pv 0) pa_nil)) pa_nil)))
          (blkOk_by (N := n_plain_kinds) (sc := defScope s_plain_kinds) (by decide +kernel)) (fun _ _ _ _ _ => pg_name (i := 1) sc_plain_kinds.nd rfl (Or.inl rfl)) (fun _ _ _ _ _ => pts_nil) (fun _ _ _ _ _ => pe_cal (ok_told_lot T) hr (pa_cons (pv 1) pa_nil))) pa_nil)))
      (blkOk_by (N := n_plain_kinds) (sc := defScope s_plain_kinds) (by decide +kernel)) (fun _ _ _ _ _ => pg_name (i := 2) sc_plain_kinds.nd rfl (Or.inl rfl)) (fun _ _ _ _ _ => pts_nil) (fun _ _ _ _ _ => pe_cal (ok_bits_of T) hr1 (pa_cons (pv 2) pa_nil))) pa_nil))), ?_⟩
    -- sorted(set(kinds))
    refine go_ss (ev_var rfl) ha.sq (by rw [List.length_map]; omega) H (Ex.refl H) _ fun ns' p1 H1 hp1 e1 h1 hm hl1 _ => ?_
    obtain ⟨ms, rfl, hms⟩ := ints_nat hm
    rw [List.length_map, List.length_map] at hl1
    -- [told_lot(bits) for ..]
    refine ⟨p1, _, rfl, .inl ⟨.of h1, fun D1 hD1 => lc_objs (fun i => vN (spots (ms.getD i 0))) (.of h1) hD1 (by rw [vN_len]; omega) (fun x => rfl) (fun i x hx => ?_) fun ps H2 hps e2 h2 hrow => ?_⟩⟩
    · obtain ⟨n, hn, rfl⟩ := vN_get hx
      have hg : ms.getD i 0 = n := by rw [List.getD_eq_getElem?_getD, hn]; rfl
      rw [hg]
      exact el_call (ea_cons (ev_var rfl) ea_nil) sl_told_lot
    rw [vN_len] at hps
    -- what each of the lists is
    have hex : ∀ z ∈ ps.map V.ref, ∃ b, b ∈ ms ∧ ∃ p, z = .ref p ∧ H2 p = some (.lst (vN (spots b))) := fun z hz => by
      obtain ⟨i, hi⟩ := List.mem_iff_getElem?.mp hz
      rw [List.getElem?_map] at hi
      cases e : ps[i]? with
      | none => rw [e] at hi; cases hi
      | some p =>
        rw [e] at hi
        have hlt := (List.getElem?_eq_some_iff.mp e).1
        refine ⟨ms.getD i 0, ?_, p, (Option.some.inj hi).symm, hrow i p e⟩
        rw [List.getD_eq_getElem?_getD, List.getElem?_eq_getElem (hps ▸ hlt)]
        exact List.getElem_mem _
    -- sorted(..)
    refine ⟨D1, _, rfl, .of h2, fun z hz => ?_, fun zs p3 perm hp3 => ?_⟩
    · obtain ⟨b, _, p, rfl, hp⟩ := hex z hz
      exact ⟨p, iN (spots b), rfl, .of hp⟩
    have e3 : Ex H2 (upd H2 p3 (.lst zs)) := Ex.new hp3
    -- the bits of each
    have hex2 : ∀ z, ∃ b, z ∈ ps.map V.ref → b ∈ ms ∧ ∃ p, z = .ref p ∧ H2 p = some (.lst (vN (spots b))) := fun z => by
      by_cases c : z ∈ ps.map V.ref
      · obtain ⟨b, hb1, hb2⟩ := hex z c
        exact ⟨b, fun _ => ⟨hb1, hb2⟩⟩
      · exact ⟨0, fun c' => absurd c' c⟩
    obtain ⟨gb, hgb⟩ := Classical.axiomOfChoice hex2
    have h256 : ∀ b ∈ ms, b < 256 := fun b hb' => hb b ((hms b).mp hb')
    have hzl : zs.length = ms.length := by rw [perm.length_eq, List.length_map]; exact hps
    refine ⟨p3, zs, rfl, .inl ⟨.of upd_same, fun D2 hD2 => lc_list (xs := zs) (g := gName 2) (Cw (upd H2 p3 (.lst zs)) (fun _ => true) (fun i => .int ((zs.map gb).getD i 0 : Nat)) D2) ⟨hD2, Ex.new hD2, upd_same⟩ (fun i H' _ pw => ex_l pw.2.1 (.of upd_same)) (fun i x H' hi pw => ⟨rfl, cw_turn pw ?_ et_yes fun _ => ?_⟩) fun H' pw => ?_⟩⟩
    · have := (List.getElem?_eq_some_iff.mp hi).1
      omega
    · have hz : x ∈ ps.map V.ref := perm.mem_iff.mp (List.mem_of_getElem? hi)
      obtain ⟨b1, p, rfl, hp⟩ := hgb x hz
      have hg : (zs.map gb).getD i 0 = gb (.ref p) := by rw [List.getD_eq_getElem?_getD, List.getElem?_map, hi]; rfl
      rw [hg]
      exact ev_is (ev_call (ea_cons (ev_var rfl) ea_nil) (sv_bits_of (.lst (e3 p _ hp)) fun s hs => (mem_spots.mp hs).1)) (by rw [bitsOf_spots (h256 _ b1)])
    · obtain ⟨c1, c2, c3⟩ := pw
      have e4 : given zs.length (fun _ => true) (fun i => V.int ((zs.map gb).getD i 0 : Nat)) = vN (zs.map gb) := by
        rw [given_nat zs.length (fun _ => true) fun i => (zs.map gb).getD i 0]
        refine congrArg vN ?_
        rw [List.filter_eq_self.mpr fun _ _ => rfl]
        refine List.ext_getElem? fun i => ?_
        rw [List.getElem?_map]
        rcases Nat.lt_or_ge i zs.length with c | c
        · rw [List.getElem?_range c, List.getElem?_eq_getElem (by rw [List.length_map]; exact c)]
          show some ((zs.map gb).getD i 0) = _
          rw [List.getD_eq_getElem?_getD, List.getElem?_eq_getElem (by rw [List.length_map]; exact c)]
          rfl
        · rw [List.getElem?_eq_none (by rw [List.length_range]; exact c), List.getElem?_eq_none (by rw [List.length_map]; exact c)]
          rfl
      rw [e4] at c3
      have eAll : Ex H H' := ((e1.trans e2).trans e3).trans c2
      refine ⟨D2, _, rfl, .inl ⟨.of c3, fun l hl4 => q (zs.map gb) l _ (fresh_back eAll hl4) (eAll.trans (Ex.new hl4)) upd_same (fun b => ?_) ?_⟩⟩
      · rw [← hms b]
        constructor
        · intro hb'
          obtain ⟨z, hz, rfl⟩ := List.mem_map.mp hb'
          exact (hgb z (perm.mem_iff.mp hz)).1
        · intro hb'
          obtain ⟨i, hi⟩ := List.mem_iff_getElem?.mp hb'
          have hlt := (List.getElem?_eq_some_iff.mp hi).1
          have hpi : ps[i]? = some (ps[i]'(hps ▸ hlt)) := List.getElem?_eq_getElem _
          have hz : V.ref (ps[i]'(hps ▸ hlt)) ∈ ps.map V.ref := List.mem_map.mpr ⟨_, List.getElem_mem _, rfl⟩
          refine List.mem_map.mpr ⟨_, perm.mem_iff.mpr hz, ?_⟩
          obtain ⟨b1, p, hpe, hp⟩ := hgb _ hz
          cases hpe
          have hrow' := hrow i _ hpi
          rw [hp] at hrow'
          have hg : ms.getD i 0 = b := by rw [List.getD_eq_getElem?_getD, hi]; rfl
          rw [hg] at hrow'
          have e5 : vN (spots (gb (.ref (ps[i]'(hps ▸ hlt))))) = vN (spots b) := by injection Option.some.inj hrow'
          have e6 : spots (gb (.ref (ps[i]'(hps ▸ hlt)))) = spots b := vN_inj e5
          rw [← bitsOf_spots (h256 _ b1), ← bitsOf_spots (h256 _ hb'), e6]
      · rw [List.length_map]
        omega
end
end K61

/-! a Store made -/
namespace K61
open PySem PySem.Spec PyProof.Rows L2 Evl

/-! ### a heap but for one object -/
def hide (p : Addr) (H : Hp) : Hp := fun a => if a = p then none else H a
theorem hide_self {p : Addr} {H : Hp} : hide p H p = none := by unfold hide; rw [if_pos rfl]
theorem hide_ne {p a : Addr} {H : Hp} (h : a ≠ p) : hide p H a = H a := by unfold hide; rw [if_neg h]
theorem hide_ex {p : Addr} {H : Hp} : Ex (hide p H) H := fun a o e => by
  by_cases h : a = p
  · rw [h, hide_self] at e; cases e
  · rw [hide_ne h] at e; exact e
theorem hide_mono {p : Addr} {H H' : Hp} (e : Ex (hide p H) H') : Ex (hide p H) (hide p H') := fun a o h => by
  by_cases c : a = p
  · rw [c, hide_self] at h; cases h
  · rw [hide_ne c]; exact e a o h
theorem Tk.hide {p a : Addr} {H : Hp} {xs : List V} (h : Tk H a xs) (ne : a ≠ p) : Tk (hide p H) a xs := by
  unfold Tk
  rw [hide_ne ne]
  exact h
/-- no list or tuple stands at p -/
def NoSeq (H : Hp) (p : Addr) : Prop := ∀ xs, ¬ Tk H p xs
theorem NoSeq.ne {H : Hp} {p a : Addr} {xs : List V} (n : NoSeq H p) (h : Tk H a xs) : a ≠ p := fun e => n xs (e ▸ h)
theorem noSeq_ins {H : Hp} {p C dx : Addr} {fs : List (Str × V)} (h : H p = some (.ins C dx fs)) : NoSeq H p := by
  rintro xs (e | e) <;> (rw [h] at e; cases e)
theorem KindsAt.hide {p a : Addr} {H : Hp} {ks : List (List Nat)} (n : NoSeq H p) (h : KindsAt H a ks) : KindsAt (hide p H) a ks := by
  obtain ⟨ps, h1, h2, h3⟩ := h
  exact ⟨ps, h1.hide (n.ne h1), h2, fun i q k hq hk => (h3 i q k hq hk).hide (n.ne (h3 i q k hq hk))⟩

/-! ### a Store -/
/-- a Store of n shelves, its delivery kinds the bits D -/
def StoreAt (C : Addr) (H : Hp) (p : Addr) (n : Nat) (D : List Nat) : Prop := ∃ (dx t : Addr) (fs : List (Str × V)), H p = some (.ins C dx fs) ∧ fs.lookup ("own_shelves" : Str) = some (.int (n : Int)) ∧ fs.lookup ("own_deliveries" : Str) = some (.ref t) ∧ H t = some (.tup (vN D))
theorem StoreAt.mono {C p : Addr} {H H' : Hp} {n : Nat} {D : List Nat} (e : Ex H H') (h : StoreAt C H p n D) : StoreAt C H' p n D := by
  obtain ⟨dx, t, fs, h1, h2, h3, h4⟩ := h
  exact ⟨dx, t, fs, e p _ h1, h2, h3, e t _ h4⟩
def spInit (C : Addr) : Sp := fun vs H Q _ => ∃ (p dx d s : Addr) (n : Nat) (ks : List (List Nat)), vs = [.ref p, .int (n : Int), .ref d, .ref s] ∧ H p = some (.ins C dx []) ∧ KindsAt H d ks ∧ KindsAt H s [] ∧ KindsOk n ks ∧ ks.length ≤ 8 ∧ (2 ≤ n ∧ n ≤ 8) ∧
  ∀ (D : List Nat) H2, Ex (hide p H) H2 → StoreAt C H2 p n D → Rep D ks → D.length ≤ 8 → Q .non H2
theorem fo_shelves : ¬ ("own_shelves" : Str) = "own_deliveries" := by decide +kernel
theorem fo_shelves2 : ¬ ("own_shelves" : Str) = "own_sales" := by decide +kernel
theorem fo_shelves3 : ¬ ("own_shelves" : Str) = "own_kept" := by decide +kernel
theorem fo_del2 : ¬ ("own_deliveries" : Str) = "own_sales" := by decide +kernel
theorem fo_del3 : ¬ ("own_deliveries" : Str) = "own_kept" := by decide +kernel
section
variable {P : Program} {w : World} {K : PySem.W.Frag} {mg : Str → Option Value} {base : Heap}
/-- an expression goes to some value of which P holds -/
def Go (te : TE) (σ : L2.St) (H : Hp) (P : V → Hp → Prop) : Prop := ∀ Q : VK, (∀ v H', P v H' → Q v H') → te σ H Q
theorem q_fld {K : PySem.W.Frag} {tv : TE} {tz : TS} {D : Ends} {σ : L2.St} {H : Hp} {i : Nat} {p C : Addr} {f : Str} {P : V → Hp → Prop} (c : Cls K C) (n : NoAttr K C f) (hv : Go tv σ H P) (hσ : σ[i]? = some (some (.ref p)))
    (k : ∀ y H1, P y H1 → ∃ dx fs, H1 p = some (.ins C dx fs) ∧ fs.length < 1000 ∧ tz D σ (upd H1 p (.ins C dx (putF f y fs)))) : tSeq (sFld K (tVar i) tv f) tz D σ H :=
  hv _ fun y H1 hP => by
    obtain ⟨dx, fs, h1, h2, h3⟩ := k y H1 hP
    exact ⟨_, hσ, p, C, dx, fs, rfl, h1, c, n, h2, h3⟩
theorem go_ev {te : TE} {σ : L2.St} {H : Hp} {v : V} (h : Ev te σ H v) : Go te σ H fun x H' => x = v ∧ Ex H H' := fun Q q => h H (Ex.refl H) Q fun H2 e => q v H2 ⟨rfl, e⟩
theorem go_plain {ta : TE} {σ : L2.St} {G H1 : Hp} {bs : List Nat} (h : EvL ta σ G (vN bs)) (e : Ex G H1) (hl : bs.length ≤ 8) (hb : ∀ b ∈ bs, b < 256) :
    Go (tCall spPlain [] E0 (tCons ta tNil)) σ H1 fun v H2 => ∃ (p : Addr) (D : List Nat), v = .ref p ∧ H1 p = none ∧ Ex H1 H2 ∧ H2 p = some (.tup (vN D)) ∧ (∀ b, b ∈ D ↔ b ∈ bs) ∧ D.length ≤ 8 := fun Q q =>
  h H1 e _ fun p5 H5 hp5 e5 h5 => ⟨p5, bs, rfl, .lst h5, hl, hb, fun D p H2 hp e6 h6 hD hDl => q _ H2 ⟨p, D, rfl, fresh_back e5 hp, e5.trans e6, h6, hD, hDl⟩⟩
/-- the bits of each kind, a list -/
theorem el_bits {σ : L2.St} {H : Hp} {tl : TE} {a : Addr} {ks : List (List Nat)} {j : Nat} {vs : List Nat} {t1 : TE} (h : Ev tl σ H (.ref a)) (hk : KindsAt H a ks) (hl : ks.length ≤ 8) (h8 : ∀ k ∈ ks, ∀ s ∈ k, s < 8) (hw : ∀ x, wipe ((wipe σ vs).set j (some x)) vs = wipe σ vs)
    (ht : ∀ x, Ev t1 ((wipe σ vs).set j (some x)) H x) : EvL (tLc (iSeq K tl) (gName j) tYes (tCall spBitsOf [] E0 (tCons t1 tNil)) vs) σ H (vN (ks.map bitsOf)) := by
  obtain ⟨ps, h1, h2, h3⟩ := hk
  have e : given (ps.map V.ref).length (fun _ => true) (fun i => V.int (bitsOf (ks.getD i []) : Nat)) = vN (ks.map bitsOf) := by
    rw [given_nat _ (fun _ => true) fun i => bitsOf (ks.getD i []), List.filter_eq_self.mpr fun _ _ => rfl, List.length_map, h2]
    refine congrArg vN (List.ext_getElem? fun i => ?_)
    rw [List.getElem?_map, List.getElem?_map]
    rcases Nat.lt_or_ge i ks.length with c | c
    · rw [List.getElem?_range c, List.getElem?_eq_getElem c]
      show some (bitsOf (ks.getD i [])) = some (bitsOf ks[i])
      rw [List.getD_eq_getElem?_getD, List.getElem?_eq_getElem c]
      rfl
    · rw [List.getElem?_eq_none (by rw [List.length_range]; exact c), List.getElem?_eq_none c]
      rfl
  rw [← e]
  refine el_lcS _ _ h h1.sq (by rw [List.length_map]; omega) hw (fun i x hx => et_yes) fun i x hx _ => ?_
  obtain ⟨p, k, hp, hkk, rfl⟩ := kinds_get h2 hx
  have hg : ks.getD i [] = k := by rw [List.getD_eq_getElem?_getD, hkk]; rfl
  rw [hg]
  exact ev_call (ea_cons (ht _) ea_nil) (sv_bits_of (h3 i p k hp hkk) (h8 k (List.mem_of_getElem? hkk)))
theorem ok_init (T : Txt K mg) {C : Addr} (TC : TxtC K mg C) {f : Addr} {fd : FuncData} (F : Fun K "__init__" "Store.__init__" s_init f fd) : FnOk P w K mg base CX0 6 f fd p_init (spInit C) := by
  refine F.ok sc_init (fun vs H Q E h => ?_) (fun cdv A outer s H vs Q E hr h => ?_)
  · obtain ⟨p, dx, d, s, n, ks, rfl, _⟩ := h
    rfl
  · obtain ⟨p, dx, d, sl, n, ks, rfl, hp, hd, hs, hk, hl, hn, q⟩ := h
    have hr1 : Room 1 _ := hr.mono (by decide)
    have hr3 : Room 3 _ := hr.mono (by decide)
    have hr4 : Room 4 _ := hr.mono (by decide)
    refine ⟨_, pss_cons (ps_expr (pe_cal (ok_want_shelves T) hr4 (pa_cons (pv 1) pa_nil)))
      (pss_cons (ps_if (pt_not (pt_val (pe_cal (ok_are_kinds T) hr (pa_cons (pv 1) (pa_cons (pv 2) pa_nil))))) pss_never pss_nil)
      (pss_cons (ps_if (pt_not (pt_val (pe_cal (ok_are_kinds T) hr (pa_cons (pv 1) (pa_cons (pv 3) pa_nil))))) pss_never pss_nil)
      (pss_cons (ps_fld (pv 0) (pv 1) rfl)
      (pss_cons (ps_fld (pv 0) (pe_cal (ok_plain_kinds T) hr3 (pa_cons (pe_lc (own := [("kind", 4)]) rfl sc_init.nd (pi_seq (pv 2)) (blkOk_by (N := n_init) (sc := defScope s_init) (by decide +kernel)) (fun _ _ _ _ _ => pg_name (i := 4) sc_init.nd rfl (Or.inl rfl)) (fun _ _ _ _ _ => pts_nil) (fun _ _ _ _ _ => pe_cal (ok_bits_of T) hr1 (pa_cons (pv 4) pa_nil))) pa_nil)) rfl)
      (pss_cons (ps_fld (pv 0) (pe_cal (ok_plain_kinds T) hr3 (pa_cons (pe_lc (own := [("kind", 4)]) rfl sc_init.nd (pi_seq (pv 3)) (blkOk_by (N := n_init) (sc := defScope s_init) (by decide +kernel)) (fun _ _ _ _ _ => pg_name (i := 4) sc_init.nd rfl (Or.inl rfl)) (fun _ _ _ _ _ => pts_nil) (fun _ _ _ _ _ => pe_cal (ok_bits_of T) hr1 (pa_cons (pv 4) pa_nil))) pa_nil)) rfl)
      (pss_one (ps_fld (pv 0) pe_dnewK rfl))))))), ?_⟩
    have kno : KindsOk n [] := fun k hk => absurd hk List.not_mem_nil
    have h8 : ∀ k ∈ ks, ∀ s ∈ k, s < 8 := fun k hk' s hs' => Nat.lt_of_lt_of_le ((hk k hk').2.2 s hs') hn.2
    refine q_drop (ev_call (ea_cons (ev_var rfl) ea_nil) (sv_want_shelves hn)) fun H1 e1 => ?_
    refine q_when (b := false) (et_not (a := true) (et_B (ev_call (ea_cons (ev_var rfl) (ea_cons (ev_var rfl) ea_nil)) (sv_are_kinds (hd.mono e1) hk hl hn.2)))) (fun z => nomatch z) fun _ H2 e2 => ?_
    refine q_when (b := false) (et_not (a := true) (et_B (ev_call (ea_cons (ev_var rfl) (ea_cons (ev_var rfl) ea_nil)) (sv_are_kinds ((hs.mono e1).mono e2) kno (Nat.zero_le _) hn.2)))) (fun z => nomatch z) fun _ H3 e3 => ?_
    have e03 : Ex H H3 := (e1.trans e2).trans e3
    have hp3 := e03 p _ hp
    -- from here on the heap but for the new instance
    have g3 : Ex (hide p H) H3 := hide_ex.trans e03
    have hdG := hd.hide (noSeq_ins hp)
    have hsG := hs.hide (noSeq_ins hp)
    refine q_fld TC.ins.cl TC.n_own_shelves (go_ev (ev_var (v := .int (n : Int)) rfl)) rfl ?_
    rintro _ H4 ⟨rfl, e4⟩
    refine ⟨dx, [], e4 p _ hp3, by show 0 < 1000; decide, ?_⟩
    have g4 := (g3.trans e4).mut (o := .ins C dx (putF ("own_shelves" : Str) (.int (n : Int)) [])) (hide_self (H := H))
    have l1 := length_putF ("own_shelves" : Str) (.int (n : Int)) []
    rw [List.length_nil] at l1
    -- self.own_deliveries
    refine q_fld TC.ins.cl TC.n_own_deliveries (go_plain (el_bits (ev_var rfl) hdG hl h8 (fun x => rfl) (fun x => ev_var rfl)) g4 (by rw [List.length_map]; exact hl) (fun b hb => ?_)) rfl ?_
    · obtain ⟨k, hk', rfl⟩ := List.mem_map.mp hb
      exact bitsOf_lt (h8 k hk')
    rintro _ H6 ⟨p6, D, rfl, hp6, e6, h6, hD, hDl⟩
    refine ⟨dx, _, e6 p _ upd_same, by omega, ?_⟩
    have l2 := length_putF ("own_deliveries" : Str) (.ref p6) (putF ("own_shelves" : Str) (.int (n : Int)) [])
    have g7 := (g4.trans e6).mut (o := .ins C dx (putF ("own_deliveries" : Str) (.ref p6) (putF ("own_shelves" : Str) (.int (n : Int)) []))) (hide_self (H := H))
    have n6 : p6 ≠ p := fun z => by rw [z, upd_same] at hp6; cases hp6
    have t7 : (upd H6 p (.ins C dx (putF ("own_deliveries" : Str) (.ref p6) (putF ("own_shelves" : Str) (.int (n : Int)) [])))) p6 = some (.tup (vN D)) := by
      rw [upd_ne n6]
      exact h6
    -- self.own_sales
    refine q_fld TC.ins.cl TC.n_own_sales (go_plain (el_bits (ev_var rfl) hsG (Nat.zero_le _) (fun k hk' => absurd hk' List.not_mem_nil) (fun x => rfl) (fun x => ev_var rfl)) g7 (Nat.zero_le _) (fun b hb => absurd hb List.not_mem_nil)) rfl ?_
    rintro _ H9 ⟨p9, D2, rfl, hp9, e9, h9, _, _⟩
    refine ⟨dx, _, e9 p _ upd_same, by omega, ?_⟩
    have l3 := length_putF ("own_sales" : Str) (.ref p9) (putF ("own_deliveries" : Str) (.ref p6) (putF ("own_shelves" : Str) (.int (n : Int)) []))
    have g10 := (g7.trans e9).mut (o := .ins C dx (putF ("own_sales" : Str) (.ref p9) (putF ("own_deliveries" : Str) (.ref p6) (putF ("own_shelves" : Str) (.int (n : Int)) [])))) (hide_self (H := H))
    have t9 := e9 p6 _ t7
    -- self.own_kept = {}
    intro d11 hd11
    have n11 : p ≠ d11 := fun z => by rw [← z, upd_same] at hd11; cases hd11
    have n611 : p6 ≠ d11 := fun z => by rw [← z, upd_ne n6, t9] at hd11; cases hd11
    refine ⟨_, rfl, p, C, dx, _, rfl, by rw [upd_ne n11]; exact upd_same, TC.ins.cl, TC.n_own_kept, by omega, ?_⟩
    refine q D _ ((g10.trans (Ex.new hd11)).mut hide_self) ⟨dx, p6, _, upd_same, ?_, ?_, ?_⟩ (fun b => ?_) hDl
    · rw [lookup_putF, if_neg fo_shelves3, lookup_putF, if_neg fo_shelves2, lookup_putF, if_neg fo_shelves, lookup_putF, if_pos rfl]
    · rw [lookup_putF, if_neg fo_del3, lookup_putF, if_neg fo_del2, lookup_putF, if_pos rfl]
    · rw [upd_ne n6, upd_ne n611, upd_ne n6]
      exact t9
    · rw [hD b, List.mem_map]
end
end K61

/-! boards.py and levels.py -/
namespace K61
open PySem PySem.Spec PyProof.Rows L2 Evl

/-- a pair of names as a target -/
theorem pg_pair {X : Cx} {j1 j2 : Nat} {x1 x2 : Str} {p1 p2 pos : Pos} {kk : Nat} (hc : X.calm = true) (hN : X.N.Nodup) (h1 : X.N[j1]? = some x1) (h2 : X.N[j2]? = some x2) (l1 : Loc X.env.scope x1) (l2 : Loc X.env.scope x2)
    (f1 : X.fn x1 = true ∨ X.env.scope.names.lookup x1 = some .local) (f2 : X.fn x2 = true ∨ X.env.scope.names.lookup x2 = some .local) :
    PG X (.Tuple [.Name x1 p1, .Name x2 p2] kk pos) (gPair X.K j1 j2) := pg_tup hc (pgs_cons (pg_name hN h1 l1 f1) (pgs_cons (pg_name hN h2 l2 f2) pgs_nil))
section
variable {K : PySem.W.Frag} {σ : L2.St} {H : Hp}
theorem ev_fld {ta : TE} {a C dx : Addr} {fs : List (Str × V)} {f : Str} {v : V} (h : Ev ta σ H (.ref a)) (ha : H a = some (.ins C dx fs)) (c : Cls K C) (n : NoAttr K C f) (l : fs.lookup f = some v) : Ev (tFld K ta f) σ H v := fun H1 e Q q =>
  h H1 e _ fun H2 e2 => ⟨a, C, dx, fs, v, rfl, e2 a _ (e a _ ha), c, n, l, q H2 e2⟩
theorem ev_shelves {mg : Str → Option Value} {ta : TE} {p C : Addr} {n : Nat} {D : List Nat} (TC : TxtC K mg C) (h : Ev ta σ H (.ref p)) (S : StoreAt C H p n D) : Ev (tFld K ta ("own_shelves" : Str)) σ H (.int (n : Int)) := by
  obtain ⟨dx, t, fs, h1, h2, _, _⟩ := S
  exact ev_fld h h1 TC.ins.cl TC.n_own_shelves h2
theorem ev_dels {mg : Str → Option Value} {ta : TE} {p C : Addr} {n : Nat} {D : List Nat} (TC : TxtC K mg C) (h : Ev ta σ H (.ref p)) (S : StoreAt C H p n D) : ∃ t, Ev (tFld K ta ("own_deliveries" : Str)) σ H (.ref t) ∧ Tk H t (vN D) := by
  obtain ⟨dx, t, fs, h1, _, h3, h4⟩ := S
  exact ⟨t, ev_fld h h1 TC.ins.cl TC.n_own_deliveries h3, .inr h4⟩
theorem notand (a b : Nat) : Builtin.bitAnd (a : Int) (Builtin.bitNot (b : Int)) = (a : Int) - ((a &&& b : Nat) : Int) := by
  have h1 : decide ((0 : Int) ≤ (a : Int)) = true := decide_eq_true (Int.natCast_nonneg a)
  have h2 : decide ((0 : Int) ≤ Builtin.bitNot (b : Int)) = false := decide_eq_false (by show ¬ (0 : Int) ≤ -(b : Int) - 1; omega)
  have h3 : Builtin.bitNot (Builtin.bitNot (b : Int)) = (b : Int) := by show -(-(b : Int) - 1) - 1 = _; omega
  unfold Builtin.bitAnd
  rw [h1, h2, h3]
  rfl
theorem and_le (a b : Nat) : a &&& b ≤ a := Nat.and_le_left
theorem notand_zero (a b : Nat) : decide (Builtin.bitAnd (a : Int) (Builtin.bitNot (b : Int)) = 0) = decide (a &&& b = a) := by
  rw [notand]
  refine decide_eq_decide.mpr ?_
  have := and_le a b
  omega
/-- kind & ~bits == 0 -/
theorem ev_notand {ta tb : TE} {a b : Nat} (ha : Ev ta σ H (.int (a : Int))) (hb : Ev tb σ H (.int (b : Int))) :
    Ev (tOp (rI0 fun i j => .int (Builtin.bitAnd i j)) ta (tUn (rU fun i => .int (Builtin.bitNot i)) tb)) σ H (.int (Builtin.bitAnd (a : Int) (Builtin.bitNot (b : Int)))) :=
  ev_op ha (ev_un hb fun H1 e Q q => ⟨_, rfl, q H1 (Ex.refl H1)⟩) rv_I0
theorem dec_le (l m : Nat) : decide ((l : Int) ≤ (m : Int)) = decide (l ≤ m) := decide_eq_decide.mpr Int.ofNat_le
end
/-- a board of n shelves -/
def BoardOk (n : Nat) (bd : List Nat) : Prop := bd.length = n ∧ ∀ x ∈ bd, x ≤ 60
/-- some tuple -/
def RetTup (xs : List V) (H : Hp) (Q : VK) : Prop := ∀ p H2, Ex H H2 → H2 p = some (.tup xs) → Q (.ref p) H2
def spWantStore (C : Addr) : Sp := fun vs H Q _ => ∃ (p : Addr) (n : Nat) (D : List Nat), vs = [.ref p] ∧ StoreAt C H p n D ∧ RetV (.ref p) H Q
def spWantLotOf (C : Addr) : Sp := fun vs H Q _ => ∃ (p a : Addr) (n : Nat) (D l : List Nat), vs = [.ref p, .ref a] ∧ StoreAt C H p n D ∧ Tk H a (vN l) ∧ LotOk n l ∧ n ≤ 8 ∧ RetV (.int (bitsOf l : Nat)) H Q
def spIsBoardOf (C : Addr) : Sp := fun vs H Q _ => ∃ (p a : Addr) (n : Nat) (D bd : List Nat), vs = [.ref p, .ref a] ∧ StoreAt C H p n D ∧ Tk H a (vN bd) ∧ BoardOk n bd ∧ n ≤ 8 ∧ RetV (.bl true) H Q
def spWantBoard (C : Addr) : Sp := fun vs H Q _ => ∃ (p a : Addr) (n : Nat) (D bd : List Nat), vs = [.ref p, .ref a] ∧ StoreAt C H p n D ∧ Tk H a (vN bd) ∧ BoardOk n bd ∧ n ≤ 8 ∧ RetTup (vN bd) H Q
def spLotAt : Sp := fun vs H Q _ => ∃ (a : Addr) (l : Nat) (bd : List Nat), vs = [.ref a, .int (l : Int)] ∧ Tk H a (vN bd) ∧ bd.length ≤ 8 ∧ RetV (.int (lotAt bd l : Nat)) H Q
def spAllOf (C : Addr) : Sp := fun vs H Q _ => ∃ (p : Addr) (n : Nat) (D : List Nat), vs = [.ref p] ∧ StoreAt C H p n D ∧ n ≤ 8 ∧ RetV (.int ((2 ^ n - 1 : Nat) : Int)) H Q
def spSupportedOf (C : Addr) : Sp := fun vs H Q _ => ∃ (p : Addr) (b n : Nat) (D : List Nat), vs = [.ref p, .int (b : Int)] ∧ StoreAt C H p n D ∧ RetV (.int (supOf D b : Nat)) H Q
/-- what stands at the store's side of a question -/
structure Shop (C : Addr) (H : Hp) (p : Addr) (n : Nat) (D : List Nat) (ks : List (List Nat)) : Prop where
  st : StoreAt C H p n D
  rep : Rep D ks
  few : D.length ≤ 8
  kok : KindsOk n ks
  lo : 2 ≤ n
  hi : n ≤ 8
theorem Shop.mono {C p : Addr} {H H' : Hp} {n : Nat} {D : List Nat} {ks : List (List Nat)} (e : Ex H H') (h : Shop C H p n D ks) : Shop C H' p n D ks := ⟨h.st.mono e, h.rep, h.few, h.kok, h.lo, h.hi⟩
def spComesUp (C : Addr) : Sp := fun vs H Q _ => ∃ (p a : Addr) (n : Nat) (D bd : List Nat) (ks : List (List Nat)), vs = [.ref p, .ref a] ∧ Shop C H p n D ks ∧ Tk H a (vN bd) ∧ BoardOk n bd ∧ RetV (.bl (dB (Due ks bd))) H Q
def spSupported (C : Addr) : Sp := fun vs H Q _ => ∃ (p a : Addr) (n : Nat) (D l : List Nat), vs = [.ref p, .ref a] ∧ StoreAt C H p n D ∧ Tk H a (vN l) ∧ LotOk n l ∧ n ≤ 8 ∧ RetL (vN (spots (supOf D (bitsOf l)))) H Q
section
variable {P : Program} {w : World} {K : PySem.W.Frag} {mg : Str → Option Value} {base : Heap} {C : Addr}
theorem ok_want_store (T : Txt K mg) (TC : TxtC K mg C) : Cal P w K mg base "want_store" p_want_store 1 (spWantStore C) := by
  refine cal_of T.d_want_store sc_want_store (fun _ _ _ _ _ _ us hl => match us, hl with | [_], _ => rfl) (fun vs H Q E h => ?_) (fun f cdv A outer s H vs Q E hr h => ?_)
  · obtain ⟨p, n, D, rfl, _⟩ := h
    rfl
  · obtain ⟨p, n, D, rfl, S, q⟩ := h
    refine ⟨_, pss_cons (ps_if (pt_not (pt_val (pe_callB (C8.call_isC TC.ins) (by rfl) T.b_isinstance (by decide +kernel) (pa_cons (pv 0) (pa_cons (pe_glob (v := .ref C) (by rfl) TC.mgC rfl) pa_nil))))) pss_never pss_nil) (pss_one (ps_ret (pv 0))), ?_⟩
    obtain ⟨dx, t, fs, h1, h2⟩ := id S
    refine q_when (b := false) (et_not (a := true) (et_B (ev_cb (ea_cons (ev_var rfl) (ea_cons ev_c ea_nil)) fun H1 e Q q => ⟨p, dx, fs, rfl, e p _ h1, q H1 (Ex.refl H1)⟩))) (fun z => nomatch z) fun _ H1 e1 => ?_
    exact s_ret (ev_var rfl) fun H2 e2 => q H2 (e1.trans e2)
theorem sv_want_store {p : Addr} {n : Nat} {D : List Nat} {H : Hp} (S : StoreAt C H p n D) : SpV (spWantStore C) [.ref p] H (.ref p) := fun H1 e Q q E => ⟨p, n, D, rfl, S.mono e, q⟩
theorem ok_want_lot_of (T : Txt K mg) (TC : TxtC K mg C) : Cal P w K mg base "want_lot_of" p_want_lot_of 5 (spWantLotOf C) := by
  refine cal_of T.d_want_lot_of sc_want_lot_of (fun _ _ _ _ _ _ us hl => match us, hl with | [_, _], _ => rfl) (fun vs H Q E h => ?_) (fun f cdv A outer s H vs Q E hr h => ?_)
  · obtain ⟨p, a, n, D, l, rfl, _⟩ := h
    rfl
  · obtain ⟨p, a, n, D, l, rfl, S, ha, hl, hn, q⟩ := h
    refine ⟨_, pss_one (ps_ret (pe_cal (ok_want_lot T) hr (pa_cons (pe_fld (pv 0) rfl) (pa_cons (pv 1) pa_nil)))), ?_⟩
    exact s_ret (ev_call (ea_cons (ev_shelves TC (ev_var rfl) S) (ea_cons (ev_var rfl) ea_nil)) (sv_want_lot ha hl hn)) fun H1 e => q H1 e
theorem sv_want_lot_of {p a : Addr} {n : Nat} {D l : List Nat} {H : Hp} (S : StoreAt C H p n D) (h : Tk H a (vN l)) (hl : LotOk n l) (hn : n ≤ 8) : SpV (spWantLotOf C) [.ref p, .ref a] H (.int (bitsOf l : Nat)) := fun H1 e Q q E => ⟨p, a, n, D, l, rfl, S.mono e, h.mono e, hl, hn, q⟩
theorem ok_is_board_of (T : Txt K mg) (TC : TxtC K mg C) : Cal P w K mg base "is_board_of" p_is_board_of 3 (spIsBoardOf C) := by
  refine cal_of T.d_is_board_of sc_is_board_of (fun _ _ _ _ _ _ us hl => match us, hl with | [_, _], _ => rfl) (fun vs H Q E h => ?_) (fun f cdv A outer s H vs Q E hr h => ?_)
  · obtain ⟨p, a, n, D, bd, rfl, _⟩ := h
    rfl
  · obtain ⟨p, a, n, D, bd, rfl, S, ha, hb, hn, q⟩ := h
    obtain ⟨t2, g2⟩ := T.c_MOST_PIECES
    refine ⟨_, pss_cons (ps_if (PW.pt (pw_or (pt_not (pt_val (pe_cal (ok_is_list T) (hr.mono (by decide)) (pa_cons (pv 1) pa_nil)))) (pw_or1 (pt_cmpR op_ne (pe_callB call_len_seq (by rfl) T.b_len boot_len (pa_cons (pv 1) pa_nil)) (pe_fld (pv 0) rfl) (nomark _))))) pss_never pss_nil)
      (pss_one (ps_ret (pe_callB (cr_all rfl) (by rfl) T.b_all (by decide +kernel) (pa_cons
        (pe_lc (own := [("number", 2)]) rfl sc_is_board_of.nd (pi_seq (pv 1)) (blkOk_by (N := n_is_board_of) (sc := defScope s_is_board_of) (by decide +kernel)) (fun _ _ _ _ _ => pg_name (i := 2) sc_is_board_of.nd rfl (Or.inl rfl)) (fun _ _ _ _ _ => pts_nil)
          (fun _ _ _ _ _ => pe_and (pe_cal (ok_is_count T) hr (pa_cons (pv 2) pa_nil)) (pe_one (pe_cmpR op_le (pv 2) (pe_glob (v := .int 60) (by rfl) g2 ⟨_, rfl⟩) (nomark _))))) pa_nil)))), ?_⟩
    have hlen : (vN bd).length = n := by rw [vN_len]; exact hb.1
    refine q_when (b := false) (et_or (a := false) (b := false) (et_not (a := true) (et_B (ev_call (ea_cons (ev_var rfl) ea_nil) (sv_is_list ha)))) fun _ => et_test (ev_is (ev_op (ev_cb (ea_cons (ev_var rfl) ea_nil) (rc_len ha.sq)) (ev_shelves TC (ev_var rfl) S) rv_neI) ?_)) (fun z => nomatch z) fun _ H1 e1 => ?_
    · rw [hlen, decide_eq_true rfl]
      rfl
    · have ha1 := ha.mono e1
      refine s_ret (v := .bl true) (ev_is (ev_cbL (el_lcS (fun _ => true) (fun _ => .bl true) (ev_var rfl) ha1.sq (by omega) (fun x => rfl) (fun i x hx => et_yes) fun i x hx _ => ?_) fun p H1 e1 h1 => rc_all (bs := (List.range (vN bd).length).map fun _ => true) (.of (h1.trans (congrArg (fun l => some (HO.lst l)) (given_bl _ fun _ => true))))) ?_) fun H2 e2 => q H2 (e1.trans e2)
      · obtain ⟨k, hk, rfl⟩ := vN_get hx
        have hkn := hb.2 k (List.mem_of_getElem? hk)
        refine ev_is (ev_andV (ev_call (ea_cons (ev_var rfl) ea_nil) sv_is_count) fun _ => ev_op (ev_var rfl) ev_c rv_I0) ?_
        rw [decide_eq_true (Int.natCast_nonneg k), decide_eq_true (by omega : (k : Int) ≤ 60)]
        rfl
      · rw [all_map_true fun _ _ => rfl]
theorem sv_is_board_of {p a : Addr} {n : Nat} {D bd : List Nat} {H : Hp} (S : StoreAt C H p n D) (h : Tk H a (vN bd)) (hb : BoardOk n bd) (hn : n ≤ 8) : SpV (spIsBoardOf C) [.ref p, .ref a] H (.bl true) := fun H1 e Q q E => ⟨p, a, n, D, bd, rfl, S.mono e, h.mono e, hb, hn, q⟩
/-- tuple(value): a new one, or itself -/
theorem tup_of {σ : L2.St} {H : Hp} {a : Addr} {xs : List V} {Q : VK} (h : Tk H a xs) (q : RetTup xs H Q) : rTupOf K [.ref a] H Q := by
  rcases h with h | h
  · exact ⟨a, xs, rfl, .inl ⟨.of h, fun l hl => q l _ (Ex.new hl) upd_same⟩⟩
  · exact ⟨a, xs, rfl, .inr ⟨.of h, q a H (Ex.refl H) h⟩⟩
theorem ok_want_board (T : Txt K mg) (TC : TxtC K mg C) : Cal P w K mg base "want_board" p_want_board 4 (spWantBoard C) := by
  refine cal_of T.d_want_board sc_want_board (fun _ _ _ _ _ _ us hl => match us, hl with | [_, _], _ => rfl) (fun vs H Q E h => ?_) (fun f cdv A outer s H vs Q E hr h => ?_)
  · obtain ⟨p, a, n, D, bd, rfl, _⟩ := h
    rfl
  · obtain ⟨p, a, n, D, bd, rfl, S, ha, hb, hn, q⟩ := h
    refine ⟨_, pss_cons (ps_if (pt_not (pt_val (pe_cal (ok_is_board_of T TC) hr (pa_cons (pv 0) (pa_cons (pv 1) pa_nil))))) pss_never pss_nil) (pss_one (ps_ret (pe_callTy call_tuple_of (by rfl) T.b_tuple (by decide +kernel) (pa_cons (pv 1) pa_nil)))), ?_⟩
    refine q_when (b := false) (et_not (a := true) (et_B (ev_call (ea_cons (ev_var rfl) (ea_cons (ev_var rfl) ea_nil)) (sv_is_board_of S ha hb hn)))) (fun z => nomatch z) fun _ H1 e1 => ?_
    exact ⟨_, rfl, tup_of (σ := []) (ha.mono e1) fun p H2 e2 h2 => q p H2 (e1.trans e2) h2⟩
theorem ok_want_wished (T : Txt K mg) (TC : TxtC K mg C) : Cal P w K mg base "want_wished" p_want_wished 4 (spWantBoard C) := by
  refine cal_of T.d_want_wished sc_want_wished (fun _ _ _ _ _ _ us hl => match us, hl with | [_, _], _ => rfl) (fun vs H Q E h => ?_) (fun f cdv A outer s H vs Q E hr h => ?_)
  · obtain ⟨p, a, n, D, bd, rfl, _⟩ := h
    rfl
  · obtain ⟨p, a, n, D, bd, rfl, S, ha, hb, hn, q⟩ := h
    refine ⟨_, pss_cons (ps_if (pt_not (pt_val (pe_cal (ok_is_board_of T TC) hr (pa_cons (pv 0) (pa_cons (pv 1) pa_nil))))) pss_never pss_nil) (pss_one (ps_ret (pe_callTy call_tuple_of (by rfl) T.b_tuple (by decide +kernel) (pa_cons (pv 1) pa_nil)))), ?_⟩
    refine q_when (b := false) (et_not (a := true) (et_B (ev_call (ea_cons (ev_var rfl) (ea_cons (ev_var rfl) ea_nil)) (sv_is_board_of S ha hb hn)))) (fun z => nomatch z) fun _ H1 e1 => ?_
    exact ⟨_, rfl, tup_of (σ := []) (ha.mono e1) fun p H2 e2 h2 => q p H2 (e1.trans e2) h2⟩
theorem ok_lot_at (T : Txt K mg) : Cal P w K mg base "lot_at" p_lot_at 2 spLotAt := by
  refine cal_of T.d_lot_at sc_lot_at (fun _ _ _ _ _ _ us hl => match us, hl with | [_, _], _ => rfl) (fun vs H Q E h => ?_) (fun f cdv A outer s H vs Q E hr h => ?_)
  · obtain ⟨a, l, bd, rfl, _⟩ := h
    rfl
  · obtain ⟨a, l, bd, rfl, ha, hb, q⟩ := h
    refine ⟨_, pss_one (ps_ret (pe_cal (ok_bits_of T) hr (pa_cons (pe_lc (g := gPair K 2 3) (own := [("shelf", 2), ("number", 3)]) rfl sc_lot_at.nd (pi_enumS (by rfl) T.b_enumerate (pa_cons (pv 0) pa_nil)) (blkOk_by (N := n_lot_at) (sc := defScope s_lot_at) (by decide +kernel))
      (fun _ _ _ _ _ => pg_pair (j1 := 2) (j2 := 3) rfl sc_lot_at.nd rfl rfl (Or.inl rfl) (Or.inl rfl) (by first | exact Or.inl rfl | exact Or.inr rfl) (by first | exact Or.inl rfl | exact Or.inr rfl)) (fun _ _ _ _ _ => pts_one (pt_cmpR op_ge (pv 3) (pv 1) (nomark _))) (fun _ _ _ _ _ => pv 2)) pa_nil))), ?_⟩
    have hz : (vN bd).length ≤ 40000 := by rw [vN_len]; omega
    refine s_ret (v := .int (lotAt bd l : Nat)) (ev_callL (el_lcE (fun i => decide (l ≤ at_ bd i)) (fun i => .int (i : Nat)) (ea_cons (ev_var rfl) ea_nil) ha.sq hz (fun x y => rfl) (fun i hi => ?_) fun i hi _ => ev_var rfl) fun p H1 e1 h1 => ?_) fun H1 e => q H1 e
    · rw [vN_len] at hi
      refine et_test (ev_is (ev_op (ev_var (v := .int (at_ bd i : Nat)) ?_) (ev_var rfl) rv_I0) ?_)
      · show some (some ((vN bd).getD i .non)) = _
        rw [vN_getD hi]
        rfl
      · rw [dec_le]
    · have e2 := given_nat (vN bd).length (fun i => decide (l ≤ at_ bd i)) fun i => i
      rw [List.map_id', vN_len] at e2
      rw [vN_len] at h1
      have h2 : Tk H1 p (vN ((List.range bd.length).filter fun s => decide (l ≤ at_ bd s))) := .lst (h1.trans (congrArg (fun l => some (HO.lst l)) e2))
      exact sv_bits_of h2 fun s hs => by
        have := List.mem_range.mp (List.mem_filter.mp hs).1
        omega
theorem sv_lot_at {a : Addr} {l : Nat} {bd : List Nat} {H : Hp} (h : Tk H a (vN bd)) (hb : bd.length ≤ 8) : SpV spLotAt [.ref a, .int (l : Int)] H (.int (lotAt bd l : Nat)) := fun H1 e Q q E => ⟨a, l, bd, rfl, h.mono e, hb, q⟩
theorem ok_all_of (T : Txt K mg) (TC : TxtC K mg C) : Cal P w K mg base "all_of" p_all_of 1 (spAllOf C) := by
  refine cal_of T.d_all_of sc_all_of (fun _ _ _ _ _ _ us hl => match us, hl with | [_], _ => rfl) (fun vs H Q E h => ?_) (fun f cdv A outer s H vs Q E hr h => ?_)
  · obtain ⟨p, n, D, rfl, _⟩ := h
    rfl
  · obtain ⟨p, n, D, rfl, S, hn, q⟩ := h
    refine ⟨_, pss_one (ps_ret (pe_op op_sub (pe_op op_oneShl pe_int (pe_fld (pv 0) rfl)) pe_int)), ?_⟩
    refine s_ret (v := .int ((2 ^ n - 1 : Nat) : Int)) (ev_is (ev_op (ev_op ev_c (ev_shelves TC (ev_var rfl) S) (rv_shl1 (by omega))) ev_c rv_I0) ?_) fun H1 e => q H1 e
    have := Nat.two_pow_pos n
    exact congrArg V.int (by omega)
theorem sv_all_of {p : Addr} {n : Nat} {D : List Nat} {H : Hp} (S : StoreAt C H p n D) (hn : n ≤ 8) : SpV (spAllOf C) [.ref p] H (.int ((2 ^ n - 1 : Nat) : Int)) := fun H1 e Q q E => ⟨p, n, D, rfl, S.mono e, hn, q⟩
theorem ok_supported_of (T : Txt K mg) (TC : TxtC K mg C) : Cal P w K mg base "supported_of" p_supported_of 1 (spSupportedOf C) := by
  refine cal_of T.d_supported_of sc_supported_of (fun _ _ _ _ _ _ us hl => match us, hl with | [_, _], _ => rfl) (fun vs H Q E h => ?_) (fun f cdv A outer s H vs Q E hr h => ?_)
  · obtain ⟨p, b, n, D, rfl, _⟩ := h
    rfl
  · obtain ⟨p, b, n, D, rfl, S, q⟩ := h
    refine ⟨_, pss_cons (ps_set (i := 2) sc_supported_of.nd rfl (.inl rfl) pe_int)
      (pss_cons (ps_for PassesOwn.never rfl (pi_seq (pe_fld (pv 0) rfl)) (pg_name (i := 3) sc_supported_of.nd rfl (.inl rfl)) (pss_one (ps_if (pt_cmpR op_eq (pe_op op_and (pv 3) (pe_un un_inv (pv 1))) pe_int (nomark _)) (pss_one (ps_set (i := 2) sc_supported_of.nd rfl (.inl rfl) (pe_op op_or (pv 2) (pv 3)))) pss_nil)))
      (pss_one (ps_ret (pv 2)))), ?_⟩
    refine q_asg ev_c fun H1 e1 => ?_
    obtain ⟨t, ht, hD⟩ := ev_dels TC (σ := [some (.ref p), some (.int (b : Int)), some (.int 0), none]) (ta := tVar 0) (ev_var rfl) (S.mono e1)
    refine q_forS ht hD.sq (fun i σ' H' => ∃ y, σ' = [some (.ref p), some (.int (b : Int)), some (.int (supOf (D.take i) b : Nat)), y] ∧ Ex H1 H') (fun H2 e2 => ⟨none, rfl, e2⟩) ?_ ?_ ?_
    · rintro i σ' H' _ ⟨y, _, e⟩
      exact e
    · rintro i x σ' H' hx ⟨y, rfl, e⟩
      obtain ⟨k, hk, rfl⟩ := vN_get hx
      have ek : supOf (D.take (i + 1)) b = if k &&& b = k then supOf (D.take i) b ||| k else supOf (D.take i) b := by
        rw [List.take_add_one, hk]
        exact supOf_snoc _ _ _
      refine s_when (b := decide (k &&& b = k)) (et_test (ev_is (ev_op (ev_notand (ev_var rfl) (ev_var rfl)) ev_c rv_eqI) (by rw [notand_zero]))) (fun hb H2 e2 => ?_) fun hb H2 e2 => ?_
      · rw [if_pos (of_decide_eq_true hb)] at ek
        exact s_asg (ev_op (ev_var rfl) (ev_var rfl) rv_or) fun H3 e3 => ⟨some (.int (k : Int)), by rw [ek]; rfl, (e.trans e2).trans e3⟩
      · rw [if_neg (of_decide_eq_false hb)] at ek
        exact ⟨some (.int (k : Int)), by rw [ek]; rfl, e.trans e2⟩
    · rintro σ' H' ⟨y, rfl, e⟩
      rw [vN_len, List.take_length]
      exact s_ret (ev_var rfl) fun H2 e2 => q H2 ((e1.trans e).trans e2)
theorem sv_supported_of {p : Addr} {b n : Nat} {D : List Nat} {H : Hp} (S : StoreAt C H p n D) : SpV (spSupportedOf C) [.ref p, .int (b : Int)] H (.int (supOf D b : Nat)) := fun H1 e Q q E => ⟨p, b, n, D, rfl, S.mono e, q⟩
theorem ok_supported (T : Txt K mg) (TC : TxtC K mg C) : Cal P w K mg base "supported" p_supported 6 (spSupported C) := by
  refine cal_of T.d_supported sc_supported (fun _ _ _ _ _ _ us hl => match us, hl with | [_, _], _ => rfl) (fun vs H Q E h => ?_) (fun f cdv A outer s H vs Q E hr h => ?_)
  · obtain ⟨p, a, n, D, l, rfl, _⟩ := h
    rfl
  · obtain ⟨p, a, n, D, l, rfl, S, ha, hl, hn, q⟩ := h
    refine ⟨_, pss_cons (ps_expr (pe_cal (ok_want_store T TC) (hr.mono (by decide)) (pa_cons (pv 0) pa_nil))) (pss_one (ps_ret (pe_cal (ok_told_lot T) (hr.mono (by decide)) (pa_cons (pe_cal (ok_supported_of T TC) (hr.mono (by decide)) (pa_cons (pv 0) (pa_cons (pe_cal (ok_want_lot_of T TC) hr (pa_cons (pv 0) (pa_cons (pv 1) pa_nil))) pa_nil))) pa_nil)))), ?_⟩
    refine q_drop (ev_call (ea_cons (ev_var rfl) ea_nil) (sv_want_store S)) fun H1 e1 => ?_
    exact s_retL (el_call (ea_cons (ev_call (ea_cons (ev_var rfl) (ea_cons (ev_call (ea_cons (ev_var rfl) (ea_cons (ev_var rfl) ea_nil)) (sv_want_lot_of (S.mono e1) (ha.mono e1) hl hn)) ea_nil)) (sv_supported_of (S.mono e1))) ea_nil) sl_told_lot) fun p H2 hp e2 h2 => q p H2 (fresh_back e1 hp) (e1.trans e2) h2
end
end K61

/-! levels.py: comes_up, can_come; comparing lists -/
namespace K61
open PySem PySem.Spec PyProof.Rows L2 Evl

/-! ### comparing lists -/
def dI (ns : List Int) : PyData := .list (ns.map PyData.int)
theorem lay_ints (ns : List Int) : PyData.canLayAll0 (ns.map PyData.int) = true := by
  induction ns with
  | nil => rw [List.map_nil, PyData.canLayAll0]
  | cons n r ih => rw [List.map_cons, PyData.canLayAll0, ih, PyData.canLay0]; rfl
theorem shaped_I (ns : List Int) : SeqAt.shaped (dI ns) = true := by
  unfold SeqAt.shaped dI
  rw [PyData.canLay0, lay_ints, Bool.true_and]
  refine decide_eq_true ?_
  show PyData.depthAll (ns.map PyData.int) + 1 ≤ 64
  rw [PySem.W.depth_ints]
  decide
theorem eqv_I : ∀ ns ms : List Int, PyData.eqvAll (ns.map PyData.int) (ms.map PyData.int) = decide (ns = ms)
  | [], [] => by rw [List.map_nil, PyData.eqvAll]; rfl
  | [], m :: ms => by rw [List.map_nil, List.map_cons, PyData.eqvAll]; rfl; all_goals (intros; simp_all)
  | n :: ns, [] => by rw [List.map_nil, List.map_cons, PyData.eqvAll]; rfl; all_goals (intros; simp_all)
  | n :: ns, m :: ms => by
    rw [List.map_cons, List.map_cons, PyData.eqvAll, eqv_I ns ms]
    have h : PyData.eqv (.int n) (.int m) = decide (n = m) := by
      rw [PyData.eqv]
      rfl
    rw [h]
    refine Bool.eq_iff_iff.mpr ?_
    rw [Bool.and_eq_true, decide_eq_true_eq, decide_eq_true_eq, decide_eq_true_eq, List.cons.injEq]
theorem eqvI (ns ms : List Int) : PyData.eqv (dI ns) (dI ms) = decide (ns = ms) := by
  unfold dI
  rw [PyData.eqv]
  exact eqv_I ns ms
section
variable {K : PySem.W.Frag} {σ : L2.St} {H : Hp}
theorem dp_ints : ∀ ns : List Int, DpAll K H (ns.map V.int) (ns.map PyData.int)
  | [] => .nil
  | n :: r => .cons (.int n) (dp_ints r)
theorem dp_I {a : Addr} {ns : List Int} (h : SqL K H a (ns.map V.int)) : Dp K H (.ref a) (dI ns) := .lst h (dp_ints ns)
theorem rv_neL {a b : Addr} {ns ms : List Int} (ha : SqL K H a (ns.map V.int)) (hb : SqL K H b (ms.map V.int)) : RV (rNeD K) (.ref a) (.ref b) H (.bl (!decide (ns = ms))) := fun H1 e Q q =>
  ⟨dI ns, dI ms, dp_I (ex_l e ha), dp_I (ex_l e hb), shaped_I ns, shaped_I ms, by rw [eqvI]; exact q H1 (Ex.refl H1)⟩
theorem rv_eqL {a b : Addr} {ns ms : List Int} (ha : SqL K H a (ns.map V.int)) (hb : SqL K H b (ms.map V.int)) : RV (rEqD K) (.ref a) (.ref b) H (.bl (decide (ns = ms))) := fun H1 e Q q =>
  ⟨dI ns, dI ms, dp_I (ex_l e ha), dp_I (ex_l e hb), shaped_I ns, shaped_I ms, by rw [eqvI]; exact q H1 (Ex.refl H1)⟩
theorem el_nil : EvL (tLst tNil) σ H [] := el_lst ea_nil (Nat.zero_le _)
end
theorem max_of : ∀ {l : List Nat}, l ≠ [] → ∃ m ∈ l, ∀ y ∈ l, y ≤ m
  | [], h => absurd rfl h
  | [x], _ => ⟨x, List.mem_cons_self, fun y hy => by rw [List.mem_singleton.mp hy]; exact Nat.le_refl _⟩
  | x :: y :: r, _ => by
    obtain ⟨m, hm, h⟩ := max_of (l := y :: r) (by intro z; cases z)
    by_cases c : x ≤ m
    · exact ⟨m, List.mem_cons_of_mem _ hm, fun z hz => by
        rcases List.mem_cons.mp hz with e | e
        · rw [e]; exact c
        · exact h z e⟩
    · exact ⟨x, List.mem_cons_self, fun z hz => by
        rcases List.mem_cons.mp hz with e | e
        · rw [e]; exact Nat.le_refl _
        · have := h z e; omega⟩
theorem min_of : ∀ {l : List Nat}, l ≠ [] → ∃ m ∈ l, ∀ y ∈ l, m ≤ y
  | [], h => absurd rfl h
  | [x], _ => ⟨x, List.mem_cons_self, fun y hy => by rw [List.mem_singleton.mp hy]; exact Nat.le_refl _⟩
  | x :: y :: r, _ => by
    obtain ⟨m, hm, h⟩ := min_of (l := y :: r) (by intro z; cases z)
    by_cases c : m ≤ x
    · exact ⟨m, List.mem_cons_of_mem _ hm, fun z hz => by
        rcases List.mem_cons.mp hz with e | e
        · rw [e]; exact c
        · exact h z e⟩
    · exact ⟨x, List.mem_cons_self, fun z hz => by
        rcases List.mem_cons.mp hz with e | e
        · rw [e]; exact Nat.le_refl _
        · have := h z e; omega⟩
theorem mem_iN {l : List Nat} {m : Nat} (h : m ∈ l) : (m : Int) ∈ iN l := List.mem_map.mpr ⟨m, h, rfl⟩
theorem iN_le {l : List Nat} {m : Nat} (h : ∀ y ∈ l, y ≤ m) : ∀ y ∈ iN l, y ≤ (m : Int) := fun y hy => by
  obtain ⟨k, hk, rfl⟩ := List.mem_map.mp hy
  exact Int.ofNat_le.mpr (h k hk)
theorem iN_ge {l : List Nat} {m : Nat} (h : ∀ y ∈ l, m ≤ y) : ∀ y ∈ iN l, (m : Int) ≤ y := fun y hy => by
  obtain ⟨k, hk, rfl⟩ := List.mem_map.mp hy
  exact Int.ofNat_le.mpr (h k hk)
theorem at_mem {bd : List Nat} {s : Nat} (h : s < bd.length) : at_ bd s ∈ bd := List.mem_of_getElem? (at_get h)
theorem len_ne {n : Nat} {bd : List Nat} (h : BoardOk n bd) (hn : 2 ≤ n) : bd ≠ [] := fun e => by
  have h1 := h.1
  rw [e, List.length_nil] at h1
  omega
def spCanCome (C : Addr) : Sp := spComesUp C
section
variable {P : Program} {w : World} {K : PySem.W.Frag} {mg : Str → Option Value} {base : Heap} {C : Addr}
theorem ok_comes_up (T : Txt K mg) (TC : TxtC K mg C) : Cal P w K mg base "comes_up" p_comes_up 3 (spComesUp C) := by
  refine cal_of T.d_comes_up sc_comes_up (fun _ _ _ _ _ _ us hl => match us, hl with | [_, _], _ => rfl) (fun vs H Q E h => ?_) (fun f cdv A outer s H vs Q E hr h => ?_)
  · obtain ⟨p, a, n, D, bd, ks, rfl, _⟩ := h
    rfl
  · obtain ⟨p, a, n, D, bd, ks, rfl, S, ha, hb, q⟩ := h
    refine ⟨_, pss_cons (ps_set (i := 2) sc_comes_up.nd rfl (.inl rfl) (pe_cal (ok_all_of T TC) (hr.mono (by decide)) (pa_cons (pv 0) pa_nil)))
      (pss_cons (ps_for PassesOwn.never rfl (pi_range2 (by rfl) T.b_range (pa_cons pe_int (pa_cons (pe_op op_add (pe_callB (cr_maxS rfl hr.units) (by rfl) T.b_max (by decide +kernel) (pa_cons (pv 1) pa_nil)) pe_int) pa_nil))) (pg_name (i := 3) sc_comes_up.nd rfl (.inl rfl))
        (pss_cons (ps_set (i := 4) sc_comes_up.nd rfl (.inl rfl) (pe_cal (ok_lot_at T) hr (pa_cons (pv 1) (pa_cons (pv 3) pa_nil))))
        (pss_cons (ps_if (pt_cmpR op_ne (pe_op op_and (pv 4) (pe_un un_inv (pe_cal (ok_supported_of T TC) (hr.mono (by decide)) (pa_cons (pv 0) (pa_cons (pv 2) pa_nil))))) pe_int (nomark _)) (pss_one (ps_ret pe_bl)) pss_nil)
        (pss_one (ps_set (i := 2) sc_comes_up.nd rfl (.inl rfl) (pv 4))))))
      (pss_one (ps_ret pe_bl))), ?_⟩
    have hlen := hb.1
    have hk := S.kok
    rw [← hlen] at hk
    obtain ⟨m, hm, hmax⟩ := max_of (len_ne hb S.lo)
    have hm60 := hb.2 m hm
    have hcd := climb_due (bd := bd) S.rep hk (m := m) fun s hs => hmax _ (at_mem hs)
    refine q_asg (v := .int (lotAt bd 0 : Nat)) (ev_is (ev_call (ea_cons (ev_var rfl) ea_nil) (sv_all_of S.st S.hi)) (by rw [← all_lot, hlen])) fun H1 e1 => ?_
    refine q_forR2 (lo := 1) (n := (m : Int) + 1) (ea_cons ev_c (ea_cons (ev_op (ev_cb (ea_cons (ev_var rfl) ea_nil) (rc_max (ha.mono e1).sq (mem_iN hm) (iN_le hmax))) ev_c rv_I0) ea_nil)) (by omega)
      (fun i σ' H' => ∃ y3 y4, σ' = [some (.ref p), some (.ref a), some (.int (lotAt bd i : Nat)), y3, y4] ∧ Ex H H' ∧ Climb D bd i) (fun H2 e2 => ⟨none, none, rfl, e1.trans e2, fun l hl => absurd hl (Nat.not_lt_zero l)⟩) ?_ ?_
    · rintro i σ' H' hi ⟨y3, y4, rfl, e, hc⟩
      have ei : (1 : Int) + (i : Int) = ((i + 1 : Nat) : Int) := by omega
      rw [ei]
      refine q_asg (ev_call (ea_cons (ev_var rfl) (ea_cons (ev_var rfl) ea_nil)) (sv_lot_at (ha.mono e) (by have := S.hi; omega))) fun H2 e2 => ?_
      refine q_when (b := !decide (lotAt bd (i + 1) &&& supOf D (lotAt bd i) = lotAt bd (i + 1))) (et_test (ev_is (ev_op (ev_notand (ev_var rfl) (ev_call (ea_cons (ev_var rfl) (ea_cons (ev_var rfl) ea_nil)) (sv_supported_of ((S.mono e).mono e2).st))) ev_c rv_neI) (by rw [notand_zero]))) (fun hx H3 e3 => ?_) fun hx H3 e3 => ?_
      · refine s_ret ev_c fun H4 e4 => ?_
        have hno : ¬ Due ks bd := fun hd => by
          have h1 := within_iff.mp (hcd.mpr hd i (by omega))
          rw [decide_eq_true h1] at hx
          cases hx
        have hq := q H4 (((e.trans e2).trans e3).trans e4)
        rw [dB_neg hno] at hq
        exact hq
      · refine s_asg (ev_var rfl) fun H4 e4 => ⟨_, _, rfl, ((e.trans e2).trans e3).trans e4, fun l hl => ?_⟩
        rcases Nat.lt_or_ge l i with c | c
        · exact hc l c
        · have el : l = i := by omega
          rw [el]
          refine within_iff.mpr ?_
          by_cases z : lotAt bd (i + 1) &&& supOf D (lotAt bd i) = lotAt bd (i + 1)
          · exact z
          · rw [decide_eq_false z] at hx
            cases hx
    · rintro σ' H' ⟨y3, y4, rfl, e, hc⟩
      have em : ((m : Int) + 1 - 1).toNat = m := by omega
      rw [em] at hc
      refine s_ret ev_c fun H4 e4 => ?_
      have hq := q H4 (e.trans e4)
      rw [dB_pos (hcd.mp hc)] at hq
      exact hq
theorem sv_comes_up {p a : Addr} {n : Nat} {D bd : List Nat} {ks : List (List Nat)} {H : Hp} (S : Shop C H p n D ks) (h : Tk H a (vN bd)) (hb : BoardOk n bd) : SpV (spComesUp C) [.ref p, .ref a] H (.bl (dB (Due ks bd))) := fun H1 e Q q E => ⟨p, a, n, D, bd, ks, rfl, S.mono e, h.mono e, hb, q⟩
theorem eu_board {σ : L2.St} {H : Hp} {p a : Addr} {n : Nat} {D bd : List Nat} {ta : TA} (S : StoreAt C H p n D) (h : Tk H a (vN bd)) (hb : BoardOk n bd) (hn : n ≤ 8) (hA : EvA ta σ H [.ref p, .ref a]) {te : TE} (hte : te = tCall (spWantBoard C) [] E0 ta) :
    ∀ H1, Ex H H1 → ∀ Q : VK, (∀ t H2, Ex H1 H2 → Tk H2 t (vN bd) → Q (.ref t) H2) → te σ H1 Q := fun H1 e Q q => by
  subst hte
  refine hA H1 e _ fun H2 e2 => ⟨p, a, n, D, bd, rfl, S.mono (e.trans e2), h.mono (e.trans e2), hb, hn, fun t H3 e3 h3 => q t H3 (e2.trans e3) (.inr h3)⟩
theorem ok_can_come (T : Txt K mg) (TC : TxtC K mg C) : Cal P w K mg base "can_come" p_can_come 5 (spCanCome C) := by
  refine cal_of T.d_can_come sc_can_come (fun _ _ _ _ _ _ us hl => match us, hl with | [_, _], _ => rfl) (fun vs H Q E h => ?_) (fun f cdv A outer s H vs Q E hr h => ?_)
  · obtain ⟨p, a, n, D, bd, ks, rfl, _⟩ := h
    rfl
  · obtain ⟨p, a, n, D, bd, ks, rfl, S, ha, hb, q⟩ := h
    refine ⟨_, pss_cons (ps_expr (pe_cal (ok_want_store T TC) (hr.mono (by decide)) (pa_cons (pv 0) pa_nil))) (pss_one (ps_ret (pe_cal (ok_comes_up T TC) (hr.mono (by decide)) (pa_cons (pv 0) (pa_cons (pe_cal (ok_want_board T TC) hr (pa_cons (pv 0) (pa_cons (pv 1) pa_nil))) pa_nil))))), ?_⟩
    refine q_drop (ev_call (ea_cons (ev_var rfl) ea_nil) (sv_want_store S.st)) fun H1 e1 => ?_
    refine ⟨_, rfl, eu_board (S.st.mono e1) (ha.mono e1) hb S.hi (ea_cons (ev_var rfl) (ea_cons (ev_var rfl) ea_nil)) rfl H1 (Ex.refl H1) _ fun t H2 e2 h2 => ?_⟩
    exact ⟨p, t, n, D, bd, ks, rfl, S.mono (e1.trans e2), h2, hb, fun H3 e3 => q H3 ((e1.trans e2).trans e3)⟩
theorem sv_can_come {p a : Addr} {n : Nat} {D bd : List Nat} {ks : List (List Nat)} {H : Hp} (S : Shop C H p n D ks) (h : Tk H a (vN bd)) (hb : BoardOk n bd) : SpV (spCanCome C) [.ref p, .ref a] H (.bl (dB (Due ks bd))) := fun H1 e Q q E => ⟨p, a, n, D, bd, ks, rfl, S.mono e, h.mono e, hb, q⟩
end
end K61

/-! looks.py -/
namespace K61
open PySem PySem.Spec PyProof.Rows L2 Evl

section
variable {K : PySem.W.Frag} {σ : L2.St} {H : Hp} {t : TT} {te : TE}
/-- a comprehension over a new tuple -/
theorem el_lcNU {xs : List V} {tl : TE} {j : Nat} {vs : List Nat} (f : Nat → Bool) (v : Nat → V) (h : EvU tl σ H xs) (hz : xs.length ≤ 40000) (hw : ∀ x, wipe ((wipe σ vs).set j (some x)) vs = wipe σ vs)
    (ht : ∀ (i : Nat) (x : V), xs[i]? = some x → EvT t ((wipe σ vs).set j (some x)) H (f i)) (he : ∀ (i : Nat) (x : V), xs[i]? = some x → f i = true → Ev te ((wipe σ vs).set j (some x)) H (v i)) :
    EvL (tLc (iSeq K tl) (gName j) t te vs) σ H (given xs.length f v) := fun H0 e Q q => h H0 e _ fun a H1 ha e1 h1 => by
  have e01 := e.trans e1
  exact ⟨a, xs, rfl, .inr ⟨st_of h1, fun Dl hD => lc_tup (xs := xs) (Cw H1 f v Dl) ⟨hD, Ex.new hD, upd_same⟩ (fun i H' _ p => ex_t p.2.1 (st_of h1))
    (fun i x H' hi p => ⟨hw x, cw_turn p (by have := (List.getElem?_eq_some_iff.mp hi).1; omega) ((ht i x hi).mono e01) (fun hf => (he i x hi hf).mono e01)⟩)
    (fun H' p => q Dl H' (fresh_back e1 p.1) (e1.trans p.2.1) p.2.2)⟩⟩
/-- wished[shelf] -/
theorem ev_at {ta tb : TE} {a : Addr} {bd : List Nat} {s : Nat} (h : Ev ta σ H (.ref a)) (hb : Tk H a (vN bd)) (hs : s < bd.length) (h2 : Ev tb σ H (.int (s : Int))) : Ev (tOp (rIx K) ta tb) σ H (.int (at_ bd s : Nat)) :=
  ev_op h h2 fun H1 e Q q => by
    have h0 : atI (vN bd) (s : Int) = some (.int (at_ bd s : Nat)) := by
      show (ixN (vN bd).length (s : Int)).bind ((vN bd)[·]?) = _
      rw [ixN_nat (by rw [vN_len]; exact hs)]
      show (vN bd)[s]? = _
      rw [vN_at (at_get hs)]
    rcases hb with hb | hb
    · exact .inl ⟨a, _, _, _, rfl, rfl, sq_of (e a _ hb), h0, q H1 (Ex.refl H1)⟩
    · exact .inr (.inl ⟨a, _, _, _, rfl, rfl, st_of (e a _ hb), h0, q H1 (Ex.refl H1)⟩)
end
theorem range_get (l : List Nat) : (List.range l.length).map (fun i => l.getD i 0) = l := by
  refine List.ext_getElem? fun i => ?_
  rw [List.getElem?_map]
  rcases Nat.lt_or_ge i l.length with c | c
  · rw [List.getElem?_range c]
    exact (at_get (bd := l) c).symm
  · rw [List.getElem?_eq_none (by rw [List.length_range]; exact c), List.getElem?_eq_none c]
    rfl
theorem given_fil (l : List Nat) (g : Nat → Bool) : given (vN l).length (fun i => g (l.getD i 0)) (fun i => .int (l.getD i 0 : Nat)) = vN (l.filter g) := by
  rw [vN_len, given_nat]
  refine congrArg vN ?_
  conv => rhs; rw [← range_get l, List.filter_map]
  rfl
theorem given_get (l : List Nat) (v : Nat → Nat) : given (vN l).length (fun _ => true) (fun i => .int (v (l.getD i 0) : Nat)) = vN (l.map v) := by
  rw [vN_len, given_nat l.length (fun _ => true) fun i => v (l.getD i 0), List.filter_eq_self.mpr fun _ _ => rfl]
  refine congrArg vN ?_
  conv => rhs; rw [← range_get l, List.map_map]
  rfl
/-- the positions of the kinds that name a shelf -/
def withOf (D : List Nat) (s : Nat) : List Nat := (List.range D.length).filter fun i => (D.getD i 0).testBit s
/-- a giver: nobody within it two below -/
def Giver (bd : List Nat) (k s : Nat) : Prop := ∀ t, k.testBit t = true → at_ bd s ≤ at_ bd t + 1
def spKindsWith : Sp := fun vs H Q _ => ∃ (a : Addr) (s : Nat) (D : List Nat), vs = [.ref a, .int (s : Int)] ∧ Tk H a (vN D) ∧ D.length ≤ 8 ∧ RetL (vN (withOf D s)) H Q
def spGainers : Sp := fun vs H Q _ => ∃ (a b : Addr) (bn bd : List Nat), vs = [.ref a, .ref b] ∧ Tk H a (vN bn) ∧ Tk H b (vN bd) ∧ bn.length = bd.length ∧ bd.length ≤ 8 ∧ RetL (vN ((List.range bn.length).filter fun s => decide (at_ bn s < at_ bd s))) H Q
def spLosers : Sp := fun vs H Q _ => ∃ (a b : Addr) (bn bd : List Nat), vs = [.ref a, .ref b] ∧ Tk H a (vN bn) ∧ Tk H b (vN bd) ∧ bn.length = bd.length ∧ bd.length ≤ 8 ∧ RetL (vN ((List.range bn.length).filter fun s => decide (at_ bd s < at_ bn s))) H Q
def spIsGiver (C : Addr) : Sp := fun vs H Q _ => ∃ (p b : Addr) (n s i : Nat) (D bd : List Nat) (ks : List (List Nat)), vs = [.ref p, .ref b, .int (s : Int), .int (i : Int)] ∧ Shop C H p n D ks ∧ Tk H b (vN bd) ∧ BoardOk n bd ∧ s < n ∧ i < D.length ∧ RetV (.bl (dB (Giver bd (D.getD i 0) s))) H Q
noncomputable def giversOf (D bd : List Nat) (s : Nat) : List Nat := (withOf D s).filter fun i => dB (Giver bd (D.getD i 0) s)
def spGiversFor (C : Addr) : Sp := fun vs H Q _ => ∃ (p b : Addr) (n s : Nat) (D bd : List Nat) (ks : List (List Nat)), vs = [.ref p, .ref b, .int (s : Int)] ∧ Shop C H p n D ks ∧ Tk H b (vN bd) ∧ BoardOk n bd ∧ s < n ∧ RetL (vN (giversOf D bd s)) H Q
theorem getD_mem {D : List Nat} {i : Nat} (h : i < D.length) : D.getD i 0 ∈ D := at_mem h
/-- the shelves of a kind of a store -/
theorem kind_spots {C p : Addr} {H : Hp} {n i : Nat} {D : List Nat} {ks : List (List Nat)} (S : Shop C H p n D ks) (hi : i < D.length) : spots (D.getD i 0) ≠ [] ∧ (∀ t, t ∈ spots (D.getD i 0) ↔ (D.getD i 0).testBit t = true) ∧ ∀ t ∈ spots (D.getD i 0), t < n := by
  obtain ⟨k, hk, e⟩ := (S.rep _).mp (getD_mem hi)
  obtain ⟨k1, k2, k3⟩ := S.kok k hk
  have hn := S.hi
  rw [← e]
  have h1 : ∀ t, t ∈ spots (bitsOf k) ↔ (bitsOf k).testBit t = true := fun t => by
    rw [mem_spots]
    refine ⟨fun h => h.2, fun h => ⟨?_, h⟩⟩
    rw [bitsOf_bit] at h
    have := k3 t (of_decide_eq_true h)
    omega
  refine ⟨fun z => ?_, h1, fun t ht => ?_⟩
  · cases k with
    | nil => exact k1 rfl
    | cons t r =>
      have h2 := (h1 t).mpr (by rw [bitsOf_bit]; exact decide_eq_true List.mem_cons_self)
      rw [z] at h2
      cases h2
  · have h2 := (h1 t).mp ht
    rw [bitsOf_bit] at h2
    exact k3 t (of_decide_eq_true h2)
theorem gives_none {D bd : List Nat} (h : ∀ s, s < bd.length → 0 < at_ bd s → giversOf D bd s ≠ []) : Gives D bd := fun s hs h0 => by
  obtain ⟨i, hi⟩ := List.exists_mem_of_ne_nil _ (h s hs h0)
  obtain ⟨h1, h2⟩ := List.mem_filter.mp hi
  obtain ⟨h3, h4⟩ := List.mem_filter.mp h1
  exact ⟨_, getD_mem (List.mem_range.mp h3), h4, dB_iff.mp h2⟩
theorem gives_some {D bd : List Nat} (h : Gives D bd) {s : Nat} (hs : s < bd.length) (h0 : 0 < at_ bd s) : giversOf D bd s ≠ [] := fun z => by
  obtain ⟨b, hb, h1, h2⟩ := h s hs h0
  obtain ⟨i, hi⟩ := List.mem_iff_getElem?.mp hb
  have hl := (List.getElem?_eq_some_iff.mp hi).1
  have e : D.getD i 0 = b := by rw [List.getD_eq_getElem?_getD, hi]; rfl
  have hm : i ∈ giversOf D bd s := List.mem_filter.mpr ⟨List.mem_filter.mpr ⟨List.mem_range.mpr hl, by rw [e]; exact h1⟩, by rw [e]; exact dB_pos h2⟩
  rw [z] at hm
  cases hm
section
variable {P : Program} {w : World} {K : PySem.W.Frag} {mg : Str → Option Value} {base : Heap} {C : Addr}
theorem ok_kinds_with (T : Txt K mg) : Cal P w K mg base "kinds_with" p_kinds_with 1 spKindsWith := by
  refine cal_of T.d_kinds_with sc_kinds_with (fun _ _ _ _ _ _ us hl => match us, hl with | [_, _], _ => rfl) (fun vs H Q E h => ?_) (fun f cdv A outer s H vs Q E hr h => ?_)
  · obtain ⟨a, s, D, rfl, _⟩ := h
    rfl
  · obtain ⟨a, s, D, rfl, ha, hl, q⟩ := h
    refine ⟨_, pss_one (ps_ret (pe_lc (g := gPair K 2 3) (own := [("position", 2), ("kind", 3)]) rfl sc_kinds_with.nd (pi_enumS (by rfl) T.b_enumerate (pa_cons (pv 0) pa_nil)) (blkOk_by (N := n_kinds_with) (sc := defScope s_kinds_with) (by decide +kernel))
      (fun _ _ _ _ _ => pg_pair (j1 := 2) (j2 := 3) rfl sc_kinds_with.nd rfl rfl (Or.inl rfl) (Or.inl rfl) (by first | exact Or.inl rfl | exact Or.inr rfl) (by first | exact Or.inl rfl | exact Or.inr rfl))
      (fun _ _ _ _ _ => pts_one (pt_cmpR op_eq (pe_op op_odd (pe_op op_shrN (pv 3) (pv 1)) pe_int) pe_int (nomark _))) (fun _ _ _ _ _ => pv 2))), ?_⟩
    refine s_retL (el_lcE (fun i => (D.getD i 0).testBit s) (fun i => .int (i : Nat)) (ea_cons (ev_var rfl) ea_nil) ha.sq (by rw [vN_len]; omega) (fun x y => rfl) (fun i hi => ?_) fun i hi _ => ev_var rfl) fun p H1 hp e1 h1 => q p H1 hp e1 ?_
    · rw [vN_len] at hi
      refine et_test (ev_bit (ev_var (v := .int (D.getD i 0 : Nat)) ?_) (ev_var rfl))
      show some (some ((vN D).getD i .non)) = _
      rw [vN_getD hi]
    · have e2 := given_nat (vN D).length (fun i => (D.getD i 0).testBit s) fun i => i
      rw [List.map_id', vN_len] at e2
      rw [vN_len] at h1
      exact h1.trans (congrArg (fun l => some (HO.lst l)) e2)
theorem sl_kinds_with {a : Addr} {s : Nat} {D : List Nat} {H : Hp} (h : Tk H a (vN D)) (hl : D.length ≤ 8) : SpL spKindsWith [.ref a, .int (s : Int)] H (vN (withOf D s)) := fun H1 e Q q E => ⟨a, s, D, rfl, h.mono e, hl, q⟩
theorem ok_gainers_of (T : Txt K mg) : Cal P w K mg base "gainers_of" p_gainers_of 1 spGainers := by
  refine cal_of T.d_gainers_of sc_gainers_of (fun _ _ _ _ _ _ us hl => match us, hl with | [_, _], _ => rfl) (fun vs H Q E h => ?_) (fun f cdv A outer s H vs Q E hr h => ?_)
  · obtain ⟨a, b, bn, bd, rfl, _⟩ := h
    rfl
  · obtain ⟨a, b, bn, bd, rfl, ha, hb, hl, h8, q⟩ := h
    refine ⟨_, pss_one (ps_ret (pe_lc (g := gPair K 2 3) (own := [("shelf", 2), ("number", 3)]) rfl sc_gainers_of.nd (pi_enumS (by rfl) T.b_enumerate (pa_cons (pv 0) pa_nil)) (blkOk_by (N := n_gainers_of) (sc := defScope s_gainers_of) (by decide +kernel))
      (fun _ _ _ _ _ => pg_pair (j1 := 2) (j2 := 3) rfl sc_gainers_of.nd rfl rfl (Or.inl rfl) (Or.inl rfl) (by first | exact Or.inl rfl | exact Or.inr rfl) (by first | exact Or.inl rfl | exact Or.inr rfl))
      (fun _ _ _ _ _ => pts_one (pt_cmpR op_gt (pe_ix (r := rIx K) ix_seq (pv 1) (pv 2) (fun _ _ => rfl)) (pv 3) (nomark _))) (fun _ _ _ _ _ => pv 2))), ?_⟩
    refine s_retL (el_lcE (fun i => decide (at_ bn i < at_ bd i)) (fun i => .int (i : Nat)) (ea_cons (ev_var rfl) ea_nil) ha.sq (by rw [vN_len]; omega) (fun x y => rfl) (fun i hi => ?_) fun i hi _ => ev_var rfl) fun p H1 hp e1 h1 => q p H1 hp e1 ?_
    · rw [vN_len] at hi
      refine et_test (ev_is (ev_op (ev_at (ev_var rfl) hb (by omega) (ev_var rfl)) (ev_var (v := .int (at_ bn i : Nat)) ?_) rv_I0) ?_)
      · show some (some ((vN bn).getD i .non)) = _
        rw [vN_getD hi]
        rfl
      · exact congrArg V.bl (decide_eq_decide.mpr Int.ofNat_lt)
    · have e2 := given_nat (vN bn).length (fun i => decide (at_ bn i < at_ bd i)) fun i => i
      rw [List.map_id', vN_len] at e2
      rw [vN_len] at h1
      exact h1.trans (congrArg (fun l => some (HO.lst l)) e2)
theorem sl_gainers_of {a b : Addr} {bn bd : List Nat} {H : Hp} (ha : Tk H a (vN bn)) (hb : Tk H b (vN bd)) (hl : bn.length = bd.length) (h8 : bd.length ≤ 8) : SpL spGainers [.ref a, .ref b] H (vN ((List.range bn.length).filter fun s => decide (at_ bn s < at_ bd s))) := fun H1 e Q q E => ⟨a, b, bn, bd, rfl, ha.mono e, hb.mono e, hl, h8, q⟩
theorem ok_losers_of (T : Txt K mg) : Cal P w K mg base "losers_of" p_losers_of 1 spLosers := by
  refine cal_of T.d_losers_of sc_losers_of (fun _ _ _ _ _ _ us hl => match us, hl with | [_, _], _ => rfl) (fun vs H Q E h => ?_) (fun f cdv A outer s H vs Q E hr h => ?_)
  · obtain ⟨a, b, bn, bd, rfl, _⟩ := h
    rfl
  · obtain ⟨a, b, bn, bd, rfl, ha, hb, hl, h8, q⟩ := h
    refine ⟨_, pss_one (ps_ret (pe_lc (g := gPair K 2 3) (own := [("shelf", 2), ("number", 3)]) rfl sc_losers_of.nd (pi_enumS (by rfl) T.b_enumerate (pa_cons (pv 0) pa_nil)) (blkOk_by (N := n_losers_of) (sc := defScope s_losers_of) (by decide +kernel))
      (fun _ _ _ _ _ => pg_pair (j1 := 2) (j2 := 3) rfl sc_losers_of.nd rfl rfl (Or.inl rfl) (Or.inl rfl) (by first | exact Or.inl rfl | exact Or.inr rfl) (by first | exact Or.inl rfl | exact Or.inr rfl))
      (fun _ _ _ _ _ => pts_one (pt_cmpR op_lt (pe_ix (r := rIx K) ix_seq (pv 1) (pv 2) (fun _ _ => rfl)) (pv 3) (nomark _))) (fun _ _ _ _ _ => pv 2))), ?_⟩
    refine s_retL (el_lcE (fun i => decide (at_ bd i < at_ bn i)) (fun i => .int (i : Nat)) (ea_cons (ev_var rfl) ea_nil) ha.sq (by rw [vN_len]; omega) (fun x y => rfl) (fun i hi => ?_) fun i hi _ => ev_var rfl) fun p H1 hp e1 h1 => q p H1 hp e1 ?_
    · rw [vN_len] at hi
      refine et_test (ev_is (ev_op (ev_at (ev_var rfl) hb (by omega) (ev_var rfl)) (ev_var (v := .int (at_ bn i : Nat)) ?_) rv_I0) ?_)
      · show some (some ((vN bn).getD i .non)) = _
        rw [vN_getD hi]
        rfl
      · exact congrArg V.bl (decide_eq_decide.mpr Int.ofNat_lt)
    · have e2 := given_nat (vN bn).length (fun i => decide (at_ bd i < at_ bn i)) fun i => i
      rw [List.map_id', vN_len] at e2
      rw [vN_len] at h1
      exact h1.trans (congrArg (fun l => some (HO.lst l)) e2)
theorem sl_losers_of {a b : Addr} {bn bd : List Nat} {H : Hp} (ha : Tk H a (vN bn)) (hb : Tk H b (vN bd)) (hl : bn.length = bd.length) (h8 : bd.length ≤ 8) : SpL spLosers [.ref a, .ref b] H (vN ((List.range bn.length).filter fun s => decide (at_ bd s < at_ bn s))) := fun H1 e Q q E => ⟨a, b, bn, bd, rfl, ha.mono e, hb.mono e, hl, h8, q⟩
end
end K61

/-! looks.py: givers, comes -/
namespace K61
open PySem PySem.Spec PyProof.Rows L2 Evl

def spGiversTo (C : Addr) : Sp := fun vs H Q _ => ∃ (p a b : Addr) (n : Nat) (D bd : List Nat) (ks : List (List Nat)), vs = [.ref p, .ref a, .ref b] ∧ Shop C H p n D ks ∧ Tk H a (vN (List.replicate n 0)) ∧ Tk H b (vN bd) ∧ BoardOk n bd ∧
  ∀ v H2, Ex H H2 → (v = .non ∧ ¬ Gives D bd) ∨ (∃ o, v = .ref o ∧ Gives D bd) → Q v H2
def spComesFrom (C : Addr) : Sp := fun vs H Q _ => ∃ (p a b : Addr) (n : Nat) (D bd : List Nat) (ks : List (List Nat)), vs = [.ref p, .ref a, .ref b] ∧ Shop C H p n D ks ∧ Tk H a (vN (List.replicate n 0)) ∧ Tk H b (vN bd) ∧ BoardOk n bd ∧ RetV (.bl (dB (Due ks bd))) H Q
def spWantBoth (C : Addr) : Sp := fun vs H Q _ => ∃ (p a b : Addr) (n : Nat) (D bn bd : List Nat), vs = [.ref p, .ref a, .ref b] ∧ StoreAt C H p n D ∧ Tk H a (vN bn) ∧ Tk H b (vN bd) ∧ BoardOk n bn ∧ BoardOk n bd ∧ n ≤ 8 ∧
  ∀ (t t1 t2 : Addr) H2, Ex H H2 → H2 t = some (.tup [.ref p, .ref t1, .ref t2]) → Tk H2 t1 (vN bn) → Tk H2 t2 (vN bd) → Q (.ref t) H2
theorem nth_get {l : List Nat} {i k : Nat} (h : l[i]? = some k) : l.getD i 0 = k := by rw [List.getD_eq_getElem?_getD, h]; rfl
theorem at_zero (n s : Nat) : at_ (List.replicate n 0) s = 0 := by
  unfold at_
  rw [List.getD_eq_getElem?_getD, List.getElem?_replicate]
  split <;> rfl
theorem zeros_ok (n : Nat) : BoardOk n (List.replicate n 0) := ⟨List.length_replicate, fun x hx => by rw [List.eq_of_mem_replicate hx]; exact Nat.zero_le _⟩
theorem no_losers (n : Nat) (bd : List Nat) : (List.range (List.replicate n 0).length).filter (fun s => decide (at_ bd s < at_ (List.replicate n 0) s)) = [] := List.filter_eq_nil_iff.mpr fun s _ => by rw [at_zero, decide_eq_true_eq]; omega
theorem vN_iN (l : List Nat) : vN l = (iN l).map V.int := rfl
theorem iN_nil {l : List Nat} : decide (iN l = ([] : List Int)) = decide (l = []) := decide_eq_decide.mpr ⟨fun h => List.map_eq_nil_iff.mp h, fun h => by rw [h]; rfl⟩
section
variable {K : PySem.W.Frag} {σ : L2.St} {H : Hp} {t : TT} {te : TE}
theorem el_mapU {l : List Nat} {v : Nat → Nat} {tl : TE} {j : Nat} {vs : List Nat} (h : EvU tl σ H (vN l)) (hz : l.length ≤ 40000) (hw : ∀ x, wipe ((wipe σ vs).set j (some x)) vs = wipe σ vs) (he : ∀ k ∈ l, Ev te ((wipe σ vs).set j (some (.int (k : Nat)))) H (.int (v k : Nat))) :
    EvL (tLc (iSeq K tl) (gName j) tYes te vs) σ H (vN (l.map v)) := by
  rw [← given_get l v]
  refine el_lcNU _ _ h (by rw [vN_len]; exact hz) hw (fun i x hx => et_yes) fun i x hx _ => ?_
  obtain ⟨k, hk, rfl⟩ := vN_get hx
  rw [nth_get hk]
  exact he k (List.mem_of_getElem? hk)
theorem el_mapS {l : List Nat} {v : Nat → Nat} {tl : TE} {a : Addr} {j : Nat} {vs : List Nat} (h : Ev tl σ H (.ref a)) (hx : Tk H a (vN l)) (hz : l.length ≤ 40000) (hw : ∀ x, wipe ((wipe σ vs).set j (some x)) vs = wipe σ vs) (he : ∀ k ∈ l, Ev te ((wipe σ vs).set j (some (.int (k : Nat)))) H (.int (v k : Nat))) :
    EvL (tLc (iSeq K tl) (gName j) tYes te vs) σ H (vN (l.map v)) := by
  rw [← given_get l v]
  refine el_lcS _ _ h hx.sq (by rw [vN_len]; exact hz) hw (fun i x hx => et_yes) fun i x hx _ => ?_
  obtain ⟨k, hk, rfl⟩ := vN_get hx
  rw [nth_get hk]
  exact he k (List.mem_of_getElem? hk)
theorem el_filS {l : List Nat} {g : Nat → Bool} {tl : TE} {a : Addr} {j : Nat} {vs : List Nat} (h : Ev tl σ H (.ref a)) (hx : Tk H a (vN l)) (hz : l.length ≤ 40000) (hw : ∀ x, wipe ((wipe σ vs).set j (some x)) vs = wipe σ vs) (ht : ∀ k ∈ l, EvT t ((wipe σ vs).set j (some (.int (k : Nat)))) H (g k))
    (he : ∀ k ∈ l, Ev te ((wipe σ vs).set j (some (.int (k : Nat)))) H (.int (k : Nat))) : EvL (tLc (iSeq K tl) (gName j) t te vs) σ H (vN (l.filter g)) := by
  rw [← given_fil l g]
  refine el_lcS _ _ h hx.sq (by rw [vN_len]; exact hz) hw (fun i x hx => ?_) fun i x hx _ => ?_
  · obtain ⟨k, hk, rfl⟩ := vN_get hx
    rw [nth_get hk]
    exact ht k (List.mem_of_getElem? hk)
  · obtain ⟨k, hk, rfl⟩ := vN_get hx
    rw [nth_get hk]
    exact he k (List.mem_of_getElem? hk)
end
section
variable {P : Program} {w : World} {K : PySem.W.Frag} {mg : Str → Option Value} {base : Heap} {C : Addr}
theorem ok_is_giver (T : Txt K mg) (TC : TxtC K mg C) : Cal P w K mg base "is_giver" p_is_giver 2 (spIsGiver C) := by
  refine cal_of T.d_is_giver sc_is_giver (fun _ _ _ _ _ _ us hl => match us, hl with | [_, _, _, _], _ => rfl) (fun vs H Q E h => ?_) (fun f cdv A outer s H vs Q E hr h => ?_)
  · obtain ⟨p, b, n, s, i, D, bd, ks, rfl, _⟩ := h
    rfl
  · obtain ⟨p, b, n, s, i, D, bd, ks, rfl, S, hb, hok, hs, hi, q⟩ := h
    refine ⟨_, pss_one (ps_ret (pe_cmpR op_ge (pe_callB (cr_min rfl) (by rfl) T.b_min (by decide +kernel) (pa_cons
      (pe_lc (own := [("one", 4)]) rfl sc_is_giver.nd (pi_seq (pe_cal (ok_spots_of T) hr (pa_cons (pe_ix (r := rIx K) ix_seq (pe_fld (pv 0) rfl) (pv 3) (fun _ _ => rfl)) pa_nil))) (blkOk_by (N := n_is_giver) (sc := defScope s_is_giver) (by decide +kernel))
        (fun _ _ _ _ _ => pg_name (i := 4) sc_is_giver.nd rfl (Or.inl rfl)) (fun _ _ _ _ _ => pts_nil) (fun _ _ _ _ _ => pe_ix (r := rIx K) ix_seq (pv 1) (pv 4) (fun _ _ => rfl))) pa_nil))
      (pe_op op_sub (pe_ix (r := rIx K) ix_seq (pv 1) (pv 2) (fun _ _ => rfl)) pe_int) (nomark _))), ?_⟩
    obtain ⟨hne, hsp, hlt⟩ := kind_spots S hi
    have hlen := hok.1
    obtain ⟨t, ht, hD⟩ := ev_dels TC (σ := [some (.ref p), some (.ref b), some (.int (s : Int)), some (.int (i : Int)), none]) (ta := tVar 0) (ev_var rfl) S.st
    obtain ⟨m, hm, hmin⟩ := min_of (l := (spots (D.getD i 0)).map (at_ bd)) (fun z => hne (List.map_eq_nil_iff.mp z))
    have h8 := spots_len (D.getD i 0)
    refine s_ret (v := .bl (dB (Giver bd (D.getD i 0) s))) (ev_is (ev_op (ev_cbL (el_mapU (v := at_ bd) (eu_call (ea_cons (ev_at ht hD hi (ev_var rfl)) ea_nil) (su_spots_of (b := D.getD i 0))) (Nat.le_trans h8 (by decide)) (fun x => rfl) fun k hk => ev_at (ev_var rfl) hb (by have := hlt k hk; omega) (ev_var rfl)) fun p H1 e1 h1 => rc_min (.of h1) (mem_iN hm) (iN_ge hmin)) (ev_op (ev_at (ev_var rfl) hb (by omega) (ev_var rfl)) ev_c rv_I0) rv_I0) ?_) fun H1 e => q H1 e
    refine congrArg V.bl (dB_is ?_)
    rw [decide_eq_true_eq]
    constructor
    · intro h t ht
      have h1 := hmin (at_ bd t) (List.mem_map.mpr ⟨t, (hsp t).mpr ht, rfl⟩)
      omega
    · intro h
      obtain ⟨t, ht, e⟩ := List.mem_map.mp hm
      have h1 := h t ((hsp t).mp ht)
      omega
theorem sv_is_giver {p b : Addr} {n s i : Nat} {D bd : List Nat} {ks : List (List Nat)} {H : Hp} (S : Shop C H p n D ks) (hb : Tk H b (vN bd)) (hok : BoardOk n bd) (hs : s < n) (hi : i < D.length) : SpV (spIsGiver C) [.ref p, .ref b, .int (s : Int), .int (i : Int)] H (.bl (dB (Giver bd (D.getD i 0) s))) :=
  fun H1 e Q q E => ⟨p, b, n, s, i, D, bd, ks, rfl, S.mono e, hb.mono e, hok, hs, hi, q⟩
theorem with_lt {D : List Nat} {s i : Nat} (h : i ∈ withOf D s) : i < D.length := List.mem_range.mp (List.mem_filter.mp h).1
theorem with_len (D : List Nat) (s : Nat) : (withOf D s).length ≤ D.length := by
  have h := List.length_filter_le (fun i => (D.getD i 0).testBit s) (List.range D.length)
  rw [List.length_range] at h
  exact h
theorem ok_givers_for (T : Txt K mg) (TC : TxtC K mg C) : Cal P w K mg base "givers_for" p_givers_for 3 (spGiversFor C) := by
  refine cal_of T.d_givers_for sc_givers_for (fun _ _ _ _ _ _ us hl => match us, hl with | [_, _, _], _ => rfl) (fun vs H Q E h => ?_) (fun f cdv A outer s H vs Q E hr h => ?_)
  · obtain ⟨p, b, n, s, D, bd, ks, rfl, _⟩ := h
    rfl
  · obtain ⟨p, b, n, s, D, bd, ks, rfl, S, hb, hok, hs, q⟩ := h
    refine ⟨_, pss_cons (ps_set (i := 3) sc_givers_for.nd rfl (.inl rfl) (pe_cal (ok_kinds_with T) (hr.mono (by decide)) (pa_cons (pe_fld (pv 0) rfl) (pa_cons (pv 2) pa_nil))))
      (pss_one (ps_ret (pe_lc (own := [("position", 4)]) rfl sc_givers_for.nd (pi_seq (pv 3)) (blkOk_by (N := n_givers_for) (sc := defScope s_givers_for) (by decide +kernel))
        (fun _ _ _ _ _ => pg_name (i := 4) sc_givers_for.nd rfl (Or.inl rfl)) (fun _ _ _ _ _ => pts_one (pt_val (pe_cal (ok_is_giver T TC) hr (pa_cons (pv 0) (pa_cons (pv 1) (pa_cons (pv 2) (pa_cons (pv 4) pa_nil))))))) (fun _ _ _ _ _ => pv 4)))), ?_⟩
    obtain ⟨t, ht, hD⟩ := ev_dels TC (σ := [some (.ref p), some (.ref b), some (.int (s : Int)), none, none]) (ta := tVar 0) (ev_var rfl) S.st
    refine q_asgL (el_call (ea_cons ht (ea_cons (ev_var rfl) ea_nil)) (sl_kinds_with hD S.few)) fun o H1 ho e1 h1 => ?_
    have hw := with_len D s
    have h8 := S.few
    exact s_retL (el_filS (g := fun i => dB (Giver bd (D.getD i 0) s)) (ev_var rfl) (.inl h1) (by omega) (fun x => rfl)
      (fun i hi => et_B (ev_call (ea_cons (ev_var rfl) (ea_cons (ev_var rfl) (ea_cons (ev_var rfl) (ea_cons (ev_var rfl) ea_nil)))) (sv_is_giver (S.mono e1) (hb.mono e1) hok hs (with_lt hi)))) fun i hi => ev_var rfl) fun p2 H2 hp e2 h2 => q p2 H2 (fresh_back e1 hp) (e1.trans e2) h2
theorem sl_givers_for {p b : Addr} {n s : Nat} {D bd : List Nat} {ks : List (List Nat)} {H : Hp} (S : Shop C H p n D ks) (hb : Tk H b (vN bd)) (hok : BoardOk n bd) (hs : s < n) : SpL (spGiversFor C) [.ref p, .ref b, .int (s : Int)] H (vN (giversOf D bd s)) :=
  fun H1 e Q q E => ⟨p, b, n, s, D, bd, ks, rfl, S.mono e, hb.mono e, hok, hs, q⟩
theorem ok_givers_to (T : Txt K mg) (TC : TxtC K mg C) : Cal P w K mg base "givers_to" p_givers_to 4 (spGiversTo C) := by
  refine cal_of T.d_givers_to sc_givers_to (fun _ _ _ _ _ _ us hl => match us, hl with | [_, _, _], _ => rfl) (fun vs H Q E h => ?_) (fun f cdv A outer s H vs Q E hr h => ?_)
  · obtain ⟨p, a, b, n, D, bd, ks, rfl, _⟩ := h
    rfl
  · obtain ⟨p, a, b, n, D, bd, ks, rfl, S, ha, hb, hok, q⟩ := h
    refine ⟨_, pss_cons (ps_if (pt_cmpR (op_neD hr.units) (pe_cal (ok_losers_of T) (hr.mono (by decide)) (pa_cons (pv 1) (pa_cons (pv 2) pa_nil))) (pe_lst pa_nil) (nomark _)) (pss_one (ps_ret pe_non)) pss_nil)
      (pss_cons (ps_set (i := 3) sc_givers_to.nd rfl (.inl rfl) (pe_lst pa_nil))
      (pss_cons (ps_for PassesOwn.never rfl (pi_list (pe_cal (ok_gainers_of T) (hr.mono (by decide)) (pa_cons (pv 1) (pa_cons (pv 2) pa_nil)))) (pg_name (i := 4) sc_givers_to.nd rfl (.inl rfl))
        (pss_cons (ps_set (i := 5) sc_givers_to.nd rfl (.inl rfl) (pe_cal (ok_givers_for T TC) hr (pa_cons (pv 0) (pa_cons (pv 2) (pa_cons (pv 4) pa_nil)))))
        (pss_cons (ps_if (pt_cmpR (op_eqD hr.units) (pv 5) (pe_lst pa_nil) (nomark _)) (pss_one (ps_ret pe_non)) pss_nil)
        (pss_one (ps_expr (pe_bm PySem.F.plainAttrs_list PySem.F.slot_list_append PySem.F.type_list_append mt_append (pv 3) (pa_cons (pe_tup (pa_cons (pv 4) (pa_cons (pe_ix ix_seq (pv 5) pe_int (fun _ _ => rfl)) pa_nil))) pa_nil)))))))
      (pss_one (ps_ret (pv 3))))), ?_⟩
    have hlen := hok.1
    have hn := S.hi
    have hz : (List.replicate n 0).length = bd.length := by rw [List.length_replicate, hlen]
    refine q_when (b := false) (et_test (ev_is (ev_opLL (el_call (ea_cons (ev_var rfl) (ea_cons (ev_var rfl) ea_nil)) (sl_losers_of ha hb hz (by omega))) el_nil fun p1 p2 H1 h1 h2 _ => rv_neL (ns := iN _) (ms := []) (.of h1) (.of h2)) ?_)) (fun z => nomatch z) fun _ H1 e1 => ?_
    · rw [iN_nil, no_losers]
      rfl
    · refine q_asgL el_nil fun o H2 ho e2 h2 => ?_
      have e02 := e1.trans e2
      have ho0 := fresh_back e1 ho
      refine q_forNLn (xs := vN ((List.range (List.replicate n 0).length).filter fun s => decide (at_ (List.replicate n 0) s < at_ bd s))) (el_call (ea_cons (ev_var rfl) (ea_cons (ev_var rfl) ea_nil)) (sl_gainers_of (ha.mono e02) (hb.mono e02) hz (by omega)))
        (fun g i σ' H' => ∃ y4 y5 acc, σ' = [some (.ref p), some (.ref a), some (.ref b), some (.ref o), y4, y5] ∧ Ex H H' ∧ g ≠ o ∧ H' g = some (.lst (vN ((List.range (List.replicate n 0).length).filter fun s => decide (at_ (List.replicate n 0) s < at_ bd s)))) ∧ H' o = some (.lst acc) ∧ acc.length = i ∧
          ∀ (j s : Nat), j < i → ((List.range (List.replicate n 0).length).filter fun s => decide (at_ (List.replicate n 0) s < at_ bd s))[j]? = some s → giversOf D bd s ≠ [])
        ?_ ?_ ?_ ?_
      · intro g H3 hg e3 h3
        exact ⟨none, none, [], rfl, e02.trans e3, (fun z => by rw [z, h2] at hg; cases hg), h3, e3 o _ h2, rfl, fun j s hj => absurd hj (Nat.not_lt_zero j)⟩
      · rintro g i σ' H' _ ⟨y4, y5, acc, _, _, _, hg, _⟩
        exact .of hg
      · rintro g i x σ' H' hx ⟨y4, y5, acc, rfl, e, hgo, hg, hacc, hal, hall⟩
        obtain ⟨s, hs, rfl⟩ := vN_get hx
        have hmem := List.mem_filter.mp (List.mem_of_getElem? hs)
        have hsn : s < n := by have := List.mem_range.mp hmem.1; rw [List.length_replicate] at this; exact this
        have hpos : 0 < at_ bd s := by
          have := of_decide_eq_true hmem.2
          rw [at_zero] at this
          exact this
        have hi8 : i < 9 := by
          have h1 := (List.getElem?_eq_some_iff.mp hs).1
          have h3 := List.length_filter_le (fun s => decide (at_ (List.replicate n 0) s < at_ bd s)) (List.range (List.replicate n 0).length)
          rw [List.length_range, List.length_replicate] at h3
          rw [List.length_replicate] at h1
          omega
        refine q_asgL (el_call (ea_cons (ev_var rfl) (ea_cons (ev_var rfl) (ea_cons (ev_var rfl) ea_nil))) (sl_givers_for (S.mono e) (hb.mono e) hok hsn)) fun p5 H3 hp5 e3 h5 => ?_
        refine q_when (b := decide (giversOf D bd s = [])) (et_test (ev_is (ev_opL (ev_var rfl) el_nil fun p1 H4 h4 e4 => rv_eqL (ns := iN _) (ms := []) (.of (e4 p5 _ h5)) (.of h4)) (by rw [iN_nil]))) (fun hx H4 e4 => ?_) fun hx H4 e4 => ?_
        · exact s_ret ev_c fun H5 e5 => q .non H5 (((e.trans e3).trans e4).trans e5) (.inl ⟨rfl, fun hgv => gives_some hgv (by omega) hpos (of_decide_eq_true hx)⟩)
        · have hne := of_decide_eq_false hx
          have h50 : 0 < (giversOf D bd s).length := List.length_pos_iff.mpr hne
          have h54 : Tk H4 p5 (vN (giversOf D bd s)) := .inl (e4 p5 _ h5)
          refine s_appU ((e3.trans e4) o _ hacc) (ev_var rfl) (eu_tup (ea_cons (ev_var rfl) (ea_cons (ev_at (s := 0) (ev_var rfl) h54 h50 ev_c) ea_nil)) (by show 2 ≤ 100000; decide)) (by omega) fun t H5 ht e5 h5t => ?_
          refine ⟨_, _, acc ++ [.ref t], rfl, Ex.mut (((e.trans e3).trans e4).trans e5) ho0, hgo, ?_, upd_same, by rw [List.length_append, hal]; rfl, fun j s' hj hs' => ?_⟩
          · rw [upd_ne hgo]
            exact ((e3.trans e4).trans e5) g _ hg
          · rcases Nat.lt_or_ge j i with c | c
            · exact hall j s' c hs'
            · have ej : j = i := by omega
              rw [ej, hs] at hs'
              cases hs'
              exact hne
      · rintro g σ' H' ⟨y4, y5, acc, rfl, e, _, _, _, _, hall⟩
        refine s_ret (ev_var rfl) fun H5 e5 => q _ H5 (e.trans e5) (.inr ⟨o, rfl, gives_none fun s hs h0 => ?_⟩)
        obtain ⟨j, hj⟩ := List.mem_iff_getElem?.mp (List.mem_filter.mpr ⟨List.mem_range.mpr (hz ▸ hs), decide_eq_true (by rw [at_zero]; exact h0)⟩ : s ∈ (List.range (List.replicate n 0).length).filter fun s => decide (at_ (List.replicate n 0) s < at_ bd s))
        refine hall j s ?_ hj
        have := (List.getElem?_eq_some_iff.mp hj).1
        rw [vN_len]
        exact this
end
end K61

/-! looks.py: comes -/
namespace K61
open PySem PySem.Spec PyProof.Rows L2 Evl

section
variable {P : Program} {w : World} {K : PySem.W.Frag} {mg : Str → Option Value} {base : Heap} {C : Addr}
theorem ok_comes_from (T : Txt K mg) (TC : TxtC K mg C) : Cal P w K mg base "comes_from" p_comes_from 5 (spComesFrom C) := by
  refine cal_of T.d_comes_from sc_comes_from (fun _ _ _ _ _ _ us hl => match us, hl with | [_, _, _], _ => rfl) (fun vs H Q E h => ?_) (fun f cdv A outer s H vs Q E hr h => ?_)
  · obtain ⟨p, a, b, n, D, bd, ks, rfl, _⟩ := h
    rfl
  · obtain ⟨p, a, b, n, D, bd, ks, rfl, S, ha, hb, hok, q⟩ := h
    refine ⟨_, pss_one (ps_ret (pe_cmpR op_notN (pe_cal (ok_givers_to T TC) hr (pa_cons (pv 0) (pa_cons (pv 1) (pa_cons (pv 2) pa_nil)))) pe_non (nomark _))), ?_⟩
    have hdg : Gives D bd ↔ Due ks bd := (gives_looked S.rep).trans due_looked.symm
    refine ⟨_, rfl, _, rfl, _, rfl, p, a, b, n, D, bd, ks, rfl, S, ha, hb, hok, fun v H2 e2 hv => ⟨rfl, ?_⟩⟩
    have hq := q H2 e2
    rcases hv with ⟨rfl, hn⟩ | ⟨o, rfl, hg⟩
    · rw [dB_neg fun hd => hn (hdg.mpr hd)] at hq
      exact hq
    · rw [dB_pos (hdg.mp hg)] at hq
      exact hq
theorem sv_comes_from {p a b : Addr} {n : Nat} {D bd : List Nat} {ks : List (List Nat)} {H : Hp} (S : Shop C H p n D ks) (ha : Tk H a (vN (List.replicate n 0))) (hb : Tk H b (vN bd)) (hok : BoardOk n bd) : SpV (spComesFrom C) [.ref p, .ref a, .ref b] H (.bl (dB (Due ks bd))) :=
  fun H1 e Q q E => ⟨p, a, b, n, D, bd, ks, rfl, S.mono e, ha.mono e, hb.mono e, hok, q⟩
theorem ok_want_both (T : Txt K mg) (TC : TxtC K mg C) : Cal P w K mg base "want_both" p_want_both 5 (spWantBoth C) := by
  refine cal_of T.d_want_both sc_want_both (fun _ _ _ _ _ _ us hl => match us, hl with | [_, _, _], _ => rfl) (fun vs H Q E h => ?_) (fun f cdv A outer s H vs Q E hr h => ?_)
  · obtain ⟨p, a, b, n, D, bn, bd, rfl, _⟩ := h
    rfl
  · obtain ⟨p, a, b, n, D, bn, bd, rfl, S, ha, hb, ho1, ho2, hn, q⟩ := h
    refine ⟨_, pss_cons (ps_set (i := 3) sc_want_both.nd rfl (.inl rfl) (pe_cal (ok_want_store T TC) (hr.mono (by decide)) (pa_cons (pv 0) pa_nil)))
      (pss_cons (ps_set (i := 4) sc_want_both.nd rfl (.inl rfl) (pe_cal (ok_want_board T TC) hr (pa_cons (pv 3) (pa_cons (pv 1) pa_nil))))
      (pss_one (ps_ret (pe_tup (pa_cons (pv 3) (pa_cons (pv 4) (pa_cons (pe_cal (ok_want_wished T TC) hr (pa_cons (pv 3) (pa_cons (pv 2) pa_nil))) pa_nil))))))), ?_⟩
    refine q_asg (ev_call (ea_cons (ev_var rfl) ea_nil) (sv_want_store S)) fun H1 e1 => ?_
    refine eu_board (S.mono e1) (ha.mono e1) ho1 hn (ea_cons (ev_var rfl) (ea_cons (ev_var rfl) ea_nil)) rfl H1 (Ex.refl H1) _ fun t1 H2 e2 h2 => ?_
    refine ⟨_, rfl, _, rfl, ?_⟩
    refine eu_board (S.mono (e1.trans e2)) (hb.mono (e1.trans e2)) ho2 hn (ea_cons (ev_var rfl) (ea_cons (ev_var rfl) ea_nil)) rfl H2 (Ex.refl H2) _ fun t2 H3 e3 h3 => ?_
    refine ⟨by show 3 ≤ sizeLine; decide, fun t ht => ?_⟩
    exact q t t1 t2 _ (((e1.trans e2).trans e3).trans (Ex.new ht)) upd_same (h2.mono (e3.trans (Ex.new ht))) (h3.mono (Ex.new ht))
theorem ok_comes (T : Txt K mg) (TC : TxtC K mg C) : Cal P w K mg base "comes" p_comes 6 (spComesFrom C) := by
  refine cal_of T.d_comes sc_comes (fun _ _ _ _ _ _ us hl => match us, hl with | [_, _, _], _ => rfl) (fun vs H Q E h => ?_) (fun f cdv A outer s H vs Q E hr h => ?_)
  · obtain ⟨p, a, b, n, D, bd, ks, rfl, _⟩ := h
    rfl
  · obtain ⟨p, a, b, n, D, bd, ks, rfl, S, ha, hb, hok, q⟩ := h
    refine ⟨_, pss_cons (ps_asg (pe_cal (ok_want_both T TC) hr (pa_cons (pv 0) (pa_cons (pv 1) (pa_cons (pv 2) pa_nil)))) (pg_tup rfl (pgs_cons (pg_name (i := 3) sc_comes.nd rfl (.inl rfl)) (pgs_cons (pg_name (i := 4) sc_comes.nd rfl (.inl rfl)) (pgs_cons (pg_name (i := 5) sc_comes.nd rfl (.inl rfl)) pgs_nil)))))
      (pss_one (ps_ret (pe_cal (ok_comes_from T TC) hr (pa_cons (pv 3) (pa_cons (pv 4) (pa_cons (pv 5) pa_nil)))))), ?_⟩
    refine ⟨_, rfl, _, rfl, _, rfl, p, a, b, n, D, List.replicate n 0, bd, rfl, S.st, ha, hb, zeros_ok n, hok, S.hi, fun t t1 t2 H2 e12 ht h1 h2 => ?_⟩
    refine ⟨t, _, rfl, st_of ht, rfl, _, _, rfl, _, _, rfl, _, _, rfl, rfl, ?_⟩
    exact s_ret (ev_call (ea_cons (ev_var rfl) (ea_cons (ev_var rfl) (ea_cons (ev_var rfl) ea_nil))) (sv_comes_from (S.mono e12) h1 h2 hok)) fun H3 e3 => q H3 (e12.trans e3)
theorem sv_comes {p a b : Addr} {n : Nat} {D bd : List Nat} {ks : List (List Nat)} {H : Hp} (S : Shop C H p n D ks) (ha : Tk H a (vN (List.replicate n 0))) (hb : Tk H b (vN bd)) (hok : BoardOk n bd) : SpV (spComesFrom C) [.ref p, .ref a, .ref b] H (.bl (dB (Due ks bd))) :=
  sv_comes_from S ha hb hok
end
end K61

/-! the law's pot: draws -/
namespace K61
open PySem PySem.Spec PyProof.Rows L2 Evl

/-- a pot: its digits, its mixed number -/
def PotAt (H : Hp) (p : Addr) : Prop := ∃ c m : Nat, H p = some (.lst [.int (c : Int), .int (m : Int)]) ∧ m ≤ 4294967296
theorem PotAt.mono {H H' : Hp} {p : Addr} (e : Ex H H') (h : PotAt H p) : PotAt H' p := by
  obtain ⟨c, m, h1, h2⟩ := h
  exact ⟨c, m, e p _ h1, h2⟩
theorem PotAt.ne {H : Hp} {p o : Addr} (h : PotAt H p) (ho : H o = none) : o ≠ p := fun e => by
  obtain ⟨c, m, h1, _⟩ := h
  rw [e, h1] at ho
  cases ho
theorem hide_step {p : Addr} {G0 H' H'' : Hp} (e : Ex (hide p G0) H') (e2 : Ex (hide p H') H'') : Ex (hide p G0) H'' := (hide_mono e).trans e2
theorem hide_keep {p o : Addr} {H' H'' : Hp} {u : HO} (h : H' o = some u) (ne : o ≠ p) (e2 : Ex (hide p H') H'') : H'' o = some u := e2 o _ (by rw [hide_ne ne]; exact h)
theorem hide_of {p : Addr} {H H' : Hp} (e : Ex H H') : Ex (hide p H) H' := hide_ex.trans e
theorem hide_tk {p a : Addr} {H : Hp} {xs : List V} (h : Tk (hide p H) a xs) : a ≠ p := fun e => by
  rw [e] at h
  rcases h with h | h <;> (rw [hide_self] at h; cases h)
def spPot (K : PySem.W.Frag) : Sp := fun vs H Q _ => ∃ (a : Addr) (ns : List Int) (k : Nat), vs = [.ref a, .int (k : Int)] ∧ SqL K H a (ns.map V.int) ∧ k ≤ 1 ∧ ∀ p H', H p = none → Ex H H' → PotAt H' p → Q (.ref p) H'
def spDraw : Sp := fun vs H Q _ => ∃ (p : Addr) (s : Nat), vs = [.ref p, .int (s : Int)] ∧ PotAt H p ∧ 0 < s ∧ s ≤ 1000 ∧ ∀ (d : Nat) H', d < s → Ex (hide p H) H' → PotAt H' p → Q (.int (d : Int)) H'
def spPick : Sp := fun vs H Q _ => ∃ (p a : Addr) (xs : List V), vs = [.ref p, .ref a] ∧ PotAt H p ∧ Tk H a xs ∧ a ≠ p ∧ xs ≠ [] ∧ xs.length ≤ 1000 ∧ ∀ v H', v ∈ xs → Ex (hide p H) H' → PotAt H' p → Q v H'
section
variable {K : PySem.W.Frag} {σ : L2.St} {H : Hp}
theorem ev_abs {ta : TE} {i : Int} (h : Ev ta σ H (.int i)) : Ev (tCB (fun xs H Q => ∃ i, xs = [.int i] ∧ Q (.int (if i < 0 then -i else i)) H) (tCons ta tNil)) σ H (.int (if i < 0 then -i else i)) := ev_cb (ea_cons h ea_nil) fun H1 e Q q => ⟨i, rfl, q H1 (Ex.refl H1)⟩
theorem ev_int {ta : TE} {i : Int} (h : Ev ta σ H (.int i)) : Ev (tCB (fun xs H Q => (∃ i, xs = [.int i] ∧ Q (.int i) H) ∨ ∃ k, xs = [.bl k] ∧ Q (.int (if k then 1 else 0)) H) (tCons ta tNil)) σ H (.int i) := ev_cb (ea_cons h ea_nil) fun H1 e Q q => .inl ⟨i, rfl, q H1 (Ex.refl H1)⟩
end
theorem int_nat {i : Int} (h : 0 ≤ i) : ∃ n : Nat, i = (n : Int) := ⟨i.toNat, (Int.toNat_of_nonneg h).symm⟩
section
variable {P : Program} {w : World} {K : PySem.W.Frag} {mg : Str → Option Value} {base : Heap}
theorem ok_law_pot (T : Txt K mg) : Cal P w K mg base "_law_pot" p_law_pot 1 (spPot K) := by
  refine cal_of T.d_law_pot sc_law_pot (fun _ _ _ _ _ _ us hl => match us, hl with | [_, _], _ => rfl) (fun vs H Q E h => ?_) (fun f cdv A outer s H vs Q E hr h => ?_)
  · obtain ⟨a, ns, k, rfl, _⟩ := h
    rfl
  · obtain ⟨a, ns, k, rfl, ha, hk, q⟩ := h
    refine ⟨_, pss_cons (ps_set (i := 2) sc_law_pot.nd rfl (.inl rfl) (pe_ifExp (pt_cmpR op_lt (pv 1) (pe_callB call_len_seq (by rfl) T.b_len boot_len (pa_cons (pv 0) pa_nil)) (nomark _)) (pe_callB call_abs (by rfl) T.b_abs (by decide +kernel) (pa_cons (pe_ix ix_seq (pv 0) (pv 1) (fun _ _ => rfl)) pa_nil)) (pe_op op_add (pe_op op_mul pe_int (pv 1)) pe_int)))
      (pss_cons (ps_set (i := 3) sc_law_pot.nd rfl (.inl rfl) (pe_op op_add (pe_op op_mod (pe_callTy call_int1 (by rfl) T.b_int (by decide +kernel) (pa_cons
        (pe_op op_add (pe_op op_add (pe_op op_mul (pe_op op_mod (pe_callTy call_int1 (by rfl) T.b_int (by decide +kernel) (pa_cons (pv 2) pa_nil)) pe_int) pe_int) (pe_op op_mul pe_int (pv 1))) pe_int) pa_nil)) pe_int) pe_int))
      (pss_one (ps_ret (pe_lst (pa_cons (pe_callB (call_max2 rfl) (by rfl) T.b_max (by decide +kernel) (pa_cons pe_int (pa_cons (pe_op op_sub (pv 2) (pe_op op_pow pe_int pe_int)) pa_nil))) (pa_cons (pv 3) pa_nil)))))), ?_⟩
    have hc : ∃ c : Int, Ev (tIf (tTest (tOp (rI0 fun i j => .bl (decide (i < j))) (tVar 1) (tCB (rLen2 K) (tCons (tVar 0) tNil)))) (tCB (fun xs H Q => ∃ i, xs = [.int i] ∧ Q (.int (if i < 0 then -i else i)) H) (tCons (tOp (rIx K) (tVar 0) (tVar 1)) tNil))
        (tOp (rI0 fun i j => .int (i + j)) (tOp (rI CMul fun i j => .int (i * j)) (tC (.int 827)) (tVar 1)) (tC (.int 541)))) [some (.ref a), some (.int (k : Int)), none, none] H (.int c) := by
      by_cases c : k < ns.length
      · have hx : atI (ns.map V.int) (k : Int) = some (.int ns[k]) := by
          show (ixN (ns.map V.int).length (k : Int)).bind ((ns.map V.int)[·]?) = _
          rw [ixN_nat (by rw [List.length_map]; exact c)]
          show (ns.map V.int)[k]? = _
          rw [List.getElem?_map, List.getElem?_eq_getElem c]
          rfl
        refine ⟨_, ev_if (b := true) (et_test (ev_is (ev_op (ev_var rfl) (ev_cb (ea_cons (ev_var rfl) ea_nil) (rc_len (.inl ha))) rv_I0) ?_)) (fun _ => ev_abs (ev_op (ev_var rfl) (ev_var rfl) fun H1 e Q q => .inl ⟨a, _, _, _, rfl, rfl, ex_l e ha, hx, q H1 (Ex.refl H1)⟩)) (fun z => nomatch z)⟩
        rw [List.length_map, decide_eq_true (Int.ofNat_lt.mpr c)]
      · refine ⟨_, ev_if (b := false) (et_test (ev_is (ev_op (ev_var rfl) (ev_cb (ea_cons (ev_var rfl) ea_nil) (rc_len (.inl ha))) rv_I0) ?_)) (fun z => nomatch z) (fun _ => ev_op (ev_op ev_c (ev_var rfl) (rv_I (.inl ⟨by decide, by decide⟩))) ev_c rv_I0)⟩
        rw [List.length_map, decide_eq_false fun z => c (Int.ofNat_lt.mp z)]
    obtain ⟨c, hc⟩ := hc
    refine q_asg hc fun H1 e1 => ?_
    refine q_asg (ev_op (ev_op (ev_int (ev_op (ev_op (ev_op (ev_op (ev_int (ev_var rfl)) ev_c (rv_I (by decide))) ev_c (rv_I (.inr ⟨by decide, by decide⟩))) (ev_op ev_c (ev_var rfl) (rv_I (.inl ⟨by decide, by decide⟩))) rv_I0) ev_c rv_I0)) ev_c (rv_I (by decide))) ev_c rv_I0) fun H2 e2 => ?_
    refine s_retL (el_lst (ea_cons (ev_max2 ev_c (ev_op (ev_var rfl) (ev_op ev_c ev_c (rv_I ⟨by decide, by decide, by decide⟩)) rv_I0)) (ea_cons (ev_var rfl) ea_nil)) (by show 2 ≤ 100000; decide)) fun p H3 hp e3 h3 => ?_
    have h0 : (0 : Int) ≤ if c - 10 ^ (18 : Int).toNat > 0 then c - 10 ^ (18 : Int).toNat else 0 := by split <;> omega
    obtain ⟨cn, ec⟩ := int_nat h0
    have hm1 := Int.emod_nonneg (c % 2147483549 * 41011 + 6907 * (k : Int) + 463) (show (2147483563 : Int) ≠ 0 by decide)
    have hm2 := Int.emod_lt_of_pos (c % 2147483549 * 41011 + 6907 * (k : Int) + 463) (show (0 : Int) < 2147483563 by decide)
    obtain ⟨mn, em⟩ := int_nat (show (0 : Int) ≤ (c % 2147483549 * 41011 + 6907 * (k : Int) + 463) % 2147483563 + 1 by omega)
    refine q p H3 (fresh_back (e1.trans e2) hp) ((e1.trans e2).trans e3) ⟨cn, mn, ?_, by omega⟩
    rw [h3, ← ec, ← em]
theorem ok_law_draw (T : Txt K mg) : Cal P w K mg base "_law_draw" p_law_draw 1 spDraw := by
  refine cal_of T.d_law_draw sc_law_draw (fun _ _ _ _ _ _ us hl => match us, hl with | [_, _], _ => rfl) (fun vs H Q E h => ?_) (fun f cdv A outer s H vs Q E hr h => ?_)
  · obtain ⟨p, s, rfl, _⟩ := h
    rfl
  · obtain ⟨p, n, rfl, ⟨c, m, hp, hm⟩, hn0, hn, q⟩ := h
    refine ⟨_, pss_cons (ps_if (pt_cmpR op_gt (pe_ix ix_list (pv 0) pe_int (fun _ _ => rfl)) pe_int (nomark _))
        (pss_cons (ps_asg (pe_callB call_divmodW (by rfl) T.b_divmod (by decide +kernel) (pa_cons (pe_ix ix_list (pv 0) pe_int (fun _ _ => rfl)) (pa_cons (pv 1) pa_nil)))
          (pg_tup rfl (pgs_cons (pg_sub (pv 0) pe_int set_list) (pgs_cons (pg_name (i := 2) sc_law_draw.nd rfl (.inl rfl)) pgs_nil)))) (pss_one (ps_ret (pv 2)))) pss_nil)
      (pss_cons (ps_asg (pe_op op_mod (pe_callTy call_int1 (by rfl) T.b_int (by decide +kernel) (pa_cons (pe_op op_add (pe_op op_mul (pe_ix ix_list (pv 0) pe_int (fun _ _ => rfl)) pe_int) pe_int) pa_nil)) pe_int) (pg_sub (pv 0) pe_int set_list))
      (pss_one (ps_ret (pe_op op_mod (pe_callTy call_int1 (by rfl) T.b_int (by decide +kernel) (pa_cons (pe_op op_fdiv (pe_op op_mod (pe_callTy call_int1 (by rfl) T.b_int (by decide +kernel) (pa_cons (pe_op op_mul (pe_ix ix_list (pv 0) pe_int (fun _ _ => rfl)) (pe_ix ix_list (pv 0) pe_int (fun _ _ => rfl))) pa_nil)) pe_int) pe_int) pa_nil)) (pv 1))))), ?_⟩
    have hx0 : ∀ c' m' : Int, atI [V.int c', V.int m'] 0 = some (.int c') := fun _ _ => rfl
    have hx1 : ∀ c' m' : Int, atI [V.int c', V.int m'] 1 = some (.int m') := fun _ _ => rfl
    refine q_when (b := decide (0 < (c : Int))) (et_test (ev_op (ev_op (ev_var rfl) ev_c (rv_ixL (sq_of hp) (hx0 _ _))) ev_c rv_I0)) (fun hb H1 e1 => ?_) fun hb H1 e1 => ?_
    · have hp1 := e1 p _ hp
      refine ev_op (σ := [some (.ref p), some (.int (n : Int)), none]) (ev_var rfl) ev_c (rv_ixL (sq_of hp1) (hx0 _ _)) H1 (Ex.refl H1) _ fun H2 e2 => ?_
      refine ⟨_, rfl, _, _, rfl, ⟨Int.ofNat_lt.mpr hn0, PyProof.noPylong_small (by omega)⟩, fun t ht => ?_⟩
      have hp2 := e2 p _ hp1
      have ht2 : t ≠ p := fun z => by rw [z, hp2] at ht; cases ht
      refine ⟨t, _, rfl, st_of upd_same, rfl, _, _, rfl, ⟨_, rfl, p, _, 0, 0, rfl, rfl, by rw [upd_ne ht2.symm]; exact hp2, rfl, ?_⟩⟩
      refine ⟨_, _, rfl, rfl, _, rfl, ?_⟩
      have d1 := Int.emod_nonneg (c : Int) (show (n : Int) ≠ 0 by omega)
      have d2 := Int.emod_lt_of_pos (c : Int) (Int.ofNat_lt.mpr hn0)
      obtain ⟨d, ed⟩ := int_nat d1
      obtain ⟨c', ec⟩ := int_nat (Int.ediv_nonneg (Int.natCast_nonneg c) (Int.natCast_nonneg n))
      rw [ed] at d2 ⊢
      refine q d _ (Int.ofNat_lt.mp d2) (Ex.mut (((hide_of e1).trans e2).trans (Ex.new ht)) hide_self) ⟨c', m, ?_, hm⟩
      rw [upd_same, ec]
      rfl
    · have hp1 := e1 p _ hp
      refine ev_op (σ := [some (.ref p), some (.int (n : Int)), none]) (ev_int (ev_op (ev_op (ev_op (ev_var rfl) ev_c (rv_ixL (sq_of hp1) (hx1 _ _))) ev_c (rv_I (.inr ⟨by decide, by decide⟩))) ev_c rv_I0)) ev_c (rv_I (by decide)) H1 (Ex.refl H1) _ fun H2 e2 => ?_
      have hp2 := e2 p _ hp1
      refine ⟨_, rfl, p, _, 1, 1, rfl, rfl, hp2, rfl, ?_⟩
      have m1 := Int.emod_nonneg ((m : Int) * 40289 + 30047) (show (2147483563 : Int) ≠ 0 by decide)
      have m2 := Int.emod_lt_of_pos ((m : Int) * 40289 + 30047) (show (0 : Int) < 2147483563 by decide)
      obtain ⟨m', em⟩ := int_nat m1
      rw [em] at m2 ⊢
      have hp3 : (upd H2 p (.lst ([V.int (c : Int), .int (m : Int)].set 1 (.int (m' : Int))))) p = some (.lst [.int (c : Int), .int (m' : Int)]) := upd_same
      dsimp only
      refine s_ret (ev_op (ev_int (ev_op (ev_op (ev_int (ev_op (ev_op (ev_var rfl) ev_c (rv_ixL (sq_of hp3) (hx1 _ _))) (ev_op (ev_var rfl) ev_c (rv_ixL (sq_of hp3) (hx1 _ _))) (rv_I (.inl ⟨by omega, by omega⟩)))) ev_c (rv_I (by decide))) ev_c (rv_I ⟨by decide, by decide⟩))) (ev_var rfl) (rv_I (Int.ofNat_lt.mpr hn0))) fun H4 e4 => ?_
      have d1 := Int.emod_nonneg ((m' : Int) * (m' : Int) % 2147483549 / 23) (show (n : Int) ≠ 0 by omega)
      have d2 := Int.emod_lt_of_pos ((m' : Int) * (m' : Int) % 2147483549 / 23) (Int.ofNat_lt.mpr hn0)
      obtain ⟨d, ed⟩ := int_nat d1
      rw [ed] at d2 ⊢
      exact q d _ (Int.ofNat_lt.mp d2) ((Ex.mut ((hide_of e1).trans e2) hide_self).trans e4) ⟨c, m', e4 p _ hp3, by omega⟩
theorem ok_law_pick (T : Txt K mg) : Cal P w K mg base "_law_pick" p_law_pick 2 spPick := by
  refine cal_of T.d_law_pick sc_law_pick (fun _ _ _ _ _ _ us hl => match us, hl with | [_, _], _ => rfl) (fun vs H Q E h => ?_) (fun f cdv A outer s H vs Q E hr h => ?_)
  · obtain ⟨p, a, xs, rfl, _⟩ := h
    rfl
  · obtain ⟨p, a, xs, rfl, hp, ha, ne, hx, hl, q⟩ := h
    refine ⟨_, pss_one (ps_ret (pe_ix ix_seq (pv 1) (pe_cal (ok_law_draw T) hr (pa_cons (pv 0) (pa_cons (pe_callB call_len_seq (by rfl) T.b_len boot_len (pa_cons (pv 1) pa_nil)) pa_nil))) (fun _ _ => rfl))), ?_⟩
    refine ⟨_, rfl, _, rfl, ev_cb (σ := [some (.ref p), some (.ref a)]) (ea_cons (ev_var rfl) ea_nil) (rc_len ha.sq) H (Ex.refl H) _ fun H1 e1 => ?_⟩
    refine ⟨p, xs.length, rfl, hp.mono e1, List.length_pos_iff.mpr hx, hl, fun d H2 hd e2 hp2 => ?_⟩
    have ha2 : Tk H2 a xs := Tk.mono ((hide_mono (hide_of e1)).trans e2) (ha.hide ne)
    have h0 : atI xs (d : Int) = some xs[d] := by
      show (ixN xs.length (d : Int)).bind (xs[·]?) = _
      rw [ixN_nat hd]
      exact List.getElem?_eq_getElem hd
    have hq := q xs[d] H2 (List.getElem_mem hd) ((hide_mono (hide_of e1)).trans e2) hp2
    rcases ha2 with h | h
    · exact .inl ⟨a, _, _, _, rfl, rfl, sq_of h, h0, hq⟩
    · exact .inr (.inl ⟨a, _, _, _, rfl, rfl, st_of h, h0, hq⟩)
end
end K61

/-! the law's own reckoning: joins, due -/
namespace K61
open PySem PySem.Spec PyProof.Rows L2 Evl

/-- n truth values -/
def vB (n : Nat) (f : Nat → Bool) : List V := ((List.range n).map f).map V.bl
theorem vB_len (n : Nat) (f : Nat → Bool) : (vB n f).length = n := by unfold vB; rw [List.length_map, List.length_map, List.length_range]
theorem vB_at {n : Nat} {f : Nat → Bool} {i : Nat} (h : i < n) : (vB n f)[i]? = some (.bl (f i)) := by
  unfold vB
  rw [List.getElem?_map, List.getElem?_map, List.getElem?_range h]
  rfl
theorem vB_getD {n : Nat} {f : Nat → Bool} {i : Nat} (h : i < n) : (vB n f).getD i .non = .bl (f i) := by
  rw [List.getD_eq_getElem?_getD, vB_at h]
  rfl
theorem vB_rep (n : Nat) : List.replicate n (V.bl false) = vB n fun _ => false := by
  refine List.ext_getElem? fun i => ?_
  rw [List.getElem?_replicate]
  split
  · rename_i h
    rw [vB_at h]
  · rename_i h
    rw [List.getElem?_eq_none (by rw [vB_len]; omega)]
theorem vB_congr {n : Nat} {f g : Nat → Bool} (h : ∀ i, i < n → f i = g i) : vB n f = vB n g := by
  unfold vB
  refine congrArg _ (List.map_congr_left fun i hi => h i (List.mem_range.mp hi))
theorem flat_N (l : List Nat) : (vN l).all flatV = true := by
  rw [List.all_eq_true]
  intro x hx
  obtain ⟨i, _, rfl⟩ := List.mem_map.mp hx
  rfl
theorem inV_N (s : Nat) (l : List Nat) : inV (.int (s : Int)) (vN l) = decide (s ∈ l) := by
  unfold inV vN iN
  induction l with
  | nil => rfl
  | cons a r ih =>
    rw [List.map_cons, List.map_cons, List.any_cons, ih]
    have h : eqV (.int (a : Int)) (.int (s : Int)) = decide (s = a) := by
      show decide ((a : Int) = (s : Int)) = _
      exact decide_eq_decide.mpr ⟨fun e => (Int.ofNat.inj e).symm, fun e => by rw [e]⟩
    rw [h]
    refine Bool.eq_iff_iff.mpr ?_
    rw [Bool.or_eq_true, decide_eq_true_eq, decide_eq_true_eq, decide_eq_true_eq, List.mem_cons]
section
variable {K : PySem.W.Frag} {σ : L2.St} {H : Hp} {ta tb te : TE}
theorem ev_inN {s : Nat} {a : Addr} {l : List Nat} (h1 : Ev ta σ H (.int (s : Int))) (h2 : Ev tb σ H (.ref a)) (hl : Tk H a (vN l)) : Ev (tOp (rIn K false) ta tb) σ H (.bl (decide (s ∈ l))) := by
  rw [← inV_N]
  rcases hl with h | h
  · exact ev_op h1 h2 (rv_isL (sq_of h) rfl (flat_N l))
  · exact ev_op h1 h2 (rv_isT (st_of h) rfl (flat_N l))
theorem el_rep {x : V} {n : Nat} (h1 : EvL ta σ H [x]) (h2 : ∀ H1, Ex H H1 → Ev tb σ H1 (.int (n : Int))) (hn : n ≤ 100000) : EvL (tOp rRep ta tb) σ H (List.replicate n x) := fun H1 e Q q =>
  h1 H1 e _ fun p H2 hp e2 hx => h2 H2 (e.trans e2) H2 (Ex.refl H2) _ fun H3 e3 => ⟨p, _, [x], rfl, rfl, e3 p _ hx, by omega, by omega, by
    show 1 * (n : Int).toNat ≤ sizeLine
    have := sz_of hn
    omega, fun q' hq' => by
      have e0 : (List.replicate (n : Int).toNat [x]).flatten = List.replicate n x := by
        show (List.replicate n [x]).flatten = _
        rw [List.flatten_replicate_singleton]
      rw [e0]
      exact q q' _ (fresh_back (e2.trans e3) hq') ((e2.trans e3).trans (Ex.new hq')) upd_same⟩
theorem ev_atB {a : Addr} {n : Nat} {f : Nat → Bool} {s : Nat} (h : Ev ta σ H (.ref a)) (hb : Tk H a (vB n f)) (hs : s < n) (h2 : Ev tb σ H (.int (s : Int))) : Ev (tOp (rIx K) ta tb) σ H (.bl (f s)) :=
  ev_op h h2 fun H1 e Q q => by
    have h0 : atI (vB n f) (s : Int) = some (.bl (f s)) := by
      show (ixN (vB n f).length (s : Int)).bind ((vB n f)[·]?) = _
      rw [ixN_nat (by rw [vB_len]; exact hs)]
      exact vB_at hs
    rcases hb with hb | hb
    · exact .inl ⟨a, _, _, _, rfl, rfl, sq_of (e a _ hb), h0, q H1 (Ex.refl H1)⟩
    · exact .inr (.inl ⟨a, _, _, _, rfl, rfl, st_of (e a _ hb), h0, q H1 (Ex.refl H1)⟩)
/-- a call of a def whose second argument is a new list -/
theorem el_call2L {sp : Sp} {E : XK} {x : V} {ys zs : List V} (h1 : Ev ta σ H x) (h2 : EvL tb σ H ys) (hs : ∀ p H1, Ex H H1 → H1 p = some (.lst ys) → SpL sp [x, .ref p] H1 zs) : EvL (tCall sp [] E (tCons ta (tCons tb tNil))) σ H zs := fun H1 e Q q =>
  h1 H1 e _ fun H2 e2 => h2 H2 (e.trans e2) _ fun p H3 _ e3 hp => hs p H3 ((e.trans e2).trans e3) hp H3 (Ex.refl H3) Q (fun r H4 hr e4 h4 => q r H4 (fresh_back (e2.trans e3) hr) ((e2.trans e3).trans e4) h4) E
end
/-- the join of the kinds within a lot that is told by truth values -/
def UpB (ks : List (List Nat)) (f : Nat → Bool) (s : Nat) : Prop := ∃ k ∈ ks, s ∈ k ∧ ∀ t ∈ k, f t = true
def spUp : Sp := fun vs H Q _ => ∃ (a b : Addr) (n : Nat) (ks : List (List Nat)) (f : Nat → Bool), vs = [.ref a, .ref b] ∧ KindsAt H a ks ∧ Tk H b (vB n f) ∧ KindsOk n ks ∧ n ≤ 8 ∧ ks.length ≤ 8 ∧ RetL (vB n fun s => dB (UpB ks f s)) H Q
def spIsDue : Sp := fun vs H Q _ => ∃ (a b : Addr) (n : Nat) (ks : List (List Nat)) (bd : List Nat), vs = [.ref a, .ref b] ∧ KindsAt H a ks ∧ H b = some (.lst (vN bd)) ∧ KindsOk n ks ∧ BoardOk n bd ∧ 2 ≤ n ∧ n ≤ 8 ∧ ks.length ≤ 8 ∧ RetV (.bl (dB (Due ks bd))) H Q
theorem all_rangeB {n : Nat} {g : Nat → Bool} : ((List.range n).map g).all id = true ↔ ∀ i, i < n → g i = true := by
  rw [List.all_eq_true]
  constructor
  · intro h i hi
    exact h _ (List.mem_map.mpr ⟨i, List.mem_range.mpr hi, rfl⟩)
  · intro h b hb
    obtain ⟨i, hi, rfl⟩ := List.mem_map.mp hb
    exact h i (List.mem_range.mp hi)
theorem all_get {k : List Nat} {f : Nat → Bool} : ((List.range k.length).map fun i => f (k.getD i 0)).all id = true ↔ ∀ t ∈ k, f t = true := by
  have e : (List.range k.length).map (fun i => f (k.getD i 0)) = k.map f := by
    conv => rhs; rw [← range_get k, List.map_map]
    rfl
  rw [e, List.all_eq_true]
  constructor
  · intro h t ht
    exact h _ (List.mem_map.mpr ⟨t, ht, rfl⟩)
  · intro h b hb
    obtain ⟨t, ht, rfl⟩ := List.mem_map.mp hb
    exact h t ht
theorem upB_snoc {ks : List (List Nat)} {k : List Nat} {f : Nat → Bool} {s : Nat} : UpB (ks ++ [k]) f s ↔ UpB ks f s ∨ (s ∈ k ∧ ∀ t ∈ k, f t = true) := by
  constructor
  · rintro ⟨k', h1, h2, h3⟩
    rcases List.mem_append.mp h1 with h | h
    · exact .inl ⟨k', h, h2, h3⟩
    · rw [List.mem_singleton.mp h] at h2 h3
      exact .inr ⟨h2, h3⟩
  · rintro (⟨k', h1, h2, h3⟩ | ⟨h2, h3⟩)
    · exact ⟨k', List.mem_append_left _ h1, h2, h3⟩
    · exact ⟨k, List.mem_append_right _ (List.mem_singleton.mpr rfl), h2, h3⟩
section
variable {P : Program} {w : World} {K : PySem.W.Frag} {mg : Str → Option Value} {base : Heap}
theorem ok_law_up (T : Txt K mg) : Cal P w K mg base "_law_up" p_law_up 1 spUp := by
  refine cal_of T.d_law_up sc_law_up (fun _ _ _ _ _ _ us hl => match us, hl with | [_, _], _ => rfl) (fun vs H Q E h => ?_) (fun f cdv A outer s H vs Q E hr h => ?_)
  · obtain ⟨a, b, n, ks, f, rfl, _⟩ := h
    rfl
  · obtain ⟨a, b, n, ks, f, rfl, ha, hb, hk, hn, hkl, q⟩ := h
    obtain ⟨ps, h1, h2, h3⟩ := id ha
    refine ⟨_, pss_cons (ps_set (i := 2) sc_law_up.nd rfl (.inl rfl) (pe_op op_rep (pe_lst (pa_cons pe_bl pa_nil)) (pe_callB call_len_seq (by rfl) T.b_len boot_len (pa_cons (pv 1) pa_nil))))
      (pss_cons (ps_for PassesOwn.never rfl (pi_seq (pv 0)) (pg_name (i := 3) sc_law_up.nd rfl (.inr rfl))
        (pss_one (ps_if (pt_val (pe_callB (cr_all rfl) (by rfl) T.b_all (by decide +kernel) (pa_cons (pe_lc (own := [("_law_shelf", 4)]) rfl sc_law_up.nd (pi_seq (pv 3)) (blkOk_by (N := n_law_up) (sc := defScope s_law_up) (by decide +kernel))
            (fun _ _ _ _ _ => pg_name (i := 4) sc_law_up.nd rfl (Or.inl rfl)) (fun _ _ _ _ _ => pts_nil) (fun _ _ _ _ _ => pe_ix (r := rIx K) ix_seq (pv 1) (pv 4) (fun _ _ => rfl))) pa_nil)))
          (pss_one (ps_setLc (i := 2) (g := gPair K 4 5) (own := [("_law_shelf", 4), ("_law_one", 5)]) rfl sc_law_up.nd rfl rfl rfl (pi_enumS (by rfl) T.b_enumerate (pa_cons (pv 2) pa_nil)) (blkOk_by (N := n_law_up) (sc := defScope s_law_up) (by decide +kernel))
            (fun _ _ _ _ _ => pg_pair (j1 := 4) (j2 := 5) rfl sc_law_up.nd rfl rfl (Or.inl rfl) (Or.inl rfl) (by first | exact Or.inl rfl | exact Or.inr rfl) (by first | exact Or.inl rfl | exact Or.inr rfl)) (fun _ _ _ _ _ => pts_nil)
            (fun _ _ _ _ _ => pe_or (pv 5) (pe_one (pe_cmpR (r := rIn K false) op_in_seq (pv 4) (pv 3) (by rfl)))))) pss_nil)))
      (pss_one (ps_ret (pv 2)))), ?_⟩
    refine q_asgL (el_rep (el_lst (ea_cons ev_c ea_nil) (by show 1 ≤ 100000; decide)) (fun H1 e => ev_is (ev_cb (ea_cons (ev_var rfl) ea_nil) (rc_len (hb.mono e).sq)) (by rw [vB_len])) (by omega)) fun o0 H1 ho0 e1 h1' => ?_
    rw [vB_rep] at h1'
    refine q_forS (ev_var rfl) (h1.mono e1).sq (fun i σ' H' => ∃ o y3, σ' = [some (.ref a), some (.ref b), some (.ref o), y3, none, none] ∧ Ex H1 H' ∧ H o = none ∧ H' o = some (.lst (vB n fun s => dB (UpB (ks.take i) f s)))) ?_ ?_ ?_ ?_
    · intro H2 e2
      refine ⟨o0, none, rfl, e2, ho0, ?_⟩
      rw [e2 o0 _ h1']
      exact congrArg (fun l => some (HO.lst l)) (vB_congr fun i _ => (dB_neg (by rintro ⟨k, hk, _⟩; rw [List.take_zero] at hk; cases hk)).symm)
    · rintro i σ' H' _ ⟨o, y3, _, e, _⟩
      exact e
    · rintro i x σ' H' hx ⟨o, y3, rfl, e, ho, hol⟩
      obtain ⟨p, k, hp, hkk, rfl⟩ := kinds_get h2 hx
      have e01 := e1.trans e
      have hpk : Tk H' p (vN k) := (h3 i p k hp hkk).mono e01
      have hk8 := hk k (List.mem_of_getElem? hkk)
      have hkl8 : k.length ≤ 8 := Nat.le_trans (few n k hk8.2.1 hk8.2.2) hn
      have et : ks.take (i + 1) = ks.take i ++ [k] := by rw [List.take_add_one, hkk]; rfl
      have hall : Ev (tCB (rAll K) (tCons (tLc (iSeq K (tVar 3)) (gName 4) tYes (tOp (rIx K) (tVar 1) (tVar 4)) [4]) tNil)) [some (.ref a), some (.ref b), some (.ref o), some (.ref p), none, none] H' (.bl (dB (∀ t ∈ k, f t = true))) := by
        refine ev_is (ev_cbL (el_lcS (fun _ => true) (fun i => .bl (f (k.getD i 0))) (ev_var rfl) hpk.sq (by rw [vN_len]; omega) (fun x => rfl) (fun i x hx => et_yes) fun j x hj _ => ?_) fun p H1 e1 h1 => rc_all (.of (h1.trans (congrArg (fun l => some (HO.lst l)) (given_bl _ fun i => f (k.getD i 0)))))) ?_
        · obtain ⟨t, ht, rfl⟩ := vN_get hj
          rw [nth_get ht]
          exact ev_atB (ev_var rfl) (hb.mono e01) (hk8.2.2 t (List.mem_of_getElem? ht)) (ev_var rfl)
        · rw [vN_len]
          exact congrArg V.bl (dB_is all_get)
      refine s_when (et_B hall) (fun hx H2 e2 => ?_) fun hx H2 e2 => ?_
      · have hin := dB_iff.mp hx
        refine s_asgL (el_lcE (fun _ => true) (fun i' => .bl (dB (UpB (ks.take i) f i') || decide (i' ∈ k))) (ea_cons (ev_var rfl) ea_nil) (.inl (.of (e2 o _ hol))) (by rw [vB_len]; omega) (fun x y => rfl) (fun i' hi' => et_yes) fun i' hi' _ => ?_) fun o2 H3 ho2 e3 h3' => ⟨o2, _, rfl, (e.trans e2).trans e3, fresh_back ((e1.trans e).trans e2) ho2, ?_⟩
        · rw [vB_len] at hi'
          rw [vB_getD hi']
          exact ev_orV (ev_var rfl) fun _ => ev_inN (ev_var rfl) (ev_var rfl) (hpk.mono e2)
        · rw [h3', vB_len]
          refine congrArg (fun l => some (HO.lst l)) ((given_bl _ _).trans (vB_congr fun i' _ => dB_is ?_))
          rw [Bool.or_eq_true, decide_eq_true_eq, dB_iff, et, upB_snoc]
          exact ⟨fun z => z.imp id fun z => ⟨z, hin⟩, fun z => z.imp id fun z => z.1⟩
      · refine ⟨o, _, rfl, e.trans e2, ho, ?_⟩
        rw [e2 o _ hol]
        refine congrArg (fun l => some (HO.lst l)) (vB_congr fun i' _ => dB_congr ?_)
        rw [et, upB_snoc]
        refine ⟨.inl, fun z => z.elim id fun z => ?_⟩
        rw [dB_pos z.2] at hx
        cases hx
    · rintro σ' H' ⟨o, y3, rfl, e, ho, hol⟩
      rw [List.length_map, h2, List.take_length] at hol
      exact s_ret (ev_var rfl) fun H2 e2 => q o H2 ho ((e1.trans e).trans e2) (e2 o _ hol)
theorem sl_law_up {a b : Addr} {n : Nat} {ks : List (List Nat)} {f : Nat → Bool} {H : Hp} (ha : KindsAt H a ks) (hb : Tk H b (vB n f)) (hk : KindsOk n ks) (hn : n ≤ 8) (hl : ks.length ≤ 8) : SpL spUp [.ref a, .ref b] H (vB n fun s => dB (UpB ks f s)) := fun H1 e Q q E => ⟨a, b, n, ks, f, rfl, ha.mono e, hb.mono e, hk, hn, hl, q⟩
end
end K61

/-! the law's own reckoning: due, looked -/
namespace K61
open PySem PySem.Spec PyProof.Rows L2 Evl

theorem upB_up {ks : List (List Nat)} {bd : List Nat} {l s : Nat} : UpB ks (fun t => decide (l ≤ at_ bd t)) s ↔ Up ks bd l s :=
  ⟨fun ⟨k, h1, h2, h3⟩ => ⟨k, h1, h2, fun t ht => of_decide_eq_true (h3 t ht)⟩, fun ⟨k, h1, h2, h3⟩ => ⟨k, h1, h2, fun t ht => decide_eq_true (h3 t ht)⟩⟩
section
variable {P : Program} {w : World} {K : PySem.W.Frag} {mg : Str → Option Value} {base : Heap}
theorem ok_law_is_due (T : Txt K mg) : Cal P w K mg base "_law_is_due" p_law_is_due 2 spIsDue := by
  refine cal_of T.d_law_is_due sc_law_is_due (fun _ _ _ _ _ _ us hl => match us, hl with | [_, _], _ => rfl) (fun vs H Q E h => ?_) (fun f cdv A outer s H vs Q E hr h => ?_)
  · obtain ⟨a, b, n, ks, bd, rfl, _⟩ := h
    rfl
  · obtain ⟨a, b, n, ks, bd, rfl, ha, hb, hk, hok, hn2, hn, hkl, q⟩ := h
    refine ⟨_, pss_cons (ps_for PassesOwn.never rfl (pi_range1 (by rfl) T.b_range (pa_cons (pe_callB (cr_maxS rfl hr.units) (by rfl) T.b_max (by decide +kernel) (pa_cons (pv 1) pa_nil)) pa_nil)) (pg_name (i := 2) sc_law_is_due.nd rfl (.inr rfl))
        (pss_cons (ps_set (i := 3) sc_law_is_due.nd rfl (.inl rfl) (pe_cal (ok_law_up T) hr (pa_cons (pv 0) (pa_cons (pe_lc (own := [("_law_number", 4)]) rfl sc_law_is_due.nd (pi_seq (pv 1)) (blkOk_by (N := n_law_is_due) (sc := defScope s_law_is_due) (by decide +kernel))
            (fun _ _ _ _ _ => pg_name (i := 4) sc_law_is_due.nd rfl (Or.inl rfl)) (fun _ _ _ _ _ => pts_nil) (fun _ _ _ _ _ => pe_cmpR op_ge (pv 4) (pv 2) (nomark _))) pa_nil))))
        (pss_one (ps_if (pt_not (pt_val (pe_callB (cr_all rfl) (by rfl) T.b_all (by decide +kernel) (pa_cons (pe_lc (g := gPair K 5 4) (own := [("_law_one", 5), ("_law_number", 4)]) rfl sc_law_is_due.nd (pi_zip (by rfl) T.b_zip (pa_cons (pv 3) (pa_cons (pv 1) pa_nil))) (blkOk_by (N := n_law_is_due) (sc := defScope s_law_is_due) (by decide +kernel))
            (fun _ _ _ _ _ => pg_pair (j1 := 5) (j2 := 4) rfl sc_law_is_due.nd rfl rfl (Or.inl rfl) (Or.inl rfl) (by first | exact Or.inl rfl | exact Or.inr rfl) (by first | exact Or.inl rfl | exact Or.inr rfl)) (fun _ _ _ _ _ => pts_nil)
            (fun _ _ _ _ _ => pe_or (pv 5) (pe_one (pe_cmpR op_le (pv 4) (pv 2) (nomark _))))) pa_nil)))) (pss_one (ps_ret pe_bl)) pss_nil))))
      (pss_one (ps_ret pe_bl)), ?_⟩
    have hlen := hok.1
    have hbt : Tk H b (vN bd) := .inl hb
    obtain ⟨m, hm, hmax⟩ := max_of (len_ne hok hn2)
    have hm60 := hok.2 m hm
    refine q_forR1 (n := (m : Int)) (ea_cons (ev_cb (ea_cons (ev_var rfl) ea_nil) (rc_max hbt.sq (mem_iN hm) (iN_le hmax))) ea_nil) (by omega)
      (fun i σ' H' => ∃ y2 y3, σ' = [some (.ref a), some (.ref b), y2, y3, none, none] ∧ Ex H H' ∧ ∀ l, l < i → ∀ s, s < bd.length → l < at_ bd s → Up ks bd l s) (fun H1 e1 => ⟨none, none, rfl, e1, fun l hl => absurd hl (Nat.not_lt_zero l)⟩) ?_ ?_
    · rintro l σ' H' hl ⟨y2, y3, rfl, e, hall⟩
      have hlot : EvL (tLc (iSeq K (tVar 1)) (gName 4) tYes (tOp (rI0 fun i j => .bl (decide (j ≤ i))) (tVar 4) (tVar 2)) [4]) [some (.ref a), some (.ref b), some (.int (l : Int)), y3, none, none] H' (vB n fun s => decide (l ≤ at_ bd s)) := by
        have e0 : given (vN bd).length (fun _ => true) (fun i => .bl (decide (l ≤ at_ bd i))) = vB n fun s => decide (l ≤ at_ bd s) := by
          rw [given_bl, vN_len, hlen]
          rfl
        rw [← e0]
        refine el_lcS _ _ (ev_var rfl) (hbt.mono e).sq (by rw [vN_len]; omega) (fun x => rfl) (fun i x hx => et_yes) fun i x hx _ => ?_
        obtain ⟨k, hk', rfl⟩ := vN_get hx
        have ek : at_ bd i = k := nth_get hk'
        rw [ek]
        exact ev_is (ev_op (ev_var rfl) (ev_var rfl) rv_I0) (by rw [dec_le])
      refine q_asgL (el_call2L (ev_var rfl) hlot fun p H1 e1 h1 => sl_law_up ((ha.mono e).mono e1) (.inl h1) hk hn hkl) fun u H2 hu e2 h2 => ?_
      refine s_when (b := !dB (∀ i, i < n → (dB (UpB ks (fun s => decide (l ≤ at_ bd s)) i) || decide (at_ bd i ≤ l)) = true)) (et_not (et_B (ev_is (ev_cbL (el_lcZ (xs := vB n fun s => dB (UpB ks (fun s => decide (l ≤ at_ bd s)) s)) (ys := vN bd) (fun _ => true) (fun i => .bl (dB (UpB ks (fun s => decide (l ≤ at_ bd s)) i) || decide (at_ bd i ≤ l)))
          (ea_cons (ev_var rfl) (ea_cons (ev_var rfl) ea_nil)) (.of h2) (.of ((e.trans e2) b _ hb)) (by rw [vB_len, vN_len, hlen]) (by rw [vB_len]; omega) (fun x y => rfl) (fun i hi => et_yes) fun i hi _ => ?_) fun p H1 e1 h1 => rc_all (.of (h1.trans (congrArg (fun l => some (HO.lst l)) (given_bl _ _))))) ?_))) (fun hx H3 e3 => ?_) fun hx H3 e3 => ?_
      · rw [vB_len] at hi
        rw [vB_getD hi, vN_getD (by omega)]
        exact ev_orV (ev_var rfl) fun _ => ev_is (ev_op (ev_var rfl) (ev_var rfl) rv_I0) (by rw [dec_le]; rfl)
      · rw [vB_len]
        exact congrArg V.bl (dB_is all_rangeB)
      · refine s_ret ev_c fun H4 e4 => ?_
        have hno : ¬ Due ks bd := fun hd => by
          have h3 : ∀ i, i < n → (dB (UpB ks (fun s => decide (l ≤ at_ bd s)) i) || decide (at_ bd i ≤ l)) = true := fun i hi => by
            rw [Bool.or_eq_true, dB_iff, decide_eq_true_eq, upB_up]
            rcases Nat.lt_or_ge l (at_ bd i) with c | c
            · exact .inl (hd l i (by omega) c)
            · exact .inr c
          rw [dB_pos h3] at hx
          cases hx
        have hq := q H4 (((e.trans e2).trans e3).trans e4)
        rw [dB_neg hno] at hq
        exact hq
      · refine ⟨_, _, rfl, (e.trans e2).trans e3, fun l' hl' s hs h0 => ?_⟩
        rcases Nat.lt_or_ge l' l with c | c
        · exact hall l' c s hs h0
        · have el : l' = l := by omega
          rw [el] at h0 ⊢
          have h3 : ∀ i, i < n → (dB (UpB ks (fun s => decide (l ≤ at_ bd s)) i) || decide (at_ bd i ≤ l)) = true := by
            refine dB_iff.mp ?_
            cases z : dB (∀ i, i < n → (dB (UpB ks (fun s => decide (l ≤ at_ bd s)) i) || decide (at_ bd i ≤ l)) = true) with
            | true => rfl
            | false => rw [z] at hx; cases hx
          have h4 := h3 s (by omega)
          rw [Bool.or_eq_true, dB_iff, decide_eq_true_eq, upB_up] at h4
          rcases h4 with h4 | h4
          · exact h4
          · omega
    · rintro σ' H' ⟨y2, y3, rfl, e, hall⟩
      refine s_ret ev_c fun H4 e4 => ?_
      have hyes : Due ks bd := fun l s hs h0 => hall l (by
        have := hmax _ (at_mem hs)
        show l < m
        omega) s hs h0
      have hq := q H4 (e.trans e4)
      rw [dB_pos hyes] at hq
      exact hq
theorem sv_law_is_due {a b : Addr} {n : Nat} {ks : List (List Nat)} {bd : List Nat} {H : Hp} (ha : KindsAt H a ks) (hb : H b = some (.lst (vN bd))) (hk : KindsOk n ks) (hok : BoardOk n bd) (h2 : 2 ≤ n) (hn : n ≤ 8) (hl : ks.length ≤ 8) : SpV spIsDue [.ref a, .ref b] H (.bl (dB (Due ks bd))) :=
  fun H1 e Q q E => ⟨a, b, n, ks, bd, rfl, ha.mono e, e b _ hb, hk, hok, h2, hn, hl, q⟩
end
end K61

/-! the law's own reckoning: looked -/
namespace K61
open PySem PySem.Spec PyProof.Rows L2 Evl

section
variable {K : PySem.W.Frag} {σ : L2.St} {H : Hp}
/-- each value a list or tuple of numbers -/
def Seqs (H : Hp) (ys : List V) : Prop := ∀ y ∈ ys, ∃ q k, y = V.ref q ∧ Tk H q (vN k)
theorem Seqs.mono {H H' : Hp} {ys : List V} (e : Ex H H') (h : Seqs H ys) : Seqs H' ys := fun y hy => by
  obtain ⟨q, k, h1, h2⟩ := h y hy
  exact ⟨q, k, h1, h2.mono e⟩
theorem depth_seq (d : PyData) (ds : List PyData) : PyData.depthAll (d :: ds) = max d.depth (PyData.depthAll ds) := by rw [PyData.depthAll]
theorem dp_refs : ∀ ys : List V, Seqs H ys → ∃ ds, DpAll K H ys ds ∧ PyData.canLayAll0 ds = true ∧ PyData.depthAll ds ≤ 1 ∧ ds.isEmpty = ys.isEmpty
  | [], _ => ⟨[], .nil, by rw [PyData.canLayAll0], by rw [PyData.depthAll]; decide, rfl⟩
  | y :: r, h => by
    obtain ⟨ds, h1, h2, h3, _⟩ := dp_refs r fun z hz => h z (List.mem_cons_of_mem _ hz)
    obtain ⟨q, k, rfl, hk⟩ := h y List.mem_cons_self
    rcases hk with hk | hk
    · refine ⟨dI (iN k) :: ds, .cons (dp_I (.of hk)) h1, ?_, ?_, rfl⟩
      · rw [PyData.canLayAll0, h2]
        unfold dI
        rw [PyData.canLay0, lay_ints]
        rfl
      · rw [depth_seq]
        have hd : (dI (iN k)).depth = 1 := by
          show PyData.depthAll ((iN k).map PyData.int) + 1 = 1
          rw [PySem.W.depth_ints]
        omega
    · refine ⟨.tuple ((iN k).map PyData.int) :: ds, .cons (.tup (st_of hk) (dp_ints (iN k))) h1, ?_, ?_, rfl⟩
      · rw [PyData.canLayAll0, h2, PyData.canLay0, lay_ints]
        rfl
      · rw [depth_seq]
        have hd : (PyData.tuple ((iN k).map PyData.int)).depth = 1 := by
          show PyData.depthAll ((iN k).map PyData.int) + 1 = 1
          rw [PySem.W.depth_ints]
        omega
theorem eqv_emp (ds : List PyData) : PyData.eqv (.list ds) (.list []) = ds.isEmpty := by
  rw [PyData.eqv]
  cases ds with
  | nil => rw [PyData.eqvAll]; rfl
  | cons d r => rw [PyData.eqvAll]; rfl; all_goals (intros; simp_all)
theorem shaped_L {ds : List PyData} (h1 : PyData.canLayAll0 ds = true) (h2 : PyData.depthAll ds ≤ 1) : SeqAt.shaped (.list ds) = true := by
  unfold SeqAt.shaped
  rw [PyData.canLay0, h1, Bool.true_and]
  refine decide_eq_true ?_
  show PyData.depthAll ds + 1 ≤ 64
  omega
theorem rv_eqE {a b : Addr} {ys : List V} (ha : SqL K H a ys) (hs : Seqs H ys) (hb : SqL K H b []) : RV (rEqD K) (.ref a) (.ref b) H (.bl ys.isEmpty) := fun H1 e Q q => by
  obtain ⟨ds, h1, h2, h3, h4⟩ := dp_refs (K := K) ys (hs.mono e)
  exact ⟨.list ds, .list [], .lst (ex_l e ha) h1, .lst (ex_l e hb) .nil, shaped_L h2 h3, shaped_I [], by rw [eqv_emp, h4]; exact q H1 (Ex.refl H1)⟩
theorem rv_neE {a b : Addr} {ys : List V} (ha : SqL K H a ys) (hs : Seqs H ys) (hb : SqL K H b []) : RV (rNeD K) (.ref a) (.ref b) H (.bl (!ys.isEmpty)) := fun H1 e Q q => by
  obtain ⟨ds, h1, h2, h3, h4⟩ := dp_refs (K := K) ys (hs.mono e)
  exact ⟨.list ds, .list [], .lst (ex_l e ha) h1, .lst (ex_l e hb) .nil, shaped_L h2 h3, shaped_I [], by rw [eqv_emp, h4]; exact q H1 (Ex.refl H1)⟩
theorem KindsAt.seqs {a : Addr} {ks : List (List Nat)} {ps : List Addr} (h2 : ps.length = ks.length) (h3 : ∀ (i : Nat) p k, ps[i]? = some p → ks[i]? = some k → Tk H p (vN k)) : Seqs H (ps.map V.ref) := fun y hy => by
  obtain ⟨i, hi⟩ := List.mem_iff_getElem?.mp hy
  obtain ⟨p, k, hp, hk, rfl⟩ := kinds_get h2 hi
  exact ⟨p, k, rfl, h3 i p k hp hk⟩
end
theorem given_map (I : List Nat) (v : Nat → V) (g : Nat → Bool) : given (I.map v).length (fun j => g (I.getD j 0)) (fun j => v (I.getD j 0)) = (I.filter g).map v := by
  unfold given
  rw [List.length_map]
  conv => rhs; rw [← range_get I, List.filter_map, List.map_map]
  rfl
/-- a kind for the shelf in which nobody is two below -/
def Holds1 (ks : List (List Nat)) (bd : List Nat) (s : Nat) : Prop := ∃ k ∈ ks, s ∈ k ∧ ∀ t ∈ k, at_ bd s ≤ at_ bd t + 1
def spIsLooked : Sp := fun vs H Q _ => ∃ (a b : Addr) (n : Nat) (ks : List (List Nat)) (bd : List Nat), vs = [.ref a, .ref b] ∧ KindsAt H a ks ∧ H b = some (.lst (vN bd)) ∧ KindsOk n ks ∧ BoardOk n bd ∧ n ≤ 8 ∧ ks.length ≤ 8 ∧ RetV (.bl (dB (Looked ks bd))) H Q
section
variable {P : Program} {w : World} {K : PySem.W.Frag} {mg : Str → Option Value} {base : Heap}
theorem ok_law_is_looked (T : Txt K mg) : Cal P w K mg base "_law_is_looked" p_law_is_looked 1 spIsLooked := by
  refine cal_of T.d_law_is_looked sc_law_is_looked (fun _ _ _ _ _ _ us hl => match us, hl with | [_, _], _ => rfl) (fun vs H Q E h => ?_) (fun f cdv A outer s H vs Q E hr h => ?_)
  · obtain ⟨a, b, n, ks, bd, rfl, _⟩ := h
    rfl
  · obtain ⟨a, b, n, ks, bd, rfl, ha, hb, hk, hok, hn, hkl, q⟩ := h
    obtain ⟨ps, h1, h2, h3⟩ := id ha
    refine ⟨_, pss_cons (ps_for PassesOwn.never rfl (pi_enumS (by rfl) T.b_enumerate (pa_cons (pv 1) pa_nil)) (pg_pair (j1 := 2) (j2 := 3) rfl sc_law_is_looked.nd rfl rfl (.inr rfl) (.inr rfl) (by first | exact Or.inl rfl | exact Or.inr rfl) (by first | exact Or.inl rfl | exact Or.inr rfl))
        (pss_cons (ps_setLc (i := 4) (own := [("_law_kind", 6)]) rfl sc_law_is_looked.nd rfl rfl rfl (pi_seq (pv 0)) (blkOk_by (N := n_law_is_looked) (sc := defScope s_law_is_looked) (by decide +kernel))
            (fun _ _ _ _ _ => pg_name (i := 6) sc_law_is_looked.nd rfl (Or.inl rfl)) (fun _ _ _ _ _ => pts_one (pt_cmpR (r := rIn K false) op_in_seq (pv 2) (pv 6) (by rfl))) (fun _ _ _ _ _ => pv 6))
        (pss_cons (ps_setLc (i := 5) (own := [("_law_kind", 6)]) rfl sc_law_is_looked.nd rfl rfl rfl (pi_seq (pv 4)) (blkOk_by (N := n_law_is_looked) (sc := defScope s_law_is_looked) (by decide +kernel))
            (fun _ _ _ _ _ => pg_name (i := 6) sc_law_is_looked.nd rfl (Or.inl rfl))
            (fun _ _ _ _ _ => pts_one (pt_cmpR op_ge (pe_callB (r := rMin K) (cr_min rfl) (by rfl) T.b_min (by decide +kernel) (pa_cons (pe_lc (wi := iSeq K (tVar 6)) (te := tOp (rIx K) (tVar 1) (tVar 7)) (own := [("_law_one", 7)]) rfl sc_law_is_looked.nd (pi_seq (pv 6)) (blkOk_by (by rfl))
              (fun _ _ _ _ _ => pg_name (i := 7) sc_law_is_looked.nd rfl (Or.inl rfl)) (fun _ _ _ _ _ => pts_nil) (fun _ _ _ _ _ => pe_ix (r := rIx K) ix_seq (pv 1) (pv 7) (fun _ _ => rfl))) pa_nil)) (pe_op op_sub (pv 3) pe_int) (nomark _))) (fun _ _ _ _ _ => pv 6))
        (pss_one (ps_if (PW.pt (pw_and (pt_cmpR op_gt (pv 3) pe_int (nomark _)) (pw_and1 (pt_cmpR (op_eqD hr.units) (pv 5) (pe_lst pa_nil) (nomark _))))) (pss_one (ps_ret pe_bl)) pss_nil)))))
      (pss_one (ps_ret pe_bl)), ?_⟩
    have hlen := hok.1
    have hbt : Tk H b (vN bd) := .inl hb
    have hpl : (ps.map V.ref).length = ks.length := by rw [List.length_map, h2]
    -- the value at a position of the kinds
    have hv : ∀ i, i < ks.length → ∃ p, (ps.map V.ref).getD i .non = .ref p ∧ Tk H p (vN (ks.getD i [])) ∧ (ks.getD i []) ∈ ks := fun i hi => by
      obtain ⟨p, k, hp, hkk, e⟩ := kinds_get h2 (List.getElem?_eq_getElem (hpl.symm ▸ hi))
      have ek : ks.getD i [] = k := by rw [List.getD_eq_getElem?_getD, hkk]; rfl
      rw [ek]
      refine ⟨p, ?_, h3 i p k hp hkk, List.mem_of_getElem? hkk⟩
      rw [List.getD_eq_getElem?_getD, List.getElem?_eq_getElem (hpl.symm ▸ hi), e]
      rfl
    refine q_forE (xs := vN bd) (ea_cons (ev_var rfl) ea_nil) hbt.sq (fun i σ' H' => ∃ y2 y3 y4 y5, σ' = [some (.ref a), some (.ref b), y2, y3, y4, y5, none, none] ∧ Ex H H' ∧ ∀ s, s < i → 0 < at_ bd s → Holds1 ks bd s) (fun H1 e1 => ⟨none, none, none, none, rfl, e1, fun s hs => absurd hs (Nat.not_lt_zero s)⟩) ?_ ?_ ?_
    · rintro i σ' H' _ ⟨y2, y3, y4, y5, _, e, _⟩
      exact e
    · rintro s σ' H0 H1 hs ⟨y2, y3, y4, y5, rfl, e0, hall⟩ e1
      rw [vN_len] at hs
      rw [vN_getD (by exact hs)]
      have e01 := e0.trans e1
      have h11 := h1.mono e01
      let v : Nat → V := fun i => (ps.map V.ref).getD i .non
      let I1 : List Nat := (List.range ks.length).filter fun i => decide (s ∈ ks.getD i [])
      let g : Nat → Bool := fun i => dB (∀ t ∈ ks.getD i [], at_ bd s ≤ at_ bd t + 1)
      have hI1 : ∀ i, i ∈ I1 → i < ks.length := fun i hi => List.mem_range.mp (List.mem_filter.mp hi).1
      refine q_asgL (xs := I1.map v) (by
        have e2 : given (ps.map V.ref).length (fun i => decide (s ∈ ks.getD i [])) v = I1.map v := by rw [hpl]; rfl
        rw [← e2]
        refine el_lcS _ _ (ev_var rfl) h11.sq (by omega) (fun x => rfl) (fun i x hx => ?_) fun i x hx _ => ?_
        · have hi : i < ks.length := hpl ▸ (List.getElem?_eq_some_iff.mp hx).1
          obtain ⟨p, hp1, hp2, _⟩ := hv i hi
          have ex : x = .ref p := by
            rw [List.getD_eq_getElem?_getD, hx] at hp1
            exact hp1
          rw [ex]
          exact et_test (ev_inN (ev_var rfl) (ev_var rfl) (hp2.mono e01))
        · have ex : v i = x := by
            show (ps.map V.ref).getD i .non = x
            rw [List.getD_eq_getElem?_getD, hx]
            rfl
          rw [ex]
          exact ev_var rfl) fun o H2 ho e2 h2' => ?_
      have hget : ∀ (j : Nat) (x : V), (I1.map v)[j]? = some x → ∃ i, I1.getD j 0 = i ∧ i < ks.length ∧ x = v i := fun j x hx => by
        rw [List.getElem?_map] at hx
        cases z : I1[j]? with
        | none => rw [z] at hx; cases hx
        | some i =>
          rw [z] at hx
          exact ⟨i, nth_get z, hI1 i (List.mem_of_getElem? z), (Option.some.inj hx).symm⟩
      have hI1l : I1.length ≤ 8 := by
        have := List.length_filter_le (fun i => decide (s ∈ ks.getD i [])) (List.range ks.length)
        rw [List.length_range] at this
        exact Nat.le_trans this hkl
      refine q_asgL (xs := (I1.filter g).map v) (by
        rw [← given_map I1 v g]
        refine el_lcS _ _ (ev_var rfl) (.inl (.of h2')) (by rw [List.length_map]; omega) (fun x => rfl) (fun j x hx => ?_) fun j x hx _ => ?_
        · obtain ⟨i, ei, hi, rfl⟩ := hget j x hx
          rw [ei]
          obtain ⟨p, hp1, hp2, hp3⟩ := hv i hi
          have evi : v i = .ref p := hp1
          rw [evi]
          have hkk := hk _ hp3
          obtain ⟨m, hm, hmin⟩ := min_of (l := (ks.getD i []).map (at_ bd)) (fun z => hkk.1 (List.map_eq_nil_iff.mp z))
          have hk8 : (ks.getD i []).length ≤ 8 := Nat.le_trans (few n _ hkk.2.1 hkk.2.2) hn
          refine et_test (ev_is (ev_op (ev_cbL (el_mapS (v := at_ bd) (ev_var rfl) (hp2.mono (e01.trans e2)) (by omega) (fun x => rfl) fun t ht => ev_at (ev_var rfl) (hbt.mono (e01.trans e2)) (by have := hkk.2.2 t ht; omega) (ev_var rfl)) fun p H1 e1 h1 => rc_min (.of h1) (mem_iN hm) (iN_ge hmin)) (ev_op (ev_var rfl) ev_c rv_I0) rv_I0) (congrArg V.bl (dB_is ?_)))
          rw [decide_eq_true_eq]
          constructor
          · intro h t ht
            have h5 := hmin (at_ bd t) (List.mem_map.mpr ⟨t, ht, rfl⟩)
            have h6 : ((bd.getD s 0 : Nat) : Int) - 1 ≤ (m : Int) := h
            show bd.getD s 0 ≤ at_ bd t + 1
            omega
          · intro h
            obtain ⟨t, ht, em⟩ := List.mem_map.mp hm
            have h5 : bd.getD s 0 ≤ at_ bd t + 1 := h t ht
            show ((bd.getD s 0 : Nat) : Int) - 1 ≤ (m : Int)
            omega
        · obtain ⟨i, ei, hi, rfl⟩ := hget j x hx
          rw [ei]
          exact ev_var rfl) fun o3 H3 ho3 e3 h3' => ?_
      have e03 := (e01.trans e2).trans e3
      have hseq : Seqs H3 ((I1.filter g).map v) := fun y hy => by
        obtain ⟨i, hi, rfl⟩ := List.mem_map.mp hy
        obtain ⟨p, hp1, hp2, _⟩ := hv i (hI1 i (List.mem_filter.mp hi).1)
        exact ⟨p, _, hp1, hp2.mono e03⟩
      have hemp : ((I1.filter g).map v).isEmpty = !dB (Holds1 ks bd s) := by
        rw [List.isEmpty_map]
        have h0 : I1.filter g ≠ [] ↔ Holds1 ks bd s := by
          constructor
          · intro z
            obtain ⟨i, hi⟩ := List.exists_mem_of_ne_nil _ z
            obtain ⟨hi1, hi2⟩ := List.mem_filter.mp hi
            obtain ⟨_, _, _, hm⟩ := hv i (hI1 i hi1)
            exact ⟨_, hm, of_decide_eq_true (List.mem_filter.mp hi1).2, dB_iff.mp hi2⟩
          · rintro ⟨k, hk1, hk2, hk3⟩ z
            obtain ⟨i, hi⟩ := List.mem_iff_getElem?.mp hk1
            have ek : ks.getD i [] = k := by rw [List.getD_eq_getElem?_getD, hi]; rfl
            have hm : i ∈ I1.filter g := List.mem_filter.mpr ⟨List.mem_filter.mpr ⟨List.mem_range.mpr (List.getElem?_eq_some_iff.mp hi).1, decide_eq_true (by rw [ek]; exact hk2)⟩, dB_pos (by rw [ek]; exact hk3)⟩
            rw [z] at hm
            cases hm
        cases z : I1.filter g with
        | nil => rw [dB_neg fun h => h0.mpr h z]; rfl
        | cons i r => rw [dB_pos (h0.mp (by rw [z]; exact List.cons_ne_nil _ _))]; rfl
      refine s_when (b := decide (0 < at_ bd s) && !dB (Holds1 ks bd s)) (et_and (et_test (ev_is (ev_op (ev_var rfl) ev_c rv_I0) (congrArg V.bl (decide_eq_decide.mpr (show ((0 : Int) < ((bd.getD s 0 : Nat) : Int)) ↔ 0 < bd.getD s 0 by omega)))))
        fun _ => et_test (ev_is (ev_opL (ev_var rfl) el_nil fun p H4 h4 e4 => rv_eqE (.of (e4 o3 _ h3')) (hseq.mono e4) (.of h4)) (by rw [hemp]))) (fun hx H4 e4 => ?_) fun hx H4 e4 => ?_
      · obtain ⟨x1, x2⟩ := Bool.and_eq_true_iff.mp hx
        refine s_ret ev_c fun H5 e5 => ?_
        have hno : ¬ Looked ks bd := fun hl => by
          rw [dB_pos (show Holds1 ks bd s from hl s hs (of_decide_eq_true x1))] at x2
          cases x2
        have hq := q H5 ((e03.trans e4).trans e5)
        rw [dB_neg hno] at hq
        exact hq
      · refine ⟨_, _, _, _, rfl, e03.trans e4, fun s' hs' h0 => ?_⟩
        rcases Nat.lt_or_ge s' s with c | c
        · exact hall s' c h0
        · have es : s' = s := by omega
          rw [es] at h0 ⊢
          refine dB_iff.mp ?_
          cases z : dB (Holds1 ks bd s) with
          | true => rfl
          | false => rw [z, decide_eq_true h0] at hx; cases hx
    · rintro σ' H' ⟨y2, y3, y4, y5, rfl, e, hall⟩
      refine s_ret ev_c fun H4 e4 => ?_
      have hyes : Looked ks bd := fun s hs h0 => hall s (by rw [vN_len]; exact hs) h0
      have hq := q H4 (e.trans e4)
      rw [dB_pos hyes] at hq
      exact hq
theorem sv_law_is_looked {a b : Addr} {n : Nat} {ks : List (List Nat)} {bd : List Nat} {H : Hp} (ha : KindsAt H a ks) (hb : H b = some (.lst (vN bd))) (hk : KindsOk n ks) (hok : BoardOk n bd) (hn : n ≤ 8) (hl : ks.length ≤ 8) : SpV spIsLooked [.ref a, .ref b] H (.bl (dB (Looked ks bd))) :=
  fun H1 e Q q E => ⟨a, b, n, ks, bd, rfl, ha.mono e, e b _ hb, hk, hok, hn, hl, q⟩
end
end K61

/-! the law's kinds, drawn -/
namespace K61
open PySem PySem.Spec PyProof.Rows L2 Evl

theorem hide_none {p o : Addr} {H : Hp} (h : H o = none) : hide p H o = none := by
  unfold hide
  split
  · rfl
  · exact h
section
variable {K : PySem.W.Frag} {σ : L2.St} {H : Hp} {ta tb te : TE}
theorem go_draw {tA : TA} {p : Addr} {s : Nat} (hA : EvA tA σ H [.ref p, .int (s : Int)]) (hp : PotAt H p) (h0 : 0 < s) (h1 : s ≤ 1000) {Q : VK} (q : ∀ (d : Nat) H', d < s → Ex (hide p H) H' → PotAt H' p → Q (.int (d : Int)) H') : tCall spDraw [] E0 tA σ H Q :=
  hA H (Ex.refl H) _ fun H1 e1 => ⟨p, s, rfl, hp.mono e1, h0, h1, fun d H' hd e hp' => q d H' hd ((hide_mono (hide_of e1)).trans e) hp'⟩
theorem go_pick {p a : Addr} {xs : List V} (h1 : Ev ta σ H (.ref p)) (h2 : Ev tb σ H (.ref a)) (hp : PotAt H p) (ha : Tk H a xs) (ne : a ≠ p) (hx : xs ≠ []) (hl : xs.length ≤ 1000) {Q : VK} (q : ∀ v H', v ∈ xs → Ex (hide p H) H' → PotAt H' p → Q v H') : tCall spPick [] E0 (tCons ta (tCons tb tNil)) σ H Q :=
  ea_cons h1 (ea_cons h2 ea_nil) H (Ex.refl H) _ fun H1 e1 => ⟨p, a, xs, rfl, hp.mono e1, ha.mono e1, ne, hx, hl, fun v H' hv e hp' => q v H' hv ((hide_mono (hide_of e1)).trans e) hp'⟩
theorem go_pickL {p : Addr} {xs : List V} (h1 : Ev ta σ H (.ref p)) (h2 : EvL tb σ H xs) (hp : PotAt H p) (hx : xs ≠ []) (hl : xs.length ≤ 1000) {Q : VK} (q : ∀ v H', v ∈ xs → Ex (hide p H) H' → PotAt H' p → Q v H') : tCall spPick [] E0 (tCons ta (tCons tb tNil)) σ H Q :=
  h1 H (Ex.refl H) _ fun H1 e1 => h2 H1 e1 _ fun a H2 ha e2 h2' => ⟨p, a, xs, rfl, (hp.mono e1).mono e2, .inl h2', (hp.mono e1).ne ha, hx, hl, fun v H' hv e hp' => q v H' hv ((hide_mono (hide_of (e1.trans e2))).trans e) hp'⟩
/-- xs + ys -/
theorem el_catV {xs ys : List V} {c : Addr} (h1 : EvL ta σ H xs) (h2 : Ev tb σ H (.ref c)) (hc : H c = some (.lst ys)) (hz : xs.length + ys.length ≤ 100000) : EvL (tOp rCat ta tb) σ H (xs ++ ys) := fun H1 e Q q =>
  h1 H1 e _ fun p H2 hp e2 hx => h2 H2 (e.trans e2) _ fun H3 e3 => ⟨p, c, xs, ys, rfl, rfl, e3 p _ hx, ((e.trans e2).trans e3) c _ hc, sz_of hz, fun r hr => q r _ (fresh_back (e2.trans e3) hr) ((e2.trans e3).trans (Ex.new hr)) upd_same⟩
theorem q_rngDraw {tA : TA} {p : Addr} {s : Nat} {g : TG} {tu tz : TS} {D : Ends} (hA : EvA tA σ H [.ref p, .int (s : Int)]) (hp : PotAt H p) (h0 : 0 < s) (h1 : s ≤ 1000)
    (next : ∀ (d : Nat) H', d < s → Ex (hide p H) H' → PotAt H' p → tSeq (tFor (iRng1 (tCons (tC (.int (d : Int))) tNil)) g tu) tz D σ H') : tSeq (tFor (iRng1 (tCons (tCall spDraw [] E0 tA) tNil)) g tu) tz D σ H :=
  go_draw hA hp h0 h1 fun d H' hd e hp' => next d H' hd e hp'
theorem s_ifDraw {tA : TA} {p : Addr} {s : Nat} {r : R2} {tu tw : TS} {D : Ends} (hA : EvA tA σ H [.ref p, .int (s : Int)]) (hp : PotAt H p) (h0 : 0 < s) (h1 : s ≤ 1000)
    (next : ∀ (d : Nat) H', d < s → Ex (hide p H) H' → PotAt H' p → tIfS (tTest (tOp r (tC (.int (d : Int))) te)) tu tw D σ H') : tIfS (tTest (tOp r (tCall spDraw [] E0 tA) te)) tu tw D σ H :=
  go_draw hA hp h0 h1 fun d H' hd e hp' => next d H' hd e hp'
theorem q_asgDraw {tA : TA} {p : Addr} {s i : Nat} {tz : TS} {D : Ends} (hA : EvA tA σ H [.ref p, .int (s : Int)]) (hp : PotAt H p) (h0 : 0 < s) (h1 : s ≤ 1000)
    (next : ∀ (d : Nat) H', d < s → Ex (hide p H) H' → PotAt H' p → tz D (σ.set i (some (.int (d : Int)))) H') : tSeq (tAsg (tCall spDraw [] E0 tA) (gName i)) tz D σ H :=
  go_draw hA hp h0 h1 fun d H' hd e hp' => next d H' hd e hp'
/-- list(range(n)) -/
theorem rgV_nat (n : Nat) : rgV 0 (n : Int) = vN (List.range n) := by
  unfold rgV vN iN
  rw [List.map_map]
  have e : ((n : Int) - 0).toNat = n := by omega
  rw [e]
  refine List.map_congr_left fun i _ => ?_
  show V.int (0 + (i : Int)) = V.int (i : Int)
  rw [Int.zero_add]
theorem el_rg {n : Nat} (h : Ev ta σ H (.int (n : Int))) (hn : n ≤ 100000) : EvL (tLstRg (tRg1 ta)) σ H (vN (List.range n)) := fun H1 e Q q =>
  h H1 e _ fun H2 e2 => ⟨_, rfl, .of_le (by decide) (by omega) (by decide) (by omega), fun r hr => by
    rw [rgV_nat]
    exact q r _ (fresh_back e2 hr) (e2.trans (Ex.new hr)) upd_same⟩
/-- [[0], [n - 1], list(range(n))] -/
theorem go_three {t1 t2 t3 : TE} {k1 k2 k3 : List Nat} (h1 : EvL t1 σ H (vN k1)) (h2 : EvL t2 σ H (vN k2)) (h3 : EvL t3 σ H (vN k3)) {Q : VK}
    (q : ∀ (b q1 q2 q3 : Addr) H', H b = none → H q1 = none → H q2 = none → H q3 = none → Ex H H' → H' b = some (.lst [.ref q1, .ref q2, .ref q3]) → H' q1 = some (.lst (vN k1)) → H' q2 = some (.lst (vN k2)) → H' q3 = some (.lst (vN k3)) → Q (.ref b) H') : tLst (tCons t1 (tCons t2 (tCons t3 tNil))) σ H Q :=
  h1 H (Ex.refl H) _ fun q1 H1 n1 e1 x1 => h2 H1 e1 _ fun q2 H2 n2 e2 x2 => h3 H2 (e1.trans e2) _ fun q3 H3 n3 e3 x3 => ⟨by show 3 ≤ sizeLine; decide, fun b hb =>
    q b q1 q2 q3 _ (fresh_back ((e1.trans e2).trans e3) hb) n1 (fresh_back e1 n2) (fresh_back (e1.trans e2) n3) (((e1.trans e2).trans e3).trans (Ex.new hb)) upd_same
      ((e2.trans e3).trans (Ex.new hb) q1 _ x1) (e3.trans (Ex.new hb) q2 _ x2) (Ex.new hb q3 _ x3)⟩
end
/-- kinds that were found, o the list, p the pot -/
def Fnd (H : Hp) (p o : Addr) (ks : List (List Nat)) : Prop := ∃ ps : List Addr, H o = some (.lst (ps.map V.ref)) ∧ ps.length = ks.length ∧ ∀ (i : Nat) x k, ps[i]? = some x → ks[i]? = some k → H x = some (.lst (vN k)) ∧ x ≠ p ∧ x ≠ o
theorem Fnd.step {H H' : Hp} {p o : Addr} {ks : List (List Nat)} (ne : o ≠ p) (e : Ex (hide p H) H') (h : Fnd H p o ks) : Fnd H' p o ks := by
  obtain ⟨ps, h1, h2, h3⟩ := h
  exact ⟨ps, hide_keep h1 ne e, h2, fun i x k hx hk => ⟨hide_keep (h3 i x k hx hk).1 (h3 i x k hx hk).2.1 e, (h3 i x k hx hk).2⟩⟩
theorem Fnd.add {H : Hp} {p o x : Addr} {ks : List (List Nat)} {k : List Nat} {acc : List V} (h : Fnd H p o ks) (ha : H o = some (.lst acc)) (hx : H x = some (.lst (vN k))) (n1 : x ≠ p) (n2 : x ≠ o) : Fnd (upd H o (.lst (acc ++ [.ref x]))) p o (ks ++ [k]) := by
  obtain ⟨ps, h1, h2, h3⟩ := h
  rw [h1] at ha
  cases ha
  refine ⟨ps ++ [x], by rw [upd_same, List.map_append]; rfl, by rw [List.length_append, List.length_append, h2]; rfl, fun i y k' hy hk' => ?_⟩
  rcases Nat.lt_or_ge i ps.length with c | c
  · rw [List.getElem?_append_left c] at hy
    rw [List.getElem?_append_left (h2 ▸ c)] at hk'
    obtain ⟨z1, z2, z3⟩ := h3 i y k' hy hk'
    exact ⟨by rw [upd_ne z3]; exact z1, z2, z3⟩
  · rw [List.getElem?_append_right c] at hy
    rw [List.getElem?_append_right (h2 ▸ c), ← h2] at hk'
    have h0 := (List.getElem?_eq_some_iff.mp hy).1
    rw [List.length_singleton] at h0
    have e0 : i - ps.length = 0 := by omega
    rw [e0] at hy hk'
    cases hy
    cases hk'
    exact ⟨by rw [upd_ne n2]; exact hx, n1, n2⟩
/-- kinds in a list -/
def KindsL (H : Hp) (a : Addr) (ks : List (List Nat)) : Prop := ∃ ps : List Addr, H a = some (.lst (ps.map V.ref)) ∧ ps.length = ks.length ∧ ∀ (i : Nat) p k, ps[i]? = some p → ks[i]? = some k → Tk H p (vN k)
theorem KindsL.mono {H H' : Hp} {a : Addr} {ks : List (List Nat)} (e : Ex H H') (h : KindsL H a ks) : KindsL H' a ks := by
  obtain ⟨ps, h1, h2, h3⟩ := h
  exact ⟨ps, e a _ h1, h2, fun i p k hp hk => (h3 i p k hp hk).mono e⟩
theorem KindsL.at {H : Hp} {a : Addr} {ks : List (List Nat)} (h : KindsL H a ks) : KindsAt H a ks := by
  obtain ⟨ps, h1, h2, h3⟩ := h
  exact ⟨ps, .inl h1, h2, h3⟩
theorem Fnd.kinds {H : Hp} {p o : Addr} {ks : List (List Nat)} (ne : o ≠ p) (h : Fnd H p o ks) : KindsL (hide p H) o ks := by
  obtain ⟨ps, h1, h2, h3⟩ := h
  exact ⟨ps, by rw [hide_ne ne]; exact h1, h2, fun i x k hx hk => .inl (by rw [hide_ne (h3 i x k hx hk).2.1]; exact (h3 i x k hx hk).1)⟩
theorem Fnd.acc {H : Hp} {p o : Addr} {ks : List (List Nat)} (h : Fnd H p o ks) : ∃ acc : List V, H o = some (.lst acc) ∧ acc.length = ks.length := by
  obtain ⟨ps, h1, h2, _⟩ := h
  exact ⟨_, h1, by rw [List.length_map, h2]⟩
def spKinds : Sp := fun vs H Q _ => ∃ (p : Addr) (n : Nat), vs = [.ref p, .int (n : Int), .int 4] ∧ PotAt H p ∧ 2 ≤ n ∧ n ≤ 8 ∧ ∀ a ks H', Ex (hide p H) H' → PotAt H' p → KindsL (hide p H') a ks → KindsOk n ks → ks.length ≤ 4 → Q (.ref a) H'
section
variable {P : Program} {w : World} {K : PySem.W.Frag} {mg : Str → Option Value} {base : Heap}
theorem ok_law_kinds (T : Txt K mg) : Cal P w K mg base "_law_kinds" p_law_kinds 3 spKinds := by
  refine cal_of T.d_law_kinds sc_law_kinds (fun _ _ _ _ _ _ us hl => match us, hl with | [_, _, _], _ => rfl) (fun vs H Q E h => ?_) (fun f cdv A outer s H vs Q E hr h => ?_)
  · obtain ⟨p, n, rfl, _⟩ := h
    rfl
  · obtain ⟨p, n, rfl, hp, hn2, hn, q⟩ := h
    refine ⟨_, pss_cons (ps_set (i := 3) sc_law_kinds.nd rfl (.inl rfl) (pe_lst pa_nil))
      (pss_cons (ps_for PassesOwn.never rfl (pi_range1 (by rfl) T.b_range (pa_cons (pe_cal (ok_law_draw T) (hr.mono (by decide)) (pa_cons (pv 0) (pa_cons (pe_op op_add (pv 2) pe_int) pa_nil))) pa_nil)) (pg_name (i := 4) sc_law_kinds.nd rfl (.inl rfl))
        (pss_cons (ps_set (i := 5) sc_law_kinds.nd rfl (.inl rfl) (pe_lst pa_nil))
        (pss_cons (ps_for PassesOwn.never rfl (pi_range1 (by rfl) T.b_range (pa_cons (pv 1) pa_nil)) (pg_name (i := 6) sc_law_kinds.nd rfl (.inl rfl))
          (pss_one (ps_if (pt_cmpR op_eq (pe_cal (ok_law_draw T) (hr.mono (by decide)) (pa_cons (pv 0) (pa_cons pe_int pa_nil))) pe_int (nomark _)) (pss_one (ps_set (i := 5) sc_law_kinds.nd rfl (.inl rfl) (pe_op op_cat (pe_lst (pa_cons (pv 6) pa_nil)) (pv 5)))) pss_nil)))
        (pss_one (ps_expr (pe_bm PySem.F.plainAttrs_list PySem.F.slot_list_append PySem.F.type_list_append mt_append (pv 3) (pa_cons (pe_ifExp (pt_cmpR (op_neD hr.units) (pv 5) (pe_lst pa_nil) (nomark _)) (pv 5)
          (pe_cal (ok_law_pick T) hr (pa_cons (pv 0) (pa_cons (pe_lst (pa_cons (pe_lst (pa_cons pe_int pa_nil)) (pa_cons (pe_lst (pa_cons (pe_op op_sub (pv 1) pe_int) pa_nil)) (pa_cons (pe_listRg rfl (by rfl) T.b_list (prg_1 (by rfl) T.b_range (pv 1))) pa_nil)))) pa_nil)))) pa_nil)))))))
      (pss_one (ps_ret (pv 3)))), ?_⟩
    have hGp : hide p H p = none := hide_self
    refine q_asgL el_nil fun o H1 ho e1 h1 => ?_
    have hp1 := hp.mono e1
    have no : o ≠ p := hp.ne ho
    refine q_rngDraw (s := 5) (ea_cons (ev_var rfl) (ea_cons (ev_is (ev_op (ev_var rfl) ev_c rv_I0) rfl) ea_nil)) hp1 (by decide) (by decide) fun d H2 hd e2 hp2 => ?_
    have g2 : Ex (hide p H) H2 := hide_step (hide_of e1) e2
    refine q_forR1 (n := (d : Int)) (ea_cons ev_c ea_nil) (by omega) (fun i σ' H' => ∃ y4 y5 y6 ks, σ' = [some (.ref p), some (.int (n : Int)), some (.int 4), some (.ref o), y4, y5, y6] ∧ Ex (hide p H) H' ∧ PotAt H' p ∧ Fnd H' p o ks ∧ KindsOk n ks ∧ ks.length = i)
      (fun H3 e3 => ⟨none, none, none, [], rfl, g2.trans e3, hp2.mono e3, ⟨[], e3 o _ (hide_keep h1 no e2), rfl, fun i x k hx => by simp at hx⟩, (fun k hk => absurd hk List.not_mem_nil), rfl⟩) ?_ ?_
    · rintro i σ' H' hi ⟨y4, y5, y6, ks, rfl, g, hp', hF, hok, hkl⟩
      refine q_asgL el_nil fun c0 H3 hc0 e3 h3 => ?_
      have nc0 : c0 ≠ p := hp'.ne hc0
      have nc1 : c0 ≠ o := fun z => by
        obtain ⟨acc, ha, _⟩ := hF.acc
        rw [z, ha] at hc0
        cases hc0
      have gc0 : hide p H c0 = none := fresh_back g hc0
      refine q_forR1 (n := (n : Int)) (ea_cons (ev_var rfl) ea_nil) (by omega) (fun j σ' H' => ∃ c k y6, σ' = [some (.ref p), some (.int (n : Int)), some (.int 4), some (.ref o), some (.int (i : Int)), some (.ref c), y6] ∧ Ex (hide p H) H' ∧ PotAt H' p ∧ Fnd H' p o ks ∧ H' c = some (.lst (vN k)) ∧ c ≠ p ∧ c ≠ o ∧ k.Nodup ∧ ∀ s ∈ k, s < j)
        (fun H4 e4 => ⟨c0, [], y6, rfl, (g.trans e3).trans e4, (hp'.mono e3).mono e4, hF.step no (hide_of (e3.trans e4)), e4 c0 _ h3, nc0, nc1, List.nodup_nil, fun s hs => absurd hs List.not_mem_nil⟩) ?_ ?_
      · rintro j σ2 H4 hj ⟨c, k, y6, rfl, g4, hp4, hF4, hc, n1, n2, hnd, hlt⟩
        refine s_ifDraw (s := 2) (ea_cons (ev_var rfl) (ea_cons ev_c ea_nil)) hp4 (by decide) (by decide) fun d H5 hd e5 hp5 => ?_
        have hc5 := hide_keep hc n1 e5
        refine s_when (et_test (ev_op ev_c ev_c rv_eqI)) (fun hb H6 e6 => ?_) fun hb H6 e6 => ?_
        · have hkl8 : k.length ≤ 8 := few 8 k hnd fun s hs => by
            have := hlt s hs
            omega
          refine s_asgL (xs := vN (j :: k)) (el_catV (xs := [V.int (j : Int)]) (ys := vN k) (el_lst (ea_cons (ev_var rfl) ea_nil) (by show 1 ≤ 100000; decide)) (ev_var rfl) (e6 c _ hc5) (by rw [vN_len]; show 1 + _ ≤ _; omega)) fun c' H7 hc' e7 h7 => ?_
          refine ⟨c', j :: k, _, rfl, ((hide_step g4 e5).trans e6).trans e7, (hp5.mono e6).mono e7, (hF4.step no e5).step no (hide_of (e6.trans e7)), h7, (hp5.mono e6).ne hc', fun z => ?_, List.nodup_cons.mpr ⟨fun hm => by have := hlt j hm; omega, hnd⟩, fun s hs => ?_⟩
          · obtain ⟨acc, ha, _⟩ := ((hF4.step no e5).step no (hide_of e6)).acc
            rw [z, ha] at hc'
            cases hc'
          · rcases List.mem_cons.mp hs with z | z
            · omega
            · have := hlt s z; omega
        · exact ⟨c, k, _, rfl, (hide_step g4 e5).trans e6, hp5.mono e6, (hF4.step no e5).step no (hide_of e6), e6 c _ hc5, n1, n2, hnd, fun s hs => by have := hlt s hs; omega⟩
      · rintro σ2 H4 ⟨c, k, y6, rfl, g4, hp4, hF4, hc, n1, n2, hnd, hlt⟩
        rw [Int.toNat_natCast] at hlt
        obtain ⟨acc, ha, hal⟩ := hF4.acc
        -- what is appended
        have fin : ∀ (x : Addr) (k' : List Nat) H', Ex (hide p H4) H' → PotAt H' p → H' x = some (.lst (vN k')) → x ≠ p → x ≠ o → k' ≠ [] → k'.Nodup → (∀ s ∈ k', s < n) →
            H' o = some (.lst acc) ∧ Ex (hide p H) (upd H' o (.lst (acc ++ [V.ref x]))) ∧ PotAt (upd H' o (.lst (acc ++ [V.ref x]))) p ∧ Fnd (upd H' o (.lst (acc ++ [V.ref x]))) p o (ks ++ [k']) ∧ KindsOk n (ks ++ [k']) ∧ (ks ++ [k']).length = i + 1 := by
          intro x k' H' e' hp' hx m1 m2 m3 m4 m5
          have ha' := hide_keep ha no e'
          refine ⟨ha', Ex.mut (hide_step g4 e') (hide_none ho), ?_, (hF4.step no e').add ha' hx m1 m2, fun k2 hk2 => ?_, by rw [List.length_append, hkl]; rfl⟩
          · obtain ⟨c1, c2, hc1, hc2⟩ := hp'
            exact ⟨c1, c2, by rw [upd_ne no.symm]; exact hc1, hc2⟩
          · rcases List.mem_append.mp hk2 with z | z
            · exact hok k2 z
            · rw [List.mem_singleton.mp z]
              exact ⟨m3, m4, m5⟩
        have het : EvT (tTest (tOp (rNeD K) (tVar 5) (tLst tNil))) [some (.ref p), some (.int (n : Int)), some (.int 4), some (.ref o), some (.int (i : Int)), some (.ref c), y6] H4 (!decide (k = [])) :=
          et_test (ev_is (ev_opL (ev_var rfl) el_nil fun p1 H1 h1 e1 => rv_neL (ns := iN k) (ms := []) (.of (e1 c _ hc)) (.of h1)) (by rw [iN_nil]))
        refine ⟨_, rfl, Or.inl ⟨rfl, _, sq_of ha⟩, ?_⟩
        refine het H4 (Ex.refl H4) _ fun H5 e5 => ?_
        by_cases hke : k = []
        · rw [decide_eq_true hke]
          refine ⟨_, rfl, ?_⟩
          refine go_three (k1 := [0]) (k2 := [n - 1]) (k3 := List.range n) (σ := [some (.ref p), some (.int (n : Int)), some (.int 4), some (.ref o), some (.int (i : Int)), some (.ref c), y6]) (el_lst (ea_cons ev_c ea_nil) (by show 1 ≤ 100000; decide))
            (el_lst (vs := [V.int ((n - 1 : Nat) : Int)]) (ea_cons (ev_is (ev_op (ev_var rfl) ev_c rv_I0) (congrArg V.int (by omega))) ea_nil) (by show 1 ≤ 100000; decide)) (el_rg (ev_var rfl) (by omega)) fun b q1 q2 q3 H6 hb z1 z2 z3 e6 xb x1 x2 x3 => ?_
          have hp6 := (hp4.mono e5).mono e6
          refine ⟨p, b, _, rfl, hp6, .inl xb, (hp4.mono e5).ne hb, List.cons_ne_nil _ _, (by show 3 ≤ 1000; decide), fun v H7 hv e7 hp7 => ?_⟩
          have e47 : Ex (hide p H4) H7 := hide_step (hide_of (e5.trans e6)) e7
          obtain ⟨x, k', rfl, hx, hxk, m3, m4, m5⟩ : ∃ (x : Addr) (k' : List Nat), v = .ref x ∧ H5 x = none ∧ H6 x = some (.lst (vN k')) ∧ k' ≠ [] ∧ k'.Nodup ∧ ∀ s ∈ k', s < n := by
            rcases List.mem_cons.mp hv with z | hv
            · exact ⟨q1, [0], z, z1, x1, List.cons_ne_nil _ _, by decide, fun s hs => by rw [List.mem_singleton.mp hs]; omega⟩
            · rcases List.mem_cons.mp hv with z | hv
              · exact ⟨q2, [n - 1], z, z2, x2, List.cons_ne_nil _ _, List.nodup_cons.mpr ⟨List.not_mem_nil, List.nodup_nil⟩, fun s hs => by rw [List.mem_singleton.mp hs]; omega⟩
              · exact ⟨q3, List.range n, List.mem_singleton.mp hv, z3, x3, (fun z => by have := congrArg List.length z; rw [List.length_range] at this; simp at this; omega), List.nodup_range, fun s hs => List.mem_range.mp hs⟩
          have nx : x ≠ p := (hp4.mono e5).ne hx
          have nxo : x ≠ o := fun z => by rw [z, e5 o _ ha] at hx; cases hx
          obtain ⟨r1, r2, r3, r4, r5, r6⟩ := fin x k' H7 e47 hp7 (hide_keep hxk nx e7) nx nxo m3 m4 m5
          exact ⟨o, acc, .ref x, rfl, rfl, r1, sz_lt (by omega), _, _, _, _, rfl, r2, r3, r4, r5, r6⟩
        · rw [decide_eq_false hke]
          obtain ⟨r1, r2, r3, r4, r5, r6⟩ := fin c k H5 (hide_of e5) (hp4.mono e5) (e5 c _ hc) n1 n2 hke hnd hlt
          exact ⟨_, rfl, o, acc, .ref c, rfl, rfl, r1, sz_lt (by omega), _, _, _, _, rfl, r2, r3, r4, r5, r6⟩
    · rintro σ' H' ⟨y4, y5, y6, ks, rfl, g, hp', hF, hok, hkl⟩
      rw [Int.toNat_natCast] at hkl
      exact s_ret (ev_var rfl) fun H3 e3 => q o ks H3 (g.trans e3) (hp'.mono e3) ((hF.step no (hide_of e3)).kinds no) hok (by omega)
end
end K61

/-! the law's walk -/
namespace K61
open PySem PySem.Spec PyProof.Rows L2 Evl

section
variable {K : PySem.W.Frag} {σ : L2.St} {H : Hp} {ta tb te : TE}
theorem q_asgPick {p a : Addr} {xs : List V} {i : Nat} {tz : TS} {D : Ends} (h1 : Ev ta σ H (.ref p)) (h2 : Ev tb σ H (.ref a)) (hp : PotAt H p) (ha : Tk H a xs) (ne : a ≠ p) (hx : xs ≠ []) (hl : xs.length ≤ 1000)
    (next : ∀ v H', v ∈ xs → Ex (hide p H) H' → PotAt H' p → tz D (σ.set i (some v)) H') : tSeq (tAsg (tCall spPick [] E0 (tCons ta (tCons tb tNil))) (gName i)) tz D σ H := go_pick h1 h2 hp ha ne hx hl next
theorem q_asgPickL {p : Addr} {xs : List V} {i : Nat} {tz : TS} {D : Ends} (h1 : Ev ta σ H (.ref p)) (h2 : EvL tb σ H xs) (hp : PotAt H p) (hx : xs ≠ []) (hl : xs.length ≤ 1000)
    (next : ∀ v H', v ∈ xs → Ex (hide p H) H' → PotAt H' p → tz D (σ.set i (some v)) H') : tSeq (tAsg (tCall spPick [] E0 (tCons ta (tCons tb tNil))) (gName i)) tz D σ H := go_pickL h1 h2 hp hx hl next
end
theorem vN_set (l : List Nat) (i x : Nat) : (vN l).set i (.int (x : Int)) = vN (l.set i x) := by
  unfold vN iN
  rw [List.map_set, List.map_set]
theorem vN_mem {l : List Nat} {v : V} (h : v ∈ vN l) : ∃ k ∈ l, v = .int (k : Int) := by
  unfold vN iN at h
  obtain ⟨i, hi, rfl⟩ := List.mem_map.mp h
  obtain ⟨k, hk, rfl⟩ := List.mem_map.mp hi
  exact ⟨k, hk, rfl⟩
theorem vN_ne {l : List Nat} (h : l ≠ []) : vN l ≠ [] := fun z => h (List.map_eq_nil_iff.mp (List.map_eq_nil_iff.mp z))
theorem vN_rep (n x : Nat) : List.replicate n (V.int (x : Int)) = vN (List.replicate n x) := by
  unfold vN iN
  rw [List.map_replicate, List.map_replicate]
def spWalk : Sp := fun vs H Q _ => ∃ (p a : Addr) (n m : Nat) (ks : List (List Nat)), vs = [.ref p, .ref a, .int (n : Int), .int (m : Int)] ∧ PotAt H p ∧ KindsL (hide p H) a ks ∧ KindsOk n ks ∧ ks.length ≤ 8 ∧ 2 ≤ n ∧ n ≤ 8 ∧ m ≤ 50 ∧
  ∀ o bd H', Ex (hide p H) H' → PotAt H' p → H o = none → o ≠ p → H' o = some (.lst (vN bd)) → bd.length = n → (∀ x ∈ bd, x ≤ m) → Looked ks bd → Q (.ref o) H'
section
variable {P : Program} {w : World} {K : PySem.W.Frag} {mg : Str → Option Value} {base : Heap}
theorem ok_law_walk (T : Txt K mg) : Cal P w K mg base "_law_walk" p_law_walk 3 spWalk := by
  refine cal_of T.d_law_walk sc_law_walk (fun _ _ _ _ _ _ us hl => match us, hl with | [_, _, _, _], _ => rfl) (fun vs H Q E h => ?_) (fun f cdv A outer s H vs Q E hr h => ?_)
  · obtain ⟨p, a, n, m, ks, rfl, _⟩ := h
    rfl
  · obtain ⟨p, a, n, m, ks, rfl, hp, hK, hok, hkl, hn2, hn, hm, q⟩ := h
    obtain ⟨ps, h1, h2, h3⟩ := id hK
    refine ⟨_, pss_cons (ps_set (i := 4) sc_law_walk.nd rfl (.inr rfl) (pe_op op_rep (pe_lst (pa_cons pe_int pa_nil)) (pv 2)))
      (pss_cons (ps_for PassesOwn.never rfl (pi_range1 (by rfl) T.b_range (pa_cons (pe_ifExp (pt_cmpR (op_neD hr.units) (pv 1) (pe_lst pa_nil) (nomark _)) (pv 3) pe_int) pa_nil)) (pg_name (i := 5) sc_law_walk.nd rfl (.inl rfl))
        (pss_cons (ps_set (i := 6) sc_law_walk.nd rfl (.inl rfl) (pe_cal (ok_law_pick T) hr (pa_cons (pv 0) (pa_cons (pv 1) pa_nil))))
        (pss_cons (ps_set (i := 7) sc_law_walk.nd rfl (.inr rfl) (pe_callB (cr_min rfl) (by rfl) T.b_min (by decide +kernel) (pa_cons (pe_lc (own := [("_law_shelf", 8)]) rfl sc_law_walk.nd (pi_seq (pv 6)) (blkOk_by (N := n_law_walk) (sc := defScope s_law_walk) (by decide +kernel))
            (fun _ _ _ _ _ => pg_name (i := 8) sc_law_walk.nd rfl (Or.inl rfl)) (fun _ _ _ _ _ => pts_nil) (fun _ _ _ _ _ => pe_ix (r := rIx K) ix_seq (pv 4) (pv 8) (fun _ _ => rfl))) pa_nil)))
        (pss_cons (ps_set (i := 8) sc_law_walk.nd rfl (.inl rfl) (pe_cal (ok_law_pick T) hr (pa_cons (pv 0) (pa_cons (pe_lc (own := [("_law_one", 9)]) rfl sc_law_walk.nd (pi_seq (pv 6)) (blkOk_by (N := n_law_walk) (sc := defScope s_law_walk) (by decide +kernel))
            (fun _ _ _ _ _ => pg_name (i := 9) sc_law_walk.nd rfl (Or.inl rfl)) (fun _ _ _ _ _ => pts_one (pt_cmpR op_eq (pe_ix (r := rIx K) ix_seq (pv 4) (pv 9) (fun _ _ => rfl)) (pv 7) (nomark _))) (fun _ _ _ _ _ => pv 9)) pa_nil))))
        (pss_one (ps_asg (pe_op op_add (pe_ix ix_seq (pv 4) (pv 8) (fun _ _ => rfl)) pe_int) (pg_sub (pv 4) (pv 8) set_list)))))))
      (pss_one (ps_ret (pv 4)))), ?_⟩
    refine q_asgL (el_rep (el_lst (ea_cons ev_c ea_nil) (by show 1 ≤ 100000; decide)) (fun H1 e => ev_var (v := .int (n : Int)) rfl) (by omega)) fun o H1 ho e1 h1o => ?_
    have no : o ≠ p := hp.ne ho
    have hz : List.replicate n (V.int 0) = vN (List.replicate n 0) := vN_rep n 0
    rw [hz] at h1o
    have hG : Ex (hide p H) H1 := hide_of e1
    have hseq : Seqs (hide p H) (ps.map V.ref) := KindsAt.seqs (a := a) h2 h3
    have hr0 : ∃ r : Nat, r ≤ m ∧ (0 < r → ks ≠ []) ∧ Ev (tIf (tTest (tOp (rNeD K) (tVar 1) (tLst tNil))) (tVar 3) (tC (.int 0))) [some (.ref p), some (.ref a), some (.int (n : Int)), some (.int (m : Int)), some (.ref o), none, none, none, none, none] H1 (.int (r : Int)) := by
      have het : EvT (tTest (tOp (rNeD K) (tVar 1) (tLst tNil))) [some (.ref p), some (.ref a), some (.int (n : Int)), some (.int (m : Int)), some (.ref o), none, none, none, none, none] H1 (!(ps.map V.ref).isEmpty) :=
        et_test (ev_opL (ev_var rfl) el_nil fun p1 H2 h1' e2 => rv_neE (.of (e2 a _ (hG a _ h1))) (hseq.mono (hG.trans e2)) (.of h1'))
      cases z : (ps.map V.ref).isEmpty with
      | true =>
        rw [z] at het
        exact ⟨0, Nat.zero_le _, fun c => absurd c (Nat.lt_irrefl 0), ev_if het (fun c => nomatch c) fun _ => ev_c⟩
      | false =>
        rw [z] at het
        refine ⟨m, Nat.le_refl _, fun _ c => ?_, ev_if het (fun _ => ev_var rfl) fun c => nomatch c⟩
        rw [c, List.length_nil] at h2
        rw [List.isEmpty_map, List.length_eq_zero_iff.mp h2] at z
        cases z
    obtain ⟨r, hrm, hrk, hrE⟩ := hr0
    refine q_forR1 (n := (r : Int)) (ea_cons hrE ea_nil) (by omega) (fun i σ' H' => ∃ y5 y6 y7 y8 bd, σ' = [some (.ref p), some (.ref a), some (.int (n : Int)), some (.int (m : Int)), some (.ref o), y5, y6, y7, y8, none] ∧ Ex (hide p H) H' ∧ PotAt H' p ∧ H' o = some (.lst (vN bd)) ∧ bd.length = n ∧ (∀ x ∈ bd, x ≤ i) ∧ Looked ks bd)
      (fun H2 e2 => ⟨none, none, none, none, _, rfl, hG.trans e2, (hp.mono e1).mono e2, e2 o _ h1o, List.length_replicate, fun x hx => by rw [List.eq_of_mem_replicate hx]; exact Nat.le_refl _, looked_zero ks n⟩) ?_ ?_
    · rintro i σ' H' hi ⟨y5, y6, y7, y8, bd, rfl, g, hp', hob, hlen, hle, hlk⟩
      have hne := hrk (by omega)
      have hneP : ps.map V.ref ≠ [] := fun z => hne (List.length_eq_zero_iff.mp (by rw [← h2, List.map_eq_nil_iff.mp z]; rfl))
      have nap : a ≠ p := hide_tk (.inl h1)
      refine q_asgPick (ev_var rfl) (ev_var rfl) hp' (.inl (g a _ h1)) nap hneP (by rw [List.length_map, h2]; omega) fun v H2 hv e2 hp2 => ?_
      obtain ⟨j, hj⟩ := List.mem_iff_getElem?.mp hv
      obtain ⟨x, k, hx, hk, rfl⟩ := kinds_get h2 hj
      have g2 := hide_step g e2
      have hxk := (h3 j x k hx hk).mono g2
      have nxp : x ≠ p := hide_tk (h3 j x k hx hk)
      have hkm := List.mem_of_getElem? hk
      obtain ⟨k1, k2, k3⟩ := hok k hkm
      have hk8 : k.length ≤ 8 := Nat.le_trans (few n k k2 k3) hn
      have hb2 : Tk H2 o (vN bd) := .inl (hide_keep hob no e2)
      obtain ⟨m0, hm0, hmin⟩ := min_of (l := k.map (at_ bd)) (fun z => k1 (List.map_eq_nil_iff.mp z))
      refine q_asg (ev_cbL (el_mapS (v := at_ bd) (ev_var rfl) hxk (by omega) (fun x => rfl) fun t ht => ev_at (ev_var rfl) hb2 (by have := k3 t ht; omega) (ev_var rfl)) fun p H1 e1 h1 => rc_min (.of h1) (mem_iN hm0) (iN_ge hmin)) fun H3 e3 => ?_
      have hpick : k.filter (fun t => decide (at_ bd t = m0)) ≠ [] := fun z => by
        obtain ⟨t, ht, et⟩ := List.mem_map.mp hm0
        have h4 : t ∈ k.filter (fun t => decide (at_ bd t = m0)) := List.mem_filter.mpr ⟨ht, decide_eq_true et⟩
        rw [z] at h4
        cases h4
      refine q_asgPickL (xs := vN (k.filter fun t => decide (at_ bd t = m0))) (ev_var rfl) (el_filS (g := fun t => decide (at_ bd t = m0)) (ev_var rfl) (hxk.mono e3) (by omega) (fun x => rfl)
        (fun t ht => et_test (ev_is (ev_op (ev_at (ev_var rfl) (hb2.mono e3) (by have := k3 t ht; omega) (ev_var rfl)) (ev_var rfl) rv_eqI) (congrArg V.bl (decide_eq_decide.mpr Int.ofNat_inj)))) fun t ht => ev_var rfl) (hp2.mono e3) (vN_ne hpick)
        (by rw [vN_len]; have := List.length_filter_le (fun t => decide (at_ bd t = m0)) k; omega) fun v H4 hv e4 hp4 => ?_
      obtain ⟨t, ht, rfl⟩ := vN_mem hv
      obtain ⟨ht1, ht2⟩ := List.mem_filter.mp ht
      have ht2 := of_decide_eq_true ht2
      have htn := k3 t ht1
      have hb4 : H4 o = some (.lst (vN bd)) := hide_keep (e3 o _ (hide_keep hob no e2)) no e4
      refine s_setL (j := t) hb4 (ev_op (ev_at (s := t) (ev_var rfl) (.inl hb4) (by omega) (ev_var rfl)) ev_c rv_I0) (ev_var rfl) (ev_var rfl) (by rw [vN_len]; omega) fun H5 e5 => ?_
      refine ⟨_, _, _, _, bd.set t (at_ bd t + 1), rfl, Ex.mut ((hide_step (g2.trans e3) e4).trans e5) (hide_none ho), ?_, ?_, by rw [List.length_set, hlen], fun z hz => ?_, looked_put hlk hkm ht1 (by omega) fun t' ht' => ?_⟩
      · obtain ⟨c1, c2, hc1, hc2⟩ := hp4.mono e5
        exact ⟨c1, c2, by rw [upd_ne no.symm]; exact hc1, hc2⟩
      · rw [upd_same, ← vN_set]
        rfl
      · rcases List.mem_or_eq_of_mem_set hz with z1 | z1
        · have := hle z z1; omega
        · have := hle _ (at_mem (show t < bd.length by omega)); omega
      · have h5 := hmin (at_ bd t') (List.mem_map.mpr ⟨t', ht', rfl⟩)
        omega
    · rintro σ' H' ⟨y5, y6, y7, y8, bd, rfl, g, hp', hob, hlen, hle, hlk⟩
      rw [Int.toNat_natCast] at hle
      exact s_ret (ev_var rfl) fun H2 e2 => q o bd H2 (g.trans e2) (hp'.mono e2) ho no (e2 o _ hob) hlen (fun x hx => Nat.le_trans (hle x hx) hrm) hlk
end
end K61

/-! one board asked in each way -/
namespace K61
open PySem PySem.Spec PyProof.Rows L2 Evl

section
variable {P : Program} {w : World} {K : PySem.W.Frag} {mg : Str → Option Value} {base : Heap}
/-- a def called by keywords -/
theorem kb_cal {name : Str} {st : Stmt} {ps ks : List Str} {k : Nat} {sp : Sp} {g : List Value → List Value → List Value} {gV : List V → List V → List V} (d : DefAt K mg name st) (c : Cal P w K mg base name ps k sp)
    (hto : ∀ (kV doc pm : Value) (an : Option Addr) (cdv ct : Value) (us ws : List Value), (g us ws).length = ps.length → bindArgs (PySem.W.fnOf name name (defArgs st) (defBody st) (defScope st) .none kV doc pm an cdv ct) ⟨us, ks.zip ws⟩ = pure (ps.zip (g us ws)))
    (hrel : ∀ {vs : List V} {us : List Value} {zs : List V} {ws : List Value}, Vals vs us → Vals zs ws → Vals (gV vs zs) (g us ws)) :
    ∃ f fd, FnOk P w K mg base CX0 k f fd ps sp ∧ mg name = some (.ref f) ∧ PySem.W.keepIn K (.ref f) = true ∧ KBinds K fd ps ks g gV := by
  obtain ⟨f, fd, F, hm, kp, _, oc, od, osl, lk⟩ := c
  obtain ⟨f', fd', F', hm'⟩ := d
  obtain ⟨oc', od', kV, doc, pm, an, cdv, ct, osl', e, lk', _⟩ := F'.ex
  rw [hm] at hm'
  cases hm'
  rw [lk] at lk'
  cases lk'
  subst e
  exact ⟨f, _, F, hm, kp, ⟨fun s us ws _ hl => .of_eq (hto kV doc pm an cdv ct us ws hl), hrel⟩⟩
/-- two keywords, the second parameter first -/
def swapped : List Value → List Value → List Value := fun us ws => match us, ws with
  | [], [b, s] => [s, b]
  | _, _ => []
def swappedV : List V → List V → List V := fun us ws => match us, ws with
  | [], [b, s] => [s, b]
  | _, _ => []
theorem swap_rel {vs : List V} {us : List Value} {zs : List V} {ws : List Value} (h1 : Vals vs us) (h2 : Vals zs ws) : Vals (swappedV vs zs) (swapped us ws) := by
  cases h1 with
  | cons _ _ => exact .nil
  | nil =>
    cases h2 with
    | nil => exact .nil
    | cons r1 t1 =>
      cases t1 with
      | nil => exact .nil
      | cons r2 t2 =>
        cases t2 with
        | nil => exact .cons r2 (.cons r1 .nil)
        | cons _ _ => exact .nil
end
def spBoardRight (C : Addr) : Sp := fun vs H Q _ => ∃ (p a b : Addr) (n : Nat) (D bd : List Nat) (ks : List (List Nat)), vs = [.ref p, .ref a, .ref b] ∧ Shop C H p n D ks ∧ KindsAt H a ks ∧ ks.length ≤ 8 ∧ H b = some (.lst (vN bd)) ∧ BoardOk n bd ∧ RetV (.bl true) H Q
section
variable {K : PySem.W.Frag} {σ : L2.St} {H : Hp} {ta tb : TE}
theorem rc_repr {g : List Code} {b : Addr} {bd : List Nat} {n : Nat} (h : H b = some (.lst (vN bd))) (hok : BoardOk n bd) (hne : bd ≠ []) (hn : n ≤ 8) : RC (rReprI g) [.ref b] H (.str (said g b (iN bd))) := fun H1 e Q q =>
  ⟨b, iN bd, rfl, e b _ h, fun z => hne (List.map_eq_nil_iff.mp z), by
    have := hok.1
    rw [List.length_map]
    omega, fun x hx => by
    obtain ⟨k, hk, rfl⟩ := List.mem_map.mp hx
    have := hok.2 k hk
    omega, q H1 (Ex.refl H1)⟩
theorem ev_call3L {sp : Sp} {E : XK} {tc : TE} {x y z : V} {ys : List V} (h1 : Ev ta σ H x) (h2 : EvL tb σ H ys) (h3 : ∀ H1, Ex H H1 → Ev tc σ H1 y) (hs : ∀ p H1, Ex H H1 → H1 p = some (.lst ys) → SpV sp [x, .ref p, y] H1 z) : Ev (tCall sp [] E (tCons ta (tCons tb (tCons tc tNil)))) σ H z := fun H1 e Q q =>
  h1 H1 e _ fun H2 e2 => h2 H2 (e.trans e2) _ fun p H3 _ e3 hp => h3 H3 ((e.trans e2).trans e3) H3 (Ex.refl H3) _ fun H4 e4 => hs p H4 (((e.trans e2).trans e3).trans e4) (e4 p _ hp) H4 (Ex.refl H4) Q (fun H5 e5 => q H5 (((e2.trans e3).trans e4).trans e5)) E
theorem ev_callK2U {sp : Sp} {E : XK} {x z : V} {ys : List V} (h1 : EvU ta σ H ys) (h2 : ∀ H1, Ex H H1 → Ev tb σ H1 x) (hs : ∀ p H1, Ex H H1 → H1 p = some (.tup ys) → SpV sp [x, .ref p] H1 z) : Ev (L2.tCallK sp swappedV E tNil (tCons ta (tCons tb tNil))) σ H z := fun H1 e Q q =>
  h1 H1 e _ fun p H2 _ e2 hp => h2 H2 (e.trans e2) H2 (Ex.refl H2) _ fun H3 e3 => hs p H3 ((e.trans e2).trans e3) (e3 p _ hp) H3 (Ex.refl H3) Q (fun H4 e4 => q H4 ((e2.trans e3).trans e4)) E
theorem eu_tupOf {a : Addr} {xs : List V} (h : Ev ta σ H (.ref a)) (ha : H a = some (.lst xs)) : EvU (tCB (rTupOf K) (tCons ta tNil)) σ H xs := fun H1 e Q q =>
  h H1 e _ fun H2 e2 => ⟨a, xs, rfl, .inl ⟨.of ((e.trans e2) a _ ha), fun l hl => q l _ (fresh_back e2 hl) (e2.trans (Ex.new hl)) upd_same⟩⟩
theorem q_par {tA : TA} {i j : Nat} {v w : V} {tz : TS} {D : Ends} (h : EvA tA σ H [v, w]) (k : ∀ H1, Ex H H1 → tz D ((σ.set i (some v)).set j (some w)) H1) : tSeq (tPar i j tA) tz D σ H := h H (Ex.refl H) _ fun H1 e => ⟨v, w, rfl, k H1 e⟩
theorem rv_neB {a b : Bool} : RV rNe (.bl a) (.bl b) H (.bl (!decide (a = b))) := fun H1 e Q q => by
  refine ⟨rfl, ?_⟩
  have h : decide (V.bl a = V.bl b) = decide (a = b) := decide_eq_decide.mpr ⟨fun z => V.bl.inj z, fun z => by rw [z]⟩
  rw [h]
  exact q H1 (Ex.refl H1)
end
section
variable {P : Program} {w : World} {K : PySem.W.Frag} {mg : Str → Option Value} {base : Heap} {C : Addr}
theorem ok_law_board_right (T : Txt K mg) (TC : TxtC K mg C) : Cal P w K mg base "_law_board_right" p_law_board_right 7 (spBoardRight C) := by
  refine cal_of T.d_law_board_right sc_law_board_right (fun _ _ _ _ _ _ us hl => match us, hl with | [_, _, _], _ => rfl) (fun vs H Q E h => ?_) (fun f cdv A outer s H vs Q E hr h => ?_)
  · obtain ⟨p, a, b, n, D, bd, ks, rfl, _⟩ := h
    rfl
  · obtain ⟨p, a, b, n, D, bd, ks, rfl, S, ha, hkl, hb, hok, q⟩ := h
    refine body_g fun g => ?_
    have hr6 := room_g (g := g) hr
    obtain ⟨fk, fdk, Fk, gk, kpk, hbk⟩ := kb_cal (g := swapped) (gV := swappedV) (ks := ["board", "store"]) T.d_can_come (ok_can_come (P := P) (w := w) (base := base) T TC) (fun _ _ _ _ _ _ us ws hl => match us, ws, hl with | [], [_, _], _ => rfl) swap_rel
    refine ⟨_, pss_cons (ps_par (i := 3) (j := 4) rfl sc_law_board_right.nd rfl rfl (by decide) rfl rfl (pa_cons (pe_cal (ok_law_is_due T) (hr6.mono (by decide)) (pa_cons (pv 1) (pa_cons (pv 2) pa_nil))) (pa_cons (pe_callB (cr_repr rfl hr6.units) (by rfl) T.b_repr (by decide +kernel) (pa_cons (pv 2) pa_nil)) pa_nil)) rfl)
      (pss_cons (ps_if (PW.pt (pw_or (pt_cmpR op_ne (pv 3) (pe_cal (ok_law_is_looked T) (hr6.mono (by decide)) (pa_cons (pv 1) (pa_cons (pv 2) pa_nil))) (nomark _)) (pw_or1 (pt_cmpR op_ne (pe_cal (ok_can_come T TC) (hr6.mono (by decide)) (pa_cons (pv 0) (pa_cons (pv 2) pa_nil))) (pv 3) (nomark _))))) (pss_one (ps_ret pe_bl)) pss_nil)
      (pss_cons (ps_if (pt_cmpR op_ne (pe_callK0 Fk (hr6.mono (by decide)) (by rfl) gk kpk hbk pass0 (pk_cons (pe_callTy call_tuple_of (by rfl) T.b_tuple (by decide +kernel) (pa_cons (pv 2) pa_nil)) (pk_cons (pv 0) pk_nil))) (pv 3) (nomark _)) (pss_one (ps_ret pe_bl)) pss_nil)
      (pss_one (ps_ret (pe_and (pe_cmpR op_eq (pe_cal (ok_comes T TC) hr6 (pa_cons (pv 0) (pa_cons (pe_op op_rep (pe_lst (pa_cons pe_int pa_nil)) (pe_callB call_len_seq (by rfl) T.b_len boot_len (pa_cons (pv 2) pa_nil))) (pa_cons (pv 2) pa_nil)))) (pv 3) (nomark _))
        (pe_one (pe_cmpR op_eq (pe_callB (cr_repr rfl hr6.units) (by rfl) T.b_repr (by decide +kernel) (pa_cons (pv 2) pa_nil)) (pv 4) (nomark _)))))))), ?_⟩
    have hne := len_ne hok S.lo
    have hbt : Tk H b (vN bd) := .inl hb
    refine q_par (ea_cons (ev_call (ea_cons (ev_var rfl) (ea_cons (ev_var rfl) ea_nil)) (sv_law_is_due ha hb S.kok hok S.lo S.hi hkl)) (ea_cons (ev_cb (ea_cons (ev_var rfl) ea_nil) (rc_repr hb hok hne S.hi)) ea_nil)) fun H1 e1 => ?_
    have hld : dB (Looked ks bd) = dB (Due ks bd) := dB_congr due_looked.symm
    refine q_when (b := false) (et_is (et_or (et_test (ev_op (ev_var rfl) (ev_call (ea_cons (ev_var rfl) (ea_cons (ev_var rfl) ea_nil)) (sv_law_is_looked (ha.mono e1) (e1 b _ hb) S.kok hok S.hi hkl)) rv_neB)) fun _ => et_test (ev_op (ev_call (ea_cons (ev_var rfl) (ea_cons (ev_var rfl) ea_nil)) (sv_can_come (S.mono e1) (hbt.mono e1) hok)) (ev_var rfl) rv_neB)) ?_) (fun z => nomatch z) fun _ H2 e2 => ?_
    · rw [hld, decide_eq_true rfl]
      rfl
    · have e12 := e1.trans e2
      refine q_when (b := false) (et_is (et_test (ev_op (ev_callK2U (eu_tupOf (ev_var rfl) (e12 b _ hb)) (fun H3 e3 => ev_var rfl) fun t H3 e3 h3 => sv_can_come (S.mono (e12.trans e3)) (.inr h3) hok) (ev_var rfl) rv_neB)) ?_) (fun z => nomatch z) fun _ H3 e3 => ?_
      · rw [decide_eq_true rfl]
        rfl
      · have e13 := e12.trans e3
        have hz : List.replicate n (V.int 0) = vN (List.replicate n 0) := vN_rep n 0
        refine s_ret (v := .bl true) (ev_is (ev_andV (ev_op (ev_call3L (ev_var rfl) (el_rep (n := n) (el_lst (ea_cons ev_c ea_nil) (by show 1 ≤ 100000; decide)) (fun H4 e4 => ev_is (ev_cb (ea_cons (ev_var rfl) ea_nil) (rc_len (hbt.mono (e13.trans e4)).sq)) (by rw [vN_len, hok.1])) (by have := S.hi; omega)) (fun H4 e4 => ev_var rfl)
          fun t H4 e4 h4 => sv_comes (S.mono (e13.trans e4)) (.inl (by rw [h4, hz])) (hbt.mono (e13.trans e4)) hok) (ev_var rfl) (rv_eq rfl)) fun _ => ev_op (ev_cb (ea_cons (ev_var rfl) ea_nil) (rc_repr (e13 b _ hb) hok hne S.hi)) (ev_var rfl) (rv_eq rfl)) ?_) fun H4 e4 => q H4 (e13.trans e4)
        rw [decide_eq_true rfl, decide_eq_true rfl]
        rfl
theorem sv_law_board_right {p a b : Addr} {n : Nat} {D bd : List Nat} {ks : List (List Nat)} {H : Hp} (S : Shop C H p n D ks) (ha : KindsAt H a ks) (hl : ks.length ≤ 8) (hb : H b = some (.lst (vN bd))) (hok : BoardOk n bd) : SpV (spBoardRight C) [.ref p, .ref a, .ref b] H (.bl true) :=
  fun H1 e Q q E => ⟨p, a, b, n, D, bd, ks, rfl, S.mono e, ha.mono e, hl, e b _ hb, hok, q⟩
end
end K61

/-! one pot's questions -/
namespace K61
open PySem PySem.Spec PyProof.Rows L2 Evl

section
variable {K : PySem.W.Frag} {σ : L2.St} {H : Hp} {t1 t2 t3 : TE}
theorem q_asgC {sp : Sp} {E : XK} {tA : TA} {vs : List V} {i : Nat} {tz : TS} {D : Ends} (h : EvA tA σ H vs) (k : ∀ H1, Ex H H1 → sp vs H1 (fun v H2 => tz D (σ.set i (some v)) H2) E) : tSeq (tAsg (tCall sp [] E tA) (gName i)) tz D σ H := h H (Ex.refl H) _ fun H1 e => by
  rw [List.append_nil]
  exact k H1 e
theorem q_asgWalk {tA : TA} {p : Addr} {s i : Nat} {v1 v2 v3 : V} {sp : Sp} {E : XK} {tz : TS} {D : Ends} (h1 : Ev t1 σ H v1) (h2 : Ev t2 σ H v2) (h3 : Ev t3 σ H v3) (hA : EvA tA σ H [.ref p, .int (s : Int)]) (hp : PotAt H p) (h0 : 0 < s) (hs : s ≤ 1000)
    (next : ∀ (d : Nat) H', d < s → Ex (hide p H) H' → PotAt H' p → sp [v1, v2, v3, .int (d : Int)] H' (fun v H2 => tz D (σ.set i (some v)) H2) E) :
    tSeq (tAsg (tCall sp [] E (tCons t1 (tCons t2 (tCons t3 (tCons (tCall spDraw [] E0 tA) tNil))))) (gName i)) tz D σ H :=
  h1 H (Ex.refl H) _ fun H1 e1 => h2 H1 e1 _ fun H2 e2 => h3 H2 (e1.trans e2) _ fun H3 e3 => go_draw (hA.mono ((e1.trans e2).trans e3)) (((hp.mono e1).mono e2).mono e3) h0 hs fun d H' hd e hp' =>
    next d H' hd ((hide_mono (hide_of ((e1.trans e2).trans e3))).trans e) hp'
theorem s_appDraw {tA : TA} {p l : Addr} {s : Nat} {xs : List V} {D : Ends} (hl : H l = some (.lst xs)) (ne : l ≠ p) (ha : Ev t1 σ H (.ref l)) (hA : EvA tA σ H [.ref p, .int (s : Int)]) (hp : PotAt H p) (h0 : 0 < s) (hs : s ≤ 1000) (hz : xs.length < 100000)
    (k : ∀ (d : Nat) H1, d < s → Ex (hide p H) H1 → PotAt H1 p → D.nx σ (upd H1 l (.lst (xs ++ [.int (d : Int)])))) : tDrop (tBM K "list" rAppend t1 (tCons (tCall spDraw [] E0 tA) tNil)) D σ H := ha H (Ex.refl H) _ fun H1 e1 =>
  ⟨Or.inl ⟨rfl, xs, sq_of (e1 l _ hl)⟩, go_draw (hA.mono e1) (hp.mono e1) h0 hs fun d H2 hd e2 hp2 => ⟨l, xs, .int (d : Int), rfl, rfl, hide_keep (e1 l _ hl) ne e2, sz_lt hz, k d H2 hd ((hide_mono (hide_of e1)).trans e2) hp2⟩⟩
/-- a, b = Store(..), [] -/
theorem upd_pot {p o : Addr} {u : HO} (h : PotAt H p) (ne : o ≠ p) : PotAt (upd H o u) p := by
  obtain ⟨c1, c2, hc1, hc2⟩ := h
  exact ⟨c1, c2, by rw [upd_ne ne.symm]; exact hc1, hc2⟩
end
theorem ex_hide {H Hn : Hp} {x : Addr} (e : Ex H Hn) (hx : H x = none) : Ex H (hide x Hn) := fun a o ha => by
  have ne : a ≠ x := fun z => by rw [z, hx] at ha; cases ha
  rw [hide_ne ne]
  exact e a o ha
theorem StoreAt.hide {C p x : Addr} {H : Hp} {n : Nat} {D : List Nat} (hp : PotAt H p) (h : StoreAt C H x n D) : StoreAt C (hide p H) x n D := by
  obtain ⟨dx, t, fs, h1, h2, h3, h4⟩ := h
  obtain ⟨c, m, hp, _⟩ := hp
  refine ⟨dx, t, fs, ?_, h2, h3, ?_⟩
  · rw [hide_ne fun z => by rw [z, hp] at h1; cases h1]
    exact h1
  · rw [hide_ne fun z => by rw [z, hp] at h4; cases h4]
    exact h4
section
variable {K : PySem.W.Frag} {σ : L2.St} {H : Hp} {t1 t2 t3 t4 t5 : TE}
theorem el_callK2U {sp : Sp} {E : XK} {x : V} {ys zs : List V} (h1 : EvU t1 σ H ys) (h2 : ∀ H1, Ex H H1 → Ev t2 σ H1 x) (hs : ∀ p H1, Ex H H1 → H1 p = some (.tup ys) → SpL sp [x, .ref p] H1 zs) : EvL (L2.tCallK sp swappedV E tNil (tCons t1 (tCons t2 tNil))) σ H zs := fun H1 e Q q =>
  h1 H1 e _ fun p H2 _ e2 hp => h2 H2 (e.trans e2) H2 (Ex.refl H2) _ fun H3 e3 => hs p H3 ((e.trans e2).trans e3) (e3 p _ hp) H3 (Ex.refl H3) Q (fun r H4 hr e4 h4 => q r H4 (fresh_back (e2.trans e3) hr) ((e2.trans e3).trans e4) h4) E
theorem sl_supported {C p a : Addr} {n : Nat} {D l : List Nat} {H : Hp} (S : StoreAt C H p n D) (ha : Tk H a (vN l)) (hl : LotOk n l) (hn : n ≤ 8) : SpL (spSupported C) [.ref p, .ref a] H (vN (spots (supOf D (bitsOf l)))) := fun H1 e Q q E => ⟨p, a, n, D, l, rfl, S.mono e, ha.mono e, hl, hn, q⟩
theorem q_store {C a : Addr} {n j1 j2 : Nat} {ks : List (List Nat)} {tz : TS} {Dn : Ends} (h1 : Ev t1 σ H (.int (n : Int))) (h2 : Ev t2 σ H (.ref a)) (hK : KindsAt H a ks) (hok : KindsOk n ks) (hkl : ks.length ≤ 8) (hn : 2 ≤ n ∧ n ≤ 8)
    (next : ∀ (x c : Addr) (D : List Nat) H', Ex H H' → StoreAt C H' x n D → Rep D ks → D.length ≤ 8 → H c = none → H' c = some (.lst []) → tz Dn ((σ.set j1 (some (.ref x))).set j2 (some (.ref c))) H') :
    tSeq (tAsg (tTup (tCons (tMake C (spInit C) [] E0 (tCons t1 (tCons t2 (tCons (tLst tNil) tNil)))) (tCons (tLst tNil) tNil))) (gPair K j1 j2)) tz Dn σ H :=
  h1 H (Ex.refl H) _ fun H1 e1 => h2 H1 e1 _ fun H2 e2 => el_nil H2 (Ex.refl H2) _ fun l H3 hl e3 hl3 => fun x dx hx hdx hne => by
    have e13 := (e1.trans e2).trans e3
    have en : Ex H3 (upd (upd H3 dx (.own x)) x (.ins C dx [])) := (Ex.new hdx).trans (Ex.new (by rw [upd_ne hne.symm]; exact hx))
    refine ⟨x, dx, a, l, n, ks, rfl, upd_same, hK.mono (e13.trans en), ⟨[], .inl (en l _ hl3), rfl, fun i p k hp => by simp at hp⟩, hok, hkl, hn, fun D H4 g4 hS hR hD => ⟨rfl, ?_⟩⟩
    have e34 : Ex H3 H4 := (ex_hide en hx).trans g4
    refine el_nil (σ := σ) H4 (Ex.refl H4) _ fun c H5 hc e5 hc5 => ⟨by show 2 ≤ sizeLine; decide, fun t ht => ?_⟩
    exact g_pair upd_same (next x c D _ (((e13.trans e34).trans e5).trans (Ex.new ht)) (hS.mono (e5.trans (Ex.new ht))) hR hD (fresh_back (e13.trans e34) hc) (Ex.new ht c _ hc5))
theorem q_changed {p : Addr} {bd : List Nat} {i b : Nat} {tz : TS} {D : Ends} (s1 : EvL t1 σ H (vN (bd.take i))) (s2 : Ev t2 σ H (.int (b : Int))) (s3 : Ev t3 σ H (.ref p)) (s4 : EvL t4 σ H [.int 1, .int 2, .int (-1), .int (-2)]) (hp : PotAt H p) (hb : bd.length ≤ 8)
    (s5 : ∀ H', Ex (hide p H) H' → EvL t5 σ H' (vN (bd.drop (i + 1))))
    (next : ∀ (c : Nat) (q : Addr) H', c ≤ b + 2 → Ex (hide p H) H' → PotAt H' p → H' q = some (.lst (vN (bd.take i ++ [c] ++ bd.drop (i + 1)))) → q ≠ p → tz D (σ.set 10 (some (.ref q))) H') :
    tSeq (tAsg (tOp rCat (tOp rCat t1 (tLst (tCons (tCB rMax2 (tCons (tC (.int 0)) (tCons (tOp (rI0 fun i j => .int (i + j)) t2 (tCall spPick [] E0 (tCons t3 (tCons t4 tNil)))) tNil))) tNil))) t5) (gName 10)) tz D σ H :=
  s1 H (Ex.refl H) _ fun q1 H1 hq1 e1 x1 => s2 H1 e1 _ fun H2 e2 => go_pickL (s3.mono (e1.trans e2)) (s4.mono (e1.trans e2)) (hp.mono (e1.trans e2)) (List.cons_ne_nil _ _) (by show 4 ≤ 1000; decide) fun v H3 hv g3 hp3 => by
    obtain ⟨d, rfl, hd⟩ : ∃ d : Int, v = .int d ∧ d ≤ 2 := by
      simp only [List.mem_cons, List.not_mem_nil, or_false] at hv
      rcases hv with h | h | h | h
      · exact ⟨1, h, by decide⟩
      · exact ⟨2, h, by decide⟩
      · exact ⟨-1, h, by decide⟩
      · exact ⟨-2, h, by decide⟩
    have g03 : Ex (hide p H) H3 := hide_step (hide_of (e1.trans e2)) g3
    have n1 : q1 ≠ p := hp.ne hq1
    have x13 := hide_keep (e2 q1 _ x1) n1 g3
    obtain ⟨c, hc⟩ := int_nat (show (0 : Int) ≤ if (b : Int) + d > 0 then (b : Int) + d else 0 by split <;> omega)
    have hcb : c ≤ b + 2 := by
      by_cases z : (b : Int) + d > 0
      · rw [if_pos z] at hc; omega
      · rw [if_neg z] at hc; omega
    have htl := List.length_take_le i bd
    refine ⟨(b : Int), d, rfl, rfl, 0, (b : Int) + d, rfl, by show 1 ≤ sizeLine; decide, fun q2 hq2 => ?_⟩
    have x2 : (upd H3 q2 (.lst [.int (if (b : Int) + d > 0 then (b : Int) + d else 0)])) q2 = some (.lst (vN [c])) := by rw [upd_same, hc]; rfl
    refine ⟨q1, q2, vN (bd.take i), vN [c], rfl, rfl, Ex.new hq2 q1 _ x13, x2, by rw [vN_len, vN_len]; show _ + 1 ≤ _; exact sz_of (by have := List.length_take_le' i bd; omega), fun q3 hq3 => ?_⟩
    have e34 : Ex H3 _ := (Ex.new hq2 (o := .lst [.int (if (b : Int) + d > 0 then (b : Int) + d else 0)])).trans (Ex.new hq3 (o := .lst (vN (bd.take i) ++ vN [c])))
    refine s5 _ (g03.trans e34) _ (Ex.refl _) _ fun q4 H5 hq4 e5 x5 => ?_
    have x3 := e5 q3 _ (upd_same (H := upd H3 q2 (.lst [.int (if (b : Int) + d > 0 then (b : Int) + d else 0)])) (a := q3) (o := .lst (vN (bd.take i) ++ vN [c])))
    refine ⟨q3, q4, _, _, rfl, rfl, x3, x5, ?_, fun q5 hq5 => ?_⟩
    · rw [List.length_append, vN_len, vN_len, vN_len]
      have h1 := List.length_take_le' i bd
      have h2 : (bd.drop (i + 1)).length ≤ bd.length := by rw [List.length_drop]; omega
      show _ + 1 + _ ≤ _
      exact sz_of (by omega)
    · have hp5 := (hp3.mono e34).mono e5
      refine next c q5 _ hcb ((g03.trans (e34.trans e5)).trans (Ex.new hq5)) (hp5.mono (Ex.new hq5)) ?_ (hp5.ne hq5)
      rw [upd_same]
      refine congrArg (fun l => some (HO.lst l)) ?_
      unfold vN iN
      rw [List.map_append, List.map_append, List.map_append, List.map_append]
end
theorem cut_to (l : List V) (i : Nat) : cutV l none (some (i : Int)) = l.take i := by
  unfold cutV
  rw [HT.sIx_none, HT.sIx_nat, List.drop_zero, Nat.sub_zero]
  rcases Nat.lt_or_ge i l.length with c | c
  · rw [Nat.min_eq_left (by omega)]
  · rw [Nat.min_eq_right c, List.take_of_length_le (Nat.le_refl _), List.take_of_length_le c]
theorem cut_from (l : List V) (i : Nat) : cutV l (some (i : Int)) none = l.drop i := by
  unfold cutV
  rw [HT.sIx_none, HT.sIx_nat]
  rcases Nat.lt_or_ge i l.length with c | c
  · rw [Nat.min_eq_left (by omega), List.take_of_length_le (by rw [List.length_drop]; omega)]
  · rw [Nat.min_eq_right c, List.drop_of_length_le (Nat.le_refl _), List.drop_of_length_le c, List.take_nil]
/-- spots below n -/
theorem range_small : ∀ n, n ≤ 8 → (List.range 8).filter (fun i => decide (i < n)) = List.range n := by decide
theorem spots_below {n b : Nat} {f : Nat → Bool} (hn : n ≤ 8) (h : ∀ i, b.testBit i = true ↔ i < n ∧ f i = true) : spots b = (List.range n).filter f := by
  rw [← range_small n hn, List.filter_filter]
  unfold spots
  refine List.filter_congr fun i _ => Bool.eq_iff_iff.mpr ?_
  rw [h i, Bool.and_eq_true, decide_eq_true_eq]
  exact ⟨fun z => ⟨z.2, z.1⟩, fun z => ⟨z.2, z.1⟩⟩
def spRight : Sp := fun vs H Q _ => ∃ p, vs = [.ref p] ∧ PotAt H p ∧ RetV (.bl true) (hide p H) Q
section
variable {P : Program} {w : World} {K : PySem.W.Frag} {mg : Str → Option Value} {base : Heap} {C : Addr}
theorem ok_law_right (T : Txt K mg) (TC : TxtC K mg C) : Cal P w K mg base "_law_right" p_law_right 8 spRight := by
  refine cal_of T.d_law_right sc_law_right (fun _ _ _ _ _ _ us hl => match us, hl with | [_], _ => rfl) (fun vs H Q E h => ?_) (fun f cdv A outer s H vs Q E hr h => ?_)
  · obtain ⟨p, rfl, _⟩ := h
    rfl
  · obtain ⟨p, rfl, hp, q⟩ := h
    obtain ⟨fi, fdi, Fi, mk⟩ := TC.init
    have GI := ok_init (P := P) (w := w) (base := base) T TC Fi
    have bI : Binds K fdi p_init [] := Fi.binds fun _ _ _ _ _ _ us hl => match us, hl with | [_, _, _, _], _ => rfl
    obtain ⟨fk, fdk, Fk, gk, kpk, hbk⟩ := kb_cal (g := swapped) (gV := swappedV) (ks := ["lot", "store"]) T.d_supported (ok_supported (P := P) (w := w) (base := base) T TC) (fun _ _ _ _ _ _ us ws hl => match us, ws, hl with | [], [_, _], _ => rfl) swap_rel
    refine ⟨_, pss_cons (ps_set (i := 1) sc_law_right.nd rfl (.inl rfl) (pe_cal (ok_law_pick T) (hr.mono (by decide)) (pa_cons (pv 0) (pa_cons (pe_lst (pa_cons pe_int (pa_cons pe_int (pa_cons pe_int (pa_cons pe_int (pa_cons pe_int (pa_cons pe_int pa_nil))))))) pa_nil))))
      (pss_cons (ps_set (i := 2) sc_law_right.nd rfl (.inl rfl) (pe_cal (ok_law_kinds T) (hr.mono (by decide)) (pa_cons (pv 0) (pa_cons (pv 1) (pa_cons pe_int pa_nil)))))
      (pss_cons (ps_asg (pe_tup (pa_cons (pe_make mk GI hr (by rfl) TC.mgC bI .nil pass0 (pa_cons (pv 1) (pa_cons (pv 2) (pa_cons (pe_lst pa_nil) pa_nil)))) (pa_cons (pe_lst pa_nil) pa_nil))) (pg_pair (j1 := 3) (j2 := 4) rfl sc_law_right.nd rfl rfl (.inl rfl) (.inr rfl) (by first | exact Or.inl rfl | exact Or.inr rfl) (by first | exact Or.inl rfl | exact Or.inr rfl)))
      (pss_cons (ps_set (i := 5) sc_law_right.nd rfl (.inl rfl) (pe_cal (ok_law_walk T) (hr.mono (by decide)) (pa_cons (pv 0) (pa_cons (pv 2) (pa_cons (pv 1) (pa_cons (pe_cal (ok_law_draw T) (hr.mono (by decide)) (pa_cons (pv 0) (pa_cons pe_int pa_nil))) pa_nil))))))
      (pss_cons (ps_for PassesOwn.never rfl (pi_range1 (by rfl) T.b_range (pa_cons (pv 1) pa_nil)) (pg_name (i := 6) sc_law_right.nd rfl (.inl rfl))
          (pss_one (ps_if (pt_cmpR op_gt (pe_cal (ok_law_draw T) (hr.mono (by decide)) (pa_cons (pv 0) (pa_cons pe_int pa_nil))) pe_int (nomark _)) (pss_one (ps_set (i := 4) sc_law_right.nd rfl (.inr rfl) (pe_op op_cat (pe_lst (pa_cons (pv 6) pa_nil)) (pv 4)))) pss_nil)))
      (pss_cons (ps_set (i := 7) sc_law_right.nd rfl (.inl rfl) (pe_cal (ok_law_up T) (hr.mono (by decide)) (pa_cons (pv 2) (pa_cons (pe_lc (own := [("_law_shelf", 6)]) rfl sc_law_right.nd (pi_range1 (by rfl) T.b_range (pa_cons (pv 1) pa_nil)) (blkOk_by (N := n_law_right) (sc := defScope s_law_right) (by decide +kernel))
            (fun _ _ _ _ _ => pg_name (i := 6) sc_law_right.nd rfl (Or.inl rfl)) (fun _ _ _ _ _ => pts_nil) (fun _ _ _ _ _ => pe_cmpR (r := rIn K false) op_in_seq (pv 6) (pv 4) (by rfl))) pa_nil))))
      (pss_cons (ps_setLc (i := 8) (g := gPair K 6 12) (own := [("_law_shelf", 6), ("_law_one", 12)]) rfl sc_law_right.nd rfl rfl rfl (pi_enumS (by rfl) T.b_enumerate (pa_cons (pv 7) pa_nil)) (blkOk_by (N := n_law_right) (sc := defScope s_law_right) (by decide +kernel))
            (fun _ _ _ _ _ => pg_pair (j1 := 6) (j2 := 12) rfl sc_law_right.nd rfl rfl (Or.inl rfl) (Or.inl rfl) (by first | exact Or.inl rfl | exact Or.inr rfl) (by first | exact Or.inl rfl | exact Or.inr rfl)) (fun _ _ _ _ _ => pts_one (pt_val (pv 12))) (fun _ _ _ _ _ => pv 6))
      (pss_cons (ps_if (PW.pt (pw_or (pt_cmpR (op_neD hr.units) (pe_cal (ok_supported T TC) (hr.mono (by decide)) (pa_cons (pv 3) (pa_cons (pv 4) pa_nil))) (pv 8) (nomark _))
            (pw_or1 (pt_cmpR (op_neD hr.units) (pe_callK0 Fk (hr.mono (by decide)) (by rfl) gk kpk hbk pass0 (pk_cons (pe_callTy call_tuple_of (by rfl) T.b_tuple (by decide +kernel) (pa_cons (pv 4) pa_nil)) (pk_cons (pv 3) pk_nil))) (pv 8) (nomark _))))) (pss_one (ps_ret pe_bl)) pss_nil)
      (pss_cons (ps_if (PW.pt (pw_or (pt_not (pt_val (pe_cal (ok_law_is_due T) (hr.mono (by decide)) (pa_cons (pv 2) (pa_cons (pv 5) pa_nil))))) (pw_or1 (pt_not (pt_val (pe_cal (ok_law_board_right T TC) hr (pa_cons (pv 3) (pa_cons (pv 2) (pa_cons (pv 5) pa_nil))))))))) (pss_one (ps_ret pe_bl)) pss_nil)
      (pss_cons (ps_set (i := 9) sc_law_right.nd rfl (.inl rfl) (pe_cal (ok_law_draw T) (hr.mono (by decide)) (pa_cons (pv 0) (pa_cons (pv 1) pa_nil))))
      (pss_cons (ps_set (i := 10) sc_law_right.nd rfl (.inl rfl) (pe_op op_cat (pe_op op_cat (pe_slice sl_list (pv 5) po_none (po_some (pv 9))) (pe_lst (pa_cons (pe_callB (call_max2 rfl) (by rfl) T.b_max (by decide +kernel) (pa_cons pe_int (pa_cons (pe_op op_add (pe_ix ix_seq (pv 5) (pv 9) (fun _ _ => rfl))
            (pe_cal (ok_law_pick T) (hr.mono (by decide)) (pa_cons (pv 0) (pa_cons (pe_lst (pa_cons pe_int (pa_cons pe_int (pa_cons (pe_un un_neg pe_int) (pa_cons (pe_un un_neg pe_int) pa_nil))))) pa_nil)))) pa_nil))) pa_nil))) (pe_slice sl_list (pv 5) (po_some (pe_op op_add (pv 9) pe_int)) po_none)))
      (pss_cons (ps_if (pt_not (pt_val (pe_cal (ok_law_board_right T TC) hr (pa_cons (pv 3) (pa_cons (pv 2) (pa_cons (pv 10) pa_nil)))))) (pss_one (ps_ret pe_bl)) pss_nil)
      (pss_cons (ps_set (i := 11) sc_law_right.nd rfl (.inl rfl) (pe_lst pa_nil))
      (pss_cons (ps_for PassesOwn.never rfl (pi_range1 (by rfl) T.b_range (pa_cons (pv 1) pa_nil)) (pg_name (i := 6) sc_law_right.nd rfl (.inl rfl))
          (pss_one (ps_expr (pe_bm PySem.F.plainAttrs_list PySem.F.slot_list_append PySem.F.type_list_append mt_append (pv 11) (pa_cons (pe_cal (ok_law_draw T) (hr.mono (by decide)) (pa_cons (pv 0) (pa_cons pe_int pa_nil))) pa_nil)))))
      (pss_one (ps_ret (pe_cal (ok_law_board_right T TC) hr (pa_cons (pv 3) (pa_cons (pv 2) (pa_cons (pv 11) pa_nil))))))))))))))))))), ?_⟩
    -- the shelves
    refine q_asgPickL (xs := [.int 2, .int 3, .int 3, .int 4, .int 5, .int 6]) (ev_var rfl) (el_lst (ea_cons ev_c (ea_cons ev_c (ea_cons ev_c (ea_cons ev_c (ea_cons ev_c (ea_cons ev_c ea_nil)))))) (by show 6 ≤ 100000; decide)) hp (List.cons_ne_nil _ _) (by show 6 ≤ 1000; decide) fun v H1 hv g1 hp1 => ?_
    obtain ⟨n, rfl, hn2, hn6⟩ : ∃ n : Nat, v = .int (n : Int) ∧ 2 ≤ n ∧ n ≤ 6 := by
      simp only [List.mem_cons, List.not_mem_nil, or_false] at hv
      rcases hv with h | h | h | h | h | h
      · exact ⟨2, h, by decide, by decide⟩
      · exact ⟨3, h, by decide, by decide⟩
      · exact ⟨3, h, by decide, by decide⟩
      · exact ⟨4, h, by decide, by decide⟩
      · exact ⟨5, h, by decide, by decide⟩
      · exact ⟨6, h, by decide, by decide⟩
    have hn8 : n ≤ 8 := Nat.le_trans hn6 (by decide)
    -- the kinds
    refine q_asgC (ea_cons (ev_var rfl) (ea_cons (ev_var rfl) (ea_cons ev_c ea_nil))) fun H2 e2 => ⟨p, n, rfl, hp1.mono e2, hn2, hn8, fun a ks H3 g3 hp3 hK3 hok hkl4 => ?_⟩
    have gH3 : Ex (hide p H) H3 := hide_step (g1.trans e2) g3
    have hkl : ks.length ≤ 8 := Nat.le_trans hkl4 (by decide)
    -- the store, the empty lot
    refine q_store (a := a) (n := n) (ks := ks) (ev_var rfl) (ev_var rfl) (hK3.at.mono hide_ex) hok hkl ⟨hn2, hn8⟩ fun x c0 D H4 e4 hS4 hR hDl hc0 hc04 => ?_
    have hp4 := hp3.mono e4
    have nc0 : c0 ≠ p := hp3.ne hc0
    -- the walk
    refine q_asgWalk (s := 13) (ev_var rfl) (ev_var rfl) (ev_var rfl) (ea_cons (ev_var rfl) (ea_cons ev_c ea_nil)) hp4 (by decide) (by decide) fun m H5 hm g5 hp5 => ?_
    have hK5 : KindsL (hide p H5) a ks := hK3.mono (hide_mono (hide_step (hide_of e4) g5))
    refine ⟨p, a, n, m, ks, rfl, hp5, hK5, hok, hkl, hn2, hn8, by omega, fun o bd H6 g6 hp6 ho no hob hlen hle hlk => ?_⟩
    have g46 : Ex (hide p H4) H6 := hide_step g5 g6
    have hK : KindsL (hide p H6) a ks := hK5.mono (hide_mono g6)
    have hSt : StoreAt C (hide p H6) x n D := (hS4.hide hp4).mono (hide_mono g46)
    have hShop : Shop C (hide p H6) x n D ks := ⟨hSt, hR, hDl, hok, hn2, hn8⟩
    have hoB : hide p H6 o = some (.lst (vN bd)) := by rw [hide_ne no]; exact hob
    have gHB : Ex (hide p H) (hide p H6) := hide_mono (hide_step (gH3.trans e4) g46)
    have hbok : BoardOk n bd := ⟨hlen, fun y hy => by have := hle y hy; omega⟩
    have hdue : Due ks bd := due_looked.mpr hlk
    -- the lot
    refine q_forR1 (n := (n : Int)) (ea_cons (ev_var rfl) ea_nil) (by omega) (fun i σ' H' => ∃ (c : Addr) (lot : List Nat) (y6 : Option V), σ' = [some (.ref p), some (.int (n : Int)), some (.ref a), some (.ref x), some (.ref c), some (.ref o), y6, none, none, none, none, none, none] ∧ Ex (hide p H6) H' ∧ PotAt H' p ∧
        H' c = some (.lst (vN lot)) ∧ c ≠ p ∧ lot.Nodup ∧ ∀ s ∈ lot, s < i)
      (fun H7 e7 => ⟨c0, [], none, rfl, hide_of e7, hp6.mono e7, e7 c0 _ (hide_keep hc04 nc0 g46), nc0, List.nodup_nil, fun s hs => absurd hs List.not_mem_nil⟩) ?_ ?_
    · rintro i σ' H7 hi ⟨c, lot, y6, rfl, g7, hp7, hc, nc, hnd, hlt⟩
      refine s_ifDraw (s := 3) (ea_cons (ev_var rfl) (ea_cons ev_c ea_nil)) hp7 (by decide) (by decide) fun d H8 hd g8 hp8 => ?_
      have hc8 := hide_keep hc nc g8
      refine s_when (et_test (ev_op ev_c ev_c rv_I0)) (fun _ H9 e9 => ?_) fun _ H9 e9 => ?_
      · have hl8 : lot.length ≤ 8 := few 8 lot hnd fun s hs => by
          have := hlt s hs
          omega
        refine s_asgL (xs := vN (i :: lot)) (el_catV (xs := [V.int (i : Int)]) (ys := vN lot) (el_lst (ea_cons (ev_var rfl) ea_nil) (by show 1 ≤ 100000; decide)) (ev_var rfl) (e9 c _ hc8) (by rw [vN_len]; show 1 + _ ≤ _; omega)) fun c' H10 hc' e10 h10 => ?_
        refine ⟨c', i :: lot, _, rfl, ((hide_step g7 g8).trans e9).trans e10, (hp8.mono e9).mono e10, h10, (hp8.mono e9).ne hc', List.nodup_cons.mpr ⟨fun hm => by have := hlt i hm; omega, hnd⟩, fun s hs => ?_⟩
        rcases List.mem_cons.mp hs with z | z
        · omega
        · have := hlt s z; omega
      · exact ⟨c, lot, _, rfl, (hide_step g7 g8).trans e9, hp8.mono e9, e9 c _ hc8, nc, hnd, fun s hs => by have := hlt s hs; omega⟩
    · rintro σ' H7 ⟨c, lot, y6, rfl, g7, hp7, hc, nc, hnd, hlt⟩
      rw [Int.toNat_natCast] at hlt
      have hlok : LotOk n lot := ⟨hnd, hlt⟩
      have hct : Tk H7 c (vN lot) := .inl hc
      -- the own join
      have hlot : EvL (tLc (iRng1 (tCons (tVar 1) tNil)) (gName 6) tYes (tOp (rIn K false) (tVar 6) (tVar 4)) [6]) [some (.ref p), some (.int (n : Int)), some (.ref a), some (.ref x), some (.ref c), some (.ref o), y6, none, none, none, none, none, none] H7 (vB n fun s => decide (s ∈ lot)) := by
        have e0 : given (n : Int).toNat (fun _ => true) (fun i => .bl (decide (i ∈ lot))) = vB n fun s => decide (s ∈ lot) := by
          rw [Int.toNat_natCast, given_bl]
          rfl
        rw [← e0]
        exact el_lcR1 _ _ (ea_cons (ev_var rfl) ea_nil) (by omega) (fun x => rfl) (fun i H8 e8 hi => et_yes) fun i H8 e8 hi _ => ev_inN (ev_var rfl) (ev_var rfl) (hct.mono e8)
      refine q_asgL (el_call2L (ev_var rfl) hlot fun u H8 e8 h8 => sl_law_up (hK.at.mono (g7.trans e8)) (.inl h8) hok hn8 hkl) fun u H8 hu e8 h8 => ?_
      refine q_asgL (el_lcE (xs := vB n fun s => dB (UpB ks (fun s => decide (s ∈ lot)) s)) (fun s => dB (UpB ks (fun s => decide (s ∈ lot)) s)) (fun i => .int (i : Nat)) (ea_cons (ev_var rfl) ea_nil) (.inl (.of h8)) (by rw [vB_len]; omega) (fun x y => rfl) (fun i hi => ?_) fun i hi _ => ev_var rfl) fun u2 H9 hu2 e9 h9 => ?_
      · rw [vB_len] at hi
        rw [vB_getD hi]
        exact et_B (ev_var rfl)
      have hup : vN (spots (supOf D (bitsOf lot))) = given (vB n fun s => dB (UpB ks (fun s => decide (s ∈ lot)) s)).length (fun s => dB (UpB ks (fun s => decide (s ∈ lot)) s)) (fun i => .int (i : Nat)) := by
        rw [vB_len, given_nat n _ fun i => i, List.map_id']
        refine congrArg vN (spots_below hn8 fun i => ?_)
        rw [sup_join hR, dB_iff]
        constructor
        · rintro ⟨k, h1, h2, h3⟩
          exact ⟨(hok k h1).2.2 i h2, k, h1, h2, fun t ht => decide_eq_true (h3 t ht)⟩
        · rintro ⟨_, k, h1, h2, h3⟩
          exact ⟨k, h1, h2, fun t ht => of_decide_eq_true (h3 t ht)⟩
      rw [← hup] at h9
      have g9 := (g7.trans e8).trans e9
      have hp9 := (hp7.mono e8).mono e9
      have hc9 := (e8.trans e9) c _ hc
      -- supported, twice
      refine q_when (b := false) (et_is (et_or (et_test (ev_opL1 (el_call (ea_cons (ev_var rfl) (ea_cons (ev_var rfl) ea_nil)) (sl_supported (hSt.mono g9) (.inl hc9) hlok hn8)) (fun H10 e10 => ev_var rfl) fun r H10 h10 e10 => rv_neL (ns := iN _) (ms := iN _) (.of h10) (.of (e10 u2 _ h9)))) fun _ =>
          et_test (ev_opL1 (el_callK2U (eu_tupOf (ev_var rfl) hc9) (fun H10 e10 => ev_var rfl) fun r H10 e10 h10 => sl_supported (hSt.mono (g9.trans e10)) (.inr h10) hlok hn8) (fun H10 e10 => ev_var rfl) fun r H10 h10 e10 => rv_neL (ns := iN _) (ms := iN _) (.of h10) (.of (e10 u2 _ h9)))) ?_) (fun z => nomatch z) fun _ H10 e10 => ?_
      · rw [decide_eq_true rfl]
        rfl
      have g10 := g9.trans e10
      have hp10 := hp9.mono e10
      -- the walk's end
      refine q_when (b := false) (et_is (et_or (et_not (et_B (ev_call (ea_cons (ev_var rfl) (ea_cons (ev_var rfl) ea_nil)) (sv_law_is_due (hK.at.mono g10) (g10 o _ hoB) hok hbok hn2 hn8 hkl)))) fun _ =>
          et_not (et_B (ev_call (ea_cons (ev_var rfl) (ea_cons (ev_var rfl) (ea_cons (ev_var rfl) ea_nil))) (sv_law_board_right (hShop.mono g10) (hK.at.mono g10) hkl (g10 o _ hoB) hbok)))) ?_) (fun z => nomatch z) fun _ H11 e11 => ?_
      · rw [dB_pos hdue]
        rfl
      have g11 := g10.trans e11
      -- changed at one shelf
      refine q_asgDraw (s := n) (ea_cons (ev_var rfl) (ea_cons (ev_var rfl) ea_nil)) (hp10.mono e11) (by omega) (by omega) fun i H12 hi g12' hp12 => ?_
      have g12 := hide_step g11 g12'
      have ho12 := g12 o _ hoB
      refine q_changed (bd := bd) (i := i) (b := at_ bd i) (by rw [show vN (bd.take i) = cutV (vN bd) none (some (i : Int)) by rw [cut_to]; unfold vN iN; rw [List.map_take, List.map_take]]; exact el_sl (ev_var rfl) eo_none (eo_some (ev_var rfl)) (.of ho12)) (ev_at (s := i) (ev_var rfl) (.inl ho12) (by omega) (ev_var rfl)) (ev_var rfl)
        (el_lst (ea_cons ev_c (ea_cons ev_c (ea_cons (ev_un ev_c ru_neg) (ea_cons (ev_un ev_c ru_neg) ea_nil)))) (by show 4 ≤ 100000; decide)) hp12 (by omega)
        (fun H' g' => by rw [show vN (bd.drop (i + 1)) = cutV (vN bd) (some ((i + 1 : Nat) : Int)) none by rw [cut_from]; unfold vN iN; rw [List.map_drop, List.map_drop]]; exact el_sl (ev_var rfl) (eo_some (ev_op (ev_var rfl) ev_c rv_I0)) eo_none (.of (hide_keep ho12 no g'))) fun c1 q1 H13 hc1 g13' hp13 hq1 nq1 => ?_
      have g13 := hide_step g12 g13'
      have hat := hle _ (at_mem (show i < bd.length by omega))
      have hcok : BoardOk n (bd.take i ++ [c1] ++ bd.drop (i + 1)) := by
        refine ⟨?_, fun y hy => ?_⟩
        · rw [List.length_append, List.length_append, List.length_take, List.length_drop, List.length_singleton, hlen]
          omega
        · rcases List.mem_append.mp hy with h | h
          · rcases List.mem_append.mp h with h | h
            · have := hle y (List.mem_of_mem_take h); omega
            · rw [List.mem_singleton.mp h]; omega
          · have := hle y (List.mem_of_mem_drop h); omega
      refine q_when (b := false) (et_is (et_not (et_B (ev_call (ea_cons (ev_var rfl) (ea_cons (ev_var rfl) (ea_cons (ev_var rfl) ea_nil))) (sv_law_board_right (hShop.mono g13) (hK.at.mono g13) hkl hq1 hcok)))) rfl) (fun z => nomatch z) fun _ H14 e14 => ?_
      have g14 := g13.trans e14
      -- a drawn board
      refine q_asgL el_nil fun dr H15 hdr e15 h15 => ?_
      have g15 := g14.trans e15
      have hp14 := hp13.mono e14
      have ndr : dr ≠ p := hp14.ne hdr
      have hdB : hide p H6 dr = none := fresh_back g14 hdr
      refine q_forR1 (n := (n : Int)) (ea_cons (ev_var rfl) ea_nil) (by omega) (fun j σ' H' => ∃ (y6 : Option V) (ds : List Nat), σ' = [some (.ref p), some (.int (n : Int)), some (.ref a), some (.ref x), some (.ref c), some (.ref o), y6, some (.ref u), some (.ref u2), some (.int (i : Int)), some (.ref q1), some (.ref dr), none] ∧ Ex (hide p H6) H' ∧ PotAt H' p ∧
          H' dr = some (.lst (vN ds)) ∧ ds.length = j ∧ ∀ y ∈ ds, y ≤ 3)
        (fun H16 e16 => ⟨y6, [], rfl, g15.trans e16, (hp14.mono e15).mono e16, e16 dr _ h15, rfl, fun y hy => absurd hy List.not_mem_nil⟩) ?_ ?_
      · rintro j σ' H16 hj ⟨y6', ds, rfl, g16, hp16, hds, hdl, hd3⟩
        refine s_appDraw (s := 4) hds ndr (ev_var rfl) (ea_cons (ev_var rfl) (ea_cons ev_c ea_nil)) hp16 (by decide) (by decide) (by rw [vN_len]; omega) fun d H17 hd g17 hp17 => ?_
        refine ⟨_, ds ++ [d], rfl, Ex.mut (hide_step g16 g17) hdB, upd_pot hp17 ndr, ?_, by rw [List.length_append, hdl]; rfl, fun y hy => ?_⟩
        · rw [upd_same]
          refine congrArg (fun l => some (HO.lst l)) ?_
          unfold vN iN
          rw [List.map_append, List.map_append]
          rfl
        · rcases List.mem_append.mp hy with h | h
          · exact hd3 y h
          · rw [List.mem_singleton.mp h]; omega
      · rintro σ' H16 ⟨y6', ds, rfl, g16, hp16, hds, hdl, hd3⟩
        rw [Int.toNat_natCast] at hdl
        exact s_ret (ev_call (ea_cons (ev_var rfl) (ea_cons (ev_var rfl) (ea_cons (ev_var rfl) ea_nil))) (sv_law_board_right (hShop.mono g16) (hK.at.mono g16) hkl hds ⟨hdl, fun y hy => by have := hd3 y hy; omega⟩)) fun H17 e17 => q H17 ((gHB.trans g16).trans e17)
end
end K61

/-! the law -/
namespace K61
open PySem PySem.Spec PyProof.Rows L2 Evl

def spLaw (K : PySem.W.Frag) : Sp := fun vs H Q _ => ∃ (a : Addr) (ns : List Int), vs = [.ref a] ∧ SqL K H a (ns.map V.int) ∧ ns.length ≤ 63 ∧ ∀ H', Q (.bl true) H'
section
variable {P : Program} {w : World} {K : PySem.W.Frag} {mg : Str → Option Value} {base : Heap} {C : Addr}
theorem ok_law (T : Txt K mg) (TC : TxtC K mg C) : Cal P w K mg base "law" p_law 9 (spLaw K) := by
  refine cal_of T.d_law sc_law (fun _ _ _ _ _ _ us hl => match us, hl with | [_], _ => rfl) (fun vs H Q E h => ?_) (fun f cdv A outer s H vs Q E hr h => ?_)
  · obtain ⟨a, ns, rfl, _⟩ := h
    rfl
  · obtain ⟨a, ns, rfl, ha, hl, q⟩ := h
    refine ⟨_, pss_one (ps_ret (pe_and (pe_cal (ok_law_right T TC) hr (pa_cons (pe_cal (ok_law_pot T) (hr.mono (by decide)) (pa_cons (pv 0) (pa_cons pe_int pa_nil))) pa_nil))
      (pe_one (pe_cal (ok_law_right T TC) hr (pa_cons (pe_cal (ok_law_pot T) (hr.mono (by decide)) (pa_cons (pv 0) (pa_cons pe_int pa_nil))) pa_nil))))), ?_⟩
    have one : ∀ (k : Nat) (H1 : Hp) (Q1 : VK), k ≤ 1 → SqL K H1 a (ns.map V.int) → (∀ H2, Ex H1 H2 → Q1 (.bl true) H2) → tCall spRight [] E0 (tCons (tCall (spPot K) [] E0 (tCons (tVar 0) (tCons (tC (.int (k : Int))) tNil))) tNil) [some (.ref a)] H1 Q1 := by
      intro k H1 Q1 hk hx q1
      refine ⟨_, rfl, a, ns, k, rfl, hx, hk, fun p H2 hp e2 hpot => ?_⟩
      refine ⟨p, rfl, hpot, fun H3 e3 => q1 H3 ?_⟩
      exact (ex_hide e2 hp).trans e3
    refine one 0 H _ (by decide) ha fun H2 e2 => ⟨true, rfl, ?_⟩
    rw [if_pos rfl]
    exact one 1 H2 _ (by decide) (ex_l e2 ha) fun H3 e3 => q H3
end
end K61

/-! what the top has written -/
namespace K61
open PySem PySem.Spec PyProof.Rows L2 Evl

theorem def_at {K : PySem.W.Frag} {h : Heap} {mg : Str → Option Value} {name : Str} {st : Stmt} {f : Addr} {od an : Option Addr} {sl : Array (Option Value)} {oc kV dc pm cd ct : Value} (X : K.In h) (G : h.Ns mainGlobals mg)
    (a : PySem.W.nsIn K mainGlobals name = some (some (.ref f))) (l : K.lookup f = some ⟨oc, od, .func (PySem.W.fnOf name name (defArgs st) (defBody st) (defScope st) .none kV dc pm an cd ct), sl⟩)
    (c : PySem.W.codeIn K cd name = true) (k : PySem.W.keepIn K (.ref f) = true) : DefAt K mg name st := ⟨f, _, fun_mk l c k, PySem.W.mg_of X G a⟩
theorem num_at {K : PySem.W.Frag} {h : Heap} {mg : Str → Option Value} {name : Str} {n : Int} {t : Tok} (X : K.In h) (G : h.Ns mainGlobals mg) (a : PySem.W.nsIn K mainGlobals name = some (some (.int n t))) : ∃ t, mg name = some (.int n t) := ⟨t, PySem.W.mg_of X G a⟩
theorem store_at {K : PySem.W.Frag} {h : Heap} {mg : Str → Option Value} {C f : Addr} {od an : Option Addr} {sl : Array (Option Value)} {oc kV dc pm cd ct : Value} (X : K.In h) (G : h.Ns mainGlobals mg)
    (aC : PySem.W.nsIn K mainGlobals "Store" = some (some (.ref C))) (a1 : PySem.W.findIn K (.ref C) "__init__" = some (some (.ref f))) (i1 : PySem.W.isFn K (.ref f) = true)
    (l1 : K.lookup f = some ⟨oc, od, .func (PySem.W.fnOf "__init__" "Store.__init__" (defArgs s_init) (defBody s_init) (defScope s_init) .none kV dc pm an cd ct), sl⟩) (c1 : PySem.W.codeIn K cd "Store.__init__" = true) (k1 : PySem.W.keepIn K (.ref f) = true)
    (pg : PySem.W.plainGet K C Str.empty = true) (hd : PySem.W.hasDictIn K C = true) (po : PySem.W.plainOver K C = true) (sa : PySem.W.findIn K (.ref C) "__setattr__" = some (some (.builtin "object.__setattr__"))) (mk : PySem.W.makesIn K C = true) (kc : PySem.W.keepIn K (.ref C) = true)
    (ha : PySem.W.findIn K (.ref C) "__class__" = some (some (.builtin "object.__class__"))) (hn : PySem.W.specialIn K (.builtin "object.__class__") "__get__" = some (some (.builtin "getset_descriptor.__get__"))) (htk : PySem.W.takesIn K (.builtin "object.__class__") = some true)
    (hm : PySem.W.mroIn K C (.type "object") = some true)
    (n1 : PySem.W.findIn K (.ref C) "own_shelves" = some none) (n2 : PySem.W.findIn K (.ref C) "own_deliveries" = some none) (n3 : PySem.W.findIn K (.ref C) "own_sales" = some none) (n4 : PySem.W.findIn K (.ref C) "own_kept" = some none) : TxtC K mg C :=
  ⟨PySem.W.mg_of X G aC, ⟨⟨pg, hd, po, sa⟩, ha, hn, htk, hm, by
    unfold PySem.W.kitOne
    rw [if_pos (by show (Value.ref C == Value.ref C) = true; simp)]⟩, n1, n2, n3, n4, f, _, fun_mk l1 c1 k1, mk, a1, i1, kc⟩
theorem top_mk {l : PySem.W.OpenLaw} {w : World} {K : PySem.W.Frag} {mg : Str → Option Value} {fa C : Addr} (hfa : mg "law" = some (.ref fa)) (T : Txt K mg) (TC : TxtC K mg C) :
    ∃ fd : FuncData, (∀ (s : Shared) (v : Value), BindsTo s fd ⟨[v], []⟩ [("_law_script", v)]) ∧ ∀ base : Heap, K.In base → base.Ns mainGlobals mg → FnOk l.prog w K mg base CX0 9 fa fd ["_law_script"] (spLaw K) := by
  obtain ⟨f, fd, F, g⟩ := id T.d_law
  obtain ⟨oc, od, kV, doc, pm, an, cdv, ct, osl, e, lk, _⟩ := F.ex
  rw [hfa] at g
  cases g
  refine ⟨fd, fun s v => ?_, fun base _ _ => ?_⟩
  · rw [e]
    exact .of_eq rfl
  · obtain ⟨f', fd', ok, g', _, _, oc', od', osl', lk'⟩ := ok_law (P := l.prog) (w := w) (base := base) T TC
    rw [hfa] at g'
    cases g'
    rw [lk] at lk'
    cases lk'
    exact ok
end K61

open PySem PySem.W PyProof.Rows
set_option maxRecDepth 100000 in
set_option maxHeartbeats 0 in
theorem PySem.Challenge.cw_twoabove_k61_whole_levels_and_boards_tha_holds : PySem.Challenge.rw_twoabove_k61_whole_levels_and_boards_tha.Holds := by
  w_on; o_law; k_head; (case hw => w_witness2)
  k_fill
  refine L2.walk_of (l := PySem.Challenge.rw_twoabove_k61_whole_levels_and_boards_tha) (n := 63) (k := 9) (x := "_law_script") (CX := fun _ => L2.CX0) (sp := fun w => K61.spLaw _) rfl (by decide) rfl ⟨rfl, by decide, by decide⟩ (fun w h Y => PySem.W.kIn_of Y) ?F (fun _ _ a ns hl _ hS => ⟨a, ns, rfl, hS, hl, fun _ => rfl⟩) (fun _ _ _ _ _ h => h)
  case F =>
    intro w mg fa h KX G hmg
    refine' K61.top_mk hmg ?T ?TC
    case T =>
      refine' ⟨?_, ?_, ?_, ?_, ?_, ?_, ?_, ?_, ?_, ?_, ?_, ?_, ?_, ?_, ?_, ?_, ?_, ?_, ?_, ?_, ?_, ?_, ?_, ?_, ?_, ?_, ?_, ?_, ?_, ?_, ?_, ?_, ?_, ?_, ?_, ?_, ?_, ?_, ?_, ?_, ?_, ?_, ?_, ?_, ?_, ?_, ?_, ?_, ?_, ?_, ?_, ?_, ?_, ?_, ?_, ?_, ?_, ?_, ?_, ?_, ?_, ?_, ?_, ?_, ?_⟩
      · refine' K61.def_at KX G ?a ?l ?c ?k; (case a => k_is); (case l => k_is); (case c => k_is); (case k => k_is)
      · refine' K61.def_at KX G ?a ?l ?c ?k; (case a => k_is); (case l => k_is); (case c => k_is); (case k => k_is)
      · refine' K61.def_at KX G ?a ?l ?c ?k; (case a => k_is); (case l => k_is); (case c => k_is); (case k => k_is)
      · refine' K61.def_at KX G ?a ?l ?c ?k; (case a => k_is); (case l => k_is); (case c => k_is); (case k => k_is)
      · refine' K61.def_at KX G ?a ?l ?c ?k; (case a => k_is); (case l => k_is); (case c => k_is); (case k => k_is)
      · refine' K61.def_at KX G ?a ?l ?c ?k; (case a => k_is); (case l => k_is); (case c => k_is); (case k => k_is)
      · refine' K61.def_at KX G ?a ?l ?c ?k; (case a => k_is); (case l => k_is); (case c => k_is); (case k => k_is)
      · refine' K61.def_at KX G ?a ?l ?c ?k; (case a => k_is); (case l => k_is); (case c => k_is); (case k => k_is)
      · refine' K61.def_at KX G ?a ?l ?c ?k; (case a => k_is); (case l => k_is); (case c => k_is); (case k => k_is)
      · refine' K61.def_at KX G ?a ?l ?c ?k; (case a => k_is); (case l => k_is); (case c => k_is); (case k => k_is)
      · refine' K61.def_at KX G ?a ?l ?c ?k; (case a => k_is); (case l => k_is); (case c => k_is); (case k => k_is)
      · refine' K61.def_at KX G ?a ?l ?c ?k; (case a => k_is); (case l => k_is); (case c => k_is); (case k => k_is)
      · refine' K61.def_at KX G ?a ?l ?c ?k; (case a => k_is); (case l => k_is); (case c => k_is); (case k => k_is)
      · refine' K61.def_at KX G ?a ?l ?c ?k; (case a => k_is); (case l => k_is); (case c => k_is); (case k => k_is)
      · refine' K61.def_at KX G ?a ?l ?c ?k; (case a => k_is); (case l => k_is); (case c => k_is); (case k => k_is)
      · refine' K61.def_at KX G ?a ?l ?c ?k; (case a => k_is); (case l => k_is); (case c => k_is); (case k => k_is)
      · refine' K61.def_at KX G ?a ?l ?c ?k; (case a => k_is); (case l => k_is); (case c => k_is); (case k => k_is)
      · refine' K61.def_at KX G ?a ?l ?c ?k; (case a => k_is); (case l => k_is); (case c => k_is); (case k => k_is)
      · refine' K61.def_at KX G ?a ?l ?c ?k; (case a => k_is); (case l => k_is); (case c => k_is); (case k => k_is)
      · refine' K61.def_at KX G ?a ?l ?c ?k; (case a => k_is); (case l => k_is); (case c => k_is); (case k => k_is)
      · refine' K61.def_at KX G ?a ?l ?c ?k; (case a => k_is); (case l => k_is); (case c => k_is); (case k => k_is)
      · refine' K61.def_at KX G ?a ?l ?c ?k; (case a => k_is); (case l => k_is); (case c => k_is); (case k => k_is)
      · refine' K61.def_at KX G ?a ?l ?c ?k; (case a => k_is); (case l => k_is); (case c => k_is); (case k => k_is)
      · refine' K61.def_at KX G ?a ?l ?c ?k; (case a => k_is); (case l => k_is); (case c => k_is); (case k => k_is)
      · refine' K61.def_at KX G ?a ?l ?c ?k; (case a => k_is); (case l => k_is); (case c => k_is); (case k => k_is)
      · refine' K61.def_at KX G ?a ?l ?c ?k; (case a => k_is); (case l => k_is); (case c => k_is); (case k => k_is)
      · refine' K61.def_at KX G ?a ?l ?c ?k; (case a => k_is); (case l => k_is); (case c => k_is); (case k => k_is)
      · refine' K61.def_at KX G ?a ?l ?c ?k; (case a => k_is); (case l => k_is); (case c => k_is); (case k => k_is)
      · refine' K61.def_at KX G ?a ?l ?c ?k; (case a => k_is); (case l => k_is); (case c => k_is); (case k => k_is)
      · refine' K61.def_at KX G ?a ?l ?c ?k; (case a => k_is); (case l => k_is); (case c => k_is); (case k => k_is)
      · refine' K61.def_at KX G ?a ?l ?c ?k; (case a => k_is); (case l => k_is); (case c => k_is); (case k => k_is)
      · refine' K61.def_at KX G ?a ?l ?c ?k; (case a => k_is); (case l => k_is); (case c => k_is); (case k => k_is)
      · refine' K61.def_at KX G ?a ?l ?c ?k; (case a => k_is); (case l => k_is); (case c => k_is); (case k => k_is)
      · refine' K61.def_at KX G ?a ?l ?c ?k; (case a => k_is); (case l => k_is); (case c => k_is); (case k => k_is)
      · refine' K61.def_at KX G ?a ?l ?c ?k; (case a => k_is); (case l => k_is); (case c => k_is); (case k => k_is)
      · refine' K61.def_at KX G ?a ?l ?c ?k; (case a => k_is); (case l => k_is); (case c => k_is); (case k => k_is)
      · refine' K61.def_at KX G ?a ?l ?c ?k; (case a => k_is); (case l => k_is); (case c => k_is); (case k => k_is)
      · refine' K61.def_at KX G ?a ?l ?c ?k; (case a => k_is); (case l => k_is); (case c => k_is); (case k => k_is)
      · refine' K61.def_at KX G ?a ?l ?c ?k; (case a => k_is); (case l => k_is); (case c => k_is); (case k => k_is)
      · refine' K61.def_at KX G ?a ?l ?c ?k; (case a => k_is); (case l => k_is); (case c => k_is); (case k => k_is)
      · refine' K61.def_at KX G ?a ?l ?c ?k; (case a => k_is); (case l => k_is); (case c => k_is); (case k => k_is)
      · refine' K61.def_at KX G ?a ?l ?c ?k; (case a => k_is); (case l => k_is); (case c => k_is); (case k => k_is)
      · refine' K61.def_at KX G ?a ?l ?c ?k; (case a => k_is); (case l => k_is); (case c => k_is); (case k => k_is)
      · refine' K61.def_at KX G ?a ?l ?c ?k; (case a => k_is); (case l => k_is); (case c => k_is); (case k => k_is)
      · refine' PySem.W.mg_none_of KX G ?a; (case a => k_is)
      · refine' PySem.W.mg_none_of KX G ?a; (case a => k_is)
      · refine' PySem.W.mg_none_of KX G ?a; (case a => k_is)
      · refine' PySem.W.mg_none_of KX G ?a; (case a => k_is)
      · refine' PySem.W.mg_none_of KX G ?a; (case a => k_is)
      · refine' PySem.W.mg_none_of KX G ?a; (case a => k_is)
      · refine' PySem.W.mg_none_of KX G ?a; (case a => k_is)
      · refine' PySem.W.mg_none_of KX G ?a; (case a => k_is)
      · refine' PySem.W.mg_none_of KX G ?a; (case a => k_is)
      · refine' PySem.W.mg_none_of KX G ?a; (case a => k_is)
      · refine' PySem.W.mg_none_of KX G ?a; (case a => k_is)
      · refine' PySem.W.mg_none_of KX G ?a; (case a => k_is)
      · refine' PySem.W.mg_none_of KX G ?a; (case a => k_is)
      · refine' PySem.W.mg_none_of KX G ?a; (case a => k_is)
      · refine' PySem.W.mg_none_of KX G ?a; (case a => k_is)
      · refine' PySem.W.mg_none_of KX G ?a; (case a => k_is)
      · refine' PySem.W.mg_none_of KX G ?a; (case a => k_is)
      · refine' K61.num_at KX G ?a; (case a => k_is)
      · refine' K61.num_at KX G ?a; (case a => k_is)
      · refine' K61.num_at KX G ?a; (case a => k_is)
      · refine' K61.num_at KX G ?a; (case a => k_is)
    case TC =>
      refine' K61.store_at KX G ?aC ?a1 ?i1 ?l1 ?c1 ?k1 ?pg ?hd ?po ?sa ?mk ?kc ?ha ?hn ?htk ?hm ?n1 ?n2 ?n3 ?n4
      (case aC => k_is)
      (case a1 => k_is)
      (case i1 => k_is)
      (case l1 => k_is)
      (case c1 => k_is)
      (case k1 => k_is)
      (case pg => k_is)
      (case hd => k_is)
      (case po => k_is)
      (case sa => k_is)
      (case mk => k_is)
      (case kc => k_is)
      (case ha => k_is)
      (case hn => k_is)
      (case htk => k_is)
      (case hm => k_is)
      (case n1 => k_is)
      (case n2 => k_is)
      (case n3 => k_is)
      (case n4 => k_is)

