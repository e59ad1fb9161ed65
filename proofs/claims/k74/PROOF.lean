import PyProof.Rows.All
import Wide.All
import OpenK.AllK
import Wide.FinOn
import HandS.ForMost
import HandS.Exc
import HandS.TryOnly
import HandS.ExcOwn
import HandS.WordsExc
import HandS.More
import HandS.Conv
import HandS.Deep
import HandS.Sort
import HandS.SortOrd
import HandS.SortRule
import HandS.NamedTupSort
import HandS.TupAny
import HandS.TupSets
import HandS.Defaults
import HandS.Head0
import HandS.Head1
import HandS.Head2
import HandS.HeadEnd
import HandS.HeadHook1
import HandS.HeadHook2
import PySem.Challenge.RW_seamwright_k74_whole_balances_together
set_option Elab.async false
set_option linter.all false
set_option maxRecDepth 100000
set_option autoImplicit false
set_option maxHeartbeats 3999999
/-! The plain mathematics of the law (points 60 to 62): pieces of a web, sums of signs, unions, shared webs, joins. No program here. -/
namespace K74
/-- a piece: its points -/
abbrev Pc := List Int

/-! ### ascending lists -/
abbrev Asc (p : Pc) : Prop := p.Pairwise (· < ·)
theorem asc_nodup {p : Pc} (h : Asc p) : p.Nodup := h.imp fun h e => by
  rw [e] at h
  exact absurd h (Int.lt_irrefl _)
theorem asc_sub : ∀ {p s : Pc}, Asc p → Asc s → (∀ x ∈ p, x ∈ s) → p.Sublist s
  | [], s, _, _, _ => List.nil_sublist s
  | x :: p, [], _, _, h => absurd (h x List.mem_cons_self) (by simp)
  | x :: p, y :: s, hp, hs, h => by
    obtain ⟨hp1, hp2⟩ := List.pairwise_cons.mp hp
    obtain ⟨hs1, hs2⟩ := List.pairwise_cons.mp hs
    by_cases e : x = y
    · subst e
      refine List.Sublist.cons_cons x (asc_sub hp2 hs2 fun z hz => ?_)
      rcases List.mem_cons.mp (h z (List.mem_cons_of_mem _ hz)) with q | q
      · have := hp1 z hz
        omega
      · exact q
    · have hx : x ∈ s := by
        rcases List.mem_cons.mp (h x List.mem_cons_self) with q | q
        · exact absurd q e
        · exact q
      refine List.Sublist.cons y (asc_sub hp hs2 fun z hz => ?_)
      rcases List.mem_cons.mp hz with q | q
      · rw [q]; exact hx
      · rcases List.mem_cons.mp (h z hz) with r | r
        · have h1 := hp1 z q
          have h2 := hs1 x hx
          omega
        · exact r
theorem asc_ext {p s : Pc} (hp : Asc p) (hs : Asc s) (h : ∀ x, x ∈ p ↔ x ∈ s) : p = s := by
  have h1 := asc_sub hp hs fun x hx => (h x).mp hx
  have h2 := asc_sub hs hp fun x hx => (h x).mpr hx
  exact h1.eq_of_length (Nat.le_antisymm h1.length_le h2.length_le)

/-! ### parts, rims -/
/-- the program's list before the empty one is left out -/
def parts0 (p : Pc) : List Pc := p.foldl (fun f x => f ++ f.map (· ++ [x])) [[]]
def parts (p : Pc) : List Pc := (parts0 p).filter fun q => decide (q ≠ [])
theorem parts0_snoc (p : Pc) (x : Int) : parts0 (p ++ [x]) = parts0 p ++ (parts0 p).map (· ++ [x]) := by
  unfold parts0
  rw [List.foldl_append]
  rfl
theorem length_parts0 (p : Pc) : (parts0 p).length = 2 ^ p.length := by
  suffices h : ∀ (p : Pc) (f : List Pc), (p.foldl (fun f x => f ++ f.map (· ++ [x])) f).length = f.length * 2 ^ p.length by
    unfold parts0
    rw [h]
    simp
  intro p
  induction p with
  | nil => intro f; simp
  | cons x p ih =>
    intro f
    rw [List.foldl_cons, ih, List.length_append, List.length_map, List.length_cons, Nat.pow_succ, ← Nat.two_mul]
    rw [Nat.mul_comm 2 f.length, Nat.mul_assoc, Nat.mul_comm 2]
theorem sub_snoc {q p : Pc} {x : Int} : q.Sublist (p ++ [x]) ↔ q.Sublist p ∨ ∃ r, q = r ++ [x] ∧ r.Sublist p := by
  rw [List.sublist_append_iff]
  constructor
  · rintro ⟨l1, l2, rfl, h1, h2⟩
    rcases List.sublist_cons_iff.mp h2 with h | ⟨r, rfl, h⟩
    · rw [List.sublist_nil.mp h, List.append_nil]
      exact .inl h1
    · rw [List.sublist_nil.mp h]
      exact .inr ⟨l1, rfl, h1⟩
  · rintro (h | ⟨r, rfl, h⟩)
    · exact ⟨q, [], (List.append_nil q).symm, h, List.nil_sublist _⟩
    · exact ⟨r, [x], rfl, h, List.Sublist.refl _⟩
theorem mem_parts0_rev : ∀ p : Pc, ∀ q, q ∈ parts0 p.reverse ↔ q.Sublist p.reverse
  | [], q => by
    show q ∈ [[]] ↔ q.Sublist []
    rw [List.sublist_nil]
    simp
  | x :: p, q => by
    rw [List.reverse_cons, parts0_snoc, List.mem_append, List.mem_map, sub_snoc, mem_parts0_rev p]
    constructor
    · rintro (h | ⟨r, h, rfl⟩)
      · exact .inl h
      · exact .inr ⟨r, rfl, (mem_parts0_rev p r).mp h⟩
    · rintro (h | ⟨r, rfl, h⟩)
      · exact .inl h
      · exact .inr ⟨r, (mem_parts0_rev p r).mpr h, rfl⟩
theorem mem_parts0 {p q : Pc} : q ∈ parts0 p ↔ q.Sublist p := by
  have h := mem_parts0_rev p.reverse q
  rwa [List.reverse_reverse] at h
theorem mem_parts {p q : Pc} : q ∈ parts p ↔ q ≠ [] ∧ q.Sublist p := by
  unfold parts
  rw [List.mem_filter, mem_parts0, decide_eq_true_eq]
  exact And.comm
theorem length_parts (p : Pc) : (parts p).length ≤ 2 ^ p.length := by
  rw [← length_parts0]
  exact List.length_filter_le _ _
def rims (p : Pc) : List Pc := if p.length < 2 then [] else (List.range p.length).map fun k => p.take k ++ p.drop (k + 1)
theorem mem_rims {p q : Pc} (h : q ∈ rims p) : q.Sublist p ∧ q.length + 1 = p.length := by
  unfold rims at h
  split at h
  · cases h
  · obtain ⟨k, hk, rfl⟩ := List.mem_map.mp h
    have hk := List.mem_range.mp hk
    rw [← List.eraseIdx_eq_take_drop_succ]
    refine ⟨List.eraseIdx_sublist _ _, ?_⟩
    rw [List.length_eraseIdx, if_pos hk]
    omega

/-! ### the pieces of a web -/
/-- q is a piece of the web W -/
def In (q : Pc) (W : List Pc) : Prop := q ≠ [] ∧ ∃ p ∈ W, q.Sublist p
/-- l has the pieces of W, each once -/
structure Pcs (W l : List Pc) : Prop where
  nd : l.Nodup
  mem : ∀ q, q ∈ l ↔ In q W
/-- g has the greatest pieces of W, each once -/
structure Grt (W g : List Pc) : Prop where
  nd : g.Nodup
  mem : ∀ q, q ∈ g ↔ In q W ∧ ∀ p, In p W → q ∉ rims p
theorem Pcs.perm {W l m : List Pc} (h : Pcs W l) (k : Pcs W m) : l.Perm m :=
  (List.perm_ext_iff_of_nodup h.nd k.nd).mpr fun q => (h.mem q).trans (k.mem q).symm
theorem len_le_sum : ∀ {W : List Pc} {p : Pc}, p ∈ W → p.length ≤ (W.map List.length).sum
  | w :: W, p, h => by
    rw [List.map_cons, List.sum_cons]
    rcases List.mem_cons.mp h with e | h
    · rw [e]; omega
    · have := len_le_sum h
      omega
theorem In.len {W : List Pc} {q : Pc} (h : In q W) : q.length ≤ (W.map List.length).sum := by
  obtain ⟨_, p, hp, hs⟩ := h
  exact Nat.le_trans hs.length_le (len_le_sum hp)
theorem In.part {W : List Pc} {q p : Pc} (h : In p W) (hq : q ≠ []) (hs : q.Sublist p) : In q W := by
  obtain ⟨_, w, hw, hp⟩ := h
  exact ⟨hq, w, hw, hs.trans hp⟩
theorem Grt.in_of {W g : List Pc} (G : Grt W g) {q : Pc} (h : In q g) : In q W := by
  obtain ⟨hq, p, hp, hs⟩ := h
  exact ((G.mem p).mp hp).1.part hq hs
theorem Grt.up {W g : List Pc} (G : Grt W g) : ∀ (n : Nat) (q : Pc), (W.map List.length).sum ≤ q.length + n → In q W → In q g
  | n, q, hn, h => by
    by_cases hr : ∃ p, In p W ∧ q ∈ rims p
    · obtain ⟨p, hp, hq⟩ := hr
      obtain ⟨hs, hl⟩ := mem_rims hq
      have hpl := hp.len
      match n, hn with
      | 0, hn => omega
      | n + 1, hn =>
        obtain ⟨_, w, hw, hs'⟩ := Grt.up G n p (by omega) hp
        exact ⟨h.1, w, hw, hs.trans hs'⟩
    · refine ⟨h.1, q, (G.mem q).mpr ⟨h, fun p hp hq => hr ⟨p, hp, hq⟩⟩, List.Sublist.refl q⟩
theorem Grt.in_iff {W g : List Pc} (G : Grt W g) (q : Pc) : In q g ↔ In q W :=
  ⟨G.in_of, fun h => G.up _ q (Nat.le_add_left _ _) h⟩
theorem Grt.mem_in {W g : List Pc} (G : Grt W g) {q : Pc} (h : q ∈ g) : In q W := ((G.mem q).mp h).1
theorem In.self {W : List Pc} {p : Pc} (h : p ∈ W) (hp : p ≠ []) : In p W := ⟨hp, p, h, List.Sublist.refl p⟩
theorem Pcs.congr {W V l : List Pc} (h : Pcs W l) (e : ∀ q, In q W ↔ In q V) : Pcs V l := ⟨h.nd, fun q => (h.mem q).trans (e q)⟩

/-! ### what a piece is, what a web is -/
structure Pk (p : Pc) : Prop where
  ne : p ≠ []
  le : p.length ≤ 5
  up : Asc p
  bd : ∀ x ∈ p, 0 ≤ x ∧ x ≤ 99
structure Good (W : List Pc) : Prop where
  few : W.length ≤ 20
  nd : W.Nodup
  pk : ∀ p ∈ W, Pk p
  most : ∀ l, Pcs W l → l.length ≤ 200
theorem Pk.sub {p q : Pc} (h : Pk p) (hq : q ≠ []) (hs : q.Sublist p) : Pk q :=
  ⟨hq, Nat.le_trans hs.length_le h.le, List.Pairwise.sublist hs h.up, fun x hx => h.bd x (hs.mem hx)⟩
theorem In.pk {W : List Pc} {q : Pc} (h : In q W) (hW : ∀ p ∈ W, Pk p) : Pk q := by
  obtain ⟨hq, p, hp, hs⟩ := h
  exact (hW p hp).sub hq hs

/-! ### a bound on the number of pieces -/
def most (W : List Pc) : Nat := (W.map fun p => 2 ^ p.length).sum
theorem flat_len : ∀ W : List Pc, (W.flatMap parts).length ≤ most W
  | [] => Nat.le_refl _
  | p :: W => by
    unfold most
    rw [List.flatMap_cons, List.length_append, List.map_cons, List.sum_cons]
    exact Nat.add_le_add (length_parts p) (flat_len W)
theorem mem_flat {W : List Pc} {q : Pc} : q ∈ W.flatMap parts ↔ In q W := by
  rw [List.mem_flatMap]
  constructor
  · rintro ⟨p, hp, h⟩
    obtain ⟨h1, h2⟩ := mem_parts.mp h
    exact ⟨h1, p, hp, h2⟩
  · rintro ⟨h1, p, hp, h2⟩
    exact ⟨p, hp, mem_parts.mpr ⟨h1, h2⟩⟩
theorem nodup_len : ∀ {l m : List Pc}, l.Nodup → (∀ x ∈ l, x ∈ m) → l.length ≤ m.length
  | [], m, _, _ => Nat.zero_le _
  | x :: l, m, h, s => by
    obtain ⟨h1, h2⟩ := List.nodup_cons.mp h
    have hx : x ∈ m := s x List.mem_cons_self
    have hl : l.length ≤ (m.erase x).length := nodup_len h2 fun z hz => by
      have ne : z ≠ x := fun e => h1 (e ▸ hz)
      exact (List.mem_erase_of_ne ne).mpr (s z (List.mem_cons_of_mem _ hz))
    rw [List.length_erase_of_mem hx] at hl
    have hm : 0 < m.length := List.length_pos_of_mem hx
    rw [List.length_cons]
    omega
theorem Pcs.len_le {W l : List Pc} (h : Pcs W l) : l.length ≤ most W :=
  Nat.le_trans (nodup_len h.nd fun x hx => mem_flat.mpr ((h.mem x).mp hx)) (flat_len W)
theorem most_perm {W V : List Pc} (h : W.Perm V) : most W = most V := (h.map _).sum_nat

/-! ### the balance -/
def sgn (p : Pc) : Int := 1 - 2 * (1 - (p.length : Int) % 2)
def chi (l : List Pc) : Int := (l.map sgn).sum
theorem sum_perm {a b : List Int} (h : a.Perm b) : a.sum = b.sum := by
  induction h with
  | nil => rfl
  | cons x _ ih => rw [List.sum_cons, List.sum_cons, ih]
  | swap x y l => simp only [List.sum_cons]; omega
  | trans _ _ h1 h2 => exact h1.trans h2
theorem chi_perm {a b : List Pc} (h : a.Perm b) : chi a = chi b := sum_perm (h.map sgn)
theorem chi_app (a b : List Pc) : chi (a ++ b) = chi a + chi b := by
  unfold chi
  rw [List.map_append, List.sum_append]
theorem Pcs.chi_eq {W l m : List Pc} (h : Pcs W l) (k : Pcs W m) : chi l = chi m := chi_perm (h.perm k)

/-- A: both and shared -/
theorem nodup_filter {l : List Pc} (p : Pc → Bool) (h : l.Nodup) : (l.filter p).Nodup := List.Pairwise.filter p h
theorem both_shared {A B U S a b u s : List Pc} (ha : Pcs A a) (hb : Pcs B b) (hu : Pcs U u) (hs : Pcs S s)
    (eU : ∀ q, In q U ↔ In q A ∨ In q B) (eS : ∀ q, In q S ↔ In q A ∧ In q B) : chi u + chi s = chi a + chi b := by
  have h1 : s.Perm (b.filter fun q => decide (q ∈ a)) := by
    refine (List.perm_ext_iff_of_nodup hs.nd (nodup_filter _ hb.nd)).mpr fun q => ?_
    rw [hs.mem, eS, List.mem_filter, decide_eq_true_eq, ha.mem, hb.mem]
    exact And.comm
  have h2 : u.Perm (a ++ b.filter fun q => !decide (q ∈ a)) := by
    refine (List.perm_ext_iff_of_nodup hu.nd ?_).mpr fun q => ?_
    · refine List.nodup_append.mpr ⟨ha.nd, nodup_filter _ hb.nd, fun x hx y hy e => ?_⟩
      have := (List.mem_filter.mp hy).2
      rw [← e] at this
      simp [hx] at this
    · rw [hu.mem, eU, List.mem_append, List.mem_filter, ← ha.mem, ← hb.mem]
      by_cases h : q ∈ a
      · simp [h]
      · simp [h]
  have h3 := chi_perm (List.filter_append_perm (fun q => decide (q ∈ a)) b)
  rw [chi_app] at h3
  rw [chi_perm h1, chi_perm h2, chi_app]
  omega

/-! ### joins -/
/-- the points of both, ascending -/
def mg (x y : Pc) : Pc := (x ++ y).mergeSort fun a b => decide (a ≤ b)
theorem mg_perm (x y : Pc) : (mg x y).Perm (x ++ y) := List.mergeSort_perm _ _
theorem mem_mg {x y : Pc} {z : Int} : z ∈ mg x y ↔ z ∈ x ∨ z ∈ y := by
  rw [(mg_perm x y).mem_iff, List.mem_append]
theorem mg_len (x y : Pc) : (mg x y).length = x.length + y.length := by
  rw [(mg_perm x y).length_eq, List.length_append]
/-- a sorted list of unlike numbers is ascending -/
theorem asc_of {s : Pc} (h : s.Pairwise (· ≤ ·)) (hn : s.Nodup) : Asc s := by
  refine (List.pairwise_and_iff.mpr ⟨h, hn⟩).imp fun {x y} h => ?_
  have h1 : x ≤ y := h.1
  have h2 : x ≠ y := h.2
  show x < y
  omega
theorem app_nodup {x y : Pc} (hx : Asc x) (hy : Asc y) (d : ∀ z ∈ x, z ∉ y) : (x ++ y).Nodup :=
  List.nodup_append.mpr ⟨asc_nodup hx, asc_nodup hy, fun a ha b hb e => d a ha (e ▸ hb)⟩
theorem mg_asc {x y : Pc} (hx : Asc x) (hy : Asc y) (d : ∀ z ∈ x, z ∉ y) : Asc (mg x y) := by
  refine asc_of ?_ ((mg_perm x y).nodup_iff.mpr (app_nodup hx hy d))
  refine (List.pairwise_mergeSort (le := fun a b => decide (a ≤ b)) (fun a b c h1 h2 => ?_) (fun a b => ?_) (x ++ y)).imp fun h => of_decide_eq_true h
  · have := of_decide_eq_true h1
    have := of_decide_eq_true h2
    exact decide_eq_true (by omega)
  · rw [Bool.or_eq_true, decide_eq_true_eq, decide_eq_true_eq]
    omega
/-- taken from nought -/
def ev (p : Pc) : Int := 1 - 2 * ((p.length : Int) % 2)
theorem ev_sgn (p : Pc) : ev p = - sgn p := by
  unfold ev sgn
  omega
theorem ev_mg (x y : Pc) : ev (mg x y) = ev x * ev y := by
  unfold ev
  rw [mg_len]
  have hx : ((x.length : Int) % 2 = 0 ∨ (x.length : Int) % 2 = 1) := by omega
  have hy : ((y.length : Int) % 2 = 0 ∨ (y.length : Int) % 2 = 1) := by omega
  rcases hx with hx | hx <;> rcases hy with hy | hy
  · have : ((x.length + y.length : Nat) : Int) % 2 = 0 := by omega
    rw [hx, hy, this]; decide
  · have : ((x.length + y.length : Nat) : Int) % 2 = 1 := by omega
    rw [hx, hy, this]; decide
  · have : ((x.length + y.length : Nat) : Int) % 2 = 1 := by omega
    rw [hx, hy, this]; decide
  · have : ((x.length + y.length : Nat) : Int) % 2 = 0 := by omega
    rw [hx, hy, this]; decide
def evs (l : List Pc) : Int := (l.map ev).sum
theorem evs_chi : ∀ l : List Pc, evs l = - chi l
  | [] => rfl
  | p :: l => by
    have ih := evs_chi l
    unfold evs chi at ih ⊢
    rw [List.map_cons, List.map_cons, List.sum_cons, List.sum_cons, ih, ev_sgn]
    omega
theorem evs_perm {a b : List Pc} (h : a.Perm b) : evs a = evs b := sum_perm (h.map ev)
theorem evs_mul (x : Pc) : ∀ l : List Pc, evs (l.map fun y => mg x y) = ev x * evs l
  | [] => by
    show (0 : Int) = ev x * 0
    omega
  | y :: l => by
    have ih := evs_mul x l
    unfold evs at ih ⊢
    rw [List.map_cons, List.map_cons, List.map_cons, List.sum_cons, List.sum_cons, ih, ev_mg, Int.mul_add]
theorem evs_prod (b : List Pc) : ∀ a : List Pc, evs (a.flatMap fun x => b.map fun y => mg x y) = evs a * evs b
  | [] => by
    show (0 : Int) = 0 * _
    omega
  | x :: a => by
    have ih := evs_prod b a
    have hm := evs_mul x b
    unfold evs at ih hm ⊢
    rw [List.flatMap_cons, List.map_append, List.sum_append, ih, hm, List.map_cons, List.sum_cons, Int.add_mul]
theorem evs_nil (l : List Pc) : evs ([] :: l) = 1 - chi l := by
  have h := evs_chi l
  unfold evs at h ⊢
  rw [List.map_cons, List.sum_cons, h]
  show (1 : Int) - 2 * (0 % 2) + - chi l = _
  omega

/-- B: joined. gl, gr: the greatest pieces of the one, of the other; fs: the joined ones -/
structure Join (gl gr fs : List Pc) : Prop where
  of : ∀ s ∈ fs, ∃ a ∈ gl, ∃ b ∈ gr, s.Perm (a ++ b) ∧ Asc s
  has : ∀ a ∈ gl, ∀ b ∈ gr, ∃ s ∈ fs, s.Perm (a ++ b) ∧ Asc s
/-- no shared point -/
def Apart (A B : List Pc) : Prop := ∀ p, In p A → ∀ q, In q B → ∀ z ∈ p, z ∉ q
theorem Apart.of_points {A B : List Pc} (h : ∀ x, In [x] A → ¬ In [x] B) : Apart A B := fun p hp q hq z hz hz' =>
  h z (hp.part (by simp) (List.singleton_sublist.mpr hz)) (hq.part (by simp) (List.singleton_sublist.mpr hz'))
section
variable {A B gl gr fs a b j : List Pc}
theorem mem0 {W l : List Pc} (h : Pcs W l) (q : Pc) : q ∈ [] :: l ↔ q = [] ∨ In q W := by rw [List.mem_cons, h.mem]
theorem join_mem (pa : ∀ p, In p A → Pk p) (pb : ∀ p, In p B → Pk p) (d : Apart A B) (Ga : Grt A gl) (Gb : Grt B gr) (na : gl ≠ []) (nb : gr ≠ []) (J : Join gl gr fs) (ha : Pcs A a) (hb : Pcs B b) (hj : Pcs fs j) (q : Pc) :
    q ∈ [] :: j ↔ q ∈ ([] :: a).flatMap fun x => ([] :: b).map fun y => mg x y := by
  rw [mem0 hj, List.mem_flatMap]
  have ina : ∀ p ∈ gl, In p A := fun p hp => Ga.mem_in hp
  have inb : ∀ p ∈ gr, In p B := fun p hp => Gb.mem_in hp
  constructor
  · intro h
    obtain ⟨p, hp, r, hr, hq, hqs⟩ : ∃ p ∈ gl, ∃ r ∈ gr, Asc q ∧ ∀ z ∈ q, z ∈ p ∨ z ∈ r := by
      rcases h with rfl | ⟨_, s, hs, hqs⟩
      · obtain ⟨p, hp⟩ := List.exists_mem_of_ne_nil gl na
        obtain ⟨r, hr⟩ := List.exists_mem_of_ne_nil gr nb
        exact ⟨p, hp, r, hr, List.Pairwise.nil, fun z hz => by cases hz⟩
      · obtain ⟨p, hp, r, hr, hperm, hasc⟩ := J.of s hs
        exact ⟨p, hp, r, hr, List.Pairwise.sublist hqs hasc, fun z hz => List.mem_append.mp (hperm.mem_iff.mp (hqs.mem hz))⟩
    have Ap := ina p hp
    have Br := inb r hr
    refine ⟨q.filter fun z => decide (z ∈ p), ?_, List.mem_map.mpr ⟨q.filter fun z => decide (z ∈ r), ?_, ?_⟩⟩
    · refine (mem0 ha _).mpr ?_
      by_cases e : (q.filter fun z => decide (z ∈ p)) = []
      · exact .inl e
      · refine .inr (Ap.part e (asc_sub (List.Pairwise.filter _ hq) (pa p Ap).up fun z hz => ?_))
        exact of_decide_eq_true (List.mem_filter.mp hz).2
    · refine (mem0 hb _).mpr ?_
      by_cases e : (q.filter fun z => decide (z ∈ r)) = []
      · exact .inl e
      · refine .inr (Br.part e (asc_sub (List.Pairwise.filter _ hq) (pb r Br).up fun z hz => ?_))
        exact of_decide_eq_true (List.mem_filter.mp hz).2
    · refine asc_ext (mg_asc (List.Pairwise.filter _ hq) (List.Pairwise.filter _ hq) fun z h1 h2 => ?_) hq fun z => ?_
      · have h1 := of_decide_eq_true (List.mem_filter.mp h1).2
        have h2 := of_decide_eq_true (List.mem_filter.mp h2).2
        exact d p Ap r Br z h1 h2
      · rw [mem_mg, List.mem_filter, List.mem_filter, decide_eq_true_eq, decide_eq_true_eq]
        constructor
        · rintro (h | h)
          · exact h.1
          · exact h.1
        · intro h
          rcases hqs z h with k | k
          · exact .inl ⟨h, k⟩
          · exact .inr ⟨h, k⟩
  · rintro ⟨x, hx, h⟩
    obtain ⟨y, hy, rfl⟩ := List.mem_map.mp h
    obtain ⟨p, hp, hxp⟩ : ∃ p ∈ gl, x.Sublist p := by
      rcases (mem0 ha x).mp hx with rfl | h
      · obtain ⟨p, hp⟩ := List.exists_mem_of_ne_nil gl na
        exact ⟨p, hp, List.nil_sublist _⟩
      · obtain ⟨_, p, hp, hs⟩ := (Ga.in_iff x).mpr h
        exact ⟨p, hp, hs⟩
    obtain ⟨r, hr, hyr⟩ : ∃ r ∈ gr, y.Sublist r := by
      rcases (mem0 hb y).mp hy with rfl | h
      · obtain ⟨r, hr⟩ := List.exists_mem_of_ne_nil gr nb
        exact ⟨r, hr, List.nil_sublist _⟩
      · obtain ⟨_, r, hr, hs⟩ := (Gb.in_iff y).mpr h
        exact ⟨r, hr, hs⟩
    obtain ⟨s, hs, hperm, hasc⟩ := J.has p hp r hr
    by_cases e : mg x y = []
    · exact .inl e
    · refine .inr ⟨e, s, hs, asc_sub ?_ hasc fun z hz => ?_⟩
      · refine mg_asc (List.Pairwise.sublist hxp (pa p (ina p hp)).up) (List.Pairwise.sublist hyr (pb r (inb r hr)).up) fun z h1 h2 => ?_
        exact d p (ina p hp) r (inb r hr) z (hxp.mem h1) (hyr.mem h2)
      · refine hperm.mem_iff.mpr (List.mem_append.mpr ?_)
        rcases mem_mg.mp hz with h | h
        · exact .inl (hxp.mem h)
        · exact .inr (hyr.mem h)
theorem nodup0 {W l : List Pc} (h : Pcs W l) : ([] :: l : List Pc).Nodup := List.nodup_cons.mpr ⟨fun z => ((h.mem []).mp z).1 rfl, h.nd⟩
/-- where a point of a merged one comes from -/
theorem mg_left {x y x' y' : Pc} (e : mg x y = mg x' y') (d : ∀ z ∈ x, z ∉ y') : ∀ z ∈ x, z ∈ x' := fun z hz => by
  have h : z ∈ mg x' y' := by rw [← e]; exact mem_mg.mpr (.inl hz)
  rcases mem_mg.mp h with h | h
  · exact h
  · exact absurd h (d z hz)
theorem mg_right {x y x' y' : Pc} (e : mg x y = mg x' y') (d : ∀ z ∈ y, z ∉ x') : ∀ z ∈ y, z ∈ y' := fun z hz => by
  have h : z ∈ mg x' y' := by rw [← e]; exact mem_mg.mpr (.inr hz)
  rcases mem_mg.mp h with h | h
  · exact absurd h (d z hz)
  · exact h
theorem join_nodup (pa : ∀ p, In p A → Pk p) (pb : ∀ p, In p B → Pk p) (d : Apart A B) (ha : Pcs A a) (hb : Pcs B b) :
    (([] :: a).flatMap fun x => ([] :: b).map fun y => mg x y).Nodup := by
  have da : ∀ x ∈ [] :: a, ∀ y ∈ [] :: b, ∀ z ∈ x, z ∉ y := fun x hx y hy z hz hz' => by
    rcases (mem0 ha x).mp hx with rfl | h
    · cases hz
    · rcases (mem0 hb y).mp hy with rfl | k
      · cases hz'
      · exact d x h y k z hz hz'
  have aa : ∀ x ∈ [] :: a, Asc x := fun x hx => by
    rcases (mem0 ha x).mp hx with rfl | h
    · exact List.Pairwise.nil
    · exact (pa x h).up
  have ab : ∀ x ∈ [] :: b, Asc x := fun x hx => by
    rcases (mem0 hb x).mp hx with rfl | h
    · exact List.Pairwise.nil
    · exact (pb x h).up
  refine List.pairwise_flatMap.mpr ⟨fun x hx => ?_, ?_⟩
  · refine List.pairwise_map.mpr ?_
    refine List.Pairwise.imp_of_mem (fun {y y'} hy hy' ne e => ne ?_) (nodup0 hb)
    refine asc_ext (ab y hy) (ab y' hy') fun z => ⟨?_, ?_⟩
    · exact mg_right e (fun z h1 h2 => da x hx y hy z h2 h1) z
    · exact mg_right e.symm (fun z h1 h2 => da x hx y' hy' z h2 h1) z
  · refine List.Pairwise.imp_of_mem (fun {x x'} hx hx' ne u hu v hv e => ne ?_) (nodup0 ha)
    obtain ⟨y, hy, rfl⟩ := List.mem_map.mp hu
    obtain ⟨y', hy', rfl⟩ := List.mem_map.mp hv
    refine asc_ext (aa x hx) (aa x' hx') fun z => ⟨?_, ?_⟩
    · exact mg_left e (da x hx y' hy') z
    · exact mg_left e.symm (da x' hx' y hy) z
theorem join_chi (pa : ∀ p, In p A → Pk p) (pb : ∀ p, In p B → Pk p) (d : Apart A B) (Ga : Grt A gl) (Gb : Grt B gr) (na : gl ≠ []) (nb : gr ≠ []) (J : Join gl gr fs) (ha : Pcs A a) (hb : Pcs B b) (hj : Pcs fs j) :
    chi j - 1 = 0 - (chi a - 1) * (chi b - 1) := by
  have h := evs_perm ((List.perm_ext_iff_of_nodup (nodup0 hj) (join_nodup pa pb d ha hb)).mpr (join_mem pa pb d Ga Gb na nb J ha hb hj))
  rw [evs_prod, evs_nil, evs_nil, evs_nil] at h
  have e : (chi a - 1) * (chi b - 1) = (1 - chi a) * (1 - chi b) := by
    rw [show chi a - 1 = -(1 - chi a) by omega, show chi b - 1 = -(1 - chi b) by omega, Int.neg_mul_neg]
  rw [e, ← h]
  omega
end
end K74
set_option maxHeartbeats 3999999
/-! Own rules of the hand layer for this law: sorted of (int, tuple of ints), sorted of a tuple of ints, len of a set of tuples; pieces as data. -/
namespace K7R
open PySem PySem.Spec PyProof.Rows L2

/-! ### pieces as data -/
def pD (p : List Int) : PyData := .tuple (p.map .int)
theorem ints_lay : ∀ p : List Int, PyData.canLayAll0 (p.map PyData.int) = true
  | [] => by simp [PyData.canLayAll0]
  | x :: p => by simp [PyData.canLayAll0, PyData.canLay0, ints_lay p]
theorem ints_depth : ∀ p : List Int, PyData.depthAll (p.map PyData.int) = 0
  | [] => by simp [PyData.depthAll]
  | x :: p => by
    have h := ints_depth p
    simp only [List.map_cons, PyData.depthAll, h, PyData.depth]
    omega
theorem pD_lay (p : List Int) : (pD p).canLay0 = true := by simp [pD, PyData.canLay0, ints_lay p]
theorem pD_depth (p : List Int) : (pD p).depth ≤ 1 := by
  have h := ints_depth p
  simp only [pD, PyData.depth, h]
  omega
theorem pD_shaped (p : List Int) : SeqAt.shaped (pD p) = true := by
  have h := pD_depth p
  show ((pD p).canLay0 && decide ((pD p).depth ≤ 64)) = true
  rw [Bool.and_eq_true]
  exact ⟨pD_lay p, decide_eq_true (by omega)⟩
theorem pDs_lay : ∀ ps : List (List Int), PyData.canLayAll0 (ps.map pD) = true
  | [] => by simp [PyData.canLayAll0]
  | p :: ps => by simp [PyData.canLayAll0, pD_lay p, pDs_lay ps]
theorem pDs_depth : ∀ ps : List (List Int), PyData.depthAll (ps.map pD) ≤ 1
  | [] => by simp [PyData.depthAll]
  | p :: ps => by
    have h1 := pDs_depth ps
    have h2 := pD_depth p
    simp only [List.map_cons, PyData.depthAll]
    omega
theorem pDs_shaped (ps : List (List Int)) : SeqAt.shaped (.list (ps.map pD)) = true := by
  have h1 := pDs_depth ps
  have h2 : PyData.depth (.list (ps.map pD)) ≤ 64 := by
    simp only [PyData.depth]
    omega
  show (PyData.canLay0 (.list (ps.map pD)) && decide (PyData.depth (.list (ps.map pD)) ≤ 64)) = true
  rw [Bool.and_eq_true]
  exact ⟨by simp only [PyData.canLay0]; exact pDs_lay ps, decide_eq_true h2⟩
theorem ints_eqv : ∀ p q : List Int, PyData.eqvAll (p.map PyData.int) (q.map PyData.int) = decide (p = q)
  | [], [] => by simp [PyData.eqvAll]
  | [], y :: q => by simp [PyData.eqvAll]
  | x :: p, [] => by simp [PyData.eqvAll]
  | x :: p, y :: q => by
    have ih := ints_eqv p q
    have e : PyData.eqvAll ((x :: p).map PyData.int) ((y :: q).map PyData.int) = ((x == y) && PyData.eqvAll (p.map PyData.int) (q.map PyData.int)) := by simp only [List.map_cons, PyData.eqvAll, PyData.eqv]
    rw [e, ih, Bool.eq_iff_iff]
    simp
theorem pD_eqv (p q : List Int) : PyData.eqv (pD p) (pD q) = decide (p = q) := by
  have e : PyData.eqv (pD p) (pD q) = PyData.eqvAll (p.map PyData.int) (q.map PyData.int) := by simp only [pD, PyData.eqv]
  rw [e, ints_eqv]
theorem any_pD (q : List Int) : ∀ ps : List (List Int), ((ps.map pD).any fun z => PyData.eqv z (pD q)) = decide (q ∈ ps)
  | [] => by simp
  | p :: ps => by
    have ih := any_pD q ps
    rw [List.map_cons, List.any_cons, ih, pD_eqv, Bool.eq_iff_iff, Bool.or_eq_true, decide_eq_true_eq, decide_eq_true_eq, decide_eq_true_eq, List.mem_cons]
    constructor
    · rintro (h | h)
      · exact .inl h.symm
      · exact .inr h
    · rintro (h | h)
      · exact .inl h.symm
      · exact .inr h
theorem dp_ints {K : PySem.W.Frag} {H : Hp} : ∀ p : List Int, DpAll K H (p.map V.int) (p.map PyData.int)
  | [] => .nil
  | x :: p => .cons (.int x) (dp_ints p)
theorem dp_piece {K : PySem.W.Frag} {H : Hp} {t : Addr} {p : List Int} (h : SqT K H t (p.map V.int)) : Dp K H (.ref t) (pD p) := .tup h (dp_ints p)

/-! ### sorted of (int, tuple of ints): any number of them -/
/-- how such a pair is ranked: the leading int, then the tuple's -/
abbrev rank (key : Int × List Int) : List Int := key.1 :: key.2
/-- at v lies a pair that stands for key -/
def Leads (g : Heap) (v : Value) (key : Int × List Int) : Prop :=
  ∃ (pa ia : Addr) (tk : Tok) (inner : List Value), v = .ref pa ∧ IsTup g pa #[.int key.1 tk, .ref ia] ∧ IsTup g ia inner.toArray ∧ IntsAre inner key.2
theorem Leads.moved {g g' : Heap} {v : Value} {key : Int × List Int} (old : Leads g v key) (same : ∀ c u, g.get? c = some u → u.cls = .type "tuple" → g'.get? c = some u) : Leads g' v key := by
  obtain ⟨pa, ia, tk, inner, ev, ⟨u1, g1, c1, d1⟩, ⟨u2, g2, c2, d2⟩, hin⟩ := old
  exact ⟨pa, ia, tk, inner, ev, ⟨u1, same pa u1 g1 c1, c1, d1⟩, ⟨u2, same ia u2 g2 c2, c2, d2⟩, hin⟩
section
variable {prog : Program} {w : World} {A : Around} {s : Shared}
/-- one comparison of two of them -/
theorem leads_lt {x y : Value} {kx ky : Int × List Int} (room : A.units + 8 < cLine) (lx : Leads s.heap x kx) (ly : Leads s.heap y ky) :
    wpAny (model prog w) A (keyLt' (tuples' true) x y) (fun yes s' => s' = s ∧ yes = HT.lexLt (rank kx) (rank ky)) (fun _ _ => False) s := by
  obtain ⟨i, ns⟩ := kx
  obtain ⟨j, ms⟩ := ky
  obtain ⟨px, ix, tx, inx, ex, ⟨ox, gx, _, mx, dx⟩, tupx, hinx⟩ := lx
  obtain ⟨py, iy, ty, iny, ey, ⟨oy, gy, _, my, dy⟩, tupy, hiny⟩ := ly
  subst ex ey
  refine PySem.W.kat_lt gx dx gy dy (PySem.W.kat_cons (SeqAt.EqAt.int_int i tx j ty prog w _ _ ?_))
  by_cases hij : i = j
  · rw [show (i == j) = true by simpa using hij]
    have flat : min (pD ns).depth (pD ms).depth + 4 < cLine := by
      have d1 := pD_depth ns
      omega
    refine PySem.W.kat_yes (PySem.W.kat_cons (SeqAt.eqAt_reads (pD ns) (pD ms) A s (.ref ix) (.ref iy) [] [] (reads_tuple_ints tupx hinx) (reads_tuple_ints tupy hiny) (pD_lay ns) (pD_lay ms) (by have d1 := pD_depth ns; omega) prog w _ _ ?_))
    rw [pD_eqv, show HT.lexLt (rank (i, ns)) (rank (j, ms)) = HT.lexLt ns ms from (HT.lexLt_cons i j ns ms).trans (if_pos hij)]
    by_cases hnm : ns = ms
    · rw [decide_eq_true hnm, hnm]
      exact PySem.W.kat_yes (PySem.W.kat_nil (And.intro rfl ((NtL.swo_lexL id).refl ms).symm))
    · rw [decide_eq_false hnm]
      exact PySem.W.kat_no (PySem.W.kat_one _ _ (HT.lt_tupInts tupx tupy (by simpa using hinx) (by simpa using hiny) (by omega) (show s = s ∧ HT.lexLt ns ms = HT.lexLt ns ms from And.intro rfl rfl)))
  · rw [show (i == j) = false by simpa using hij, show HT.lexLt (rank (i, ns)) (rank (j, ms)) = decide (i < j) from (HT.lexLt_cons i j ns ms).trans (if_neg hij)]
    exact PySem.W.kat_no (oneLt_int (And.intro rfl rfl))
/-- the leading ints of all of them, as the sort looks at them -/
theorem leads_heads {g : Heap} (key : Value → Int × List Int) : ∀ vs : List Value, (∀ v ∈ vs, Leads g v (key v)) → ∃ heads : List Value, PySem.W.KatTups g vs heads ∧ heads.length = vs.length ∧ ∀ z ∈ heads, ∃ n tk, z = Value.int n tk := by
  intro vs
  induction vs with
  | nil => exact fun _ => ⟨[], .nil, rfl, fun z hz => absurd hz List.not_mem_nil⟩
  | cons v rest ih =>
    intro all
    obtain ⟨heads, tups, len, nums⟩ := ih fun u hu => all u (.tail _ hu)
    obtain ⟨pa, ia, tk, inner, ev, ⟨u1, g1, c1, n1, d1⟩, _, _⟩ := all v (.head _)
    rw [ev]
    refine ⟨.int (key v).1 tk :: heads, .cons g1 c1 d1 rfl tups, congrArg Nat.succ len, fun z hz => ?_⟩
    cases hz with
    | head => exact ⟨_, tk, rfl⟩
    | tail _ hz => exact nums z hz
/-- the whole of what the sort of any length asks -/
theorem leads_sortable {a : Addr} {vs : List Value} {key : Value → Int × List Int} (room : A.units + 8 < cLine) (some1 : vs ≠ []) (all : ∀ v ∈ vs, Leads s.heap v (key v)) (isL : ∀ u, s.heap.get? a = some u → u.cls ≠ .type "tuple") :
    SrtO.SortableO prog w A s a vs fun v u => HT.lexLt (rank (key v)) (rank (key u)) := by
  intro g' same
  have all' : ∀ v ∈ vs, Leads g' v (key v) := fun v hv => (all v hv).moved fun c u gu cu => same c u (fun ca => isL u (ca ▸ gu) cu) gu
  obtain ⟨heads, tups, len, nums⟩ := leads_heads key vs all'
  refine ⟨tuples' true, fun Q E hq => ?_, fun p q hp hq => leads_lt (s := { s with heap := g' }) room (all' _ hp) (all' _ hq)⟩
  have notT : (Value.type "int" != Value.type "tuple") = true := by rfl
  have ne0 : 0 < vs.length := List.length_pos_iff.mpr some1
  refine PySem.W.kat_kind (T := .type "int") tups (len ▸ ne0) (fun z hz => ?_) rfl (notT.symm ▸ hq)
  obtain ⟨n, tk, rfl⟩ := nums z hz
  exact PySem.W.Looks.now
end

/-- the key of what stands at v, read off the abstract heap -/
def unI : V → Int
  | .int i => i
  | _ => 0
def keyH (H : Hp) : V → Int × List Int
  | .ref a => match H a with
    | some (.tup [.int i, .ref b]) => match H b with
      | some (.tup xs) => (i, xs.map unI)
      | _ => (0, [])
    | _ => (0, [])
  | _ => (0, [])
theorem unI_map : ∀ ns : List Int, (ns.map V.int).map unI = ns
  | [] => rfl
  | n :: ns => by
    rw [List.map_cons, List.map_cons, unI_map ns]
    rfl
theorem keyH_eq {H : Hp} {t b : Addr} {i : Int} {ns : List Int} (h1 : H t = some (.tup [.int i, .ref b])) (h2 : H b = some (.tup (ns.map V.int))) : keyH H (.ref t) = (i, ns) := by
  show (match H t with
    | some (.tup [.int i, .ref b]) => match H b with
      | some (.tup xs) => (i, xs.map unI)
      | _ => (0, [])
    | _ => (0, [])) = (i, ns)
  rw [h1]
  show (match H b with
      | some (.tup xs) => (i, xs.map unI)
      | _ => (0, [])) = (i, ns)
  rw [h2]
  show (i, (ns.map V.int).map unI) = (i, ns)
  rw [unI_map]
/-- sorted(xs), xs a list of pairs (int, tuple of ints), any number of them: a new list, some arrangement of the same -/
def rSortedIT (K : PySem.W.Frag) : List V → Hp → VK → Prop := fun vs H Q => ∃ (a : Addr) (xs : List V), vs = [V.ref a] ∧ SqL K H a xs ∧
  (∀ x ∈ xs, ∃ (t : Addr) (i : Int) (b : Addr) (ns : List Int), x = V.ref t ∧ H t = some (.tup [.int i, .ref b]) ∧ H b = some (.tup (ns.map V.int))) ∧
  ∀ ys p, ys.Perm xs → H p = none → Q (.ref p) (upd H p (.lst ys))
section
variable {X : Cx}
theorem cr_sortedIT (room : X.A.units + 64 < cLine) : CallR X (.builtin "sorted") (rSortedIT X.K) := by
  intro pins s σ H args vals Q I ra hy
  obtain ⟨a, xs, rfl, listed, pairs, post⟩ := hy
  obtain ⟨held, rheld, isl, fits⟩ := I.list listed
  cases Vals.ref1 ra
  obtain ⟨eback, refs⟩ := refs_back rheld fun x hx => (pairs x hx).imp fun t ht => ht.choose_spec.choose_spec.choose_spec.1
  have all : ∀ v ∈ held, Leads s.heap v (keyH H (backV v)) := by
    intro v hv
    obtain ⟨t0, rfl⟩ := refs v hv
    have hx : V.ref t0 ∈ xs := eback ▸ List.mem_map_of_mem hv
    obtain ⟨t, i, b, ns, et, Ht, Hb⟩ := pairs _ hx
    cases et
    rw [show keyH H (backV (Value.ref t0)) = (i, ns) from keyH_eq Ht Hb]
    obtain ⟨_, two, rtwo, isT⟩ := I.hok t0 _ Ht
    obtain ⟨_, inner, rin, isB⟩ := I.hok b _ Hb
    obtain ⟨u1, u2, rfl, ⟨tk, rfl⟩, r2⟩ := vals2 rtwo
    cases r2
    exact ⟨t0, b, tk, inner, rfl, isT, isB, intsAre_of rin⟩
  refine SrtO.sorted_ord (NtL.swo_lexL fun v => rank (keyH H (backV v))) isl.isList (rheld.length ▸ fits) (fun two g a' ga same => ?_) fun out srt stb => ?_
  · refine leads_sortable (A := X.A.in1.in1) (s := { s with heap := g }) (key := fun v => keyH H (backV v)) (show X.A.units + 1 + 1 + 8 < cLine by omega) (fun e0 => by rw [e0] at two; exact absurd two (by decide)) (fun v hv => (all v hv).moved fun c u gu _ => (same c u gu).2) fun u gu cu => ?_
    cases Option.some.inj (gu.symm.trans ga)
    exact absurd (Value.type.inj cu) (by decide)
  · have outrefs : ∀ v ∈ out, ∃ t, v = Value.ref t := fun v hv => refs v (stb.perm.subset hv)
    have moved : (out.map backV).Perm xs := eback ▸ stb.perm.map backV
    obtain ⟨ep, lies⟩ := PyProof.Rows.sortedAll_at s.heap held out.toArray
    have newList : ObjOk X.prog X.w (upd H (s.heap.objs.size + 1) (.lst (out.map backV))) (sortedAll s.heap held out.toArray) (s.heap.objs.size + 1) (.lst (out.map backV)) :=
      ⟨moved.length_eq ▸ fits, out, ep, vals_back outrefs, lies⟩
    exact ⟨.ref _, _, I.laid (t' := s.toks) (fun _ _ => PyProof.Rows.sortedAll_old) (Nat.le_succ _) newList, rfl, post _ _ moved (I.hok.fresh (Nat.le_succ _))⟩

/-! ### sorted of a tuple of ints (fewer than 64) -/
def rSortedTI (K : PySem.W.Frag) : List V → Hp → VK → Prop := fun vs H Q => ∃ (a : Addr) (ns : List Int), vs = [V.ref a] ∧ SqT K H a (ns.map V.int) ∧ ns.length < 64 ∧
  ∀ (ns' : List Int) (p : Addr), ns'.Perm ns → ns'.Pairwise (· ≤ ·) → H p = none → Q (.ref p) (upd H p (.lst (ns'.map V.int)))
end
section
variable {X : Cx}
/-- in two steps: what the tuple is gathered into is kept by, what list.sort leaves is laid -/
theorem cr_sortedTI : CallR X (.builtin "sorted") (rSortedTI X.K) := by
  intro pins s σ H args vals Q I ra hy
  obtain ⟨a, ns, rfl, tup, few, post⟩ := hy
  obtain ⟨held, rheld, ⟨ob, hob, cls, nn, dat⟩, _⟩ := I.tuple tup
  cases Vals.ref1 ra
  have len : held.length = ns.length := by simpa using rheld.length.symm
  have fit : held.length ≤ sizeLine := by rw [sizeLine_eq]; omega
  refine Calls.call_function_entry kind_sorted plain_sorted entry_sorted (args_sorted1 _) ?_
  unfold Builtin.«sorted»
  refine wpAny_bind (m := checkCount "sorted" 1 1 _) (wpAny_pure (wpAny_bind ?_))
  refine wpAny_collect_seq a (.inr rfl) hob cls dat (fun g gk => wpAny_bind (wpAny_newList ?_ (by simpa using fit))) (by simpa using fit)
  have I1 : Inv X pins σ H { s with heap := g } := I.kept (t' := s.toks) gk
  have lies : (g.push (seqObj "list" held.toArray 0)).get? g.objs.size = some (seqObj "list" held.toArray 0) := Heap.get?_push_size g rfl
  have sort := fun R hR => list_sort_tree (prog := X.prog) (w := X.w) (A := X.A.in1.in1) (E := X.xe) (s := { s with heap := g.push (seqObj "list" held.toArray 0) }) (P := R) lies (intsAre_of rheld) (by omega) hR
  refine wpAny_bind (wpAny_holding (wpAny_call_entry slot_list_sort ⟨_, lies, rfl⟩ entry_list_sort (sort _ fun out ns' nums perm srt => ⟨_, rfl, wpAny_pure ⟨_, rfl, ?_⟩⟩) (args_list_sort _)))
  obtain ⟨ep, at'⟩ := PyProof.Rows.sortedHeap_at (out := out) lies
  have news : ObjOk X.prog X.w (upd H g.objs.size (.lst (ns'.map V.int))) (sortedHeap (g.push (seqObj "list" held.toArray 0)) g.objs.size held out) g.objs.size (.lst (ns'.map V.int)) :=
    ⟨by rw [List.length_map, perm.length_eq, sizeLine_eq]; omega, out.toList, ep, vals_of_ints nums, at'⟩
  refine ⟨.ref _, _, I1.laid (t' := s.toks) (fun c u gu => ?_) (Nat.le_refl _) news, rfl, post ns' _ perm srt (I1.hok.fresh (Nat.le_refl _))⟩
  have below : c < g.objs.size := Heap.lt_size gu
  exact (PyProof.Rows.sortedHeap_old (Nat.ne_of_lt below) (size_push' g _ ▸ Nat.lt_succ_of_lt below)).trans (Heap.get?_push_of_some _ gu)

/-! ### len of a set of tuples -/
theorem call_lenSetT : CallR X (.builtin "len") (fun xs H Q => ∃ (a : Addr) (L : List (Addr × List Int)), xs = [V.ref a] ∧ H a = some (SetTO X.prog X.w a L) ∧ (∀ p ∈ L, SqT X.K H p.1 (p.2.map V.int)) ∧ ((L.map (·.2)).Nodup → Q (.int L.length) H)) := by
  intro pins s σ H xs us Q I r h
  obtain ⟨a, L, rfl, ha, ht, q⟩ := h
  rw [Vals.ref1 r]
  have h0 : SetT0 X.prog X.w s.heap a L := (show ObjOk X.prog X.w H s.heap a (SetTO X.prog X.w a L) from I.hok a _ ha).1
  obtain ⟨es, ep, t, R⟩ := h0.full fun p hp => I.isT (ht p hp)
  obtain ⟨o, ho, hex, hd⟩ := R.ob
  have hsz := R.size
  have hfew := R.few
  exact call_len_set ho hex hd R.fits (by omega) ⟨.int L.length, H, I.tok _, ⟨_, by rw [hsz]⟩, q R.nd⟩
end
end K7R
set_option maxHeartbeats 3999999
/-! The text by places, what the walk leans on, heaps that hold pieces. -/
namespace K7
open PySem PySem.Spec PyProof.Rows L2 K7R K74

/-! ### the text -/
def top (i : Nat) : Stmt := PySem.Challenge.pw_seamwright_k74_whole_balances_together.main.body.getD i (.Pass ⟨0, 0, 0, 0⟩)
abbrev FnP (K : PySem.W.Frag) (x : Str) (st : Stmt) (f : Addr) (fd : FuncData) : Prop := FunD K x x (defArgs st) (defBody st) (defScope st) [] [] f fd
abbrev sIsPiece : Stmt := top 8
abbrev sPartsOf : Stmt := top 9
abbrev sRimsOf : Stmt := top 10
abbrev sInOrder : Stmt := top 11
abbrev sPiecesBy : Stmt := top 12
abbrev sIsWeb : Stmt := top 13
abbrev sMust : Stmt := top 14
abbrev sGreatest : Stmt := top 15
abbrev sBalance : Stmt := top 16
abbrev sBoth : Stmt := top 18
abbrev sShared : Stmt := top 19
abbrev sJoinedBy : Stmt := top 20
abbrev sJoined : Stmt := top 21
abbrev sCellAt : Stmt := top 23
abbrev sBox : Stmt := top 24
abbrev sTake : Stmt := top 25
abbrev sLParts : Stmt := top 26
abbrev sLPieces : Stmt := top 27
abbrev sKnown : Stmt := top 28
abbrev sNamed : Stmt := top 29
abbrev sWeb : Stmt := top 30
abbrev sTwo : Stmt := top 31
abbrev sLJoined : Stmt := top 32
abbrev sLaw : Stmt := top 33

/-- the module's names that are the built-in ones, the constants -/
structure Txt (mg : Str → Option Value) : Prop where
  len : mg "len" = none
  all : mg "all" = none
  range : mg "range" = none
  list : mg "list" = none
  sorted : mg "sorted" = none
  set : mg "set" = none
  sum : mg "sum" = none
  max : mg "max" = none
  tuple : mg "tuple" = none
  int : mg "int" = none
  told : ∃ t, mg "MOST_TOLD" = some (.int 20 t)
  pieces : ∃ t, mg "MOST_PIECES" = some (.int 200 t)
  inPiece : ∃ t, mg "MOST_IN_PIECE" = some (.int 5 t)
  point : ∃ t, mg "MOST_POINT" = some (.int 99 t)

/-! ### heaps -/
abbrev TupAt (H : Hp) (t : Addr) (p : Pc) : Prop := H t = some (.tup (p.map V.int))
abbrev refs (ks : List (Addr × Pc)) : List V := ks.map fun k => V.ref k.1
def Kn (H : Hp) (ks : List (Addr × Pc)) : Prop := ∀ k ∈ ks, TupAt H k.1 k.2
/-- at a a list of tuples, the pieces ps -/
def LpAt (H : Hp) (a : Addr) (ps : List Pc) : Prop := ∃ ks : List (Addr × Pc), H a = some (.lst (refs ks)) ∧ Kn H ks ∧ ks.map (·.2) = ps
theorem Kn.keep {H H' : Hp} {ks : List (Addr × Pc)} (h : Kn H ks) (e : Same H H') : Kn H' ks := fun k hk => e _ _ (h k hk)
theorem LpAt.keep {H H' : Hp} {a : Addr} {ps : List Pc} (h : LpAt H a ps) (e : Same H H') : LpAt H' a ps := by
  obtain ⟨ks, h1, h2, h3⟩ := h
  exact ⟨ks, e _ _ h1, h2.keep e, h3⟩
theorem same_upd {H : Hp} {p : Addr} {o : HO} (h : H p = none) : Same H (upd H p o) := fun b x e => by
  rw [upd_ne (ne_of_none e h)]
  exact e
/-- what is new behind H may be written -/
theorem same_wr {H H' : Hp} {p : Addr} {o : HO} (e : Same H H') (h : H p = none) : Same H (upd H' p o) := fun b x q => by
  rw [upd_ne (ne_of_none q h)]
  exact e b x q
theorem refs_at {ks : List (Addr × Pc)} {i : Nat} {x : V} (h : (refs ks)[i]? = some x) : ∃ k, ks[i]? = some k ∧ x = .ref k.1 := by
  rw [List.getElem?_map] at h
  cases e : ks[i]? with
  | none =>
    rw [e] at h
    cases h
  | some k =>
    rw [e] at h
    exact ⟨k, rfl, (Option.some.inj h).symm⟩
theorem refs_len (ks : List (Addr × Pc)) : (refs ks).length = ks.length := List.length_map _
theorem ints_at {p : Pc} {i : Nat} {x : V} (h : (p.map V.int)[i]? = some x) : ∃ k, p[i]? = some k ∧ x = .int k := by
  rw [List.getElem?_map] at h
  cases e : p[i]? with
  | none =>
    rw [e] at h
    cases h
  | some k =>
    rw [e] at h
    exact ⟨k, rfl, (Option.some.inj h).symm⟩
theorem small {n : Nat} (h : n ≤ 10000000) : n < sizeLine := Nat.lt_of_le_of_lt h (by rw [sizeLine_eq]; decide)
theorem smallE {n : Nat} (h : n ≤ 10000000) : n ≤ sizeLine := Nat.le_of_lt (small h)

theorem itD {p A B : Prop} [Decidable p] (hp : p) (h : A) : if decide p = true then A else B := by
  rw [decide_eq_true hp]
  exact iteT h
theorem itDF {p A B : Prop} [Decidable p] (hp : ¬ p) (h : B) : if decide p = true then A else B := by
  rw [decide_eq_false hp]
  exact iteF h
theorem iteN {A B : Prop} (h : B) : if (!true) = true then A else B := by
  rw [if_neg (by decide)]
  exact h
theorem iteB {c : Bool} {A B : Prop} (e : c = true) (h : A) : if c = true then A else B := by
  rw [if_pos e]
  exact h
theorem iteBF {c : Bool} {A B : Prop} (e : c = false) (h : B) : if c = true then A else B := by
  rw [if_neg (by rw [e]; decide)]
  exact h
theorem iteBN {c : Bool} {A B : Prop} (e : c = true) (h : B) : if (!c) = true then A else B := by
  rw [e]
  exact iteN h
/-- so many Trues -/
abbrev trues (n : Nat) : List Bool := List.replicate n true
theorem trues_next (i : Nat) : (trues i).map V.bl ++ [V.bl true] = (trues (i + 1)).map V.bl := by
  unfold trues
  rw [List.replicate_succ', List.map_append]
  rfl
theorem trues_at {b : Bool} (i : Nat) (h : b = true) : HO.lst ((trues i).map V.bl ++ [V.bl b]) = HO.lst ((trues (i + 1)).map V.bl) := by
  rw [h, trues_next]
theorem trues_len (i : Nat) : ((trues i).map V.bl).length = i := by rw [List.length_map, List.length_replicate]
theorem trues_all (i : Nat) : (trues i).all id = true := by
  rw [List.all_eq_true]
  intro x hx
  rw [List.eq_of_mem_replicate hx]
  rfl
theorem lt_of_at {α : Type} {l : List α} {i : Nat} {x : α} (h : l[i]? = some x) : i < l.length := (List.getElem?_eq_some_iff.mp h).1
theorem upd_eq {H : Hp} {a : Addr} {o u : HO} (e : o = u) : upd H a o a = some u := by
  rw [e]
  exact upd_same

section
variable {P : Program} {w : World} {K : PySem.W.Frag} {mg : Str → Option Value} {base : Heap}
/-! ### is_piece -/
def spIsPiece : Sp := fun vs H Q _ => ∃ (t : Addr) (p : Pc), vs = [.ref t] ∧ TupAt H t p ∧ Pk p ∧ ∀ H', Same H H' → Q (.bl true) H'
theorem scIsPiece : FnScope ["piece", "point", "k"] ["piece"] (defScope sIsPiece) := ⟨rfl, rfl, rfl, by decide +kernel, rfl, by decide +kernel, by decide +kernel⟩
theorem ok_is_piece {f : Addr} {fd : FuncData} (F : FnP K "is_piece" sIsPiece f fd) (T : Txt mg) : FnOk P w K mg base CX0 1 f fd ["piece"] spIsPiece := by
  obtain ⟨t5, m5⟩ := T.inPiece
  obtain ⟨t99, m99⟩ := T.point
  refine F.ok scIsPiece (fun vs H Q E h => ?_) (fun cdv A outer s H vs Q E hr h => ?_)
  · obtain ⟨t, p, rfl, _⟩ := h
    rfl
  · obtain ⟨t, p, rfl, ht, hp, q⟩ := h
    refine ⟨_, PSs.nox (pss_cons (ps_if (pt_not (pt_chain op_le op_le pe_int (pe_callB call_len_seq (by rfl) T.len PySem.boot_len (pa_cons (pv 0) pa_nil)) (pe_glob (v := .int 5) (by rfl) m5 ⟨_, rfl⟩))) (pss_one (ps_ret pe_bl)) pss_nil)
      (pss_cons (ps_if (pt_not (pt_val (pe_callB (cr_all rfl) (by rfl) T.all (by decide +kernel) (pa_cons
          (pe_lc (own := [("point", 1)]) (g := gName 1) (tt := tYes) rfl scIsPiece.nd (pi_tup (pv 0)) (blkOk_by (own := [("point", 1)]) (N := ["piece", "point", "k"]) (sc := defScope sIsPiece) (by decide +kernel)) (fun _ _ _ _ _ => pg_name (i := 1) scIsPiece.nd rfl (Or.inl rfl)) (fun _ _ _ _ _ => pts_nil)
            (fun _ _ _ _ _ => pe_chain op_le op_le pe_int (pv 1) (pe_glob (v := .int 99) (by rfl) m99 ⟨_, rfl⟩))) pa_nil)))) (pss_one (ps_ret pe_bl)) pss_nil)
      (pss_one (ps_ret (pe_callB (cr_all rfl) (by rfl) T.all (by decide +kernel) (pa_cons
          (pe_lc (own := [("k", 2)]) (g := gName 2) (tt := tYes) rfl scIsPiece.nd (pi_range2 (by rfl) T.range (pa_cons pe_int (pa_cons (pe_callB call_len_seq (by rfl) T.len PySem.boot_len (pa_cons (pv 0) pa_nil)) pa_nil))) (blkOk_by (own := [("k", 2)]) (N := ["piece", "point", "k"]) (sc := defScope sIsPiece) (by decide +kernel)) (fun _ _ _ _ _ => pg_name (i := 2) scIsPiece.nd rfl (Or.inl rfl)) (fun _ _ _ _ _ => pts_nil)
            (fun _ _ _ _ _ => pe_cmpR op_lt (pe_ix (r := rIxT K) ix_tup (pv 0) (pe_op op_sub (pv 2) pe_int) (fun _ _ => rfl)) (pe_ix (r := rIxT K) ix_tup (pv 0) (pv 2) (fun _ _ => rfl)) (nomark _))) pa_nil)))))), ?_⟩
    have hl : (p.map V.int).length = p.length := List.length_map _
    have hne : 1 ≤ p.length := List.length_pos_iff.mpr hp.ne
    have h5 := hp.le
    -- not 1 <= len(piece) <= 5
    refine ⟨.ref t, rfl, t, _, rfl, .inr (.inl (.inl ht)), 1, ((p.map V.int).length : Int), rfl, rfl, _, rfl, itD (by omega) ⟨_, _, rfl, rfl, _, rfl, iteNS (by omega) ?_⟩⟩
    -- not all([0 <= point <= 99 for point in piece])
    refine ⟨.ref t, rfl, t, rfl, ⟨_, .inl (.inl ht)⟩, fun D hD => lc_tup (K := K) (a := t) (xs := p.map V.int) (fun i H' => Same H H' ∧ H' D = some (.lst ((trues i).map V.bl)))
      ⟨same_upd hD, upd_same⟩ (fun i H' _ h => .inl (.inl (h.1 _ _ ht))) (fun i x H' hi h => ?_) (fun H1 h => ?_)⟩
    · obtain ⟨sm, hd⟩ := h
      obtain ⟨z, hz, rfl⟩ := ints_at hi
      have hb := hp.bd z (List.mem_of_getElem? hz)
      have hi5 := lt_of_at hz
      refine ⟨rfl, ⟨.int z, rfl, 0, z, rfl, rfl, _, rfl, itD hb.1 ⟨z, 99, rfl, rfl, _, hd, small (by rw [trues_len]; omega), same_wr sm hD, upd_eq ?_⟩⟩⟩
      exact trues_at i (decide_eq_true hb.2)
    · obtain ⟨sm, hd⟩ := h
      rw [List.length_map] at hd
      refine ⟨D, trues p.length, rfl, .inl (.inl hd), _, rfl, iteBN (trues_all _) ?_⟩
      have ht1 := sm _ _ ht
      -- return all([piece[k - 1] < piece[k] for k in range(1, len(piece))])
      refine ⟨.ref t, rfl, t, _, rfl, .inr (.inl (.inl ht1)), 1, ((p.map V.int).length : Int), rfl, ⟨by omega, by omega, by omega, by omega⟩, fun D2 hD2 => lc_range (lo := 1) (n := (((p.map V.int).length : Int) - 1).toNat) (fun i H' => Same H1 H' ∧ H' D2 = some (.lst ((trues i).map V.bl)))
        ⟨same_upd hD2, upd_same⟩ (fun i H' hi h => ?_) (fun H2 h => ?_)⟩
      · obtain ⟨sm2, hd2⟩ := h
        have ht2 := sm2 _ _ ht1
        have hi1 : i + 1 < p.length := by omega
        have hi0 : i < p.length := by omega
        have g1 : (p.map V.int)[i]? = some (.int p[i]) := by rw [List.getElem?_map, List.getElem?_eq_getElem hi0]; rfl
        have g2 : (p.map V.int)[i + 1]? = some (.int p[i + 1]) := by rw [List.getElem?_map, List.getElem?_eq_getElem hi1]; rfl
        have hlt : p[i] < p[i + 1] := List.pairwise_iff_getElem.mp hp.up i (i + 1) hi0 hi1 (by omega)
        refine ⟨rfl, ⟨.ref t, rfl, .int (1 + i), rfl, _, _, rfl, rfl, t, _, (1 + (i : Int)) - 1, _, rfl, rfl, .inl (.inl ht2), at_of (j := i) (by omega) g1, .ref t, rfl, .int (1 + i), rfl, t, _, 1 + (i : Int), _, rfl, rfl, .inl (.inl ht2), at_of (j := i + 1) (by omega) g2,
          p[i], p[i + 1], rfl, rfl, _, hd2, small (by rw [trues_len]; omega), same_wr sm2 hD2, upd_eq ?_⟩⟩
        exact trues_at i (decide_eq_true hlt)
      · obtain ⟨sm2, hd2⟩ := h
        refine ⟨D2, _, rfl, .inl (.inl hd2), ?_⟩
        rw [trues_all]
        exact q H2 (sm.trans sm2)
end
end K7
set_option maxHeartbeats 3999999
/-! Lists of pieces on the heap; parts_of, rims_of, in_order. -/
namespace K7
open PySem PySem.Spec PyProof.Rows L2 K7R K74

theorem LpAt.sq {K : PySem.W.Frag} {H : Hp} {a : Addr} {ps : List Pc} (h : LpAt H a ps) : ∃ xs, SqL K H a xs := by
  obtain ⟨ks, h1, _, _⟩ := h
  exact ⟨_, .inl (.inl h1)⟩
theorem LpAt.seq {K : PySem.W.Frag} {H : Hp} {a : Addr} {ps : List Pc} (h : LpAt H a ps) : ∃ xs, SqL K H a xs ∧ xs.length = ps.length := by
  obtain ⟨ks, h1, _, h3⟩ := h
  exact ⟨_, .inl (.inl h1), by rw [refs_len, ← h3, List.length_map]⟩
theorem LpAt.nil {H : Hp} {a : Addr} (h : H a = some (.lst [])) : LpAt H a [] := ⟨[], h, fun _ hk => (by cases hk), rfl⟩
theorem kn_off {H : Hp} {D : Addr} {xs : List V} {o : HO} {ks : List (Addr × Pc)} (h : Kn H ks) (hd : H D = some (.lst xs)) : Kn (upd H D o) ks := fun k hk => by
  have hk' := h k hk
  have ne : k.1 ≠ D := ne_of hk' hd (by intro z; cases z)
  show upd H D o k.1 = _
  rw [upd_ne ne]
  exact hk'
/-- one more piece -/
theorem lp_push {H : Hp} {D a : Addr} {ps : List Pc} {q : Pc} (h : LpAt H D ps) (ha : TupAt H a q) : ∃ acc, H D = some (.lst acc) ∧ acc.length = ps.length ∧ LpAt (upd H D (.lst (acc ++ [.ref a]))) D (ps ++ [q]) := by
  obtain ⟨ks, h1, h2, h3⟩ := h
  refine ⟨_, h1, by rw [refs_len, ← h3, List.length_map], ks ++ [(a, q)], ?_, ?_, ?_⟩
  · rw [upd_same]
    show some (HO.lst (refs ks ++ [V.ref a])) = some (HO.lst (refs (ks ++ [(a, q)])))
    rw [show refs (ks ++ [(a, q)]) = refs ks ++ [V.ref a] from List.map_append]
  · refine kn_off (xs := refs ks) (fun k hk => ?_) h1
    rcases List.mem_append.mp hk with hk | hk
    · exact h2 k hk
    · rw [List.mem_singleton.mp hk]
      exact ha
  · rw [List.map_append, h3]
    rfl
/-- extended by another list -/
theorem lp_ext {H : Hp} {o D : Addr} {ps qs : List Pc} (h : LpAt H o ps) (g : LpAt H D qs) : ∃ xs zs, H o = some (.lst xs) ∧ H D = some (.lst zs) ∧ xs.length = ps.length ∧ zs.length = qs.length ∧ LpAt (upd H o (.lst (xs ++ zs))) o (ps ++ qs) := by
  obtain ⟨ks, h1, h2, h3⟩ := h
  obtain ⟨ms, g1, g2, g3⟩ := g
  refine ⟨_, _, h1, g1, by rw [refs_len, ← h3, List.length_map], by rw [refs_len, ← g3, List.length_map], ks ++ ms, ?_, ?_, ?_⟩
  · rw [upd_same]
    show some (HO.lst (refs ks ++ refs ms)) = some (HO.lst (refs (ks ++ ms)))
    rw [show refs (ks ++ ms) = refs ks ++ refs ms from List.map_append]
  · refine kn_off (xs := refs ks) (fun k hk => ?_) h1
    rcases List.mem_append.mp hk with hk | hk
    · exact h2 k hk
    · exact g2 k hk
  · rw [List.map_append, h3, g3]
theorem LpAt.get {H : Hp} {a : Addr} {ps : List Pc} (h : LpAt H a ps) : ∃ ks, H a = some (.lst (refs ks)) ∧ Kn H ks ∧ ks.map (·.2) = ps := h
/-- a comprehension over a list of pieces -/
theorem lc_lp {K : PySem.W.Frag} {a : Addr} {ps : List Pc} {H0 : Hp} {g : TG} {tt : TT} {te : TE} {vs : List Nat} {σ : L2.St} {H1 : Hp} {D : Addr} {Qd : Hp → Prop} (src : LpAt H0 a ps) (Pv : Nat → Hp → Prop) (h0 : Pv 0 (upd H1 D (.lst []))) (keep : ∀ i H, Pv i H → Same H0 H)
    (hs : ∀ i t q H, ps[i]? = some q → TupAt H t q → Pv i H → g (.ref t) (wipe σ vs) H fun σ2 H2 => wipe σ2 vs = wipe σ vs ∧ tt σ2 H2 fun b H3 =>
      if b = true then te σ2 H3 fun y Hy => ∃ had, Hy D = some (.lst had) ∧ had.length < sizeLine ∧ Pv (i + 1) (upd Hy D (.lst (had ++ [y]))) else Pv (i + 1) H3) (hd : ∀ H, Pv ps.length H → Qd H) :
    ∃ Run : Nat → Nat → Hp → Prop, (∃ m, Run 0 m (upd H1 D (.lst []))) ∧ ∀ i m H, Run i m H →
      ((Itl K a).stop i H ∧ Qd H) ∨ ((Itl K a).go i H ∧ ∃ Nxt : Hp → Prop, (∀ H', Nxt H' → ∃ m', m' < m ∧ Run (i + 1) m' H') ∧ ∀ x H', (Itl K a).yld i H x H' → g x (wipe σ vs) H' fun σ2 H2 => wipe σ2 vs = wipe σ vs ∧ tt σ2 H2 fun b H3 =>
        if b = true then te σ2 H3 fun y Hy => ∃ had, Hy D = some (.lst had) ∧ had.length < sizeLine ∧ Nxt (upd Hy D (.lst (had ++ [y]))) else Nxt H3) := by
  obtain ⟨ks, h1, h2, h3⟩ := src
  have hl : (refs ks).length = ps.length := by rw [refs_len, ← h3, List.length_map]
  refine lc_list (K := K) (a := a) (xs := refs ks) Pv h0 (fun i H _ p => .inl (.inl (keep i H p _ _ h1))) (fun i x H hi p => ?_) (fun H p => hd H (hl ▸ p))
  obtain ⟨k, hk, rfl⟩ := refs_at hi
  refine hs i k.1 k.2 H ?_ (keep i H p _ _ (h2 k (List.mem_of_getElem? hk))) p
  rw [← h3, List.getElem?_map, hk]
  rfl
/-- a for over a list of pieces -/
theorem for_lp {K : PySem.W.Frag} {a : Addr} {ps : List Pc} {H0 : Hp} {g : TG} {tb : TS} {D : Ends} {σ : L2.St} {H1 : Hp} (src : LpAt H0 a ps) (Pv : Nat → L2.St → Hp → Prop) (h0 : Pv 0 σ H1) (keep : ∀ i σ H, Pv i σ H → Same H0 H)
    (hs : ∀ i t q σ H, ps[i]? = some q → TupAt H t q → Pv i σ H → g (.ref t) σ H fun σ2 H2 => tb { D with nx := Pv (i + 1), ct := Pv (i + 1), bk := D.nx } σ2 H2) (hd : ∀ σ H, Pv ps.length σ H → D.nx σ H) :
    ∃ W : Nat → Nat → L2.St → Hp → Prop, (∃ m, W 0 m σ H1) ∧ ∀ i m σ H, W i m σ H →
      ((Itl K a).stop i H ∧ D.nx σ H) ∨ ((Itl K a).go i H ∧ ∃ N : L2.St → Hp → Prop, (∀ σ' H', N σ' H' → ∃ m', m' < m ∧ W (i + 1) m' σ' H') ∧ ∀ x H', (Itl K a).yld i H x H' → g x σ H' fun σ2 H2 => tb { D with nx := N, ct := N, bk := D.nx } σ2 H2) := by
  obtain ⟨ks, h1, h2, h3⟩ := src
  have hl : (refs ks).length = ps.length := by rw [refs_len, ← h3, List.length_map]
  refine for_list (K := K) (a := a) (xs := refs ks) Pv h0 (fun i σ H _ p => .inl (.inl (keep i σ H p _ _ h1))) (fun i x σ H hi p => ?_) (fun σ H p => hd σ H (hl ▸ p))
  obtain ⟨k, hk, rfl⟩ := refs_at hi
  refine hs i k.1 k.2 σ H ?_ (keep i σ H p _ _ (h2 k (List.mem_of_getElem? hk))) p
  rw [← h3, List.getElem?_map, hk]
  rfl
theorem tup_sq {K : PySem.W.Frag} {H : Hp} {t : Addr} {p : Pc} (h : TupAt H t p) : SqT K H t (p.map V.int) := .inl (.inl h)

section
variable {P : Program} {w : World} {K : PySem.W.Frag} {mg : Str → Option Value} {base : Heap}
/-! ### parts_of -/
def spPartsOf : Sp := fun vs H Q _ => ∃ (t : Addr) (p : Pc), vs = [.ref t] ∧ TupAt H t p ∧ p.length ≤ 10 ∧ ∀ H' r, Same H H' → H r = none → LpAt H' r (parts p) → Q (.ref r) H'
theorem scPartsOf : FnScope ["piece", "found", "point", "part"] ["piece"] (defScope sPartsOf) := ⟨rfl, rfl, rfl, by decide +kernel, rfl, by decide +kernel, by decide +kernel⟩
theorem parts0_take {p : Pc} {i : Nat} {x : Int} (h : p[i]? = some x) : parts0 (p.take (i + 1)) = parts0 (p.take i) ++ (parts0 (p.take i)).map (· ++ [x]) := by
  rw [take_next h, parts0_snoc]
theorem parts0_few {p : Pc} (i : Nat) (h : p.length ≤ 10) : (parts0 (p.take i)).length ≤ 1024 := by
  rw [length_parts0]
  refine Nat.le_trans (Nat.pow_le_pow_right (by decide) (show (p.take i).length ≤ 10 from ?_)) (by decide)
  rw [List.length_take]
  omega
theorem ok_parts_of {f : Addr} {fd : FuncData} (F : FnP K "parts_of" sPartsOf f fd) (T : Txt mg) : FnOk P w K mg base CX0 1 f fd ["piece"] spPartsOf := by
  refine F.ok scPartsOf (fun vs H Q E h => ?_) (fun cdv A outer s H vs Q E hr h => ?_)
  · obtain ⟨t, p, rfl, _⟩ := h
    rfl
  · obtain ⟨t, p, rfl, ht, hp, q⟩ := h
    refine ⟨_, PSs.nox (pss_cons (ps_set (i := 1) scPartsOf.nd rfl (.inl rfl) (pe_lst (pa_cons (pe_tup pa_nil) pa_nil)))
      (pss_cons (ps_for PassesOwn.never rfl (pi_tup (pv 0)) (pg_name (i := 2) scPartsOf.nd rfl (Or.inr rfl))
        (pss_one (ps_expr (pe_bm PySem.F.plainAttrs_list PySem.F.slot_list_extend PySem.F.type_list_extend mt_extend (pv 1) (pa_cons
          (pe_lc (own := [("part", 3)]) (g := gName 3) (tt := tYes) rfl scPartsOf.nd (pi_list (pe_callTy call_list_of (by rfl) T.list (by decide +kernel) (pa_cons (pv 1) pa_nil))) (blkOk_by (own := [("part", 3)]) (N := ["piece", "found", "point", "part"]) (sc := defScope sPartsOf) (by decide +kernel)) (fun _ _ _ _ _ => pg_name (i := 3) scPartsOf.nd rfl (Or.inl rfl)) (fun _ _ _ _ _ => pts_nil)
            (fun _ _ _ _ _ => pe_op (r := rCatA K) op_catA (pv 3) (pe_tup (pa_cons (pv 2) pa_nil)))) pa_nil)))))
      (pss_one (ps_ret (pe_lc (own := [("part", 3)]) (g := gName 3) rfl scPartsOf.nd (pi_list (pv 1)) (blkOk_by (own := [("part", 3)]) (N := ["piece", "found", "point", "part"]) (sc := defScope sPartsOf) (by decide +kernel)) (fun _ _ _ _ _ => pg_name (i := 3) scPartsOf.nd rfl (Or.inl rfl))
            (fun _ _ _ _ _ => pts_one (pt_cmpR (r := rNeD K) (op_neD hr.units) (pv 3) (pe_tup pa_nil) (nomark _))) (fun _ _ _ _ _ => pv 3)))))), ?_⟩
    -- found = [()]
    refine ⟨Nat.zero_le _, fun e he => ⟨by show 1 ≤ sizeLine; exact smallE (by decide), fun o ho => ?_⟩⟩
    have s1 : Same H (upd H e (.tup [])) := same_upd he
    have s2 : Same H (upd (upd H e (.tup [])) o (.lst [.ref e])) := s1.trans (same_upd ho)
    have ho0 : H o = none := s1.free ho
    -- for point in piece
    refine ⟨.ref t, rfl, t, rfl, ⟨_, tup_sq (s2 _ _ ht)⟩, for_tup (K := K) (a := t) (xs := p.map V.int) (fun i σ H' => ∃ y2, σ = [some (.ref t), some (.ref o), y2, none] ∧ Same H H' ∧ LpAt H' o (parts0 (p.take i)))
      ⟨none, rfl, s2, [(e, [])], ?_, ?_, rfl⟩ (fun i σ H' _ ⟨_, _, sm, _⟩ => tup_sq (sm _ _ ht)) ?_ ?_⟩
    · rw [upd_same]
      rfl
    · intro k hk
      rw [List.mem_singleton.mp hk]
      show upd (upd H e (.tup [])) o _ e = some (.tup [])
      rw [upd_ne (show e ≠ o from fun z => by rw [← z, upd_same] at ho; cases ho), upd_same]
    · rintro i x σ H1 hi ⟨y2, rfl, sm, ol⟩
      obtain ⟨z, hz, rfl⟩ := ints_at hi
      obtain ⟨ks, e1, e2, e3⟩ := id ol
      have hfew := parts0_few i hp
      have hkl : ks.length ≤ 1024 := by rw [← List.length_map (f := (·.2)), e3]; exact hfew
      -- found.extend([part + (point,) for part in list(found)])
      refine ⟨.ref o, rfl, .inl ⟨rfl, _, .inl (.inl e1)⟩, .ref o, rfl, o, _, rfl, .inl (.inl (.inl e1)), fun l hl => ⟨l, rfl, ⟨_, .inl (.inl upd_same)⟩, fun D hD => ?_⟩⟩
      have sl : Same H1 (upd H1 l (.lst (refs ks))) := same_upd hl
      have src : LpAt (upd H1 l (.lst (refs ks))) l (parts0 (p.take i)) := ⟨ks, upd_same, e2.keep sl, e3⟩
      refine lc_lp src (fun j H2 => Same (upd H1 l (.lst (refs ks))) H2 ∧ LpAt H2 D (((parts0 (p.take i)).take j).map (· ++ [z])))
        ⟨same_upd hD, LpAt.nil upd_same⟩ (fun j H2 h => h.1) (fun j u q' H2 hj hu ⟨sm2, dl⟩ => ?_) (fun H2 ⟨sm2, dl⟩ => ?_)
      · have hjl := lt_of_at hj
        refine ⟨rfl, .ref u, rfl, .int z, rfl, by show 1 ≤ sizeLine; exact smallE (by decide), fun v hv => ?_⟩
        have sv : Same H2 (upd H2 v (.tup [.int z])) := same_upd hv
        have nx : ∀ (H3 : Hp) (c : Addr), Same H2 H3 → TupAt H3 c (q' ++ [z]) → ∃ acc, H3 D = some (.lst acc) ∧ acc.length < sizeLine ∧ Same (upd H1 l (.lst (refs ks))) (upd H3 D (.lst (acc ++ [.ref c]))) ∧ LpAt (upd H3 D (.lst (acc ++ [.ref c]))) D (((parts0 (p.take i)).take (j + 1)).map (· ++ [z])) := by
          intro H3 c s3 hc
          obtain ⟨acc, a1, a2, a3⟩ := lp_push (dl.keep s3) hc
          refine ⟨acc, a1, small (by rw [a2, List.length_map, List.length_take]; omega), same_wr (sm2.trans s3) hD, ?_⟩
          rw [take_next hj, List.map_append]
          exact a3
        refine ⟨u, v, _, [.int z], rfl, rfl, tup_sq (sv _ _ hu), .inl (.inl upd_same), ?_, fun e0 => ?_, fun _ e0 => ?_, fun _ _ c hc => ?_⟩
        · rw [List.length_map]
          have hq : q'.length ≤ 10 := Nat.le_trans (mem_parts0.mp (List.mem_of_getElem? hj)).length_le (by rw [List.length_take]; omega)
          exact smallE (by show q'.length + 1 ≤ 10000000; omega)
        · have e0' : q' = [] := List.map_eq_nil_iff.mp e0
          refine nx _ v sv ?_
          rw [e0']
          exact upd_same
        · cases e0
        · refine nx _ c (sv.trans (same_upd hc)) ?_
          show upd _ c _ c = _
          rw [upd_same, List.map_append]
          rfl
      · have dl2 := dl
        rw [List.take_length] at dl2
        obtain ⟨xs, zs, b1, b2, b3, b4, b5⟩ := lp_ext ((ol.keep sl).keep sm2) dl2
        refine ⟨o, D, xs, zs, rfl, rfl, b1, b2, smallE (by rw [b3, b4, List.length_map]; omega), some (.int z), rfl, same_wr ((sm.trans sl).trans sm2) ho0, ?_⟩
        rw [parts0_take hz]
        exact b5
    · rintro σ H1 ⟨y2, rfl, sm, ol⟩
      rw [List.length_map, List.take_length] at ol
      -- return [part for part in found if part != ()]
      refine ⟨.ref o, rfl, o, rfl, ol.sq, fun D hD => ?_⟩
      refine lc_lp ol (fun j H2 => Same H1 H2 ∧ LpAt H2 D (((parts0 p).take j).filter fun q => decide (q ≠ [])))
        ⟨same_upd hD, LpAt.nil upd_same⟩ (fun j H2 h => h.1) (fun j u q' H2 hj hu ⟨sm2, dl⟩ => ?_) (fun H2 ⟨sm2, dl⟩ => ?_)
      · have hjl := lt_of_at hj
        refine ⟨rfl, .ref u, rfl, Nat.zero_le _, fun v hv => ?_⟩
        have sv : Same H2 (upd H2 v (.tup [])) := same_upd hv
        refine ⟨pD q', pD [], dp_piece (tup_sq (sv _ _ hu)), dp_piece (.inl (.inl upd_same)), pD_shaped _, pD_shaped _, _, rfl, ?_⟩
        rw [pD_eqv]
        refine ite2 (fun c => ?_) (fun c => ?_)
        · have hne : q' ≠ [] := by simpa using c
          obtain ⟨acc, a1, a2, a3⟩ := lp_push (dl.keep sv) (sv _ _ hu)
          have hlen : acc.length ≤ 1024 := by
            rw [a2]
            have h1 := List.length_filter_le (fun q : Pc => decide (q ≠ [])) ((parts0 p).take j)
            have h2 := parts0_few p.length hp
            rw [List.take_length] at h2
            rw [List.length_take] at h1
            omega
          refine ⟨.ref u, rfl, acc, a1, small (by omega), same_wr (sm2.trans sv) hD, ?_⟩
          rw [take_next hj, List.filter_append, List.filter_cons_of_pos (by simpa using hne), List.filter_nil]
          exact a3
        · have he : q' = [] := by simpa using c
          refine ⟨sm2.trans sv, ?_⟩
          rw [take_next hj, List.filter_append, List.filter_cons_of_neg (by simp [he]), List.filter_nil, List.append_nil]
          exact dl.keep sv
      · rw [List.take_length] at dl
        exact q H2 D (sm.trans sm2) (sm.free hD) dl
end
end K7
set_option maxHeartbeats 3999999
/-! rims_of, in_order. -/
namespace K7
open PySem PySem.Spec PyProof.Rows L2 K7R K74
section
variable {P : Program} {w : World} {K : PySem.W.Frag} {mg : Str → Option Value} {base : Heap}
/-! ### rims_of -/
def spRimsOf : Sp := fun vs H Q _ => ∃ (t : Addr) (p : Pc), vs = [.ref t] ∧ TupAt H t p ∧ p.length ≤ 10 ∧ ∀ H' r, Same H H' → H r = none → LpAt H' r (rims p) → Q (.ref r) H'
theorem scRimsOf : FnScope ["piece", "k"] ["piece"] (defScope sRimsOf) := ⟨rfl, rfl, rfl, by decide +kernel, rfl, by decide +kernel, by decide +kernel⟩
theorem six_at {n d k : Nat} {z : Int} (e : z = (k : Int)) (h : k ≤ n) : HT.sIx n d (some z) = k := by
  rw [e, HT.sIx_nat]
  omega
theorem cut_take {p : Pc} {k : Nat} {z : Int} (e : z = (k : Int)) (h : k ≤ p.length) : cutV (p.map V.int) none (some z) = (p.take k).map V.int := by
  unfold cutV
  rw [six_at e (by rw [List.length_map]; exact h), HT.sIx_none, List.drop_zero, Nat.sub_zero, List.map_take]
theorem cut_drop {p : Pc} {k : Nat} {z : Int} (e : z = (k : Int)) (h : k ≤ p.length) : cutV (p.map V.int) (some z) none = (p.drop k).map V.int := by
  unfold cutV
  rw [six_at e (by rw [List.length_map]; exact h), HT.sIx_none, List.map_drop]
  refine List.take_of_length_le ?_
  rw [List.length_drop]
  exact Nat.le_refl _
/-- tuple + tuple, whichever object it is -/
theorem cat_any {K : PySem.W.Frag} {H : Hp} {a b : Addr} {p q : Pc} {Q : VK} (ha : TupAt H a p) (hb : TupAt H b q) (hz : p.length + q.length ≤ 10000000) (h : ∀ H' c, Same H H' → TupAt H' c (p ++ q) → Q (.ref c) H') : rCatA K (.ref a) (.ref b) H Q := by
  refine ⟨a, b, _, _, rfl, rfl, tup_sq ha, tup_sq hb, smallE (by rw [List.length_map, List.length_map]; exact hz), fun e0 => ?_, fun _ e0 => ?_, fun _ _ c hc => ?_⟩
  · have e1 : p = [] := List.map_eq_nil_iff.mp e0
    refine h _ b (Same.refl _) ?_
    rw [e1]
    exact hb
  · have e1 : q = [] := List.map_eq_nil_iff.mp e0
    refine h _ a (Same.refl _) ?_
    rw [e1, List.append_nil]
    exact ha
  · refine h _ c (same_upd hc) ?_
    show upd _ c _ c = _
    rw [upd_same, List.map_append]
theorem ok_rims_of {f : Addr} {fd : FuncData} (F : FnP K "rims_of" sRimsOf f fd) (T : Txt mg) : FnOk P w K mg base CX0 1 f fd ["piece"] spRimsOf := by
  refine F.ok scRimsOf (fun vs H Q E h => ?_) (fun cdv A outer s H vs Q E hr h => ?_)
  · obtain ⟨t, p, rfl, _⟩ := h
    rfl
  · obtain ⟨t, p, rfl, ht, hp, q⟩ := h
    refine ⟨_, PSs.nox (pss_cons (ps_if (pt_cmpR op_lt (pe_callB call_len_seq (by rfl) T.len PySem.boot_len (pa_cons (pv 0) pa_nil)) pe_int (nomark _)) (pss_one (ps_ret (pe_lst pa_nil))) pss_nil)
      (pss_one (ps_ret (pe_lc (own := [("k", 1)]) (g := gName 1) (tt := tYes) rfl scRimsOf.nd (pi_range1 (by rfl) T.range (pa_cons (pe_callB call_len_seq (by rfl) T.len PySem.boot_len (pa_cons (pv 0) pa_nil)) pa_nil)) (blkOk_by (own := [("k", 1)]) (N := ["piece", "k"]) (sc := defScope sRimsOf) (by decide +kernel)) (fun _ _ _ _ _ => pg_name (i := 1) scRimsOf.nd rfl (Or.inl rfl)) (fun _ _ _ _ _ => pts_nil)
        (fun _ _ _ _ _ => pe_op (r := rCatA K) op_catA (pe_slice (r := rSlT K) sl_tup (pv 0) po_none (po_some (pv 1))) (pe_slice (r := rSlT K) sl_tup (pv 0) (po_some (pe_op op_add (pv 1) pe_int)) po_none)))))), ?_⟩
    have hl : (p.map V.int).length = p.length := List.length_map _
    refine ⟨.ref t, rfl, t, _, rfl, .inr (tup_sq ht), _, _, rfl, rfl, _, rfl, ite2 (fun c => ?_) (fun c => ?_)⟩
    · have c1 : p.length < 2 := by
        have := of_decide_eq_true c
        omega
      refine ⟨Nat.zero_le _, fun r hr0 => ?_⟩
      refine q _ r (same_upd hr0) hr0 ?_
      unfold rims
      rw [if_pos c1]
      exact LpAt.nil upd_same
    · have c1 : ¬ p.length < 2 := by
        intro z
        exact c (decide_eq_true (by omega))
      refine ⟨.ref t, rfl, t, _, rfl, .inr (tup_sq ht), ((p.map V.int).length : Int), rfl, by omega, by omega, fun D hD => lc_range (lo := 0) (n := ((p.map V.int).length : Int).toNat) (fun i H' => Same H H' ∧ LpAt H' D ((rims p).take i))
        ⟨same_upd hD, LpAt.nil upd_same⟩ (fun i H1 hi h => ?_) (fun H1 h => ?_)⟩
      · obtain ⟨sm, dl⟩ := h
        have hi1 : i < p.length := by omega
        have ht1 := sm _ _ ht
        have e1 : (0 : Int) + (i : Int) = ((i : Nat) : Int) := by omega
        have e2 : (0 : Int) + (i : Int) + 1 = ((i + 1 : Nat) : Int) := by omega
        refine ⟨rfl, .ref t, rfl, .int (0 + i), rfl, 0 + (i : Int), rfl, t, _, rfl, tup_sq ht1, ?_, fun a ha => ?_⟩
        · rintro ⟨_, z⟩
          rw [six_at e1 (by omega)] at z
          omega
        · have sa : Same H1 (upd H1 a (.tup (cutV (p.map V.int) none (some (0 + (i : Int)))))) := same_upd ha
          refine ⟨.ref t, rfl, .int (0 + i), rfl, _, _, rfl, rfl, 0 + (i : Int) + 1, rfl, t, _, rfl, tup_sq (sa _ _ ht1), ?_, fun b hb => ?_⟩
          · rintro ⟨z, _⟩
            rw [six_at e2 (by omega)] at z
            omega
          · have sb : Same (upd H1 a (.tup (cutV (p.map V.int) none (some (0 + (i : Int)))))) (upd (upd H1 a (.tup (cutV (p.map V.int) none (some (0 + (i : Int)))))) b (.tup (cutV (p.map V.int) (some (0 + (i : Int) + 1)) none))) := same_upd hb
            have ga : TupAt (upd (upd H1 a (.tup (cutV (p.map V.int) none (some (0 + (i : Int)))))) b (.tup (cutV (p.map V.int) (some (0 + (i : Int) + 1)) none))) a (p.take i) := by
              refine sb _ _ ?_
              rw [upd_same, cut_take e1 (by omega)]
            have gb : TupAt (upd (upd H1 a (.tup (cutV (p.map V.int) none (some (0 + (i : Int)))))) b (.tup (cutV (p.map V.int) (some (0 + (i : Int) + 1)) none))) b (p.drop (i + 1)) := by
              show upd _ b _ b = _
              rw [upd_same, cut_drop e2 (by omega)]
            refine cat_any ga gb (by rw [List.length_take, List.length_drop]; omega) fun H2 c sc hc => ?_
            have s2 : Same H1 H2 := (sa.trans sb).trans sc
            obtain ⟨acc, a1, a2, a3⟩ := lp_push (dl.keep s2) hc
            refine ⟨acc, a1, small (by rw [a2, List.length_take]; omega), same_wr (sm.trans s2) hD, ?_⟩
            have hr1 : (rims p)[i]? = some (p.take i ++ p.drop (i + 1)) := by
              unfold rims
              rw [if_neg c1, List.getElem?_map, List.getElem?_range hi1]
              rfl
            rw [take_next hr1]
            exact a3
      · obtain ⟨sm, dl⟩ := h
        have hrl : (rims p).length = p.length := by
          unfold rims
          rw [if_neg c1, List.length_map, List.length_range]
        rw [List.take_of_length_le (by omega)] at dl
        exact q H1 D sm hD dl

/-! ### in_order -/
def spInOrder : Sp := fun vs H Q _ => ∃ (a : Addr) (ps : List Pc), vs = [.ref a] ∧ LpAt H a ps ∧ ps.length ≤ 2000000 ∧ ∀ H' r ps', Same H H' → H r = none → ps'.Perm ps → LpAt H' r ps' → Q (.ref r) H'
theorem scInOrder : FnScope ["pieces_of", "ranked", "piece", "one"] ["pieces_of"] (defScope sInOrder) := ⟨rfl, rfl, rfl, by decide +kernel, rfl, by decide +kernel, by decide +kernel⟩
/-- at D a list of pairs (length, piece) of the pieces ps -/
def PrAt (H : Hp) (D : Addr) (ps : List Pc) : Prop := ∃ xs : List V, H D = some (.lst xs) ∧ (∀ x ∈ xs, ∃ (t : Addr) (i : Int) (b : Addr) (ns : Pc), x = V.ref t ∧ H t = some (.tup [.int i, .ref b]) ∧ H b = some (.tup (ns.map V.int))) ∧ xs.map (fun x => (keyH H x).2) = ps
theorem keyH_keep {H H' : Hp} {x : V} (e : Same H H') (h : ∃ (t : Addr) (i : Int) (b : Addr) (ns : Pc), x = V.ref t ∧ H t = some (.tup [.int i, .ref b]) ∧ H b = some (.tup (ns.map V.int))) : keyH H' x = keyH H x := by
  obtain ⟨t, i, b, ns, rfl, h1, h2⟩ := h
  rw [keyH_eq h1 h2, keyH_eq (e _ _ h1) (e _ _ h2)]
theorem pr_keep {H H' : Hp} {x : V} (e : Same H H') (h : ∃ (t : Addr) (i : Int) (b : Addr) (ns : Pc), x = V.ref t ∧ H t = some (.tup [.int i, .ref b]) ∧ H b = some (.tup (ns.map V.int))) :
    ∃ (t : Addr) (i : Int) (b : Addr) (ns : Pc), x = V.ref t ∧ H' t = some (.tup [.int i, .ref b]) ∧ H' b = some (.tup (ns.map V.int)) := by
  obtain ⟨t, i, b, ns, rfl, h1, h2⟩ := h
  exact ⟨t, i, b, ns, rfl, e _ _ h1, e _ _ h2⟩
theorem map_keep {H H' : Hp} {xs : List V} (e : Same H H') (h : ∀ x ∈ xs, ∃ (t : Addr) (i : Int) (b : Addr) (ns : Pc), x = V.ref t ∧ H t = some (.tup [.int i, .ref b]) ∧ H b = some (.tup (ns.map V.int))) : xs.map (fun x => (keyH H' x).2) = xs.map (fun x => (keyH H x).2) :=
  List.map_congr_left fun x hx => by rw [keyH_keep e (h x hx)]
theorem PrAt.keep {H H' : Hp} {D : Addr} {ps : List Pc} (h : PrAt H D ps) (e : Same H H') : PrAt H' D ps := by
  obtain ⟨xs, h1, h2, h3⟩ := h
  exact ⟨xs, e _ _ h1, fun x hx => pr_keep e (h2 x hx), by rw [map_keep e h2]; exact h3⟩
theorem tup_off {H : Hp} {D b : Addr} {xs ys : List V} {o : HO} (h : H b = some (.tup xs)) (hd : H D = some (.lst ys)) : upd H D o b = some (.tup xs) := by
  rw [upd_ne (ne_of h hd (by intro z; cases z))]
  exact h
theorem pr_push {H : Hp} {D u t : Addr} {i : Int} {p : Pc} {ps : List Pc} (h : PrAt H D ps) (hu : H u = some (.tup [.int i, .ref t])) (ht : TupAt H t p) :
    ∃ acc, H D = some (.lst acc) ∧ acc.length = ps.length ∧ PrAt (upd H D (.lst (acc ++ [.ref u]))) D (ps ++ [p]) := by
  obtain ⟨xs, h1, h2, h3⟩ := h
  have off : ∀ x ∈ xs, ∃ (t : Addr) (i : Int) (b : Addr) (ns : Pc), x = V.ref t ∧ upd H D (.lst (xs ++ [.ref u])) t = some (.tup [.int i, .ref b]) ∧ upd H D (.lst (xs ++ [.ref u])) b = some (.tup (ns.map V.int)) := fun x hx => by
    obtain ⟨t, i, b, ns, rfl, e1, e2⟩ := h2 x hx
    exact ⟨t, i, b, ns, rfl, tup_off e1 h1, tup_off e2 h1⟩
  refine ⟨xs, h1, by rw [← h3, List.length_map], xs ++ [.ref u], upd_same, fun x hx => ?_, ?_⟩
  · rcases List.mem_append.mp hx with hx | hx
    · exact off x hx
    · rw [List.mem_singleton.mp hx]
      exact ⟨u, i, t, p, rfl, tup_off hu h1, tup_off ht h1⟩
  · rw [List.map_append, ← h3]
    congr 1
    · refine List.map_congr_left fun x hx => ?_
      obtain ⟨t, i, b, ns, rfl, e1, e2⟩ := h2 x hx
      rw [keyH_eq e1 e2, keyH_eq (tup_off e1 h1) (tup_off e2 h1)]
    · rw [List.map_singleton, keyH_eq (tup_off hu h1) (tup_off ht h1)]
theorem ok_in_order {f : Addr} {fd : FuncData} (F : FnP K "in_order" sInOrder f fd) (T : Txt mg) : FnOk P w K mg base CX0 1 f fd ["pieces_of"] spInOrder := by
  refine F.ok scInOrder (fun vs H Q E h => ?_) (fun cdv A outer s H vs Q E hr h => ?_)
  · obtain ⟨a, ps, rfl, _⟩ := h
    rfl
  · obtain ⟨a, ps, rfl, src, hz, q⟩ := h
    refine ⟨_, PSs.nox (pss_cons (ps_set (i := 1) scInOrder.nd rfl (.inl rfl) (pe_callB (cr_sortedIT hr.units) (by rfl) T.sorted (by decide +kernel) (pa_cons
        (pe_lc (own := [("piece", 2)]) (g := gName 2) (tt := tYes) rfl scInOrder.nd (pi_list (pv 0)) (blkOk_by (own := [("piece", 2)]) (N := ["pieces_of", "ranked", "piece", "one"]) (sc := defScope sInOrder) (by decide +kernel)) (fun _ _ _ _ _ => pg_name (i := 2) scInOrder.nd rfl (Or.inl rfl)) (fun _ _ _ _ _ => pts_nil)
          (fun _ _ _ _ _ => pe_tup (pa_cons (pe_callB (r := fun xs H Q => ∃ p ys, xs = [.ref p] ∧ (SqL K H p ys ∨ SqT K H p ys) ∧ Q (.int ys.length) H) call_len_seq (by rfl) T.len PySem.boot_len (pa_cons (pv 2) pa_nil)) (pa_cons (pv 2) pa_nil)))) pa_nil)))
      (pss_one (ps_ret (pe_lc (own := [("one", 3)]) (g := gName 3) (tt := tYes) rfl scInOrder.nd (pi_list (pv 1)) (blkOk_by (own := [("one", 3)]) (N := ["pieces_of", "ranked", "piece", "one"]) (sc := defScope sInOrder) (by decide +kernel)) (fun _ _ _ _ _ => pg_name (i := 3) scInOrder.nd rfl (Or.inl rfl)) (fun _ _ _ _ _ => pts_nil)
          (fun _ _ _ _ _ => pe_ix (r := rIxT K) ix_tup (pv 3) pe_int (fun _ _ => rfl)))))), ?_⟩
    refine ⟨.ref a, rfl, a, rfl, src.sq, fun D hD => ?_⟩
    refine lc_lp src (fun i H1 => Same H H1 ∧ PrAt H1 D (ps.take i)) ⟨same_upd hD, [], upd_same, fun x hx => (by cases hx), rfl⟩ (fun i H1 h => h.1) (fun i t p H1 hi ht ⟨sm, pr⟩ => ?_) (fun H1 ⟨sm, pr⟩ => ?_)
    · have hil := lt_of_at hi
      refine ⟨rfl, .ref t, rfl, t, _, rfl, .inr (tup_sq ht), .ref t, rfl, by show 2 ≤ sizeLine; exact smallE (by decide), fun u hu => ?_⟩
      have su : Same H1 (upd H1 u (.tup [.int ((p.map V.int).length : Int), .ref t])) := same_upd hu
      obtain ⟨acc, a1, a2, a3⟩ := pr_push (pr.keep su) upd_same (su _ _ ht)
      refine ⟨acc, a1, small (by rw [a2, List.length_take]; omega), same_wr (sm.trans su) hD, ?_⟩
      rw [take_next hi]
      exact a3
    · rw [List.take_length] at pr
      obtain ⟨xs, d1, d2, d3⟩ := pr
      refine ⟨D, xs, rfl, .inl (.inl d1), d2, fun ys r hperm hr0 => ?_⟩
      have sr : Same H1 (upd H1 r (.lst ys)) := same_upd hr0
      have d2' : ∀ y ∈ ys, ∃ (t : Addr) (i : Int) (b : Addr) (ns : Pc), y = V.ref t ∧ H1 t = some (.tup [.int i, .ref b]) ∧ H1 b = some (.tup (ns.map V.int)) := fun y hy => d2 y (hperm.mem_iff.mp hy)
      have hps : (ys.map fun y => (keyH H1 y).2).Perm ps := by
        rw [← d3]
        exact hperm.map _
      have hlen : ys.length = ps.length := by
        have := hps.length_eq
        rw [List.length_map] at this
        exact this
      refine ⟨.ref r, rfl, r, rfl, ⟨_, .inl (.inl upd_same)⟩, fun D2 hD2 => ?_⟩
      refine lc_list (K := K) (a := r) (xs := ys) (fun i H2 => Same (upd H1 r (.lst ys)) H2 ∧ LpAt H2 D2 ((ys.map fun y => (keyH H1 y).2).take i)) ⟨same_upd hD2, LpAt.nil upd_same⟩ (fun i H2 _ h => .inl (.inl (h.1 _ _ upd_same))) (fun i y H2 hi ⟨sm2, dl⟩ => ?_) (fun H2 ⟨sm2, dl⟩ => ?_)
      · have hil := lt_of_at hi
        obtain ⟨t, n, b, ns, rfl, e1, e2⟩ := d2' y (List.mem_of_getElem? hi)
        have f1 := sm2 _ _ (sr _ _ e1)
        have f2 := sm2 _ _ (sr _ _ e2)
        obtain ⟨acc, a1, a2, a3⟩ := lp_push dl f2
        refine ⟨rfl, .ref t, rfl, t, _, 1, .ref b, rfl, rfl, .inl (.inl f1), atI_nat (j := 1) rfl, acc, a1, small (by rw [a2, List.length_take, List.length_map]; omega), same_wr sm2 hD2, ?_⟩
        have hk : (ys.map fun y => (keyH H1 y).2)[i]? = some ns := by
          rw [List.getElem?_map, hi]
          show some (keyH H1 (.ref t)).2 = some ns
          rw [keyH_eq e1 e2]
        rw [take_next hk]
        exact a3
      · rw [← List.length_map (f := fun y => (keyH H1 y).2), List.take_length] at dl
        exact q H2 D2 _ ((sm.trans sr).trans sm2) (sm.free (sr.free hD2)) hps dl
end
end K7
set_option maxHeartbeats 3999999
/-! Dicts of pieces; pieces_by, greatest_by. -/
namespace K7
open PySem PySem.Spec PyProof.Rows L2 K7R K74

/-! ### dicts whose keys are pieces -/
def kk (p : Pc) : List Key := p.map Sum.inl
def kvs (l : List Pc) : List (List Key × V) := l.map fun p => (kk p, V.bl true)
theorem kk_v (p : Pc) : (kk p).map kV = p.map V.int := by
  unfold kk
  rw [List.map_map]
  rfl
theorem kk_inj {p q : Pc} (h : kk p = kk q) : p = q := by
  have h1 : (kk p).map kV = (kk q).map kV := by rw [h]
  rw [kk_v, kk_v] at h1
  have h2 : (p.map V.int).map unI = (q.map V.int).map unI := by rw [h1]
  rw [unI_map, unI_map] at h2
  exact h2
def addP (l : List Pc) (p : Pc) : List Pc := if p ∈ l then l else l ++ [p]
theorem mem_addP {l : List Pc} {p q : Pc} : q ∈ addP l p ↔ q ∈ l ∨ q = p := by
  unfold addP
  by_cases h : p ∈ l
  · rw [if_pos h]
    constructor
    · exact .inl
    · rintro (z | z)
      · exact z
      · rw [z]; exact h
  · rw [if_neg h, List.mem_append, List.mem_singleton]
theorem nodup_addP {l : List Pc} {p : Pc} (h : l.Nodup) : (addP l p).Nodup := by
  unfold addP
  by_cases c : p ∈ l
  · rw [if_pos c]; exact h
  · rw [if_neg c]
    refine List.nodup_append.mpr ⟨h, List.nodup_cons.mpr ⟨by simp, List.nodup_nil⟩, fun a ha b hb e => ?_⟩
    rw [List.mem_singleton] at hb
    rw [e, hb] at ha
    exact c ha
theorem kvs_any (l : List Pc) (p : Pc) : ((kvs l).any fun kv => decide (kv.1 = kk p)) = decide (p ∈ l) := by
  unfold kvs
  rw [Bool.eq_iff_iff, List.any_eq_true, decide_eq_true_eq]
  constructor
  · rintro ⟨kv, hk, e⟩
    obtain ⟨q, hq, rfl⟩ := List.mem_map.mp hk
    rw [← kk_inj (of_decide_eq_true e)]
    exact hq
  · intro h
    exact ⟨_, List.mem_map.mpr ⟨p, h, rfl⟩, decide_eq_true rfl⟩
theorem kvs_put (l : List Pc) (p : Pc) : putK (kvs l) (kk p) (.bl true) = kvs (addP l p) := by
  unfold putK addP
  rw [kvs_any]
  by_cases h : p ∈ l
  · rw [if_pos (decide_eq_true h), if_pos h]
    unfold kvs
    rw [List.map_map]
    refine List.map_congr_left fun q _ => ?_
    show (if kk q = kk p then (kk q, V.bl true) else (kk q, V.bl true)) = (kk q, V.bl true)
    split <;> rfl
  · rw [if_neg (by rw [decide_eq_false h]; decide), if_neg h]
    unfold kvs
    rw [List.map_append]
    rfl
theorem kvs_some (l : List Pc) (p : Pc) : (valV (kvs l) (kk p)).isSome = decide (p ∈ l) := by rw [← valV_any, kvs_any]
theorem kvs_len (l : List Pc) : (kvs l).length = l.length := List.length_map _
/-- d[piece] = True -/
theorem dp_put {H : Hp} {d t : Addr} {l : List Pc} {p : Pc} (hd : H d = some (.dT (kvs l))) (ht : TupAt H t p) (hl : l.length ≤ 10000000) : DPut H d (.ref t) (.bl true) (upd H d (.dT (kvs (addP l p)))) := by
  rw [← kvs_put]
  exact DPut.t hd (by rw [kk_v]; exact ht) (by rw [kvs_len]; exact small hl)
theorem dp_get {H : Hp} {d t : Addr} {l : List Pc} {p : Pc} (hd : H d = some (.dT (kvs l))) (ht : TupAt H t p) : DGet H d (.ref t) (valV (kvs l) (kk p)) := DGet.t hd (by rw [kk_v]; exact ht)
theorem keys_at {H : Hp} : ∀ {l : List Pc} {bs : List Addr}, IsKeys H (kvs l) bs → ∃ ks : List (Addr × Pc), bs.map V.ref = refs ks ∧ Kn H ks ∧ ks.map (·.2) = l
  | [], _, .nil => ⟨[], rfl, fun _ hk => (by cases hk), rfl⟩
  | p :: l, _, .cons r t => by
    obtain ⟨ks, h1, h2, h3⟩ := keys_at (l := l) t
    rename_i b bs
    refine ⟨(b, p) :: ks, ?_, fun k hk => ?_, ?_⟩
    · rw [List.map_cons, h1]
      rfl
    · rcases List.mem_cons.mp hk with e | hk
      · rw [e]
        have r' : H b = some (.tup ((kk p).map kV)) := r
        rw [kk_v] at r'
        exact r'
      · exact h2 k hk
    · rw [List.map_cons, h3]
theorem keys_lp {H : Hp} {l : List Pc} {bs : List Addr} {r : Addr} (h : IsKeys H (kvs l) bs) (hr : H r = none) : LpAt (upd H r (.lst (bs.map V.ref))) r l := by
  obtain ⟨ks, h1, h2, h3⟩ := keys_at h
  rw [h1]
  exact ⟨ks, upd_same, h2.keep (same_upd hr), h3⟩

/-! ### a for while a dict is filled -/
/-- lists and tuples stay -/
def KLT (H0 H : Hp) : Prop := ∀ b o, H0 b = some o → (∃ xs, o = .lst xs ∨ o = .tup xs) → H b = some o
theorem klt_same {H0 H : Hp} (h : Same H0 H) : KLT H0 H := fun b o e _ => h b o e
theorem klt_dict {H0 H : Hp} {d : Addr} {l : List (List Key × V)} {o : HO} (h : KLT H0 H) (hd : H0 d = some (.dT l)) : KLT H0 (upd H d o) := fun b u e x => by
  have ne : b ≠ d := fun z => by
    rw [z, hd] at e
    obtain ⟨xs, z | z⟩ := x
    · rw [z] at e; cases e
    · rw [z] at e; cases e
  rw [upd_ne ne]
  exact h b u e x
theorem LpAt.klt {H H' : Hp} {a : Addr} {ps : List Pc} (h : LpAt H a ps) (e : KLT H H') : LpAt H' a ps := by
  obtain ⟨ks, h1, h2, h3⟩ := h
  exact ⟨ks, e _ _ h1 ⟨_, .inl rfl⟩, fun k hk => e _ _ (h2 k hk) ⟨_, .inr rfl⟩, h3⟩
theorem for_lpD {K : PySem.W.Frag} {a : Addr} {ps : List Pc} {H0 : Hp} {g : TG} {tb : TS} {D : Ends} {σ : L2.St} {H1 : Hp} (src : LpAt H0 a ps) (Pv : Nat → L2.St → Hp → Prop) (h0 : Pv 0 σ H1) (keep : ∀ i σ H, Pv i σ H → KLT H0 H)
    (hs : ∀ i t q σ H, ps[i]? = some q → TupAt H t q → Pv i σ H → g (.ref t) σ H fun σ2 H2 => tb { D with nx := Pv (i + 1), ct := Pv (i + 1), bk := D.nx } σ2 H2) (hd : ∀ σ H, Pv ps.length σ H → D.nx σ H) :
    ∃ W : Nat → Nat → L2.St → Hp → Prop, (∃ m, W 0 m σ H1) ∧ ∀ i m σ H, W i m σ H →
      ((Itl K a).stop i H ∧ D.nx σ H) ∨ ((Itl K a).go i H ∧ ∃ N : L2.St → Hp → Prop, (∀ σ' H', N σ' H' → ∃ m', m' < m ∧ W (i + 1) m' σ' H') ∧ ∀ x H', (Itl K a).yld i H x H' → g x σ H' fun σ2 H2 => tb { D with nx := N, ct := N, bk := D.nx } σ2 H2) := by
  obtain ⟨ks, h1, h2, h3⟩ := src
  have hl : (refs ks).length = ps.length := by rw [refs_len, ← h3, List.length_map]
  refine for_list (K := K) (a := a) (xs := refs ks) Pv h0 (fun i σ H _ p => .inl (.inl (keep i σ H p _ _ h1 ⟨_, .inl rfl⟩))) (fun i x σ H hi p => ?_) (fun σ H p => hd σ H (hl ▸ p))
  obtain ⟨k, hk, rfl⟩ := refs_at hi
  refine hs i k.1 k.2 σ H ?_ (keep i σ H p _ _ (h2 k (List.mem_of_getElem? hk)) ⟨_, .inr rfl⟩) p
  rw [← h3, List.getElem?_map, hk]
  rfl

/-! ### calls -/
/-- a def that may be called by its name -/
structure Cal (P : Program) (w : World) (K : PySem.W.Frag) (mg : Str → Option Value) (base : Heap) (CX : CXT) (k : Nat) (x : Str) (ps : List Str) (sp : Sp) : Prop where
  ex : ∃ f fd, FnOk P w K mg base CX k f fd ps sp ∧ mg x = some (.ref f) ∧ PySem.W.keepIn K (.ref f) = true ∧ Binds K fd ps []

/-! ### pieces, step by step -/
theorem in_take {W : List Pc} {i : Nat} {p q : Pc} (h : W[i]? = some p) : In q (W.take (i + 1)) ↔ In q (W.take i) ∨ q ∈ parts p := by
  rw [take_next h]
  constructor
  · rintro ⟨hq, z, hz, hs⟩
    rcases List.mem_append.mp hz with hz | hz
    · exact .inl ⟨hq, z, hz, hs⟩
    · rw [List.mem_singleton.mp hz] at hs
      exact .inr (mem_parts.mpr ⟨hq, hs⟩)
  · rintro (⟨hq, z, hz, hs⟩ | h)
    · exact ⟨hq, z, List.mem_append.mpr (.inl hz), hs⟩
    · obtain ⟨hq, hs⟩ := mem_parts.mp h
      exact ⟨hq, p, by simp, hs⟩
theorem in_of_take {W : List Pc} {i : Nat} {q : Pc} (h : In q (W.take i)) : In q W := by
  obtain ⟨hq, z, hz, hs⟩ := h
  exact ⟨hq, z, List.mem_of_mem_take hz, hs⟩
theorem most_le : ∀ {W : List Pc}, (∀ p ∈ W, p.length ≤ 5) → most W ≤ 32 * W.length
  | [], _ => Nat.le_refl _
  | p :: W, h => by
    have ih := most_le (W := W) fun q hq => h q (List.mem_cons_of_mem _ hq)
    have h1 : 2 ^ p.length ≤ 2 ^ 5 := Nat.pow_le_pow_right (by decide) (h p List.mem_cons_self)
    unfold most at ih ⊢
    rw [List.map_cons, List.sum_cons, List.length_cons]
    omega
theorem in_few {W l : List Pc} (hd : l.Nodup) (h : ∀ q ∈ l, In q W) : l.length ≤ most W :=
  Nat.le_trans (nodup_len hd fun x hx => mem_flat.mpr (h x hx)) (flat_len W)
theorem in_len {W : List Pc} {n : Nat} (h : ∀ p ∈ W, p.length ≤ n) {q : Pc} (hq : In q W) : q.length ≤ n := by
  obtain ⟨_, p, hp, hs⟩ := hq
  exact Nat.le_trans hs.length_le (h p hp)

section
variable {P : Program} {w : World} {K : PySem.W.Frag} {mg : Str → Option Value} {base : Heap}
/-! ### pieces_by -/
def spPiecesBy : Sp := fun vs H Q _ => ∃ (a : Addr) (W : List Pc), vs = [.ref a] ∧ LpAt H a W ∧ (∀ p ∈ W, p.length ≤ 5) ∧ W.length ≤ 40000 ∧ ∀ H' r l, Same H H' → H r = none → Pcs W l → LpAt H' r l → Q (.ref r) H'
theorem scPiecesBy : FnScope ["web", "known", "piece", "part"] ["web"] (defScope sPiecesBy) := ⟨rfl, rfl, rfl, by decide +kernel, rfl, by decide +kernel, by decide +kernel⟩
theorem ok_pieces_by {f : Addr} {fd : FuncData} (F : FnP K "pieces_by" sPiecesBy f fd) (T : Txt mg) (C1 : Cal P w K mg base CX0 1 "parts_of" ["piece"] spPartsOf) (C2 : Cal P w K mg base CX0 1 "in_order" ["pieces_of"] spInOrder) :
    FnOk P w K mg base CX0 2 f fd ["web"] spPiecesBy := by
  obtain ⟨f1, fd1, G1, g1, k1, b1⟩ := C1.ex
  obtain ⟨f2, fd2, G2, g2, k2, b2⟩ := C2.ex
  refine F.ok scPiecesBy (fun vs H Q E h => ?_) (fun cdv A outer s H vs Q E hr h => ?_)
  · obtain ⟨a, W, rfl, _⟩ := h
    rfl
  · obtain ⟨a, W, rfl, src, h5, hW, q⟩ := h
    have hmost : most W ≤ 1280000 := Nat.le_trans (most_le h5) (by omega)
    refine ⟨_, PSs.nox (pss_cons (ps_set (i := 1) scPiecesBy.nd rfl (.inl rfl) pe_dnewT)
      (pss_cons (ps_for PassesOwn.never rfl (pi_list (pv 0)) (pg_name (i := 2) scPiecesBy.nd rfl (Or.inl rfl))
        (pss_one (ps_for PassesOwn.never rfl (pi_list (pe_call G1 hr (by rfl) g1 k1 b1 .nil pass0 (pa_cons (pv 2) pa_nil))) (pg_name (i := 3) scPiecesBy.nd rfl (Or.inl rfl))
          (pss_one (ps_dput (hu_of hr) (pv 1) (pv 3) pe_bl rfl)))))
      (pss_one (ps_ret (pe_call G2 hr (by rfl) g2 k2 b2 .nil pass0 (pa_cons (pe_callTy (call_list_dT rfl) (by rfl) T.list (by decide +kernel) (pa_cons (pv 1) pa_nil)) pa_nil)))))), ?_⟩
    intro d hd
    -- for piece in web
    refine ⟨.ref a, rfl, a, rfl, (src.keep (same_upd hd)).sq, for_lp src (fun i σ H1 => ∃ y2 y3 l, σ = [some (.ref a), some (.ref d), y2, y3] ∧ Same H H1 ∧ H1 d = some (.dT (kvs l)) ∧ l.Nodup ∧ ∀ q, q ∈ l ↔ In q (W.take i))
      ⟨none, none, [], rfl, same_upd hd, upd_same, List.nodup_nil, fun q => ?_⟩ (fun i σ H1 ⟨_, _, _, _, sm, _⟩ => sm) ?_ ?_⟩
    · constructor
      · intro z
        cases z
      · rintro ⟨_, p, hp, _⟩
        cases hp
    · rintro i t p σ H1 hi ht ⟨y2, y3, l, rfl, sm, dl, nd, hm⟩
      have hp5 := h5 p (List.mem_of_getElem? hi)
      -- for part in parts_of(piece)
      refine ⟨.ref t, rfl, t, p, rfl, ht, by omega, fun H2 r s2 hr0 rl => ?_⟩
      refine ⟨r, rfl, rl.sq, for_lpD rl (fun j σ H3 => ∃ y3 l, σ = [some (.ref a), some (.ref d), some (.ref t), y3] ∧ Same H H3 ∧ KLT H2 H3 ∧ H3 d = some (.dT (kvs l)) ∧ l.Nodup ∧ ∀ q, q ∈ l ↔ In q (W.take i) ∨ q ∈ (parts p).take j)
        ⟨y3, l, rfl, sm.trans s2, klt_same (Same.refl _), s2 _ _ dl, nd, fun q => ?_⟩ ?_ ?_ ?_⟩
      · rw [hm]
        simp
      · rintro j σ H3 ⟨_, _, _, _, k3, _⟩
        exact k3
      · rintro j u q' σ H3 hj hu ⟨y3', l', rfl, s3, k3, dl', nd', hm'⟩
        have hlen : l'.length ≤ 1280000 := Nat.le_trans (in_few nd' fun q hq => ?_) hmost
        · refine ⟨.ref d, rfl, .ref u, rfl, d, _, rfl, dp_put dl' hu (by omega), ?_⟩
          refine ⟨_, addP l' q', rfl, same_wr s3 hd, klt_dict k3 (s2 _ _ dl), upd_same, nodup_addP nd', fun q => ?_⟩
          · rw [mem_addP, hm', take_next hj, List.mem_append, List.mem_singleton, or_assoc]
        · rcases (hm' q).mp hq with h | h
          · exact in_of_take h
          · have h1 := mem_parts.mp (List.mem_of_mem_take h)
            exact ⟨h1.1, p, List.mem_of_getElem? hi, h1.2⟩
      · rintro σ H3 ⟨y3', l', rfl, s3, k3, dl', nd', hm'⟩
        refine ⟨_, _, l', rfl, s3, dl', nd', fun q => ?_⟩
        rw [hm', List.take_length, in_take hi]
    · rintro σ H1 ⟨y2, y3, l, rfl, sm, dl, nd, hm⟩
      rw [List.take_length] at hm
      have hlen : l.length ≤ 1280000 := Nat.le_trans (in_few nd fun q hq => (hm q).mp hq) hmost
      refine ⟨.ref d, rfl, d, _, rfl, .inl dl, fun r bs hr0 hk => ?_⟩
      have sr : Same H1 (upd H1 r (.lst (bs.map V.ref))) := same_upd hr0
      refine ⟨r, l, rfl, keys_lp hk hr0, by omega, fun H2 r2 l2 s2 hr2 hperm hl2 => ?_⟩
      refine q H2 r2 l2 ((sm.trans sr).trans s2) (sm.free (sr.free hr2)) ⟨hperm.nodup_iff.mpr nd, fun q => ?_⟩ hl2
      rw [hperm.mem_iff, hm]
end
end K7
set_option maxHeartbeats 3999999
/-! is_web, must_be_web, greatest_by, balance. -/
namespace K7
open PySem PySem.Spec PyProof.Rows L2 K7R K74
theorem good5 {W : List Pc} (h : Good W) : ∀ p ∈ W, p.length ≤ 5 := fun p hp => (h.pk p hp).le
/-- len's reading, by K -/
abbrev rLn (K : PySem.W.Frag) : List V → Hp → VK → Prop := fun xs H Q => ∃ p ys, xs = [.ref p] ∧ (SqL K H p ys ∨ SqT K H p ys) ∧ Q (.int ys.length) H
section
variable {P : Program} {w : World} {K : PySem.W.Frag} {mg : Str → Option Value} {base : Heap}
/-! ### is_web, must_be_web -/
def spIsWeb : Sp := fun vs H Q _ => ∃ (a : Addr) (W : List Pc), vs = [.ref a] ∧ LpAt H a W ∧ Good W ∧ ∀ H', Same H H' → Q (.bl true) H'
theorem scIsWeb : FnScope ["web", "piece"] ["web"] (defScope sIsWeb) := ⟨rfl, rfl, rfl, by decide +kernel, rfl, by decide +kernel, by decide +kernel⟩
theorem ok_is_web {f : Addr} {fd : FuncData} (F : FnP K "is_web" sIsWeb f fd) (T : Txt mg) (C1 : Cal P w K mg base CX0 1 "is_piece" ["piece"] spIsPiece) (C2 : Cal P w K mg base CX0 2 "pieces_by" ["web"] spPiecesBy) :
    FnOk P w K mg base CX0 3 f fd ["web"] spIsWeb := by
  obtain ⟨f1, fd1, G1, g1, k1, b1⟩ := C1.ex
  obtain ⟨f2, fd2, G2, g2, k2, b2⟩ := C2.ex
  obtain ⟨t20, m20⟩ := T.told
  obtain ⟨t200, m200⟩ := T.pieces
  refine F.ok scIsWeb (fun vs H Q E h => ?_) (fun cdv A outer s H vs Q E hr h => ?_)
  · obtain ⟨a, W, rfl, _⟩ := h
    rfl
  · obtain ⟨a, W, rfl, src, good, q⟩ := h
    have hr1 := hr.mono (j := 1) (by decide)
    refine ⟨_, PSs.nox (pss_cons (ps_if (PW.pt (pw_or (pt_cmpR op_gt (pe_callB (r := rLn K) call_len_seq (by rfl) T.len PySem.boot_len (pa_cons (pv 0) pa_nil)) (pe_glob (v := .int 20) (by rfl) m20 ⟨_, rfl⟩) (nomark _))
          (pw_or1 (pt_cmpR op_ne (pe_callB call_lenSetT (by rfl) T.len PySem.boot_len (pa_cons (pe_callTy (cr_setOfT rfl hr.units) (by rfl) T.set (by decide +kernel) (pa_cons (pv 0) pa_nil)) pa_nil)) (pe_callB (r := rLn K) call_len_seq (by rfl) T.len PySem.boot_len (pa_cons (pv 0) pa_nil)) (nomark _))))) (pss_one (ps_ret pe_bl)) pss_nil)
      (pss_cons (ps_if (pt_not (pt_val (pe_callB (cr_all rfl) (by rfl) T.all (by decide +kernel) (pa_cons
          (pe_lc (own := [("piece", 1)]) (g := gName 1) (tt := tYes) rfl scIsWeb.nd (pi_list (pv 0)) (blkOk_by (own := [("piece", 1)]) (N := ["web", "piece"]) (sc := defScope sIsWeb) (by decide +kernel)) (fun _ _ _ _ _ => pg_name (i := 1) scIsWeb.nd rfl (Or.inl rfl)) (fun _ _ _ _ _ => pts_nil)
            (fun _ _ _ _ _ => pe_call G1 hr1 (by rfl) g1 k1 b1 .nil pass0 (pa_cons (pv 1) pa_nil))) pa_nil)))) (pss_one (ps_ret pe_bl)) pss_nil)
      (pss_one (ps_ret (pe_cmpR op_le (pe_callB (r := rLn K) call_len_seq (by rfl) T.len PySem.boot_len (pa_cons (pe_call G2 hr (by rfl) g2 k2 b2 .nil pass0 (pa_cons (pv 0) pa_nil)) pa_nil)) (pe_glob (v := .int 200) (by rfl) m200 ⟨_, rfl⟩) (nomark _)))))), ?_⟩
    have hfew := good.few
    obtain ⟨ks, e1, e2, e3⟩ := id src
    have hkl : ks.length = W.length := by rw [← e3, List.length_map]
    -- len(web) > MOST_TOLD or len(set(web)) != len(web)
    obtain ⟨xs, hs, hxl⟩ := src.seq (K := K)
    refine ⟨.ref a, rfl, a, xs, rfl, .inl hs, _, _, rfl, rfl, _, rfl, itDF (by omega) ?_⟩
    refine ⟨.ref a, rfl, a, ks, rfl, .inl (.inl e1), fun p hp => tup_sq (e2 p hp), by omega, fun S L hS hsub hall => ⟨S, L, rfl, upd_same, fun p hp => tup_sq (same_upd hS _ _ (e2 p (hsub p hp))), fun nd => ?_⟩⟩
    have sS := same_upd (o := SetTO P w S L) hS
    have hL : L.length = W.length := by
      have hp : (L.map (·.2)).Perm W := by
        refine (List.perm_ext_iff_of_nodup nd good.nd).mpr fun x => ⟨fun hx => ?_, fun hx => ?_⟩
        · obtain ⟨p, hp, rfl⟩ := List.mem_map.mp hx
          rw [← e3]
          exact List.mem_map.mpr ⟨p, hsub p hp, rfl⟩
        · rw [← e3] at hx
          obtain ⟨p, hp, rfl⟩ := List.mem_map.mp hx
          exact hall p hp
      have := hp.length_eq
      rw [List.length_map] at this
      exact this
    obtain ⟨xs2, hs2, hxl2⟩ := (src.keep sS).seq (K := K)
    refine ⟨.ref a, rfl, a, xs2, rfl, .inl hs2, rfl, _, rfl, iteNS (by rw [hL, hxl2]) ?_⟩
    -- not all([is_piece(piece) for piece in web])
    refine ⟨.ref a, rfl, a, rfl, (src.keep sS).sq, fun D hD => lc_lp src (fun i H' => Same H H' ∧ H' D = some (.lst ((trues i).map V.bl)))
      ⟨sS.trans (same_upd hD), upd_same⟩ (fun i H' h => h.1) (fun i t p H' hi ht h => ?_) (fun H1 h => ?_)⟩
    · obtain ⟨sm, hd⟩ := h
      have hil := lt_of_at hi
      refine ⟨rfl, .ref t, rfl, t, p, rfl, ht, good.pk p (List.mem_of_getElem? hi), fun H2 s2 => ⟨_, s2 _ _ hd, small (by rw [trues_len]; omega), same_wr (sm.trans s2) (sS.free hD), upd_eq (trues_at i rfl)⟩⟩
    · obtain ⟨sm, hd⟩ := h
      refine ⟨D, _, rfl, .inl (.inl hd), _, rfl, iteBN (trues_all _) ?_⟩
      -- return len(pieces_by(web)) <= MOST_PIECES
      refine ⟨.ref a, rfl, a, W, rfl, src.keep sm, good5 good, by omega, fun H2 r l s2 hr0 hl ll => ?_⟩
      obtain ⟨xs3, hs3, hxl3⟩ := ll.seq (K := K)
      refine ⟨r, xs3, rfl, .inl hs3, _, _, rfl, rfl, ?_⟩
      have h200 := good.most l hl
      have e : decide ((xs3.length : Int) ≤ 200) = true := decide_eq_true (by omega)
      show Q (.bl (decide ((xs3.length : Int) ≤ 200))) H2
      rw [e]
      exact q H2 (sm.trans s2)
def spMust : Sp := fun vs H Q _ => ∃ (a : Addr) (W : List Pc), vs = [.ref a] ∧ LpAt H a W ∧ Good W ∧ ∀ H', Same H H' → Q .non H'
theorem scMust : FnScope ["web"] ["web"] (defScope sMust) := ⟨rfl, rfl, rfl, by decide +kernel, rfl, by decide +kernel, by decide +kernel⟩
theorem ok_must {f : Addr} {fd : FuncData} (F : FnP K "must_be_web" sMust f fd) (T : Txt mg) (C1 : Cal P w K mg base CX0 3 "is_web" ["web"] spIsWeb) : FnOk P w K mg base CX0 4 f fd ["web"] spMust := by
  obtain ⟨f1, fd1, G1, g1, k1, b1⟩ := C1.ex
  refine F.ok scMust (fun vs H Q E h => ?_) (fun cdv A outer s H vs Q E hr h => ?_)
  · obtain ⟨a, W, rfl, _⟩ := h
    rfl
  · obtain ⟨a, W, rfl, src, good, q⟩ := h
    refine ⟨_, PSs.nox (pss_one (ps_if (pt_not (pt_val (pe_call G1 hr (by rfl) g1 k1 b1 .nil pass0 (pa_cons (pv 0) pa_nil)))) pss_never pss_nil)), ?_⟩
    exact ⟨.ref a, rfl, a, W, rfl, src, good, fun H' s1 => ⟨_, rfl, iteN (q H' s1)⟩⟩

/-! ### greatest_by -/
def spGreatest : Sp := fun vs H Q _ => ∃ (a : Addr) (W : List Pc), vs = [.ref a] ∧ LpAt H a W ∧ (∀ p ∈ W, p.length ≤ 5) ∧ W.length ≤ 40000 ∧ ∀ H' r g, Same H H' → H r = none → Grt W g → LpAt H' r g → Q (.ref r) H'
theorem scGreatest : FnScope ["web", "known", "rims", "piece", "rim"] ["web"] (defScope sGreatest) := ⟨rfl, rfl, rfl, by decide +kernel, rfl, by decide +kernel, by decide +kernel⟩
theorem ok_greatest {f : Addr} {fd : FuncData} (F : FnP K "greatest_by" sGreatest f fd) (T : Txt mg) (C1 : Cal P w K mg base CX0 2 "pieces_by" ["web"] spPiecesBy) (C2 : Cal P w K mg base CX0 1 "rims_of" ["piece"] spRimsOf) :
    FnOk P w K mg base CX0 3 f fd ["web"] spGreatest := by
  obtain ⟨f1, fd1, G1, g1, k1, b1⟩ := C1.ex
  obtain ⟨f2, fd2, G2, g2, k2, b2⟩ := C2.ex
  refine F.ok scGreatest (fun vs H Q E h => ?_) (fun cdv A outer s H vs Q E hr h => ?_)
  · obtain ⟨a, W, rfl, _⟩ := h
    rfl
  · obtain ⟨a, W, rfl, src, h5, hW, q⟩ := h
    have hr1 := hr.mono (j := 1) (by decide)
    refine ⟨_, PSs.nox (pss_cons (ps_set (i := 1) scGreatest.nd rfl (.inl rfl) (pe_call G1 hr (by rfl) g1 k1 b1 .nil pass0 (pa_cons (pv 0) pa_nil)))
      (pss_cons (ps_set (i := 2) scGreatest.nd rfl (.inr rfl) pe_dnewT)
      (pss_cons (ps_for PassesOwn.never rfl (pi_list (pv 1)) (pg_name (i := 3) scGreatest.nd rfl (Or.inl rfl))
        (pss_one (ps_for PassesOwn.never rfl (pi_list (pe_call G2 hr1 (by rfl) g2 k2 b2 .nil pass0 (pa_cons (pv 3) pa_nil))) (pg_name (i := 4) scGreatest.nd rfl (Or.inl rfl))
          (pss_one (ps_dput (hu_of hr) (pv 2) (pv 4) pe_bl rfl)))))
      (pss_one (ps_ret (pe_lc (own := [("piece", 3)]) (g := gName 3) rfl scGreatest.nd (pi_list (pv 1)) (blkOk_by (own := [("piece", 3)]) (N := ["web", "known", "rims", "piece", "rim"]) (sc := defScope sGreatest) (by decide +kernel)) (fun _ _ _ _ _ => pg_name (i := 3) scGreatest.nd rfl (Or.inl rfl))
        (fun _ _ _ _ _ => pts_one (pt_cmp (pc_dnotin (hu_of hr) (pv 3) (pv 2)))) (fun _ _ _ _ _ => pv 3))))))), ?_⟩
    have hmost : most W ≤ 1280000 := Nat.le_trans (most_le h5) (by omega)
    refine ⟨.ref a, rfl, a, W, rfl, src, h5, hW, fun H1 r l s1 hr0 hl ll => ?_⟩
    have hll : l.length ≤ 1280000 := Nat.le_trans hl.len_le hmost
    intro d hd
    have sd : Same H1 (upd H1 d (.dT [])) := same_upd hd
    -- for piece in known: for rim in rims_of(piece): rims[rim] = True
    refine ⟨.ref r, rfl, r, rfl, (ll.keep sd).sq, for_lp ll (fun i σ H2 => ∃ y3 y4 m, σ = [some (.ref a), some (.ref r), some (.ref d), y3, y4] ∧ Same H1 H2 ∧ H2 d = some (.dT (kvs m)) ∧ m.Nodup ∧ ∀ z, z ∈ m ↔ ∃ p ∈ l.take i, z ∈ rims p)
      ⟨none, none, [], rfl, sd, upd_same, List.nodup_nil, fun z => ?_⟩ (fun i σ H2 ⟨_, _, _, _, sm, _⟩ => sm) ?_ ?_⟩
    · constructor
      · intro h
        cases h
      · rintro ⟨p, hp, _⟩
        cases hp
    · rintro i t p σ H2 hi ht ⟨y3, y4, m, rfl, sm, dl, nd, hm⟩
      have hpl := List.mem_of_getElem? hi
      have inp := (hl.mem p).mp hpl
      have hp5 := in_len h5 inp
      refine ⟨.ref t, rfl, t, p, rfl, ht, by omega, fun H3 r2 s3 hr2 rl => ?_⟩
      refine ⟨r2, rfl, rl.sq, for_lpD rl (fun j σ H4 => ∃ y4 m, σ = [some (.ref a), some (.ref r), some (.ref d), some (.ref t), y4] ∧ Same H1 H4 ∧ KLT H3 H4 ∧ H4 d = some (.dT (kvs m)) ∧ m.Nodup ∧ ∀ z, z ∈ m ↔ (∃ p ∈ l.take i, z ∈ rims p) ∨ z ∈ (rims p).take j)
        ⟨y4, m, rfl, sm.trans s3, klt_same (Same.refl _), s3 _ _ dl, nd, fun z => ?_⟩ ?_ ?_ ?_⟩
      · rw [hm]
        simp
      · rintro j σ H4 ⟨_, _, _, _, k3, _⟩
        exact k3
      · rintro j u z σ H4 hj hu ⟨y4', m', rfl, s4, k3, dl', nd', hm'⟩
        have hlen : (m'.erase []).length ≤ 1280000 := Nat.le_trans (in_few (W := W) (nd'.erase _) fun x hx => ?_) hmost
        · have hlen2 : m'.length ≤ 1280001 := by
            have := List.length_erase_le (a := ([] : Pc)) (l := m')
            by_cases c : ([] : Pc) ∈ m'
            · rw [List.length_erase_of_mem c] at hlen
              omega
            · rw [List.erase_of_not_mem c] at hlen
              omega
          refine ⟨.ref d, rfl, .ref u, rfl, d, _, rfl, dp_put dl' hu (by omega), ?_⟩
          refine ⟨_, addP m' z, rfl, same_wr s4 hd, klt_dict k3 (s3 _ _ dl), upd_same, nodup_addP nd', fun x => ?_⟩
          rw [mem_addP, hm', take_next hj, List.mem_append, List.mem_singleton, or_assoc]
        · obtain ⟨hne, hx⟩ := (List.Nodup.mem_erase_iff nd').mp hx
          rcases (hm' x).mp hx with ⟨p', hp', h⟩ | h
          · exact ((hl.mem p').mp (List.mem_of_mem_take hp')).part hne (mem_rims h).1
          · exact inp.part hne (mem_rims (List.mem_of_mem_take h)).1
      · rintro σ H4 ⟨y4', m', rfl, s4, k3, dl', nd', hm'⟩
        refine ⟨_, _, m', rfl, s4, dl', nd', fun z => ?_⟩
        rw [hm', List.take_length, take_next hi]
        constructor
        · rintro (⟨p', hp', h⟩ | h)
          · exact ⟨p', List.mem_append.mpr (.inl hp'), h⟩
          · exact ⟨p, List.mem_append.mpr (.inr (List.mem_singleton.mpr rfl)), h⟩
        · rintro ⟨p', hp', h⟩
          rcases List.mem_append.mp hp' with h1 | h1
          · exact .inl ⟨p', h1, h⟩
          · rw [List.mem_singleton.mp h1] at h
            exact .inr h
    · rintro σ H2 ⟨y3, y4, m, rfl, sm, dl, nd, hm⟩
      rw [List.take_length] at hm
      have ll2 := ll.keep sm
      -- return [piece for piece in known if piece not in rims]
      refine ⟨.ref r, rfl, r, rfl, ll2.sq, fun D hD => lc_lp ll2 (fun j H3 => Same H2 H3 ∧ LpAt H3 D ((l.take j).filter fun p => !decide (p ∈ m)))
        ⟨same_upd hD, LpAt.nil upd_same⟩ (fun j H3 h => h.1) (fun j u p H3 hj hu ⟨s3, d3⟩ => ?_) (fun H3 ⟨s3, d3⟩ => ?_)⟩
      · have hjl := lt_of_at hj
        refine ⟨rfl, .ref u, rfl, .ref d, rfl, d, _, rfl, dp_get (s3 _ _ dl) hu, _, rfl, ?_⟩
        rw [kvs_some]
        refine ite2 (fun c => ?_) (fun c => ?_)
        · obtain ⟨acc, a1, a2, a3⟩ := lp_push d3 hu
          have h1 := List.length_filter_le (fun p : Pc => !decide (p ∈ m)) (l.take j)
          rw [List.length_take] at h1
          refine ⟨.ref u, rfl, acc, a1, small (by omega), same_wr s3 hD, ?_⟩
          rw [take_next hj, List.filter_append, List.filter_cons_of_pos (p := fun p : Pc => !decide (p ∈ m)) c, List.filter_nil]
          exact a3
        · refine ⟨s3, ?_⟩
          rw [take_next hj, List.filter_append, List.filter_cons_of_neg (p := fun p : Pc => !decide (p ∈ m)) c, List.filter_nil, List.append_nil]
          exact d3
      · rw [List.take_length] at d3
        refine q H3 D _ ((s1.trans sm).trans s3) (s1.free (sm.free hD)) ⟨nodup_filter _ hl.nd, fun x => ?_⟩ d3
        rw [List.mem_filter, hl.mem]
        refine and_congr_right fun _ => ?_
        have e : (!decide (x ∈ m)) = true ↔ ¬ x ∈ m := by simp
        rw [e, hm]
        constructor
        · intro h p hp hx
          exact h ⟨p, (hl.mem p).mpr hp, hx⟩
        · rintro h ⟨p, hp, hx⟩
          exact h p ((hl.mem p).mp hp) hx

/-! ### balance -/
def spBalance : Sp := fun vs H Q _ => ∃ (a : Addr) (W : List Pc), vs = [.ref a] ∧ LpAt H a W ∧ Good W ∧ ∀ H' l, Same H H' → Pcs W l → Q (.int (chi l)) H'
theorem scBalance : FnScope ["web", "piece"] ["web"] (defScope sBalance) := ⟨rfl, rfl, rfl, by decide +kernel, rfl, by decide +kernel, by decide +kernel⟩
theorem ok_balance {f : Addr} {fd : FuncData} (F : FnP K "balance" sBalance f fd) (T : Txt mg) (C1 : Cal P w K mg base CX0 4 "must_be_web" ["web"] spMust) (C2 : Cal P w K mg base CX0 2 "pieces_by" ["web"] spPiecesBy) :
    FnOk P w K mg base CX0 5 f fd ["web"] spBalance := by
  obtain ⟨f1, fd1, G1, g1, k1, b1⟩ := C1.ex
  obtain ⟨f2, fd2, G2, g2, k2, b2⟩ := C2.ex
  refine F.ok scBalance (fun vs H Q E h => ?_) (fun cdv A outer s H vs Q E hr h => ?_)
  · obtain ⟨a, W, rfl, _⟩ := h
    rfl
  · obtain ⟨a, W, rfl, src, good, q⟩ := h
    have hr2 := hr.mono (j := 2) (by decide)
    refine ⟨_, PSs.nox (pss_cons (ps_expr (pe_call G1 hr (by rfl) g1 k1 b1 .nil pass0 (pa_cons (pv 0) pa_nil)))
      (pss_one (ps_ret (pe_callB (cr_sum rfl) (by rfl) T.sum (by decide +kernel) (pa_cons
        (pe_lc (own := [("piece", 1)]) (g := gName 1) (tt := tYes) rfl scBalance.nd (pi_list (pe_call G2 hr2 (by rfl) g2 k2 b2 .nil pass0 (pa_cons (pv 0) pa_nil))) (blkOk_by (own := [("piece", 1)]) (N := ["web", "piece"]) (sc := defScope sBalance) (by decide +kernel)) (fun _ _ _ _ _ => pg_name (i := 1) scBalance.nd rfl (Or.inl rfl)) (fun _ _ _ _ _ => pts_nil)
          (fun _ _ _ _ _ => pe_op op_sub pe_int (pe_op op_mul pe_int (pe_op op_sub pe_int (pe_op op_mod (pe_callB (r := rLn K) call_len_seq (by rfl) T.len PySem.boot_len (pa_cons (pv 1) pa_nil)) pe_int))))) pa_nil))))), ?_⟩
    refine ⟨.ref a, rfl, a, W, rfl, src, good, fun H1 s1 => ?_⟩
    have hfew := good.few
    refine ⟨.ref a, rfl, a, W, rfl, src.keep s1, good5 good, by omega, fun H2 r l s2 hr0 hl ll => ⟨r, rfl, ll.sq, fun D hD => ?_⟩⟩
    have h200 := good.most l hl
    refine lc_lp ll (fun j H3 => Same H2 H3 ∧ H3 D = some (.lst (((l.take j).map sgn).map V.int))) ⟨same_upd hD, upd_same⟩ (fun j H3 h => h.1) (fun j u p H3 hj hu ⟨s3, d3⟩ => ?_) (fun H3 ⟨s3, d3⟩ => ?_)
    · have hjl := lt_of_at hj
      refine ⟨rfl, .ref u, rfl, u, _, rfl, .inr (tup_sq hu), _, _, rfl, rfl, (by show (0 : Int) < 2; decide), _, _, rfl, rfl, _, _, rfl, rfl, .inl (by show (-(2 ^ 64) : Int) < 2 ∧ (2 : Int) < 2 ^ 64; decide), _, _, rfl, rfl, _, d3, small (by rw [List.length_map, List.length_map, List.length_take]; omega), same_wr s3 hD, upd_eq ?_⟩
      rw [take_next hj, List.map_append, List.map_append, List.map_singleton, List.map_singleton, List.length_map]
      rfl
    · rw [List.take_length] at d3
      exact ⟨D, _, rfl, .inl (.inl d3), q H3 l ((s1.trans s2).trans s3) hl⟩
end
end K7
set_option maxHeartbeats 3999999
/-! both, shared. -/
namespace K7
open PySem PySem.Spec PyProof.Rows L2 K7R K74
theorem hu65 {A : Around} {k : Nat} (hr : Room k A) : A.units + 65 < cLine := by have := hr.un; omega
theorem dp_list {K : PySem.W.Frag} {H : Hp} {a : Addr} {ps : List Pc} (h : LpAt H a ps) : Dp K H (.ref a) (.list (ps.map pD)) := by
  obtain ⟨ks, h1, h2, h3⟩ := h
  refine .lst (.inl (.inl h1)) ?_
  rw [← h3]
  clear h1 h3
  induction ks with
  | nil => exact .nil
  | cons k ks ih => exact .cons (dp_piece (tup_sq (h2 k List.mem_cons_self))) (ih fun z hz => h2 z (List.mem_cons_of_mem _ hz))
section
variable {P : Program} {w : World} {K : PySem.W.Frag} {mg : Str → Option Value} {base : Heap}
/-! ### both -/
def spBoth : Sp := fun vs H Q _ => ∃ (a b : Addr) (A B : List Pc), vs = [.ref a, .ref b] ∧ LpAt H a A ∧ LpAt H b B ∧ Good A ∧ Good B ∧ ∀ H' r U g, Same H H' → H r = none → (∀ q, In q U ↔ In q A ∨ In q B) → Grt U g → LpAt H' r g → Q (.ref r) H'
theorem scBoth : FnScope ["one", "other", "piece"] ["one", "other"] (defScope sBoth) := ⟨rfl, rfl, rfl, by decide +kernel, rfl, by decide +kernel, by decide +kernel⟩
theorem in_both (A B : List Pc) (q : Pc) : In q (A ++ B.filter fun p => !decide (p ∈ A)) ↔ In q A ∨ In q B := by
  constructor
  · rintro ⟨hq, p, hp, hs⟩
    rcases List.mem_append.mp hp with hp | hp
    · exact .inl ⟨hq, p, hp, hs⟩
    · exact .inr ⟨hq, p, (List.mem_filter.mp hp).1, hs⟩
  · rintro (⟨hq, p, hp, hs⟩ | ⟨hq, p, hp, hs⟩)
    · exact ⟨hq, p, List.mem_append.mpr (.inl hp), hs⟩
    · by_cases c : p ∈ A
      · exact ⟨hq, p, List.mem_append.mpr (.inl c), hs⟩
      · exact ⟨hq, p, List.mem_append.mpr (.inr (List.mem_filter.mpr ⟨hp, by simpa using c⟩)), hs⟩
theorem ok_both {f : Addr} {fd : FuncData} (F : FnP K "both" sBoth f fd) (T : Txt mg) (C1 : Cal P w K mg base CX0 4 "must_be_web" ["web"] spMust) (C2 : Cal P w K mg base CX0 3 "greatest_by" ["web"] spGreatest) :
    FnOk P w K mg base CX0 5 f fd ["one", "other"] spBoth := by
  obtain ⟨f1, fd1, G1, g1, k1, b1⟩ := C1.ex
  obtain ⟨f2, fd2, G2, g2, k2, b2⟩ := C2.ex
  refine F.ok scBoth (fun vs H Q E h => ?_) (fun cdv A outer s H vs Q E hr h => ?_)
  · obtain ⟨a, b, A, B, rfl, _⟩ := h
    rfl
  · obtain ⟨a, b, A, B, rfl, sa, sb, ga, gb, q⟩ := h
    have hr3 := hr.mono (j := 3) (by decide)
    refine ⟨_, PSs.nox (pss_cons (ps_expr (pe_call G1 hr (by rfl) g1 k1 b1 .nil pass0 (pa_cons (pv 0) pa_nil)))
      (pss_cons (ps_expr (pe_call G1 hr (by rfl) g1 k1 b1 .nil pass0 (pa_cons (pv 1) pa_nil)))
      (pss_one (ps_ret (pe_call G2 hr3 (by rfl) g2 k2 b2 .nil pass0 (pa_cons (pe_op op_cat (pe_callTy call_list_of (by rfl) T.list (by decide +kernel) (pa_cons (pv 0) pa_nil))
        (pe_lc (own := [("piece", 2)]) (g := gName 2) rfl scBoth.nd (pi_list (pv 1)) (blkOk_by (own := [("piece", 2)]) (N := ["one", "other", "piece"]) (sc := defScope sBoth) (by decide +kernel)) (fun _ _ _ _ _ => pg_name (i := 2) scBoth.nd rfl (Or.inl rfl))
          (fun _ _ _ _ _ => pts_one (pt_cmpR (r := rNotInD K) (op_notInD (hu65 hr)) (pv 2) (pv 0) (by rfl))) (fun _ _ _ _ _ => pv 2))) pa_nil)))))), ?_⟩
    refine ⟨.ref a, rfl, a, A, rfl, sa, ga, fun H1 s1 => ⟨.ref b, rfl, b, B, rfl, sb.keep s1, gb, fun H2 s2 => ?_⟩⟩
    have s12 := s1.trans s2
    obtain ⟨ks, e1, e2, e3⟩ := sa.keep s12
    refine ⟨.ref a, rfl, a, _, rfl, .inl (.inl (.inl e1)), fun l hl => ⟨.ref b, rfl, b, rfl, (sb.keep (s12.trans (same_upd hl))).sq, fun D hD => ?_⟩⟩
    have sl : Same H2 (upd H2 l (.lst (refs ks))) := same_upd hl
    have la : LpAt (upd H2 l (.lst (refs ks))) l A := ⟨ks, upd_same, e2.keep sl, e3⟩
    refine lc_lp (sb.keep (s12.trans sl)) (fun j H3 => Same (upd H2 l (.lst (refs ks))) H3 ∧ LpAt H3 D ((B.take j).filter fun p => !decide (p ∈ A))) ⟨same_upd hD, LpAt.nil upd_same⟩ (fun j H3 h => h.1) (fun j u p H3 hj hu ⟨s3, d3⟩ => ?_) (fun H3 ⟨s3, d3⟩ => ?_)
    · have hjl := lt_of_at hj
      have hfB := gb.few
      refine ⟨rfl, .ref u, rfl, .ref a, rfl, pD p, A.map pD, dp_piece (tup_sq hu), dp_list ((sa.keep (s12.trans sl)).keep s3), pD_shaped _, pDs_shaped _, _, rfl, ?_⟩
      rw [any_pD]
      refine ite2 (fun c => ?_) (fun c => ?_)
      · obtain ⟨acc, a1, a2, a3⟩ := lp_push d3 hu
        have h1 := List.length_filter_le (fun p : Pc => !decide (p ∈ A)) (B.take j)
        rw [List.length_take] at h1
        refine ⟨.ref u, rfl, acc, a1, small (by omega), same_wr s3 hD, ?_⟩
        rw [take_next hj, List.filter_append, List.filter_cons_of_pos (p := fun p : Pc => !decide (p ∈ A)) c, List.filter_nil]
        exact a3
      · refine ⟨s3, ?_⟩
        rw [take_next hj, List.filter_append, List.filter_cons_of_neg (p := fun p : Pc => !decide (p ∈ A)) c, List.filter_nil, List.append_nil]
        exact d3
    · rw [List.take_length] at d3
      have hfA := ga.few
      have hfB := gb.few
      have hfl := List.length_filter_le (fun p : Pc => !decide (p ∈ A)) B
      obtain ⟨ks2, f1, f2, f3⟩ := la.keep s3
      obtain ⟨ms, m1, m2, m3⟩ := d3
      have kl : ks2.length = A.length := by rw [← f3, List.length_map]
      have ml : ms.length = (B.filter fun p => !decide (p ∈ A)).length := by rw [← m3, List.length_map]
      refine ⟨l, D, _, _, rfl, rfl, f1, m1, smallE (by rw [refs_len, refs_len]; omega), fun c hc => ?_⟩
      have sc : Same H3 (upd H3 c (.lst (refs ks2 ++ refs ms))) := same_upd hc
      refine ⟨c, A ++ B.filter (fun p => !decide (p ∈ A)), rfl, ⟨ks2 ++ ms, ?_, fun k hk => ?_, ?_⟩, fun p hp => ?_, ?_, fun H4 r g s4 hr0 G lg => ?_⟩
      · rw [upd_same, show refs (ks2 ++ ms) = refs ks2 ++ refs ms from List.map_append]
      · rcases List.mem_append.mp hk with hk | hk
        · exact sc _ _ (f2 k hk)
        · exact sc _ _ (m2 k hk)
      · rw [List.map_append, f3, m3]
      · rcases List.mem_append.mp hp with hp | hp
        · exact good5 ga p hp
        · exact good5 gb p (List.mem_filter.mp hp).1
      · rw [List.length_append]
        omega
      · have sH := (((s12.trans sl).trans s3).trans sc)
        exact q H4 r _ g (sH.trans s4) (sH.free hr0) (in_both A B) G lg

/-! ### shared -/
def spShared : Sp := fun vs H Q _ => ∃ (a b : Addr) (A B : List Pc), vs = [.ref a, .ref b] ∧ LpAt H a A ∧ LpAt H b B ∧ Good A ∧ Good B ∧ ∀ H' r S g, Same H H' → H r = none → (∀ q, In q S ↔ In q A ∧ In q B) → Grt S g → LpAt H' r g → Q (.ref r) H'
theorem scShared : FnScope ["one", "other", "there", "piece"] ["one", "other"] (defScope sShared) := ⟨rfl, rfl, rfl, by decide +kernel, rfl, by decide +kernel, by decide +kernel⟩
theorem in_shared {A B la lb : List Pc} (ha : Pcs A la) (hb : Pcs B lb) (q : Pc) : In q (la.filter fun p => decide (p ∈ lb)) ↔ In q A ∧ In q B := by
  constructor
  · rintro ⟨hq, p, hp, hs⟩
    obtain ⟨h1, h2⟩ := List.mem_filter.mp hp
    exact ⟨((ha.mem p).mp h1).part hq hs, ((hb.mem p).mp (of_decide_eq_true h2)).part hq hs⟩
  · rintro ⟨h1, h2⟩
    exact ⟨h1.1, q, List.mem_filter.mpr ⟨(ha.mem q).mpr h1, decide_eq_true ((hb.mem q).mpr h2)⟩, List.Sublist.refl q⟩
theorem ok_shared {f : Addr} {fd : FuncData} (F : FnP K "shared" sShared f fd) (T : Txt mg) (C1 : Cal P w K mg base CX0 4 "must_be_web" ["web"] spMust) (C2 : Cal P w K mg base CX0 2 "pieces_by" ["web"] spPiecesBy) (C3 : Cal P w K mg base CX0 3 "greatest_by" ["web"] spGreatest) :
    FnOk P w K mg base CX0 5 f fd ["one", "other"] spShared := by
  obtain ⟨f1, fd1, G1, g1, k1, b1⟩ := C1.ex
  obtain ⟨f2, fd2, G2, g2, k2, b2⟩ := C2.ex
  obtain ⟨f3, fd3, G3, g3, k3, b3⟩ := C3.ex
  refine F.ok scShared (fun vs H Q E h => ?_) (fun cdv A outer s H vs Q E hr h => ?_)
  · obtain ⟨a, b, A, B, rfl, _⟩ := h
    rfl
  · obtain ⟨a, b, A, B, rfl, sa, sb, ga, gb, q⟩ := h
    have hr3 := hr.mono (j := 3) (by decide)
    have hr2 := hr.mono (j := 2) (by decide)
    refine ⟨_, PSs.nox (pss_cons (ps_expr (pe_call G1 hr (by rfl) g1 k1 b1 .nil pass0 (pa_cons (pv 0) pa_nil)))
      (pss_cons (ps_expr (pe_call G1 hr (by rfl) g1 k1 b1 .nil pass0 (pa_cons (pv 1) pa_nil)))
      (pss_cons (ps_set (i := 2) scShared.nd rfl (.inr rfl) (pe_call G2 hr2 (by rfl) g2 k2 b2 .nil pass0 (pa_cons (pv 1) pa_nil)))
      (pss_one (ps_ret (pe_call G3 hr3 (by rfl) g3 k3 b3 .nil pass0 (pa_cons
        (pe_lc (own := [("piece", 3)]) (g := gName 3) rfl scShared.nd (pi_list (pe_call G2 hr2 (by rfl) g2 k2 b2 .nil pass0 (pa_cons (pv 0) pa_nil))) (blkOk_by (own := [("piece", 3)]) (N := ["one", "other", "there", "piece"]) (sc := defScope sShared) (by decide +kernel)) (fun _ _ _ _ _ => pg_name (i := 3) scShared.nd rfl (Or.inl rfl))
          (fun _ _ _ _ _ => pts_one (pt_cmpR (r := rInD K) (op_inD (hu65 hr)) (pv 3) (pv 2) (by rfl))) (fun _ _ _ _ _ => pv 3)) pa_nil))))))), ?_⟩
    refine ⟨.ref a, rfl, a, A, rfl, sa, ga, fun H1 s1 => ⟨.ref b, rfl, b, B, rfl, sb.keep s1, gb, fun H2 s2 => ?_⟩⟩
    have s12 := s1.trans s2
    have hfA := ga.few
    have hfB := gb.few
    refine ⟨.ref b, rfl, b, B, rfl, sb.keep s12, good5 gb, by omega, fun H3 rb lb s3 hrb hlb llb => ?_⟩
    refine ⟨.ref a, rfl, a, A, rfl, sa.keep (s12.trans s3), good5 ga, by omega, fun H4 ra la s4 hra hla lla => ⟨ra, rfl, lla.sq, fun D hD => ?_⟩⟩
    have h200 := ga.most la hla
    have hfl := List.length_filter_le (fun p : Pc => decide (p ∈ lb)) la
    refine lc_lp lla (fun j H5 => Same H4 H5 ∧ LpAt H5 D ((la.take j).filter fun p => decide (p ∈ lb))) ⟨same_upd hD, LpAt.nil upd_same⟩ (fun j H5 h => h.1) (fun j u p H5 hj hu ⟨s5, d5⟩ => ?_) (fun H5 ⟨s5, d5⟩ => ?_)
    · have hjl := lt_of_at hj
      refine ⟨rfl, .ref u, rfl, .ref rb, rfl, pD p, lb.map pD, dp_piece (tup_sq hu), dp_list ((llb.keep s4).keep s5), pD_shaped _, pDs_shaped _, _, rfl, ?_⟩
      rw [any_pD]
      refine ite2 (fun c => ?_) (fun c => ?_)
      · obtain ⟨acc, a1, a2, a3⟩ := lp_push d5 hu
        have h1 := List.length_filter_le (fun p : Pc => decide (p ∈ lb)) (la.take j)
        rw [List.length_take] at h1
        refine ⟨.ref u, rfl, acc, a1, small (by omega), same_wr s5 hD, ?_⟩
        rw [take_next hj, List.filter_append, List.filter_cons_of_pos (p := fun p : Pc => decide (p ∈ lb)) c, List.filter_nil]
        exact a3
      · refine ⟨s5, ?_⟩
        rw [take_next hj, List.filter_append, List.filter_cons_of_neg (p := fun p : Pc => decide (p ∈ lb)) c, List.filter_nil, List.append_nil]
        exact d5
    · rw [List.take_length] at d5
      refine ⟨D, la.filter (fun p => decide (p ∈ lb)), rfl, d5, fun p hp => ?_, by omega, fun H6 r g s6 hr0 G lg => ?_⟩
      · exact in_len (good5 ga) ((hla.mem p).mp (List.mem_filter.mp hp).1)
      · have sH := ((s12.trans s3).trans s4).trans s5
        exact q H6 r _ g (sH.trans s6) (sH.free hr0) (in_shared hla hlb) G lg
end
end K7
set_option maxHeartbeats 3999999
/-! joined_by, joined, _law_joined. -/
namespace K7
open PySem PySem.Spec PyProof.Rows L2 K7R K74

/-! ### what is told of a joined web -/
def JoinRes (A B g : List Pc) : Prop := (g.length ≤ 20 → Good g) ∧ ∀ a b j, Pcs A a → Pcs B b → Pcs g j → chi j - 1 = 0 - (chi a - 1) * (chi b - 1)
theorem set_of : ∀ L : List Pc, ∃ l : List Pc, l.Nodup ∧ ∀ q, q ∈ l ↔ q ∈ L
  | [] => ⟨[], List.nodup_nil, fun _ => Iff.rfl⟩
  | p :: L => by
    obtain ⟨l, h1, h2⟩ := set_of L
    refine ⟨addP l p, nodup_addP h1, fun q => ?_⟩
    rw [mem_addP, h2, List.mem_cons]
    exact Or.comm
theorem pcs_ex (W : List Pc) : ∃ l, Pcs W l := by
  obtain ⟨l, h1, h2⟩ := set_of (W.flatMap parts)
  exact ⟨l, h1, fun q => (h2 q).trans mem_flat⟩
theorem grt_few {W g : List Pc} (G : Grt W g) (h : Good W) : g.length ≤ 200 := by
  obtain ⟨l, hl⟩ := pcs_ex W
  exact Nat.le_trans (nodup_len G.nd fun x hx => (hl.mem x).mpr (G.mem_in hx)) (h.most l hl)
theorem grt_good {W g : List Pc} (G : Grt W g) (h : Good W) (hf : g.length ≤ 20) : Good g :=
  ⟨hf, G.nd, fun p hp => (G.mem_in hp).pk h.pk, fun l hl => h.most l (hl.congr G.in_iff)⟩
theorem in_nil {W : List Pc} (G : Grt W []) (q : Pc) : ¬ In q W := fun h => by
  obtain ⟨_, p, hp, _⟩ := (G.in_iff q).mpr h
  cases hp
theorem pcs_none {W l : List Pc} (h : Pcs W l) (n : ∀ q, ¬ In q W) : l = [] := List.eq_nil_iff_forall_not_mem.mpr fun q hq => n q ((h.mem q).mp hq)
theorem chi_nil : chi [] = 0 := rfl
/-- one of both has no pieces -/
theorem join_left {A B gr : List Pc} (Ga : Grt A []) (Gb : Grt B gr) (gb : Good B) : JoinRes A B gr := by
  refine ⟨grt_good Gb gb, fun a b j ha hb hj => ?_⟩
  rw [pcs_none ha (in_nil Ga), chi_nil, (hj.congr Gb.in_iff).chi_eq hb]
  omega
theorem join_right {A B gl : List Pc} (Ga : Grt A gl) (Gb : Grt B []) (ga : Good A) : JoinRes A B gl := by
  refine ⟨grt_good Ga ga, fun a b j ha hb hj => ?_⟩
  rw [pcs_none hb (in_nil Gb), chi_nil, (hj.congr Ga.in_iff).chi_eq ha]
  omega
theorem join_res {A B gl gr fs l g : List Pc} (ga : Good A) (gb : Good B) (d : Apart A B) (Ga : Grt A gl) (Gb : Grt B gr) (na : gl ≠ []) (nb : gr ≠ []) (J : Join gl gr fs) (h5 : ∀ s ∈ fs, s.length ≤ 5) (hl : Pcs fs l) (h200 : l.length ≤ 200) (G : Grt fs g) : JoinRes A B g := by
  have pa : ∀ p, In p A → Pk p := fun p h => h.pk ga.pk
  have pb : ∀ p, In p B → Pk p := fun p h => h.pk gb.pk
  have pf : ∀ s ∈ fs, ∀ x ∈ s, 0 ≤ x ∧ x ≤ 99 := fun s hs x hx => by
    obtain ⟨p, hp, r, hr, hperm, _⟩ := J.of s hs
    rcases List.mem_append.mp (hperm.mem_iff.mp hx) with h | h
    · exact (pa p (Ga.mem_in hp)).bd x h
    · exact (pb r (Gb.mem_in hr)).bd x h
  have pk : ∀ q, In q fs → Pk q := fun q ⟨hq, s, hs, sub⟩ => by
    obtain ⟨_, _, _, _, _, hasc⟩ := J.of s hs
    exact ⟨hq, Nat.le_trans sub.length_le (h5 s hs), List.Pairwise.sublist sub hasc, fun x hx => pf s hs x (sub.mem hx)⟩
  refine ⟨fun hf => ⟨hf, G.nd, fun p hp => pk p (G.mem_in hp), fun m hm => ?_⟩, fun a b j ha hb hj => join_chi pa pb d Ga Gb na nb J ha hb (hj.congr G.in_iff)⟩
  rw [(hm.congr G.in_iff).perm hl |>.length_eq]
  exact h200
/-- so far -/
structure JPart (gl gr fs : List Pc) : Prop where
  of : ∀ s ∈ fs, ∃ a ∈ gl, ∃ b ∈ gr, s.Perm (a ++ b) ∧ Asc s
  has : ∀ a ∈ gl, ∀ b ∈ gr, ∃ s ∈ fs, s.Perm (a ++ b) ∧ Asc s
theorem jp_next {p : Pc} {gr ds : List Pc} {j : Nat} {r s : Pc} (h : JPart [p] (gr.take j) ds) (hr : gr[j]? = some r) (hs : s.Perm (p ++ r)) (ha : Asc s) : JPart [p] (gr.take (j + 1)) (ds ++ [s]) := by
  rw [take_next hr]
  refine ⟨fun z hz => ?_, fun a haa b hb => ?_⟩
  · rcases List.mem_append.mp hz with hz | hz
    · obtain ⟨a, h1, b, h2, h3⟩ := h.of z hz
      exact ⟨a, h1, b, List.mem_append.mpr (.inl h2), h3⟩
    · rw [List.mem_singleton.mp hz]
      exact ⟨p, List.mem_singleton.mpr rfl, r, List.mem_append.mpr (.inr (List.mem_singleton.mpr rfl)), hs, ha⟩
  · rcases List.mem_append.mp hb with hb | hb
    · obtain ⟨z, h1, h2⟩ := h.has a haa b hb
      exact ⟨z, List.mem_append.mpr (.inl h1), h2⟩
    · rw [List.mem_singleton.mp hb, List.mem_singleton.mp haa]
      exact ⟨s, List.mem_append.mpr (.inr (List.mem_singleton.mpr rfl)), hs, ha⟩
theorem jp_more {gl gr fs ds : List Pc} {i : Nat} {p : Pc} (h : JPart (gl.take i) gr fs) (hp : gl[i]? = some p) (k : JPart [p] gr ds) : JPart (gl.take (i + 1)) gr (fs ++ ds) := by
  rw [take_next hp]
  refine ⟨fun z hz => ?_, fun a haa b hb => ?_⟩
  · rcases List.mem_append.mp hz with hz | hz
    · obtain ⟨a, h1, b, h2, h3⟩ := h.of z hz
      exact ⟨a, List.mem_append.mpr (.inl h1), b, h2, h3⟩
    · obtain ⟨a, h1, b, h2, h3⟩ := k.of z hz
      exact ⟨a, List.mem_append.mpr (.inr h1), b, h2, h3⟩
  · rcases List.mem_append.mp haa with haa | haa
    · obtain ⟨z, h1, h2⟩ := h.has a haa b hb
      exact ⟨z, List.mem_append.mpr (.inl h1), h2⟩
    · obtain ⟨z, h1, h2⟩ := k.has a haa b hb
      exact ⟨z, List.mem_append.mpr (.inr h1), h2⟩

/-! ### the error -/
structure TxtE (K : PySem.W.Frag) (mg : Str → Option Value) (C : Addr) : Prop where
  gN : mg "NoWeb" = some (.ref C)
  xN : PySem.W.excIn K C He.veBase "ValueError.__new__" = true
  kN : PySem.W.keepIn K (.ref C) = true
  bN : PySem.W.subIn K (.ref C) (.type "BaseException") = some true
  tN : PySem.W.typeIn K (.ref C) = some (.type "type")
  eN : PySem.W.exmOne K (.ref C) (.ref C) = some true
/-- a statement that raises nothing, in a def that raises -/
theorem PSnox {X : Cx} {st : Stmt} {t : TS} (calm : PS X.nox st t) : PS X st t := by
  constructor
  intro pins s σ H D held will
  have ran := calm.run pins s σ H D (held.wish _) will
  exact wpAny_mono ran (fun _ _ ended => ended.unwish) (fun _ _ none => none.elim)
abbrev rTupOf (K : PySem.W.Frag) : List V → Hp → VK → Prop := fun xs H Q => ∃ p ys, xs = [.ref p] ∧ ((SqL K H p ys ∧ ∀ l, H l = none → Q (.ref l) (upd H l (.tup ys))) ∨ (SqT K H p ys ∧ Q (.ref p) H))
theorem jlen {gl gr : List Pc} {m n : Nat} (h1 : m ≤ 200) (h2 : n ≤ 200) : m * n ≤ 40000 := Nat.le_trans (Nat.mul_le_mul h1 h2) (by decide)

section
variable {P : Program} {w : World} {K : PySem.W.Frag} {mg : Str → Option Value} {base : Heap} {C : Addr}
/-! ### joined_by -/
def spJoin (C : Addr) : Sp := fun vs H Q E => ∃ (a b : Addr) (A B : List Pc), vs = [.ref a, .ref b] ∧ LpAt H a A ∧ LpAt H b B ∧ Good A ∧ Good B ∧ (∀ H', Same H H' → E (.ref C) none H') ∧ ∀ H' r g, Same H H' → H r = none → JoinRes A B g → LpAt H' r g → Q (.ref r) H'
def spJoinBy (C : Addr) : Sp := fun vs H Q E => ∃ (a b : Addr) (A B : List Pc), vs = [.ref a, .ref b] ∧ LpAt H a A ∧ LpAt H b B ∧ Good A ∧ Good B ∧ Apart A B ∧ (∀ H', Same H H' → E (.ref C) none H') ∧ ∀ H' r g, Same H H' → H r = none → JoinRes A B g → LpAt H' r g → Q (.ref r) H'
theorem scJoinBy : FnScope ["one", "other", "left", "right", "found", "piece", "there"] ["one", "other"] (defScope sJoinedBy) := ⟨rfl, rfl, rfl, by decide +kernel, rfl, by decide +kernel, by decide +kernel⟩
theorem ok_joined_by {f : Addr} {fd : FuncData} (F : FnP K "joined_by" sJoinedBy f fd) (T : Txt mg) (TE : TxtE K mg C) (C1 : Cal P w K mg base CX0 3 "greatest_by" ["web"] spGreatest) (C2 : Cal P w K mg base CX0 2 "pieces_by" ["web"] spPiecesBy) :
    FnOk P w K mg base (L2.CX P w) 4 f fd ["one", "other"] (spJoinBy C) := by
  obtain ⟨f1, fd1, G1, g1, k1, b1⟩ := C1.ex
  obtain ⟨f2, fd2, G2, g2, k2, b2⟩ := C2.ex
  obtain ⟨t5, m5⟩ := T.inPiece
  obtain ⟨t200, m200⟩ := T.pieces
  refine F.ok scJoinBy (fun vs H Q E h => ?_) (fun cdv A outer s H vs Q E hr h => ?_)
  · obtain ⟨a, b, A, B, rfl, _⟩ := h
    rfl
  · obtain ⟨a, b, A, B, rfl, sa, sb, ga, gb, ap, qe, q⟩ := h
    have hr2 := hr.mono (j := 2) (by decide)
    refine ⟨_, pss_cons (ps_set (i := 2) scJoinBy.nd rfl (.inl rfl) (pe_call G1 hr (by rfl) g1 k1 b1 .nil pass0 (pa_cons (pv 0) pa_nil)))
      (pss_cons (ps_set (i := 3) scJoinBy.nd rfl (.inl rfl) (pe_call G1 hr (by rfl) g1 k1 b1 .nil pass0 (pa_cons (pv 1) pa_nil)))
      (pss_cons (ps_if (PW.pt (pw_or (pt_cmpR op_eq (pe_callB (r := rLn K) call_len_seq (by rfl) T.len PySem.boot_len (pa_cons (pv 2) pa_nil)) pe_int (nomark _)) (pw_or1 (pt_cmpR op_eq (pe_callB (r := rLn K) call_len_seq (by rfl) T.len PySem.boot_len (pa_cons (pv 3) pa_nil)) pe_int (nomark _)))))
        (pss_one (ps_ret (pe_op op_cat (pv 2) (pv 3)))) pss_nil)
      (pss_cons (ps_set (i := 4) scJoinBy.nd rfl (.inl rfl) (pe_lst pa_nil))
      (pss_cons (PSnox (ps_for PassesOwn.never rfl (pi_list (pv 2)) (pg_name (i := 5) scJoinBy.nd rfl (Or.inr rfl))
        (pss_one (ps_expr (pe_bm PySem.F.plainAttrs_list PySem.F.slot_list_extend PySem.F.type_list_extend mt_extend (pv 4) (pa_cons
          (pe_lc (own := [("there", 6)]) (g := gName 6) (tt := tYes) rfl scJoinBy.nd (pi_list (pv 3)) (blkOk_by (own := [("there", 6)]) (N := ["one", "other", "left", "right", "found", "piece", "there"]) (sc := defScope sJoinedBy) (by decide +kernel)) (fun _ _ _ _ _ => pg_name (i := 6) scJoinBy.nd rfl (Or.inl rfl)) (fun _ _ _ _ _ => pts_nil)
            (fun _ _ _ _ _ => pe_callTy (r := rTupOf K) call_tuple_of (by rfl) T.tuple (by decide +kernel) (pa_cons (pe_callB (r := rSortedTI K) cr_sortedTI (by rfl) T.sorted (by decide +kernel) (pa_cons (pe_op (r := rCatA K) op_catA (pv 5) (pv 6)) pa_nil)) pa_nil))) pa_nil))))))
      (pss_cons (ps_if (PW.pt (pw_or (pt_cmpR op_gt (pe_callB (cr_max rfl) (by rfl) T.max (by decide +kernel) (pa_cons
            (pe_lc (own := [("piece", 5)]) (g := gName 5) (tt := tYes) rfl scJoinBy.nd (pi_list (pv 4)) (blkOk_by (own := [("piece", 5)]) (N := ["one", "other", "left", "right", "found", "piece", "there"]) (sc := defScope sJoinedBy) (by decide +kernel)) (fun _ _ _ _ _ => pg_name (i := 5) scJoinBy.nd rfl (Or.inl rfl)) (fun _ _ _ _ _ => pts_nil)
              (fun _ _ _ _ _ => pe_callB (r := rLn K) call_len_seq (by rfl) T.len PySem.boot_len (pa_cons (pv 5) pa_nil))) pa_nil)) (pe_glob (v := .int 5) (by rfl) m5 ⟨_, rfl⟩) (nomark _))
          (pw_or1 (pt_cmpR op_gt (pe_callB (r := rLn K) call_len_seq (by rfl) T.len PySem.boot_len (pa_cons (pe_call G2 hr2 (by rfl) g2 k2 b2 .nil pass0 (pa_cons (pv 4) pa_nil)) pa_nil)) (pe_glob (v := .int 200) (by rfl) m200 ⟨_, rfl⟩) (nomark _)))))
        (pss_one (ps_raise rfl (takes_of rfl rfl rfl rfl) (pmk_own PySem.F.excBase_ValueError TE.xN TE.gN TE.kN (raises_own TE.bN TE.tN) rfl))) pss_nil)
      (pss_one (ps_ret (pe_call G1 hr (by rfl) g1 k1 b1 .nil pass0 (pa_cons (pv 4) pa_nil))))))))), ?_⟩
    have hfA := ga.few
    have hfB := gb.few
    -- left, right
    refine ⟨.ref a, rfl, a, A, rfl, sa, good5 ga, by omega, fun H1 rl gl s1 hrl Ga ll => ?_⟩
    refine ⟨.ref b, rfl, b, B, rfl, sb.keep s1, good5 gb, by omega, fun H2 rr gr s2 hrr Gb lr => ?_⟩
    have ll2 := ll.keep s2
    have s12 := s1.trans s2
    have hgl := grt_few Ga ga
    have hgr := grt_few Gb gb
    obtain ⟨xl, hxl, exl⟩ := ll2.seq (K := K)
    obtain ⟨xr, hxr, exr⟩ := lr.seq (K := K)
    -- left + right, where one has none
    have cat : ∀ g, gl ++ gr = g → JoinRes A B g → tRet (tOp rCat (tVar 2) (tVar 3)) { nx := fun _ _ => False, rt := Q } [some (.ref a), some (.ref b), some (.ref rl), some (.ref rr), none, none, none] H2 := by
      intro g eg jr
      obtain ⟨ks, e1, e2, e3⟩ := id ll2
      obtain ⟨ms, m1, m2, m3⟩ := id lr
      have kl : ks.length = gl.length := by rw [← e3, List.length_map]
      have ml : ms.length = gr.length := by rw [← m3, List.length_map]
      refine ⟨.ref rl, rfl, .ref rr, rfl, rl, rr, _, _, rfl, rfl, e1, m1, smallE (by rw [refs_len, refs_len]; omega), fun c hc => ?_⟩
      have sc : Same H2 (upd H2 c (.lst (refs ks ++ refs ms))) := same_upd hc
      refine q _ c g (s12.trans sc) (s12.free hc) jr ⟨ks ++ ms, ?_, fun k hk => ?_, ?_⟩
      · rw [upd_same, show refs (ks ++ ms) = refs ks ++ refs ms from List.map_append]
      · rcases List.mem_append.mp hk with hk | hk
        · exact sc _ _ (e2 k hk)
        · exact sc _ _ (m2 k hk)
      · rw [List.map_append, e3, m3, eg]
    refine ⟨.ref rl, rfl, rl, xl, rfl, .inl hxl, rfl, _, rfl, ite2 (fun c => ?_) (fun c => ?_)⟩
    · have e0 : gl = [] := by
        have := V.int.inj (of_decide_eq_true c)
        exact List.eq_nil_of_length_eq_zero (by omega)
      subst e0
      exact cat gr rfl (join_left Ga Gb gb)
    · have nl : gl ≠ [] := fun z => c (decide_eq_true (by rw [exl, z]; rfl))
      refine ⟨.ref rr, rfl, rr, xr, rfl, .inl hxr, rfl, _, rfl, ite2 (fun c2 => ?_) (fun c2 => ?_)⟩
      · have e0 : gr = [] := by
          have := V.int.inj (of_decide_eq_true c2)
          exact List.eq_nil_of_length_eq_zero (by omega)
        subst e0
        exact cat gl (List.append_nil _) (join_right Ga Gb ga)
      · have nr : gr ≠ [] := fun z => c2 (decide_eq_true (by rw [exr, z]; rfl))
        -- found = []
        refine ⟨Nat.zero_le _, fun o ho => ?_⟩
        have so : Same H2 (upd H2 o (.lst [])) := same_upd ho
        refine ⟨.ref rl, rfl, rl, rfl, (ll2.keep so).sq, for_lp ll2 (fun i σ H3 => ∃ y5 fs, σ = [some (.ref a), some (.ref b), some (.ref rl), some (.ref rr), some (.ref o), y5, none] ∧ Same H2 H3 ∧ LpAt H3 o fs ∧ fs.length = i * gr.length ∧ JPart (gl.take i) gr fs)
          ⟨none, [], rfl, so, LpAt.nil upd_same, by simp, ⟨fun z hz => (by cases hz), fun z hz => (by cases hz)⟩⟩ (fun i σ H3 ⟨_, _, _, sm, _⟩ => sm) ?_ ?_⟩
        · rintro i t p σ H3 hi ht ⟨y5, fs, rfl, s3, fl, hfl, jp⟩
          have hil := lt_of_at hi
          have inp := Ga.mem_in (List.mem_of_getElem? hi)
          have pkp := inp.pk ga.pk
          have hp5 := pkp.le
          have hfew : fs.length ≤ 40000 := by rw [hfl]; exact jlen (gl := gl) (gr := gr) (by omega) hgr
          obtain ⟨kf, f1', f2', f3'⟩ := id fl
          refine ⟨.ref o, rfl, .inl ⟨rfl, _, .inl (.inl f1')⟩, .ref rr, rfl, rr, rfl, (lr.keep s3).sq, fun D hD => ?_⟩
          refine lc_lp (lr.keep s3) (fun j H4 => Same H3 H4 ∧ ∃ ds, LpAt H4 D ds ∧ ds.length = j ∧ JPart [p] (gr.take j) ds) ⟨same_upd hD, [], LpAt.nil upd_same, rfl, ⟨fun z hz => (by cases hz), fun z _ y hy => (by cases hy)⟩⟩ (fun j H4 h => h.1) (fun j u r H4 hj hu ⟨s4, ds, dl, hdl, jd⟩ => ?_) (fun H4 ⟨s4, ds, dl, hdl, jd⟩ => ?_)
          · have hjl := lt_of_at hj
            have inr' := Gb.mem_in (List.mem_of_getElem? hj)
            have pkr := inr'.pk gb.pk
            have hr5 := pkr.le
            refine ⟨rfl, .ref t, rfl, .ref u, rfl, cat_any (s4 _ _ ht) hu (by omega) fun H5 c s5 hc => ?_⟩
            refine ⟨c, p ++ r, rfl, tup_sq hc, by rw [List.length_append]; omega, fun ns l hperm hsort hl => ?_⟩
            have sl : Same H5 (upd H5 l (.lst (ns.map V.int))) := same_upd hl
            refine ⟨l, _, rfl, .inl ⟨.inl (.inl upd_same), fun e he => ?_⟩⟩
            have se : Same (upd H5 l (.lst (ns.map V.int))) (upd (upd H5 l (.lst (ns.map V.int))) e (.tup (ns.map V.int))) := same_upd he
            have s4e := (s5.trans sl).trans se
            have hnd : (p ++ r).Nodup := app_nodup pkp.up pkr.up fun z hz hz' => ap p inp r inr' z hz hz'
            have hasc : Asc ns := asc_of hsort (hperm.nodup_iff.mpr hnd)
            obtain ⟨acc, a1, a2, a3⟩ := lp_push (q := ns) (dl.keep s4e) (show TupAt _ e ns from upd_same)
            exact ⟨acc, a1, small (by omega), same_wr (s4.trans s4e) hD, ds ++ [ns], a3, by rw [List.length_append, hdl]; rfl, jp_next jd hj hperm hasc⟩
          · rw [List.take_length] at jd
            obtain ⟨xs, zs, b1', b2', b3', b4', b5'⟩ := lp_ext (fl.keep s4) dl
            refine ⟨o, D, xs, zs, rfl, rfl, b1', b2', smallE (by omega), _, fs ++ ds, rfl, same_wr (s3.trans s4) ho, b5', ?_, jp_more jp hi jd⟩
            rw [List.length_append, hfl, hdl, Nat.succ_mul]
        · rintro σ H3 ⟨y5, fs, rfl, s3, fl, hfl, jp⟩
          rw [List.take_length] at jp
          have J : Join gl gr fs := ⟨jp.of, jp.has⟩
          have hfew : fs.length ≤ 40000 := by rw [hfl]; exact jlen (gl := gl) (gr := gr) hgl hgr
          have s123 := s12.trans s3
          -- max([len(piece) for piece in found]) > MOST_IN_PIECE
          refine ⟨.ref o, rfl, o, rfl, fl.sq, fun D hD => lc_lp fl (fun j H4 => Same H3 H4 ∧ H4 D = some (.lst (((fs.take j).map fun s => (s.length : Int)).map V.int))) ⟨same_upd hD, upd_same⟩ (fun j H4 h => h.1) (fun j u s H4 hj hu ⟨s4, d4⟩ => ?_) (fun H4 ⟨s4, d4⟩ => ?_)⟩
          · have hjl := lt_of_at hj
            refine ⟨rfl, .ref u, rfl, u, _, rfl, .inr (tup_sq hu), _, d4, small (by rw [List.length_map, List.length_map, List.length_take]; omega), same_wr s4 hD, upd_eq ?_⟩
            rw [take_next hj, List.map_append, List.map_append, List.map_singleton, List.map_singleton, List.length_map]
          · rw [List.take_length] at d4
            have hpos : 0 < (fs.map fun s => (s.length : Int)).length := by
              obtain ⟨p, hp⟩ := List.exists_mem_of_ne_nil gl nl
              obtain ⟨r, hr'⟩ := List.exists_mem_of_ne_nil gr nr
              obtain ⟨z, hz, _⟩ := J.has p hp r hr'
              rw [List.length_map]
              exact List.length_pos_of_mem hz
            refine ⟨D, _, rfl, .inl (.inl d4), hpos, fun m hm hmax => ⟨m, 5, rfl, rfl, _, rfl, ite2 (fun c => ?_) (fun c => ?_)⟩⟩
            · exact qe _ (s123.trans s4)
            · have h5 : ∀ s ∈ fs, s.length ≤ 5 := fun s hs => by
                have h1 := hmax _ (List.mem_map.mpr ⟨s, hs, rfl⟩)
                have h2 : ¬ 5 < m := fun z => c (decide_eq_true z)
                omega
              refine ⟨.ref o, rfl, o, fs, rfl, fl.keep s4, h5, hfew, fun H5 r l s5 hr0 hl l5 => ?_⟩
              obtain ⟨x5, hx5, ex5⟩ := l5.seq (K := K)
              refine ⟨r, x5, rfl, .inl hx5, _, _, rfl, rfl, _, rfl, ite2 (fun c5 => ?_) (fun c5 => ?_)⟩
              · exact qe _ ((s123.trans s4).trans s5)
              · have h200 : l.length ≤ 200 := by
                  have h2 : ¬ (200 : Int) < (x5.length : Int) := fun z => c5 (decide_eq_true z)
                  omega
                refine ⟨.ref o, rfl, o, fs, rfl, (fl.keep s4).keep s5, h5, hfew, fun H6 r6 g s6 hr6 G lg => ?_⟩
                have sH := (s123.trans s4).trans s5
                exact q H6 r6 g (sH.trans s6) (sH.free hr6) (join_res ga gb ap Ga Gb nl nr J h5 hl h200 G) lg
end
end K7
set_option maxHeartbeats 3999999
/-! joined, _law_joined. -/
namespace K7
open PySem PySem.Spec PyProof.Rows L2 K7R K74
theorem flat_ints : ∀ xs : List Int, (xs.map V.int).all flatV = true
  | [] => rfl
  | x :: xs => by
    rw [List.map_cons, List.all_cons, flat_ints xs]
    rfl
theorem inV_ints (x : Int) (xs : List Int) : inV (.int x) (xs.map V.int) = decide (x ∈ xs) := by
  rw [Bool.eq_iff_iff, decide_eq_true_eq]
  unfold inV
  rw [List.any_eq_true]
  constructor
  · rintro ⟨y, hy, e⟩
    obtain ⟨z, hz, rfl⟩ := List.mem_map.mp hy
    have e' : (z == x) = true := e
    rw [← beq_iff_eq.mp e']
    exact hz
  · intro h
    refine ⟨.int x, List.mem_map.mpr ⟨x, h, rfl⟩, ?_⟩
    show (x == x) = true
    exact beq_self_eq_true x
/-- the points among these pieces -/
def ptsOf (l : List Pc) : List Int := l.filterMap fun p => match p with
  | [x] => some x
  | _ => none
theorem ptsOf_one {l : List Pc} {x : Int} : x ∈ ptsOf l ↔ [x] ∈ l := by
  unfold ptsOf
  rw [List.mem_filterMap]
  constructor
  · rintro ⟨p, hp, e⟩
    match p, hp, e with
    | [y], hp, e =>
      have e' : y = x := Option.some.inj e
      rw [← e']
      exact hp
    | [], _, e => cases e
    | _ :: _ :: _, _, e => cases e
  · intro h
    exact ⟨[x], h, rfl⟩
theorem ptsOf_next {l : List Pc} {i : Nat} {p : Pc} (h : l[i]? = some p) : ptsOf (l.take (i + 1)) = ptsOf (l.take i) ++ ptsOf [p] := by
  rw [take_next h]
  unfold ptsOf
  rw [List.filterMap_append]
theorem ptsOf_len (l : List Pc) : (ptsOf l).length ≤ l.length := List.length_filterMap_le _ _
theorem pt1 {p : Pc} (h : p.length = 1) : ∃ x, p = [x] := by
  match p, h with
  | [x], _ => exact ⟨x, rfl⟩
theorem ptsOf_no {p : Pc} (h : p.length ≠ 1) : ptsOf [p] = [] := by
  match p, h with
  | [], _ => rfl
  | [x], h => exact absurd rfl h
  | _ :: _ :: _, _ => rfl
section
variable {P : Program} {w : World} {K : PySem.W.Frag} {mg : Str → Option Value} {base : Heap} {C : Addr}
theorem scJoined : FnScope ["one", "other", "points", "piece"] ["one", "other"] (defScope sJoined) := ⟨rfl, rfl, rfl, by decide +kernel, rfl, by decide +kernel, by decide +kernel⟩
theorem ok_joined {f : Addr} {fd : FuncData} (F : FnP K "joined" sJoined f fd) (T : Txt mg) (TE : TxtE K mg C) (C1 : Cal P w K mg base CX0 4 "must_be_web" ["web"] spMust) (C2 : Cal P w K mg base CX0 2 "pieces_by" ["web"] spPiecesBy) (C3 : Cal P w K mg base (L2.CX P w) 4 "joined_by" ["one", "other"] (spJoinBy C)) :
    FnOk P w K mg base (L2.CX P w) 5 f fd ["one", "other"] (spJoin C) := by
  obtain ⟨f1, fd1, G1, g1, k1, b1⟩ := C1.ex
  obtain ⟨f2, fd2, G2, g2, k2, b2⟩ := C2.ex
  obtain ⟨f3, fd3, G3, g3, k3, b3⟩ := C3.ex
  refine F.ok scJoined (fun vs H Q E h => ?_) (fun cdv A outer s H vs Q E hr h => ?_)
  · obtain ⟨a, b, A, B, rfl, _⟩ := h
    rfl
  · obtain ⟨a, b, A, B, rfl, sa, sb, ga, gb, qe, q⟩ := h
    have hr2 := hr.mono (j := 2) (by decide)
    refine ⟨_, pss_cons (ps_expr (pe_call G1 hr (by rfl) g1 k1 b1 .nil pass0 (pa_cons (pv 0) pa_nil)))
      (pss_cons (ps_expr (pe_call G1 hr (by rfl) g1 k1 b1 .nil pass0 (pa_cons (pv 1) pa_nil)))
      (pss_cons (ps_set (i := 2) scJoined.nd rfl (.inr rfl)
        (pe_lc (own := [("piece", 3)]) (g := gName 3) rfl scJoined.nd (pi_list (pe_call G2 hr2 (by rfl) g2 k2 b2 .nil pass0 (pa_cons (pv 0) pa_nil))) (blkOk_by (own := [("piece", 3)]) (N := ["one", "other", "points", "piece"]) (sc := defScope sJoined) (by decide +kernel)) (fun _ _ _ _ _ => pg_name (i := 3) scJoined.nd rfl (Or.inl rfl))
          (fun _ _ _ _ _ => pts_one (pt_cmpR op_eq (pe_callB (r := rLn K) call_len_seq (by rfl) T.len PySem.boot_len (pa_cons (pv 3) pa_nil)) pe_int (nomark _))) (fun _ _ _ _ _ => pe_ix (r := rIxT K) ix_tup (pv 3) pe_int (fun _ _ => rfl))))
      (pss_cons (ps_if (pt_cmpR op_gt (pe_callB (r := rLn K) call_len_seq (by rfl) T.len PySem.boot_len (pa_cons
          (pe_lc (own := [("piece", 3)]) (g := gName 3) rfl scJoined.nd (pi_list (pe_call G2 hr2 (by rfl) g2 k2 b2 .nil pass0 (pa_cons (pv 1) pa_nil))) (blkOk_by (own := [("piece", 3)]) (N := ["one", "other", "points", "piece"]) (sc := defScope sJoined) (by decide +kernel)) (fun _ _ _ _ _ => pg_name (i := 3) scJoined.nd rfl (Or.inl rfl))
            (fun _ _ _ _ _ => pts_one (PW.pt (pw_and (pt_cmpR op_eq (pe_callB (r := rLn K) call_len_seq (by rfl) T.len PySem.boot_len (pa_cons (pv 3) pa_nil)) pe_int (nomark _)) (pw_and1 (pt_cmpR (r := rIn K false) op_in_seq (pe_ix (r := rIxT K) ix_tup (pv 3) pe_int (fun _ _ => rfl)) (pv 2) (by rfl)))))) (fun _ _ _ _ _ => pv 3)) pa_nil)) pe_int (nomark _))
        (pss_one (ps_raise rfl (takes_of rfl rfl rfl rfl) (pmk_own PySem.F.excBase_ValueError TE.xN TE.gN TE.kN (raises_own TE.bN TE.tN) rfl))) pss_nil)
      (pss_one (ps_ret (pe_call G3 hr (by rfl) g3 k3 b3 .nil (passes_call (takes_of rfl rfl rfl rfl) (fun _ _ _ _ h => h)) (pa_cons (pv 0) (pa_cons (pv 1) pa_nil)))))))), ?_⟩
    have hfA := ga.few
    have hfB := gb.few
    refine ⟨.ref a, rfl, a, A, rfl, sa, ga, fun H1 s1 => ⟨.ref b, rfl, b, B, rfl, sb.keep s1, gb, fun H2 s2 => ?_⟩⟩
    have s12 := s1.trans s2
    -- points = [piece[0] for piece in pieces_by(one) if len(piece) == 1]
    refine ⟨.ref a, rfl, a, A, rfl, sa.keep s12, good5 ga, by omega, fun H3 ra la s3 hra hla lla => ⟨ra, rfl, lla.sq, fun D hD => ?_⟩⟩
    have hl1 := ga.most la hla
    refine lc_lp lla (fun j H4 => Same H3 H4 ∧ H4 D = some (.lst ((ptsOf (la.take j)).map V.int))) ⟨same_upd hD, upd_same⟩ (fun j H4 h => h.1) (fun j u p H4 hj hu ⟨s4, d4⟩ => ?_) (fun H4 ⟨s4, d4⟩ => ?_)
    · have hjl := lt_of_at hj
      refine ⟨rfl, .ref u, rfl, u, _, rfl, .inr (tup_sq hu), rfl, _, rfl, ite2 (fun c => ?_) (fun c => ?_)⟩
      · have h1 : p.length = 1 := by
          have := V.int.inj (of_decide_eq_true c)
          rw [List.length_map] at this
          omega
        obtain ⟨x, rfl⟩ := pt1 h1
        have h2 := ptsOf_len (la.take j)
        rw [List.length_take] at h2
        refine ⟨.ref u, rfl, u, _, 0, .int x, rfl, rfl, tup_sq hu, atI_nat (j := 0) rfl, _, d4, small (by rw [List.length_map]; omega), same_wr s4 hD, upd_eq ?_⟩
        rw [ptsOf_next hj, List.map_append]
        rfl
      · have h1 : p.length ≠ 1 := fun z => c (decide_eq_true (by rw [List.length_map, z]; rfl))
        refine ⟨s4, ?_⟩
        rw [ptsOf_next hj, ptsOf_no h1, List.append_nil]
        exact d4
    · rw [List.take_length] at d4
      have s1234 := (s12.trans s3).trans s4
      -- if len([piece for piece in pieces_by(other) if len(piece) == 1 and piece[0] in points]) > 0
      refine ⟨.ref b, rfl, b, B, rfl, sb.keep s1234, good5 gb, by omega, fun H5 rb lb s5 hrb hlb llb => ⟨rb, rfl, llb.sq, fun D2 hD2 => ?_⟩⟩
      have hl2 := gb.most lb hlb
      refine lc_lp llb (fun j H6 => Same H5 H6 ∧ ∃ m : List Pc, LpAt H6 D2 m ∧ m.length ≤ j ∧ ∀ x, [x] ∈ lb.take j → x ∈ ptsOf la → m ≠ []) ⟨same_upd hD2, [], LpAt.nil upd_same, Nat.le_refl _, fun x hx => (by cases hx)⟩ (fun j H6 h => h.1) (fun j u p H6 hj hu ⟨s6, m, d6, hm, hno⟩ => ?_) (fun H6 ⟨s6, m, d6, hm, hno⟩ => ?_)
      · have hjl := lt_of_at hj
        have go : ∃ acc, H6 D2 = some (.lst acc) ∧ acc.length < sizeLine ∧ Same H5 (upd H6 D2 (.lst (acc ++ [.ref u]))) ∧ ∃ m : List Pc, LpAt (upd H6 D2 (.lst (acc ++ [.ref u]))) D2 m ∧ m.length ≤ j + 1 ∧ ∀ x, [x] ∈ lb.take (j + 1) → x ∈ ptsOf la → m ≠ [] := by
          obtain ⟨acc, a1, a2, a3⟩ := lp_push d6 hu
          exact ⟨acc, a1, small (by omega), same_wr s6 hD2, m ++ [p], a3, by rw [List.length_append]; exact Nat.succ_le_succ hm, fun _ _ _ => by simp⟩
        have stay : (∀ x, p = [x] → ¬ x ∈ ptsOf la) → Same H5 H6 ∧ ∃ m : List Pc, LpAt H6 D2 m ∧ m.length ≤ j + 1 ∧ ∀ x, [x] ∈ lb.take (j + 1) → x ∈ ptsOf la → m ≠ [] := fun h => by
          refine ⟨s6, m, d6, by omega, fun x hx hx' => ?_⟩
          rw [take_next hj] at hx
          rcases List.mem_append.mp hx with hx | hx
          · exact hno x hx hx'
          · exact absurd hx' (h x (List.mem_singleton.mp hx).symm)
        refine ⟨rfl, .ref u, rfl, u, _, rfl, .inr (tup_sq hu), rfl, _, rfl, ite2 (fun c => ?_) (fun c => ?_)⟩
        · have h1 : p.length = 1 := by
            have := V.int.inj (of_decide_eq_true c)
            rw [List.length_map] at this
            omega
          obtain ⟨x, rfl⟩ := pt1 h1
          refine ⟨.ref u, rfl, u, _, 0, .int x, rfl, rfl, tup_sq hu, atI_nat (j := 0) rfl, .ref D, rfl, D, _, rfl, .inl (.inl (.inl (s6 _ _ (s5 _ _ d4)))), rfl, flat_ints _, _, rfl, ?_⟩
          show if inV (.int x) ((ptsOf la).map V.int) = true then _ else _
          rw [inV_ints]
          refine ite2 (fun c2 => ?_) (fun c2 => ?_)
          · exact ⟨.ref u, rfl, go⟩
          · refine stay fun y hy => ?_
            have e : x = y := (List.cons.inj hy).1
            rw [← e]
            exact fun z => c2 (decide_eq_true z)
        · refine stay fun y hy => ?_
          exact absurd (decide_eq_true (by rw [List.length_map, hy]; rfl)) c
      · rw [List.take_length] at hno
        obtain ⟨x6, hx6, ex6⟩ := d6.seq (K := K)
        have s16 := (s1234.trans s5).trans s6
        refine ⟨D2, x6, rfl, .inl hx6, _, _, rfl, rfl, _, rfl, ite2 (fun c => ?_) (fun c => ?_)⟩
        · exact qe _ s16
        · have hm0 : m = [] := by
            have h2 : ¬ (0 : Int) < (x6.length : Int) := fun z => c (decide_eq_true z)
            exact List.eq_nil_of_length_eq_zero (by omega)
          have ap : Apart A B := Apart.of_points fun x hx hx' => hno x ((hlb.mem _).mpr hx') (ptsOf_one.mpr ((hla.mem _).mpr hx)) hm0
          exact ⟨.ref a, rfl, .ref b, rfl, a, b, A, B, rfl, sa.keep s16, sb.keep s16, ga, gb, ap, fun H7 s7 => qe _ (s16.trans s7), fun H7 r g s7 hr0 jr lg => q H7 r g (s16.trans s7) (s16.free hr0) jr lg⟩

/-! ### _law_joined -/
def spLJoined : Sp := fun vs H Q _ => ∃ (a b : Addr) (A B : List Pc), vs = [.ref a, .ref b] ∧ LpAt H a A ∧ LpAt H b B ∧ Good A ∧ Good B ∧ (∀ H', Same H H' → Q .non H') ∧ ∀ H' r g, Same H H' → JoinRes A B g → LpAt H' r g → Q (.ref r) H'
theorem scLJoined : FnScope ["one", "other", "told"] ["one", "other"] (defScope sLJoined) := ⟨rfl, rfl, rfl, by decide +kernel, rfl, by decide +kernel, by decide +kernel⟩
theorem ok_law_joined {f : Addr} {fd : FuncData} (F : FnP K "_law_joined" sLJoined f fd) (T : Txt mg) (TE : TxtE K mg C) (C1 : Cal P w K mg base (L2.CX P w) 5 "joined" ["one", "other"] (spJoin C)) :
    FnOk P w K mg base CX0 6 f fd ["one", "other"] spLJoined := by
  obtain ⟨f1, fd1, G1, g1, k1, b1⟩ := C1.ex
  refine F.ok scLJoined (fun vs H Q E h => ?_) (fun cdv A outer s H vs Q E hr h => ?_)
  · obtain ⟨a, b, A, B, rfl, _⟩ := h
    rfl
  · obtain ⟨a, b, A, B, rfl, sa, sb, ga, gb, qn, q⟩ := h
    refine ⟨_, PSs.nox (pss_cons (ps_set (i := 2) scLJoined.nd rfl (.inl rfl) pe_non)
      (pss_cons (ps_try_only (tb := fun W => tAsg (tCallS (spJoin C) (WE W) (tCons (tVar 0) (tCons (tVar 1) tNil))) (gName 2)) (ts := fun _ _ _ => tRet (tC .non)) (Wout := fun _ _ _ _ => False) rfl rfl ⟨rfl, by decide, .inl TE.gN⟩ takes0
        (fun W pn xe tk _ => pss_one (ps_set (i := 2) scLJoined.nd rfl (.inl rfl) (by exact (pe_callS G1 hr (by rfl) g1 k1 b1 (fun σ => passAt tk σ) (pa_cons (pv 0) (pa_cons (pv 1) pa_nil))))))
        (fun a oe cls d pn _ _ => pss_one (ps_ret pe_non)))
      (pss_one (ps_ret (pv 2))))), ?_⟩
    refine ⟨.ref a, rfl, .ref b, rfl, a, b, A, B, rfl, sa, sb, ga, gb, fun H1 s1 => ⟨true, TE.eN, fun _ _ _ => qn H1 s1, fun z => by cases z⟩, fun H1 r g s1 hr0 jr lg => ?_⟩
    exact ⟨.ref r, rfl, q H1 r g s1 jr lg⟩
end
end K7
set_option maxHeartbeats 3999999
/-! The law's own small defs: the cell, the box, the draw; _law_parts, _law_pieces. -/
namespace K7
open PySem PySem.Spec PyProof.Rows L2 K7R K74

/-! ### the box -/
def BoxOk (x m : Int) : Prop := m = 0 ∨ (m = 1 ∧ 0 ≤ x ∧ x < 2147483648)
def BoxAt (H : Hp) (b : Addr) : Prop := ∃ x m, H b = some (.lst [.int x, .int m]) ∧ BoxOk x m
/-- all but the box stays -/
def KeepB (b : Addr) (H H' : Hp) : Prop := ∀ c o, H c = some o → c ≠ b → H' c = some o
theorem KeepB.refl (b : Addr) (H : Hp) : KeepB b H H := fun _ _ h _ => h
theorem KeepB.trans {b : Addr} {H H1 H2 : Hp} (h : KeepB b H H1) (k : KeepB b H1 H2) : KeepB b H H2 := fun c o e n => k c o (h c o e n) n
theorem Same.kb {b : Addr} {H H' : Hp} (h : Same H H') : KeepB b H H' := fun c o e _ => h c o e
theorem kb_upd (b : Addr) (H : Hp) (o : HO) : KeepB b H (upd H b o) := fun c u e n => by rw [upd_ne n]; exact e
theorem kb_wr {b p : Addr} {H H' : Hp} {o : HO} (e : KeepB b H H') (h : H p = none) : KeepB b H (upd H' p o) := fun c u q n => by
  rw [upd_ne (ne_of_none q h)]
  exact e c u q n
section
variable {P : Program} {w : World} {K : PySem.W.Frag} {mg : Str → Option Value} {base : Heap}
/-! ### _law_cell_at -/
def spCell (K : PySem.W.Frag) : Sp := fun vs H Q _ => ∃ (a : Addr) (ns : List Int), vs = [.ref a, .int 0] ∧ SqL K H a (ns.map V.int) ∧ ∀ z, Q (.int z) H
theorem scCell : FnScope ["script", "k"] ["script", "k"] (defScope sCellAt) := ⟨rfl, rfl, rfl, by decide +kernel, rfl, by decide +kernel, by decide +kernel⟩
theorem ok_cell {f : Addr} {fd : FuncData} (F : FnP K "_law_cell_at" sCellAt f fd) (T : Txt mg) : FnOk P w K mg base CX0 1 f fd ["script", "k"] (spCell K) := by
  refine F.ok scCell (fun vs H Q E h => ?_) (fun cdv A outer s H vs Q E hr h => ?_)
  · obtain ⟨a, ns, rfl, _⟩ := h
    rfl
  · obtain ⟨a, ns, rfl, hS, q⟩ := h
    refine ⟨_, PSs.nox (pss_cons (ps_if (pt_cmpR op_lt (pv 1) (pe_callB (r := rLn K) call_len_seq (by rfl) T.len PySem.boot_len (pa_cons (pv 0) pa_nil)) (nomark _)) (pss_one (ps_ret (pe_ix ix_list (pv 0) (pv 1) (fun _ _ => rfl)))) pss_nil)
      (pss_one (ps_ret pe_int))), ?_⟩
    refine ⟨.int 0, rfl, .ref a, rfl, a, _, rfl, .inl hS, _, _, rfl, rfl, _, rfl, ite2 (fun c => ?_) (fun c => ?_)⟩
    · have h0 : 0 < ns.length := by
        have h1 := of_decide_eq_true c
        rw [List.length_map] at h1
        omega
      have g : (ns.map V.int)[0]? = some (.int ns[0]) := by
        rw [List.getElem?_map, List.getElem?_eq_getElem h0]
        rfl
      exact ⟨.ref a, rfl, .int 0, rfl, a, _, 0, _, rfl, rfl, hS, atI_nat (j := 0) g, q _⟩
    · exact q 0

/-! ### _law_box -/
def spBox : Sp := fun vs H Q _ => ∃ z : Int, vs = [.int z] ∧ ∀ H' b, Same H H' → H b = none → BoxAt H' b → Q (.ref b) H'
theorem scBox : FnScope ["cell"] ["cell"] (defScope sBox) := ⟨rfl, rfl, rfl, by decide +kernel, rfl, by decide +kernel, by decide +kernel⟩
theorem ten18 : (10 : Int) ^ (18 : Int).toNat = 1000000000000000000 := by decide
theorem box_new {z : Int} : 0 ≤ (z % 1000000000000000000 * 69621 + 7001) % 2147483629 ∧ (z % 1000000000000000000 * 69621 + 7001) % 2147483629 < 2147483648 := by omega
theorem ok_box {f : Addr} {fd : FuncData} (F : FnP K "_law_box" sBox f fd) (T : Txt mg) : FnOk P w K mg base CX0 1 f fd ["cell"] spBox := by
  refine F.ok scBox (fun vs H Q E h => ?_) (fun cdv A outer s H vs Q E hr h => ?_)
  · obtain ⟨z, rfl, _⟩ := h
    rfl
  · obtain ⟨z, rfl, q⟩ := h
    refine ⟨_, PSs.nox (pss_cons (ps_if (pt_cmpR op_ge (pv 0) (pe_op op_pow pe_int pe_int) (nomark _)) (pss_one (ps_ret (pe_lst (pa_cons (pe_op op_sub (pv 0) (pe_op op_pow pe_int pe_int)) (pa_cons pe_int pa_nil))))) pss_nil)
      (pss_one (ps_ret (pe_lst (pa_cons (pe_op op_mod (pe_op op_add (pe_op op_mul (pe_op op_mod (pv 0) (pe_op op_pow pe_int pe_int)) pe_int) pe_int) pe_int) (pa_cons pe_int pa_nil)))))), ?_⟩
    have hp : CPow 10 18 := ⟨by decide, by decide, by decide⟩
    refine ⟨.int z, rfl, _, _, rfl, rfl, hp, _, _, rfl, rfl, _, rfl, ite2 (fun c => ?_) (fun c => ?_)⟩
    · refine ⟨.int z, rfl, _, _, rfl, rfl, hp, _, _, rfl, rfl, smallE (by show 2 ≤ 10000000; decide), fun b hb => ?_⟩
      exact q _ b (same_upd hb) hb ⟨_, _, upd_same, .inl rfl⟩
    · refine ⟨.int z, rfl, _, _, rfl, rfl, hp, _, _, rfl, rfl, (by show (0 : Int) < (10 : Int) ^ (18 : Int).toNat; rw [ten18]; decide), _, _, rfl, rfl, ?_, _, _, rfl, rfl, _, _, rfl, rfl, (by show (0 : Int) < 2147483629; decide), smallE (by show 2 ≤ 10000000; decide), fun b hb => ?_⟩
      · rw [ten18]
        refine .inl ⟨?_, ?_⟩ <;> omega
      · refine q _ b (same_upd hb) hb ⟨_, _, upd_same, .inr ⟨rfl, ?_⟩⟩
        rw [ten18]
        exact box_new

/-! ### _law_take -/
def spTake : Sp := fun vs H Q _ => ∃ (b : Addr) (k : Int), vs = [.ref b, .int k] ∧ BoxAt H b ∧ 0 < k ∧ k < 1000000 ∧ ∀ x m r, BoxOk x m → 0 ≤ r → r < k → Q (.int r) (upd H b (.lst [.int x, .int m]))
theorem scTake : FnScope ["box", "most", "found", "mixed"] ["box", "most"] (defScope sTake) := ⟨rfl, rfl, rfl, by decide +kernel, rfl, by decide +kernel, by decide +kernel⟩
theorem sq_lt {x : Int} (h0 : 0 ≤ x) (h1 : x < 2147483648) : -(2 ^ 64) < x ∧ x < 2 ^ 64 := by omega
theorem ok_take {f : Addr} {fd : FuncData} (F : FnP K "_law_take" sTake f fd) (T : Txt mg) : FnOk P w K mg base CX0 1 f fd ["box", "most"] spTake := by
  refine F.ok scTake (fun vs H Q E h => ?_) (fun cdv A outer s H vs Q E hr h => ?_)
  · obtain ⟨b, k, rfl, _⟩ := h
    rfl
  · obtain ⟨b, k, rfl, ⟨x, m, hb, hok⟩, k0, k1, q⟩ := h
    refine ⟨_, PSs.nox (pss_cons (ps_if (pt_cmpR op_eq (pe_ix ix_list (pv 0) pe_int (fun _ _ => rfl)) pe_int (nomark _))
        (pss_cons (ps_set (i := 2) scTake.nd rfl (.inl rfl) (pe_op op_mod (pe_ix ix_list (pv 0) pe_int (fun _ _ => rfl)) (pv 1)))
        (pss_cons (ps_asg (pe_op op_fdiv (pe_ix ix_list (pv 0) pe_int (fun _ _ => rfl)) (pv 1)) (pg_sub (pv 0) pe_int set_list))
        (pss_one (ps_ret (pv 2))))) pss_nil)
      (pss_cons (ps_set (i := 3) scTake.nd rfl (.inl rfl) (pe_op op_mod (pe_op op_add (pe_op op_add (pe_op op_mul (pe_ix ix_list (pv 0) pe_int (fun _ _ => rfl)) (pe_ix ix_list (pv 0) pe_int (fun _ _ => rfl))) (pe_op op_mul pe_int (pe_ix ix_list (pv 0) pe_int (fun _ _ => rfl)))) pe_int) pe_int))
      (pss_cons (ps_asg (pe_op op_mod (pe_op op_add (pe_op op_add (pe_op op_mul (pv 3) (pv 3)) (pe_op op_mul pe_int (pv 3))) pe_int) pe_int) (pg_sub (pv 0) pe_int set_list))
      (pss_one (ps_ret (pe_op op_mod (pe_op op_fdiv (pe_ix ix_list (pv 0) pe_int (fun _ _ => rfl)) pe_int) (pv 1))))))), ?_⟩
    have e0 : ∀ x m : Int, atI [V.int x, V.int m] 0 = some (.int x) := fun x m => atI_nat (j := 0) rfl
    have e1 : ∀ x m : Int, atI [V.int x, V.int m] 1 = some (.int m) := fun x m => atI_nat (j := 1) rfl
    have hS : ∀ {H : Hp} {x m : Int}, H b = some (.lst [.int x, .int m]) → SqL K H b [.int x, .int m] := fun h => .inl (.inl h)
    have ix0 : ixN 2 0 = some 0 := by decide
    refine ⟨.ref b, rfl, b, _, 1, _, rfl, rfl, hS hb, e1 x m, rfl, _, rfl, ite2 (fun c => ?_) (fun c => ?_)⟩
    · have hm0 : m = 0 := V.int.inj (of_decide_eq_true c)
      subst hm0
      refine ⟨.ref b, rfl, b, _, 0, _, rfl, rfl, hS hb, e0 x 0, .int k, rfl, _, _, rfl, rfl, k0, ?_⟩
      refine ⟨.ref b, rfl, b, _, 0, _, rfl, rfl, hS hb, e0 x 0, .int k, rfl, _, _, rfl, rfl, ⟨k0, by omega⟩, ?_⟩
      refine ⟨.ref b, rfl, b, _, 0, 0, rfl, rfl, hb, ix0, ?_⟩
      exact ⟨_, rfl, q (x / k) 0 (x % k) (.inl rfl) (Int.emod_nonneg _ (by omega)) (Int.emod_lt_of_pos _ k0)⟩
    · have hm1 : m = 1 ∧ 0 ≤ x ∧ x < 2147483648 := by
        rcases hok with h | h
        · exact absurd (decide_eq_true (by rw [h])) c
        · exact h
      obtain ⟨rfl, h0, h1⟩ := hm1
      refine ⟨.ref b, rfl, b, _, 0, _, rfl, rfl, hS hb, e0 x 1, .ref b, rfl, b, _, 0, _, rfl, rfl, hS hb, e0 x 1, _, _, rfl, rfl, .inl (sq_lt h0 h1), .ref b, rfl, b, _, 0, _, rfl, rfl, hS hb, e0 x 1, _, _, rfl, rfl, .inl (by show (-(2 ^ 64) : Int) < 39373 ∧ (39373 : Int) < 2 ^ 64; decide), _, _, rfl, rfl, _, _, rfl, rfl, _, _, rfl, rfl, (by show (0 : Int) < 2147483647; decide), ?_⟩
      have y0 : 0 ≤ (x * x + 39373 * x + 12345) % 2147483647 := Int.emod_nonneg _ (by decide)
      have y1 : (x * x + 39373 * x + 12345) % 2147483647 < 2147483647 := Int.emod_lt_of_pos _ (by decide)
      refine ⟨_, rfl, _, rfl, _, _, rfl, rfl, .inl (sq_lt y0 (Int.lt_trans y1 (by decide))), _, rfl, _, _, rfl, rfl, .inl (by show (-(2 ^ 64) : Int) < 16807 ∧ (16807 : Int) < 2 ^ 64; decide), _, _, rfl, rfl, _, _, rfl, rfl, _, _, rfl, rfl, (by show (0 : Int) < 2147483587; decide), ?_⟩
      refine ⟨.ref b, rfl, b, _, 0, 0, rfl, rfl, hb, ix0, ?_⟩
      refine ⟨.ref b, rfl, b, _, 0, _, rfl, rfl, hS upd_same, e0 _ 1, _, _, rfl, rfl, ⟨by show (0 : Int) < 7; decide, by show (7 : Int) < 1073741824; decide⟩, .int k, rfl, _, _, rfl, rfl, k0, ?_⟩
      exact q _ 1 _ (.inr ⟨rfl, Int.emod_nonneg _ (by decide), Int.lt_trans (Int.emod_lt_of_pos _ (by decide)) (by decide)⟩) (Int.emod_nonneg _ (by omega)) (Int.emod_lt_of_pos _ k0)
end
end K7
set_option maxHeartbeats 3999999
/-! _law_parts, _law_pieces. -/
namespace K7
open PySem PySem.Spec PyProof.Rows L2 K7R K74
section
variable {P : Program} {w : World} {K : PySem.W.Frag} {mg : Str → Option Value} {base : Heap}
/-! ### _law_parts -/
theorem scLParts : FnScope ["piece", "found", "point", "part"] ["piece"] (defScope sLParts) := ⟨rfl, rfl, rfl, by decide +kernel, rfl, by decide +kernel, by decide +kernel⟩
theorem ok_law_parts {f : Addr} {fd : FuncData} (F : FnP K "_law_parts" sLParts f fd) (T : Txt mg) : FnOk P w K mg base CX0 1 f fd ["piece"] spPartsOf := by
  refine F.ok scLParts (fun vs H Q E h => ?_) (fun cdv A outer s H vs Q E hr h => ?_)
  · obtain ⟨t, p, rfl, _⟩ := h
    rfl
  · obtain ⟨t, p, rfl, ht, hp, q⟩ := h
    refine ⟨_, PSs.nox (pss_cons (ps_set (i := 1) scLParts.nd rfl (.inl rfl) (pe_lst (pa_cons (pe_tup pa_nil) pa_nil)))
      (pss_cons (ps_for PassesOwn.never rfl (pi_tup (pv 0)) (pg_name (i := 2) scLParts.nd rfl (Or.inr rfl))
        (pss_one (ps_set (i := 1) scLParts.nd rfl (.inl rfl) (pe_op op_cat (pv 1)
          (pe_lc (own := [("part", 3)]) (g := gName 3) (tt := tYes) rfl scLParts.nd (pi_list (pv 1)) (blkOk_by (own := [("part", 3)]) (N := ["piece", "found", "point", "part"]) (sc := defScope sLParts) (by decide +kernel)) (fun _ _ _ _ _ => pg_name (i := 3) scLParts.nd rfl (Or.inl rfl)) (fun _ _ _ _ _ => pts_nil)
            (fun _ _ _ _ _ => pe_op (r := rCatA K) op_catA (pv 3) (pe_tup (pa_cons (pv 2) pa_nil))))))))
      (pss_one (ps_ret (pe_lc (own := [("part", 3)]) (g := gName 3) rfl scLParts.nd (pi_list (pv 1)) (blkOk_by (own := [("part", 3)]) (N := ["piece", "found", "point", "part"]) (sc := defScope sLParts) (by decide +kernel)) (fun _ _ _ _ _ => pg_name (i := 3) scLParts.nd rfl (Or.inl rfl))
            (fun _ _ _ _ _ => pts_one (pt_cmpR (r := rNeD K) (op_neD hr.units) (pv 3) (pe_tup pa_nil) (nomark _))) (fun _ _ _ _ _ => pv 3)))))), ?_⟩
    -- found = [()]
    refine ⟨Nat.zero_le _, fun e he => ⟨by show 1 ≤ sizeLine; exact smallE (by decide), fun o ho => ?_⟩⟩
    have s1 : Same H (upd H e (.tup [])) := same_upd he
    have s2 : Same H (upd (upd H e (.tup [])) o (.lst [.ref e])) := s1.trans (same_upd ho)
    have ho0 : H o = none := s1.free ho
    -- for point in piece
    refine ⟨.ref t, rfl, t, rfl, ⟨_, tup_sq (s2 _ _ ht)⟩, for_tup (K := K) (a := t) (xs := p.map V.int) (fun i σ H' => ∃ o y2, σ = [some (.ref t), some (.ref o), y2, none] ∧ Same H H' ∧ LpAt H' o (parts0 (p.take i)))
      ⟨o, none, rfl, s2, [(e, [])], ?_, ?_, rfl⟩ (fun i σ H' _ ⟨_, _, _, sm, _⟩ => tup_sq (sm _ _ ht)) ?_ ?_⟩
    · rw [upd_same]
      rfl
    · intro k hk
      rw [List.mem_singleton.mp hk]
      show upd (upd H e (.tup [])) o _ e = some (.tup [])
      rw [upd_ne (show e ≠ o from fun z => by rw [← z, upd_same] at ho; cases ho), upd_same]
    · rintro i x σ H1 hi ⟨o, y2, rfl, sm, ol⟩
      obtain ⟨z, hz, rfl⟩ := ints_at hi
      have hfew := parts0_few i hp
      -- found = found + [part + (point,) for part in found]
      refine ⟨.ref o, rfl, .ref o, rfl, o, rfl, ol.sq, fun D hD => ?_⟩
      refine lc_lp ol (fun j H2 => Same H1 H2 ∧ LpAt H2 D (((parts0 (p.take i)).take j).map (· ++ [z])))
        ⟨same_upd hD, LpAt.nil upd_same⟩ (fun j H2 h => h.1) (fun j u q' H2 hj hu ⟨sm2, dl⟩ => ?_) (fun H2 ⟨sm2, dl⟩ => ?_)
      · have hjl := lt_of_at hj
        refine ⟨rfl, .ref u, rfl, .int z, rfl, by show 1 ≤ sizeLine; exact smallE (by decide), fun v hv => ?_⟩
        have sv : Same H2 (upd H2 v (.tup [.int z])) := same_upd hv
        have hq : q'.length ≤ 10 := Nat.le_trans (mem_parts0.mp (List.mem_of_getElem? hj)).length_le (by rw [List.length_take]; omega)
        refine cat_any (q := [z]) (sv _ _ hu) upd_same (by show q'.length + 1 ≤ 10000000; omega) fun H3 c s3 hc => ?_
        obtain ⟨acc, a1, a2, a3⟩ := lp_push (dl.keep (sv.trans s3)) hc
        refine ⟨acc, a1, small (by rw [a2, List.length_map, List.length_take]; omega), same_wr (sm2.trans (sv.trans s3)) hD, ?_⟩
        rw [take_next hj, List.map_append]
        exact a3
      · rw [List.take_length] at dl
        obtain ⟨ks, e1, e2, e3⟩ := ol.keep sm2
        obtain ⟨ms, m1, m2, m3⟩ := dl
        have kl : ks.length = (parts0 (p.take i)).length := by rw [← e3, List.length_map]
        have ml : ms.length = (parts0 (p.take i)).length := by rw [← List.length_map (f := (· ++ [z])), ← m3, List.length_map]
        refine ⟨o, D, _, _, rfl, rfl, e1, m1, smallE (by rw [refs_len, refs_len]; omega), fun c hc => ?_⟩
        have sc : Same H2 (upd H2 c (.lst (refs ks ++ refs ms))) := same_upd hc
        refine ⟨c, some (.int z), rfl, (sm.trans sm2).trans sc, ks ++ ms, ?_, fun k hk => ?_, ?_⟩
        · rw [upd_same, show refs (ks ++ ms) = refs ks ++ refs ms from List.map_append]
        · rcases List.mem_append.mp hk with hk | hk
          · exact sc _ _ (e2 k hk)
          · exact sc _ _ (m2 k hk)
        · rw [List.map_append, e3, m3, parts0_take hz]
    · rintro σ H1 ⟨o, y2, rfl, sm, ol⟩
      rw [List.length_map, List.take_length] at ol
      -- return [part for part in found if part != ()]
      refine ⟨.ref o, rfl, o, rfl, ol.sq, fun D hD => ?_⟩
      refine lc_lp ol (fun j H2 => Same H1 H2 ∧ LpAt H2 D (((parts0 p).take j).filter fun q => decide (q ≠ [])))
        ⟨same_upd hD, LpAt.nil upd_same⟩ (fun j H2 h => h.1) (fun j u q' H2 hj hu ⟨sm2, dl⟩ => ?_) (fun H2 ⟨sm2, dl⟩ => ?_)
      · have hjl := lt_of_at hj
        refine ⟨rfl, .ref u, rfl, Nat.zero_le _, fun v hv => ?_⟩
        have sv : Same H2 (upd H2 v (.tup [])) := same_upd hv
        refine ⟨pD q', pD [], dp_piece (tup_sq (sv _ _ hu)), dp_piece (.inl (.inl upd_same)), pD_shaped _, pD_shaped _, _, rfl, ?_⟩
        rw [pD_eqv]
        refine ite2 (fun c => ?_) (fun c => ?_)
        · have hne : q' ≠ [] := by simpa using c
          obtain ⟨acc, a1, a2, a3⟩ := lp_push (dl.keep sv) (sv _ _ hu)
          have hlen : acc.length ≤ 1024 := by
            rw [a2]
            have h1 := List.length_filter_le (fun q : Pc => decide (q ≠ [])) ((parts0 p).take j)
            have h2 := parts0_few p.length hp
            rw [List.take_length] at h2
            rw [List.length_take] at h1
            omega
          refine ⟨.ref u, rfl, acc, a1, small (by omega), same_wr (sm2.trans sv) hD, ?_⟩
          rw [take_next hj, List.filter_append, List.filter_cons_of_pos (by simpa using hne), List.filter_nil]
          exact a3
        · have he : q' = [] := by simpa using c
          refine ⟨sm2.trans sv, ?_⟩
          rw [take_next hj, List.filter_append, List.filter_cons_of_neg (by simp [he]), List.filter_nil, List.append_nil]
          exact dl.keep sv
      · rw [List.take_length] at dl
        exact q H2 D (sm.trans sm2) (sm.free hD) dl

/-! ### _law_pieces -/
theorem scLPieces : FnScope ["web", "found", "piece", "part", "ranked", "one"] ["web"] (defScope sLPieces) := ⟨rfl, rfl, rfl, by decide +kernel, rfl, by decide +kernel, by decide +kernel⟩
theorem ok_law_pieces {f : Addr} {fd : FuncData} (F : FnP K "_law_pieces" sLPieces f fd) (T : Txt mg) (C1 : Cal P w K mg base CX0 1 "_law_parts" ["piece"] spPartsOf) :
    FnOk P w K mg base CX0 2 f fd ["web"] spPiecesBy := by
  obtain ⟨f1, fd1, G1, g1, k1, b1⟩ := C1.ex
  refine F.ok scLPieces (fun vs H Q E h => ?_) (fun cdv A outer s H vs Q E hr h => ?_)
  · obtain ⟨a, W, rfl, _⟩ := h
    rfl
  · obtain ⟨a, W, rfl, src, h5, hW, q⟩ := h
    have hmost : most W ≤ 1280000 := Nat.le_trans (most_le h5) (by omega)
    refine ⟨_, PSs.nox (pss_cons (ps_set (i := 1) scLPieces.nd rfl (.inl rfl) pe_dnewT)
      (pss_cons (ps_for PassesOwn.never rfl (pi_list (pv 0)) (pg_name (i := 2) scLPieces.nd rfl (Or.inl rfl))
        (pss_one (ps_for PassesOwn.never rfl (pi_list (pe_call G1 hr (by rfl) g1 k1 b1 .nil pass0 (pa_cons (pv 2) pa_nil))) (pg_name (i := 3) scLPieces.nd rfl (Or.inl rfl))
          (pss_one (ps_dput (hu_of hr) (pv 1) (pv 3) pe_bl rfl)))))
      (pss_cons (ps_set (i := 4) scLPieces.nd rfl (.inl rfl) (pe_callB (cr_sortedIT hr.units) (by rfl) T.sorted (by decide +kernel) (pa_cons
        (pe_lc (own := [("piece", 2)]) (g := gName 2) (tt := tYes) rfl scLPieces.nd (pi_list (pe_callTy (call_list_dT rfl) (by rfl) T.list (by decide +kernel) (pa_cons (pv 1) pa_nil))) (blkOk_by (own := [("piece", 2)]) (N := ["web", "found", "piece", "part", "ranked", "one"]) (sc := defScope sLPieces) (by decide +kernel)) (fun _ _ _ _ _ => pg_name (i := 2) scLPieces.nd rfl (Or.inl rfl)) (fun _ _ _ _ _ => pts_nil)
          (fun _ _ _ _ _ => pe_tup (pa_cons (pe_callB (r := rLn K) call_len_seq (by rfl) T.len PySem.boot_len (pa_cons (pv 2) pa_nil)) (pa_cons (pv 2) pa_nil)))) pa_nil)))
      (pss_one (ps_ret (pe_lc (own := [("one", 5)]) (g := gName 5) (tt := tYes) rfl scLPieces.nd (pi_list (pv 4)) (blkOk_by (own := [("one", 5)]) (N := ["web", "found", "piece", "part", "ranked", "one"]) (sc := defScope sLPieces) (by decide +kernel)) (fun _ _ _ _ _ => pg_name (i := 5) scLPieces.nd rfl (Or.inl rfl)) (fun _ _ _ _ _ => pts_nil)
          (fun _ _ _ _ _ => pe_ix (r := rIxT K) ix_tup (pv 5) pe_int (fun _ _ => rfl)))))))), ?_⟩
    intro d hd
    refine ⟨.ref a, rfl, a, rfl, (src.keep (same_upd hd)).sq, for_lp src (fun i σ H1 => ∃ y2 y3 l, σ = [some (.ref a), some (.ref d), y2, y3, none, none] ∧ Same H H1 ∧ H1 d = some (.dT (kvs l)) ∧ l.Nodup ∧ ∀ q, q ∈ l ↔ In q (W.take i))
      ⟨none, none, [], rfl, same_upd hd, upd_same, List.nodup_nil, fun q => ?_⟩ (fun i σ H1 ⟨_, _, _, _, sm, _⟩ => sm) ?_ ?_⟩
    · constructor
      · intro z
        cases z
      · rintro ⟨_, p, hp, _⟩
        cases hp
    · rintro i t p σ H1 hi ht ⟨y2, y3, l, rfl, sm, dl, nd, hm⟩
      have hp5 := h5 p (List.mem_of_getElem? hi)
      refine ⟨.ref t, rfl, t, p, rfl, ht, by omega, fun H2 r s2 hr0 rl => ?_⟩
      refine ⟨r, rfl, rl.sq, for_lpD rl (fun j σ H3 => ∃ y3 l, σ = [some (.ref a), some (.ref d), some (.ref t), y3, none, none] ∧ Same H H3 ∧ KLT H2 H3 ∧ H3 d = some (.dT (kvs l)) ∧ l.Nodup ∧ ∀ q, q ∈ l ↔ In q (W.take i) ∨ q ∈ (parts p).take j)
        ⟨y3, l, rfl, sm.trans s2, klt_same (Same.refl _), s2 _ _ dl, nd, fun q => ?_⟩ ?_ ?_ ?_⟩
      · rw [hm]
        simp
      · rintro j σ H3 ⟨_, _, _, _, k3, _⟩
        exact k3
      · rintro j u q' σ H3 hj hu ⟨y3', l', rfl, s3, k3, dl', nd', hm'⟩
        have hlen : l'.length ≤ 1280000 := Nat.le_trans (in_few nd' fun q hq => ?_) hmost
        · refine ⟨.ref d, rfl, .ref u, rfl, d, _, rfl, dp_put dl' hu (by omega), ?_⟩
          refine ⟨_, addP l' q', rfl, same_wr s3 hd, klt_dict k3 (s2 _ _ dl), upd_same, nodup_addP nd', fun q => ?_⟩
          rw [mem_addP, hm', take_next hj, List.mem_append, List.mem_singleton, or_assoc]
        · rcases (hm' q).mp hq with h | h
          · exact in_of_take h
          · have h1 := mem_parts.mp (List.mem_of_mem_take h)
            exact ⟨h1.1, p, List.mem_of_getElem? hi, h1.2⟩
      · rintro σ H3 ⟨y3', l', rfl, s3, k3, dl', nd', hm'⟩
        refine ⟨_, _, l', rfl, s3, dl', nd', fun q => ?_⟩
        rw [hm', List.take_length, in_take hi]
    · rintro σ H1 ⟨y2, y3, l, rfl, sm, dl, nd, hm⟩
      rw [List.take_length] at hm
      have hlen : l.length ≤ 1280000 := Nat.le_trans (in_few nd fun q hq => (hm q).mp hq) hmost
      refine ⟨.ref d, rfl, d, _, rfl, .inl dl, fun r bs hr0 hk => ⟨r, rfl, (keys_lp hk hr0).sq, fun D hD => ?_⟩⟩
      have sr0 : Same H1 (upd H1 r (.lst (bs.map V.ref))) := same_upd hr0
      have hD1 : H1 D = none := sr0.free hD
      refine lc_lp (keys_lp hk hr0) (fun i H2 => Same (upd H1 r (.lst (bs.map V.ref))) H2 ∧ PrAt H2 D (l.take i)) ⟨same_upd hD, [], upd_same, fun x hx => (by cases hx), rfl⟩ (fun i H2 h => h.1) (fun i t p H2 hi ht ⟨sm2, pr⟩ => ?_) (fun H2 ⟨sm2, pr⟩ => ?_)
      · have hil := lt_of_at hi
        refine ⟨rfl, .ref t, rfl, t, _, rfl, .inr (tup_sq ht), .ref t, rfl, by show 2 ≤ sizeLine; exact smallE (by decide), fun u hu => ?_⟩
        have su : Same H2 (upd H2 u (.tup [.int ((p.map V.int).length : Int), .ref t])) := same_upd hu
        obtain ⟨acc, a1, a2, a3⟩ := pr_push (pr.keep su) upd_same (su _ _ ht)
        refine ⟨acc, a1, small (by rw [a2, List.length_take]; omega), same_wr (sm2.trans su) hD, ?_⟩
        rw [take_next hi]
        exact a3
      · rw [List.take_length] at pr
        obtain ⟨xs, d1, d2, d3⟩ := pr
        refine ⟨D, xs, rfl, .inl (.inl d1), d2, fun ys r2 hperm hr2 => ?_⟩
        have sr : Same H2 (upd H2 r2 (.lst ys)) := same_upd hr2
        have d2' : ∀ y ∈ ys, ∃ (t : Addr) (i : Int) (b : Addr) (ns : Pc), y = V.ref t ∧ H2 t = some (.tup [.int i, .ref b]) ∧ H2 b = some (.tup (ns.map V.int)) := fun y hy => d2 y (hperm.mem_iff.mp hy)
        have hps : (ys.map fun y => (keyH H2 y).2).Perm l := by
          rw [← d3]
          exact hperm.map _
        have hyl : ys.length = l.length := by
          have := hps.length_eq
          rw [List.length_map] at this
          exact this
        refine ⟨.ref r2, rfl, r2, rfl, ⟨_, .inl (.inl upd_same)⟩, fun D2 hD2 => ?_⟩
        refine lc_list (K := K) (a := r2) (xs := ys) (fun i H3 => Same (upd H2 r2 (.lst ys)) H3 ∧ LpAt H3 D2 ((ys.map fun y => (keyH H2 y).2).take i)) ⟨same_upd hD2, LpAt.nil upd_same⟩ (fun i H3 _ h => .inl (.inl (h.1 _ _ upd_same))) (fun i y H3 hi ⟨sm3, dl3⟩ => ?_) (fun H3 ⟨sm3, dl3⟩ => ?_)
        · have hil := lt_of_at hi
          obtain ⟨t, n, b, ns, rfl, e1, e2⟩ := d2' y (List.mem_of_getElem? hi)
          have f1 := sm3 _ _ (sr _ _ e1)
          have f2 := sm3 _ _ (sr _ _ e2)
          obtain ⟨acc, a1, a2, a3⟩ := lp_push dl3 f2
          refine ⟨rfl, .ref t, rfl, t, _, 1, .ref b, rfl, rfl, .inl (.inl f1), atI_nat (j := 1) rfl, acc, a1, small (by rw [a2, List.length_take, List.length_map]; omega), same_wr sm3 hD2, ?_⟩
          have hk2 : (ys.map fun y => (keyH H2 y).2)[i]? = some ns := by
            rw [List.getElem?_map, hi]
            show some (keyH H2 (.ref t)).2 = some ns
            rw [keyH_eq e1 e2]
          rw [take_next hk2]
          exact a3
        · rw [← List.length_map (f := fun y => (keyH H2 y).2), List.take_length] at dl3
          have sAll := sm.trans (sr0.trans sm2)
          refine q H3 D2 _ ((sAll.trans sr).trans sm3) (sAll.free (sr.free hD2)) ⟨hps.nodup_iff.mpr nd, fun x => ?_⟩ dl3
          rw [hps.mem_iff, hm]
end
end K7
set_option maxHeartbeats 3999999
/-! _law_known. -/
namespace K7
open PySem PySem.Spec PyProof.Rows L2 K7R K74
/-- a web as the law writes it: small points, few pieces -/
structure WOk (W : List Pc) : Prop where
  nd : W.Nodup
  few : W.length ≤ 17
  pc : ∀ p ∈ W, p ≠ [] ∧ Asc p ∧ p.length ≤ 5 ∧ ∀ x ∈ p, 0 ≤ x ∧ x ≤ 8
  most : most W ≤ 200
def wokB (W : List Pc) : Bool := decide W.Nodup && (decide (W.length ≤ 17) && (decide (∀ p ∈ W, p ≠ [] ∧ Asc p ∧ p.length ≤ 5 ∧ ∀ x ∈ p, 0 ≤ x ∧ x ≤ 8) && decide (most W ≤ 200)))
theorem wok_of {W : List Pc} (h : wokB W = true) : WOk W := by
  unfold wokB at h
  simp only [Bool.and_eq_true] at h
  obtain ⟨h1, h2, h3, h4⟩ := h
  exact ⟨of_decide_eq_true h1, of_decide_eq_true h2, of_decide_eq_true h3, of_decide_eq_true h4⟩
def words : List Str := (["", "0", "01 12 02", "012 013 023 123", "01 02 03", "012 023 034 014", "0123", "01 23 45", "012 34"] : List Str) ++ (["012 123 234 034 014", "01 12 23 03 13", "012 013 014", "0 1 2 3"] : List Str) ++ (["01 12 02 34 45 35", "023 234 1"] : List Str) ++ (["014 015 023 025 034 123 124 135 245 345", "012 013 024 034 125 135 245 345"] : List Str) ++ (["01234", "0123 0124 0134 0234 1234"] : List Str) ++ (["013 123 234 024 014 145 125 025 056 016 126 267 027 037 345 356 367"] : List Str)
def pcOf (u : Str) : Pc := u.cps.toList.map fun (c : Nat) => (c : Int) - 48
def pcsOf (ys : List Str) : List Pc := (ys.filter fun u => !decide (V.str u = V.str "")).map pcOf
def splitW (i : Nat) : List Str := Txt.split (words.getD i "") " "
theorem words_len : words.length = 20 := by decide +kernel
theorem known_ok : ((List.range 20).all fun i => wokB (pcsOf (splitW i))) = true := by decide +kernel
theorem known_signs : ((List.range 20).all fun i => (splitW i).all fun u => decide (u.length ≤ 5) && u.cps.toList.all fun c => decide (48 ≤ c) && decide (c ≤ 57)) = true := by decide +kernel
theorem known_few : ((List.range 20).all fun i => decide ((splitW i).length ≤ 17) && decide ((words.getD i "").length ≤ 1000)) = true := by decide +kernel
theorem digit_all : ((List.range 10).all fun c => decide (PySem.intText? ⟨#[c + 48]⟩ = some (c : Int))) = true := by decide +kernel
theorem digit {c : Nat} (h1 : 48 ≤ c) (h2 : c ≤ 57) : PySem.intText? ⟨#[c]⟩ = some ((c : Int) - 48) := by
  have h := List.all_eq_true.mp digit_all (c - 48) (List.mem_range.mpr (by omega))
  have h := of_decide_eq_true h
  rw [show c - 48 + 48 = c by omega] at h
  rw [h]
  congr 1
  omega
end K7
set_option maxHeartbeats 3999999
/-! _law_known. -/
namespace K7
open PySem PySem.Spec PyProof.Rows L2 K7R K74
/-- a comprehension over a text's signs -/
theorem lc_str {x : Str} {g : TG} {tt : TT} {te : TE} {vs : List Nat} {σ : L2.St} {H1 : Hp} {D : Addr} {Qd : Hp → Prop} (Pv : Nat → Hp → Prop) (h0 : Pv 0 (upd H1 D (.lst [])))
    (hs : ∀ i c H, x.cps.toList[i]? = some c → Pv i H → g (.str ⟨#[c]⟩) (wipe σ vs) H fun σ2 H2 => wipe σ2 vs = wipe σ vs ∧ tt σ2 H2 fun b H3 =>
      if b = true then te σ2 H3 fun y Hy => ∃ had, Hy D = some (.lst had) ∧ had.length < sizeLine ∧ Pv (i + 1) (upd Hy D (.lst (had ++ [y]))) else Pv (i + 1) H3) (hd : ∀ H, Pv x.cps.toList.length H → Qd H) :
    ∃ Run : Nat → Nat → Hp → Prop, (∃ m, Run 0 m (upd H1 D (.lst []))) ∧ ∀ i m H, Run i m H →
      ((Its x).stop i H ∧ Qd H) ∨ ((Its x).go i H ∧ ∃ Nxt : Hp → Prop, (∀ H', Nxt H' → ∃ m', m' < m ∧ Run (i + 1) m' H') ∧ ∀ y H', (Its x).yld i H y H' → g y (wipe σ vs) H' fun σ2 H2 => wipe σ2 vs = wipe σ vs ∧ tt σ2 H2 fun b H3 =>
        if b = true then te σ2 H3 fun y Hy => ∃ had, Hy D = some (.lst had) ∧ had.length < sizeLine ∧ Nxt (upd Hy D (.lst (had ++ [y]))) else Nxt H3) := by
  have hsz : x.cps.toList.length = x.cps.size := Array.length_toList
  refine ⟨fun i m H => m = x.cps.size - i ∧ i ≤ x.cps.size ∧ Pv i H, ⟨x.cps.size, by simp, Nat.zero_le _, h0⟩, ?_⟩
  rintro i m H ⟨rfl, hi, p⟩
  by_cases hlt : i < x.cps.size
  · refine .inr ⟨hlt, Pv (i + 1), fun H' p' => ⟨x.cps.size - (i + 1), by omega, rfl, hlt, p'⟩, fun y H' hy => ?_⟩
    obtain ⟨e, c, hc, rfl⟩ := hy
    subst e
    exact hs i c _ (by rw [Array.getElem?_toList]; exact hc) p
  · have e : i = x.cps.size := by omega
    subst e
    exact .inl ⟨Nat.le_refl _, hd H (by rw [hsz]; exact p)⟩
section
variable {P : Program} {w : World} {K : PySem.W.Frag} {mg : Str → Option Value} {base : Heap}
def spKnown : Sp := fun vs H Q _ => ∃ n : Int, vs = [.int n] ∧ 0 ≤ n ∧ n < 20 ∧ ∀ H' r W, Same H H' → H r = none → WOk W → LpAt H' r W → Q (.ref r) H'
theorem scKnown : FnScope ["number", "some", "web", "word", "sign"] ["number"] (defScope sKnown) := ⟨rfl, rfl, rfl, by decide +kernel, rfl, by decide +kernel, by decide +kernel⟩
theorem pcsOf_next {ys : List Str} {i : Nat} {u : Str} (h : ys[i]? = some u) : pcsOf (ys.take (i + 1)) = pcsOf (ys.take i) ++ pcsOf [u] := by
  rw [take_next h]
  unfold pcsOf
  rw [List.filter_append, List.map_append]
theorem pcsOf_len (ys : List Str) : (pcsOf ys).length ≤ ys.length := by
  unfold pcsOf
  rw [List.length_map]
  exact List.length_filter_le _ _
theorem known_list {K : PySem.W.Frag} {u : L2.TS} {D : Ends} {H : Hp} {n : Int} (h : ∀ H' p, Same H H' → H p = none → H' p = some (.lst (words.map V.str)) → u D [some (.int n), some (.ref p), none, none, none] H') :
    (tSeq (tAsg (tLst (tCons (tC (.str "")) (tCons (tC (.str "0")) (tCons (tC (.str "01 12 02")) (tCons (tC (.str "012 013 023 123")) (tCons (tC (.str "01 02 03")) (tCons (tC (.str "012 023 034 014")) (tCons (tC (.str "0123")) (tCons (tC (.str "01 23 45")) (tCons (tC (.str "012 34")) tNil)))))))))) (gName 1)) (tSeq (tAsg (tOp rCat (tVar 1) (tLst (tCons (tC (.str "012 123 234 034 014")) (tCons (tC (.str "01 12 23 03 13")) (tCons (tC (.str "012 013 014")) (tCons (tC (.str "0 1 2 3")) tNil)))))) (gName 1)) (tSeq (tAsg (tOp rCat (tVar 1) (tLst (tCons (tC (.str "01 12 02 34 45 35")) (tCons (tC (.str "023 234 1")) tNil)))) (gName 1)) (tSeq (tAsg (tOp rCat (tVar 1) (tLst (tCons (tC (.str "014 015 023 025 034 123 124 135 245 345")) (tCons (tC (.str "012 013 024 034 125 135 245 345")) tNil)))) (gName 1)) (tSeq (tAsg (tOp rCat (tVar 1) (tLst (tCons (tC (.str "01234")) (tCons (tC (.str "0123 0124 0134 0234 1234")) tNil)))) (gName 1)) (tSeq (tDrop (tBM K "list" rAppend (tVar 1) (tCons (tC (.str "013 123 234 024 014 145 125 025 056 016 126 267 027 037 345 356 367")) tNil))) u)))))) D [some (.int n), none, none, none, none] H := by
  have one : ∀ {n : Nat}, n ≤ 40 → n ≤ sizeLine := fun h => smallE (by omega)
  refine ⟨one (by show 9 ≤ 40; decide), fun o1 h1 => ?_⟩
  refine ⟨.ref o1, rfl, one (by show 4 ≤ 40; decide), fun o2 h2 => ⟨o1, o2, _, _, rfl, rfl, same_upd h2 _ _ upd_same, upd_same, one (by show 9 + 4 ≤ 40; decide), fun p2 hp2 => ?_⟩⟩
  refine ⟨.ref p2, rfl, one (by show 2 ≤ 40; decide), fun o3 h3 => ⟨p2, o3, _, _, rfl, rfl, same_upd h3 _ _ upd_same, upd_same, one (by show 13 + 2 ≤ 40; decide), fun p3 hp3 => ?_⟩⟩
  refine ⟨.ref p3, rfl, one (by show 2 ≤ 40; decide), fun o4 h4 => ⟨p3, o4, _, _, rfl, rfl, same_upd h4 _ _ upd_same, upd_same, one (by show 15 + 2 ≤ 40; decide), fun p4 hp4 => ?_⟩⟩
  refine ⟨.ref p4, rfl, one (by show 2 ≤ 40; decide), fun o5 h5 => ⟨p4, o5, _, _, rfl, rfl, same_upd h5 _ _ upd_same, upd_same, one (by show 17 + 2 ≤ 40; decide), fun p5 hp5 => ?_⟩⟩
  refine ⟨.ref p5, rfl, .inl ⟨rfl, _, .inl (.inl upd_same)⟩, p5, _, _, rfl, rfl, upd_same, small (by show 19 ≤ 10000000; decide), ?_⟩
  have hp0 : H p5 = none := ((((((((same_upd h1).trans (same_upd h2)).trans (same_upd hp2)).trans (same_upd h3)).trans (same_upd hp3)).trans (same_upd h4)).trans (same_upd hp4)).trans (same_upd h5)).free hp5
  refine h _ p5 (same_wr (same_wr ((((((((same_upd h1).trans (same_upd h2)).trans (same_upd hp2)).trans (same_upd h3)).trans (same_upd hp3)).trans (same_upd h4)).trans (same_upd hp4)).trans (same_upd h5)) hp0) hp0) hp0 ?_
  rw [upd_same]
  rfl
theorem ok_known {f : Addr} {fd : FuncData} (F : FnP K "_law_known" sKnown f fd) (T : Txt mg) : FnOk P w K mg base CX0 1 f fd ["number"] spKnown := by
  refine F.ok scKnown (fun vs H Q E h => ?_) (fun cdv A outer s H vs Q E hr h => ?_)
  · obtain ⟨n, rfl, _⟩ := h
    rfl
  · obtain ⟨n, rfl, n0, n1, q⟩ := h
    refine ⟨_, PSs.nox (pss_cons (ps_set (i := 1) scKnown.nd rfl (.inl rfl) (pe_lst (pa_cons pe_str (pa_cons pe_str (pa_cons pe_str (pa_cons pe_str (pa_cons pe_str (pa_cons pe_str (pa_cons pe_str (pa_cons pe_str (pa_cons pe_str pa_nil)))))))))))
      (pss_cons (ps_set (i := 1) scKnown.nd rfl (.inl rfl) (pe_op op_cat (pv 1) (pe_lst (pa_cons pe_str (pa_cons pe_str (pa_cons pe_str (pa_cons pe_str pa_nil)))))))
      (pss_cons (ps_set (i := 1) scKnown.nd rfl (.inl rfl) (pe_op op_cat (pv 1) (pe_lst (pa_cons pe_str (pa_cons pe_str pa_nil)))))
      (pss_cons (ps_set (i := 1) scKnown.nd rfl (.inl rfl) (pe_op op_cat (pv 1) (pe_lst (pa_cons pe_str (pa_cons pe_str pa_nil)))))
      (pss_cons (ps_set (i := 1) scKnown.nd rfl (.inl rfl) (pe_op op_cat (pv 1) (pe_lst (pa_cons pe_str (pa_cons pe_str pa_nil)))))
      (pss_cons (ps_expr (pe_bm PySem.F.plainAttrs_list PySem.F.slot_list_append PySem.F.type_list_append mt_append (pv 1) (pa_cons pe_str pa_nil)))
      (pss_cons (ps_set (i := 2) scKnown.nd rfl (.inl rfl) (pe_lst pa_nil))
      (pss_cons (ps_for PassesOwn.never rfl (pi_list (pe_split (pe_ix (r := rIxL K) ix_list (pv 1) (pe_op op_mod (pv 0) pe_int) (fun _ _ => rfl)) pe_str)) (pg_name (i := 3) scKnown.nd rfl (Or.inl rfl))
        (pss_one (ps_if (pt_cmpR op_ne (pv 3) pe_str (nomark _)) (pss_one (ps_expr (pe_bm PySem.F.plainAttrs_list PySem.F.slot_list_append PySem.F.type_list_append mt_append (pv 2) (pa_cons
          (pe_callTy (r := rTupOf K) call_tuple_of (by rfl) T.tuple (by decide +kernel) (pa_cons
            (pe_lc (own := [("sign", 4)]) (g := gName 4) (tt := tYes) rfl scKnown.nd (pi_str (pv 3)) (blkOk_by (own := [("sign", 4)]) (N := ["number", "some", "web", "word", "sign"]) (sc := defScope sKnown) (by decide +kernel)) (fun _ _ _ _ _ => pg_name (i := 4) scKnown.nd rfl (Or.inl rfl)) (fun _ _ _ _ _ => pts_nil)
              (fun _ _ _ _ _ => pe_callTy call_int_str (by rfl) T.int (by decide +kernel) (pa_cons (pv 4) pa_nil))) pa_nil)) pa_nil)))) pss_nil)))
      (pss_one (ps_ret (pv 2))))))))))), ?_⟩
    refine known_list fun H1 p s1 hp0 w1 => ?_
    refine ⟨Nat.zero_le _, fun o ho => ?_⟩
    have so : Same H1 (upd H1 o (.lst [])) := same_upd ho
    obtain ⟨i, rfl⟩ : ∃ i : Nat, n = (i : Int) := ⟨n.toNat, by omega⟩
    have hi : i < 20 := by omega
    have hir := List.mem_range.mpr hi
    have hw : words[i]? = some (words.getD i "") := by
      rw [List.getD_eq_getElem?_getD, List.getElem?_eq_getElem (by rw [words_len]; exact hi)]
      rfl
    have hfew := List.all_eq_true.mp known_few i hir
    rw [Bool.and_eq_true] at hfew
    have f17 := of_decide_eq_true hfew.1
    have f1000 := of_decide_eq_true hfew.2
    have hsig := List.all_eq_true.mp known_signs i hir
    have hwok := wok_of (List.all_eq_true.mp known_ok i hir)
    have gw : (words.map V.str)[i]? = some (.str (words.getD i "")) := by
      rw [List.getElem?_map, hw]
      rfl
    have f1002 : (words.getD i "").length + 2 ≤ sizeLine := smallE (by omega)
    -- for word in some[number % 20].split(" ")
    refine ⟨.ref p, rfl, .int (i : Int), rfl, _, _, rfl, rfl, (by show (0 : Int) < 20; decide), p, _, (i : Int) % 20, _, rfl, rfl, .inl (.inl (so _ _ w1)), at_of (j := i) (by omega) gw, ⟨_, rfl⟩, words.getD i "", " ", rfl, rfl, by decide, f1002, fun l hl => ?_⟩
    have nlo : l ≠ o := fun z => by
      rw [z, upd_same] at hl
      cases hl
    have sl : Same (upd H1 o (.lst [])) (upd (upd H1 o (.lst [])) l (.lst ((splitW i).map V.str))) := same_upd hl
    have hl1 : H1 l = none := so.free hl
    refine ⟨l, rfl, ⟨_, .inl (.inl upd_same)⟩, for_list (K := K) (a := l) (xs := (splitW i).map V.str) (fun j σ H2 => ∃ y3, σ = [some (.int (i : Int)), some (.ref p), some (.ref o), y3, none] ∧ Same H1 H2 ∧ H2 l = some (.lst ((splitW i).map V.str)) ∧ LpAt H2 o (pcsOf ((splitW i).take j)))
      ⟨none, rfl, so.trans sl, upd_same, LpAt.nil (sl _ _ upd_same)⟩ (fun j σ H2 _ ⟨_, _, _, h, _⟩ => .inl (.inl h)) ?_ ?_⟩
    · rintro j x σ H2 hj ⟨y3, rfl, s2, l2, o2⟩
      rw [List.getElem?_map] at hj
      obtain ⟨u, hu, rfl⟩ : ∃ u, (splitW i)[j]? = some u ∧ x = .str u := by
        cases e : (splitW i)[j]? with
        | none =>
          rw [e] at hj
          cases hj
        | some u =>
          rw [e] at hj
          exact ⟨u, rfl, (Option.some.inj hj).symm⟩
      have hjl := lt_of_at hu
      have hsu := List.all_eq_true.mp hsig u (List.mem_of_getElem? hu)
      rw [Bool.and_eq_true] at hsu
      have hu5 := of_decide_eq_true hsu.1
      obtain ⟨ks, e1, e2, e3⟩ := id o2
      refine ⟨.str u, rfl, rfl, _, rfl, ite2 (fun c => ?_) (fun c => ?_)⟩
      · refine ⟨.ref o, rfl, .inl ⟨rfl, _, .inl (.inl e1)⟩, .str u, rfl, u, rfl, fun D hD => ?_⟩
        refine lc_str (fun k H3 => Same H2 H3 ∧ H3 D = some (.lst (((u.cps.toList.take k).map fun (c : Nat) => (c : Int) - 48).map V.int))) ⟨same_upd hD, upd_same⟩ (fun k c H3 hk ⟨s3, d3⟩ => ?_) (fun H3 ⟨s3, d3⟩ => ?_)
        · have hkl := lt_of_at hk
          have hlen : u.cps.toList.length ≤ 5 := by rw [Array.length_toList]; exact hu5
          have hc := List.all_eq_true.mp hsu.2 c (List.mem_of_getElem? hk)
          rw [Bool.and_eq_true] at hc
          refine ⟨rfl, .str ⟨#[c]⟩, rfl, ⟨#[c]⟩, _, rfl, digit (of_decide_eq_true hc.1) (of_decide_eq_true hc.2), by show 1 ≤ 640; decide, _, d3, small (by rw [List.length_map, List.length_map, List.length_take]; omega), same_wr s3 hD, upd_eq ?_⟩
          rw [take_next hk, List.map_append, List.map_append]
          rfl
        · rw [List.take_length] at d3
          refine ⟨D, _, rfl, .inl ⟨.inl (.inl d3), fun t ht => ?_⟩⟩
          have st : Same H3 (upd H3 t (.tup ((u.cps.toList.map fun (c : Nat) => (c : Int) - 48).map V.int))) := same_upd ht
          obtain ⟨acc, a1, a2, a3⟩ := lp_push (q := pcOf u) (o2.keep (s3.trans st)) (show TupAt _ t (pcOf u) from upd_same)
          have h3 := pcsOf_len ((splitW i).take j)
          rw [List.length_take] at h3
          refine ⟨o, acc, .ref t, rfl, rfl, a1, small (by omega), some (.str u), rfl, same_wr ((s2.trans s3).trans st) ho, ?_, ?_⟩
          · rw [upd_ne nlo]
            exact st _ _ (s3 _ _ l2)
          · rw [pcsOf_next hu]
            have e : pcsOf [u] = [pcOf u] := by
              unfold pcsOf
              rw [List.filter_cons_of_pos (p := fun u => !decide (V.str u = V.str "")) c, List.filter_nil]
              rfl
            rw [e]
            exact a3
      · refine ⟨some (.str u), rfl, s2, l2, ?_⟩
        have e : pcsOf [u] = [] := by
          unfold pcsOf
          rw [List.filter_cons_of_neg (p := fun u => !decide (V.str u = V.str "")) c, List.filter_nil]
          rfl
        rw [pcsOf_next hu, e, List.append_nil]
        exact o2
    · rintro σ H2 ⟨y3, rfl, s2, l2, o2⟩
      rw [List.length_map, List.take_length] at o2
      exact ⟨.ref o, rfl, q H2 o _ (s1.trans s2) (s1.free ho) hwok o2⟩
end
end K7
set_option maxHeartbeats 3999999
/-! _law_named. -/
namespace K7
open PySem PySem.Spec PyProof.Rows L2 K7R K74
theorem lp_kb {b a : Addr} {H H' : Hp} {ps : List Pc} {xs : List V} (h : LpAt H a ps) (e : KeepB b H H') (hb : H b = some (.lst xs)) (n : a ≠ b) : LpAt H' a ps := by
  obtain ⟨ks, h1, h2, h3⟩ := h
  exact ⟨ks, e _ _ h1 n, fun k hk => e _ _ (h2 k hk) (ne_of (h2 k hk) hb (by intro z; cases z)), h3⟩
/-- one more piece, put in at a place -/
theorem lp_ins {H : Hp} {D a : Addr} {ps : List Pc} {q : Pc} (i : Nat) (h : LpAt H D ps) (ha : TupAt H a q) : ∃ acc, H D = some (.lst acc) ∧ acc.length = ps.length ∧ LpAt (upd H D (.lst (acc.take i ++ [.ref a] ++ acc.drop i))) D (ps.take i ++ [q] ++ ps.drop i) := by
  obtain ⟨ks, h1, h2, h3⟩ := h
  refine ⟨_, h1, by rw [refs_len, ← h3, List.length_map], ks.take i ++ [(a, q)] ++ ks.drop i, ?_, ?_, ?_⟩
  · rw [upd_same]
    unfold refs
    rw [List.map_append, List.map_append, List.map_take, List.map_drop]
    rfl
  · refine kn_off (xs := refs ks) (fun k hk => ?_) h1
    rcases List.mem_append.mp hk with hk | hk
    · rcases List.mem_append.mp hk with hk | hk
      · exact h2 k (List.mem_of_mem_take hk)
      · rw [List.mem_singleton.mp hk]
        exact ha
    · exact h2 k (List.mem_of_mem_drop hk)
  · rw [List.map_append, List.map_append, List.map_take, List.map_drop, h3]
    rfl
theorem ins_perm {α : Type} (l : List α) (i : Nat) (x : α) : (l.take i ++ [x] ++ l.drop i).Perm (x :: l) := by
  have h : (l.take i ++ [x] ++ l.drop i).Perm ([x] ++ l.take i ++ l.drop i) := List.Perm.append_right _ List.perm_append_comm
  rw [List.append_assoc [x], List.take_append_drop] at h
  exact h
/-- a for over a list of pieces while the box is drawn from -/
theorem for_lpB {K : PySem.W.Frag} {b a : Addr} {ps : List Pc} {H0 : Hp} {xs : List V} {g : TG} {tb : TS} {D : Ends} {σ : L2.St} {H1 : Hp} (src : LpAt H0 a ps) (hb : H0 b = some (.lst xs)) (n : a ≠ b) (Pv : Nat → L2.St → Hp → Prop) (h0 : Pv 0 σ H1) (keep : ∀ i σ H, Pv i σ H → KeepB b H0 H)
    (hs : ∀ i t q σ H, ps[i]? = some q → TupAt H t q → Pv i σ H → g (.ref t) σ H fun σ2 H2 => tb { D with nx := Pv (i + 1), ct := Pv (i + 1), bk := D.nx } σ2 H2) (hd : ∀ σ H, Pv ps.length σ H → D.nx σ H) :
    ∃ W : Nat → Nat → L2.St → Hp → Prop, (∃ m, W 0 m σ H1) ∧ ∀ i m σ H, W i m σ H →
      ((Itl K a).stop i H ∧ D.nx σ H) ∨ ((Itl K a).go i H ∧ ∃ N : L2.St → Hp → Prop, (∀ σ' H', N σ' H' → ∃ m', m' < m ∧ W (i + 1) m' σ' H') ∧ ∀ x H', (Itl K a).yld i H x H' → g x σ H' fun σ2 H2 => tb { D with nx := N, ct := N, bk := D.nx } σ2 H2) := by
  obtain ⟨ks, h1, h2, h3⟩ := src
  have hl : (refs ks).length = ps.length := by rw [refs_len, ← h3, List.length_map]
  refine for_list (K := K) (a := a) (xs := refs ks) Pv h0 (fun i σ H _ p => .inl (.inl (keep i σ H p _ _ h1 n))) (fun i x σ H hi p => ?_) (fun σ H p => hd σ H (hl ▸ p))
  obtain ⟨k, hk, rfl⟩ := refs_at hi
  have hk2 := h2 k (List.mem_of_getElem? hk)
  refine hs i k.1 k.2 σ H ?_ (keep i σ H p _ _ hk2 (ne_of hk2 hb (by intro z; cases z))) p
  rw [← h3, List.getElem?_map, hk]
  rfl

/-! ### shifted webs -/
def sh (f g : Int) (p : Pc) : Pc := p.map fun x => f + g * x
structure GoodS (W : List Pc) : Prop where
  good : Good W
  low : ∀ p ∈ W, ∀ x ∈ p, x ≤ 35
theorem sh_mono {f g x y : Int} (hg : 1 ≤ g) (h : x < y) : f + g * x < f + g * y := by
  have : g * x < g * y := Int.mul_lt_mul_of_pos_left h (by omega)
  omega
theorem sh_asc {f g : Int} (hg : 1 ≤ g) {p : Pc} (h : Asc p) : Asc (sh f g p) := List.pairwise_map.mpr (h.imp fun h => sh_mono hg h)
theorem sh_inj {f g : Int} (hg : 1 ≤ g) : ∀ {p q : Pc}, sh f g p = sh f g q → p = q
  | [], [], _ => rfl
  | [], _ :: _, h => by cases h
  | _ :: _, [], h => by cases h
  | x :: p, y :: q, h => by
    obtain ⟨h1, h2⟩ := List.cons.inj h
    have h1 : f + g * x = f + g * y := h1
    have ih := sh_inj hg (p := p) (q := q) h2
    have e : x = y := by
      rcases Int.lt_trichotomy x y with c | c | c
      · have := sh_mono (f := f) hg c
        omega
      · exact c
      · have := sh_mono (f := f) hg c
        omega
    rw [ih, e]
theorem sh_bd {f g x : Int} (f0 : 0 ≤ f) (f1 : f < 12) (g1 : 1 ≤ g) (g3 : g ≤ 3) (x0 : 0 ≤ x) (x8 : x ≤ 8) : 0 ≤ f + g * x ∧ f + g * x ≤ 35 := by
  have h1 : 0 ≤ g * x := Int.mul_nonneg (by omega) x0
  have h2 : g * x ≤ 3 * 8 := Int.mul_le_mul g3 x8 x0 (by decide)
  omega
theorem sh_good {f g : Int} (f0 : 0 ≤ f) (f1 : f < 12) (g1 : 1 ≤ g) (g3 : g ≤ 3) {W V : List Pc} (h : WOk W) (hp : V.Perm (W.map (sh f g))) : GoodS V := by
  have hV : ∀ p ∈ V, ∃ q ∈ W, p = sh f g q := fun p hpv => by
    obtain ⟨q, hq, e⟩ := List.mem_map.mp (hp.mem_iff.mp hpv)
    exact ⟨q, hq, e.symm⟩
  have bd : ∀ p ∈ V, ∀ x ∈ p, 0 ≤ x ∧ x ≤ 35 := fun p hpv x hx => by
    obtain ⟨q, hq, rfl⟩ := hV p hpv
    obtain ⟨y, hy, rfl⟩ := List.mem_map.mp hx
    obtain ⟨_, _, _, h4⟩ := h.pc q hq
    exact sh_bd f0 f1 g1 g3 (h4 y hy).1 (h4 y hy).2
  refine ⟨⟨?_, ?_, fun p hpv => ?_, fun l hl => ?_⟩, fun p hpv x hx => (bd p hpv x hx).2⟩
  · have := h.few
    rw [hp.length_eq, List.length_map]
    omega
  · refine hp.nodup_iff.mpr (List.pairwise_map.mpr (h.nd.imp fun ne e => ne (sh_inj g1 e)))
  · have hb := bd p hpv
    obtain ⟨q, hq, rfl⟩ := hV p hpv
    obtain ⟨h1, h2, h3, _⟩ := h.pc q hq
    refine ⟨fun e => h1 (List.map_eq_nil_iff.mp e), by unfold sh; rw [List.length_map]; exact h3, sh_asc g1 h2, fun x hx => ?_⟩
    have := hb x hx
    omega
  · refine Nat.le_trans hl.len_le ?_
    rw [most_perm hp]
    have e : most (W.map (sh f g)) = most W := by
      unfold most
      rw [List.map_map]
      congr 1
      refine List.map_congr_left fun p _ => ?_
      show 2 ^ (sh f g p).length = 2 ^ p.length
      unfold sh
      rw [List.length_map]
    rw [e]
    exact h.most
section
variable {P : Program} {w : World} {K : PySem.W.Frag} {mg : Str → Option Value} {base : Heap}
def spNamed : Sp := fun vs H Q _ => ∃ (b a : Addr) (W : List Pc), vs = [.ref b, .ref a] ∧ BoxAt H b ∧ LpAt H a W ∧ a ≠ b ∧ WOk W ∧ ∀ H' r V, KeepB b H H' → BoxAt H' b → H r = none → GoodS V → LpAt H' r V → Q (.ref r) H'
theorem scNamed : FnScope ["box", "web", "gap", "first", "found", "piece", "point"] ["box", "web"] (defScope sNamed) := ⟨rfl, rfl, rfl, by decide +kernel, rfl, by decide +kernel, by decide +kernel⟩
theorem ok_named {f : Addr} {fd : FuncData} (F : FnP K "_law_named" sNamed f fd) (T : Txt mg) (C1 : Cal P w K mg base CX0 1 "_law_take" ["box", "most"] spTake) : FnOk P w K mg base CX0 2 f fd ["box", "web"] spNamed := by
  obtain ⟨f1, fd1, G1, g1, k1, b1⟩ := C1.ex
  refine F.ok scNamed (fun vs H Q E h => ?_) (fun cdv A outer s H vs Q E hr h => ?_)
  · obtain ⟨b, a, W, rfl, _⟩ := h
    rfl
  · obtain ⟨b, a, W, rfl, bx, src, nab, wok, q⟩ := h
    refine ⟨_, PSs.nox (pss_cons (ps_set (i := 2) scNamed.nd rfl (.inr rfl) (pe_op op_add pe_int (pe_call G1 hr (by rfl) g1 k1 b1 .nil pass0 (pa_cons (pv 0) (pa_cons pe_int pa_nil)))))
      (pss_cons (ps_set (i := 3) scNamed.nd rfl (.inr rfl) (pe_call G1 hr (by rfl) g1 k1 b1 .nil pass0 (pa_cons (pv 0) (pa_cons pe_int pa_nil))))
      (pss_cons (ps_set (i := 4) scNamed.nd rfl (.inl rfl) (pe_lst pa_nil))
      (pss_cons (ps_for PassesOwn.never rfl (pi_list (pv 1)) (pg_name (i := 5) scNamed.nd rfl (Or.inl rfl))
        (pss_one (ps_expr (pe_bm PySem.F.plainAttrs_list PySem.F.slot_list_insert PySem.F.type_list_insert mt_insert (pv 4) (pa_cons
          (pe_call G1 hr (by rfl) g1 k1 b1 .nil pass0 (pa_cons (pv 0) (pa_cons (pe_op op_add (pe_callB (r := rLn K) call_len_seq (by rfl) T.len PySem.boot_len (pa_cons (pv 4) pa_nil)) pe_int) pa_nil)))
          (pa_cons (pe_callTy (r := rTupOf K) call_tuple_of (by rfl) T.tuple (by decide +kernel) (pa_cons
            (pe_lc (own := [("point", 6)]) (g := gName 6) (tt := tYes) rfl scNamed.nd (pi_tup (pv 5)) (blkOk_by (own := [("point", 6)]) (N := ["box", "web", "gap", "first", "found", "piece", "point"]) (sc := defScope sNamed) (by decide +kernel)) (fun _ _ _ _ _ => pg_name (i := 6) scNamed.nd rfl (Or.inl rfl)) (fun _ _ _ _ _ => pts_nil)
              (fun _ _ _ _ _ => pe_op op_add (pv 3) (pe_op op_mul (pv 2) (pv 6)))) pa_nil)) pa_nil))))))
      (pss_one (ps_ret (pv 4))))))), ?_⟩
    obtain ⟨x0, m0, hb0, _⟩ := id bx
    -- gap = 1 + take(box, 3); first = take(box, 12)
    refine ⟨.ref b, rfl, b, 3, rfl, bx, by decide, by decide, fun x1 m1 r1 ok1 r10 r13 => ⟨_, _, rfl, rfl, ?_⟩⟩
    refine ⟨.ref b, rfl, b, 12, rfl, ⟨x1, m1, upd_same, ok1⟩, by decide, by decide, fun x2 m2 r2 ok2 r20 r212 => ?_⟩
    -- found = []
    refine ⟨Nat.zero_le _, fun o ho => ?_⟩
    have hbo : upd (upd H b (.lst [.int x1, .int m1])) b (.lst [.int x2, .int m2]) b = some (.lst [.int x2, .int m2]) := upd_same
    have nob : o ≠ b := fun z => by
      rw [z, hbo] at ho
      cases ho
    have ho0 : H o = none := by
      rw [upd_ne nob, upd_ne nob] at ho
      exact ho
    have kb0 : KeepB b H (upd (upd (upd H b (.lst [.int x1, .int m1])) b (.lst [.int x2, .int m2])) o (.lst [])) := kb_wr ((kb_upd b H _).trans (kb_upd b _ _)) ho0
    refine ⟨.ref a, rfl, a, rfl, (lp_kb src kb0 hb0 nab).sq, for_lpB src hb0 nab (fun i σ H1 => ∃ y5 fs, σ = [some (.ref b), some (.ref a), some (.int (1 + r1)), some (.int r2), some (.ref o), y5, none] ∧ KeepB b H H1 ∧ BoxAt H1 b ∧ LpAt H1 o fs ∧ fs.Perm ((W.take i).map (sh r2 (1 + r1))))
      ⟨none, [], rfl, kb0, ⟨x2, m2, by rw [upd_ne nob.symm]; exact hbo, ok2⟩, LpAt.nil upd_same, List.Perm.refl _⟩ (fun i σ H1 ⟨_, _, _, h, _⟩ => h) ?_ ?_⟩
    · rintro i t p σ H1 hi ht ⟨y5, fs, rfl, kb, bx1, fl, hperm⟩
      have hil := lt_of_at hi
      have hw17 := wok.few
      have hfl : fs.length = i := by
        rw [hperm.length_eq, List.length_map, List.length_take]
        omega
      obtain ⟨xb, mb, hb1, okb⟩ := id bx1
      obtain ⟨xs, hxs, hxl⟩ := fl.seq (K := K)
      -- found.insert(take(box, len(found) + 1), tuple([first + gap * point for point in piece]))
      refine ⟨.ref o, rfl, .inl ⟨rfl, _, hxs⟩, .ref b, rfl, .ref o, rfl, o, xs, rfl, .inl hxs, _, _, rfl, rfl, b, _, rfl, bx1, by omega, by omega, fun x3 m3 r3 ok3 r30 r3k => ?_⟩
      have kb3 : KeepB b H1 (upd H1 b (.lst [.int x3, .int m3])) := kb_upd b H1 _
      have fl3 := lp_kb fl kb3 hb1 nob
      have ntb : t ≠ b := ne_of ht hb1 (by intro z; cases z)
      have ht3 := kb3 _ _ ht ntb
      refine ⟨.ref t, rfl, t, rfl, ⟨_, tup_sq ht3⟩, fun D hD => ?_⟩
      have nDb : D ≠ b := fun z => by
        rw [z, upd_same] at hD
        cases hD
      have hp5 := (wok.pc p (List.mem_of_getElem? hi)).2.2.1
      refine lc_tup (K := K) (a := t) (xs := p.map V.int) (fun j H2 => Same (upd H1 b (.lst [.int x3, .int m3])) H2 ∧ H2 D = some (.lst ((sh r2 (1 + r1) (p.take j)).map V.int))) ⟨same_upd hD, upd_same⟩ (fun j H2 _ h => tup_sq (h.1 _ _ ht3)) (fun j x H2 hj ⟨s2, d2⟩ => ?_) (fun H2 ⟨s2, d2⟩ => ?_)
      · obtain ⟨z, hz, rfl⟩ := ints_at hj
        have hjl := lt_of_at hz
        refine ⟨rfl, .int r2, rfl, .int (1 + r1), rfl, .int z, rfl, _, _, rfl, rfl, .inl (by omega), _, _, rfl, rfl, _, d2, small (by unfold sh; rw [List.length_map, List.length_map, List.length_take]; omega), same_wr s2 hD, upd_eq ?_⟩
        unfold sh
        rw [take_next hz, List.map_append, List.map_append]
        rfl
      · rw [List.length_map, List.take_length] at d2
        refine ⟨D, _, rfl, .inl ⟨.inl (.inl d2), fun c hc => ?_⟩⟩
        have sc : Same H2 (upd H2 c (.tup ((sh r2 (1 + r1) p).map V.int))) := same_upd hc
        obtain ⟨acc, a1, a2, a3⟩ := lp_ins (q := sh r2 (1 + r1) p) r3.toNat ((fl3.keep s2).keep sc) (show TupAt _ c _ from upd_same)
        have kbn : KeepB b H (upd H2 c (.tup ((sh r2 (1 + r1) p).map V.int))) := (kb.trans kb3).trans (Same.kb (s2.trans sc))
        refine ⟨o, acc, r3, .ref c, rfl, rfl, a1, small (by omega), r30, by omega, some (.ref t), _, rfl, kb_wr kbn ho0, ⟨x3, m3, ?_, ok3⟩, a3, ?_⟩
        · rw [upd_ne nob.symm]
          exact sc _ _ (s2 _ _ upd_same)
        · rw [take_next hi, List.map_append]
          exact (ins_perm fs r3.toNat _).trans ((List.Perm.cons _ hperm).trans (List.perm_append_comm (l₁ := [sh r2 (1 + r1) p])))
    · rintro σ H1 ⟨y5, fs, rfl, kb, bx1, fl, hperm⟩
      rw [List.take_length] at hperm
      exact ⟨.ref o, rfl, q H1 o fs kb bx1 ho0 (sh_good r20 r212 (by omega) (by omega) wok hperm) fl⟩
end
end K7
set_option maxHeartbeats 3999999
/-! _law_web. -/
namespace K7
open PySem PySem.Spec PyProof.Rows L2 K7R K74
/-! ### dicts of ints -/
def kvi (l : List Int) : List (Key × V) := l.map fun k => (Sum.inl k, V.bl true)
def addI (l : List Int) (p : Int) : List Int := if p ∈ l then l else l ++ [p]
theorem mem_addI {l : List Int} {p q : Int} : q ∈ addI l p ↔ q ∈ l ∨ q = p := by
  unfold addI
  by_cases h : p ∈ l
  · rw [if_pos h]
    constructor
    · exact .inl
    · rintro (z | z)
      · exact z
      · rw [z]; exact h
  · rw [if_neg h, List.mem_append, List.mem_singleton]
theorem nodup_addI {l : List Int} {p : Int} (h : l.Nodup) : (addI l p).Nodup := by
  unfold addI
  by_cases c : p ∈ l
  · rw [if_pos c]; exact h
  · rw [if_neg c]
    refine List.nodup_append.mpr ⟨h, List.nodup_cons.mpr ⟨by simp, List.nodup_nil⟩, fun a ha b hb e => ?_⟩
    rw [List.mem_singleton] at hb
    rw [e, hb] at ha
    exact c ha
theorem len_addI (l : List Int) (p : Int) : (addI l p).length ≤ l.length + 1 := by
  unfold addI
  split
  · omega
  · rw [List.length_append]
    exact Nat.le_refl _
theorem ne_addI (l : List Int) (p : Int) : addI l p ≠ [] := fun e => by
  have : p ∈ addI l p := mem_addI.mpr (.inr rfl)
  rw [e] at this
  cases this
theorem kvi_any (l : List Int) (p : Int) : ((kvi l).any fun kv => decide (kv.1 = Sum.inl p)) = decide (p ∈ l) := by
  unfold kvi
  rw [Bool.eq_iff_iff, List.any_eq_true, decide_eq_true_eq]
  constructor
  · rintro ⟨kv, hk, e⟩
    obtain ⟨q, hq, rfl⟩ := List.mem_map.mp hk
    have e' : q = p := Sum.inl.inj (of_decide_eq_true e)
    rw [← e']
    exact hq
  · intro h
    exact ⟨_, List.mem_map.mpr ⟨p, h, rfl⟩, decide_eq_true rfl⟩
theorem kvi_put (l : List Int) (p : Int) : putK (kvi l) (Sum.inl p) (.bl true) = kvi (addI l p) := by
  unfold putK addI
  rw [kvi_any]
  by_cases h : p ∈ l
  · rw [if_pos (decide_eq_true h), if_pos h]
    unfold kvi
    rw [List.map_map]
    refine List.map_congr_left fun q _ => ?_
    show (if (Sum.inl q : Key) = Sum.inl p then ((Sum.inl q : Key), V.bl true) else (Sum.inl q, V.bl true)) = (Sum.inl q, V.bl true)
    split <;> rfl
  · rw [if_neg (by rw [decide_eq_false h]; decide), if_neg h]
    unfold kvi
    rw [List.map_append]
    rfl
theorem kvi_len (l : List Int) : (kvi l).length = l.length := List.length_map _
theorem kvi_keys (l : List Int) : (kvi l).map (fun kv => kV kv.1) = l.map V.int := by
  unfold kvi
  rw [List.map_map]
  rfl
theorem lp_off {H : Hp} {a c : Addr} {ps : List Pc} {o : HO} (h : LpAt H a ps) (n : a ≠ c) (nt : ∀ xs, H c ≠ some (.tup xs)) : LpAt (upd H c o) a ps := by
  obtain ⟨ks, h1, h2, h3⟩ := h
  refine ⟨ks, by rw [upd_ne n]; exact h1, fun k hk => ?_, h3⟩
  have hk2 := h2 k hk
  show upd H c o k.1 = _
  rw [upd_ne (fun z => nt _ (by rw [← z]; exact hk2))]
  exact hk2
theorem box_off {H : Hp} {b c : Addr} {o : HO} (h : BoxAt H b) (n : b ≠ c) : BoxAt (upd H c o) b := by
  obtain ⟨x, m, h1, h2⟩ := h
  exact ⟨x, m, by rw [upd_ne n]; exact h1, h2⟩
theorem box_same {H H' : Hp} {b : Addr} (h : BoxAt H b) (e : Same H H') : BoxAt H' b := by
  obtain ⟨x, m, h1, h2⟩ := h
  exact ⟨x, m, e _ _ h1, h2⟩
theorem kb_free {b d : Addr} {H H' : Hp} (e : KeepB b H H') (hb : BoxAt H' b) (hd : H' d = none) : H d = none := by
  cases q : H d with
  | none => rfl
  | some o =>
    have n : d ≠ b := fun z => by
      obtain ⟨x, m, h1, _⟩ := hb
      rw [← z, hd] at h1
      cases h1
    have := e d o q n
    rw [hd] at this
    cases this
theorem box_ne {b d : Addr} {H : Hp} (hb : BoxAt H b) (hd : H d = none) : d ≠ b := fun z => by
  obtain ⟨x, m, h1, _⟩ := hb
  rw [← z, hd] at h1
  cases h1
/-- drawn so far -/
structure WPart (n : Nat) (fs : List Pc) : Prop where
  nd : fs.Nodup
  few : fs.length ≤ n
  pc : ∀ p ∈ fs, p ≠ [] ∧ Asc p ∧ p.length ≤ 4 ∧ ∀ x ∈ p, 0 ≤ x ∧ x ≤ 5
theorem most_le4 : ∀ {W : List Pc}, (∀ p ∈ W, p.length ≤ 4) → most W ≤ 16 * W.length
  | [], _ => Nat.le_refl _
  | p :: W, h => by
    have ih := most_le4 (W := W) fun q hq => h q (List.mem_cons_of_mem _ hq)
    have h1 : 2 ^ p.length ≤ 2 ^ 4 := Nat.pow_le_pow_right (by decide) (h p List.mem_cons_self)
    unfold most at ih ⊢
    rw [List.map_cons, List.sum_cons, List.length_cons]
    omega
theorem WPart.ok {n : Nat} {fs : List Pc} (h : WPart n fs) (hn : n ≤ 6) : WOk fs := by
  have hf := h.few
  refine ⟨h.nd, by omega, fun p hp => ?_, ?_⟩
  · obtain ⟨h1, h2, h3, h4⟩ := h.pc p hp
    exact ⟨h1, h2, by omega, fun x hx => ⟨(h4 x hx).1, by have := (h4 x hx).2; omega⟩⟩
  · have := most_le4 fun p hp => (h.pc p hp).2.2.1
    omega
theorem WPart.stay {n : Nat} {fs : List Pc} (h : WPart n fs) : WPart (n + 1) fs := ⟨h.nd, Nat.le_succ_of_le h.few, h.pc⟩
theorem WPart.more {n : Nat} {fs : List Pc} {p : Pc} (h : WPart n fs) (hn : p ∉ fs) (hp : p ≠ [] ∧ Asc p ∧ p.length ≤ 4 ∧ ∀ x ∈ p, 0 ≤ x ∧ x ≤ 5) : WPart (n + 1) (fs ++ [p]) := by
  have hf := h.few
  refine ⟨?_, by rw [List.length_append]; exact Nat.succ_le_succ hf, fun q hq => ?_⟩
  · refine List.nodup_append.mpr ⟨h.nd, List.nodup_cons.mpr ⟨by simp, List.nodup_nil⟩, fun a ha b hb e => ?_⟩
    rw [List.mem_singleton.mp hb] at e
    rw [e] at ha
    exact hn ha
  · rcases List.mem_append.mp hq with hq | hq
    · exact h.pc q hq
    · rw [List.mem_singleton.mp hq]
      exact hp
section
variable {P : Program} {w : World} {K : PySem.W.Frag} {mg : Str → Option Value} {base : Heap}
def spWeb : Sp := fun vs H Q _ => ∃ b : Addr, vs = [.ref b] ∧ BoxAt H b ∧ ∀ H' r V, KeepB b H H' → BoxAt H' b → H r = none → GoodS V → LpAt H' r V → Q (.ref r) H'
theorem scWeb : FnScope ["box", "found", "k", "some", "j", "piece"] ["box"] (defScope sWeb) := ⟨rfl, rfl, rfl, by decide +kernel, rfl, by decide +kernel, by decide +kernel⟩
theorem ok_web {f : Addr} {fd : FuncData} (F : FnP K "_law_web" sWeb f fd) (T : Txt mg) (C1 : Cal P w K mg base CX0 1 "_law_take" ["box", "most"] spTake) (C2 : Cal P w K mg base CX0 1 "_law_known" ["number"] spKnown) (C3 : Cal P w K mg base CX0 2 "_law_named" ["box", "web"] spNamed) :
    FnOk P w K mg base CX0 3 f fd ["box"] spWeb := by
  obtain ⟨f1, fd1, G1, g1, k1, b1⟩ := C1.ex
  obtain ⟨f2, fd2, G2, g2, k2, b2⟩ := C2.ex
  obtain ⟨f3, fd3, G3, g3, k3, b3⟩ := C3.ex
  refine F.ok scWeb (fun vs H Q E h => ?_) (fun cdv A outer s H vs Q E hr h => ?_)
  · obtain ⟨b, rfl, _⟩ := h
    rfl
  · obtain ⟨b, rfl, bx, q⟩ := h
    have hr1 := hr.mono (j := 1) (by decide)
    refine ⟨_, PSs.nox (pss_cons (ps_if (pt_cmpR op_eq (pe_call G1 hr1 (by rfl) g1 k1 b1 .nil pass0 (pa_cons (pv 0) (pa_cons pe_int pa_nil))) pe_int (nomark _))
        (pss_one (ps_ret (pe_call G3 hr (by rfl) g3 k3 b3 .nil pass0 (pa_cons (pv 0) (pa_cons (pe_call G2 hr1 (by rfl) g2 k2 b2 .nil pass0 (pa_cons (pe_call G1 hr1 (by rfl) g1 k1 b1 .nil pass0 (pa_cons (pv 0) (pa_cons pe_int pa_nil))) pa_nil)) pa_nil))))) pss_nil)
      (pss_cons (ps_set (i := 1) scWeb.nd rfl (.inl rfl) (pe_lst pa_nil))
      (pss_cons (ps_for PassesOwn.never rfl (pi_range1 (by rfl) T.range (pa_cons (pe_call G1 hr1 (by rfl) g1 k1 b1 .nil pass0 (pa_cons (pv 0) (pa_cons pe_int pa_nil))) pa_nil)) (pg_name (i := 2) scWeb.nd rfl (Or.inl rfl))
        (pss_cons (ps_set (i := 3) scWeb.nd rfl (.inl rfl) pe_dnewK)
        (pss_cons (ps_for PassesOwn.never rfl (pi_range1 (by rfl) T.range (pa_cons (pe_op op_add pe_int (pe_call G1 hr1 (by rfl) g1 k1 b1 .nil pass0 (pa_cons (pv 0) (pa_cons pe_int pa_nil)))) pa_nil)) (pg_name (i := 4) scWeb.nd rfl (Or.inl rfl))
          (pss_one (ps_dput (hu_of hr) (pv 3) (pe_call G1 hr1 (by rfl) g1 k1 b1 .nil pass0 (pa_cons (pv 0) (pa_cons pe_int pa_nil))) pe_bl rfl)))
        (pss_cons (ps_set (i := 5) scWeb.nd rfl (.inl rfl) (pe_callTy call_tuple_of (by rfl) T.tuple (by decide +kernel) (pa_cons (pe_callB cr_sorted (by rfl) T.sorted (by decide +kernel) (pa_cons (pe_callTy (call_list_dK rfl) (by rfl) T.list (by decide +kernel) (pa_cons (pv 3) pa_nil)) pa_nil)) pa_nil)))
        (pss_one (ps_if (pt_cmpR (op_notInD (hu65 hr)) (pv 5) (pv 1) (by rfl)) (pss_one (ps_expr (pe_bm PySem.F.plainAttrs_list PySem.F.slot_list_append PySem.F.type_list_append mt_append (pv 1) (pa_cons (pv 5) pa_nil)))) pss_nil))))))
      (pss_one (ps_ret (pe_call G3 hr (by rfl) g3 k3 b3 .nil pass0 (pa_cons (pv 0) (pa_cons (pv 1) pa_nil)))))))), ?_⟩
    refine ⟨.ref b, rfl, b, 2, rfl, bx, by decide, by decide, fun x1 m1 r1 ok1 r10 r12 => ⟨rfl, _, rfl, ite2 (fun c => ?_) (fun c => ?_)⟩⟩
    · -- a known one
      refine ⟨.ref b, rfl, .ref b, rfl, b, 20, rfl, ⟨x1, m1, upd_same, ok1⟩, by decide, by decide, fun x2 m2 r2 ok2 r20 r22 => ?_⟩
      have kb2 : KeepB b H (upd (upd H b (.lst [.int x1, .int m1])) b (.lst [.int x2, .int m2])) := (kb_upd b H _).trans (kb_upd b _ _)
      have bx2 : BoxAt (upd (upd H b (.lst [.int x1, .int m1])) b (.lst [.int x2, .int m2])) b := ⟨x2, m2, upd_same, ok2⟩
      refine ⟨r2, rfl, r20, r22, fun H3 r W s3 hr0 wok lw => ?_⟩
      have bx3 := box_same bx2 s3
      refine ⟨b, r, W, rfl, bx3, lw, box_ne bx2 hr0, wok, fun H4 r4 V4 kb4 bx4 hr4 gs l4 => ?_⟩
      exact q H4 r4 V4 ((kb2.trans (Same.kb s3)).trans kb4) bx4 (kb_free (kb2.trans (Same.kb s3)) bx3 hr4) gs l4
    · -- found = []
      refine ⟨Nat.zero_le _, fun o ho => ?_⟩
      have bx1 : BoxAt (upd H b (.lst [.int x1, .int m1])) b := ⟨x1, m1, upd_same, ok1⟩
      have nob := box_ne bx1 ho
      have kb1 : KeepB b H (upd H b (.lst [.int x1, .int m1])) := kb_upd b H _
      have ho0 := kb_free kb1 bx1 ho
      have bxo : BoxAt (upd (upd H b (.lst [.int x1, .int m1])) o (.lst [])) b := box_off bx1 nob.symm
      refine ⟨.ref b, rfl, b, 6, rfl, bxo, by decide, by decide, fun x2 m2 r2 ok2 r20 r26 => ⟨r2, rfl, by omega, by omega, ?_⟩⟩
      refine for_range (lo := 0) (n := r2.toNat) (fun i σ H1 => ∃ y2 y3 y4 y5 fs, σ = [some (.ref b), some (.ref o), y2, y3, y4, y5] ∧ KeepB b H H1 ∧ BoxAt H1 b ∧ LpAt H1 o fs ∧ WPart i fs)
        ⟨none, none, none, none, [], rfl, (kb_wr kb1 ho0).trans (kb_upd b _ _), ⟨x2, m2, upd_same, ok2⟩, LpAt.nil (by rw [upd_ne nob, upd_same]), ⟨List.nodup_nil, Nat.zero_le _, fun p hp => by cases hp⟩⟩ ?_ ?_
      · rintro i σ H1 hi ⟨y2, y3, y4, y5, fs, rfl, kbi, bxi, fl, wp⟩
        have hwf := wp.few
        -- some = {}
        intro d hd
        have ndb := box_ne bxi hd
        have hd0 := kb_free kbi bxi hd
        obtain ⟨kf, ef, _, _⟩ := id fl
        have nod : o ≠ d := ne_of_none ef hd
        refine ⟨.ref b, rfl, b, 4, rfl, box_off bxi ndb.symm, by decide, by decide, fun x3 m3 r3 ok3 r30 r34 => ⟨1, r3, rfl, rfl, 1 + r3, rfl, by omega, by omega, ?_⟩⟩
        have fl1 : LpAt (upd H1 d (.dK [])) o fs := fl.keep (same_upd hd)
        obtain ⟨xb, mb, hb1, _⟩ := id bxi
        have hbd : upd H1 d (.dK []) b = some (.lst [.int xb, .int mb]) := by rw [upd_ne ndb.symm]; exact hb1
        refine for_range (lo := 0) (n := (1 + r3).toNat) (fun j σ H2 => ∃ y4 l, σ = [some (.ref b), some (.ref o), some (.int (0 + i)), some (.ref d), y4, y5] ∧ KeepB b H H2 ∧ BoxAt H2 b ∧ LpAt H2 o fs ∧ H2 d = some (.dK (kvi l)) ∧ l.Nodup ∧ l.length ≤ j ∧ (0 < j → l ≠ []) ∧ ∀ x ∈ l, 0 ≤ x ∧ x ≤ 5)
          ⟨y4, [], rfl, (kb_wr kbi hd0).trans (kb_upd b _ _), ⟨x3, m3, upd_same, ok3⟩, lp_off fl1 nob (fun xs e => by rw [hbd] at e; cases e), by rw [upd_ne ndb, upd_same]; rfl, List.nodup_nil, Nat.le_refl _, fun z => absurd z (Nat.lt_irrefl _), fun x hx => by cases hx⟩ ?_ ?_
        · rintro j σ H2 hj ⟨y4', l, rfl, kbj, bxj, flj, dl, nd, hl, hne, hx⟩
          obtain ⟨xj, mj, hbj, _⟩ := id bxj
          refine ⟨.ref d, rfl, .ref b, rfl, b, 6, rfl, bxj, by decide, by decide, fun x4 m4 r4 ok4 r40 r46 => ?_⟩
          have dl4 : upd H2 b (.lst [.int x4, .int m4]) d = some (.dK (kvi l)) := by rw [upd_ne ndb]; exact dl
          refine ⟨d, _, rfl, DPut.k (k := Sum.inl r4) dl4 (by rw [kvi_len]; exact small (by omega)), ?_⟩
          rw [kvi_put]
          have flb : LpAt (upd H2 b (.lst [.int x4, .int m4])) o fs := lp_off flj nob (fun xs e => by rw [hbj] at e; cases e)
          refine ⟨_, addI l r4, rfl, kb_wr (kbj.trans (kb_upd b _ _)) hd0, box_off ⟨x4, m4, upd_same, ok4⟩ ndb.symm, lp_off flb nod (fun xs e => by rw [dl4] at e; cases e), upd_same, nodup_addI nd, Nat.le_trans (len_addI l r4) (Nat.succ_le_succ hl), fun _ => ne_addI l r4, fun x hx' => ?_⟩
          rcases mem_addI.mp hx' with h | h
          · exact hx x h
          · rw [h]
            omega
        · rintro σ H2 ⟨y4', l, rfl, kbj, bxj, flj, dl, nd, hl, hne, hx⟩
          -- piece = tuple(sorted(list(some)))
          refine ⟨.ref d, rfl, d, _, rfl, dl, fun e he => ?_⟩
          rw [kvi_keys]
          refine ⟨e, l, rfl, .inl (.inl upd_same), by omega, fun ns c hperm hsort hc => ?_⟩
          refine ⟨c, _, rfl, .inl ⟨.inl (.inl upd_same), fun t ht => ?_⟩⟩
          have s3 : Same H2 (upd (upd (upd H2 e (.lst (l.map V.int))) c (.lst (ns.map V.int))) t (.tup (ns.map V.int))) := ((same_upd he).trans (same_upd hc)).trans (same_upd ht)
          have htt : upd (upd (upd H2 e (.lst (l.map V.int))) c (.lst (ns.map V.int))) t (.tup (ns.map V.int)) t = some (.tup (ns.map V.int)) := upd_same
          generalize upd (upd (upd H2 e (.lst (l.map V.int))) c (.lst (ns.map V.int))) t (.tup (ns.map V.int)) = H3 at s3 htt ⊢
          have fl3 := flj.keep s3
          have bx3 := box_same bxj s3
          have kb3 := kbj.trans (Same.kb s3)
          -- if piece not in found
          refine ⟨.ref t, rfl, .ref o, rfl, pD ns, fs.map pD, dp_piece (tup_sq htt), dp_list fl3, pD_shaped _, pDs_shaped _, _, rfl, ?_⟩
          rw [any_pD]
          refine ite2 (fun c2 => ?_) (fun c2 => ?_)
          · have hnf : ns ∉ fs := by simpa using c2
            obtain ⟨acc, a1, a2, a3⟩ := lp_push fl3 htt
            refine ⟨.ref o, rfl, .inl ⟨rfl, _, .inl (.inl a1)⟩, .ref t, rfl, o, acc, .ref t, rfl, rfl, a1, small (by omega), ?_⟩
            refine ⟨_, _, _, _, fs ++ [ns], rfl, kb_wr kb3 ho0, box_off bx3 nob.symm, a3, wp.more hnf ⟨fun z => ?_, asc_of hsort (hperm.nodup_iff.mpr nd), ?_, fun x hx' => hx x (hperm.mem_iff.mp hx')⟩⟩
            · rw [z] at hperm
              exact hne (by omega) hperm.symm.eq_nil
            · have h1 : ns.length = l.length := hperm.length_eq
              show ns.length ≤ 4
              omega
          · exact ⟨_, _, _, _, fs, rfl, kb3, bx3, fl3, wp.stay⟩
      · rintro σ H1 ⟨y2, y3, y4, y5, fs, rfl, kbi, bxi, fl, wp⟩
        refine ⟨.ref b, rfl, .ref o, rfl, b, o, fs, rfl, bxi, fl, nob, wp.ok (by omega), fun H4 r4 V4 kb4 bx4 hr4 gs l4 => ?_⟩
        exact q H4 r4 V4 (kbi.trans kb4) bx4 (kb_free kbi bxi hr4) gs l4
end
end K7
set_option maxHeartbeats 3999999
/-! _law_two_webs. -/
namespace K7
open PySem PySem.Spec PyProof.Rows L2 K7R K74
theorem iteNS' {c A B : Prop} [Decidable c] (hc : ¬ c) (h : A) : if (!decide c) = true then A else B := by
  rw [decide_eq_false hc]
  exact iteT h
/-- moved by fifty -/
def m50 (p : Pc) : Pc := p.map fun x => 50 + x
theorem m50_inj {p q : Pc} (h : m50 p = m50 q) : p = q := by
  refine sh_inj (f := 50) (g := 1) (by decide) ?_
  have e : ∀ p : Pc, sh 50 1 p = m50 p := fun p => by
    unfold sh m50
    refine List.map_congr_left fun x _ => ?_
    omega
  rw [e, e, h]
theorem m50_good {V : List Pc} (h : GoodS V) : Good (V.map m50) := by
  have hl : ∀ p : Pc, (m50 p).length = p.length := fun p => List.length_map _
  refine ⟨?_, List.pairwise_map.mpr (h.good.nd.imp fun ne e => ne (m50_inj e)), fun p hp => ?_, fun l hl' => ?_⟩
  · rw [List.length_map]
    exact h.good.few
  · obtain ⟨q, hq, rfl⟩ := List.mem_map.mp hp
    have pk := h.good.pk q hq
    refine ⟨fun e => pk.ne (List.map_eq_nil_iff.mp e), by rw [hl]; exact pk.le, List.pairwise_map.mpr (pk.up.imp fun h => by omega), fun x hx => ?_⟩
    obtain ⟨y, hy, rfl⟩ := List.mem_map.mp hx
    have h1 := pk.bd y hy
    have h2 := h.low q hq y hy
    omega
  · -- as many pieces as ahead
    have back : ∀ q, In q (V.map m50) → ∃ r, In r V ∧ q = m50 r := fun q ⟨hq, p, hp, hs⟩ => by
      obtain ⟨p', hp', rfl⟩ := List.mem_map.mp hp
      obtain ⟨r, hr, e⟩ := List.sublist_map_iff.mp hs
      exact ⟨r, ⟨fun z => hq (by rw [e, z]; rfl), p', hp', hr⟩, e⟩
    have un : ∀ q : Pc, (q.map fun x => 50 + x).map (fun x => x - 50) = q := fun q => by
      rw [List.map_map]
      have : ((fun x : Int => x - 50) ∘ fun x => 50 + x) = id := funext fun x => by
        show 50 + x - 50 = x
        omega
      rw [this, List.map_id]
    obtain ⟨l2, h2⟩ := pcs_ex V
    refine Nat.le_trans ?_ (h.good.most l2 h2)
    rw [← List.length_map (as := l) (f := fun q : Pc => q.map fun x => x - 50)]
    refine nodup_len ?_ fun x hx => ?_
    · refine List.pairwise_map.mpr (List.Pairwise.imp_of_mem (fun {a b} ha hb ne e => ne ?_) hl'.nd)
      obtain ⟨ra, _, ea⟩ := back a ((hl'.mem a).mp ha)
      obtain ⟨rb, _, eb⟩ := back b ((hl'.mem b).mp hb)
      rw [ea, eb] at e ⊢
      unfold m50 at e ⊢
      rw [un, un] at e
      rw [e]
    · obtain ⟨a, ha, rfl⟩ := List.mem_map.mp hx
      obtain ⟨ra, h1, ea⟩ := back a ((hl'.mem a).mp ha)
      rw [ea]
      unfold m50
      rw [un]
      exact (h2.mem ra).mpr h1
/-- the outer comprehension's names -/
abbrev scOuter : Scope := { kind := ScopeKind.function, names := [(".0", NameKind.local), ("piece", NameKind.local), ("tuple", NameKind.globalImplicit)], isGenerator := false, isCoroutine := false }
section
variable {P : Program} {w : World} {K : PySem.W.Frag} {mg : Str → Option Value} {base : Heap}
def spTwo : Sp := fun vs H Q _ => ∃ b : Addr, vs = [.ref b] ∧ BoxAt H b ∧ ∀ H' r ra rb A B, KeepB b H H' → H' r = some (.tup [.ref ra, .ref rb]) → LpAt H' ra A → LpAt H' rb B → Good A → Good B → Q (.ref r) H'
theorem scTwo : FnScope ["box", "one", "other", "piece", "found", "point"] ["box"] (defScope sTwo) := ⟨rfl, rfl, rfl, by decide +kernel, rfl, by decide +kernel, by decide +kernel⟩
theorem ok_two {f : Addr} {fd : FuncData} (F : FnP K "_law_two_webs" sTwo f fd) (T : Txt mg) (C1 : Cal P w K mg base CX0 1 "_law_take" ["box", "most"] spTake) (C2 : Cal P w K mg base CX0 3 "_law_web" ["box"] spWeb) :
    FnOk P w K mg base CX0 4 f fd ["box"] spTwo := by
  obtain ⟨f1, fd1, G1, g1, k1, b1⟩ := C1.ex
  obtain ⟨f2, fd2, G2, g2, k2, b2⟩ := C2.ex
  refine F.ok scTwo (fun vs H Q E h => ?_) (fun cdv A outer s H vs Q E hr h => ?_)
  · obtain ⟨b, rfl, _⟩ := h
    rfl
  · obtain ⟨b, rfl, bx, q⟩ := h
    have hr1 := hr.mono (j := 1) (by decide)
    refine ⟨_, PSs.nox (pss_cons (ps_set (i := 1) scTwo.nd rfl (.inl rfl) (pe_call G2 hr (by rfl) g2 k2 b2 .nil pass0 (pa_cons (pv 0) pa_nil)))
      (pss_cons (ps_set (i := 2) scTwo.nd rfl (.inl rfl) (pe_call G2 hr (by rfl) g2 k2 b2 .nil pass0 (pa_cons (pv 0) pa_nil)))
      (pss_cons (ps_if (pt_cmpR op_eq (pe_call G1 hr1 (by rfl) g1 k1 b1 .nil pass0 (pa_cons (pv 0) (pa_cons pe_int pa_nil))) pe_int (nomark _))
        (pss_cons (ps_setLc (i := 2) (own := [("piece", 3)]) (g := gName 3) (tt := tYes) rfl scTwo.nd rfl rfl (sw_true rfl rfl rfl (by decide +kernel)) (pi_list (pv 2)) (blkOk_by (own := [("piece", 3)]) (N := ["box", "one", "other", "piece", "found", "point"]) (sc := defScope sTwo) (by decide +kernel)) (fun _ _ _ _ _ => pg_name (i := 3) scTwo.nd rfl (Or.inl rfl)) (fun _ _ _ _ _ => pts_nil)
          (fun _ _ _ _ _ => pe_callTy (r := rTupOf K) call_tuple_of (by rfl) T.tuple (by decide +kernel) (pa_cons
            (pe_lc (own := [("point", 5)]) (g := gName 5) (wi := iTup K (tVar 3)) rfl scTwo.nd (pi_tup (pv 3)) (blkOk_by (own := [("point", 5)]) (N := ["box", "one", "other", "piece", "found", "point"]) (sc := scOuter) (by decide +kernel)) (fun _ _ _ _ _ => pg_name (i := 5) scTwo.nd rfl (Or.inl rfl)) (fun _ _ _ _ _ => pts_one (pt_cmpR op_lt (pv 5) pe_int (nomark _)))
              (fun _ _ _ _ _ => pe_op op_add pe_int (pv 5))) pa_nil)))
        (pss_cons (ps_setLc (i := 2) (own := [("piece", 3)]) (g := gName 3) rfl scTwo.nd rfl rfl (sw_true rfl rfl rfl (by decide +kernel)) (pi_list (pv 2)) (blkOk_by (own := [("piece", 3)]) (N := ["box", "one", "other", "piece", "found", "point"]) (sc := defScope sTwo) (by decide +kernel)) (fun _ _ _ _ _ => pg_name (i := 3) scTwo.nd rfl (Or.inl rfl))
          (fun _ _ _ _ _ => pts_one (pt_cmpR (r := rNeD K) (op_neD hr.units) (pv 3) (pe_tup pa_nil) (nomark _))) (fun _ _ _ _ _ => pv 3))
        (pss_cons (ps_set (i := 4) scTwo.nd rfl (.inl rfl) (pe_lst pa_nil))
        (pss_cons (ps_for PassesOwn.never rfl (pi_list (pv 2)) (pg_name (i := 3) scTwo.nd rfl (Or.inl rfl))
          (pss_one (ps_if (pt_cmpR (op_notInD (hu65 hr)) (pv 3) (pv 4) (by rfl)) (pss_one (ps_expr (pe_bm PySem.F.plainAttrs_list PySem.F.slot_list_append PySem.F.type_list_append mt_append (pv 4) (pa_cons (pv 3) pa_nil)))) pss_nil)))
        (pss_one (ps_set (i := 2) scTwo.nd rfl (.inl rfl) (pv 4))))))) pss_nil)
      (pss_one (ps_ret (pe_tup (pa_cons (pv 1) (pa_cons (pv 2) pa_nil)))))))), ?_⟩
    refine ⟨.ref b, rfl, b, rfl, bx, fun H1 ra V1 kb1 bx1 hra gs1 l1 => ?_⟩
    refine ⟨.ref b, rfl, b, rfl, bx1, fun H2 rb V2 kb2 bx2 hrb gs2 l2 => ?_⟩
    obtain ⟨xb1, mb1, hb1, _⟩ := id bx1
    have nab : ra ≠ b := fun z => by
      obtain ⟨x, m, h, _⟩ := bx
      rw [z, h] at hra
      cases hra
    have nbb : rb ≠ b := box_ne bx1 hrb
    have l1' := lp_kb l1 kb2 hb1 nab
    refine ⟨.ref b, rfl, b, 2, rfl, bx2, by decide, by decide, fun x3 m3 r3 ok3 r30 r32 => ?_⟩
    obtain ⟨xb2, mb2, hb2, _⟩ := id bx2
    have kb3 : KeepB b H (upd H2 b (.lst [.int x3, .int m3])) := (kb1.trans kb2).trans (kb_upd b H2 _)
    have l13 := lp_kb l1' (kb_upd b H2 (.lst [.int x3, .int m3])) hb2 nab
    have l23 := lp_kb l2 (kb_upd b H2 (.lst [.int x3, .int m3])) hb2 nbb
    generalize upd H2 b (.lst [.int x3, .int m3]) = H3 at kb3 l13 l23 ⊢
    -- the end
    have fin : ∀ (H4 : Hp) (rc : Addr) (V3 : List Pc) (y3 y4 y5 : Option V), Same H3 H4 → LpAt H4 rc V3 → Good V3 →
        tRet (tTup (tCons (tVar 1) (tCons (tVar 2) tNil))) { nx := fun _ H' => Q .non H', rt := Q } [some (.ref b), some (.ref ra), some (.ref rc), y3, y4, y5] H4 := by
      intro H4 rc V3 y3 y4 y5 s4 l4 g4
      refine ⟨.ref ra, rfl, .ref rc, rfl, by show 2 ≤ sizeLine; exact smallE (by decide), fun t ht => ?_⟩
      have st : Same H4 (upd H4 t (.tup [.ref ra, .ref rc])) := same_upd ht
      exact q _ t ra rc V1 V3 (kb3.trans (Same.kb (s4.trans st))) upd_same (l13.keep (s4.trans st)) (l4.keep st) gs1.good g4
    refine ⟨rfl, _, rfl, ite2 (fun c => ?_) (fun c => ?_)⟩
    · have hfew := gs2.good.few
      have hml : ∀ p : Pc, (m50 p).length = p.length := fun p => List.length_map _
      -- other = [tuple([50 + point for point in piece if point < 45]) for piece in other]
      refine ⟨.ref rb, rfl, rb, rfl, l23.sq, fun D hD => ?_⟩
      refine lc_lp l23 (fun i H4 => Same H3 H4 ∧ LpAt H4 D ((V2.map m50).take i)) ⟨same_upd hD, LpAt.nil upd_same⟩ (fun i H4 h => h.1) (fun i t p H4 hi ht ⟨s4, d4⟩ => ?_) (fun H4 ⟨s4, d4⟩ => ?_)
      · have hil := lt_of_at hi
        have hp := List.mem_of_getElem? hi
        have pk := gs2.good.pk p hp
        have hp5 := pk.le
        refine ⟨rfl, .ref t, rfl, t, rfl, ⟨_, tup_sq ht⟩, fun D2 hD2 => ?_⟩
        refine lc_tup (K := K) (a := t) (xs := p.map V.int) (fun j H5 => Same H4 H5 ∧ H5 D2 = some (.lst ((m50 (p.take j)).map V.int))) ⟨same_upd hD2, upd_same⟩ (fun j H5 _ h => tup_sq (h.1 _ _ ht)) (fun j x H5 hj ⟨s5, d5⟩ => ?_) (fun H5 ⟨s5, d5⟩ => ?_)
        · obtain ⟨z, hz, rfl⟩ := ints_at hj
          have hjl := lt_of_at hz
          have hz35 := gs2.low p hp z (List.mem_of_getElem? hz)
          refine ⟨rfl, .int z, rfl, _, _, rfl, rfl, _, rfl, itD (by omega) ⟨.int z, rfl, _, _, rfl, rfl, _, d5, small (by rw [List.length_map, hml, List.length_take]; omega), same_wr s5 hD2, upd_eq ?_⟩⟩
          unfold m50
          rw [take_next hz, List.map_append, List.map_append]
          rfl
        · rw [List.length_map, List.take_length] at d5
          refine ⟨D2, _, rfl, .inl ⟨.inl (.inl d5), fun u hu => ?_⟩⟩
          have su : Same H5 (upd H5 u (.tup ((m50 p).map V.int))) := same_upd hu
          obtain ⟨acc, a1, a2, a3⟩ := lp_push (q := m50 p) (d4.keep (s5.trans su)) (show TupAt _ u _ from upd_same)
          refine ⟨acc, a1, small (by rw [a2, List.length_take, List.length_map]; omega), same_wr (s4.trans (s5.trans su)) hD, ?_⟩
          have hn : (V2.map m50)[i]? = some (m50 p) := by
            rw [List.getElem?_map, hi]
            rfl
          rw [take_next hn]
          exact a3
      · rw [← List.length_map (f := m50), List.take_length] at d4
        have gm := m50_good gs2
        have hfm := gm.few
        -- other = [piece for piece in other if piece != ()]
        refine ⟨.ref D, rfl, D, rfl, d4.sq, fun D2 hD2 => ?_⟩
        refine lc_lp d4 (fun i H5 => Same H4 H5 ∧ LpAt H5 D2 ((V2.map m50).take i)) ⟨same_upd hD2, LpAt.nil upd_same⟩ (fun i H5 h => h.1) (fun i t p H5 hi ht ⟨s5, d5⟩ => ?_) (fun H5 ⟨s5, d5⟩ => ?_)
        · have hil := lt_of_at hi
          have pk := gm.pk p (List.mem_of_getElem? hi)
          refine ⟨rfl, .ref t, rfl, Nat.zero_le _, fun v hv => ?_⟩
          have sv : Same H5 (upd H5 v (.tup [])) := same_upd hv
          refine ⟨pD p, pD [], dp_piece (tup_sq (sv _ _ ht)), dp_piece (.inl (.inl upd_same)), pD_shaped _, pD_shaped _, _, rfl, ?_⟩
          rw [pD_eqv]
          refine iteNS' pk.ne ?_
          obtain ⟨acc, a1, a2, a3⟩ := lp_push (d5.keep sv) (sv _ _ ht)
          refine ⟨.ref t, rfl, acc, a1, small (by rw [a2, List.length_take]; omega), same_wr (s5.trans sv) hD2, ?_⟩
          rw [take_next hi]
          exact a3
        · rw [List.take_length] at d5
          -- found = []; for piece in other: if piece not in found: found.append(piece)
          refine ⟨Nat.zero_le _, fun o ho => ?_⟩
          have so : Same H5 (upd H5 o (.lst [])) := same_upd ho
          refine ⟨.ref D2, rfl, D2, rfl, (d5.keep so).sq, for_lp d5 (fun i σ H6 => ∃ y3, σ = [some (.ref b), some (.ref ra), some (.ref D2), y3, some (.ref o), none] ∧ Same H5 H6 ∧ LpAt H6 o ((V2.map m50).take i))
            ⟨none, rfl, so, LpAt.nil upd_same⟩ (fun i σ H6 ⟨_, _, h, _⟩ => h) ?_ ?_⟩
          · rintro i t p σ H6 hi ht ⟨y3, rfl, s6, d6⟩
            have hil := lt_of_at hi
            have hnot : p ∉ (V2.map m50).take i := fun z => by
              obtain ⟨j, hj⟩ := List.mem_iff_getElem?.mp z
              rw [List.getElem?_take] at hj
              by_cases c2 : j < i
              · rw [if_pos c2] at hj
                have := nd_ix gm.nd hj hi
                omega
              · rw [if_neg c2] at hj
                cases hj
            refine ⟨.ref t, rfl, .ref o, rfl, pD p, ((V2.map m50).take i).map pD, dp_piece (tup_sq ht), dp_list d6, pD_shaped _, pDs_shaped _, _, rfl, ?_⟩
            rw [any_pD]
            refine iteNS' hnot ?_
            obtain ⟨acc, a1, a2, a3⟩ := lp_push d6 ht
            refine ⟨.ref o, rfl, .inl ⟨rfl, _, .inl (.inl a1)⟩, .ref t, rfl, o, acc, .ref t, rfl, rfl, a1, small (by rw [a2, List.length_take]; omega), ?_⟩
            refine ⟨some (.ref t), rfl, same_wr s6 ho, ?_⟩
            rw [take_next hi]
            exact a3
          · rintro σ H6 ⟨y3, rfl, s6, d6⟩
            rw [List.take_length] at d6
            exact ⟨.ref o, rfl, fin H6 o _ y3 _ none ((s4.trans s5).trans s6) d6 gm⟩
    · exact fin H3 rb V2 none none none (Same.refl _) l23 gs2.good
end
end K7
set_option maxHeartbeats 3999999
/-! The law itself. -/
namespace K7
open PySem PySem.Spec PyProof.Rows L2 K7R K74
theorem chi_bd : ∀ l : List Pc, -(l.length : Int) ≤ chi l ∧ chi l ≤ (l.length : Int)
  | [] => ⟨by decide, by decide⟩
  | p :: l => by
    have ih := chi_bd l
    unfold chi at ih ⊢
    rw [List.map_cons, List.sum_cons, List.length_cons]
    have h1 : sgn p = 1 ∨ sgn p = -1 := by
      unfold sgn
      omega
    omega
theorem good_whole {A B U g l : List Pc} (ga : Good A) (gb : Good B) (hU : ∀ q, In q U ↔ In q A ∨ In q B) (G : Grt U g) (h20 : g.length ≤ 20) (hl : Pcs g l) (h200 : l.length ≤ 200) : Good g := by
  refine ⟨h20, G.nd, fun p hp => ?_, fun m hm => ?_⟩
  · rcases (hU p).mp (G.mem_in hp) with h | h
    · exact h.pk ga.pk
    · exact h.pk gb.pk
  · rw [(hm.perm hl).length_eq]
    exact h200
theorem good_less {A B S g : List Pc} (ga : Good A) (hS : ∀ q, In q S ↔ In q A ∧ In q B) (G : Grt S g) (h20 : g.length ≤ 20) : Good g := by
  refine ⟨h20, G.nd, fun p hp => ((hS p).mp (G.mem_in hp)).1.pk ga.pk, fun m hm => ?_⟩
  obtain ⟨l, hl⟩ := pcs_ex A
  exact Nat.le_trans (nodup_len hm.nd fun x hx => (hl.mem x).mpr ((hS x).mp ((G.in_iff x).mp ((hm.mem x).mp hx))).1) (ga.most l hl)
section
variable {P : Program} {w : World} {K : PySem.W.Frag} {mg : Str → Option Value} {base : Heap}
def spLaw (K : PySem.W.Frag) : Sp := fun vs H Q _ => ∃ (a : Addr) (ns : List Int), vs = [.ref a] ∧ SqL K H a (ns.map V.int) ∧ ∀ H', Q (.bl true) H'
theorem scLaw : FnScope ["script", "box", "one", "other", "whole", "less", "told"] ["script"] (defScope sLaw) := ⟨rfl, rfl, rfl, by decide +kernel, rfl, by decide +kernel, by decide +kernel⟩
theorem ok_law {f : Addr} {fd : FuncData} (F : FnP K "law" sLaw f fd) (T : Txt mg) (C1 : Cal P w K mg base CX0 1 "_law_cell_at" ["script", "k"] (spCell K)) (C2 : Cal P w K mg base CX0 1 "_law_box" ["cell"] spBox) (C3 : Cal P w K mg base CX0 4 "_law_two_webs" ["box"] spTwo)
    (C4 : Cal P w K mg base CX0 5 "both" ["one", "other"] spBoth) (C5 : Cal P w K mg base CX0 5 "shared" ["one", "other"] spShared) (C6 : Cal P w K mg base CX0 2 "_law_pieces" ["web"] spPiecesBy) (C7 : Cal P w K mg base CX0 5 "balance" ["web"] spBalance) (C8 : Cal P w K mg base CX0 6 "_law_joined" ["one", "other"] spLJoined) :
    FnOk P w K mg base CX0 7 f fd ["script"] (spLaw K) := by
  obtain ⟨f1, fd1, G1, g1, k1, b1⟩ := C1.ex
  obtain ⟨f2, fd2, G2, g2, k2, b2⟩ := C2.ex
  obtain ⟨f3, fd3, G3, g3, k3, b3⟩ := C3.ex
  obtain ⟨f4, fd4, G4, g4, k4, b4⟩ := C4.ex
  obtain ⟨f5, fd5, G5, g5, k5, b5⟩ := C5.ex
  obtain ⟨f6, fd6, G6, g6, k6, b6⟩ := C6.ex
  obtain ⟨f7, fd7, G7, g7, k7, b7⟩ := C7.ex
  obtain ⟨f8, fd8, G8, g8, k8, b8⟩ := C8.ex
  refine F.ok scLaw (fun vs H Q E h => ?_) (fun cdv A outer s H vs Q E hr h => ?_)
  · obtain ⟨a, ns, rfl, _⟩ := h
    rfl
  · obtain ⟨a, ns, rfl, hS, q⟩ := h
    have hr1 := hr.mono (j := 1) (by decide)
    have hr2 := hr.mono (j := 2) (by decide)
    have hr4 := hr.mono (j := 4) (by decide)
    have hr5 := hr.mono (j := 5) (by decide)
    refine ⟨_, PSs.nox (pss_cons (ps_set (i := 1) scLaw.nd rfl (.inl rfl) (pe_call G2 hr1 (by rfl) g2 k2 b2 .nil pass0 (pa_cons (pe_call G1 hr1 (by rfl) g1 k1 b1 .nil pass0 (pa_cons (pv 0) (pa_cons pe_int pa_nil))) pa_nil)))
      (pss_cons (ps_asg (pe_call G3 hr4 (by rfl) g3 k3 b3 .nil pass0 (pa_cons (pv 1) pa_nil)) (pg_tup rfl (pgs_cons (pg_name (i := 2) scLaw.nd rfl (.inl rfl)) (pgs_cons (pg_name (i := 3) scLaw.nd rfl (.inl rfl)) pgs_nil))))
      (pss_cons (ps_set (i := 4) scLaw.nd rfl (.inl rfl) (pe_call G4 hr5 (by rfl) g4 k4 b4 .nil pass0 (pa_cons (pv 2) (pa_cons (pv 3) pa_nil))))
      (pss_cons (ps_set (i := 5) scLaw.nd rfl (.inl rfl) (pe_call G5 hr5 (by rfl) g5 k5 b5 .nil pass0 (pa_cons (pv 2) (pa_cons (pv 3) pa_nil))))
      (pss_cons (ps_if (PW.pt (pw_and (pt_cmpR op_le (pe_callB (r := rLn K) call_len_seq (by rfl) T.len PySem.boot_len (pa_cons (pv 4) pa_nil)) pe_int (nomark _)) (pw_and (pt_cmpR op_le (pe_callB (r := rLn K) call_len_seq (by rfl) T.len PySem.boot_len (pa_cons (pv 5) pa_nil)) pe_int (nomark _))
          (pw_and1 (pt_cmpR op_le (pe_callB (r := rLn K) call_len_seq (by rfl) T.len PySem.boot_len (pa_cons (pe_call G6 hr2 (by rfl) g6 k6 b6 .nil pass0 (pa_cons (pv 4) pa_nil)) pa_nil)) pe_int (nomark _))))))
        (pss_one (ps_if (pt_cmpR op_ne (pe_op op_add (pe_call G7 hr5 (by rfl) g7 k7 b7 .nil pass0 (pa_cons (pv 4) pa_nil)) (pe_call G7 hr5 (by rfl) g7 k7 b7 .nil pass0 (pa_cons (pv 5) pa_nil))) (pe_op op_add (pe_call G7 hr5 (by rfl) g7 k7 b7 .nil pass0 (pa_cons (pv 2) pa_nil)) (pe_call G7 hr5 (by rfl) g7 k7 b7 .nil pass0 (pa_cons (pv 3) pa_nil))) (nomark _))
          (pss_one (ps_ret pe_bl)) pss_nil)) pss_nil)
      (pss_cons (ps_set (i := 6) scLaw.nd rfl (.inl rfl) (pe_call G8 hr (by rfl) g8 k8 b8 .nil pass0 (pa_cons (pv 2) (pa_cons (pv 3) pa_nil))))
      (pss_cons (ps_if (PW.pt (pw_or (pt_cmpR op_isN (pv 6) pe_non (nomark _)) (pw_or1 (pt_cmpR op_gt (pe_callB (r := rLn K) call_len_seq (by rfl) T.len PySem.boot_len (pa_cons (pv 6) pa_nil)) pe_int (nomark _))))) (pss_one (ps_ret pe_bl)) pss_nil)
      (pss_one (ps_ret (pe_cmpR op_eq (pe_op op_sub (pe_call G7 hr5 (by rfl) g7 k7 b7 .nil pass0 (pa_cons (pv 6) pa_nil)) pe_int)
        (pe_op op_sub pe_int (pe_op op_mul (pe_op op_sub (pe_call G7 hr5 (by rfl) g7 k7 b7 .nil pass0 (pa_cons (pv 2) pa_nil)) pe_int) (pe_op op_sub (pe_call G7 hr5 (by rfl) g7 k7 b7 .nil pass0 (pa_cons (pv 3) pa_nil)) pe_int))) (nomark _))))))))))), ?_⟩
    -- box, one, other
    refine ⟨.ref a, rfl, a, ns, rfl, hS, fun z => ⟨z, rfl, fun H1 b s1 hb0 bx => ?_⟩⟩
    refine ⟨.ref b, rfl, b, rfl, bx, fun H2 t ra rb A B kb2 ht la lb ga gb => ⟨t, [.ref ra, .ref rb], rfl, .inl (.inl ht), rfl, .ref ra, [.ref rb], rfl, .ref rb, [], rfl, rfl, ?_⟩⟩
    -- whole, less
    refine ⟨.ref ra, rfl, .ref rb, rfl, ra, rb, A, B, rfl, la, lb, ga, gb, fun H3 rw' U wh s3 hr3 hU Gw lw => ?_⟩
    refine ⟨.ref ra, rfl, .ref rb, rfl, ra, rb, A, B, rfl, la.keep s3, lb.keep s3, ga, gb, fun H4 rs S ls s4 hr4' hSh Gl ll => ?_⟩
    -- behind the first question
    have nxt : ∀ H5, Same H4 H5 → (tSeq (tAsg (tCall spLJoined [] E0 (tCons (tVar 2) (tCons (tVar 3) tNil))) (gName 6)) (tSeq (tIfS (tOr (tTest (tOp (fun x y H Q => y = .non ∧ Q (.bl (decide (x = .non))) H) (tVar 6) (tC .non))) (tTest (tOp (rI0 fun i j => .bl (decide (j < i))) (tCB (rLn K) (tCons (tVar 6) tNil)) (tC (.int 20))))) (tRet (tC (.bl true))) tNext)
        (tRet (tOp rEq (tOp (rI0 fun i j => .int (i - j)) (tCall spBalance [] E0 (tCons (tVar 6) tNil)) (tC (.int 1))) (tOp (rI0 fun i j => .int (i - j)) (tC (.int 0)) (tOp (rI CMul fun i j => .int (i * j)) (tOp (rI0 fun i j => .int (i - j)) (tCall spBalance [] E0 (tCons (tVar 2) tNil)) (tC (.int 1))) (tOp (rI0 fun i j => .int (i - j)) (tCall spBalance [] E0 (tCons (tVar 3) tNil)) (tC (.int 1)))))))))
        { nx := fun _ H' => Q .non H', rt := Q } [some (.ref a), some (.ref b), some (.ref ra), some (.ref rb), some (.ref rw'), some (.ref rs), none] H5 := by
      intro H5 s5
      have la5 := (la.keep s3).keep (s4.trans s5)
      have lb5 := (lb.keep s3).keep (s4.trans s5)
      refine ⟨.ref ra, rfl, .ref rb, rfl, ra, rb, A, B, rfl, la5, lb5, ga, gb, fun H6 s6 => ?_, fun H6 r g s6 jr lg => ?_⟩
      · exact ⟨.non, rfl, rfl, _, rfl, q _⟩
      · obtain ⟨xs, hxs, hxl⟩ := lg.seq (K := K)
        refine ⟨.ref r, rfl, rfl, _, rfl, ?_⟩
        refine ⟨.ref r, rfl, r, xs, rfl, .inl hxs, _, _, rfl, rfl, _, rfl, ite2 (fun c => ?_) (fun c => ?_)⟩
        · exact q _
        · have h20 : g.length ≤ 20 := by
            have h2 : ¬ (20 : Int) < (xs.length : Int) := fun z => c (decide_eq_true z)
            omega
          refine ⟨.ref r, rfl, r, g, rfl, lg, jr.1 h20, fun H7 j s7 hj => ⟨_, _, rfl, rfl, ?_⟩⟩
          refine ⟨.ref ra, rfl, ra, A, rfl, la5.keep (s6.trans s7), ga, fun H8 ja s8 hja => ⟨_, _, rfl, rfl, ?_⟩⟩
          refine ⟨.ref rb, rfl, rb, B, rfl, lb5.keep ((s6.trans s7).trans s8), gb, fun H9 jb s9 hjb => ⟨_, _, rfl, rfl, _, _, rfl, rfl, .inl ?_, _, _, rfl, rfl, rfl, ?_⟩⟩
          · have h1 := chi_bd ja
            have h2 := ga.most ja hja
            omega
          · have e := jr.2 ja jb j hja hjb hj
            have e2 : decide (V.int (chi j - 1) = V.int (0 - (chi ja - 1) * (chi jb - 1))) = true := decide_eq_true (by rw [e])
            show Q (.bl (decide (V.int (chi j - 1) = V.int (0 - (chi ja - 1) * (chi jb - 1))))) H9
            rw [e2]
            exact q _
    obtain ⟨xw, hxw, hwl⟩ := (lw.keep s4).seq (K := K)
    obtain ⟨xl, hxl, hll⟩ := ll.seq (K := K)
    refine ⟨.ref rw', rfl, rw', xw, rfl, .inl hxw, _, _, rfl, rfl, _, rfl, ite2 (fun c1 => ?_) (fun c1 => ?_)⟩
    · refine ⟨.ref rs, rfl, rs, xl, rfl, .inl hxl, _, _, rfl, rfl, _, rfl, ite2 (fun c2 => ?_) (fun c2 => ?_)⟩
      · have h1 : wh.length ≤ 20 := by
          have : (xw.length : Int) ≤ 20 := of_decide_eq_true c1
          omega
        have h2 : ls.length ≤ 20 := by
          have : (xl.length : Int) ≤ 20 := of_decide_eq_true c2
          omega
        have w5 : ∀ p ∈ wh, p.length ≤ 5 := fun p hp => by
          rcases (hU p).mp (Gw.mem_in hp) with h | h
          · exact (h.pk ga.pk).le
          · exact (h.pk gb.pk).le
        refine ⟨.ref rw', rfl, rw', wh, rfl, lw.keep s4, w5, by omega, fun H5 r5 l5 s5 hr5' hl5 ll5 => ?_⟩
        obtain ⟨x5, hx5, hxl5⟩ := ll5.seq (K := K)
        refine ⟨r5, x5, rfl, .inl hx5, _, _, rfl, rfl, _, rfl, ite2 (fun c3 => ?_) (fun c3 => ?_)⟩
        · have h3 : l5.length ≤ 200 := by
            have : (x5.length : Int) ≤ 200 := of_decide_eq_true c3
            omega
          have gw := good_whole ga gb hU Gw h1 hl5 h3
          have gl := good_less ga hSh Gl h2
          refine ⟨.ref rw', rfl, rw', wh, rfl, lw.keep (s4.trans s5), gw, fun H6 u s6 hu => ?_⟩
          refine ⟨.ref rs, rfl, rs, ls, rfl, ll.keep (s5.trans s6), gl, fun H7 v s7 hv => ⟨_, _, rfl, rfl, ?_⟩⟩
          refine ⟨.ref ra, rfl, ra, A, rfl, (la.keep s3).keep (((s4.trans s5).trans s6).trans s7), ga, fun H8 ja s8 hja => ?_⟩
          refine ⟨.ref rb, rfl, rb, B, rfl, (lb.keep s3).keep ((((s4.trans s5).trans s6).trans s7).trans s8), gb, fun H9 jb s9 hjb => ⟨_, _, rfl, rfl, rfl, _, rfl, iteNS ?_ ?_⟩⟩
          · have e := both_shared hja hjb hu hv (fun z => (Gw.in_iff z).trans (hU z)) (fun z => (Gl.in_iff z).trans (hSh z))
            show V.int (chi u + chi v) = V.int (chi ja + chi jb)
            rw [e]
          · exact nxt H9 ((((s5.trans s6).trans s7).trans s8).trans s9)
        · exact nxt H5 s5
      · exact nxt H4 (Same.refl _)
    · exact nxt H4 (Same.refl _)
end
end K7
set_option maxHeartbeats 0
/-! The head: what the top has written, by one run; then the law. -/
namespace K7
open PySem PySem.Spec PyProof.Rows L2 K7R K74
def dD (x : Str) (st : Stmt) : He.DefD := ⟨(x, none), x, x, defArgs st, defBody st, defScope st, [], []⟩
def fn : List He.DefD := [dD "is_piece" sIsPiece, dD "parts_of" sPartsOf, dD "rims_of" sRimsOf, dD "in_order" sInOrder, dD "pieces_by" sPiecesBy, dD "is_web" sIsWeb, dD "must_be_web" sMust, dD "greatest_by" sGreatest, dD "balance" sBalance, dD "both" sBoth, dD "shared" sShared, dD "joined_by" sJoinedBy, dD "joined" sJoined, dD "_law_cell_at" sCellAt, dD "_law_box" sBox, dD "_law_take" sTake, dD "_law_parts" sLParts, dD "_law_pieces" sLPieces, dD "_law_known" sKnown, dD "_law_named" sNamed, dD "_law_web" sWeb, dD "_law_two_webs" sTwo, dD "_law_joined" sLJoined, dD "law" sLaw]
def fa : List He.Fa := [.glo "is_piece", .glo "parts_of", .glo "rims_of", .glo "in_order", .glo "pieces_by", .glo "is_web", .glo "must_be_web", .glo "greatest_by", .glo "balance", .glo "both", .glo "shared", .glo "joined_by", .glo "joined", .glo "_law_cell_at", .glo "_law_box", .glo "_law_take", .glo "_law_parts", .glo "_law_pieces", .glo "_law_known", .glo "_law_named", .glo "_law_web", .glo "_law_two_webs", .glo "_law_joined", .glo "law", .free "len", .free "all", .free "range", .free "list", .free "sorted", .free "set", .free "sum", .free "max", .free "tuple", .free "int", .int "MOST_TOLD" 20, .int "MOST_PIECES" 200, .int "MOST_IN_PIECE" 5, .int "MOST_POINT" 99, .glo "NoWeb", .exc "NoWeb", .exm "NoWeb" "NoWeb" true]
abbrev R : PySem.W.OpenRow := PySem.W.OpenLaw.row PySem.Challenge.rw_seamwright_k74_whole_balances_together
abbrev hk : PySem.W.Hook := He.hookD 5 fa fn
def ob (s : PySem.W.SharedT) : He.AlD := He.obsDG 5 fa fn (HandSHeadRun.getT s)
theorem ob_eq (s : PySem.W.SharedT) : ob s = hk.obs s.abs := He.obsDG_eq (HandSHeadRun.getT_eq s)
def others : List Str := ["SeamError", "NoWeb", "MOST_TOLD", "MOST_PIECES", "MOST_IN_PIECE", "MOST_POINT", "is_piece", "parts_of", "rims_of", "in_order", "pieces_by", "is_web", "must_be_web", "greatest_by", "balance", "both", "shared", "joined_by", "joined", "_law_cell_at", "_law_box", "_law_take", "_law_parts", "_law_pieces", "_law_known", "_law_named", "_law_web", "_law_two_webs", "_law_joined"]
theorem run (w : World) : HandSHeadRun.RunEq R (PySem.W.view R.prog [33]) hk ob 2000 others w := by
  intro os
  kernel_rfl
end K7
set_option maxHeartbeats 0
/-! All facts together, the end. -/
namespace K7
open PySem PySem.Spec PyProof.Rows L2 K7R K74
theorem facts {P : Program} {w : World} {K : PySem.W.Frag} {h : Heap} {mg : Str → Option Value} {f : Addr} (X : K.In h) (G : h.Ns mainGlobals mg) (hfa : mg ("law" : Str) = some (.ref f)) (c : He.SaysD fa fn K) :
    ∃ fd : FuncData, (∀ (s : Shared) (v : Value), BindsTo s fd ⟨[v], []⟩ [("script", v)]) ∧ ∀ base : Heap, K.In base → base.Ns mainGlobals mg → FnOk P w K mg base CX0 7 f fd ["script"] (spLaw K) := by
  have z0 := He.free_ok X G (c.fact 24 (f := .free "len") rfl)
  have z1 := He.free_ok X G (c.fact 25 (f := .free "all") rfl)
  have z2 := He.free_ok X G (c.fact 26 (f := .free "range") rfl)
  have z3 := He.free_ok X G (c.fact 27 (f := .free "list") rfl)
  have z4 := He.free_ok X G (c.fact 28 (f := .free "sorted") rfl)
  have z5 := He.free_ok X G (c.fact 29 (f := .free "set") rfl)
  have z6 := He.free_ok X G (c.fact 30 (f := .free "sum") rfl)
  have z7 := He.free_ok X G (c.fact 31 (f := .free "max") rfl)
  have z8 := He.free_ok X G (c.fact 32 (f := .free "tuple") rfl)
  have z9 := He.free_ok X G (c.fact 33 (f := .free "int") rfl)
  have i0 := He.int_ok X G (c.fact 34 (f := .int "MOST_TOLD" 20) rfl)
  have i1 := He.int_ok X G (c.fact 35 (f := .int "MOST_PIECES" 200) rfl)
  have i2 := He.int_ok X G (c.fact 36 (f := .int "MOST_IN_PIECE" 5) rfl)
  have i3 := He.int_ok X G (c.fact 37 (f := .int "MOST_POINT" 99) rfl)
  have T : Txt mg := ⟨z0, z1, z2, z3, z4, z5, z6, z7, z8, z9, i0, i1, i2, i3⟩
  have e0 := He.exc_ok (c.fact 39 (f := .exc "NoWeb") rfl)
  have E : TxtE K mg (He.ga K "NoWeb") := ⟨He.glo_ok X G (c.fact 38 (f := .glo "NoWeb") rfl), e0.1, e0.2.1, e0.2.2.1, e0.2.2.2, He.exm_ok (c.fact 40 (f := .exm "NoWeb" "NoWeb" true) rfl)⟩
  obtain ⟨fd0, F0⟩ := c.def_ 0 (d := dD "is_piece" sIsPiece) rfl
  obtain ⟨fd1, F1⟩ := c.def_ 1 (d := dD "parts_of" sPartsOf) rfl
  obtain ⟨fd2, F2⟩ := c.def_ 2 (d := dD "rims_of" sRimsOf) rfl
  obtain ⟨fd3, F3⟩ := c.def_ 3 (d := dD "in_order" sInOrder) rfl
  obtain ⟨fd4, F4⟩ := c.def_ 4 (d := dD "pieces_by" sPiecesBy) rfl
  obtain ⟨fd5, F5⟩ := c.def_ 5 (d := dD "is_web" sIsWeb) rfl
  obtain ⟨fd6, F6⟩ := c.def_ 6 (d := dD "must_be_web" sMust) rfl
  obtain ⟨fd7, F7⟩ := c.def_ 7 (d := dD "greatest_by" sGreatest) rfl
  obtain ⟨fd8, F8⟩ := c.def_ 8 (d := dD "balance" sBalance) rfl
  obtain ⟨fd9, F9⟩ := c.def_ 9 (d := dD "both" sBoth) rfl
  obtain ⟨fd10, F10⟩ := c.def_ 10 (d := dD "shared" sShared) rfl
  obtain ⟨fd11, F11⟩ := c.def_ 11 (d := dD "joined_by" sJoinedBy) rfl
  obtain ⟨fd12, F12⟩ := c.def_ 12 (d := dD "joined" sJoined) rfl
  obtain ⟨fd13, F13⟩ := c.def_ 13 (d := dD "_law_cell_at" sCellAt) rfl
  obtain ⟨fd14, F14⟩ := c.def_ 14 (d := dD "_law_box" sBox) rfl
  obtain ⟨fd15, F15⟩ := c.def_ 15 (d := dD "_law_take" sTake) rfl
  obtain ⟨fd16, F16⟩ := c.def_ 16 (d := dD "_law_parts" sLParts) rfl
  obtain ⟨fd17, F17⟩ := c.def_ 17 (d := dD "_law_pieces" sLPieces) rfl
  obtain ⟨fd18, F18⟩ := c.def_ 18 (d := dD "_law_known" sKnown) rfl
  obtain ⟨fd19, F19⟩ := c.def_ 19 (d := dD "_law_named" sNamed) rfl
  obtain ⟨fd20, F20⟩ := c.def_ 20 (d := dD "_law_web" sWeb) rfl
  obtain ⟨fd21, F21⟩ := c.def_ 21 (d := dD "_law_two_webs" sTwo) rfl
  obtain ⟨fd22, F22⟩ := c.def_ 22 (d := dD "_law_joined" sLJoined) rfl
  obtain ⟨fd23, F23⟩ := c.def_ 23 (d := dD "law" sLaw) rfl
  have e := hfa.symm.trans (He.glo_ok X G (c.fact 23 (f := .glo "law") rfl))
  cases e
  have b := FunD.bindsA (ps := ["script"]) F23 fun _ _ _ _ _ _ us hl => match us, hl with | [_], _ => rfl
  refine ⟨fd23, fun s v => b s [v] rfl, fun base _ _ => ?_⟩
  have C_is_piece : Cal P w K mg base CX0 1 "is_piece" ["piece"] spIsPiece := ⟨_, fd0, ok_is_piece F0 T, He.glo_ok X G (c.fact 0 (f := .glo "is_piece") rfl), F0.kp, FunD.bindsN F0 fun _ _ _ _ _ _ us hl => match us, hl with | [_], _ => rfl⟩
  have C_parts_of : Cal P w K mg base CX0 1 "parts_of" ["piece"] spPartsOf := ⟨_, fd1, ok_parts_of F1 T, He.glo_ok X G (c.fact 1 (f := .glo "parts_of") rfl), F1.kp, FunD.bindsN F1 fun _ _ _ _ _ _ us hl => match us, hl with | [_], _ => rfl⟩
  have C_rims_of : Cal P w K mg base CX0 1 "rims_of" ["piece"] spRimsOf := ⟨_, fd2, ok_rims_of F2 T, He.glo_ok X G (c.fact 2 (f := .glo "rims_of") rfl), F2.kp, FunD.bindsN F2 fun _ _ _ _ _ _ us hl => match us, hl with | [_], _ => rfl⟩
  have C_in_order : Cal P w K mg base CX0 1 "in_order" ["pieces_of"] spInOrder := ⟨_, fd3, ok_in_order F3 T, He.glo_ok X G (c.fact 3 (f := .glo "in_order") rfl), F3.kp, FunD.bindsN F3 fun _ _ _ _ _ _ us hl => match us, hl with | [_], _ => rfl⟩
  have C_pieces_by : Cal P w K mg base CX0 2 "pieces_by" ["web"] spPiecesBy := ⟨_, fd4, ok_pieces_by F4 T C_parts_of C_in_order, He.glo_ok X G (c.fact 4 (f := .glo "pieces_by") rfl), F4.kp, FunD.bindsN F4 fun _ _ _ _ _ _ us hl => match us, hl with | [_], _ => rfl⟩
  have C_is_web : Cal P w K mg base CX0 3 "is_web" ["web"] spIsWeb := ⟨_, fd5, ok_is_web F5 T C_is_piece C_pieces_by, He.glo_ok X G (c.fact 5 (f := .glo "is_web") rfl), F5.kp, FunD.bindsN F5 fun _ _ _ _ _ _ us hl => match us, hl with | [_], _ => rfl⟩
  have C_must_be_web : Cal P w K mg base CX0 4 "must_be_web" ["web"] spMust := ⟨_, fd6, ok_must F6 T C_is_web, He.glo_ok X G (c.fact 6 (f := .glo "must_be_web") rfl), F6.kp, FunD.bindsN F6 fun _ _ _ _ _ _ us hl => match us, hl with | [_], _ => rfl⟩
  have C_greatest_by : Cal P w K mg base CX0 3 "greatest_by" ["web"] spGreatest := ⟨_, fd7, ok_greatest F7 T C_pieces_by C_rims_of, He.glo_ok X G (c.fact 7 (f := .glo "greatest_by") rfl), F7.kp, FunD.bindsN F7 fun _ _ _ _ _ _ us hl => match us, hl with | [_], _ => rfl⟩
  have C_balance : Cal P w K mg base CX0 5 "balance" ["web"] spBalance := ⟨_, fd8, ok_balance F8 T C_must_be_web C_pieces_by, He.glo_ok X G (c.fact 8 (f := .glo "balance") rfl), F8.kp, FunD.bindsN F8 fun _ _ _ _ _ _ us hl => match us, hl with | [_], _ => rfl⟩
  have C_both : Cal P w K mg base CX0 5 "both" ["one", "other"] spBoth := ⟨_, fd9, ok_both F9 T C_must_be_web C_greatest_by, He.glo_ok X G (c.fact 9 (f := .glo "both") rfl), F9.kp, FunD.bindsN F9 fun _ _ _ _ _ _ us hl => match us, hl with | [_, _], _ => rfl⟩
  have C_shared : Cal P w K mg base CX0 5 "shared" ["one", "other"] spShared := ⟨_, fd10, ok_shared F10 T C_must_be_web C_pieces_by C_greatest_by, He.glo_ok X G (c.fact 10 (f := .glo "shared") rfl), F10.kp, FunD.bindsN F10 fun _ _ _ _ _ _ us hl => match us, hl with | [_, _], _ => rfl⟩
  have C_joined_by : Cal P w K mg base (L2.CX P w) 4 "joined_by" ["one", "other"] (spJoinBy (He.ga K "NoWeb")) := ⟨_, fd11, ok_joined_by F11 T E C_greatest_by C_pieces_by, He.glo_ok X G (c.fact 11 (f := .glo "joined_by") rfl), F11.kp, FunD.bindsN F11 fun _ _ _ _ _ _ us hl => match us, hl with | [_, _], _ => rfl⟩
  have C_joined : Cal P w K mg base (L2.CX P w) 5 "joined" ["one", "other"] (spJoin (He.ga K "NoWeb")) := ⟨_, fd12, ok_joined F12 T E C_must_be_web C_pieces_by C_joined_by, He.glo_ok X G (c.fact 12 (f := .glo "joined") rfl), F12.kp, FunD.bindsN F12 fun _ _ _ _ _ _ us hl => match us, hl with | [_, _], _ => rfl⟩
  have C__law_cell_at : Cal P w K mg base CX0 1 "_law_cell_at" ["script", "k"] (spCell K) := ⟨_, fd13, ok_cell F13 T, He.glo_ok X G (c.fact 13 (f := .glo "_law_cell_at") rfl), F13.kp, FunD.bindsN F13 fun _ _ _ _ _ _ us hl => match us, hl with | [_, _], _ => rfl⟩
  have C__law_box : Cal P w K mg base CX0 1 "_law_box" ["cell"] spBox := ⟨_, fd14, ok_box F14 T, He.glo_ok X G (c.fact 14 (f := .glo "_law_box") rfl), F14.kp, FunD.bindsN F14 fun _ _ _ _ _ _ us hl => match us, hl with | [_], _ => rfl⟩
  have C__law_take : Cal P w K mg base CX0 1 "_law_take" ["box", "most"] spTake := ⟨_, fd15, ok_take F15 T, He.glo_ok X G (c.fact 15 (f := .glo "_law_take") rfl), F15.kp, FunD.bindsN F15 fun _ _ _ _ _ _ us hl => match us, hl with | [_, _], _ => rfl⟩
  have C__law_parts : Cal P w K mg base CX0 1 "_law_parts" ["piece"] spPartsOf := ⟨_, fd16, ok_law_parts F16 T, He.glo_ok X G (c.fact 16 (f := .glo "_law_parts") rfl), F16.kp, FunD.bindsN F16 fun _ _ _ _ _ _ us hl => match us, hl with | [_], _ => rfl⟩
  have C__law_pieces : Cal P w K mg base CX0 2 "_law_pieces" ["web"] spPiecesBy := ⟨_, fd17, ok_law_pieces F17 T C__law_parts, He.glo_ok X G (c.fact 17 (f := .glo "_law_pieces") rfl), F17.kp, FunD.bindsN F17 fun _ _ _ _ _ _ us hl => match us, hl with | [_], _ => rfl⟩
  have C__law_known : Cal P w K mg base CX0 1 "_law_known" ["number"] spKnown := ⟨_, fd18, ok_known F18 T, He.glo_ok X G (c.fact 18 (f := .glo "_law_known") rfl), F18.kp, FunD.bindsN F18 fun _ _ _ _ _ _ us hl => match us, hl with | [_], _ => rfl⟩
  have C__law_named : Cal P w K mg base CX0 2 "_law_named" ["box", "web"] spNamed := ⟨_, fd19, ok_named F19 T C__law_take, He.glo_ok X G (c.fact 19 (f := .glo "_law_named") rfl), F19.kp, FunD.bindsN F19 fun _ _ _ _ _ _ us hl => match us, hl with | [_, _], _ => rfl⟩
  have C__law_web : Cal P w K mg base CX0 3 "_law_web" ["box"] spWeb := ⟨_, fd20, ok_web F20 T C__law_take C__law_known C__law_named, He.glo_ok X G (c.fact 20 (f := .glo "_law_web") rfl), F20.kp, FunD.bindsN F20 fun _ _ _ _ _ _ us hl => match us, hl with | [_], _ => rfl⟩
  have C__law_two_webs : Cal P w K mg base CX0 4 "_law_two_webs" ["box"] spTwo := ⟨_, fd21, ok_two F21 T C__law_take C__law_web, He.glo_ok X G (c.fact 21 (f := .glo "_law_two_webs") rfl), F21.kp, FunD.bindsN F21 fun _ _ _ _ _ _ us hl => match us, hl with | [_], _ => rfl⟩
  have C__law_joined : Cal P w K mg base CX0 6 "_law_joined" ["one", "other"] spLJoined := ⟨_, fd22, ok_law_joined F22 T E C_joined, He.glo_ok X G (c.fact 22 (f := .glo "_law_joined") rfl), F22.kp, FunD.bindsN F22 fun _ _ _ _ _ _ us hl => match us, hl with | [_, _], _ => rfl⟩
  exact ok_law F23 T C__law_cell_at C__law_box C__law_two_webs C_both C_shared C__law_pieces C_balance C__law_joined
end K7
open PySem PySem.W PySem.Calls PyProof.Rows
theorem PySem.Challenge.cw_seamwright_k74_whole_balances_together_holds : PySem.Challenge.rw_seamwright_k74_whole_balances_together.Holds := by
  w_on; o_law
  refine HandSHeadRun.head_any (r := OpenLaw.row PySem.Challenge.rw_seamwright_k74_whole_balances_together) (q := view (OpenLaw.row PySem.Challenge.rw_seamwright_k74_whole_balances_together).prog [33]) (H := K7.hk) (ob := K7.ob) (M := 2000) (loose := K7.others) (d := HandSHeadRun.topDef (OpenLaw.row PySem.Challenge.rw_seamwright_k74_whole_balances_together).prog 33) (kwd := []) K7.ob_eq
    (by kernel_rfl) (fun s => by kernel_rfl) K7.run (by kernel_rfl) (by kernel_rfl) (by kernel_rfl) (by rfl) (by first | assumption | decide +kernel) (by decide +kernel) ⟨rfl, rfl, rfl, rfl, rfl, by decide +kernel⟩ ?hw ?hc
  case hw => w_witness2
  case hc =>
    refine L2.walk_ofE (l := PySem.Challenge.rw_seamwright_k74_whole_balances_together) (n := 63) (k := 7) (x := "script") (CX := L2.CX0) rfl (by decide) (by kernel_rfl) ⟨rfl, by decide, by decide⟩ ?F (fun _ _ _ _ z => z)
    intro w mg fa h Y G hmg0
    obtain ⟨K, KX, c⟩ := Y
    have hmg : mg ("law" : PySem.Str) = some (.ref fa) := by
      have e : (HandSHeadRun.topDef (OpenLaw.row PySem.Challenge.rw_seamwright_k74_whole_balances_together).prog 33).name = ("law" : PySem.Str) := by kernel_rfl
      rw [← e]
      exact hmg0
    obtain ⟨fd, hb, hF⟩ := K7.facts (P := (PySem.Challenge.rw_seamwright_k74_whole_balances_together).prog) (w := w) KX G hmg c
    exact ⟨K, fd, K7.spLaw K, KX, hb, fun H a ns hl _ hS => ⟨a, ns, rfl, hS, fun _ => rfl⟩, hF⟩
