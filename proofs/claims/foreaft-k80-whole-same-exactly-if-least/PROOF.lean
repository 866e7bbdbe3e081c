import PyProof.Rows.All
import Wide.All
import OpenK.AllK
import Wide.FinOn
import KE.KStateDown
import Lean
import HandS.ForMost
import HandS.WordsExc
import HandS.Defaults
import HandS.Head0
import HandS.Head1
import HandS.Head2
import HandS.HeadEnd
import HandS.HeadHook1
import HandS.HeadHook2
import PySem.Challenge.RW_foreaft_k80_whole_same_exactly_if_least
import KE.KDictZip
import HandS.GenList
import KE.KDictDisplayH
import HandS.DictComp
import HandS.Deep
import HandS.Style
import HandS.StrMore
import HandS.IsInst
import HandS.Conv
import HandS.Flow
import HandS.Steps
import HandS.Wide
import HandS.TupAny
import HandS.Walk
set_option Elab.async false
set_option linter.all false
set_option maxRecDepth 100000
set_option maxHeartbeats 0
section
namespace FM
section ded
variable {α β : Type} [DecidableEq α] [DecidableEq β]
def push (acc : List α) (x : α) : List α := if x ∈ acc then acc else acc ++ [x]
def pushAll (acc l : List α) : List α := l.foldl push acc
def ded (l : List α) : List α := pushAll [] l
theorem push_of_mem {acc : List α} {x : α} (h : x ∈ acc) : push acc x = acc := if_pos h
theorem push_of_not {acc : List α} {x : α} (h : ¬ x ∈ acc) : push acc x = acc ++ [x] := if_neg h
theorem mem_push {acc : List α} {x y : α} : y ∈ push acc x ↔ y ∈ acc ∨ y = x := by
  by_cases h : x ∈ acc
  · rw [push_of_mem h]
    exact ⟨.inl, fun z => z.elim id fun e => e ▸ h⟩
  · rw [push_of_not h]; simp
theorem pushAll_nil (acc : List α) : pushAll acc [] = acc := rfl
theorem pushAll_cons (acc : List α) (x : α) (l : List α) : pushAll acc (x :: l) = pushAll (push acc x) l := rfl
theorem pushAll_append (acc l r : List α) : pushAll acc (l ++ r) = pushAll (pushAll acc l) r := by
  simp [pushAll, List.foldl_append]
theorem pushAll_snoc (acc l : List α) (x : α) : pushAll acc (l ++ [x]) = push (pushAll acc l) x := by
  rw [pushAll_append]; rfl
theorem mem_pushAll {l acc : List α} {y : α} : y ∈ pushAll acc l ↔ y ∈ acc ∨ y ∈ l := by
  induction l generalizing acc with
  | nil => simp [pushAll_nil]
  | cons x l ih => rw [pushAll_cons, ih, mem_push]; simp [or_assoc]
theorem prefix_push (acc : List α) (x : α) : acc <+: push acc x := by
  by_cases h : x ∈ acc
  · rw [push_of_mem h]; exact List.prefix_refl _
  · rw [push_of_not h]; exact List.prefix_append _ _
theorem prefix_pushAll (acc l : List α) : acc <+: pushAll acc l := by
  induction l generalizing acc with
  | nil => exact List.prefix_refl _
  | cons x l ih => exact (prefix_push acc x).trans (ih _)
theorem nodup_push {acc : List α} {x : α} (h : acc.Nodup) : (push acc x).Nodup := by
  by_cases hx : x ∈ acc
  · rwa [push_of_mem hx]
  · rw [push_of_not hx, List.nodup_append]
    refine ⟨h, by simp, fun a ha b hb => ?_⟩
    simp at hb; subst hb; intro e; subst e; exact hx ha
theorem nodup_pushAll {l acc : List α} (h : acc.Nodup) : (pushAll acc l).Nodup := by
  induction l generalizing acc with
  | nil => exact h
  | cons x l ih => exact ih (nodup_push h)
theorem nodup_ded (l : List α) : (ded l).Nodup := nodup_pushAll List.nodup_nil
theorem mem_ded {l : List α} {y : α} : y ∈ ded l ↔ y ∈ l := by
  unfold ded; rw [mem_pushAll]; simp
theorem ded_snoc (l : List α) (x : α) : ded (l ++ [x]) = push (ded l) x := pushAll_snoc _ _ _
theorem pushAll_noop {l acc : List α} (h : ∀ x ∈ l, x ∈ acc) : pushAll acc l = acc := by
  induction l with
  | nil => rfl
  | cons x l ih =>
    rw [pushAll_cons, push_of_mem (h x (by simp))]
    exact ih fun y hy => h y (by simp [hy])
/-- the new ones of l, past b -/
def fresh : List α → List α → List α
  | _, [] => []
  | b, x :: l => if x ∈ b then fresh b l else x :: fresh (b ++ [x]) l
theorem pushAll_fresh (b l : List α) : pushAll b l = b ++ fresh b l := by
  induction l generalizing b with
  | nil => simp [pushAll_nil, fresh]
  | cons x l ih =>
    rw [pushAll_cons, fresh]
    by_cases h : x ∈ b
    · rw [push_of_mem h, if_pos h, ih]
    · rw [push_of_not h, if_neg h, ih]; simp
theorem fresh_nil (l : List α) : fresh [] l = ded l := by
  have := pushAll_fresh [] l
  simpa [ded] using this.symm
theorem pushAll_flat (f : α → List β) (b l : List α) (acc : List β) (h : ∀ s ∈ b, ∀ y ∈ f s, y ∈ acc) :
    pushAll acc ((fresh b l).flatMap f) = pushAll acc (l.flatMap f) := by
  induction l generalizing b acc with
  | nil => rfl
  | cons x l ih =>
    rw [fresh]
    by_cases hx : x ∈ b
    · rw [if_pos hx, ih b acc h, List.flatMap_cons, pushAll_append, pushAll_noop (h x hx)]
    · rw [if_neg hx, List.flatMap_cons, List.flatMap_cons, pushAll_append, pushAll_append]
      refine ih _ _ fun s hs y hy => ?_
      rw [mem_pushAll]
      rcases List.mem_append.mp hs with h1 | h1
      · exact .inl (h s h1 y hy)
      · simp at h1; subst h1; exact .inr hy
theorem flatMap_single (f : α → β) (l : List α) : l.flatMap (fun x => [f x]) = l.map f := by
  induction l with
  | nil => rfl
  | cons x l ih => simp [ih]
theorem pushAll_map (f : α → β) (b l : List α) (acc : List β) (h : ∀ s ∈ b, f s ∈ acc) :
    pushAll acc ((fresh b l).map f) = pushAll acc (l.map f) := by
  have := pushAll_flat (fun x => [f x]) b l acc fun s hs y hy => by simp at hy; subst hy; exact h s hs
  rwa [flatMap_single, flatMap_single] at this
theorem ded_map (f : α → β) (l : List α) : ded ((ded l).map f) = ded (l.map f) := by
  have := pushAll_map f [] l [] fun s hs => by simp at hs
  rwa [fresh_nil] at this
theorem ded_cons_flat (f : α → List β) (a : β) (l : List α) : ded (a :: (ded l).flatMap f) = ded (a :: l.flatMap f) := by
  have := pushAll_flat f [] l [a] fun s hs => by simp at hs
  rw [fresh_nil] at this
  exact this
theorem ded_len_le (l : List α) : (ded l).length ≤ l.length := by
  suffices h : ∀ acc : List α, (pushAll acc l).length ≤ acc.length + l.length by
    have := h []; simpa [ded] using this
  induction l with
  | nil => intro acc; exact Nat.le_refl _
  | cons x l ih =>
    intro acc
    rw [pushAll_cons]
    have h1 := ih (push acc x)
    have h2 : (push acc x).length ≤ acc.length + 1 := by
      by_cases h : x ∈ acc
      · rw [push_of_mem h]; omega
      · rw [push_of_not h]; simp
    simp only [List.length_cons]; omega
theorem ded_of_nodup {l : List α} (h : l.Nodup) : ded l = l := by
  suffices q : ∀ acc : List α, (acc ++ l).Nodup → pushAll acc l = acc ++ l by simpa [ded] using q [] (by simpa using h)
  induction l with
  | nil => intro acc _; simp [pushAll_nil]
  | cons x l ih =>
    intro acc ha
    have hx : ¬ x ∈ acc := fun hm => by
      rw [List.nodup_append] at ha
      exact ha.2.2 x hm x (by simp) rfl
    rw [pushAll_cons, push_of_not hx, ih (List.nodup_cons.mp h).2 _ (by simpa using ha)]; simp
theorem nodup_of_ded_len {l : List α} (h : (ded l).length = l.length) : l.Nodup := by
  suffices q : ∀ (acc : List α), acc.Nodup → (pushAll acc l).length = acc.length + l.length → (acc ++ l).Nodup by
    have := q [] List.nodup_nil (by simpa [ded] using h)
    simpa using this
  clear h
  induction l with
  | nil => intro acc ha _; simpa using ha
  | cons x l ih =>
    intro acc ha h
    have up : ∀ (l b : List α), (pushAll b l).length ≤ b.length + l.length := by
      intro l
      induction l with
      | nil => intro b; exact Nat.le_refl _
      | cons y l ih2 =>
        intro b
        rw [pushAll_cons]
        have h1 := ih2 (push b y)
        have h2 : (push b y).length ≤ b.length + 1 := by
          by_cases h : y ∈ b
          · rw [push_of_mem h]; omega
          · rw [push_of_not h]; simp
        simp only [List.length_cons]; omega
    by_cases hx : x ∈ acc
    · rw [pushAll_cons, push_of_mem hx] at h
      have := up l acc
      simp only [List.length_cons] at h; omega
    · rw [pushAll_cons, push_of_not hx] at h
      have q := ih (acc ++ [x]) (by rw [← push_of_not hx]; exact nodup_push ha) (by simp at h ⊢; omega)
      simpa using q
theorem ded_prefix {l r : List α} (h : l <+: r) : ded l <+: ded r := by
  obtain ⟨t, rfl⟩ := h
  unfold ded; rw [pushAll_append]; exact prefix_pushAll _ _
theorem prefix_eq_of_sub {p q : List α} (h : p <+: q) (hq : q.Nodup) (hs : ∀ x ∈ q, x ∈ p) : p = q := by
  obtain ⟨t, rfl⟩ := h
  cases t with
  | nil => simp
  | cons x t =>
    exfalso
    have h1 := hs x (by simp)
    rw [List.nodup_append] at hq
    exact hq.2.2 x h1 x (by simp) rfl
end ded

section num
variable {α : Type} [DecidableEq α]
def numb (keys : List α) : List Nat := keys.map fun x => (ded keys).idxOf x
theorem idxOf_lt_of {l : List α} {x : α} (h : x ∈ l) : l.idxOf x < l.length := List.idxOf_lt_length_iff.mpr h
theorem idxOf_inj {l : List α} {x y : α} (hx : x ∈ l) (hy : y ∈ l) (e : l.idxOf x = l.idxOf y) : x = y := by
  have h1 := List.getElem_idxOf (idxOf_lt_of hx)
  have h2 := List.getElem_idxOf (idxOf_lt_of hy)
  rw [← h1, ← h2]; simp [e]
theorem idxOf_snoc {l : List α} {x y : α} (hx : x ∈ l) : (l ++ [y]).idxOf x = l.idxOf x := by
  rw [List.idxOf_append, if_pos hx]
theorem idxOf_new {l : List α} {y : α} (hy : ¬ y ∈ l) : (l ++ [y]).idxOf y = l.length := by
  rw [List.idxOf_append, if_neg hy]; simp
theorem idxOf_prefix {p q : List α} (h : p <+: q) {x : α} (hx : x ∈ p) : q.idxOf x = p.idxOf x := by
  obtain ⟨t, rfl⟩ := h
  rw [List.idxOf_append, if_pos hx]
theorem map_idxOf_nodup {l : List α} (h : l.Nodup) : l.map (fun x => l.idxOf x) = List.range l.length := by
  apply List.ext_getElem
  · simp
  · intro i h1 h2
    simp only [List.getElem_map, List.getElem_range]
    exact List.Nodup.idxOf_getElem h i _
theorem ded_numb (keys : List α) : ded (numb keys) = List.range (ded keys).length := by
  unfold numb
  rw [← ded_map, map_idxOf_nodup (nodup_ded keys)]
  exact ded_of_nodup List.nodup_range
theorem numb_len (keys : List α) : (numb keys).length = keys.length := by simp [numb]
theorem numb_get (keys : List α) (i : Nat) (h : i < keys.length) : (numb keys).getD i 0 = (ded keys).idxOf keys[i] := by
  simp [numb, List.getD, h]
theorem numb_eq_iff {keys : List α} {i j : Nat} (hi : i < keys.length) (hj : j < keys.length) :
    (numb keys).getD i 0 = (numb keys).getD j 0 ↔ keys[i] = keys[j] := by
  rw [numb_get _ _ hi, numb_get _ _ hj]
  constructor
  · intro e
    exact idxOf_inj (mem_ded.mpr (List.getElem_mem _)) (mem_ded.mpr (List.getElem_mem _)) e
  · intro e; rw [e]
theorem numb_mem_lt {keys : List α} {v : Nat} (h : v ∈ numb keys) : v < (ded keys).length := by
  unfold numb at h
  obtain ⟨x, hx, rfl⟩ := List.mem_map.mp h
  exact idxOf_lt_of (mem_ded.mpr hx)
theorem numb_surj {keys : List α} {v : Nat} (h : v < (ded keys).length) : v ∈ numb keys := by
  have : v ∈ ded (numb keys) := by rw [ded_numb]; exact List.mem_range.mpr h
  exact mem_ded.mp this
end num

theorem range_prefix {m : Nat} {p : List Nat} (h : p <+: List.range m) : p = List.range p.length := by
  obtain ⟨t, e⟩ := h
  have hl : p.length ≤ m := by
    have := congrArg List.length e
    simp at this; omega
  have h2 : (p ++ t).take p.length = (List.range m).take p.length := by rw [e]
  rw [List.take_left, List.take_range, Nat.min_eq_left hl] at h2
  exact h2
theorem canon_eq {ω : Type} (F G : ω → Nat) (ws : List ω) {m m' : Nat} (hF : ded (ws.map F) = List.range m) (hG : ded (ws.map G) = List.range m')
    (hk : ∀ w ∈ ws, ∀ w' ∈ ws, (F w = F w' ↔ G w = G w')) : ∀ w ∈ ws, F w = G w := by
  suffices q : ∀ (r p : List ω), p.reverse ++ r = ws → ∀ w ∈ p, F w = G w by
    intro w hw
    exact q [] ws.reverse (by simp) w (by simpa using hw)
  intro r p
  induction p generalizing r with
  | nil => intro _ w hw; simp at hw
  | cons x p ih =>
    intro e
    have ih' := ih (x :: r) (by rw [← e]; simp)
    have inws : ∀ w ∈ x :: p, w ∈ ws := fun w hw => by
      rw [← e]; simp at hw ⊢
      rcases hw with h | h
      · exact Or.inr (Or.inl h)
      · exact Or.inl h
    have pre : ∀ (H : ω → Nat), ded (ws.map H) = List.range (ded (ws.map H)).length → ded ((p.reverse ++ [x]).map H) = List.range (ded ((p.reverse ++ [x]).map H)).length ∧ ded (p.reverse.map H) = List.range (ded (p.reverse.map H)).length := by
      intro H hH
      have h1 : (p.reverse ++ [x]).map H <+: ws.map H := by
        rw [← e]; simp only [List.reverse_cons]; exact ⟨r.map H, by rw [List.map_append (l₁ := p.reverse ++ [x])]⟩
      have h2 : p.reverse.map H <+: (p.reverse ++ [x]).map H := by rw [List.map_append]; exact List.prefix_append _ _
      have h3 := ded_prefix h1
      rw [hH] at h3
      have h4 := (ded_prefix h2).trans h3
      exact ⟨range_prefix h3, range_prefix h4⟩
    have f0 := pre F (by rw [hF]; simp)
    have g0 := pre G (by rw [hG]; simp)
    have em : p.reverse.map F = p.reverse.map G := List.map_congr_left fun w hw => ih' w (by simpa using hw)
    have ext : ∀ (H : ω → Nat), ded ((p.reverse ++ [x]).map H) = push (ded (p.reverse.map H)) (H x) := fun H => by
      rw [List.map_append, List.map_singleton, ded_snoc]
    have new : ∀ (H : ω → Nat), ded ((p.reverse ++ [x]).map H) = List.range (ded ((p.reverse ++ [x]).map H)).length → ded (p.reverse.map H) = List.range (ded (p.reverse.map H)).length → ¬ H x ∈ ded (p.reverse.map H) → H x = (ded (p.reverse.map H)).length := by
      intro H h1 h2 hn
      rw [ext H, push_of_not hn] at h1
      have h5 := congrArg List.getLast? h1
      rw [List.getLast?_append] at h5
      simp only [List.getLast?_singleton, Option.some_or, List.length_append, List.length_singleton, List.range_succ, List.getLast?_append, Option.some.injEq] at h5
      exact h5
    intro w hw
    rcases List.mem_cons.mp hw with rfl | h
    · by_cases hin : F w ∈ ded (p.reverse.map F)
      · obtain ⟨w', hw', ew⟩ := List.mem_map.mp (mem_ded.mp hin)
        have hw'' : w' ∈ p := by simpa using hw'
        have k := (hk w' (inws _ (by simp [hw''])) w (inws _ (by simp))).mp ew
        rw [← ew, ih' w' hw'', k]
      · by_cases hin2 : G w ∈ ded (p.reverse.map G)
        · obtain ⟨w', hw', ew⟩ := List.mem_map.mp (mem_ded.mp hin2)
          have hw'' : w' ∈ p := by simpa using hw'
          have k := (hk w' (inws _ (by simp [hw''])) w (inws _ (by simp))).mpr ew
          rw [← ew, ← ih' w' hw'', k]
        · rw [new F f0.1 f0.2 hin, new G g0.1 g0.2 hin2, em]
    · exact ih' w h
end FM
end
section
namespace FM
def Wd (K : Nat) (w : List Nat) : Prop := ∀ k ∈ w, k < K
theorem Wd.nil {K : Nat} : Wd K [] := fun _ h => by simp at h
theorem Wd.app {K : Nat} {p s : List Nat} (hp : Wd K p) (hs : Wd K s) : Wd K (p ++ s) := fun k hk => (List.mem_append.mp hk).elim (hp k) (hs k)
theorem Wd.cons {K k : Nat} {s : List Nat} (hk : k < K) (hs : Wd K s) : Wd K (k :: s) := fun x hx => (List.mem_cons.mp hx).elim (fun e => e ▸ hk) (hs x)
theorem Wd.one {K k : Nat} (hk : k < K) : Wd K [k] := Wd.cons hk Wd.nil
theorem Wd.tail {K k : Nat} {s : List Nat} (h : Wd K (k :: s)) : Wd K s := fun x hx => h x (by simp [hx])
theorem Wd.head {K k : Nat} {s : List Nat} (h : Wd K (k :: s)) : k < K := h k (by simp)
theorem Wd.left {K : Nat} {p s : List Nat} (h : Wd K (p ++ s)) : Wd K p := fun x hx => h x (by simp [hx])
theorem Wd.right {K : Nat} {p s : List Nat} (h : Wd K (p ++ s)) : Wd K s := fun x hx => h x (by simp [hx])
theorem Wd.rev {K : Nat} {p : List Nat} (h : Wd K p) : Wd K p.reverse := fun x hx => h x (by simpa using hx)
section st
variable {α : Type}
def stL (nx : α → Nat → α) (a : α) (w : List Nat) : α := w.foldl nx a
def stR (nx : α → Nat → α) (a : α) (w : List Nat) : α := w.foldr (fun k s => nx s k) a
theorem stL_nil (nx : α → Nat → α) (a : α) : stL nx a [] = a := rfl
theorem stL_cons (nx : α → Nat → α) (a : α) (k : Nat) (w : List Nat) : stL nx a (k :: w) = stL nx (nx a k) w := rfl
theorem stL_app (nx : α → Nat → α) (a : α) (p w : List Nat) : stL nx a (p ++ w) = stL nx (stL nx a p) w := by simp [stL]
theorem stL_snoc (nx : α → Nat → α) (a : α) (p : List Nat) (k : Nat) : stL nx a (p ++ [k]) = nx (stL nx a p) k := by simp [stL]
theorem stR_nil (nx : α → Nat → α) (a : α) : stR nx a [] = a := rfl
theorem stR_cons (nx : α → Nat → α) (a : α) (k : Nat) (w : List Nat) : stR nx a (k :: w) = nx (stR nx a w) k := rfl
theorem stR_app (nx : α → Nat → α) (a : α) (p w : List Nat) : stR nx a (p ++ w) = stR nx (stR nx a w) p := by simp [stR]
theorem stR_rev (nx : α → Nat → α) (a : α) (w : List Nat) : stR nx a w = stL nx a w.reverse := by simp [stR, stL]
end st
def extL (K : Nat) (w : List Nat) : List (List Nat) := (List.range K).map fun k => w ++ [k]
def upL (K : Nat) : Nat → List (List Nat)
  | 0 => [[]]
  | n + 1 => [] :: (upL K n).flatMap (extL K)
theorem mem_upL {K n : Nat} {w : List Nat} : w ∈ upL K n ↔ Wd K w ∧ w.length ≤ n := by
  induction n generalizing w with
  | zero =>
    simp only [upL, List.mem_singleton]
    constructor
    · rintro rfl; exact ⟨Wd.nil, Nat.le_refl _⟩
    · rintro ⟨_, h⟩
      exact List.length_eq_zero_iff.mp (by omega)
  | succ n ih =>
    simp only [upL, List.mem_cons, List.mem_flatMap, extL, List.mem_map, List.mem_range]
    constructor
    · rintro (rfl | ⟨w', h', k, hk, rfl⟩)
      · exact ⟨Wd.nil, Nat.zero_le _⟩
      · obtain ⟨h1, h2⟩ := ih.mp h'
        exact ⟨h1.app (Wd.one hk), by simp; omega⟩
    · rintro ⟨h1, h2⟩
      rcases List.eq_nil_or_concat w with rfl | ⟨w', k, rfl⟩
      · exact .inl rfl
      · rw [List.concat_eq_append] at h1 h2 ⊢
        exact .inr ⟨w', ih.mpr ⟨h1.left, by simp at h2; omega⟩, k, h1.right.head, rfl⟩
def lvR (K : Nat) : Nat → List (List Nat)
  | 0 => [[]]
  | n + 1 => (List.range K).flatMap fun k => (lvR K n).map fun w => k :: w
def upR (K : Nat) : Nat → List (List Nat)
  | 0 => [[]]
  | n + 1 => upR K n ++ lvR K (n + 1)
theorem mem_lvR {K n : Nat} {w : List Nat} : w ∈ lvR K n ↔ Wd K w ∧ w.length = n := by
  induction n generalizing w with
  | zero =>
    simp only [lvR, List.mem_singleton]
    constructor
    · rintro rfl; exact ⟨Wd.nil, rfl⟩
    · rintro ⟨_, h⟩
      exact List.length_eq_zero_iff.mp h
  | succ n ih =>
    simp only [lvR, List.mem_flatMap, List.mem_map, List.mem_range]
    constructor
    · rintro ⟨k, hk, w', h', rfl⟩
      obtain ⟨h1, h2⟩ := ih.mp h'
      exact ⟨h1.cons hk, by simp [h2]⟩
    · rintro ⟨h1, h2⟩
      cases w with
      | nil => simp at h2
      | cons k w => exact ⟨k, h1.head, w, ih.mpr ⟨h1.tail, by simpa using h2⟩, rfl⟩
theorem mem_upR {K n : Nat} {w : List Nat} : w ∈ upR K n ↔ Wd K w ∧ w.length ≤ n := by
  induction n with
  | zero =>
    simp only [upR, List.mem_singleton]
    constructor
    · rintro rfl; exact ⟨Wd.nil, Nat.le_refl _⟩
    · rintro ⟨_, h⟩
      exact List.length_eq_zero_iff.mp (by omega)
  | succ n ih =>
    simp only [upR, List.mem_append, ih, mem_lvR]
    constructor
    · rintro (⟨a, b⟩ | ⟨a, b⟩)
      · exact ⟨a, by omega⟩
      · exact ⟨a, by omega⟩
    · rintro ⟨a, b⟩
      by_cases h : w.length = n + 1
      · exact .inr ⟨a, h⟩
      · exact .inl ⟨a, by omega⟩
theorem upR_prefix {K n m : Nat} (h : n ≤ m) : upR K n <+: upR K m := by
  induction m with
  | zero =>
    have : n = 0 := by omega
    subst this; exact List.prefix_refl _
  | succ m ih =>
    by_cases e : n = m + 1
    · subst e; exact List.prefix_refl _
    · exact (ih (by omega)).trans (List.prefix_append _ _)

section bfs
variable {α : Type} [DecidableEq α]
theorem bound_words {st : List Nat → α} {K : Nat} (l : List α) (h : ∀ s ∈ l, ∃ w, Wd K w ∧ st w = s) : ∃ N, ∀ s ∈ l, ∃ w, Wd K w ∧ w.length ≤ N ∧ st w = s := by
  induction l with
  | nil => exact ⟨0, fun s hs => by simp at hs⟩
  | cons x l ih =>
    obtain ⟨N, hN⟩ := ih fun s hs => h s (by simp [hs])
    obtain ⟨w, hw, e⟩ := h x (by simp)
    refine ⟨N + w.length, fun s hs => ?_⟩
    rcases List.mem_cons.mp hs with rfl | hs
    · exact ⟨w, hw, by omega, e⟩
    · obtain ⟨w', h1, h2, h3⟩ := hN s hs
      exact ⟨w', h1, by omega, h3⟩
/-- the queue's word: what stands in the order, where the first 'at_' have been looked at -/
def QInv (row : α → List α) (a : α) (at_ : Nat) (order : List α) : Prop := order = ded (a :: (order.take at_).flatMap row)
theorem QInv.start (row : α → List α) (a : α) : QInv row a 0 [a] := by
  show [a] = ded (a :: ([] : List α).flatMap row)
  simp [ded, pushAll, push]
theorem QInv.step {row : α → List α} {a s : α} {at_ : Nat} {order : List α} (h : QInv row a at_ order) (hs : order[at_]? = some s) : QInv row a (at_ + 1) (pushAll order (row s)) := by
  unfold QInv
  have hlt : at_ < order.length := (List.getElem?_eq_some_iff.mp hs).1
  obtain ⟨t, e⟩ := prefix_pushAll order (row s)
  have e1 : (pushAll order (row s)).take (at_ + 1) = order.take at_ ++ [s] := by
    rw [← e, List.take_append_of_le_length (by omega), List.take_add_one, hs]; rfl
  rw [e1, List.flatMap_append, ← List.cons_append]
  unfold ded
  rw [pushAll_append]
  have h' : order = pushAll [] (a :: (order.take at_).flatMap row) := h
  rw [← h']; simp
theorem QInv.nodup {row : α → List α} {a : α} {at_ : Nat} {order : List α} (h : QInv row a at_ order) : order.Nodup := by
  unfold QInv at h; rw [h]; exact nodup_ded _
theorem QInv.closed {row : α → List α} {a : α} {at_ : Nat} {order : List α} (h : QInv row a at_ order) : a ∈ order ∧ ∀ i s, i < at_ → order[i]? = some s → ∀ y ∈ row s, y ∈ order := by
  unfold QInv at h
  constructor
  · rw [h, mem_ded]; simp
  · intro i s hi hs y hy
    rw [h, mem_ded]
    refine List.mem_cons_of_mem _ (List.mem_flatMap.mpr ⟨s, ?_, hy⟩)
    refine List.mem_iff_getElem?.mpr ⟨i, ?_⟩
    rw [List.getElem?_take, if_pos hi]; exact hs
theorem canonL {nx : α → Nat → α} {K : Nat} {a : α} {O : List α} (hO : QInv (fun s => (List.range K).map (nx s)) a O.length O) (hr : ∀ s ∈ O, ∃ w, Wd K w ∧ stL nx a w = s) :
    ∃ N, ∀ n, N ≤ n → ded ((upL K n).map (stL nx a)) = O := by
  unfold QInv at hO
  rw [List.take_length] at hO
  have e0 : ded ((upL K 0).map (stL nx a)) = [a] := by simp [upL, stL, ded, pushAll, push]
  have e1 : ∀ n, ded ((upL K (n + 1)).map (stL nx a)) = ded (a :: (ded ((upL K n).map (stL nx a))).flatMap fun s => (List.range K).map (nx s)) := fun n => by
    rw [ded_cons_flat, List.flatMap_map]
    show ded (a :: ((upL K n).flatMap (extL K)).map (stL nx a)) = _
    rw [List.map_flatMap]
    simp only [extL, List.map_map]
    congr 2
    apply congrArg (fun f => (upL K n).flatMap f)
    funext w
    apply List.map_congr_left
    intro k _
    exact stL_snoc nx a w k
  have pre : ∀ n, ded ((upL K n).map (stL nx a)) <+: O := fun n => by
    induction n with
    | zero =>
      rw [e0, hO]
      have : ded [a] <+: ded (a :: O.flatMap fun s => (List.range K).map (nx s)) := ded_prefix ⟨_, rfl⟩
      simpa [ded, pushAll, push] using this
    | succ n ih =>
      rw [e1 n]
      obtain ⟨t, et⟩ := ih
      generalize ded ((upL K n).map (stL nx a)) = D at et
      rw [hO]
      refine ded_prefix ?_
      rw [← et, List.flatMap_append, ← List.cons_append]
      exact ⟨_, rfl⟩
  obtain ⟨N, hN⟩ := bound_words O hr
  refine ⟨N, fun n hn => prefix_eq_of_sub (pre n) (by rw [hO]; exact nodup_ded _) fun s hs => ?_⟩
  obtain ⟨w, h1, h2, h3⟩ := hN s hs
  exact mem_ded.mpr (List.mem_map.mpr ⟨w, mem_upL.mpr ⟨h1, by omega⟩, h3⟩)

/-- at the beginning of a level: b what was found ahead of it, level the new ones -/
structure LInv (nx : α → Nat → α) (K : Nat) (a : α) (n : Nat) (b level : List α) : Prop where
  all : b ++ level = ded ((upR K n).map (stR nx a))
  lev : b ++ level = pushAll b ((lvR K n).map (stR nx a))
  cl : ∀ s ∈ b, ∀ k, k < K → nx s k ∈ b ++ level
theorem LInv.start (nx : α → Nat → α) (K : Nat) (a : α) : LInv nx K a 0 [] [a] := by
  refine ⟨?_, ?_, fun s hs => by simp at hs⟩
  · simp [upR, stR, ded, pushAll, push]
  · simp [lvR, stR, pushAll, push]
/-- what a level finds -/
def levelAll (nx : α → Nat → α) (K : Nat) (level : List α) : List α := (List.range K).flatMap fun k => level.map fun s => nx s k
theorem LInv.step {nx : α → Nat → α} {K : Nat} {a : α} {n : Nat} {b level fr : List α} (h : LInv nx K a n b level)
    (hf : (b ++ level) ++ fr = pushAll (b ++ level) (levelAll nx K level)) : LInv nx K a (n + 1) (b ++ level) fr := by
  have hl : level = fresh b ((lvR K n).map (stR nx a)) := by
    have := h.lev
    rw [pushAll_fresh] at this
    exact List.append_cancel_left this
  have e : pushAll (b ++ level) (levelAll nx K level) = pushAll (b ++ level) ((lvR K (n + 1)).map (stR nx a)) := by
    have q : ∀ (ks : List Nat), (∀ k ∈ ks, k < K) → ∀ acc : List α, (∀ x ∈ b ++ level, x ∈ acc) →
        pushAll acc (ks.flatMap fun k => level.map fun s => nx s k) = pushAll acc ((ks.flatMap fun k => (lvR K n).map fun w => k :: w).map (stR nx a)) := by
      intro ks
      induction ks with
      | nil => intro _ acc _; rfl
      | cons k ks ih =>
        intro hk acc ha
        rw [List.flatMap_cons, List.flatMap_cons, List.map_append, pushAll_append, pushAll_append]
        have e1 : pushAll acc (level.map fun s => nx s k) = pushAll acc (((lvR K n).map fun w => k :: w).map (stR nx a)) := by
          have z := pushAll_map (fun s => nx s k) b ((lvR K n).map (stR nx a)) acc fun s hs => ha _ (h.cl s hs k (hk k (by simp)))
          rw [← hl] at z
          rw [z, List.map_map, List.map_map]
          congr 1
        rw [e1]
        refine ih (fun k' hk' => hk k' (by simp [hk'])) _ fun x hx => ?_
        rw [mem_pushAll]
        exact .inl (ha x hx)
    exact q (List.range K) (fun k hk => List.mem_range.mp hk) _ fun x hx => hx
  refine ⟨?_, ?_, fun s hs k hk => ?_⟩
  · rw [hf, e]
    show _ = ded ((upR K n ++ lvR K (n + 1)).map (stR nx a))
    rw [List.map_append]
    unfold ded
    rw [pushAll_append]
    have := h.all
    unfold ded at this
    rw [← this]
  · rw [hf, e]
  · rw [hf, mem_pushAll]
    rcases List.mem_append.mp hs with h1 | h1
    · exact .inl (h.cl s h1 k hk)
    · exact .inr (List.mem_flatMap.mpr ⟨k, List.mem_range.mpr hk, List.mem_map.mpr ⟨s, h1, rfl⟩⟩)
theorem LInv.nodup {nx : α → Nat → α} {K : Nat} {a : α} {n : Nat} {b level : List α} (h : LInv nx K a n b level) : (b ++ level).Nodup := by
  rw [h.all]; exact nodup_ded _
theorem closedR {nx : α → Nat → α} {K : Nat} {a : α} {O : List α} (ha : a ∈ O) (hc : ∀ s ∈ O, ∀ k, k < K → nx s k ∈ O) {w : List Nat} (hw : Wd K w) : stR nx a w ∈ O := by
  induction w with
  | nil => exact ha
  | cons k w ih => exact hc _ (ih hw.tail) k hw.head
theorem closedL {nx : α → Nat → α} {K : Nat} {a : α} {O : List α} (ha : a ∈ O) (hc : ∀ s ∈ O, ∀ k, k < K → nx s k ∈ O) {w : List Nat} (hw : Wd K w) : stL nx a w ∈ O := by
  have := closedR ha hc hw.rev
  rwa [stR_rev, List.reverse_reverse] at this
theorem LInv.mem_start {nx : α → Nat → α} {K : Nat} {a : α} {n : Nat} {b level : List α} (h : LInv nx K a n b level) : a ∈ b ++ level := by
  rw [h.all, mem_ded]
  exact List.mem_map.mpr ⟨[], mem_upR.mpr ⟨Wd.nil, Nat.zero_le _⟩, rfl⟩
theorem canonR {nx : α → Nat → α} {K : Nat} {a : α} {n : Nat} {O : List α} (h : LInv nx K a n O []) : ∃ N, ∀ m, N ≤ m → ded ((upR K m).map (stR nx a)) = O := by
  have hO : O = ded ((upR K n).map (stR nx a)) := by simpa using h.all
  have hc : ∀ s ∈ O, ∀ k, k < K → nx s k ∈ O := by simpa using h.cl
  have ha : a ∈ O := by simpa using h.mem_start
  refine ⟨n, fun m hm => ?_⟩
  have p : O <+: ded ((upR K m).map (stR nx a)) := by
    rw [hO]
    refine ded_prefix ?_
    obtain ⟨t, e⟩ := upR_prefix (K := K) hm
    rw [← e, List.map_append]; exact ⟨_, rfl⟩
  refine (prefix_eq_of_sub p (nodup_ded _) fun x hx => ?_).symm
  obtain ⟨w, hw, rfl⟩ := List.mem_map.mp (mem_ded.mp hx)
  exact closedR ha hc (mem_upR.mp hw).1
end bfs
theorem nodup_sub_length {α : Type} [DecidableEq α] {l r : List α} (h : l.Nodup) (hs : ∀ x ∈ l, x ∈ r) : l.length ≤ r.length := by
  induction l generalizing r with
  | nil => exact Nat.zero_le _
  | cons x l ih =>
    obtain ⟨hx, hl⟩ := List.nodup_cons.mp h
    have hxr := hs x (by simp)
    have := ih (r := r.erase x) hl fun y hy => (List.mem_erase_of_ne (fun (e : y = x) => hx (by rw [← e]; exact hy))).mpr (hs y (by simp [hy]))
    rw [List.length_erase_of_mem hxr] at this
    have pos : 0 < r.length := List.length_pos_of_mem hxr
    simp only [List.length_cons]; omega
theorem nodup_lt_length {l : List Nat} {n : Nat} (h : l.Nodup) (hs : ∀ x ∈ l, x < n) : l.length ≤ n := by
  have := nodup_sub_length (r := List.range n) h fun x hx => List.mem_range.mpr (hs x hx)
  simpa using this
end FM
end
section
namespace FM
def at2 (rows : List (List Nat)) (i k : Nat) : Nat := (rows.getD i []).getD k 0
structure WFr (rows : List (List Nat)) (n K : Nat) : Prop where
  len : rows.length = n
  row : ∀ r ∈ rows, r.length = K ∧ ∀ x ∈ r, x < n
theorem WFr.getRow {rows : List (List Nat)} {n K i : Nat} (h : WFr rows n K) (hi : i < n) : (rows.getD i []).length = K ∧ ∀ x ∈ rows.getD i [], x < n := by
  have hl : i < rows.length := by rw [h.len]; exact hi
  have e : rows.getD i [] = rows[i] := by simp [List.getD, hl]
  rw [e]
  exact h.row _ (List.getElem_mem hl)
theorem WFr.lt {rows : List (List Nat)} {n K i k : Nat} (h : WFr rows n K) (hi : i < n) (hk : k < K) : at2 rows i k < n := by
  obtain ⟨h1, h2⟩ := h.getRow hi
  have hl : k < (rows.getD i []).length := by rw [h1]; exact hk
  have e : at2 rows i k = (rows.getD i [])[k] := by
    unfold at2; rw [List.getD_eq_getElem?_getD, List.getElem?_eq_getElem hl]; rfl
  rw [e]
  exact h2 _ (List.getElem_mem hl)
theorem row_map {rows : List (List Nat)} {n K i : Nat} (h : WFr rows n K) (hi : i < n) : (List.range K).map (at2 rows i) = rows.getD i [] := by
  obtain ⟨h1, _⟩ := h.getRow hi
  apply List.ext_getElem
  · rw [List.length_map, List.length_range, h1]
  · intro k a b
    simp only [List.getElem_map, List.getElem_range]
    unfold at2; rw [List.getD_eq_getElem?_getD, List.getElem?_eq_getElem b]; rfl
theorem rows_ext {rows rows' : List (List Nat)} {n K : Nat} (h : WFr rows n K) (h' : WFr rows' n K) (e : ∀ i, i < n → ∀ k, k < K → at2 rows i k = at2 rows' i k) : rows = rows' := by
  apply List.ext_getElem
  · rw [h.len, h'.len]
  · intro i a b
    have hi : i < n := by rw [← h.len]; exact a
    have q1 : rows.getD i [] = rows[i] := by simp [List.getD, a]
    have q2 : rows'.getD i [] = rows'[i] := by simp [List.getD, b]
    rw [← q1, ← q2, ← row_map h hi, ← row_map h' hi]
    exact List.map_congr_left fun k hk => e i hi k (List.mem_range.mp hk)
theorem WFr.stL {rows : List (List Nat)} {n K i : Nat} (h : WFr rows n K) (hi : i < n) {w : List Nat} (hw : Wd K w) : stL (at2 rows) i w < n := by
  induction w generalizing i with
  | nil => exact hi
  | cons k w ih => exact ih (h.lt hi hw.head) hw.tail
theorem WFr.stR {rows : List (List Nat)} {n K i : Nat} (h : WFr rows n K) (hi : i < n) {w : List Nat} (hw : Wd K w) : stR (at2 rows) i w < n := by
  rw [stR_rev]; exact h.stL hi hw.rev
/-- what is written between a left and a right state -/
def outW (nl nr : Nat → Nat → Nat) (tb : Nat → Nat → Nat → Nat) (i j : Nat) : List Nat → List Nat
  | [] => []
  | k :: s => tb i (stR nr j s) k :: outW nl nr tb (nl i k) j s
section out
variable {nl nr : Nat → Nat → Nat} {tb : Nat → Nat → Nat → Nat}
theorem outW_len {i j : Nat} (w : List Nat) : (outW nl nr tb i j w).length = w.length := by
  induction w generalizing i with
  | nil => rfl
  | cons k s ih => simp [outW, ih]
theorem outW_app {i j : Nat} (p s : List Nat) : outW nl nr tb i j (p ++ s) = outW nl nr tb i (stR nr j s) p ++ outW nl nr tb (stL nl i p) j s := by
  induction p generalizing i with
  | nil => rfl
  | cons k p ih => simp [outW, ih, stL_cons, stR_app]
theorem outW_drop {i j : Nat} (p s : List Nat) : (outW nl nr tb i j (p ++ s)).drop p.length = outW nl nr tb (stL nl i p) j s := by
  rw [outW_app, List.drop_append, outW_len, Nat.sub_self, List.drop_zero, List.drop_of_length_le (by rw [outW_len]; exact Nat.le_refl _), List.nil_append]
theorem outW_take {i j : Nat} (p s : List Nat) : (outW nl nr tb i j (p ++ s)).take p.length = outW nl nr tb i (stR nr j s) p := by
  rw [outW_app, List.take_append, outW_len, Nat.sub_self, List.take_zero, List.append_nil, List.take_of_length_le (by rw [outW_len]; exact Nat.le_refl _)]
/-- the letter at a place -/
theorem outW_at {i j k : Nat} (p s : List Nat) : (outW nl nr tb i j (p ++ k :: s))[p.length]? = some (tb (stL nl i p) (stR nr j s) k) := by
  have h := outW_drop (nl := nl) (nr := nr) (tb := tb) (i := i) (j := j) p (k :: s)
  have e : (outW nl nr tb i j (p ++ k :: s))[p.length]? = ((outW nl nr tb i j (p ++ k :: s)).drop p.length)[0]? := by
    rw [List.getElem?_drop]; rfl
  rw [e, h]; rfl
end out
/-- alike left states: the same is written behind them -/
def alL (K : Nat) (nl nr : Nat → Nat → Nat) (tb : Nat → Nat → Nat → Nat) (i i' : Nat) : Prop := ∀ s, Wd K s → outW nl nr tb i 0 s = outW nl nr tb i' 0 s
def alR (K : Nat) (nl nr : Nat → Nat → Nat) (tb : Nat → Nat → Nat → Nat) (j j' : Nat) : Prop := ∀ p, Wd K p → outW nl nr tb 0 j p = outW nl nr tb 0 j' p
section alike
variable {K : Nat} {nl nr : Nat → Nat → Nat} {tb : Nat → Nat → Nat → Nat}
theorem alL.next {i i' k : Nat} (h : alL K nl nr tb i i') (hk : k < K) : alL K nl nr tb (nl i k) (nl i' k) := fun s hs => by
  have := h (k :: s) (hs.cons hk)
  simp only [outW, List.cons.injEq] at this
  exact this.2
theorem alL.tab {i i' k : Nat} (h : alL K nl nr tb i i') {s : List Nat} (hs : Wd K s) (hk : k < K) : tb i (stR nr 0 s) k = tb i' (stR nr 0 s) k := by
  have := h (k :: s) (hs.cons hk)
  simp only [outW, List.cons.injEq] at this
  exact this.1
theorem alR.next {j j' k : Nat} (h : alR K nl nr tb j j') (hk : k < K) : alR K nl nr tb (nr j k) (nr j' k) := fun p hp => by
  have := congrArg (List.take p.length) (h (p ++ [k]) (hp.app (Wd.one hk)))
  rw [outW_take, outW_take] at this
  exact this
theorem alR.tab {j j' k : Nat} (h : alR K nl nr tb j j') {p : List Nat} (hp : Wd K p) (hk : k < K) : tb (stL nl 0 p) j k = tb (stL nl 0 p) j' k := by
  have := congrArg (List.drop p.length) (h (p ++ [k]) (hp.app (Wd.one hk)))
  rw [outW_drop, outW_drop] at this
  simpa [outW, stR] using this
end alike
/-- the same function -/
def FSame (K : Nat) (nl nr : Nat → Nat → Nat) (tb : Nat → Nat → Nat → Nat) (nl' nr' : Nat → Nat → Nat) (tb' : Nat → Nat → Nat → Nat) : Prop :=
  ∀ w, Wd K w → outW nl nr tb 0 0 w = outW nl' nr' tb' 0 0 w
section same
variable {K : Nat} {nl nr nl' nr' : Nat → Nat → Nat} {tb tb' : Nat → Nat → Nat → Nat}
theorem FSame.symm (h : FSame K nl nr tb nl' nr' tb') : FSame K nl' nr' tb' nl nr tb := fun w hw => (h w hw).symm
theorem FSame.alL (h : FSame K nl nr tb nl' nr' tb') {p p' : List Nat} (hp : Wd K p) (hp' : Wd K p') : alL K nl nr tb (stL nl 0 p) (stL nl 0 p') ↔ alL K nl' nr' tb' (stL nl' 0 p) (stL nl' 0 p') := by
  have e : ∀ p s, Wd K p → Wd K s → outW nl nr tb (stL nl 0 p) 0 s = outW nl' nr' tb' (stL nl' 0 p) 0 s := fun p s hp hs => by
    rw [← outW_drop, ← outW_drop, h _ (hp.app hs)]
  constructor
  · intro q s hs; rw [← e p s hp hs, ← e p' s hp' hs]; exact q s hs
  · intro q s hs; rw [e p s hp hs, e p' s hp' hs]; exact q s hs
theorem FSame.alR (h : FSame K nl nr tb nl' nr' tb') {p p' : List Nat} (hp : Wd K p) (hp' : Wd K p') : alR K nl nr tb (stR nr 0 p) (stR nr 0 p') ↔ alR K nl' nr' tb' (stR nr' 0 p) (stR nr' 0 p') := by
  have e : ∀ p s, Wd K p → Wd K s → outW nl nr tb 0 (stR nr 0 p) s = outW nl' nr' tb' 0 (stR nr' 0 p) s := fun p s hp hs => by
    rw [← outW_take, ← outW_take, h _ (hs.app hp)]
  constructor
  · intro q s hs; rw [← e p s hp hs, ← e p' s hp' hs]; exact q s hs
  · intro q s hs; rw [e p s hp hs, e p' s hp' hs]; exact q s hs
theorem FSame.tab (h : FSame K nl nr tb nl' nr' tb') {p s : List Nat} {k : Nat} (hp : Wd K p) (hs : Wd K s) (hk : k < K) : tb (stL nl 0 p) (stR nr 0 s) k = tb' (stL nl' 0 p) (stR nr' 0 s) k := by
  have a := outW_at (nl := nl) (nr := nr) (tb := tb) (i := 0) (j := 0) (k := k) p s
  have b := outW_at (nl := nl') (nr := nr') (tb := tb') (i := 0) (j := 0) (k := k) p s
  rw [h _ (hp.app (hs.cons hk)), b] at a
  exact (Option.some.inj a).symm
end same

structure Side (K : Nat) (up : Nat → List (List Nat)) (ex : List Nat → Nat → List Nat) (al : List Nat → List Nat → Prop) (NX : List (List Nat)) (cl : List Nat → Nat) : Prop where
  wf : WFr NX NX.length K
  zero : cl [] = 0
  ker : ∀ p p', Wd K p → Wd K p' → (cl p = cl p' ↔ al p p')
  canon : ∃ N, ∀ n, N ≤ n → ded ((up n).map cl) = List.range NX.length
  step : ∀ p k, Wd K p → k < K → cl (ex p k) = at2 NX (cl p) k
section side
variable {K : Nat} {up : Nat → List (List Nat)} {ex : List Nat → Nat → List Nat} {al al' : List Nat → List Nat → Prop} {NX NX' : List (List Nat)} {cl cl' : List Nat → Nat}
theorem Side.lt (s : Side K up ex al NX cl) (hup : ∀ n w, w ∈ up n ↔ Wd K w ∧ w.length ≤ n) {p : List Nat} (hp : Wd K p) : cl p < NX.length := by
  obtain ⟨N, hN⟩ := s.canon
  have h1 := hN (N + p.length) (by omega)
  have h2 : cl p ∈ ded ((up (N + p.length)).map cl) := mem_ded.mpr (List.mem_map.mpr ⟨p, (hup _ _).mpr ⟨hp, by omega⟩, rfl⟩)
  rw [h1] at h2
  exact List.mem_range.mp h2
theorem Side.surj (s : Side K up ex al NX cl) (hup : ∀ n w, w ∈ up n ↔ Wd K w ∧ w.length ≤ n) {c : Nat} (hc : c < NX.length) : ∃ p, Wd K p ∧ cl p = c := by
  obtain ⟨N, hN⟩ := s.canon
  have h1 := hN N (Nat.le_refl _)
  have h2 : c ∈ ded ((up N).map cl) := by rw [h1]; exact List.mem_range.mpr hc
  obtain ⟨p, hp, e⟩ := List.mem_map.mp (mem_ded.mp h2)
  exact ⟨p, ((hup _ _).mp hp).1, e⟩
theorem Side.uniq (s : Side K up ex al NX cl) (s' : Side K up ex al' NX' cl') (hup : ∀ n w, w ∈ up n ↔ Wd K w ∧ w.length ≤ n) (hex : ∀ p k, Wd K p → k < K → Wd K (ex p k)) (hal : ∀ p p', Wd K p → Wd K p' → (al p p' ↔ al' p p')) :
    (∀ p, Wd K p → cl p = cl' p) ∧ NX = NX' := by
  obtain ⟨N, hN⟩ := s.canon
  obtain ⟨N', hN'⟩ := s'.canon
  have e1 : ∀ p, Wd K p → cl p = cl' p := fun p hp =>
    canon_eq cl cl' (up (N + N' + p.length)) (hN _ (by omega)) (hN' _ (by omega)) (fun w hw w' hw' => by
      have a := ((hup _ _).mp hw).1
      have b := ((hup _ _).mp hw').1
      rw [s.ker _ _ a b, s'.ker _ _ a b]; exact hal _ _ a b) p ((hup _ _).mpr ⟨hp, by omega⟩)
  have el : NX.length = NX'.length := by
    have a := hN (N + N') (by omega)
    have b := hN' (N + N') (by omega)
    have c : (up (N + N')).map cl = (up (N + N')).map cl' := List.map_congr_left fun w hw => e1 w ((hup _ _).mp hw).1
    rw [c, b] at a
    have := congrArg List.length a
    simpa using this.symm
  refine ⟨e1, rows_ext s.wf (by rw [el]; exact s'.wf) fun i hi k hk => ?_⟩
  obtain ⟨p, hp, e⟩ := s.surj hup hi
  have a := s.step p k hp hk
  have b := s'.step p k hp hk
  rw [← e1 p hp, e] at b
  rw [e] at a
  rw [← a, ← b]
  exact e1 _ (hex p k hp hk)
end side
end FM
end
section
namespace FM
section part
variable {μ : Type} [DecidableEq μ]
/-- the keys of a round -/
def keysOf (rows : List (List Nat)) (parts : List Nat) : List (Nat × List Nat) := rows.zipIdx.map fun p => (parts.getD p.2 0, p.1.map fun x => parts.getD x 0)
/-- what the rounds keep: parts tells apart no alike ones, and tells the marks apart -/
structure PInv (K : Nat) (rows : List (List Nat)) (marks : List μ) (parts : List Nat) : Prop where
  len : parts.length = marks.length
  rng : ∃ m, ded parts = List.range m
  fine : ∀ i j, i < marks.length → j < marks.length → parts.getD i 0 = parts.getD j 0 → marks[i]? = marks[j]?
  coarse : ∀ E : Nat → Nat → Prop, (∀ i j, i < marks.length → j < marks.length → E i j → marks[i]? = marks[j]? ∧ ∀ k, k < K → E (at2 rows i k) (at2 rows j k)) →
    ∀ i j, i < marks.length → j < marks.length → E i j → parts.getD i 0 = parts.getD j 0
theorem PInv.start {K : Nat} {rows : List (List Nat)} {marks : List μ} : PInv K rows marks (numb marks) where
  len := numb_len _
  rng := ⟨_, ded_numb _⟩
  fine := fun i j hi hj e => by
    have := (numb_eq_iff hi hj).mp e
    rw [List.getElem?_eq_getElem hi, List.getElem?_eq_getElem hj, this]
  coarse := fun E hE i j hi hj e => by
    refine (numb_eq_iff hi hj).mpr ?_
    have := (hE i j hi hj e).1
    rw [List.getElem?_eq_getElem hi, List.getElem?_eq_getElem hj] at this
    exact Option.some.inj this
theorem keysOf_len (rows : List (List Nat)) (parts : List Nat) : (keysOf rows parts).length = rows.length := by simp [keysOf]
theorem keysOf_get {rows : List (List Nat)} {parts : List Nat} {i : Nat} (h : i < (keysOf rows parts).length) : (keysOf rows parts)[i] = (parts.getD i 0, (rows.getD i []).map fun x => parts.getD x 0) := by
  have hi : i < rows.length := by rw [keysOf_len] at h; exact h
  simp [keysOf, List.getD, hi]
theorem PInv.next {K : Nat} {rows : List (List Nat)} {marks : List μ} {parts : List Nat} (h : PInv K rows marks parts) (hw : WFr rows marks.length K) : PInv K rows marks (numb (keysOf rows parts)) where
  len := by rw [numb_len, keysOf_len, hw.len]
  rng := ⟨_, ded_numb _⟩
  fine := fun i j hi hj e => by
    have hi' : i < (keysOf rows parts).length := by rw [keysOf_len, hw.len]; exact hi
    have hj' : j < (keysOf rows parts).length := by rw [keysOf_len, hw.len]; exact hj
    have := (numb_eq_iff hi' hj').mp e
    rw [keysOf_get, keysOf_get] at this
    exact h.fine i j hi hj (Prod.mk.inj this).1
  coarse := fun E hE i j hi hj e => by
    have hi' : i < (keysOf rows parts).length := by rw [keysOf_len, hw.len]; exact hi
    have hj' : j < (keysOf rows parts).length := by rw [keysOf_len, hw.len]; exact hj
    refine (numb_eq_iff hi' hj').mpr ?_
    rw [keysOf_get, keysOf_get, h.coarse E hE i j hi hj e, ← row_map hw hi, ← row_map hw hj, List.map_map, List.map_map]
    refine Prod.ext rfl (List.map_congr_left fun k hk => ?_)
    have hk' := List.mem_range.mp hk
    exact h.coarse E hE _ _ (hw.lt hi hk') (hw.lt hj hk') ((hE i j hi hj e).2 k hk')
theorem keysOf_fst {rows : List (List Nat)} {parts : List Nat} (h : rows.length = parts.length) : (keysOf rows parts).map (·.1) = parts := by
  apply List.ext_getElem
  · simp [keysOf_len, h]
  · intro i a b
    have a' : i < (keysOf rows parts).length := by simpa using a
    rw [List.getElem_map, keysOf_get a']
    simp [List.getD, b]
/-- the numbers do not get fewer -/
theorem ded_keys_le {rows : List (List Nat)} {parts : List Nat} (h : rows.length = parts.length) : (ded parts).length ≤ (ded (keysOf rows parts)).length := by
  have e := ded_map (fun p : Nat × List Nat => p.1) (keysOf rows parts)
  rw [keysOf_fst h] at e
  rw [← e]
  exact Nat.le_trans (ded_len_le _) (by simp)
/-- a round that makes no more classes changes none -/
theorem stable_of {rows : List (List Nat)} {parts : List Nat} (h : rows.length = parts.length) (e : (ded parts).length = (ded (keysOf rows parts)).length) {i j : Nat} (hi : i < parts.length) (hj : j < parts.length)
    (q : (numb (keysOf rows parts)).getD i 0 = (numb (keysOf rows parts)).getD j 0) {x y : Nat} :
    ∀ p p' : Nat × List Nat, p ∈ keysOf rows parts → p' ∈ keysOf rows parts → p.1 = p'.1 → p = p' := by
  intro p p' hp hp' ep
  have e2 := ded_map (fun p : Nat × List Nat => p.1) (keysOf rows parts)
  rw [keysOf_fst h] at e2
  have nd : ((ded (keysOf rows parts)).map (fun p : Nat × List Nat => p.1)).Nodup := nodup_of_ded_len (by rw [e2, e]; simp)
  have a := mem_ded.mpr hp
  have b := mem_ded.mpr hp'
  obtain ⟨m, hm, em⟩ := List.getElem_of_mem a
  obtain ⟨m', hm', em'⟩ := List.getElem_of_mem b
  have hmm : m = m' := by
    refine (List.getElem_inj (xs := (ded (keysOf rows parts)).map (fun p : Nat × List Nat => p.1)) (h₀ := by simpa using hm) (h₁ := by simpa using hm') nd).mp ?_
    rw [List.getElem_map, List.getElem_map, em, em', ep]
  subst hmm
  rw [← em, ← em']
/-- at the end: the parts are stable -/
theorem PInv.stable {K : Nat} {rows : List (List Nat)} {marks : List μ} {parts : List Nat} (h : PInv K rows marks parts) (hw : WFr rows marks.length K)
    (e : (ded parts).length = (ded (keysOf rows parts)).length) {i j k : Nat} (hi : i < marks.length) (hj : j < marks.length) (hk : k < K)
    (q : (numb (keysOf rows parts)).getD i 0 = (numb (keysOf rows parts)).getD j 0) :
    (numb (keysOf rows parts)).getD (at2 rows i k) 0 = (numb (keysOf rows parts)).getD (at2 rows j k) 0 := by
  have hl : rows.length = parts.length := by rw [h.len, hw.len]
  have lt : ∀ {i}, i < marks.length → i < (keysOf rows parts).length := fun z => by rw [keysOf_len, hw.len]; exact z
  have q1 := (numb_eq_iff (lt hi) (lt hj)).mp q
  refine (numb_eq_iff (lt (hw.lt hi hk)) (lt (hw.lt hj hk))).mpr ?_
  refine stable_of hl e (i := i) (j := j) (by rw [h.len]; exact hi) (by rw [h.len]; exact hj) q (x := 0) (y := 0) _ _ (List.getElem_mem _) (List.getElem_mem _) ?_
  rw [keysOf_get, keysOf_get] at q1 ⊢
  have q2 := (Prod.mk.inj q1).2
  rw [← row_map hw hi, ← row_map hw hj, List.map_map, List.map_map] at q2
  exact List.map_inj_left.mp q2 k (List.mem_range.mpr hk)
/-- what the rounds end with -/
structure Parts (K : Nat) (rows : List (List Nat)) (marks : List μ) (parts : List Nat) : Prop extends PInv K rows marks parts where
  nx : ∀ i j k, i < marks.length → j < marks.length → k < K → parts.getD i 0 = parts.getD j 0 → parts.getD (at2 rows i k) 0 = parts.getD (at2 rows j k) 0
theorem PInv.done {K : Nat} {rows : List (List Nat)} {marks : List μ} {parts : List Nat} (h : PInv K rows marks parts) (hw : WFr rows marks.length K)
    (e : (ded parts).length = (ded (keysOf rows parts)).length) : Parts K rows marks (numb (keysOf rows parts)) where
  toPInv := h.next hw
  nx := fun i j k hi hj hk q => h.stable hw e hi hj hk q
/-- the chosen: the first state of each class -/
def mcount (parts : List Nat) : Nat := (ded parts).length
def firstsOf (parts : List Nat) : List Nat := (List.range (mcount parts)).map fun c => parts.idxOf c
def chosenRows (rows : List (List Nat)) (parts : List Nat) : List (List Nat) := (firstsOf parts).map fun s => (rows.getD s []).map fun x => parts.getD x 0
theorem Parts.lt {K : Nat} {rows : List (List Nat)} {marks : List μ} {parts : List Nat} (h : PInv K rows marks parts) {i : Nat} (hi : i < marks.length) : parts.getD i 0 < mcount parts := by
  obtain ⟨m, hm⟩ := h.rng
  have hl : i < parts.length := by rw [h.len]; exact hi
  have e : parts.getD i 0 = parts[i] := by simp [List.getD, hl]
  have : parts[i] ∈ ded parts := mem_ded.mpr (List.getElem_mem hl)
  rw [e]
  unfold mcount
  rw [hm] at this ⊢
  simpa using this
theorem Parts.first {K : Nat} {rows : List (List Nat)} {marks : List μ} {parts : List Nat} (h : PInv K rows marks parts) {c : Nat} (hc : c < mcount parts) : parts.idxOf c < marks.length ∧ parts.getD (parts.idxOf c) 0 = c := by
  obtain ⟨m, hm⟩ := h.rng
  have hmem : c ∈ parts := by
    have : c ∈ ded parts := by
      unfold mcount at hc; rw [hm] at hc ⊢
      simpa using hc
    exact mem_ded.mp this
  have hl := idxOf_lt_of hmem
  refine ⟨by rw [← h.len]; exact hl, ?_⟩
  simp [List.getD, hl]
theorem firstsOf_len (parts : List Nat) : (firstsOf parts).length = mcount parts := by simp [firstsOf]
theorem firstsOf_get {parts : List Nat} {c : Nat} (hc : c < mcount parts) : (firstsOf parts).getD c 0 = parts.idxOf c := by simp [firstsOf, List.getD, hc]
theorem chosen_len (rows : List (List Nat)) (parts : List Nat) : (chosenRows rows parts).length = mcount parts := by simp [chosenRows, firstsOf]
theorem Parts.chosen {K : Nat} {rows : List (List Nat)} {marks : List μ} {parts : List Nat} (h : Parts K rows marks parts) (hw : WFr rows marks.length K) : WFr (chosenRows rows parts) (mcount parts) K ∧
    ∀ i k, i < marks.length → k < K → at2 (chosenRows rows parts) (parts.getD i 0) k = parts.getD (at2 rows i k) 0 := by
  constructor
  · refine ⟨chosen_len _ _, fun r hr => ?_⟩
    unfold chosenRows firstsOf at hr
    simp only [List.map_map, List.mem_map, List.mem_range, Function.comp] at hr
    obtain ⟨c, hc, rfl⟩ := hr
    obtain ⟨f1, f2⟩ := Parts.first h.toPInv hc
    obtain ⟨g1, g2⟩ := hw.getRow f1
    refine ⟨by simpa using g1, fun x hx => ?_⟩
    obtain ⟨y, hy, rfl⟩ := List.mem_map.mp hx
    exact Parts.lt h.toPInv (g2 y hy)
  · intro i k hi hk
    have hc := Parts.lt h.toPInv hi
    obtain ⟨f1, f2⟩ := Parts.first h.toPInv hc
    have e1 : (chosenRows rows parts).getD (parts.getD i 0) [] = (rows.getD (parts.idxOf (parts.getD i 0)) []).map fun x => parts.getD x 0 := by
      unfold chosenRows firstsOf
      rw [List.map_map, List.getD_eq_getElem?_getD, List.getElem?_map, List.getElem?_range hc]; rfl
    have e2 : at2 (chosenRows rows parts) (parts.getD i 0) k = parts.getD (at2 rows (parts.idxOf (parts.getD i 0)) k) 0 := by
      show ((chosenRows rows parts).getD (parts.getD i 0) []).getD k 0 = _
      rw [e1]
      obtain ⟨g1, g2⟩ := hw.getRow f1
      have hk' : k < (rows.getD (parts.idxOf (parts.getD i 0)) []).length := by rw [g1]; exact hk
      unfold at2
      rw [List.getD_eq_getElem?_getD, List.getElem?_map, List.getElem?_eq_getElem hk', List.getD_eq_getElem?_getD (l := rows.getD (parts.idxOf (parts.getD i 0)) []), List.getElem?_eq_getElem hk']; rfl
    rw [e2]
    exact h.nx _ _ k f1 hi hk f2
end part
end FM
end
section
namespace FM
theorem getD_mem {α : Type} {l : List α} {i : Nat} {d : α} (h : i < l.length) : l.getD i d ∈ l := by
  have e : l.getD i d = l[i] := by simp [List.getD, h]
  rw [e]; exact List.getElem_mem h
theorem getD_idxOf {α : Type} [DecidableEq α] {l : List α} {x d : α} (h : x ∈ l) : l.getD (l.idxOf x) d = x := by
  have hl := idxOf_lt_of h
  simp [List.getD, hl]
theorem idxOf_getD {α : Type} [DecidableEq α] {l : List α} {i : Nat} {d : α} (hn : l.Nodup) (h : i < l.length) : l.idxOf (l.getD i d) = i := by
  have e : l.getD i d = l[i] := by simp [List.getD, h]
  rw [e]; exact List.Nodup.idxOf_getElem hn i _
/-- the states of an order alone -/
def keptRows (rows : List (List Nat)) (O : List Nat) : List (List Nat) := O.map fun s => (rows.getD s []).map fun x => O.idxOf x
/-- the states that words reach, in the order of their first words -/
structure Ord (K : Nat) (rows : List (List Nat)) (up : Nat → List (List Nat)) (ex : List Nat → Nat → List Nat) (st : List Nat → Nat) (O : List Nat) : Prop where
  nodup : O.Nodup
  canon : ∃ N, ∀ n, N ≤ n → ded ((up n).map st) = O
  zero : st [] = 0
  first : O.idxOf 0 = 0
  step : ∀ w k, st (ex w k) = at2 rows (st w) k
  hup : ∀ n w, w ∈ up n ↔ Wd K w ∧ w.length ≤ n
  hex : ∀ w k, Wd K w → k < K → Wd K (ex w k)
  wf : WFr rows rows.length K
  pos : 0 < rows.length
section ord
variable {K : Nat} {rows : List (List Nat)} {up : Nat → List (List Nat)} {ex : List Nat → Nat → List Nat} {st : List Nat → Nat} {O : List Nat}
theorem Ord.mem (h : Ord K rows up ex st O) {w : List Nat} (hw : Wd K w) : st w ∈ O := by
  obtain ⟨N, hN⟩ := h.canon
  rw [← hN (N + w.length) (by omega), mem_ded]
  exact List.mem_map.mpr ⟨w, (h.hup _ _).mpr ⟨hw, by omega⟩, rfl⟩
theorem Ord.reach (h : Ord K rows up ex st O) {s : Nat} (hs : s ∈ O) : ∃ w, Wd K w ∧ st w = s := by
  obtain ⟨N, hN⟩ := h.canon
  rw [← hN N (Nat.le_refl _), mem_ded] at hs
  obtain ⟨w, hw, e⟩ := List.mem_map.mp hs
  exact ⟨w, ((h.hup _ _).mp hw).1, e⟩
theorem Ord.closed (h : Ord K rows up ex st O) {s k : Nat} (hs : s ∈ O) (hk : k < K) : at2 rows s k ∈ O := by
  obtain ⟨w, hw, rfl⟩ := h.reach hs
  rw [← h.step]
  exact h.mem (h.hex w k hw hk)
theorem Ord.kept (h : Ord K rows up ex st O) (hlt : ∀ s ∈ O, s < rows.length) : WFr (keptRows rows O) O.length K ∧ ∀ i k, i < O.length → k < K → at2 (keptRows rows O) i k = O.idxOf (at2 rows (O.getD i 0) k) := by
  constructor
  · refine ⟨by simp [keptRows], fun r hr => ?_⟩
    obtain ⟨s, hs, rfl⟩ := List.mem_map.mp hr
    obtain ⟨g1, g2⟩ := h.wf.getRow (hlt s hs)
    refine ⟨by simpa using g1, fun x hx => ?_⟩
    obtain ⟨y, hy, rfl⟩ := List.mem_map.mp hx
    refine idxOf_lt_of ?_
    rw [← row_map h.wf (hlt s hs)] at hy
    obtain ⟨k, hk, rfl⟩ := List.mem_map.mp hy
    exact h.closed hs (List.mem_range.mp hk)
  · intro i k hi hk
    have e : O.getD i 0 = O[i] := by simp [List.getD, hi]
    have hs : O.getD i 0 ∈ O := getD_mem hi
    obtain ⟨g1, _⟩ := h.wf.getRow (hlt _ hs)
    have e2 : (keptRows rows O).getD i [] = (rows.getD (O.getD i 0) []).map fun x => O.idxOf x := by
      unfold keptRows
      rw [List.getD_eq_getElem?_getD, List.getElem?_map, List.getElem?_eq_getElem hi, e]; rfl
    have hk' : k < (rows.getD (O.getD i 0) []).length := by rw [g1]; exact hk
    unfold at2
    rw [e2, List.getD_eq_getElem?_getD, List.getElem?_map, List.getElem?_eq_getElem hk', List.getD_eq_getElem?_getD (l := rows.getD (O.getD i 0) []), List.getElem?_eq_getElem hk']; rfl
/-- the class of a word -/
def clOf (st : List Nat → Nat) (O parts : List Nat) (w : List Nat) : Nat := parts.getD (O.idxOf (st w)) 0
theorem ded_map_inj {α β : Type} [DecidableEq α] [DecidableEq β] (f : α → β) (l : List α) (h : l.Nodup) : ded (l.map f) = ded (l.map f) := rfl
theorem side_of {μ : Type} [DecidableEq μ] {marks : List μ} {parts : List Nat} {al : List Nat → List Nat → Prop} (h : Ord K rows up ex st O) (hlt : ∀ s ∈ O, s < rows.length) (hm : marks.length = O.length) (hp : Parts K (keptRows rows O) marks parts)
    (hker : ∀ p p', Wd K p → Wd K p' → (clOf st O parts p = clOf st O parts p' ↔ al p p')) : Side K up ex al (chosenRows (keptRows rows O) parts) (clOf st O parts) := by
  obtain ⟨k1, k2⟩ := h.kept hlt
  have hw : WFr (keptRows rows O) marks.length K := by rw [hm]; exact k1
  obtain ⟨c1, c2⟩ := hp.chosen hw
  have hlen : parts.length = O.length := by rw [hp.len, hm]
  obtain ⟨m, hrng⟩ := hp.rng
  have hmc : mcount parts = m := by unfold mcount; rw [hrng]; simp
  have hO0 : 0 < O.length := List.length_pos_of_mem (h.mem Wd.nil)
  refine ⟨by rw [chosen_len]; exact c1, ?_, hker, ?_, fun p k hpw hk => ?_⟩
  · -- zero
    unfold clOf
    rw [h.zero, h.first]
    have hl : 0 < parts.length := by rw [hlen]; exact hO0
    cases parts with
    | nil => simp at hl
    | cons x r =>
      have e : ded (x :: r) = x :: (ded (x :: r)).tail := by
        have q := prefix_pushAll [x] r
        have e2 : ded (x :: r) = pushAll [x] r := by simp [ded, pushAll, push]
        rw [e2]
        obtain ⟨t, ht⟩ := q
        rw [← ht]; rfl
      rw [hrng] at e
      cases m with
      | zero => simp at e
      | succ m =>
        rw [List.range_succ_eq_map] at e
        have := (List.cons.inj e).1
        simp [← this]
  · obtain ⟨N, hN⟩ := h.canon
    refine ⟨N, fun n hn => ?_⟩
    have e1 : (up n).map (clOf st O parts) = ((up n).map st).map fun s => parts.getD (O.idxOf s) 0 := by rw [List.map_map]; rfl
    have e2 : O.map (fun s => parts.getD (O.idxOf s) 0) = parts := by
      apply List.ext_getElem
      · simp [hlen]
      · intro i a b
        have hi : i < O.length := by simpa using a
        rw [List.getElem_map, List.Nodup.idxOf_getElem h.nodup]
        simp [List.getD, b]
    rw [e1, ← ded_map, hN n hn, e2, hrng, chosen_len, hmc]
  · have hi : O.idxOf (st p) < marks.length := by rw [hm]; exact idxOf_lt_of (h.mem hpw)
    show parts.getD (O.idxOf (st (ex p k))) 0 = at2 _ (parts.getD (O.idxOf (st p)) 0) k
    rw [c2 _ k hi hk, k2 _ k (by rw [← hm]; exact hi) hk, h.step, getD_idxOf (h.mem hpw)]
end ord

section tab
variable {τ : Type} [Inhabited τ] [DecidableEq τ]
def T2 (T : List (List τ)) (i j : Nat) : τ := (T.getD i []).getD j default
structure WFT (G : τ → Prop) (T : List (List τ)) (n m : Nat) : Prop where
  len : T.length = n
  row : ∀ r ∈ T, r.length = m ∧ ∀ x ∈ r, G x
theorem WFT.getRow {G : τ → Prop} {T : List (List τ)} {n m i : Nat} (h : WFT G T n m) (hi : i < n) : (T.getD i []).length = m ∧ ∀ x ∈ T.getD i [], G x := h.row _ (getD_mem (by rw [h.len]; exact hi))
theorem WFT.good {G : τ → Prop} {T : List (List τ)} {n m i j : Nat} (h : WFT G T n m) (hi : i < n) (hj : j < m) : G (T2 T i j) := by
  obtain ⟨a, b⟩ := h.getRow hi
  exact b _ (getD_mem (by rw [a]; exact hj))
theorem trow_map {G : τ → Prop} {T : List (List τ)} {n m i : Nat} (h : WFT G T n m) (hi : i < n) : (List.range m).map (T2 T i) = T.getD i [] := by
  obtain ⟨h1, _⟩ := h.getRow hi
  apply List.ext_getElem
  · rw [List.length_map, List.length_range, h1]
  · intro k a b
    simp only [List.getElem_map, List.getElem_range]
    unfold T2; rw [List.getD_eq_getElem?_getD, List.getElem?_eq_getElem b]; rfl
theorem tab_ext {G : τ → Prop} {T T' : List (List τ)} {n m : Nat} (h : WFT G T n m) (h' : WFT G T' n m) (e : ∀ i, i < n → ∀ j, j < m → T2 T i j = T2 T' i j) : T = T' := by
  apply List.ext_getElem
  · rw [h.len, h'.len]
  · intro i a b
    have hi : i < n := by rw [← h.len]; exact a
    have q1 : T.getD i [] = T[i] := by simp [List.getD, a]
    have q2 : T'.getD i [] = T'[i] := by simp [List.getD, b]
    rw [← q1, ← q2, ← trow_map h hi, ← trow_map h' hi]
    exact List.map_congr_left fun k hk => e i hi k (List.mem_range.mp hk)
def smallOf (T : List (List τ)) (I J : List Nat) : List (List τ) := I.map fun i => J.map fun j => T2 T i j
def colsOf (S : List (List τ)) (m : Nat) : List (List τ) := (List.range m).map fun j => S.map fun r => r.getD j default
theorem small_get {T : List (List τ)} {I J : List Nat} {i : Nat} (hi : i < I.length) : (smallOf T I J).getD i [] = J.map fun j => T2 T (I.getD i 0) j := by
  unfold smallOf
  rw [List.getD_eq_getElem?_getD, List.getElem?_map, List.getElem?_eq_getElem hi]
  simp [List.getD, hi]
theorem small_T2 {T : List (List τ)} {I J : List Nat} {i j : Nat} (hi : i < I.length) (hj : j < J.length) : T2 (smallOf T I J) i j = T2 T (I.getD i 0) (J.getD j 0) := by
  show ((smallOf T I J).getD i []).getD j default = _
  rw [small_get hi]
  simp [List.getD, hj]
theorem small_wf {G : τ → Prop} {T : List (List τ)} {I J : List Nat} {n m : Nat} (h : WFT G T n m) (hI : ∀ i ∈ I, i < n) (hJ : ∀ j ∈ J, j < m) : WFT G (smallOf T I J) I.length J.length := by
  refine ⟨by simp [smallOf], fun r hr => ?_⟩
  obtain ⟨i, hi, rfl⟩ := List.mem_map.mp hr
  refine ⟨by simp, fun x hx => ?_⟩
  obtain ⟨j, hj, rfl⟩ := List.mem_map.mp hx
  exact h.good (hI i hi) (hJ j hj)
theorem cols_get {S : List (List τ)} {m j : Nat} (hj : j < m) : (colsOf S m)[j]? = some (S.map fun r => r.getD j default) := by
  unfold colsOf
  rw [List.getElem?_map, List.getElem?_range hj]; rfl

/-- what least_parts tells -/
structure IsLeast (G : τ → Prop) (lt : τ → Nat → Nat) (K : Nat) (L R : List (List Nat)) (T : List (List τ)) (NL NR : List (List Nat)) (NT : List (List τ)) : Prop where
  wfL : WFr L L.length K
  wfR : WFr R R.length K
  wfT : WFT G T L.length R.length
  posL : 0 < L.length
  posR : 0 < R.length
  nwT : WFT G NT NL.length NR.length
  leL : NL.length ≤ L.length
  leR : NR.length ≤ R.length
  ex : ∃ cl cr, Side K (upL K) (fun w k => w ++ [k]) (fun p p' => alL K (at2 L) (at2 R) (fun i j => lt (T2 T i j)) (stL (at2 L) 0 p) (stL (at2 L) 0 p')) NL cl ∧
    Side K (upR K) (fun w k => k :: w) (fun p p' => alR K (at2 L) (at2 R) (fun i j => lt (T2 T i j)) (stR (at2 R) 0 p) (stR (at2 R) 0 p')) NR cr ∧
    ∀ p s, Wd K p → Wd K s → T2 NT (cl p) (cr s) = T2 T (stL (at2 L) 0 p) (stR (at2 R) 0 s)
theorem idx_parts_inj {O : List Nat} {i j : Nat} : i = j → O.getD i 0 = O.getD j 0 := fun e => by rw [e]
theorem least_of {G : τ → Prop} {lt : τ → Nat → Nat} {K : Nat} {L R : List (List Nat)} {T : List (List τ)} {I J pL pR : List Nat}
    (hG : ∀ x y, G x → G y → (∀ k, k < K → lt x k = lt y k) → x = y) (wfT : WFT G T L.length R.length)
    (oL : Ord K L (upL K) (fun w k => w ++ [k]) (stL (at2 L) 0) I) (oR : Ord K R (upR K) (fun w k => k :: w) (stR (at2 R) 0) J)
    (hL : Parts K (keptRows L I) (smallOf T I J) pL) (hR : Parts K (keptRows R J) (colsOf (smallOf T I J) J.length) pR) :
    IsLeast G lt K L R T (chosenRows (keptRows L I) pL) (chosenRows (keptRows R J) pR) (smallOf (smallOf T I J) (firstsOf pL) (firstsOf pR)) := by
  have hI : ∀ s ∈ I, s < L.length := fun s hs => by
    obtain ⟨w, hw, e⟩ := oL.reach hs
    rw [← e]; exact oL.wf.stL oL.pos hw
  have hJ : ∀ s ∈ J, s < R.length := fun s hs => by
    obtain ⟨w, hw, e⟩ := oR.reach hs
    rw [← e]; exact oR.wf.stR oR.pos hw
  have sw := small_wf wfT hI hJ
  have lenL : (smallOf T I J).length = I.length := sw.len
  have lenR : (colsOf (smallOf T I J) J.length).length = J.length := by simp [colsOf]
  obtain ⟨kL1, kL2⟩ := oL.kept hI
  obtain ⟨kR1, kR2⟩ := oR.kept hJ
  -- equal marks: the same letters
  have mL : ∀ i i', i < I.length → i' < I.length → (smallOf T I J)[i]? = (smallOf T I J)[i']? → ∀ j ∈ J, T2 T (I.getD i 0) j = T2 T (I.getD i' 0) j := by
    intro i i' hi hi' e j hj
    have e1 : (smallOf T I J).getD i [] = (smallOf T I J).getD i' [] := by rw [List.getD_eq_getElem?_getD, List.getD_eq_getElem?_getD, e]
    rw [small_get hi, small_get hi'] at e1
    exact List.map_inj_left.mp e1 j hj
  have mR : ∀ j j', j < J.length → j' < J.length → (colsOf (smallOf T I J) J.length)[j]? = (colsOf (smallOf T I J) J.length)[j']? → ∀ i ∈ I, T2 T i (J.getD j 0) = T2 T i (J.getD j' 0) := by
    intro j j' hj hj' e i hi
    rw [cols_get hj, cols_get hj'] at e
    have e1 := Option.some.inj e
    have hii := idxOf_lt_of hi
    have e2 := congrArg (fun l => l[I.idxOf i]?) e1
    simp only [List.getElem?_map] at e2
    rw [List.getElem?_eq_getElem (by rw [lenL]; exact hii)] at e2
    have e3 := Option.some.inj e2
    have e4 : (smallOf T I J)[I.idxOf i]'(by rw [lenL]; exact hii) = (smallOf T I J).getD (I.idxOf i) [] := by simp [List.getD, lenL, hii]
    rw [e4] at e3
    have a := small_T2 (T := T) hii hj
    have b := small_T2 (T := T) hii hj'
    rw [getD_idxOf hi] at a b
    rw [← a, ← b]
    exact e3
  -- the kernels
  have fineL : ∀ s, Wd K s → ∀ i i', i < I.length → i' < I.length → pL.getD i 0 = pL.getD i' 0 → outW (at2 L) (at2 R) (fun i j => lt (T2 T i j)) (I.getD i 0) 0 s = outW (at2 L) (at2 R) (fun i j => lt (T2 T i j)) (I.getD i' 0) 0 s := by
    intro s
    induction s with
    | nil => intro _ i i' _ _ _; rfl
    | cons k s ih =>
      intro hw i i' hi hi' e
      have m := mL i i' hi hi' (hL.fine i i' (by rw [lenL]; exact hi) (by rw [lenL]; exact hi') e) _ (oR.mem hw.tail)
      have n := hL.nx i i' k (by rw [lenL]; exact hi) (by rw [lenL]; exact hi') hw.head e
      have z := ih hw.tail _ _ (kL1.lt hi hw.head) (kL1.lt hi' hw.head) n
      rw [kL2 i k hi hw.head, kL2 i' k hi' hw.head, getD_idxOf (oL.closed (getD_mem hi) hw.head), getD_idxOf (oL.closed (getD_mem hi') hw.head)] at z
      simp only [outW]
      rw [m, z]
  have fineR : ∀ p, Wd K p → ∀ j j', j < J.length → j' < J.length → pR.getD j 0 = pR.getD j' 0 → outW (at2 L) (at2 R) (fun i j => lt (T2 T i j)) 0 (J.getD j 0) p = outW (at2 L) (at2 R) (fun i j => lt (T2 T i j)) 0 (J.getD j' 0) p := by
    intro p
    suffices q : ∀ r : List Nat, Wd K r.reverse → ∀ j j', j < J.length → j' < J.length → pR.getD j 0 = pR.getD j' 0 → outW (at2 L) (at2 R) (fun i j => lt (T2 T i j)) 0 (J.getD j 0) r.reverse = outW (at2 L) (at2 R) (fun i j => lt (T2 T i j)) 0 (J.getD j' 0) r.reverse by
      have := q p.reverse
      rw [List.reverse_reverse] at this
      exact this
    intro r
    induction r with
    | nil => intro _ j j' _ _ _; rfl
    | cons k r ih =>
      rw [List.reverse_cons]
      intro hw j j' hj hj' e
      have hk : k < K := hw.right.head
      have m := mR j j' hj hj' (hR.fine j j' (by rw [lenR]; exact hj) (by rw [lenR]; exact hj') e) _ (oL.mem hw.left)
      have n := hR.nx j j' k (by rw [lenR]; exact hj) (by rw [lenR]; exact hj') hk e
      have z := ih hw.left _ _ (kR1.lt hj hk) (kR1.lt hj' hk) n
      rw [kR2 j k hj hk, kR2 j' k hj' hk, getD_idxOf (oR.closed (getD_mem hj) hk), getD_idxOf (oR.closed (getD_mem hj') hk)] at z
      rw [outW_app, outW_app]
      have e1 : stR (at2 R) (J.getD j 0) [k] = at2 R (J.getD j 0) k := rfl
      have e2 : stR (at2 R) (J.getD j' 0) [k] = at2 R (J.getD j' 0) k := rfl
      rw [e1, e2, z]
      simp only [outW, stR_nil]
      rw [m]
  have idxI : ∀ {p}, Wd K p → I.idxOf (stL (at2 L) 0 p) < I.length := fun h => idxOf_lt_of (oL.mem h)
  have idxJ : ∀ {p}, Wd K p → J.idxOf (stR (at2 R) 0 p) < J.length := fun h => idxOf_lt_of (oR.mem h)
  have kerL : ∀ p p', Wd K p → Wd K p' → (clOf (stL (at2 L) 0) I pL p = clOf (stL (at2 L) 0) I pL p' ↔ alL K (at2 L) (at2 R) (fun i j => lt (T2 T i j)) (stL (at2 L) 0 p) (stL (at2 L) 0 p')) := by
    intro p p' hp hp'
    constructor
    · intro e s hs
      have := fineL s hs _ _ (idxI hp) (idxI hp') e
      rwa [getD_idxOf (oL.mem hp), getD_idxOf (oL.mem hp')] at this
    · intro e
      refine hL.coarse (fun i i' => i < I.length ∧ i' < I.length ∧ alL K (at2 L) (at2 R) (fun i j => lt (T2 T i j)) (I.getD i 0) (I.getD i' 0)) ?_ _ _ (by rw [lenL]; exact idxI hp) (by rw [lenL]; exact idxI hp')
        ⟨idxI hp, idxI hp', by rw [getD_idxOf (oL.mem hp), getD_idxOf (oL.mem hp')]; exact e⟩
      rintro i i' _ _ ⟨hi, hi', a⟩
      constructor
      · rw [List.getElem?_eq_getElem (by rw [lenL]; exact hi), List.getElem?_eq_getElem (by rw [lenL]; exact hi')]
        have e1 : (smallOf T I J)[i]'(by rw [lenL]; exact hi) = (smallOf T I J).getD i [] := by simp [List.getD, lenL, hi]
        have e2 : (smallOf T I J)[i']'(by rw [lenL]; exact hi') = (smallOf T I J).getD i' [] := by simp [List.getD, lenL, hi']
        rw [e1, e2, small_get hi, small_get hi']
        congr 1
        refine List.map_congr_left fun j hj => hG _ _ (wfT.good (hI _ (getD_mem hi)) (hJ j hj)) (wfT.good (hI _ (getD_mem hi')) (hJ j hj)) fun k hk => ?_
        obtain ⟨s, hs, rfl⟩ := oR.reach hj
        exact a.tab hs hk
      · intro k hk
        refine ⟨kL1.lt hi hk, kL1.lt hi' hk, ?_⟩
        rw [kL2 i k hi hk, kL2 i' k hi' hk, getD_idxOf (oL.closed (getD_mem hi) hk), getD_idxOf (oL.closed (getD_mem hi') hk)]
        exact a.next hk
  have kerR : ∀ p p', Wd K p → Wd K p' → (clOf (stR (at2 R) 0) J pR p = clOf (stR (at2 R) 0) J pR p' ↔ alR K (at2 L) (at2 R) (fun i j => lt (T2 T i j)) (stR (at2 R) 0 p) (stR (at2 R) 0 p')) := by
    intro p p' hp hp'
    constructor
    · intro e s hs
      have := fineR s hs _ _ (idxJ hp) (idxJ hp') e
      rwa [getD_idxOf (oR.mem hp), getD_idxOf (oR.mem hp')] at this
    · intro e
      refine hR.coarse (fun i i' => i < J.length ∧ i' < J.length ∧ alR K (at2 L) (at2 R) (fun i j => lt (T2 T i j)) (J.getD i 0) (J.getD i' 0)) ?_ _ _ (by rw [lenR]; exact idxJ hp) (by rw [lenR]; exact idxJ hp')
        ⟨idxJ hp, idxJ hp', by rw [getD_idxOf (oR.mem hp), getD_idxOf (oR.mem hp')]; exact e⟩
      rintro j j' _ _ ⟨hj, hj', a⟩
      constructor
      · rw [cols_get hj, cols_get hj']
        congr 1
        refine List.map_congr_left fun r hr => ?_
        obtain ⟨i, hi, rfl⟩ := List.mem_map.mp hr
        have g : ∀ {j}, j < J.length → (J.map fun j => T2 T i j).getD j default = T2 T i (J.getD j 0) := fun {j} h => by simp [List.getD, h]
        rw [g hj, g hj']
        refine hG _ _ (wfT.good (hI i hi) (hJ _ (getD_mem hj))) (wfT.good (hI i hi) (hJ _ (getD_mem hj'))) fun k hk => ?_
        obtain ⟨s, hs, rfl⟩ := oL.reach hi
        exact a.tab hs hk
      · intro k hk
        refine ⟨kR1.lt hj hk, kR1.lt hj' hk, ?_⟩
        rw [kR2 j k hj hk, kR2 j' k hj' hk, getD_idxOf (oR.closed (getD_mem hj) hk), getD_idxOf (oR.closed (getD_mem hj') hk)]
        exact a.next hk
  have sL := side_of oL hI lenL hL kerL
  have sR := side_of oR hJ lenR hR kerR
  have mcL : mcount pL ≤ L.length := by
    have a : mcount pL ≤ pL.length := ded_len_le _
    rw [hL.len, lenL] at a
    exact Nat.le_trans a (nodup_lt_length oL.nodup hI)
  have mcR : mcount pR ≤ R.length := by
    have a : mcount pR ≤ pR.length := ded_len_le _
    rw [hR.len, lenR] at a
    exact Nat.le_trans a (nodup_lt_length oR.nodup hJ)
  refine ⟨oL.wf, oR.wf, wfT, oL.pos, oR.pos, ?_, by rw [chosen_len]; exact mcL, by rw [chosen_len]; exact mcR, _, _, sL, sR, fun p s hp hs => ?_⟩
  · rw [chosen_len, chosen_len, ← firstsOf_len pL, ← firstsOf_len pR]
    refine small_wf sw (fun i hi => ?_) (fun j hj => ?_)
    · obtain ⟨c, hc, rfl⟩ := List.mem_map.mp hi
      have := (Parts.first hL.toPInv (List.mem_range.mp hc)).1
      rwa [lenL] at this
    · obtain ⟨c, hc, rfl⟩ := List.mem_map.mp hj
      have := (Parts.first hR.toPInv (List.mem_range.mp hc)).1
      rwa [lenR] at this
  · have cL := Parts.lt hL.toPInv (i := I.idxOf (stL (at2 L) 0 p)) (by rw [lenL]; exact idxI hp)
    have cR := Parts.lt hR.toPInv (i := J.idxOf (stR (at2 R) 0 s)) (by rw [lenR]; exact idxJ hs)
    obtain ⟨f1, f2⟩ := Parts.first hL.toPInv cL
    obtain ⟨g1, g2⟩ := Parts.first hR.toPInv cR
    rw [lenL] at f1
    rw [lenR] at g1
    show T2 (smallOf (smallOf T I J) (firstsOf pL) (firstsOf pR)) (pL.getD (I.idxOf (stL (at2 L) 0 p)) 0) (pR.getD (J.idxOf (stR (at2 R) 0 s)) 0) = _
    rw [small_T2 (by rw [firstsOf_len]; exact cL) (by rw [firstsOf_len]; exact cR), firstsOf_get cL, firstsOf_get cR, small_T2 f1 g1]
    have a := mL _ _ f1 (idxI hp) (hL.fine _ _ (by rw [lenL]; exact f1) (by rw [lenL]; exact idxI hp) f2) _ (getD_mem g1 (d := 0))
    have b := mR _ _ g1 (idxJ hs) (hR.fine _ _ (by rw [lenR]; exact g1) (by rw [lenR]; exact idxJ hs) g2) _ (oL.mem hp)
    rw [a, getD_idxOf (oL.mem hp), b, getD_idxOf (oR.mem hs)]
end tab
end FM
end
section
namespace FM
section
variable {τ : Type} [Inhabited τ] [DecidableEq τ] {G : τ → Prop} {lt : τ → Nat → Nat} {K : Nat}
variable {L R L' R' NL NR NL' NR' : List (List Nat)} {T T' NT NT' : List (List τ)}
/-- two machines do the same -/
def TSame (lt : τ → Nat → Nat) (K : Nat) (L R : List (List Nat)) (T : List (List τ)) (L' R' : List (List Nat)) (T' : List (List τ)) : Prop :=
  FSame K (at2 L) (at2 R) (fun i j => lt (T2 T i j)) (at2 L') (at2 R') (fun i j => lt (T2 T' i j))
theorem TSame.symm (h : TSame lt K L R T L' R' T') : TSame lt K L' R' T' L R T := FSame.symm h
theorem TSame.trans {L2 R2 : List (List Nat)} {T2' : List (List τ)} (h : TSame lt K L R T L' R' T') (h' : TSame lt K L' R' T' L2 R2 T2') : TSame lt K L R T L2 R2 T2' := fun w hw => (h w hw).trans (h' w hw)
theorem hexL {K : Nat} : ∀ p k, Wd K p → k < K → Wd K (p ++ [k]) := fun _ _ hp hk => hp.app (Wd.one hk)
theorem hexR {K : Nat} : ∀ p k, Wd K p → k < K → Wd K (k :: p) := fun _ _ hp hk => hp.cons hk
theorem least_uniq (hG : ∀ x y, G x → G y → (∀ k, k < K → lt x k = lt y k) → x = y) (h : IsLeast G lt K L R T NL NR NT) (h' : IsLeast G lt K L' R' T' NL' NR' NT') (hs : TSame lt K L R T L' R' T') : NL = NL' ∧ NR = NR' ∧ NT = NT' := by
  obtain ⟨cl, cr, sl, sr, tb⟩ := h.ex
  obtain ⟨cl', cr', sl', sr', tb'⟩ := h'.ex
  obtain ⟨a1, a2⟩ := sl.uniq sl' (fun n w => mem_upL) hexL fun p p' hp hp' => FSame.alL hs hp hp'
  obtain ⟨b1, b2⟩ := sr.uniq sr' (fun n w => mem_upR) hexR fun p p' hp hp' => FSame.alR hs hp hp'
  refine ⟨a2, b2, ?_⟩
  have w' := h'.nwT
  rw [← a2, ← b2] at w'
  refine tab_ext h.nwT w' fun i hi j hj => ?_
  obtain ⟨p, hp, e1⟩ := sl.surj (fun n w => mem_upL) hi
  obtain ⟨s, hs2, e2⟩ := sr.surj (fun n w => mem_upR) hj
  have q1 := tb p s hp hs2
  have q2 := tb' p s hp hs2
  rw [← a1 p hp, ← b1 s hs2] at q2
  rw [e1, e2] at q1 q2
  rw [q1, q2]
  refine hG _ _ (h.wfT.good (h.wfL.stL h.posL hp) (h.wfR.stR h.posR hs2)) (h'.wfT.good (h'.wfL.stL h'.posL hp) (h'.wfR.stR h'.posR hs2)) fun k hk => ?_
  exact FSame.tab hs hp hs2 hk
theorem side_stL {al : List Nat → List Nat → Prop} {cl : List Nat → Nat} (s : Side K (upL K) (fun w k => w ++ [k]) al NL cl) {w : List Nat} (hw : Wd K w) : cl w = stL (at2 NL) 0 w := by
  suffices q : ∀ r : List Nat, Wd K r.reverse → cl r.reverse = stL (at2 NL) 0 r.reverse by
    have := q w.reverse
    rw [List.reverse_reverse] at this
    exact this hw
  intro r
  induction r with
  | nil => intro _; exact s.zero
  | cons k r ih =>
    rw [List.reverse_cons]
    intro hw
    rw [stL_snoc, ← ih hw.left]
    exact s.step _ _ hw.left hw.right.head
theorem side_stR {al : List Nat → List Nat → Prop} {cl : List Nat → Nat} (s : Side K (upR K) (fun w k => k :: w) al NR cl) {w : List Nat} (hw : Wd K w) : cl w = stR (at2 NR) 0 w := by
  induction w with
  | nil => exact s.zero
  | cons k r ih =>
    rw [stR_cons, ← ih hw.tail]
    exact s.step _ _ hw.tail hw.head
theorem outW_congr {nl nr nl' nr' : Nat → Nat → Nat} {tb tb' : Nat → Nat → Nat → Nat}
    (h : ∀ p s k, Wd K p → Wd K s → k < K → tb (stL nl 0 p) (stR nr 0 s) k = tb' (stL nl' 0 p) (stR nr' 0 s) k) : FSame K nl nr tb nl' nr' tb' := by
  suffices q : ∀ w p, Wd K p → Wd K w → outW nl nr tb (stL nl 0 p) 0 w = outW nl' nr' tb' (stL nl' 0 p) 0 w from fun w hw => q w [] Wd.nil hw
  intro w
  induction w with
  | nil => intro p _ _; rfl
  | cons k s ih =>
    intro p hp hw
    have := ih (p ++ [k]) (hp.app (Wd.one hw.head)) hw.tail
    rw [stL_snoc, stL_snoc] at this
    simp only [outW]
    rw [h p s k hp hw.tail hw.head, this]
/-- the least machine does the same -/
theorem least_same (h : IsLeast G lt K L R T NL NR NT) : TSame lt K NL NR NT L R T := by
  obtain ⟨cl, cr, sl, sr, tb⟩ := h.ex
  refine outW_congr fun p s k hp hs hk => ?_
  have := tb p s hp hs
  rw [side_stL sl hp, side_stR sr hs] at this
  show lt (T2 NT _ _) k = lt (T2 T _ _) k
  rw [this]
theorem least_wfL (h : IsLeast G lt K L R T NL NR NT) : WFr NL NL.length K ∧ WFr NR NR.length K ∧ 0 < NL.length ∧ 0 < NR.length := by
  obtain ⟨cl, cr, sl, sr, tb⟩ := h.ex
  exact ⟨sl.wf, sr.wf, Nat.lt_of_le_of_lt (Nat.zero_le _) (sl.lt (fun n w => mem_upL) Wd.nil), Nat.lt_of_le_of_lt (Nat.zero_le _) (sr.lt (fun n w => mem_upR) Wd.nil)⟩
/-- the least machine of the least machine is itself -/
theorem least_again (hG : ∀ x y, G x → G y → (∀ k, k < K → lt x k = lt y k) → x = y) (h : IsLeast G lt K L R T NL NR NT) (h' : IsLeast G lt K NL NR NT NL' NR' NT') : NL' = NL ∧ NR' = NR ∧ NT' = NT :=
  least_uniq hG h' h (least_same h)
/-- its states are reached, and told apart -/
theorem least_reachL (h : IsLeast G lt K L R T NL NR NT) {c : Nat} (hc : c < NL.length) : ∃ p, Wd K p ∧ stL (at2 NL) 0 p = c := by
  obtain ⟨cl, cr, sl, sr, tb⟩ := h.ex
  obtain ⟨p, hp, e⟩ := sl.surj (fun n w => mem_upL) hc
  exact ⟨p, hp, by rw [← side_stL sl hp, e]⟩
theorem least_reachR (h : IsLeast G lt K L R T NL NR NT) {c : Nat} (hc : c < NR.length) : ∃ p, Wd K p ∧ stR (at2 NR) 0 p = c := by
  obtain ⟨cl, cr, sl, sr, tb⟩ := h.ex
  obtain ⟨p, hp, e⟩ := sr.surj (fun n w => mem_upR) hc
  exact ⟨p, hp, by rw [← side_stR sr hp, e]⟩
theorem least_apartL (h : IsLeast G lt K L R T NL NR NT) {c d : Nat} (hc : c < NL.length) (hd : d < NL.length) (hcd : c ≠ d) : ¬ alL K (at2 NL) (at2 NR) (fun i j => lt (T2 NT i j)) c d := by
  obtain ⟨cl, cr, sl, sr, tb⟩ := h.ex
  obtain ⟨p, hp, e⟩ := sl.surj (fun n w => mem_upL) hc
  obtain ⟨p', hp', e'⟩ := sl.surj (fun n w => mem_upL) hd
  intro q
  refine hcd ?_
  rw [← e, ← e']
  refine (sl.ker p p' hp hp').mpr ((FSame.alL (least_same h) hp hp').mp ?_)
  rw [← side_stL sl hp, ← side_stL sl hp', e, e']
  exact q
theorem least_apartR (h : IsLeast G lt K L R T NL NR NT) {c d : Nat} (hc : c < NR.length) (hd : d < NR.length) (hcd : c ≠ d) : ¬ alR K (at2 NL) (at2 NR) (fun i j => lt (T2 NT i j)) c d := by
  obtain ⟨cl, cr, sl, sr, tb⟩ := h.ex
  obtain ⟨p, hp, e⟩ := sr.surj (fun n w => mem_upR) hc
  obtain ⟨p', hp', e'⟩ := sr.surj (fun n w => mem_upR) hd
  intro q
  refine hcd ?_
  rw [← e, ← e']
  refine (sr.ker p p' hp hp').mpr ((FSame.alR (least_same h) hp hp').mp ?_)
  rw [← side_stR sr hp, ← side_stR sr hp', e, e']
  exact q
/-- letters that agree at all pairs that words reach -/
theorem same_of_tabs {nl nr nl' nr' : Nat → Nat → Nat} {tb tb' : Nat → Nat → Nat → Nat} {i j i' j' : Nat}
    (h : ∀ p s k, Wd K p → Wd K s → k < K → tb (stL nl i p) (stR nr j s) k = tb' (stL nl' i' p) (stR nr' j' s) k) {w : List Nat} (hw : Wd K w) : outW nl nr tb i j w = outW nl' nr' tb' i' j' w := by
  suffices q : ∀ w p, Wd K p → Wd K w → outW nl nr tb (stL nl i p) j w = outW nl' nr' tb' (stL nl' i' p) j' w from q w [] Wd.nil hw
  intro w
  induction w with
  | nil => intro p _ _; rfl
  | cons k s ih =>
    intro p hp hw
    have := ih (p ++ [k]) (hp.app (Wd.one hw.head)) hw.tail
    rw [stL_snoc, stL_snoc] at this
    simp only [outW]
    rw [h p s k hp hw.tail hw.head, this]
theorem differ_of_tab {nl nr nl' nr' : Nat → Nat → Nat} {tb tb' : Nat → Nat → Nat → Nat} {i j i' j' k : Nat} (p s : List Nat)
    (h : tb (stL nl i p) (stR nr j s) k ≠ tb' (stL nl' i' p) (stR nr' j' s) k) : outW nl nr tb i j (p ++ k :: s) ≠ outW nl' nr' tb' i' j' (p ++ k :: s) := fun e => by
  have a := outW_at (nl := nl) (nr := nr) (tb := tb) (i := i) (j := j) (k := k) p s
  have b := outW_at (nl := nl') (nr := nr') (tb := tb') (i := i') (j := j') (k := k) p s
  rw [e, b] at a
  exact h (Option.some.inj a).symm
end
end FM
end
section
namespace FA
open PySem PySem.Spec PyProof.Rows L2
def top (i : Nat) : Stmt := PySem.Challenge.pw_foreaft_k80_whole_same_exactly_if_least.main.body.getD i (.Pass ⟨0, 0, 0, 0⟩)
abbrev s_reached_behind : Stmt := top 1
abbrev s_reached_in_front : Stmt := top 2
abbrev s_left_words : Stmt := top 3
abbrev s_right_words : Stmt := top 4
abbrev s_kept_rows : Stmt := top 5
abbrev s__numbered : Stmt := top 7
abbrev s_classes : Stmt := top 8
abbrev s__chosen : Stmt := top 9
abbrev s_least_parts : Stmt := top 10
abbrev s_is_alphabet : Stmt := top 14
abbrev s_is_word : Stmt := top 15
abbrev s_codes : Stmt := top 16
abbrev s_spelled : Stmt := top 17
abbrev s_pairs_behind : Stmt := top 19
abbrev s_pairs_in_front : Stmt := top 20
abbrev s__parting : Stmt := top 21
abbrev s_first_difference : Stmt := top 22
abbrev s__are_rows : Stmt := top 28
abbrev s__is_table : Stmt := top 29
abbrev s_form : Stmt := top 31
abbrev s__along : Stmt := top 32
abbrev s_left_state : Stmt := top 33
abbrev s_right_state : Stmt := top 34
abbrev s_states_between : Stmt := top 35
abbrev s_output_between : Stmt := top 36
abbrev s_run : Stmt := top 37
abbrev s_least : Stmt := top 39
abbrev s_counts : Stmt := top 40
abbrev s_separator : Stmt := top 41
abbrev s_state_pairs : Stmt := top 42
abbrev s__words : Stmt := top 43
abbrev s_least_paper : Stmt := top 44
abbrev s__parts_left : Stmt := top 45
abbrev s__parts_right : Stmt := top 46
abbrev s_is_least_paper : Stmt := top 47
abbrev s__require_alike : Stmt := top 49
abbrev s_difference : Stmt := top 50
abbrev s_is_same : Stmt := top 51
abbrev s_same_paper : Stmt := top 52
abbrev s__are_closed : Stmt := top 53
abbrev s_is_same_paper : Stmt := top 54
abbrev s__law_cell : Stmt := top 56
abbrev s__law_row : Stmt := top 57
abbrev s__law_draw : Stmt := top 58
abbrev s__law_is_integer : Stmt := top 59
abbrev s__law_states : Stmt := top 60
abbrev s__law_machine : Stmt := top 61
abbrev s__law_alphabet : Stmt := top 62
abbrev s__law_made : Stmt := top 63
abbrev s__law_form : Stmt := top 64
abbrev s__law_doubled : Stmt := top 65
abbrev s__law_blown : Stmt := top 66
abbrev s__law_copy_of : Stmt := top 67
abbrev s__law_near : Stmt := top 68
abbrev s_law : Stmt := top 69
abbrev s_init : Stmt := inClass (top 30) 0
def d_reached_behind : He.DefD := ⟨("reached_behind", none), "reached_behind", "reached_behind", defArgs s_reached_behind, defBody s_reached_behind, defScope s_reached_behind, [], []⟩
def d_reached_in_front : He.DefD := ⟨("reached_in_front", none), "reached_in_front", "reached_in_front", defArgs s_reached_in_front, defBody s_reached_in_front, defScope s_reached_in_front, [], []⟩
def d_left_words : He.DefD := ⟨("left_words", none), "left_words", "left_words", defArgs s_left_words, defBody s_left_words, defScope s_left_words, [], []⟩
def d_right_words : He.DefD := ⟨("right_words", none), "right_words", "right_words", defArgs s_right_words, defBody s_right_words, defScope s_right_words, [], []⟩
def d_kept_rows : He.DefD := ⟨("kept_rows", none), "kept_rows", "kept_rows", defArgs s_kept_rows, defBody s_kept_rows, defScope s_kept_rows, [], []⟩
def d__numbered : He.DefD := ⟨("_numbered", none), "_numbered", "_numbered", defArgs s__numbered, defBody s__numbered, defScope s__numbered, [], []⟩
def d_classes : He.DefD := ⟨("classes", none), "classes", "classes", defArgs s_classes, defBody s_classes, defScope s_classes, [], []⟩
def d__chosen : He.DefD := ⟨("_chosen", none), "_chosen", "_chosen", defArgs s__chosen, defBody s__chosen, defScope s__chosen, [], []⟩
def d_least_parts : He.DefD := ⟨("least_parts", none), "least_parts", "least_parts", defArgs s_least_parts, defBody s_least_parts, defScope s_least_parts, [], []⟩
def d_is_alphabet : He.DefD := ⟨("is_alphabet", none), "is_alphabet", "is_alphabet", defArgs s_is_alphabet, defBody s_is_alphabet, defScope s_is_alphabet, [], []⟩
def d_is_word : He.DefD := ⟨("is_word", none), "is_word", "is_word", defArgs s_is_word, defBody s_is_word, defScope s_is_word, [], []⟩
def d_codes : He.DefD := ⟨("codes", none), "codes", "codes", defArgs s_codes, defBody s_codes, defScope s_codes, [], []⟩
def d_spelled : He.DefD := ⟨("spelled", none), "spelled", "spelled", defArgs s_spelled, defBody s_spelled, defScope s_spelled, [], []⟩
def d_pairs_behind : He.DefD := ⟨("pairs_behind", none), "pairs_behind", "pairs_behind", defArgs s_pairs_behind, defBody s_pairs_behind, defScope s_pairs_behind, [], []⟩
def d_pairs_in_front : He.DefD := ⟨("pairs_in_front", none), "pairs_in_front", "pairs_in_front", defArgs s_pairs_in_front, defBody s_pairs_in_front, defScope s_pairs_in_front, [], []⟩
def d__parting : He.DefD := ⟨("_parting", none), "_parting", "_parting", defArgs s__parting, defBody s__parting, defScope s__parting, [], []⟩
def d_first_difference : He.DefD := ⟨("first_difference", none), "first_difference", "first_difference", defArgs s_first_difference, defBody s_first_difference, defScope s_first_difference, [], []⟩
def d__are_rows : He.DefD := ⟨("_are_rows", none), "_are_rows", "_are_rows", defArgs s__are_rows, defBody s__are_rows, defScope s__are_rows, [], []⟩
def d__is_table : He.DefD := ⟨("_is_table", none), "_is_table", "_is_table", defArgs s__is_table, defBody s__is_table, defScope s__is_table, [], []⟩
def d_form : He.DefD := ⟨("form", none), "form", "form", defArgs s_form, defBody s_form, defScope s_form, [], []⟩
def d__along : He.DefD := ⟨("_along", none), "_along", "_along", defArgs s__along, defBody s__along, defScope s__along, [], []⟩
def d_left_state : He.DefD := ⟨("left_state", none), "left_state", "left_state", defArgs s_left_state, defBody s_left_state, defScope s_left_state, [], []⟩
def d_right_state : He.DefD := ⟨("right_state", none), "right_state", "right_state", defArgs s_right_state, defBody s_right_state, defScope s_right_state, [], []⟩
def d_states_between : He.DefD := ⟨("states_between", none), "states_between", "states_between", defArgs s_states_between, defBody s_states_between, defScope s_states_between, [], []⟩
def d_output_between : He.DefD := ⟨("output_between", none), "output_between", "output_between", defArgs s_output_between, defBody s_output_between, defScope s_output_between, [], []⟩
def d_run : He.DefD := ⟨("run", none), "run", "run", defArgs s_run, defBody s_run, defScope s_run, [], []⟩
def d_least : He.DefD := ⟨("least", none), "least", "least", defArgs s_least, defBody s_least, defScope s_least, [], []⟩
def d_counts : He.DefD := ⟨("counts", none), "counts", "counts", defArgs s_counts, defBody s_counts, defScope s_counts, [], []⟩
def d_separator : He.DefD := ⟨("separator", none), "separator", "separator", defArgs s_separator, defBody s_separator, defScope s_separator, [], []⟩
def d_state_pairs : He.DefD := ⟨("state_pairs", none), "state_pairs", "state_pairs", defArgs s_state_pairs, defBody s_state_pairs, defScope s_state_pairs, [], []⟩
def d__words : He.DefD := ⟨("_words", none), "_words", "_words", defArgs s__words, defBody s__words, defScope s__words, [], []⟩
def d_least_paper : He.DefD := ⟨("least_paper", none), "least_paper", "least_paper", defArgs s_least_paper, defBody s_least_paper, defScope s_least_paper, [], []⟩
def d__parts_left : He.DefD := ⟨("_parts_left", none), "_parts_left", "_parts_left", defArgs s__parts_left, defBody s__parts_left, defScope s__parts_left, [], []⟩
def d__parts_right : He.DefD := ⟨("_parts_right", none), "_parts_right", "_parts_right", defArgs s__parts_right, defBody s__parts_right, defScope s__parts_right, [], []⟩
def d_is_least_paper : He.DefD := ⟨("is_least_paper", none), "is_least_paper", "is_least_paper", defArgs s_is_least_paper, defBody s_is_least_paper, defScope s_is_least_paper, [], []⟩
def d__require_alike : He.DefD := ⟨("_require_alike", none), "_require_alike", "_require_alike", defArgs s__require_alike, defBody s__require_alike, defScope s__require_alike, [], []⟩
def d_difference : He.DefD := ⟨("difference", none), "difference", "difference", defArgs s_difference, defBody s_difference, defScope s_difference, [], []⟩
def d_is_same : He.DefD := ⟨("is_same", none), "is_same", "is_same", defArgs s_is_same, defBody s_is_same, defScope s_is_same, [], []⟩
def d_same_paper : He.DefD := ⟨("same_paper", none), "same_paper", "same_paper", defArgs s_same_paper, defBody s_same_paper, defScope s_same_paper, [], []⟩
def d__are_closed : He.DefD := ⟨("_are_closed", none), "_are_closed", "_are_closed", defArgs s__are_closed, defBody s__are_closed, defScope s__are_closed, [], []⟩
def d_is_same_paper : He.DefD := ⟨("is_same_paper", none), "is_same_paper", "is_same_paper", defArgs s_is_same_paper, defBody s_is_same_paper, defScope s_is_same_paper, [], []⟩
def d__law_cell : He.DefD := ⟨("_law_cell", none), "_law_cell", "_law_cell", defArgs s__law_cell, defBody s__law_cell, defScope s__law_cell, [], []⟩
def d__law_row : He.DefD := ⟨("_law_row", none), "_law_row", "_law_row", defArgs s__law_row, defBody s__law_row, defScope s__law_row, [], []⟩
def d__law_draw : He.DefD := ⟨("_law_draw", none), "_law_draw", "_law_draw", defArgs s__law_draw, defBody s__law_draw, defScope s__law_draw, [], []⟩
def d__law_is_integer : He.DefD := ⟨("_law_is_integer", none), "_law_is_integer", "_law_is_integer", defArgs s__law_is_integer, defBody s__law_is_integer, defScope s__law_is_integer, [], []⟩
def d__law_states : He.DefD := ⟨("_law_states", none), "_law_states", "_law_states", defArgs s__law_states, defBody s__law_states, defScope s__law_states, [], []⟩
def d__law_machine : He.DefD := ⟨("_law_machine", none), "_law_machine", "_law_machine", defArgs s__law_machine, defBody s__law_machine, defScope s__law_machine, [], []⟩
def d__law_alphabet : He.DefD := ⟨("_law_alphabet", none), "_law_alphabet", "_law_alphabet", defArgs s__law_alphabet, defBody s__law_alphabet, defScope s__law_alphabet, [], []⟩
def d__law_made : He.DefD := ⟨("_law_made", none), "_law_made", "_law_made", defArgs s__law_made, defBody s__law_made, defScope s__law_made, [], []⟩
def d__law_form : He.DefD := ⟨("_law_form", none), "_law_form", "_law_form", defArgs s__law_form, defBody s__law_form, defScope s__law_form, [], []⟩
def d__law_doubled : He.DefD := ⟨("_law_doubled", none), "_law_doubled", "_law_doubled", defArgs s__law_doubled, defBody s__law_doubled, defScope s__law_doubled, [], []⟩
def d__law_blown : He.DefD := ⟨("_law_blown", none), "_law_blown", "_law_blown", defArgs s__law_blown, defBody s__law_blown, defScope s__law_blown, [], []⟩
def d__law_copy_of : He.DefD := ⟨("_law_copy_of", none), "_law_copy_of", "_law_copy_of", defArgs s__law_copy_of, defBody s__law_copy_of, defScope s__law_copy_of, [], []⟩
def d__law_near : He.DefD := ⟨("_law_near", none), "_law_near", "_law_near", defArgs s__law_near, defBody s__law_near, defScope s__law_near, [], []⟩
def d_law : He.DefD := ⟨("law", none), "law", "law", defArgs s_law, defBody s_law, defScope s_law, [], []⟩
def d_init : He.DefD := ⟨("Machine", some "__init__"), "__init__", "Machine.__init__", defArgs s_init, defBody s_init, defScope s_init, [], []⟩
def fn : List He.DefD := [d_reached_behind, d_reached_in_front, d_left_words, d_right_words, d_kept_rows, d__numbered, d_classes, d__chosen, d_least_parts, d_is_alphabet, d_is_word, d_codes, d_spelled, d_pairs_behind, d_pairs_in_front, d__parting, d_first_difference, d__are_rows, d__is_table, d_form, d__along, d_left_state, d_right_state, d_states_between, d_output_between, d_run, d_least, d_counts, d_separator, d_state_pairs, d__words, d_least_paper, d__parts_left, d__parts_right, d_is_least_paper, d__require_alike, d_difference, d_is_same, d_same_paper, d__are_closed, d_is_same_paper, d__law_cell, d__law_row, d__law_draw, d__law_is_integer, d__law_states, d__law_machine, d__law_alphabet, d__law_made, d__law_form, d__law_doubled, d__law_blown, d__law_copy_of, d__law_near, d_law, d_init]
def fa0 : List He.Fa := [.glo "reached_behind", .glo "reached_in_front", .glo "left_words", .glo "right_words", .glo "kept_rows", .glo "_numbered", .glo "classes", .glo "_chosen", .glo "least_parts", .glo "is_alphabet", .glo "is_word", .glo "codes", .glo "spelled", .glo "pairs_behind", .glo "pairs_in_front", .glo "_parting", .glo "first_difference", .glo "_are_rows", .glo "_is_table", .glo "form", .glo "_along", .glo "left_state", .glo "right_state", .glo "states_between", .glo "output_between", .glo "run", .glo "least", .glo "counts", .glo "separator", .glo "state_pairs"]
def fa1 : List He.Fa := [.glo "_words", .glo "least_paper", .glo "_parts_left", .glo "_parts_right", .glo "is_least_paper", .glo "_require_alike", .glo "difference", .glo "is_same", .glo "same_paper", .glo "_are_closed", .glo "is_same_paper", .glo "_law_cell", .glo "_law_row", .glo "_law_draw", .glo "_law_is_integer", .glo "_law_states", .glo "_law_machine", .glo "_law_alphabet", .glo "_law_made", .glo "_law_form", .glo "_law_doubled", .glo "_law_blown", .glo "_law_copy_of", .glo "_law_near", .glo "law", .glo "Machine", .free "len", .free "range", .free "enumerate", .free "zip"]
def fa2 : List He.Fa := [.free "tuple", .free "list", .free "dict", .free "isinstance", .free "str", .free "int", .free "bool", .free "max", .free "all", .free "abs", .int "MOST_LETTERS" 5, .int "MOST_STATES" 40, .str "LETTERS" "abcdefghijklmnopqrstuvwxyz", .cls "Machine", .mkr "Machine", .noat "Machine" "reads", .noat "Machine" "writes", .noat "Machine" "left", .noat "Machine" "right", .noat "Machine" "table"]
def fa : List He.Fa := fa0 ++ fa1 ++ fa2
def lo0 : List PySem.Str := ["reached_behind", "reached_in_front", "left_words", "right_words", "kept_rows", "_numbered", "classes", "_chosen", "least_parts", "LETTERS", "MOST_LETTERS", "is_alphabet", "is_word", "codes", "spelled", "pairs_behind", "pairs_in_front", "_parting", "first_difference", "ForeaftError", "MachineError", "MOST_STATES", "_are_rows", "_is_table", "Machine", "form", "_along", "left_state", "right_state", "states_between"]
def lo1 : List PySem.Str := ["output_between", "run", "least", "counts", "separator", "state_pairs", "_words", "least_paper", "_parts_left", "_parts_right", "is_least_paper", "_require_alike", "difference", "is_same", "same_paper", "_are_closed", "is_same_paper", "_law_cell", "_law_row", "_law_draw", "_law_is_integer", "_law_states", "_law_machine", "_law_alphabet", "_law_made", "_law_form", "_law_doubled", "_law_blown", "_law_copy_of", "_law_near"]
def loose : List PySem.Str := lo0 ++ lo1
end FA
end
section
namespace RQ
open PySem
open PySem.Sem (wp)
/-- the zip's record: what it knows of the tuple that is out -/
def ZRec (h : Heap) (z TI TO : Addr) : Prop := ∃ (c : Value) (f : Bool), (c = .none ∨ ∃ T : Addr, c = rawInt T) ∧
  h.get? z = some { cls := .type "zip", dict := none, data := .fields #[c, .bool f, .bool false, .ref TI, .ref TO], slots := #[] }
structure ZS (z TI TO i1 i2 l1 l2 : Addr) (i : Nat) (h : Heap) : Prop where
  rec_ : ZRec h z TI TO
  ti : IsPair h TI (.ref i1) (.ref i2)
  to_ : ∃ x y, IsPair h TO x y
  it1 : h.IsListIter i1 l1 i
  it2 : h.IsListIter i2 l2 i
section
variable {prog : Program} {w : World} {A : Around} {E : Value → Shared → Prop} {s : Shared}
theorem alive_no {a : Addr} {Q : Option Obj → Shared → Prop} (ho : s.heap.get? a = none) (h : Q none s) : wpAny (model prog w) A (loadIfAlive a) Q E s := by
  have q : Q (s.heap.get? a) s := by rw [ho]; exact h
  exact fun _ _ _ => q
theorem free_item {z TI TO i1 i2 l1 l2 : Addr} {k : Nat} {xs ys : Array Value} {x y c : Value} {f : Bool} {Q : Value → Shared → Prop} (D : ZipApart z TI TO i1 i2 l1 l2)
    (hz : s.heap.get? z = some { cls := .type "zip", dict := none, data := .fields #[c, .bool f, .bool false, .ref TI, .ref TO], slots := #[] })
    (hfree : ∀ R : Bool → Shared → Prop, R true s → wpAny (model prog w) A (Builtin.SmallTypes.ownedTupleIsFree (.ref z)) R E s)
    (st : ZS z TI TO i1 i2 l1 l2 k s.heap) (hl1 : s.heap.IsList l1 xs) (hl2 : s.heap.IsList l2 ys) (hx : xs[k]? = some x) (hy : ys[k]? = some y)
    (hQ : ∀ h', ZS z TI TO i1 i2 l1 l2 (k + 1) h' → IsPair h' s.heap.objs.size x y → h'.objs.size = s.heap.objs.size + 1 →
      (∀ c o, c ≠ z → c ≠ TO → c ≠ i1 → c ≠ i2 → s.heap.get? c = some o → h'.get? c = some o) → Q (.ref s.heap.objs.size) { s with heap := h' }) :
    wpAny (model prog w) A (Builtin.«zip.__next__» ⟨[.ref z], []⟩) (fun fin s' => ∃ v, fin = .done (.ret v) ∧ Q v s') E s := by
  obtain ⟨_, hTI, ⟨a, b, hTO⟩, h1, h2⟩ := st
  show wpAny _ _ (field (.ref z) 2 >>= _) _ _ _
  refine wpAny_bind (wpAny_field hz rfl (x := .bool false) rfl ?_)
  show wpAny _ _ (field (.ref z) 3 >>= _) _ _ _
  refine wpAny_bind (wpAny_field hz rfl (x := .ref TI) rfl ?_)
  refine wpAny_bind (wpAny_seqItems hTI rfl ?_)
  refine wpAny_bind (hfree _ ?_)
  simp only [if_true]
  refine wpAny_bind (wpAny_rule ?_)
  refine wpAny_bind (wpAny_field hz rfl (x := .ref TO) rfl ?_)
  refine wpAny_bind (wpAny_setField_rec hz (by simp) fun g1 z1 e1 => ?_)
  have E1 := e1.extBut
  refine wpAny_bind ?_
  simp only [List.zipIdx_cons, List.zipIdx_nil, List.forIn_cons, List.forIn_nil]
  -- the first list's item
  refine wpAny_bind (wpAny_bind (wpAny_onRaise ?_))
  show wpAny _ _ (Builtin.SmallTypes.nextOf (.ref i1) >>= _) _ _ _
  refine wpAny_bind (wpAny_nextOf_list_item (h1.extBut E1 D.i1z) (hl1.extBut E1 D.l1z) hx fun g2 p2 e2 => wpAny_pure ?_)
  have E2 := e2.extBut
  have o2 : IsPair g2 TO a b := E2 _ _ D.TOi1 (E1 _ _ D.TOz hTO)
  refine wpAny_bind (wpAny_seqItems o2 rfl ?_)
  refine wpAny_bind (wpAny_updateSeq_pair o2 fun g3 o3 e3 => ?_)
  have E3 := e3.extBut
  have o3' : IsPair g3 TO x b := o3
  refine wpAny_bind (wpAny_letGo (wpAny_pure ?_))
  -- the second list's
  refine wpAny_bind (wpAny_bind (wpAny_onRaise ?_))
  show wpAny _ _ (Builtin.SmallTypes.nextOf (.ref i2) >>= _) _ _ _
  refine wpAny_bind (wpAny_nextOf_list_item (((h2.extBut E1 D.i2z).extBut E2 D.i12.symm).extBut E3 D.TOi2.symm) (((hl2.extBut E1 D.l2z).extBut E2 D.l2i1).extBut E3 D.l2TO) hy fun g4 p4 e4 => wpAny_pure ?_)
  have E4 := e4.extBut
  have o4 : IsPair g4 TO x b := E4 _ _ D.TOi2 o3'
  refine wpAny_bind (wpAny_seqItems o4 rfl ?_)
  refine wpAny_bind (wpAny_updateSeq_pair o4 fun g5 o5 e5 => ?_)
  have E5 := e5.extBut
  have o5' : IsPair g5 TO x y := o5
  refine wpAny_bind (wpAny_letGo (wpAny_pure (wpAny_pure ?_)))
  refine wpAny_bind (wpAny_seqItems o5' rfl ?_)
  refine wpAny_bind (wpAny_newTuple ?_)
  have sz : g5.objs.size = s.heap.objs.size := by rw [e5.1, e4.1, e3.1, e2.1, e1.1]
  have z5 := E5 _ _ D.TOz.symm (E4 _ _ D.i2z.symm (E3 _ _ D.TOz.symm (E2 _ _ D.i1z.symm z1)))
  have k5 : ∀ c o, c ≠ z → c ≠ TO → c ≠ i1 → c ≠ i2 → s.heap.get? c = some o → g5.get? c = some o := fun c o n1 n2 n3 n4 q => E5 _ _ n2 (E4 _ _ n4 (E3 _ _ n2 (E2 _ _ n3 (E1 _ _ n1 q))))
  have p1 : g5.IsListIter i1 l1 (k + 1) := ((p2.extBut E3 D.TOi1.symm).extBut E4 D.i12).extBut E5 D.TOi1.symm
  have p2' : g5.IsListIter i2 l2 (k + 1) := p4.extBut E5 D.TOi2.symm
  have zl : z < g5.objs.size := Heap.lt_size z5
  refine wpAny_bind ?_
  unfold Builtin.SmallTypes.ownedTupleHandOut
  have z6 := Heap.get?_push_of_some { cls := .type "tuple", data := .seq #[x, y] } z5
  refine wpAny_bind (wpAny_setField_rec z6 (by simp) fun g7 z7 e7 => ?_)
  refine wpAny_setField_rec z7 (by simp) fun g8 z8 e8 => ?_
  have up : ∀ c o, c ≠ z → g5.get? c = some o → g8.get? c = some o := fun c o n q => e8.extBut _ _ n (e7.extBut _ _ n (Heap.get?_push_of_some _ q))
  have t8 : IsPair g8 g5.objs.size x y := e8.extBut _ _ (Nat.ne_of_gt zl) (e7.extBut _ _ (Nat.ne_of_gt zl) (Heap.get?_push_size _ rfl))
  have s8 : g8.objs.size = g5.objs.size + 1 := by rw [e8.1, e7.1, Heap.size_push]
  rw [sz] at t8 s8
  refine wpAny_pure ⟨_, rfl, ?_⟩
  show Q (.ref g5.objs.size) _
  rw [sz]
  refine hQ g8 ⟨⟨rawInt g5.objs.size, false, .inr ⟨_, rfl⟩, z8⟩, up _ _ D.TIz (k5 _ _ D.TIz D.TITO D.TIi1 D.TIi2 hTI), ⟨x, y, up _ _ D.TOz o5'⟩, p1.at fun o q => up _ o D.i1z q, p2'.at fun o q => up _ o D.i2z q⟩ t8 s8 fun c o n1 n2 n3 n4 q => up c o n1 (k5 c o n1 n2 n3 n4 q)
theorem zip_item {z TI TO i1 i2 l1 l2 : Addr} {k : Nat} {xs ys : Array Value} {x y : Value} {Q : Value → Shared → Prop} (D : ZipApart z TI TO i1 i2 l1 l2)
    (st : ZS z TI TO i1 i2 l1 l2 k s.heap) (hl1 : s.heap.IsList l1 xs) (hl2 : s.heap.IsList l2 ys) (hx : xs[k]? = some x) (hy : ys[k]? = some y)
    (hQ : ∀ h', ZS z TI TO i1 i2 l1 l2 (k + 1) h' → IsPair h' s.heap.objs.size x y → h'.objs.size = s.heap.objs.size + 1 →
      (∀ c o, c ≠ z → c ≠ TO → c ≠ i1 → c ≠ i2 → s.heap.get? c = some o → h'.get? c = some o) → Q (.ref s.heap.objs.size) { s with heap := h' }) :
    wpAny (model prog w) A (Builtin.«zip.__next__» ⟨[.ref z], []⟩) (fun fin s' => ∃ v, fin = .done (.ret v) ∧ Q v s') E s := by
  obtain ⟨c, f, hc, hz⟩ := st.rec_
  rcases hc with rfl | ⟨T, rfl⟩
  · refine free_item D hz (fun R r => ?_) st hl1 hl2 hx hy hQ
    unfold Builtin.SmallTypes.ownedTupleIsFree
    exact wpAny_bind (wpAny_field hz rfl (x := .none) rfl (wpAny_pure r))
  · cases hT : s.heap.get? T with
    | none =>
      refine free_item D hz (fun R r => ?_) st hl1 hl2 hx hy hQ
      unfold Builtin.SmallTypes.ownedTupleIsFree
      refine wpAny_bind (wpAny_field hz rfl (x := rawInt T) rfl ?_)
      show wpAny _ _ (loadIfAlive ((T : Int).toNat) >>= _) _ _ _
      rw [Int.toNat_natCast]
      refine wpAny_bind (alive_no hT ?_)
      simp only [Option.isNone_none, if_true]
      exact wpAny_pure r
    | some oT =>
      refine zip_next_item_held D hz hT st.ti st.it1 st.it2 hl1 hl2 hx hy fun h' a1 a3 a4 a5 a6 hk => ?_
      obtain ⟨a, b, hTO⟩ := st.to_
      exact hQ h' ⟨⟨rawInt T, true, .inr ⟨T, rfl⟩, a1⟩, hk _ _ D.TIz D.TIi1 D.TIi2 st.ti, ⟨a, b, hk _ _ D.TOz D.TOi1 D.TOi2 hTO⟩, a3, a4⟩ a5 a6 fun c o n1 _ n3 n4 q => hk c o n1 n3 n4 q
theorem free_end {z TI TO i1 i2 l1 l2 : Addr} {k : Nat} {xs ys : Array Value} {c : Value} {f : Bool} {Q : Fin → Shared → Prop} (hh : A.handled = none) (D : ZipApart z TI TO i1 i2 l1 l2)
    (hz : s.heap.get? z = some { cls := .type "zip", dict := none, data := .fields #[c, .bool f, .bool false, .ref TI, .ref TO], slots := #[] })
    (hfree : ∀ R : Bool → Shared → Prop, R true s → wpAny (model prog w) A (Builtin.SmallTypes.ownedTupleIsFree (.ref z)) R E s)
    (st : ZS z TI TO i1 i2 l1 l2 k s.heap) (hl1 : s.heap.IsList l1 xs) (hl2 : s.heap.IsList l2 ys) (hend : xs[k]? = none ∨ ys[k]? = none)
    (hE : ∀ h' e, (∀ c o, c ≠ z → c ≠ TO → c ≠ i1 → c ≠ i2 → s.heap.get? c = some o → h'.get? c = some o) → (∃ o, h'.get? e = some o ∧ o.cls = .type "StopIteration") → E (.ref e) { s with heap := h' }) :
    wpAny (model prog w) A (Builtin.«zip.__next__» ⟨[.ref z], []⟩) Q E s := by
  obtain ⟨_, hTI, ⟨a, b, hTO⟩, h1, h2⟩ := st
  show wpAny _ _ (field (.ref z) 2 >>= _) _ _ _
  refine wpAny_bind (wpAny_field hz rfl (x := .bool false) rfl ?_)
  show wpAny _ _ (field (.ref z) 3 >>= _) _ _ _
  refine wpAny_bind (wpAny_field hz rfl (x := .ref TI) rfl ?_)
  refine wpAny_bind (wpAny_seqItems hTI rfl ?_)
  refine wpAny_bind (hfree _ ?_)
  simp only [if_true]
  refine wpAny_bind (wpAny_rule ?_)
  refine wpAny_bind (wpAny_field hz rfl (x := .ref TO) rfl ?_)
  refine wpAny_bind (wpAny_setField_rec hz (by simp) fun g1 z1 e1 => ?_)
  have E1 := e1.extBut
  refine wpAny_bind ?_
  simp only [List.zipIdx_cons, List.zipIdx_nil, List.forIn_cons, List.forIn_nil]
  refine wpAny_bind (wpAny_bind (wpAny_onRaise ?_))
  show wpAny _ _ (Builtin.SmallTypes.nextOf (.ref i1) >>= _) _ _ _
  cases hx : xs[k]? with
  | none =>
    refine wpAny_bind (wpAny_nextOf_list_end hh (h1.extBut E1 D.i1z) (hl1.extBut E1 D.l1z) hx fun g2 e E2 he => ?_)
    obtain ⟨oe, hoe, hce⟩ := he
    have z2 := E2 _ _ D.i1z.symm z1
    have ez : e ≠ z := fun q => by subst q; rw [z2] at hoe; cases hoe; simp at hce
    exact wpAny_setField_rec z2 (by simp) fun g3 _ e3 => hE g3 e (fun c o n1 _ n3 _ q => e3.extBut _ _ n1 (E2 _ _ n3 (E1 _ _ n1 q))) ⟨oe, e3.extBut _ _ ez hoe, hce⟩
  | some x =>
    have hy : ys[k]? = none := by rcases hend with h | h; rw [hx] at h; cases h; exact h
    refine wpAny_bind (wpAny_nextOf_list_item (h1.extBut E1 D.i1z) (hl1.extBut E1 D.l1z) hx fun g2 p2 e2 => wpAny_pure ?_)
    have E2 := e2.extBut
    have o2 : IsPair g2 TO a b := E2 _ _ D.TOi1 (E1 _ _ D.TOz hTO)
    refine wpAny_bind (wpAny_seqItems o2 rfl ?_)
    refine wpAny_bind (wpAny_updateSeq_pair o2 fun g3 o3 e3 => ?_)
    have E3 := e3.extBut
    refine wpAny_bind (wpAny_letGo (wpAny_pure ?_))
    refine wpAny_bind (wpAny_bind (wpAny_onRaise ?_))
    show wpAny _ _ (Builtin.SmallTypes.nextOf (.ref i2) >>= _) _ _ _
    refine wpAny_bind (wpAny_nextOf_list_end hh (((h2.extBut E1 D.i2z).extBut E2 D.i12.symm).extBut E3 D.TOi2.symm) (((hl2.extBut E1 D.l2z).extBut E2 D.l2i1).extBut E3 D.l2TO) hy fun g4 e E4 he => ?_)
    obtain ⟨oe, hoe, hce⟩ := he
    have z4 := E4 _ _ D.i2z.symm (E3 _ _ D.TOz.symm (E2 _ _ D.i1z.symm z1))
    have ez : e ≠ z := fun q => by subst q; rw [z4] at hoe; cases hoe; simp at hce
    exact wpAny_setField_rec z4 (by simp) fun g5 _ e5 => hE g5 e (fun c o n1 n2 n3 n4 q => e5.extBut _ _ n1 (E4 _ _ n4 (E3 _ _ n2 (E2 _ _ n3 (E1 _ _ n1 q))))) ⟨oe, e5.extBut _ _ ez hoe, hce⟩
theorem zip_end {z TI TO i1 i2 l1 l2 : Addr} {k : Nat} {xs ys : Array Value} {Q : Fin → Shared → Prop} (hh : A.handled = none) (D : ZipApart z TI TO i1 i2 l1 l2)
    (st : ZS z TI TO i1 i2 l1 l2 k s.heap) (hl1 : s.heap.IsList l1 xs) (hl2 : s.heap.IsList l2 ys) (hend : xs[k]? = none ∨ ys[k]? = none)
    (hE : ∀ h' e, (∀ c o, c ≠ z → c ≠ TO → c ≠ i1 → c ≠ i2 → s.heap.get? c = some o → h'.get? c = some o) → (∃ o, h'.get? e = some o ∧ o.cls = .type "StopIteration") → E (.ref e) { s with heap := h' }) :
    wpAny (model prog w) A (Builtin.«zip.__next__» ⟨[.ref z], []⟩) Q E s := by
  obtain ⟨c, f, hc, hz⟩ := st.rec_
  rcases hc with rfl | ⟨T, rfl⟩
  · refine free_end hh D hz (fun R r => ?_) st hl1 hl2 hend hE
    unfold Builtin.SmallTypes.ownedTupleIsFree
    exact wpAny_bind (wpAny_field hz rfl (x := .none) rfl (wpAny_pure r))
  · cases hT : s.heap.get? T with
    | none =>
      refine free_end hh D hz (fun R r => ?_) st hl1 hl2 hend hE
      unfold Builtin.SmallTypes.ownedTupleIsFree
      refine wpAny_bind (wpAny_field hz rfl (x := rawInt T) rfl ?_)
      show wpAny _ _ (loadIfAlive ((T : Int).toNat) >>= _) _ _ _
      rw [Int.toNat_natCast]
      refine wpAny_bind (alive_no hT ?_)
      simp only [Option.isNone_none, if_true]
      exact wpAny_pure r
    | some oT =>
      exact zip_next_end_held hh D hz hT st.ti st.it1 st.it2 hl1 hl2 hend fun h' e hk he => hE h' e (fun c o n1 _ n3 n4 q => hk c o n1 n3 n4 q) he
theorem ZRec.typeIs {s : Shared} {z TI TO : Addr} (h : ZRec s.heap z TI TO) : s.TypeIs (.ref z) "zip" := by
  obtain ⟨c, f, _, hz⟩ := h
  exact ⟨_, hz, rfl⟩
theorem next_item {z TI TO i1 i2 l1 l2 : Addr} {k : Nat} {xs ys : Array Value} {x y : Value} {Q : Option Value → Shared → Prop} (D : ZipApart z TI TO i1 i2 l1 l2)
    (st : ZS z TI TO i1 i2 l1 l2 k s.heap) (hl1 : s.heap.IsList l1 xs) (hl2 : s.heap.IsList l2 ys) (hx : xs[k]? = some x) (hy : ys[k]? = some y)
    (hQ : ∀ h', ZS z TI TO i1 i2 l1 l2 (k + 1) h' → IsPair h' s.heap.objs.size x y → h'.objs.size = s.heap.objs.size + 1 →
      (∀ c o, c ≠ z → c ≠ TO → c ≠ i1 → c ≠ i2 → s.heap.get? c = some o → h'.get? c = some o) → Q (some (.ref s.heap.objs.size)) { s with heap := h' }) :
    wpAny (model prog w) A (pyNext (.ref z)) Q E s := by
  have hT := st.rec_.typeIs
  unfold pyNext
  exact wpAny_bind (wpAny_attempt (wpAny_callSpecial?_slot (name := Str.ofString "__next__") hT F.slot_zip_next
    (wpAny_call_entry F.slot_zip_next hT F.entry_zip_next (zip_item D st hl1 hl2 hx hy fun h' a1 a2 a3 a4 => wpAny_pure (hQ h' a1 a2 a3 a4)) (F.args_zip_next_1 _))))
theorem next_end {z TI TO i1 i2 l1 l2 : Addr} {k : Nat} {xs ys : Array Value} {Q : Option Value → Shared → Prop} (hh : A.handled = none) (D : ZipApart z TI TO i1 i2 l1 l2)
    (st : ZS z TI TO i1 i2 l1 l2 k s.heap) (hl1 : s.heap.IsList l1 xs) (hl2 : s.heap.IsList l2 ys) (hend : xs[k]? = none ∨ ys[k]? = none)
    (hQ : ∀ h', (∀ c o, c ≠ z → c ≠ TO → c ≠ i1 → c ≠ i2 → s.heap.get? c = some o → h'.get? c = some o) → Q none { s with heap := h' }) : wpAny (model prog w) A (pyNext (.ref z)) Q E s := by
  have hT := st.rec_.typeIs
  unfold pyNext
  refine wpAny_bind (wpAny_attempt (wpAny_callSpecial?_slot (name := Str.ofString "__next__") hT F.slot_zip_next
    (wpAny_call_entry F.slot_zip_next hT F.entry_zip_next (zip_end hh D st hl1 hl2 hend fun h' e hk he => ?_) (F.args_zip_next_1 _))))
  obtain ⟨o, ho, hc⟩ := he
  refine wpAny_bind (wpAny_isInstance (T := "StopIteration") (b := true) ⟨o, ho, hc⟩ isSubtype_stop ?_)
  exact wpAny_pure (hQ _ hk)
theorem of_item {z TI TO i1 i2 l1 l2 : Addr} {k : Nat} {xs ys : Array Value} {x y : Value} {Q : Value → Shared → Prop} (D : ZipApart z TI TO i1 i2 l1 l2)
    (st : ZS z TI TO i1 i2 l1 l2 k s.heap) (hl1 : s.heap.IsList l1 xs) (hl2 : s.heap.IsList l2 ys) (hx : xs[k]? = some x) (hy : ys[k]? = some y)
    (hQ : ∀ h', ZS z TI TO i1 i2 l1 l2 (k + 1) h' → IsPair h' s.heap.objs.size x y → h'.objs.size = s.heap.objs.size + 1 →
      (∀ c o, c ≠ z → c ≠ TO → c ≠ i1 → c ≠ i2 → s.heap.get? c = some o → h'.get? c = some o) → Q (.ref s.heap.objs.size) { s with heap := h' }) :
    wpAny (model prog w) A (Builtin.SmallTypes.nextOf (.ref z)) Q E s := by
  have hT := st.rec_.typeIs
  unfold Builtin.SmallTypes.nextOf
  exact wpAny_bind (wpAny_callSpecial?_slot (name := Str.ofString "__next__") hT F.slot_zip_next
    (wpAny_call_entry F.slot_zip_next hT F.entry_zip_next (zip_item D st hl1 hl2 hx hy fun h' a1 a2 a3 a4 => wpAny_pure (hQ h' a1 a2 a3 a4)) (F.args_zip_next_1 _)))
theorem of_end {z TI TO i1 i2 l1 l2 : Addr} {k : Nat} {xs ys : Array Value} {Q : Value → Shared → Prop} (hh : A.handled = none) (D : ZipApart z TI TO i1 i2 l1 l2)
    (st : ZS z TI TO i1 i2 l1 l2 k s.heap) (hl1 : s.heap.IsList l1 xs) (hl2 : s.heap.IsList l2 ys) (hend : xs[k]? = none ∨ ys[k]? = none)
    (hE : ∀ h' e, (∀ c o, c ≠ z → c ≠ TO → c ≠ i1 → c ≠ i2 → s.heap.get? c = some o → h'.get? c = some o) → (∃ o, h'.get? e = some o ∧ o.cls = .type "StopIteration") → E (.ref e) { s with heap := h' }) :
    wpAny (model prog w) A (Builtin.SmallTypes.nextOf (.ref z)) Q E s := by
  have hT := st.rec_.typeIs
  unfold Builtin.SmallTypes.nextOf
  exact wpAny_bind (wpAny_callSpecial?_slot (name := Str.ofString "__next__") hT F.slot_zip_next
    (wpAny_call_entry F.slot_zip_next hT F.entry_zip_next (zip_end hh D st hl1 hl2 hend hE) (F.args_zip_next_1 _)))
end
end RQ
end
section
namespace RQ
open PySem
open PySem.Sem (wp)
section
variable {prog : Program} {w : World} {A : Around} {E : Value → Shared → Prop} {s : Shared}
/-- enumerate's next, over anything whose next is known -/
theorem en_item {e it : Addr} {c : Int} {Q : Value → Shared → Prop} {old : Value} (he0 : IsEnum s.heap e it c old)
    (hn : wpAny (model prog w) A (Builtin.SmallTypes.nextOf (.ref it)) (fun x s1 => IsEnum s1.heap e it c old ∧
      ∀ h' tk, IsEnumOut h' e it (c + 1) x s1.heap.objs.size → h'.get? s1.heap.objs.size = some { cls := .type "tuple", data := .seq #[.int c tk, x] } → h'.objs.size = s1.heap.objs.size + 1 →
        (∀ b o, b ≠ e → s1.heap.get? b = some o → h'.get? b = some o) → Q (.ref s1.heap.objs.size) { s1 with heap := h', toks := tk + 1 }) E s) :
    wpAny (model prog w) A (Builtin.«enumerate.__next__» ⟨[.ref e], []⟩) (fun fin s' => ∃ v, fin = .done (.ret v) ∧ Q v s') E s := by
  show wpAny _ _ (field (.ref e) 2 >>= _) _ _ _
  refine wpAny_bind (wpAny_field he0 rfl (x := .ref it) rfl ?_)
  refine wpAny_bind (wpAny_mono hn (fun x s1 hx => ?_) fun _ _ z => z)
  obtain ⟨e1, q⟩ := hx
  obtain ⟨hp, g, d, tk, os⟩ := s1
  show wpAny _ _ (field (.ref e) 3 >>= _) _ _ ⟨hp, g, d, tk, os⟩
  refine wpAny_bind (wpAny_field e1 rfl (x := rawInt c) rfl ?_)
  show wpAny _ _ (field (.ref e) 4 >>= _) _ _ ⟨hp, g, d, tk, os⟩
  refine wpAny_bind (wpAny_field e1 rfl (x := .none) rfl ?_)
  show wpAny _ _ (mkInt c >>= _) _ _ ⟨hp, g, d, tk, os⟩
  refine wpAny_bind (wpAny_mkInt ?_)
  show wpAny _ _ (setField (.ref e) 3 (rawInt (c + 1)) >>= _) _ _ ⟨hp, g, d, tk + 1, os⟩
  refine wpAny_bind (wpAny_setField_rec e1 (by simp) fun g2 e2 b2 => ?_)
  show wpAny _ _ (setField (.ref e) 4 .none >>= _) _ _ ⟨g2, g, d, tk + 1, os⟩
  refine wpAny_bind (wpAny_setField_rec e2 (by simp) fun g3 e3 b3 => ?_)
  have e3' : IsEnum g3 e it (c + 1) old := e3
  show wpAny _ _ (newTuple [.int c tk, x] >>= _) _ _ ⟨g3, g, d, tk + 1, os⟩
  refine wpAny_bind (wpAny_newTuple ?_)
  have sz : g3.objs.size = hp.objs.size := by rw [b3.1, b2.1]
  have el : e < hp.objs.size := Heap.lt_size e1
  have e4 : IsEnum (g3.push { cls := .type "tuple", data := .seq #[.int c tk, x] }) e it (c + 1) old := Heap.get?_push_of_some _ e3'
  have t4 : (g3.push { cls := .type "tuple", data := .seq #[.int c tk, x] }).get? hp.objs.size = some { cls := .type "tuple", data := .seq #[.int c tk, x] } := by rw [← sz]; exact Heap.get?_push_size _ rfl
  have s4 : (g3.push { cls := .type "tuple", data := .seq #[.int c tk, x] }).objs.size = hp.objs.size + 1 := by rw [Heap.size_push, sz]
  have k4 : ∀ b o, b ≠ e → hp.get? b = some o → (g3.push { cls := .type "tuple", data := .seq #[.int c tk, x] }).get? b = some o := fun b o n z => Heap.get?_push_of_some _ (b3.extBut b o n (b2.extBut b o n z))
  show wpAny _ _ (Builtin.SmallTypes.ownedTupleIsFree (.ref e) >>= _) _ _ ⟨g3.push { cls := .type "tuple", data := .seq #[.int c tk, x] }, g, d, tk + 1, os⟩
  rw [sz]
  generalize g3.push { cls := .type "tuple", data := .seq #[.int c tk, x] } = g4 at e4 t4 s4 k4
  refine wpAny_bind ?_
  unfold Builtin.SmallTypes.ownedTupleIsFree
  refine wpAny_bind (wpAny_field e4 rfl (x := .none) rfl (wpAny_pure ?_))
  simp only [if_true]
  refine wpAny_bind (wpAny_rule ?_)
  refine wpAny_bind (wpAny_field e4 rfl (x := old) rfl ?_)
  refine wpAny_bind (wpAny_setField_rec e4 (by simp) fun g5 e5 b5 => ?_)
  have e5' : IsEnum g5 e it (c + 1) x := e5
  refine wpAny_bind ?_
  unfold Builtin.SmallTypes.ownedTupleHandOut
  refine wpAny_bind (wpAny_setField_rec e5' (by simp) fun g6 e6 b6 => ?_)
  have e6' : IsEnumOut g6 e it (c + 1) x hp.objs.size := e6
  refine wpAny_setField_rec e6' (by simp) fun g7 e7 b7 => ?_
  have e7' : IsEnumOut g7 e it (c + 1) x hp.objs.size := e7
  refine wpAny_bind (wpAny_letGo (wpAny_pure ⟨_, rfl, q g7 tk e7' ?_ ?_ ?_⟩))
  · exact b7.extBut _ _ (Nat.ne_of_gt el) (b6.extBut _ _ (Nat.ne_of_gt el) (b5.extBut _ _ (Nat.ne_of_gt el) t4))
  · rw [b7.1, b6.1, b5.1, s4]
  · exact fun b o n z => b7.extBut b o n (b6.extBut b o n (b5.extBut b o n (k4 b o n z)))
theorem en_next {e it : Addr} {c : Int} {Q : Option Value → Shared → Prop} {old : Value} (he0 : IsEnum s.heap e it c old)
    (hn : wpAny (model prog w) A.in1 (Builtin.SmallTypes.nextOf (.ref it)) (fun x s1 => IsEnum s1.heap e it c old ∧
      ∀ h' tk, IsEnumOut h' e it (c + 1) x s1.heap.objs.size → h'.get? s1.heap.objs.size = some { cls := .type "tuple", data := .seq #[.int c tk, x] } → h'.objs.size = s1.heap.objs.size + 1 →
        (∀ b o, b ≠ e → s1.heap.get? b = some o → h'.get? b = some o) → Q (some (.ref s1.heap.objs.size)) { s1 with heap := h', toks := tk + 1 }) (fun _ _ => False) s) :
    wpAny (model prog w) A (pyNext (.ref e)) Q E s := by
  have hT : s.TypeIs (.ref e) "enumerate" := ⟨_, he0, rfl⟩
  unfold pyNext
  refine wpAny_bind (wpAny_attempt (wpAny_callSpecial?_slot (name := Str.ofString "__next__") hT F.slot_enumerate_next
    (wpAny_call_entry F.slot_enumerate_next hT F.entry_enumerate_next (en_item (Q := fun v s' => Q (some v) s') he0 (wpAny_mono hn (fun x s1 z => z) fun _ _ z => z.elim) |> fun z => wpAny_mono z (fun fin s' ⟨v, a, b⟩ => ⟨v, a, wpAny_pure b⟩) fun _ _ z => z) (F.args_enumerate_next_1 _))))
theorem en_stop {e it : Addr} {c : Int} {Q : Option Value → Shared → Prop} {old : Value} (he0 : IsEnum s.heap e it c old)
    (hn : ∀ (Q' : Value → Shared → Prop) (E' : Value → Shared → Prop), (∀ h' x, (∃ o, h'.get? x = some o ∧ o.cls = .type "StopIteration") → (Q none { s with heap := h' }) → E' (.ref x) { s with heap := h' }) →
      wpAny (model prog w) A.in1 (Builtin.SmallTypes.nextOf (.ref it)) Q' E' s) :
    wpAny (model prog w) A (pyNext (.ref e)) Q E s := by
  have hT : s.TypeIs (.ref e) "enumerate" := ⟨_, he0, rfl⟩
  unfold pyNext
  refine wpAny_bind (wpAny_attempt (wpAny_callSpecial?_slot (name := Str.ofString "__next__") hT F.slot_enumerate_next
    (wpAny_call_entry F.slot_enumerate_next hT F.entry_enumerate_next ?_ (F.args_enumerate_next_1 _))))
  show wpAny _ _ (field (.ref e) 2 >>= _) _ _ _
  refine wpAny_bind (wpAny_field he0 rfl (x := .ref it) rfl ?_)
  refine wpAny_bind (hn _ _ fun h' x hx hq => ?_)
  obtain ⟨o, ho, hc⟩ := hx
  refine wpAny_bind (wpAny_isInstance (T := "StopIteration") (b := true) ⟨o, ho, hc⟩ isSubtype_stop ?_)
  exact wpAny_pure hq
theorem pyIter_z {z TI TO : Addr} {Q : Value → Shared → Prop} (hz : ZRec s.heap z TI TO) (h : Q (.ref z) s) : wpAny (model prog w) A (pyIter (.ref z)) Q E s := by
  have hT := hz.typeIs
  refine wpAny_pyIter_slot hT F.slot_zip_iter (wpAny_call_entry F.slot_zip_iter hT F.entry_zip_iter ?_ (F.args_zip_iter_1 _))
  show wpAny _ _ (ret (.ref z)) _ _ s
  exact wpAny_pure ⟨_, rfl, "zip", _, hT, F.slot_zip_next.lookup, h⟩
theorem meets_en_zip (z TI TO : Addr) :
    Meets (Builtin.«enumerate.__new__» ⟨[.type "enumerate", .ref z], []⟩) (fun _ R s => IsZip s.heap z TI TO .none ∧
      R (.ok (.ret (.ref s.heap.objs.size))) { s with heap := s.heap.push { cls := .type "enumerate", data := .fields #[.none, .bool false, .ref z, rawInt 0, .none, .none] } }) :=
  .of_wp fun prog w A R s h => by
    obtain ⟨hp, g, d, tk, os⟩ := s; obtain ⟨hz, h⟩ := h
    have hsub := sub_enumerate
    have q1 : ∀ {A' : Around} {E : Value → Shared → Prop} {Q : Value → Shared → Prop}, Q (.ref z) ⟨hp, g, d, tk, os⟩ → wpAny (model prog w) A' (pyIter (.ref z)) Q E ⟨hp, g, d, tk, os⟩ :=
      fun q => pyIter_z (s := ⟨hp, g, d, tk, os⟩) ⟨.none, false, .inl rfl, hz⟩ q
    wp_walk using q1
    refine wpAny_stack_any fun st => wpAny_pure ?_
    split
    · rename_i c _ _ _ _ _
      cases (c == Value.type "enumerate")
      · wp_walk using q1
        exact ⟨_, rfl, h⟩
      · wp_walk using q1
        exact ⟨_, rfl, h⟩
    · wp_walk using q1
      exact ⟨_, rfl, h⟩
theorem call_en_zip {z TI TO : Addr} {Q : Value → Shared → Prop} (hz : IsZip s.heap z TI TO .none)
    (h : ∀ h', IsEnum h' s.heap.objs.size z 0 .none → (∀ b o, s.heap.get? b = some o → h'.get? b = some o) → Q (.ref s.heap.objs.size) { s with heap := h' }) :
    wpAny (model prog w) A (call (.type "enumerate") [.ref z]) Q E s := by
  refine callType_new F.called_enumerate (by decide) (F.typeCall_enumerate_1 _) (F.newCall_enumerate_1 _) (fun obj => F.args_object_init_2 obj _) F.entry_enumerate_new
    (meets_en_zip z TI TO) ⟨hz, ?_⟩
  have e : IsEnum (s.heap.push { cls := .type "enumerate", data := .fields #[.none, .bool false, .ref z, rawInt 0, .none, .none] }) s.heap.objs.size z 0 .none := Heap.get?_push_size _ rfl
  exact ⟨⟨_, e, rfl⟩, h _ e fun b o q => Heap.get?_push_of_some _ q⟩
end
end RQ
end
section
namespace L2
open PySem PySem.Spec PyProof.Rows
open RQ
theorem zs_cells {z TI TO i1 i2 a b : Addr} {i : Nat} {h : Heap} (st : ZS z TI TO i1 i2 a b i h) : ∀ c ∈ [z, TI, TO, i1, i2], ∃ o, h.get? c = some o ∧ ∀ v, o.data ≠ .cell v := by
  obtain ⟨⟨c0, f, _, hz⟩, hTI, ⟨x, y, hTO⟩, ⟨o1, e1, _, d1⟩, ⟨o2, e2, _, d2⟩⟩ := st
  intro c hc
  have e' : c = z ∨ c = TI ∨ c = TO ∨ c = i1 ∨ c = i2 := by simpa using hc
  rcases e' with q | q | q | q | q
  · rw [q]; exact ⟨_, hz, fun v q => nomatch q⟩
  · rw [q]; exact ⟨_, hTI, fun v q => nomatch q⟩
  · rw [q]; exact ⟨_, hTO, fun v q => nomatch q⟩
  · rw [q]; exact ⟨o1, e1, fun v q => by rw [d1] at q; cases q⟩
  · rw [q]; exact ⟨o2, e2, fun v q => by rw [d2] at q; cases q⟩
theorem zs_keep {z TI TO i1 i2 a b : Addr} {i : Nat} {h h' : Heap} (st : ZS z TI TO i1 i2 a b i h) (k : ∀ c ∈ [z, TI, TO, i1, i2], ∀ o, h.get? c = some o → h'.get? c = some o) : ZS z TI TO i1 i2 a b i h' := by
  obtain ⟨⟨c0, f, n, hz⟩, hTI, ⟨x, y, hTO⟩, h1, h2⟩ := st
  exact ⟨⟨c0, f, n, k z (by simp) _ hz⟩, k TI (by simp) _ hTI, ⟨x, y, k TO (by simp) _ hTO⟩, h1.at fun o q => k i1 (by simp) o q, h2.at fun o q => k i2 (by simp) o q⟩
theorem zs_lt {z TI TO i1 i2 a b : Addr} {i : Nat} {h : Heap} (st : ZS z TI TO i1 i2 a b i h) : ∀ c ∈ [z, TI, TO, i1, i2], c < h.objs.size := fun c hc => let ⟨_, e, _⟩ := zs_cells st c hc; Heap.lt_size e
theorem zs_new {h : Heap} {z TI TO i1 i2 a b : Addr} (hz : IsZip h z TI TO .none) (hTI : IsPair h TI (.ref i1) (.ref i2)) {x y : Value} (hTO : IsPair h TO x y) (h1 : h.IsListIter i1 a 0) (h2 : h.IsListIter i2 b 0) : ZS z TI TO i1 i2 a b 0 h :=
  ⟨⟨.none, false, .inl rfl, hz⟩, hTI, ⟨x, y, hTO⟩, h1, h2⟩
/-- one zip turn seen by the layer -/
theorem zs_step {X : Cx} {pins : List (Addr × Obj)} {σ : St} {H : Hp} {s : Shared} {h' : Heap} {z TI TO i1 i2 : Addr} {ch : List Addr} {x y : V} {u u2 : Value} (I : Inv X pins σ H s) (hf : ∀ c ∈ ch, FpOk X pins H c) (hsub : ∀ c, c = z ∨ c = TO ∨ c = i1 ∨ c = i2 → c ∈ ch)
    (ru : RelV x u) (ru2 : RelV y u2) (hT : IsPair h' s.heap.objs.size u u2) (hk : ∀ c o, c ≠ z → c ≠ TO → c ≠ i1 → c ≠ i2 → s.heap.get? c = some o → h'.get? c = some o) :
    Inv X pins σ (upd H s.heap.objs.size (.tup [x, y])) { s with heap := h' } := by
  have new : ObjOk X.prog X.w (upd H s.heap.objs.size (.tup [x, y])) h' s.heap.objs.size (.tup [x, y]) :=
    ⟨by show 2 ≤ sizeLine; decide, [u, u2], .cons ru (.cons ru2 .nil), ⟨_, hT, rfl, _, rfl⟩⟩
  exact I.turnedNew (t' := s.toks) (ch := ch) (fun c o hb q => hk c o (fun q' => hb (hsub c (.inl q'))) (fun q' => hb (hsub c (.inr (.inl q')))) (fun q' => hb (hsub c (.inr (.inr (.inl q'))))) (fun q' => hb (hsub c (.inr (.inr (.inr q'))))) q) hf (Nat.le_refl _) new
theorem turn_zipN {P : Program} {w : World} {K : PySem.W.Frag} {nm : Str} {tpos : Pos} {a b z TI TO i1 i2 : Addr} (D : ZipApart z TI TO i1 i2 a b) :
    Turn P w K (.Name nm tpos) (Itz K a b) [z, TI, TO, i1, i2] z (fun i h => ZS z TI TO i1 i2 a b i h) where
  mem := by simp
  obj := fun i h st c hc => zs_cells st c hc
  keep := fun i h h' st k => zs_keep st k
  item := by
    intro X hP hw hK hc i pins s σ H E I hf st hg
    subst hP hw hK
    obtain ⟨xs, ys, x, y, hqx, hqy, hx, hy⟩ := hg
    obtain ⟨its, rv, p, _⟩ := I.list hqx
    obtain ⟨its2, rv2, p2, _⟩ := I.list hqy
    obtain ⟨u, hu, ru⟩ := rv.get hx
    obtain ⟨u2, hu2, ru2⟩ := rv2.get hy
    refine next_item D st p.isList p2.isList (x := u) (y := u2) (by simpa using hu) (by simpa using hu2) fun h' st' hT hsz hk => ?_
    have I1 := zs_step (TI := TI) (x := x) (y := y) I hf (fun c q => by rcases q with q | q | q | q <;> simp [q]) ru ru2 hT hk
    refine ⟨_, rfl, ?_⟩
    show wpAny _ _ (pure ()) _ _ _
    refine wpAny_pure ⟨.ref s.heap.objs.size, _, I1, rfl, ⟨_, x, y, rfl, I.hok.fresh (Nat.le_refl _), rfl, fun l hl => by rw [I.list_inj hl hqx]; exact hx, fun l hl => by rw [I.list_inj hl hqy]; exact hy⟩, st', fun c hcm => ?_⟩
    rw [upd_ne (Nat.ne_of_lt (zs_lt st c hcm))]
    exact (hf c hcm).1
  done := by
    intro X hP hw hK hc i pins s σ H E I hf st hg
    subst hP hw hK
    obtain ⟨xs, ys, hqx, hqy, hend⟩ := hg
    obtain ⟨its, rv, p, _⟩ := I.list hqx
    obtain ⟨its2, rv2, p2, _⟩ := I.list hqy
    have l1 := rv.length
    have l2 := rv2.length
    have he : its.toArray[i]? = none ∨ its2.toArray[i]? = none := by
      rcases hend with q | q
      · exact .inl (by simp; omega)
      · exact .inr (by simp; omega)
    exact next_end (I.ok.hd hc) D st p.isList p2.isList he fun h' hk => ⟨rfl, I.turnedL (t' := s.toks) (ch := [z, TI, TO, i1, i2]) (fun c o hb q =>
      hk c o (fun q' => hb (by simp [q'])) (fun q' => hb (by simp [q'])) (fun q' => hb (by simp [q'])) (fun q' => hb (by simp [q'])) q) hf⟩
  self := fun A i s Q E st h => pyIter_z st.rec_ h
/-- a zip is made -/
theorem zip_made {X : Cx} {pins : List (Addr × Obj)} {σ : St} {H1 : Hp} {s1 : Shared} {a b : Addr} {xs ys : List V} {Q : Value → Shared → Prop} {E : Value → Shared → Prop} (I1 : Inv X pins σ H1 s1) (hqx : SqL X.K H1 a xs) (hqy : SqL X.K H1 b ys)
    (h : ∀ (z TI TO i1 i2 : Addr) (h' : Heap), ZipApart z TI TO i1 i2 a b → IsZip h' z TI TO .none → ZS z TI TO i1 i2 a b 0 h' → (∀ c ∈ [z, TI, TO, i1, i2], s1.heap.objs.size ≤ c) → (∀ c o, s1.heap.get? c = some o → h'.get? c = some o) →
      Inv X pins σ H1 { s1 with heap := h' } → Q (.ref z) { s1 with heap := h' }) : wpAny (model X.prog X.w) X.A (call (.type "zip") [.ref a, .ref b]) Q E s1 := by
  obtain ⟨its, rv, p1, _⟩ := I1.list hqx
  obtain ⟨its2, rv2, p2, _⟩ := I1.list hqy
  have la : a < s1.heap.objs.size := p1.lt
  have lb : b < s1.heap.objs.size := p2.lt
  refine call_zip_2 p1.isList p2.isList fun h' hz hTI hTO h1 h2 hsz hk => ?_
  refine h _ _ _ _ _ h' (PySem.W.ktu_apart s1.heap.objs.size a b la lb) hz (zs_new hz hTI hTO h1 h2) (fun c hc => ?_) hk (I1.kept (t' := s1.toks) hk)
  have e' : c = s1.heap.objs.size + 4 ∨ c = s1.heap.objs.size + 2 ∨ c = s1.heap.objs.size + 3 ∨ c = s1.heap.objs.size ∨ c = s1.heap.objs.size + 1 := by simpa using hc
  rcases e' with q | q | q | q | q
  · rw [q]; exact Nat.le_add_right _ _
  · rw [q]; exact Nat.le_add_right _ _
  · rw [q]; exact Nat.le_add_right _ _
  · rw [q]; exact Nat.le_refl _
  · rw [q]; exact Nat.le_add_right _ _
theorem pi_zipN {X : Cx} {e e2 : Expr} {ta : TA} {p pos tpos : Pos} {nm : Str} (hg : Gl X "zip") (hm : X.mg "zip" = none) (ha : PA X [e, e2] ta)
    (hs : starEach [e, e2] X.env = (false, eval e X.env) :: starEach [e2] X.env := by rfl) (hpl : (backTo pos (starEach [e2] X.env)).any (·.1) = false := by rfl) :
    PI X (.Name nm tpos) (.Call (.Name "zip" p) [e, e2] [] pos) (iZip X.K ta) := by
  refine ⟨fun pins s σ H R I h => ?_⟩
  refine Call_ (ld_blt I hg hm PyProof.Rows.boot_zip (PyProof.Rows.callWith_type1 (thn (ha.run pos pins s σ H _ I h) fun us s1 ⟨vs, H1, I1, r1, q1⟩ => ?_) hs hpl))
  obtain ⟨a, b, xs, ys, ex, hqx, hqy, q⟩ := q1
  subst ex
  cases r1 with
  | cons r rr =>
    cases rr with
    | cons r' rr =>
      cases rr
      cases r
      cases r'
      refine zip_made I1 hqx hqy fun z TI TO i1 i2 h' D hz st hle hk I2 => ?_
      exact pyIter_z st.rec_ ⟨z, [z, TI, TO, i1, i2], _, _, H1, rfl, I2, turn_zipN D, st, fun c hc => I1.fpOk (hle c hc) (I1.hok.fresh (hle c hc)), q⟩

/-- turn i gives a new pair of i and a new pair of the items -/
def Itez (K : PySem.W.Frag) (a b : Addr) : It :=
  ⟨fun i H => ∃ (xs ys : List V) (x y : V), SqL K H a xs ∧ SqL K H b ys ∧ xs[i]? = some x ∧ ys[i]? = some y,
    fun i H v H' => ∃ T e x y, v = .ref e ∧ H T = none ∧ H e = none ∧ e ≠ T ∧ H' = upd (upd H T (.tup [x, y])) e (.tup [.int (i : Nat), .ref T]) ∧ (∀ xs, SqL K H a xs → xs[i]? = some x) ∧ ∀ ys, SqL K H b ys → ys[i]? = some y,
    fun i H => ∃ xs ys : List V, SqL K H a xs ∧ SqL K H b ys ∧ (xs.length ≤ i ∨ ys.length ≤ i)⟩
theorem turn_enz {P : Program} {w : World} {K : PySem.W.Frag} {elts : List Expr} {kk : Nat} {tpos : Pos} {a b e z TI TO i1 i2 : Addr} (D : ZipApart z TI TO i1 i2 a b) (he : e ∉ [z, TI, TO, i1, i2]) :
    Turn P w K (.Tuple elts kk tpos) (Itez K a b) [e, z, TI, TO, i1, i2] e (fun i h => (∃ old, IsEnum h e z (i : Nat) old) ∧ ZS z TI TO i1 i2 a b i h) where
  mem := by simp
  obj := fun i h st c hc => by
    rcases List.mem_cons.mp hc with q | q
    · obtain ⟨⟨old, hE⟩, _⟩ := st
      rw [q]; exact ⟨_, hE, fun v q => nomatch q⟩
    · exact zs_cells st.2 c q
  keep := fun i h h' st k => ⟨let ⟨old, hE⟩ := st.1; ⟨old, k e (by simp) _ hE⟩, zs_keep st.2 fun c hc => k c (List.mem_cons_of_mem _ hc)⟩
  item := by
    intro X hP hw hK hc i pins s σ H E I hf st hg
    subst hP hw hK
    obtain ⟨⟨old, hE⟩, st⟩ := st
    obtain ⟨xs, ys, x, y, hqx, hqy, hx, hy⟩ := hg
    obtain ⟨its, rv, p, _⟩ := I.list hqx
    obtain ⟨its2, rv2, p2, _⟩ := I.list hqy
    obtain ⟨u, hu, ru⟩ := rv.get hx
    obtain ⟨u2, hu2, ru2⟩ := rv2.get hy
    have ne : ∀ {c}, c ∈ [z, TI, TO, i1, i2] → e ≠ c := fun hm q => he (q ▸ hm)
    have el : e < s.heap.objs.size := Heap.lt_size hE
    refine en_next hE (of_item D st p.isList p2.isList (x := u) (y := u2) (by simpa using hu) (by simpa using hu2) fun h1 st1 hT hsz hk => ⟨hk _ _ (ne (by simp)) (ne (by simp)) (ne (by simp)) (ne (by simp)) hE, fun h2 tk he2 ht2 hs2 hk2 => ?_⟩)
    have I1 := zs_step (TI := TI) (x := x) (y := y) (ch := [z, TI, TO, i1, i2]) I (fun c hc => hf c (List.mem_cons_of_mem _ hc)) (fun c q => by rcases q with q | q | q | q <;> simp [q]) ru ru2 hT hk
    have fr1 : ∀ c ∈ [e, z, TI, TO, i1, i2], (upd H s.heap.objs.size (.tup [x, y])) c = none := fun c hcm => by
      have lt : c < s.heap.objs.size := by
        rcases List.mem_cons.mp hcm with q | q
        · rw [q]; exact el
        · exact zs_lt st c q
      rw [upd_ne (Nat.ne_of_lt lt)]
      exact (hf c hcm).1
    refine ⟨_, rfl, ?_⟩
    refine wpAny_letOwnedTupleGo_enum he2 fun h3 he3 b3 => ?_
    have eT : e ≠ h1.objs.size := Nat.ne_of_lt (by rw [hsz]; exact Nat.lt_succ_of_lt el)
    have ht3 : h3.get? h1.objs.size = some { cls := .type "tuple", data := .seq #[.int (i : Nat) tk, .ref s.heap.objs.size] } := (b3.2 _ (Ne.symm eT)).trans ht2
    have new : ObjOk X.prog X.w (upd (upd H s.heap.objs.size (.tup [x, y])) h1.objs.size (.tup [.int (i : Nat), .ref s.heap.objs.size])) h3 h1.objs.size (.tup [.int (i : Nat), .ref s.heap.objs.size]) :=
      ⟨by show 2 ≤ sizeLine; decide, [.int (i : Nat) tk, .ref s.heap.objs.size], .cons ⟨_, rfl⟩ (.cons rfl .nil), ⟨_, ht3, rfl, _, rfl⟩⟩
    have I2 : Inv X pins σ (upd (upd H s.heap.objs.size (.tup [x, y])) h1.objs.size (.tup [.int (i : Nat), .ref s.heap.objs.size])) { s with heap := h3, toks := tk + 1 } :=
      I1.turnedNew (t' := tk + 1) (ch := [e]) (fun c o hb q => b3.extBut c o (fun z => hb (by simp [z])) (hk2 c o (fun z => hb (by simp [z])) q)) (fun c hcm => by
        have q : c = e := by simpa using hcm
        subst q
        exact ⟨fr1 c (by simp), (hf c (by simp)).2⟩) (Nat.le_refl _) new
    have nT : H h1.objs.size = none := I.hok.fresh (by show s.heap.objs.size ≤ h1.objs.size; rw [hsz]; exact Nat.le_succ _)
    refine ⟨.ref h1.objs.size, _, I2, rfl, ⟨s.heap.objs.size, h1.objs.size, x, y, rfl, I.hok.fresh (Nat.le_refl _), nT, by rw [hsz]; exact Nat.succ_ne_self _, rfl, fun l hl => by rw [I.list_inj hl hqx]; exact hx, fun l hl => by rw [I.list_inj hl hqy]; exact hy⟩, ⟨⟨Value.ref s.heap.objs.size, ?_⟩, ?_⟩, fun c hcm => ?_⟩
    · have e1 : ((i + 1 : Nat) : Int) = (i : Int) + 1 := by omega
      rw [e1]; exact he3
    · exact zs_keep st1 fun c hcm o q => b3.extBut c o (Ne.symm (ne hcm)) (hk2 c o (Ne.symm (ne hcm)) q)
    · have lt : c < h1.objs.size := by
        rw [hsz]
        rcases List.mem_cons.mp hcm with q | q
        · rw [q]; exact Nat.lt_succ_of_lt el
        · exact Nat.lt_succ_of_lt (zs_lt st c q)
      rw [upd_ne (Nat.ne_of_lt lt)]
      exact fr1 c hcm
  done := by
    intro X hP hw hK hc i pins s σ H E I hf st hg
    subst hP hw hK
    obtain ⟨⟨old, hE⟩, st⟩ := st
    obtain ⟨xs, ys, hqx, hqy, hend⟩ := hg
    obtain ⟨its, rv, p, _⟩ := I.list hqx
    obtain ⟨its2, rv2, p2, _⟩ := I.list hqy
    have l1 := rv.length
    have l2 := rv2.length
    have he' : its.toArray[i]? = none ∨ its2.toArray[i]? = none := by
      rcases hend with q | q
      · exact .inl (by simp; omega)
      · exact .inr (by simp; omega)
    refine en_stop hE fun Q' E' hEx => ?_
    refine of_end (I.ok.hd hc) D st p.isList p2.isList he' fun h' x hk hx => hEx h' x hx ⟨rfl, ?_⟩
    exact I.turnedL (t' := s.toks) (ch := [z, TI, TO, i1, i2]) (fun c o hb q =>
      hk c o (fun q' => hb (by simp [q'])) (fun q' => hb (by simp [q'])) (fun q' => hb (by simp [q'])) (fun q' => hb (by simp [q'])) q) (fun c hc => hf c (List.mem_cons_of_mem _ hc))
  self := fun A i s Q E st h => let ⟨⟨_, hE⟩, _⟩ := st; wpAny_pyIter_enum hE h
def iEnz (K : PySem.W.Frag) (ta : TA) : TI := fun σ H R => ta σ H fun vs H1 => ∃ a b xs ys, vs = [.ref a, .ref b] ∧ SqL K H1 a xs ∧ SqL K H1 b ys ∧ R (Itez K a b) H1
theorem pi_enz {X : Cx} {e e2 : Expr} {ta : TA} {p p2 pos pos2 tpos : Pos} {elts : List Expr} {kk : Nat} (hg : Gl X "zip") (hm : X.mg "zip" = none) (hge : Gl X "enumerate") (hme : X.mg "enumerate" = none) (ha : PA X [e, e2] ta)
    (hs : starEach [e, e2] X.env = (false, eval e X.env) :: starEach [e2] X.env := by rfl) (hpl : (backTo pos2 (starEach [e2] X.env)).any (·.1) = false := by rfl)
    (hs2 : starEach [.Call (.Name "zip" p2) [e, e2] [] pos2] X.env = [(false, eval (.Call (.Name "zip" p2) [e, e2] [] pos2) X.env)] := by rfl) :
    PI X (.Tuple elts kk tpos) (.Call (.Name "enumerate" p) [.Call (.Name "zip" p2) [e, e2] [] pos2] [] pos) (iEnz X.K ta) := by
  refine ⟨fun pins s σ H R I h => ?_⟩
  refine Call_ (ld_blt I hge hme boot_enumerate (PyProof.Rows.callWith_type1 ?_ hs2 rfl))
  rw [hs2]
  show wpAny _ _ (spliced ((false, eval (.Call (.Name "zip" p2) [e, e2] [] pos2) X.env) :: backTo pos (starEach [] X.env))) _ _ s
  refine Calls.spliced_cons ?_
  refine Call_ (ld_blt I hg hm PyProof.Rows.boot_zip (PyProof.Rows.callWith_type1 (thn (ha.run pos2 pins s σ H _ I h) fun us s1 ⟨vs, H1, I1, r1, q1⟩ => ?_) hs hpl))
  obtain ⟨a, b, xs, ys, ex, hqx, hqy, q⟩ := q1
  subst ex
  cases r1 with
  | cons r rr =>
    cases rr with
    | cons r' rr =>
      cases rr
      cases r
      cases r'
      refine zip_made I1 hqx hqy fun z TI TO i1 i2 h' D hz st hle hk I2 => ?_
      refine Calls.spliced_nil ?_
      refine call_en_zip hz fun h2 hE hk2 => ?_
      have I3 := I2.kept (t' := s1.toks) hk2
      have hne : h'.objs.size ∉ [z, TI, TO, i1, i2] := fun hm => absurd (zs_lt st _ hm) (Nat.lt_irrefl _)
      refine wpAny_pyIter_enum hE ⟨h'.objs.size, [h'.objs.size, z, TI, TO, i1, i2], _, _, H1, rfl, I3, turn_enz D hne, ⟨⟨_, hE⟩, zs_keep st fun c _ o q => hk2 c o q⟩, fun c hc => ?_, q⟩
      rcases List.mem_cons.mp hc with q | q
      · rw [q]; exact I2.fpOk (Nat.le_refl _) (I2.hok.fresh (Nat.le_refl _))
      · exact I1.fpOk (hle c q) (I1.hok.fresh (hle c q))
end L2
end
section
namespace RQ
open PySem PySem.Calls PyProof.Rows PyProof.V PySem.Spec PySem.W
theorem zip_no_len : typeLookup (.type "zip") "__len__" = pure none := by rw [typeLookup_type, builtinLookup_eq_fast]; kernel_rfl
theorem zip_no_hint : typeLookup (.type "zip") "__length_hint__" = pure none := by rw [typeLookup_type, builtinLookup_eq_fast]; kernel_rfl
/-- the pairs made so far -/
structure Got (xs ys : Array Value) (lo : Addr) (h : Heap) (as : List Addr) : Prop where
  rise : as.Pairwise (· < ·)
  above : ∀ a ∈ as, lo ≤ a
  pairs : ∀ (j : Nat) (a : Addr), as[j]? = some a → ∃ x y, xs[j]? = some x ∧ ys[j]? = some y ∧ IsPair h a x y
theorem Got.there {xs ys : Array Value} {lo : Addr} {h : Heap} {as : List Addr} (g : Got xs ys lo h as) {a : Addr} (ha : a ∈ as) : a < h.objs.size := by
  obtain ⟨j, hj⟩ := List.mem_iff_getElem?.mp ha
  obtain ⟨_, _, _, _, e⟩ := g.pairs j a hj
  exact Heap.lt_size e
section
variable {prog : Program} {w : World} {A : Around} {E : Value → Shared → Prop} {s : Shared}
theorem lz_loop {R : Result → Shared → Prop} {S z TI TO i1 i2 l1 l2 : Addr} {xs ys : Array Value} (hh : A.handled = none) (D : ZipApart z TI TO i1 i2 l1 l2) (hSz : S ∉ [z, TI, TO, i1, i2]) (hS1 : l1 ≠ S) (hS2 : l2 ≠ S) (hxy : xs.size = ys.size) (hn : xs.size ≤ sizeLine) (res : Value) (lo : Addr)
    (hlz : ∀ c ∈ [z, TI, TO, i1, i2], c < lo) (hlS : S < lo) {h1 : Heap}
    (hR : ∀ h' tk acc c as, (∀ b o, b ≠ S → b ∉ [z, TI, TO, i1, i2] → h1.get? b = some o → h'.get? b = some o) → h'.get? S = some { cls := .type "list", dict := none, data := .seq acc c, slots := #[] } → as.length = xs.size → Got xs ys lo h' as →
      acc.toList = as.map Value.ref → R (.ok (.ret res)) { s with heap := h', toks := tk }) :
    ∀ (k i : Nat) (h : Heap) (tk c : Nat) (acc : Array Value) (as : List Addr), xs.size - i = k → i ≤ xs.size → ZS z TI TO i1 i2 l1 l2 i h → h.IsList l1 xs → h.IsList l2 ys → (∀ b o, b ≠ S → b ∉ [z, TI, TO, i1, i2] → h1.get? b = some o → h.get? b = some o) →
      h.get? S = some { cls := .type "list", dict := none, data := .seq acc c, slots := #[] } → acc.toList = as.map Value.ref → as.length = i → Got xs ys lo h as → lo ≤ h.objs.size →
      codeAny (model prog w) A (.builtin "list.extend.loop" ⟨[.ref S, .ref z, res], []⟩) R { s with heap := h, toks := tk } := by
  have nz : ∀ {c}, c ∈ [z, TI, TO, i1, i2] → S ≠ c := fun hm q => hSz (q ▸ hm)
  have out : ∀ {h g : Heap}, (∀ c o, c ≠ z → c ≠ TO → c ≠ i1 → c ≠ i2 → h.get? c = some o → g.get? c = some o) → ∀ b o, b ∉ [z, TI, TO, i1, i2] → h.get? b = some o → g.get? b = some o := fun hk b o hb e =>
    hk b o (fun q => hb (by simp [q])) (fun q => hb (by simp [q])) (fun q => hb (by simp [q])) (fun q => hb (by simp [q])) e
  intro k
  induction k with
  | zero =>
    intro i h tk c acc as hk hi hst hL1 hL2 hkeep hS hacc hal hG hlo
    refine codeAny_builtin PySem.F.entry_extend_loop ?_
    rw [Around.under_plainId PySem.F.plain_extend_loop _]
    show wpAny _ A.in1 (pyNext (.ref z) >>= _) _ _ _
    refine wpAny_bind (next_end (s := { s with heap := h, toks := tk }) (A := A.in1) hh D hst hL1 hL2 (.inl (Array.getElem?_eq_none (by omega))) fun h' he => ?_)
    have he' := out he
    refine wpAny_pure (hR h' tk acc c as (fun b o h1 h2 e => he' b o h2 (hkeep b o h1 h2 e)) (he' S _ hSz hS) (by omega) ⟨hG.rise, hG.above, fun j a hj => ?_⟩ hacc)
    obtain ⟨x, y, e1, e2, e3⟩ := hG.pairs j a hj
    exact ⟨x, y, e1, e2, he' a _ (fun hm => Nat.lt_irrefl _ (Nat.lt_of_lt_of_le (hlz a hm) (hG.above a (List.mem_of_getElem? hj)))) e3⟩
  | succ k ih =>
    intro i h tk c acc as hk hi hst hL1 hL2 hkeep hS hacc hal hG hlo
    have hlt : i < xs.size := by omega
    have hlt2 : i < ys.size := by omega
    have hsz : acc.size = i := by rw [← Array.length_toList, hacc, List.length_map, hal]
    refine codeAny_builtin PySem.F.entry_extend_loop ?_
    rw [Around.under_plainId PySem.F.plain_extend_loop _]
    show wpAny _ A.in1 (pyNext (.ref z) >>= _) _ _ _
    refine wpAny_bind (next_item (s := { s with heap := h, toks := tk }) D hst hL1 hL2 (Array.getElem?_eq_getElem hlt) (Array.getElem?_eq_getElem hlt2) fun h' hst' ht hz hkp => ?_)
    dsimp only at ht hz hkp ⊢
    have hkp' := out hkp
    have hS' := hkp' S _ hSz hS
    have up : ∀ b o, b ≠ S → h'.get? b = some o → (h'.update S (Obj.mapSeq (·.push (Value.ref h.objs.size)))).get? b = some o := fun b o hb e => (Heap.get?_update_other _ _ (Ne.symm hb)).trans e
    have hSl : S < h.objs.size := Heap.lt_size hS
    have keepL : ∀ {l : Addr} {vs : Array Value}, l ≠ S → l ≠ z → l ≠ TO → l ≠ i1 → l ≠ i2 → h.IsList l vs → (h'.update S (Obj.mapSeq (·.push (Value.ref h.objs.size)))).IsList l vs := fun n0 n1 n2 n3 n4 q => q.at fun o e => up _ o n0 (hkp _ o n1 n2 n3 n4 e)
    show wpAny _ A.in1 (updateSeq S (·.push (Value.ref h.objs.size)) >>= _) _ _ _
    refine wpAny_bind ?_
    refine wpAny_updateSeq hS' rfl (wpAny_pure ⟨plainId_quiet PySem.F.plain_extend_loop _, ih (i + 1) _ tk _ (acc.push (Value.ref h.objs.size)) (as ++ [h.objs.size]) (by omega) hlt (zs_keepS hst' up nz)
      (keepL hS1 D.l1z D.l1TO D.l1i1 D.l1i2 hL1) (keepL hS2 D.l2z D.l2TO D.l2i1 D.l2i2 hL2)
      (fun b o h1 h2 e => up b o h1 (hkp' b o h2 (hkeep b o h1 h2 e))) (Heap.get?_update_self _ hS' rfl) (by rw [Array.toList_push, hacc, List.map_append]; rfl) (by rw [List.length_append, hal]; rfl) ⟨?_, ?_, ?_⟩ ?_⟩) (by rw [hsz]; omega) (by show (acc.push (Value.ref h.objs.size)).size ≤ sizeLine + 1; rw [Array.size_push, hsz]; omega)
    · refine List.pairwise_append.mpr ⟨hG.rise, List.pairwise_singleton _ _, fun a ha b hb => ?_⟩
      rw [List.mem_singleton.mp hb]
      exact hG.there ha
    · intro a ha
      rcases List.mem_append.mp ha with ha | ha
      · exact hG.above a ha
      · rw [List.mem_singleton.mp ha]; exact hlo
    · intro j b hj
      rcases Nat.lt_trichotomy j as.length with q | q | q
      · rw [List.getElem?_append_left q] at hj
        obtain ⟨x, y, e1, e2, e3⟩ := hG.pairs j b hj
        have hb := hG.above b (List.mem_of_getElem? hj)
        exact ⟨x, y, e1, e2, up b _ (fun q => Nat.lt_irrefl _ (Nat.lt_of_lt_of_le hlS (q ▸ hb))) (hkp' b _ (fun hm => Nat.lt_irrefl _ (Nat.lt_of_lt_of_le (hlz b hm) hb)) e3)⟩
      · subst q
        have hb : h.objs.size = b := by simpa using hj
        subst hb
        refine ⟨_, _, ?_, ?_, up _ _ (Nat.ne_of_gt hSl) ht⟩
        · rw [hal]; exact Array.getElem?_eq_getElem hlt
        · rw [hal]; exact Array.getElem?_eq_getElem hlt2
      · have hnone : (as ++ [h.objs.size])[j]? = none := List.getElem?_eq_none (by rw [List.length_append, List.length_singleton]; omega)
        rw [hnone] at hj; cases hj
    · have e : (h'.update S (Obj.mapSeq (·.push (Value.ref h.objs.size)))).get? h.objs.size = _ := up _ _ (Nat.ne_of_gt hSl) ht
      exact Nat.le_trans hlo (Nat.le_of_lt (Heap.lt_size e))
  where zs_keepS {S z TI TO i1 i2 a b : Addr} {i : Nat} {h h' : Heap} (st : ZS z TI TO i1 i2 a b i h) (up : ∀ b o, b ≠ S → h.get? b = some o → h'.get? b = some o) (nz : ∀ {c}, c ∈ [z, TI, TO, i1, i2] → S ≠ c) : ZS z TI TO i1 i2 a b i h' :=
    L2.zs_keep st fun c hc o q => up c o (Ne.symm (nz hc)) q
theorem lz_call {z TI TO i1 i2 l1 l2 : Addr} {xs ys : Array Value} {Q : Value → Shared → Prop} (hh : A.handled = none) (D : ZipApart z TI TO i1 i2 l1 l2) (st : ZS z TI TO i1 i2 l1 l2 0 s.heap) (hL1 : s.heap.IsList l1 xs) (hL2 : s.heap.IsList l2 ys) (hxy : xs.size = ys.size) (hn : xs.size ≤ sizeLine)
    (hQ : ∀ h' tk acc c as, (∀ b o, b ∉ [z, TI, TO, i1, i2] → s.heap.get? b = some o → h'.get? b = some o) → h'.get? s.heap.objs.size = some { cls := .type "list", dict := none, data := .seq acc c, slots := #[] } → as.length = xs.size → Got xs ys (s.heap.objs.size + 1) h' as →
      acc.toList = as.map Value.ref → Q (.ref s.heap.objs.size) { s with heap := h', toks := tk }) :
    wpAny (model prog w) A (call (.type "list") [.ref z]) Q E s := by
  have lt := L2.zs_lt st
  have nS : s.heap.objs.size ∉ [z, TI, TO, i1, i2] := fun hm => Nat.lt_irrefl _ (lt _ hm)
  have n1 : l1 ≠ s.heap.objs.size := by obtain ⟨_, e, _⟩ := hL1; exact Nat.ne_of_lt (Heap.lt_size e)
  have n2 : l2 ≠ s.heap.objs.size := by obtain ⟨_, e, _⟩ := hL2; exact Nat.ne_of_lt (Heap.lt_size e)
  have nz : ∀ {c}, c ∈ [z, TI, TO, i1, i2] → c ≠ s.heap.objs.size := fun hm q => nS (q ▸ hm)
  refine callType_codes (Q₁ := fun obj s₁ => obj = .ref s.heap.objs.size ∧ s₁ = { s with heap := s.heap.push { cls := .type "list", data := .seq #[] } }) PySem.F.called_list (PySem.F.typeCall_list_1 _) PySem.F.entry_list_init
    (code_list_new _ ⟨rfl, rfl⟩) fun obj s₁ h₁ => ?_
  obtain ⟨rfl, rfl⟩ := h₁
  have hS : (s.heap.push { cls := .type "list", data := .seq #[] }).get? s.heap.objs.size = some { cls := .type "list", data := .seq #[] } := Heap.get?_push_size _ rfl
  have s1 : (s.heap.push { cls := .type "list", data := .seq #[] }).objs.size = s.heap.objs.size + 1 := Heap.size_push ..
  refine ⟨⟨_, hS, rfl⟩, PySem.F.args_list_init_2 _ _, ?_⟩
  show wpAny _ _ (do let old ← Builtin.List.listItems (.ref s.heap.objs.size); Builtin.List.listUpdate (.ref s.heap.objs.size) (fun _ => #[]); letGo old.toList.reverse; Builtin.List.listExtendWith (.ref s.heap.objs.size) (.ref z) .none) _ _ _
  refine wpAny_bind ?_
  unfold Builtin.List.listItems
  refine wpAny_bind (wpAny_seqItems hS rfl (wpAny_pure ?_))
  show wpAny _ _ (updateSeq s.heap.objs.size (fun _ => #[]) >>= fun _ => letGo (#[] : Array Value).toList.reverse >>= fun _ => Builtin.List.listExtendWith (.ref s.heap.objs.size) (.ref z) .none) _ _ _
  refine wpAny_bind (wpAny_updateSeq hS rfl ?_)
  have hS2 := Heap.get?_update_self (Obj.mapSeq (fun _ => (#[] : Array Value))) hS rfl
  refine wpAny_bind (wpAny_letGo ?_)
  unfold Builtin.List.listExtendWith
  have oth : ∀ b o, b ≠ s.heap.objs.size → s.heap.get? b = some o → ((s.heap.push { cls := .type "list", data := .seq #[] }).update s.heap.objs.size (Obj.mapSeq (fun _ => (#[] : Array Value)))).get? b = some o :=
    fun b o hb e => (Heap.get?_update_other _ _ (Ne.symm hb)).trans (Heap.get?_push_of_some _ e)
  have s2 : ((s.heap.push { cls := .type "list", data := .seq #[] }).update s.heap.objs.size (Obj.mapSeq (fun _ => (#[] : Array Value)))).objs.size = s.heap.objs.size + 1 := by rw [← s1]; exact (Heap.SameBut.update ..).1
  have st2 := L2.zs_keep st fun c hc o q => oth c o (nz hc) q
  generalize ((s.heap.push { cls := .type "list", data := .seq #[] }).update s.heap.objs.size (Obj.mapSeq (fun _ => (#[] : Array Value)))) = g2 at hS2 oth st2 s2
  refine wpAny_bind (wpAny_typeOf (T := "zip") st2.rec_.typeIs ?_)
  have h1 : Builtin.List.listSameRef (.ref s.heap.objs.size) (.ref z) = false := by
    have : z ≠ s.heap.objs.size := nz (by simp)
    simp [Builtin.List.listSameRef, Ne.symm this]
  have h2 : (Value.type "zip" == Value.type "list") = false := by decide
  have h3 : (Value.type "zip" == Value.type "tuple") = false := by decide
  simp only [h1, h2, h3, Bool.or_false, Bool.false_eq_true, if_false]
  refine wpAny_bind (pyIter_z st2.rec_ ?_)
  refine wpAny_bind (wpAny_holding ?_)
  unfold Builtin.List.listLengthHint
  refine wpAny_bind (wpAny_specialOf st2.rec_.typeIs zip_no_len ?_)
  show wpAny _ _ (specialOf (Value.ref z) (Str.ofString "__length_hint__") >>= _) _ _ _
  refine wpAny_bind (wpAny_specialOf st2.rec_.typeIs zip_no_hint ?_)
  refine wpAny_pure ?_
  have fin : ∀ (g3 : Heap) (c3 : Nat), (∀ b o, b ≠ s.heap.objs.size → g2.get? b = some o → g3.get? b = some o) → g3.get? s.heap.objs.size = some { cls := .type "list", dict := none, data := .seq #[] c3, slots := #[] } → s.heap.objs.size + 1 ≤ g3.objs.size →
      codeAny (model prog w) A.in1 (.builtin "list.extend.loop" ⟨[.ref s.heap.objs.size, .ref z, .none], []⟩) (fun r s' => ∃ h' tk acc c as, r = .ok (.ret .none) ∧ s' = { s with heap := h', toks := tk } ∧ (∀ b o, b ∉ [z, TI, TO, i1, i2] → s.heap.get? b = some o → h'.get? b = some o) ∧
        h'.get? s.heap.objs.size = some { cls := .type "list", dict := none, data := .seq acc c, slots := #[] } ∧ as.length = xs.size ∧ Got xs ys (s.heap.objs.size + 1) h' as ∧ acc.toList = as.map Value.ref) { s with heap := g3 } := by
    intro g3 c3 k3 hS3 hl3
    refine lz_loop (A := A.in1) (s := s) (h1 := s.heap) hh D nS n1 n2 hxy hn .none (s.heap.objs.size + 1) (fun c hc => Nat.lt_succ_of_lt (lt c hc)) (Nat.lt_succ_self _) (fun h' tk acc c as hk hS' hl hG hacc => ?_) xs.size 0 g3 s.toks c3 #[] [] (Nat.sub_zero _) (Nat.zero_le _)
      (L2.zs_keep st2 fun c hc o q => k3 c o (nz hc) q) (hL1.at fun o e => k3 _ o n1 (oth _ o n1 e)) (hL2.at fun o e => k3 _ o n2 (oth _ o n2 e)) (fun b o hb _ e => k3 b o hb (oth b o hb e)) hS3 rfl rfl ⟨List.Pairwise.nil, (fun _ ha => nomatch ha), (fun j a hj => by simp at hj)⟩ hl3
    exact ⟨h', tk, acc, c, as, rfl, rfl, fun b o hb e => hk b o (Nat.ne_of_lt (Heap.lt_size e)) hb e, hS', hl, hG, hacc⟩
  refine wpAny_ite_split (fun _ => ?_) (fun hab => absurd rfl hab)
  refine wpAny_bind (wpAny_rule ?_)
  refine wpAny_bind ?_
  show wpAny _ _ (updateSeq s.heap.objs.size (·.push .none) >>= fun _ => updateSeq s.heap.objs.size (·.pop)) _ _ _
  refine wpAny_bind (wpAny_updateSeq hS2 rfl ?_)
  have hS3 := Heap.get?_update_self (Obj.mapSeq (·.push Value.none)) hS2 rfl
  refine wpAny_updateSeq (hz := by seq_fits) hS3 rfl ?_
  have hS4 := Heap.get?_update_self (Obj.mapSeq (·.pop)) hS3 rfl
  refine wpAny_pure ⟨plainId_quiet PySem.F.plain_extend_loop _, codeAny_mono (fin _ _ (fun b o hb e => (Heap.get?_update_other _ _ (Ne.symm hb)).trans ((Heap.get?_update_other _ _ (Ne.symm hb)).trans e)) hS4 ?_) fun r s' x => ?_⟩
  · rw [(Heap.SameBut.update ..).1, (Heap.SameBut.update ..).1, s2]; exact Nat.le_refl _
  · obtain ⟨h', tk, acc, c, as, rfl, rfl, hk, hS', hl, hG, hacc⟩ := x
    exact ⟨rfl, hQ h' tk acc c as hk hS' hl hG hacc⟩
end
end RQ

namespace L2
open PySem PySem.Spec PyProof.Rows
open RQ
/-- the list at l of new pairs at ts -/
structure ZipL (H H2 : Hp) (l : Addr) (ts : List Addr) (xs ys : List V) : Prop where
  same : Same H H2
  list : H2 l = some (.lst (ts.map V.ref))
  newl : H l = none
  len : ts.length = xs.length
  pairs : ∀ (j : Nat) (t : Addr) (x y : V), ts[j]? = some t → xs[j]? = some x → ys[j]? = some y → H t = none ∧ H2 t = some (.tup [x, y])
def tLz (K : PySem.W.Frag) (ta : TA) : TE := fun σ H Q => ta σ H fun vs H1 => ∃ a b xs ys, vs = [.ref a, .ref b] ∧ SqL K H1 a xs ∧ SqL K H1 b ys ∧ xs.length = ys.length ∧ ∀ l ts H2, ZipL H1 H2 l ts xs ys → Q (.ref l) H2
theorem pe_lz {X : Cx} {e e2 : Expr} {ta : TA} {p p2 pos pos2 : Pos} (hc : X.calm = true) (hg : Gl X "zip") (hm : X.mg "zip" = none) (hgl : Gl X "list") (hml : X.mg "list" = none) (ha : PA X [e, e2] ta)
    (hs : starEach [e, e2] X.env = (false, eval e X.env) :: starEach [e2] X.env := by rfl) (hpl : (backTo pos2 (starEach [e2] X.env)).any (·.1) = false := by rfl)
    (hs2 : starEach [.Call (.Name "zip" p2) [e, e2] [] pos2] X.env = [(false, eval (.Call (.Name "zip" p2) [e, e2] [] pos2) X.env)] := by rfl) :
    PE X (.Call (.Name "list" p) [.Call (.Name "zip" p2) [e, e2] [] pos2] [] pos) (tLz X.K ta) := by
  refine ⟨fun pins s σ H Q I h => ?_⟩
  refine Call_ (ld_blt I hgl hml boot_list (PyProof.Rows.callWith_type1 ?_ hs2 rfl))
  rw [hs2]
  show wpAny _ _ (spliced ((false, eval (.Call (.Name "zip" p2) [e, e2] [] pos2) X.env) :: backTo pos (starEach [] X.env))) _ _ s
  refine Calls.spliced_cons ?_
  refine Call_ (ld_blt I hg hm PyProof.Rows.boot_zip (PyProof.Rows.callWith_type1 (thn (ha.run pos2 pins s σ H _ I h) fun us s1 ⟨vs, H1, I1, r1, q1⟩ => ?_) hs hpl))
  obtain ⟨a, b, xs, ys, ex, hqx, hqy, hxy, q⟩ := q1
  subst ex
  cases r1 with
  | cons r rr =>
    cases rr with
    | cons r' rr =>
      cases rr
      cases r
      cases r'
      obtain ⟨its, rv, p1, hz1⟩ := I1.list hqx
      obtain ⟨its2, rv2, p2', _⟩ := I1.list hqy
      have len1 := rv.length
      have len2 := rv2.length
      refine zip_made I1 hqx hqy fun z TI TO i1 i2 h' D hz st hle hk I2 => ?_
      refine Calls.spliced_nil ?_
      have hlt1 : s1.heap.objs.size ≤ h'.objs.size := by
        have a1 := hle z (by simp)
        have a2 := zs_lt st z (by simp)
        exact Nat.le_trans a1 (Nat.le_of_lt a2)
      refine lz_call (s := { s1 with heap := h' }) (I1.ok.hd hc) D st (xs := its.toArray) (ys := its2.toArray) (p1.isList.at fun o e => hk _ o e) (p2'.isList.at fun o e => hk _ o e) (by simp; omega) (by simp; omega) fun h2 tk acc cc as hk2 hS hal hG hacc => ?_
      have hal' : as.length = xs.length := by rw [hal]; simp; omega
      have keep : ∀ b o, s1.heap.get? b = some o → h2.get? b = some o := fun b o e => hk2 b o (fun hm => Nat.lt_irrefl _ (Nat.lt_of_lt_of_le (Heap.lt_size e) (hle b hm))) (hk b o e)
      -- the heap that is tracked from here on
      let S := h'.objs.size
      let H2 : Hp := fun c => if c = S then some (.lst (as.map V.ref)) else if c ∈ as then some (.tup [xs.getD (as.idxOf c) .non, ys.getD (as.idxOf c) .non]) else H1 c
      have hold : ∀ c, c < s1.heap.objs.size → H2 c = H1 c := fun c hlt => by
        have n1 : c ≠ S := Nat.ne_of_lt (Nat.lt_of_lt_of_le hlt hlt1)
        have n2 : c ∉ as := fun hm => by
          have := hG.above c hm
          exact Nat.lt_irrefl _ (Nat.lt_of_lt_of_le (Nat.lt_of_lt_of_le hlt hlt1) (Nat.le_trans (Nat.le_succ _) this))
        show (if c = S then _ else if c ∈ as then _ else H1 c) = H1 c
        rw [if_neg n1, if_neg n2]
      have nS : S ∉ as := fun hm => Nat.lt_irrefl _ (hG.above S hm)
      have hS2 : H2 S = some (.lst (as.map V.ref)) := by show (if S = S then _ else _) = _; rw [if_pos rfl]
      have hP2 : ∀ c, c ∈ as → H2 c = some (.tup [xs.getD (as.idxOf c) .non, ys.getD (as.idxOf c) .non]) := fun c hm => by
        have n1 : c ≠ S := fun q => nS (q ▸ hm)
        show (if c = S then _ else if c ∈ as then _ else H1 c) = _
        rw [if_neg n1, if_pos hm]
      have oldH : ∀ c o, H1 c = some o → H2 c = some o := fun c o e => by rw [hold c (I1.hok.lt e)]; exact e
      have un : Un X.fs [] H1 H2 s1.heap h2 :=
        ⟨fun c o e _ _ _ => keep c o e, fun c o e _ _ _ => ⟨o.slots, keep c o e⟩, fun c o e n _ => by rw [hold c (Heap.lt_size e)]; exact n, fun c o e _ => ⟨o, keep c o e⟩, fun c o e => oldH c _ e, fun c o u e => oldH c _ e, fun c ps e => ⟨#[], by rw [oldH c _ e]; simp⟩⟩
      have hok : HOk X.prog X.w H2 h2 := by
        intro c o e
        by_cases c1 : c = S
        · rw [c1] at e ⊢
          rw [hS2] at e
          cases e
          have hsl : (as.map V.ref).length ≤ sizeLine := by rw [List.length_map, hal']; exact hz1
          refine ⟨hsl, as.map Value.ref, cc, ?_, ?_⟩
          · have q : ∀ l : List Addr, Vals (l.map V.ref) (l.map Value.ref) := fun l => by
              induction l with
              | nil => exact .nil
              | cons x l ih => exact .cons rfl ih
            exact q as
          · rw [← hacc, Array.toArray_toList]
            exact hS
        · by_cases c2 : c ∈ as
          · rw [hP2 c c2] at e
            cases e
            have hj : as.idxOf c < as.length := List.idxOf_lt_length_iff.mpr c2
            have hjc : as[as.idxOf c]? = some c := by rw [List.getElem?_eq_getElem hj]; simp
            obtain ⟨u, u2, e1, e2, e3⟩ := hG.pairs _ _ hjc
            have e1' : its[as.idxOf c]? = some u := by simpa using e1
            have e2' : its2[as.idxOf c]? = some u2 := by simpa using e2
            have jx : as.idxOf c < xs.length := by omega
            have jy : as.idxOf c < ys.length := by omega
            obtain ⟨v1, f1, r1⟩ := rv.get (List.getElem?_eq_getElem jx)
            obtain ⟨v2, f2, r2⟩ := rv2.get (List.getElem?_eq_getElem jy)
            rw [f1] at e1'
            rw [f2] at e2'
            cases e1'
            cases e2'
            refine ⟨by show 2 ≤ sizeLine; decide, [u, u2], .cons ?_ (.cons ?_ .nil), _, e3, rfl, _, rfl⟩
            · simp only [List.getD_eq_getElem?_getD, List.getElem?_eq_getElem jx, Option.getD_some]; exact r1
            · simp only [List.getD_eq_getElem?_getD, List.getElem?_eq_getElem jy, Option.getD_some]; exact r2
          · have e0 : H1 c = some o := by
              have q : H2 c = H1 c := by show (if c = S then _ else if c ∈ as then _ else H1 c) = H1 c; rw [if_neg c1, if_neg c2]
              rw [← q]; exact e
            exact (I1.hok c o e0).stay (fun d v _ q => keep d v q) (fun d q => oldH d _ q) fun d vs q => oldH d _ q
      have I3 : Inv X pins σ H2 { s1 with heap := h2, toks := tk } := I1.un un hok
      refine ⟨.ref S, H2, I3, rfl, q S as H2 ⟨oldH, hS2, I1.hok.fresh hlt1, hal', fun j t x y ht hx hy => ?_⟩⟩
      have tm : t ∈ as := List.mem_of_getElem? ht
      have hj : j < as.length := (List.getElem?_eq_some_iff.mp ht).1
      have nd : as.Nodup := hG.rise.imp fun h => Nat.ne_of_lt h
      have ix : as.idxOf t = j := by
        have et : t = as[j] := by rw [List.getElem?_eq_getElem hj] at ht; exact (Option.some.inj ht).symm
        rw [et]; exact List.Nodup.idxOf_getElem nd j _
      refine ⟨I1.hok.fresh (Nat.le_trans hlt1 (Nat.le_trans (Nat.le_succ _) (hG.above t tm))), ?_⟩
      rw [hP2 t tm, ix]
      simp only [List.getD_eq_getElem?_getD, hx, hy, Option.getD_some]
end L2
end
section
namespace L2
open PySem PySem.Spec PyProof.Rows
/-- an entry: the key, its tuple's address, the value -/
abbrev NE := NestedKey × Addr × V
abbrev NVals : List NE → List (NestedKey × Addr × Value) → Prop := Paired fun p q => p.1 = q.1 ∧ p.2.1 = q.2.1 ∧ RelV p.2.2 q.2.2
def DNo (P : Program) (w : World) (d : Addr) (kvs : List NE) : HO := .ext fun h => kvs.length ≤ sizeLine ∧ (d == sysModules) = false ∧ ∃ xs, NVals kvs xs ∧
  ∃ o es ep, h.get? d = some o ∧ o.ExactDict ∧ o.data = .dict es ep ∧ es.toList = xs.map (entryOfKey (nestedKind P w)) ∧ (xs.map (·.1)).Nodup
mutual
/-- the value is the key -/
inductive NK (H : Hp) : V → NestedKey → Prop
  | num (i : Int) : NK H (.int i) (.num i)
  | text (x : Str) : NK H (.str x) (.text x)
  | tup {b : Addr} {xs : List V} {ks : List NestedKey} : H b = some (.tup xs) → NKs H xs ks → NK H (.ref b) (.tup ks)
inductive NKs (H : Hp) : List V → List NestedKey → Prop
  | nil : NKs H [] []
  | cons {v : V} {k : NestedKey} {vs : List V} {ks : List NestedKey} : NK H v k → NKs H vs ks → NKs H (v :: vs) (k :: ks)
end
section
variable {P : Program} {w : World} {H : Hp} {h : Heap}
mutual
theorem NK.is (ok : HOk P w H h) : ∀ {k : NestedKey} {v : V} {u : Value}, NK H v k → RelV v u → NestedIs h k u
  | .num i, _, _, n, r => by
    cases n
    obtain ⟨t, rfl⟩ := r
    exact .int i t
  | .text x, _, _, n, r => by
    cases n
    obtain ⟨t, rfl⟩ := r
    exact .text x t
  | .tup ks, _, _, n, r => by
    cases n with
    | tup hb hs =>
      cases r
      obtain ⟨_, its, rv, o, e1, e2, c, e3⟩ := ok _ _ hb
      exact .tup e1 e2 e3 (by simpa using NKs.is ok hs rv)
  | .none, _, _, n, _ => by cases n
theorem NKs.is (ok : HOk P w H h) : ∀ {ks : List NestedKey} {vs : List V} {us : List Value}, NKs H vs ks → Vals vs us → NestedAll h ks us
  | [], _, _, n, r => by
    cases n
    cases r
    exact .nil
  | k :: ks, _, _, n, r => by
    cases n with
    | cons n1 n2 =>
      cases r with
      | cons r1 r2 => exact .cons (NK.is ok n1 r1) (NKs.is ok n2 r2)
end
end
/-- at d stands a dict of the entries kvs -/
structure DN (P : Program) (w : World) (H : Hp) (d : Addr) (kvs : List NE) : Prop where
  ob : H d = some (DNo P w d kvs)
  keys : ∀ e ∈ kvs, NK H (.ref e.2.1) e.1 ∧ e.1.depth ≤ 8
def lookN (kvs : List NE) (k : NestedKey) : Option V := (kvs.find? fun e => decide (e.1 = k)).map (·.2.2)
theorem lookN_rel {k : NestedKey} : ∀ {kvs : List NE} {xs : List (NestedKey × Addr × Value)}, NVals kvs xs → RelO (lookN kvs k) ((atKey xs k).map (·.2))
  | _, _, .nil => trivial
  | _, _, .cons (a := p) (b := q) r t => by
    obtain ⟨e1, e2, e3⟩ := r
    have ih := lookN_rel (k := k) t
    unfold lookN atKey at ih ⊢
    by_cases c : p.1 = k
    · have c' : q.1 = k := by rw [← e1]; exact c
      simp [c, c']; exact e3
    · have c' : ¬ q.1 = k := by rw [← e1]; exact c
      simp only [List.find?_cons, c, c', decide_false]
      exact ih
section
variable {X : Cx} {pins : List (Addr × Obj)} {σ : St} {H : Hp} {s : Shared} {d : Addr} {kvs : List NE}
theorem DN.get (I : Inv X pins σ H s) (D : DN X.prog X.w H d kvs) : kvs.length ≤ sizeLine ∧ (d == sysModules) = false ∧ ∃ xs, NVals kvs xs ∧ s.heap.DictOfH (nestedKind X.prog X.w) d xs := by
  obtain ⟨⟨z, hd, xs, r, o, es, ep, h1, h2, h3, h4, h5⟩, _, _⟩ := I.hok _ _ D.ob
  refine ⟨z, hd, xs, r, o, es, ep, h1, h2, h3, h4, ?_, h5⟩
  have q : ∀ {l : List NE} {m : List (NestedKey × Addr × Value)}, NVals l m → (∀ e ∈ l, NK H (.ref e.2.1) e.1 ∧ e.1.depth ≤ 8) → ∀ x ∈ m, (nestedKind X.prog X.w).is s.heap x.1 x.2.1 := by
    intro l m q
    induction q with
    | nil => intro _ x hx; exact nomatch hx
    | @cons a b as bs hab _ ih =>
      intro hk x hx
      rcases List.mem_cons.mp hx with rfl | hx
      · obtain ⟨e1, e2, _⟩ := hab
        obtain ⟨n, dp⟩ := hk a List.mem_cons_self
        rw [← e1, ← e2]
        exact ⟨n.is I.hok rfl, dp⟩
      · exact ih (fun e he => hk e (List.mem_cons_of_mem _ he)) x hx
  exact q r D.keys
theorem roomN {A : Around} {P : Program} {w : World} (hu : A.units + 64 < cLine) : (nestedKind P w).room A.in1 := by
  show A.units + 1 + 8 < cLine
  omega
/-- {} -/
def tDNewN (P : Program) (w : World) : TE := fun _ H Q => ∀ p, H p = none → Q (.ref p) (upd H p (DNo P w p []))
theorem pe_dnewN {pos : Pos} : PE X (.Dict [] [] pos) (tDNewN X.prog X.w) := ⟨fun pins s σ H Q I h => by
  have hn := I.hok.fresh (Nat.le_refl s.heap.objs.size)
  refine wpAny_Dict_empty ⟨.ref s.heap.objs.size, _, I.laid (a := s.heap.objs.size) (o := DNo X.prog X.w s.heap.objs.size []) (t' := s.toks) (fun _ _ q => Heap.get?_push_of_some _ q) (Nat.le_refl _) ?_, rfl, h _ hn⟩
  refine ⟨⟨Nat.zero_le _, beq_eq_false_iff_ne.mpr (Ne.symm (Nat.ne_of_lt I.big)), [], .nil, _, #[], 0, Heap.get?_push_size _ rfl, ⟨rfl, rfl, rfl⟩, rfl, rfl, List.nodup_nil⟩, ⟨_, Heap.get?_push_size _ rfl⟩, ?_⟩
  rintro h1 h2 ⟨z, hd, xs, r, o, es, ep, e1, e2⟩ k
  exact ⟨z, hd, xs, r, o, es, ep, k _ e1, e2⟩⟩
/-- k not in d -/
def rNotInN (P : Program) (w : World) : R2 := fun x y H Q => ∃ d k kvs, y = .ref d ∧ NK H x k ∧ (∃ b, x = .ref b) ∧ k.depth ≤ 8 ∧ DN P w H d kvs ∧ Q (.bl (!(lookN kvs k).isSome)) H
theorem op_notInN (hu : X.A.units + 64 < cLine) : OpR X (compareOp .NotIn) (rNotInN X.prog X.w) := by
  intro pins s σ H x y v u Q I rx ry h
  obtain ⟨d, k, kvs, rfl, nk, ⟨b, rfl⟩, dp, D, q⟩ := h
  cases ry
  cases (show v = Value.ref b from rx)
  obtain ⟨z, hd, xs, r, hm⟩ := D.get I
  refine wpAny_notIn_heap (roomN hu) ⟨nk.is I.hok rfl, dp⟩ hd hm ?_
  have e := (lookN_rel (k := k) r).isSome_eq
  rw [Option.isSome_map] at e
  rw [← e]
  exact ⟨.bl _, H, I.tok _, rfl, q⟩
/-- d[k] -/
def tDGetN (P : Program) (w : World) (td ty : TE) : TE := fun σ H Q => td σ H fun x H1 => ty σ H1 fun y H2 => ∃ d k kvs v, x = .ref d ∧ NK H2 y k ∧ (∃ b, y = .ref b) ∧ k.depth ≤ 8 ∧ DN P w H2 d kvs ∧ lookN kvs k = some v ∧ Q v H2
theorem pe_dgetN {o i : Expr} {td ty : TE} {pos : Pos} (hu : X.A.units + 64 < cLine) (ho : PE X o td) (hi : PE X i ty) (hs : NoSl i) : PE X (.Subscript o i pos) (tDGetN X.prog X.w td ty) := by
  refine ⟨fun pins s σ H Q I h => ?_⟩
  refine subD_of PySem.F.slot_dict_getitem.lookup hs (thn (ho.run pins s σ H _ I h) fun u s1 ⟨x, H1, I1, rx, q1⟩ => thn (hi.run pins s1 σ H1 _ I1 q1) fun iv s2 ⟨y, H2, I2, ry, d, k, kvs, v, ex, nk, ⟨b, ey⟩, dp, D, l, q2⟩ => ?_)
  subst ex ey
  obtain rfl : u = Value.ref d := rx
  obtain rfl : iv = Value.ref b := ry
  obtain ⟨z, hd, xs, r, hm⟩ := D.get I2
  obtain ⟨w', hw, rw'⟩ := RelO.some_of (v := v) (o := (atKey xs k).map (·.2)) (by rw [← l]; exact lookN_rel r)
  obtain ⟨p, hp, hp2⟩ := Option.map_eq_some_iff.mp hw
  refine ⟨hm.typeIs, wpAny_getItem_heap (roomN hu) ⟨nk.is I2.hok rfl, dp⟩ hm hp ?_⟩
  rw [hp2]
  exact ⟨v, H2, I2.tok _, rw', q2⟩
/-- d[k] = v, k a new one -/
def sDPutN (P : Program) (w : World) (td ty tv : TE) : TS := fun D σ H => tv σ H fun v H1 => td σ H1 fun x H2 => ty σ H2 fun y H3 => ∃ d b k kvs, x = .ref d ∧ y = .ref b ∧ NK H3 y k ∧ k.depth ≤ 8 ∧ DN P w H3 d kvs ∧ lookN kvs k = none ∧ kvs.length < sizeLine ∧ D.nx σ (upd H3 d (DNo P w d (kvs ++ [(k, b, v)])))
theorem NVals.snoc {p : NE} {q : NestedKey × Addr × Value} (h : p.1 = q.1 ∧ p.2.1 = q.2.1 ∧ RelV p.2.2 q.2.2) : ∀ {kvs : List NE} {xs : List (NestedKey × Addr × Value)}, NVals kvs xs → NVals (kvs ++ [p]) (xs ++ [q])
  | _, _, .nil => .cons h .nil
  | _, _, .cons r t => .cons r (NVals.snoc h t)
theorem ps_dputN {o i value : Expr} {td ty tv : TE} {pos pos' : Pos} (hu : X.A.units + 64 < cLine) (ho : PE X o td) (hi : PE X i ty) (hv : PE X value tv) (hs : swapsWith value (some (.Subscript o i pos')) pos.line X.env = pure false) :
    PS X (.Assign [.Subscript o i pos'] value pos) (sDPutN X.prog X.w td ty tv) := by
  refine ⟨fun pins s σ H D I h => ?_⟩
  refine wpAny_Assign_Subscript (thn (hv.run pins s σ H _ I h) fun r s1 ⟨v, H1, I1, rv, q1⟩ => thn (ho.run pins s1 σ H1 _ I1 q1) fun u s2 ⟨x, H2, I2, rx, q2⟩ => thn (hi.run pins s2 σ H2 _ I2 q2) fun iv s3 ⟨y, H3, I3, ry, d, b, k, kvs, ex, ey, nk, dp, DD, l, lt, q3⟩ => ?_) hs
  subst ex ey
  obtain rfl : u = Value.ref d := rx
  obtain rfl : iv = Value.ref b := ry
  obtain ⟨z, hd, xs, rel, hm⟩ := DD.get I3
  have hz : xs.length ≤ sizeLine := by rw [← Paired.length rel]; exact z
  have hno : atKey xs k = none := Option.map_eq_none_iff.mp (RelO.none_of (by rw [← l]; exact lookN_rel rel))
  refine wpAny_setItem_heap (hsz := hz) (roomN hu) ⟨nk.is I3.hok rfl, dp⟩ hm fun h' dd' hsb => ?_
  rw [storedH_new hno] at dd'
  obtain ⟨q, es, ep, hq, h2, h3, h4, _, h5⟩ := dd'
  refine ⟨σ, _, d_write (t' := s3.toks + (nestedKind X.prog X.w).draws k) I3 (by rw [DD.ob]; exact True.intro) hsb ⟨q, hq⟩ ?_, q3⟩
  refine ⟨⟨by rw [List.length_append]; exact lt, hd, _, NVals.snoc ⟨rfl, rfl, rv⟩ rel, q, es, ep, hq, h2, h3, h4, h5⟩, ⟨q, hq⟩, ?_⟩
  rintro g1 g2 ⟨z, hd, xs, r, o, es, ep, e1, e2⟩ k
  exact ⟨z, hd, xs, r, o, es, ep, k _ e1, e2⟩
/-- len(d) -/
theorem call_lenN : CallR X (.builtin "len") (fun xs H Q => ∃ a kvs, xs = [V.ref a] ∧ DN X.prog X.w H a kvs ∧ Q (.int kvs.length) H) := by
  intro pins s σ H xs us Q I r h
  obtain ⟨a, kvs, rfl, D, q⟩ := h
  obtain ⟨u, rfl, ru⟩ := vals1 r
  cases ru
  obtain ⟨z, hd, xs, rel, hm⟩ := D.get I
  have hl : xs.length = kvs.length := (Paired.length rel).symm
  obtain ⟨es, ep, hr, hs, he⟩ := hm.raw
  refine PyProof.Rows.call_len_slot (n := kvs.length) hm.typeIs PySem.F.slot_dict_len (fun Q' hq => call_len_raw hd hr (by rw [hs, hl]; exact hq)) (by omega) (by rw [sizeLine_eq] at z; omega) ?_
  exact ⟨.int kvs.length, H, I.tok _, ⟨_, rfl⟩, q⟩
end

def tDispT (tk tv : TE) : TE := fun σ H Q => ∀ p, H p = none → tPairs [(tk, tv)] σ (upd H p (.dT [])) fun ps H2 => ∃ x y, ps = [(x, y)] ∧ H2 p = some (.dT []) ∧ ∃ b ks, x = .ref b ∧ H2 b = some (.tup (ks.map kV)) ∧ Q (.ref p) (upd H2 p (.dT [(ks, y)]))
theorem pe_dispT {X : Cx} {k v : Expr} {pos : Pos} {tk tv : TE} (hu : X.A.units + 1 < cLine) (hk : PE X k tk) (hv : PE X v tv) : PE X (.Dict [some k] [v] pos) (tDispT tk tv) := by
  refine ⟨fun pins s σ H Q I q => ?_⟩
  have hn := I.hok.fresh (Nat.le_refl s.heap.objs.size)
  have I1 := I.laid (a := s.heap.objs.size) (o := .dT []) (h' := s.heap.push { cls := .type "dict", data := .dict #[] }) (t' := s.toks) (fun _ _ q => Heap.get?_push_of_some _ q) (Nat.le_refl _) (dt_empty s.heap I.big)
  have hpps : PPs X pos [some k] [v] [(tk, tv)] := pps_cons hk hv pps_nil
  have run := hpps.run pins _ σ _ _ I1 (q _ hn)
  · rw [arm_eval_Dict]
    have hshape : (evalEachOpt [some k] X.env).zip ((evalEach [v] X.env).map fun v => do let x ← v; standAt pos; pure x) = [((eval k X.env), (do let x ← eval v X.env; standAt pos; pure x))].map fun p => (some p.1, p.2) := by rfl
    rw [hshape, dictDisplay_pairs [((eval k X.env), (do let x ← eval v X.env; standAt pos; pure x))] (by simp) (by simp)]
    refine wpAny_bind (wpAny_standAt (wpAny_bind (wpAny_subDictH (knd := tupleKind (mixKind X.prog X.w)) (Q := fun d s' => wpAny (model X.prog X.w) X.A (pure (Value.ref d)) (EP X pins σ Q) X.xe s') ?_ (by show 1 ≤ 15; decide)
      (thn run fun ws s2 ⟨ps, H2, I2, rel, x, y, ep, hd, b, ks, ex, hb, q2⟩ => ?_))))
    · show X.A.units < cLine
      omega
    · subst ep ex
      cases rel with
      | @cons _ pr _ _ r1 rr =>
        cases rr
        obtain ⟨kv, vv⟩ := pr
        obtain ⟨rk, rv⟩ := r1
        obtain rfl : kv = Value.ref b := rk
        obtain ⟨z, hds, xs, r0, dd⟩ := dt_of I2.hok hd
        cases r0
        refine ⟨[(ks, b, vv)], ⟨rfl, rfl, key_of I2.hok hb, trivial⟩, dd, fun h' tk' dd' hs => wpAny_pure ⟨.ref s.heap.objs.size, _, ?_, rfl, q2⟩⟩
        have e1 : storedAllH [] [(ks, b, vv)] = [(ks, b, vv)] := rfl
        rw [e1] at dd'
        obtain ⟨qo, es, ep, hq, h2, h3, h4, _, h5⟩ := dd'
        refine d_write I2 (by rw [hd]; exact True.intro) hs ⟨qo, hq⟩ ⟨by show 1 ≤ sizeLine; decide, hds, [(ks, b, vv)], .cons ⟨rfl, ?_, rv⟩ .nil, qo, es, ep, hq, h2, h3, h4, h5⟩
        rw [upd_ne (ne_of hb hd (fun z => nomatch z))]
        exact hb
end L2
end
section
namespace FA
open PySem PySem.Spec PyProof.Rows L2
/-- what of H is neither in B nor at ds -/
def offs (B : Hp) (ds : List Addr) (H : Hp) : Hp := fun b => if b ∈ ds then none else match B b with
  | some _ => none
  | none => H b
theorem offs_get {B H : Hp} {ds : List Addr} {b : Addr} (h1 : b ∉ ds) (h2 : B b = none) : offs B ds H b = H b := by
  unfold offs; rw [if_neg h1, h2]
theorem offs_some {B H : Hp} {ds : List Addr} {b : Addr} {o : HO} (h : offs B ds H b = some o) : b ∉ ds ∧ B b = none ∧ H b = some o := by
  unfold offs at h
  by_cases h1 : b ∈ ds
  · rw [if_pos h1] at h; cases h
  · rw [if_neg h1] at h
    cases e : B b with
    | some z => rw [e] at h; cases h
    | none => rw [e] at h; exact ⟨h1, rfl, h⟩
theorem offs_le {B H : Hp} {ds : List Addr} : Same (offs B ds H) H := fun b o h => (offs_some h).2.2
theorem offs_same {B H H' : Hp} {ds : List Addr} (s : Same H H') : Same (offs B ds H) (offs B ds H') := fun b o h => by
  obtain ⟨a, c, d⟩ := offs_some h
  rw [offs_get a c]; exact s _ _ d
theorem offs_upd {B H : Hp} {ds : List Addr} {d : Addr} {o : HO} (h : d ∈ ds) : offs B ds (upd H d o) = offs B ds H := by
  funext b
  unfold offs
  by_cases h1 : b ∈ ds
  · rw [if_pos h1, if_pos h1]
  · rw [if_neg h1, if_neg h1]
    have : b ≠ d := fun e => h1 (e ▸ h)
    rw [upd_ne this]
/-- fewer containers, a smaller base -/
theorem offs_mono {B B' H H' : Hp} {ds ds' : List Addr} (hb : ∀ b, B b = none → H b ≠ none → B' b = none) (hd : ∀ b ∈ ds', H b ≠ none → b ∈ ds ∨ B b ≠ none) (s : Same H H') : Same (offs B ds H) (offs B' ds' H') := fun b o h => by
  obtain ⟨a, c, d⟩ := offs_some h
  have n : H b ≠ none := by rw [d]; exact fun z => nomatch z
  rw [offs_get (fun m => (hd b m n).elim a fun z => z c) (hb b c n)]
  exact s _ _ d
/-- what a call from H on has made, seen from an elder base -/
theorem offs_call {B H H' : Hp} {ds : List Addr} (s : Same B H) (hd : ∀ d ∈ ds, H d ≠ none) : Same (offs H [] H') (offs B ds H') := fun b o h => by
  obtain ⟨_, c, d⟩ := offs_some h
  rw [offs_get (fun m => hd b m c) (s.free c)]
  exact d
theorem same_upd {H0 H : Hp} {d : Addr} {o : HO} (s : Same H0 H) (h : H0 d = none) : Same H0 (upd H d o) := fun b u e => by
  have n : b ≠ d := fun q => by rw [q, h] at e; cases e
  rw [upd_ne n]; exact s _ _ e
theorem same_new {H : Hp} {d : Addr} {o : HO} (h : H d = none) : Same H (upd H d o) := same_upd (Same.refl H) h
theorem ne_some {H : Hp} {d : Addr} {o : HO} (h : H d = some o) : H d ≠ none := by rw [h]; exact fun z => nomatch z
theorem same_ne {H H' : Hp} {d : Addr} (s : Same H H') (h : H d ≠ none) : H' d ≠ none := by
  cases e : H d with
  | none => exact absurd e h
  | some o => rw [s _ _ e]; exact fun z => nomatch z
section paired
variable {α β γ : Type} {F G : α → β → Prop}
theorem pd_len {l : List α} {m : List β} (h : Paired F l m) : l.length = m.length := Paired.length h
theorem pd_get {l : List α} {m : List β} (h : Paired F l m) {i : Nat} {x : α} (e : l[i]? = some x) : ∃ y, m[i]? = some y ∧ F x y := by
  induction h generalizing i with
  | nil => simp at e
  | @cons a b as bs hab _ ih =>
    cases i with
    | zero => simp at e; subst e; exact ⟨b, rfl, hab⟩
    | succ i => exact ih (by simpa using e)
theorem pd_get' {l : List α} {m : List β} (h : Paired F l m) {i : Nat} {y : β} (e : m[i]? = some y) : ∃ x, l[i]? = some x ∧ F x y := by
  induction h generalizing i with
  | nil => simp at e
  | @cons a b as bs hab _ ih =>
    cases i with
    | zero => simp at e; subst e; exact ⟨a, rfl, hab⟩
    | succ i => exact ih (by simpa using e)
theorem pd_app {l l' : List α} {m m' : List β} (h : Paired F l m) (h' : Paired F l' m') : Paired F (l ++ l') (m ++ m') := by
  induction h with
  | nil => exact h'
  | cons a _ ih => exact .cons a ih
theorem pd_snoc {l : List α} {m : List β} {x : α} {y : β} (h : Paired F l m) (hx : F x y) : Paired F (l ++ [x]) (m ++ [y]) := pd_app h (.cons hx .nil)
theorem pd_imp {l : List α} {m : List β} (h : Paired F l m) (f : ∀ a b, F a b → G a b) : Paired G l m := Paired.mapP h f
theorem pd_imp_mem {l : List α} {m : List β} (h : Paired F l m) (f : ∀ a b, b ∈ m → F a b → G a b) : Paired G l m := by
  induction h with
  | nil => exact .nil
  | @cons a b as bs hab _ ih => exact .cons (f a b (by simp) hab) (ih fun a b hb => f a b (by simp [hb]))
theorem pd_map {l : List α} {m : List β} {f : γ → β} {ms : List γ} (h : Paired F l (ms.map f)) : Paired (fun a c => F a (f c)) l ms := by
  induction ms generalizing l with
  | nil => cases h; exact .nil
  | cons c ms ih => cases h with
    | cons a b => exact .cons a (ih b)
theorem pd_map' {l : List α} {f : γ → β} {ms : List γ} (h : Paired (fun a c => F a (f c)) l ms) : Paired F l (ms.map f) := by
  induction h with
  | nil => exact .nil
  | cons a _ ih => exact .cons a ih
theorem pd_of_get {l : List α} {m : List β} (hl : l.length = m.length) (h : ∀ (i : Nat) (x : α) (y : β), l[i]? = some x → m[i]? = some y → F x y) : Paired F l m := by
  induction l generalizing m with
  | nil =>
    cases m with
    | nil => exact .nil
    | cons b bs => simp at hl
  | cons a as ih =>
    cases m with
    | nil => simp at hl
    | cons b bs => exact .cons (h 0 a b rfl rfl) (ih (by simpa using hl) fun i x y e1 e2 => h (i + 1) x y (by simpa using e1) (by simpa using e2))
end paired
abbrev Rep (α : Type) := Hp → V → α → Prop
def Mono {α : Type} (R : Rep α) : Prop := ∀ H H' v x, Same H H' → R H v x → R H' v x
def iv (n : Nat) : V := .int (n : Int)
def rI : Rep Nat := fun _ v n => v = .int (n : Int)
def rZ : Rep Int := fun _ v n => v = .int n
def rS : Rep Str := fun _ v s => v = .str s
def rBl : Rep Bool := fun _ v b => v = .bl b
def rL {α : Type} (R : Rep α) : Rep (List α) := fun H v xs => ∃ a vs, v = .ref a ∧ H a = some (.lst vs) ∧ Paired (R H) vs xs
def rT {α : Type} (R : Rep α) : Rep (List α) := fun H v xs => ∃ a vs, v = .ref a ∧ H a = some (.tup vs) ∧ Paired (R H) vs xs
def rP {α β : Type} (R : Rep α) (S : Rep β) : Rep (α × β) := fun H v p => ∃ a u w, v = .ref a ∧ H a = some (.tup [u, w]) ∧ R H u p.1 ∧ S H w p.2
theorem mI : Mono rI := fun _ _ _ _ _ h => h
theorem mZ : Mono rZ := fun _ _ _ _ _ h => h
theorem mS : Mono rS := fun _ _ _ _ _ h => h
theorem mB : Mono rBl := fun _ _ _ _ _ h => h
theorem mL {α : Type} {R : Rep α} (m : Mono R) : Mono (rL R) := fun H H' v xs s ⟨a, vs, e, h, p⟩ => ⟨a, vs, e, s _ _ h, pd_imp p fun a b r => m _ _ _ _ s r⟩
theorem mT {α : Type} {R : Rep α} (m : Mono R) : Mono (rT R) := fun H H' v xs s ⟨a, vs, e, h, p⟩ => ⟨a, vs, e, s _ _ h, pd_imp p fun a b r => m _ _ _ _ s r⟩
theorem mP {α β : Type} {R : Rep α} {S : Rep β} (m : Mono R) (n : Mono S) : Mono (rP R S) := fun H H' v p s ⟨a, u, w, e, h, r1, r2⟩ => ⟨a, u, w, e, s _ _ h, m _ _ _ _ s r1, n _ _ _ _ s r2⟩
theorem pd_mono {α : Type} {R : Rep α} (m : Mono R) {H H' : Hp} (s : Same H H') {vs : List V} {xs : List α} (p : Paired (R H) vs xs) : Paired (R H') vs xs := pd_imp p fun a b r => m _ _ _ _ s r
theorem pd_ints {H : Hp} {vs : List V} {ns : List Nat} (p : Paired (rI H) vs ns) : vs = ns.map iv := by
  induction p with
  | nil => rfl
  | cons a _ ih => rw [List.map_cons, ← ih]; rw [show _ = _ from a]; rfl
theorem ints_pd {H : Hp} (ns : List Nat) : Paired (rI H) (ns.map iv) ns := by
  induction ns with
  | nil => exact .nil
  | cons n ns ih => exact .cons rfl ih
theorem pd_strs {H : Hp} {vs : List V} {ns : List Str} (p : Paired (rS H) vs ns) : vs = ns.map V.str := by
  induction p with
  | nil => rfl
  | cons a _ ih => rw [List.map_cons, ← ih]; rw [show _ = _ from a]
theorem strs_pd {H : Hp} (ns : List Str) : Paired (rS H) (ns.map V.str) ns := by
  induction ns with
  | nil => exact .nil
  | cons n ns ih => exact .cons rfl ih
section lc
variable {α : Type} {R : Rep α}
/-- what a comprehension keeps -/
def LcP (R : Rep α) (B H1 : Hp) (D : Addr) (outs : List α) (i : Nat) (H : Hp) : Prop := Same H1 H ∧ ∃ acc, H D = some (.lst acc) ∧ Paired (R (offs B [D] H)) acc (outs.take i)
theorem LcP.start {B H1 : Hp} {D : Addr} {outs : List α} (hD : H1 D = none) : LcP R B H1 D outs 0 (upd H1 D (.lst [])) := ⟨same_new hD, [], upd_same, .nil⟩
theorem LcP.step (m : Mono R) {B H1 H H4 : Hp} {D : Addr} {outs : List α} {i : Nat} {y : V} {b : α} (p : LcP R B H1 D outs i H) (hD : H1 D = none) (hb : outs[i]? = some b) (s : Same H H4) (hy : R (offs B [D] H4) y b) (hz : outs.length ≤ sizeLine) :
    ∃ acc, H4 D = some (.lst acc) ∧ acc.length < sizeLine ∧ LcP R B H1 D outs (i + 1) (upd H4 D (.lst (acc ++ [y]))) := by
  obtain ⟨s1, acc, hacc, pr⟩ := p
  have hi : i < outs.length := (List.getElem?_eq_some_iff.mp hb).1
  have hl : acc.length = i := by rw [pd_len pr, List.length_take]; omega
  refine ⟨acc, s _ _ hacc, by omega, same_upd (s1.trans s) hD, _, upd_same, ?_⟩
  rw [offs_upd (by simp), List.take_add_one, hb]
  exact pd_snoc (pd_mono m (offs_same s) pr) hy
theorem LcP.done (m : Mono R) {B H1 H : Hp} {D : Addr} {outs : List α} (p : LcP R B H1 D outs outs.length H) (sB : Same B H1) (hD : H1 D = none) : Same H1 H ∧ rL R (offs B [] H) (.ref D) outs := by
  obtain ⟨s1, acc, hacc, pr⟩ := p
  rw [List.take_length] at pr
  refine ⟨s1, D, acc, rfl, ?_, pd_mono m (offs_mono (fun b h _ => h) (fun b hb => by simp at hb) (Same.refl H)) pr⟩
  rw [offs_get (by simp) (sB.free hD)]; exact hacc
/-- [e for x in xs] over a list -/
theorem lcL {K : PySem.W.Frag} {a : Addr} {xs : List V} {g : TG} {te : TE} {vs : List Nat} {σ : L2.St} {B H1 : Hp} {D : Addr} {Qd : Hp → Prop} (m : Mono R) (outs : List α) (sB : Same B H1) (hD : H1 D = none) (hq : SqL K H1 a xs) (hl : outs.length = xs.length) (hz : outs.length ≤ sizeLine)
    (turn : ∀ (i : Nat) (x : V) (b : α) (H : Hp), xs[i]? = some x → outs[i]? = some b → Same H1 H → H D ≠ none → ∀ k : V → Hp → Prop, (∀ y H4, Same H H4 → R (offs B [D] H4) y b → k y H4) → g x (wipe σ vs) H fun σ2 H2 => wipe σ2 vs = wipe σ vs ∧ te σ2 H2 k)
    (hd : ∀ H, Same H1 H → rL R (offs B [] H) (.ref D) outs → Qd H) :
    ∃ W : Nat → Nat → Hp → Prop, (∃ m, W 0 m (upd H1 D (.lst []))) ∧ ∀ i m H, W i m H →
      ((Itl K a).stop i H ∧ Qd H) ∨ ((Itl K a).go i H ∧ ∃ Nx : Hp → Prop, (∀ H', Nx H' → ∃ m', m' < m ∧ W (i + 1) m' H') ∧ ∀ x H', (Itl K a).yld i H x H' → g x (wipe σ vs) H' fun σ2 H2 => wipe σ2 vs = wipe σ vs ∧ tYes σ2 H2 fun b H3 =>
        if b = true then te σ2 H3 fun y H4 => ∃ acc, H4 D = some (.lst acc) ∧ acc.length < sizeLine ∧ Nx (upd H4 D (.lst (acc ++ [y]))) else Nx H3) := by
  refine lc_list (LcP R B H1 D outs) (LcP.start hD) (fun i H _ p => p.1.seq hq) (fun i x H hx p => ?_) (fun H p => ?_)
  · have hi : i < outs.length := by rw [hl]; exact (List.getElem?_eq_some_iff.mp hx).1
    refine turn i x outs[i] H hx (List.getElem?_eq_getElem hi) p.1 (by obtain ⟨_, acc, e, _⟩ := p; rw [e]; exact fun z => nomatch z) _ fun y H4 s hy => ?_
    exact LcP.step m p hD (List.getElem?_eq_getElem hi) s hy hz
  · rw [← hl] at p
    obtain ⟨a, b⟩ := LcP.done m p sB hD
    exact hd H a b
/-- over a tuple -/
theorem lcT {K : PySem.W.Frag} {a : Addr} {xs : List V} {g : TG} {te : TE} {vs : List Nat} {σ : L2.St} {B H1 : Hp} {D : Addr} {Qd : Hp → Prop} (m : Mono R) (outs : List α) (sB : Same B H1) (hD : H1 D = none) (hq : H1 a = some (.tup xs)) (hl : outs.length = xs.length) (hz : outs.length ≤ sizeLine)
    (turn : ∀ (i : Nat) (x : V) (b : α) (H : Hp), xs[i]? = some x → outs[i]? = some b → Same H1 H → H D ≠ none → ∀ k : V → Hp → Prop, (∀ y H4, Same H H4 → R (offs B [D] H4) y b → k y H4) → g x (wipe σ vs) H fun σ2 H2 => wipe σ2 vs = wipe σ vs ∧ te σ2 H2 k)
    (hd : ∀ H, Same H1 H → rL R (offs B [] H) (.ref D) outs → Qd H) :
    ∃ W : Nat → Nat → Hp → Prop, (∃ m, W 0 m (upd H1 D (.lst []))) ∧ ∀ i m H, W i m H →
      ((Itt K a).stop i H ∧ Qd H) ∨ ((Itt K a).go i H ∧ ∃ Nx : Hp → Prop, (∀ H', Nx H' → ∃ m', m' < m ∧ W (i + 1) m' H') ∧ ∀ x H', (Itt K a).yld i H x H' → g x (wipe σ vs) H' fun σ2 H2 => wipe σ2 vs = wipe σ vs ∧ tYes σ2 H2 fun b H3 =>
        if b = true then te σ2 H3 fun y H4 => ∃ acc, H4 D = some (.lst acc) ∧ acc.length < sizeLine ∧ Nx (upd H4 D (.lst (acc ++ [y]))) else Nx H3) := by
  refine lc_tup (LcP R B H1 D outs) (LcP.start hD) (fun i H _ p => SqT.of (p.1 _ _ hq)) (fun i x H hx p => ?_) (fun H p => ?_)
  · have hi : i < outs.length := by rw [hl]; exact (List.getElem?_eq_some_iff.mp hx).1
    refine turn i x outs[i] H hx (List.getElem?_eq_getElem hi) p.1 (by obtain ⟨_, acc, e, _⟩ := p; rw [e]; exact fun z => nomatch z) _ fun y H4 s hy => ?_
    exact LcP.step m p hD (List.getElem?_eq_getElem hi) s hy hz
  · rw [← hl] at p
    obtain ⟨a, b⟩ := LcP.done m p sB hD
    exact hd H a b
/-- over a range -/
theorem lcR {lo : Int} {n : Nat} {g : TG} {te : TE} {vs : List Nat} {σ : L2.St} {B H1 : Hp} {D : Addr} {Qd : Hp → Prop} (m : Mono R) (outs : List α) (sB : Same B H1) (hD : H1 D = none) (hl : outs.length = n) (hz : outs.length ≤ sizeLine)
    (turn : ∀ (i : Nat) (b : α) (H : Hp), i < n → outs[i]? = some b → Same H1 H → H D ≠ none → ∀ k : V → Hp → Prop, (∀ y H4, Same H H4 → R (offs B [D] H4) y b → k y H4) → g (.int (lo + i)) (wipe σ vs) H fun σ2 H2 => wipe σ2 vs = wipe σ vs ∧ te σ2 H2 k)
    (hd : ∀ H, Same H1 H → rL R (offs B [] H) (.ref D) outs → Qd H) :
    ∃ W : Nat → Nat → Hp → Prop, (∃ m, W 0 m (upd H1 D (.lst []))) ∧ ∀ i m H, W i m H →
      ((Itr lo n).stop i H ∧ Qd H) ∨ ((Itr lo n).go i H ∧ ∃ Nx : Hp → Prop, (∀ H', Nx H' → ∃ m', m' < m ∧ W (i + 1) m' H') ∧ ∀ x H', (Itr lo n).yld i H x H' → g x (wipe σ vs) H' fun σ2 H2 => wipe σ2 vs = wipe σ vs ∧ tYes σ2 H2 fun b H3 =>
        if b = true then te σ2 H3 fun y H4 => ∃ acc, H4 D = some (.lst acc) ∧ acc.length < sizeLine ∧ Nx (upd H4 D (.lst (acc ++ [y]))) else Nx H3) := by
  refine lc_range (LcP R B H1 D outs) (LcP.start hD) (fun i H hi p => ?_) (fun H p => ?_)
  · have hi' : i < outs.length := by rw [hl]; exact hi
    refine turn i outs[i] H hi (List.getElem?_eq_getElem hi') p.1 (by obtain ⟨_, acc, e, _⟩ := p; rw [e]; exact fun z => nomatch z) _ fun y H4 s hy => ?_
    exact LcP.step m p hD (List.getElem?_eq_getElem hi') s hy hz
  · rw [← hl] at p
    obtain ⟨a, b⟩ := LcP.done m p sB hD
    exact hd H a b
/-- over any walk J of n turns, each told by Y -/
theorem lcG {J : It} {n : Nat} {g : TG} {te : TE} {vs : List Nat} {σ : L2.St} {B H1 : Hp} {D : Addr} {Qd : Hp → Prop} (m : Mono R) (outs : List α) (sB : Same B H1) (hD : H1 D = none) (hl : outs.length = n) (hz : outs.length ≤ sizeLine)
    (hgo : ∀ i H, i < n → Same H1 H → J.go i H) (hstop : ∀ H, Same H1 H → J.stop n H)
    (turn : ∀ (i : Nat) (x : V) (b : α) (H H0 : Hp), i < n → outs[i]? = some b → Same H1 H → H D ≠ none → J.yld i H x H0 → ∀ k : V → Hp → Prop, (∀ y H4, Same H H4 → R (offs B [D] H4) y b → k y H4) → g x (wipe σ vs) H0 fun σ2 H2 => wipe σ2 vs = wipe σ vs ∧ te σ2 H2 k)
    (hd : ∀ H, Same H1 H → rL R (offs B [] H) (.ref D) outs → Qd H) :
    ∃ W : Nat → Nat → Hp → Prop, (∃ m, W 0 m (upd H1 D (.lst []))) ∧ ∀ i m H, W i m H →
      (J.stop i H ∧ Qd H) ∨ (J.go i H ∧ ∃ Nx : Hp → Prop, (∀ H', Nx H' → ∃ m', m' < m ∧ W (i + 1) m' H') ∧ ∀ x H', J.yld i H x H' → g x (wipe σ vs) H' fun σ2 H2 => wipe σ2 vs = wipe σ vs ∧ tYes σ2 H2 fun b H3 =>
        if b = true then te σ2 H3 fun y H4 => ∃ acc, H4 D = some (.lst acc) ∧ acc.length < sizeLine ∧ Nx (upd H4 D (.lst (acc ++ [y]))) else Nx H3) := by
  refine ⟨fun i m H => m = n - i ∧ i ≤ n ∧ LcP R B H1 D outs i H, ⟨n, by simp, Nat.zero_le _, LcP.start hD⟩, ?_⟩
  rintro i mm H ⟨rfl, hi, p⟩
  by_cases hlt : i < n
  · refine .inr ⟨hgo i H hlt p.1, LcP R B H1 D outs (i + 1), fun H' p' => ⟨n - (i + 1), by omega, rfl, hlt, p'⟩, fun x H' y => ?_⟩
    have hi' : i < outs.length := by rw [hl]; exact hlt
    refine turn i x outs[i] H H' hlt (List.getElem?_eq_getElem hi') p.1 (by obtain ⟨_, acc, e, _⟩ := p; rw [e]; exact fun z => nomatch z) y _ fun y H4 s hy => ?_
    exact LcP.step m p hD (List.getElem?_eq_getElem hi') s hy hz
  · have e : i = n := by omega
    subst e
    refine .inl ⟨hstop H p.1, ?_⟩
    rw [← hl] at p
    obtain ⟨a, b⟩ := LcP.done m p sB hD
    exact hd H a b
end lc
end FA
end
section
namespace FA
open PySem PySem.Spec PyProof.Rows L2
section
variable {X : Cx}
theorem opI {f : Value → Value → Sem Value} {r r' : R2} (h : OpR X f r) (i : ∀ x y H Q, r' x y H Q → r x y H Q) : OpR X f r' := fun pins s σ H x y v u Q I rx ry q => h pins s σ H x y v u Q I rx ry (i _ _ _ _ q)
theorem ixI {r r' : R2} (h : IxR X r) (i : ∀ x y H Q, r' x y H Q → r x y H Q) : IxR X r' := fun e1 e2 pins s σ H x y v u Q I rx ry q => h e1 e2 pins s σ H x y v u Q I rx ry (i _ _ _ _ q)
theorem clI {f : Value} {r r' : List V → Hp → VK → Prop} (h : CallR X f r) (i : ∀ xs H Q, r' xs H Q → r xs H Q) : CallR X f r' := fun pins s σ H xs us Q I rx q => h pins s σ H xs us Q I rx (i _ _ _ q)
theorem mtI {id : String} {r r' : V → List V → Hp → VK → Prop} (h : MtR X id r) (i : ∀ x xs H Q, r' x xs H Q → r x xs H Q) : MtR X id r' := fun pins s σ H x xs v us Q I rx rs q => h pins s σ H x xs v us Q I rx rs (i _ _ _ _ q)
theorem slI {r r' : V → Option Int → Option Int → Hp → VK → Prop} (h : SlR X r) (i : ∀ x a b H Q, r' x a b H Q → r x a b H Q) : SlR X r' := fun pins s σ H x v vl vu lo hi sl Q I rx h1 h2 h3 q => h pins s σ H x v vl vu lo hi sl Q I rx h1 h2 h3 (i _ _ _ _ _ q)
def qIxL : R2 := fun x y H Q => ∃ p xs i v, x = .ref p ∧ y = .int i ∧ H p = some (.lst xs) ∧ atI xs i = some v ∧ Q v H
def qIxT : R2 := fun x y H Q => ∃ p xs i v, x = .ref p ∧ y = .int i ∧ H p = some (.tup xs) ∧ atI xs i = some v ∧ Q v H
theorem kix_list : IxR X qIxL := ixI ix_list fun x y H Q ⟨p, xs, i, v, a, b, c, d, e⟩ => ⟨p, xs, i, v, a, b, SqL.of c, d, e⟩
theorem kix_tup : IxR X qIxT := ixI ix_tup fun x y H Q ⟨p, xs, i, v, a, b, c, d, e⟩ => ⟨p, xs, i, v, a, b, SqT.of c, d, e⟩
def qLenL : List V → Hp → VK → Prop := fun xs H Q => ∃ p ys, xs = [.ref p] ∧ (H p = some (.lst ys) ∨ H p = some (.tup ys)) ∧ Q (.int ys.length) H
def qLenS : List V → Hp → VK → Prop := fun xs H Q => ∃ y, xs = [.str y] ∧ y.length ≤ sizeLine ∧ Q (.int y.length) H
theorem klen_seq : CallR X (.builtin "len") qLenL := clI call_len_seq fun xs H Q ⟨p, ys, a, b, c⟩ => ⟨p, ys, a, b.elim (fun z => .inl (SqL.of z)) (fun z => .inr (SqT.of z)), c⟩
theorem klen_str : CallR X (.builtin "len") qLenS := clI call_len fun xs H Q ⟨y, a, b, c⟩ => ⟨.str y, y.length, a, ⟨b, rfl⟩, c⟩
def qTup : List V → Hp → VK → Prop := fun xs H Q => ∃ p ys, xs = [.ref p] ∧ H p = some (.lst ys) ∧ ∀ l, H l = none → Q (.ref l) (upd H l (.tup ys))
theorem ktuple : CallR X (.type "tuple") qTup := clI call_tuple_of fun xs H Q ⟨p, ys, a, b, c⟩ => ⟨p, ys, a, .inl ⟨SqL.of b, c⟩⟩
def qLst : List V → Hp → VK → Prop := fun xs H Q => ∃ p ys, xs = [.ref p] ∧ H p = some (.lst ys) ∧ ∀ l, H l = none → Q (.ref l) (upd H l (.lst ys))
theorem klist : CallR X (.type "list") qLst := clI call_list_of fun xs H Q ⟨p, ys, a, b, c⟩ => ⟨p, ys, a, .inl (SqL.of b), c⟩
def qAll : List V → Hp → VK → Prop := fun vs H Q => ∃ (a : Addr) (bs : List Bool), vs = [V.ref a] ∧ H a = some (.lst (bs.map V.bl)) ∧ Q (.bl (bs.all id)) H
theorem kall (hc : X.calm = true) : CallR X (.builtin "all") qAll := clI (cr_all hc) fun xs H Q ⟨p, ys, a, b, c⟩ => ⟨p, ys, a, SqL.of b, c⟩
def qMax : List V → Hp → VK → Prop := fun vs H Q => ∃ (a : Addr) (ns : List Int), vs = [V.ref a] ∧ H a = some (.lst (ns.map V.int)) ∧ 0 < ns.length ∧ ∀ m, m ∈ ns → (∀ y, y ∈ ns → y ≤ m) → Q (.int m) H
theorem kmax (hc : X.calm = true) : CallR X (.builtin "max") qMax := clI (cr_max hc) fun xs H Q ⟨p, ys, a, b, c⟩ => ⟨p, ys, a, SqL.of b, c⟩
def qSlL : V → Option Int → Option Int → Hp → VK → Prop := fun x lo hi H Q => ∃ a xs, x = .ref a ∧ H a = some (.lst xs) ∧ ∀ p, H p = none → Q (.ref p) (upd H p (.lst (cutV xs lo hi)))
theorem ksl_list : SlR X qSlL := slI sl_list fun x lo hi H Q ⟨a, xs, b, c, d⟩ => ⟨a, xs, b, SqL.of c, d⟩
def qCatT : R2 := fun x y H Q => ∃ a b xs ys, x = .ref a ∧ y = .ref b ∧ H a = some (.tup xs) ∧ H b = some (.tup ys) ∧ xs ≠ [] ∧ xs.length + ys.length ≤ sizeLine ∧
  (ys = [] → Q (.ref a) H) ∧ (ys ≠ [] → ∀ p, H p = none → Q (.ref p) (upd H p (.tup (xs ++ ys))))
theorem kcatT : OpR X (binaryOp .Add) qCatT := opI op_catT fun x y H Q ⟨a, b, xs, ys, c, d, e, f, g⟩ => ⟨a, b, xs, ys, c, d, SqT.of e, SqT.of f, g⟩
def qLtT : R2 := fun x y H Q => ∃ a b ns ms, x = .ref a ∧ y = .ref b ∧ H a = some (.tup (ns.map V.int)) ∧ H b = some (.tup (ms.map V.int)) ∧ Q (.bl (HT.lexLt ns ms)) H
theorem kltT (hu : X.A.units < cLine) : OpR X (compareOp .Lt) qLtT := opI (op_ltT hu) fun x y H Q ⟨a, b, xs, ys, c, d, e, f, g⟩ => ⟨a, b, xs, ys, c, d, SqT.of e, SqT.of f, g⟩
def qIsi (K : PySem.W.Frag) : List V → Hp → VK → Prop := rIsi K
def qIndex : V → List V → Hp → VK → Prop := fun x xs H Q => ∃ (a : Addr) (ys : List Int) (y : Int) (j : Nat), x = V.ref a ∧ xs = [.int y] ∧ H a = some (.lst (ys.map V.int)) ∧ ys.idxOf y = j ∧ y ∈ ys ∧ Q (.int (j : Nat)) H
end
section
variable {X : Cx} (K : PySem.W.Frag)
variable {e o l e2 : Expr} {te to tl ta tb : TE} {t : TA} {pos p p2 pos2 tpos : Pos}
theorem kfld {f : Str} (he : PE X e te) (hb : attributeBase e f X.env (eval e X.env) = eval e X.env) (hK : X.K = K := by rfl) : PE X (.Attribute e f pos) (tFld K te f) := by subst hK; exact pe_fld he hb
theorem kpi_list {tg : Expr} (hl : PE X l tl) (hK : X.K = K := by rfl) : PI X tg l (iList K tl) := by subst hK; exact pi_list hl
theorem kpi_tup {tg : Expr} (hl : PE X l tl) (hK : X.K = K := by rfl) : PI X tg l (iTup K tl) := by subst hK; exact pi_tup hl
theorem kpi_enum {elts : List Expr} {kk : Nat} {ta : TA} (hg : Gl X "enumerate") (hm : X.mg "enumerate" = none) (ha : PA X [e] ta) (hs : starEach [e] X.env = [(false, eval e X.env)] := by rfl) (hK : X.K = K := by rfl) :
    PI X (.Tuple elts kk tpos) (.Call (.Name "enumerate" p) [e] [] pos) (iEnum K ta) := by subst hK; exact pi_enum hg hm ha hs
theorem kpi_zip {elts : List Expr} {kk : Nat} {ta : TA} (hg : Gl X "zip") (hm : X.mg "zip" = none) (ha : PA X [e, e2] ta)
    (hs : starEach [e, e2] X.env = (false, eval e X.env) :: starEach [e2] X.env := by rfl) (hpl : (backTo pos (starEach [e2] X.env)).any (·.1) = false := by rfl) (hK : X.K = K := by rfl) :
    PI X (.Tuple elts kk tpos) (.Call (.Name "zip" p) [e, e2] [] pos) (iZip K ta) := by subst hK; exact pi_zip hg hm ha hs hpl
theorem kpi_zipN {nm : Str} {ta : TA} (hg : Gl X "zip") (hm : X.mg "zip" = none) (ha : PA X [e, e2] ta)
    (hs : starEach [e, e2] X.env = (false, eval e X.env) :: starEach [e2] X.env := by rfl) (hpl : (backTo pos (starEach [e2] X.env)).any (·.1) = false := by rfl) (hK : X.K = K := by rfl) :
    PI X (.Name nm tpos) (.Call (.Name "zip" p) [e, e2] [] pos) (iZip K ta) := by subst hK; exact pi_zipN hg hm ha hs hpl
theorem kpi_enz {elts : List Expr} {kk : Nat} {ta : TA} (hg : Gl X "zip") (hm : X.mg "zip" = none) (hge : Gl X "enumerate") (hme : X.mg "enumerate" = none) (ha : PA X [e, e2] ta)
    (hs : starEach [e, e2] X.env = (false, eval e X.env) :: starEach [e2] X.env := by rfl) (hpl : (backTo pos2 (starEach [e2] X.env)).any (·.1) = false := by rfl)
    (hs2 : starEach [.Call (.Name "zip" p2) [e, e2] [] pos2] X.env = [(false, eval (.Call (.Name "zip" p2) [e, e2] [] pos2) X.env)] := by rfl) (hK : X.K = K := by rfl) :
    PI X (.Tuple elts kk tpos) (.Call (.Name "enumerate" p) [.Call (.Name "zip" p2) [e, e2] [] pos2] [] pos) (iEnz K ta) := by subst hK; exact pi_enz hg hm hge hme ha hs hpl hs2
theorem kpg_tup {es : List Expr} {k : Nat} {tt : TGs} {n : Nat} (hc : X.calm = true) (h : PGs X es tt)
    (hn : (assignEach es X.env).length = n := by rfl) (hst : (assignEach es X.env).findIdx? (·.1) = none := by rfl) (hK : X.K = K := by rfl) : PG X (.Tuple es k pos) (gTup K n tt) := by subst hK; exact pg_tup hc h hn hst
theorem klz {ta : TA} (hc : X.calm = true) (hg : Gl X "zip") (hm : X.mg "zip" = none) (hgl : Gl X "list") (hml : X.mg "list" = none) (ha : PA X [e, e2] ta)
    (hs : starEach [e, e2] X.env = (false, eval e X.env) :: starEach [e2] X.env := by rfl) (hpl : (backTo pos2 (starEach [e2] X.env)).any (·.1) = false := by rfl)
    (hs2 : starEach [.Call (.Name "zip" p2) [e, e2] [] pos2] X.env = [(false, eval (.Call (.Name "zip" p2) [e, e2] [] pos2) X.env)] := by rfl) (hK : X.K = K := by rfl) :
    PE X (.Call (.Name "list" p) [.Call (.Name "zip" p2) [e, e2] [] pos2] [] pos) (tLz K ta) := by subst hK; exact pe_lz hc hg hm hgl hml ha hs hpl hs2
theorem krev {k : Nat} {p1 p2 p3 : Pos} (he : PE X e te) (hK : X.K = K := by rfl) : PE X (.Subscript e (.Slice none none (some (.UnaryOp .USub (.Constant (.int 1) k p1) p2)) p3) pos) (tRevL K te) := by subst hK; exact pe_revL he
def qJoin (K : PySem.W.Frag) : V → List V → Hp → VK → Prop := fun x xs H Q => ∃ a p, ∃ ys : List Str, x = .str a ∧ xs = [.ref p] ∧ (SqL K H p (ys.map V.str) ∨ SqT K H p (ys.map V.str)) ∧
      (ys.map (·.length)).sum + ys.length * a.length ≤ 16777216 ∧ Q (.str (Txt.join a ys)) H
theorem kjoin {apos : Pos} (ho : PE X o to) (he : PE X e te) (hs : starEach [e] X.env = [(false, eval e X.env)] := by rfl) (hbase : attributeBase o "join" X.env (eval o X.env) = eval o X.env := by rfl) (hline : (apos.endLine == pos.line) = true := by rfl) (hK : X.K = K := by rfl) :
    PE X (.Call (.Attribute o "join" apos) [e] [] pos) (tM1 (qJoin K) to te) := by subst hK; exact pe_join ho he hs hbase hline
theorem ktruth (ha : PE X e te) (he : ∀ whole, isTrue e X.env whole = (do let v ← whole; standAt e.pos; holding [v] (truthy v))) (hK : X.K = K := by rfl) :
    PT X e (fun σ H Q => te σ H fun x H' => ∃ k, TruV K x H' k ∧ Q k H') := by subst hK; exact pt_truth ha he
theorem kbm {T id : String} {name : Str} {apos cpos : Pos} {es : List Expr} {r : V → List V → Hp → VK → Prop} (pa : PlainAttrs T) (slot : Slot T name id) (hty : typeOf (.builtin id) = pure (.type "method_descriptor")) (hm : MtR X id r) (ho : PE X o to) (ha : PA X (e :: es) t)
    (hbase : attributeBase o name X.env (eval o X.env) = eval o X.env := by rfl)
    (hfew : ((backTo cpos (starEach (e :: es) X.env)).all (fun x => !x.1) && (backToKw cpos (keywordEach [] X.env)).all (fun x => x.1.isSome)
      && decide ((e :: es).length + ([] : List Keyword).length + (if ([] : List Keyword).isEmpty then 0 else 1) < 30)) = true := by rfl)
    (hline : (apos.endLine == cpos.line) = true := by rfl) (hs : starEach (e :: es) X.env = (false, eval e X.env) :: starEach es X.env := by rfl) (hplain : (backTo cpos (starEach es X.env)).any (·.1) = false := by rfl) (hK : X.K = K := by rfl) :
    PE X (.Call (.Attribute o name apos) (e :: es) [] cpos) (tBM K T r to t) := by subst hK; exact pe_bm pa slot hty hm ho ha hbase hfew hline hs hplain
theorem kbmS {T id : String} {name : Str} {apos cpos : Pos} {es : List Expr} {r : L2.St → V → List V → Hp → VK → Prop} (pa : PlainAttrs T) (slot : Slot T name id) (hty : typeOf (.builtin id) = pure (.type "method_descriptor")) (hm : MtS X id r) (ho : PE X o to) (ha : PA X (e :: es) t)
    (hbase : attributeBase o name X.env (eval o X.env) = eval o X.env := by rfl)
    (hfew : ((backTo cpos (starEach (e :: es) X.env)).all (fun x => !x.1) && (backToKw cpos (keywordEach [] X.env)).all (fun x => x.1.isSome)
      && decide ((e :: es).length + ([] : List Keyword).length + (if ([] : List Keyword).isEmpty then 0 else 1) < 30)) = true := by rfl)
    (hline : (apos.endLine == cpos.line) = true := by rfl) (hs : starEach (e :: es) X.env = (false, eval e X.env) :: starEach es X.env := by rfl) (hplain : (backTo cpos (starEach es X.env)).any (·.1) = false := by rfl) (hK : X.K = K := by rfl) :
    PE X (.Call (.Attribute o name apos) (e :: es) [] cpos) (tBMS K T r to t) := by subst hK; exact pe_bmS pa slot hty hm ho ha hbase hfew hline hs hplain
theorem kisi {x : Str} {es : List Expr} (hg : Gl X x) (hm : X.mg x = none) (hv : bootBuiltins x = some (.builtin "isinstance")) (ha : PA X (e :: es) t) (hn : x ≠ "__name__" := by decide) (hdb : (x == ("__debug__" : Str)) = false := by decide)
    (he : starEach (e :: es) X.env = (false, eval e X.env) :: starEach es X.env := by rfl) (hpl : (backTo pos (starEach es X.env)).any (·.1) = false := by rfl) (hK : X.K = K := by rfl) : PE X (.Call (.Name x p) (e :: es) [] pos) (tCB (rIsi K) t) := by
  subst hK; exact pe_callB call_isi hg hm hv ha hn hdb he hpl
theorem kinD (hu : X.A.units + 65 < cLine) (hK : X.K = K := by rfl) : OpR X (compareOp .In) (rInD K) := by subst hK; exact op_inD hu
theorem knotInD (hu : X.A.units + 65 < cLine) (hK : X.K = K := by rfl) : OpR X (compareOp .NotIn) (rNotInD K) := by subst hK; exact op_notInD hu
theorem keqD (hu : X.A.units + 64 < cLine) (hK : X.K = K := by rfl) : OpR X (compareOp .Eq) (rEqD K) := by subst hK; exact op_eqD hu
theorem kneD (hu : X.A.units + 64 < cLine) (hK : X.K = K := by rfl) : OpR X (compareOp .NotEq) (rNeD K) := by subst hK; exact op_neD hu
end
end FA
end
section
namespace FA
open PySem PySem.Spec PyProof.Rows L2
/-- what the module's names stand for, and what it leaves to the built-ins -/
structure Glo (mg : Str → Option Value) : Prop where
  z_len : mg "len" = none
  z_range : mg "range" = none
  z_enumerate : mg "enumerate" = none
  z_zip : mg "zip" = none
  z_tuple : mg "tuple" = none
  z_list : mg "list" = none
  z_dict : mg "dict" = none
  z_isinstance : mg "isinstance" = none
  z_str : mg "str" = none
  z_int : mg "int" = none
  z_bool : mg "bool" = none
  z_max : mg "max" = none
  z_all : mg "all" = none
  z_abs : mg "abs" = none
  c_MOST_LETTERS : ∃ t, mg "MOST_LETTERS" = some (.int 5 t)
  c_MOST_STATES : ∃ t, mg "MOST_STATES" = some (.int 40 t)
  c_LETTERS : ∃ t, mg "LETTERS" = some (.str "abcdefghijklmnopqrstuvwxyz" t)
/-- the class Machine at C -/
structure Mcl (K : PySem.W.Frag) (mg : Str → Option Value) (C : Addr) : Prop where
  cl : Cls K C
  n1 : NoAttr K C "reads"
  n2 : NoAttr K C "writes"
  n3 : NoAttr K C "left"
  n4 : NoAttr K C "right"
  n5 : NoAttr K C "table"
  g : mg "Machine" = some (.ref C)
/-- a def of the text as it stands -/
def Df (K : PySem.W.Frag) (mg : Str → Option Value) (x : Str) (st : Stmt) (ps : List Str) : Prop :=
  ∃ f fd, FunD K x x (defArgs st) (defBody st) (defScope st) [] [] f fd ∧ mg x = some (.ref f) ∧ Binds K fd ps []
/-- a def that keeps its promise -/
def Cal (P : Program) (w : World) (K : PySem.W.Frag) (mg : Str → Option Value) (base : Heap) (x : Str) (ps : List Str) (k : Nat) (sp : Sp) : Prop :=
  ∃ f fd, FnOk P w K mg base CX0 k f fd ps sp ∧ mg x = some (.ref f) ∧ PySem.W.keepIn K (.ref f) = true ∧ Binds K fd ps []
theorem un65 {A : Around} {k : Nat} (hr : Room k A) : A.units + 65 < cLine := by have := hr.un; omega
section
variable {X : Cx} {x : Str} {ps : List Str} {k : Nat} {sp : Sp} {e : Expr} {es : List Expr} {t : TA} {p pos : Pos}
theorem pe_cal (C : Cal X.prog X.w X.K X.mg X.base x ps k sp) (hr : Room k X.A) (hg : Gl X x) (ha : PA X (e :: es) t) (hdb : (x == ("__debug__" : Str)) = false := by decide)
    (he : starEach (e :: es) X.env = (false, eval e X.env) :: starEach es X.env := by rfl) (hpl : (backTo pos (starEach es X.env)).any (·.1) = false := by rfl) : PE X (.Call (.Name x p) (e :: es) [] pos) (tCall sp [] E0 t) := by
  obtain ⟨f, fd, F, hm, kp, b⟩ := C
  exact pe_call F hr hg hm kp b .nil pass0 ha hdb he hpl
end
section
variable {P : Program} {w : World} {K : PySem.W.Frag} {mg : Str → Option Value} {base : Heap}
/-- the rule for a def of the text -/
theorem Df.ok {x : Str} {st : Stmt} {N ps : List Str} {k : Nat} {sp : Sp} (D : Df K mg x st ps) (S : FnScope N ps (defScope st)) (len : ∀ vs H Q E, sp vs H Q E → vs.length = ps.length)
    (hbody : ∀ (f : Addr) (cdv : Value) (A : Around) (outer : List Env) (s : Shared) (H : Hp) (vs : List V) (Q : VK) (E : XK), Room k (A.deeper (envOfC x (defScope st) s.heap.objs.size f cdv)) → sp vs H Q E →
      ∃ t, PSs (cxOf CX0 P w K mg base N x (defScope st) f cdv A outer s H E).nox (defBody st) t ∧ t { nx := fun _ H' => Q .non H', rt := Q } (start N vs) H) : Cal P w K mg base x ps (k + 1) sp := by
  obtain ⟨f, fd, F, hm, b⟩ := D
  refine ⟨f, fd, F.ok S len fun cdv A outer s H vs Q E hr h => ?_, hm, F.kp, b⟩
  obtain ⟨t, h1, h2⟩ := hbody f cdv A outer s H vs Q E hr h
  exact ⟨t, PSs.nox h1, h2⟩
theorem Cal.mono {x : Str} {ps : List Str} {j k : Nat} {sp : Sp} (C : Cal P w K mg base x ps j sp) (h : j ≤ k) : Cal P w K mg base x ps k sp := by
  obtain ⟨f, fd, F, hm, kp, b⟩ := C
  exact ⟨f, fd, F.mono h, hm, kp, b⟩
end
end FA
namespace FA
open PySem PySem.Spec PyProof.Rows L2
/-- the class's __init__ -/
def CalI (P : Program) (w : World) (K : PySem.W.Frag) (mg : Str → Option Value) (base : Heap) (C : Addr) (ps : List Str) (k : Nat) (sp : Sp) : Prop :=
  ∃ f fd, Mk K C f ∧ FnOk P w K mg base CX0 k f fd ps sp ∧ Binds K fd ps []
def DfI (K : PySem.W.Frag) (C : Addr) (st : Stmt) (ps : List Str) : Prop :=
  ∃ f fd, Mk K C f ∧ FunD K "__init__" "Machine.__init__" (defArgs st) (defBody st) (defScope st) [] [] f fd ∧ Binds K fd ps []
section
variable {X : Cx} {x : Str} {ps : List Str} {k : Nat} {sp : Sp} {e : Expr} {es : List Expr} {t : TA} {p pos : Pos} {C : Addr}
theorem pe_mk (I : CalI X.prog X.w X.K X.mg X.base C ps k sp) (hr : Room (k + 1) X.A) (hg : Gl X x) (hm : X.mg x = some (.ref C)) (ha : PA X (e :: es) t) (hdb : (x == ("__debug__" : Str)) = false := by decide)
    (he : starEach (e :: es) X.env = (false, eval e X.env) :: starEach es X.env := by rfl) (hpl : (backTo pos (starEach es X.env)).any (·.1) = false := by rfl) : PE X (.Call (.Name x p) (e :: es) [] pos) (tMake C sp [] E0 t) := by
  obtain ⟨f, fd, M, F, b⟩ := I
  exact pe_make M F hr hg hm b .nil pass0 ha hdb he hpl
end
section
variable {P : Program} {w : World} {K : PySem.W.Frag} {mg : Str → Option Value} {base : Heap} {C : Addr}
theorem DfI.ok {st : Stmt} {N ps : List Str} {k : Nat} {sp : Sp} (D : DfI K C st ps) (S : FnScope N ps (defScope st)) (len : ∀ vs H Q E, sp vs H Q E → vs.length = ps.length)
    (hbody : ∀ (f : Addr) (cdv : Value) (A : Around) (outer : List Env) (s : Shared) (H : Hp) (vs : List V) (Q : VK) (E : XK), Room k (A.deeper (envOfC "Machine.__init__" (defScope st) s.heap.objs.size f cdv)) → sp vs H Q E →
      ∃ t, PSs (cxOf CX0 P w K mg base N "Machine.__init__" (defScope st) f cdv A outer s H E).nox (defBody st) t ∧ t { nx := fun _ H' => Q .non H', rt := Q } (start N vs) H) : CalI P w K mg base C ps (k + 1) sp := by
  obtain ⟨f, fd, M, F, b⟩ := D
  refine ⟨f, fd, M, F.ok S len fun cdv A outer s H vs Q E hr h => ?_, b⟩
  obtain ⟨t, h1, h2⟩ := hbody f cdv A outer s H vs Q E hr h
  exact ⟨t, PSs.nox h1, h2⟩
end
end FA
end
section
namespace FA
open PySem PySem.Spec PyProof.Rows L2 FM
section
variable {X : Cx}
/-- tuple + tuple: what comes is old only if one side is empty -/
def qCat : R2 := fun x y H Q => ∃ a b xs ys, x = .ref a ∧ y = .ref b ∧ H a = some (.tup xs) ∧ H b = some (.tup ys) ∧ xs.length + ys.length ≤ sizeLine ∧
  ∀ p H', Same H H' → H' p = some (.tup (xs ++ ys)) → (∀ (B : Hp) (ds : List Addr), (∀ d ∈ ds, H d ≠ none) → (xs = [] → b ∉ ds ∧ B b = none) → (ys = [] → a ∉ ds ∧ B a = none) → Same B H → p ∉ ds ∧ B p = none) → Q (.ref p) H'
theorem kcatA : OpR X (binaryOp .Add) qCat := opI op_catA fun x y H Q ⟨a, b, xs, ys, e1, e2, h1, h2, hz, q⟩ => by
  refine ⟨a, b, xs, ys, e1, e2, SqT.of h1, SqT.of h2, hz, fun e => ?_, fun n e => ?_, fun n m p hp => ?_⟩
  · subst e
    exact q b H (Same.refl H) h2 (fun B ds _ h _ _ => h rfl)
  · subst e
    exact q a H (Same.refl H) (by rw [List.append_nil]; exact h1) (fun B ds _ _ h _ => h rfl)
  · exact q p _ (same_new hp) upd_same (fun B ds hd _ _ s => ⟨fun m => hd _ m hp, s.free hp⟩)
theorem kmt_index : MtR X "list.index" qIndex := mtI mt_index fun x xs H Q ⟨a, ys, y, j, e1, e2, h, hj, hm, q⟩ => by
  have hlt : ys.idxOf y < ys.length := List.idxOf_lt_length_iff.mpr hm
  subst hj
  refine ⟨a, ys.map V.int, .int y, _, .int y, e1, e2, SqL.of h, rfl, List.all_eq_true.mpr (fun z hz => ?_), ?_, by simp [eqV], fun m z hm hz => ?_, q⟩
  · obtain ⟨u, _, rfl⟩ := List.mem_map.mp hz
    rfl
  · rw [List.getElem?_map, List.getElem?_eq_getElem hlt]
    simp
  · rw [List.getElem?_map] at hz
    have hm' : m < ys.length := by omega
    rw [List.getElem?_eq_getElem hm'] at hz
    have : z = V.int ys[m] := by simpa using hz.symm
    subst this
    have := List.not_of_lt_findIdx (show m < ys.findIdx (· == y) from hm)
    simpa [eqV] using this
end
theorem sz {n : Nat} (h : n ≤ 10000) : n < sizeLine := Nat.lt_of_le_of_lt h (by decide)
theorem szl {n : Nat} (h : n ≤ 10000) : n ≤ sizeLine := Nat.le_of_lt (sz h)
section
variable {α β κ : Type} [DecidableEq κ] {kf : α → κ} {R : V → β → Prop}
abbrev DP (kf : α → κ) (R : V → β → Prop) (kvs : List (κ × V)) (fs : List (α × β)) : Prop := Paired (fun kv p => kv.1 = kf p.1 ∧ R kv.2 p.2) kvs fs
theorem dp_none {kvs : List (κ × V)} {fs : List (α × β)} (h : DP kf R kvs fs) (hi : ∀ a b, kf a = kf b → a = b) {s : α} (hs : s ∉ fs.map (·.1)) : valV kvs (kf s) = none := by
  induction h with
  | nil => rfl
  | @cons kv p kvs fs hp _ ih =>
    rw [List.map_cons, List.mem_cons] at hs
    rw [valV_neg (by rw [hp.1]; exact fun e => hs (.inl (hi _ _ e).symm))]
    exact ih fun m => hs (.inr m)
theorem dp_some {kvs : List (κ × V)} {fs : List (α × β)} (h : DP kf R kvs fs) (hi : ∀ a b, kf a = kf b → a = b) {s : α} {w : β} {i : Nat} (hs : fs[i]? = some (s, w)) (hn : (fs.map (·.1)).Nodup) : ∃ v, valV kvs (kf s) = some v ∧ R v w := by
  induction h generalizing i with
  | nil => simp at hs
  | @cons kv p kvs fs hp _ ih =>
    cases i with
    | zero =>
      simp at hs; subst hs
      exact ⟨kv.2, by rw [valV_pos hp.1], hp.2⟩
    | succ i =>
      have hs' : fs[i]? = some (s, w) := by simpa using hs
      rw [List.map_cons, List.nodup_cons] at hn
      have : p.1 ≠ s := fun e => hn.1 (by rw [e]; exact List.mem_map.mpr ⟨_, List.mem_of_getElem? hs', rfl⟩)
      rw [valV_neg (by rw [hp.1]; exact fun e => this (hi _ _ e))]
      exact ih hs' hn.2
theorem dp_put {kvs : List (κ × V)} {fs : List (α × β)} (h : DP kf R kvs fs) (hi : ∀ a b, kf a = kf b → a = b) {s : α} {v : V} {w : β} (hs : s ∉ fs.map (·.1)) (hv : R v w) : DP kf R (putK kvs (kf s) v) (fs ++ [(s, w)]) := by
  rw [putK_new v (dp_none h hi hs)]
  exact pd_snoc h ⟨rfl, hv⟩
end
def kI (n : Nat) : Key := .inl (n : Int)
theorem kI_inj : ∀ a b, kI a = kI b → a = b := fun a b e => by injection e with e; exact Int.ofNat.inj e
def kII (p : Nat × Nat) : List Key := [kI p.1, kI p.2]
theorem kII_inj : ∀ a b, kII a = kII b → a = b := fun a b e => by
  injection e with e1 e2
  injection e2 with e2 _
  exact Prod.ext (kI_inj _ _ e1) (kI_inj _ _ e2)
theorem wp1 {σ : L2.St} {i : Nat} {x : Option V} : wipe (List.set (wipe σ [i]) i x) [i] = wipe σ [i] := by
  show List.set (List.set (List.set σ i none) i x) i none = List.set σ i none
  rw [List.set_set, List.set_set]
theorem wp2 {σ : L2.St} {i j : Nat} {x y : Option V} : wipe (List.set (List.set (wipe σ [i, j]) i x) j y) [i, j] = wipe σ [i, j] := by
  show List.set (List.set (List.set (List.set (List.set (List.set σ j none) i none) i x) j y) j none) i none = List.set (List.set σ j none) i none
  refine List.ext_getElem? fun n => ?_
  simp only [List.getElem?_set, List.length_set]
  by_cases h1 : i = n
  · by_cases h2 : j = n
    · simp [h1, h2]
    · simp [h1, h2]
  · by_cases h2 : j = n
    · simp [h1, h2]
    · simp [h1, h2]
theorem wp3 {σ : L2.St} {i j k : Nat} {x y z : Option V} : wipe (List.set (List.set (List.set (wipe σ [i, j, k]) j x) k y) i z) [i, j, k] = wipe σ [i, j, k] := by
  refine List.ext_getElem? fun n => ?_
  simp only [wipe, List.getElem?_set, List.length_set]
  by_cases h1 : i = n
  · by_cases h2 : j = n
    · by_cases h3 : k = n
      · simp [h1, h2, h3]
      · simp [h1, h2, h3]
    · by_cases h3 : k = n
      · simp [h1, h2, h3]
      · simp [h1, h2, h3]
  · by_cases h2 : j = n
    · by_cases h3 : k = n
      · simp [h1, h2, h3]
      · simp [h1, h2, h3]
    · by_cases h3 : k = n
      · simp [h1, h2, h3]
      · simp [h1, h2, h3]
/-- the slots written out -/
theorem st_eq {t : TS} {D : Ends} {σ : L2.St} (σ' : L2.St) {H : Hp} (e : σ = σ') (h : t D σ' H) : t D σ H := by rw [e]; exact h
theorem nx_eq {n : L2.St → Hp → Prop} {σ : L2.St} (σ' : L2.St) {H : Hp} (e : σ = σ') (h : n σ' H) : n σ H := by rw [e]; exact h
/-- a slot by way of the whole -/
theorem slot {σ σ' : L2.St} {i : Nat} {v : V} (e : σ = σ') (h : σ'[i]? = some (some v)) : σ[i]? = some (some v) := by rw [e]; exact h
def S1 (p : Hp → VK → V → Prop) : Sp := fun vs H Q _ => ∃ a, vs = [a] ∧ p H Q a
def S2 (p : Hp → VK → V → V → Prop) : Sp := fun vs H Q _ => ∃ a b, vs = [a, b] ∧ p H Q a b
def S3 (p : Hp → VK → V → V → V → Prop) : Sp := fun vs H Q _ => ∃ a b c, vs = [a, b, c] ∧ p H Q a b c
def S4 (p : Hp → VK → V → V → V → V → Prop) : Sp := fun vs H Q _ => ∃ a b c d, vs = [a, b, c, d] ∧ p H Q a b c d
def S5 (p : Hp → VK → V → V → V → V → V → Prop) : Sp := fun vs H Q _ => ∃ a b c d e, vs = [a, b, c, d, e] ∧ p H Q a b c d e
def S6 (p : Hp → VK → V → V → V → V → V → V → Prop) : Sp := fun vs H Q _ => ∃ a b c d e f, vs = [a, b, c, d, e, f] ∧ p H Q a b c d e f
theorem len1 {p : Hp → VK → V → Prop} (vs : List V) (H : Hp) (Q : VK) (E : XK) (h : S1 p vs H Q E) : vs.length = 1 := by obtain ⟨_, rfl, _⟩ := h; rfl
theorem len2 {p : Hp → VK → V → V → Prop} (vs : List V) (H : Hp) (Q : VK) (E : XK) (h : S2 p vs H Q E) : vs.length = 2 := by obtain ⟨_, _, rfl, _⟩ := h; rfl
theorem len3 {p : Hp → VK → V → V → V → Prop} (vs : List V) (H : Hp) (Q : VK) (E : XK) (h : S3 p vs H Q E) : vs.length = 3 := by obtain ⟨_, _, _, rfl, _⟩ := h; rfl
theorem len4 {p : Hp → VK → V → V → V → V → Prop} (vs : List V) (H : Hp) (Q : VK) (E : XK) (h : S4 p vs H Q E) : vs.length = 4 := by obtain ⟨_, _, _, _, rfl, _⟩ := h; rfl
theorem len5 {p : Hp → VK → V → V → V → V → V → Prop} (vs : List V) (H : Hp) (Q : VK) (E : XK) (h : S5 p vs H Q E) : vs.length = 5 := by obtain ⟨_, _, _, _, _, rfl, _⟩ := h; rfl
theorem len6 {p : Hp → VK → V → V → V → V → V → V → Prop} (vs : List V) (H : Hp) (Q : VK) (E : XK) (h : S6 p vs H Q E) : vs.length = 6 := by obtain ⟨_, _, _, _, _, _, rfl, _⟩ := h; rfl
/-- what comes back lies in the new part of the heap -/
def Ret {α : Type} (R : Rep α) (H : Hp) (Q : VK) (x : α) : Prop := ∀ v H', Same H H' → R (offs H [] H') v x → Q v H'
abbrev rRows : Rep (List (List Nat)) := rL (rL rI)
abbrev rTab : Rep (List (List Str)) := rL (rL rS)
theorem mRows : Mono rRows := mL (mL mI)
theorem mTab : Mono rTab := mL (mL mS)
def dKm : List (Key × V) → HO := .dK
def dTm : List (List Key × V) → HO := .dT
def DI {α κ : Type} [DecidableEq κ] (mk : List (κ × V) → HO) (kf : α → κ) (B : Hp) (ds : List Addr) (H : Hp) (d : Addr) (fs : List (α × List Nat)) : Prop := ∃ kvs, H d = some (mk kvs) ∧ DP kf (rT rI (offs B ds H)) kvs fs
def LI {α : Type} (R : Rep α) (B : Hp) (ds : List Addr) (H : Hp) (o : Addr) (ss : List α) : Prop := ∃ vs, H o = some (.lst vs) ∧ Paired (R (offs B ds H)) vs ss
section
variable {α κ : Type} [DecidableEq κ] {mk : List (κ × V) → HO} {kf : α → κ} {R : Rep α} {B H H1 : Hp} {ds ds' : List Addr} {d o : Addr} {fs : List (α × List Nat)} {ss : List α}
theorem dp_mono (s : Same H H1) {kvs : List (κ × V)} (h : DP kf (rT rI H) kvs fs) : DP kf (rT rI H1) kvs fs := pd_imp h fun _ _ ⟨a, b⟩ => ⟨a, mT mI _ _ _ _ s b⟩
theorem DI.to (h : DI mk kf B ds H d fs) (s : Same H H1) (s2 : Same (offs B ds H) (offs B ds' H1)) : DI mk kf B ds' H1 d fs := let ⟨kvs, a, b⟩ := h; ⟨kvs, s _ _ a, dp_mono s2 b⟩
theorem DI.mono (h : DI mk kf B ds H d fs) (s : Same H H1) : DI mk kf B ds H1 d fs := h.to s (offs_same s)
theorem LI.to (m : Mono R) (h : LI R B ds H o ss) (s : Same H H1) (s2 : Same (offs B ds H) (offs B ds' H1)) : LI R B ds' H1 o ss := let ⟨vs, a, b⟩ := h; ⟨vs, s _ _ a, pd_mono m s2 b⟩
theorem LI.mono (m : Mono R) (h : LI R B ds H o ss) (s : Same H H1) : LI R B ds H1 o ss := h.to m s (offs_same s)
theorem offs_grow {x : Addr} (hx : H x = none) : Same (offs B ds H) (offs B (x :: ds) H) := offs_mono (fun b h _ => h) (fun b hb n => by
  rcases List.mem_cons.mp hb with e | e
  · rw [e, hx] at n; exact absurd rfl n
  · exact .inl e) (Same.refl H)
theorem offs_shrink (hs : ∀ b ∈ ds', b ∈ ds) : Same (offs B ds H) (offs B ds' H) := offs_mono (fun b h _ => h) (fun b hb n => .inl (hs b hb)) (Same.refl H)
theorem DI.other {x : Addr} {ob : HO} (h : DI mk kf B ds H d fs) (hx : x ∈ ds) (hne : x ≠ d) : DI mk kf B ds (upd H x ob) d fs := let ⟨kvs, a, b⟩ := h; ⟨kvs, by rw [upd_ne hne.symm]; exact a, by rw [offs_upd hx]; exact b⟩
theorem LI.other {x : Addr} {ob : HO} (h : LI R B ds H o ss) (hx : x ∈ ds) (hne : x ≠ o) : LI R B ds (upd H x ob) o ss := let ⟨vs, a, b⟩ := h; ⟨vs, by rw [upd_ne hne.symm]; exact a, by rw [offs_upd hx]; exact b⟩
theorem LI.app {vs : List V} {v : V} {s : α} (h : Paired (R (offs B ds H)) vs ss) (hv : R (offs B ds H) v s) (ho : o ∈ ds) : LI R B ds (upd H o (.lst (vs ++ [v]))) o (ss ++ [s]) := ⟨_, upd_same, by rw [offs_upd ho]; exact pd_snoc h hv⟩
theorem DI.put {kvs : List (κ × V)} {v : V} {s : α} {w : List Nat} (h : DP kf (rT rI (offs B ds H)) kvs fs) (hi : ∀ a b, kf a = kf b → a = b) (hs : s ∉ fs.map (·.1)) (hv : rT rI (offs B ds H) v w) (hd : d ∈ ds) : DI mk kf B ds (upd H d (mk (putK kvs (kf s) v))) d (fs ++ [(s, w)]) := ⟨_, upd_same, by rw [offs_upd hd]; exact dp_put h hi hs hv⟩
theorem LI.get (h : LI R B ds H o ss) {i : Nat} {s : α} (e : ss[i]? = some s) : ∃ vs v, H o = some (.lst vs) ∧ vs.length = ss.length ∧ vs[i]? = some v ∧ R (offs B ds H) v s := by
  obtain ⟨vs, a, b⟩ := h
  obtain ⟨v, e1, e2⟩ := pd_get' b e
  exact ⟨vs, v, a, pd_len b, e1, e2⟩
end
/-- a row of a list of lists -/
theorem rows_get {α : Type} {R : Rep α} {H : Hp} {v : V} {xs : List (List α)} (h : rL (rL R) H v xs) {i : Nat} {r : List α} (e : xs[i]? = some r) : ∃ a vs b ws, v = .ref a ∧ H a = some (.lst vs) ∧ vs[i]? = some (.ref b) ∧ H b = some (.lst ws) ∧ Paired (R H) ws r := by
  obtain ⟨a, vs, e1, e2, p⟩ := h
  obtain ⟨x, h1, b, ws, e3, e4, p2⟩ := pd_get' p e
  exact ⟨a, vs, b, ws, e1, e2, by rw [← e3]; exact h1, e4, p2⟩
theorem getD_some {α : Type} {l : List α} {i : Nat} {d : α} (h : i < l.length) : l[i]? = some (l.getD i d) := by simp [List.getD, h]
theorem rows_at {H : Hp} {v : V} {rows : List (List Nat)} {n K i k : Nat} (h : rRows H v rows) (wf : WFr rows n K) (hi : i < n) (hk : k < K) : ∃ a vs b ws, v = .ref a ∧ H a = some (.lst vs) ∧ vs[i]? = some (.ref b) ∧ H b = some (.lst ws) ∧ ws[k]? = some (iv (at2 rows i k)) := by
  obtain ⟨a, vs, b, ws, e1, e2, e3, e4, p⟩ := rows_get h (getD_some (d := []) (by rw [wf.len]; exact hi))
  refine ⟨a, vs, b, ws, e1, e2, e3, e4, ?_⟩
  rw [pd_ints p, List.getElem?_map, getD_some (d := 0) (by rw [(wf.getRow hi).1]; exact hk)]
  rfl
structure FoundL (rows : List (List Nat)) (n K : Nat) (fs : List (Nat × List Nat)) : Prop where
  q : QInv (fun s => rows.getD s []) 0 fs.length (fs.map (·.1))
  w : ∀ p ∈ fs, Wd K p.2 ∧ stL (at2 rows) 0 p.2 = p.1 ∧ p.1 < n ∧ p.2.length ≤ fs.length
structure FoundR (rows : List (List Nat)) (n K : Nat) (fs : List (Nat × List Nat)) : Prop where
  q : ∃ N, LInv (at2 rows) K 0 N (fs.map (·.1)) []
  w : ∀ p ∈ fs, Wd K p.2 ∧ stR (at2 rows) 0 p.2 = p.1 ∧ p.1 < n ∧ p.2.length ≤ fs.length
abbrev rFound : Rep (List (Nat × List Nat)) := rL (rP rI (rT rI))
theorem mFound : Mono rFound := mL (mP mI (mT mI))
def sp_reached_behind : Sp := S2 fun H Q a b => ∃ rows n K, rRows H a rows ∧ b = .int 0 ∧ WFr rows n K ∧ 0 < n ∧ n ≤ 40 ∧ K ≤ 5 ∧ ∀ fs, FoundL rows n K fs → Ret rFound H Q fs
def sp_reached_in_front : Sp := S3 fun H Q a b c => ∃ rows n K, rRows H a rows ∧ b = .int 0 ∧ c = .int (K : Nat) ∧ WFr rows n K ∧ 0 < n ∧ n ≤ 40 ∧ K ≤ 5 ∧ ∀ fs, FoundR rows n K fs → Ret rFound H Q fs
def sp_kept_rows : Sp := S2 fun H Q a b => ∃ rows O n K, rRows H a rows ∧ rL rI H b O ∧ WFr rows n K ∧ n ≤ 40 ∧ K ≤ 5 ∧ O.Nodup ∧ (∀ s ∈ O, s < n ∧ ∀ x ∈ rows.getD s [], x ∈ O) ∧ Ret rRows H Q (keptRows rows O)
end FA
end
section
namespace FA
open PySem PySem.Spec PyProof.Rows L2 FM
section
variable {α β : Type} {kf : α → Key} {Rb : V → β → Prop}
/-- {k: v for .. in ..}: new keys only, flat values -/
theorem dcG {J : It} {n : Nat} {g : TG} {tk tv : TE} {vs : List Nat} {σ : L2.St} {H1 : Hp} {D : Addr} {Qd : Hp → Prop} (hi : ∀ a b, kf a = kf b → a = b) (outs : List (α × β)) (hnd : (outs.map (·.1)).Nodup) (hD : H1 D = none) (hl : outs.length = n) (hz : outs.length ≤ sizeLine)
    (hgo : ∀ i H, i < n → Same H1 H → J.go i H) (hstop : ∀ H, Same H1 H → J.stop n H)
    (turn : ∀ (i : Nat) (x : V) (b : α × β) (H H0 : Hp), i < n → outs[i]? = some b → Same H1 H → H D ≠ none → J.yld i H x H0 → ∀ k : V → V → Hp → Prop, (∀ z H4, Same H H4 → Rb z b.2 → k (kV (kf b.1)) z H4) → g x (wipe σ vs) H0 fun σ2 H2 => wipe σ2 vs = wipe σ vs ∧ tk σ2 H2 fun y H4 => tv σ2 H4 fun z H5 => k y z H5)
    (hd : ∀ H kvs, Same H1 H → H D = some (.dK kvs) → DP kf Rb kvs outs → Qd H) :
    ∃ W : Nat → Nat → Hp → Prop, (∃ m, W 0 m (upd H1 D (.dK []))) ∧ ∀ i m H, W i m H →
      (J.stop i H ∧ Qd H) ∨ (J.go i H ∧ ∃ Nx : Hp → Prop, (∀ H', Nx H' → ∃ m', m' < m ∧ W (i + 1) m' H') ∧ ∀ x H', J.yld i H x H' → g x (wipe σ vs) H' fun σ2 H2 => wipe σ2 vs = wipe σ vs ∧ tYes σ2 H2 fun b H3 =>
        if b = true then tk σ2 H3 fun y H4 => tv σ2 H4 fun z H5 => ∃ kvs k, y = kV k ∧ H5 D = some (.dK kvs) ∧ kvs.length < sizeLine ∧ Nx (upd H5 D (.dK (putK kvs k z))) else Nx H3) := by
  refine ⟨fun i m H => m = n - i ∧ i ≤ n ∧ Same H1 H ∧ ∃ kvs, H D = some (.dK kvs) ∧ DP kf Rb kvs (outs.take i), ⟨n, by simp, Nat.zero_le _, same_new hD, [], upd_same, .nil⟩, ?_⟩
  rintro i mm H ⟨rfl, hin, sm, kvs, hkd, hkp⟩
  by_cases hlt : i < n
  · have hb : outs[i]? = some outs[i] := List.getElem?_eq_getElem (by rw [hl]; exact hlt)
    refine .inr ⟨hgo i H hlt sm, fun H' => Same H1 H' ∧ ∃ kvs, H' D = some (.dK kvs) ∧ DP kf Rb kvs (outs.take (i + 1)), fun H' p' => ⟨n - (i + 1), by omega, rfl, hlt, p'⟩, fun x H' y => ?_⟩
    refine turn i x outs[i] H H' hlt hb sm (ne_some hkd) y _ fun z H4 s hz' => ?_
    have hkl : kvs.length = (outs.take i).length := pd_len hkp
    have hkl2 : kvs.length < outs.length := by rw [hkl, List.length_take]; omega
    refine ⟨kvs, kf outs[i].1, rfl, s _ _ hkd, by omega, same_upd (sm.trans s) hD, _, upd_same, ?_⟩
    rw [List.take_add_one, hb]
    refine dp_put hkp hi (fun hm => ?_) hz'
    have : (outs.map (·.1)).take (i + 1) = (outs.take i).map (·.1) ++ [outs[i].1] := by
      rw [← List.map_take, List.take_add_one, hb, List.map_append]; rfl
    have h2 : ((outs.map (·.1)).take (i + 1)).Nodup := hnd.sublist (List.take_sublist _ _)
    rw [this, List.nodup_append] at h2
    exact h2.2.2 _ hm _ (by simp) rfl
  · have e : i = n := by omega
    subst e
    rw [List.take_of_length_le (by omega)] at hkp
    exact .inl ⟨hstop H sm, hd H kvs sm hkd hkp⟩
end
end FA
end
section
namespace FA
open PySem PySem.Spec PyProof.Rows L2 FM
mutual
theorem nk_mono {H H' : Hp} (s : Same H H') : ∀ {k : NestedKey} {v : V}, NK H v k → NK H' v k
  | .num i, _, n => by cases n; exact .num i
  | .text x, _, n => by cases n; exact .text x
  | .tup ks, _, n => by
    cases n with
    | tup hb hs => exact .tup (s _ _ hb) (nks_mono s hs)
  | .none, _, n => by cases n
theorem nks_mono {H H' : Hp} (s : Same H H') : ∀ {ks : List NestedKey} {vs : List V}, NKs H vs ks → NKs H' vs ks
  | [], _, n => by cases n; exact .nil
  | k :: ks, _, n => by
    cases n with
    | cons a b => exact .cons (nk_mono s a) (nks_mono s b)
end
def rNk : Rep NestedKey := fun H v k => (∃ b, v = .ref b) ∧ NK H v k ∧ k.depth ≤ 8
theorem mNk : Mono rNk := fun H H' v k s ⟨a, b, c⟩ => ⟨a, nk_mono s b, c⟩
def encS (l : List Str) : NestedKey := .tup (l.map .text)
def encP (p : Nat × List Nat) : NestedKey := .tup [.num (p.1 : Int), .tup (p.2.map fun (i : Nat) => .num (i : Int))]
theorem encS_inj : ∀ a b, encS a = encS b → a = b := fun a b e => by
  injection e with e
  induction a generalizing b with
  | nil => cases b with
    | nil => rfl
    | cons _ _ => cases e
  | cons x a ih => cases b with
    | nil => cases e
    | cons y b =>
      rw [List.map_cons, List.map_cons] at e
      injection e with e1 e2
      injection e1 with e1
      rw [e1, ih b e2]
theorem encP_inj : ∀ a b, encP a = encP b → a = b := fun a b e => by
  obtain ⟨a1, a2⟩ := a
  obtain ⟨b1, b2⟩ := b
  injection e with e
  injection e with e1 e2
  injection e2 with e2 _
  injection e1 with e1
  injection e2 with e2
  have h1 : a1 = b1 := Int.ofNat.inj e1
  have h2 : a2 = b2 := by
    clear e1 h1
    induction a2 generalizing b2 with
    | nil => cases b2 with
      | nil => rfl
      | cons _ _ => cases e2
    | cons x a ih => cases b2 with
      | nil => cases e2
      | cons y b =>
        rw [List.map_cons, List.map_cons] at e2
        injection e2 with e1 e2
        injection e1 with e1
        rw [Int.ofNat.inj e1, ih b e2]
  rw [h1, h2]
theorem depth_flat : ∀ (ks : List NestedKey), (∀ k ∈ ks, k.depth = 0) → NestedKey.depthAll ks = 0
  | [], _ => rfl
  | k :: ks, h => by
    show max k.depth (NestedKey.depthAll ks) = 0
    rw [h k (by simp), depth_flat ks fun k' hk => h k' (by simp [hk])]
    rfl
theorem encS_depth (l : List Str) : (encS l).depth ≤ 8 := by
  show NestedKey.depthAll _ + 1 ≤ 8
  rw [depth_flat _ (by intro k hk; obtain ⟨x, _, rfl⟩ := List.mem_map.mp hk; rfl)]
  decide
theorem encP_depth (p : Nat × List Nat) : (encP p).depth ≤ 8 := by
  show max 0 (max (NestedKey.depthAll _ + 1) 0) + 1 ≤ 8
  rw [depth_flat _ (by intro k hk; obtain ⟨x, _, rfl⟩ := List.mem_map.mp hk; rfl)]
  decide
theorem nks_ints {H : Hp} : ∀ {vs : List V} {ns : List Nat}, Paired (rI H) vs ns → NKs H vs (ns.map fun (i : Nat) => .num (i : Int))
  | _, _, .nil => .nil
  | _, _, .cons a b => by
    rw [show _ = _ from a]
    exact .cons (.num _) (nks_ints b)
theorem nks_strs {H : Hp} : ∀ {vs : List V} {ns : List Str}, Paired (rS H) vs ns → NKs H vs (ns.map .text)
  | _, _, .nil => .nil
  | _, _, .cons a b => by
    rw [show _ = _ from a]
    exact .cons (.text _) (nks_strs b)
theorem nk_encS {H : Hp} {v : V} {l : List Str} (h : rT rS H v l) : rNk H v (encS l) := by
  obtain ⟨a, vs, rfl, ha, p⟩ := h
  exact ⟨⟨a, rfl⟩, .tup ha (nks_strs p), encS_depth l⟩
theorem nk_encP {H : Hp} {v : V} {l : Nat × List Nat} (h : rP rI (rT rI) H v l) : rNk H v (encP l) := by
  obtain ⟨a, u, w, rfl, ha, h1, b, vs, rfl, hb, p⟩ := h
  rw [show u = _ from h1] at ha
  exact ⟨⟨a, rfl⟩, .tup ha (.cons (.num _) (.cons (.tup hb (nks_ints p)) .nil)), encP_depth l⟩
theorem ded_inj {α β : Type} [DecidableEq α] [DecidableEq β] (f : α → β) (hf : ∀ a b, f a = f b → a = b) (l : List α) : ded (l.map f) = (ded l).map f := by
  unfold ded
  have : ∀ (l acc : List α), pushAll (acc.map f) (l.map f) = (pushAll acc l).map f := by
    intro l
    induction l with
    | nil => intro acc; rfl
    | cons x l ih =>
      intro acc
      rw [List.map_cons, pushAll_cons, pushAll_cons, ← ih]
      congr 1
      unfold push
      by_cases h : x ∈ acc
      · rw [if_pos h, if_pos (List.mem_map.mpr ⟨x, h, rfl⟩)]
      · rw [if_neg h, if_neg (fun m => h (by obtain ⟨y, hy, e⟩ := List.mem_map.mp m; rw [← hf _ _ e]; exact hy)), List.map_append]
        rfl
  exact this l []
theorem idxOf_map_inj {α β : Type} [DecidableEq α] [DecidableEq β] (f : α → β) (hf : ∀ a b, f a = f b → a = b) (l : List α) (x : α) : (l.map f).idxOf (f x) = l.idxOf x := by
  induction l with
  | nil => rfl
  | cons y l ih =>
    rw [List.map_cons, List.idxOf_cons, List.idxOf_cons, ih]
    by_cases h : y = x
    · subst h; rw [beq_self_eq_true, beq_self_eq_true]
    · have : f y ≠ f x := fun e => h (hf _ _ e)
      rw [show (y == x) = false from beq_eq_false_iff_ne.mpr h, show (f y == f x) = false from beq_eq_false_iff_ne.mpr this]
theorem numb_inj {α β : Type} [DecidableEq α] [DecidableEq β] (f : α → β) (hf : ∀ a b, f a = f b → a = b) (l : List α) : numb (l.map f) = numb l := by
  unfold numb
  rw [List.map_map, ded_inj f hf]
  exact List.map_congr_left fun x _ => idxOf_map_inj f hf _ _
theorem parts_unmap {α β : Type} [DecidableEq α] [DecidableEq β] (f : α → β) (hf : ∀ a b, f a = f b → a = b) {K : Nat} {rows : List (List Nat)} {ms : List α} {parts : List Nat} (h : Parts K rows (ms.map f) parts) : Parts K rows ms parts := by
  have e : ∀ i j : Nat, (ms.map f)[i]? = (ms.map f)[j]? ↔ ms[i]? = ms[j]? := fun i j => by
    rw [List.getElem?_map, List.getElem?_map]
    cases ms[i]? with
    | none => cases ms[j]? with
      | none => exact ⟨fun _ => rfl, fun _ => rfl⟩
      | some b => exact ⟨nofun, nofun⟩
    | some a => cases ms[j]? with
      | none => simp
      | some b => simp; exact ⟨hf a b, fun e => by rw [e]⟩
  obtain ⟨⟨a, b, c, d⟩, g⟩ := h
  simp only [List.length_map, e] at a c d g
  exact ⟨⟨a, b, c, d⟩, g⟩
theorem lookN_ix : ∀ (kvs : List NE) (m : Nat) (k : NestedKey), (∀ j e, kvs[j]? = some e → e.2.2 = iv (m + j)) → lookN kvs k = if k ∈ kvs.map (·.1) then some (iv (m + (kvs.map (·.1)).idxOf k)) else none
  | [], _, _, _ => rfl
  | e :: kvs, m, k, h => by
    have ih := lookN_ix kvs (m + 1) k fun j e he => by
      have := h (j + 1) e (by simpa using he)
      rw [this]; congr 1; omega
    unfold lookN at ih ⊢
    rw [List.find?_cons]
    by_cases hk : e.1 = k
    · have := h 0 e rfl
      simp [hk, this]
    · rw [decide_eq_false hk]
      simp only [ih, List.map_cons, List.mem_cons]
      by_cases hm : k ∈ kvs.map (·.1)
      · rw [if_pos hm, if_pos (.inr hm), List.idxOf_cons]
        rw [show (e.1 == k) = false from beq_eq_false_iff_ne.mpr hk]; simp only [cond_false]; congr 2; omega
      · rw [if_neg hm, if_neg (fun z => z.elim (fun q => hk q.symm) hm)]
/-- the greatest class -/
theorem max_parts {μ : Type} [DecidableEq μ] {K : Nat} {rows : List (List Nat)} {marks : List μ} {parts : List Nat} (h : PInv K rows marks parts) (h0 : 0 < marks.length) {m : Int} (hm : m ∈ parts.map fun (i : Nat) => (i : Int)) (hu : ∀ y ∈ parts.map fun (i : Nat) => (i : Int), y ≤ m) :
    m = (mcount parts : Nat) - 1 ∧ 0 < mcount parts := by
  obtain ⟨i, hi, rfl⟩ := List.mem_map.mp hm
  obtain ⟨c, hc⟩ := h.rng
  have hmc : mcount parts = c := by unfold mcount; rw [hc, List.length_range]
  have hlt : i < c := by
    have : i ∈ ded parts := mem_ded.mpr hi
    rw [hc] at this; exact List.mem_range.mp this
  have hc1 : c - 1 ∈ parts := mem_ded.mp (by rw [hc]; exact List.mem_range.mpr (by omega))
  have := hu _ (List.mem_map.mpr ⟨c - 1, hc1, rfl⟩)
  omega
theorem mcount_le {parts : List Nat} : mcount parts ≤ parts.length := FM.ded_len_le parts
theorem ivs (ns : List Nat) : ns.map iv = (ns.map fun (i : Nat) => (i : Int)).map V.int := by rw [List.map_map]; rfl
def sp__numbered : Sp := S1 fun H Q a => ∃ ks, rL rNk H a ks ∧ ks.length ≤ 40 ∧ Ret (rL rI) H Q (numb ks)
def sp_classes : Sp := S2 fun H Q a b => ∃ rows n K ms, rRows H a rows ∧ rL rNk H b ms ∧ WFr rows n K ∧ ms.length = n ∧ 0 < n ∧ n ≤ 40 ∧ K ≤ 5 ∧ ∀ parts, Parts K rows ms parts → Ret (rL rI) H Q parts
def sp__chosen : Sp := S2 fun H Q a b => ∃ rows n K parts, rRows H a rows ∧ rL rI H b parts ∧ WFr rows n K ∧ parts.length = n ∧ 0 < n ∧ n ≤ 40 ∧ K ≤ 5 ∧ (∃ m, ded parts = List.range m) ∧ Ret (rP (rL rI) rRows) H Q (firstsOf parts, chosenRows rows parts)
end FA
end
section
namespace FA
open PySem PySem.Spec PyProof.Rows L2 FM
theorem head0 {rest : List Nat} : (ded (0 :: rest)).idxOf 0 = 0 := by
  have : ded [0] <+: ded (0 :: rest) := ded_prefix ⟨rest, rfl⟩
  have h := idxOf_prefix this (x := 0) (by rw [mem_ded]; simp)
  rw [h]; rfl
theorem ordL {rows : List (List Nat)} {n K : Nat} {fs : List (Nat × List Nat)} (f : FoundL rows n K fs) (wf : WFr rows n K) (n0 : 0 < n) : Ord K rows (upL K) (fun w k => w ++ [k]) (stL (at2 rows) 0) (fs.map (·.1)) where
  nodup := f.q.nodup
  canon := by
    have hlt : ∀ s ∈ fs.map (·.1), s < n := fun s hs => by obtain ⟨p, hp, rfl⟩ := List.mem_map.mp hs; exact (f.w p hp).2.2.1
    have e : QInv (fun s => (List.range K).map (at2 rows s)) 0 (fs.map (·.1)).length (fs.map (·.1)) := by
      have := f.q
      unfold QInv at this ⊢
      rw [List.length_map]
      have h2 : ((fs.map (·.1)).take fs.length).flatMap (fun s => rows.getD s []) = ((fs.map (·.1)).take fs.length).flatMap fun s => (List.range K).map (at2 rows s) := by
        rw [List.flatMap_def, List.flatMap_def]
        congr 1
        exact List.map_congr_left fun s hs => (row_map wf (hlt s (List.mem_of_mem_take hs))).symm
      rw [← h2]
      exact this
    exact canonL e fun s hs => by obtain ⟨p, hp, rfl⟩ := List.mem_map.mp hs; exact ⟨p.2, (f.w p hp).1, (f.w p hp).2.1⟩
  zero := rfl
  first := by rw [f.q]; exact head0
  step := fun w k => stL_snoc _ _ _ _
  hup := fun n w => mem_upL
  hex := hexL
  wf := by rw [wf.len]; exact wf
  pos := by rw [wf.len]; exact n0
theorem ordR {rows : List (List Nat)} {n K : Nat} {fs : List (Nat × List Nat)} (f : FoundR rows n K fs) (wf : WFr rows n K) (n0 : 0 < n) : Ord K rows (upR K) (fun w k => k :: w) (stR (at2 rows) 0) (fs.map (·.1)) where
  nodup := by obtain ⟨N, h⟩ := f.q; simpa using h.nodup
  canon := by obtain ⟨N, h⟩ := f.q; exact canonR h
  zero := rfl
  first := by
    obtain ⟨N, h⟩ := f.q
    have := h.all
    rw [List.append_nil] at this
    rw [this]
    have e : [[]] <+: upR K N := upR_prefix (K := K) (Nat.zero_le N)
    obtain ⟨t, e⟩ := e
    rw [← e, List.map_append]
    exact head0
  step := fun w k => rfl
  hup := fun n w => mem_upR
  hex := hexR
  wf := by rw [wf.len]; exact wf
  pos := by rw [wf.len]; exact n0
/-- a sign of a text -/
def ltr (s : Str) (k : Nat) : Nat := s.cps.toList.getD k 0
def Gd (wr : Str) (K : Nat) (t : Str) : Prop := t.cps.toList.length = K ∧ ∀ c ∈ t.cps.toList, c ∈ wr.cps.toList
theorem Gd.ext {wr : Str} {K : Nat} : ∀ x y, Gd wr K x → Gd wr K y → (∀ k, k < K → ltr x k = ltr y k) → x = y := fun x y hx hy h => by
  obtain ⟨⟨x⟩⟩ := x
  obtain ⟨⟨y⟩⟩ := y
  congr 2
  refine List.ext_getElem (by rw [show x.length = K from hx.1, show y.length = K from hy.1]) fun i h1 h2 => ?_
  have := h i (by rw [← hx.1]; exact h1)
  unfold ltr at this
  simpa [List.getD, h1, h2] using this
def r3 {α β γ : Type} (R : Rep α) (S : Rep β) (T : Rep γ) : Rep (α × β × γ) := fun H v p => ∃ a u w x, v = .ref a ∧ H a = some (.tup [u, w, x]) ∧ R H u p.1 ∧ S H w p.2.1 ∧ T H x p.2.2
theorem m3 {α β γ : Type} {R : Rep α} {S : Rep β} {T : Rep γ} (m : Mono R) (n : Mono S) (o : Mono T) : Mono (r3 R S T) := fun H H' v p s ⟨a, u, w, x, e, h, r1, r2, r3⟩ => ⟨a, u, w, x, e, s _ _ h, m _ _ _ _ s r1, n _ _ _ _ s r2, o _ _ _ _ s r3⟩
abbrev ILeast (wr : Str) (K : Nat) := IsLeast (Gd wr K) ltr K
def sp_least_parts : Sp := S4 fun H Q a b c d => ∃ L R T K wr, rRows H a L ∧ rRows H b R ∧ rTab H c T ∧ d = .int (K : Nat) ∧ WFr L L.length K ∧ WFr R R.length K ∧ WFT (Gd wr K) T L.length R.length ∧ 0 < L.length ∧ 0 < R.length ∧ L.length ≤ 40 ∧ R.length ≤ 40 ∧ K ≤ 5 ∧
  ∀ NL NR NT, ILeast wr K L R T NL NR NT → Ret (r3 rRows rRows rTab) H Q (NL, NR, NT)
/-- a cell of a table -/
theorem tab_at {H : Hp} {v : V} {T : List (List Str)} {G : Str → Prop} {n m i j : Nat} (h : rTab H v T) (wf : WFT G T n m) (hi : i < n) (hj : j < m) : ∃ a vs b ws, v = .ref a ∧ H a = some (.lst vs) ∧ vs[i]? = some (.ref b) ∧ H b = some (.lst ws) ∧ ws[j]? = some (.str (T2 T i j)) := by
  obtain ⟨a, vs, b, ws, e1, e2, e3, e4, p⟩ := rows_get h (getD_some (d := []) (by rw [wf.len]; exact hi))
  refine ⟨a, vs, b, ws, e1, e2, e3, e4, ?_⟩
  rw [pd_strs p, List.getElem?_map, getD_some (d := default) (by rw [(wf.getRow hi).1]; exact hj)]
  rfl
end FA
end
section
namespace FA
open PySem PySem.Spec PyProof.Rows L2 FM
def LETS : Str := "badcezyxwv"
def ALPHS : List Str := (List.range 5).flatMap fun a => (List.range 2).map fun m => ⟨((LETS.cps.toList.drop a).take (m + 1)).toArray⟩
theorem al_ix : ∀ s ∈ ALPHS, ∀ k ∈ List.range s.length, Txt.index0 s ⟨#[ltr s k]⟩ = some k := by decide +kernel
theorem al_count : ∀ s ∈ ALPHS, ∀ k ∈ List.range s.length, Txt.count s ⟨#[ltr s k]⟩ = 1 := by decide +kernel
theorem al_let : ∀ s ∈ ALPHS, ∀ c ∈ s.cps.toList, c ∈ (("abcdefghijklmnopqrstuvwxyz" : Str)).cps.toList := by decide +kernel
theorem al_nodup : ∀ s ∈ ALPHS, s.cps.toList.Nodup := by decide +kernel
theorem al_len : ∀ s ∈ ALPHS, 1 ≤ s.length ∧ s.length ≤ 2 := by decide +kernel
theorem len_tl (s : Str) : s.length = s.cps.toList.length := rfl
def spell (a : Str) (w : List Nat) : Str := ⟨(w.map (ltr a)).toArray⟩
theorem spell_len (a : Str) (w : List Nat) : (spell a w).length = w.length := by show (w.map (ltr a)).toArray.size = _; simp
theorem spell_get {a : Str} {w : List Nat} {i c : Nat} (h : (spell a w).cps[i]? = some c) : ∃ k, w[i]? = some k ∧ c = ltr a k := by
  have h' : (w.map (ltr a)).toArray[i]? = some c := h
  rw [List.getElem?_toArray, List.getElem?_map] at h'
  cases e : w[i]? with
  | none => rw [e] at h'; cases h'
  | some k => rw [e] at h'; exact ⟨k, rfl, (Option.some.inj h').symm⟩
theorem ltr_at {a : Str} {k : Nat} (h : k < a.length) : a.cps.toList[k]? = some (ltr a k) := getD_some h
theorem ltr_mem {a : Str} {k : Nat} (h : k < a.length) : ltr a k ∈ a.cps.toList := List.mem_of_getElem? (ltr_at h)
/-- single signs, joined -/
theorem join_signs (l : List Nat) : Txt.join ("" : Str) (l.map fun c => ⟨#[c]⟩) = ⟨l.toArray⟩ := by
  rw [TL.join_eq]
  refine TL.ext_tl ?_
  rw [TL.tl_join, List.map_map]
  have e : TL.tl ("" : Str) = [] := by decide +kernel
  rw [e]
  have : ∀ l : List Nat, TL.joinL [] (l.map fun c => [c]) = l := by
    intro l
    induction l with
    | nil => rfl
    | cons x l ih =>
      cases l with
      | nil => rfl
      | cons y l =>
        show [x] ++ ([] ++ TL.joinL [] ((y :: l).map fun c => [c])) = _
        rw [ih]; rfl
  exact this l
theorem signs_len (l : List Nat) : ((l.map fun c => (⟨#[c]⟩ : Str)).map (·.length)).sum = l.length := by
  induction l with
  | nil => rfl
  | cons x l ih => rw [List.map_cons, List.map_cons, List.sum_cons, ih, List.length_cons]; show 1 + _ = _; omega
def rCh : Rep Nat := fun _ v c => v = .str ⟨#[c]⟩
theorem mCh : Mono rCh := fun _ _ _ _ _ h => h
theorem pd_chs {H : Hp} {vs : List V} {ns : List Nat} (p : Paired (rCh H) vs ns) : vs = (ns.map fun c => (⟨#[c]⟩ : Str)).map V.str := by
  induction p with
  | nil => rfl
  | cons a _ ih => rw [List.map_cons, List.map_cons, ← ih]; rw [show _ = _ from a]
theorem pd_bls {H : Hp} {vs : List V} {ns : List Bool} (p : Paired (rBl H) vs ns) : vs = ns.map V.bl := by
  induction p with
  | nil => rfl
  | cons a _ ih => rw [List.map_cons, ← ih]; rw [show _ = _ from a]
theorem ifT {c : Bool} {A B : Prop} (e : c = true) (h : A) : if c = true then A else B := by rw [if_pos e]; exact h
theorem ifF {c : Bool} {A B : Prop} (e : c = false) (h : B) : if c = true then A else B := by rw [e]; exact h
theorem all_true (n : Nat) : (List.replicate n true).all id = true := by simp
structure Mach where
  rd : Str
  wr : Str
  L : List (List Nat)
  R : List (List Nat)
  T : List (List Str)
structure MOk (M : Mach) : Prop where
  rd : M.rd ∈ ALPHS
  wr : M.wr ∈ ALPHS
  wfL : WFr M.L M.L.length M.rd.length
  wfR : WFr M.R M.R.length M.rd.length
  wfT : WFT (Gd M.wr M.rd.length) M.T M.L.length M.R.length
  pL : 0 < M.L.length
  pR : 0 < M.R.length
  bL : M.L.length ≤ 40
  bR : M.R.length ≤ 40
theorem MOk.k {M : Mach} (h : MOk M) : M.rd.length ≤ 5 := by have := (al_len _ h.rd).2; omega
/-- the attributes -/
def mflds (rd wr : Str) (l r t : V) : List (Str × V) := putF "table" t (putF "right" r (putF "left" l (putF "writes" (.str wr) (putF "reads" (.str rd) []))))
theorem mf_reads (rd wr : Str) (l r t : V) : (mflds rd wr l r t).lookup ("reads" : Str) = some (.str rd) := by
  unfold mflds
  rw [lookup_putF, if_neg (by decide +kernel), lookup_putF, if_neg (by decide +kernel), lookup_putF, if_neg (by decide +kernel), lookup_putF, if_neg (by decide +kernel), lookup_putF, if_pos rfl]
theorem mf_writes (rd wr : Str) (l r t : V) : (mflds rd wr l r t).lookup ("writes" : Str) = some (.str wr) := by
  unfold mflds
  rw [lookup_putF, if_neg (by decide +kernel), lookup_putF, if_neg (by decide +kernel), lookup_putF, if_neg (by decide +kernel), lookup_putF, if_pos rfl]
theorem mf_left (rd wr : Str) (l r t : V) : (mflds rd wr l r t).lookup ("left" : Str) = some l := by
  unfold mflds
  rw [lookup_putF, if_neg (by decide +kernel), lookup_putF, if_neg (by decide +kernel), lookup_putF, if_pos rfl]
theorem mf_right (rd wr : Str) (l r t : V) : (mflds rd wr l r t).lookup ("right" : Str) = some r := by
  unfold mflds
  rw [lookup_putF, if_neg (by decide +kernel), lookup_putF, if_pos rfl]
theorem mf_table (rd wr : Str) (l r t : V) : (mflds rd wr l r t).lookup ("table" : Str) = some t := by
  unfold mflds
  rw [lookup_putF, if_pos rfl]
theorem putF_len (f : Str) (v : V) : ∀ fs : List (Str × V), (putF f v fs).length ≤ fs.length + 1
  | [] => Nat.le_refl _
  | (g, x) :: r => by
    show (if g = f then (g, v) :: r else (g, x) :: putF f v r).length ≤ _
    by_cases h : g = f
    · rw [if_pos h]; exact Nat.le_succ _
    · rw [if_neg h]; exact Nat.succ_le_succ (putF_len f v r)
/-- a machine at v -/
def rM (C : Addr) : Rep Mach := fun H v M => ∃ p dx l r t, v = .ref p ∧ H p = some (.ins C dx (mflds M.rd M.wr l r t)) ∧ rRows H l M.L ∧ rRows H r M.R ∧ rTab H t M.T
theorem mM {C : Addr} : Mono (rM C) := fun H H' v M s ⟨p, dx, l, r, t, e, h, h1, h2, h3⟩ => ⟨p, dx, l, r, t, e, s _ _ h, mRows _ _ _ _ s h1, mRows _ _ _ _ s h2, mTab _ _ _ _ s h3⟩
def ILM (M N : Mach) : Prop := N.rd = M.rd ∧ N.wr = M.wr ∧ ILeast M.wr M.rd.length M.L M.R M.T N.L N.R N.T
theorem ILM.ok {M N : Mach} (h : ILM M N) (m : MOk M) : MOk N := by
  obtain ⟨e1, e2, l⟩ := h
  obtain ⟨a, b, c, d⟩ := least_wfL l
  exact ⟨by rw [e1]; exact m.rd, by rw [e2]; exact m.wr, by rw [e1]; exact a, by rw [e1]; exact b, by rw [e1, e2]; exact l.nwT, c, d, Nat.le_trans l.leL m.bL, Nat.le_trans l.leR m.bR⟩
def alI (nx : Nat → Nat → Nat) : Nat → List Nat → List Nat
  | _, [] => []
  | s, k :: w => s :: alI nx (nx s k) w
def al (nx : Nat → Nat → Nat) (s : Nat) (w : List Nat) : List Nat := alI nx s w ++ [stL nx s w]
theorem alI_len (nx : Nat → Nat → Nat) : ∀ (w : List Nat) (s : Nat), (alI nx s w).length = w.length
  | [], _ => rfl
  | k :: w, s => congrArg (· + 1) (alI_len nx w (nx s k))
theorem alI_snoc (nx : Nat → Nat → Nat) (k : Nat) : ∀ (w : List Nat) (s : Nat), alI nx s (w ++ [k]) = al nx s w
  | [], _ => rfl
  | j :: w, s => by
    show s :: alI nx (nx s j) (w ++ [k]) = s :: alI nx (nx s j) w ++ [stL nx s (j :: w)]
    rw [alI_snoc nx k w (nx s j)]; rfl
theorem al_snoc (nx : Nat → Nat → Nat) (k : Nat) (w : List Nat) (s : Nat) : al nx s (w ++ [k]) = al nx s w ++ [nx (stL nx s w) k] := by
  show alI nx s (w ++ [k]) ++ [stL nx s (w ++ [k])] = _
  rw [alI_snoc, stL_snoc]
def stB (nl nr : Nat → Nat → Nat) (i j : Nat) (w : List Nat) : List (Nat × Nat) := (alI nl i w).zip (alI nr j w.reverse).reverse
theorem stB_cons (nl nr : Nat → Nat → Nat) (i j k : Nat) (w : List Nat) : stB nl nr i j (k :: w) = (i, stR nr j w) :: stB nl nr (nl i k) j w := by
  unfold stB
  rw [List.reverse_cons, alI_snoc, al, List.reverse_append, stR_rev]
  rfl
theorem stB_len (nl nr : Nat → Nat → Nat) (i j : Nat) (w : List Nat) : (stB nl nr i j w).length = w.length := by
  unfold stB
  rw [List.length_zip, alI_len, List.length_reverse, alI_len, List.length_reverse]; omega
theorem outW_zip (nl nr : Nat → Nat → Nat) (tb : Nat → Nat → Nat → Nat) (j : Nat) : ∀ (w : List Nat) (i : Nat), outW nl nr tb i j w = ((stB nl nr i j w).zip w).map fun p => tb p.1.1 p.1.2 p.2
  | [], _ => rfl
  | k :: w, i => by
    rw [stB_cons]
    show tb i (stR nr j w) k :: outW nl nr tb (nl i k) j w = _
    rw [outW_zip nl nr tb j w (nl i k)]; rfl
theorem stB_mem {nl nr : Nat → Nat → Nat} {n m K : Nat} (hl : ∀ i k, i < n → k < K → nl i k < n) (hr : ∀ j w, j < m → Wd K w → stR nr j w < m) {j : Nat} (hj : j < m) : ∀ (w : List Nat) (i : Nat), i < n → Wd K w → ∀ p ∈ stB nl nr i j w, p.1 < n ∧ p.2 < m
  | [], _, _, _ => fun p hp => by cases hp
  | k :: w, i, hi, hw => fun p hp => by
    rw [stB_cons] at hp
    rcases List.mem_cons.mp hp with e | e
    · rw [e]; exact ⟨hi, hr _ _ hj hw.tail⟩
    · exact stB_mem hl hr hj w _ (hl _ _ hi hw.head) hw.tail p e
def tbM (M : Mach) : Nat → Nat → Nat → Nat := fun i j => ltr (T2 M.T i j)
def outM (M : Mach) (i j : Nat) (w : List Nat) : List Nat := outW (at2 M.L) (at2 M.R) (tbM M) i j w
def outS (M : Mach) (i j : Nat) (w : List Nat) : Str := ⟨(outM M i j w).toArray⟩
def Tell (H : Hp) (Q : VK) (v : V) : Prop := ∀ H', Same H H' → Q v H'
def sp_left_words (C : Addr) : Sp := S1 fun H Q a => ∃ M, rM C H a M ∧ MOk M ∧ ∀ fs, FoundL M.L M.L.length M.rd.length fs → Ret rFound H Q fs
def sp_right_words (C : Addr) : Sp := S1 fun H Q a => ∃ M, rM C H a M ∧ MOk M ∧ ∀ fs, FoundR M.R M.R.length M.rd.length fs → Ret rFound H Q fs
def sp_codes : Sp := S2 fun H Q a b => ∃ al w, a = .str al ∧ b = .str (spell al w) ∧ al ∈ ALPHS ∧ Wd al.length w ∧ w.length ≤ 10000 ∧ Ret (rL rI) H Q w
def sp_spelled : Sp := S2 fun H Q a b => ∃ al w, a = .str al ∧ rT rI H b w ∧ al ∈ ALPHS ∧ Wd al.length w ∧ w.length ≤ 10000 ∧ Tell H Q (.str (spell al w))
def sp_is_alphabet : Sp := S1 fun H Q a => ∃ al, a = .str al ∧ al ∈ ALPHS ∧ Tell H Q (.bl true)
def sp_is_word : Sp := S2 fun H Q a b => ∃ al t K, a = .str al ∧ b = .str t ∧ Gd al K t ∧ K ≤ 100 ∧ Tell H Q (.bl true)
def sp__are_rows : Sp := S2 fun H Q a b => ∃ rows n K, rRows H a rows ∧ b = .int (K : Nat) ∧ WFr rows n K ∧ 0 < n ∧ n ≤ 40 ∧ K ≤ 5 ∧ Tell H Q (.bl true)
def sp__is_table : Sp := S5 fun H Q a b c d e => ∃ T n m K wr, rTab H a T ∧ b = .int (n : Nat) ∧ c = .int (m : Nat) ∧ d = .int (K : Nat) ∧ e = .str wr ∧ WFT (Gd wr K) T n m ∧ n ≤ 40 ∧ m ≤ 40 ∧ K ≤ 5 ∧ Tell H Q (.bl true)
def sp_init (C : Addr) : Sp := S6 fun H Q a b c d e f => ∃ p dx M, a = .ref p ∧ H p = some (.ins C dx []) ∧ b = .str M.rd ∧ c = .str M.wr ∧ rRows H d M.L ∧ rRows H e M.R ∧ rTab H f M.T ∧ MOk M ∧
  ∀ H' l r t, (∀ b o, H b = some o → b ≠ p → H' b = some o) → H' p = some (.ins C dx (mflds M.rd M.wr l r t)) → rRows (offs H [] H') l M.L → rRows (offs H [] H') r M.R → rTab (offs H [] H') t M.T → Q .non H'
/-- a machine's form -/
def rF : Rep Mach := fun H v M => ∃ a l r t, v = .ref a ∧ H a = some (.tup [.str M.rd, .str M.wr, l, r, t]) ∧ rT (rT rI) H l M.L ∧ rT (rT rI) H r M.R ∧ rT (rT rS) H t M.T
theorem mF : Mono rF := fun H H' v M s ⟨a, l, r, t, e, h, h1, h2, h3⟩ => ⟨a, l, r, t, e, s _ _ h, mT (mT mI) _ _ _ _ s h1, mT (mT mI) _ _ _ _ s h2, mT (mT mS) _ _ _ _ s h3⟩
def sp_form (C : Addr) : Sp := S1 fun H Q a => ∃ M, rM C H a M ∧ MOk M ∧ Ret rF H Q M
def sp__along : Sp := S3 fun H Q a b c => ∃ rows n K s w, rRows H a rows ∧ b = .int (s : Nat) ∧ rL rI H c w ∧ WFr rows n K ∧ s < n ∧ Wd K w ∧ w.length ≤ 9000 ∧ Ret (rL rI) H Q (al (at2 rows) s w)
def sp_left_state (C : Addr) : Sp := S2 fun H Q a b => ∃ M w, rM C H a M ∧ MOk M ∧ b = .str (spell M.rd w) ∧ Wd M.rd.length w ∧ w.length ≤ 9000 ∧ Tell H Q (.int (stL (at2 M.L) 0 w : Nat))
def sp_right_state (C : Addr) : Sp := S2 fun H Q a b => ∃ M w, rM C H a M ∧ MOk M ∧ b = .str (spell M.rd w) ∧ Wd M.rd.length w ∧ w.length ≤ 9000 ∧ Tell H Q (.int (stR (at2 M.R) 0 w : Nat))
def sp_states_between (C : Addr) : Sp := S4 fun H Q a b c d => ∃ M i j w, rM C H a M ∧ MOk M ∧ b = .int (i : Nat) ∧ c = .int (j : Nat) ∧ i < M.L.length ∧ j < M.R.length ∧ rL rI H d w ∧ Wd M.rd.length w ∧ w.length ≤ 9000 ∧ Ret (rL (rP rI rI)) H Q (stB (at2 M.L) (at2 M.R) i j w)
def sp_output_between (C : Addr) : Sp := S4 fun H Q a b c d => ∃ M i j w, rM C H a M ∧ MOk M ∧ b = .int (i : Nat) ∧ c = .int (j : Nat) ∧ i < M.L.length ∧ j < M.R.length ∧ d = .str (spell M.rd w) ∧ Wd M.rd.length w ∧ w.length ≤ 9000 ∧ Tell H Q (.str (outS M i j w))
def sp_run (C : Addr) : Sp := S2 fun H Q a b => ∃ M w, rM C H a M ∧ MOk M ∧ b = .str (spell M.rd w) ∧ Wd M.rd.length w ∧ w.length ≤ 9000 ∧ Tell H Q (.str (outS M 0 0 w))
def sp_least (C : Addr) : Sp := S1 fun H Q a => ∃ M, rM C H a M ∧ MOk M ∧ ∀ N, ILM M N → Ret (rM C) H Q N
def sp_counts (C : Addr) : Sp := S1 fun H Q a => ∃ M, rM C H a M ∧ MOk M ∧ ∀ N, ILM M N → Ret (rP rI rI) H Q (N.L.length, N.R.length)
end FA
end
section
namespace FA
open PySem PySem.Spec PyProof.Rows L2 FM
theorem walk_enz {K : PySem.W.Frag} {a b : Addr} {xs ys : List V} {n : Nat} (h1 : xs.length = n) (h2 : ys.length = n) : Walk (Itez K a b) n (fun H => SqL K H a xs ∧ SqL K H b ys) (fun i H v H' => ∃ T e x y, v = .ref e ∧ H T = none ∧ H e = none ∧ e ≠ T ∧ H' = upd (upd H T (.tup [x, y])) e (.tup [.int (i : Nat), .ref T]) ∧ xs[i]? = some x ∧ ys[i]? = some y) := by
  refine ⟨fun i H hi q => ⟨xs, ys, xs[i], ys[i], q.1, q.2, by simp [h1, hi], by simp [h2, hi]⟩, fun H q => ⟨xs, ys, q.1, q.2, .inl (by omega)⟩, fun i H v H' hi q y => ?_⟩
  obtain ⟨T, e, x, y, h1, h2, h3, h4, h5, h6, h7⟩ := y
  exact ⟨T, e, x, y, h1, h2, h3, h4, h5, h6 xs q.1, h7 ys q.2⟩
abbrev rPr : Rep (Nat × Nat) := rP rI rI
theorem mPr : Mono rPr := mP mI mI
abbrev rFoundP : Rep (List ((Nat × Nat) × List Nat)) := rL (rP rPr (rT rI))
theorem mFoundP : Mono rFoundP := mL (mP mPr (mT mI))
theorem pr_key {H : Hp} {v : V} {p : Nat × Nat} (h : rPr H v p) : ∃ b, v = .ref b ∧ H b = some (.tup ((kII p).map kV)) := by
  obtain ⟨a, u, w, e, h1, h2, h3⟩ := h
  exact ⟨a, e, by rw [h1, show u = _ from h2, show w = _ from h3]; rfl⟩
def nxP (r1 r2 : List (List Nat)) : Nat × Nat → Nat → Nat × Nat := fun p k => (at2 r1 p.1 k, at2 r2 p.2 k)
theorem stL_pair (r1 r2 : List (List Nat)) : ∀ (w : List Nat) (p : Nat × Nat), stL (nxP r1 r2) p w = (stL (at2 r1) p.1 w, stL (at2 r2) p.2 w)
  | [], _ => rfl
  | k :: w, p => by rw [stL_cons, stL_pair r1 r2 w]; rfl
theorem stR_pair (r1 r2 : List (List Nat)) (w : List Nat) (p : Nat × Nat) : stR (nxP r1 r2) p w = (stR (at2 r1) p.1 w, stR (at2 r2) p.2 w) := by
  rw [stR_rev, stL_pair, stR_rev, stR_rev]
/-- the pairs found -/
structure FP (st : List Nat → Nat × Nat) (n m K : Nat) (fs : List ((Nat × Nat) × List Nat)) : Prop where
  cov : ∀ w, Wd K w → st w ∈ fs.map (·.1)
  wd : ∀ p ∈ fs, Wd K p.2 ∧ st p.2 = p.1 ∧ p.1.1 < n ∧ p.1.2 < m ∧ p.2.length ≤ fs.length
  len : fs.length ≤ 1600
/-- distinct pairs within bounds are few -/
theorem pairs_few {l : List (Nat × Nat)} (h : l.Nodup) {n m : Nat} (hn : n ≤ 40) (hm : m ≤ 40) (hb : ∀ p ∈ l, p.1 < n ∧ p.2 < m) : l.length ≤ 1600 := by
  have := FM.nodup_lt_length (l := l.map fun p => p.1 * 40 + p.2) (n := 1600) (by
    rw [List.nodup_iff_pairwise_ne] at h ⊢
    rw [List.pairwise_map]
    refine List.Pairwise.imp_of_mem (fun {a b} ha hb' hab e => hab ?_) h
    have h1 := hb a ha
    have h2 := hb b hb'
    exact Prod.ext (by omega) (by omega)) fun x hx => by
    obtain ⟨p, hp, rfl⟩ := List.mem_map.mp hx
    have := hb p hp
    omega
  simpa using this
def RetS (H : Hp) (Q : VK) (s : V) (s0 : Nat × Nat) (fs : List ((Nat × Nat) × List Nat)) : Prop := ∀ v H', Same H H' → (∀ (B : Hp) (ds : List Addr), Same B H → (∀ d ∈ ds, H d ≠ none) → rPr (offs B ds H) s s0 → rFoundP (offs B ds H') v fs) → Q v H'
def sp_pairs_behind (C : Addr) : Sp := S3 fun H Q a b c => ∃ M N p, rM C H a M ∧ rM C H b N ∧ MOk M ∧ MOk N ∧ M.rd = N.rd ∧ rPr H c p ∧ p.1 < M.L.length ∧ p.2 < N.L.length ∧
  ∀ fs, FP (fun w => (stL (at2 M.L) p.1 w, stL (at2 N.L) p.2 w)) M.L.length N.L.length M.rd.length fs → RetS H Q c p fs
def sp_pairs_in_front (C : Addr) : Sp := S3 fun H Q a b c => ∃ M N p, rM C H a M ∧ rM C H b N ∧ MOk M ∧ MOk N ∧ M.rd = N.rd ∧ rPr H c p ∧ p.1 < M.R.length ∧ p.2 < N.R.length ∧
  ∀ fs, FP (fun w => (stR (at2 M.R) p.1 w, stR (at2 N.R) p.2 w)) M.R.length N.R.length M.rd.length fs → RetS H Q c p fs
def sp__parting (C : Addr) : Sp := S4 fun H Q a b c d => ∃ M N p r, rM C H a M ∧ rM C H b N ∧ MOk M ∧ MOk N ∧ M.rd = N.rd ∧ rPr H c p ∧ rPr H d r ∧ p.1 < M.L.length ∧ p.2 < N.L.length ∧ r.1 < M.R.length ∧ r.2 < N.R.length ∧
  ∀ v H', Same H H' → (v = .non ∧ ∀ k, k < M.rd.length → tbM M p.1 r.1 k = tbM N p.2 r.2 k) ∨ (∃ k, k < M.rd.length ∧ v = .int (k : Nat) ∧ tbM M p.1 r.1 k ≠ tbM N p.2 r.2 k) → Q v H'
/-- what a search for a difference tells -/
def Diff (M N : Mach) (p r : Nat × Nat) (v : V) : Prop := (v = .non ∧ ∀ w, Wd M.rd.length w → outM M p.1 r.1 w = outM N p.2 r.2 w) ∨ (∃ w, Wd M.rd.length w ∧ w.length ≤ 9000 ∧ v = .str (spell M.rd w) ∧ outM M p.1 r.1 w ≠ outM N p.2 r.2 w)
def sp_first_difference (C : Addr) : Sp := S4 fun H Q a b c d => ∃ M N p r, rM C H a M ∧ rM C H b N ∧ MOk M ∧ MOk N ∧ M.rd = N.rd ∧ rPr H c p ∧ rPr H d r ∧ p.1 < M.L.length ∧ p.2 < N.L.length ∧ r.1 < M.R.length ∧ r.2 < N.R.length ∧
  ∀ v H', Same H H' → Diff M N p r v → Q v H'
def sp_separator (C : Addr) : Sp := S4 fun H Q a b c d => ∃ M i j, rM C H a M ∧ MOk M ∧ c = .int (i : Nat) ∧ d = .int (j : Nat) ∧
  ((b = .str "left" ∧ i < M.L.length ∧ j < M.L.length ∧ ∀ v H', Same H H' → Diff M M (i, j) (0, 0) v → Q v H') ∨ (b = .str "right" ∧ i < M.R.length ∧ j < M.R.length ∧ ∀ v H', Same H H' → Diff M M (0, 0) (i, j) v → Q v H'))
def prs (n : Nat) : List (Nat × Nat) := (List.range n).flatMap fun b => (List.range b).map fun a => (a, b)
theorem prs_mem {n : Nat} {p : Nat × Nat} (h : p ∈ prs n) : p.1 < p.2 ∧ p.2 < n := by
  obtain ⟨b, hb, h2⟩ := List.mem_flatMap.mp h
  obtain ⟨a, ha, rfl⟩ := List.mem_map.mp h2
  exact ⟨List.mem_range.mp ha, List.mem_range.mp hb⟩
theorem prs_len : ∀ n : Nat, n ≤ 40 → (prs n).length ≤ n * 40
  | 0, _ => by simp [prs]
  | n + 1, h => by
    have ih := prs_len n (by omega)
    have : prs (n + 1) = prs n ++ (List.range n).map fun a => (a, n) := by unfold prs; rw [List.range_succ, List.flatMap_append]; simp
    rw [this, List.length_append, List.length_map, List.length_range]
    omega
def sp_state_pairs : Sp := S1 fun H Q a => ∃ n : Nat, a = .int (n : Nat) ∧ n ≤ 40 ∧ Ret (rL rPr) H Q (prs n)
/-- the words of states -/
structure WordsOk (rd : Str) (n : Nat) (st : List Nat → Nat) (ss : List Str) : Prop where
  len : ss.length = n
  at_ : ∀ (c : Nat) (s : Str), ss[c]? = some s → ∃ w, Wd rd.length w ∧ w.length ≤ 9000 ∧ s = spell rd w ∧ st w = c
def sp__words (C : Addr) : Sp := S2 fun H Q a b => ∃ M fs n st, rM C H a M ∧ MOk M ∧ rFound H b fs ∧ n ≤ 40 ∧ (fs.map (·.1)).Nodup ∧ fs.length = n ∧ (∀ c, c < n → c ∈ fs.map (·.1)) ∧ (∀ p ∈ fs, Wd M.rd.length p.2 ∧ st p.2 = p.1 ∧ p.2.length ≤ 9000) ∧
  ∀ ss, WordsOk M.rd n st ss → Ret (rL rS) H Q ss
structure SepOk (M : Mach) (n : Nat) (p r : Nat × Nat → Nat × Nat) (ss : List Str) : Prop where
  len : ss.length = (prs n).length
  at_ : ∀ (i : Nat) (q : Nat × Nat) (s : Str), (prs n)[i]? = some q → ss[i]? = some s → ∃ w, Wd M.rd.length w ∧ w.length ≤ 9000 ∧ s = spell M.rd w ∧ outM M (p q).1 (r q).1 w ≠ outM M (p q).2 (r q).2 w
structure Paper where
  w1 : List Str
  w2 : List Str
  d1 : List Str
  d2 : List Str
structure PaperOk (M : Mach) (p : Paper) : Prop where
  w1 : WordsOk M.rd M.L.length (stL (at2 M.L) 0) p.w1
  w2 : WordsOk M.rd M.R.length (stR (at2 M.R) 0) p.w2
  d1 : SepOk M M.L.length id (fun _ => (0, 0)) p.d1
  d2 : SepOk M M.R.length (fun _ => (0, 0)) id p.d2
def rPp : Rep Paper := fun H v p => ∃ a u1 u2 u3 u4, v = .ref a ∧ H a = some (.tup [u1, u2, u3, u4]) ∧ rL rS H u1 p.w1 ∧ rL rS H u2 p.w2 ∧ rL rS H u3 p.d1 ∧ rL rS H u4 p.d2
theorem mPp : Mono rPp := fun H H' v p s ⟨a, u1, u2, u3, u4, e, h, h1, h2, h3, h4⟩ => ⟨a, u1, u2, u3, u4, e, s _ _ h, mL mS _ _ _ _ s h1, mL mS _ _ _ _ s h2, mL mS _ _ _ _ s h3, mL mS _ _ _ _ s h4⟩
def sp_least_paper (C : Addr) : Sp := S1 fun H Q a => ∃ M0 M, rM C H a M ∧ MOk M0 ∧ ILM M0 M ∧ ∀ p, PaperOk M p → Ret rPp H Q p
def sp__parts_left (C : Addr) : Sp := S4 fun H Q a b c d => ∃ M i j w, rM C H a M ∧ MOk M ∧ b = .int (i : Nat) ∧ c = .int (j : Nat) ∧ i < M.L.length ∧ j < M.L.length ∧ d = .str (spell M.rd w) ∧ Wd M.rd.length w ∧ w.length ≤ 9000 ∧ outM M i 0 w ≠ outM M j 0 w ∧ Tell H Q (.bl true)
def sp__parts_right (C : Addr) : Sp := S4 fun H Q a b c d => ∃ M i j w, rM C H a M ∧ MOk M ∧ b = .int (i : Nat) ∧ c = .int (j : Nat) ∧ i < M.R.length ∧ j < M.R.length ∧ d = .str (spell M.rd w) ∧ Wd M.rd.length w ∧ w.length ≤ 9000 ∧ outM M 0 i w ≠ outM M 0 j w ∧ Tell H Q (.bl true)
def sp_is_least_paper (C : Addr) : Sp := S2 fun H Q a b => ∃ M p, rM C H a M ∧ MOk M ∧ rPp H b p ∧ PaperOk M p ∧ Tell H Q (.bl true)
def SameM (M N : Mach) : Prop := ∀ w, Wd M.rd.length w → outM M 0 0 w = outM N 0 0 w
def sp__require_alike (C : Addr) : Sp := S2 fun H Q a b => ∃ M N, rM C H a M ∧ rM C H b N ∧ M.rd = N.rd ∧ Tell H Q .non
def sp_difference (C : Addr) : Sp := S2 fun H Q a b => ∃ M N, rM C H a M ∧ rM C H b N ∧ MOk M ∧ MOk N ∧ M.rd = N.rd ∧ ∀ v H', Same H H' → Diff M N (0, 0) (0, 0) v → Q v H'
def sp_is_same (C : Addr) : Sp := S2 fun H Q a b => ∃ M N, rM C H a M ∧ rM C H b N ∧ MOk M ∧ MOk N ∧ M.rd = N.rd ∧ ∀ t : Bool, (t = true ↔ SameM M N) → Tell H Q (.bl t)
/-- pairs closed under both sides' steps -/
structure ClP (r1 r2 : List (List Nat)) (K : Nat) (ps : List (Nat × Nat)) : Prop where
  zero : (0, 0) ∈ ps
  rng : ∀ p ∈ ps, p.1 < r1.length ∧ p.2 < r2.length
  step : ∀ p ∈ ps, ∀ k, k < K → (at2 r1 p.1 k, at2 r2 p.2 k) ∈ ps
  len : ps.length ≤ 1600
def sp__are_closed : Sp := S3 fun H Q a b c => ∃ r1 r2 n m K ps, rRows H a r1 ∧ rRows H b r2 ∧ rL rPr H c ps ∧ WFr r1 n K ∧ WFr r2 m K ∧ n ≤ 40 ∧ m ≤ 40 ∧ K ≤ 5 ∧ ClP r1 r2 K ps ∧ Tell H Q (.bl true)
structure SPOk (M N : Mach) (p : List (Nat × Nat) × List (Nat × Nat)) : Prop where
  l : ClP M.L N.L M.rd.length p.1
  r : ClP M.R N.R M.rd.length p.2
  t : ∀ x ∈ p.1, ∀ y ∈ p.2, T2 M.T x.1 y.1 = T2 N.T x.2 y.2
def sp_same_paper (C : Addr) : Sp := S2 fun H Q a b => ∃ M N, rM C H a M ∧ rM C H b N ∧ MOk M ∧ MOk N ∧ M.rd = N.rd ∧ M.wr = N.wr ∧ (¬ SameM M N → Tell H Q .non) ∧ (SameM M N → ∀ p, SPOk M N p → Ret (rP (rL rPr) (rL rPr)) H Q p)
def sp_is_same_paper (C : Addr) : Sp := S3 fun H Q a b c => ∃ M N p, rM C H a M ∧ rM C H b N ∧ MOk M ∧ MOk N ∧ M.rd = N.rd ∧ rP (rL rPr) (rL rPr) H c p ∧ SPOk M N p ∧ Tell H Q (.bl true)
end FA
end
section
namespace FA
open PySem PySem.Spec PyProof.Rows L2 FM
section
variable {α β : Type}
def Dr (R : Rep α) (f : α → PyData) : Prop := ∀ (K : PySem.W.Frag) (H : Hp) (v : V) (x : α), R H v x → Dp K H v (f x)
def De (f : α → PyData) : Prop := ∀ x y, PyData.eqv (f x) (f y) = true ↔ x = y
def dI (n : Nat) : PyData := .int (n : Int)
def dTu (f : α → PyData) (xs : List α) : PyData := .tuple (xs.map f)
def dLi (f : α → PyData) (xs : List α) : PyData := .list (xs.map f)
def dPr (f : α → PyData) (g : β → PyData) (p : α × β) : PyData := .tuple [f p.1, g p.2]
theorem dr_I : Dr rI dI := fun K H v x h => by rw [show v = _ from h]; exact .int _
theorem dr_S : Dr rS PyData.str := fun K H v x h => by rw [show v = _ from h]; exact .str _
theorem dpAll {R : Rep α} {f : α → PyData} (d : Dr R f) {K : PySem.W.Frag} {H : Hp} : ∀ {vs : List V} {xs : List α}, Paired (R H) vs xs → DpAll K H vs (xs.map f)
  | _, _, .nil => .nil
  | _, _, .cons a b => .cons (d K H _ _ a) (dpAll d b)
theorem dr_T {R : Rep α} {f : α → PyData} (d : Dr R f) : Dr (rT R) (dTu f) := fun K H v x ⟨a, vs, e, h, p⟩ => by rw [e]; exact .tup (SqT.of h) (dpAll d p)
theorem dr_L {R : Rep α} {f : α → PyData} (d : Dr R f) : Dr (rL R) (dLi f) := fun K H v x ⟨a, vs, e, h, p⟩ => by rw [e]; exact .lst (SqL.of h) (dpAll d p)
theorem dr_P {R : Rep α} {f : α → PyData} {S : Rep β} {g : β → PyData} (d : Dr R f) (d' : Dr S g) : Dr (rP R S) (dPr f g) := fun K H v x ⟨a, u, w, e, h, h1, h2⟩ => by rw [e]; exact .tup (SqT.of h) (.cons (d K H _ _ h1) (.cons (d' K H _ _ h2) .nil))
theorem de_I : De dI := fun x y => by
  show ((x : Int) == (y : Int)) = true ↔ _
  rw [beq_iff_eq]
  exact ⟨fun e => Int.ofNat.inj e, fun e => by rw [e]⟩
theorem de_S : De PyData.str := fun x y => by show (x == y) = true ↔ _; simp
theorem de_all {f : α → PyData} (d : De f) : ∀ xs ys : List α, PyData.eqvAll (xs.map f) (ys.map f) = true ↔ xs = ys
  | [], [] => ⟨fun _ => rfl, fun _ => rfl⟩
  | [], _ :: _ => ⟨nofun, nofun⟩
  | _ :: _, [] => ⟨nofun, nofun⟩
  | x :: xs, y :: ys => by
    show (PyData.eqv (f x) (f y) && PyData.eqvAll (xs.map f) (ys.map f)) = true ↔ _
    rw [Bool.and_eq_true, d x y, de_all d xs ys, List.cons.injEq]
theorem de_T {f : α → PyData} (d : De f) : De (dTu f) := fun x y => de_all d x y
theorem de_L {f : α → PyData} (d : De f) : De (dLi f) := fun x y => de_all d x y
theorem de_P {f : α → PyData} {g : β → PyData} (d : De f) (d' : De g) : De (dPr f g) := fun x y => by
  show (PyData.eqv (f x.1) (f y.1) && (PyData.eqv (g x.2) (g y.2) && true)) = true ↔ _
  rw [Bool.and_true, Bool.and_eq_true, d, d', Prod.ext_iff]
/-- the shape: how deep -/
def Sh (n : Nat) (d : PyData) : Prop := d.canLay0 = true ∧ d.depth ≤ n
theorem Sh.ok {n : Nat} {d : PyData} (h : Sh n d) (hn : n ≤ 64) : SeqAt.shaped d = true := Bool.and_eq_true_iff.mpr ⟨h.1, decide_eq_true (Nat.le_trans h.2 hn)⟩
theorem sh_I (n : Nat) : Sh 0 (dI n) := ⟨rfl, Nat.le_refl _⟩
theorem sh_all {f : α → PyData} {n : Nat} : ∀ xs : List α, (∀ x ∈ xs, Sh n (f x)) → PyData.canLayAll0 (xs.map f) = true ∧ PyData.depthAll (xs.map f) ≤ n
  | [], _ => ⟨rfl, Nat.zero_le _⟩
  | x :: xs, h => by
    obtain ⟨a, b⟩ := sh_all xs fun y hy => h y (by simp [hy])
    obtain ⟨c, d⟩ := h x (by simp)
    exact ⟨Bool.and_eq_true_iff.mpr ⟨c, a⟩, Nat.max_le.mpr ⟨d, b⟩⟩
theorem sh_T {f : α → PyData} {n : Nat} {xs : List α} (h : ∀ x ∈ xs, Sh n (f x)) : Sh (n + 1) (dTu f xs) := ⟨(sh_all xs h).1, Nat.succ_le_succ (sh_all xs h).2⟩
theorem sh_L {f : α → PyData} {n : Nat} {xs : List α} (h : ∀ x ∈ xs, Sh n (f x)) : Sh (n + 1) (dLi f xs) := ⟨(sh_all xs h).1, Nat.succ_le_succ (sh_all xs h).2⟩
theorem Sh.mono {n m : Nat} {d : PyData} (h : Sh n d) (l : n ≤ m) : Sh m d := ⟨h.1, Nat.le_trans h.2 l⟩
theorem sh_P {f : α → PyData} {g : β → PyData} {n : Nat} {p : α × β} (h : Sh n (f p.1)) (h' : Sh n (g p.2)) : Sh (n + 1) (dPr f g p) := ⟨by show (_ && (_ && true)) = true; rw [h.1, h'.1]; rfl, Nat.succ_le_succ (Nat.max_le.mpr ⟨h.2, Nat.max_le.mpr ⟨h'.2, Nat.zero_le _⟩⟩)⟩
abbrev dPP : Nat × Nat → PyData := dPr dI dI
theorem dr_PP : Dr rPr dPP := dr_P dr_I dr_I
theorem de_PP : De dPP := de_P de_I de_I
theorem sh_PP (p : Nat × Nat) : Sh 1 (dPP p) := sh_P (sh_I _) (sh_I _)
/-- x in a list -/
theorem any_eq {f : α → PyData} (d : De f) (x : α) (xs : List α) : ((xs.map f).any fun z => PyData.eqv z (f x)) = true ↔ x ∈ xs := by
  rw [List.any_eq_true]
  constructor
  · rintro ⟨z, hz, e⟩
    obtain ⟨y, hy, rfl⟩ := List.mem_map.mp hz
    rw [← (d y x).mp e]; exact hy
  · exact fun h => ⟨f x, List.mem_map.mpr ⟨x, h, rfl⟩, (d x x).mpr rfl⟩
end
theorem found_split {H : Hp} : ∀ {vs : List V} {fs : List (Nat × List Nat)}, Paired (rP rI (rT rI) H) vs fs → ∃ (ps : List Addr) (kvs : List (Key × V)), vs = ps.map V.ref ∧ Paired (fun p kv => H p = some (.tup [kV kv.1, kv.2])) ps kvs ∧ DP kI (rT rI H) kvs fs
  | _, _, .nil => ⟨[], [], rfl, .nil, .nil⟩
  | _, _, .cons (b := p) h t => by
    obtain ⟨ps, kvs, e, h1, h2⟩ := found_split t
    obtain ⟨a, u, w, e1, h3, h4, h5⟩ := h
    exact ⟨a :: ps, (kI p.1, w) :: kvs, by rw [e, e1]; rfl, .cons (by rw [h3, show u = _ from h4]; rfl) h1, .cons ⟨rfl, h5⟩ h2⟩
theorem merge_dp {H : Hp} : ∀ (kvs : List (Key × V)) (fs : List (Nat × List Nat)) (acc : List (Key × V)) (gs : List (Nat × List Nat)), DP kI (rT rI H) acc gs → DP kI (rT rI H) kvs fs → ((gs ++ fs).map (·.1)).Nodup → DP kI (rT rI H) (mergeK acc kvs) (gs ++ fs)
  | [], fs, acc, gs, h1, h2, _ => by cases h2; rw [List.append_nil]; exact h1
  | kv :: kvs, fs, acc, gs, h1, h2, nd => by
    cases h2 with
    | @cons _ p _ fs h t =>
      have hn : p.1 ∉ gs.map (·.1) := fun hm => by
        rw [List.map_append, List.map_cons, List.nodup_append] at nd
        exact nd.2.2 _ hm _ (by simp) rfl
      have := dp_put h1 kI_inj hn h.2
      rw [← h.1] at this
      have r := merge_dp kvs fs (putK acc kv.1 kv.2) (gs ++ [p]) this t (by rw [List.append_assoc]; exact nd)
      rw [List.append_assoc] at r
      exact r
end FA
end
section
namespace FA
open PySem PySem.Spec PyProof.Rows L2 FM
def rSep (M : Mach) (p r : Nat × Nat → Nat × Nat) : Rep (Nat × Nat) := fun _ v q => ∃ w, Wd M.rd.length w ∧ w.length ≤ 9000 ∧ v = .str (spell M.rd w) ∧ outM M (p q).1 (r q).1 w ≠ outM M (p q).2 (r q).2 w
theorem mSep {M : Mach} {p r : Nat × Nat → Nat × Nat} : Mono (rSep M p r) := fun _ _ _ _ _ h => h
theorem sep_ok {M : Mach} {p r : Nat × Nat → Nat × Nat} {H : Hp} {v : V} {n : Nat} (h : rL (rSep M p r) H v (prs n)) : ∃ ss, SepOk M n p r ss ∧ ∀ H', Same H H' → rL rS H' v ss := by
  obtain ⟨a, vs, rfl, ha, pv⟩ := h
  have : ∀ {vs : List V} {qs : List (Nat × Nat)}, Paired (rSep M p r H) vs qs → ∃ ss : List Str, vs = ss.map V.str ∧ ss.length = qs.length ∧ ∀ (i : Nat) (q : Nat × Nat) (s : Str), qs[i]? = some q → ss[i]? = some s → ∃ w, Wd M.rd.length w ∧ w.length ≤ 9000 ∧ s = spell M.rd w ∧ outM M (p q).1 (r q).1 w ≠ outM M (p q).2 (r q).2 w := by
    intro vs qs h
    induction h with
    | nil => exact ⟨[], rfl, rfl, fun i q s h => by simp at h⟩
    | @cons v q vs qs hq _ ih =>
      obtain ⟨ss, e1, e2, e3⟩ := ih
      obtain ⟨w, h1, h2, h3, h4⟩ := hq
      refine ⟨spell M.rd w :: ss, by rw [e1, h3]; rfl, by simp [e2], fun i q' s hq' hs => ?_⟩
      cases i with
      | zero =>
        simp at hq' hs
        subst hq' hs
        exact ⟨w, h1, h2, rfl, h4⟩
      | succ i => exact e3 i q' s (by simpa using hq') (by simpa using hs)
  obtain ⟨ss, e1, e2, e3⟩ := this pv
  exact ⟨ss, ⟨e2, e3⟩, fun H' s => ⟨a, vs, rfl, s _ _ ha, by rw [e1]; exact strs_pd _⟩⟩
/-- all states are found -/
theorem found_all {n : Nat} {l : List Nat} (hn : l.Nodup) (hlt : ∀ x ∈ l, x < n) (hc : ∀ c, c < n → c ∈ l) : l.length = n := by
  have h1 := FM.nodup_lt_length hn hlt
  have h2 := FM.nodup_sub_length (l := List.range n) (r := l) List.nodup_range fun x hx => hc x (List.mem_range.mp hx)
  rw [List.length_range] at h2
  omega
end FA
end
section
namespace FA
open PySem PySem.Spec PyProof.Rows L2 FM
def nb (b : Addr) (H : Hp) : Hp := offs (fun _ => none) [b] H
theorem nb_get {b c : Addr} {H : Hp} (h : c ≠ b) : nb b H c = H c := offs_get (by simpa using h) rfl
theorem nb_some {b c : Addr} {H : Hp} {o : HO} (h : nb b H c = some o) : c ≠ b ∧ H c = some o := by
  have := offs_some h
  exact ⟨by simpa using this.1, this.2.2⟩
theorem nb_le {b : Addr} {H : Hp} : Same (nb b H) H := fun c o h => (nb_some h).2
/-- nothing but the box changed -/
def Keep (b : Addr) (H H' : Hp) : Prop := ∀ c o, H c = some o → c ≠ b → H' c = some o
theorem Keep.refl (b : Addr) (H : Hp) : Keep b H H := fun _ _ h _ => h
theorem Keep.trans {b : Addr} {H H1 H2 : Hp} (a : Keep b H H1) (c : Keep b H1 H2) : Keep b H H2 := fun x o h n => c _ _ (a _ _ h n) n
theorem Keep.of {b : Addr} {H H' : Hp} (s : Same H H') : Keep b H H' := fun c o h _ => s _ _ h
theorem Keep.nb {b : Addr} {H H' : Hp} (k : Keep b H H') : Same (nb b H) (nb b H') := fun c o h => by
  obtain ⟨n, e⟩ := nb_some h
  rw [nb_get n]; exact k _ _ e n
theorem Keep.upd {b d : Addr} {H0 H : Hp} {o : HO} (k : Keep b H0 H) (h : H0 d = none) : Keep b H0 (upd H d o) := fun c u e n => by
  have : c ≠ d := fun z => by rw [z, h] at e; cases e
  rw [upd_ne this]; exact k _ _ e n
theorem Keep.free {b c : Addr} {H H' : Hp} (k : Keep b H H') (hb : H' b ≠ none) (h : H' c = none) : H c = none := by
  cases e : H c with
  | none => rfl
  | some o =>
    have : c ≠ b := fun z => hb (by rw [← z]; exact h)
    rw [k _ _ e this] at h; cases h
def BoxAt (b ro : Addr) (H : Hp) : Prop := ∃ (row : List Int) (at_ : Nat), H b = some (.lst [.ref ro, .int (at_ : Nat)]) ∧ H ro = some (.lst (row.map V.int))
theorem BoxAt.ne {b ro : Addr} {H : Hp} (x : BoxAt b ro H) : H b ≠ none := by obtain ⟨_, _, h, _⟩ := x; exact ne_some h
theorem BoxAt.nr {b ro : Addr} {H : Hp} (x : BoxAt b ro H) : H ro ≠ none := by obtain ⟨_, _, _, h⟩ := x; exact ne_some h
theorem BoxAt.same {b ro : Addr} {H H' : Hp} (x : BoxAt b ro H) (s : Same H H') : BoxAt b ro H' := by
  obtain ⟨row, a, h1, h2⟩ := x
  exact ⟨row, a, s _ _ h1, s _ _ h2⟩
theorem BoxAt.row {b ro : Addr} {at_ : Nat} {row : List Int} {H : Hp} (h1 : H b = some (.lst [.ref ro, .int (at_ : Nat)])) (h2 : H ro = some (.lst (row.map V.int))) : ro ≠ b := fun e => by
  rw [e, h1] at h2
  injection h2 with h2
  injection h2 with h2
  cases row with
  | nil => cases h2
  | cons x r => injection h2 with h2 _; cases h2
theorem BoxAt.upd {b ro d : Addr} {H : Hp} {o : HO} (x : BoxAt b ro H) (h1 : d ≠ b) (h2 : d ≠ ro) : BoxAt b ro (L2.upd H d o) := by
  obtain ⟨row, a, e1, e2⟩ := x
  exact ⟨row, a, by rw [upd_ne h1.symm]; exact e1, by rw [upd_ne h2.symm]; exact e2⟩
theorem BoxAt.new {b ro d : Addr} {H : Hp} {o : HO} (x : BoxAt b ro H) (h : H d = none) : BoxAt b ro (L2.upd H d o) := x.upd (fun e => x.ne (by rw [← e]; exact h)) (fun e => x.nr (by rw [← e]; exact h))
/-- the new part is kept -/
theorem Keep.offs {b : Addr} {B H H' : Hp} {ds : List Addr} (k : Keep b H H') (hb : B b ≠ none ∨ b ∈ ds) : Same (offs B ds H) (offs B ds H') := fun c o h => by
  obtain ⟨n, e, g⟩ := offs_some h
  rw [offs_get n e]
  refine k _ _ g fun z => ?_
  rcases hb with q | q
  · rw [z] at e; exact q e
  · rw [z] at n; exact n q
def RetB {α : Type} (b ro : Addr) (R : Rep α) (H : Hp) (Q : VK) (x : α) : Prop := ∀ v H', Keep b H H' → BoxAt b ro H' → R (offs H [] H') v x → Q v H'
def rMl : Rep Mach := fun H v M => ∃ a l r t, v = .ref a ∧ H a = some (.lst [.str M.rd, .str M.wr, l, r, t]) ∧ rRows H l M.L ∧ rRows H r M.R ∧ rTab H t M.T
theorem mMl : Mono rMl := fun H H' v M s ⟨a, l, r, t, e, h, h1, h2, h3⟩ => ⟨a, l, r, t, e, s _ _ h, mRows _ _ _ _ s h1, mRows _ _ _ _ s h2, mTab _ _ _ _ s h3⟩
def sp__law_cell (K : PySem.W.Frag) : Sp := S2 fun H Q a b => ∃ (p : Addr) (ns : List Int), a = .ref p ∧ SqL K H p (ns.map V.int) ∧ (∃ k : Nat, b = .int (k : Nat)) ∧ ∀ z : Int, Q (.int z) H
def sp__law_row (K : PySem.W.Frag) : Sp := S3 fun H Q a b c => ∃ (p : Addr) (ns : List Int), a = .ref p ∧ SqL K H p (ns.map V.int) ∧ b = .int 0 ∧ c = .int 50 ∧ ∀ row : List Int, Ret (rL rZ) H Q row
def sp__law_draw : Sp := S2 fun H Q a b => ∃ bx ro m, a = .ref bx ∧ BoxAt bx ro H ∧ b = .int (m : Nat) ∧ 0 < m ∧ ∀ r : Nat, r < m → ∀ H', Keep bx H H' → BoxAt bx ro H' → Q (.int (r : Nat)) H'
def sp__law_states : Sp := S3 fun H Q a b c => ∃ bx ro n K, a = .ref bx ∧ BoxAt bx ro H ∧ b = .int (n : Nat) ∧ c = .int (K : Nat) ∧ 0 < n ∧ n ≤ 40 ∧ K ≤ 5 ∧ ∀ rows, WFr rows n K → RetB bx ro rRows H Q rows
def sp__law_alphabet : Sp := S2 fun H Q a b => ∃ bx ro m, a = .ref bx ∧ BoxAt bx ro H ∧ b = .int (m : Nat) ∧ (m = 1 ∨ m = 2) ∧ ∀ s, s ∈ ALPHS → ∀ H', Keep bx H H' → BoxAt bx ro H' → Q (.str s) H'
def Sm (n : Nat) (M : Mach) : Prop := M.L.length ≤ n ∧ M.R.length ≤ n
def sp__law_machine : Sp := S4 fun H Q a b c d => ∃ bx ro rd wr, a = .ref bx ∧ BoxAt bx ro H ∧ b = .str rd ∧ c = .str wr ∧ d = .int 3 ∧ rd ∈ ALPHS ∧ wr ∈ ALPHS ∧ ∀ M, MOk M → M.rd = rd → M.wr = wr → Sm 3 M → ∀ v H', Keep bx H H' → BoxAt bx ro H' → rMl (nb bx H') v M → Q v H'
def sp__law_doubled : Sp := S2 fun H Q a b => ∃ bx ro n, a = .ref bx ∧ BoxAt bx ro H ∧ b = .int (n : Nat) ∧ n ≤ 40 ∧ ∀ xs : List Nat, xs.length ≤ 2 * n → (∀ x ∈ xs, x < n) → (∀ c, c < n → c ∈ xs) → RetB bx ro (rL rI) H Q xs
def sp__law_copy_of : Sp := S3 fun H Q a b c => ∃ bx ro xs t, a = .ref bx ∧ BoxAt bx ro H ∧ rL rI (nb bx H) b xs ∧ c = .int (t : Nat) ∧ t ∈ xs ∧ xs.length ≤ 100 ∧ ∀ r : Nat, r < xs.length → ∀ H', Keep bx H H' → BoxAt bx ro H' → Q (.int (r : Nat)) H'
def sp__law_blown : Sp := S2 fun H Q a b => ∃ bx ro M, a = .ref bx ∧ BoxAt bx ro H ∧ rMl (nb bx H) b M ∧ MOk M ∧ Sm 3 M ∧ ∀ N, MOk N → N.rd = M.rd → N.wr = M.wr → ∀ v H', Keep bx H H' → BoxAt bx ro H' → rMl (nb bx H') v N → Q v H'
def sp__law_near : Sp := S2 fun H Q a b => ∃ bx ro M, a = .ref bx ∧ BoxAt bx ro H ∧ rMl (nb bx H) b M ∧ MOk M ∧ ∀ N, MOk N → N.rd = M.rd → N.wr = M.wr → ∀ v H', Keep bx H H' → BoxAt bx ro H' → rMl (nb bx H') v N → Q v H'
def sp__law_made (C : Addr) : Sp := S1 fun H Q a => ∃ M, rMl H a M ∧ MOk M ∧ Ret (rM C) H Q M
end FA
end
section
namespace FA
open PySem PySem.Spec PyProof.Rows L2 FM
theorem ifB {c : Bool} {A B : Prop} (h1 : A) (h2 : B) : if c = true then A else B := by
  cases c with
  | true => exact h1
  | false => exact h2
theorem nodup_at {α : Type} {l : List α} (h : l.Nodup) : ∀ {i j : Nat} {x : α}, l[i]? = some x → l[j]? = some x → i = j := by
  induction l with
  | nil => intro i j x hi _; simp at hi
  | cons a l ih =>
    rw [List.nodup_cons] at h
    intro i j x hi hj
    cases i with
    | zero =>
      cases j with
      | zero => rfl
      | succ j =>
        simp at hi hj
        subst hi
        exact absurd (List.mem_of_getElem? hj) h.1
    | succ i =>
      cases j with
      | zero =>
        simp at hi hj
        subst hj
        exact absurd (List.mem_of_getElem? hi) h.1
      | succ j => exact congrArg (· + 1) (ih h.2 (i := i) (j := j) (x := x) (by simpa using hi) (by simpa using hj))
def rEx {α : Type} (R : Rep α) (P : α → Prop) : Rep Unit := fun H v _ => ∃ y, R H v y ∧ P y
theorem mEx {α : Type} {R : Rep α} {P : α → Prop} (m : Mono R) : Mono (rEx R P) := fun _ _ _ _ s ⟨y, a, b⟩ => ⟨y, m _ _ _ _ s a, b⟩
theorem ex_pd {α : Type} {R : Rep α} {P : α → Prop} {H : Hp} {vs : List V} {us : List Unit} (h : Paired (rEx R P H) vs us) : ∃ ys, Paired (R H) vs ys ∧ (∀ y ∈ ys, P y) ∧ ys.length = us.length := by
  induction h with
  | nil => exact ⟨[], .nil, nofun, rfl⟩
  | cons a _ ih =>
    obtain ⟨ys, p, q, l⟩ := ih
    obtain ⟨y, r, z⟩ := a
    exact ⟨y :: ys, .cons r p, fun x hx => (List.mem_cons.mp hx).elim (fun e => e ▸ z) (q x), by simp [l]⟩
theorem ex_list {α : Type} {R : Rep α} {P : α → Prop} {H : Hp} {v : V} {us : List Unit} (h : rL (rEx R P) H v us) : ∃ ys, rL R H v ys ∧ (∀ y ∈ ys, P y) ∧ ys.length = us.length := by
  obtain ⟨a, vs, e, h1, p⟩ := h
  obtain ⟨ys, p', q, l⟩ := ex_pd p
  exact ⟨ys, ⟨a, vs, e, h1, p'⟩, q, l⟩
/-- a comprehension whose turns write to the box -/
theorem lcB {α : Type} {R : Rep α} {J : It} {n : Nat} {g : TG} {te : TE} {vs : List Nat} {σ : L2.St} {H1 : Hp} {D b ro : Addr} {Qd : Hp → Prop} (m : Mono R) (outs : List α) (hD : H1 D = none) (bx : BoxAt b ro H1) (hl : outs.length = n) (hz : outs.length ≤ sizeLine)
    (hgo : ∀ i H, i < n → Keep b H1 H → J.go i H) (hstop : ∀ H, Keep b H1 H → J.stop n H)
    (turn : ∀ (i : Nat) (x : V) (o : α) (H H0 : Hp), i < n → outs[i]? = some o → Keep b H1 H → BoxAt b ro H → H D ≠ none → J.yld i H x H0 → ∀ k : V → Hp → Prop, (∀ y H4, Keep b H H4 → BoxAt b ro H4 → R (offs H1 [D] H4) y o → k y H4) → g x (wipe σ vs) H0 fun σ2 H2 => wipe σ2 vs = wipe σ vs ∧ te σ2 H2 k)
    (hd : ∀ H, Keep b H1 H → BoxAt b ro H → rL R (offs H1 [] H) (.ref D) outs → Qd H) :
    ∃ W : Nat → Nat → Hp → Prop, (∃ m, W 0 m (upd H1 D (.lst []))) ∧ ∀ i m H, W i m H →
      (J.stop i H ∧ Qd H) ∨ (J.go i H ∧ ∃ Nx : Hp → Prop, (∀ H', Nx H' → ∃ m', m' < m ∧ W (i + 1) m' H') ∧ ∀ x H', J.yld i H x H' → g x (wipe σ vs) H' fun σ2 H2 => wipe σ2 vs = wipe σ vs ∧ tYes σ2 H2 fun b H3 =>
        if b = true then te σ2 H3 fun y H4 => ∃ acc, H4 D = some (.lst acc) ∧ acc.length < sizeLine ∧ Nx (upd H4 D (.lst (acc ++ [y]))) else Nx H3) := by
  have nb' : D ≠ b := fun e => bx.ne (by rw [← e]; exact hD)
  have nr : D ≠ ro := fun e => bx.nr (by rw [← e]; exact hD)
  refine ⟨fun i m H => m = n - i ∧ i ≤ n ∧ Keep b H1 H ∧ BoxAt b ro H ∧ ∃ acc, H D = some (.lst acc) ∧ Paired (R (offs H1 [D] H)) acc (outs.take i), ⟨n, by simp, Nat.zero_le _, (Keep.refl b H1).upd hD, bx.upd nb' nr, [], upd_same, .nil⟩, ?_⟩
  rintro i mm H ⟨rfl, hi, kp, bxH, acc, hacc, pacc⟩
  by_cases hlt : i < n
  · have hi' : i < outs.length := by rw [hl]; exact hlt
    have hb := List.getElem?_eq_getElem hi'
    refine .inr ⟨hgo i H hlt kp, fun H' => Keep b H1 H' ∧ BoxAt b ro H' ∧ ∃ acc, H' D = some (.lst acc) ∧ Paired (R (offs H1 [D] H')) acc (outs.take (i + 1)), fun H' ⟨p1, p2, p3⟩ => ⟨n - (i + 1), by omega, rfl, hlt, p1, p2, p3⟩, fun x H' y => ?_⟩
    refine turn i x outs[i] H H' hlt hb kp bxH (ne_some hacc) y _ fun y H4 k4 b4 hy => ?_
    have hal : acc.length = i := by rw [pd_len pacc, List.length_take]; omega
    refine ⟨acc, k4 _ _ hacc nb', by omega, (kp.trans k4).upd hD, b4.upd nb' nr, _, upd_same, ?_⟩
    rw [offs_upd (by simp), List.take_add_one, hb]
    exact pd_snoc (pd_mono m (k4.offs (.inl bx.ne)) pacc) hy
  · have e : i = n := by omega
    subst e
    rw [← hl, List.take_length] at pacc
    refine .inl ⟨hstop H kp, hd H kp bxH ⟨D, acc, rfl, by rw [offs_get (by simp) hD]; exact hacc, pd_mono m (offs_shrink (by simp)) pacc⟩⟩
/-- what a later call has made is off the list under way -/
theorem offs_callB {b : Addr} {B H H' : Hp} {ds : List Addr} (k : Keep b B H) (hb : H b ≠ none) (hd : ∀ d ∈ ds, H d ≠ none) : Same (offs H [] H') (offs B ds H') := fun c o h => by
  obtain ⟨_, e, g⟩ := offs_some h
  rw [offs_get (fun m => hd c m e) (k.free hb e)]
  exact g
theorem offs_nb {b : Addr} {H H' : Hp} {ds : List Addr} (hb : H b ≠ none) : Same (offs H ds H') (nb b H') := fun c o h => by
  obtain ⟨_, e, g⟩ := offs_some h
  rw [nb_get (fun z => hb (by rw [← z]; exact e))]
  exact g
end FA
end
section
namespace FA
open PySem PySem.Spec PyProof.Rows L2 FM
def dF (M : Mach) : PyData := .tuple [.str M.rd, .str M.wr, dTu (dTu dI) M.L, dTu (dTu dI) M.R, dTu (dTu PyData.str) M.T]
theorem dr_F : Dr rF dF := fun K H v M ⟨a, l, r, t, e, h, h1, h2, h3⟩ => by
  rw [e]
  exact .tup (SqT.of h) (.cons (.str _) (.cons (.str _) (.cons (dr_T (dr_T dr_I) K H _ _ h1) (.cons (dr_T (dr_T dr_I) K H _ _ h2) (.cons (dr_T (dr_T dr_S) K H _ _ h3) .nil)))))
theorem eq_F (M N : Mach) : PyData.eqv (dF M) (dF N) = true ↔ (M.rd = N.rd ∧ M.wr = N.wr ∧ M.L = N.L ∧ M.R = N.R ∧ M.T = N.T) := by
  show ((M.rd == N.rd) && ((M.wr == N.wr) && (PyData.eqv (dTu (dTu dI) M.L) (dTu (dTu dI) N.L) && (PyData.eqv (dTu (dTu dI) M.R) (dTu (dTu dI) N.R) && (PyData.eqv (dTu (dTu PyData.str) M.T) (dTu (dTu PyData.str) N.T) && true))))) = true ↔ _
  rw [Bool.and_true, Bool.and_eq_true, Bool.and_eq_true, Bool.and_eq_true, Bool.and_eq_true, beq_iff_eq, beq_iff_eq, de_T (de_T de_I), de_T (de_T de_I), de_T (de_T de_S)]
theorem al_ok : ∀ s ∈ ALPHS, ∀ c ∈ s.cps.toList, c < 0x110000 := by decide +kernel
theorem sh_str {s : Str} (h : ∀ c ∈ s.cps.toList, c < 0x110000) : Sh 0 (.str s) := ⟨by
  show s.cps.all (fun c => decide (c < 0x110000)) = true
  rw [← Array.all_toList]
  exact List.all_eq_true.mpr fun c hc => decide_eq_true (h c hc), Nat.le_refl _⟩
theorem sh_F {M : Mach} (ok : MOk M) : Sh 3 (dF M) := by
  have s1 : Sh 0 (.str M.rd) := sh_str (al_ok _ ok.rd)
  have s2 : Sh 0 (.str M.wr) := sh_str (al_ok _ ok.wr)
  have s3 : Sh 2 (dTu (dTu dI) M.L) := sh_T fun x _ => sh_T fun y _ => sh_I y
  have s4 : Sh 2 (dTu (dTu dI) M.R) := sh_T fun x _ => sh_T fun y _ => sh_I y
  have s5 : Sh 2 (dTu (dTu PyData.str) M.T) := sh_T fun x hx => sh_T fun y hy => sh_str fun c hc => al_ok _ ok.wr c (((ok.wfT.row x hx).2 y hy).2 c hc)
  refine ⟨?_, ?_⟩
  · show (_ && (_ && (_ && (_ && (_ && true))))) = true
    rw [s1.1, s2.1, s3.1, s4.1, s5.1]; rfl
  · show max _ (max _ (max _ (max _ (max _ 0)))) + 1 ≤ 3
    have h1 := s1.2
    have h2 := s2.2
    have h3 := s3.2
    have h4 := s4.2
    have h5 := s5.2
    omega
def rSm (C : Addr) : Rep Mach := fun H v M => ∃ N, rM C H v N ∧ ILM M N
theorem mSm {C : Addr} : Mono (rSm C) := fun _ _ _ _ s ⟨N, a, b⟩ => ⟨N, mM _ _ _ _ s a, b⟩
theorem small_same {M N : Mach} (h : ILM M N) : SameM N M := by
  obtain ⟨e1, e2, l⟩ := h
  intro w hw
  rw [e1] at hw
  exact least_same l w hw
theorem same_iff {M N M' N' : Mach} (h : ILM M N) (h' : ILM M' N') (e1 : M.rd = M'.rd) (e2 : M.wr = M'.wr) : SameM M M' ↔ (N.rd = N'.rd ∧ N.wr = N'.wr ∧ N.L = N'.L ∧ N.R = N'.R ∧ N.T = N'.T) := by
  obtain ⟨a1, a2, l⟩ := h
  obtain ⟨b1, b2, l'⟩ := h'
  rw [← e1, ← e2] at l'
  constructor
  · intro s
    obtain ⟨c1, c2, c3⟩ := least_uniq (Gd.ext (wr := M.wr)) l l' s
    exact ⟨by rw [a1, b1, e1], by rw [a2, b2, e2], c1, c2, c3⟩
  · rintro ⟨_, _, c1, c2, c3⟩
    rw [← c1, ← c2, ← c3] at l'
    exact (TSame.symm (least_same l)).trans (least_same l')
theorem sizes {M N M' N' : Mach} (h : ILM M N) (h' : ILM M' N') (e1 : M.rd = M'.rd) (e2 : M.wr = M'.wr) (s : SameM M M') : N.L.length ≤ M'.L.length ∧ N.R.length ≤ M'.R.length := by
  obtain ⟨_, _, c1, c2, c3⟩ := (same_iff h h' e1 e2).mp s
  rw [c1, c2]
  exact ⟨h'.2.2.leL, h'.2.2.leR⟩
def sp_law (K : PySem.W.Frag) : Sp := fun vs H Q _ => ∃ (a : Addr) (ns : List Int), vs = [.ref a] ∧ SqL K H a (ns.map V.int) ∧ ns.length ≤ 63 ∧ ∀ H', Q (.bl true) H'
theorem len_law {K : PySem.W.Frag} (vs : List V) (H : Hp) (Q : VK) (E : XK) (h : sp_law K vs H Q E) : vs.length = 1 := by obtain ⟨_, _, rfl, _⟩ := h; rfl
end FA
end
section
namespace FA
open PySem PySem.Spec PyProof.Rows L2 FM
theorem sc_reached_behind : FnScope ["rows", "start", "found", "order", "at", "state", "k", "other"] ["rows", "start"] (defScope s_reached_behind) := ⟨rfl, rfl, rfl, by decide +kernel, rfl, by decide +kernel, by decide +kernel⟩
section
variable {P : Program} {w : World} {K : PySem.W.Frag} {mg : Str → Option Value} {base : Heap} {C : Addr}
theorem ok_reached_behind (D : Df K mg "reached_behind" s_reached_behind ["rows", "start"]) (Z : Glo mg) (Mc : Mcl K mg C) :
    Cal P w K mg base "reached_behind" ["rows", "start"] 1 sp_reached_behind := by
  have nd := sc_reached_behind.nd
  refine D.ok sc_reached_behind len2 (fun f cdv A outer s H vs Q E hr h => ?_)
  have hu := hu_of hr
  refine ⟨_, (pss_cons (ps_set (i := 2) nd rfl (Or.inr rfl) (pe_disp (pps_cons (pv 1) (pe_tup pa_nil) pps_nil) rfl rfl (by simp) (by simp)))
      (pss_cons (ps_set (i := 3) nd rfl (Or.inl rfl) (pe_lst (pa_cons (pv 1) pa_nil)))
      (pss_cons (ps_set (i := 4) nd rfl (Or.inl rfl) pe_int)
      (pss_cons (ps_while PassesOwn.never (pt_cmpR op_lt (pv 4) (pe_callB klen_seq (by rfl) Z.z_len (by decide +kernel) (pa_cons (pv 3) pa_nil)) (nomark _)) (pss_cons (ps_set (i := 5) nd rfl (Or.inl rfl) (pe_ix kix_list (pv 3) (pv 4) (fun _ _ => rfl)))
        (pss_cons (ps_for PassesOwn.never rfl (kpi_enum K (by rfl) Z.z_enumerate (pa_cons (pe_ix kix_list (pv 0) (pv 5) (fun _ _ => rfl)) pa_nil)) (kpg_tup K (n := 2) rfl (pgs_cons (pg_name (i := 6) nd rfl (Or.inl rfl)) (pgs_cons (pg_name (i := 7) nd rfl (Or.inl rfl)) pgs_nil))) (pss_one (ps_if (pt_cmp (pc_dnotin hu (pv 7) (pv 2))) (pss_cons (ps_dput hu (pv 2) (pv 7) (pe_op kcatA (pe_dget hu (pv 2) (pv 5) (fun _ _ => rfl)) (pe_tup (pa_cons (pv 6) pa_nil))) rfl)
            (pss_one (ps_expr (kbm K PySem.F.plainAttrs_list PySem.F.slot_list_append PySem.F.type_list_append mt_append (pv 3) (pa_cons (pv 7) pa_nil))))) pss_nil)))
        (pss_one (ps_aug (i := 4) nd rfl (Or.inl rfl) pe_int iop_add)))))
      (pss_one (ps_ret (pe_lc (own := [("state", 5)]) (tt := tYes) rfl nd (kpi_list K (pv 3)) (blkOk_by (by kernel_rfl)) (fun _ _ _ _ _ => (pg_name (i := 5) nd rfl (Or.inl rfl))) (fun _ _ _ _ _ => pts_nil) (fun _ _ _ _ _ => (pe_tup (pa_cons (pv 5) (pa_cons (pe_dget hu (pv 2) (pv 5) (fun _ _ => rfl)) pa_nil))))))))))), ?_⟩
  obtain ⟨_, _, rfl, rows, n, L, ⟨ra, rvs, rfl, hra, prow⟩, rfl, wf, n0, hn, hL, q⟩ := h
  intro d hd
  refine ⟨_, rfl, Nat.zero_le _, fun t ht => ?_⟩
  have ndt : d ≠ t := fun e => by rw [← e, upd_same] at ht; cases ht
  rw [upd_ne ndt.symm] at ht
  refine ⟨by rw [upd_ne ndt]; exact upd_same, [(kI 0, .ref t)], rfl, by show 1 ≤ 15; decide, ?_⟩
  refine ⟨_, rfl, by show 1 ≤ sizeLine; decide, fun o ho => ?_⟩
  have ndo : d ≠ o := fun e => by rw [← e, upd_same] at ho; cases ho
  rw [upd_ne ndo.symm] at ho
  have nto : t ≠ o := fun e => by rw [← e, upd_same] at ho; cases ho
  rw [upd_ne nto.symm, upd_ne ndo.symm] at ho
  refine ⟨fun m σ H1 => ∃ (i : Nat) (fs : List (Nat × List Nat)) (x5 x6 x7 : Option V), σ = [some (V.ref ra), some (.int 0), some (.ref d), some (.ref o), some (.int (i : Nat)), x5, x6, x7] ∧ m = n - i ∧ Same H H1 ∧ DI dKm kI H [d, o] H1 d fs ∧ LI rI H [d, o] H1 o (fs.map (·.1)) ∧ QInv (fun s => rows.getD s []) 0 i (fs.map (·.1)) ∧ i ≤ fs.length ∧ (∀ p ∈ fs, Wd L p.2 ∧ stL (at2 rows) 0 p.2 = p.1 ∧ p.1 < n ∧ p.2.length < fs.length), ⟨n, 0, [(0, [])], none, none, none, rfl, rfl, ?_, ?_, ?_, QInv.start _ _, Nat.zero_le _, ?_⟩, ?_⟩
  · exact same_upd (same_upd (same_upd (same_new hd) ht) hd) ho
  · refine ⟨[(kI 0, .ref t)], by rw [upd_ne ndo]; exact upd_same, .cons ⟨rfl, t, [], rfl, ?_, .nil⟩ .nil⟩
    rw [offs_get (by simp [ndt.symm, nto]) ht, upd_ne nto, upd_ne ndt.symm, upd_same]
  · exact ⟨_, upd_same, .cons rfl .nil⟩
  · intro p hp
    rw [List.mem_singleton] at hp
    subst hp
    exact ⟨Wd.nil, rfl, n0, by show 0 < 1; decide⟩
  rintro m σ H1 ⟨i, fs, x5, x6, x7, rfl, rfl, same, hdi, hli, hq, hi, hw⟩
  have hfl : fs.length ≤ n := by
    have := FM.nodup_lt_length hq.nodup (n := n) fun x hx => by
      obtain ⟨p, hp, rfl⟩ := List.mem_map.mp hx
      exact (hw p hp).2.2.1
    simpa using this
  obtain ⟨ovs, ho1, po1⟩ := id hli
  have hol : ovs.length = fs.length := by rw [pd_len po1, List.length_map]
  refine ⟨_, rfl, _, rfl, o, ovs, rfl, .inl ho1, (i : Nat), (ovs.length : Nat), rfl, rfl, _, rfl, ?_⟩
  by_cases hlt : i < fs.length
  · rw [decide_eq_true (by omega)]
    refine iteT ?_
    obtain ⟨⟨s, sw⟩, hs⟩ : ∃ p, fs[i]? = some p := ⟨_, List.getElem?_eq_getElem hlt⟩
    have hso : (fs.map (·.1))[i]? = some s := by rw [List.getElem?_map, hs]; rfl
    have hsn : s < n := (hw _ (List.mem_of_getElem? hs)).2.2.1
    obtain ⟨v, hv1, rfl⟩ := pd_get' po1 hso
    refine ⟨_, fun _ _ h => h, _, rfl, _, rfl, o, ovs, _, _, rfl, rfl, ho1, atI_nat hv1, ?_⟩
    -- the row
    obtain ⟨a, rvs', rb, ws, ea, ha, hrb, hb, pws⟩ := rows_get (i := s) (mRows _ _ _ _ same ⟨ra, rvs, rfl, hra, prow⟩) (getD_some (d := []) (by rw [wf.len]; exact hsn))
    cases ea
    obtain ⟨a0, rvs0, rb0, ws0, ea0, ha0, hrb0, hb0, pws0⟩ := rows_get (i := s) (⟨ra, rvs, rfl, hra, prow⟩ : rRows H _ rows) (getD_some (d := []) (by rw [wf.len]; exact hsn))
    cases ea0
    have e1 : rvs' = rvs0 := by have := same _ _ ha0; rw [ha] at this; injection this with this; injection this
    subst e1
    have e2 : rb = rb0 := by rw [hrb0] at hrb; injection hrb with hrb; injection hrb with hrb; exact hrb.symm
    subst e2
    have e3 : ws = ws0 := by have := same _ _ hb0; rw [hb] at this; injection this with this; injection this
    subst e3
    have ews := pd_ints pws0
    refine ⟨_, rfl, _, rfl, ra, rvs', _, _, rfl, rfl, ha, atI_nat hrb, rb, ws, rfl, SqL.of hb, ?_⟩
    have hrow := wf.getRow hsn
    have hwl : ws.length = L := by rw [ews, List.length_map]; exact hrow.1
    refine for_it (walk_enum (xs := ws)) (fun j σ' H2 => ∃ (fs' : List (Nat × List Nat)) (x6 x7 : Option V), σ' = [some (V.ref ra), some (.int 0), some (.ref d), some (.ref o), some (.int (i : Nat)), some (.int (s : Nat)), x6, x7] ∧ Same H H2 ∧ DI dKm kI H [d, o] H2 d fs' ∧ LI rI H [d, o] H2 o (fs'.map (·.1)) ∧ fs'.map (·.1) = pushAll (fs.map (·.1)) ((rows.getD s []).take j) ∧ (∃ r, fs' = fs ++ r) ∧ (∀ p ∈ fs', Wd L p.2 ∧ stL (at2 rows) 0 p.2 = p.1 ∧ p.1 < n ∧ p.2.length < fs'.length)) ⟨fs, x6, x7, rfl, same, hdi, hli, rfl, ⟨[], by simp⟩, hw⟩ ?_ ?_ ?_
    · rintro j σ' H2 _ ⟨fs', x6, x7, _, s2, _⟩
      exact SqL.of (s2 _ _ hb0)
    · rintro j x σ' H2 H2' hj ⟨fs', x6, x7, rfl, s2, di2, li2, hpa, ⟨r, hr'⟩, hw2⟩ ⟨T, u, y, rfl, hT, rfl, e1, hy⟩
      cases e1
      have hjL : j < L := by omega
      have hry : (rows.getD s [])[j]? = some (at2 rows s j) := getD_some (by rw [hrow.1]; exact hjL)
      replace hy : ws[j]? = some y := hy
      have hyy : y = iv (at2 rows s j) := by rw [ews, List.getElem?_map, hry] at hy; exact (Option.some.inj hy).symm
      subst hyy
      have s3 : Same H2 (upd H2 T (.tup [.int (j : Nat), iv (at2 rows s j)])) := same_new hT
      have di3 := di2.mono s3
      have li3 := li2.mono mI s3
      have s4 := s2.trans s3
      refine ⟨T, _, rfl, SqT.of upd_same, rfl, _, _, rfl, _, _, rfl, rfl, ?_⟩
      generalize hH3 : upd H2 T (.tup [.int (j : Nat), iv (at2 rows s j)]) = H3 at s3 di3 li3 s4
      clear hH3
      have htk : (rows.getD s []).take (j + 1) = (rows.getD s []).take j ++ [at2 rows s j] := by rw [List.take_add_one, hry]; rfl
      obtain ⟨kvs, hkd, hkp⟩ := id di3
      have hnd : (fs'.map (·.1)).Nodup := by rw [hpa]; exact FM.nodup_pushAll hq.nodup
      refine ⟨_, rfl, _, rfl, d, valV kvs (kI (at2 rows s j)), rfl, DGet.k (k := kI (at2 rows s j)) hkd, _, rfl, ?_⟩
      by_cases hm : at2 rows s j ∈ fs'.map (·.1)
      · obtain ⟨pz, hpz, epz⟩ := List.mem_map.mp hm
        obtain ⟨iz, hiz⟩ := List.getElem?_of_mem hpz
        have : fs'[iz]? = some (at2 rows s j, pz.2) := by rw [hiz, ← epz]
        obtain ⟨vv, hvv, _⟩ := dp_some hkp kI_inj this hnd
        rw [hvv]
        refine iteF ?_
        exact ⟨fs', _, _, rfl, s4, di3, li3, by rw [htk, pushAll_snoc, ← hpa, push_of_mem hm], ⟨r, hr'⟩, hw2⟩
      · rw [dp_none hkp kI_inj hm]
        refine iteT ?_
        -- found[state] + (k,)
        have hsf : fs'[i]? = some (s, sw) := by rw [hr', List.getElem?_append_left hlt]; exact hs
        obtain ⟨tv, htv, ta, tws, rfl, hta, ptws⟩ := dp_some hkp kI_inj hsf hnd
        refine ⟨_, rfl, _, rfl, d, _, rfl, by rw [← htv]; exact DGet.k (k := kI s) hkd, _, rfl, by show 1 ≤ sizeLine; decide, fun u hu' => ?_⟩
        have hne : ta ≠ u := fun e => by rw [(offs_some hta).2.2.symm.symm.symm.symm |> fun z => (e ▸ z : H3 u = _)] at hu'; cases hu'
        have swl := hw2 _ (List.mem_of_getElem? hsf)
        have hfl' : fs'.length ≤ n := by
          have := FM.nodup_lt_length hnd (n := n) fun x hx => by
            obtain ⟨p, hp, rfl⟩ := List.mem_map.mp hx
            exact (hw2 p hp).2.2.1
          simpa using this
        have hlen : tws.length = sw.length := pd_len ptws
        have s5 : Same H3 (upd H3 u (.tup [.int (j : Nat)])) := same_new hu'
        refine ⟨ta, u, tws, [.int (j : Nat)], rfl, rfl, s5 _ _ (offs_some hta).2.2, upd_same, szl (by have h1 : sw.length < fs'.length := swl.2.2.2; show tws.length + 1 ≤ 10000; omega), fun p H5 s6 hp new => ?_⟩
        have s7 : Same H3 H5 := s5.trans s6
        have di5 := di3.mono s7
        have li5 := li3.mono mI s7
        have hnew := new H [d, o] (fun x hx => by
          rcases List.mem_cons.mp hx with e | e
          · rw [e]; exact ne_some (s5 _ _ hkd)
          · rw [List.mem_singleton.mp e]; obtain ⟨_, z, _⟩ := li3; exact ne_some (s5 _ _ z)) (fun _ => ⟨(fun m => by
            rcases List.mem_cons.mp m with e | e
            · rw [e, hkd] at hu'; cases hu'
            · rw [List.mem_singleton.mp e] at hu'; obtain ⟨_, z, _⟩ := li3; rw [z] at hu'; cases hu'), s4.free hu'⟩) (fun e => by cases e) (s4.trans s5)
        obtain ⟨kvs5, hkd5, hkp5⟩ := id di5
        have hwn : rT rI (offs H [d, o] H5) (.ref p) (sw ++ [j]) := ⟨p, _, rfl, by rw [offs_get hnew.1 hnew.2]; exact hp, pd_snoc (pd_mono mI (offs_same s7) ptws) rfl⟩
        have hkl : kvs5.length = fs'.length := pd_len hkp5
        refine ⟨_, rfl, _, rfl, d, _, rfl, DPut.k (k := kI (at2 rows s j)) hkd5 (sz (by omega)), ?_⟩
        obtain ⟨ovs5, ho5, po5⟩ := id li5
        have hol5 : ovs5.length = fs'.length := by rw [pd_len po5, List.length_map]
        refine ⟨_, rfl, .inl ⟨rfl, ovs5, SqL.of (by rw [upd_ne ndo.symm]; exact ho5)⟩, _, rfl, o, ovs5, _, rfl, rfl, (by rw [upd_ne ndo.symm]; exact ho5), sz (by omega), ?_⟩
        have di6 : DI dKm kI H [d, o] (upd H5 d (dKm (putK kvs5 (kI (at2 rows s j)) (.ref p)))) d (fs' ++ [(at2 rows s j, sw ++ [j])]) := DI.put hkp5 kI_inj hm hwn (by simp)
        have po6 : Paired (rI (offs H [d, o] (upd H5 d (dKm (putK kvs5 (kI (at2 rows s j)) (.ref p)))))) ovs5 (fs'.map (·.1)) := by rw [offs_upd (by simp)]; exact po5
        refine ⟨fs' ++ [(at2 rows s j, sw ++ [j])], _, _, rfl, same_upd (same_upd (s4.trans s7) hd) ho, di6.other (by simp) ndo.symm, ?_, ?_, ⟨r ++ [(at2 rows s j, sw ++ [j])], by rw [hr', List.append_assoc]⟩, ?_⟩
        · rw [List.map_append]
          exact LI.app po6 rfl (by simp)
        · rw [List.map_append, htk, pushAll_snoc, ← hpa, push_of_not hm]; rfl
        · intro pz hpz
          rw [List.length_append]
          rcases List.mem_append.mp hpz with e | e
          · have := hw2 pz e
            exact ⟨this.1, this.2.1, this.2.2.1, Nat.lt_of_lt_of_le this.2.2.2 (Nat.le_add_right _ _)⟩
          · rw [List.mem_singleton.mp e]
            refine ⟨swl.1.app (Wd.one hjL), ?_, wf.lt hsn hjL, ?_⟩
            · rw [stL_snoc, swl.2.1]
            · show (sw ++ [j]).length < _
              rw [List.length_append]
              exact Nat.add_lt_add_right swl.2.2.2 1
    · rintro σ' H2 ⟨fs', x6, x7, rfl, s2, di2, li2, hpa, ⟨r, hr'⟩, hw2⟩
      refine ⟨_, rfl, (i : Nat), 1, rfl, rfl, ?_⟩
      have hpa' : fs'.map (·.1) = pushAll (fs.map (·.1)) (rows.getD s []) := by rw [hpa, List.take_of_length_le (by omega)]
      refine ⟨n - (i + 1), by omega, i + 1, fs', _, _, _, rfl, rfl, s2, di2, li2, by rw [hpa']; exact hq.step hso, ?_, hw2⟩
      rw [hr', List.length_append]; omega
  · rw [decide_eq_false (by omega)]
    refine iteF ?_
    have hie : i = fs.length := by omega
    subst hie
    refine ⟨_, rfl, o, rfl, ⟨ovs, SqL.of ho1⟩, fun D hD => ?_⟩
    have hnd : (fs.map (·.1)).Nodup := hq.nodup
    obtain ⟨kvs, hkd, hkp⟩ := id hdi
    refine lcL (mP mI (mT mI)) fs same hD (SqL.of ho1) (by omega) (szl (by omega)) ?_ ?_
    · intro j x b H2 hx hb s2 nD k hk
      obtain ⟨bs, bw⟩ := b
      have hxs : x = iv bs := by
        have : (fs.map (·.1))[j]? = some bs := by rw [List.getElem?_map, hb]; rfl
        obtain ⟨v, e1, e2⟩ := pd_get' po1 this
        rw [hx] at e1; cases e1; exact e2
      subst hxs
      obtain ⟨tv, htv, htr⟩ := dp_some hkp kI_inj hb hnd
      refine ⟨rfl, _, rfl, _, rfl, _, rfl, d, tv, rfl, by rw [← htv]; exact DGet.k (k := kI bs) (s2 _ _ hkd), by show 2 ≤ sizeLine; decide, fun p hp => ?_⟩
      refine hk _ _ (same_new hp) ⟨p, iv bs, tv, rfl, ?_, rfl, ?_⟩
      · rw [offs_get (fun m => nD (by rw [← List.mem_singleton.mp m]; exact hp)) ((same.trans s2).free hp)]; exact upd_same
      · exact mT mI _ _ _ _ (offs_mono (fun b h _ => h) (fun b hb n => by rw [List.mem_singleton.mp hb] at n; exact absurd hD n) (s2.trans (same_new hp))) htr
    · intro H2 s2 res
      exact q fs ⟨hq, fun p hp => ⟨(hw p hp).1, (hw p hp).2.1, (hw p hp).2.2.1, Nat.le_of_lt (hw p hp).2.2.2⟩⟩ _ _ (same.trans s2) res
end
end FA
end
section
namespace FA
open PySem PySem.Spec PyProof.Rows L2 FM
theorem sc_reached_in_front : FnScope ["rows", "start", "letters", "found", "order", "level", "fresh", "k", "state", "other"] ["rows", "start", "letters"] (defScope s_reached_in_front) := ⟨rfl, rfl, rfl, by decide +kernel, rfl, by decide +kernel, by decide +kernel⟩
section
variable {P : Program} {w : World} {K : PySem.W.Frag} {mg : Str → Option Value} {base : Heap} {C : Addr}
theorem ok_reached_in_front (D : Df K mg "reached_in_front" s_reached_in_front ["rows", "start", "letters"]) (Z : Glo mg) (Mc : Mcl K mg C) :
    Cal P w K mg base "reached_in_front" ["rows", "start", "letters"] 1 sp_reached_in_front := by
  have nd := sc_reached_in_front.nd
  refine D.ok sc_reached_in_front len3 (fun f cdv A outer s H vs Q E hr h => ?_)
  have hu := hu_of hr
  refine ⟨_, (pss_cons (ps_set (i := 3) nd rfl (Or.inr rfl) (pe_disp (pps_cons (pv 1) (pe_tup pa_nil) pps_nil) rfl rfl (by simp) (by simp)))
      (pss_cons (ps_set (i := 4) nd rfl (Or.inl rfl) (pe_lst (pa_cons (pv 1) pa_nil)))
      (pss_cons (ps_set (i := 5) nd rfl (Or.inl rfl) (pe_lst (pa_cons (pv 1) pa_nil)))
      (pss_cons (ps_while PassesOwn.never (ktruth K (pv 5) (by intro _; rfl)) (pss_cons (ps_set (i := 6) nd rfl (Or.inl rfl) (pe_lst pa_nil))
        (pss_cons (ps_for PassesOwn.never rfl (pi_range1 (by rfl) Z.z_range (pa_cons (pv 2) pa_nil)) (pg_name (i := 7) nd rfl (Or.inl rfl)) (pss_one (ps_for PassesOwn.never rfl (kpi_list K (pv 5)) (pg_name (i := 8) nd rfl (Or.inl rfl)) (pss_cons (ps_set (i := 9) nd rfl (Or.inl rfl) (pe_ix kix_list (pe_ix kix_list (pv 0) (pv 8) (fun _ _ => rfl)) (pv 7) (fun _ _ => rfl)))
            (pss_one (ps_if (pt_cmp (pc_dnotin hu (pv 9) (pv 3))) (pss_cons (ps_dput hu (pv 3) (pv 9) (pe_op kcatA (pe_tup (pa_cons (pv 7) pa_nil)) (pe_dget hu (pv 3) (pv 8) (fun _ _ => rfl))) rfl)
              (pss_one (ps_expr (kbm K PySem.F.plainAttrs_list PySem.F.slot_list_append PySem.F.type_list_append mt_append (pv 6) (pa_cons (pv 9) pa_nil))))) pss_nil))))))
        (pss_cons (ps_expr (kbm K PySem.F.plainAttrs_list PySem.F.slot_list_extend PySem.F.type_list_extend mt_extend (pv 4) (pa_cons (pv 6) pa_nil)))
        (pss_one (ps_set (i := 5) nd rfl (Or.inl rfl) (pv 6)))))))
      (pss_one (ps_ret (pe_lc (own := [("state", 8)]) (tt := tYes) rfl nd (kpi_list K (pv 4)) (blkOk_by (by kernel_rfl)) (fun _ _ _ _ _ => (pg_name (i := 8) nd rfl (Or.inl rfl))) (fun _ _ _ _ _ => pts_nil) (fun _ _ _ _ _ => (pe_tup (pa_cons (pv 8) (pa_cons (pe_dget hu (pv 3) (pv 8) (fun _ _ => rfl)) pa_nil))))))))))), ?_⟩
  obtain ⟨_, _, _, rfl, rows, n, L, hrows, rfl, rfl, wf, n0, hn, hL, q⟩ := h
  obtain ⟨ra, rvs, rfl, hra, prow⟩ := id hrows
  intro d hd
  refine ⟨_, rfl, Nat.zero_le _, fun t ht => ?_⟩
  have ndt : d ≠ t := fun e => by rw [← e, upd_same] at ht; cases ht
  rw [upd_ne ndt.symm] at ht
  refine ⟨by rw [upd_ne ndt]; exact upd_same, [(kI 0, .ref t)], rfl, by show 1 ≤ 15; decide, ?_⟩
  refine ⟨_, rfl, by show 1 ≤ sizeLine; decide, fun o ho => ?_⟩
  have ndo : d ≠ o := fun e => by rw [← e, upd_same] at ho; cases ho
  rw [upd_ne ndo.symm] at ho
  have nto : t ≠ o := fun e => by rw [← e, upd_same] at ho; cases ho
  rw [upd_ne nto.symm, upd_ne ndo.symm] at ho
  refine ⟨_, rfl, by show 1 ≤ sizeLine; decide, fun l hl => ?_⟩
  have nol : o ≠ l := fun e => by rw [← e, upd_same] at hl; cases hl
  rw [upd_ne nol.symm] at hl
  have ndl : d ≠ l := fun e => by rw [← e, upd_same] at hl; cases hl
  rw [upd_ne ndl.symm] at hl
  have ntl : t ≠ l := fun e => by rw [← e, upd_same] at hl; cases hl
  rw [upd_ne ntl.symm, upd_ne ndl.symm] at hl
  refine ⟨fun m σ H1 => ∃ (N : Nat) (lv : Addr) (b level : List Nat) (fs : List (Nat × List Nat)) (x6 x7 x8 x9 : Option V), σ = [some (V.ref ra), some (.int 0), some (.int (L : Nat)), some (.ref d), some (.ref o), some (.ref lv), x6, x7, x8, x9] ∧ m = n - b.length ∧ Same H H1 ∧ H lv = none ∧ d ≠ lv ∧ o ≠ lv ∧ DI dKm kI H [d, o, lv] H1 d fs ∧ LI rI H [d, o, lv] H1 o (b ++ level) ∧ LI rI H [d, o, lv] H1 lv level ∧ fs.map (·.1) = b ++ level ∧ LInv (at2 rows) L 0 N b level ∧ (∀ p ∈ fs, Wd L p.2 ∧ stR (at2 rows) 0 p.2 = p.1 ∧ p.1 < n ∧ p.2.length < fs.length), ⟨n, 0, l, [], [0], [(0, [])], none, none, none, none, rfl, rfl, ?_, hl, ndl, nol, ?_, ?_, ?_, rfl, LInv.start _ _ _, ?_⟩, ?_⟩
  · exact same_upd (same_upd (same_upd (same_upd (same_new hd) ht) hd) ho) hl
  · refine ⟨[(kI 0, .ref t)], by rw [upd_ne ndl, upd_ne ndo]; exact upd_same, .cons ⟨rfl, t, [], rfl, ?_, .nil⟩ .nil⟩
    rw [offs_get (by simp [ndt.symm, nto, ntl]) ht, upd_ne ntl, upd_ne nto, upd_ne ndt.symm, upd_same]
  · exact ⟨[V.int 0], by rw [upd_ne nol, upd_same], .cons rfl .nil⟩
  · exact ⟨_, upd_same, .cons rfl .nil⟩
  · intro p hp
    rw [List.mem_singleton] at hp
    subst hp
    exact ⟨Wd.nil, rfl, n0, by show 0 < 1; decide⟩
  rintro m σ H1 ⟨N, lv, b, level, fs, x6, x7, x8, x9, rfl, rfl, same, hlv, ndlv, nolv, hdi, hlo, hll, hfs, hinv, hw⟩
  have bound : ∀ (gs : List (Nat × List Nat)), (gs.map (·.1)).Nodup → (∀ p ∈ gs, p.1 < n) → gs.length ≤ n := fun gs h1 h2 => by
    have := FM.nodup_lt_length h1 (n := n) fun x hx => by
      obtain ⟨p, hp, rfl⟩ := List.mem_map.mp hx
      exact h2 p hp
    simpa using this
  have hfl : fs.length ≤ n := bound fs (by rw [hfs]; exact hinv.nodup) fun p hp => (hw p hp).2.2.1
  have hbl : b.length + level.length = fs.length := by rw [← List.length_append, ← hfs, List.length_map]
  obtain ⟨lvs, hlv1, plv⟩ := id hll
  have hlvl : lvs.length = level.length := pd_len plv
  refine ⟨_, rfl, !lvs.isEmpty, .inl ⟨lvs, SqL.of hlv1, rfl⟩, ?_⟩
  by_cases hemp : level = []
  · have : lvs = [] := List.eq_nil_of_length_eq_zero (by rw [hlvl, hemp]; rfl)
    rw [this]
    refine iteF ?_
    subst hemp
    rw [List.append_nil] at hlo hfs
    obtain ⟨ovs, ho1, po1⟩ := id hlo
    have hol : ovs.length = fs.length := by rw [pd_len po1, ← hfs, List.length_map]
    have hnd : (fs.map (·.1)).Nodup := by rw [hfs]; simpa using hinv.nodup
    refine ⟨_, rfl, o, rfl, ⟨ovs, SqL.of ho1⟩, fun D hD => ?_⟩
    obtain ⟨kvs, hkd, hkp⟩ := id hdi
    refine lcL (mP mI (mT mI)) fs same hD (SqL.of ho1) (by omega) (szl (by omega)) ?_ ?_
    · intro j x b2 H2 hx hb s2 nD k hk
      obtain ⟨bs, bw⟩ := b2
      have hxs : x = iv bs := by
        have : b[j]? = some bs := by rw [← hfs, List.getElem?_map, hb]; rfl
        obtain ⟨v, e1, e2⟩ := pd_get' po1 this
        rw [hx] at e1; cases e1; exact e2
      subst hxs
      obtain ⟨tv, htv, htr⟩ := dp_some hkp kI_inj hb hnd
      refine ⟨rfl, _, rfl, _, rfl, _, rfl, d, tv, rfl, by rw [← htv]; exact DGet.k (k := kI bs) (s2 _ _ hkd), by show 2 ≤ sizeLine; decide, fun p hp => ?_⟩
      refine hk _ _ (same_new hp) ⟨p, iv bs, tv, rfl, ?_, rfl, ?_⟩
      · rw [offs_get (fun m => nD (by rw [← List.mem_singleton.mp m]; exact hp)) ((same.trans s2).free hp)]; exact upd_same
      · exact mT mI _ _ _ _ (offs_mono (fun b h _ => h) (fun b hb n => by rw [List.mem_singleton.mp hb] at n; exact absurd hD n) (s2.trans (same_new hp))) htr
    · intro H2 s2 res
      exact q fs ⟨⟨N, by rw [hfs]; exact hinv⟩, fun p hp => ⟨(hw p hp).1, (hw p hp).2.1, (hw p hp).2.2.1, Nat.le_of_lt (hw p hp).2.2.2⟩⟩ _ _ (same.trans s2) res
  · have hlev0 : 0 < level.length := List.length_pos_iff.mpr hemp
    have : (!lvs.isEmpty) = true := by
      cases lvs with
      | nil => rw [← hlvl] at hlev0; exact absurd hlev0 (by decide)
      | cons _ _ => rfl
    rw [this]
    refine iteT ?_
    refine ⟨_, fun _ _ h => h, Nat.zero_le _, fun f' hf => ?_⟩
    have fne : ∀ z, H1 z ≠ none → f' ≠ z := fun z h e => h (by rw [← e]; exact hf)
    have nfd : f' ≠ d := fne d (by obtain ⟨_, z, _⟩ := hdi; exact ne_some z)
    have nfo : f' ≠ o := fne o (by obtain ⟨_, z, _⟩ := hlo; exact ne_some z)
    have nfl : f' ≠ lv := fne lv (ne_some hlv1)
    have hHf : H f' = none := same.free hf
    have hdi1 := (hdi.to (ds' := [f', d, o, lv]) (Same.refl _) (offs_grow hf)).mono (same_new (o := .lst []) hf)
    have hlo1 := (hlo.to mI (ds' := [f', d, o, lv]) (Same.refl _) (offs_grow hf)).mono mI (same_new (o := .lst []) hf)
    have hll1 := (hll.to mI (ds' := [f', d, o, lv]) (Same.refl _) (offs_grow hf)).mono mI (same_new (o := .lst []) hf)
    have hlf1 : LI rI H [f', d, o, lv] (upd H1 f' (.lst [])) f' ([] : List Nat) := ⟨[], upd_same, .nil⟩
    have sm1 : Same H (upd H1 f' (.lst [])) := same_upd same hHf
    generalize hH2 : upd H1 f' (.lst []) = H2 at hdi1 hlo1 hll1 hlf1 sm1
    clear hH2
    refine ⟨_, rfl, (L : Nat), rfl, by omega, by omega, ?_⟩
    refine for_range (n := L) (lo := 0) (fun kk σ' H3 => ∃ (gs : List (Nat × List Nat)) (fr : List Nat) (x7 x8 x9 : Option V), σ' = [some (V.ref ra), some (.int 0), some (.int (L : Nat)), some (.ref d), some (.ref o), some (.ref lv), some (.ref f'), x7, x8, x9] ∧ Same H H3 ∧ DI dKm kI H [f', d, o, lv] H3 d gs ∧ LI rI H [f', d, o, lv] H3 o (b ++ level) ∧ LI rI H [f', d, o, lv] H3 lv level ∧ LI rI H [f', d, o, lv] H3 f' fr ∧ gs.map (·.1) = (b ++ level) ++ fr ∧ gs.map (·.1) = pushAll (b ++ level) ((List.range kk).flatMap fun k => level.map fun s => at2 rows s k) ∧ (∀ p ∈ gs, Wd L p.2 ∧ stR (at2 rows) 0 p.2 = p.1 ∧ p.1 < n ∧ p.2.length < gs.length)) ⟨fs, [], x7, x8, x9, rfl, sm1, hdi1, hlo1, hll1, hlf1, by rw [hfs, List.append_nil], by rw [hfs]; rfl, hw⟩ ?_ ?_
    · rintro kk σ' H3 hkk ⟨gs, fr, x7, x8, x9, rfl, sm3, hdi3, hlo3, hll3, hlf3, hgs1, hgs2, hw3⟩
      obtain ⟨lvs3, hlv3, plv3⟩ := id hll3
      refine ⟨_, rfl, lv, rfl, ⟨lvs3, SqL.of hlv3⟩, ?_⟩
      rw [Int.zero_add]
      refine for_it (walk_list (xs := lvs3)) (fun j σ' H3 => ∃ (gs' : List (Nat × List Nat)) (fr : List Nat) (x8 x9 : Option V), σ' = [some (V.ref ra), some (.int 0), some (.int (L : Nat)), some (.ref d), some (.ref o), some (.ref lv), some (.ref f'), some (.int (kk : Nat)), x8, x9] ∧ Same H H3 ∧ H3 lv = some (.lst lvs3) ∧ DI dKm kI H [f', d, o, lv] H3 d gs' ∧ LI rI H [f', d, o, lv] H3 o (b ++ level) ∧ LI rI H [f', d, o, lv] H3 lv level ∧ LI rI H [f', d, o, lv] H3 f' fr ∧ gs'.map (·.1) = (b ++ level) ++ fr ∧ gs'.map (·.1) = pushAll (gs.map (·.1)) ((level.take j).map fun s => at2 rows s kk) ∧ (∀ p ∈ gs', Wd L p.2 ∧ stR (at2 rows) 0 p.2 = p.1 ∧ p.1 < n ∧ p.2.length < gs'.length)) ⟨gs, fr, x8, x9, rfl, sm3, hlv3, hdi3, hlo3, hll3, hlf3, hgs1, rfl, hw3⟩ ?_ ?_ ?_
      · rintro j σ' H4 _ ⟨gs', fr, x8, x9, _, _, z, _⟩
        exact SqL.of z
      · rintro j x σ' _ H4 hj ⟨gs', fr, x8, x9, rfl, sm4, hlv4, hdi4, hlo4, hll4, hlf4, hg1, hg2, hw4⟩ ⟨rfl, hx⟩
        have hjl : j < level.length := by rw [← pd_len plv3]; exact hj
        have hnd : (gs'.map (·.1)).Nodup := by rw [hg2, hgs2]; exact FM.nodup_pushAll (FM.nodup_pushAll hinv.nodup)
        obtain ⟨s, hs⟩ : ∃ s, level[j]? = some s := ⟨_, List.getElem?_eq_getElem hjl⟩
        obtain ⟨v, e1, rfl⟩ := pd_get' plv3 hs
        rw [hx] at e1
        cases e1
        have hsm : s ∈ gs'.map (·.1) := by rw [hg1]; exact List.mem_append.mpr (.inl (List.mem_append.mpr (.inr (List.mem_of_getElem? hs))))
        obtain ⟨⟨s', sw⟩, hsp, rfl⟩ := List.mem_map.mp hsm
        obtain ⟨iz, hiz⟩ := List.getElem?_of_mem hsp
        have swl := hw4 _ hsp
        have hsn : s' < n := swl.2.2.1
        obtain ⟨a, vs, rb, ws, ea, ha, hrb, hb, hc⟩ := rows_at (mRows _ _ _ _ sm4 hrows) wf hsn hkk
        cases ea
        refine ⟨_, rfl, _, rfl, ra, vs, _, _, rfl, rfl, ha, atI_nat hrb, _, rfl, rb, ws, _, _, rfl, rfl, hb, atI_nat hc, ?_⟩
        have htk : (level.take (j + 1)).map (fun s => at2 rows s kk) = (level.take j).map (fun s => at2 rows s kk) ++ [at2 rows s' kk] := by rw [List.take_add_one, hs, List.map_append]; rfl
        obtain ⟨kvs, hkd, hkp⟩ := id hdi4
        refine ⟨_, rfl, _, rfl, d, valV kvs (kI (at2 rows s' kk)), rfl, DGet.k (k := kI (at2 rows s' kk)) hkd, _, rfl, ?_⟩
        by_cases hm : at2 rows s' kk ∈ gs'.map (·.1)
        · obtain ⟨pz, hpz, epz⟩ := List.mem_map.mp hm
          obtain ⟨iy, hiy⟩ := List.getElem?_of_mem hpz
          have : gs'[iy]? = some (at2 rows s' kk, pz.2) := by rw [hiy, ← epz]
          obtain ⟨vv, hvv, _⟩ := dp_some hkp kI_inj this hnd
          rw [hvv]
          refine iteF ?_
          exact ⟨gs', fr, _, _, rfl, sm4, hlv4, hdi4, hlo4, hll4, hlf4, hg1, by rw [htk, pushAll_snoc, ← hg2, push_of_mem hm], hw4⟩
        · rw [dp_none hkp kI_inj hm]
          refine iteT ?_
          have hgl : gs'.length ≤ n := bound gs' hnd fun p hp => (hw4 p hp).2.2.1
          refine ⟨_, rfl, by show 1 ≤ sizeLine; decide, fun u hu' => ?_⟩
          have s5 : Same H4 (upd H4 u (.tup [.int (kk : Nat)])) := same_new hu'
          obtain ⟨tv, htv, ta, tws, rfl, hta, ptws⟩ := dp_some hkp kI_inj hiz hnd
          have hlen : tws.length = sw.length := pd_len ptws
          refine ⟨_, rfl, _, rfl, d, _, rfl, by rw [← htv]; exact DGet.k (k := kI s') (s5 _ _ hkd), ?_⟩
          have hsw : sw.length < gs'.length := swl.2.2.2
          refine ⟨u, ta, [.int (kk : Nat)], tws, rfl, rfl, upd_same, s5 _ _ (offs_some hta).2.2, szl (by show 1 + tws.length ≤ 10000; omega), fun p H5 s6 hp new => ?_⟩
          have s7 : Same H4 H5 := s5.trans s6
          have n1 : ∀ x ∈ [f', d, o, lv], H4 x ≠ none := fun x hx => by
            simp only [List.mem_cons, List.not_mem_nil, or_false] at hx
            rcases hx with e | e | e | e
            · rw [e]; obtain ⟨_, z, _⟩ := hlf4; exact ne_some z
            · rw [e]; exact ne_some hkd
            · rw [e]; obtain ⟨_, z, _⟩ := hlo4; exact ne_some z
            · rw [e]; exact ne_some hlv4
          have hnew := new H [f', d, o, lv] (fun x hx => same_ne s5 (n1 x hx)) (fun e => by cases e) (fun _ => ⟨fun m => n1 u m hu', sm4.free hu'⟩) (sm4.trans s5)
          have hdi5 := hdi4.mono s7
          have hlo5 := hlo4.mono mI s7
          have hll5 := hll4.mono mI s7
          have hlf5 := hlf4.mono mI s7
          obtain ⟨kvs5, hkd5, hkp5⟩ := id hdi5
          have hwn : rT rI (offs H [f', d, o, lv] H5) (.ref p) (kk :: sw) := ⟨p, _, rfl, by rw [offs_get hnew.1 hnew.2]; exact hp, .cons rfl (pd_mono mI (offs_same s7) ptws)⟩
          have hkl : kvs5.length = gs'.length := pd_len hkp5
          refine ⟨_, rfl, _, rfl, d, _, rfl, DPut.k (k := kI (at2 rows s' kk)) hkd5 (sz (by omega)), ?_⟩
          obtain ⟨fvs5, hf5, pf5⟩ := id hlf5
          have hfl5 : fvs5.length ≤ gs'.length := by
            rw [pd_len pf5]
            have := congrArg List.length hg1
            rw [List.length_map, List.length_append] at this
            omega
          refine ⟨_, rfl, .inl ⟨rfl, fvs5, SqL.of (by rw [upd_ne nfd]; exact hf5)⟩, _, rfl, f', fvs5, _, rfl, rfl, (by rw [upd_ne nfd]; exact hf5), sz (by omega), ?_⟩
          have hdi6 : DI dKm kI H [f', d, o, lv] (upd H5 d (dKm (putK kvs5 (kI (at2 rows s' kk)) (.ref p)))) d (gs' ++ [(at2 rows s' kk, kk :: sw)]) := DI.put hkp5 kI_inj hm hwn (by simp)
          have pf6 : Paired (rI (offs H [f', d, o, lv] (upd H5 d (dKm (putK kvs5 (kI (at2 rows s' kk)) (.ref p)))))) fvs5 fr := by rw [offs_upd (by simp)]; exact pf5
          refine ⟨gs' ++ [(at2 rows s' kk, kk :: sw)], fr ++ [at2 rows s' kk], _, _, rfl, same_upd (same_upd (sm4.trans s7) hd) hHf, ?_, hdi6.other (by simp) nfd, (hlo5.other (by simp) ndo).other (by simp) nfo, (hll5.other (by simp) ndlv).other (by simp) nfl, LI.app pf6 rfl (by simp), ?_, ?_, ?_⟩
          · show (upd (upd H5 d _) f' _) lv = _
            rw [upd_ne nfl.symm, upd_ne ndlv.symm]; exact s7 _ _ hlv4
          · rw [List.map_append, hg1, List.append_assoc]; rfl
          · rw [List.map_append, htk, pushAll_snoc, ← hg2, push_of_not hm]; rfl
          · intro pz hpz
            rw [List.length_append]
            rcases List.mem_append.mp hpz with e | e
            · have := hw4 pz e
              exact ⟨this.1, this.2.1, this.2.2.1, Nat.lt_of_lt_of_le this.2.2.2 (Nat.le_add_right _ _)⟩
            · rw [List.mem_singleton.mp e]
              refine ⟨Wd.cons hkk swl.1, ?_, wf.lt hsn hkk, ?_⟩
              · rw [stR_cons, swl.2.1]
              · show (kk :: sw).length < _
                exact Nat.add_lt_add_right swl.2.2.2 1
      · rintro σ' H4 ⟨gs', fr, x8, x9, rfl, sm4, hlv4, hdi4, hlo4, hll4, hlf4, hg1, hg2, hw4⟩
        refine ⟨gs', fr, _, _, _, rfl, sm4, hdi4, hlo4, hll4, hlf4, hg1, ?_, hw4⟩
        rw [hg2, hgs2, List.range_succ, List.flatMap_append, pushAll_append, List.take_of_length_le (by rw [← pd_len plv3]; exact Nat.le_refl _)]
        simp
    · rintro σ' H3 ⟨gs, fr, x7, x8, x9, rfl, sm3, hdi3, hlo3, hll3, hlf3, hgs1, hgs2, hw3⟩
      obtain ⟨ovs3, ho3, po3⟩ := id hlo3
      obtain ⟨fvs3, hf3, pf3⟩ := id hlf3
      have hinv' := hinv.step (fr := fr) (by rw [← hgs1, hgs2]; rfl)
      have hgl : gs.length ≤ n := bound gs (by rw [hgs1]; exact hinv'.nodup) fun p hp => (hw3 p hp).2.2.1
      have hgl2 : ovs3.length + fvs3.length = gs.length := by
        rw [pd_len po3, pd_len pf3, ← List.length_append, ← hgs1, List.length_map]
      refine ⟨_, rfl, .inl ⟨rfl, ovs3, SqL.of ho3⟩, _, rfl, o, f', ovs3, fvs3, rfl, rfl, ho3, hf3, szl (by omega), ?_⟩
      refine ⟨_, rfl, ?_⟩
      refine ⟨n - (b ++ level).length, ?_, N + 1, f', b ++ level, fr, gs, _, _, _, _, rfl, rfl, same_upd sm3 ho, hHf, nfd.symm, nfo.symm, ?_, ?_, ?_, hgs1, hinv', hw3⟩
      · rw [List.length_append]; omega
      · exact (hdi3.other (by simp) ndo.symm).to (Same.refl _) (offs_shrink (by simp))
      · refine ⟨ovs3 ++ fvs3, upd_same, ?_⟩
        have hsh : Same (offs H [f', d, o, lv] H3) (offs H [d, o, f'] (upd H3 o (.lst (ovs3 ++ fvs3)))) := by
          rw [offs_upd (by simp)]
          exact offs_shrink (by simp)
        exact pd_app (pd_mono mI hsh po3) (pd_mono mI hsh pf3)
      · exact (hlf3.other (by simp) nfo.symm).to mI (Same.refl _) (offs_shrink (by simp))
end
end FA
end
section
namespace FA
open PySem PySem.Spec PyProof.Rows L2 FM
--IMPORT Spec2
theorem sc_kept_rows : FnScope ["rows", "order", "place", "at", "state", "other"] ["rows", "order"] (defScope s_kept_rows) := ⟨rfl, rfl, rfl, by decide +kernel, rfl, by decide +kernel, by decide +kernel⟩
section
variable {P : Program} {w : World} {K : PySem.W.Frag} {mg : Str → Option Value} {base : Heap} {C : Addr}
theorem ok_kept_rows (D : Df K mg "kept_rows" s_kept_rows ["rows", "order"]) (Z : Glo mg) (Mc : Mcl K mg C) :
    Cal P w K mg base "kept_rows" ["rows", "order"] 1 sp_kept_rows := by
  have nd := sc_kept_rows.nd
  refine D.ok sc_kept_rows len2 (fun f cdv A outer s H vs Q E hr h => ?_)
  have hu := hu_of hr
  refine ⟨_, (pss_cons (ps_set (i := 2) nd rfl (Or.inr rfl) (pe_dc (own := [("at", 3), ("state", 4)]) (tt := tYes) rfl nd (kpi_enum K (by rfl) Z.z_enumerate (pa_cons (pv 1) pa_nil)) (blkOk_by (by kernel_rfl)) (fun _ _ _ _ _ => (kpg_tup K (n := 2) rfl (pgs_cons (pg_name (i := 3) nd rfl (Or.inl rfl)) (pgs_cons (pg_name (i := 4) nd rfl (Or.inl rfl)) pgs_nil)))) (fun _ _ _ _ _ => pts_nil) (fun _ _ _ _ _ => (pv 4)) (fun _ _ _ _ _ => (pv 3))))
      (pss_one (ps_ret (pe_lc (own := [("state", 4)]) (tt := tYes) rfl nd (kpi_list K (pv 1)) (blkOk_by (by kernel_rfl)) (fun _ _ _ _ _ => (pg_name (i := 4) nd rfl (Or.inl rfl))) (fun _ _ _ _ _ => pts_nil) (fun _ _ _ _ _ => (pe_lc (own := [("other", 5)]) (tt := tYes) rfl nd (kpi_list K (pe_ix kix_list (pv 0) (pv 4) (fun _ _ => rfl))) (blkOk_by (by kernel_rfl)) (fun _ _ _ _ _ => (pg_name (i := 5) nd rfl (Or.inl rfl))) (fun _ _ _ _ _ => pts_nil) (fun _ _ _ _ _ => (pe_dget hu (pv 2) (pv 5) (fun _ _ => rfl))))))))), ?_⟩
  obtain ⟨_, _, rfl, rows, O, n, L, hrows, ⟨oa, ovs, rfl, hoa, po⟩, wf, hn, hL, hnd, hcl, q⟩ := h
  obtain ⟨ra, rvs, rfl, hra, prow⟩ := id hrows
  have hol : ovs.length = O.length := pd_len po
  have hOn : O.length ≤ n := FM.nodup_lt_length hnd fun s hs => (hcl s hs).1
  refine ⟨_, rfl, oa, ovs, rfl, SqL.of hoa, fun D hD => ?_⟩
  have wk := walk_enum (K := K) (a := oa) (xs := ovs)
  refine dcG (Rb := fun v i => v = iv i) kI_inj O.zipIdx (by simpa using hnd) hD (n := ovs.length) (by simp [hol]) (by simp; exact szl (by omega)) (fun i H hi s => wk.goes i H hi (SqL.of (s _ _ hoa))) (fun H s => wk.stops H (SqL.of (s _ _ hoa))) ?_ ?_
  · intro i x b H1 H0 hi hb s1 nD hy k hk
    obtain ⟨T, u, y, rfl, hT, rfl, e1, e2⟩ := wk.yields i H1 x H0 hi (SqL.of (s1 _ _ hoa)) hy
    cases e1
    have hiO : i < O.length := by omega
    have hbe : b = (O[i], i) := by
      rw [List.getElem?_zipIdx, List.getElem?_eq_getElem hiO] at hb
      simpa using hb.symm
    subst hbe
    have hyv : y = iv O[i] := by
      rw [pd_ints po] at e2
      replace e2 : (O.map iv)[i]? = some y := e2
      rw [List.getElem?_map, List.getElem?_eq_getElem hiO] at e2
      exact (Option.some.inj e2).symm
    subst hyv
    refine ⟨T, _, rfl, SqT.of upd_same, rfl, _, _, rfl, _, _, rfl, rfl, rfl, _, rfl, _, rfl, ?_⟩
    exact hk _ _ (same_new hT) rfl
  intro H1 kvs s1 hkd hkp
  -- the rows
  have hval : ∀ x ∈ O, valV kvs (kI x) = some (iv (O.idxOf x)) := fun x hx => by
    have hi : O.idxOf x < O.length := List.idxOf_lt_length_iff.mpr hx
    have : O.zipIdx[O.idxOf x]? = some (x, O.idxOf x) := by
      rw [List.getElem?_zipIdx, List.getElem?_eq_getElem hi]; simp
    obtain ⟨v, e1, e2⟩ := dp_some hkp kI_inj this (by simpa using hnd)
    rw [e1, e2]
  refine ⟨_, rfl, oa, rfl, ⟨ovs, SqL.of (s1 _ _ hoa)⟩, fun D2 hD2 => ?_⟩
  refine lcL (R := rL rI) (B := H) (mL mI) (keptRows rows O) s1 hD2 (SqL.of (s1 _ _ hoa)) (by simp [keptRows, hol]) (szl (by simp [keptRows]; omega)) ?_ ?_
  · intro i x b H2 hx hb s2 nD2 k hk
    have hiO : i < O.length := by rw [← hol]; exact (List.getElem?_eq_some_iff.mp hx).1
    have hOi : O[i]? = some O[i] := List.getElem?_eq_getElem hiO
    have hxv : x = iv O[i] := by
      rw [pd_ints po, List.getElem?_map, hOi] at hx
      exact (Option.some.inj hx).symm
    subst hxv
    have hsn := hcl _ (List.mem_of_getElem? hOi)
    have hbe : b = (rows.getD O[i] []).map fun x => O.idxOf x := by
      rw [keptRows, List.getElem?_map, hOi] at hb
      exact (Option.some.inj hb).symm
    subst hbe
    obtain ⟨a, vs, rb, ws, ea, ha, hrb, hb2, pws⟩ := rows_get (i := O[i]) hrows (getD_some (d := []) (by rw [wf.len]; exact hsn.1))
    cases ea
    have s02 := s1.trans s2
    refine ⟨rfl, _, rfl, _, rfl, ra, vs, _, _, rfl, rfl, s02 _ _ ha, atI_nat hrb, rb, rfl, ⟨ws, SqL.of (s02 _ _ hb2)⟩, fun D3 hD3 => ?_⟩
    have hwl : ws.length = (rows.getD O[i] []).length := pd_len pws
    have hrow := wf.getRow hsn.1
    refine lcL (R := rI) (B := H) mI ((rows.getD O[i] []).map fun x => O.idxOf x) s02 hD3 (SqL.of (s02 _ _ hb2)) (by simp [hwl]) (szl (by rw [List.length_map, hrow.1]; omega)) ?_ ?_
    · intro j y c H3 hy hc s3 nD3 k2 hk2
      have hjl : j < (rows.getD O[i] []).length := by rw [← hwl]; exact (List.getElem?_eq_some_iff.mp hy).1
      obtain ⟨z, hz⟩ : ∃ z, (rows.getD O[i] [])[j]? = some z := ⟨_, List.getElem?_eq_getElem hjl⟩
      have hyv : y = iv z := by
        rw [pd_ints pws, List.getElem?_map, hz] at hy
        exact (Option.some.inj hy).symm
      subst hyv
      have hcv : c = O.idxOf z := by
        rw [List.getElem?_map, hz] at hc
        exact (Option.some.inj hc).symm
      subst hcv
      have hzO : z ∈ O := hsn.2 _ (List.mem_of_getElem? hz)
      refine ⟨rfl, _, rfl, _, rfl, D, _, rfl, by rw [← hval z hzO]; exact DGet.k (k := kI z) (s3 _ _ (s2 _ _ hkd)), ?_⟩
      exact hk2 _ _ (Same.refl _) rfl
    · intro H3 s3 res
      refine hk _ _ s3 ?_
      obtain ⟨a3, vs3, ea3, h3, p3⟩ := res
      cases ea3
      refine ⟨_, vs3, rfl, ?_, p3⟩
      have := (offs_some h3).2
      rw [offs_get (fun m => nD2 (by rw [← List.mem_singleton.mp m]; exact hD3)) this.1]
      exact this.2
  · intro H2 s2 res
    exact q _ _ (s1.trans s2) res
end
end FA
end
section
namespace FA
open PySem PySem.Spec PyProof.Rows L2 FM
--IMPORT Spec3
theorem sc__numbered : FnScope ["keys", "numbers", "out", "key"] ["keys"] (defScope s__numbered) := ⟨rfl, rfl, rfl, by decide +kernel, rfl, by decide +kernel, by decide +kernel⟩
section
variable {P : Program} {w : World} {K : PySem.W.Frag} {mg : Str → Option Value} {base : Heap} {C : Addr}
theorem ok__numbered (D : Df K mg "_numbered" s__numbered ["keys"]) (Z : Glo mg) (Mc : Mcl K mg C) :
    Cal P w K mg base "_numbered" ["keys"] 1 sp__numbered := by
  have nd := sc__numbered.nd
  refine D.ok sc__numbered len1 (fun f cdv A outer s H vs Q E hr h => ?_)
  have hu := hu_of hr
  refine ⟨_, (pss_cons (ps_set (i := 1) nd rfl (Or.inl rfl) pe_dnewN)
      (pss_cons (ps_set (i := 2) nd rfl (Or.inl rfl) (pe_lst pa_nil))
      (pss_cons (ps_for PassesOwn.never rfl (kpi_list K (pv 0)) (pg_name (i := 3) nd rfl (Or.inl rfl)) (pss_cons (ps_if (pt_cmpR (op_notInN hr.units) (pv 3) (pv 1) rfl) (pss_one (ps_dputN hr.units (pv 1) (pv 3) (pe_callB call_lenN (by rfl) Z.z_len (by decide +kernel) (pa_cons (pv 1) pa_nil)) rfl)) pss_nil)
        (pss_one (ps_expr (kbm K PySem.F.plainAttrs_list PySem.F.slot_list_append PySem.F.type_list_append mt_append (pv 2) (pa_cons (pe_dgetN hr.units (pv 1) (pv 3) (fun _ _ => rfl)) pa_nil))))))
      (pss_one (ps_ret (pv 2)))))), ?_⟩
  obtain ⟨_, rfl, ks, ⟨ka, kvs0, rfl, hka, pk⟩, hn, q⟩ := h
  have hkl : kvs0.length = ks.length := pd_len pk
  intro d hd
  refine ⟨Nat.zero_le _, fun o ho => ?_⟩
  have ndo : d ≠ o := fun e => by rw [← e, upd_same] at ho; cases ho
  rw [upd_ne ndo.symm] at ho
  refine ⟨_, rfl, ka, rfl, ⟨kvs0, SqL.of (same_upd (same_new hd) ho _ _ hka)⟩, ?_⟩
  refine for_it (walk_list (xs := kvs0)) (fun i σ H1 => ∃ (es : List NE) (x3 : Option V), σ = [some (V.ref ka), some (.ref d), some (.ref o), x3] ∧ Same H H1 ∧ H1 d = some (DNo P w d es) ∧ H1 o = some (.lst (((numb ks).take i).map iv)) ∧ es.map (·.1) = ded (ks.take i) ∧ (∀ e ∈ es, NK H (.ref e.2.1) e.1 ∧ e.1.depth ≤ 8) ∧ (∀ j e, es[j]? = some e → e.2.2 = iv j)) ⟨[], none, rfl, same_upd (same_new hd) ho, by rw [upd_ne ndo]; exact upd_same, upd_same, rfl, by simp, by simp⟩ ?_ ?_ ?_
  · rintro i σ H1 _ ⟨_, _, _, s, _⟩
    exact SqL.of (s _ _ hka)
  · rintro i x σ _ H1 hi ⟨es, x3, rfl, s1, hdd, hoo, he1, he2, he3⟩ ⟨rfl, hx⟩
    obtain ⟨k, hk, ⟨⟨b, rfl⟩, nk, hdep⟩⟩ := pd_get pk hx
    have nk1 := nk_mono s1 nk
    have DN1 : DN P w H1 d es := ⟨hdd, fun e he => ⟨nk_mono s1 (he2 e he).1, (he2 e he).2⟩⟩
    have hlook := lookN_ix es 0 k (fun j e h => by rw [Nat.zero_add]; exact he3 j e h)
    have hik : i < ks.length := by rw [← hkl]; exact hi
    have hks : ks[i]? = some ks[i] := List.getElem?_eq_getElem hik
    have hke : ks[i] = k := by rw [hks] at hk; exact Option.some.inj hk
    have htk : ks.take (i + 1) = ks.take i ++ [k] := by rw [List.take_add_one, hks, hke]; rfl
    have hnt : (numb ks).take (i + 1) = (numb ks).take i ++ [(ded ks).idxOf k] := by
      rw [List.take_add_one, numb, List.getElem?_map, hk]; rfl
    have hmem : k ∈ ded (ks.take (i + 1)) := mem_ded.mpr (by rw [htk]; simp)
    have hix : (ded ks).idxOf k = (ded (ks.take (i + 1))).idxOf k := idxOf_prefix (ded_prefix (List.take_prefix _ _)) hmem
    have hel : es.length ≤ i := by
      have := congrArg List.length he1
      rw [List.length_map] at this
      have h2 := FM.ded_len_le (ks.take i)
      rw [List.length_take] at h2
      omega
    have hol : (((numb ks).take i).map iv).length ≤ i := by rw [List.length_map, List.length_take]; omega
    refine ⟨_, rfl, _, rfl, d, k, es, rfl, nk1, ⟨b, rfl⟩, hdep, DN1, _, rfl, ?_⟩
    by_cases hm : k ∈ es.map (·.1)
    · rw [if_pos hm] at hlook
      rw [hlook]
      refine iteF ?_
      refine ⟨_, rfl, .inl ⟨rfl, _, SqL.of hoo⟩, _, rfl, _, rfl, d, k, es, _, rfl, nk1, ⟨b, rfl⟩, hdep, DN1, hlook, o, _, _, rfl, rfl, hoo, sz (by omega), ?_⟩
      have hd2 : ded (ks.take (i + 1)) = ded (ks.take i) := by rw [htk, ded_snoc, push_of_mem (by rw [← he1]; exact hm)]
      refine ⟨es, _, rfl, same_upd s1 ho, by rw [upd_ne ndo]; exact hdd, ?_, by rw [hd2]; exact he1, he2, he3⟩
      rw [upd_same, hnt, List.map_append, hix, hd2, ← he1, Nat.zero_add]
      rfl
    · rw [if_neg hm] at hlook
      rw [hlook]
      refine iteT ?_
      refine ⟨_, rfl, d, es, rfl, DN1, _, rfl, _, rfl, d, b, k, es, rfl, rfl, nk1, hdep, DN1, hlook, sz (by omega), ?_⟩
      have hd2 : ded (ks.take (i + 1)) = ded (ks.take i) ++ [k] := by rw [htk, ded_snoc, push_of_not (by rw [← he1]; exact hm)]
      have s2 : Same H (upd H1 d (DNo P w d (es ++ [(k, b, .int es.length)]))) := same_upd s1 hd
      have he1' : (es ++ [(k, b, V.int es.length)]).map (·.1) = ded (ks.take (i + 1)) := by rw [List.map_append, he1, hd2]; rfl
      have he2' : ∀ e ∈ es ++ [(k, b, V.int es.length)], NK H (.ref e.2.1) e.1 ∧ e.1.depth ≤ 8 := fun e he => by
        rcases List.mem_append.mp he with h | h
        · exact he2 e h
        · rw [List.mem_singleton.mp h]; exact ⟨nk, hdep⟩
      have he3' : ∀ (j : Nat) e, (es ++ [(k, b, V.int es.length)])[j]? = some e → e.2.2 = iv j := fun j e h => by
        by_cases hj : j < es.length
        · rw [List.getElem?_append_left hj] at h; exact he3 j e h
        · rw [List.getElem?_append_right (by omega)] at h
          have hj0 : j - es.length = 0 := by
            have := (List.getElem?_eq_some_iff.mp h).1
            simp at this; omega
          rw [hj0] at h
          have : j = es.length := by omega
          subst this
          simp at h
          rw [← h]; rfl
      have DN2 : DN P w (upd H1 d (DNo P w d (es ++ [(k, b, .int es.length)]))) d (es ++ [(k, b, .int es.length)]) := ⟨upd_same, fun e he => ⟨nk_mono s2 (he2' e he).1, (he2' e he).2⟩⟩
      have hlook2 := lookN_ix (es ++ [(k, b, V.int es.length)]) 0 k (fun j e h => by rw [Nat.zero_add]; exact he3' j e h)
      rw [he1', if_pos hmem] at hlook2
      have hoo2 : (upd H1 d (DNo P w d (es ++ [(k, b, .int es.length)]))) o = some (.lst (((numb ks).take i).map iv)) := by rw [upd_ne ndo.symm]; exact hoo
      refine ⟨_, rfl, .inl ⟨rfl, _, SqL.of hoo2⟩, _, rfl, _, rfl, d, k, _, _, rfl, nk_mono s2 nk, ⟨b, rfl⟩, hdep, DN2, hlook2, o, _, _, rfl, rfl, hoo2, sz (by omega), ?_⟩
      refine ⟨_, _, rfl, same_upd s2 ho, by rw [upd_ne ndo]; exact upd_same, ?_, he1', he2', he3'⟩
      rw [upd_same, hnt, List.map_append, hix, Nat.zero_add]
      rfl
  · rintro σ H1 ⟨es, x3, rfl, s1, hdd, hoo, _⟩
    refine ⟨_, rfl, ?_⟩
    refine q _ _ s1 ⟨o, _, rfl, by rw [offs_get (by simp) ho]; exact hoo, ?_⟩
    rw [List.take_of_length_le (by rw [numb_len, hkl]; exact Nat.le_refl _)]
    exact ints_pd _
end
end FA
end
section
namespace FA
open PySem PySem.Spec PyProof.Rows L2 FM
--IMPORT Spec3
theorem sc__chosen : FnScope ["rows", "parts", "firsts", "part", "state", "other"] ["rows", "parts"] (defScope s__chosen) := ⟨rfl, rfl, rfl, by decide +kernel, rfl, by decide +kernel, by decide +kernel⟩
section
variable {P : Program} {w : World} {K : PySem.W.Frag} {mg : Str → Option Value} {base : Heap} {C : Addr}
theorem ok__chosen (D : Df K mg "_chosen" s__chosen ["rows", "parts"]) (Z : Glo mg) (Mc : Mcl K mg C) :
    Cal P w K mg base "_chosen" ["rows", "parts"] 1 sp__chosen := by
  have nd := sc__chosen.nd
  refine D.ok sc__chosen len2 (fun f cdv A outer s H vs Q E hr h => ?_)
  have hu := hu_of hr
  refine ⟨_, (pss_cons (ps_setLc (i := 2) (own := [("part", 3)]) (tt := tYes) rfl nd rfl rfl (sw_true rfl rfl rfl (by kernel_rfl)) (pi_range1 (by rfl) Z.z_range (pa_cons (pe_op op_add (pe_callB (kmax rfl) (by rfl) Z.z_max (by decide +kernel) (pa_cons (pv 1) pa_nil)) pe_int) pa_nil)) (blkOk_by (by kernel_rfl)) (fun _ _ _ _ _ => (pg_name (i := 3) nd rfl (Or.inl rfl))) (fun _ _ _ _ _ => pts_nil) (fun _ _ _ _ _ => (kbm K PySem.F.plainAttrs_list PySem.F.slot_list_index PySem.F.type_list_index kmt_index (pv 1) (pa_cons (pv 3) pa_nil))))
      (pss_one (ps_ret (pe_tup (pa_cons (pv 2) (pa_cons (pe_lc (own := [("state", 4)]) (tt := tYes) rfl nd (kpi_list K (pv 2)) (blkOk_by (by kernel_rfl)) (fun _ _ _ _ _ => (pg_name (i := 4) nd rfl (Or.inl rfl))) (fun _ _ _ _ _ => pts_nil) (fun _ _ _ _ _ => (pe_lc (own := [("other", 5)]) (tt := tYes) rfl nd (kpi_list K (pe_ix kix_list (pv 0) (pv 4) (fun _ _ => rfl))) (blkOk_by (by kernel_rfl)) (fun _ _ _ _ _ => (pg_name (i := 5) nd rfl (Or.inl rfl))) (fun _ _ _ _ _ => pts_nil) (fun _ _ _ _ _ => (pe_ix kix_list (pv 1) (pv 5) (fun _ _ => rfl)))))) pa_nil)))))), ?_⟩
  obtain ⟨_, _, rfl, rows, n, L, parts, hrows, ⟨pa, pvs, rfl, hpa, pp⟩, wf, hpl, n0, hn, hL, ⟨m, hm⟩, q⟩ := h
  have hpv := pd_ints pp
  subst hpv
  have mc : mcount parts = m := by unfold mcount; rw [hm, List.length_range]
  have mle : m ≤ n := by rw [← mc, ← hpl]; exact mcount_le
  have mem_iff : ∀ c, c ∈ parts ↔ c < m := fun c => by rw [← mem_ded, hm, List.mem_range]
  refine ⟨_, rfl, pa, _, rfl, by rw [hpa, ivs], by rw [List.length_map, hpl]; exact n0, fun mx hmx hub => ?_⟩
  have hmx' : mx = (m : Int) - 1 ∧ 0 < m := by
    obtain ⟨i, hi, rfl⟩ := List.mem_map.mp hmx
    have h1 := (mem_iff i).mp hi
    have := hub _ (List.mem_map.mpr ⟨m - 1, (mem_iff _).mpr (by omega), rfl⟩)
    omega
  obtain ⟨rfl, m0⟩ := hmx'
  refine ⟨_, _, rfl, rfl, _, rfl, by omega, by omega, fun D hD => ?_⟩
  have hmn : ((m : Int) - 1 + 1).toNat = m := by omega
  rw [hmn]
  refine lcR (R := rI) (B := H) mI (firstsOf parts) (Same.refl H) hD (by rw [firstsOf_len, mc]) (szl (by rw [firstsOf_len, mc]; omega)) ?_ ?_
  · intro i b H1 hi hb s1 nD k hk
    rw [Int.zero_add]
    have hb' : b = parts.idxOf i := by
      have := firstsOf_get (parts := parts) (c := i) (by rw [mc]; exact hi)
      rw [← this, List.getD, hb]; rfl
    subst hb'
    refine ⟨rfl, _, rfl, .inl ⟨rfl, _, SqL.of (s1 _ _ hpa)⟩, _, rfl, pa, _, _, _, rfl, rfl, by rw [s1 _ _ hpa, ivs]; rfl, idxOf_map_inj _ (fun a b e => Int.ofNat.inj e) parts i, List.mem_map.mpr ⟨i, (mem_iff i).mpr hi, rfl⟩, ?_⟩
    exact hk _ _ (Same.refl _) rfl
  intro H1 s1 res
  obtain ⟨fa, fvs, efa, hfa, pf⟩ := res
  cases efa
  have hfl : fvs.length = m := by rw [pd_len pf, firstsOf_len, mc]
  have hfvs := pd_ints pf
  have hD1 := (offs_some hfa).2.2
  refine ⟨_, rfl, _, rfl, D, rfl, ⟨fvs, SqL.of hD1⟩, fun D2 hD2 => ?_⟩
  refine lcL (R := rL rI) (B := H) (mL mI) (chosenRows rows parts) s1 hD2 (SqL.of hD1) (by rw [chosen_len, mc, hfl]) (szl (by rw [chosen_len, mc]; omega)) ?_ ?_
  · intro i x b H2 hx hb s2 nD2 k hk
    obtain ⟨s, hs⟩ : ∃ s, (firstsOf parts)[i]? = some s := by
      obtain ⟨y, e, _⟩ := pd_get pf hx
      exact ⟨y, e⟩
    have hxv : x = iv s := by
      rw [hfvs, List.getElem?_map, hs] at hx
      exact (Option.some.inj hx).symm
    subst hxv
    have hbe : b = (rows.getD s []).map fun x => parts.getD x 0 := by
      rw [chosenRows, List.getElem?_map, hs] at hb
      exact (Option.some.inj hb).symm
    subst hbe
    have him : i < m := by
      have := (List.getElem?_eq_some_iff.mp hs).1
      rwa [firstsOf_len, mc] at this
    have hsn : s < n := by
      have h1 := firstsOf_get (parts := parts) (c := i) (by rw [mc]; exact him)
      rw [List.getD, hs] at h1
      have : s = parts.idxOf i := h1
      rw [this, ← hpl]
      exact List.idxOf_lt_length_iff.mpr ((mem_iff i).mpr him)
    obtain ⟨a, vs, rb, ws, ea, ha, hrb, hb2, pws⟩ := rows_get (i := s) hrows (getD_some (d := []) (by rw [wf.len]; exact hsn))
    subst ea
    have s02 := s1.trans s2
    refine ⟨rfl, _, rfl, _, rfl, a, vs, _, _, rfl, rfl, s02 _ _ ha, atI_nat hrb, rb, rfl, ⟨ws, SqL.of (s02 _ _ hb2)⟩, fun D3 hD3 => ?_⟩
    have hwl : ws.length = (rows.getD s []).length := pd_len pws
    have hrow := wf.getRow hsn
    refine lcL (R := rI) (B := H) mI ((rows.getD s []).map fun x => parts.getD x 0) s02 hD3 (SqL.of (s02 _ _ hb2)) (by simp [hwl]) (szl (by rw [List.length_map, hrow.1]; omega)) ?_ ?_
    · intro j y c H3 hy hc s3 nD3 k2 hk2
      have hjl : j < (rows.getD s []).length := by rw [← hwl]; exact (List.getElem?_eq_some_iff.mp hy).1
      obtain ⟨z, hz⟩ : ∃ z, (rows.getD s [])[j]? = some z := ⟨_, List.getElem?_eq_getElem hjl⟩
      have hyv : y = iv z := by
        rw [pd_ints pws, List.getElem?_map, hz] at hy
        exact (Option.some.inj hy).symm
      subst hyv
      have hcv : c = parts.getD z 0 := by
        rw [List.getElem?_map, hz] at hc
        exact (Option.some.inj hc).symm
      subst hcv
      have hzn : z < n := hrow.2 _ (List.mem_of_getElem? hz)
      refine ⟨rfl, _, rfl, _, rfl, pa, _, _, _, rfl, rfl, s3 _ _ (s02 _ _ hpa), atI_nat (v := iv (parts.getD z 0)) (by rw [List.getElem?_map, getD_some (d := 0) (by rw [hpl]; exact hzn)]; rfl), ?_⟩
      exact hk2 _ _ (Same.refl _) rfl
    · intro H3 s3 res
      refine hk _ _ s3 ?_
      obtain ⟨a3, vs3, ea3, h3, p3⟩ := res
      cases ea3
      refine ⟨_, vs3, rfl, ?_, p3⟩
      have := (offs_some h3).2
      rw [offs_get (fun m => nD2 (by rw [← List.mem_singleton.mp m]; exact hD3)) this.1]
      exact this.2
  · intro H2 s2 res
    refine ⟨by show 2 ≤ sizeLine; decide, fun p hp => ?_⟩
    have s3 : Same H2 (upd H2 p (.tup [.ref D, .ref D2])) := same_new hp
    refine q _ _ ((s1.trans s2).trans s3) ⟨p, .ref D, .ref D2, rfl, ?_, ?_, ?_⟩
    · rw [offs_get (by simp) ((s1.trans s2).free hp)]; exact upd_same
    · exact mL mI _ _ _ _ (offs_same (s2.trans s3)) ⟨D, fvs, rfl, hfa, pf⟩
    · exact mRows _ _ _ _ (offs_same s3) res
end
end FA
end
section
namespace FA
open PySem PySem.Spec PyProof.Rows L2 FM
--IMPORT Spec5
theorem sc_is_alphabet : FnScope ["thing", "letter"] ["thing"] (defScope s_is_alphabet) := ⟨rfl, rfl, rfl, by decide +kernel, rfl, by decide +kernel, by decide +kernel⟩
section
variable {P : Program} {w : World} {K : PySem.W.Frag} {mg : Str → Option Value} {base : Heap} {C : Addr}
theorem ok_is_alphabet (D : Df K mg "is_alphabet" s_is_alphabet ["thing"]) (Z : Glo mg) (Mc : Mcl K mg C) :
    Cal P w K mg base "is_alphabet" ["thing"] 1 sp_is_alphabet := by
  have nd := sc_is_alphabet.nd
  refine D.ok sc_is_alphabet len1 (fun f cdv A outer s H vs Q E hr h => ?_)
  have hu := hu_of hr
  refine ⟨_, (pss_cons (ps_if (PW.pt (pw_or (pt_not (pt_val (kisi K (by rfl) Z.z_isinstance (by decide +kernel) (pa_cons (pv 0) (pa_cons (pe_bltn (v := .ty "str") (by rfl) Z.z_str (by decide +kernel) rfl) pa_nil))))) (pw_or1 (pt_not (pt_chain op_le op_le pe_int (pe_callB klen_str (by rfl) Z.z_len (by decide +kernel) (pa_cons (pv 0) pa_nil)) (pe_glob (v := .int 5) (by rfl) Z.c_MOST_LETTERS.choose_spec ⟨_, rfl⟩)))))) (pss_one (ps_ret pe_bl)) pss_nil)
      (pss_one (ps_ret (pe_callB (kall rfl) (by rfl) Z.z_all (by decide +kernel) (pa_cons (pe_lc (own := [("letter", 1)]) (tt := tYes) rfl nd (pi_str (pv 0)) (blkOk_by (by kernel_rfl)) (fun _ _ _ _ _ => (pg_name (i := 1) nd rfl (Or.inl rfl))) (fun _ _ _ _ _ => pts_nil) (fun _ _ _ _ _ => (pe_and (pe_cmpR op_in_sign (pv 1) (pe_glob (v := .str "abcdefghijklmnopqrstuvwxyz") (by rfl) Z.c_LETTERS.choose_spec ⟨_, rfl⟩) rfl) (pe_one (pe_cmpR op_eq (kbm K PySem.F.plainAttrs_str PySem.F.slot_str_count PySem.F.type_str_count mt_count (pv 0) (pa_cons (pv 1) pa_nil)) pe_int (nomark _)))))) pa_nil))))), ?_⟩
  obtain ⟨_, rfl, al, rfl, hal, q⟩ := h
  have hl := al_len _ hal
  refine ⟨_, rfl, V.str al, .ty "str", .type "str", .type "str", true, rfl, .ty "str", .base (.str al), kit_ty rfl, true, rfl, ?_⟩
  refine ifF rfl ?_
  refine ⟨_, rfl, al, rfl, szl (by omega), 1, (al.length : Nat), rfl, rfl, _, rfl, ?_⟩
  refine ifT (decide_eq_true (by omega)) ?_
  refine ⟨(al.length : Nat), 5, rfl, rfl, _, rfl, ?_⟩
  refine ifF (by rw [decide_eq_true (by omega)]; rfl) ?_
  have wk := walk_str (z := al)
  refine ⟨_, rfl, _, rfl, fun D hD => ?_⟩
  refine lcG (R := rBl) (B := H) mB (List.replicate al.cps.size true) (Same.refl H) hD (n := al.cps.size) (by simp) (szl (by rw [List.length_replicate]; exact Nat.le_trans hl.2 (by decide))) (fun i H1 hi s => wk.goes i H1 hi trivial) (fun H1 s => wk.stops H1 trivial) ?_ ?_
  · intro i x b H1 H0 hi hb s1 nD hy k hk
    obtain ⟨rfl, c, hc, rfl⟩ := wk.yields i H1 x H0 hi trivial hy
    have hbe : b = true := by
      have := List.mem_of_getElem? hb
      exact (List.mem_replicate.mp this).2
    subst hbe
    have hc' : al.cps.toList[i]? = some c := by rw [Array.getElem?_toList]; exact hc
    have hil : i < al.length := hi
    have hcl : c = ltr al i := by rw [ltr_at hil] at hc'; exact (Option.some.inj hc').symm
    refine ⟨wp1, _, rfl, c, _, rfl, rfl, _, rfl, ?_⟩
    refine ifT (decide_eq_true (al_let al hal c (List.mem_of_getElem? hc'))) ?_
    refine ⟨_, rfl, rfl, _, rfl, al, _, rfl, rfl, ?_⟩
    rw [hcl, al_count al hal i (List.mem_range.mpr hil)]
    refine ⟨rfl, ?_⟩
    exact hk _ _ (Same.refl _) rfl
  · intro H1 s1 res
    obtain ⟨_, bvs, e, hb, pb⟩ := res
    cases e
    refine ⟨D, _, rfl, by rw [(offs_some hb).2.2, pd_bls pb], ?_⟩
    rw [all_true]
    exact q _ s1
end
end FA
end
section
namespace FA
open PySem PySem.Spec PyProof.Rows L2 FM
--IMPORT Spec5
theorem sc_is_word : FnScope ["alphabet", "thing", "letter"] ["alphabet", "thing"] (defScope s_is_word) := ⟨rfl, rfl, rfl, by decide +kernel, rfl, by decide +kernel, by decide +kernel⟩
section
variable {P : Program} {w : World} {K : PySem.W.Frag} {mg : Str → Option Value} {base : Heap} {C : Addr}
theorem ok_is_word (D : Df K mg "is_word" s_is_word ["alphabet", "thing"]) (Z : Glo mg) (Mc : Mcl K mg C) :
    Cal P w K mg base "is_word" ["alphabet", "thing"] 1 sp_is_word := by
  have nd := sc_is_word.nd
  refine D.ok sc_is_word len2 (fun f cdv A outer s H vs Q E hr h => ?_)
  have hu := hu_of hr
  refine ⟨_, (pss_one (ps_ret (pe_and (kisi K (by rfl) Z.z_isinstance (by decide +kernel) (pa_cons (pv 1) (pa_cons (pe_bltn (v := .ty "str") (by rfl) Z.z_str (by decide +kernel) rfl) pa_nil))) (pe_one (pe_callB (kall rfl) (by rfl) Z.z_all (by decide +kernel) (pa_cons (pe_lc (own := [("letter", 2)]) (tt := tYes) rfl nd (pi_str (pv 1)) (blkOk_by (by kernel_rfl)) (fun _ _ _ _ _ => (pg_name (i := 2) nd rfl (Or.inl rfl))) (fun _ _ _ _ _ => pts_nil) (fun _ _ _ _ _ => (pe_cmpR op_in_sign (pv 2) (pv 0) rfl))) pa_nil)))))), ?_⟩
  obtain ⟨_, _, rfl, al, t, n, rfl, rfl, hg, hn, q⟩ := h
  refine ⟨_, rfl, V.str t, .ty "str", .type "str", .type "str", true, rfl, .ty "str", .base (.str t), kit_ty rfl, true, rfl, ?_⟩
  refine ifT rfl ?_
  have hsz : t.cps.size = n := hg.1
  have wk := walk_str (z := t)
  refine ⟨_, rfl, _, rfl, fun D hD => ?_⟩
  refine lcG (R := rBl) (B := H) mB (List.replicate t.cps.size true) (Same.refl H) hD (n := t.cps.size) (by simp) (szl (by rw [List.length_replicate]; omega)) (fun i H1 hi s => wk.goes i H1 hi trivial) (fun H1 s => wk.stops H1 trivial) ?_ ?_
  · intro i x b H1 H0 hi hb s1 nD hy k hk
    obtain ⟨rfl, c, hc, rfl⟩ := wk.yields i H1 x H0 hi trivial hy
    have hbe : b = true := (List.mem_replicate.mp (List.mem_of_getElem? hb)).2
    subst hbe
    have hc' : t.cps.toList[i]? = some c := by rw [Array.getElem?_toList]; exact hc
    refine ⟨wp1, _, rfl, _, rfl, c, al, rfl, rfl, ?_⟩
    rw [decide_eq_true (hg.2 c (List.mem_of_getElem? hc'))]
    exact hk _ _ (Same.refl _) rfl
  · intro H1 s1 res
    obtain ⟨_, bvs, e, hb, pb⟩ := res
    cases e
    refine ⟨D, _, rfl, by rw [(offs_some hb).2.2, pd_bls pb], ?_⟩
    rw [all_true]
    exact q _ s1
end
end FA
end
section
namespace FA
open PySem PySem.Spec PyProof.Rows L2 FM
--IMPORT Spec5
theorem sc_codes : FnScope ["alphabet", "word", "letter"] ["alphabet", "word"] (defScope s_codes) := ⟨rfl, rfl, rfl, by decide +kernel, rfl, by decide +kernel, by decide +kernel⟩
section
variable {P : Program} {w : World} {K : PySem.W.Frag} {mg : Str → Option Value} {base : Heap} {C : Addr}
theorem ok_codes (D : Df K mg "codes" s_codes ["alphabet", "word"]) (Z : Glo mg) (Mc : Mcl K mg C) :
    Cal P w K mg base "codes" ["alphabet", "word"] 1 sp_codes := by
  have nd := sc_codes.nd
  refine D.ok sc_codes len2 (fun f cdv A outer s H vs Q E hr h => ?_)
  have hu := hu_of hr
  refine ⟨_, (pss_one (ps_ret (pe_lc (own := [("letter", 2)]) (tt := tYes) rfl nd (pi_str (pv 1)) (blkOk_by (by kernel_rfl)) (fun _ _ _ _ _ => (pg_name (i := 2) nd rfl (Or.inl rfl))) (fun _ _ _ _ _ => pts_nil) (fun _ _ _ _ _ => (kbmS K PySem.F.plainAttrs_str PySem.F.slot_str_index PySem.F.type_str_index (mt_indexX rfl takes0) (pv 0) (pa_cons (pv 2) pa_nil)))))), ?_⟩
  obtain ⟨_, _, rfl, al, w, rfl, rfl, hal, hw, hl, q⟩ := h
  have wk := walk_str (z := spell al w)
  have hsz : (spell al w).cps.size = w.length := spell_len al w
  refine ⟨_, rfl, _, rfl, fun D hD => ?_⟩
  refine lcG (R := rI) (B := H) mI w (Same.refl H) hD (n := (spell al w).cps.size) hsz.symm (szl hl) (fun i H1 hi s => wk.goes i H1 hi trivial) (fun H1 s => wk.stops H1 trivial) ?_ ?_
  · intro i x b H1 H0 hi hb s1 nD hy k hk
    obtain ⟨rfl, c, hc, rfl⟩ := wk.yields i H1 x H0 hi trivial hy
    obtain ⟨k0, hk0, rfl⟩ := spell_get hc
    rw [hb] at hk0
    cases hk0
    have hbl := hw b (List.mem_of_getElem? hb)
    refine ⟨wp1, _, rfl, rfl, _, rfl, al, _, rfl, rfl, fun j hj => ?_, fun hn => ?_⟩
    · rw [al_ix al hal b (List.mem_range.mpr hbl)] at hj
      cases hj
      exact hk _ _ (Same.refl _) rfl
    · rw [al_ix al hal b (List.mem_range.mpr hbl)] at hn
      cases hn
  · intro H1 s1 res
    exact q _ _ s1 res
end
end FA
end
section
namespace FA
open PySem PySem.Spec PyProof.Rows L2 FM
--IMPORT Spec5
theorem sc_spelled : FnScope ["alphabet", "indexes", "k"] ["alphabet", "indexes"] (defScope s_spelled) := ⟨rfl, rfl, rfl, by decide +kernel, rfl, by decide +kernel, by decide +kernel⟩
section
variable {P : Program} {w : World} {K : PySem.W.Frag} {mg : Str → Option Value} {base : Heap} {C : Addr}
theorem ok_spelled (D : Df K mg "spelled" s_spelled ["alphabet", "indexes"]) (Z : Glo mg) (Mc : Mcl K mg C) :
    Cal P w K mg base "spelled" ["alphabet", "indexes"] 1 sp_spelled := by
  have nd := sc_spelled.nd
  refine D.ok sc_spelled len2 (fun f cdv A outer s H vs Q E hr h => ?_)
  have hu := hu_of hr
  refine ⟨_, (pss_one (ps_ret (kjoin K pe_str (pe_lc (own := [("k", 2)]) (tt := tYes) rfl nd (kpi_tup K (pv 1)) (blkOk_by (by kernel_rfl)) (fun _ _ _ _ _ => (pg_name (i := 2) nd rfl (Or.inl rfl))) (fun _ _ _ _ _ => pts_nil) (fun _ _ _ _ _ => (pe_ix ix_str (pv 0) (pv 2) (fun _ _ => rfl))))))), ?_⟩
  obtain ⟨_, _, rfl, al, w, rfl, ⟨ta, tvs, rfl, hta, pt⟩, hal, hw, hl, q⟩ := h
  refine ⟨⟨_, rfl⟩, _, rfl, ta, rfl, ⟨tvs, SqT.of hta⟩, fun D hD => ?_⟩
  refine lcT (R := rCh) (B := H) mCh (w.map (ltr al)) (Same.refl H) hD hta (by rw [List.length_map, pd_len pt]) (szl (by rw [List.length_map]; exact hl)) ?_ ?_
  · intro i x b H1 hx hb s1 nD k hk
    obtain ⟨n, hn, rfl⟩ := pd_get pt hx
    have hbe : b = ltr al n := by rw [List.getElem?_map, hn] at hb; exact (Option.some.inj hb).symm
    subst hbe
    have hnl := hw n (List.mem_of_getElem? hn)
    have h2 := (al_len _ hal).2
    refine ⟨wp1, _, rfl, _, rfl, al, (n : Nat), _, rfl, rfl, szl (by omega), atI_nat (ltr_at hnl), ?_⟩
    exact hk _ _ (Same.refl _) rfl
  · intro H1 s1 res
    obtain ⟨_, cvs, e, hc, pc⟩ := res
    cases e
    have hcv := pd_chs pc
    refine ⟨_, D, (w.map (ltr al)).map fun c => (⟨#[c]⟩ : Str), rfl, rfl, .inl (SqL.of (by rw [← hcv]; exact (offs_some hc).2.2)), ?_, ?_⟩
    · rw [signs_len, List.length_map, List.length_map]
      have : ("" : Str).length = 0 := by decide +kernel
      rw [this]; omega
    · rw [join_signs]
      exact q _ s1
end
end FA
end
section
namespace FA
open PySem PySem.Spec PyProof.Rows L2 FM
--IMPORT Spec6
theorem sc_pairs_behind : FnScope ["one", "two", "start", "found", "order", "at", "a", "b", "k", "other", "pair"] ["one", "two", "start"] (defScope s_pairs_behind) := ⟨rfl, rfl, rfl, by decide +kernel, rfl, by decide +kernel, by decide +kernel⟩
section
variable {P : Program} {w : World} {K : PySem.W.Frag} {mg : Str → Option Value} {base : Heap} {C : Addr}
theorem ok_pairs_behind (D : Df K mg "pairs_behind" s_pairs_behind ["one", "two", "start"]) (Z : Glo mg) (Mc : Mcl K mg C) :
    Cal P w K mg base "pairs_behind" ["one", "two", "start"] 1 (sp_pairs_behind C) := by
  have nd := sc_pairs_behind.nd
  refine D.ok sc_pairs_behind len3 (fun f cdv A outer s H vs Q E hr h => ?_)
  have hu := hu_of hr
  refine ⟨_, (pss_cons (ps_set (i := 3) nd rfl (Or.inr rfl) (pe_dispT hu (pv 2) (pe_tup pa_nil)))
      (pss_cons (ps_set (i := 4) nd rfl (Or.inl rfl) (pe_lst (pa_cons (pv 2) pa_nil)))
      (pss_cons (ps_set (i := 5) nd rfl (Or.inl rfl) pe_int)
      (pss_cons (ps_while PassesOwn.never (pt_cmpR op_lt (pv 5) (pe_callB klen_seq (by rfl) Z.z_len (by decide +kernel) (pa_cons (pv 4) pa_nil)) (nomark _)) (pss_cons (ps_asg (pe_ix kix_list (pv 4) (pv 5) (fun _ _ => rfl)) (kpg_tup K (n := 2) rfl (pgs_cons (pg_name (i := 6) nd rfl (Or.inl rfl)) (pgs_cons (pg_name (i := 7) nd rfl (Or.inl rfl)) pgs_nil))))
        (pss_cons (ps_for PassesOwn.never rfl (kpi_enz K (by rfl) Z.z_zip (by rfl) Z.z_enumerate (pa_cons (pe_ix kix_list (kfld K (pv 0) rfl) (pv 6) (fun _ _ => rfl)) (pa_cons (pe_ix kix_list (kfld K (pv 1) rfl) (pv 7) (fun _ _ => rfl)) pa_nil))) (kpg_tup K (n := 2) rfl (pgs_cons (pg_name (i := 8) nd rfl (Or.inl rfl)) (pgs_cons (pg_name (i := 9) nd rfl (Or.inl rfl)) pgs_nil))) (pss_one (ps_if (pt_cmp (pc_dnotin hu (pv 9) (pv 3))) (pss_cons (ps_dput hu (pv 3) (pv 9) (pe_op kcatA (pe_dget hu (pv 3) (pe_tup (pa_cons (pv 6) (pa_cons (pv 7) pa_nil))) (fun _ _ => rfl)) (pe_tup (pa_cons (pv 8) pa_nil))) rfl)
            (pss_one (ps_expr (kbm K PySem.F.plainAttrs_list PySem.F.slot_list_append PySem.F.type_list_append mt_append (pv 4) (pa_cons (pv 9) pa_nil))))) pss_nil)))
        (pss_one (ps_aug (i := 5) nd rfl (Or.inl rfl) pe_int iop_add)))))
      (pss_one (ps_ret (pe_lc (own := [("pair", 10)]) (tt := tYes) rfl nd (kpi_list K (pv 4)) (blkOk_by (by kernel_rfl)) (fun _ _ _ _ _ => (pg_name (i := 10) nd rfl (Or.inl rfl))) (fun _ _ _ _ _ => pts_nil) (fun _ _ _ _ _ => (pe_tup (pa_cons (pv 10) (pa_cons (pe_dget hu (pv 3) (pv 10) (fun _ _ => rfl)) pa_nil))))))))))), ?_⟩
  obtain ⟨_, _, _, rfl, M, N, p0, ⟨m1, dx1, l1, r1, t1, rfl, hm1, hl1, hr1, ht1⟩, ⟨m2, dx2, l2, r2, t2, rfl, hm2, hl2, hr2, ht2⟩, ok, ok2, hrd, ⟨sa, _, _, rfl, hsa, rfl, rfl⟩, hp1, hp2, q⟩ := h
  obtain ⟨la, lvs, rfl, hla, pla⟩ := id hl1
  obtain ⟨lb, lvs2, rfl, hlb, plb⟩ := id hl2
  have wf1 := ok.wfL
  have wf2 := ok2.wfL
  rw [← hrd] at wf2
  have bL := ok.bL
  have bL2 := ok2.bL
  generalize hnx : nxP M.L N.L = nx
  generalize hKK : M.rd.length = L at *
  have hL : L ≤ 5 := by rw [← hKK]; exact ok.k
  let Bs : Hp := fun b => if b = sa then none else H b
  have sB : Same Bs H := fun b o h => by
    by_cases e : b = sa
    · rw [show Bs b = none from if_pos e] at h; cases h
    · rwa [show Bs b = H b from if_neg e] at h
  have bsn : ∀ {b : Addr}, H b = none → Bs b = none := fun hb => sB.free hb
  have bsa : Bs sa = none := if_pos rfl
  have hstart : ∀ (ds : List Addr) (H1 : Hp), Same H H1 → sa ∉ ds → rPr (offs Bs ds H1) (.ref sa) p0 := fun ds H1 s n => ⟨sa, _, _, rfl, by rw [offs_get n bsa]; exact s _ _ hsa, rfl, rfl⟩
  intro d hd
  refine ⟨_, rfl, Nat.zero_le _, fun t ht => ?_⟩
  have ndt : d ≠ t := fun e => by rw [← e, upd_same] at ht; cases ht
  rw [upd_ne ndt.symm] at ht
  have nds : d ≠ sa := fun e => by rw [e, hsa] at hd; cases hd
  have nts : t ≠ sa := fun e => by rw [e, hsa] at ht; cases ht
  refine ⟨_, _, rfl, by rw [upd_ne ndt]; exact upd_same, sa, kII p0, rfl, by rw [upd_ne nts.symm, upd_ne nds.symm]; exact hsa, ?_⟩
  refine ⟨_, rfl, by show 1 ≤ sizeLine; decide, fun o ho => ?_⟩
  have ndo : d ≠ o := fun e => by rw [← e, upd_same] at ho; cases ho
  rw [upd_ne ndo.symm] at ho
  have nto : t ≠ o := fun e => by rw [← e, upd_same] at ho; cases ho
  rw [upd_ne nto.symm, upd_ne ndo.symm] at ho
  have nso : sa ≠ o := fun e => by rw [← e, hsa] at ho; cases ho
  have nsd : sa ∉ [d, o] := by simp [nds.symm, nso]
  refine ⟨fun m σ H1 => ∃ (i : Nat) (fs : List ((Nat × Nat) × List Nat)) (x6 x7 x8 x9 : Option V), σ = [some (V.ref m1), some (.ref m2), some (.ref sa), some (.ref d), some (.ref o), some (.int (i : Nat)), x6, x7, x8, x9, none] ∧ m = 1600 - i ∧ Same H H1 ∧ DI dTm kII Bs [d, o] H1 d fs ∧ LI rPr Bs [d, o] H1 o (fs.map (·.1)) ∧ QInv (fun s => (List.range L).map (nx s)) p0 i (fs.map (·.1)) ∧ i ≤ fs.length ∧ (∀ p ∈ fs, Wd L p.2 ∧ stL nx p0 p.2 = p.1 ∧ (p.1.1 < M.L.length ∧ p.1.2 < N.L.length) ∧ p.2.length < fs.length), ⟨1600, 0, [(p0, [])], none, none, none, none, rfl, rfl, ?_, ?_, ?_, QInv.start _ _, Nat.zero_le _, ?_⟩, ?_⟩
  · exact same_upd (same_upd (same_upd (same_new hd) ht) hd) ho
  · refine ⟨[(kII p0, .ref t)], by rw [upd_ne ndo]; exact upd_same, .cons ⟨rfl, t, [], rfl, ?_, .nil⟩ .nil⟩
    rw [offs_get (by simp [ndt.symm, nto]) (bsn ht), upd_ne nto, upd_ne ndt.symm, upd_same]
  · exact ⟨_, upd_same, .cons (hstart _ _ (same_upd (same_upd (same_upd (same_new hd) ht) hd) ho) nsd) .nil⟩
  · intro p hp
    rw [List.mem_singleton] at hp
    subst hp
    exact ⟨Wd.nil, rfl, ⟨hp1, hp2⟩, by show 0 < 1; decide⟩
  rintro m σ H1 ⟨i, fs, x6, x7, x8, x9, rfl, rfl, same, hdi, hli, hq, hi, hw⟩
  have few : ∀ gs : List ((Nat × Nat) × List Nat), (gs.map (·.1)).Nodup → (∀ p ∈ gs, p.1.1 < M.L.length ∧ p.1.2 < N.L.length) → gs.length ≤ 1600 := fun gs h1 h2 => by
    have := pairs_few h1 bL bL2 fun x hx => by
      obtain ⟨p, hp, rfl⟩ := List.mem_map.mp hx
      exact h2 p hp
    simpa using this
  have hfl : fs.length ≤ 1600 := few fs hq.nodup fun p hp => (hw p hp).2.2.1
  obtain ⟨ovs, ho1, po1⟩ := id hli
  have hol : ovs.length = fs.length := by rw [pd_len po1, List.length_map]
  refine ⟨_, rfl, _, rfl, o, ovs, rfl, .inl ho1, (i : Nat), (ovs.length : Nat), rfl, rfl, _, rfl, ?_⟩
  by_cases hlt : i < fs.length
  · refine ifT (decide_eq_true (by omega)) ?_
    obtain ⟨⟨s, sw⟩, hs⟩ : ∃ p, fs[i]? = some p := ⟨_, List.getElem?_eq_getElem hlt⟩
    have hso : (fs.map (·.1))[i]? = some s := by rw [List.getElem?_map, hs]; rfl
    obtain ⟨hsn, hsm⟩ := (hw _ (List.mem_of_getElem? hs)).2.2.1
    obtain ⟨v, hv1, sp, _, _, rfl, hsp, rfl, rfl⟩ := pd_get' po1 hso
    refine ⟨_, fun _ _ h => h, _, rfl, _, rfl, o, ovs, _, _, rfl, rfl, ho1, atI_nat hv1, sp, _, rfl, SqT.of (offs_some hsp).2.2, rfl, _, _, rfl, _, _, rfl, rfl, ?_⟩
    -- the rows
    obtain ⟨a1, rvs1, rb1, ws1, ea1, ha1, hrb1, hb1, pws1⟩ := rows_get (i := s.1) hl1 (getD_some (d := []) hsn)
    cases ea1
    obtain ⟨a2, rvs2, rb2, ws2, ea2, ha2, hrb2, hb2, pws2⟩ := rows_get (i := s.2) hl2 (getD_some (d := []) hsm)
    cases ea2
    have ews1 := pd_ints pws1
    have ews2 := pd_ints pws2
    have hrow1 := wf1.getRow hsn
    have hrow2 := wf2.getRow hsm
    have hwl1 : ws1.length = L := by rw [ews1, List.length_map]; exact hrow1.1
    have hwl2 : ws2.length = L := by rw [ews2, List.length_map]; exact hrow2.1
    refine ⟨_, rfl, m1, C, dx1, _, _, rfl, same _ _ hm1, Mc.cl, Mc.n3, mf_left _ _ _ _ _, _, rfl, la, rvs1, _, _, rfl, rfl, same _ _ ha1, atI_nat hrb1, _, rfl, m2, C, dx2, _, _, rfl, same _ _ hm2, Mc.cl, Mc.n3, mf_left _ _ _ _ _, _, rfl, lb, rvs2, _, _, rfl, rfl, same _ _ ha2, atI_nat hrb2, rb1, rb2, ws1, ws2, rfl, SqL.of (same _ _ hb1), SqL.of (same _ _ hb2), ?_⟩
    refine for_it (walk_enz (xs := ws1) (ys := ws2) (n := L) hwl1 hwl2) (fun j σ' H2 => ∃ (fs' : List ((Nat × Nat) × List Nat)) (x8 x9 : Option V), σ' = [some (V.ref m1), some (.ref m2), some (.ref sa), some (.ref d), some (.ref o), some (.int (i : Nat)), some (.int (s.1 : Nat)), some (.int (s.2 : Nat)), x8, x9, none] ∧ Same H H2 ∧ DI dTm kII Bs [d, o] H2 d fs' ∧ LI rPr Bs [d, o] H2 o (fs'.map (·.1)) ∧ fs'.map (·.1) = pushAll (fs.map (·.1)) (((List.range L).map (nx s)).take j) ∧ (∃ r, fs' = fs ++ r) ∧ (∀ p ∈ fs', Wd L p.2 ∧ stL nx p0 p.2 = p.1 ∧ (p.1.1 < M.L.length ∧ p.1.2 < N.L.length) ∧ p.2.length < fs'.length)) ⟨fs, x8, x9, rfl, same, hdi, hli, rfl, ⟨[], by simp⟩, hw⟩ ?_ ?_ ?_
    · rintro j σ' H2 _ ⟨fs', x8, x9, _, s2, _⟩
      exact ⟨SqL.of (s2 _ _ hb1), SqL.of (s2 _ _ hb2)⟩
    · rintro j x σ' H2 H2' hjL ⟨fs', x8, x9, rfl, s2, di2, li2, hpa, ⟨r, hr'⟩, hw2⟩ ⟨T, e, u, y, rfl, hT, he, neT, rfl, e1, hy⟩
      have hux : u = iv (at2 M.L s.1 j) := by
        rw [ews1, List.getElem?_map, getD_some (d := 0) (by rw [hrow1.1]; exact hjL)] at e1
        exact (Option.some.inj e1).symm
      have hyy : y = iv (at2 N.L s.2 j) := by
        rw [ews2, List.getElem?_map, getD_some (d := 0) (by rw [hrow2.1]; exact hjL)] at hy
        exact (Option.some.inj hy).symm
      subst hux hyy
      have hnxs : nx s j = (at2 M.L s.1 j, at2 N.L s.2 j) := by rw [← hnx]; rfl
      have hry : ((List.range L).map (nx s))[j]? = some (nx s j) := by rw [List.getElem?_map, List.getElem?_range hjL]; rfl
      have s3 : Same H2 (upd (upd H2 T (.tup [iv (at2 M.L s.1 j), iv (at2 N.L s.2 j)])) e (.tup [.int (j : Nat), .ref T])) := same_upd (same_new hT) he
      have hT3 : (upd (upd H2 T (.tup [iv (at2 M.L s.1 j), iv (at2 N.L s.2 j)])) e (.tup [.int (j : Nat), .ref T])) T = some (.tup [iv (at2 M.L s.1 j), iv (at2 N.L s.2 j)]) := by rw [upd_ne neT.symm]; exact upd_same
      have he3 : (upd (upd H2 T (.tup [iv (at2 M.L s.1 j), iv (at2 N.L s.2 j)])) e (.tup [.int (j : Nat), .ref T])) e = some (.tup [.int (j : Nat), .ref T]) := upd_same
      have nT : T ∉ [d, o] := fun mm => by
        rcases List.mem_cons.mp mm with z | z
        · obtain ⟨_, zz, _⟩ := di2; rw [← z, hT] at zz; cases zz
        · obtain ⟨_, zz, _⟩ := li2; rw [← List.mem_singleton.mp z, hT] at zz; cases zz
      have bT : Bs T = none := bsn (s2.free hT)
      have di3 := di2.mono s3
      have li3 := li2.mono mPr s3
      have s4 := s2.trans s3
      refine ⟨e, _, rfl, SqT.of he3, rfl, _, _, rfl, _, _, rfl, rfl, ?_⟩
      generalize hH3 : upd (upd H2 T (.tup [iv (at2 M.L s.1 j), iv (at2 N.L s.2 j)])) e (.tup [.int (j : Nat), .ref T]) = H3 at s3 di3 li3 s4 hT3 he3
      clear hH3
      have htk : ((List.range L).map (nx s)).take (j + 1) = ((List.range L).map (nx s)).take j ++ [nx s j] := by rw [List.take_add_one, hry]; rfl
      obtain ⟨kvs, hkd, hkp⟩ := id di3
      have hnd : (fs'.map (·.1)).Nodup := by rw [hpa]; exact FM.nodup_pushAll hq.nodup
      have hTk : H3 T = some (.tup ((kII (nx s j)).map kV)) := by rw [hT3, hnxs]; rfl
      refine ⟨_, rfl, _, rfl, d, valV kvs (kII (nx s j)), rfl, DGet.t (k := kII (nx s j)) hkd hTk, _, rfl, ?_⟩
      by_cases hm : nx s j ∈ fs'.map (·.1)
      · obtain ⟨pz, hpz, epz⟩ := List.mem_map.mp hm
        obtain ⟨iz, hiz⟩ := List.getElem?_of_mem hpz
        have : fs'[iz]? = some (nx s j, pz.2) := by rw [hiz, ← epz]
        obtain ⟨vv, hvv, _⟩ := dp_some hkp kII_inj this hnd
        rw [hvv]
        refine iteF ?_
        exact ⟨fs', _, _, rfl, s4, di3, li3, by rw [htk, pushAll_snoc, ← hpa, push_of_mem hm], ⟨r, hr'⟩, hw2⟩
      · rw [dp_none hkp kII_inj hm]
        refine iteT ?_
        have hsf : fs'[i]? = some (s, sw) := by rw [hr', List.getElem?_append_left hlt]; exact hs
        obtain ⟨tv, htv, ta, tws, rfl, hta, ptws⟩ := dp_some hkp kII_inj hsf hnd
        refine ⟨_, rfl, _, rfl, _, rfl, by show 2 ≤ sizeLine; decide, fun kq hkq => ?_⟩
        have s4q : Same H3 (upd H3 kq (.tup [.int (s.1 : Nat), .int (s.2 : Nat)])) := same_new hkq
        refine ⟨d, _, rfl, by rw [← htv]; exact DGet.t (k := kII s) (s4q _ _ hkd) upd_same, _, rfl, by show 1 ≤ sizeLine; decide, fun u hu' => ?_⟩
        have swl := hw2 _ (List.mem_of_getElem? hsf)
        have hsw : sw.length < fs'.length := swl.2.2.2
        have hfl' : fs'.length ≤ 1600 := few fs' hnd fun p hp => (hw2 p hp).2.2.1
        have hlen : tws.length = sw.length := pd_len ptws
        have s5u : Same (upd H3 kq (.tup [.int (s.1 : Nat), .int (s.2 : Nat)])) (upd (upd H3 kq (.tup [.int (s.1 : Nat), .int (s.2 : Nat)])) u (.tup [.int (j : Nat)])) := same_new hu'
        have s5 := s4q.trans s5u
        refine ⟨ta, u, tws, [.int (j : Nat)], rfl, rfl, s5 _ _ (offs_some hta).2.2, upd_same, szl (by show tws.length + 1 ≤ 10000; omega), fun p H5 s6 hp new => ?_⟩
        have s7 : Same H3 H5 := s5.trans s6
        have di5 := di3.mono s7
        have li5 := li3.mono mPr s7
        have n1 : ∀ x ∈ [d, o], H3 x ≠ none := fun x hx => by
          rcases List.mem_cons.mp hx with e | e
          · rw [e]; exact ne_some hkd
          · rw [List.mem_singleton.mp e]; obtain ⟨_, z, _⟩ := li3; exact ne_some z
        have hnew := new Bs [d, o] (fun x hx => same_ne s5 (n1 x hx)) (fun _ => ⟨fun mm => same_ne s4q (n1 u mm) hu', bsn ((s4.trans s4q).free hu')⟩) (fun e => by cases e) (sB.trans (s4.trans s5))
        obtain ⟨kvs5, hkd5, hkp5⟩ := id di5
        have hwn : rT rI (offs Bs [d, o] H5) (.ref p) (sw ++ [j]) := ⟨p, _, rfl, by rw [offs_get hnew.1 hnew.2]; exact hp, pd_snoc (pd_mono mI (offs_same s7) ptws) rfl⟩
        have hTn : rPr (offs Bs [d, o] H5) (.ref T) (nx s j) := by rw [hnxs]; exact ⟨T, _, _, rfl, by rw [offs_get nT bT]; exact s7 _ _ hT3, rfl, rfl⟩
        have hkl : kvs5.length = fs'.length := pd_len hkp5
        refine ⟨_, rfl, _, rfl, d, _, rfl, DPut.t (k := kII (nx s j)) hkd5 (s7 _ _ hTk) (sz (by omega)), ?_⟩
        obtain ⟨ovs5, ho5, po5⟩ := id li5
        have hol5 : ovs5.length = fs'.length := by rw [pd_len po5, List.length_map]
        refine ⟨_, rfl, .inl ⟨rfl, ovs5, SqL.of (by rw [upd_ne ndo.symm]; exact ho5)⟩, _, rfl, o, ovs5, _, rfl, rfl, (by rw [upd_ne ndo.symm]; exact ho5), sz (by omega), ?_⟩
        have di6 : DI dTm kII Bs [d, o] (upd H5 d (dTm (putK kvs5 (kII (nx s j)) (.ref p)))) d (fs' ++ [(nx s j, sw ++ [j])]) := DI.put hkp5 kII_inj hm hwn (by simp)
        have po6 : Paired (rPr (offs Bs [d, o] (upd H5 d (dTm (putK kvs5 (kII (nx s j)) (.ref p)))))) ovs5 (fs'.map (·.1)) := by rw [offs_upd (by simp)]; exact po5
        refine ⟨fs' ++ [(nx s j, sw ++ [j])], _, _, rfl, same_upd (same_upd (s4.trans s7) hd) ho, di6.other (by simp) ndo.symm, ?_, ?_, ⟨r ++ [(nx s j, sw ++ [j])], by rw [hr', List.append_assoc]⟩, ?_⟩
        · rw [List.map_append]
          exact LI.app po6 (by rw [offs_upd (by simp)]; exact hTn) (by simp)
        · rw [List.map_append, htk, pushAll_snoc, ← hpa, push_of_not hm]; rfl
        · intro pz hpz
          rw [List.length_append]
          rcases List.mem_append.mp hpz with e | e
          · have := hw2 pz e
            exact ⟨this.1, this.2.1, this.2.2.1, Nat.lt_of_lt_of_le this.2.2.2 (Nat.le_add_right _ _)⟩
          · rw [List.mem_singleton.mp e]
            refine ⟨swl.1.app (Wd.one hjL), ?_, ?_, ?_⟩
            · rw [stL_snoc, swl.2.1]
            · rw [hnxs]; exact ⟨wf1.lt hsn hjL, wf2.lt hsm hjL⟩
            · show (sw ++ [j]).length < _
              rw [List.length_append]
              exact Nat.add_lt_add_right swl.2.2.2 1
    · rintro σ' H2 ⟨fs', x8, x9, rfl, s2, di2, li2, hpa, ⟨r, hr'⟩, hw2⟩
      refine ⟨_, rfl, (i : Nat), 1, rfl, rfl, ?_⟩
      have hpa' : fs'.map (·.1) = pushAll (fs.map (·.1)) ((List.range L).map (nx s)) := by rw [hpa, List.take_of_length_le (by simp)]
      refine ⟨1600 - (i + 1), by omega, i + 1, fs', _, _, _, _, rfl, rfl, s2, di2, li2, by rw [hpa']; exact hq.step hso, ?_, hw2⟩
      rw [hr', List.length_append]; omega
  · refine ifF (decide_eq_false (by omega)) ?_
    have hie : i = fs.length := by omega
    subst hie
    refine ⟨_, rfl, o, rfl, ⟨ovs, SqL.of ho1⟩, fun D hD => ?_⟩
    have hnd : (fs.map (·.1)).Nodup := hq.nodup
    obtain ⟨kvs, hkd, hkp⟩ := id hdi
    refine lcL (R := rP rPr (rT rI)) (B := Bs) (mP mPr (mT mI)) fs (sB.trans same) hD (SqL.of ho1) (by omega) (szl (by omega)) ?_ ?_
    · intro j x b H2 hx hb s2 nD k hk
      obtain ⟨bs, bw⟩ := b
      have hxs : rPr (offs Bs [d, o] H1) x bs := by
        have : (fs.map (·.1))[j]? = some bs := by rw [List.getElem?_map, hb]; rfl
        obtain ⟨v, e1, e2⟩ := pd_get' po1 this
        rw [hx] at e1; cases e1; exact e2
      obtain ⟨kx, rfl, hkx⟩ := pr_key hxs
      obtain ⟨tv, htv, htr⟩ := dp_some hkp kII_inj hb hnd
      refine ⟨wp1, _, rfl, _, rfl, _, rfl, d, tv, rfl, by rw [← htv]; exact DGet.t (k := kII bs) (s2 _ _ hkd) (s2 _ _ (offs_some hkx).2.2), by show 2 ≤ sizeLine; decide, fun p hp => ?_⟩
      have mv : Same (offs Bs [d, o] H1) (offs Bs [D] (upd H2 p (.tup [.ref kx, tv]))) := offs_mono (fun b h _ => h) (fun b hb n => by rw [List.mem_singleton.mp hb] at n; exact absurd hD n) (s2.trans (same_new hp))
      refine hk _ _ (same_new hp) ⟨p, _, tv, rfl, ?_, mPr _ _ _ _ mv hxs, mT mI _ _ _ _ mv htr⟩
      rw [offs_get (fun m => nD (by rw [← List.mem_singleton.mp m]; exact hp)) (bsn ((same.trans s2).free hp))]; exact upd_same
    · intro H2 s2 res
      have hcl : ∀ s ∈ fs.map (·.1), ∀ k, k < L → nx s k ∈ fs.map (·.1) := fun s hs k hk => by
        obtain ⟨is, his⟩ := List.getElem?_of_mem hs
        have hil := (List.getElem?_eq_some_iff.mp his).1
        rw [List.length_map] at hil
        exact hq.closed.2 is s hil his _ (List.mem_map.mpr ⟨k, List.mem_range.mpr hk, rfl⟩)
      refine q fs ⟨fun w hw' => ?_, fun p hp => ⟨(hw p hp).1, ?_, (hw p hp).2.2.1.1, (hw p hp).2.2.1.2, Nat.le_of_lt (hw p hp).2.2.2⟩, hfl⟩ _ _ (same.trans s2) fun B ds sb hds hst => ?_
      · have := closedL (nx := nx) (K := L) hq.closed.1 hcl hw'
        rw [← hnx, stL_pair] at this
        exact this
      · have := (hw p hp).2.1
        rw [← hnx, stL_pair] at this
        exact this
      · obtain ⟨_, _, _, e, hs1, _⟩ := hst
        cases e
        refine mFoundP _ _ _ _ (fun b o h => ?_) res
        obtain ⟨_, c, dd⟩ := offs_some h
        by_cases e : b = sa
        · subst e
          have := offs_some hs1
          rw [offs_get this.1 this.2.1]; exact dd
        · rw [show Bs b = H b from if_neg e] at c
          rw [offs_get (fun m => hds _ m c) (sb.free c)]; exact dd
end
end FA
end
section
namespace FA
open PySem PySem.Spec PyProof.Rows L2 FM
--IMPORT Spec6
theorem sc_pairs_in_front : FnScope ["one", "two", "start", "found", "order", "level", "fresh", "k", "a", "b", "other", "pair"] ["one", "two", "start"] (defScope s_pairs_in_front) := ⟨rfl, rfl, rfl, by decide +kernel, rfl, by decide +kernel, by decide +kernel⟩
section
variable {P : Program} {w : World} {K : PySem.W.Frag} {mg : Str → Option Value} {base : Heap} {C : Addr}
theorem ok_pairs_in_front (D : Df K mg "pairs_in_front" s_pairs_in_front ["one", "two", "start"]) (Z : Glo mg) (Mc : Mcl K mg C) :
    Cal P w K mg base "pairs_in_front" ["one", "two", "start"] 1 (sp_pairs_in_front C) := by
  have nd := sc_pairs_in_front.nd
  refine D.ok sc_pairs_in_front len3 (fun f cdv A outer s H vs Q E hr h => ?_)
  have hu := hu_of hr
  refine ⟨_, (pss_cons (ps_set (i := 3) nd rfl (Or.inr rfl) (pe_dispT hu (pv 2) (pe_tup pa_nil)))
      (pss_cons (ps_set (i := 4) nd rfl (Or.inl rfl) (pe_lst (pa_cons (pv 2) pa_nil)))
      (pss_cons (ps_set (i := 5) nd rfl (Or.inl rfl) (pe_lst (pa_cons (pv 2) pa_nil)))
      (pss_cons (ps_while PassesOwn.never (ktruth K (pv 5) (by intro _; rfl)) (pss_cons (ps_set (i := 6) nd rfl (Or.inl rfl) (pe_lst pa_nil))
        (pss_cons (ps_for PassesOwn.never rfl (pi_range1 (by rfl) Z.z_range (pa_cons (pe_callB klen_str (by rfl) Z.z_len (by decide +kernel) (pa_cons (kfld K (pv 0) rfl) pa_nil)) pa_nil)) (pg_name (i := 7) nd rfl (Or.inl rfl)) (pss_one (ps_for PassesOwn.never rfl (kpi_list K (pv 5)) (kpg_tup K (n := 2) rfl (pgs_cons (pg_name (i := 8) nd rfl (Or.inl rfl)) (pgs_cons (pg_name (i := 9) nd rfl (Or.inl rfl)) pgs_nil))) (pss_cons (ps_set (i := 10) nd rfl (Or.inl rfl) (pe_tup (pa_cons (pe_ix kix_list (pe_ix kix_list (kfld K (pv 0) rfl) (pv 8) (fun _ _ => rfl)) (pv 7) (fun _ _ => rfl)) (pa_cons (pe_ix kix_list (pe_ix kix_list (kfld K (pv 1) rfl) (pv 9) (fun _ _ => rfl)) (pv 7) (fun _ _ => rfl)) pa_nil))))
            (pss_one (ps_if (pt_cmp (pc_dnotin hu (pv 10) (pv 3))) (pss_cons (ps_dput hu (pv 3) (pv 10) (pe_op kcatA (pe_tup (pa_cons (pv 7) pa_nil)) (pe_dget hu (pv 3) (pe_tup (pa_cons (pv 8) (pa_cons (pv 9) pa_nil))) (fun _ _ => rfl))) rfl)
              (pss_one (ps_expr (kbm K PySem.F.plainAttrs_list PySem.F.slot_list_append PySem.F.type_list_append mt_append (pv 6) (pa_cons (pv 10) pa_nil))))) pss_nil))))))
        (pss_cons (ps_expr (kbm K PySem.F.plainAttrs_list PySem.F.slot_list_extend PySem.F.type_list_extend mt_extend (pv 4) (pa_cons (pv 6) pa_nil)))
        (pss_one (ps_set (i := 5) nd rfl (Or.inl rfl) (pv 6)))))))
      (pss_one (ps_ret (pe_lc (own := [("pair", 11)]) (tt := tYes) rfl nd (kpi_list K (pv 4)) (blkOk_by (by kernel_rfl)) (fun _ _ _ _ _ => (pg_name (i := 11) nd rfl (Or.inl rfl))) (fun _ _ _ _ _ => pts_nil) (fun _ _ _ _ _ => (pe_tup (pa_cons (pv 11) (pa_cons (pe_dget hu (pv 3) (pv 11) (fun _ _ => rfl)) pa_nil))))))))))), ?_⟩
  obtain ⟨_, _, _, rfl, M, N, p0, ⟨m1, dx1, l1, r1, t1, rfl, hm1, hl1, hr1, ht1⟩, ⟨m2, dx2, l2, r2, t2, rfl, hm2, hl2, hr2, ht2⟩, ok, ok2, hrd, ⟨sa, _, _, rfl, hsa, rfl, rfl⟩, hp1, hp2, q⟩ := h
  have wf1 := ok.wfR
  have wf2 := ok2.wfR
  rw [← hrd] at wf2
  have bR := ok.bR
  have bR2 := ok2.bR
  generalize hnx : nxP M.R N.R = nx
  have hL := ok.k
  generalize hKK : M.rd.length = L at wf1 wf2 hL q
  let Bs : Hp := fun b => if b = sa then none else H b
  have sB : Same Bs H := fun b o h => by
    by_cases e : b = sa
    · rw [show Bs b = none from if_pos e] at h; cases h
    · rwa [show Bs b = H b from if_neg e] at h
  have bsn : ∀ {b : Addr}, H b = none → Bs b = none := fun hb => sB.free hb
  have bsa : Bs sa = none := if_pos rfl
  have hstart : ∀ (ds : List Addr) (H1 : Hp), Same H H1 → sa ∉ ds → rPr (offs Bs ds H1) (.ref sa) p0 := fun ds H1 s n => ⟨sa, _, _, rfl, by rw [offs_get n bsa]; exact s _ _ hsa, rfl, rfl⟩
  intro d hd
  refine ⟨_, rfl, Nat.zero_le _, fun t ht => ?_⟩
  have ndt : d ≠ t := fun e => by rw [← e, upd_same] at ht; cases ht
  rw [upd_ne ndt.symm] at ht
  have nds : d ≠ sa := fun e => by rw [e, hsa] at hd; cases hd
  have nts : t ≠ sa := fun e => by rw [e, hsa] at ht; cases ht
  refine ⟨_, _, rfl, by rw [upd_ne ndt]; exact upd_same, sa, kII p0, rfl, by rw [upd_ne nts.symm, upd_ne nds.symm]; exact hsa, ?_⟩
  refine ⟨_, rfl, by show 1 ≤ sizeLine; decide, fun o ho => ?_⟩
  have ndo : d ≠ o := fun e => by rw [← e, upd_same] at ho; cases ho
  rw [upd_ne ndo.symm] at ho
  have nto : t ≠ o := fun e => by rw [← e, upd_same] at ho; cases ho
  rw [upd_ne nto.symm, upd_ne ndo.symm] at ho
  refine ⟨_, rfl, by show 1 ≤ sizeLine; decide, fun l hl => ?_⟩
  have nol : o ≠ l := fun e => by rw [← e, upd_same] at hl; cases hl
  rw [upd_ne nol.symm] at hl
  have ndl : d ≠ l := fun e => by rw [← e, upd_same] at hl; cases hl
  rw [upd_ne ndl.symm] at hl
  have ntl : t ≠ l := fun e => by rw [← e, upd_same] at hl; cases hl
  rw [upd_ne ntl.symm, upd_ne ndl.symm] at hl
  have nso : sa ≠ o := fun e => by rw [← e, hsa] at ho; cases ho
  have nsl : sa ≠ l := fun e => by rw [← e, hsa] at hl; cases hl
  have nsd : sa ∉ [d, o, l] := by simp [nds.symm, nso, nsl]
  have sAll : Same H (upd (upd (upd (upd (upd H d (.dT [])) t (.tup [])) d (.dT [(kII p0, .ref t)])) o (.lst [.ref sa])) l (.lst [.ref sa])) := same_upd (same_upd (same_upd (same_upd (same_new hd) ht) hd) ho) hl
  refine ⟨fun m σ H1 => ∃ (n : Nat) (lv : Addr) (b level : List (Nat × Nat)) (fs : List ((Nat × Nat) × List Nat)) (x6 x7 x8 x9 x10 : Option V), σ = [some (V.ref m1), some (.ref m2), some (.ref sa), some (.ref d), some (.ref o), some (.ref lv), x6, x7, x8, x9, x10, none] ∧ m = 1600 - b.length ∧ Same H H1 ∧ H lv = none ∧ d ≠ lv ∧ o ≠ lv ∧ DI dTm kII Bs [d, o, lv] H1 d fs ∧ LI rPr Bs [d, o, lv] H1 o (b ++ level) ∧ LI rPr Bs [d, o, lv] H1 lv level ∧ fs.map (·.1) = b ++ level ∧ LInv nx L p0 n b level ∧ (∀ p ∈ fs, Wd L p.2 ∧ stR nx p0 p.2 = p.1 ∧ (p.1.1 < M.R.length ∧ p.1.2 < N.R.length) ∧ p.2.length < fs.length), ⟨1600, 0, l, [], [p0], [(p0, [])], none, none, none, none, none, rfl, rfl, sAll, hl, ndl, nol, ?_, ?_, ?_, rfl, LInv.start _ _ _, ?_⟩, ?_⟩
  · refine ⟨[(kII p0, .ref t)], by rw [upd_ne ndl, upd_ne ndo]; exact upd_same, .cons ⟨rfl, t, [], rfl, ?_, .nil⟩ .nil⟩
    rw [offs_get (by simp [ndt.symm, nto, ntl]) (bsn ht), upd_ne ntl, upd_ne nto, upd_ne ndt.symm, upd_same]
  · exact ⟨[V.ref sa], by rw [upd_ne nol, upd_same], .cons (hstart _ _ sAll nsd) .nil⟩
  · exact ⟨_, upd_same, .cons (hstart _ _ sAll nsd) .nil⟩
  · intro p hp
    rw [List.mem_singleton] at hp
    subst hp
    exact ⟨Wd.nil, rfl, ⟨hp1, hp2⟩, by show 0 < 1; decide⟩
  rintro m σ H1 ⟨n, lv, b, level, fs, x6, x7, x8, x9, x10, rfl, rfl, same, hlv, ndlv, nolv, hdi, hlo, hll, hfs, hinv, hw⟩
  have few : ∀ gs : List ((Nat × Nat) × List Nat), (gs.map (·.1)).Nodup → (∀ p ∈ gs, p.1.1 < M.R.length ∧ p.1.2 < N.R.length) → gs.length ≤ 1600 := fun gs h1 h2 => by
    have := pairs_few h1 bR bR2 fun x hx => by
      obtain ⟨p, hp, rfl⟩ := List.mem_map.mp hx
      exact h2 p hp
    simpa using this
  have hfl : fs.length ≤ 1600 := few fs (by rw [hfs]; exact hinv.nodup) fun p hp => (hw p hp).2.2.1
  have hbl : b.length + level.length = fs.length := by rw [← List.length_append, ← hfs, List.length_map]
  obtain ⟨lvs, hlv1, plv⟩ := id hll
  have hlvl : lvs.length = level.length := pd_len plv
  refine ⟨_, rfl, !lvs.isEmpty, .inl ⟨lvs, SqL.of hlv1, rfl⟩, ?_⟩
  by_cases hemp : level = []
  · have : lvs = [] := List.eq_nil_of_length_eq_zero (by rw [hlvl, hemp]; rfl)
    rw [this]
    refine iteF ?_
    subst hemp
    rw [List.append_nil] at hlo hfs
    obtain ⟨ovs, ho1, po1⟩ := id hlo
    have hol : ovs.length = fs.length := by rw [pd_len po1, ← hfs, List.length_map]
    have hnd : (fs.map (·.1)).Nodup := by rw [hfs]; simpa using hinv.nodup
    refine ⟨_, rfl, o, rfl, ⟨ovs, SqL.of ho1⟩, fun D hD => ?_⟩
    obtain ⟨kvs, hkd, hkp⟩ := id hdi
    refine lcL (R := rP rPr (rT rI)) (B := Bs) (mP mPr (mT mI)) fs (sB.trans same) hD (SqL.of ho1) (by omega) (szl (by omega)) ?_ ?_
    · intro j x b2 H2 hx hb s2 nD k hk
      obtain ⟨bs, bw⟩ := b2
      have hxs : rPr (offs Bs [d, o, lv] H1) x bs := by
        have : b[j]? = some bs := by rw [← hfs, List.getElem?_map, hb]; rfl
        obtain ⟨v, e1, e2⟩ := pd_get' po1 this
        rw [hx] at e1; cases e1; exact e2
      obtain ⟨kx, rfl, hkx⟩ := pr_key hxs
      obtain ⟨tv, htv, htr⟩ := dp_some hkp kII_inj hb hnd
      refine ⟨wp1, _, rfl, _, rfl, _, rfl, d, tv, rfl, by rw [← htv]; exact DGet.t (k := kII bs) (s2 _ _ hkd) (s2 _ _ (offs_some hkx).2.2), by show 2 ≤ sizeLine; decide, fun p hp => ?_⟩
      have mv : Same (offs Bs [d, o, lv] H1) (offs Bs [D] (upd H2 p (.tup [.ref kx, tv]))) := offs_mono (fun b h _ => h) (fun b hb n => by rw [List.mem_singleton.mp hb] at n; exact absurd hD n) (s2.trans (same_new hp))
      refine hk _ _ (same_new hp) ⟨p, _, tv, rfl, ?_, mPr _ _ _ _ mv hxs, mT mI _ _ _ _ mv htr⟩
      rw [offs_get (fun m => nD (by rw [← List.mem_singleton.mp m]; exact hp)) (bsn ((same.trans s2).free hp))]; exact upd_same
    · intro H2 s2 res
      have hcl : ∀ s ∈ fs.map (·.1), ∀ k, k < L → nx s k ∈ fs.map (·.1) := fun s hs k hk => by
        have := hinv.cl
        rw [List.append_nil] at this
        rw [hfs] at hs ⊢
        exact this s hs k hk
      have h0 : p0 ∈ fs.map (·.1) := by
        have := hinv.mem_start
        rw [List.append_nil] at this
        rw [hfs]; exact this
      refine q fs ⟨fun w hw' => ?_, fun p hp => ⟨(hw p hp).1, ?_, (hw p hp).2.2.1.1, (hw p hp).2.2.1.2, Nat.le_of_lt (hw p hp).2.2.2⟩, hfl⟩ _ _ (same.trans s2) fun B ds sb hds hst => ?_
      · have := closedR (nx := nx) (K := L) h0 hcl hw'
        rw [← hnx, stR_pair] at this
        exact this
      · have := (hw p hp).2.1
        rw [← hnx, stR_pair] at this
        exact this
      · obtain ⟨_, _, _, e, hs1, _⟩ := hst
        cases e
        refine mFoundP _ _ _ _ (fun b o h => ?_) res
        obtain ⟨_, c, dd⟩ := offs_some h
        by_cases e : b = sa
        · subst e
          have := offs_some hs1
          rw [offs_get this.1 this.2.1]; exact dd
        · rw [show Bs b = H b from if_neg e] at c
          rw [offs_get (fun m => hds _ m c) (sb.free c)]; exact dd
  · have hlev0 : 0 < level.length := List.length_pos_iff.mpr hemp
    have : (!lvs.isEmpty) = true := by
      cases lvs with
      | nil => rw [← hlvl] at hlev0; exact absurd hlev0 (by decide)
      | cons _ _ => rfl
    rw [this]
    refine iteT ?_
    refine ⟨_, fun _ _ h => h, Nat.zero_le _, fun f' hf => ?_⟩
    have fne : ∀ z, H1 z ≠ none → f' ≠ z := fun z h e => h (by rw [← e]; exact hf)
    have nfd : f' ≠ d := fne d (by obtain ⟨_, z, _⟩ := hdi; exact ne_some z)
    have nfo : f' ≠ o := fne o (by obtain ⟨_, z, _⟩ := hlo; exact ne_some z)
    have nfl : f' ≠ lv := fne lv (ne_some hlv1)
    have hHf : H f' = none := same.free hf
    have hdi1 := (hdi.to (ds' := [f', d, o, lv]) (Same.refl _) (offs_grow hf)).mono (same_new (o := .lst []) hf)
    have hlo1 := (hlo.to mPr (ds' := [f', d, o, lv]) (Same.refl _) (offs_grow hf)).mono mPr (same_new (o := .lst []) hf)
    have hll1 := (hll.to mPr (ds' := [f', d, o, lv]) (Same.refl _) (offs_grow hf)).mono mPr (same_new (o := .lst []) hf)
    have hlf1 : LI rPr Bs [f', d, o, lv] (upd H1 f' (.lst [])) f' ([] : List (Nat × Nat)) := ⟨[], upd_same, .nil⟩
    have sm1 : Same H (upd H1 f' (.lst [])) := same_upd same hHf
    generalize hH2 : upd H1 f' (.lst []) = H2 at hdi1 hlo1 hll1 hlf1 sm1
    clear hH2
    refine ⟨_, rfl, m1, C, dx1, _, _, rfl, sm1 _ _ hm1, Mc.cl, Mc.n1, mf_reads _ _ _ _ _, M.rd, rfl, szl (by omega), (M.rd.length : Nat), rfl, by omega, by omega, ?_⟩
    have hLn : ((M.rd.length : Nat) : Int).toNat = L := by rw [hKK]; omega
    rw [hLn]
    refine for_range (n := L) (lo := 0) (fun kk σ' H3 => ∃ (gs : List ((Nat × Nat) × List Nat)) (fr : List (Nat × Nat)) (x7 x8 x9 x10 : Option V), σ' = [some (V.ref m1), some (.ref m2), some (.ref sa), some (.ref d), some (.ref o), some (.ref lv), some (.ref f'), x7, x8, x9, x10, none] ∧ Same H H3 ∧ DI dTm kII Bs [f', d, o, lv] H3 d gs ∧ LI rPr Bs [f', d, o, lv] H3 o (b ++ level) ∧ LI rPr Bs [f', d, o, lv] H3 lv level ∧ LI rPr Bs [f', d, o, lv] H3 f' fr ∧ gs.map (·.1) = (b ++ level) ++ fr ∧ gs.map (·.1) = pushAll (b ++ level) ((List.range kk).flatMap fun k => level.map fun s => nx s k) ∧ (∀ p ∈ gs, Wd L p.2 ∧ stR nx p0 p.2 = p.1 ∧ (p.1.1 < M.R.length ∧ p.1.2 < N.R.length) ∧ p.2.length < gs.length)) ⟨fs, [], x7, x8, x9, x10, rfl, sm1, hdi1, hlo1, hll1, hlf1, by rw [hfs, List.append_nil], by rw [hfs]; rfl, hw⟩ ?_ ?_
    · rintro kk σ' H3 hkk ⟨gs, fr, x7, x8, x9, x10, rfl, sm3, hdi3, hlo3, hll3, hlf3, hgs1, hgs2, hw3⟩
      obtain ⟨lvs3, hlv3, plv3⟩ := id hll3
      refine ⟨_, rfl, lv, rfl, ⟨lvs3, SqL.of hlv3⟩, ?_⟩
      rw [Int.zero_add]
      refine for_it (walk_list (xs := lvs3)) (fun j σ' H3 => ∃ (gs' : List ((Nat × Nat) × List Nat)) (fr : List (Nat × Nat)) (x8 x9 x10 : Option V), σ' = [some (V.ref m1), some (.ref m2), some (.ref sa), some (.ref d), some (.ref o), some (.ref lv), some (.ref f'), some (.int (kk : Nat)), x8, x9, x10, none] ∧ Same H H3 ∧ H3 lv = some (.lst lvs3) ∧ Paired (rPr (offs Bs [f', d, o, lv] H3)) lvs3 level ∧ DI dTm kII Bs [f', d, o, lv] H3 d gs' ∧ LI rPr Bs [f', d, o, lv] H3 o (b ++ level) ∧ LI rPr Bs [f', d, o, lv] H3 lv level ∧ LI rPr Bs [f', d, o, lv] H3 f' fr ∧ gs'.map (·.1) = (b ++ level) ++ fr ∧ gs'.map (·.1) = pushAll (gs.map (·.1)) ((level.take j).map fun s => nx s kk) ∧ (∀ p ∈ gs', Wd L p.2 ∧ stR nx p0 p.2 = p.1 ∧ (p.1.1 < M.R.length ∧ p.1.2 < N.R.length) ∧ p.2.length < gs'.length)) ⟨gs, fr, x8, x9, x10, rfl, sm3, hlv3, plv3, hdi3, hlo3, hll3, hlf3, hgs1, rfl, hw3⟩ ?_ ?_ ?_
      · rintro j σ' H4 _ ⟨gs', fr, x8, x9, x10, _, _, z, _⟩
        exact SqL.of z
      · rintro j x σ' _ H4 hj ⟨gs', fr, x8, x9, x10, rfl, sm4, hlv4, plv4, hdi4, hlo4, hll4, hlf4, hg1, hg2, hw4⟩ ⟨rfl, hx⟩
        have hjl : j < level.length := by rw [← pd_len plv3]; exact hj
        have hnd : (gs'.map (·.1)).Nodup := by rw [hg2, hgs2]; exact FM.nodup_pushAll (FM.nodup_pushAll hinv.nodup)
        obtain ⟨s, hs⟩ : ∃ s, level[j]? = some s := ⟨_, List.getElem?_eq_getElem hjl⟩
        obtain ⟨v, e1, sp, _, _, rfl, hsp, rfl, rfl⟩ := pd_get' plv4 hs
        rw [hx] at e1
        cases e1
        have hsm : s ∈ gs'.map (·.1) := by rw [hg1]; exact List.mem_append.mpr (.inl (List.mem_append.mpr (.inr (List.mem_of_getElem? hs))))
        obtain ⟨⟨s', sw⟩, hsp', rfl⟩ := List.mem_map.mp hsm
        obtain ⟨iz, hiz⟩ := List.getElem?_of_mem hsp'
        have swl := hw4 _ hsp'
        obtain ⟨hsn, hsm'⟩ := swl.2.2.1
        obtain ⟨a1, vs1, rb1, ws1, ea1, ha1, hrb1, hb1, hc1⟩ := rows_at (mRows _ _ _ _ sm4 hr1) wf1 hsn hkk
        subst ea1
        obtain ⟨a2, vs2, rb2, ws2, ea2, ha2, hrb2, hb2, hc2⟩ := rows_at (mRows _ _ _ _ sm4 hr2) wf2 hsm' hkk
        subst ea2
        refine ⟨sp, _, rfl, SqT.of (offs_some hsp).2.2, rfl, _, _, rfl, _, _, rfl, rfl, ?_⟩
        refine ⟨_, rfl, m1, C, dx1, _, _, rfl, sm4 _ _ hm1, Mc.cl, Mc.n4, mf_right _ _ _ _ _, _, rfl, a1, vs1, _, _, rfl, rfl, ha1, atI_nat hrb1, _, rfl, rb1, ws1, _, _, rfl, rfl, hb1, atI_nat hc1, _, rfl, m2, C, dx2, _, _, rfl, sm4 _ _ hm2, Mc.cl, Mc.n4, mf_right _ _ _ _ _, _, rfl, a2, vs2, _, _, rfl, rfl, ha2, atI_nat hrb2, _, rfl, rb2, ws2, _, _, rfl, rfl, hb2, atI_nat hc2, by show 2 ≤ sizeLine; decide, fun T hT => ?_⟩
        have hnxs : nx s' kk = (at2 M.R s'.1 kk, at2 N.R s'.2 kk) := by rw [← hnx]; rfl
        have s3T : Same H4 (upd H4 T (.tup [iv (at2 M.R s'.1 kk), iv (at2 N.R s'.2 kk)])) := same_new hT
        have hT3 : (upd H4 T (.tup [iv (at2 M.R s'.1 kk), iv (at2 N.R s'.2 kk)])) T = some (.tup [iv (at2 M.R s'.1 kk), iv (at2 N.R s'.2 kk)]) := upd_same
        have n0 : ∀ x ∈ [f', d, o, lv], H4 x ≠ none := fun x hx => by
          simp only [List.mem_cons, List.not_mem_nil, or_false] at hx
          rcases hx with e | e | e | e
          · rw [e]; obtain ⟨_, z, _⟩ := hlf4; exact ne_some z
          · rw [e]; obtain ⟨_, z, _⟩ := hdi4; exact ne_some z
          · rw [e]; obtain ⟨_, z, _⟩ := hlo4; exact ne_some z
          · rw [e]; exact ne_some hlv4
        have nT : T ∉ [f', d, o, lv] := fun mm => n0 T mm hT
        have bT : Bs T = none := bsn (sm4.free hT)
        replace hdi4 := hdi4.mono s3T
        replace hlo4 := hlo4.mono mPr s3T
        replace hll4 := hll4.mono mPr s3T
        replace hlf4 := hlf4.mono mPr s3T
        replace plv4 := pd_mono mPr (offs_same (B := Bs) (ds := [f', d, o, lv]) s3T) plv4
        replace sm4 := sm4.trans s3T
        replace hlv4 := s3T _ _ hlv4
        replace n0 := fun x hx => same_ne s3T (n0 x hx)
        generalize hH5 : upd H4 T (.tup [iv (at2 M.R s'.1 kk), iv (at2 N.R s'.2 kk)]) = H5 at hT3 hdi4 hlo4 hll4 hlf4 plv4 sm4 hlv4 n0
        clear hH5
        have htk : (level.take (j + 1)).map (fun s => nx s kk) = (level.take j).map (fun s => nx s kk) ++ [nx s' kk] := by rw [List.take_add_one, hs, List.map_append]; rfl
        obtain ⟨kvs, hkd, hkp⟩ := id hdi4
        have hTk : H5 T = some (.tup ((kII (nx s' kk)).map kV)) := by rw [hT3, hnxs]; rfl
        refine ⟨_, rfl, _, rfl, d, valV kvs (kII (nx s' kk)), rfl, DGet.t (k := kII (nx s' kk)) hkd hTk, _, rfl, ?_⟩
        by_cases hm : nx s' kk ∈ gs'.map (·.1)
        · obtain ⟨pz, hpz, epz⟩ := List.mem_map.mp hm
          obtain ⟨iy, hiy⟩ := List.getElem?_of_mem hpz
          have : gs'[iy]? = some (nx s' kk, pz.2) := by rw [hiy, ← epz]
          obtain ⟨vv, hvv, _⟩ := dp_some hkp kII_inj this hnd
          rw [hvv]
          refine iteF ?_
          exact ⟨gs', fr, _, _, _, rfl, sm4, hlv4, plv4, hdi4, hlo4, hll4, hlf4, hg1, by rw [htk, pushAll_snoc, ← hg2, push_of_mem hm], hw4⟩
        · rw [dp_none hkp kII_inj hm]
          refine iteT ?_
          have hgl : gs'.length ≤ 1600 := few gs' hnd fun p hp => (hw4 p hp).2.2.1
          refine ⟨_, rfl, by show 1 ≤ sizeLine; decide, fun u hu' => ?_⟩
          have s5 : Same H5 (upd H5 u (.tup [.int (kk : Nat)])) := same_new hu'
          obtain ⟨tv, htv, ta, tws, rfl, hta, ptws⟩ := dp_some hkp kII_inj hiz hnd
          have hlen : tws.length = sw.length := pd_len ptws
          refine ⟨_, rfl, _, rfl, _, rfl, by show 2 ≤ sizeLine; decide, fun kq hkq => ?_⟩
          have s5q : Same (upd H5 u (.tup [.int (kk : Nat)])) (upd (upd H5 u (.tup [.int (kk : Nat)])) kq (.tup [.int (s'.1 : Nat), .int (s'.2 : Nat)])) := same_new hkq
          have s5' := s5.trans s5q
          refine ⟨d, _, rfl, by rw [← htv]; exact DGet.t (k := kII s') (s5' _ _ hkd) upd_same, ?_⟩
          have hsw : sw.length < gs'.length := swl.2.2.2
          refine ⟨u, ta, [.int (kk : Nat)], tws, rfl, rfl, s5q _ _ upd_same, s5' _ _ (offs_some hta).2.2, szl (by show 1 + tws.length ≤ 10000; omega), fun p H6 s6 hp new => ?_⟩
          have s7 : Same H5 H6 := s5'.trans s6
          have hnew := new Bs [f', d, o, lv] (fun x hx => same_ne s5' (n0 x hx)) (fun e => by cases e) (fun _ => ⟨fun m => n0 u m hu', bsn (sm4.free hu')⟩) (sB.trans (sm4.trans s5'))
          have hdi5 := hdi4.mono s7
          have hlo5 := hlo4.mono mPr s7
          have hll5 := hll4.mono mPr s7
          have hlf5 := hlf4.mono mPr s7
          have plv5 := pd_mono mPr (offs_same (B := Bs) (ds := [f', d, o, lv]) s7) plv4
          obtain ⟨kvs5, hkd5, hkp5⟩ := id hdi5
          have hwn : rT rI (offs Bs [f', d, o, lv] H6) (.ref p) (kk :: sw) := ⟨p, _, rfl, by rw [offs_get hnew.1 hnew.2]; exact hp, .cons rfl (pd_mono mI (offs_same s7) ptws)⟩
          have hTn : rPr (offs Bs [f', d, o, lv] H6) (.ref T) (nx s' kk) := by rw [hnxs]; exact ⟨T, _, _, rfl, by rw [offs_get nT bT]; exact s7 _ _ hT3, rfl, rfl⟩
          have hkl : kvs5.length = gs'.length := pd_len hkp5
          refine ⟨_, rfl, _, rfl, d, _, rfl, DPut.t (k := kII (nx s' kk)) hkd5 (s7 _ _ hTk) (sz (by omega)), ?_⟩
          obtain ⟨fvs5, hf5, pf5⟩ := id hlf5
          have hfl5 : fvs5.length ≤ gs'.length := by
            rw [pd_len pf5]
            have := congrArg List.length hg1
            rw [List.length_map, List.length_append] at this
            omega
          refine ⟨_, rfl, .inl ⟨rfl, fvs5, SqL.of (by rw [upd_ne nfd]; exact hf5)⟩, _, rfl, f', fvs5, _, rfl, rfl, (by rw [upd_ne nfd]; exact hf5), sz (by omega), ?_⟩
          have hdi6 : DI dTm kII Bs [f', d, o, lv] (upd H6 d (dTm (putK kvs5 (kII (nx s' kk)) (.ref p)))) d (gs' ++ [(nx s' kk, kk :: sw)]) := DI.put hkp5 kII_inj hm hwn (by simp)
          have pf6 : Paired (rPr (offs Bs [f', d, o, lv] (upd H6 d (dTm (putK kvs5 (kII (nx s' kk)) (.ref p)))))) fvs5 fr := by rw [offs_upd (by simp)]; exact pf5
          refine ⟨gs' ++ [(nx s' kk, kk :: sw)], fr ++ [nx s' kk], _, _, _, rfl, same_upd (same_upd (sm4.trans s7) hd) hHf, ?_, ?_, hdi6.other (by simp) nfd, (hlo5.other (by simp) ndo).other (by simp) nfo, (hll5.other (by simp) ndlv).other (by simp) nfl, LI.app pf6 (by rw [offs_upd (by simp)]; exact hTn) (by simp), ?_, ?_, ?_⟩
          · show (upd (upd H6 d _) f' _) lv = _
            rw [upd_ne nfl.symm, upd_ne ndlv.symm]; exact s7 _ _ hlv4
          · show Paired (rPr (offs Bs [f', d, o, lv] (upd (upd H6 d _) f' _))) lvs3 level
            rw [offs_upd (by simp), offs_upd (by simp)]; exact plv5
          · rw [List.map_append, hg1, List.append_assoc]; rfl
          · rw [List.map_append, htk, pushAll_snoc, ← hg2, push_of_not hm]; rfl
          · intro pz hpz
            rw [List.length_append]
            rcases List.mem_append.mp hpz with e | e
            · have := hw4 pz e
              exact ⟨this.1, this.2.1, this.2.2.1, Nat.lt_of_lt_of_le this.2.2.2 (Nat.le_add_right _ _)⟩
            · rw [List.mem_singleton.mp e]
              refine ⟨Wd.cons hkk swl.1, ?_, ?_, ?_⟩
              · rw [stR_cons, swl.2.1]
              · rw [hnxs]; exact ⟨wf1.lt hsn hkk, wf2.lt hsm' hkk⟩
              · show (kk :: sw).length < _
                exact Nat.add_lt_add_right swl.2.2.2 1
      · rintro σ' H4 ⟨gs', fr, x8, x9, x10, rfl, sm4, hlv4, plv4, hdi4, hlo4, hll4, hlf4, hg1, hg2, hw4⟩
        refine ⟨gs', fr, _, _, _, _, rfl, sm4, hdi4, hlo4, hll4, hlf4, hg1, ?_, hw4⟩
        rw [hg2, hgs2, List.range_succ, List.flatMap_append, pushAll_append, List.take_of_length_le (by rw [← pd_len plv3]; exact Nat.le_refl _)]
        simp
    · rintro σ' H3 ⟨gs, fr, x7, x8, x9, x10, rfl, sm3, hdi3, hlo3, hll3, hlf3, hgs1, hgs2, hw3⟩
      obtain ⟨ovs3, ho3, po3⟩ := id hlo3
      obtain ⟨fvs3, hf3, pf3⟩ := id hlf3
      have hinv' := hinv.step (fr := fr) (by rw [← hgs1, hgs2]; rfl)
      have hgl : gs.length ≤ 1600 := few gs (by rw [hgs1]; exact hinv'.nodup) fun p hp => (hw3 p hp).2.2.1
      have hgl2 : ovs3.length + fvs3.length = gs.length := by
        rw [pd_len po3, pd_len pf3, ← List.length_append, ← hgs1, List.length_map]
      refine ⟨_, rfl, .inl ⟨rfl, ovs3, SqL.of ho3⟩, _, rfl, o, f', ovs3, fvs3, rfl, rfl, ho3, hf3, szl (by omega), ?_⟩
      refine ⟨_, rfl, ?_⟩
      refine ⟨1600 - (b ++ level).length, ?_, n + 1, f', b ++ level, fr, gs, _, _, _, _, _, rfl, rfl, same_upd sm3 ho, hHf, nfd.symm, nfo.symm, ?_, ?_, ?_, hgs1, hinv', hw3⟩
      · rw [List.length_append]; omega
      · exact (hdi3.other (by simp) ndo.symm).to (Same.refl _) (offs_shrink (by simp))
      · refine ⟨ovs3 ++ fvs3, upd_same, ?_⟩
        have hsh : Same (offs Bs [f', d, o, lv] H3) (offs Bs [d, o, f'] (upd H3 o (.lst (ovs3 ++ fvs3)))) := by
          rw [offs_upd (by simp)]
          exact offs_shrink (by simp)
        exact pd_app (pd_mono mPr hsh po3) (pd_mono mPr hsh pf3)
      · exact (hlf3.other (by simp) nfo.symm).to mPr (Same.refl _) (offs_shrink (by simp))
end
end FA
end
section
namespace FA
open PySem PySem.Spec PyProof.Rows L2 FM
--IMPORT Spec6
theorem sc__parting : FnScope ["one", "two", "lefts", "rights", "first", "second", "k"] ["one", "two", "lefts", "rights"] (defScope s__parting) := ⟨rfl, rfl, rfl, by decide +kernel, rfl, by decide +kernel, by decide +kernel⟩
section
variable {P : Program} {w : World} {K : PySem.W.Frag} {mg : Str → Option Value} {base : Heap} {C : Addr}
theorem ok__parting (D : Df K mg "_parting" s__parting ["one", "two", "lefts", "rights"]) (Z : Glo mg) (Mc : Mcl K mg C) :
    Cal P w K mg base "_parting" ["one", "two", "lefts", "rights"] 1 (sp__parting C) := by
  have nd := sc__parting.nd
  refine D.ok sc__parting len4 (fun f cdv A outer s H vs Q E hr h => ?_)
  have hu := hu_of hr
  refine ⟨_, (pss_cons (ps_set (i := 4) nd rfl (Or.inl rfl) (pe_ix kix_list (pe_ix kix_list (kfld K (pv 0) rfl) (pe_ix kix_tup (pv 2) pe_int (fun _ _ => rfl)) (fun _ _ => rfl)) (pe_ix kix_tup (pv 3) pe_int (fun _ _ => rfl)) (fun _ _ => rfl)))
      (pss_cons (ps_set (i := 5) nd rfl (Or.inl rfl) (pe_ix kix_list (pe_ix kix_list (kfld K (pv 1) rfl) (pe_ix kix_tup (pv 2) pe_int (fun _ _ => rfl)) (fun _ _ => rfl)) (pe_ix kix_tup (pv 3) pe_int (fun _ _ => rfl)) (fun _ _ => rfl)))
      (pss_cons (ps_for PassesOwn.never rfl (pi_range1 (by rfl) Z.z_range (pa_cons (pe_callB klen_str (by rfl) Z.z_len (by decide +kernel) (pa_cons (pv 4) pa_nil)) pa_nil)) (pg_name (i := 6) nd rfl (Or.inl rfl)) (pss_one (ps_if (pt_cmpR op_ne (pe_ix ix_str (pv 4) (pv 6) (fun _ _ => rfl)) (pe_ix ix_str (pv 5) (pv 6) (fun _ _ => rfl)) (nomark _)) (pss_one (ps_ret (pv 6))) pss_nil)))
      (pss_one (ps_ret pe_non))))), ?_⟩
  obtain ⟨_, _, _, _, rfl, M, N, p, r, ⟨m1, dx1, l1, r1, t1, rfl, hm1, hl1, hr1, ht1⟩, ⟨m2, dx2, l2, r2, t2, rfl, hm2, hl2, hr2, ht2⟩, ok, ok2, hrd, ⟨pa, _, _, rfl, hpa, rfl, rfl⟩, ⟨ra, _, _, rfl, hra, rfl, rfl⟩, b1, b2, b3, b4, q⟩ := h
  obtain ⟨a, vs, c, ws, ea, ha, hc, hws, hcell⟩ := tab_at ht1 ok.wfT b1 b3
  subst ea
  obtain ⟨a', vs', c', ws', ea', ha', hc', hws', hcell'⟩ := tab_at ht2 ok2.wfT b2 b4
  subst ea'
  have g1 := ok.wfT.good b1 b3
  have g2 := ok2.wfT.good b2 b4
  have h5 := ok.k
  have l1' : (T2 M.T p.1 r.1).length = M.rd.length := g1.1
  have l2' : (T2 N.T p.2 r.2).length = M.rd.length := by rw [hrd]; exact g2.1
  refine ⟨_, rfl, m1, C, dx1, _, _, rfl, hm1, Mc.cl, Mc.n5, mf_table _ _ _ _ _, _, rfl, pa, _, 0, _, rfl, rfl, hpa, atI_nat (j := 0) rfl, a, vs, _, _, rfl, rfl, ha, atI_nat hc, _, rfl, ra, _, 0, _, rfl, rfl, hra, atI_nat (j := 0) rfl, c, ws, _, _, rfl, rfl, hws, atI_nat hcell, ?_⟩
  refine ⟨_, rfl, m2, C, dx2, _, _, rfl, hm2, Mc.cl, Mc.n5, mf_table _ _ _ _ _, _, rfl, pa, _, 1, _, rfl, rfl, hpa, atI_nat (j := 1) rfl, a', vs', _, _, rfl, rfl, ha', atI_nat hc', _, rfl, ra, _, 1, _, rfl, rfl, hra, atI_nat (j := 1) rfl, c', ws', _, _, rfl, rfl, hws', atI_nat hcell', ?_⟩
  refine ⟨_, rfl, _, rfl, szl (by omega), _, rfl, by omega, by omega, ?_⟩
  have hn : (((T2 M.T p.1 r.1).length : Nat) : Int).toNat = M.rd.length := by omega
  rw [hn]
  refine for_range (n := M.rd.length) (lo := 0) (fun i σ H1 => ∃ x6 : Option V, σ = [some (V.ref m1), some (.ref m2), some (.ref pa), some (.ref ra), some (.str (T2 M.T p.1 r.1)), some (.str (T2 N.T p.2 r.2)), x6] ∧ H1 = H ∧ ∀ k, k < i → tbM M p.1 r.1 k = tbM N p.2 r.2 k) ⟨none, rfl, rfl, fun k hk => by omega⟩ ?_ ?_
  · rintro i σ H1 hi ⟨x6, rfl, rfl, hk⟩
    rw [Int.zero_add]
    refine ⟨_, rfl, _, rfl, _, (i : Nat), _, rfl, rfl, szl (by omega), atI_nat (ltr_at (by omega)), _, rfl, _, rfl, _, (i : Nat), _, rfl, rfl, szl (by omega), atI_nat (ltr_at (by omega)), rfl, _, rfl, ?_⟩
    by_cases e : tbM M p.1 r.1 i = tbM N p.2 r.2 i
    · refine ifF ?_ ?_
      · have e' : ltr (T2 M.T p.1 r.1) i = ltr (T2 N.T p.2 r.2) i := e
        rw [e']; simp
      · exact ⟨_, rfl, rfl, fun k hk' => by
          by_cases z : k = i
          · rw [z]; exact e
          · exact hk k (by omega)⟩
    · refine ifT ?_ ?_
      · have e' : ¬ ltr (T2 M.T p.1 r.1) i = ltr (T2 N.T p.2 r.2) i := e
        have : ¬ V.str ⟨#[ltr (T2 M.T p.1 r.1) i]⟩ = V.str ⟨#[ltr (T2 N.T p.2 r.2) i]⟩ := fun z => by
          injection z with z
          injection z with z
          exact e' (by simpa using z)
        simp [this]
      · exact ⟨_, rfl, q _ _ (Same.refl _) (.inr ⟨i, hi, rfl, e⟩)⟩
  · rintro σ H1 ⟨x6, rfl, rfl, hk⟩
    exact q _ _ (Same.refl _) (.inl ⟨rfl, hk⟩)
end
end FA
end
section
namespace FA
open PySem PySem.Spec PyProof.Rows L2 FM
--IMPORT Spec5
theorem sc__are_rows : FnScope ["thing", "letters", "row", "state"] ["thing", "letters"] (defScope s__are_rows) := ⟨rfl, rfl, rfl, by decide +kernel, rfl, by decide +kernel, by decide +kernel⟩
section
variable {P : Program} {w : World} {K : PySem.W.Frag} {mg : Str → Option Value} {base : Heap} {C : Addr}
theorem ok__are_rows (D : Df K mg "_are_rows" s__are_rows ["thing", "letters"]) (Z : Glo mg) (Mc : Mcl K mg C) :
    Cal P w K mg base "_are_rows" ["thing", "letters"] 1 sp__are_rows := by
  have nd := sc__are_rows.nd
  refine D.ok sc__are_rows len2 (fun f cdv A outer s H vs Q E hr h => ?_)
  have hu := hu_of hr
  refine ⟨_, (pss_cons (ps_if (PW.pt (pw_or (pt_not (pt_val (kisi K (by rfl) Z.z_isinstance (by decide +kernel) (pa_cons (pv 0) (pa_cons (pe_bltn (v := .ty "list") (by rfl) Z.z_list (by decide +kernel) rfl) pa_nil))))) (pw_or1 (pt_not (pt_chain op_le op_le pe_int (pe_callB klen_seq (by rfl) Z.z_len (by decide +kernel) (pa_cons (pv 0) pa_nil)) (pe_glob (v := .int 40) (by rfl) Z.c_MOST_STATES.choose_spec ⟨_, rfl⟩)))))) (pss_one (ps_ret pe_bl)) pss_nil)
      (pss_cons (ps_for PassesOwn.never rfl (kpi_list K (pv 0)) (pg_name (i := 2) nd rfl (Or.inl rfl)) (pss_cons (ps_if (PW.pt (pw_or (pt_not (pt_val (kisi K (by rfl) Z.z_isinstance (by decide +kernel) (pa_cons (pv 2) (pa_cons (pe_bltn (v := .ty "list") (by rfl) Z.z_list (by decide +kernel) rfl) pa_nil))))) (pw_or1 (pt_cmpR op_ne (pe_callB klen_seq (by rfl) Z.z_len (by decide +kernel) (pa_cons (pv 2) pa_nil)) (pv 1) (nomark _))))) (pss_one (ps_ret pe_bl)) pss_nil)
        (pss_one (ps_for PassesOwn.never rfl (kpi_list K (pv 2)) (pg_name (i := 3) nd rfl (Or.inl rfl)) (pss_one (ps_if (PW.pt (pw_or (pt_not (pt_val (kisi K (by rfl) Z.z_isinstance (by decide +kernel) (pa_cons (pv 3) (pa_cons (pe_bltn (v := .ty "int") (by rfl) Z.z_int (by decide +kernel) rfl) pa_nil))))) (pw_or (pt_val (kisi K (by rfl) Z.z_isinstance (by decide +kernel) (pa_cons (pv 3) (pa_cons (pe_bltn (v := .ty "bool") (by rfl) Z.z_bool (by decide +kernel) rfl) pa_nil)))) (pw_or1 (pt_not (pt_chain op_le op_lt pe_int (pv 3) (pe_callB klen_seq (by rfl) Z.z_len (by decide +kernel) (pa_cons (pv 0) pa_nil)))))))) (pss_one (ps_ret pe_bl)) pss_nil))))))
      (pss_one (ps_ret pe_bl)))), ?_⟩
  obtain ⟨_, _, rfl, rows, n, L, hrows, rfl, wf, n0, hn, hL, q⟩ := h
  obtain ⟨ra, rvs, rfl, hra, prow⟩ := id hrows
  have hrl : rvs.length = n := by rw [pd_len prow, wf.len]
  refine ⟨_, rfl, .ref ra, .ty "list", .type "list", .type "list", true, rfl, .ty "list", .base (.lst hra), kit_ty rfl, true, rfl, ?_⟩
  refine ifF rfl ?_
  refine ⟨_, rfl, ra, rvs, rfl, .inl hra, 1, (rvs.length : Nat), rfl, rfl, _, rfl, ?_⟩
  refine ifT (decide_eq_true (by omega)) ?_
  refine ⟨(rvs.length : Nat), 40, rfl, rfl, _, rfl, ?_⟩
  refine ifF (by rw [decide_eq_true (by omega)]; rfl) ?_
  refine ⟨_, rfl, ra, rfl, ⟨rvs, SqL.of hra⟩, ?_⟩
  refine for_it (walk_list (xs := rvs)) (fun i σ H1 => ∃ x2 x3 : Option V, σ = [some (V.ref ra), some (.int (L : Nat)), x2, x3] ∧ H1 = H) ⟨none, none, rfl, rfl⟩ ?_ ?_ ?_
  · rintro i σ H1 _ ⟨_, _, _, rfl⟩
    exact SqL.of hra
  · rintro i x σ _ H1 hi ⟨x2, x3, rfl, rfl⟩ ⟨rfl, hx⟩
    obtain ⟨r, hr, rb, ws, rfl, hb, pws⟩ := pd_get prow hx
    have hrow := wf.row r (List.mem_of_getElem? hr)
    have hwl : ws.length = L := by rw [pd_len pws, hrow.1]
    refine ⟨_, rfl, .ref rb, .ty "list", .type "list", .type "list", true, rfl, .ty "list", .base (.lst hb), kit_ty rfl, true, rfl, ?_⟩
    refine ifF rfl ?_
    refine ⟨_, rfl, rb, ws, rfl, .inl hb, _, rfl, rfl, _, rfl, ?_⟩
    refine ifF (by rw [hwl]; simp) ?_
    refine ⟨_, rfl, rb, rfl, ⟨ws, SqL.of hb⟩, ?_⟩
    refine for_it (walk_list (xs := ws)) (fun j σ H2 => ∃ x3 : Option V, σ = [some (V.ref ra), some (.int (L : Nat)), some (.ref rb), x3] ∧ H2 = H1) ⟨x3, rfl, rfl⟩ ?_ ?_ ?_
    · rintro j σ H2 _ ⟨_, _, rfl⟩
      exact SqL.of hb
    · rintro j y σ _ H2 hj ⟨x3, rfl, rfl⟩ ⟨rfl, hy⟩
      obtain ⟨s, hs, rfl⟩ := pd_get pws hy
      have hsn := hrow.2 s (List.mem_of_getElem? hs)
      refine ⟨_, rfl, iv s, .ty "int", .type "int", .type "int", true, rfl, .ty "int", .base (.int _), kit_ty rfl, true, rfl, ?_⟩
      refine ifF rfl ?_
      refine ⟨_, rfl, iv s, .ty "bool", .type "int", .type "bool", false, rfl, .ty "bool", .base (.int _), kit_ty rfl, false, rfl, ?_⟩
      refine ifF rfl ?_
      refine ⟨_, rfl, 0, (s : Nat), rfl, rfl, _, rfl, ?_⟩
      refine ifT (decide_eq_true (by omega)) ?_
      refine ⟨_, rfl, ra, rvs, rfl, .inl hra, (s : Nat), (rvs.length : Nat), rfl, rfl, _, rfl, ?_⟩
      refine ifF (by rw [decide_eq_true (by omega)]; rfl) ?_
      exact ⟨_, rfl, rfl⟩
    · rintro σ H2 ⟨x3, rfl, rfl⟩
      exact ⟨_, _, rfl, rfl⟩
  · rintro σ H1 ⟨x2, x3, rfl, rfl⟩
    exact q _ (Same.refl _)
end
end FA
end
section
namespace FA
open PySem PySem.Spec PyProof.Rows L2 FM
--IMPORT Spec5
theorem sc_form : FnScope ["machine", "left", "right", "table", "row"] ["machine"] (defScope s_form) := ⟨rfl, rfl, rfl, by decide +kernel, rfl, by decide +kernel, by decide +kernel⟩
section
variable {P : Program} {w : World} {K : PySem.W.Frag} {mg : Str → Option Value} {base : Heap} {C : Addr}
theorem ok_form (D : Df K mg "form" s_form ["machine"]) (Z : Glo mg) (Mc : Mcl K mg C) :
    Cal P w K mg base "form" ["machine"] 1 (sp_form C) := by
  have nd := sc_form.nd
  refine D.ok sc_form len1 (fun f cdv A outer s H vs Q E hr h => ?_)
  have hu := hu_of hr
  refine ⟨_, (pss_cons (ps_set (i := 1) nd rfl (Or.inl rfl) (pe_callTy ktuple (by rfl) Z.z_tuple (by decide +kernel) (pa_cons (pe_lc (own := [("row", 4)]) (tt := tYes) rfl nd (kpi_list K (kfld K (pv 0) rfl)) (blkOk_by (by kernel_rfl)) (fun _ _ _ _ _ => (pg_name (i := 4) nd rfl (Or.inl rfl))) (fun _ _ _ _ _ => pts_nil) (fun _ _ _ _ _ => (pe_callTy ktuple (by rfl) Z.z_tuple (by decide +kernel) (pa_cons (pv 4) pa_nil)))) pa_nil)))
      (pss_cons (ps_set (i := 2) nd rfl (Or.inl rfl) (pe_callTy ktuple (by rfl) Z.z_tuple (by decide +kernel) (pa_cons (pe_lc (own := [("row", 4)]) (tt := tYes) rfl nd (kpi_list K (kfld K (pv 0) rfl)) (blkOk_by (by kernel_rfl)) (fun _ _ _ _ _ => (pg_name (i := 4) nd rfl (Or.inl rfl))) (fun _ _ _ _ _ => pts_nil) (fun _ _ _ _ _ => (pe_callTy ktuple (by rfl) Z.z_tuple (by decide +kernel) (pa_cons (pv 4) pa_nil)))) pa_nil)))
      (pss_cons (ps_set (i := 3) nd rfl (Or.inl rfl) (pe_callTy ktuple (by rfl) Z.z_tuple (by decide +kernel) (pa_cons (pe_lc (own := [("row", 4)]) (tt := tYes) rfl nd (kpi_list K (kfld K (pv 0) rfl)) (blkOk_by (by kernel_rfl)) (fun _ _ _ _ _ => (pg_name (i := 4) nd rfl (Or.inl rfl))) (fun _ _ _ _ _ => pts_nil) (fun _ _ _ _ _ => (pe_callTy ktuple (by rfl) Z.z_tuple (by decide +kernel) (pa_cons (pv 4) pa_nil)))) pa_nil)))
      (pss_one (ps_ret (pe_tup (pa_cons (kfld K (pv 0) rfl) (pa_cons (kfld K (pv 0) rfl) (pa_cons (pv 1) (pa_cons (pv 2) (pa_cons (pv 3) pa_nil))))))))))), ?_⟩
  obtain ⟨_, rfl, M, ⟨p, dx, l, r, t, rfl, hp, hl, hr', ht⟩, ok, q⟩ := h
  obtain ⟨la, lvs, rfl, hla, pl⟩ := id hl
  obtain ⟨ra, rvs, rfl, hra, pr⟩ := id hr'
  obtain ⟨ta, tvs, rfl, hta, pt⟩ := id ht
  have bL := ok.bL
  have bR := ok.bR
  refine ⟨_, rfl, p, C, dx, _, _, rfl, hp, Mc.cl, Mc.n3, mf_left _ _ _ _ _, la, rfl, ⟨lvs, SqL.of hla⟩, fun D hD => ?_⟩
  refine lcL (R := rT rI) (B := H) (mT mI) M.L (Same.refl H) hD (SqL.of hla) (pd_len pl).symm (szl (by omega)) ?_ ?_
  · intro i x b H1 hx hb s1 nD k hk
    obtain ⟨r0, hr0, rb, ws, rfl, hrb, pws⟩ := pd_get pl hx
    rw [hb] at hr0
    cases hr0
    refine ⟨wp1, _, rfl, rb, ws, rfl, s1 _ _ hrb, fun z hz => ?_⟩
    refine hk _ _ (same_new hz) ⟨z, ws, rfl, ?_, by rw [pd_ints pws]; exact ints_pd _⟩
    rw [offs_get (fun m => nD (by rw [← List.mem_singleton.mp m]; exact hz)) (s1.free hz)]; exact upd_same
  intro H1 s1 res1
  obtain ⟨_, lvs1, e, hl1, pl1⟩ := res1
  cases e
  refine ⟨D, lvs1, rfl, (offs_some hl1).2.2, fun z1 hz1 => ?_⟩
  have s2 : Same H (upd H1 z1 (.tup lvs1)) := same_upd s1 (s1.free hz1)
  have resL : rT (rT rI) (offs H [] (upd H1 z1 (.tup lvs1))) (.ref z1) M.L := ⟨z1, lvs1, rfl, by rw [offs_get (by simp) (s1.free hz1)]; exact upd_same, pd_mono (mT mI) (offs_same (same_new hz1)) pl1⟩
  generalize hH2 : upd H1 z1 (.tup lvs1) = H2 at s2 resL
  clear hH2
  refine ⟨_, rfl, p, C, dx, _, _, rfl, s2 _ _ hp, Mc.cl, Mc.n4, mf_right _ _ _ _ _, ra, rfl, ⟨rvs, SqL.of (s2 _ _ hra)⟩, fun D2 hD2 => ?_⟩
  refine lcL (R := rT rI) (B := H) (mT mI) M.R s2 hD2 (SqL.of (s2 _ _ hra)) (pd_len pr).symm (szl (by omega)) ?_ ?_
  · intro i x b H3 hx hb s3 nD k hk
    obtain ⟨r0, hr0, rb, ws, rfl, hrb, pws⟩ := pd_get pr hx
    rw [hb] at hr0
    cases hr0
    refine ⟨wp1, _, rfl, rb, ws, rfl, s3 _ _ (s2 _ _ hrb), fun z hz => ?_⟩
    refine hk _ _ (same_new hz) ⟨z, ws, rfl, ?_, by rw [pd_ints pws]; exact ints_pd _⟩
    rw [offs_get (fun m => nD (by rw [← List.mem_singleton.mp m]; exact hz)) ((s2.trans s3).free hz)]; exact upd_same
  intro H3 s3 res3
  obtain ⟨_, rvs1, e, hr1, pr1⟩ := res3
  cases e
  refine ⟨D2, rvs1, rfl, (offs_some hr1).2.2, fun z2 hz2 => ?_⟩
  have s23 := s2.trans s3
  have s4 : Same H (upd H3 z2 (.tup rvs1)) := same_upd s23 (s23.free hz2)
  have resR : rT (rT rI) (offs H [] (upd H3 z2 (.tup rvs1))) (.ref z2) M.R := ⟨z2, rvs1, rfl, by rw [offs_get (by simp) (s23.free hz2)]; exact upd_same, pd_mono (mT mI) (offs_same (same_new hz2)) pr1⟩
  replace resL := mT (mT mI) _ _ _ _ (offs_same (B := H) (ds := []) (s3.trans (same_new (o := .tup rvs1) hz2))) resL
  generalize hH4 : upd H3 z2 (.tup rvs1) = H4 at s4 resR resL
  clear hH4
  refine st_eq (t := tSeq _ _) [some (V.ref p), some (.ref z1), some (.ref z2), none, none] rfl ?_
  refine ⟨_, rfl, p, C, dx, _, _, rfl, s4 _ _ hp, Mc.cl, Mc.n5, mf_table _ _ _ _ _, ta, rfl, ⟨tvs, SqL.of (s4 _ _ hta)⟩, fun D3 hD3 => ?_⟩
  refine lcL (R := rT rS) (B := H) (mT mS) M.T s4 hD3 (SqL.of (s4 _ _ hta)) (pd_len pt).symm (szl (by rw [ok.wfT.len]; omega)) ?_ ?_
  · intro i x b H5 hx hb s5 nD k hk
    obtain ⟨r0, hr0, rb, ws, rfl, hrb, pws⟩ := pd_get pt hx
    rw [hb] at hr0
    cases hr0
    refine ⟨wp1, _, rfl, rb, ws, rfl, s5 _ _ (s4 _ _ hrb), fun z hz => ?_⟩
    refine hk _ _ (same_new hz) ⟨z, ws, rfl, ?_, by rw [pd_strs pws]; exact strs_pd _⟩
    rw [offs_get (fun m => nD (by rw [← List.mem_singleton.mp m]; exact hz)) ((s4.trans s5).free hz)]; exact upd_same
  intro H5 s5 res5
  obtain ⟨_, tvs1, e, ht1, pt1⟩ := res5
  cases e
  refine ⟨D3, tvs1, rfl, (offs_some ht1).2.2, fun z3 hz3 => ?_⟩
  have s45 := s4.trans s5
  have s6 : Same H (upd H5 z3 (.tup tvs1)) := same_upd s45 (s45.free hz3)
  have resT : rT (rT rS) (offs H [] (upd H5 z3 (.tup tvs1))) (.ref z3) M.T := ⟨z3, tvs1, rfl, by rw [offs_get (by simp) (s45.free hz3)]; exact upd_same, pd_mono (mT mS) (offs_same (same_new hz3)) pt1⟩
  have s56 := s5.trans (same_new (o := .tup tvs1) hz3)
  replace resL := mT (mT mI) _ _ _ _ (offs_same (B := H) (ds := []) s56) resL
  replace resR := mT (mT mI) _ _ _ _ (offs_same (B := H) (ds := []) s56) resR
  generalize hH6 : upd H5 z3 (.tup tvs1) = H6 at s6 resR resL resT
  clear hH6
  refine ⟨_, rfl, p, C, dx, _, _, rfl, s6 _ _ hp, Mc.cl, Mc.n1, mf_reads _ _ _ _ _, _, rfl, p, C, dx, _, _, rfl, s6 _ _ hp, Mc.cl, Mc.n2, mf_writes _ _ _ _ _, _, rfl, _, rfl, _, rfl, by show 5 ≤ sizeLine; decide, fun z hz => ?_⟩
  have s7 : Same H6 (upd H6 z (.tup [.str M.rd, .str M.wr, .ref z1, .ref z2, .ref z3])) := same_new hz
  exact q _ _ (s6.trans s7) ⟨z, _, _, _, rfl, by rw [offs_get (by simp) (s6.free hz)]; exact upd_same, mT (mT mI) _ _ _ _ (offs_same s7) resL, mT (mT mI) _ _ _ _ (offs_same s7) resR, mT (mT mS) _ _ _ _ (offs_same s7) resT⟩
end
end FA
end
section
namespace FA
open PySem PySem.Spec PyProof.Rows L2 FM
--IMPORT Spec5
theorem sc__along : FnScope ["rows", "start", "indexes", "states", "k"] ["rows", "start", "indexes"] (defScope s__along) := ⟨rfl, rfl, rfl, by decide +kernel, rfl, by decide +kernel, by decide +kernel⟩
section
variable {P : Program} {w : World} {K : PySem.W.Frag} {mg : Str → Option Value} {base : Heap} {C : Addr}
theorem ok__along (D : Df K mg "_along" s__along ["rows", "start", "indexes"]) (Z : Glo mg) (Mc : Mcl K mg C) :
    Cal P w K mg base "_along" ["rows", "start", "indexes"] 1 sp__along := by
  have nd := sc__along.nd
  refine D.ok sc__along len3 (fun f cdv A outer s H vs Q E hr h => ?_)
  have hu := hu_of hr
  refine ⟨_, (pss_cons (ps_set (i := 3) nd rfl (Or.inl rfl) (pe_lst (pa_cons (pv 1) pa_nil)))
      (pss_cons (ps_for PassesOwn.never rfl (kpi_list K (pv 2)) (pg_name (i := 4) nd rfl (Or.inl rfl)) (pss_one (ps_expr (kbm K PySem.F.plainAttrs_list PySem.F.slot_list_append PySem.F.type_list_append mt_append (pv 3) (pa_cons (pe_ix kix_list (pe_ix kix_list (pv 0) (pe_ix kix_list (pv 3) (pe_un un_neg pe_int) (fun _ _ => rfl)) (fun _ _ => rfl)) (pv 4) (fun _ _ => rfl)) pa_nil)))))
      (pss_one (ps_ret (pv 3))))), ?_⟩
  obtain ⟨ra0, _, ca0, rfl, rows, n, L, st, w, hrows, rfl, ⟨ca, cvs, rfl, hca, pc⟩, wf, hs, hw, hl, q⟩ := h
  obtain ⟨ra, rvs, rfl, hra, prow⟩ := id hrows
  have hcl := pd_len pc
  refine ⟨_, rfl, by show 1 ≤ sizeLine; decide, fun o ho => ?_⟩
  refine ⟨_, rfl, ca, rfl, ⟨cvs, SqL.of (same_new ho _ _ hca)⟩, ?_⟩
  refine for_it (walk_list (xs := cvs)) (fun i σ H1 => ∃ x4 : Option V, σ = [some (V.ref ra), some (.int (st : Nat)), some (.ref ca), some (.ref o), x4] ∧ Same H H1 ∧ H1 o = some (.lst ((al (at2 rows) st (w.take i)).map iv))) ⟨none, rfl, same_new ho, upd_same⟩ ?_ ?_ ?_
  · rintro i σ H1 _ ⟨_, _, s, _⟩
    exact SqL.of (s _ _ hca)
  · rintro i x σ _ H1 hi ⟨x4, rfl, s1, ho1⟩ ⟨rfl, hx⟩
    obtain ⟨k, hk, rfl⟩ := pd_get pc hx
    have hkn := hw k (List.mem_of_getElem? hk)
    have hwi : Wd L (w.take i) := fun z hz => hw z (List.mem_of_mem_take hz)
    have hlt := wf.stL hs hwi
    obtain ⟨a, vs, rb, ws, ea, ha, hrb, hb, hc⟩ := rows_at (mRows _ _ _ _ s1 hrows) wf hlt hkn
    cases ea
    have hal : (al (at2 rows) st (w.take i)).map iv = (alI (at2 rows) st (w.take i)).map iv ++ [iv (stL (at2 rows) st (w.take i))] := by rw [al, List.map_append]; rfl
    have hlen : ((al (at2 rows) st (w.take i)).map iv).length ≤ 9001 := by
      rw [List.length_map, al, List.length_append, alI_len, List.length_take]
      show min i w.length + 1 ≤ 9001
      omega
    refine ⟨_, rfl, .inl ⟨rfl, _, SqL.of ho1⟩, _, rfl, _, rfl, 1, rfl, o, _, _, _, rfl, rfl, ho1, by rw [hal]; exact atI_last _ _, ra, vs, _, _, rfl, rfl, ha, atI_nat hrb, _, rfl, rb, ws, _, _, rfl, rfl, hb, atI_nat hc, ?_⟩
    refine ⟨o, _, _, rfl, rfl, ho1, sz (by omega), ?_⟩
    refine ⟨_, rfl, same_upd s1 ho, ?_⟩
    rw [upd_same, List.take_add_one, hk]
    show _ = some (HO.lst ((al (at2 rows) st (w.take i ++ [k])).map iv))
    rw [al_snoc, List.map_append]
    rfl
  · rintro σ H1 ⟨x4, rfl, s1, ho1⟩
    rw [List.take_of_length_le (by rw [hcl]; exact Nat.le_refl _)] at ho1
    refine ⟨_, rfl, ?_⟩
    exact q _ _ s1 ⟨o, _, rfl, by rw [offs_get (by simp) ho]; exact ho1, ints_pd _⟩
end
end FA
end
section
namespace FA
open PySem PySem.Spec PyProof.Rows L2 FM
--IMPORT Spec6
theorem sc_state_pairs : FnScope ["count", "b", "a"] ["count"] (defScope s_state_pairs) := ⟨rfl, rfl, rfl, by decide +kernel, rfl, by decide +kernel, by decide +kernel⟩
section
variable {P : Program} {w : World} {K : PySem.W.Frag} {mg : Str → Option Value} {base : Heap} {C : Addr}
theorem ok_state_pairs (D : Df K mg "state_pairs" s_state_pairs ["count"]) (Z : Glo mg) (Mc : Mcl K mg C) :
    Cal P w K mg base "state_pairs" ["count"] 1 sp_state_pairs := by
  have nd := sc_state_pairs.nd
  refine D.ok sc_state_pairs len1 (fun f cdv A outer s H vs Q E hr h => ?_)
  have hu := hu_of hr
  refine ⟨_, (pss_one (ps_ret (pe_lc2 (own := [("b", 1), ("a", 2)]) (vs1 := [2]) (tt := tYes) (tt1 := tYes) rfl nd (pi_range1 (by rfl) Z.z_range (pa_cons (pv 0) pa_nil)) (blkOk_by (by kernel_rfl)) (by decide) (fun _ _ _ _ _ => (pg_name (i := 1) nd rfl (Or.inl rfl))) (fun _ _ _ _ _ => pts_nil) (fun _ _ _ _ _ => (pi_range1 (by rfl) Z.z_range (pa_cons (pv 1) pa_nil))) (fun _ _ _ _ _ => (pg_name (i := 2) nd rfl (Or.inl rfl))) (fun _ _ _ _ _ => pts_nil) (fun _ _ _ _ _ => (pe_tup (pa_cons (pv 2) (pa_cons (pv 1) pa_nil))))))), ?_⟩
  obtain ⟨_, rfl, n, rfl, hn, q⟩ := h
  refine ⟨_, rfl, (n : Nat), rfl, by omega, by omega, fun D hD => ?_⟩
  have e0 : ((n : Nat) : Int).toNat = n := by omega
  rw [e0]
  have part : ∀ b, b < n → ∀ j, j ≤ b → ∃ r, prs n = (prs b ++ (List.range j).map (fun a => (a, b))) ++ r := fun b hb j hj => by
    have h1 : prs (b + 1) = prs b ++ (List.range b).map fun a => (a, b) := by unfold prs; rw [List.range_succ, List.flatMap_append]; simp
    have h2 : ∃ r, prs n = prs (b + 1) ++ r := by
      obtain ⟨m, rfl⟩ := Nat.exists_eq_add_of_le (show b + 1 ≤ n from hb)
      unfold prs
      rw [List.range_add, List.flatMap_append]
      exact ⟨_, rfl⟩
    obtain ⟨r, h2⟩ := h2
    obtain ⟨m, hm⟩ := Nat.exists_eq_add_of_le hj
    have h3 : (List.range b).map (fun a => (a, b)) = (List.range j).map (fun a => (a, b)) ++ ((List.range m).map fun a => (j + a, b)) := by
      conv => lhs; rw [hm, List.range_add, List.map_append, List.map_map]
      rw [← hm]
      rfl
    exact ⟨((List.range m).map fun a => (j + a, b)) ++ r, by rw [h2, h1, h3]; simp only [List.append_assoc]⟩
  have hlen := prs_len n hn
  refine ⟨fun i m H1 => m = n - i ∧ i ≤ n ∧ Same H H1 ∧ ∃ acc, H1 D = some (.lst acc) ∧ Paired (rPr (offs H [D] H1)) acc (prs i), ⟨n, rfl, Nat.zero_le _, same_new hD, [], upd_same, .nil⟩, ?_⟩
  rintro i m H1 ⟨rfl, hi, s1, acc, hacc, pacc⟩
  by_cases hlt : i < n
  · refine .inr ⟨hlt, fun H' => Same H H' ∧ ∃ acc, H' D = some (.lst acc) ∧ Paired (rPr (offs H [D] H')) acc (prs (i + 1)), fun H' ⟨a, b⟩ => ⟨n - (i + 1), by omega, rfl, hlt, a, b⟩, ?_⟩
    rintro x H' ⟨rfl, rfl⟩
    rw [Int.zero_add]
    refine ⟨rfl, ?_⟩
    refine ⟨_, rfl, (i : Nat), rfl, by omega, by omega, ?_⟩
    have e1 : ((i : Nat) : Int).toNat = i := by omega
    rw [e1]
    refine ⟨fun j k H2 => k = i - j ∧ j ≤ i ∧ Same H H2 ∧ ∃ acc, H2 D = some (.lst acc) ∧ Paired (rPr (offs H [D] H2)) acc (prs i ++ (List.range j).map fun a => (a, i)), ⟨i, rfl, Nat.zero_le _, s1, acc, hacc, by simpa using pacc⟩, ?_⟩
    rintro j k H2 ⟨rfl, hj, s2, acc2, hacc2, pacc2⟩
    by_cases hlt2 : j < i
    · refine .inr ⟨hlt2, fun H' => Same H H' ∧ ∃ acc, H' D = some (.lst acc) ∧ Paired (rPr (offs H [D] H')) acc (prs i ++ (List.range (j + 1)).map fun a => (a, i)), fun H' ⟨a, b⟩ => ⟨i - (j + 1), by omega, rfl, hlt2, a, b⟩, ?_⟩
      rintro x H' ⟨rfl, rfl⟩
      rw [Int.zero_add]
      refine ⟨rfl, ?_⟩
      refine ⟨_, rfl, _, rfl, by show 2 ≤ sizeLine; decide, fun p hp => ?_⟩
      have s3 : Same H' (upd H' p (.tup [.int (j : Nat), .int (i : Nat)])) := same_new hp
      have nD : p ≠ D := fun e => by rw [e, hacc2] at hp; cases hp
      obtain ⟨r, hr'⟩ := part i hlt j hj
      have hl := congrArg List.length hr'
      rw [List.length_append] at hl
      refine ⟨acc2, s3 _ _ hacc2, ?_, same_upd (s2.trans s3) hD, _, upd_same, ?_⟩
      · rw [pd_len pacc2]; exact sz (by omega)
      · rw [offs_upd (by simp), List.range_succ, List.map_append, ← List.append_assoc]
        exact pd_snoc (pd_mono mPr (offs_same s3) pacc2) ⟨p, _, _, rfl, by rw [offs_get (by simpa using nD) (s2.free hp)]; exact upd_same, rfl, rfl⟩
    · have : j = i := by omega
      subst this
      refine .inl ⟨Nat.le_refl _, s2, acc2, hacc2, ?_⟩
      have : prs (j + 1) = prs j ++ (List.range j).map fun a => (a, j) := by unfold prs; rw [List.range_succ, List.flatMap_append]; simp
      rw [this]; exact pacc2
  · have : i = n := by omega
    subst this
    refine .inl ⟨Nat.le_refl _, ?_⟩
    refine q _ _ s1 ⟨D, acc, rfl, by rw [offs_get (by simp) hD]; exact hacc, ?_⟩
    exact pd_mono mPr (offs_shrink (by simp)) pacc
end
end FA
end
section
namespace FA
open PySem PySem.Spec PyProof.Rows L2 FM
--IMPORT Spec6
theorem sc__require_alike : FnScope ["one", "two"] ["one", "two"] (defScope s__require_alike) := ⟨rfl, rfl, rfl, by decide +kernel, rfl, by decide +kernel, by decide +kernel⟩
section
variable {P : Program} {w : World} {K : PySem.W.Frag} {mg : Str → Option Value} {base : Heap} {C : Addr}
theorem ok__require_alike (D : Df K mg "_require_alike" s__require_alike ["one", "two"]) (Z : Glo mg) (Mc : Mcl K mg C) :
    Cal P w K mg base "_require_alike" ["one", "two"] 1 (sp__require_alike C) := by
  have nd := sc__require_alike.nd
  refine D.ok sc__require_alike len2 (fun f cdv A outer s H vs Q E hr h => ?_)
  have hu := hu_of hr
  refine ⟨_, (pss_one (ps_if (pt_cmpR op_ne (kfld K (pv 0) rfl) (kfld K (pv 1) rfl) (nomark _)) pss_never pss_nil)), ?_⟩
  obtain ⟨_, _, rfl, M, N, ⟨m1, dx1, l1, r1, t1, rfl, hm1, _⟩, ⟨m2, dx2, l2, r2, t2, rfl, hm2, _⟩, hrd, q⟩ := h
  refine ⟨_, rfl, m1, C, dx1, _, _, rfl, hm1, Mc.cl, Mc.n1, mf_reads _ _ _ _ _, _, rfl, m2, C, dx2, _, _, rfl, hm2, Mc.cl, Mc.n1, mf_reads _ _ _ _ _, rfl, _, rfl, ?_⟩
  refine ifF (by rw [hrd]; simp) ?_
  exact q _ (Same.refl _)
end
end FA
end
section
namespace FA
open PySem PySem.Spec PyProof.Rows L2 FM
--IMPORT Spec7
theorem sc__are_closed : FnScope ["one", "two", "pairs", "a", "b", "pair"] ["one", "two", "pairs"] (defScope s__are_closed) := ⟨rfl, rfl, rfl, by decide +kernel, rfl, by decide +kernel, by decide +kernel⟩
section
variable {P : Program} {w : World} {K : PySem.W.Frag} {mg : Str → Option Value} {base : Heap} {C : Addr}
theorem ok__are_closed (D : Df K mg "_are_closed" s__are_closed ["one", "two", "pairs"]) (Z : Glo mg) (Mc : Mcl K mg C) :
    Cal P w K mg base "_are_closed" ["one", "two", "pairs"] 1 sp__are_closed := by
  have nd := sc__are_closed.nd
  refine D.ok sc__are_closed len3 (fun f cdv A outer s H vs Q E hr h => ?_)
  have hu := hu_of hr
  refine ⟨_, (pss_cons (ps_if (pt_cmpR (knotInD K (un65 hr)) (pe_tup (pa_cons pe_int (pa_cons pe_int pa_nil))) (pv 2) rfl) (pss_one (ps_ret pe_bl)) pss_nil)
      (pss_cons (ps_for PassesOwn.never rfl (kpi_list K (pv 2)) (kpg_tup K (n := 2) rfl (pgs_cons (pg_name (i := 3) nd rfl (Or.inl rfl)) (pgs_cons (pg_name (i := 4) nd rfl (Or.inl rfl)) pgs_nil))) (pss_cons (ps_if (PW.pt (pw_or (pt_not (pt_chain op_le op_lt pe_int (pv 3) (pe_callB klen_seq (by rfl) Z.z_len (by decide +kernel) (pa_cons (pv 0) pa_nil)))) (pw_or1 (pt_not (pt_chain op_le op_lt pe_int (pv 4) (pe_callB klen_seq (by rfl) Z.z_len (by decide +kernel) (pa_cons (pv 1) pa_nil))))))) (pss_one (ps_ret pe_bl)) pss_nil)
        (pss_one (ps_if (pt_not (pt_val (pe_callB (kall rfl) (by rfl) Z.z_all (by decide +kernel) (pa_cons (pe_lc (own := [("pair", 5)]) (tt := tYes) rfl nd (kpi_zipN K (by rfl) Z.z_zip (pa_cons (pe_ix kix_list (pv 0) (pv 3) (fun _ _ => rfl)) (pa_cons (pe_ix kix_list (pv 1) (pv 4) (fun _ _ => rfl)) pa_nil))) (blkOk_by (by kernel_rfl)) (fun _ _ _ _ _ => (pg_name (i := 5) nd rfl (Or.inl rfl))) (fun _ _ _ _ _ => pts_nil) (fun _ _ _ _ _ => (pe_cmpR (kinD K (un65 hr)) (pv 5) (pv 2) rfl))) pa_nil)))) (pss_one (ps_ret pe_bl)) pss_nil))))
      (pss_one (ps_ret pe_bl)))), ?_⟩
  obtain ⟨_, _, _, rfl, r1, r2, n, m, L, ps, h1, h2, h3, wf1, wf2, hn, hm, hL, cl, q⟩ := h
  obtain ⟨a1, vs1, rfl, ha1, p1⟩ := id h1
  obtain ⟨a2, vs2, rfl, ha2, p2⟩ := id h2
  obtain ⟨a3, vs3, rfl, ha3, p3⟩ := id h3
  have dl : ∀ Hx, Same H Hx → Dp K Hx (.ref a3) (.list (ps.map dPP)) := fun Hx s => dr_L dr_PP K Hx _ _ (mL mPr _ _ _ _ s h3)
  have sl : SeqAt.shaped (.list (ps.map dPP)) = true := (sh_L (fun x _ => sh_PP x)).ok (by decide)
  have l1 : vs1.length = n := by rw [pd_len p1, wf1.len]
  have l2 : vs2.length = m := by rw [pd_len p2, wf2.len]
  refine ⟨by show 2 ≤ sizeLine; decide, fun z hz => ?_⟩
  have s1 : Same H (upd H z (.tup [.int 0, .int 0])) := same_new hz
  refine ⟨_, rfl, dPP (0, 0), ps.map dPP, dr_PP K _ _ (0, 0) ⟨z, _, _, rfl, upd_same, rfl, rfl⟩, dl _ s1, (sh_PP _).ok (by decide), sl, _, rfl, ?_⟩
  refine ifF (by rw [(any_eq de_PP (0, 0) ps).mpr cl.zero]; rfl) ?_
  refine ⟨_, rfl, a3, rfl, ⟨vs3, SqL.of (s1 _ _ ha3)⟩, ?_⟩
  refine for_it (walk_list (xs := vs3)) (fun i σ Hx => ∃ x3 x4 x5 : Option V, σ = [some (V.ref a1), some (.ref a2), some (.ref a3), x3, x4, x5] ∧ Same H Hx) ⟨none, none, none, rfl, s1⟩ ?_ ?_ ?_
  · rintro i σ Hx _ ⟨_, _, _, _, s⟩
    exact SqL.of (s _ _ ha3)
  · rintro i x σ _ Hx hi ⟨x3, x4, x5, rfl, s⟩ ⟨rfl, hx⟩
    obtain ⟨p, hp, tp, _, _, rfl, htp, rfl, rfl⟩ := pd_get p3 hx
    have hpm := List.mem_of_getElem? hp
    have hr := cl.rng p hpm
    rw [wf1.len, wf2.len] at hr
    refine ⟨tp, _, rfl, SqT.of (s _ _ htp), rfl, _, _, rfl, _, _, rfl, rfl, ?_⟩
    refine ⟨_, rfl, 0, (p.1 : Nat), rfl, rfl, _, rfl, ?_⟩
    refine ifT (decide_eq_true (by omega)) ?_
    refine ⟨_, rfl, a1, vs1, rfl, .inl (s _ _ ha1), (p.1 : Nat), (vs1.length : Nat), rfl, rfl, _, rfl, ?_⟩
    refine ifF (by rw [decide_eq_true (by omega)]; rfl) ?_
    refine ⟨_, rfl, 0, (p.2 : Nat), rfl, rfl, _, rfl, ?_⟩
    refine ifT (decide_eq_true (by omega)) ?_
    refine ⟨_, rfl, a2, vs2, rfl, .inl (s _ _ ha2), (p.2 : Nat), (vs2.length : Nat), rfl, rfl, _, rfl, ?_⟩
    refine ifF (by rw [decide_eq_true (by omega)]; rfl) ?_
    obtain ⟨b1, ws1, c1, us1, e1, hb1, hc1, hu1, pu1⟩ := rows_get (i := p.1) h1 (getD_some (d := []) (by rw [wf1.len]; exact hr.1))
    cases e1
    obtain ⟨b2, ws2, c2, us2, e2, hb2, hc2, hu2, pu2⟩ := rows_get (i := p.2) h2 (getD_some (d := []) (by rw [wf2.len]; exact hr.2))
    cases e2
    have hw1 := wf1.getRow hr.1
    have hw2 := wf2.getRow hr.2
    have k1 : us1.length = L := by rw [pd_len pu1]; exact hw1.1
    have k2 : us2.length = L := by rw [pd_len pu2]; exact hw2.1
    refine ⟨_, rfl, _, rfl, a1, ws1, _, _, rfl, rfl, s _ _ hb1, atI_nat hc1, _, rfl, _, rfl, a2, ws2, _, _, rfl, rfl, s _ _ hb2, atI_nat hc2, c1, c2, us1, us2, rfl, SqL.of (s _ _ hu1), SqL.of (s _ _ hu2), fun D hD => ?_⟩
    have wk := walk_zip (K := K) (a := c1) (b := c2) (xs := us1) (ys := us2) (n := L) (by omega)
    refine lcG (R := rBl) (B := Hx) mB (List.replicate L true) (Same.refl Hx) hD (n := L) (by simp) (szl (by rw [List.length_replicate]; omega)) (fun i Hy hi sy => wk.goes i Hy hi ⟨SqL.of (sy _ _ (s _ _ hu1)), SqL.of (sy _ _ (s _ _ hu2))⟩) (fun Hy sy => wk.stops Hy ⟨SqL.of (sy _ _ (s _ _ hu1)), SqL.of (sy _ _ (s _ _ hu2))⟩) ?_ ?_
    · intro j y b Hy H0 hj hb sy nD hyl k hk
      obtain ⟨T, u, u', rfl, hT, rfl, ex, ey⟩ := wk.yields j Hy y H0 hj ⟨SqL.of (sy _ _ (s _ _ hu1)), SqL.of (sy _ _ (s _ _ hu2))⟩ hyl
      have hbe : b = true := (List.mem_replicate.mp (List.mem_of_getElem? hb)).2
      subst hbe
      have eu : u = iv (at2 r1 p.1 j) := by
        replace ex : us1[j]? = some u := ex
        rw [pd_ints pu1, List.getElem?_map, getD_some (d := 0) (by rw [hw1.1]; exact hj)] at ex
        exact (Option.some.inj ex).symm
      have eu' : u' = iv (at2 r2 p.2 j) := by
        replace ey : us2[j]? = some u' := ey
        rw [pd_ints pu2, List.getElem?_map, getD_some (d := 0) (by rw [hw2.1]; exact hj)] at ey
        exact (Option.some.inj ey).symm
      subst eu eu'
      have sT : Same Hy (upd Hy T (.tup [iv (at2 r1 p.1 j), iv (at2 r2 p.2 j)])) := same_new hT
      refine ⟨wp1, _, rfl, _, rfl, dPP (at2 r1 p.1 j, at2 r2 p.2 j), ps.map dPP, dr_PP K _ _ (at2 r1 p.1 j, at2 r2 p.2 j) ⟨T, _, _, rfl, upd_same, rfl, rfl⟩, dl _ ((s.trans sy).trans sT), (sh_PP _).ok (by decide), sl, ?_⟩
      refine hk _ _ sT ?_
      show V.bl _ = V.bl true
      rw [(any_eq de_PP _ ps).mpr (cl.step p hpm j hj)]
    · intro Hy sy res
      obtain ⟨_, bvs, e, hb, pb⟩ := res
      cases e
      refine ⟨D, _, rfl, by rw [(offs_some hb).2.2, pd_bls pb], ?_⟩
      rw [all_true]
      refine ⟨true, rfl, ?_⟩
      refine iteF ?_
      exact ⟨_, _, _, rfl, s.trans sy⟩
  · rintro σ Hx ⟨x3, x4, x5, rfl, s⟩
    exact q _ s
end
end FA
end
section
namespace FA
open PySem PySem.Spec PyProof.Rows L2 FM
--IMPORT SpecL
--SUB klen_seq call_len_seq
--SUB kix_list ix_list
theorem sc__law_cell : FnScope ["_law_script", "_law_k"] ["_law_script", "_law_k"] (defScope s__law_cell) := ⟨rfl, rfl, rfl, by decide +kernel, rfl, by decide +kernel, by decide +kernel⟩
section
variable {P : Program} {w : World} {K : PySem.W.Frag} {mg : Str → Option Value} {base : Heap} {C : Addr}
theorem ok__law_cell (D : Df K mg "_law_cell" s__law_cell ["_law_script", "_law_k"]) (Z : Glo mg) (Mc : Mcl K mg C) :
    Cal P w K mg base "_law_cell" ["_law_script", "_law_k"] 1 (sp__law_cell K) := by
  have nd := sc__law_cell.nd
  refine D.ok sc__law_cell len2 (fun f cdv A outer s H vs Q E hr h => ?_)
  have hu := hu_of hr
  refine ⟨_, (pss_cons (ps_if (pt_cmpR op_lt (pv 1) (pe_callB call_len_seq (by rfl) Z.z_len (by decide +kernel) (pa_cons (pv 0) pa_nil)) (nomark _)) (pss_one (ps_ret (pe_ix ix_list (pv 0) (pv 1) (fun _ _ => rfl)))) pss_nil)
      (pss_one (ps_ret pe_int))), ?_⟩
  obtain ⟨_, _, rfl, p, ns, rfl, hs, ⟨k, rfl⟩, q⟩ := h
  refine ⟨_, rfl, _, rfl, p, _, rfl, .inl hs, (k : Nat), ((ns.map V.int).length : Nat), rfl, rfl, _, rfl, ?_⟩
  by_cases hk : k < ns.length
  · refine ifT (decide_eq_true (by rw [List.length_map]; omega)) ?_
    exact ⟨_, rfl, _, rfl, p, _, (k : Nat), .int ns[k], rfl, rfl, hs, atI_nat (by rw [List.getElem?_map, List.getElem?_eq_getElem hk]; rfl), q _⟩
  · refine ifF (decide_eq_false (by rw [List.length_map]; omega)) ?_
    exact q 0
end
end FA
end
section
namespace FA
open PySem PySem.Spec PyProof.Rows L2 FM
--IMPORT SpecL
theorem sc__law_draw : FnScope ["_law_box", "_law_many", "_law_at"] ["_law_box", "_law_many"] (defScope s__law_draw) := ⟨rfl, rfl, rfl, by decide +kernel, rfl, by decide +kernel, by decide +kernel⟩
section
variable {P : Program} {w : World} {K : PySem.W.Frag} {mg : Str → Option Value} {base : Heap} {C : Addr}
theorem ok__law_draw (D : Df K mg "_law_draw" s__law_draw ["_law_box", "_law_many"]) (Z : Glo mg) (Mc : Mcl K mg C) :
    Cal P w K mg base "_law_draw" ["_law_box", "_law_many"] 1 sp__law_draw := by
  have nd := sc__law_draw.nd
  refine D.ok sc__law_draw len2 (fun f cdv A outer s H vs Q E hr h => ?_)
  have hu := hu_of hr
  refine ⟨_, (pss_cons (ps_set (i := 2) nd rfl (Or.inl rfl) (pe_ix kix_list (pv 0) pe_int (fun _ _ => rfl)))
      (pss_cons (ps_asg (pe_op op_add (pv 2) pe_int) (pg_sub (pv 0) pe_int set_list))
      (pss_cons (ps_if (pt_cmpR op_lt (pv 2) (pe_callB klen_seq (by rfl) Z.z_len (by decide +kernel) (pa_cons (pe_ix kix_list (pv 0) pe_int (fun _ _ => rfl)) pa_nil)) (nomark _)) (pss_one (ps_ret (pe_op op_mod (pe_callTy call_int1 (by rfl) Z.z_int (by decide +kernel) (pa_cons (pe_ix kix_list (pe_ix kix_list (pv 0) pe_int (fun _ _ => rfl)) (pv 2) (fun _ _ => rfl)) pa_nil)) (pv 1)))) pss_nil)
      (pss_one (ps_ret (pe_op op_mod (pe_callTy call_int1 (by rfl) Z.z_int (by decide +kernel) (pa_cons (pe_op op_add (pe_op op_mul (pv 2) pe_int) pe_int) pa_nil)) (pv 1))))))), ?_⟩
  obtain ⟨_, _, rfl, b, ro, m, rfl, ⟨row, at_, hb, hro⟩, rfl, hm, q⟩ := h
  have nr := BoxAt.row hb hro
  refine ⟨_, rfl, b, _, 1, _, rfl, rfl, hb, atI_nat (j := 1) rfl, ?_⟩
  refine ⟨_, rfl, (at_ : Nat), 1, rfl, rfl, _, rfl, b, _, 1, 1, rfl, rfl, hb, rfl, ?_⟩
  have hb1 : (upd H b (.lst [.ref ro, .int ((at_ : Int) + 1)])) b = some (.lst [.ref ro, .int ((at_ : Int) + 1)]) := upd_same
  have hr1 : (upd H b (.lst [.ref ro, .int ((at_ : Int) + 1)])) ro = some (.lst (row.map V.int)) := by rw [upd_ne nr]; exact hro
  have k1 : Keep b H (upd H b (.lst [.ref ro, .int ((at_ : Int) + 1)])) := fun c o h n => by rw [upd_ne n]; exact h
  have bx : BoxAt b ro (upd H b (.lst [.ref ro, .int ((at_ : Int) + 1)])) := ⟨row, at_ + 1, hb1, hr1⟩
  have fin : ∀ z : Int, ∃ r : Nat, r < m ∧ z % (m : Int) = (r : Int) := fun z => ⟨(z % (m : Int)).toNat, by
    have h1 := Int.emod_nonneg z (show (m : Int) ≠ 0 by omega)
    have h2 := Int.emod_lt_of_pos z (show (0 : Int) < m by omega)
    omega, by
    have h1 := Int.emod_nonneg z (show (m : Int) ≠ 0 by omega)
    omega⟩
  refine ⟨_, rfl, _, rfl, b, _, 0, _, rfl, rfl, hb1, atI_nat (j := 0) rfl, ro, _, rfl, .inl hr1, (at_ : Nat), ((row.map V.int).length : Nat), rfl, rfl, _, rfl, ?_⟩
  by_cases hlt : at_ < row.length
  · refine ifT (decide_eq_true (by rw [List.length_map]; omega)) ?_
    obtain ⟨r, hr, e⟩ := fin row[at_]
    refine ⟨_, rfl, b, _, 0, _, rfl, rfl, hb1, atI_nat (j := 0) rfl, _, rfl, ro, _, (at_ : Nat), .int row[at_], rfl, rfl, hr1, atI_nat (by rw [List.getElem?_map, List.getElem?_eq_getElem hlt]; rfl), .inl ⟨row[at_], rfl, _, rfl, row[at_], (m : Nat), rfl, rfl, by omega, ?_⟩⟩
    show Q (.int (row[at_] % (m : Int))) _
    rw [e]
    exact q r hr _ k1 bx
  · refine ifF (decide_eq_false (by rw [List.length_map]; omega)) ?_
    obtain ⟨r, hr, e⟩ := fin ((at_ : Int) * 5 + 1)
    refine ⟨_, rfl, (at_ : Nat), 5, rfl, rfl, .inr ⟨by decide, by decide⟩, _, _, rfl, rfl, .inl ⟨_, rfl, _, rfl, _, (m : Nat), rfl, rfl, by omega, ?_⟩⟩
    show Q (.int (((at_ : Int) * 5 + 1) % (m : Int))) _
    rw [e]
    exact q r hr _ k1 bx
end
end FA
end
section
namespace FA
open PySem PySem.Spec PyProof.Rows L2 FM
--IMPORT Spec5
theorem sc_left_words : FnScope ["machine"] ["machine"] (defScope s_left_words) := ⟨rfl, rfl, rfl, by decide +kernel, rfl, by decide +kernel, by decide +kernel⟩
section
variable {P : Program} {w : World} {K : PySem.W.Frag} {mg : Str → Option Value} {base : Heap} {C : Addr}
theorem ok_left_words (D : Df K mg "left_words" s_left_words ["machine"]) (Z : Glo mg) (Mc : Mcl K mg C) (C_reached_behind : Cal P w K mg base "reached_behind" ["rows", "start"] 1 sp_reached_behind) :
    Cal P w K mg base "left_words" ["machine"] 2 (sp_left_words C) := by
  have nd := sc_left_words.nd
  refine D.ok sc_left_words len1 (fun f cdv A outer s H vs Q E hr h => ?_)
  have hu := hu_of hr
  refine ⟨_, (pss_one (ps_ret (pe_cal C_reached_behind (hr.mono (by decide)) (by rfl) (pa_cons (kfld K (pv 0) rfl) (pa_cons pe_int pa_nil))))), ?_⟩
  obtain ⟨_, rfl, M, ⟨p, dx, l, r, t, rfl, hp, hl, hr', ht⟩, ok, q⟩ := h
  exact ⟨_, rfl, p, C, dx, _, l, rfl, hp, Mc.cl, Mc.n3, mf_left _ _ _ _ _, _, _, rfl, M.L, M.L.length, M.rd.length, hl, rfl, ok.wfL, ok.pL, ok.bL, ok.k, q⟩
end
end FA
end
section
namespace FA
open PySem PySem.Spec PyProof.Rows L2 FM
--IMPORT Spec5
theorem sc_right_words : FnScope ["machine"] ["machine"] (defScope s_right_words) := ⟨rfl, rfl, rfl, by decide +kernel, rfl, by decide +kernel, by decide +kernel⟩
section
variable {P : Program} {w : World} {K : PySem.W.Frag} {mg : Str → Option Value} {base : Heap} {C : Addr}
theorem ok_right_words (D : Df K mg "right_words" s_right_words ["machine"]) (Z : Glo mg) (Mc : Mcl K mg C) (C_reached_in_front : Cal P w K mg base "reached_in_front" ["rows", "start", "letters"] 1 sp_reached_in_front) :
    Cal P w K mg base "right_words" ["machine"] 2 (sp_right_words C) := by
  have nd := sc_right_words.nd
  refine D.ok sc_right_words len1 (fun f cdv A outer s H vs Q E hr h => ?_)
  have hu := hu_of hr
  refine ⟨_, (pss_one (ps_ret (pe_cal C_reached_in_front (hr.mono (by decide)) (by rfl) (pa_cons (kfld K (pv 0) rfl) (pa_cons pe_int (pa_cons (pe_callB klen_str (by rfl) Z.z_len (by decide +kernel) (pa_cons (kfld K (pv 0) rfl) pa_nil)) pa_nil)))))), ?_⟩
  obtain ⟨_, rfl, M, ⟨p, dx, l, r, t, rfl, hp, hl, hr', ht⟩, ok, q⟩ := h
  have := ok.k
  exact ⟨_, rfl, p, C, dx, _, r, rfl, hp, Mc.cl, Mc.n4, mf_right _ _ _ _ _, _, rfl, p, C, dx, _, _, rfl, hp, Mc.cl, Mc.n1, mf_reads _ _ _ _ _, M.rd, rfl, szl (by omega), _, _, _, rfl, M.R, M.R.length, M.rd.length, hr', rfl, rfl, ok.wfR, ok.pR, ok.bR, ok.k, q⟩
end
end FA
end
section
namespace FA
open PySem PySem.Spec PyProof.Rows L2 FM
--IMPORT Spec3
theorem sc_classes : FnScope ["rows", "marks", "parts", "count", "keys", "state", "row", "other"] ["rows", "marks"] (defScope s_classes) := ⟨rfl, rfl, rfl, by decide +kernel, rfl, by decide +kernel, by decide +kernel⟩
section
variable {P : Program} {w : World} {K : PySem.W.Frag} {mg : Str → Option Value} {base : Heap} {C : Addr}
theorem ok_classes (D : Df K mg "classes" s_classes ["rows", "marks"]) (Z : Glo mg) (Mc : Mcl K mg C) (C__numbered : Cal P w K mg base "_numbered" ["keys"] 1 sp__numbered) :
    Cal P w K mg base "classes" ["rows", "marks"] 2 sp_classes := by
  have nd := sc_classes.nd
  refine D.ok sc_classes len2 (fun f cdv A outer s H vs Q E hr h => ?_)
  have hu := hu_of hr
  refine ⟨_, (pss_cons (ps_set (i := 2) nd rfl (Or.inr rfl) (pe_cal C__numbered (hr.mono (by decide)) (by rfl) (pa_cons (pv 1) pa_nil)))
      (pss_cons (ps_set (i := 3) nd rfl (Or.inl rfl) (pe_un un_neg pe_int))
      (pss_cons (ps_while PassesOwn.never (pt_cmpR op_ne (pv 3) (pe_callB (kmax rfl) (by rfl) Z.z_max (by decide +kernel) (pa_cons (pv 2) pa_nil)) (nomark _)) (pss_cons (ps_set (i := 3) nd rfl (Or.inl rfl) (pe_callB (kmax rfl) (by rfl) Z.z_max (by decide +kernel) (pa_cons (pv 2) pa_nil)))
        (pss_cons (ps_setLc (i := 4) (own := [("state", 5), ("row", 6)]) (tt := tYes) rfl nd rfl rfl (sw_true rfl rfl rfl (by kernel_rfl)) (kpi_enum K (by rfl) Z.z_enumerate (pa_cons (pv 0) pa_nil)) (blkOk_by (by kernel_rfl)) (fun _ _ _ _ _ => (kpg_tup K (n := 2) rfl (pgs_cons (pg_name (i := 5) nd rfl (Or.inl rfl)) (pgs_cons (pg_name (i := 6) nd rfl (Or.inl rfl)) pgs_nil)))) (fun _ _ _ _ _ => pts_nil) (fun _ _ _ _ _ => (pe_tup (pa_cons (pe_ix kix_list (pv 2) (pv 5) (fun _ _ => rfl)) (pa_cons (pe_callTy ktuple (by rfl) Z.z_tuple (by decide +kernel) (pa_cons (pe_lc (own := [("other", 7)]) (tt := tYes) rfl nd (kpi_list K (pv 6)) (blkOk_by (by kernel_rfl)) (fun _ _ _ _ _ => (pg_name (i := 7) nd rfl (Or.inl rfl))) (fun _ _ _ _ _ => pts_nil) (fun _ _ _ _ _ => (pe_ix kix_list (pv 2) (pv 7) (fun _ _ => rfl)))) pa_nil)) pa_nil)))))
        (pss_one (ps_set (i := 2) nd rfl (Or.inr rfl) (pe_cal C__numbered (hr.mono (by decide)) (by rfl) (pa_cons (pv 4) pa_nil)))))))
      (pss_one (ps_ret (pv 2)))))), ?_⟩
  obtain ⟨_, _, rfl, rows, n, L, ms, hrows, ⟨ma, mvs, rfl, hma, pm⟩, wf, hml, n0, hn, hL, q⟩ := h
  obtain ⟨ra, rvs, rfl, hra, prow⟩ := id hrows
  subst hml
  refine ⟨_, rfl, _, rfl, ms, ⟨ma, mvs, rfl, hma, pm⟩, hn, fun v H1 s1 res => ?_⟩
  refine ⟨1, rfl, ?_⟩
  refine ⟨fun m σ H2 => ∃ (c : Nat) (pa : Addr) (parts : List Nat) (x4 x5 x6 x7 : Option V), σ = [some (V.ref ra), some (.ref ma), some (.ref pa), some (.int ((c : Int) - 1)), x4, x5, x6, x7] ∧ m = ms.length - c ∧ Same H H2 ∧ rL rI (offs H [] H2) (.ref pa) parts ∧ PInv L rows ms parts ∧ c ≤ ms.length ∧ c ≤ mcount parts ∧ (c = 0 ∨ ∃ prev, PInv L rows ms prev ∧ c = mcount prev ∧ parts = numb (keysOf rows prev)), ?_, ?_⟩
  · obtain ⟨pa, pvs, rfl, hpa, pp⟩ := res
    exact ⟨ms.length, 0, pa, numb ms, none, none, none, none, rfl, rfl, s1, ⟨pa, pvs, rfl, hpa, pp⟩, PInv.start, Nat.zero_le _, Nat.zero_le _, .inl rfl⟩
  rintro m σ H2 ⟨c, pa, parts, x4, x5, x6, x7, rfl, rfl, s2, hparts, pinv, hcn, hcm, hprev⟩
  obtain ⟨_, pvs, epa, hpa, pp⟩ := id hparts
  cases epa
  have hpa2 := (offs_some hpa).2.2
  have hpv := pd_ints pp
  subst hpv
  have hpl := pinv.len
  refine ⟨_, rfl, _, rfl, pa, _, rfl, by rw [hpa2, ivs], by rw [List.length_map, hpl]; exact n0, fun mx hmx hub => ?_⟩
  obtain ⟨rfl, mc0⟩ := max_parts pinv n0 hmx hub
  have mcl : mcount parts ≤ ms.length := by rw [← hpl]; exact mcount_le
  refine ⟨rfl, _, rfl, ?_⟩
  by_cases heq : c = mcount parts
  · have : (!decide (V.int ((c : Int) - 1) = V.int ((mcount parts : Nat) - 1))) = false := by rw [heq]; simp
    rw [this]
    refine iteF ?_
    refine ⟨_, rfl, ?_⟩
    rcases hprev with h0 | ⟨prev, hp1, hp2, hp3⟩
    · omega
    · refine q parts ?_ _ _ s2 hparts
      rw [hp3]
      refine hp1.done wf ?_
      have : mcount prev = mcount parts := by omega
      unfold mcount at this
      rw [hp3, ded_numb, List.length_range] at this
      exact this
  · have : (!decide (V.int ((c : Int) - 1) = V.int ((mcount parts : Nat) - 1))) = true := by
      have : ¬ (V.int ((c : Int) - 1) = V.int ((mcount parts : Nat) - 1)) := fun e => by injection e with e; omega
      simp [this]
    rw [this]
    refine iteT ?_
    refine ⟨_, fun _ _ h => h, _, rfl, pa, _, rfl, by rw [hpa2, ivs], by rw [List.length_map, hpl]; exact n0, fun mx hmx hub => ?_⟩
    obtain ⟨rfl, _⟩ := max_parts pinv n0 hmx hub
    have hra2 := s2 _ _ hra
    refine ⟨_, rfl, ra, rvs, rfl, SqL.of hra2, fun D hD => ?_⟩
    have wk := walk_enum (K := K) (a := ra) (xs := rvs)
    have hrl : rvs.length = ms.length := by rw [pd_len prow, wf.len]
    have hkl : (keysOf rows parts).length = ms.length := by rw [keysOf_len, wf.len]
    refine lcG (R := rNk) (B := H) mNk ((keysOf rows parts).map encP) s2 hD (n := rvs.length) (by rw [List.length_map, hkl, hrl]) (szl (by rw [List.length_map, hkl]; omega)) (fun i H hi s => wk.goes i H hi (SqL.of (s _ _ hra2))) (fun H s => wk.stops H (SqL.of (s _ _ hra2))) ?_ ?_
    · intro i x b H3 H0 hi hb s3 nD hy k hk
      obtain ⟨T, u, y, rfl, hT, rfl, e1, e2⟩ := wk.yields i H3 x H0 hi (SqL.of (s3 _ _ hra2)) hy
      cases e1
      replace e2 : rvs[i]? = some y := e2
      have hin : i < ms.length := by omega
      obtain ⟨a, vs, rb, ws, ea, ha, hrb, hb2, pws⟩ := rows_get (i := i) hrows (getD_some (d := []) (by rw [wf.len]; exact hin))
      cases ea
      rw [hra] at ha
      injection ha with ha
      injection ha with ha
      subst ha
      rw [hrb] at e2
      cases e2
      have hki : i < (keysOf rows parts).length := by omega
      have hbe : b = encP (parts.getD i 0, (rows.getD i []).map fun x => parts.getD x 0) := by
        rw [List.getElem?_map, List.getElem?_eq_getElem hki, keysOf_get hki] at hb
        exact (Option.some.inj hb).symm
      subst hbe
      have s4 : Same H3 (upd H3 T (.tup [.int (i : Nat), .ref rb])) := same_new hT
      have s24 := (s2.trans s3).trans s4
      refine ⟨T, _, rfl, SqT.of upd_same, rfl, _, _, rfl, _, _, rfl, rfl, rfl, _, rfl, _, rfl, pa, _, _, _, rfl, rfl, s4 _ _ (s3 _ _ hpa2), atI_nat (v := iv (parts.getD i 0)) (by rw [List.getElem?_map, getD_some (d := 0) (by rw [hpl]; exact hin)]; rfl), ?_⟩
      refine ⟨_, rfl, rb, rfl, ⟨ws, SqL.of (s24 _ _ hb2)⟩, fun D3 hD3 => ?_⟩
      generalize hH5 : upd H3 T (.tup [.int (i : Nat), .ref rb]) = H5 at s4 s24 hD3
      clear hH5
      have hwl : ws.length = (rows.getD i []).length := pd_len pws
      have hrow := wf.getRow hin
      refine lcL (R := rI) (B := H5) mI ((rows.getD i []).map fun x => parts.getD x 0) (Same.refl _) hD3 (SqL.of (s24 _ _ hb2)) (by simp [hwl]) (szl (by rw [List.length_map, hrow.1]; omega)) ?_ ?_
      · intro j y c' H6 hy hc s6 nD3 k2 hk2
        have hjl : j < (rows.getD i []).length := by rw [← hwl]; exact (List.getElem?_eq_some_iff.mp hy).1
        obtain ⟨z, hz⟩ : ∃ z, (rows.getD i [])[j]? = some z := ⟨_, List.getElem?_eq_getElem hjl⟩
        have hyv : y = iv z := by
          rw [pd_ints pws, List.getElem?_map, hz] at hy
          exact (Option.some.inj hy).symm
        subst hyv
        have hcv : c' = parts.getD z 0 := by
          rw [List.getElem?_map, hz] at hc
          exact (Option.some.inj hc).symm
        subst hcv
        have hzn : z < ms.length := hrow.2 _ (List.mem_of_getElem? hz)
        refine ⟨rfl, _, rfl, _, rfl, pa, _, _, _, rfl, rfl, s6 _ _ (s4 _ _ (s3 _ _ hpa2)), atI_nat (v := iv (parts.getD z 0)) (by rw [List.getElem?_map, getD_some (d := 0) (by rw [hpl]; exact hzn)]; rfl), ?_⟩
        exact hk2 _ _ (Same.refl _) rfl
      · intro H6 s6 res6
        obtain ⟨_, lvs, e6, h6, p6⟩ := res6
        cases e6
        refine ⟨D3, lvs, rfl, (offs_some h6).2.2, fun t ht => ?_⟩
        have s7 : Same H6 (upd H6 t (.tup lvs)) := same_new ht
        refine ⟨by show 2 ≤ sizeLine; decide, fun p hp => ?_⟩
        have s8 : Same (upd H6 t (.tup lvs)) (upd (upd H6 t (.tup lvs)) p (.tup [iv (parts.getD i 0), .ref t])) := same_new hp
        have s38 := s4.trans ((s6.trans s7).trans s8)
        have nt : t ∉ [D] ∧ H t = none := ⟨fun m => by rw [List.mem_singleton.mp m] at ht; exact same_ne (s4.trans s6) nD ht, (s24.trans s6).free ht⟩
        have np : p ∉ [D] ∧ H p = none := ⟨fun m => by rw [List.mem_singleton.mp m] at hp; exact same_ne (s4.trans (s6.trans s7)) nD hp, (s24.trans (s6.trans s7)).free hp⟩
        refine hk _ _ s38 (nk_encP ⟨p, _, _, rfl, ?_, rfl, t, lvs, rfl, ?_, ?_⟩)
        · rw [offs_get np.1 np.2, upd_same]; rfl
        · rw [offs_get nt.1 nt.2]; exact s8 _ _ upd_same
        · rw [pd_ints p6]; exact ints_pd _
    · intro H3 s3 res3
      refine ⟨_, rfl, _, rfl, _, mL mNk _ _ _ _ offs_le res3, by rw [List.length_map, hkl]; exact hn, fun v H4 s4 res4 => ?_⟩
      have s34 := s3.trans s4
      rw [numb_inj encP encP_inj] at res4
      obtain ⟨pa', pvs', rfl, hpa', pp'⟩ := res4
      refine ⟨ms.length - mcount parts, by omega, mcount parts, pa', numb (keysOf rows parts), _, _, _, _, rfl, rfl, s2.trans s34, ?_, pinv.next wf, mcl, ?_, .inr ⟨parts, pinv, rfl, rfl⟩⟩
      · exact mL mI _ _ _ _ (offs_call (s2.trans s3) (fun d hd => by simp at hd)) ⟨pa', pvs', rfl, hpa', pp'⟩
      · have := ded_keys_le (rows := rows) (parts := parts) (by rw [wf.len, hpl])
        unfold mcount
        rw [ded_numb, List.length_range]
        exact this
end
end FA
end
section
namespace FA
open PySem PySem.Spec PyProof.Rows L2 FM
--IMPORT Spec6
theorem sc_first_difference : FnScope ["one", "two", "lefts", "rights", "best", "behind", "pair", "word", "other", "rest", "k", "told"] ["one", "two", "lefts", "rights"] (defScope s_first_difference) := ⟨rfl, rfl, rfl, by decide +kernel, rfl, by decide +kernel, by decide +kernel⟩
section
variable {P : Program} {w : World} {K : PySem.W.Frag} {mg : Str → Option Value} {base : Heap} {C : Addr}
theorem ok_first_difference (D : Df K mg "first_difference" s_first_difference ["one", "two", "lefts", "rights"]) (Z : Glo mg) (Mc : Mcl K mg C) (C_pairs_in_front : Cal P w K mg base "pairs_in_front" ["one", "two", "start"] 1 (sp_pairs_in_front C)) (C_pairs_behind : Cal P w K mg base "pairs_behind" ["one", "two", "start"] 1 (sp_pairs_behind C)) (C__parting : Cal P w K mg base "_parting" ["one", "two", "lefts", "rights"] 1 (sp__parting C)) (C_spelled : Cal P w K mg base "spelled" ["alphabet", "indexes"] 1 sp_spelled) :
    Cal P w K mg base "first_difference" ["one", "two", "lefts", "rights"] 2 (sp_first_difference C) := by
  have nd := sc_first_difference.nd
  refine D.ok sc_first_difference len4 (fun f cdv A outer s H vs Q E hr h => ?_)
  have hu := hu_of hr
  refine ⟨_, (pss_cons (ps_set (i := 4) nd rfl (Or.inl rfl) pe_non)
      (pss_cons (ps_set (i := 5) nd rfl (Or.inl rfl) (pe_cal C_pairs_in_front (hr.mono (by decide)) (by rfl) (pa_cons (pv 0) (pa_cons (pv 1) (pa_cons (pv 3) pa_nil)))))
      (pss_cons (ps_for PassesOwn.never rfl (kpi_list K (pe_cal C_pairs_behind (hr.mono (by decide)) (by rfl) (pa_cons (pv 0) (pa_cons (pv 1) (pa_cons (pv 2) pa_nil))))) (kpg_tup K (n := 2) rfl (pgs_cons (pg_name (i := 6) nd rfl (Or.inl rfl)) (pgs_cons (pg_name (i := 7) nd rfl (Or.inl rfl)) pgs_nil))) (pss_one (ps_for PassesOwn.never rfl (kpi_list K (pv 5)) (kpg_tup K (n := 2) rfl (pgs_cons (pg_name (i := 8) nd rfl (Or.inl rfl)) (pgs_cons (pg_name (i := 9) nd rfl (Or.inl rfl)) pgs_nil))) (pss_cons (ps_if (PW.pt (pw_and (pt_cmp (pc_notN (pv 4))) (pw_and1 (pt_cmpR op_gt (pe_op op_add (pe_op op_add (pe_callB klen_seq (by rfl) Z.z_len (by decide +kernel) (pa_cons (pv 7) pa_nil)) (pe_callB klen_seq (by rfl) Z.z_len (by decide +kernel) (pa_cons (pv 9) pa_nil))) pe_int) (pe_callB klen_seq (by rfl) Z.z_len (by decide +kernel) (pa_cons (pv 4) pa_nil)) (nomark _))))) (pss_one ps_break) pss_nil)
          (pss_cons (ps_set (i := 10) nd rfl (Or.inl rfl) (pe_cal C__parting (hr.mono (by decide)) (by rfl) (pa_cons (pv 0) (pa_cons (pv 1) (pa_cons (pv 6) (pa_cons (pv 8) pa_nil))))))
          (pss_one (ps_if (pt_cmp (pc_notN (pv 10))) (pss_cons (ps_set (i := 11) nd rfl (Or.inl rfl) (pe_op kcatA (pe_op kcatA (pv 7) (pe_tup (pa_cons (pv 10) pa_nil))) (pv 9)))
            (pss_one (ps_if (PW.pt (pw_or (pt_cmp (pc_isN (pv 4))) (pw_or (pt_cmpR op_lt (pe_callB klen_seq (by rfl) Z.z_len (by decide +kernel) (pa_cons (pv 11) pa_nil)) (pe_callB klen_seq (by rfl) Z.z_len (by decide +kernel) (pa_cons (pv 4) pa_nil)) (nomark _)) (pw_or1 (pt_cmpR (kltT hr.units0) (pv 11) (pv 4) (nomark _)))))) (pss_one (ps_set (i := 4) nd rfl (Or.inl rfl) (pv 11))) pss_nil))) pss_nil)))))))
      (pss_cons (ps_if (pt_cmp (pc_isN (pv 4))) (pss_one (ps_ret pe_non)) pss_nil)
      (pss_one (ps_ret (pe_cal C_spelled (hr.mono (by decide)) (by rfl) (pa_cons (kfld K (pv 0) rfl) (pa_cons (pv 4) pa_nil))))))))), ?_⟩
  obtain ⟨a1, a2, a3, a4, rfl, M, N, p, r, hM, hN, ok, ok2, hrd, hp, hr', b1, b2, b3, b4, q⟩ := h
  refine ⟨_, rfl, _, rfl, _, rfl, _, _, _, rfl, M, N, r, hM, hN, ok, ok2, hrd, hr', b3, b4, fun gs fg vB H1 s1 resB => ?_⟩
  have rB := resB (fun _ => none) [] (fun b o h => by cases h) (fun d hd => by cases hd) (by
    have : offs (fun _ => none) [] H = H := by funext b; unfold offs; simp
    rw [this]; exact hr')
  have oN : ∀ Hx : Hp, offs (fun _ => none) [] Hx = Hx := fun Hx => by funext b; unfold offs; simp
  rw [oN] at rB
  refine ⟨_, rfl, _, rfl, _, rfl, _, _, _, rfl, M, N, p, mM _ _ _ _ s1 hM, mM _ _ _ _ s1 hN, ok, ok2, hrd, mPr _ _ _ _ s1 hp, b1, b2, fun fs ff vA H2 s2 resA => ?_⟩
  have rA := resA (fun _ => none) [] (fun b o h => by cases h) (fun d hd => by cases hd) (by rw [oN]; exact mPr _ _ _ _ s1 hp)
  rw [oN] at rA
  replace rB := mFoundP _ _ _ _ s2 rB
  have s02 := s1.trans s2
  obtain ⟨aA, vsA, rfl, hA, pA⟩ := rA
  obtain ⟨aB, vsB, rfl, hB, pB⟩ := rB
  have lA : vsA.length = fs.length := pd_len pA
  have lB : vsB.length = gs.length := pd_len pB
  have ffl := ff.len
  have fgl := fg.len
  refine ⟨aA, rfl, ⟨vsA, SqL.of hA⟩, ?_⟩
  -- the best so far
  let Best : V → Hp → (Nat → Nat → Prop) → Prop := fun v Hx done => (v = .non ∧ ∀ i j x y, done i j → fs[i]? = some x → gs[j]? = some y → ∀ k, k < M.rd.length → tbM M x.1.1 y.1.1 k = tbM N x.1.2 y.1.2 k) ∨
    (∃ t w, v = .ref t ∧ Hx t = some (.tup (w.map iv)) ∧ Wd M.rd.length w ∧ w.length ≤ 9000 ∧ outM M p.1 r.1 w ≠ outM N p.2 r.2 w)
  have bmono : ∀ v Hx Hy d d', Same Hx Hy → (∀ i j, d' i j → d i j) → Best v Hx d → Best v Hy d' := fun v Hx Hy d d' s im hb => by
    rcases hb with ⟨e, f⟩ | ⟨t, w, e, h, z⟩
    · exact .inl ⟨e, fun i j x y hd => f i j x y (im i j hd)⟩
    · exact .inr ⟨t, w, e, s _ _ h, z⟩
  refine for_it (walk_list (xs := vsA)) (fun i σ Hx => ∃ (best : V) (x6 x7 x8 x9 x10 x11 : Option V), σ = [some a1, some a2, some a3, some a4, some best, some (.ref aB), x6, x7, x8, x9, x10, x11] ∧ Same H2 Hx ∧ Best best Hx (fun i' j' => i' < i)) ⟨.non, none, none, none, none, none, none, rfl, Same.refl _, .inl ⟨rfl, fun i j x y hd => by omega⟩⟩ ?_ ?_ ?_
  · rintro i σ Hx _ ⟨_, _, _, _, _, _, _, _, s, _⟩
    exact SqL.of (s _ _ hA)
  · rintro i x σ _ Hx hi ⟨best, x6, x7, x8, x9, x10, x11, rfl, s3, hbest⟩ ⟨rfl, hx⟩
    obtain ⟨⟨fp, fw⟩, hf, ta, u, tw, rfl, hta, hu', hw'⟩ := pd_get pA hx
    obtain ⟨tu, _, _, rfl, htu, _, _⟩ := id hu'
    obtain ⟨twa, twv, rfl, htw, ptw⟩ := id hw'
    have ffw := ff.wd _ (List.mem_of_getElem? hf)
    have sA := s02.trans s3
    refine ⟨ta, _, rfl, SqT.of (s3 _ _ hta), rfl, _, _, rfl, _, _, rfl, rfl, ?_⟩
    refine ⟨_, rfl, aB, rfl, ⟨vsB, SqL.of (s3 _ _ hB)⟩, ?_⟩
    refine for_it (walk_list (xs := vsB)) (fun j σ Hy => ∃ (best : V) (x8 x9 x10 x11 : Option V), σ = [some a1, some a2, some a3, some a4, some best, some (.ref aB), some (.ref tu), some (.ref twa), x8, x9, x10, x11] ∧ Same H2 Hy ∧ Best best Hy (fun i' j' => i' < i ∨ (i' = i ∧ j' < j))) ⟨best, x8, x9, x10, x11, rfl, s3, bmono _ _ _ _ _ (Same.refl _) (fun i' j' h => by omega) hbest⟩ ?_ ?_ ?_
    · rintro j σ Hy _ ⟨_, _, _, _, _, _, s, _⟩
      exact SqL.of (s _ _ hB)
    · rintro j y σ _ Hy hj ⟨best, x8, x9, x10, x11, rfl, s4, hbest⟩ ⟨rfl, hy⟩
      obtain ⟨⟨gp, gw⟩, hg, tb, u2, tw2, rfl, htb, hu2, hw2⟩ := pd_get pB hy
      obtain ⟨tu2, _, _, rfl, htu2, _, _⟩ := id hu2
      obtain ⟨twb, twv2, rfl, htw2, ptw2⟩ := id hw2
      have fgw := fg.wd _ (List.mem_of_getElem? hg)
      have sB := s02.trans s4
      refine ⟨tb, _, rfl, SqT.of (s4 _ _ htb), rfl, _, _, rfl, _, _, rfl, rfl, ?_⟩
      -- the bound
      have lw1 : twv.length = fw.length := pd_len ptw
      have lw2 : twv2.length = gw.length := pd_len ptw2
      have hfw : fw.length ≤ fs.length := ffw.2.2.2.2
      have hgw : gw.length ≤ gs.length := fgw.2.2.2.2
      have rest : ∀ (Q' : Prop), Q' → Q' := fun _ z => z
      -- what the turn does past the bound
      have go : ∀ D : Ends, D.nx = (fun σ Hy => ∃ (best : V) (x8 x9 x10 x11 : Option V), σ = [some a1, some a2, some a3, some a4, some best, some (.ref aB), some (.ref tu), some (.ref twa), x8, x9, x10, x11] ∧ Same H2 Hy ∧ Best best Hy (fun i' j' => i' < i ∨ (i' = i ∧ j' < j + 1))) →
          (tSeq (tAsg (tCall (sp__parting C) [] E0 (tCons (tVar 0) (tCons (tVar 1) (tCons (tVar 6) (tCons (tVar 8) tNil))))) (gName 10))
            (tIfS (tB (tNotN (tVar 10))) (tSeq (tAsg (tOp qCat (tOp qCat (tVar 7) (tTup (tCons (tVar 10) tNil))) (tVar 9)) (gName 11))
              (tIfS (tOr (tB (tIsN (tVar 4))) (tOr (tTest (tOp (rI0 fun i j => V.bl (decide (i < j))) (tCB qLenL (tCons (tVar 11) tNil)) (tCB qLenL (tCons (tVar 4) tNil)))) (tTest (tOp qLtT (tVar 11) (tVar 4))))) (tAsg (tVar 11) (gName 4)) tNext)) tNext))
            D [some a1, some a2, some a3, some a4, some best, some (.ref aB), some (.ref tu), some (.ref twa), some (.ref tu2), some (.ref twb), x10, x11] Hy := by
        intro D hD
        refine ⟨_, rfl, _, rfl, _, rfl, _, rfl, _, _, _, _, rfl, M, N, fp, gp, mM _ _ _ _ sB hM, mM _ _ _ _ sB hN, ok, ok2, hrd, mPr _ _ _ _ s4 hu', mPr _ _ _ _ s4 hu2, ffw.2.2.1, ffw.2.2.2.1, fgw.2.2.1, fgw.2.2.2.1, fun v H5 s5 hv => ?_⟩
        have s45 := s4.trans s5
        rcases hv with ⟨rfl, heq⟩ | ⟨k, hk, rfl, hne⟩
        · refine ⟨_, rfl, false, rfl, ?_⟩
          refine iteF ?_
          show D.nx _ _
          rw [hD]
          refine ⟨best, _, _, _, _, rfl, s45, ?_⟩
          rcases hbest with ⟨e, f⟩ | ⟨t, w, e, h, z⟩
          · refine .inl ⟨e, fun i' j' x y hd hx' hy' => ?_⟩
            by_cases hh : i' < i ∨ (i' = i ∧ j' < j)
            · exact f i' j' x y hh hx' hy'
            · have : i' = i ∧ j' = j := by omega
              obtain ⟨rfl, rfl⟩ := this
              rw [hf] at hx'
              rw [hg] at hy'
              cases hx'
              cases hy'
              exact heq
          · exact .inr ⟨t, w, e, s5 _ _ h, z⟩
        · refine ⟨_, rfl, true, rfl, ?_⟩
          refine iteT ?_
          refine ⟨_, rfl, _, rfl, by show 1 ≤ sizeLine; decide, fun c hc => ?_⟩
          have s6 : Same H5 (upd H5 c (.tup [.int (k : Nat)])) := same_new hc
          refine ⟨twa, c, twv, _, rfl, rfl, s6 _ _ (s45 _ _ htw), upd_same, szl (by show twv.length + 1 ≤ 10000; omega), fun p1 H7 s7 hp1 _ => ?_⟩
          have s27 := s45.trans (s6.trans s7)
          refine ⟨_, rfl, p1, twb, _, twv2, rfl, rfl, hp1, s27 _ _ htw2, szl (by rw [List.length_append]; show twv.length + 1 + twv2.length ≤ 10000; omega), fun p2 H8 s8 hp2 _ => ?_⟩
          have s28 := s27.trans s8
          have hwd : Wd M.rd.length (fw ++ k :: gw) := ffw.1.app (Wd.cons hk fgw.1)
          have hout : outM M p.1 r.1 (fw ++ k :: gw) ≠ outM N p.2 r.2 (fw ++ k :: gw) := by
            refine differ_of_tab fw gw ?_
            have e1 : (stL (at2 M.L) p.1 fw, stL (at2 N.L) p.2 fw) = fp := ffw.2.1
            have e2 : (stR (at2 M.R) r.1 gw, stR (at2 N.R) r.2 gw) = gp := fgw.2.1
            rw [show stL (at2 M.L) p.1 fw = fp.1 from congrArg Prod.fst e1, show stL (at2 N.L) p.2 fw = fp.2 from congrArg Prod.snd e1, show stR (at2 M.R) r.1 gw = gp.1 from congrArg Prod.fst e2, show stR (at2 N.R) r.2 gw = gp.2 from congrArg Prod.snd e2]
            exact hne
          have htold : H8 p2 = some (.tup ((fw ++ k :: gw).map iv)) := by
            rw [hp2, pd_ints ptw, pd_ints ptw2, List.map_append, List.map_cons, List.append_assoc]; rfl
          have hlw : (fw ++ k :: gw).length ≤ 9000 := by rw [List.length_append, List.length_cons]; omega
          have take : ∀ {x10 : Option V}, D.nx [some a1, some a2, some a3, some a4, some (.ref p2), some (.ref aB), some (.ref tu), some (.ref twa), some (.ref tu2), some (.ref twb), x10, some (.ref p2)] H8 := by
            intro x10
            rw [hD]
            exact ⟨.ref p2, _, _, _, _, rfl, s28, .inr ⟨p2, _, rfl, htold, hwd, hlw, hout⟩⟩
          have keep : ∀ t w {x10 : Option V}, best = .ref t → Hy t = some (.tup (w.map iv)) → Wd M.rd.length w → w.length ≤ 9000 → outM M p.1 r.1 w ≠ outM N p.2 r.2 w → D.nx [some a1, some a2, some a3, some a4, some best, some (.ref aB), some (.ref tu), some (.ref twa), some (.ref tu2), some (.ref twb), x10, some (.ref p2)] H8 := by
            intro t w x10 e h1 h2 h3 h4
            rw [hD]
            exact ⟨best, _, _, _, _, rfl, s28, .inr ⟨t, w, e, (s5.trans ((s6.trans s7).trans s8)) _ _ h1, h2, h3, h4⟩⟩
          rcases hbest with ⟨rfl, f⟩ | ⟨t, w, rfl, h, z1, z2, z3⟩
          · refine ⟨_, rfl, true, rfl, ?_⟩
            refine iteT ?_
            refine iteT ?_
            exact ⟨_, rfl, take⟩
          · have h8 := (s5.trans ((s6.trans s7).trans s8)) _ _ h
            refine ⟨_, rfl, false, rfl, ?_⟩
            refine iteF ?_
            refine ⟨_, rfl, p2, _, rfl, .inr htold, _, rfl, t, _, rfl, .inr h8, _, _, rfl, rfl, _, rfl, ?_⟩
            have fin : ∀ b : Bool, (if b = true then tAsg (tVar 11) (gName 4) else tNext) D [some a1, some a2, some a3, some a4, some (.ref t), some (.ref aB), some (.ref tu), some (.ref twa), some (.ref tu2), some (.ref twb), some (.int (k : Nat)), some (.ref p2)] H8 := by
              intro b
              cases b with
              | true => exact ⟨_, rfl, take⟩
              | false => exact keep t w rfl h z1 z2 z3
            by_cases hb : ((((fw ++ k :: gw).map iv).length : Nat) : Int) < (((w.map iv).length : Nat) : Int)
            · refine ifT (decide_eq_true hb) ?_
              exact fin true
            · refine ifF (decide_eq_false hb) ?_
              refine ⟨_, rfl, _, rfl, p2, t, _, _, rfl, rfl, by rw [htold, ivs], by rw [h8, ivs], _, rfl, ?_⟩
              cases HT.lexLt ((fw ++ k :: gw).map fun (i : Nat) => (i : Int)) (w.map fun (i : Nat) => (i : Int)) with
              | true => exact fin true
              | false => exact fin false
      -- break or go on
      rcases id hbest with ⟨rfl, f⟩ | ⟨t, w, rfl, h, z1, z2, z3⟩
      · refine ⟨_, rfl, false, rfl, ?_⟩
        refine iteF ?_
        refine iteF ?_
        exact go _ rfl
      · refine ⟨_, rfl, true, rfl, ?_⟩
        refine iteT ?_
        refine ⟨_, rfl, twa, twv, rfl, .inr (s4 _ _ htw), _, rfl, twb, twv2, rfl, .inr (s4 _ _ htw2), _, _, rfl, rfl, _, _, rfl, rfl, _, rfl, t, _, rfl, .inr h, _, _, rfl, rfl, _, rfl, ?_⟩
        by_cases hb : (((w.map iv).length : Nat) : Int) < ((twv.length : Nat) : Int) + ((twv2.length : Nat) : Int) + 1
        · refine ifT (decide_eq_true hb) ?_
          exact ⟨.ref t, _, _, _, _, _, _, rfl, s4, .inr ⟨t, w, rfl, h, z1, z2, z3⟩⟩
        · refine ifF (decide_eq_false hb) ?_
          exact go _ rfl
    · rintro σ Hy ⟨best, x8, x9, x10, x11, rfl, s4, hbest⟩
      refine ⟨best, _, _, _, _, _, _, rfl, s4, ?_⟩
      rcases hbest with ⟨e, f⟩ | hb
      · refine .inl ⟨e, fun i' j' x y hd hx' hy' => f i' j' x y ?_ hx' hy'⟩
        have := (List.getElem?_eq_some_iff.mp hy').1
        omega
      · exact .inr hb
  · rintro σ Hx ⟨best, x6, x7, x8, x9, x10, x11, rfl, s3, hbest⟩
    rcases hbest with ⟨rfl, f⟩ | ⟨t, w, rfl, h, z1, z2, z3⟩
    · refine ⟨_, rfl, true, rfl, ?_⟩
      refine iteT ?_
      refine q _ _ (s02.trans s3) (.inl ⟨rfl, fun w hw => ?_⟩)
      refine same_of_tabs (K := M.rd.length) (fun u v k hu hv hk => ?_) hw
      obtain ⟨x, hx, ex⟩ := List.mem_map.mp (ff.cov u hu)
      obtain ⟨y, hy, ey⟩ := List.mem_map.mp (fg.cov v hv)
      obtain ⟨ix, hix⟩ := List.getElem?_of_mem hx
      obtain ⟨iy, hiy⟩ := List.getElem?_of_mem hy
      have := f ix iy x y (by have := (List.getElem?_eq_some_iff.mp hix).1; omega) hix hiy k hk
      rw [ex, ey] at this
      exact this
    · refine ⟨_, rfl, false, rfl, ?_⟩
      refine iteF ?_
      obtain ⟨m1, dx1, l1, r1, t1, rfl, hm1, hrest⟩ := mM _ _ _ _ (s02.trans s3) hM
      refine ⟨_, rfl, m1, C, dx1, _, _, rfl, hm1, Mc.cl, Mc.n1, mf_reads _ _ _ _ _, _, rfl, _, _, rfl, M.rd, w, rfl, ⟨t, _, rfl, h, ints_pd _⟩, ok.rd, z1, by omega, fun H9 s9 => ?_⟩
      exact q _ _ ((s02.trans s3).trans s9) (.inr ⟨w, z1, z2, rfl, z3⟩)
end
end FA
end
section
namespace FA
open PySem PySem.Spec PyProof.Rows L2 FM
--IMPORT Spec5
theorem sc__is_table : FnScope ["thing", "left", "right", "letters", "writes", "row", "told"] ["thing", "left", "right", "letters", "writes"] (defScope s__is_table) := ⟨rfl, rfl, rfl, by decide +kernel, rfl, by decide +kernel, by decide +kernel⟩
section
variable {P : Program} {w : World} {K : PySem.W.Frag} {mg : Str → Option Value} {base : Heap} {C : Addr}
theorem ok__is_table (D : Df K mg "_is_table" s__is_table ["thing", "left", "right", "letters", "writes"]) (Z : Glo mg) (Mc : Mcl K mg C) (C_is_word : Cal P w K mg base "is_word" ["alphabet", "thing"] 1 sp_is_word) :
    Cal P w K mg base "_is_table" ["thing", "left", "right", "letters", "writes"] 2 sp__is_table := by
  have nd := sc__is_table.nd
  refine D.ok sc__is_table len5 (fun f cdv A outer s H vs Q E hr h => ?_)
  have hu := hu_of hr
  refine ⟨_, (pss_cons (ps_if (PW.pt (pw_or (pt_not (pt_val (kisi K (by rfl) Z.z_isinstance (by decide +kernel) (pa_cons (pv 0) (pa_cons (pe_bltn (v := .ty "list") (by rfl) Z.z_list (by decide +kernel) rfl) pa_nil))))) (pw_or1 (pt_cmpR op_ne (pe_callB klen_seq (by rfl) Z.z_len (by decide +kernel) (pa_cons (pv 0) pa_nil)) (pv 1) (nomark _))))) (pss_one (ps_ret pe_bl)) pss_nil)
      (pss_cons (ps_for PassesOwn.never rfl (kpi_list K (pv 0)) (pg_name (i := 5) nd rfl (Or.inl rfl)) (pss_cons (ps_if (PW.pt (pw_or (pt_not (pt_val (kisi K (by rfl) Z.z_isinstance (by decide +kernel) (pa_cons (pv 5) (pa_cons (pe_bltn (v := .ty "list") (by rfl) Z.z_list (by decide +kernel) rfl) pa_nil))))) (pw_or1 (pt_cmpR op_ne (pe_callB klen_seq (by rfl) Z.z_len (by decide +kernel) (pa_cons (pv 5) pa_nil)) (pv 2) (nomark _))))) (pss_one (ps_ret pe_bl)) pss_nil)
        (pss_one (ps_for PassesOwn.never rfl (kpi_list K (pv 5)) (pg_name (i := 6) nd rfl (Or.inl rfl)) (pss_one (ps_if (PW.pt (pw_or (pt_not (pt_val (pe_cal C_is_word (hr.mono (by decide)) (by rfl) (pa_cons (pv 4) (pa_cons (pv 6) pa_nil))))) (pw_or1 (pt_cmpR op_ne (pe_callB klen_str (by rfl) Z.z_len (by decide +kernel) (pa_cons (pv 6) pa_nil)) (pv 3) (nomark _))))) (pss_one (ps_ret pe_bl)) pss_nil))))))
      (pss_one (ps_ret pe_bl)))), ?_⟩
  obtain ⟨_, _, _, _, _, rfl, T, n, m, L, wr, hT, rfl, rfl, rfl, rfl, wf, hn, hm, hL, q⟩ := h
  obtain ⟨ra, rvs, rfl, hra, prow⟩ := id hT
  have hrl : rvs.length = n := by rw [pd_len prow, wf.len]
  refine ⟨_, rfl, .ref ra, .ty "list", .type "list", .type "list", true, rfl, .ty "list", .base (.lst hra), kit_ty rfl, true, rfl, ?_⟩
  refine ifF rfl ?_
  refine ⟨_, rfl, ra, rvs, rfl, .inl hra, _, rfl, rfl, _, rfl, ?_⟩
  refine ifF (by rw [hrl]; simp) ?_
  refine ⟨_, rfl, ra, rfl, ⟨rvs, SqL.of hra⟩, ?_⟩
  refine for_it (walk_list (xs := rvs)) (fun i σ H1 => ∃ x2 x3 : Option V, σ = [some (V.ref ra), some (.int (n : Nat)), some (.int (m : Nat)), some (.int (L : Nat)), some (.str wr), x2, x3] ∧ Same H H1) ⟨none, none, rfl, Same.refl _⟩ ?_ ?_ ?_
  · rintro i σ H1 _ ⟨_, _, _, s⟩
    exact SqL.of (s _ _ hra)
  · rintro i x σ _ H1 hi ⟨x2, x3, rfl, s1⟩ ⟨rfl, hx⟩
    obtain ⟨r, hr, rb, ws, rfl, hb, pws⟩ := pd_get prow hx
    have hrow := wf.row r (List.mem_of_getElem? hr)
    have hwl : ws.length = m := by rw [pd_len pws, hrow.1]
    have hb1 := s1 _ _ hb
    refine ⟨_, rfl, .ref rb, .ty "list", .type "list", .type "list", true, rfl, .ty "list", .base (.lst hb1), kit_ty rfl, true, rfl, ?_⟩
    refine ifF rfl ?_
    refine ⟨_, rfl, rb, ws, rfl, .inl hb1, _, rfl, rfl, _, rfl, ?_⟩
    refine ifF (by rw [hwl]; simp) ?_
    refine ⟨_, rfl, rb, rfl, ⟨ws, SqL.of hb1⟩, ?_⟩
    refine for_it (walk_list (xs := ws)) (fun j σ H2 => ∃ x3 : Option V, σ = [some (V.ref ra), some (.int (n : Nat)), some (.int (m : Nat)), some (.int (L : Nat)), some (.str wr), some (.ref rb), x3] ∧ Same H H2) ⟨x3, rfl, s1⟩ ?_ ?_ ?_
    · rintro j σ H2 _ ⟨_, _, s⟩
      exact SqL.of (s _ _ hb)
    · rintro j y σ _ H2 hj ⟨x3, rfl, s2⟩ ⟨rfl, hy⟩
      obtain ⟨s, hs, rfl⟩ := pd_get pws hy
      have hg := hrow.2 s (List.mem_of_getElem? hs)
      refine ⟨_, rfl, _, rfl, _, _, rfl, wr, s, L, rfl, rfl, hg, by omega, fun H3 s3 => ?_⟩
      refine ⟨true, rfl, ?_⟩
      refine ifF rfl ?_
      have hsl : s.length = L := hg.1
      refine ⟨_, rfl, s, rfl, szl (by omega), _, rfl, rfl, _, rfl, ?_⟩
      refine ifF (by rw [hsl]; simp) ?_
      exact ⟨_, rfl, s2.trans s3⟩
    · rintro σ H2 ⟨x3, rfl, s2⟩
      exact ⟨_, _, rfl, s2⟩
  · rintro σ H1 ⟨x2, x3, rfl, s1⟩
    exact q _ s1
end
end FA
end
section
namespace FA
open PySem PySem.Spec PyProof.Rows L2 FM
--IMPORT Spec5
theorem sc_left_state : FnScope ["machine", "word"] ["machine", "word"] (defScope s_left_state) := ⟨rfl, rfl, rfl, by decide +kernel, rfl, by decide +kernel, by decide +kernel⟩
section
variable {P : Program} {w : World} {K : PySem.W.Frag} {mg : Str → Option Value} {base : Heap} {C : Addr}
theorem ok_left_state (D : Df K mg "left_state" s_left_state ["machine", "word"]) (Z : Glo mg) (Mc : Mcl K mg C) (C__along : Cal P w K mg base "_along" ["rows", "start", "indexes"] 1 sp__along) (C_codes : Cal P w K mg base "codes" ["alphabet", "word"] 1 sp_codes) :
    Cal P w K mg base "left_state" ["machine", "word"] 2 (sp_left_state C) := by
  have nd := sc_left_state.nd
  refine D.ok sc_left_state len2 (fun f cdv A outer s H vs Q E hr h => ?_)
  have hu := hu_of hr
  refine ⟨_, (pss_one (ps_ret (pe_ix kix_list (pe_cal C__along (hr.mono (by decide)) (by rfl) (pa_cons (kfld K (pv 0) rfl) (pa_cons pe_int (pa_cons (pe_cal C_codes (hr.mono (by decide)) (by rfl) (pa_cons (kfld K (pv 0) rfl) (pa_cons (pv 1) pa_nil))) pa_nil)))) (pe_un un_neg pe_int) (fun _ _ => rfl)))), ?_⟩
  obtain ⟨_, _, rfl, M, w, ⟨p, dx, l, r, t, rfl, hp, hl, hr', ht⟩, ok, rfl, hw, hlen, q⟩ := h
  refine ⟨_, rfl, p, C, dx, _, l, rfl, hp, Mc.cl, Mc.n3, mf_left _ _ _ _ _, _, rfl, p, C, dx, _, _, rfl, hp, Mc.cl, Mc.n1, mf_reads _ _ _ _ _, _, rfl, _, _, rfl, M.rd, w, rfl, rfl, ok.rd, hw, by omega, fun v H1 s1 res => ?_⟩
  refine ⟨_, _, _, rfl, M.L, M.L.length, M.rd.length, 0, w, mRows _ _ _ _ s1 hl, rfl, mL mI _ _ _ _ offs_le res, ok.wfL, ok.pL, hw, hlen, fun v2 H2 s2 res2 => ?_⟩
  obtain ⟨a, vs, rfl, ha, pa⟩ := res2
  refine ⟨1, rfl, a, vs, _, iv (stL (at2 M.L) 0 w), rfl, rfl, (offs_some ha).2.2, ?_, q _ (s1.trans s2)⟩
  rw [pd_ints pa, al, List.map_append]
  exact atI_last _ _
end
end FA
end
section
namespace FA
open PySem PySem.Spec PyProof.Rows L2 FM
--IMPORT Spec5
theorem sc_right_state : FnScope ["machine", "word"] ["machine", "word"] (defScope s_right_state) := ⟨rfl, rfl, rfl, by decide +kernel, rfl, by decide +kernel, by decide +kernel⟩
section
variable {P : Program} {w : World} {K : PySem.W.Frag} {mg : Str → Option Value} {base : Heap} {C : Addr}
theorem ok_right_state (D : Df K mg "right_state" s_right_state ["machine", "word"]) (Z : Glo mg) (Mc : Mcl K mg C) (C__along : Cal P w K mg base "_along" ["rows", "start", "indexes"] 1 sp__along) (C_codes : Cal P w K mg base "codes" ["alphabet", "word"] 1 sp_codes) :
    Cal P w K mg base "right_state" ["machine", "word"] 2 (sp_right_state C) := by
  have nd := sc_right_state.nd
  refine D.ok sc_right_state len2 (fun f cdv A outer s H vs Q E hr h => ?_)
  have hu := hu_of hr
  refine ⟨_, (pss_one (ps_ret (pe_ix kix_list (pe_cal C__along (hr.mono (by decide)) (by rfl) (pa_cons (kfld K (pv 0) rfl) (pa_cons pe_int (pa_cons (krev K (pe_cal C_codes (hr.mono (by decide)) (by rfl) (pa_cons (kfld K (pv 0) rfl) (pa_cons (pv 1) pa_nil)))) pa_nil)))) (pe_un un_neg pe_int) (fun _ _ => rfl)))), ?_⟩
  obtain ⟨_, _, rfl, M, w, ⟨p, dx, l, r, t, rfl, hp, hl, hr', ht⟩, ok, rfl, hw, hlen, q⟩ := h
  refine ⟨_, rfl, p, C, dx, _, r, rfl, hp, Mc.cl, Mc.n4, mf_right _ _ _ _ _, _, rfl, p, C, dx, _, _, rfl, hp, Mc.cl, Mc.n1, mf_reads _ _ _ _ _, _, rfl, _, _, rfl, M.rd, w, rfl, rfl, ok.rd, hw, by omega, fun v H1 s1 res => ?_⟩
  obtain ⟨a0, vs0, rfl, ha0, pa0⟩ := res
  refine ⟨a0, vs0, rfl, SqL.of (offs_some ha0).2.2, fun b hb => ?_⟩
  have s1b : Same H1 (upd H1 b (.lst vs0.reverse)) := same_new hb
  refine ⟨_, _, _, rfl, M.R, M.R.length, M.rd.length, 0, w.reverse, mRows _ _ _ _ (s1.trans s1b) hr', rfl, ⟨b, _, rfl, upd_same, by rw [pd_ints pa0, ← List.map_reverse]; exact ints_pd _⟩, ok.wfR, ok.pR, hw.rev, by rw [List.length_reverse]; exact hlen, fun v2 H2 s2 res2 => ?_⟩
  obtain ⟨a, vs, rfl, ha, pa⟩ := res2
  refine ⟨1, rfl, a, vs, _, iv (stR (at2 M.R) 0 w), rfl, rfl, (offs_some ha).2.2, ?_, q _ ((s1.trans s1b).trans s2)⟩
  rw [pd_ints pa, al, List.map_append, stR_rev]
  exact atI_last _ _
end
end FA
end
section
namespace FA
open PySem PySem.Spec PyProof.Rows L2 FM
--IMPORT Spec5
theorem sc_states_between : FnScope ["machine", "left", "right", "indexes", "front", "behind"] ["machine", "left", "right", "indexes"] (defScope s_states_between) := ⟨rfl, rfl, rfl, by decide +kernel, rfl, by decide +kernel, by decide +kernel⟩
section
variable {P : Program} {w : World} {K : PySem.W.Frag} {mg : Str → Option Value} {base : Heap} {C : Addr}
theorem ok_states_between (D : Df K mg "states_between" s_states_between ["machine", "left", "right", "indexes"]) (Z : Glo mg) (Mc : Mcl K mg C) (C__along : Cal P w K mg base "_along" ["rows", "start", "indexes"] 1 sp__along) :
    Cal P w K mg base "states_between" ["machine", "left", "right", "indexes"] 2 (sp_states_between C) := by
  have nd := sc_states_between.nd
  refine D.ok sc_states_between len4 (fun f cdv A outer s H vs Q E hr h => ?_)
  have hu := hu_of hr
  refine ⟨_, (pss_cons (ps_set (i := 4) nd rfl (Or.inl rfl) (pe_slice ksl_list (pe_cal C__along (hr.mono (by decide)) (by rfl) (pa_cons (kfld K (pv 0) rfl) (pa_cons (pv 1) (pa_cons (pv 3) pa_nil)))) po_none (po_some (pe_un un_neg pe_int))))
      (pss_cons (ps_set (i := 5) nd rfl (Or.inl rfl) (pe_slice ksl_list (pe_cal C__along (hr.mono (by decide)) (by rfl) (pa_cons (kfld K (pv 0) rfl) (pa_cons (pv 2) (pa_cons (krev K (pv 3)) pa_nil)))) po_none (po_some (pe_un un_neg pe_int))))
      (pss_one (ps_ret (klz K rfl (by rfl) Z.z_zip (by rfl) Z.z_list (pa_cons (pv 4) (pa_cons (krev K (pv 5)) pa_nil))))))), ?_⟩
  obtain ⟨_, _, _, _, rfl, M, i, j, w, ⟨p, dx, l, r, t, rfl, hp, hl, hr', ht⟩, ok, rfl, rfl, hi, hj, hd, hw, hlen, q⟩ := h
  obtain ⟨wa, wvs, rfl, hwa, pwa⟩ := id hd
  have hwv := pd_ints pwa
  have cutl : ∀ (xs : List V) (x : V), cutV (xs ++ [x]) none (some (-1)) = xs := fun xs x => by
    unfold cutV
    rw [HT.sIx_none]
    have : HT.sIx (xs ++ [x]).length (xs ++ [x]).length (some (-1)) = xs.length := by
      show (if (-1 : Int) < 0 then ((-1 : Int) + ((xs ++ [x]).length : Int)).toNat else min (-1 : Int).toNat (xs ++ [x]).length) = _
      rw [if_pos (by decide), List.length_append]
      show ((-1 : Int) + ((xs.length + 1 : Nat) : Int)).toNat = _
      omega
    rw [this, List.drop_zero, Nat.sub_zero, List.take_left]
  refine ⟨_, rfl, p, C, dx, _, l, rfl, hp, Mc.cl, Mc.n3, mf_left _ _ _ _ _, _, rfl, _, rfl, _, _, _, rfl, M.L, M.L.length, M.rd.length, i, w, hl, rfl, hd, ok.wfL, hi, hw, hlen, fun v H1 s1 res => ?_⟩
  obtain ⟨a1, vs1, rfl, ha1, pa1⟩ := res
  refine ⟨1, rfl, _, rfl, a1, vs1, rfl, (offs_some ha1).2.2, fun p1 hp1 => ?_⟩
  rw [pd_ints pa1, al, List.map_append]
  have s2 : Same H (upd H1 p1 (.lst (cutV ((alI (at2 M.L) i w).map iv ++ [stL (at2 M.L) i w].map iv) none (some (-1))))) := same_upd s1 (s1.free hp1)
  have h2 : (upd H1 p1 (.lst (cutV ((alI (at2 M.L) i w).map iv ++ [stL (at2 M.L) i w].map iv) none (some (-1))))) p1 = some (.lst ((alI (at2 M.L) i w).map iv)) := by
    rw [upd_same]; congr 2; exact cutl _ (iv (stL (at2 M.L) i w))
  generalize hH2 : upd H1 p1 (.lst (cutV ((alI (at2 M.L) i w).map iv ++ [stL (at2 M.L) i w].map iv) none (some (-1)))) = H2 at s2 h2
  clear hH2
  refine ⟨_, rfl, p, C, dx, _, r, rfl, s2 _ _ hp, Mc.cl, Mc.n4, mf_right _ _ _ _ _, _, rfl, _, rfl, wa, wvs, rfl, SqL.of (s2 _ _ hwa), fun b hb => ?_⟩
  have s2b : Same H2 (upd H2 b (.lst wvs.reverse)) := same_new hb
  refine ⟨_, _, _, rfl, M.R, M.R.length, M.rd.length, j, w.reverse, mRows _ _ _ _ (s2.trans s2b) hr', rfl, ⟨b, _, rfl, upd_same, by rw [hwv, ← List.map_reverse]; exact ints_pd _⟩, ok.wfR, hj, hw.rev, by rw [List.length_reverse]; exact hlen, fun v H3 s3 res => ?_⟩
  obtain ⟨a3, vs3, rfl, ha3, pa3⟩ := res
  refine ⟨1, rfl, _, rfl, a3, vs3, rfl, (offs_some ha3).2.2, fun p4 hp4 => ?_⟩
  rw [pd_ints pa3, al, List.map_append]
  have s23 := s2b.trans s3
  have s24 : Same H2 (upd H3 p4 (.lst (cutV ((alI (at2 M.R) j w.reverse).map iv ++ [stL (at2 M.R) j w.reverse].map iv) none (some (-1))))) := same_upd s23 (s23.free hp4)
  have h4 : (upd H3 p4 (.lst (cutV ((alI (at2 M.R) j w.reverse).map iv ++ [stL (at2 M.R) j w.reverse].map iv) none (some (-1))))) p4 = some (.lst ((alI (at2 M.R) j w.reverse).map iv)) := by
    rw [upd_same]; congr 2; exact cutl _ (iv (stL (at2 M.R) j w.reverse))
  generalize hH4 : upd H3 p4 (.lst (cutV ((alI (at2 M.R) j w.reverse).map iv ++ [stL (at2 M.R) j w.reverse].map iv) none (some (-1)))) = H4 at s24 h4
  clear hH4
  refine ⟨_, rfl, _, rfl, p4, _, rfl, SqL.of h4, fun p5 hp5 => ?_⟩
  have s45 : Same H4 (upd H4 p5 (.lst ((alI (at2 M.R) j w.reverse).map iv).reverse)) := same_new hp5
  refine ⟨p1, p5, (alI (at2 M.L) i w).map iv, ((alI (at2 M.R) j w.reverse).map iv).reverse, rfl, SqL.of (s45 _ _ (s24 _ _ h2)), SqL.of upd_same, by simp [alI_len], fun z ts H6 zl => ?_⟩
  have s05 := (s2.trans s24).trans s45
  refine q _ _ (s05.trans zl.same) ⟨z, _, rfl, by rw [offs_get (by simp) (s05.free zl.newl)]; exact zl.list, ?_⟩
  refine pd_of_get (by rw [List.length_map, zl.len, List.length_map, alI_len, stB_len]) fun n x y hx hy => ?_
  rw [List.getElem?_map] at hx
  obtain ⟨tn, htn, rfl⟩ : ∃ tn, ts[n]? = some tn ∧ V.ref tn = x := by
    cases e : ts[n]? with
    | none => rw [e] at hx; cases hx
    | some tn => rw [e] at hx; exact ⟨tn, rfl, Option.some.inj hx⟩
  unfold stB at hy
  obtain ⟨hy1, hy2⟩ := List.getElem?_zip_eq_some.mp hy
  have := zl.pairs n tn (iv y.1) (iv y.2) htn (by rw [List.getElem?_map, hy1]; rfl) (by rw [← List.map_reverse, List.getElem?_map, hy2]; rfl)
  exact ⟨tn, iv y.1, iv y.2, rfl, by rw [offs_get (by simp) (s05.free this.1)]; exact this.2, rfl, rfl⟩
end
end FA
end
section
namespace FA
open PySem PySem.Spec PyProof.Rows L2 FM
--IMPORT Spec7
theorem sc__words : FnScope ["machine", "found", "told", "state"] ["machine", "found"] (defScope s__words) := ⟨rfl, rfl, rfl, by decide +kernel, rfl, by decide +kernel, by decide +kernel⟩
section
variable {P : Program} {w : World} {K : PySem.W.Frag} {mg : Str → Option Value} {base : Heap} {C : Addr}
theorem ok__words (D : Df K mg "_words" s__words ["machine", "found"]) (Z : Glo mg) (Mc : Mcl K mg C) (C_spelled : Cal P w K mg base "spelled" ["alphabet", "indexes"] 1 sp_spelled) :
    Cal P w K mg base "_words" ["machine", "found"] 2 (sp__words C) := by
  have nd := sc__words.nd
  refine D.ok sc__words len2 (fun f cdv A outer s H vs Q E hr h => ?_)
  have hu := hu_of hr
  refine ⟨_, (pss_cons (ps_set (i := 2) nd rfl (Or.inr rfl) (pe_callTy (call_dictP rfl) (by rfl) Z.z_dict (by decide +kernel) (pa_cons (pv 1) pa_nil)))
      (pss_one (ps_ret (pe_lc (own := [("state", 3)]) (tt := tYes) rfl nd (pi_range1 (by rfl) Z.z_range (pa_cons (pe_callB call_lenD (by rfl) Z.z_len (by decide +kernel) (pa_cons (pv 2) pa_nil)) pa_nil)) (blkOk_by (by kernel_rfl)) (fun _ _ _ _ _ => (pg_name (i := 3) nd rfl (Or.inl rfl))) (fun _ _ _ _ _ => pts_nil) (fun _ _ _ _ _ => (pe_cal C_spelled (hr.mono (by decide)) (by rfl) (pa_cons (kfld K (pv 0) rfl) (pa_cons (pe_dget hu (pv 2) (pv 3) (fun _ _ => rfl)) pa_nil)))))))), ?_⟩
  obtain ⟨_, _, rfl, M, fs, n, st, hM, ok, ⟨fa, fvs, rfl, hfa, pf⟩, hn, nd', hfl, hcov, hw, q⟩ := h
  obtain ⟨ps, kvs, rfl, h1, h2⟩ := found_split pf
  refine ⟨_, rfl, fa, ps, kvs, rfl, SqL.of hfa, pd_imp h1 (fun _ _ h => SqT.of h), fun d hd => ?_⟩
  have dp := merge_dp kvs fs [] [] .nil h2 nd'
  rw [List.nil_append] at dp
  have s1 : Same H (upd H d (.dK (mergeK [] kvs))) := same_new hd
  have hd1 : (upd H d (.dK (mergeK [] kvs))) d = some (.dK (mergeK [] kvs)) := upd_same
  generalize hH1 : upd H d (.dK (mergeK [] kvs)) = H1 at s1 hd1
  clear hH1
  have hkl : (mergeK [] kvs).length = n := by rw [pd_len dp, hfl]
  refine ⟨_, rfl, d, _, rfl, hd1, ((mergeK [] kvs).length : Nat), rfl, by omega, by omega, fun D hD => ?_⟩
  have hnn : (((mergeK [] kvs).length : Nat) : Int).toNat = n := by omega
  rw [hnn]
  let wd : Nat → List Nat := fun c => ((fs.find? fun p => p.1 == c).map (·.2)).getD []
  have wds : ∀ c, c < n → (c, wd c) ∈ fs := fun c hc => by
    obtain ⟨p, hp, e⟩ := List.mem_map.mp (hcov c hc)
    show (c, ((fs.find? fun p => p.1 == c).map (·.2)).getD []) ∈ fs
    cases h : fs.find? fun p => p.1 == c with
    | none =>
      have := List.find?_eq_none.mp h p hp
      exact absurd (by simpa using e) this
    | some x =>
      have h1 := List.mem_of_find?_eq_some h
      have h2 := List.find?_some h
      have h3 : x.1 = c := by simpa using h2
      show (c, x.2) ∈ fs
      rw [← h3]; exact h1
  refine lcR (R := rS) (B := H) mS ((List.range n).map fun c => spell M.rd (wd c)) s1 hD (by simp) (szl (by simp; omega)) ?_ ?_
  · intro i b H2 hi hb s2 nD k hk
    rw [Int.zero_add]
    have hbe : b = spell M.rd (wd i) := by
      rw [List.getElem?_map, List.getElem?_range hi] at hb
      exact (Option.some.inj hb).symm
    subst hbe
    obtain ⟨iz, hiz⟩ := List.getElem?_of_mem (wds i hi)
    obtain ⟨tv, htv, htr⟩ := dp_some dp kI_inj hiz nd'
    obtain ⟨m1, dx1, l1, r1, t1, rfl, hm1, _⟩ := mM _ _ _ _ (s1.trans s2) hM
    have hwi := hw _ (wds i hi)
    refine ⟨wp1, _, rfl, m1, C, dx1, _, _, rfl, hm1, Mc.cl, Mc.n1, mf_reads _ _ _ _ _, _, rfl, _, rfl, d, tv, rfl, by rw [← htv]; exact DGet.k (k := kI i) (s2 _ _ hd1), _, _, rfl, M.rd, wd i, rfl, mT mI _ _ _ _ (s1.trans s2) htr, ok.rd, hwi.1, by have := hwi.2.2; show (wd i).length ≤ 10000; exact Nat.le_trans this (by decide), fun H3 s3 => ?_⟩
    exact hk _ _ s3 rfl
  · intro H2 s2 res
    refine q _ ⟨by simp, fun c s hs => ?_⟩ _ _ (s1.trans s2) res
    have hc : c < n := by have := (List.getElem?_eq_some_iff.mp hs).1; simpa using this
    rw [List.getElem?_map, List.getElem?_range hc] at hs
    have hwi := hw _ (wds c hc)
    exact ⟨wd c, hwi.1, Nat.le_trans hwi.2.2 (by decide), (Option.some.inj hs).symm, hwi.2.1⟩
end
end FA
end
section
namespace FA
open PySem PySem.Spec PyProof.Rows L2 FM
--IMPORT Spec7
theorem sc_is_same_paper : FnScope ["one", "two", "paper", "left", "right", "i", "m", "j", "n"] ["one", "two", "paper"] (defScope s_is_same_paper) := ⟨rfl, rfl, rfl, by decide +kernel, rfl, by decide +kernel, by decide +kernel⟩
section
variable {P : Program} {w : World} {K : PySem.W.Frag} {mg : Str → Option Value} {base : Heap} {C : Addr}
theorem ok_is_same_paper (D : Df K mg "is_same_paper" s_is_same_paper ["one", "two", "paper"]) (Z : Glo mg) (Mc : Mcl K mg C) (C__are_closed : Cal P w K mg base "_are_closed" ["one", "two", "pairs"] 1 sp__are_closed) :
    Cal P w K mg base "is_same_paper" ["one", "two", "paper"] 2 (sp_is_same_paper C) := by
  have nd := sc_is_same_paper.nd
  refine D.ok sc_is_same_paper len3 (fun f cdv A outer s H vs Q E hr h => ?_)
  have hu := hu_of hr
  refine ⟨_, (pss_cons (ps_asg (pv 2) (kpg_tup K (n := 2) rfl (pgs_cons (pg_name (i := 3) nd rfl (Or.inl rfl)) (pgs_cons (pg_name (i := 4) nd rfl (Or.inl rfl)) pgs_nil))))
      (pss_cons (ps_if (pt_cmpR op_ne (kfld K (pv 0) rfl) (kfld K (pv 1) rfl) (nomark _)) (pss_one (ps_ret pe_bl)) pss_nil)
      (pss_cons (ps_if (PW.pt (pw_or (pt_not (pt_val (pe_cal C__are_closed (hr.mono (by decide)) (by rfl) (pa_cons (kfld K (pv 0) rfl) (pa_cons (kfld K (pv 1) rfl) (pa_cons (pv 3) pa_nil)))))) (pw_or1 (pt_not (pt_val (pe_cal C__are_closed (hr.mono (by decide)) (by rfl) (pa_cons (kfld K (pv 0) rfl) (pa_cons (kfld K (pv 1) rfl) (pa_cons (pv 4) pa_nil))))))))) (pss_one (ps_ret pe_bl)) pss_nil)
      (pss_cons (ps_for PassesOwn.never rfl (kpi_list K (pv 3)) (kpg_tup K (n := 2) rfl (pgs_cons (pg_name (i := 5) nd rfl (Or.inl rfl)) (pgs_cons (pg_name (i := 6) nd rfl (Or.inl rfl)) pgs_nil))) (pss_one (ps_for PassesOwn.never rfl (kpi_list K (pv 4)) (kpg_tup K (n := 2) rfl (pgs_cons (pg_name (i := 7) nd rfl (Or.inl rfl)) (pgs_cons (pg_name (i := 8) nd rfl (Or.inl rfl)) pgs_nil))) (pss_one (ps_if (pt_cmpR op_ne (pe_ix kix_list (pe_ix kix_list (kfld K (pv 0) rfl) (pv 5) (fun _ _ => rfl)) (pv 7) (fun _ _ => rfl)) (pe_ix kix_list (pe_ix kix_list (kfld K (pv 1) rfl) (pv 6) (fun _ _ => rfl)) (pv 8) (fun _ _ => rfl)) (nomark _)) (pss_one (ps_ret pe_bl)) pss_nil)))))
      (pss_one (ps_ret pe_bl)))))), ?_⟩
  obtain ⟨_, _, _, rfl, M, N, ⟨pl, pr⟩, ⟨m1, dx1, l1, r1, t1, rfl, hm1, hl1, hr1, ht1⟩, ⟨m2, dx2, l2, r2, t2, rfl, hm2, hl2, hr2, ht2⟩, ok, ok2, hrd, ⟨pa, u, u', rfl, hpa, hu1, hu2⟩, sp, q⟩ := h
  have wf1 := ok.wfL
  have wf2 := ok2.wfL
  have wg1 := ok.wfR
  have wg2 := ok2.wfR
  rw [← hrd] at wf2 wg2
  refine ⟨_, rfl, pa, _, rfl, SqT.of hpa, rfl, _, _, rfl, _, _, rfl, rfl, ?_⟩
  refine ⟨_, rfl, m1, C, dx1, _, _, rfl, hm1, Mc.cl, Mc.n1, mf_reads _ _ _ _ _, _, rfl, m2, C, dx2, _, _, rfl, hm2, Mc.cl, Mc.n1, mf_reads _ _ _ _ _, rfl, _, rfl, ?_⟩
  refine ifF (by rw [hrd]; simp) ?_
  refine ⟨_, rfl, m1, C, dx1, _, _, rfl, hm1, Mc.cl, Mc.n3, mf_left _ _ _ _ _, _, rfl, m2, C, dx2, _, _, rfl, hm2, Mc.cl, Mc.n3, mf_left _ _ _ _ _, _, rfl, _, _, _, rfl, M.L, N.L, M.L.length, N.L.length, M.rd.length, pl, hl1, hl2, hu1, wf1, wf2, ok.bL, ok2.bL, ok.k, sp.l, fun H1 s1 => ?_⟩
  refine ⟨true, rfl, ?_⟩
  refine iteF ?_
  refine ⟨_, rfl, m1, C, dx1, _, _, rfl, s1 _ _ hm1, Mc.cl, Mc.n4, mf_right _ _ _ _ _, _, rfl, m2, C, dx2, _, _, rfl, s1 _ _ hm2, Mc.cl, Mc.n4, mf_right _ _ _ _ _, _, rfl, _, _, _, rfl, M.R, N.R, M.R.length, N.R.length, M.rd.length, pr, mRows _ _ _ _ s1 hr1, mRows _ _ _ _ s1 hr2, mL mPr _ _ _ _ s1 hu2, wg1, wg2, ok.bR, ok2.bR, ok.k, sp.r, fun H2 s2 => ?_⟩
  have s12 := s1.trans s2
  refine ⟨true, rfl, ?_⟩
  refine iteF ?_
  obtain ⟨la, lvs, rfl, hla, pla⟩ := id hu1
  obtain ⟨ra, rvs, rfl, hra, pra⟩ := id hu2
  refine ⟨_, rfl, la, rfl, ⟨lvs, SqL.of (s12 _ _ hla)⟩, ?_⟩
  refine for_it (walk_list (xs := lvs)) (fun i σ Hx => ∃ x5 x6 x7 x8 : Option V, σ = [some (V.ref m1), some (.ref m2), some (.ref pa), some (.ref la), some (.ref ra), x5, x6, x7, x8] ∧ Hx = H2) ⟨none, none, none, none, rfl, rfl⟩ ?_ ?_ ?_
  · rintro i σ Hx _ ⟨_, _, _, _, _, rfl⟩
    exact SqL.of (s12 _ _ hla)
  · rintro i x σ _ Hx hi ⟨x5, x6, x7, x8, rfl, rfl⟩ ⟨rfl, hx⟩
    obtain ⟨p, hp, tp, _, _, rfl, htp, rfl, rfl⟩ := pd_get pla hx
    have hpm := List.mem_of_getElem? hp
    refine ⟨tp, _, rfl, SqT.of (s12 _ _ htp), rfl, _, _, rfl, _, _, rfl, rfl, ?_⟩
    refine ⟨_, rfl, ra, rfl, ⟨rvs, SqL.of (s12 _ _ hra)⟩, ?_⟩
    refine for_it (walk_list (xs := rvs)) (fun j σ Hy => ∃ x7 x8 : Option V, σ = [some (V.ref m1), some (.ref m2), some (.ref pa), some (.ref la), some (.ref ra), some (.int (p.1 : Nat)), some (.int (p.2 : Nat)), x7, x8] ∧ Hy = Hx) ⟨x7, x8, rfl, rfl⟩ ?_ ?_ ?_
    · rintro j σ Hy _ ⟨_, _, _, rfl⟩
      exact SqL.of (s12 _ _ hra)
    · rintro j y σ _ Hy hj ⟨x7, x8, rfl, rfl⟩ ⟨rfl, hy⟩
      obtain ⟨r, hr, tr, _, _, rfl, htr, rfl, rfl⟩ := pd_get pra hy
      have hrm := List.mem_of_getElem? hr
      have b1 := sp.l.rng p hpm
      have b2 := sp.r.rng r hrm
      refine ⟨tr, _, rfl, SqT.of (s12 _ _ htr), rfl, _, _, rfl, _, _, rfl, rfl, ?_⟩
      obtain ⟨a, vs, c, ws, ea, ha, hc, hws, hcell⟩ := tab_at ht1 ok.wfT b1.1 b2.1
      subst ea
      obtain ⟨a', vs', c', ws', ea', ha', hc', hws', hcell'⟩ := tab_at ht2 ok2.wfT b1.2 b2.2
      subst ea'
      refine ⟨_, rfl, m1, C, dx1, _, _, rfl, s12 _ _ hm1, Mc.cl, Mc.n5, mf_table _ _ _ _ _, _, rfl, a, vs, _, _, rfl, rfl, s12 _ _ ha, atI_nat hc, _, rfl, c, ws, _, _, rfl, rfl, s12 _ _ hws, atI_nat hcell, _, rfl, m2, C, dx2, _, _, rfl, s12 _ _ hm2, Mc.cl, Mc.n5, mf_table _ _ _ _ _, _, rfl, a', vs', _, _, rfl, rfl, s12 _ _ ha', atI_nat hc', _, rfl, c', ws', _, _, rfl, rfl, s12 _ _ hws', atI_nat hcell', rfl, _, rfl, ?_⟩
      refine ifF (by rw [sp.t p hpm r hrm]; simp) ?_
      exact ⟨_, _, rfl, rfl⟩
    · rintro σ Hy ⟨x7, x8, rfl, rfl⟩
      exact ⟨_, _, _, _, rfl, rfl⟩
  · rintro σ Hx ⟨x5, x6, x7, x8, rfl, rfl⟩
    exact q _ s12
end
end FA
end
section
namespace FA
open PySem PySem.Spec PyProof.Rows L2 FM
--IMPORT SpecM
theorem sc__law_row : FnScope ["_law_script", "_law_first", "_law_last", "_law_row_here", "_law_k", "_law_cell_here", "_law_turn"] ["_law_script", "_law_first", "_law_last"] (defScope s__law_row) := ⟨rfl, rfl, rfl, by decide +kernel, rfl, by decide +kernel, by decide +kernel⟩
section
variable {P : Program} {w : World} {K : PySem.W.Frag} {mg : Str → Option Value} {base : Heap} {C : Addr}
theorem ok__law_row (D : Df K mg "_law_row" s__law_row ["_law_script", "_law_first", "_law_last"]) (Z : Glo mg) (Mc : Mcl K mg C) (C__law_cell : Cal P w K mg base "_law_cell" ["_law_script", "_law_k"] 1 (sp__law_cell K)) :
    Cal P w K mg base "_law_row" ["_law_script", "_law_first", "_law_last"] 2 (sp__law_row K) := by
  have nd := sc__law_row.nd
  refine D.ok sc__law_row len3 (fun f cdv A outer s H vs Q E hr h => ?_)
  have hu := hu_of hr
  refine ⟨_, (pss_cons (ps_set (i := 3) nd rfl (Or.inl rfl) (pe_lst pa_nil))
      (pss_cons (ps_for PassesOwn.never rfl (pi_range2 (by rfl) Z.z_range (pa_cons (pv 1) (pa_cons (pv 2) pa_nil))) (pg_name (i := 4) nd rfl (Or.inl rfl)) (pss_cons (ps_set (i := 5) nd rfl (Or.inl rfl) (pe_cal C__law_cell (hr.mono (by decide)) (by rfl) (pa_cons (pv 0) (pa_cons (pv 4) pa_nil))))
        (pss_cons (ps_set (i := 5) nd rfl (Or.inl rfl) (pe_op op_add (pe_callB call_abs (by rfl) Z.z_abs (by decide +kernel) (pa_cons (pe_op op_mul pe_int (pv 5)) pa_nil)) (pe_callTy call_int1 (by rfl) Z.z_int (by decide +kernel) (pa_cons (pe_cmpR op_lt (pv 5) pe_int (nomark _)) pa_nil))))
        (pss_one (ps_if (pt_cmpR op_gt (pv 5) (pe_op op_pow pe_int pe_int) (nomark _)) (pss_one (ps_for PassesOwn.never rfl (pi_range1 (by rfl) Z.z_range (pa_cons pe_int pa_nil)) (pg_name (i := 6) nd rfl (Or.inl rfl)) (pss_one (ps_if (pt_cmpR op_gt (pv 5) pe_int (nomark _)) (pss_cons (ps_expr (kbm K PySem.F.plainAttrs_list PySem.F.slot_list_append PySem.F.type_list_append mt_append (pv 3) (pa_cons (pe_op op_mod (pe_callTy call_int1 (by rfl) Z.z_int (by decide +kernel) (pa_cons (pv 5) pa_nil)) pe_int) pa_nil)))
              (pss_one (ps_set (i := 5) nd rfl (Or.inl rfl) (pe_op op_fdiv (pv 5) pe_int)))) pss_nil)))) (pss_one (ps_for PassesOwn.never rfl (pi_range1 (by rfl) Z.z_range (pa_cons pe_int pa_nil)) (pg_name (i := 6) nd rfl (Or.inl rfl)) (pss_cons (ps_set (i := 5) nd rfl (Or.inl rfl) (pe_op op_mod (pe_callTy call_int1 (by rfl) Z.z_int (by decide +kernel) (pa_cons (pe_op op_add (pe_op op_add (pe_op op_mul (pv 5) pe_int) (pe_op op_mul pe_int (pe_op op_add (pv 4) (pv 6)))) pe_int) pa_nil)) pe_int))
            (pss_one (ps_expr (kbm K PySem.F.plainAttrs_list PySem.F.slot_list_append PySem.F.type_list_append mt_append (pv 3) (pa_cons (pe_op op_mod (pe_callTy call_int1 (by rfl) Z.z_int (by decide +kernel) (pa_cons (pe_op op_fdiv (pv 5) pe_int) pa_nil)) pe_int) pa_nil))))))))))))
      (pss_one (ps_ret (pv 3))))), ?_⟩
  obtain ⟨_, _, _, rfl, p, ns, rfl, hs, rfl, rfl, q⟩ := h
  refine ⟨Nat.zero_le _, fun o ho => ?_⟩
  refine ⟨_, rfl, _, rfl, 0, 50, rfl, ⟨by omega, by omega, by omega, by omega⟩, ?_⟩
  refine for_range (n := 50) (lo := 0) (fun i σ H1 => ∃ (xs : List Int) (x4 x5 x6 : Option V), σ = [some (V.ref p), some (.int 0), some (.int 50), some (.ref o), x4, x5, x6] ∧ Same H H1 ∧ H1 o = some (.lst (xs.map V.int)) ∧ xs.length ≤ 60 * i) ⟨[], none, none, none, rfl, same_new ho, upd_same, Nat.zero_le _⟩ ?_ ?_
  · rintro i σ H1 hi ⟨xs, x4, x5, x6, rfl, s1, h1, hl1⟩
    rw [Int.zero_add]
    refine ⟨_, rfl, _, rfl, _, _, rfl, p, ns, rfl, s1.seq hs, ⟨i, rfl⟩, fun z => ?_⟩
    refine ⟨_, rfl, 2, z, rfl, rfl, .inl ⟨by decide, by decide⟩, _, rfl, _, rfl, z, 0, rfl, rfl, .inr ⟨_, rfl, _, _, rfl, rfl, ?_⟩⟩
    refine ⟨_, rfl, 10, 18, rfl, rfl, ⟨by decide, by decide, by decide⟩, _, _, rfl, rfl, _, rfl, ?_⟩
    refine ifB ?_ ?_
    · refine ⟨60, rfl, by decide, by decide, ?_⟩
      refine for_range (n := 60) (lo := 0) (fun j σ H2 => ∃ (xs : List Int) (z : Int) (x6 : Option V), σ = [some (V.ref p), some (.int 0), some (.int 50), some (.ref o), some (.int (i : Nat)), some (.int z), x6] ∧ Same H H2 ∧ H2 o = some (.lst (xs.map V.int)) ∧ xs.length ≤ 60 * i + j) ⟨xs, _, x6, rfl, s1, h1, by omega⟩ ?_ ?_
      · rintro j σ H2 hj ⟨xs, z, x6, rfl, s2, h2, hl2⟩
        rw [Int.zero_add]
        refine ⟨_, rfl, z, 0, rfl, rfl, _, rfl, ?_⟩
        refine ifB ?_ ?_
        · refine ⟨_, rfl, .inl ⟨rfl, _, SqL.of h2⟩, _, rfl, .inl ⟨z, rfl, z, 840, rfl, rfl, (show (0 : Int) < 840 by decide), ?_⟩⟩
          refine ⟨o, _, _, rfl, rfl, h2, sz (by rw [List.length_map]; omega), ?_⟩
          refine ⟨_, rfl, z, 840, rfl, rfl, ⟨by decide, by decide⟩, ?_⟩
          exact ⟨xs ++ [z % 840], _, _, rfl, same_upd s2 ho, by rw [upd_same, List.map_append]; rfl, by rw [List.length_append]; show xs.length + 1 ≤ _; omega⟩
        · exact ⟨xs, z, _, rfl, s2, h2, by omega⟩
      · rintro σ H2 ⟨xs, z, x6, rfl, s2, h2, hl2⟩
        exact ⟨xs, _, _, _, rfl, s2, h2, by omega⟩
    · refine ⟨10, rfl, by decide, by decide, ?_⟩
      refine for_range (n := 10) (lo := 0) (fun j σ H2 => ∃ (xs : List Int) (z : Int) (x6 : Option V), σ = [some (V.ref p), some (.int 0), some (.int 50), some (.ref o), some (.int (i : Nat)), some (.int z), x6] ∧ Same H H2 ∧ H2 o = some (.lst (xs.map V.int)) ∧ xs.length ≤ 60 * i + j) ⟨xs, _, x6, rfl, s1, h1, by omega⟩ ?_ ?_
      · rintro j σ H2 hj ⟨xs, z, x6, rfl, s2, h2, hl2⟩
        rw [Int.zero_add]
        refine ⟨_, rfl, z, 69069, rfl, rfl, .inr ⟨by decide, by decide⟩, _, rfl, _, rfl, (i : Nat), (j : Nat), rfl, rfl, 104729, _, rfl, rfl, .inl ⟨by decide, by decide⟩, _, _, rfl, rfl, _, _, rfl, rfl, .inl ⟨_, rfl, _, 4294967291, rfl, rfl, (show (0 : Int) < 4294967291 by decide), ?_⟩⟩
        refine ⟨_, rfl, .inl ⟨rfl, _, SqL.of h2⟩, _, rfl, _, 5003, rfl, rfl, ⟨by decide, by decide⟩, .inl ⟨_, rfl, _, 840, rfl, rfl, (show (0 : Int) < 840 by decide), ?_⟩⟩
        refine ⟨o, _, _, rfl, rfl, h2, sz (by rw [List.length_map]; omega), ?_⟩
        exact ⟨xs ++ [_], _, _, rfl, same_upd s2 ho, by rw [upd_same, List.map_append]; rfl, by rw [List.length_append]; show xs.length + 1 ≤ _; omega⟩
      · rintro σ H2 ⟨xs, z, x6, rfl, s2, h2, hl2⟩
        exact ⟨xs, _, _, _, rfl, s2, h2, by omega⟩
  · rintro σ H1 ⟨xs, x4, x5, x6, rfl, s1, h1, hl1⟩
    refine ⟨_, rfl, ?_⟩
    refine q xs _ _ s1 ⟨o, _, rfl, by rw [offs_get (by simp) ho]; exact h1, ?_⟩
    have : ∀ xs : List Int, Paired (rZ (offs H [] H1)) (xs.map V.int) xs := fun xs => by
      induction xs with
      | nil => exact .nil
      | cons x xs ih => exact .cons rfl ih
    exact this xs
end
end FA
end
section
namespace FA
open PySem PySem.Spec PyProof.Rows L2 FM
--IMPORT SpecM
theorem sc__law_states : FnScope ["_law_box", "_law_many", "_law_letters", "_law_i", "_law_k"] ["_law_box", "_law_many", "_law_letters"] (defScope s__law_states) := ⟨rfl, rfl, rfl, by decide +kernel, rfl, by decide +kernel, by decide +kernel⟩
section
variable {P : Program} {w : World} {K : PySem.W.Frag} {mg : Str → Option Value} {base : Heap} {C : Addr}
theorem ok__law_states (D : Df K mg "_law_states" s__law_states ["_law_box", "_law_many", "_law_letters"]) (Z : Glo mg) (Mc : Mcl K mg C) (C__law_draw : Cal P w K mg base "_law_draw" ["_law_box", "_law_many"] 1 sp__law_draw) :
    Cal P w K mg base "_law_states" ["_law_box", "_law_many", "_law_letters"] 2 sp__law_states := by
  have nd := sc__law_states.nd
  refine D.ok sc__law_states len3 (fun f cdv A outer s H vs Q E hr h => ?_)
  have hu := hu_of hr
  refine ⟨_, (pss_one (ps_ret (pe_lc (own := [("_law_i", 3)]) (tt := tYes) rfl nd (pi_range1 (by rfl) Z.z_range (pa_cons (pv 1) pa_nil)) (blkOk_by (by kernel_rfl)) (fun _ _ _ _ _ => (pg_name (i := 3) nd rfl (Or.inl rfl))) (fun _ _ _ _ _ => pts_nil) (fun _ _ _ _ _ => (pe_lc (own := [("_law_k", 4)]) (tt := tYes) rfl nd (pi_range1 (by rfl) Z.z_range (pa_cons (pv 2) pa_nil)) (blkOk_by (by kernel_rfl)) (fun _ _ _ _ _ => (pg_name (i := 4) nd rfl (Or.inl rfl))) (fun _ _ _ _ _ => pts_nil) (fun _ _ _ _ _ => (pe_cal C__law_draw (hr.mono (by decide)) (by rfl) (pa_cons (pv 0) (pa_cons (pv 1) pa_nil))))))))), ?_⟩
  obtain ⟨_, _, _, rfl, b, ro, n, L, rfl, bx, rfl, rfl, n0, hn, hL, q⟩ := h
  refine ⟨_, rfl, (n : Nat), rfl, by omega, by omega, fun D hD => ?_⟩
  have e0 : ((n : Nat) : Int).toNat = n := by omega
  rw [e0]
  have wk := walk_range (lo := 0) (n := n)
  refine lcB (R := rEx (rL rI) (fun r => r.length = L ∧ ∀ x ∈ r, x < n)) (mEx (mL mI)) (List.replicate n ()) hD bx (n := n) (by simp) (szl (by simp; omega)) (fun i H1 hi k => wk.goes i H1 hi trivial) (fun H1 k => wk.stops H1 trivial) ?_ ?_
  · intro i x o H1 H0 hi hb k1 bx1 nD hy k hk
    obtain ⟨rfl, rfl⟩ := wk.yields i H1 x H0 hi trivial hy
    refine ⟨wp1, _, rfl, (L : Nat), rfl, by omega, by omega, fun D2 hD2 => ?_⟩
    have e1 : ((L : Nat) : Int).toNat = L := by omega
    rw [e1]
    have wk2 := walk_range (lo := 0) (n := L)
    refine lcB (R := rEx rI (fun x => x < n)) (mEx mI) (List.replicate L ()) hD2 bx1 (n := L) (by simp) (szl (by simp; omega)) (fun i H1 hi k => wk2.goes i H1 hi trivial) (fun H1 k => wk2.stops H1 trivial) ?_ ?_
    · intro j y o2 H2 H0 hj hb2 k2 bx2 nD2 hy2 kk hkk
      obtain ⟨rfl, rfl⟩ := wk2.yields j H2 y H0 hj trivial hy2
      refine ⟨wp1, _, rfl, _, rfl, _, _, rfl, b, ro, n, rfl, bx2, rfl, n0, fun r hr H3 k3 b3 => ?_⟩
      exact hkk _ _ k3 b3 ⟨r, rfl, hr⟩
    · intro H2 k2 bx2 res
      obtain ⟨ys, r1, r2, r3⟩ := ex_list res
      refine hk _ _ k2 bx2 ⟨ys, ?_, by simpa using r3, r2⟩
      exact mL mI _ _ _ _ (offs_callB k1 bx1.ne (fun d hd => by rw [List.mem_singleton.mp hd]; exact nD)) r1
  · intro H1 k1 bx1 res
    obtain ⟨ys, r1, r2, r3⟩ := ex_list res
    exact q ys ⟨by simpa using r3, r2⟩ _ _ k1 bx1 r1
end
end FA
end
section
namespace FA
open PySem PySem.Spec PyProof.Rows L2 FM
--IMPORT SpecM
theorem sc__law_alphabet : FnScope ["_law_box", "_law_many", "_law_letters", "_law_at"] ["_law_box", "_law_many"] (defScope s__law_alphabet) := ⟨rfl, rfl, rfl, by decide +kernel, rfl, by decide +kernel, by decide +kernel⟩
section
variable {P : Program} {w : World} {K : PySem.W.Frag} {mg : Str → Option Value} {base : Heap} {C : Addr}
theorem ok__law_alphabet (D : Df K mg "_law_alphabet" s__law_alphabet ["_law_box", "_law_many"]) (Z : Glo mg) (Mc : Mcl K mg C) (C__law_draw : Cal P w K mg base "_law_draw" ["_law_box", "_law_many"] 1 sp__law_draw) :
    Cal P w K mg base "_law_alphabet" ["_law_box", "_law_many"] 2 sp__law_alphabet := by
  have nd := sc__law_alphabet.nd
  refine D.ok sc__law_alphabet len2 (fun f cdv A outer s H vs Q E hr h => ?_)
  have hu := hu_of hr
  refine ⟨_, (pss_cons (ps_set (i := 2) nd rfl (Or.inl rfl) pe_str)
      (pss_cons (ps_set (i := 3) nd rfl (Or.inl rfl) (pe_cal C__law_draw (hr.mono (by decide)) (by rfl) (pa_cons (pv 0) (pa_cons pe_int pa_nil))))
      (pss_one (ps_ret (pe_slice sl_str (pv 2) (po_some (pv 3)) (po_some (pe_op op_add (pv 3) (pv 1)))))))), ?_⟩
  obtain ⟨_, _, rfl, b, ro, m, rfl, bx, rfl, hm, q⟩ := h
  refine ⟨_, rfl, _, _, rfl, b, ro, 5, rfl, bx, rfl, by decide, fun r hr H1 k1 b1 => ?_⟩
  refine ⟨_, rfl, _, rfl, _, rfl, _, rfl, _, rfl, (r : Nat), (m : Nat), rfl, rfl, _, rfl, LETS, rfl, szl (by decide +kernel), ?_⟩
  have key : ∀ r ∈ List.range 5, ∀ m ∈ [1, 2], cutS LETS (some ((r : Nat) : Int)) (some (((r : Nat) : Int) + ((m : Nat) : Int))) ∈ ALPHS := by decide +kernel
  exact q _ (key r (List.mem_range.mpr hr) m (by rcases hm with e | e <;> simp [e])) _ k1 b1
end
end FA
end
section
namespace FA
open PySem PySem.Spec PyProof.Rows L2 FM
--IMPORT SpecM
theorem sc__law_doubled : FnScope ["_law_box", "_law_many", "_law_out", "_law_state"] ["_law_box", "_law_many"] (defScope s__law_doubled) := ⟨rfl, rfl, rfl, by decide +kernel, rfl, by decide +kernel, by decide +kernel⟩
section
variable {P : Program} {w : World} {K : PySem.W.Frag} {mg : Str → Option Value} {base : Heap} {C : Addr}
theorem ok__law_doubled (D : Df K mg "_law_doubled" s__law_doubled ["_law_box", "_law_many"]) (Z : Glo mg) (Mc : Mcl K mg C) (C__law_draw : Cal P w K mg base "_law_draw" ["_law_box", "_law_many"] 1 sp__law_draw) :
    Cal P w K mg base "_law_doubled" ["_law_box", "_law_many"] 2 sp__law_doubled := by
  have nd := sc__law_doubled.nd
  refine D.ok sc__law_doubled len2 (fun f cdv A outer s H vs Q E hr h => ?_)
  have hu := hu_of hr
  refine ⟨_, (pss_cons (ps_set (i := 2) nd rfl (Or.inl rfl) (pe_lst pa_nil))
      (pss_cons (ps_for PassesOwn.never rfl (pi_range1 (by rfl) Z.z_range (pa_cons (pv 1) pa_nil)) (pg_name (i := 3) nd rfl (Or.inl rfl)) (pss_one (ps_expr (kbm K PySem.F.plainAttrs_list PySem.F.slot_list_extend PySem.F.type_list_extend mt_extend (pv 2) (pa_cons (pe_op op_rep (pe_lst (pa_cons (pv 3) pa_nil)) (pe_op op_add pe_int (pe_callTy call_int1 (by rfl) Z.z_int (by decide +kernel) (pa_cons (pe_cmpR op_eq (pe_cal C__law_draw (hr.mono (by decide)) (by rfl) (pa_cons (pv 0) (pa_cons pe_int pa_nil))) pe_int (nomark _)) pa_nil)))) pa_nil)))))
      (pss_one (ps_ret (pv 2))))), ?_⟩
  obtain ⟨_, _, rfl, b, ro, n, rfl, bx, rfl, hn, q⟩ := h
  refine ⟨Nat.zero_le _, fun o ho => ?_⟩
  have nob : o ≠ b := fun e => bx.ne (by rw [← e]; exact ho)
  have nor : o ≠ ro := fun e => bx.nr (by rw [← e]; exact ho)
  refine ⟨_, rfl, (n : Nat), rfl, by omega, by omega, ?_⟩
  have e0 : ((n : Nat) : Int).toNat = n := by omega
  rw [e0]
  refine for_range (n := n) (lo := 0) (fun i σ H1 => ∃ (xs : List Nat) (x3 : Option V), σ = [some (V.ref b), some (.int (n : Nat)), some (.ref o), x3] ∧ Keep b H H1 ∧ BoxAt b ro H1 ∧ H1 o = some (.lst (xs.map iv)) ∧ xs.length ≤ 2 * i ∧ (∀ x ∈ xs, x < i) ∧ ∀ c, c < i → c ∈ xs) ⟨[], none, rfl, (Keep.refl b H).upd ho, bx.upd nob nor, upd_same, Nat.zero_le _, nofun, fun c hc => by omega⟩ ?_ ?_
  · rintro i σ H1 hi ⟨xs, x3, rfl, k1, b1, h1, hl, hlt, hc⟩
    rw [Int.zero_add]
    refine ⟨_, rfl, .inl ⟨rfl, _, SqL.of h1⟩, _, rfl, by show 1 ≤ sizeLine; decide, fun l hl' => ?_⟩
    have s2 : Same H1 (upd H1 l (.lst [.int (i : Nat)])) := same_new hl'
    have b2 := b1.same s2
    refine ⟨_, rfl, _, _, rfl, b, ro, 3, rfl, b2, rfl, by decide, fun r hr H3 k3 b3 => ?_⟩
    have nlb : l ≠ b := fun e => b1.ne (by rw [← e]; exact hl')
    have nlo : l ≠ o := fun e => by rw [e, h1] at hl'; cases hl'
    have hl3 : H3 l = some (.lst [.int (i : Nat)]) := k3 _ _ upd_same nlb
    have ho3 : H3 o = some (.lst (xs.map iv)) := k3 _ _ (s2 _ _ h1) nob
    have k13 := k1.trans ((Keep.of s2).trans k3)
    refine ⟨rfl, ?_⟩
    have fin : ∀ (m : Nat) (p : Addr), (m = 1 ∨ m = 2) → H3 p = none → ∀ vs, vs = (List.replicate m i).map iv → ∃ (xs' : List Nat) (x3 : Option V), [some (V.ref b), some (.int (n : Nat)), some (.ref o), some (.int (i : Nat))] = [some (V.ref b), some (.int (n : Nat)), some (.ref o), x3] ∧ Keep b H (upd (upd H3 p (.lst vs)) o (.lst (xs.map iv ++ vs))) ∧ BoxAt b ro (upd (upd H3 p (.lst vs)) o (.lst (xs.map iv ++ vs))) ∧ (upd (upd H3 p (.lst vs)) o (.lst (xs.map iv ++ vs))) o = some (.lst (xs'.map iv)) ∧ xs'.length ≤ 2 * (i + 1) ∧ (∀ x ∈ xs', x < i + 1) ∧ ∀ c, c < i + 1 → c ∈ xs' := by
      rintro m p hm hp vs rfl
      have hHp : H p = none := k13.free b3.ne hp
      refine ⟨xs ++ List.replicate m i, _, rfl, (k13.upd hHp).upd ho, (b3.new hp).upd nob nor, by rw [upd_same, List.map_append], ?_, fun x hx => ?_, fun c hc' => ?_⟩
      · rw [List.length_append, List.length_replicate]; omega
      · rcases List.mem_append.mp hx with e | e
        · have := hlt x e; omega
        · have := (List.mem_replicate.mp e).2; omega
      · by_cases e : c = i
        · subst e
          exact List.mem_append.mpr (.inr (List.mem_replicate.mpr ⟨by omega, rfl⟩))
        · exact List.mem_append.mpr (.inl (hc c (by omega)))
    by_cases hr0 : r = 0
    · subst hr0
      refine .inr ⟨true, by simp, 1, _, rfl, rfl, l, 2, _, rfl, rfl, hl3, by decide, by decide, by show 1 * 2 ≤ sizeLine; decide, fun p hp => ?_⟩
      have npo : p ≠ o := fun e => by rw [e, ho3] at hp; cases hp
      refine ⟨o, p, xs.map iv, [iv i, iv i], rfl, rfl, by rw [upd_ne npo.symm]; exact ho3, upd_same, szl (by rw [List.length_map]; show xs.length + 2 ≤ 10000; omega), fin 2 p (.inr rfl) hp _ rfl⟩
    · have hd : ¬ V.int ((r : Nat) : Int) = V.int 0 := fun e => by injection e with e; omega
      refine .inr ⟨false, by rw [decide_eq_false hd], 1, _, rfl, rfl, l, 1, _, rfl, rfl, hl3, by decide, by decide, by show 1 * 1 ≤ sizeLine; decide, fun p hp => ?_⟩
      have npo : p ≠ o := fun e => by rw [e, ho3] at hp; cases hp
      refine ⟨o, p, xs.map iv, [iv i], rfl, rfl, by rw [upd_ne npo.symm]; exact ho3, upd_same, szl (by rw [List.length_map]; show xs.length + 1 ≤ 10000; omega), fin 1 p (.inl rfl) hp _ rfl⟩
  · rintro σ H1 ⟨xs, x3, rfl, k1, b1, h1, hl, hlt, hc⟩
    refine ⟨_, rfl, ?_⟩
    exact q xs hl hlt hc _ _ k1 b1 ⟨o, _, rfl, by rw [offs_get (by simp) ho]; exact h1, ints_pd _⟩
end
end FA
end
section
namespace FA
open PySem PySem.Spec PyProof.Rows L2 FM
--IMPORT SpecM
theorem sc__law_copy_of : FnScope ["_law_box", "_law_states_here", "_law_to", "_law_places", "_law_k"] ["_law_box", "_law_states_here", "_law_to"] (defScope s__law_copy_of) := ⟨rfl, rfl, rfl, by decide +kernel, rfl, by decide +kernel, by decide +kernel⟩
section
variable {P : Program} {w : World} {K : PySem.W.Frag} {mg : Str → Option Value} {base : Heap} {C : Addr}
theorem ok__law_copy_of (D : Df K mg "_law_copy_of" s__law_copy_of ["_law_box", "_law_states_here", "_law_to"]) (Z : Glo mg) (Mc : Mcl K mg C) (C__law_draw : Cal P w K mg base "_law_draw" ["_law_box", "_law_many"] 1 sp__law_draw) :
    Cal P w K mg base "_law_copy_of" ["_law_box", "_law_states_here", "_law_to"] 2 sp__law_copy_of := by
  have nd := sc__law_copy_of.nd
  refine D.ok sc__law_copy_of len3 (fun f cdv A outer s H vs Q E hr h => ?_)
  have hu := hu_of hr
  refine ⟨_, (pss_cons (ps_setLc (i := 3) (own := [("_law_k", 4)]) rfl nd rfl rfl (sw_true rfl rfl rfl (by kernel_rfl)) (pi_range1 (by rfl) Z.z_range (pa_cons (pe_callB klen_seq (by rfl) Z.z_len (by decide +kernel) (pa_cons (pv 1) pa_nil)) pa_nil)) (blkOk_by (by kernel_rfl)) (fun _ _ _ _ _ => (pg_name (i := 4) nd rfl (Or.inl rfl))) (fun _ _ _ _ _ => (pts_one (pt_cmpR op_eq (pe_ix kix_list (pv 1) (pv 4) (fun _ _ => rfl)) (pv 2) (nomark _)))) (fun _ _ _ _ _ => (pv 4)))
      (pss_one (ps_ret (pe_ix kix_list (pv 3) (pe_cal C__law_draw (hr.mono (by decide)) (by rfl) (pa_cons (pv 0) (pa_cons (pe_callB klen_seq (by rfl) Z.z_len (by decide +kernel) (pa_cons (pv 3) pa_nil)) pa_nil))) (fun _ _ => rfl))))), ?_⟩
  obtain ⟨_, _, _, rfl, b, ro, xs, t, rfl, bx, ⟨sa, svs, rfl, hsa, ps⟩, rfl, ht, hl, q⟩ := h
  have hsa' := (nb_some hsa).2
  have hsl := pd_len ps
  have hsv := pd_ints ps
  refine ⟨_, rfl, sa, svs, rfl, .inl hsa', (svs.length : Nat), rfl, by omega, by omega, fun D hD => ?_⟩
  have e0 : ((svs.length : Nat) : Int).toNat = xs.length := by omega
  rw [e0]
  refine lc_range (lo := 0) (fun i H1 => Same H H1 ∧ H1 D = some (.lst (((List.range i).filter fun k => xs.getD k 0 = t).map iv))) ⟨same_new hD, upd_same⟩ ?_ ?_
  · rintro i H1 hi ⟨s1, h1⟩
    rw [Int.zero_add]
    have hget : svs[i]? = some (iv (xs.getD i 0)) := by rw [hsv, List.getElem?_map, getD_some (d := 0) hi]; rfl
    refine ⟨wp1, _, rfl, _, rfl, sa, svs, (i : Nat), _, rfl, rfl, s1 _ _ hsa', atI_nat hget, _, rfl, rfl, _, rfl, ?_⟩
    have hfl : (((List.range i).filter fun k => xs.getD k 0 = t).map iv).length ≤ i := by
      rw [List.length_map]
      exact Nat.le_trans (List.length_filter_le _ _) (by simp)
    by_cases e : xs.getD i 0 = t
    · refine ifT (by rw [e]; simp [iv]) ?_
      refine ⟨_, rfl, _, h1, sz (by omega), same_upd s1 hD, ?_⟩
      rw [upd_same, List.range_succ, List.filter_append, List.map_append]
      have : ([i] : List Nat).filter (fun k => xs.getD k 0 = t) = [i] := by rw [List.filter_cons, if_pos (decide_eq_true e)]; rfl
      rw [this]; rfl
    · have hd : ¬ iv (xs.getD i 0) = V.int (t : Int) := fun z => by unfold iv at z; injection z with z; exact e (Int.ofNat.inj z)
      refine ifF (decide_eq_false hd) ?_
      refine ⟨s1, ?_⟩
      rw [List.range_succ, List.filter_append, List.map_append]
      have : ([i] : List Nat).filter (fun k => xs.getD k 0 = t) = [] := by rw [List.filter_cons, if_neg (by rw [decide_eq_false e]; exact Bool.false_ne_true)]; rfl
      rw [this, List.map_nil, List.append_nil]; exact h1
  · rintro H1 ⟨s1, h1⟩
    generalize hF : (List.range xs.length).filter (fun k => xs.getD k 0 = t) = F at h1
    have hFm : ∀ k ∈ F, k < xs.length := fun k hk => by rw [← hF] at hk; exact List.mem_range.mp (List.mem_filter.mp hk).1
    have hF0 : 0 < F.length := by
      refine List.length_pos_iff.mpr fun e => ?_
      have hi : xs.idxOf t < xs.length := List.idxOf_lt_length_iff.mpr ht
      have : xs.idxOf t ∈ F := by
        rw [← hF]
        refine List.mem_filter.mpr ⟨List.mem_range.mpr hi, ?_⟩
        rw [FM.getD_idxOf ht]; simp
      rw [e] at this
      cases this
    have nDb : D ≠ b := fun e => bx.ne (by rw [← e]; exact hD)
    refine ⟨_, rfl, _, rfl, _, rfl, D, _, rfl, .inl h1, _, _, rfl, b, ro, F.length, rfl, bx.same s1, by rw [List.length_map], hF0, fun r hr H2 k2 b2 => ?_⟩
    refine ⟨D, _, (r : Nat), iv (F.getD r 0), rfl, rfl, k2 _ _ h1 nDb, atI_nat (by rw [List.getElem?_map, getD_some (d := 0) hr]; rfl), ?_⟩
    exact q _ (hFm _ (FM.getD_mem hr)) _ ((Keep.of s1).trans k2) b2
end
end FA
end
section
namespace FA
open PySem PySem.Spec PyProof.Rows L2 FM
--IMPORT SpecM
theorem sc__law_near : FnScope ["_law_box", "_law_m", "_law_table", "_law_i", "_law_j", "_law_k", "_law_text", "_law_row_here"] ["_law_box", "_law_m"] (defScope s__law_near) := ⟨rfl, rfl, rfl, by decide +kernel, rfl, by decide +kernel, by decide +kernel⟩
section
variable {P : Program} {w : World} {K : PySem.W.Frag} {mg : Str → Option Value} {base : Heap} {C : Addr}
theorem ok__law_near (D : Df K mg "_law_near" s__law_near ["_law_box", "_law_m"]) (Z : Glo mg) (Mc : Mcl K mg C) (C__law_draw : Cal P w K mg base "_law_draw" ["_law_box", "_law_many"] 1 sp__law_draw) :
    Cal P w K mg base "_law_near" ["_law_box", "_law_m"] 2 sp__law_near := by
  have nd := sc__law_near.nd
  refine D.ok sc__law_near len2 (fun f cdv A outer s H vs Q E hr h => ?_)
  have hu := hu_of hr
  refine ⟨_, (pss_cons (ps_setLc (i := 2) (own := [("_law_row_here", 7)]) (tt := tYes) rfl nd rfl rfl (sw_true rfl rfl rfl (by kernel_rfl)) (kpi_list K (pe_ix kix_list (pv 1) pe_int (fun _ _ => rfl))) (blkOk_by (by kernel_rfl)) (fun _ _ _ _ _ => (pg_name (i := 7) nd rfl (Or.inl rfl))) (fun _ _ _ _ _ => pts_nil) (fun _ _ _ _ _ => (pe_callTy klist (by rfl) Z.z_list (by decide +kernel) (pa_cons (pv 7) pa_nil))))
      (pss_cons (ps_set (i := 3) nd rfl (Or.inl rfl) (pe_cal C__law_draw (hr.mono (by decide)) (by rfl) (pa_cons (pv 0) (pa_cons (pe_callB klen_seq (by rfl) Z.z_len (by decide +kernel) (pa_cons (pe_ix kix_list (pv 1) pe_int (fun _ _ => rfl)) pa_nil)) pa_nil))))
      (pss_cons (ps_set (i := 4) nd rfl (Or.inl rfl) (pe_cal C__law_draw (hr.mono (by decide)) (by rfl) (pa_cons (pv 0) (pa_cons (pe_callB klen_seq (by rfl) Z.z_len (by decide +kernel) (pa_cons (pe_ix kix_list (pv 1) pe_int (fun _ _ => rfl)) pa_nil)) pa_nil))))
      (pss_cons (ps_set (i := 5) nd rfl (Or.inl rfl) (pe_cal C__law_draw (hr.mono (by decide)) (by rfl) (pa_cons (pv 0) (pa_cons (pe_callB klen_str (by rfl) Z.z_len (by decide +kernel) (pa_cons (pe_ix kix_list (pv 1) pe_int (fun _ _ => rfl)) pa_nil)) pa_nil))))
      (pss_cons (ps_set (i := 6) nd rfl (Or.inl rfl) (pe_ix kix_list (pe_ix kix_list (pv 2) (pv 3) (fun _ _ => rfl)) (pv 4) (fun _ _ => rfl)))
      (pss_cons (ps_asg (pe_op op_add_str (pe_op op_add_str (pe_slice sl_str (pv 6) po_none (po_some (pv 5))) (pe_ix ix_str (pe_ix kix_list (pv 1) pe_int (fun _ _ => rfl)) (pe_cal C__law_draw (hr.mono (by decide)) (by rfl) (pa_cons (pv 0) (pa_cons (pe_callB klen_str (by rfl) Z.z_len (by decide +kernel) (pa_cons (pe_ix kix_list (pv 1) pe_int (fun _ _ => rfl)) pa_nil)) pa_nil))) (fun _ _ => rfl))) (pe_slice sl_str (pv 6) (po_some (pe_op op_add (pv 5) pe_int)) po_none)) (pg_sub (pe_ix kix_list (pv 2) (pv 3) (fun _ _ => rfl)) (pv 4) set_list))
      (pss_one (ps_ret (pe_lst (pa_cons (pe_ix kix_list (pv 1) pe_int (fun _ _ => rfl)) (pa_cons (pe_ix kix_list (pv 1) pe_int (fun _ _ => rfl)) (pa_cons (pe_ix kix_list (pv 1) pe_int (fun _ _ => rfl)) (pa_cons (pe_ix kix_list (pv 1) pe_int (fun _ _ => rfl)) (pa_cons (pv 2) pa_nil)))))))))))))), ?_⟩
  obtain ⟨_, _, rfl, b, ro, M, rfl, bx, ⟨a, l, r, t, rfl, ha, hl, hr', ht⟩, ok, q⟩ := h
  have nab := (nb_some ha).1
  have ha0 := (nb_some ha).2
  have bL := ok.bL
  have bR := ok.bR
  have ld := al_len _ ok.rd
  have lw := al_len _ ok.wr
  obtain ⟨la, lvs, rfl, hla, pl⟩ := id hl
  obtain ⟨ra, rvs, rfl, hra, pr⟩ := id hr'
  obtain ⟨ta, tvs, rfl, hta, pt⟩ := id ht
  have nlb := (nb_some hla).1
  have nrb := (nb_some hra).1
  have hla0 := (nb_some hla).2
  have hra0 := (nb_some hra).2
  have hta0 := (nb_some hta).2
  have kl := pd_len pl
  have kr := pd_len pr
  refine ⟨_, rfl, a, _, 4, _, rfl, rfl, ha0, atI_nat (j := 4) rfl, ta, rfl, ⟨tvs, SqL.of hta0⟩, fun D hD => ?_⟩
  refine lc_list (fun i H1 => Same H H1 ∧ ∃ acc, H1 D = some (.lst acc) ∧ Paired (rL rS (offs H [D] H1)) acc (M.T.take i) ∧ acc.Nodup ∧ ∀ v ∈ acc, ∃ z, v = V.ref z ∧ H1 z ≠ none) ⟨same_new hD, [], upd_same, .nil, List.nodup_nil, nofun⟩ (fun i H _ p => SqL.of (p.1 _ _ hta0)) ?_ ?_
  · rintro i x H3 hx ⟨s3, acc, hacc, pacc, nd', hadr⟩
    obtain ⟨r0, hr0, rb, ws, rfl, hrb, pws⟩ := pd_get pt hx
    have hal : acc.length ≤ 40 := by
      rw [pd_len pacc, List.length_take]
      have := ok.wfT.len
      omega
    refine ⟨wp1, _, rfl, rb, ws, rfl, s3 _ _ (nb_some hrb).2, fun z hz => ?_⟩
    have s4 : Same H3 (upd H3 z (.lst ws)) := same_new hz
    have nzD : z ≠ D := fun e => by rw [e, hacc] at hz; cases hz
    refine ⟨acc, s4 _ _ hacc, sz (by omega), same_upd (s3.trans s4) hD, acc ++ [.ref z], upd_same, ?_, ?_, ?_⟩
    · rw [offs_upd (by simp), List.take_add_one, hr0]
      refine pd_snoc (pd_mono (mL mS) (offs_same s4) pacc) ⟨z, ws, rfl, ?_, by rw [pd_strs pws]; exact strs_pd _⟩
      rw [offs_get (by simpa using nzD) (s3.free hz)]; exact upd_same
    · rw [List.nodup_append]
      refine ⟨nd', by simp, fun v hv w hw e => ?_⟩
      rw [List.mem_singleton] at hw
      obtain ⟨z', e', hne⟩ := hadr v hv
      rw [e, hw] at e'
      injection e' with e'
      exact hne (by rw [← e']; exact hz)
    · intro v hv
      rcases List.mem_append.mp hv with e | e
      · obtain ⟨z', e', hne⟩ := hadr v e
        refine ⟨z', e', ?_⟩
        by_cases q : z' = D
        · rw [q, upd_same]; exact nofun
        · rw [upd_ne q]; exact same_ne s4 hne
      · rw [List.mem_singleton] at e
        exact ⟨z, e, by rw [upd_ne nzD, upd_same]; exact nofun⟩
  rintro H1 ⟨s1, acc, hacc, pacc, ndacc, _⟩
  rw [List.take_of_length_le (by rw [pd_len pt]; exact Nat.le_refl _)] at pacc
  have b1 := bx.same s1
  have k01 : Keep b H H1 := Keep.of s1
  -- the places
  refine ⟨_, rfl, _, rfl, a, _, 2, _, rfl, rfl, s1 _ _ ha0, atI_nat (j := 2) rfl, la, lvs, rfl, .inl (s1 _ _ hla0), _, _, rfl, b, ro, M.L.length, rfl, b1, by rw [kl], ok.pL, fun i hi H2 k2 b2 => ?_⟩
  have ha2 := k2 _ _ (s1 _ _ ha0) nab
  refine ⟨_, rfl, _, rfl, a, _, 3, _, rfl, rfl, ha2, atI_nat (j := 3) rfl, ra, rvs, rfl, .inl (k2 _ _ (s1 _ _ hra0) nrb), _, _, rfl, b, ro, M.R.length, rfl, b2, by rw [kr], ok.pR, fun j hj H3 k3 b3 => ?_⟩
  have ha3 := k3 _ _ ha2 nab
  refine ⟨_, rfl, _, rfl, a, _, 0, _, rfl, rfl, ha3, atI_nat (j := 0) rfl, M.rd, rfl, szl (by omega), _, _, rfl, b, ro, M.rd.length, rfl, b3, rfl, by omega, fun k hk H4 k4 b4 => ?_⟩
  have ha4 := k4 _ _ ha3 nab
  have k14 : Keep b H1 H4 := k2.trans (k3.trans k4)
  have nDb : D ≠ b := fun e => bx.ne (by rw [← e]; exact hD)
  have hD4' : H4 D = some (.lst acc) := k14 _ _ hacc nDb
  have hTi : M.T[i]? = some (M.T.getD i []) := getD_some (by rw [ok.wfT.len]; exact hi)
  obtain ⟨xc, hc, c, ws, rfl, hcw, pws⟩ := pd_get' pacc hTi
  have hws := (offs_some hcw)
  have ncD : c ≠ D := by simpa using hws.1
  have ncH : H c = none := hws.2.1
  have ncb : c ≠ b := fun e => bx.ne (by rw [← e]; exact ncH)
  have ncr : c ≠ ro := fun e => bx.nr (by rw [← e]; exact ncH)
  have hws' : H4 c = some (.lst ws) := k14 _ _ hws.2.2 ncb
  have ews := pd_strs pws
  have hrow := ok.wfT.getRow hi
  have hcell : ws[j]? = some (.str (T2 M.T i j)) := by
    rw [ews, List.getElem?_map, getD_some (d := default) (by rw [hrow.1]; exact hj)]; rfl
  have g := ok.wfT.good hi hj
  have gl : (T2 M.T i j).length = M.rd.length := g.1
  refine st_eq (t := tSeq _ _) [some (V.ref b), some (.ref a), some (.ref D), some (.int (i : Nat)), some (.int (j : Nat)), some (.int (k : Nat)), none, none] rfl ?_
  refine ⟨_, rfl, _, rfl, D, acc, _, _, rfl, rfl, hD4', atI_nat hc, _, rfl, c, ws, _, _, rfl, rfl, hws', atI_nat hcell, ?_⟩
  -- the new text
  refine ⟨_, rfl, _, rfl, _, rfl, T2 M.T i j, rfl, szl (by omega), _, rfl, a, _, 1, _, rfl, rfl, ha4, atI_nat (j := 1) rfl, _, rfl, _, rfl, a, _, 1, _, rfl, rfl, ha4, atI_nat (j := 1) rfl, M.wr, rfl, szl (by omega), _, _, rfl, b, ro, M.wr.length, rfl, b4, rfl, by omega, fun z hz H5 k5 b5 => ?_⟩
  have ha5 := k5 _ _ ha4 nab
  have cut1 : ∀ (s : Str) (k : Nat), TL.tl (cutS s none (some ((k : Nat) : Int))) = (TL.tl s).take (min k s.length) := fun s k => by
    show ((s.cps.toList.drop (HT.sIx s.length 0 none)).take (HT.sIx s.length s.length (some ((k : Nat) : Int)) - HT.sIx s.length 0 none)) = _
    rw [HT.sIx_none, HT.sIx_nat, List.drop_zero, Nat.sub_zero]
  have cut2 : ∀ (s : Str) (k : Nat), TL.tl (cutS s (some ((k : Nat) : Int)) none) = (TL.tl s).drop (min k s.length) := fun s k => by
    show ((s.cps.toList.drop (HT.sIx s.length 0 (some ((k : Nat) : Int)))).take (HT.sIx s.length s.length none - HT.sIx s.length 0 (some ((k : Nat) : Int)))) = _
    rw [HT.sIx_none, HT.sIx_nat]
    refine List.take_of_length_le ?_
    rw [List.length_drop]
    show s.cps.toList.length - _ ≤ s.cps.toList.length - _
    exact Nat.le_refl _
  let t1 := cutS (T2 M.T i j) none (some ((k : Nat) : Int))
  let t3 := cutS (T2 M.T i j) (some (((k : Nat) : Int) + 1)) none
  have e3 : t3 = cutS (T2 M.T i j) (some (((k + 1 : Nat)) : Int)) none := by show cutS _ (some _) none = _; congr 2
  have l1 : (TL.tl t1) = (TL.tl (T2 M.T i j)).take k := by rw [show TL.tl t1 = _ from cut1 _ _, Nat.min_eq_left (by omega)]
  have l3 : (TL.tl t3) = (TL.tl (T2 M.T i j)).drop (k + 1) := by rw [e3, cut2, Nat.min_eq_left (by omega)]
  have tl_len : ∀ s : Str, s.length = (TL.tl s).length := fun s => rfl
  have n1 : t1.length = k := by rw [tl_len, l1, List.length_take]; have : (TL.tl (T2 M.T i j)).length = M.rd.length := gl; omega
  have n3 : t3.length = M.rd.length - (k + 1) := by rw [tl_len, l3, List.length_drop]; have : (TL.tl (T2 M.T i j)).length = M.rd.length := gl; omega
  let nt : Str := t1 ++ ⟨#[ltr M.wr z]⟩ ++ t3
  have ntl : TL.tl nt = (TL.tl (T2 M.T i j)).take k ++ [ltr M.wr z] ++ (TL.tl (T2 M.T i j)).drop (k + 1) := by
    show TL.tl (t1 ++ ⟨#[ltr M.wr z]⟩ ++ t3) = _
    rw [TL.tl_append, TL.tl_append, l1, l3]
  have ng : Gd M.wr M.rd.length nt := by
    refine ⟨?_, fun ch hch => ?_⟩
    · show (TL.tl nt).length = _
      rw [ntl, List.length_append, List.length_append, List.length_take, List.length_drop]
      have : (TL.tl (T2 M.T i j)).length = M.rd.length := gl
      show min k _ + 1 + _ = _
      omega
    · have hch : ch ∈ TL.tl nt := hch
      rw [ntl] at hch
      rcases List.mem_append.mp hch with h1 | h1
      · rcases List.mem_append.mp h1 with h2 | h2
        · exact g.2 ch (List.mem_of_mem_take h2)
        · rw [List.mem_singleton.mp h2]; exact ltr_mem hz
      · exact g.2 ch (List.mem_of_mem_drop h1)
  refine ⟨M.wr, (z : Nat), _, rfl, rfl, szl (by omega), atI_nat (ltr_at hz), ?_⟩
  refine ⟨t1, ⟨#[ltr M.wr z]⟩, rfl, rfl, szl (by show t1.length + 1 ≤ 10000; omega), ?_⟩
  refine ⟨_, rfl, _, rfl, (k : Nat), 1, rfl, rfl, _, rfl, T2 M.T i j, rfl, szl (by omega), ?_⟩
  refine ⟨t1 ++ ⟨#[ltr M.wr z]⟩, t3, rfl, rfl, szl (by
    have : (t1 ++ ⟨#[ltr M.wr z]⟩ : Str).length = t1.length + 1 := by rw [tl_len, TL.tl_append, List.length_append]; rfl
    omega), ?_⟩
  -- the store
  have k15 := k14.trans k5
  have hD5 := k5 _ _ hD4' nDb
  have hws5 := k5 _ _ hws' ncb
  have hjw : j < ws.length := (List.getElem?_eq_some_iff.mp hcell).1
  refine ⟨_, rfl, _, rfl, D, acc, _, _, rfl, rfl, hD5, atI_nat hc, _, rfl, c, ws, (j : Nat), j, rfl, rfl, hws5, ?_, ?_⟩
  · unfold ixN
    rw [if_pos (by omega), if_pos (by omega), Int.toNat_natCast]
  have k06 : Keep b H (upd H5 c (.lst (ws.set j (.str nt)))) := (k01.trans k15).upd ncH
  have b6 : BoxAt b ro (upd H5 c (.lst (ws.set j (.str nt)))) := b5.upd ncb ncr
  have h6c : (upd H5 c (.lst (ws.set j (.str nt)))) c = some (.lst (ws.set j (.str nt))) := upd_same
  have h6o : ∀ x o, x ≠ c → x ≠ b → H1 x = some o → (upd H5 c (.lst (ws.set j (.str nt)))) x = some o := fun x o h1 h2 h3 => by rw [upd_ne h1]; exact k15 _ _ h3 h2
  generalize hH6 : upd H5 c (.lst (ws.set j (.str nt))) = H6 at k06 b6 h6c h6o
  clear hH6
  have ha6 := k06 _ _ ha0 nab
  refine ⟨_, rfl, a, _, 0, _, rfl, rfl, ha6, atI_nat (j := 0) rfl, _, rfl, a, _, 1, _, rfl, rfl, ha6, atI_nat (j := 1) rfl, _, rfl, a, _, 2, _, rfl, rfl, ha6, atI_nat (j := 2) rfl, _, rfl, a, _, 3, _, rfl, rfl, ha6, atI_nat (j := 3) rfl, _, rfl, by show 5 ≤ sizeLine; decide, fun p hp => ?_⟩
  have s7 : Same H6 (upd H6 p (.lst [.str M.rd, .str M.wr, .ref la, .ref ra, .ref D])) := same_new hp
  have npb : p ≠ b := fun e => b6.ne (by rw [← e]; exact hp)
  have k07 := k06.trans (Keep.of s7)
  have hrowN : ∀ x ∈ (M.T.getD i []).set j nt, Gd M.wr M.rd.length x := fun x hx => by
    rcases List.mem_or_eq_of_mem_set hx with e | e
    · exact hrow.2 x e
    · rw [e]; exact ng
  have wfN : WFT (Gd M.wr M.rd.length) (M.T.set i ((M.T.getD i []).set j nt)) M.L.length M.R.length := ⟨by rw [List.length_set]; exact ok.wfT.len, fun r hr => by
    rcases List.mem_or_eq_of_mem_set hr with e | e
    · exact ok.wfT.row r e
    · rw [e]; exact ⟨by rw [List.length_set]; exact hrow.1, hrowN⟩⟩
  refine q ⟨M.rd, M.wr, M.L, M.R, M.T.set i ((M.T.getD i []).set j nt)⟩ ⟨ok.rd, ok.wr, ok.wfL, ok.wfR, wfN, ok.pL, ok.pR, ok.bL, ok.bR⟩ rfl rfl _ _ k07 (b6.same s7) ⟨p, .ref la, .ref ra, .ref D, rfl, by rw [nb_get npb]; exact upd_same, mRows _ _ _ _ k07.nb hl, mRows _ _ _ _ k07.nb hr', ⟨D, acc, rfl, by rw [nb_get nDb]; exact s7 _ _ (h6o D _ ncD.symm nDb hacc), ?_⟩⟩
  refine pd_of_get (by rw [List.length_set, pd_len pacc]) fun n x y hx hy => ?_
  by_cases e : n = i
  · subst e
    rw [hc] at hx
    cases hx
    rw [List.getElem?_set_self (by rw [ok.wfT.len]; exact hi)] at hy
    cases hy
    refine ⟨c, _, rfl, by rw [nb_get ncb]; exact s7 _ _ h6c, ?_⟩
    rw [ews, show (V.str nt : V) = V.str nt from rfl, ← List.map_set]
    exact strs_pd _
  · rw [List.getElem?_set_ne (fun z => e z.symm)] at hy
    obtain ⟨x', hx', c', ws', rfl, hcw', pws'⟩ := pd_get' pacc hy
    rw [hx] at hx'
    cases hx'
    have hne : c' ≠ c := fun z => by
      subst z
      exact e (nodup_at ndacc hx hc)
    have hw' := offs_some hcw'
    have nb2 : c' ≠ b := fun z => bx.ne (by rw [← z]; exact hw'.2.1)
    exact ⟨c', ws', rfl, by rw [nb_get nb2]; exact s7 _ _ (h6o c' _ hne nb2 hw'.2.2), by rw [pd_strs pws']; exact strs_pd _⟩
end
end FA
end
section
namespace FA
open PySem PySem.Spec PyProof.Rows L2 FM
--IMPORT Spec4
theorem sc_least_parts : FnScope ["left", "right", "table", "letters", "lefts", "rights", "rows", "others", "small", "front", "new_left", "columns", "behind", "new_right", "state", "word", "i", "j", "told"] ["left", "right", "table", "letters"] (defScope s_least_parts) := ⟨rfl, rfl, rfl, by decide +kernel, rfl, by decide +kernel, by decide +kernel⟩
section
variable {P : Program} {w : World} {K : PySem.W.Frag} {mg : Str → Option Value} {base : Heap} {C : Addr}
theorem ok_least_parts (D : Df K mg "least_parts" s_least_parts ["left", "right", "table", "letters"]) (Z : Glo mg) (Mc : Mcl K mg C) (C_reached_behind : Cal P w K mg base "reached_behind" ["rows", "start"] 1 sp_reached_behind) (C_reached_in_front : Cal P w K mg base "reached_in_front" ["rows", "start", "letters"] 1 sp_reached_in_front) (C_kept_rows : Cal P w K mg base "kept_rows" ["rows", "order"] 1 sp_kept_rows) (C__chosen : Cal P w K mg base "_chosen" ["rows", "parts"] 1 sp__chosen) (C_classes : Cal P w K mg base "classes" ["rows", "marks"] 2 sp_classes) :
    Cal P w K mg base "least_parts" ["left", "right", "table", "letters"] 3 sp_least_parts := by
  have nd := sc_least_parts.nd
  refine D.ok sc_least_parts len4 (fun f cdv A outer s H vs Q E hr h => ?_)
  have hu := hu_of hr
  refine ⟨_, (pss_cons (ps_setLc (i := 4) (own := [("state", 14), ("word", 15)]) (tt := tYes) rfl nd rfl rfl (sw_true rfl rfl rfl (by kernel_rfl)) (kpi_list K (pe_cal C_reached_behind (hr.mono (by decide)) (by rfl) (pa_cons (pv 0) (pa_cons pe_int pa_nil)))) (blkOk_by (by kernel_rfl)) (fun _ _ _ _ _ => (kpg_tup K (n := 2) rfl (pgs_cons (pg_name (i := 14) nd rfl (Or.inl rfl)) (pgs_cons (pg_name (i := 15) nd rfl (Or.inl rfl)) pgs_nil)))) (fun _ _ _ _ _ => pts_nil) (fun _ _ _ _ _ => (pv 14)))
      (pss_cons (ps_set (i := 5) nd rfl (Or.inr rfl) (pe_lc (own := [("state", 14), ("word", 15)]) (tt := tYes) rfl nd (kpi_list K (pe_cal C_reached_in_front (hr.mono (by decide)) (by rfl) (pa_cons (pv 1) (pa_cons pe_int (pa_cons (pv 3) pa_nil))))) (blkOk_by (by kernel_rfl)) (fun _ _ _ _ _ => (kpg_tup K (n := 2) rfl (pgs_cons (pg_name (i := 14) nd rfl (Or.inl rfl)) (pgs_cons (pg_name (i := 15) nd rfl (Or.inl rfl)) pgs_nil)))) (fun _ _ _ _ _ => pts_nil) (fun _ _ _ _ _ => (pv 14))))
      (pss_cons (ps_set (i := 6) nd rfl (Or.inl rfl) (pe_cal C_kept_rows (hr.mono (by decide)) (by rfl) (pa_cons (pv 0) (pa_cons (pv 4) pa_nil))))
      (pss_cons (ps_set (i := 7) nd rfl (Or.inl rfl) (pe_cal C_kept_rows (hr.mono (by decide)) (by rfl) (pa_cons (pv 1) (pa_cons (pv 5) pa_nil))))
      (pss_cons (ps_set (i := 8) nd rfl (Or.inr rfl) (pe_lc (own := [("i", 16)]) (tt := tYes) rfl nd (kpi_list K (pv 4)) (blkOk_by (by kernel_rfl)) (fun _ _ _ _ _ => (pg_name (i := 16) nd rfl (Or.inr rfl))) (fun _ _ _ _ _ => pts_nil) (fun _ _ _ _ _ => (pe_lc (own := [("j", 17)]) (tt := tYes) rfl nd (kpi_list K (pv 5)) (blkOk_by (by kernel_rfl)) (fun _ _ _ _ _ => (pg_name (i := 17) nd rfl (Or.inl rfl))) (fun _ _ _ _ _ => pts_nil) (fun _ _ _ _ _ => (pe_ix kix_list (pe_ix kix_list (pv 2) (pv 16) (fun _ _ => rfl)) (pv 17) (fun _ _ => rfl)))))))
      (pss_cons (ps_asg (pe_cal C__chosen (hr.mono (by decide)) (by rfl) (pa_cons (pv 6) (pa_cons (pe_cal C_classes (hr.mono (by decide)) (by rfl) (pa_cons (pv 6) (pa_cons (pe_lc (own := [("told", 18)]) (tt := tYes) rfl nd (kpi_list K (pv 8)) (blkOk_by (by kernel_rfl)) (fun _ _ _ _ _ => (pg_name (i := 18) nd rfl (Or.inl rfl))) (fun _ _ _ _ _ => pts_nil) (fun _ _ _ _ _ => (pe_callTy ktuple (by rfl) Z.z_tuple (by decide +kernel) (pa_cons (pv 18) pa_nil)))) pa_nil))) pa_nil))) (kpg_tup K (n := 2) rfl (pgs_cons (pg_name (i := 9) nd rfl (Or.inl rfl)) (pgs_cons (pg_name (i := 10) nd rfl (Or.inl rfl)) pgs_nil))))
      (pss_cons (ps_setLc (i := 11) (own := [("j", 17)]) (tt := tYes) rfl nd rfl rfl (sw_true rfl rfl rfl (by kernel_rfl)) (pi_range1 (by rfl) Z.z_range (pa_cons (pe_callB klen_seq (by rfl) Z.z_len (by decide +kernel) (pa_cons (pv 5) pa_nil)) pa_nil)) (blkOk_by (by kernel_rfl)) (fun _ _ _ _ _ => (pg_name (i := 17) nd rfl (Or.inr rfl))) (fun _ _ _ _ _ => pts_nil) (fun _ _ _ _ _ => (pe_callTy ktuple (by rfl) Z.z_tuple (by decide +kernel) (pa_cons (pe_lc (own := [("told", 18)]) (tt := tYes) rfl nd (kpi_list K (pv 8)) (blkOk_by (by kernel_rfl)) (fun _ _ _ _ _ => (pg_name (i := 18) nd rfl (Or.inl rfl))) (fun _ _ _ _ _ => pts_nil) (fun _ _ _ _ _ => (pe_ix kix_list (pv 18) (pv 17) (fun _ _ => rfl)))) pa_nil))))
      (pss_cons (ps_asg (pe_cal C__chosen (hr.mono (by decide)) (by rfl) (pa_cons (pv 7) (pa_cons (pe_cal C_classes (hr.mono (by decide)) (by rfl) (pa_cons (pv 7) (pa_cons (pv 11) pa_nil))) pa_nil))) (kpg_tup K (n := 2) rfl (pgs_cons (pg_name (i := 12) nd rfl (Or.inr rfl)) (pgs_cons (pg_name (i := 13) nd rfl (Or.inl rfl)) pgs_nil))))
      (pss_one (ps_ret (pe_tup (pa_cons (pv 10) (pa_cons (pv 13) (pa_cons (pe_lc (own := [("i", 16)]) (tt := tYes) rfl nd (kpi_list K (pv 9)) (blkOk_by (by kernel_rfl)) (fun _ _ _ _ _ => (pg_name (i := 16) nd rfl (Or.inr rfl))) (fun _ _ _ _ _ => pts_nil) (fun _ _ _ _ _ => (pe_lc (own := [("j", 17)]) (tt := tYes) rfl nd (kpi_list K (pv 12)) (blkOk_by (by kernel_rfl)) (fun _ _ _ _ _ => (pg_name (i := 17) nd rfl (Or.inl rfl))) (fun _ _ _ _ _ => pts_nil) (fun _ _ _ _ _ => (pe_ix kix_list (pe_ix kix_list (pv 8) (pv 16) (fun _ _ => rfl)) (pv 17) (fun _ _ => rfl)))))) pa_nil)))))))))))))), ?_⟩
  obtain ⟨aL, aR, aT, _, rfl, L, R, T, k0, wr, hL, hR, hT, rfl, wfL, wfR, wfT, pL, pR, bL, bR, bK, q⟩ := h
  refine ⟨_, rfl, _, _, rfl, L, L.length, k0, hL, rfl, wfL, pL, bL, bK, fun fs ff v H1 s1 res => ?_⟩
  obtain ⟨ga, gvs, rfl, hga, pg⟩ := res
  have hga1 := (offs_some hga).2.2
  refine ⟨ga, rfl, ⟨gvs, SqL.of hga1⟩, fun D1 hD1 => ?_⟩
  have oL := ordL ff wfL pL
  have hfn : fs.length ≤ 40 := by
    have := FM.nodup_lt_length oL.nodup (n := L.length) fun x hx => by
      obtain ⟨p, hp, rfl⟩ := List.mem_map.mp hx
      exact (ff.w p hp).2.2.1
    rw [List.length_map] at this
    omega
  refine lcL (R := rI) (B := H) mI (fs.map (·.1)) s1 hD1 (SqL.of hga1) (by rw [List.length_map, pd_len pg]) (szl (by rw [List.length_map]; omega)) ?_ ?_
  · intro i x b H2 hx hb s2 nD k hk
    obtain ⟨p, hp, tb, u, w2, rfl, htb, hu2, _⟩ := pd_get pg hx
    have : b = p.1 := by rw [List.getElem?_map, hp] at hb; exact (Option.some.inj hb).symm
    subst this
    refine ⟨tb, _, rfl, SqT.of (s2 _ _ (offs_some htb).2.2), rfl, _, _, rfl, _, _, rfl, rfl, wp2, _, rfl, ?_⟩
    exact hk _ _ (Same.refl _) hu2
  intro H2 s2 hI
  have s02 := s1.trans s2
  -- rights
  refine st_eq (t := tSeq _ _) [some aL, some aR, some aT, some (.int (k0 : Nat)), some (.ref D1), none, none, none, none, none, none, none, none, none, none, none, none, none, none] rfl ?_
  refine ⟨_, rfl, _, rfl, _, _, _, rfl, R, R.length, k0, mRows _ _ _ _ s02 hR, rfl, rfl, wfR, pR, bR, bK, fun gs fg v H3 s3 res => ?_⟩
  obtain ⟨ga3, gvs3, rfl, hga3, pg3⟩ := res
  have hga31 := (offs_some hga3).2.2
  refine ⟨ga3, rfl, ⟨gvs3, SqL.of hga31⟩, fun D2 hD2 => ?_⟩
  have oR := ordR fg wfR pR
  have hgn : gs.length ≤ 40 := by
    have := FM.nodup_lt_length oR.nodup (n := R.length) fun x hx => by
      obtain ⟨p, hp, rfl⟩ := List.mem_map.mp hx
      exact (fg.w p hp).2.2.1
    rw [List.length_map] at this
    omega
  have s03 := s02.trans s3
  refine lcL (R := rI) (B := H) mI (gs.map (·.1)) s03 hD2 (SqL.of hga31) (by rw [List.length_map, pd_len pg3]) (szl (by rw [List.length_map]; omega)) ?_ ?_
  · intro i x b H4 hx hb s4 nD k hk
    obtain ⟨p, hp, tb, u, w2, rfl, htb, hu2, _⟩ := pd_get pg3 hx
    have : b = p.1 := by rw [List.getElem?_map, hp] at hb; exact (Option.some.inj hb).symm
    subst this
    refine ⟨tb, _, rfl, SqT.of (s4 _ _ (offs_some htb).2.2), rfl, _, _, rfl, _, _, rfl, rfl, wp2, _, rfl, ?_⟩
    exact hk _ _ (Same.refl _) hu2
  intro H4 s4 hJ
  have s24 := s3.trans s4
  have s04 := s02.trans s24
  replace hI := mL mI _ _ _ _ (offs_same (B := H) (ds := []) s24) hI
  generalize hIe : fs.map (·.1) = I at *
  generalize hJe : gs.map (·.1) = J at *
  have lI : I.length ≤ 40 := by rw [← hIe, List.length_map]; exact hfn
  have lJ : J.length ≤ 40 := by rw [← hJe, List.length_map]; exact hgn
  have mI1 : ∀ s ∈ I, s < L.length := fun s hs => by rw [← hIe] at hs; obtain ⟨p, hp, rfl⟩ := List.mem_map.mp hs; exact (ff.w p hp).2.2.1
  have mJ1 : ∀ s ∈ J, s < R.length := fun s hs => by rw [← hJe] at hs; obtain ⟨p, hp, rfl⟩ := List.mem_map.mp hs; exact (fg.w p hp).2.2.1
  have clI : ∀ s ∈ I, s < L.length ∧ ∀ x ∈ L.getD s [], x ∈ I := fun s hs => ⟨mI1 s hs, fun x hx => by
    obtain ⟨kk, hkk⟩ := List.getElem?_of_mem hx
    have hk1 : kk < k0 := by rw [← (wfL.getRow (mI1 s hs)).1]; exact (List.getElem?_eq_some_iff.mp hkk).1
    have := oL.closed hs hk1
    unfold at2 at this
    rw [List.getD, hkk] at this
    exact this⟩
  have clJ : ∀ s ∈ J, s < R.length ∧ ∀ x ∈ R.getD s [], x ∈ J := fun s hs => ⟨mJ1 s hs, fun x hx => by
    obtain ⟨kk, hkk⟩ := List.getElem?_of_mem hx
    have hk1 : kk < k0 := by rw [← (wfR.getRow (mJ1 s hs)).1]; exact (List.getElem?_eq_some_iff.mp hkk).1
    have := oR.closed hs hk1
    unfold at2 at this
    rw [List.getD, hkk] at this
    exact this⟩
  have wkL := (oL.kept mI1).1
  have wkR := (oR.kept mJ1).1
  -- rows, others
  refine st_eq (t := tSeq _ _) [some aL, some aR, some aT, some (.int (k0 : Nat)), some (.ref D1), some (.ref D2), none, none, none, none, none, none, none, none, none, none, none, none, none] rfl ?_
  refine ⟨_, rfl, _, rfl, _, _, rfl, L, I, L.length, k0, mRows _ _ _ _ s04 hL, mL mI _ _ _ _ offs_le hI, wfL, bL, bK, oL.nodup, clI, fun v H5 s5 res5 => ?_⟩
  have s05 := s04.trans s5
  replace hI := mL mI _ _ _ _ (offs_same (B := H) (ds := []) s5) hI
  replace hJ := mL mI _ _ _ _ (offs_same (B := H) (ds := []) s5) hJ
  replace res5 := mRows _ _ _ _ (offs_call (ds := []) s04 (fun d hd => by simp at hd)) res5
  refine ⟨_, rfl, _, rfl, _, _, rfl, R, J, R.length, k0, mRows _ _ _ _ s05 hR, mL mI _ _ _ _ offs_le hJ, wfR, bR, bK, oR.nodup, clJ, fun v2 H6 s6 res6 => ?_⟩
  have s06 := s05.trans s6
  replace hI := mL mI _ _ _ _ (offs_same (B := H) (ds := []) s6) hI
  replace hJ := mL mI _ _ _ _ (offs_same (B := H) (ds := []) s6) hJ
  replace res5 := mRows _ _ _ _ (offs_same (B := H) (ds := []) s6) res5
  replace res6 := mRows _ _ _ _ (offs_call (ds := []) s05 (fun d hd => by simp at hd)) res6
  -- small
  refine st_eq (t := tSeq _ _) [some aL, some aR, some aT, some (.int (k0 : Nat)), some (.ref D1), some (.ref D2), some v, some v2, none, none, none, none, none, none, none, none, none, none, none] rfl ?_
  obtain ⟨_, ivs1, eI, hI1, pI⟩ := id hI
  cases eI
  obtain ⟨_, jvs1, eJ, hJ1, pJ⟩ := id hJ
  cases eJ
  have hI2 := (offs_some hI1).2.2
  have hJ2 := (offs_some hJ1).2.2
  have lIv := pd_len pI
  have lJv := pd_len pJ
  refine ⟨_, rfl, D1, rfl, ⟨ivs1, SqL.of hI2⟩, fun D3 hD3 => ?_⟩
  have wfS := small_wf wfT mI1 mJ1
  refine lcL (R := rL rS) (B := H) (mL mS) (smallOf T I J) s06 hD3 (SqL.of hI2) (by rw [wfS.len, lIv]) (szl (by rw [wfS.len]; omega)) ?_ ?_
  · intro i x b H7 hx hb s7 nD k hk
    obtain ⟨ii, hii, rfl⟩ := pd_get pI hx
    have hbe : b = J.map fun j => T2 T ii j := by
      rw [smallOf, List.getElem?_map, hii] at hb
      exact (Option.some.inj hb).symm
    subst hbe
    refine ⟨wp1, _, rfl, D2, rfl, ⟨jvs1, SqL.of (s7 _ _ hJ2)⟩, fun D4 hD4 => ?_⟩
    refine lcL (R := rS) (B := H7) mS (J.map fun j => T2 T ii j) (Same.refl _) hD4 (SqL.of (s7 _ _ hJ2)) (by rw [List.length_map, lJv]) (szl (by rw [List.length_map]; omega)) ?_ ?_
    · intro j y c H8 hy hc s8 nD4 k2 hk2
      obtain ⟨jj, hjj, rfl⟩ := pd_get pJ hy
      have hce : c = T2 T ii jj := by
        rw [List.getElem?_map, hjj] at hc
        exact (Option.some.inj hc).symm
      subst hce
      obtain ⟨a, vs, b2, ws, ea, ha, hb2, hws, hcell⟩ := tab_at hT wfT (mI1 _ (List.mem_of_getElem? hii)) (mJ1 _ (List.mem_of_getElem? hjj))
      subst ea
      have s08 := (s06.trans s7).trans s8
      refine ⟨wp1, _, rfl, _, rfl, a, vs, _, _, rfl, rfl, s08 _ _ ha, atI_nat hb2, _, rfl, b2, ws, _, _, rfl, rfl, s08 _ _ hws, atI_nat hcell, ?_⟩
      exact hk2 _ _ (Same.refl _) rfl
    · intro H8 s8 res8
      exact hk _ _ s8 (mL mS _ _ _ _ (offs_call (s06.trans s7) (fun d hd => by rw [List.mem_singleton.mp hd]; exact nD)) res8)
  intro H7 s7 hS
  have s07 := s06.trans s7
  replace hI := mL mI _ _ _ _ (offs_same (B := H) (ds := []) s7) hI
  replace hJ := mL mI _ _ _ _ (offs_same (B := H) (ds := []) s7) hJ
  replace res5 := mRows _ _ _ _ (offs_same (B := H) (ds := []) s7) res5
  replace res6 := mRows _ _ _ _ (offs_same (B := H) (ds := []) s7) res6
  -- front, new_left
  refine st_eq (t := tSeq _ _) [some aL, some aR, some aT, some (.int (k0 : Nat)), some (.ref D1), some (.ref D2), some v, some v2, some (.ref D3), none, none, none, none, none, none, none, none, none, none] rfl ?_
  obtain ⟨_, svs, eS, hS1, pS⟩ := id hS
  cases eS
  have hS2 := (offs_some hS1).2.2
  refine ⟨_, rfl, _, rfl, _, rfl, D3, rfl, ⟨svs, SqL.of hS2⟩, fun D4 hD4 => ?_⟩
  refine lcL (R := rNk) (B := H7) mNk ((smallOf T I J).map encS) (Same.refl _) hD4 (SqL.of hS2) (by rw [List.length_map, pd_len pS]) (szl (by rw [List.length_map, wfS.len]; omega)) ?_ ?_
  · intro i x b H8 hx hb s8 nD k hk
    obtain ⟨r, hr, ra, rvs, rfl, hra, pr⟩ := pd_get pS hx
    have hbe : b = encS r := by
      rw [List.getElem?_map, hr] at hb
      exact (Option.some.inj hb).symm
    subst hbe
    refine ⟨wp1, _, rfl, ra, rvs, rfl, s8 _ _ (offs_some hra).2.2, fun t ht => ?_⟩
    refine hk _ _ (same_new ht) (nk_encS ⟨t, rvs, rfl, ?_, ?_⟩)
    · rw [offs_get (fun m => nD (by rw [← List.mem_singleton.mp m]; exact ht)) (s8.free ht)]; exact upd_same
    · rw [pd_strs pr]; exact strs_pd _
  intro H8 s8 hM
  have s08 := s07.trans s8
  replace hI := mL mI _ _ _ _ (offs_same (B := H) (ds := []) s8) hI
  replace hJ := mL mI _ _ _ _ (offs_same (B := H) (ds := []) s8) hJ
  replace res5 := mRows _ _ _ _ (offs_same (B := H) (ds := []) s8) res5
  replace res6 := mRows _ _ _ _ (offs_same (B := H) (ds := []) s8) res6
  replace hS := mTab _ _ _ _ (offs_same (B := H) (ds := []) s8) hS
  have kl : (keptRows L I).length = I.length := wkL.len
  have kr : (keptRows R J).length = J.length := wkR.len
  have i0 : 0 < I.length := by
    have := oL.mem (w := []) Wd.nil
    exact List.length_pos_iff.mpr (fun e => by rw [e] at this; cases this)
  have j0 : 0 < J.length := by
    have := oR.mem (w := []) Wd.nil
    exact List.length_pos_iff.mpr (fun e => by rw [e] at this; cases this)
  refine ⟨_, _, rfl, keptRows L I, I.length, k0, (smallOf T I J).map encS, mRows _ _ _ _ offs_le res5, mL mNk _ _ _ _ offs_le hM, wkL, by rw [List.length_map, wfS.len], i0, lI, bK, fun pa hpa v3 H9 s9 res9 => ?_⟩
  have hpaL := parts_unmap encS encS_inj hpa
  have s09 := s08.trans s9
  replace hI := mL mI _ _ _ _ (offs_same (B := H) (ds := []) s9) hI
  replace hJ := mL mI _ _ _ _ (offs_same (B := H) (ds := []) s9) hJ
  replace res5 := mRows _ _ _ _ (offs_same (B := H) (ds := []) s9) res5
  replace res6 := mRows _ _ _ _ (offs_same (B := H) (ds := []) s9) res6
  replace hS := mTab _ _ _ _ (offs_same (B := H) (ds := []) s9) hS
  refine ⟨_, _, rfl, keptRows L I, I.length, k0, pa, mRows _ _ _ _ offs_le res5, mL mI _ _ _ _ offs_le res9, wkL, by rw [hpaL.len, wfS.len], i0, lI, bK, hpaL.rng, fun v4 H10 s10 res10 => ?_⟩
  have s010 := s09.trans s10
  replace hI := mL mI _ _ _ _ (offs_same (B := H) (ds := []) s10) hI
  replace hJ := mL mI _ _ _ _ (offs_same (B := H) (ds := []) s10) hJ
  replace res6 := mRows _ _ _ _ (offs_same (B := H) (ds := []) s10) res6
  replace hS := mTab _ _ _ _ (offs_same (B := H) (ds := []) s10) hS
  obtain ⟨cp, cu, cv, rfl, hcp, hcu, hcv⟩ := res10
  replace hcu := mL mI _ _ _ _ (offs_call (ds := []) s09 (fun d hd => by simp at hd)) hcu
  replace hcv := mRows _ _ _ _ (offs_call (ds := []) s09 (fun d hd => by simp at hd)) hcv
  refine ⟨cp, _, rfl, SqT.of (offs_some hcp).2.2, rfl, _, _, rfl, _, _, rfl, rfl, ?_⟩
  -- columns
  refine st_eq (t := tSeq _ _) [some aL, some aR, some aT, some (.int (k0 : Nat)), some (.ref D1), some (.ref D2), some v, some v2, some (.ref D3), some cu, some cv, none, none, none, none, none, none, none, none] rfl ?_
  obtain ⟨_, jvs2, eJ2, hJ3, pJ2⟩ := id hJ
  cases eJ2
  have hJ4 := (offs_some hJ3).2.2
  obtain ⟨_, svs2, eS2, hS3, pS2⟩ := id hS
  cases eS2
  have hS4 := (offs_some hS3).2.2
  refine ⟨_, rfl, D2, jvs2, rfl, .inl hJ4, ⟨_, rfl, by rw [pd_len pJ2]; omega, by rw [pd_len pJ2]; omega, fun D5 hD5 => ?_⟩⟩
  have hjl : ((jvs2.length : Nat) : Int).toNat = J.length := by rw [pd_len pJ2]; omega
  rw [hjl]
  refine lcR (R := rNk) (B := H10) mNk ((colsOf (smallOf T I J) J.length).map encS) (Same.refl _) hD5 (by simp [colsOf]) (szl (by simp [colsOf]; omega)) ?_ ?_
  · intro i b H11 hi hb s11 nD k hk
    rw [Int.zero_add]
    have hbe : b = encS ((smallOf T I J).map fun r => r.getD i default) := by
      rw [List.getElem?_map, cols_get hi] at hb
      exact (Option.some.inj hb).symm
    subst hbe
    refine ⟨wp1, _, rfl, D3, rfl, ⟨svs2, SqL.of (s11 _ _ hS4)⟩, fun D6 hD6 => ?_⟩
    refine lcL (R := rS) (B := H11) mS ((smallOf T I J).map fun r => r.getD i default) (Same.refl _) hD6 (SqL.of (s11 _ _ hS4)) (by rw [List.length_map, pd_len pS2]) (szl (by rw [List.length_map, wfS.len]; omega)) ?_ ?_
    · intro j y c H12 hy hc s12 nD6 k2 hk2
      obtain ⟨r, hr, ra, rvs, rfl, hra, pr⟩ := pd_get pS2 hy
      have hce : c = r.getD i default := by
        rw [List.getElem?_map, hr] at hc
        exact (Option.some.inj hc).symm
      subst hce
      have hrl := (wfS.row r (List.mem_of_getElem? hr)).1
      refine ⟨wp1, _, rfl, _, rfl, ra, rvs, _, _, rfl, rfl, s12 _ _ (s11 _ _ (offs_some hra).2.2), atI_nat (v := .str (r.getD i default)) (by rw [pd_strs pr, List.getElem?_map, getD_some (d := default) (by rw [hrl]; exact hi)]; rfl), ?_⟩
      exact hk2 _ _ (Same.refl _) rfl
    · intro H12 s12 res12
      obtain ⟨_, lvs, e12, h12, p12⟩ := res12
      cases e12
      refine ⟨D6, lvs, rfl, (offs_some h12).2.2, fun t ht => ?_⟩
      have s1t : Same H12 (upd H12 t (.tup lvs)) := same_new ht
      refine hk _ _ (s12.trans s1t) (nk_encS ⟨t, lvs, rfl, ?_, ?_⟩)
      · rw [offs_get (fun m => by rw [List.mem_singleton.mp m] at ht; exact same_ne s12 nD ht) ((s11.trans s12).free ht)]; exact upd_same
      · rw [pd_strs p12]; exact strs_pd _
  intro H11 s11 hM2
  have s011 := s010.trans s11
  replace hI := mL mI _ _ _ _ (offs_same (B := H) (ds := []) s11) hI
  replace res6 := mRows _ _ _ _ (offs_same (B := H) (ds := []) s11) res6
  replace hS := mTab _ _ _ _ (offs_same (B := H) (ds := []) s11) hS
  replace hcu := mL mI _ _ _ _ (offs_same (B := H) (ds := []) s11) hcu
  replace hcv := mRows _ _ _ _ (offs_same (B := H) (ds := []) s11) hcv
  refine st_eq (t := tSeq _ _) [some aL, some aR, some aT, some (.int (k0 : Nat)), some (.ref D1), some (.ref D2), some v, some v2, some (.ref D3), some cu, some cv, some (.ref D5), none, none, none, none, none, none, none] rfl ?_
  refine ⟨_, rfl, _, rfl, _, rfl, _, _, rfl, keptRows R J, J.length, k0, (colsOf (smallOf T I J) J.length).map encS, mRows _ _ _ _ offs_le res6, mL mNk _ _ _ _ offs_le hM2, wkR, by simp [colsOf], j0, lJ, bK, fun pb hpb v5 H12 s12 res12 => ?_⟩
  have hpbR := parts_unmap encS encS_inj hpb
  have s012 := s011.trans s12
  replace res6 := mRows _ _ _ _ (offs_same (B := H) (ds := []) s12) res6
  replace hS := mTab _ _ _ _ (offs_same (B := H) (ds := []) s12) hS
  replace hcu := mL mI _ _ _ _ (offs_same (B := H) (ds := []) s12) hcu
  replace hcv := mRows _ _ _ _ (offs_same (B := H) (ds := []) s12) hcv
  refine ⟨_, _, rfl, keptRows R J, J.length, k0, pb, mRows _ _ _ _ offs_le res6, mL mI _ _ _ _ offs_le res12, wkR, by rw [hpbR.len]; simp [colsOf], j0, lJ, bK, hpbR.rng, fun v6 H13 s13 res13 => ?_⟩
  have s013 := s012.trans s13
  replace hS := mTab _ _ _ _ (offs_same (B := H) (ds := []) s13) hS
  replace hcu := mL mI _ _ _ _ (offs_same (B := H) (ds := []) s13) hcu
  replace hcv := mRows _ _ _ _ (offs_same (B := H) (ds := []) s13) hcv
  obtain ⟨dp, du, dv, rfl, hdp, hdu, hdv⟩ := res13
  replace hdu := mL mI _ _ _ _ (offs_call (ds := []) s012 (fun d hd => by simp at hd)) hdu
  replace hdv := mRows _ _ _ _ (offs_call (ds := []) s012 (fun d hd => by simp at hd)) hdv
  refine ⟨dp, _, rfl, SqT.of (offs_some hdp).2.2, rfl, _, _, rfl, _, _, rfl, rfl, ?_⟩
  -- the end
  refine nx_eq [some aL, some aR, some aT, some (.int (k0 : Nat)), some (.ref D1), some (.ref D2), some v, some v2, some (.ref D3), some cu, some cv, some (.ref D5), some du, some dv, none, none, none, none, none] rfl ?_
  have least := least_of (Gd.ext (wr := wr)) wfT oL oR hpaL hpbR
  obtain ⟨fa1, fvs1, rfl, hf1, pf1⟩ := id hcu
  obtain ⟨ba1, bvs1, rfl, hb1, pb1⟩ := id hdu
  have hf2 := (offs_some hf1).2.2
  have hb2 := (offs_some hb1).2.2
  have mc1 : mcount pa ≤ 40 := Nat.le_trans mcount_le (by rw [hpaL.len, wfS.len]; exact lI)
  have mc2 : mcount pb ≤ 40 := Nat.le_trans mcount_le (by rw [hpbR.len]; simp [colsOf]; exact lJ)
  refine ⟨_, rfl, _, rfl, _, rfl, fa1, rfl, ⟨fvs1, SqL.of hf2⟩, fun D7 hD7 => ?_⟩
  have fmem : ∀ s ∈ firstsOf pa, s < I.length := fun s hs => by
    obtain ⟨c, hc, rfl⟩ := List.mem_map.mp hs
    have := (Parts.first hpaL.toPInv (List.mem_range.mp hc)).1
    rwa [wfS.len] at this
  have bmem : ∀ s ∈ firstsOf pb, s < J.length := fun s hs => by
    obtain ⟨c, hc, rfl⟩ := List.mem_map.mp hs
    have := (Parts.first hpbR.toPInv (List.mem_range.mp hc)).1
    simpa [colsOf] using this
  have wfN := small_wf wfS fmem bmem
  refine lcL (R := rL rS) (B := H) (mL mS) (smallOf (smallOf T I J) (firstsOf pa) (firstsOf pb)) s013 hD7 (SqL.of hf2) (by rw [wfN.len, pd_len pf1]) (szl (by rw [wfN.len, firstsOf_len]; omega)) ?_ ?_
  · intro i x b H14 hx hb s14 nD k hk
    obtain ⟨ii, hii, rfl⟩ := pd_get pf1 hx
    have hbe : b = (firstsOf pb).map fun j => T2 (smallOf T I J) ii j := by
      rw [smallOf, List.getElem?_map, hii] at hb
      exact (Option.some.inj hb).symm
    subst hbe
    refine ⟨wp1, _, rfl, ba1, rfl, ⟨bvs1, SqL.of (s14 _ _ hb2)⟩, fun D8 hD8 => ?_⟩
    refine lcL (R := rS) (B := H14) mS ((firstsOf pb).map fun j => T2 (smallOf T I J) ii j) (Same.refl _) hD8 (SqL.of (s14 _ _ hb2)) (by rw [List.length_map, pd_len pb1]) (szl (by rw [List.length_map, firstsOf_len]; omega)) ?_ ?_
    · intro j y c H15 hy hc s15 nD8 k2 hk2
      obtain ⟨jj, hjj, rfl⟩ := pd_get pb1 hy
      have hce : c = T2 (smallOf T I J) ii jj := by
        rw [List.getElem?_map, hjj] at hc
        exact (Option.some.inj hc).symm
      subst hce
      obtain ⟨a, vs, b2, ws, ea, ha, hb2', hws, hcell⟩ := tab_at (mTab _ _ _ _ offs_le hS) wfS (fmem _ (List.mem_of_getElem? hii)) (bmem _ (List.mem_of_getElem? hjj))
      cases ea
      have s1315 := s14.trans s15
      refine ⟨wp1, _, rfl, _, rfl, D3, vs, _, _, rfl, rfl, s1315 _ _ ha, atI_nat hb2', _, rfl, b2, ws, _, _, rfl, rfl, s1315 _ _ hws, atI_nat hcell, ?_⟩
      exact hk2 _ _ (Same.refl _) rfl
    · intro H15 s15 res15
      exact hk _ _ s15 (mL mS _ _ _ _ (offs_call (s013.trans s14) (fun d hd => by rw [List.mem_singleton.mp hd]; exact nD)) res15)
  intro H14 s14 hN
  refine ⟨by show 3 ≤ sizeLine; decide, fun p hp => ?_⟩
  have s15 : Same H14 (upd H14 p (.tup [cv, dv, .ref D7])) := same_new hp
  refine q _ _ _ least _ _ ((s013.trans s14).trans s15) ⟨p, cv, dv, .ref D7, rfl, ?_, ?_, ?_, ?_⟩
  · rw [offs_get (by simp) ((s013.trans s14).free hp)]; exact upd_same
  · exact mRows _ _ _ _ (offs_same (s14.trans s15)) hcv
  · exact mRows _ _ _ _ (offs_same (s14.trans s15)) hdv
  · exact mTab _ _ _ _ (offs_same s15) hN
end
end FA
end
section
namespace FA
open PySem PySem.Spec PyProof.Rows L2 FM
--IMPORT Spec5
theorem sc_init : FnScope ["self", "reads", "writes", "left", "right", "table", "good", "row"] ["self", "reads", "writes", "left", "right", "table"] (defScope s_init) := ⟨rfl, rfl, rfl, by decide +kernel, rfl, by decide +kernel, by decide +kernel⟩
section
variable {P : Program} {w : World} {K : PySem.W.Frag} {mg : Str → Option Value} {base : Heap} {C : Addr}
theorem ok_init (D : DfI K C s_init ["self", "reads", "writes", "left", "right", "table"]) (Z : Glo mg) (Mc : Mcl K mg C) (C_is_alphabet : Cal P w K mg base "is_alphabet" ["thing"] 1 sp_is_alphabet) (C__are_rows : Cal P w K mg base "_are_rows" ["thing", "letters"] 1 sp__are_rows) (C__is_table : Cal P w K mg base "_is_table" ["thing", "left", "right", "letters", "writes"] 2 sp__is_table) :
    CalI P w K mg base C ["self", "reads", "writes", "left", "right", "table"] 3 (sp_init C) := by
  have nd := sc_init.nd
  refine D.ok sc_init len6 (fun f cdv A outer s H vs Q E hr h => ?_)
  have hu := hu_of hr
  refine ⟨_, (pss_cons (ps_set (i := 6) nd rfl (Or.inl rfl) (pe_and (pe_cal C_is_alphabet (hr.mono (by decide)) (by rfl) (pa_cons (pv 1) pa_nil)) (pe_one (pe_cal C_is_alphabet (hr.mono (by decide)) (by rfl) (pa_cons (pv 2) pa_nil)))))
      (pss_cons (ps_set (i := 6) nd rfl (Or.inl rfl) (pe_and (pv 6) (pe_and (pe_cal C__are_rows (hr.mono (by decide)) (by rfl) (pa_cons (pv 3) (pa_cons (pe_callB klen_str (by rfl) Z.z_len (by decide +kernel) (pa_cons (pv 1) pa_nil)) pa_nil))) (pe_one (pe_cal C__are_rows (hr.mono (by decide)) (by rfl) (pa_cons (pv 4) (pa_cons (pe_callB klen_str (by rfl) Z.z_len (by decide +kernel) (pa_cons (pv 1) pa_nil)) pa_nil)))))))
      (pss_cons (ps_if (PW.pt (pw_or (pt_not (pt_val (pv 6))) (pw_or1 (pt_not (pt_val (pe_cal C__is_table (hr.mono (by decide)) (by rfl) (pa_cons (pv 5) (pa_cons (pe_callB klen_seq (by rfl) Z.z_len (by decide +kernel) (pa_cons (pv 3) pa_nil)) (pa_cons (pe_callB klen_seq (by rfl) Z.z_len (by decide +kernel) (pa_cons (pv 4) pa_nil)) (pa_cons (pe_callB klen_str (by rfl) Z.z_len (by decide +kernel) (pa_cons (pv 1) pa_nil)) (pa_cons (pv 2) pa_nil))))))))))) pss_never pss_nil)
      (pss_cons (ps_fld (pv 0) (pv 1) rfl)
      (pss_cons (ps_fld (pv 0) (pv 2) rfl)
      (pss_cons (ps_fld (pv 0) (pe_lc (own := [("row", 7)]) (tt := tYes) rfl nd (kpi_list K (pv 3)) (blkOk_by (by kernel_rfl)) (fun _ _ _ _ _ => (pg_name (i := 7) nd rfl (Or.inl rfl))) (fun _ _ _ _ _ => pts_nil) (fun _ _ _ _ _ => (pe_callTy klist (by rfl) Z.z_list (by decide +kernel) (pa_cons (pv 7) pa_nil)))) rfl)
      (pss_cons (ps_fld (pv 0) (pe_lc (own := [("row", 7)]) (tt := tYes) rfl nd (kpi_list K (pv 4)) (blkOk_by (by kernel_rfl)) (fun _ _ _ _ _ => (pg_name (i := 7) nd rfl (Or.inl rfl))) (fun _ _ _ _ _ => pts_nil) (fun _ _ _ _ _ => (pe_callTy klist (by rfl) Z.z_list (by decide +kernel) (pa_cons (pv 7) pa_nil)))) rfl)
      (pss_one (ps_fld (pv 0) (pe_lc (own := [("row", 7)]) (tt := tYes) rfl nd (kpi_list K (pv 5)) (blkOk_by (by kernel_rfl)) (fun _ _ _ _ _ => (pg_name (i := 7) nd rfl (Or.inl rfl))) (fun _ _ _ _ _ => pts_nil) (fun _ _ _ _ _ => (pe_callTy klist (by rfl) Z.z_list (by decide +kernel) (pa_cons (pv 7) pa_nil)))) rfl))))))))), ?_⟩
  obtain ⟨_, _, _, _, _, _, rfl, p, dx, M, rfl, hp, rfl, rfl, hl, hr', ht, ok, q⟩ := h
  obtain ⟨la, lvs, rfl, hla, pl⟩ := id hl
  obtain ⟨ra, rvs, rfl, hra, pr⟩ := id hr'
  obtain ⟨ta, tvs, rfl, hta, pt⟩ := id ht
  have bL := ok.bL
  have bR := ok.bR
  have h5 := ok.k
  have nla : la ≠ p := fun e => by rw [e, hp] at hla; cases hla
  have nra : ra ≠ p := fun e => by rw [e, hp] at hra; cases hra
  have nta : ta ≠ p := fun e => by rw [e, hp] at hta; cases hta
  refine ⟨_, rfl, _, rfl, M.rd, rfl, ok.rd, fun H1 s1 => ?_⟩
  refine ⟨true, rfl, ?_⟩
  refine ifT rfl ?_
  refine ⟨_, rfl, _, rfl, M.wr, rfl, ok.wr, fun H2 s2 => ?_⟩
  have s12 := s1.trans s2
  refine ⟨_, rfl, true, rfl, ?_⟩
  refine ifT rfl ?_
  refine ⟨_, rfl, _, rfl, M.rd, rfl, szl (by omega), _, _, rfl, M.L, M.L.length, M.rd.length, mRows _ _ _ _ s12 hl, rfl, ok.wfL, ok.pL, bL, h5, fun H3 s3 => ?_⟩
  have s13 := s12.trans s3
  refine ⟨true, rfl, ?_⟩
  refine ifT rfl ?_
  refine ⟨_, rfl, _, rfl, M.rd, rfl, szl (by omega), _, _, rfl, M.R, M.R.length, M.rd.length, mRows _ _ _ _ s13 hr', rfl, ok.wfR, ok.pR, bR, h5, fun H4 s4 => ?_⟩
  have s14 := s13.trans s4
  refine st_eq (t := tSeq _ _) [some (V.ref p), some (.str M.rd), some (.str M.wr), some (.ref la), some (.ref ra), some (.ref ta), some (.bl true), none] rfl ?_
  refine ⟨_, rfl, true, rfl, ?_⟩
  refine ifF rfl ?_
  refine ⟨_, rfl, _, rfl, la, lvs, rfl, .inl (s14 _ _ hla), _, rfl, ra, rvs, rfl, .inl (s14 _ _ hra), _, rfl, M.rd, rfl, szl (by omega), _, rfl, _, _, _, _, _, rfl, M.T, M.L.length, M.R.length, M.rd.length, M.wr, mTab _ _ _ _ s14 ht, by rw [pd_len pl], by rw [pd_len pr], rfl, rfl, ok.wfT, bL, bR, h5, fun H5 s5 => ?_⟩
  have s15 := s14.trans s5
  refine ⟨true, rfl, ?_⟩
  refine ifF rfl ?_
  refine ⟨_, rfl, _, rfl, p, C, dx, [], rfl, s15 _ _ hp, Mc.cl, Mc.n1, by show 0 < 1000; decide, ?_⟩
  refine ⟨_, rfl, _, rfl, p, C, dx, _, rfl, upd_same, Mc.cl, Mc.n2, by show 1 < 1000; decide, ?_⟩
  -- the heap but for p
  let G := fun (Hx : Hp) => ∀ b o, H b = some o → b ≠ p → Hx b = some o
  have g6 : G (upd (upd H5 p (.ins C dx (putF "reads" (.str M.rd) []))) p (.ins C dx (putF "writes" (.str M.wr) (putF "reads" (.str M.rd) [])))) := fun b o h n => by rw [upd_ne n, upd_ne n]; exact s15 _ _ h
  have h6 : (upd (upd H5 p (.ins C dx (putF "reads" (.str M.rd) []))) p (.ins C dx (putF "writes" (.str M.wr) (putF "reads" (.str M.rd) [])))) p = some (.ins C dx (putF "writes" (.str M.wr) (putF "reads" (.str M.rd) []))) := upd_same
  generalize hH6 : upd (upd H5 p (.ins C dx (putF "reads" (.str M.rd) []))) p (.ins C dx (putF "writes" (.str M.wr) (putF "reads" (.str M.rd) []))) = H6 at g6 h6
  clear hH6
  have rows_off : ∀ {xs : List (List Nat)} {v : V}, rRows H v xs → ∀ Hx, G Hx → rRows Hx v xs := fun {xs v} h Hx g => by
    obtain ⟨a, vs, e, h1, p1⟩ := h
    refine ⟨a, vs, e, g _ _ h1 (fun e => by rw [e, hp] at h1; cases h1), pd_imp p1 fun x y h2 => ?_⟩
    obtain ⟨a2, vs2, e2, h3, p3⟩ := h2
    exact ⟨a2, vs2, e2, g _ _ h3 (fun e => by rw [e, hp] at h3; cases h3), p3⟩
  have tab_off : ∀ {xs : List (List Str)} {v : V}, rTab H v xs → ∀ Hx, G Hx → rTab Hx v xs := fun {xs v} h Hx g => by
    obtain ⟨a, vs, e, h1, p1⟩ := h
    refine ⟨a, vs, e, g _ _ h1 (fun e => by rw [e, hp] at h1; cases h1), pd_imp p1 fun x y h2 => ?_⟩
    obtain ⟨a2, vs2, e2, h3, p3⟩ := h2
    exact ⟨a2, vs2, e2, g _ _ h3 (fun e => by rw [e, hp] at h3; cases h3), p3⟩
  have free_off : ∀ {Hx : Hp} {b : Addr}, G Hx → Hx p ≠ none → Hx b = none → H b = none := fun {Hx b} g np hb => by
    by_cases e : b = p
    · subst e; exact absurd hb np
    · cases e2 : H b with
      | none => rfl
      | some o => rw [g _ _ e2 e] at hb; cases hb
  have offp : ∀ {Hx : Hp} {o : HO}, offs H [] (upd Hx p o) = offs H [] Hx := fun {Hx o} => by
    funext b
    by_cases e : b = p
    · subst e; unfold offs; simp only [hp]
    · unfold offs; rw [upd_ne e]
  have g_same : ∀ {Hx Hy : Hp}, G Hx → Same Hx Hy → G Hy := fun g s b o h n => s _ _ (g _ _ h n)
  have g_upd : ∀ {Hx : Hp} {o : HO}, G Hx → G (upd Hx p o) := fun g b o h n => by rw [upd_ne n]; exact g _ _ h n
  -- left
  obtain ⟨_, lvs6, el6, hla6, pl6⟩ := id (rows_off hl _ g6)
  cases el6
  refine ⟨_, rfl, la, rfl, ⟨lvs6, SqL.of hla6⟩, fun D hD => ?_⟩
  refine lcL (R := rL rI) (B := H6) (mL mI) M.L (Same.refl H6) hD (SqL.of hla6) (pd_len pl6).symm (szl (by omega)) ?_ ?_
  · intro i x b H7 hx hb s7 nD k hk
    obtain ⟨r0, hr0, rb, ws, rfl, hrb, pws⟩ := pd_get pl6 hx
    rw [hb] at hr0
    cases hr0
    refine ⟨wp1, _, rfl, rb, ws, rfl, s7 _ _ hrb, fun z hz => ?_⟩
    refine hk _ _ (same_new hz) ⟨z, ws, rfl, ?_, by rw [pd_ints pws]; exact ints_pd _⟩
    rw [offs_get (fun m => nD (by rw [← List.mem_singleton.mp m]; exact hz)) (s7.free hz)]; exact upd_same
  intro H7 s7 res7
  have g7 : G H7 := g_same g6 s7
  have cal : ∀ {Hx Hy : Hp}, G Hx → Hx p ≠ none → Same (offs Hx [] Hy) (offs H [] Hy) := fun {Hx Hy} g np b o h => by
    obtain ⟨_, c, d⟩ := offs_some h
    rw [offs_get (by simp) (free_off g np c)]; exact d
  have resL := mRows _ _ _ _ (cal (Hy := H7) g6 (ne_some h6)) res7
  refine ⟨_, rfl, p, C, dx, _, rfl, s7 _ _ h6, Mc.cl, Mc.n3, Nat.lt_of_le_of_lt (Nat.le_trans (putF_len _ _ _) (Nat.succ_le_succ (putF_len _ _ _))) (by show 2 < 1000; decide), ?_⟩
  rw [← offp (Hx := H7) (o := .ins C dx (putF "left" (.ref D) (putF "writes" (.str M.wr) (putF "reads" (.str M.rd) []))))] at resL
  have g8 : G (upd H7 p (.ins C dx (putF "left" (.ref D) (putF "writes" (.str M.wr) (putF "reads" (.str M.rd) []))))) := g_upd g7
  have h8 : (upd H7 p (.ins C dx (putF "left" (.ref D) (putF "writes" (.str M.wr) (putF "reads" (.str M.rd) []))))) p = some (.ins C dx (putF "left" (.ref D) (putF "writes" (.str M.wr) (putF "reads" (.str M.rd) [])))) := upd_same
  generalize hH8 : upd H7 p (.ins C dx (putF "left" (.ref D) (putF "writes" (.str M.wr) (putF "reads" (.str M.rd) [])))) = H8 at g8 h8 resL
  clear hH8
  -- right
  obtain ⟨_, rvs6, er6, hra6, pr6⟩ := id (rows_off hr' _ g8)
  cases er6
  refine ⟨_, rfl, ra, rfl, ⟨rvs6, SqL.of hra6⟩, fun D2 hD2 => ?_⟩
  refine lcL (R := rL rI) (B := H8) (mL mI) M.R (Same.refl H8) hD2 (SqL.of hra6) (pd_len pr6).symm (szl (by omega)) ?_ ?_
  · intro i x b H9 hx hb s9 nD k hk
    obtain ⟨r0, hr0, rb, ws, rfl, hrb, pws⟩ := pd_get pr6 hx
    rw [hb] at hr0
    cases hr0
    refine ⟨wp1, _, rfl, rb, ws, rfl, s9 _ _ hrb, fun z hz => ?_⟩
    refine hk _ _ (same_new hz) ⟨z, ws, rfl, ?_, by rw [pd_ints pws]; exact ints_pd _⟩
    rw [offs_get (fun m => nD (by rw [← List.mem_singleton.mp m]; exact hz)) (s9.free hz)]; exact upd_same
  intro H9 s9 res9
  have g9 : G H9 := g_same g8 s9
  have resR := mRows _ _ _ _ (cal (Hy := H9) g8 (ne_some h8)) res9
  replace resL := mRows _ _ _ _ (offs_same (B := H) (ds := []) s9) resL
  refine ⟨_, rfl, p, C, dx, _, rfl, s9 _ _ h8, Mc.cl, Mc.n4, Nat.lt_of_le_of_lt (Nat.le_trans (putF_len _ _ _) (Nat.succ_le_succ (Nat.le_trans (putF_len _ _ _) (Nat.succ_le_succ (putF_len _ _ _))))) (by show 3 < 1000; decide), ?_⟩
  rw [← offp (Hx := H9) (o := .ins C dx (putF "right" (.ref D2) (putF "left" (.ref D) (putF "writes" (.str M.wr) (putF "reads" (.str M.rd) [])))))] at resL resR
  have g10 : G (upd H9 p (.ins C dx (putF "right" (.ref D2) (putF "left" (.ref D) (putF "writes" (.str M.wr) (putF "reads" (.str M.rd) [])))))) := g_upd g9
  have h10 : (upd H9 p (.ins C dx (putF "right" (.ref D2) (putF "left" (.ref D) (putF "writes" (.str M.wr) (putF "reads" (.str M.rd) [])))))) p = some (.ins C dx (putF "right" (.ref D2) (putF "left" (.ref D) (putF "writes" (.str M.wr) (putF "reads" (.str M.rd) []))))) := upd_same
  generalize hH10 : upd H9 p (.ins C dx (putF "right" (.ref D2) (putF "left" (.ref D) (putF "writes" (.str M.wr) (putF "reads" (.str M.rd) []))))) = H10 at g10 h10 resL resR
  clear hH10
  -- table
  obtain ⟨_, tvs6, et6, hta6, pt6⟩ := id (tab_off ht _ g10)
  cases et6
  refine ⟨_, rfl, ta, rfl, ⟨tvs6, SqL.of hta6⟩, fun D3 hD3 => ?_⟩
  refine lcL (R := rL rS) (B := H10) (mL mS) M.T (Same.refl H10) hD3 (SqL.of hta6) (pd_len pt6).symm (szl (by rw [ok.wfT.len]; omega)) ?_ ?_
  · intro i x b H11 hx hb s11 nD k hk
    obtain ⟨r0, hr0, rb, ws, rfl, hrb, pws⟩ := pd_get pt6 hx
    rw [hb] at hr0
    cases hr0
    refine ⟨wp1, _, rfl, rb, ws, rfl, s11 _ _ hrb, fun z hz => ?_⟩
    refine hk _ _ (same_new hz) ⟨z, ws, rfl, ?_, by rw [pd_strs pws]; exact strs_pd _⟩
    rw [offs_get (fun m => nD (by rw [← List.mem_singleton.mp m]; exact hz)) (s11.free hz)]; exact upd_same
  intro H11 s11 res11
  have g11 : G H11 := g_same g10 s11
  have resT := mTab _ _ _ _ (cal (Hy := H11) g10 (ne_some h10)) res11
  replace resL := mRows _ _ _ _ (offs_same (B := H) (ds := []) s11) resL
  replace resR := mRows _ _ _ _ (offs_same (B := H) (ds := []) s11) resR
  refine ⟨_, rfl, p, C, dx, _, rfl, s11 _ _ h10, Mc.cl, Mc.n5, Nat.lt_of_le_of_lt (Nat.le_trans (putF_len _ _ _) (Nat.succ_le_succ (Nat.le_trans (putF_len _ _ _) (Nat.succ_le_succ (Nat.le_trans (putF_len _ _ _) (Nat.succ_le_succ (putF_len _ _ _))))))) (by show 4 < 1000; decide), ?_⟩
  exact q _ (.ref D) (.ref D2) (.ref D3) (g_upd g11) upd_same (by rw [offp]; exact resL) (by rw [offp]; exact resR) (by rw [offp]; exact resT)
end
end FA
end
section
namespace FA
open PySem PySem.Spec PyProof.Rows L2 FM
--IMPORT Spec5
theorem sc_output_between : FnScope ["machine", "left", "right", "word", "indexes", "states", "k", "i", "j"] ["machine", "left", "right", "word"] (defScope s_output_between) := ⟨rfl, rfl, rfl, by decide +kernel, rfl, by decide +kernel, by decide +kernel⟩
section
variable {P : Program} {w : World} {K : PySem.W.Frag} {mg : Str → Option Value} {base : Heap} {C : Addr}
theorem ok_output_between (D : Df K mg "output_between" s_output_between ["machine", "left", "right", "word"]) (Z : Glo mg) (Mc : Mcl K mg C) (C_codes : Cal P w K mg base "codes" ["alphabet", "word"] 1 sp_codes) (C_states_between : Cal P w K mg base "states_between" ["machine", "left", "right", "indexes"] 2 (sp_states_between C)) :
    Cal P w K mg base "output_between" ["machine", "left", "right", "word"] 3 (sp_output_between C) := by
  have nd := sc_output_between.nd
  refine D.ok sc_output_between len4 (fun f cdv A outer s H vs Q E hr h => ?_)
  have hu := hu_of hr
  refine ⟨_, (pss_cons (ps_set (i := 4) nd rfl (Or.inl rfl) (pe_cal C_codes (hr.mono (by decide)) (by rfl) (pa_cons (kfld K (pv 0) rfl) (pa_cons (pv 3) pa_nil))))
      (pss_cons (ps_set (i := 5) nd rfl (Or.inl rfl) (pe_cal C_states_between (hr.mono (by decide)) (by rfl) (pa_cons (pv 0) (pa_cons (pv 1) (pa_cons (pv 2) (pa_cons (pv 4) pa_nil))))))
      (pss_one (ps_ret (kjoin K pe_str (pe_lc (own := [("k", 6), ("i", 7), ("j", 8)]) (tt := tYes) rfl nd (kpi_zip K (by rfl) Z.z_zip (pa_cons (pv 5) (pa_cons (pv 4) pa_nil))) (blkOk_by (by kernel_rfl)) (fun _ _ _ _ _ => (kpg_tup K (n := 2) rfl (pgs_cons (kpg_tup K (n := 2) rfl (pgs_cons (pg_name (i := 7) nd rfl (Or.inl rfl)) (pgs_cons (pg_name (i := 8) nd rfl (Or.inl rfl)) pgs_nil))) (pgs_cons (pg_name (i := 6) nd rfl (Or.inl rfl)) pgs_nil)))) (fun _ _ _ _ _ => pts_nil) (fun _ _ _ _ _ => (pe_ix ix_str (pe_ix kix_list (pe_ix kix_list (kfld K (pv 0) rfl) (pv 7) (fun _ _ => rfl)) (pv 8) (fun _ _ => rfl)) (pv 6) (fun _ _ => rfl))))))))), ?_⟩
  obtain ⟨_, _, _, _, rfl, M, i, j, w, ⟨p, dx, l, r, t, rfl, hp, hl, hr', ht⟩, ok, rfl, rfl, hi, hj, rfl, hw, hlen, q⟩ := h
  refine ⟨_, rfl, p, C, dx, _, _, rfl, hp, Mc.cl, Mc.n1, mf_reads _ _ _ _ _, _, rfl, _, _, rfl, M.rd, w, rfl, rfl, ok.rd, hw, by omega, fun v H1 s1 res1 => ?_⟩
  refine ⟨_, rfl, _, rfl, _, rfl, _, rfl, _, _, _, _, rfl, M, i, j, w, ⟨p, dx, l, r, t, rfl, s1 _ _ hp, mRows _ _ _ _ s1 hl, mRows _ _ _ _ s1 hr', mTab _ _ _ _ s1 ht⟩, ok, rfl, rfl, hi, hj, mL mI _ _ _ _ offs_le res1, hw, hlen, fun v2 H2 s2 res2 => ?_⟩
  obtain ⟨a1, vs1, rfl, ha1, pa1⟩ := res1
  obtain ⟨a2, vs2, rfl, ha2, pa2⟩ := res2
  have ha1' := s2 _ _ (offs_some ha1).2.2
  have ha2' := (offs_some ha2).2.2
  have s02 := s1.trans s2
  have l1 := pd_len pa1
  have l2 := pd_len pa2
  rw [stB_len] at l2
  refine ⟨⟨_, rfl⟩, _, rfl, _, rfl, a2, a1, vs2, vs1, rfl, SqL.of ha2', SqL.of ha1', fun D hD => ?_⟩
  have wk := walk_zip (K := K) (a := a2) (b := a1) (xs := vs2) (ys := vs1) (n := w.length) (by omega)
  have ozip := outW_zip (at2 M.L) (at2 M.R) (tbM M) j w i
  refine lcG (R := rCh) (B := H) mCh (outM M i j w) s02 hD (n := w.length) (outW_len w) (szl (by rw [outM, outW_len]; omega)) (fun i H1 hi s => wk.goes i H1 hi ⟨SqL.of (s _ _ ha2'), SqL.of (s _ _ ha1')⟩) (fun H1 s => wk.stops H1 ⟨SqL.of (s _ _ ha2'), SqL.of (s _ _ ha1')⟩) ?_ ?_
  · intro n x b H3 H0 hn hb s3 nD hy k hk
    obtain ⟨T, u, y, rfl, hT, rfl, e1, e2⟩ := wk.yields n H3 x H0 hn ⟨SqL.of (s3 _ _ ha2'), SqL.of (s3 _ _ ha1')⟩ hy
    replace e1 : vs2[n]? = some u := e1
    replace e2 : vs1[n]? = some y := e2
    obtain ⟨kk, hkk, rfl⟩ := pd_get pa1 e2
    obtain ⟨⟨s, s'⟩, hss, tb, u1, u2, rfl, htb, rfl, rfl⟩ := pd_get pa2 e1
    have hbe : b = tbM M s s' kk := by
      rw [outM, ozip, List.getElem?_map, (List.getElem?_zip_eq_some (z := ((s, s'), kk))).mpr ⟨hss, hkk⟩] at hb
      exact (Option.some.inj hb).symm
    subst hbe
    have hkn := hw kk (List.mem_of_getElem? hkk)
    have hmem := stB_mem (nl := at2 M.L) (nr := at2 M.R) (n := M.L.length) (m := M.R.length) (K := M.rd.length) (fun i k hi hk => ok.wfL.lt hi hk) (fun j w hj hw => ok.wfR.stR hj hw) hj w i hi hw _ (List.mem_of_getElem? hss)
    have s4 : Same H3 (upd H3 T (.tup [.ref tb, .int (kk : Nat)])) := same_new hT
    have s34 := s3.trans s4
    obtain ⟨a, vs, b2, ws, ea, ha, hb2, hws, hcell⟩ := tab_at ht ok.wfT hmem.1 hmem.2
    subst ea
    have hg := ok.wfT.good hmem.1 hmem.2
    have hgl : (T2 M.T s s').length = M.rd.length := hg.1
    have h5 := ok.k
    refine ⟨T, _, rfl, SqT.of upd_same, rfl, _, _, rfl, ⟨tb, _, rfl, SqT.of (s34 _ _ (offs_some htb).2.2), rfl, _, _, rfl, _, _, rfl, rfl, ?_⟩⟩
    have ss := s02.trans s34
    refine ⟨_, _, rfl, rfl, wp3, _, rfl, p, C, dx, _, _, rfl, ss _ _ hp, Mc.cl, Mc.n5, mf_table _ _ _ _ _, _, rfl, a, vs, _, _, rfl, rfl, ss _ _ ha, atI_nat hb2, _, rfl, b2, ws, _, _, rfl, rfl, ss _ _ hws, atI_nat hcell, _, rfl, T2 M.T s s', (kk : Nat), _, rfl, rfl, szl (by omega), atI_nat (ltr_at (by rw [hgl]; exact hkn)), ?_⟩
    exact hk _ _ s4 rfl
  · intro H3 s3 res
    obtain ⟨_, cvs, e, hc, pc⟩ := res
    cases e
    have hcv := pd_chs pc
    refine ⟨_, D, (outM M i j w).map fun c => (⟨#[c]⟩ : Str), rfl, rfl, .inl (SqL.of (by rw [← hcv]; exact (offs_some hc).2.2)), ?_, ?_⟩
    · rw [signs_len, List.length_map]
      have : ("" : Str).length = 0 := by decide +kernel
      rw [this, outM, outW_len]; omega
    · rw [join_signs]
      exact q _ (s02.trans s3)
end
end FA
end
section
namespace FA
open PySem PySem.Spec PyProof.Rows L2 FM
--IMPORT Spec6
theorem sc_separator : FnScope ["machine", "side", "one", "two"] ["machine", "side", "one", "two"] (defScope s_separator) := ⟨rfl, rfl, rfl, by decide +kernel, rfl, by decide +kernel, by decide +kernel⟩
section
variable {P : Program} {w : World} {K : PySem.W.Frag} {mg : Str → Option Value} {base : Heap} {C : Addr}
theorem ok_separator (D : Df K mg "separator" s_separator ["machine", "side", "one", "two"]) (Z : Glo mg) (Mc : Mcl K mg C) (C_first_difference : Cal P w K mg base "first_difference" ["one", "two", "lefts", "rights"] 2 (sp_first_difference C)) :
    Cal P w K mg base "separator" ["machine", "side", "one", "two"] 3 (sp_separator C) := by
  have nd := sc_separator.nd
  refine D.ok sc_separator len4 (fun f cdv A outer s H vs Q E hr h => ?_)
  have hu := hu_of hr
  refine ⟨_, (pss_cons (ps_if (pt_cmpR op_eq (pv 1) pe_str (nomark _)) (pss_one (ps_ret (pe_cal C_first_difference (hr.mono (by decide)) (by rfl) (pa_cons (pv 0) (pa_cons (pv 0) (pa_cons (pe_tup (pa_cons (pv 2) (pa_cons (pv 3) pa_nil))) (pa_cons (pe_tup (pa_cons pe_int (pa_cons pe_int pa_nil))) pa_nil))))))) pss_nil)
      (pss_one (ps_ret (pe_cal C_first_difference (hr.mono (by decide)) (by rfl) (pa_cons (pv 0) (pa_cons (pv 0) (pa_cons (pe_tup (pa_cons pe_int (pa_cons pe_int pa_nil))) (pa_cons (pe_tup (pa_cons (pv 2) (pa_cons (pv 3) pa_nil))) pa_nil)))))))), ?_⟩
  obtain ⟨_, _, _, _, rfl, M, i, j, hM, ok, rfl, rfl, hc⟩ := h
  rcases hc with ⟨rfl, hi, hj, q⟩ | ⟨rfl, hi, hj, q⟩
  · refine ⟨_, rfl, rfl, true, (by simp : V.bl (decide (V.str "left" = V.str "left")) = V.bl true), ?_⟩
    refine iteT ?_
    refine ⟨_, rfl, _, rfl, _, rfl, _, rfl, by show 2 ≤ sizeLine; decide, fun a ha => ?_⟩
    refine ⟨by show 2 ≤ sizeLine; decide, fun b hb => ?_⟩
    have s1 : Same H (upd H a (.tup [.int (i : Nat), .int (j : Nat)])) := same_new ha
    have s2 : Same (upd H a (.tup [.int (i : Nat), .int (j : Nat)])) (upd (upd H a (.tup [.int (i : Nat), .int (j : Nat)])) b (.tup [.int 0, .int 0])) := same_new hb
    have s12 := s1.trans s2
    exact ⟨_, _, _, _, rfl, M, M, (i, j), (0, 0), mM _ _ _ _ s12 hM, mM _ _ _ _ s12 hM, ok, ok, rfl, ⟨a, _, _, rfl, s2 _ _ upd_same, rfl, rfl⟩, ⟨b, _, _, rfl, upd_same, rfl, rfl⟩, hi, hj, ok.pR, ok.pR, fun v H' s d => q v H' (s12.trans s) d⟩
  · have hne : ¬ V.str "right" = V.str "left" := by
      intro z
      injection z with z
      exact absurd z (by decide +kernel)
    refine ⟨_, rfl, rfl, false, (by rw [decide_eq_false hne]), ?_⟩
    refine iteF ?_
    refine ⟨_, rfl, _, rfl, by show 2 ≤ sizeLine; decide, fun a ha => ?_⟩
    refine ⟨_, rfl, _, rfl, by show 2 ≤ sizeLine; decide, fun b hb => ?_⟩
    have s1 : Same H (upd H a (.tup [.int 0, .int 0])) := same_new ha
    have s2 : Same (upd H a (.tup [.int 0, .int 0])) (upd (upd H a (.tup [.int 0, .int 0])) b (.tup [.int (i : Nat), .int (j : Nat)])) := same_new hb
    have s12 := s1.trans s2
    exact ⟨_, _, _, _, rfl, M, M, (0, 0), (i, j), mM _ _ _ _ s12 hM, mM _ _ _ _ s12 hM, ok, ok, rfl, ⟨a, _, _, rfl, s2 _ _ upd_same, rfl, rfl⟩, ⟨b, _, _, rfl, upd_same, rfl, rfl⟩, ok.pL, ok.pL, hi, hj, fun v H' s d => q v H' (s12.trans s) d⟩
end
end FA
end
section
namespace FA
open PySem PySem.Spec PyProof.Rows L2 FM
--IMPORT Spec6
theorem sc_difference : FnScope ["one", "two"] ["one", "two"] (defScope s_difference) := ⟨rfl, rfl, rfl, by decide +kernel, rfl, by decide +kernel, by decide +kernel⟩
section
variable {P : Program} {w : World} {K : PySem.W.Frag} {mg : Str → Option Value} {base : Heap} {C : Addr}
theorem ok_difference (D : Df K mg "difference" s_difference ["one", "two"]) (Z : Glo mg) (Mc : Mcl K mg C) (C__require_alike : Cal P w K mg base "_require_alike" ["one", "two"] 1 (sp__require_alike C)) (C_first_difference : Cal P w K mg base "first_difference" ["one", "two", "lefts", "rights"] 2 (sp_first_difference C)) :
    Cal P w K mg base "difference" ["one", "two"] 3 (sp_difference C) := by
  have nd := sc_difference.nd
  refine D.ok sc_difference len2 (fun f cdv A outer s H vs Q E hr h => ?_)
  have hu := hu_of hr
  refine ⟨_, (pss_cons (ps_expr (pe_cal C__require_alike (hr.mono (by decide)) (by rfl) (pa_cons (pv 0) (pa_cons (pv 1) pa_nil))))
      (pss_one (ps_ret (pe_cal C_first_difference (hr.mono (by decide)) (by rfl) (pa_cons (pv 0) (pa_cons (pv 1) (pa_cons (pe_tup (pa_cons pe_int (pa_cons pe_int pa_nil))) (pa_cons (pe_tup (pa_cons pe_int (pa_cons pe_int pa_nil))) pa_nil)))))))), ?_⟩
  obtain ⟨_, _, rfl, M, N, hM, hN, ok, ok2, hrd, q⟩ := h
  refine ⟨_, rfl, _, rfl, _, _, rfl, M, N, hM, hN, hrd, fun H1 s1 => ?_⟩
  refine ⟨_, rfl, _, rfl, by show 2 ≤ sizeLine; decide, fun a ha => ?_⟩
  refine ⟨by show 2 ≤ sizeLine; decide, fun b hb => ?_⟩
  have s2 : Same H1 (upd H1 a (.tup [.int 0, .int 0])) := same_new ha
  have s3 : Same (upd H1 a (.tup [.int 0, .int 0])) (upd (upd H1 a (.tup [.int 0, .int 0])) b (.tup [.int 0, .int 0])) := same_new hb
  have s := (s1.trans s2).trans s3
  exact ⟨_, _, _, _, rfl, M, N, (0, 0), (0, 0), mM _ _ _ _ s hM, mM _ _ _ _ s hN, ok, ok2, hrd, ⟨a, _, _, rfl, s3 _ _ upd_same, rfl, rfl⟩, ⟨b, _, _, rfl, upd_same, rfl, rfl⟩, ok.pL, ok2.pL, ok.pR, ok2.pR, fun v H' s' d => q v H' (s.trans s') d⟩
end
end FA
end
section
namespace FA
open PySem PySem.Spec PyProof.Rows L2 FM
--IMPORT SpecM
theorem sc__law_machine : FnScope ["_law_box", "_law_ins", "_law_outs", "_law_most", "_law_lefts", "_law_rights", "_law_left", "_law_right", "_law_bland", "_law_table", "_law_i", "_law_line", "_law_j", "_law_text", "_law_letter", "_law_k"] ["_law_box", "_law_ins", "_law_outs", "_law_most"] (defScope s__law_machine) := ⟨rfl, rfl, rfl, by decide +kernel, rfl, by decide +kernel, by decide +kernel⟩
section
variable {P : Program} {w : World} {K : PySem.W.Frag} {mg : Str → Option Value} {base : Heap} {C : Addr}
theorem ok__law_machine (D : Df K mg "_law_machine" s__law_machine ["_law_box", "_law_ins", "_law_outs", "_law_most"]) (Z : Glo mg) (Mc : Mcl K mg C) (C__law_draw : Cal P w K mg base "_law_draw" ["_law_box", "_law_many"] 1 sp__law_draw) (C__law_states : Cal P w K mg base "_law_states" ["_law_box", "_law_many", "_law_letters"] 2 sp__law_states) :
    Cal P w K mg base "_law_machine" ["_law_box", "_law_ins", "_law_outs", "_law_most"] 3 sp__law_machine := by
  have nd := sc__law_machine.nd
  refine D.ok sc__law_machine len4 (fun f cdv A outer s H vs Q E hr h => ?_)
  have hu := hu_of hr
  refine ⟨_, (pss_cons (ps_set (i := 4) nd rfl (Or.inl rfl) (pe_op op_add pe_int (pe_cal C__law_draw (hr.mono (by decide)) (by rfl) (pa_cons (pv 0) (pa_cons (pv 3) pa_nil)))))
      (pss_cons (ps_set (i := 5) nd rfl (Or.inl rfl) (pe_op op_add pe_int (pe_cal C__law_draw (hr.mono (by decide)) (by rfl) (pa_cons (pv 0) (pa_cons (pv 3) pa_nil)))))
      (pss_cons (ps_set (i := 6) nd rfl (Or.inl rfl) (pe_cal C__law_states (hr.mono (by decide)) (by rfl) (pa_cons (pv 0) (pa_cons (pv 4) (pa_cons (pe_callB klen_str (by rfl) Z.z_len (by decide +kernel) (pa_cons (pv 1) pa_nil)) pa_nil)))))
      (pss_cons (ps_set (i := 7) nd rfl (Or.inl rfl) (pe_cal C__law_states (hr.mono (by decide)) (by rfl) (pa_cons (pv 0) (pa_cons (pv 5) (pa_cons (pe_callB klen_str (by rfl) Z.z_len (by decide +kernel) (pa_cons (pv 1) pa_nil)) pa_nil)))))
      (pss_cons (ps_set (i := 8) nd rfl (Or.inl rfl) (pe_cal C__law_draw (hr.mono (by decide)) (by rfl) (pa_cons (pv 0) (pa_cons pe_int pa_nil))))
      (pss_cons (ps_set (i := 9) nd rfl (Or.inl rfl) (pe_lst pa_nil))
      (pss_cons (ps_for PassesOwn.never rfl (pi_range1 (by rfl) Z.z_range (pa_cons (pv 4) pa_nil)) (pg_name (i := 10) nd rfl (Or.inl rfl)) (pss_cons (ps_set (i := 11) nd rfl (Or.inl rfl) (pe_lst pa_nil))
        (pss_cons (ps_for PassesOwn.never rfl (pi_range1 (by rfl) Z.z_range (pa_cons (pv 5) pa_nil)) (pg_name (i := 12) nd rfl (Or.inl rfl)) (pss_cons (ps_set (i := 13) nd rfl (Or.inl rfl) (kjoin K pe_str (pe_lc (own := [("_law_letter", 14)]) (tt := tYes) rfl nd (pi_str (pv 1)) (blkOk_by (by kernel_rfl)) (fun _ _ _ _ _ => (pg_name (i := 14) nd rfl (Or.inl rfl))) (fun _ _ _ _ _ => pts_nil) (fun _ _ _ _ _ => (pe_ix ix_str (pv 2) (pe_cal C__law_draw (hr.mono (by decide)) (by rfl) (pa_cons (pv 0) (pa_cons (pe_callB klen_str (by rfl) Z.z_len (by decide +kernel) (pa_cons (pv 2) pa_nil)) pa_nil))) (fun _ _ => rfl))))))
          (pss_cons (ps_if (PW.pt (pw_and (pt_cmpR op_eq (pv 8) pe_int (nomark _)) (pw_and1 (pt_cmpR op_gt (pe_cal C__law_draw (hr.mono (by decide)) (by rfl) (pa_cons (pv 0) (pa_cons pe_int pa_nil))) pe_int (nomark _))))) (pss_one (ps_set (i := 13) nd rfl (Or.inl rfl) (kjoin K pe_str (pe_lc (own := [("_law_k", 15)]) (tt := tYes) rfl nd (pi_range1 (by rfl) Z.z_range (pa_cons (pe_callB klen_str (by rfl) Z.z_len (by decide +kernel) (pa_cons (pv 1) pa_nil)) pa_nil)) (blkOk_by (by kernel_rfl)) (fun _ _ _ _ _ => (pg_name (i := 15) nd rfl (Or.inl rfl))) (fun _ _ _ _ _ => pts_nil) (fun _ _ _ _ _ => (pe_ix ix_str (pv 2) (pe_op op_mod (pe_callTy call_int1 (by rfl) Z.z_int (by decide +kernel) (pa_cons (pv 15) pa_nil)) (pe_callB klen_str (by rfl) Z.z_len (by decide +kernel) (pa_cons (pv 2) pa_nil))) (fun _ _ => rfl))))))) pss_nil)
          (pss_one (ps_expr (kbm K PySem.F.plainAttrs_list PySem.F.slot_list_append PySem.F.type_list_append mt_append (pv 11) (pa_cons (pv 13) pa_nil)))))))
        (pss_one (ps_expr (kbm K PySem.F.plainAttrs_list PySem.F.slot_list_append PySem.F.type_list_append mt_append (pv 9) (pa_cons (pv 11) pa_nil)))))))
      (pss_one (ps_ret (pe_lst (pa_cons (pv 1) (pa_cons (pv 2) (pa_cons (pv 6) (pa_cons (pv 7) (pa_cons (pv 9) pa_nil))))))))))))))), ?_⟩
  obtain ⟨_, _, _, _, rfl, b, ro, rd, wr, rfl, bx, rfl, rfl, rfl, hrd, hwr, q⟩ := h
  have ld := al_len _ hrd
  have lw := al_len _ hwr
  refine ⟨_, rfl, _, rfl, _, _, rfl, b, ro, 3, rfl, bx, rfl, by decide, fun n hn H1 k1 b1 => ?_⟩
  refine ⟨1, (n : Nat), rfl, rfl, ?_⟩
  refine ⟨_, rfl, _, rfl, _, _, rfl, b, ro, 3, rfl, b1, rfl, by decide, fun m hm H2 k2 b2 => ?_⟩
  refine ⟨1, (m : Nat), rfl, rfl, ?_⟩
  have en : (1 : Int) + (n : Int) = ((n + 1 : Nat) : Int) := by omega
  have em : (1 : Int) + (m : Int) = ((m + 1 : Nat) : Int) := by omega
  refine ⟨_, rfl, _, rfl, _, rfl, rd, rfl, szl (by omega), _, _, _, rfl, b, ro, n + 1, rd.length, rfl, b2, congrArg V.int en, rfl, by omega, by omega, by omega, fun L wfL v3 H3 k3 b3 res3 => ?_⟩
  refine ⟨_, rfl, _, rfl, _, rfl, rd, rfl, szl (by omega), _, _, _, rfl, b, ro, m + 1, rd.length, rfl, b3, congrArg V.int em, rfl, by omega, by omega, by omega, fun R wfR v4 H4 k4 b4 res4 => ?_⟩
  refine ⟨_, rfl, _, _, rfl, b, ro, 3, rfl, b4, rfl, by decide, fun bl hbl H5 k5 b5 => ?_⟩
  refine st_eq (t := tSeq _ _) [some (V.ref b), some (.str rd), some (.str wr), some (.int 3), some (.int (1 + (n : Int))), some (.int (1 + (m : Int))), some v3, some v4, some (.int (bl : Nat)), none, none, none, none, none, none, none] rfl ?_
  rw [en, em]
  have k05 : Keep b H H5 := k1.trans (k2.trans (k3.trans (k4.trans k5)))
  have rL5 : rRows (nb b H5) v3 L := mRows _ _ _ _ ((offs_nb b2.ne).trans (k4.trans k5).nb) res3
  have rR5 : rRows (nb b H5) v4 R := mRows _ _ _ _ ((offs_nb b3.ne).trans k5.nb) res4
  refine ⟨Nat.zero_le _, fun o ho => ?_⟩
  have nob : o ≠ b := fun e => b5.ne (by rw [← e]; exact ho)
  have nor : o ≠ ro := fun e => b5.nr (by rw [← e]; exact ho)
  refine ⟨_, rfl, ((n + 1 : Nat) : Int), rfl, by omega, by omega, ?_⟩
  have e0 : (((n + 1 : Nat)) : Int).toNat = n + 1 := by omega
  rw [e0]
  let Good : List Str → Prop := fun ss => ss.length = m + 1 ∧ ∀ s ∈ ss, Gd wr rd.length s
  have mG : Mono (rEx (rL rS) Good) := mEx (mL mS)
  refine for_range (n := n + 1) (lo := 0) (fun i σ Hx => ∃ (vs : List V) (x10 x11 x12 x13 : Option V), σ = [some (V.ref b), some (.str rd), some (.str wr), some (.int 3), some (.int ((n + 1 : Nat) : Int)), some (.int ((m + 1 : Nat) : Int)), some v3, some v4, some (.int (bl : Nat)), some (.ref o), x10, x11, x12, x13, none, none] ∧ Keep b H5 Hx ∧ BoxAt b ro Hx ∧ Hx o = some (.lst vs) ∧ Paired (rEx (rL rS) Good (offs H5 [o] Hx)) vs (List.replicate i ())) ⟨[], none, none, none, none, rfl, (Keep.refl b H5).upd ho, b5.upd nob nor, upd_same, .nil⟩ ?_ ?_
  · rintro i σ H6 hi ⟨vs, x10, x11, x12, x13, rfl, k6, b6, ho6, p6⟩
    rw [Int.zero_add]
    refine ⟨Nat.zero_le _, fun l hl => ?_⟩
    have nlb : l ≠ b := fun e => b6.ne (by rw [← e]; exact hl)
    have nlr : l ≠ ro := fun e => b6.nr (by rw [← e]; exact hl)
    have nlo : l ≠ o := fun e => by rw [e, ho6] at hl; cases hl
    have hl5 : H5 l = none := k6.free b6.ne hl
    refine ⟨_, rfl, ((m + 1 : Nat) : Int), rfl, by omega, by omega, ?_⟩
    have e1 : (((m + 1 : Nat)) : Int).toNat = m + 1 := by omega
    rw [e1]
    refine for_range (n := m + 1) (lo := 0) (fun j σ Hx => ∃ (ss : List Str) (x12 x13 : Option V), σ = [some (V.ref b), some (.str rd), some (.str wr), some (.int 3), some (.int ((n + 1 : Nat) : Int)), some (.int ((m + 1 : Nat) : Int)), some v3, some v4, some (.int (bl : Nat)), some (.ref o), some (.int (i : Nat)), some (.ref l), x12, x13, none, none] ∧ Keep b H6 Hx ∧ BoxAt b ro Hx ∧ Hx l = some (.lst (ss.map V.str)) ∧ ss.length = j ∧ ∀ s ∈ ss, Gd wr rd.length s) ⟨[], x12, x13, rfl, (Keep.refl b H6).upd hl, b6.upd nlb nlr, upd_same, rfl, nofun⟩ ?_ ?_
    · rintro j σ H7 hj ⟨ss, x12, x13, rfl, k7, b7, hl7, hsl, hss⟩
      rw [Int.zero_add]
      have hl6 : ∀ Hx, Keep b H7 Hx → Hx l = some (.lst (ss.map V.str)) := fun Hx k => k _ _ hl7 nlb
      -- the last step
      have fin : ∀ (t : Str) (Hx : Hp), Gd wr rd.length t → Keep b H7 Hx → BoxAt b ro Hx → ∃ (ss' : List Str) (x12 x13 : Option V), [some (V.ref b), some (.str rd), some (.str wr), some (.int 3), some (.int ((n + 1 : Nat) : Int)), some (.int ((m + 1 : Nat) : Int)), some v3, some v4, some (.int (bl : Nat)), some (.ref o), some (.int (i : Nat)), some (.ref l), some (.int (j : Nat)), some (.str t), none, none] = [some (V.ref b), some (.str rd), some (.str wr), some (.int 3), some (.int ((n + 1 : Nat) : Int)), some (.int ((m + 1 : Nat) : Int)), some v3, some v4, some (.int (bl : Nat)), some (.ref o), some (.int (i : Nat)), some (.ref l), x12, x13, none, none] ∧ Keep b H6 (upd Hx l (.lst (ss.map V.str ++ [.str t]))) ∧ BoxAt b ro (upd Hx l (.lst (ss.map V.str ++ [.str t]))) ∧ (upd Hx l (.lst (ss.map V.str ++ [.str t]))) l = some (.lst (ss'.map V.str)) ∧ ss'.length = j + 1 ∧ ∀ s ∈ ss', Gd wr rd.length s := fun t Hx ht kx bxx => by
        refine ⟨ss ++ [t], _, _, rfl, (k7.trans kx).upd hl, bxx.upd nlb nlr, by rw [upd_same, List.map_append]; rfl, by rw [List.length_append, hsl]; rfl, fun s hs => ?_⟩
        rcases List.mem_append.mp hs with e | e
        · exact hss s e
        · rw [List.mem_singleton.mp e]; exact ht
      have lsz : (ss.map V.str).length < sizeLine := sz (by rw [List.length_map, hsl]; omega)
      -- the text
      have wk := walk_str (z := rd)
      refine ⟨⟨_, rfl⟩, _, rfl, rd, rfl, fun D hD => ?_⟩
      refine lcB (R := rEx rCh (fun c => c ∈ wr.cps.toList)) (mEx mCh) (List.replicate rd.cps.size ()) hD b7 (n := rd.cps.size) (by simp) (szl (by rw [List.length_replicate]; exact Nat.le_trans ld.2 (by decide))) (fun i H1 hi k => wk.goes i H1 hi trivial) (fun H1 k => wk.stops H1 trivial) ?_ ?_
      · intro z x u H8 H0 hz hb8 k8 b8 nD hy k hk
        obtain ⟨rfl, c, hc, rfl⟩ := wk.yields z H8 x H0 hz trivial hy
        refine ⟨wp1, _, rfl, _, rfl, _, rfl, wr, rfl, szl (by omega), _, _, rfl, b, ro, wr.length, rfl, b8, rfl, by omega, fun r hr H9 k9 b9 => ?_⟩
        refine ⟨wr, (r : Nat), _, rfl, rfl, szl (by omega), atI_nat (ltr_at hr), ?_⟩
        exact hk _ _ k9 b9 ⟨_, rfl, ltr_mem hr⟩
      intro H8 k8 b8 res8
      obtain ⟨cs, r1, r2, r3⟩ := ex_list res8
      have r3 : cs.length = rd.length := by rw [r3, List.length_replicate]; rfl
      obtain ⟨_, cvs, e8, hc8, pc8⟩ := r1
      cases e8
      have hcv := pd_chs pc8
      have hgood : Gd wr rd.length ⟨cs.toArray⟩ := ⟨r3, r2⟩
      refine ⟨_, D, cs.map fun c => (⟨#[c]⟩ : Str), rfl, rfl, .inl (SqL.of (by rw [← hcv]; exact (offs_some hc8).2.2)), ?_, ?_⟩
      · rw [signs_len, List.length_map]
        have h0 : ("" : Str).length = 0 := by decide +kernel
        have h1 : cs.length = rd.length := r3
        rw [h0, h1]; omega
      rw [join_signs]
      refine ⟨_, rfl, rfl, _, rfl, ?_⟩
      by_cases hb0 : bl = 0
      rotate_left
      · have hd : ¬ V.int ((bl : Nat) : Int) = V.int 0 := fun e => by injection e with e; omega
        refine ifF (decide_eq_false hd) ?_
        refine iteF ?_
        exact ⟨_, rfl, .inl ⟨rfl, _, SqL.of (hl6 _ k8)⟩, _, rfl, l, _, _, rfl, rfl, hl6 _ k8, lsz, fin _ _ hgood k8 b8⟩
      · refine ifT (by rw [hb0]; simp) ?_
        refine ⟨_, rfl, _, _, rfl, b, ro, 4, rfl, b8, rfl, by decide, fun r hr H9 k9 b9 => ?_⟩
        have k79 := k8.trans k9
        refine ⟨(r : Nat), 0, rfl, rfl, _, rfl, ?_⟩
        refine ifB ?_ ?_
        · refine ⟨⟨_, rfl⟩, _, rfl, rd, rfl, szl (by omega), (rd.length : Nat), rfl, by omega, by omega, fun D2 hD2 => ?_⟩
          have e2 : ((rd.length : Nat) : Int).toNat = rd.length := by omega
          rw [e2]
          refine lcR (R := rEx rCh (fun c => c ∈ wr.cps.toList)) (B := H9) (mEx mCh) (List.replicate rd.length ()) (Same.refl H9) hD2 (by simp) (szl (by simp; omega)) ?_ ?_
          · intro z u H10 hz hb10 s10 nD2 k hk
            rw [Int.zero_add]
            refine ⟨wp1, _, rfl, _, rfl, .inl ⟨_, rfl, _, rfl, wr, rfl, szl (by omega), (z : Nat), (wr.length : Nat), rfl, rfl, by show (0 : Int) < _; omega, ?_⟩⟩
            have hlt : z % wr.length < wr.length := Nat.mod_lt _ (by omega)
            refine ⟨wr, ((z : Int) % (wr.length : Int)), ltr wr (z % wr.length), rfl, rfl, szl (by omega), ?_, ?_⟩
            · rw [show (z : Int) % (wr.length : Int) = ((z % wr.length : Nat) : Int) by omega]
              exact atI_nat (ltr_at hlt)
            · exact hk _ _ (Same.refl _) ⟨_, rfl, ltr_mem hlt⟩
          intro H10 s10 res10
          obtain ⟨cs2, r1', r2', r3'⟩ := ex_list res10
          obtain ⟨_, cvs2, e10, hc10, pc10⟩ := r1'
          cases e10
          have hcv2 := pd_chs pc10
          have hgood2 : Gd wr rd.length ⟨cs2.toArray⟩ := ⟨by simpa using r3', r2'⟩
          refine ⟨_, D2, cs2.map fun c => (⟨#[c]⟩ : Str), rfl, rfl, .inl (SqL.of (by rw [← hcv2]; exact (offs_some hc10).2.2)), ?_, ?_⟩
          · rw [signs_len, List.length_map]
            have h0 : ("" : Str).length = 0 := by decide +kernel
            have h1 : cs2.length = rd.length := by simpa using r3'
            rw [h0, h1]; omega
          rw [join_signs]
          have k710 := k79.trans (Keep.of s10)
          exact ⟨_, rfl, .inl ⟨rfl, _, SqL.of (hl6 _ k710)⟩, _, rfl, l, _, _, rfl, rfl, hl6 _ k710, lsz, fin _ _ hgood2 k710 (b9.same s10)⟩
        · exact ⟨_, rfl, .inl ⟨rfl, _, SqL.of (hl6 _ k79)⟩, _, rfl, l, _, _, rfl, rfl, hl6 _ k79, lsz, fin _ _ hgood k79 b9⟩
    · rintro σ H7 ⟨ss, x12, x13, rfl, k7, b7, hl7, hsl, hss⟩
      have ho7 : H7 o = some (.lst vs) := k7 _ _ ho6 nob
      have hvl : vs.length ≤ n + 1 := by rw [pd_len p6, List.length_replicate]; omega
      refine ⟨_, rfl, .inl ⟨rfl, _, SqL.of ho7⟩, _, rfl, o, vs, _, rfl, rfl, ho7, sz (by omega), ?_⟩
      refine ⟨vs ++ [.ref l], _, _, _, _, rfl, (k6.trans k7).upd ho, b7.upd nob nor, upd_same, ?_⟩
      rw [offs_upd (by simp), List.replicate_succ']
      refine pd_snoc (pd_mono mG (k7.offs (.inl b5.ne)) p6) ⟨ss, ⟨l, _, rfl, ?_, strs_pd _⟩, hsl, hss⟩
      rw [offs_get (by simpa using nlo) hl5]; exact hl7
  · rintro σ H6 ⟨vs, x10, x11, x12, x13, rfl, k6, b6, ho6, p6⟩
    obtain ⟨T, pT, gT, lT⟩ := ex_pd p6
    rw [List.length_replicate] at lT
    refine ⟨_, rfl, _, rfl, _, rfl, _, rfl, _, rfl, by show 5 ≤ sizeLine; decide, fun z hz => ?_⟩
    have s7 : Same H6 (upd H6 z (.lst [.str rd, .str wr, v3, v4, .ref o])) := same_new hz
    have nzb : z ≠ b := fun e => b6.ne (by rw [← e]; exact hz)
    have wfT : WFT (Gd wr rd.length) T (n + 1) (m + 1) := ⟨lT, fun r hr => gT r hr⟩
    have lL := wfL.len
    have lR := wfR.len
    have k67 : Keep b H5 (upd H6 z (.lst [.str rd, .str wr, v3, v4, .ref o])) := k6.trans (Keep.of s7)
    refine q ⟨rd, wr, L, R, T⟩ ⟨hrd, hwr, by show WFr L L.length _; rw [lL]; exact wfL, by show WFr R R.length _; rw [lR]; exact wfR, by show WFT _ T L.length R.length; rw [lL, lR]; exact wfT, by show 0 < L.length; omega, by show 0 < R.length; omega, by show L.length ≤ 40; omega, by show R.length ≤ 40; omega⟩ rfl rfl ⟨by show L.length ≤ 3; omega, by show R.length ≤ 3; omega⟩ _ _ (k05.trans k67) (b6.same s7) ⟨z, v3, v4, .ref o, rfl, by rw [nb_get nzb]; exact upd_same, mRows _ _ _ _ k67.nb rL5, mRows _ _ _ _ k67.nb rR5, ⟨o, vs, rfl, by rw [nb_get nob]; exact s7 _ _ ho6, ?_⟩⟩
    refine pd_mono (mL mS) ?_ pT
    intro c ob hc
    obtain ⟨n1, n2, n3⟩ := offs_some hc
    have ncb : c ≠ b := fun e => b5.ne (by rw [← e]; exact n2)
    rw [nb_get ncb]; exact s7 _ _ n3
end
end FA
end
section
namespace FA
open PySem PySem.Spec PyProof.Rows L2 FM
--IMPORT SpecM
theorem sc__law_blown : FnScope ["_law_box", "_law_m", "_law_lefts", "_law_rights", "_law_left", "_law_i", "_law_right", "_law_j", "_law_to"] ["_law_box", "_law_m"] (defScope s__law_blown) := ⟨rfl, rfl, rfl, by decide +kernel, rfl, by decide +kernel, by decide +kernel⟩
section
variable {P : Program} {w : World} {K : PySem.W.Frag} {mg : Str → Option Value} {base : Heap} {C : Addr}
theorem ok__law_blown (D : Df K mg "_law_blown" s__law_blown ["_law_box", "_law_m"]) (Z : Glo mg) (Mc : Mcl K mg C) (C__law_doubled : Cal P w K mg base "_law_doubled" ["_law_box", "_law_many"] 2 sp__law_doubled) (C__law_copy_of : Cal P w K mg base "_law_copy_of" ["_law_box", "_law_states_here", "_law_to"] 2 sp__law_copy_of) :
    Cal P w K mg base "_law_blown" ["_law_box", "_law_m"] 3 sp__law_blown := by
  have nd := sc__law_blown.nd
  refine D.ok sc__law_blown len2 (fun f cdv A outer s H vs Q E hr h => ?_)
  have hu := hu_of hr
  refine ⟨_, (pss_cons (ps_set (i := 2) nd rfl (Or.inr rfl) (pe_cal C__law_doubled (hr.mono (by decide)) (by rfl) (pa_cons (pv 0) (pa_cons (pe_callB klen_seq (by rfl) Z.z_len (by decide +kernel) (pa_cons (pe_ix kix_list (pv 1) pe_int (fun _ _ => rfl)) pa_nil)) pa_nil))))
      (pss_cons (ps_set (i := 3) nd rfl (Or.inr rfl) (pe_cal C__law_doubled (hr.mono (by decide)) (by rfl) (pa_cons (pv 0) (pa_cons (pe_callB klen_seq (by rfl) Z.z_len (by decide +kernel) (pa_cons (pe_ix kix_list (pv 1) pe_int (fun _ _ => rfl)) pa_nil)) pa_nil))))
      (pss_cons (ps_set (i := 4) nd rfl (Or.inl rfl) (pe_lst pa_nil))
      (pss_cons (ps_for PassesOwn.never rfl (kpi_list K (pv 2)) (pg_name (i := 5) nd rfl (Or.inl rfl)) (pss_one (ps_expr (kbm K PySem.F.plainAttrs_list PySem.F.slot_list_append PySem.F.type_list_append mt_append (pv 4) (pa_cons (pe_lc (own := [("_law_to", 8)]) (tt := tYes) rfl nd (kpi_list K (pe_ix kix_list (pe_ix kix_list (pv 1) pe_int (fun _ _ => rfl)) (pv 5) (fun _ _ => rfl))) (blkOk_by (by kernel_rfl)) (fun _ _ _ _ _ => (pg_name (i := 8) nd rfl (Or.inl rfl))) (fun _ _ _ _ _ => pts_nil) (fun _ _ _ _ _ => (pe_cal C__law_copy_of (hr.mono (by decide)) (by rfl) (pa_cons (pv 0) (pa_cons (pv 2) (pa_cons (pv 8) pa_nil)))))) pa_nil)))))
      (pss_cons (ps_set (i := 6) nd rfl (Or.inl rfl) (pe_lst pa_nil))
      (pss_cons (ps_for PassesOwn.never rfl (kpi_list K (pv 3)) (pg_name (i := 7) nd rfl (Or.inl rfl)) (pss_one (ps_expr (kbm K PySem.F.plainAttrs_list PySem.F.slot_list_append PySem.F.type_list_append mt_append (pv 6) (pa_cons (pe_lc (own := [("_law_to", 8)]) (tt := tYes) rfl nd (kpi_list K (pe_ix kix_list (pe_ix kix_list (pv 1) pe_int (fun _ _ => rfl)) (pv 7) (fun _ _ => rfl))) (blkOk_by (by kernel_rfl)) (fun _ _ _ _ _ => (pg_name (i := 8) nd rfl (Or.inl rfl))) (fun _ _ _ _ _ => pts_nil) (fun _ _ _ _ _ => (pe_cal C__law_copy_of (hr.mono (by decide)) (by rfl) (pa_cons (pv 0) (pa_cons (pv 3) (pa_cons (pv 8) pa_nil)))))) pa_nil)))))
      (pss_one (ps_ret (pe_lst (pa_cons (pe_ix kix_list (pv 1) pe_int (fun _ _ => rfl)) (pa_cons (pe_ix kix_list (pv 1) pe_int (fun _ _ => rfl)) (pa_cons (pv 4) (pa_cons (pv 6) (pa_cons (pe_lc (own := [("_law_i", 5)]) (tt := tYes) rfl nd (kpi_list K (pv 2)) (blkOk_by (by kernel_rfl)) (fun _ _ _ _ _ => (pg_name (i := 5) nd rfl (Or.inr rfl))) (fun _ _ _ _ _ => pts_nil) (fun _ _ _ _ _ => (pe_lc (own := [("_law_j", 7)]) (tt := tYes) rfl nd (kpi_list K (pv 3)) (blkOk_by (by kernel_rfl)) (fun _ _ _ _ _ => (pg_name (i := 7) nd rfl (Or.inl rfl))) (fun _ _ _ _ _ => pts_nil) (fun _ _ _ _ _ => (pe_ix kix_list (pe_ix kix_list (pe_ix kix_list (pv 1) pe_int (fun _ _ => rfl)) (pv 5) (fun _ _ => rfl)) (pv 7) (fun _ _ => rfl)))))) pa_nil)))))))))))))), ?_⟩
  obtain ⟨_, _, rfl, b, ro, M, rfl, bx, ⟨a, l, r, t, rfl, ha, hl, hr', ht⟩, ok, ⟨sm1, sm2⟩, q⟩ := h
  have nab := (nb_some ha).1
  have ha0 := (nb_some ha).2
  have ld := al_len _ ok.rd
  obtain ⟨la, lvs, rfl, hla, pl⟩ := id hl
  obtain ⟨ra, rvs, rfl, hra, pr⟩ := id hr'
  obtain ⟨ta, tvs, rfl, hta, pt⟩ := id ht
  have nlb := (nb_some hla).1
  have nrb := (nb_some hra).1
  have ntb := (nb_some hta).1
  have hla0 := (nb_some hla).2
  have hra0 := (nb_some hra).2
  have hta0 := (nb_some hta).2
  have kl := pd_len pl
  have kr := pd_len pr
  refine ⟨_, rfl, _, rfl, a, _, 2, _, rfl, rfl, ha0, atI_nat (j := 2) rfl, la, lvs, rfl, .inl hla0, _, _, rfl, b, ro, M.L.length, rfl, bx, by rw [kl], ok.bL, fun xs xl xlt xc v1 H1 k1 b1 res1 => ?_⟩
  have ha1 := k1 _ _ ha0 nab
  refine ⟨_, rfl, _, rfl, a, _, 3, _, rfl, rfl, ha1, atI_nat (j := 3) rfl, ra, rvs, rfl, .inl (k1 _ _ hra0 nrb), _, _, rfl, b, ro, M.R.length, rfl, b1, by rw [kr], ok.bR, fun ys yl ylt yc v2 H2 k2 b2 res2 => ?_⟩
  have k02 := k1.trans k2
  replace res1 := mL mI _ _ _ _ (k2.offs (B := H) (ds := []) (.inl bx.ne)) res1
  replace res2 := mL mI _ _ _ _ (offs_callB (ds := []) k1 b1.ne (fun d hd => by cases hd)) res2
  obtain ⟨xa, xvs, rfl, hxa, px⟩ := res1
  obtain ⟨ya, yvs, rfl, hya, py⟩ := res2
  have nxb : xa ≠ b := fun e => bx.ne (by rw [← e]; exact (offs_some hxa).2.1)
  have nyb : ya ≠ b := fun e => bx.ne (by rw [← e]; exact (offs_some hya).2.1)
  have hxa2 := (offs_some hxa).2.2
  have hya2 := (offs_some hya).2.2
  have kx := pd_len px
  have ky := pd_len py
  have exv := pd_ints px
  have eyv := pd_ints py
  have x0 : 0 < xs.length := List.length_pos_iff.mpr fun e => by have := xc 0 ok.pL; rw [e] at this; cases this
  have y0 : 0 < ys.length := List.length_pos_iff.mpr fun e => by have := yc 0 ok.pR; rw [e] at this; cases this
  -- left
  refine ⟨Nat.zero_le _, fun o ho => ?_⟩
  have nob : o ≠ b := fun e => b2.ne (by rw [← e]; exact ho)
  have nor : o ≠ ro := fun e => b2.nr (by rw [← e]; exact ho)
  let GoodL : List Nat → Prop := fun row => row.length = M.rd.length ∧ ∀ z ∈ row, z < xs.length
  let GoodR : List Nat → Prop := fun row => row.length = M.rd.length ∧ ∀ z ∈ row, z < ys.length
  refine ⟨_, rfl, xa, rfl, ⟨xvs, SqL.of ((same_new ho : Same H2 _) _ _ hxa2)⟩, ?_⟩
  refine for_it (walk_list (xs := xvs)) (fun i σ Hx => ∃ (vs : List V) (x5 : Option V), σ = [some (V.ref b), some (.ref a), some (.ref xa), some (.ref ya), some (.ref o), x5, none, none, none] ∧ Keep b H2 Hx ∧ BoxAt b ro Hx ∧ Hx o = some (.lst vs) ∧ Paired (rEx (rL rI) GoodL (offs H2 [o] Hx)) vs (List.replicate i ())) ⟨[], none, rfl, (Keep.refl b H2).upd ho, b2.upd nob nor, upd_same, .nil⟩ ?_ ?_ ?_
  · rintro i σ Hx _ ⟨_, _, _, k, _⟩
    exact SqL.of (k _ _ hxa2 nxb)
  · rintro i x σ _ H3 hi ⟨vs, x5, rfl, k3, b3, ho3, p3⟩ ⟨rfl, hx⟩
    obtain ⟨s, hs, rfl⟩ := pd_get px hx
    have hsn := xlt s (List.mem_of_getElem? hs)
    have k03 := k02.trans k3
    obtain ⟨_, lvs', rb, ws, ea, ha', hrb, hb2, pws⟩ := rows_get (i := s) hl (getD_some (d := []) hsn)
    cases ea
    have nrb2 := (nb_some hb2).1
    have hrow := ok.wfL.getRow hsn
    have hwl : ws.length = (M.L.getD s []).length := pd_len pws
    refine ⟨_, rfl, .inl ⟨rfl, _, SqL.of ho3⟩, _, rfl, a, _, 2, _, rfl, rfl, k03 _ _ ha0 nab, atI_nat (j := 2) rfl, _, rfl, la, lvs', _, _, rfl, rfl, k03 _ _ (nb_some ha').2 nlb, atI_nat hrb, rb, rfl, ⟨ws, SqL.of (k03 _ _ (nb_some hb2).2 nrb2)⟩, fun D hD => ?_⟩
    have wk := walk_list (K := K) (a := rb) (xs := ws)
    have hrb3 := k03 _ _ (nb_some hb2).2 nrb2
    refine lcB (R := rEx rI (fun z => z < xs.length)) (mEx mI) (List.replicate ws.length ()) hD b3 (n := ws.length) (by simp) (szl (by rw [List.length_replicate, hwl, hrow.1]; omega)) (fun i H1 hi k => wk.goes i H1 hi (SqL.of (k _ _ hrb3 nrb2))) (fun H1 k => wk.stops H1 (SqL.of (k _ _ hrb3 nrb2))) ?_ ?_
    · intro j y u H4 H0 hj hb k4 b4 nD hy k hk
      obtain ⟨rfl, hyw⟩ := wk.yields j H4 y H0 hj (SqL.of (k4 _ _ hrb3 nrb2)) hy
      obtain ⟨to, hto, rfl⟩ := pd_get pws hyw
      have hton := hrow.2 to (List.mem_of_getElem? hto)
      refine ⟨wp1, _, rfl, _, rfl, _, rfl, _, _, _, rfl, b, ro, xs, to, rfl, b4, ⟨xa, xvs, rfl, by rw [nb_get nxb]; exact k4 _ _ (k3 _ _ hxa2 nxb) nxb, by rw [exv]; exact ints_pd _⟩, rfl, xc to hton, by omega, fun z hz H5 k5 b5 => ?_⟩
      exact hk _ _ k5 b5 ⟨z, rfl, hz⟩
    · intro H4 k4 b4 res4
      obtain ⟨row, r1, r2, r3⟩ := ex_list res4
      obtain ⟨_, cvs, e4, hc4, pc4⟩ := r1
      cases e4
      have hDo := offs_some hc4
      have noD : D ≠ o := fun e => by rw [e, ho3] at hD; cases hD
      have ho4 : H4 o = some (.lst vs) := k4 _ _ ho3 nob
      have hvl : vs.length ≤ 100 := by rw [pd_len p3, List.length_replicate]; omega
      refine ⟨o, vs, _, rfl, rfl, ho4, sz (by omega), ?_⟩
      refine ⟨vs ++ [.ref D], _, rfl, (k3.trans k4).upd ho, b4.upd nob nor, upd_same, ?_⟩
      rw [offs_upd (by simp), List.replicate_succ']
      refine pd_snoc (pd_mono (mEx (mL mI)) (k4.offs (.inl b2.ne)) p3) ⟨row, ⟨D, cvs, rfl, ?_, by rw [pd_ints pc4]; exact ints_pd _⟩, by rw [r3, List.length_replicate, hwl, hrow.1], r2⟩
      rw [offs_get (by simpa using noD) (k3.free b3.ne hD)]; exact hDo.2.2
  rintro σ H3 ⟨vsL, x5, rfl, k3, b3, ho3, p3⟩
  have k03 := k02.trans k3
  -- right
  refine ⟨Nat.zero_le _, fun o2 ho2 => ?_⟩
  have nob2 : o2 ≠ b := fun e => b3.ne (by rw [← e]; exact ho2)
  have nor2 : o2 ≠ ro := fun e => b3.nr (by rw [← e]; exact ho2)
  have noo : o ≠ o2 := fun e => by rw [← e, ho3] at ho2; cases ho2
  have hya3 := k3 _ _ hya2 nyb
  refine ⟨_, rfl, ya, rfl, ⟨yvs, SqL.of ((same_new ho2 : Same H3 _) _ _ hya3)⟩, ?_⟩
  refine for_it (walk_list (xs := yvs)) (fun i σ Hx => ∃ (vs : List V) (x7 : Option V), σ = [some (V.ref b), some (.ref a), some (.ref xa), some (.ref ya), some (.ref o), x5, some (.ref o2), x7, none] ∧ Keep b H3 Hx ∧ BoxAt b ro Hx ∧ Hx o2 = some (.lst vs) ∧ Paired (rEx (rL rI) GoodR (offs H3 [o2] Hx)) vs (List.replicate i ())) ⟨[], none, rfl, (Keep.refl b H3).upd ho2, b3.upd nob2 nor2, upd_same, .nil⟩ ?_ ?_ ?_
  · rintro i σ Hx _ ⟨_, _, _, k, _⟩
    exact SqL.of (k _ _ hya3 nyb)
  · rintro i x σ _ H4 hi ⟨vs, x7, rfl, k4, b4, ho4, p4⟩ ⟨rfl, hx⟩
    obtain ⟨s, hs, rfl⟩ := pd_get py hx
    have hsn := ylt s (List.mem_of_getElem? hs)
    have k04 := k03.trans k4
    obtain ⟨_, rvs', rb, ws, ea, ha', hrb, hb2, pws⟩ := rows_get (i := s) hr' (getD_some (d := []) hsn)
    cases ea
    have nrb2 := (nb_some hb2).1
    have hrow := ok.wfR.getRow hsn
    have hwl : ws.length = (M.R.getD s []).length := pd_len pws
    refine ⟨_, rfl, .inl ⟨rfl, _, SqL.of ho4⟩, _, rfl, a, _, 3, _, rfl, rfl, k04 _ _ ha0 nab, atI_nat (j := 3) rfl, _, rfl, ra, rvs', _, _, rfl, rfl, k04 _ _ (nb_some ha').2 nrb, atI_nat hrb, rb, rfl, ⟨ws, SqL.of (k04 _ _ (nb_some hb2).2 nrb2)⟩, fun D hD => ?_⟩
    have wk := walk_list (K := K) (a := rb) (xs := ws)
    have hrb4 := k04 _ _ (nb_some hb2).2 nrb2
    refine lcB (R := rEx rI (fun z => z < ys.length)) (mEx mI) (List.replicate ws.length ()) hD b4 (n := ws.length) (by simp) (szl (by rw [List.length_replicate, hwl, hrow.1]; omega)) (fun i H1 hi k => wk.goes i H1 hi (SqL.of (k _ _ hrb4 nrb2))) (fun H1 k => wk.stops H1 (SqL.of (k _ _ hrb4 nrb2))) ?_ ?_
    · intro j y u H5 H0 hj hb k5 b5 nD hy k hk
      obtain ⟨rfl, hyw⟩ := wk.yields j H5 y H0 hj (SqL.of (k5 _ _ hrb4 nrb2)) hy
      obtain ⟨to, hto, rfl⟩ := pd_get pws hyw
      have hton := hrow.2 to (List.mem_of_getElem? hto)
      refine ⟨wp1, _, rfl, _, rfl, _, rfl, _, _, _, rfl, b, ro, ys, to, rfl, b5, ⟨ya, yvs, rfl, by rw [nb_get nyb]; exact k5 _ _ (k4 _ _ hya3 nyb) nyb, by rw [eyv]; exact ints_pd _⟩, rfl, yc to hton, by omega, fun z hz H6 k6 b6 => ?_⟩
      exact hk _ _ k6 b6 ⟨z, rfl, hz⟩
    · intro H5 k5 b5 res5
      obtain ⟨row, r1, r2, r3⟩ := ex_list res5
      obtain ⟨_, cvs, e5, hc5, pc5⟩ := r1
      cases e5
      have hDo := offs_some hc5
      have noD : D ≠ o2 := fun e => by rw [e, ho4] at hD; cases hD
      have ho5 : H5 o2 = some (.lst vs) := k5 _ _ ho4 nob2
      have hvl : vs.length ≤ 100 := by rw [pd_len p4, List.length_replicate]; omega
      refine ⟨o2, vs, _, rfl, rfl, ho5, sz (by omega), ?_⟩
      refine ⟨vs ++ [.ref D], _, rfl, (k4.trans k5).upd ho2, b5.upd nob2 nor2, upd_same, ?_⟩
      rw [offs_upd (by simp), List.replicate_succ']
      refine pd_snoc (pd_mono (mEx (mL mI)) (k5.offs (.inl b3.ne)) p4) ⟨row, ⟨D, cvs, rfl, ?_, by rw [pd_ints pc5]; exact ints_pd _⟩, by rw [r3, List.length_replicate, hwl, hrow.1], r2⟩
      rw [offs_get (by simpa using noD) (k4.free b4.ne hD)]; exact hDo.2.2
  rintro σ H4 ⟨vsR, x7, rfl, k4, b4, ho4, p4⟩
  have k04 := k03.trans k4
  obtain ⟨L', pL', gL', lL'⟩ := ex_pd p3
  obtain ⟨R', pR', gR', lR'⟩ := ex_pd p4
  rw [List.length_replicate] at lL' lR'
  have ha4 := k04 _ _ ha0 nab
  have hxa4 := k4 _ _ (k3 _ _ hxa2 nxb) nxb
  have hya4 := k4 _ _ hya3 nyb
  refine ⟨_, rfl, a, _, 0, _, rfl, rfl, ha4, atI_nat (j := 0) rfl, _, rfl, a, _, 1, _, rfl, rfl, ha4, atI_nat (j := 1) rfl, _, rfl, _, rfl, _, rfl, xa, rfl, ⟨xvs, SqL.of hxa4⟩, fun D hD => ?_⟩
  -- the table
  let T' : List (List Str) := xs.map fun i => ys.map fun j => T2 M.T i j
  refine lcL (R := rL rS) (B := H4) (mL mS) T' (Same.refl H4) hD (SqL.of hxa4) (by rw [List.length_map, kx]) (szl (by rw [List.length_map]; omega)) ?_ ?_
  · intro i x c H5 hx hb s5 nD k hk
    obtain ⟨s, hs, rfl⟩ := pd_get px hx
    have hsn := xlt s (List.mem_of_getElem? hs)
    have hce : c = ys.map fun j => T2 M.T s j := by
      rw [List.getElem?_map, hs] at hb
      exact (Option.some.inj hb).symm
    subst hce
    refine ⟨wp1, _, rfl, ya, rfl, ⟨yvs, SqL.of (s5 _ _ hya4)⟩, fun D2 hD2 => ?_⟩
    refine lcL (R := rS) (B := H5) mS (ys.map fun j => T2 M.T s j) (Same.refl H5) hD2 (SqL.of (s5 _ _ hya4)) (by rw [List.length_map, ky]) (szl (by rw [List.length_map]; omega)) ?_ ?_
    · intro j y d H6 hy hd s6 nD2 k2 hk2
      obtain ⟨s', hs', rfl⟩ := pd_get py hy
      have hsm := ylt s' (List.mem_of_getElem? hs')
      have hde : d = T2 M.T s s' := by
        rw [List.getElem?_map, hs'] at hd
        exact (Option.some.inj hd).symm
      subst hde
      obtain ⟨_, tvs', c2, ws, ea, ha', hc2, hws, hcell⟩ := tab_at ht ok.wfT hsn hsm
      cases ea
      have kk := k04.trans (Keep.of (s5.trans s6))
      refine ⟨wp1, _, rfl, a, _, 4, _, rfl, rfl, kk _ _ ha0 nab, atI_nat (j := 4) rfl, _, rfl, ta, tvs', _, _, rfl, rfl, kk _ _ (nb_some ha').2 ntb, atI_nat hc2, _, rfl, c2, ws, _, _, rfl, rfl, kk _ _ (nb_some hws).2 (nb_some hws).1, atI_nat hcell, ?_⟩
      exact hk2 _ _ (Same.refl _) rfl
    · intro H6 s6 res6
      exact hk _ _ s6 (mL mS _ _ _ _ (offs_call s5 (fun d hd => by rw [List.mem_singleton.mp hd]; exact nD)) res6)
  intro H5 s5 res5
  refine ⟨by show 5 ≤ sizeLine; decide, fun p hp => ?_⟩
  have s6 : Same H5 (upd H5 p (.lst [.str M.rd, .str M.wr, .ref o, .ref o2, .ref D])) := same_new hp
  have b5 := b4.same s5
  have npb : p ≠ b := fun e => b5.ne (by rw [← e]; exact hp)
  have k46 : Keep b H4 (upd H5 p (.lst [.str M.rd, .str M.wr, .ref o, .ref o2, .ref D])) := Keep.of (s5.trans s6)
  have wfL' : WFr L' L'.length M.rd.length := ⟨rfl, fun r hr => by have := gL' r hr; rw [lL', kx]; exact this⟩
  have wfR' : WFr R' R'.length M.rd.length := ⟨rfl, fun r hr => by have := gR' r hr; rw [lR', ky]; exact this⟩
  have wfT' : WFT (Gd M.wr M.rd.length) T' L'.length R'.length := ⟨by rw [List.length_map, lL', kx], fun r hr => by
    obtain ⟨i, hi, rfl⟩ := List.mem_map.mp hr
    refine ⟨by rw [List.length_map, lR', ky], fun z hz => ?_⟩
    obtain ⟨j, hj, rfl⟩ := List.mem_map.mp hz
    exact ok.wfT.good (xlt i hi) (ylt j hj)⟩
  refine q ⟨M.rd, M.wr, L', R', T'⟩ ⟨ok.rd, ok.wr, wfL', wfR', wfT', by show 0 < L'.length; omega, by show 0 < R'.length; omega, by show L'.length ≤ 40; omega, by show R'.length ≤ 40; omega⟩ rfl rfl _ _ (k04.trans k46) (b5.same s6) ⟨p, .ref o, .ref o2, .ref D, rfl, by rw [nb_get npb]; exact upd_same, ⟨o, vsL, rfl, by rw [nb_get nob]; exact k46 _ _ (k4 _ _ ho3 nob) nob, ?_⟩, ⟨o2, vsR, rfl, by rw [nb_get nob2]; exact k46 _ _ ho4 nob2, ?_⟩, mTab _ _ _ _ (offs_nb b4.ne) (mTab _ _ _ _ (offs_same s6) res5)⟩
  · refine pd_mono (mL mI) (fun c ob hc => ?_) pL'
    obtain ⟨n1, n2, n3⟩ := offs_some hc
    have ncb : c ≠ b := fun e => b2.ne (by rw [← e]; exact n2)
    rw [nb_get ncb]; exact k46 _ _ (k4 _ _ n3 ncb) ncb
  · refine pd_mono (mL mI) (fun c ob hc => ?_) pR'
    obtain ⟨n1, n2, n3⟩ := offs_some hc
    have ncb : c ≠ b := fun e => b3.ne (by rw [← e]; exact n2)
    rw [nb_get ncb]; exact k46 _ _ n3 ncb
end
end FA
end
section
namespace FA
open PySem PySem.Spec PyProof.Rows L2 FM
--IMPORT Spec5
theorem sc_run : FnScope ["machine", "word"] ["machine", "word"] (defScope s_run) := ⟨rfl, rfl, rfl, by decide +kernel, rfl, by decide +kernel, by decide +kernel⟩
section
variable {P : Program} {w : World} {K : PySem.W.Frag} {mg : Str → Option Value} {base : Heap} {C : Addr}
theorem ok_run (D : Df K mg "run" s_run ["machine", "word"]) (Z : Glo mg) (Mc : Mcl K mg C) (C_output_between : Cal P w K mg base "output_between" ["machine", "left", "right", "word"] 3 (sp_output_between C)) :
    Cal P w K mg base "run" ["machine", "word"] 4 (sp_run C) := by
  have nd := sc_run.nd
  refine D.ok sc_run len2 (fun f cdv A outer s H vs Q E hr h => ?_)
  have hu := hu_of hr
  refine ⟨_, (pss_one (ps_ret (pe_cal C_output_between (hr.mono (by decide)) (by rfl) (pa_cons (pv 0) (pa_cons pe_int (pa_cons pe_int (pa_cons (pv 1) pa_nil))))))), ?_⟩
  obtain ⟨_, _, rfl, M, w, hM, ok, rfl, hw, hlen, q⟩ := h
  exact ⟨_, rfl, _, rfl, _, _, _, _, rfl, M, 0, 0, w, hM, ok, rfl, rfl, ok.pL, ok.pR, rfl, hw, hlen, q⟩
end
end FA
end
section
namespace FA
open PySem PySem.Spec PyProof.Rows L2 FM
--IMPORT Spec6
theorem sc__parts_left : FnScope ["machine", "a", "b", "word"] ["machine", "a", "b", "word"] (defScope s__parts_left) := ⟨rfl, rfl, rfl, by decide +kernel, rfl, by decide +kernel, by decide +kernel⟩
section
variable {P : Program} {w : World} {K : PySem.W.Frag} {mg : Str → Option Value} {base : Heap} {C : Addr}
theorem ok__parts_left (D : Df K mg "_parts_left" s__parts_left ["machine", "a", "b", "word"]) (Z : Glo mg) (Mc : Mcl K mg C) (C_output_between : Cal P w K mg base "output_between" ["machine", "left", "right", "word"] 3 (sp_output_between C)) :
    Cal P w K mg base "_parts_left" ["machine", "a", "b", "word"] 4 (sp__parts_left C) := by
  have nd := sc__parts_left.nd
  refine D.ok sc__parts_left len4 (fun f cdv A outer s H vs Q E hr h => ?_)
  have hu := hu_of hr
  refine ⟨_, (pss_one (ps_ret (pe_cmpR op_ne (pe_cal C_output_between (hr.mono (by decide)) (by rfl) (pa_cons (pv 0) (pa_cons (pv 1) (pa_cons pe_int (pa_cons (pv 3) pa_nil))))) (pe_cal C_output_between (hr.mono (by decide)) (by rfl) (pa_cons (pv 0) (pa_cons (pv 2) (pa_cons pe_int (pa_cons (pv 3) pa_nil))))) (nomark _)))), ?_⟩
  obtain ⟨_, _, _, _, rfl, M, i, j, w, hM, ok, rfl, rfl, hi, hj, rfl, hw, hl, ne, q⟩ := h
  refine ⟨_, rfl, _, rfl, _, rfl, _, _, _, _, rfl, M, i, 0, w, hM, ok, rfl, rfl, hi, ok.pR, rfl, hw, hl, fun H1 s1 => ?_⟩
  refine ⟨_, rfl, _, rfl, _, rfl, _, _, _, _, rfl, M, j, 0, w, mM _ _ _ _ s1 hM, ok, rfl, rfl, hj, ok.pR, rfl, hw, hl, fun H2 s2 => ?_⟩
  have : ¬ V.str (outS M i 0 w) = V.str (outS M j 0 w) := fun z => by
    injection z with z
    unfold outS at z
    injection z with z
    exact ne (by simpa using z)
  refine ⟨rfl, ?_⟩
  rw [decide_eq_false this]
  exact q _ (s1.trans s2)
end
end FA
end
section
namespace FA
open PySem PySem.Spec PyProof.Rows L2 FM
--IMPORT Spec6
theorem sc__parts_right : FnScope ["machine", "a", "b", "word"] ["machine", "a", "b", "word"] (defScope s__parts_right) := ⟨rfl, rfl, rfl, by decide +kernel, rfl, by decide +kernel, by decide +kernel⟩
section
variable {P : Program} {w : World} {K : PySem.W.Frag} {mg : Str → Option Value} {base : Heap} {C : Addr}
theorem ok__parts_right (D : Df K mg "_parts_right" s__parts_right ["machine", "a", "b", "word"]) (Z : Glo mg) (Mc : Mcl K mg C) (C_output_between : Cal P w K mg base "output_between" ["machine", "left", "right", "word"] 3 (sp_output_between C)) :
    Cal P w K mg base "_parts_right" ["machine", "a", "b", "word"] 4 (sp__parts_right C) := by
  have nd := sc__parts_right.nd
  refine D.ok sc__parts_right len4 (fun f cdv A outer s H vs Q E hr h => ?_)
  have hu := hu_of hr
  refine ⟨_, (pss_one (ps_ret (pe_cmpR op_ne (pe_cal C_output_between (hr.mono (by decide)) (by rfl) (pa_cons (pv 0) (pa_cons pe_int (pa_cons (pv 1) (pa_cons (pv 3) pa_nil))))) (pe_cal C_output_between (hr.mono (by decide)) (by rfl) (pa_cons (pv 0) (pa_cons pe_int (pa_cons (pv 2) (pa_cons (pv 3) pa_nil))))) (nomark _)))), ?_⟩
  obtain ⟨_, _, _, _, rfl, M, i, j, w, hM, ok, rfl, rfl, hi, hj, rfl, hw, hl, ne, q⟩ := h
  refine ⟨_, rfl, _, rfl, _, rfl, _, _, _, _, rfl, M, 0, i, w, hM, ok, rfl, rfl, ok.pL, hi, rfl, hw, hl, fun H1 s1 => ?_⟩
  refine ⟨_, rfl, _, rfl, _, rfl, _, _, _, _, rfl, M, 0, j, w, mM _ _ _ _ s1 hM, ok, rfl, rfl, ok.pL, hj, rfl, hw, hl, fun H2 s2 => ?_⟩
  have : ¬ V.str (outS M 0 i w) = V.str (outS M 0 j w) := fun z => by
    injection z with z
    unfold outS at z
    injection z with z
    exact ne (by simpa using z)
  refine ⟨rfl, ?_⟩
  rw [decide_eq_false this]
  exact q _ (s1.trans s2)
end
end FA
end
section
namespace FA
open PySem PySem.Spec PyProof.Rows L2 FM
--IMPORT Spec6
theorem sc_is_same : FnScope ["one", "two"] ["one", "two"] (defScope s_is_same) := ⟨rfl, rfl, rfl, by decide +kernel, rfl, by decide +kernel, by decide +kernel⟩
section
variable {P : Program} {w : World} {K : PySem.W.Frag} {mg : Str → Option Value} {base : Heap} {C : Addr}
theorem ok_is_same (D : Df K mg "is_same" s_is_same ["one", "two"]) (Z : Glo mg) (Mc : Mcl K mg C) (C_difference : Cal P w K mg base "difference" ["one", "two"] 3 (sp_difference C)) :
    Cal P w K mg base "is_same" ["one", "two"] 4 (sp_is_same C) := by
  have nd := sc_is_same.nd
  refine D.ok sc_is_same len2 (fun f cdv A outer s H vs Q E hr h => ?_)
  have hu := hu_of hr
  refine ⟨_, (pss_one (ps_ret (pe_cmp (pc_isN (pe_cal C_difference (hr.mono (by decide)) (by rfl) (pa_cons (pv 0) (pa_cons (pv 1) pa_nil))))))), ?_⟩
  obtain ⟨_, _, rfl, M, N, hM, hN, ok, ok2, hrd, q⟩ := h
  refine ⟨_, rfl, _, rfl, _, _, rfl, M, N, hM, hN, ok, ok2, hrd, fun v H1 s1 d => ?_⟩
  rcases d with ⟨rfl, e⟩ | ⟨w, hw, _, rfl, ne⟩
  · exact q true ⟨fun _ => e, fun _ => rfl⟩ _ s1
  · exact q false ⟨nofun, fun z => absurd (z w hw) ne⟩ _ s1
end
end FA
end
section
namespace FA
open PySem PySem.Spec PyProof.Rows L2 FM
--IMPORT Spec5
theorem sc_least : FnScope ["machine", "left", "right", "table"] ["machine"] (defScope s_least) := ⟨rfl, rfl, rfl, by decide +kernel, rfl, by decide +kernel, by decide +kernel⟩
section
variable {P : Program} {w : World} {K : PySem.W.Frag} {mg : Str → Option Value} {base : Heap} {C : Addr}
theorem ok_least (D : Df K mg "least" s_least ["machine"]) (Z : Glo mg) (Mc : Mcl K mg C) (C_least_parts : Cal P w K mg base "least_parts" ["left", "right", "table", "letters"] 3 sp_least_parts) (C_init : CalI P w K mg base C ["self", "reads", "writes", "left", "right", "table"] 3 (sp_init C)) :
    Cal P w K mg base "least" ["machine"] 5 (sp_least C) := by
  have nd := sc_least.nd
  refine D.ok sc_least len1 (fun f cdv A outer s H vs Q E hr h => ?_)
  have hu := hu_of hr
  refine ⟨_, (pss_cons (ps_asg (pe_cal C_least_parts (hr.mono (by decide)) (by rfl) (pa_cons (kfld K (pv 0) rfl) (pa_cons (kfld K (pv 0) rfl) (pa_cons (kfld K (pv 0) rfl) (pa_cons (pe_callB klen_str (by rfl) Z.z_len (by decide +kernel) (pa_cons (kfld K (pv 0) rfl) pa_nil)) pa_nil))))) (kpg_tup K (n := 3) rfl (pgs_cons (pg_name (i := 1) nd rfl (Or.inl rfl)) (pgs_cons (pg_name (i := 2) nd rfl (Or.inl rfl)) (pgs_cons (pg_name (i := 3) nd rfl (Or.inl rfl)) pgs_nil)))))
      (pss_one (ps_ret (pe_mk C_init (hr.mono (by decide)) (by rfl) Mc.g (pa_cons (kfld K (pv 0) rfl) (pa_cons (kfld K (pv 0) rfl) (pa_cons (pv 1) (pa_cons (pv 2) (pa_cons (pv 3) pa_nil))))))))), ?_⟩
  obtain ⟨_, rfl, M, ⟨p, dx, l, r, t, rfl, hp, hl, hr', ht⟩, ok, q⟩ := h
  have h5 := ok.k
  refine ⟨_, rfl, p, C, dx, _, l, rfl, hp, Mc.cl, Mc.n3, mf_left _ _ _ _ _, _, rfl, p, C, dx, _, r, rfl, hp, Mc.cl, Mc.n4, mf_right _ _ _ _ _, _, rfl, p, C, dx, _, t, rfl, hp, Mc.cl, Mc.n5, mf_table _ _ _ _ _, _, rfl, p, C, dx, _, _, rfl, hp, Mc.cl, Mc.n1, mf_reads _ _ _ _ _, M.rd, rfl, szl (by omega), ?_⟩
  refine ⟨_, _, _, _, rfl, M.L, M.R, M.T, M.rd.length, M.wr, hl, hr', ht, rfl, ok.wfL, ok.wfR, ok.wfT, ok.pL, ok.pR, ok.bL, ok.bR, h5, fun NL NR NT il v H1 s1 res => ?_⟩
  obtain ⟨z, u1, u2, u3, rfl, hz, r1, r2, r3⟩ := res
  refine ⟨z, _, rfl, SqT.of (offs_some hz).2.2, rfl, _, _, rfl, _, _, rfl, _, _, rfl, rfl, ?_⟩
  have hp1 := s1 _ _ hp
  refine ⟨_, rfl, p, C, dx, _, _, rfl, hp1, Mc.cl, Mc.n1, mf_reads _ _ _ _ _, _, rfl, p, C, dx, _, _, rfl, hp1, Mc.cl, Mc.n2, mf_writes _ _ _ _ _, _, rfl, _, rfl, _, rfl, fun x dx' hx hdx hne => ?_⟩
  have ilm : ILM M ⟨M.rd, M.wr, NL, NR, NT⟩ := ⟨rfl, rfl, il⟩
  have nok := ilm.ok ok
  have s2 : Same H1 (upd (upd H1 dx' (.own x)) x (.ins C dx' [])) := same_upd (same_new hdx) hx
  refine ⟨_, _, _, _, _, _, rfl, x, dx', ⟨M.rd, M.wr, NL, NR, NT⟩, rfl, upd_same, rfl, rfl, mRows _ _ _ _ (offs_le.trans s2) r1, mRows _ _ _ _ (offs_le.trans s2) r2, mTab _ _ _ _ (offs_le.trans s2) r3, nok, fun H3 l' r' t' g hx3 a1 a2 a3 => ⟨rfl, ?_⟩⟩
  have s3 : Same H1 H3 := Same.made hx hdx g
  have cal : Same (offs (upd (upd H1 dx' (.own x)) x (.ins C dx' [])) [] H3) (offs H [] H3) := offs_call (s1.trans s2) (fun d hd => by simp at hd)
  exact q _ ilm _ _ (s1.trans s3) ⟨x, dx', l', r', t', rfl, by rw [offs_get (by simp) (s1.free hx)]; exact hx3, mRows _ _ _ _ cal a1, mRows _ _ _ _ cal a2, mTab _ _ _ _ cal a3⟩
end
end FA
end
section
namespace FA
open PySem PySem.Spec PyProof.Rows L2 FM
--IMPORT Spec7
theorem sc_is_least_paper : FnScope ["machine", "paper", "left", "right", "lefts", "rights", "pairs", "others", "good", "word", "a", "b"] ["machine", "paper"] (defScope s_is_least_paper) := ⟨rfl, rfl, rfl, by decide +kernel, rfl, by decide +kernel, by decide +kernel⟩
section
variable {P : Program} {w : World} {K : PySem.W.Frag} {mg : Str → Option Value} {base : Heap} {C : Addr}
theorem ok_is_least_paper (D : Df K mg "is_least_paper" s_is_least_paper ["machine", "paper"]) (Z : Glo mg) (Mc : Mcl K mg C) (C_state_pairs : Cal P w K mg base "state_pairs" ["count"] 1 sp_state_pairs) (C_left_state : Cal P w K mg base "left_state" ["machine", "word"] 2 (sp_left_state C)) (C_right_state : Cal P w K mg base "right_state" ["machine", "word"] 2 (sp_right_state C)) (C__parts_left : Cal P w K mg base "_parts_left" ["machine", "a", "b", "word"] 4 (sp__parts_left C)) (C__parts_right : Cal P w K mg base "_parts_right" ["machine", "a", "b", "word"] 4 (sp__parts_right C)) :
    Cal P w K mg base "is_least_paper" ["machine", "paper"] 5 (sp_is_least_paper C) := by
  have nd := sc_is_least_paper.nd
  refine D.ok sc_is_least_paper len2 (fun f cdv A outer s H vs Q E hr h => ?_)
  have hu := hu_of hr
  refine ⟨_, (pss_cons (ps_asg (pv 1) (kpg_tup K (n := 4) rfl (pgs_cons (pg_name (i := 2) nd rfl (Or.inl rfl)) (pgs_cons (pg_name (i := 3) nd rfl (Or.inl rfl)) (pgs_cons (pg_name (i := 4) nd rfl (Or.inl rfl)) (pgs_cons (pg_name (i := 5) nd rfl (Or.inl rfl)) pgs_nil))))))
      (pss_cons (ps_set (i := 6) nd rfl (Or.inl rfl) (pe_cal C_state_pairs (hr.mono (by decide)) (by rfl) (pa_cons (pe_callB klen_seq (by rfl) Z.z_len (by decide +kernel) (pa_cons (kfld K (pv 0) rfl) pa_nil)) pa_nil)))
      (pss_cons (ps_set (i := 7) nd rfl (Or.inl rfl) (pe_cal C_state_pairs (hr.mono (by decide)) (by rfl) (pa_cons (pe_callB klen_seq (by rfl) Z.z_len (by decide +kernel) (pa_cons (kfld K (pv 0) rfl) pa_nil)) pa_nil)))
      (pss_cons (ps_if (PW.pt (pw_or (pt_cmpR op_ne (pe_callB klen_seq (by rfl) Z.z_len (by decide +kernel) (pa_cons (pv 2) pa_nil)) (pe_callB klen_seq (by rfl) Z.z_len (by decide +kernel) (pa_cons (kfld K (pv 0) rfl) pa_nil)) (nomark _)) (pw_or1 (pt_cmpR op_ne (pe_callB klen_seq (by rfl) Z.z_len (by decide +kernel) (pa_cons (pv 3) pa_nil)) (pe_callB klen_seq (by rfl) Z.z_len (by decide +kernel) (pa_cons (kfld K (pv 0) rfl) pa_nil)) (nomark _))))) (pss_one (ps_ret pe_bl)) pss_nil)
      (pss_cons (ps_if (PW.pt (pw_or (pt_cmpR op_ne (pe_callB klen_seq (by rfl) Z.z_len (by decide +kernel) (pa_cons (pv 4) pa_nil)) (pe_callB klen_seq (by rfl) Z.z_len (by decide +kernel) (pa_cons (pv 6) pa_nil)) (nomark _)) (pw_or1 (pt_cmpR op_ne (pe_callB klen_seq (by rfl) Z.z_len (by decide +kernel) (pa_cons (pv 5) pa_nil)) (pe_callB klen_seq (by rfl) Z.z_len (by decide +kernel) (pa_cons (pv 7) pa_nil)) (nomark _))))) (pss_one (ps_ret pe_bl)) pss_nil)
      (pss_cons (ps_if (pt_cmpR (kneD K hr.units) (pe_lc (own := [("word", 9)]) (tt := tYes) rfl nd (kpi_list K (pv 2)) (blkOk_by (by kernel_rfl)) (fun _ _ _ _ _ => (pg_name (i := 9) nd rfl (Or.inl rfl))) (fun _ _ _ _ _ => pts_nil) (fun _ _ _ _ _ => (pe_cal C_left_state (hr.mono (by decide)) (by rfl) (pa_cons (pv 0) (pa_cons (pv 9) pa_nil))))) (pe_listRg rfl (by rfl) Z.z_list (prg_1 (by rfl) Z.z_range (pe_callB klen_seq (by rfl) Z.z_len (by decide +kernel) (pa_cons (pv 2) pa_nil)))) (nomark _)) (pss_one (ps_ret pe_bl)) pss_nil)
      (pss_cons (ps_if (pt_cmpR (kneD K hr.units) (pe_lc (own := [("word", 9)]) (tt := tYes) rfl nd (kpi_list K (pv 3)) (blkOk_by (by kernel_rfl)) (fun _ _ _ _ _ => (pg_name (i := 9) nd rfl (Or.inl rfl))) (fun _ _ _ _ _ => pts_nil) (fun _ _ _ _ _ => (pe_cal C_right_state (hr.mono (by decide)) (by rfl) (pa_cons (pv 0) (pa_cons (pv 9) pa_nil))))) (pe_listRg rfl (by rfl) Z.z_list (prg_1 (by rfl) Z.z_range (pe_callB klen_seq (by rfl) Z.z_len (by decide +kernel) (pa_cons (pv 3) pa_nil)))) (nomark _)) (pss_one (ps_ret pe_bl)) pss_nil)
      (pss_cons (ps_setLc (i := 8) (own := [("word", 9), ("a", 10), ("b", 11)]) (tt := tYes) rfl nd rfl rfl (sw_true rfl rfl rfl (by kernel_rfl)) (kpi_zip K (by rfl) Z.z_zip (pa_cons (pv 6) (pa_cons (pv 4) pa_nil))) (blkOk_by (by kernel_rfl)) (fun _ _ _ _ _ => (kpg_tup K (n := 2) rfl (pgs_cons (kpg_tup K (n := 2) rfl (pgs_cons (pg_name (i := 10) nd rfl (Or.inl rfl)) (pgs_cons (pg_name (i := 11) nd rfl (Or.inl rfl)) pgs_nil))) (pgs_cons (pg_name (i := 9) nd rfl (Or.inl rfl)) pgs_nil)))) (fun _ _ _ _ _ => pts_nil) (fun _ _ _ _ _ => (pe_cal C__parts_left (hr.mono (by decide)) (by rfl) (pa_cons (pv 0) (pa_cons (pv 10) (pa_cons (pv 11) (pa_cons (pv 9) pa_nil)))))))
      (pss_cons (ps_expr (kbm K PySem.F.plainAttrs_list PySem.F.slot_list_extend PySem.F.type_list_extend mt_extend (pv 8) (pa_cons (pe_lc (own := [("word", 9), ("a", 10), ("b", 11)]) (tt := tYes) rfl nd (kpi_zip K (by rfl) Z.z_zip (pa_cons (pv 7) (pa_cons (pv 5) pa_nil))) (blkOk_by (by kernel_rfl)) (fun _ _ _ _ _ => (kpg_tup K (n := 2) rfl (pgs_cons (kpg_tup K (n := 2) rfl (pgs_cons (pg_name (i := 10) nd rfl (Or.inl rfl)) (pgs_cons (pg_name (i := 11) nd rfl (Or.inl rfl)) pgs_nil))) (pgs_cons (pg_name (i := 9) nd rfl (Or.inl rfl)) pgs_nil)))) (fun _ _ _ _ _ => pts_nil) (fun _ _ _ _ _ => (pe_cal C__parts_right (hr.mono (by decide)) (by rfl) (pa_cons (pv 0) (pa_cons (pv 10) (pa_cons (pv 11) (pa_cons (pv 9) pa_nil))))))) pa_nil)))
      (pss_one (ps_ret (pe_callB (kall rfl) (by rfl) Z.z_all (by decide +kernel) (pa_cons (pv 8) pa_nil))))))))))))), ?_⟩
  obtain ⟨_, _, rfl, M, pp, hM, ok, ⟨pa, u1, u2, u3, u4, rfl, hpa, h1, h2, h3, h4⟩, po, q⟩ := h
  obtain ⟨m1, dx1, l1, r1, t1, rfl, hm1, hl1, hr1, ht1⟩ := id hM
  obtain ⟨la, lvs, rfl, hla, pla⟩ := id hl1
  obtain ⟨ra, rvs, rfl, hra, pra⟩ := id hr1
  have bL := ok.bL
  have bR := ok.bR
  have kl := pd_len pla
  have kr := pd_len pra
  obtain ⟨a1, vs1, rfl, ha1, p1⟩ := id h1
  obtain ⟨a2, vs2, rfl, ha2, p2⟩ := id h2
  obtain ⟨a3, vs3, rfl, ha3, p3⟩ := id h3
  obtain ⟨a4, vs4, rfl, ha4, p4⟩ := id h4
  have k1 : vs1.length = M.L.length := by rw [pd_len p1, po.w1.len]
  have k2 : vs2.length = M.R.length := by rw [pd_len p2, po.w2.len]
  have k3 : vs3.length = (prs M.L.length).length := by rw [pd_len p3, po.d1.len]
  have k4 : vs4.length = (prs M.R.length).length := by rw [pd_len p4, po.d2.len]
  have pL := prs_len _ bL
  have pR := prs_len _ bR
  refine ⟨_, rfl, pa, _, rfl, SqT.of hpa, rfl, _, _, rfl, _, _, rfl, _, _, rfl, _, _, rfl, rfl, ?_⟩
  refine ⟨_, rfl, m1, C, dx1, _, _, rfl, hm1, Mc.cl, Mc.n3, mf_left _ _ _ _ _, la, lvs, rfl, .inl hla, _, rfl, M.L.length, by rw [kl], bL, fun v H1 s1 resL => ?_⟩
  refine ⟨_, rfl, m1, C, dx1, _, _, rfl, s1 _ _ hm1, Mc.cl, Mc.n4, mf_right _ _ _ _ _, ra, rvs, rfl, .inl (s1 _ _ hra), _, rfl, M.R.length, by rw [kr], bR, fun v' H2 s2 resR => ?_⟩
  have s12 := s1.trans s2
  obtain ⟨xa, xvs, rfl, hxa, px⟩ := mL mPr _ _ _ _ (offs_le.trans s2) resL
  obtain ⟨ya, yvs, rfl, hya, py⟩ := mL mPr _ _ _ _ offs_le resR
  have kx := pd_len px
  have ky := pd_len py
  refine ⟨_, rfl, a1, vs1, rfl, .inl (s12 _ _ ha1), _, rfl, m1, C, dx1, _, _, rfl, s12 _ _ hm1, Mc.cl, Mc.n3, mf_left _ _ _ _ _, la, lvs, rfl, .inl (s12 _ _ hla), rfl, _, rfl, ?_⟩
  refine ifF (by rw [k1, kl]; simp) ?_
  refine ⟨_, rfl, a2, vs2, rfl, .inl (s12 _ _ ha2), _, rfl, m1, C, dx1, _, _, rfl, s12 _ _ hm1, Mc.cl, Mc.n4, mf_right _ _ _ _ _, ra, rvs, rfl, .inl (s12 _ _ hra), rfl, _, rfl, ?_⟩
  refine ifF (by rw [k2, kr]; simp) ?_
  refine ⟨_, rfl, a3, vs3, rfl, .inl (s12 _ _ ha3), _, rfl, xa, xvs, rfl, .inl hxa, rfl, _, rfl, ?_⟩
  refine ifF (by rw [k3, kx]; simp) ?_
  refine ⟨_, rfl, a4, vs4, rfl, .inl (s12 _ _ ha4), _, rfl, ya, yvs, rfl, .inl hya, rfl, _, rfl, ?_⟩
  refine ifF (by rw [k4, ky]; simp) ?_
  -- the words of the left states
  refine ⟨_, rfl, a1, rfl, ⟨vs1, SqL.of (s12 _ _ ha1)⟩, fun D hD => ?_⟩
  refine lcL (R := rI) (B := H2) mI (List.range M.L.length) (Same.refl _) hD (SqL.of (s12 _ _ ha1)) (by rw [List.length_range, k1]) (szl (by rw [List.length_range]; omega)) ?_ ?_
  · intro i x b H3 hx hb s3 nD k hk
    obtain ⟨s, hs, rfl⟩ := pd_get p1 hx
    obtain ⟨w, hw, hwl, rfl, hst⟩ := po.w1.at_ i s hs
    have hil : i < M.L.length := by have := (List.getElem?_eq_some_iff.mp hb).1; simpa using this
    have hbe : b = i := by rw [List.getElem?_range hil] at hb; exact (Option.some.inj hb).symm
    subst hbe
    refine ⟨wp1, _, rfl, _, rfl, _, _, rfl, M, w, mM _ _ _ _ (s12.trans s3) hM, ok, rfl, hw, hwl, fun H4 s4 => ?_⟩
    refine hk _ _ s4 ?_
    rw [hst]; rfl
  intro H3 s3 res3
  refine ⟨_, rfl, a1, vs1, rfl, .inl (s3 _ _ (s12 _ _ ha1)), (vs1.length : Nat), rfl, RgOk.of_le (by omega) (by omega) (by omega) (by omega), fun z hz => ?_⟩
  have s4 : Same H3 (upd H3 z (.lst (rgV 0 (vs1.length : Nat)))) := same_new hz
  have hrg : ∀ n : Nat, rgV 0 (n : Nat) = (List.range n).map iv := fun n => by
    unfold rgV
    rw [show ((n : Int) - 0).toNat = n by omega]
    exact List.map_congr_left fun i _ => by show V.int (0 + (i : Int)) = V.int (i : Int); rw [Int.zero_add]
  refine ⟨dLi dI (List.range M.L.length), dLi dI (List.range M.L.length), dr_L dr_I K _ _ _ (mL mI _ _ _ _ (offs_le.trans s4) res3), dr_L dr_I K _ _ _ ⟨z, _, rfl, upd_same, by rw [hrg, k1]; exact ints_pd _⟩, (sh_L (n := 0) fun x _ => sh_I x).ok (by decide), (sh_L (n := 0) fun x _ => sh_I x).ok (by decide), _, rfl, ?_⟩
  refine ifF (by rw [(de_L de_I _ _).mpr rfl]; rfl) ?_
  have s24 := s3.trans s4
  have s14 := s12.trans s24
  generalize hH4 : upd H3 z (.lst (rgV 0 (vs1.length : Nat))) = H4 at s4 s24 s14
  clear hH4
  -- of the right states
  refine ⟨_, rfl, a2, rfl, ⟨vs2, SqL.of (s14 _ _ ha2)⟩, fun D2 hD2 => ?_⟩
  refine lcL (R := rI) (B := H4) mI (List.range M.R.length) (Same.refl _) hD2 (SqL.of (s14 _ _ ha2)) (by rw [List.length_range, k2]) (szl (by rw [List.length_range]; omega)) ?_ ?_
  · intro i x b H5 hx hb s5 nD k hk
    obtain ⟨s, hs, rfl⟩ := pd_get p2 hx
    obtain ⟨w, hw, hwl, rfl, hst⟩ := po.w2.at_ i s hs
    have hil : i < M.R.length := by have := (List.getElem?_eq_some_iff.mp hb).1; simpa using this
    have hbe : b = i := by rw [List.getElem?_range hil] at hb; exact (Option.some.inj hb).symm
    subst hbe
    refine ⟨wp1, _, rfl, _, rfl, _, _, rfl, M, w, mM _ _ _ _ (s14.trans s5) hM, ok, rfl, hw, hwl, fun H6 s6 => ?_⟩
    refine hk _ _ s6 ?_
    rw [hst]; rfl
  intro H5 s5 res5
  refine ⟨_, rfl, a2, vs2, rfl, .inl (s5 _ _ (s14 _ _ ha2)), (vs2.length : Nat), rfl, RgOk.of_le (by omega) (by omega) (by omega) (by omega), fun z2 hz2 => ?_⟩
  have s6 : Same H5 (upd H5 z2 (.lst (rgV 0 (vs2.length : Nat)))) := same_new hz2
  refine ⟨dLi dI (List.range M.R.length), dLi dI (List.range M.R.length), dr_L dr_I K _ _ _ (mL mI _ _ _ _ (offs_le.trans s6) res5), dr_L dr_I K _ _ _ ⟨z2, _, rfl, upd_same, by rw [hrg, k2]; exact ints_pd _⟩, (sh_L (n := 0) fun x _ => sh_I x).ok (by decide), (sh_L (n := 0) fun x _ => sh_I x).ok (by decide), _, rfl, ?_⟩
  refine ifF (by rw [(de_L de_I _ _).mpr rfl]; rfl) ?_
  have s26 := s24.trans (s5.trans s6)
  have s16 := s12.trans s26
  generalize hH6 : upd H5 z2 (.lst (rgV 0 (vs2.length : Nat))) = H6 at s6 s26 s16
  clear hH6
  -- the separators
  have xa6 := s26 _ _ hxa
  have ya6 := s26 _ _ hya
  refine ⟨_, rfl, _, rfl, xa, a3, xvs, vs3, rfl, SqL.of xa6, SqL.of (s16 _ _ ha3), fun D3 hD3 => ?_⟩
  have wk := walk_zip (K := K) (a := xa) (b := a3) (xs := xvs) (ys := vs3) (n := (prs M.L.length).length) (by omega)
  refine lcG (R := rBl) (B := H6) mB (List.replicate (prs M.L.length).length true) (Same.refl H6) hD3 (n := (prs M.L.length).length) (by simp) (szl (by rw [List.length_replicate]; omega)) (fun i Hy hi sy => wk.goes i Hy hi ⟨SqL.of (sy _ _ xa6), SqL.of (sy _ _ (s16 _ _ ha3))⟩) (fun Hy sy => wk.stops Hy ⟨SqL.of (sy _ _ xa6), SqL.of (sy _ _ (s16 _ _ ha3))⟩) ?_ ?_
  · intro j y b Hy H0 hj hb sy nD hyl k hk
    obtain ⟨T, u, u', rfl, hT, rfl, ex, ey⟩ := wk.yields j Hy y H0 hj ⟨SqL.of (sy _ _ xa6), SqL.of (sy _ _ (s16 _ _ ha3))⟩ hyl
    replace ex : xvs[j]? = some u := ex
    replace ey : vs3[j]? = some u' := ey
    have hbe : b = true := (List.mem_replicate.mp (List.mem_of_getElem? hb)).2
    subst hbe
    obtain ⟨p, hp, tp, _, _, rfl, htp, rfl, rfl⟩ := pd_get px ex
    obtain ⟨s, hs, rfl⟩ := pd_get p3 ey
    obtain ⟨w, hw, hwl, rfl, hne⟩ := po.d1.at_ j p s hp hs
    have hpm := prs_mem (List.mem_of_getElem? hp)
    have sT : Same Hy (upd Hy T (.tup [.ref tp, .str (spell M.rd w)])) := same_new hT
    refine ⟨T, _, rfl, SqT.of upd_same, rfl, _, _, rfl, ⟨tp, _, rfl, SqT.of ((sy.trans sT) _ _ (s26 _ _ htp)), rfl, _, _, rfl, _, _, rfl, rfl, ?_⟩⟩
    refine ⟨_, _, rfl, rfl, wp3, _, rfl, _, rfl, _, rfl, _, rfl, _, _, _, _, rfl, M, p.1, p.2, w, mM _ _ _ _ (s16.trans (sy.trans sT)) hM, ok, rfl, rfl, by omega, hpm.2, rfl, hw, hwl, hne, fun Hz sz' => ?_⟩
    exact hk _ _ (sT.trans sz') rfl
  intro H7 s7 res7
  obtain ⟨_, gvs, e7, hg7, pg7⟩ := res7
  cases e7
  have s17 := s16.trans s7
  have gbl := pd_bls pg7
  have hg := (offs_some hg7).2.2
  refine ⟨_, rfl, .inl ⟨rfl, _, SqL.of hg⟩, _, rfl, _, rfl, ya, a4, yvs, vs4, rfl, SqL.of (s7 _ _ ya6), SqL.of (s17 _ _ ha4), fun D4 hD4 => ?_⟩
  have wk2 := walk_zip (K := K) (a := ya) (b := a4) (xs := yvs) (ys := vs4) (n := (prs M.R.length).length) (by omega)
  refine lcG (R := rBl) (B := H7) mB (List.replicate (prs M.R.length).length true) (Same.refl H7) hD4 (n := (prs M.R.length).length) (by simp) (szl (by rw [List.length_replicate]; omega)) (fun i Hy hi sy => wk2.goes i Hy hi ⟨SqL.of (sy _ _ (s7 _ _ ya6)), SqL.of (sy _ _ (s17 _ _ ha4))⟩) (fun Hy sy => wk2.stops Hy ⟨SqL.of (sy _ _ (s7 _ _ ya6)), SqL.of (sy _ _ (s17 _ _ ha4))⟩) ?_ ?_
  · intro j y b Hy H0 hj hb sy nD hyl k hk
    obtain ⟨T, u, u', rfl, hT, rfl, ex, ey⟩ := wk2.yields j Hy y H0 hj ⟨SqL.of (sy _ _ (s7 _ _ ya6)), SqL.of (sy _ _ (s17 _ _ ha4))⟩ hyl
    replace ex : yvs[j]? = some u := ex
    replace ey : vs4[j]? = some u' := ey
    have hbe : b = true := (List.mem_replicate.mp (List.mem_of_getElem? hb)).2
    subst hbe
    obtain ⟨p, hp, tp, _, _, rfl, htp, rfl, rfl⟩ := pd_get py ex
    obtain ⟨s, hs, rfl⟩ := pd_get p4 ey
    obtain ⟨w, hw, hwl, rfl, hne⟩ := po.d2.at_ j p s hp hs
    have hpm := prs_mem (List.mem_of_getElem? hp)
    have sT : Same Hy (upd Hy T (.tup [.ref tp, .str (spell M.rd w)])) := same_new hT
    refine ⟨T, _, rfl, SqT.of upd_same, rfl, _, _, rfl, ⟨tp, _, rfl, SqT.of ((s7.trans (sy.trans sT)) _ _ (s26 _ _ htp)), rfl, _, _, rfl, _, _, rfl, rfl, ?_⟩⟩
    refine ⟨_, _, rfl, rfl, wp3, _, rfl, _, rfl, _, rfl, _, rfl, _, _, _, _, rfl, M, p.1, p.2, w, mM _ _ _ _ (s17.trans (sy.trans sT)) hM, ok, rfl, rfl, by omega, hpm.2, rfl, hw, hwl, hne, fun Hz sz' => ?_⟩
    exact hk _ _ (sT.trans sz') rfl
  intro H8 s8 res8
  obtain ⟨_, fvs, e8, hf8, pf8⟩ := res8
  cases e8
  have fbl := pd_bls pf8
  have gl : gvs.length = (prs M.L.length).length := by rw [pd_len pg7, List.length_replicate]
  have fl : fvs.length = (prs M.R.length).length := by rw [pd_len pf8, List.length_replicate]
  refine ⟨D3, D4, gvs, fvs, rfl, rfl, s8 _ _ hg, (offs_some hf8).2.2, szl (by omega), ?_⟩
  refine ⟨_, rfl, D3, List.replicate (prs M.L.length).length true ++ List.replicate (prs M.R.length).length true, rfl, by rw [upd_same, gbl, fbl, ← List.map_append], ?_⟩
  have : (List.replicate (prs M.L.length).length true ++ List.replicate (prs M.R.length).length true).all id = true := by rw [List.all_append, all_true, all_true]; rfl
  rw [this]
  have hHD : H D3 = none := s16.free hD3
  exact q _ (same_upd (s17.trans s8) hHD)
end
end FA
end
section
namespace FA
open PySem PySem.Spec PyProof.Rows L2 FM
--IMPORT Spec7
theorem sc_same_paper : FnScope ["one", "two", "left", "right", "pair", "word"] ["one", "two"] (defScope s_same_paper) := ⟨rfl, rfl, rfl, by decide +kernel, rfl, by decide +kernel, by decide +kernel⟩
section
variable {P : Program} {w : World} {K : PySem.W.Frag} {mg : Str → Option Value} {base : Heap} {C : Addr}
theorem ok_same_paper (D : Df K mg "same_paper" s_same_paper ["one", "two"]) (Z : Glo mg) (Mc : Mcl K mg C) (C_is_same : Cal P w K mg base "is_same" ["one", "two"] 4 (sp_is_same C)) (C_pairs_behind : Cal P w K mg base "pairs_behind" ["one", "two", "start"] 1 (sp_pairs_behind C)) (C_pairs_in_front : Cal P w K mg base "pairs_in_front" ["one", "two", "start"] 1 (sp_pairs_in_front C)) :
    Cal P w K mg base "same_paper" ["one", "two"] 5 (sp_same_paper C) := by
  have nd := sc_same_paper.nd
  refine D.ok sc_same_paper len2 (fun f cdv A outer s H vs Q E hr h => ?_)
  have hu := hu_of hr
  refine ⟨_, (pss_cons (ps_if (pt_not (pt_val (pe_cal C_is_same (hr.mono (by decide)) (by rfl) (pa_cons (pv 0) (pa_cons (pv 1) pa_nil))))) (pss_one (ps_ret pe_non)) pss_nil)
      (pss_cons (ps_setLc (i := 2) (own := [("pair", 4), ("word", 5)]) (tt := tYes) rfl nd rfl rfl (sw_true rfl rfl rfl (by kernel_rfl)) (kpi_list K (pe_cal C_pairs_behind (hr.mono (by decide)) (by rfl) (pa_cons (pv 0) (pa_cons (pv 1) (pa_cons (pe_tup (pa_cons pe_int (pa_cons pe_int pa_nil))) pa_nil))))) (blkOk_by (by kernel_rfl)) (fun _ _ _ _ _ => (kpg_tup K (n := 2) rfl (pgs_cons (pg_name (i := 4) nd rfl (Or.inl rfl)) (pgs_cons (pg_name (i := 5) nd rfl (Or.inl rfl)) pgs_nil)))) (fun _ _ _ _ _ => pts_nil) (fun _ _ _ _ _ => (pv 4)))
      (pss_cons (ps_setLc (i := 3) (own := [("pair", 4), ("word", 5)]) (tt := tYes) rfl nd rfl rfl (sw_true rfl rfl rfl (by kernel_rfl)) (kpi_list K (pe_cal C_pairs_in_front (hr.mono (by decide)) (by rfl) (pa_cons (pv 0) (pa_cons (pv 1) (pa_cons (pe_tup (pa_cons pe_int (pa_cons pe_int pa_nil))) pa_nil))))) (blkOk_by (by kernel_rfl)) (fun _ _ _ _ _ => (kpg_tup K (n := 2) rfl (pgs_cons (pg_name (i := 4) nd rfl (Or.inl rfl)) (pgs_cons (pg_name (i := 5) nd rfl (Or.inl rfl)) pgs_nil)))) (fun _ _ _ _ _ => pts_nil) (fun _ _ _ _ _ => (pv 4)))
      (pss_one (ps_ret (pe_tup (pa_cons (pv 2) (pa_cons (pv 3) pa_nil)))))))), ?_⟩
  obtain ⟨_, _, rfl, M, N, hM, hN, ok, ok2, hrd, hwr, q1, q2⟩ := h
  by_cases hs : SameM M N
  rotate_left
  · refine ⟨_, rfl, _, rfl, _, _, rfl, M, N, hM, hN, ok, ok2, hrd, fun t ht H1 s1 => ?_⟩
    have : t = false := by
      cases t with
      | false => rfl
      | true => exact absurd (ht.mp rfl) hs
    subst this
    refine ⟨false, rfl, ?_⟩
    refine iteT ?_
    exact q1 hs _ s1
  have q := q2 hs
  refine ⟨_, rfl, _, rfl, _, _, rfl, M, N, hM, hN, ok, ok2, hrd, fun t ht H1 s1 => ?_⟩
  have : t = true := ht.mpr hs
  subst this
  refine ⟨true, rfl, ?_⟩
  refine iteF ?_
  refine ⟨_, rfl, _, rfl, by show 2 ≤ sizeLine; decide, fun z hz => ?_⟩
  have s2 : Same H1 (upd H1 z (.tup [.int 0, .int 0])) := same_new hz
  have s12 := s1.trans s2
  refine ⟨_, _, _, rfl, M, N, (0, 0), mM _ _ _ _ s12 hM, mM _ _ _ _ s12 hN, ok, ok2, hrd, ⟨z, _, _, rfl, upd_same, rfl, rfl⟩, ok.pL, ok2.pL, fun fs ff v H3 s3 res => ?_⟩
  have r1 := res H [] s12 (fun d hd => by cases hd) ⟨z, _, _, rfl, by rw [offs_get (by simp) (s1.free hz)]; exact upd_same, rfl, rfl⟩
  have s13 := s12.trans s3
  obtain ⟨fa, fvs, rfl, hfa, pf⟩ := r1
  have hfa3 := (offs_some hfa).2.2
  have fl := pd_len pf
  have ffl := ff.len
  refine ⟨fa, rfl, ⟨fvs, SqL.of hfa3⟩, fun D hD => ?_⟩
  refine lcL (R := rPr) (B := H) mPr (fs.map (·.1)) s13 hD (SqL.of hfa3) (by rw [List.length_map, fl]) (szl (by rw [List.length_map]; omega)) ?_ ?_
  · intro i x b H4 hx hb s4 nD k hk
    obtain ⟨p, hp, tb, u, w2, rfl, htb, hu2, _⟩ := pd_get pf hx
    have : b = p.1 := by rw [List.getElem?_map, hp] at hb; exact (Option.some.inj hb).symm
    subst this
    refine ⟨tb, _, rfl, SqT.of (s4 _ _ (offs_some htb).2.2), rfl, _, _, rfl, _, _, rfl, rfl, wp2, _, rfl, ?_⟩
    refine hk _ _ (Same.refl _) (mPr _ _ _ _ (offs_mono (fun b h _ => h) (fun b hb n => ?_) s4) hu2)
    rw [List.mem_singleton.mp hb] at n
    exact absurd hD n
  intro H4 s4 resL
  have s14 := s13.trans s4
  refine ⟨_, rfl, _, rfl, by show 2 ≤ sizeLine; decide, fun z2 hz2 => ?_⟩
  have s5 : Same H4 (upd H4 z2 (.tup [.int 0, .int 0])) := same_new hz2
  have s15 := s14.trans s5
  replace resL := mL mPr _ _ _ _ (offs_same (B := H) (ds := []) s5) resL
  refine ⟨_, _, _, rfl, M, N, (0, 0), mM _ _ _ _ s15 hM, mM _ _ _ _ s15 hN, ok, ok2, hrd, ⟨z2, _, _, rfl, upd_same, rfl, rfl⟩, ok.pR, ok2.pR, fun gs fg v H6 s6 res6 => ?_⟩
  have r6 := res6 H [] s15 (fun d hd => by cases hd) ⟨z2, _, _, rfl, by rw [offs_get (by simp) (s14.free hz2)]; exact upd_same, rfl, rfl⟩
  have s16 := s15.trans s6
  replace resL := mL mPr _ _ _ _ (offs_same (B := H) (ds := []) s6) resL
  obtain ⟨ga, gvs, rfl, hga, pg⟩ := r6
  have hga6 := (offs_some hga).2.2
  have gl := pd_len pg
  have fgl := fg.len
  refine ⟨ga, rfl, ⟨gvs, SqL.of hga6⟩, fun D2 hD2 => ?_⟩
  refine lcL (R := rPr) (B := H) mPr (gs.map (·.1)) s16 hD2 (SqL.of hga6) (by rw [List.length_map, gl]) (szl (by rw [List.length_map]; omega)) ?_ ?_
  · intro i x b H7 hx hb s7 nD k hk
    obtain ⟨p, hp, tb, u, w2, rfl, htb, hu2, _⟩ := pd_get pg hx
    have : b = p.1 := by rw [List.getElem?_map, hp] at hb; exact (Option.some.inj hb).symm
    subst this
    refine ⟨tb, _, rfl, SqT.of (s7 _ _ (offs_some htb).2.2), rfl, _, _, rfl, _, _, rfl, rfl, wp2, _, rfl, ?_⟩
    refine hk _ _ (Same.refl _) (mPr _ _ _ _ (offs_mono (fun b h _ => h) (fun b hb n => ?_) s7) hu2)
    rw [List.mem_singleton.mp hb] at n
    exact absurd hD2 n
  intro H7 s7 resR
  have s17 := s16.trans s7
  replace resL := mL mPr _ _ _ _ (offs_same (B := H) (ds := []) s7) resL
  refine ⟨_, rfl, _, rfl, by show 2 ≤ sizeLine; decide, fun p hp => ?_⟩
  have s8 : Same H7 (upd H7 p (.tup [.ref D, .ref D2])) := same_new hp
  have wordL : ∀ x ∈ fs.map (·.1), ∃ w, Wd M.rd.length w ∧ stL (at2 M.L) 0 w = x.1 ∧ stL (at2 N.L) 0 w = x.2 ∧ x.1 < M.L.length ∧ x.2 < N.L.length := fun x hx => by
    obtain ⟨y, hy, rfl⟩ := List.mem_map.mp hx
    obtain ⟨h1, h2, h3, h4, _⟩ := ff.wd y hy
    exact ⟨y.2, h1, congrArg Prod.fst h2, congrArg Prod.snd h2, h3, h4⟩
  have wordR : ∀ x ∈ gs.map (·.1), ∃ w, Wd M.rd.length w ∧ stR (at2 M.R) 0 w = x.1 ∧ stR (at2 N.R) 0 w = x.2 ∧ x.1 < M.R.length ∧ x.2 < N.R.length := fun x hx => by
    obtain ⟨y, hy, rfl⟩ := List.mem_map.mp hx
    obtain ⟨h1, h2, h3, h4, _⟩ := fg.wd y hy
    exact ⟨y.2, h1, congrArg Prod.fst h2, congrArg Prod.snd h2, h3, h4⟩
  refine q (fs.map (·.1), gs.map (·.1)) ⟨⟨?_, ?_, ?_, ?_⟩, ⟨?_, ?_, ?_, ?_⟩, ?_⟩ _ _ (s17.trans s8) ⟨p, .ref D, .ref D2, rfl, by rw [offs_get (by simp) (s17.free hp)]; exact upd_same, mL mPr _ _ _ _ (offs_same s8) resL, mL mPr _ _ _ _ (offs_same s8) resR⟩
  · exact ff.cov [] Wd.nil
  · intro x hx
    obtain ⟨w, _, _, _, a, b⟩ := wordL x hx
    exact ⟨a, b⟩
  · intro x hx k hk
    obtain ⟨w, hw, e1, e2, _⟩ := wordL x hx
    have := ff.cov (w ++ [k]) (hw.app (Wd.one hk))
    rw [stL_snoc, stL_snoc, show stL (at2 M.L) (0, 0).1 w = x.1 from e1, show stL (at2 N.L) (0, 0).2 w = x.2 from e2] at this
    exact this
  · rw [List.length_map]; exact ffl
  · exact fg.cov [] Wd.nil
  · intro x hx
    obtain ⟨w, _, _, _, a, b⟩ := wordR x hx
    exact ⟨a, b⟩
  · intro x hx k hk
    obtain ⟨w, hw, e1, e2, _⟩ := wordR x hx
    have := fg.cov (k :: w) (hw.cons hk)
    rw [stR_cons, stR_cons, show stR (at2 M.R) (0, 0).1 w = x.1 from e1, show stR (at2 N.R) (0, 0).2 w = x.2 from e2] at this
    exact this
  · rw [List.length_map]; exact fgl
  · intro x hx y hy
    obtain ⟨w, hw, e1, e2, b1, b2⟩ := wordL x hx
    obtain ⟨w', hw', e1', e2', b1', b2'⟩ := wordR y hy
    have g1 := ok.wfT.good b1 b1'
    have g2 := ok2.wfT.good b2 b2'
    rw [← hrd, ← hwr] at g2
    refine Gd.ext _ _ g1 g2 fun k hk => ?_
    have hf : FSame M.rd.length (at2 M.L) (at2 M.R) (tbM M) (at2 N.L) (at2 N.R) (tbM N) := hs
    have := hf.tab hw hw' hk
    rw [e1, e2, e1', e2'] at this
    exact this
end
end FA
end
section
namespace FA
open PySem PySem.Spec PyProof.Rows L2 FM
--IMPORT SpecM
theorem sc__law_made : FnScope ["_law_m", "_law_row_here"] ["_law_m"] (defScope s__law_made) := ⟨rfl, rfl, rfl, by decide +kernel, rfl, by decide +kernel, by decide +kernel⟩
section
variable {P : Program} {w : World} {K : PySem.W.Frag} {mg : Str → Option Value} {base : Heap} {C : Addr}
theorem ok__law_made (D : Df K mg "_law_made" s__law_made ["_law_m"]) (Z : Glo mg) (Mc : Mcl K mg C) (C_init : CalI P w K mg base C ["self", "reads", "writes", "left", "right", "table"] 3 (sp_init C)) :
    Cal P w K mg base "_law_made" ["_law_m"] 5 (sp__law_made C) := by
  have nd := sc__law_made.nd
  refine D.ok sc__law_made len1 (fun f cdv A outer s H vs Q E hr h => ?_)
  have hu := hu_of hr
  refine ⟨_, (pss_one (ps_ret (pe_mk C_init (hr.mono (by decide)) (by rfl) Mc.g (pa_cons (pe_ix kix_list (pv 0) pe_int (fun _ _ => rfl)) (pa_cons (pe_ix kix_list (pv 0) pe_int (fun _ _ => rfl)) (pa_cons (pe_lc (own := [("_law_row_here", 1)]) (tt := tYes) rfl nd (kpi_list K (pe_ix kix_list (pv 0) pe_int (fun _ _ => rfl))) (blkOk_by (by kernel_rfl)) (fun _ _ _ _ _ => (pg_name (i := 1) nd rfl (Or.inl rfl))) (fun _ _ _ _ _ => pts_nil) (fun _ _ _ _ _ => (pe_callTy klist (by rfl) Z.z_list (by decide +kernel) (pa_cons (pv 1) pa_nil)))) (pa_cons (pe_lc (own := [("_law_row_here", 1)]) (tt := tYes) rfl nd (kpi_list K (pe_ix kix_list (pv 0) pe_int (fun _ _ => rfl))) (blkOk_by (by kernel_rfl)) (fun _ _ _ _ _ => (pg_name (i := 1) nd rfl (Or.inl rfl))) (fun _ _ _ _ _ => pts_nil) (fun _ _ _ _ _ => (pe_callTy klist (by rfl) Z.z_list (by decide +kernel) (pa_cons (pv 1) pa_nil)))) (pa_cons (pe_lc (own := [("_law_row_here", 1)]) (tt := tYes) rfl nd (kpi_list K (pe_ix kix_list (pv 0) pe_int (fun _ _ => rfl))) (blkOk_by (by kernel_rfl)) (fun _ _ _ _ _ => (pg_name (i := 1) nd rfl (Or.inl rfl))) (fun _ _ _ _ _ => pts_nil) (fun _ _ _ _ _ => (pe_callTy klist (by rfl) Z.z_list (by decide +kernel) (pa_cons (pv 1) pa_nil)))) pa_nil)))))))), ?_⟩
  obtain ⟨_, rfl, M, ⟨a, l, r, t, rfl, ha, hl, hr', ht⟩, ok, q⟩ := h
  have bL := ok.bL
  have bR := ok.bR
  obtain ⟨la, lvs, rfl, hla, pl⟩ := id hl
  obtain ⟨ra, rvs, rfl, hra, pr⟩ := id hr'
  obtain ⟨ta, tvs, rfl, hta, pt⟩ := id ht
  refine ⟨_, rfl, a, _, 0, _, rfl, rfl, ha, atI_nat (j := 0) rfl, _, rfl, a, _, 1, _, rfl, rfl, ha, atI_nat (j := 1) rfl, _, rfl, a, _, 2, _, rfl, rfl, ha, atI_nat (j := 2) rfl, la, rfl, ⟨lvs, SqL.of hla⟩, fun D hD => ?_⟩
  refine lcL (R := rL rI) (B := H) (mL mI) M.L (Same.refl H) hD (SqL.of hla) (pd_len pl).symm (szl (by omega)) ?_ ?_
  · intro i x b H1 hx hb s1 nD k hk
    obtain ⟨r0, hr0, rb, ws, rfl, hrb, pws⟩ := pd_get pl hx
    rw [hb] at hr0
    cases hr0
    refine ⟨wp1, _, rfl, rb, ws, rfl, s1 _ _ hrb, fun z hz => ?_⟩
    refine hk _ _ (same_new hz) ⟨z, ws, rfl, ?_, by rw [pd_ints pws]; exact ints_pd _⟩
    rw [offs_get (fun m => nD (by rw [← List.mem_singleton.mp m]; exact hz)) (s1.free hz)]; exact upd_same
  intro H1 s1 res1
  refine ⟨_, rfl, a, _, 3, _, rfl, rfl, s1 _ _ ha, atI_nat (j := 3) rfl, ra, rfl, ⟨rvs, SqL.of (s1 _ _ hra)⟩, fun D2 hD2 => ?_⟩
  refine lcL (R := rL rI) (B := H) (mL mI) M.R s1 hD2 (SqL.of (s1 _ _ hra)) (pd_len pr).symm (szl (by omega)) ?_ ?_
  · intro i x b H2 hx hb s2 nD k hk
    obtain ⟨r0, hr0, rb, ws, rfl, hrb, pws⟩ := pd_get pr hx
    rw [hb] at hr0
    cases hr0
    refine ⟨wp1, _, rfl, rb, ws, rfl, s2 _ _ (s1 _ _ hrb), fun z hz => ?_⟩
    refine hk _ _ (same_new hz) ⟨z, ws, rfl, ?_, by rw [pd_ints pws]; exact ints_pd _⟩
    rw [offs_get (fun m => nD (by rw [← List.mem_singleton.mp m]; exact hz)) ((s1.trans s2).free hz)]; exact upd_same
  intro H2 s2 res2
  have s02 := s1.trans s2
  refine ⟨_, rfl, a, _, 4, _, rfl, rfl, s02 _ _ ha, atI_nat (j := 4) rfl, ta, rfl, ⟨tvs, SqL.of (s02 _ _ hta)⟩, fun D3 hD3 => ?_⟩
  refine lcL (R := rL rS) (B := H) (mL mS) M.T s02 hD3 (SqL.of (s02 _ _ hta)) (pd_len pt).symm (szl (by rw [ok.wfT.len]; omega)) ?_ ?_
  · intro i x b H3 hx hb s3 nD k hk
    obtain ⟨r0, hr0, rb, ws, rfl, hrb, pws⟩ := pd_get pt hx
    rw [hb] at hr0
    cases hr0
    refine ⟨wp1, _, rfl, rb, ws, rfl, s3 _ _ (s02 _ _ hrb), fun z hz => ?_⟩
    refine hk _ _ (same_new hz) ⟨z, ws, rfl, ?_, by rw [pd_strs pws]; exact strs_pd _⟩
    rw [offs_get (fun m => nD (by rw [← List.mem_singleton.mp m]; exact hz)) ((s02.trans s3).free hz)]; exact upd_same
  intro H3 s3 res3
  have s03 := s02.trans s3
  intro x dx hx hdx hne
  have s4 : Same H3 (upd (upd H3 dx (.own x)) x (.ins C dx [])) := same_upd (same_new hdx) hx
  refine ⟨_, _, _, _, _, _, rfl, x, dx, M, rfl, upd_same, rfl, rfl, mRows _ _ _ _ (offs_le.trans ((s2.trans s3).trans s4)) res1, mRows _ _ _ _ (offs_le.trans (s3.trans s4)) res2, mTab _ _ _ _ (offs_le.trans s4) res3, ok, fun H4 l' r' t' g hx4 a1 a2 a3 => ⟨rfl, ?_⟩⟩
  have s5 : Same H3 H4 := Same.made hx hdx g
  have cal : Same (offs (upd (upd H3 dx (.own x)) x (.ins C dx [])) [] H4) (offs H [] H4) := offs_call (s03.trans s4) (fun d hd => by simp at hd)
  exact q _ _ (s03.trans s5) ⟨x, dx, l', r', t', rfl, by rw [offs_get (by simp) (s03.free hx)]; exact hx4, mRows _ _ _ _ cal a1, mRows _ _ _ _ cal a2, mTab _ _ _ _ cal a3⟩
end
end FA
end
section
namespace FA
open PySem PySem.Spec PyProof.Rows L2 FM
--IMPORT Spec5
theorem sc_counts : FnScope ["machine", "small"] ["machine"] (defScope s_counts) := ⟨rfl, rfl, rfl, by decide +kernel, rfl, by decide +kernel, by decide +kernel⟩
section
variable {P : Program} {w : World} {K : PySem.W.Frag} {mg : Str → Option Value} {base : Heap} {C : Addr}
theorem ok_counts (D : Df K mg "counts" s_counts ["machine"]) (Z : Glo mg) (Mc : Mcl K mg C) (C_least : Cal P w K mg base "least" ["machine"] 5 (sp_least C)) :
    Cal P w K mg base "counts" ["machine"] 6 (sp_counts C) := by
  have nd := sc_counts.nd
  refine D.ok sc_counts len1 (fun f cdv A outer s H vs Q E hr h => ?_)
  have hu := hu_of hr
  refine ⟨_, (pss_cons (ps_set (i := 1) nd rfl (Or.inl rfl) (pe_cal C_least (hr.mono (by decide)) (by rfl) (pa_cons (pv 0) pa_nil)))
      (pss_one (ps_ret (pe_tup (pa_cons (pe_callB klen_seq (by rfl) Z.z_len (by decide +kernel) (pa_cons (kfld K (pv 1) rfl) pa_nil)) (pa_cons (pe_callB klen_seq (by rfl) Z.z_len (by decide +kernel) (pa_cons (kfld K (pv 1) rfl) pa_nil)) pa_nil)))))), ?_⟩
  obtain ⟨_, rfl, M, hM, ok, q⟩ := h
  refine ⟨_, rfl, _, rfl, M, hM, ok, fun N il v H1 s1 res => ?_⟩
  obtain ⟨p, dx, l, r, t, rfl, hp, hl, hr', ht⟩ := res
  obtain ⟨la, lvs, rfl, hla, pl⟩ := hl
  obtain ⟨ra, rvs, rfl, hra, pr⟩ := hr'
  have hp1 := (offs_some hp).2.2
  refine ⟨_, rfl, p, C, dx, _, _, rfl, hp1, Mc.cl, Mc.n3, mf_left _ _ _ _ _, la, lvs, rfl, .inl (offs_some hla).2.2, _, rfl, p, C, dx, _, _, rfl, hp1, Mc.cl, Mc.n4, mf_right _ _ _ _ _, ra, rvs, rfl, .inl (offs_some hra).2.2, by show 2 ≤ sizeLine; decide, fun z hz => ?_⟩
  exact q N il _ _ (s1.trans (same_new hz)) ⟨z, _, _, rfl, by rw [offs_get (by simp) (s1.free hz)]; exact upd_same, by rw [pd_len pl]; rfl, by rw [pd_len pr]; rfl⟩
end
end FA
end
section
namespace FA
open PySem PySem.Spec PyProof.Rows L2 FM
--IMPORT Spec8
theorem sc_least_paper : FnScope ["machine", "left", "right", "a", "b"] ["machine"] (defScope s_least_paper) := ⟨rfl, rfl, rfl, by decide +kernel, rfl, by decide +kernel, by decide +kernel⟩
section
variable {P : Program} {w : World} {K : PySem.W.Frag} {mg : Str → Option Value} {base : Heap} {C : Addr}
theorem ok_least_paper (D : Df K mg "least_paper" s_least_paper ["machine"]) (Z : Glo mg) (Mc : Mcl K mg C) (C_counts : Cal P w K mg base "counts" ["machine"] 6 (sp_counts C)) (C_state_pairs : Cal P w K mg base "state_pairs" ["count"] 1 sp_state_pairs) (C_separator : Cal P w K mg base "separator" ["machine", "side", "one", "two"] 3 (sp_separator C)) (C__words : Cal P w K mg base "_words" ["machine", "found"] 2 (sp__words C)) (C_left_words : Cal P w K mg base "left_words" ["machine"] 2 (sp_left_words C)) (C_right_words : Cal P w K mg base "right_words" ["machine"] 2 (sp_right_words C)) :
    Cal P w K mg base "least_paper" ["machine"] 7 (sp_least_paper C) := by
  have nd := sc_least_paper.nd
  refine D.ok sc_least_paper len1 (fun f cdv A outer s H vs Q E hr h => ?_)
  have hu := hu_of hr
  refine ⟨_, (pss_cons (ps_if (pt_cmpR (kneD K hr.units) (pe_cal C_counts (hr.mono (by decide)) (by rfl) (pa_cons (pv 0) pa_nil)) (pe_tup (pa_cons (pe_callB klen_seq (by rfl) Z.z_len (by decide +kernel) (pa_cons (kfld K (pv 0) rfl) pa_nil)) (pa_cons (pe_callB klen_seq (by rfl) Z.z_len (by decide +kernel) (pa_cons (kfld K (pv 0) rfl) pa_nil)) pa_nil))) (nomark _)) (pss_one (ps_ret pe_non)) pss_nil)
      (pss_cons (ps_setLc (i := 1) (own := [("a", 3), ("b", 4)]) (tt := tYes) rfl nd rfl rfl (sw_true rfl rfl rfl (by kernel_rfl)) (kpi_list K (pe_cal C_state_pairs (hr.mono (by decide)) (by rfl) (pa_cons (pe_callB klen_seq (by rfl) Z.z_len (by decide +kernel) (pa_cons (kfld K (pv 0) rfl) pa_nil)) pa_nil))) (blkOk_by (by kernel_rfl)) (fun _ _ _ _ _ => (kpg_tup K (n := 2) rfl (pgs_cons (pg_name (i := 3) nd rfl (Or.inl rfl)) (pgs_cons (pg_name (i := 4) nd rfl (Or.inl rfl)) pgs_nil)))) (fun _ _ _ _ _ => pts_nil) (fun _ _ _ _ _ => (pe_cal C_separator (hr.mono (by decide)) (by rfl) (pa_cons (pv 0) (pa_cons pe_str (pa_cons (pv 3) (pa_cons (pv 4) pa_nil)))))))
      (pss_cons (ps_setLc (i := 2) (own := [("a", 3), ("b", 4)]) (tt := tYes) rfl nd rfl rfl (sw_true rfl rfl rfl (by kernel_rfl)) (kpi_list K (pe_cal C_state_pairs (hr.mono (by decide)) (by rfl) (pa_cons (pe_callB klen_seq (by rfl) Z.z_len (by decide +kernel) (pa_cons (kfld K (pv 0) rfl) pa_nil)) pa_nil))) (blkOk_by (by kernel_rfl)) (fun _ _ _ _ _ => (kpg_tup K (n := 2) rfl (pgs_cons (pg_name (i := 3) nd rfl (Or.inl rfl)) (pgs_cons (pg_name (i := 4) nd rfl (Or.inl rfl)) pgs_nil)))) (fun _ _ _ _ _ => pts_nil) (fun _ _ _ _ _ => (pe_cal C_separator (hr.mono (by decide)) (by rfl) (pa_cons (pv 0) (pa_cons pe_str (pa_cons (pv 3) (pa_cons (pv 4) pa_nil)))))))
      (pss_one (ps_ret (pe_tup (pa_cons (pe_cal C__words (hr.mono (by decide)) (by rfl) (pa_cons (pv 0) (pa_cons (pe_cal C_left_words (hr.mono (by decide)) (by rfl) (pa_cons (pv 0) pa_nil)) pa_nil))) (pa_cons (pe_cal C__words (hr.mono (by decide)) (by rfl) (pa_cons (pv 0) (pa_cons (pe_cal C_right_words (hr.mono (by decide)) (by rfl) (pa_cons (pv 0) pa_nil)) pa_nil))) (pa_cons (pv 1) (pa_cons (pv 2) pa_nil)))))))))), ?_⟩
  obtain ⟨_, rfl, M0, M, hM, ok0, il, q⟩ := h
  have ok := il.ok ok0
  obtain ⟨m1, dx1, l1, r1, t1, rfl, hm1, hl1, hr1, ht1⟩ := id hM
  obtain ⟨la, lvs, rfl, hla, pla⟩ := id hl1
  obtain ⟨ra, rvs, rfl, hra, pra⟩ := id hr1
  have bL := ok.bL
  have bR := ok.bR
  have kl := pd_len pla
  have kr := pd_len pra
  have pL := prs_len _ bL
  have pR := prs_len _ bR
  have ilM : ILeast M.wr M.rd.length M0.L M0.R M0.T M.L M.R M.T := by rw [il.1, il.2.1]; exact il.2.2
  refine ⟨_, rfl, _, rfl, M, hM, ok, fun N iN v H1 s1 res => ?_⟩
  have again := least_again (Gd.ext (wr := M.wr)) ilM iN.2.2
  rw [show N.L = M.L from again.1, show N.R = M.R from again.2.1] at res
  refine ⟨_, rfl, m1, C, dx1, _, _, rfl, s1 _ _ hm1, Mc.cl, Mc.n3, mf_left _ _ _ _ _, la, lvs, rfl, .inl (s1 _ _ hla), _, rfl, m1, C, dx1, _, _, rfl, s1 _ _ hm1, Mc.cl, Mc.n4, mf_right _ _ _ _ _, ra, rvs, rfl, .inl (s1 _ _ hra), by show 2 ≤ sizeLine; decide, fun z hz => ?_⟩
  have s2 : Same H1 (upd H1 z (.tup [.int lvs.length, .int rvs.length])) := same_new hz
  refine ⟨dPP (M.L.length, M.R.length), dPP (M.L.length, M.R.length), dr_PP K _ _ _ (mPr _ _ _ _ (offs_le.trans s2) res), dr_PP K _ _ (M.L.length, M.R.length) ⟨z, _, _, rfl, upd_same, by rw [kl]; rfl, by rw [kr]; rfl⟩, (sh_PP _).ok (by decide), (sh_PP _).ok (by decide), _, rfl, ?_⟩
  refine ifF (by rw [(de_PP _ _).mpr rfl]; rfl) ?_
  have s12 := s1.trans s2
  generalize hH2 : upd H1 z (.tup [.int lvs.length, .int rvs.length]) = H2 at s2 s12
  clear hH2
  -- left
  refine ⟨_, rfl, m1, C, dx1, _, _, rfl, s12 _ _ hm1, Mc.cl, Mc.n3, mf_left _ _ _ _ _, la, lvs, rfl, .inl (s12 _ _ hla), _, rfl, M.L.length, by rw [kl], bL, fun v3 H3 s3 res3 => ?_⟩
  have s13 := s12.trans s3
  obtain ⟨xa, xvs, rfl, hxa, px⟩ := mL mPr _ _ _ _ offs_le res3
  have kx := pd_len px
  refine ⟨xa, rfl, ⟨xvs, SqL.of hxa⟩, fun D hD => ?_⟩
  refine lcL (R := rSep M id (fun _ => (0, 0))) (B := H) mSep (prs M.L.length) s13 hD (SqL.of hxa) kx.symm (szl (by omega)) ?_ ?_
  · intro i x b H4 hx hb s4 nD k hk
    obtain ⟨p, hp, tp, _, _, rfl, htp, rfl, rfl⟩ := pd_get px hx
    rw [hb] at hp
    cases hp
    have hm := prs_mem (List.mem_of_getElem? hb)
    refine ⟨tp, _, rfl, SqT.of (s4 _ _ htp), rfl, _, _, rfl, _, _, rfl, rfl, wp2, _, rfl, _, rfl, _, rfl, _, _, _, _, rfl, M, b.1, b.2, mM _ _ _ _ (s13.trans s4) hM, ok, rfl, rfl, .inl ⟨rfl, by omega, hm.2, fun v H5 s5 df => ?_⟩⟩
    rcases df with ⟨rfl, e⟩ | ⟨w, h1, h2, h3, h4⟩
    · exact absurd (fun w hw => e w hw) (least_apartL ilM (c := b.1) (d := b.2) (by omega) hm.2 (by omega))
    · exact hk _ _ s5 ⟨w, h1, h2, h3, h4⟩
  intro H4 s4 resL
  have s14 := s13.trans s4
  -- right
  refine ⟨_, rfl, m1, C, dx1, _, _, rfl, s14 _ _ hm1, Mc.cl, Mc.n4, mf_right _ _ _ _ _, ra, rvs, rfl, .inl (s14 _ _ hra), _, rfl, M.R.length, by rw [kr], bR, fun v5 H5 s5 res5 => ?_⟩
  have s15 := s14.trans s5
  obtain ⟨ya, yvs, rfl, hya, py⟩ := mL mPr _ _ _ _ offs_le res5
  have ky := pd_len py
  refine ⟨ya, rfl, ⟨yvs, SqL.of hya⟩, fun D2 hD2 => ?_⟩
  refine lcL (R := rSep M (fun _ => (0, 0)) id) (B := H) mSep (prs M.R.length) s15 hD2 (SqL.of hya) ky.symm (szl (by omega)) ?_ ?_
  · intro i x b H6 hx hb s6 nD k hk
    obtain ⟨p, hp, tp, _, _, rfl, htp, rfl, rfl⟩ := pd_get py hx
    rw [hb] at hp
    cases hp
    have hm := prs_mem (List.mem_of_getElem? hb)
    refine ⟨tp, _, rfl, SqT.of (s6 _ _ htp), rfl, _, _, rfl, _, _, rfl, rfl, wp2, _, rfl, _, rfl, _, rfl, _, _, _, _, rfl, M, b.1, b.2, mM _ _ _ _ (s15.trans s6) hM, ok, rfl, rfl, .inr ⟨rfl, by omega, hm.2, fun v H7 s7 df => ?_⟩⟩
    rcases df with ⟨rfl, e⟩ | ⟨w, h1, h2, h3, h4⟩
    · exact absurd (fun w hw => e w hw) (least_apartR ilM (c := b.1) (d := b.2) (by omega) hm.2 (by omega))
    · exact hk _ _ s7 ⟨w, h1, h2, h3, h4⟩
  intro H6 s6 resR
  have s16 := s15.trans s6
  replace resL := mL mSep _ _ _ _ (offs_same (B := H) (ds := []) (s5.trans s6)) resL
  obtain ⟨sl, slok, slr⟩ := sep_ok resL
  obtain ⟨sr, srok, srr⟩ := sep_ok resR
  -- the words
  refine ⟨_, rfl, _, rfl, _, rfl, M, mM _ _ _ _ s16 hM, ok, fun fs ff v7 H7 s7 res7 => ?_⟩
  have s17 := s16.trans s7
  have oL := ordL ff ok.wfL ok.pL
  have cL : ∀ c, c < M.L.length → c ∈ fs.map (·.1) := fun c hc => by
    obtain ⟨p, hp, e⟩ := least_reachL ilM hc
    rw [← e]; exact oL.mem hp
  have lL : fs.length = M.L.length := by
    have := found_all oL.nodup (fun x hx => by obtain ⟨p, hp, rfl⟩ := List.mem_map.mp hx; exact (ff.w p hp).2.2.1) cL
    simpa using this
  refine ⟨_, _, rfl, M, fs, M.L.length, stL (at2 M.L) 0, mM _ _ _ _ s17 hM, ok, mFound _ _ _ _ offs_le res7, bL, oL.nodup, lL, cL, fun p hp => ⟨(ff.w p hp).1, (ff.w p hp).2.1, by have := (ff.w p hp).2.2.2; omega⟩, fun ss hss v8 H8 s8 res8 => ?_⟩
  have s18 := s17.trans s8
  replace res8 := mL mS _ _ _ _ (offs_call (ds := []) s17 (fun d hd => by simp at hd)) res8
  refine ⟨_, rfl, _, rfl, _, rfl, M, mM _ _ _ _ s18 hM, ok, fun gs fg v9 H9 s9 res9 => ?_⟩
  have s19 := s18.trans s9
  have oR := ordR fg ok.wfR ok.pR
  have cR : ∀ c, c < M.R.length → c ∈ gs.map (·.1) := fun c hc => by
    obtain ⟨p, hp, e⟩ := least_reachR ilM hc
    rw [← e]; exact oR.mem hp
  have lR : gs.length = M.R.length := by
    have := found_all oR.nodup (fun x hx => by obtain ⟨p, hp, rfl⟩ := List.mem_map.mp hx; exact (fg.w p hp).2.2.1) cR
    simpa using this
  refine ⟨_, _, rfl, M, gs, M.R.length, stR (at2 M.R) 0, mM _ _ _ _ s19 hM, ok, mFound _ _ _ _ offs_le res9, bR, oR.nodup, lR, cR, fun p hp => ⟨(fg.w p hp).1, (fg.w p hp).2.1, by have := (fg.w p hp).2.2.2; omega⟩, fun ts hts v10 H10 s10 res10 => ?_⟩
  have s110 := s19.trans s10
  replace res10 := mL mS _ _ _ _ (offs_call (ds := []) s19 (fun d hd => by simp at hd)) res10
  replace res8 := mL mS _ _ _ _ (offs_same (B := H) (ds := []) (s9.trans s10)) res8
  refine ⟨_, rfl, _, rfl, by show 4 ≤ sizeLine; decide, fun p hp => ?_⟩
  have s11 : Same H10 (upd H10 p (.tup [v8, v10, .ref D, .ref D2])) := same_new hp
  have s6e : Same (offs H [] H6) (offs H [] (upd H10 p (.tup [v8, v10, .ref D, .ref D2]))) := offs_same (s7.trans (s8.trans (s9.trans (s10.trans s11))))
  have nL := slr _ s6e
  have nR := srr _ s6e
  exact q ⟨ss, ts, sl, sr⟩ ⟨hss, hts, slok, srok⟩ _ _ (s110.trans s11) ⟨p, _, _, _, _, rfl, by rw [offs_get (by simp) (s110.free hp)]; exact upd_same, mL mS _ _ _ _ (offs_same s11) res8, mL mS _ _ _ _ (offs_same s11) res10, nL, nR⟩
end
end FA
end
section
namespace FA
open PySem PySem.Spec PyProof.Rows L2 FM
--IMPORT Spec9
theorem sc_law : FnScope ["_law_script", "_law_box", "_law_letters", "_law_outs", "_law_drawn", "_law_k", "_law_m", "_law_made_here", "_law_small", "_law_i", "_law_paper", "_law_same", "_law_word", "_law_one"] ["_law_script"] (defScope s_law) := ⟨rfl, rfl, rfl, by decide +kernel, rfl, by decide +kernel, by decide +kernel⟩
section
variable {P : Program} {w : World} {K : PySem.W.Frag} {mg : Str → Option Value} {base : Heap} {C : Addr}
theorem ok_law {f : Addr} {fd : FuncData} (F : FunD K "law" "law" (defArgs s_law) (defBody s_law) (defScope s_law) [] [] f fd) (Z : Glo mg) (Mc : Mcl K mg C) (C__law_row : Cal P w K mg base "_law_row" ["_law_script", "_law_first", "_law_last"] 2 (sp__law_row K)) (C__law_alphabet : Cal P w K mg base "_law_alphabet" ["_law_box", "_law_many"] 2 sp__law_alphabet) (C__law_draw : Cal P w K mg base "_law_draw" ["_law_box", "_law_many"] 1 sp__law_draw) (C__law_machine : Cal P w K mg base "_law_machine" ["_law_box", "_law_ins", "_law_outs", "_law_most"] 3 sp__law_machine) (C__law_blown : Cal P w K mg base "_law_blown" ["_law_box", "_law_m"] 3 sp__law_blown) (C__law_near : Cal P w K mg base "_law_near" ["_law_box", "_law_m"] 2 sp__law_near) (C__law_made : Cal P w K mg base "_law_made" ["_law_m"] 5 (sp__law_made C)) (C_least : Cal P w K mg base "least" ["machine"] 5 (sp_least C)) (C_least_paper : Cal P w K mg base "least_paper" ["machine"] 7 (sp_least_paper C)) (C_is_same : Cal P w K mg base "is_same" ["one", "two"] 4 (sp_is_same C)) (C_is_least_paper : Cal P w K mg base "is_least_paper" ["machine", "paper"] 5 (sp_is_least_paper C)) (C_form : Cal P w K mg base "form" ["machine"] 1 (sp_form C)) (C_difference : Cal P w K mg base "difference" ["one", "two"] 3 (sp_difference C)) (C_same_paper : Cal P w K mg base "same_paper" ["one", "two"] 5 (sp_same_paper C)) (C_is_same_paper : Cal P w K mg base "is_same_paper" ["one", "two", "paper"] 2 (sp_is_same_paper C)) (C_counts : Cal P w K mg base "counts" ["machine"] 6 (sp_counts C)) (C_run : Cal P w K mg base "run" ["machine", "word"] 4 (sp_run C)) :
    FnOk P w K mg base CX0 8 f fd ["_law_script"] (sp_law K) := by
  have nd := sc_law.nd
  refine F.ok sc_law len_law (fun cdv A outer s H vs Q E hr h => ?_)
  have hu := hu_of hr
  refine ⟨_, PSs.nox (pss_cons (ps_set (i := 1) nd rfl (Or.inl rfl) (pe_lst (pa_cons (pe_cal C__law_row (hr.mono (by decide)) (by rfl) (pa_cons (pv 0) (pa_cons pe_int (pa_cons pe_int pa_nil)))) (pa_cons pe_int pa_nil))))
      (pss_cons (ps_set (i := 2) nd rfl (Or.inl rfl) (pe_cal C__law_alphabet (hr.mono (by decide)) (by rfl) (pa_cons (pv 1) (pa_cons (pe_op op_add pe_int (pe_cal C__law_draw (hr.mono (by decide)) (by rfl) (pa_cons (pv 1) (pa_cons pe_int pa_nil)))) pa_nil))))
      (pss_cons (ps_set (i := 3) nd rfl (Or.inl rfl) (pe_cal C__law_alphabet (hr.mono (by decide)) (by rfl) (pa_cons (pv 1) (pa_cons (pe_op op_add pe_int (pe_cal C__law_draw (hr.mono (by decide)) (by rfl) (pa_cons (pv 1) (pa_cons pe_int pa_nil)))) pa_nil))))
      (pss_cons (ps_set (i := 4) nd rfl (Or.inl rfl) (pe_lst pa_nil))
      (pss_cons (ps_for PassesOwn.never rfl (pi_range1 (by rfl) Z.z_range (pa_cons pe_int pa_nil)) (pg_name (i := 5) nd rfl (Or.inl rfl)) (pss_cons (ps_set (i := 6) nd rfl (Or.inl rfl) (pe_cal C__law_machine (hr.mono (by decide)) (by rfl) (pa_cons (pv 1) (pa_cons (pv 2) (pa_cons (pv 3) (pa_cons pe_int pa_nil))))))
        (pss_one (ps_set (i := 4) nd rfl (Or.inl rfl) (pe_op op_cat (pv 4) (pe_lst (pa_cons (pv 6) (pa_cons (pe_cal C__law_blown (hr.mono (by decide)) (by rfl) (pa_cons (pv 1) (pa_cons (pv 6) pa_nil))) (pa_cons (pe_cal C__law_near (hr.mono (by decide)) (by rfl) (pa_cons (pv 1) (pa_cons (pv 6) pa_nil))) pa_nil)))))))))
      (pss_cons (ps_setLc (i := 7) (own := [("_law_m", 6)]) (tt := tYes) rfl nd rfl rfl (sw_true rfl rfl rfl (by kernel_rfl)) (kpi_list K (pv 4)) (blkOk_by (by kernel_rfl)) (fun _ _ _ _ _ => (pg_name (i := 6) nd rfl (Or.inl rfl))) (fun _ _ _ _ _ => pts_nil) (fun _ _ _ _ _ => (pe_cal C__law_made (hr.mono (by decide)) (by rfl) (pa_cons (pv 6) pa_nil))))
      (pss_cons (ps_setLc (i := 8) (own := [("_law_one", 13)]) (tt := tYes) rfl nd rfl rfl (sw_true rfl rfl rfl (by kernel_rfl)) (kpi_list K (pv 7)) (blkOk_by (by kernel_rfl)) (fun _ _ _ _ _ => (pg_name (i := 13) nd rfl (Or.inl rfl))) (fun _ _ _ _ _ => pts_nil) (fun _ _ _ _ _ => (pe_cal C_least (hr.mono (by decide)) (by rfl) (pa_cons (pv 13) pa_nil))))
      (pss_cons (ps_for PassesOwn.never rfl (pi_range1 (by rfl) Z.z_range (pa_cons (pe_callB klen_seq (by rfl) Z.z_len (by decide +kernel) (pa_cons (pv 7) pa_nil)) pa_nil)) (pg_name (i := 9) nd rfl (Or.inl rfl)) (pss_cons (ps_set (i := 10) nd rfl (Or.inl rfl) (pe_cal C_least_paper (hr.mono (by decide)) (by rfl) (pa_cons (pe_ix kix_list (pv 8) (pv 9) (fun _ _ => rfl)) pa_nil)))
        (pss_cons (ps_if (PW.pt (pw_or (pt_cmp (pc_isN (pv 10))) (pw_or (pt_cmpR op_notBl (pe_cal C_is_least_paper (hr.mono (by decide)) (by rfl) (pa_cons (pe_ix kix_list (pv 8) (pv 9) (fun _ _ => rfl)) (pa_cons (pv 10) pa_nil))) pe_bl (nomark _)) (pw_or1 (pt_cmpR op_notBl (pe_cal C_is_same (hr.mono (by decide)) (by rfl) (pa_cons (pe_ix kix_list (pv 8) (pv 9) (fun _ _ => rfl)) (pa_cons (pe_ix kix_list (pv 7) (pv 9) (fun _ _ => rfl)) pa_nil))) pe_bl (nomark _)))))) (pss_one (ps_ret pe_bl)) pss_nil)
        (pss_one (ps_for PassesOwn.never rfl (pi_range1 (by rfl) Z.z_range (pa_cons (pe_callB klen_seq (by rfl) Z.z_len (by decide +kernel) (pa_cons (pv 7) pa_nil)) pa_nil)) (pg_name (i := 5) nd rfl (Or.inl rfl)) (pss_cons (ps_set (i := 11) nd rfl (Or.inl rfl) (pe_cal C_is_same (hr.mono (by decide)) (by rfl) (pa_cons (pe_ix kix_list (pv 7) (pv 9) (fun _ _ => rfl)) (pa_cons (pe_ix kix_list (pv 7) (pv 5) (fun _ _ => rfl)) pa_nil))))
          (pss_cons (ps_if (pt_cmpR op_ne (pv 11) (pe_cmpR (keqD K hr.units) (pe_cal C_form (hr.mono (by decide)) (by rfl) (pa_cons (pe_ix kix_list (pv 8) (pv 9) (fun _ _ => rfl)) pa_nil)) (pe_cal C_form (hr.mono (by decide)) (by rfl) (pa_cons (pe_ix kix_list (pv 8) (pv 5) (fun _ _ => rfl)) pa_nil)) (nomark _)) (nomark _)) (pss_one (ps_ret pe_bl)) pss_nil)
          (pss_cons (ps_set (i := 12) nd rfl (Or.inl rfl) (pe_cal C_difference (hr.mono (by decide)) (by rfl) (pa_cons (pe_ix kix_list (pv 7) (pv 9) (fun _ _ => rfl)) (pa_cons (pe_ix kix_list (pv 7) (pv 5) (fun _ _ => rfl)) pa_nil))))
          (pss_cons (ps_set (i := 10) nd rfl (Or.inl rfl) (pe_cal C_same_paper (hr.mono (by decide)) (by rfl) (pa_cons (pe_ix kix_list (pv 7) (pv 9) (fun _ _ => rfl)) (pa_cons (pe_ix kix_list (pv 7) (pv 5) (fun _ _ => rfl)) pa_nil))))
          (pss_cons (ps_if (PW.pt (pw_or (pt_cmpR op_ne (pv 11) (pe_cmp (pc_isN (pv 12))) (nomark _)) (pw_or1 (pt_cmpR op_ne (pv 11) (pe_cmp (pc_notN (pv 10))) (nomark _))))) (pss_one (ps_ret pe_bl)) pss_nil)
          (pss_one (ps_if (pt_val (pv 11)) (pss_cons (ps_if (pt_cmpR op_notBl (pe_cal C_is_same_paper (hr.mono (by decide)) (by rfl) (pa_cons (pe_ix kix_list (pv 7) (pv 9) (fun _ _ => rfl)) (pa_cons (pe_ix kix_list (pv 7) (pv 5) (fun _ _ => rfl)) (pa_cons (pv 10) pa_nil)))) pe_bl (nomark _)) (pss_one (ps_ret pe_bl)) pss_nil)
            (pss_one (ps_if (PW.pt (pw_or (pt_cmpR op_lt (pe_callB klen_seq (by rfl) Z.z_len (by decide +kernel) (pa_cons (pe_ix kix_list (pe_ix kix_list (pv 4) (pv 5) (fun _ _ => rfl)) pe_int (fun _ _ => rfl)) pa_nil)) (pe_ix kix_tup (pe_cal C_counts (hr.mono (by decide)) (by rfl) (pa_cons (pe_ix kix_list (pv 7) (pv 9) (fun _ _ => rfl)) pa_nil)) pe_int (fun _ _ => rfl)) (nomark _)) (pw_or1 (pt_cmpR op_lt (pe_callB klen_seq (by rfl) Z.z_len (by decide +kernel) (pa_cons (pe_ix kix_list (pe_ix kix_list (pv 4) (pv 5) (fun _ _ => rfl)) pe_int (fun _ _ => rfl)) pa_nil)) (pe_ix kix_tup (pe_cal C_counts (hr.mono (by decide)) (by rfl) (pa_cons (pe_ix kix_list (pv 7) (pv 9) (fun _ _ => rfl)) pa_nil)) pe_int (fun _ _ => rfl)) (nomark _))))) (pss_one (ps_ret pe_bl)) pss_nil))) (pss_one (ps_if (pt_cmpR op_eq (pe_cal C_run (hr.mono (by decide)) (by rfl) (pa_cons (pe_ix kix_list (pv 7) (pv 9) (fun _ _ => rfl)) (pa_cons (pv 12) pa_nil))) (pe_cal C_run (hr.mono (by decide)) (by rfl) (pa_cons (pe_ix kix_list (pv 7) (pv 5) (fun _ _ => rfl)) (pa_cons (pv 12) pa_nil))) (nomark _)) (pss_one (ps_ret pe_bl)) pss_nil))))))))))))))
      (pss_one (ps_ret pe_bl)))))))))), ?_⟩
  obtain ⟨p, ns, rfl, hs, hns, q⟩ := h
  -- the box
  refine ⟨_, rfl, _, _, _, rfl, p, ns, rfl, hs, rfl, rfl, fun row v H1 s1 res1 => ?_⟩
  obtain ⟨ro, rvs, rfl, hro, prow⟩ := res1
  have hro1 := (offs_some hro).2.2
  have erow : rvs = row.map V.int := by
    have : ∀ {Hx : Hp} {vs : List V} {xs : List Int}, Paired (rZ Hx) vs xs → vs = xs.map V.int := fun h => by
      induction h with
      | nil => rfl
      | cons a _ ih => rw [List.map_cons, ← ih, show _ = _ from a]
    exact this prow
  refine ⟨by show 2 ≤ sizeLine; decide, fun b hb => ?_⟩
  have s2 : Same H1 (upd H1 b (.lst [.ref ro, .int 0])) := same_new hb
  have bx : BoxAt b ro (upd H1 b (.lst [.ref ro, .int 0])) := ⟨row, 0, upd_same, by rw [← erow]; exact s2 _ _ hro1⟩
  generalize hH2 : upd H1 b (.lst [.ref ro, .int 0]) = H2 at s2 bx
  clear hH2
  -- the alphabets
  refine ⟨_, rfl, _, rfl, _, _, rfl, b, ro, 2, rfl, bx, rfl, by decide, fun r1 hr1 H3 k3 b3 => ?_⟩
  refine ⟨1, (r1 : Nat), rfl, rfl, _, _, rfl, b, ro, r1 + 1, rfl, b3, congrArg V.int (by omega), by omega, fun rd hrd H4 k4 b4 => ?_⟩
  refine ⟨_, rfl, _, rfl, _, _, rfl, b, ro, 2, rfl, b4, rfl, by decide, fun r2 hr2 H5 k5 b5 => ?_⟩
  refine ⟨1, (r2 : Nat), rfl, rfl, _, _, rfl, b, ro, r2 + 1, rfl, b5, congrArg V.int (by omega), by omega, fun wr hwr H6 k6 b6 => ?_⟩
  -- the machines
  refine ⟨Nat.zero_le _, fun d0 hd0 => ?_⟩
  have nd0 : d0 ≠ b := fun e => b6.ne (by rw [← e]; exact hd0)
  have s7 : Same H6 (upd H6 d0 (.lst [])) := same_new hd0
  refine ⟨4, rfl, by decide, by decide, ?_⟩
  refine for_range (n := 4) (lo := 0) (fun i σ Hx => ∃ (dr : Addr) (vs : List V) (Ms : List Mach) (x5 x6 : Option V), σ = [some (V.ref p), some (.ref b), some (.str rd), some (.str wr), some (.ref dr), x5, x6, none, none, none, none, none, none, none] ∧ BoxAt b ro Hx ∧ dr ≠ b ∧ Hx dr = some (.lst vs) ∧ Paired (rMl (nb b Hx)) vs Ms ∧ (∀ M ∈ Ms, MOk M ∧ M.rd = rd ∧ M.wr = wr) ∧ Ms.length = 3 * i) ⟨d0, [], [], none, none, rfl, b6.same s7, nd0, upd_same, .nil, nofun, rfl⟩ ?_ ?_
  · rintro i σ H7 hi ⟨dr, vs, Ms, x5, x6, rfl, b7, ndr, hdr, pM, gM, lM⟩
    rw [Int.zero_add]
    refine ⟨_, rfl, _, rfl, _, rfl, _, _, _, _, rfl, b, ro, rd, wr, rfl, b7, rfl, rfl, rfl, hrd, hwr, fun M ok e1 e2 sm vm H8 k8 b8 rm => ?_⟩
    refine ⟨_, rfl, _, rfl, _, rfl, _, rfl, _, _, rfl, b, ro, M, rfl, b8, rm, ok, sm, fun N1 ok1 f1 f2 v1 H9 k9 b9 rm1 => ?_⟩
    refine ⟨_, rfl, _, rfl, _, _, rfl, b, ro, M, rfl, b9, mMl _ _ _ _ k9.nb rm, ok, fun N2 ok2 g1 g2 v2 H10 k10 b10 rm2 => ?_⟩
    refine ⟨by show 3 ≤ sizeLine; decide, fun z hz => ?_⟩
    have k710 : Keep b H7 H10 := k8.trans (k9.trans k10)
    have s11 : Same H10 (upd H10 z (.lst [vm, v1, v2])) := same_new hz
    have hvl : vs.length ≤ 12 := by rw [pd_len pM]; omega
    refine ⟨dr, z, vs, _, rfl, rfl, s11 _ _ (k710 _ _ hdr ndr), upd_same, szl (by show vs.length + 3 ≤ 10000; omega), fun w2 hw2 => ?_⟩
    have s12 : Same (upd H10 z (.lst [vm, v1, v2])) (upd (upd H10 z (.lst [vm, v1, v2])) w2 (.lst (vs ++ [vm, v1, v2]))) := same_new hw2
    have b11 := b10.same s11
    have nw : w2 ≠ b := fun e => b11.ne (by rw [← e]; exact hw2)
    have kk : Same (nb b H10) (nb b (upd (upd H10 z (.lst [vm, v1, v2])) w2 (.lst (vs ++ [vm, v1, v2])))) := (Keep.of (s11.trans s12)).nb
    refine ⟨w2, vs ++ [vm, v1, v2], Ms ++ [M, N1, N2], _, _, rfl, b11.same s12, nw, upd_same, ?_, ?_, ?_⟩
    · refine pd_app (pd_mono mMl (k710.nb.trans kk) pM) (.cons ?_ (.cons ?_ (.cons ?_ .nil)))
      · exact mMl _ _ _ _ ((k9.trans k10).nb.trans kk) rm
      · exact mMl _ _ _ _ (k10.nb.trans kk) rm1
      · exact mMl _ _ _ _ kk rm2
    · intro X hX
      rcases List.mem_append.mp hX with e | e
      · exact gM X e
      · simp only [List.mem_cons, List.not_mem_nil, or_false] at e
        rcases e with e | e | e
        · rw [e]; exact ⟨ok, e1, e2⟩
        · rw [e]; exact ⟨ok1, f1.trans e1, f2.trans e2⟩
        · rw [e]; exact ⟨ok2, g1.trans e1, g2.trans e2⟩
    · rw [List.length_append, lM]; show 3 * i + 3 = _; omega
  rintro σ H7 ⟨dr, vs, Ms, x5, x6, rfl, b7, ndr, hdr, pM0, gM, lM⟩
  have pM := pd_mono mMl (nb_le (b := b) (H := H7)) pM0
  have lv : vs.length = 12 := by rw [pd_len pM]; omega
  have gRd : ∀ {M N : Mach}, M ∈ Ms → N ∈ Ms → M.rd = N.rd ∧ M.wr = N.wr := fun h1 h2 => ⟨(gM _ h1).2.1.trans (gM _ h2).2.1.symm, (gM _ h1).2.2.trans (gM _ h2).2.2.symm⟩
  -- made
  refine ⟨_, rfl, dr, rfl, ⟨vs, SqL.of hdr⟩, fun D hD => ?_⟩
  refine lcL (R := rM C) (B := H7) mM Ms (Same.refl H7) hD (SqL.of hdr) (pd_len pM).symm (szl (by omega)) ?_ ?_
  · intro i x M H8 hx hM s8 nD k hk
    obtain ⟨M', hM', rx⟩ := pd_get pM hx
    rw [hM] at hM'
    cases hM'
    refine ⟨wp1, _, rfl, _, rfl, M, mMl _ _ _ _ s8 rx, (gM M (List.mem_of_getElem? hM)).1, fun v H9 s9 res => ?_⟩
    exact hk _ _ s9 (mM _ _ _ _ (offs_call s8 (fun d hd => by rw [List.mem_singleton.mp hd]; exact nD)) res)
  intro H8 s8 resM
  obtain ⟨_, mvs, eD, hD8, pMa⟩ := resM
  cases eD
  have hD8' := (offs_some hD8).2.2
  have lmv : mvs.length = 12 := by rw [pd_len pMa]; omega
  -- small
  refine ⟨_, rfl, D, rfl, ⟨mvs, SqL.of hD8'⟩, fun D2 hD2 => ?_⟩
  refine lcL (R := rSm C) (B := H8) mSm Ms (Same.refl H8) hD2 (SqL.of hD8') (pd_len pMa).symm (szl (by omega)) ?_ ?_
  · intro i x M H9 hx hM s9 nD k hk
    obtain ⟨M', hM', rx⟩ := pd_get pMa hx
    rw [hM] at hM'
    cases hM'
    refine ⟨wp1, _, rfl, _, rfl, M, mM _ _ _ _ (offs_le.trans s9) rx, (gM M (List.mem_of_getElem? hM)).1, fun N il v H10 s10 res => ?_⟩
    exact hk _ _ s10 ⟨N, mM _ _ _ _ (offs_call s9 (fun d hd => by rw [List.mem_singleton.mp hd]; exact nD)) res, il⟩
  intro H9 s9 resS
  obtain ⟨_, svs, eD2, hD9, pS⟩ := resS
  cases eD2
  have hD9' := (offs_some hD9).2.2
  have lsv : svs.length = 12 := by rw [pd_len pS]; omega
  have hDm := s9 _ _ hD8'
  have hdr9 := s9 _ _ (s8 _ _ hdr)
  -- what stands at a place
  have at_ : ∀ (i : Nat), i < 12 → ∃ (M N : Mach) (mv sv dv : V), M ∈ Ms ∧ ILM M N ∧ mvs[i]? = some mv ∧ svs[i]? = some sv ∧ vs[i]? = some dv ∧ MOk M ∧ ∀ Hx, Same H9 Hx → rM C Hx mv M ∧ rM C Hx sv N ∧ rMl Hx dv M := fun i hi => by
    obtain ⟨M, hM⟩ : ∃ M, Ms[i]? = some M := ⟨_, List.getElem?_eq_getElem (by omega)⟩
    obtain ⟨mv, h1, h2⟩ := pd_get' pMa hM
    obtain ⟨sv, h3, N, h4, h5⟩ := pd_get' pS hM
    obtain ⟨dv, h6, h7⟩ := pd_get' pM hM
    exact ⟨M, N, mv, sv, dv, List.mem_of_getElem? hM, h5, h1, h3, h6, (gM M (List.mem_of_getElem? hM)).1, fun Hx sx => ⟨mM _ _ _ _ (offs_le.trans (s9.trans sx)) h2, mM _ _ _ _ (offs_le.trans sx) h4, mMl _ _ _ _ ((s8.trans s9).trans sx) h7⟩⟩
  refine ⟨_, rfl, D, mvs, rfl, .inl hDm, (mvs.length : Nat), rfl, by omega, by omega, ?_⟩
  have e12 : ((mvs.length : Nat) : Int).toNat = 12 := by omega
  rw [e12]
  refine for_range (n := 12) (lo := 0) (fun i σ Hx => ∃ (x5 x9 x10 x11 x12 : Option V), σ = [some (V.ref p), some (.ref b), some (.str rd), some (.str wr), some (.ref dr), x5, x6, some (.ref D), some (.ref D2), x9, x10, x11, x12, none] ∧ Same H9 Hx) ⟨x5, none, none, none, none, rfl, Same.refl _⟩ ?_ ?_
  rotate_left
  · rintro σ Hx ⟨x5, x9, x10, x11, x12, rfl, sx⟩
    exact q Hx
  rintro i σ H10 hi ⟨x5, x9, x10, x11, x12, rfl, s10⟩
  rw [Int.zero_add]
  obtain ⟨M, N, mv, sv, dv, mM1, il, hmv, hsv, hdv, ok, reps⟩ := at_ i hi
  have okN := il.ok ok
  refine ⟨_, rfl, _, rfl, D2, svs, (i : Nat), sv, rfl, rfl, s10 _ _ hD9', atI_nat hsv, _, rfl, M, N, (reps _ s10).2.1, ok, il, fun pp hpp v11 H11 s11 res11 => ?_⟩
  have s911 := s10.trans s11
  have rpp := mPp _ _ _ _ offs_le res11
  obtain ⟨pz, u1, u2, u3, u4, rfl, hpz, hrest⟩ := id rpp
  refine ⟨_, rfl, false, rfl, ?_⟩
  refine iteF ?_
  refine ⟨_, rfl, _, rfl, D2, svs, (i : Nat), sv, rfl, rfl, s911 _ _ hD9', atI_nat hsv, _, rfl, _, _, rfl, N, pp, (reps _ s911).2.1, okN, rpp, hpp, fun H12 s12 => ?_⟩
  have s912 := s911.trans s12
  refine ⟨true, true, rfl, rfl, false, rfl, ?_⟩
  refine iteF ?_
  refine ⟨_, rfl, _, rfl, D2, svs, (i : Nat), sv, rfl, rfl, s912 _ _ hD9', atI_nat hsv, _, rfl, _, rfl, D, mvs, (i : Nat), mv, rfl, rfl, s912 _ _ hDm, atI_nat hmv, _, _, rfl, N, M, (reps _ s912).2.1, (reps _ s912).1, okN, ok, il.1, fun t ht H13 s13 => ?_⟩
  have et : t = true := ht.mpr (small_same il)
  subst et
  have s913 := s912.trans s13
  refine ⟨true, true, rfl, rfl, false, rfl, ?_⟩
  refine iteF ?_
  refine ⟨_, rfl, D, mvs, rfl, .inl (s913 _ _ hDm), (mvs.length : Nat), rfl, by omega, by omega, ?_⟩
  rw [e12]
  refine for_range (n := 12) (lo := 0) (fun k σ Hx => ∃ (x5 x10 x11 x12 : Option V), σ = [some (V.ref p), some (.ref b), some (.str rd), some (.str wr), some (.ref dr), x5, x6, some (.ref D), some (.ref D2), some (.int (i : Nat)), x10, x11, x12, none] ∧ Same H9 Hx) ⟨x5, _, x11, x12, rfl, s913⟩ ?_ ?_
  rotate_left
  · rintro σ Hx ⟨x5, x10, x11, x12, rfl, sx⟩
    exact ⟨_, _, _, _, _, rfl, sx⟩
  rintro k σ H14 hk ⟨x5, x10, x11, x12, rfl, s14⟩
  rw [Int.zero_add]
  obtain ⟨M', N', mv', sv', dv', mM2, il', hmv', hsv', hdv', ok', reps'⟩ := at_ k hk
  have okN' := il'.ok ok'
  obtain ⟨er, ew⟩ := gRd mM1 mM2
  have nn : N.rd = N'.rd := il.1.trans (er.trans il'.1.symm)
  refine ⟨_, rfl, _, rfl, D, mvs, (i : Nat), mv, rfl, rfl, s14 _ _ hDm, atI_nat hmv, _, rfl, _, rfl, D, mvs, (k : Nat), mv', rfl, rfl, s14 _ _ hDm, atI_nat hmv', _, _, rfl, M, M', (reps _ s14).1, (reps' _ s14).1, ok, ok', er, fun t ht H15 s15 => ?_⟩
  have s915 := s14.trans s15
  -- same != (form == form)
  refine ⟨_, rfl, _, rfl, _, rfl, D2, svs, (i : Nat), sv, rfl, rfl, s915 _ _ hD9', atI_nat hsv, _, rfl, N, (reps _ s915).2.1, okN, fun vf H16 s16 rf => ?_⟩
  have s916 := s915.trans s16
  refine ⟨_, rfl, _, rfl, D2, svs, (k : Nat), sv', rfl, rfl, s916 _ _ hD9', atI_nat hsv', _, rfl, N', (reps' _ s916).2.1, okN', fun vf' H17 s17 rf' => ?_⟩
  have s917 := s916.trans s17
  refine ⟨dF N, dF N', dr_F K _ _ _ (mF _ _ _ _ (offs_le.trans s17) rf), dr_F K _ _ _ (mF _ _ _ _ offs_le rf'), (sh_F okN).ok (by decide), (sh_F okN').ok (by decide), rfl, _, rfl, ?_⟩
  have efm : PyData.eqv (dF N) (dF N') = t := by
    have h1 := (eq_F N N').trans (same_iff il il' er ew).symm
    rw [← ht] at h1
    exact Bool.eq_iff_iff.mpr h1
  refine ifF (by rw [efm]; simp) ?_
  -- the word
  refine ⟨_, rfl, _, rfl, D, mvs, (i : Nat), mv, rfl, rfl, s917 _ _ hDm, atI_nat hmv, _, rfl, _, rfl, D, mvs, (k : Nat), mv', rfl, rfl, s917 _ _ hDm, atI_nat hmv', _, _, rfl, M, M', (reps _ s917).1, (reps' _ s917).1, ok, ok', er, fun vw H18 s18 df => ?_⟩
  have s918 := s917.trans s18
  by_cases hsame : SameM M M'
  · have et : t = true := ht.mpr hsame
    subst et
    have hvw : vw = .non := by
      rcases df with ⟨e, _⟩ | ⟨w, hw, _, _, ne⟩
      · exact e
      · exact absurd (hsame w hw) ne
    subst hvw
    refine ⟨_, rfl, _, rfl, D, mvs, (i : Nat), mv, rfl, rfl, s918 _ _ hDm, atI_nat hmv, _, rfl, _, rfl, D, mvs, (k : Nat), mv', rfl, rfl, s918 _ _ hDm, atI_nat hmv', _, _, rfl, M, M', (reps _ s918).1, (reps' _ s918).1, ok, ok', er, ew, fun nsm => absurd hsame nsm, fun _ sp spok vp H19 s19 rp => ?_⟩
    have s919 := s918.trans s19
    have rp' := mP (mL mPr) (mL mPr) _ _ _ _ offs_le rp
    obtain ⟨pz2, w1, w2, rfl, hpz2, hw12⟩ := id rp'
    refine ⟨_, rfl, _, rfl, rfl, false, rfl, ?_⟩
    refine iteF ?_
    refine ⟨_, rfl, _, rfl, rfl, false, rfl, ?_⟩
    refine iteF ?_
    refine ⟨_, rfl, true, rfl, ?_⟩
    refine iteT ?_
    refine ⟨_, rfl, _, rfl, D, mvs, (i : Nat), mv, rfl, rfl, s919 _ _ hDm, atI_nat hmv, _, rfl, _, rfl, D, mvs, (k : Nat), mv', rfl, rfl, s919 _ _ hDm, atI_nat hmv', _, rfl, _, _, _, rfl, M, M', sp, (reps _ s919).1, (reps' _ s919).1, ok, ok', er, rp', spok, fun H20 s20 => ?_⟩
    have s920 := s919.trans s20
    refine ⟨true, true, rfl, rfl, false, rfl, ?_⟩
    refine iteF ?_
    obtain ⟨da, dl, drr, dt, rfl, hda, hdl, hdrr, _⟩ := (reps' _ s920).2.2
    obtain ⟨la, lvs, rfl, hla, pla⟩ := hdl
    obtain ⟨ra, rvs', rfl, hra, pra⟩ := hdrr
    have kl := pd_len pla
    have kr := pd_len pra
    refine ⟨_, rfl, _, rfl, dr, vs, (k : Nat), _, rfl, rfl, (s9.trans s920 |> fun z => s920 _ _ hdr9), atI_nat hdv', da, _, 2, _, rfl, rfl, hda, atI_nat (j := 2) rfl, la, lvs, rfl, .inl hla, _, rfl, _, rfl, D, mvs, (i : Nat), mv, rfl, rfl, s920 _ _ hDm, atI_nat hmv, _, rfl, M, (reps _ s920).1, ok, fun Nc ilc vc H21 s21 rc => ?_⟩
    have s921 := s920.trans s21
    obtain ⟨ca, _, _, rfl, hca, rfl, rfl⟩ := rc
    have sz1 := sizes ilc il' er ew hsame
    refine ⟨ca, _, 0, _, rfl, rfl, (offs_some hca).2.2, atI_nat (j := 0) rfl, _, _, rfl, rfl, _, rfl, ?_⟩
    refine ifF (decide_eq_false (by have := sz1.1; show ¬ ((lvs.length : Nat) : Int) < ((Nc.L.length : Nat) : Int); omega)) ?_
    refine ⟨_, rfl, _, rfl, dr, vs, (k : Nat), _, rfl, rfl, s921 _ _ hdr9, atI_nat hdv', da, _, 3, _, rfl, rfl, s21 _ _ hda, atI_nat (j := 3) rfl, ra, rvs', rfl, .inl (s21 _ _ hra), _, rfl, _, rfl, D, mvs, (i : Nat), mv, rfl, rfl, s921 _ _ hDm, atI_nat hmv, _, rfl, M, (reps _ s921).1, ok, fun Nc2 ilc2 vc2 H22 s22 rc2 => ?_⟩
    have s922 := s921.trans s22
    obtain ⟨ca2, _, _, rfl, hca2, rfl, rfl⟩ := rc2
    have sz2 := sizes ilc2 il' er ew hsame
    refine ⟨ca2, _, 1, _, rfl, rfl, (offs_some hca2).2.2, atI_nat (j := 1) rfl, _, _, rfl, rfl, _, rfl, ?_⟩
    refine ifF (decide_eq_false (by have := sz2.2; show ¬ ((rvs'.length : Nat) : Int) < ((Nc2.R.length : Nat) : Int); omega)) ?_
    exact ⟨_, _, _, _, rfl, s922⟩
  · have et : t = false := by
      cases t with
      | false => rfl
      | true => exact absurd (ht.mp rfl) hsame
    subst et
    have hvw : ∃ w, Wd M.rd.length w ∧ w.length ≤ 9000 ∧ vw = .str (spell M.rd w) ∧ outM M 0 0 w ≠ outM M' 0 0 w := by
      rcases df with ⟨_, e⟩ | ⟨w, h1, h2, h3, h4⟩
      · exact absurd e hsame
      · exact ⟨w, h1, h2, h3, h4⟩
    obtain ⟨w, hw, hwl, rfl, hne⟩ := hvw
    refine ⟨_, rfl, _, rfl, D, mvs, (i : Nat), mv, rfl, rfl, s918 _ _ hDm, atI_nat hmv, _, rfl, _, rfl, D, mvs, (k : Nat), mv', rfl, rfl, s918 _ _ hDm, atI_nat hmv', _, _, rfl, M, M', (reps _ s918).1, (reps' _ s918).1, ok, ok', er, ew, fun _ H19 s19 => ?_, fun sm => absurd sm hsame⟩
    have s919 := s918.trans s19
    refine ⟨_, rfl, _, rfl, rfl, false, rfl, ?_⟩
    refine iteF ?_
    refine ⟨_, rfl, _, rfl, rfl, false, rfl, ?_⟩
    refine iteF ?_
    refine ⟨_, rfl, false, rfl, ?_⟩
    refine iteF ?_
    refine ⟨_, rfl, _, rfl, D, mvs, (i : Nat), mv, rfl, rfl, s919 _ _ hDm, atI_nat hmv, _, rfl, _, _, rfl, M, w, (reps _ s919).1, ok, rfl, hw, hwl, fun H20 s20 => ?_⟩
    have s920 := s919.trans s20
    refine ⟨_, rfl, _, rfl, D, mvs, (k : Nat), mv', rfl, rfl, s920 _ _ hDm, atI_nat hmv', _, rfl, _, _, rfl, M', w, (reps' _ s920).1, ok', by rw [er], by rw [← er]; exact hw, hwl, fun H21 s21 => ?_⟩
    have s921 := s920.trans s21
    have : ¬ V.str (outS M 0 0 w) = V.str (outS M' 0 0 w) := fun z => by
      injection z with z
      unfold outS at z
      injection z with z
      exact hne (by simpa using z)
    refine ⟨rfl, _, rfl, ?_⟩
    refine ifF (decide_eq_false this) ?_
    exact ⟨_, _, _, _, rfl, s921⟩
end
end FA
end
section
namespace FA
open PySem PySem.Spec PyProof.Rows L2 FM
theorem glo_of {K : PySem.W.Frag} {h : Heap} {mg : Str → Option Value} (X : K.In h) (G : h.Ns mainGlobals mg) (c : He.SaysD fa fn K) : Glo mg where
  z_len := He.free_ok X G (c.fact 56 (f := .free "len") rfl)
  z_range := He.free_ok X G (c.fact 57 (f := .free "range") rfl)
  z_enumerate := He.free_ok X G (c.fact 58 (f := .free "enumerate") rfl)
  z_zip := He.free_ok X G (c.fact 59 (f := .free "zip") rfl)
  z_tuple := He.free_ok X G (c.fact 60 (f := .free "tuple") rfl)
  z_list := He.free_ok X G (c.fact 61 (f := .free "list") rfl)
  z_dict := He.free_ok X G (c.fact 62 (f := .free "dict") rfl)
  z_isinstance := He.free_ok X G (c.fact 63 (f := .free "isinstance") rfl)
  z_str := He.free_ok X G (c.fact 64 (f := .free "str") rfl)
  z_int := He.free_ok X G (c.fact 65 (f := .free "int") rfl)
  z_bool := He.free_ok X G (c.fact 66 (f := .free "bool") rfl)
  z_max := He.free_ok X G (c.fact 67 (f := .free "max") rfl)
  z_all := He.free_ok X G (c.fact 68 (f := .free "all") rfl)
  z_abs := He.free_ok X G (c.fact 69 (f := .free "abs") rfl)
  c_MOST_LETTERS := He.int_ok X G (c.fact 70 (f := .int "MOST_LETTERS" 5) rfl)
  c_MOST_STATES := He.int_ok X G (c.fact 71 (f := .int "MOST_STATES" 40) rfl)
  c_LETTERS := He.str_ok X G (c.fact 72 (f := .str "LETTERS" "abcdefghijklmnopqrstuvwxyz") rfl)
theorem mcl_of {K : PySem.W.Frag} {h : Heap} {mg : Str → Option Value} (X : K.In h) (G : h.Ns mainGlobals mg) (c : He.SaysD fa fn K) : Mcl K mg (He.ga K "Machine") where
  cl := He.cls_ok (c.fact 73 (f := .cls "Machine") rfl)
  n1 := He.noat_ok (c.fact 75 (f := .noat "Machine" "reads") rfl)
  n2 := He.noat_ok (c.fact 76 (f := .noat "Machine" "writes") rfl)
  n3 := He.noat_ok (c.fact 77 (f := .noat "Machine" "left") rfl)
  n4 := He.noat_ok (c.fact 78 (f := .noat "Machine" "right") rfl)
  n5 := He.noat_ok (c.fact 79 (f := .noat "Machine" "table") rfl)
  g := He.glo_ok X G (c.fact 55 (f := .glo "Machine") rfl)
theorem df_reached_behind {K : PySem.W.Frag} {h : Heap} {mg : Str → Option Value} (X : K.In h) (G : h.Ns mainGlobals mg) (c : He.SaysD fa fn K) : Df K mg "reached_behind" s_reached_behind ["rows", "start"] := by
  obtain ⟨fd, F⟩ := c.def_ 0 (d := d_reached_behind) rfl
  exact ⟨_, fd, F, He.glo_ok X G (c.fact 0 (f := .glo "reached_behind") rfl), FunD.bindsN F fun _ _ _ _ _ _ us hl => match us, hl with | [_, _], _ => rfl⟩
theorem df_reached_in_front {K : PySem.W.Frag} {h : Heap} {mg : Str → Option Value} (X : K.In h) (G : h.Ns mainGlobals mg) (c : He.SaysD fa fn K) : Df K mg "reached_in_front" s_reached_in_front ["rows", "start", "letters"] := by
  obtain ⟨fd, F⟩ := c.def_ 1 (d := d_reached_in_front) rfl
  exact ⟨_, fd, F, He.glo_ok X G (c.fact 1 (f := .glo "reached_in_front") rfl), FunD.bindsN F fun _ _ _ _ _ _ us hl => match us, hl with | [_, _, _], _ => rfl⟩
theorem df_kept_rows {K : PySem.W.Frag} {h : Heap} {mg : Str → Option Value} (X : K.In h) (G : h.Ns mainGlobals mg) (c : He.SaysD fa fn K) : Df K mg "kept_rows" s_kept_rows ["rows", "order"] := by
  obtain ⟨fd, F⟩ := c.def_ 4 (d := d_kept_rows) rfl
  exact ⟨_, fd, F, He.glo_ok X G (c.fact 4 (f := .glo "kept_rows") rfl), FunD.bindsN F fun _ _ _ _ _ _ us hl => match us, hl with | [_, _], _ => rfl⟩
theorem df__numbered {K : PySem.W.Frag} {h : Heap} {mg : Str → Option Value} (X : K.In h) (G : h.Ns mainGlobals mg) (c : He.SaysD fa fn K) : Df K mg "_numbered" s__numbered ["keys"] := by
  obtain ⟨fd, F⟩ := c.def_ 5 (d := d__numbered) rfl
  exact ⟨_, fd, F, He.glo_ok X G (c.fact 5 (f := .glo "_numbered") rfl), FunD.bindsN F fun _ _ _ _ _ _ us hl => match us, hl with | [_], _ => rfl⟩
theorem df__chosen {K : PySem.W.Frag} {h : Heap} {mg : Str → Option Value} (X : K.In h) (G : h.Ns mainGlobals mg) (c : He.SaysD fa fn K) : Df K mg "_chosen" s__chosen ["rows", "parts"] := by
  obtain ⟨fd, F⟩ := c.def_ 7 (d := d__chosen) rfl
  exact ⟨_, fd, F, He.glo_ok X G (c.fact 7 (f := .glo "_chosen") rfl), FunD.bindsN F fun _ _ _ _ _ _ us hl => match us, hl with | [_, _], _ => rfl⟩
theorem df_is_alphabet {K : PySem.W.Frag} {h : Heap} {mg : Str → Option Value} (X : K.In h) (G : h.Ns mainGlobals mg) (c : He.SaysD fa fn K) : Df K mg "is_alphabet" s_is_alphabet ["thing"] := by
  obtain ⟨fd, F⟩ := c.def_ 9 (d := d_is_alphabet) rfl
  exact ⟨_, fd, F, He.glo_ok X G (c.fact 9 (f := .glo "is_alphabet") rfl), FunD.bindsN F fun _ _ _ _ _ _ us hl => match us, hl with | [_], _ => rfl⟩
theorem df_is_word {K : PySem.W.Frag} {h : Heap} {mg : Str → Option Value} (X : K.In h) (G : h.Ns mainGlobals mg) (c : He.SaysD fa fn K) : Df K mg "is_word" s_is_word ["alphabet", "thing"] := by
  obtain ⟨fd, F⟩ := c.def_ 10 (d := d_is_word) rfl
  exact ⟨_, fd, F, He.glo_ok X G (c.fact 10 (f := .glo "is_word") rfl), FunD.bindsN F fun _ _ _ _ _ _ us hl => match us, hl with | [_, _], _ => rfl⟩
theorem df_codes {K : PySem.W.Frag} {h : Heap} {mg : Str → Option Value} (X : K.In h) (G : h.Ns mainGlobals mg) (c : He.SaysD fa fn K) : Df K mg "codes" s_codes ["alphabet", "word"] := by
  obtain ⟨fd, F⟩ := c.def_ 11 (d := d_codes) rfl
  exact ⟨_, fd, F, He.glo_ok X G (c.fact 11 (f := .glo "codes") rfl), FunD.bindsN F fun _ _ _ _ _ _ us hl => match us, hl with | [_, _], _ => rfl⟩
theorem df_spelled {K : PySem.W.Frag} {h : Heap} {mg : Str → Option Value} (X : K.In h) (G : h.Ns mainGlobals mg) (c : He.SaysD fa fn K) : Df K mg "spelled" s_spelled ["alphabet", "indexes"] := by
  obtain ⟨fd, F⟩ := c.def_ 12 (d := d_spelled) rfl
  exact ⟨_, fd, F, He.glo_ok X G (c.fact 12 (f := .glo "spelled") rfl), FunD.bindsN F fun _ _ _ _ _ _ us hl => match us, hl with | [_, _], _ => rfl⟩
theorem df_pairs_behind {K : PySem.W.Frag} {h : Heap} {mg : Str → Option Value} (X : K.In h) (G : h.Ns mainGlobals mg) (c : He.SaysD fa fn K) : Df K mg "pairs_behind" s_pairs_behind ["one", "two", "start"] := by
  obtain ⟨fd, F⟩ := c.def_ 13 (d := d_pairs_behind) rfl
  exact ⟨_, fd, F, He.glo_ok X G (c.fact 13 (f := .glo "pairs_behind") rfl), FunD.bindsN F fun _ _ _ _ _ _ us hl => match us, hl with | [_, _, _], _ => rfl⟩
theorem df_pairs_in_front {K : PySem.W.Frag} {h : Heap} {mg : Str → Option Value} (X : K.In h) (G : h.Ns mainGlobals mg) (c : He.SaysD fa fn K) : Df K mg "pairs_in_front" s_pairs_in_front ["one", "two", "start"] := by
  obtain ⟨fd, F⟩ := c.def_ 14 (d := d_pairs_in_front) rfl
  exact ⟨_, fd, F, He.glo_ok X G (c.fact 14 (f := .glo "pairs_in_front") rfl), FunD.bindsN F fun _ _ _ _ _ _ us hl => match us, hl with | [_, _, _], _ => rfl⟩
theorem df__parting {K : PySem.W.Frag} {h : Heap} {mg : Str → Option Value} (X : K.In h) (G : h.Ns mainGlobals mg) (c : He.SaysD fa fn K) : Df K mg "_parting" s__parting ["one", "two", "lefts", "rights"] := by
  obtain ⟨fd, F⟩ := c.def_ 15 (d := d__parting) rfl
  exact ⟨_, fd, F, He.glo_ok X G (c.fact 15 (f := .glo "_parting") rfl), FunD.bindsN F fun _ _ _ _ _ _ us hl => match us, hl with | [_, _, _, _], _ => rfl⟩
theorem df__are_rows {K : PySem.W.Frag} {h : Heap} {mg : Str → Option Value} (X : K.In h) (G : h.Ns mainGlobals mg) (c : He.SaysD fa fn K) : Df K mg "_are_rows" s__are_rows ["thing", "letters"] := by
  obtain ⟨fd, F⟩ := c.def_ 17 (d := d__are_rows) rfl
  exact ⟨_, fd, F, He.glo_ok X G (c.fact 17 (f := .glo "_are_rows") rfl), FunD.bindsN F fun _ _ _ _ _ _ us hl => match us, hl with | [_, _], _ => rfl⟩
theorem df_form {K : PySem.W.Frag} {h : Heap} {mg : Str → Option Value} (X : K.In h) (G : h.Ns mainGlobals mg) (c : He.SaysD fa fn K) : Df K mg "form" s_form ["machine"] := by
  obtain ⟨fd, F⟩ := c.def_ 19 (d := d_form) rfl
  exact ⟨_, fd, F, He.glo_ok X G (c.fact 19 (f := .glo "form") rfl), FunD.bindsN F fun _ _ _ _ _ _ us hl => match us, hl with | [_], _ => rfl⟩
theorem df__along {K : PySem.W.Frag} {h : Heap} {mg : Str → Option Value} (X : K.In h) (G : h.Ns mainGlobals mg) (c : He.SaysD fa fn K) : Df K mg "_along" s__along ["rows", "start", "indexes"] := by
  obtain ⟨fd, F⟩ := c.def_ 20 (d := d__along) rfl
  exact ⟨_, fd, F, He.glo_ok X G (c.fact 20 (f := .glo "_along") rfl), FunD.bindsN F fun _ _ _ _ _ _ us hl => match us, hl with | [_, _, _], _ => rfl⟩
theorem df_state_pairs {K : PySem.W.Frag} {h : Heap} {mg : Str → Option Value} (X : K.In h) (G : h.Ns mainGlobals mg) (c : He.SaysD fa fn K) : Df K mg "state_pairs" s_state_pairs ["count"] := by
  obtain ⟨fd, F⟩ := c.def_ 29 (d := d_state_pairs) rfl
  exact ⟨_, fd, F, He.glo_ok X G (c.fact 29 (f := .glo "state_pairs") rfl), FunD.bindsN F fun _ _ _ _ _ _ us hl => match us, hl with | [_], _ => rfl⟩
theorem df__require_alike {K : PySem.W.Frag} {h : Heap} {mg : Str → Option Value} (X : K.In h) (G : h.Ns mainGlobals mg) (c : He.SaysD fa fn K) : Df K mg "_require_alike" s__require_alike ["one", "two"] := by
  obtain ⟨fd, F⟩ := c.def_ 35 (d := d__require_alike) rfl
  exact ⟨_, fd, F, He.glo_ok X G (c.fact 35 (f := .glo "_require_alike") rfl), FunD.bindsN F fun _ _ _ _ _ _ us hl => match us, hl with | [_, _], _ => rfl⟩
theorem df__are_closed {K : PySem.W.Frag} {h : Heap} {mg : Str → Option Value} (X : K.In h) (G : h.Ns mainGlobals mg) (c : He.SaysD fa fn K) : Df K mg "_are_closed" s__are_closed ["one", "two", "pairs"] := by
  obtain ⟨fd, F⟩ := c.def_ 39 (d := d__are_closed) rfl
  exact ⟨_, fd, F, He.glo_ok X G (c.fact 39 (f := .glo "_are_closed") rfl), FunD.bindsN F fun _ _ _ _ _ _ us hl => match us, hl with | [_, _, _], _ => rfl⟩
theorem df__law_cell {K : PySem.W.Frag} {h : Heap} {mg : Str → Option Value} (X : K.In h) (G : h.Ns mainGlobals mg) (c : He.SaysD fa fn K) : Df K mg "_law_cell" s__law_cell ["_law_script", "_law_k"] := by
  obtain ⟨fd, F⟩ := c.def_ 41 (d := d__law_cell) rfl
  exact ⟨_, fd, F, He.glo_ok X G (c.fact 41 (f := .glo "_law_cell") rfl), FunD.bindsN F fun _ _ _ _ _ _ us hl => match us, hl with | [_, _], _ => rfl⟩
theorem df__law_draw {K : PySem.W.Frag} {h : Heap} {mg : Str → Option Value} (X : K.In h) (G : h.Ns mainGlobals mg) (c : He.SaysD fa fn K) : Df K mg "_law_draw" s__law_draw ["_law_box", "_law_many"] := by
  obtain ⟨fd, F⟩ := c.def_ 43 (d := d__law_draw) rfl
  exact ⟨_, fd, F, He.glo_ok X G (c.fact 43 (f := .glo "_law_draw") rfl), FunD.bindsN F fun _ _ _ _ _ _ us hl => match us, hl with | [_, _], _ => rfl⟩
theorem df_left_words {K : PySem.W.Frag} {h : Heap} {mg : Str → Option Value} (X : K.In h) (G : h.Ns mainGlobals mg) (c : He.SaysD fa fn K) : Df K mg "left_words" s_left_words ["machine"] := by
  obtain ⟨fd, F⟩ := c.def_ 2 (d := d_left_words) rfl
  exact ⟨_, fd, F, He.glo_ok X G (c.fact 2 (f := .glo "left_words") rfl), FunD.bindsN F fun _ _ _ _ _ _ us hl => match us, hl with | [_], _ => rfl⟩
theorem df_right_words {K : PySem.W.Frag} {h : Heap} {mg : Str → Option Value} (X : K.In h) (G : h.Ns mainGlobals mg) (c : He.SaysD fa fn K) : Df K mg "right_words" s_right_words ["machine"] := by
  obtain ⟨fd, F⟩ := c.def_ 3 (d := d_right_words) rfl
  exact ⟨_, fd, F, He.glo_ok X G (c.fact 3 (f := .glo "right_words") rfl), FunD.bindsN F fun _ _ _ _ _ _ us hl => match us, hl with | [_], _ => rfl⟩
theorem df_classes {K : PySem.W.Frag} {h : Heap} {mg : Str → Option Value} (X : K.In h) (G : h.Ns mainGlobals mg) (c : He.SaysD fa fn K) : Df K mg "classes" s_classes ["rows", "marks"] := by
  obtain ⟨fd, F⟩ := c.def_ 6 (d := d_classes) rfl
  exact ⟨_, fd, F, He.glo_ok X G (c.fact 6 (f := .glo "classes") rfl), FunD.bindsN F fun _ _ _ _ _ _ us hl => match us, hl with | [_, _], _ => rfl⟩
theorem df_first_difference {K : PySem.W.Frag} {h : Heap} {mg : Str → Option Value} (X : K.In h) (G : h.Ns mainGlobals mg) (c : He.SaysD fa fn K) : Df K mg "first_difference" s_first_difference ["one", "two", "lefts", "rights"] := by
  obtain ⟨fd, F⟩ := c.def_ 16 (d := d_first_difference) rfl
  exact ⟨_, fd, F, He.glo_ok X G (c.fact 16 (f := .glo "first_difference") rfl), FunD.bindsN F fun _ _ _ _ _ _ us hl => match us, hl with | [_, _, _, _], _ => rfl⟩
theorem df__is_table {K : PySem.W.Frag} {h : Heap} {mg : Str → Option Value} (X : K.In h) (G : h.Ns mainGlobals mg) (c : He.SaysD fa fn K) : Df K mg "_is_table" s__is_table ["thing", "left", "right", "letters", "writes"] := by
  obtain ⟨fd, F⟩ := c.def_ 18 (d := d__is_table) rfl
  exact ⟨_, fd, F, He.glo_ok X G (c.fact 18 (f := .glo "_is_table") rfl), FunD.bindsN F fun _ _ _ _ _ _ us hl => match us, hl with | [_, _, _, _, _], _ => rfl⟩
theorem df_left_state {K : PySem.W.Frag} {h : Heap} {mg : Str → Option Value} (X : K.In h) (G : h.Ns mainGlobals mg) (c : He.SaysD fa fn K) : Df K mg "left_state" s_left_state ["machine", "word"] := by
  obtain ⟨fd, F⟩ := c.def_ 21 (d := d_left_state) rfl
  exact ⟨_, fd, F, He.glo_ok X G (c.fact 21 (f := .glo "left_state") rfl), FunD.bindsN F fun _ _ _ _ _ _ us hl => match us, hl with | [_, _], _ => rfl⟩
theorem df_right_state {K : PySem.W.Frag} {h : Heap} {mg : Str → Option Value} (X : K.In h) (G : h.Ns mainGlobals mg) (c : He.SaysD fa fn K) : Df K mg "right_state" s_right_state ["machine", "word"] := by
  obtain ⟨fd, F⟩ := c.def_ 22 (d := d_right_state) rfl
  exact ⟨_, fd, F, He.glo_ok X G (c.fact 22 (f := .glo "right_state") rfl), FunD.bindsN F fun _ _ _ _ _ _ us hl => match us, hl with | [_, _], _ => rfl⟩
theorem df_states_between {K : PySem.W.Frag} {h : Heap} {mg : Str → Option Value} (X : K.In h) (G : h.Ns mainGlobals mg) (c : He.SaysD fa fn K) : Df K mg "states_between" s_states_between ["machine", "left", "right", "indexes"] := by
  obtain ⟨fd, F⟩ := c.def_ 23 (d := d_states_between) rfl
  exact ⟨_, fd, F, He.glo_ok X G (c.fact 23 (f := .glo "states_between") rfl), FunD.bindsN F fun _ _ _ _ _ _ us hl => match us, hl with | [_, _, _, _], _ => rfl⟩
theorem df__words {K : PySem.W.Frag} {h : Heap} {mg : Str → Option Value} (X : K.In h) (G : h.Ns mainGlobals mg) (c : He.SaysD fa fn K) : Df K mg "_words" s__words ["machine", "found"] := by
  obtain ⟨fd, F⟩ := c.def_ 30 (d := d__words) rfl
  exact ⟨_, fd, F, He.glo_ok X G (c.fact 30 (f := .glo "_words") rfl), FunD.bindsN F fun _ _ _ _ _ _ us hl => match us, hl with | [_, _], _ => rfl⟩
theorem df_is_same_paper {K : PySem.W.Frag} {h : Heap} {mg : Str → Option Value} (X : K.In h) (G : h.Ns mainGlobals mg) (c : He.SaysD fa fn K) : Df K mg "is_same_paper" s_is_same_paper ["one", "two", "paper"] := by
  obtain ⟨fd, F⟩ := c.def_ 40 (d := d_is_same_paper) rfl
  exact ⟨_, fd, F, He.glo_ok X G (c.fact 40 (f := .glo "is_same_paper") rfl), FunD.bindsN F fun _ _ _ _ _ _ us hl => match us, hl with | [_, _, _], _ => rfl⟩
theorem df__law_row {K : PySem.W.Frag} {h : Heap} {mg : Str → Option Value} (X : K.In h) (G : h.Ns mainGlobals mg) (c : He.SaysD fa fn K) : Df K mg "_law_row" s__law_row ["_law_script", "_law_first", "_law_last"] := by
  obtain ⟨fd, F⟩ := c.def_ 42 (d := d__law_row) rfl
  exact ⟨_, fd, F, He.glo_ok X G (c.fact 42 (f := .glo "_law_row") rfl), FunD.bindsN F fun _ _ _ _ _ _ us hl => match us, hl with | [_, _, _], _ => rfl⟩
theorem df__law_states {K : PySem.W.Frag} {h : Heap} {mg : Str → Option Value} (X : K.In h) (G : h.Ns mainGlobals mg) (c : He.SaysD fa fn K) : Df K mg "_law_states" s__law_states ["_law_box", "_law_many", "_law_letters"] := by
  obtain ⟨fd, F⟩ := c.def_ 45 (d := d__law_states) rfl
  exact ⟨_, fd, F, He.glo_ok X G (c.fact 45 (f := .glo "_law_states") rfl), FunD.bindsN F fun _ _ _ _ _ _ us hl => match us, hl with | [_, _, _], _ => rfl⟩
theorem df__law_alphabet {K : PySem.W.Frag} {h : Heap} {mg : Str → Option Value} (X : K.In h) (G : h.Ns mainGlobals mg) (c : He.SaysD fa fn K) : Df K mg "_law_alphabet" s__law_alphabet ["_law_box", "_law_many"] := by
  obtain ⟨fd, F⟩ := c.def_ 47 (d := d__law_alphabet) rfl
  exact ⟨_, fd, F, He.glo_ok X G (c.fact 47 (f := .glo "_law_alphabet") rfl), FunD.bindsN F fun _ _ _ _ _ _ us hl => match us, hl with | [_, _], _ => rfl⟩
theorem df__law_doubled {K : PySem.W.Frag} {h : Heap} {mg : Str → Option Value} (X : K.In h) (G : h.Ns mainGlobals mg) (c : He.SaysD fa fn K) : Df K mg "_law_doubled" s__law_doubled ["_law_box", "_law_many"] := by
  obtain ⟨fd, F⟩ := c.def_ 50 (d := d__law_doubled) rfl
  exact ⟨_, fd, F, He.glo_ok X G (c.fact 50 (f := .glo "_law_doubled") rfl), FunD.bindsN F fun _ _ _ _ _ _ us hl => match us, hl with | [_, _], _ => rfl⟩
theorem df__law_copy_of {K : PySem.W.Frag} {h : Heap} {mg : Str → Option Value} (X : K.In h) (G : h.Ns mainGlobals mg) (c : He.SaysD fa fn K) : Df K mg "_law_copy_of" s__law_copy_of ["_law_box", "_law_states_here", "_law_to"] := by
  obtain ⟨fd, F⟩ := c.def_ 52 (d := d__law_copy_of) rfl
  exact ⟨_, fd, F, He.glo_ok X G (c.fact 52 (f := .glo "_law_copy_of") rfl), FunD.bindsN F fun _ _ _ _ _ _ us hl => match us, hl with | [_, _, _], _ => rfl⟩
theorem df__law_near {K : PySem.W.Frag} {h : Heap} {mg : Str → Option Value} (X : K.In h) (G : h.Ns mainGlobals mg) (c : He.SaysD fa fn K) : Df K mg "_law_near" s__law_near ["_law_box", "_law_m"] := by
  obtain ⟨fd, F⟩ := c.def_ 53 (d := d__law_near) rfl
  exact ⟨_, fd, F, He.glo_ok X G (c.fact 53 (f := .glo "_law_near") rfl), FunD.bindsN F fun _ _ _ _ _ _ us hl => match us, hl with | [_, _], _ => rfl⟩
theorem df_least_parts {K : PySem.W.Frag} {h : Heap} {mg : Str → Option Value} (X : K.In h) (G : h.Ns mainGlobals mg) (c : He.SaysD fa fn K) : Df K mg "least_parts" s_least_parts ["left", "right", "table", "letters"] := by
  obtain ⟨fd, F⟩ := c.def_ 8 (d := d_least_parts) rfl
  exact ⟨_, fd, F, He.glo_ok X G (c.fact 8 (f := .glo "least_parts") rfl), FunD.bindsN F fun _ _ _ _ _ _ us hl => match us, hl with | [_, _, _, _], _ => rfl⟩
theorem df_init {K : PySem.W.Frag} {h : Heap} {mg : Str → Option Value} (X : K.In h) (G : h.Ns mainGlobals mg) (c : He.SaysD fa fn K) : DfI K (He.ga K "Machine") s_init ["self", "reads", "writes", "left", "right", "table"] := by
  obtain ⟨fd, F⟩ := c.def_ 55 (d := d_init) rfl
  exact ⟨_, fd, He.mkr_ok (c.fact 74 (f := .mkr "Machine") rfl), F, FunD.bindsN F fun _ _ _ _ _ _ us hl => match us, hl with | [_, _, _, _, _, _], _ => rfl⟩
theorem df_output_between {K : PySem.W.Frag} {h : Heap} {mg : Str → Option Value} (X : K.In h) (G : h.Ns mainGlobals mg) (c : He.SaysD fa fn K) : Df K mg "output_between" s_output_between ["machine", "left", "right", "word"] := by
  obtain ⟨fd, F⟩ := c.def_ 24 (d := d_output_between) rfl
  exact ⟨_, fd, F, He.glo_ok X G (c.fact 24 (f := .glo "output_between") rfl), FunD.bindsN F fun _ _ _ _ _ _ us hl => match us, hl with | [_, _, _, _], _ => rfl⟩
theorem df_separator {K : PySem.W.Frag} {h : Heap} {mg : Str → Option Value} (X : K.In h) (G : h.Ns mainGlobals mg) (c : He.SaysD fa fn K) : Df K mg "separator" s_separator ["machine", "side", "one", "two"] := by
  obtain ⟨fd, F⟩ := c.def_ 28 (d := d_separator) rfl
  exact ⟨_, fd, F, He.glo_ok X G (c.fact 28 (f := .glo "separator") rfl), FunD.bindsN F fun _ _ _ _ _ _ us hl => match us, hl with | [_, _, _, _], _ => rfl⟩
theorem df_difference {K : PySem.W.Frag} {h : Heap} {mg : Str → Option Value} (X : K.In h) (G : h.Ns mainGlobals mg) (c : He.SaysD fa fn K) : Df K mg "difference" s_difference ["one", "two"] := by
  obtain ⟨fd, F⟩ := c.def_ 36 (d := d_difference) rfl
  exact ⟨_, fd, F, He.glo_ok X G (c.fact 36 (f := .glo "difference") rfl), FunD.bindsN F fun _ _ _ _ _ _ us hl => match us, hl with | [_, _], _ => rfl⟩
theorem df__law_machine {K : PySem.W.Frag} {h : Heap} {mg : Str → Option Value} (X : K.In h) (G : h.Ns mainGlobals mg) (c : He.SaysD fa fn K) : Df K mg "_law_machine" s__law_machine ["_law_box", "_law_ins", "_law_outs", "_law_most"] := by
  obtain ⟨fd, F⟩ := c.def_ 46 (d := d__law_machine) rfl
  exact ⟨_, fd, F, He.glo_ok X G (c.fact 46 (f := .glo "_law_machine") rfl), FunD.bindsN F fun _ _ _ _ _ _ us hl => match us, hl with | [_, _, _, _], _ => rfl⟩
theorem df__law_blown {K : PySem.W.Frag} {h : Heap} {mg : Str → Option Value} (X : K.In h) (G : h.Ns mainGlobals mg) (c : He.SaysD fa fn K) : Df K mg "_law_blown" s__law_blown ["_law_box", "_law_m"] := by
  obtain ⟨fd, F⟩ := c.def_ 51 (d := d__law_blown) rfl
  exact ⟨_, fd, F, He.glo_ok X G (c.fact 51 (f := .glo "_law_blown") rfl), FunD.bindsN F fun _ _ _ _ _ _ us hl => match us, hl with | [_, _], _ => rfl⟩
theorem df_run {K : PySem.W.Frag} {h : Heap} {mg : Str → Option Value} (X : K.In h) (G : h.Ns mainGlobals mg) (c : He.SaysD fa fn K) : Df K mg "run" s_run ["machine", "word"] := by
  obtain ⟨fd, F⟩ := c.def_ 25 (d := d_run) rfl
  exact ⟨_, fd, F, He.glo_ok X G (c.fact 25 (f := .glo "run") rfl), FunD.bindsN F fun _ _ _ _ _ _ us hl => match us, hl with | [_, _], _ => rfl⟩
theorem df__parts_left {K : PySem.W.Frag} {h : Heap} {mg : Str → Option Value} (X : K.In h) (G : h.Ns mainGlobals mg) (c : He.SaysD fa fn K) : Df K mg "_parts_left" s__parts_left ["machine", "a", "b", "word"] := by
  obtain ⟨fd, F⟩ := c.def_ 32 (d := d__parts_left) rfl
  exact ⟨_, fd, F, He.glo_ok X G (c.fact 32 (f := .glo "_parts_left") rfl), FunD.bindsN F fun _ _ _ _ _ _ us hl => match us, hl with | [_, _, _, _], _ => rfl⟩
theorem df__parts_right {K : PySem.W.Frag} {h : Heap} {mg : Str → Option Value} (X : K.In h) (G : h.Ns mainGlobals mg) (c : He.SaysD fa fn K) : Df K mg "_parts_right" s__parts_right ["machine", "a", "b", "word"] := by
  obtain ⟨fd, F⟩ := c.def_ 33 (d := d__parts_right) rfl
  exact ⟨_, fd, F, He.glo_ok X G (c.fact 33 (f := .glo "_parts_right") rfl), FunD.bindsN F fun _ _ _ _ _ _ us hl => match us, hl with | [_, _, _, _], _ => rfl⟩
theorem df_is_same {K : PySem.W.Frag} {h : Heap} {mg : Str → Option Value} (X : K.In h) (G : h.Ns mainGlobals mg) (c : He.SaysD fa fn K) : Df K mg "is_same" s_is_same ["one", "two"] := by
  obtain ⟨fd, F⟩ := c.def_ 37 (d := d_is_same) rfl
  exact ⟨_, fd, F, He.glo_ok X G (c.fact 37 (f := .glo "is_same") rfl), FunD.bindsN F fun _ _ _ _ _ _ us hl => match us, hl with | [_, _], _ => rfl⟩
theorem df_least {K : PySem.W.Frag} {h : Heap} {mg : Str → Option Value} (X : K.In h) (G : h.Ns mainGlobals mg) (c : He.SaysD fa fn K) : Df K mg "least" s_least ["machine"] := by
  obtain ⟨fd, F⟩ := c.def_ 26 (d := d_least) rfl
  exact ⟨_, fd, F, He.glo_ok X G (c.fact 26 (f := .glo "least") rfl), FunD.bindsN F fun _ _ _ _ _ _ us hl => match us, hl with | [_], _ => rfl⟩
theorem df_is_least_paper {K : PySem.W.Frag} {h : Heap} {mg : Str → Option Value} (X : K.In h) (G : h.Ns mainGlobals mg) (c : He.SaysD fa fn K) : Df K mg "is_least_paper" s_is_least_paper ["machine", "paper"] := by
  obtain ⟨fd, F⟩ := c.def_ 34 (d := d_is_least_paper) rfl
  exact ⟨_, fd, F, He.glo_ok X G (c.fact 34 (f := .glo "is_least_paper") rfl), FunD.bindsN F fun _ _ _ _ _ _ us hl => match us, hl with | [_, _], _ => rfl⟩
theorem df_same_paper {K : PySem.W.Frag} {h : Heap} {mg : Str → Option Value} (X : K.In h) (G : h.Ns mainGlobals mg) (c : He.SaysD fa fn K) : Df K mg "same_paper" s_same_paper ["one", "two"] := by
  obtain ⟨fd, F⟩ := c.def_ 38 (d := d_same_paper) rfl
  exact ⟨_, fd, F, He.glo_ok X G (c.fact 38 (f := .glo "same_paper") rfl), FunD.bindsN F fun _ _ _ _ _ _ us hl => match us, hl with | [_, _], _ => rfl⟩
theorem df__law_made {K : PySem.W.Frag} {h : Heap} {mg : Str → Option Value} (X : K.In h) (G : h.Ns mainGlobals mg) (c : He.SaysD fa fn K) : Df K mg "_law_made" s__law_made ["_law_m"] := by
  obtain ⟨fd, F⟩ := c.def_ 48 (d := d__law_made) rfl
  exact ⟨_, fd, F, He.glo_ok X G (c.fact 48 (f := .glo "_law_made") rfl), FunD.bindsN F fun _ _ _ _ _ _ us hl => match us, hl with | [_], _ => rfl⟩
theorem df_counts {K : PySem.W.Frag} {h : Heap} {mg : Str → Option Value} (X : K.In h) (G : h.Ns mainGlobals mg) (c : He.SaysD fa fn K) : Df K mg "counts" s_counts ["machine"] := by
  obtain ⟨fd, F⟩ := c.def_ 27 (d := d_counts) rfl
  exact ⟨_, fd, F, He.glo_ok X G (c.fact 27 (f := .glo "counts") rfl), FunD.bindsN F fun _ _ _ _ _ _ us hl => match us, hl with | [_], _ => rfl⟩
theorem df_least_paper {K : PySem.W.Frag} {h : Heap} {mg : Str → Option Value} (X : K.In h) (G : h.Ns mainGlobals mg) (c : He.SaysD fa fn K) : Df K mg "least_paper" s_least_paper ["machine"] := by
  obtain ⟨fd, F⟩ := c.def_ 31 (d := d_least_paper) rfl
  exact ⟨_, fd, F, He.glo_ok X G (c.fact 31 (f := .glo "least_paper") rfl), FunD.bindsN F fun _ _ _ _ _ _ us hl => match us, hl with | [_], _ => rfl⟩
theorem facts {P : Program} {w : World} {K : PySem.W.Frag} {h : Heap} {mg : Str → Option Value} {f : Addr} (X : K.In h) (G : h.Ns mainGlobals mg) (hfa : mg ("law" : Str) = some (.ref f)) (c : He.SaysD fa fn K) :
    ∃ fd : FuncData, (∀ (s : Shared) (v : Value), BindsTo s fd ⟨[v], []⟩ [("_law_script", v)]) ∧ ∀ base : Heap, K.In base → base.Ns mainGlobals mg → FnOk P w K mg base CX0 8 f fd ["_law_script"] (sp_law K) := by
  obtain ⟨fd, F⟩ := c.def_ 54 (d := d_law) rfl
  have e := hfa.symm.trans (He.glo_ok X G (c.fact 54 (f := .glo "law") rfl))
  cases e
  have b := FunD.bindsA (ps := ["_law_script"]) F fun _ _ _ _ _ _ us hl => match us, hl with | [_], _ => rfl
  refine ⟨fd, fun s v => b s [v] rfl, fun base _ _ => ?_⟩
  have Z := glo_of X G c
  have Mc := mcl_of X G c
  have C_reached_behind : Cal P w K mg base "reached_behind" ["rows", "start"] 1 sp_reached_behind := ok_reached_behind (df_reached_behind X G c) Z Mc 
  have C_reached_in_front : Cal P w K mg base "reached_in_front" ["rows", "start", "letters"] 1 sp_reached_in_front := ok_reached_in_front (df_reached_in_front X G c) Z Mc 
  have C_kept_rows : Cal P w K mg base "kept_rows" ["rows", "order"] 1 sp_kept_rows := ok_kept_rows (df_kept_rows X G c) Z Mc 
  have C__numbered : Cal P w K mg base "_numbered" ["keys"] 1 sp__numbered := ok__numbered (df__numbered X G c) Z Mc 
  have C__chosen : Cal P w K mg base "_chosen" ["rows", "parts"] 1 sp__chosen := ok__chosen (df__chosen X G c) Z Mc 
  have C_is_alphabet : Cal P w K mg base "is_alphabet" ["thing"] 1 sp_is_alphabet := ok_is_alphabet (df_is_alphabet X G c) Z Mc 
  have C_is_word : Cal P w K mg base "is_word" ["alphabet", "thing"] 1 sp_is_word := ok_is_word (df_is_word X G c) Z Mc 
  have C_codes : Cal P w K mg base "codes" ["alphabet", "word"] 1 sp_codes := ok_codes (df_codes X G c) Z Mc 
  have C_spelled : Cal P w K mg base "spelled" ["alphabet", "indexes"] 1 sp_spelled := ok_spelled (df_spelled X G c) Z Mc 
  have C_pairs_behind : Cal P w K mg base "pairs_behind" ["one", "two", "start"] 1 (sp_pairs_behind (He.ga K "Machine")) := ok_pairs_behind (df_pairs_behind X G c) Z Mc 
  have C_pairs_in_front : Cal P w K mg base "pairs_in_front" ["one", "two", "start"] 1 (sp_pairs_in_front (He.ga K "Machine")) := ok_pairs_in_front (df_pairs_in_front X G c) Z Mc 
  have C__parting : Cal P w K mg base "_parting" ["one", "two", "lefts", "rights"] 1 (sp__parting (He.ga K "Machine")) := ok__parting (df__parting X G c) Z Mc 
  have C__are_rows : Cal P w K mg base "_are_rows" ["thing", "letters"] 1 sp__are_rows := ok__are_rows (df__are_rows X G c) Z Mc 
  have C_form : Cal P w K mg base "form" ["machine"] 1 (sp_form (He.ga K "Machine")) := ok_form (df_form X G c) Z Mc 
  have C__along : Cal P w K mg base "_along" ["rows", "start", "indexes"] 1 sp__along := ok__along (df__along X G c) Z Mc 
  have C_state_pairs : Cal P w K mg base "state_pairs" ["count"] 1 sp_state_pairs := ok_state_pairs (df_state_pairs X G c) Z Mc 
  have C__require_alike : Cal P w K mg base "_require_alike" ["one", "two"] 1 (sp__require_alike (He.ga K "Machine")) := ok__require_alike (df__require_alike X G c) Z Mc 
  have C__are_closed : Cal P w K mg base "_are_closed" ["one", "two", "pairs"] 1 sp__are_closed := ok__are_closed (df__are_closed X G c) Z Mc 
  have C__law_cell : Cal P w K mg base "_law_cell" ["_law_script", "_law_k"] 1 (sp__law_cell K) := ok__law_cell (df__law_cell X G c) Z Mc 
  have C__law_draw : Cal P w K mg base "_law_draw" ["_law_box", "_law_many"] 1 sp__law_draw := ok__law_draw (df__law_draw X G c) Z Mc 
  have C_left_words : Cal P w K mg base "left_words" ["machine"] 2 (sp_left_words (He.ga K "Machine")) := ok_left_words (df_left_words X G c) Z Mc C_reached_behind
  have C_right_words : Cal P w K mg base "right_words" ["machine"] 2 (sp_right_words (He.ga K "Machine")) := ok_right_words (df_right_words X G c) Z Mc C_reached_in_front
  have C_classes : Cal P w K mg base "classes" ["rows", "marks"] 2 sp_classes := ok_classes (df_classes X G c) Z Mc C__numbered
  have C_first_difference : Cal P w K mg base "first_difference" ["one", "two", "lefts", "rights"] 2 (sp_first_difference (He.ga K "Machine")) := ok_first_difference (df_first_difference X G c) Z Mc C_pairs_in_front C_pairs_behind C__parting C_spelled
  have C__is_table : Cal P w K mg base "_is_table" ["thing", "left", "right", "letters", "writes"] 2 sp__is_table := ok__is_table (df__is_table X G c) Z Mc C_is_word
  have C_left_state : Cal P w K mg base "left_state" ["machine", "word"] 2 (sp_left_state (He.ga K "Machine")) := ok_left_state (df_left_state X G c) Z Mc C__along C_codes
  have C_right_state : Cal P w K mg base "right_state" ["machine", "word"] 2 (sp_right_state (He.ga K "Machine")) := ok_right_state (df_right_state X G c) Z Mc C__along C_codes
  have C_states_between : Cal P w K mg base "states_between" ["machine", "left", "right", "indexes"] 2 (sp_states_between (He.ga K "Machine")) := ok_states_between (df_states_between X G c) Z Mc C__along
  have C__words : Cal P w K mg base "_words" ["machine", "found"] 2 (sp__words (He.ga K "Machine")) := ok__words (df__words X G c) Z Mc C_spelled
  have C_is_same_paper : Cal P w K mg base "is_same_paper" ["one", "two", "paper"] 2 (sp_is_same_paper (He.ga K "Machine")) := ok_is_same_paper (df_is_same_paper X G c) Z Mc C__are_closed
  have C__law_row : Cal P w K mg base "_law_row" ["_law_script", "_law_first", "_law_last"] 2 (sp__law_row K) := ok__law_row (df__law_row X G c) Z Mc C__law_cell
  have C__law_states : Cal P w K mg base "_law_states" ["_law_box", "_law_many", "_law_letters"] 2 sp__law_states := ok__law_states (df__law_states X G c) Z Mc C__law_draw
  have C__law_alphabet : Cal P w K mg base "_law_alphabet" ["_law_box", "_law_many"] 2 sp__law_alphabet := ok__law_alphabet (df__law_alphabet X G c) Z Mc C__law_draw
  have C__law_doubled : Cal P w K mg base "_law_doubled" ["_law_box", "_law_many"] 2 sp__law_doubled := ok__law_doubled (df__law_doubled X G c) Z Mc C__law_draw
  have C__law_copy_of : Cal P w K mg base "_law_copy_of" ["_law_box", "_law_states_here", "_law_to"] 2 sp__law_copy_of := ok__law_copy_of (df__law_copy_of X G c) Z Mc C__law_draw
  have C__law_near : Cal P w K mg base "_law_near" ["_law_box", "_law_m"] 2 sp__law_near := ok__law_near (df__law_near X G c) Z Mc C__law_draw
  have C_least_parts : Cal P w K mg base "least_parts" ["left", "right", "table", "letters"] 3 sp_least_parts := ok_least_parts (df_least_parts X G c) Z Mc C_reached_behind C_reached_in_front C_kept_rows C__chosen C_classes
  have C_init : CalI P w K mg base (He.ga K "Machine") ["self", "reads", "writes", "left", "right", "table"] 3 (sp_init (He.ga K "Machine")) := ok_init (df_init X G c) Z Mc C_is_alphabet C__are_rows C__is_table
  have C_output_between : Cal P w K mg base "output_between" ["machine", "left", "right", "word"] 3 (sp_output_between (He.ga K "Machine")) := ok_output_between (df_output_between X G c) Z Mc C_codes C_states_between
  have C_separator : Cal P w K mg base "separator" ["machine", "side", "one", "two"] 3 (sp_separator (He.ga K "Machine")) := ok_separator (df_separator X G c) Z Mc C_first_difference
  have C_difference : Cal P w K mg base "difference" ["one", "two"] 3 (sp_difference (He.ga K "Machine")) := ok_difference (df_difference X G c) Z Mc C__require_alike C_first_difference
  have C__law_machine : Cal P w K mg base "_law_machine" ["_law_box", "_law_ins", "_law_outs", "_law_most"] 3 sp__law_machine := ok__law_machine (df__law_machine X G c) Z Mc C__law_draw C__law_states
  have C__law_blown : Cal P w K mg base "_law_blown" ["_law_box", "_law_m"] 3 sp__law_blown := ok__law_blown (df__law_blown X G c) Z Mc C__law_doubled C__law_copy_of
  have C_run : Cal P w K mg base "run" ["machine", "word"] 4 (sp_run (He.ga K "Machine")) := ok_run (df_run X G c) Z Mc C_output_between
  have C__parts_left : Cal P w K mg base "_parts_left" ["machine", "a", "b", "word"] 4 (sp__parts_left (He.ga K "Machine")) := ok__parts_left (df__parts_left X G c) Z Mc C_output_between
  have C__parts_right : Cal P w K mg base "_parts_right" ["machine", "a", "b", "word"] 4 (sp__parts_right (He.ga K "Machine")) := ok__parts_right (df__parts_right X G c) Z Mc C_output_between
  have C_is_same : Cal P w K mg base "is_same" ["one", "two"] 4 (sp_is_same (He.ga K "Machine")) := ok_is_same (df_is_same X G c) Z Mc C_difference
  have C_least : Cal P w K mg base "least" ["machine"] 5 (sp_least (He.ga K "Machine")) := ok_least (df_least X G c) Z Mc C_least_parts C_init
  have C_is_least_paper : Cal P w K mg base "is_least_paper" ["machine", "paper"] 5 (sp_is_least_paper (He.ga K "Machine")) := ok_is_least_paper (df_is_least_paper X G c) Z Mc C_state_pairs C_left_state C_right_state C__parts_left C__parts_right
  have C_same_paper : Cal P w K mg base "same_paper" ["one", "two"] 5 (sp_same_paper (He.ga K "Machine")) := ok_same_paper (df_same_paper X G c) Z Mc C_is_same C_pairs_behind C_pairs_in_front
  have C__law_made : Cal P w K mg base "_law_made" ["_law_m"] 5 (sp__law_made (He.ga K "Machine")) := ok__law_made (df__law_made X G c) Z Mc C_init
  have C_counts : Cal P w K mg base "counts" ["machine"] 6 (sp_counts (He.ga K "Machine")) := ok_counts (df_counts X G c) Z Mc C_least
  have C_least_paper : Cal P w K mg base "least_paper" ["machine"] 7 (sp_least_paper (He.ga K "Machine")) := ok_least_paper (df_least_paper X G c) Z Mc C_counts C_state_pairs C_separator C__words C_left_words C_right_words
  exact ok_law F Z Mc C__law_row C__law_alphabet C__law_draw C__law_machine C__law_blown C__law_near C__law_made C_least C_least_paper C_is_same C_is_least_paper C_form C_difference C_same_paper C_is_same_paper C_counts C_run
end FA
end
section
namespace FA
open PySem PySem.Spec PyProof.Rows L2
abbrev R : PySem.W.OpenRow := PySem.W.OpenLaw.row PySem.Challenge.rw_foreaft_k80_whole_same_exactly_if_least
abbrev hk : PySem.W.Hook := He.hookD 5 fa fn
def ob (s : PySem.W.SharedT) : He.AlD := He.obsDG 5 fa fn (HandSHeadRun.getT s)
theorem ob_eq (s : PySem.W.SharedT) : ob s = hk.obs s.abs := He.obsDG_eq (HandSHeadRun.getT_eq s)
theorem run (w : World) : HandSHeadRun.RunEq R (PySem.W.view R.prog [69]) hk ob 3000 loose w := by
  intro os
  kernel_rfl
end FA
end
section
open PySem PySem.W PySem.Calls PyProof.Rows
theorem PySem.Challenge.cw_foreaft_k80_whole_same_exactly_if_least_holds : PySem.Challenge.rw_foreaft_k80_whole_same_exactly_if_least.Holds := by
  w_on; o_law
  refine HandSHeadRun.head_any (r := OpenLaw.row PySem.Challenge.rw_foreaft_k80_whole_same_exactly_if_least) (q := view (OpenLaw.row PySem.Challenge.rw_foreaft_k80_whole_same_exactly_if_least).prog [69]) (H := FA.hk) (ob := FA.ob) (M := 3000) (loose := FA.loose) (d := HandSHeadRun.topDef (OpenLaw.row PySem.Challenge.rw_foreaft_k80_whole_same_exactly_if_least).prog 69) (kwd := []) FA.ob_eq
    (by kernel_rfl) (fun s => by kernel_rfl) FA.run (by kernel_rfl) (by kernel_rfl) (by kernel_rfl) (by rfl) (by first | assumption | decide +kernel) (by decide +kernel) ⟨rfl, rfl, rfl, rfl, rfl, by decide +kernel⟩ ?hw ?hc
  case hw => w_witness2
  case hc =>
    refine L2.walk_ofE (l := PySem.Challenge.rw_foreaft_k80_whole_same_exactly_if_least) (n := 63) (k := 8) (x := "_law_script") (CX := L2.CX0) rfl (by decide) (by kernel_rfl) ⟨rfl, by decide, by decide⟩ ?F (fun _ _ _ _ z => z)
    intro w mg fa h Y G hmg0
    obtain ⟨K, KX, c⟩ := Y
    have hmg : mg ("law" : PySem.Str) = some (.ref fa) := by
      have e : (HandSHeadRun.topDef (OpenLaw.row PySem.Challenge.rw_foreaft_k80_whole_same_exactly_if_least).prog 69).name = ("law" : PySem.Str) := by kernel_rfl
      rw [← e]
      exact hmg0
    obtain ⟨fd, hb, hF⟩ := FA.facts (P := (PySem.Challenge.rw_foreaft_k80_whole_same_exactly_if_least).prog) (w := w) KX G hmg c
    exact ⟨K, fd, FA.sp_law K, KX, hb, fun H a ns hl _ hS => ⟨a, ns, rfl, hS, hl, fun _ => rfl⟩, hF⟩
end
