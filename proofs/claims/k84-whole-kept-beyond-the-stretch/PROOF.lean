import PyProof.Rows.All
import Wide.All
import OpenK.AllK
import Wide.FinOn
import HandS.ForMost
import HandS.ForExc
import HandS.IsInst
import HandS.Conv
import HandS.Codes
import HandS.Walk
import KE.GoesEnum
import PySem.Challenge.RW_linegrow_k84_whole_kept_beyond_the_stret
set_option Elab.async false
set_option linter.all false
set_option maxRecDepth 100000
set_option maxHeartbeats 4000000
/-! The plain law of rows by blocks: each letter of the first row has its block in every later row, and a block looks at its two neighbours alone. -/
namespace LG
abbrev Tx := List Nat
/-- a rule: the letter ahead, the letter, the letter behind, the word -/
structure Rl where
  lf : Tx
  me : Tx
  rt : Tx
  wd : Tx
def meetsB (told side : Tx) : Bool := decide (told = []) || decide (told = side)
def fitB (l c r : Tx) (R : Rl) : Bool := decide (R.me = c) && (meetsB R.lf l && meetsB R.rt r)
def ruleFor (rs : List Rl) (l c r : Tx) : Option Nat := rs.findIdx? (fitB l c r)
def wordOf (rs : List Rl) (l c r : Nat) : Tx := match rs.find? (fitB [l] [c] [r]) with
  | some R => R.wd
  | none => [c]
/-- the words of a text's letters, l ahead of the text and r behind it -/
def ws (rs : List Rl) (l : Nat) : Tx → Nat → List Tx
  | [], _ => []
  | c :: t, r => wordOf rs l c (t.headD r) :: ws rs c t r
theorem ws_len (rs : List Rl) : ∀ (t : Tx) (l r : Nat), (ws rs l t r).length = t.length
  | [], _, _ => rfl
  | c :: t, l, r => by
    show (ws rs c t r).length + 1 = t.length + 1
    rw [ws_len rs t c r]
theorem ws_app (rs : List Rl) : ∀ (a b : Tx) (l r : Nat), ws rs l (a ++ b) r = ws rs l a (b.headD r) ++ ws rs (a.getLastD l) b r
  | [], _, _, _ => rfl
  | [c], b, l, r => rfl
  | c :: d :: a, b, l, r => by
    have ih := ws_app rs (d :: a) b c r
    show wordOf rs l c d :: ws rs c (d :: a ++ b) r = wordOf rs l c d :: ws rs c (d :: a) (b.headD r) ++ ws rs ((c :: d :: a).getLastD l) b r
    rw [ih]
    rfl
/-- the i-th word by the padded text -/
theorem ws_at (rs : List Rl) : ∀ (t : Tx) (l r : Nat) (i : Nat) (x y z : Nat), (l :: (t ++ [r]))[i]? = some x → t[i]? = some y → (l :: (t ++ [r]))[i + 2]? = some z → (ws rs l t r)[i]? = some (wordOf rs x y z)
  | [], _, _, _, _, _, _, _, h, _ => by simp at h
  | [c], l, r, 0, x, y, z, h1, h2, h3 => by
    simp at h1 h2 h3
    subst h1 h2 h3
    rfl
  | c :: d :: t, l, r, 0, x, y, z, h1, h2, h3 => by
    simp at h1 h2 h3
    subst h1 h2 h3
    rfl
  | c :: t, l, r, i + 1, x, y, z, h1, h2, h3 => by
    have ih := ws_at rs t c r i x y z (by simpa using h1) (by simpa using h2) (by simpa using h3)
    show (ws rs c t r)[i]? = some (wordOf rs x y z)
    exact ih
theorem ruleFor_word (rs : List Rl) (l c r : Nat) : (∀ k, ruleFor rs [l] [c] [r] = some k → ∃ R, rs[k]? = some R ∧ R.wd = wordOf rs l c r) ∧ (ruleFor rs [l] [c] [r] = none → wordOf rs l c r = [c]) := by
  unfold ruleFor wordOf
  induction rs with
  | nil => exact ⟨fun k h => (by simp at h), fun _ => rfl⟩
  | cons R rs ih =>
    rw [List.findIdx?_cons, List.find?_cons]
    cases hb : fitB [l] [c] [r] R with
    | true =>
      refine ⟨fun k h => ?_, fun h => ?_⟩
      · simp at h
        subst h
        exact ⟨R, rfl, rfl⟩
      · simp at h
    | false =>
      refine ⟨fun k h => ?_, fun h => ?_⟩
      · simp at h
        obtain ⟨j, hj, rfl⟩ := h
        obtain ⟨R', h1, h2⟩ := ih.1 j hj
        exact ⟨R', by simpa using h1, h2⟩
      · simp at h
        exact ih.2 (by simpa using h)
/-- how many letters the first i parts have -/
def pre (ps : List Tx) (i : Nat) : Nat := (ps.take i).flatten.length
theorem pre_zero (ps : List Tx) : pre ps 0 = 0 := rfl
theorem pre_succ {ps : List Tx} {i : Nat} {x : Tx} (h : ps[i]? = some x) : pre ps (i + 1) = pre ps i + x.length := by
  unfold pre
  rw [List.take_succ, h]
  simp
theorem pre_all (ps : List Tx) : pre ps ps.length = ps.flatten.length := by
  unfold pre
  rw [List.take_length]
theorem pre_app_le {a b : List Tx} {i : Nat} (h : i ≤ a.length) : pre (a ++ b) i = pre a i := by
  unfold pre
  rw [List.take_append_of_le_length h]
/-! ### rows with places -/
abbrev G := Tx × List Nat
def dot : Nat := 46
def parts (rs : List Rl) (t : Tx) : List Tx := ws rs dot t dot
def next (rs : List Rl) (g : G) : G := ((parts rs g.1).flatten, g.2.map (pre (parts rs g.1)))
def rowT (rs : List Rl) (first : Tx) : Nat → G
  | 0 => (first, List.range first.length)
  | n + 1 => next rs (rowT rs first n)
/-- no row up to the age n is too long -/
def okTo (rs : List Rl) (first : Tx) (n : Nat) : Prop := ∀ i, 1 ≤ i → i ≤ n → (rowT rs first i).1.length ≤ 600
theorem okTo_zero (rs : List Rl) (first : Tx) : okTo rs first 0 := fun i h1 h2 => by omega
theorem okTo.less {rs : List Rl} {first : Tx} {n m : Nat} (h : okTo rs first n) (hm : m ≤ n) : okTo rs first m := fun i h1 h2 => h i h1 (by omega)
theorem okTo_succ {rs : List Rl} {first : Tx} {n : Nat} (h : okTo rs first n) (h1 : (rowT rs first (n + 1)).1.length ≤ 600) : okTo rs first (n + 1) := fun i h2 h3 => by
  by_cases e : i = n + 1
  · rw [e]
    exact h1
  · exact h i h2 (by omega)
theorem okTo.row {rs : List Rl} {first : Tx} {n m : Nat} (h : okTo rs first n) (hf : first.length ≤ 12) (hm : m ≤ n) : (rowT rs first m).1.length ≤ 600 := by
  cases m with
  | zero => exact Nat.le_trans hf (by decide)
  | succ m => exact h _ (by omega) hm
/-! ### blocks -/
def stepB (rs : List Rl) (l : Nat) : List Tx → Nat → List Tx
  | [], _ => []
  | b :: B, r => (ws rs l b (B.flatten.headD r)).flatten :: stepB rs (b.getLastD l) B r
theorem stepB_len (rs : List Rl) : ∀ (B : List Tx) (l r : Nat), (stepB rs l B r).length = B.length
  | [], _, _ => rfl
  | b :: B, l, r => by
    show (stepB rs (b.getLastD l) B r).length + 1 = B.length + 1
    rw [stepB_len rs B]
theorem getLastD_app (a b : Tx) (l : Nat) : (a ++ b).getLastD l = b.getLastD (a.getLastD l) := by
  cases b with
  | nil => simp
  | cons c b =>
    rw [List.getLastD_eq_getLast?, List.getLastD_eq_getLast?, List.getLast?_append]
    simp
theorem headD_app (a b : Tx) (r : Nat) : (a ++ b).headD r = a.headD (b.headD r) := by
  cases a with
  | nil => rfl
  | cons c a => rfl
theorem stepB_app (rs : List Rl) : ∀ (A B : List Tx) (l r : Nat), stepB rs l (A ++ B) r = stepB rs l A (B.flatten.headD r) ++ stepB rs (A.flatten.getLastD l) B r
  | [], B, l, r => rfl
  | b :: A, B, l, r => by
    have ih := stepB_app rs A B (b.getLastD l) r
    show (ws rs l b ((A ++ B).flatten.headD r)).flatten :: stepB rs (b.getLastD l) (A ++ B) r = (ws rs l b (A.flatten.headD (B.flatten.headD r))).flatten :: stepB rs (b.getLastD l) A (B.flatten.headD r) ++ stepB rs ((b ++ A.flatten).getLastD l) B r
    rw [ih, getLastD_app, List.flatten_append, headD_app]
    rfl
theorem stepB_flat (rs : List Rl) : ∀ (B : List Tx) (l r : Nat), (stepB rs l B r).flatten = (ws rs l B.flatten r).flatten
  | [], _, _ => rfl
  | b :: B, l, r => by
    show (ws rs l b (B.flatten.headD r)).flatten ++ (stepB rs (b.getLastD l) B r).flatten = (ws rs l (b ++ B.flatten) r).flatten
    rw [stepB_flat rs B, ws_app, List.flatten_append]
theorem stepB_pre (rs : List Rl) (B : List Tx) (l r : Nat) (i : Nat) : pre (ws rs l B.flatten r) (pre B i) = pre (stepB rs l B r) i := by
  by_cases hi : i ≤ B.length
  · have e : B = B.take i ++ B.drop i := (List.take_append_drop i B).symm
    have h1 : (stepB rs l B r).take i = stepB rs l (B.take i) ((B.drop i).flatten.headD r) := by
      conv => lhs; rw [e]
      rw [stepB_app, List.take_append_of_le_length (by rw [stepB_len, List.length_take]; omega), List.take_of_length_le (by rw [stepB_len, List.length_take]; omega)]
    have h2 : (ws rs l B.flatten r).take (pre B i) = ws rs l (B.take i).flatten ((B.drop i).flatten.headD r) := by
      conv => lhs; rw [e]
      rw [List.flatten_append, ws_app]
      have hp : pre (B.take i ++ B.drop i) i = (B.take i).flatten.length := by
        unfold pre
        rw [List.take_append_drop]
      rw [hp, List.take_append_of_le_length (by rw [ws_len]; exact Nat.le_refl _), List.take_of_length_le (by rw [ws_len]; exact Nat.le_refl _)]
    show ((ws rs l B.flatten r).take (pre B i)).flatten.length = ((stepB rs l B r).take i).flatten.length
    rw [h1, h2, stepB_flat]
  · have h1 : (stepB rs l B r).take i = stepB rs l B r := List.take_of_length_le (by rw [stepB_len]; omega)
    have h2 : B.take i = B := List.take_of_length_le (by omega)
    show ((ws rs l B.flatten r).take (B.take i).flatten.length).flatten.length = ((stepB rs l B r).take i).flatten.length
    rw [h1, h2, stepB_flat, List.take_of_length_le (by rw [ws_len]; exact Nat.le_refl _)]
def blocks (rs : List Rl) (first : Tx) : Nat → List Tx
  | 0 => first.map fun c => [c]
  | n + 1 => stepB rs dot (blocks rs first n) dot
theorem blocks_len (rs : List Rl) (first : Tx) : ∀ n, (blocks rs first n).length = first.length
  | 0 => by simp [blocks]
  | n + 1 => by
    show (stepB rs dot (blocks rs first n) dot).length = first.length
    rw [stepB_len, blocks_len rs first n]
theorem flat_ones : ∀ l : Tx, (l.map fun c => [c]).flatten = l
  | [] => rfl
  | c :: l => by
    show c :: (l.map fun c => [c]).flatten = c :: l
    rw [flat_ones l]
theorem pre_ones (l : Tx) (i : Nat) (h : i ≤ l.length) : pre (l.map fun c => [c]) i = i := by
  unfold pre
  rw [← List.map_take, flat_ones, List.length_take]
  omega
theorem rowT_blocks (rs : List Rl) (first : Tx) : ∀ n, rowT rs first n = ((blocks rs first n).flatten, (List.range first.length).map (pre (blocks rs first n)))
  | 0 => by
    show (first, List.range first.length) = ((first.map fun c => [c]).flatten, (List.range first.length).map (pre (first.map fun c => [c])))
    rw [flat_ones]
    refine congrArg (Prod.mk first) ?_
    have e : (List.range first.length).map (pre (first.map fun c => [c])) = (List.range first.length).map id := List.map_congr_left fun i hi => pre_ones first i (Nat.le_of_lt (List.mem_range.mp hi))
    rw [e, List.map_id]
  | n + 1 => by
    show next rs (rowT rs first n) = ((stepB rs dot (blocks rs first n) dot).flatten, (List.range first.length).map (pre (stepB rs dot (blocks rs first n) dot)))
    rw [rowT_blocks rs first n]
    show ((ws rs dot (blocks rs first n).flatten dot).flatten, ((List.range first.length).map (pre (blocks rs first n))).map (pre (ws rs dot (blocks rs first n).flatten dot))) = _
    rw [← stepB_flat, List.map_map]
    refine congrArg (Prod.mk _) (List.map_congr_left fun i _ => ?_)
    exact stepB_pre rs (blocks rs first n) dot dot i
/-- words that are not empty keep blocks that are not empty -/
def WNe (rs : List Rl) : Prop := ∀ R ∈ rs, R.wd ≠ []
theorem wordOf_ne {rs : List Rl} (h : WNe rs) (l c r : Nat) : wordOf rs l c r ≠ [] := by
  unfold wordOf
  cases e : rs.find? (fitB [l] [c] [r]) with
  | none => simp
  | some R => exact h R (List.mem_of_find?_eq_some e)
theorem ws_ne {rs : List Rl} (h : WNe rs) {t : Tx} (ht : t ≠ []) (l r : Nat) : (ws rs l t r).flatten ≠ [] := by
  cases t with
  | nil => exact absurd rfl ht
  | cons c t =>
    intro e
    have e2 : wordOf rs l c (t.headD r) ++ (ws rs c t r).flatten = [] := e
    exact wordOf_ne h _ _ _ (List.append_eq_nil_iff.mp e2).1
theorem stepB_ne {rs : List Rl} (h : WNe rs) : ∀ (B : List Tx) (l r : Nat), (∀ b ∈ B, b ≠ []) → ∀ b ∈ stepB rs l B r, b ≠ []
  | [], _, _, _, b, hb => by cases hb
  | a :: B, l, r, hB, b, hb => by
    rcases List.mem_cons.mp hb with e | hb
    · rw [e]
      exact ws_ne h (hB a List.mem_cons_self) _ _
    · exact stepB_ne h B _ _ (fun c hc => hB c (List.mem_cons_of_mem _ hc)) b hb
theorem blocks_ne {rs : List Rl} (h : WNe rs) (first : Tx) : ∀ n, ∀ b ∈ blocks rs first n, b ≠ []
  | 0, b, hb => by
    obtain ⟨c, _, rfl⟩ := List.mem_map.mp hb
    simp
  | n + 1, b, hb => stepB_ne h _ _ _ (blocks_ne h first n) b hb
theorem headD_flat {b : Tx} (hb : b ≠ []) (B : List Tx) (r r' : Nat) : (b :: B).flatten.headD r = b.headD r' := by
  cases b with
  | nil => exact absurd rfl hb
  | cons c b => rfl
theorem lastD_flat {b : Tx} (hb : b ≠ []) (B : List Tx) (l l' : Nat) : (B ++ [b]).flatten.getLastD l = b.getLastD l' := by
  rw [List.flatten_append, getLastD_app]
  cases b with
  | nil => exact absurd rfl hb
  | cons c b => simp [List.getLastD]
/-- two first rows that begin alike for p letters: their blocks at age t are alike for p - t of them -/
theorem begin_alike {rs : List Rl} (h : WNe rs) {A B : Tx} {U X Y : Tx} (eA : A = U ++ X) (eB : B = U ++ Y) : ∀ t, ∃ U' X' Y' : List Tx, blocks rs A t = U' ++ X' ∧ blocks rs B t = U' ++ Y' ∧ U'.length = U.length - t
  | 0 => ⟨U.map fun c => [c], X.map fun c => [c], Y.map fun c => [c], by rw [eA]; simp [blocks], by rw [eB]; simp [blocks], by simp⟩
  | t + 1 => by
    obtain ⟨U', X', Y', e1, e2, e3⟩ := begin_alike h eA eB t
    by_cases hU : U' = []
    · subst hU
      exact ⟨[], stepB rs dot (blocks rs A t) dot, stepB rs dot (blocks rs B t) dot, rfl, rfl, by simp at e3 ⊢; omega⟩
    · obtain ⟨V, b, e⟩ : ∃ V b, U' = V ++ [b] := ⟨U'.dropLast, U'.getLast hU, (List.dropLast_concat_getLast hU).symm⟩
      subst e
      have hb : b ≠ [] := blocks_ne h A t b (by rw [e1]; simp)
      have f1 : blocks rs A (t + 1) = stepB rs dot V (b.headD dot) ++ stepB rs (V.flatten.getLastD dot) (b :: X') dot := by
        show stepB rs dot (blocks rs A t) dot = _
        rw [e1, List.append_assoc, stepB_app]
        show stepB rs dot V ((b :: X').flatten.headD dot) ++ _ = _
        rw [headD_flat hb X' dot dot]
        rfl
      have f2 : blocks rs B (t + 1) = stepB rs dot V (b.headD dot) ++ stepB rs (V.flatten.getLastD dot) (b :: Y') dot := by
        show stepB rs dot (blocks rs B t) dot = _
        rw [e2, List.append_assoc, stepB_app]
        show stepB rs dot V ((b :: Y').flatten.headD dot) ++ _ = _
        rw [headD_flat hb Y' dot dot]
        rfl
      refine ⟨_, _, _, f1, f2, ?_⟩
      rw [stepB_len]
      simp at e3
      omega
/-- .. that end alike -/
theorem end_alike {rs : List Rl} (h : WNe rs) {A B : Tx} {U X Y : Tx} (eA : A = X ++ U) (eB : B = Y ++ U) : ∀ t, ∃ U' X' Y' : List Tx, blocks rs A t = X' ++ U' ∧ blocks rs B t = Y' ++ U' ∧ U'.length = U.length - t
  | 0 => ⟨U.map fun c => [c], X.map fun c => [c], Y.map fun c => [c], by rw [eA]; simp [blocks], by rw [eB]; simp [blocks], by simp⟩
  | t + 1 => by
    obtain ⟨U', X', Y', e1, e2, e3⟩ := end_alike h eA eB t
    cases U' with
    | nil => exact ⟨[], stepB rs dot (blocks rs A t) dot, stepB rs dot (blocks rs B t) dot, by simp [blocks], by simp [blocks], by simp at e3 ⊢; omega⟩
    | cons b V =>
      have hb : b ≠ [] := blocks_ne h A t b (by rw [e1]; simp)
      have f1 : blocks rs A (t + 1) = stepB rs dot (X' ++ [b]) (V.flatten.headD dot) ++ stepB rs (b.getLastD dot) V dot := by
        show stepB rs dot (blocks rs A t) dot = _
        rw [e1, show X' ++ b :: V = (X' ++ [b]) ++ V by simp, stepB_app, lastD_flat hb X' dot dot]
      have f2 : blocks rs B (t + 1) = stepB rs dot (Y' ++ [b]) (V.flatten.headD dot) ++ stepB rs (b.getLastD dot) V dot := by
        show stepB rs dot (blocks rs B t) dot = _
        rw [e2, show Y' ++ b :: V = (Y' ++ [b]) ++ V by simp, stepB_app, lastD_flat hb Y' dot dot]
      refine ⟨_, _, _, f1, f2, ?_⟩
      rw [stepB_len]
      simp at e3
      omega
/-! ### the told stretch -/
/-- what span answers -/
def spanT (row : Tx) (places : List Nat) (place low high : Int) : Int × Int :=
  let lo := if low > 0 then low else 0
  let hi := if high < (places.length : Int) - 1 then high else (places.length : Int) - 1
  if lo > hi then (place, 0)
  else
    let e : Int := if hi + 1 < (places.length : Int) then (places.getD (hi + 1).toNat 0 : Nat) else row.length
    ((places.getD lo.toNat 0 : Nat), e - (places.getD lo.toNat 0 : Nat))
/-- line and elder have the told stretch between what is alike -/
def Apart (elder line : Tx) (told : Int × Int) : Prop := ∃ U M V N : Tx, line = U ++ (M ++ V) ∧ elder = U ++ (N ++ V) ∧ told = ((U.length : Int), (M.length : Int))
theorem pre_get {B : List Tx} {n i : Nat} (h : i < n) : ((List.range n).map (pre B)).getD i 0 = pre B i := by
  simp [List.getD, h]
/-- a first row B beside A: p letters alike ahead, s behind; the told places p - t to p + t - less, with p + t + 1 - less + s no less than B's length + t -/
theorem told_apart {rs : List Rl} (h : WNe rs) {A B U V M N : Tx} {less : Nat} (eA : A = U ++ (N ++ V)) (eB : B = U ++ (M ++ V)) (hM : M.length + less = 1) (hN : less ≤ N.length) (t : Nat) :
    Apart (rowT rs A t).1 (rowT rs B t).1 (spanT (rowT rs B t).1 (rowT rs B t).2 (U.length : Int) ((U.length : Int) - t) ((U.length : Int) + t - less)) := by
  obtain ⟨U1, X1, Y1, a1, b1, l1⟩ := begin_alike h eA eB t
  obtain ⟨V1, X2, Y2, a2, b2, l2⟩ := end_alike (A := A) (B := B) (X := U ++ N) (Y := U ++ M) (U := V) h (by rw [eA]; simp) (by rw [eB]; simp) t
  have nA : (blocks rs A t).length = U.length + (N.length + V.length) := by rw [blocks_len, eA]; simp
  have nB : (blocks rs B t).length = U.length + (M.length + V.length) := by rw [blocks_len, eB]; simp
  have nB' : B.length = U.length + (M.length + V.length) := by rw [eB]; simp
  -- the middle of both
  obtain ⟨Ma, ea⟩ : ∃ Ma, blocks rs A t = U1 ++ (Ma ++ V1) := by
    refine ⟨(blocks rs A t |>.drop U1.length).take (X2.length - U1.length), ?_⟩
    have hx : X2.length + V1.length = U.length + (N.length + V.length) := by rw [← nA, a2]; simp
    have e1 : (blocks rs A t).drop U1.length = X2.drop U1.length ++ V1 := by
      rw [a2, List.drop_append_of_le_length (by omega)]
    have e2 : ((blocks rs A t).drop U1.length).take (X2.length - U1.length) = X2.drop U1.length := by
      rw [e1, List.take_append_of_le_length (by rw [List.length_drop]; omega), List.take_of_length_le (by rw [List.length_drop]; omega)]
    rw [e2, ← e1]
    conv => lhs; rw [← List.take_append_drop U1.length (blocks rs A t)]
    rw [a1]
    simp
  obtain ⟨Mb, eb, lb⟩ : ∃ Mb, blocks rs B t = U1 ++ (Mb ++ V1) ∧ U1.length + (Mb.length + V1.length) = U.length + (M.length + V.length) := by
    refine ⟨(blocks rs B t |>.drop U1.length).take (Y2.length - U1.length), ?_⟩
    have hx : Y2.length + V1.length = U.length + (M.length + V.length) := by rw [← nB, b2]; simp
    by_cases hc : U1.length ≤ Y2.length
    · have e1 : (blocks rs B t).drop U1.length = Y2.drop U1.length ++ V1 := by
        rw [b2, List.drop_append_of_le_length (by omega)]
      have e2 : ((blocks rs B t).drop U1.length).take (Y2.length - U1.length) = Y2.drop U1.length := by
        rw [e1, List.take_append_of_le_length (by rw [List.length_drop]; omega), List.take_of_length_le (by rw [List.length_drop]; omega)]
      rw [e2, ← e1]
      refine ⟨?_, ?_⟩
      · conv => lhs; rw [← List.take_append_drop U1.length (blocks rs B t)]
        rw [b1]
        simp
      · rw [List.length_drop]
        omega
    · omega
  have rA : (rowT rs A t).1 = U1.flatten ++ (Ma.flatten ++ V1.flatten) := by
    rw [rowT_blocks, ea]; simp
  have rB : (rowT rs B t).1 = U1.flatten ++ (Mb.flatten ++ V1.flatten) := by
    rw [rowT_blocks, eb]; simp
  have pB : (rowT rs B t).2 = (List.range B.length).map (pre (blocks rs B t)) := by rw [rowT_blocks]
  have pl : (rowT rs B t).2.length = B.length := by rw [pB]; simp
  have p1 : pre (blocks rs B t) U1.length = U1.flatten.length := by
    rw [eb]
    unfold pre
    rw [List.take_append_of_le_length (Nat.le_refl _), List.take_length]
  have p2 : pre (blocks rs B t) (U1.length + Mb.length) = U1.flatten.length + Mb.flatten.length := by
    rw [eb, ← List.append_assoc]
    unfold pre
    rw [List.take_append_of_le_length (by simp), List.take_of_length_le (by simp)]
    simp
  refine ⟨U1.flatten, Mb.flatten, V1.flatten, Ma.flatten, rB, rA, ?_⟩
  -- the told numbers
  have hlo : (if (U.length : Int) - t > 0 then (U.length : Int) - t else 0) = (U1.length : Int) := by
    rw [l1]
    split <;> omega
  unfold spanT
  simp only []
  rw [pl, nB', hlo]
  have hhi : (if (U.length : Int) + t - less < ((U.length + (M.length + V.length) : Nat) : Int) - 1 then (U.length : Int) + t - less else ((U.length + (M.length + V.length) : Nat) : Int) - 1) = (U1.length : Int) + Mb.length - 1 := by
    split <;> omega
  rw [hhi]
  by_cases hc : (U1.length : Int) > (U1.length : Int) + Mb.length - 1
  · rw [if_pos hc]
    have hm0 : Mb = [] := List.eq_nil_of_length_eq_zero (by omega)
    subst hm0
    -- none of them: age 0, or no letter at all
    have ht : U1.flatten.length = U.length := by
      simp at lb
      by_cases h0 : t = 0
      · subst h0
        have hh : blocks rs B 0 = B.map fun c => [c] := rfl
        have hu : U1 = U.map fun c => [c] := by
          have := b1
          rw [hh, eB, List.map_append] at this
          exact (List.append_inj this (by rw [l1]; simp)).1.symm
        rw [hu, flat_ones]
      · have : U.length = 0 := by omega
        have h1 : U1 = [] := List.eq_nil_of_length_eq_zero (by omega)
        subst h1
        simp
        omega
    rw [ht]
    rfl
  · rw [if_neg hc]
    have hlt : U1.length < B.length := by omega
    have g1 : ((rowT rs B t).2.getD (U1.length : Int).toNat 0) = U1.flatten.length := by
      rw [pB, Int.toNat_natCast, pre_get hlt, p1]
    rw [g1]
    by_cases hd : (U1.length : Int) + Mb.length - 1 + 1 < ((U.length + (M.length + V.length) : Nat) : Int)
    · rw [if_pos hd]
      have g2 : ((rowT rs B t).2.getD ((U1.length : Int) + Mb.length - 1 + 1).toNat 0) = U1.flatten.length + Mb.flatten.length := by
        rw [pB, show ((U1.length : Int) + Mb.length - 1 + 1).toNat = U1.length + Mb.length by omega, pre_get (by omega), p2]
      rw [g2]
      refine congrArg (Prod.mk _) ?_
      omega
    · rw [if_neg hd]
      have hv : V1 = [] := List.eq_nil_of_length_eq_zero (by omega)
      subst hv
      rw [rB]
      refine congrArg (Prod.mk _) ?_
      simp
      omega
end LG

/-! enumerate of a tuple and of a text; list of a text: three rules beside the layer's. -/
namespace LG
open PySem PySem.Spec PyProof.Rows L2 SX
theorem meets_enum_one {v : Value} {o : Obj} {St : Heap → Prop} (B : Begins v o St) :
    Meets (Builtin.«enumerate.__new__» ⟨[.type "enumerate", v], []⟩) (fun _ R s => St s.heap ∧
      R (.ok (.ret (.ref (s.heap.push o).objs.size))) { s with heap := (s.heap.push o).push { cls := .type "enumerate", data := .fields #[.none, .bool false, .ref s.heap.objs.size, rawInt 0, .none, .none] } }) :=
  .of_wp fun prog w A R s h => by
    obtain ⟨hp, g, d, tk, os⟩ := s
    obtain ⟨h1, h⟩ := h
    have hsub := sub_enumerate
    have q1 : ∀ {A' : Around} {E : Value → Shared → Prop} {Q : Value → Shared → Prop}, Q (.ref hp.objs.size) ⟨hp.push o, g, d, tk, os⟩ → wpAny (model prog w) A' (pyIter v) Q E ⟨hp, g, d, tk, os⟩ :=
      fun q => B.iter prog w _ _ ⟨hp, g, d, tk, os⟩ _ h1 q
    wp_walk using q1
    refine wpAny_stack_any fun st => wpAny_pure ?_
    split
    · rename_i c _ _ _ _ _
      cases (c == Value.type "enumerate")
      · wp_walk using q1
        exact ⟨_, rfl, h⟩
      · wp_walk using q1
        exact ⟨_, rfl, h⟩
    · wp_walk using q1
      exact ⟨_, rfl, h⟩
theorem call_enum_one {prog : Program} {w : World} {A : Around} {E : Value → Shared → Prop} {s : Shared} {v : Value} {o : Obj} {St : Heap → Prop} {Q : Value → Shared → Prop} (B : Begins v o St) (h1 : St s.heap)
    (h : ∀ h', IsEnum h' (s.heap.objs.size + 1) s.heap.objs.size 0 .none → h'.get? s.heap.objs.size = some o → h'.objs.size = s.heap.objs.size + 2 → (∀ b u, s.heap.get? b = some u → h'.get? b = some u) → Q (.ref (s.heap.objs.size + 1)) { s with heap := h' }) :
    wpAny (model prog w) A (call (.type "enumerate") [v]) Q E s := by
  refine callType_new F.called_enumerate (by decide) (F.typeCall_enumerate_1 _) (F.newCall_enumerate_1 _) (fun obj => F.args_object_init_2 obj _) F.entry_enumerate_new (meets_enum_one B) ⟨h1, ?_⟩
  have hz : (s.heap.push o).objs.size = s.heap.objs.size + 1 := Heap.size_push ..
  show _ ∧ _
  rw [hz]
  have he : IsEnum ((s.heap.push o).push { cls := .type "enumerate", data := .fields #[.none, .bool false, .ref s.heap.objs.size, rawInt 0, .none, .none] }) (s.heap.objs.size + 1) s.heap.objs.size 0 .none := by
    have q := Heap.get?_push_size (s.heap.push o) (o := { cls := .type "enumerate", data := .fields #[.none, .bool false, .ref s.heap.objs.size, rawInt 0, .none, .none] }) rfl
    rw [hz] at q
    exact q
  exact ⟨⟨_, he, rfl⟩, h _ he (Heap.get?_push_of_some _ (Heap.get?_push_size _ B.free)) (by rw [Heap.size_push, hz]) fun b u x => Heap.get?_push_of_some _ (Heap.get?_push_of_some _ x)⟩
/-- the pairs (i, the i-th of xs), each in a new tuple, while G stands -/
def ItP (xs : List V) (Gd : Hp → Prop) : It :=
  ⟨fun i H => i < xs.length ∧ Gd H, fun i H v H' => ∃ T x, v = .ref T ∧ H T = none ∧ H' = upd H T (.tup [.int (i : Nat), x]) ∧ xs[i]? = some x, fun i H => i = xs.length ∧ Gd H⟩
/-- what draws xs at the moment -/
def Drawn (P : Program) (w : World) (A : Around) (e it : Addr) (xs : List V) (Sx : Nat → Heap → Prop) (i : Nat) (h : Heap) : Prop :=
  ∃ (fp : List Addr) (Pd : Nat → Value → Prop) (St : Nat → Heap → Prop), e ∉ fp ∧ Draws P w A it fp xs.length Pd St ∧ (∀ j v, Pd j v → ∃ x, xs[j]? = some x ∧ RelV x v) ∧ St i h ∧ ∀ j h, St j h → Sx j h
/-- the turns of an enumerate over whatever draws xs -/
theorem turn_pairs {P : Program} {w : World} {K : PySem.W.Frag} {elts : List Expr} {kk : Nat} {tpos : Pos} {e it : Addr} {xs : List V} {Gd : Hp → Prop} {Sx : Nat → Heap → Prop} (hne : e ≠ it)
    (own : ∀ i h, Sx i h → ∃ o, h.get? it = some o ∧ ∀ v, o.data ≠ .cell v) (keep : ∀ i h h', Sx i h → (∀ o, h.get? it = some o → h'.get? it = some o) → Sx i h')
    (into : ∀ (X : Cx), X.prog = P → X.w = w → X.K = K → X.A.in1.handled = none → ∀ i pins s σ H, Inv X pins σ H s → Sx i s.heap → Gd H → Drawn P w X.A.in1 e it xs Sx i s.heap) :
    Turn P w K (.Tuple elts kk tpos) (ItP xs Gd) [e, it] e (fun i h => (∃ old, IsEnum h e it ((i : Nat) : Int) old) ∧ Sx i h) where
  mem := by simp
  obj := fun i h st b hb => by
    obtain ⟨⟨old, he⟩, si⟩ := st
    have e' : b = e ∨ b = it := by simpa using hb
    rcases e' with z | z
    · rw [z]
      exact ⟨_, he, fun v q => nomatch q⟩
    · rw [z]
      exact own i h si
  keep := fun i h h' st k => by
    obtain ⟨⟨old, he⟩, si⟩ := st
    exact ⟨⟨old, k e (by simp) _ he⟩, keep i h h' si fun o q => k it (by simp) o q⟩
  item := by
    intro X hP hw hK hc i pins s σ H E I hf st hg
    obtain ⟨⟨old, he⟩, si⟩ := st
    obtain ⟨hi, hG⟩ := hg
    have hh : X.A.in1.handled = none := I.ok.hd hc
    obtain ⟨fp, Pd, St, hef, D, hrel, hst, outof⟩ := into X hP hw hK hh i pins s σ H I si hG
    subst hP hw hK
    have hel : e < s.heap.objs.size := Heap.lt_size he
    have hil : it < s.heap.objs.size := by
      obtain ⟨o, q, _⟩ := own i s.heap si
      exact Heap.lt_size q
    refine wpAny_pyNext_enum_itemC D he hst hi hne hef fun v h' tk hP ho hst' hT hsz hk => ?_
    obtain ⟨x, hx, ru⟩ := hrel i v hP
    refine ⟨_, rfl, wpAny_letOwnedTupleGo_enum (s := { s with heap := h', toks := tk + 1 }) ho fun h'' he' sb => ?_⟩
    have hT2 : h''.get? s.heap.objs.size = some { cls := .type "tuple", data := .seq #[.int i tk, v] } := (sb.2 _ (Nat.ne_of_gt hel)).trans hT
    have new : ObjOk X.prog X.w (upd H s.heap.objs.size (.tup [.int (i : Nat), x])) h'' s.heap.objs.size (.tup [.int (i : Nat), x]) :=
      ⟨by show 2 ≤ sizeLine; decide, [.int i tk, v], .cons ⟨_, rfl⟩ (.cons ru .nil), ⟨_, hT2, rfl, _, rfl⟩⟩
    have I1 : Inv X pins σ (upd H s.heap.objs.size (.tup [.int (i : Nat), x])) { s with heap := h'', toks := tk + 1 } :=
      I.turnedNew (ch := [e, it]) (fun b ob hb q => (sb.2 b (fun z => hb (by simp [z]))).trans (hk b ob (fun z => hb (by simp [z])) (fun z => hb (by simp [z])) q)) hf (Nat.le_refl _) new
    refine ⟨.ref s.heap.objs.size, _, I1, rfl, ⟨_, x, rfl, I.hok.fresh (Nat.le_refl _), rfl, hx⟩, ⟨⟨v, ?_⟩, keep _ _ _ (outof _ _ hst') fun o q => (sb.2 it (Ne.symm hne)).trans q⟩, fun b hb => ?_⟩
    · have e1 : ((i + 1 : Nat) : Int) = (i : Int) + 1 := by omega
      rw [e1]
      exact he'
    · have hb' : b < s.heap.objs.size := by
        have e' : b = e ∨ b = it := by simpa using hb
        rcases e' with z | z
        · rw [z]
          exact hel
        · rw [z]
          exact hil
      rw [upd_ne (Nat.ne_of_lt hb')]
      exact (hf b hb).1
  done := by
    intro X hP hw hK hc i pins s σ H E I hf st hg
    obtain ⟨⟨old, he⟩, si⟩ := st
    obtain ⟨hi, hG⟩ := hg
    have hh : X.A.in1.handled = none := I.ok.hd hc
    obtain ⟨fp, Pd, St, hef, D, hrel, hst, outof⟩ := into X hP hw hK hh i pins s σ H I si hG
    subst hP hw hK hi
    obtain ⟨f0, f1, f2, f3, f4, f5⟩ := hf it (by simp)
    exact wpAny_pyNext_enum_endD D he hst fun h' eb => ⟨rfl, I.turned (t' := s.toks) (fun b o hb q => eb b o hb q) f0 f1 f3 f4 f5⟩
  self := fun A i s Q E st h => by
    obtain ⟨⟨_, he⟩, _⟩ := st
    exact wpAny_pyIter_enum he h
/-- the walk of these pairs, as for_it takes it -/
theorem walk_pairs {xs : List V} {Gd : Hp → Prop} : Walk (ItP xs Gd) xs.length Gd (fun i H v H' => ∃ T x, v = .ref T ∧ H T = none ∧ H' = upd H T (.tup [.int (i : Nat), x]) ∧ xs[i]? = some x) :=
  ⟨fun i H hi g => ⟨hi, g⟩, fun H g => ⟨rfl, g⟩, fun i H x H' hi g y => y⟩
section
variable {X : Cx} {e : Expr} {ta : TA} {p pos tpos : Pos} {elts : List Expr} {kk : Nat}
/-- enumerate(a tuple) -/
def iEnumT (K : PySem.W.Frag) (ta : TA) : TI := fun σ H R => ta σ H fun vs H1 => ∃ a xs, vs = [.ref a] ∧ SqT K H1 a xs ∧ R (ItP xs fun H => SqT K H a xs) H1
theorem pi_enumT (hg : Gl X "enumerate") (hm : X.mg "enumerate" = none) (ha : PA X [e] ta) (hs : starEach [e] X.env = [(false, eval e X.env)] := by rfl) :
    PI X (.Tuple elts kk tpos) (.Call (.Name "enumerate" p) [e] [] pos) (iEnumT X.K ta) := by
  refine ⟨fun pins s σ H R I h => ?_⟩
  refine Call_ (ld_blt I hg hm boot_enumerate (PyProof.Rows.callWith_type1 (thn (ha.run pos pins s σ H _ I h) fun us s1 ⟨vs, H1, I1, r1, q1⟩ => ?_) hs rfl))
  obtain ⟨a, xs, ex, hq, q⟩ := q1
  subst ex
  obtain ⟨u, rfl, r⟩ := vals1 r1
  cases r
  obtain ⟨its, rv, pt, hz⟩ := I1.tuple hq
  have hal : a < s1.heap.objs.size := pt.lt
  refine call_enum_one (begins_tuple a its.toArray) pt fun h' he hit hsz hk => wpAny_pyIter_enum he ?_
  have I2 : Inv X pins σ H1 { s1 with heap := h' } := I1.kept (t' := s1.toks) hk
  refine ⟨s1.heap.objs.size + 1, [s1.heap.objs.size + 1, s1.heap.objs.size], _, _, H1, rfl, I2,
    turn_pairs (it := s1.heap.objs.size) (Sx := fun i h => h.IsTupleIter s1.heap.objs.size a i)
      (Nat.succ_ne_self _) (fun i h st => ?_) (fun i h h2 st k => st.at k) (fun Y hP hw hK hh i pins2 s2 σ2 H2 J st g => ?_), ⟨⟨.none, he⟩, ⟨_, hit, rfl, rfl⟩⟩, fun b hb => ?_, q⟩
  · obtain ⟨o, ho, hc, hd⟩ := st
    exact ⟨o, ho, fun v z => by rw [hd] at z; cases z⟩
  · rw [← hK] at g
    obtain ⟨its2, rv2, pt2, _⟩ := J.tuple g
    have el : its2.toArray.size = xs.length := by rw [List.size_toArray, rv2.length]
    have D := Draws.tuple (prog := X.prog) (w := X.w) hh s1.heap.objs.size a (Nat.ne_of_lt hal) its2.toArray
    rw [el] at D
    refine ⟨_, _, _, fun hm => ?_, D, fun j v hv => ?_, ⟨st, pt2⟩, fun j h z => z.1⟩
    · rcases List.mem_cons.mp hm with z | hm
      · exact Nat.succ_ne_self _ z
      · rw [List.mem_singleton] at hm
        rw [← hm] at hal
        exact absurd hal (Nat.not_lt_of_le (Nat.le_succ _))
    · have hv' : its2[j]? = some v := by simpa using hv
      have hi : j < its2.length := (List.getElem?_eq_some_iff.mp hv').1
      have hx : xs[j]? = some (xs[j]'(by rw [rv2.length]; exact hi)) := List.getElem?_eq_getElem _
      obtain ⟨u, hu, ru⟩ := rv2.get hx
      rw [hv'] at hu
      cases hu
      exact ⟨_, hx, ru⟩
  · have e' : b = s1.heap.objs.size + 1 ∨ b = s1.heap.objs.size := by simpa using hb
    have hle : s1.heap.objs.size ≤ b := by
      rcases e' with z | z
      · rw [z]; exact Nat.le_add_right _ _
      · rw [z]; exact Nat.le_refl _
    exact I1.fpOk hle (I1.hok.fresh hle)
/-- enumerate(a text) -/
def txV (z : Str) : List V := z.cps.toList.map fun c => .str ⟨#[c]⟩
def iEnumS (ta : TA) : TI := fun σ H R => ta σ H fun vs H1 => ∃ z, vs = [.str z] ∧ R (ItP (txV z) fun _ => True) H1
theorem pi_enumS (hg : Gl X "enumerate") (hm : X.mg "enumerate" = none) (ha : PA X [e] ta) (hs : starEach [e] X.env = [(false, eval e X.env)] := by rfl) :
    PI X (.Tuple elts kk tpos) (.Call (.Name "enumerate" p) [e] [] pos) (iEnumS ta) := by
  refine ⟨fun pins s σ H R I h => ?_⟩
  refine Call_ (ld_blt I hg hm boot_enumerate (PyProof.Rows.callWith_type1 (thn (ha.run pos pins s σ H _ I h) fun us s1 ⟨vs, H1, I1, r1, q1⟩ => ?_) hs rfl))
  obtain ⟨z, ex, q⟩ := q1
  subst ex
  obtain ⟨u, rfl, t, rfl⟩ := vals1 r1
  refine call_enum_one (begins_text z t) trivial fun h' he hit hsz hk => wpAny_pyIter_enum he ?_
  have I2 : Inv X pins σ H1 { s1 with heap := h' } := I1.kept (t' := s1.toks) hk
  refine ⟨s1.heap.objs.size + 1, [s1.heap.objs.size + 1, s1.heap.objs.size], _, _, H1, rfl, I2,
    turn_pairs (it := s1.heap.objs.size) (Sx := fun i h => h.IsStrIter s1.heap.objs.size (strIterType z) z t i)
      (Nat.succ_ne_self _) (fun i h st => ?_) (fun i h h2 st k => ?_) (fun Y hP hw hK hh i pins2 s2 σ2 H2 J st g => ?_), ⟨⟨.none, he⟩, ⟨_, hit, rfl, rfl⟩⟩, fun b hb => ?_, q⟩
  · obtain ⟨o, ho, hc, hd⟩ := st
    exact ⟨o, ho, fun v z => by rw [hd] at z; cases z⟩
  · obtain ⟨o, ho, r⟩ := st
    exact ⟨o, k o ho, r⟩
  · have el : z.cps.size = (txV z).length := by unfold txV; simp
    have D := Draws.text (prog := X.prog) (w := X.w) hh s1.heap.objs.size z t
    rw [el] at D
    refine ⟨_, _, _, fun hm => ?_, D, fun j v hv => ?_, st, fun j h q => q⟩
    · rw [List.mem_singleton] at hm
      exact Nat.succ_ne_self _ hm
    · obtain ⟨c, u, hc, rfl⟩ := hv
      refine ⟨.str ⟨#[c]⟩, ?_, u, rfl⟩
      unfold txV
      rw [List.getElem?_map, Array.getElem?_toList, hc]
      rfl
  · have e' : b = s1.heap.objs.size + 1 ∨ b = s1.heap.objs.size := by simpa using hb
    have hle : s1.heap.objs.size ≤ b := by
      rcases e' with z | z
      · rw [z]; exact Nat.le_add_right _ _
      · rw [z]; exact Nat.le_refl _
    exact I1.fpOk hle (I1.hok.fresh hle)
/-- list(a text): its signs -/
theorem call_listS (hc : X.calm = true) : CallR X (.type "list") (fun xs H Q => ∃ z : Str, xs = [.str z] ∧ z.cps.size ≤ sizeLine ∧ ∀ l, H l = none → Q (.ref l) (upd H l (.lst (txV z)))) := by
  intro pins s σ H xs us Q I r h
  obtain ⟨z, rfl, hz, q⟩ := h
  obtain ⟨u, rfl, t, rfl⟩ := vals1 r
  refine call_list_str (I.ok.hd hc) z t (fun h' tk acc c' hk e hi => ?_) hz
  have hv : Vals (txV z) acc.toList := by
    refine vals_of_at ?_ fun j x w h1 h2 => ?_
    · unfold txV
      rw [List.length_map, Array.length_toList, Array.length_toList, hi.1]
    · have h3 := hi.2 j w (by rw [← h2, Array.getElem?_toList])
      obtain ⟨c, u, hcx, rfl⟩ := h3
      unfold txV at h1
      rw [List.getElem?_map, Array.getElem?_toList, hcx] at h1
      have e2 : x = V.str ⟨#[c]⟩ := (Option.some.inj h1).symm
      rw [e2]
      exact ⟨u, rfl⟩
  refine ⟨.ref s.heap.objs.size, upd H s.heap.objs.size (.lst (txV z)), I.laid hk (Nat.le_refl _) (show ObjOk X.prog X.w _ _ _ (.lst (txV z)) from ⟨?_, acc.toList, c', hv, ?_⟩), rfl, q _ (I.hok.fresh (Nat.le_refl _))⟩
  · unfold txV
    rw [List.length_map, Array.length_toList]
    exact hz
  · rw [Array.toArray_toList]
    exact e
end
end LG

/-! The text by places, what the top has written, what stands in the heap, calls by a promise. -/
namespace LG
open PySem PySem.Spec PyProof.Rows L2 SX
/-! ### the text -/
def topS (i : Nat) : Stmt := PySem.Challenge.pw_linegrow_k84_whole_kept_beyond_the_stret.main.body.getD i (.Pass ⟨0, 0, 0, 0⟩)
theorem scope_of {N P : List Str} {sc : Scope} (h : C8.scC N P sc = true) : FnScope N P sc := C8.fnScope_by h
abbrev s_is_whole : Stmt := topS 9
abbrev N_is_whole : List Str := ["thing"]
theorem sc_is_whole : FnScope N_is_whole ["thing"] (defScope s_is_whole) := scope_of (by decide +kernel)
abbrev s_is_letter : Stmt := topS 10
abbrev N_is_letter : List Str := ["thing"]
theorem sc_is_letter : FnScope N_is_letter ["thing"] (defScope s_is_letter) := scope_of (by decide +kernel)
abbrev s_meets : Stmt := topS 16
abbrev N_meets : List Str := ["told", "side"]
theorem sc_meets : FnScope N_meets ["told", "side"] (defScope s_meets) := scope_of (by decide +kernel)
abbrev s_rule_for : Stmt := topS 17
abbrev N_rule_for : List Str := ["rules", "left", "letter", "right", "number", "rule"]
theorem sc_rule_for : FnScope N_rule_for ["rules", "left", "letter", "right"] (defScope s_rule_for) := scope_of (by decide +kernel)
abbrev s_words_at : Stmt := topS 18
abbrev N_words_at : List Str := ["rules", "text", "padded", "found", "at", "letter", "number"]
theorem sc_words_at : FnScope N_words_at ["rules", "text"] (defScope s_words_at) := scope_of (by decide +kernel)
abbrev s_one_age_on : Stmt := topS 19
abbrev N_one_age_on : List Str := ["rules", "text", "places", "parts", "begins", "part", "place"]
theorem sc_one_age_on : FnScope N_one_age_on ["rules", "text", "places"] (defScope s_one_age_on) := scope_of (by decide +kernel)
abbrev s_grown_rows : Stmt := topS 20
abbrev N_grown_rows : List Str := ["wide", "age", "found", "step", "text", "places"]
theorem sc_grown_rows : FnScope N_grown_rows ["wide", "age"] (defScope s_grown_rows) := scope_of (by decide +kernel)
abbrev s_need_wide_age : Stmt := topS 21
abbrev N_need_wide_age : List Str := ["age", "most"]
theorem sc_need_wide_age : FnScope N_need_wide_age ["age", "most"] (defScope s_need_wide_age) := scope_of (by decide +kernel)
abbrev s_wide_row : Stmt := topS 22
abbrev N_wide_row : List Str := ["wide", "age"]
theorem sc_wide_row : FnScope N_wide_row ["wide", "age"] (defScope s_wide_row) := scope_of (by decide +kernel)
abbrev s_starts : Stmt := topS 23
abbrev N_starts : List Str := ["wide", "age"]
theorem sc_starts : FnScope N_starts ["wide", "age"] (defScope s_starts) := scope_of (by decide +kernel)
abbrev s_need_place : Stmt := topS 25
abbrev N_need_place : List Str := ["place", "most"]
theorem sc_need_place : FnScope N_need_place ["place", "most"] (defScope s_need_place) := scope_of (by decide +kernel)
abbrev s_need_sign : Stmt := topS 26
abbrev N_need_sign : List Str := ["letter"]
theorem sc_need_sign : FnScope N_need_sign ["letter"] (defScope s_need_sign) := scope_of (by decide +kernel)
abbrev s_span : Stmt := topS 27
abbrev N_span : List Str := ["text", "places", "place", "low", "high", "end"]
theorem sc_span : FnScope N_span ["text", "places", "place", "low", "high"] (defScope s_span) := scope_of (by decide +kernel)
abbrev s___init__ : Stmt := inClass (topS 28) 0
abbrev N___init__ : List Str := ["self", "wide"]
theorem sc___init__ : FnScope N___init__ ["self", "wide"] (defScope s___init__) := scope_of (by decide +kernel)
abbrev s_age : Stmt := inClass (topS 28) 1
abbrev N_age : List Str := ["self"]
theorem sc_age : FnScope N_age ["self"] (defScope s_age) := scope_of (by decide +kernel)
abbrev s_grow : Stmt := inClass (topS 28) 2
abbrev N_grow : List Str := ["self", "text", "places"]
theorem sc_grow : FnScope N_grow ["self"] (defScope s_grow) := scope_of (by decide +kernel)
abbrev s_row : Stmt := inClass (topS 28) 3
abbrev N_row : List Str := ["self", "age"]
theorem sc_row : FnScope N_row ["self", "age"] (defScope s_row) := scope_of (by decide +kernel)
abbrev s_m_starts : Stmt := inClass (topS 28) 4
abbrev N_m_starts : List Str := ["self", "age"]
theorem sc_m_starts : FnScope N_m_starts ["self", "age"] (defScope s_m_starts) := scope_of (by decide +kernel)
abbrev s_laid : Stmt := inClass (topS 28) 5
abbrev N_laid : List Str := ["self", "first", "place", "less", "grown", "found", "age", "text", "places"]
theorem sc_laid : FnScope N_laid ["self", "first", "place", "less"] (defScope s_laid) := scope_of (by decide +kernel)
abbrev s_exchange : Stmt := inClass (topS 28) 6
abbrev N_exchange : List Str := ["self", "place", "letter"]
theorem sc_exchange : FnScope N_exchange ["self", "place", "letter"] (defScope s_exchange) := scope_of (by decide +kernel)
abbrev s_put_in : Stmt := inClass (topS 28) 7
abbrev N_put_in : List Str := ["self", "place", "letter"]
theorem sc_put_in : FnScope N_put_in ["self", "place", "letter"] (defScope s_put_in) := scope_of (by decide +kernel)
abbrev s_take_out : Stmt := inClass (topS 28) 8
abbrev N_take_out : List Str := ["self", "place"]
theorem sc_take_out : FnScope N_take_out ["self", "place"] (defScope s_take_out) := scope_of (by decide +kernel)
abbrev s_now : Stmt := inClass (topS 28) 9
abbrev N_now : List Str := ["self"]
theorem sc_now : FnScope N_now ["self"] (defScope s_now) := scope_of (by decide +kernel)
abbrev s__law_pen : Stmt := topS 30
abbrev N__law_pen : List Str := ["_law_script", "_law_k", "_law_fold", "_law_cell"]
theorem sc__law_pen : FnScope N__law_pen ["_law_script", "_law_k"] (defScope s__law_pen) := scope_of (by decide +kernel)
abbrev s__law_take : Stmt := topS 31
abbrev N__law_take : List Str := ["_law_pen_here", "_law_size", "_law_found", "_law_number"]
theorem sc__law_take : FnScope N__law_take ["_law_pen_here", "_law_size"] (defScope s__law_take) := scope_of (by decide +kernel)
abbrev s__law_signs : Stmt := topS 32
abbrev N__law_signs : List Str := ["_law_pen_here", "_law_many", "_law_rest", "_law_k"]
theorem sc__law_signs : FnScope N__law_signs ["_law_pen_here", "_law_many"] (defScope s__law_signs) := scope_of (by decide +kernel)
abbrev s__law_text : Stmt := topS 33
abbrev N__law_text : List Str := ["_law_pen_here", "_law_signs_here", "_law_many", "_law_k"]
theorem sc__law_text : FnScope N__law_text ["_law_pen_here", "_law_signs_here", "_law_many"] (defScope s__law_text) := scope_of (by decide +kernel)
abbrev s__law_side : Stmt := topS 34
abbrev N__law_side : List Str := ["_law_pen_here", "_law_signs_here", "_law_pick"]
theorem sc__law_side : FnScope N__law_side ["_law_pen_here", "_law_signs_here"] (defScope s__law_side) := scope_of (by decide +kernel)
abbrev s__law_wide : Stmt := topS 35
abbrev N__law_wide : List Str := ["_law_pen_here", "_law_pick", "_law_signs_here", "_law_rules", "_law_k", "_law_left", "_law_sign", "_law_right"]
theorem sc__law_wide : FnScope N__law_wide ["_law_pen_here"] (defScope s__law_wide) := scope_of (by decide +kernel)
abbrev s__law_single : Stmt := topS 36
abbrev N__law_single : List Str := ["_law_rules", "_law_rule"]
theorem sc__law_single : FnScope N__law_single ["_law_rules"] (defScope s__law_single) := scope_of (by decide +kernel)
abbrev s__law_lines : Stmt := topS 37
abbrev N__law_lines : List Str := ["_law_hedge", "_law_most", "_law_n"]
theorem sc__law_lines : FnScope N__law_lines ["_law_hedge", "_law_most"] (defScope s__law_lines) := scope_of (by decide +kernel)
abbrev s__law_beyond : Stmt := topS 38
abbrev N__law_beyond : List Str := ["_law_elder", "_law_line", "_law_told", "_law_begin", "_law_many", "_law_rest"]
theorem sc__law_beyond : FnScope N__law_beyond ["_law_elder", "_law_line", "_law_told"] (defScope s__law_beyond) := scope_of (by decide +kernel)
abbrev s__law_deed : Stmt := topS 39
abbrev N__law_deed : List Str := ["_law_hedge", "_law_pick", "_law_place", "_law_sign", "_law_size"]
theorem sc__law_deed : FnScope N__law_deed ["_law_hedge", "_law_pick", "_law_place", "_law_sign"] (defScope s__law_deed) := scope_of (by decide +kernel)
abbrev s__law_grown : Stmt := topS 40
abbrev N__law_grown : List Str := ["_law_hedge"]
theorem sc__law_grown : FnScope N__law_grown ["_law_hedge"] (defScope s__law_grown) := scope_of (by decide +kernel)
abbrev s__law_as_told : Stmt := topS 41
abbrev N__law_as_told : List Str := ["_law_hedge", "_law_lines_here", "_law_n", "_law_wide_here", "_law_line"]
theorem sc__law_as_told : FnScope N__law_as_told ["_law_hedge", "_law_lines_here", "_law_n"] (defScope s__law_as_told) := scope_of (by decide +kernel)
abbrev s__law_step : Stmt := topS 42
abbrev N__law_step : List Str := ["_law_hedge", "_law_pen_here", "_law_signs_here", "_law_most", "_law_pick", "_law_place", "_law_sign", "_law_lines_here", "_law_grown_here", "_law_spans", "_law_fresh", "_law_n", "_law_line"]
theorem sc__law_step : FnScope N__law_step ["_law_hedge", "_law_pen_here", "_law_signs_here", "_law_most"] (defScope s__law_step) := scope_of (by decide +kernel)
abbrev s_law : Stmt := topS 43
abbrev N_law : List Str := ["_law_script", "_law_wide_here", "_law_pen_here", "_law_many", "_law_most", "_law_signs_here", "_law_hedge", "_law_k", "_law_worked", "_law_rule", "_law_sign", "_law_line"]
theorem sc_law : FnScope N_law ["_law_script"] (defScope s_law) := scope_of (by decide +kernel)
/-! ### what the top has written -/
def signsL : Tx := (List.range 26).map (· + 97)
structure Txt (K : PySem.W.Frag) (mg : Str → Option Value) (CT C : Addr) : Prop where
  b_len : mg "len" = none
  b_isinstance : mg "isinstance" = none
  b_max : mg "max" = none
  b_min : mg "min" = none
  b_sum : mg "sum" = none
  b_int : mg "int" = none
  b_bool : mg "bool" = none
  b_str : mg "str" = none
  b_list : mg "list" = none
  b_tuple : mg "tuple" = none
  b_range : mg "range" = none
  b_enumerate : mg "enumerate" = none
  g_SIGNS : ∃ t, mg "SIGNS" = some (.str (S signsL) t)
  g_NOBODY : ∃ t, mg "NOBODY" = some (.str (S [46]) t)
  g_MOST_ROW : ∃ t, mg "MOST_ROW" = some (.int 600 t)
  g_MOST_FIRST : ∃ t, mg "MOST_FIRST" = some (.int 12 t)
  g_LAST_AGE : ∃ t, mg "LAST_AGE" = some (.int 40 t)
  gT : mg "TooLong" = some (.ref CT)
  xT : PySem.W.excIn K CT [.type "ValueError", .type "Exception", .type "BaseException", .type "object"] "ValueError.__new__" = true
  kT : PySem.W.keepIn K (.ref CT) = true
  bT : PySem.W.subIn K (.ref CT) (.type "BaseException") = some true
  tT : PySem.W.typeIn K (.ref CT) = some (.type "type")
  eT : PySem.W.exmOne K (.ref CT) (.ref CT) = some true
  g_Hedge : mg "Hedge" = some (.ref C)
  cl : Cls K C
  nF : NoAttr K C "first_row"
  nR : NoAttr K C "rule_row"
  nG : NoAttr K C "grown"
/-- a def of the module as it stands behind the top -/
structure Here (K : PySem.W.Frag) (mg : Str → Option Value) (x : Str) (st : Stmt) (ps : List Str) : Prop where
  ex : ∃ (f : Addr) (fd : FuncData), Fun K x x st f fd ∧ mg x = some (.ref f) ∧ Binds K fd ps []
/-- a method of the class at C -/
structure MHere (K : PySem.W.Frag) (C : Addr) (m qual : Str) (st : Stmt) (ps : List Str) : Prop where
  ex : ∃ (f : Addr) (fd : FuncData), Fun K m qual st f fd ∧ Meth K C m f ∧ Binds K fd ps []
/-! ### calls by a promise -/
section
variable {P : Program} {w : World} {K : PySem.W.Frag} {mg : Str → Option Value} {base : Heap} {CXv : CXT} {k : Nat}
/-- the def named x keeps sp -/
structure Cal (P : Program) (w : World) (K : PySem.W.Frag) (mg : Str → Option Value) (base : Heap) (CXv : CXT) (k : Nat) (x : Str) (ps : List Str) (sp : Sp) : Prop where
  ex : ∃ (f : Addr) (fd : FuncData), FnOk P w K mg base CXv k f fd ps sp ∧ mg x = some (.ref f) ∧ PySem.W.keepIn K (.ref f) = true ∧ Binds K fd ps []
/-- the method m keeps sp -/
structure Met (P : Program) (w : World) (K : PySem.W.Frag) (mg : Str → Option Value) (base : Heap) (CXv : CXT) (k : Nat) (C : Addr) (m : Str) (ps : List Str) (sp : Sp) : Prop where
  ex : ∃ (f : Addr) (fd : FuncData), FnOk P w K mg base CXv k f fd ps sp ∧ Meth K C m f ∧ Binds K fd ps []
theorem cal_of {x : Str} {st : Stmt} {ps : List Str} {sp : Sp} (h : Here K mg x st ps) (ok : ∀ f fd, Fun K x x st f fd → FnOk P w K mg base CXv k f fd ps sp) : Cal P w K mg base CXv k x ps sp := by
  obtain ⟨f, fd, F, g, b⟩ := h.ex
  exact ⟨f, fd, ok f fd F, g, F.kp, b⟩
theorem met_of {C : Addr} {m qual : Str} {st : Stmt} {ps : List Str} {sp : Sp} (h : MHere K C m qual st ps) (ok : ∀ f fd, Fun K m qual st f fd → FnOk P w K mg base CXv k f fd ps sp) : Met P w K mg base CXv k C m ps sp := by
  obtain ⟨f, fd, F, g, b⟩ := h.ex
  exact ⟨f, fd, ok f fd F, g, b⟩
end
section
variable {X : Cx} {CXv : CXT} {k j : Nat} {C : Addr} {x m : Str} {ps : List Str} {sp : Sp} {E : XK} {p pos apos : Pos} {e o : Expr} {es : List Expr} {ta : TE} {t : TA} {z : Str} {n : Int}
theorem pe_gS (h : ∃ u, X.mg x = some (.str z u)) (hg : Gl X x) (hd : (x == ("__debug__" : Str)) = false := by decide) : PE X (.Name x pos) (tC (.str z)) := by
  obtain ⟨u, h⟩ := h
  exact pe_glob hg h ⟨u, rfl⟩ hd
theorem pe_gI (h : ∃ u, X.mg x = some (.int n u)) (hg : Gl X x) (hd : (x == ("__debug__" : Str)) = false := by decide) : PE X (.Name x pos) (tC (.int n)) := by
  obtain ⟨u, h⟩ := h
  exact pe_glob hg h ⟨u, rfl⟩ hd
theorem pe_ty {n : String} (hg : Gl X x) (hm : X.mg x = none) (hv : bootBuiltins x = some (.type n)) (hn : x ≠ "__name__" := by decide) (hd : (x == ("__debug__" : Str)) = false := by decide) : PE X (.Name x pos) (tC (.ty n)) := pe_bltn hg hm hv rfl hn hd
theorem pe_cal (c : Cal X.prog X.w X.K X.mg X.base CXv k x ps sp) (hx : Passes CXv X E) (hr : Room j X.A) (hk : k ≤ j) (hg : Gl X x) (ha : PA X (e :: es) t)
    (hdb : (x == ("__debug__" : Str)) = false := by decide) (he : starEach (e :: es) X.env = (false, eval e X.env) :: starEach es X.env := by rfl) (hpl : (backTo pos (starEach es X.env)).any (·.1) = false := by rfl) :
    PE X (.Call (.Name x p) (e :: es) [] pos) (tCall sp [] E t) := by
  obtain ⟨f, fd, F, hm, kp, b⟩ := c.ex
  exact pe_call F (hr.mono hk) hg hm kp b .nil hx ha hdb he hpl
/-- in a def that may raise: what a callee lets out goes on -/
theorem passX (tk : Takes X (fun cls d _ H => E cls d H)) : Passes (L2.CX X.prog X.w) X E := passes_call tk fun _ _ _ _ h => h
/-- in a try's body: what is raised is wished for at the slots as they stand -/
theorem pe_calS {W : WX} (c : Cal X.prog X.w X.K X.mg X.base (L2.CX X.prog X.w) k x ps sp) (tk : Takes X W) (hr : Room j X.A) (hk : k ≤ j) (hg : Gl X x) (ha : PA X (e :: es) t)
    (hdb : (x == ("__debug__" : Str)) = false := by decide) (he : starEach (e :: es) X.env = (false, eval e X.env) :: starEach es X.env := by rfl) (hpl : (backTo pos (starEach es X.env)).any (·.1) = false := by rfl) :
    PE X (.Call (.Name x p) (e :: es) [] pos) (tCallS sp (WE W) t) := by
  obtain ⟨f, fd, F, hm, kp, b⟩ := c.ex
  exact pe_callS F (hr.mono hk) hg hm kp b (fun σ => passAt tk σ) ha hdb he hpl
theorem pe_met {pl : Sem Bool} (ho : PE X o ta) (cl : Cls X.K C) (c : Met X.prog X.w X.K X.mg X.base CXv k C m ps sp) (hx : Passes CXv X E) (hr : Room j X.A) (hk : k ≤ j) (ha : PA X (e :: es) t)
    (hst : starEach (e :: es) X.env = (false, eval e X.env) :: starEach es X.env := by rfl) (hpl : (backTo pos (starEach es X.env)).any (·.1) = false := by rfl)
    (ht : eval (.Call (.Attribute o m apos) (e :: es) [] pos) X.env = (do
      let ov ← eval o X.env
      standAt apos.atName
      let (f, first) ← holding [ov] (getMethod ov m pl)
      callWith pos f first (backTo pos (starEach (e :: es) X.env)) (backToKw pos (keywordEach [] X.env))) := by rfl) :
    PE X (.Call (.Attribute o m apos) (e :: es) [] pos) (tMeth C m sp [] E ta t) := by
  obtain ⟨f, fd, F, hm, b⟩ := c.ex
  exact pe_meth (pl := pl) ho cl hm F (hr.mono hk) b .nil hx ha hst hpl ht
theorem pe_met0 {pl : Sem Bool} (ho : PE X o ta) (cl : Cls X.K C) (c : Met X.prog X.w X.K X.mg X.base CXv k C m ps sp) (hx : Passes CXv X E) (hr : Room j X.A) (hk : k ≤ j)
    (ht : eval (.Call (.Attribute o m apos) [] [] pos) X.env = (do
      let ov ← eval o X.env
      standAt apos.atName
      let (f, first) ← holding [ov] (getMethod ov m pl)
      callWith pos f first (backTo pos (starEach [] X.env)) (backToKw pos (keywordEach [] X.env))) := by rfl) :
    PE X (.Call (.Attribute o m apos) [] [] pos) (tMeth C m sp [] E ta tNil) := by
  obtain ⟨f, fd, F, hm, b⟩ := c.ex
  exact pe_meth0 (pl := pl) ho cl hm F (hr.mono hk) b .nil hx ht
/-- o.m(e, ..) in a try's body -/
def tMetS (C : Addr) (m : Str) (sp : Sp) (Ez : L2.St → XK) (ta : TE) (t : TA) : TE := fun σ H Q => ta σ H fun x H1 => ∃ a dx fs, x = .ref a ∧ H1 a = some (.ins C dx fs) ∧ fs.lookup m = none ∧ t σ H1 fun vs H2 => sp (x :: vs) H2 Q (Ez σ)
theorem pe_metS {pl : Sem Bool} {W : WX} (ho : PE X o ta) (cl : Cls X.K C) (c : Met X.prog X.w X.K X.mg X.base (L2.CX X.prog X.w) k C m ps sp) (tk : Takes X W) (hr : Room j X.A) (hk : k ≤ j) (ha : PA X (e :: es) t)
    (hst : starEach (e :: es) X.env = (false, eval e X.env) :: starEach es X.env := by rfl) (hpl : (backTo pos (starEach es X.env)).any (·.1) = false := by rfl)
    (ht : eval (.Call (.Attribute o m apos) (e :: es) [] pos) X.env = (do
      let ov ← eval o X.env
      standAt apos.atName
      let (f, first) ← holding [ov] (getMethod ov m pl)
      callWith pos f first (backTo pos (starEach (e :: es) X.env)) (backToKw pos (keywordEach [] X.env))) := by rfl) :
    PE X (.Call (.Attribute o m apos) (e :: es) [] pos) (tMetS C m sp (WE W) ta t) := by
  obtain ⟨f, fd, F, hm, b⟩ := c.ex
  refine ⟨fun pins s σ H Q I h => ?_⟩
  refine PySem.W.methodCall_KW (pl := pl) (thn (ho.run pins s σ H _ I h) fun u s1 ⟨x, H1, I1, rx, a, dx, fs, ex, ea, l, q⟩ => ?_) ht
  subst ex
  obtain rfl : u = Value.ref a := rx
  refine getmeth_ok I1 ea cl hm l ?_
  refine PySem.W.callWith_K (first := [.ref a]) (h₀ := X.base) I.ok.mod.kin hm.kp (thn (ha.run pos pins s1 σ H1 _ I1 q) fun us s2 ⟨vs, H2, I2, r, q2⟩ => ⟨I2.kIn, ?_⟩) hst hpl
  exact run_fnS (us := .ref a :: us) (vs := .ref a :: vs) F (hr.mono hk) b (passAt tk σ) I2 (.cons rfl r) q2
/-- o.m() in a try's body -/
theorem pe_metS0 {pl : Sem Bool} {W : WX} (ho : PE X o ta) (cl : Cls X.K C) (c : Met X.prog X.w X.K X.mg X.base (L2.CX X.prog X.w) k C m ps sp) (tk : Takes X W) (hr : Room j X.A) (hk : k ≤ j)
    (ht : eval (.Call (.Attribute o m apos) [] [] pos) X.env = (do
      let ov ← eval o X.env
      standAt apos.atName
      let (f, first) ← holding [ov] (getMethod ov m pl)
      callWith pos f first (backTo pos (starEach [] X.env)) (backToKw pos (keywordEach [] X.env))) := by rfl) :
    PE X (.Call (.Attribute o m apos) [] [] pos) (tMetS C m sp (WE W) ta tNil) := by
  obtain ⟨f, fd, F, hm, b⟩ := c.ex
  refine ⟨fun pins s σ H Q I h => ?_⟩
  refine PySem.W.methodCall_KW (pl := pl) (thn (ho.run pins s σ H _ I h) fun u s1 ⟨x, H1, I1, rx, a, dx, fs, ex, ea, l, q⟩ => ?_) ht
  subst ex
  obtain rfl : u = Value.ref a := rx
  refine getmeth_ok I1 ea cl hm l ?_
  exact PySem.W.callWith_K0 (first := [.ref a]) I1.kIn hm.kp (run_fnS (us := [.ref a]) (vs := [.ref a]) F (hr.mono hk) b (passAt tk σ) I1 (.cons rfl .nil) q)
end
/-! ### heaps -/
theorem same_upd {H : Hp} {p : Addr} {o : HO} (h : H p = none) : Same H (upd H p o) := fun b x e => by
  rw [upd_ne (ne_of_none e h)]
  exact e
/-- all but what stands at p is as it was -/
def But (p : Addr) (H H' : Hp) : Prop := ∀ b o, H b = some o → b ≠ p → H' b = some o
theorem same_but {H H' : Hp} {p : Addr} (s : Same H H') : But p H H' := fun b o e _ => s b o e
theorem But.trans {H H1 H2 : Hp} {p : Addr} (a : But p H H1) (b : But p H1 H2) : But p H H2 := fun c o h n => b c o (a c o h n) n
theorem but_upd {H : Hp} {p : Addr} {o : HO} : But p H (upd H p o) := fun b x e n => by
  rw [upd_ne n]
  exact e
/-! ### what stands in the heap -/
abbrev T (l : Tx) : V := .str (S l)
def rlV (R : Rl) : List V := [T R.lf, T R.me, T R.rt, T R.wd]
/-- a tuple of rules at r -/
def RulesAt (H : Hp) (r : Addr) (rs : List Rl) : Prop :=
  ∃ as : List V, H r = some (.tup as) ∧ as.length = rs.length ∧ ∀ (i : Nat) R, rs[i]? = some R → ∃ a, as[i]? = some (.ref a) ∧ H a = some (.tup (rlV R))
theorem RulesAt.same {H H' : Hp} {r : Addr} {rs : List Rl} (h : RulesAt H r rs) (s : Same H H') : RulesAt H' r rs := by
  obtain ⟨as, h1, h2, h3⟩ := h
  refine ⟨as, s _ _ h1, h2, fun i R hR => ?_⟩
  obtain ⟨a, h4, h5⟩ := h3 i R hR
  exact ⟨a, h4, s _ _ h5⟩
/-- .. where what changes is no tuple -/
theorem RulesAt.but {H H' : Hp} {r p : Addr} {rs : List Rl} (h : RulesAt H r rs) (s : But p H H') (hp : ∀ xs, H p ≠ some (.tup xs)) : RulesAt H' r rs := by
  obtain ⟨as, h1, h2, h3⟩ := h
  have np : ∀ b xs, H b = some (.tup xs) → b ≠ p := fun b xs e z => hp xs (by rw [← z]; exact e)
  refine ⟨as, s _ _ h1 (np _ _ h1), h2, fun i R hR => ?_⟩
  obtain ⟨a, h4, h5⟩ := h3 i R hR
  exact ⟨a, h4, s _ _ h5 (np _ _ h5)⟩
/-- a wide book at b -/
def WideAt (H : Hp) (b : Addr) (first : Tx) (r : Addr) (rs : List Rl) : Prop := H b = some (.tup [T first, .ref r]) ∧ RulesAt H r rs
theorem WideAt.same {H H' : Hp} {b r : Addr} {first : Tx} {rs : List Rl} (h : WideAt H b first r rs) (s : Same H H') : WideAt H' b first r rs := ⟨s _ _ h.1, h.2.same s⟩
def nums (l : List Nat) : List V := l.map fun (n : Nat) => V.int (n : Int)
/-- rows with their places, each a tuple, in the list of references -/
def RowsIn (H : Hp) (as : List V) (gs : List G) : Prop :=
  as.length = gs.length ∧ ∀ (i : Nat) g, gs[i]? = some g → ∃ a q, as[i]? = some (.ref a) ∧ H a = some (.tup [T g.1, .ref q]) ∧ H q = some (.lst (nums g.2))
theorem RowsIn.same {H H' : Hp} {as : List V} {gs : List G} (h : RowsIn H as gs) (s : Same H H') : RowsIn H' as gs := by
  refine ⟨h.1, fun i g hg => ?_⟩
  obtain ⟨a, q, h1, h2, h3⟩ := h.2 i g hg
  exact ⟨a, q, h1, s _ _ h2, s _ _ h3⟩
/-- .. a list of them at l, which is none of the places' lists -/
def GrownAt (H : Hp) (l : Addr) (gs : List G) : Prop :=
  ∃ as : List V, H l = some (.lst as) ∧ as.length = gs.length ∧ ∀ (i : Nat) g, gs[i]? = some g → ∃ a q, as[i]? = some (.ref a) ∧ H a = some (.tup [T g.1, .ref q]) ∧ H q = some (.lst (nums g.2)) ∧ q ≠ l
theorem GrownAt.same {H H' : Hp} {l : Addr} {gs : List G} (h : GrownAt H l gs) (s : Same H H') : GrownAt H' l gs := by
  obtain ⟨as, h1, h2, h3⟩ := h
  refine ⟨as, s _ _ h1, h2, fun i g hg => ?_⟩
  obtain ⟨a, q, h4, h5, h6, h7⟩ := h3 i g hg
  exact ⟨a, q, h4, s _ _ h5, s _ _ h6, h7⟩
/-- the rows from age 0 to n -/
def rowsL (rs : List Rl) (first : Tx) (n : Nat) : List G := (List.range (n + 1)).map (rowT rs first)
theorem rowsL_len (rs : List Rl) (first : Tx) (n : Nat) : (rowsL rs first n).length = n + 1 := by
  unfold rowsL
  rw [List.length_map, List.length_range]
theorem rowsL_at (rs : List Rl) (first : Tx) {n i : Nat} (h : i ≤ n) : (rowsL rs first n)[i]? = some (rowT rs first i) := by
  unfold rowsL
  rw [List.getElem?_map, List.getElem?_range (by omega)]
  rfl
theorem rowsL_succ (rs : List Rl) (first : Tx) (n : Nat) : rowsL rs first (n + 1) = rowsL rs first n ++ [rowT rs first (n + 1)] := by
  unfold rowsL
  rw [List.range_succ, List.map_append]
  rfl
/-- an instance's attributes -/
def hF (first : Tx) (r l : Addr) : List (Str × V) := [("first_row", T first), ("rule_row", .ref r), ("grown", .ref l)]
/-- a hedge at p with its rows in the list at l, up to age n -/
structure HedgeAt (C : Addr) (H : Hp) (p l r : Addr) (rs : List Rl) (first : Tx) (n : Nat) : Prop where
  ob : ∃ dx, H p = some (.ins C dx (hF first r l))
  ru : RulesAt H r rs
  gr : GrownAt H l (rowsL rs first n)
theorem HedgeAt.same {C : Addr} {H H' : Hp} {p l r : Addr} {rs : List Rl} {first : Tx} {n : Nat} (h : HedgeAt C H p l r rs first n) (s : Same H H') : HedgeAt C H' p l r rs first n := by
  obtain ⟨⟨dx, h1⟩, h2, h3⟩ := h
  exact ⟨⟨dx, s _ _ h1⟩, h2.same s, h3.same s⟩
/-- letters: small ones -/
def Small (c : Nat) : Prop := 97 ≤ c ∧ c < 123
def Smalls (t : Tx) : Prop := ∀ c ∈ t, Small c
/-- rules with words of 1 to 6 letters -/
structure RsOk (rs : List Rl) : Prop where
  ne : ∀ R ∈ rs, R.wd ≠ []
  le : ∀ R ∈ rs, R.wd.length ≤ 6
  me : ∀ R ∈ rs, Smalls R.me ∧ R.me.length ≤ 6
  sm : ∀ R ∈ rs, Smalls R.wd
  few : rs.length ≤ 20
theorem lk_here {k : Str} {v : V} {r : List (Str × V)} : List.lookup k ((k, v) :: r) = some v := by
  have e : (k == k) = true := beq_self_eq_true k
  simp only [List.lookup, e]
theorem lk_past {k g : Str} {v : V} {r : List (Str × V)} (h : (k == g) = false) : List.lookup k ((g, v) :: r) = List.lookup k r := by
  simp only [List.lookup, h]
theorem put_here {f : Str} {v x : V} {r : List (Str × V)} : putF f v ((f, x) :: r) = (f, v) :: r := if_pos rfl
theorem put_past {f g : Str} {v x : V} {r : List (Str × V)} (h : ¬ g = f) : putF f v ((g, x) :: r) = (g, x) :: putF f v r := if_neg h
theorem hF_first (f : Tx) (r l : Addr) : (hF f r l).lookup ("first_row" : Str) = some (T f) := lk_here
theorem hF_rule (f : Tx) (r l : Addr) : (hF f r l).lookup ("rule_row" : Str) = some (.ref r) := (lk_past (by decide +kernel)).trans lk_here
theorem hF_grown (f : Tx) (r l : Addr) : (hF f r l).lookup ("grown" : Str) = some (.ref l) := (lk_past (by decide +kernel)).trans ((lk_past (by decide +kernel)).trans lk_here)
theorem hF_no (f : Tx) (r l : Addr) {m : Str} (h1 : (m == ("first_row" : Str)) = false) (h2 : (m == ("rule_row" : Str)) = false) (h3 : (m == ("grown" : Str)) = false) : (hF f r l).lookup m = none :=
  (lk_past h1).trans ((lk_past h2).trans ((lk_past h3).trans rfl))
theorem hF_put_first (f g : Tx) (r l : Addr) : putF "first_row" (T g) (hF f r l) = hF g r l := put_here
theorem hF_put_grown (f : Tx) (r l m : Addr) : putF "grown" (.ref m) (hF f r l) = hF f r m := (put_past (by decide +kernel)).trans (congrArg _ ((put_past (by decide +kernel)).trans (congrArg _ put_here)))
theorem hF_new (f : Tx) (r l : Addr) : putF "grown" (.ref l) (putF "rule_row" (.ref r) (putF "first_row" (T f) [])) = hF f r l := by
  show putF "grown" (.ref l) (putF "rule_row" (.ref r) [("first_row", T f)]) = _
  rw [put_past (show ¬ ("first_row" : Str) = "rule_row" by decide +kernel)]
  show putF "grown" (.ref l) [("first_row", T f), ("rule_row", .ref r)] = _
  rw [put_past (show ¬ ("first_row" : Str) = "grown" by decide +kernel), put_past (show ¬ ("rule_row" : Str) = "grown" by decide +kernel)]
  rfl
theorem line600 {n : Nat} (h : n ≤ 16777216) : n ≤ sizeLine := by
  rw [sizeLine_eq]
  omega
theorem S_len' (l : Tx) : (S l).length = l.length := S_len l
theorem if_t {A B : Prop} {c : Bool} (hc : c = true) (h : A) : if c = true then A else B := by
  rw [if_pos hc]
  exact h
theorem if_f {A B : Prop} {c : Bool} (hc : c = false) (h : B) : if c = true then A else B := by
  rw [hc, if_neg Bool.false_ne_true]
  exact h
theorem dot_str : (("." : Str)) = S [46] := by decide +kernel
theorem nil_str : (("" : Str)) = S [] := by decide +kernel
end LG

/-! Words: is_whole .. words_at. -/
namespace LG
open PySem PySem.Spec PyProof.Rows L2 SX
section
variable {P : Program} {w : World} {K : PySem.W.Frag} {mg : Str → Option Value} {base : Heap} {CT C : Addr}
/-! ### is_whole, is_letter -/
def sp_is_whole : Sp := fun vs H Q _ => ∃ i, vs = [.int i] ∧ Q (.bl true) H
theorem ok_is_whole (T : Txt K mg CT C) (h : Here K mg "is_whole" s_is_whole ["thing"]) : Cal P w K mg base CX0 1 "is_whole" ["thing"] sp_is_whole := by
  refine cal_of h fun f fd F => F.ok sc_is_whole (fun vs H Q E h => ?_) (fun cdv A outer s H vs Q E hr h => ?_)
  · obtain ⟨i, rfl, _⟩ := h
    rfl
  · obtain ⟨i, rfl, k⟩ := h
    refine ⟨_, (pss_one (ps_ret (pe_and (pe_callB call_isi (by rfl) T.b_isinstance (by decide +kernel) (pa_cons (pv 0) (pa_cons (pe_ty (n := "int") (by rfl) T.b_int (by decide +kernel)) pa_nil))) (pe_one (pe_not (pe_callB call_isi (by rfl) T.b_isinstance (by decide +kernel) (pa_cons (pv 0) (pa_cons (pe_ty (n := "bool") (by rfl) T.b_bool (by decide +kernel)) pa_nil)))))))), ?_⟩
    refine ⟨_, rfl, .int i, .ty "int", .type "int", .type "int", true, rfl, .ty _, .base (.int i), kit_ty (by decide +kernel), true, rfl, if_t rfl ?_⟩
    refine ⟨_, rfl, .int i, .ty "bool", .type "int", .type "bool", false, rfl, .ty _, .base (.int i), kit_ty (by decide +kernel), false, rfl, ?_⟩
    exact k
def sp_is_letter : Sp := fun vs H Q _ => ∃ c, vs = [T [c]] ∧ Small c ∧ Q (.bl true) H
theorem signsL_mem {c : Nat} (h : Small c) : c ∈ (S signsL).cps.toList := by
  show c ∈ (List.range 26).map (· + 97)
  refine List.mem_map.mpr ⟨c - 97, List.mem_range.mpr ?_, ?_⟩
  · have := h.2
    have := h.1
    omega
  · have := h.1
    show c - 97 + 97 = c
    omega
theorem ok_is_letter (T : Txt K mg CT C) (h : Here K mg "is_letter" s_is_letter ["thing"]) : Cal P w K mg base CX0 1 "is_letter" ["thing"] sp_is_letter := by
  refine cal_of h fun f fd F => F.ok sc_is_letter (fun vs H Q E h => ?_) (fun cdv A outer s H vs Q E hr h => ?_)
  · obtain ⟨i, rfl, _⟩ := h
    rfl
  · obtain ⟨c, rfl, hc, k⟩ := h
    refine ⟨_, (pss_one (ps_ret (pe_and (pe_callB call_isi (by rfl) T.b_isinstance (by decide +kernel) (pa_cons (pv 0) (pa_cons (pe_ty (n := "str") (by rfl) T.b_str (by decide +kernel)) pa_nil))) (pe_and (pe_cmpR op_eq (pe_callB call_len_str (by rfl) T.b_len (by decide +kernel) (pa_cons (pv 0) pa_nil)) pe_int (nomark _)) (pe_one (pe_cmpR op_in_sign (pv 0) (pe_gS T.g_SIGNS rfl) rfl)))))), ?_⟩
    refine ⟨_, rfl, .str (S [c]), .ty "str", .type "str", .type "str", true, rfl, .ty _, .base (.str _), kit_ty (by decide +kernel), true, rfl, if_t rfl ?_⟩
    refine ⟨_, rfl, S [c], rfl, by show 1 ≤ sizeLine; decide, rfl, true, congrArg V.bl (decide_eq_true rfl), if_t rfl ?_⟩
    refine ⟨_, rfl, c, S signsL, rfl, rfl, ?_⟩
    rw [decide_eq_true (signsL_mem hc)]
    exact k
/-! ### meets -/
def sp_meets : Sp := fun vs H Q _ => ∃ a b, vs = [T a, T b] ∧ Q (.bl (meetsB a b)) H
theorem T_dec (a b : Tx) : decide (T a = T b) = decide (a = b) := by
  by_cases e : a = b
  · rw [e, decide_eq_true rfl, decide_eq_true rfl]
  · rw [decide_eq_false e, decide_eq_false fun z => e (S_inj (V.str.inj z))]
theorem ok_meets (h : Here K mg "meets" s_meets ["told", "side"]) : Cal P w K mg base CX0 1 "meets" ["told", "side"] sp_meets := by
  refine cal_of h fun f fd F => F.ok sc_meets (fun vs H Q E h => ?_) (fun cdv A outer s H vs Q E hr h => ?_)
  · obtain ⟨a, b, rfl, _⟩ := h
    rfl
  · obtain ⟨a, b, rfl, k⟩ := h
    refine ⟨_, (pss_one (ps_ret (pe_or (pe_cmpR op_eq (pv 0) pe_str (nomark _)) (pe_one (pe_cmpR op_eq (pv 0) (pv 1) (nomark _)))))), ?_⟩
    unfold meetsB at k
    refine ⟨_, rfl, rfl, decide (a = []), ?_, ?_⟩
    · rw [nil_str, T_dec]
    · refine ite2 (fun e => ?_) (fun e => ?_)
      · rw [e] at k
        exact k
      · have e0 : decide (a = []) = false := by simpa using e
        rw [e0] at k
        refine ⟨_, rfl, _, rfl, rfl, ?_⟩
        rw [T_dec]
        exact k
/-! ### rule_for -/
def optV : Option Nat → V
  | none => .non
  | some k => .int (k : Int)
def sp_rule_for : Sp := fun vs H Q _ => ∃ (r : Addr) (rs : List Rl) (a b c : Tx), vs = [.ref r, T a, T b, T c] ∧ RulesAt H r rs ∧ rs.length ≤ 20 ∧ ∀ H', Same H H' → Q (optV (ruleFor rs a b c)) H'
theorem ok_rule_for (T : Txt K mg CT C) (C_meets : Cal P w K mg base CX0 1 "meets" ["told", "side"] sp_meets) (h : Here K mg "rule_for" s_rule_for ["rules", "left", "letter", "right"]) :
    Cal P w K mg base CX0 2 "rule_for" ["rules", "left", "letter", "right"] sp_rule_for := by
  refine cal_of h fun f fd F => F.ok sc_rule_for (fun vs H Q E h => ?_) (fun cdv A outer s H vs Q E hr h => ?_)
  · obtain ⟨r, rs, a, b, c, rfl, _⟩ := h
    rfl
  · obtain ⟨r, rs, a, b, c, rfl, hR, hl, k⟩ := h
    refine ⟨_, (pss_cons (ps_for PassesOwn.never rfl (pi_enumT (by rfl) T.b_enumerate (pa_cons (pv 0) pa_nil)) (pg_tup rfl (pgs_cons (pg_name (i := 4) sc_rule_for.nd rfl (Or.inl rfl)) (pgs_cons (pg_name (i := 5) sc_rule_for.nd rfl (Or.inl rfl)) pgs_nil)))
(pss_one (ps_if (PW.pt (pw_and (pt_cmpR op_eq (pe_ix ix_tup (pv 5) pe_int (fun _ _ => rfl)) (pv 2) (nomark _)) (pw_and (pt_val (pe_cal C_meets pass0 hr (by decide) rfl (pa_cons (pe_ix ix_tup (pv 5) pe_int (fun _ _ => rfl)) (pa_cons (pv 1) pa_nil)))) (pw_and1 (pt_val (pe_cal C_meets pass0 hr (by decide) rfl (pa_cons (pe_ix ix_tup (pv 5) pe_int (fun _ _ => rfl)) (pa_cons (pv 3) pa_nil))))))))
(pss_one (ps_ret (pv 4)))
pss_nil)))
(pss_one (ps_ret pe_non))), ?_⟩
    obtain ⟨as, h1, h2, h3⟩ := hR
    refine ⟨_, rfl, r, as, rfl, SqT.of h1, for_it (walk_pairs (xs := as)) (fun i σ H' => Same H H' ∧ (∀ j, j < i → ∀ R, rs[j]? = some R → fitB a b c R = false) ∧ ∃ y z, σ = [some (.ref r), some (LG.T a), some (LG.T b), some (LG.T c), y, z])
      ⟨Same.refl H, fun j hj => absurd hj (Nat.not_lt_zero _), none, none, rfl⟩ (fun i σ H' _ hp => SqT.of (hp.1 _ _ h1)) ?_ ?_⟩
    · rintro i x σ H1 H2 hi ⟨sm, hn, y, z, rfl⟩ ⟨Tn, u, rfl, nT, rfl, hx⟩
      have hi2 : i < rs.length := by rw [← h2]; exact hi
      obtain ⟨ra, h4, h5⟩ := h3 i rs[i] (List.getElem?_eq_getElem hi2)
      rw [h4] at hx
      cases hx
      have sm2 : Same H (upd H1 Tn (.tup [.int (i : Nat), .ref ra])) := sm.trans (same_upd nT)
      have h6 := sm2 _ _ h5
      refine ⟨Tn, [.int (i : Nat), .ref ra], rfl, SqT.of upd_same, rfl, _, _, rfl, _, _, rfl, rfl, ?_⟩
      -- the test, part by part
      have fe : fitB a b c rs[i] = (decide (rs[i].me = b) && (meetsB rs[i].lf a && meetsB rs[i].rt c)) := rfl
      have go : fitB a b c rs[i] = false → Same H (upd H1 Tn (.tup [.int (i : Nat), .ref ra])) ∧ (∀ j, j < i + 1 → ∀ R, rs[j]? = some R → fitB a b c R = false) ∧ ∃ y z, ([some (.ref r), some (LG.T a), some (LG.T b), some (LG.T c), some (.int (i : Nat)), some (.ref ra)] : L2.St) = [some (.ref r), some (LG.T a), some (LG.T b), some (LG.T c), y, z] := fun e => by
        refine ⟨sm2, fun j hj R hR => ?_, _, _, rfl⟩
        by_cases ej : j = i
        · subst ej
          rw [List.getElem?_eq_getElem hi2] at hR
          cases hR
          exact e
        · exact hn j (by omega) R hR
      refine ⟨_, rfl, ra, _, 1, _, rfl, rfl, SqT.of h6, atI_nat (j := 1) rfl, _, rfl, rfl, _, rfl, ?_⟩
      rw [T_dec]
      refine ite2 (fun e1 => ?_) (fun e1 => ?_)
      · refine ⟨_, rfl, ra, _, 0, _, rfl, rfl, SqT.of h6, atI_nat (j := 0) rfl, _, rfl, _, _, rfl, _, rfl, ?_⟩
        refine ite2 (fun e2 => ?_) (fun e2 => ?_)
        · refine ⟨_, rfl, ra, _, 2, _, rfl, rfl, SqT.of h6, atI_nat (j := 2) rfl, _, rfl, _, _, rfl, _, rfl, ?_⟩
          refine ite2 (fun e3 => ?_) (fun e3 => ?_)
          · -- it fits: the number
            refine ⟨_, rfl, ?_⟩
            have hf : fitB a b c rs[i] = true := by rw [fe, e1, e2, e3]; rfl
            have hq : ruleFor rs a b c = some i := by
              unfold ruleFor
              rw [List.findIdx?_eq_some_iff_getElem]
              refine ⟨hi2, hf, fun j hj => ?_⟩
              rw [hn j hj rs[j] (List.getElem?_eq_getElem _)]
              exact Bool.false_ne_true
            have q := k _ sm2
            rw [hq] at q
            exact q
          · exact go (by rw [fe]; simp at e3; rw [e3]; simp)
        · exact if_f (by rfl) (go (by rw [fe]; simp at e2; rw [e2]; simp))
      · exact if_f (by rfl) (go (by rw [fe]; simp at e1; simp [e1]))
    · rintro σ H1 ⟨sm, hn, y, z, rfl⟩
      have hq : ruleFor rs a b c = none := by
        unfold ruleFor
        rw [List.findIdx?_eq_none_iff]
        intro R hR
        obtain ⟨j, hj, e⟩ := List.mem_iff_getElem.mp hR
        exact hn j (by rw [h2]; exact hj) R (by rw [← e]; exact List.getElem?_eq_getElem hj)
      have q := k _ sm
      rw [hq] at q
      exact q
end
end LG

/-! words_at. -/
namespace LG
open PySem PySem.Spec PyProof.Rows L2 SX
section
variable {P : Program} {w : World} {K : PySem.W.Frag} {mg : Str → Option Value} {base : Heap} {CT C : Addr}
theorem pad_eq (t : Tx) : S [46] ++ S t ++ S [46] = S (46 :: (t ++ [46])) := by
  rw [S_cat, S_cat]
  rfl
theorem txV_S (t : Tx) : txV (S t) = t.map fun c => T [c] := rfl
theorem pad_len (t : Tx) : (46 :: (t ++ [46])).length = t.length + 2 := by simp
def sp_words_at : Sp := fun vs H Q _ => ∃ (r : Addr) (rs : List Rl) (t : Tx), vs = [.ref r, T t] ∧ RulesAt H r rs ∧ rs.length ≤ 20 ∧ t.length ≤ 600 ∧ ∀ H' p, Same H H' → H p = none → H' p = some (.lst ((parts rs t).map T)) → Q (.ref p) H'
theorem ok_words_at (T : Txt K mg CT C) (C_rule_for : Cal P w K mg base CX0 2 "rule_for" ["rules", "left", "letter", "right"] sp_rule_for) (h : Here K mg "words_at" s_words_at ["rules", "text"]) :
    Cal P w K mg base CX0 3 "words_at" ["rules", "text"] sp_words_at := by
  refine cal_of h fun f fd F => F.ok sc_words_at (fun vs H Q E h => ?_) (fun cdv A outer s H vs Q E hr h => ?_)
  · obtain ⟨r, rs, t, rfl, _⟩ := h
    rfl
  · obtain ⟨r, rs, t, rfl, hR, hl, ht, k⟩ := h
    refine ⟨_, (pss_cons (ps_set (i := 2) sc_words_at.nd rfl (Or.inl rfl) (pe_op op_add_str (pe_op op_add_str (pe_gS T.g_NOBODY rfl) (pv 1)) (pe_gS T.g_NOBODY rfl)))
(pss_cons (ps_set (i := 3) sc_words_at.nd rfl (Or.inl rfl) (pe_lst pa_nil))
(pss_cons (ps_for PassesOwn.never rfl (pi_enumS (by rfl) T.b_enumerate (pa_cons (pv 1) pa_nil)) (pg_tup rfl (pgs_cons (pg_name (i := 4) sc_words_at.nd rfl (Or.inl rfl)) (pgs_cons (pg_name (i := 5) sc_words_at.nd rfl (Or.inl rfl)) pgs_nil)))
(pss_cons (ps_set (i := 6) sc_words_at.nd rfl (Or.inl rfl) (pe_cal C_rule_for pass0 hr (by decide) rfl (pa_cons (pv 0) (pa_cons (pe_ix ix_str (pv 2) (pv 4) (fun _ _ => rfl)) (pa_cons (pv 5) (pa_cons (pe_ix ix_str (pv 2) (pe_op op_add (pv 4) pe_int) (fun _ _ => rfl)) pa_nil))))))
(pss_one (ps_if (pt_cmpR op_isN (pv 6) pe_non (nomark _))
(pss_one (ps_expr (pe_bm PySem.F.plainAttrs_list PySem.F.slot_list_append PySem.F.type_list_append mt_append (pv 3) (pa_cons (pv 5) pa_nil))))
(pss_one (ps_expr (pe_bm PySem.F.plainAttrs_list PySem.F.slot_list_append PySem.F.type_list_append mt_append (pv 3) (pa_cons (pe_ix ix_tup (pe_ix ix_tup (pv 0) (pv 6) (fun _ _ => rfl)) pe_int (fun _ _ => rfl)) pa_nil))))))))
(pss_one (ps_ret (pv 3)))))), ?_⟩
    have z1 : (S [46]).length + (S t).length ≤ sizeLine := line600 (by rw [S_len, S_len]; simp; omega)
    have z2 : (S [46] ++ S t).length + (S [46]).length ≤ sizeLine := line600 (by rw [S_cat, S_len, S_len]; simp; omega)
    refine ⟨_, rfl, _, _, rfl, rfl, z1, _, _, rfl, rfl, z2, ?_⟩
    rw [pad_eq]
    refine ⟨Nat.zero_le _, fun o no => ?_⟩
    refine ⟨_, rfl, S t, rfl, for_it (walk_pairs (xs := txV (S t))) (fun i σ H' => Same H H' ∧ H' o = some (.lst (((parts rs t).take i).map LG.T)) ∧ ∃ x y z, σ = [some (.ref r), some (LG.T t), some (LG.T (46 :: (t ++ [46]))), some (.ref o), x, y, z])
      ⟨same_upd no, upd_same, none, none, none, rfl⟩ (fun i σ H' _ hp => trivial) ?_ ?_⟩
    · rintro i x σ H1 H2 hi ⟨sm, ho, x4, x5, x6, rfl⟩ ⟨Tn, u, rfl, nT, rfl, hx⟩
      have hi2 : i < t.length := by
        rw [txV_S, List.length_map] at hi
        exact hi
      rw [txV_S, List.getElem?_map, List.getElem?_eq_getElem hi2] at hx
      cases hx
      have noT : o ≠ Tn := ne_of_none ho nT
      have sm2 : Same H (upd H1 Tn (.tup [.int (i : Nat), LG.T [t[i]]])) := sm.trans (same_upd nT)
      have ho2 : (upd H1 Tn (.tup [.int (i : Nat), LG.T [t[i]]])) o = some (.lst (((parts rs t).take i).map LG.T)) := by rw [upd_ne noT]; exact ho
      refine ⟨Tn, [.int (i : Nat), LG.T [t[i]]], rfl, SqT.of upd_same, rfl, _, _, rfl, _, _, rfl, rfl, ?_⟩
      have hz : (S (46 :: (t ++ [46]))).length ≤ sizeLine := line600 (by rw [S_len, pad_len]; omega)
      obtain ⟨a, ha⟩ : ∃ a, (46 :: (t ++ [46]))[i]? = some a := ⟨_, List.getElem?_eq_getElem (by rw [pad_len]; omega)⟩
      obtain ⟨b, hb⟩ : ∃ b, (46 :: (t ++ [46]))[i + 2]? = some b := ⟨_, List.getElem?_eq_getElem (by rw [pad_len]; omega)⟩
      have hw : (parts rs t)[i]? = some (wordOf rs a t[i] b) := ws_at rs t 46 46 i a t[i] b ha (List.getElem?_eq_getElem hi2) hb
      refine ⟨_, rfl, _, rfl, _, rfl, S (46 :: (t ++ [46])), (i : Int), a, rfl, rfl, hz, atI_nat ha, _, rfl, _, rfl, _, rfl, (i : Int), 2, rfl, rfl, S (46 :: (t ++ [46])), (i : Int) + 2, b, rfl, rfl, hz, ?_, ?_⟩
      · rw [show (i : Int) + 2 = ((i + 2 : Nat) : Int) by omega]
        exact atI_nat hb
      · refine ⟨r, rs, [a], [t[i]], [b], rfl, hR.same sm2, hl, fun H3 sm3 => ?_⟩
        have sm4 : Same H H3 := sm2.trans sm3
        have ho3 := sm3 _ _ ho2
        have lt : (((parts rs t).take i).map LG.T).length < sizeLine := by
          rw [List.length_map, List.length_take]
          exact Nat.lt_of_le_of_lt (Nat.min_le_left _ _) (small1000 (by omega))
        have fin : ∀ x : Tx, x = wordOf rs a t[i] b → Same H (upd H3 o (.lst (((parts rs t).take i).map LG.T ++ [LG.T x]))) ∧ (upd H3 o (.lst (((parts rs t).take i).map LG.T ++ [LG.T x]))) o = some (.lst (((parts rs t).take (i + 1)).map LG.T)) := fun x ex => by
          refine ⟨fun b u e => ?_, ?_⟩
          · rw [upd_ne (ne_of_none e no)]
            exact sm4 _ _ e
          · rw [upd_same, List.take_add_one, hw, ex, List.map_append]
            rfl
        have rw1 := ruleFor_word rs a t[i] b
        cases hq : ruleFor rs [a] [t[i]] [b] with
        | none =>
          refine ⟨_, rfl, rfl, true, congrArg V.bl (decide_eq_true rfl), if_t rfl ?_⟩
          refine ⟨_, rfl, .inl ⟨rfl, _, SqL.of ho3⟩, _, rfl, o, _, _, rfl, rfl, ho3, lt, ?_⟩
          obtain ⟨q1, q2⟩ := fin [t[i]] (rw1.2 hq).symm
          exact ⟨q1, q2, _, _, _, rfl⟩
        | some m =>
          obtain ⟨R, hRm, eR⟩ := rw1.1 m hq
          obtain ⟨as, h1, h2, h3⟩ := hR
          obtain ⟨ra, h4, h5⟩ := h3 m R hRm
          refine ⟨_, rfl, rfl, false, congrArg V.bl (decide_eq_false (fun z => nomatch z)), if_f rfl ?_⟩
          refine ⟨_, rfl, .inl ⟨rfl, _, SqL.of ho3⟩, _, rfl, _, rfl, r, as, (m : Int), .ref ra, rfl, rfl, SqT.of (sm4 _ _ h1), atI_nat h4, ra, rlV R, 3, LG.T R.wd, rfl, rfl, SqT.of (sm4 _ _ h5), atI_nat (j := 3) rfl, o, _, _, rfl, rfl, ho3, lt, ?_⟩
          obtain ⟨q1, q2⟩ := fin R.wd eR
          exact ⟨q1, q2, _, _, _, rfl⟩
    · rintro σ H1 ⟨sm, ho, x4, x5, x6, rfl⟩
      have e : (parts rs t).take (txV (S t)).length = parts rs t := List.take_of_length_le (by rw [txV_S, List.length_map]; unfold parts; rw [ws_len]; exact Nat.le_refl _)
      rw [e] at ho
      exact ⟨_, rfl, k _ _ sm no ho⟩
end
end LG

/-! one_age_on. -/
namespace LG
open PySem PySem.Spec PyProof.Rows L2 SX
theorem joinL_nil : ∀ ps : List Tx, TL.joinL [] ps = ps.flatten
  | [] => rfl
  | [p] => by
    show p = p ++ []
    rw [List.append_nil]
  | p :: q :: r => by
    show p ++ ([] ++ TL.joinL [] (q :: r)) = p ++ (q :: r).flatten
    rw [joinL_nil (q :: r)]
    rfl
theorem join_flat (ps : List Tx) : Txt.join (S []) (ps.map S) = S ps.flatten := by
  rw [join_S, joinL_nil]
theorem join_size (ps : List Tx) (a : Str) (ha : a.length = 0) : ((ps.map S).map (·.length)).sum + (ps.map S).length * a.length = ps.flatten.length := by
  rw [lens, ha, Nat.mul_zero, Nat.add_zero, List.length_flatten]
theorem map_T (ps : List Tx) : (ps.map S).map V.str = ps.map T := by
  rw [List.map_map]
  rfl
theorem wordOf_le {rs : List Rl} (h : ∀ R ∈ rs, R.wd.length ≤ 6) (l c r : Nat) : (wordOf rs l c r).length ≤ 6 := by
  unfold wordOf
  cases e : rs.find? (fitB [l] [c] [r]) with
  | none => simp
  | some R => exact h R (List.mem_of_find?_eq_some e)
theorem ws_size {rs : List Rl} (h : ∀ R ∈ rs, R.wd.length ≤ 6) : ∀ (t : Tx) (l r : Nat), (ws rs l t r).flatten.length ≤ 6 * t.length ∧ ∀ x ∈ ws rs l t r, x.length ≤ 6
  | [], _, _ => ⟨Nat.le_refl _, fun x hx => by cases hx⟩
  | c :: t, l, r => by
    obtain ⟨h1, h2⟩ := ws_size h t c r
    have h3 := wordOf_le h l c (t.headD r)
    refine ⟨?_, fun x hx => ?_⟩
    · show (wordOf rs l c (t.headD r) ++ (ws rs c t r).flatten).length ≤ 6 * (t.length + 1)
      rw [List.length_append]
      omega
    · rcases List.mem_cons.mp hx with e | hx
      · rw [e]
        exact h3
      · exact h2 x hx
/-- the begins of the first i parts and of what follows -/
def begs (ps : List Tx) (i : Nat) : List Nat := (List.range (i + 1)).map (pre ps)
theorem begs_succ (ps : List Tx) (i : Nat) : begs ps (i + 1) = begs ps i ++ [pre ps (i + 1)] := by
  unfold begs
  rw [List.range_succ, List.map_append]
  rfl
theorem begs_snoc (ps : List Tx) (i : Nat) : begs ps i = (List.range i).map (pre ps) ++ [pre ps i] := by
  unfold begs
  rw [List.range_succ, List.map_append]
  rfl
theorem nums_app (a b : List Nat) : nums (a ++ b) = nums a ++ nums b := List.map_append ..
theorem begs_last (ps : List Tx) (i : Nat) : atI (nums (begs ps i)) (-1) = some (.int ((pre ps i : Nat) : Int)) := by
  rw [begs_snoc, nums_app]
  exact atI_last _ _
theorem begs_at (ps : List Tx) {i n : Nat} (h : n ≤ i) : (nums (begs ps i))[n]? = some (.int ((pre ps n : Nat) : Int)) := by
  unfold nums begs
  rw [List.getElem?_map, List.getElem?_map, List.getElem?_range (by omega)]
  rfl
theorem begs_len (ps : List Tx) (i : Nat) : (nums (begs ps i)).length = i + 1 := by
  unfold nums begs
  rw [List.length_map, List.length_map, List.length_range]
section
variable {P : Program} {w : World} {K : PySem.W.Frag} {mg : Str → Option Value} {base : Heap} {CT C : Addr}
def sp_one_age_on (CT : Addr) : Sp := fun vs H Q E => ∃ (r q : Addr) (rs : List Rl) (t : Tx) (pl : List Nat), vs = [.ref r, T t, .ref q] ∧ RulesAt H r rs ∧ rs.length ≤ 20 ∧ (∀ R ∈ rs, R.wd.length ≤ 6) ∧ t.length ≤ 600 ∧
  H q = some (.lst (nums pl)) ∧ pl.length ≤ 600 ∧ (∀ n ∈ pl, n ≤ t.length) ∧
  ((next rs (t, pl)).1.length ≤ 600 → ∀ H' a d, Same H H' → H a = none → H d = none → H' a = some (.tup [T (next rs (t, pl)).1, .ref d]) → H' d = some (.lst (nums (next rs (t, pl)).2)) → Q (.ref a) H') ∧
  (¬ (next rs (t, pl)).1.length ≤ 600 → ∀ H', Same H H' → E (.ref CT) none H')
theorem ok_one_age_on (T : Txt K mg CT C) (C_words_at : Cal P w K mg base CX0 3 "words_at" ["rules", "text"] sp_words_at) (h : Here K mg "one_age_on" s_one_age_on ["rules", "text", "places"]) :
    Cal P w K mg base (L2.CX P w) 4 "one_age_on" ["rules", "text", "places"] (sp_one_age_on CT) := by
  refine cal_of h fun f fd F => F.okX sc_one_age_on (fun vs H Q E h => ?_) (fun cdv A outer s H vs Q E hr h => ?_)
  · obtain ⟨r, q, rs, t, pl, rfl, _⟩ := h
    rfl
  · obtain ⟨r, q, rs, t, pl, rfl, hR, hl, hw, ht, hq, hpl, hle, kS, kE⟩ := h
    refine ⟨_, (pss_cons (ps_set (i := 3) sc_one_age_on.nd rfl (Or.inl rfl) (pe_cal C_words_at pass0 hr (by decide) rfl (pa_cons (pv 0) (pa_cons (pv 1) pa_nil))))
(pss_cons (ps_set (i := 4) sc_one_age_on.nd rfl (Or.inr rfl) (pe_lst (pa_cons pe_int pa_nil)))
(pss_cons (ps_for (passes_of rfl) rfl (pi_list (pv 3)) (pg_name (i := 5) sc_one_age_on.nd rfl (Or.inl rfl))
(pss_one (ps_expr (pe_bm PySem.F.plainAttrs_list PySem.F.slot_list_append PySem.F.type_list_append mt_append (pv 4) (pa_cons (pe_op op_add (pe_ix ix_list (pv 4) (pe_un un_neg pe_int) (fun _ _ => rfl)) (pe_callB call_len_str (by rfl) T.b_len (by decide +kernel) (pa_cons (pv 5) pa_nil))) pa_nil)))))
(pss_cons (ps_if (pt_cmpR op_gt (pe_ix ix_list (pv 4) (pe_un un_neg pe_int) (fun _ _ => rfl)) (pe_gI T.g_MOST_ROW rfl) (nomark _))
(pss_one (ps_raise rfl (takes_of rfl rfl rfl rfl) (pmk_own PySem.F.excBase_ValueError T.xT T.gT T.kT (raises_own T.bT T.tT) rfl)))
pss_nil)
(pss_one (ps_ret (pe_tup (pa_cons (pe_join pe_str (pv 3)) (pa_cons (pe_lc (te := tOp (rIxL K) (tVar 4) (tVar 6)) (own := [("place", 6)]) (g := gName 6) (tt := tYes) rfl sc_one_age_on.nd (pi_list (pv 2)) (blkOk_by (N := N_one_age_on) (sc := defScope s_one_age_on) (by decide +kernel)) (fun _ _ _ _ _ => pg_name (i := 6) sc_one_age_on.nd rfl (Or.inl rfl)) (fun _ _ _ _ _ => pts_nil) (fun _ _ _ _ _ => (pe_ix ix_list (pv 4) (pv 6) (fun _ _ => rfl)))) pa_nil))))))))), ?_⟩
    refine ⟨_, rfl, _, rfl, r, rs, t, rfl, hR, hl, ht, fun H1 o sm1 no ho => ?_⟩
    refine ⟨by show 1 ≤ sizeLine; decide, fun b nb => ?_⟩
    have nob : o ≠ b := ne_of_none ho nb
    have nb0 : H b = none := sm1.free nb
    have lp : (parts rs t).length = t.length := ws_len rs t dot dot
    refine ⟨_, rfl, o, rfl, ⟨_, SqL.of (by rw [upd_ne nob]; exact ho)⟩, for_list (K := K) (a := o) (xs := (parts rs t).map LG.T) (fun i σ H' => Same H1 H' ∧ H' b = some (.lst (nums (begs (parts rs t) i))) ∧ ∃ y z, σ = [some (.ref r), some (LG.T t), some (.ref q), some (.ref o), some (.ref b), y, z])
      ⟨same_upd nb, upd_same, none, none, rfl⟩ (fun i σ H' _ hp => SqL.of (hp.1 _ _ ho)) ?_ ?_⟩
    · rintro i x σ H2 hx ⟨sm2, hb, y, z, rfl⟩
      rw [List.getElem?_map] at hx
      obtain ⟨pt, hp, rfl⟩ : ∃ pt, (parts rs t)[i]? = some pt ∧ x = LG.T pt := by
        cases e : (parts rs t)[i]? with
        | none => rw [e] at hx; cases hx
        | some pt =>
          rw [e] at hx
          exact ⟨pt, rfl, (Option.some.inj hx).symm⟩
      have hi : i < t.length := by
        rw [← lp]
        exact (List.getElem?_eq_some_iff.mp hp).1
      have h6 : pt.length ≤ 6 := (ws_size hw t dot dot).2 pt (List.mem_of_getElem? hp)
      refine ⟨_, rfl, .inl ⟨rfl, _, SqL.of hb⟩, _, rfl, 1, rfl, b, _, _, _, rfl, rfl, SqL.of hb, begs_last _ i, _, rfl, S pt, rfl, line600 (by rw [S_len]; omega), _, _, rfl, rfl, b, _, _, rfl, rfl, hb, ?_, ?_⟩
      · rw [begs_len]
        exact small1000 (by omega)
      · refine ⟨fun c u e => ?_, ?_, _, _, rfl⟩
        · rw [upd_ne (ne_of_none e nb)]
          exact sm2 _ _ e
        · rw [upd_same, begs_succ, nums_app, pre_succ hp, S_len]
          rfl
    · rintro σ H2 ⟨sm2, hb, y, z, rfl⟩
      rw [List.length_map, lp] at hb
      have ep : pre (parts rs t) t.length = (parts rs t).flatten.length := by
        rw [← lp]
        exact pre_all _
      have sm3 : Same H H2 := sm1.trans sm2
      refine ⟨_, rfl, 1, rfl, b, _, _, _, rfl, rfl, SqL.of hb, begs_last _ t.length, _, _, rfl, rfl, _, rfl, ?_⟩
      rw [ep]
      refine ite2 (fun e => ?_) (fun e => ?_)
      · exact kE (fun hh => by have h1 := of_decide_eq_true e; have h2 : (parts rs t).flatten.length ≤ 600 := hh; omega) H2 sm3
      · have hsz : (next rs (t, pl)).1.length ≤ 600 := by
          show (parts rs t).flatten.length ≤ 600
          have : ¬ ((600 : Int) < (((parts rs t).flatten.length : Nat) : Int)) := fun z => e (decide_eq_true z)
          omega
        refine ⟨⟨_, rfl⟩, _, rfl, _, o, (parts rs t).map S, rfl, rfl, .inl (SqL.of (by rw [map_T]; exact sm2 _ _ ho)), ?_, ?_⟩
        · rw [join_size _ _ (by rw [nil_str]; rfl)]
          have : (parts rs t).flatten.length ≤ 600 := hsz
          omega
        · rw [nil_str, join_flat]
          refine ⟨_, rfl, q, rfl, ⟨_, SqL.of (sm3 _ _ hq)⟩, fun d nd => ?_⟩
          refine lc_list (K := K) (a := q) (xs := nums pl) (fun i H' => Same H2 H' ∧ H' d = some (.lst (nums ((pl.take i).map (pre (parts rs t)))))) ⟨same_upd nd, upd_same⟩ (fun i H' _ hp => SqL.of (hp.1 _ _ (sm3 _ _ hq))) ?_ ?_
          · rintro i x H3 hx ⟨sm4, hd⟩
            unfold nums at hx
            rw [List.getElem?_map] at hx
            obtain ⟨n, hn, rfl⟩ : ∃ n, pl[i]? = some n ∧ x = V.int ((n : Nat) : Int) := by
              cases e : pl[i]? with
              | none => rw [e] at hx; cases hx
              | some n =>
                rw [e] at hx
                exact ⟨n, rfl, (Option.some.inj hx).symm⟩
            refine ⟨rfl, _, rfl, _, rfl, b, _, _, _, rfl, rfl, SqL.of (sm4 _ _ hb), atI_nat (begs_at _ (hle n (List.mem_of_getElem? hn))), _, hd, ?_, ?_, ?_⟩
            · unfold nums
              rw [List.length_map, List.length_map, List.length_take]
              exact Nat.lt_of_le_of_lt (Nat.min_le_right _ _) (small1000 (by omega))
            · intro c u e
              rw [upd_ne (ne_of_none e nd)]
              exact sm4 _ _ e
            · rw [upd_same, List.take_add_one, hn]
              unfold nums
              rw [List.map_append, List.map_append]
              rfl
          · rintro H3 ⟨sm4, hd⟩
            have e1 : pl.take (nums pl).length = pl := List.take_of_length_le (by unfold nums; rw [List.length_map]; exact Nat.le_refl _)
            rw [e1] at hd
            refine ⟨by show 2 ≤ sizeLine; decide, fun a na => ?_⟩
            have sm5 : Same H H3 := sm3.trans sm4
            have nad : d ≠ a := ne_of_none hd na
            exact kS hsz _ a d (sm5.trans (same_upd na)) (sm5.free na) (sm3.free nd) upd_same (by rw [upd_ne nad]; exact hd)
end
end LG

/-! need_wide_age, grown_rows, wide_row, starts. -/
namespace LG
open PySem PySem.Spec PyProof.Rows L2 SX
theorem mem_le_pre (B : List Tx) (i : Nat) : pre B i ≤ B.flatten.length := by
  unfold pre
  conv => rhs; rw [← List.take_append_drop i B]
  rw [List.flatten_append, List.length_append]
  omega
theorem rowT_le (rs : List Rl) (first : Tx) (n : Nat) : (∀ m ∈ (rowT rs first n).2, m ≤ (rowT rs first n).1.length) ∧ (rowT rs first n).2.length = first.length := by
  rw [rowT_blocks]
  refine ⟨fun m hm => ?_, by simp⟩
  obtain ⟨i, _, rfl⟩ := List.mem_map.mp hm
  exact mem_le_pre _ _
theorem rg_nums (n : Nat) : rgV 0 (n : Int) = nums (List.range n) := by
  unfold rgV nums
  rw [show ((n : Int) - 0).toNat = n by omega]
  refine List.map_congr_left fun i _ => ?_
  rw [Int.zero_add]
section
variable {P : Program} {w : World} {K : PySem.W.Frag} {mg : Str → Option Value} {base : Heap} {CT C : Addr}
def sp_need : Sp := fun vs H Q _ => ∃ a m : Int, vs = [.int a, .int m] ∧ 0 ≤ a ∧ a ≤ m ∧ Q .non H
theorem ok_need_wide_age (C_is_whole : Cal P w K mg base CX0 1 "is_whole" ["thing"] sp_is_whole) (h : Here K mg "need_wide_age" s_need_wide_age ["age", "most"]) : Cal P w K mg base CX0 2 "need_wide_age" ["age", "most"] sp_need := by
  refine cal_of h fun f fd F => F.ok sc_need_wide_age (fun vs H Q E h => ?_) (fun cdv A outer s H vs Q E hr h => ?_)
  · obtain ⟨a, m, rfl, _⟩ := h
    rfl
  · obtain ⟨a, m, rfl, h0, h1, k⟩ := h
    refine ⟨_, (pss_one (ps_if (PW.pt (pw_or (pt_not (pt_val (pe_cal C_is_whole pass0 hr (by decide) rfl (pa_cons (pv 0) pa_nil)))) (pw_or (pt_cmpR op_lt (pv 0) pe_int (nomark _)) (pw_or1 (pt_cmpR op_gt (pv 0) (pv 1) (nomark _))))))
(pss_one ps_never)
pss_nil)), ?_⟩
    refine ⟨_, rfl, a, rfl, true, rfl, if_f rfl ?_⟩
    refine ⟨_, rfl, _, _, rfl, rfl, _, rfl, if_f (decide_eq_false (by omega)) ?_⟩
    exact ⟨_, rfl, _, rfl, _, _, rfl, rfl, _, rfl, if_f (decide_eq_false (by omega)) k⟩
theorem ok_need_place (C_is_whole : Cal P w K mg base CX0 1 "is_whole" ["thing"] sp_is_whole) (h : Here K mg "need_place" s_need_place ["place", "most"]) : Cal P w K mg base CX0 2 "need_place" ["place", "most"] sp_need := by
  refine cal_of h fun f fd F => F.ok sc_need_place (fun vs H Q E h => ?_) (fun cdv A outer s H vs Q E hr h => ?_)
  · obtain ⟨a, m, rfl, _⟩ := h
    rfl
  · obtain ⟨a, m, rfl, h0, h1, k⟩ := h
    refine ⟨_, (pss_one (ps_if (PW.pt (pw_or (pt_not (pt_val (pe_cal C_is_whole pass0 hr (by decide) rfl (pa_cons (pv 0) pa_nil)))) (pw_or (pt_cmpR op_lt (pv 0) pe_int (nomark _)) (pw_or1 (pt_cmpR op_gt (pv 0) (pv 1) (nomark _))))))
(pss_one ps_never)
pss_nil)), ?_⟩
    refine ⟨_, rfl, a, rfl, true, rfl, if_f rfl ?_⟩
    refine ⟨_, rfl, _, _, rfl, rfl, _, rfl, if_f (decide_eq_false (by omega)) ?_⟩
    exact ⟨_, rfl, _, rfl, _, _, rfl, rfl, _, rfl, if_f (decide_eq_false (by omega)) k⟩
def sp_need_sign : Sp := fun vs H Q _ => ∃ c, vs = [T [c]] ∧ Small c ∧ Q .non H
theorem ok_need_sign (C_is_letter : Cal P w K mg base CX0 1 "is_letter" ["thing"] sp_is_letter) (h : Here K mg "need_sign" s_need_sign ["letter"]) : Cal P w K mg base CX0 2 "need_sign" ["letter"] sp_need_sign := by
  refine cal_of h fun f fd F => F.ok sc_need_sign (fun vs H Q E h => ?_) (fun cdv A outer s H vs Q E hr h => ?_)
  · obtain ⟨c, rfl, _⟩ := h
    rfl
  · obtain ⟨c, rfl, hc, k⟩ := h
    refine ⟨_, (pss_one (ps_if (pt_not (pt_val (pe_cal C_is_letter pass0 hr (by decide) rfl (pa_cons (pv 0) pa_nil))))
(pss_one ps_never)
pss_nil)), ?_⟩
    exact ⟨_, rfl, c, rfl, hc, true, rfl, if_f rfl k⟩
/-! ### grown_rows -/
def sp_grown_rows (CT : Addr) : Sp := fun vs H Q E => ∃ (b r : Addr) (first : Tx) (rs : List Rl) (n : Nat), vs = [.ref b, .int (n : Int)] ∧ WideAt H b first r rs ∧ rs.length ≤ 20 ∧ (∀ R ∈ rs, R.wd.length ≤ 6) ∧ first.length ≤ 12 ∧ n ≤ 40 ∧
  (okTo rs first n → ∀ H' l, Same H H' → H l = none → GrownAt H' l (rowsL rs first n) → Q (.ref l) H') ∧ (¬ okTo rs first n → ∀ H', Same H H' → E (.ref CT) none H')
theorem ok_grown_rows (T : Txt K mg CT C) (C_one_age_on : Cal P w K mg base (L2.CX P w) 4 "one_age_on" ["rules", "text", "places"] (sp_one_age_on CT)) (h : Here K mg "grown_rows" s_grown_rows ["wide", "age"]) :
    Cal P w K mg base (L2.CX P w) 5 "grown_rows" ["wide", "age"] (sp_grown_rows CT) := by
  refine cal_of h fun f fd F => F.okX sc_grown_rows (fun vs H Q E h => ?_) (fun cdv A outer s H vs Q E hr h => ?_)
  · obtain ⟨b, r, first, rs, n, rfl, _⟩ := h
    rfl
  · obtain ⟨b, r, first, rs, n, rfl, ⟨hB, hR⟩, hl, hw, hf, hn, kS, kE⟩ := h
    refine ⟨_, (pss_cons (ps_set (i := 2) sc_grown_rows.nd rfl (Or.inl rfl) (pe_lst (pa_cons (pe_tup (pa_cons (pe_ix ix_tup (pv 0) pe_int (fun _ _ => rfl)) (pa_cons (pe_listRg rfl rfl T.b_list (prg_1 rfl T.b_range (pe_callB call_len_str (by rfl) T.b_len (by decide +kernel) (pa_cons (pe_ix ix_tup (pv 0) pe_int (fun _ _ => rfl)) pa_nil)))) pa_nil))) pa_nil)))
(pss_cons (ps_for (passes_of rfl) rfl (pi_range1 rfl T.b_range (pa_cons (pv 1) pa_nil)) (pg_name (i := 3) sc_grown_rows.nd rfl (Or.inl rfl))
(pss_cons (ps_asg (pe_ix ix_list (pv 2) (pv 3) (fun _ _ => rfl)) (pg_tup rfl (pgs_cons (pg_name (i := 4) sc_grown_rows.nd rfl (Or.inl rfl)) (pgs_cons (pg_name (i := 5) sc_grown_rows.nd rfl (Or.inl rfl)) pgs_nil))))
(pss_one (ps_expr (pe_bm PySem.F.plainAttrs_list PySem.F.slot_list_append PySem.F.type_list_append mt_append (pv 2) (pa_cons (pe_cal C_one_age_on (passX (takes_of rfl rfl rfl rfl)) hr (by decide) rfl (pa_cons (pe_ix ix_tup (pv 0) pe_int (fun _ _ => rfl)) (pa_cons (pv 4) (pa_cons (pv 5) pa_nil)))) pa_nil))))))
(pss_one (ps_ret (pv 2))))), ?_⟩
    refine ⟨_, rfl, b, _, 0, _, rfl, rfl, SqT.of hB, atI_nat (j := 0) rfl, _, rfl, b, _, 0, _, rfl, rfl, SqT.of hB, atI_nat (j := 0) rfl, S first, rfl, line600 (by rw [S_len]; omega), _, rfl, ?_, fun q nq => ?_⟩
    · rw [S_len]
      exact RgOk.of_le (by omega) (by omega) (by omega) (by omega)
    rw [S_len, rg_nums]
    refine ⟨by show 2 ≤ sizeLine; decide, fun a na => ⟨by show 1 ≤ sizeLine; decide, fun l nl => ?_⟩⟩
    have nqa : q ≠ a := ne_of_none upd_same na
    have nal : a ≠ l := ne_of_none upd_same nl
    have nql : q ≠ l := ne_of_none (by rw [upd_ne nqa]; exact upd_same) nl
    have sm0 : Same H (upd (upd (upd H q (.lst (nums (List.range first.length)))) a (.tup [LG.T first, .ref q])) l (.lst [.ref a])) := ((same_upd nq).trans (same_upd na)).trans (same_upd nl)
    have nl0 : H l = none := ((same_upd nq).trans (same_upd na)).free nl
    refine ⟨_, rfl, (n : Int), rfl, by omega, by omega, for_range (lo := 0) (n := (n : Int).toNat) (fun i σ H' => Same H H' ∧ GrownAt H' l (rowsL rs first i) ∧ okTo rs first i ∧ ∃ x y z, σ = [some (.ref b), some (.int (n : Int)), some (.ref l), x, y, z])
      ⟨sm0, ⟨_, upd_same, rfl, fun i g hg => ?_⟩, okTo_zero _ _, none, none, none, rfl⟩ ?_ ?_⟩
    · have hi : i = 0 := by
        have := (List.getElem?_eq_some_iff.mp hg).1
        rw [rowsL_len] at this
        omega
      subst hi
      rw [rowsL_at rs first (Nat.le_refl 0)] at hg
      cases hg
      refine ⟨a, q, rfl, by rw [upd_ne nal, upd_same]; rfl, ?_, nql⟩
      rw [upd_ne nql, upd_ne nqa, upd_same]
      rfl
    · rintro i σ H1 hi ⟨sm, hG, ok, x, y, z, rfl⟩
      have hi2 : i < n := by omega
      obtain ⟨as, g1, g2, g3⟩ := hG
      obtain ⟨ra, rq, g4, g5, g6, g7⟩ := g3 i _ (rowsL_at rs first (Nat.le_refl i))
      have hrow := ok.row hf (Nat.le_refl i)
      obtain ⟨p1, p2⟩ := rowT_le rs first i
      refine ⟨_, rfl, _, rfl, l, as, _, _, rfl, rfl, SqL.of g1, (by rw [Int.zero_add]; exact atI_nat g4), ra, _, rfl, SqT.of g5, rfl, _, _, rfl, _, _, rfl, rfl, ?_⟩
      refine ⟨_, rfl, .inl ⟨rfl, _, SqL.of g1⟩, _, rfl, b, _, 1, _, rfl, rfl, SqT.of (sm _ _ hB), atI_nat (j := 1) rfl, _, rfl, _, rfl, r, rq, rs, (rowT rs first i).1, (rowT rs first i).2, rfl, hR.same sm, hl, hw, hrow, g6, by rw [p2]; omega, p1, fun hle H3 c d sm3 nc nd hc hd => ?_, fun hle H3 sm3 => ?_⟩
      · -- the row is kept
        have nlc : l ≠ c := ne_of_none g1 nc
        have nld : d ≠ l := (ne_of_none g1 nd).symm
        have g1' := sm3 _ _ g1
        refine ⟨l, as, _, rfl, rfl, g1', ?_, ?_⟩
        · rw [g2, rowsL_len]
          exact small1000 (by omega)
        · refine ⟨fun e u he => ?_, ⟨as ++ [.ref c], upd_same, ?_, fun j g hg => ?_⟩, okTo_succ ok hle, _, _, _, rfl⟩
          · rw [upd_ne (ne_of_none he nl0)]
            exact sm3 _ _ (sm _ _ he)
          · rw [List.length_append, g2, rowsL_len, rowsL_len]
            rfl
          · rw [rowsL_succ] at hg
            by_cases hj : j < i + 1
            · rw [List.getElem?_append_left (by rw [rowsL_len]; exact hj)] at hg
              obtain ⟨ja, jq, k4, k5, k6, k7⟩ := g3 j g hg
              refine ⟨ja, jq, by rw [List.getElem?_append_left (by rw [g2, rowsL_len]; exact hj)]; exact k4, ?_, ?_, k7⟩
              · rw [upd_ne (ne_of k5 g1 (by intro z; cases z))]
                exact sm3 _ _ k5
              · rw [upd_ne k7]
                exact sm3 _ _ k6
            · have hj2 : j = i + 1 := by
                have := (List.getElem?_eq_some_iff.mp hg).1
                rw [List.length_append, rowsL_len] at this
                simp at this
                omega
              subst hj2
              rw [List.getElem?_append_right (by rw [rowsL_len]; exact Nat.le_refl _), rowsL_len, Nat.sub_self] at hg
              cases hg
              refine ⟨c, d, ?_, ?_, ?_, nld⟩
              · rw [List.getElem?_append_right (by rw [g2, rowsL_len]; exact Nat.le_refl _), g2, rowsL_len, Nat.sub_self]
                rfl
              · rw [upd_ne nlc.symm]
                exact hc
              · rw [upd_ne nld]
                exact hd
      · -- it is too long
        exact kE (fun o => hle (o (i + 1) (by omega) (by omega))) H3 (sm.trans sm3)
    · rintro σ H1 ⟨sm, hG, ok, x, y, z, rfl⟩
      rw [Int.toNat_natCast] at hG ok
      exact ⟨_, rfl, kS ok H1 l sm nl0 hG⟩
/-! ### wide_row, starts -/
def sp_wide_row : Sp := fun vs H Q _ => ∃ (b r : Addr) (first : Tx) (rs : List Rl) (n : Nat), vs = [.ref b, .int (n : Int)] ∧ WideAt H b first r rs ∧ rs.length ≤ 20 ∧ (∀ R ∈ rs, R.wd.length ≤ 6) ∧ first.length ≤ 12 ∧ n ≤ 40 ∧ okTo rs first n ∧
  ∀ H', Same H H' → Q (T (rowT rs first n).1) H'
theorem ok_wide_row (T : Txt K mg CT C) (C_need_wide_age : Cal P w K mg base CX0 2 "need_wide_age" ["age", "most"] sp_need) (C_grown_rows : Cal P w K mg base (L2.CX P w) 5 "grown_rows" ["wide", "age"] (sp_grown_rows CT)) (h : Here K mg "wide_row" s_wide_row ["wide", "age"]) :
    Cal P w K mg base (L2.CX P w) 6 "wide_row" ["wide", "age"] sp_wide_row := by
  refine cal_of h fun f fd F => F.okX sc_wide_row (fun vs H Q E h => ?_) (fun cdv A outer s H vs Q E hr h => ?_)
  · obtain ⟨b, r, first, rs, n, rfl, _⟩ := h
    rfl
  · obtain ⟨b, r, first, rs, n, rfl, hW, hl, hw, hf, hn, ok, k⟩ := h
    refine ⟨_, (pss_cons (ps_expr (pe_cal C_need_wide_age pass0 hr (by decide) rfl (pa_cons (pv 1) (pa_cons (pe_gI T.g_LAST_AGE rfl) pa_nil))))
(pss_one (ps_ret (pe_ix ix_tup (pe_ix ix_list (pe_cal C_grown_rows (passX (takes_of rfl rfl rfl rfl)) hr (by decide) rfl (pa_cons (pv 0) (pa_cons (pv 1) pa_nil))) (pv 1) (fun _ _ => rfl)) pe_int (fun _ _ => rfl))))), ?_⟩
    refine ⟨_, rfl, (n : Int), 40, rfl, by omega, by omega, ?_⟩
    refine ⟨_, rfl, _, rfl, b, r, first, rs, n, rfl, hW, hl, hw, hf, hn, fun _ H1 l sm nl hG => ?_, fun z => absurd ok z⟩
    obtain ⟨as, g1, g2, g3⟩ := hG
    obtain ⟨ra, rq, g4, g5, g6, g7⟩ := g3 n _ (rowsL_at rs first (Nat.le_refl n))
    exact ⟨_, rfl, l, as, _, _, rfl, rfl, SqL.of g1, atI_nat g4, ra, _, 0, _, rfl, rfl, SqT.of g5, atI_nat (j := 0) rfl, k _ sm⟩
def sp_starts : Sp := fun vs H Q _ => ∃ (b r : Addr) (first : Tx) (rs : List Rl) (n : Nat), vs = [.ref b, .int (n : Int)] ∧ WideAt H b first r rs ∧ rs.length ≤ 20 ∧ (∀ R ∈ rs, R.wd.length ≤ 6) ∧ first.length ≤ 12 ∧ n ≤ 40 ∧ okTo rs first n ∧
  ∀ H' q, Same H H' → H' q = some (.lst (nums (rowT rs first n).2)) → Q (.ref q) H'
theorem ok_starts (T : Txt K mg CT C) (C_need_wide_age : Cal P w K mg base CX0 2 "need_wide_age" ["age", "most"] sp_need) (C_grown_rows : Cal P w K mg base (L2.CX P w) 5 "grown_rows" ["wide", "age"] (sp_grown_rows CT)) (h : Here K mg "starts" s_starts ["wide", "age"]) :
    Cal P w K mg base (L2.CX P w) 6 "starts" ["wide", "age"] sp_starts := by
  refine cal_of h fun f fd F => F.okX sc_starts (fun vs H Q E h => ?_) (fun cdv A outer s H vs Q E hr h => ?_)
  · obtain ⟨b, r, first, rs, n, rfl, _⟩ := h
    rfl
  · obtain ⟨b, r, first, rs, n, rfl, hW, hl, hw, hf, hn, ok, k⟩ := h
    refine ⟨_, (pss_cons (ps_expr (pe_cal C_need_wide_age pass0 hr (by decide) rfl (pa_cons (pv 1) (pa_cons (pe_gI T.g_LAST_AGE rfl) pa_nil))))
(pss_one (ps_ret (pe_ix ix_tup (pe_ix ix_list (pe_cal C_grown_rows (passX (takes_of rfl rfl rfl rfl)) hr (by decide) rfl (pa_cons (pv 0) (pa_cons (pv 1) pa_nil))) (pv 1) (fun _ _ => rfl)) pe_int (fun _ _ => rfl))))), ?_⟩
    refine ⟨_, rfl, (n : Int), 40, rfl, by omega, by omega, ?_⟩
    refine ⟨_, rfl, _, rfl, b, r, first, rs, n, rfl, hW, hl, hw, hf, hn, fun _ H1 l sm nl hG => ?_, fun z => absurd ok z⟩
    obtain ⟨as, g1, g2, g3⟩ := hG
    obtain ⟨ra, rq, g4, g5, g6, g7⟩ := g3 n _ (rowsL_at rs first (Nat.le_refl n))
    exact ⟨_, rfl, l, as, _, _, rfl, rfl, SqL.of g1, atI_nat g4, ra, _, 1, _, rfl, rfl, SqT.of g5, atI_nat (j := 1) rfl, k _ rq sm g6⟩
end
end LG

/-! span, the hedge's methods. -/
namespace LG
open PySem PySem.Spec PyProof.Rows L2 SX
theorem nums_len (l : List Nat) : (nums l).length = l.length := List.length_map ..
theorem atI_nums {l : List Nat} {i : Int} (h0 : 0 ≤ i) (h1 : i < l.length) : atI (nums l) i = some (.int ((l.getD i.toNat 0 : Nat) : Int)) := by
  obtain ⟨j, rfl⟩ : ∃ j : Nat, i = (j : Int) := ⟨i.toNat, by omega⟩
  have hj : j < l.length := by omega
  refine atI_nat ?_
  unfold nums
  rw [List.getElem?_map, List.getElem?_eq_getElem hj]
  simp [List.getD, hj]
section
variable {P : Program} {w : World} {K : PySem.W.Frag} {mg : Str → Option Value} {base : Heap} {CT C : Addr}
def sp_span : Sp := fun vs H Q _ => ∃ (t : Tx) (q : Addr) (pl : List Nat) (p lo hi : Int), vs = [T t, .ref q, .int p, .int lo, .int hi] ∧ t.length ≤ 600 ∧ H q = some (.lst (nums pl)) ∧
  ∀ H' a, Same H H' → H a = none → H' a = some (.tup [.int (spanT t pl p lo hi).1, .int (spanT t pl p lo hi).2]) → Q (.ref a) H'
theorem ok_span (T : Txt K mg CT C) (h : Here K mg "span" s_span ["text", "places", "place", "low", "high"]) : Cal P w K mg base CX0 1 "span" ["text", "places", "place", "low", "high"] sp_span := by
  refine cal_of h fun f fd F => F.ok sc_span (fun vs H Q E h => ?_) (fun cdv A outer s H vs Q E hr h => ?_)
  · obtain ⟨t, q, pl, p, lo, hi, rfl, _⟩ := h
    rfl
  · obtain ⟨t, q, pl, p, lo, hi, rfl, ht, hq, k⟩ := h
    refine ⟨_, (pss_cons (ps_set (i := 3) sc_span.nd rfl (Or.inl rfl) (pe_callB (call_max2 rfl) (by rfl) T.b_max (by decide +kernel) (pa_cons pe_int (pa_cons (pv 3) pa_nil))))
(pss_cons (ps_set (i := 4) sc_span.nd rfl (Or.inl rfl) (pe_callB (call_min2 rfl) (by rfl) T.b_min (by decide +kernel) (pa_cons (pe_op op_sub (pe_callB call_len_seq (by rfl) T.b_len (by decide +kernel) (pa_cons (pv 1) pa_nil)) pe_int) (pa_cons (pv 4) pa_nil))))
(pss_cons (ps_if (pt_cmpR op_gt (pv 3) (pv 4) (nomark _))
(pss_one (ps_ret (pe_tup (pa_cons (pv 2) (pa_cons pe_int pa_nil)))))
pss_nil)
(pss_cons (ps_set (i := 5) sc_span.nd rfl (Or.inl rfl) (pe_callB call_len_str (by rfl) T.b_len (by decide +kernel) (pa_cons (pv 0) pa_nil)))
(pss_cons (ps_if (pt_cmpR op_lt (pe_op op_add (pv 4) pe_int) (pe_callB call_len_seq (by rfl) T.b_len (by decide +kernel) (pa_cons (pv 1) pa_nil)) (nomark _))
(pss_one (ps_set (i := 5) sc_span.nd rfl (Or.inl rfl) (pe_ix ix_list (pv 1) (pe_op op_add (pv 4) pe_int) (fun _ _ => rfl))))
pss_nil)
(pss_one (ps_ret (pe_tup (pa_cons (pe_ix ix_list (pv 1) (pv 3) (fun _ _ => rfl)) (pa_cons (pe_op op_sub (pv 5) (pe_ix ix_list (pv 1) (pv 3) (fun _ _ => rfl))) pa_nil)))))))))), ?_⟩
    have hsq : SqL K H q (nums pl) := SqL.of hq
    refine ⟨_, rfl, _, _, rfl, _, rfl, q, _, rfl, .inl hsq, _, _, rfl, rfl, _, rfl, _, _, rfl, ?_⟩
    rw [nums_len]
    unfold spanT at k
    simp only [] at k
    obtain ⟨LO, hLO⟩ : ∃ x : Int, x = (if lo > 0 then lo else 0) := ⟨_, rfl⟩
    obtain ⟨HI, hHI⟩ : ∃ x : Int, x = (if hi < (pl.length : Int) - 1 then hi else (pl.length : Int) - 1) := ⟨_, rfl⟩
    rw [← hLO, ← hHI] at k
    have L0 : 0 ≤ LO := by rw [hLO]; split <;> omega
    have H1 : HI < pl.length := by rw [hHI]; split <;> omega
    show tSeq _ _ _ ([some (LG.T t), some (.ref q), some (.int p), some (.int (if lo > 0 then lo else 0)), some (.int (if hi < (pl.length : Int) - 1 then hi else (pl.length : Int) - 1)), none] : L2.St) H
    rw [← hLO, ← hHI]
    refine ⟨_, rfl, _, rfl, _, _, rfl, rfl, _, rfl, ite2 (fun e => ?_) (fun e => ?_)⟩
    · have e1 : LO > HI := of_decide_eq_true e
      rw [if_pos e1] at k
      exact ⟨_, rfl, by show 2 ≤ sizeLine; decide, fun a na => k _ a (same_upd na) na upd_same⟩
    · have e1 : ¬ LO > HI := fun z => e (decide_eq_true z)
      rw [if_neg e1] at k
      refine ⟨_, rfl, S t, rfl, line600 (by rw [S_len]; omega), ?_⟩
      refine ⟨_, rfl, _, _, rfl, rfl, _, rfl, q, _, rfl, .inl hsq, _, _, rfl, rfl, _, rfl, ?_⟩
      rw [nums_len]
      refine ite2 (fun e2 => ?_) (fun e2 => ?_)
      · have e3 : HI + 1 < (pl.length : Int) := of_decide_eq_true e2
        rw [if_pos e3] at k
        refine ⟨_, rfl, _, rfl, _, _, rfl, rfl, q, _, _, _, rfl, rfl, hsq, atI_nums (by omega) e3, ?_⟩
        exact ⟨_, rfl, _, rfl, q, _, _, _, rfl, rfl, hsq, atI_nums L0 (by omega), _, rfl, _, rfl, _, rfl, q, _, _, _, rfl, rfl, hsq, atI_nums L0 (by omega), _, _, rfl, rfl, by show 2 ≤ sizeLine; decide, fun a na => k _ a (same_upd na) na upd_same⟩
      · have e3 : ¬ HI + 1 < (pl.length : Int) := fun z => e2 (decide_eq_true z)
        rw [if_neg e3] at k
        exact ⟨_, rfl, _, rfl, q, _, _, _, rfl, rfl, hsq, atI_nums L0 (by omega), _, rfl, _, rfl, _, rfl, q, _, _, _, rfl, rfl, hsq, atI_nums L0 (by omega), _, _, rfl, rfl, by show 2 ≤ sizeLine; decide, fun a na => k _ a (same_upd na) na (by rw [upd_same, S_len])⟩
/-! ### the hedge -/
def sp_init (C : Addr) : Sp := fun vs H Q _ => ∃ (p b r dx : Addr) (first : Tx) (rs : List Rl), vs = [.ref p, .ref b] ∧ H p = some (.ins C dx []) ∧ WideAt H b first r rs ∧ rs.length ≤ 20 ∧ (∀ R ∈ rs, R.wd.length ≤ 6) ∧ first.length ≤ 12 ∧
  ∀ H' l, HedgeAt C H' p l r rs first 0 → But p H H' → H l = none → l ≠ p → Q .non H'
theorem ok_init (T : Txt K mg CT C) (C_grown_rows : Cal P w K mg base (L2.CX P w) 5 "grown_rows" ["wide", "age"] (sp_grown_rows CT)) (h : MHere K C "__init__" "Hedge.__init__" s___init__ ["self", "wide"]) :
    Met P w K mg base CX0 6 C "__init__" ["self", "wide"] (sp_init C) := by
  refine met_of h fun f fd F => F.ok sc___init__ (fun vs H Q E h => ?_) (fun cdv A outer s H vs Q E hr h => ?_)
  · obtain ⟨p, b, r, dx, first, rs, rfl, _⟩ := h
    rfl
  · obtain ⟨p, b, r, dx, first, rs, rfl, hp, ⟨hB, hR⟩, hl, hw, hf, k⟩ := h
    refine ⟨_, (pss_cons (ps_fld (pv 0) (pe_ix ix_tup (pv 1) pe_int (fun _ _ => rfl)) rfl)
(pss_cons (ps_fld (pv 0) (pe_ix ix_tup (pv 1) pe_int (fun _ _ => rfl)) rfl)
(pss_one (ps_fld (pv 0) (pe_cal C_grown_rows passL hr (by decide) rfl (pa_cons (pv 1) (pa_cons pe_int pa_nil))) rfl)))), ?_⟩
    have nbp : b ≠ p := ne_of hB hp (by intro z; cases z)
    refine ⟨_, rfl, b, _, 0, _, rfl, rfl, SqT.of hB, atI_nat (j := 0) rfl, _, rfl, p, C, dx, [], rfl, hp, T.cl, T.nF, (by show 0 < 1000; decide), ?_⟩
    refine ⟨_, rfl, b, _, 1, _, rfl, rfl, SqT.of (by rw [upd_ne nbp]; exact hB), atI_nat (j := 1) rfl, _, rfl, p, C, dx, _, rfl, upd_same, T.cl, T.nR, (by show 1 < 1000; decide), ?_⟩
    have np : ∀ xs, H p ≠ some (.tup xs) := fun xs z => by rw [hp] at z; cases z
    have bt : But p H (upd (upd H p (.ins C dx (putF "first_row" (LG.T first) []))) p (.ins C dx (putF "rule_row" (.ref r) (putF "first_row" (LG.T first) [])))) := but_upd.trans but_upd
    refine ⟨_, rfl, b, r, first, rs, 0, rfl, ⟨bt _ _ hB nbp, hR.but bt np⟩, hl, hw, hf, by omega, fun _ H1 l sm nl hG => ?_, fun z => absurd (okTo_zero rs first) z⟩
    have hp1 := sm p _ upd_same
    have npl : l ≠ p := (ne_of_none (H := upd (upd H p (.ins C dx (putF "first_row" (LG.T first) []))) p (.ins C dx (putF "rule_row" (.ref r) (putF "first_row" (LG.T first) [])))) upd_same nl).symm
    refine ⟨_, rfl, p, C, dx, _, rfl, hp1, T.cl, T.nG, (by show 2 < 1000; decide), ?_⟩
    have nl0 : H l = none := by
      rw [upd_ne npl, upd_ne npl] at nl
      exact nl
    have b2 : But p H (upd H1 p (.ins C dx (putF "grown" (.ref l) (putF "rule_row" (.ref r) (putF "first_row" (LG.T first) []))))) := (bt.trans (same_but sm)).trans but_upd
    refine k _ l ⟨⟨dx, by rw [upd_same, hF_new]⟩, hR.but b2 np, ?_⟩ b2 nl0 npl
    obtain ⟨as, g1, g2, g3⟩ := hG
    refine ⟨as, by rw [upd_ne npl]; exact g1, g2, fun i g hg => ?_⟩
    obtain ⟨a, q, g4, g5, g6, g7⟩ := g3 i g hg
    exact ⟨a, q, g4, by rw [upd_ne (ne_of g5 hp1 (by intro z; cases z))]; exact g5, by rw [upd_ne (ne_of g6 hp1 (by intro z; cases z))]; exact g6, g7⟩
def sp_age (C : Addr) : Sp := fun vs H Q _ => ∃ (p l r : Addr) (rs : List Rl) (first : Tx) (n : Nat), vs = [.ref p] ∧ HedgeAt C H p l r rs first n ∧ Q (.int (n : Int)) H
theorem ok_age (T : Txt K mg CT C) (h : MHere K C "age" "Hedge.age" s_age ["self"]) : Met P w K mg base CX0 1 C "age" ["self"] (sp_age C) := by
  refine met_of h fun f fd F => F.ok sc_age (fun vs H Q E h => ?_) (fun cdv A outer s H vs Q E hr h => ?_)
  · obtain ⟨p, l, r, rs, first, n, rfl, _⟩ := h
    rfl
  · obtain ⟨p, l, r, rs, first, n, rfl, ⟨⟨dx, hp⟩, hR, hG⟩, k⟩ := h
    refine ⟨_, (pss_one (ps_ret (pe_op op_sub (pe_callB call_len_seq (by rfl) T.b_len (by decide +kernel) (pa_cons (pe_fld (pv 0) rfl) pa_nil)) pe_int))), ?_⟩
    obtain ⟨as, g1, g2, g3⟩ := hG
    refine ⟨_, rfl, p, C, dx, _, _, rfl, hp, T.cl, T.nG, hF_grown _ _ _, l, _, rfl, .inl (SqL.of g1), _, _, rfl, rfl, ?_⟩
    rw [g2, rowsL_len]
    have e : (((n + 1 : Nat) : Int) - 1) = (n : Int) := by omega
    show Q (.int (((n + 1 : Nat) : Int) - 1)) H
    rw [e]
    exact k
def sp_grow (CT C : Addr) : Sp := fun vs H Q E => ∃ (p l r : Addr) (rs : List Rl) (first : Tx) (n : Nat), vs = [.ref p] ∧ HedgeAt C H p l r rs first n ∧ n < 40 ∧ okTo rs first n ∧ first.length ≤ 12 ∧ rs.length ≤ 20 ∧ (∀ R ∈ rs, R.wd.length ≤ 6) ∧
  (okTo rs first (n + 1) → ∀ H', HedgeAt C H' p l r rs first (n + 1) → But l H H' → Q (.int ((n + 1 : Nat) : Int)) H') ∧ (¬ okTo rs first (n + 1) → ∀ H', Same H H' → E (.ref CT) none H')
theorem ok_grow (T : Txt K mg CT C) (M_m_age : Met P w K mg base CX0 1 C "age" ["self"] (sp_age C)) (C_one_age_on : Cal P w K mg base (L2.CX P w) 4 "one_age_on" ["rules", "text", "places"] (sp_one_age_on CT))
    (h : MHere K C "grow" "Hedge.grow" s_grow ["self"]) : Met P w K mg base (L2.CX P w) 5 C "grow" ["self"] (sp_grow CT C) := by
  refine met_of h fun f fd F => F.okX sc_grow (fun vs H Q E h => ?_) (fun cdv A outer s H vs Q E hr h => ?_)
  · obtain ⟨p, l, r, rs, first, n, rfl, _⟩ := h
    rfl
  · obtain ⟨p, l, r, rs, first, n, rfl, hH, hn, ok, hf, hl, hw, kS, kE⟩ := h
    refine ⟨_, (pss_cons (ps_if (pt_cmpR op_ge (pe_met0 (pv 0) T.cl M_m_age pass0 hr (by decide)) (pe_gI T.g_LAST_AGE rfl) (nomark _))
(pss_one ps_never)
pss_nil)
(pss_cons (ps_asg (pe_ix ix_list (pe_fld (pv 0) rfl) (pe_un un_neg pe_int) (fun _ _ => rfl)) (pg_tup rfl (pgs_cons (pg_name (i := 1) sc_grow.nd rfl (Or.inl rfl)) (pgs_cons (pg_name (i := 2) sc_grow.nd rfl (Or.inl rfl)) pgs_nil))))
(pss_cons (ps_expr (pe_bm PySem.F.plainAttrs_list PySem.F.slot_list_append PySem.F.type_list_append mt_append (pe_fld (pv 0) rfl) (pa_cons (pe_cal C_one_age_on (passX (takes_of rfl rfl rfl rfl)) hr (by decide) rfl (pa_cons (pe_fld (pv 0) rfl) (pa_cons (pv 1) (pa_cons (pv 2) pa_nil)))) pa_nil)))
(pss_one (ps_ret (pe_met0 (pv 0) T.cl M_m_age pass0 hr (by decide))))))), ?_⟩
    obtain ⟨⟨dx, hp⟩, hR, hG⟩ := id hH
    have nA : (hF first r l).lookup ("age" : Str) = none := hF_no _ _ _ (by decide +kernel) (by decide +kernel) (by decide +kernel)
    refine ⟨_, rfl, p, dx, _, rfl, hp, nA, p, l, r, rs, first, n, rfl, hH, _, _, rfl, rfl, _, rfl, if_f (decide_eq_false (by omega)) ?_⟩
    obtain ⟨as, g1, g2, g3⟩ := id hG
    obtain ⟨ra, rq, g4, g5, g6, g7⟩ := g3 n _ (rowsL_at rs first (Nat.le_refl n))
    have hlast : atI as (-1) = some (.ref ra) := by
      have e : as = as.take n ++ [.ref ra] := by
        have h1 : as.take (n + 1) = as := List.take_of_length_le (by rw [g2, rowsL_len]; exact Nat.le_refl _)
        rw [List.take_add_one, g4] at h1
        exact h1.symm
      rw [e]
      exact atI_last _ _
    have hrow := ok.row hf (Nat.le_refl n)
    obtain ⟨p1, p2⟩ := rowT_le rs first n
    refine ⟨_, rfl, p, C, dx, _, _, rfl, hp, T.cl, T.nG, hF_grown _ _ _, 1, rfl, l, as, _, _, rfl, rfl, SqL.of g1, hlast, ra, _, rfl, SqT.of g5, rfl, _, _, rfl, _, _, rfl, rfl, ?_⟩
    refine ⟨_, rfl, p, C, dx, _, _, rfl, hp, T.cl, T.nG, hF_grown _ _ _, .inl ⟨rfl, _, SqL.of g1⟩, _, rfl, p, C, dx, _, _, rfl, hp, T.cl, T.nR, hF_rule _ _ _, _, rfl, _, rfl, r, rq, rs, (rowT rs first n).1, (rowT rs first n).2, rfl, hR, hl, hw, hrow, g6, by rw [p2]; omega, p1, fun hle H3 c d sm nc nd hc hd => ?_, fun hle H3 sm => ?_⟩
    · have nlc : l ≠ c := ne_of_none g1 nc
      have nld : d ≠ l := (ne_of_none g1 nd).symm
      have g1' := sm _ _ g1
      have npl : p ≠ l := ne_of hp g1 (by intro z; cases z)
      refine ⟨l, as, _, rfl, rfl, g1', ?_, ?_⟩
      · rw [g2, rowsL_len]
        exact small1000 (by omega)
      · have hG' : GrownAt (upd H3 l (.lst (as ++ [.ref c]))) l (rowsL rs first (n + 1)) := by
          refine ⟨as ++ [.ref c], upd_same, ?_, fun j g hg => ?_⟩
          · rw [List.length_append, g2, rowsL_len, rowsL_len]
            rfl
          · rw [rowsL_succ] at hg
            by_cases hj : j < n + 1
            · rw [List.getElem?_append_left (by rw [rowsL_len]; exact hj)] at hg
              obtain ⟨ja, jq, k4, k5, k6, k7⟩ := g3 j g hg
              refine ⟨ja, jq, by rw [List.getElem?_append_left (by rw [g2, rowsL_len]; exact hj)]; exact k4, ?_, ?_, k7⟩
              · rw [upd_ne (ne_of k5 g1 (by intro z; cases z))]
                exact sm _ _ k5
              · rw [upd_ne k7]
                exact sm _ _ k6
            · have hj2 : j = n + 1 := by
                have := (List.getElem?_eq_some_iff.mp hg).1
                rw [List.length_append, rowsL_len] at this
                simp at this
                omega
              subst hj2
              rw [List.getElem?_append_right (by rw [rowsL_len]; exact Nat.le_refl _), rowsL_len, Nat.sub_self] at hg
              cases hg
              refine ⟨c, d, ?_, ?_, ?_, nld⟩
              · rw [List.getElem?_append_right (by rw [g2, rowsL_len]; exact Nat.le_refl _), g2, rowsL_len, Nat.sub_self]
                rfl
              · rw [upd_ne nlc.symm]
                exact hc
              · rw [upd_ne nld]
                exact hd
        have hH' : HedgeAt C (upd H3 l (.lst (as ++ [.ref c]))) p l r rs first (n + 1) := by
          refine ⟨⟨dx, by rw [upd_ne npl]; exact sm _ _ hp⟩, (hR.same sm).but but_upd fun xs z => ?_, hG'⟩
          rw [g1'] at z
          cases z
        obtain ⟨⟨dx2, hp2⟩, _, _⟩ := id hH'
        exact ⟨_, rfl, p, dx2, _, rfl, hp2, nA, p, l, r, rs, first, n + 1, rfl, hH', kS (okTo_succ ok hle) _ hH' ((same_but sm).trans but_upd)⟩
    · exact kE (fun o => hle (o (n + 1) (by omega) (Nat.le_refl _))) H3 sm
end
end LG

/-! row, starts, laid, exchange, put_in, take_out, now. -/
namespace LG
open PySem PySem.Spec PyProof.Rows L2 SX
theorem cut_to (l : Tx) (k : Nat) : cutS (S l) none (some (k : Int)) = S (l.take k) := by
  unfold cutS
  rw [HT.sIx_none, HT.sIx_nat, S_len, Nat.sub_zero, List.drop_zero]
  show S (l.take (min k l.length)) = S (l.take k)
  rw [← List.take_eq_take_min]
theorem cut_from (l : Tx) (k : Nat) : cutS (S l) (some (k : Int)) none = S (l.drop k) := by
  unfold cutS
  rw [HT.sIx_none, HT.sIx_nat, S_len]
  show S ((l.drop (min k l.length)).take (l.length - min k l.length)) = S (l.drop k)
  by_cases h : k ≤ l.length
  · rw [Nat.min_eq_left h, List.take_of_length_le (by rw [List.length_drop]; exact Nat.le_refl _)]
  · rw [Nat.min_eq_right (by omega), Nat.sub_self, List.take_zero, List.drop_eq_nil_of_le (by omega)]
/-- what is told of the age t -/
def spanAt (rs : List Rl) (f2 : Tx) (pl less : Int) (t : Nat) : Int × Int := spanT (rowT rs f2 t).1 (rowT rs f2 t).2 pl (pl - t) (pl + t - less)
def SpansAt (H : Hp) (q : Addr) (sp : Nat → Int × Int) (n : Nat) : Prop :=
  ∃ as : List V, H q = some (.lst as) ∧ as.length = n ∧ ∀ i, i < n → ∃ a, as[i]? = some (.ref a) ∧ H a = some (.tup [.int (sp i).1, .int (sp i).2])
theorem SpansAt.same {H H' : Hp} {q : Addr} {sp : Nat → Int × Int} {n : Nat} (h : SpansAt H q sp n) (s : Same H H') : SpansAt H' q sp n := by
  obtain ⟨as, h1, h2, h3⟩ := h
  refine ⟨as, s _ _ h1, h2, fun i hi => ?_⟩
  obtain ⟨a, h4, h5⟩ := h3 i hi
  exact ⟨a, h4, s _ _ h5⟩
section
variable {P : Program} {w : World} {K : PySem.W.Frag} {mg : Str → Option Value} {base : Heap} {CT C : Addr}
def sp_row (C : Addr) : Sp := fun vs H Q _ => ∃ (p l r : Addr) (rs : List Rl) (first : Tx) (n a : Nat), vs = [.ref p, .int (a : Int)] ∧ HedgeAt C H p l r rs first n ∧ a ≤ n ∧ Q (T (rowT rs first a).1) H
theorem ok_row (T : Txt K mg CT C) (C_need_wide_age : Cal P w K mg base CX0 2 "need_wide_age" ["age", "most"] sp_need) (M_m_age : Met P w K mg base CX0 1 C "age" ["self"] (sp_age C)) (h : MHere K C "row" "Hedge.row" s_row ["self", "age"]) :
    Met P w K mg base CX0 3 C "row" ["self", "age"] (sp_row C) := by
  refine met_of h fun f fd F => F.ok sc_row (fun vs H Q E h => ?_) (fun cdv A outer s H vs Q E hr h => ?_)
  · obtain ⟨p, l, r, rs, first, n, a, rfl, _⟩ := h
    rfl
  · obtain ⟨p, l, r, rs, first, n, a, rfl, hH, ha, k⟩ := h
    refine ⟨_, (pss_cons (ps_expr (pe_cal C_need_wide_age pass0 hr (by decide) rfl (pa_cons (pv 1) (pa_cons (pe_met0 (pv 0) T.cl M_m_age pass0 hr (by decide)) pa_nil))))
(pss_one (ps_ret (pe_ix ix_tup (pe_ix ix_list (pe_fld (pv 0) rfl) (pv 1) (fun _ _ => rfl)) pe_int (fun _ _ => rfl))))), ?_⟩
    obtain ⟨⟨dx, hp⟩, hR, as, g1, g2, g3⟩ := id hH
    have nA : (hF first r l).lookup ("age" : Str) = none := hF_no _ _ _ (by decide +kernel) (by decide +kernel) (by decide +kernel)
    obtain ⟨ra, rq, g4, g5, g6, g7⟩ := g3 a _ (rowsL_at rs first ha)
    refine ⟨_, rfl, _, rfl, p, dx, _, rfl, hp, nA, p, l, r, rs, first, n, rfl, hH, (a : Int), (n : Int), rfl, by omega, by omega, ?_⟩
    exact ⟨_, rfl, p, C, dx, _, _, rfl, hp, T.cl, T.nG, hF_grown _ _ _, _, rfl, l, as, _, _, rfl, rfl, SqL.of g1, atI_nat g4, ra, _, 0, _, rfl, rfl, SqT.of g5, atI_nat (j := 0) rfl, k⟩
def sp_m_starts (C : Addr) : Sp := fun vs H Q _ => ∃ (p l r : Addr) (rs : List Rl) (first : Tx) (n a : Nat), vs = [.ref p, .int (a : Int)] ∧ HedgeAt C H p l r rs first n ∧ a ≤ n ∧ ∀ H' q, Same H H' → H' q = some (.lst (nums (rowT rs first a).2)) → Q (.ref q) H'
theorem ok_m_starts (T : Txt K mg CT C) (C_need_wide_age : Cal P w K mg base CX0 2 "need_wide_age" ["age", "most"] sp_need) (M_m_age : Met P w K mg base CX0 1 C "age" ["self"] (sp_age C)) (h : MHere K C "starts" "Hedge.starts" s_m_starts ["self", "age"]) :
    Met P w K mg base CX0 3 C "starts" ["self", "age"] (sp_m_starts C) := by
  refine met_of h fun f fd F => F.ok sc_m_starts (fun vs H Q E h => ?_) (fun cdv A outer s H vs Q E hr h => ?_)
  · obtain ⟨p, l, r, rs, first, n, a, rfl, _⟩ := h
    rfl
  · obtain ⟨p, l, r, rs, first, n, a, rfl, hH, ha, k⟩ := h
    refine ⟨_, (pss_cons (ps_expr (pe_cal C_need_wide_age pass0 hr (by decide) rfl (pa_cons (pv 1) (pa_cons (pe_met0 (pv 0) T.cl M_m_age pass0 hr (by decide)) pa_nil))))
(pss_one (ps_ret (pe_callTy call_list_of (by rfl) T.b_list (by decide +kernel) (pa_cons (pe_ix ix_tup (pe_ix ix_list (pe_fld (pv 0) rfl) (pv 1) (fun _ _ => rfl)) pe_int (fun _ _ => rfl)) pa_nil))))), ?_⟩
    obtain ⟨⟨dx, hp⟩, hR, as, g1, g2, g3⟩ := id hH
    have nA : (hF first r l).lookup ("age" : Str) = none := hF_no _ _ _ (by decide +kernel) (by decide +kernel) (by decide +kernel)
    obtain ⟨ra, rq, g4, g5, g6, g7⟩ := g3 a _ (rowsL_at rs first ha)
    refine ⟨_, rfl, _, rfl, p, dx, _, rfl, hp, nA, p, l, r, rs, first, n, rfl, hH, (a : Int), (n : Int), rfl, by omega, by omega, ?_⟩
    exact ⟨_, rfl, p, C, dx, _, _, rfl, hp, T.cl, T.nG, hF_grown _ _ _, _, rfl, l, as, _, _, rfl, rfl, SqL.of g1, atI_nat g4, ra, _, 1, _, rfl, rfl, SqT.of g5, atI_nat (j := 1) rfl, rq, _, rfl, .inl (SqL.of g6), fun q nq => k _ q (same_upd nq) upd_same⟩
def sp_now (C : Addr) : Sp := fun vs H Q _ => ∃ (p l r : Addr) (rs : List Rl) (first : Tx) (n : Nat), vs = [.ref p] ∧ HedgeAt C H p l r rs first n ∧ ∀ H' a, Same H H' → WideAt H' a first r rs → Q (.ref a) H'
theorem ok_now (T : Txt K mg CT C) (h : MHere K C "now" "Hedge.now" s_now ["self"]) : Met P w K mg base CX0 1 C "now" ["self"] (sp_now C) := by
  refine met_of h fun f fd F => F.ok sc_now (fun vs H Q E h => ?_) (fun cdv A outer s H vs Q E hr h => ?_)
  · obtain ⟨p, l, r, rs, first, n, rfl, _⟩ := h
    rfl
  · obtain ⟨p, l, r, rs, first, n, rfl, hH, k⟩ := h
    refine ⟨_, (pss_one (ps_ret (pe_tup (pa_cons (pe_fld (pv 0) rfl) (pa_cons (pe_fld (pv 0) rfl) pa_nil))))), ?_⟩
    obtain ⟨⟨dx, hp⟩, hR, _⟩ := id hH
    exact ⟨_, rfl, p, C, dx, _, _, rfl, hp, T.cl, T.nF, hF_first _ _ _, _, rfl, p, C, dx, _, _, rfl, hp, T.cl, T.nR, hF_rule _ _ _, by show 2 ≤ sizeLine; decide, fun a na => k _ a (same_upd na) ⟨upd_same, hR.same (same_upd na)⟩⟩
/-- what follows a new first row -/
def LaidK (CT C : Addr) (Q : VK) (E : XK) (H : Hp) (p r : Addr) (rs : List Rl) (f2 : Tx) (n : Nat) (pl less : Int) : Prop :=
  (okTo rs f2 n → ∀ H' l' q, HedgeAt C H' p l' r rs f2 n → But p H H' → H l' = none → l' ≠ p → SpansAt H' q (spanAt rs f2 pl less) (n + 1) → Q (.ref q) H') ∧ (¬ okTo rs f2 n → ∀ H', Same H H' → E (.ref CT) none H')
def sp_laid (CT C : Addr) : Sp := fun vs H Q E => ∃ (p l r : Addr) (rs : List Rl) (first f2 : Tx) (n : Nat) (pl less : Int), vs = [.ref p, T f2, .int pl, .int less] ∧ HedgeAt C H p l r rs first n ∧ rs.length ≤ 20 ∧ (∀ R ∈ rs, R.wd.length ≤ 6) ∧ f2.length ≤ 12 ∧ n ≤ 40 ∧
  LaidK CT C Q E H p r rs f2 n pl less
theorem ok_laid (T : Txt K mg CT C) (C_grown_rows : Cal P w K mg base (L2.CX P w) 5 "grown_rows" ["wide", "age"] (sp_grown_rows CT)) (M_m_age : Met P w K mg base CX0 1 C "age" ["self"] (sp_age C)) (C_span : Cal P w K mg base CX0 1 "span" ["text", "places", "place", "low", "high"] sp_span)
    (h : MHere K C "laid" "Hedge.laid" s_laid ["self", "first", "place", "less"]) : Met P w K mg base (L2.CX P w) 6 C "laid" ["self", "first", "place", "less"] (sp_laid CT C) := by
  refine met_of h fun f fd F => F.okX sc_laid (fun vs H Q E h => ?_) (fun cdv A outer s H vs Q E hr h => ?_)
  · obtain ⟨p, l, r, rs, first, f2, n, pl, less, rfl, _⟩ := h
    rfl
  · obtain ⟨p, l, r, rs, first, f2, n, pl, less, rfl, hH, hl, hw, hf, hn, kS, kE⟩ := h
    refine ⟨_, (pss_cons (ps_if (pt_cmpR op_gt (pe_callB call_len_str (by rfl) T.b_len (by decide +kernel) (pa_cons (pv 1) pa_nil)) (pe_gI T.g_MOST_FIRST rfl) (nomark _))
(pss_one (ps_raise rfl (takes_of rfl rfl rfl rfl) (pmk_own PySem.F.excBase_ValueError T.xT T.gT T.kT (raises_own T.bT T.tT) rfl)))
pss_nil)
(pss_cons (ps_set (i := 4) sc_laid.nd rfl (Or.inl rfl) (pe_cal C_grown_rows (passX (takes_of rfl rfl rfl rfl)) hr (by decide) rfl (pa_cons (pe_tup (pa_cons (pv 1) (pa_cons (pe_fld (pv 0) rfl) pa_nil))) (pa_cons (pe_met0 (pv 0) T.cl M_m_age pass0 hr (by decide)) pa_nil))))
(pss_cons (ps_fld (pv 0) (pv 1) rfl)
(pss_cons (ps_fld (pv 0) (pv 4) rfl)
(pss_cons (ps_set (i := 5) sc_laid.nd rfl (Or.inl rfl) (pe_lst pa_nil))
(pss_cons (ps_for (passes_of rfl) rfl (pi_enum (by rfl) T.b_enumerate (pa_cons (pv 4) pa_nil)) (pg_tup rfl (pgs_cons (pg_name (i := 6) sc_laid.nd rfl (Or.inl rfl)) (pgs_cons (pg_tup rfl (pgs_cons (pg_name (i := 7) sc_laid.nd rfl (Or.inl rfl)) (pgs_cons (pg_name (i := 8) sc_laid.nd rfl (Or.inl rfl)) pgs_nil))) pgs_nil)))
(pss_one (ps_expr (pe_bm PySem.F.plainAttrs_list PySem.F.slot_list_append PySem.F.type_list_append mt_append (pv 5) (pa_cons (pe_cal C_span pass0 hr (by decide) rfl (pa_cons (pv 7) (pa_cons (pv 8) (pa_cons (pv 2) (pa_cons (pe_op op_sub (pv 2) (pv 6)) (pa_cons (pe_op op_sub (pe_op op_add (pv 2) (pv 6)) (pv 3)) pa_nil)))))) pa_nil)))))
(pss_one (ps_ret (pv 5))))))))), ?_⟩
    obtain ⟨⟨dx, hp⟩, hR, _⟩ := id hH
    have nA : (hF first r l).lookup ("age" : Str) = none := hF_no _ _ _ (by decide +kernel) (by decide +kernel) (by decide +kernel)
    refine ⟨_, rfl, S f2, rfl, line600 (by rw [S_len]; omega), _, _, rfl, rfl, _, rfl, if_f (decide_eq_false (by rw [S_len]; omega)) ?_⟩
    refine ⟨_, rfl, _, rfl, p, C, dx, _, _, rfl, hp, T.cl, T.nR, hF_rule _ _ _, by show 2 ≤ sizeLine; decide, fun b nb => ?_⟩
    have smb := same_upd (o := .tup [LG.T f2, .ref r]) nb
    refine ⟨_, rfl, p, dx, _, rfl, smb _ _ hp, nA, p, l, r, rs, first, n, rfl, hH.same smb, b, r, f2, rs, n, rfl, ⟨upd_same, hR.same smb⟩, hl, hw, hf, hn, fun ok H1 l2 sm1 nl2 hG => ?_, fun nok H1 sm1 => kE nok H1 (smb.trans sm1)⟩
    have sm : Same H H1 := smb.trans sm1
    have nl0 : H l2 = none := smb.free nl2
    have hp1 := sm _ _ hp
    have npl : l2 ≠ p := (ne_of_none hp nl0).symm
    refine ⟨_, rfl, _, rfl, p, C, dx, _, rfl, hp1, T.cl, T.nF, (by show 3 < 1000; decide), ?_⟩
    rw [hF_put_first]
    refine ⟨_, rfl, _, rfl, p, C, dx, _, rfl, upd_same, T.cl, T.nG, (by show 3 < 1000; decide), ?_⟩
    rw [hF_put_grown, upd_upd]
    have bt1 : But p H1 (upd H1 p (.ins C dx (hF f2 r l2))) := but_upd
    have bt : But p H (upd H1 p (.ins C dx (hF f2 r l2))) := (same_but sm).trans bt1
    have np : ∀ xs, H p ≠ some (.tup xs) := fun xs z => by rw [hp] at z; cases z
    obtain ⟨as, g1, g2, g3⟩ := hG
    -- the hedge as it is from here on
    have hNew : HedgeAt C (upd H1 p (.ins C dx (hF f2 r l2))) p l2 r rs f2 n := by
      refine ⟨⟨dx, upd_same⟩, hR.but bt np, as, bt1 _ _ g1 npl, g2, fun i g hg => ?_⟩
      obtain ⟨a, q, g4, g5, g6, g7⟩ := g3 i g hg
      exact ⟨a, q, g4, bt1 _ _ g5 (ne_of g5 hp1 (by intro z; cases z)), bt1 _ _ g6 (ne_of g6 hp1 (by intro z; cases z)), g7⟩
    generalize upd H1 p (.ins C dx (hF f2 r l2)) = H2 at hNew bt bt1
    obtain ⟨_, _, as2, k1, k2, k3⟩ := id hNew
    refine ⟨Nat.zero_le _, fun o no => ?_⟩
    refine ⟨_, rfl, l2, as2, rfl, SqL.of ((same_upd no) _ _ k1), for_it walk_enum (fun i σ H' => Same H2 H' ∧ SpansAt H' o (spanAt rs f2 pl less) i ∧ ∃ x y z, σ = [some (.ref p), some (LG.T f2), some (.int pl), some (.int less), some (.ref l2), some (.ref o), x, y, z])
      ⟨same_upd no, ⟨[], upd_same, rfl, fun i hi => absurd hi (Nat.not_lt_zero _)⟩, none, none, none, rfl⟩ (fun i σ H' _ hp => SqL.of (hp.1 _ _ k1)) ?_ ?_⟩
    · rintro i x σ H3 H4 hi ⟨sm3, ⟨zs, z1, z2, z3⟩, y6, y7, y8, rfl⟩ ⟨Tn, u, v, rfl, nT, rfl, hu, hv⟩
      have hin : i ≤ n := by
        rw [k2, rowsL_len] at hi
        omega
      obtain ⟨ra, rq, g4, g5, g6, g7⟩ := k3 i _ (rowsL_at rs f2 hin)
      have hv2 : as2[i]? = some v := hv
      rw [g4] at hv2
      cases hv2
      have hu2 : some (V.int (i : Nat)) = some u := hu
      cases hu2
      have smT := same_upd (o := .tup [.int (i : Nat), .ref ra]) nT
      have noT : o ≠ Tn := ne_of_none z1 nT
      have sm4 := sm3.trans smT
      have hrow := ok.row hf hin
      refine ⟨Tn, [.int (i : Nat), .ref ra], rfl, SqT.of upd_same, rfl, _, _, rfl, _, _, rfl, ra, _, rfl, SqT.of (sm4 _ _ g5), rfl, _, _, rfl, _, _, rfl, rfl, rfl, ?_⟩
      refine ⟨_, rfl, .inl ⟨rfl, _, SqL.of (smT _ _ z1)⟩, _, rfl, _, rfl, _, rfl, _, rfl, _, rfl, _, _, rfl, rfl, _, rfl, _, rfl, _, _, rfl, rfl, _, rfl, _, _, rfl, rfl, (rowT rs f2 i).1, rq, (rowT rs f2 i).2, pl, pl - (i : Int), pl + (i : Int) - less, rfl, hrow, sm4 _ _ g6, fun H5 a sm5 na ha => ?_⟩
      have z1' := sm5 _ _ (smT _ _ z1)
      have noa : o ≠ a := ne_of_none (smT _ _ z1) na
      refine ⟨o, zs, _, rfl, rfl, z1', ?_, ?_⟩
      · rw [z2]
        exact small1000 (by omega)
      · refine ⟨fun c e he => ?_, ⟨zs ++ [.ref a], upd_same, ?_, fun j hj => ?_⟩, _, _, _, rfl⟩
        · rw [upd_ne (ne_of_none he no)]
          exact sm5 _ _ (sm4 _ _ he)
        · rw [List.length_append, z2]
          rfl
        · by_cases hji : j < i
          · obtain ⟨ja, j1, j2⟩ := z3 j hji
            refine ⟨ja, by rw [List.getElem?_append_left (by rw [z2]; exact hji)]; exact j1, ?_⟩
            rw [upd_ne (ne_of j2 z1 (by intro z; cases z))]
            exact sm5 _ _ (smT _ _ j2)
          · have hj2 : j = i := by omega
            subst hj2
            refine ⟨a, ?_, ?_⟩
            · rw [List.getElem?_append_right (by rw [z2]; exact Nat.le_refl _), z2, Nat.sub_self]
              rfl
            · rw [upd_ne noa.symm]
              exact ha
    · rintro σ H3 ⟨sm3, hS, y6, y7, y8, rfl⟩
      rw [k2, rowsL_len] at hS
      exact ⟨_, rfl, kS ok H3 l2 o (hNew.same sm3) (bt.trans (same_but sm3)) nl0 npl hS⟩
theorem cat3 (a b c : Tx) : S a ++ S b ++ S c = S (a ++ b ++ c) := by
  rw [S_cat, S_cat]
def sp_exchange (CT C : Addr) : Sp := fun vs H Q E => ∃ (p l r : Addr) (rs : List Rl) (first : Tx) (n k c : Nat), vs = [.ref p, .int (k : Int), T [c]] ∧ HedgeAt C H p l r rs first n ∧ rs.length ≤ 20 ∧ (∀ R ∈ rs, R.wd.length ≤ 6) ∧ first.length ≤ 12 ∧ n ≤ 40 ∧ k < first.length ∧ Small c ∧
  LaidK CT C Q E H p r rs (first.take k ++ [c] ++ first.drop (k + 1)) n (k : Int) 0
theorem ok_exchange (T : Txt K mg CT C) (C_need_place : Cal P w K mg base CX0 2 "need_place" ["place", "most"] sp_need) (C_need_sign : Cal P w K mg base CX0 2 "need_sign" ["letter"] sp_need_sign) (M_m_laid : Met P w K mg base (L2.CX P w) 6 C "laid" ["self", "first", "place", "less"] (sp_laid CT C))
    (h : MHere K C "exchange" "Hedge.exchange" s_exchange ["self", "place", "letter"]) : Met P w K mg base (L2.CX P w) 7 C "exchange" ["self", "place", "letter"] (sp_exchange CT C) := by
  refine met_of h fun f fd F => F.okX sc_exchange (fun vs H Q E h => ?_) (fun cdv A outer s H vs Q E hr h => ?_)
  · obtain ⟨p, l, r, rs, first, n, k, c, rfl, _⟩ := h
    rfl
  · obtain ⟨p, l, r, rs, first, n, k, c, rfl, hH, hl, hw, hf, hn, hk, hc, hK⟩ := h
    refine ⟨_, (pss_cons (ps_expr (pe_cal C_need_place pass0 hr (by decide) rfl (pa_cons (pv 1) (pa_cons (pe_op op_sub (pe_callB call_len_str (by rfl) T.b_len (by decide +kernel) (pa_cons (pe_fld (pv 0) rfl) pa_nil)) pe_int) pa_nil))))
(pss_cons (ps_expr (pe_cal C_need_sign pass0 hr (by decide) rfl (pa_cons (pv 2) pa_nil)))
(pss_one (ps_ret (pe_met (pv 0) T.cl M_m_laid (passX (takes_of rfl rfl rfl rfl)) hr (by decide) (pa_cons (pe_op op_add_str (pe_op op_add_str (pe_slice sl_str (pe_fld (pv 0) rfl) po_none (po_some (pv 1))) (pv 2)) (pe_slice sl_str (pe_fld (pv 0) rfl) (po_some (pe_op op_add (pv 1) pe_int)) po_none)) (pa_cons (pv 1) (pa_cons pe_int pa_nil)))))))), ?_⟩
    obtain ⟨⟨dx, hp⟩, _, _⟩ := id hH
    have nA : (hF first r l).lookup ("laid" : Str) = none := hF_no _ _ _ (by decide +kernel) (by decide +kernel) (by decide +kernel)
    have hz : (S first).length ≤ sizeLine := line600 (by rw [S_len]; omega)
    refine ⟨_, rfl, _, rfl, p, C, dx, _, _, rfl, hp, T.cl, T.nF, hF_first _ _ _, S first, rfl, hz, _, _, rfl, rfl, (k : Int), _, rfl, by omega, by rw [S_len]; omega, ?_⟩
    refine ⟨_, rfl, c, rfl, hc, ?_⟩
    refine ⟨_, rfl, p, dx, _, rfl, hp, nA, _, rfl, p, C, dx, _, _, rfl, hp, T.cl, T.nF, hF_first _ _ _, _, rfl, (k : Int), rfl, S first, rfl, hz, _, rfl, _, _, rfl, rfl, ?_, _, rfl, p, C, dx, _, _, rfl, hp, T.cl, T.nF, hF_first _ _ _, _, rfl, _, _, rfl, rfl, ((k + 1 : Nat) : Int), rfl, S first, rfl, hz, _, _, rfl, rfl, ?_, _, rfl, ?_⟩
    · rw [cut_to, S_len, S_len]
      exact line600 (by rw [List.length_take]; simp; omega)
    · rw [cut_to, cut_from, S_cat, S_len, S_len]
      exact line600 (by rw [List.length_append, List.length_take, List.length_drop]; simp; omega)
    · rw [cut_to, cut_from, cat3]
      exact ⟨p, l, r, rs, first, _, n, (k : Int), 0, rfl, hH, hl, hw, by rw [List.length_append, List.length_append, List.length_take, List.length_drop]; simp; omega, hn, hK⟩
def sp_put_in (CT C : Addr) : Sp := fun vs H Q E => ∃ (p l r : Addr) (rs : List Rl) (first : Tx) (n k c : Nat), vs = [.ref p, .int (k : Int), T [c]] ∧ HedgeAt C H p l r rs first n ∧ rs.length ≤ 20 ∧ (∀ R ∈ rs, R.wd.length ≤ 6) ∧ first.length < 12 ∧ n ≤ 40 ∧ k ≤ first.length ∧ Small c ∧
  LaidK CT C Q E H p r rs (first.take k ++ [c] ++ first.drop k) n (k : Int) 0
theorem ok_put_in (T : Txt K mg CT C) (C_need_place : Cal P w K mg base CX0 2 "need_place" ["place", "most"] sp_need) (C_need_sign : Cal P w K mg base CX0 2 "need_sign" ["letter"] sp_need_sign) (M_m_laid : Met P w K mg base (L2.CX P w) 6 C "laid" ["self", "first", "place", "less"] (sp_laid CT C))
    (h : MHere K C "put_in" "Hedge.put_in" s_put_in ["self", "place", "letter"]) : Met P w K mg base (L2.CX P w) 7 C "put_in" ["self", "place", "letter"] (sp_put_in CT C) := by
  refine met_of h fun f fd F => F.okX sc_put_in (fun vs H Q E h => ?_) (fun cdv A outer s H vs Q E hr h => ?_)
  · obtain ⟨p, l, r, rs, first, n, k, c, rfl, _⟩ := h
    rfl
  · obtain ⟨p, l, r, rs, first, n, k, c, rfl, hH, hl, hw, hf, hn, hk, hc, hK⟩ := h
    refine ⟨_, (pss_cons (ps_expr (pe_cal C_need_place pass0 hr (by decide) rfl (pa_cons (pv 1) (pa_cons (pe_callB call_len_str (by rfl) T.b_len (by decide +kernel) (pa_cons (pe_fld (pv 0) rfl) pa_nil)) pa_nil))))
(pss_cons (ps_expr (pe_cal C_need_sign pass0 hr (by decide) rfl (pa_cons (pv 2) pa_nil)))
(pss_one (ps_ret (pe_met (pv 0) T.cl M_m_laid (passX (takes_of rfl rfl rfl rfl)) hr (by decide) (pa_cons (pe_op op_add_str (pe_op op_add_str (pe_slice sl_str (pe_fld (pv 0) rfl) po_none (po_some (pv 1))) (pv 2)) (pe_slice sl_str (pe_fld (pv 0) rfl) (po_some (pv 1)) po_none)) (pa_cons (pv 1) (pa_cons pe_int pa_nil)))))))), ?_⟩
    obtain ⟨⟨dx, hp⟩, _, _⟩ := id hH
    have nA : (hF first r l).lookup ("laid" : Str) = none := hF_no _ _ _ (by decide +kernel) (by decide +kernel) (by decide +kernel)
    have hz : (S first).length ≤ sizeLine := line600 (by rw [S_len]; omega)
    refine ⟨_, rfl, _, rfl, p, C, dx, _, _, rfl, hp, T.cl, T.nF, hF_first _ _ _, S first, rfl, hz, (k : Int), _, rfl, by omega, by rw [S_len]; omega, ?_⟩
    refine ⟨_, rfl, c, rfl, hc, ?_⟩
    refine ⟨_, rfl, p, dx, _, rfl, hp, nA, _, rfl, p, C, dx, _, _, rfl, hp, T.cl, T.nF, hF_first _ _ _, _, rfl, (k : Int), rfl, S first, rfl, hz, _, rfl, _, _, rfl, rfl, ?_, _, rfl, p, C, dx, _, _, rfl, hp, T.cl, T.nF, hF_first _ _ _, _, rfl, (k : Int), rfl, S first, rfl, hz, _, _, rfl, rfl, ?_, _, rfl, ?_⟩
    · rw [cut_to, S_len, S_len]
      exact line600 (by rw [List.length_take]; simp; omega)
    · rw [cut_to, cut_from, S_cat, S_len, S_len]
      exact line600 (by rw [List.length_append, List.length_take, List.length_drop]; simp; omega)
    · rw [cut_to, cut_from, cat3]
      exact ⟨p, l, r, rs, first, _, n, (k : Int), 0, rfl, hH, hl, hw, by rw [List.length_append, List.length_append, List.length_take, List.length_drop]; simp; omega, hn, hK⟩
def sp_take_out (CT C : Addr) : Sp := fun vs H Q E => ∃ (p l r : Addr) (rs : List Rl) (first : Tx) (n k : Nat), vs = [.ref p, .int (k : Int)] ∧ HedgeAt C H p l r rs first n ∧ rs.length ≤ 20 ∧ (∀ R ∈ rs, R.wd.length ≤ 6) ∧ first.length ≤ 12 ∧ n ≤ 40 ∧ k < first.length ∧
  LaidK CT C Q E H p r rs (first.take k ++ first.drop (k + 1)) n (k : Int) 1
theorem ok_take_out (T : Txt K mg CT C) (C_need_place : Cal P w K mg base CX0 2 "need_place" ["place", "most"] sp_need) (M_m_laid : Met P w K mg base (L2.CX P w) 6 C "laid" ["self", "first", "place", "less"] (sp_laid CT C))
    (h : MHere K C "take_out" "Hedge.take_out" s_take_out ["self", "place"]) : Met P w K mg base (L2.CX P w) 7 C "take_out" ["self", "place"] (sp_take_out CT C) := by
  refine met_of h fun f fd F => F.okX sc_take_out (fun vs H Q E h => ?_) (fun cdv A outer s H vs Q E hr h => ?_)
  · obtain ⟨p, l, r, rs, first, n, k, rfl, _⟩ := h
    rfl
  · obtain ⟨p, l, r, rs, first, n, k, rfl, hH, hl, hw, hf, hn, hk, hK⟩ := h
    refine ⟨_, (pss_cons (ps_expr (pe_cal C_need_place pass0 hr (by decide) rfl (pa_cons (pv 1) (pa_cons (pe_op op_sub (pe_callB call_len_str (by rfl) T.b_len (by decide +kernel) (pa_cons (pe_fld (pv 0) rfl) pa_nil)) pe_int) pa_nil))))
(pss_one (ps_ret (pe_met (pv 0) T.cl M_m_laid (passX (takes_of rfl rfl rfl rfl)) hr (by decide) (pa_cons (pe_op op_add_str (pe_slice sl_str (pe_fld (pv 0) rfl) po_none (po_some (pv 1))) (pe_slice sl_str (pe_fld (pv 0) rfl) (po_some (pe_op op_add (pv 1) pe_int)) po_none)) (pa_cons (pv 1) (pa_cons pe_int pa_nil))))))), ?_⟩
    obtain ⟨⟨dx, hp⟩, _, _⟩ := id hH
    have nA : (hF first r l).lookup ("laid" : Str) = none := hF_no _ _ _ (by decide +kernel) (by decide +kernel) (by decide +kernel)
    have hz : (S first).length ≤ sizeLine := line600 (by rw [S_len]; omega)
    refine ⟨_, rfl, _, rfl, p, C, dx, _, _, rfl, hp, T.cl, T.nF, hF_first _ _ _, S first, rfl, hz, _, _, rfl, rfl, (k : Int), _, rfl, by omega, by rw [S_len]; omega, ?_⟩
    refine ⟨_, rfl, p, dx, _, rfl, hp, nA, _, rfl, p, C, dx, _, _, rfl, hp, T.cl, T.nF, hF_first _ _ _, _, rfl, (k : Int), rfl, S first, rfl, hz, _, rfl, p, C, dx, _, _, rfl, hp, T.cl, T.nF, hF_first _ _ _, _, rfl, _, _, rfl, rfl, ((k + 1 : Nat) : Int), rfl, S first, rfl, hz, _, _, rfl, rfl, ?_, _, rfl, ?_⟩
    · rw [cut_to, cut_from, S_len, S_len]
      exact line600 (by rw [List.length_take, List.length_drop]; omega)
    · rw [cut_to, cut_from, S_cat]
      exact ⟨p, l, r, rs, first, _, n, (k : Int), 1, rfl, hH, hl, hw, by rw [List.length_append, List.length_take, List.length_drop]; omega, hn, hK⟩
end
end LG

/-! The law's pen: _law_pen, _law_take, _law_signs. -/
namespace LG
open PySem PySem.Spec PyProof.Rows L2 SX
abbrev rLenQ (K : PySem.W.Frag) : List V → Hp → VK → Prop := fun xs H Q => ∃ p ys, xs = [.ref p] ∧ (SqL K H p ys ∨ SqT K H p ys) ∧ Q (.int ys.length) H
abbrev rAddS : R2 := fun x y H Q => ∃ i j, x = .str i ∧ y = .str j ∧ i.length + j.length ≤ sizeLine ∧ Q (.str (i ++ j)) H
/-- a pen at p from which at most n draws were reckoned -/
def PenAt (H : Hp) (p : Addr) (n : Nat) : Prop := ∃ x c f : Int, H p = some (.lst [.int x, .int c, .int f]) ∧ 0 ≤ c ∧ c ≤ n ∧ 0 ≤ f ∧ f < 2147483647
theorem PenAt.mono {H : Hp} {p : Addr} {n m : Nat} (h : PenAt H p n) (le : n ≤ m) : PenAt H p m := by
  obtain ⟨x, c, f, h1, h2, h3, h4⟩ := h
  exact ⟨x, c, f, h1, h2, by omega, h4⟩
theorem PenAt.same {H H' : Hp} {p : Addr} {n : Nat} (h : PenAt H p n) (s : Same H H') : PenAt H' p n := by
  obtain ⟨x, c, f, h1, h2⟩ := h
  exact ⟨x, c, f, s _ _ h1, h2⟩
theorem PenAt.but {H H' : Hp} {p q : Addr} {n : Nat} (h : PenAt H p n) (s : But q H H') (hq : p ≠ q) : PenAt H' p n := by
  obtain ⟨x, c, f, h1, h2⟩ := h
  exact ⟨x, c, f, s _ _ h1 hq, h2⟩
theorem PenAt.some {H : Hp} {p : Addr} {n : Nat} (h : PenAt H p n) : H p ≠ none := by
  obtain ⟨x, c, f, h1, _⟩ := h
  rw [h1]
  exact fun z => nomatch z
theorem but_free {H H' : Hp} {p l : Addr} (b : But p H H') (hp : H' p ≠ none) (h : H' l = none) : H l = none := by
  cases q : H l with
  | none => rfl
  | some o =>
    by_cases e : l = p
    · rw [e] at h
      exact absurd h hp
    · rw [b l o q e] at h
      cases h
theorem cutV_ints (ns : List Int) (k : Nat) : cutV (ns.map V.int) none (some (k : Int)) = (ns.take k).map V.int := by
  unfold cutV
  rw [HT.sIx_none, HT.sIx_nat, Nat.sub_zero, List.drop_zero, List.length_map, List.map_take]
  show (ns.map V.int).take (min k ns.length) = (ns.map V.int).take k
  by_cases h : k ≤ ns.length
  · rw [Nat.min_eq_left h]
  · rw [Nat.min_eq_right (by omega), List.take_of_length_le (by rw [List.length_map]; exact Nat.le_refl _), List.take_of_length_le (by rw [List.length_map]; omega)]
theorem int_of {ns : List Int} {i : Nat} {y : V} (h : (ns.map V.int)[i]? = some y) : ∃ z, ns[i]? = some z ∧ y = V.int z := by
  rw [List.getElem?_map] at h
  cases e : ns[i]? with
  | none =>
    rw [e] at h
    cases h
  | some z =>
    rw [e] at h
    exact ⟨z, rfl, (Option.some.inj h).symm⟩
theorem atI_ints {ns : List Int} {i : Int} (h0 : 0 ≤ i) (h1 : i < ns.length) : ∃ z : Int, atI (ns.map V.int) i = some (.int z) := by
  obtain ⟨j, rfl⟩ : ∃ j : Nat, i = (j : Int) := ⟨i.toNat, by omega⟩
  have hj : j < ns.length := by omega
  exact ⟨ns[j], atI_nat (by rw [List.getElem?_map, List.getElem?_eq_getElem hj]; rfl)⟩
section
variable {P : Program} {w : World} {K : PySem.W.Frag} {mg : Str → Option Value} {base : Heap} {CT C : Addr}
def sp_pen (K : PySem.W.Frag) : Sp := fun vs H Q _ => ∃ (a : Addr) (ns : List Int) (k : Nat), vs = [.ref a, .int (k : Int)] ∧ SqL K H a (ns.map V.int) ∧ k ≤ 1000 ∧ ∀ H' p, Same H H' → H p = none → PenAt H' p 0 → Q (.ref p) H'
theorem ok_pen (T : Txt K mg CT C) (h : Here K mg "_law_pen" s__law_pen ["_law_script", "_law_k"]) : Cal P w K mg base CX0 1 "_law_pen" ["_law_script", "_law_k"] (sp_pen K) := by
  refine cal_of h fun f fd F => F.ok sc__law_pen (fun vs H Q E h => ?_) (fun cdv A outer s H vs Q E hr h => ?_)
  · obtain ⟨a, ns, k, rfl, _⟩ := h
    rfl
  · obtain ⟨a, ns, k, rfl, hS, hk, kk⟩ := h
    refine ⟨_, (pss_cons (ps_set (i := 2) sc__law_pen.nd rfl (Or.inl rfl) (pe_op op_add (pe_op op_mul pe_int (pv 1)) pe_int))
(pss_cons (ps_for PassesOwn.never rfl (pi_list (pe_slice sl_list (pv 0) po_none (po_some pe_int))) (pg_name (i := 3) sc__law_pen.nd rfl (Or.inl rfl))
(pss_one (ps_set (i := 2) sc__law_pen.nd rfl (Or.inl rfl) (pe_op op_mod (pe_op op_add (pe_op op_mul (pv 2) pe_int) (pv 3)) pe_int))))
(pss_cons (ps_if (PW.pt (pw_and (pt_cmpR op_gt (pe_callB call_len_seq (by rfl) T.b_len (by decide +kernel) (pa_cons (pv 0) pa_nil)) pe_int (nomark _)) (pw_and1 (pt_cmpR op_ge (pe_ix ix_list (pv 0) (pe_op op_mod (pv 1) (pe_callB call_len_seq (by rfl) T.b_len (by decide +kernel) (pa_cons (pv 0) pa_nil))) (fun _ _ => rfl)) (pe_op op_pow pe_int pe_int) (nomark _)))))
(pss_one (ps_ret (pe_lst (pa_cons (pe_op op_sub (pe_ix ix_list (pv 0) (pe_op op_mod (pv 1) (pe_callB call_len_seq (by rfl) T.b_len (by decide +kernel) (pa_cons (pv 0) pa_nil))) (fun _ _ => rfl)) (pe_op op_pow pe_int pe_int)) (pa_cons pe_int (pa_cons (pv 2) pa_nil))))))
pss_nil)
(pss_one (ps_ret (pe_lst (pa_cons pe_int (pa_cons pe_int (pa_cons (pv 2) pa_nil))))))))), ?_⟩
    refine ⟨_, rfl, _, _, rfl, rfl, .inl ⟨by decide, by decide⟩, _, _, rfl, rfl, ?_⟩
    refine ⟨_, rfl, 63, rfl, a, _, rfl, hS, fun c nc => ⟨c, rfl, ⟨_, SqL.of upd_same⟩, ?_⟩⟩
    have smc := same_upd (o := .lst (cutV (ns.map V.int) none (some 63))) nc
    refine for_list (K := K) (a := c) (xs := (ns.take 63).map V.int) (fun i σ H' => H' = upd H c (.lst (cutV (ns.map V.int) none (some 63))) ∧ ∃ (z : Int) (y : Option V), σ = [some (.ref a), some (.int (k : Int)), some (.int z), y] ∧ 0 ≤ z ∧ z < 2147483647)
      ⟨rfl, _, none, rfl, by show 0 ≤ 40009 * (k : Int) + 11; omega, by show 40009 * (k : Int) + 11 < 2147483647; omega⟩ (fun i σ H' _ hp => by rw [hp.1]; exact SqL.of (by rw [upd_same]; exact congrArg _ (congrArg _ (cutV_ints ns 63)))) ?_ ?_
    · rintro i x σ H1 hx ⟨rfl, z, y, rfl, h0, h1⟩
      obtain ⟨u, _, rfl⟩ := int_of hx
      refine ⟨_, rfl, _, _, rfl, rfl, .inl ⟨by omega, by omega⟩, _, rfl, _, _, rfl, rfl, _, _, rfl, rfl, (by decide : (0 : Int) < 2147483647), ?_⟩
      exact ⟨rfl, _, _, rfl, Int.emod_nonneg _ (by decide), Int.emod_lt_of_pos _ (by decide)⟩
    · rintro σ H1 ⟨rfl, z, y, rfl, h0, h1⟩
      have hS1 := smc.seq hS
      have fin : ∀ (x : Int) (p : Addr), (upd H c (.lst (cutV (ns.map V.int) none (some 63)))) p = none → Q (.ref p) (upd (upd H c (.lst (cutV (ns.map V.int) none (some 63)))) p (.lst [.int x, .int 0, .int z])) := fun x p np =>
        kk _ p (smc.trans (same_upd np)) (smc.free np) ⟨x, 0, z, upd_same, Int.le_refl _, Int.le_refl _, h0, h1⟩
      refine ⟨_, rfl, a, _, rfl, .inl hS1, _, _, rfl, rfl, _, rfl, ite2 (fun e => ?_) (fun e => ?_)⟩
      · have hl : 0 < ns.length := by
          have := of_decide_eq_true e
          rw [List.length_map] at this
          omega
        obtain ⟨u, hu⟩ := atI_ints (ns := ns) (i := (k : Int) % (((ns.map V.int).length : Nat) : Int)) (Int.emod_nonneg _ (by rw [List.length_map]; omega)) (by
          have := Int.emod_lt_of_pos (k : Int) (b := (((ns.map V.int).length : Nat) : Int)) (by rw [List.length_map]; omega)
          rw [List.length_map] at this ⊢
          exact this)
        have pl : (0 : Int) < (((ns.map V.int).length : Nat) : Int) := by rw [List.length_map]; omega
        refine ⟨_, rfl, _, rfl, _, rfl, a, _, rfl, .inl hS1, _, _, rfl, rfl, pl, a, _, _, _, rfl, rfl, hS1, hu, _, _, rfl, rfl, ⟨by decide, by decide, by decide⟩, _, _, rfl, rfl, _, rfl, ite2 (fun e2 => ?_) (fun e2 => ?_)⟩
        · exact ⟨_, rfl, _, rfl, _, rfl, a, _, rfl, .inl hS1, _, _, rfl, rfl, pl, a, _, _, _, rfl, rfl, hS1, hu, _, _, rfl, rfl, ⟨by decide, by decide, by decide⟩, _, _, rfl, rfl, _, rfl, by show 3 ≤ sizeLine; decide, fun p np => fin _ p np⟩
        · exact ⟨_, rfl, by show 3 ≤ sizeLine; decide, fun p np => fin _ p np⟩
      · exact if_f rfl ⟨_, rfl, by show 3 ≤ sizeLine; decide, fun p np => fin _ p np⟩
def sp_take : Sp := fun vs H Q _ => ∃ (p : Addr) (n m : Nat), vs = [.ref p, .int (m : Int)] ∧ PenAt H p n ∧ n ≤ 100000 ∧ 1 ≤ m ∧ m ≤ 10000 ∧ ∀ H' (r : Nat), PenAt H' p (n + 1) → But p H H' → r < m → Q (.int (r : Int)) H'
theorem ok_take (h : Here K mg "_law_take" s__law_take ["_law_pen_here", "_law_size"]) : Cal P w K mg base CX0 1 "_law_take" ["_law_pen_here", "_law_size"] sp_take := by
  refine cal_of h fun f fd F => F.ok sc__law_take (fun vs H Q E h => ?_) (fun cdv A outer s H vs Q E hr h => ?_)
  · obtain ⟨p, n, m, rfl, _⟩ := h
    rfl
  · obtain ⟨p, n, m, rfl, ⟨x, c, fo, hp, c0, c1, f0, f1⟩, hn, m1, m2, k⟩ := h
    refine ⟨_, (pss_cons (ps_if (pt_cmpR op_gt (pe_ix ix_list (pv 0) pe_int (fun _ _ => rfl)) pe_int (nomark _))
(pss_cons (ps_set (i := 2) sc__law_take.nd rfl (Or.inl rfl) (pe_op op_mod (pe_ix ix_list (pv 0) pe_int (fun _ _ => rfl)) (pv 1)))
(pss_cons (ps_asg (pe_op op_fdiv (pe_ix ix_list (pv 0) pe_int (fun _ _ => rfl)) (pv 1)) (pg_sub (pv 0) pe_int set_list))
(pss_one (ps_ret (pv 2)))))
pss_nil)
(pss_cons (ps_asg (pe_op op_add (pe_ix ix_list (pv 0) pe_int (fun _ _ => rfl)) pe_int) (pg_sub (pv 0) pe_int set_list))
(pss_cons (ps_set (i := 3) sc__law_take.nd rfl (Or.inl rfl) (pe_op op_mod (pe_op op_pow (pe_op op_add (pe_ix ix_list (pv 0) pe_int (fun _ _ => rfl)) (pe_op op_mul pe_int (pe_ix ix_list (pv 0) pe_int (fun _ _ => rfl)))) pe_int) pe_int))
(pss_cons (ps_set (i := 3) sc__law_take.nd rfl (Or.inl rfl) (pe_op op_mod (pe_op op_pow (pe_op op_add (pv 3) (pe_op op_mul pe_int (pe_ix ix_list (pv 0) pe_int (fun _ _ => rfl)))) pe_int) pe_int))
(pss_one (ps_ret (pe_op op_mod (pe_op op_fdiv (pv 3) pe_int) (pv 1)))))))), ?_⟩
    have fin : ∀ (v : Int) H', PenAt H' p (n + 1) → But p H H' → Q (.int (v % (m : Int))) H' := fun v H' h1 h2 => by
      have e0 := Int.emod_nonneg v (b := (m : Int)) (by omega)
      have e1 := Int.emod_lt_of_pos v (b := (m : Int)) (by omega)
      have q := k H' (v % (m : Int)).toNat h1 h2 (by omega)
      rw [Int.toNat_of_nonneg e0] at q
      exact q
    refine ⟨_, rfl, p, _, 0, _, rfl, rfl, SqL.of hp, atI_nat (j := 0) rfl, _, _, rfl, rfl, _, rfl, ite2 (fun e => ?_) (fun e => ?_)⟩
    · refine ⟨_, rfl, p, _, 0, _, rfl, rfl, SqL.of hp, atI_nat (j := 0) rfl, _, rfl, _, _, rfl, rfl, by show (0 : Int) < (m : Int); omega, ?_⟩
      refine ⟨_, rfl, p, _, 0, _, rfl, rfl, SqL.of hp, atI_nat (j := 0) rfl, _, rfl, _, _, rfl, rfl, ⟨by omega, by omega⟩, _, rfl, p, _, 0, 0, rfl, rfl, hp, rfl, ?_⟩
      exact ⟨_, rfl, fin x _ ⟨_, c, fo, upd_same, c0, by omega, f0, f1⟩ but_upd⟩
    · refine ⟨_, rfl, p, _, 1, _, rfl, rfl, SqL.of hp, atI_nat (j := 1) rfl, _, _, rfl, rfl, _, rfl, p, _, 1, 1, rfl, rfl, hp, rfl, ?_⟩
      have hq : (upd H p (.lst (([.int x, .int c, .int fo] : List V).set 1 (.int (c + 1))))) p = some (.lst [.int x, .int (c + 1), .int fo]) := upd_same
      refine ⟨_, rfl, p, _, 2, _, rfl, rfl, SqL.of hq, atI_nat (j := 2) rfl, _, rfl, p, _, 1, _, rfl, rfl, SqL.of hq, atI_nat (j := 1) rfl, _, _, rfl, rfl, .inl ⟨by decide, by decide⟩, _, _, rfl, rfl, _, _, rfl, rfl, ⟨by decide, by decide, ?_⟩, _, _, rfl, rfl, (by decide : (0 : Int) < 2147483647), ?_⟩
      · show (fo + 7919 * (c + 1)).natAbs < 2 ^ 64
        omega
      have b0 := Int.emod_nonneg ((fo + 7919 * (c + 1)) ^ (5 : Int).toNat) (b := 2147483647) (by decide)
      have b1 := Int.emod_lt_of_pos ((fo + 7919 * (c + 1)) ^ (5 : Int).toNat) (b := 2147483647) (by decide)
      show tSeq _ _ _ ([some (.ref p), some (.int (m : Int)), none, some (.int ((fo + 7919 * (c + 1)) ^ (5 : Int).toNat % 2147483647))] : L2.St) _
      generalize (fo + 7919 * (c + 1)) ^ (5 : Int).toNat % 2147483647 = z at b0 b1
      refine ⟨_, rfl, _, rfl, p, _, 1, _, rfl, rfl, SqL.of hq, atI_nat (j := 1) rfl, _, _, rfl, rfl, .inl ⟨by decide, by decide⟩, _, _, rfl, rfl, _, _, rfl, rfl, ⟨by decide, by decide, ?_⟩, _, _, rfl, rfl, (by decide : (0 : Int) < 2147483629), ?_⟩
      · show (z + 104729 * (c + 1)).natAbs < 2 ^ 64
        omega
      refine ⟨_, rfl, _, _, rfl, rfl, ⟨by decide, by decide⟩, _, rfl, _, _, rfl, rfl, by show (0 : Int) < (m : Int); omega, ?_⟩
      exact fin _ _ ⟨x, c + 1, fo, hq, by omega, by omega, f0, f1⟩ but_upd
/-- a list of letters -/
def lets (cs : Tx) : List V := cs.map fun c => T [c]
theorem lets_len (cs : Tx) : (lets cs).length = cs.length := List.length_map ..
theorem lets_at {cs : Tx} {r : Nat} (h : r < cs.length) : (lets cs)[r]? = some (T [cs[r]]) := by
  unfold lets
  rw [List.getElem?_map, List.getElem?_eq_getElem h]
  rfl
theorem lets_erase : ∀ (cs : Tx) (r : Nat), (lets cs).eraseIdx r = lets (cs.eraseIdx r)
  | [], _ => rfl
  | c :: cs, 0 => rfl
  | c :: cs, r + 1 => congrArg (T [c] :: ·) (lets_erase cs r)
theorem lets_snoc (cs : Tx) (c : Nat) : lets cs ++ [T [c]] = lets (cs ++ [c]) := by
  unfold lets
  rw [List.map_append]
  rfl
theorem smalls_snoc {cs : Tx} {c : Nat} (h : Smalls cs) (hc : Small c) : Smalls (cs ++ [c]) := fun x hx => by
  rcases List.mem_append.mp hx with hx | hx
  · exact h x hx
  · rw [List.mem_singleton] at hx
    rw [hx]
    exact hc
theorem abc_str : (("abcdefghijklmnopqrstuvwxyz" : Str)) = S signsL := by decide +kernel
theorem signsL_small : Smalls signsL := fun c hc => by
  obtain ⟨i, hi, rfl⟩ := List.mem_map.mp hc
  have := List.mem_range.mp hi
  constructor
  · show 97 ≤ i + 97
    omega
  · show i + 97 < 123
    omega
def sp_signs : Sp := fun vs H Q _ => ∃ (p : Addr) (n m : Nat), vs = [.ref p, .int (m : Int)] ∧ PenAt H p n ∧ n ≤ 90000 ∧ m ≤ 20 ∧ ∀ H' q (cs : Tx), PenAt H' p (n + m) → But p H H' → H q = none → q ≠ p → H' q = some (.lst (lets cs)) → cs.length = m → Smalls cs → Q (.ref q) H'
theorem ok_signs (T : Txt K mg CT C) (C__law_take : Cal P w K mg base CX0 1 "_law_take" ["_law_pen_here", "_law_size"] sp_take) (h : Here K mg "_law_signs" s__law_signs ["_law_pen_here", "_law_many"]) :
    Cal P w K mg base CX0 2 "_law_signs" ["_law_pen_here", "_law_many"] sp_signs := by
  refine cal_of h fun f fd F => F.ok sc__law_signs (fun vs H Q E h => ?_) (fun cdv A outer s H vs Q E hr h => ?_)
  · obtain ⟨p, n, m, rfl, _⟩ := h
    rfl
  · obtain ⟨p, n, m, rfl, hP, hn, hm, k⟩ := h
    refine ⟨_, (pss_cons (ps_set (i := 2) sc__law_signs.nd rfl (Or.inr rfl) (pe_callTy (call_listS rfl) (by rfl) T.b_list (by decide +kernel) (pa_cons pe_str pa_nil)))
(pss_one (ps_ret (pe_lc (te := tBM K "list" rPopAt (tVar 2) (tCons (tCall sp_take [] E0 (tCons (tVar 0) (tCons (tCB (rLenQ K) (tCons (tVar 2) tNil)) tNil))) tNil)) (own := [("_law_k", 3)]) (g := gName 3) (tt := tYes) rfl sc__law_signs.nd (pi_range1 rfl T.b_range (pa_cons (pv 1) pa_nil)) (blkOk_by (N := N__law_signs) (sc := defScope s__law_signs) (by decide +kernel)) (fun _ _ _ _ _ => pg_name (i := 3) sc__law_signs.nd rfl (Or.inl rfl)) (fun _ _ _ _ _ => pts_nil) (fun _ _ _ _ _ => (pe_bm PySem.F.plainAttrs_list PySem.F.slot_list_pop PySem.F.type_list_pop mt_popAt (pv 2) (pa_cons (pe_cal C__law_take pass0 hr (by decide) rfl (pa_cons (pv 0) (pa_cons (pe_callB call_len_seq (by rfl) T.b_len (by decide +kernel) (pa_cons (pv 2) pa_nil)) pa_nil))) pa_nil))))))), ?_⟩
    have npn := hP.some
    refine ⟨("abcdefghijklmnopqrstuvwxyz" : Str), rfl, by decide +kernel, fun l nl => ?_⟩
    rw [abc_str]
    have nlp : l ≠ p := fun e => by rw [e] at nl; exact npn nl
    refine ⟨_, rfl, (m : Int), rfl, by omega, by omega, fun D nD => ?_⟩
    have nlD : l ≠ D := ne_of_none upd_same nD
    have nD0 : H D = none := by
      rw [upd_ne nlD.symm] at nD
      exact nD
    have nDp : D ≠ p := fun e => by rw [e] at nD0; exact npn nD0
    have sm0 := (same_upd (o := .lst (txV (S signsL))) nl)
    refine lc_range (lo := 0) (n := (m : Int).toNat) (fun i H' => ∃ (rest acc : Tx), But p H H' ∧ H' l = some (.lst (lets rest)) ∧ rest.length + i = 26 ∧ Smalls rest ∧ H' D = some (.lst (lets acc)) ∧ acc.length = i ∧ Smalls acc ∧ PenAt H' p (n + i))
      ⟨signsL, [], same_but (sm0.trans (same_upd nD)), by rw [upd_ne nlD, upd_same]; rfl, rfl, signsL_small, by rw [upd_same]; rfl, rfl, fun c hc => absurd hc (List.not_mem_nil), (hP.same (sm0.trans (same_upd nD))).mono (Nat.le_refl _)⟩ ?_ ?_
    · rintro i H1 hi ⟨rest, acc, bt, hl, e26, sr, hD, ea, sa, pen⟩
      refine ⟨rfl, _, rfl, .inl ⟨rfl, _, SqL.of hl⟩, _, rfl, _, rfl, l, _, rfl, .inl (SqL.of hl), p, n + i, (lets rest).length, rfl, pen, by omega, by rw [lets_len]; omega, by rw [lets_len]; omega, fun H2 r pen2 bt2 hr2 => ?_⟩
      have hr3 : r < rest.length := by rw [lets_len] at hr2; exact hr2
      have hl2 := bt2 _ _ hl nlp
      have hD2 := bt2 _ _ hD nDp
      have ix : seqIndex? (r : Int) (lets rest).length = some r := by
        rw [seqIndex_of (by omega) (by rw [lets_len]; omega), Int.toNat_natCast]
      refine ⟨l, _, (r : Int), r, _, rfl, rfl, hl2, by omega, by omega, ix, lets_at hr3, lets acc, by rw [upd_ne nlD.symm]; exact hD2, by rw [lets_len]; exact small1000 (by omega), ?_⟩
      refine ⟨rest.eraseIdx r, acc ++ [rest[r]], fun b o e hb => ?_, ?_, ?_, ?_, ?_, ?_, ?_, ?_⟩
      · have h1 : b ≠ l := ne_of_none e nl
        have h2 : b ≠ D := ne_of_none e nD0
        rw [upd_ne h2, upd_ne h1]
        exact bt2 _ _ (bt _ _ e hb) hb
      · rw [upd_ne nlD, upd_same, lets_erase]
      · rw [List.length_eraseIdx_of_lt hr3]
        omega
      · exact fun c hc => sr c (List.mem_of_mem_eraseIdx hc)
      · rw [upd_same, lets_snoc]
      · rw [List.length_append, ea]
        rfl
      · exact smalls_snoc sa (sr _ (List.getElem_mem hr3))
      · obtain ⟨x, c, fo, hp, q⟩ := pen2
        exact ⟨x, c, fo, by rw [upd_ne nDp.symm, upd_ne nlp.symm]; exact hp, by exact q⟩
    · rintro H1 ⟨rest, acc, bt, hl, e26, sr, hD, ea, sa, pen⟩
      exact k H1 D acc pen bt nD0 nDp hD ea sa
end
end LG

/-! The law's wide book: _law_text, _law_side, _law_wide, _law_single. -/
namespace LG
open PySem PySem.Spec PyProof.Rows L2 SX
theorem lets_strs (cs : Tx) : ((cs.map fun c => [c]).map S).map V.str = lets cs := by
  unfold lets
  rw [List.map_map, List.map_map]
  rfl
section
variable {P : Program} {w : World} {K : PySem.W.Frag} {mg : Str → Option Value} {base : Heap} {CT C : Addr}
def sp_text : Sp := fun vs H Q _ => ∃ (p q : Addr) (n m : Nat) (cs : Tx), vs = [.ref p, .ref q, .int (m : Int)] ∧ PenAt H p n ∧ n ≤ 90000 ∧ m ≤ 20 ∧ H q = some (.lst (lets cs)) ∧ q ≠ p ∧ cs.length ≤ 1000 ∧ Smalls cs ∧
  ∀ H' (t : Tx), PenAt H' p (n + m) → But p H H' → Smalls t → t.length ≤ m → (cs ≠ [] → t.length = m) → Q (T t) H'
theorem ok_text (T : Txt K mg CT C) (C__law_take : Cal P w K mg base CX0 1 "_law_take" ["_law_pen_here", "_law_size"] sp_take) (h : Here K mg "_law_text" s__law_text ["_law_pen_here", "_law_signs_here", "_law_many"]) :
    Cal P w K mg base CX0 2 "_law_text" ["_law_pen_here", "_law_signs_here", "_law_many"] sp_text := by
  refine cal_of h fun f fd F => F.ok sc__law_text (fun vs H Q E h => ?_) (fun cdv A outer s H vs Q E hr h => ?_)
  · obtain ⟨p, q, n, m, cs, rfl, _⟩ := h
    rfl
  · obtain ⟨p, q, n, m, cs, rfl, hP, hn, hm, hq, nqp, hl, hs, k⟩ := h
    refine ⟨_, (pss_one (ps_ret (pe_join pe_str (pe_lc (te := tOp (rIxL K) (tVar 1) (tCall sp_take [] E0 (tCons (tVar 0) (tCons (tCB (rLenQ K) (tCons (tVar 1) tNil)) tNil)))) (own := [("_law_k", 3)]) (g := gName 3) (tt := tYes) rfl sc__law_text.nd (pi_range1 rfl T.b_range (pa_cons (pe_op op_mul (pv 2) (pe_callTy call_int1 (by rfl) T.b_int (by decide +kernel) (pa_cons (pe_cmpR op_gt (pe_callB call_len_seq (by rfl) T.b_len (by decide +kernel) (pa_cons (pv 1) pa_nil)) pe_int (nomark _)) pa_nil))) pa_nil)) (blkOk_by (N := N__law_text) (sc := defScope s__law_text) (by decide +kernel)) (fun _ _ _ _ _ => pg_name (i := 3) sc__law_text.nd rfl (Or.inl rfl)) (fun _ _ _ _ _ => pts_nil) (fun _ _ _ _ _ => (pe_ix ix_list (pv 1) (pe_cal C__law_take pass0 hr (by decide) rfl (pa_cons (pv 0) (pa_cons (pe_callB call_len_seq (by rfl) T.b_len (by decide +kernel) (pa_cons (pv 1) pa_nil)) pa_nil))) (fun _ _ => rfl))))))), ?_⟩
    have npn := hP.some
    obtain ⟨N, hN, hNe⟩ : ∃ N : Nat, (m : Int) * (if decide ((0 : Int) < (((lets cs).length : Nat) : Int)) = true then 1 else 0) = (N : Int) ∧ N = if cs = [] then 0 else m := by
      by_cases e : cs = []
      · subst e
        exact ⟨0, by simp [lets], by simp⟩
      · have hp : 0 < cs.length := List.length_pos_iff.mpr e
        refine ⟨m, ?_, by simp [e]⟩
        rw [lets_len, decide_eq_true (by omega), if_pos rfl, Int.mul_one]
    have hNm : N ≤ m := by rw [hNe]; split <;> omega
    refine ⟨⟨_, rfl⟩, _, rfl, _, rfl, q, _, rfl, .inl (SqL.of hq), _, _, rfl, rfl, .inr ⟨_, rfl, _, _, rfl, rfl, .inl ⟨by omega, by omega⟩, (N : Int), congrArg (fun z => [V.int z]) hN, by omega, by omega, fun D nD => ?_⟩⟩
    have nDp : D ≠ p := fun e => by rw [e] at nD; exact npn nD
    have nqD : q ≠ D := ne_of_none hq nD
    refine lc_range (lo := 0) (n := (N : Int).toNat) (fun i H' => ∃ acc : Tx, But p H H' ∧ H' D = some (.lst (lets acc)) ∧ acc.length = i ∧ Smalls acc ∧ PenAt H' p (n + i))
      ⟨[], same_but (same_upd nD), by rw [upd_same]; rfl, rfl, fun c hc => absurd hc (List.not_mem_nil), (hP.same (same_upd nD)).mono (Nat.le_refl _)⟩ ?_ ?_
    · rintro i H1 hi ⟨acc, bt, hD, ea, sa, pen⟩
      have hcs : 0 < cs.length := by
        rw [Int.toNat_natCast] at hi
        by_cases e : cs = []
        · rw [hNe, if_pos e] at hi
          omega
        · exact List.length_pos_iff.mpr e
      have hq1 := bt _ _ hq nqp
      refine ⟨rfl, _, rfl, _, rfl, _, rfl, q, _, rfl, .inl (SqL.of hq1), p, n + i, (lets cs).length, rfl, pen, by omega, by rw [lets_len]; omega, by rw [lets_len]; omega, fun H2 r pen2 bt2 hr2 => ?_⟩
      have hr3 : r < cs.length := by rw [lets_len] at hr2; exact hr2
      have hD2 := bt2 _ _ hD nDp
      refine ⟨q, _, _, _, rfl, rfl, SqL.of (bt2 _ _ hq1 nqp), atI_nat (lets_at hr3), lets acc, hD2, by rw [lets_len]; exact small1000 (by omega), ?_⟩
      refine ⟨acc ++ [cs[r]], fun b o e hb => ?_, by rw [upd_same, lets_snoc], by rw [List.length_append, ea]; rfl, smalls_snoc sa (hs _ (List.getElem_mem hr3)), ?_⟩
      · rw [upd_ne (ne_of_none e nD)]
        exact bt2 _ _ (bt _ _ e hb) hb
      · obtain ⟨x, c, fo, hp, z⟩ := pen2
        exact ⟨x, c, fo, by rw [upd_ne nDp.symm]; exact hp, by exact z⟩
    · rintro H1 ⟨acc, bt, hD, ea, sa, pen⟩
      rw [Int.toNat_natCast] at ea pen
      refine ⟨_, D, (acc.map fun c => [c]).map S, rfl, rfl, .inl (SqL.of (by rw [lets_strs]; exact hD)), ?_, ?_⟩
      · rw [join_size _ _ (by rw [nil_str]; rfl), flat_ones]
        omega
      · rw [nil_str, join_flat, flat_ones]
        exact k H1 acc (pen.mono (by omega)) bt sa (by omega) fun e => by rw [ea, hNe, if_neg e]
def sp_side : Sp := fun vs H Q _ => ∃ (p q : Addr) (n : Nat) (cs : Tx), vs = [.ref p, .ref q] ∧ PenAt H p n ∧ n ≤ 90000 ∧ H q = some (.lst (lets cs)) ∧ q ≠ p ∧ cs ≠ [] ∧ cs.length ≤ 1000 ∧ ∀ H' (t : Tx), PenAt H' p (n + 2) → But p H H' → Q (T t) H'
theorem ok_side (T : Txt K mg CT C) (C__law_take : Cal P w K mg base CX0 1 "_law_take" ["_law_pen_here", "_law_size"] sp_take) (h : Here K mg "_law_side" s__law_side ["_law_pen_here", "_law_signs_here"]) :
    Cal P w K mg base CX0 2 "_law_side" ["_law_pen_here", "_law_signs_here"] sp_side := by
  refine cal_of h fun f fd F => F.ok sc__law_side (fun vs H Q E h => ?_) (fun cdv A outer s H vs Q E hr h => ?_)
  · obtain ⟨p, q, n, cs, rfl, _⟩ := h
    rfl
  · obtain ⟨p, q, n, cs, rfl, hP, hn, hq, nqp, hne, hl, k⟩ := h
    refine ⟨_, (pss_cons (ps_set (i := 2) sc__law_side.nd rfl (Or.inl rfl) (pe_cal C__law_take pass0 hr (by decide) rfl (pa_cons (pv 0) (pa_cons pe_int pa_nil))))
(pss_cons (ps_if (pt_cmpR op_lt (pv 2) pe_int (nomark _))
(pss_one (ps_ret pe_str))
pss_nil)
(pss_cons (ps_if (pt_cmpR op_eq (pv 2) pe_int (nomark _))
(pss_one (ps_ret pe_str))
pss_nil)
(pss_one (ps_ret (pe_ix ix_list (pv 1) (pe_cal C__law_take pass0 hr (by decide) rfl (pa_cons (pv 0) (pa_cons (pe_callB call_len_seq (by rfl) T.b_len (by decide +kernel) (pa_cons (pv 1) pa_nil)) pa_nil))) (fun _ _ => rfl))))))), ?_⟩
    have hcs : 0 < cs.length := List.length_pos_iff.mpr hne
    refine ⟨_, rfl, p, n, 4, rfl, hP, by omega, by decide, by decide, fun H1 r pen1 bt1 hr1 => ?_⟩
    refine ⟨_, rfl, _, _, rfl, rfl, _, rfl, ite2 (fun e => ?_) (fun e => ?_)⟩
    · rw [nil_str]
      exact k H1 [] (pen1.mono (by omega)) bt1
    · refine ⟨_, rfl, rfl, _, rfl, ite2 (fun e => ?_) (fun e => ?_)⟩
      · rw [dot_str]
        exact k H1 [46] (pen1.mono (by omega)) bt1
      · have hq1 := bt1 _ _ hq nqp
        refine ⟨_, rfl, _, rfl, _, rfl, q, _, rfl, .inl (SqL.of hq1), p, n + 1, (lets cs).length, rfl, pen1, by omega, by rw [lets_len]; omega, by rw [lets_len]; omega, fun H2 r2 pen2 bt2 hr2 => ?_⟩
        have hr3 : r2 < cs.length := by rw [lets_len] at hr2; exact hr2
        exact ⟨q, _, _, _, rfl, rfl, SqL.of (bt2 _ _ hq1 nqp), atI_nat (lets_at hr3), k H2 [cs[r2]] pen2 (bt1.trans bt2)⟩
def sp_single : Sp := fun vs H Q _ => ∃ (r : Addr) (rs : List Rl), vs = [.ref r] ∧ RulesAt H r rs ∧ (∀ R ∈ rs, R.wd.length ≤ 6) ∧ ∀ b, Q (.bl b) H
theorem ok_single (T : Txt K mg CT C) (h : Here K mg "_law_single" s__law_single ["_law_rules"]) : Cal P w K mg base CX0 1 "_law_single" ["_law_rules"] sp_single := by
  refine cal_of h fun f fd F => F.ok sc__law_single (fun vs H Q E h => ?_) (fun cdv A outer s H vs Q E hr h => ?_)
  · obtain ⟨r, rs, rfl, _⟩ := h
    rfl
  · obtain ⟨r, rs, rfl, ⟨as, h1, h2, h3⟩, hw, k⟩ := h
    refine ⟨_, (pss_cons (ps_for PassesOwn.never rfl (pi_tup (pv 0)) (pg_name (i := 1) sc__law_single.nd rfl (Or.inl rfl))
(pss_one (ps_if (pt_cmpR op_gt (pe_callB call_len_str (by rfl) T.b_len (by decide +kernel) (pa_cons (pe_ix ix_tup (pv 1) pe_int (fun _ _ => rfl)) pa_nil)) pe_int (nomark _))
(pss_one (ps_ret pe_bl))
pss_nil)))
(pss_one (ps_ret pe_bl))), ?_⟩
    refine ⟨_, rfl, r, rfl, ⟨_, SqT.of h1⟩, for_tup (K := K) (a := r) (xs := as) (fun i σ H' => H' = H ∧ ∃ y, σ = [some (.ref r), y]) ⟨rfl, none, rfl⟩ (fun i σ H' _ hp => by rw [hp.1]; exact SqT.of h1) ?_ ?_⟩
    · rintro i x σ H1 hx ⟨rfl, y, rfl⟩
      have hi : i < rs.length := by
        rw [← h2]
        exact (List.getElem?_eq_some_iff.mp hx).1
      obtain ⟨a, h4, h5⟩ := h3 i rs[i] (List.getElem?_eq_getElem hi)
      rw [h4] at hx
      cases hx
      have := hw _ (List.getElem_mem hi)
      refine ⟨_, rfl, a, _, 3, _, rfl, rfl, SqT.of h5, atI_nat (j := 3) rfl, S rs[i].wd, rfl, line600 (by rw [S_len]; omega), _, _, rfl, rfl, _, rfl, ite2 (fun e => ?_) (fun e => ?_)⟩
      · exact k false
      · exact ⟨rfl, _, rfl⟩
    · rintro σ H1 ⟨rfl, y, rfl⟩
      exact k true
end
end LG

/-! _law_wide. -/
namespace LG
open PySem PySem.Spec PyProof.Rows L2 SX
theorem PenAt.notup {H : Hp} {p : Addr} {n : Nat} (h : PenAt H p n) : ∀ xs : List V, H p ≠ Option.some (HO.tup xs) := fun xs z => by
  obtain ⟨x, c, f, h1, _⟩ := h
  rw [h1] at z
  cases z
/-- a list of rules at l -/
def RulesL (H : Hp) (l : Addr) (rs : List Rl) : Prop :=
  ∃ as : List V, H l = some (.lst as) ∧ as.length = rs.length ∧ ∀ (i : Nat) R, rs[i]? = some R → ∃ a, as[i]? = some (.ref a) ∧ H a = some (.tup (rlV R))
theorem RulesL.same {H H' : Hp} {l : Addr} {rs : List Rl} (h : RulesL H l rs) (s : Same H H') : RulesL H' l rs := by
  obtain ⟨as, h1, h2, h3⟩ := h
  refine ⟨as, s _ _ h1, h2, fun i R hR => ?_⟩
  obtain ⟨a, h4, h5⟩ := h3 i R hR
  exact ⟨a, h4, s _ _ h5⟩
theorem RulesL.but {H H' : Hp} {l p : Addr} {rs : List Rl} (h : RulesL H l rs) (s : But p H H') (nl : l ≠ p) (hp : ∀ xs, H p ≠ some (.tup xs)) : RulesL H' l rs := by
  obtain ⟨as, h1, h2, h3⟩ := h
  refine ⟨as, s _ _ h1 nl, h2, fun i R hR => ?_⟩
  obtain ⟨a, h4, h5⟩ := h3 i R hR
  exact ⟨a, h4, s _ _ h5 fun z => hp _ (by rw [← z]; exact h5)⟩
theorem RulesL.more {H : Hp} {l : Addr} {rs : List Rl} {as : List V} {a : Addr} {R : Rl} (h1 : H l = some (.lst as)) (h2 : as.length = rs.length) (h3 : ∀ (i : Nat) R, rs[i]? = some R → ∃ a, as[i]? = some (.ref a) ∧ H a = some (.tup (rlV R))) (ha : H a = some (.tup (rlV R))) :
    RulesL (upd H l (.lst (as ++ [.ref a]))) l (rs ++ [R]) := by
  refine ⟨_, upd_same, by rw [List.length_append, List.length_append, h2]; rfl, fun i S hS => ?_⟩
  by_cases hi : i < rs.length
  · rw [List.getElem?_append_left hi] at hS
    obtain ⟨b, h4, h5⟩ := h3 i S hS
    exact ⟨b, by rw [List.getElem?_append_left (by rw [h2]; exact hi)]; exact h4, by rw [upd_ne (ne_of h5 h1 (by intro z; cases z))]; exact h5⟩
  · have hi2 : i = rs.length := by
      have := (List.getElem?_eq_some_iff.mp hS).1
      rw [List.length_append] at this
      simp at this
      omega
    subst hi2
    rw [List.getElem?_append_right (Nat.le_refl _), Nat.sub_self] at hS
    cases hS
    exact ⟨a, by rw [List.getElem?_append_right (by rw [h2]; exact Nat.le_refl _), h2, Nat.sub_self]; rfl, by rw [upd_ne (ne_of ha h1 (by intro z; cases z))]; exact ha⟩
theorem tab1 {r : Nat} (h : r < 5) : ∃ v : Nat, atI ([.int 2, .int 3, .int 3, .int 4, .int 8] : List V) (r : Int) = some (.int (v : Int)) ∧ 2 ≤ v ∧ v ≤ 8 := by
  have e : r = 0 ∨ r = 1 ∨ r = 2 ∨ r = 3 ∨ r = 4 := by omega
  rcases e with rfl | rfl | rfl | rfl | rfl
  · exact ⟨2, rfl, by omega, by omega⟩
  · exact ⟨3, rfl, by omega, by omega⟩
  · exact ⟨3, rfl, by omega, by omega⟩
  · exact ⟨4, rfl, by omega, by omega⟩
  · exact ⟨8, rfl, by omega, by omega⟩
theorem tab2 {r : Nat} (h : r < 5) : ∃ v : Nat, atI ([.int 4, .int 5, .int 7, .int 9, .int 21] : List V) (r : Int) = some (.int (v : Int)) ∧ 1 ≤ v ∧ v ≤ 21 := by
  have e : r = 0 ∨ r = 1 ∨ r = 2 ∨ r = 3 ∨ r = 4 := by omega
  rcases e with rfl | rfl | rfl | rfl | rfl
  · exact ⟨4, rfl, by omega, by omega⟩
  · exact ⟨5, rfl, by omega, by omega⟩
  · exact ⟨7, rfl, by omega, by omega⟩
  · exact ⟨9, rfl, by omega, by omega⟩
  · exact ⟨21, rfl, by omega, by omega⟩
theorem tab3 {r : Nat} (h : r < 5) : ∃ v : Nat, atI ([.int 2, .int 2, .int 3, .int 1, .int 6] : List V) (r : Int) = some (.int (v : Int)) ∧ 1 ≤ v ∧ v ≤ 6 := by
  have e : r = 0 ∨ r = 1 ∨ r = 2 ∨ r = 3 ∨ r = 4 := by omega
  rcases e with rfl | rfl | rfl | rfl | rfl
  · exact ⟨2, rfl, by omega, by omega⟩
  · exact ⟨2, rfl, by omega, by omega⟩
  · exact ⟨3, rfl, by omega, by omega⟩
  · exact ⟨1, rfl, by omega, by omega⟩
  · exact ⟨6, rfl, by omega, by omega⟩
theorem tab4 {r : Nat} (h : r < 5) : ∃ v : Nat, atI ([.int 4, .int 5, .int 6, .int 13, .int 13] : List V) (r : Int) = some (.int (v : Int)) ∧ 1 ≤ v ∧ v ≤ 13 := by
  have e : r = 0 ∨ r = 1 ∨ r = 2 ∨ r = 3 ∨ r = 4 := by omega
  rcases e with rfl | rfl | rfl | rfl | rfl
  · exact ⟨4, rfl, by omega, by omega⟩
  · exact ⟨5, rfl, by omega, by omega⟩
  · exact ⟨6, rfl, by omega, by omega⟩
  · exact ⟨13, rfl, by omega, by omega⟩
  · exact ⟨13, rfl, by omega, by omega⟩
/-- what each rule keeps -/
def RlOk (R : Rl) : Prop := R.wd ≠ [] ∧ R.wd.length ≤ 6 ∧ (Smalls R.me ∧ R.me.length ≤ 6) ∧ Smalls R.wd
section
variable {P : Program} {w : World} {K : PySem.W.Frag} {mg : Str → Option Value} {base : Heap} {CT C : Addr}
def sp_wide : Sp := fun vs H Q _ => ∃ p : Addr, vs = [.ref p] ∧ PenAt H p 0 ∧ ∀ H' b r first rs, WideAt H' b first r rs → But p H H' → RsOk rs → first.length ≤ 12 → Smalls first → Q (.ref b) H'
theorem ok_wide (T : Txt K mg CT C) (C__law_take : Cal P w K mg base CX0 1 "_law_take" ["_law_pen_here", "_law_size"] sp_take) (C__law_signs : Cal P w K mg base CX0 2 "_law_signs" ["_law_pen_here", "_law_many"] sp_signs)
    (C__law_text : Cal P w K mg base CX0 2 "_law_text" ["_law_pen_here", "_law_signs_here", "_law_many"] sp_text) (C__law_side : Cal P w K mg base CX0 2 "_law_side" ["_law_pen_here", "_law_signs_here"] sp_side)
    (h : Here K mg "_law_wide" s__law_wide ["_law_pen_here"]) : Cal P w K mg base CX0 3 "_law_wide" ["_law_pen_here"] sp_wide := by
  refine cal_of h fun f fd F => F.ok sc__law_wide (fun vs H Q E h => ?_) (fun cdv A outer s H vs Q E hr h => ?_)
  · obtain ⟨p, rfl, _⟩ := h
    rfl
  · obtain ⟨p, rfl, hP, k⟩ := h
    refine ⟨_, (pss_cons (ps_set (i := 1) sc__law_wide.nd rfl (Or.inl rfl) (pe_cal C__law_take pass0 hr (by decide) rfl (pa_cons (pv 0) (pa_cons pe_int pa_nil))))
(pss_cons (ps_set (i := 2) sc__law_wide.nd rfl (Or.inl rfl) (pe_cal C__law_signs pass0 hr (by decide) rfl (pa_cons (pv 0) (pa_cons (pe_ix ix_list (pe_lst (pa_cons pe_int (pa_cons pe_int (pa_cons pe_int (pa_cons pe_int (pa_cons pe_int pa_nil)))))) (pv 1) (fun _ _ => rfl)) pa_nil))))
(pss_cons (ps_set (i := 3) sc__law_wide.nd rfl (Or.inl rfl) (pe_lst pa_nil))
(pss_cons (ps_for PassesOwn.never rfl (pi_range1 rfl T.b_range (pa_cons (pe_cal C__law_take pass0 hr (by decide) rfl (pa_cons (pv 0) (pa_cons (pe_ix ix_list (pe_lst (pa_cons pe_int (pa_cons pe_int (pa_cons pe_int (pa_cons pe_int (pa_cons pe_int pa_nil)))))) (pv 1) (fun _ _ => rfl)) pa_nil))) pa_nil)) (pg_name (i := 4) sc__law_wide.nd rfl (Or.inl rfl))
(pss_cons (ps_set (i := 5) sc__law_wide.nd rfl (Or.inl rfl) (pe_cal C__law_side pass0 hr (by decide) rfl (pa_cons (pv 0) (pa_cons (pv 2) pa_nil))))
(pss_cons (ps_set (i := 6) sc__law_wide.nd rfl (Or.inl rfl) (pe_ix ix_list (pv 2) (pe_cal C__law_take pass0 hr (by decide) rfl (pa_cons (pv 0) (pa_cons (pe_callB call_len_seq (by rfl) T.b_len (by decide +kernel) (pa_cons (pv 2) pa_nil)) pa_nil))) (fun _ _ => rfl)))
(pss_cons (ps_set (i := 7) sc__law_wide.nd rfl (Or.inl rfl) (pe_cal C__law_side pass0 hr (by decide) rfl (pa_cons (pv 0) (pa_cons (pv 2) pa_nil))))
(pss_one (ps_expr (pe_bm PySem.F.plainAttrs_list PySem.F.slot_list_append PySem.F.type_list_append mt_append (pv 3) (pa_cons (pe_tup (pa_cons (pv 5) (pa_cons (pv 6) (pa_cons (pv 7) (pa_cons (pe_cal C__law_text pass0 hr (by decide) rfl (pa_cons (pv 0) (pa_cons (pv 2) (pa_cons (pe_op op_add pe_int (pe_cal C__law_take pass0 hr (by decide) rfl (pa_cons (pv 0) (pa_cons (pe_ix ix_list (pe_lst (pa_cons pe_int (pa_cons pe_int (pa_cons pe_int (pa_cons pe_int (pa_cons pe_int pa_nil)))))) (pv 1) (fun _ _ => rfl)) pa_nil)))) pa_nil)))) pa_nil))))) pa_nil))))))))
(pss_one (ps_ret (pe_tup (pa_cons (pe_cal C__law_text pass0 hr (by decide) rfl (pa_cons (pv 0) (pa_cons (pv 2) (pa_cons (pe_cal C__law_take pass0 hr (by decide) rfl (pa_cons (pv 0) (pa_cons (pe_ix ix_list (pe_lst (pa_cons pe_int (pa_cons pe_int (pa_cons pe_int (pa_cons pe_int (pa_cons pe_int pa_nil)))))) (pv 1) (fun _ _ => rfl)) pa_nil))) pa_nil)))) (pa_cons (pe_callTy call_tuple_of (by rfl) T.b_tuple (by decide +kernel) (pa_cons (pv 3) pa_nil)) pa_nil))))))))), ?_⟩
    have five : 5 ≤ sizeLine := by decide
    -- the pick
    refine ⟨_, rfl, p, 0, 5, rfl, hP, by omega, by decide, by decide, fun H1 pk pen1 bt1 hpk => ?_⟩
    obtain ⟨v1, tv1, l1, u1⟩ := tab1 hpk
    obtain ⟨v2, tv2, l2, u2⟩ := tab2 hpk
    obtain ⟨v3, tv3, l3, u3⟩ := tab3 hpk
    obtain ⟨v4, tv4, l4, u4⟩ := tab4 hpk
    -- the letters
    refine ⟨_, rfl, five, fun a1 na1 => ⟨_, rfl, a1, _, _, _, rfl, rfl, SqL.of upd_same, tv1, p, 1, v1, rfl, pen1.same (same_upd na1), by omega, by omega, fun H2 q cs pen2 bt2 nq nqp hq ecs scs => ?_⟩⟩
    have bt2' : But p H H2 := (bt1.trans (same_but (same_upd na1))).trans bt2
    have nq0 : H q = none := by
      have h1 : H1 q = none := (same_upd na1).free nq
      exact but_free bt1 pen1.some h1
    have hne : cs ≠ [] := fun e => by rw [e] at ecs; simp at ecs; omega
    have hlen : cs.length ≤ 1000 := by omega
    refine ⟨Nat.zero_le _, fun l nl => ?_⟩
    have nlp : l ≠ p := fun e => by rw [e] at nl; exact pen2.some nl
    have nlq : l ≠ q := fun e => by rw [e, hq] at nl; cases nl
    have nl0 : H l = none := but_free bt2' pen2.some nl
    have pen3 := pen2.same (same_upd (o := .lst []) nl)
    have npa : ∀ {H' : Hp} {n : Nat} {a : Addr}, PenAt H' p n → H' a = none → p ≠ a := fun hh hn e => by rw [← e] at hn; exact hh.some hn
    refine ⟨_, rfl, five, fun a2 na2 => ⟨_, rfl, a2, _, _, _, rfl, rfl, SqL.of upd_same, tv2, p, 1 + v1, v2, rfl, pen3.same (same_upd na2), by omega, by omega, by omega, fun H4 cnt pen4 bt4 hcnt => ?_⟩⟩
    have sm24 := (same_upd (o := .lst []) nl).trans (same_upd (o := .lst [.int 4, .int 5, .int 7, .int 9, .int 21]) na2)
    have bt4' : But p H H4 := (bt2'.trans (same_but sm24)).trans bt4
    have hq4 : H4 q = some (.lst (lets cs)) := bt4 _ _ (sm24 _ _ hq) nqp
    have hl4 : H4 l = some (.lst []) := bt4 _ _ ((same_upd na2) _ _ upd_same) nlp
    refine ⟨(cnt : Int), rfl, by omega, by omega, for_range (lo := 0) (n := (cnt : Int).toNat) (fun i σ H' => But p H H' ∧ PenAt H' p (10 + 20 * i) ∧ H' q = some (.lst (lets cs)) ∧ (∃ rs : List Rl, RulesL H' l rs ∧ rs.length = i ∧ ∀ R ∈ rs, RlOk R) ∧ ∃ x4 x5 x6 x7, σ = [some (.ref p), some (.int (pk : Int)), some (.ref q), some (.ref l), x4, x5, x6, x7])
      ⟨bt4', pen4.mono (by omega), hq4, ⟨[], ⟨[], hl4, rfl, fun i R hR => by simp at hR⟩, rfl, fun R hR => by cases hR⟩, none, none, none, none, rfl⟩ ?_ ?_⟩
    · rintro i σ H5 hi ⟨bt5, pen5, hq5, ⟨rs, hL, el, okR⟩, x4, x5, x6, x7, rfl⟩
      have hi20 : i < 20 := by omega
      -- left
      refine ⟨_, rfl, _, rfl, p, q, 10 + 20 * i, cs, rfl, pen5, by omega, hq5, nqp, hne, hlen, fun H6 tl pen6 bt6 => ?_⟩
      have hq6 := bt6 _ _ hq5 nqp
      have hL6 := hL.but bt6 nlp pen5.notup
      -- the letter
      refine ⟨_, rfl, _, rfl, _, rfl, q, _, rfl, .inl (SqL.of hq6), p, _, (lets cs).length, rfl, pen6, by omega, by rw [lets_len]; omega, by rw [lets_len]; omega, fun H7 r7 pen7 bt7 hr7 => ?_⟩
      have hr7' : r7 < cs.length := by rw [lets_len] at hr7; exact hr7
      have hq7 := bt7 _ _ hq6 nqp
      have hL7 := hL6.but bt7 nlp pen6.notup
      refine ⟨q, _, _, _, rfl, rfl, SqL.of hq7, atI_nat (lets_at hr7'), ?_⟩
      -- right
      refine ⟨_, rfl, _, rfl, p, q, _, cs, rfl, pen7, by omega, hq7, nqp, hne, hlen, fun H8 tr pen8 bt8 => ?_⟩
      have hq8 := bt8 _ _ hq7 nqp
      have hL8 := hL7.but bt8 nlp pen7.notup
      obtain ⟨as8, m1, m2, m3⟩ := id hL8
      -- the rule
      refine ⟨_, rfl, .inl ⟨rfl, _, SqL.of m1⟩, _, rfl, _, rfl, _, rfl, _, rfl, _, rfl, _, rfl, five, fun a3 na3 => ⟨_, rfl, a3, _, _, _, rfl, rfl, SqL.of upd_same, tv3, p, _, v3, rfl, pen8.same (same_upd na3), by omega, by omega, by omega, fun H9 k9 pen9 bt9 hk9 => ?_⟩⟩
      have sm3 := same_upd (o := .lst [.int 2, .int 2, .int 3, .int 1, .int 6]) na3
      have hq9 := bt9 _ _ (sm3 _ _ hq8) nqp
      have hL9 := (hL8.same sm3).but bt9 nlp (pen8.same sm3).notup
      refine ⟨_, _, rfl, rfl, p, q, _, 1 + k9, cs, rfl, pen9, by omega, by omega, hq9, nqp, hlen, scs, fun H10 tw pen10 bt10 sw lw ew => ?_⟩
      have hq10 := bt10 _ _ hq9 nqp
      have hL10 := hL9.but bt10 nlp pen9.notup
      refine ⟨by show 4 ≤ sizeLine; decide, fun a4 na4 => ?_⟩
      have sm4 := same_upd (o := .tup [LG.T tl, LG.T [cs[r7]], LG.T tr, LG.T tw]) na4
      obtain ⟨as, n1, n2, n3⟩ := hL10.same sm4
      refine ⟨l, as, _, rfl, rfl, n1, by rw [n2]; exact small1000 (by omega), ?_⟩
      have npa4 : p ≠ a4 := npa pen10 na4
      refine ⟨fun b o e hb => ?_, ?_, ?_, ⟨rs ++ [⟨tl, [cs[r7]], tr, tw⟩], RulesL.more n1 n2 n3 upd_same, by rw [List.length_append, el]; rfl, fun R hR => ?_⟩, _, _, _, _, rfl⟩
      · rw [upd_ne (ne_of_none e nl0)]
        exact sm4 _ _ (bt10 _ _ (bt9 _ _ (sm3 _ _ (bt8 _ _ (bt7 _ _ (bt6 _ _ (bt5 _ _ e hb) hb) hb) hb)) hb) hb)
      · obtain ⟨x, c, fo, hp, z⟩ := (pen10.mono (m := 10 + 20 * (i + 1)) (by omega)).same sm4
        exact ⟨x, c, fo, by rw [upd_ne nlp.symm]; exact hp, z⟩
      · rw [upd_ne nlq.symm]
        exact sm4 _ _ hq10
      · rcases List.mem_append.mp hR with hR | hR
        · exact okR R hR
        · rw [List.mem_singleton] at hR
          subst hR
          refine ⟨fun e => ?_, by show tw.length ≤ 6; omega, ⟨fun c hc => ?_, by show 1 ≤ 6; omega⟩, sw⟩
          · have e2 : tw = [] := e
            have := ew hne
            rw [e2] at this
            simp at this
            omega
          · have hc2 : c ∈ [cs[r7]] := hc
            rw [List.mem_singleton] at hc2
            rw [hc2]
            exact scs _ (List.getElem_mem hr7')
    · rintro σ H5 ⟨bt5, pen5, hq5, ⟨rs, hL, el, okR⟩, x4, x5, x6, x7, rfl⟩
      rw [Int.toNat_natCast] at pen5 el
      refine ⟨_, rfl, _, rfl, _, rfl, five, fun a5 na5 => ⟨_, rfl, a5, _, _, _, rfl, rfl, SqL.of upd_same, tv4, p, _, v4, rfl, pen5.same (same_upd na5), by omega, by omega, by omega, fun H6 k6 pen6 bt6 hk6 => ?_⟩⟩
      have sm5 := same_upd (o := .lst [.int 4, .int 5, .int 6, .int 13, .int 13]) na5
      have hq6 := bt6 _ _ (sm5 _ _ hq5) nqp
      have hL6 := (hL.same sm5).but bt6 nlp (pen5.same sm5).notup
      refine ⟨p, q, _, k6, cs, rfl, pen6, by omega, by omega, hq6, nqp, hlen, scs, fun H7 tf pen7 bt7 sf lf ef => ?_⟩
      obtain ⟨as, n1, n2, n3⟩ := hL6.but bt7 nlp pen6.notup
      refine ⟨_, rfl, l, as, rfl, .inl ⟨SqL.of n1, fun r nr => ⟨by show 2 ≤ sizeLine; decide, fun b nb => ?_⟩⟩⟩
      have smr := same_upd (o := .tup as) nr
      have smb := same_upd (o := .tup [LG.T tf, .ref r]) nb
      refine k _ b r tf rs ⟨upd_same, as, smb _ _ upd_same, n2, fun i R hR => ?_⟩ (fun c o e hc => smb _ _ (smr _ _ (bt7 _ _ (bt6 _ _ (sm5 _ _ (bt5 _ _ e hc)) hc) hc)))
        ⟨fun R hR => (okR R hR).1, fun R hR => (okR R hR).2.1, fun R hR => (okR R hR).2.2.1, fun R hR => (okR R hR).2.2.2, by omega⟩ (by omega) sf
      obtain ⟨a, n4, n5⟩ := n3 i R hR
      exact ⟨a, n4, smb _ _ (smr _ _ n5)⟩
end
end LG

/-! _law_lines, _law_beyond, _law_deed, _law_grown, _law_as_told. -/
namespace LG
open PySem PySem.Spec PyProof.Rows L2 SX
theorem ne_same (x : V) : (!decide (x = x)) = false := by
  rw [decide_eq_true rfl]
  rfl
/-! ### rows of small letters -/
theorem wordOf_small {rs : List Rl} (h : ∀ R ∈ rs, Smalls R.wd) (l c r : Nat) (hc : Small c) : Smalls (wordOf rs l c r) := by
  unfold wordOf
  cases e : rs.find? (fitB [l] [c] [r]) with
  | none =>
    intro x hx
    rw [List.mem_singleton] at hx
    rw [hx]
    exact hc
  | some R => exact h R (List.mem_of_find?_eq_some e)
theorem ws_small {rs : List Rl} (h : ∀ R ∈ rs, Smalls R.wd) : ∀ (t : Tx) (l r : Nat), Smalls t → Smalls (ws rs l t r).flatten
  | [], _, _, _ => fun x hx => by cases hx
  | c :: t, l, r, ht => fun x hx => by
    have e : (ws rs l (c :: t) r).flatten = wordOf rs l c (t.headD r) ++ (ws rs c t r).flatten := rfl
    rw [e] at hx
    rcases List.mem_append.mp hx with hx | hx
    · exact wordOf_small h _ _ _ (ht c List.mem_cons_self) x hx
    · exact ws_small h t c r (fun y hy => ht y (List.mem_cons_of_mem _ hy)) x hx
theorem rowT_small {rs : List Rl} (h : ∀ R ∈ rs, Smalls R.wd) {first : Tx} (hf : Smalls first) : ∀ n, Smalls (rowT rs first n).1
  | 0 => hf
  | n + 1 => ws_small h _ _ _ (rowT_small h hf n)
/-! ### == of lists of texts, of whole numbers -/
def scalD : PyData → Bool
  | .int _ => true
  | .str x => PyData.strOk x
  | _ => false
theorem shaped_all : ∀ ds : List PyData, (∀ d ∈ ds, scalD d = true) → PyData.canLayAll0 ds = true ∧ PyData.depthAll ds = 0
  | [], _ => ⟨by simp only [PyData.canLayAll0], by simp only [PyData.depthAll]⟩
  | d :: ds, h => by
    obtain ⟨h1, h2⟩ := shaped_all ds fun e he => h e (List.mem_cons_of_mem _ he)
    have h3 := h d List.mem_cons_self
    have h4 : d.canLay0 = true ∧ d.depth = 0 := by
      cases d with
      | int i => exact ⟨by simp only [PyData.canLay0], by simp only [PyData.depth]⟩
      | str x => exact ⟨by simp only [PyData.canLay0]; exact h3, by simp only [PyData.depth]⟩
      | none => cases h3
      | bool b => cases h3
      | list xs => cases h3
      | tuple xs => cases h3
      | dict xs => cases h3
    refine ⟨?_, ?_⟩
    · simp only [PyData.canLayAll0, h4.1, h1, Bool.and_self]
    · simp only [PyData.depthAll, h4.2, h2, Nat.max_self]
theorem shaped_list {ds : List PyData} (h : ∀ d ∈ ds, scalD d = true) : SeqAt.shaped (.list ds) = true := by
  obtain ⟨h1, h2⟩ := shaped_all ds h
  unfold SeqAt.shaped
  simp only [PyData.canLay0, PyData.depth, h1, h2]
  rfl
theorem eqv_list {ds : List PyData} (h : ∀ d ∈ ds, scalD d = true) : PyData.eqv (.list ds) (.list ds) = true := by
  refine SeqAt.eqv_refl _ ?_
  simp only [PyData.canLay0]
  exact (shaped_all ds h).1
theorem dpAll_map {K : PySem.W.Frag} {H : Hp} {α : Type} (f : α → V) (g : α → PyData) (h : ∀ a, Dp K H (f a) (g a)) : ∀ l : List α, DpAll K H (l.map f) (l.map g)
  | [] => .nil
  | a :: l => .cons (h a) (dpAll_map f g h l)
theorem small_strOk {t : Tx} (h : Smalls t) : PyData.strOk (S t) = true := by
  unfold PyData.strOk
  rw [Array.all_eq_true]
  intro i hi
  have h1 := h _ (List.getElem_mem (l := t) (n := i) (by simpa using hi))
  have h2 := h1.2
  have e : (S t).cps[i] = t[i]'(by simpa using hi) := by simp [S]
  rw [e]
  exact decide_eq_true (by omega)
/-- equal lists of texts of small letters -/
theorem eq_texts {K : PySem.W.Frag} {H : Hp} {a b : Addr} {ts : List Tx} (ha : H a = some (.lst (ts.map T))) (hb : H b = some (.lst (ts.map T))) (hs : ∀ t ∈ ts, Smalls t) {Q : VK} (h : Q (.bl true) H) : rEqD K (.ref a) (.ref b) H Q := by
  have hsc : ∀ d ∈ ts.map (fun t => PyData.str (S t)), scalD d = true := fun d hd => by
    obtain ⟨t, ht, rfl⟩ := List.mem_map.mp hd
    exact small_strOk (hs t ht)
  refine ⟨.list (ts.map fun t => .str (S t)), .list (ts.map fun t => .str (S t)), .lst (SqL.of ha) (dpAll_map _ _ (fun t => .str _) ts), .lst (SqL.of hb) (dpAll_map _ _ (fun t => .str _) ts), shaped_list hsc, shaped_list hsc, ?_⟩
  rw [eqv_list hsc]
  exact h
theorem eq_nums {K : PySem.W.Frag} {H : Hp} {a b : Addr} {ns : List Nat} (ha : H a = some (.lst (nums ns))) (hb : H b = some (.lst (nums ns))) {Q : VK} (h : Q (.bl true) H) : rEqD K (.ref a) (.ref b) H Q := by
  have hsc : ∀ d ∈ ns.map (fun (n : Nat) => PyData.int (n : Int)), scalD d = true := fun d hd => by
    obtain ⟨t, ht, rfl⟩ := List.mem_map.mp hd
    rfl
  refine ⟨.list (ns.map fun (n : Nat) => .int (n : Int)), .list (ns.map fun (n : Nat) => .int (n : Int)), .lst (SqL.of ha) (dpAll_map _ _ (fun n => .int _) ns), .lst (SqL.of hb) (dpAll_map _ _ (fun n => .int _) ns), shaped_list hsc, shaped_list hsc, ?_⟩
  rw [eqv_list hsc]
  exact h
/-- the rows' texts from age 0 to n -/
def linesT (rs : List Rl) (first : Tx) (n : Nat) : List Tx := (List.range (n + 1)).map fun t => (rowT rs first t).1
theorem linesT_len (rs : List Rl) (first : Tx) (n : Nat) : (linesT rs first n).length = n + 1 := by
  unfold linesT
  rw [List.length_map, List.length_range]
theorem linesT_at (rs : List Rl) (first : Tx) {n i : Nat} (h : i ≤ n) : (linesT rs first n)[i]? = some (rowT rs first i).1 := by
  unfold linesT
  rw [List.getElem?_map, List.getElem?_range (by omega)]
  rfl
theorem linesV_at (rs : List Rl) (first : Tx) {n i : Nat} (h : i ≤ n) : ((linesT rs first n).map T)[i]? = some (T (rowT rs first i).1) := by
  rw [List.getElem?_map, linesT_at rs first h]
  rfl
theorem linesT_take (rs : List Rl) (first : Tx) {n m : Nat} (h : m ≤ n) : (linesT rs first n).take (m + 1) = linesT rs first m := by
  unfold linesT
  rw [← List.map_take, List.take_range, Nat.min_eq_left (by omega)]
theorem linesT_small {rs : List Rl} (h : ∀ R ∈ rs, Smalls R.wd) {first : Tx} (hf : Smalls first) (n : Nat) : ∀ t ∈ linesT rs first n, Smalls t := fun t ht => by
  obtain ⟨i, _, rfl⟩ := List.mem_map.mp ht
  exact rowT_small h hf i
section
variable {P : Program} {w : World} {K : PySem.W.Frag} {mg : Str → Option Value} {base : Heap} {CT C : Addr}
def sp_lines (C : Addr) : Sp := fun vs H Q _ => ∃ (p l r : Addr) (rs : List Rl) (first : Tx) (n m : Nat), vs = [.ref p, .int (m : Int)] ∧ HedgeAt C H p l r rs first n ∧ m ≤ n ∧ n ≤ 40 ∧ ∀ H' q, Same H H' → H q = none → H' q = some (.lst ((linesT rs first m).map T)) → Q (.ref q) H'
theorem ok_lines (T : Txt K mg CT C) (M_m_row : Met P w K mg base CX0 3 C "row" ["self", "age"] (sp_row C)) (h : Here K mg "_law_lines" s__law_lines ["_law_hedge", "_law_most"]) :
    Cal P w K mg base CX0 4 "_law_lines" ["_law_hedge", "_law_most"] (sp_lines C) := by
  refine cal_of h fun f fd F => F.ok sc__law_lines (fun vs H Q E h => ?_) (fun cdv A outer s H vs Q E hr h => ?_)
  · obtain ⟨p, l, r, rs, first, n, m, rfl, _⟩ := h
    rfl
  · obtain ⟨p, l, r, rs, first, n, m, rfl, hH, hm, hn, k⟩ := h
    refine ⟨_, (pss_one (ps_ret (pe_lc (own := [("_law_n", 2)]) (g := gName 2) (tt := tYes) rfl sc__law_lines.nd (pi_range1 rfl T.b_range (pa_cons (pe_op op_add (pv 1) pe_int) pa_nil)) (blkOk_by (N := N__law_lines) (sc := defScope s__law_lines) (by decide +kernel)) (fun _ _ _ _ _ => pg_name (i := 2) sc__law_lines.nd rfl (Or.inl rfl)) (fun _ _ _ _ _ => pts_nil) (fun _ _ _ _ _ => (pe_met (pv 0) T.cl M_m_row pass0 hr (by decide) (pa_cons (pv 2) pa_nil)))))), ?_⟩
    have nA : ∀ l, (hF first r l).lookup ("row" : Str) = none := fun l => hF_no _ _ _ (by decide +kernel) (by decide +kernel) (by decide +kernel)
    refine ⟨_, rfl, _, _, rfl, rfl, _, rfl, by omega, by omega, fun D nD => ?_⟩
    refine lc_range (lo := 0) (n := ((m : Int) + 1).toNat) (fun i H' => Same H H' ∧ H' D = some (.lst (((linesT rs first m).take i).map LG.T))) ⟨same_upd nD, upd_same⟩ ?_ ?_
    · rintro i H1 hi ⟨sm, hD⟩
      have him : i ≤ m := by omega
      have hH1 := hH.same sm
      obtain ⟨⟨dx, hp⟩, _, _⟩ := id hH1
      refine ⟨rfl, _, rfl, p, dx, _, rfl, hp, nA l, _, rfl, p, l, r, rs, first, n, i, by rw [Int.zero_add]; rfl, hH1, by omega, _, hD, ?_, ?_, ?_⟩
      · rw [List.length_map, List.length_take]
        exact Nat.lt_of_le_of_lt (Nat.min_le_left _ _) (small1000 (by omega))
      · intro b o e
        rw [upd_ne (ne_of_none e nD)]
        exact sm _ _ e
      · rw [upd_same, List.take_add_one, linesT_at rs first him, List.map_append]
        rfl
    · rintro H1 ⟨sm, hD⟩
      rw [show ((m : Int) + 1).toNat = m + 1 by omega, linesT_take rs first (Nat.le_refl m)] at hD
      exact k H1 D sm nD hD
def sp_beyond : Sp := fun vs H Q _ => ∃ (q : Addr) (e l : Tx) (b m : Int), vs = [T e, T l, .ref q] ∧ H q = some (.tup [.int b, .int m]) ∧ Apart e l (b, m) ∧ e.length ≤ 600 ∧ l.length ≤ 600 ∧ Q (.bl true) H
theorem ok_beyond (T : Txt K mg CT C) (h : Here K mg "_law_beyond" s__law_beyond ["_law_elder", "_law_line", "_law_told"]) : Cal P w K mg base CX0 1 "_law_beyond" ["_law_elder", "_law_line", "_law_told"] sp_beyond := by
  refine cal_of h fun f fd F => F.ok sc__law_beyond (fun vs H Q E h => ?_) (fun cdv A outer s H vs Q E hr h => ?_)
  · obtain ⟨q, e, l, b, m, rfl, _⟩ := h
    rfl
  · obtain ⟨q, e, l, b, m, rfl, hq, ⟨U, M, V, N, rfl, rfl, et⟩, he, hl, k⟩ := h
    refine ⟨_, (pss_cons (ps_if (PW.pt (pw_or (pt_not (pt_val (pe_callB call_isi (by rfl) T.b_isinstance (by decide +kernel) (pa_cons (pv 2) (pa_cons (pe_ty (n := "tuple") (by rfl) T.b_tuple (by decide +kernel)) pa_nil))))) (pw_or1 (pt_cmpR op_ne (pe_callB call_len_seq (by rfl) T.b_len (by decide +kernel) (pa_cons (pv 2) pa_nil)) pe_int (nomark _)))))
(pss_one (ps_ret pe_bl))
pss_nil)
(pss_cons (ps_asg (pv 2) (pg_tup rfl (pgs_cons (pg_name (i := 3) sc__law_beyond.nd rfl (Or.inl rfl)) (pgs_cons (pg_name (i := 4) sc__law_beyond.nd rfl (Or.inl rfl)) pgs_nil))))
(pss_cons (ps_set (i := 5) sc__law_beyond.nd rfl (Or.inl rfl) (pe_op op_sub (pe_op op_sub (pe_callB call_len_str (by rfl) T.b_len (by decide +kernel) (pa_cons (pv 1) pa_nil)) (pv 3)) (pv 4)))
(pss_cons (ps_if (PW.pt (pw_or (pt_cmpR op_lt (pv 3) pe_int (nomark _)) (pw_or (pt_cmpR op_lt (pv 4) pe_int (nomark _)) (pw_or (pt_cmpR op_lt (pv 5) pe_int (nomark _)) (pw_or1 (pt_cmpR op_gt (pe_op op_add (pv 3) (pv 5)) (pe_callB call_len_str (by rfl) T.b_len (by decide +kernel) (pa_cons (pv 0) pa_nil)) (nomark _)))))))
(pss_one (ps_ret pe_bl))
pss_nil)
(pss_one (ps_ret (pe_and (pe_cmpR op_eq (pe_slice sl_str (pv 1) po_none (po_some (pv 3))) (pe_slice sl_str (pv 0) po_none (po_some (pv 3))) (nomark _)) (pe_one (pe_cmpR op_eq (pe_slice sl_str (pv 1) (po_some (pe_op op_sub (pe_callB call_len_str (by rfl) T.b_len (by decide +kernel) (pa_cons (pv 1) pa_nil)) (pv 5))) po_none) (pe_slice sl_str (pv 0) (po_some (pe_op op_sub (pe_callB call_len_str (by rfl) T.b_len (by decide +kernel) (pa_cons (pv 0) pa_nil)) (pv 5))) po_none) (nomark _)))))))))), ?_⟩
    obtain ⟨rfl, rfl⟩ := Prod.mk.inj et
    have zl : (S (U ++ (M ++ V))).length ≤ sizeLine := line600 (by rw [S_len]; omega)
    have ze : (S (U ++ (N ++ V))).length ≤ sizeLine := line600 (by rw [S_len]; omega)
    have nl : ((S (U ++ (M ++ V))).length : Int) = (U.length : Int) + M.length + V.length := by rw [S_len]; simp; omega
    have ne : ((S (U ++ (N ++ V))).length : Int) = (U.length : Int) + N.length + V.length := by rw [S_len]; simp; omega
    refine ⟨_, rfl, .ref q, .ty "tuple", .type "tuple", .type "tuple", true, rfl, .ty _, .base (.tup hq), kit_ty (by decide +kernel), true, rfl, if_f rfl ?_⟩
    refine ⟨_, rfl, q, _, rfl, .inr (SqT.of hq), rfl, _, rfl, if_f (ne_same (.int 2)) ?_⟩
    refine ⟨_, rfl, q, _, rfl, SqT.of hq, rfl, _, _, rfl, _, _, rfl, rfl, ?_⟩
    refine ⟨_, rfl, _, rfl, zl, _, rfl, _, _, rfl, rfl, _, rfl, _, _, rfl, rfl, ?_⟩
    have er : ((S (U ++ (M ++ V))).length : Int) - (U.length : Int) - (M.length : Int) = (V.length : Int) := by omega
    show tSeq _ _ _ ([some (LG.T (U ++ (N ++ V))), some (LG.T (U ++ (M ++ V))), some (.ref q), some (.int (U.length : Int)), some (.int (M.length : Int)), some (.int (((S (U ++ (M ++ V))).length : Int) - (U.length : Int) - (M.length : Int)))] : L2.St) H
    rw [er]
    refine ⟨_, rfl, _, _, rfl, rfl, _, rfl, if_f (decide_eq_false (by omega)) ?_⟩
    refine ⟨_, rfl, _, _, rfl, rfl, _, rfl, if_f (decide_eq_false (by omega)) ?_⟩
    refine ⟨_, rfl, _, _, rfl, rfl, _, rfl, if_f (decide_eq_false (by omega)) ?_⟩
    refine ⟨_, rfl, _, rfl, _, _, rfl, rfl, _, rfl, _, rfl, ze, _, _, rfl, rfl, _, rfl, if_f (decide_eq_false (by omega)) ?_⟩
    refine ⟨_, rfl, _, rfl, _, rfl, _, rfl, zl, _, rfl, _, rfl, _, rfl, _, rfl, ze, rfl, true, ?_, if_t rfl ?_⟩
    · rw [cut_to, cut_to, List.take_left, List.take_left, decide_eq_true rfl]
    · refine ⟨_, rfl, _, rfl, _, rfl, zl, _, rfl, _, _, rfl, rfl, ((U.length + M.length : Nat) : Int), ?_, _, rfl, zl, _, rfl, _, rfl, _, rfl, ze, _, rfl, _, _, rfl, rfl, ((U.length + N.length : Nat) : Int), ?_, _, rfl, ze, rfl, ?_⟩
      · exact congrArg L2.V.int (by omega)
      · exact congrArg L2.V.int (by omega)
      · have e1 : (U ++ (M ++ V)).drop (U.length + M.length) = V := by rw [← List.append_assoc, ← List.length_append, List.drop_left]
        have e2 : (U ++ (N ++ V)).drop (U.length + N.length) = V := by rw [← List.append_assoc, ← List.length_append, List.drop_left]
        rw [cut_from, cut_from, e1, e2, decide_eq_true rfl]
        exact k
end
end LG

/-! _law_deed, _law_grown, _law_as_told. -/
namespace LG
open PySem PySem.Spec PyProof.Rows L2 SX
theorem apart_of {rs : List Rl} (h : WNe rs) {A B U V M N : Tx} {less k : Nat} (eA : A = U ++ (N ++ V)) (eB : B = U ++ (M ++ V)) (hM : M.length + less = 1) (hN : less ≤ N.length) (hk : U.length = k) (t : Nat) :
    Apart (rowT rs A t).1 (rowT rs B t).1 (spanAt rs B (k : Int) (less : Int) t) := by
  subst hk
  exact told_apart h eA eB hM hN t
theorem split_at {l : Tx} {k : Nat} (h : k < l.length) : l = l.take k ++ ([l[k]] ++ l.drop (k + 1)) := by
  have e : l.drop k = l[k] :: l.drop (k + 1) := List.drop_eq_getElem_cons h
  rw [List.singleton_append, ← e, List.take_append_drop]
theorem smalls_take {l : Tx} {k : Nat} (h : Smalls l) : Smalls (l.take k) := fun c hc => h c (List.mem_of_mem_take hc)
theorem smalls_drop {l : Tx} {k : Nat} (h : Smalls l) : Smalls (l.drop k) := fun c hc => h c (List.mem_of_mem_drop hc)
theorem smalls_app {a b : Tx} (ha : Smalls a) (hb : Smalls b) : Smalls (a ++ b) := fun c hc => (List.mem_append.mp hc).elim (ha c) (hb c)
theorem smalls_one {c : Nat} (h : Small c) : Smalls [c] := fun x hx => by
  rw [List.mem_singleton] at hx
  rw [hx]
  exact h
section
variable {P : Program} {w : World} {K : PySem.W.Frag} {mg : Str → Option Value} {base : Heap} {CT C : Addr}
/-- what the clause wishes of an error in a deed -/
abbrev deedW (K : PySem.W.Frag) (CT : Addr) (Q : VK) : WX := wOnly K (.ref CT) (fun _ _ _ => tRet (tC .non)) (fun _ _ _ _ => False) { nx := fun _ H' => Q .non H', rt := Q }
/-- what a deed that is done leaves -/
def Done (C : Addr) (Q : VK) (H : Hp) (p r : Addr) (rs : List Rl) (first : Tx) (n : Nat) : Prop :=
  ∀ H' l' q f2 sp, HedgeAt C H' p l' r rs f2 n → But p H H' → H l' = none → l' ≠ p → okTo rs f2 n → f2.length ≤ 12 → Smalls f2 → SpansAt H' q sp (n + 1) → (∀ t, Apart (rowT rs first t).1 (rowT rs f2 t).1 (sp t)) → Q (.ref q) H'
def sp_deed (C : Addr) : Sp := fun vs H Q _ => ∃ (p l r : Addr) (rs : List Rl) (first : Tx) (n pk pc c : Nat), vs = [.ref p, .int (pk : Int), .int (pc : Int), T [c]] ∧ HedgeAt C H p l r rs first n ∧ RsOk rs ∧ first.length ≤ 12 ∧ Smalls first ∧ n ≤ 40 ∧ Small c ∧
  (∀ H', Same H H' → Q .non H') ∧ Done C Q H p r rs first n
theorem ok_deed (T : Txt K mg CT C) (M_m_now : Met P w K mg base CX0 1 C "now" ["self"] (sp_now C)) (M_m_take_out : Met P w K mg base (L2.CX P w) 7 C "take_out" ["self", "place"] (sp_take_out CT C)) (M_m_put_in : Met P w K mg base (L2.CX P w) 7 C "put_in" ["self", "place", "letter"] (sp_put_in CT C))
    (M_m_exchange : Met P w K mg base (L2.CX P w) 7 C "exchange" ["self", "place", "letter"] (sp_exchange CT C)) (h : Here K mg "_law_deed" s__law_deed ["_law_hedge", "_law_pick", "_law_place", "_law_sign"]) :
    Cal P w K mg base CX0 8 "_law_deed" ["_law_hedge", "_law_pick", "_law_place", "_law_sign"] (sp_deed C) := by
  refine cal_of h fun f fd F => F.ok sc__law_deed (fun vs H Q E h => ?_) (fun cdv A outer s H vs Q E hr h => ?_)
  · obtain ⟨p, l, r, rs, first, n, pk, pc, c, rfl, _⟩ := h
    rfl
  · obtain ⟨p, l, r, rs, first, n, pk, pc, c, rfl, hH, hrs, hf, hsm, hn, hc, kN, kD⟩ := h
    refine ⟨_, (pss_cons (ps_set (i := 4) sc__law_deed.nd rfl (Or.inl rfl) (pe_callB call_len_str (by rfl) T.b_len (by decide +kernel) (pa_cons (pe_ix ix_tup (pe_met0 (pv 0) T.cl M_m_now pass0 hr (by decide)) pe_int (fun _ _ => rfl)) pa_nil)))
(pss_one (ps_try_only (ts := fun _ _ _ => tRet (tC (.non))) (Wout := fun _ _ _ _ => False) rfl rfl ⟨rfl, by decide, Or.inl T.gT⟩ takes0 (fun W pn xe tk _ => (C8.pss_cut (ps_if (PW.pt (pw_and (pt_cmpR op_eq (pv 1) pe_int (nomark _)) (pw_and1 (pt_cmpR op_gt (pv 4) pe_int (nomark _)))))
(pss_one (ps_ret (pe_metS (pv 0) T.cl M_m_take_out tk hr (by decide) (pa_cons (pe_op op_mod (pv 2) (pv 4)) pa_nil))))
pss_nil)
(C8.pss_cut (ps_if (PW.pt (pw_or (PW.pt (pw_and (pt_cmpR op_lt (pv 1) pe_int (nomark _)) (pw_and1 (pt_cmpR op_lt (pv 4) pe_int (nomark _))))) (pw_or1 (pt_cmpR op_eq (pv 4) pe_int (nomark _)))))
(pss_one (ps_ret (pe_metS (pv 0) T.cl M_m_put_in tk hr (by decide) (pa_cons (pe_op op_mod (pv 2) (pe_op op_add (pv 4) pe_int)) (pa_cons (pv 3) pa_nil)))))
pss_nil)
(pss_one (ps_ret (pe_metS (pv 0) T.cl M_m_exchange tk hr (by decide) (pa_cons (pe_op op_mod (pv 2) (pv 4)) (pa_cons (pv 3) pa_nil)))))))) (fun _ _ _ _ _ _ _ => (pss_one (ps_ret pe_non)))))), ?_⟩
    have nAn : ∀ l, (hF first r l).lookup ("now" : Str) = none := fun l => hF_no _ _ _ (by decide +kernel) (by decide +kernel) (by decide +kernel)
    have nAt : ∀ l, (hF first r l).lookup ("take_out" : Str) = none := fun l => hF_no _ _ _ (by decide +kernel) (by decide +kernel) (by decide +kernel)
    have nAp : ∀ l, (hF first r l).lookup ("put_in" : Str) = none := fun l => hF_no _ _ _ (by decide +kernel) (by decide +kernel) (by decide +kernel)
    have nAx : ∀ l, (hF first r l).lookup ("exchange" : Str) = none := fun l => hF_no _ _ _ (by decide +kernel) (by decide +kernel) (by decide +kernel)
    obtain ⟨⟨dx0, hp0⟩, _, _⟩ := id hH
    refine ⟨_, rfl, p, dx0, _, rfl, hp0, nAn l, p, l, r, rs, first, n, rfl, hH, fun H1 b sm1 hW => ⟨b, _, 0, _, rfl, rfl, SqT.of hW.1, atI_nat (j := 0) rfl, S first, rfl, line600 (by rw [S_len]; omega), ?_⟩⟩
    rw [S_len]
    have hH1 := hH.same sm1
    obtain ⟨⟨dx, hp⟩, _, _⟩ := id hH1
    have fail : ∀ (σ : L2.St) (f2 : Tx), (¬ okTo rs f2 n → ∀ H', Same H1 H' → WE (deedW K CT Q) σ (.ref CT) none H') := fun σ f2 _ H' sm2 =>
      ⟨true, T.eT, fun _ a _ => kN H' (sm1.trans sm2), fun q => Bool.noConfusion q⟩
    have good : ∀ (H' : Hp) (l' q : Addr) (f2 : Tx) (pl less : Int), HedgeAt C H' p l' r rs f2 n → But p H1 H' → H1 l' = none → l' ≠ p → okTo rs f2 n → f2.length ≤ 12 → Smalls f2 → SpansAt H' q (spanAt rs f2 pl less) (n + 1) → (∀ t, Apart (rowT rs first t).1 (rowT rs f2 t).1 (spanAt rs f2 pl less t)) → Q (.ref q) H' :=
      fun H' l' q f2 pl less a1 a2 a3 a4 a5 a6 a7 a8 a9 => kD H' l' q f2 _ a1 ((same_but sm1).trans a2) (sm1.free a3) a4 a5 a6 a7 a8 a9
    have put : first.length < 12 → ∀ σ, sp_put_in CT C [.ref p, .int ((pc : Int) % ((first.length : Int) + 1)), LG.T [c]] H1 Q (WE (deedW K CT Q) σ) := fun hlt σ => by
      have hk : pc % (first.length + 1) ≤ first.length := by
        have := Nat.mod_lt pc (show 0 < first.length + 1 by omega)
        omega
      refine ⟨p, l, r, rs, first, n, pc % (first.length + 1), c, rfl, hH1, hrs.few, hrs.le, hlt, hn, hk, hc, fun ok H2 l2 q hH2 bt nl np hS => ?_, fail _ _⟩
      refine good H2 l2 q _ _ _ hH2 bt nl np ok ?_ (smalls_app (smalls_app (smalls_take hsm) (smalls_one hc)) (smalls_drop hsm)) hS fun t => ?_
      · rw [List.length_append, List.length_append, List.length_take, List.length_drop]
        simp
        omega
      · exact apart_of (less := 0) (N := []) (M := [c]) (U := first.take (pc % (first.length + 1))) (V := first.drop (pc % (first.length + 1))) hrs.ne (by rw [List.nil_append, List.take_append_drop]) (by rw [List.append_assoc]) rfl (Nat.zero_le _) (by rw [List.length_take]; omega) t
    have ex : 0 < first.length → ∀ σ, sp_exchange CT C [.ref p, .int ((pc : Int) % (first.length : Int)), LG.T [c]] H1 Q (WE (deedW K CT Q) σ) := fun hpos σ => by
      have hk : pc % first.length < first.length := Nat.mod_lt _ hpos
      refine ⟨p, l, r, rs, first, n, pc % first.length, c, rfl, hH1, hrs.few, hrs.le, hf, hn, hk, hc, fun ok H2 l2 q hH2 bt nl np hS => ?_, fail _ _⟩
      refine good H2 l2 q _ _ _ hH2 bt nl np ok ?_ (smalls_app (smalls_app (smalls_take hsm) (smalls_one hc)) (smalls_drop hsm)) hS fun t => ?_
      · rw [List.length_append, List.length_append, List.length_take, List.length_drop]
        simp
        omega
      · exact apart_of (less := 0) (M := [c]) hrs.ne (split_at hk) (by rw [List.append_assoc]) rfl (Nat.zero_le _) (by rw [List.length_take]; omega) t
    have tko : 0 < first.length → ∀ σ, sp_take_out CT C [.ref p, .int ((pc : Int) % (first.length : Int))] H1 Q (WE (deedW K CT Q) σ) := fun hpos σ => by
      have hk : pc % first.length < first.length := Nat.mod_lt _ hpos
      refine ⟨p, l, r, rs, first, n, pc % first.length, rfl, hH1, hrs.few, hrs.le, hf, hn, hk, fun ok H2 l2 q hH2 bt nl np hS => ?_, fail _ _⟩
      refine good H2 l2 q _ _ _ hH2 bt nl np ok ?_ (smalls_app (smalls_take hsm) (smalls_drop hsm)) hS fun t => ?_
      · rw [List.length_append, List.length_take, List.length_drop]
        omega
      · exact apart_of (less := 1) (M := []) hrs.ne (split_at hk) rfl rfl (by simp) (by rw [List.length_take]; omega) t
    have len0 : ∀ {x y : Bool}, ¬ decide (V.int (first.length : Int) = V.int 0) = true → 0 < first.length := fun e => by
      have h1 : first.length ≠ 0 := fun z => e (decide_eq_true (by rw [z]; rfl))
      omega
    refine ⟨fun σ' H' => σ' = [some (.ref p), some (.int (pk : Int)), some (.int (pc : Int)), some (LG.T [c]), some (.int (first.length : Int))] ∧ H1 = H', ?_, ?_⟩
    · refine ⟨_, rfl, rfl, _, rfl, ite2 (fun e1 => ?_) (fun e1 => ?_)⟩
      · refine ⟨_, rfl, _, _, rfl, rfl, _, rfl, ite2 (fun e2 => ?_) (fun e2 => ?_)⟩
        · have hpos : 0 < first.length := by
            have := of_decide_eq_true e2
            omega
          exact ⟨_, rfl, p, dx, _, rfl, hp, nAt l, _, rfl, _, rfl, _, _, rfl, rfl, (by show (0 : Int) < (first.length : Int); omega), tko hpos _⟩
        · exact ⟨rfl, rfl⟩
      · exact if_f rfl ⟨rfl, rfl⟩
    · rintro σ' H' ⟨rfl, rfl⟩
      refine ⟨fun σ' H' => σ' = [some (.ref p), some (.int (pk : Int)), some (.int (pc : Int)), some (LG.T [c]), some (.int (first.length : Int))] ∧ H1 = H' ∧ 0 < first.length, ?_, ?_⟩
      · refine ⟨_, rfl, _, _, rfl, rfl, _, rfl, ite2 (fun e1 => ?_) (fun e1 => ?_)⟩
        · refine ⟨_, rfl, _, _, rfl, rfl, _, rfl, ite2 (fun e2 => ?_) (fun e2 => ?_)⟩
          · exact ⟨_, rfl, p, dx, _, rfl, hp, nAp l, _, rfl, _, rfl, _, _, rfl, rfl, _, _, rfl, rfl, (by show (0 : Int) < (first.length : Int) + 1; omega), _, rfl, put (by have := of_decide_eq_true e2; omega) _⟩
          · refine ⟨_, rfl, rfl, _, rfl, ite2 (fun e4 => ?_) (fun e4 => ⟨rfl, rfl, len0 (x := true) (y := true) e4⟩)⟩
            have h4 := V.int.inj (of_decide_eq_true e4)
            exact ⟨_, rfl, p, dx, _, rfl, hp, nAp l, _, rfl, _, rfl, _, _, rfl, rfl, _, _, rfl, rfl, (by show (0 : Int) < (first.length : Int) + 1; omega), _, rfl, put (by omega) _⟩
        · refine if_f rfl ⟨_, rfl, rfl, _, rfl, ite2 (fun e4 => ?_) (fun e4 => ⟨rfl, rfl, len0 (x := true) (y := true) e4⟩)⟩
          have h4 := V.int.inj (of_decide_eq_true e4)
          exact ⟨_, rfl, p, dx, _, rfl, hp, nAp l, _, rfl, _, rfl, _, _, rfl, rfl, _, _, rfl, rfl, (by show (0 : Int) < (first.length : Int) + 1; omega), _, rfl, put (by omega) _⟩
      · rintro σ' H' ⟨rfl, rfl, hpos⟩
        exact ⟨_, rfl, p, dx, _, rfl, hp, nAx l, _, rfl, _, rfl, _, _, rfl, rfl, (by show (0 : Int) < (first.length : Int); omega), _, rfl, ex hpos _⟩
def sp_grown (C : Addr) : Sp := fun vs H Q _ => ∃ (p l r : Addr) (rs : List Rl) (first : Tx) (n : Nat), vs = [.ref p] ∧ HedgeAt C H p l r rs first n ∧ n < 40 ∧ okTo rs first n ∧ first.length ≤ 12 ∧ RsOk rs ∧
  (∀ H', Same H H' → Q (.bl false) H') ∧ (okTo rs first (n + 1) → ∀ H', HedgeAt C H' p l r rs first (n + 1) → But l H H' → Q (.bl true) H')
theorem ok_grown (T : Txt K mg CT C) (M_m_grow : Met P w K mg base (L2.CX P w) 5 C "grow" ["self"] (sp_grow CT C)) (h : Here K mg "_law_grown" s__law_grown ["_law_hedge"]) : Cal P w K mg base CX0 6 "_law_grown" ["_law_hedge"] (sp_grown C) := by
  refine cal_of h fun f fd F => F.ok sc__law_grown (fun vs H Q E h => ?_) (fun cdv A outer s H vs Q E hr h => ?_)
  · obtain ⟨p, l, r, rs, first, n, rfl, _⟩ := h
    rfl
  · obtain ⟨p, l, r, rs, first, n, rfl, hH, hn, ok, hf, hrs, kF, kT⟩ := h
    refine ⟨_, (pss_cons (ps_try_only (ts := fun _ _ _ => tRet (tC (.bl false))) (Wout := fun _ _ _ _ => False) rfl rfl ⟨rfl, by decide, Or.inl T.gT⟩ takes0 (fun W pn xe tk _ => (pss_one (ps_expr (pe_metS0 (pv 0) T.cl M_m_grow tk hr (by decide))))) (fun _ _ _ _ _ _ _ => (pss_one (ps_ret pe_bl))))
(pss_one (ps_ret pe_bl))), ?_⟩
    obtain ⟨⟨dx, hp⟩, _, _⟩ := id hH
    have nA : (hF first r l).lookup ("grow" : Str) = none := hF_no _ _ _ (by decide +kernel) (by decide +kernel) (by decide +kernel)
    refine ⟨_, rfl, p, dx, _, rfl, hp, nA, p, l, r, rs, first, n, rfl, hH, hn, ok, hf, hrs.few, hrs.le, fun ok2 H2 hH2 bt => kT ok2 H2 hH2 bt, fun _ H2 sm => ?_⟩
    exact ⟨true, T.eT, fun _ a _ => kF H2 sm, fun q => Bool.noConfusion q⟩
def sp_as_told (C : Addr) : Sp := fun vs H Q _ => ∃ (p l r q : Addr) (rs : List Rl) (first : Tx) (n k : Nat), vs = [.ref p, .ref q, .int (k : Int)] ∧ HedgeAt C H p l r rs first n ∧ RsOk rs ∧ first.length ≤ 12 ∧ n ≤ 40 ∧ okTo rs first n ∧ k ≤ n ∧ H q = some (.lst ((linesT rs first n).map T)) ∧
  ∀ H', Same H H' → Q (.bl true) H'
theorem ok_as_told (T : Txt K mg CT C) (M_m_now : Met P w K mg base CX0 1 C "now" ["self"] (sp_now C)) (M_m_starts : Met P w K mg base CX0 3 C "starts" ["self", "age"] (sp_m_starts C)) (C_wide_row : Cal P w K mg base (L2.CX P w) 6 "wide_row" ["wide", "age"] sp_wide_row)
    (C_starts : Cal P w K mg base (L2.CX P w) 6 "starts" ["wide", "age"] sp_starts) (h : Here K mg "_law_as_told" s__law_as_told ["_law_hedge", "_law_lines_here", "_law_n"]) :
    Cal P w K mg base CX0 7 "_law_as_told" ["_law_hedge", "_law_lines_here", "_law_n"] (sp_as_told C) := by
  refine cal_of h fun f fd F => F.ok sc__law_as_told (fun vs H Q E h => ?_) (fun cdv A outer s H vs Q E hr h => ?_)
  · obtain ⟨p, l, r, q, rs, first, n, k, rfl, _⟩ := h
    rfl
  · obtain ⟨p, l, r, q, rs, first, n, k, rfl, hH, hrs, hf, hn, ok, hk, hq, kk⟩ := h
    refine ⟨_, (pss_cons (ps_set (i := 3) sc__law_as_told.nd rfl (Or.inl rfl) (pe_met0 (pv 0) T.cl M_m_now pass0 hr (by decide)))
(pss_cons (ps_set (i := 4) sc__law_as_told.nd rfl (Or.inl rfl) (pe_ix ix_list (pv 1) (pv 2) (fun _ _ => rfl)))
(pss_one (ps_ret (pe_and (pe_callB call_isi (by rfl) T.b_isinstance (by decide +kernel) (pa_cons (pv 4) (pa_cons (pe_ty (n := "str") (by rfl) T.b_str (by decide +kernel)) pa_nil))) (pe_and (pe_cmpR op_eq (pv 4) (pe_cal C_wide_row passL hr (by decide) rfl (pa_cons (pv 3) (pa_cons (pv 2) pa_nil))) (nomark _)) (pe_one (pe_cmpR (op_eqD hr.units) (pe_met (pv 0) T.cl M_m_starts pass0 hr (by decide) (pa_cons (pv 2) pa_nil)) (pe_cal C_starts passL hr (by decide) rfl (pa_cons (pv 3) (pa_cons (pv 2) pa_nil))) (nomark _))))))))), ?_⟩
    obtain ⟨⟨dx0, hp0⟩, _, _⟩ := id hH
    have nAn : (hF first r l).lookup ("now" : Str) = none := hF_no _ _ _ (by decide +kernel) (by decide +kernel) (by decide +kernel)
    have nAs : (hF first r l).lookup ("starts" : Str) = none := hF_no _ _ _ (by decide +kernel) (by decide +kernel) (by decide +kernel)
    refine ⟨_, rfl, p, dx0, _, rfl, hp0, nAn, p, l, r, rs, first, n, rfl, hH, fun H1 b sm1 hW => ?_⟩
    refine ⟨_, rfl, _, rfl, q, _, _, _, rfl, rfl, SqL.of (sm1 _ _ hq), atI_nat (linesV_at rs first hk), ?_⟩
    refine ⟨_, rfl, .str (S (rowT rs first k).1), .ty "str", .type "str", .type "str", true, rfl, .ty _, .base (.str _), kit_ty (by decide +kernel), true, rfl, if_t rfl ?_⟩
    refine ⟨_, rfl, _, rfl, _, rfl, b, r, first, rs, k, rfl, hW, hrs.few, hrs.le, hf, by omega, ok.less hk, fun H2 sm2 => ?_⟩
    refine ⟨rfl, true, congrArg V.bl (decide_eq_true rfl), if_t rfl ?_⟩
    have sm12 := sm1.trans sm2
    have hH2 := hH.same sm12
    obtain ⟨⟨dx, hp⟩, _, _⟩ := id hH2
    refine ⟨_, rfl, p, dx, _, rfl, hp, nAs, _, rfl, p, l, r, rs, first, n, k, rfl, hH2, hk, fun H3 q3 sm3 h3 => ?_⟩
    refine ⟨_, rfl, _, rfl, b, r, first, rs, k, rfl, (hW.same sm2).same sm3, hrs.few, hrs.le, hf, by omega, ok.less hk, fun H4 q4 sm4 h4 => ?_⟩
    exact eq_nums (sm4 _ _ h3) h4 (kk H4 ((sm12.trans sm3).trans sm4))
end
end LG

/-! _law_step. -/
namespace LG
open PySem PySem.Spec PyProof.Rows L2 SX
theorem ne_ints {a b : Int} (h : a = b) : (!decide (V.int a = V.int b)) = false := by
  rw [h, decide_eq_true rfl]
  rfl
theorem lines_len (rs : List Rl) (first : Tx) (n : Nat) : ((linesT rs first n).map T).length = n + 1 := by
  rw [List.length_map, linesT_len]
theorem same_but_new {Hb H H' : Hp} {p : Addr} (s : Same Hb H) (b : But p H H') (hp : Hb p = none) : Same Hb H' := fun c o e => b c o (s c o e) (ne_of_none e hp)
/-- the lengths of texts, added up -/
theorem lens_step {l : List Tx} {i : Nat} {x : V} (h : (l.map T)[i]? = some x) : ∃ t, l[i]? = some t ∧ x = T t := by
  rw [List.getElem?_map] at h
  cases e : l[i]? with
  | none =>
    rw [e] at h
    cases h
  | some t =>
    rw [e] at h
    exact ⟨t, rfl, (Option.some.inj h).symm⟩
section
variable {P : Program} {w : World} {K : PySem.W.Frag} {mg : Str → Option Value} {base : Heap} {CT C : Addr}
/-- what follows a step -/
def StepK (C : Addr) (Q : VK) (Hb : Hp) (p l r : Addr) (rs : List Rl) : Prop :=
  ∀ H' l' f2 n', HedgeAt C H' p l' r rs f2 n' → (∀ b o, Hb b = some o → b ≠ p → b ≠ l → H' b = some o) → (l' = l ∨ Hb l' = none) → okTo rs f2 n' → f2.length ≤ 12 → Smalls f2 → n' ≤ 7 → Q (.bl true) H'
def sp_step (C : Addr) : Sp := fun vs H Q _ => ∃ (p l r pp q : Addr) (rs : List Rl) (first cs : Tx) (n most : Nat) (Hb : Hp), vs = [.ref p, .ref pp, .ref q, .int (most : Int)] ∧ HedgeAt C Hb p l r rs first n ∧ Hb q = some (.lst (lets cs)) ∧ Hb pp = none ∧ Same Hb H ∧ PenAt H pp 0 ∧
  cs ≠ [] ∧ cs.length ≤ 1000 ∧ Smalls cs ∧ RsOk rs ∧ first.length ≤ 12 ∧ Smalls first ∧ n ≤ 7 ∧ most ≤ 7 ∧ okTo rs first n ∧ StepK C Q Hb p l r rs
theorem ok_step (T : Txt K mg CT C) (C__law_take : Cal P w K mg base CX0 1 "_law_take" ["_law_pen_here", "_law_size"] sp_take) (C__law_lines : Cal P w K mg base CX0 4 "_law_lines" ["_law_hedge", "_law_most"] (sp_lines C))
    (M_m_age : Met P w K mg base CX0 1 C "age" ["self"] (sp_age C)) (C__law_grown : Cal P w K mg base CX0 6 "_law_grown" ["_law_hedge"] (sp_grown C))
    (C__law_deed : Cal P w K mg base CX0 8 "_law_deed" ["_law_hedge", "_law_pick", "_law_place", "_law_sign"] (sp_deed C)) (C__law_beyond : Cal P w K mg base CX0 1 "_law_beyond" ["_law_elder", "_law_line", "_law_told"] sp_beyond)
    (C__law_as_told : Cal P w K mg base CX0 7 "_law_as_told" ["_law_hedge", "_law_lines_here", "_law_n"] (sp_as_told C))
    (h : Here K mg "_law_step" s__law_step ["_law_hedge", "_law_pen_here", "_law_signs_here", "_law_most"]) : Cal P w K mg base CX0 9 "_law_step" ["_law_hedge", "_law_pen_here", "_law_signs_here", "_law_most"] (sp_step C) := by
  refine cal_of h fun f fd F => F.ok sc__law_step (fun vs H Q E h => ?_) (fun cdv A outer s H vs Q E hr h => ?_)
  · obtain ⟨p, l, r, pp, q, rs, first, cs, n, most, Hb, rfl, _⟩ := h
    rfl
  · obtain ⟨p, l, r, pp, q, rs, first, cs, n, most, Hb, rfl, hHb, hqb, npp, smb, pen0, hne, hcl, hcs, hrs, hf, hsm, hn, hmost, ok, kk⟩ := h
    refine ⟨_, (pss_cons (ps_set (i := 4) sc__law_step.nd rfl (Or.inl rfl) (pe_cal C__law_take pass0 hr (by decide) rfl (pa_cons (pv 1) (pa_cons pe_int pa_nil))))
(pss_cons (ps_set (i := 5) sc__law_step.nd rfl (Or.inl rfl) (pe_cal C__law_take pass0 hr (by decide) rfl (pa_cons (pv 1) (pa_cons pe_int pa_nil))))
(pss_cons (ps_set (i := 6) sc__law_step.nd rfl (Or.inl rfl) (pe_ix ix_list (pv 2) (pe_cal C__law_take pass0 hr (by decide) rfl (pa_cons (pv 1) (pa_cons (pe_callB call_len_seq (by rfl) T.b_len (by decide +kernel) (pa_cons (pv 2) pa_nil)) pa_nil))) (fun _ _ => rfl)))
(pss_cons (ps_set (i := 7) sc__law_step.nd rfl (Or.inl rfl) (pe_cal C__law_lines pass0 hr (by decide) rfl (pa_cons (pv 0) (pa_cons (pe_met0 (pv 0) T.cl M_m_age pass0 hr (by decide)) pa_nil))))
(C8.pss_cut (ps_if (PW.pt (pw_and (pt_cmpR op_eq (pv 4) pe_int (nomark _)) (pw_and (pt_cmpR op_le (pe_callB call_len_seq (by rfl) T.b_len (by decide +kernel) (pa_cons (pv 7) pa_nil)) (pv 3) (nomark _)) (pw_and1 (pt_cmpR op_lt (pe_callB (cr_sum rfl) (by rfl) T.b_sum (by decide +kernel) (pa_cons (pe_lc (own := [("_law_line", 12)]) (g := gName 12) (tt := tYes) rfl sc__law_step.nd (pi_list (pv 7)) (blkOk_by (N := N__law_step) (sc := defScope s__law_step) (by decide +kernel)) (fun _ _ _ _ _ => pg_name (i := 12) sc__law_step.nd rfl (Or.inl rfl)) (fun _ _ _ _ _ => pts_nil) (fun _ _ _ _ _ => (pe_callB call_len_str (by rfl) T.b_len (by decide +kernel) (pa_cons (pv 12) pa_nil)))) pa_nil)) pe_int (nomark _))))))
(pss_cons (ps_set (i := 8) sc__law_step.nd rfl (Or.inl rfl) (pe_cal C__law_grown pass0 hr (by decide) rfl (pa_cons (pv 0) pa_nil)))
(pss_one (ps_ret (pe_and (pe_cmpR op_eq (pe_met0 (pv 0) T.cl M_m_age pass0 hr (by decide)) (pe_op op_sub (pe_callB call_len_seq (by rfl) T.b_len (by decide +kernel) (pa_cons (pv 7) pa_nil)) (pe_callTy call_int1 (by rfl) T.b_int (by decide +kernel) (pa_cons (pe_not (pv 8)) pa_nil))) (nomark _)) (pe_one (pe_cmpR (op_eqD hr.units) (pe_cal C__law_lines pass0 hr (by decide) rfl (pa_cons (pv 0) (pa_cons (pe_op op_sub (pe_callB call_len_seq (by rfl) T.b_len (by decide +kernel) (pa_cons (pv 7) pa_nil)) pe_int) pa_nil))) (pv 7) (nomark _)))))))
pss_nil)
(pss_cons (ps_set (i := 9) sc__law_step.nd rfl (Or.inl rfl) (pe_cal C__law_deed pass0 hr (by decide) rfl (pa_cons (pv 0) (pa_cons (pv 4) (pa_cons (pv 5) (pa_cons (pv 6) pa_nil))))))
(pss_cons (ps_set (i := 10) sc__law_step.nd rfl (Or.inl rfl) (pe_cal C__law_lines pass0 hr (by decide) rfl (pa_cons (pv 0) (pa_cons (pe_met0 (pv 0) T.cl M_m_age pass0 hr (by decide)) pa_nil))))
(pss_cons (ps_if (pt_cmpR op_isN (pv 9) pe_non (nomark _))
(pss_one (ps_ret (pe_cmpR (op_eqD hr.units) (pv 10) (pv 7) (nomark _))))
pss_nil)
(pss_cons (ps_if (PW.pt (pw_or (pt_not (pt_val (pe_callB call_isi (by rfl) T.b_isinstance (by decide +kernel) (pa_cons (pv 9) (pa_cons (pe_ty (n := "list") (by rfl) T.b_list (by decide +kernel)) pa_nil))))) (pw_or (pt_cmpR op_ne (pe_callB call_len_seq (by rfl) T.b_len (by decide +kernel) (pa_cons (pv 9) pa_nil)) (pe_callB call_len_seq (by rfl) T.b_len (by decide +kernel) (pa_cons (pv 7) pa_nil)) (nomark _)) (pw_or1 (pt_cmpR op_ne (pe_callB call_len_seq (by rfl) T.b_len (by decide +kernel) (pa_cons (pv 10) pa_nil)) (pe_callB call_len_seq (by rfl) T.b_len (by decide +kernel) (pa_cons (pv 7) pa_nil)) (nomark _))))))
(pss_one (ps_ret pe_bl))
pss_nil)
(pss_cons (ps_for PassesOwn.never rfl (pi_range1 rfl T.b_range (pa_cons (pe_callB call_len_seq (by rfl) T.b_len (by decide +kernel) (pa_cons (pv 7) pa_nil)) pa_nil)) (pg_name (i := 11) sc__law_step.nd rfl (Or.inl rfl))
(pss_one (ps_if (pt_not (pt_val (pe_cal C__law_beyond pass0 hr (by decide) rfl (pa_cons (pe_ix ix_list (pv 7) (pv 11) (fun _ _ => rfl)) (pa_cons (pe_ix ix_list (pv 10) (pv 11) (fun _ _ => rfl)) (pa_cons (pe_ix ix_list (pv 9) (pv 11) (fun _ _ => rfl)) pa_nil))))))
(pss_one (ps_ret pe_bl))
pss_nil)))
(pss_one (ps_ret (pe_and (pe_cal C__law_as_told pass0 hr (by decide) rfl (pa_cons (pv 0) (pa_cons (pv 10) (pa_cons (pe_op op_mod (pv 5) (pe_callB call_len_seq (by rfl) T.b_len (by decide +kernel) (pa_cons (pv 7) pa_nil))) pa_nil)))) (pe_one (pe_cal C__law_as_told pass0 hr (by decide) rfl (pa_cons (pv 0) (pa_cons (pv 10) (pa_cons (pe_op op_sub (pe_callB call_len_seq (by rfl) T.b_len (by decide +kernel) (pa_cons (pv 7) pa_nil)) pe_int) pa_nil)))))))))))))))))), ?_⟩
    have hpos : 0 < cs.length := List.length_pos_iff.mpr hne
    have nAge : ∀ (g : Tx) (l : Addr), (hF g r l).lookup ("age" : Str) = none := fun g l => hF_no _ _ _ (by decide +kernel) (by decide +kernel) (by decide +kernel)
    -- the three draws
    refine ⟨_, rfl, pp, 0, 6, rfl, pen0, by omega, by decide, by decide, fun H1 pk pen1 bt1 hpk => ?_⟩
    refine ⟨_, rfl, pp, 1, 156, rfl, pen1, by omega, by decide, by decide, fun H2 pc pen2 bt2 hpc => ?_⟩
    have sm1 := same_but_new smb bt1 npp
    have sm2 := same_but_new sm1 bt2 npp
    refine ⟨_, rfl, _, rfl, _, rfl, q, _, rfl, .inl (SqL.of (sm2 _ _ hqb)), pp, 2, (lets cs).length, rfl, pen2, by omega, by rw [lets_len]; omega, by rw [lets_len]; omega, fun H3 r3 pen3 bt3 hr3 => ?_⟩
    have sm3 := same_but_new sm2 bt3 npp
    have hr3' : r3 < cs.length := by rw [lets_len] at hr3; exact hr3
    refine ⟨q, _, _, _, rfl, rfl, SqL.of (sm3 _ _ hqb), atI_nat (lets_at hr3'), ?_⟩
    have hc : Small cs[r3] := hcs _ (List.getElem_mem hr3')
    generalize cs[r3] = c at hc
    have hH3 := hHb.same sm3
    obtain ⟨⟨dx3, hp3⟩, _, _⟩ := id hH3
    -- the lines
    refine ⟨_, rfl, _, rfl, p, dx3, _, rfl, hp3, nAge _ _, p, l, r, rs, first, n, rfl, hH3, p, l, r, rs, first, n, n, rfl, hH3, Nat.le_refl _, by omega, fun H4 ql sm4 nql hql => ?_⟩
    have sm4b := sm3.trans sm4
    have hH4 := hHb.same sm4b
    obtain ⟨as4, gl4, _, _⟩ := id hH4.gr
    obtain ⟨⟨dx4, hp4⟩, _, _⟩ := id hH4
    obtain ⟨asb, glb, _, _⟩ := id hHb.gr
    obtain ⟨⟨dxb, hpb⟩, _, _⟩ := id hHb
    have nlp : l ≠ p := ne_of glb hpb (by intro z; cases z)
    have nqll : ql ≠ l := (ne_of_none (sm3 _ _ glb) nql).symm
    have nqlp : ql ≠ p := (ne_of_none (sm3 _ _ hpb) nql).symm
    have el := lines_len rs first n
    have hls := linesT_small hrs.sm hsm n
    refine ⟨fun σ' H' => σ' = [some (.ref p), some (.ref pp), some (.ref q), some (.int (most : Int)), some (.int (pk : Int)), some (.int (pc : Int)), some (LG.T [c]), some (.ref ql), none, none, none, none, none] ∧ Same H4 H', ?_, ?_⟩
    · -- grown
      refine ⟨_, rfl, rfl, _, rfl, ite2 (fun e1 => ?_) (fun e1 => if_f rfl ⟨rfl, Same.refl _⟩)⟩
      refine ⟨_, rfl, ql, _, rfl, .inl (SqL.of hql), _, rfl, _, _, rfl, rfl, _, rfl, ite2 (fun e2 => ?_) (fun e2 => if_f rfl ⟨rfl, Same.refl _⟩)⟩
      have hle : n + 1 ≤ most := by
        have := of_decide_eq_true e2
        rw [el] at this
        omega
      refine ⟨_, rfl, ql, rfl, ⟨_, SqL.of hql⟩, fun D nD => lc_list (K := K) (a := ql) (xs := (linesT rs first n).map LG.T) (fun i H' => Same H4 H' ∧ H' D = some (.lst ((((linesT rs first n).take i).map fun t => (t.length : Int)).map V.int))) ⟨same_upd nD, upd_same⟩ (fun i H' _ hp => SqL.of (hp.1 _ _ hql)) ?_ ?_⟩
      · rintro i x H5 hx ⟨sm5, hD⟩
        obtain ⟨t, ht, rfl⟩ := lens_step hx
        have hil : i < n + 1 := by
          have := (List.getElem?_eq_some_iff.mp ht).1
          rw [linesT_len] at this
          exact this
        rw [linesT_at rs first (by omega)] at ht
        have hrow := ok.row hf (show i ≤ n by omega)
        cases ht
        refine ⟨rfl, _, rfl, S (rowT rs first i).1, rfl, line600 (by rw [S_len]; omega), _, hD, ?_, ?_, ?_⟩
        · rw [List.length_map, List.length_map, List.length_take]
          exact Nat.lt_of_le_of_lt (Nat.min_le_left _ _) (small1000 (by omega))
        · intro b o e
          rw [upd_ne (ne_of_none e nD)]
          exact sm5 _ _ e
        · rw [upd_same, List.take_add_one, linesT_at rs first (by omega), List.map_append, List.map_append, S_len]
          rfl
      · rintro H5 ⟨sm5, hD⟩
        refine ⟨D, _, rfl, SqL.of hD, _, _, rfl, rfl, _, rfl, ite2 (fun e3 => ?_) (fun e3 => ⟨rfl, sm5⟩)⟩
        have hH5 := hH4.same sm5
        have hql5 := sm5 _ _ hql
        have sm5b := sm4b.trans sm5
        -- the answer behind it, for a hedge of n2 ages
        have fin : ∀ (H6 : Hp) (g : Bool) (n2 : Nat), HedgeAt C H6 p l r rs first n2 → H6 ql = some (.lst ((linesT rs first n).map LG.T)) → n ≤ n2 → n2 ≤ 7 → ((n2 : Int) = (n : Int) + 1 - (if (!g) = true then 1 else 0)) → okTo rs first n2 → (∀ b o, Hb b = some o → b ≠ p → b ≠ l → H6 b = some o) →
            tRet (tAndV (tOp rEq (tMeth C "age" (sp_age C) [] E0 (tVar 0) tNil) (tOp (rI0 fun i j => .int (i - j)) (tCB (rLenQ K) (tCons (tVar 7) tNil)) (tCB (fun xs H Q => (∃ i, xs = [.int i] ∧ Q (.int i) H) ∨ ∃ k, xs = [.bl k] ∧ Q (.int (if k then 1 else 0)) H) (tCons (tNotV (tVar 8)) tNil))))
              (tOp (rEqD K) (tCall (sp_lines C) [] E0 (tCons (tVar 0) (tCons (tOp (rI0 fun i j => .int (i - j)) (tCB (rLenQ K) (tCons (tVar 7) tNil)) (tC (.int 1))) tNil))) (tVar 7)))
              { nx := fun _ H' => Q .non H', rt := Q } [some (.ref p), some (.ref pp), some (.ref q), some (.int (most : Int)), some (.int (pk : Int)), some (.int (pc : Int)), some (LG.T [c]), some (.ref ql), some (.bl g), none, none, none, none] H6 := by
          intro H6 g n2 hH6 hq6 hn2 hn27 hg ok2 fr
          obtain ⟨⟨dx6, hp6⟩, _, _⟩ := id hH6
          refine ⟨_, rfl, p, dx6, _, rfl, hp6, nAge _ _, p, l, r, rs, first, n2, rfl, hH6, _, rfl, ql, _, rfl, .inl (SqL.of hq6), _, rfl, g, rfl, .inr ⟨_, rfl, _, _, rfl, rfl, rfl, true, ?_, if_t rfl ?_⟩⟩
          · rw [el]
            exact congrArg V.bl (decide_eq_true (congrArg V.int (by omega)))
          · refine ⟨_, rfl, _, rfl, ql, _, rfl, .inl (SqL.of hq6), _, _, rfl, rfl, p, l, r, rs, first, n2, n, congrArg (fun z => [V.ref p, V.int z]) (by rw [el]; omega), hH6, hn2, by omega, fun H7 q7 sm7 nq7 hq7 => ?_⟩
            refine ⟨_, rfl, eq_texts hq7 (sm7 _ _ hq6) hls ?_⟩
            exact kk H7 l first n2 (hH6.same sm7) (fun b o e h1 h2 => sm7 _ _ (fr b o e h1 h2)) (.inl rfl) ok2 hf hsm hn27
        refine ⟨_, rfl, p, l, r, rs, first, n, rfl, hH5, by omega, ok, hf, hrs, fun H6 sm6 => ?_, fun ok2 H6 hH6 bt6 => ?_⟩
        · exact fin H6 false n (hH5.same sm6) (sm6 _ _ hql5) (Nat.le_refl _) hn (by simp) ok fun b o e _ _ => sm6 _ _ (sm5b _ _ e)
        · exact fin H6 true (n + 1) hH6 (bt6 _ _ hql5 nqll) (by omega) (by omega) (by simp) ok2 fun b o e _ h2 => bt6 _ _ (sm5b _ _ e) h2
    · rintro σ' H5 ⟨rfl, sm5⟩
      have hH5 := hH4.same sm5
      have hql5 := sm5 _ _ hql
      have sm5b := sm4b.trans sm5
      have sm5n : ∀ x, H5 x = none → Hb x = none := fun x e => sm5b.free e
      refine ⟨_, rfl, _, rfl, _, rfl, _, rfl, p, l, r, rs, first, n, pk, pc, c, rfl, hH5, hrs, hf, hsm, by omega, hc, fun H6 sm6 => ?_, fun H6 l6 q6 f2 sp hH6 bt6 nl6 nlp6 ok6 hf6 hs6 hS6 hA6 => ?_⟩
      · -- refused: every row as ahead
        have hH6 := hH5.same sm6
        obtain ⟨⟨dx6, hp6⟩, _, _⟩ := id hH6
        refine ⟨_, rfl, _, rfl, p, dx6, _, rfl, hp6, nAge _ _, p, l, r, rs, first, n, rfl, hH6, p, l, r, rs, first, n, n, rfl, hH6, Nat.le_refl _, by omega, fun H7 qf sm7 nqf hqf => ?_⟩
        refine ⟨_, rfl, rfl, true, congrArg V.bl (decide_eq_true rfl), if_t rfl ⟨_, rfl, _, rfl, eq_texts hqf (sm7 _ _ (sm6 _ _ hql5)) hls ?_⟩⟩
        exact kk H7 l first n (hH6.same sm7) (fun b o e _ _ => sm7 _ _ (sm6 _ _ (sm5b _ _ e))) (.inl rfl) ok hf hsm hn
      · -- done
        obtain ⟨⟨dx6, hp6⟩, _, _⟩ := id hH6
        refine ⟨_, rfl, _, rfl, p, dx6, _, rfl, hp6, nAge _ _, p, l6, r, rs, f2, n, rfl, hH6, p, l6, r, rs, f2, n, n, rfl, hH6, Nat.le_refl _, by omega, fun H7 qf sm7 nqf hqf => ?_⟩
        refine ⟨_, rfl, rfl, false, congrArg V.bl (decide_eq_false (fun z => nomatch z)), if_f rfl ?_⟩
        have hH7 := hH6.same sm7
        have hql7 := sm7 _ _ (bt6 _ _ hql5 nqlp)
        obtain ⟨as, s1, s2, s3⟩ := hS6.same sm7
        have el2 := lines_len rs f2 n
        refine ⟨_, rfl, .ref q6, .ty "list", .type "list", .type "list", true, rfl, .ty _, .base (.lst s1), kit_ty (by decide +kernel), true, rfl, if_f rfl ?_⟩
        refine ⟨_, rfl, q6, _, rfl, .inl (SqL.of s1), _, rfl, ql, _, rfl, .inl (SqL.of hql7), rfl, _, rfl, if_f (ne_ints (by rw [el, s2])) ?_⟩
        refine ⟨_, rfl, qf, _, rfl, .inl (SqL.of hqf), _, rfl, ql, _, rfl, .inl (SqL.of hql7), rfl, _, rfl, if_f (ne_ints (by rw [el, el2])) ?_⟩
        refine ⟨_, rfl, ql, _, rfl, .inl (SqL.of hql7), ((n + 1 : Nat) : Int), congrArg (fun z => [V.int z]) (by rw [el]), by omega, by omega, for_range (lo := 0) (n := ((n + 1 : Nat) : Int).toNat) (fun i σ H' => H7 = H' ∧ ∃ x y, σ = [some (.ref p), some (.ref pp), some (.ref q), some (.int (most : Int)), some (.int (pk : Int)), some (.int (pc : Int)), some (LG.T [c]), some (.ref ql), none, some (.ref q6), some (.ref qf), x, y]) ⟨rfl, none, none, rfl⟩ ?_ ?_⟩
        · rintro i σ H' hi ⟨rfl, x, y, rfl⟩
          have hin : i ≤ n := by omega
          obtain ⟨a, s4, s5⟩ := s3 i (by omega)
          have z0 : (0 : Int) + (i : Int) = (i : Int) := Int.zero_add _
          refine ⟨_, rfl, _, rfl, ql, _, _, _, rfl, rfl, SqL.of hql7, (by rw [z0]; exact atI_nat (linesV_at rs first hin)), _, rfl, _, rfl, qf, _, _, _, rfl, rfl, SqL.of hqf, (by rw [z0]; exact atI_nat (linesV_at rs f2 hin)), _, rfl, _, rfl, q6, _, _, _, rfl, rfl, SqL.of s1, (by rw [z0]; exact atI_nat s4), a, (rowT rs first i).1, (rowT rs f2 i).1, (sp i).1, (sp i).2, rfl, s5, hA6 i, ok.row hf hin, ok6.row hf6 hin, true, rfl, if_f rfl ?_⟩
          exact ⟨rfl, _, _, rfl⟩
        · rintro σ H' ⟨rfl, x, y, rfl⟩
          have hk : pc % (n + 1) ≤ n := by
            have := Nat.mod_lt pc (show 0 < n + 1 by omega)
            omega
          refine ⟨_, rfl, _, rfl, _, rfl, _, rfl, ql, _, rfl, .inl (SqL.of hql7), _, _, rfl, rfl, by rw [el]; omega, p, l6, r, qf, rs, f2, n, pc % (n + 1), congrArg (fun z => [V.ref p, V.ref qf, V.int z]) (by rw [el]; rfl), hH7, hrs, hf6, by omega, ok6, hk, hqf, fun H8 sm8 => ⟨true, rfl, if_t rfl ?_⟩⟩
          refine ⟨_, rfl, _, rfl, _, rfl, ql, _, rfl, .inl (SqL.of (sm8 _ _ hql7)), _, _, rfl, rfl, p, l6, r, qf, rs, f2, n, n, congrArg (fun z => [V.ref p, V.ref qf, V.int z]) (by rw [el]; omega), hH7.same sm8, hrs, hf6, by omega, ok6, Nat.le_refl _, sm8 _ _ hqf, fun H9 sm9 => ?_⟩
          exact kk H9 l6 f2 n ((hH7.same sm8).same sm9) (fun b o e h1 _ => sm9 _ _ (sm8 _ _ (sm7 _ _ (bt6 _ _ (sm5b _ _ e) h1)))) (.inr (sm5n _ nl6)) ok6 hf6 hs6 hn
end
end LG

/-! law. -/
namespace LG
open PySem PySem.Spec PyProof.Rows L2 SX
theorem xq_str : (("xq" : Str)) = S [120, 113] := by decide +kernel
/-- the letters that the law draws from -/
def allL (first : Tx) (rs : List Rl) : Tx := [120, 113] ++ first ++ (rs.map fun R => R.me ++ R.wd).flatten
theorem flat_le (rs : List Rl) (h : ∀ R ∈ rs, R.wd.length ≤ 6) (h2 : ∀ R ∈ rs, Smalls R.me ∧ R.me.length ≤ 6) : (rs.map fun R => R.me ++ R.wd).flatten.length ≤ 12 * rs.length := by
  induction rs with
  | nil => exact Nat.le_refl _
  | cons R rs ih =>
    have h3 := ih (fun S hS => h S (List.mem_cons_of_mem _ hS)) (fun S hS => h2 S (List.mem_cons_of_mem _ hS))
    have h4 := h R List.mem_cons_self
    have h5 := (h2 R List.mem_cons_self).2
    show ((R.me ++ R.wd) ++ (rs.map fun R => R.me ++ R.wd).flatten).length ≤ 12 * (rs.length + 1)
    rw [List.length_append, List.length_append]
    omega
theorem allL_small {first : Tx} {rs : List Rl} (h1 : Smalls first) (h2 : RsOk rs) : Smalls (allL first rs) := by
  refine smalls_app (smalls_app (fun c hc => ?_) h1) fun c hc => ?_
  · have e : c = 120 ∨ c = 113 := by simpa using hc
    rcases e with rfl | rfl
    · exact ⟨by decide, by decide⟩
    · exact ⟨by decide, by decide⟩
  · obtain ⟨l, hl, hcl⟩ := List.mem_flatten.mp hc
    obtain ⟨R, hR, rfl⟩ := List.mem_map.mp hl
    rcases List.mem_append.mp hcl with hm | hm
    · exact (h2.me R hR).1 c hm
    · exact h2.sm R hR c hm
theorem allL_len {first : Tx} {rs : List Rl} (h1 : first.length ≤ 12) (h2 : RsOk rs) : (allL first rs).length ≤ 1000 := by
  have h3 := flat_le rs h2.le h2.me
  have h4 := h2.few
  unfold allL
  rw [List.length_append, List.length_append]
  show 2 + first.length + _ ≤ 1000
  omega
section
variable {P : Program} {w : World} {K : PySem.W.Frag} {mg : Str → Option Value} {base : Heap} {CT C : Addr}
/-- sum of the lines' lengths: the comprehension's turns -/
theorem lens_lc {rs : List Rl} {first : Tx} {n i : Nat} {ql D : Addr} {H4 : Hp} {σ : L2.St} {Qd : Hp → Prop} (ok : okTo rs first n) (hf : first.length ≤ 12) (hn : n ≤ 40) (hi : ∀ x : V, ((wipe σ [i]).set i (some x))[i]? = some (some x)) (hw : ∀ x : V, wipe ((wipe σ [i]).set i (some x)) [i] = wipe σ [i])
    (hql : H4 ql = some (.lst ((linesT rs first n).map T))) (nD : H4 D = none) (hd : ∀ H', Same H4 H' → H' D = some (.lst ((((linesT rs first n)).map fun t => (t.length : Int)).map V.int)) → Qd H') :
    ∃ W : Nat → Nat → Hp → Prop, (∃ m, W 0 m (upd H4 D (.lst []))) ∧ ∀ j m H, W j m H →
      ((Itl K ql).stop j H ∧ Qd H) ∨ ((Itl K ql).go j H ∧ ∃ Nx : Hp → Prop, (∀ H', Nx H' → ∃ m', m' < m ∧ W (j + 1) m' H') ∧ ∀ x H', (Itl K ql).yld j H x H' → gName i x (wipe σ [i]) H' fun σ2 H2 => wipe σ2 [i] = wipe σ [i] ∧ tYes σ2 H2 fun b H3 =>
        if b = true then tCB (fun xs H Q => ∃ z : Str, xs = [.str z] ∧ z.length ≤ sizeLine ∧ Q (.int z.length) H) (tCons (tVar i) tNil) σ2 H3 fun y H4 => ∃ acc, H4 D = some (.lst acc) ∧ acc.length < sizeLine ∧ Nx (upd H4 D (.lst (acc ++ [y]))) else Nx H3) := by
  refine lc_list (K := K) (a := ql) (xs := (linesT rs first n).map LG.T) (fun i H' => Same H4 H' ∧ H' D = some (.lst ((((linesT rs first n).take i).map fun t => (t.length : Int)).map V.int))) ⟨same_upd nD, upd_same⟩ (fun i H' _ hp => SqL.of (hp.1 _ _ hql)) ?_ ?_
  · rintro j x H5 hx ⟨sm5, hD⟩
    obtain ⟨t, ht, rfl⟩ := lens_step hx
    have hil : j < n + 1 := by
      have := (List.getElem?_eq_some_iff.mp ht).1
      rw [linesT_len] at this
      exact this
    rw [linesT_at rs first (by omega)] at ht
    have hrow := ok.row hf (show j ≤ n by omega)
    cases ht
    refine ⟨hw _, _, hi _, S (rowT rs first j).1, rfl, line600 (by rw [S_len]; omega), _, hD, ?_, ?_, ?_⟩
    · rw [List.length_map, List.length_map, List.length_take]
      exact Nat.lt_of_le_of_lt (Nat.min_le_left _ _) (small1000 (by omega))
    · intro b o e
      rw [upd_ne (ne_of_none e nD)]
      exact sm5 _ _ e
    · rw [upd_same, List.take_add_one, linesT_at rs first (by omega), List.map_append, List.map_append, S_len]
      rfl
  · rintro H5 ⟨sm5, hD⟩
    rw [List.length_map, List.take_length] at hD
    exact hd H5 sm5 hD
def sp_law (K : PySem.W.Frag) : Sp := fun vs H Q _ => ∃ (a : Addr) (ns : List Int), vs = [.ref a] ∧ SqL K H a (ns.map V.int) ∧ ns.length ≤ 63 ∧ ∀ H', Q (.bl true) H'
theorem ok_law (T : Txt K mg CT C) (C__law_pen : Cal P w K mg base CX0 1 "_law_pen" ["_law_script", "_law_k"] (sp_pen K)) (C__law_wide : Cal P w K mg base CX0 3 "_law_wide" ["_law_pen_here"] sp_wide) (C__law_take : Cal P w K mg base CX0 1 "_law_take" ["_law_pen_here", "_law_size"] sp_take)
    (C__law_single : Cal P w K mg base CX0 1 "_law_single" ["_law_rules"] sp_single) (hMk : ∃ f fd, Mk K C f ∧ FnOk P w K mg base CX0 6 f fd ["self", "wide"] (sp_init C) ∧ Binds K fd ["self", "wide"] []) (M_m_age : Met P w K mg base CX0 1 C "age" ["self"] (sp_age C))
    (C__law_lines : Cal P w K mg base CX0 4 "_law_lines" ["_law_hedge", "_law_most"] (sp_lines C)) (C__law_grown : Cal P w K mg base CX0 6 "_law_grown" ["_law_hedge"] (sp_grown C))
    (C__law_step : Cal P w K mg base CX0 9 "_law_step" ["_law_hedge", "_law_pen_here", "_law_signs_here", "_law_most"] (sp_step C)) {f : Addr} {fd : FuncData} (F : Fun K "law" "law" s_law f fd) : FnOk P w K mg base CX0 10 f fd ["_law_script"] (sp_law K) := by
  obtain ⟨fI, fdI, M_Hedge, F_Hedge, b_Hedge⟩ := hMk
  refine F.ok sc_law (fun vs H Q E h => ?_) (fun cdv A outer s H vs Q E hr h => ?_)
  · obtain ⟨a, ns, rfl, _⟩ := h
    rfl
  · obtain ⟨a, ns, rfl, hS, hlen, kk⟩ := h
    refine ⟨_, (pss_cons (ps_set (i := 1) sc_law.nd rfl (Or.inl rfl) (pe_cal C__law_wide pass0 hr (by decide) rfl (pa_cons (pe_cal C__law_pen pass0 hr (by decide) rfl (pa_cons (pv 0) (pa_cons pe_int pa_nil))) pa_nil)))
(pss_cons (ps_set (i := 2) sc_law.nd rfl (Or.inl rfl) (pe_cal C__law_pen pass0 hr (by decide) rfl (pa_cons (pv 0) (pa_cons pe_int pa_nil))))
(pss_cons (ps_set (i := 3) sc_law.nd rfl (Or.inl rfl) (pe_op op_add pe_int (pe_cal C__law_take pass0 hr (by decide) rfl (pa_cons (pv 2) (pa_cons pe_int pa_nil)))))
(pss_cons (ps_set (i := 4) sc_law.nd rfl (Or.inl rfl) (pe_op op_add pe_int (pe_cal C__law_take pass0 hr (by decide) rfl (pa_cons (pv 2) (pa_cons pe_int pa_nil)))))
(C8.pss_cut (ps_if (pt_val (pe_cal C__law_single pass0 hr (by decide) rfl (pa_cons (pe_ix ix_tup (pv 1) pe_int (fun _ _ => rfl)) pa_nil)))
(pss_one (ps_set (i := 3) sc_law.nd rfl (Or.inl rfl) (pe_op op_add (pv 3) (pe_callB call_len_seq (by rfl) T.b_len (by decide +kernel) (pa_cons (pe_slice sl_list (pv 0) po_none (po_some pe_int)) pa_nil)))))
pss_nil)
(pss_cons (ps_setLc (i := 5) (own := [("_law_sign", 10)]) (g := gName 10) (tt := tYes) rfl sc_law.nd rfl rfl (sw_true rfl rfl rfl (by decide +kernel)) (pi_str (pe_op op_add_str (pe_op op_add_str pe_str (pe_ix ix_tup (pv 1) pe_int (fun _ _ => rfl))) (pe_join pe_str (pe_lc (te := tOp rAddS (tOp (rIxT K) (tVar 9) (tC (.int 1))) (tOp (rIxT K) (tVar 9) (tC (.int 3)))) (own := [("_law_rule", 9)]) (g := gName 9) (tt := tYes) rfl sc_law.nd (pi_tup (pe_ix ix_tup (pv 1) pe_int (fun _ _ => rfl))) (blkOk_by (N := N_law) (sc := defScope s_law) (by decide +kernel)) (fun _ _ _ _ _ => pg_name (i := 9) sc_law.nd rfl (Or.inl rfl)) (fun _ _ _ _ _ => pts_nil) (fun _ _ _ _ _ => (pe_op op_add_str (pe_ix ix_tup (pv 9) pe_int (fun _ _ => rfl)) (pe_ix ix_tup (pv 9) pe_int (fun _ _ => rfl)))))))) (blkOk_by (N := N_law) (sc := defScope s_law) (by decide +kernel)) (fun _ _ _ _ _ => pg_name (i := 10) sc_law.nd rfl (Or.inl rfl)) (fun _ _ _ _ _ => pts_nil) (fun _ _ _ _ _ => (pv 10)))
(pss_cons (ps_set (i := 6) sc_law.nd rfl (Or.inl rfl) (pe_make M_Hedge F_Hedge (hr.mono (by decide)) rfl T.g_Hedge b_Hedge .nil pass0 (pa_cons (pv 1) pa_nil)))
(pss_cons (ps_for PassesOwn.never rfl (pi_range1 rfl T.b_range (pa_cons (pv 4) pa_nil)) (pg_name (i := 7) sc_law.nd rfl (Or.inl rfl))
(pss_one (ps_if (PW.pt (pw_and (pt_cmpR op_eq (pe_met0 (pv 6) T.cl M_m_age pass0 hr (by decide)) (pv 7) (nomark _)) (pw_and1 (pt_cmpR op_lt (pe_callB (cr_sum rfl) (by rfl) T.b_sum (by decide +kernel) (pa_cons (pe_lc (own := [("_law_line", 11)]) (g := gName 11) (tt := tYes) rfl sc_law.nd (pi_list (pe_cal C__law_lines pass0 hr (by decide) rfl (pa_cons (pv 6) (pa_cons (pv 7) pa_nil)))) (blkOk_by (N := N_law) (sc := defScope s_law) (by decide +kernel)) (fun _ _ _ _ _ => pg_name (i := 11) sc_law.nd rfl (Or.inl rfl)) (fun _ _ _ _ _ => pts_nil) (fun _ _ _ _ _ => (pe_callB call_len_str (by rfl) T.b_len (by decide +kernel) (pa_cons (pv 11) pa_nil)))) pa_nil)) pe_int (nomark _)))))
(pss_one (ps_expr (pe_cal C__law_grown pass0 hr (by decide) rfl (pa_cons (pv 6) pa_nil))))
pss_nil)))
(pss_cons (ps_set (i := 8) sc_law.nd rfl (Or.inl rfl) pe_int)
(pss_cons (ps_for PassesOwn.never rfl (pi_range1 rfl T.b_range (pa_cons (pv 3) pa_nil)) (pg_name (i := 7) sc_law.nd rfl (Or.inl rfl))
(pss_cons (ps_set (i := 8) sc_law.nd rfl (Or.inl rfl) (pe_op op_add (pe_op op_add (pv 8) pe_int) (pe_callB (cr_sum rfl) (by rfl) T.b_sum (by decide +kernel) (pa_cons (pe_lc (own := [("_law_line", 11)]) (g := gName 11) (tt := tYes) rfl sc_law.nd (pi_list (pe_cal C__law_lines pass0 hr (by decide) rfl (pa_cons (pv 6) (pa_cons (pe_met0 (pv 6) T.cl M_m_age pass0 hr (by decide)) pa_nil)))) (blkOk_by (N := N_law) (sc := defScope s_law) (by decide +kernel)) (fun _ _ _ _ _ => pg_name (i := 11) sc_law.nd rfl (Or.inl rfl)) (fun _ _ _ _ _ => pts_nil) (fun _ _ _ _ _ => (pe_callB call_len_str (by rfl) T.b_len (by decide +kernel) (pa_cons (pv 11) pa_nil)))) pa_nil))))
(pss_cons (ps_if (pt_cmpR op_gt (pv 8) pe_int (nomark _))
(pss_one ps_break)
pss_nil)
(pss_one (ps_if (pt_not (pt_val (pe_cal C__law_step pass0 hr (by decide) rfl (pa_cons (pv 6) (pa_cons (pe_cal C__law_pen pass0 hr (by decide) rfl (pa_cons (pv 0) (pa_cons (pe_op op_add (pv 7) pe_int) pa_nil))) (pa_cons (pv 5) (pa_cons (pv 4) pa_nil)))))))
(pss_one (ps_ret pe_bl))
pss_nil)))))
(pss_one (ps_ret pe_bl)))))))))))), ?_⟩
    -- the wide book
    refine ⟨_, rfl, a, ns, 0, rfl, hS, by omega, fun H1 p1 sm1 np1 pen1 => ⟨p1, rfl, pen1, fun H2 b r first rs hW bt2 hrs hf hsm => ?_⟩⟩
    have sm2 := same_but_new sm1 bt2 np1
    -- the pen, many, most
    refine ⟨_, rfl, a, ns, 1, rfl, sm2.seq hS, by omega, fun H3 p2 sm3 np2 pen3 => ?_⟩
    refine ⟨_, rfl, p2, 0, 4, rfl, pen3, by omega, by decide, by decide, fun H4 k4 pen4 bt4 hk4 => ⟨_, _, rfl, rfl, ?_⟩⟩
    refine ⟨_, rfl, p2, 1, 7, rfl, pen4, by omega, by decide, by decide, fun H5 k5 pen5 bt5 hk5 => ⟨_, _, rfl, rfl, ?_⟩⟩
    have sm25 := same_but_new (same_but_new sm3 bt4 np2) bt5 np2
    have hW5 := hW.same sm25
    have hS5 := (sm2.trans sm25).seq hS
    refine ⟨fun σ' H' => (∃ M : Int, 0 ≤ M ∧ M ≤ 100 ∧ σ' = [some (.ref a), some (.ref b), some (.ref p2), some (.int M), some (.int ((1 + k5 : Nat) : Int)), none, none, none, none, none, none, none]) ∧ Same H5 H', ?_, ?_⟩
    · refine ⟨_, rfl, b, _, 1, _, rfl, rfl, SqT.of hW5.1, atI_nat (j := 1) rfl, r, rs, rfl, hW5.2, hrs.le, fun bb => ⟨bb, rfl, ?_⟩⟩
      cases bb with
      | false => exact if_f rfl ⟨⟨3 + (k4 : Int), by omega, by omega, rfl⟩, Same.refl _⟩
      | true =>
        refine if_t rfl ⟨_, rfl, _, rfl, 24, rfl, a, _, rfl, hS5, fun c nc => ⟨c, _, rfl, .inl (SqL.of upd_same), _, _, rfl, rfl, ⟨⟨_, ?_, ?_, rfl⟩, same_upd nc⟩⟩⟩
        · have := Int.natCast_nonneg (cutV (ns.map V.int) none (some 24)).length
          show 0 ≤ 3 + (k4 : Int) + _
          omega
        · have e : (cutV (ns.map V.int) none (some 24)).length ≤ 24 := by
            have e1 : cutV (ns.map V.int) none (some 24) = (ns.take 24).map V.int := cutV_ints ns 24
            rw [e1, List.length_map, List.length_take]
            omega
          show 3 + (k4 : Int) + (((cutV (ns.map V.int) none (some 24)).length : Nat) : Int) ≤ 100
          omega
    rintro σ' H6 ⟨⟨M, hM0, hM1, rfl⟩, sm6⟩
    have hW6 := hW5.same sm6
    have hS6 := sm6.seq hS5
    obtain ⟨hB6, as, g1, g2, g3⟩ := id hW6
    -- the letters
    have b1 : (S [120, 113]).length + (S first).length ≤ sizeLine := line600 (by rw [S_len, S_len]; show 2 + first.length ≤ _; omega)
    refine ⟨_, rfl, b, _, 0, _, rfl, rfl, SqT.of hB6, atI_nat (j := 0) rfl, _, _, rfl, rfl, (by rw [xq_str]; exact b1), ⟨_, rfl⟩, _, rfl, b, _, 1, _, rfl, rfl, SqT.of hB6, atI_nat (j := 1) rfl, r, rfl, ⟨_, SqT.of g1⟩, fun D nD => ?_⟩
    refine lc_tup (K := K) (a := r) (xs := as) (fun i H' => Same H6 H' ∧ H' D = some (.lst (((rs.take i).map fun R => R.me ++ R.wd).map LG.T))) ⟨same_upd nD, upd_same⟩ (fun i H' _ hp => SqT.of (hp.1 _ _ g1)) ?_ ?_
    · rintro i x H7 hx ⟨sm7, hD⟩
      have hi : i < rs.length := by
        rw [← g2]
        exact (List.getElem?_eq_some_iff.mp hx).1
      obtain ⟨ra, g4, g5⟩ := g3 i rs[i] (List.getElem?_eq_getElem hi)
      rw [g4] at hx
      cases hx
      have w6 := hrs.le _ (List.getElem_mem hi)
      have m6 := (hrs.me _ (List.getElem_mem hi)).2
      refine ⟨rfl, _, rfl, ra, _, 1, _, rfl, rfl, SqT.of (sm7 _ _ g5), atI_nat (j := 1) rfl, _, rfl, ra, _, 3, _, rfl, rfl, SqT.of (sm7 _ _ g5), atI_nat (j := 3) rfl, _, _, rfl, rfl, line600 (by rw [S_len, S_len]; omega), _, hD, ?_, ?_, ?_⟩
      · rw [List.length_map, List.length_map, List.length_take]
        have := hrs.few
        exact Nat.lt_of_le_of_lt (Nat.min_le_right _ _) (small1000 (by omega))
      · intro c o e
        rw [upd_ne (ne_of_none e nD)]
        exact sm7 _ _ e
      · rw [upd_same, S_cat, List.take_add_one, List.getElem?_eq_getElem hi, List.map_append, List.map_append]
        rfl
    rintro H7 ⟨sm7, hD⟩
    rw [g2, List.take_length] at hD
    refine ⟨_, D, (rs.map fun R => R.me ++ R.wd).map S, rfl, rfl, .inl (SqL.of (by rw [map_T]; exact hD)), ?_, ?_⟩
    · rw [join_size _ _ (by rw [nil_str]; rfl)]
      have := flat_le rs hrs.le hrs.me
      have := hrs.few
      omega
    rw [nil_str, join_flat, xq_str]
    refine ⟨_, _, rfl, rfl, ?_, ?_⟩
    · have h1 := flat_le rs hrs.le hrs.me
      have h2 := hrs.few
      rw [S_cat, S_len, S_len, List.length_append]
      exact line600 (by show 2 + first.length + _ ≤ _; omega)
    rw [cat3]
    refine ⟨_, rfl, fun D2 nD2 => ?_⟩
    have hall : (S ([120, 113] ++ first ++ (rs.map fun R => R.me ++ R.wd).flatten)).cps.size = (allL first rs).length := by
      show (allL first rs).toArray.size = _
      rw [List.size_toArray]
    have hcl := allL_len hf hrs
    have hcs := allL_small hsm hrs
    refine lc_it walk_str (fun i H' => Same H7 H' ∧ H' D2 = some (.lst (lets ((allL first rs).take i)))) ⟨same_upd nD2, upd_same⟩ (fun _ _ _ _ => trivial) ?_ ?_
    · rintro i x H8 H9 hi ⟨sm8, hD2⟩ ⟨rfl, c, hc, rfl⟩
      rw [hall] at hi
      have hc2 : (allL first rs)[i]? = some c := by
        have hc3 : (allL first rs).toArray[i]? = some c := hc
        simpa using hc3
      refine ⟨rfl, _, rfl, _, hD2, ?_, ?_, ?_⟩
      · rw [lets_len, List.length_take]
        exact Nat.lt_of_le_of_lt (Nat.min_le_left _ _) (small1000 (by omega))
      · intro d o e
        rw [upd_ne (ne_of_none e nD2)]
        exact sm8 _ _ e
      · rw [upd_same, List.take_add_one, hc2]
        exact congrArg _ (congrArg _ (lets_snoc _ c))
    rintro H8 ⟨sm8, hD2⟩
    rw [hall, List.take_length] at hD2
    generalize hcsE : allL first rs = cs at hD2 hcl hcs
    have hcne : cs ≠ [] := by
      rw [← hcsE]
      unfold allL
      simp
    have sm68 := sm7.trans sm8
    -- the hedge
    refine ⟨_, rfl, fun x dx nx nd ne => ⟨x, b, r, dx, first, rs, rfl, upd_same, ?_, hrs.few, hrs.le, hf, fun H9 l hH9 bt9 nl9 nlx => ⟨rfl, ?_⟩⟩⟩
    · exact (hW6.same sm68).same ((same_upd nd).trans (same_upd (by rw [upd_ne ne.symm]; exact nx)))
    have smx : Same H8 (upd (upd H8 dx (.own x)) x (.ins C dx [])) := (same_upd nd).trans (same_upd (by rw [upd_ne ne.symm]; exact nx))
    have sm89 : Same H8 H9 := fun c o e => bt9 _ _ (smx _ _ e) (ne_of_none e nx)
    have nl8 : H8 l = none := smx.free nl9
    have hS8 := sm68.seq hS6
    have nAge : ∀ (g : Tx) (l : Addr), (hF g r l).lookup ("age" : Str) = none := fun g l => hF_no _ _ _ (by decide +kernel) (by decide +kernel) (by decide +kernel)
    -- it grows
    refine ⟨_, rfl, ((1 + k5 : Nat) : Int), rfl, by omega, by omega, for_range (lo := 0) (n := ((1 + k5 : Nat) : Int).toNat) (fun i σ H' => Same H8 H' ∧ ∃ (l : Addr) (n : Nat), HedgeAt C H' x l r rs first n ∧ H8 l = none ∧ okTo rs first n ∧ n ≤ i ∧ ∃ y, σ = [some (.ref a), some (.ref b), some (.ref p2), some (.int M), some (.int ((1 + k5 : Nat) : Int)), some (.ref D2), some (.ref x), y, none, none, none, none])
      ⟨sm89, l, 0, hH9, nl8, okTo_zero _ _, Nat.le_refl _, none, rfl⟩ ?_ ?_⟩
    · rintro i σ H10 hi ⟨sm10, l, n, hH, nl, ok, hni, y, rfl⟩
      have hi7 : i < 7 := by omega
      obtain ⟨⟨dx2, hp⟩, _, _⟩ := id hH
      refine ⟨_, rfl, x, dx2, _, rfl, hp, nAge _ _, x, l, r, rs, first, n, rfl, hH, _, rfl, rfl, _, rfl, ite2 (fun e1 => ?_) (fun e1 => if_f rfl ⟨sm10, l, n, hH, nl, ok, by omega, _, rfl⟩)⟩
      have e2 : (n : Int) = 0 + (i : Int) := V.int.inj (of_decide_eq_true e1)
      have hin : i = n := by omega
      subst hin
      refine ⟨_, rfl, _, rfl, x, l, r, rs, first, i, i, congrArg (fun z => [V.ref x, V.int z]) (by omega), hH, Nat.le_refl _, by omega, fun H11 q11 sm11 nq11 hq11 => ⟨q11, rfl, ⟨_, SqL.of hq11⟩, fun D3 nD3 => ?_⟩⟩
      refine lens_lc (K := K) ok hf (by omega) (fun _ => rfl) (fun _ => rfl) hq11 nD3 fun H12 sm12 hD3 => ?_
      have sm1012 := sm11.trans sm12
      have hH12 := hH.same sm1012
      refine ⟨D3, _, rfl, SqL.of hD3, _, _, rfl, rfl, _, rfl, ite2 (fun e3 => ?_) (fun e3 => ⟨sm10.trans sm1012, l, i, hH12, nl, ok, by omega, _, rfl⟩)⟩
      refine ⟨_, rfl, x, l, r, rs, first, i, rfl, hH12, by omega, ok, hf, hrs, fun H13 sm13 => ?_, fun ok2 H13 hH13 bt13 => ?_⟩
      · exact ⟨(sm10.trans sm1012).trans sm13, l, i, hH12.same sm13, nl, ok, by omega, _, rfl⟩
      · exact ⟨same_but_new (sm10.trans sm1012) bt13 nl, l, i + 1, hH13, nl, ok2, by omega, _, rfl⟩
    rintro σ H10 ⟨sm10, l2, n, hH, nl2, ok, hni, y, rfl⟩
    have hn7 : n ≤ 7 := by omega
    -- the deeds
    refine ⟨_, rfl, M, rfl, by omega, by omega, for_range (lo := 0) (n := M.toNat) (fun i σ H' => Same H8 H' ∧ ∃ (l : Addr) (f2 : Tx) (n : Nat), HedgeAt C H' x l r rs f2 n ∧ H8 l = none ∧ okTo rs f2 n ∧ f2.length ≤ 12 ∧ Smalls f2 ∧ n ≤ 7 ∧ ∃ y w, σ = [some (.ref a), some (.ref b), some (.ref p2), some (.int M), some (.int ((1 + k5 : Nat) : Int)), some (.ref D2), some (.ref x), y, some (.int w), none, none, none])
      ⟨sm10, l2, first, n, hH, nl2, ok, hf, hsm, hn7, _, _, rfl⟩ ?_ ?_⟩
    · rintro i σ H11 hi ⟨sm11, l3, f2, n2, hH2, nl3, ok2, hf2, hsm2, hn2, y2, w2, rfl⟩
      have hi100 : i < 100 := by omega
      obtain ⟨⟨dx2, hp⟩, _, _⟩ := id hH2
      refine ⟨_, rfl, _, _, rfl, rfl, _, rfl, _, rfl, x, dx2, _, rfl, hp, nAge _ _, x, l3, r, rs, f2, n2, rfl, hH2, x, l3, r, rs, f2, n2, n2, rfl, hH2, Nat.le_refl _, by omega, fun H12 q12 sm12 nq12 hq12 => ⟨q12, rfl, ⟨_, SqL.of hq12⟩, fun D3 nD3 => ?_⟩⟩
      refine lens_lc (K := K) ok2 hf2 (by omega) (fun _ => rfl) (fun _ => rfl) hq12 nD3 fun H13 sm13 hD3 => ?_
      have sm1113 := sm12.trans sm13
      have sm813 := sm11.trans sm1113
      refine ⟨D3, _, rfl, SqL.of hD3, _, _, rfl, rfl, ?_⟩
      refine ⟨_, rfl, _, _, rfl, rfl, _, rfl, ite2 (fun e1 => ?_) (fun e1 => ?_)⟩
      · exact kk H13
      · have hH13 := hH2.same sm1113
        refine ⟨_, rfl, _, rfl, _, rfl, _, _, rfl, rfl, a, ns, i + 2, congrArg (fun z => [V.ref a, V.int z]) (by omega), sm813.seq hS8, by omega, fun H14 p3 sm14 np3 pen14 => ?_⟩
        refine ⟨_, rfl, _, rfl, x, l3, r, p3, D2, rs, f2, cs, n2, 1 + k5, H13, rfl, hH13, sm813 _ _ hD2, np3, sm14, pen14, hcne, hcl, hcs, hrs, hf2, hsm2, hn2, by omega, ok2, fun H15 l4 f3 n3 hH15 fr hl4 ok3 hf3 hsm3 hn3 => ⟨true, rfl, if_f rfl ?_⟩⟩
        refine ⟨fun c o e => fr _ _ (sm813 _ _ e) (ne_of_none e nx) (ne_of_none e nl3), l4, f3, n3, hH15, ?_, ok3, hf3, hsm3, hn3, _, _, rfl⟩
        rcases hl4 with rfl | hl4
        · exact nl3
        · exact sm813.free hl4
    · rintro σ H11 _
      exact kk H11
end
end LG

/-! All promises put together. -/
namespace LG
open PySem PySem.Spec PyProof.Rows L2 SX

section
variable {P : Program} {w : World} {K : PySem.W.Frag} {mg : Str → Option Value} {base : Heap} {CT C : Addr}

/-- the text as it stands behind the top -/
structure All (K : PySem.W.Frag) (mg : Str → Option Value) (CT C : Addr) : Prop where
  txt : Txt K mg CT C
  made : ∃ fI : Addr, Mk K C fI
  h_is_whole : Here K mg "is_whole" s_is_whole ["thing"]
  h_is_letter : Here K mg "is_letter" s_is_letter ["thing"]
  h_meets : Here K mg "meets" s_meets ["told", "side"]
  h_rule_for : Here K mg "rule_for" s_rule_for ["rules", "left", "letter", "right"]
  h_words_at : Here K mg "words_at" s_words_at ["rules", "text"]
  h_one_age_on : Here K mg "one_age_on" s_one_age_on ["rules", "text", "places"]
  h_grown_rows : Here K mg "grown_rows" s_grown_rows ["wide", "age"]
  h_need_wide_age : Here K mg "need_wide_age" s_need_wide_age ["age", "most"]
  h_wide_row : Here K mg "wide_row" s_wide_row ["wide", "age"]
  h_starts : Here K mg "starts" s_starts ["wide", "age"]
  h_need_place : Here K mg "need_place" s_need_place ["place", "most"]
  h_need_sign : Here K mg "need_sign" s_need_sign ["letter"]
  h_span : Here K mg "span" s_span ["text", "places", "place", "low", "high"]
  h__law_pen : Here K mg "_law_pen" s__law_pen ["_law_script", "_law_k"]
  h__law_take : Here K mg "_law_take" s__law_take ["_law_pen_here", "_law_size"]
  h__law_signs : Here K mg "_law_signs" s__law_signs ["_law_pen_here", "_law_many"]
  h__law_text : Here K mg "_law_text" s__law_text ["_law_pen_here", "_law_signs_here", "_law_many"]
  h__law_side : Here K mg "_law_side" s__law_side ["_law_pen_here", "_law_signs_here"]
  h__law_wide : Here K mg "_law_wide" s__law_wide ["_law_pen_here"]
  h__law_single : Here K mg "_law_single" s__law_single ["_law_rules"]
  h__law_lines : Here K mg "_law_lines" s__law_lines ["_law_hedge", "_law_most"]
  h__law_beyond : Here K mg "_law_beyond" s__law_beyond ["_law_elder", "_law_line", "_law_told"]
  h__law_deed : Here K mg "_law_deed" s__law_deed ["_law_hedge", "_law_pick", "_law_place", "_law_sign"]
  h__law_grown : Here K mg "_law_grown" s__law_grown ["_law_hedge"]
  h__law_as_told : Here K mg "_law_as_told" s__law_as_told ["_law_hedge", "_law_lines_here", "_law_n"]
  h__law_step : Here K mg "_law_step" s__law_step ["_law_hedge", "_law_pen_here", "_law_signs_here", "_law_most"]
  m___init__ : MHere K C "__init__" "Hedge.__init__" s___init__ ["self", "wide"]
  m_age : MHere K C "age" "Hedge.age" s_age ["self"]
  m_grow : MHere K C "grow" "Hedge.grow" s_grow ["self"]
  m_row : MHere K C "row" "Hedge.row" s_row ["self", "age"]
  m_starts : MHere K C "starts" "Hedge.starts" s_m_starts ["self", "age"]
  m_laid : MHere K C "laid" "Hedge.laid" s_laid ["self", "first", "place", "less"]
  m_exchange : MHere K C "exchange" "Hedge.exchange" s_exchange ["self", "place", "letter"]
  m_put_in : MHere K C "put_in" "Hedge.put_in" s_put_in ["self", "place", "letter"]
  m_take_out : MHere K C "take_out" "Hedge.take_out" s_take_out ["self", "place"]
  m_now : MHere K C "now" "Hedge.now" s_now ["self"]
theorem all_ok (A : All K mg CT C) {f : Addr} {fd : FuncData} (F : Fun K "law" "law" s_law f fd) : FnOk P w K mg base CX0 10 f fd ["_law_script"] (sp_law K) := by
  have T := A.txt
  have C_is_whole := (ok_is_whole T A.h_is_whole : Cal P w K mg base _ _ _ _ _)
  have C_is_letter := (ok_is_letter T A.h_is_letter : Cal P w K mg base _ _ _ _ _)
  have C_meets := (ok_meets A.h_meets : Cal P w K mg base _ _ _ _ _)
  have C_rule_for := (ok_rule_for T C_meets A.h_rule_for : Cal P w K mg base _ _ _ _ _)
  have C_words_at := (ok_words_at T C_rule_for A.h_words_at : Cal P w K mg base _ _ _ _ _)
  have C_one_age_on := (ok_one_age_on T C_words_at A.h_one_age_on : Cal P w K mg base _ _ _ _ _)
  have C_grown_rows := (ok_grown_rows T C_one_age_on A.h_grown_rows : Cal P w K mg base _ _ _ _ _)
  have C_need_wide_age := (ok_need_wide_age C_is_whole A.h_need_wide_age : Cal P w K mg base _ _ _ _ _)
  have C_wide_row := (ok_wide_row T C_need_wide_age C_grown_rows A.h_wide_row : Cal P w K mg base _ _ _ _ _)
  have C_starts := (ok_starts T C_need_wide_age C_grown_rows A.h_starts : Cal P w K mg base _ _ _ _ _)
  have C_need_place := (ok_need_place C_is_whole A.h_need_place : Cal P w K mg base _ _ _ _ _)
  have C_need_sign := (ok_need_sign C_is_letter A.h_need_sign : Cal P w K mg base _ _ _ _ _)
  have C_span := (ok_span T A.h_span : Cal P w K mg base _ _ _ _ _)
  have C__law_pen := (ok_pen T A.h__law_pen : Cal P w K mg base _ _ _ _ _)
  have C__law_take := (ok_take A.h__law_take : Cal P w K mg base _ _ _ _ _)
  have C__law_signs := (ok_signs T C__law_take A.h__law_signs : Cal P w K mg base _ _ _ _ _)
  have C__law_text := (ok_text T C__law_take A.h__law_text : Cal P w K mg base _ _ _ _ _)
  have C__law_side := (ok_side T C__law_take A.h__law_side : Cal P w K mg base _ _ _ _ _)
  have C__law_wide := (ok_wide T C__law_take C__law_signs C__law_text C__law_side A.h__law_wide : Cal P w K mg base _ _ _ _ _)
  have C__law_single := (ok_single T A.h__law_single : Cal P w K mg base _ _ _ _ _)
  have M_m___init__ := (ok_init T C_grown_rows A.m___init__ : Met P w K mg base _ _ _ _ _ _)
  have M_m_age := (ok_age T A.m_age : Met P w K mg base _ _ _ _ _ _)
  have M_m_grow := (ok_grow T M_m_age C_one_age_on A.m_grow : Met P w K mg base _ _ _ _ _ _)
  have M_m_row := (ok_row T C_need_wide_age M_m_age A.m_row : Met P w K mg base _ _ _ _ _ _)
  have M_m_starts := (ok_m_starts T C_need_wide_age M_m_age A.m_starts : Met P w K mg base _ _ _ _ _ _)
  have M_m_laid := (ok_laid T C_grown_rows M_m_age C_span A.m_laid : Met P w K mg base _ _ _ _ _ _)
  have M_m_exchange := (ok_exchange T C_need_place C_need_sign M_m_laid A.m_exchange : Met P w K mg base _ _ _ _ _ _)
  have M_m_put_in := (ok_put_in T C_need_place C_need_sign M_m_laid A.m_put_in : Met P w K mg base _ _ _ _ _ _)
  have M_m_take_out := (ok_take_out T C_need_place M_m_laid A.m_take_out : Met P w K mg base _ _ _ _ _ _)
  have M_m_now := (ok_now T A.m_now : Met P w K mg base _ _ _ _ _ _)
  have C__law_lines := (ok_lines T M_m_row A.h__law_lines : Cal P w K mg base _ _ _ _ _)
  have C__law_beyond := (ok_beyond T A.h__law_beyond : Cal P w K mg base _ _ _ _ _)
  have C__law_deed := (ok_deed T M_m_now M_m_take_out M_m_put_in M_m_exchange A.h__law_deed : Cal P w K mg base _ _ _ _ _)
  have C__law_grown := (ok_grown T M_m_grow A.h__law_grown : Cal P w K mg base _ _ _ _ _)
  have C__law_as_told := (ok_as_told T M_m_now M_m_starts C_wide_row C_starts A.h__law_as_told : Cal P w K mg base _ _ _ _ _)
  have C__law_step := (ok_step T C__law_take C__law_lines M_m_age C__law_grown C__law_deed C__law_beyond C__law_as_told A.h__law_step : Cal P w K mg base _ _ _ _ _)
  obtain ⟨fI, mI⟩ := A.made
  obtain ⟨f1, fd1, F1, me1, b1⟩ := M_m___init__.ex
  have e : f1 = fI := by
    have h1 := mI.init
    have h2 := me1.at_
    rw [h2] at h1
    exact Value.ref.inj (Option.some.inj (Option.some.inj h1))
  subst e
  exact ok_law T C__law_pen C__law_wide C__law_take C__law_single ⟨f1, fd1, mI, F1, b1⟩ M_m_age C__law_lines C__law_grown C__law_step F
end
/-- a def's facts -/
theorem here_mk {K : PySem.W.Frag} {h : Heap} {mg : Str → Option Value} (X : K.In h) (G : h.Ns mainGlobals mg) {x : Str} {st : Stmt} {ps : List Str} {f : Addr} {oc : Value} {od an : Option Addr} {osl : Array (Option Value)} {kV doc pm cdv ct : Value}
    (a : PySem.W.nsIn K mainGlobals x = some (some (.ref f))) (l : K.lookup f = some ⟨oc, od, .func (PySem.W.fnOf x x (defArgs st) (defBody st) (defScope st) .none kV doc pm an cdv ct), osl⟩) (c : PySem.W.codeIn K cdv x = true) (k : PySem.W.keepIn K (.ref f) = true)
    (b : ∀ (kV doc pm : Value) (an : Option Addr) (cdv ct : Value) (us : List Value), us.length = ps.length → bindArgs (PySem.W.fnOf x x (defArgs st) (defBody st) (defScope st) .none kV doc pm an cdv ct) ⟨us, []⟩ = pure (ps.zip us)) : Here K mg x st ps :=
  ⟨f, _, fun_mk l c k, PySem.W.mg_of X G a, (fun_mk l c k).binds b⟩
theorem mhere_mk {K : PySem.W.Frag} {C : Addr} {m qual : Str} {st : Stmt} {ps : List Str} {f : Addr} {oc : Value} {od an : Option Addr} {osl : Array (Option Value)} {kV doc pm cdv ct : Value}
    (a : PySem.W.findIn K (.ref C) m = some (some (.ref f))) (i : PySem.W.isFn K (.ref f) = true) (l : K.lookup f = some ⟨oc, od, .func (PySem.W.fnOf m qual (defArgs st) (defBody st) (defScope st) .none kV doc pm an cdv ct), osl⟩) (c : PySem.W.codeIn K cdv qual = true) (k : PySem.W.keepIn K (.ref f) = true)
    (b : ∀ (kV doc pm : Value) (an : Option Addr) (cdv ct : Value) (us : List Value), us.length = ps.length → bindArgs (PySem.W.fnOf m qual (defArgs st) (defBody st) (defScope st) .none kV doc pm an cdv ct) ⟨us, []⟩ = pure (ps.zip us)) : MHere K C m qual st ps :=
  ⟨f, _, fun_mk l c k, ⟨a, i, k⟩, (fun_mk l c k).binds b⟩
/-- an error of the class at S is what «except S» names -/
theorem exm_own {K : PySem.W.Frag} {S : Addr} (h1 : PySem.W.subIn K (.ref S) (.type "BaseException") = some true) (h2 : PySem.W.isClsIn K S = true) (h3 : PySem.W.typeIn K (.ref S) = some (.type "type")) (h4 : PySem.W.subIn K (.ref S) (.ref S) = some true) :
    PySem.W.exmOne K (.ref S) (.ref S) = some true := by
  have e1 : (PySem.W.subIn K (.ref S) (.type "BaseException") == some true) = true := by rw [h1] <;> rfl
  have e2 : ((PySem.W.clsIn K S).isSome && PySem.W.typeIn K (.ref S) == some (.type "type")) = true := by
    have h5 : (PySem.W.clsIn K S).isSome = true := h2
    rw [h5, h3] <;> rfl
  show (if (PySem.W.subIn K (.ref S) (.type "BaseException") == some true) = true then (if ((PySem.W.clsIn K S).isSome && PySem.W.typeIn K (.ref S) == some (.type "type")) = true then PySem.W.subIn K (.ref S) (.ref S) else none) else none) = some true
  rw [if_pos e1, if_pos e2]
  exact h4
theorem signs_str : (("abcdefghijklmnopqrstuvwxyz" : Str)) = S signsL := abc_str
theorem law_walk {l : PySem.W.OpenLaw} {q : Program} {loose : List Str} {XP : (Str → Option Value) → Heap → Prop} {YP : World → Heap → Prop} {d : DefRec} {K : Params → PySem.W.Frag} (hn : l.most = some 63) (hdf : d.params.defaults = []) (hY : ∀ (w : World) (h : Heap), YP w h → (K w.params).In h)
    (F : ∀ (w : World) (mg : Str → Option Value) (fa : Addr) (h : Heap), (K w.params).In h → h.Ns mainGlobals mg → mg d.name = some (.ref fa) → ∃ (CT C : Addr) (fd : FuncData), All (K w.params) mg CT C ∧ Fun (K w.params) "law" "law" s_law fa fd ∧ ∀ (s : Shared) (u : Value), BindsTo s fd ⟨[u], []⟩ [("_law_script", u)]) :
    PySem.W.WalkO q loose XP YP l.row.toRowW d [] (fun f vs => PySem.call f vs) :=
  L2.walk_of (n := 63) (k := 10) (x := "_law_script") (CX := fun _ => CX0) (sp := fun w => sp_law (K w.params)) hn (by decide) hdf ⟨rfl, by decide, by decide⟩ hY (fun w mg fa h KX G hmg => by
    obtain ⟨CT, C, fd, A, Fl, b⟩ := F w mg fa h KX G hmg
    exact ⟨fd, b, fun base _ _ => all_ok A Fl⟩) (fun _ _ a ns hl _ hS => ⟨a, ns, rfl, hS, hl, fun _ => rfl⟩) fun _ _ _ _ _ z => z
/-- the end: what the top has written, fact by fact -/
theorem fin_mk {K : PySem.W.Frag} {h : Heap} {mg : Str → Option Value} {fa fL CT C fI : Addr} {t_SIGNS t_NOBODY t_MOST_ROW t_MOST_FIRST t_LAST_AGE : Tok} {oc : Value} {od an : Option Addr} {osl : Array (Option Value)} {kV doc pm cdv ct : Value} (X : K.In h) (G : h.Ns mainGlobals mg) (hmg : mg "law" = some (.ref fa))
    (aT : PySem.W.nsIn K mainGlobals "TooLong" = some (some (.ref CT)))
    (aC : PySem.W.nsIn K mainGlobals "Hedge" = some (some (.ref C)))
    (xT : PySem.W.excIn K CT [.type "ValueError", .type "Exception", .type "BaseException", .type "object"] "ValueError.__new__" = true)
    (kT : PySem.W.keepIn K (.ref CT) = true)
    (bT : PySem.W.subIn K (.ref CT) (.type "BaseException") = some true)
    (tT : PySem.W.typeIn K (.ref CT) = some (.type "type"))
    (iT : PySem.W.isClsIn K CT = true)
    (sT : PySem.W.subIn K (.ref CT) (.ref CT) = some true)
    (pg : PySem.W.plainGet K C Str.empty = true)
    (hd : PySem.W.hasDictIn K C = true)
    (po : PySem.W.plainOver K C = true)
    (sa : PySem.W.findIn K (.ref C) "__setattr__" = some (some (.builtin "object.__setattr__")))
    (mk : PySem.W.makesIn K C = true)
    (kc : PySem.W.keepIn K (.ref C) = true)
    (nF : PySem.W.findIn K (.ref C) "first_row" = some none)
    (nR : PySem.W.findIn K (.ref C) "rule_row" = some none)
    (nG : PySem.W.findIn K (.ref C) "grown" = some none)
    (iI : PySem.W.findIn K (.ref C) "__init__" = some (some (.ref fI)))
    (nI : PySem.W.isFn K (.ref fI) = true)
    (g_SIGNS : PySem.W.nsIn K mainGlobals "SIGNS" = some (some (.str "abcdefghijklmnopqrstuvwxyz" t_SIGNS)))
    (g_NOBODY : PySem.W.nsIn K mainGlobals "NOBODY" = some (some (.str "." t_NOBODY)))
    (g_MOST_ROW : PySem.W.nsIn K mainGlobals "MOST_ROW" = some (some (.int 600 t_MOST_ROW)))
    (g_MOST_FIRST : PySem.W.nsIn K mainGlobals "MOST_FIRST" = some (some (.int 12 t_MOST_FIRST)))
    (g_LAST_AGE : PySem.W.nsIn K mainGlobals "LAST_AGE" = some (some (.int 40 t_LAST_AGE)))
    (b_len : PySem.W.nsIn K mainGlobals "len" = some none)
    (b_isinstance : PySem.W.nsIn K mainGlobals "isinstance" = some none)
    (b_max : PySem.W.nsIn K mainGlobals "max" = some none)
    (b_min : PySem.W.nsIn K mainGlobals "min" = some none)
    (b_sum : PySem.W.nsIn K mainGlobals "sum" = some none)
    (b_int : PySem.W.nsIn K mainGlobals "int" = some none)
    (b_bool : PySem.W.nsIn K mainGlobals "bool" = some none)
    (b_str : PySem.W.nsIn K mainGlobals "str" = some none)
    (b_list : PySem.W.nsIn K mainGlobals "list" = some none)
    (b_tuple : PySem.W.nsIn K mainGlobals "tuple" = some none)
    (b_range : PySem.W.nsIn K mainGlobals "range" = some none)
    (b_enumerate : PySem.W.nsIn K mainGlobals "enumerate" = some none)
    (h_is_whole : Here K mg "is_whole" s_is_whole ["thing"])
    (h_is_letter : Here K mg "is_letter" s_is_letter ["thing"])
    (h_meets : Here K mg "meets" s_meets ["told", "side"])
    (h_rule_for : Here K mg "rule_for" s_rule_for ["rules", "left", "letter", "right"])
    (h_words_at : Here K mg "words_at" s_words_at ["rules", "text"])
    (h_one_age_on : Here K mg "one_age_on" s_one_age_on ["rules", "text", "places"])
    (h_grown_rows : Here K mg "grown_rows" s_grown_rows ["wide", "age"])
    (h_need_wide_age : Here K mg "need_wide_age" s_need_wide_age ["age", "most"])
    (h_wide_row : Here K mg "wide_row" s_wide_row ["wide", "age"])
    (h_starts : Here K mg "starts" s_starts ["wide", "age"])
    (h_need_place : Here K mg "need_place" s_need_place ["place", "most"])
    (h_need_sign : Here K mg "need_sign" s_need_sign ["letter"])
    (h_span : Here K mg "span" s_span ["text", "places", "place", "low", "high"])
    (h__law_pen : Here K mg "_law_pen" s__law_pen ["_law_script", "_law_k"])
    (h__law_take : Here K mg "_law_take" s__law_take ["_law_pen_here", "_law_size"])
    (h__law_signs : Here K mg "_law_signs" s__law_signs ["_law_pen_here", "_law_many"])
    (h__law_text : Here K mg "_law_text" s__law_text ["_law_pen_here", "_law_signs_here", "_law_many"])
    (h__law_side : Here K mg "_law_side" s__law_side ["_law_pen_here", "_law_signs_here"])
    (h__law_wide : Here K mg "_law_wide" s__law_wide ["_law_pen_here"])
    (h__law_single : Here K mg "_law_single" s__law_single ["_law_rules"])
    (h__law_lines : Here K mg "_law_lines" s__law_lines ["_law_hedge", "_law_most"])
    (h__law_beyond : Here K mg "_law_beyond" s__law_beyond ["_law_elder", "_law_line", "_law_told"])
    (h__law_deed : Here K mg "_law_deed" s__law_deed ["_law_hedge", "_law_pick", "_law_place", "_law_sign"])
    (h__law_grown : Here K mg "_law_grown" s__law_grown ["_law_hedge"])
    (h__law_as_told : Here K mg "_law_as_told" s__law_as_told ["_law_hedge", "_law_lines_here", "_law_n"])
    (h__law_step : Here K mg "_law_step" s__law_step ["_law_hedge", "_law_pen_here", "_law_signs_here", "_law_most"])
    (m___init__ : MHere K C "__init__" "Hedge.__init__" s___init__ ["self", "wide"])
    (m_age : MHere K C "age" "Hedge.age" s_age ["self"])
    (m_grow : MHere K C "grow" "Hedge.grow" s_grow ["self"])
    (m_row : MHere K C "row" "Hedge.row" s_row ["self", "age"])
    (m_starts : MHere K C "starts" "Hedge.starts" s_m_starts ["self", "age"])
    (m_laid : MHere K C "laid" "Hedge.laid" s_laid ["self", "first", "place", "less"])
    (m_exchange : MHere K C "exchange" "Hedge.exchange" s_exchange ["self", "place", "letter"])
    (m_put_in : MHere K C "put_in" "Hedge.put_in" s_put_in ["self", "place", "letter"])
    (m_take_out : MHere K C "take_out" "Hedge.take_out" s_take_out ["self", "place"])
    (m_now : MHere K C "now" "Hedge.now" s_now ["self"])
    (aL : PySem.W.nsIn K mainGlobals "law" = some (some (.ref fL)))
    (lL : K.lookup fL = some ⟨oc, od, .func (PySem.W.fnOf "law" "law" (defArgs s_law) (defBody s_law) (defScope s_law) .none kV doc pm an cdv ct), osl⟩)
    (cL : PySem.W.codeIn K cdv "law" = true)
    (kL : PySem.W.keepIn K (.ref fL) = true) :
    ∃ (CT C : Addr) (fd : FuncData), All K mg CT C ∧ Fun K "law" "law" s_law fa fd ∧ ∀ (s : Shared) (u : Value), BindsTo s fd ⟨[u], []⟩ [("_law_script", u)] := by
  have e := hmg.symm.trans (PySem.W.mg_of X G aL)
  cases e
  have T : Txt K mg CT C := { b_len := PySem.W.mg_none_of X G b_len, b_isinstance := PySem.W.mg_none_of X G b_isinstance, b_max := PySem.W.mg_none_of X G b_max, b_min := PySem.W.mg_none_of X G b_min, b_sum := PySem.W.mg_none_of X G b_sum, b_int := PySem.W.mg_none_of X G b_int, b_bool := PySem.W.mg_none_of X G b_bool, b_str := PySem.W.mg_none_of X G b_str, b_list := PySem.W.mg_none_of X G b_list, b_tuple := PySem.W.mg_none_of X G b_tuple, b_range := PySem.W.mg_none_of X G b_range, b_enumerate := PySem.W.mg_none_of X G b_enumerate, g_SIGNS := ⟨t_SIGNS, by rw [← abc_str]; exact PySem.W.mg_of X G g_SIGNS⟩, g_NOBODY := ⟨t_NOBODY, by rw [← dot_str]; exact PySem.W.mg_of X G g_NOBODY⟩, g_MOST_ROW := ⟨_, PySem.W.mg_of X G g_MOST_ROW⟩, g_MOST_FIRST := ⟨_, PySem.W.mg_of X G g_MOST_FIRST⟩, g_LAST_AGE := ⟨_, PySem.W.mg_of X G g_LAST_AGE⟩, gT := PySem.W.mg_of X G aT, xT := xT, kT := kT, bT := bT, tT := tT, eT := exm_own bT iT tT sT, g_Hedge := PySem.W.mg_of X G aC, cl := ⟨pg, hd, po, sa⟩, nF := nF, nR := nR, nG := nG }
  exact ⟨CT, C, _, { txt := T, made := ⟨fI, mk, iI, nI, kc⟩, h_is_whole := h_is_whole, h_is_letter := h_is_letter, h_meets := h_meets, h_rule_for := h_rule_for, h_words_at := h_words_at, h_one_age_on := h_one_age_on, h_grown_rows := h_grown_rows, h_need_wide_age := h_need_wide_age, h_wide_row := h_wide_row, h_starts := h_starts, h_need_place := h_need_place, h_need_sign := h_need_sign, h_span := h_span, h__law_pen := h__law_pen, h__law_take := h__law_take, h__law_signs := h__law_signs, h__law_text := h__law_text, h__law_side := h__law_side, h__law_wide := h__law_wide, h__law_single := h__law_single, h__law_lines := h__law_lines, h__law_beyond := h__law_beyond, h__law_deed := h__law_deed, h__law_grown := h__law_grown, h__law_as_told := h__law_as_told, h__law_step := h__law_step, m___init__ := m___init__, m_age := m_age, m_grow := m_grow, m_row := m_row, m_starts := m_starts, m_laid := m_laid, m_exchange := m_exchange, m_put_in := m_put_in, m_take_out := m_take_out, m_now := m_now }, fun_mk lL cL kL, fun s u => .of_eq rfl⟩
end LG

open PySem PySem.W PyProof.Rows in
set_option maxRecDepth 100000 in
set_option maxHeartbeats 0 in
theorem PySem.Challenge.cw_linegrow_k84_whole_kept_beyond_the_stret_holds : PySem.Challenge.rw_linegrow_k84_whole_kept_beyond_the_stret.Holds := by
  w_on; o_law; k_head; (case hw => w_witness2)
  k_fill
  refine LG.law_walk (l := PySem.Challenge.rw_linegrow_k84_whole_kept_beyond_the_stret) rfl rfl (fun w h Y => PySem.W.kIn_of Y) ?F
  case F =>
    intro w mg fa h KX G hmg
    refine' LG.fin_mk KX G hmg ?aT ?aC ?xT ?kT ?bT ?tT ?iT ?sT ?pg ?hd ?po ?sa ?mk ?kc ?nF ?nR ?nG ?iI ?nI ?g_SIGNS ?g_NOBODY ?g_MOST_ROW ?g_MOST_FIRST ?g_LAST_AGE ?b_len ?b_isinstance ?b_max ?b_min ?b_sum ?b_int ?b_bool ?b_str ?b_list ?b_tuple ?b_range ?b_enumerate ?h_is_whole ?h_is_letter ?h_meets ?h_rule_for ?h_words_at ?h_one_age_on ?h_grown_rows ?h_need_wide_age ?h_wide_row ?h_starts ?h_need_place ?h_need_sign ?h_span ?h__law_pen ?h__law_take ?h__law_signs ?h__law_text ?h__law_side ?h__law_wide ?h__law_single ?h__law_lines ?h__law_beyond ?h__law_deed ?h__law_grown ?h__law_as_told ?h__law_step ?m___init__ ?m_age ?m_grow ?m_row ?m_starts ?m_laid ?m_exchange ?m_put_in ?m_take_out ?m_now ?aL ?lL ?cL ?kL
    (case aT => k_is)
    (case aC => k_is)
    (case xT => k_exc)
    (case kT => k_is)
    (case bT => k_is)
    (case tT => k_is)
    (case iT => k_is)
    (case sT => (first | rfl | k_is))
    (case pg => k_is)
    (case hd => k_is)
    (case po => k_is)
    (case sa => k_is)
    (case mk => k_is)
    (case kc => k_is)
    (case nF => k_is)
    (case nR => k_is)
    (case nG => k_is)
    (case iI => k_is)
    (case nI => k_is)
    (case g_SIGNS => k_is)
    (case g_NOBODY => k_is)
    (case g_MOST_ROW => k_is)
    (case g_MOST_FIRST => k_is)
    (case g_LAST_AGE => k_is)
    (case b_len => k_is)
    (case b_isinstance => k_is)
    (case b_max => k_is)
    (case b_min => k_is)
    (case b_sum => k_is)
    (case b_int => k_is)
    (case b_bool => k_is)
    (case b_str => k_is)
    (case b_list => k_is)
    (case b_tuple => k_is)
    (case b_range => k_is)
    (case b_enumerate => k_is)
    (case h_is_whole => (refine' LG.here_mk KX G ?a ?l ?c ?k ?b; (case a => k_is); (case l => k_is); (case c => k_is); (case k => k_is); (case b => exact fun _ _ _ _ _ _ us hl => match us, hl with | [_], _ => rfl)))
    (case h_is_letter => (refine' LG.here_mk KX G ?a ?l ?c ?k ?b; (case a => k_is); (case l => k_is); (case c => k_is); (case k => k_is); (case b => exact fun _ _ _ _ _ _ us hl => match us, hl with | [_], _ => rfl)))
    (case h_meets => (refine' LG.here_mk KX G ?a ?l ?c ?k ?b; (case a => k_is); (case l => k_is); (case c => k_is); (case k => k_is); (case b => exact fun _ _ _ _ _ _ us hl => match us, hl with | [_, _], _ => rfl)))
    (case h_rule_for => (refine' LG.here_mk KX G ?a ?l ?c ?k ?b; (case a => k_is); (case l => k_is); (case c => k_is); (case k => k_is); (case b => exact fun _ _ _ _ _ _ us hl => match us, hl with | [_, _, _, _], _ => rfl)))
    (case h_words_at => (refine' LG.here_mk KX G ?a ?l ?c ?k ?b; (case a => k_is); (case l => k_is); (case c => k_is); (case k => k_is); (case b => exact fun _ _ _ _ _ _ us hl => match us, hl with | [_, _], _ => rfl)))
    (case h_one_age_on => (refine' LG.here_mk KX G ?a ?l ?c ?k ?b; (case a => k_is); (case l => k_is); (case c => k_is); (case k => k_is); (case b => exact fun _ _ _ _ _ _ us hl => match us, hl with | [_, _, _], _ => rfl)))
    (case h_grown_rows => (refine' LG.here_mk KX G ?a ?l ?c ?k ?b; (case a => k_is); (case l => k_is); (case c => k_is); (case k => k_is); (case b => exact fun _ _ _ _ _ _ us hl => match us, hl with | [_, _], _ => rfl)))
    (case h_need_wide_age => (refine' LG.here_mk KX G ?a ?l ?c ?k ?b; (case a => k_is); (case l => k_is); (case c => k_is); (case k => k_is); (case b => exact fun _ _ _ _ _ _ us hl => match us, hl with | [_, _], _ => rfl)))
    (case h_wide_row => (refine' LG.here_mk KX G ?a ?l ?c ?k ?b; (case a => k_is); (case l => k_is); (case c => k_is); (case k => k_is); (case b => exact fun _ _ _ _ _ _ us hl => match us, hl with | [_, _], _ => rfl)))
    (case h_starts => (refine' LG.here_mk KX G ?a ?l ?c ?k ?b; (case a => k_is); (case l => k_is); (case c => k_is); (case k => k_is); (case b => exact fun _ _ _ _ _ _ us hl => match us, hl with | [_, _], _ => rfl)))
    (case h_need_place => (refine' LG.here_mk KX G ?a ?l ?c ?k ?b; (case a => k_is); (case l => k_is); (case c => k_is); (case k => k_is); (case b => exact fun _ _ _ _ _ _ us hl => match us, hl with | [_, _], _ => rfl)))
    (case h_need_sign => (refine' LG.here_mk KX G ?a ?l ?c ?k ?b; (case a => k_is); (case l => k_is); (case c => k_is); (case k => k_is); (case b => exact fun _ _ _ _ _ _ us hl => match us, hl with | [_], _ => rfl)))
    (case h_span => (refine' LG.here_mk KX G ?a ?l ?c ?k ?b; (case a => k_is); (case l => k_is); (case c => k_is); (case k => k_is); (case b => exact fun _ _ _ _ _ _ us hl => match us, hl with | [_, _, _, _, _], _ => rfl)))
    (case h__law_pen => (refine' LG.here_mk KX G ?a ?l ?c ?k ?b; (case a => k_is); (case l => k_is); (case c => k_is); (case k => k_is); (case b => exact fun _ _ _ _ _ _ us hl => match us, hl with | [_, _], _ => rfl)))
    (case h__law_take => (refine' LG.here_mk KX G ?a ?l ?c ?k ?b; (case a => k_is); (case l => k_is); (case c => k_is); (case k => k_is); (case b => exact fun _ _ _ _ _ _ us hl => match us, hl with | [_, _], _ => rfl)))
    (case h__law_signs => (refine' LG.here_mk KX G ?a ?l ?c ?k ?b; (case a => k_is); (case l => k_is); (case c => k_is); (case k => k_is); (case b => exact fun _ _ _ _ _ _ us hl => match us, hl with | [_, _], _ => rfl)))
    (case h__law_text => (refine' LG.here_mk KX G ?a ?l ?c ?k ?b; (case a => k_is); (case l => k_is); (case c => k_is); (case k => k_is); (case b => exact fun _ _ _ _ _ _ us hl => match us, hl with | [_, _, _], _ => rfl)))
    (case h__law_side => (refine' LG.here_mk KX G ?a ?l ?c ?k ?b; (case a => k_is); (case l => k_is); (case c => k_is); (case k => k_is); (case b => exact fun _ _ _ _ _ _ us hl => match us, hl with | [_, _], _ => rfl)))
    (case h__law_wide => (refine' LG.here_mk KX G ?a ?l ?c ?k ?b; (case a => k_is); (case l => k_is); (case c => k_is); (case k => k_is); (case b => exact fun _ _ _ _ _ _ us hl => match us, hl with | [_], _ => rfl)))
    (case h__law_single => (refine' LG.here_mk KX G ?a ?l ?c ?k ?b; (case a => k_is); (case l => k_is); (case c => k_is); (case k => k_is); (case b => exact fun _ _ _ _ _ _ us hl => match us, hl with | [_], _ => rfl)))
    (case h__law_lines => (refine' LG.here_mk KX G ?a ?l ?c ?k ?b; (case a => k_is); (case l => k_is); (case c => k_is); (case k => k_is); (case b => exact fun _ _ _ _ _ _ us hl => match us, hl with | [_, _], _ => rfl)))
    (case h__law_beyond => (refine' LG.here_mk KX G ?a ?l ?c ?k ?b; (case a => k_is); (case l => k_is); (case c => k_is); (case k => k_is); (case b => exact fun _ _ _ _ _ _ us hl => match us, hl with | [_, _, _], _ => rfl)))
    (case h__law_deed => (refine' LG.here_mk KX G ?a ?l ?c ?k ?b; (case a => k_is); (case l => k_is); (case c => k_is); (case k => k_is); (case b => exact fun _ _ _ _ _ _ us hl => match us, hl with | [_, _, _, _], _ => rfl)))
    (case h__law_grown => (refine' LG.here_mk KX G ?a ?l ?c ?k ?b; (case a => k_is); (case l => k_is); (case c => k_is); (case k => k_is); (case b => exact fun _ _ _ _ _ _ us hl => match us, hl with | [_], _ => rfl)))
    (case h__law_as_told => (refine' LG.here_mk KX G ?a ?l ?c ?k ?b; (case a => k_is); (case l => k_is); (case c => k_is); (case k => k_is); (case b => exact fun _ _ _ _ _ _ us hl => match us, hl with | [_, _, _], _ => rfl)))
    (case h__law_step => (refine' LG.here_mk KX G ?a ?l ?c ?k ?b; (case a => k_is); (case l => k_is); (case c => k_is); (case k => k_is); (case b => exact fun _ _ _ _ _ _ us hl => match us, hl with | [_, _, _, _], _ => rfl)))
    (case m___init__ => (refine' LG.mhere_mk ?a ?i ?l ?c ?k ?b; (case a => k_is); (case i => k_is); (case l => k_is); (case c => k_is); (case k => k_is); (case b => exact fun _ _ _ _ _ _ us hl => match us, hl with | [_, _], _ => rfl)))
    (case m_age => (refine' LG.mhere_mk ?a ?i ?l ?c ?k ?b; (case a => k_is); (case i => k_is); (case l => k_is); (case c => k_is); (case k => k_is); (case b => exact fun _ _ _ _ _ _ us hl => match us, hl with | [_], _ => rfl)))
    (case m_grow => (refine' LG.mhere_mk ?a ?i ?l ?c ?k ?b; (case a => k_is); (case i => k_is); (case l => k_is); (case c => k_is); (case k => k_is); (case b => exact fun _ _ _ _ _ _ us hl => match us, hl with | [_], _ => rfl)))
    (case m_row => (refine' LG.mhere_mk ?a ?i ?l ?c ?k ?b; (case a => k_is); (case i => k_is); (case l => k_is); (case c => k_is); (case k => k_is); (case b => exact fun _ _ _ _ _ _ us hl => match us, hl with | [_, _], _ => rfl)))
    (case m_starts => (refine' LG.mhere_mk ?a ?i ?l ?c ?k ?b; (case a => k_is); (case i => k_is); (case l => k_is); (case c => k_is); (case k => k_is); (case b => exact fun _ _ _ _ _ _ us hl => match us, hl with | [_, _], _ => rfl)))
    (case m_laid => (refine' LG.mhere_mk ?a ?i ?l ?c ?k ?b; (case a => k_is); (case i => k_is); (case l => k_is); (case c => k_is); (case k => k_is); (case b => exact fun _ _ _ _ _ _ us hl => match us, hl with | [_, _, _, _], _ => rfl)))
    (case m_exchange => (refine' LG.mhere_mk ?a ?i ?l ?c ?k ?b; (case a => k_is); (case i => k_is); (case l => k_is); (case c => k_is); (case k => k_is); (case b => exact fun _ _ _ _ _ _ us hl => match us, hl with | [_, _, _], _ => rfl)))
    (case m_put_in => (refine' LG.mhere_mk ?a ?i ?l ?c ?k ?b; (case a => k_is); (case i => k_is); (case l => k_is); (case c => k_is); (case k => k_is); (case b => exact fun _ _ _ _ _ _ us hl => match us, hl with | [_, _, _], _ => rfl)))
    (case m_take_out => (refine' LG.mhere_mk ?a ?i ?l ?c ?k ?b; (case a => k_is); (case i => k_is); (case l => k_is); (case c => k_is); (case k => k_is); (case b => exact fun _ _ _ _ _ _ us hl => match us, hl with | [_, _], _ => rfl)))
    (case m_now => (refine' LG.mhere_mk ?a ?i ?l ?c ?k ?b; (case a => k_is); (case i => k_is); (case l => k_is); (case c => k_is); (case k => k_is); (case b => exact fun _ _ _ _ _ _ us hl => match us, hl with | [_], _ => rfl)))
    (case aL => k_is)
    (case lL => k_is)
    (case cL => k_is)
    (case kL => k_is)

