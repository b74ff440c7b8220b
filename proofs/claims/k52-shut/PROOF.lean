import PyProof.Rows.All
import Wide.All
import OpenK.AllK
import Wide.FinOn
import HandS.ForMost
import HandS.Walk
import HandS.Conv
import HandS.Deep
import HandS.Wide
import HandS.TupAny
import HandS.TupMul
import KE.KDictKeyed
import KE.KDictDisplayH
import KE.SortData
import KE.KDictSum
import HandS.Evl
import PySem.Challenge.RW_endnever_k52_whole_shut_machines_never_e
set_option Elab.async false
set_option linter.all false
set_option maxRecDepth 100000
set_option maxHeartbeats 4000000
section
set_option autoImplicit false
/-! Plain mathematics: shut sets of little machines. -/
namespace K52

/-! ### lists -/
theorem len_of_sub {α : Type} [DecidableEq α] : ∀ {l U : List α}, l.Nodup → (∀ x ∈ l, x ∈ U) → l.length ≤ U.length
  | [], _, _, _ => Nat.zero_le _
  | x :: r, U, hn, hs => by
    have hx : x ∈ U := hs x (List.mem_cons_self ..)
    obtain ⟨h1, h2⟩ := List.nodup_cons.mp hn
    have h3 : ∀ y ∈ r, y ∈ U.erase x := fun y hy => by
      have hne : y ≠ x := fun e => h1 (e ▸ hy)
      exact (List.mem_erase_of_ne hne).mpr (hs y (List.mem_cons_of_mem _ hy))
    have h4 := len_of_sub h2 h3
    have h5 := List.length_erase_of_mem hx
    have h6 : 0 < U.length := List.length_pos_of_mem hx
    rw [List.length_cons]
    omega
theorem flatMap_len {α β : Type} (f : α → List β) (c : Nat) : ∀ l : List α, (∀ x ∈ l, (f x).length = c) → (l.flatMap f).length = l.length * c
  | [], _ => by simp
  | x :: r, h => by
    rw [List.flatMap_cons, List.length_append, h x (List.mem_cons_self ..), flatMap_len f c r fun y hy => h y (List.mem_cons_of_mem _ hy), List.length_cons, Nat.succ_mul]
    omega

/-! ### words and middles -/
abbrev Wd := List Int
structure Mid where
  l : Wd
  row : Int
  sign : Int
  r : Wd
deriving DecidableEq

def WdOk (S W : Nat) (w : Wd) : Prop := w.length = W ∧ ∀ s ∈ w, 0 ≤ s ∧ s < (S : Int)
structure MidOk (R S W : Nat) (x : Mid) : Prop where
  l : WdOk S W x.l
  row : 0 ≤ x.row ∧ x.row < (R : Int)
  sign : 0 ≤ x.sign ∧ x.sign < (S : Int)
  r : WdOk S W x.r

def wordsU (S : Nat) : Nat → List Wd
  | 0 => [[]]
  | n + 1 => (List.range S).flatMap fun (s : Nat) => (wordsU S n).map fun w => (s : Int) :: w
theorem wordsU_len (S : Nat) : ∀ n, (wordsU S n).length = S ^ n
  | 0 => rfl
  | n + 1 => by
    show ((List.range S).flatMap fun (s : Nat) => (wordsU S n).map fun w => (s : Int) :: w).length = S ^ (n + 1)
    rw [flatMap_len _ (S ^ n) _ fun s _ => by rw [List.length_map, wordsU_len S n], List.length_range, Nat.pow_succ, Nat.mul_comm]
theorem mem_wordsU {S : Nat} : ∀ {n : Nat} {w : Wd}, WdOk S n w → w ∈ wordsU S n
  | 0, w, h => by
    have e : w = [] := List.length_eq_zero_iff.mp h.1
    subst e
    exact List.mem_singleton.mpr rfl
  | n + 1, [], h => by cases h.1
  | n + 1, s :: w, h => by
    obtain ⟨h1, h2⟩ := h
    have hs := h2 s (List.mem_cons_self ..)
    show s :: w ∈ (List.range S).flatMap fun (s : Nat) => (wordsU S n).map fun w => (s : Int) :: w
    refine List.mem_flatMap.mpr ⟨s.toNat, List.mem_range.mpr (by omega), List.mem_map.mpr ⟨w, mem_wordsU ⟨by simpa using h1, fun t ht => h2 t (List.mem_cons_of_mem _ ht)⟩, ?_⟩⟩
    rw [Int.toNat_of_nonneg hs.1]
def midsU (R S W : Nat) : List Mid :=
  (wordsU S W).flatMap fun l => (List.range R).flatMap fun (r : Nat) => (List.range S).flatMap fun (s : Nat) => (wordsU S W).map fun rr => ⟨l, r, s, rr⟩
theorem midsU_len (R S W : Nat) : (midsU R S W).length = S ^ W * (R * (S * S ^ W)) := by
  unfold midsU
  rw [flatMap_len _ (R * (S * S ^ W)) _ fun l _ => ?_, wordsU_len]
  rw [flatMap_len _ (S * S ^ W) _ fun r _ => ?_, List.length_range]
  rw [flatMap_len _ (S ^ W) _ fun s _ => ?_, List.length_range]
  rw [List.length_map, wordsU_len]
theorem mem_midsU {R S W : Nat} {x : Mid} (h : MidOk R S W x) : x ∈ midsU R S W := by
  obtain ⟨l, row, sign, r⟩ := x
  obtain ⟨h1, h2, h3, h4⟩ := h
  simp only at h1 h2 h3 h4
  refine List.mem_flatMap.mpr ⟨l, mem_wordsU h1, List.mem_flatMap.mpr ⟨row.toNat, List.mem_range.mpr (by omega), List.mem_flatMap.mpr ⟨sign.toNat, List.mem_range.mpr (by omega), List.mem_map.mpr ⟨r, mem_wordsU h4, ?_⟩⟩⟩⟩
  rw [Int.toNat_of_nonneg h2.1, Int.toNat_of_nonneg h3.1]

/-! ### machines -/
abbrev Ent := Option (Int × Int × Int)
abbrev Mach := List (List Ent)
def EntOk (R S : Nat) : Ent → Prop
  | none => True
  | some (p, w, n) => (0 ≤ p ∧ p < (S : Int)) ∧ (w = -1 ∨ w = 1) ∧ (0 ≤ n ∧ n < (R : Int))
structure MachOk (m : Mach) (R S : Nat) : Prop where
  len : m.length = R
  rows : ∀ row ∈ m, row.length = S ∧ ∀ e ∈ row, EntOk R S e
def ent (m : Mach) (r s : Int) : Ent := ((m[r.toNat]?.getD [])[s.toNat]?).getD none
theorem ent_at {m : Mach} {R S : Nat} (h : MachOk m R S) {r s : Int} (hr : 0 ≤ r ∧ r < (R : Int)) (hs : 0 ≤ s ∧ s < (S : Int)) :
    ∃ row, m[r.toNat]? = some row ∧ row.length = S ∧ row[s.toNat]? = some (ent m r s) ∧ EntOk R S (ent m r s) := by
  have h1 : r.toNat < m.length := by rw [h.len]; omega
  obtain ⟨h2, h3⟩ := h.rows m[r.toNat] (List.getElem_mem h1)
  have h4 : s.toNat < (m[r.toNat]).length := by rw [h2]; omega
  have e : ent m r s = (m[r.toNat])[s.toNat] := by
    unfold ent
    rw [List.getElem?_eq_getElem h1, Option.getD_some, List.getElem?_eq_getElem h4, Option.getD_some]
  refine ⟨m[r.toNat], List.getElem?_eq_getElem h1, h2, ?_, ?_⟩
  · rw [e, List.getElem?_eq_getElem h4]
  · rw [e]; exact h3 _ (List.getElem_mem h4)

/-! ### shut sets -/
def noughts (W : Nat) : Wd := List.replicate W 0
theorem noughts_ok {S W : Nat} (h : 0 < S) : WdOk S W (noughts W) := by
  refine ⟨List.length_replicate, fun s hs => ?_⟩
  have e := List.eq_of_mem_replicate hs
  omega
/-- the left word behind a step to the right -/
def newL (x : Mid) (p : Int) : Wd := x.l.drop 1 ++ [p]
/-- the right word behind a step to the left -/
def newR (x : Mid) (p : Int) : Wd := p :: x.r.dropLast
def midR (x : Mid) (p n : Int) (w : Wd) : Mid := ⟨newL x p, n, x.r.headD 0, w⟩
def midL (x : Mid) (p n : Int) (w : Wd) : Mid := ⟨w, n, x.l.getLastD 0, newR x p⟩
/-- the middles that a middle leads to -/
def ledR (x : Mid) (p n : Int) (R : List Wd) : List Mid := (R.filter fun w => decide (w.dropLast = x.r.drop 1)).map (midR x p n)
def ledL (x : Mid) (p n : Int) (L : List Wd) : List Mid := (L.filter fun w => decide (w.drop 1 = x.l.dropLast)).map (midL x p n)
def MidShut (m : Mach) (L R : List Wd) (M : List Mid) (x : Mid) : Prop :=
  ∃ p w n, ent m x.row x.sign = some (p, w, n) ∧
    ((w = 1 ∧ newL x p ∈ L ∧ ∀ y ∈ ledR x p n R, y ∈ M) ∨ (w ≠ 1 ∧ newR x p ∈ R ∧ ∀ y ∈ ledL x p n L, y ∈ M))
structure Shut (m : Mach) (W : Nat) (L R : List Wd) (M : List Mid) : Prop where
  l : noughts W ∈ L
  r : noughts W ∈ R
  mid : (⟨noughts W, 0, 0, noughts W⟩ : Mid) ∈ M
  all : ∀ x ∈ M, MidShut m L R M x

/-! ### validity of what is led to -/
theorem newL_ok {R S W : Nat} {x : Mid} {p : Int} (h : MidOk R S W x) (hW : 0 < W) (hp : 0 ≤ p ∧ p < (S : Int)) : WdOk S W (newL x p) := by
  refine ⟨?_, fun s hs => ?_⟩
  · unfold newL
    rw [List.length_append, List.length_drop, h.l.1, List.length_singleton]
    omega
  · rcases List.mem_append.mp hs with q | q
    · exact h.l.2 s (List.mem_of_mem_drop q)
    · rw [List.mem_singleton.mp q]; exact hp
theorem newR_ok {R S W : Nat} {x : Mid} {p : Int} (h : MidOk R S W x) (hW : 0 < W) (hp : 0 ≤ p ∧ p < (S : Int)) : WdOk S W (newR x p) := by
  refine ⟨?_, fun s hs => ?_⟩
  · unfold newR
    rw [List.length_cons, List.length_dropLast, h.r.1]
    omega
  · rcases List.mem_cons.mp hs with q | q
    · rw [q]; exact hp
    · exact h.r.2 s (List.dropLast_subset _ q)
theorem headD_ok {S W : Nat} {w : Wd} (h : WdOk S W w) (hW : 0 < W) : 0 ≤ w.headD 0 ∧ w.headD 0 < (S : Int) := by
  cases w with
  | nil => have := h.1; simp at this; omega
  | cons a r => exact h.2 a (List.mem_cons_self ..)
theorem lastD_ok {S W : Nat} {w : Wd} (h : WdOk S W w) (hW : 0 < W) : 0 ≤ w.getLastD 0 ∧ w.getLastD 0 < (S : Int) := by
  have hne : w ≠ [] := fun e => by have := h.1; rw [e] at this; simp at this; omega
  have e : w.getLastD 0 = w.getLast hne := by
    rw [List.getLastD_eq_getLast?, List.getLast?_eq_some_getLast hne, Option.getD_some]
  rw [e]
  exact h.2 _ (List.getLast_mem hne)
theorem ledR_ok {R S W : Nat} {x : Mid} {p n : Int} {Rs : List Wd} (h : MidOk R S W x) (hW : 0 < W) (hp : 0 ≤ p ∧ p < (S : Int)) (hn : 0 ≤ n ∧ n < (R : Int)) (hR : ∀ w ∈ Rs, WdOk S W w) : ∀ y ∈ ledR x p n Rs, MidOk R S W y := by
  intro y hy
  obtain ⟨w, hw, rfl⟩ := List.mem_map.mp hy
  exact ⟨newL_ok h hW hp, hn, headD_ok h.r hW, hR w (List.mem_filter.mp hw).1⟩
theorem ledL_ok {R S W : Nat} {x : Mid} {p n : Int} {Ls : List Wd} (h : MidOk R S W x) (hW : 0 < W) (hp : 0 ≤ p ∧ p < (S : Int)) (hn : 0 ≤ n ∧ n < (R : Int)) (hL : ∀ w ∈ Ls, WdOk S W w) : ∀ y ∈ ledL x p n Ls, MidOk R S W y := by
  intro y hy
  obtain ⟨w, hw, rfl⟩ := List.mem_map.mp hy
  exact ⟨hL w (List.mem_filter.mp hw).1, hn, lastD_ok h.l hW, newR_ok h hW hp⟩
theorem ledR_len (x : Mid) (p n : Int) (Rs : List Wd) : (ledR x p n Rs).length ≤ Rs.length := by
  unfold ledR
  rw [List.length_map]
  exact List.length_filter_le _ _
theorem ledL_len (x : Mid) (p n : Int) (Ls : List Wd) : (ledL x p n Ls).length ≤ Ls.length := by
  unfold ledL
  rw [List.length_map]
  exact List.length_filter_le _ _

/-! ### the run -/
structure Cfg where
  row : Int
  pos : Int
  tape : Int → Int
def win (t : Int → Int) (f : Int) (W : Nat) : Wd := (List.range W).map fun (k : Nat) => t (f + (k : Int))
theorem win_len (t : Int → Int) (f : Int) (W : Nat) : (win t f W).length = W := by unfold win; rw [List.length_map, List.length_range]
theorem win_at {t : Int → Int} {f : Int} {W k : Nat} (h : k < W) : (win t f W)[k]? = some (t (f + (k : Int))) := by
  unfold win
  rw [List.getElem?_map, List.getElem?_range h]
  rfl
theorem win_succ (t : Int → Int) (f : Int) (W : Nat) : win t f (W + 1) = win t f W ++ [t (f + (W : Int))] := by
  unfold win
  rw [List.range_succ, List.map_append]
  rfl
theorem win_cons (t : Int → Int) (f : Int) (W : Nat) : win t f (W + 1) = t f :: win t (f + 1) W := by
  unfold win
  rw [List.range_succ_eq_map, List.map_cons, List.map_map]
  congr 1
  · congr 1
    simp
  · refine List.map_congr_left fun k _ => ?_
    show t (f + ((k + 1 : Nat) : Int)) = t (f + 1 + (k : Int))
    congr 1
    omega
theorem win_congr {t t' : Int → Int} {f : Int} {W : Nat} (h : ∀ q, f ≤ q → q < f + (W : Int) → t q = t' q) : win t f W = win t' f W := by
  unfold win
  refine List.map_congr_left fun k hk => ?_
  have := List.mem_range.mp hk
  exact h _ (by omega) (by omega)
def put (t : Int → Int) (q v : Int) : Int → Int := fun z => if z = q then v else t z
structure Stands (W : Nat) (L R : List Wd) (M : List Mid) (c : Cfg) : Prop where
  mid : (⟨win c.tape (c.pos - W) W, c.row, c.tape c.pos, win c.tape (c.pos + 1) W⟩ : Mid) ∈ M
  l : ∀ f : Int, f ≤ c.pos - W → win c.tape f W ∈ L
  r : ∀ f : Int, c.pos + 1 ≤ f → win c.tape f W ∈ R
def start : Cfg := ⟨0, 0, fun _ => 0⟩
theorem win_zero (f : Int) (W : Nat) : win (fun _ => 0) f W = noughts W := by
  unfold win noughts
  rw [List.map_const', List.length_range]
theorem stands_start {m : Mach} {W : Nat} {L R : List Wd} {M : List Mid} (h : Shut m W L R M) : Stands W L R M start :=
  ⟨by show (⟨win (fun _ => 0) _ W, 0, 0, win (fun _ => 0) _ W⟩ : Mid) ∈ M; rw [win_zero, win_zero]; exact h.mid,
   fun f _ => by show win (fun _ => 0) f W ∈ L; rw [win_zero]; exact h.l, fun f _ => by show win (fun _ => 0) f W ∈ R; rw [win_zero]; exact h.r⟩
def go (c : Cfg) (p w n : Int) : Cfg := ⟨n, c.pos + w, put c.tape c.pos p⟩
theorem put_same (t : Int → Int) (q v : Int) : put t q v q = v := by unfold put; rw [if_pos rfl]
theorem put_ne (t : Int → Int) {q z : Int} (v : Int) (h : z ≠ q) : put t q v z = t z := by unfold put; rw [if_neg h]
theorem stands_step {m : Mach} {W : Nat} {L R : List Wd} {M : List Mid} (hW : 0 < W) (h : Shut m W L R M) {c : Cfg} (st : Stands W L R M c) :
    ∃ p w n, ent m c.row (c.tape c.pos) = some (p, w, n) ∧ ((w = 1 ∨ w = -1) → Stands W L R M (go c p w n)) := by
  obtain ⟨p, w, n, he, hs⟩ := h.all _ st.mid
  refine ⟨p, w, n, he, fun hw => ?_⟩
  obtain ⟨V, rfl⟩ : ∃ V, W = V + 1 := ⟨W - 1, by omega⟩
  rcases hs with ⟨rfl, hl, hm⟩ | ⟨hw1, hr, hm⟩
  · -- to the right
    have eL : newL ⟨win c.tape (c.pos - ((V + 1 : Nat) : Int)) (V + 1), c.row, c.tape c.pos, win c.tape (c.pos + 1) (V + 1)⟩ p = win (put c.tape c.pos p) (c.pos + 1 - ((V + 1 : Nat) : Int)) (V + 1) := by
      unfold newL
      show (win c.tape (c.pos - ((V + 1 : Nat) : Int)) (V + 1)).drop 1 ++ [p] = _
      rw [win_cons c.tape, win_succ (put c.tape c.pos p)]
      show win c.tape (c.pos - ((V + 1 : Nat) : Int) + 1) V ++ [p] = _
      have e1 : c.pos - ((V + 1 : Nat) : Int) + 1 = c.pos + 1 - ((V + 1 : Nat) : Int) := by omega
      have e2 : c.pos + 1 - ((V + 1 : Nat) : Int) + (V : Int) = c.pos := by omega
      rw [e1, e2, put_same]
      congr 1
      exact win_congr fun q h1 h2 => (put_ne _ _ (by omega)).symm
    have eR : ∀ f, c.pos + 1 ≤ f → win (put c.tape c.pos p) f (V + 1) = win c.tape f (V + 1) := fun f hf => win_congr fun q h1 h2 => put_ne _ _ (by omega)
    refine ⟨?_, fun f hf => ?_, fun f hf => ?_⟩
    · have q : (⟨win (put c.tape c.pos p) (c.pos + 1 - ((V + 1 : Nat) : Int)) (V + 1), n, put c.tape c.pos p (c.pos + 1), win (put c.tape c.pos p) (c.pos + 1 + 1) (V + 1)⟩ : Mid) ∈ M := by
        refine hm _ (List.mem_map.mpr ⟨win c.tape (c.pos + 1 + 1) (V + 1), List.mem_filter.mpr ⟨st.r _ (by omega), decide_eq_true ?_⟩, ?_⟩)
        · show (win c.tape (c.pos + 1 + 1) (V + 1)).dropLast = (win c.tape (c.pos + 1) (V + 1)).drop 1
          rw [win_succ, List.dropLast_concat, win_cons]
          rfl
        · unfold midR
          have e3 : (win c.tape (c.pos + 1) (V + 1)).headD 0 = c.tape (c.pos + 1) := by rw [win_cons]; rfl
          have e4 : put c.tape c.pos p (c.pos + 1) = c.tape (c.pos + 1) := put_ne _ _ (by omega)
          rw [eL, eR (c.pos + 1 + 1) (by omega), e4]
          show (⟨_, n, (win c.tape (c.pos + 1) (V + 1)).headD 0, _⟩ : Mid) = _
          rw [e3]
      exact q
    · show win (put c.tape c.pos p) f (V + 1) ∈ L
      have hf' : f ≤ c.pos + 1 - ((V + 1 : Nat) : Int) := hf
      by_cases e : f = c.pos + 1 - ((V + 1 : Nat) : Int)
      · rw [e, ← eL]; exact hl
      · rw [show win (put c.tape c.pos p) f (V + 1) = win c.tape f (V + 1) from win_congr fun q h1 h2 => put_ne _ _ (by omega)]
        exact st.l f (by omega)
    · show win (put c.tape c.pos p) f (V + 1) ∈ R
      have hf' : c.pos + 1 + 1 ≤ f := hf
      rw [eR f (by omega)]
      exact st.r f (by omega)
  · -- to the left
    have hw2 : w = -1 := by rcases hw with q | q; exact absurd q hw1; exact q
    subst hw2
    have eR : newR ⟨win c.tape (c.pos - ((V + 1 : Nat) : Int)) (V + 1), c.row, c.tape c.pos, win c.tape (c.pos + 1) (V + 1)⟩ p = win (put c.tape c.pos p) (c.pos + -1 + 1) (V + 1) := by
      unfold newR
      show p :: (win c.tape (c.pos + 1) (V + 1)).dropLast = _
      rw [win_succ c.tape, List.dropLast_concat, win_cons (put c.tape c.pos p)]
      have e1 : c.pos + -1 + 1 = c.pos := by omega
      rw [e1, put_same]
      congr 1
      exact win_congr fun q h1 h2 => (put_ne _ _ (by omega)).symm
    have eL : ∀ f, f ≤ c.pos - ((V + 1 : Nat) : Int) → win (put c.tape c.pos p) f (V + 1) = win c.tape f (V + 1) := fun f hf => win_congr fun q h1 h2 => put_ne _ _ (by omega)
    refine ⟨?_, fun f hf => ?_, fun f hf => ?_⟩
    · have q : (⟨win (put c.tape c.pos p) (c.pos + -1 - ((V + 1 : Nat) : Int)) (V + 1), n, put c.tape c.pos p (c.pos + -1), win (put c.tape c.pos p) (c.pos + -1 + 1) (V + 1)⟩ : Mid) ∈ M := by
        refine hm _ (List.mem_map.mpr ⟨win c.tape (c.pos + -1 - ((V + 1 : Nat) : Int)) (V + 1), List.mem_filter.mpr ⟨st.l _ (by omega), decide_eq_true ?_⟩, ?_⟩)
        · show (win c.tape (c.pos + -1 - ((V + 1 : Nat) : Int)) (V + 1)).drop 1 = (win c.tape (c.pos - ((V + 1 : Nat) : Int)) (V + 1)).dropLast
          rw [win_succ c.tape (c.pos - ((V + 1 : Nat) : Int)), List.dropLast_concat, win_cons]
          show win c.tape (c.pos + -1 - ((V + 1 : Nat) : Int) + 1) V = _
          congr 1
          omega
        · unfold midL
          have e3 : (win c.tape (c.pos - ((V + 1 : Nat) : Int)) (V + 1)).getLastD 0 = c.tape (c.pos + -1) := by
            rw [win_succ, List.getLastD_concat]
            congr 1
            omega
          have e4 : put c.tape c.pos p (c.pos + -1) = c.tape (c.pos + -1) := put_ne _ _ (by omega)
          rw [eR, eL (c.pos + -1 - ((V + 1 : Nat) : Int)) (by omega), e4]
          show (⟨_, n, (win c.tape (c.pos - ((V + 1 : Nat) : Int)) (V + 1)).getLastD 0, _⟩ : Mid) = _
          rw [e3]
      exact q
    · show win (put c.tape c.pos p) f (V + 1) ∈ L
      have hf' : f ≤ c.pos + -1 - ((V + 1 : Nat) : Int) := hf
      rw [eL f (by omega)]
      exact st.l f (by omega)
    · show win (put c.tape c.pos p) f (V + 1) ∈ R
      have hf' : c.pos + -1 + 1 ≤ f := hf
      by_cases e : f = c.pos + -1 + 1
      · rw [e, ← eR]; exact hr
      · rw [show win (put c.tape c.pos p) f (V + 1) = win c.tape f (V + 1) from win_congr fun q h1 h2 => put_ne _ _ (by omega)]
        exact st.r f (by omega)
end K52
end
/-! Dicts whose keys are nested tuples of whole numbers, over the hand layer. -/
namespace N52
open PySem PySem.Spec PyProof.Rows L2
abbrev St := L2.St

/-! ### nested keys in the abstract heap -/
mutual
inductive KIs (H : Hp) : NestedKey → V → Prop
  | num (i : Int) : KIs H (.num i) (.int i)
  | tup {a : Addr} {xs : List V} {ks : List NestedKey} : H a = some (.tup xs) → KAll H ks xs → KIs H (.tup ks) (.ref a)
inductive KAll (H : Hp) : List NestedKey → List V → Prop
  | nil : KAll H [] []
  | cons {k : NestedKey} {v : V} {ks : List NestedKey} {vs : List V} : KIs H k v → KAll H ks vs → KAll H (k :: ks) (v :: vs)
end
/-- tuples stay -/
def Tups (H H' : Hp) : Prop := ∀ b xs, H b = some (.tup xs) → H' b = some (.tup xs)
theorem Tups.refl (H : Hp) : Tups H H := fun _ _ h => h
theorem Tups.trans {H H1 H2 : Hp} (a : Tups H H1) (b : Tups H1 H2) : Tups H H2 := fun c xs h => b c xs (a c xs h)
theorem Tups.of {H H' : Hp} (s : Same H H') : Tups H H' := fun b _ h => s b _ h
mutual
theorem KIs.keep {H H' : Hp} (t : Tups H H') : ∀ (k : NestedKey) (v : V), KIs H k v → KIs H' k v
  | .num i, _, x => by cases x; exact .num i
  | .tup ks, _, x => by
    cases x with
    | tup h1 h2 => exact .tup (t _ _ h1) (KAll.keep t ks _ h2)
  | .none, _, x => nomatch x
  | .text _, _, x => nomatch x
theorem KAll.keep {H H' : Hp} (t : Tups H H') : ∀ (ks : List NestedKey) (vs : List V), KAll H ks vs → KAll H' ks vs
  | [], _, x => by cases x; exact .nil
  | k :: ks, _, x => by
    cases x with
    | cons h1 h2 => exact .cons (KIs.keep t k _ h1) (KAll.keep t ks _ h2)
end
section
variable {X : Cx} {pins : List (Addr × Obj)} {σ : St} {H : Hp} {s : Shared}
mutual
theorem KIs.nested (I : Inv X pins σ H s) : ∀ (k : NestedKey) (v : V) (u : Value), KIs H k v → RelV v u → NestedIs s.heap k u
  | .num i, _, _, x, r => by
    cases x
    obtain ⟨t, rfl⟩ := r
    exact .int i t
  | .tup ks, _, _, x, r => by
    cases x with
    | tup h1 h2 =>
      cases r
      obtain ⟨its, rv, ⟨o, ho, hc, n, hd⟩, _⟩ := I.tuple (SqT.of h1)
      exact .tup ho hc hd (by simpa using KAll.nested I ks _ its h2 rv)
  | .none, _, _, x, _ => nomatch x
  | .text _, _, _, x, _ => nomatch x
theorem KAll.nested (I : Inv X pins σ H s) : ∀ (ks : List NestedKey) (vs : List V) (us : List Value), KAll H ks vs → Vals vs us → NestedAll s.heap ks us
  | [], _, _, x, r => by
    cases x
    cases r
    exact .nil
  | k :: ks, _, _, x, r => by
    cases x with
    | cons h1 h2 =>
      cases r with
      | cons r1 r2 => exact .cons (KIs.nested I k _ _ h1 r1) (KAll.nested I ks _ _ h2 r2)
end
end
mutual
/-- a key as data -/
theorem KIs.data {K : PySem.W.Frag} {H : Hp} : ∀ (k : NestedKey) (v : V), KIs H k v → Dp K H v k.data
  | .num i, _, x => by
    cases x
    show Dp K H _ (NestedKey.data (.num i))
    rw [NestedKey.data]
    exact .int i
  | .tup ks, _, x => by
    cases x with
    | tup h1 h2 =>
      rw [NestedKey.data]
      exact .tup (SqT.of h1) (KAll.data ks _ h2)
  | .none, _, x => nomatch x
  | .text _, _, x => nomatch x
theorem KAll.data {K : PySem.W.Frag} {H : Hp} : ∀ (ks : List NestedKey) (vs : List V), KAll H ks vs → DpAll K H vs (NestedKey.datas ks)
  | [], _, x => by
    cases x
    rw [NestedKey.datas]
    exact .nil
  | k :: ks, _, x => by
    cases x with
    | cons h1 h2 =>
      rw [NestedKey.datas]
      exact .cons (KIs.data k _ h1) (KAll.data ks _ h2)
end

/-! ### the dict -/
abbrev Ks := List (NestedKey × Addr)
def tri (xs : Ks) : List (NestedKey × Addr × Value) := xs.map fun x => (x.1, x.2, Value.bool true)
/-- what stands at d: a dict with these keys, each with the value True -/
def DE (P : Program) (w : World) (d : Addr) (ep : Nat) (xs : Ks) (h : Heap) : Prop :=
  ∃ o es, h.get? d = some o ∧ o.ExactDict ∧ o.data = .dict es ep ∧ es.toList = (tri xs).map (entryOfKey (nestedKind P w))
theorem DE.obj {P : Program} {w : World} {d : Addr} {ep : Nat} {xs : Ks} {H : Hp} {h : Heap} (x : DE P w d ep xs h) : ObjOk P w H h d (.ext (DE P w d ep xs)) := by
  obtain ⟨o, es, h1, h2, h3, h4⟩ := id x
  exact ⟨x, ⟨o, h1⟩, fun g1 g2 ⟨o', es', e1, e2, e3, e4⟩ k => ⟨o', es', k _ e1, e2, e3, e4⟩⟩
structure ND (P : Program) (w : World) (H : Hp) (d : Addr) (xs : Ks) : Prop where
  at_ : ∃ ep, H d = some (.ext (DE P w d ep xs))
  nm : (d == sysModules) = false
  keys : ∀ x ∈ xs, KIs H x.1 (.ref x.2) ∧ x.1.depth ≤ 8
  nd : (xs.map (·.1)).Nodup
  sz : xs.length ≤ sizeLine
/-- all but d stands -/
def But (d : Addr) (H H' : Hp) : Prop := ∀ b o, b ≠ d → H b = some o → H' b = some o
theorem But.upd {H : Hp} {d : Addr} {o : HO} : But d H (upd H d o) := fun b u hb e => by rw [upd_ne hb]; exact e
theorem ND.tups {P : Program} {w : World} {H H' : Hp} {d : Addr} {xs : Ks} (n : ND P w H d xs) (b : But d H H') : Tups H H' := fun c ys e => b c _ (fun z => by
  obtain ⟨ep, q⟩ := n.at_
  rw [z, q] at e
  cases e) e
theorem ND.keep {P : Program} {w : World} {H H' : Hp} {d : Addr} {xs : Ks} (n : ND P w H d xs) (s : Same H H') : ND P w H' d xs :=
  ⟨let ⟨ep, q⟩ := n.at_; ⟨ep, s _ _ q⟩, n.nm, fun x hx => ⟨KIs.keep (Tups.of s) _ _ (n.keys x hx).1, (n.keys x hx).2⟩, n.nd, n.sz⟩
/-- .. where another dict changes -/
theorem ND.keepB {P : Program} {w : World} {H H' : Hp} {d e : Addr} {xs : Ks} (n : ND P w H d xs) (s : But e H H') (t : Tups H H') (h : d ≠ e) : ND P w H' d xs :=
  ⟨let ⟨ep, q⟩ := n.at_; ⟨ep, s _ _ h q⟩, n.nm, fun x hx => ⟨KIs.keep t _ _ (n.keys x hx).1, (n.keys x hx).2⟩, n.nd, n.sz⟩
section
variable {X : Cx} {pins : List (Addr × Obj)} {σ : St} {H : Hp} {s : Shared} {d : Addr} {xs : Ks}
theorem Inv.de (I : Inv X pins σ H s) {ep : Nat} (h : H d = some (.ext (DE X.prog X.w d ep xs))) : DE X.prog X.w d ep xs s.heap := by
  obtain ⟨x, _⟩ := I.hok d _ h
  exact x
theorem ND.dict (n : ND X.prog X.w H d xs) (I : Inv X pins σ H s) : s.heap.DictOfH (nestedKind X.prog X.w) d (tri xs) := by
  obtain ⟨ep, q⟩ := n.at_
  obtain ⟨o, es, h1, h2, h3, h4⟩ := Inv.de I q
  refine ⟨o, es, ep, h1, h2, h3, h4, fun x hx => ?_, ?_⟩
  · obtain ⟨y, hy, rfl⟩ := List.mem_map.mp hx
    exact ⟨KIs.nested I _ _ _ (n.keys y hy).1 rfl, (n.keys y hy).2⟩
  · have e : (tri xs).map (·.1) = xs.map (·.1) := by
      unfold tri
      rw [List.map_map]
      rfl
    rw [e]
    exact n.nd
end
theorem room_n {A : Around} {k : Nat} {P : Program} {w : World} (hr : Room k A) : (nestedKind P w).room A.in1 := by
  have := hr.units
  show A.in1.units + 8 < cLine
  rw [Around.in1_units]
  omega
theorem room_n0 {A : Around} {k : Nat} {P : Program} {w : World} (hr : Room k A) : (nestedKind P w).room A := by
  have := hr.units
  show A.units + 8 < cLine
  omega
theorem atKey_tri (xs : Ks) (k : NestedKey) : (atKey (tri xs) k).isSome = decide (k ∈ xs.map (·.1)) := by
  induction xs with
  | nil => simp [tri, atKey]
  | cons x xs ih =>
    by_cases h : x.1 = k
    · simp [tri, atKey, h]
    · have h2 : ¬ k = x.1 := fun e => h e.symm
      have e : (atKey (tri (x :: xs)) k).isSome = (atKey (tri xs) k).isSome := by simp [tri, atKey, h]
      rw [e, ih]
      simp [h2]
theorem storedH_tri {xs : Ks} {k : NestedKey} {b : Addr} (h : k ∉ xs.map (·.1)) : storedH (tri xs) k b (.bool true) = tri (xs ++ [(k, b)]) := by
  unfold storedH
  rw [atKey_tri, decide_eq_false h, if_neg Bool.false_ne_true]
  unfold tri
  rw [List.map_append]
  rfl

/-! ### the rules -/
section
variable {X : Cx} {o i e value : Expr} {pos pos' tpos : Pos} {td ty tv : TE}
/-- y not in d -/
def tNotInN (P : Program) (w : World) (ty td : TE) : TE := fun σ H Q => ty σ H fun y H1 => td σ H1 fun x H2 => ∃ d b xs k, x = .ref d ∧ y = .ref b ∧ ND P w H2 d xs ∧ KIs H2 k (.ref b) ∧ k.depth ≤ 8 ∧ Q (.bl (!decide (k ∈ xs.map (·.1)))) H2
theorem pc_notInN {k : Nat} (hr : Room k X.A) (hi : PE X i ty) (ho : PE X o td) : PC X .NotIn i o (tNotInN X.prog X.w ty td) := by
  refine ⟨fun pins s σ H Q I h => ?_⟩
  refine thn (hi.run pins s σ H _ I h) fun iv s1 ⟨y, H1, I1, ry, q1⟩ => thn (ho.run pins s1 σ H1 _ I1 q1) fun u s2 ⟨x, H2, I2, rx, q2⟩ => ?_
  obtain ⟨d, b, xs, k, rfl, rfl, n, hk, hdp, q2⟩ := q2
  obtain rfl : u = Value.ref d := rx
  obtain rfl : iv = Value.ref b := ry
  refine wpAny_notIn_heap (room_n hr) (⟨KIs.nested I2 _ _ _ hk rfl, hdp⟩ : (nestedKind X.prog X.w).is s2.heap k b) n.nm (n.dict I2) ?_
  rw [atKey_tri]
  exact ⟨.bl _, H2, I2.tok _, rfl, q2⟩
/-- d[y] = True, y new -/
def sPutN (P : Program) (w : World) (td ty tv : TE) : TS := fun D σ H => tv σ H fun v H1 => td σ H1 fun x H2 => ty σ H2 fun y H3 => ∃ d b xs k, v = .bl true ∧ x = .ref d ∧ y = .ref b ∧ ND P w H3 d xs ∧ KIs H3 k (.ref b) ∧ k.depth ≤ 8 ∧
  k ∉ xs.map (·.1) ∧ xs.length < sizeLine ∧ ∀ H4, ND P w H4 d (xs ++ [(k, b)]) → But d H3 H4 → D.nx σ H4
theorem ps_putN {k : Nat} (hr : Room k X.A) (ho : PE X o td) (hi : PE X i ty) (hv : PE X value tv) (hs : swapsWith value (some (.Subscript o i pos')) pos.line X.env = pure false) :
    PS X (.Assign [.Subscript o i pos'] value pos) (sPutN X.prog X.w td ty tv) := by
  refine ⟨fun pins s σ H D I h => ?_⟩
  refine wpAny_Assign_Subscript (thn (hv.run pins s σ H _ I h) fun r s1 ⟨v, H1, I1, rv, q1⟩ => thn (ho.run pins s1 σ H1 _ I1 q1) fun u s2 ⟨x, H2, I2, rx, q2⟩ =>
    thn (hi.run pins s2 σ H2 _ I2 q2) fun iv s3 ⟨y, H3, I3, ry, q3⟩ => ?_) hs
  obtain ⟨d, b, xs, k, rfl, rfl, rfl, n, hk, hdp, hnew, hsz, q3⟩ := q3
  obtain rfl : u = Value.ref d := rx
  obtain rfl : iv = Value.ref b := ry
  obtain rfl : r = Value.bool true := rv
  have hl : (tri xs).length = xs.length := List.length_map ..
  refine wpAny_setItem_heap (hsz := by rw [hl]; exact Nat.le_of_lt hsz) (room_n hr) (⟨KIs.nested I3 _ _ _ hk rfl, hdp⟩ : (nestedKind X.prog X.w).is s3.heap k b) (n.dict I3) fun h' dd hb => ?_
  rw [storedH_tri hnew] at dd
  obtain ⟨o', es, ep, h1, h2, h3, h4, _, h5⟩ := dd
  obtain ⟨ep0, e0⟩ := n.at_
  have bt : But d H3 (upd H3 d (.ext (DE X.prog X.w d ep (xs ++ [(k, b)])))) := But.upd
  have tp := n.tups bt
  refine ⟨σ, upd H3 d (.ext (DE X.prog X.w d ep (xs ++ [(k, b)]))), ?_, q3 _ ⟨⟨ep, upd_same⟩, n.nm, fun x hx => ?_, ?_, ?_⟩ bt⟩
  · exact d_write I3 (by rw [e0]; exact True.intro) hb ⟨o', h1⟩ (DE.obj ⟨o', es, h1, h2, h3, h4⟩)
  · rcases List.mem_append.mp hx with hx | hx
    · exact ⟨KIs.keep tp _ _ (n.keys x hx).1, (n.keys x hx).2⟩
    · rw [List.mem_singleton.mp hx]
      exact ⟨KIs.keep tp _ _ hk, hdp⟩
  · rw [List.map_append]
    refine List.nodup_append.mpr ⟨n.nd, by simp, fun a ha c hc => ?_⟩
    have e : c = k := by simpa using hc
    rintro rfl
    rw [e] at ha
    exact hnew ha
  · rw [List.length_append, List.length_singleton]
    exact hsz
end
/-! ### walking the keys -/
/-- the keys' own tuples, in order -/
def Itn (P : Program) (w : World) (d : Addr) (ep : Nat) (xs : Ks) : It :=
  ⟨fun i H => H d = some (.ext (DE P w d ep xs)) ∧ i < xs.length, fun i H x H' => H' = H ∧ ∃ k b, xs[i]? = some (k, b) ∧ x = .ref b, fun i H => H d = some (.ext (DE P w d ep xs)) ∧ xs.length ≤ i⟩
theorem DE.size {P : Program} {w : World} {xs : Ks} {es : Array DictEntry} (h : es.toList = (tri xs).map (entryOfKey (nestedKind P w))) : es.size = xs.length := by
  rw [size_of_entries h]
  exact List.length_map ..
theorem DE.entry {P : Program} {w : World} {xs : Ks} {es : Array DictEntry} (h : es.toList = (tri xs).map (entryOfKey (nestedKind P w))) {i : Nat} {k : NestedKey} {b : Addr} (hi : xs[i]? = some (k, b)) :
    ∃ en, es[i]? = some en ∧ en.key = .ref b := by
  have q := entry_at h i
  have e : (tri xs)[i]? = some (k, b, Value.bool true) := by
    unfold tri
    rw [List.getElem?_map, hi]
    rfl
  rw [e] at q
  exact ⟨_, q, rfl⟩
theorem turn_n {P : Program} {w : World} {K : PySem.W.Frag} {tg : Expr} {d : Addr} {ep : Nat} {xs : Ks} (it : Addr) : Turn P w K tg (Itn P w d ep xs) [it] it (fun i h => h.IsKeyIter it d i xs.length ep) where
  mem := by simp
  obj := fun i h st b hb => by
    have e : b = it := by simpa using hb
    subst e
    obtain ⟨oi, e, c, dd⟩ := st
    exact ⟨oi, e, fun v z => by rw [dd] at z; cases z⟩
  keep := fun i h h' st k => st.at fun oi e => k it (by simp) oi e
  item := by
    intro X hP hw hK hc i pins s σ H E I hf st hg
    subst hP hw hK
    obtain ⟨hd, hi⟩ := hg
    obtain ⟨f0, f1, f2, f3, f4, f5⟩ := hf it (by simp)
    obtain ⟨o, es, hgd, hx, hdt, hes⟩ := Inv.de I hd
    obtain ⟨⟨k, b⟩, hkv⟩ : ∃ p, xs[i]? = some p := ⟨xs[i], List.getElem?_eq_getElem hi⟩
    obtain ⟨en, hen, hkey⟩ := DE.entry hes hkv
    refine next_key_item st hgd hdt (DE.size hes) hen fun h' st' sb => ?_
    have I1 : Inv X pins σ H { s with heap := h' } := I.turned (t' := s.toks) (fun b ob hb e => (sb.2 b hb).trans e) f0 f1 f3 f4 f5
    obtain ⟨oi, e, c, dd⟩ := id st'
    refine ⟨en.key, rfl, go_of (s := { s with heap := h' }) e c dd (by decide) ⟨.ref b, H, I1, hkey, ⟨rfl, k, b, hkv, rfl⟩, st', fun b hb => (hf b hb).1⟩⟩
  done := by
    intro X hP hw hK hc i pins s σ H E I hf st hg
    subst hP hw hK
    obtain ⟨hd, hi⟩ := hg
    obtain ⟨f0, f1, f2, f3, f4, f5⟩ := hf it (by simp)
    obtain ⟨o, es, hgd, hx, hdt, hes⟩ := Inv.de I hd
    exact next_key_end (I.ok.hd hc) st hgd hdt (DE.size hes) hi fun h' eb => ⟨rfl, I.turned (t' := s.toks) (fun b ob hb e => eb b ob hb e) f0 f1 f3 f4 f5⟩
  self := fun A i s Q E st h => wpAny_pyIter_keyiter st h
def iN (P : Program) (w : World) (td : TE) : TI := fun σ H R => td σ H fun x H1 => ∃ d ep xs, x = .ref d ∧ (d == sysModules) = false ∧ H1 d = some (.ext (DE P w d ep xs)) ∧ R (Itn P w d ep xs) H1
theorem pi_n {X : Cx} {tg e : Expr} {td : TE} (he : PE X e td) : PI X tg e (iN X.prog X.w td) := by
  refine ⟨fun pins s σ H R I h => ?_⟩
  refine thn (he.run pins s σ H _ I h) fun v s1 ⟨x, H1, I1, r1, q1⟩ => ?_
  obtain ⟨d, ep, xs, rfl, hm, hd, q⟩ := q1
  obtain rfl : v = Value.ref d := r1
  obtain ⟨o, es, hgd, hx, hdt, hes⟩ := Inv.de I1 hd
  refine iter_keys hm hgd hx hdt ?_
  refine pi_one (tk := s1.toks) I1 _ (turn_n _) ?_ q
  show Heap.IsKeyIter _ _ _ _ _ _
  rw [← DE.size hes]
  exact ⟨_, Heap.get?_push_size _ rfl, rfl, rfl⟩
theorem walk_n {P : Program} {w : World} {d : Addr} {ep : Nat} {xs : Ks} : Walk (Itn P w d ep xs) xs.length (fun H => H d = some (.ext (DE P w d ep xs))) (fun i H x H' => H' = H ∧ ∃ k b, xs[i]? = some (k, b) ∧ x = .ref b) :=
  ⟨fun _ _ hi q => ⟨q, hi⟩, fun _ q => ⟨q, Nat.le_refl _⟩, fun _ _ _ _ _ _ y => y⟩
end N52
namespace N52
open PySem PySem.Spec PyProof.Rows L2 PySem.W

/-! ### list(d), sorted(d) -/
section
variable {X : Cx} {pins : List (Addr × Obj)} {σ : St} {H : Hp} {s : Shared}
mutual
theorem KIs.reads (I : Inv X pins σ H s) : ∀ (k : NestedKey) (v : V) (u : Value), KIs H k v → RelV v u → Reads s.heap u k.data []
  | .num i, _, _, x, r => by
    cases x
    obtain ⟨t, rfl⟩ := r
    rw [NestedKey.data]
    exact .int i t
  | .tup ks, _, _, x, r => by
    cases x with
    | tup h1 h2 =>
      cases r
      obtain ⟨its, rv, ⟨o, ho, hc, n, hd⟩, _⟩ := I.tuple (SqT.of h1)
      rw [NestedKey.data]
      exact .tuple ho hc hd (by simpa using KAll.reads I ks _ its h2 rv)
  | .none, _, _, x, _ => nomatch x
  | .text _, _, _, x, _ => nomatch x
theorem KAll.reads (I : Inv X pins σ H s) : ∀ (ks : List NestedKey) (vs : List V) (us : List Value), KAll H ks vs → Vals vs us → ReadsAll s.heap us (NestedKey.datas ks) []
  | [], _, _, x, r => by
    cases x
    cases r
    rw [NestedKey.datas]
    exact .nil
  | k :: ks, _, _, x, r => by
    cases x with
    | cons h1 h2 =>
      cases r with
      | cons r1 r2 =>
        rw [NestedKey.datas]
        exact .cons (as := []) (bs := []) (KIs.reads I k _ _ h1 r1) (KAll.reads I ks _ _ h2 r2)
end
end
def refsV (xs : Ks) : List V := xs.map fun x => V.ref x.2
def refsU (xs : Ks) : List Value := xs.map fun x => Value.ref x.2
theorem refs_rel : ∀ xs : Ks, Vals (refsV xs) (refsU xs)
  | [] => .nil
  | _ :: r => .cons rfl (refs_rel r)
theorem each_refs : ∀ xs : Ks, EachIs (fun (v : Value) (x : NestedKey × Addr) => v = Value.ref x.2) (refsU xs) xs
  | [] => .nil
  | _ :: r => .cons rfl (each_refs r)
theorem of_each : ∀ {us : List Value} {xs : Ks}, EachIs (fun (v : Value) (x : NestedKey × Addr) => v = Value.ref x.2) us xs → us = refsU xs
  | _, _, .nil => rfl
  | _, _, .cons h t => by rw [h, of_each t]; rfl
theorem acc_refs {P : Program} {w : World} {xs : Ks} {es : Array DictEntry} {acc : Array Value} (h : es.toList = (tri xs).map (entryOfKey (nestedKind P w)))
    (it : ItemsOf (fun i v => ∃ en : DictEntry, es[i]? = some en ∧ v = en.key) acc es.size) : acc.toList = refsU xs := by
  have hl : acc.toList.length = xs.length := by rw [Array.length_toList, it.1]; exact DE.size h
  apply List.ext_getElem?
  intro j
  unfold refsU
  rw [List.getElem?_map]
  cases hj : acc.toList[j]? with
  | none =>
    have h1 := List.getElem?_eq_none_iff.mp hj
    rw [List.getElem?_eq_none (by omega)]
    rfl
  | some v =>
    have hjl : j < xs.length := by
      have := (List.getElem?_eq_some_iff.mp hj).1
      omega
    obtain ⟨en, hen, hv⟩ := it.2 j v (by rw [← Array.getElem?_toList]; exact hj)
    obtain ⟨en', he1, he2⟩ := DE.entry h (i := j) (k := xs[j].1) (b := xs[j].2) (List.getElem?_eq_getElem hjl)
    rw [hen] at he1
    cases he1
    rw [hv, he2, List.getElem?_eq_getElem hjl]
    rfl
section
variable {X : Cx}
def rListN (P : Program) (w : World) : List V → Hp → VK → Prop := fun vs H Q => ∃ d xs, vs = [V.ref d] ∧ ND P w H d xs ∧ ∀ p, H p = none → Q (.ref p) (upd H p (.lst (refsV xs)))
theorem call_list_n (hc : X.calm = true) : CallR X (.type "list") (rListN X.prog X.w) := by
  intro pins s σ H xs us Q I r h
  obtain ⟨d, ks, rfl, n, q⟩ := h
  obtain ⟨u, rfl, rx⟩ := r.one
  cases rx
  obtain ⟨ep, hd⟩ := n.at_
  obtain ⟨o, es, ho, hx, hdt, hes⟩ := Inv.de I hd
  have hsz := n.sz
  refine kdl_call (kdl_raw n.nm hx hdt) (I.ok.hd hc) ho (by rw [DE.size hes]; exact hsz) fun h' tk acc c kp e it => ?_
  have ea := acc_refs hes it
  refine ⟨.ref s.heap.objs.size, _, I.laid (t' := tk) (o := .lst (refsV ks)) kp (Nat.le_refl _) ?_, rfl, q _ (I.hok.fresh (Nat.le_refl _))⟩
  exact ⟨by unfold refsV; rw [List.length_map]; exact hsz, acc.toList, c, by rw [ea]; exact refs_rel ks, by rw [Array.toArray_toList]; exact e⟩
def rSortedN (P : Program) (w : World) : List V → Hp → VK → Prop := fun vs H Q => ∃ d xs, vs = [V.ref d] ∧ ND P w H d xs ∧
  AllAlike (xs.map fun x => x.1.data) ∧ Sortable (xs.map fun x => x.1.data) ∧ (∀ x ∈ xs, x.1.data.depth ≤ 8) ∧ ∀ p ys, ys.Perm xs → H p = none → Q (.ref p) (upd H p (.lst (refsV ys)))
theorem cr_sortedN {k : Nat} (hr : Room k X.A) (hc : X.calm = true) : CallR X (.builtin "sorted") (rSortedN X.prog X.w) := by
  intro pins s σ H xs us Q I r h
  obtain ⟨d, ks, rfl, n, hal, hso, hdp, q⟩ := h
  obtain ⟨u, rfl, rx⟩ := r.one
  cases rx
  obtain ⟨ep, hd⟩ := n.at_
  obtain ⟨o, es, ho, hx, hdt, hes⟩ := Inv.de I hd
  have hsz := n.sz
  have hun := hr.units
  refine Calls.call_function_entry PyProof.Rows.kind_sorted PyProof.Rows.plain_sorted PyProof.Rows.entry_sorted (PyProof.Rows.args_sorted1 _) ?_
  unfold Builtin.«sorted»
  refine wpAny_bind (m := checkCount "sorted" 1 1 _) (wpAny_pure ?_)
  refine wpAny_bind (kdu_collect (A := X.A.in1) (kdl_raw n.nm hx hdt) (I.ok.hd hc) ho (by rw [DE.size hes]; exact hsz) fun h' tk acc hk hacc => ?_)
  have ea := acc_refs hes hacc
  have I1 : Inv X pins σ H { s with heap := h', toks := tk } := I.kept hk
  rw [ea]
  have hl : (refsU ks).length = ks.length := List.length_map ..
  refine wpAny_bind (wpAny_newList ?_ (by rw [hl]; exact hsz))
  have hoL : (h'.push (seqObj "list" (refsU ks).toArray 0)).get? h'.objs.size = some (seqObj "list" (refsU ks).toArray 0) := Heap.get?_push_size _ rfl
  show wpAny _ _ _ _ _ { s with heap := h'.push (seqObj "list" (refsU ks).toArray 0), toks := tk }
  have er : ∀ {ys : Ks}, (∀ y ∈ ys, y ∈ ks) → EachIs (fun (v : Value) (x : NestedKey × Addr) => ∃ as, Reads (h'.push (seqObj "list" (refsU ks).toArray 0)) v x.1.data as ∧ h'.objs.size ∉ as) (refsU ys) ys := by
    intro ys
    induction ys with
    | nil => intro _; exact .nil
    | cons y ys ih =>
      intro hy
      refine .cons ⟨[], ?_, List.not_mem_nil⟩ (ih fun z hz => hy z (List.mem_cons_of_mem _ hz))
      have I2 : Inv X pins σ H { s with heap := h'.push (seqObj "list" (refsU ks).toArray 0), toks := tk } := I1.kept fun b ob e => Heap.get?_push_of_some _ e
      exact KIs.reads I2 _ _ _ (n.keys y (hy y (List.mem_cons_self ..))).1 rfl
  refine wpAny_bind (wpAny_holding ?_)
  refine list_sort_data (A := X.A.in1) (s := { s with heap := h'.push (seqObj "list" (refsU ks).toArray 0), toks := tk }) (enc := fun x : NestedKey × Addr => x.1.data) hoL (each_refs ks) (er fun _ z => z) hal hso hsz (fun b hb => ?_) fun out hlen hout => ?_
  · have := hdp b hb
    rw [Around.in1_units]
    omega
  have eo := of_each hout
  obtain ⟨e', he'⟩ := PyProof.Rows.sortedHeap_at (vs := refsU ks) (out := out.toArray) hoL
  refine wpAny_pure ⟨_, rfl, .ref h'.objs.size, upd H h'.objs.size (.lst (refsV (ks.mergeSort (dataLe false fun x : NestedKey × Addr => x.1.data)))), I1.laid (t' := tk) (fun b u e => ?_) (Nat.le_refl _) ?_, rfl,
    q _ _ (List.mergeSort_perm _ _) (I1.hok.fresh (Nat.le_refl _))⟩
  · have hb : b < h'.objs.size := Heap.lt_size e
    rw [PyProof.Rows.sortedHeap_old (Nat.ne_of_lt hb) (by rw [size_push']; exact Nat.lt_succ_of_lt hb)]
    exact Heap.get?_push_of_some _ e
  · refine ⟨?_, out, e', ?_, he'⟩
    · unfold refsV
      rw [List.length_map, (List.mergeSort_perm _ _).length_eq]
      exact hsz
    · rw [eo]
      exact refs_rel _
end

/-! ### {k: True} -/
theorem de_empty {P : Program} {w : World} (h : Heap) : DE P w h.objs.size 0 [] (h.push { cls := .type "dict", data := .dict #[] }) :=
  ⟨_, #[], Heap.get?_push_size _ rfl, ⟨rfl, rfl, rfl⟩, rfl, rfl⟩
def tDispN (P : Program) (w : World) (tk tv : TE) : TE := fun σ H Q => ∀ p, H p = none → ∀ ep, tk σ (upd H p (.ext (DE P w p ep []))) fun y H1 => tv σ H1 fun v H2 =>
  ∃ b k, y = .ref b ∧ v = .bl true ∧ H2 p = some (.ext (DE P w p ep [])) ∧ KIs H2 k (.ref b) ∧ k.depth ≤ 8 ∧ ∀ H3, ND P w H3 p [(k, b)] → But p H2 H3 → Q (.ref p) H3
theorem pe_dispN {X : Cx} {k : Nat} {pos : Pos} {ke ve : Expr} {tk tv : TE} (hr : Room k X.A) (hk : PE X ke tk) (hv : PE X ve tv) : PE X (.Dict [some ke] [ve] pos) (tDispN X.prog X.w tk tv) := by
  refine ⟨fun pins s σ H Q I q => ?_⟩
  have hn := I.hok.fresh (Nat.le_refl s.heap.objs.size)
  have nm : (s.heap.objs.size == sysModules) = false := beq_eq_false_iff_ne.mpr (Ne.symm (Nat.ne_of_lt I.big))
  have I1 := I.laid (a := s.heap.objs.size) (o := .ext (DE X.prog X.w s.heap.objs.size 0 [])) (h' := s.heap.push { cls := .type "dict", data := .dict #[] }) (t' := s.toks) (fun _ _ z => Heap.get?_push_of_some _ z) (Nat.le_refl _) (DE.obj (de_empty s.heap))
  have hpl := pairTrees_length [some ke] [ve] X.env pos rfl rfl
  have hp0 : pairTrees [some ke] [ve] X.env pos ≠ [] := fun e => by
    rw [e] at hpl
    cases hpl
  have hp1 : (pairTrees [some ke] [ve] X.env pos).length ≤ 15 := by
    rw [hpl, List.length_singleton]
    decide
  rw [arm_eval_Dict, zip_pairTrees [some ke] [ve] X.env pos rfl rfl, dictDisplay_pairs _ hp0 (Nat.lt_of_le_of_lt hp1 (by decide))]
  refine wpAny_bind (wpAny_standAt (wpAny_bind (wpAny_subDictH (knd := nestedKind X.prog X.w) (Q := fun d s' => wpAny (model X.prog X.w) X.A (pure (Value.ref d)) (EP X pins σ Q) X.xe s') (room_n0 hr) hp1 ?_)))
  refine pairTrees_cons_walk (thn (hk.run pins _ σ _ _ I1 (q _ hn 0)) fun u s1 ⟨y, H1, I2, ry, q1⟩ => thn (hv.run pins s1 σ H1 _ I2 q1) fun w2 s2 ⟨v, H2, I3, rv, q2⟩ => pairTrees_nil_walk ?_)
  obtain ⟨b, k, rfl, rfl, hp, hki, hdp, q2⟩ := q2
  obtain rfl : u = Value.ref b := ry
  obtain rfl : w2 = Value.bool true := rv
  have n0 : ND X.prog X.w H2 s.heap.objs.size [] := ⟨⟨0, hp⟩, nm, fun _ z => (nomatch z), List.nodup_nil, Nat.zero_le _⟩
  refine ⟨[(k, b, Value.bool true)], ⟨rfl, rfl, ⟨KIs.nested I3 _ _ _ hki rfl, hdp⟩, True.intro⟩, n0.dict I3, fun h' tk dd hs => ?_⟩
  obtain ⟨o', es, ep, h1, h2, h3, h4, _, h5⟩ := dd
  have h4 : es.toList = (tri [(k, b)]).map (entryOfKey (nestedKind X.prog X.w)) := h4
  have bt : But s.heap.objs.size H2 (upd H2 s.heap.objs.size (.ext (DE X.prog X.w s.heap.objs.size ep [(k, b)]))) := But.upd
  have tp := n0.tups bt
  refine wpAny_pure ⟨.ref s.heap.objs.size, _, d_write (ob := .ext (DE X.prog X.w s.heap.objs.size ep [(k, b)])) I3 (by rw [hp]; exact True.intro) hs ⟨o', h1⟩ (DE.obj ⟨o', es, h1, h2, h3, h4⟩), rfl, q2 _ ⟨⟨ep, upd_same⟩, nm, fun x hx => ?_, ?_, ?_⟩ bt⟩
  · rw [List.mem_singleton.mp hx]
    exact ⟨KIs.keep tp _ _ hki, hdp⟩
  · simp
  · rw [sizeLine_eq, List.length_singleton]
    decide

/-! ### tuple * 1 -/
theorem tuple_mul1 (l : Addr) (items : Array Value) (n : Nat) (dd : Option Addr) (sl : Array (Option Value)) (u : Tok) (h0 : items.isEmpty = false) :
    Meets (Builtin.«tuple.__mul__» ⟨[.ref l, .int 1 u], []⟩) (fun _ R s => s.heap.get? l = some { cls := .type "tuple", dict := dd, data := .seq items n, slots := sl } ∧ R (.ok (.ret (Value.ref l))) s) :=
  .of_wp fun prog w A R s h => by
    obtain ⟨hp, g, d, tk, os⟩ := s
    obtain ⟨hl, h⟩ := h
    have f1 := AutoSeq1.idx_int
    wp_walk using wpAny_loadPart' hl
    exact ⟨_, rfl, h⟩
/-- (x,) * k, from 1 to 1000: by 1 it is the tuple itself -/
def rRepA (K : PySem.W.Frag) : R2 := fun x y H Q => ∃ l k x0, x = .ref l ∧ y = .int k ∧ H l = some (.tup [x0]) ∧ 1 ≤ k ∧ k ≤ 1000 ∧ (k = 1 → Q (.ref l) H) ∧ ∀ p, H p = none → Q (.ref p) (upd H p (.tup (List.replicate k.toNat x0)))
theorem flat_rep (x : V) : ∀ n : Nat, (List.replicate n [x]).flatten = List.replicate n x
  | 0 => rfl
  | n + 1 => by
    rw [List.replicate_succ, List.flatten_cons, flat_rep x n, List.replicate_succ]
    rfl
theorem op_repA {X : Cx} : OpR X (binaryOp .Mult) (rRepA X.K) := by
  intro pins s σ H x y v u Q I rx ry h
  obtain ⟨l, k, x0, rfl, rfl, hT, h1, h2, q1, q⟩ := h
  by_cases hk : k = 1
  · subst hk
    cases rx
    obtain ⟨t, rfl⟩ := ry
    obtain ⟨its, r, ⟨⟨cls, dd, data, sl⟩, ho, hc, n, hd⟩, hs⟩ := I.tuple (SqT.of hT)
    simp only at hc hd
    subst hc hd
    have hi : its.toArray.isEmpty = false := by
      cases r
      rfl
    exact wpAny_binaryOp_repeat_ref (T := "tuple") (U := "int") (by decide) ⟨_, ho, rfl⟩ (fun s' => typeIs_int s' 1 t) noFill_tuple_mul F.fills_int_mul F.slot_int_rmul repeat_tuple F.slot_int_index.lookup
      (call_meets F.slot_int_rmul (typeIs_int s 1 t) F.entry_int_rmul (F.args_int_rmul_2 _ _) (int_rmul_tuple 1 t l its.toArray n dd sl)
        ⟨ho, rfl, ⟨_, ho, rfl⟩, call_meets F.slot_tuple_mul ⟨_, ho, rfl⟩ F.entry_tuple_mul (F.args_tuple_mul_2 _ _) (tuple_mul1 l its.toArray n dd sl t hi) ⟨ho, .ref l, H, I, rfl, q1 rfl⟩⟩)
  · refine op_repT pins s σ H _ _ v u Q I rx ry ⟨l, k, [x0], rfl, rfl, SqT.of hT, by simp, by omega, h2, by simp, fun p hp => ?_⟩
    rw [flat_rep]
    exact q p hp
end N52
namespace K52
open PySem PySem.Spec PyProof.Rows L2 N52
abbrev St := L2.St

/-! ### the text -/
def topS (i : Nat) : Stmt := PySem.Challenge.pw_endnever_k52_whole_shut_machines_never_e.main.body.getD i (.Pass ⟨0, 0, 0, 0⟩)

/-! ### what stands -/
def isSeq : HO → Bool
  | .lst _ => true
  | .tup _ => true
  | _ => false
/-- lists and tuples stand -/
def Seqs (H H' : Hp) : Prop := ∀ b o, isSeq o = true → H b = some o → H' b = some o
theorem Seqs.refl (H : Hp) : Seqs H H := fun _ _ _ h => h
theorem Seqs.trans {H H1 H2 : Hp} (a : Seqs H H1) (b : Seqs H1 H2) : Seqs H H2 := fun c o z h => b c o z (a c o z h)
theorem Seqs.of {H H' : Hp} (s : Same H H') : Seqs H H' := fun b o _ h => s b o h
theorem Seqs.tups {H H' : Hp} (s : Seqs H H') : Tups H H' := fun b _ h => s b _ rfl h
theorem same_upd {H : Hp} {p : Addr} {o : HO} (h : H p = none) : Same H (upd H p o) := fun b x e => by
  rw [upd_ne (ne_of_none e h)]
  exact e
theorem butSeqs {P : Program} {w : World} {H H' : Hp} {d : Addr} {xs : Ks} (n : ND P w H d xs) (b : But d H H') : Seqs H H' := fun c o z e => b c o (fun q => by
  obtain ⟨ep, h⟩ := n.at_
  rw [q, h] at e
  cases e
  cases z) e
theorem But.trans {d : Addr} {H H1 H2 : Hp} (a : But d H H1) (b : But d H1 H2) : But d H H2 := fun c o z h => b c o z (a c o z h)
theorem But.of {d : Addr} {H H' : Hp} (s : Same H H') : But d H H' := fun b o _ h => s b o h
theorem But.refl (d : Addr) (H : Hp) : But d H H := fun _ _ _ h => h

/-! ### entries and machines in the abstract heap -/
def entV : Ent → List V
  | none => []
  | some (p, w, n) => [.int p, .int w, .int n]
def EntAt (H : Hp) (a : Addr) (e : Ent) : Prop := H a = some (.tup (entV e))
def RowAt (H : Hp) (a : Addr) (r : List Ent) : Prop := ∃ es : List Addr, H a = some (.lst (es.map V.ref)) ∧ Paired (EntAt H) es r
def MachAt (H : Hp) (a : Addr) (m : Mach) : Prop := ∃ rs : List Addr, H a = some (.lst (rs.map V.ref)) ∧ Paired (RowAt H) rs m
theorem RowAt.keep {H H' : Hp} (s : Seqs H H') {a : Addr} {r : List Ent} (h : RowAt H a r) : RowAt H' a r := by
  obtain ⟨es, h1, h2⟩ := h
  exact ⟨es, s _ _ rfl h1, Paired.mapP h2 fun b e x => s _ _ rfl x⟩
theorem MachAt.keep {H H' : Hp} (s : Seqs H H') {a : Addr} {m : Mach} (h : MachAt H a m) : MachAt H' a m := by
  obtain ⟨rs, h1, h2⟩ := h
  exact ⟨rs, s _ _ rfl h1, Paired.mapP h2 fun b r x => RowAt.keep s x⟩
theorem paired_at {α β : Type} {F : α → β → Prop} {xs : List α} {ys : List β} (h : Paired F xs ys) {i : Nat} {y : β} (e : ys[i]? = some y) : ∃ x, xs[i]? = some x ∧ F x y := by
  have hl : xs.length = ys.length := Paired.length h
  have hi : i < xs.length := by rw [hl]; exact (List.getElem?_eq_some_iff.mp e).1
  obtain ⟨b, hb, r⟩ := paired_get h (List.getElem?_eq_getElem hi)
  rw [e] at hb
  cases hb
  exact ⟨xs[i], List.getElem?_eq_getElem hi, r⟩
theorem ent_look {H : Hp} {a : Addr} {m : Mach} (h : MachAt H a m) {R S : Nat} (ok : MachOk m R S) {r s : Int} (hr : 0 ≤ r ∧ r < (R : Int)) (hs : 0 ≤ s ∧ s < (S : Int)) :
    ∃ (rs : List Addr) (b : Addr) (es : List Addr) (c : Addr), H a = some (.lst (rs.map V.ref)) ∧ atI (rs.map V.ref) r = some (.ref b) ∧ H b = some (.lst (es.map V.ref)) ∧ atI (es.map V.ref) s = some (.ref c) ∧ EntAt H c (ent m r s) ∧ EntOk R S (ent m r s) := by
  obtain ⟨row, h1, h2, h3, h4⟩ := ent_at ok hr hs
  obtain ⟨rs, hH, hp⟩ := h
  obtain ⟨b, hb, es, hes, hq⟩ := paired_at hp h1
  obtain ⟨c, hc, hE⟩ := paired_at hq h3
  refine ⟨rs, b, es, c, hH, ?_, hes, ?_, hE, h4⟩
  · exact at_of (by omega) (show (rs.map V.ref)[r.toNat]? = _ by rw [List.getElem?_map, hb]; rfl)
  · exact at_of (by omega) (show (es.map V.ref)[s.toNat]? = _ by rw [List.getElem?_map, hc]; rfl)

section
variable {P : Program} {w : World} {K : PySem.W.Frag} {mg : Str → Option Value} {base : Heap}
theorem hu64 {A : Around} {k : Nat} (hr : Room k A) : A.units + 64 < cLine := hr.units
theorem blT {c : Prop} [Decidable c] (h : c) : V.bl (decide c) = V.bl true := congrArg V.bl (decide_eq_true h)
theorem blF {c : Prop} [Decidable c] (h : ¬ c) : V.bl (decide c) = V.bl false := congrArg V.bl (decide_eq_false h)
/-! ### is_entry -/
abbrev sIsEntry : Stmt := topS 7
theorem sc_is_entry : FnScope ["entry", "rows", "signs"] ["entry", "rows", "signs"] (defScope sIsEntry) := ⟨rfl, rfl, rfl, by decide +kernel, rfl, by decide +kernel, by decide +kernel⟩
def spIsEntry : Sp := fun vs H Q _ => ∃ (a : Addr) (e : Ent) (R S : Nat), vs = [.ref a, .int R, .int S] ∧ EntAt H a e ∧ EntOk R S e ∧ ∀ H', Same H H' → Q (.bl true) H'
theorem ok_is_entry {f : Addr} {fd : FuncData} {k : Nat} (F : Fun K "is_entry" "is_entry" sIsEntry f fd) (ml : mg "len" = none) : FnOk P w K mg base CX0 (k + 1) f fd ["entry", "rows", "signs"] spIsEntry := by
  refine F.ok sc_is_entry (fun vs H Q E h => ?_) (fun cdv A outer s H vs Q E hr h => ?_)
  · obtain ⟨a, e, R, S, rfl, _⟩ := h
    rfl
  · obtain ⟨a, e, R, S, rfl, hE, hok, q⟩ := h
    refine ⟨_, pss_cons (ps_if (pt_cmpR (op_eqD hr.units) (pv 0) (pe_tup pa_nil) (nomark _)) (pss_one (ps_ret pe_bl)) pss_nil)
      (pss_one (ps_ret (pe_and (pe_cmpR op_eq (pe_callB call_len_seq (by rfl) ml PySem.boot_len (pa_cons (pv 0) pa_nil)) pe_int (nomark _))
        (pe_and (pe_chain op_le op_lt pe_int (pe_ix ix_tup (pv 0) pe_int (fun _ _ => rfl)) (pv 2))
        (pe_and (pe_cmpR op_in_seq (pe_ix ix_tup (pv 0) pe_int (fun _ _ => rfl)) (pe_lst (pa_cons (pe_un un_neg pe_int) (pa_cons pe_int pa_nil))) (by rfl))
        (pe_one (pe_chain op_le op_lt pe_int (pe_ix ix_tup (pv 0) pe_int (fun _ _ => rfl)) (pv 1)))))))), ?_⟩
    have hT : ∀ {H' : Hp}, Same H H' → SqT K H' a (entV e) := fun s => .inl (.inl (s _ _ hE))
    refine ⟨.ref a, rfl, Nat.zero_le _, fun p np => ?_⟩
    have s1 : Same H (upd H p (.tup [])) := same_upd np
    cases e with
    | none =>
      refine ⟨.tuple [], .tuple [], .tup (hT s1) .nil, .tup (.inl (.inl upd_same)) .nil, by decide +kernel, by decide +kernel, true, ?_, iteT ?_⟩
      · decide +kernel
      · exact q _ s1
    | some t =>
      obtain ⟨p0, w0, n0⟩ := t
      obtain ⟨h1, h2, h3⟩ := hok
      refine ⟨.tuple [.int p0, .int w0, .int n0], .tuple [], .tup (hT s1) (.cons (.int _) (.cons (.int _) (.cons (.int _) .nil))), .tup (.inl (.inl upd_same)) .nil, by rfl, by decide +kernel, false, ?_, iteF ?_⟩
      · rfl
      refine ⟨.ref a, rfl, a, _, rfl, .inr (hT s1), rfl, true, rfl, iteT ?_⟩
      refine ⟨.ref a, rfl, a, _, 0, .int p0, rfl, rfl, hT s1, rfl, 0, p0, rfl, rfl, true, ?_, iteT ⟨_, rfl, p0, S, rfl, rfl, true, ?_, iteT ?_⟩⟩
      · exact blT h1.1
      · exact blT h1.2
      refine ⟨.ref a, rfl, a, _, 1, .int w0, rfl, rfl, hT s1, rfl, 1, rfl, by show 2 ≤ sizeLine; decide, fun p2 np2 => ⟨p2, [.int (-1), .int 1], rfl, .inl (.inl (.inl upd_same)), rfl, rfl, true, ?_, iteT ?_⟩⟩
      · rcases h2 with rfl | rfl <;> rfl
      have s2 : Same H (upd (upd H p (.tup [])) p2 (.lst [.int (-1), .int 1])) := s1.trans (same_upd np2)
      refine ⟨.ref a, rfl, a, _, 2, .int n0, rfl, rfl, hT s2, rfl, 0, n0, rfl, rfl, true, ?_, iteT ⟨_, rfl, n0, R, rfl, rfl, ?_⟩⟩
      · exact blT h3.1
      · show Q (V.bl (decide (n0 < (R : Int)))) _
        rw [blT h3.2]
        exact q _ s2
end
end K52
namespace K52
open PySem PySem.Spec PyProof.Rows L2 N52
section
variable {P : Program} {w : World} {K : PySem.W.Frag} {mg : Str → Option Value} {base : Heap}
theorem row_at {H : Hp} {a : Addr} {m : Mach} (h : MachAt H a m) {rs : List Addr} (hH : H a = some (.lst (rs.map V.ref))) {i : Nat} {x : V} (hx : (rs.map V.ref)[i]? = some x) :
    ∃ b row, x = .ref b ∧ m[i]? = some row ∧ RowAt H b row := by
  obtain ⟨rs', h1, h2⟩ := h
  rw [h1] at hH
  have e : rs'.map V.ref = rs.map V.ref := by
    injection hH with q
    injection q
  rw [← e, List.getElem?_map] at hx
  cases hb : rs'[i]? with
  | none => rw [hb] at hx; cases hx
  | some b =>
    rw [hb] at hx
    obtain ⟨row, hr, hR⟩ := paired_get h2 hb
    exact ⟨b, row, (Option.some.inj hx).symm, hr, hR⟩
theorem true_all (n : Nat) : (List.replicate n true).all id = true := by
  induction n with
  | zero => rfl
  | succ n ih => rw [List.replicate_succ, List.all_cons, ih]; rfl
theorem bl_rep (n : Nat) : (List.replicate n true).map V.bl ++ [V.bl true] = (List.replicate (n + 1) true).map V.bl := by
  rw [List.replicate_succ', List.map_append]
  rfl
/-- len of a list or a tuple, the written part named (within a comprehension the context is another) -/
def rLenS (K : PySem.W.Frag) : List V → Hp → VK → Prop := fun xs H Q => ∃ p ys, xs = [.ref p] ∧ (SqL K H p ys ∨ SqT K H p ys) ∧ Q (.int ys.length) H
theorem boot_all : bootBuiltins "all" = some (.builtin "all") := by decide +kernel
/-! ### is_machine -/
abbrev scRow : Scope := { kind := .function, names := [(".0", .local), ("row", .local), ("all", .globalImplicit), ("rows", .cell), ("signs", .cell)], isGenerator := false, isCoroutine := false }
abbrev sIsMach : Stmt := topS 8
theorem sc_is_machine : FnScope ["machine", "rows", "signs", "row", "entry"] ["machine"] (defScope sIsMach) := ⟨rfl, rfl, rfl, by decide +kernel, rfl, by decide +kernel, by decide +kernel⟩
structure Sized (m : Mach) (R S : Nat) : Prop where
  ok : MachOk m R S
  r : 1 ≤ R ∧ R ≤ 4
  s : 2 ≤ S ∧ S ≤ 4
def spIsMach : Sp := fun vs H Q _ => ∃ (a : Addr) (m : Mach) (R S : Nat), vs = [.ref a] ∧ MachAt H a m ∧ Sized m R S ∧ ∀ H', Same H H' → Q (.bl true) H'
theorem yes {σ : L2.St} {H : Hp} {F G : Hp → Prop} (h : F H) : tYes σ H (fun b H3 => if b = true then F H3 else G H3) := by
  show if true = true then F H else G H
  rw [if_pos rfl]
  exact h
theorem small4 {n : Nat} (h : n ≤ 4) : n < sizeLine := Nat.lt_of_le_of_lt h (by decide)
theorem ok_is_machine {f fE : Addr} {fd fdE : FuncData} {k : Nat} {tR tS : Tok} (F : Fun K "is_machine" "is_machine" sIsMach f fd) (ml : mg "len" = none) (ma : mg "all" = none) (mR : mg "MOST_ROWS" = some (.int 4 tR)) (mS : mg "MOST_SIGNS" = some (.int 4 tS))
    (GE : FnOk P w K mg base CX0 k fE fdE ["entry", "rows", "signs"] spIsEntry) (kE : PySem.W.keepIn K (.ref fE) = true) (bE : Binds K fdE ["entry", "rows", "signs"] []) (gE : mg "is_entry" = some (.ref fE)) : FnOk P w K mg base CX0 (k + 1) f fd ["machine"] spIsMach := by
  refine F.ok sc_is_machine (fun vs H Q E h => ?_) (fun cdv A outer s H vs Q E hr h => ?_)
  · obtain ⟨a, m, R, S, rfl, _⟩ := h
    rfl
  · obtain ⟨a, m, R, S, rfl, hM, ⟨ok, hR, hS⟩, q⟩ := h
    refine ⟨_, pss_cons (ps_set (i := 1) sc_is_machine.nd rfl (.inr rfl) (pe_callB call_len_seq (by rfl) ml PySem.boot_len (pa_cons (pv 0) pa_nil)))
      (pss_cons (ps_if (pt_not (pt_chain op_le op_le pe_int (pv 1) (pe_glob (v := .int 4) rfl mR ⟨_, rfl⟩))) (pss_one (ps_ret pe_bl)) pss_nil)
      (pss_cons (ps_set (i := 2) sc_is_machine.nd rfl (.inr rfl) (pe_callB call_len_seq (by rfl) ml PySem.boot_len (pa_cons (pe_ix ix_list (pv 0) pe_int (fun _ _ => rfl)) pa_nil)))
      (pss_cons (ps_if (PW.pt (pw_or (pt_not (pt_chain op_le op_le pe_int (pv 2) (pe_glob (v := .int 4) rfl mS ⟨_, rfl⟩))) (pw_or1 (pt_not (pt_val (pe_callB (cr_all rfl) (by rfl) ma boot_all (pa_cons
            (pe_lc (own := [("row", 3)]) (g := gName 3) (tt := tYes) (by rfl) sc_is_machine.nd (pi_list (pv 0)) (blkOk_by (own := [("row", 3)]) (N := ["machine", "rows", "signs", "row", "entry"]) (sc := defScope sIsMach) (by decide +kernel))
              (fun _ _ _ _ _ => pg_name (i := 3) sc_is_machine.nd rfl (Or.inl rfl)) (fun _ _ _ _ _ => pts_nil)
              (fun _ _ _ _ _ => pe_cmpR op_eq (pe_callB (r := rLenS K) call_len_seq (by rfl) ml PySem.boot_len (pa_cons (pv 3) pa_nil)) (pv 2) (nomark _))) pa_nil))))))) (pss_one (ps_ret pe_bl)) pss_nil)
      (pss_one (ps_ret (pe_callB (cr_all rfl) (by rfl) ma boot_all (pa_cons
            (pe_lc (own := [("row", 3)]) (g := gName 3) (tt := tYes) (by rfl) sc_is_machine.nd (pi_list (pv 0)) (blkOk_by (own := [("row", 3)]) (N := ["machine", "rows", "signs", "row", "entry"]) (sc := defScope sIsMach) (by decide +kernel))
              (fun _ _ _ _ _ => pg_name (i := 3) sc_is_machine.nd rfl (Or.inl rfl)) (fun _ _ _ _ _ => pts_nil)
              (fun _ _ _ _ _ => pe_callB (r := rAll K) (cr_all rfl) (by rfl) ma boot_all (pa_cons
                (pe_lc (own := [("entry", 4)]) (wi := iList K (tVar 3)) (g := gName 4) (tt := tYes) (by rfl) sc_is_machine.nd (pi_list (pv 3)) (blkOk_by (own := [("entry", 4)]) (N := ["machine", "rows", "signs", "row", "entry"]) (sc := scRow) (by decide +kernel)) (fun _ _ _ _ _ => pg_name (i := 4) sc_is_machine.nd rfl (Or.inl rfl)) (fun _ _ _ _ _ => pts_nil) (fun _ _ _ _ _ => pe_call GE hr (by rfl) gE kE bE .nil pass0 (pa_cons (pv 4) (pa_cons (pv 1) (pa_cons (pv 2) pa_nil))))) pa_nil))) pa_nil))))))), ?_⟩
    obtain ⟨rs, hH, hp⟩ := id hM
    have hlen : rs.length = R := by rw [Paired.length hp, ok.len]
    have hrl : (rs.map V.ref).length = R := by rw [List.length_map, hlen]
    refine ⟨.ref a, rfl, a, _, rfl, .inl (SqL.of hH), ?_⟩
    rw [hrl]
    refine ⟨_, rfl, 1, R, rfl, rfl, true, blT (by omega), iteT ⟨R, 4, rfl, rfl, true, blT (by omega), ?_⟩⟩
    refine iteF ?_
    -- how many signs
    obtain ⟨r0, hr0⟩ : ∃ r0, m[0]? = some r0 := ⟨m[0]'(by rw [ok.len]; omega), List.getElem?_eq_getElem _⟩
    obtain ⟨b0, hb0, es0, hE0, hp0⟩ := paired_at hp hr0
    have hr0S := (ok.rows r0 (List.mem_of_getElem? hr0)).1
    have he0 : (es0.map V.ref).length = S := by rw [List.length_map, Paired.length hp0, hr0S]
    refine ⟨.ref a, rfl, a, _, 0, .ref b0, rfl, rfl, SqL.of hH, at_of (j := 0) rfl (by rw [List.getElem?_map, hb0]; rfl), b0, _, rfl, .inl (SqL.of hE0), ?_⟩
    rw [he0]
    -- the second test
    refine ⟨_, rfl, 2, S, rfl, rfl, true, blT (by omega), iteT ⟨S, 4, rfl, rfl, true, blT (by omega), iteF ?_⟩⟩
    refine ⟨.ref a, rfl, a, rfl, ⟨_, SqL.of hH⟩, fun D hD => lc_list (K := K) (a := a) (xs := rs.map V.ref) (fun i H' => Same H H' ∧ H' D = some (.lst ((List.replicate i true).map V.bl))) ⟨same_upd hD, upd_same⟩ (fun i H' _ h => SqL.of (h.1 _ _ hH)) ?_ ?_⟩
    · rintro i x H' hx ⟨sm, hD'⟩
      obtain ⟨b, row, rfl, hm, hRow⟩ := row_at hM hH hx
      have hi : i < R := by
        have := (List.getElem?_eq_some_iff.mp hm).1
        rw [ok.len] at this
        exact this
      obtain ⟨es, hE, hq⟩ := hRow
      have hlS := (ok.rows row (List.mem_of_getElem? hm)).1
      have heS : (es.map V.ref).length = S := by rw [List.length_map, Paired.length hq, hlS]
      refine ⟨rfl, yes ⟨.ref b, rfl, b, _, rfl, .inl (SqL.of (sm _ _ hE)), ?_⟩⟩
      rw [heS]
      refine ⟨_, rfl, rfl, _, hD', ?_, ?_⟩
      · rw [List.length_map, List.length_replicate]
        exact small4 (by omega)
      · refine ⟨fun c o e => ?_, ?_⟩
        · rw [upd_ne (ne_of_none e hD)]
          exact sm _ _ e
        · rw [upd_same, decide_eq_true rfl, bl_rep]
    · rintro H1 ⟨sm, hD'⟩
      refine ⟨D, _, rfl, SqL.of hD', true, ?_, ?_⟩
      · rw [true_all]
      refine iteF ?_
      -- the return
      have hM1 : MachAt H1 a m := hM.keep (Seqs.of sm)
      have hH1 := sm _ _ hH
      refine ⟨.ref a, rfl, a, rfl, ⟨_, SqL.of hH1⟩, fun D2 hD2 => lc_list (K := K) (a := a) (xs := rs.map V.ref) (fun i H' => Same H1 H' ∧ H' D2 = some (.lst ((List.replicate i true).map V.bl))) ⟨same_upd hD2, upd_same⟩ (fun i H' _ h => SqL.of (h.1 _ _ hH1)) ?_ ?_⟩
      · rintro i x H2 hx ⟨sm2, hD2'⟩
        obtain ⟨b, row, rfl, hm, hRow⟩ := row_at hM1 hH1 hx
        have hi : i < R := by
          have := (List.getElem?_eq_some_iff.mp hm).1
          rw [ok.len] at this
          exact this
        have hRow2 := hRow.keep (Seqs.of sm2)
        obtain ⟨es, hE, hq⟩ := id hRow2
        obtain ⟨hlS, hent⟩ := ok.rows row (List.mem_of_getElem? hm)
        refine ⟨rfl, yes ⟨.ref b, rfl, b, rfl, ⟨_, SqL.of hE⟩, fun D3 hD3 => lc_list (K := K) (a := b) (xs := es.map V.ref) (fun j H' => Same H2 H' ∧ H' D3 = some (.lst ((List.replicate j true).map V.bl))) ⟨same_upd hD3, upd_same⟩ (fun j H' _ h => SqL.of (h.1 _ _ hE)) ?_ ?_⟩⟩
        · rintro j x H3 hx ⟨sm3, hD3'⟩
          rw [List.getElem?_map] at hx
          cases hc : es[j]? with
          | none => rw [hc] at hx; cases hx
          | some c =>
            rw [hc] at hx
            obtain rfl : V.ref c = x := Option.some.inj hx
            obtain ⟨e, he, hEnt⟩ := paired_get hq hc
            have hj : j < S := by
              have := (List.getElem?_eq_some_iff.mp he).1
              omega
            refine ⟨rfl, yes ⟨.ref c, rfl, .int R, rfl, .int S, rfl, c, e, R, S, rfl, sm3 _ _ hEnt, hent e (List.mem_of_getElem? he), fun H4 sm4 => ⟨_, sm4 _ _ hD3', ?_, ?_⟩⟩⟩
            · rw [List.length_map, List.length_replicate]
              exact small4 (by omega)
            · refine ⟨fun z o e => ?_, ?_⟩
              · rw [upd_ne (ne_of_none e hD3)]
                exact sm4 _ _ (sm3 _ _ e)
              · rw [upd_same, bl_rep]
        · rintro H3 ⟨sm3, hD3'⟩
          refine ⟨D3, _, rfl, SqL.of hD3', _, sm3 _ _ hD2', ?_, ?_⟩
          · rw [List.length_map, List.length_replicate]
            exact small4 (by omega)
          · refine ⟨fun z o e => ?_, ?_⟩
            · rw [upd_ne (ne_of_none e hD2)]
              exact sm3 _ _ (sm2 _ _ e)
            · rw [upd_same, true_all, bl_rep]
      · rintro H2 ⟨sm2, hD2'⟩
        refine ⟨D2, _, rfl, SqL.of hD2', ?_⟩
        rw [true_all]
        exact q _ (sm.trans sm2)
end
end K52
namespace K52
open PySem PySem.Spec PyProof.Rows L2 N52
section
variable {P : Program} {w : World} {K : PySem.W.Frag} {mg : Str → Option Value} {base : Heap}
/-! ### must_machine -/
abbrev sMust : Stmt := topS 9
theorem sc_must : FnScope ["machine"] ["machine"] (defScope sMust) := ⟨rfl, rfl, rfl, by decide +kernel, rfl, by decide +kernel, by decide +kernel⟩
def spMust : Sp := fun vs H Q _ => ∃ (a : Addr) (m : Mach) (R S : Nat), vs = [.ref a] ∧ MachAt H a m ∧ Sized m R S ∧ ∀ H', Same H H' → Q .non H'
theorem ok_must {f fI : Addr} {fd fdI : FuncData} {k : Nat} (F : Fun K "must_machine" "must_machine" sMust f fd)
    (GI : FnOk P w K mg base CX0 k fI fdI ["machine"] spIsMach) (kI : PySem.W.keepIn K (.ref fI) = true) (bI : Binds K fdI ["machine"] []) (gI : mg "is_machine" = some (.ref fI)) : FnOk P w K mg base CX0 (k + 1) f fd ["machine"] spMust := by
  refine F.ok sc_must (fun vs H Q E h => ?_) (fun cdv A outer s H vs Q E hr h => ?_)
  · obtain ⟨a, m, R, S, rfl, _⟩ := h
    rfl
  · obtain ⟨a, m, R, S, rfl, hM, hz, q⟩ := h
    refine ⟨_, pss_one (ps_if (pt_not (pt_val (pe_call GI hr (by rfl) gI kI bI .nil pass0 (pa_cons (pv 0) pa_nil)))) pss_never pss_nil), ?_⟩
    exact ⟨.ref a, rfl, a, m, R, S, rfl, hM, hz, fun H' sm => ⟨true, rfl, iteF (q H' sm)⟩⟩
/-! ### is_width -/
abbrev sWidth : Stmt := topS 12
theorem sc_width : FnScope ["machine", "width", "many", "k"] ["machine", "width"] (defScope sWidth) := ⟨rfl, rfl, rfl, by decide +kernel, rfl, by decide +kernel, by decide +kernel⟩
def spWidth : Sp := fun vs H Q _ => ∃ (a : Addr) (m : Mach) (R S W : Nat), vs = [.ref a, .int W] ∧ MachAt H a m ∧ Sized m R S ∧ 1 ≤ W ∧ S ^ W ≤ 16 ∧ Q (.bl true) H
theorem wid_le {S W : Nat} (hS : 2 ≤ S) (h : S ^ W ≤ 16) : W ≤ 4 := by
  rcases Nat.lt_or_ge 4 W with q | q
  · have h1 : (2 : Nat) ^ 5 ≤ 2 ^ W := Nat.pow_le_pow_right (by decide) q
    have h2 : (2 : Nat) ^ W ≤ S ^ W := Nat.pow_le_pow_left hS W
    have h3 : (2 : Nat) ^ 5 = 32 := by decide
    omega
  · exact q
theorem pow_le16 {S W i : Nat} (hS : 2 ≤ S) (h : S ^ W ≤ 16) (hi : i ≤ W) : S ^ i ≤ 16 := Nat.le_trans (Nat.pow_le_pow_right (by omega) hi) h
theorem ok_width {f : Addr} {fd : FuncData} {k : Nat} {tW : Tok} (F : Fun K "is_width" "is_width" sWidth f fd) (ml : mg "len" = none) (mr : mg "range" = none) (mW : mg "MOST_WORDS" = some (.int 16 tW)) : FnOk P w K mg base CX0 (k + 1) f fd ["machine", "width"] spWidth := by
  refine F.ok sc_width (fun vs H Q E h => ?_) (fun cdv A outer s H vs Q E hr h => ?_)
  · obtain ⟨a, m, R, S, W, rfl, _⟩ := h
    rfl
  · obtain ⟨a, m, R, S, W, rfl, hM, ⟨ok, hR, hS⟩, h1, h16, q⟩ := h
    refine ⟨_, pss_cons (ps_if (PW.pt (pw_or (pt_cmpR op_lt (pv 1) pe_int (nomark _)) (pw_or1 (pt_cmpR op_gt (pv 1) (pe_glob (v := .int 16) rfl mW ⟨_, rfl⟩) (nomark _))))) (pss_one (ps_ret pe_bl)) pss_nil)
      (pss_cons (ps_set (i := 2) sc_width.nd rfl (.inl rfl) pe_int)
      (pss_cons (ps_for PassesOwn.never rfl (pi_range1 (by rfl) mr (pa_cons (pv 1) pa_nil)) (pg_name (i := 3) sc_width.nd rfl (.inl rfl))
        (pss_one (ps_set (i := 2) sc_width.nd rfl (.inl rfl) (pe_op op_mul (pv 2) (pe_callB call_len_seq (by rfl) ml PySem.boot_len (pa_cons (pe_ix ix_list (pv 0) pe_int (fun _ _ => rfl)) pa_nil))))))
      (pss_one (ps_ret (pe_cmpR op_le (pv 2) (pe_glob (v := .int 16) rfl mW ⟨_, rfl⟩) (nomark _)))))), ?_⟩
    have hW4 := wid_le hS.1 h16
    refine ⟨.int W, rfl, W, 1, rfl, rfl, false, blF (by omega), iteF ⟨.int W, rfl, W, 16, rfl, rfl, false, blF (by omega), iteF ?_⟩⟩
    -- the loop
    obtain ⟨rs, hH, hp⟩ := id hM
    obtain ⟨r0, hr0⟩ : ∃ r0, m[0]? = some r0 := ⟨m[0]'(by rw [ok.len]; omega), List.getElem?_eq_getElem _⟩
    obtain ⟨b0, hb0, es0, hE0, hp0⟩ := paired_at hp hr0
    have hr0S := (ok.rows r0 (List.mem_of_getElem? hr0)).1
    have he0 : (es0.map V.ref).length = S := by rw [List.length_map, Paired.length hp0, hr0S]
    refine ⟨.int W, rfl, W, rfl, by omega, by omega, for_range (n := W) (fun i σ H' => ∃ y, σ = [some (.ref a), some (.int W), some (.int ((S ^ i : Nat) : Int)), y] ∧ H' = H) ⟨none, rfl, rfl⟩ ?_ ?_⟩
    · rintro i σ H' hi ⟨y, rfl, rfl⟩
      have hle := pow_le16 hS.1 h16 (Nat.le_of_lt hi)
      refine ⟨.int ((S ^ i : Nat) : Int), rfl, .ref a, rfl, a, _, 0, .ref b0, rfl, rfl, SqL.of hH, at_of (j := 0) rfl (by rw [List.getElem?_map, hb0]; rfl), b0, _, rfl, .inl (SqL.of hE0), ?_⟩
      rw [he0]
      refine ⟨_, _, rfl, rfl, .inl ⟨by omega, by omega⟩, some (.int (0 + (i : Int))), ?_, rfl⟩
      rw [Nat.pow_succ, Int.natCast_mul]
      rfl
    · rintro σ H' ⟨y, rfl, rfl⟩
      refine ⟨_, rfl, _, _, rfl, rfl, ?_⟩
      show Q (V.bl (decide (((S ^ W : Nat) : Int) ≤ 16))) _
      rw [blT (by omega)]
      exact q
/-! ### entry_for -/
abbrev sEntFor : Stmt := topS 15
theorem sc_entfor : FnScope ["machine", "middle"] ["machine", "middle"] (defScope sEntFor) := ⟨rfl, rfl, rfl, by decide +kernel, rfl, by decide +kernel, by decide +kernel⟩
def spEntFor : Sp := fun vs H Q _ => ∃ (a t : Addr) (m : Mach) (R S : Nat) (l r : V) (row sign : Int), vs = [.ref a, .ref t] ∧ MachAt H a m ∧ MachOk m R S ∧ H t = some (.tup [l, .int row, .int sign, r]) ∧ (0 ≤ row ∧ row < (R : Int)) ∧ (0 ≤ sign ∧ sign < (S : Int)) ∧
  ∀ c, EntAt H c (ent m row sign) → EntOk R S (ent m row sign) → Q (.ref c) H
theorem ok_entfor {f : Addr} {fd : FuncData} {k : Nat} (F : Fun K "entry_for" "entry_for" sEntFor f fd) : FnOk P w K mg base CX0 (k + 1) f fd ["machine", "middle"] spEntFor := by
  refine F.ok sc_entfor (fun vs H Q E h => ?_) (fun cdv A outer s H vs Q E hr h => ?_)
  · obtain ⟨a, t, m, R, S, l, r, row, sign, rfl, _⟩ := h
    rfl
  · obtain ⟨a, t, m, R, S, l, r, row, sign, rfl, hM, ok, hT, h1, h2, q⟩ := h
    refine ⟨_, pss_one (ps_ret (pe_ix ix_list (pe_ix ix_list (pv 0) (pe_ix ix_tup (pv 1) pe_int (fun _ _ => rfl)) (fun _ _ => rfl)) (pe_ix ix_tup (pv 1) pe_int (fun _ _ => rfl)) (fun _ _ => rfl))), ?_⟩
    obtain ⟨rs, b, es, c, g1, g2, g3, g4, g5, g6⟩ := ent_look hM ok h1 h2
    exact ⟨.ref a, rfl, .ref t, rfl, t, _, 1, .int row, rfl, rfl, SqT.of hT, rfl, a, _, row, .ref b, rfl, rfl, SqL.of g1, g2, .ref t, rfl, t, _, 2, .int sign, rfl, rfl, SqT.of hT, rfl, b, _, sign, .ref c, rfl, rfl, SqL.of g3, g4, q c g5 g6⟩
end
end K52
namespace K52
open PySem PySem.Spec PyProof.Rows L2 N52
/-! ### words and middles as keys -/
def wk (x : Wd) : NestedKey := .tup (x.map .num)
def mk (x : Mid) : NestedKey := .tup [wk x.l, .num x.row, .num x.sign, wk x.r]
abbrev wV (x : Wd) : List V := x.map V.int
theorem num_inj : ∀ {a b : Wd}, a.map NestedKey.num = b.map NestedKey.num → a = b
  | [], [], _ => rfl
  | [], _ :: _, h => by cases h
  | _ :: _, [], h => by cases h
  | x :: a, y :: b, h => by
    rw [List.map_cons, List.map_cons] at h
    injection h with h1 h2
    injection h1 with h1
    rw [h1, num_inj h2]
theorem wk_inj {a b : Wd} (h : wk a = wk b) : a = b := by
  unfold wk at h
  injection h with h
  exact num_inj h
theorem mk_inj {a b : Mid} (h : mk a = mk b) : a = b := by
  unfold mk at h
  injection h with h
  injection h with h1 h
  injection h with h2 h
  injection h with h3 h
  injection h with h4 h
  injection h2 with h2
  injection h3 with h3
  obtain ⟨al, ar, as, arr⟩ := a
  obtain ⟨bl, br, bs, brr⟩ := b
  have e1 := wk_inj h1
  have e4 := wk_inj h4
  simp only at e1 h2 h3 e4
  rw [e1, h2, h3, e4]
theorem kall_ints (H : Hp) : ∀ x : Wd, KAll H (x.map .num) (wV x)
  | [] => .nil
  | a :: x => .cons (.num a) (kall_ints H x)
theorem wk_is {H : Hp} {a : Addr} {x : Wd} (h : H a = some (.tup (wV x))) : KIs H (wk x) (.ref a) := .tup h (kall_ints H x)
theorem kall_inv {H : Hp} : ∀ {x : Wd} {vs : List V}, KAll H (x.map .num) vs → vs = wV x
  | [], _, h => by cases h; rfl
  | a :: x, _, h => by
    rw [List.map_cons] at h
    cases h with
    | cons h1 h2 =>
      cases h1
      rw [kall_inv h2]
      rfl
theorem wk_inv {H : Hp} {v : V} {x : Wd} (h : KIs H (wk x) v) : ∃ a, v = .ref a ∧ H a = some (.tup (wV x)) := by
  unfold wk at h
  cases h with
  | tup h1 h2 =>
    rw [kall_inv h2] at h1
    exact ⟨_, rfl, h1⟩
theorem mk_is {H : Hp} {a l r : Addr} {x : Mid} (h : H a = some (.tup [.ref l, .int x.row, .int x.sign, .ref r])) (hl : H l = some (.tup (wV x.l))) (hr : H r = some (.tup (wV x.r))) : KIs H (mk x) (.ref a) :=
  .tup h (.cons (wk_is hl) (.cons (.num _) (.cons (.num _) (.cons (wk_is hr) .nil))))
theorem mk_inv {H : Hp} {a : Addr} {x : Mid} (h : KIs H (mk x) (.ref a)) : ∃ l r, H a = some (.tup [.ref l, .int x.row, .int x.sign, .ref r]) ∧ H l = some (.tup (wV x.l)) ∧ H r = some (.tup (wV x.r)) := by
  unfold mk at h
  cases h with
  | tup h1 h2 =>
    cases h2 with
    | cons g1 h2 =>
      cases h2 with
      | cons g2 h2 =>
        cases h2 with
        | cons g3 h2 =>
          cases h2 with
          | cons g4 h2 =>
            cases h2
            cases g2
            cases g3
            obtain ⟨l, rfl, e1⟩ := wk_inv g1
            obtain ⟨r, rfl, e2⟩ := wk_inv g4
            exact ⟨l, r, h1, e1, e2⟩
theorem depth_nums : ∀ x : Wd, NestedKey.depthAll (x.map .num) = 0
  | [] => by rw [List.map_nil, NestedKey.depthAll]
  | a :: x => by
    rw [List.map_cons, NestedKey.depthAll, depth_nums x, NestedKey.depth]
    rfl
theorem wk_depth (x : Wd) : (wk x).depth = 1 := by
  unfold wk
  rw [NestedKey.depth, depth_nums]
theorem mk_depth (x : Mid) : (mk x).depth = 2 := by
  unfold mk
  simp [NestedKey.depth, NestedKey.depthAll, wk_depth]
/-! ### .. as data -/
theorem datas_nums : ∀ x : Wd, NestedKey.datas (x.map .num) = x.map .int
  | [] => by rw [List.map_nil, NestedKey.datas]; rfl
  | a :: x => by rw [List.map_cons, NestedKey.datas, datas_nums x, NestedKey.data]; rfl
def wD (x : Wd) : PyData := .tuple (x.map .int)
def mD (x : Mid) : PyData := .tuple [wD x.l, .int x.row, .int x.sign, wD x.r]
theorem wk_data (x : Wd) : (wk x).data = wD x := by
  unfold wk wD
  rw [NestedKey.data, datas_nums]
theorem mk_data (x : Mid) : (mk x).data = mD x := by
  unfold mk mD
  simp only [NestedKey.data, NestedKey.datas, wk_data]
theorem eqvAll_ints : ∀ a b : Wd, PyData.eqvAll (a.map .int) (b.map .int) = decide (a = b)
  | [], [] => by simp [PyData.eqvAll]
  | [], _ :: _ => by simp [PyData.eqvAll]
  | _ :: _, [] => by simp [PyData.eqvAll]
  | x :: a, y :: b => by
    rw [List.map_cons, List.map_cons, PyData.eqvAll, eqvAll_ints a b, PyData.eqv]
    by_cases h : x = y
    · subst h
      simp
    · have e : (x == y) = false := beq_eq_false_iff_ne.mpr h
      rw [e, Bool.false_and]
      exact (decide_eq_false fun z => h (by injection z)).symm
theorem wD_eqv (a b : Wd) : PyData.eqv (wD a) (wD b) = decide (a = b) := by
  unfold wD
  rw [PyData.eqv, eqvAll_ints]
theorem mD_eqv (a b : Mid) : PyData.eqv (mD a) (mD b) = decide (a = b) := by
  unfold mD
  rw [PyData.eqv, PyData.eqvAll, PyData.eqvAll, PyData.eqvAll, PyData.eqvAll, PyData.eqvAll, wD_eqv, wD_eqv, PyData.eqv, PyData.eqv]
  obtain ⟨al, ar, as, arr⟩ := a
  obtain ⟨bl, br, bs, brr⟩ := b
  by_cases h : (⟨al, ar, as, arr⟩ : Mid) = ⟨bl, br, bs, brr⟩
  · injection h with h1 h2 h3 h4
    subst h1 h2 h3 h4
    simp
  · rw [decide_eq_false h]
    by_cases h1 : al = bl
    · by_cases h2 : ar = br
      · by_cases h3 : as = bs
        · by_cases h4 : arr = brr
          · exact absurd (by rw [h1, h2, h3, h4]) h
          · simp [h4]
        · simp [h3]
      · simp [h2]
    · simp [h1]
theorem lay_ints : ∀ x : Wd, PyData.canLayAll0 (x.map .int) = true
  | [] => by simp [PyData.canLayAll0]
  | a :: x => by simp [PyData.canLayAll0, PyData.canLay0, lay_ints x]
theorem dep_ints : ∀ x : Wd, PyData.depthAll (x.map .int) = 0
  | [] => by simp [PyData.depthAll]
  | a :: x => by simp [PyData.depthAll, PyData.depth, dep_ints x]
theorem wD_depth (x : Wd) : (wD x).depth = 1 := by
  unfold wD
  rw [PyData.depth, dep_ints]
theorem mD_depth (x : Mid) : (mD x).depth = 2 := by
  unfold mD
  simp [PyData.depth, PyData.depthAll, wD_depth]
theorem wD_lay (x : Wd) : (wD x).canLay0 = true := by
  unfold wD
  rw [PyData.canLay0, lay_ints]
theorem mD_lay (x : Mid) : (mD x).canLay0 = true := by
  unfold mD
  simp [PyData.canLay0, PyData.canLayAll0, wD_lay]
theorem shaped_of {d : PyData} (h : d.canLay0 = true) (h2 : d.depth ≤ 64) : SeqAt.shaped d = true := by
  show (d.canLay0 && decide (d.depth ≤ 64)) = true
  rw [h, decide_eq_true h2]
  rfl
theorem wD_shaped (x : Wd) : SeqAt.shaped (wD x) = true := shaped_of (wD_lay x) (by rw [wD_depth]; decide)
theorem mD_shaped (x : Mid) : SeqAt.shaped (mD x) = true := shaped_of (mD_lay x) (by rw [mD_depth]; decide)
theorem lays_map {α : Type} (f : α → PyData) (h : ∀ x, (f x).canLay0 = true) : ∀ xs : List α, PyData.canLayAll0 (xs.map f) = true
  | [] => by simp [PyData.canLayAll0]
  | a :: x => by simp [PyData.canLayAll0, h a, lays_map f h x]
theorem deps_map {α : Type} (f : α → PyData) (n : Nat) (h : ∀ x, (f x).depth ≤ n) : ∀ xs : List α, PyData.depthAll (xs.map f) ≤ n
  | [] => by simp [PyData.depthAll]
  | a :: x => by
    rw [List.map_cons, PyData.depthAll]
    have h1 := deps_map f n h x
    have h2 := h a
    omega
theorem list_shaped {α : Type} (f : α → PyData) (h : ∀ x, (f x).canLay0 = true) (h2 : ∀ x, (f x).depth ≤ 8) (xs : List α) : SeqAt.shaped (.list (xs.map f)) = true := by
  refine shaped_of ?_ ?_
  · rw [PyData.canLay0]
    exact lays_map f h xs
  · rw [PyData.depth]
    have := deps_map f 8 h2 xs
    omega
theorem dp_w {K : PySem.W.Frag} {H : Hp} {a : Addr} {x : Wd} (h : H a = some (.tup (wV x))) : Dp K H (.ref a) (wD x) := by
  have := KIs.data (K := K) _ _ (wk_is h)
  rw [wk_data] at this
  exact this
theorem any_wD (xs : List Wd) (d : Wd) : ((xs.map wD).any fun z => PyData.eqv z (wD d)) = decide (d ∈ xs) := by
  induction xs with
  | nil => simp
  | cons a xs ih =>
    rw [List.map_cons, List.any_cons, ih, wD_eqv]
    by_cases h : a = d
    · simp [h]
    · have h2 : ¬ d = a := fun e => h e.symm
      simp [h, h2]
theorem any_mD (xs : List Mid) (d : Mid) : ((xs.map mD).any fun z => PyData.eqv z (mD d)) = decide (d ∈ xs) := by
  induction xs with
  | nil => simp
  | cons a xs ih =>
    rw [List.map_cons, List.any_cons, ih, mD_eqv]
    by_cases h : a = d
    · simp [h]
    · have h2 : ¬ d = a := fun e => h e.symm
      simp [h, h2]
/-! ### alike, for sorting -/
theorem alike_w (a b : Wd) : PySem.W.alike (wD a) (wD b) = true := by
  unfold wD
  rw [PySem.W.alike]
  exact PySem.W.alike_ints a b
theorem alike_m (a b : Mid) : PySem.W.alike (mD a) (mD b) = true := by
  unfold mD
  simp [PySem.W.alike, PySem.W.alikeAll, alike_w]
/-! ### a list of keys -/
abbrev KL (H : Hp) : List Addr → List NestedKey → Prop := Paired (fun b k => KIs H k (V.ref b))
theorem KL.keep {H H' : Hp} (t : Tups H H') {bs : List Addr} {ks : List NestedKey} (h : KL H bs ks) : KL H' bs ks := Paired.mapP h fun _ _ x => KIs.keep t _ _ x
theorem KL.snoc {H : Hp} : ∀ {bs : List Addr} {ks : List NestedKey} {b : Addr} {k : NestedKey}, KL H bs ks → KIs H k (.ref b) → KL H (bs ++ [b]) (ks ++ [k])
  | _, _, _, _, .nil, x => .cons x .nil
  | _, _, _, _, .cons h t, x => .cons h (KL.snoc t x)
/-- a dict of words, a dict of middles -/
def NW (P : Program) (w : World) (H : Hp) (d : Addr) (L : List Wd) : Prop := ∃ xs, ND P w H d xs ∧ xs.map (·.1) = L.map wk
def NM (P : Program) (w : World) (H : Hp) (d : Addr) (M : List Mid) : Prop := ∃ xs, ND P w H d xs ∧ xs.map (·.1) = M.map mk
end K52
namespace K52
open PySem PySem.Spec PyProof.Rows L2 N52
section
variable {P : Program} {w : World} {K : PySem.W.Frag} {mg : Str → Option Value} {base : Heap}
/-! ### put_new -/
abbrev sPutNew : Stmt := topS 16
theorem sc_putnew : FnScope ["found", "things", "new", "thing"] ["found", "things"] (defScope sPutNew) := ⟨rfl, rfl, rfl, by decide +kernel, rfl, by decide +kernel, by decide +kernel⟩
def spPutNew (P : Program) (w : World) : Sp := fun vs H Q _ => ∃ (d l : Addr) (xs : Ks) (bs : List Addr) (ks : List NestedKey), vs = [.ref d, .ref l] ∧ ND P w H d xs ∧ H l = some (.lst (bs.map V.ref)) ∧ KL H bs ks ∧ (∀ k ∈ ks, k.depth ≤ 8) ∧ xs.length + ks.length ≤ sizeLine ∧
  ∀ (H' : Hp) (ys : Ks), ND P w H' d (xs ++ ys) → But d H H' → (∀ y ∈ ys, y.1 ∈ ks) → (∀ k ∈ ks, k ∈ (xs ++ ys).map (·.1)) → Q (.bl (!ys.isEmpty)) H'
theorem kl_at {H : Hp} {bs : List Addr} {ks : List NestedKey} (h : KL H bs ks) {i : Nat} {x : V} (e : (bs.map V.ref)[i]? = some x) : ∃ b k, x = .ref b ∧ ks[i]? = some k ∧ KIs H k (.ref b) := by
  rw [List.getElem?_map] at e
  cases hb : bs[i]? with
  | none => rw [hb] at e; cases e
  | some b =>
    rw [hb] at e
    obtain ⟨k, hk, hK⟩ := paired_get h hb
    exact ⟨b, k, (Option.some.inj e).symm, hk, hK⟩
theorem ok_putnew {f : Addr} {fd : FuncData} {k : Nat} (F : Fun K "put_new" "put_new" sPutNew f fd) : FnOk P w K mg base CX0 (k + 1) f fd ["found", "things"] (spPutNew P w) := by
  refine F.ok sc_putnew (fun vs H Q E h => ?_) (fun cdv A outer s H vs Q E hr h => ?_)
  · obtain ⟨d, l, xs, bs, ks, rfl, _⟩ := h
    rfl
  · obtain ⟨d, l, xs, bs, ks, rfl, hD, hL, hK, hdep, hsz, q⟩ := h
    refine ⟨_, pss_cons (ps_set (i := 2) sc_putnew.nd rfl (.inl rfl) pe_bl)
      (pss_cons (ps_for PassesOwn.never rfl (pi_list (pv 1)) (pg_name (i := 3) sc_putnew.nd rfl (.inl rfl))
        (pss_one (ps_if (pt_cmp (pc_notInN hr (pv 3) (pv 0)) (by rfl)) (pss_cons (ps_putN hr (pv 0) (pv 3) pe_bl rfl) (pss_one (ps_set (i := 2) sc_putnew.nd rfl (.inl rfl) pe_bl))) pss_nil)))
      (pss_one (ps_ret (pv 2)))), ?_⟩
    have hdl : l ≠ d := fun e => by
      obtain ⟨ep, h0⟩ := hD.at_
      rw [e, h0] at hL
      cases hL
    have hkl : bs.length = ks.length := Paired.length hK
    refine ⟨.ref l, rfl, l, rfl, ⟨_, SqL.of hL⟩, for_list (K := K) (a := l) (xs := bs.map V.ref)
      (fun i σ H' => ∃ (ys : Ks) (t : Option V), σ = [some (.ref d), some (.ref l), some (.bl (!ys.isEmpty)), t] ∧ ND P w H' d (xs ++ ys) ∧ But d H H' ∧ (∀ y ∈ ys, y.1 ∈ ks) ∧ (∀ k ∈ ks.take i, k ∈ (xs ++ ys).map (·.1)) ∧ ys.length ≤ i)
      ⟨[], none, rfl, by rw [List.append_nil]; exact hD, But.refl _ _, fun _ z => (nomatch z), fun _ z => by simp at z, Nat.le_refl _⟩ (fun i σ H' _ ⟨_, _, _, _, b, _⟩ => SqL.of (b _ _ hdl hL)) ?_ ?_⟩
    · rintro i x σ H' hx ⟨ys, t, rfl, n, b, h1, h2, h3⟩
      obtain ⟨c, k, rfl, hk, hc⟩ := kl_at hK hx
      have hc' := KIs.keep (butSeqs hD b).tups _ _ hc
      have hkm : k ∈ ks := List.mem_of_getElem? hk
      have hi : i < ks.length := (List.getElem?_eq_some_iff.mp hk).1
      have htk : ks.take (i + 1) = ks.take i ++ [k] := by rw [List.take_add_one, hk]; rfl
      refine ⟨_, rfl, _, rfl, d, c, xs ++ ys, k, rfl, rfl, n, hc', hdep k hkm, _, rfl, ?_⟩
      by_cases hin : k ∈ (xs ++ ys).map (·.1)
      · rw [decide_eq_true hin]
        refine iteF ⟨ys, _, rfl, n, b, h1, fun k' hk' => ?_, Nat.le_succ_of_le h3⟩
        rw [htk] at hk'
        rcases List.mem_append.mp hk' with z | z
        · exact h2 k' z
        · rw [List.mem_singleton.mp z]
          exact hin
      · rw [decide_eq_false hin]
        refine iteT ⟨_, rfl, _, rfl, d, c, xs ++ ys, k, rfl, rfl, rfl, n, hc', hdep k hkm, hin, ?_, fun H4 n4 b4 => ?_⟩
        · rw [List.length_append]
          omega
        · rw [List.append_assoc] at n4
          refine ⟨ys ++ [(k, c)], some (.ref c), ?_, n4, K52.But.trans b b4, fun y hy => ?_, fun k' hk' => ?_, by rw [List.length_append, List.length_singleton]; omega⟩
          · have e : (ys ++ [(k, c)]).isEmpty = false := by cases ys <;> rfl
            rw [e]
            rfl
          · rcases List.mem_append.mp hy with z | z
            · exact h1 y z
            · rw [List.mem_singleton.mp z]
              exact hkm
          · rw [← List.append_assoc, List.map_append]
            rw [htk] at hk'
            rcases List.mem_append.mp hk' with z | z
            · exact List.mem_append_left _ (h2 k' z)
            · rw [List.mem_singleton.mp z]
              exact List.mem_append_right _ (List.mem_singleton.mpr rfl)
    · rintro σ H' ⟨ys, t, rfl, n, b, h1, h2, h3⟩
      refine ⟨_, rfl, q H' ys n b h1 fun k hk => h2 k ?_⟩
      rw [List.length_map, hkl, List.take_length]
      exact hk
end
end K52
namespace K52
open PySem PySem.Spec PyProof.Rows L2 N52
/-! ### slices and sums of words -/
theorem cut_from (x : Wd) : cutV (wV x) (some 1) none = wV (x.drop 1) := by
  unfold cutV
  rw [HT.sIx_none]
  have e : HT.sIx (wV x).length 0 (some 1) = min 1 (wV x).length := HT.sIx_nat _ 0 1
  rw [e]
  cases x with
  | nil => rfl
  | cons a r =>
    have h1 : min 1 (wV (a :: r)).length = 1 := by
      rw [List.length_map, List.length_cons]
      omega
    rw [h1]
    show List.take ((wV (a :: r)).length - 1) (wV r) = wV r
    refine List.take_of_length_le ?_
    simp
theorem cut_to (x : Wd) : cutV (wV x) none (some (-1)) = wV x.dropLast := by
  unfold cutV
  rw [HT.sIx_none]
  have e : HT.sIx (wV x).length (wV x).length (some (-1)) = (wV x).length - 1 := by
    show (if (-1 : Int) < 0 then (-1 + ((wV x).length : Int)).toNat else min (-1 : Int).toNat (wV x).length) = _
    rw [if_pos (by decide)]
    omega
  rw [e, List.drop_zero, Nat.sub_zero, List.dropLast_eq_take, ← List.map_take, List.length_map]
theorem no_from {x : Wd} (hx : 0 < x.length) : ¬ (HT.sIx (wV x).length 0 (some 1) = 0 ∧ HT.sIx (wV x).length (wV x).length none = (wV x).length) := fun z => by
  have e : HT.sIx (wV x).length 0 (some 1) = min 1 (wV x).length := HT.sIx_nat _ 0 1
  rw [e, List.length_map] at z
  omega
theorem no_to {x : Wd} (hx : 0 < x.length) : ¬ (HT.sIx (wV x).length 0 none = 0 ∧ HT.sIx (wV x).length (wV x).length (some (-1)) = (wV x).length) := fun z => by
  have e : HT.sIx (wV x).length (wV x).length (some (-1)) = (wV x).length - 1 := by
    show (if (-1 : Int) < 0 then (-1 + ((wV x).length : Int)).toNat else min (-1 : Int).toNat (wV x).length) = _
    rw [if_pos (by decide)]
    omega
  rw [e, List.length_map] at z
  omega
theorem cat_w {K : PySem.W.Frag} {H : Hp} {u v : Addr} {a b : Wd} {Q : VK} (hu : H u = some (.tup (wV a))) (hv : H v = some (.tup (wV b))) (hz : a.length + b.length ≤ sizeLine) (q : ∀ H' p, Same H H' → H' p = some (.tup (wV (a ++ b))) → Q (.ref p) H') :
    rCatA K (.ref u) (.ref v) H Q := by
  refine ⟨u, v, wV a, wV b, rfl, rfl, SqT.of hu, SqT.of hv, by rw [List.length_map, List.length_map]; exact hz, fun e => ?_, fun _ e => ?_, fun _ _ p hp => ?_⟩
  · have e' : a = [] := List.map_eq_nil_iff.mp e
    subst e'
    exact q H v (Same.refl _) hv
  · have e' : b = [] := List.map_eq_nil_iff.mp e
    subst e'
    refine q H u (Same.refl _) ?_
    rw [List.append_nil]
    exact hu
  · refine q _ p (same_upd hp) ?_
    rw [upd_same, ← List.map_append]
theorem take_filter_next {α : Type} (f : α → Bool) (l : List α) {i : Nat} {x : α} (h : l[i]? = some x) : (l.take (i + 1)).filter f = (l.take i).filter f ++ (if f x then [x] else []) := by
  rw [List.take_add_one, h, List.filter_append]
  congr 1
  show List.filter f [x] = _
  cases hf : f x with
  | true => rw [List.filter_cons, hf]; rfl
  | false => rw [List.filter_cons, hf]; rfl
theorem ledR_next (x : Mid) (p n : Int) (R : List Wd) {i : Nat} {y : Wd} (h : R[i]? = some y) : ledR x p n (R.take (i + 1)) = ledR x p n (R.take i) ++ (if y.dropLast = x.r.drop 1 then [midR x p n y] else []) := by
  unfold ledR
  rw [take_filter_next _ R h, List.map_append]
  congr 1
  by_cases e : y.dropLast = x.r.drop 1
  · rw [if_pos (decide_eq_true e), if_pos e]
    rfl
  · rw [if_neg (by rw [decide_eq_false e]; exact Bool.false_ne_true), if_neg e]
    rfl
theorem ledL_next (x : Mid) (p n : Int) (L : List Wd) {i : Nat} {y : Wd} (h : L[i]? = some y) : ledL x p n (L.take (i + 1)) = ledL x p n (L.take i) ++ (if y.drop 1 = x.l.dropLast then [midL x p n y] else []) := by
  unfold ledL
  rw [take_filter_next _ L h, List.map_append]
  congr 1
  by_cases e : y.drop 1 = x.l.dropLast
  · rw [if_pos (decide_eq_true e), if_pos e]
    rfl
  · rw [if_neg (by rw [decide_eq_false e]; exact Bool.false_ne_true), if_neg e]
    rfl
theorem nw_at {P : Program} {w : World} {H : Hp} {d : Addr} {xs : Ks} {R : List Wd} (n : ND P w H d xs) (e : xs.map (·.1) = R.map wk) {i : Nat} {k : NestedKey} {b : Addr} (h : xs[i]? = some (k, b)) : ∃ y, R[i]? = some y ∧ H b = some (.tup (wV y)) := by
  have h1 : (xs.map (·.1))[i]? = some k := by rw [List.getElem?_map, h]; rfl
  rw [e, List.getElem?_map] at h1
  cases hy : R[i]? with
  | none => rw [hy] at h1; cases h1
  | some y =>
    rw [hy] at h1
    have e2 : wk y = k := Option.some.inj h1
    obtain ⟨hk, _⟩ := n.keys (k, b) (List.mem_of_getElem? h)
    rw [← e2] at hk
    obtain ⟨a, ea, ha⟩ := wk_inv hk
    cases ea
    exact ⟨y, rfl, ha⟩
theorem w_len {P : Program} {w : World} {H : Hp} {d : Addr} {L : List Wd} (h : NW P w H d L) : L.length ≤ sizeLine := by
  obtain ⟨xs, n, e⟩ := h
  have := congrArg List.length e
  rw [List.length_map, List.length_map] at this
  rw [← this]
  exact n.sz
theorem head_at {x : Wd} (h : 0 < x.length) : atI (wV x) 0 = some (.int (x.headD 0)) := by
  cases x with
  | nil => cases h
  | cons a r => exact atI_nat (xs := wV (a :: r)) (j := 0) rfl
theorem last_at {x : Wd} (h : 0 < x.length) : atI (wV x) (-1) = some (.int (x.getLastD 0)) := by
  have hne : x ≠ [] := fun e => by rw [e] at h; cases h
  have e : wV x = wV x.dropLast ++ [.int (x.getLast hne)] := by
    rw [← List.map_singleton, ← List.map_append, List.dropLast_concat_getLast]
  have e2 : x.getLastD 0 = x.getLast hne := by
    rw [List.getLastD_eq_getLast?, List.getLast?_eq_some_getLast hne, Option.getD_some]
  rw [e, e2]
  exact atI_last _ _
section
variable {P : Program} {w : World} {K : PySem.W.Frag} {mg : Str → Option Value} {base : Heap}
/-! ### led_right -/
abbrev sLedR : Stmt := topS 13
abbrev nLedR : List Str := ["middle", "put", "row", "rights", "left", "here", "sign", "right", "new_left", "found", "word"]
theorem sc_ledR : FnScope nLedR ["middle", "put", "row", "rights"] (defScope sLedR) := ⟨rfl, rfl, rfl, by decide +kernel, rfl, by decide +kernel, by decide +kernel⟩
def spLedR (P : Program) (w : World) : Sp := fun vs H Q _ => ∃ (t d : Addr) (p n : Int) (x : Mid) (R : List Wd), vs = [.ref t, .int p, .int n, .ref d] ∧ KIs H (mk x) (.ref t) ∧ 0 < x.l.length ∧ x.l.length ≤ 1000 ∧ 0 < x.r.length ∧ NW P w H d R ∧ (∀ y ∈ R, 0 < y.length) ∧ R.length ≤ 1000 ∧
  ∀ (H' : Hp) (T nl f : Addr) (bs : List Addr), Same H H' → H' T = some (.tup [.ref nl, .ref f]) → H' nl = some (.tup (wV (newL x p))) → H' f = some (.lst (bs.map V.ref)) → KL H' bs ((ledR x p n R).map mk) → Q (.ref T) H'
theorem ok_ledR {f : Addr} {fd : FuncData} {k : Nat} (F : Fun K "led_right" "led_right" sLedR f fd) : FnOk P w K mg base CX0 (k + 1) f fd ["middle", "put", "row", "rights"] (spLedR P w) := by
  refine F.ok sc_ledR (fun vs H Q E h => ?_) (fun cdv A outer s H vs Q E hr h => ?_)
  · obtain ⟨t, d, p, n, x, R, rfl, _⟩ := h
    rfl
  · obtain ⟨t, d, p, n, x, R, rfl, hT, hl0, hl1, hr0, ⟨xs, nd, exs⟩, hR, hR1, q⟩ := h
    refine ⟨_, pss_cons (ps_asg (pv 0) (pg_tup (by rfl) (pgs_cons (pg_name (i := 4) sc_ledR.nd rfl (.inl rfl)) (pgs_cons (pg_name (i := 5) sc_ledR.nd rfl (.inl rfl)) (pgs_cons (pg_name (i := 6) sc_ledR.nd rfl (.inl rfl)) (pgs_cons (pg_name (i := 7) sc_ledR.nd rfl (.inl rfl)) pgs_nil))))))
      (pss_cons (ps_set (i := 8) sc_ledR.nd rfl (.inl rfl) (pe_op op_catA (pe_slice sl_tupA (pv 4) (po_some pe_int) po_none) (pe_tup (pa_cons (pv 1) pa_nil))))
      (pss_cons (ps_set (i := 9) sc_ledR.nd rfl (.inl rfl) (pe_lst pa_nil))
      (pss_cons (ps_for PassesOwn.never rfl (pi_n (pv 3)) (pg_name (i := 10) sc_ledR.nd rfl (.inl rfl))
        (pss_one (ps_if (pt_cmpR (op_eqD hr.units) (pe_slice sl_tupA (pv 10) po_none (po_some (pe_un un_neg pe_int))) (pe_slice sl_tupA (pv 7) (po_some pe_int) po_none) (nomark _))
          (pss_one (ps_expr (pe_bm PySem.F.plainAttrs_list PySem.F.slot_list_append PySem.F.type_list_append mt_append (pv 9)
            (pa_cons (pe_tup (pa_cons (pv 8) (pa_cons (pv 2) (pa_cons (pe_ix ix_tup (pv 7) pe_int (fun _ _ => rfl)) (pa_cons (pv 10) pa_nil))))) pa_nil)))) pss_nil)))
      (pss_one (ps_ret (pe_tup (pa_cons (pv 8) (pa_cons (pv 9) pa_nil)))))))), ?_⟩
    obtain ⟨la, ra, e1, e2, e3⟩ := mk_inv hT
    -- the middle is taken apart
    refine ⟨.ref t, rfl, t, _, rfl, SqT.of e1, rfl, .ref la, _, rfl, .int x.row, _, rfl, .int x.sign, _, rfl, .ref ra, [], rfl, rfl, ?_⟩
    -- the new left word
    refine ⟨.ref la, rfl, 1, rfl, la, wV x.l, rfl, SqT.of e2, fun z => absurd z (no_from hl0), fun _ p1 n1 => ?_⟩
    have s1 : Same H (upd H p1 (.tup (cutV (wV x.l) (some 1) none))) := same_upd n1
    have g1 : (upd H p1 (.tup (cutV (wV x.l) (some 1) none))) p1 = some (.tup (cutV (wV x.l) (some 1) none)) := upd_same
    generalize upd H p1 (.tup (cutV (wV x.l) (some 1) none)) = H1 at s1 g1 ⊢
    rw [cut_from] at g1
    refine ⟨.int p, rfl, by show 1 ≤ sizeLine; decide, fun p2 np2 => ?_⟩
    show rCatA K (.ref p1) (.ref p2) _ _
    refine cat_w (a := x.l.drop 1) (b := [p]) ((same_upd np2) _ _ g1) upd_same ?_ fun H2 nl s2 g2 => ?_
    · rw [List.length_drop, List.length_singleton, sizeLine_eq]
      omega
    have t2 : Same H H2 := (s1.trans (same_upd np2)).trans s2
    -- an empty list
    refine ⟨Nat.zero_le _, fun fa nf => ?_⟩
    have t3 : Same H (upd H2 fa (.lst [])) := t2.trans (same_upd nf)
    obtain ⟨ep, hd⟩ := nd.at_
    have hfd : fa ≠ d := fun e => by
      have := t2 _ _ hd
      rw [← e, nf] at this
      cases this
    -- the loop
    refine ⟨.ref d, rfl, d, ep, xs, rfl, nd.nm, t3 _ _ hd, for_it walk_n
      (fun i σ H' => ∃ (y : Option V) (bs : List Addr), σ = [some (.ref t), some (.int p), some (.int n), some (.ref d), some (.ref la), some (.int x.row), some (.int x.sign), some (.ref ra), some (.ref nl), some (.ref fa), y] ∧
        Same H H' ∧ H' nl = some (.tup (wV (newL x p))) ∧ H' fa = some (.lst (bs.map V.ref)) ∧ KL H' bs ((ledR x p n (R.take i)).map mk))
      ⟨none, [], rfl, t3, (same_upd nf) _ _ g2, upd_same, by rw [List.take_zero]; exact .nil⟩ (fun i σ H' _ ⟨_, _, _, sm, _⟩ => sm _ _ hd) ?_ ?_⟩
    · rintro i v σ H3 H4 hi ⟨y, bs, rfl, sm, c1, c2, c3⟩ ⟨rfl, k, b, hk, rfl⟩
      obtain ⟨yw, hy, hb⟩ := nw_at (nd.keep sm) exs hk
      have hy0 := hR yw (List.mem_of_getElem? hy)
      have hlen : bs.length ≤ 1000 := by
        have h1 : bs.length = ((ledR x p n (R.take i)).map mk).length := Paired.length c3
        have h2 := ledR_len x p n (R.take i)
        rw [List.length_map] at h1
        rw [List.length_take] at h2
        omega
      refine ⟨.ref b, rfl, 1, rfl, -1, rfl, b, wV yw, rfl, SqT.of hb, fun z => absurd z (no_to hy0), fun _ p5 n5 => ?_⟩
      have s5 : Same H4 (upd H4 p5 (.tup (cutV (wV yw) none (some (-1))))) := same_upd n5
      have g5 : (upd H4 p5 (.tup (cutV (wV yw) none (some (-1))))) p5 = some (.tup (cutV (wV yw) none (some (-1)))) := upd_same
      generalize upd H4 p5 (.tup (cutV (wV yw) none (some (-1)))) = H5 at s5 g5 ⊢
      rw [cut_to] at g5
      refine ⟨.ref ra, rfl, 1, rfl, ra, wV x.r, rfl, SqT.of (s5 _ _ (sm _ _ e3)), fun z => absurd z (no_from hr0), fun _ p6 n6 => ?_⟩
      have s6 : Same H5 (upd H5 p6 (.tup (cutV (wV x.r) (some 1) none))) := same_upd n6
      have g6 : (upd H5 p6 (.tup (cutV (wV x.r) (some 1) none))) p6 = some (.tup (cutV (wV x.r) (some 1) none)) := upd_same
      generalize upd H5 p6 (.tup (cutV (wV x.r) (some 1) none)) = H6 at s6 g6 ⊢
      rw [cut_from] at g6
      refine ⟨wD yw.dropLast, wD (x.r.drop 1), dp_w (s6 _ _ g5), dp_w g6, wD_shaped _, wD_shaped _, _, rfl, ?_⟩
      have t6 : Same H4 H6 := s5.trans s6
      rw [wD_eqv]
      by_cases heq : yw.dropLast = x.r.drop 1
      · rw [decide_eq_true heq]
        have f6 := t6 _ _ c2
        refine iteT ⟨.ref fa, rfl, .inl ⟨rfl, _, SqL.of f6⟩, .ref nl, rfl, .int n, rfl, .ref ra, rfl, ra, wV x.r, 0, .int (x.r.headD 0), rfl, rfl, SqT.of (t6 _ _ (sm _ _ e3)), head_at hr0, .ref b, rfl, by show 4 ≤ sizeLine; decide, fun p7 np7 => ?_⟩
        have s7 : Same H6 (upd H6 p7 (.tup [.ref nl, .int n, .int (x.r.headD 0), .ref b])) := same_upd np7
        refine ⟨fa, bs.map V.ref, .ref p7, rfl, rfl, s7 _ _ f6, ?_, ?_⟩
        · rw [List.length_map]
          exact small1000 hlen
        have hH4 : Same H (upd H6 p7 (.tup [.ref nl, .int n, .int (x.r.headD 0), .ref b])) := (sm.trans t6).trans s7
        have keepL : ∀ {c : Addr} {o : HO}, c ≠ fa → (upd H6 p7 (.tup [.ref nl, .int n, .int (x.r.headD 0), .ref b])) c = some o → (upd (upd H6 p7 (.tup [.ref nl, .int n, .int (x.r.headD 0), .ref b])) fa (.lst (bs.map V.ref ++ [.ref p7]))) c = some o := fun hc e => by rw [upd_ne hc]; exact e
        have nfa : ∀ {c : Addr} {ys : List V}, (upd H6 p7 (.tup [.ref nl, .int n, .int (x.r.headD 0), .ref b])) c = some (.tup ys) → c ≠ fa := fun h => ne_of h (s7 _ _ f6) (fun z => by cases z)
        have tp : Tups (upd H6 p7 (.tup [.ref nl, .int n, .int (x.r.headD 0), .ref b])) (upd (upd H6 p7 (.tup [.ref nl, .int n, .int (x.r.headD 0), .ref b])) fa (.lst (bs.map V.ref ++ [.ref p7]))) := fun c ys e => keepL (nfa e) e
        refine ⟨_, bs ++ [p7], rfl, fun c o e => ?_, tp _ _ (s7 _ _ (t6 _ _ c1)), ?_, ?_⟩
        · refine keepL (fun z => ?_) (hH4 _ _ e)
          rw [z, t2.free nf] at e
          cases e
        · rw [upd_same, List.map_append]
          rfl
        · rw [ledR_next x p n R hy, if_pos heq, List.map_append]
          refine KL.snoc (KL.keep (Tups.trans (Tups.of (t6.trans s7)) tp) c3) ?_
          exact mk_is (x := midR x p n yw) (tp _ _ upd_same) (tp _ _ (s7 _ _ (t6 _ _ c1))) (tp _ _ (s7 _ _ (t6 _ _ hb)))
      · rw [decide_eq_false heq]
        refine iteF ⟨_, bs, rfl, sm.trans t6, t6 _ _ c1, t6 _ _ c2, ?_⟩
        rw [ledR_next x p n R hy, if_neg heq, List.append_nil]
        exact KL.keep (Tups.of t6) c3
    · rintro σ H3 ⟨y, bs, rfl, sm, c1, c2, c3⟩
      have hlen : xs.length = R.length := by
        have := congrArg List.length exs
        rw [List.length_map, List.length_map] at this
        exact this
      rw [hlen, List.take_length] at c3
      refine ⟨.ref nl, rfl, .ref fa, rfl, by show 2 ≤ sizeLine; decide, fun T nT => ?_⟩
      have sT : Same H3 (upd H3 T (.tup [.ref nl, .ref fa])) := same_upd nT
      exact q _ T nl fa bs (sm.trans sT) upd_same (sT _ _ c1) (sT _ _ c2) (KL.keep (Tups.of sT) c3)
end
end K52
namespace K52
open PySem PySem.Spec PyProof.Rows L2 N52
section
variable {P : Program} {w : World} {K : PySem.W.Frag} {mg : Str → Option Value} {base : Heap}
/-! ### led_left -/
abbrev sLedL : Stmt := topS 14
abbrev nLedL : List Str := ["middle", "put", "row", "lefts", "left", "here", "sign", "right", "new_right", "found", "word"]
theorem sc_ledL : FnScope nLedL ["middle", "put", "row", "lefts"] (defScope sLedL) := ⟨rfl, rfl, rfl, by decide +kernel, rfl, by decide +kernel, by decide +kernel⟩
def spLedL (P : Program) (w : World) : Sp := fun vs H Q _ => ∃ (t d : Addr) (p n : Int) (x : Mid) (L : List Wd), vs = [.ref t, .int p, .int n, .ref d] ∧ KIs H (mk x) (.ref t) ∧ 0 < x.l.length ∧ x.r.length ≤ 1000 ∧ 0 < x.r.length ∧ NW P w H d L ∧ (∀ y ∈ L, 0 < y.length) ∧ L.length ≤ 1000 ∧
  ∀ (H' : Hp) (T nl f : Addr) (bs : List Addr), Same H H' → H' T = some (.tup [.ref nl, .ref f]) → H' nl = some (.tup (wV (newR x p))) → H' f = some (.lst (bs.map V.ref)) → KL H' bs ((ledL x p n L).map mk) → Q (.ref T) H'
theorem ok_ledL {f : Addr} {fd : FuncData} {k : Nat} (F : Fun K "led_left" "led_left" sLedL f fd) : FnOk P w K mg base CX0 (k + 1) f fd ["middle", "put", "row", "lefts"] (spLedL P w) := by
  refine F.ok sc_ledL (fun vs H Q E h => ?_) (fun cdv A outer s H vs Q E hr h => ?_)
  · obtain ⟨t, d, p, n, x, L, rfl, _⟩ := h
    rfl
  · obtain ⟨t, d, p, n, x, L, rfl, hT, hl0, hr1, hr0, ⟨xs, nd, exs⟩, hR, hR1, q⟩ := h
    refine ⟨_, pss_cons (ps_asg (pv 0) (pg_tup (by rfl) (pgs_cons (pg_name (i := 4) sc_ledL.nd rfl (.inl rfl)) (pgs_cons (pg_name (i := 5) sc_ledL.nd rfl (.inl rfl)) (pgs_cons (pg_name (i := 6) sc_ledL.nd rfl (.inl rfl)) (pgs_cons (pg_name (i := 7) sc_ledL.nd rfl (.inl rfl)) pgs_nil))))))
      (pss_cons (ps_set (i := 8) sc_ledL.nd rfl (.inl rfl) (pe_op op_catA (pe_tup (pa_cons (pv 1) pa_nil)) (pe_slice sl_tupA (pv 7) po_none (po_some (pe_un un_neg pe_int)))))
      (pss_cons (ps_set (i := 9) sc_ledL.nd rfl (.inl rfl) (pe_lst pa_nil))
      (pss_cons (ps_for PassesOwn.never rfl (pi_n (pv 3)) (pg_name (i := 10) sc_ledL.nd rfl (.inl rfl))
        (pss_one (ps_if (pt_cmpR (op_eqD hr.units) (pe_slice sl_tupA (pv 10) (po_some pe_int) po_none) (pe_slice sl_tupA (pv 4) po_none (po_some (pe_un un_neg pe_int))) (nomark _))
          (pss_one (ps_expr (pe_bm PySem.F.plainAttrs_list PySem.F.slot_list_append PySem.F.type_list_append mt_append (pv 9)
            (pa_cons (pe_tup (pa_cons (pv 10) (pa_cons (pv 2) (pa_cons (pe_ix ix_tup (pv 4) (pe_un un_neg pe_int) (fun _ _ => rfl)) (pa_cons (pv 8) pa_nil))))) pa_nil)))) pss_nil)))
      (pss_one (ps_ret (pe_tup (pa_cons (pv 8) (pa_cons (pv 9) pa_nil)))))))), ?_⟩
    obtain ⟨la, ra, e1, e2, e3⟩ := mk_inv hT
    -- the middle is taken apart
    refine ⟨.ref t, rfl, t, _, rfl, SqT.of e1, rfl, .ref la, _, rfl, .int x.row, _, rfl, .int x.sign, _, rfl, .ref ra, [], rfl, rfl, ?_⟩
    -- the new right word
    refine ⟨.int p, rfl, by show 1 ≤ sizeLine; decide, fun p2 np2 => ?_⟩
    have s1 : Same H (upd H p2 (.tup [.int p])) := same_upd np2
    have g1 : (upd H p2 (.tup [.int p])) p2 = some (.tup [.int p]) := upd_same
    generalize upd H p2 (.tup [.int p]) = H1 at s1 g1 ⊢
    refine ⟨.ref ra, rfl, 1, rfl, -1, rfl, ra, wV x.r, rfl, SqT.of (s1 _ _ e3), fun z => absurd z (no_to hr0), fun _ p1 n1 => ?_⟩
    have s1' : Same H1 (upd H1 p1 (.tup (cutV (wV x.r) none (some (-1))))) := same_upd n1
    have g1' : (upd H1 p1 (.tup (cutV (wV x.r) none (some (-1))))) p1 = some (.tup (cutV (wV x.r) none (some (-1)))) := upd_same
    generalize upd H1 p1 (.tup (cutV (wV x.r) none (some (-1)))) = H1' at s1' g1' ⊢
    rw [cut_to] at g1'
    show rCatA K (.ref p2) (.ref p1) _ _
    refine cat_w (a := [p]) (b := x.r.dropLast) (s1' _ _ g1) g1' ?_ fun H2 nl s2 g2 => ?_
    · rw [List.length_dropLast, List.length_singleton, sizeLine_eq]
      omega
    have t2 : Same H H2 := (s1.trans s1').trans s2
    -- an empty list
    refine ⟨Nat.zero_le _, fun fa nf => ?_⟩
    have t3 : Same H (upd H2 fa (.lst [])) := t2.trans (same_upd nf)
    obtain ⟨ep, hd⟩ := nd.at_
    have hfd : fa ≠ d := fun e => by
      have := t2 _ _ hd
      rw [← e, nf] at this
      cases this
    -- the loop
    refine ⟨.ref d, rfl, d, ep, xs, rfl, nd.nm, t3 _ _ hd, for_it walk_n
      (fun i σ H' => ∃ (y : Option V) (bs : List Addr), σ = [some (.ref t), some (.int p), some (.int n), some (.ref d), some (.ref la), some (.int x.row), some (.int x.sign), some (.ref ra), some (.ref nl), some (.ref fa), y] ∧
        Same H H' ∧ H' nl = some (.tup (wV (newR x p))) ∧ H' fa = some (.lst (bs.map V.ref)) ∧ KL H' bs ((ledL x p n (L.take i)).map mk))
      ⟨none, [], rfl, t3, (same_upd nf) _ _ g2, upd_same, by rw [List.take_zero]; exact .nil⟩ (fun i σ H' _ ⟨_, _, _, sm, _⟩ => sm _ _ hd) ?_ ?_⟩
    · rintro i v σ H3 H4 hi ⟨y, bs, rfl, sm, c1, c2, c3⟩ ⟨rfl, k, b, hk, rfl⟩
      obtain ⟨yw, hy, hb⟩ := nw_at (nd.keep sm) exs hk
      have hy0 := hR yw (List.mem_of_getElem? hy)
      have hlen : bs.length ≤ 1000 := by
        have h1 : bs.length = ((ledL x p n (L.take i)).map mk).length := Paired.length c3
        have h2 := ledL_len x p n (L.take i)
        rw [List.length_map] at h1
        rw [List.length_take] at h2
        omega
      refine ⟨.ref b, rfl, 1, rfl, b, wV yw, rfl, SqT.of hb, fun z => absurd z (no_from hy0), fun _ p5 n5 => ?_⟩
      have s5 : Same H4 (upd H4 p5 (.tup (cutV (wV yw) (some 1) none))) := same_upd n5
      have g5 : (upd H4 p5 (.tup (cutV (wV yw) (some 1) none))) p5 = some (.tup (cutV (wV yw) (some 1) none)) := upd_same
      generalize upd H4 p5 (.tup (cutV (wV yw) (some 1) none)) = H5 at s5 g5 ⊢
      rw [cut_from] at g5
      refine ⟨.ref la, rfl, 1, rfl, -1, rfl, la, wV x.l, rfl, SqT.of (s5 _ _ (sm _ _ e2)), fun z => absurd z (no_to hl0), fun _ p6 n6 => ?_⟩
      have s6 : Same H5 (upd H5 p6 (.tup (cutV (wV x.l) none (some (-1))))) := same_upd n6
      have g6 : (upd H5 p6 (.tup (cutV (wV x.l) none (some (-1))))) p6 = some (.tup (cutV (wV x.l) none (some (-1)))) := upd_same
      generalize upd H5 p6 (.tup (cutV (wV x.l) none (some (-1)))) = H6 at s6 g6 ⊢
      rw [cut_to] at g6
      refine ⟨wD (yw.drop 1), wD x.l.dropLast, dp_w (s6 _ _ g5), dp_w g6, wD_shaped _, wD_shaped _, _, rfl, ?_⟩
      have t6 : Same H4 H6 := s5.trans s6
      rw [wD_eqv]
      by_cases heq : yw.drop 1 = x.l.dropLast
      · rw [decide_eq_true heq]
        have f6 := t6 _ _ c2
        refine iteT ⟨.ref fa, rfl, .inl ⟨rfl, _, SqL.of f6⟩, .ref b, rfl, .int n, rfl, .ref la, rfl, 1, rfl, la, wV x.l, -1, .int (x.l.getLastD 0), rfl, rfl, SqT.of (t6 _ _ (sm _ _ e2)), last_at hl0, .ref nl, rfl, by show 4 ≤ sizeLine; decide, fun p7 np7 => ?_⟩
        have s7 : Same H6 (upd H6 p7 (.tup [.ref b, .int n, .int (x.l.getLastD 0), .ref nl])) := same_upd np7
        refine ⟨fa, bs.map V.ref, .ref p7, rfl, rfl, s7 _ _ f6, ?_, ?_⟩
        · rw [List.length_map]
          exact small1000 hlen
        have hH4 : Same H (upd H6 p7 (.tup [.ref b, .int n, .int (x.l.getLastD 0), .ref nl])) := (sm.trans t6).trans s7
        have keepL : ∀ {c : Addr} {o : HO}, c ≠ fa → (upd H6 p7 (.tup [.ref b, .int n, .int (x.l.getLastD 0), .ref nl])) c = some o → (upd (upd H6 p7 (.tup [.ref b, .int n, .int (x.l.getLastD 0), .ref nl])) fa (.lst (bs.map V.ref ++ [.ref p7]))) c = some o := fun hc e => by rw [upd_ne hc]; exact e
        have nfa : ∀ {c : Addr} {ys : List V}, (upd H6 p7 (.tup [.ref b, .int n, .int (x.l.getLastD 0), .ref nl])) c = some (.tup ys) → c ≠ fa := fun h => ne_of h (s7 _ _ f6) (fun z => by cases z)
        have tp : Tups (upd H6 p7 (.tup [.ref b, .int n, .int (x.l.getLastD 0), .ref nl])) (upd (upd H6 p7 (.tup [.ref b, .int n, .int (x.l.getLastD 0), .ref nl])) fa (.lst (bs.map V.ref ++ [.ref p7]))) := fun c ys e => keepL (nfa e) e
        refine ⟨_, bs ++ [p7], rfl, fun c o e => ?_, tp _ _ (s7 _ _ (t6 _ _ c1)), ?_, ?_⟩
        · refine keepL (fun z => ?_) (hH4 _ _ e)
          rw [z, t2.free nf] at e
          cases e
        · rw [upd_same, List.map_append]
          rfl
        · rw [ledL_next x p n L hy, if_pos heq, List.map_append]
          refine KL.snoc (KL.keep (Tups.trans (Tups.of (t6.trans s7)) tp) c3) ?_
          exact mk_is (x := midL x p n yw) (tp _ _ upd_same) (tp _ _ (s7 _ _ (t6 _ _ hb))) (tp _ _ (s7 _ _ (t6 _ _ c1)))
      · rw [decide_eq_false heq]
        refine iteF ⟨_, bs, rfl, sm.trans t6, t6 _ _ c1, t6 _ _ c2, ?_⟩
        rw [ledL_next x p n L hy, if_neg heq, List.append_nil]
        exact KL.keep (Tups.of t6) c3
    · rintro σ H3 ⟨y, bs, rfl, sm, c1, c2, c3⟩
      have hlen : xs.length = L.length := by
        have := congrArg List.length exs
        rw [List.length_map, List.length_map] at this
        exact this
      rw [hlen, List.take_length] at c3
      refine ⟨.ref nl, rfl, .ref fa, rfl, by show 2 ≤ sizeLine; decide, fun T nT => ?_⟩
      have sT : Same H3 (upd H3 T (.tup [.ref nl, .ref fa])) := same_upd nT
      exact q _ T nl fa bs (sm.trans sT) upd_same (sT _ _ c1) (sT _ _ c2) (KL.keep (Tups.of sT) c3)
end
end K52
namespace K52
open PySem PySem.Spec PyProof.Rows L2 N52
/-! ### dicts that grow -/
def NE {α : Type} (enc : α → NestedKey) (P : Program) (w : World) (H : Hp) (d : Addr) (L : List α) : Prop := ∃ xs, ND P w H d xs ∧ xs.map (·.1) = L.map enc
theorem nodup_map {α β : Type} {f : α → β} {l : List α} (h : (l.map f).Nodup) : l.Nodup := List.Pairwise.of_map f (fun _ _ hne e => hne (congrArg f e)) h
theorem ext_of {α : Type} (enc : α → NestedKey) (vs : List α) : ∀ ys : Ks, (∀ y ∈ ys, y.1 ∈ vs.map enc) → ∃ ext : List α, ys.map (·.1) = ext.map enc ∧ ext.length = ys.length ∧ ∀ e ∈ ext, e ∈ vs
  | [], _ => ⟨[], rfl, rfl, fun _ z => (nomatch z)⟩
  | y :: ys, h => by
    obtain ⟨ext, h1, h2, h3⟩ := ext_of enc vs ys fun z hz => h z (List.mem_cons_of_mem _ hz)
    obtain ⟨v, hv, e⟩ := List.mem_map.mp (h y (List.mem_cons_self ..))
    refine ⟨v :: ext, ?_, ?_, fun z hz => ?_⟩
    · rw [List.map_cons, List.map_cons, h1, e]
    · rw [List.length_cons, List.length_cons, h2]
    · rcases List.mem_cons.mp hz with q | q
      · rw [q]; exact hv
      · exact h3 z q
section
variable {P : Program} {w : World} {H H' : Hp} {d e : Addr}
section
variable {α : Type} {enc : α → NestedKey} {L : List α}
theorem NE.keep (n : NE enc P w H d L) (s : Same H H') : NE enc P w H' d L := let ⟨xs, h, e⟩ := n; ⟨xs, h.keep s, e⟩
theorem NE.keepB (n : NE enc P w H d L) (s : But e H H') (t : Tups H H') (h : d ≠ e) : NE enc P w H' d L := let ⟨xs, g, q⟩ := n; ⟨xs, g.keepB s t h, q⟩
theorem NE.nodup (n : NE enc P w H d L) : L.Nodup := by
  obtain ⟨xs, h, e⟩ := n
  have := h.nd
  rw [e] at this
  exact nodup_map this
theorem NE.grow (hi : ∀ a b, enc a = enc b → a = b) {xs ys : Ks} {vs : List α} (n : ND P w H' d (xs ++ ys)) (e : xs.map (·.1) = L.map enc) (h1 : ∀ y ∈ ys, y.1 ∈ vs.map enc) (h2 : ∀ k ∈ vs.map enc, k ∈ (xs ++ ys).map (·.1)) :
    ∃ ext : List α, NE enc P w H' d (L ++ ext) ∧ ext.length = ys.length ∧ (∀ z ∈ ext, z ∈ vs) ∧ ∀ v ∈ vs, v ∈ L ++ ext := by
  obtain ⟨ext, g1, g2, g3⟩ := ext_of enc vs ys h1
  have e2 : (xs ++ ys).map (·.1) = (L ++ ext).map enc := by rw [List.map_append, List.map_append, e, g1]
  refine ⟨ext, ⟨xs ++ ys, n, e2⟩, g2, g3, fun v hv => ?_⟩
  have := h2 (enc v) (List.mem_map.mpr ⟨v, hv, rfl⟩)
  rw [e2] at this
  obtain ⟨u, hu, eu⟩ := List.mem_map.mp this
  rw [← hi _ _ eu]
  exact hu
end
/-! ### the three sets -/
structure Sets (P : Program) (w : World) (Rn S W : Nat) (H : Hp) (dL dR dM : Addr) (L R : List Wd) (M : List Mid) : Prop where
  l : NE wk P w H dL L
  r : NE wk P w H dR R
  m : NE mk P w H dM M
  lr : dL ≠ dR
  lm : dL ≠ dM
  rm : dR ≠ dM
  lok : ∀ x ∈ L, WdOk S W x
  rok : ∀ x ∈ R, WdOk S W x
  mok : ∀ x ∈ M, MidOk Rn S W x
structure Dims (m : Mach) (Rn S W : Nat) : Prop where
  ok : Sized m Rn S
  w0 : 0 < W
  w16 : S ^ W ≤ 16
variable {Rn S W : Nat} {dL dR dM : Addr} {L R : List Wd} {M : List Mid} {m : Mach}
theorem Sets.keep (s : Sets P w Rn S W H dL dR dM L R M) (k : Same H H') : Sets P w Rn S W H' dL dR dM L R M := ⟨s.l.keep k, s.r.keep k, s.m.keep k, s.lr, s.lm, s.rm, s.lok, s.rok, s.mok⟩
theorem Sets.l16 (s : Sets P w Rn S W H dL dR dM L R M) (h : Dims m Rn S W) : L.length ≤ 16 := by
  have := len_of_sub s.l.nodup fun x hx => mem_wordsU (s.lok x hx)
  rw [wordsU_len] at this
  exact Nat.le_trans this h.w16
theorem Sets.r16 (s : Sets P w Rn S W H dL dR dM L R M) (h : Dims m Rn S W) : R.length ≤ 16 := by
  have := len_of_sub s.r.nodup fun x hx => mem_wordsU (s.rok x hx)
  rw [wordsU_len] at this
  exact Nat.le_trans this h.w16
theorem Sets.m4096 (s : Sets P w Rn S W H dL dR dM L R M) (h : Dims m Rn S W) : M.length ≤ 4096 := by
  have h1 := len_of_sub s.m.nodup fun x hx => mem_midsU (s.mok x hx)
  rw [midsU_len] at h1
  have h2 : S * S ^ W ≤ 4 * 16 := Nat.mul_le_mul h.ok.s.2 h.w16
  have h3 : Rn * (S * S ^ W) ≤ 4 * (4 * 16) := Nat.mul_le_mul h.ok.r.2 h2
  have h4 : S ^ W * (Rn * (S * S ^ W)) ≤ 16 * (4 * (4 * 16)) := Nat.mul_le_mul h.w16 h3
  omega
theorem Dims.w4 (h : Dims m Rn S W) : W ≤ 4 := wid_le h.ok.s.1 h.w16
/-- all but the three dicts stands -/
def But3 (dL dR dM : Addr) (H H' : Hp) : Prop := ∀ b o, b ≠ dL → b ≠ dR → b ≠ dM → H b = some o → H' b = some o
theorem But3.of (s : Same H H') : But3 dL dR dM H H' := fun b o _ _ _ h => s b o h
theorem But3.trans {H1 H2 H3 : Hp} (a : But3 dL dR dM H1 H2) (b : But3 dL dR dM H2 H3) : But3 dL dR dM H1 H3 := fun c o h1 h2 h3 h => b c o h1 h2 h3 (a c o h1 h2 h3 h)
theorem But3.ofL (b : But dL H H') : But3 dL dR dM H H' := fun c o h1 _ _ h => b c o h1 h
theorem But3.ofR (b : But dR H H') : But3 dL dR dM H H' := fun c o _ h2 _ h => b c o h2 h
theorem But3.ofM (b : But dM H H') : But3 dL dR dM H H' := fun c o _ _ h3 h => b c o h3 h
theorem NE.seqs {α : Type} {enc : α → NestedKey} {L : List α} (n : NE enc P w H d L) (b : But d H H') : Seqs H H' := let ⟨xs, h, _⟩ := n; butSeqs h b
end
/-- a look over some middles: grown, or all of them are shut -/
structure Grew (mach : Mach) (L R : List Wd) (M : List Mid) (L' R' : List Wd) (M' : List Mid) (some_ : List Mid) (b : Bool) : Prop where
  gl : ∀ x ∈ L, x ∈ L'
  gr : ∀ x ∈ R, x ∈ R'
  gm : ∀ x ∈ M, x ∈ M'
  no : b = false → L' = L ∧ R' = R ∧ M' = M ∧ ∀ x ∈ some_, MidShut mach L R M x
  yes : b = true → L.length + R.length + M.length < L'.length + R'.length + M'.length
  le : L.length + R.length + M.length ≤ L'.length + R'.length + M'.length
theorem Grew.start (mach : Mach) (L R : List Wd) (M : List Mid) : Grew mach L R M L R M [] false :=
  ⟨fun _ h => h, fun _ h => h, fun _ h => h, fun _ => ⟨rfl, rfl, rfl, fun _ z => (nomatch z)⟩, fun h => (nomatch h), Nat.le_refl _⟩
theorem empty_len {α : Type} {l : List α} : l.isEmpty = true ↔ l.length = 0 := by cases l <;> simp
theorem Grew.right {mach : Mach} {L R L' R' : List Wd} {M M' some_ : List Mid} {b : Bool} (g : Grew mach L R M L' R' M' some_ b) {x : Mid} {p n : Int} (e : ent mach x.row x.sign = some (p, 1, n)) {e1 : List Wd} {e2 : List Mid}
    (h1 : newL x p ∈ L' ++ e1) (h2 : ∀ y ∈ ledR x p n R', y ∈ M' ++ e2) : Grew mach L R M (L' ++ e1) R' (M' ++ e2) (some_ ++ [x]) ((!e2.isEmpty) || ((!e1.isEmpty) || b)) := by
  refine ⟨fun y h => List.mem_append_left _ (g.gl y h), g.gr, fun y h => List.mem_append_left _ (g.gm y h), fun hb => ?_, fun hb => ?_, ?_⟩
  · rw [Bool.or_eq_false_iff, Bool.or_eq_false_iff] at hb
    obtain ⟨z2, z1, zb⟩ := hb
    have f1 : e1 = [] := by cases e1 with | nil => rfl | cons a r => cases z1
    have f2 : e2 = [] := by cases e2 with | nil => rfl | cons a r => cases z2
    subst f1 f2
    obtain ⟨rfl, rfl, rfl, hs⟩ := g.no zb
    rw [List.append_nil] at h1
    rw [List.append_nil] at h2
    rw [List.append_nil, List.append_nil]
    refine ⟨rfl, rfl, rfl, fun y hy => ?_⟩
    rcases List.mem_append.mp hy with q | q
    · exact hs y q
    · rw [List.mem_singleton.mp q]
      exact ⟨p, 1, n, e, .inl ⟨rfl, h1, h2⟩⟩
  · rw [List.length_append, List.length_append]
    have hle := g.le
    rcases Bool.or_eq_true_iff.mp hb with z | z
    · cases e2 with
      | nil => cases z
      | cons a r => rw [List.length_cons]; omega
    · rcases Bool.or_eq_true_iff.mp z with z | z
      · cases e1 with
        | nil => cases z
        | cons a r => rw [List.length_cons]; omega
      · have := g.yes z
        omega
  · rw [List.length_append, List.length_append]
    have := g.le
    omega
theorem Grew.left {mach : Mach} {L R L' R' : List Wd} {M M' some_ : List Mid} {b : Bool} (g : Grew mach L R M L' R' M' some_ b) {x : Mid} {p v n : Int} (e : ent mach x.row x.sign = some (p, v, n)) (hv : v ≠ 1) {e1 : List Wd} {e2 : List Mid}
    (h1 : newR x p ∈ R' ++ e1) (h2 : ∀ y ∈ ledL x p n L', y ∈ M' ++ e2) : Grew mach L R M L' (R' ++ e1) (M' ++ e2) (some_ ++ [x]) ((!e2.isEmpty) || ((!e1.isEmpty) || b)) := by
  refine ⟨g.gl, fun y h => List.mem_append_left _ (g.gr y h), fun y h => List.mem_append_left _ (g.gm y h), fun hb => ?_, fun hb => ?_, ?_⟩
  · rw [Bool.or_eq_false_iff, Bool.or_eq_false_iff] at hb
    obtain ⟨z2, z1, zb⟩ := hb
    have f1 : e1 = [] := by cases e1 with | nil => rfl | cons a r => cases z1
    have f2 : e2 = [] := by cases e2 with | nil => rfl | cons a r => cases z2
    subst f1 f2
    obtain ⟨rfl, rfl, rfl, hs⟩ := g.no zb
    rw [List.append_nil] at h1
    rw [List.append_nil] at h2
    rw [List.append_nil, List.append_nil]
    refine ⟨rfl, rfl, rfl, fun y hy => ?_⟩
    rcases List.mem_append.mp hy with q | q
    · exact hs y q
    · rw [List.mem_singleton.mp q]
      exact ⟨p, v, n, e, .inr ⟨hv, h1, h2⟩⟩
  · rw [List.length_append, List.length_append]
    have hle := g.le
    rcases Bool.or_eq_true_iff.mp hb with z | z
    · cases e2 with
      | nil => cases z
      | cons a r => rw [List.length_cons]; omega
    · rcases Bool.or_eq_true_iff.mp z with z | z
      · cases e1 with
        | nil => cases z
        | cons a r => rw [List.length_cons]; omega
      · have := g.yes z
        omega
  · rw [List.length_append, List.length_append]
    have := g.le
    omega
/-! ### the sets behind a put_new -/
section
variable {P : Program} {w : World} {H H' : Hp} {Rn S W : Nat} {dL dR dM : Addr} {L R : List Wd} {M : List Mid}
theorem empty_of {α β : Type} {a : List α} {b : List β} (h : a.length = b.length) : a.isEmpty = b.isEmpty := by
  cases a <;> cases b <;> first | rfl | (cases h)
theorem Sets.putL (s : Sets P w Rn S W H dL dR dM L R M) {xs ys : Ks} {v : Wd} (e : xs.map (·.1) = L.map wk) (hv : WdOk S W v) (b : But dL H H') (n : ND P w H' dL (xs ++ ys)) (h1 : ∀ y ∈ ys, y.1 ∈ [wk v]) (h2 : ∀ k ∈ [wk v], k ∈ (xs ++ ys).map (·.1)) :
    ∃ ext : List Wd, Sets P w Rn S W H' dL dR dM (L ++ ext) R M ∧ ys.isEmpty = ext.isEmpty ∧ v ∈ L ++ ext := by
  obtain ⟨ext, g1, g2, g3, g4⟩ := NE.grow (enc := wk) (fun a b => wk_inj) (vs := [v]) n e h1 h2
  have t := (s.l.seqs b).tups
  refine ⟨ext, ⟨g1, s.r.keepB b t s.lr.symm, s.m.keepB b t s.lm.symm, s.lr, s.lm, s.rm, fun x hx => ?_, s.rok, s.mok⟩, (empty_of g2).symm, g4 v (List.mem_singleton.mpr rfl)⟩
  rcases List.mem_append.mp hx with q | q
  · exact s.lok x q
  · rw [List.mem_singleton.mp (g3 x q)]; exact hv
theorem Sets.putR (s : Sets P w Rn S W H dL dR dM L R M) {xs ys : Ks} {v : Wd} (e : xs.map (·.1) = R.map wk) (hv : WdOk S W v) (b : But dR H H') (n : ND P w H' dR (xs ++ ys)) (h1 : ∀ y ∈ ys, y.1 ∈ [wk v]) (h2 : ∀ k ∈ [wk v], k ∈ (xs ++ ys).map (·.1)) :
    ∃ ext : List Wd, Sets P w Rn S W H' dL dR dM L (R ++ ext) M ∧ ys.isEmpty = ext.isEmpty ∧ v ∈ R ++ ext := by
  obtain ⟨ext, g1, g2, g3, g4⟩ := NE.grow (enc := wk) (fun a b => wk_inj) (vs := [v]) n e h1 h2
  have t := (s.r.seqs b).tups
  refine ⟨ext, ⟨s.l.keepB b t s.lr, g1, s.m.keepB b t s.rm.symm, s.lr, s.lm, s.rm, s.lok, fun x hx => ?_, s.mok⟩, (empty_of g2).symm, g4 v (List.mem_singleton.mpr rfl)⟩
  rcases List.mem_append.mp hx with q | q
  · exact s.rok x q
  · rw [List.mem_singleton.mp (g3 x q)]; exact hv
theorem Sets.putM (s : Sets P w Rn S W H dL dR dM L R M) {xs ys : Ks} {vs : List Mid} (e : xs.map (·.1) = M.map K52.mk) (hv : ∀ v ∈ vs, MidOk Rn S W v) (b : But dM H H') (n : ND P w H' dM (xs ++ ys)) (h1 : ∀ y ∈ ys, y.1 ∈ vs.map K52.mk) (h2 : ∀ k ∈ vs.map K52.mk, k ∈ (xs ++ ys).map (·.1)) :
    ∃ ext : List Mid, Sets P w Rn S W H' dL dR dM L R (M ++ ext) ∧ ys.isEmpty = ext.isEmpty ∧ ∀ v ∈ vs, v ∈ M ++ ext := by
  obtain ⟨ext, g1, g2, g3, g4⟩ := NE.grow (enc := K52.mk) (fun a b => mk_inj) (vs := vs) n e h1 h2
  have t := (s.m.seqs b).tups
  refine ⟨ext, ⟨s.l.keepB b t s.lm, s.r.keepB b t s.rm, g1, s.lr, s.lm, s.rm, s.lok, s.rok, fun x hx => ?_⟩, (empty_of g2).symm, g4⟩
  rcases List.mem_append.mp hx with q | q
  · exact s.mok x q
  · exact hv x (g3 x q)
end
end K52
namespace K52
open PySem PySem.Spec PyProof.Rows L2 N52
section
variable {P : Program} {w : World} {K : PySem.W.Frag} {mg : Str → Option Value} {base : Heap}
theorem NE.dict_at {α : Type} {enc : α → NestedKey} {H : Hp} {d : Addr} {L : List α} (n : NE enc P w H d L) : ∃ φ, H d = some (.ext φ) := by
  obtain ⟨xs, h, _⟩ := n
  obtain ⟨ep, e⟩ := h.at_
  exact ⟨_, e⟩
theorem Sets.seqs {Rn S W : Nat} {H H' : Hp} {dL dR dM : Addr} {L R : List Wd} {M : List Mid} (s : Sets P w Rn S W H dL dR dM L R M) (b : But3 dL dR dM H H') : Seqs H H' := fun c o z e => by
  obtain ⟨f1, e1⟩ := s.l.dict_at
  obtain ⟨f2, e2⟩ := s.r.dict_at
  obtain ⟨f3, e3⟩ := s.m.dict_at
  refine b c o (fun q => ?_) (fun q => ?_) (fun q => ?_) e
  · rw [q, e1] at e
    cases e
    cases z
  · rw [q, e2] at e
    cases e
    cases z
  · rw [q, e3] at e
    cases e
    cases z
theorem refs_at {xs : Ks} {M : List Mid} (e : xs.map (·.1) = M.map mk) {i : Nat} {v : V} (h : (refsV xs)[i]? = some v) : ∃ c x, v = .ref c ∧ M[i]? = some x ∧ (mk x, c) ∈ xs := by
  unfold refsV at h
  rw [List.getElem?_map] at h
  cases hx : xs[i]? with
  | none => rw [hx] at h; cases h
  | some q =>
    obtain ⟨k, c⟩ := q
    rw [hx] at h
    have h1 : (xs.map (·.1))[i]? = some k := by rw [List.getElem?_map, hx]; rfl
    rw [e, List.getElem?_map] at h1
    cases hm : M[i]? with
    | none => rw [hm] at h1; cases h1
    | some x =>
      rw [hm] at h1
      have e2 : mk x = k := Option.some.inj h1
      refine ⟨c, x, (Option.some.inj h).symm, rfl, ?_⟩
      rw [e2]
      exact List.mem_of_getElem? hx
/-- an entry as data -/
def entI : Ent → Wd
  | none => []
  | some (p, v, n) => [p, v, n]
theorem entV_eq (e : Ent) : entV e = wV (entI e) := by
  cases e with
  | none => rfl
  | some t => rfl
/-! ### grown -/
abbrev sGrown : Stmt := topS 17
abbrev nGrown : List Str := ["machine", "lefts", "rights", "middles", "new", "middle", "entry", "put", "way", "row", "word", "more"]
theorem sc_grown : FnScope nGrown ["machine", "lefts", "rights", "middles"] (defScope sGrown) := ⟨rfl, rfl, rfl, by decide +kernel, rfl, by decide +kernel, by decide +kernel⟩
def spGrown (P : Program) (w : World) : Sp := fun vs H Q _ => ∃ (a dL dR dM : Addr) (m : Mach) (Rn S W : Nat) (L R : List Wd) (M : List Mid), vs = [.ref a, .ref dL, .ref dR, .ref dM] ∧ MachAt H a m ∧ Dims m Rn S W ∧ Sets P w Rn S W H dL dR dM L R M ∧ (∀ H', Q .non H') ∧
  ∀ (H' : Hp) (L' R' : List Wd) (M' : List Mid) (b : Bool), Sets P w Rn S W H' dL dR dM L' R' M' → But3 dL dR dM H H' → Grew m L R M L' R' M' M b → Q (.bl b) H'
theorem ok_grown {f fE fR fL fP : Addr} {fd fdE fdR fdL fdP : FuncData} {k : Nat} (F : Fun K "grown" "grown" sGrown f fd) (mli : mg "list" = none)
    (GE : FnOk P w K mg base CX0 k fE fdE ["machine", "middle"] spEntFor) (kE : PySem.W.keepIn K (.ref fE) = true) (bE : Binds K fdE ["machine", "middle"] []) (gE : mg "entry_for" = some (.ref fE))
    (GR : FnOk P w K mg base CX0 k fR fdR ["middle", "put", "row", "rights"] (spLedR P w)) (kR : PySem.W.keepIn K (.ref fR) = true) (bR : Binds K fdR ["middle", "put", "row", "rights"] []) (gR : mg "led_right" = some (.ref fR))
    (GL : FnOk P w K mg base CX0 k fL fdL ["middle", "put", "row", "lefts"] (spLedL P w)) (kL : PySem.W.keepIn K (.ref fL) = true) (bL : Binds K fdL ["middle", "put", "row", "lefts"] []) (gL : mg "led_left" = some (.ref fL))
    (GP : FnOk P w K mg base CX0 k fP fdP ["found", "things"] (spPutNew P w)) (kP : PySem.W.keepIn K (.ref fP) = true) (bP : Binds K fdP ["found", "things"] []) (gP : mg "put_new" = some (.ref fP)) :
    FnOk P w K mg base CX0 (k + 1) f fd ["machine", "lefts", "rights", "middles"] (spGrown P w) := by
  refine F.ok sc_grown (fun vs H Q E h => ?_) (fun cdv A outer s H vs Q E hr h => ?_)
  · obtain ⟨a, dL, dR, dM, m, Rn, S, W, L, R, M, rfl, _⟩ := h
    rfl
  · obtain ⟨a, dL, dR, dM, m, Rn, S, W, L, R, M, rfl, hM, dm, hS, qn, qb⟩ := h
    refine ⟨_, pss_cons (ps_set (i := 4) sc_grown.nd rfl (.inl rfl) pe_bl)
      (pss_cons (ps_for PassesOwn.never rfl (pi_list (pe_callTy (call_list_n rfl) (by rfl) mli PyProof.Rows.boot_list (pa_cons (pv 3) pa_nil))) (pg_name (i := 5) sc_grown.nd rfl (.inl rfl))
        (pss_cons (ps_set (i := 6) sc_grown.nd rfl (.inl rfl) (pe_call GE hr (by rfl) gE kE bE .nil pass0 (pa_cons (pv 0) (pa_cons (pv 5) pa_nil))))
        (pss_cons (ps_if (pt_cmpR (op_eqD hr.units) (pv 6) (pe_tup pa_nil) (nomark _)) (pss_one (ps_ret pe_non)) pss_nil)
        (pss_cons (ps_asg (pv 6) (pg_tup (by rfl) (pgs_cons (pg_name (i := 7) sc_grown.nd rfl (.inl rfl)) (pgs_cons (pg_name (i := 8) sc_grown.nd rfl (.inl rfl)) (pgs_cons (pg_name (i := 9) sc_grown.nd rfl (.inl rfl)) pgs_nil)))))
        (Evl.pss_cut (ps_if (pt_cmpR op_eq (pv 8) pe_int (nomark _))
            (pss_cons (ps_asg (pe_call GR hr (by rfl) gR kR bR .nil pass0 (pa_cons (pv 5) (pa_cons (pv 7) (pa_cons (pv 9) (pa_cons (pv 2) pa_nil))))) (pg_tup (by rfl) (pgs_cons (pg_name (i := 10) sc_grown.nd rfl (.inl rfl)) (pgs_cons (pg_name (i := 11) sc_grown.nd rfl (.inl rfl)) pgs_nil))))
              (pss_one (ps_set (i := 4) sc_grown.nd rfl (.inl rfl) (pe_or (pe_call GP hr (by rfl) gP kP bP .nil pass0 (pa_cons (pv 1) (pa_cons (pe_lst (pa_cons (pv 10) pa_nil)) pa_nil))) (pe_one (pv 4))))))
            (pss_cons (ps_asg (pe_call GL hr (by rfl) gL kL bL .nil pass0 (pa_cons (pv 5) (pa_cons (pv 7) (pa_cons (pv 9) (pa_cons (pv 1) pa_nil))))) (pg_tup (by rfl) (pgs_cons (pg_name (i := 10) sc_grown.nd rfl (.inl rfl)) (pgs_cons (pg_name (i := 11) sc_grown.nd rfl (.inl rfl)) pgs_nil))))
              (pss_one (ps_set (i := 4) sc_grown.nd rfl (.inl rfl) (pe_or (pe_call GP hr (by rfl) gP kP bP .nil pass0 (pa_cons (pv 2) (pa_cons (pe_lst (pa_cons (pv 10) pa_nil)) pa_nil))) (pe_one (pv 4)))))))
        (pss_one (ps_set (i := 4) sc_grown.nd rfl (.inl rfl) (pe_or (pe_call GP hr (by rfl) gP kP bP .nil pass0 (pa_cons (pv 3) (pa_cons (pv 11) pa_nil))) (pe_one (pv 4))))))))))
      (pss_one (ps_ret (pv 4)))), ?_⟩
    obtain ⟨xs, nM, eM⟩ := id hS.m
    -- the middles as they stand
    refine ⟨.ref dM, rfl, dM, xs, rfl, nM, fun p np => ?_⟩
    have s0 : Same H (upd H p (.lst (refsV xs))) := same_upd np
    have np' : ∀ {d : Addr} {o : HO}, H d = some o → p ≠ d := fun e => (ne_of_none e np).symm
    obtain ⟨φL, atL⟩ := hS.l.dict_at
    obtain ⟨φR, atR⟩ := hS.r.dict_at
    obtain ⟨φM, atM⟩ := hS.m.dict_at
    refine ⟨p, rfl, ⟨_, SqL.of upd_same⟩, for_list (K := K) (a := p) (xs := refsV xs)
      (fun i σ H' => ∃ (b : Bool) (y5 y6 y7 y8 y9 y10 y11 : Option V) (L' R' : List Wd) (M' : List Mid), σ = [some (.ref a), some (.ref dL), some (.ref dR), some (.ref dM), some (.bl b), y5, y6, y7, y8, y9, y10, y11] ∧
        Sets P w Rn S W H' dL dR dM L' R' M' ∧ But3 dL dR dM H H' ∧ H' p = some (.lst (refsV xs)) ∧ Grew m L R M L' R' M' (M.take i) b)
      ⟨false, none, none, none, none, none, none, none, L, R, M, rfl, hS.keep s0, But3.of s0, upd_same, by rw [List.take_zero]; exact Grew.start m L R M⟩ (fun i σ H' _ ⟨_, _, _, _, _, _, _, _, _, _, _, _, _, _, h, _⟩ => SqL.of h) ?_ ?_⟩
    · rintro i v σ H1 hv ⟨b, y5, y6, y7, y8, y9, y10, y11, L', R', M', rfl, S1, b1, hp1, g1⟩
      obtain ⟨c, x, rfl, hx, hxs⟩ := refs_at eM hv
      have hxm := List.mem_of_getElem? hx
      have xok := hS.mok x hxm
      have sq1 := hS.seqs b1
      have hc : KIs H1 (mk x) (.ref c) := KIs.keep sq1.tups _ _ (nM.keys _ hxs).1
      obtain ⟨la, ra, c1, c2, c3⟩ := mk_inv hc
      have hM1 := hM.keep sq1
      have htk : M.take (i + 1) = M.take i ++ [x] := by rw [List.take_add_one, hx]; rfl
      have hl0 : 0 < x.l.length := by rw [xok.l.1]; exact dm.w0
      have hr0 : 0 < x.r.length := by rw [xok.r.1]; exact dm.w0
      have hw4 := dm.w4
      have hl1 : x.l.length ≤ 1000 := by rw [xok.l.1]; omega
      have hr1 : x.r.length ≤ 1000 := by rw [xok.r.1]; omega
      -- the middle's entry
      refine ⟨.ref a, rfl, .ref c, rfl, a, c, m, Rn, S, .ref la, .ref ra, x.row, x.sign, rfl, hM1, dm.ok.ok, c1, xok.row, xok.sign, fun ce hce eok => ?_⟩
      -- is it the empty one
      refine ⟨.ref ce, rfl, Nat.zero_le _, fun pe npe => ?_⟩
      have s2 : Same H1 (upd H1 pe (.tup [])) := same_upd npe
      have hpe : (upd H1 pe (.tup [])) pe = some (.tup []) := upd_same
      generalize upd H1 pe (.tup []) = H2 at s2 hpe ⊢
      have hce2 : H2 ce = some (.tup (wV (entI (ent m x.row x.sign)))) := by
        rw [← entV_eq]
        exact s2 _ _ hce
      refine ⟨wD (entI (ent m x.row x.sign)), wD [], dp_w hce2, dp_w hpe, wD_shaped _, wD_shaped _, _, rfl, ?_⟩
      rw [wD_eqv]
      cases he : ent m x.row x.sign with
      | none => exact iteT (qn _)
      | some t =>
        obtain ⟨pt, wy, nx⟩ := t
        rw [he] at hce2 eok
        obtain ⟨okp, okw, okn⟩ := eok
        refine iteF ?_
        -- the entry is taken apart
        refine ⟨.ref ce, rfl, ce, _, rfl, SqT.of hce2, rfl, .int pt, _, rfl, .int wy, _, rfl, .int nx, [], rfl, rfl, ?_⟩
        have S2 := S1.keep s2
        have hc2 : KIs H2 (mk x) (.ref c) := KIs.keep (Tups.of s2) _ _ hc
        -- the word between: the sets behind the first put_new, and what more there is
        refine ⟨fun σ' H' => ∃ (b' : Bool) (y10 : Option V) (fa : Addr) (bs : List Addr) (mo : List Mid) (L'' R'' : List Wd), σ' = [some (.ref a), some (.ref dL), some (.ref dR), some (.ref dM), some (.bl b'), some (.ref c), some (.ref ce), some (.int pt), some (.int wy), some (.int nx), y10, some (.ref fa)] ∧
          Sets P w Rn S W H' dL dR dM L'' R'' M' ∧ But3 dL dR dM H2 H' ∧ H' fa = some (.lst (bs.map V.ref)) ∧ KL H' bs (mo.map mk) ∧ (∀ y ∈ mo, MidOk Rn S W y) ∧ mo.length ≤ 16 ∧
          ∀ e2 : List Mid, (∀ y ∈ mo, y ∈ M' ++ e2) → Grew m L R M L'' R'' (M' ++ e2) (M.take (i + 1)) ((!e2.isEmpty) || b'), ?_, ?_⟩
        · refine ⟨.int wy, rfl, rfl, _, rfl, ?_⟩
          by_cases hwy : wy = 1
          · subst hwy
            rw [decide_eq_true rfl]
            refine iteT ?_
            refine ⟨.ref c, rfl, .int pt, rfl, .int nx, rfl, .ref dR, rfl, c, dR, pt, nx, x, R', rfl, hc2, hl0, hl1, hr0, S2.r, fun y hy => by rw [(S2.rok y hy).1]; exact dm.w0, Nat.le_trans (S2.r16 dm) (by decide), fun H3 T nl fa bs s3 t1 t2 t3 t4 => ?_⟩
            refine ⟨T, _, rfl, SqT.of t1, rfl, .ref nl, _, rfl, .ref fa, [], rfl, rfl, ?_⟩
            refine ⟨.ref dL, rfl, .ref nl, rfl, by show 1 ≤ sizeLine; decide, fun l1 nl1 => ?_⟩
            have s4 : Same H3 (upd H3 l1 (.lst [.ref nl])) := same_upd nl1
            have hl1' : (upd H3 l1 (.lst [.ref nl])) l1 = some (.lst [.ref nl]) := upd_same
            generalize upd H3 l1 (.lst [.ref nl]) = H4 at s4 hl1' ⊢
            have S4 := (S2.keep s3).keep s4
            obtain ⟨xl, nL, eL⟩ := id S4.l
            have hlen : xl.length ≤ 16 := by
              have h1 := congrArg List.length eL
              rw [List.length_map, List.length_map] at h1
              rw [h1]
              exact S4.l16 dm
            refine ⟨dL, l1, xl, [nl], [wk (newL x pt)], rfl, nL, hl1', .cons (wk_is (s4 _ _ t2)) .nil, fun k' hk' => by rw [List.mem_singleton.mp hk', wk_depth]; decide, ?_, fun H5 ys n5 b5 h1 h2 => ?_⟩
            · rw [List.length_singleton, sizeLine_eq]
              omega
            obtain ⟨ext, S5, ee, hmem⟩ := S4.putL eL (newL_ok xok dm.w0 okp) b5 n5 h1 h2
            rw [ee]
            have sq5 := S4.l.seqs b5
            have fin : ∀ bb : Bool, bb = ((!ext.isEmpty) || b) → ∃ (b' : Bool) (y10 : Option V) (fa' : Addr) (bs' : List Addr) (mo : List Mid) (L'' R'' : List Wd), [some (V.ref a), some (.ref dL), some (.ref dR), some (.ref dM), some (.bl bb), some (.ref c), some (.ref ce), some (.int pt), some (.int 1), some (.int nx), some (.ref nl), some (.ref fa)] =
                [some (.ref a), some (.ref dL), some (.ref dR), some (.ref dM), some (.bl b'), some (.ref c), some (.ref ce), some (.int pt), some (.int 1), some (.int nx), y10, some (.ref fa')] ∧
                Sets P w Rn S W H5 dL dR dM L'' R'' M' ∧ But3 dL dR dM H2 H5 ∧ H5 fa' = some (.lst (bs'.map V.ref)) ∧ KL H5 bs' (mo.map mk) ∧ (∀ y ∈ mo, MidOk Rn S W y) ∧ mo.length ≤ 16 ∧
                ∀ e2 : List Mid, (∀ y ∈ mo, y ∈ M' ++ e2) → Grew m L R M L'' R'' (M' ++ e2) (M.take (i + 1)) ((!e2.isEmpty) || b') := by
              rintro bb rfl
              refine ⟨_, _, fa, bs, ledR x pt nx R', L' ++ ext, R', rfl, S5, (But3.of (s3.trans s4)).trans (But3.ofL b5), sq5 _ _ rfl (s4 _ _ t3), KL.keep ((Tups.of s4).trans sq5.tups) t4, ledR_ok xok dm.w0 okp okn S4.rok, Nat.le_trans (ledR_len _ _ _ _) (S4.r16 dm), fun e2 he2 => ?_⟩
              rw [htk]
              exact g1.right he hmem he2
            refine ⟨_, rfl, ?_⟩
            cases hx1 : ext.isEmpty with
            | true =>
              refine iteF ⟨.bl b, rfl, ?_⟩
              exact fin b (by rw [hx1]; rfl)
            | false =>
              refine iteT ?_
              exact fin true (by rw [hx1]; rfl)
          · rw [decide_eq_false (fun z => hwy (by injection z))]
            refine iteF ?_
            refine ⟨.ref c, rfl, .int pt, rfl, .int nx, rfl, .ref dL, rfl, c, dL, pt, nx, x, L', rfl, hc2, hl0, hr1, hr0, S2.l, fun y hy => by rw [(S2.lok y hy).1]; exact dm.w0, Nat.le_trans (S2.l16 dm) (by decide), fun H3 T nl fa bs s3 t1 t2 t3 t4 => ?_⟩
            refine ⟨T, _, rfl, SqT.of t1, rfl, .ref nl, _, rfl, .ref fa, [], rfl, rfl, ?_⟩
            refine ⟨.ref dR, rfl, .ref nl, rfl, by show 1 ≤ sizeLine; decide, fun l1 nl1 => ?_⟩
            have s4 : Same H3 (upd H3 l1 (.lst [.ref nl])) := same_upd nl1
            have hl1' : (upd H3 l1 (.lst [.ref nl])) l1 = some (.lst [.ref nl]) := upd_same
            generalize upd H3 l1 (.lst [.ref nl]) = H4 at s4 hl1' ⊢
            have S4 := (S2.keep s3).keep s4
            obtain ⟨xl, nL, eL⟩ := id S4.r
            have hlen : xl.length ≤ 16 := by
              have h1 := congrArg List.length eL
              rw [List.length_map, List.length_map] at h1
              rw [h1]
              exact S4.r16 dm
            refine ⟨dR, l1, xl, [nl], [wk (newR x pt)], rfl, nL, hl1', .cons (wk_is (s4 _ _ t2)) .nil, fun k' hk' => by rw [List.mem_singleton.mp hk', wk_depth]; decide, ?_, fun H5 ys n5 b5 h1 h2 => ?_⟩
            · rw [List.length_singleton, sizeLine_eq]
              omega
            obtain ⟨ext, S5, ee, hmem⟩ := S4.putR eL (newR_ok xok dm.w0 okp) b5 n5 h1 h2
            rw [ee]
            have sq5 := S4.r.seqs b5
            have fin : ∀ bb : Bool, bb = ((!ext.isEmpty) || b) → ∃ (b' : Bool) (y10 : Option V) (fa' : Addr) (bs' : List Addr) (mo : List Mid) (L'' R'' : List Wd), [some (V.ref a), some (.ref dL), some (.ref dR), some (.ref dM), some (.bl bb), some (.ref c), some (.ref ce), some (.int pt), some (.int wy), some (.int nx), some (.ref nl), some (.ref fa)] =
                [some (.ref a), some (.ref dL), some (.ref dR), some (.ref dM), some (.bl b'), some (.ref c), some (.ref ce), some (.int pt), some (.int wy), some (.int nx), y10, some (.ref fa')] ∧
                Sets P w Rn S W H5 dL dR dM L'' R'' M' ∧ But3 dL dR dM H2 H5 ∧ H5 fa' = some (.lst (bs'.map V.ref)) ∧ KL H5 bs' (mo.map mk) ∧ (∀ y ∈ mo, MidOk Rn S W y) ∧ mo.length ≤ 16 ∧
                ∀ e2 : List Mid, (∀ y ∈ mo, y ∈ M' ++ e2) → Grew m L R M L'' R'' (M' ++ e2) (M.take (i + 1)) ((!e2.isEmpty) || b') := by
              rintro bb rfl
              refine ⟨_, _, fa, bs, ledL x pt nx L', L', R' ++ ext, rfl, S5, (But3.of (s3.trans s4)).trans (But3.ofR b5), sq5 _ _ rfl (s4 _ _ t3), KL.keep ((Tups.of s4).trans sq5.tups) t4, ledL_ok xok dm.w0 okp okn S4.lok, Nat.le_trans (ledL_len _ _ _ _) (S4.l16 dm), fun e2 he2 => ?_⟩
              rw [htk]
              exact g1.left he hwy hmem he2
            refine ⟨_, rfl, ?_⟩
            cases hx1 : ext.isEmpty with
            | true =>
              refine iteF ⟨.bl b, rfl, ?_⟩
              exact fin b (by rw [hx1]; rfl)
            | false =>
              refine iteT ?_
              exact fin true (by rw [hx1]; rfl)
        · -- the middles grow
          rintro σ' H6 ⟨b', y10', fa, bs, mo, L'', R'', rfl, S6, b6, hfa, hkl, mok, mlen, hg⟩
          obtain ⟨xm, n6, e6⟩ := id S6.m
          have hlen : xm.length ≤ 4096 := by
            have h1 := congrArg List.length e6
            rw [List.length_map, List.length_map] at h1
            rw [h1]
            exact S6.m4096 dm
          refine ⟨.ref dM, rfl, .ref fa, rfl, dM, fa, xm, bs, mo.map mk, rfl, n6, hfa, hkl, fun k' hk' => ?_, ?_, fun H7 ys n7 b7 h1 h2 => ?_⟩
          · obtain ⟨y, _, rfl⟩ := List.mem_map.mp hk'
            rw [mk_depth]
            decide
          · rw [List.length_map, sizeLine_eq]
            omega
          obtain ⟨ext, S7, ee, hmem⟩ := S6.putM e6 mok b7 n7 h1 h2
          rw [ee]
          have hb7 : But3 dL dR dM H H7 := (b1.trans (But3.of s2)).trans (b6.trans (But3.ofM b7))
          have hp7 : H7 p = some (.lst (refsV xs)) := by
            have h6 : H6 p = some (.lst (refsV xs)) := b6 _ _ (np' atL) (np' atR) (np' atM) (s2 _ _ hp1)
            exact b7 _ _ (np' atM) h6
          have hgr := hg ext hmem
          refine ⟨_, rfl, ?_⟩
          cases hx2 : ext.isEmpty with
          | true =>
            rw [hx2] at hgr
            refine iteF ⟨.bl b', rfl, ?_⟩
            exact ⟨b', _, _, _, _, _, _, _, L'', R'', M' ++ ext, rfl, S7, hb7, hp7, hgr⟩
          | false =>
            rw [hx2] at hgr
            refine iteT ?_
            exact ⟨true, _, _, _, _, _, _, _, L'', R'', M' ++ ext, rfl, S7, hb7, hp7, hgr⟩
    · rintro σ H1 ⟨b, y5, y6, y7, y8, y9, y10, y11, L', R', M', rfl, S1, b1, hp1, g1⟩
      have hlen : (refsV xs).length = M.length := by
        have h1 := congrArg List.length eM
        rw [List.length_map, List.length_map] at h1
        unfold refsV
        rw [List.length_map, h1]
      rw [hlen, List.take_length] at g1
      exact ⟨.bl b, rfl, qb H1 L' R' M' b S1 b1 g1⟩
end
end K52
namespace K52
open PySem PySem.Spec PyProof.Rows L2 N52
/-! ### shut sets by membership -/
theorem ledR_mem {x y : Mid} {p n : Int} {R R' : List Wd} (h : ∀ v ∈ R', v ∈ R) (hy : y ∈ ledR x p n R') : y ∈ ledR x p n R := by
  obtain ⟨v, hv, rfl⟩ := List.mem_map.mp hy
  obtain ⟨h1, h2⟩ := List.mem_filter.mp hv
  exact List.mem_map.mpr ⟨v, List.mem_filter.mpr ⟨h v h1, h2⟩, rfl⟩
theorem ledL_mem {x y : Mid} {p n : Int} {L L' : List Wd} (h : ∀ v ∈ L', v ∈ L) (hy : y ∈ ledL x p n L') : y ∈ ledL x p n L := by
  obtain ⟨v, hv, rfl⟩ := List.mem_map.mp hy
  obtain ⟨h1, h2⟩ := List.mem_filter.mp hv
  exact List.mem_map.mpr ⟨v, List.mem_filter.mpr ⟨h v h1, h2⟩, rfl⟩
theorem Shut.congr {m : Mach} {W : Nat} {L R L' R' : List Wd} {M M' : List Mid} (s : Shut m W L R M) (hL : ∀ x, x ∈ L ↔ x ∈ L') (hR : ∀ x, x ∈ R ↔ x ∈ R') (hM : ∀ x, x ∈ M ↔ x ∈ M') : Shut m W L' R' M' := by
  refine ⟨(hL _).mp s.l, (hR _).mp s.r, (hM _).mp s.mid, fun x hx => ?_⟩
  obtain ⟨p, v, n, e, h⟩ := s.all x ((hM _).mpr hx)
  refine ⟨p, v, n, e, ?_⟩
  rcases h with ⟨h1, h2, h3⟩ | ⟨h1, h2, h3⟩
  · exact .inl ⟨h1, (hL _).mp h2, fun y hy => (hM _).mp (h3 y (ledR_mem (fun v hv => (hR _).mpr hv) hy))⟩
  · exact .inr ⟨h1, (hR _).mp h2, fun y hy => (hM _).mp (h3 y (ledL_mem (fun v hv => (hL _).mpr hv) hy))⟩
/-- a list of the keys of a dict, in some order -/
theorem perm_keys {α : Type} {enc : α → NestedKey} (hi : ∀ a b, enc a = enc b → a = b) {xs ys : Ks} {L : List α} (e : xs.map (·.1) = L.map enc) (hp : ys.Perm xs) : ∃ L' : List α, ys.map (·.1) = L'.map enc ∧ ∀ x, x ∈ L ↔ x ∈ L' := by
  have hp1 : (ys.map (·.1)).Perm (L.map enc) := by
    rw [← e]
    exact hp.map _
  obtain ⟨L', h1, h2, h3⟩ := ext_of enc L ys fun y hy => hp1.mem_iff.mp (List.mem_map.mpr ⟨y, hy, rfl⟩)
  refine ⟨L', h1, fun x => ⟨fun hx => ?_, fun hx => h3 x hx⟩⟩
  have h4 : enc x ∈ ys.map (·.1) := hp1.mem_iff.mpr (List.mem_map.mpr ⟨x, hx, rfl⟩)
  rw [h1] at h4
  obtain ⟨z, hz, ez⟩ := List.mem_map.mp h4
  rw [← hi _ _ ez]
  exact hz
theorem kl_refs {P : Program} {w : World} {H : Hp} {d : Addr} {xs : Ks} (n : ND P w H d xs) : ∀ {ys : Ks}, (∀ y ∈ ys, y ∈ xs) → KL H (ys.map (·.2)) (ys.map (·.1))
  | [], _ => .nil
  | y :: ys, h => .cons (n.keys y (h y (List.mem_cons_self ..))).1 (kl_refs n fun z hz => h z (List.mem_cons_of_mem _ hz))
theorem refsV_eq (ys : Ks) : refsV ys = (ys.map (·.2)).map V.ref := by
  unfold refsV
  rw [List.map_map]
  rfl
/-- the told paper -/
def PaperAt (H : Hp) (T : Addr) (W : Nat) (m : Mach) : Prop := ∃ (l1 l2 l3 : Addr) (b1 b2 b3 : List Addr) (L R : List Wd) (M : List Mid), H T = some (.tup [.str "shut", .int W, .ref l1, .ref l2, .ref l3]) ∧
  H l1 = some (.lst (b1.map V.ref)) ∧ KL H b1 (L.map wk) ∧ H l2 = some (.lst (b2.map V.ref)) ∧ KL H b2 (R.map wk) ∧ H l3 = some (.lst (b3.map V.ref)) ∧ KL H b3 (M.map mk) ∧ Shut m W L R M
theorem datas_of {α : Type} {enc : α → NestedKey} {dat : α → PyData} (hd : ∀ a, (enc a).data = dat a) {xs : Ks} {L : List α} (e : xs.map (·.1) = L.map enc) : (xs.map fun x => x.1.data) = L.map dat := by
  have h : (xs.map fun x => x.1.data) = (xs.map (·.1)).map NestedKey.data := by
    rw [List.map_map]
    rfl
  rw [h, e, List.map_map]
  exact List.map_congr_left fun a _ => hd a
theorem sort_w {xs : Ks} {L : List Wd} (e : xs.map (·.1) = L.map wk) (h0 : ∀ x ∈ L, 0 < x.length) : PySem.W.AllAlike (xs.map fun x => x.1.data) ∧ PySem.W.Sortable (xs.map fun x => x.1.data) ∧ ∀ x ∈ xs, x.1.data.depth ≤ 8 := by
  rw [datas_of wk_data e]
  refine ⟨PySem.W.AllAlike.of alike_w, .inl fun d hd => ?_, fun x hx => ?_⟩
  · obtain ⟨y, hy, rfl⟩ := List.mem_map.mp hd
    have := h0 y hy
    cases y with
    | nil => cases this
    | cons a r => exact ⟨.int a, r.map .int, rfl⟩
  · have h1 : x.1 ∈ L.map wk := by rw [← e]; exact List.mem_map.mpr ⟨x, hx, rfl⟩
    obtain ⟨y, _, ey⟩ := List.mem_map.mp h1
    rw [← ey, wk_data, wD_depth]
    decide
theorem sort_m {xs : Ks} {M : List Mid} (e : xs.map (·.1) = M.map mk) : PySem.W.AllAlike (xs.map fun x => x.1.data) ∧ PySem.W.Sortable (xs.map fun x => x.1.data) ∧ ∀ x ∈ xs, x.1.data.depth ≤ 8 := by
  rw [datas_of mk_data e]
  refine ⟨PySem.W.AllAlike.of alike_m, .inl fun d hd => ?_, fun x hx => ?_⟩
  · obtain ⟨y, hy, rfl⟩ := List.mem_map.mp hd
    exact ⟨wD y.l, [.int y.row, .int y.sign, wD y.r], rfl⟩
  · have h1 : x.1 ∈ M.map mk := by rw [← e]; exact List.mem_map.mpr ⟨x, hx, rfl⟩
    obtain ⟨y, _, ey⟩ := List.mem_map.mp h1
    rw [← ey, mk_data, mD_depth]
    decide
theorem boot_sorted : bootBuiltins "sorted" = some (.builtin "sorted") := by decide +kernel
theorem wV_noughts (n : Nat) : List.replicate n (V.int 0) = wV (noughts n) := by
  unfold noughts
  show _ = (List.replicate n (0 : Int)).map V.int
  rw [List.map_replicate]
section
variable {P : Program} {w : World} {K : PySem.W.Frag} {mg : Str → Option Value} {base : Heap}
/-! ### least_told -/
abbrev sLeast : Stmt := topS 18
abbrev nLeast : List Str := ["machine", "width", "noughts", "lefts", "rights", "middles", "new"]
theorem sc_least : FnScope nLeast ["machine", "width"] (defScope sLeast) := ⟨rfl, rfl, rfl, by decide +kernel, rfl, by decide +kernel, by decide +kernel⟩
def spLeast : Sp := fun vs H Q _ => ∃ (a : Addr) (m : Mach) (Rn S W : Nat), vs = [.ref a, .int W] ∧ MachAt H a m ∧ Dims m Rn S W ∧ (∀ H', Q .non H') ∧ ∀ (H' : Hp) (T : Addr), Same H H' → PaperAt H' T W m → Q (.ref T) H'
theorem ok_least {f fG : Addr} {fd fdG : FuncData} {k : Nat} (F : Fun K "least_told" "least_told" sLeast f fd) (ms : mg "sorted" = none)
    (GG : FnOk P w K mg base CX0 k fG fdG ["machine", "lefts", "rights", "middles"] (spGrown P w)) (kG : PySem.W.keepIn K (.ref fG) = true) (bG : Binds K fdG ["machine", "lefts", "rights", "middles"] []) (gG : mg "grown" = some (.ref fG)) :
    FnOk P w K mg base CX0 (k + 1) f fd ["machine", "width"] spLeast := by
  refine F.ok sc_least (fun vs H Q E h => ?_) (fun cdv A outer s H vs Q E hr h => ?_)
  · obtain ⟨a, m, Rn, S, W, rfl, _⟩ := h
    rfl
  · obtain ⟨a, m, Rn, S, W, rfl, hM, dm, qn, qp⟩ := h
    refine ⟨_, pss_cons (ps_set (i := 2) sc_least.nd rfl (.inl rfl) (pe_op op_repA (pe_tup (pa_cons pe_int pa_nil)) (pv 1)))
      (pss_cons (ps_set (i := 3) sc_least.nd rfl (.inl rfl) (pe_dispN hr (pv 2) pe_bl))
      (pss_cons (ps_set (i := 4) sc_least.nd rfl (.inl rfl) (pe_dispN hr (pv 2) pe_bl))
      (pss_cons (ps_set (i := 5) sc_least.nd rfl (.inl rfl) (pe_dispN hr (pe_tup (pa_cons (pv 2) (pa_cons pe_int (pa_cons pe_int (pa_cons (pv 2) pa_nil))))) pe_bl))
      (pss_cons (ps_set (i := 6) sc_least.nd rfl (.inl rfl) pe_bl)
      (pss_cons (ps_while PassesOwn.never (pt_val (pv 6))
        (pss_cons (ps_set (i := 6) sc_least.nd rfl (.inl rfl) (pe_call GG hr (by rfl) gG kG bG .nil pass0 (pa_cons (pv 0) (pa_cons (pv 3) (pa_cons (pv 4) (pa_cons (pv 5) pa_nil))))))
        (pss_one (ps_if (pt_cmp (pc_isN (pv 6))) (pss_one (ps_ret pe_non)) pss_nil))))
      (pss_one (ps_ret (pe_tup (pa_cons pe_str (pa_cons (pv 1) (pa_cons (pe_callB (cr_sortedN hr rfl) (by rfl) ms boot_sorted (pa_cons (pv 3) pa_nil))
        (pa_cons (pe_callB (cr_sortedN hr rfl) (by rfl) ms boot_sorted (pa_cons (pv 4) pa_nil)) (pa_cons (pe_callB (cr_sortedN hr rfl) (by rfl) ms boot_sorted (pa_cons (pv 5) pa_nil)) pa_nil))))))))))))), ?_⟩
    have hw4 := dm.w4
    have hw0 := dm.w0
    have hS0 : 0 < S := by have := dm.ok.s; omega
    have hR0 : 0 < Rn := by have := dm.ok.r; omega
    -- the word of noughts
    refine ⟨by show 1 ≤ sizeLine; decide, fun p0 n0 => ?_⟩
    have z1 : Same H (upd H p0 (.tup [.int 0])) := same_upd n0
    have hp0 : (upd H p0 (.tup [.int 0])) p0 = some (.tup [.int 0]) := upd_same
    generalize upd H p0 (.tup [.int 0]) = H1 at z1 hp0 ⊢
    refine ⟨.int W, rfl, p0, W, .int 0, rfl, rfl, hp0, by omega, by omega, ?_⟩
    suffices main : ∀ (nz : Addr) (H2 : Hp), Same H1 H2 → H2 nz = some (.tup (wV (noughts W))) → tSeq (tAsg (tDispN P w (tVar 2) (tC (.bl true))) (gName 3)) _ { nx := fun _ H' => Q .non H', rt := Q } [some (.ref a), some (.int W), some (.ref nz), none, none, none, none] H2 by
      refine ⟨fun e => ?_, fun p np => ?_⟩
      · refine main p0 H1 (Same.refl _) ?_
        have e' : W = 1 := by omega
        rw [e', hp0]
        rfl
      · refine main p _ (same_upd np) ?_
        rw [upd_same, ← wV_noughts]
        rfl
    intro nz H2 z2 hnz
    have kz : ∀ {H' : Hp}, H' nz = some (.tup (wV (noughts W))) → KIs H' (wk (noughts W)) (.ref nz) := fun h => wk_is h
    -- lefts
    refine fun dL nL epL => ⟨.ref nz, rfl, nz, wk (noughts W), rfl, rfl, upd_same, kz ((same_upd nL) _ _ hnz), by rw [wk_depth]; decide, fun H3 ndL bL => ?_⟩
    have nzL : nz ≠ dL := ne_of_none hnz nL
    have z3 : Same H2 H3 := fun b o e => bL _ _ (ne_of_none e nL) ((same_upd nL) _ _ e)
    -- rights
    refine fun dR nR epR => ⟨.ref nz, rfl, nz, wk (noughts W), rfl, rfl, upd_same, kz ((same_upd nR) _ _ (z3 _ _ hnz)), by rw [wk_depth]; decide, fun H4 ndR bR => ?_⟩
    have z4 : Same H3 H4 := fun b o e => bR _ _ (ne_of_none e nR) ((same_upd nR) _ _ e)
    -- middles
    refine fun dM nM epM => ⟨.ref nz, rfl, .ref nz, rfl, by show 4 ≤ sizeLine; decide, fun t0 nt0 => ?_⟩
    have hz4 := z4 _ _ (z3 _ _ hnz)
    have y1 : Same H4 (upd H4 dM (.ext (DE P w dM epM []))) := same_upd nM
    have hdM : (upd H4 dM (.ext (DE P w dM epM []))) dM = some (.ext (DE P w dM epM [])) := upd_same
    have y2 : Same (upd H4 dM (.ext (DE P w dM epM []))) (upd (upd H4 dM (.ext (DE P w dM epM []))) t0 (.tup [.ref nz, .int 0, .int 0, .ref nz])) := same_upd nt0
    refine ⟨t0, mk ⟨noughts W, 0, 0, noughts W⟩, rfl, rfl, y2 _ _ hdM, mk_is (l := nz) (r := nz) upd_same (y2 _ _ (y1 _ _ hz4)) (y2 _ _ (y1 _ _ hz4)), by rw [mk_depth]; decide, fun H5 ndM bM => ?_⟩
    have z5 : Same H4 H5 := fun b o e => bM _ _ (ne_of_none e nM) (y2 _ _ (y1 _ _ e))
    have z05 : Same H H5 := (((z1.trans z2).trans z3).trans z4).trans z5
    obtain ⟨e0L, atL⟩ := ndL.at_
    obtain ⟨e0R, atR⟩ := ndR.at_
    have hLR : dL ≠ dR := ne_of_none atL nR
    have hLM : dL ≠ dM := ne_of_none (z4 _ _ atL) nM
    have hRM : dR ≠ dM := ne_of_none atR nM
    have S5 : Sets P w Rn S W H5 dL dR dM [noughts W] [noughts W] [⟨noughts W, 0, 0, noughts W⟩] :=
      ⟨⟨_, (ndL.keep z4).keep z5, rfl⟩, ⟨_, ndR.keep z5, rfl⟩, ⟨_, ndM, rfl⟩, hLR, hLM, hRM, fun x hx => by rw [List.mem_singleton.mp hx]; exact noughts_ok hS0, fun x hx => by rw [List.mem_singleton.mp hx]; exact noughts_ok hS0,
       fun x hx => by rw [List.mem_singleton.mp hx]; exact ⟨noughts_ok hS0, ⟨Int.le_refl 0, show (0 : Int) < (Rn : Int) by omega⟩, ⟨Int.le_refl 0, show (0 : Int) < (S : Int) by omega⟩, noughts_ok hS0⟩⟩
    -- none of the three stood at the entry
    have fL : ∀ {b : Addr} {o : HO}, H b = some o → b ≠ dL := fun e => ne_of_none (z2 _ _ (z1 _ _ e)) nL
    have fR : ∀ {b : Addr} {o : HO}, H b = some o → b ≠ dR := fun e => ne_of_none (z3 _ _ (z2 _ _ (z1 _ _ e))) nR
    have fM : ∀ {b : Addr} {o : HO}, H b = some o → b ≠ dM := fun e => ne_of_none (z4 _ _ (z3 _ _ (z2 _ _ (z1 _ _ e)))) nM
    -- look after look
    refine ⟨fun mm σ H' => ∃ (b : Bool) (L R : List Wd) (M : List Mid), σ = [some (.ref a), some (.int W), some (.ref nz), some (.ref dL), some (.ref dR), some (.ref dM), some (.bl b)] ∧ Sets P w Rn S W H' dL dR dM L R M ∧ Same H H' ∧
      noughts W ∈ L ∧ noughts W ∈ R ∧ (⟨noughts W, 0, 0, noughts W⟩ : Mid) ∈ M ∧ (b = true → mm = 5000 - (L.length + R.length + M.length)) ∧ (b = false → mm = 0 ∧ ∀ x ∈ M, MidShut m L R M x),
      ⟨4997, true, _, _, _, rfl, S5, z05, List.mem_singleton.mpr rfl, List.mem_singleton.mpr rfl, List.mem_singleton.mpr rfl, fun _ => rfl, fun z => (nomatch z)⟩, ?_⟩
    rintro mm σ H6 ⟨b, L, R, M, rfl, S6, sm6, m1, m2, m3, hb1, hb2⟩
    refine ⟨.bl b, rfl, b, rfl, ?_⟩
    cases b with
    | true =>
      have hmm := hb1 rfl
      have hl := S6.l16 dm
      have hr' := S6.r16 dm
      have hm4 := S6.m4096 dm
      refine iteT ⟨fun σ' H' => ∃ (b : Bool) (L' R' : List Wd) (M' : List Mid), σ' = [some (.ref a), some (.int W), some (.ref nz), some (.ref dL), some (.ref dR), some (.ref dM), some (.bl b)] ∧ Sets P w Rn S W H' dL dR dM L' R' M' ∧ Same H H' ∧ Grew m L R M L' R' M' M b, ?_, ?_⟩
      · rintro σ' H' ⟨b, L', R', M', rfl, S', sm', g⟩
        cases b with
        | true =>
          have := g.yes rfl
          exact ⟨5000 - (L'.length + R'.length + M'.length), by omega, true, L', R', M', rfl, S', sm', g.gl _ m1, g.gr _ m2, g.gm _ m3, fun _ => rfl, fun z => (nomatch z)⟩
        | false =>
          obtain ⟨rfl, rfl, rfl, hs⟩ := g.no rfl
          exact ⟨0, by omega, false, L', R', M', rfl, S', sm', m1, m2, m3, fun z => (nomatch z), fun _ => ⟨rfl, hs⟩⟩
      · refine ⟨.ref a, rfl, .ref dL, rfl, .ref dR, rfl, .ref dM, rfl, a, dL, dR, dM, m, Rn, S, W, L, R, M, rfl, hM.keep (Seqs.of sm6), dm, S6, fun H' => ?_, fun H' L' R' M' b' S' b3 g => ?_⟩
        · exact ⟨.non, rfl, _, rfl, iteT (qn H')⟩
        · refine ⟨.bl b', rfl, _, rfl, iteF ⟨b', L', R', M', rfl, S', fun c o e => b3 c o (fL e) (fR e) (fM e) (sm6 _ _ e), g⟩⟩
    | false =>
      obtain ⟨_, hs⟩ := hb2 rfl
      have sh : Shut m W L R M := ⟨m1, m2, m3, hs⟩
      refine iteF ?_
      obtain ⟨xl, nl, el⟩ := id S6.l
      obtain ⟨xr, nr, er⟩ := id S6.r
      obtain ⟨xm, nm, em⟩ := id S6.m
      obtain ⟨al, sl, dl⟩ := sort_w el fun x hx => by rw [(S6.lok x hx).1]; exact hw0
      obtain ⟨ar, sr, dr⟩ := sort_w er fun x hx => by rw [(S6.rok x hx).1]; exact hw0
      obtain ⟨am, sm, dmm⟩ := sort_m em
      refine ⟨.int W, rfl, .ref dL, rfl, dL, xl, rfl, nl, al, sl, dl, fun p1 ys1 pm1 np1 => ?_⟩
      have s1 : Same H6 (upd H6 p1 (.lst (refsV ys1))) := same_upd np1
      have h1 : (upd H6 p1 (.lst (refsV ys1))) p1 = some (.lst (refsV ys1)) := upd_same
      generalize upd H6 p1 (.lst (refsV ys1)) = H7 at s1 h1 ⊢
      refine ⟨.ref dR, rfl, dR, xr, rfl, nr.keep s1, ar, sr, dr, fun p2 ys2 pm2 np2 => ?_⟩
      have s2 : Same H7 (upd H7 p2 (.lst (refsV ys2))) := same_upd np2
      have h2 : (upd H7 p2 (.lst (refsV ys2))) p2 = some (.lst (refsV ys2)) := upd_same
      generalize upd H7 p2 (.lst (refsV ys2)) = H8 at s2 h2 ⊢
      refine ⟨.ref dM, rfl, dM, xm, rfl, (nm.keep s1).keep s2, am, sm, dmm, fun p3 ys3 pm3 np3 => ?_⟩
      have s3 : Same H8 (upd H8 p3 (.lst (refsV ys3))) := same_upd np3
      have h3 : (upd H8 p3 (.lst (refsV ys3))) p3 = some (.lst (refsV ys3)) := upd_same
      generalize upd H8 p3 (.lst (refsV ys3)) = H9 at s3 h3 ⊢
      refine ⟨by show 5 ≤ sizeLine; decide, fun T nT => ?_⟩
      have s4 : Same H9 (upd H9 T (.tup [.str "shut", .int W, .ref p1, .ref p2, .ref p3])) := same_upd nT
      obtain ⟨L1, k1, i1⟩ := perm_keys (fun a b => wk_inj) el pm1
      obtain ⟨R1, k2, i2⟩ := perm_keys (fun a b => wk_inj) er pm2
      obtain ⟨M1, k3, i3⟩ := perm_keys (fun a b => mk_inj) em pm3
      have t64 : Same H6 (upd H9 T (.tup [.str "shut", .int W, .ref p1, .ref p2, .ref p3])) := ((s1.trans s2).trans s3).trans s4
      refine qp _ T (sm6.trans t64) ⟨p1, p2, p3, ys1.map (·.2), ys2.map (·.2), ys3.map (·.2), L1, R1, M1, upd_same, ?_, ?_, ?_, ?_, ?_, ?_, sh.congr i1 i2 i3⟩
      · rw [← refsV_eq]
        exact ((s2.trans s3).trans s4) _ _ h1
      · rw [← k1]
        exact KL.keep (Tups.of t64) (kl_refs nl fun y hy => pm1.mem_iff.mp hy)
      · rw [← refsV_eq]
        exact (s3.trans s4) _ _ h2
      · rw [← k2]
        exact KL.keep (Tups.of t64) (kl_refs nr fun y hy => pm2.mem_iff.mp hy)
      · rw [← refsV_eq]
        exact s4 _ _ h3
      · rw [← k3]
        exact KL.keep (Tups.of t64) (kl_refs nm fun y hy => pm3.mem_iff.mp hy)
end
end K52
namespace K52
open PySem PySem.Spec PyProof.Rows L2 N52
section
variable {P : Program} {w : World} {K : PySem.W.Frag} {mg : Str → Option Value} {base : Heap}
/-! ### least_shut -/
abbrev sShut : Stmt := topS 19
theorem sc_shut : FnScope ["machine", "width"] ["machine", "width"] (defScope sShut) := ⟨rfl, rfl, rfl, by decide +kernel, rfl, by decide +kernel, by decide +kernel⟩
theorem ok_shut {f f1 f2 f3 : Addr} {fd fd1 fd2 fd3 : FuncData} {k : Nat} (F : Fun K "least_shut" "least_shut" sShut f fd)
    (G1 : FnOk P w K mg base CX0 k f1 fd1 ["machine"] spMust) (k1 : PySem.W.keepIn K (.ref f1) = true) (b1 : Binds K fd1 ["machine"] []) (g1 : mg "must_machine" = some (.ref f1))
    (G2 : FnOk P w K mg base CX0 k f2 fd2 ["machine", "width"] spWidth) (k2 : PySem.W.keepIn K (.ref f2) = true) (b2 : Binds K fd2 ["machine", "width"] []) (g2 : mg "is_width" = some (.ref f2))
    (G3 : FnOk P w K mg base CX0 k f3 fd3 ["machine", "width"] spLeast) (k3 : PySem.W.keepIn K (.ref f3) = true) (b3 : Binds K fd3 ["machine", "width"] []) (g3 : mg "least_told" = some (.ref f3)) :
    FnOk P w K mg base CX0 (k + 1) f fd ["machine", "width"] spLeast := by
  refine F.ok sc_shut (fun vs H Q E h => ?_) (fun cdv A outer s H vs Q E hr h => ?_)
  · obtain ⟨a, m, Rn, S, W, rfl, _⟩ := h
    rfl
  · obtain ⟨a, m, Rn, S, W, rfl, hM, dm, qn, qp⟩ := h
    refine ⟨_, pss_cons (ps_expr (pe_call G1 hr (by rfl) g1 k1 b1 .nil pass0 (pa_cons (pv 0) pa_nil)))
      (pss_cons (ps_if (pt_not (pt_val (pe_call G2 hr (by rfl) g2 k2 b2 .nil pass0 (pa_cons (pv 0) (pa_cons (pv 1) pa_nil))))) pss_never pss_nil)
      (pss_one (ps_ret (pe_call G3 hr (by rfl) g3 k3 b3 .nil pass0 (pa_cons (pv 0) (pa_cons (pv 1) pa_nil)))))), ?_⟩
    refine ⟨.ref a, rfl, a, m, Rn, S, rfl, hM, dm.ok, fun H1 s1 => ?_⟩
    have hM1 := hM.keep (Seqs.of s1)
    refine ⟨.ref a, rfl, .int W, rfl, a, m, Rn, S, W, rfl, hM1, dm.ok, dm.w0, dm.w16, true, rfl, iteF ?_⟩
    exact ⟨.ref a, rfl, .int W, rfl, a, m, Rn, S, W, rfl, hM1, dm, qn, fun H' T s2 hp => qp H' T (s1.trans s2) hp⟩
/-! ### the law's purse -/
abbrev sMixed : Stmt := topS 21
theorem sc_mixed : FnScope ["_law_cell", "_law_k", "_law_rest", "_law_number"] ["_law_cell", "_law_k"] (defScope sMixed) := ⟨rfl, rfl, rfl, by decide +kernel, rfl, by decide +kernel, by decide +kernel⟩
def spMixed : Sp := fun vs H Q _ => ∃ c k : Int, vs = [.int c, .int k] ∧ 0 ≤ k ∧ k ≤ 1000 ∧ ∀ z : Int, 0 ≤ z → Q (.int z) H
theorem ok_mixed {f : Addr} {fd : FuncData} {k : Nat} (F : Fun K "_law_mixed" "_law_mixed" sMixed f fd) : FnOk P w K mg base CX0 (k + 1) f fd ["_law_cell", "_law_k"] spMixed := by
  refine F.ok sc_mixed (fun vs H Q E h => ?_) (fun cdv A outer s H vs Q E hr h => ?_)
  · obtain ⟨c, k, rfl, _⟩ := h
    rfl
  · obtain ⟨c, kk, rfl, h0, h1, q⟩ := h
    refine ⟨_, pss_cons (ps_set (i := 2) sc_mixed.nd rfl (.inl rfl) (pe_op op_mod (pv 0) (pe_op op_pow pe_int pe_int)))
      (pss_cons (ps_set (i := 3) sc_mixed.nd rfl (.inl rfl) (pe_op op_mod (pe_op op_mul (pe_op op_add (pe_op op_add (pe_op op_add (pe_op op_mul (pv 2) (pv 2)) (pe_op op_mul pe_int (pv 2))) (pe_op op_mul pe_int (pv 1))) pe_int) pe_int) pe_int))
      (pss_cons (ps_set (i := 3) sc_mixed.nd rfl (.inl rfl) (pe_op op_mod (pe_op op_add (pe_op op_mul (pv 3) (pv 3)) pe_int) pe_int))
      (pss_one (ps_ret (pe_op op_mod (pe_op op_mul (pv 3) (pe_op op_add (pv 3) pe_int)) pe_int))))), ?_⟩
    have e15 : (10 : Int) ^ (15 : Int).toNat = 1000000000000000 := by decide
    refine ⟨.int c, rfl, _, _, rfl, rfl, ⟨by decide, by decide, by decide⟩, _, _, rfl, rfl, by show (0 : Int) < 10 ^ (15 : Int).toNat; rw [e15]; decide, ?_⟩
    rw [e15]
    have r0 : 0 ≤ c % 1000000000000000 := Int.emod_nonneg _ (by decide)
    have r1 : c % 1000000000000000 < 1000000000000000 := Int.emod_lt_of_pos _ (by decide)
    generalize c % 1000000000000000 = r at r0 r1 ⊢
    refine ⟨_, rfl, _, rfl, _, _, rfl, rfl, .inl ⟨by omega, by omega⟩, _, rfl, _, _, rfl, rfl, .inl ⟨by decide, by decide⟩, _, _, rfl, rfl, _, rfl, _, _, rfl, rfl, .inl ⟨by decide, by decide⟩, _, _, rfl, rfl, _, _, rfl, rfl, _, _, rfl, rfl, .inr ⟨by decide, by decide⟩, _, _, rfl, rfl, by show (0 : Int) < 2147483629; decide, ?_⟩
    have n0 : 0 ≤ (r * r + 3 * r + 7919 * kk + 1) * 48271 % 2147483629 := Int.emod_nonneg _ (by decide)
    have n1 : (r * r + 3 * r + 7919 * kk + 1) * 48271 % 2147483629 < 2147483629 := Int.emod_lt_of_pos _ (by decide)
    generalize (r * r + 3 * r + 7919 * kk + 1) * 48271 % 2147483629 = n at n0 n1 ⊢
    refine ⟨_, rfl, _, rfl, _, _, rfl, rfl, .inl ⟨by omega, by omega⟩, _, _, rfl, rfl, _, _, rfl, rfl, by show (0 : Int) < 2147483587; decide, ?_⟩
    have m0 : 0 ≤ (n * n + 7) % 2147483587 := Int.emod_nonneg _ (by decide)
    have m1 : (n * n + 7) % 2147483587 < 2147483587 := Int.emod_lt_of_pos _ (by decide)
    generalize (n * n + 7) % 2147483587 = m at m0 m1 ⊢
    refine ⟨_, rfl, _, rfl, _, _, rfl, rfl, _, _, rfl, rfl, .inl ⟨by omega, by omega⟩, _, _, rfl, rfl, by show (0 : Int) < 2147483563; decide, ?_⟩
    exact q _ (Int.emod_nonneg _ (by decide))
end
end K52
namespace K52
open PySem PySem.Spec PyProof.Rows L2 N52
section
variable {P : Program} {w : World} {K : PySem.W.Frag} {mg : Str → Option Value} {base : Heap}
/-! ### _law_purse -/
abbrev sPurse : Stmt := topS 22
theorem sc_purse : FnScope ["_law_script", "_law_cells", "_law_number", "_law_k"] ["_law_script"] (defScope sPurse) := ⟨rfl, rfl, rfl, by decide +kernel, rfl, by decide +kernel, by decide +kernel⟩
/-- the purse -/
def PurseAt (H : Hp) (p : Addr) : Prop := ∃ x y : Int, H p = some (.lst [.int x, .int y]) ∧ 0 ≤ x ∧ 0 < y
def spPurse (K : PySem.W.Frag) : Sp := fun vs H Q _ => ∃ (a : Addr) (ns : List Int), vs = [.ref a] ∧ SqL K H a (ns.map V.int) ∧ ns.length ≤ 63 ∧ ∀ (H' : Hp) (p : Addr), Same H H' → PurseAt H' p → Q (.ref p) H'
theorem cut63 (ns : List Int) : cutV (ns.map V.int) none (some 63) = (ns.take 63).map V.int := by
  unfold cutV
  rw [HT.sIx_none]
  have e : HT.sIx (ns.map V.int).length (ns.map V.int).length (some 63) = min 63 (ns.map V.int).length := HT.sIx_nat _ _ 63
  rw [e, List.drop_zero, Nat.sub_zero, ← List.map_take, List.length_map]
  congr 1
  rcases Nat.le_total 63 ns.length with h | h
  · rw [Nat.min_eq_left h]
  · rw [Nat.min_eq_right h, List.take_length, List.take_of_length_le h]
theorem ok_purse {f fM : Addr} {fd fdM : FuncData} {k : Nat} (F : Fun K "_law_purse" "_law_purse" sPurse f fd) (ml : mg "len" = none) (mr : mg "range" = none)
    (GM : FnOk P w K mg base CX0 k fM fdM ["_law_cell", "_law_k"] spMixed) (kM : PySem.W.keepIn K (.ref fM) = true) (bM : Binds K fdM ["_law_cell", "_law_k"] []) (gM : mg "_law_mixed" = some (.ref fM)) : FnOk P w K mg base CX0 (k + 1) f fd ["_law_script"] (spPurse K) := by
  refine F.ok sc_purse (fun vs H Q E h => ?_) (fun cdv A outer s H vs Q E hr h => ?_)
  · obtain ⟨a, ns, rfl, _⟩ := h
    rfl
  · obtain ⟨a, ns, rfl, hS, hlen, q⟩ := h
    refine ⟨_, pss_cons (ps_set (i := 1) sc_purse.nd rfl (.inl rfl) (pe_op op_cat (pe_slice sl_list (pv 0) po_none (po_some pe_int)) (pe_lst (pa_cons pe_int pa_nil))))
      (pss_cons (ps_set (i := 2) sc_purse.nd rfl (.inl rfl) pe_int)
      (pss_cons (ps_for PassesOwn.never rfl (pi_range1 (by rfl) mr (pa_cons pe_int pa_nil)) (pg_name (i := 3) sc_purse.nd rfl (.inl rfl))
        (pss_one (ps_set (i := 2) sc_purse.nd rfl (.inl rfl) (pe_op op_add (pe_op op_mul (pv 2) pe_int)
          (pe_call GM hr (by rfl) gM kM bM .nil pass0 (pa_cons (pe_ix ix_list (pv 1) (pe_op op_mod (pv 3) (pe_callB call_len_seq (by rfl) ml PySem.boot_len (pa_cons (pv 1) pa_nil))) (fun _ _ => rfl)) (pa_cons (pv 3) pa_nil)))))))
      (pss_cons (ps_if (pt_cmpR op_ge (pe_ix ix_list (pv 1) pe_int (fun _ _ => rfl)) (pe_op op_pow pe_int pe_int) (nomark _))
          (pss_one (ps_ret (pe_lst (pa_cons (pe_op op_fdivW (pe_ix ix_list (pv 1) pe_int (fun _ _ => rfl)) (pe_op op_pow pe_int pe_int)) (pa_cons (pv 2) pa_nil))))) pss_nil)
      (pss_one (ps_ret (pe_lst (pa_cons (pv 2) (pa_cons (pv 2) pa_nil)))))))), ?_⟩
    -- cells
    refine ⟨.ref a, rfl, 63, rfl, a, _, rfl, hS, fun p1 n1 => ?_⟩
    rw [cut63]
    have s1 : Same H (upd H p1 (.lst ((ns.take 63).map V.int))) := same_upd n1
    have h1 : (upd H p1 (.lst ((ns.take 63).map V.int))) p1 = some (.lst ((ns.take 63).map V.int)) := upd_same
    generalize upd H p1 (.lst ((ns.take 63).map V.int)) = H1 at s1 h1 ⊢
    refine ⟨by show 1 ≤ sizeLine; decide, fun p2 n2 => ?_⟩
    have s2 : Same H1 (upd H1 p2 (.lst [.int 0])) := same_upd n2
    have h2 : (upd H1 p2 (.lst [.int 0])) p2 = some (.lst [.int 0]) := upd_same
    generalize upd H1 p2 (.lst [.int 0]) = H2 at s2 h2 ⊢
    refine ⟨p1, p2, _, _, rfl, rfl, s2 _ _ h1, h2, ?_, fun c nc => ?_⟩
    · rw [List.length_map, List.length_take, List.length_singleton, sizeLine_eq]
      omega
    have s3 : Same H2 (upd H2 c (.lst ((ns.take 63).map V.int ++ [.int 0]))) := same_upd nc
    have h3 : (upd H2 c (.lst ((ns.take 63).map V.int ++ [.int 0]))) c = some (.lst ((ns.take 63 ++ [0]).map V.int)) := by
      rw [upd_same, List.map_append]
      rfl
    generalize upd H2 c (.lst ((ns.take 63).map V.int ++ [.int 0])) = H3 at s3 h3 ⊢
    have hne : 0 < (ns.take 63 ++ [0]).length := by rw [List.length_append, List.length_singleton]; omega
    generalize ns.take 63 ++ [0] = cs at h3 hne ⊢
    have t3 : Same H H3 := (s1.trans s2).trans s3
    have hlc : (cs.map V.int).length = cs.length := List.length_map ..
    -- the loop
    refine ⟨150, rfl, by decide, by decide, for_range (n := 150) (fun i σ H' => ∃ (z : Int) (y : Option V), σ = [some (.ref a), some (.ref c), some (.int z), y] ∧ 0 < z ∧ H' = H3) ⟨1, none, rfl, by decide, rfl⟩ ?_ ?_⟩
    · rintro i σ H' hi ⟨z, y, rfl, hz, rfl⟩
      have h0 : (0 : Int) < (cs.length : Int) := by omega
      have e0 : 0 ≤ (0 + (i : Int)) % (cs.length : Int) := Int.emod_nonneg _ (by omega)
      have e1 : (0 + (i : Int)) % (cs.length : Int) < (cs.length : Int) := Int.emod_lt_of_pos _ h0
      obtain ⟨j, hj⟩ : ∃ j : Nat, (0 + (i : Int)) % (cs.length : Int) = (j : Int) := ⟨((0 + (i : Int)) % (cs.length : Int)).toNat, by omega⟩
      have hjl : j < cs.length := by omega
      refine ⟨_, rfl, _, _, rfl, rfl, .inr ⟨by decide, by decide⟩, .ref c, rfl, _, rfl, .ref c, rfl, c, _, rfl, .inl (SqL.of h3), ?_⟩
      rw [hlc]
      refine ⟨_, _, rfl, rfl, h0, c, _, _, .int cs[j], rfl, rfl, SqL.of h3, at_of hj (by rw [List.getElem?_map, List.getElem?_eq_getElem hjl]; rfl), _, rfl, _, _, rfl, by omega, by omega, fun v hv => ?_⟩
      refine ⟨_, _, rfl, rfl, _, _, rfl, ?_, rfl⟩
      have : 0 < z * 2147483587 := Int.mul_pos hz (by decide)
      omega
    · rintro σ H' ⟨z, y, rfl, hz, rfl⟩
      have e18 : (10 : Int) ^ (18 : Int).toNat = 1000000000000000000 := by decide
      have hc0 : atI (cs.map V.int) 0 = some (.int cs[0]) := atI_nat (j := 0) (by rw [List.getElem?_map, List.getElem?_eq_getElem hne]; rfl)
      refine ⟨.ref c, rfl, c, _, 0, _, rfl, rfl, SqL.of h3, hc0, _, _, rfl, rfl, ⟨by decide, by decide, by decide⟩, _, _, rfl, rfl, _, rfl, ?_⟩
      rw [e18]
      by_cases hge : (1000000000000000000 : Int) ≤ cs[0]
      · rw [decide_eq_true hge]
        refine iteT ⟨.ref c, rfl, c, _, 0, _, rfl, rfl, SqL.of h3, hc0, _, _, rfl, rfl, ⟨by decide, by decide, by decide⟩, _, _, rfl, rfl, ?_, _, rfl, by show 2 ≤ sizeLine; decide, fun p np => ?_⟩
        · show CDivW cs[0] ((10 : Int) ^ (18 : Int).toNat)
          rw [e18]
          exact ⟨by decide, by decide⟩
        · rw [e18]
          exact q _ p (t3.trans (same_upd np)) ⟨_, _, upd_same, Int.ediv_nonneg (by omega) (by decide), hz⟩
      · rw [decide_eq_false hge]
        exact iteF ⟨_, rfl, _, rfl, by show 2 ≤ sizeLine; decide, fun p np => q _ p (t3.trans (same_upd np)) ⟨_, _, upd_same, Int.le_of_lt hz, hz⟩⟩
/-! ### _law_draw -/
abbrev sDraw : Stmt := topS 23
theorem sc_draw : FnScope ["_law_purse_here", "_law_out_of", "_law_drawn"] ["_law_purse_here", "_law_out_of"] (defScope sDraw) := ⟨rfl, rfl, rfl, by decide +kernel, rfl, by decide +kernel, by decide +kernel⟩
def spDraw : Sp := fun vs H Q _ => ∃ (p : Addr) (j : Int), vs = [.ref p, .int j] ∧ PurseAt H p ∧ 0 < j ∧ j < 1073741824 ∧ ∀ (H' : Hp) (z : Int), But p H H' → PurseAt H' p → 0 ≤ z → z < j → Q (.int z) H'
theorem ok_draw {f : Addr} {fd : FuncData} {k : Nat} (F : Fun K "_law_draw" "_law_draw" sDraw f fd) : FnOk P w K mg base CX0 (k + 1) f fd ["_law_purse_here", "_law_out_of"] spDraw := by
  refine F.ok sc_draw (fun vs H Q E h => ?_) (fun cdv A outer s H vs Q E hr h => ?_)
  · obtain ⟨p, j, rfl, _⟩ := h
    rfl
  · obtain ⟨p, j, rfl, ⟨x, y, hp, hx, hy⟩, j0, j1, q⟩ := h
    refine ⟨_, Evl.pss_cut (ps_if (pt_cmpR op_eq (pe_ix ix_list (pv 0) pe_int (fun _ _ => rfl)) pe_int (nomark _)) (pss_one (ps_asg (pe_ix ix_list (pv 0) pe_int (fun _ _ => rfl)) (pg_sub (pv 0) pe_int set_list))) pss_nil)
      (pss_cons (ps_set (i := 2) sc_draw.nd rfl (.inl rfl) (pe_op op_mod (pe_ix ix_list (pv 0) pe_int (fun _ _ => rfl)) (pv 1)))
      (pss_cons (ps_asg (pe_op op_fdiv (pe_ix ix_list (pv 0) pe_int (fun _ _ => rfl)) (pv 1)) (pg_sub (pv 0) pe_int set_list))
      (pss_one (ps_ret (pv 2))))), ?_⟩
    refine ⟨fun σ' H' => σ' = [some (.ref p), some (.int j), none] ∧ But p H H' ∧ PurseAt H' p, ?_, ?_⟩
    · refine ⟨.ref p, rfl, p, _, 0, .int x, rfl, rfl, SqL.of hp, rfl, rfl, _, rfl, ?_⟩
      by_cases h0 : x = 0
      · subst h0
        rw [decide_eq_true rfl]
        refine iteT ⟨.ref p, rfl, p, _, 1, .int y, rfl, rfl, SqL.of hp, rfl, .ref p, rfl, p, _, 0, 0, rfl, rfl, hp, rfl, rfl, But.upd, ?_⟩
        exact ⟨y, y, upd_same, Int.le_of_lt hy, hy⟩
      · rw [decide_eq_false (fun z => h0 (by injection z))]
        exact iteF ⟨rfl, But.refl _ _, x, y, hp, hx, hy⟩
    · rintro σ' H1 ⟨rfl, b1, x1, y1, hp1, hx1, hy1⟩
      refine ⟨.ref p, rfl, p, _, 0, .int x1, rfl, rfl, SqL.of hp1, rfl, _, rfl, _, _, rfl, rfl, j0, ?_⟩
      refine ⟨.ref p, rfl, p, _, 0, .int x1, rfl, rfl, SqL.of hp1, rfl, _, rfl, _, _, rfl, rfl, ⟨j0, j1⟩, .ref p, rfl, p, _, 0, 0, rfl, rfl, hp1, rfl, _, rfl, ?_⟩
      exact q _ _ (K52.But.trans b1 But.upd) ⟨_, y1, upd_same, Int.ediv_nonneg hx1 (Int.le_of_lt j0), hy1⟩ (Int.emod_nonneg _ (by omega)) (Int.emod_lt_of_pos _ j0)
end
end K52
namespace K52
open PySem PySem.Spec PyProof.Rows L2 N52
section
variable {P : Program} {w : World} {K : PySem.W.Frag} {mg : Str → Option Value} {base : Heap}
/-- the purse is another list -/
theorem PurseAt.lst {H : Hp} {p : Addr} (h : PurseAt H p) : ∃ xs, H p = some (.lst xs) := let ⟨_, _, e, _⟩ := h; ⟨_, e⟩
theorem PurseAt.keep {H H' : Hp} {p : Addr} (h : PurseAt H p) (s : Same H H') : PurseAt H' p := let ⟨x, y, e, h1, h2⟩ := h; ⟨x, y, s _ _ e, h1, h2⟩
/-- all but two stands -/
def But2 (p f : Addr) (H H' : Hp) : Prop := ∀ b o, b ≠ p → b ≠ f → H b = some o → H' b = some o
theorem ent_keep2 {H H' : Hp} {p f c : Addr} {e : Ent} {xs ys : List V} (k : But2 p f H H') (hp : H p = some (.lst xs)) (hf : H f = some (.lst ys)) (h : EntAt H c e) : EntAt H' c e :=
  k c _ (ne_of h hp (fun z => nomatch z)) (ne_of h hf (fun z => nomatch z)) h
theorem row_keep2 {H H' : Hp} {p f a : Addr} {r : List Ent} {xs ys : List V} (k : But2 p f H H') (hp : H p = some (.lst xs)) (hf : H f = some (.lst ys)) (h1 : a ≠ p) (h2 : a ≠ f) (h : RowAt H a r) : RowAt H' a r := by
  obtain ⟨es, e, h3⟩ := h
  exact ⟨es, k _ _ h1 h2 e, Paired.mapP h3 fun c x q => ent_keep2 k hp hf q⟩
theorem paired_snoc {α β : Type} {F : α → β → Prop} : ∀ {xs : List α} {ys : List β} {x : α} {y : β}, Paired F xs ys → F x y → Paired F (xs ++ [x]) (ys ++ [y])
  | _, _, _, _, .nil, h => .cons h .nil
  | _, _, _, _, .cons h t, q => .cons h (paired_snoc t q)
theorem Paired.mem_imp {α β : Type} {F G : α → β → Prop} : ∀ {xs : List α} {ys : List β}, Paired F xs ys → (∀ x ∈ xs, ∀ y, F x y → G x y) → Paired G xs ys
  | _, _, .nil, _ => .nil
  | _, _, .cons h t, q => .cons (q _ (List.mem_cons_self ..) _ h) (Paired.mem_imp t fun x hx => q x (List.mem_cons_of_mem _ hx))
/-! ### _law_machine -/
abbrev sLMach : Stmt := topS 24
abbrev nLMach : List Str := ["_law_purse_here", "_law_rows", "_law_signs_here", "_law_found", "_law_empty", "_law_row", "_law_entries", "_law_sign", "_law_entry"]
theorem sc_lmach : FnScope nLMach ["_law_purse_here", "_law_rows", "_law_signs_here"] (defScope sLMach) := ⟨rfl, rfl, rfl, by decide +kernel, rfl, by decide +kernel, by decide +kernel⟩
def spLMach : Sp := fun vs H Q _ => ∃ (p : Addr) (R S : Nat), vs = [.ref p, .int R, .int S] ∧ PurseAt H p ∧ (1 ≤ R ∧ R ≤ 4) ∧ (2 ≤ S ∧ S ≤ 4) ∧ ∀ (H' : Hp) (f : Addr) (m : Mach), But p H H' → PurseAt H' p → MachOk m R S → (∀ H'', But p H' H'' → MachAt H'' f m) → Q (.ref f) H'
theorem ok_lmach {f fD : Addr} {fd fdD : FuncData} {k : Nat} (F : Fun K "_law_machine" "_law_machine" sLMach f fd) (mr : mg "range" = none)
    (GD : FnOk P w K mg base CX0 k fD fdD ["_law_purse_here", "_law_out_of"] spDraw) (kD : PySem.W.keepIn K (.ref fD) = true) (bD : Binds K fdD ["_law_purse_here", "_law_out_of"] []) (gD : mg "_law_draw" = some (.ref fD)) :
    FnOk P w K mg base CX0 (k + 1) f fd ["_law_purse_here", "_law_rows", "_law_signs_here"] spLMach := by
  refine F.ok sc_lmach (fun vs H Q E h => ?_) (fun cdv A outer s H vs Q E hr h => ?_)
  · obtain ⟨p, R, S, rfl, _⟩ := h
    rfl
  · obtain ⟨p, R, S, rfl, hP, hR, hS, q⟩ := h
    refine ⟨_, pss_cons (ps_set (i := 3) sc_lmach.nd rfl (.inl rfl) (pe_lst pa_nil))
      (pss_cons (ps_set (i := 4) sc_lmach.nd rfl (.inl rfl) (pe_ix ix_list (pe_lst (pa_cons pe_int (pa_cons pe_int (pa_cons pe_int pa_nil)))) (pe_call GD hr (by rfl) gD kD bD .nil pass0 (pa_cons (pv 0) (pa_cons pe_int pa_nil))) (fun _ _ => rfl)))
      (pss_cons (ps_for PassesOwn.never rfl (pi_range1 (by rfl) mr (pa_cons (pv 1) pa_nil)) (pg_name (i := 5) sc_lmach.nd rfl (.inl rfl))
        (pss_cons (ps_set (i := 6) sc_lmach.nd rfl (.inl rfl) (pe_lst pa_nil))
        (pss_cons (ps_for PassesOwn.never rfl (pi_range1 (by rfl) mr (pa_cons (pv 2) pa_nil)) (pg_name (i := 7) sc_lmach.nd rfl (.inl rfl))
          (pss_cons (ps_set (i := 8) sc_lmach.nd rfl (.inl rfl) (pe_tup (pa_cons (pe_call GD hr (by rfl) gD kD bD .nil pass0 (pa_cons (pv 0) (pa_cons (pv 2) pa_nil)))
              (pa_cons (pe_op op_sub (pe_op op_mul pe_int (pe_call GD hr (by rfl) gD kD bD .nil pass0 (pa_cons (pv 0) (pa_cons pe_int pa_nil)))) pe_int)
              (pa_cons (pe_call GD hr (by rfl) gD kD bD .nil pass0 (pa_cons (pv 0) (pa_cons (pv 1) pa_nil))) pa_nil)))))
          (Evl.pss_cut (ps_if (pt_cmpR op_eq (pe_call GD hr (by rfl) gD kD bD .nil pass0 (pa_cons (pv 0) (pa_cons (pv 4) pa_nil))) pe_int (nomark _)) (pss_one (ps_set (i := 8) sc_lmach.nd rfl (.inl rfl) (pe_tup pa_nil))) pss_nil)
          (pss_one (ps_expr (pe_bm PySem.F.plainAttrs_list PySem.F.slot_list_append PySem.F.type_list_append mt_append (pv 6) (pa_cons (pv 8) pa_nil)))))))
        (pss_one (ps_expr (pe_bm PySem.F.plainAttrs_list PySem.F.slot_list_append PySem.F.type_list_append mt_append (pv 3) (pa_cons (pv 6) pa_nil)))))))
      (pss_one (ps_ret (pv 3))))), ?_⟩
    -- an empty list
    refine ⟨Nat.zero_le _, fun fa nf => ?_⟩
    have s1 : Same H (upd H fa (.lst [])) := same_upd nf
    have h1 : (upd H fa (.lst [])) fa = some (.lst []) := upd_same
    obtain ⟨_, _, hp0, _⟩ := id hP
    have hpf : p ≠ fa := ne_of_none hp0 nf
    generalize upd H fa (.lst []) = H1 at s1 h1 ⊢
    -- empty
    refine ⟨by show 3 ≤ sizeLine; decide, fun t0 nt0 => ?_⟩
    have s2 : Same H1 (upd H1 t0 (.lst [.int 2, .int 5, .int 12])) := same_upd nt0
    have h2 : (upd H1 t0 (.lst [.int 2, .int 5, .int 12])) t0 = some (.lst [.int 2, .int 5, .int 12]) := upd_same
    have hpt : p ≠ t0 := ne_of_none (s1 _ _ hp0) nt0
    generalize upd H1 t0 (.lst [.int 2, .int 5, .int 12]) = H2 at s2 h2 ⊢
    refine ⟨.ref p, rfl, p, 3, rfl, (hP.keep s1).keep s2, by decide, by decide, fun H3 z b3 hP3 z0 z1 => ?_⟩
    obtain ⟨em, hem, em0, em1⟩ : ∃ em : Int, atI [V.int 2, V.int 5, V.int 12] z = some (.int em) ∧ 0 < em ∧ em < 1073741824 := by
      have hz : z = 0 ∨ z = 1 ∨ z = 2 := by omega
      rcases hz with rfl | rfl | rfl
      · exact ⟨2, rfl, by decide, by decide⟩
      · exact ⟨5, rfl, by decide, by decide⟩
      · exact ⟨12, rfl, by decide, by decide⟩
    refine ⟨t0, _, z, .int em, rfl, rfl, SqL.of (b3 _ _ hpt.symm h2), hem, ?_⟩
    have b03 : But p H H3 := fun c o hc e => b3 _ _ hc (s2 _ _ (s1 _ _ e))
    have hf3 : H3 fa = some (.lst []) := b3 _ _ hpf.symm (s2 _ _ h1)
    -- the rows
    refine ⟨.int R, rfl, R, rfl, by omega, by omega, for_range (n := R) (fun i σ H' => ∃ (y5 y6 y7 y8 : Option V) (rs : List Addr) (m : Mach), σ = [some (.ref p), some (.int R), some (.int S), some (.ref fa), some (.int em), y5, y6, y7, y8] ∧
        But p H H' ∧ PurseAt H' p ∧ H' fa = some (.lst (rs.map V.ref)) ∧ Paired (RowAt H') rs m ∧ (∀ b ∈ rs, b ≠ p ∧ b ≠ fa) ∧ m.length = i ∧ (∀ row ∈ m, row.length = S ∧ ∀ e ∈ row, EntOk R S e))
      ⟨none, none, none, none, [], [], rfl, b03, hP3, hf3, .nil, fun _ z => (nomatch z), rfl, fun _ z => (nomatch z)⟩ ?_ ?_⟩
    · rintro i σ H4 hi ⟨y5, y6, y7, y8, rs, m, rfl, b4, hP4, hf4, hrs, hne, hml, hmo⟩
      -- a row's list
      refine ⟨Nat.zero_le _, fun ea ne => ?_⟩
      have s5 : Same H4 (upd H4 ea (.lst [])) := same_upd ne
      have h5 : (upd H4 ea (.lst [])) ea = some (.lst []) := upd_same
      obtain ⟨xs4, hp4⟩ := hP4.lst
      have hpe : p ≠ ea := ne_of_none hp4 ne
      have hfe : fa ≠ ea := ne_of_none hf4 ne
      generalize upd H4 ea (.lst []) = H5 at s5 h5 ⊢
      -- the signs
      refine ⟨.int S, rfl, S, rfl, by omega, by omega, for_range (n := S) (fun j σ H' => ∃ (y7 y8 : Option V) (cs : List Addr) (row : List Ent), σ = [some (.ref p), some (.int R), some (.int S), some (.ref fa), some (.int em), some (.int (0 + (i : Int))), some (.ref ea), y7, y8] ∧
          But2 p ea H5 H' ∧ PurseAt H' p ∧ H' ea = some (.lst (cs.map V.ref)) ∧ Paired (EntAt H') cs row ∧ row.length = j ∧ ∀ e ∈ row, EntOk R S e)
        ⟨y7, y8, [], [], rfl, fun _ _ _ _ e => e, hP4.keep s5, h5, .nil, rfl, fun _ z => (nomatch z)⟩ ?_ ?_⟩
      · rintro j σ H6 hj ⟨y7, y8, cs, row, rfl, b6, hP6, he6, hcs, hrl, hro⟩
        have hcl : cs.length = row.length := Paired.length hcs
        -- the three draws
        refine ⟨.ref p, rfl, .int S, rfl, p, S, rfl, hP6, by omega, by omega, fun H7 z7 b7 hP7 z70 z71 => ?_⟩
        refine ⟨.ref p, rfl, p, 2, rfl, hP7, by decide, by decide, fun H8 z8 b8 hP8 z80 z81 => ?_⟩
        refine ⟨_, _, rfl, rfl, .inl ⟨by decide, by decide⟩, _, _, rfl, rfl, ?_⟩
        refine ⟨.ref p, rfl, .int R, rfl, p, R, rfl, hP8, by omega, by omega, fun H9 z9 b9 hP9 z90 z91 => ?_⟩
        refine ⟨by show 3 ≤ sizeLine; decide, fun ce nce => ?_⟩
        have s10 : Same H9 (upd H9 ce (.tup [.int z7, .int (2 * z8 - 1), .int z9])) := same_upd nce
        have h10 : (upd H9 ce (.tup [.int z7, .int (2 * z8 - 1), .int z9])) ce = some (.tup [.int z7, .int (2 * z8 - 1), .int z9]) := upd_same
        generalize upd H9 ce (.tup [.int z7, .int (2 * z8 - 1), .int z9]) = H10 at s10 h10 ⊢
        have b610 : But p H6 H10 := fun c o hc e => s10 _ _ (b9 _ _ hc (b8 _ _ hc (b7 _ _ hc e)))
        have hP10 := hP9.keep s10
        -- the draw for an empty entry
        refine ⟨fun σ' H' => ∃ (c : Addr) (e : Ent), σ' = [some (.ref p), some (.int R), some (.int S), some (.ref fa), some (.int em), some (.int (0 + (i : Int))), some (.ref ea), some (.int (0 + (j : Int))), some (.ref c)] ∧ But p H6 H' ∧ PurseAt H' p ∧ EntAt H' c e ∧ EntOk R S e, ?_, ?_⟩
        · refine ⟨.ref p, rfl, .int em, rfl, p, em, rfl, hP10, em0, em1, fun H11 z11 b11 hP11 _ _ => ⟨rfl, _, rfl, ?_⟩⟩
          have b611 : But p H6 H11 := K52.But.trans b610 b11
          by_cases h0 : z11 = 0
          · subst h0
            rw [decide_eq_true rfl]
            refine iteT ⟨Nat.zero_le _, fun c nc => ⟨c, none, rfl, K52.But.trans b611 (But.of (same_upd nc)), hP11.keep (same_upd nc), upd_same, True.intro⟩⟩
          · rw [decide_eq_false (fun z => h0 (by injection z))]
            refine iteF ⟨ce, some (z7, 2 * z8 - 1, z9), rfl, b611, hP11, ?_, ⟨⟨z70, z71⟩, ?_, ⟨z90, z91⟩⟩⟩
            · obtain ⟨xs10, hp10⟩ := hP10.lst
              exact b11 _ _ (ne_of h10 hp10 (fun z => nomatch z)) h10
            · omega
        · rintro σ' H12 ⟨c, e, rfl, b12, hP12, hc12, hek⟩
          have he12 : H12 ea = some (.lst (cs.map V.ref)) := b12 _ _ hpe.symm he6
          obtain ⟨xs12, hp12⟩ := hP12.lst
          refine ⟨.ref ea, rfl, .inl ⟨rfl, _, SqL.of he12⟩, .ref c, rfl, ea, cs.map V.ref, .ref c, rfl, rfl, he12, ?_, ?_⟩
          · rw [List.length_map]
            exact small1000 (by omega)
          · have k : But2 p ea H6 (upd H12 ea (.lst (cs.map V.ref ++ [.ref c]))) := fun d o h1 h2 e => by
              rw [upd_ne h2]
              exact b12 _ _ h1 e
            have k12 : But2 p ea H12 (upd H12 ea (.lst (cs.map V.ref ++ [.ref c]))) := fun d o h1 h2 e => by
              rw [upd_ne h2]
              exact e
            obtain ⟨xs6, hp6⟩ := hP6.lst
            refine ⟨_, _, cs ++ [c], row ++ [e], rfl, fun d o h1 h2 e => k _ _ h1 h2 (b6 _ _ h1 h2 e), ?_, ?_, paired_snoc (Paired.mapP hcs fun d e q => ent_keep2 k hp6 he6 q) (ent_keep2 k12 hp12 he12 hc12), ?_, fun e' he' => ?_⟩
            · obtain ⟨x, y, e1, e2, e3⟩ := hP12
              exact ⟨x, y, by rw [upd_ne hpe]; exact e1, e2, e3⟩
            · rw [upd_same, List.map_append]
              rfl
            · rw [List.length_append, List.length_singleton, hrl]
            · rcases List.mem_append.mp he' with z | z
              · exact hro e' z
              · rw [List.mem_singleton.mp z]
                exact hek
      · rintro σ H6 ⟨y7, y8, cs, row, rfl, b6, hP6, he6, hcs, hrl, hro⟩
        -- the row is done
        have hf5 : H5 fa = some (.lst (rs.map V.ref)) := s5 _ _ hf4
        have hf6 : H6 fa = some (.lst (rs.map V.ref)) := b6 _ _ hpf.symm hfe hf5
        have hrl2 : rs.length = m.length := Paired.length hrs
        refine ⟨.ref fa, rfl, .inl ⟨rfl, _, SqL.of hf6⟩, .ref ea, rfl, fa, rs.map V.ref, .ref ea, rfl, rfl, hf6, ?_, ?_⟩
        · rw [List.length_map]
          exact small1000 (by omega)
        · have k46 : ∀ b o, b ≠ p → H4 b = some o → H6 b = some o := fun b o h1 e => b6 _ _ h1 (ne_of_none e ne) (s5 _ _ e)
          have k : But2 p fa H4 (upd H6 fa (.lst (rs.map V.ref ++ [.ref ea]))) := fun d o h1 h2 e => by
            rw [upd_ne h2]
            exact k46 _ _ h1 e
          have k6 : But2 p fa H6 (upd H6 fa (.lst (rs.map V.ref ++ [.ref ea]))) := fun d o h1 h2 e => by
            rw [upd_ne h2]
            exact e
          obtain ⟨xs6, hp6⟩ := hP6.lst
          refine ⟨_, _, _, _, rs ++ [ea], m ++ [row], rfl, fun c o hc e => ?_, ?_, ?_, paired_snoc (Paired.mem_imp hrs fun b hb r q => row_keep2 k hp4 hf4 (hne b hb).1 (hne b hb).2 q) (row_keep2 k6 hp6 hf6 hpe.symm hfe.symm ⟨cs, he6, hcs⟩), fun b hb => ?_, ?_, fun r hr' => ?_⟩
          · exact k _ _ hc (ne_of_none e nf) (b4 _ _ hc e)
          · obtain ⟨x, y, e1, e2, e3⟩ := hP6
            exact ⟨x, y, by rw [upd_ne hpf]; exact e1, e2, e3⟩
          · rw [upd_same, List.map_append]
            rfl
          · rcases List.mem_append.mp hb with z | z
            · exact hne b z
            · rw [List.mem_singleton.mp z]
              exact ⟨hpe.symm, hfe.symm⟩
          · rw [List.length_append, List.length_singleton, hml]
          · rcases List.mem_append.mp hr' with z | z
            · exact hmo r z
            · rw [List.mem_singleton.mp z]
              exact ⟨hrl, hro⟩
    · rintro σ H4 ⟨y5, y6, y7, y8, rs, m, rfl, b4, hP4, hf4, hrs, hne, hml, hmo⟩
      obtain ⟨xs4, hp4⟩ := hP4.lst
      refine ⟨.ref fa, rfl, q H4 fa m b4 hP4 ⟨hml, hmo⟩ fun H'' b'' => ⟨rs, b'' _ _ hpf.symm hf4, Paired.mem_imp hrs fun b hb r z => row_keep2 (fun d o h1 h2 e => b'' _ _ h1 e) hp4 hp4 (hne b hb).1 (hne b hb).1 z⟩⟩
/-! ### _law_copy -/
abbrev sCopy : Stmt := topS 25
theorem sc_copy : FnScope ["_law_machine_here", "_law_entries"] ["_law_machine_here"] (defScope sCopy) := ⟨rfl, rfl, rfl, by decide +kernel, rfl, by decide +kernel, by decide +kernel⟩
def spCopy : Sp := fun vs H Q _ => ∃ (a : Addr) (m : Mach) (R S : Nat), vs = [.ref a] ∧ MachAt H a m ∧ Sized m R S ∧ ∀ (H' : Hp) (f : Addr), Same H H' → MachAt H' f m → Q (.ref f) H'
/-- list of a list or a tuple, the written part named -/
def rListS (K : PySem.W.Frag) : List V → Hp → VK → Prop := fun xs H Q => ∃ p ys, xs = [.ref p] ∧ (SqL K H p ys ∨ SqT K H p ys) ∧ ∀ l, H l = none → Q (.ref l) (upd H l (.lst ys))
theorem ok_copy {f : Addr} {fd : FuncData} {k : Nat} (F : Fun K "_law_copy" "_law_copy" sCopy f fd) (mli : mg "list" = none) : FnOk P w K mg base CX0 (k + 1) f fd ["_law_machine_here"] spCopy := by
  refine F.ok sc_copy (fun vs H Q E h => ?_) (fun cdv A outer s H vs Q E hr h => ?_)
  · obtain ⟨a, m, R, S, rfl, _⟩ := h
    rfl
  · obtain ⟨a, m, R, S, rfl, hM, sz, q⟩ := h
    refine ⟨_, pss_one (ps_ret (pe_lc (own := [("_law_entries", 1)]) (g := gName 1) (tt := tYes) (by rfl) sc_copy.nd (pi_list (pv 0)) (blkOk_by (own := [("_law_entries", 1)]) (N := ["_law_machine_here", "_law_entries"]) (sc := defScope sCopy) (by decide +kernel))
      (fun _ _ _ _ _ => pg_name (i := 1) sc_copy.nd rfl (Or.inl rfl)) (fun _ _ _ _ _ => pts_nil)
      (fun _ _ _ _ _ => pe_callTy (r := rListS K) call_list_of (by rfl) mli PyProof.Rows.boot_list (pa_cons (pv 1) pa_nil)))), ?_⟩
    obtain ⟨rs, hH, hp⟩ := id hM
    refine ⟨.ref a, rfl, a, rfl, ⟨_, SqL.of hH⟩, fun D hD => lc_list (K := K) (a := a) (xs := rs.map V.ref) (fun i H' => Same H H' ∧ ∃ ls : List Addr, H' D = some (.lst (ls.map V.ref)) ∧ Paired (RowAt H') ls (m.take i) ∧ (∀ b ∈ ls, b ≠ D)) ⟨same_upd hD, [], upd_same, by rw [List.take_zero]; exact .nil, fun _ z => (nomatch z)⟩ (fun i H' _ h => SqL.of (h.1 _ _ hH)) ?_ ?_⟩
    · rintro i x H' hx ⟨sm, ls, h1, h2, h3⟩
      obtain ⟨b, row, rfl, hm, hRow⟩ := row_at hM hH hx
      have hi : i < m.length := (List.getElem?_eq_some_iff.mp hm).1
      have hlm : ls.length = (m.take i).length := Paired.length h2
      rw [List.length_take] at hlm
      have hmR := sz.ok.len
      have hR4 := sz.r.2
      obtain ⟨es, hE, hq⟩ := hRow
      refine ⟨rfl, yes ⟨.ref b, rfl, b, _, rfl, .inl (SqL.of (sm _ _ hE)), fun l nl => ?_⟩⟩
      have s2 : Same H' (upd H' l (.lst (es.map V.ref))) := same_upd nl
      have hl2 : (upd H' l (.lst (es.map V.ref))) l = some (.lst (es.map V.ref)) := upd_same
      have hlD : l ≠ D := (ne_of_none h1 nl).symm
      generalize upd H' l (.lst (es.map V.ref)) = H2 at s2 hl2 ⊢
      have hD2 := s2 _ _ h1
      refine ⟨_, hD2, ?_, fun c o e => ?_, ls ++ [l], ?_, ?_, fun c hc => ?_⟩
      · rw [List.length_map]
        exact small1000 (by omega)
      · rw [upd_ne (ne_of_none e hD)]
        exact s2 _ _ (sm _ _ e)
      · rw [upd_same, List.map_append]
        rfl
      · have htk : m.take (i + 1) = m.take i ++ [row] := by rw [List.take_add_one, hm]; rfl
        have k2 : But2 D D H2 (upd H2 D (.lst (ls.map V.ref ++ [.ref l]))) := fun d o h1 _ e => by rw [upd_ne h1]; exact e
        rw [htk]
        refine paired_snoc (Paired.mem_imp h2 fun c hc r z => row_keep2 k2 hD2 hD2 (h3 c hc) (h3 c hc) (z.keep (Seqs.of s2))) (row_keep2 k2 hD2 hD2 hlD hlD ⟨es, hl2, Paired.mapP hq fun d e z => ?_⟩)
        exact s2 _ _ (sm _ _ z)
      · rcases List.mem_append.mp hc with z | z
        · exact h3 c z
        · rw [List.mem_singleton.mp z]
          exact hlD
    · rintro H' ⟨sm, ls, h1, h2, h3⟩
      have hlen : (rs.map V.ref).length = m.length := by rw [List.length_map, Paired.length hp]
      rw [hlen, List.take_length] at h2
      exact q H' D sm ⟨ls, h1, h2⟩
end
end K52
namespace K52
open PySem PySem.Spec PyProof.Rows L2 N52
/-! ### d.copy() -/
section
variable {X : Cx}
def rDCopy : V → List V → Hp → VK → Prop := fun x vs H Q => ∃ d kvs, x = .ref d ∧ vs = [] ∧ H d = some (.dK kvs) ∧ ∀ p, H p = none → Q (.ref p) (upd H p (.dK kvs))
theorem mt_dcopy : MtR X "dict.copy" rDCopy := by
  intro pins s σ H x vs v us Q I rx rv h
  obtain ⟨d, kvs, rfl, rfl, e, q⟩ := h
  cases rx
  cases rv
  obtain ⟨z, hd, ks, rel, dd⟩ := dk_of I.hok e
  refine call_meetsIn PySem.F.slot_dict_copy dd.typeIs PySem.F.entry_dict_copy (PySem.F.args_dict_copy_1 _) (meets_dict_copy (mixKind X.prog X.w) d hd) ⟨ks, dd, by rw [← rel.length]; exact z, fun h' d1 d2 kp => ?_⟩
  have nm : (s.heap.objs.size == sysModules) = false := beq_eq_false_iff_ne.mpr (Ne.symm (Nat.ne_of_lt I.big))
  exact ⟨.ref s.heap.objs.size, _, I.laid (t' := s.toks) (o := .dK kvs) kp (Nat.le_refl _) (dk_new z nm rel d1), rfl, q _ (I.hok.fresh (Nat.le_refl _))⟩
end
/-! ### the strip -/
abbrev Kvs := List (Key × V)
structure StripOk (S b : Nat) (kvs : Kvs) (t : Int → Int) : Prop where
  len : kvs.length ≤ b
  key : ∀ kv ∈ kvs, ∃ i : Int, kv.1 = .inl i ∧ -(b : Int) ≤ i ∧ i ≤ (b : Int)
  val : ∀ q : Int, (valV kvs (Sum.inl q : Key)).getD (.int 0) = .int (t q)
  rng : ∀ q : Int, 0 ≤ t q ∧ t q < (S : Int)
theorem StripOk.start {S : Nat} (h : 0 < S) : StripOk S 0 [] (fun _ => 0) := ⟨Nat.le_refl _, fun _ z => (nomatch z), fun _ => rfl, fun _ => ⟨Int.le_refl 0, show (0 : Int) < (S : Int) by omega⟩⟩
theorem putK_key {kvs : Kvs} {k : Key} {v : V} {kv : Key × V} (h : kv ∈ putK kvs k v) : kv.1 = k ∨ ∃ kv' ∈ kvs, kv'.1 = kv.1 := by
  unfold putK at h
  split at h
  · obtain ⟨kv', h1, h2⟩ := List.mem_map.mp h
    refine .inr ⟨kv', h1, ?_⟩
    rw [← h2]
    split <;> rfl
  · rcases List.mem_append.mp h with q | q
    · exact .inr ⟨kv, q, rfl⟩
    · rw [List.mem_singleton.mp q]
      exact .inl rfl
theorem StripOk.put {S b : Nat} {kvs : Kvs} {t : Int → Int} (h : StripOk S b kvs t) {p v : Int} (hp : -(b : Int) ≤ p ∧ p ≤ (b : Int)) (hv : 0 ≤ v ∧ v < (S : Int)) : StripOk S (b + 1) (putK kvs (Sum.inl p) (.int v)) (put t p v) := by
  refine ⟨Nat.le_trans (length_putK _ _ _) (Nat.succ_le_succ h.len), fun kv hk => ?_, fun q => ?_, fun q => ?_⟩
  · rcases putK_key hk with e | ⟨kv', h1, e⟩
    · exact ⟨p, e, by omega, by omega⟩
    · obtain ⟨i, e2, h2, h3⟩ := h.key kv' h1
      exact ⟨i, by rw [← e, e2], by omega, by omega⟩
  · rw [valV_put]
    by_cases e : q = p
    · subst e
      rw [if_pos rfl, put_same]
      rfl
    · rw [if_neg (fun z => e (by injection z)), put_ne _ _ e]
      exact h.val q
  · by_cases e : q = p
    · subst e
      rw [put_same]
      exact hv
    · rw [put_ne _ _ e]
      exact h.rng q
def StripAt (S b : Nat) (H : Hp) (d : Addr) (t : Int → Int) : Prop := ∃ kvs, H d = some (.dK kvs) ∧ StripOk S b kvs t
theorem StripAt.keep {S b : Nat} {H H' : Hp} {d : Addr} {t : Int → Int} (h : StripAt S b H d t) (s : Same H H') : StripAt S b H' d t := let ⟨k, e, o⟩ := h; ⟨k, s _ _ e, o⟩
/-- a setup -/
def CfgAt (R S b : Nat) (H : Hp) (t : Addr) (c : Cfg) : Prop := ∃ d, H t = some (.tup [.int c.row, .int c.pos, .ref d]) ∧ StripAt S b H d c.tape ∧ (0 ≤ c.row ∧ c.row < (R : Int)) ∧ (-(b : Int) ≤ c.pos ∧ c.pos ≤ (b : Int))
theorem CfgAt.keep {R S b : Nat} {H H' : Hp} {t : Addr} {c : Cfg} (h : CfgAt R S b H t c) (s : Same H H') : CfgAt R S b H' t c := let ⟨d, e, o, r⟩ := h; ⟨d, s _ _ e, o.keep s, r⟩
section
variable {P : Program} {w : World} {K : PySem.W.Frag} {mg : Str → Option Value} {base : Heap}
/-! ### _law_step -/
abbrev sStep : Stmt := topS 26
abbrev nStep : List Str := ["_law_machine_here", "_law_setup", "_law_row", "_law_place", "_law_strip", "_law_entry", "_law_more"]
theorem sc_step : FnScope nStep ["_law_machine_here", "_law_setup"] (defScope sStep) := ⟨rfl, rfl, rfl, by decide +kernel, rfl, by decide +kernel, by decide +kernel⟩
def spStep : Sp := fun vs H Q _ => ∃ (a t : Addr) (m : Mach) (R S b : Nat) (c : Cfg) (p v n : Int), vs = [.ref a, .ref t] ∧ MachAt H a m ∧ MachOk m R S ∧ CfgAt R S b H t c ∧ b ≤ 999 ∧ ent m c.row (c.tape c.pos) = some (p, v, n) ∧
  ∀ (H' : Hp) (t' : Addr), Same H H' → CfgAt R S (b + 1) H' t' (go c p v n) → Q (.ref t') H'
theorem ok_step {f : Addr} {fd : FuncData} {k : Nat} (F : Fun K "_law_step" "_law_step" sStep f fd) : FnOk P w K mg base CX0 (k + 1) f fd ["_law_machine_here", "_law_setup"] spStep := by
  refine F.ok sc_step (fun vs H Q E h => ?_) (fun cdv A outer s H vs Q E hr h => ?_)
  · obtain ⟨a, t, m, R, S, b, c, p, v, n, rfl, _⟩ := h
    rfl
  · obtain ⟨a, t, m, R, S, b, c, p, v, n, rfl, hM, ok, ⟨d, ht, ⟨kvs, hd, so⟩, hrow, hpos⟩, hb, he, q⟩ := h
    have hu := hu_of hr
    refine ⟨_, pss_cons (ps_asg (pv 1) (pg_tup (by rfl) (pgs_cons (pg_name (i := 2) sc_step.nd rfl (.inl rfl)) (pgs_cons (pg_name (i := 3) sc_step.nd rfl (.inl rfl)) (pgs_cons (pg_name (i := 4) sc_step.nd rfl (.inl rfl)) pgs_nil)))))
      (pss_cons (ps_set (i := 5) sc_step.nd rfl (.inl rfl) (pe_ix ix_list (pe_ix ix_list (pv 0) (pv 2) (fun _ _ => rfl)) (pe_dget2 hu (pv 4) (pv 3) pe_int ⟨rfl, rfl, rfl, rfl⟩) (fun _ _ => rfl)))
      (pss_cons (ps_if (pt_cmpR (op_eqD hr.units) (pv 5) (pe_tup pa_nil) (nomark _)) (pss_one (ps_ret pe_non)) pss_nil)
      (pss_cons (ps_set (i := 6) sc_step.nd rfl (.inl rfl) (pe_bm0 PySem.F.plainAttrs_dict PySem.F.slot_dict_copy PySem.F.type_dict_copy mt_dcopy (pv 4)))
      (pss_cons (ps_dput hu (pv 6) (pv 3) (pe_ix ix_tup (pv 5) pe_int (fun _ _ => rfl)) rfl)
      (pss_one (ps_ret (pe_tup (pa_cons (pe_ix ix_tup (pv 5) pe_int (fun _ _ => rfl)) (pa_cons (pe_op op_add (pv 3) (pe_ix ix_tup (pv 5) pe_int (fun _ _ => rfl))) (pa_cons (pv 6) pa_nil)))))))))), ?_⟩
    obtain ⟨rs, b1, es, ce, g1, g2, g3, g4, g5, g6⟩ := ent_look hM ok hrow (so.rng c.pos)
    rw [he] at g5 g6
    obtain ⟨okp, okv, okn⟩ := g6
    -- the setup is taken apart
    refine ⟨.ref t, rfl, t, _, rfl, SqT.of ht, rfl, .int c.row, _, rfl, .int c.pos, _, rfl, .ref d, [], rfl, rfl, ?_⟩
    -- entry
    refine ⟨.ref a, rfl, .int c.row, rfl, a, _, c.row, .ref b1, rfl, rfl, SqL.of g1, g2, .ref d, rfl, d, rfl, .inl ⟨kvs, .inl hd⟩, .int c.pos, rfl, valV kvs (Sum.inl c.pos), DGet.k (k := Sum.inl c.pos) hd, ?_⟩
    rw [so.val]
    refine ⟨b1, _, _, .ref ce, rfl, rfl, SqL.of g3, g4, ?_⟩
    -- is it the empty one
    refine ⟨.ref ce, rfl, Nat.zero_le _, fun pe npe => ?_⟩
    have s2 : Same H (upd H pe (.tup [])) := same_upd npe
    have hpe : (upd H pe (.tup [])) pe = some (.tup []) := upd_same
    generalize upd H pe (.tup []) = H2 at s2 hpe ⊢
    have hce : H2 ce = some (.tup (wV (entI (some (p, v, n))))) := s2 _ _ g5
    refine ⟨wD (entI (some (p, v, n))), wD [], dp_w hce, dp_w hpe, wD_shaped _, wD_shaped _, _, rfl, ?_⟩
    rw [wD_eqv]
    refine iteF ?_
    -- the strip's copy
    have hd2 := s2 _ _ hd
    refine ⟨.ref d, rfl, .inr (.inr (.inl ⟨rfl, .inl ⟨kvs, hd2⟩⟩)), d, kvs, rfl, rfl, hd2, fun e ne => ?_⟩
    have s3 : Same H2 (upd H2 e (.dK kvs)) := same_upd ne
    have he3 : (upd H2 e (.dK kvs)) e = some (.dK kvs) := upd_same
    have nte : ∀ {b : Addr} {o : HO}, H b = some o → b ≠ e := fun z => ne_of_none (s2 _ _ z) ne
    have nce : ce ≠ e := ne_of_none hce ne
    generalize upd H2 e (.dK kvs) = H3 at s3 he3 ⊢
    have hce3 := s3 _ _ hce
    -- the sign is put
    refine ⟨.ref ce, rfl, ce, _, 0, .int p, rfl, rfl, SqT.of hce3, rfl, .ref e, rfl, .int c.pos, rfl, e, _, rfl, DPut.k (k := Sum.inl c.pos) he3 ?_, ?_⟩
    · have := so.len
      exact small1000 (by omega)
    have hce4 : (upd H3 e (.dK (putK kvs (Sum.inl c.pos) (.int p)))) ce = some (.tup (wV (entI (some (p, v, n))))) := by
      rw [upd_ne nce]
      exact hce3
    have s4 : Same H (upd H3 e (.dK (putK kvs (Sum.inl c.pos) (.int p)))) := fun z o q => by
      rw [upd_ne (nte q)]
      exact s3 _ _ (s2 _ _ q)
    have he4 : (upd H3 e (.dK (putK kvs (Sum.inl c.pos) (.int p)))) e = some (.dK (putK kvs (Sum.inl c.pos) (.int p))) := upd_same
    generalize upd H3 e (.dK (putK kvs (Sum.inl c.pos) (.int p))) = H4 at hce4 s4 he4 ⊢
    refine ⟨.ref ce, rfl, ce, _, 2, .int n, rfl, rfl, SqT.of hce4, rfl, .int c.pos, rfl, .ref ce, rfl, ce, _, 1, .int v, rfl, rfl, SqT.of hce4, rfl, _, _, rfl, rfl, .ref e, rfl, by show 3 ≤ sizeLine; decide, fun t' nt' => ?_⟩
    have s5 : Same H4 (upd H4 t' (.tup [.int n, .int (c.pos + v), .ref e])) := same_upd nt'
    refine q _ t' (s4.trans s5) ⟨e, upd_same, ⟨_, s5 _ _ he4, so.put hpos okp⟩, okn, ?_⟩
    show -((b + 1 : Nat) : Int) ≤ c.pos + v ∧ c.pos + v ≤ ((b + 1 : Nat) : Int)
    omega
/-! ### _law_ends -/
abbrev sEnds : Stmt := topS 27
abbrev nEnds : List Str := ["_law_machine_here", "_law_most", "_law_row", "_law_place", "_law_strip", "_law_steps", "_law_entry"]
theorem sc_ends : FnScope nEnds ["_law_machine_here", "_law_most"] (defScope sEnds) := ⟨rfl, rfl, rfl, by decide +kernel, rfl, by decide +kernel, by decide +kernel⟩
theorem go_on {m : Mach} {Rn S W : Nat} {L R : List Wd} {M : List Mid} (hW : 0 < W) (sh : Shut m W L R M) (ok : MachOk m Rn S) {c : Cfg} (st : Stands W L R M c) (hrow : 0 ≤ c.row ∧ c.row < (Rn : Int)) (hs : 0 ≤ c.tape c.pos ∧ c.tape c.pos < (S : Int)) :
    ∃ p v n, ent m c.row (c.tape c.pos) = some (p, v, n) ∧ EntOk Rn S (some (p, v, n)) ∧ Stands W L R M (go c p v n) := by
  obtain ⟨p, v, n, e, h⟩ := stands_step hW sh st
  obtain ⟨row, _, _, _, hok⟩ := ent_at ok hrow hs
  rw [e] at hok
  exact ⟨p, v, n, e, hok, h hok.2.1.symm⟩
def spEnds : Sp := fun vs H Q _ => ∃ (a : Addr) (m : Mach) (Rn S W : Nat) (L R : List Wd) (M : List Mid), vs = [.ref a, .int 600] ∧ MachAt H a m ∧ MachOk m Rn S ∧ 0 < Rn ∧ 0 < S ∧ 0 < W ∧ Shut m W L R M ∧ ∀ H', Same H H' → Q .non H'
theorem ok_ends {f : Addr} {fd : FuncData} {k : Nat} (F : Fun K "_law_ends" "_law_ends" sEnds f fd) (mr : mg "range" = none) : FnOk P w K mg base CX0 (k + 1) f fd ["_law_machine_here", "_law_most"] spEnds := by
  refine F.ok sc_ends (fun vs H Q E h => ?_) (fun cdv A outer s H vs Q E hr h => ?_)
  · obtain ⟨a, m, Rn, S, W, L, R, M, rfl, _⟩ := h
    rfl
  · obtain ⟨a, m, Rn, S, W, L, R, M, rfl, hM, ok, hR0, hS0, hW, sh, q⟩ := h
    have hu := hu_of hr
    refine ⟨_, pss_cons (ps_set (i := 2) sc_ends.nd rfl (.inl rfl) pe_int)
      (pss_cons (ps_set (i := 3) sc_ends.nd rfl (.inl rfl) pe_int)
      (pss_cons (ps_set (i := 4) sc_ends.nd rfl (.inl rfl) pe_dnewK)
      (pss_cons (ps_for PassesOwn.never rfl (pi_range1 (by rfl) mr (pa_cons (pe_op op_add (pv 1) pe_int) pa_nil)) (pg_name (i := 5) sc_ends.nd rfl (.inl rfl))
        (pss_cons (ps_set (i := 6) sc_ends.nd rfl (.inl rfl) (pe_ix ix_list (pe_ix ix_list (pv 0) (pv 2) (fun _ _ => rfl)) (pe_dget2 hu (pv 4) (pv 3) pe_int ⟨rfl, rfl, rfl, rfl⟩) (fun _ _ => rfl)))
        (pss_cons (ps_if (pt_cmpR (op_eqD hr.units) (pv 6) (pe_tup pa_nil) (nomark _)) (pss_one (ps_ret (pv 5))) pss_nil)
        (pss_cons (ps_dput hu (pv 4) (pv 3) (pe_ix ix_tup (pv 6) pe_int (fun _ _ => rfl)) rfl)
        (pss_cons (ps_set (i := 3) sc_ends.nd rfl (.inl rfl) (pe_op op_add (pv 3) (pe_ix ix_tup (pv 6) pe_int (fun _ _ => rfl))))
        (pss_one (ps_set (i := 2) sc_ends.nd rfl (.inl rfl) (pe_ix ix_tup (pv 6) pe_int (fun _ _ => rfl)))))))))
      (pss_one (ps_ret pe_non))))), ?_⟩
    refine fun d nd => ?_
    have s1 : Same H (upd H d (.dK [])) := same_upd nd
    have nhd : ∀ {b : Addr} {o : HO}, H b = some o → b ≠ d := fun z => ne_of_none z nd
    have hd1 : (upd H d (.dK [])) d = some (.dK []) := upd_same
    generalize upd H d (.dK []) = H1 at s1 hd1 ⊢
    refine ⟨.int 600, rfl, _, _, rfl, rfl, 601, rfl, by decide, by decide, for_range (n := 601) (fun i σ H' => ∃ (c : Cfg) (y5 y6 : Option V), σ = [some (.ref a), some (.int 600), some (.int c.row), some (.int c.pos), some (.ref d), y5, y6] ∧ Same H H' ∧ Stands W L R M c ∧
        StripAt S i H' d c.tape ∧ (0 ≤ c.row ∧ c.row < (Rn : Int)) ∧ (-(i : Int) ≤ c.pos ∧ c.pos ≤ (i : Int)))
      ⟨K52.start, none, none, rfl, s1, stands_start sh, ⟨[], hd1, StripOk.start hS0⟩, ⟨Int.le_refl 0, show (0 : Int) < (Rn : Int) by omega⟩, ⟨by decide, by decide⟩⟩ ?_ ?_⟩
    · rintro i σ H2 hi ⟨c, y5, y6, rfl, sm, st, ⟨kvs, hd, so⟩, hrow, hpos⟩
      obtain ⟨p, v, n, he, ⟨okp, okv, okn⟩, st'⟩ := go_on hW sh ok st hrow (so.rng c.pos)
      have hM2 := hM.keep (Seqs.of sm)
      obtain ⟨rs, b1, es, ce, g1, g2, g3, g4, g5, g6⟩ := ent_look hM2 ok hrow (so.rng c.pos)
      rw [he] at g5
      refine ⟨.ref a, rfl, .int c.row, rfl, a, _, c.row, .ref b1, rfl, rfl, SqL.of g1, g2, .ref d, rfl, d, rfl, .inl ⟨kvs, .inl hd⟩, .int c.pos, rfl, valV kvs (Sum.inl c.pos), DGet.k (k := Sum.inl c.pos) hd, ?_⟩
      rw [so.val]
      refine ⟨b1, _, _, .ref ce, rfl, rfl, SqL.of g3, g4, ?_⟩
      refine ⟨.ref ce, rfl, Nat.zero_le _, fun pe npe => ?_⟩
      have s3 : Same H2 (upd H2 pe (.tup [])) := same_upd npe
      have hpe : (upd H2 pe (.tup [])) pe = some (.tup []) := upd_same
      generalize upd H2 pe (.tup []) = H3 at s3 hpe ⊢
      have hce : H3 ce = some (.tup (wV (entI (some (p, v, n))))) := s3 _ _ g5
      have hd3 := s3 _ _ hd
      refine ⟨wD (entI (some (p, v, n))), wD [], dp_w hce, dp_w hpe, wD_shaped _, wD_shaped _, _, rfl, ?_⟩
      rw [wD_eqv]
      refine iteF ?_
      refine ⟨.ref ce, rfl, ce, _, 0, .int p, rfl, rfl, SqT.of hce, rfl, .ref d, rfl, .int c.pos, rfl, d, _, rfl, DPut.k (k := Sum.inl c.pos) hd3 ?_, ?_⟩
      · have := so.len
        exact small1000 (by omega)
      have hce4 : (upd H3 d (.dK (putK kvs (Sum.inl c.pos) (.int p)))) ce = some (.tup (wV (entI (some (p, v, n))))) := by
        rw [upd_ne (ne_of hce hd3 (fun z => nomatch z))]
        exact hce
      have s4 : Same H (upd H3 d (.dK (putK kvs (Sum.inl c.pos) (.int p)))) := fun z o e => by
        rw [upd_ne (nhd e)]
        exact s3 _ _ (sm _ _ e)
      have hd4 : (upd H3 d (.dK (putK kvs (Sum.inl c.pos) (.int p)))) d = some (.dK (putK kvs (Sum.inl c.pos) (.int p))) := upd_same
      generalize upd H3 d (.dK (putK kvs (Sum.inl c.pos) (.int p))) = H4 at hce4 s4 hd4 ⊢
      refine ⟨.int c.pos, rfl, .ref ce, rfl, ce, _, 1, .int v, rfl, rfl, SqT.of hce4, rfl, _, _, rfl, rfl, .ref ce, rfl, ce, _, 2, .int n, rfl, rfl, SqT.of hce4, rfl, ?_⟩
      refine ⟨go c p v n, _, _, rfl, s4, st', ⟨_, hd4, so.put hpos okp⟩, okn, ?_⟩
      show -((i + 1 : Nat) : Int) ≤ c.pos + v ∧ c.pos + v ≤ ((i + 1 : Nat) : Int)
      omega
    · rintro σ H2 ⟨c, y5, y6, rfl, sm, st, _⟩
      exact q H2 sm
/-! ### _law_signs -/
abbrev sSigns : Stmt := topS 28
abbrev nSigns : List Str := ["_law_strip", "_law_first", "_law_many", "_law_k"]
theorem sc_signs : FnScope nSigns ["_law_strip", "_law_first", "_law_many"] (defScope sSigns) := ⟨rfl, rfl, rfl, by decide +kernel, rfl, by decide +kernel, by decide +kernel⟩
def spSigns : Sp := fun vs H Q _ => ∃ (d : Addr) (f : Int) (S b W : Nat) (t : Int → Int), vs = [.ref d, .int f, .int W] ∧ StripAt S b H d t ∧ W ≤ 1000 ∧ ∀ (H' : Hp) (p : Addr), Same H H' → H' p = some (.tup (wV (win t f W))) → Q (.ref p) H'
theorem ok_signs {f : Addr} {fd : FuncData} {k : Nat} (F : Fun K "_law_signs" "_law_signs" sSigns f fd) (mr : mg "range" = none) (mt : mg "tuple" = none) : FnOk P w K mg base CX0 (k + 1) f fd ["_law_strip", "_law_first", "_law_many"] spSigns := by
  refine F.ok sc_signs (fun vs H Q E h => ?_) (fun cdv A outer s H vs Q E hr h => ?_)
  · obtain ⟨d, f, S, b, W, t, rfl, _⟩ := h
    rfl
  · obtain ⟨d, fi, S, b, W, t, rfl, ⟨kvs, hd, so⟩, hW, q⟩ := h
    have hu := hu_of hr
    refine ⟨_, pss_one (ps_ret (pe_callTy call_tuple_of (by rfl) mt PyProof.Rows.boot_tuple (pa_cons
      (pe_lc (own := [("_law_k", 3)]) (g := gName 3) (tt := tYes) (by rfl) sc_signs.nd (pi_range1 (by rfl) mr (pa_cons (pv 2) pa_nil)) (blkOk_by (own := [("_law_k", 3)]) (N := nSigns) (sc := defScope sSigns) (by decide +kernel))
        (fun _ _ _ _ _ => pg_name (i := 3) sc_signs.nd rfl (Or.inl rfl)) (fun _ _ _ _ _ => pts_nil)
        (fun _ _ _ _ _ => pe_dget2 hu (pv 0) (pe_op op_add (pv 1) (pv 3)) pe_int ⟨rfl, rfl, rfl, rfl⟩)) pa_nil))), ?_⟩
    refine ⟨.int W, rfl, W, rfl, by omega, by omega, fun D hD => lc_range (lo := 0) (n := W) (fun i H' => Same H H' ∧ H' D = some (.lst (wV (win t fi i)))) ⟨same_upd hD, upd_same⟩ ?_ ?_⟩
    · rintro i H1 hi ⟨sm, h1⟩
      refine ⟨rfl, yes ⟨.ref d, rfl, d, rfl, .inl ⟨kvs, .inl (sm _ _ hd)⟩, .int fi, rfl, .int (0 + (i : Int)), rfl, _, _, rfl, rfl, valV kvs (Sum.inl (fi + (0 + (i : Int)))), DGet.k (k := Sum.inl (fi + (0 + (i : Int)))) (sm _ _ hd), ?_⟩⟩
      rw [so.val]
      refine ⟨_, h1, ?_, fun c o e => ?_, ?_⟩
      · rw [List.length_map, win_len]
        exact small1000 (by omega)
      · rw [upd_ne (ne_of_none e hD)]
        exact sm _ _ e
      · have e : wV (win t fi i ++ [t (fi + (i : Int))]) = wV (win t fi i) ++ [V.int (t (fi + (i : Int)))] := List.map_append
        rw [upd_same, win_succ, e, Int.zero_add]
    · rintro H1 ⟨sm, h1⟩
      refine ⟨D, _, rfl, .inl ⟨SqL.of h1, fun p np => ?_⟩⟩
      exact q _ p (sm.trans (same_upd np)) upd_same
end
end K52
namespace K52
open PySem PySem.Spec PyProof.Rows L2 N52
section
variable {P : Program} {w : World} {K : PySem.W.Frag} {mg : Str → Option Value} {base : Heap}
def PaperL (H : Hp) (T : Addr) (W : Nat) (L R : List Wd) (M : List Mid) : Prop := ∃ (l1 l2 l3 : Addr) (b1 b2 b3 : List Addr), H T = some (.tup [.str "shut", .int W, .ref l1, .ref l2, .ref l3]) ∧
  H l1 = some (.lst (b1.map V.ref)) ∧ KL H b1 (L.map wk) ∧ H l2 = some (.lst (b2.map V.ref)) ∧ KL H b2 (R.map wk) ∧ H l3 = some (.lst (b3.map V.ref)) ∧ KL H b3 (M.map mk)
theorem PaperAt.lists {H : Hp} {T : Addr} {W : Nat} {m : Mach} (h : PaperAt H T W m) : ∃ L R M, PaperL H T W L R M ∧ Shut m W L R M := by
  obtain ⟨l1, l2, l3, b1, b2, b3, L, R, M, h1, h2, h3, h4, h5, h6, h7, h8⟩ := h
  exact ⟨L, R, M, ⟨l1, l2, l3, b1, b2, b3, h1, h2, h3, h4, h5, h6, h7⟩, h8⟩
theorem PaperL.keep {H H' : Hp} {T : Addr} {W : Nat} {L R : List Wd} {M : List Mid} (h : PaperL H T W L R M) (s : Same H H') : PaperL H' T W L R M := by
  obtain ⟨l1, l2, l3, b1, b2, b3, h1, h2, h3, h4, h5, h6, h7⟩ := h
  exact ⟨l1, l2, l3, b1, b2, b3, s _ _ h1, s _ _ h2, KL.keep (Tups.of s) h3, s _ _ h4, KL.keep (Tups.of s) h5, s _ _ h6, KL.keep (Tups.of s) h7⟩
theorem dpall_w {H : Hp} : ∀ {bs : List Addr} {L : List Wd}, KL H bs (L.map wk) → DpAll K H (bs.map V.ref) (L.map wD)
  | [], [], _ => .nil
  | b :: bs, x :: L, h => by
    rw [List.map_cons] at h
    cases h with
    | cons h1 h2 =>
      have := KIs.data (K := K) _ _ h1
      rw [wk_data] at this
      exact .cons this (dpall_w h2)
  | [], _ :: _, h => by cases h
  | _ :: _, [], h => by cases h
theorem dpall_m {H : Hp} : ∀ {bs : List Addr} {M : List Mid}, KL H bs (M.map mk) → DpAll K H (bs.map V.ref) (M.map mD)
  | [], [], _ => .nil
  | b :: bs, x :: M, h => by
    rw [List.map_cons] at h
    cases h with
    | cons h1 h2 =>
      have := KIs.data (K := K) _ _ h1
      rw [mk_data] at this
      exact .cons this (dpall_m h2)
  | [], _ :: _, h => by cases h
  | _ :: _, [], h => by cases h
theorem boot_max : bootBuiltins "max" = some (.builtin "max") := by decide +kernel
theorem boot_abs : bootBuiltins "abs" = some (.builtin "abs") := by decide +kernel
def absI (i : Int) : Int := if i < 0 then -i else i
theorem absI_le {i : Int} {b : Nat} (h : -(b : Int) ≤ i ∧ i ≤ (b : Int)) : 0 ≤ absI i ∧ absI i ≤ (b : Int) := by
  unfold absI
  split <;> omega
def keyI : Key → Int
  | .inl i => i
  | .inr _ => 0
def absL (kvs : Kvs) : List Int := kvs.map fun kv => absI (keyI kv.1)
/-- x not in a list of words, where it is in -/
theorem in_w {H : Hp} {a l : Addr} {bs : List Addr} {L : List Wd} {x : Wd} {Q : VK} (ha : H a = some (.tup (wV x))) (hl : H l = some (.lst (bs.map V.ref))) (hk : KL H bs (L.map wk)) (hx : x ∈ L) (q : Q (.bl false) H) : rNotInD K (.ref a) (.ref l) H Q := by
  refine ⟨wD x, L.map wD, dp_w ha, .lst (SqL.of hl) (dpall_w hk), wD_shaped x, list_shaped wD wD_lay (fun y => by rw [wD_depth]; decide) L, ?_⟩
  rw [any_wD, decide_eq_true hx]
  exact q
theorem in_m {H : Hp} {a l : Addr} {bs : List Addr} {M : List Mid} {x : Mid} {Q : VK} (ha : KIs H (mk x) (.ref a)) (hl : H l = some (.lst (bs.map V.ref))) (hk : KL H bs (M.map mk)) (hx : x ∈ M) (q : Q (.bl false) H) : rNotInD K (.ref a) (.ref l) H Q := by
  have hd := KIs.data (K := K) _ _ ha
  rw [mk_data] at hd
  refine ⟨mD x, M.map mD, hd, .lst (SqL.of hl) (dpall_m hk), mD_shaped x, list_shaped mD mD_lay (fun y => by rw [mD_depth]; decide) M, ?_⟩
  rw [any_mD, decide_eq_true hx]
  exact q
/-! ### _law_stands -/
abbrev sStands : Stmt := topS 29
abbrev nStands : List Str := ["_law_setup", "_law_paper", "_law_row", "_law_place", "_law_strip", "_law_kind", "_law_width", "_law_lefts", "_law_rights", "_law_middles", "_law_left", "_law_right", "_law_far", "_law_first", "_law_one"]
theorem sc_stands : FnScope nStands ["_law_setup", "_law_paper"] (defScope sStands) := ⟨rfl, rfl, rfl, by decide +kernel, rfl, by decide +kernel, by decide +kernel⟩
def spStands : Sp := fun vs H Q _ => ∃ (t T : Addr) (Rn S b W : Nat) (L R : List Wd) (M : List Mid) (c : Cfg), vs = [.ref t, .ref T] ∧ CfgAt Rn S b H t c ∧ b ≤ 1000 ∧ W ≤ 1000 ∧ PaperL H T W L R M ∧ Stands W L R M c ∧ ∀ H', Same H H' → Q (.bl true) H'
theorem ok_stands {f fS : Addr} {fd fdS : FuncData} {k : Nat} (F : Fun K "_law_stands" "_law_stands" sStands f fd) (mr : mg "range" = none) (mx : mg "max" = none) (ma : mg "abs" = none)
    (GS : FnOk P w K mg base CX0 k fS fdS ["_law_strip", "_law_first", "_law_many"] spSigns) (kS : PySem.W.keepIn K (.ref fS) = true) (bS : Binds K fdS ["_law_strip", "_law_first", "_law_many"] []) (gS : mg "_law_signs" = some (.ref fS)) :
    FnOk P w K mg base CX0 (k + 1) f fd ["_law_setup", "_law_paper"] spStands := by
  refine F.ok sc_stands (fun vs H Q E h => ?_) (fun cdv A outer s H vs Q E hr h => ?_)
  · obtain ⟨t, T, Rn, S, b, W, L, R, M, c, rfl, _⟩ := h
    rfl
  · obtain ⟨t, T, Rn, S, b, W, L, R, M, c, rfl, ⟨d, ht, ⟨kvs, hd, so⟩, hrow, hpos⟩, hb, hW, hPap, st, q⟩ := h
    have hu := hu_of hr
    have hu65 : (A.deeper (envOfC "_law_stands" (defScope sStands) s.heap.objs.size f cdv)).units + 65 < cLine := by have := hr.un; omega
    refine ⟨_, pss_cons (ps_asg (pv 0) (pg_tup (by rfl) (pgs_cons (pg_name (i := 2) sc_stands.nd rfl (.inl rfl)) (pgs_cons (pg_name (i := 3) sc_stands.nd rfl (.inl rfl)) (pgs_cons (pg_name (i := 4) sc_stands.nd rfl (.inl rfl)) pgs_nil)))))
      (pss_cons (ps_asg (pv 1) (pg_tup (by rfl) (pgs_cons (pg_name (i := 5) sc_stands.nd rfl (.inl rfl)) (pgs_cons (pg_name (i := 6) sc_stands.nd rfl (.inl rfl)) (pgs_cons (pg_name (i := 7) sc_stands.nd rfl (.inl rfl)) (pgs_cons (pg_name (i := 8) sc_stands.nd rfl (.inl rfl)) (pgs_cons (pg_name (i := 9) sc_stands.nd rfl (.inl rfl)) pgs_nil)))))))
      (pss_cons (ps_set (i := 10) sc_stands.nd rfl (.inl rfl) (pe_call GS hr (by rfl) gS kS bS .nil pass0 (pa_cons (pv 4) (pa_cons (pe_op op_sub (pv 3) (pv 6)) (pa_cons (pv 6) pa_nil)))))
      (pss_cons (ps_set (i := 11) sc_stands.nd rfl (.inl rfl) (pe_call GS hr (by rfl) gS kS bS .nil pass0 (pa_cons (pv 4) (pa_cons (pe_op op_add (pv 3) pe_int) (pa_cons (pv 6) pa_nil)))))
      (pss_cons (ps_if (pt_cmpR (op_notInD hu65) (pe_tup (pa_cons (pv 10) (pa_cons (pv 2) (pa_cons (pe_dget2 hu (pv 4) (pv 3) pe_int ⟨rfl, rfl, rfl, rfl⟩) (pa_cons (pv 11) pa_nil))))) (pv 9) (by rfl)) (pss_one (ps_ret pe_bl)) pss_nil)
      (pss_cons (ps_set (i := 12) sc_stands.nd rfl (.inl rfl) (pe_op op_add (pe_op op_add (pe_callB (cr_max rfl) (by rfl) mx boot_max (pa_cons (pe_op op_cat
          (pe_lock (pe_lc (own := [("_law_one", 14)]) (g := gName 14) (tt := tYes) (by rfl) sc_stands.nd (pi_keys (pv 4)) (blkOk_by (own := [("_law_one", 14)]) (N := nStands) (sc := defScope sStands) (by decide +kernel))
            (fun _ _ _ _ _ => pg_name (i := 14) sc_stands.nd rfl (Or.inl rfl)) (fun _ _ _ _ _ => pts_nil) (fun _ _ _ _ _ => pe_callB call_abs (by rfl) ma boot_abs (pa_cons (pv 14) pa_nil))))
          (pe_lst (pa_cons (pe_callB call_abs (by rfl) ma boot_abs (pa_cons (pv 3) pa_nil)) pa_nil))) pa_nil)) (pv 6)) pe_int))
      (pss_cons (ps_for PassesOwn.never rfl (pi_range2 (by rfl) mr (pa_cons (pe_un un_neg (pv 12)) (pa_cons (pe_op op_add (pe_op op_sub (pv 3) (pv 6)) pe_int) pa_nil))) (pg_name (i := 13) sc_stands.nd rfl (.inl rfl))
        (pss_one (ps_if (pt_cmpR (op_notInD hu65) (pe_call GS hr (by rfl) gS kS bS .nil pass0 (pa_cons (pv 4) (pa_cons (pv 13) (pa_cons (pv 6) pa_nil)))) (pv 7) (by rfl)) (pss_one (ps_ret pe_bl)) pss_nil)))
      (pss_cons (ps_for PassesOwn.never rfl (pi_range2 (by rfl) mr (pa_cons (pe_op op_add (pv 3) pe_int) (pa_cons (pe_op op_add (pv 12) pe_int) pa_nil))) (pg_name (i := 13) sc_stands.nd rfl (.inl rfl))
        (pss_one (ps_if (pt_cmpR (op_notInD hu65) (pe_call GS hr (by rfl) gS kS bS .nil pass0 (pa_cons (pv 4) (pa_cons (pv 13) (pa_cons (pv 6) pa_nil)))) (pv 8) (by rfl)) (pss_one (ps_ret pe_bl)) pss_nil)))
      (pss_one (ps_ret pe_bl))))))))), ?_⟩
    obtain ⟨l1, l2, l3, b1, b2, b3, hT, hl1, hk1, hl2, hk2, hl3, hk3⟩ := hPap
    have hS : StripAt S b H d c.tape := ⟨kvs, hd, so⟩
    -- the two tuples
    refine ⟨.ref t, rfl, t, _, rfl, SqT.of ht, rfl, .int c.row, _, rfl, .int c.pos, _, rfl, .ref d, [], rfl, rfl, ?_⟩
    refine ⟨.ref T, rfl, T, _, rfl, SqT.of hT, rfl, .str "shut", _, rfl, .int W, _, rfl, .ref l1, _, rfl, .ref l2, _, rfl, .ref l3, [], rfl, rfl, ?_⟩
    -- left, right
    refine ⟨.ref d, rfl, .int c.pos, rfl, .int W, rfl, _, _, rfl, rfl, .int W, rfl, d, c.pos - W, S, b, W, c.tape, rfl, hS, hW, fun H1 p1 s1 h1 => ?_⟩
    refine ⟨.ref d, rfl, .int c.pos, rfl, _, _, rfl, rfl, .int W, rfl, d, c.pos + 1, S, b, W, c.tape, rfl, hS.keep s1, hW, fun H2 p2 s2 h2 => ?_⟩
    have t2 : Same H H2 := s1.trans s2
    -- the middle
    refine ⟨.ref p1, rfl, .int c.row, rfl, .ref d, rfl, d, rfl, .inl ⟨kvs, .inl (t2 _ _ hd)⟩, .int c.pos, rfl, valV kvs (Sum.inl c.pos), DGet.k (k := Sum.inl c.pos) (t2 _ _ hd), ?_⟩
    rw [so.val]
    refine ⟨.ref p2, rfl, by show 4 ≤ sizeLine; decide, fun p3 np3 => ?_⟩
    have s3 : Same H2 (upd H2 p3 (.tup [.ref p1, .int c.row, .int (c.tape c.pos), .ref p2])) := same_upd np3
    have h3 : (upd H2 p3 (.tup [.ref p1, .int c.row, .int (c.tape c.pos), .ref p2])) p3 = some (.tup [.ref p1, .int c.row, .int (c.tape c.pos), .ref p2]) := upd_same
    generalize upd H2 p3 (.tup [.ref p1, .int c.row, .int (c.tape c.pos), .ref p2]) = H3 at s3 h3 ⊢
    have t3 : Same H H3 := t2.trans s3
    have hx3 : KIs H3 (mk ⟨win c.tape (c.pos - W) W, c.row, c.tape c.pos, win c.tape (c.pos + 1) W⟩) (.ref p3) := mk_is h3 (s3 _ _ (s2 _ _ h1)) (s3 _ _ h2)
    refine ⟨.ref l3, rfl, ?_⟩
    show rNotInD K (.ref p3) (.ref l3) H3 _
    refine in_m hx3 (t3 _ _ hl3) (KL.keep (Tups.of t3) hk3) st.mid ⟨false, rfl, iteF ?_⟩
    -- far
    refine ⟨d, .dK kvs, t3 _ _ hd, True.intro, fun od => ?_⟩
    refine ⟨.ref d, rfl, d, od, rfl, .inl ⟨kvs, upd_same, fun D hD => ?_⟩⟩
    have hDd : D ≠ d := fun e => by rw [e, upd_same] at hD; cases hD
    refine lc_it (walk_keys (d := d) (o := od) (kvs := kvs)) (fun i H' => Same (upd H3 d (.frz od (.dK kvs))) H' ∧ H' D = some (.lst ((absL (kvs.take i)).map V.int))) ⟨same_upd hD, upd_same⟩ (fun i H' _ h => h.1 _ _ upd_same) ?_ ?_
    · rintro i v H4 H5 hi ⟨sm, h4⟩ ⟨rfl, kk, vv, hkv, rfl⟩
      obtain ⟨z, hz, _⟩ := so.key (kk, vv) (List.mem_of_getElem? hkv)
      have hz : kk = Sum.inl z := hz
      subst hz
      have hlen := so.len
      refine ⟨rfl, yes ⟨.int z, rfl, z, rfl, _, h4, ?_, fun x o e => ?_, ?_⟩⟩
      · unfold absL
        rw [List.length_map, List.length_map, List.length_take]
        exact small1000 (by omega)
      · rw [upd_ne (ne_of_none e hD)]
        exact sm _ _ e
      · have e : absL (kvs.take (i + 1)) = absL (kvs.take i) ++ [absI z] := by
          unfold absL
          rw [List.take_add_one, hkv, List.map_append]
          rfl
        rw [upd_same, e, List.map_append]
        rfl
    · rintro H4 ⟨sm, h4⟩
      refine ⟨sm _ _ upd_same, ?_⟩
      have t4 : Same H (upd H4 d (.dK kvs)) := fun x o e => by
        by_cases hx : x = d
        · subst hx
          have e2 := t3 _ _ e
          rw [t3 _ _ hd] at e2
          rw [upd_same]
          exact e2
        · rw [upd_ne hx]
          exact sm _ _ (by rw [upd_ne hx]; exact t3 _ _ e)
      have h5 : (upd H4 d (.dK kvs)) D = some (.lst ((absL kvs).map V.int)) := by
        rw [upd_ne hDd, h4, List.take_length]
      generalize upd H4 d (.dK kvs) = H5 at t4 h5 ⊢
      refine ⟨.int c.pos, rfl, c.pos, rfl, by show 1 ≤ sizeLine; decide, fun p6 np6 => ?_⟩
      have s6 : Same H5 (upd H5 p6 (.lst [.int (absI c.pos)])) := same_upd np6
      have h6 : (upd H5 p6 (.lst [.int (absI c.pos)])) p6 = some (.lst [.int (absI c.pos)]) := upd_same
      show rCat (.ref D) (.ref p6) (upd H5 p6 (.lst [.int (absI c.pos)])) _
      generalize upd H5 p6 (.lst [.int (absI c.pos)]) = H6 at s6 h6 ⊢
      have hlen := so.len
      refine ⟨D, p6, _, _, rfl, rfl, s6 _ _ h5, h6, ?_, fun p7 np7 => ?_⟩
      · unfold absL
        rw [List.length_map, List.length_map, List.length_singleton, sizeLine_eq]
        omega
      have s7 : Same H6 (upd H6 p7 (.lst ((absL kvs).map V.int ++ [.int (absI c.pos)]))) := same_upd np7
      have h7 : (upd H6 p7 (.lst ((absL kvs).map V.int ++ [.int (absI c.pos)]))) p7 = some (.lst ((absL kvs ++ [absI c.pos]).map V.int)) := by
        rw [upd_same, List.map_append]
        rfl
      generalize upd H6 p7 (.lst ((absL kvs).map V.int ++ [.int (absI c.pos)])) = H7 at s7 h7 ⊢
      have t7 : Same H H7 := (t4.trans s6).trans s7
      refine ⟨p7, absL kvs ++ [absI c.pos], rfl, SqL.of h7, by rw [List.length_append, List.length_singleton]; omega, fun mx hmx _ => ?_⟩
      have hm : 0 ≤ mx ∧ mx ≤ (b : Int) := by
        rcases List.mem_append.mp hmx with z | z
        · obtain ⟨kv, hkv, rfl⟩ := List.mem_map.mp z
          obtain ⟨i, e, hi⟩ := so.key kv hkv
          rw [e]
          exact absI_le hi
        · rw [List.mem_singleton.mp z]
          exact absI_le hpos
      refine ⟨.int W, rfl, _, _, rfl, rfl, _, _, rfl, rfl, ?_⟩
      -- the first loop
      refine ⟨.int (mx + W + 1), rfl, _, rfl, .int c.pos, rfl, .int W, rfl, _, _, rfl, rfl, _, _, rfl, rfl, _, _, rfl, ⟨by omega, by omega, by omega, by omega⟩, ?_⟩
      refine for_range (lo := -(mx + W + 1)) (n := (c.pos - W + 1 - -(mx + W + 1)).toNat) (fun i σ H' => ∃ y13 y14 : Option V, σ = [some (.ref t), some (.ref T), some (.int c.row), some (.int c.pos), some (.ref d), some (.str "shut"), some (.int W), some (.ref l1), some (.ref l2), some (.ref l3), some (.ref p1), some (.ref p2), some (.int (mx + W + 1)), y13, y14] ∧ Same H H') ⟨none, none, rfl, t7⟩ ?_ ?_
      · rintro i σ H8 hi ⟨y13, y14, rfl, sm8⟩
        refine ⟨.ref d, rfl, .int (-(mx + W + 1) + (i : Int)), rfl, .int W, rfl, d, -(mx + W + 1) + (i : Int), S, b, W, c.tape, rfl, hS.keep sm8, hW, fun H9 p9 s9 h9 => ?_⟩
        have t9 : Same H H9 := sm8.trans s9
        refine ⟨.ref l1, rfl, ?_⟩
        show rNotInD K (.ref p9) (.ref l1) H9 _
        exact in_w h9 (t9 _ _ hl1) (KL.keep (Tups.of t9) hk1) (st.l _ (by omega)) ⟨false, rfl, iteF ⟨_, _, rfl, t9⟩⟩
      · rintro σ H8 ⟨y13, y14, rfl, sm8⟩
        -- the second loop
        refine ⟨.int c.pos, rfl, _, _, rfl, rfl, .int (mx + W + 1), rfl, _, _, rfl, rfl, _, _, rfl, ⟨by omega, by omega, by omega, by omega⟩, ?_⟩
        refine for_range (lo := c.pos + 1) (n := (mx + W + 1 + 1 - (c.pos + 1)).toNat) (fun i σ H' => ∃ y13 y14 : Option V, σ = [some (.ref t), some (.ref T), some (.int c.row), some (.int c.pos), some (.ref d), some (.str "shut"), some (.int W), some (.ref l1), some (.ref l2), some (.ref l3), some (.ref p1), some (.ref p2), some (.int (mx + W + 1)), y13, y14] ∧ Same H H') ⟨y13, y14, rfl, sm8⟩ ?_ ?_
        · rintro i σ H9 hi ⟨y13, y14, rfl, sm9⟩
          refine ⟨.ref d, rfl, .int (c.pos + 1 + (i : Int)), rfl, .int W, rfl, d, c.pos + 1 + (i : Int), S, b, W, c.tape, rfl, hS.keep sm9, hW, fun H10 p10 s10 h10 => ?_⟩
          have t10 : Same H H10 := sm9.trans s10
          refine ⟨.ref l2, rfl, ?_⟩
          show rNotInD K (.ref p10) (.ref l2) H10 _
          exact in_w h10 (t10 _ _ hl2) (KL.keep (Tups.of t10) hk2) (st.r _ (by omega)) ⟨false, rfl, iteF ⟨_, _, rfl, t10⟩⟩
        · rintro σ H9 ⟨y13, y14, rfl, sm9⟩
          exact q H9 sm9
end
end K52
namespace K52
open PySem PySem.Spec PyProof.Rows L2 N52
section
variable {P : Program} {w : World} {K : PySem.W.Frag} {mg : Str → Option Value} {base : Heap}
/-! ### law -/
abbrev sLaw : Stmt := topS 30
abbrev nLaw : List Str := ["_law_script", "_law_purse_here", "_law_rows", "_law_signs_here", "_law_machine_here", "_law_width", "_law_paper", "_law_setup", "_law_moment"]
theorem sc_law : FnScope nLaw ["_law_script"] (defScope sLaw) := ⟨rfl, rfl, rfl, by decide +kernel, rfl, by decide +kernel, by decide +kernel⟩
def spLaw (K : PySem.W.Frag) : Sp := fun vs H Q _ => ∃ (a : Addr) (ns : List Int), vs = [.ref a] ∧ SqL K H a (ns.map V.int) ∧ ns.length ≤ 63 ∧ ∀ H', Q (.bl true) H'
theorem ok_law {f f1 f2 f3 f4 f5 f6 f7 f8 : Addr} {fd fd1 fd2 fd3 fd4 fd5 fd6 fd7 fd8 : FuncData} {k : Nat} (F : Fun K "law" "law" sLaw f fd) (mr : mg "range" = none)
    (G1 : FnOk P w K mg base CX0 k f1 fd1 ["_law_script"] (spPurse K)) (k1 : PySem.W.keepIn K (.ref f1) = true) (b1 : Binds K fd1 ["_law_script"] []) (g1 : mg "_law_purse" = some (.ref f1))
    (G2 : FnOk P w K mg base CX0 k f2 fd2 ["_law_purse_here", "_law_out_of"] spDraw) (k2 : PySem.W.keepIn K (.ref f2) = true) (b2 : Binds K fd2 ["_law_purse_here", "_law_out_of"] []) (g2 : mg "_law_draw" = some (.ref f2))
    (G3 : FnOk P w K mg base CX0 k f3 fd3 ["_law_purse_here", "_law_rows", "_law_signs_here"] spLMach) (k3 : PySem.W.keepIn K (.ref f3) = true) (b3 : Binds K fd3 ["_law_purse_here", "_law_rows", "_law_signs_here"] []) (g3 : mg "_law_machine" = some (.ref f3))
    (G4 : FnOk P w K mg base CX0 k f4 fd4 ["_law_machine_here"] spCopy) (k4 : PySem.W.keepIn K (.ref f4) = true) (b4 : Binds K fd4 ["_law_machine_here"] []) (g4 : mg "_law_copy" = some (.ref f4))
    (G5 : FnOk P w K mg base CX0 k f5 fd5 ["machine", "width"] spLeast) (k5 : PySem.W.keepIn K (.ref f5) = true) (b5 : Binds K fd5 ["machine", "width"] []) (g5 : mg "least_shut" = some (.ref f5))
    (G6 : FnOk P w K mg base CX0 k f6 fd6 ["_law_setup", "_law_paper"] spStands) (k6 : PySem.W.keepIn K (.ref f6) = true) (b6 : Binds K fd6 ["_law_setup", "_law_paper"] []) (g6 : mg "_law_stands" = some (.ref f6))
    (G7 : FnOk P w K mg base CX0 k f7 fd7 ["_law_machine_here", "_law_setup"] spStep) (k7 : PySem.W.keepIn K (.ref f7) = true) (b7 : Binds K fd7 ["_law_machine_here", "_law_setup"] []) (g7 : mg "_law_step" = some (.ref f7))
    (G8 : FnOk P w K mg base CX0 k f8 fd8 ["_law_machine_here", "_law_most"] spEnds) (k8 : PySem.W.keepIn K (.ref f8) = true) (b8 : Binds K fd8 ["_law_machine_here", "_law_most"] []) (g8 : mg "_law_ends" = some (.ref f8)) :
    FnOk P w K mg base CX0 (k + 1) f fd ["_law_script"] (spLaw K) := by
  refine F.ok sc_law (fun vs H Q E h => ?_) (fun cdv A outer s H vs Q E hr h => ?_)
  · obtain ⟨a, ns, rfl, _⟩ := h
    rfl
  · obtain ⟨a, ns, rfl, hS, hlen, q⟩ := h
    refine ⟨_, pss_cons (ps_set (i := 1) sc_law.nd rfl (.inl rfl) (pe_call G1 hr (by rfl) g1 k1 b1 .nil pass0 (pa_cons (pv 0) pa_nil)))
      (pss_cons (ps_set (i := 2) sc_law.nd rfl (.inl rfl) (pe_op op_add pe_int (pe_call G2 hr (by rfl) g2 k2 b2 .nil pass0 (pa_cons (pv 1) (pa_cons pe_int pa_nil)))))
      (pss_cons (ps_set (i := 3) sc_law.nd rfl (.inl rfl) (pe_op op_add pe_int (pe_call G2 hr (by rfl) g2 k2 b2 .nil pass0 (pa_cons (pv 1) (pa_cons pe_int pa_nil)))))
      (pss_cons (ps_set (i := 4) sc_law.nd rfl (.inl rfl) (pe_call G3 hr (by rfl) g3 k3 b3 .nil pass0 (pa_cons (pv 1) (pa_cons (pv 2) (pa_cons (pv 3) pa_nil)))))
      (pss_cons (ps_set (i := 5) sc_law.nd rfl (.inl rfl) (pe_op op_add pe_int (pe_call G2 hr (by rfl) g2 k2 b2 .nil pass0 (pa_cons (pv 1) (pa_cons (pe_ix ix_list (pe_lst (pa_cons pe_int (pa_cons pe_int pa_nil))) (pe_op op_sub (pv 3) pe_int) (fun _ _ => rfl)) pa_nil)))))
      (pss_cons (ps_set (i := 6) sc_law.nd rfl (.inl rfl) (pe_call G5 hr (by rfl) g5 k5 b5 .nil pass0 (pa_cons (pe_call G4 hr (by rfl) g4 k4 b4 .nil pass0 (pa_cons (pv 4) pa_nil)) (pa_cons (pv 5) pa_nil))))
      (pss_cons (ps_if (pt_cmp (pc_isN (pv 6))) (pss_one (ps_ret pe_bl)) pss_nil)
      (pss_cons (ps_set (i := 7) sc_law.nd rfl (.inl rfl) (pe_tup (pa_cons pe_int (pa_cons pe_int (pa_cons pe_dnewK pa_nil)))))
      (pss_cons (ps_for PassesOwn.never rfl (pi_range1 (by rfl) mr (pa_cons pe_int pa_nil)) (pg_name (i := 8) sc_law.nd rfl (.inl rfl))
        (pss_cons (ps_if (PW.pt (pw_or (pt_cmp (pc_isN (pv 7))) (pw_or1 (pt_not (pt_val (pe_call G6 hr (by rfl) g6 k6 b6 .nil pass0 (pa_cons (pv 7) (pa_cons (pv 6) pa_nil)))))))) (pss_one (ps_ret pe_bl)) pss_nil)
        (pss_one (ps_set (i := 7) sc_law.nd rfl (.inl rfl) (pe_call G7 hr (by rfl) g7 k7 b7 .nil pass0 (pa_cons (pv 4) (pa_cons (pv 7) pa_nil)))))))
      (pss_one (ps_ret (pe_cmp (pc_isN (pe_call G8 hr (by rfl) g8 k8 b8 .nil pass0 (pa_cons (pv 4) (pa_cons pe_int pa_nil))))))))))))))), ?_⟩
    -- the purse, rows, signs
    refine ⟨.ref a, rfl, a, ns, rfl, hS, hlen, fun H1 p s1 hP1 => ?_⟩
    refine ⟨.ref p, rfl, p, 3, rfl, hP1, by decide, by decide, fun H2 z2 c2 hP2 z20 z21 => ⟨_, _, rfl, rfl, ?_⟩⟩
    refine ⟨.ref p, rfl, p, 2, rfl, hP2, by decide, by decide, fun H3 z3 c3 hP3 z30 z31 => ⟨_, _, rfl, rfl, ?_⟩⟩
    obtain ⟨Rn, hRn⟩ : ∃ Rn : Nat, 1 + z2 = (Rn : Int) := ⟨(1 + z2).toNat, by omega⟩
    obtain ⟨S, hSn⟩ : ∃ S : Nat, 2 + z3 = (S : Int) := ⟨(2 + z3).toNat, by omega⟩
    -- the machine
    refine ⟨.ref p, rfl, _, rfl, _, rfl, p, Rn, S, ?_, hP3, ⟨by omega, by omega⟩, ⟨by omega, by omega⟩, fun H4 fm m c4 hP4 ok hM => ?_⟩
    · show [V.ref p, V.int (1 + z2), V.int (2 + z3)] = [V.ref p, V.int (Rn : Int), V.int (S : Int)]
      rw [hRn, hSn]
    have sz : Sized m Rn S := ⟨ok, ⟨by omega, by omega⟩, ⟨by omega, by omega⟩⟩
    -- the width
    refine ⟨.ref p, rfl, by show 2 ≤ sizeLine; decide, fun t5 nt5 => ?_⟩
    have s5 : Same H4 (upd H4 t5 (.lst [.int 4, .int 2])) := same_upd nt5
    have h5 : (upd H4 t5 (.lst [.int 4, .int 2])) t5 = some (.lst [.int 4, .int 2]) := upd_same
    generalize upd H4 t5 (.lst [.int 4, .int 2]) = H5 at s5 h5 ⊢
    obtain ⟨lim, hat, hl0, hl1, hpw⟩ : ∃ lim : Int, atI [V.int 4, V.int 2] (2 + z3 - 2) = some (.int lim) ∧ 0 < lim ∧ lim < 1073741824 ∧ ∀ W : Nat, (W : Int) ≤ lim → S ^ W ≤ 16 := by
      have hz : z3 = 0 ∨ z3 = 1 := by omega
      rcases hz with rfl | rfl
      · refine ⟨4, rfl, by decide, by decide, fun W hW => ?_⟩
        have e : S = 2 := by omega
        subst e
        exact Nat.le_trans (Nat.pow_le_pow_right (by decide) (show W ≤ 4 by omega)) (by decide)
      · refine ⟨2, rfl, by decide, by decide, fun W hW => ?_⟩
        have e : S = 3 := by omega
        subst e
        exact Nat.le_trans (Nat.pow_le_pow_right (by decide) (show W ≤ 2 by omega)) (by decide)
    refine ⟨_, rfl, _, _, rfl, rfl, t5, _, _, .int lim, rfl, rfl, SqL.of h5, hat, p, lim, rfl, hP4.keep s5, hl0, hl1, fun H6 z6 c6 hP6 z60 z61 => ⟨_, _, rfl, rfl, ?_⟩⟩
    obtain ⟨W, hWn⟩ : ∃ W : Nat, 1 + z6 = (W : Int) := ⟨(1 + z6).toNat, by omega⟩
    have dm : Dims m Rn S W := ⟨sz, by omega, hpw W (by omega)⟩
    have hw4 := dm.w4
    have hM6 : MachAt H6 fm m := hM H6 fun b o hb e => c6 _ _ hb (s5 _ _ e)
    -- the paper
    refine ⟨.ref fm, rfl, fm, m, Rn, S, rfl, hM6, sz, fun H7 f7' s7 hM7 => ?_⟩
    refine ⟨_, rfl, f7', m, Rn, S, W, ?_, hM7, dm, fun H8 => ?_, fun H8 T s8 hPap => ?_⟩
    · show [V.ref f7', V.int (1 + z6)] = [V.ref f7', V.int (W : Int)]
      rw [hWn]
    · exact ⟨.non, rfl, _, rfl, iteT (q H8)⟩
    obtain ⟨L, R, M, hPL, sh⟩ := hPap.lists
    refine ⟨.ref T, rfl, _, rfl, iteF ?_⟩
    have hM8 : MachAt H8 fm m := hM6.keep (Seqs.of (s7.trans s8))
    -- the first setup
    refine fun d nd => ?_
    have s9 : Same H8 (upd H8 d (.dK [])) := same_upd nd
    have h9 : (upd H8 d (.dK [])) d = some (.dK []) := upd_same
    generalize upd H8 d (.dK []) = H9 at s9 h9 ⊢
    refine ⟨by show 3 ≤ sizeLine; decide, fun t0 nt0 => ?_⟩
    have s10 : Same H9 (upd H9 t0 (.tup [.int 0, .int 0, .ref d])) := same_upd nt0
    have h10 : (upd H9 t0 (.tup [.int 0, .int 0, .ref d])) t0 = some (.tup [.int 0, .int 0, .ref d]) := upd_same
    generalize upd H9 t0 (.tup [.int 0, .int 0, .ref d]) = H10 at s10 h10 ⊢
    have hS0 : 0 < S := by have := sz.s; omega
    have hR0 : 0 < Rn := by have := sz.r; omega
    refine ⟨61, rfl, by decide, by decide, for_range (n := 61) (fun i σ H' => ∃ (t : Addr) (c : Cfg) (y8 : Option V), σ = [some (.ref a), some (.ref p), some (.int (1 + z2)), some (.int (2 + z3)), some (.ref fm), some (.int (1 + z6)), some (.ref T), some (.ref t), y8] ∧ Same H8 H' ∧ CfgAt Rn S i H' t c ∧ Stands W L R M c)
      ⟨t0, K52.start, none, rfl, s9.trans s10, ⟨d, h10, ⟨[], s10 _ _ h9, StripOk.start hS0⟩, ⟨Int.le_refl 0, show (0 : Int) < (Rn : Int) by omega⟩, ⟨by decide, by decide⟩⟩, stands_start sh⟩ ?_ ?_⟩
    · rintro i σ H11 hi ⟨t, c, y8, rfl, sm, hc, st⟩
      refine ⟨.ref t, rfl, _, rfl, iteF ⟨.ref t, rfl, .ref T, rfl, t, T, Rn, S, i, W, L, R, M, c, rfl, hc, by omega, by omega, hPL.keep sm, st, fun H12 s12 => ⟨true, rfl, iteF ?_⟩⟩⟩
      obtain ⟨d', hd', hst', hrow, hpos⟩ := id hc
      obtain ⟨kvs', hk', so'⟩ := id hst'
      obtain ⟨pp, v, n, he, _, st'⟩ := go_on dm.w0 sh ok st hrow (so'.rng c.pos)
      have sm12 : Same H8 H12 := sm.trans s12
      exact ⟨.ref fm, rfl, .ref t, rfl, fm, t, m, Rn, S, i, c, pp, v, n, rfl, hM8.keep (Seqs.of sm12), ok, hc.keep s12, by omega, he, fun H13 t' s13 hc' => ⟨t', go c pp v n, _, rfl, sm12.trans s13, hc', st'⟩⟩
    · rintro σ H11 ⟨t, c, y8, rfl, sm, hc, st⟩
      exact ⟨.ref fm, rfl, fm, m, Rn, S, W, L, R, M, rfl, hM8.keep (Seqs.of sm), ok, hR0, hS0, dm.w0, sh, fun H12 _ => q H12⟩
end
end K52
namespace K52
open PySem PySem.Spec PyProof.Rows L2 N52
/-! ### what the top has written -/
theorem all_mk {l : PySem.W.OpenLaw} {w : World} {K : PySem.W.Frag} {h : Heap} {mg : Str → Option Value} {fa f0 f1 f2 f3 f4 f5 f6 f7 f8 f9 f10 f11 f12 f13 f14 f15 f16 f17 f18 f19 f20 : Addr} (X : K.In h) (G : h.Ns mainGlobals mg) (hfa : mg "law" = some (.ref fa))
    {od0 an0 od1 an1 od2 an2 od3 an3 od4 an4 od5 an5 od6 an6 od7 an7 od8 an8 od9 an9 od10 an10 od11 an11 od12 an12 od13 an13 od14 an14 od15 an15 od16 an16 od17 an17 od18 an18 od19 an19 od20 an20 : Option Addr} {sl0 sl1 sl2 sl3 sl4 sl5 sl6 sl7 sl8 sl9 sl10 sl11 sl12 sl13 sl14 sl15 sl16 sl17 sl18 sl19 sl20 : Array (Option Value)} {tR tS tW : Tok}
    {oc0 kV0 dc0 pm0 cd0 ct0 oc1 kV1 dc1 pm1 cd1 ct1 oc2 kV2 dc2 pm2 cd2 ct2 oc3 kV3 dc3 pm3 cd3 ct3 oc4 kV4 dc4 pm4 cd4 ct4 oc5 kV5 dc5 pm5 cd5 ct5 oc6 kV6 dc6 pm6 cd6 ct6 oc7 kV7 dc7 pm7 cd7 ct7 oc8 kV8 dc8 pm8 cd8 ct8 oc9 kV9 dc9 pm9 cd9 ct9 oc10 kV10 dc10 pm10 cd10 ct10 oc11 kV11 dc11 pm11 cd11 ct11 oc12 kV12 dc12 pm12 cd12 ct12 oc13 kV13 dc13 pm13 cd13 ct13 oc14 kV14 dc14 pm14 cd14 ct14 oc15 kV15 dc15 pm15 cd15 ct15 oc16 kV16 dc16 pm16 cd16 ct16 oc17 kV17 dc17 pm17 cd17 ct17 oc18 kV18 dc18 pm18 cd18 ct18 oc19 kV19 dc19 pm19 cd19 ct19 oc20 kV20 dc20 pm20 cd20 ct20 : Value}
    (a0 : PySem.W.nsIn K mainGlobals "is_entry" = some (some (.ref f0))) (l0 : K.lookup f0 = some ⟨oc0, od0, .func (PySem.W.fnOf "is_entry" "is_entry" (defArgs sIsEntry) (defBody sIsEntry) (defScope sIsEntry) .none kV0 dc0 pm0 an0 cd0 ct0), sl0⟩) (c0 : PySem.W.codeIn K cd0 "is_entry" = true) (k0 : PySem.W.keepIn K (.ref f0) = true)
    (a1 : PySem.W.nsIn K mainGlobals "is_machine" = some (some (.ref f1))) (l1 : K.lookup f1 = some ⟨oc1, od1, .func (PySem.W.fnOf "is_machine" "is_machine" (defArgs sIsMach) (defBody sIsMach) (defScope sIsMach) .none kV1 dc1 pm1 an1 cd1 ct1), sl1⟩) (c1 : PySem.W.codeIn K cd1 "is_machine" = true) (k1 : PySem.W.keepIn K (.ref f1) = true)
    (a2 : PySem.W.nsIn K mainGlobals "must_machine" = some (some (.ref f2))) (l2 : K.lookup f2 = some ⟨oc2, od2, .func (PySem.W.fnOf "must_machine" "must_machine" (defArgs sMust) (defBody sMust) (defScope sMust) .none kV2 dc2 pm2 an2 cd2 ct2), sl2⟩) (c2 : PySem.W.codeIn K cd2 "must_machine" = true) (k2 : PySem.W.keepIn K (.ref f2) = true)
    (a3 : PySem.W.nsIn K mainGlobals "is_width" = some (some (.ref f3))) (l3 : K.lookup f3 = some ⟨oc3, od3, .func (PySem.W.fnOf "is_width" "is_width" (defArgs sWidth) (defBody sWidth) (defScope sWidth) .none kV3 dc3 pm3 an3 cd3 ct3), sl3⟩) (c3 : PySem.W.codeIn K cd3 "is_width" = true) (k3 : PySem.W.keepIn K (.ref f3) = true)
    (a4 : PySem.W.nsIn K mainGlobals "led_right" = some (some (.ref f4))) (l4 : K.lookup f4 = some ⟨oc4, od4, .func (PySem.W.fnOf "led_right" "led_right" (defArgs sLedR) (defBody sLedR) (defScope sLedR) .none kV4 dc4 pm4 an4 cd4 ct4), sl4⟩) (c4 : PySem.W.codeIn K cd4 "led_right" = true) (k4 : PySem.W.keepIn K (.ref f4) = true)
    (a5 : PySem.W.nsIn K mainGlobals "led_left" = some (some (.ref f5))) (l5 : K.lookup f5 = some ⟨oc5, od5, .func (PySem.W.fnOf "led_left" "led_left" (defArgs sLedL) (defBody sLedL) (defScope sLedL) .none kV5 dc5 pm5 an5 cd5 ct5), sl5⟩) (c5 : PySem.W.codeIn K cd5 "led_left" = true) (k5 : PySem.W.keepIn K (.ref f5) = true)
    (a6 : PySem.W.nsIn K mainGlobals "entry_for" = some (some (.ref f6))) (l6 : K.lookup f6 = some ⟨oc6, od6, .func (PySem.W.fnOf "entry_for" "entry_for" (defArgs sEntFor) (defBody sEntFor) (defScope sEntFor) .none kV6 dc6 pm6 an6 cd6 ct6), sl6⟩) (c6 : PySem.W.codeIn K cd6 "entry_for" = true) (k6 : PySem.W.keepIn K (.ref f6) = true)
    (a7 : PySem.W.nsIn K mainGlobals "put_new" = some (some (.ref f7))) (l7 : K.lookup f7 = some ⟨oc7, od7, .func (PySem.W.fnOf "put_new" "put_new" (defArgs sPutNew) (defBody sPutNew) (defScope sPutNew) .none kV7 dc7 pm7 an7 cd7 ct7), sl7⟩) (c7 : PySem.W.codeIn K cd7 "put_new" = true) (k7 : PySem.W.keepIn K (.ref f7) = true)
    (a8 : PySem.W.nsIn K mainGlobals "grown" = some (some (.ref f8))) (l8 : K.lookup f8 = some ⟨oc8, od8, .func (PySem.W.fnOf "grown" "grown" (defArgs sGrown) (defBody sGrown) (defScope sGrown) .none kV8 dc8 pm8 an8 cd8 ct8), sl8⟩) (c8 : PySem.W.codeIn K cd8 "grown" = true) (k8 : PySem.W.keepIn K (.ref f8) = true)
    (a9 : PySem.W.nsIn K mainGlobals "least_told" = some (some (.ref f9))) (l9 : K.lookup f9 = some ⟨oc9, od9, .func (PySem.W.fnOf "least_told" "least_told" (defArgs sLeast) (defBody sLeast) (defScope sLeast) .none kV9 dc9 pm9 an9 cd9 ct9), sl9⟩) (c9 : PySem.W.codeIn K cd9 "least_told" = true) (k9 : PySem.W.keepIn K (.ref f9) = true)
    (a10 : PySem.W.nsIn K mainGlobals "least_shut" = some (some (.ref f10))) (l10 : K.lookup f10 = some ⟨oc10, od10, .func (PySem.W.fnOf "least_shut" "least_shut" (defArgs sShut) (defBody sShut) (defScope sShut) .none kV10 dc10 pm10 an10 cd10 ct10), sl10⟩) (c10 : PySem.W.codeIn K cd10 "least_shut" = true) (k10 : PySem.W.keepIn K (.ref f10) = true)
    (a11 : PySem.W.nsIn K mainGlobals "_law_mixed" = some (some (.ref f11))) (l11 : K.lookup f11 = some ⟨oc11, od11, .func (PySem.W.fnOf "_law_mixed" "_law_mixed" (defArgs sMixed) (defBody sMixed) (defScope sMixed) .none kV11 dc11 pm11 an11 cd11 ct11), sl11⟩) (c11 : PySem.W.codeIn K cd11 "_law_mixed" = true) (k11 : PySem.W.keepIn K (.ref f11) = true)
    (a12 : PySem.W.nsIn K mainGlobals "_law_purse" = some (some (.ref f12))) (l12 : K.lookup f12 = some ⟨oc12, od12, .func (PySem.W.fnOf "_law_purse" "_law_purse" (defArgs sPurse) (defBody sPurse) (defScope sPurse) .none kV12 dc12 pm12 an12 cd12 ct12), sl12⟩) (c12 : PySem.W.codeIn K cd12 "_law_purse" = true) (k12 : PySem.W.keepIn K (.ref f12) = true)
    (a13 : PySem.W.nsIn K mainGlobals "_law_draw" = some (some (.ref f13))) (l13 : K.lookup f13 = some ⟨oc13, od13, .func (PySem.W.fnOf "_law_draw" "_law_draw" (defArgs sDraw) (defBody sDraw) (defScope sDraw) .none kV13 dc13 pm13 an13 cd13 ct13), sl13⟩) (c13 : PySem.W.codeIn K cd13 "_law_draw" = true) (k13 : PySem.W.keepIn K (.ref f13) = true)
    (a14 : PySem.W.nsIn K mainGlobals "_law_machine" = some (some (.ref f14))) (l14 : K.lookup f14 = some ⟨oc14, od14, .func (PySem.W.fnOf "_law_machine" "_law_machine" (defArgs sLMach) (defBody sLMach) (defScope sLMach) .none kV14 dc14 pm14 an14 cd14 ct14), sl14⟩) (c14 : PySem.W.codeIn K cd14 "_law_machine" = true) (k14 : PySem.W.keepIn K (.ref f14) = true)
    (a15 : PySem.W.nsIn K mainGlobals "_law_copy" = some (some (.ref f15))) (l15 : K.lookup f15 = some ⟨oc15, od15, .func (PySem.W.fnOf "_law_copy" "_law_copy" (defArgs sCopy) (defBody sCopy) (defScope sCopy) .none kV15 dc15 pm15 an15 cd15 ct15), sl15⟩) (c15 : PySem.W.codeIn K cd15 "_law_copy" = true) (k15 : PySem.W.keepIn K (.ref f15) = true)
    (a16 : PySem.W.nsIn K mainGlobals "_law_step" = some (some (.ref f16))) (l16 : K.lookup f16 = some ⟨oc16, od16, .func (PySem.W.fnOf "_law_step" "_law_step" (defArgs sStep) (defBody sStep) (defScope sStep) .none kV16 dc16 pm16 an16 cd16 ct16), sl16⟩) (c16 : PySem.W.codeIn K cd16 "_law_step" = true) (k16 : PySem.W.keepIn K (.ref f16) = true)
    (a17 : PySem.W.nsIn K mainGlobals "_law_ends" = some (some (.ref f17))) (l17 : K.lookup f17 = some ⟨oc17, od17, .func (PySem.W.fnOf "_law_ends" "_law_ends" (defArgs sEnds) (defBody sEnds) (defScope sEnds) .none kV17 dc17 pm17 an17 cd17 ct17), sl17⟩) (c17 : PySem.W.codeIn K cd17 "_law_ends" = true) (k17 : PySem.W.keepIn K (.ref f17) = true)
    (a18 : PySem.W.nsIn K mainGlobals "_law_signs" = some (some (.ref f18))) (l18 : K.lookup f18 = some ⟨oc18, od18, .func (PySem.W.fnOf "_law_signs" "_law_signs" (defArgs sSigns) (defBody sSigns) (defScope sSigns) .none kV18 dc18 pm18 an18 cd18 ct18), sl18⟩) (c18 : PySem.W.codeIn K cd18 "_law_signs" = true) (k18 : PySem.W.keepIn K (.ref f18) = true)
    (a19 : PySem.W.nsIn K mainGlobals "_law_stands" = some (some (.ref f19))) (l19 : K.lookup f19 = some ⟨oc19, od19, .func (PySem.W.fnOf "_law_stands" "_law_stands" (defArgs sStands) (defBody sStands) (defScope sStands) .none kV19 dc19 pm19 an19 cd19 ct19), sl19⟩) (c19 : PySem.W.codeIn K cd19 "_law_stands" = true) (k19 : PySem.W.keepIn K (.ref f19) = true)
    (a20 : PySem.W.nsIn K mainGlobals "law" = some (some (.ref f20))) (l20 : K.lookup f20 = some ⟨oc20, od20, .func (PySem.W.fnOf "law" "law" (defArgs sLaw) (defBody sLaw) (defScope sLaw) .none kV20 dc20 pm20 an20 cd20 ct20), sl20⟩) (c20 : PySem.W.codeIn K cd20 "law" = true) (k20 : PySem.W.keepIn K (.ref f20) = true)
    (z0 : PySem.W.nsIn K mainGlobals "len" = some none)
    (z1 : PySem.W.nsIn K mainGlobals "all" = some none)
    (z2 : PySem.W.nsIn K mainGlobals "range" = some none)
    (z3 : PySem.W.nsIn K mainGlobals "list" = some none)
    (z4 : PySem.W.nsIn K mainGlobals "sorted" = some none)
    (z5 : PySem.W.nsIn K mainGlobals "tuple" = some none)
    (z6 : PySem.W.nsIn K mainGlobals "max" = some none)
    (z7 : PySem.W.nsIn K mainGlobals "abs" = some none)
    (m0 : PySem.W.nsIn K mainGlobals "MOST_ROWS" = some (some (.int 4 tR)))
    (m1 : PySem.W.nsIn K mainGlobals "MOST_SIGNS" = some (some (.int 4 tS)))
    (m2 : PySem.W.nsIn K mainGlobals "MOST_WORDS" = some (some (.int 16 tW)))
    : ∃ fd : FuncData, (∀ (s : Shared) (v : Value), BindsTo s fd ⟨[v], []⟩ [("_law_script", v)]) ∧ ∀ base : Heap, K.In base → base.Ns mainGlobals mg → FnOk l.prog w K mg base CX0 5 fa fd ["_law_script"] (spLaw K) := by
  have e := hfa.symm.trans (PySem.W.mg_of X G a20)
  cases e
  have F0 := fun_mk (st := sIsEntry) l0 c0 k0
  have g0 := PySem.W.mg_of X G a0
  have b0 := F0.binds (ps := ["entry", "rows", "signs"]) fun _ _ _ _ _ _ us hl => match us, hl with | [_, _, _], _ => rfl
  have F1 := fun_mk (st := sIsMach) l1 c1 k1
  have g1 := PySem.W.mg_of X G a1
  have b1 := F1.binds (ps := ["machine"]) fun _ _ _ _ _ _ us hl => match us, hl with | [_], _ => rfl
  have F2 := fun_mk (st := sMust) l2 c2 k2
  have g2 := PySem.W.mg_of X G a2
  have b2 := F2.binds (ps := ["machine"]) fun _ _ _ _ _ _ us hl => match us, hl with | [_], _ => rfl
  have F3 := fun_mk (st := sWidth) l3 c3 k3
  have g3 := PySem.W.mg_of X G a3
  have b3 := F3.binds (ps := ["machine", "width"]) fun _ _ _ _ _ _ us hl => match us, hl with | [_, _], _ => rfl
  have F4 := fun_mk (st := sLedR) l4 c4 k4
  have g4 := PySem.W.mg_of X G a4
  have b4 := F4.binds (ps := ["middle", "put", "row", "rights"]) fun _ _ _ _ _ _ us hl => match us, hl with | [_, _, _, _], _ => rfl
  have F5 := fun_mk (st := sLedL) l5 c5 k5
  have g5 := PySem.W.mg_of X G a5
  have b5 := F5.binds (ps := ["middle", "put", "row", "lefts"]) fun _ _ _ _ _ _ us hl => match us, hl with | [_, _, _, _], _ => rfl
  have F6 := fun_mk (st := sEntFor) l6 c6 k6
  have g6 := PySem.W.mg_of X G a6
  have b6 := F6.binds (ps := ["machine", "middle"]) fun _ _ _ _ _ _ us hl => match us, hl with | [_, _], _ => rfl
  have F7 := fun_mk (st := sPutNew) l7 c7 k7
  have g7 := PySem.W.mg_of X G a7
  have b7 := F7.binds (ps := ["found", "things"]) fun _ _ _ _ _ _ us hl => match us, hl with | [_, _], _ => rfl
  have F8 := fun_mk (st := sGrown) l8 c8 k8
  have g8 := PySem.W.mg_of X G a8
  have b8 := F8.binds (ps := ["machine", "lefts", "rights", "middles"]) fun _ _ _ _ _ _ us hl => match us, hl with | [_, _, _, _], _ => rfl
  have F9 := fun_mk (st := sLeast) l9 c9 k9
  have g9 := PySem.W.mg_of X G a9
  have b9 := F9.binds (ps := ["machine", "width"]) fun _ _ _ _ _ _ us hl => match us, hl with | [_, _], _ => rfl
  have F10 := fun_mk (st := sShut) l10 c10 k10
  have g10 := PySem.W.mg_of X G a10
  have b10 := F10.binds (ps := ["machine", "width"]) fun _ _ _ _ _ _ us hl => match us, hl with | [_, _], _ => rfl
  have F11 := fun_mk (st := sMixed) l11 c11 k11
  have g11 := PySem.W.mg_of X G a11
  have b11 := F11.binds (ps := ["_law_cell", "_law_k"]) fun _ _ _ _ _ _ us hl => match us, hl with | [_, _], _ => rfl
  have F12 := fun_mk (st := sPurse) l12 c12 k12
  have g12 := PySem.W.mg_of X G a12
  have b12 := F12.binds (ps := ["_law_script"]) fun _ _ _ _ _ _ us hl => match us, hl with | [_], _ => rfl
  have F13 := fun_mk (st := sDraw) l13 c13 k13
  have g13 := PySem.W.mg_of X G a13
  have b13 := F13.binds (ps := ["_law_purse_here", "_law_out_of"]) fun _ _ _ _ _ _ us hl => match us, hl with | [_, _], _ => rfl
  have F14 := fun_mk (st := sLMach) l14 c14 k14
  have g14 := PySem.W.mg_of X G a14
  have b14 := F14.binds (ps := ["_law_purse_here", "_law_rows", "_law_signs_here"]) fun _ _ _ _ _ _ us hl => match us, hl with | [_, _, _], _ => rfl
  have F15 := fun_mk (st := sCopy) l15 c15 k15
  have g15 := PySem.W.mg_of X G a15
  have b15 := F15.binds (ps := ["_law_machine_here"]) fun _ _ _ _ _ _ us hl => match us, hl with | [_], _ => rfl
  have F16 := fun_mk (st := sStep) l16 c16 k16
  have g16 := PySem.W.mg_of X G a16
  have b16 := F16.binds (ps := ["_law_machine_here", "_law_setup"]) fun _ _ _ _ _ _ us hl => match us, hl with | [_, _], _ => rfl
  have F17 := fun_mk (st := sEnds) l17 c17 k17
  have g17 := PySem.W.mg_of X G a17
  have b17 := F17.binds (ps := ["_law_machine_here", "_law_most"]) fun _ _ _ _ _ _ us hl => match us, hl with | [_, _], _ => rfl
  have F18 := fun_mk (st := sSigns) l18 c18 k18
  have g18 := PySem.W.mg_of X G a18
  have b18 := F18.binds (ps := ["_law_strip", "_law_first", "_law_many"]) fun _ _ _ _ _ _ us hl => match us, hl with | [_, _, _], _ => rfl
  have F19 := fun_mk (st := sStands) l19 c19 k19
  have g19 := PySem.W.mg_of X G a19
  have b19 := F19.binds (ps := ["_law_setup", "_law_paper"]) fun _ _ _ _ _ _ us hl => match us, hl with | [_, _], _ => rfl
  have F20 := fun_mk (st := sLaw) l20 c20 k20
  have g20 := PySem.W.mg_of X G a20
  have b20 := F20.binds (ps := ["_law_script"]) fun _ _ _ _ _ _ us hl => match us, hl with | [_], _ => rfl
  have y0 := PySem.W.mg_none_of X G z0
  have y1 := PySem.W.mg_none_of X G z1
  have y2 := PySem.W.mg_none_of X G z2
  have y3 := PySem.W.mg_none_of X G z3
  have y4 := PySem.W.mg_none_of X G z4
  have y5 := PySem.W.mg_none_of X G z5
  have y6 := PySem.W.mg_none_of X G z6
  have y7 := PySem.W.mg_none_of X G z7
  have q0 := PySem.W.mg_of X G m0
  have q1 := PySem.W.mg_of X G m1
  have q2 := PySem.W.mg_of X G m2
  refine ⟨PySem.W.fnOf "law" "law" (defArgs sLaw) (defBody sLaw) (defScope sLaw) .none kV20 dc20 pm20 an20 cd20 ct20, fun s v => .of_eq rfl, fun base hb hg => ?_⟩
  have E0 := ok_is_entry (P := l.prog) (w := w) (K := K) (mg := mg) (base := base) (k := 0) F0 y0
  have E1 := ok_is_machine (P := l.prog) (w := w) (K := K) (mg := mg) (base := base) (k := 1) F1 y0 y1 q0 q1 E0 k0 b0 g0
  have E2 := ok_must (P := l.prog) (w := w) (K := K) (mg := mg) (base := base) (k := 2) F2 E1 k1 b1 g1
  have E3 := ok_width (P := l.prog) (w := w) (K := K) (mg := mg) (base := base) (k := 2) F3 y0 y2 q2
  have E4 := ok_ledR (P := l.prog) (w := w) (K := K) (mg := mg) (base := base) (k := 0) F4 
  have E5 := ok_ledL (P := l.prog) (w := w) (K := K) (mg := mg) (base := base) (k := 0) F5 
  have E6 := ok_entfor (P := l.prog) (w := w) (K := K) (mg := mg) (base := base) (k := 0) F6 
  have E7 := ok_putnew (P := l.prog) (w := w) (K := K) (mg := mg) (base := base) (k := 0) F7 
  have E8 := ok_grown (P := l.prog) (w := w) (K := K) (mg := mg) (base := base) (k := 1) F8 y3 E6 k6 b6 g6 E4 k4 b4 g4 E5 k5 b5 g5 E7 k7 b7 g7
  have E9 := ok_least (P := l.prog) (w := w) (K := K) (mg := mg) (base := base) (k := 2) F9 y4 E8 k8 b8 g8
  have E10 := ok_shut (P := l.prog) (w := w) (K := K) (mg := mg) (base := base) (k := 3) F10 E2 k2 b2 g2 E3 k3 b3 g3 E9 k9 b9 g9
  have E11 := ok_mixed (P := l.prog) (w := w) (K := K) (mg := mg) (base := base) (k := 0) F11 
  have E12 := ok_purse (P := l.prog) (w := w) (K := K) (mg := mg) (base := base) (k := 1) F12 y0 y2 E11 k11 b11 g11
  have E13 := ok_draw (P := l.prog) (w := w) (K := K) (mg := mg) (base := base) (k := 0) F13 
  have E14 := ok_lmach (P := l.prog) (w := w) (K := K) (mg := mg) (base := base) (k := 1) F14 y2 E13 k13 b13 g13
  have E15 := ok_copy (P := l.prog) (w := w) (K := K) (mg := mg) (base := base) (k := 0) F15 y3
  have E16 := ok_step (P := l.prog) (w := w) (K := K) (mg := mg) (base := base) (k := 0) F16 
  have E17 := ok_ends (P := l.prog) (w := w) (K := K) (mg := mg) (base := base) (k := 0) F17 y2
  have E18 := ok_signs (P := l.prog) (w := w) (K := K) (mg := mg) (base := base) (k := 0) F18 y2 y5
  have E19 := ok_stands (P := l.prog) (w := w) (K := K) (mg := mg) (base := base) (k := 1) F19 y2 y6 y7 E18 k18 b18 g18
  exact ok_law (P := l.prog) (w := w) (K := K) (mg := mg) (base := base) (k := 4) F20 y2 (E12.mono (by decide)) k12 b12 g12 (E13.mono (by decide)) k13 b13 g13 (E14.mono (by decide)) k14 b14 g14 (E15.mono (by decide)) k15 b15 g15 E10 k10 b10 g10 (E19.mono (by decide)) k19 b19 g19 (E16.mono (by decide)) k16 b16 g16 (E17.mono (by decide)) k17 b17 g17
end K52
open PySem PySem.W PyProof.Rows
set_option maxRecDepth 100000 in
set_option maxHeartbeats 0 in
theorem PySem.Challenge.cw_endnever_k52_whole_shut_machines_never_e_holds : PySem.Challenge.rw_endnever_k52_whole_shut_machines_never_e.Holds := by
  w_on; o_law; k_head; (case hw => w_witness2)
  k_fill
  refine L2.walk_of (l := PySem.Challenge.rw_endnever_k52_whole_shut_machines_never_e) (n := 63) (k := 5) (x := "_law_script") (CX := fun _ => L2.CX0) (sp := fun w => K52.spLaw _) rfl (by decide) rfl ⟨rfl, by decide, by decide⟩ (fun w h Y => PySem.W.kIn_of Y) ?F (fun _ _ a ns hl _ hS => ⟨a, ns, rfl, hS, hl, fun _ => rfl⟩) (fun _ _ _ _ _ h => h)
  case F =>
    intro w mg fa h KX G hmg
    refine' K52.all_mk KX G hmg ?a0 ?l0 ?c0 ?k0 ?a1 ?l1 ?c1 ?k1 ?a2 ?l2 ?c2 ?k2 ?a3 ?l3 ?c3 ?k3 ?a4 ?l4 ?c4 ?k4 ?a5 ?l5 ?c5 ?k5 ?a6 ?l6 ?c6 ?k6 ?a7 ?l7 ?c7 ?k7 ?a8 ?l8 ?c8 ?k8 ?a9 ?l9 ?c9 ?k9 ?a10 ?l10 ?c10 ?k10 ?a11 ?l11 ?c11 ?k11 ?a12 ?l12 ?c12 ?k12 ?a13 ?l13 ?c13 ?k13 ?a14 ?l14 ?c14 ?k14 ?a15 ?l15 ?c15 ?k15 ?a16 ?l16 ?c16 ?k16 ?a17 ?l17 ?c17 ?k17 ?a18 ?l18 ?c18 ?k18 ?a19 ?l19 ?c19 ?k19 ?a20 ?l20 ?c20 ?k20 ?z0 ?z1 ?z2 ?z3 ?z4 ?z5 ?z6 ?z7 ?m0 ?m1 ?m2
    (case a0 => k_is); (case l0 => k_is); (case c0 => k_is); (case k0 => k_is); (case a1 => k_is); (case l1 => k_is); (case c1 => k_is); (case k1 => k_is)
    (case a2 => k_is); (case l2 => k_is); (case c2 => k_is); (case k2 => k_is); (case a3 => k_is); (case l3 => k_is); (case c3 => k_is); (case k3 => k_is)
    (case a4 => k_is); (case l4 => k_is); (case c4 => k_is); (case k4 => k_is); (case a5 => k_is); (case l5 => k_is); (case c5 => k_is); (case k5 => k_is)
    (case a6 => k_is); (case l6 => k_is); (case c6 => k_is); (case k6 => k_is); (case a7 => k_is); (case l7 => k_is); (case c7 => k_is); (case k7 => k_is)
    (case a8 => k_is); (case l8 => k_is); (case c8 => k_is); (case k8 => k_is); (case a9 => k_is); (case l9 => k_is); (case c9 => k_is); (case k9 => k_is)
    (case a10 => k_is); (case l10 => k_is); (case c10 => k_is); (case k10 => k_is); (case a11 => k_is); (case l11 => k_is); (case c11 => k_is); (case k11 => k_is)
    (case a12 => k_is); (case l12 => k_is); (case c12 => k_is); (case k12 => k_is); (case a13 => k_is); (case l13 => k_is); (case c13 => k_is); (case k13 => k_is)
    (case a14 => k_is); (case l14 => k_is); (case c14 => k_is); (case k14 => k_is); (case a15 => k_is); (case l15 => k_is); (case c15 => k_is); (case k15 => k_is)
    (case a16 => k_is); (case l16 => k_is); (case c16 => k_is); (case k16 => k_is); (case a17 => k_is); (case l17 => k_is); (case c17 => k_is); (case k17 => k_is)
    (case a18 => k_is); (case l18 => k_is); (case c18 => k_is); (case k18 => k_is); (case a19 => k_is); (case l19 => k_is); (case c19 => k_is); (case k19 => k_is)
    (case a20 => k_is); (case l20 => k_is); (case c20 => k_is); (case k20 => k_is); (case z0 => k_is); (case z1 => k_is); (case z2 => k_is); (case z3 => k_is)
    (case z4 => k_is); (case z5 => k_is); (case z6 => k_is); (case z7 => k_is); (case m0 => k_is); (case m1 => k_is); (case m2 => k_is)
