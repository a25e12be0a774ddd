import PyProof.Rows.All
import Wide.All
import OpenK.AllK
import Wide.FinOn
import KE.KStateDown
import KE.KDictKeyed
import KE.KeyNested
import KE.KLam
import KE.KExcSuper
import Lean
import HandS.ForMost
import HandS.ForExc
import HandS.ExcCtx
import HandS.HotCalls
import HandS.ExcIs
import HandS.IsInst
import HandS.ExcInit
import HandS.Lambda
import HandS.EndTab
import HandS.TupSets
import HandS.TupAny
import HandS.TupMul
import HandS.Deep
import HandS.Conv
import HandS.Codes
import HandS.Style
import HandS.Flow
import HandS.Zip
import HandS.Wide
import HandS.Small
import HandS.Defaults
import HandS.Head0
import HandS.Head1
import HandS.Head2
import HandS.HeadEnd
import HandS.HeadHook1
import HandS.HeadHook2
import HandS.HeadHook3
import HandS.HeadHook4
import HandS.HeadWalk
import PySem.Challenge.RW_wiredorders_k58_whole_fewest_comparers_m
import KE.KDictDisplayH
import HandS.TupLe
import HandS.ExcSuper
set_option linter.all false
set_option maxRecDepth 100000
namespace WOm
abbrev Rw := List Int
abbrev Cmp := Nat × Nat
def cmp (r : Rw) (c : Cmp) : Rw :=
  if r.getD c.1 0 ≤ r.getD c.2 0 then r else (r.set c.1 (r.getD c.2 0)).set c.2 (r.getD c.1 0)
def thr (r : Rw) (net : List Cmp) : Rw := net.foldl cmp r
def pairs (n : Nat) : List Cmp := (List.range n).flatMap fun l => (List.range' (l + 1) (n - (l + 1))).map fun h => (l, h)
theorem mem_pairs {n : Nat} {c : Cmp} : c ∈ pairs n ↔ c.1 < c.2 ∧ c.2 < n := by
  obtain ⟨a, b⟩ := c
  unfold pairs
  simp only [List.mem_flatMap, List.mem_range, List.mem_map, List.mem_range'_1, Prod.mk.injEq]
  constructor
  · rintro ⟨l, hl, h, hh, rfl, rfl⟩
    omega
  · rintro ⟨h1, h2⟩
    exact ⟨a, by omega, b, by omega, rfl, rfl⟩
abbrev Valid (n : Nat) (q : List Cmp) : Prop := ∀ c ∈ q, c ∈ pairs n
theorem thr_append (r : Rw) (a b : List Cmp) : thr r (a ++ b) = thr (thr r a) b := List.foldl_append
theorem thr_nil (r : Rw) : thr r [] = r := rfl
theorem thr_snoc (r : Rw) (a : List Cmp) (c : Cmp) : thr r (a ++ [c]) = cmp (thr r a) c := by rw [thr_append]; rfl
theorem cmp_len (r : Rw) (c : Cmp) : (cmp r c).length = r.length := by
  unfold cmp
  split
  · rfl
  · rw [List.length_set, List.length_set]
theorem thr_len (q : List Cmp) : ∀ r : Rw, (thr r q).length = r.length := by
  induction q with
  | nil => intro r; rfl
  | cons c q ih => intro r; show (thr (cmp r c) q).length = _; rw [ih, cmp_len]
/-! ### the order of rows -/
def ltR : Rw → Rw → Bool
  | [], [] => false
  | [], _ :: _ => true
  | _ :: _, [] => false
  | x :: xs, y :: ys => if x < y then true else if y < x then false else ltR xs ys
theorem ltR_cons (x y : Int) (xs ys : Rw) : ltR (x :: xs) (y :: ys) = if x < y then true else if y < x then false else ltR xs ys := rfl
theorem ltR_irrefl : ∀ x : Rw, ltR x x = false
  | [] => rfl
  | x :: xs => by rw [ltR_cons, if_neg (by omega), if_neg (by omega)]; exact ltR_irrefl xs
theorem ltR_trans : ∀ {x y z : Rw}, ltR x y = true → ltR y z = true → ltR x z = true
  | [], [], _, h, _ => by cases h
  | [], _ :: _, [], _, h => by cases h
  | [], _ :: _, _ :: _, _, _ => rfl
  | _ :: _, [], _, h, _ => by cases h
  | _ :: _, _ :: _, [], _, h => by cases h
  | x :: xs, y :: ys, z :: zs, h1, h2 => by
    rw [ltR_cons] at h1 h2 ⊢
    by_cases a : x < y
    · by_cases b : y < z
      · rw [if_pos (by omega)]
      · rw [if_neg b] at h2
        by_cases c : z < y
        · rw [if_pos c] at h2; cases h2
        · rw [if_pos (by omega)]
    · rw [if_neg a] at h1
      by_cases a2 : y < x
      · rw [if_pos a2] at h1; cases h1
      · rw [if_neg a2] at h1
        by_cases b : y < z
        · rw [if_pos (by omega)]
        · rw [if_neg b] at h2
          by_cases c : z < y
          · rw [if_pos c] at h2; cases h2
          · rw [if_neg c] at h2
            rw [if_neg (by omega), if_neg (by omega)]
            exact ltR_trans h1 h2
theorem ltR_tri : ∀ {x y : Rw}, ltR x y = false → ltR y x = false → x = y
  | [], [], _, _ => rfl
  | [], _ :: _, h, _ => by cases h
  | _ :: _, [], _, h => by cases h
  | x :: xs, y :: ys, h1, h2 => by
    rw [ltR_cons] at h1 h2
    by_cases a : x < y
    · rw [if_pos a] at h1; cases h1
    · by_cases b : y < x
      · rw [if_pos b] at h2; cases h2
      · rw [if_neg a, if_neg b] at h1
        rw [if_neg b, if_neg a] at h2
        rw [ltR_tri h1 h2, show x = y by omega]
abbrev Asc (l : List Rw) : Prop := l.Pairwise fun x y => ltR x y = true
theorem asc_unique : ∀ {a b : List Rw}, Asc a → Asc b → (∀ x, x ∈ a ↔ x ∈ b) → a = b
  | [], [], _, _, _ => rfl
  | [], y :: b, _, _, h => by have := (h y).mpr List.mem_cons_self; simp at this
  | x :: a, [], _, _, h => by have := (h x).mp List.mem_cons_self; simp at this
  | x :: a, y :: b, ha, hb, h => by
    obtain ⟨h1, ka⟩ := List.pairwise_cons.mp ha
    obtain ⟨h2, kb⟩ := List.pairwise_cons.mp hb
    have e : x = y := by
      rcases List.mem_cons.mp ((h x).mp List.mem_cons_self) with e | m
      · exact e
      · rcases List.mem_cons.mp ((h y).mpr List.mem_cons_self) with e | m'
        · exact e.symm
        · have z := ltR_trans (h1 y m') (h2 x m)
          rw [ltR_irrefl] at z; cases z
    subst e
    congr 1
    refine asc_unique ka kb fun z => ?_
    have nz : ∀ {l : List Rw}, (∀ y ∈ l, ltR x y = true) → x ∉ l := fun hl m => by
      have z := hl x m
      rw [ltR_irrefl] at z; cases z
    constructor
    · intro m
      rcases List.mem_cons.mp ((h z).mp (List.mem_cons_of_mem _ m)) with e | m'
      · subst e; exact absurd m (nz h1)
      · exact m'
    · intro m
      rcases List.mem_cons.mp ((h z).mpr (List.mem_cons_of_mem _ m)) with e | m'
      · subst e; exact absurd m (nz h2)
      · exact m'
def ins (x : Rw) : List Rw → List Rw
  | [] => [x]
  | y :: l => if ltR x y then x :: y :: l else if ltR y x then y :: ins x l else y :: l
theorem ins_mem {x z : Rw} : ∀ {l : List Rw}, z ∈ ins x l ↔ z = x ∨ z ∈ l
  | [] => by simp [ins]
  | y :: l => by
    unfold ins
    by_cases a : ltR x y = true
    · rw [if_pos a]; simp
    · rw [if_neg a]
      by_cases b : ltR y x = true
      · rw [if_pos b, List.mem_cons, ins_mem, List.mem_cons]
        constructor
        · rintro (h | h | h)
          · exact .inr (.inl h)
          · exact .inl h
          · exact .inr (.inr h)
        · rintro (h | h | h)
          · exact .inr (.inl h)
          · exact .inl h
          · exact .inr (.inr h)
      · rw [if_neg b]
        have e : x = y := ltR_tri (by simpa using a) (by simpa using b)
        subst e
        simp
theorem ins_asc {x : Rw} : ∀ {l : List Rw}, Asc l → Asc (ins x l)
  | [], _ => by simp [ins]
  | y :: l, h => by
    obtain ⟨h1, h2⟩ := List.pairwise_cons.mp h
    unfold ins
    by_cases a : ltR x y = true
    · rw [if_pos a]
      refine List.pairwise_cons.mpr ⟨fun z m => ?_, h⟩
      rcases List.mem_cons.mp m with e | m
      · subst e; exact a
      · exact ltR_trans a (h1 z m)
    · rw [if_neg a]
      by_cases b : ltR y x = true
      · rw [if_pos b]
        refine List.pairwise_cons.mpr ⟨fun z m => ?_, ins_asc h2⟩
        rcases ins_mem.mp m with e | m
        · subst e; exact b
        · exact h1 z m
      · rw [if_neg b]; exact h
def canon (A : List Rw) : List Rw := A.foldr ins []
theorem canon_asc : ∀ A : List Rw, Asc (canon A)
  | [] => .nil
  | x :: A => ins_asc (canon_asc A)
theorem canon_mem {z : Rw} : ∀ {A : List Rw}, z ∈ canon A ↔ z ∈ A
  | [] => Iff.rfl
  | x :: A => by
    show z ∈ ins x (canon A) ↔ _
    rw [ins_mem, canon_mem, List.mem_cons]
theorem canon_ext {A B : List Rw} (h : ∀ x, x ∈ A ↔ x ∈ B) : canon A = canon B :=
  asc_unique (canon_asc A) (canon_asc B) fun x => by rw [canon_mem, canon_mem, h]
theorem canon_eq {A L : List Rw} (hL : Asc L) (h : ∀ x, x ∈ L ↔ x ∈ A) : L = canon A :=
  asc_unique hL (canon_asc A) fun x => by rw [canon_mem, h]
theorem asc_nodup {l : List Rw} (h : Asc l) : l.Nodup := h.imp fun {x y} z e => by
  subst e; rw [ltR_irrefl] at z; cases z
/-! ### states and walks -/
abbrev Sta := List Rw
def stp (s : Sta) (c : Cmp) : Sta := canon (s.map (cmp · c))
def wlk (s : Sta) (q : List Cmp) : Sta := q.foldl stp s
theorem wlk_snoc (s : Sta) (q : List Cmp) (c : Cmp) : wlk s (q ++ [c]) = stp (wlk s q) c := by
  unfold wlk; rw [List.foldl_append]; rfl
/-- the images of the rows A by a net -/
def img (A : List Rw) (net : List Cmp) : Sta := canon (A.map (thr · net))
theorem img_snoc (A : List Rw) (q : List Cmp) (c : Cmp) : stp (img A q) c = img A (q ++ [c]) := by
  unfold stp img
  refine canon_ext fun x => ?_
  simp only [List.mem_map, canon_mem]
  constructor
  · rintro ⟨y, ⟨r, hr, rfl⟩, rfl⟩
    exact ⟨r, hr, thr_snoc r q c⟩
  · rintro ⟨r, hr, rfl⟩
    exact ⟨_, ⟨r, hr, rfl⟩, (thr_snoc r q c).symm⟩
theorem wlk_img (A : List Rw) (net : List Cmp) : ∀ q : List Cmp, wlk (img A net) q = img A (net ++ q) := by
  intro q
  induction q generalizing net with
  | nil => rw [List.append_nil]; rfl
  | cons c q ih =>
    show wlk (stp (img A net) c) q = _
    rw [img_snoc, ih, List.append_assoc]
    rfl
/-! ### marks and orders -/
def marks : Nat → List Rw
  | 0 => [[]]
  | n + 1 => (marks n).map (· ++ [0]) ++ (marks n).map (· ++ [1])
/-- all pairs of a head and a thing that it has not -/
def longer (n : Nat) (heads : List Rw) : List (Rw × Int) := heads.flatMap fun h => ((List.range n).map fun (i : Nat) => (i : Int)).filterMap fun t => if t ∈ h then none else some (h, t)
def every (n : Nat) : Nat → List Rw
  | 0 => [[]]
  | k + 1 => (longer n (every n k)).map fun p => p.1 ++ [p.2]
abbrev perms (n : Nat) : List Rw := every n n
def plain (n : Nat) : Rw := (List.range n).map fun (i : Nat) => (i : Int)
def asc : Rw → Bool
  | [] => true
  | [_] => true
  | x :: y :: l => decide (x ≤ y) && asc (y :: l)
def fT (t : Nat) (x : Int) : Int := if (t : Int) ≤ x then 1 else 0
def bub : Nat → List Cmp
  | 2 => [(0, 1)]
  | 3 => [(0, 1), (1, 2), (0, 1)]
  | 4 => [(0, 1), (1, 2), (2, 3), (0, 1), (1, 2), (0, 1)]
  | _ => []
def chk (n : Nat) : Bool :=
  (marks n).all (fun r => decide (r.length = n) && ((pairs n).all fun c => decide (cmp r c ∈ marks n)) && asc (thr r (bub n)) && r.all (fun x => decide (0 ≤ x) && decide (x ≤ 1))) &&
  ((perms n).all fun r => decide (r.length = n) && ((pairs n).all fun c => decide (cmp r c ∈ perms n)) && (List.range (n + 1)).all (fun t => decide (r.map (fT t) ∈ marks n)) && (!((List.range (n + 1)).all fun t => asc (r.map (fT t))) || decide (r = plain n)) && r.all (fun x => decide (0 ≤ x) && decide (x < n))) &&
  ((marks n).all fun m => (perms n).any fun r => (List.range (n + 1)).any fun t => decide (m = r.map (fT t))) &&
  ((List.range (n + 1)).all fun t => asc ((plain n).map (fT t))) && ((bub n).all fun c => decide (c ∈ pairs n)) && decide ((bub n).length ≤ 6) && decide (plain n ∈ perms n) && decide ((pairs n).length ≤ 6) && decide ((marks n).length ≤ 16) && decide ((perms n).length ≤ 24)
theorem chk1 : chk 1 = true := by decide +kernel
theorem chk2 : chk 2 = true := by decide +kernel
theorem chk3 : chk 3 = true := by decide +kernel
theorem chk4 : chk 4 = true := by decide +kernel
/-- so many things -/
def Few (n : Nat) : Prop := n = 1 ∨ n = 2 ∨ n = 3 ∨ n = 4
theorem chk_few {n : Nat} (h : Few n) : chk n = true := by
  rcases h with e | e | e | e <;> subst e
  · exact chk1
  · exact chk2
  · exact chk3
  · exact chk4
structure Facts (n : Nat) : Prop where
  mlen : ∀ r ∈ marks n, r.length = n
  mcl : ∀ r ∈ marks n, ∀ c ∈ pairs n, cmp r c ∈ marks n
  mbub : ∀ r ∈ marks n, asc (thr r (bub n)) = true
  mbd : ∀ r ∈ marks n, ∀ x ∈ r, 0 ≤ x ∧ x ≤ 1
  plen : ∀ r ∈ perms n, r.length = n
  pcl : ∀ r ∈ perms n, ∀ c ∈ pairs n, cmp r c ∈ perms n
  pm : ∀ r ∈ perms n, ∀ t, t < n + 1 → r.map (fT t) ∈ marks n
  ppl : ∀ r ∈ perms n, (∀ t, t < n + 1 → asc (r.map (fT t)) = true) → r = plain n
  pbd : ∀ r ∈ perms n, ∀ x ∈ r, 0 ≤ x ∧ x < (n : Int)
  mp : ∀ m ∈ marks n, ∃ r ∈ perms n, ∃ t, t < n + 1 ∧ m = r.map (fT t)
  pla : ∀ t, t < n + 1 → asc ((plain n).map (fT t)) = true
  bval : Valid n (bub n)
  blen : (bub n).length ≤ 6
  plp : plain n ∈ perms n
  p6 : (pairs n).length ≤ 6
  m16 : (marks n).length ≤ 16
  p24 : (perms n).length ≤ 24
theorem facts {n : Nat} (h : Few n) : Facts n := by
  have c := chk_few h
  unfold chk at c
  simp only [Bool.and_eq_true, List.all_eq_true, decide_eq_true_eq, List.mem_range, List.any_eq_true, Bool.or_eq_true, Bool.not_eq_true'] at c
  obtain ⟨⟨⟨⟨⟨⟨⟨⟨⟨c1, c2⟩, c3⟩, c4⟩, c5⟩, c6⟩, c7⟩, c8⟩, c9⟩, c10⟩ := c
  exact {
    mlen := fun r hr => (c1 r hr).1.1.1
    mcl := fun r hr => (c1 r hr).1.1.2
    mbub := fun r hr => (c1 r hr).1.2
    mbd := fun r hr => (c1 r hr).2
    plen := fun r hr => (c2 r hr).1.1.1.1
    pcl := fun r hr => (c2 r hr).1.1.1.2
    pm := fun r hr => (c2 r hr).1.1.2
    ppl := fun r hr ht => by
      rcases (c2 r hr).1.2 with z | z
      · exfalso
        have y : ((List.range (n + 1)).all fun t => asc (r.map (fT t))) = true := List.all_eq_true.mpr fun t ht' => ht t (List.mem_range.mp ht')
        rw [y] at z; cases z
      · exact z
    pbd := fun r hr => (c2 r hr).2
    mp := c3
    pla := c4
    bval := c5
    blen := c6
    plp := c7
    p6 := c8
    m16 := c9
    p24 := c10 }
end WOm

namespace WOm
/-! ### the 0-1 principle -/
theorem map_set {f : Int → Int} (r : Rw) (i : Nat) (x : Int) : (r.set i x).map f = (r.map f).set i (f x) := List.map_set
theorem getD_map {f : Int → Int} {r : Rw} {i : Nat} (h : i < r.length) : (r.map f).getD i 0 = f (r.getD i 0) := by
  rw [List.getD_eq_getElem?_getD, List.getD_eq_getElem?_getD, List.getElem?_map, List.getElem?_eq_getElem h]
  rfl
theorem fT_mono (t : Nat) {x y : Int} (h : x ≤ y) : fT t x ≤ fT t y := by
  unfold fT
  split <;> split <;> omega
theorem set_same {r : Rw} {i : Nat} {x : Int} (h : i < r.length) (e : r.getD i 0 = x) : r.set i x = r := by
  rw [List.getD_eq_getElem?_getD, List.getElem?_eq_getElem h] at e
  have e' : r[i] = x := e
  rw [← e']
  exact List.set_getElem_self h
theorem cmp_map {t : Nat} {r : Rw} {c : Cmp} (h1 : c.1 < r.length) (h2 : c.2 < r.length) (hne : c.1 ≠ c.2) : (cmp r c).map (fT t) = cmp (r.map (fT t)) c := by
  unfold cmp
  rw [getD_map h1, getD_map h2]
  by_cases a : r.getD c.1 0 ≤ r.getD c.2 0
  · rw [if_pos a, if_pos (fT_mono t a)]
  · rw [if_neg a, map_set, map_set]
    by_cases b : fT t (r.getD c.1 0) ≤ fT t (r.getD c.2 0)
    · rw [if_pos b]
      have e : fT t (r.getD c.1 0) = fT t (r.getD c.2 0) := Int.le_antisymm b (fT_mono t (by omega))
      have l1 : c.1 < (r.map (fT t)).length := by rw [List.length_map]; exact h1
      have l2 : c.2 < (r.map (fT t)).length := by rw [List.length_map]; exact h2
      rw [set_same l1 (by rw [getD_map h1, e]), set_same l2 (by rw [getD_map h2, e])]
    · rw [if_neg b]
theorem thr_map {t n : Nat} : ∀ (q : List Cmp) {r : Rw}, r.length = n → Valid n q → (thr r q).map (fT t) = thr (r.map (fT t)) q
  | [], _, _, _ => rfl
  | c :: q, r, hr, hq => by
    obtain ⟨h1, h2⟩ := mem_pairs.mp (hq c List.mem_cons_self)
    show (thr (cmp r c) q).map (fT t) = thr (cmp (r.map (fT t)) c) q
    rw [← cmp_map (t := t) (by omega) (by omega) (by omega)]
    exact thr_map q (by rw [cmp_len, hr]) fun c' m => hq c' (List.mem_cons_of_mem _ m)
theorem thr_cl {n : Nat} {A : List Rw} (h : ∀ r ∈ A, ∀ c ∈ pairs n, cmp r c ∈ A) : ∀ (q : List Cmp) {r : Rw}, r ∈ A → Valid n q → thr r q ∈ A
  | [], _, hr, _ => hr
  | c :: q, r, hr, hq => thr_cl h q (h r hr c (hq c List.mem_cons_self)) fun c' m => hq c' (List.mem_cons_of_mem _ m)
/-- a net that sorts the marks, the orders -/
def SortsM (n : Nat) (q : List Cmp) : Prop := ∀ m ∈ marks n, asc (thr m q) = true
def SortsP (n : Nat) (q : List Cmp) : Prop := ∀ r ∈ perms n, thr r q = plain n
theorem sorts_iff {n : Nat} (F : Facts n) {q : List Cmp} (hq : Valid n q) : SortsM n q ↔ SortsP n q := by
  constructor
  · intro h r hr
    refine F.ppl _ (thr_cl F.pcl q hr hq) fun t ht => ?_
    rw [thr_map q (F.plen r hr) hq]
    exact h _ (F.pm r hr t ht)
  · intro h m hm
    obtain ⟨r, hr, t, ht, e⟩ := F.mp m hm
    rw [e, ← thr_map q (F.plen r hr) hq, h r hr]
    exact F.pla t ht
/-- from each net so few comparers more sort all -/
theorem bub_sorts {n : Nat} (F : Facts n) {net : List Cmp} (hn : Valid n net) : SortsM n (net ++ bub n) := fun m hm => by
  rw [thr_append]
  exact F.mbub _ (thr_cl F.mcl net hm hn)
theorem valid_app {n : Nat} {a b : List Cmp} (ha : Valid n a) (hb : Valid n b) : Valid n (a ++ b) := fun c m =>
  (List.mem_append.mp m).elim (ha c) (hb c)
/-! ### goals -/
def ascAll (s : Sta) : Bool := s.all asc
theorem goalM {n : Nat} {q : List Cmp} : ascAll (img (marks n) q) = true ↔ SortsM n q := by
  unfold ascAll img SortsM
  simp only [List.all_eq_true, canon_mem, List.mem_map]
  constructor
  · intro h m hm
    exact h _ ⟨m, hm, rfl⟩
  · rintro h x ⟨m, hm, rfl⟩
    exact h m hm
theorem goalP {n : Nat} (F : Facts n) {q : List Cmp} : img (perms n) q = [plain n] ↔ SortsP n q := by
  unfold SortsP
  constructor
  · intro h r hr
    have m : thr r q ∈ img (perms n) q := canon_mem.mpr (List.mem_map.mpr ⟨r, hr, rfl⟩)
    rw [h] at m
    exact List.mem_singleton.mp m
  · intro h
    refine (canon_eq (A := (perms n).map (thr · q)) (by simp) fun x => ?_).symm
    rw [List.mem_singleton, List.mem_map]
    constructor
    · rintro rfl
      exact ⟨_, F.plp, h _ F.plp⟩
    · rintro ⟨r, hr, rfl⟩
      exact h r hr
/-! ### the search by a queue -/
section
variable (P : List Cmp) (s0 : Sta) (goal : Sta → Prop)
def keys (f : List (Sta × List Cmp)) : List Sta := f.map (·.1)
def pathOf (f : List (Sta × List Cmp)) (s : Sta) : List Cmp := ((f.find? fun kv => decide (kv.1 = s)).map (·.2)).getD []
def ln (f : List (Sta × List Cmp)) (s : Sta) : Nat := (pathOf f s).length
/-- what holds of found and line; x is being worked at, with the pairs D done -/
structure QI (f : List (Sta × List Cmp)) (line : List Sta) (D : Sta → List Cmp → Prop) : Prop where
  nd : (keys f).Nodup
  val : ∀ kv ∈ f, wlk s0 kv.2 = kv.1 ∧ ∀ c ∈ kv.2, c ∈ P
  root : s0 ∈ keys f ∧ ln f s0 = 0
  sub : ∀ s ∈ line, s ∈ keys f
  ord : line.Pairwise fun s t => ln f s ≤ ln f t
  top : ∀ s ∈ keys f, ∀ t ∈ line, ln f s ≤ ln f t + 1
  done : ∀ s ∈ keys f, s ∉ line → ¬ goal s ∧ ∃ d, D s d ∧ ∀ c ∈ d, stp s c ∈ keys f ∧ ln f (stp s c) ≤ ln f s + 1
end
theorem find_at {f : List (Sta × List Cmp)} {s : Sta} (h : s ∈ keys f) : (s, pathOf f s) ∈ f := by
  unfold pathOf
  cases e : f.find? fun kv => decide (kv.1 = s) with
  | none =>
    exfalso
    obtain ⟨kv, hk, rfl⟩ := List.mem_map.mp h
    have z := List.find?_eq_none.mp e kv hk
    simp at z
  | some kv =>
    have h1 := List.mem_of_find?_eq_some e
    have h2 : kv.1 = s := by simpa using List.find?_some e
    subst h2
    exact h1
theorem path_snoc {f : List (Sta × List Cmp)} {s t : Sta} {p : List Cmp} (h : s ∈ keys f) : pathOf (f ++ [(t, p)]) s = pathOf f s := by
  unfold pathOf
  rw [List.find?_append]
  cases e : f.find? fun kv => decide (kv.1 = s) with
  | none =>
    exfalso
    obtain ⟨kv, hk, rfl⟩ := List.mem_map.mp h
    have z := List.find?_eq_none.mp e kv hk
    simp at z
  | some kv => rfl
theorem path_new {f : List (Sta × List Cmp)} {t : Sta} {p : List Cmp} (h : t ∉ keys f) : pathOf (f ++ [(t, p)]) t = p := by
  unfold pathOf
  rw [List.find?_append]
  cases e : f.find? fun kv => decide (kv.1 = t) with
  | none => simp
  | some kv =>
    exfalso
    have h1 := List.mem_of_find?_eq_some e
    have h2 : kv.1 = t := by simpa using List.find?_some e
    exact h (List.mem_map.mpr ⟨kv, h1, h2⟩)
theorem keys_snoc (f : List (Sta × List Cmp)) (t : Sta) (p : List Cmp) : keys (f ++ [(t, p)]) = keys f ++ [t] := by
  unfold keys; rw [List.map_append]; rfl
section
variable {P : List Cmp} {s0 : Sta} {goal : Sta → Prop} {f : List (Sta × List Cmp)} {line : List Sta}
/-- all done but what stands in line -/
abbrev QA (P : List Cmp) (s0 : Sta) (goal : Sta → Prop) (f : List (Sta × List Cmp)) (line : List Sta) : Prop := QI P s0 goal f line fun _ d => d = P
theorem QA.start : QA P s0 goal [(s0, [])] [s0] where
  nd := by simp [keys]
  val := fun kv h => by
    obtain rfl := List.mem_singleton.mp h
    exact ⟨rfl, fun c m => by cases m⟩
  root := ⟨by simp [keys], by simp [ln, pathOf]⟩
  sub := fun s h => by simpa [keys] using h
  ord := by simp
  top := fun s h t m => by
    obtain rfl : s = s0 := by simpa [keys] using h
    obtain rfl := List.mem_singleton.mp m
    omega
  done := fun s h n => by
    exfalso
    apply n
    simpa [keys] using h
/-- a way that is shorter than the line's first one's is known -/
theorem QA.reach (I : QA P s0 goal f line) {L : Nat} (hL : ∀ s ∈ line, L ≤ ln f s) : ∀ (k : Nat) (q : List Cmp), q.length = k → (∀ c ∈ q, c ∈ P) → k ≤ L → wlk s0 q ∈ keys f ∧ ln f (wlk s0 q) ≤ k
  | 0, q, e, _, _ => by
    obtain rfl := List.length_eq_zero_iff.mp e
    exact ⟨I.root.1, by show ln f s0 ≤ 0; rw [I.root.2]; exact Nat.le_refl 0⟩
  | k + 1, q, e, hq, hk => by
    have hne : q ≠ [] := fun z => by rw [z] at e; cases e
    have eq := (List.dropLast_concat_getLast hne).symm
    have hq1 : ∀ c ∈ q.dropLast, c ∈ P := fun c m => hq c (List.dropLast_subset q m)
    obtain ⟨h1, h2⟩ := I.reach hL k q.dropLast (by rw [List.length_dropLast, e]; rfl) hq1 (by omega)
    have h3 : wlk s0 q.dropLast ∉ line := fun m => by
      have := hL _ m
      omega
    obtain ⟨_, d, rfl, hd⟩ := I.done _ h1 h3
    obtain ⟨h4, h5⟩ := hd _ (hq _ (List.getLast_mem hne))
    rw [eq, wlk_snoc]
    exact ⟨h4, by omega⟩
/-- the first one of the line is no farther than any goal -/
theorem QA.least (I : QA P s0 goal f line) {L : Nat} (hL : ∀ s ∈ line, L ≤ ln f s) {q : List Cmp} (hq : ∀ c ∈ q, c ∈ P) (hg : goal (wlk s0 q)) : line ≠ [] ∧ L ≤ q.length := by
  by_cases h : q.length < L
  · obtain ⟨h1, h2⟩ := I.reach hL q.length q rfl hq (by omega)
    exact absurd hg (I.done _ h1 fun m => by have := hL _ m; omega).1
  · by_cases hn : line = []
    · exfalso
      subst hn
      obtain ⟨h1, h2⟩ := I.reach (L := q.length) (fun s m => by cases m) q.length q rfl hq (Nat.le_refl _)
      exact (I.done _ h1 (by simp)).1 hg
    · exact ⟨hn, by omega⟩
/-- a key is new: the lengths of the others stay -/
theorem ln_snoc {s t : Sta} {p : List Cmp} (h : s ∈ keys f) : ln (f ++ [(t, p)]) s = ln f s := by unfold ln; rw [path_snoc h]
theorem ln_new {t : Sta} {p : List Cmp} (h : t ∉ keys f) : ln (f ++ [(t, p)]) t = p.length := by unfold ln; rw [path_new h]
def wt : Nat → Nat
  | 0 => 0
  | m + 1 => 1 + 6 * (1 + wt m)
def pot (f : List (Sta × List Cmp)) (line : List Sta) : Nat := (line.map fun s => wt (7 - ln f s)).sum
theorem pot_cons (x : Sta) (l : List Sta) : pot f (x :: l) = wt (7 - ln f x) + pot f l := rfl
theorem pot_snoc {t : Sta} {p : List Cmp} (hs : ∀ s ∈ line, s ∈ keys f) (h : t ∉ keys f) : pot (f ++ [(t, p)]) (line ++ [t]) = pot f line + wt (7 - p.length) := by
  unfold pot
  rw [List.map_append, List.sum_append, List.map_singleton, List.sum_singleton, ln_new h]
  congr 2
  refine List.map_congr_left fun s m => ?_
  rw [ln_snoc (hs s m)]
/-- within the turn for x, the pairs d done: N, B are what found's length and the weight were at the turn's start without x -/
structure QM (P : List Cmp) (s0 : Sta) (goal : Sta → Prop) (x : Sta) (N B : Nat) (f : List (Sta × List Cmp)) (line : List Sta) (d : List Cmp) : Prop where
  i : QI P s0 goal f line fun s e => (s = x ∧ e = d) ∨ (s ≠ x ∧ e = P)
  kx : x ∈ keys f
  m1 : ∀ s ∈ keys f, ln f s ≤ ln f x + 1
  m2 : ∀ t ∈ line, ln f x ≤ ln f t
  l6 : ln f x ≤ 6
  cnt : ∃ k, k ≤ d.length ∧ f.length = N + k ∧ pot f line = B + k * wt (6 - ln f x)
/-- the line's first one is taken -/
theorem QA.pop {x : Sta} {rest : List Sta} (I : QA P s0 goal f (x :: rest)) (hx : ¬ goal x) (h6 : ln f x ≤ 6) : QM P s0 goal x f.length (pot f rest) f rest [] where
  i := {
    nd := I.nd
    val := I.val
    root := I.root
    sub := fun s m => I.sub s (List.mem_cons_of_mem _ m)
    ord := (List.pairwise_cons.mp I.ord).2
    top := fun s h t m => I.top s h t (List.mem_cons_of_mem _ m)
    done := fun s h n => by
      by_cases e : s = x
      · subst e
        exact ⟨hx, [], .inl ⟨rfl, rfl⟩, fun c m => by cases m⟩
      · obtain ⟨h1, d, rfl, h2⟩ := I.done s h fun m => (List.mem_cons.mp m).elim e n
        exact ⟨h1, _, .inr ⟨e, rfl⟩, h2⟩ }
  kx := I.sub x List.mem_cons_self
  m1 := fun s h => I.top s h x List.mem_cons_self
  m2 := fun t m => (List.pairwise_cons.mp I.ord).1 t m
  l6 := h6
  cnt := ⟨0, Nat.le_refl 0, rfl, by omega⟩
theorem QM.old {x : Sta} {N B : Nat} {d : List Cmp} {c : Cmp} (M : QM P s0 goal x N B f line d) (h : stp x c ∈ keys f) : QM P s0 goal x N B f line (d ++ [c]) where
  i := { M.i with
    done := fun s hs n => by
      obtain ⟨h1, e, h2, h3⟩ := M.i.done s hs n
      refine ⟨h1, ?_⟩
      rcases h2 with ⟨rfl, rfl⟩ | ⟨h2, rfl⟩
      · refine ⟨_, .inl ⟨rfl, rfl⟩, fun c' m => ?_⟩
        rcases List.mem_append.mp m with m | m
        · exact h3 c' m
        · obtain rfl := List.mem_singleton.mp m
          exact ⟨h, M.m1 _ h⟩
      · exact ⟨_, .inr ⟨h2, rfl⟩, h3⟩ }
  kx := M.kx
  m1 := M.m1
  m2 := M.m2
  l6 := M.l6
  cnt := by
    obtain ⟨k, h1, h2, h3⟩ := M.cnt
    exact ⟨k, by rw [List.length_append]; omega, h2, h3⟩
theorem QM.new {x : Sta} {N B : Nat} {d : List Cmp} {c : Cmp} (M : QM P s0 goal x N B f line d) (hc : c ∈ P) (h : stp x c ∉ keys f) :
    QM P s0 goal x N B (f ++ [(stp x c, pathOf f x ++ [c])]) (line ++ [stp x c]) (d ++ [c]) := by
  have kx := M.kx
  have vx := M.i.val _ (find_at kx)
  have ks : ∀ s, s ∈ keys (f ++ [(stp x c, pathOf f x ++ [c])]) ↔ s ∈ keys f ∨ s = stp x c := fun s => by
    rw [keys_snoc, List.mem_append, List.mem_singleton]
  have lnew : ln (f ++ [(stp x c, pathOf f x ++ [c])]) (stp x c) = ln f x + 1 := by
    rw [ln_new h, List.length_append]; rfl
  have lold : ∀ {s}, s ∈ keys f → ln (f ++ [(stp x c, pathOf f x ++ [c])]) s = ln f s := fun hs => ln_snoc hs
  refine { i := { nd := ?nd, val := ?val, root := ?root, sub := ?sub, ord := ?ord, top := ?top, done := ?done }, kx := (ks x).mpr (.inl kx), m1 := ?m1, m2 := ?m2, l6 := by rw [lold kx]; exact M.l6, cnt := ?cnt }
  case nd =>
    rw [keys_snoc]
    exact List.nodup_append.mpr ⟨M.i.nd, by simp, fun a ha b hb e => by
      obtain rfl := List.mem_singleton.mp hb
      exact h (e ▸ ha)⟩
  case val =>
    intro kv m
    rcases List.mem_append.mp m with m | m
    · exact M.i.val kv m
    · obtain rfl := List.mem_singleton.mp m
      refine ⟨by rw [wlk_snoc, vx.1], fun c' m' => ?_⟩
      rcases List.mem_append.mp m' with m' | m'
      · exact vx.2 c' m'
      · obtain rfl := List.mem_singleton.mp m'
        exact hc
  case root =>
    exact ⟨(ks _).mpr (.inl M.i.root.1), by rw [lold M.i.root.1]; exact M.i.root.2⟩
  case sub =>
    intro s m
    rcases List.mem_append.mp m with m | m
    · exact (ks s).mpr (.inl (M.i.sub s m))
    · exact (ks s).mpr (.inr (List.mem_singleton.mp m))
  case ord =>
    refine List.pairwise_append.mpr ⟨M.i.ord.imp_of_mem fun {a b} ha hb z => by rw [lold (M.i.sub a ha), lold (M.i.sub b hb)]; exact z, by simp, fun a ha b hb => ?_⟩
    obtain rfl := List.mem_singleton.mp hb
    rw [lold (M.i.sub a ha), lnew]
    exact M.m1 a (M.i.sub a ha)
  case top =>
    intro s hs t ht
    have h1 : ln (f ++ [(stp x c, pathOf f x ++ [c])]) s ≤ ln f x + 1 := by
      rcases (ks s).mp hs with hs | hs
      · rw [lold hs]; exact M.m1 s hs
      · rw [hs, lnew]; exact Nat.le_refl _
    have h2 : ln f x ≤ ln (f ++ [(stp x c, pathOf f x ++ [c])]) t := by
      rcases List.mem_append.mp ht with ht | ht
      · rw [lold (M.i.sub t ht)]; exact M.m2 t ht
      · rw [List.mem_singleton.mp ht, lnew]; omega
    omega
  case done =>
    intro s hs n
    rcases (ks s).mp hs with hs' | hs'
    · obtain ⟨h1, e, h2, h3⟩ := M.i.done s hs' fun m => n (List.mem_append.mpr (.inl m))
      have h3' : ∀ c' ∈ e, stp s c' ∈ keys (f ++ [(stp x c, pathOf f x ++ [c])]) ∧ ln (f ++ [(stp x c, pathOf f x ++ [c])]) (stp s c') ≤ ln (f ++ [(stp x c, pathOf f x ++ [c])]) s + 1 := fun c' m => by
        obtain ⟨k1, k2⟩ := h3 c' m
        exact ⟨(ks _).mpr (.inl k1), by rw [lold k1, lold hs']; exact k2⟩
      refine ⟨h1, ?_⟩
      rcases h2 with ⟨rfl, rfl⟩ | ⟨h2, rfl⟩
      · refine ⟨_, .inl ⟨rfl, rfl⟩, fun c' m => ?_⟩
        rcases List.mem_append.mp m with m | m
        · exact h3' c' m
        · obtain rfl := List.mem_singleton.mp m
          exact ⟨(ks _).mpr (.inr rfl), by rw [lnew, lold hs']; exact Nat.le_refl _⟩
      · exact ⟨_, .inr ⟨h2, rfl⟩, h3'⟩
    · exact absurd (List.mem_append.mpr (.inr (List.mem_singleton.mpr hs'))) n
  case m1 =>
    intro s hs
    rw [lold kx]
    rcases (ks s).mp hs with hs | hs
    · rw [lold hs]; exact M.m1 s hs
    · rw [hs, lnew]; exact Nat.le_refl _
  case m2 =>
    intro t ht
    rw [lold kx]
    rcases List.mem_append.mp ht with ht | ht
    · rw [lold (M.i.sub t ht)]; exact M.m2 t ht
    · rw [List.mem_singleton.mp ht, lnew]; omega
  case cnt =>
    obtain ⟨k, h1, h2, h3⟩ := M.cnt
    refine ⟨k + 1, by rw [List.length_append]; show k + 1 ≤ d.length + 1; omega, by rw [List.length_append, h2]; rfl, ?_⟩
    rw [pot_snoc M.i.sub h, h3, lold kx, List.length_append]
    show B + k * wt (6 - ln f x) + wt (7 - (ln f x + 1)) = B + (k + 1) * wt (6 - ln f x)
    rw [show 7 - (ln f x + 1) = 6 - ln f x by omega, Nat.add_mul, Nat.one_mul, Nat.add_assoc]
/-- the turn's end -/
theorem QM.fin {x : Sta} {N B : Nat} (M : QM P s0 goal x N B f line P) (hP : P.length ≤ 6) : QA P s0 goal f line ∧ f.length + pot f line + 1 ≤ N + (wt (7 - ln f x) + B) ∧ pot f line < wt (7 - ln f x) + B := by
  refine ⟨{ M.i with done := fun s hs n => ?_ }, ?_⟩
  · obtain ⟨h1, e, h2, h3⟩ := M.i.done s hs n
    rcases h2 with ⟨_, rfl⟩ | ⟨_, rfl⟩
    · exact ⟨h1, _, rfl, h3⟩
    · exact ⟨h1, _, rfl, h3⟩
  · obtain ⟨k, h1, h2, h3⟩ := M.cnt
    have h6 := M.l6
    have e : 7 - ln f x = (6 - ln f x) + 1 := by omega
    have hk : k ≤ 6 := Nat.le_trans h1 hP
    rw [e, h2, h3]
    show N + k + (B + k * wt (6 - ln f x)) + 1 ≤ N + (1 + 6 * (1 + wt (6 - ln f x)) + B) ∧ B + k * wt (6 - ln f x) < 1 + 6 * (1 + wt (6 - ln f x)) + B
    have : k * wt (6 - ln f x) ≤ 6 * wt (6 - ln f x) := Nat.mul_le_mul_right _ hk
    omega
/-- .. where a goal stands within six steps -/
theorem QA.head (I : QA P s0 goal f line) {q : List Cmp} (hq : ∀ c ∈ q, c ∈ P) (hg : goal (wlk s0 q)) : ∃ x rest, line = x :: rest ∧ ln f x ≤ q.length := by
  cases line with
  | nil =>
    obtain ⟨h, _⟩ := I.least (L := 0) (fun s m => by cases m) hq hg
    exact absurd rfl h
  | cons x rest =>
    obtain ⟨_, h⟩ := I.least (L := ln f x) (fun s m => by
      rcases List.mem_cons.mp m with e | m
      · rw [e]; exact Nat.le_refl _
      · exact (List.pairwise_cons.mp I.ord).1 s m) hq hg
    exact ⟨x, rest, rfl, h⟩
end
/-- p is a shortest lot of comparers behind which a net sorts all -/
structure Best (n : Nat) (net p : List Cmp) : Prop where
  val : Valid n p
  srt : SortsM n (net ++ p)
  min : ∀ q, Valid n q → SortsM n (net ++ q) → p.length ≤ q.length
abbrev goalOf (s : Sta) : Prop := ascAll s = true
theorem QA.best {n : Nat} {net : List Cmp} {f : List (Sta × List Cmp)} {x : Sta} {rest : List Sta} (I : QA (pairs n) (img (marks n) net) goalOf f (x :: rest)) (hx : ascAll x = true) : Best n net (pathOf f x) := by
  have kx : x ∈ keys f := I.sub x List.mem_cons_self
  obtain ⟨h1, h2⟩ := I.val _ (find_at kx)
  refine ⟨h2, ?_, fun q hq hs => ?_⟩
  · have h1 : wlk (img (marks n) net) (pathOf f x) = x := h1
    rw [wlk_img] at h1
    rw [← goalM, h1]
    exact hx
  · obtain ⟨y, r, e, h⟩ := I.head hq (show ascAll (wlk (img (marks n) net) q) = true by rw [wlk_img]; exact goalM.mpr hs)
    injection e with e1 e2
    subst e1
    exact h
theorem Best.len {n : Nat} {net p p' : List Cmp} (h : Best n net p) (h' : Best n net p') : p.length = p'.length :=
  Nat.le_antisymm (h.min _ h'.val h'.srt) (h'.min _ h.val h.srt)
/-! ### the search by levels -/
structure LI (P : List Cmp) (s0 g : Sta) (met line : List Sta) (k : Nat) : Prop where
  at_ : ∀ s ∈ line, ∃ q, (∀ c ∈ q, c ∈ P) ∧ q.length = k ∧ wlk s0 q = s
  root : s0 ∈ met
  sub : ∀ s ∈ line, s ∈ met
  done : ∀ s ∈ met, s ∉ line → s ≠ g ∧ ∀ c ∈ P, stp s c ∈ met
  low : ∀ q, (∀ c ∈ q, c ∈ P) → q.length < k → wlk s0 q ∈ met ∧ wlk s0 q ∉ line
  b1 : met.length ≤ 7 ^ k
  b2 : line.length ≤ 7 ^ k
/-- within a turn: later is what came, D what is done -/
structure LM (P : List Cmp) (s0 : Sta) (met0 line met later : List Sta) (k : Nat) (D : Sta → Cmp → Prop) : Prop where
  at_ : ∀ s ∈ later, ∃ q, (∀ c ∈ q, c ∈ P) ∧ q.length = k + 1 ∧ wlk s0 q = s
  met_ : ∀ s, s ∈ met ↔ s ∈ met0 ∨ s ∈ later
  new : ∀ s ∈ later, s ∉ met0
  done : ∀ s c, D s c → stp s c ∈ met
  len : met.length = met0.length + later.length
section
variable {P : List Cmp} {s0 g : Sta} {met0 met line later : List Sta} {k : Nat} {D : Sta → Cmp → Prop}
theorem LI.start : LI P s0 g [s0] [s0] 0 where
  at_ := fun s m => ⟨[], (fun c m' => absurd m' (by simp)), rfl, (List.mem_singleton.mp m).symm⟩
  root := List.mem_singleton.mpr rfl
  sub := fun s m => m
  done := fun s m n => absurd m n
  low := fun q _ h => absurd h (Nat.not_lt_zero _)
  b1 := Nat.le_refl 1
  b2 := Nat.le_refl 1
theorem LM.start : LM P s0 met line met [] k fun _ _ => False where
  at_ := fun s m => by cases m
  met_ := fun s => by simp
  new := fun s m => by cases m
  done := fun s c h => h.elim
  len := rfl
theorem LM.mono {D' : Sta → Cmp → Prop} (M : LM P s0 met0 line met later k D) (h : ∀ s c, D' s c → D s c) : LM P s0 met0 line met later k D' :=
  { M with done := fun s c z => M.done s c (h s c z) }
theorem LM.old {s : Sta} {c : Cmp} (M : LM P s0 met0 line met later k D) (h : stp s c ∈ met) : LM P s0 met0 line met later k fun s' c' => D s' c' ∨ (s' = s ∧ c' = c) :=
  { M with
    done := fun s' c' z => by
      rcases z with z | ⟨z1, z2⟩
      · exact M.done _ _ z
      · rw [z1, z2]
        exact h }
theorem LM.add {s : Sta} {c : Cmp} (I : LI P s0 g met0 line k) (M : LM P s0 met0 line met later k D) (hs : s ∈ line) (hc : c ∈ P) (h : stp s c ∉ met) : LM P s0 met0 line (met ++ [stp s c]) (later ++ [stp s c]) k fun s' c' => D s' c' ∨ (s' = s ∧ c' = c) where
  at_ := fun t m => by
    rcases List.mem_append.mp m with m | m
    · exact M.at_ t m
    · obtain rfl := List.mem_singleton.mp m
      obtain ⟨q, h1, h2, h3⟩ := I.at_ s hs
      refine ⟨q ++ [c], fun c' m' => ?_, by rw [List.length_append, h2]; rfl, by rw [wlk_snoc, h3]⟩
      rcases List.mem_append.mp m' with m' | m'
      · exact h1 c' m'
      · rw [List.mem_singleton.mp m']; exact hc
  met_ := fun t => by
    rw [List.mem_append, List.mem_append, M.met_ t, or_assoc]
  new := fun t m => by
    rcases List.mem_append.mp m with m | m
    · exact M.new t m
    · obtain rfl := List.mem_singleton.mp m
      exact fun z => h ((M.met_ _).mpr (.inl z))
  done := fun s' c' z => by
    rcases z with z | ⟨rfl, rfl⟩
    · exact List.mem_append.mpr (.inl (M.done _ _ z))
    · exact List.mem_append.mpr (.inr (List.mem_singleton.mpr rfl))
  len := by rw [List.length_append, List.length_append, M.len, Nat.add_assoc]
theorem LM.fin (I : LI P s0 g met0 line k) (hP : P.length ≤ 6) (hg : g ∉ line) (M : LM P s0 met0 line met later k D) (hD : ∀ s ∈ line, ∀ c ∈ P, D s c) (hl : later.length ≤ line.length * 6) : LI P s0 g met later (k + 1) where
  at_ := M.at_
  root := (M.met_ _).mpr (.inl I.root)
  sub := fun s m => (M.met_ _).mpr (.inr m)
  done := fun s m n => by
    have m0 : s ∈ met0 := ((M.met_ s).mp m).resolve_right n
    by_cases h : s ∈ line
    · exact ⟨fun e => hg (e ▸ h), fun c hc => M.done s c (hD s h c hc)⟩
    · obtain ⟨h1, h2⟩ := I.done s m0 h
      exact ⟨h1, fun c hc => (M.met_ _).mpr (.inl (h2 c hc))⟩
  low := fun q hq hk => by
    have m0 : wlk s0 q ∈ met0 := by
      by_cases e : q.length < k
      · exact (I.low q hq e).1
      · by_cases z : q = []
        · subst z; exact I.root
        · have eq := (List.dropLast_concat_getLast z).symm
          have hp : 0 < q.length := List.length_pos_iff.mpr z
          obtain ⟨h1, h2⟩ := I.low q.dropLast (fun c m => hq c (List.dropLast_subset q m)) (by rw [List.length_dropLast]; omega)
          rw [eq, wlk_snoc]
          exact (I.done _ h1 h2).2 _ (hq _ (List.getLast_mem z))
    exact ⟨(M.met_ _).mpr (.inl m0), fun m => M.new _ m m0⟩
  b1 := by
    have h1 := I.b1
    have h2 := I.b2
    rw [M.len, Nat.pow_succ]
    omega
  b2 := by
    have h2 := I.b2
    rw [Nat.pow_succ]
    omega
/-- the levels end where a goal stands -/
theorem LI.le (I : LI P s0 g met line k) {q : List Cmp} (hq : ∀ c ∈ q, c ∈ P) (hg : wlk s0 q = g) : k ≤ q.length := by
  rcases Nat.lt_or_ge q.length k with h | h
  · obtain ⟨h1, h2⟩ := I.low q hq h
    exact absurd hg (I.done _ h1 h2).1
  · exact h
end
/-- the levels' number is the shortest lot's length -/
theorem LI.best {n : Nat} (F : Facts n) {net p : List Cmp} (hn : Valid n net) {met line : List Sta} {k : Nat} (I : LI (pairs n) (img (perms n) net) [plain n] met line k) (hg : [plain n] ∈ line) (hp : Best n net p) : k = p.length := by
  refine Nat.le_antisymm (I.le hp.val ?_) ?_
  · rw [wlk_img]
    exact (goalP F).mpr ((sorts_iff F (valid_app hn hp.val)).mp hp.srt)
  · obtain ⟨q, hq, e, h⟩ := I.at_ _ hg
    rw [wlk_img] at h
    rw [← e]
    exact hp.min q hq ((sorts_iff F (valid_app hn hq)).mpr ((goalP F).mp h))
theorem bub_goalM {n : Nat} (F : Facts n) {net : List Cmp} (hn : Valid n net) : ascAll (wlk (img (marks n) net) (bub n)) = true := by
  rw [wlk_img]; exact goalM.mpr (bub_sorts F hn)
theorem bub_goalP {n : Nat} (F : Facts n) {net : List Cmp} (hn : Valid n net) : wlk (img (perms n) net) (bub n) = [plain n] := by
  rw [wlk_img]; exact (goalP F).mpr ((sorts_iff F (valid_app hn F.bval)).mp (bub_sorts F hn))
/-! ### the written cases -/
def allSeq (P : List Cmp) : Nat → List (List Cmp)
  | 0 => [[]]
  | k + 1 => P.flatMap fun c => (allSeq P k).map (c :: ·)
theorem mem_allSeq {P : List Cmp} : ∀ (q : List Cmp), (∀ c ∈ q, c ∈ P) → q ∈ allSeq P q.length
  | [], _ => List.mem_singleton.mpr rfl
  | c :: q, h => List.mem_flatMap.mpr ⟨c, h c List.mem_cons_self, List.mem_map.mpr ⟨q, mem_allSeq q fun c' m => h c' (List.mem_cons_of_mem _ m), rfl⟩⟩
def sortsB (n : Nat) (q : List Cmp) : Bool := (marks n).all fun m => asc (thr m q)
theorem sortsB_iff {n : Nat} {q : List Cmp} : sortsB n q = true ↔ SortsM n q := by unfold sortsB SortsM; rw [List.all_eq_true]
def needs (n : Nat) (net : List Cmp) (k : Nat) : Bool := (List.range k).all (fun j => (allSeq (pairs n) j).all fun q => !sortsB n (net ++ q)) && (allSeq (pairs n) k).any fun q => sortsB n (net ++ q) && q.all fun c => decide (c ∈ pairs n)
theorem needs_len {n : Nat} {net p : List Cmp} {k : Nat} (h : needs n net k = true) (hp : Best n net p) : p.length = k := by
  unfold needs at h
  obtain ⟨h1, h2⟩ := Bool.and_eq_true_iff.mp h
  rw [List.all_eq_true] at h1
  obtain ⟨q, hq, h3⟩ := List.any_eq_true.mp h2
  obtain ⟨h3, h4⟩ := Bool.and_eq_true_iff.mp h3
  have hlen : ∀ (k : Nat) (q : List Cmp), q ∈ allSeq (pairs n) k → q.length = k := by
    intro k
    induction k with
    | zero => intro q m; rw [List.mem_singleton.mp m]; rfl
    | succ k ih =>
      intro q m
      obtain ⟨c, _, m⟩ := List.mem_flatMap.mp m
      obtain ⟨q', m', rfl⟩ := List.mem_map.mp m
      rw [List.length_cons, ih q' m']
  refine Nat.le_antisymm ?_ ?_
  · have := hp.min q (fun c m => by
      have z := List.all_eq_true.mp h4 c m
      simpa using z) (sortsB_iff.mp h3)
    rw [hlen k q hq] at this
    exact this
  · rcases Nat.lt_or_ge p.length k with z | z
    · have y := List.all_eq_true.mp (h1 _ (List.mem_range.mpr z)) p (mem_allSeq p hp.val)
      rw [sortsB_iff.mpr hp.srt] at y
      cases y
    · exact z
def four : List Cmp := [(0, 1), (2, 3), (0, 2), (1, 3), (1, 2)]
theorem needs_a : needs 4 (four.take 3) 2 = true := by decide +kernel
theorem needs_b : needs 4 four 0 = true := by decide +kernel
theorem needs_c : needs 3 [] 3 = true := by decide +kernel
theorem needs_d : needs 2 [] 1 = true := by decide +kernel
theorem needs_e : needs 1 [] 0 = true := by decide +kernel
theorem needs_f : needs 2 [(0, 1)] 0 = true := by decide +kernel
theorem needs_g : needs 4 (four.take 1) 4 = true := by decide +kernel
theorem needs_h : needs 3 [(0, 1), (0, 2)] 1 = true := by decide +kernel
/-- the empty tuple, the one comparer of two things -/
theorem best_one {p : List Cmp} (h : Best 2 [] p) : p = [(0, 1)] := by
  have e := needs_len needs_d h
  match p, e, h.val with
  | [c], _, v =>
    obtain ⟨a, b⟩ := c
    obtain ⟨h1, h2⟩ := mem_pairs.mp (v _ List.mem_cons_self)
    have e1 : a = 0 := by simp only at h1 h2; omega
    have e2 : b = 1 := by simp only at h1 h2; omega
    rw [e1, e2]
theorem best_none {p : List Cmp} (h : Best 1 [] p) : p = [] := List.length_eq_zero_iff.mp (needs_len needs_e h)
end WOm

set_option Elab.async false
set_option linter.all false
set_option maxRecDepth 100000
set_option maxHeartbeats 4000000
namespace WO
open PySem PySem.Spec PyProof.Rows L2 WOm
/-! ### the text -/
def topS (i : Nat) : Stmt := PySem.Challenge.pw_wiredorders_k58_whole_fewest_comparers_m.main.body.getD i (.Pass ⟨0, 0, 0, 0⟩)
/-- a def of the top -/
structure DefOf (K : PySem.W.Frag) (mg : Str → Option Value) (x : Str) (st : Stmt) : Prop where
  ex : ∃ (f : Addr) (fd : FuncData), FunD K x x (defArgs st) (defBody st) (defScope st) [] [] f fd ∧ mg x = some (.ref f)
/-- an own exception class without an __init__ of its own -/
structure ExcOf (K : PySem.W.Frag) (mg : Str → Option Value) (x : Str) : Prop where
  g : mg x = some (.ref (He.ga K x))
  q : PySem.W.excIn K (He.ga K x) He.veBase "ValueError.__new__" = true
  k : PySem.W.keepIn K (.ref (He.ga K x)) = true
  s : PySem.W.subIn K (.ref (He.ga K x)) (.type "BaseException") = some true
  t : PySem.W.typeIn K (.ref (He.ga K x)) = some (.type "type")
/-- what the top has left -/
structure Tx (K : PySem.W.Frag) (mg : Str → Option Value) : Prop where
  isinst : mg "isinstance" = none
  int_ : mg "int" = none
  bool_ : mg "bool" = none
  tuple_ : mg "tuple" = none
  len_ : mg "len" = none
  all_ : mg "all" = none
  range_ : mg "range" = none
  sorted_ : mg "sorted" = none
  zip_ : mg "zip" = none
  set_ : mg "set" = none
  abs_ : mg "abs" = none
  list_ : mg "list" = none
  verr : mg "ValueError" = none
  things : ∃ t, mg "THINGS" = some (.int 30 t)
  comparers : ∃ t, mg "COMPARERS" = some (.int 120 t)
  marked : ∃ t, mg "MARKED" = some (.int 10 t)
  short : ∃ t, mg "SHORT" = some (.int 4 t)
  e_many : ExcOf K mg "InvalidMany"
  e_net : ExcOf K mg "InvalidNet"
  d_is_whole : DefOf K mg "is_whole" (topS 12)
  d_need_many : DefOf K mg "need_many" (topS 13)
  d_need_few : DefOf K mg "need_few" (topS 14)
  d_fits_net : DefOf K mg "fits_net" (topS 18)
  d_need_net : DefOf K mg "need_net" (topS 19)
  d_compared : DefOf K mg "compared" (topS 20)
  d_behind_net : DefOf K mg "behind_net" (topS 21)
  d_all_marks : DefOf K mg "all_marks" (topS 22)
  d_is_sorted_row : DefOf K mg "is_sorted_row" (topS 23)
  d_unsorted_by : DefOf K mg "unsorted_by" (topS 24)
  d_need_marked : DefOf K mg "need_marked" (topS 25)
  d_is_sorter : DefOf K mg "is_sorter" (topS 26)
  d_pairs_among : DefOf K mg "pairs_among" (topS 29)
  d_rows_behind : DefOf K mg "rows_behind" (topS 30)
  d_shortest_more : DefOf K mg "shortest_more" (topS 31)
  d_need_short : DefOf K mg "need_short" (topS 32)
  d_fewest_more : DefOf K mg "fewest_more" (topS 33)
  d_more_for : DefOf K mg "more_for" (topS 34)
  d_bucket : DefOf K mg "_law_bucket" (topS 36)
  d_scoop : DefOf K mg "_law_scoop" (topS 37)
  d_drawn_net : DefOf K mg "_law_drawn_net" (topS 38)
  d_through : DefOf K mg "_law_through" (topS 39)
  d_every : DefOf K mg "_law_every" (topS 40)
  d_longer : DefOf K mg "_law_longer" (topS 41)
  d_names : DefOf K mg "_law_names" (topS 42)
  d_word : DefOf K mg "_law_word" (topS 43)
  d_bad_nets : DefOf K mg "_law_bad_nets" (topS 44)
  d_far : DefOf K mg "_law_far" (topS 45)
  d_right : DefOf K mg "_law_right" (topS 46)
  d_refused : DefOf K mg "_law_refused" (topS 47)
  d_law : DefOf K mg "law" (topS 48)
/-- how positional arguments bind -/
abbrev BindT (x : Str) (st : Stmt) (ps : List Str) : Prop := ∀ (kV doc pm : Value) (an : Option Addr) (cdv ct : Value) (us : List Value), us.length = ps.length → bindArgs (PySem.W.fnOf x x (defArgs st) (defBody st) (defScope st) .none kV doc pm an cdv ct) ⟨us, []⟩ = pure (ps.zip us)
section
variable {P : Program} {w : World} {K : PySem.W.Frag} {mg : Str → Option Value} {base : Heap}
/-- a def from which nothing is raised, callable by its name -/
theorem cal_of {x : Str} {st : Stmt} {N ps : List Str} {k : Nat} {sp : Sp} (D : DefOf K mg x st) (b : BindT x st ps) (S : FnScope N ps (defScope st)) (len : ∀ vs H Q E, sp vs H Q E → vs.length = ps.length)
    (hbody : ∀ (f : Addr) (cdv : Value) (A : Around) (outer : List Env) (s : Shared) (H : Hp) (vs : List V) (Q : VK) (E : XK), Room k (A.deeper (envOfC x (defScope st) s.heap.objs.size f cdv)) → sp vs H Q E →
      ∃ t, PSs (cxOf CX0 P w K mg base N x (defScope st) f cdv A outer s H E).nox (defBody st) t ∧ t { nx := fun _ H' => Q .non H', rt := Q } (L2.start N vs) H) : C8.Cal P w K mg base (k + 1) x sp [] := by
  obtain ⟨f, fd, F, hm⟩ := D.ex
  refine ⟨f, fd, ps, [], F.ok S len fun cdv A outer s H vs Q E hr hsp => ?_, hm, F.kp, F.bindsN b, .nil⟩
  obtain ⟨t, h, q⟩ := hbody f cdv A outer s H vs Q E hr hsp
  exact ⟨t, h.nox, q⟩
/-- a def that may raise (an own error, its context None) -/
structure CalX (P : Program) (w : World) (K : PySem.W.Frag) (mg : Str → Option Value) (base : Heap) (k : Nat) (x : Str) (sp : Sp) : Prop where
  ex : ∃ (f : Addr) (fd : FuncData) (ps : List Str), FnOk P w K mg base (L2N.CX P w) k f fd ps sp ∧ mg x = some (.ref f) ∧ PySem.W.keepIn K (.ref f) = true ∧ Binds K fd ps []
theorem calX_of {x : Str} {st : Stmt} {N ps : List Str} {k : Nat} {sp : Sp} (D : DefOf K mg x st) (b : BindT x st ps) (S : FnScope N ps (defScope st)) (len : ∀ vs H Q E, sp vs H Q E → vs.length = ps.length)
    (hbody : ∀ (f : Addr) (cdv : Value) (A : Around) (outer : List Env) (s : Shared) (H : Hp) (vs : List V) (Q : VK) (E : XK), Room k (A.deeper (envOfC x (defScope st) s.heap.objs.size f cdv)) → sp vs H Q E →
      ∃ t, PSs (cxOf (L2N.CX P w) P w K mg base N x (defScope st) f cdv A outer s H E) (defBody st) t ∧ t { nx := fun _ H' => Q .non H', rt := Q } (L2.start N vs) H) : CalX P w K mg base (k + 1) x sp := by
  obtain ⟨f, fd, F, hm⟩ := D.ex
  exact ⟨f, fd, ps, F.ok S len fun cdv A outer s H vs Q E hr hsp => hbody f cdv A outer s H vs Q E hr hsp, hm, F.kp, F.bindsN b⟩
end
/-- a call of a def that may raise -/
theorem pe_cx {X : Cx} {k j : Nat} {x : Str} {sp : Sp} {p pos : Pos} {e : Expr} {es : List Expr} {t : TA} {W : WX} (c : CalX X.prog X.w X.K X.mg X.base k x sp) (hr : Room j X.A) (hk : k ≤ j) (hg : Gl X x) (tk : L2N.Takes X W) (ha : PA X (e :: es) t)
    (hdb : (x == ("__debug__" : Str)) = false := by decide) (he : starEach (e :: es) X.env = (false, eval e X.env) :: starEach es X.env := by rfl) (hpl : (backTo pos (starEach es X.env)).any (·.1) = false := by rfl) :
    PE X (.Call (.Name x p) (e :: es) [] pos) (tCallS sp (WE W) t) := by
  obtain ⟨f, fd, ps, F, hm, kp, b⟩ := c.ex
  exact pe_callS F (hr.mono hk) hg hm kp b (fun σ => L2N.passAt tk σ) ha hdb he hpl
/-! ### is_whole -/
/-- whether a value is a whole number within bounds -/
def whole (v : V) (lo hi : Int) : Bool := match v with
  | .int i => decide (lo ≤ i) && decide (i ≤ hi)
  | _ => false
/-- a value with a known type that is no subclass of int, or an int, or a bool -/
def Plain (K : PySem.W.Frag) (H : Hp) (v : V) : Prop := ∃ n : String, TyX K H v (.type n) ∧ ∃ b1 b2, PySem.W.kitOne K (.type n) (.type "int") = some b1 ∧ PySem.W.kitOne K (.type n) (.type "bool") = some b2 ∧ ((b1 = true ∧ b2 = false ∧ ∃ i, v = .int i) ∨ (b1 = true ∧ b2 = true ∧ ∃ c, v = .bl c) ∨ (b1 = false ∧ ∀ i, v ≠ .int i))
def spWhole (K : PySem.W.Frag) : Sp := fun vs H Q _ => ∃ (v : V) (lo hi : Int), vs = [v, .int lo, .int hi] ∧ Plain K H v ∧ Q (.bl (whole v lo hi)) H
section
variable {P : Program} {w : World} {K : PySem.W.Frag} {mg : Str → Option Value} {base : Heap}
theorem sc_whole : FnScope ["value", "low", "high"] ["value", "low", "high"] (defScope (topS 12)) := C8.fnScope_by (by decide +kernel)
theorem c_whole (T : Tx K mg) : C8.Cal P w K mg base 1 "is_whole" (spWhole K) [] := by
  refine cal_of T.d_is_whole (fun _ _ _ _ _ _ us hl => match us, hl with | [_, _, _], _ => rfl) sc_whole (fun vs H Q E h => ?_) (fun f cdv A outer s H vs Q E hr h => ?_)
  · obtain ⟨v, lo, hi, rfl, _⟩ := h
    rfl
  · obtain ⟨v, lo, hi, rfl, hp, q⟩ := h
    refine ⟨_, pss_one (ps_ret (pe_and (pe_callB call_isi (by rfl) T.isinst (by decide +kernel) (pa_cons (pv 0) (pa_cons (pe_bltn (v := .ty "int") (by rfl) T.int_ (by decide +kernel) rfl) pa_nil)))
      (pe_and (pe_not (pe_callB call_isi (by rfl) T.isinst (by decide +kernel) (pa_cons (pv 0) (pa_cons (pe_bltn (v := .ty "bool") (by rfl) T.bool_ (by decide +kernel) rfl) pa_nil))))
        (pe_one (pe_chain op_le op_le (pv 1) (pv 0) (pv 2)))))), ?_⟩
    obtain ⟨n, ty, b1, b2, k1, k2, h⟩ := hp
    refine ⟨v, rfl, v, .ty "int", _, _, b1, rfl, .ty "int", ty, k1, b1, rfl, ?_⟩
    rcases h with ⟨rfl, rfl, i, rfl⟩ | ⟨rfl, rfl, c, rfl⟩ | ⟨rfl, hn⟩
    · refine iteT ⟨_, rfl, _, .ty "bool", _, _, false, rfl, .ty "bool", ty, k2, false, rfl, true, rfl, iteT ?_⟩
      refine ⟨_, rfl, _, rfl, _, _, rfl, rfl, _, rfl, ?_⟩
      show if decide (lo ≤ i) = true then _ else _
      have e : whole (.int i) lo hi = (decide (lo ≤ i) && decide (i ≤ hi)) := rfl
      rw [e] at q
      by_cases hlo : lo ≤ i
      · rw [decide_eq_true hlo] at q ⊢
        exact iteT ⟨_, rfl, _, _, rfl, rfl, q⟩
      · rw [decide_eq_false hlo] at q ⊢
        exact iteF q
    · exact iteT ⟨_, rfl, _, .ty "bool", _, _, true, rfl, .ty "bool", ty, k2, true, rfl, false, rfl, iteF q⟩
    · refine iteF ?_
      have e : whole v lo hi = false := by
        cases v with
        | int i => exact absurd rfl (hn i)
        | _ => rfl
      rw [e] at q
      exact q
end
end WO

set_option Elab.async false
set_option linter.all false
set_option maxRecDepth 100000
set_option maxHeartbeats 4000000
namespace WO
open PySem PySem.Spec PyProof.Rows L2 WOm
/-! ### words -/
theorem same_upd {H : Hp} {p : Addr} {o : HO} (h : H p = none) : Same H (upd H p o) := fun b x e => by
  rw [upd_ne (ne_of_none e h)]
  exact e
theorem newO {H : Hp} {o : HO} {Q : VK} (h : ∀ H' p, Same H H' → H p = none → H' p = some o → Q (.ref p) H') : ∀ p, H p = none → Q (.ref p) (upd H p o) := fun p n => h _ p (same_upd n) n upd_same
theorem few {n : Nat} (h : n ≤ 10000000) : n ≤ sizeLine := Nat.le_trans h (by decide)
theorem few' {n : Nat} (h : n ≤ 10000000) : n < sizeLine := Nat.lt_of_le_of_lt h (by decide)
theorem few0 : 0 ≤ sizeLine := by decide
theorem few1 : 1 ≤ sizeLine := by decide
theorem few2 : 2 ≤ sizeLine := by decide
theorem few3 : 3 ≤ sizeLine := by decide
abbrev rv (r : Rw) : List V := r.map V.int
/-- the tuple of a row's ints at a; of a comparer at p -/
abbrev RowAt (H : Hp) (a : Addr) (r : Rw) : Prop := H a = some (.tup (rv r))
abbrev CmpAt (H : Hp) (a : Addr) (c : Cmp) : Prop := H a = some (.tup [.int c.1, .int c.2])
section
variable {X : Cx}
def rCatS : R2 := fun x y H Q => ∃ a b xs ys, x = .ref a ∧ y = .ref b ∧ H a = some (.tup xs) ∧ H b = some (.tup ys) ∧ xs.length + ys.length ≤ sizeLine ∧ ∀ H' p, Same H H' → H' p = some (.tup (xs ++ ys)) → Q (.ref p) H'
theorem op_catS : OpR X (binaryOp .Add) rCatS := by
  intro pins s σ H x y v u Q I rx ry h
  obtain ⟨a, b, xs, ys, ea, eb, ha, hb, hz, q⟩ := h
  refine op_catA pins s σ H x y v u Q I rx ry ⟨a, b, xs, ys, ea, eb, SqT.of ha, SqT.of hb, hz, fun e => q H b (Same.refl H) ?_, fun _ e => q H a (Same.refl H) ?_, fun _ _ p np => q _ p (same_upd np) upd_same⟩
  · rw [e]; exact hb
  · rw [e, List.append_nil]; exact ha
def rSlS : V → Option Int → Option Int → Hp → VK → Prop := fun x lo hi H Q => ∃ a xs, x = .ref a ∧ H a = some (.tup xs) ∧ ∀ H' p, Same H H' → H' p = some (.tup (cutV xs lo hi)) → Q (.ref p) H'
theorem cut_whole {xs : List V} {lo hi : Option Int} (h : HT.sIx xs.length 0 lo = 0 ∧ HT.sIx xs.length xs.length hi = xs.length) : cutV xs lo hi = xs := by
  unfold cutV
  rw [h.1, h.2, List.drop_zero, Nat.sub_zero, List.take_length]
theorem sl_tupS : SlR X rSlS := by
  intro pins s σ H x v vl vu lo hi sl Q I rx hs pl pu h
  obtain ⟨a, xs, ea, ha, q⟩ := h
  refine sl_tupA pins s σ H x v vl vu lo hi sl Q I rx hs pl pu ⟨a, xs, ea, SqT.of ha, fun w => q H a (Same.refl H) ?_, fun _ p np => q _ p (same_upd np) upd_same⟩
  rw [cut_whole w]; exact ha
end
theorem cut_to (xs : List V) (b : Nat) : cutV xs none (some (b : Int)) = xs.take b := by
  unfold cutV
  rw [HT.sIx_none, HT.sIx_nat, List.drop_zero, Nat.sub_zero]
  rcases Nat.le_total b xs.length with h | h
  · rw [Nat.min_eq_left h]
  · rw [Nat.min_eq_right h, List.take_length, List.take_of_length_le h]
theorem cut_from (xs : List V) (a : Nat) : cutV xs (some (a : Int)) none = xs.drop a := by
  unfold cutV
  rw [HT.sIx_none, HT.sIx_nat]
  rcases Nat.le_total a xs.length with h | h
  · rw [Nat.min_eq_left h]
    exact List.take_of_length_le (by rw [List.length_drop]; exact Nat.le_refl _)
  · rw [Nat.min_eq_right h, List.drop_length, List.drop_of_length_le h, List.take_nil]
theorem cut_mid (xs : List V) (a b : Nat) (ha : a ≤ b) (hb : b ≤ xs.length) : cutV xs (some (a : Int)) (some (b : Int)) = (xs.drop a).take (b - a) := by
  unfold cutV
  rw [HT.sIx_nat, HT.sIx_nat, Nat.min_eq_left (Nat.le_trans ha hb), Nat.min_eq_left hb]
theorem swap_eq {α : Type} (r : List α) (x y : α) (l h : Nat) (hl : l < h) (hh : h < r.length) :
    (((r.take l ++ [x]) ++ (r.drop (l + 1)).take (h - (l + 1))) ++ [y]) ++ r.drop (h + 1) = (r.set l x).set h y := by
  obtain ⟨A, B, C, u, v, hA, hB, rfl⟩ : ∃ (A B C : List α) (u v : α), A.length = l ∧ B.length = h - (l + 1) ∧ r = A ++ u :: (B ++ v :: C) := by
    refine ⟨r.take l, (r.drop (l + 1)).take (h - (l + 1)), r.drop (h + 1), r[l], r[h], by rw [List.length_take]; omega, by rw [List.length_take, List.length_drop]; omega, ?_⟩
    have a1 : r.drop h = r[h] :: r.drop (h + 1) := List.drop_eq_getElem_cons hh
    have a2 : r.drop (l + 1) = (r.drop (l + 1)).take (h - (l + 1)) ++ r.drop h := by
      have := (List.take_append_drop (h - (l + 1)) (r.drop (l + 1))).symm
      rw [List.drop_drop, show l + 1 + (h - (l + 1)) = h by omega] at this
      exact this
    have a3 : r.drop l = r[l] :: r.drop (l + 1) := List.drop_eq_getElem_cons (by omega)
    rw [← a1, ← a2, ← a3, List.take_append_drop]
  have t1 : (A ++ u :: (B ++ v :: C)).take l = A := List.take_left' hA
  have d1 : (A ++ u :: (B ++ v :: C)).drop (l + 1) = B ++ v :: C := by
    rw [show A ++ u :: (B ++ v :: C) = (A ++ [u]) ++ (B ++ v :: C) by simp]
    exact List.drop_left' (by rw [List.length_append, hA]; rfl)
  have d2 : (A ++ u :: (B ++ v :: C)).drop (h + 1) = C := by
    rw [show A ++ u :: (B ++ v :: C) = (A ++ u :: (B ++ [v])) ++ C by simp]
    exact List.drop_left' (by rw [List.length_append, List.length_cons, List.length_append, hA, hB]; show l + (h - (l + 1) + 1 + 1) = h + 1; omega)
  have t2 : (B ++ v :: C).take (h - (l + 1)) = B := List.take_left' hB
  have s1 : (A ++ u :: (B ++ v :: C)).set l x = A ++ x :: (B ++ v :: C) := by
    rw [List.set_append_right _ _ (by omega), show l - A.length = 0 by omega]
    rfl
  have s2 : (A ++ x :: (B ++ v :: C)).set h y = A ++ x :: (B ++ y :: C) := by
    rw [List.set_append_right _ _ (by omega), show h - A.length = (h - (l + 1)) + 1 by omega, List.set_cons_succ, List.set_append_right _ _ (by omega), show h - (l + 1) - B.length = 0 by omega]
    rfl
  rw [t1, d1, d2, t2, s1, s2]
  simp
theorem rv_set (r : Rw) (i : Nat) (x : Int) : rv (r.set i x) = (rv r).set i (.int x) := List.map_set
theorem rv_at {r : Rw} {i : Nat} (h : i < r.length) : (rv r)[i]? = some (.int (r.getD i 0)) := by
  rw [List.getElem?_map, List.getD_eq_getElem?_getD, List.getElem?_eq_getElem h]
  rfl
theorem cmp_swap {r : Rw} {c : Cmp} (h1 : c.1 < c.2) (h2 : c.2 < r.length) (h : ¬ r.getD c.1 0 ≤ r.getD c.2 0) :
    (((rv r).take c.1 ++ [V.int (r.getD c.2 0)]) ++ ((rv r).drop (c.1 + 1)).take (c.2 - (c.1 + 1)) ++ [V.int (r.getD c.1 0)]) ++ (rv r).drop (c.2 + 1) = rv (cmp r c) := by
  rw [swap_eq _ _ _ _ _ h1 (by rw [List.length_map]; exact h2)]
  unfold cmp
  rw [if_neg h, rv_set, rv_set]
theorem rv_len (r : Rw) : (rv r).length = r.length := List.length_map ..
/-! ### compared -/
def spCompared : Sp := fun vs H Q _ => ∃ (a p : Addr) (r : Rw) (c : Cmp), vs = [.ref a, .ref p] ∧ RowAt H a r ∧ CmpAt H p c ∧ c.1 < c.2 ∧ c.2 < r.length ∧ r.length ≤ 1000 ∧ ∀ H' b, Same H H' → RowAt H' b (cmp r c) → Q (.ref b) H'
section
variable {P : Program} {w : World} {K : PySem.W.Frag} {mg : Str → Option Value} {base : Heap}
theorem sc_compared : FnScope ["row", "pair", "low", "high"] ["row", "pair"] (defScope (topS 20)) := C8.fnScope_by (by decide +kernel)
theorem c_compared (T : Tx K mg) : C8.Cal P w K mg base 1 "compared" spCompared [] := by
  refine cal_of T.d_compared (fun _ _ _ _ _ _ us hl => match us, hl with | [_, _], _ => rfl) sc_compared (fun vs H Q E h => ?_) (fun f cdv A outer s H vs Q E hr h => ?_)
  · obtain ⟨a, p, r, c, rfl, _⟩ := h
    rfl
  · obtain ⟨a, p, r, c, rfl, hr1, hc1, h1, h2, hlen, q⟩ := h
    refine ⟨_, pss_cons (ps_asg (pv 1) (pg_tup rfl (pgs_cons (pg_name (i := 2) sc_compared.nd rfl (.inl rfl)) (pgs_cons (pg_name (i := 3) sc_compared.nd rfl (.inl rfl)) pgs_nil))))
      (pss_cons (ps_if (pt_cmpR op_le (pe_ix ix_tup (pv 0) (pv 2) (fun _ _ => rfl)) (pe_ix ix_tup (pv 0) (pv 3) (fun _ _ => rfl)) (nomark _)) (pss_one (ps_ret (pv 0))) pss_nil)
      (pss_one (ps_ret (pe_op op_catS (pe_op op_catS (pe_op op_catS (pe_op op_catS (pe_slice sl_tupS (pv 0) po_none (po_some (pv 2))) (pe_tup (pa_cons (pe_ix ix_tup (pv 0) (pv 3) (fun _ _ => rfl)) pa_nil)))
        (pe_slice sl_tupS (pv 0) (po_some (pe_op op_add (pv 2) pe_int)) (po_some (pv 3)))) (pe_tup (pa_cons (pe_ix ix_tup (pv 0) (pv 2) (fun _ _ => rfl)) pa_nil))) (pe_slice sl_tupS (pv 0) (po_some (pe_op op_add (pv 3) pe_int)) po_none))))), ?_⟩
    refine ⟨.ref p, rfl, p, [.int c.1, .int c.2], rfl, SqT.of hc1, rfl, .int c.1, [.int c.2], rfl, .int c.2, [], rfl, rfl, ?_⟩
    have g1 : (rv r)[c.1]? = some (.int (r.getD c.1 0)) := rv_at (by omega)
    have g2 : (rv r)[c.2]? = some (.int (r.getD c.2 0)) := rv_at h2
    refine ⟨.ref a, rfl, .int c.1, rfl, a, rv r, c.1, _, rfl, rfl, SqT.of hr1, atI_nat g1, .ref a, rfl, .int c.2, rfl, a, rv r, c.2, _, rfl, rfl, SqT.of hr1, atI_nat g2, _, _, rfl, rfl, _, rfl, ?_⟩
    by_cases hle : r.getD c.1 0 ≤ r.getD c.2 0
    · rw [decide_eq_true hle]
      refine iteT ⟨.ref a, rfl, q H a (Same.refl H) ?_⟩
      unfold cmp
      rw [if_pos hle]
      exact hr1
    · rw [decide_eq_false hle]
      refine iteF ?_
      have ez : 10000000 ≤ sizeLine := by decide
      have l0 := rv_len r
      -- row[:low]
      refine ⟨.ref a, rfl, .int c.1, rfl, c.1, rfl, a, rv r, rfl, hr1, fun H1 p1 s1 e1 => ?_⟩
      -- (row[high],)
      refine ⟨.ref a, rfl, .int c.2, rfl, a, rv r, c.2, _, rfl, rfl, SqT.of (s1 _ _ hr1), atI_nat g2, few1, fun p2 n2 => ?_⟩
      generalize hH2 : upd H1 p2 _ = H2
      have s2 : Same H1 H2 := hH2 ▸ same_upd n2
      have e2 : H2 p2 = _ := hH2 ▸ upd_same
      refine ⟨p1, p2, _, _, rfl, rfl, s2 _ _ e1, e2, ?_, fun H3 p3 s3 e3 => ?_⟩
      · rw [cut_to, List.length_take]; show _ + 1 ≤ _; omega
      -- row[low + 1:high]
      have r3 : RowAt H3 a r := s3 _ _ (s2 _ _ (s1 _ _ hr1))
      refine ⟨.ref a, rfl, .int c.1, rfl, c.1, 1, rfl, rfl, _, rfl, .int c.2, rfl, c.2, rfl, a, rv r, rfl, r3, fun H4 p4 s4 e4 => ?_⟩
      rw [show ((c.1 : Int) + 1) = ((c.1 + 1 : Nat) : Int) from rfl, cut_mid _ _ _ (by omega) (by omega)] at e4
      rw [cut_to] at e3
      refine ⟨p3, p4, _, _, rfl, rfl, s4 _ _ e3, e4, ?_, fun H5 p5 s5 e5 => ?_⟩
      · rw [List.length_append, List.length_take, List.length_take, List.length_drop]; show _ + 1 + _ ≤ _; omega
      -- (row[low],)
      have r5 : RowAt H5 a r := s5 _ _ (s4 _ _ r3)
      refine ⟨.ref a, rfl, .int c.1, rfl, a, rv r, c.1, _, rfl, rfl, SqT.of r5, atI_nat g1, few1, fun p6 n6 => ?_⟩
      generalize hH6 : upd H5 p6 _ = H6
      have s6 : Same H5 H6 := hH6 ▸ same_upd n6
      have e6 : H6 p6 = _ := hH6 ▸ upd_same
      refine ⟨p5, p6, _, _, rfl, rfl, s6 _ _ e5, e6, ?_, fun H7 p7 s7 e7 => ?_⟩
      · rw [List.length_append, List.length_append, List.length_take, List.length_take, List.length_drop]; show _ + 1 + _ + 1 ≤ _; omega
      -- row[high + 1:]
      have r7 : RowAt H7 a r := s7 _ _ (s6 _ _ r5)
      refine ⟨.ref a, rfl, .int c.2, rfl, c.2, 1, rfl, rfl, _, rfl, a, rv r, rfl, r7, fun H8 p8 s8 e8 => ?_⟩
      rw [show ((c.2 : Int) + 1) = ((c.2 + 1 : Nat) : Int) from rfl, cut_from] at e8
      refine ⟨p7, p8, _, _, rfl, rfl, s8 _ _ e7, e8, ?_, fun H9 p9 s9 e9 => ?_⟩
      · rw [List.length_append, List.length_append, List.length_append, List.length_take, List.length_take, List.length_drop, List.length_drop]; show _ + 1 + _ + 1 + _ ≤ _; omega
      refine q H9 p9 (((((((s1.trans s2).trans s3).trans s4).trans s5).trans s6).trans s7).trans (s8.trans s9)) ?_
      rw [cmp_swap h1 h2 hle] at e9
      exact e9
end
end WO

set_option Elab.async false
set_option linter.all false
set_option maxRecDepth 100000
set_option maxHeartbeats 4000000
namespace WO
open PySem PySem.Spec PyProof.Rows L2 WOm
/-- the tuples stay -/
def Tps (H H' : Hp) : Prop := ∀ b xs, H b = some (.tup xs) → H' b = some (.tup xs)
theorem Same.tps {H H' : Hp} (s : Same H H') : Tps H H' := fun b _ e => s b _ e
theorem Tps.refl (H : Hp) : Tps H H := fun _ _ e => e
theorem Tps.trans {H H1 H2 : Hp} (a : Tps H H1) (b : Tps H1 H2) : Tps H H2 := fun c xs e => b c xs (a c xs e)
theorem tps_lst {H : Hp} {p : Addr} {ys zs : List V} (h : H p = some (.lst ys)) : Tps H (upd H p (.lst zs)) := fun b xs e => by
  rw [upd_ne (ne_of e h (by intro z; cases z))]
  exact e
/-- a tuple of comparers -/
def NetAt (H : Hp) (n : Addr) (net : List Cmp) : Prop := ∃ as : List Addr, H n = some (.tup (as.map V.ref)) ∧ as.length = net.length ∧ ∀ (i : Nat) (c : Cmp), net[i]? = some c → ∃ p : Addr, as[i]? = some p ∧ CmpAt H p c
theorem NetAt.keep {H H' : Hp} {n : Addr} {net : List Cmp} (h : NetAt H n net) (t : Tps H H') : NetAt H' n net := by
  obtain ⟨as, h1, h2, h3⟩ := h
  refine ⟨as, t _ _ h1, h2, fun i c e => ?_⟩
  obtain ⟨p, e1, e2⟩ := h3 i c e
  exact ⟨p, e1, t _ _ e2⟩
abbrev Fit (n : Nat) (net : List Cmp) : Prop := ∀ c ∈ net, c.1 < c.2 ∧ c.2 < n
theorem fit_valid {n : Nat} {net : List Cmp} : Fit n net ↔ Valid n net := by
  constructor
  · exact fun h c m => mem_pairs.mpr (h c m)
  · exact fun h c m => mem_pairs.mp (h c m)
theorem thr_take {r : Rw} {net : List Cmp} {i : Nat} {c : Cmp} (h : net[i]? = some c) : thr r (net.take (i + 1)) = cmp (thr r (net.take i)) c := by
  rw [List.take_add_one, h, ← thr_snoc]
  rfl
/-! ### behind_net -/
def spBehind : Sp := fun vs H Q _ => ∃ (a n : Addr) (r : Rw) (net : List Cmp), vs = [.ref a, .ref n] ∧ RowAt H a r ∧ NetAt H n net ∧ Fit r.length net ∧ r.length ≤ 1000 ∧ ∀ H' b, Same H H' → RowAt H' b (thr r net) → Q (.ref b) H'
section
variable {P : Program} {w : World} {K : PySem.W.Frag} {mg : Str → Option Value} {base : Heap}
theorem sc_behind : FnScope ["row", "net", "pair"] ["row", "net"] (defScope (topS 21)) := C8.fnScope_by (by decide +kernel)
theorem c_behind (T : Tx K mg) : C8.Cal P w K mg base 2 "behind_net" spBehind [] := by
  refine cal_of T.d_behind_net (fun _ _ _ _ _ _ us hl => match us, hl with | [_, _], _ => rfl) sc_behind (fun vs H Q E h => ?_) (fun f cdv A outer s H vs Q E hr h => ?_)
  · obtain ⟨a, p, r, c, rfl, _⟩ := h
    rfl
  · obtain ⟨a, n, r, net, rfl, hr1, hn, hf, hlen, q⟩ := h
    refine ⟨_, pss_cons (ps_for PassesOwn.never rfl (pi_tup (pv 1)) (pg_name (i := 2) sc_behind.nd rfl (.inl rfl))
        (pss_one (ps_set (i := 0) sc_behind.nd rfl (.inl rfl) (C8.pe_c (c_compared T) hr (by decide) (by rfl) (pa_cons (pv 0) (pa_cons (pv 2) pa_nil))))))
      (pss_one (ps_ret (pv 0))), ?_⟩
    obtain ⟨as, h1, h2, h3⟩ := id hn
    refine ⟨.ref n, rfl, n, rfl, ⟨_, SqT.of h1⟩, for_tup (xs := as.map V.ref) (fun i σ H2 => ∃ b y, σ = [some (.ref b), some (.ref n), y] ∧ Same H H2 ∧ RowAt H2 b (thr r (net.take i))) ⟨a, none, rfl, Same.refl H, hr1⟩ ?_ ?_ ?_⟩
    · rintro i σ H2 _ ⟨b, y, rfl, s2, e2⟩
      exact SqT.of (s2 _ _ h1)
    · rintro i x σ H2 hx ⟨b, y, rfl, s2, e2⟩
      rw [List.getElem?_map] at hx
      obtain ⟨p, hp, rfl⟩ := Option.map_eq_some_iff.mp hx
      have hi : i < net.length := by
        have := (List.getElem?_eq_some_iff.mp hp).1
        omega
      obtain ⟨p', hp', hc⟩ := h3 i net[i] (List.getElem?_eq_getElem hi)
      rw [hp] at hp'
      obtain rfl := Option.some.inj hp'
      obtain ⟨f1, f2⟩ := hf net[i] (List.getElem_mem hi)
      have l := thr_len (net.take i) r
      refine ⟨.ref b, rfl, .ref p, rfl, b, p, _, _, rfl, e2, s2 _ _ hc, f1, by omega, by omega, fun H3 b3 s3 e3 => ?_⟩
      exact ⟨b3, some (.ref p), rfl, s2.trans s3, by rw [thr_take (List.getElem?_eq_getElem hi)]; exact e3⟩
    · rintro σ H2 ⟨b, y, rfl, s2, e2⟩
      rw [List.length_map, h2, List.take_length] at e2
      exact ⟨.ref b, rfl, q H2 b s2 e2⟩
end
/-! ### comprehensions that map -/
/-- over a list at a: R tells what each item's value is -/
theorem lc_map {K : PySem.W.Frag} {a : Addr} {xs : List V} {g : TG} {te : TE} {vs : List Nat} {σ : L2.St} {H1 : Hp} {D : Addr} {Qd : Hp → Prop} (R : Nat → V → Hp → Prop) (hR : ∀ i y H H', Tps H H' → R i y H → R i y H') (hD : H1 D = none) (ha : H1 a = some (.lst xs)) (hz : xs.length ≤ 10000000)
    (hs : ∀ i x H, xs[i]? = some x → Same H1 H → ∀ k : VK, (∀ y H', Same H H' → R i y H' → k y H') → g x (wipe σ vs) H fun σ2 H2 => wipe σ2 vs = wipe σ vs ∧ te σ2 H2 k)
    (hd : ∀ H ys, Same H1 H → H D = some (.lst ys) → ys.length = xs.length → (∀ (i : Nat) (y : V), ys[i]? = some y → R i y H) → Qd H) (hg : ∀ x σ H Q Q', (∀ σ2 H2, Q σ2 H2 → Q' σ2 H2) → g x σ H Q → g x σ H Q') :
    ∃ W : Nat → Nat → Hp → Prop, (∃ m, W 0 m (upd H1 D (.lst []))) ∧ ∀ i m H, W i m H →
      ((Itl K a).stop i H ∧ Qd H) ∨ ((Itl K a).go i H ∧ ∃ Nx : Hp → Prop, (∀ H', Nx H' → ∃ m', m' < m ∧ W (i + 1) m' H') ∧ ∀ x H', (Itl K a).yld i H x H' → g x (wipe σ vs) H' fun σ2 H2 => wipe σ2 vs = wipe σ vs ∧ tYes σ2 H2 fun b H3 =>
        if b = true then te σ2 H3 fun y H4 => ∃ acc, H4 D = some (.lst acc) ∧ acc.length < sizeLine ∧ Nx (upd H4 D (.lst (acc ++ [y]))) else Nx H3) := by
  have nD : ∀ {b o}, H1 b = some o → b ≠ D := fun e => ne_of_none e hD
  have sD : ∀ {H : Hp} {zs : List V}, Same H1 H → Same H1 (upd H D (.lst zs)) := fun {H zs} s b o e => by
    rw [upd_ne (nD e)]
    exact s b o e
  refine lc_list (xs := xs) (fun i H => i ≤ xs.length ∧ Same H1 H ∧ ∃ ys, H D = some (.lst ys) ∧ ys.length = i ∧ ∀ (j : Nat) (y : V), ys[j]? = some y → R j y H) ⟨Nat.zero_le _, sD (Same.refl H1), [], upd_same, rfl, fun j y e => by simp at e⟩ ?_ ?_ ?_
  · rintro i H _ ⟨_, s, _⟩
    exact SqL.of (s _ _ ha)
  · rintro i x H hx ⟨hi, s, ys, hy, hl, hr⟩
    have hlt : i < xs.length := (List.getElem?_eq_some_iff.mp hx).1
    refine hg _ _ _ _ _ (fun σ2 H2 ⟨w2, h2⟩ => ⟨w2, h2⟩) (hs i x H hx s _ fun y H' s' r' => ?_)
    have e' := s' _ _ hy
    refine ⟨ys, e', few' (by omega), hlt, sD (s.trans s'), ys ++ [y], upd_same, by rw [List.length_append, hl]; rfl, fun j z ez => ?_⟩
    rcases Nat.lt_or_ge j ys.length with h | h
    · rw [List.getElem?_append_left h] at ez
      exact hR _ _ _ _ (Tps.trans (Same.tps s') (tps_lst e')) (hr j z ez)
    · rw [List.getElem?_append_right h] at ez
      have h0 : j - ys.length = 0 := by
        rcases Nat.eq_zero_or_pos (j - ys.length) with h0 | h0
        · exact h0
        · rw [List.getElem?_eq_none (by simp; omega)] at ez
          cases ez
      rw [h0] at ez
      obtain rfl := Option.some.inj ez
      rw [show j = i by omega]
      exact hR _ _ _ _ (tps_lst e') r'
  · rintro H ⟨_, s, ys, hy, hl, hr⟩
    exact hd H ys s hy hl hr
/-- .. over a range -/
theorem lc_mapR {lo : Int} {n : Nat} {g : TG} {te : TE} {vs : List Nat} {σ : L2.St} {H1 : Hp} {D : Addr} {Qd : Hp → Prop} (R : Nat → V → Hp → Prop) (hR : ∀ i y H H', Tps H H' → R i y H → R i y H') (hD : H1 D = none) (hz : n ≤ 10000000)
    (hs : ∀ i H, i < n → Same H1 H → ∀ k : VK, (∀ y H', Same H H' → R i y H' → k y H') → g (.int (lo + i)) (wipe σ vs) H fun σ2 H2 => wipe σ2 vs = wipe σ vs ∧ te σ2 H2 k)
    (hd : ∀ H ys, Same H1 H → H D = some (.lst ys) → ys.length = n → (∀ (i : Nat) (y : V), ys[i]? = some y → R i y H) → Qd H) (hg : ∀ x σ H Q Q', (∀ σ2 H2, Q σ2 H2 → Q' σ2 H2) → g x σ H Q → g x σ H Q') :
    ∃ W : Nat → Nat → Hp → Prop, (∃ m, W 0 m (upd H1 D (.lst []))) ∧ ∀ i m H, W i m H →
      ((Itr lo n).stop i H ∧ Qd H) ∨ ((Itr lo n).go i H ∧ ∃ Nx : Hp → Prop, (∀ H', Nx H' → ∃ m', m' < m ∧ W (i + 1) m' H') ∧ ∀ x H', (Itr lo n).yld i H x H' → g x (wipe σ vs) H' fun σ2 H2 => wipe σ2 vs = wipe σ vs ∧ tYes σ2 H2 fun b H3 =>
        if b = true then te σ2 H3 fun y H4 => ∃ acc, H4 D = some (.lst acc) ∧ acc.length < sizeLine ∧ Nx (upd H4 D (.lst (acc ++ [y]))) else Nx H3) := by
  have nD : ∀ {b o}, H1 b = some o → b ≠ D := fun e => ne_of_none e hD
  have sD : ∀ {H : Hp} {zs : List V}, Same H1 H → Same H1 (upd H D (.lst zs)) := fun {H zs} s b o e => by
    rw [upd_ne (nD e)]
    exact s b o e
  refine lc_range (fun i H => i ≤ n ∧ Same H1 H ∧ ∃ ys, H D = some (.lst ys) ∧ ys.length = i ∧ ∀ (j : Nat) (y : V), ys[j]? = some y → R j y H) ⟨Nat.zero_le _, sD (Same.refl H1), [], upd_same, rfl, fun j y e => by simp at e⟩ ?_ ?_
  · rintro i H hlt ⟨hi, s, ys, hy, hl, hr⟩
    refine hg _ _ _ _ _ (fun σ2 H2 ⟨w2, h2⟩ => ⟨w2, h2⟩) (hs i H hlt s _ fun y H' s' r' => ?_)
    have e' := s' _ _ hy
    refine ⟨ys, e', few' (by omega), hlt, sD (s.trans s'), ys ++ [y], upd_same, by rw [List.length_append, hl]; rfl, fun j z ez => ?_⟩
    rcases Nat.lt_or_ge j ys.length with h | h
    · rw [List.getElem?_append_left h] at ez
      exact hR _ _ _ _ (Tps.trans (Same.tps s') (tps_lst e')) (hr j z ez)
    · rw [List.getElem?_append_right h] at ez
      have h0 : j - ys.length = 0 := by
        rcases Nat.eq_zero_or_pos (j - ys.length) with h0 | h0
        · exact h0
        · rw [List.getElem?_eq_none (by simp; omega)] at ez
          cases ez
      rw [h0] at ez
      obtain rfl := Option.some.inj ez
      rw [show j = i by omega]
      exact hR _ _ _ _ (tps_lst e') r'
  · rintro H ⟨_, s, ys, hy, hl, hr⟩
    exact hd H ys s hy hl hr
theorem gName_mono (i : Nat) : ∀ x σ H Q Q', (∀ σ2 H2, Q σ2 H2 → Q' σ2 H2) → gName i x σ H Q → gName i x σ H Q' := fun _ _ _ _ _ h q => h _ _ q
end WO

set_option Elab.async false
set_option linter.all false
set_option maxRecDepth 100000
set_option maxHeartbeats 4000000
namespace WO
open PySem PySem.Spec PyProof.Rows L2 WOm
/-! ### lists and tuples of rows -/
abbrev refs (L : List (Addr × Rw)) : List V := L.map fun p => V.ref p.1
def RowsIn (H : Hp) (L : List (Addr × Rw)) : Prop := ∀ p ∈ L, RowAt H p.1 p.2
theorem RowsIn.keep {H H' : Hp} {L : List (Addr × Rw)} (h : RowsIn H L) (t : Tps H H') : RowsIn H' L := fun p m => t _ _ (h p m)
def StAt (H : Hp) (a : Addr) (st : Sta) : Prop := ∃ L : List (Addr × Rw), H a = some (.tup (refs L)) ∧ L.map (·.2) = st ∧ RowsIn H L
theorem StAt.keep {H H' : Hp} {a : Addr} {st : Sta} (h : StAt H a st) (t : Tps H H') : StAt H' a st := by
  obtain ⟨L, h1, h2, h3⟩ := h
  exact ⟨L, t _ _ h1, h2, h3.keep t⟩
/-- a list of rows -/
def LsAt (H : Hp) (a : Addr) (rows : List Rw) : Prop := ∃ L : List (Addr × Rw), H a = some (.lst (refs L)) ∧ L.map (·.2) = rows ∧ RowsIn H L
theorem LsAt.same {H H' : Hp} {a : Addr} {rows : List Rw} (h : LsAt H a rows) (t : Same H H') : LsAt H' a rows := by
  obtain ⟨L, h1, h2, h3⟩ := h
  exact ⟨L, t _ _ h1, h2, h3.keep (Same.tps t)⟩
/-- what a mapping comprehension has made -/
def IsRow (rows : List Rw) : Nat → V → Hp → Prop := fun i y H => ∃ b r, y = .ref b ∧ rows[i]? = some r ∧ RowAt H b r
theorem isRow_keep (rows : List Rw) : ∀ i y H H', Tps H H' → IsRow rows i y H → IsRow rows i y H' := fun i y H H' t ⟨b, r, h1, h2, h3⟩ => ⟨b, r, h1, h2, t _ _ h3⟩
theorem rows_of : ∀ {rows : List Rw} {ys : List V} {H : Hp}, ys.length = rows.length → (∀ (i : Nat) (y : V), ys[i]? = some y → IsRow rows i y H) → ∃ L : List (Addr × Rw), ys = refs L ∧ L.map (·.2) = rows ∧ RowsIn H L
  | [], [], _, _, _ => ⟨[], rfl, rfl, fun p m => by cases m⟩
  | [], _ :: _, _, h, _ => by cases h
  | _ :: _, [], _, h, _ => by cases h
  | r :: rows, y :: ys, H, hl, h => by
    obtain ⟨L, e1, e2, e3⟩ := rows_of (rows := rows) (ys := ys) (H := H) (by simpa using hl) fun i z ez => by
      obtain ⟨b, r', k1, k2, k3⟩ := h (i + 1) z (by simpa using ez)
      exact ⟨b, r', k1, by simpa using k2, k3⟩
    obtain ⟨b, r', k1, k2, k3⟩ := h 0 y rfl
    obtain rfl : r = r' := Option.some.inj k2
    refine ⟨(b, r) :: L, by rw [k1, e1]; rfl, by rw [← e2]; rfl, fun p m => ?_⟩
    rcases List.mem_cons.mp m with e | m
    · rw [e]; exact k3
    · exact e3 p m
theorem lsAt_of {rows : List Rw} {ys : List V} {H : Hp} {a : Addr} (ha : H a = some (.lst ys)) (hl : ys.length = rows.length) (h : ∀ (i : Nat) (y : V), ys[i]? = some y → IsRow rows i y H) : LsAt H a rows := by
  obtain ⟨L, e1, e2, e3⟩ := rows_of hl h
  exact ⟨L, by rw [ha, e1], e2, e3⟩
theorem hu64 {A : Around} {k : Nat} (hr : Room k A) : A.units + 64 < cLine := by have := hr.un; omega
/-! ### sorted(set(..)) -/
theorem ltR_code : ∀ {a b : Rw}, a.length = b.length → TS.Bd 64 a → TS.Bd 64 b → ltR a b = true → TS.code 64 a < TS.code 64 b
  | [], [], _, _, _, h => by cases h
  | [], _ :: _, h, _, _, _ => by cases h
  | _ :: _, [], h, _, _, _ => by cases h
  | x :: a, y :: b, hl, ha, hb, h => by
    have hl' : a.length = b.length := by simpa using hl
    rw [ltR_cons] at h
    by_cases c : x < y
    · exact TS.code_lt hl' ha.tail hb.tail c
    · rw [if_neg c] at h
      by_cases e : y < x
      · rw [if_pos e] at h; cases h
      · rw [if_neg e] at h
        have exy : x = y := by omega
        subst exy
        exact (TS.code_same hl').mpr (ltR_code hl' ha.tail hb.tail h)
/-- rows of one width of small numbers -/
def Fits (d : Nat) (rows : List Rw) : Prop := ∀ r ∈ rows, r.length = d ∧ TS.Bd 64 r
theorem asc_of {d : Nat} {l : List Rw} (hf : Fits d l) (hn : l.Nodup) (hp : l.Pairwise fun a b => TS.code 64 a ≤ TS.code 64 b) : Asc l := by
  refine (hn.and hp).imp_of_mem fun {a b} ma mb ⟨ne, le⟩ => ?_
  obtain ⟨la, ba⟩ := hf a ma
  obtain ⟨lb, bb⟩ := hf b mb
  cases h : ltR a b with
  | true => rfl
  | false =>
    cases h2 : ltR b a with
    | true =>
      have := ltR_code (lb.trans la.symm) bb ba h2
      omega
    | false => exact absurd (ltR_tri h h2) ne
def rTupOf (K : PySem.W.Frag) : List V → Hp → VK → Prop := fun xs H Q => ∃ p ys, xs = [.ref p] ∧ ((SqL K H p ys ∧ ∀ l, H l = none → Q (.ref l) (upd H l (.tup ys))) ∨ (SqT K H p ys ∧ Q (.ref p) H))
/-- tuple(sorted(set(rows))) -/
theorem chain {K : PySem.W.Frag} {P : Program} {w : World} {H : Hp} {D : Addr} {d : Nat} {rows : List Rw} {Q : VK} (hD : LsAt H D rows) (h64 : rows.length < 64) (hd : 1 ≤ d) (hf : Fits d rows) (q : ∀ H' p, Same H H' → StAt H' p (canon rows) → Q (.ref p) H') :
    rSetOfT K P w [.ref D] H fun y H2 => rSortedT K P w [y] H2 fun z H3 => rTupOf K [z] H3 Q := by
  obtain ⟨L0, hL, hm, hr⟩ := hD
  have hlen : L0.length = rows.length := by rw [← hm, List.length_map]
  have inr : ∀ p ∈ L0, p.2 ∈ rows := fun p m => by rw [← hm]; exact List.mem_map.mpr ⟨p, m, rfl⟩
  refine ⟨D, L0, rfl, SqL.of hL, fun p m => SqT.of (hr p m), by omega, fun a L na hLs hcov => ?_⟩
  generalize hH2 : upd H a (SetTO P w a L) = H2
  have s2 : Same H H2 := hH2 ▸ same_upd na
  have e2 : H2 a = some (SetTO P w a L) := hH2 ▸ upd_same
  have r2 : ∀ p ∈ L, RowAt H2 p.1 p.2 := fun p m => s2 _ _ (hr p (hLs p m))
  refine ⟨a, L, d, 64, rfl, e2, fun p m => SqT.of (r2 p m), hd, fun p m => hf _ (inr p (hLs p m)), fun L' b pm nd few pw nb => ?_⟩
  generalize hH3 : upd H2 b (.lst (L'.map fun q => V.ref q.1)) = H3
  have s3 : Same H2 H3 := hH3 ▸ same_upd nb
  have e3 : H3 b = some (.lst (refs L')) := hH3 ▸ upd_same
  refine ⟨b, refs L', rfl, .inl ⟨SqL.of e3, fun t nt => q _ t ((s2.trans s3).trans (same_upd nt)) ⟨L', upd_same, ?_, fun p m => same_upd nt _ _ (s3 _ _ (r2 p (pm.mem_iff.mp m)))⟩⟩⟩
  have mem' : ∀ p ∈ L', p.2 ∈ rows := fun p m => inr p (hLs p (pm.mem_iff.mp m))
  refine canon_eq (asc_of (d := d) (fun r m => ?_) nd (List.pairwise_map.mpr pw)) fun x => ?_
  · obtain ⟨p, m1, rfl⟩ := List.mem_map.mp m
    exact hf _ (mem' p m1)
  · constructor
    · intro m
      obtain ⟨p, m1, rfl⟩ := List.mem_map.mp m
      exact mem' p m1
    · intro m
      rw [← hm] at m
      obtain ⟨p, m1, rfl⟩ := List.mem_map.mp m
      obtain ⟨p', m', e⟩ := List.mem_map.mp (hcov p m1)
      exact List.mem_map.mpr ⟨p', pm.mem_iff.mpr m', e⟩
/-- a mapping comprehension over a tuple -/
theorem lc_mapT {K : PySem.W.Frag} {a : Addr} {xs : List V} {g : TG} {te : TE} {vs : List Nat} {σ : L2.St} {H1 : Hp} {D : Addr} {Qd : Hp → Prop} (R : Nat → V → Hp → Prop) (hR : ∀ i y H H', Tps H H' → R i y H → R i y H') (hD : H1 D = none) (ha : H1 a = some (.tup xs)) (hz : xs.length ≤ 10000000)
    (hs : ∀ i x H, xs[i]? = some x → Same H1 H → ∀ k : VK, (∀ y H', Same H H' → R i y H' → k y H') → g x (wipe σ vs) H fun σ2 H2 => wipe σ2 vs = wipe σ vs ∧ te σ2 H2 k)
    (hd : ∀ H ys, Same H1 H → H D = some (.lst ys) → ys.length = xs.length → (∀ (i : Nat) (y : V), ys[i]? = some y → R i y H) → Qd H) (hg : ∀ x σ H Q Q', (∀ σ2 H2, Q σ2 H2 → Q' σ2 H2) → g x σ H Q → g x σ H Q') :
    ∃ W : Nat → Nat → Hp → Prop, (∃ m, W 0 m (upd H1 D (.lst []))) ∧ ∀ i m H, W i m H →
      ((Itt K a).stop i H ∧ Qd H) ∨ ((Itt K a).go i H ∧ ∃ Nx : Hp → Prop, (∀ H', Nx H' → ∃ m', m' < m ∧ W (i + 1) m' H') ∧ ∀ x H', (Itt K a).yld i H x H' → g x (wipe σ vs) H' fun σ2 H2 => wipe σ2 vs = wipe σ vs ∧ tYes σ2 H2 fun b H3 =>
        if b = true then te σ2 H3 fun y H4 => ∃ acc, H4 D = some (.lst acc) ∧ acc.length < sizeLine ∧ Nx (upd H4 D (.lst (acc ++ [y]))) else Nx H3) := by
  have nD : ∀ {b o}, H1 b = some o → b ≠ D := fun e => ne_of_none e hD
  have sD : ∀ {H : Hp} {zs : List V}, Same H1 H → Same H1 (upd H D (.lst zs)) := fun {H zs} s b o e => by
    rw [upd_ne (nD e)]
    exact s b o e
  refine lc_tup (xs := xs) (fun i H => i ≤ xs.length ∧ Same H1 H ∧ ∃ ys, H D = some (.lst ys) ∧ ys.length = i ∧ ∀ (j : Nat) (y : V), ys[j]? = some y → R j y H) ⟨Nat.zero_le _, sD (Same.refl H1), [], upd_same, rfl, fun j y e => by simp at e⟩ ?_ ?_ ?_
  · rintro i H _ ⟨_, s, _⟩
    exact SqT.of (s _ _ ha)
  · rintro i x H hx ⟨hi, s, ys, hy, hl, hr⟩
    have hlt : i < xs.length := (List.getElem?_eq_some_iff.mp hx).1
    refine hg _ _ _ _ _ (fun σ2 H2 ⟨w2, h2⟩ => ⟨w2, h2⟩) (hs i x H hx s _ fun y H' s' r' => ?_)
    have e' := s' _ _ hy
    refine ⟨ys, e', few' (by omega), hlt, sD (s.trans s'), ys ++ [y], upd_same, by rw [List.length_append, hl]; rfl, fun j z ez => ?_⟩
    rcases Nat.lt_or_ge j ys.length with h | h
    · rw [List.getElem?_append_left h] at ez
      exact hR _ _ _ _ (Tps.trans (Same.tps s') (tps_lst e')) (hr j z ez)
    · rw [List.getElem?_append_right h] at ez
      have h0 : j - ys.length = 0 := by
        rcases Nat.eq_zero_or_pos (j - ys.length) with h0 | h0
        · exact h0
        · rw [List.getElem?_eq_none (by simp; omega)] at ez
          cases ez
      rw [h0] at ez
      obtain rfl := Option.some.inj ez
      rw [show j = i by omega]
      exact hR _ _ _ _ (tps_lst e') r'
  · rintro H ⟨_, s, ys, hy, hl, hr⟩
    exact hd H ys s hy hl hr
/-! ### rows_behind -/
theorem stp_canon (st : Sta) (c : Cmp) : stp st c = canon (st.map (cmp · c)) := rfl
def spRowsBehind : Sp := fun vs H Q _ => ∃ (a p : Addr) (st : Sta) (c : Cmp) (d : Nat), vs = [.ref a, .ref p] ∧ StAt H a st ∧ CmpAt H p c ∧ c.1 < c.2 ∧ c.2 < d ∧ Fits d st ∧ st.length < 64 ∧ d ≤ 1000 ∧ ∀ H' b, Same H H' → StAt H' b (stp st c) → Q (.ref b) H'
theorem cmp_bd {r : Rw} {c : Cmp} (h1 : c.1 < r.length) (h2 : c.2 < r.length) (hb : TS.Bd 64 r) : TS.Bd 64 (cmp r c) := by
  have g : ∀ {i}, i < r.length → r.getD i 0 ∈ r := fun {i} h => by
    rw [List.getD_eq_getElem?_getD, List.getElem?_eq_getElem h]
    exact List.getElem_mem h
  unfold cmp
  split
  · exact hb
  · intro m hm
    rcases List.mem_or_eq_of_mem_set hm with hm | e
    · rcases List.mem_or_eq_of_mem_set hm with hm | e
      · exact hb m hm
      · rw [e]; exact hb _ (g h2)
    · rw [e]; exact hb _ (g h1)
theorem cmp_fits {d : Nat} {st : List Rw} {c : Cmp} (h1 : c.1 < c.2) (h2 : c.2 < d) (hf : Fits d st) : Fits d (st.map (cmp · c)) := fun r m => by
  obtain ⟨r', m1, rfl⟩ := List.mem_map.mp m
  obtain ⟨l, b⟩ := hf r' m1
  exact ⟨by rw [cmp_len, l], cmp_bd (by omega) (by omega) b⟩
section
variable {P : Program} {w : World} {K : PySem.W.Frag} {mg : Str → Option Value} {base : Heap}
theorem sc_rows_behind : FnScope ["rows", "pair", "row"] ["rows", "pair"] (defScope (topS 30)) := C8.fnScope_by (by decide +kernel)
theorem c_rows_behind (T : Tx K mg) : C8.Cal P w K mg base 2 "rows_behind" spRowsBehind [] := by
  refine cal_of T.d_rows_behind (fun _ _ _ _ _ _ us hl => match us, hl with | [_, _], _ => rfl) sc_rows_behind (fun vs H Q E h => ?_) (fun f cdv A outer s H vs Q E hr h => ?_)
  · obtain ⟨a, p, r, c, d, rfl, _⟩ := h
    rfl
  · obtain ⟨a, p, st, c, d, rfl, ⟨L, hL, hm, hri⟩, hc, h1, h2, hf, h64, hd, q⟩ := h
    refine ⟨_, pss_one (ps_ret (pe_callTy call_tuple_of (by rfl) T.tuple_ (by decide +kernel) (pa_cons (pe_callB (cr_sortedT rfl) (by rfl) T.sorted_ (by decide +kernel) (pa_cons (pe_callTy (cr_setOfT rfl (hu64 hr)) (by rfl) T.set_ (by decide +kernel)
      (pa_cons (pe_lc (own := [("row", 2)]) (g := gName 2) (by rfl) sc_rows_behind.nd (pi_tup (pv 0)) (blkOk_by (N := ["rows", "pair", "row"]) (sc := defScope (topS 30)) (by decide +kernel)) (fun _ _ _ _ _ => pg_name (i := 2) sc_rows_behind.nd rfl (.inl rfl)) (fun _ _ _ _ _ => pts_nil)
        (fun _ _ _ _ _ => C8.pe_c (c_compared T) hr (by decide) (by rfl) (pa_cons (pv 2) (pa_cons (pv 1) pa_nil)))) pa_nil)) pa_nil)) pa_nil))), ?_⟩
    have hlen : L.length = st.length := by rw [← hm, List.length_map]
    refine ⟨.ref a, rfl, a, rfl, ⟨_, SqT.of hL⟩, fun D hD => lc_mapT (xs := refs L) (IsRow (st.map (cmp · c))) (isRow_keep _) hD hL (by rw [List.length_map]; omega) ?_ ?_ (gName_mono 2)⟩
    · intro i x H1 hx s1 k hk
      rw [List.getElem?_map] at hx
      obtain ⟨pr, hp, rfl⟩ := Option.map_eq_some_iff.mp hx
      have mp : pr ∈ L := List.mem_of_getElem? hp
      obtain ⟨l1, b1⟩ := hf pr.2 (by rw [← hm]; exact List.mem_map.mpr ⟨pr, mp, rfl⟩)
      refine ⟨rfl, .ref pr.1, rfl, .ref p, rfl, pr.1, p, pr.2, c, rfl, s1 _ _ (hri pr mp), s1 _ _ hc, h1, by omega, by omega, fun H' b s' e' => hk _ _ s' ⟨b, _, rfl, ?_, e'⟩⟩
      rw [← hm, List.map_map, List.getElem?_map, hp]
      rfl
    · intro H1 ys s1 e1 hl hys
      refine chain (d := d) (lsAt_of e1 (by rw [hl, List.length_map, List.length_map, hlen]) hys) (by rw [List.length_map]; exact h64) (by omega) (cmp_fits h1 h2 hf) fun H' b s' e' => q H' b (s1.trans s') e'
end
end WO

set_option Elab.async false
set_option linter.all false
set_option maxRecDepth 100000
set_option maxHeartbeats 4000000
namespace WO
open PySem PySem.Spec PyProof.Rows L2 WOm
/-! ### data -/
theorem Same.sqT {K : PySem.W.Frag} {H H' : Hp} {a : Addr} {xs : List V} (e : Same H H') (h : SqT K H a xs) : SqT K H' a xs := by
  rcases h with (h | ⟨o, h⟩) | h
  · exact .inl (.inl (e _ _ h))
  · exact .inl (.inr ⟨o, e _ _ h⟩)
  · exact .inr h
mutual
theorem dp_keep {K : PySem.W.Frag} {H H' : Hp} (e : Same H H') : ∀ {v : V} (d : PyData), Dp K H v d → Dp K H' v d
  | _, .none, h => by cases h; exact .non
  | _, .bool b, h => by cases h; exact .bl b
  | _, .int i, h => by cases h; exact .int i
  | _, .str x, h => by cases h; exact .str x
  | _, .list ds, h => by
    cases h with
    | lst h1 h2 => exact .lst (L2.Same.seq e h1) (dpAll_keep e ds h2)
  | _, .tuple ds, h => by
    cases h with
    | tup h1 h2 => exact .tup (Same.sqT e h1) (dpAll_keep e ds h2)
  | _, .dict _, h => by cases h
theorem dpAll_keep {K : PySem.W.Frag} {H H' : Hp} (e : Same H H') : ∀ {vs : List V} (ds : List PyData), DpAll K H vs ds → DpAll K H' vs ds
  | _, [], h => by cases h; exact .nil
  | _, d :: ds, h => by
    cases h with
    | cons h1 h2 => exact .cons (dp_keep e d h1) (dpAll_keep e ds h2)
end
theorem dpAll_len {K : PySem.W.Frag} {H : Hp} : ∀ {vs : List V} {ds : List PyData}, DpAll K H vs ds → vs.length = ds.length
  | [], _, h => by cases h; rfl
  | v :: vs, _, h => by
    cases h with
    | cons h1 h2 => rw [List.length_cons, List.length_cons, dpAll_len h2]
theorem dpAll_at {K : PySem.W.Frag} {H : Hp} : ∀ {vs : List V} {ds : List PyData} {i : Nat} {v : V}, DpAll K H vs ds → vs[i]? = some v → ∃ d, ds[i]? = some d ∧ Dp K H v d
  | [], _, _, _, _, e => by simp at e
  | u :: vs, _, 0, v, h, e => by
    cases h with
    | cons h1 h2 =>
      obtain rfl := Option.some.inj e
      exact ⟨_, rfl, h1⟩
  | u :: vs, _, i + 1, v, h, e => by
    cases h with
    | cons h1 h2 =>
      obtain ⟨d, e1, e2⟩ := dpAll_at h2 (by simpa using e)
      exact ⟨d, by simpa using e1, e2⟩
theorem ty_tup {K : PySem.W.Frag} {H : Hp} {a : Addr} {xs : List V} (h : SqT K H a xs) : TyX K H (.ref a) (.type "tuple") := by
  rcases h with (h | ⟨o, h⟩) | ⟨o, its, n, h1, h2, _⟩
  · exact .base (.tup h)
  · exact .fTuple h
  · exact .kTuple h1 h2
theorem ty_lst {K : PySem.W.Frag} {H : Hp} {a : Addr} {xs : List V} (h : SqL K H a xs) : TyX K H (.ref a) (.type "list") := by
  rcases h with (h | ⟨o, h⟩) | ⟨o, its, n, h1, h2, _⟩
  · exact .base (.lst h)
  · exact .base (.frz h)
  · exact .kList h1 h2
/-- a datum's type; whether it is a tuple -/
def tyD : PyData → String
  | .none => "NoneType"
  | .bool _ => "bool"
  | .int _ => "int"
  | .str _ => "str"
  | .list _ => "list"
  | .tuple _ => "tuple"
  | .dict _ => "dict"
def isTup : PyData → Bool
  | .tuple _ => true
  | _ => false
theorem ty_dp {K : PySem.W.Frag} {H : Hp} {v : V} {d : PyData} (h : Dp K H v d) : TyX K H v (.type (tyD d)) := by
  cases h with
  | non => exact .base .non
  | bl b => exact .base (.bl b)
  | int i => exact .base (.int i)
  | str x => exact .base (.str x)
  | lst h1 _ => exact ty_lst h1
  | tup h1 _ => exact ty_tup h1
def wholeD (d : PyData) (lo hi : Int) : Bool := match d with
  | .int i => decide (lo ≤ i) && decide (i ≤ hi)
  | _ => false
theorem whole_dp {K : PySem.W.Frag} {H : Hp} {v : V} {d : PyData} (h : Dp K H v d) (lo hi : Int) : whole v lo hi = wholeD d lo hi := by
  cases h <;> rfl
theorem kk {K : PySem.W.Frag} {a b : String} {r : Bool} (h : kitB a b = some r) : PySem.W.kitOne K (.type a) (.type b) = some r := kit_ty h
theorem kit_tup {K : PySem.W.Frag} {H : Hp} {v : V} {d : PyData} (h : Dp K H v d) : PySem.W.kitOne K (.type (tyD d)) (.type "tuple") = some (isTup d) := by
  cases h with
  | non => exact kk (by decide +kernel)
  | bl b => exact kk (a := "bool") (r := false) (by decide +kernel)
  | int i => exact kk (a := "int") (r := false) (by decide +kernel)
  | str x => exact kk (a := "str") (r := false) (by decide +kernel)
  | lst h1 _ => exact kk (a := "list") (r := false) (by decide +kernel)
  | tup h1 _ => exact kk (a := "tuple") (r := true) (by decide +kernel)
theorem plain_dp {K : PySem.W.Frag} {H : Hp} {v : V} {d : PyData} (h : Dp K H v d) : Plain K H v := by
  refine ⟨tyD d, ty_dp h, ?_⟩
  cases h with
  | non => exact ⟨false, false, kit_ty (by decide +kernel), kit_ty (by decide +kernel), .inr (.inr ⟨rfl, fun i z => by cases z⟩)⟩
  | bl b => exact ⟨true, true, kk (a := "bool") (by decide +kernel), kk (a := "bool") (by decide +kernel), .inr (.inl ⟨rfl, rfl, b, rfl⟩)⟩
  | int i => exact ⟨true, false, kk (a := "int") (by decide +kernel), kk (a := "int") (by decide +kernel), .inl ⟨rfl, rfl, i, rfl⟩⟩
  | str x => exact ⟨false, false, kk (a := "str") (by decide +kernel), kk (a := "str") (by decide +kernel), .inr (.inr ⟨rfl, fun i z => by cases z⟩)⟩
  | lst h1 _ => exact ⟨false, false, kk (a := "list") (by decide +kernel), kk (a := "list") (by decide +kernel), .inr (.inr ⟨rfl, fun i z => by cases z⟩)⟩
  | tup h1 _ => exact ⟨false, false, kk (a := "tuple") (by decide +kernel), kk (a := "tuple") (by decide +kernel), .inr (.inr ⟨rfl, fun i z => by cases z⟩)⟩
/-! ### need_many, need_few -/
def spNeedMany (K : PySem.W.Frag) : Sp := fun vs H Q E => ∃ v d, vs = [v] ∧ Dp K H v d ∧ (wholeD d 1 30 = true → Q .non H) ∧ (wholeD d 1 30 = false → E (.ref (He.ga K "InvalidMany")) none H)
/-- an exception's dict stands at d -/
def XdAt (H : Hp) (d : Addr) : Prop := ∃ fs, H d = some (.xd fs)
/-- TooMany(limit) -/
def TmRule (P : Program) (w : World) (K : PySem.W.Frag) (mg : Str → Option Value) (base : Heap) : Prop := ∀ (X : Cx), X.prog = P → X.w = w → X.K = K → X.mg = mg → X.base = base → X.calm = true → Room 3 X.A → Gl X "TooMany" → ∀ (p pos : Pos) (e : Expr) (te : TE), PE X e te → starEach [e] X.env = [(false, eval e X.env)] →
  L2N.PMk X (.Call (.Name "TooMany" p) [e] [] pos) fun σ H Q => te σ H fun v H1 => ∃ i, v = .int i ∧ ∀ H' d, Same H1 H' → XdAt H' d → Q (.ref (He.ga K "TooMany")) (some d) H'
def spNeedFew (K : PySem.W.Frag) : Sp := fun vs H Q E => ∃ (n l : Int), vs = [.int n, .int l] ∧ (n ≤ l → Q .non H) ∧ (l < n → ∀ H' d, Same H H' → XdAt H' d → E (.ref (He.ga K "TooMany")) (some d) H')
section
variable {P : Program} {w : World} {K : PySem.W.Frag} {mg : Str → Option Value} {base : Heap}
theorem sc_need_many : FnScope ["value"] ["value"] (defScope (topS 13)) := C8.fnScope_by (by decide +kernel)
theorem c_need_many (T : Tx K mg) : CalX P w K mg base 2 "need_many" (spNeedMany K) := by
  obtain ⟨t30, hth⟩ := T.things
  refine calX_of T.d_need_many (fun _ _ _ _ _ _ us hl => match us, hl with | [_], _ => rfl) sc_need_many (fun vs H Q E h => ?_) (fun f cdv A outer s H vs Q E hr h => ?_)
  · obtain ⟨v, d, rfl, _⟩ := h
    rfl
  · obtain ⟨v, d, rfl, hd, q1, q2⟩ := h
    refine ⟨_, pss_one (ps_if (pt_not (pt_val (C8.pe_c (c_whole T) hr (by decide) (by rfl) (pa_cons (pv 0) (pa_cons pe_int (pa_cons (pe_glob (v := .int 30) (by rfl) hth ⟨_, rfl⟩) pa_nil))))))
      (pss_one (L2N.ps_raise rfl (L2N.takes_of rfl rfl rfl rfl) (L2N.pmk_own PySem.F.excBase_ValueError T.e_many.q T.e_many.g T.e_many.k (raises_own T.e_many.s T.e_many.t) (by rfl)))) pss_nil), ?_⟩
    refine ⟨v, rfl, v, 1, 30, rfl, plain_dp hd, _, rfl, ?_⟩
    rw [whole_dp hd]
    cases e : wholeD d 1 30 with
    | true => exact iteF (q1 e)
    | false => exact iteT (q2 e)
theorem sc_need_few : FnScope ["many", "limit"] ["many", "limit"] (defScope (topS 14)) := C8.fnScope_by (by decide +kernel)
theorem c_need_few (T : Tx K mg) (TM : TmRule P w K mg base) : CalX P w K mg base 4 "need_few" (spNeedFew K) := by
  refine calX_of T.d_need_few (fun _ _ _ _ _ _ us hl => match us, hl with | [_, _], _ => rfl) sc_need_few (fun vs H Q E h => ?_) (fun f cdv A outer s H vs Q E hr h => ?_)
  · obtain ⟨n, l, rfl, _⟩ := h
    rfl
  · obtain ⟨n, l, rfl, q1, q2⟩ := h
    refine ⟨_, pss_one (ps_if (pt_cmpR op_gt (pv 0) (pv 1) (nomark _))
      (pss_one (L2N.ps_raise rfl (L2N.takes_of rfl rfl rfl rfl) (TM _ rfl rfl rfl rfl rfl rfl hr (by rfl) _ _ _ _ (pv 1) (by rfl)))) pss_nil), ?_⟩
    refine ⟨_, rfl, _, rfl, n, l, rfl, rfl, _, rfl, ite2 (fun e => ?_) (fun e => ?_)⟩
    · exact ⟨_, rfl, l, rfl, fun H' d s' x' => q2 (of_decide_eq_true e) H' d s' x'⟩
    · exact q1 (by
        have : ¬ n > l := fun z => e (decide_eq_true z)
        omega)
/-- a mapping comprehension over a tuple that is read -/
theorem lc_mapQ {K : PySem.W.Frag} {a : Addr} {xs : List V} {g : TG} {te : TE} {vs : List Nat} {σ : L2.St} {H1 : Hp} {D : Addr} {Qd : Hp → Prop} (R : Nat → V → Hp → Prop) (hR : ∀ i y H H', Tps H H' → R i y H → R i y H') (hD : H1 D = none) (ha : SqT K H1 a xs) (hz : xs.length ≤ 10000000)
    (hs : ∀ i x H, xs[i]? = some x → Same H1 H → ∀ k : VK, (∀ y H', Same H H' → R i y H' → k y H') → g x (wipe σ vs) H fun σ2 H2 => wipe σ2 vs = wipe σ vs ∧ te σ2 H2 k)
    (hd : ∀ H ys, Same H1 H → H D = some (.lst ys) → ys.length = xs.length → (∀ (i : Nat) (y : V), ys[i]? = some y → R i y H) → Qd H) (hg : ∀ x σ H Q Q', (∀ σ2 H2, Q σ2 H2 → Q' σ2 H2) → g x σ H Q → g x σ H Q') :
    ∃ W : Nat → Nat → Hp → Prop, (∃ m, W 0 m (upd H1 D (.lst []))) ∧ ∀ i m H, W i m H →
      ((Itt K a).stop i H ∧ Qd H) ∨ ((Itt K a).go i H ∧ ∃ Nx : Hp → Prop, (∀ H', Nx H' → ∃ m', m' < m ∧ W (i + 1) m' H') ∧ ∀ x H', (Itt K a).yld i H x H' → g x (wipe σ vs) H' fun σ2 H2 => wipe σ2 vs = wipe σ vs ∧ tYes σ2 H2 fun b H3 =>
        if b = true then te σ2 H3 fun y H4 => ∃ acc, H4 D = some (.lst acc) ∧ acc.length < sizeLine ∧ Nx (upd H4 D (.lst (acc ++ [y]))) else Nx H3) := by
  have nD : ∀ {b o}, H1 b = some o → b ≠ D := fun e => ne_of_none e hD
  have sD : ∀ {H : Hp} {zs : List V}, Same H1 H → Same H1 (upd H D (.lst zs)) := fun {H zs} s b o e => by
    rw [upd_ne (nD e)]
    exact s b o e
  refine lc_tup (xs := xs) (fun i H => i ≤ xs.length ∧ Same H1 H ∧ ∃ ys, H D = some (.lst ys) ∧ ys.length = i ∧ ∀ (j : Nat) (y : V), ys[j]? = some y → R j y H) ⟨Nat.zero_le _, sD (Same.refl H1), [], upd_same, rfl, fun j y e => by simp at e⟩ ?_ ?_ ?_
  · rintro i H _ ⟨_, s, _⟩
    exact Same.sqT s ha
  · rintro i x H hx ⟨hi, s, ys, hy, hl, hr⟩
    have hlt : i < xs.length := (List.getElem?_eq_some_iff.mp hx).1
    refine hg _ _ _ _ _ (fun σ2 H2 ⟨w2, h2⟩ => ⟨w2, h2⟩) (hs i x H hx s _ fun y H' s' r' => ?_)
    have e' := s' _ _ hy
    refine ⟨ys, e', few' (by omega), hlt, sD (s.trans s'), ys ++ [y], upd_same, by rw [List.length_append, hl]; rfl, fun j z ez => ?_⟩
    rcases Nat.lt_or_ge j ys.length with h | h
    · rw [List.getElem?_append_left h] at ez
      exact hR _ _ _ _ (Tps.trans (Same.tps s') (tps_lst e')) (hr j z ez)
    · rw [List.getElem?_append_right h] at ez
      have h0 : j - ys.length = 0 := by
        rcases Nat.eq_zero_or_pos (j - ys.length) with h0 | h0
        · exact h0
        · rw [List.getElem?_eq_none (by simp; omega)] at ez
          cases ez
      rw [h0] at ez
      obtain rfl := Option.some.inj ez
      rw [show j = i by omega]
      exact hR _ _ _ _ (tps_lst e') r'
  · rintro H ⟨_, s, ys, hy, hl, hr⟩
    exact hd H ys s hy hl hr
/-! ### fits_net, need_net -/
def fitsPair (many : Int) : PyData → Bool
  | .tuple [a, b] => wholeD a 0 (many - 1) && wholeD b 0 (many - 1) && (match a, b with
    | .int i, .int j => decide (i < j)
    | _, _ => false)
  | _ => false
def fitsNet (many : Int) : PyData → Bool
  | .tuple ps => decide (ps.length ≤ 120) && ps.all (fitsPair many)
  | _ => false
def spFitsNet (K : PySem.W.Frag) : Sp := fun vs H Q _ => ∃ many v d, vs = [.int many, v] ∧ Dp K H v d ∧ ∀ H', Same H H' → Q (.bl (fitsNet many d)) H'
theorem sc_fits_net : FnScope ["many", "value", "pair", "one"] ["many", "value"] (defScope (topS 18)) := C8.fnScope_by (by decide +kernel)
theorem fp_bad1 {many : Int} {d : PyData} (h : isTup d = false) : fitsPair many d = false := by
  cases d with
  | tuple ds => cases h
  | _ => rfl
theorem fp_bad2 {many : Int} {ds : List PyData} (h : ds.length ≠ 2) : fitsPair many (.tuple ds) = false := by
  match ds, h with
  | [], _ => rfl
  | [_], _ => rfl
  | [_, _], h => exact absurd rfl h
  | _ :: _ :: _ :: _, _ => rfl
theorem fp_bad3 {many : Int} {ds : List PyData} (h2 : ds.length = 2) (h : (ds.map fun d => wholeD d 0 (many - 1)).all id = false) : fitsPair many (.tuple ds) = false := by
  match ds, h2 with
  | [a, b], _ =>
    have e : (wholeD a 0 (many - 1) && wholeD b 0 (many - 1)) = false := by simpa using h
    show (wholeD a 0 (many - 1) && wholeD b 0 (many - 1) && _) = false
    rw [e, Bool.false_and]
theorem wholeD_int {d : PyData} {lo hi : Int} (h : wholeD d lo hi = true) : ∃ i, d = .int i ∧ lo ≤ i ∧ i ≤ hi := by
  cases d with
  | int i =>
    have h' : (decide (lo ≤ i) && decide (i ≤ hi)) = true := h
    simp only [Bool.and_eq_true, decide_eq_true_eq] at h'
    exact ⟨i, rfl, h'.1, h'.2⟩
  | _ => cases h
theorem fp_good {many : Int} {ds : List PyData} (h2 : ds.length = 2) (h : (ds.map fun d => wholeD d 0 (many - 1)).all id = true) : ∃ i j, ds = [.int i, .int j] ∧ fitsPair many (.tuple ds) = decide (i < j) := by
  match ds, h2 with
  | [a, b], _ =>
    have e : wholeD a 0 (many - 1) = true ∧ wholeD b 0 (many - 1) = true := by simpa using h
    obtain ⟨i, rfl, i1, i2⟩ := wholeD_int e.1
    obtain ⟨j, rfl, j1, j2⟩ := wholeD_int e.2
    refine ⟨i, j, rfl, ?_⟩
    show (wholeD (.int i) 0 (many - 1) && wholeD (.int j) 0 (many - 1) && decide (i < j)) = _
    rw [e.1, e.2, Bool.true_and, Bool.true_and]
theorem bls_of : ∀ {ds : List PyData} {ys : List V} {g : PyData → Bool}, ys.length = ds.length → (∀ (i : Nat) (y : V), ys[i]? = some y → ∃ d, ds[i]? = some d ∧ y = .bl (g d)) → ys = (ds.map g).map V.bl
  | [], [], _, _, _ => rfl
  | [], _ :: _, _, h, _ => by cases h
  | _ :: _, [], _, h, _ => by cases h
  | d :: ds, y :: ys, g, hl, h => by
    obtain ⟨d', e1, e2⟩ := h 0 y rfl
    obtain rfl : d = d' := Option.some.inj e1
    rw [bls_of (ds := ds) (ys := ys) (g := g) (by simpa using hl) fun i z ez => by
      obtain ⟨d', k1, k2⟩ := h (i + 1) z (by simpa using ez)
      exact ⟨d', by simpa using k1, k2⟩, e2]
    rfl
theorem c_fits_net (T : Tx K mg) : C8.Cal P w K mg base 2 "fits_net" (spFitsNet K) [] := by
  obtain ⟨t120, hco⟩ := T.comparers
  refine cal_of T.d_fits_net (fun _ _ _ _ _ _ us hl => match us, hl with | [_, _], _ => rfl) sc_fits_net (fun vs H Q E h => ?_) (fun f cdv A outer s H vs Q E hr h => ?_)
  · obtain ⟨n, v, d, rfl, _⟩ := h
    rfl
  · obtain ⟨many, v, d, rfl, hd, q⟩ := h
    refine ⟨_, pss_cons (ps_if (PW.pt (pw_or (pt_not (pt_val (pe_callB call_isi (by rfl) T.isinst (by decide +kernel) (pa_cons (pv 1) (pa_cons (pe_bltn (v := .ty "tuple") (by rfl) T.tuple_ (by decide +kernel) rfl) pa_nil)))))
        (pw_or1 (pt_cmpR op_gt (pe_callB call_len_seq (by rfl) T.len_ PySem.boot_len (pa_cons (pv 1) pa_nil)) (pe_glob (v := .int 120) (by rfl) hco ⟨_, rfl⟩) (nomark _))))) (pss_one (ps_ret pe_bl)) pss_nil)
      (pss_cons (ps_for PassesOwn.never rfl (pi_tup (pv 1)) (pg_name (i := 2) sc_fits_net.nd rfl (.inl rfl))
        (pss_cons (ps_if (PW.pt (pw_or (pt_not (pt_val (pe_callB call_isi (by rfl) T.isinst (by decide +kernel) (pa_cons (pv 2) (pa_cons (pe_bltn (v := .ty "tuple") (by rfl) T.tuple_ (by decide +kernel) rfl) pa_nil)))))
          (pw_or (pt_cmpR op_ne (pe_callB call_len_seq (by rfl) T.len_ PySem.boot_len (pa_cons (pv 2) pa_nil)) pe_int (nomark _))
            (pw_or1 (pt_not (pt_val (pe_callB (cr_all rfl) (by rfl) T.all_ (by decide +kernel) (pa_cons (pe_lc (own := [("one", 3)]) (g := gName 3) (by rfl) sc_fits_net.nd (pi_tup (pv 2)) (blkOk_by (N := ["many", "value", "pair", "one"]) (sc := defScope (topS 18)) (by decide +kernel))
              (fun _ _ _ _ _ => pg_name (i := 3) sc_fits_net.nd rfl (.inl rfl)) (fun _ _ _ _ _ => pts_nil) (fun _ _ _ _ _ => C8.pe_c (c_whole T) hr (by decide) (by rfl) (pa_cons (pv 3) (pa_cons pe_int (pa_cons (pe_op op_sub (pv 0) pe_int) pa_nil))))) pa_nil))))))))
          (pss_one (ps_ret pe_bl)) pss_nil)
        (pss_one (ps_if (pt_cmpR op_ge (pe_ix ix_tup (pv 2) pe_int (fun _ _ => rfl)) (pe_ix ix_tup (pv 2) pe_int (fun _ _ => rfl)) (nomark _)) (pss_one (ps_ret pe_bl)) pss_nil))))
      (pss_one (ps_ret pe_bl))), ?_⟩
    refine ⟨v, rfl, v, .ty "tuple", _, _, isTup d, rfl, .ty "tuple", ty_dp hd, kit_tup hd, isTup d, rfl, ?_⟩
    show (if (!isTup d) = true then _ else _)
    cases hT : isTup d with
    | false =>
      have e : fitsNet many d = false := by
        cases d with
        | tuple ds => cases hT
        | _ => rfl
      rw [e] at q
      exact iteT (q H (Same.refl H))
    | true =>
      refine iteF ?_
      cases hd with
      | @tup a xs ds h1 h2 =>
        have hl := dpAll_len h2
        refine ⟨.ref a, rfl, a, xs, rfl, .inr h1, _, _, rfl, rfl, _, rfl, ite2 (fun e => ?_) (fun e => ?_)⟩
        · have e' : (120 : Int) < xs.length := of_decide_eq_true e
          have ef : fitsNet many (.tuple ds) = false := by
            show (decide (ds.length ≤ 120) && _) = false
            rw [decide_eq_false (by omega), Bool.false_and]
          rw [ef] at q
          exact q H (Same.refl H)
        · have e' : ¬ (120 : Int) < xs.length := fun z => e (decide_eq_true z)
          have bad : ∀ (i : Nat) (d' : PyData), ds[i]? = some d' → fitsPair many d' = false → fitsNet many (.tuple ds) = false := fun i d' h h' => by
            show (_ && ds.all (fitsPair many)) = false
            rw [show ds.all (fitsPair many) = false from List.all_eq_false.mpr ⟨d', List.mem_of_getElem? h, by rw [h']; decide⟩, Bool.and_false]
          refine ⟨.ref a, rfl, a, rfl, ⟨_, h1⟩, for_tup (xs := xs) (fun i σ H2 => ∃ y, σ = [some (.int many), some (.ref a), y, none] ∧ Same H H2 ∧ (ds.take i).all (fitsPair many) = true) ⟨none, rfl, Same.refl H, rfl⟩ ?_ ?_ ?_⟩
          · rintro i σ H2 _ ⟨y, rfl, s2, _⟩
            exact Same.sqT s2 h1
          · rintro i x σ H2 hx ⟨y, rfl, s2, hall⟩
            obtain ⟨d', hd1, hd2⟩ := dpAll_at h2 hx
            have hd3 := dp_keep s2 d' hd2
            have bad' : fitsPair many d' = false → Q (.bl false) H2 := fun h => by
              have := q H2 s2
              rw [bad i d' hd1 h] at this
              exact this
            refine ⟨x, rfl, x, .ty "tuple", _, _, isTup d', rfl, .ty "tuple", ty_dp hd3, kit_tup hd3, isTup d', rfl, ?_⟩
            show (if (!isTup d') = true then _ else _)
            cases hT' : isTup d' with
            | false => exact iteT (bad' (fp_bad1 hT'))
            | true =>
              refine iteF ?_
              cases hd3 with
              | @tup b xs' ds' g1 g2 =>
                have hl' := dpAll_len g2
                refine ⟨.ref b, rfl, b, xs', rfl, .inr g1, rfl, _, rfl, ?_⟩
                by_cases h2 : xs'.length = 2
                · have e2 : (!decide (V.int (xs'.length : Int) = V.int 2)) = false := by
                    rw [h2]
                    decide
                  rw [e2]
                  refine iteF ⟨.ref b, rfl, b, rfl, ⟨_, g1⟩, fun D hD => ?_⟩
                  refine lc_mapQ (xs := xs') (fun i y _ => ∃ d, ds'[i]? = some d ∧ y = .bl (wholeD d 0 (many - 1))) (fun i y H H' _ h => h) hD (Same.sqT (Same.refl H2) g1) (by omega) ?_ ?_ (gName_mono 3)
                  · intro j z H3 hz s3 k hk
                    obtain ⟨dz, z1, z2⟩ := dpAll_at g2 hz
                    refine ⟨rfl, z, rfl, _, rfl, many, 1, rfl, rfl, z, 0, many - 1, rfl, plain_dp (dp_keep s3 dz z2), ?_⟩
                    rw [whole_dp z2]
                    exact hk _ _ (Same.refl H3) ⟨dz, z1, rfl⟩
                  · intro H3 ys s3 e3 l3 hys
                    have ey := bls_of (ds := ds') (g := fun d => wholeD d 0 (many - 1)) (by omega) hys
                    rw [ey] at e3
                    refine ⟨D, _, rfl, SqL.of e3, _, rfl, ?_⟩
                    show (if (!(ds'.map fun d => wholeD d 0 (many - 1)).all id) = true then _ else _)
                    cases hA : (ds'.map fun d => wholeD d 0 (many - 1)).all id with
                    | false =>
                      have b3 := q H3 (s2.trans s3)
                      rw [bad i _ hd1 (fp_bad3 (by omega) hA)] at b3
                      exact iteT b3
                    | true =>
                      refine iteF ?_
                      obtain ⟨p, r, rfl, er⟩ := fp_good (by omega) hA
                      have g1' := Same.sqT s3 g1
                      obtain ⟨x0, x1, rfl⟩ : ∃ x0 x1, xs' = [x0, x1] := by
                        match xs', h2 with
                        | [x0, x1], _ => exact ⟨x0, x1, rfl⟩
                      cases g2 with
                      | cons k1 k2 =>
                        cases k2 with
                        | cons k2 k3 =>
                          cases k1
                          cases k2
                          refine ⟨.ref b, rfl, b, _, 0, .int p, rfl, rfl, g1', atI_nat (j := 0) rfl, .ref b, rfl, b, _, 1, .int r, rfl, rfl, g1', atI_nat (j := 1) rfl, p, r, rfl, rfl, _, rfl, ite2 (fun e => ?_) (fun e => ?_)⟩
                          · have hle : r ≤ p := of_decide_eq_true e
                            have b3 := q H3 (s2.trans s3)
                            rw [bad i _ hd1 (by rw [er, decide_eq_false (by omega)])] at b3
                            exact b3
                          · have hlt : p < r := by
                              have : ¬ r ≤ p := fun z => e (decide_eq_true z)
                              omega
                            refine ⟨_, rfl, s2.trans s3, ?_⟩
                            rw [List.take_add_one, hd1, List.all_append, hall, Bool.true_and]
                            show (fitsPair many _ && true) = true
                            rw [er, decide_eq_true hlt]
                            rfl
                · have e2 : (!decide (V.int (xs'.length : Int) = V.int 2)) = true := by
                    rw [decide_eq_false (fun z => h2 (by
                      have z' : (xs'.length : Int) = 2 := V.int.inj z
                      omega))]
                    rfl
                  rw [e2]
                  exact bad' (fp_bad2 (by omega))
              | _ => cases hT'
          · rintro σ H2 ⟨y, rfl, s2, hall⟩
            have := q H2 s2
            rw [hl, List.take_length] at hall
            rw [show fitsNet many (.tuple ds) = true by
              show (decide (ds.length ≤ 120) && ds.all (fitsPair many)) = true
              rw [hall, decide_eq_true (by omega)]
              rfl] at this
            exact this
      | _ => cases hT
def spNeedNet (K : PySem.W.Frag) : Sp := fun vs H Q E => ∃ many v d, vs = [.int many, v] ∧ Dp K H v d ∧ (fitsNet many d = true → ∀ H', Same H H' → Q .non H') ∧ (fitsNet many d = false → ∀ H', Same H H' → E (.ref (He.ga K "InvalidNet")) none H')
theorem sc_need_net : FnScope ["many", "value"] ["many", "value"] (defScope (topS 19)) := C8.fnScope_by (by decide +kernel)
theorem c_need_net (T : Tx K mg) : CalX P w K mg base 3 "need_net" (spNeedNet K) := by
  refine calX_of T.d_need_net (fun _ _ _ _ _ _ us hl => match us, hl with | [_, _], _ => rfl) sc_need_net (fun vs H Q E h => ?_) (fun f cdv A outer s H vs Q E hr h => ?_)
  · obtain ⟨n, v, d, rfl, _⟩ := h
    rfl
  · obtain ⟨many, v, d, rfl, hd, q1, q2⟩ := h
    refine ⟨_, pss_one (ps_if (pt_not (pt_val (C8.pe_c (c_fits_net T) hr (by decide) (by rfl) (pa_cons (pv 0) (pa_cons (pv 1) pa_nil)))))
      (pss_one (L2N.ps_raise rfl (L2N.takes_of rfl rfl rfl rfl) (L2N.pmk_own PySem.F.excBase_ValueError T.e_net.q T.e_net.g T.e_net.k (raises_own T.e_net.s T.e_net.t) (by rfl)))) pss_nil), ?_⟩
    refine ⟨_, rfl, _, rfl, many, v, d, rfl, hd, fun H' s' => ⟨_, rfl, ?_⟩⟩
    cases e : fitsNet many d with
    | true => exact iteF (q1 e H' s')
    | false => exact iteT (q2 e H' s')
end
end WO

set_option Elab.async false
set_option linter.all false
set_option maxRecDepth 100000
set_option maxHeartbeats 4000000
namespace WO
open PySem PySem.Spec PyProof.Rows L2 WOm
/-! ### all_marks -/
theorem rv_inj {a b : Rw} (h : rv a = rv b) : a = b := by
  induction a generalizing b with
  | nil =>
    cases b with
    | nil => rfl
    | cons y b => cases h
  | cons x a ih =>
    cases b with
    | nil => cases h
    | cons y b =>
      have h' : V.int x :: rv a = V.int y :: rv b := h
      injection h' with h1 h2
      injection h1 with h1
      rw [h1, ih h2]
theorem lift_refs {L : List (Addr × Rw)} : ∀ {ys : List V}, (∀ y ∈ ys, y ∈ refs L) → ∃ L' : List (Addr × Rw), ys = refs L' ∧ ∀ p ∈ L', p ∈ L
  | [], _ => ⟨[], rfl, fun p m => by cases m⟩
  | y :: ys, h => by
    obtain ⟨L', e, hm⟩ := lift_refs (ys := ys) fun z m => h z (List.mem_cons_of_mem _ m)
    obtain ⟨p, mp, ep⟩ := List.mem_map.mp (h y List.mem_cons_self)
    refine ⟨p :: L', by rw [e, ← ep]; rfl, fun q m => ?_⟩
    rcases List.mem_cons.mp m with e | m
    · rw [e]; exact mp
    · exact hm q m
theorem lsAt_app {H : Hp} {a b p : Addr} {ra rb : List Rw} (ha : LsAt H a ra) (hb : LsAt H b rb) (hp : ∀ xs ys, H a = some (.lst xs) → H b = some (.lst ys) → H p = some (.lst (xs ++ ys))) : LsAt H p (ra ++ rb) := by
  obtain ⟨L1, h1, e1, r1⟩ := ha
  obtain ⟨L2, h2, e2, r2⟩ := hb
  refine ⟨L1 ++ L2, by rw [hp _ _ h1 h2]; unfold refs; rw [List.map_append], by rw [List.map_append, e1, e2], fun q m => ?_⟩
  rcases List.mem_append.mp m with m | m
  · exact r1 q m
  · exact r2 q m
theorem marks_len : ∀ n : Nat, (marks n).length = 2 ^ n
  | 0 => rfl
  | n + 1 => by
    show ((marks n).map (· ++ [0]) ++ (marks n).map (· ++ [1])).length = _
    rw [List.length_append, List.length_map, List.length_map, marks_len n, Nat.pow_succ]
    omega
theorem marks_fit : ∀ n : Nat, Fits n (marks n)
  | 0 => fun r m => by
    rw [List.mem_singleton.mp m]
    exact ⟨rfl, fun x m => by cases m⟩
  | n + 1 => fun r m => by
    have key : ∀ (z : Int), 0 ≤ z → z < 64 → r ∈ (marks n).map (· ++ [z]) → r.length = n + 1 ∧ TS.Bd 64 r := fun z z1 z2 m => by
      obtain ⟨r', m1, rfl⟩ := List.mem_map.mp m
      obtain ⟨l, b⟩ := marks_fit n r' m1
      refine ⟨by rw [List.length_append, l]; rfl, fun x mx => ?_⟩
      rcases List.mem_append.mp mx with mx | mx
      · exact b x mx
      · rw [List.mem_singleton.mp mx]
        exact ⟨z1, z2⟩
    rcases List.mem_append.mp (show r ∈ (marks n).map (· ++ [0]) ++ (marks n).map (· ++ [1]) from m) with m | m
    · exact key 0 (by decide) (by decide) m
    · exact key 1 (by decide) (by decide) m
/-- a mapping step: a row with one item more -/
theorem snoc_hs {z : Int} {i : Nat} {L : List (Addr × Rw)} {H : Hp} {s0 s1 s2 s3 : Option V} (hi : i ≤ 1000) (hm : L.map (·.2) = marks i) (hri : RowsIn H L) : ∀ (j : Nat) (x : V), (refs L)[j]? = some x → ∀ k : VK, (∀ y H', Same H H' → IsRow ((marks i).map (· ++ [z])) j y H' → k y H') →
    gName 3 x (wipe [s0, s1, s2, s3] [3]) H fun σ2 H2 => wipe σ2 [3] = wipe [s0, s1, s2, s3] [3] ∧ tOp rCatS (tVar 3) (tTup (tCons (tC (.int z)) tNil)) σ2 H2 k := by
  intro j x hx k hk
  rw [List.getElem?_map] at hx
  obtain ⟨pr, hp, rfl⟩ := Option.map_eq_some_iff.mp hx
  have mp : pr ∈ L := List.mem_of_getElem? hp
  have l1 := (marks_fit i pr.2 (by rw [← hm]; exact List.mem_map.mpr ⟨pr, mp, rfl⟩)).1
  refine ⟨rfl, .ref pr.1, rfl, few1, fun p5 n5 => ?_⟩
  generalize hH5 : upd H p5 _ = H5
  have s5 : Same H H5 := hH5 ▸ same_upd n5
  have e5 : H5 p5 = some (.tup [.int z]) := hH5 ▸ upd_same
  refine ⟨pr.1, p5, _, _, rfl, rfl, s5 _ _ (hri pr mp), e5, ?_, fun H6 p6 s6 e6 => hk _ _ (s5.trans s6) ⟨p6, pr.2 ++ [z], rfl, ?_, ?_⟩⟩
  · rw [rv_len, l1]
    exact few (by show i + 1 ≤ _; omega)
  · rw [← hm, List.map_map, List.getElem?_map, hp]
    rfl
  · refine Eq.trans e6 ?_
    show some (HO.tup (rv pr.2 ++ rv [z])) = some (HO.tup (rv (pr.2 ++ [z])))
    unfold rv
    rw [List.map_append]
def spAllMarks : Sp := fun vs H Q _ => ∃ n : Nat, vs = [.int n] ∧ 1 ≤ n ∧ n ≤ 5 ∧ ∀ H' p rows, Same H H' → LsAt H' p rows → (∀ r, r ∈ rows ↔ r ∈ marks n) → rows.length = 2 ^ n → Q (.ref p) H'
section
variable {P : Program} {w : World} {K : PySem.W.Frag} {mg : Str → Option Value} {base : Heap}
theorem sc_all_marks : FnScope ["many", "found", "turn", "row"] ["many"] (defScope (topS 22)) := C8.fnScope_by (by decide +kernel)
theorem c_all_marks (T : Tx K mg) : C8.Cal P w K mg base 1 "all_marks" spAllMarks [] := by
  refine cal_of T.d_all_marks (fun _ _ _ _ _ _ us hl => match us, hl with | [_], _ => rfl) sc_all_marks (fun vs H Q E h => ?_) (fun f cdv A outer s H vs Q E hr h => ?_)
  · obtain ⟨n, rfl, _⟩ := h
    rfl
  · obtain ⟨n, rfl, h1, h5, q⟩ := h
    refine ⟨_, pss_cons (ps_set (i := 1) sc_all_marks.nd rfl (.inl rfl) (pe_lst (pa_cons (pe_tup pa_nil) pa_nil)))
      (pss_cons (ps_for PassesOwn.never rfl (pi_range1 (by rfl) T.range_ (pa_cons (pv 0) pa_nil)) (pg_name (i := 2) sc_all_marks.nd rfl (.inl rfl))
        (pss_one (ps_set (i := 1) sc_all_marks.nd rfl (.inl rfl) (pe_op op_cat
          (pe_lc (own := [("row", 3)]) (g := gName 3) (by rfl) sc_all_marks.nd (pi_list (pv 1)) (blkOk_by (N := ["many", "found", "turn", "row"]) (sc := defScope (topS 22)) (by decide +kernel)) (fun _ _ _ _ _ => pg_name (i := 3) sc_all_marks.nd rfl (.inl rfl)) (fun _ _ _ _ _ => pts_nil)
            (fun _ _ _ _ _ => pe_op op_catS (pv 3) (pe_tup (pa_cons pe_int pa_nil))))
          (pe_lc (own := [("row", 3)]) (g := gName 3) (by rfl) sc_all_marks.nd (pi_list (pv 1)) (blkOk_by (N := ["many", "found", "turn", "row"]) (sc := defScope (topS 22)) (by decide +kernel)) (fun _ _ _ _ _ => pg_name (i := 3) sc_all_marks.nd rfl (.inl rfl)) (fun _ _ _ _ _ => pts_nil)
            (fun _ _ _ _ _ => pe_op op_catS (pv 3) (pe_tup (pa_cons pe_int pa_nil))))))))
      (pss_one (ps_ret (pe_callB (cr_sortT (d := n) (B := 64) h1) (by rfl) T.sorted_ (by decide +kernel) (pa_cons (pv 1) pa_nil))))), ?_⟩
    refine ⟨few0, fun b0 n0 => ?_⟩
    generalize hH0 : upd H b0 _ = H0
    have s0 : Same H H0 := hH0 ▸ same_upd n0
    have e0 : H0 b0 = some (.tup (rv [])) := hH0 ▸ upd_same
    refine ⟨few1, fun b1 n1 => ?_⟩
    generalize hH1 : upd H0 b1 _ = H1
    have s1 : Same H0 H1 := hH1 ▸ same_upd n1
    have e1 : H1 b1 = some (.lst [.ref b0]) := hH1 ▸ upd_same
    refine ⟨.int n, rfl, n, rfl, by omega, by omega, for_range (n := n) (lo := 0) (fun i σ H2 => ∃ b y, σ = [some (.int n), some (.ref b), y, none] ∧ Same H H2 ∧ LsAt H2 b (marks i)) ⟨b1, none, rfl, s0.trans s1, [(b0, [])], e1, rfl, fun p m => ?_⟩ ?_ ?_⟩
    · rw [List.mem_singleton.mp m]
      exact s1 _ _ e0
    · rintro i σ H2 hi ⟨b, y, rfl, s2, hb⟩
      have hp2 : 2 ^ i ≤ 2 ^ 5 := Nat.pow_le_pow_right (by decide) (by omega)
      obtain ⟨L, hL, hm, hri⟩ := id hb
      have hlen : L.length = 2 ^ i := by rw [← marks_len i, ← hm, List.length_map]
      refine ⟨.ref b, rfl, b, rfl, ⟨_, SqL.of hL⟩, fun D hD => lc_map (xs := refs L) (IsRow ((marks i).map (· ++ [0]))) (isRow_keep _) hD hL (by rw [List.length_map]; omega) (fun j x H4 hx s4 k hk => snoc_hs (i := i) (by omega) hm (fun p m => s4 _ _ (hri p m)) j x hx k hk) (fun H3 ys s3 e3 hl hys => ?_) (gName_mono 3)⟩
      have l3 : LsAt H3 D ((marks i).map (· ++ [0])) := lsAt_of e3 (by rw [hl, List.length_map, List.length_map, ← hm, List.length_map]) hys
      refine ⟨.ref b, rfl, b, rfl, ⟨_, SqL.of (s3 _ _ hL)⟩, fun D' hD' => lc_map (xs := refs L) (IsRow ((marks i).map (· ++ [1]))) (isRow_keep _) hD' (s3 _ _ hL) (by rw [List.length_map]; omega) (fun j x H4 hx s4 k hk => snoc_hs (i := i) (by omega) hm (fun p m => s4 _ _ (s3 _ _ (hri p m))) j x hx k hk) (fun H4 ys' s4 e4 hl' hys' => ?_) (gName_mono 3)⟩
      have l4 : LsAt H4 D' ((marks i).map (· ++ [1])) := lsAt_of e4 (by rw [hl', List.length_map, List.length_map, ← hm, List.length_map]) hys'
      have l3' := l3.same s4
      obtain ⟨La, ha, ea, ra⟩ := id l3'
      obtain ⟨Lb, hb', eb, rb⟩ := id l4
      have na : La.length = 2 ^ i := by rw [← marks_len i]; have := congrArg List.length ea; simpa using this
      have nb : Lb.length = 2 ^ i := by rw [← marks_len i]; have := congrArg List.length eb; simpa using this
      refine ⟨D, D', refs La, refs Lb, rfl, rfl, ha, hb', few (by rw [List.length_map, List.length_map]; omega), fun p np => ?_⟩
      generalize hH5 : upd H4 p _ = H5
      have s5 : Same H4 H5 := hH5 ▸ same_upd np
      have e5 : H5 p = some (.lst (refs La ++ refs Lb)) := hH5 ▸ upd_same
      refine ⟨p, some (.int (0 + i)), rfl, ((s2.trans s3).trans s4).trans s5, ?_⟩
      show LsAt H5 p ((marks i).map (· ++ [0]) ++ (marks i).map (· ++ [1]))
      refine lsAt_app (l3'.same s5) (l4.same s5) fun xs ys hx hy => ?_
      rw [s5 _ _ ha] at hx
      rw [s5 _ _ hb'] at hy
      cases hx
      cases hy
      exact e5
    · rintro σ H2 ⟨b, y, rfl, s2, ⟨L, hL, hm, hri⟩⟩
      have hlen : L.length = 2 ^ n := by rw [← marks_len n, ← hm, List.length_map]
      have hlen2 : 2 ^ n ≤ 2 ^ 5 := Nat.pow_le_pow_right (by decide) (by omega)
      refine ⟨.ref b, rfl, b, refs L, rfl, SqL.of hL, by rw [List.length_map]; omega, fun x mx => ?_, fun ys p pm _ np => ?_⟩
      · obtain ⟨pr, mp, rfl⟩ := List.mem_map.mp mx
        obtain ⟨l1, b1⟩ := marks_fit n pr.2 (by rw [← hm]; exact List.mem_map.mpr ⟨pr, mp, rfl⟩)
        exact ⟨pr.2, ⟨pr.1, rfl, SqT.of (hri pr mp)⟩, l1, b1⟩
      · generalize hH3 : upd H2 p _ = H3
        have s3 : Same H2 H3 := hH3 ▸ same_upd np
        have e3 : H3 p = some (.lst ys) := hH3 ▸ upd_same
        obtain ⟨L', ey, hL'⟩ := lift_refs (L := L) (ys := ys) fun y m => pm.mem_iff.mp m
        refine q H3 p (L'.map (·.2)) (s2.trans s3) ⟨L', by rw [e3, ey], rfl, fun r m => s3 _ _ (hri r (hL' r m))⟩ (fun r => ?_) ?_
        · constructor
          · intro m
            obtain ⟨pr, mp, rfl⟩ := List.mem_map.mp m
            rw [← hm]
            exact List.mem_map.mpr ⟨pr, hL' pr mp, rfl⟩
          · intro m
            rw [← hm] at m
            obtain ⟨pr, mp, rfl⟩ := List.mem_map.mp m
            have m2 : V.ref pr.1 ∈ ys := pm.mem_iff.mpr (List.mem_map.mpr ⟨pr, mp, rfl⟩)
            rw [ey] at m2
            obtain ⟨pr', mp', e'⟩ := List.mem_map.mp m2
            injection e' with e'
            have r1 := hri pr' (hL' pr' mp')
            rw [e'] at r1
            have r2 := hri pr mp
            have r2 := (show H2 pr.1 = _ from r1).symm.trans (show H2 pr.1 = _ from r2)
            have r3 : rv pr'.2 = rv pr.2 := by
              injection r2 with r2
              injection r2
            exact List.mem_map.mpr ⟨pr', mp', rv_inj r3⟩
        · have := pm.length_eq
          rw [ey, List.length_map, List.length_map] at this
          rw [List.length_map]
          omega
end
end WO

set_option Elab.async false
set_option linter.all false
set_option maxRecDepth 100000
set_option maxHeartbeats 4000000
namespace WO
open PySem PySem.Spec PyProof.Rows L2 WOm
/-! ### is_sorted_row -/
def adj : Rw → List Bool
  | x :: y :: l => decide (x ≤ y) :: adj (y :: l)
  | _ => []
theorem adj_asc : ∀ r : Rw, (adj r).all id = asc r
  | [] => rfl
  | [_] => rfl
  | x :: y :: l => by
    show (decide (x ≤ y) && (adj (y :: l)).all id) = (decide (x ≤ y) && asc (y :: l))
    rw [adj_asc (y :: l)]
theorem adj_len : ∀ r : Rw, (adj r).length = r.length - 1
  | [] => rfl
  | [_] => rfl
  | x :: y :: l => by
    show (adj (y :: l)).length + 1 = l.length + 1 + 1 - 1
    rw [adj_len (y :: l)]
    show l.length + 1 - 1 + 1 = _
    omega
theorem adj_get : ∀ (r : Rw) (i : Nat) (x y : Int), r[i]? = some x → r[i + 1]? = some y → (adj r)[i]? = some (decide (x ≤ y))
  | [], _, _, _, h, _ => by simp at h
  | [_], 0, _, _, _, h => by simp at h
  | [_], i + 1, _, _, h, _ => by simp at h
  | a :: b :: r, 0, x, y, h, h2 => by
    obtain rfl : a = x := Option.some.inj h
    obtain rfl : b = y := Option.some.inj h2
    rfl
  | a :: b :: r, i + 1, x, y, h, h2 => adj_get (b :: r) i x y h h2
theorem vbl_of : ∀ {bs : List Bool} {ys : List V}, ys.length = bs.length → (∀ (i : Nat) (y : V), ys[i]? = some y → ∃ b, bs[i]? = some b ∧ y = .bl b) → ys = bs.map V.bl
  | [], [], _, _ => rfl
  | [], _ :: _, h, _ => by cases h
  | _ :: _, [], h, _ => by cases h
  | b :: bs, y :: ys, hl, h => by
    obtain ⟨b', e1, e2⟩ := h 0 y rfl
    obtain rfl : b = b' := Option.some.inj e1
    rw [vbl_of (bs := bs) (ys := ys) (by simpa using hl) fun i z ez => by
      obtain ⟨b', k1, k2⟩ := h (i + 1) z (by simpa using ez)
      exact ⟨b', by simpa using k1, k2⟩, e2]
    rfl
/-- a mapping comprehension over a zip of two tuples -/
theorem lc_zipT {K : PySem.W.Frag} {a b : Addr} {xs ys : List V} {g : TG} {te : TE} {vs : List Nat} {σ : L2.St} {H1 : Hp} {D : Addr} {Qd : Hp → Prop} (R : Nat → V → Hp → Prop) (hR : ∀ i y H H', Tps H H' → R i y H → R i y H') (hD : H1 D = none) (ha : H1 a = some (.tup xs)) (hb : H1 b = some (.tup ys)) (hz : xs.length ≤ 10000000)
    (hs : ∀ i x y H T, xs[i]? = some x → ys[i]? = some y → Same H1 H → H T = some (.tup [x, y]) → ∀ k : VK, (∀ z H', Same H H' → R i z H' → k z H') → g (.ref T) (wipe σ vs) H fun σ2 H2 => wipe σ2 vs = wipe σ vs ∧ te σ2 H2 k)
    (hd : ∀ H zs, Same H1 H → H D = some (.lst zs) → zs.length = min xs.length ys.length → (∀ (i : Nat) (y : V), zs[i]? = some y → R i y H) → Qd H) (hg : ∀ x σ H Q Q', (∀ σ2 H2, Q σ2 H2 → Q' σ2 H2) → g x σ H Q → g x σ H Q') :
    ∃ W : Nat → Nat → Hp → Prop, (∃ m, W 0 m (upd H1 D (.lst []))) ∧ ∀ i m H, W i m H →
      ((RZ.ItzT K a b).stop i H ∧ Qd H) ∨ ((RZ.ItzT K a b).go i H ∧ ∃ Nx : Hp → Prop, (∀ H', Nx H' → ∃ m', m' < m ∧ W (i + 1) m' H') ∧ ∀ x H', (RZ.ItzT K a b).yld i H x H' → g x (wipe σ vs) H' fun σ2 H2 => wipe σ2 vs = wipe σ vs ∧ tYes σ2 H2 fun b H3 =>
        if b = true then te σ2 H3 fun y H4 => ∃ acc, H4 D = some (.lst acc) ∧ acc.length < sizeLine ∧ Nx (upd H4 D (.lst (acc ++ [y]))) else Nx H3) := by
  have nD : ∀ {b o}, H1 b = some o → b ≠ D := fun e => ne_of_none e hD
  have sD : ∀ {H : Hp} {zs : List V}, Same H1 H → Same H1 (upd H D (.lst zs)) := fun {H zs} s b o e => by
    rw [upd_ne (nD e)]
    exact s b o e
  generalize hN : min xs.length ys.length = N at hd
  have hN1 : N ≤ xs.length := by omega
  have hN2 : N ≤ ys.length := by omega
  refine ⟨fun i m H => m = N - i ∧ i ≤ N ∧ Same H1 H ∧ ∃ zs, H D = some (.lst zs) ∧ zs.length = i ∧ ∀ (j : Nat) (y : V), zs[j]? = some y → R j y H, ⟨N, rfl, Nat.zero_le _, sD (Same.refl H1), [], upd_same, rfl, fun j y e => by simp at e⟩, ?_⟩
  rintro i m H ⟨rfl, hi, s, zs, hy, hl, hr⟩
  have qx := SqT.of (K := K) (s _ _ ha)
  have qy := SqT.of (K := K) (s _ _ hb)
  by_cases hlt : i < N
  · refine .inr ⟨⟨xs, ys, _, _, qx, qy, List.getElem?_eq_getElem (by omega), List.getElem?_eq_getElem (by omega)⟩, fun H' => i + 1 ≤ N ∧ Same H1 H' ∧ ∃ zs, H' D = some (.lst zs) ∧ zs.length = i + 1 ∧ ∀ (j : Nat) (y : V), zs[j]? = some y → R j y H', fun H' p' => ⟨N - (i + 1), by omega, rfl, p'⟩, fun v H' yl => ?_⟩
    obtain ⟨T, x, y, rfl, nT, rfl, f1, f2⟩ := yl
    have sT : Same H (upd H T (.tup [x, y])) := same_upd nT
    refine hg _ _ _ _ _ (fun σ2 H2 ⟨w2, h2⟩ => ⟨w2, h2⟩) (hs i x y _ T (f1 xs qx) (f2 ys qy) (s.trans sT) upd_same _ fun z H' s' r' => ?_)
    have e' := s' _ _ (sT _ _ hy)
    refine ⟨zs, e', few' (by omega), hlt, sD ((s.trans sT).trans s'), zs ++ [z], upd_same, by rw [List.length_append, hl]; rfl, fun j u eu => ?_⟩
    rcases Nat.lt_or_ge j zs.length with h | h
    · rw [List.getElem?_append_left h] at eu
      exact hR _ _ _ _ (Tps.trans (Same.tps (sT.trans s')) (tps_lst e')) (hr j u eu)
    · rw [List.getElem?_append_right h] at eu
      have h0 : j - zs.length = 0 := by
        rcases Nat.eq_zero_or_pos (j - zs.length) with h0 | h0
        · exact h0
        · rw [List.getElem?_eq_none (by simp; omega)] at eu
          cases eu
      rw [h0] at eu
      obtain rfl := Option.some.inj eu
      rw [show j = i by omega]
      exact hR _ _ _ _ (tps_lst e') r'
  · have e : i = N := by omega
    refine .inl ⟨⟨xs, ys, qx, qy, by omega⟩, hd H zs s hy (by omega) hr⟩
def spSortedRow : Sp := fun vs H Q _ => ∃ (a : Addr) (r : Rw), vs = [.ref a] ∧ RowAt H a r ∧ r.length ≤ 1000 ∧ ∀ H', Same H H' → Q (.bl (asc r)) H'
section
variable {P : Program} {w : World} {K : PySem.W.Frag} {mg : Str → Option Value} {base : Heap}
theorem sc_sorted_row : FnScope ["row", "one", "other"] ["row"] (defScope (topS 23)) := C8.fnScope_by (by decide +kernel)
theorem c_sorted_row (T : Tx K mg) : C8.Cal P w K mg base 1 "is_sorted_row" spSortedRow [] := by
  refine cal_of T.d_is_sorted_row (fun _ _ _ _ _ _ us hl => match us, hl with | [_], _ => rfl) sc_sorted_row (fun vs H Q E h => ?_) (fun f cdv A outer s H vs Q E hr h => ?_)
  · obtain ⟨a, r, rfl, _⟩ := h
    rfl
  · obtain ⟨a, r, rfl, hra, hlen, q⟩ := h
    refine ⟨_, pss_one (ps_ret (pe_callB (cr_all rfl) (by rfl) T.all_ (by decide +kernel) (pa_cons
      (pe_lc (own := [("one", 1), ("other", 2)]) (g := gTup K 2 (gCons (gName 1) (gCons (gName 2) gNil))) (by rfl) sc_sorted_row.nd (RZ.pi_zipA (by rfl) T.zip_ (pa_cons (pv 0) (pa_cons (pe_slice sl_tupS (pv 0) (po_some pe_int) po_none) pa_nil)))
        (blkOk_by (N := ["row", "one", "other"]) (sc := defScope (topS 23)) (by decide +kernel))
        (fun _ _ _ _ _ => pg_tup (by rfl) (pgs_cons (pg_name (i := 1) sc_sorted_row.nd rfl (.inl rfl)) (pgs_cons (pg_name (i := 2) sc_sorted_row.nd rfl (.inl rfl)) pgs_nil))) (fun _ _ _ _ _ => pts_nil)
        (fun _ _ _ _ _ => pe_cmpR op_le (pv 1) (pv 2) (nomark _))) pa_nil))), ?_⟩
    refine ⟨.ref a, rfl, .ref a, rfl, 1, rfl, a, rv r, rfl, hra, fun H1 b s1 e1 => ?_⟩
    rw [show (1 : Int) = ((1 : Nat) : Int) from rfl, cut_from] at e1
    have ha1 := s1 _ _ hra
    refine ⟨a, b, rv r, (rv r).drop 1, rfl, .inr ⟨SqT.of ha1, SqT.of e1, fun D hD => lc_zipT (xs := rv r) (ys := (rv r).drop 1) (fun i y _ => ∃ b, (adj r)[i]? = some b ∧ y = .bl b) (fun i y H H' _ h => h) hD ha1 e1 (by rw [rv_len]; omega) ?_ ?_ ?_⟩⟩
    · intro i x y H2 Tt hx hy s2 eT k hk
      rw [List.getElem?_drop, Nat.add_comm 1 i, List.getElem?_map] at hy
      rw [List.getElem?_map] at hx
      obtain ⟨x', hx', rfl⟩ := Option.map_eq_some_iff.mp hx
      obtain ⟨y', hy', rfl⟩ := Option.map_eq_some_iff.mp hy
      refine ⟨Tt, _, rfl, SqT.of eT, rfl, _, _, rfl, _, _, rfl, rfl, rfl, ?_⟩
      exact ⟨_, rfl, _, rfl, x', y', rfl, rfl, hk _ _ (Same.refl H2) ⟨_, adj_get r i x' y' hx' hy', rfl⟩⟩
    · intro H2 zs s2 e2 hl hzs
      have ez := vbl_of (bs := adj r) (by rw [hl, adj_len, List.length_drop, rv_len]; omega) hzs
      rw [ez] at e2
      refine ⟨D, _, rfl, SqL.of e2, ?_⟩
      rw [adj_asc]
      exact q H2 (s1.trans s2)
    · intro x σ H Q Q' hq h
      obtain ⟨a, xs, h1, h2, h3, v, r, h4, v2, r2, h5, h6, h7⟩ := h
      exact ⟨a, xs, h1, h2, h3, v, r, h4, v2, r2, h5, h6, hq _ _ h7⟩
end
end WO

set_option Elab.async false
set_option linter.all false
set_option maxRecDepth 100000
set_option maxHeartbeats 4000000
namespace WO
open PySem PySem.Spec PyProof.Rows L2 WOm
/-- a comprehension over a list that keeps nothing -/
theorem lc_none {K : PySem.W.Frag} {a : Addr} {xs : List V} {g : TG} {tt : TT} {te : TE} {vs : List Nat} {σ : L2.St} {H1 : Hp} {D : Addr} {Qd : Hp → Prop} (hD : H1 D = none) (ha : H1 a = some (.lst xs))
    (hs : ∀ (i : Nat) (x : V) (H : Hp), xs[i]? = some x → Same H1 H → ∀ k : L2.St → Bool → Hp → Prop, (∀ σ2 H', Same H H' → k σ2 false H') → g x (wipe σ vs) H fun σ2 H2 => wipe σ2 vs = wipe σ vs ∧ tt σ2 H2 (k σ2))
    (hd : ∀ H, Same H1 H → H D = some (.lst []) → Qd H) :
    ∃ W : Nat → Nat → Hp → Prop, (∃ m, W 0 m (upd H1 D (.lst []))) ∧ ∀ i m H, W i m H →
      ((Itl K a).stop i H ∧ Qd H) ∨ ((Itl K a).go i H ∧ ∃ Nx : Hp → Prop, (∀ H', Nx H' → ∃ m', m' < m ∧ W (i + 1) m' H') ∧ ∀ x H', (Itl K a).yld i H x H' → g x (wipe σ vs) H' fun σ2 H2 => wipe σ2 vs = wipe σ vs ∧ tt σ2 H2 fun b H3 =>
        if b = true then te σ2 H3 fun y H4 => ∃ acc, H4 D = some (.lst acc) ∧ acc.length < sizeLine ∧ Nx (upd H4 D (.lst (acc ++ [y]))) else Nx H3) := by
  refine lc_list (xs := xs) (fun i H => Same H1 H ∧ H D = some (.lst [])) ⟨same_upd hD, upd_same⟩ ?_ ?_ ?_
  · rintro i H _ ⟨s, _⟩
    exact SqL.of (s _ _ ha)
  · rintro i x H hx ⟨s, e⟩
    exact hs i x H hx s (fun σ2 b H3 => if b = true then te σ2 H3 fun y H4 => ∃ acc, H4 D = some (.lst acc) ∧ acc.length < sizeLine ∧ Same H1 (upd H4 D (.lst (acc ++ [y]))) ∧ upd H4 D (.lst (acc ++ [y])) D = some (.lst []) else Same H1 H3 ∧ H3 D = some (.lst [])) fun σ2 H' s' => ⟨s.trans s', s' _ _ e⟩
  · rintro H ⟨s, e⟩
    exact hd H s e
def spUnsorted : Sp := fun vs H Q _ => ∃ (n : Nat) (a : Addr) (net : List Cmp), vs = [.int n, .ref a] ∧ 1 ≤ n ∧ n ≤ 5 ∧ NetAt H a net ∧ Fit n net ∧ SortsM n net ∧ ∀ H' p, Same H H' → H' p = some (.lst []) → Q (.ref p) H'
/-- the datum of a net -/
def dNet (net : List Cmp) : PyData := .tuple (net.map fun c => .tuple [.int c.1, .int c.2])
theorem dp_all_of {K : PySem.W.Frag} {H : Hp} : ∀ {as : List Addr} {net : List Cmp}, as.length = net.length → (∀ (i : Nat) (c : Cmp), net[i]? = some c → ∃ p : Addr, as[i]? = some p ∧ CmpAt H p c) → DpAll K H (as.map V.ref) (net.map fun c => .tuple [.int c.1, .int c.2])
  | [], [], _, _ => .nil
  | [], _ :: _, h, _ => by cases h
  | _ :: _, [], h, _ => by cases h
  | a :: as, c :: net, hl, h => by
    obtain ⟨p, e1, e2⟩ := h 0 c rfl
    obtain rfl : a = p := Option.some.inj e1
    refine .cons (.tup (SqT.of e2) (.cons (.int _) (.cons (.int _) .nil))) (dp_all_of (by simpa using hl) fun i c' hc => ?_)
    obtain ⟨p, k1, k2⟩ := h (i + 1) c' (by simpa using hc)
    exact ⟨p, by simpa using k1, k2⟩
theorem NetAt.dp {K : PySem.W.Frag} {H : Hp} {a : Addr} {net : List Cmp} (h : NetAt H a net) : Dp K H (.ref a) (dNet net) := by
  obtain ⟨as, h1, h2, h3⟩ := h
  exact .tup (SqT.of h1) (dp_all_of h2 h3)
theorem fits_dNet {n : Nat} {net : List Cmp} (hf : Fit n net) (hl : net.length ≤ 120) : fitsNet n (dNet net) = true := by
  show (decide ((net.map fun c => PyData.tuple [.int c.1, .int c.2]).length ≤ 120) && (net.map fun c => PyData.tuple [.int c.1, .int c.2]).all (fitsPair n)) = true
  rw [List.length_map, decide_eq_true hl, Bool.true_and, List.all_eq_true]
  intro d m
  obtain ⟨c, mc, rfl⟩ := List.mem_map.mp m
  obtain ⟨h1, h2⟩ := hf c mc
  show (wholeD (.int c.1) 0 (n - 1) && wholeD (.int c.2) 0 (n - 1) && decide ((c.1 : Int) < c.2)) = true
  show ((decide ((0 : Int) ≤ c.1) && decide ((c.1 : Int) ≤ n - 1)) && (decide ((0 : Int) ≤ c.2) && decide ((c.2 : Int) ≤ n - 1)) && decide ((c.1 : Int) < c.2)) = true
  simp only [Bool.and_eq_true, decide_eq_true_eq]
  omega
theorem whole_few {n : Nat} (h1 : 1 ≤ n) (h2 : n ≤ 30) : wholeD (.int n) 1 30 = true := by
  show (decide ((1 : Int) ≤ n) && decide ((n : Int) ≤ 30)) = true
  simp only [Bool.and_eq_true, decide_eq_true_eq]
  omega
def spNeedMarked : Sp := fun vs H Q _ => ∃ (n : Nat) (a : Addr) (net : List Cmp), vs = [.int n, .ref a] ∧ 1 ≤ n ∧ n ≤ 5 ∧ NetAt H a net ∧ Fit n net ∧ net.length ≤ 120 ∧ ∀ H', Same H H' → Q .non H'
def spSorter : Sp := fun vs H Q _ => ∃ (n : Nat) (a : Addr) (net : List Cmp), vs = [.int n, .ref a] ∧ 1 ≤ n ∧ n ≤ 5 ∧ NetAt H a net ∧ Fit n net ∧ net.length ≤ 120 ∧ SortsM n net ∧ ∀ H', Same H H' → Q (.bl true) H'
/-- how need_short ends: 0 well, 1 many, 2 net, 3 too many -/
def outS (d e : PyData) : Nat := match d with
  | .int m => if wholeD d 1 30 = true then (if fitsNet m e = true then (if m ≤ 4 then 0 else 3) else 2) else 1
  | _ => 1
/-- what a def that asks need_short ends with -/
def RefuseS (K : PySem.W.Frag) (d e : PyData) (H : Hp) (E : XK) : Prop := (outS d e = 1 → ∀ H', Same H H' → E (.ref (He.ga K "InvalidMany")) none H') ∧ (outS d e = 2 → ∀ H', Same H H' → E (.ref (He.ga K "InvalidNet")) none H') ∧ (outS d e = 3 → ∀ H' dx, Same H H' → XdAt H' dx → E (.ref (He.ga K "TooMany")) (some dx) H')
def spNeedShort (K : PySem.W.Frag) : Sp := fun vs H Q E => ∃ v u d e, vs = [v, u] ∧ Dp K H v d ∧ Dp K H u e ∧ (outS d e = 0 → ∀ H', Same H H' → Q .non H') ∧ RefuseS K d e H E
section
variable {P : Program} {w : World} {K : PySem.W.Frag} {mg : Str → Option Value} {base : Heap}
theorem sc_unsorted : FnScope ["many", "net", "row"] ["many", "net"] (defScope (topS 24)) := C8.fnScope_by (by decide +kernel)
theorem c_unsorted (T : Tx K mg) : C8.Cal P w K mg base 3 "unsorted_by" spUnsorted [] := by
  refine cal_of T.d_unsorted_by (fun _ _ _ _ _ _ us hl => match us, hl with | [_, _], _ => rfl) sc_unsorted (fun vs H Q E h => ?_) (fun f cdv A outer s H vs Q E hr h => ?_)
  · obtain ⟨n, a, net, rfl, _⟩ := h
    rfl
  · obtain ⟨n, a, net, rfl, h1, h5, hn, hf, hsm, q⟩ := h
    refine ⟨_, pss_one (ps_ret (pe_lc (own := [("row", 2)]) (g := gName 2) (by rfl) sc_unsorted.nd (pi_list (C8.pe_c (c_all_marks T) hr (by decide) (by rfl) (pa_cons (pv 0) pa_nil))) (blkOk_by (N := ["many", "net", "row"]) (sc := defScope (topS 24)) (by decide +kernel))
      (fun _ _ _ _ _ => pg_name (i := 2) sc_unsorted.nd rfl (.inl rfl)) (fun _ _ _ _ _ => pts_one (pt_not (pt_val (C8.pe_c (c_sorted_row T) hr (by decide) (by rfl) (pa_cons (C8.pe_c (c_behind T) hr (by decide) (by rfl) (pa_cons (pv 2) (pa_cons (pv 1) pa_nil))) pa_nil)))))
      (fun _ _ _ _ _ => pv 2))), ?_⟩
    refine ⟨_, rfl, n, rfl, h1, h5, fun H1 p rows s1 ⟨L, hL, hm, hri⟩ hmem hlen => ⟨p, rfl, ⟨_, SqL.of hL⟩, fun D hD => lc_none (xs := refs L) hD hL ?_ (fun H2 s2 e2 => q H2 D (s1.trans s2) e2)⟩⟩
    intro i x H2 hx s2 k hk
    rw [List.getElem?_map] at hx
    obtain ⟨pr, hp, rfl⟩ := Option.map_eq_some_iff.mp hx
    have mp : pr ∈ L := List.mem_of_getElem? hp
    have mm : pr.2 ∈ marks n := (hmem _).mp (by rw [← hm]; exact List.mem_map.mpr ⟨pr, mp, rfl⟩)
    have l1 := (marks_fit n pr.2 mm).1
    refine ⟨rfl, .ref pr.1, rfl, .ref a, rfl, pr.1, a, pr.2, net, rfl, s2 _ _ (hri pr mp), (hn.keep (Same.tps s1)).keep (Same.tps s2), by rw [l1]; exact hf, by omega, fun H3 b s3 e3 => ?_⟩
    refine ⟨b, thr pr.2 net, rfl, e3, by rw [thr_len]; omega, fun H4 s4 => ⟨_, rfl, ?_⟩⟩
    rw [hsm pr.2 mm]
    exact hk _ H4 (s3.trans s4)
theorem sc_need_marked : FnScope ["many", "net"] ["many", "net"] (defScope (topS 25)) := C8.fnScope_by (by decide +kernel)
theorem c_need_marked (T : Tx K mg) (TM : TmRule P w K mg base) : CalX P w K mg base 5 "need_marked" spNeedMarked := by
  obtain ⟨t10, hma⟩ := T.marked
  refine calX_of T.d_need_marked (fun _ _ _ _ _ _ us hl => match us, hl with | [_, _], _ => rfl) sc_need_marked (fun vs H Q E h => ?_) (fun f cdv A outer s H vs Q E hr h => ?_)
  · obtain ⟨n, a, net, rfl, _⟩ := h
    rfl
  · obtain ⟨n, a, net, rfl, h1, h5, hn, hf, hl, q⟩ := h
    refine ⟨_, pss_cons (ps_expr (pe_cx (c_need_many T) hr (by decide) (by rfl) (L2N.takes_of rfl rfl rfl rfl) (pa_cons (pv 0) pa_nil)))
      (pss_cons (ps_expr (pe_cx (c_need_net T) hr (by decide) (by rfl) (L2N.takes_of rfl rfl rfl rfl) (pa_cons (pv 0) (pa_cons (pv 1) pa_nil))))
      (pss_one (ps_expr (pe_cx (c_need_few T TM) hr (by decide) (by rfl) (L2N.takes_of rfl rfl rfl rfl) (pa_cons (pv 0) (pa_cons (pe_glob (v := .int 10) (by rfl) hma ⟨_, rfl⟩) pa_nil)))))), ?_⟩
    refine ⟨_, rfl, _, .int n, rfl, .int _, fun _ => ?_, fun z => by rw [whole_few h1 (by omega)] at z; cases z⟩
    refine ⟨_, rfl, _, rfl, n, .ref a, dNet net, rfl, hn.dp, fun _ H1 s1 => ?_, fun z => by rw [fits_dNet hf hl] at z; cases z⟩
    exact ⟨_, rfl, n, 10, rfl, fun _ => q H1 s1, fun z => by omega⟩
theorem sc_sorter : FnScope ["many", "net"] ["many", "net"] (defScope (topS 26)) := C8.fnScope_by (by decide +kernel)
theorem c_sorter (T : Tx K mg) (TM : TmRule P w K mg base) : CalX P w K mg base 6 "is_sorter" spSorter := by
  refine calX_of T.d_is_sorter (fun _ _ _ _ _ _ us hl => match us, hl with | [_, _], _ => rfl) sc_sorter (fun vs H Q E h => ?_) (fun f cdv A outer s H vs Q E hr h => ?_)
  · obtain ⟨n, a, net, rfl, _⟩ := h
    rfl
  · obtain ⟨n, a, net, rfl, h1, h5, hn, hf, hl, hsm, q⟩ := h
    refine ⟨_, pss_cons (ps_expr (pe_cx (c_need_marked T TM) hr (by decide) (by rfl) (L2N.takes_of rfl rfl rfl rfl) (pa_cons (pv 0) (pa_cons (pv 1) pa_nil))))
      (pss_one (ps_ret (pe_cmpR (op_eqD hr.units) (C8.pe_c (c_unsorted T) hr (by decide) (by rfl) (pa_cons (pv 0) (pa_cons (pv 1) pa_nil))) (pe_lst pa_nil) (nomark _)))), ?_⟩
    refine ⟨_, rfl, _, rfl, n, a, net, rfl, h1, h5, hn, hf, hl, fun H1 s1 => ?_⟩
    refine ⟨_, rfl, _, rfl, n, a, net, rfl, h1, h5, hn.keep (Same.tps s1), hf, hsm, fun H2 p s2 e2 => ⟨few0, fun l nl => ?_⟩⟩
    generalize hH3 : upd H2 l _ = H3
    have s3 : Same H2 H3 := hH3 ▸ same_upd nl
    have e3 : H3 l = some (.lst []) := hH3 ▸ upd_same
    refine ⟨.list [], .list [], .lst (SqL.of (s3 _ _ e2)) .nil, .lst (SqL.of e3) .nil, rfl, rfl, ?_⟩
    exact q H3 ((s1.trans s2).trans s3)
theorem sc_need_short : FnScope ["many", "net"] ["many", "net"] (defScope (topS 32)) := C8.fnScope_by (by decide +kernel)
theorem c_need_short (T : Tx K mg) (TM : TmRule P w K mg base) : CalX P w K mg base 5 "need_short" (spNeedShort K) := by
  obtain ⟨t4, hsh⟩ := T.short
  refine calX_of T.d_need_short (fun _ _ _ _ _ _ us hl => match us, hl with | [_, _], _ => rfl) sc_need_short (fun vs H Q E h => ?_) (fun f cdv A outer s H vs Q E hr h => ?_)
  · obtain ⟨v, u, d, e, rfl, _⟩ := h
    rfl
  · obtain ⟨v, u, d, e, rfl, hd, he, q, r1, r2, r3⟩ := h
    refine ⟨_, pss_cons (ps_expr (pe_cx (c_need_many T) hr (by decide) (by rfl) (L2N.takes_of rfl rfl rfl rfl) (pa_cons (pv 0) pa_nil)))
      (pss_cons (ps_expr (pe_cx (c_need_net T) hr (by decide) (by rfl) (L2N.takes_of rfl rfl rfl rfl) (pa_cons (pv 0) (pa_cons (pv 1) pa_nil))))
      (pss_one (ps_expr (pe_cx (c_need_few T TM) hr (by decide) (by rfl) (L2N.takes_of rfl rfl rfl rfl) (pa_cons (pv 0) (pa_cons (pe_glob (v := .int 4) (by rfl) hsh ⟨_, rfl⟩) pa_nil)))))), ?_⟩
    refine ⟨v, rfl, v, d, rfl, hd, fun hw => ?_, fun hw => r1 ?_ H (Same.refl H)⟩
    · obtain ⟨m, rfl, m1, m2⟩ := wholeD_int hw
      cases hd
      have o : outS (.int m) e = if fitsNet m e = true then (if m ≤ 4 then 0 else 3) else 2 := if_pos hw
      refine ⟨_, rfl, u, rfl, m, u, e, rfl, he, fun hf H1 s1 => ?_, fun hf H1 s1 => r2 (by rw [o, if_neg (by rw [hf]; decide)]) H1 s1⟩
      refine ⟨_, rfl, m, 4, rfl, fun hm => q (by rw [o, if_pos hf, if_pos hm]) H1 s1, fun hm H2 dx s2 x2 => r3 (by rw [o, if_pos hf, if_neg (by omega)]) H2 dx (s1.trans s2) x2⟩
    · cases d with
      | int m => exact if_neg (by rw [hw]; decide)
      | _ => rfl
end
end WO

set_option Elab.async false
set_option linter.all false
set_option maxRecDepth 100000
set_option maxHeartbeats 4000000
namespace WO
open PySem PySem.Spec PyProof.Rows L2 WOm
/-! ### dicts whose keys are tuples of rows -/
abbrev rowKey (r : Rw) : NestedKey := .tup (r.map NestedKey.num)
def keyOf (st : Sta) : NestedKey := .tup (st.map rowKey)
theorem nums_inj : ∀ {a b : Rw}, a.map NestedKey.num = b.map NestedKey.num → a = b
  | [], [], _ => rfl
  | [], _ :: _, h => by cases h
  | _ :: _, [], h => by cases h
  | x :: a, y :: b, h => by
    rw [List.map_cons, List.map_cons] at h
    injection h with h1 h2
    injection h1 with h1
    rw [h1, nums_inj h2]
theorem rows_inj : ∀ {a b : Sta}, a.map rowKey = b.map rowKey → a = b
  | [], [], _ => rfl
  | [], _ :: _, h => by cases h
  | _ :: _, [], h => by cases h
  | x :: a, y :: b, h => by
    rw [List.map_cons, List.map_cons] at h
    injection h with h1 h2
    injection h1 with h1
    rw [nums_inj h1, rows_inj h2]
theorem keyOf_inj {a b : Sta} (h : keyOf a = keyOf b) : a = b := by
  unfold keyOf at h
  injection h with h
  exact rows_inj h
theorem depth_nums : ∀ r : Rw, NestedKey.depthAll (r.map NestedKey.num) = 0
  | [] => by simp [NestedKey.depthAll]
  | x :: r => by
    rw [List.map_cons, NestedKey.depthAll, depth_nums r]
    simp [NestedKey.depth]
theorem depth_rows : ∀ st : Sta, NestedKey.depthAll (st.map rowKey) ≤ 1
  | [] => by simp [NestedKey.depthAll]
  | r :: st => by
    rw [List.map_cons, NestedKey.depthAll]
    have h1 := depth_rows st
    have h2 : NestedKey.depth (rowKey r) = 1 := by
      unfold rowKey
      rw [NestedKey.depth, depth_nums r]
    rw [h2]
    exact Nat.max_le.mpr ⟨Nat.le_refl 1, h1⟩
theorem depth_key (st : Sta) : (keyOf st).depth ≤ 8 := by
  unfold keyOf
  rw [NestedKey.depth]
  have := depth_rows st
  omega
theorem nested_nums {h : Heap} : ∀ {r : Rw} {us : List Value}, Vals (rv r) us → NestedAll h (r.map NestedKey.num) us
  | [], _, v => by cases v; exact .nil
  | x :: r, _, v => by
    cases v with
    | cons a b =>
      obtain ⟨t, rfl⟩ := a
      exact .cons (.int x t) (nested_nums b)
section
variable {X : Cx} {pins : List (Addr × Obj)} {σ : L2.St} {H : Hp} {s : Shared}
theorem nested_row (I : Inv X pins σ H s) {a : Addr} {r : Rw} (h : RowAt H a r) : NestedIs s.heap (rowKey r) (.ref a) := by
  obtain ⟨its, rv, ⟨o, ho, hc, n, hd⟩, _⟩ := I.tuple (SqT.of h)
  exact .tup ho hc hd (nested_nums rv)
theorem nested_rows (I : Inv X pins σ H s) : ∀ {L : List (Addr × Rw)} {us : List Value}, RowsIn H L → Vals (refs L) us → NestedAll s.heap ((L.map (·.2)).map rowKey) us
  | [], _, _, v => by cases v; exact .nil
  | p :: L, _, hr, v => by
    cases v with
    | cons a b =>
      cases a
      exact .cons (nested_row I (hr p List.mem_cons_self)) (nested_rows I (fun q m => hr q (List.mem_cons_of_mem _ m)) b)
theorem nested_st (I : Inv X pins σ H s) {a : Addr} {st : Sta} (h : StAt H a st) : (nestedKind X.prog X.w).is s.heap (keyOf st) a := by
  obtain ⟨L, h1, h2, h3⟩ := h
  obtain ⟨its, rv, ⟨o, ho, hc, n, hd⟩, _⟩ := I.tuple (SqT.of h1)
  refine ⟨.tup ho hc hd ?_, depth_key st⟩
  rw [← h2]
  exact nested_rows I h3 rv
end
/-- such a dict, by its entries -/
def ND (P : Program) (w : World) (d : Addr) (xs : List (NestedKey × Addr × Value)) : HO := .ext fun h => (d == sysModules) = false ∧ ∃ o es ep, h.get? d = some o ∧ o.ExactDict ∧ o.data = .dict es ep ∧ es.toList = xs.map (entryOfKey (nestedKind P w)) ∧ (xs.map (·.1)).Nodup
/-- .. its keys standing as tuples, VP telling the values -/
def FAt {β : Type} (P : Program) (w : World) (VP : Hp → Value → β → Prop) (H : Hp) (d : Addr) (f : List (Sta × β)) : Prop := ∃ xs, H d = some (ND P w d xs) ∧ xs.length = f.length ∧ ∀ (i : Nat) (kv : Sta × β), f[i]? = some kv → ∃ a u, xs[i]? = some (keyOf kv.1, a, u) ∧ StAt H a kv.1 ∧ VP H u kv.2
/-- all but d stays -/
def SameD (d : Addr) (H H' : Hp) : Prop := ∀ b o, b ≠ d → H b = some o → H' b = some o
theorem SameD.refl (d : Addr) (H : Hp) : SameD d H H := fun _ _ _ e => e
theorem SameD.trans {d : Addr} {H H1 H2 : Hp} (a : SameD d H H1) (b : SameD d H1 H2) : SameD d H H2 := fun c o n e => b c o n (a c o n e)
theorem Same.d {d : Addr} {H H' : Hp} (a : Same H H') : SameD d H H' := fun c o _ e => a c o e
theorem sameD_upd {H : Hp} {d : Addr} {o : HO} : SameD d H (upd H d o) := fun b u n e => by rw [upd_ne n]; exact e
theorem nd_ne_tup {P : Program} {w : World} {d : Addr} {xs : List (NestedKey × Addr × Value)} {ys : List V} : HO.tup ys ≠ ND P w d xs := fun z => by
  unfold ND at z
  cases z
theorem SameD.tps {P : Program} {w : World} {d : Addr} {H H' : Hp} {xs : List (NestedKey × Addr × Value)} (s : SameD d H H') (e : H d = some (ND P w d xs)) : Tps H H' := fun b ys hb => s b _ (ne_of hb e nd_ne_tup) hb
section
variable {β : Type} {P : Program} {w : World} {VP : Hp → Value → β → Prop} {H H' : Hp} {d : Addr} {f : List (Sta × β)}
theorem FAt.tps (h : FAt P w VP H d f) (s : SameD d H H') : Tps H H' := by
  obtain ⟨xs, h1, _⟩ := h
  exact s.tps h1
theorem FAt.keep (hV : ∀ H H' u b, Tps H H' → VP H u b → VP H' u b) (h : FAt P w VP H d f) (s : Same H H') : FAt P w VP H' d f := by
  obtain ⟨xs, h1, h2, h3⟩ := h
  refine ⟨xs, s _ _ h1, h2, fun i kv e => ?_⟩
  obtain ⟨a, u, e1, e2, e3⟩ := h3 i kv e
  exact ⟨a, u, e1, e2.keep (Same.tps s), hV _ _ _ _ (Same.tps s) e3⟩
theorem FAt.keepN (hV : ∀ H H' u b, Tps H H' → VP H u b → VP H' u b) (h : FAt P w VP H d f) {c : Addr} (hc : c ≠ d) (s : SameD c H H') (t : Tps H H') : FAt P w VP H' d f := by
  obtain ⟨xs, h1, h2, h3⟩ := h
  refine ⟨xs, s _ _ (Ne.symm hc) h1, h2, fun i kv e => ?_⟩
  obtain ⟨a, u, e1, e2, e3⟩ := h3 i kv e
  exact ⟨a, u, e1, e2.keep t, hV _ _ _ _ t e3⟩
theorem keys_xs {xs : List (NestedKey × Addr × Value)} (hl : xs.length = f.length) (h : ∀ (i : Nat) (kv : Sta × β), f[i]? = some kv → ∃ a u, xs[i]? = some (keyOf kv.1, a, u) ∧ StAt H a kv.1 ∧ VP H u kv.2) : xs.map (·.1) = (f.map (·.1)).map keyOf := by
  refine List.ext_getElem? fun i => ?_
  rw [List.getElem?_map, List.getElem?_map, List.getElem?_map]
  rcases Nat.lt_or_ge i f.length with hi | hi
  · obtain ⟨a, u, e, _⟩ := h i f[i] (List.getElem?_eq_getElem hi)
    rw [e, List.getElem?_eq_getElem hi]
    rfl
  · rw [List.getElem?_eq_none (by omega), List.getElem?_eq_none hi]
    rfl
theorem at_none {xs : List (NestedKey × Addr × Value)} {st : Sta} (hk : xs.map (·.1) = (f.map (·.1)).map keyOf) : (atKey xs (keyOf st)).isSome = decide (st ∈ f.map (·.1)) := by
  unfold atKey
  rw [Option.isSome_map]
  cases e : xs.find? fun x => decide (x.1 = keyOf st) with
  | none =>
    have h := List.find?_eq_none.mp e
    symm
    refine decide_eq_false fun m => ?_
    have m2 : keyOf st ∈ xs.map (·.1) := by rw [hk]; exact List.mem_map.mpr ⟨st, m, rfl⟩
    obtain ⟨x, mx, ex⟩ := List.mem_map.mp m2
    have := h x mx
    simp [ex] at this
  | some x =>
    have h1 := List.mem_of_find?_eq_some e
    have h2 : x.1 = keyOf st := by simpa using List.find?_some e
    symm
    refine decide_eq_true ?_
    have m2 : x.1 ∈ xs.map (·.1) := List.mem_map.mpr ⟨x, h1, rfl⟩
    rw [hk, h2] at m2
    obtain ⟨st', m, e'⟩ := List.mem_map.mp m2
    rw [← keyOf_inj e']
    exact m
end
section
variable {X : Cx} {pins : List (Addr × Obj)} {σ : L2.St} {H : Hp} {s : Shared} {β : Type} {VP : Hp → Value → β → Prop} {d : Addr} {f : List (Sta × β)}
theorem nd_raw (I : Inv X pins σ H s) {xs : List (NestedKey × Addr × Value)} (h1 : H d = some (ND X.prog X.w d xs)) (h2 : xs.length = f.length) (h3 : ∀ (i : Nat) (kv : Sta × β), f[i]? = some kv → ∃ a u, xs[i]? = some (keyOf kv.1, a, u) ∧ StAt H a kv.1 ∧ VP H u kv.2) :
    (d == sysModules) = false ∧ s.heap.DictOfH (nestedKind X.prog X.w) d xs := by
  obtain ⟨⟨z, o, es, ep, e1, e2, e3, e4, e5⟩, _, _⟩ := I.hok d _ h1
  refine ⟨z, o, es, ep, e1, e2, e3, e4, fun x mx => ?_, e5⟩
  obtain ⟨i, hi, rfl⟩ := List.getElem_of_mem mx
  obtain ⟨a, u, k1, k2, _⟩ := h3 i (f[i]'(by omega)) (List.getElem?_eq_getElem (by omega))
  rw [List.getElem?_eq_getElem hi] at k1
  rw [Option.some.inj k1]
  exact nested_st I k2
theorem roomN {A : Around} (h : A.units + 64 < cLine) : A.in1.units + 8 < cLine := by
  show A.units + 1 + 8 < cLine
  omega
/-- st not in f -/
def rNdNotIn (P : Program) (w : World) {β : Type} (VP : Hp → Value → β → Prop) : R2 := fun x y H Q => ∃ (a d : Addr) (st : Sta) (f : List (Sta × β)), x = .ref a ∧ y = .ref d ∧ StAt H a st ∧ FAt P w VP H d f ∧ Q (.bl (!decide (st ∈ f.map (·.1)))) H
theorem op_nd_notin (hu : X.A.units + 64 < cLine) : OpR X (compareOp .NotIn) (rNdNotIn X.prog X.w VP) := by
  intro pins s σ H x y v u Q I rx ry h
  obtain ⟨a, d, st, f, rfl, rfl, ha, ⟨xs, h1, h2, h3⟩, q⟩ := h
  cases rx
  cases ry
  obtain ⟨z, dd⟩ := nd_raw I h1 h2 h3
  refine PySem.notIn_keyed (roomN hu) (nested_st I ha) z ⟨xs, dd, rfl⟩ ⟨_, H, I.tok _, ?_, q⟩
  rw [valueAt_pairsH, Option.isSome_map, at_none (keys_xs h2 h3)]
  rfl
/-- f[st] -/
def tNdGet (P : Program) (w : World) {β : Type} (VP : Hp → Value → β → Prop) (to ti : TE) : TE := fun σ H Q => to σ H fun x H1 => ti σ H1 fun y H2 => ∃ (a d : Addr) (st : Sta) (f : List (Sta × β)) (b : β), x = .ref d ∧ y = .ref a ∧ StAt H2 a st ∧ FAt P w VP H2 d f ∧ (f.find? fun kv => decide (kv.1 = st)).map (·.2) = some b ∧ ∀ u, VP H2 u b → ∃ v, RelV v u ∧ Q v H2
theorem pe_nd_get {o i : Expr} {to ti : TE} {pos : Pos} (hu : X.A.units + 64 < cLine) (ho : PE X o to) (hi : PE X i ti) (hs : NoSl i) : PE X (.Subscript o i pos) (tNdGet X.prog X.w VP to ti) := by
  refine ⟨fun pins s σ H Q I h => ?_⟩
  refine subD_of PySem.F.slot_dict_getitem.lookup hs (thn (ho.run pins s σ H _ I h) fun u s1 ⟨x, H1, I1, rx, q1⟩ => thn (hi.run pins s1 σ H1 _ I1 q1) fun iv s2 ⟨y, H2, I2, ry, q2⟩ => ?_)
  obtain ⟨a, d, st, f, b, rfl, rfl, ha, ⟨xs, h1, h2, h3⟩, hf, q⟩ := q2
  cases rx
  cases ry
  obtain ⟨z, dd⟩ := nd_raw I2 h1 h2 h3
  refine ⟨dd.typeIs, ?_⟩
  obtain ⟨kv, hk, rfl⟩ := Option.map_eq_some_iff.mp hf
  have m := List.mem_of_find?_eq_some hk
  have ek : kv.1 = st := by simpa using List.find?_some hk
  obtain ⟨j, hj, ej⟩ := List.getElem_of_mem m
  obtain ⟨a', u', k1, k2, k3⟩ := h3 j kv (by rw [List.getElem?_eq_getElem hj, ej])
  obtain ⟨_, _, _, _, _, _, _, _, nd⟩ := id dd
  have at_ : atKey xs (keyOf st) = some (a', u') := atKey_of_get nd (i := j) (by rw [k1, ek])
  obtain ⟨v, r, q'⟩ := q u' k3
  exact wpAny_getItem_heap (roomN hu) (nested_st I2 ha) dd at_ ⟨v, H2, I2.tok _, r, q'⟩
/-- f[st] = v, a new key -/
def rNdSet (P : Program) (w : World) {β : Type} (VP : Hp → Value → β → Prop) : TSet := fun o i v H Q => ∃ (a d : Addr) (st : Sta) (f : List (Sta × β)) (b : β), o = .ref d ∧ i = .ref a ∧ StAt H a st ∧ FAt P w VP H d f ∧ st ∉ f.map (·.1) ∧ f.length < sizeLine ∧ (∀ H' u, Tps H H' → RelV v u → VP H' u b) ∧ ∀ H', SameD d H H' → FAt P w VP H' d (f ++ [(st, b)]) → Q H'
theorem nd_new {P : Program} {w : World} {H : Hp} {h : Heap} {d : Addr} {xs : List (NestedKey × Addr × Value)} (z : (d == sysModules) = false) (dd : h.DictOfH (nestedKind P w) d xs) : ObjOk P w H h d (ND P w d xs) := by
  obtain ⟨o, es, ep, e1, e2, e3, e4, _, e5⟩ := dd
  refine ⟨⟨z, o, es, ep, e1, e2, e3, e4, e5⟩, ⟨o, e1⟩, ?_⟩
  rintro h1 h2 ⟨y, o', es', ep', k1, k⟩ st
  exact ⟨y, o', es', ep', st _ k1, k⟩
theorem fAt_snoc {P : Program} {w : World} {H H' : Hp} {xs : List (NestedKey × Addr × Value)} {a : Addr} {st : Sta} {u : Value} {b : β} (hV : ∀ H H' u b, Tps H H' → VP H u b → VP H' u b) (t : Tps H H') (e : H' d = some (ND P w d (xs ++ [(keyOf st, a, u)]))) (h2 : xs.length = f.length)
    (h3 : ∀ (i : Nat) (kv : Sta × β), f[i]? = some kv → ∃ a u, xs[i]? = some (keyOf kv.1, a, u) ∧ StAt H a kv.1 ∧ VP H u kv.2) (ha : StAt H a st) (hb : VP H' u b) : FAt P w VP H' d (f ++ [(st, b)]) := by
  refine ⟨_, e, by rw [List.length_append, List.length_append, h2]; rfl, fun i kv hi => ?_⟩
  rcases Nat.lt_or_ge i f.length with h | h
  · rw [List.getElem?_append_left h] at hi
    obtain ⟨a', u', k1, k2, k3⟩ := h3 i kv hi
    exact ⟨a', u', by rw [List.getElem?_append_left (by omega)]; exact k1, k2.keep t, hV _ _ _ _ t k3⟩
  · rw [List.getElem?_append_right h] at hi
    have h0 : i - f.length = 0 := by
      rcases Nat.eq_zero_or_pos (i - f.length) with h0 | h0
      · exact h0
      · rw [List.getElem?_eq_none (by simp; omega)] at hi
        cases hi
    rw [h0] at hi
    obtain rfl := Option.some.inj hi
    refine ⟨a, u, ?_, ha.keep t, hb⟩
    rw [List.getElem?_append_right (by omega), h2, h0]
    rfl
theorem set_nd (hu : X.A.units + 64 < cLine) (hV : ∀ H H' u b, Tps H H' → VP H u b → VP H' u b) : PSet X (rNdSet X.prog X.w VP) := by
  intro pins s σ H o i v ov iv u Q I ro ri rv h
  obtain ⟨a, d, st, f, b, rfl, rfl, ha, hf, hn, hz, hb, q⟩ := h
  obtain ⟨xs, h1, h2, h3⟩ := id hf
  cases ro
  cases ri
  obtain ⟨z, dd⟩ := nd_raw I h1 h2 h3
  have an : atKey xs (keyOf st) = none := by
    have e := at_none (st := st) (keys_xs h2 h3)
    rw [decide_eq_false hn] at e
    cases y : atKey xs (keyOf st) with
    | none => rfl
    | some p =>
      rw [y] at e
      cases e
  refine wpAny_setItem_heap (hsz := by omega) (roomN hu) (nested_st I ha) dd fun h' dd' hs => ?_
  rw [storedH_new an] at dd'
  have t : Tps H (upd H d (ND X.prog X.w d (xs ++ [(keyOf st, a, u)]))) := hf.tps sameD_upd
  have ho : ∃ ob, h'.get? d = some ob := by
    obtain ⟨ob, _, _, e, _⟩ := dd'
    exact ⟨ob, e⟩
  have J := I.write (t' := s.toks + (nestedKind X.prog X.w).draws (keyOf st)) (x := d) (e := d) (o := ND X.prog X.w d (xs ++ [(keyOf st, a, u)])) (by rw [h1]; exact True.intro) (.inl rfl) (fun c ob hc e => (hs.2 c hc).trans e) ho (nd_new z dd')
  exact ⟨_, J, q _ sameD_upd (fAt_snoc hV t upd_same h2 h3 ha (hb _ u t rv))⟩
/-- {st: v} -/
def tNdOne (P : Program) (w : World) {β : Type} (VP : Hp → Value → β → Prop) (tk tv : TE) : TE := fun σ H Q => ∀ d, H d = none → tk σ (upd H d (ND P w d [])) fun x H1 => tv σ H1 fun y H2 => ∃ (a : Addr) (st : Sta) (b : β), x = .ref a ∧ H2 d = some (ND P w d []) ∧ StAt H2 a st ∧ (∀ H' u, Tps H2 H' → RelV y u → VP H' u b) ∧ ∀ H', SameD d H2 H' → FAt P w VP H' d [(st, b)] → Q (.ref d) H'
theorem pe_nd_one {k v : Expr} {tk tv : TE} {pos : Pos} (hu : X.A.units + 64 < cLine) (hV : ∀ H H' u b, Tps H H' → VP H u b → VP H' u b) (hk : PE X k tk) (hv : PE X v tv) : PE X (.Dict [some k] [v] pos) (tNdOne X.prog X.w VP tk tv) := by
  refine ⟨fun pins s σ H Q I h => ?_⟩
  have hn := I.hok.fresh (Nat.le_refl s.heap.objs.size)
  have z : (s.heap.objs.size == sysModules) = false := beq_eq_false_iff_ne.mpr (Nat.ne_of_gt I.big)
  have new : (s.heap.push { cls := .type "dict", data := .dict #[] }).DictOfH (nestedKind X.prog X.w) s.heap.objs.size [] := Heap.DictOfH.new s.heap
  have I1 := I.laid (a := s.heap.objs.size) (o := ND X.prog X.w s.heap.objs.size []) (h' := s.heap.push { cls := .type "dict", data := .dict #[] }) (t' := s.toks) (fun _ _ q => Heap.get?_push_of_some _ q) (Nat.le_refl _) (nd_new z new)
  rw [arm_eval_Dict, show (evalEachOpt [some k] X.env).zip ((evalEach [v] X.env).map fun v => do let x ← v; standAt pos; pure x) = [(eval k X.env, (do let x ← eval v X.env; standAt pos; pure x : Sem Value))].map (fun p => (some p.1, p.2)) from rfl, dictDisplay_pairs _ (by simp) (by simp)]
  refine wpAny_bind (wpAny_standAt (wpAny_bind (wpAny_subDictH (knd := nestedKind X.prog X.w) (Q := fun d s' => wpAny (model X.prog X.w) X.A (pure (Value.ref d)) (EP X pins σ Q) X.xe s') (by show X.A.units + 8 < cLine; omega) (by simp) ?_)))
  unfold evalPairs
  refine wpAny_bind (thn (hk.run pins _ σ _ _ I1 (h _ hn)) fun kv s1 ⟨x, H1, I2, rx, q1⟩ => ?_)
  refine wpAny_bind (wpAny_holding (wpAny_bind (thn (hv.run pins s1 σ H1 _ I2 q1) fun vv s2 ⟨y, H2, I3, ry, q2⟩ => ?_)))
  refine wpAny_bind (wpAny_standAt (wpAny_pure ?_))
  unfold evalPairs
  refine wpAny_bind (wpAny_holding (wpAny_pure (wpAny_pure ?_)))
  obtain ⟨a, st, b, rfl, e2, ha, hb, q⟩ := q2
  cases rx
  obtain ⟨z2, dd⟩ := nd_raw (f := ([] : List (Sta × β))) (VP := VP) I3 e2 rfl (fun i kv e => by simp at e)
  refine ⟨[(keyOf st, a, vv)], ⟨rfl, rfl, nested_st I3 ha, trivial⟩, dd, fun h' tk dd' hs => ?_⟩
  have dd2 : h'.DictOfH (nestedKind X.prog X.w) s.heap.objs.size [(keyOf st, a, vv)] := dd'
  have f0 : FAt X.prog X.w VP H2 s.heap.objs.size [] := ⟨[], e2, rfl, fun i kv e => by simp at e⟩
  have t : Tps H2 (upd H2 s.heap.objs.size (ND X.prog X.w s.heap.objs.size ([] ++ [(keyOf st, a, vv)]))) := f0.tps sameD_upd
  have ho : ∃ ob, h'.get? s.heap.objs.size = some ob := by
    obtain ⟨ob, _, _, e, _⟩ := dd2
    exact ⟨ob, e⟩
  have J := I3.write (t' := tk) (x := s.heap.objs.size) (e := s.heap.objs.size) (o := ND X.prog X.w s.heap.objs.size [(keyOf st, a, vv)]) (by rw [e2]; exact True.intro) (.inl rfl) (fun c ob hc e => (hs.2 c hc).trans e) ho (nd_new z2 dd2)
  exact wpAny_pure ⟨.ref s.heap.objs.size, _, J, rfl, q _ sameD_upd (fAt_snoc (f := []) (xs := []) (a := a) (u := vv) (H := H2) hV t upd_same rfl (fun i kv e => by simp at e) ha (hb _ vv t ry))⟩
end
end WO

set_option Elab.async false
set_option linter.all false
set_option maxRecDepth 100000
set_option maxHeartbeats 4000000
namespace WO
open PySem PySem.Spec PyProof.Rows L2 WOm
/-! ### lists of things told by what stands at their addresses -/
section
variable {α : Type}
abbrev adrs (L : List (Addr × α)) : List V := L.map fun p => V.ref p.1
/-- a list at p of the things cs -/
def ObsAt (At : Hp → Addr → α → Prop) (H : Hp) (p : Addr) (cs : List α) : Prop := ∃ L : List (Addr × α), H p = some (.lst (adrs L)) ∧ L.map (·.2) = cs ∧ ∀ q ∈ L, At H q.1 q.2
def IsOb (At : Hp → Addr → α → Prop) (cs : List α) : Nat → V → Hp → Prop := fun i y H => ∃ b c, y = .ref b ∧ cs[i]? = some c ∧ At H b c
/-- what stands stays while the tuples stay -/
def Stays (At : Hp → Addr → α → Prop) : Prop := ∀ H H' a c, Tps H H' → At H a c → At H' a c
theorem stays_cmp : Stays CmpAt := fun _ _ _ _ t h => t _ _ h
theorem stays_st : Stays StAt := fun _ _ _ _ t h => StAt.keep h t
theorem isOb_keep {At : Hp → Addr → α → Prop} (st : Stays At) (cs : List α) : ∀ i y H H', Tps H H' → IsOb At cs i y H → IsOb At cs i y H' := fun i y H H' t ⟨b, c, h1, h2, h3⟩ => ⟨b, c, h1, h2, st _ _ _ _ t h3⟩
theorem obs_of {At : Hp → Addr → α → Prop} : ∀ {cs : List α} {ys : List V} {H : Hp}, ys.length = cs.length → (∀ (i : Nat) (y : V), ys[i]? = some y → IsOb At cs i y H) → ∃ L : List (Addr × α), ys = adrs L ∧ L.map (·.2) = cs ∧ ∀ q ∈ L, At H q.1 q.2
  | [], [], _, _, _ => ⟨[], rfl, rfl, fun p m => by cases m⟩
  | [], _ :: _, _, h, _ => by cases h
  | _ :: _, [], _, h, _ => by cases h
  | r :: rows, y :: ys, H, hl, h => by
    obtain ⟨L, e1, e2, e3⟩ := obs_of (At := At) (cs := rows) (ys := ys) (H := H) (by simpa using hl) fun i z ez => by
      obtain ⟨b, r', k1, k2, k3⟩ := h (i + 1) z (by simpa using ez)
      exact ⟨b, r', k1, by simpa using k2, k3⟩
    obtain ⟨b, r', k1, k2, k3⟩ := h 0 y rfl
    obtain rfl : r = r' := Option.some.inj k2
    refine ⟨(b, r) :: L, by rw [k1, e1]; rfl, by rw [← e2]; rfl, fun p m => ?_⟩
    rcases List.mem_cons.mp m with e | m
    · rw [e]; exact k3
    · exact e3 p m
theorem obsAt_of {At : Hp → Addr → α → Prop} {cs : List α} {ys : List V} {H : Hp} {a : Addr} (ha : H a = some (.lst ys)) (hl : ys.length = cs.length) (h : ∀ (i : Nat) (y : V), ys[i]? = some y → IsOb At cs i y H) : ObsAt At H a cs := by
  obtain ⟨L, e1, e2, e3⟩ := obs_of hl h
  exact ⟨L, by rw [ha, e1], e2, e3⟩
theorem ObsAt.same {At : Hp → Addr → α → Prop} (st : Stays At) {H H' : Hp} {p : Addr} {cs : List α} (h : ObsAt At H p cs) (s : Same H H') : ObsAt At H' p cs := by
  obtain ⟨L, h1, h2, h3⟩ := h
  exact ⟨L, s _ _ h1, h2, fun q m => st _ _ _ _ (Same.tps s) (h3 q m)⟩
theorem ObsAt.sameD {At : Hp → Addr → α → Prop} (st : Stays At) {H H' : Hp} {p d : Addr} {cs : List α} (h : ObsAt At H p cs) (s : SameD d H H') (n : p ≠ d) (t : Tps H H') : ObsAt At H' p cs := by
  obtain ⟨L, h1, h2, h3⟩ := h
  exact ⟨L, s _ _ n h1, h2, fun q m => st _ _ _ _ t (h3 q m)⟩
theorem ObsAt.len {At : Hp → Addr → α → Prop} {H : Hp} {p : Addr} {cs : List α} (h : ObsAt At H p cs) : ∃ ys, H p = some (.lst ys) ∧ ys.length = cs.length := by
  obtain ⟨L, h1, h2, h3⟩ := h
  exact ⟨_, h1, by rw [List.length_map, ← h2, List.length_map]⟩
theorem ObsAt.app {At : Hp → Addr → α → Prop} {H : Hp} {a b p : Addr} {ra rb : List α} (ha : ObsAt At H a ra) (hb : ObsAt At H b rb) (hp : ∀ xs ys, H a = some (.lst xs) → H b = some (.lst ys) → H p = some (.lst (xs ++ ys))) : ObsAt At H p (ra ++ rb) := by
  obtain ⟨L1, h1, e1, r1⟩ := ha
  obtain ⟨L2, h2, e2, r2⟩ := hb
  refine ⟨L1 ++ L2, by rw [hp _ _ h1 h2]; unfold adrs; rw [List.map_append], by rw [List.map_append, e1, e2], fun q m => ?_⟩
  rcases List.mem_append.mp m with m | m
  · exact r1 q m
  · exact r2 q m
/-- the i-th of them -/
theorem ObsAt.at {At : Hp → Addr → α → Prop} {H : Hp} {p : Addr} {cs : List α} {i : Nat} {y : V} {ys : List V} (h : ObsAt At H p cs) (hp : H p = some (.lst ys)) (hy : ys[i]? = some y) : ∃ b c, y = .ref b ∧ cs[i]? = some c ∧ At H b c := by
  obtain ⟨L, h1, h2, h3⟩ := h
  rw [hp] at h1
  cases h1
  rw [List.getElem?_map] at hy
  obtain ⟨q, hq, rfl⟩ := Option.map_eq_some_iff.mp hy
  exact ⟨q.1, q.2, rfl, by rw [← h2, List.getElem?_map, hq]; rfl, h3 q (List.mem_of_getElem? hq)⟩
end
/-! ### pairs_among -/
def pairsF (n : Nat) : Nat → List Cmp := fun l => (List.range' (l + 1) (n - (l + 1))).map fun h => (l, h)
def spPairs : Sp := fun vs H Q _ => ∃ n : Nat, vs = [.int n] ∧ n ≤ 5 ∧ ∀ H' p, Same H H' → ObsAt CmpAt H' p (pairs n) → Q (.ref p) H'
theorem pairsF_len {n : Nat} (hn : n ≤ 5) : ∀ i, i ≤ 5 → ((List.range i).flatMap (pairsF n)).length ≤ i * 5
  | 0, _ => Nat.le_refl 0
  | i + 1, hi => by
    rw [List.range_succ, List.flatMap_append, List.length_append]
    have h1 := pairsF_len hn i (by omega)
    have h2 : ((List.flatMap (pairsF n) [i])).length ≤ 5 := by
      show ((pairsF n i) ++ []).length ≤ 5
      rw [List.append_nil]
      unfold pairsF
      rw [List.length_map, List.length_range']
      omega
    omega
section
variable {P : Program} {w : World} {K : PySem.W.Frag} {mg : Str → Option Value} {base : Heap}
theorem sc_pairs : FnScope ["many", "found", "low", "high"] ["many"] (defScope (topS 29)) := C8.fnScope_by (by decide +kernel)
theorem c_pairs (T : Tx K mg) : C8.Cal P w K mg base 1 "pairs_among" spPairs [] := by
  refine cal_of T.d_pairs_among (fun _ _ _ _ _ _ us hl => match us, hl with | [_], _ => rfl) sc_pairs (fun vs H Q E h => ?_) (fun f cdv A outer s H vs Q E hr h => ?_)
  · obtain ⟨n, rfl, _⟩ := h
    rfl
  · obtain ⟨n, rfl, h5, q⟩ := h
    refine ⟨_, pss_cons (ps_set (i := 1) sc_pairs.nd rfl (.inl rfl) (pe_lst pa_nil))
      (pss_cons (ps_for PassesOwn.never rfl (pi_range1 (by rfl) T.range_ (pa_cons (pv 0) pa_nil)) (pg_name (i := 2) sc_pairs.nd rfl (.inr rfl))
        (pss_one (ps_set (i := 1) sc_pairs.nd rfl (.inl rfl) (pe_op op_cat (pv 1)
          (pe_lc (own := [("high", 3)]) (g := gName 3) (by rfl) sc_pairs.nd (pi_range2 (by rfl) T.range_ (pa_cons (pe_op op_add (pv 2) pe_int) (pa_cons (pv 0) pa_nil))) (blkOk_by (N := ["many", "found", "low", "high"]) (sc := defScope (topS 29)) (by decide +kernel)) (fun _ _ _ _ _ => pg_name (i := 3) sc_pairs.nd rfl (.inl rfl)) (fun _ _ _ _ _ => pts_nil)
            (fun _ _ _ _ _ => pe_tup (pa_cons (pv 2) (pa_cons (pv 3) pa_nil))))))))
      (pss_one (ps_ret (pv 1)))), ?_⟩
    refine ⟨few0, fun b0 n0 => ?_⟩
    generalize hH0 : upd H b0 _ = H0
    have s0 : Same H H0 := hH0 ▸ same_upd n0
    have e0 : H0 b0 = some (.lst []) := hH0 ▸ upd_same
    refine ⟨.int n, rfl, n, rfl, by omega, by omega, for_range (n := n) (lo := 0) (fun i σ H2 => ∃ b y, σ = [some (.int n), some (.ref b), y, none] ∧ Same H H2 ∧ ObsAt CmpAt H2 b ((List.range i).flatMap (pairsF n))) ⟨b0, none, rfl, s0, [], e0, rfl, fun p m => by cases m⟩ ?_ ?_⟩
    · rintro i σ H2 hi ⟨b, y, rfl, s2, hb⟩
      refine ⟨.ref b, rfl, .int (0 + i), rfl, (0 + (i : Nat) : Int), 1, rfl, rfl, .int n, rfl, 0 + (i : Int) + 1, n, rfl, by omega, fun D hD => ?_⟩
      have eN : ((n : Int) - (0 + (i : Int) + 1)).toNat = n - (i + 1) := by omega
      rw [eN]
      refine lc_mapR (IsOb CmpAt (pairsF n i)) (isOb_keep stays_cmp _) hD (by omega) ?_ ?_ (gName_mono 3)
      · intro j H3 hj s3 k hk
        refine ⟨rfl, .int (0 + i), rfl, .int (0 + (i : Int) + 1 + j), rfl, few2, fun p np => hk _ _ (same_upd np) ⟨p, (i, i + 1 + j), rfl, ?_, ?_⟩⟩
        · unfold pairsF
          rw [List.getElem?_map, List.getElem?_range' hj]
          simp
        · refine Eq.trans upd_same ?_
          show some (HO.tup [V.int (0 + (i : Int)), V.int (0 + (i : Int) + 1 + j)]) = some (HO.tup [V.int ((i : Nat) : Int), V.int ((i + 1 + j : Nat) : Int)])
          rw [show (0 + (i : Int)) = ((i : Nat) : Int) by omega, show (((i : Nat) : Int) + 1 + (j : Int)) = ((i + 1 + j : Nat) : Int) by omega]
      · intro H3 ys s3 e3 hl hys
        have l3 : ObsAt CmpAt H3 D (pairsF n i) := obsAt_of e3 (by rw [hl]; unfold pairsF; rw [List.length_map, List.length_range']) hys
        have hb3 := hb.same stays_cmp s3
        obtain ⟨xs, x1, x2⟩ := hb3.len
        have hx := pairsF_len h5 i (by omega)
        refine ⟨b, D, xs, ys, rfl, rfl, x1, e3, few (by omega), fun p np => ?_⟩
        generalize hH4 : upd H3 p _ = H4
        have s4 : Same H3 H4 := hH4 ▸ same_upd np
        have e4 : H4 p = some (.lst (xs ++ ys)) := hH4 ▸ upd_same
        refine ⟨p, some (.int (0 + i)), rfl, (s2.trans s3).trans s4, ?_⟩
        rw [List.range_succ, List.flatMap_append]
        show ObsAt CmpAt H4 p (_ ++ (pairsF n i ++ []))
        rw [List.append_nil]
        refine (hb3.same stays_cmp s4).app (l3.same stays_cmp s4) fun us vs hu hv => ?_
        rw [s4 _ _ x1] at hu
        rw [s4 _ _ e3] at hv
        cases hu
        cases hv
        exact e4
    · rintro σ H2 ⟨b, y, rfl, s2, hb⟩
      exact ⟨.ref b, rfl, q H2 b s2 hb⟩
end
/-! ### states -/
theorem len_le_of_sub : ∀ (l D : List Rw), l.Nodup → (∀ x ∈ l, x ∈ D) → l.length ≤ D.length
  | [], _, _, _ => Nat.zero_le _
  | x :: l, D, hn, hs => by
    obtain ⟨h1, h2⟩ := List.nodup_cons.mp hn
    have hx : x ∈ D := hs x List.mem_cons_self
    have ih := len_le_of_sub l (D.erase x) h2 fun y hy => by
      have hne : y ≠ x := fun e => h1 (e ▸ hy)
      exact (List.mem_erase_of_ne hne).2 (hs y (List.mem_cons_of_mem _ hy))
    have e := List.length_erase_of_mem hx
    have hp : 0 < D.length := List.length_pos_of_mem hx
    rw [List.length_cons]
    omega
theorem img_sub {n : Nat} {A : List Rw} (h : ∀ r ∈ A, ∀ c ∈ pairs n, cmp r c ∈ A) {q : List Cmp} (hq : Valid n q) : ∀ r ∈ img A q, r ∈ A := fun r m => by
  obtain ⟨x, mx, rfl⟩ := List.mem_map.mp (canon_mem.mp m)
  exact thr_cl h q mx hq
theorem img_len {n : Nat} {A : List Rw} (h : ∀ r ∈ A, ∀ c ∈ pairs n, cmp r c ∈ A) {q : List Cmp} (hq : Valid n q) : (img A q).length ≤ A.length :=
  len_le_of_sub _ _ (asc_nodup (canon_asc _)) (img_sub h hq)
/-- a state of the search has few rows, of one width -/
theorem key_fits {n : Nat} (F : Facts n) {net : List Cmp} (hn : Valid n net) {f : List (Sta × List Cmp)} {line : List Sta} {D : Sta → List Cmp → Prop} (I : QI (pairs n) (img (marks n) net) goalOf f line D) {s : Sta} (h : s ∈ keys f) : Fits n s ∧ s.length ≤ 16 := by
  obtain ⟨h1, h2⟩ := I.val _ (find_at h)
  have h1 : wlk (img (marks n) net) (pathOf f s) = s := h1
  rw [wlk_img] at h1
  have hv : Valid n (net ++ pathOf f s) := valid_app hn h2
  rw [← h1]
  exact ⟨fun r m => marks_fit n r (img_sub F.mcl hv r m), Nat.le_trans (img_len F.mcl hv) F.m16⟩
end WO

set_option Elab.async false
set_option linter.all false
set_option maxRecDepth 100000
set_option maxHeartbeats 4000000
namespace WO
open PySem PySem.Spec PyProof.Rows L2 WOm
theorem cr_tup {X : Cx} : CallR X (.type "tuple") (rTupOf X.K) := call_tuple_of
def VPn : Hp → Value → List Cmp → Prop := fun H u q => ∃ p, u = Value.ref p ∧ NetAt H p q
theorem vpn_keep : ∀ (H H' : Hp) (u : Value) (b : List Cmp), Tps H H' → VPn H u b → VPn H' u b := fun _ _ _ _ t ⟨p, e, h⟩ => ⟨p, e, h.keep t⟩
theorem same_through {H Ha Hb : Hp} {d : Addr} (s : Same H Ha) (sd : SameD d Ha Hb) (n : H d = none) : Same H Hb := fun b o e => sd b o (ne_of_none e n) (s b o e)
theorem find_path {f : List (Sta × List Cmp)} {s : Sta} (h : s ∈ keys f) : (f.find? fun kv => decide (kv.1 = s)).map (·.2) = some (pathOf f s) := by
  unfold pathOf
  cases e : f.find? fun kv => decide (kv.1 = s) with
  | none =>
    exfalso
    obtain ⟨kv, hk, rfl⟩ := List.mem_map.mp h
    have z := List.find?_eq_none.mp e kv hk
    simp at z
  | some kv => rfl
theorem net_snoc {H : Hp} {p t r : Addr} {q : List Cmp} {c : Cmp} {as : List Addr} (h2 : as.length = q.length) (h3 : ∀ (i : Nat) (c : Cmp), q[i]? = some c → ∃ p : Addr, as[i]? = some p ∧ CmpAt H p c) (hc : CmpAt H t c) (e : H r = some (.tup (as.map V.ref ++ [.ref t]))) : NetAt H r (q ++ [c]) := by
  refine ⟨as ++ [t], by rw [e, List.map_append]; rfl, by rw [List.length_append, List.length_append, h2]; rfl, fun i c' hi => ?_⟩
  rcases Nat.lt_or_ge i q.length with h | h
  · rw [List.getElem?_append_left h] at hi
    obtain ⟨p, k1, k2⟩ := h3 i c' hi
    exact ⟨p, by rw [List.getElem?_append_left (by omega)]; exact k1, k2⟩
  · rw [List.getElem?_append_right h] at hi
    have h0 : i - q.length = 0 := by
      rcases Nat.eq_zero_or_pos (i - q.length) with h0 | h0
      · exact h0
      · rw [List.getElem?_eq_none (by simp; omega)] at hi
        cases hi
    rw [h0] at hi
    obtain rfl := Option.some.inj hi
    refine ⟨t, ?_, hc⟩
    rw [List.getElem?_append_right (by omega), h2, h0]
    rfl
theorem nd_ne_lst {P : Program} {w : World} {d : Addr} {xs : List (NestedKey × Addr × Value)} {ys : List V} : HO.lst ys ≠ ND P w d xs := fun z => by
  unfold ND at z
  cases z
theorem FAt.ne_lst {β : Type} {P : Program} {w : World} {VP : Hp → Value → β → Prop} {H : Hp} {d l : Addr} {f : List (Sta × β)} {ys : List V} (h : FAt P w VP H d f) (e : H l = some (.lst ys)) : l ≠ d := by
  obtain ⟨xs, h1, _⟩ := h
  exact ne_of e h1 nd_ne_lst
theorem all_asc (x : Sta) : (x.map asc).all id = ascAll x := by
  unfold ascAll
  rw [List.all_map]
  rfl
theorem ltR_len {f : List (Sta × List Cmp)} {x : Sta} : ln f x = (pathOf f x).length := rfl
def spShortest : Sp := fun vs H Q _ => ∃ (n : Nat) (a : Addr) (net : List Cmp), vs = [.int n, .ref a] ∧ Few n ∧ NetAt H a net ∧ Fit n net ∧ ∀ H' p q, Same H H' → NetAt H' p q → Best n net q → q.length ≤ 6 → Q (.ref p) H'
theorem few_bd {n : Nat} (h : Few n) : 1 ≤ n ∧ n ≤ 4 := by
  rcases h with h | h | h | h <;> omega
section
variable {P : Program} {w : World} {K : PySem.W.Frag} {mg : Str → Option Value} {base : Heap}
theorem sc_shortest : FnScope ["many", "net", "start", "found", "line", "rows", "pair", "later", "row"] ["many", "net"] (defScope (topS 31)) := C8.fnScope_by (by decide +kernel)
theorem c_shortest (T : Tx K mg) : C8.Cal P w K mg base 3 "shortest_more" spShortest [] := by
  refine cal_of T.d_shortest_more (fun _ _ _ _ _ _ us hl => match us, hl with | [_, _], _ => rfl) sc_shortest (fun vs H Q E h => ?_) (fun f cdv A outer s H vs Q E hr h => ?_)
  · obtain ⟨n, a, net, rfl, _⟩ := h
    rfl
  · obtain ⟨n, na, net, rfl, hfew, hn, hfit, q⟩ := h
    obtain ⟨b1, b4⟩ := few_bd hfew
    have F := facts hfew
    have hval : Valid n net := fit_valid.mp hfit
    refine ⟨_, pss_cons (ps_set (i := 2) sc_shortest.nd rfl (.inl rfl) (pe_callTy cr_tup (by rfl) T.tuple_ (by decide +kernel) (pa_cons (pe_callB (cr_sortedT rfl) (by rfl) T.sorted_ (by decide +kernel) (pa_cons (pe_callTy (cr_setOfT rfl (hu64 hr)) (by rfl) T.set_ (by decide +kernel)
        (pa_cons (pe_lc (own := [("row", 8)]) (g := gName 8) (by rfl) sc_shortest.nd (pi_list (C8.pe_c (c_all_marks T) hr (by decide) (by rfl) (pa_cons (pv 0) pa_nil))) (blkOk_by (N := ["many", "net", "start", "found", "line", "rows", "pair", "later", "row"]) (sc := defScope (topS 31)) (by decide +kernel)) (fun _ _ _ _ _ => pg_name (i := 8) sc_shortest.nd rfl (.inl rfl)) (fun _ _ _ _ _ => pts_nil)
          (fun _ _ _ _ _ => C8.pe_c (c_behind T) hr (by decide) (by rfl) (pa_cons (pv 8) (pa_cons (pv 1) pa_nil)))) pa_nil)) pa_nil)) pa_nil)))
      (pss_cons (ps_par (i := 3) (j := 4) rfl sc_shortest.nd rfl rfl (by decide) rfl rfl (pa_cons (pe_nd_one (VP := VPn) (hu64 hr) vpn_keep (pv 2) (pe_tup pa_nil)) (pa_cons (pe_lst (pa_cons (pv 2) pa_nil)) pa_nil)) (by rfl))
      (pss_cons (ps_while PassesOwn.never (pt_not (pt_val (pe_callB (cr_all rfl) (by rfl) T.all_ (by decide +kernel) (pa_cons (pe_lc (own := [("row", 8)]) (g := gName 8) (by rfl) sc_shortest.nd (pi_tup (pe_ix ix_list (pv 4) pe_int (fun _ _ => rfl)))
            (blkOk_by (N := ["many", "net", "start", "found", "line", "rows", "pair", "later", "row"]) (sc := defScope (topS 31)) (by decide +kernel)) (fun _ _ _ _ _ => pg_name (i := 8) sc_shortest.nd rfl (.inl rfl)) (fun _ _ _ _ _ => pts_nil)
            (fun _ _ _ _ _ => C8.pe_c (c_sorted_row T) hr (by decide) (by rfl) (pa_cons (pv 8) pa_nil))) pa_nil))))
          (pss_cons (ps_set (i := 5) sc_shortest.nd rfl (.inl rfl) (pe_ix ix_list (pv 4) pe_int (fun _ _ => rfl)))
          (pss_cons (ps_set (i := 4) sc_shortest.nd rfl (.inl rfl) (pe_slice sl_list (pv 4) (po_some pe_int) po_none))
          (pss_one (ps_for PassesOwn.never rfl (pi_list (C8.pe_c (c_pairs T) hr (by decide) (by rfl) (pa_cons (pv 0) pa_nil))) (pg_name (i := 6) sc_shortest.nd rfl (.inl rfl))
            (pss_cons (ps_set (i := 7) sc_shortest.nd rfl (.inl rfl) (C8.pe_c (c_rows_behind T) hr (by decide) (by rfl) (pa_cons (pv 5) (pa_cons (pv 6) pa_nil))))
            (pss_one (ps_if (pt_cmpR (op_nd_notin (VP := VPn) (hu64 hr)) (pv 7) (pv 3) (by rfl))
              (pss_cons (ps_asg (pe_op op_catS (pe_nd_get (VP := VPn) (hu64 hr) (pv 3) (pv 5) (fun _ _ => rfl)) (pe_tup (pa_cons (pv 6) pa_nil))) (pg_sub (pv 3) (pv 7) (set_nd (hu64 hr) vpn_keep)))
              (pss_one (ps_set (i := 4) sc_shortest.nd rfl (.inl rfl) (pe_op op_cat (pv 4) (pe_lst (pa_cons (pv 7) pa_nil)))))) pss_nil))))))))
      (pss_one (ps_ret (pe_nd_get (VP := VPn) (hu64 hr) (pv 3) (pe_ix ix_list (pv 4) pe_int (fun _ _ => rfl)) (fun _ _ => rfl)))))), ?_⟩
    -- start
    refine ⟨_, rfl, n, rfl, b1, by omega, fun H1 pm rows s1 ⟨L, hL, hm, hri⟩ hmem hlen => ⟨pm, rfl, ⟨_, SqL.of hL⟩, fun D hD => ?_⟩⟩
    have hL16 : L.length ≤ 16 := by
      have h1 : L.length = 2 ^ n := by rw [← hlen, ← hm, List.length_map]
      have h2 : 2 ^ n ≤ 2 ^ 4 := Nat.pow_le_pow_right (by decide) b4
      omega
    refine lc_map (xs := refs L) (IsRow (rows.map (thr · net))) (isRow_keep _) hD hL (by rw [List.length_map]; omega) ?_ ?_ (gName_mono 8)
    · intro i x H2 hx s2 k hk
      rw [List.getElem?_map] at hx
      obtain ⟨pr, hp, rfl⟩ := Option.map_eq_some_iff.mp hx
      have mp : pr ∈ L := List.mem_of_getElem? hp
      have mm : pr.2 ∈ marks n := (hmem _).mp (by rw [← hm]; exact List.mem_map.mpr ⟨pr, mp, rfl⟩)
      have l1 := (marks_fit n pr.2 mm).1
      refine ⟨rfl, .ref pr.1, rfl, .ref na, rfl, pr.1, na, pr.2, net, rfl, s2 _ _ (hri pr mp), (hn.keep (Same.tps s1)).keep (Same.tps s2), by rw [l1]; exact hfit, by omega, fun H3 b s3 e3 => hk _ _ s3 ⟨b, _, rfl, ?_, e3⟩⟩
      rw [← hm, List.map_map, List.getElem?_map, hp]
      rfl
    · intro H2 ys s2 e2 hl hys
      have fitr : Fits n (rows.map (thr · net)) := fun r m => by
        obtain ⟨r', m', rfl⟩ := List.mem_map.mp m
        exact marks_fit n _ (thr_cl F.mcl net ((hmem r').mp m') hval)
      show rSetOfT K P w [V.ref D] H2 fun y H3 => rSortedT K P w [y] H3 fun z H4 => rTupOf K [z] H4 fun x H5 => gName 2 x _ H5 _
      refine chain (d := n) (lsAt_of e2 (by rw [hl, List.length_map, List.length_map, ← hm, List.length_map]) hys) (by rw [List.length_map, ← hm, List.length_map]; omega) b1 fitr fun H3 sa s3 e3 => ?_
      have ec : canon (rows.map (thr · net)) = img (marks n) net := canon_ext fun x => by
        simp only [List.mem_map]
        constructor
        · rintro ⟨r, m, rfl⟩
          exact ⟨r, (hmem r).mp m, rfl⟩
        · rintro ⟨r, m, rfl⟩
          exact ⟨r, (hmem r).mpr m, rfl⟩
      rw [ec] at e3
      have s03 : Same H H3 := (s1.trans s2).trans s3
      -- found, line
      refine fun d nd => ?_
      generalize hH4 : upd H3 d _ = H4
      have s4 : Same H3 H4 := hH4 ▸ same_upd nd
      have e4 : H4 d = some (ND P w d []) := hH4 ▸ upd_same
      refine ⟨.ref sa, rfl, few0, fun p0 n0 => ?_⟩
      generalize hH5 : upd H4 p0 _ = H5
      have s5 : Same H4 H5 := hH5 ▸ same_upd n0
      have e5 : H5 p0 = some (.tup []) := hH5 ▸ upd_same
      have e3' := e3.keep (Same.tps (s4.trans s5))
      refine ⟨sa, img (marks n) net, [], rfl, s5 _ _ e4, e3', fun H' u t r => ⟨p0, r, [], t _ _ e5, rfl, fun i c h => by simp at h⟩, fun H6 sd6 f6 => ?_⟩
      have dH : H d = none := L2.Same.free s03 nd
      have s06 : Same H H6 := same_through ((s03.trans s4).trans s5) sd6 dH
      have t6 : Tps H5 H6 := sd6.tps (s5 _ _ e4)
      refine ⟨.ref sa, rfl, few1, fun l nl => ?_⟩
      generalize hH7 : upd H6 l _ = H7
      have s7 : Same H6 H7 := hH7 ▸ same_upd nl
      have e7 : H7 l = some (.lst [.ref sa]) := hH7 ▸ upd_same
      refine ⟨_, _, rfl, ?_⟩
      -- while
      refine ⟨fun m σ H2 => ∃ (l : Addr) (f : List (Sta × List Cmp)) (line : List Sta) (y5 y6 y7 : Option V), σ = [some (.int n), some (.ref na), some (.ref sa), some (.ref d), some (.ref l), y5, y6, y7, none] ∧ Same H H2 ∧ FAt P w VPn H2 d f ∧ ObsAt StAt H2 l line ∧
        QA (pairs n) (img (marks n) net) goalOf f line ∧ f.length + pot f line ≤ 1 + wt 7 ∧ line.length ≤ f.length ∧ m = pot f line, ⟨_, l, [(img (marks n) net, [])], [img (marks n) net], none, none, none, rfl, s06.trans s7, f6.keep vpn_keep s7, ⟨[(sa, img (marks n) net)], e7, rfl, fun p m => ?_⟩, QA.start, ?_, Nat.le_refl 1, rfl⟩, ?_⟩
      · rw [List.mem_singleton.mp m]
        exact (e3'.keep t6).keep (Same.tps s7)
      · unfold pot
        show 1 + (wt (7 - ln [(img (marks n) net, [])] (img (marks n) net)) + 0) ≤ 1 + wt 7
        rw [show ln [(img (marks n) net, ([] : List Cmp))] (img (marks n) net) = 0 by simp [ln, pathOf]]
        exact Nat.le_refl _
      · rintro m σ H8 ⟨l, f, line, y5, y6, y7, rfl, s8, f8, o8, I, hpot, hlf, rfl⟩
        obtain ⟨x, rest, rfl, hx6⟩ := I.head F.bval (show ascAll _ = true from bub_goalM F hval)
        have hx6 : ln f x ≤ 6 := Nat.le_trans hx6 F.blen
        have kx : x ∈ keys f := I.sub x List.mem_cons_self
        obtain ⟨fitx, x16⟩ := key_fits F hval I kx
        obtain ⟨Ll, hLl, hLm, hLa⟩ := id o8
        obtain ⟨⟨ax, x'⟩, Lr, rfl⟩ : ∃ q Lr, Ll = q :: Lr := by
          cases Ll with
          | nil => cases hLm
          | cons q Lr => exact ⟨q, Lr, rfl⟩
        obtain ⟨rfl, hLr⟩ : x' = x ∧ Lr.map (·.2) = rest := by
          rw [List.map_cons] at hLm
          injection hLm with h1 h2
          exact ⟨h1, h2⟩
        have ax8 : StAt H8 ax x' := hLa _ List.mem_cons_self
        obtain ⟨Lx, hLx, hxm, hxr⟩ := id ax8
        refine ⟨.ref l, rfl, l, _, 0, .ref ax, rfl, rfl, SqL.of hLl, atI_nat (j := 0) rfl, ax, rfl, ⟨_, SqT.of hLx⟩, fun D8 hD8 => ?_⟩
        refine lc_mapT (xs := refs Lx) (fun i y _ => ∃ b, (x'.map asc)[i]? = some b ∧ y = .bl b) (fun i y H H' _ h => h) hD8 hLx (by rw [List.length_map]; have := congrArg List.length hxm; rw [List.length_map] at this; omega) ?_ ?_ (gName_mono 8)
        · intro i y H9 hy s9 k hk
          rw [List.getElem?_map] at hy
          obtain ⟨pr, hp, rfl⟩ := Option.map_eq_some_iff.mp hy
          have mp : pr ∈ Lx := List.mem_of_getElem? hp
          have l1 := (fitx pr.2 (by rw [← hxm]; exact List.mem_map.mpr ⟨pr, mp, rfl⟩)).1
          refine ⟨rfl, .ref pr.1, rfl, pr.1, pr.2, rfl, s9 _ _ (hxr pr mp), by omega, fun H10 s10 => hk _ _ s10 ⟨_, ?_, rfl⟩⟩
          rw [← hxm, List.map_map, List.getElem?_map, hp]
          rfl
        · intro H9 zs s9 e9 hl9 hzs
          have ez := vbl_of (bs := x'.map asc) (by rw [hl9, List.length_map, List.length_map, ← hxm, List.length_map]) hzs
          rw [ez] at e9
          refine ⟨D8, _, rfl, SqL.of e9, _, rfl, ?_⟩
          rw [all_asc]
          show (if (!ascAll x') = true then _ else _)
          have f9 := f8.keep vpn_keep s9
          have o9 := o8.same stays_st s9
          have h9l := s9 _ _ hLl
          have ax9 := ax8.keep (Same.tps s9)
          cases hA : ascAll x' with
          | true =>
            refine iteF ⟨.ref d, rfl, .ref l, rfl, l, _, 0, .ref ax, rfl, rfl, SqL.of h9l, atI_nat (j := 0) rfl, ax, d, x', f, pathOf f x', rfl, rfl, ax9, f9, find_path kx, fun u hu => ?_⟩
            obtain ⟨p, rfl, hp⟩ := hu
            exact ⟨.ref p, rfl, q H9 p _ (s8.trans s9) hp (QA.best I hA) hx6⟩
          | false =>
            refine iteT ⟨fun σ' H' => ∃ m', m' < pot f (x' :: rest) ∧ ∃ (l : Addr) (f : List (Sta × List Cmp)) (line : List Sta) (y5 y6 y7 : Option V), σ' = [some (.int n), some (.ref na), some (.ref sa), some (.ref d), some (.ref l), y5, y6, y7, none] ∧ Same H H' ∧ FAt P w VPn H' d f ∧ ObsAt StAt H' l line ∧
              QA (pairs n) (img (marks n) net) goalOf f line ∧ f.length + pot f line ≤ 1 + wt 7 ∧ line.length ≤ f.length ∧ m' = pot f line, fun _ _ h => h, ?_⟩
            -- rows = line[0]; line = line[1:]
            refine ⟨.ref l, rfl, l, _, 0, .ref ax, rfl, rfl, SqL.of h9l, atI_nat (j := 0) rfl, ?_⟩
            refine ⟨.ref l, rfl, 1, rfl, l, _, rfl, SqL.of h9l, fun l2 nl2 => ?_⟩
            generalize hH10 : upd H9 l2 _ = H10
            have s10 : Same H9 H10 := hH10 ▸ same_upd nl2
            have e10 : H10 l2 = _ := hH10 ▸ upd_same
            rw [show (1 : Int) = ((1 : Nat) : Int) from rfl, cut_from] at e10
            have o10 : ObsAt StAt H10 l2 rest := ⟨Lr, e10, hLr, fun r m => (hLa r (List.mem_cons_of_mem _ m)).keep (Same.tps (s9.trans s10))⟩
            -- for pair in pairs_among(many)
            refine ⟨_, rfl, n, rfl, by omega, fun H11 pp s11 hpp => ?_⟩
            obtain ⟨Lp, hLp, hpm, hpa⟩ := id hpp
            have f11 := f9.keep vpn_keep (s10.trans s11)
            have M0 : QM (pairs n) (img (marks n) net) goalOf x' f.length (pot f rest) f rest [] := I.pop (fun z => by rw [show ascAll x' = true from z] at hA; cases hA) hx6
            refine ⟨pp, rfl, ⟨_, SqL.of hLp⟩, for_list (xs := adrs Lp) (fun i σ H2 => ∃ (f' : List (Sta × List Cmp)) (line' : List Sta) (l' : Addr) (y6 y7 : Option V), σ = [some (.int n), some (.ref na), some (.ref sa), some (.ref d), some (.ref l'), some (.ref ax), y6, y7, none] ∧ Same H H2 ∧ FAt P w VPn H2 d f' ∧ ObsAt StAt H2 l' line' ∧
              StAt H2 ax x' ∧ ObsAt CmpAt H2 pp (pairs n) ∧ H2 pp = some (.lst (adrs Lp)) ∧ ln f' x' = ln f x' ∧ line'.length ≤ f'.length ∧ QM (pairs n) (img (marks n) net) goalOf x' f.length (pot f rest) f' line' ((pairs n).take i))
              ⟨f, rest, l2, y6, y7, rfl, ((s8.trans s9).trans s10).trans s11, f11, o10.same stays_st s11, (ax9.keep (Same.tps s10)).keep (Same.tps s11), hpp, hLp, rfl, by rw [List.length_cons] at hlf; omega, M0⟩ ?_ ?_ ?_⟩
            · rintro i σ H2 _ ⟨f', line', l', y6, y7, rfl, _, _, _, _, _, h7, _⟩
              exact SqL.of h7
            · rintro i y σ H12 hy ⟨f', line', l', y6, y7, rfl, s12, f12, o12, a12, p12, h12, hln, hlf', M⟩
              obtain ⟨cp, c, rfl, hc, hcp⟩ := p12.at h12 hy
              have mc : c ∈ pairs n := List.mem_of_getElem? hc
              obtain ⟨c1, c2⟩ := mem_pairs.mp mc
              have tk : (pairs n).take (i + 1) = (pairs n).take i ++ [c] := by
                rw [List.take_add_one, hc]
                rfl
              -- later = rows_behind(rows, pair)
              refine ⟨.ref ax, rfl, .ref cp, rfl, ax, cp, x', c, n, rfl, a12, hcp, c1, c2, fitx, by omega, by omega, fun H13 b s13 e13 => ?_⟩
              have f13 := f12.keep vpn_keep s13
              refine ⟨.ref b, rfl, .ref d, rfl, b, d, stp x' c, f', rfl, rfl, e13, f13, _, rfl, ?_⟩
              show (if (!decide (stp x' c ∈ keys f')) = true then _ else _)
              by_cases hk : stp x' c ∈ keys f'
              · rw [decide_eq_true hk]
                refine iteF ⟨f', line', l', some (.ref cp), some (.ref b), rfl, s12.trans s13, f13, o12.same stays_st s13, a12.keep (Same.tps s13), p12.same stays_cmp s13, s13 _ _ h12, hln, hlf', ?_⟩
                rw [tk]
                exact M.old hk
              · rw [decide_eq_false hk]
                have a13 := a12.keep (Same.tps s13)
                refine iteT ⟨.ref d, rfl, .ref ax, rfl, ax, d, x', f', pathOf f' x', rfl, rfl, a13, f13, find_path M.kx, fun u hu => ?_⟩
                obtain ⟨p, rfl, hp⟩ := hu
                obtain ⟨as, ha1, ha2, ha3⟩ := hp
                refine ⟨.ref p, rfl, .ref cp, rfl, few1, fun t nt => ?_⟩
                generalize hH14 : upd H13 t _ = H14
                have s14 : Same H13 H14 := hH14 ▸ same_upd nt
                have e14 : H14 t = some (.tup [.ref cp]) := hH14 ▸ upd_same
                have lp : as.length ≤ 6 := by
                  rw [ha2]
                  show ln f' x' ≤ 6
                  omega
                refine ⟨p, t, _, _, rfl, rfl, s14 _ _ ha1, e14, few (by rw [List.length_map]; show _ + 1 ≤ _; omega), fun H15 pt s15 e15 => ?_⟩
                have s1315 : Same H13 H15 := s14.trans s15
                have np : NetAt H15 pt (pathOf f' x' ++ [c]) := net_snoc (p := p) ha2 (fun i c h => by
                  obtain ⟨p, k1, k2⟩ := ha3 i c h
                  exact ⟨p, k1, s1315 _ _ k2⟩) (s1315 _ _ (s13 _ _ hcp)) e15
                have f15 := f13.keep vpn_keep s1315
                obtain ⟨kk, kk1, kk2, _⟩ := M.cnt
                have lk : kk ≤ 6 := Nat.le_trans kk1 (by rw [List.length_take]; have := F.p6; omega)
                have w7 : wt 7 = 391909 := rfl
                refine ⟨.ref d, rfl, .ref b, rfl, b, d, stp x' c, f', pathOf f' x' ++ [c], rfl, rfl, e13.keep (Same.tps s1315), f15, hk, few' (by omega), fun H' u t r => ⟨pt, r, np.keep t⟩, fun H16 sd16 f16 => ?_⟩
                have t16 : Tps H15 H16 := f15.tps sd16
                have o15 := (o12.same stays_st s13).same stays_st s1315
                obtain ⟨ysl, hy1, hy2⟩ := o15.len
                have o16 := o15.sameD stays_st sd16 (f15.ne_lst hy1) t16
                have y16 := sd16 _ _ (f15.ne_lst hy1) hy1
                have p15 := (p12.same stays_cmp s13).same stays_cmp s1315
                have h15 := s1315 _ _ (s13 _ _ h12)
                have p16 := p15.sameD stays_cmp sd16 (f15.ne_lst h15) t16
                have h16 := sd16 _ _ (f15.ne_lst h15) h15
                have dH2 : Same H H16 := same_through ((s12.trans s13).trans s1315) sd16 dH
                have b16 : StAt H16 b (stp x' c) := (e13.keep (Same.tps s1315)).keep t16
                have M' := M.new mc hk
                have lin : line'.length ≤ 1000000 := by
                  omega
                refine ⟨.ref l', rfl, .ref b, rfl, few1, fun q1 nq1 => ?_⟩
                generalize hH17 : upd H16 q1 _ = H17
                have s17 : Same H16 H17 := hH17 ▸ same_upd nq1
                have e17 : H17 q1 = some (.lst [.ref b]) := hH17 ▸ upd_same
                refine ⟨l', q1, _, _, rfl, rfl, s17 _ _ y16, e17, few (by rw [hy2]; show _ + 1 ≤ _; omega), fun r nr => ?_⟩
                generalize hH18 : upd H17 r _ = H18
                have s18 : Same H17 H18 := hH18 ▸ same_upd nr
                have e18 : H18 r = some (.lst (ysl ++ [.ref b])) := hH18 ▸ upd_same
                have s1618 := s17.trans s18
                refine ⟨_, line' ++ [stp x' c], r, some (.ref cp), some (.ref b), rfl, dH2.trans s1618, f16.keep vpn_keep s1618, ?_, ((a13.keep (Same.tps s1315)).keep t16).keep (Same.tps s1618), p16.same stays_cmp s1618, s1618 _ _ h16, ?_, by rw [List.length_append, List.length_append]; show _ + 1 ≤ _ + 1; omega, ?_⟩
                · refine (o16.same stays_st s1618).app (b := q1) (rb := [stp x' c]) ⟨[(b, stp x' c)], s18 _ _ e17, rfl, fun z m => ?_⟩ fun us vs hu hv => ?_
                  · rw [List.mem_singleton.mp m]
                    exact b16.keep (Same.tps s1618)
                  · rw [s1618 _ _ y16] at hu
                    rw [s18 _ _ e17] at hv
                    cases hu
                    cases hv
                    exact e18
                · rw [ln_snoc M.kx]
                  exact hln
                · rw [tk]
                  exact M'
            · rintro σ H12 ⟨f', line', l', y6, y7, rfl, s12, f12, o12, a12, p12, h12, hln, hlf', M⟩
              have el : (adrs Lp).length = (pairs n).length := by rw [List.length_map, ← hpm, List.length_map]
              rw [el, List.take_length] at M
              obtain ⟨I', h1, h2⟩ := M.fin F.p6
              rw [hln] at h1 h2
              have hp0 : pot f (x' :: rest) = wt (7 - ln f x') + pot f rest := pot_cons x' rest
              exact ⟨pot f' line', by rw [hp0]; exact h2, l', f', line', some (.ref ax), y6, y7, rfl, s12, f12, o12, I', by rw [hp0] at hpot; omega, hlf', rfl⟩
end
end WO

set_option Elab.async false
set_option linter.all false
set_option maxRecDepth 100000
set_option maxHeartbeats 4000000
namespace WO
open PySem PySem.Spec PyProof.Rows L2 WOm
/-! ### fewest_more, more_for -/
/-- how such a def ends: R tells what is wanted of the shortest lot -/
def spMore (K : PySem.W.Frag) (R : List Cmp → Hp → VK → Prop) : Sp := fun vs H Q E => ∃ v u d e, vs = [v, u] ∧ Dp K H v d ∧ Dp K H u e ∧ (outS d e = 0 → ∃ (n : Nat) (a : Addr) (net : List Cmp), v = .int n ∧ u = .ref a ∧ Few n ∧ NetAt H a net ∧ Fit n net ∧ ∀ H' q, Same H H' → Best n net q → q.length ≤ 6 → R q H' Q) ∧ RefuseS K d e H E
def rLen : List Cmp → Hp → VK → Prop := fun q H Q => Q (.int q.length) H
def rNet : List Cmp → Hp → VK → Prop := fun q H Q => ∀ H' p, Same H H' → NetAt H' p q → Q (.ref p) H'
theorem outS_ok {n : Nat} {net : List Cmp} (h : Few n) (hf : Fit n net) (hl : net.length ≤ 120) : outS (.int n) (dNet net) = 0 := by
  obtain ⟨h1, h4⟩ := few_bd h
  show (if wholeD (.int n) 1 30 = true then (if fitsNet n (dNet net) = true then (if (n : Int) ≤ 4 then 0 else 3) else 2) else 1) = 0
  rw [if_pos (whole_few h1 (by omega)), if_pos (fits_dNet hf hl), if_pos (by omega)]
/-- .. of a net that fits -/
theorem more_ok {K : PySem.W.Frag} {R : List Cmp → Hp → VK → Prop} {H : Hp} {Q : VK} {E : XK} {n : Nat} {a : Addr} {net : List Cmp} (h : Few n) (hn : NetAt H a net) (hf : Fit n net) (hl : net.length ≤ 120) (q : ∀ H' q, Same H H' → Best n net q → q.length ≤ 6 → R q H' Q) : spMore K R [.int n, .ref a] H Q E := by
  have o := outS_ok h hf hl
  have rf : RefuseS K (.int n) (dNet net) H E := ⟨fun z => (by rw [o] at z; cases z), fun z => (by rw [o] at z; cases z), fun z => (by rw [o] at z; cases z)⟩
  exact ⟨.int n, .ref a, .int n, dNet net, rfl, .int _, hn.dp, fun _ => ⟨n, a, net, rfl, rfl, h, hn, hf, q⟩, rf⟩
section
variable {P : Program} {w : World} {K : PySem.W.Frag} {mg : Str → Option Value} {base : Heap}
theorem sc_fewest : FnScope ["many", "net"] ["many", "net"] (defScope (topS 33)) := C8.fnScope_by (by decide +kernel)
theorem c_fewest (T : Tx K mg) (TM : TmRule P w K mg base) : CalX P w K mg base 6 "fewest_more" (spMore K rLen) := by
  refine calX_of T.d_fewest_more (fun _ _ _ _ _ _ us hl => match us, hl with | [_, _], _ => rfl) sc_fewest (fun vs H Q E h => ?_) (fun f cdv A outer s H vs Q E hr h => ?_)
  · obtain ⟨v, u, d, e, rfl, _⟩ := h
    rfl
  · obtain ⟨v, u, d, e, rfl, hd, he, q, r⟩ := h
    refine ⟨_, pss_cons (ps_expr (pe_cx (c_need_short T TM) hr (by decide) (by rfl) (L2N.takes_of rfl rfl rfl rfl) (pa_cons (pv 0) (pa_cons (pv 1) pa_nil))))
      (pss_one (ps_ret (pe_callB call_len_seq (by rfl) T.len_ PySem.boot_len (pa_cons (C8.pe_c (c_shortest T) hr (by decide) (by rfl) (pa_cons (pv 0) (pa_cons (pv 1) pa_nil))) pa_nil)))), ?_⟩
    refine ⟨v, rfl, u, rfl, v, u, d, e, rfl, hd, he, fun o H1 s1 => ?_, r⟩
    obtain ⟨n, a, net, rfl, rfl, hfew, hn, hf, q⟩ := q o
    refine ⟨_, rfl, _, rfl, n, a, net, rfl, hfew, hn.keep (Same.tps s1), hf, fun H2 p qq s2 hp hb h6 => ?_⟩
    obtain ⟨as, k1, k2, _⟩ := hp
    refine ⟨p, _, rfl, .inr (SqT.of k1), ?_⟩
    have := q H2 qq (s1.trans s2) hb h6
    rw [List.length_map, k2]
    exact this
theorem sc_more : FnScope ["many", "net"] ["many", "net"] (defScope (topS 34)) := C8.fnScope_by (by decide +kernel)
theorem c_more (T : Tx K mg) (TM : TmRule P w K mg base) : CalX P w K mg base 6 "more_for" (spMore K rNet) := by
  refine calX_of T.d_more_for (fun _ _ _ _ _ _ us hl => match us, hl with | [_, _], _ => rfl) sc_more (fun vs H Q E h => ?_) (fun f cdv A outer s H vs Q E hr h => ?_)
  · obtain ⟨v, u, d, e, rfl, _⟩ := h
    rfl
  · obtain ⟨v, u, d, e, rfl, hd, he, q, r⟩ := h
    refine ⟨_, pss_cons (ps_expr (pe_cx (c_need_short T TM) hr (by decide) (by rfl) (L2N.takes_of rfl rfl rfl rfl) (pa_cons (pv 0) (pa_cons (pv 1) pa_nil))))
      (pss_one (ps_ret (C8.pe_c (c_shortest T) hr (by decide) (by rfl) (pa_cons (pv 0) (pa_cons (pv 1) pa_nil))))), ?_⟩
    refine ⟨v, rfl, u, rfl, v, u, d, e, rfl, hd, he, fun o H1 s1 => ?_, r⟩
    obtain ⟨n, a, net, rfl, rfl, hfew, hn, hf, q⟩ := q o
    exact ⟨_, rfl, _, rfl, n, a, net, rfl, hfew, hn.keep (Same.tps s1), hf, fun H2 p qq s2 hp hb h6 => q H2 qq (s1.trans s2) hb h6 H2 p (Same.refl H2) hp⟩
end
theorem ixN_nat {n j : Nat} (h : j < n) : ixN n (j : Int) = some j := by
  unfold ixN
  rw [if_pos (by omega), if_pos (by omega)]
  simp
/-! ### _law_through -/
def spThrough : Sp := fun vs H Q _ => ∃ (a n : Addr) (r : Rw) (net : List Cmp), vs = [.ref a, .ref n] ∧ RowAt H a r ∧ NetAt H n net ∧ Fit r.length net ∧ r.length ≤ 1000 ∧ ∀ H' b, Same H H' → RowAt H' b (thr r net) → Q (.ref b) H'
section
variable {P : Program} {w : World} {K : PySem.W.Frag} {mg : Str → Option Value} {base : Heap}
theorem sc_through : FnScope ["_law_row_so", "_law_net_so", "_law_here", "_law_low", "_law_high"] ["_law_row_so", "_law_net_so"] (defScope (topS 39)) := C8.fnScope_by (by decide +kernel)
theorem c_through (T : Tx K mg) : C8.Cal P w K mg base 1 "_law_through" spThrough [] := by
  refine cal_of T.d_through (fun _ _ _ _ _ _ us hl => match us, hl with | [_, _], _ => rfl) sc_through (fun vs H Q E h => ?_) (fun f cdv A outer s H vs Q E hr h => ?_)
  · obtain ⟨a, n, r, net, rfl, _⟩ := h
    rfl
  · obtain ⟨a, n, r, net, rfl, hra, hn, hf, hlen, q⟩ := h
    refine ⟨_, pss_cons (ps_set (i := 2) sc_through.nd rfl (.inl rfl) (pe_callTy call_list_of (by rfl) T.list_ (by decide +kernel) (pa_cons (pv 0) pa_nil)))
      (pss_cons (ps_for PassesOwn.never rfl (pi_tup (pv 1)) (pg_tup rfl (pgs_cons (pg_name (i := 3) sc_through.nd rfl (.inl rfl)) (pgs_cons (pg_name (i := 4) sc_through.nd rfl (.inl rfl)) pgs_nil)))
        (pss_one (ps_if (pt_cmpR op_gt (pe_ix ix_list (pv 2) (pv 3) (fun _ _ => rfl)) (pe_ix ix_list (pv 2) (pv 4) (fun _ _ => rfl)) (nomark _))
          (pss_one (ps_asg (pe_tup (pa_cons (pe_ix ix_list (pv 2) (pv 4) (fun _ _ => rfl)) (pa_cons (pe_ix ix_list (pv 2) (pv 3) (fun _ _ => rfl)) pa_nil))) (pg_tup rfl (pgs_cons (pg_sub (pv 2) (pv 3) set_list) (pgs_cons (pg_sub (pv 2) (pv 4) set_list) pgs_nil))))) pss_nil)))
      (pss_one (ps_ret (pe_callTy cr_tup (by rfl) T.tuple_ (by decide +kernel) (pa_cons (pv 2) pa_nil))))), ?_⟩
    refine ⟨.ref a, rfl, a, rv r, rfl, .inr (SqT.of hra), fun l nl => ?_⟩
    generalize hH1 : upd H l _ = H1
    have s1 : Same H H1 := hH1 ▸ same_upd nl
    have e1 : H1 l = some (.lst (rv r)) := hH1 ▸ upd_same
    obtain ⟨as, h1, h2, h3⟩ := id hn
    refine ⟨.ref n, rfl, n, rfl, ⟨_, SqT.of (s1 _ _ h1)⟩, for_tup (xs := as.map V.ref) (fun i σ H2 => ∃ y z, σ = [some (.ref a), some (.ref n), some (.ref l), y, z] ∧ Same H H2 ∧ H2 l = some (.lst (rv (thr r (net.take i))))) ⟨none, none, rfl, s1, e1⟩ ?_ ?_ ?_⟩
    · rintro i σ H2 _ ⟨y, z, rfl, s2, e2⟩
      exact SqT.of (s2 _ _ h1)
    · rintro i x σ H2 hx ⟨y, z, rfl, s2, e2⟩
      rw [List.getElem?_map] at hx
      obtain ⟨p, hp, rfl⟩ := Option.map_eq_some_iff.mp hx
      have hi : i < net.length := by
        have := (List.getElem?_eq_some_iff.mp hp).1
        omega
      obtain ⟨p', hp', hc⟩ := h3 i net[i] (List.getElem?_eq_getElem hi)
      rw [hp] at hp'
      obtain rfl := Option.some.inj hp'
      obtain ⟨f1, f2⟩ := hf net[i] (List.getElem_mem hi)
      have hl := thr_len (net.take i) r
      generalize hR : thr r (net.take i) = R at e2 hl
      have hR' : thr r (net.take (i + 1)) = cmp R net[i] := by rw [← hR]; exact thr_take (List.getElem?_eq_getElem hi)
      generalize hC : net[i] = c at hc f1 f2 hR'
      have g1 : (rv R)[c.1]? = some (.int (R.getD c.1 0)) := rv_at (by omega)
      have g2 : (rv R)[c.2]? = some (.int (R.getD c.2 0)) := rv_at (by omega)
      refine ⟨p, _, rfl, SqT.of (s2 _ _ hc), rfl, .int c.1, [.int c.2], rfl, .int c.2, [], rfl, rfl, ?_⟩
      refine ⟨.ref l, rfl, .int c.1, rfl, l, rv R, c.1, _, rfl, rfl, SqL.of e2, atI_nat g1, .ref l, rfl, .int c.2, rfl, l, rv R, c.2, _, rfl, rfl, SqL.of e2, atI_nat g2, _, _, rfl, rfl, _, rfl, ite2 (fun e => ?_) (fun e => ?_)⟩
      · have hgt : R.getD c.2 0 < R.getD c.1 0 := of_decide_eq_true e
        refine ⟨.ref l, rfl, .int c.2, rfl, l, rv R, c.2, _, rfl, rfl, SqL.of e2, atI_nat g2, .ref l, rfl, .int c.1, rfl, l, rv R, c.1, _, rfl, rfl, SqL.of e2, atI_nat g1, few2, fun t nt => ?_⟩
        generalize hH3 : upd H2 t _ = H3
        have s3 : Same H2 H3 := hH3 ▸ same_upd nt
        have e3 : H3 t = some (.tup [.int (R.getD c.2 0), .int (R.getD c.1 0)]) := hH3 ▸ upd_same
        refine ⟨t, _, rfl, SqT.of e3, rfl, .int (R.getD c.2 0), [.int (R.getD c.1 0)], rfl, .ref l, rfl, .int c.1, rfl, l, rv R, c.1, c.1, rfl, rfl, s3 _ _ e2, ?_, ?_⟩
        · exact ixN_nat (by rw [rv_len]; omega)
        · refine ⟨.int (R.getD c.1 0), [], rfl, .ref l, rfl, .int c.2, rfl, l, _, c.2, c.2, rfl, rfl, upd_same, ixN_nat (by rw [List.length_set, rv_len]; omega), rfl, ?_⟩
          have sl : ∀ {Hx : Hp} {o : HO}, Same H Hx → Same H (upd Hx l o) := fun {Hx o} s b u e => by
            rw [upd_ne (ne_of_none e nl)]
            exact s b u e
          refine ⟨some (.int c.1), some (.int c.2), rfl, sl (sl (s2.trans s3)), ?_⟩
          rw [upd_same, hR']
          unfold cmp
          rw [if_neg (by omega), rv_set, rv_set]
      · have hle : R.getD c.1 0 ≤ R.getD c.2 0 := by
          have : ¬ R.getD c.2 0 < R.getD c.1 0 := fun z => e (decide_eq_true z)
          omega
        refine ⟨some (.int c.1), some (.int c.2), rfl, s2, ?_⟩
        rw [hR']
        unfold cmp
        rw [if_pos hle]
        exact e2
    · rintro σ H2 ⟨y, z, rfl, s2, e2⟩
      rw [List.length_map, h2, List.take_length] at e2
      exact ⟨.ref l, rfl, l, _, rfl, .inl ⟨SqL.of e2, fun t nt => q _ t (s2.trans (same_upd nt)) upd_same⟩⟩
end
end WO

set_option Elab.async false
set_option linter.all false
set_option maxRecDepth 100000
set_option maxHeartbeats 4000000
namespace WO
open PySem PySem.Spec PyProof.Rows L2 WOm
/-! ### _law_longer, _law_every -/
def HtAt (H : Hp) (a : Addr) (p : Rw × Int) : Prop := ∃ h, H a = some (.tup [.ref h, .int p.2]) ∧ RowAt H h p.1
theorem stays_ht : Stays HtAt := fun _ _ _ _ t ⟨h, h1, h2⟩ => ⟨h, t _ _ h1, t _ _ h2⟩
theorem stays_row : Stays RowAt := fun _ _ _ _ t h => t _ _ h
def freshOf (h : Rw) (ts : List Int) : List (Rw × Int) := ts.filterMap fun t => if t ∈ h then none else some (h, t)
abbrev natsI (n : Nat) : List Int := (List.range n).map fun (i : Nat) => (i : Int)
theorem ints_succ (j : Nat) : natsI (j + 1) = natsI j ++ [(j : Int)] := by
  unfold natsI
  rw [List.range_succ, List.map_append]
  rfl
theorem fresh_snoc (h : Rw) (ts : List Int) (t : Int) : freshOf h (ts ++ [t]) = freshOf h ts ++ if t ∈ h then [] else [(h, t)] := by
  unfold freshOf
  rw [List.filterMap_append]
  by_cases e : t ∈ h
  · rw [if_pos e]
    simp [e]
  · rw [if_neg e]
    simp [e]
theorem longer_eq (n : Nat) (hs : List Rw) : longer n hs = hs.flatMap fun h => freshOf h (natsI n) := rfl
theorem fresh_len (h : Rw) (ts : List Int) : (freshOf h ts).length ≤ ts.length := List.length_filterMap_le _ _
theorem ints_len (n : Nat) : (natsI n).length = n := by rw [List.length_map, List.length_range]
theorem longer_len (n : Nat) : ∀ hs : List Rw, (hs.flatMap fun h => freshOf h (natsI n)).length ≤ hs.length * n
  | [] => Nat.zero_le _
  | h :: hs => by
    rw [List.flatMap_cons, List.length_append, List.length_cons, Nat.succ_mul]
    have h1 := longer_len n hs
    have h2 := fresh_len h (natsI n)
    rw [ints_len] at h2
    omega
theorem inV_int (t : Int) : ∀ r : Rw, inV (.int t) (rv r) = decide (t ∈ r)
  | [] => rfl
  | x :: r => by
    have ih := inV_int t r
    unfold inV at ih ⊢
    show ((x == t) || (rv r).any fun y => eqV y (.int t)) = _
    rw [ih]
    by_cases e : x = t
    · subst e
      simp
    · have e2 : (x == t) = false := by simpa using e
      rw [e2, Bool.false_or]
      have e3 : ¬ t = x := fun z => e z.symm
      simp [e3]
theorem flat_rv : ∀ r : Rw, (rv r).all flatV = true
  | [] => rfl
  | x :: r => by
    show (true && (rv r).all flatV) = true
    rw [flat_rv r]
    rfl
def spLonger : Sp := fun vs H Q _ => ∃ (a : Addr) (n : Nat) (rows : List Rw), vs = [.ref a, .int n] ∧ ObsAt RowAt H a rows ∧ n ≤ 5 ∧ rows.length ≤ 1000 ∧ ∀ H' p, Same H H' → ObsAt HtAt H' p (longer n rows) → Q (.ref p) H'
section
variable {P : Program} {w : World} {K : PySem.W.Frag} {mg : Str → Option Value} {base : Heap}
theorem sc_longer : FnScope ["_law_heads", "_law_size_so", "_law_found", "_law_head", "_law_thing"] ["_law_heads", "_law_size_so"] (defScope (topS 41)) := C8.fnScope_by (by decide +kernel)
theorem c_longer (T : Tx K mg) : C8.Cal P w K mg base 1 "_law_longer" spLonger [] := by
  refine cal_of T.d_longer (fun _ _ _ _ _ _ us hl => match us, hl with | [_, _], _ => rfl) sc_longer (fun vs H Q E h => ?_) (fun f cdv A outer s H vs Q E hr h => ?_)
  · obtain ⟨a, n, rows, rfl, _⟩ := h
    rfl
  · obtain ⟨a, n, rows, rfl, ha, h5, hlen, q⟩ := h
    refine ⟨_, pss_cons (ps_set (i := 2) sc_longer.nd rfl (.inl rfl) (pe_lst pa_nil))
      (pss_cons (ps_for PassesOwn.never rfl (pi_list (pv 0)) (pg_name (i := 3) sc_longer.nd rfl (.inr rfl))
        (pss_one (ps_set (i := 2) sc_longer.nd rfl (.inl rfl) (pe_op op_cat (pv 2)
          (pe_lc (own := [("_law_thing", 4)]) (g := gName 4) (by rfl) sc_longer.nd (pi_range1 (by rfl) T.range_ (pa_cons (pv 1) pa_nil)) (blkOk_by (N := ["_law_heads", "_law_size_so", "_law_found", "_law_head", "_law_thing"]) (sc := defScope (topS 41)) (by decide +kernel)) (fun _ _ _ _ _ => pg_name (i := 4) sc_longer.nd rfl (.inl rfl))
            (fun _ _ _ _ _ => pts_one (pt_cmpR (r := rIn K true) op_notIn_seq (pv 4) (pv 3) (by rfl))) (fun _ _ _ _ _ => pe_tup (pa_cons (pv 3) (pa_cons (pv 4) pa_nil))))))))
      (pss_one (ps_ret (pv 2)))), ?_⟩
    refine ⟨few0, fun b0 n0 => ?_⟩
    generalize hH0 : upd H b0 _ = H0
    have s0 : Same H H0 := hH0 ▸ same_upd n0
    have e0 : H0 b0 = some (.lst []) := hH0 ▸ upd_same
    obtain ⟨L, hL, hm, hri⟩ := id ha
    have hLl : L.length = rows.length := by rw [← hm, List.length_map]
    refine ⟨.ref a, rfl, a, rfl, ⟨_, SqL.of (s0 _ _ hL)⟩, for_list (xs := adrs L) (fun i σ H2 => ∃ b y, σ = [some (.ref a), some (.int n), some (.ref b), y, none] ∧ Same H H2 ∧ ObsAt HtAt H2 b ((rows.take i).flatMap fun h => freshOf h (natsI n))) ⟨b0, none, rfl, s0, [], e0, rfl, fun p m => by cases m⟩ ?_ ?_ ?_⟩
    · rintro i σ H2 _ ⟨b, y, rfl, s2, _⟩
      exact SqL.of (s2 _ _ hL)
    · rintro i x σ H2 hx ⟨b, y, rfl, s2, hb⟩
      obtain ⟨hd, r, rfl, hr', hrow⟩ := ha.at hL hx
      have hrow2 := s2 _ _ hrow
      refine ⟨.ref b, rfl, .int n, rfl, n, rfl, by omega, by omega, fun D hD => ?_⟩
      have nD : ∀ {b o}, H2 b = some o → b ≠ D := fun e => ne_of_none e hD
      have sD : ∀ {Hx : Hp} {zs : List V}, Same H2 Hx → Same H2 (upd Hx D (.lst zs)) := fun {Hx zs} s b o e => by
        rw [upd_ne (nD e)]
        exact s b o e
      refine lc_range (lo := 0) (n := n) (fun j H3 => j ≤ n ∧ Same H2 H3 ∧ ObsAt HtAt H3 D (freshOf r (natsI j))) ⟨Nat.zero_le _, sD (Same.refl H2), [], upd_same, rfl, fun p m => by cases m⟩ ?_ ?_
      · rintro j H3 hj ⟨_, s3, ⟨M, hM, hMm, hMa⟩⟩
        have row3 := s3 _ _ hrow2
        have ej : (0 + (j : Int)) = (j : Int) := by omega
        have et : freshOf r (natsI (j + 1)) = freshOf r (natsI j) ++ if (j : Int) ∈ r then [] else [(r, (j : Int))] := by rw [ints_succ, fresh_snoc]
        have hMl : M.length ≤ n := by
          have h1 := fresh_len r (natsI j)
          rw [ints_len, ← hMm, List.length_map] at h1
          omega
        rw [ej]
        refine ⟨rfl, .int j, rfl, .ref hd, rfl, hd, _, rfl, .inr (SqT.of row3), rfl, flat_rv r, _, rfl, ?_⟩
        rw [inV_int]
        show (if (!decide ((j : Int) ∈ r)) = true then _ else _)
        by_cases hin : (j : Int) ∈ r
        · rw [decide_eq_true hin]
          refine iteF ⟨hj, s3, ?_⟩
          rw [et, if_pos hin, List.append_nil]
          exact ⟨M, hM, hMm, hMa⟩
        · rw [decide_eq_false hin]
          refine iteT ⟨.ref hd, rfl, .int j, rfl, few2, fun p np => ?_⟩
          generalize hH4 : upd H3 p _ = H4
          have s4 : Same H3 H4 := hH4 ▸ same_upd np
          have e4 : H4 p = some (.tup [.ref hd, .int j]) := hH4 ▸ upd_same
          have hM4 := s4 _ _ hM
          have t5 : Tps H4 (upd H4 D (.lst (adrs M ++ [.ref p]))) := tps_lst hM4
          refine ⟨adrs M, hM4, few' (by rw [List.length_map]; omega), hj, sD (s3.trans s4), M ++ [(p, (r, (j : Int)))], ?_, ?_, fun z m => ?_⟩
          · rw [upd_same]
            unfold adrs
            rw [List.map_append]
            rfl
          · rw [List.map_append, hMm, et, if_neg hin]
            rfl
          · rcases List.mem_append.mp m with m | m
            · exact stays_ht _ _ _ _ (Tps.trans (Same.tps s4) t5) (hMa z m)
            · rw [List.mem_singleton.mp m]
              exact ⟨hd, t5 _ _ e4, t5 _ _ (s4 _ _ row3)⟩
      · rintro H3 ⟨_, s3, o3⟩
        have hb3 := hb.same stays_ht s3
        obtain ⟨xs, x1, x2⟩ := hb3.len
        obtain ⟨ys, y1, y2⟩ := o3.len
        have l1 := longer_len n (rows.take i)
        have l2 := fresh_len r (natsI n)
        rw [ints_len] at l2
        have l3 : (rows.take i).length ≤ 1000 := by rw [List.length_take]; omega
        have l4 : (rows.take i).length * n ≤ 1000 * 5 := Nat.mul_le_mul l3 h5
        refine ⟨b, D, xs, ys, rfl, rfl, x1, y1, few (by omega), fun p np => ?_⟩
        generalize hH4 : upd H3 p _ = H4
        have s4 : Same H3 H4 := hH4 ▸ same_upd np
        have e4 : H4 p = some (.lst (xs ++ ys)) := hH4 ▸ upd_same
        refine ⟨p, some (.ref hd), rfl, (s2.trans s3).trans s4, ?_⟩
        rw [List.take_add_one, hr', List.flatMap_append]
        show ObsAt HtAt H4 p (_ ++ (freshOf r (natsI n) ++ []))
        rw [List.append_nil]
        refine (hb3.same stays_ht s4).app (o3.same stays_ht s4) fun us vs hu hv => ?_
        rw [s4 _ _ x1] at hu
        rw [s4 _ _ y1] at hv
        cases hu
        cases hv
        exact e4
    · rintro σ H2 ⟨b, y, rfl, s2, hb⟩
      rw [List.length_map, hLl, List.take_length] at hb
      exact ⟨.ref b, rfl, q H2 b s2 hb⟩
end
theorem every_len (n : Nat) : ∀ k, (every n k).length ≤ n ^ k
  | 0 => Nat.le_refl 1
  | k + 1 => by
    show ((longer n (every n k)).map fun p => p.1 ++ [p.2]).length ≤ _
    rw [List.length_map, longer_eq, Nat.pow_succ]
    exact Nat.le_trans (longer_len n _) (Nat.mul_le_mul_right n (every_len n k))
theorem every_row (n : Nat) : ∀ k, ∀ r ∈ every n k, r.length = k
  | 0, r, m => by rw [List.mem_singleton.mp m]; rfl
  | k + 1, r, m => by
    obtain ⟨p, mp, rfl⟩ := List.mem_map.mp m
    rw [longer_eq] at mp
    obtain ⟨h, mh, mf⟩ := List.mem_flatMap.mp mp
    unfold freshOf at mf
    obtain ⟨t, mt, et⟩ := List.mem_filterMap.mp mf
    by_cases e : t ∈ h
    · rw [if_pos e] at et
      cases et
    · rw [if_neg e] at et
      obtain rfl := Option.some.inj et
      rw [List.length_append, every_row n k h mh]
      rfl
def spEvery : Sp := fun vs H Q _ => ∃ n : Nat, vs = [.int n] ∧ n ≤ 4 ∧ ∀ H' p, Same H H' → ObsAt RowAt H' p (perms n) → Q (.ref p) H'
section
variable {P : Program} {w : World} {K : PySem.W.Frag} {mg : Str → Option Value} {base : Heap}
theorem sc_every : FnScope ["_law_size_so", "_law_found", "_law_turn", "_law_head", "_law_thing"] ["_law_size_so"] (defScope (topS 40)) := C8.fnScope_by (by decide +kernel)
theorem c_every (T : Tx K mg) : C8.Cal P w K mg base 2 "_law_every" spEvery [] := by
  refine cal_of T.d_every (fun _ _ _ _ _ _ us hl => match us, hl with | [_], _ => rfl) sc_every (fun vs H Q E h => ?_) (fun f cdv A outer s H vs Q E hr h => ?_)
  · obtain ⟨n, rfl, _⟩ := h
    rfl
  · obtain ⟨n, rfl, h4, q⟩ := h
    refine ⟨_, pss_cons (ps_set (i := 1) sc_every.nd rfl (.inl rfl) (pe_lst (pa_cons (pe_tup pa_nil) pa_nil)))
      (pss_cons (ps_for PassesOwn.never rfl (pi_range1 (by rfl) T.range_ (pa_cons (pv 0) pa_nil)) (pg_name (i := 2) sc_every.nd rfl (.inl rfl))
        (pss_one (ps_setLc (i := 1) (own := [("_law_head", 3), ("_law_thing", 4)]) (g := gTup K 2 (gCons (gName 3) (gCons (gName 4) gNil))) (by rfl) sc_every.nd rfl rfl (sw_true rfl rfl rfl (by decide +kernel)) (pi_list (C8.pe_c (c_longer T) hr (by decide) (by rfl) (pa_cons (pv 1) (pa_cons (pv 0) pa_nil))))
          (blkOk_by (N := ["_law_size_so", "_law_found", "_law_turn", "_law_head", "_law_thing"]) (sc := defScope (topS 40)) (by decide +kernel))
          (fun _ _ _ _ _ => pg_tup (by rfl) (pgs_cons (pg_name (i := 3) sc_every.nd rfl (.inl rfl)) (pgs_cons (pg_name (i := 4) sc_every.nd rfl (.inl rfl)) pgs_nil))) (fun _ _ _ _ _ => pts_nil)
          (fun _ _ _ _ _ => pe_op op_catS (pv 3) (pe_tup (pa_cons (pv 4) pa_nil))))))
      (pss_one (ps_ret (pv 1)))), ?_⟩
    refine ⟨few0, fun b0 n0 => ?_⟩
    generalize hH0 : upd H b0 _ = H0
    have s0 : Same H H0 := hH0 ▸ same_upd n0
    have e0 : H0 b0 = some (.tup (rv [])) := hH0 ▸ upd_same
    refine ⟨few1, fun b1 n1 => ?_⟩
    generalize hH1 : upd H0 b1 _ = H1
    have s1 : Same H0 H1 := hH1 ▸ same_upd n1
    have e1 : H1 b1 = some (.lst [.ref b0]) := hH1 ▸ upd_same
    refine ⟨.int n, rfl, n, rfl, by omega, by omega, for_range (n := n) (lo := 0) (fun i σ H2 => ∃ b y, σ = [some (.int n), some (.ref b), y, none, none] ∧ Same H H2 ∧ ObsAt RowAt H2 b (every n i)) ⟨b1, none, rfl, s0.trans s1, [(b0, [])], e1, rfl, fun p m => ?_⟩ ?_ ?_⟩
    · rw [List.mem_singleton.mp m]
      exact s1 _ _ e0
    · rintro i σ H2 hi ⟨b, y, rfl, s2, hb⟩
      have l1 := every_len n i
      have l2 : n ^ i ≤ 4 ^ i := Nat.pow_le_pow_left h4 i
      have l3 : 4 ^ i ≤ 4 ^ 4 := Nat.pow_le_pow_right (by decide) (by omega)
      have l4 : (every n i).length ≤ 256 := by
        have : (4 : Nat) ^ 4 = 256 := rfl
        omega
      refine ⟨.ref b, rfl, .int n, rfl, b, n, _, rfl, hb, by omega, by omega, fun H3 p s3 hp => ?_⟩
      obtain ⟨L, hL, hm, hla⟩ := id hp
      have hLl : L.length ≤ 2000 := by
        have h1 : L.length = (longer n (every n i)).length := by rw [← hm, List.length_map]
        rw [h1, longer_eq]
        have h2 := longer_len n (every n i)
        have h3 : (every n i).length * n ≤ 256 * 4 := Nat.mul_le_mul l4 h4
        omega
      refine ⟨p, rfl, ⟨_, SqL.of hL⟩, fun D hD => lc_map (xs := adrs L) (IsOb RowAt (every n (i + 1))) (isOb_keep stays_row _) hD hL (by rw [List.length_map]; omega) ?_ ?_ ?_⟩
      · intro j x H4 hx s4 k hk
        obtain ⟨c, pr, rfl, hpr, hd, h1, h2⟩ := hp.at hL hx
        have mpr : pr ∈ longer n (every n i) := List.mem_of_getElem? hpr
        have rl : pr.1.length = i := by
          rw [longer_eq] at mpr
          obtain ⟨h, mh, mf⟩ := List.mem_flatMap.mp mpr
          unfold freshOf at mf
          obtain ⟨t, mt, et⟩ := List.mem_filterMap.mp mf
          by_cases e : t ∈ h
          · rw [if_pos e] at et
            cases et
          · rw [if_neg e] at et
            obtain rfl := Option.some.inj et
            exact every_row n i h mh
        refine ⟨c, _, rfl, SqT.of (s4 _ _ h1), rfl, .ref hd, _, rfl, .int pr.2, _, rfl, rfl, rfl, .ref hd, rfl, .int pr.2, rfl, few1, fun t nt => ?_⟩
        generalize hH5 : upd H4 t _ = H5
        have s5 : Same H4 H5 := hH5 ▸ same_upd nt
        have e5 : H5 t = some (.tup [.int pr.2]) := hH5 ▸ upd_same
        refine ⟨hd, t, _, _, rfl, rfl, s5 _ _ (s4 _ _ h2), e5, few (by rw [rv_len, rl]; show _ + 1 ≤ _; omega), fun H6 u s6 e6 => hk _ _ (s5.trans s6) ⟨u, pr.1 ++ [pr.2], rfl, ?_, ?_⟩⟩
        · show ((longer n (every n i)).map fun p => p.1 ++ [p.2])[j]? = _
          rw [List.getElem?_map, hpr]
          rfl
        · refine Eq.trans e6 ?_
          show some (HO.tup (rv pr.1 ++ rv [pr.2])) = some (HO.tup (rv (pr.1 ++ [pr.2])))
          unfold rv
          rw [List.map_append]
      · intro H4 ys s4 e4 hl hys
        refine ⟨D, some (.int (0 + i)), rfl, (s2.trans s3).trans s4, obsAt_of e4 ?_ hys⟩
        rw [hl, List.length_map]
        show L.length = ((longer n (every n i)).map fun p => p.1 ++ [p.2]).length
        rw [List.length_map, ← hm, List.length_map]
      · intro x σ H Q Q' hq h
        obtain ⟨a, xs, h1, h2, h3, v, r, h4, v2, r2, h5, h6, h7⟩ := h
        exact ⟨a, xs, h1, h2, h3, v, r, h4, v2, r2, h5, h6, hq _ _ h7⟩
    · rintro σ H2 ⟨b, y, rfl, s2, hb⟩
      exact ⟨.ref b, rfl, q H2 b s2 hb⟩
end
end WO

set_option Elab.async false
set_option linter.all false
set_option maxRecDepth 100000
set_option maxHeartbeats 4000000
namespace WO
open PySem PySem.Spec PyProof.Rows L2 WOm
/-! ### states as data -/
def dRow (r : Rw) : PyData := .tuple (r.map PyData.int)
def dSt (s : Sta) : PyData := .tuple (s.map dRow)
theorem dp_ints {K : PySem.W.Frag} {H : Hp} : ∀ r : Rw, DpAll K H (rv r) (r.map PyData.int)
  | [] => .nil
  | x :: r => .cons (.int x) (dp_ints r)
theorem RowAt.dp {K : PySem.W.Frag} {H : Hp} {a : Addr} {r : Rw} (h : RowAt H a r) : Dp K H (.ref a) (dRow r) := .tup (SqT.of h) (dp_ints r)
theorem dp_rows {K : PySem.W.Frag} {H : Hp} : ∀ {L : List (Addr × Rw)}, RowsIn H L → DpAll K H (refs L) ((L.map (·.2)).map dRow)
  | [], _ => .nil
  | p :: L, h => .cons (RowAt.dp (h p List.mem_cons_self)) (dp_rows fun q m => h q (List.mem_cons_of_mem _ m))
theorem StAt.dp {K : PySem.W.Frag} {H : Hp} {a : Addr} {s : Sta} (h : StAt H a s) : Dp K H (.ref a) (dSt s) := by
  obtain ⟨L, h1, h2, h3⟩ := h
  rw [← h2]
  exact .tup (SqT.of h1) (dp_rows h3)
theorem dp_sts {K : PySem.W.Frag} {H : Hp} : ∀ {L : List (Addr × Sta)}, (∀ q ∈ L, StAt H q.1 q.2) → DpAll K H (adrs L) ((L.map (·.2)).map dSt)
  | [], _ => .nil
  | p :: L, h => .cons (StAt.dp (h p List.mem_cons_self)) (dp_sts fun q m => h q (List.mem_cons_of_mem _ m))
theorem obs_dp {K : PySem.W.Frag} {H : Hp} {l : Addr} {line : List Sta} (h : ObsAt StAt H l line) : Dp K H (.ref l) (.list (line.map dSt)) := by
  obtain ⟨L, h1, h2, h3⟩ := h
  rw [← h2]
  exact .lst (SqL.of h1) (dp_sts h3)
theorem lay_ints : ∀ r : Rw, PyData.canLayAll0 (r.map PyData.int) = true ∧ PyData.depthAll (r.map PyData.int) = 0
  | [] => by simp [PyData.canLayAll0, PyData.depthAll]
  | x :: r => by
    obtain ⟨h1, h2⟩ := lay_ints r
    simp [PyData.canLayAll0, PyData.depthAll, h1, h2, PyData.canLay0, PyData.depth]
theorem lay_rows : ∀ s : Sta, PyData.canLayAll0 (s.map dRow) = true ∧ PyData.depthAll (s.map dRow) ≤ 1
  | [] => by simp [PyData.canLayAll0, PyData.depthAll]
  | r :: s => by
    obtain ⟨h1, h2⟩ := lay_rows s
    obtain ⟨h3, h4⟩ := lay_ints r
    refine ⟨by simp [PyData.canLayAll0, h1, dRow, PyData.canLay0, h3], ?_⟩
    simp only [List.map_cons, PyData.depthAll, dRow, PyData.depth, h4]
    have h2 : PyData.depthAll (s.map fun r => PyData.tuple (r.map PyData.int)) ≤ 1 := h2
    omega
theorem lay_sts : ∀ l : List Sta, PyData.canLayAll0 (l.map dSt) = true ∧ PyData.depthAll (l.map dSt) ≤ 2
  | [] => by simp [PyData.canLayAll0, PyData.depthAll]
  | r :: s => by
    obtain ⟨h1, h2⟩ := lay_sts s
    obtain ⟨h3, h4⟩ := lay_rows r
    refine ⟨by simp [PyData.canLayAll0, h1, dSt, PyData.canLay0, h3], ?_⟩
    have e : PyData.depthAll ((r :: s).map dSt) = max (PyData.depthAll (r.map dRow) + 1) (PyData.depthAll (s.map dSt)) := by
      simp only [List.map_cons, PyData.depthAll, dSt, PyData.depth]
    rw [e]
    omega
theorem shaped_st (s : Sta) : SeqAt.shaped (dSt s) = true := by
  obtain ⟨h1, h2⟩ := lay_rows s
  show ((dSt s).canLay0 && decide ((dSt s).depth ≤ 64)) = true
  rw [Bool.and_eq_true]
  refine ⟨by simp only [dSt, PyData.canLay0]; exact h1, decide_eq_true ?_⟩
  simp only [dSt, PyData.depth]
  omega
theorem shaped_sts (l : List Sta) : SeqAt.shaped (.list (l.map dSt)) = true := by
  obtain ⟨h1, h2⟩ := lay_sts l
  show (PyData.canLay0 (.list (l.map dSt)) && decide (PyData.depth (.list (l.map dSt)) ≤ 64)) = true
  rw [Bool.and_eq_true]
  refine ⟨by simp only [PyData.canLay0]; exact h1, decide_eq_true ?_⟩
  simp only [PyData.depth]
  omega
theorem eqv_ints : ∀ a b : Rw, PyData.eqvAll (a.map PyData.int) (b.map PyData.int) = decide (a = b)
  | [], [] => by simp [PyData.eqvAll]
  | [], _ :: _ => by simp [PyData.eqvAll]
  | _ :: _, [] => by simp [PyData.eqvAll]
  | x :: a, y :: b => by
    simp only [List.map_cons, PyData.eqvAll, PyData.eqv, eqv_ints a b]
    by_cases h1 : x = y <;> by_cases h2 : a = b <;> simp [h1, h2]
theorem eqv_rows : ∀ a b : Sta, PyData.eqvAll (a.map dRow) (b.map dRow) = decide (a = b)
  | [], [] => by simp [PyData.eqvAll]
  | [], _ :: _ => by simp [PyData.eqvAll]
  | _ :: _, [] => by simp [PyData.eqvAll]
  | x :: a, y :: b => by
    have e : PyData.eqv (dRow x) (dRow y) = decide (x = y) := by
      unfold dRow
      simp only [PyData.eqv, eqv_ints]
    simp only [List.map_cons, PyData.eqvAll, e, eqv_rows a b]
    by_cases h1 : x = y <;> by_cases h2 : a = b <;> simp [h1, h2]
theorem eqv_st (a b : Sta) : PyData.eqv (dSt a) (dSt b) = decide (a = b) := by
  unfold dSt
  simp only [PyData.eqv, eqv_rows]
theorem any_st (l : List Sta) (g : Sta) : ((l.map dSt).any fun z => PyData.eqv z (dSt g)) = decide (g ∈ l) := by
  induction l with
  | nil => rfl
  | cons x l ih =>
    rw [List.map_cons, List.any_cons, ih, eqv_st]
    by_cases h1 : x = g
    · subst h1
      simp
    · have : ¬ g = x := fun e => h1 e.symm
      by_cases h2 : g ∈ l <;> simp [h1, h2, this]
/-! ### the levels' pieces -/
def cl (n : Nat) : Nat → Nat
  | 0 => 0
  | k + 1 => cl n k + (n - (k + 1))
theorem cl_few {n : Nat} (h : Few n) : cl n n ≤ 6 := by
  rcases h with e | e | e | e <;> subst e <;> decide
def VPt : Hp → Value → Unit → Prop := fun _ u _ => u = .bool true
theorem vpt_keep : ∀ (H H' : Hp) (u : Value) (b : Unit), Tps H H' → VPt H u b → VPt H' u b := fun _ _ _ _ _ e => e
abbrev mt (met : List Sta) : List (Sta × Unit) := met.map fun s => (s, ())
theorem mt_keys (met : List Sta) : (mt met).map (·.1) = met := by
  unfold mt
  rw [List.map_map]
  exact List.map_id met
theorem mt_snoc (met : List Sta) (s : Sta) : mt met ++ [(s, ())] = mt (met ++ [s]) := by
  unfold mt
  rw [List.map_append]
  rfl
theorem perms_fit {n : Nat} (F : Facts n) (b4 : n ≤ 4) : Fits n (perms n) := fun r m => ⟨F.plen r m, fun x mx => by
  obtain ⟨h1, h2⟩ := F.pbd r m x mx
  exact ⟨h1, by omega⟩⟩
theorem line_fits {n : Nat} (F : Facts n) (b4 : n ≤ 4) {net : List Cmp} (hn : Valid n net) {g : Sta} {met line : List Sta} {k : Nat} (I : LI (pairs n) (img (perms n) net) g met line k) {s : Sta} (h : s ∈ line) : Fits n s ∧ s.length ≤ 24 := by
  obtain ⟨q, h1, _, h2⟩ := I.at_ s h
  rw [wlk_img] at h2
  have hv : Valid n (net ++ q) := valid_app hn h1
  rw [← h2]
  exact ⟨fun r m => perms_fit F b4 r (img_sub F.pcl hv r m), Nat.le_trans (img_len F.pcl hv) F.p24⟩
def spFar : Sp := fun vs H Q _ => ∃ (n : Nat) (a : Addr) (net : List Cmp), vs = [.int n, .ref a] ∧ Few n ∧ NetAt H a net ∧ Fit n net ∧ ∀ H' k, Same H H' → (∀ p, Best n net p → k = p.length) → Q (.int (k : Nat)) H'
section
variable {P : Program} {w : World} {K : PySem.W.Frag} {mg : Str → Option Value} {base : Heap}
abbrev nFar : List Str := ["_law_size_so", "_law_net_so", "_law_some", "_law_met", "_law_line", "_law_count", "_law_plain", "_law_later", "_law_rows_so", "_law_low", "_law_high", "_law_there", "_law_row_so"]
theorem sc_far : FnScope nFar ["_law_size_so", "_law_net_so"] (defScope (topS 45)) := C8.fnScope_by (by decide +kernel)
end
end WO

set_option Elab.async false
set_option linter.all false
set_option maxRecDepth 100000
set_option maxHeartbeats 4000000
namespace WO
open PySem PySem.Spec PyProof.Rows L2 WOm
section
variable {P : Program} {w : World} {K : PySem.W.Frag} {mg : Str → Option Value} {base : Heap}
/-- what a turn's state is -/
structure FarAt (P : Program) (w : World) (n : Nat) (na sa d pl l lb : Addr) (H0 H : Hp) (net : List Cmp) (met0 line met later : List Sta) (k : Nat) (D : Sta → Cmp → Prop) : Prop where
  same : Same H0 H
  met_ : FAt P w VPt H d (mt met)
  line_ : ObsAt StAt H l line
  later_ : ObsAt StAt H lb later
  pl_ : StAt H pl [plain n]
  M : LM (pairs n) (img (perms n) net) met0 line met later k D
abbrev dOut (n : Nat) (line : List Sta) (i : Nat) : Sta → Cmp → Prop := fun s c => c ∈ pairs n ∧ s ∈ line.take i
abbrev dLow (n : Nat) (line : List Sta) (i : Nat) (x : Sta) (lo : Nat) : Sta → Cmp → Prop := fun s c => c ∈ pairs n ∧ (s ∈ line.take i ∨ (s = x ∧ c.1 < lo))
abbrev dHigh (n : Nat) (line : List Sta) (i : Nat) (x : Sta) (lo j : Nat) : Sta → Cmp → Prop := fun s c => c ∈ pairs n ∧ (s ∈ line.take i ∨ (s = x ∧ (c.1 < lo ∨ (c.1 = lo ∧ c.2 < lo + 1 + j))))
theorem FarAt.mono {n : Nat} {na sa d pl l lb : Addr} {H0 H : Hp} {net : List Cmp} {met0 line met later : List Sta} {k : Nat} {D D' : Sta → Cmp → Prop} (F : FarAt P w n na sa d pl l lb H0 H net met0 line met later k D) (h : ∀ s c, D' s c → D s c) : FarAt P w n na sa d pl l lb H0 H net met0 line met later k D' :=
  { F with M := F.M.mono h }
theorem hu65 {A : Around} {k : Nat} (hr : Room k A) : A.units + 65 < cLine := by have := hr.un; omega
theorem cl_mono (n : Nat) {a b : Nat} (h : a ≤ b) : cl n a ≤ cl n b := by
  induction h with
  | refl => exact Nat.le_refl _
  | step _ ih => exact Nat.le_trans ih (Nat.le_add_right _ _)
theorem c_far (T : Tx K mg) : C8.Cal P w K mg base 3 "_law_far" spFar [] := by
  refine cal_of T.d_far (fun _ _ _ _ _ _ us hl => match us, hl with | [_, _], _ => rfl) sc_far (fun vs H Q E h => ?_) (fun f cdv A outer s H vs Q E hr h => ?_)
  · obtain ⟨n, a, net, rfl, _⟩ := h
    rfl
  · obtain ⟨n, na, net, rfl, hfew, hn, hfit, q⟩ := h
    obtain ⟨b1, b4⟩ := few_bd hfew
    have F := facts hfew
    have hval : Valid n net := fit_valid.mp hfit
    refine ⟨_, pss_cons (ps_set (i := 2) sc_far.nd rfl (.inl rfl) (pe_callTy cr_tup (by rfl) T.tuple_ (by decide +kernel) (pa_cons (pe_callB (cr_sortedT rfl) (by rfl) T.sorted_ (by decide +kernel) (pa_cons (pe_callTy (cr_setOfT rfl (hu64 hr)) (by rfl) T.set_ (by decide +kernel)
        (pa_cons (pe_lc (own := [("_law_row_so", 12)]) (g := gName 12) (by rfl) sc_far.nd (pi_list (C8.pe_c (c_every T) hr (by decide) (by rfl) (pa_cons (pv 0) pa_nil))) (blkOk_by (N := nFar) (sc := defScope (topS 45)) (by decide +kernel)) (fun _ _ _ _ _ => pg_name (i := 12) sc_far.nd rfl (.inl rfl)) (fun _ _ _ _ _ => pts_nil)
          (fun _ _ _ _ _ => C8.pe_c (c_through T) hr (by decide) (by rfl) (pa_cons (pv 12) (pa_cons (pv 1) pa_nil)))) pa_nil)) pa_nil)) pa_nil)))
      (pss_cons (ps_par3 (i := 3) (j := 4) (l := 5) rfl sc_far.nd rfl rfl rfl (by decide) (by decide) (by decide) rfl rfl rfl (pa_cons (pe_nd_one (VP := VPt) (hu64 hr) vpt_keep (pv 2) pe_bl) (pa_cons (pe_lst (pa_cons (pv 2) pa_nil)) (pa_cons pe_int pa_nil))) (by rfl))
      (pss_cons (ps_set (i := 6) sc_far.nd rfl (.inl rfl) (pe_tup (pa_cons (pe_tupRg rfl (by rfl) T.tuple_ (prg_1 (by rfl) T.range_ (pv 0))) pa_nil)))
      (pss_cons (ps_while PassesOwn.never (pt_cmpR (op_notInD (hu65 hr)) (pv 6) (pv 4) (by rfl))
          (pss_cons (ps_set (i := 7) sc_far.nd rfl (.inl rfl) (pe_lst pa_nil))
          (pss_cons (ps_for PassesOwn.never rfl (pi_list (pv 4)) (pg_name (i := 8) sc_far.nd rfl (.inl rfl))
            (pss_one (ps_for PassesOwn.never rfl (pi_range1 (by rfl) T.range_ (pa_cons (pv 0) pa_nil)) (pg_name (i := 9) sc_far.nd rfl (.inr rfl))
              (pss_one (ps_for PassesOwn.never rfl (pi_range2 (by rfl) T.range_ (pa_cons (pe_op op_add (pv 9) pe_int) (pa_cons (pv 0) pa_nil))) (pg_name (i := 10) sc_far.nd rfl (.inr rfl))
                (pss_cons (ps_set (i := 11) sc_far.nd rfl (.inl rfl) (pe_callTy cr_tup (by rfl) T.tuple_ (by decide +kernel) (pa_cons (pe_callB (cr_sortedT rfl) (by rfl) T.sorted_ (by decide +kernel) (pa_cons (pe_callTy (cr_setOfT rfl (hu64 hr)) (by rfl) T.set_ (by decide +kernel)
                  (pa_cons (pe_lc (own := [("_law_row_so", 12)]) (g := gName 12) (by rfl) sc_far.nd (pi_tup (pv 8)) (blkOk_by (N := nFar) (sc := defScope (topS 45)) (by decide +kernel)) (fun _ _ _ _ _ => pg_name (i := 12) sc_far.nd rfl (.inl rfl)) (fun _ _ _ _ _ => pts_nil)
                    (fun _ _ _ _ _ => C8.pe_c (c_through T) hr (by decide) (by rfl) (pa_cons (pv 12) (pa_cons (pe_tup (pa_cons (pe_tup (pa_cons (pv 9) (pa_cons (pv 10) pa_nil))) pa_nil)) pa_nil)))) pa_nil)) pa_nil)) pa_nil)))
                (pss_one (ps_if (pt_cmpR (op_nd_notin (VP := VPt) (hu64 hr)) (pv 11) (pv 3) (by rfl))
                  (pss_cons (ps_asg pe_bl (pg_sub (pv 3) (pv 11) (set_nd (hu64 hr) vpt_keep)))
                  (pss_one (ps_expr (pe_bm PySem.F.plainAttrs_list PySem.F.slot_list_append PySem.F.type_list_append mt_append (pv 7) (pa_cons (pv 11) pa_nil))))) pss_nil))))))))
          (pss_one (ps_par (i := 4) (j := 5) rfl sc_far.nd rfl rfl (by decide) rfl rfl (pa_cons (pv 7) (pa_cons (pe_op op_add (pv 5) pe_int) pa_nil)) (by rfl))))))
      (pss_one (ps_ret (pv 5)))))), ?_⟩
    -- the first state
    refine ⟨_, rfl, n, rfl, b4, fun H1 pm s1 hpm => ?_⟩
    obtain ⟨L, hL, hm, hri⟩ := id hpm
    refine ⟨pm, rfl, ⟨_, SqL.of hL⟩, fun D hD => ?_⟩
    have hL24 : L.length ≤ 24 := by
      have h1 : L.length = (perms n).length := by rw [← hm, List.length_map]
      have := F.p24
      omega
    refine lc_map (xs := refs L) (IsRow ((perms n).map (thr · net))) (isRow_keep _) hD hL (by rw [List.length_map]; omega) ?_ ?_ (gName_mono 12)
    · intro i x H2 hx s2 k hk
      rw [List.getElem?_map] at hx
      obtain ⟨pr, hp, rfl⟩ := Option.map_eq_some_iff.mp hx
      have mp : pr ∈ L := List.mem_of_getElem? hp
      have mm : pr.2 ∈ perms n := by rw [← hm]; exact List.mem_map.mpr ⟨pr, mp, rfl⟩
      have l1 := F.plen pr.2 mm
      refine ⟨rfl, .ref pr.1, rfl, .ref na, rfl, pr.1, na, pr.2, net, rfl, s2 _ _ (hri pr mp), (hn.keep (Same.tps s1)).keep (Same.tps s2), by rw [l1]; exact hfit, by omega, fun H3 b s3 e3 => hk _ _ s3 ⟨b, _, rfl, ?_, e3⟩⟩
      rw [← hm, List.map_map, List.getElem?_map, hp]
      rfl
    · intro H2 ys s2 e2 hl hys
      have fitr : Fits n ((perms n).map (thr · net)) := fun r m => by
        obtain ⟨r', m', rfl⟩ := List.mem_map.mp m
        exact perms_fit F b4 _ (thr_cl F.pcl net m' hval)
      show rSetOfT K P w [V.ref D] H2 fun y H3 => rSortedT K P w [y] H3 fun z H4 => rTupOf K [z] H4 fun x H5 => gName 2 x _ H5 _
      refine chain (d := n) (lsAt_of e2 (by rw [hl, List.length_map, List.length_map, ← hm, List.length_map]) hys) (by rw [List.length_map, ← hm, List.length_map]; omega) b1 fitr fun H3 sa s3 e3 => ?_
      have e3 : StAt H3 sa (img (perms n) net) := e3
      have s03 : Same H H3 := (s1.trans s2).trans s3
      refine fun d nd => ?_
      generalize hH4 : upd H3 d _ = H4
      have s4 : Same H3 H4 := hH4 ▸ same_upd nd
      have e4 : H4 d = some (ND P w d []) := hH4 ▸ upd_same
      have e4' := e3.keep (Same.tps s4)
      refine ⟨.ref sa, rfl, sa, img (perms n) net, (), rfl, e4, e4', fun H' u t r => r, fun H6 sd6 f6 => ?_⟩
      have dH : H d = none := L2.Same.free s03 nd
      have s06 : Same H H6 := same_through (s03.trans s4) sd6 dH
      have t6 : Tps H4 H6 := sd6.tps e4
      refine ⟨.ref sa, rfl, few1, fun l nl => ?_⟩
      generalize hH7 : upd H6 l _ = H7
      have s7 : Same H6 H7 := hH7 ▸ same_upd nl
      have e7 : H7 l = some (.lst [.ref sa]) := hH7 ▸ upd_same
      refine ⟨_, _, _, rfl, .int n, rfl, n, rfl, RgOk.of_le (by omega) (by omega) (by omega) (by omega), fun r1 nr1 => ?_⟩
      generalize hH8 : upd H7 r1 _ = H8
      have s8 : Same H7 H8 := hH8 ▸ same_upd nr1
      have e8 : H8 r1 = some (.tup (rgV 0 n)) := hH8 ▸ upd_same
      have e8 : RowAt H8 r1 (plain n) := by
        refine Eq.trans e8 ?_
        show some (HO.tup (rgV 0 n)) = some (HO.tup (rv (plain n)))
        unfold rgV WOm.plain rv
        rw [List.map_map, show ((n : Int) - 0).toNat = n by omega]
        congr 2
        refine List.map_congr_left fun a _ => ?_
        simp
      refine ⟨few1, fun pl npl => ?_⟩
      generalize hH9 : upd H8 pl _ = H9
      have s9 : Same H8 H9 := hH9 ▸ same_upd npl
      have e9 : H9 pl = some (.tup [.ref r1]) := hH9 ▸ upd_same
      have ep : StAt H9 pl [plain n] := ⟨[(r1, plain n)], e9, rfl, fun p m => by rw [List.mem_singleton.mp m]; exact s9 _ _ e8⟩
      have s79 := (s7.trans s8).trans s9
      have f9 := f6.keep vpt_keep s79
      have t9 : Tps H4 H9 := Tps.trans t6 (Same.tps s79)
      have sH9 : Same H H9 := s06.trans s79
      have line9 : ObsAt StAt H9 l [img (perms n) net] := ⟨[(sa, img (perms n) net)], (s8.trans s9) _ _ e7, rfl, fun p m => by rw [List.mem_singleton.mp m]; exact e4'.keep t9⟩
      -- while
      refine ⟨fun m σ H2 => ∃ (k : Nat) (l : Addr) (met line : List Sta) (y7 y8 y9 y10 y11 : Option V), σ = [some (.int n), some (.ref na), some (.ref sa), some (.ref d), some (.ref l), some (.int k), some (.ref pl), y7, y8, y9, y10, y11, none] ∧ Same H H2 ∧ FAt P w VPt H2 d (mt met) ∧ ObsAt StAt H2 l line ∧ StAt H2 pl [plain n] ∧
        LI (pairs n) (img (perms n) net) [plain n] met line k ∧ m = 7 - k, ⟨_, 0, l, [img (perms n) net], [img (perms n) net], none, none, none, none, none, rfl, sH9, f9, line9, ep, LI.start, rfl⟩, ?_⟩
      rintro m σ H2 ⟨k, l, met, line, y7, y8, y9, y10, y11, rfl, s2', f2, o2, p2, I, rfl⟩
      have k6 : k ≤ 6 := Nat.le_trans (I.le F.bval (bub_goalP F hval)) F.blen
      refine ⟨.ref pl, rfl, .ref l, rfl, dSt [plain n], line.map dSt, p2.dp, obs_dp o2, shaped_st _, shaped_sts _, _, rfl, ?_⟩
      rw [any_st]
      show (if (!decide ([plain n] ∈ line)) = true then _ else _)
      by_cases hg : [plain n] ∈ line
      · rw [decide_eq_true hg]
        refine iteF ⟨_, rfl, q H2 k s2' fun p hp => LI.best F hval I hg hp⟩
      · rw [decide_eq_false hg]
        refine iteT ⟨fun σ' H' => ∃ m', m' < 7 - k ∧ ∃ (k : Nat) (l : Addr) (met line : List Sta) (y7 y8 y9 y10 y11 : Option V), σ' = [some (.int n), some (.ref na), some (.ref sa), some (.ref d), some (.ref l), some (.int k), some (.ref pl), y7, y8, y9, y10, y11, none] ∧ Same H H' ∧ FAt P w VPt H' d (mt met) ∧ ObsAt StAt H' l line ∧ StAt H' pl [plain n] ∧
          LI (pairs n) (img (perms n) net) [plain n] met line k ∧ m' = 7 - k, fun _ _ h => h, ?_⟩
        refine ⟨few0, fun lb nlb => ?_⟩
        generalize hH10 : upd H2 lb _ = H10
        have s10 : Same H2 H10 := hH10 ▸ same_upd nlb
        have e10 : H10 lb = some (.lst []) := hH10 ▸ upd_same
        have lbH : H lb = none := L2.Same.free s2' nlb
        have nlbd : lb ≠ d := fun e => by
          obtain ⟨xs, z, _⟩ := f2
          rw [← e, nlb] at z
          cases z
        obtain ⟨Ll, hLl, hLm, hLa⟩ := id o2
        have nll : l ≠ lb := ne_of_none hLl nlb
        refine ⟨.ref l, rfl, l, rfl, ⟨_, SqL.of (s10 _ _ hLl)⟩, for_list (xs := adrs Ll) (fun i σ H3 => ∃ (met' later : List Sta) (y8 y9 y10 y11 : Option V), σ = [some (.int n), some (.ref na), some (.ref sa), some (.ref d), some (.ref l), some (.int k), some (.ref pl), some (.ref lb), y8, y9, y10, y11, none] ∧
          FarAt P w n na sa d pl l lb H H3 net met line met' later k (dOut n line i) ∧ H3 l = some (.lst (adrs Ll)) ∧ later.length ≤ i * 6) ⟨met, [], y8, y9, y10, y11, rfl, ⟨s2'.trans s10, f2.keep vpt_keep s10, o2.same stays_st s10, ⟨[], e10, rfl, fun p m => by cases m⟩, p2.keep (Same.tps s10), LM.start.mono fun s c h => by have := h.2; simp at this⟩, s10 _ _ hLl, Nat.zero_le _⟩ ?_ ?_ ?_⟩
        · rintro i σ H3 _ ⟨_, _, _, _, _, _, rfl, _, h3, _⟩
          exact SqL.of h3
        · rintro i x σ H3 hx ⟨met', later, y8, y9, y10, y11, rfl, G3, h3, hb3⟩
          obtain ⟨ax, x', rfl, hxl, hax⟩ := G3.line_.at h3 hx
          have mx : x' ∈ line := List.mem_of_getElem? hxl
          obtain ⟨fitx, x24⟩ := line_fits F b4 hval I mx
          have hil : i < line.length := (List.getElem?_eq_some_iff.mp hxl).1
          refine ⟨.int n, rfl, n, rfl, by omega, by omega, for_range (n := n) (lo := 0) (fun lo σ H4 => ∃ (met' later : List Sta) (y9 y10 y11 : Option V), σ = [some (.int n), some (.ref na), some (.ref sa), some (.ref d), some (.ref l), some (.int k), some (.ref pl), some (.ref lb), some (.ref ax), y9, y10, y11, none] ∧
            FarAt P w n na sa d pl l lb H H4 net met line met' later k (dLow n line i x' lo) ∧ H4 l = some (.lst (adrs Ll)) ∧ StAt H4 ax x' ∧ later.length ≤ i * 6 + cl n lo) ⟨met', later, y9, y10, y11, rfl, G3.mono fun s c h => ⟨h.1, h.2.resolve_right fun z => absurd z.2 (Nat.not_lt_zero _)⟩, h3, hax, by show _ ≤ i * 6 + 0; omega⟩ ?_ ?_⟩
          · rintro lo σ H4 hlo ⟨met', later, y9, y10, y11, rfl, G4, h4, hax4, hb4⟩
            refine ⟨.int (0 + lo), rfl, (0 + (lo : Nat) : Int), 1, rfl, rfl, .int n, rfl, 0 + (lo : Int) + 1, n, rfl, by omega, ?_⟩
            have eN : ((n : Int) - (0 + (lo : Int) + 1)).toNat = n - (lo + 1) := by omega
            rw [eN]
            refine for_range (fun j σ H5 => ∃ (met' later : List Sta) (y10 y11 : Option V), σ = [some (.int n), some (.ref na), some (.ref sa), some (.ref d), some (.ref l), some (.int k), some (.ref pl), some (.ref lb), some (.ref ax), some (.int (0 + lo)), y10, y11, none] ∧
              FarAt P w n na sa d pl l lb H H5 net met line met' later k (dHigh n line i x' lo j) ∧ H5 l = some (.lst (adrs Ll)) ∧ StAt H5 ax x' ∧ later.length ≤ i * 6 + cl n lo + j) ⟨met', later, y10, y11, rfl, G4.mono fun s c h => ⟨h.1, h.2.imp_right fun z => ⟨z.1, z.2.resolve_right fun y => by have := (mem_pairs.mp h.1).1; omega⟩⟩, h4, hax4, hb4⟩ ?_ ?_
            · rintro j σ H5 hj ⟨met', later, y10, y11, rfl, G5, h5, hax5, hb5⟩
              have hlt : lo + 1 + j < n := by omega
              generalize hc : ((lo, lo + 1 + j) : Cmp) = c
              have c1 : c.1 = lo := by rw [← hc]
              have c2 : c.2 = lo + 1 + j := by rw [← hc]
              have mc : c ∈ pairs n := mem_pairs.mpr ⟨by omega, by omega⟩
              have hDn : ∀ s' c', dHigh n line i x' lo (j + 1) s' c' → dHigh n line i x' lo j s' c' ∨ (s' = x' ∧ c' = c) := fun s' c' h => by
                obtain ⟨h1, h2 | ⟨h2, h3 | ⟨h3, h4⟩⟩⟩ := h
                · exact .inl ⟨h1, .inl h2⟩
                · exact .inl ⟨h1, .inr ⟨h2, .inl h3⟩⟩
                · by_cases e : c'.2 < lo + 1 + j
                  · exact .inl ⟨h1, .inr ⟨h2, .inr ⟨h3, e⟩⟩⟩
                  · refine .inr ⟨h2, ?_⟩
                    obtain ⟨u, v⟩ := c'
                    rw [← hc]
                    simp only at h3 h4 e
                    rw [show u = lo by omega, show v = lo + 1 + j by omega]
              obtain ⟨Lx, hLx, hxm, hxr⟩ := id hax5
              refine ⟨.ref ax, rfl, ax, rfl, ⟨_, SqT.of hLx⟩, fun D5 hD5 => ?_⟩
              have lLx : Lx.length = x'.length := by rw [← hxm, List.length_map]
              refine lc_mapT (xs := refs Lx) (IsRow (x'.map (cmp · c))) (isRow_keep _) hD5 hLx (by rw [List.length_map]; omega) ?_ ?_ (gName_mono 12)
              · intro i2 y H6 hy s6 kk hk
                rw [List.getElem?_map] at hy
                obtain ⟨pr, hp, rfl⟩ := Option.map_eq_some_iff.mp hy
                have mp : pr ∈ Lx := List.mem_of_getElem? hp
                have l1 := (fitx pr.2 (by rw [← hxm]; exact List.mem_map.mpr ⟨pr, mp, rfl⟩)).1
                refine ⟨rfl, .ref pr.1, rfl, .int (0 + lo), rfl, .int (0 + (lo : Int) + 1 + j), rfl, few2, fun t nt => ?_⟩
                generalize hH7 : upd H6 t _ = H7
                have s7 : Same H6 H7 := hH7 ▸ same_upd nt
                have e7 : H7 t = some (.tup [.int (0 + lo), .int (0 + (lo : Int) + 1 + j)]) := hH7 ▸ upd_same
                have e7 : CmpAt H7 t c := by
                  refine Eq.trans e7 ?_
                  rw [← hc]
                  show some (HO.tup [V.int (0 + (lo : Int)), V.int (0 + (lo : Int) + 1 + j)]) = some (HO.tup [V.int ((lo : Nat) : Int), V.int ((lo + 1 + j : Nat) : Int)])
                  rw [show (0 + (lo : Int)) = ((lo : Nat) : Int) by omega, show (((lo : Nat) : Int) + 1 + (j : Int)) = ((lo + 1 + j : Nat) : Int) by omega]
                refine ⟨few1, fun u nu => ?_⟩
                generalize hH8 : upd H7 u _ = H8
                have s8 : Same H7 H8 := hH8 ▸ same_upd nu
                have e8 : H8 u = some (.tup [.ref t]) := hH8 ▸ upd_same
                refine ⟨pr.1, u, pr.2, [c], rfl, s8 _ _ (s7 _ _ (s6 _ _ (hxr pr mp))), ⟨[t], e8, rfl, fun i3 c' h => ?_⟩, fun c' m => ?_, by omega, fun H9 b s9 e9 => hk _ _ ((s7.trans s8).trans s9) ⟨b, _, rfl, ?_, e9⟩⟩
                · cases i3 with
                  | zero =>
                    obtain rfl := Option.some.inj h
                    exact ⟨t, rfl, s8 _ _ e7⟩
                  | succ i3 => simp at h
                · rw [List.mem_singleton.mp m]
                  omega
                · rw [← hxm, List.map_map, List.getElem?_map, hp]
                  rfl
              · intro H6 zs s6 e6 hl6 hzs
                show rSetOfT K P w [V.ref D5] H6 fun y H3 => rSortedT K P w [y] H3 fun z H4 => rTupOf K [z] H4 fun x H5 => gName 11 x _ H5 _
                refine chain (d := n) (lsAt_of e6 (by rw [hl6, List.length_map, List.length_map, lLx]) hzs) (by rw [List.length_map]; omega) b1 (cmp_fits (by omega) (by omega) fitx) fun H7 b s7 e7 => ?_
                have e7 : StAt H7 b (stp x' c) := e7
                have s57 := s6.trans s7
                have f7 := G5.met_.keep vpt_keep s57
                refine ⟨.ref b, rfl, .ref d, rfl, b, d, stp x' c, mt met', rfl, rfl, e7, f7, _, rfl, ?_⟩
                rw [mt_keys]
                show (if (!decide (stp x' c ∈ met')) = true then _ else _)
                by_cases hk : stp x' c ∈ met'
                · rw [decide_eq_true hk]
                  refine iteF ⟨met', later, some (.int (0 + (lo : Int) + 1 + j)), some (.ref b), rfl, ⟨G5.same.trans s57, f7, G5.line_.same stays_st s57, G5.later_.same stays_st s57, G5.pl_.keep (Same.tps s57), (G5.M.old hk).mono hDn⟩, s57 _ _ h5, hax5.keep (Same.tps s57), by omega⟩
                · rw [decide_eq_false hk]
                  have hmk : stp x' c ∉ (mt met').map (·.1) := by rw [mt_keys]; exact hk
                  have p7 : (7 : Nat) ^ k ≤ 7 ^ 6 := Nat.pow_le_pow_right (by decide) k6
                  have p77 : (7 : Nat) ^ 6 = 117649 := rfl
                  have ib1 := I.b1
                  have ib2 := I.b2
                  have mlen := G5.M.len
                  have cl6 : cl n lo + j < 6 := by
                    have e1 : cl n (lo + 1) = cl n lo + (n - (lo + 1)) := rfl
                    have e2 := cl_mono n (show lo + 1 ≤ n by omega)
                    have e3 := cl_few hfew
                    omega
                  have ll6 : later.length ≤ 7 ^ 6 * 6 := by omega
                  refine iteT ⟨.ref d, rfl, .ref b, rfl, b, d, stp x' c, mt met', (), rfl, rfl, e7, f7, hmk, few' (by rw [List.length_map]; omega), fun H' u t r => r, fun H8 sd8 f8 => ?_⟩
                  rw [mt_snoc] at f8
                  have t8 : Tps H7 H8 := f7.tps sd8
                  have lat7 := G5.later_.same stays_st s57
                  have lat8 := lat7.sameD stays_st sd8 nlbd t8
                  have lin7 := G5.line_.same stays_st s57
                  have nld : l ≠ d := f7.ne_lst (s57 _ _ h5)
                  have lin8 := lin7.sameD stays_st sd8 nld t8
                  have h8 := sd8 _ _ nld (s57 _ _ h5)
                  have dH8 : Same H H8 := same_through (G5.same.trans s57) sd8 dH
                  obtain ⟨M, hM, hMm, hMa⟩ := id lat8
                  have hMl : M.length = later.length := by rw [← hMm, List.length_map]
                  have t9 : Tps H8 (upd H8 lb (.lst (adrs M ++ [.ref b]))) := tps_lst hM
                  have sd9 : SameD lb H8 (upd H8 lb (.lst (adrs M ++ [.ref b]))) := sameD_upd
                  refine ⟨.ref lb, rfl, .inl ⟨rfl, _, SqL.of hM⟩, .ref b, rfl, lb, _, .ref b, rfl, rfl, hM, few' (by rw [List.length_map]; omega), ?_⟩
                  refine ⟨met' ++ [stp x' c], later ++ [stp x' c], some (.int (0 + (lo : Int) + 1 + j)), some (.ref b), rfl, ⟨same_through dH8 sd9 lbH, f8.keepN vpt_keep nlbd sd9 t9, lin8.sameD stays_st sd9 nll t9, ⟨M ++ [(b, stp x' c)], ?_, by rw [List.map_append, hMm]; rfl, fun z m => ?_⟩, ((G5.pl_.keep (Same.tps s57)).keep t8).keep t9, (LM.add I G5.M mx mc hk).mono hDn⟩, sd9 _ _ nll h8, ((hax5.keep (Same.tps s57)).keep t8).keep t9, by rw [List.length_append]; show _ + 1 ≤ _; omega⟩
                  · rw [upd_same]
                    unfold adrs
                    rw [List.map_append]
                    rfl
                  · rcases List.mem_append.mp m with m | m
                    · exact (hMa z m).keep t9
                    · rw [List.mem_singleton.mp m]
                      exact (e7.keep t8).keep t9
            · rintro σ H5 ⟨met', later, y10, y11, rfl, G5, h5, hax5, hb5⟩
              refine ⟨met', later, some (.int (0 + lo)), y10, y11, rfl, G5.mono fun s c h => ⟨h.1, h.2.imp_right fun z => ⟨z.1, ?_⟩⟩, h5, hax5, ?_⟩
              · have := (mem_pairs.mp h.1).2
                have := z.2
                omega
              · show _ ≤ i * 6 + (cl n lo + (n - (lo + 1)))
                omega
          · rintro σ H4 ⟨met', later, y9, y10, y11, rfl, G4, h4, hax4, hb4⟩
            refine ⟨met', later, some (.ref ax), y9, y10, y11, rfl, G4.mono fun s c h => ⟨h.1, ?_⟩, h4, ?_⟩
            · have z := h.2
              rw [List.take_add_one, hxl] at z
              rcases List.mem_append.mp z with z | z
              · exact .inl z
              · have c12 := mem_pairs.mp h.1
                exact .inr ⟨by simpa using z, by omega⟩
            · have := cl_few hfew
              omega
        · rintro σ H3 ⟨met', later, y8, y9, y10, y11, rfl, G3, h3, hb3⟩
          have el : (adrs Ll).length = line.length := by rw [List.length_map, ← hLm, List.length_map]
          rw [el] at G3 hb3
          obtain ⟨ys, z1, z2⟩ := G3.later_.len
          refine ⟨.ref lb, rfl, .int k, rfl, (k : Int), 1, rfl, rfl, .ref lb, .int ((k : Int) + 1), rfl, ?_⟩
          refine ⟨7 - (k + 1), by omega, k + 1, lb, met', later, some (.ref lb), y8, y9, y10, y11, rfl, G3.same, G3.met_, G3.later_, G3.pl_, ?_, rfl⟩
          exact G3.M.fin I F.p6 hg (fun s ms c mc => ⟨mc, by rw [List.take_length]; exact ms⟩) hb3
end
end WO

set_option Elab.async false
set_option linter.all false
set_option maxRecDepth 100000
set_option maxHeartbeats 4000000
namespace WO
open PySem PySem.Spec PyProof.Rows L2 WOm
/-! ### _law_right -/
theorem net_cat {H : Hp} {r : Addr} {p q : List Cmp} {as bs : List Addr} (h2 : as.length = p.length) (h3 : ∀ (i : Nat) (c : Cmp), p[i]? = some c → ∃ a : Addr, as[i]? = some a ∧ CmpAt H a c) (k2 : bs.length = q.length) (k3 : ∀ (i : Nat) (c : Cmp), q[i]? = some c → ∃ a : Addr, bs[i]? = some a ∧ CmpAt H a c)
    (e : H r = some (.tup (as.map V.ref ++ bs.map V.ref))) : NetAt H r (p ++ q) := by
  refine ⟨as ++ bs, by rw [e, List.map_append], by rw [List.length_append, List.length_append, h2, k2], fun i c hi => ?_⟩
  rcases Nat.lt_or_ge i p.length with h | h
  · rw [List.getElem?_append_left h] at hi
    obtain ⟨a, k1, k2⟩ := h3 i c hi
    exact ⟨a, by rw [List.getElem?_append_left (by omega)]; exact k1, k2⟩
  · rw [List.getElem?_append_right h] at hi
    obtain ⟨a, k1, k2⟩ := k3 _ c hi
    exact ⟨a, by rw [List.getElem?_append_right (by omega), h2]; exact k1, k2⟩
/-- net + rest -/
theorem cat_nets {H : Hp} {a b : Addr} {p q : List Cmp} (ha : NetAt H a p) (hb : NetAt H b q) (hl : p.length + q.length ≤ 1000) {Q : VK} (k : ∀ H' c, Same H H' → NetAt H' c (p ++ q) → Q (.ref c) H') : rCatS (.ref a) (.ref b) H Q := by
  obtain ⟨as, h1, h2, h3⟩ := ha
  obtain ⟨bs, k1, k2, k3⟩ := hb
  refine ⟨a, b, _, _, rfl, rfl, h1, k1, few (by rw [List.length_map, List.length_map]; omega), fun H' c s e => k H' c s ?_⟩
  exact net_cat h2 (fun i x hx => by obtain ⟨z, y1, y2⟩ := h3 i x hx; exact ⟨z, y1, s _ _ y2⟩) k2 (fun i x hx => by obtain ⟨z, y1, y2⟩ := k3 i x hx; exact ⟨z, y1, s _ _ y2⟩) e
theorem fit_app {n : Nat} {p q : List Cmp} (h : Fit n p) (k : Fit n q) : Fit n (p ++ q) := fun c m => by
  rcases List.mem_append.mp m with m | m
  · exact h c m
  · exact k c m
theorem shaped_row (r : Rw) : SeqAt.shaped (dRow r) = true := by
  obtain ⟨h1, h2⟩ := lay_ints r
  show ((dRow r).canLay0 && decide ((dRow r).depth ≤ 64)) = true
  rw [Bool.and_eq_true]
  refine ⟨by simp only [dRow, PyData.canLay0]; exact h1, decide_eq_true ?_⟩
  simp only [dRow, PyData.depth]
  omega
theorem eqv_row (a b : Rw) : PyData.eqv (dRow a) (dRow b) = decide (a = b) := by
  unfold dRow
  simp only [PyData.eqv, eqv_ints]
def spRight : Sp := fun vs H Q _ => ∃ (n : Nat) (a : Addr) (net : List Cmp), vs = [.int n, .ref a] ∧ Few n ∧ NetAt H a net ∧ Fit n net ∧ net.length ≤ 100 ∧ ∀ H', Same H H' → Q (.bl true) H'
section
variable {P : Program} {w : World} {K : PySem.W.Frag} {mg : Str → Option Value} {base : Heap}
abbrev nRight : List Str := ["_law_size_so", "_law_net_so", "_law_more", "_law_rest_so", "_law_plain", "_law_row_so"]
theorem sc_right : FnScope nRight ["_law_size_so", "_law_net_so"] (defScope (topS 46)) := C8.fnScope_by (by decide +kernel)
theorem c_right (T : Tx K mg) (TM : TmRule P w K mg base) : CalX P w K mg base 7 "_law_right" spRight := by
  refine calX_of T.d_right (fun _ _ _ _ _ _ us hl => match us, hl with | [_, _], _ => rfl) sc_right (fun vs H Q E h => ?_) (fun f cdv A outer s H vs Q E hr h => ?_)
  · obtain ⟨n, a, net, rfl, _⟩ := h
    rfl
  · obtain ⟨n, na, net, rfl, hfew, hn, hfit, h100, q⟩ := h
    obtain ⟨b1, b4⟩ := few_bd hfew
    have F := facts hfew
    have hval : Valid n net := fit_valid.mp hfit
    refine ⟨_, pss_cons (ps_asg (pe_tup (pa_cons (pe_cx (c_fewest T TM) hr (by decide) (by rfl) (L2N.takes_of rfl rfl rfl rfl) (pa_cons (pv 0) (pa_cons (pv 1) pa_nil))) (pa_cons (pe_cx (c_more T TM) hr (by decide) (by rfl) (L2N.takes_of rfl rfl rfl rfl) (pa_cons (pv 0) (pa_cons (pv 1) pa_nil))) pa_nil)))
        (pg_tup rfl (pgs_cons (pg_name (i := 2) sc_right.nd rfl (.inl rfl)) (pgs_cons (pg_name (i := 3) sc_right.nd rfl (.inr rfl)) pgs_nil))))
      (pss_cons (ps_if (PW.pt (pw_or (pt_cmpR op_ne (pv 2) (C8.pe_c (c_far T) hr (by decide) (by rfl) (pa_cons (pv 0) (pa_cons (pv 1) pa_nil))) (nomark _))
        (pw_or1 (pt_val (pe_callB call_isi (by rfl) T.isinst (by decide +kernel) (pa_cons (pv 2) (pa_cons (pe_bltn (v := .ty "bool") (by rfl) T.bool_ (by decide +kernel) rfl) pa_nil))))))) (pss_one (ps_ret pe_bl)) pss_nil)
      (pss_cons (ps_if (PW.pt (pw_or (pt_not (pt_val (pe_callB call_isi (by rfl) T.isinst (by decide +kernel) (pa_cons (pv 3) (pa_cons (pe_bltn (v := .ty "tuple") (by rfl) T.tuple_ (by decide +kernel) rfl) pa_nil)))))
        (pw_or (pt_cmpR op_ne (pe_callB call_len_seq (by rfl) T.len_ PySem.boot_len (pa_cons (pv 3) pa_nil)) (pv 2) (nomark _))
        (pw_or1 (pt_cmpR op_isnot_bl (pe_cx (c_sorter T TM) hr (by decide) (by rfl) (L2N.takes_of rfl rfl rfl rfl) (pa_cons (pv 0) (pa_cons (pe_op op_catS (pv 1) (pv 3)) pa_nil))) pe_bl (nomark _)))))) (pss_one (ps_ret pe_bl)) pss_nil)
      (pss_cons (ps_set (i := 4) sc_right.nd rfl (.inr rfl) (pe_tupRg rfl (by rfl) T.tuple_ (prg_1 (by rfl) T.range_ (pv 0))))
      (pss_one (ps_ret (pe_cmpR (op_eqD hr.units) (pe_lc (own := [("_law_row_so", 5)]) (g := gName 5) (by rfl) sc_right.nd (pi_list (C8.pe_c (c_every T) hr (by decide) (by rfl) (pa_cons (pv 0) pa_nil))) (blkOk_by (N := nRight) (sc := defScope (topS 46)) (by decide +kernel)) (fun _ _ _ _ _ => pg_name (i := 5) sc_right.nd rfl (.inl rfl))
        (fun _ _ _ _ _ => pts_one (pt_cmpR (r := rNeD K) (op_neD hr.units) (C8.pe_c (c_through T) hr (by decide) (by rfl) (pa_cons (pv 5) (pa_cons (pe_op op_catS (pv 1) (pv 3)) pa_nil))) (pv 4) (nomark _))) (fun _ _ _ _ _ => pv 5)) (pe_lst pa_nil) (nomark _))))))), ?_⟩
    refine ⟨.int n, rfl, .ref na, rfl, more_ok hfew hn hfit (by omega) fun H1 p1 s1 hb1 h61 => ?_⟩
    refine ⟨.int n, rfl, .ref na, rfl, more_ok hfew (hn.keep (Same.tps s1)) hfit (by omega) fun H2 p s2 hb h6 => fun H3 ra s3 hra => ⟨few2, fun t nt => ?_⟩⟩
    generalize hH4 : upd H3 t _ = H4
    have s4 : Same H3 H4 := hH4 ▸ same_upd nt
    have e4 : H4 t = some (.tup [.int p1.length, .ref ra]) := hH4 ▸ upd_same
    have s04 : Same H H4 := ((s1.trans s2).trans s3).trans s4
    have hra4 := hra.keep (Same.tps s4)
    have hn4 := hn.keep (Same.tps s04)
    refine ⟨t, _, rfl, SqT.of e4, rfl, .int p1.length, [.ref ra], rfl, .ref ra, [], rfl, rfl, ?_⟩
    refine ⟨.int p1.length, rfl, .int n, rfl, .ref na, rfl, n, na, net, rfl, hfew, hn4, hfit, fun H5 k s5 hk => ⟨rfl, ?_⟩⟩
    have ek : k = p1.length := hk p1 hb1
    have ek2 : p1.length = p.length := hb1.len hb
    rw [ek, decide_eq_true rfl]
    have s05 : Same H H5 := s04.trans s5
    refine ⟨false, rfl, iteF ⟨.int p1.length, rfl, .int p1.length, .ty "bool", _, _, false, rfl, .ty "bool", ty_dp (.int _), kk (a := "int") (b := "bool") (by decide +kernel), false, rfl, iteF ?_⟩⟩
    have hra5 := hra4.keep (Same.tps s5)
    have hn5 := hn4.keep (Same.tps s5)
    refine ⟨.ref ra, rfl, .ref ra, .ty "tuple", _, _, true, rfl, .ty "tuple", ty_dp hra5.dp, kit_tup hra5.dp, true, rfl, iteF ?_⟩
    obtain ⟨as, h1, h2, h3⟩ := id hra5
    refine ⟨.ref ra, rfl, ra, _, rfl, .inr (SqT.of h1), .int p1.length, rfl, rfl, ?_⟩
    rw [List.length_map, h2, ek2, decide_eq_true rfl]
    have fitp : Fit n p := fit_valid.mpr hb.val
    have fitall := fit_app hfit fitp
    refine ⟨false, rfl, iteF ⟨.int n, rfl, .ref na, rfl, .ref ra, rfl, cat_nets hn5 hra5 (by omega) fun H6 ca s6 hca => ⟨n, ca, net ++ p, rfl, b1, by omega, hca, fitall, by rw [List.length_append]; omega, hb.srt, fun H7 s7 => ⟨true, true, rfl, rfl, false, rfl, iteF ?_⟩⟩⟩⟩
    have s07 : Same H H7 := (s05.trans s6).trans s7
    refine ⟨.int n, rfl, n, rfl, RgOk.of_le (by omega) (by omega) (by omega) (by omega), fun r1 nr1 => ?_⟩
    generalize hH8 : upd H7 r1 _ = H8
    have s8 : Same H7 H8 := hH8 ▸ same_upd nr1
    have e8 : H8 r1 = some (.tup (rgV 0 n)) := hH8 ▸ upd_same
    have e8 : RowAt H8 r1 (WOm.plain n) := by
      refine Eq.trans e8 ?_
      show some (HO.tup (rgV 0 n)) = some (HO.tup (rv (WOm.plain n)))
      unfold rgV WOm.plain rv
      rw [List.map_map, show ((n : Int) - 0).toNat = n by omega]
      congr 2
      refine List.map_congr_left fun a _ => ?_
      simp
    have s08 := s07.trans s8
    have hn8 := hn.keep (Same.tps s08)
    have hra8 := hra5.keep (Same.tps ((s6.trans s7).trans s8))
    refine ⟨.int n, rfl, n, rfl, b4, fun H9 pm s9 hpm => ?_⟩
    obtain ⟨L, hL, hm, hri⟩ := id hpm
    have sp : SortsP n (net ++ p) := (sorts_iff F (valid_app hval hb.val)).mp hb.srt
    refine ⟨pm, rfl, ⟨_, SqL.of hL⟩, fun D hD => lc_none (xs := refs L) hD hL ?_ ?_⟩
    · intro i x H10 hx s10 k hk
      rw [List.getElem?_map] at hx
      obtain ⟨pr, hp, rfl⟩ := Option.map_eq_some_iff.mp hx
      have mp : pr ∈ L := List.mem_of_getElem? hp
      have mm : pr.2 ∈ perms n := by rw [← hm]; exact List.mem_map.mpr ⟨pr, mp, rfl⟩
      have l1 := F.plen pr.2 mm
      refine ⟨rfl, .ref pr.1, rfl, .ref na, rfl, .ref ra, rfl, cat_nets ((hn8.keep (Same.tps s9)).keep (Same.tps s10)) ((hra8.keep (Same.tps s9)).keep (Same.tps s10)) (by omega) fun H11 ca s11 hca => ?_⟩
      refine ⟨pr.1, ca, pr.2, net ++ p, rfl, s11 _ _ (s10 _ _ (hri pr mp)), hca, by rw [l1]; exact fitall, by omega, fun H12 b s12 hb12 => ?_⟩
      have e12 : RowAt H12 r1 (WOm.plain n) := s12 _ _ (s11 _ _ (s10 _ _ (s9 _ _ e8)))
      refine ⟨.ref r1, rfl, dRow (thr pr.2 (net ++ p)), dRow (WOm.plain n), RowAt.dp hb12, RowAt.dp e12, shaped_row _, shaped_row _, _, rfl, ?_⟩
      rw [sp pr.2 mm, eqv_row, decide_eq_true rfl]
      exact hk _ H12 (s11.trans s12)
    · intro H10 s10 e10
      refine ⟨few0, fun l nl => ?_⟩
      generalize hH11 : upd H10 l _ = H11
      have s11 : Same H10 H11 := hH11 ▸ same_upd nl
      have e11 : H11 l = some (.lst []) := hH11 ▸ upd_same
      exact ⟨.list [], .list [], .lst (SqL.of (s11 _ _ e10)) .nil, .lst (SqL.of e11) .nil, rfl, rfl, q H11 (((s08.trans s9).trans s10).trans s11)⟩
end
end WO

set_option Elab.async false
set_option linter.all false
set_option maxRecDepth 100000
set_option maxHeartbeats 4000000
namespace WO
open PySem PySem.Spec PyProof.Rows L2 WOm
/-! ### the draws -/
/-- the bucket: two numbers, none below 0 -/
def Bk (H : Hp) (l : Addr) : Prop := ∃ a b : Int, H l = some (.lst [.int a, .int b]) ∧ 0 ≤ a ∧ 0 ≤ b
theorem sameD_tps {H H' : Hp} {l : Addr} {xs : List V} (s : SameD l H H') (e : H l = some (.lst xs)) : Tps H H' := fun b ys hb => s b _ (ne_of hb e (by intro z; cases z)) hb
theorem Bk.tps {H H' : Hp} {l : Addr} (h : Bk H l) (s : SameD l H H') : Tps H H' := by
  obtain ⟨a, b, e, _⟩ := h
  exact sameD_tps s e
theorem Bk.same {H H' : Hp} {l : Addr} (h : Bk H l) (s : Same H H') : Bk H' l := by
  obtain ⟨a, b, e, h1, h2⟩ := h
  exact ⟨a, b, s _ _ e, h1, h2⟩
def spBucket (K : PySem.W.Frag) : Sp := fun vs H Q _ => ∃ (a : Addr) (ns : List Int), vs = [.ref a] ∧ SqL K H a (ns.map V.int) ∧ ns.length ≤ 1000000 ∧ ∀ H' l, Same H H' → Bk H' l → Q (.ref l) H'
def spScoop : Sp := fun vs H Q _ => ∃ (l : Addr) (m : Int), vs = [.ref l, .int m] ∧ Bk H l ∧ 0 < m ∧ m < 1000 ∧ ∀ H' r, SameD l H H' → Bk H' l → 0 ≤ r → r < m → Q (.int r) H'
section
variable {P : Program} {w : World} {K : PySem.W.Frag} {mg : Str → Option Value} {base : Heap}
theorem sc_bucket : FnScope ["_law_script", "_law_cell"] ["_law_script"] (defScope (topS 36)) := C8.fnScope_by (by decide +kernel)
theorem c_bucket (T : Tx K mg) : C8.Cal P w K mg base 1 "_law_bucket" (spBucket K) [] := by
  refine cal_of T.d_bucket (fun _ _ _ _ _ _ us hl => match us, hl with | [_], _ => rfl) sc_bucket (fun vs H Q E h => ?_) (fun f cdv A outer s H vs Q E hr h => ?_)
  · obtain ⟨a, ns, rfl, _⟩ := h
    rfl
  · obtain ⟨a, ns, rfl, ha, hl, q⟩ := h
    refine ⟨_, pss_cons (ps_set (i := 1) sc_bucket.nd rfl (.inl rfl) (pe_callB call_abs (by rfl) T.abs_ (by decide +kernel) (pa_cons (pe_callTy call_int1 (by rfl) T.int_ (by decide +kernel)
        (pa_cons (pe_ix ix_list (pe_op op_cat (pe_callTy call_list_of (by rfl) T.list_ (by decide +kernel) (pa_cons (pv 0) pa_nil)) (pe_lst (pa_cons pe_int pa_nil))) pe_int (fun _ _ => rfl)) pa_nil)) pa_nil)))
      (pss_one (ps_ret (pe_lst (pa_cons (pe_ifExp (pt_cmpR op_ge (pv 1) (pe_op op_pow pe_int pe_int) (nomark _)) (pv 1) pe_int)
        (pa_cons (pe_op op_add (pe_op op_mod (pe_callTy call_int1 (by rfl) T.int_ (by decide +kernel) (pa_cons (pe_op op_add (pe_op op_mul (pv 1) pe_int) pe_int) pa_nil)) pe_int) pe_int) pa_nil))))), ?_⟩
    refine ⟨.ref a, rfl, a, _, rfl, .inl ha, fun l1 n1 => ?_⟩
    generalize hH1 : upd H l1 _ = H1
    have s1 : Same H H1 := hH1 ▸ same_upd n1
    have e1 : H1 l1 = some (.lst (ns.map V.int)) := hH1 ▸ upd_same
    refine ⟨few1, fun l2 n2 => ?_⟩
    generalize hH2 : upd H1 l2 _ = H2
    have s2 : Same H1 H2 := hH2 ▸ same_upd n2
    have e2 : H2 l2 = some (.lst [.int 0]) := hH2 ▸ upd_same
    refine ⟨l1, l2, _, _, rfl, rfl, s2 _ _ e1, e2, few (by rw [List.length_map]; show _ + 1 ≤ _; omega), fun l3 n3 => ?_⟩
    generalize hH3 : upd H2 l3 _ = H3
    have s3 : Same H2 H3 := hH3 ▸ same_upd n3
    have e3 : H3 l3 = some (.lst (ns.map V.int ++ [.int 0])) := hH3 ▸ upd_same
    obtain ⟨c, hc⟩ : ∃ c : Int, (ns.map V.int ++ [V.int 0])[0]? = some (.int c) := by
      cases ns with
      | nil => exact ⟨0, rfl⟩
      | cons x ns => exact ⟨x, rfl⟩
    refine ⟨l3, _, 0, .int c, rfl, rfl, SqL.of e3, atI_nat (j := 0) hc, .inl ⟨c, rfl, c, rfl, ?_⟩⟩
    generalize hz : (if c < 0 then -c else c) = z
    have hz0 : 0 ≤ z := by
      rw [← hz]
      split <;> omega
    refine ⟨_, rfl, 10, 18, rfl, rfl, ⟨by decide, by decide, by decide⟩, _, _, rfl, rfl, _, rfl, ?_⟩
    have hw : 0 ≤ (z * 283 + 10337) % 2147481317 := Int.emod_nonneg _ (by decide)
    have fin : ∀ (y : Int), 0 ≤ y → ∀ l4, H3 l4 = none → Q (.ref l4) (upd H3 l4 (.lst [.int y, .int ((z * 283 + 10337) % 2147481317 + 1)])) := fun y hy l4 n4 => q _ l4 (((s1.trans s2).trans s3).trans (same_upd n4)) ⟨y, _, upd_same, hy, by omega⟩
    refine ite2 (fun e => ?_) (fun e => ?_)
    · exact ⟨_, rfl, _, rfl, z, 283, rfl, rfl, .inr ⟨by decide, by decide⟩, _, 10337, rfl, rfl, .inl ⟨_, rfl, _, 2147481317, rfl, rfl, (show (0 : Int) < 2147481317 by decide), _, 1, rfl, rfl, few2, fun l4 n4 => fin z hz0 l4 n4⟩⟩
    · exact ⟨_, rfl, z, 283, rfl, rfl, .inr ⟨by decide, by decide⟩, _, 10337, rfl, rfl, .inl ⟨_, rfl, _, 2147481317, rfl, rfl, (show (0 : Int) < 2147481317 by decide), _, 1, rfl, rfl, few2, fun l4 n4 => fin 0 (Int.le_refl 0) l4 n4⟩⟩
theorem sc_scoop : FnScope ["_law_bucket_here", "_law_size_so", "_law_part", "_law_far_here"] ["_law_bucket_here", "_law_size_so"] (defScope (topS 37)) := C8.fnScope_by (by decide +kernel)
theorem c_scoop (T : Tx K mg) : C8.Cal P w K mg base 1 "_law_scoop" spScoop [] := by
  refine cal_of T.d_scoop (fun _ _ _ _ _ _ us hl => match us, hl with | [_, _], _ => rfl) sc_scoop (fun vs H Q E h => ?_) (fun f cdv A outer s H vs Q E hr h => ?_)
  · obtain ⟨l, m, rfl, _⟩ := h
    rfl
  · obtain ⟨l, m, rfl, ⟨a, b, e, ha, hb⟩, m0, m1, q⟩ := h
    refine ⟨_, pss_cons (ps_if (pt_cmpR op_gt (pe_ix ix_list (pv 0) pe_int (fun _ _ => rfl)) pe_int (nomark _))
        (pss_cons (ps_set (i := 2) sc_scoop.nd rfl (.inl rfl) (pe_op op_mod (pe_callTy call_int1 (by rfl) T.int_ (by decide +kernel) (pa_cons (pe_ix ix_list (pv 0) pe_int (fun _ _ => rfl)) pa_nil)) (pv 1)))
        (pss_cons (ps_asg (pe_op op_fdiv (pe_ix ix_list (pv 0) pe_int (fun _ _ => rfl)) (pv 1)) (pg_sub (pv 0) pe_int set_list))
        (pss_one (ps_ret (pv 2))))) pss_nil)
      (pss_cons (ps_asg (pe_op op_mod (pe_callTy call_int1 (by rfl) T.int_ (by decide +kernel) (pa_cons (pe_op op_add (pe_op op_mul (pe_ix ix_list (pv 0) pe_int (fun _ _ => rfl)) pe_int) pe_int) pa_nil)) pe_int) (pg_sub (pv 0) pe_int set_list))
      (pss_cons (ps_set (i := 3) sc_scoop.nd rfl (.inl rfl) (pe_op op_mod (pe_callTy call_int1 (by rfl) T.int_ (by decide +kernel) (pa_cons (pe_op op_mul (pe_ix ix_list (pv 0) pe_int (fun _ _ => rfl)) (pe_op op_add (pe_op op_fdiv (pe_ix ix_list (pv 0) pe_int (fun _ _ => rfl)) pe_int) pe_int)) pa_nil)) pe_int))
      (pss_one (ps_ret (pe_op op_mod (pe_callTy call_int1 (by rfl) T.int_ (by decide +kernel) (pa_cons (pe_op op_fdiv (pv 3) pe_int) pa_nil)) (pv 1)))))), ?_⟩
    refine ⟨.ref l, rfl, l, _, 0, .int a, rfl, rfl, SqL.of e, atI_nat (j := 0) rfl, a, 0, rfl, rfl, _, rfl, ite2 (fun e0 => ?_) (fun e0 => ?_)⟩
    · refine ⟨.ref l, rfl, l, _, 0, .int a, rfl, rfl, SqL.of e, atI_nat (j := 0) rfl, .inl ⟨a, rfl, .int m, rfl, a, m, rfl, rfl, m0, ?_⟩⟩
      refine ⟨.ref l, rfl, l, _, 0, .int a, rfl, rfl, SqL.of e, atI_nat (j := 0) rfl, .int m, rfl, a, m, rfl, rfl, ⟨m0, by omega⟩, .ref l, rfl, l, _, 0, 0, rfl, rfl, e, rfl, _, rfl, ?_⟩
      exact q _ _ sameD_upd ⟨a / m, b, upd_same, Int.ediv_nonneg ha (by omega), hb⟩ (Int.emod_nonneg _ (by omega)) (Int.emod_lt_of_pos _ m0)
    · refine ⟨.ref l, rfl, l, _, 1, .int b, rfl, rfl, SqL.of e, atI_nat (j := 1) rfl, b, 41011, rfl, rfl, .inr (by decide), _, 3331, rfl, rfl, .inl ⟨_, rfl, _, 2147481317, rfl, rfl, (show (0 : Int) < 2147481317 by decide), .ref l, rfl, l, _, 1, 1, rfl, rfl, e, rfl, ?_⟩⟩
      generalize hb' : (b * 41011 + 3331) % 2147481317 = b'
      have b0 : 0 ≤ b' := by rw [← hb']; exact Int.emod_nonneg _ (by decide)
      have b1 : b' < 2147481317 := by rw [← hb']; exact Int.emod_lt_of_pos _ (by decide)
      generalize hH2 : upd H l _ = H2
      have s2 : SameD l H H2 := hH2 ▸ sameD_upd
      have e2 : H2 l = some (.lst [.int a, .int b']) := by
        rw [← hH2, upd_same]
        show some (HO.lst [V.int a, V.int ((b * 41011 + 3331) % 2147481317)]) = _
        rw [hb']
      refine ⟨.ref l, rfl, l, _, 1, .int b', rfl, rfl, SqL.of e2, atI_nat (j := 1) rfl, .ref l, rfl, l, _, 1, .int b', rfl, rfl, SqL.of e2, atI_nat (j := 1) rfl, b', 37, rfl, rfl, ⟨by decide, by decide⟩, _, 127, rfl, rfl, b', _, rfl, rfl, .inl ⟨by omega, by omega⟩, .inl ⟨_, rfl, _, 2147481173, rfl, rfl, (show (0 : Int) < 2147481173 by decide), ?_⟩⟩
      exact ⟨_, rfl, _, 64, rfl, rfl, ⟨by decide, by decide⟩, .inl ⟨_, rfl, .int m, rfl, _, m, rfl, rfl, m0, q H2 _ s2 ⟨a, b', e2, ha, b0⟩ (Int.emod_nonneg _ (by omega)) (Int.emod_lt_of_pos _ m0)⟩⟩
end
end WO

set_option Elab.async false
set_option linter.all false
set_option maxRecDepth 100000
set_option maxHeartbeats 4000000
namespace WO
open PySem PySem.Spec PyProof.Rows L2 WOm
def spDrawn : Sp := fun vs H Q _ => ∃ (l : Addr) (n k : Nat) (nr : Bool), vs = [.ref l, .int n, .int k, .bl nr] ∧ Bk H l ∧ Few n ∧ k ≤ 100 ∧ ∀ H' p net, SameD l H H' → Bk H' l → NetAt H' p net → Fit n net → net.length ≤ k → Q (.ref p) H'
section
variable {P : Program} {w : World} {K : PySem.W.Frag} {mg : Str → Option Value} {base : Heap}
abbrev nDrawn : List Str := ["_law_bucket_here", "_law_size_so", "_law_long_so", "_law_near", "_law_found", "_law_turn", "_law_low", "_law_high"]
theorem sc_drawn : FnScope nDrawn ["_law_bucket_here", "_law_size_so", "_law_long_so", "_law_near"] (defScope (topS 38)) := C8.fnScope_by (by decide +kernel)
theorem c_drawn (T : Tx K mg) : C8.Cal P w K mg base 2 "_law_drawn_net" spDrawn [] := by
  refine cal_of T.d_drawn_net (fun _ _ _ _ _ _ us hl => match us, hl with | [_, _, _, _], _ => rfl) sc_drawn (fun vs H Q E h => ?_) (fun f cdv A outer s H vs Q E hr h => ?_)
  · obtain ⟨l, n, k, nr, rfl, _⟩ := h
    rfl
  · obtain ⟨l, n, k, nr, rfl, hb, hfew, hk, q⟩ := h
    obtain ⟨b1, b4⟩ := few_bd hfew
    refine ⟨_, pss_cons (ps_set (i := 4) sc_drawn.nd rfl (.inl rfl) (pe_tup pa_nil))
      (pss_cons (ps_for PassesOwn.never rfl (pi_range1 (by rfl) T.range_ (pa_cons (pe_ifExp (pt_cmpR op_gt (pv 1) pe_int (nomark _)) (pv 2) pe_int) pa_nil)) (pg_name (i := 5) sc_drawn.nd rfl (.inl rfl))
        (pss_cons (ps_set (i := 6) sc_drawn.nd rfl (.inl rfl) (C8.pe_c (c_scoop T) hr (by decide) (by rfl) (pa_cons (pv 0) (pa_cons (pe_op op_sub (pv 1) pe_int) pa_nil))))
        (pss_cons (ps_set (i := 7) sc_drawn.nd rfl (.inl rfl) (pe_ifExp (pt_val (pv 3)) (pe_op op_add (pv 6) pe_int) (pe_op op_add (pe_op op_add (pv 6) pe_int) (C8.pe_c (c_scoop T) hr (by decide) (by rfl) (pa_cons (pv 0) (pa_cons (pe_op op_sub (pe_op op_sub (pv 1) pe_int) (pv 6)) pa_nil))))))
        (pss_one (ps_set (i := 4) sc_drawn.nd rfl (.inl rfl) (pe_op op_catS (pv 4) (pe_tup (pa_cons (pe_tup (pa_cons (pv 6) (pa_cons (pv 7) pa_nil))) pa_nil))))))))
      (pss_one (ps_ret (pv 4)))), ?_⟩
    refine ⟨few0, fun p0 n0 => ?_⟩
    generalize hH0 : upd H p0 _ = H0
    have s0 : Same H H0 := hH0 ▸ same_upd n0
    have e0 : H0 p0 = some (.tup []) := hH0 ▸ upd_same
    have net0 : NetAt H0 p0 [] := ⟨[], e0, rfl, fun i c h => by simp at h⟩
    refine ⟨.int n, rfl, n, 1, rfl, rfl, _, rfl, ite2 (fun e => ?_) (fun e => ?_)⟩
    · have hn2 : 2 ≤ n := by
        have : (1 : Int) < n := of_decide_eq_true e
        omega
      refine ⟨.int k, rfl, k, rfl, by omega, by omega, for_range (n := k) (lo := 0) (fun i σ H2 => ∃ (p : Addr) (net : List Cmp) (y5 y6 y7 : Option V), σ = [some (.ref l), some (.int n), some (.int k), some (.bl nr), some (.ref p), y5, y6, y7] ∧ SameD l H H2 ∧ Bk H2 l ∧ NetAt H2 p net ∧ Fit n net ∧ net.length ≤ i)
        ⟨p0, [], none, none, none, rfl, Same.d s0, hb.same s0, net0, fun c m => by simp at m, Nat.le_refl 0⟩ ?_ ?_⟩
      · rintro i σ H2 hi ⟨p, net, y5, y6, y7, rfl, s2, b2, hp, hf, hl⟩
        refine ⟨.ref l, rfl, .int n, rfl, n, 1, rfl, rfl, l, (n : Int) - 1, rfl, b2, by omega, by omega, fun H3 lo s3 b3 r0 r1 => ?_⟩
        have t3 := b2.tps s3
        have step : ∀ (h : Int) (H4 : Hp), SameD l H3 H4 → Bk H4 l → lo < h → h < n → ∀ (Nx : L2.St → Hp → Prop), (∀ (p : Addr) (net : List Cmp) H5, SameD l H H5 → Bk H5 l → NetAt H5 p net → Fit n net → net.length ≤ i + 1 → Nx [some (.ref l), some (.int n), some (.int k), some (.bl nr), some (.ref p), some (.int (0 + i)), some (.int lo), some (.int h)] H5) →
            ∃ v, [some (V.ref l), some (.int n), some (.int k), some (.bl nr), some (.ref p), some (.int (0 + i)), some (.int lo), some (.int h)][4]? = some (some v) ∧ ∃ v1, [some (V.ref l), some (.int n), some (.int k), some (.bl nr), some (.ref p), some (.int (0 + i)), some (.int lo), some (.int h)][6]? = some (some v1) ∧ ∃ v2, [some (V.ref l), some (.int n), some (.int k), some (.bl nr), some (.ref p), some (.int (0 + i)), some (.int lo), some (.int h)][7]? = some (some v2) ∧ [v1, v2].length ≤ sizeLine ∧ ∀ p1, H4 p1 = none →
              [V.ref p1].length ≤ sizeLine ∧ ∀ p2, upd H4 p1 (.tup [v1, v2]) p2 = none → rCatS v (.ref p2) (upd (upd H4 p1 (.tup [v1, v2])) p2 (.tup [.ref p1])) fun x H5 => Nx ([some (V.ref l), some (.int n), some (.int k), some (.bl nr), some (.ref p), some (.int (0 + i)), some (.int lo), some (.int h)].set 4 (some x)) H5 := by
          intro h H4 s4 b4' h1 h2 Nx kk
          refine ⟨.ref p, rfl, .int lo, rfl, .int h, rfl, few2, fun p1 n1 => ⟨few1, fun p2 n2 => ?_⟩⟩
          have t4 := b3.tps s4
          generalize hH5 : upd H4 p1 _ = H5 at n2 ⊢
          have s5 : Same H4 H5 := hH5 ▸ same_upd n1
          have e5 : H5 p1 = some (.tup [.int lo, .int h]) := hH5 ▸ upd_same
          generalize hH6 : upd H5 p2 _ = H6
          have s6 : Same H5 H6 := hH6 ▸ same_upd n2
          have e6 : H6 p2 = some (.tup [.ref p1]) := hH6 ▸ upd_same
          have hp6 : NetAt H6 p net := ((hp.keep t3).keep t4).keep (Same.tps (s5.trans s6))
          have hc : CmpAt H6 p1 (lo.toNat, h.toNat) := by
            refine Eq.trans (s6 _ _ e5) ?_
            show some (HO.tup [V.int lo, V.int h]) = some (HO.tup [V.int ((lo.toNat : Nat) : Int), V.int ((h.toNat : Nat) : Int)])
            rw [Int.toNat_of_nonneg r0, Int.toNat_of_nonneg (by omega)]
          have hq : NetAt H6 p2 [(lo.toNat, h.toNat)] := ⟨[p1], e6, rfl, fun i3 c' h => by
            cases i3 with
            | zero =>
              obtain rfl := Option.some.inj h
              exact ⟨p1, rfl, hc⟩
            | succ i3 => simp at h⟩
          refine cat_nets hp6 hq (by show _ + 1 ≤ _; omega) fun H7 c s7 hc7 => ?_
          have s47 := (s5.trans s6).trans s7
          refine kk c _ H7 (((s2.trans s3).trans s4).trans (Same.d s47)) (b4'.same s47) hc7 (fit_app hf fun c' m => ?_) (by rw [List.length_append]; show _ + 1 ≤ _; omega)
          rw [List.mem_singleton.mp m]
          exact ⟨by show lo.toNat < h.toNat; omega, by show h.toNat < n; omega⟩
        refine ⟨.bl nr, rfl, nr, rfl, ?_⟩
        cases nr with
        | true =>
          refine iteT ⟨.int lo, rfl, lo, 1, rfl, rfl, ?_⟩
          exact step (lo + 1) H3 (SameD.refl _ _) b3 (by omega) (by omega) _ fun p net H5 a1 a2 a3 a4 a5 => ⟨p, net, _, _, _, rfl, a1, a2, a3, a4, a5⟩
        | false =>
          refine iteF ⟨.int lo, rfl, lo, 1, rfl, rfl, .ref l, rfl, .int n, rfl, n, 1, rfl, rfl, .int lo, rfl, (n : Int) - 1, lo, rfl, rfl, l, (n : Int) - 1 - lo, rfl, b3, by omega, by omega, fun H4 r s4 b4' r0' r1' => ⟨lo + 1, r, rfl, rfl, ?_⟩⟩
          exact step (lo + 1 + r) H4 s4 b4' (by omega) (by omega) _ fun p net H5 a1 a2 a3 a4 a5 => ⟨p, net, _, _, _, rfl, a1, a2, a3, a4, a5⟩
      · rintro σ H2 ⟨p, net, y5, y6, y7, rfl, s2, b2, hp, hf, hl⟩
        exact ⟨.ref p, rfl, q H2 p net s2 b2 hp hf hl⟩
    · refine ⟨0, rfl, by decide, by decide, for_range (n := 0) (lo := 0) (fun i σ H2 => σ = [some (.ref l), some (.int n), some (.int k), some (.bl nr), some (.ref p0), none, none, none] ∧ H2 = H0) ⟨rfl, rfl⟩ (fun i σ H2 h => absurd h (Nat.not_lt_zero _)) ?_⟩
      rintro σ H2 ⟨rfl, rfl⟩
      exact ⟨.ref p0, rfl, q H2 p0 [] (Same.d s0) (hb.same s0) net0 (fun c m => by simp at m) (Nat.zero_le _)⟩
end
end WO

set_option Elab.async false
set_option linter.all false
set_option maxRecDepth 100000
set_option maxHeartbeats 4000000
namespace WO
open PySem PySem.Spec PyProof.Rows L2 WOm
/-! ### TooMany's __init__ -/
def tmDef : Stmt := match topS 9 with
  | .ClassDef _ _ _ b _ _ _ _ _ _ _ => b.getD 0 (.Pass ⟨0, 0, 0, 0⟩)
  | _ => .Pass ⟨0, 0, 0, 0⟩
abbrev tmArgs : Arguments := defArgs tmDef
abbrev tmBody : List Stmt := defBody tmDef
abbrev tmScope : Scope := defScope tmDef
/-- what the head tells of the class at C: its __init__ at f, the code object at cd, the cell at cc -/
structure TmC (P : Program) (K : PySem.W.Frag) (C f cc cd : Addr) : Prop where
  T : OexC K C
  no : PySem.W.findIn K (.ref C) "limit" = some none
  iC : PySem.W.findIn K (.ref C) "__init__" = some (some (.ref f))
  tI : PySem.W.typeIn K (.ref f) = some (.type "function")
  lk : ∃ oc od osl kV doc pm an ct, K.lookup f = some ⟨oc, od, .func (PySem.W.ksFn "__init__" "TooMany.__init__" tmArgs tmBody tmScope .none kV doc pm an (.ref cd) ct cc), osl⟩
  code : PySem.W.codeIn K (.ref cd) "TooMany.__init__" = true
  file : ∃ ccl cdd vs ccs fl tf, K.lookup cd = some ⟨ccl, cdd, .fields vs, ccs⟩ ∧ vs[2]? = some (.str fl tf) ∧ ((P.main.file : Str) == fl) = true
  cell : ∃ cl cld csl, K.lookup cc = some ⟨cl, cld, .cell (some (.ref C)), csl⟩
  any : PySem.W.nsIn K cStatics "thirdparty.any" = some none
  sup : PySem.W.ks_superIn K C C "__init__" = some (some (.builtin "ValueError.__init__"))
  subB : PySem.W.subIn K (.ref C) (.type "ValueError") = some true
  mroC : PySem.W.mroIn K C (.ref C) = some true
theorem tms_cell : ∀ x ∈ tmScope.names, x.2 ≠ .cell := by decide +kernel
theorem tms_self : tmScope.names.lookup ("self" : Str) = some .local := by decide +kernel
theorem tms_limit : tmScope.names.lookup ("limit" : Str) = some .local := by decide +kernel
theorem tms_super : tmScope.names.lookup ("super" : Str) = some .globalImplicit := by decide +kernel
theorem tms_class : tmScope.names.lookup ("__class__" : Str) = some .free := by decide +kernel
theorem tms_co : tmScope.isCoroutine = false := by decide +kernel
theorem tms_gen : tmScope.isGenerator = false := by decide +kernel
theorem tms_kind : tmScope.kind = .function := by decide +kernel
section
variable {P : Program} {w : World} {K : PySem.W.Frag} {mg : Str → Option Value} {base : Heap}
/-- the bound ValueError.__init__ called: the arguments are laid anew -/
theorem tm_wrap {C a b t0 : Addr} {A : Around} {us : List Value} {Q : Value → Shared → Prop} {E : Value → Shared → Prop} {hp : Heap} {g : Array GenState} {d : Drawn} {t : Nat} {os : OsState} (T : OexC K C) (X : K.In hp) (ha : hp.get? a = some (PySem.HandSPX.excO C t0)) (hb : hp.get? b = some (PySem.W.kxs_mw "ValueError.__init__" a)) (hz : us.length ≤ sizeLine)
    (h : ∀ h' t1, (∀ c o, c ≠ a → hp.get? c = some o → h'.get? c = some o) → h'.get? a = some (PySem.HandSPX.excO C t1) → Q .none ⟨h', g, d, t, os⟩) : wpAny (model P w) A (call (.ref b) us) Q E ⟨hp, g, d, t, os⟩ := by
  obtain ⟨nm, q, N, bs, bm, sn, sub, ab, col, dd, k0, k1, k2, k3, k5, hC, hbm⟩ := T.cls
  have hC' := X _ _ hC
  refine wpAny_call (codeAny_of_tree ?_)
  show wpAny _ A.in1 (callAny (.ref b) ⟨us, []⟩) _ _ _
  simp only [callAny]
  refine wpAny_bind (wpAny_load hb ?_)
  simp only [PySem.W.kxs_mw, show (Value.type "method-wrapper" == Value.type "method" || Value.type "method-wrapper" == Value.type "builtin_function_or_method" || Value.type "method-wrapper" == Value.type "method-wrapper") = true by decide, if_true]
  refine PySem.W.KFB.if_so (by decide) ?_
  refine wpAny_bind (PySem.ESX.check_bound F.excBase_ValueError hC' ha rfl ?_)
  refine wpAny_bind (wpAny_pure (wpAny_pure ?_))
  refine ⟨plainId_quiet F.excBase_ValueError.init.plain _, codeAny_builtin F.excBase_ValueError.initEntry ?_⟩
  rw [Around.under_plainId F.excBase_ValueError.init.plain _]
  refine PySem.W.exc_init_tree (cls := .ref C) (t0 := t0) (dv := none) (c2 := .none) (c3 := .none) (b4 := .bool false) ha hz fun h' k1 k2 _ => ?_
  exact h h' _ k1 k2
theorem tm_init {C f cc cd a t0 : Addr} {A : Around} {u : Value} {s : Shared} {R : Result → Shared → Prop} (T : TmC P K C f cc cd) (MB : Mod K mg base) (hm : mg "super" = none) (kb : ∀ b o, base.get? b = some o → s.heap.get? b = some o) (na : base.get? a = none)
    (hd : A.depth < recursionLimit) (htop : (P.main.scope.names.lookup ("super" : Str)).isSome = false) (ha : s.heap.get? a = some (PySem.HandSPX.excO C t0))
    (h : ∀ s', (∀ b o, b ≠ a → s.heap.get? b = some o → s'.heap.get? b = some o) → (∃ dx t1 : Addr, s'.heap.get? a = some ({ cls := .ref C, dict := some dx, data := .fields #[.ref t1, .none, .none, .none, .bool false, .none] } : Obj) ∧ s.heap.objs.size ≤ dx ∧ dx ≠ a ∧ s'.heap.Ns1 dx (fun y => if y = ("limit" : Str) then some u else none)) → s'.gens = s.gens → s'.os = s.os → R (.ok (.ret .none)) s') :
    codeAny (model P w) A (.call (.ref f) ⟨[.ref a, u], []⟩) R s := by
  obtain ⟨oc, od, osl, kV, doc, pm, an, ct, lk⟩ := T.lk
  obtain ⟨ccl, cdd, vs, ccs, fl, tf, lk2, hvs, hfile⟩ := T.file
  obtain ⟨cl, cld, csl, lk3⟩ := T.cell
  obtain ⟨nm, q, N, bs, bm, sn, sub, ab, col, dd, k0, k1, k2, k3, k5, hC, hbm⟩ := T.T.cls
  have X : K.In s.heap := MB.kin.keeps kb
  have G : s.heap.Ns mainGlobals mg := MB.glob.keeps kb
  have hl : s.heap.NoLimit := MB.nolimit.keeps kb
  obtain ⟨mb, B1, B2⟩ := MB.blt
  refine ks_codeAny_call_defAt (fd := PySem.W.ksFn "__init__" "TooMany.__init__" tmArgs tmBody tmScope .none kV doc pm an (.ref cd) ct cc) (body := tmBody) (binds := [("self", .ref a), ("limit", u)]) hd (X _ _ lk) rfl hl (PySem.W.codeRec_of X T.code) rfl (BindsTo.of_eq rfl) tms_cell (by
    intro x hx
    rcases List.mem_cons.mp hx with e | hx
    · rw [e]; exact tms_self
    · rw [List.mem_singleton.mp hx]; exact tms_limit) (fun h0 hns kp => ?_) tms_co tms_gen tms_kind
  have X0 : K.In h0 := X.keeps kp
  have hC0 := X0 _ _ hC
  have ha0 := kp _ _ ha
  have hcd : PySem.W.clsIn K C = some { name := nm, bases := bs, mro := .ref C :: bm, ns := N, qualname := q, hasDict := true, slotNames := sn, subclasses := sub, abstract := ab, collection := col, hasDel := false } := by unfold PySem.W.clsIn; rw [hC] <;> rfl
  have IA : PySem.W.InstAt h0 a (PySem.HandSPX.excO C t0) C none := ⟨ha0, rfl, rfl, trivial⟩
  have hIa : PySem.W.Looks (model P w) h0 (isInstance (.ref a) (.type "ValueError")) true := IA.type.andThen (PySem.W.looks_subIn X0 T.subB)
  refine ks_wpAt_execs_cons (ks_wpAt_Expr_any (ks_wpAt_MethodCall (pl := _) (ks_wpAt_super_base (env := PySem.W.ksEnv "TooMany.__init__" tmScope s.heap.objs.size f (.ref cd) cc) tms_super tms_class (by decide) rfl (X0 _ _ lk) rfl rfl rfl (X0 _ _ lk2) rfl hvs hfile htop ?_)))
  refine PySem.W.ks_loadName_global tms_kind tms_super (PySem.Calls.loadGlobal_builtin (G.keeps kp) hm ((B1.keeps kb).keeps kp) ((B2 _ (by decide +kernel)).trans rfl) ⟨rfl, ?_⟩)
  refine wpAny_loadName_free tms_kind tms_class rfl ⟨_, X0 _ _ lk3, rfl⟩ ?_
  refine wpAny_loadName_local tms_kind tms_self hns rfl ?_
  refine ks_wpAny_isType_cls hC0 rfl ⟨rfl, ?_⟩
  refine ks_wpAny_call_super hC0 rfl ha0 rfl (fun c e => by cases e) (PySem.W.looks_mroIn X0 T.mroC) (fun h1 hso k1 => ?_)
  have X1 : K.In h1 := X0.keeps k1
  have hf := T.sup
  unfold PySem.W.ks_superIn at hf
  rw [hcd] at hf
  have sub1 : ∀ {b o}, h0.get? b = some o → h1.get? b = some o := fun {b o} e => k1 b o e
  refine PySem.W.kxs_getMethod PySem.W.kxs_ValueError hso (PySem.W.looks_opaque X1 T.any) (l₀ := .ref C :: bm) (fun A Q E s k q => wpAny_bind ((PySem.W.looks_clsIn X1 hcd) A _ E s k (wpAny_pure q))) rfl X1 hf (hIa.keeps k1) (PySem.W.ks_ne X0 IA hcd) (by decide) ?_
  have k2 : ∀ b o, h1.get? b = some o → (h1.push (PySem.W.kxs_mw "ValueError.__init__" a)).get? b = some o := fun b o e => Heap.get?_push_of_some _ e
  refine PySem.W.kxs_callWith (i := "ValueError.__init__") (x := a) rfl ?_
  refine PySem.Calls.evalArgs_plain (Calls.spliced_cons (Calls.Constant_str (k := 0) (pos := ⟨21, 25, 21, 35⟩) (Calls.spliced_nil ⟨Heap.get?_push_size h1 rfl, ?_⟩)))
  refine tm_wrap T.T (X1.keeps k2) (k2 _ _ (k1 _ _ ha0)) (Heap.get?_push_size h1 rfl) few1 fun h3 t1 k3 ha3 => ?_
  have k13 : ∀ b o, b ≠ a → h0.get? b = some o → h3.get? b = some o := fun b o n e => k3 b o n (k2 b o (k1 b o e))
  have kb3 : ∀ b o, base.get? b = some o → h3.get? b = some o := fun b o e => k13 b o (fun z => by rw [z, na] at e; cases e) (kp _ _ (kb _ _ e))
  have X3 : K.In h3 := MB.kin.keeps kb3
  obtain ⟨oL, esL, epL, hoL, hrL⟩ := hns
  have nLa : s.heap.objs.size ≠ a := Nat.ne_of_gt (Heap.lt_size ha)
  have hns3 : h3.Ns s.heap.objs.size (fun x => [(("self" : Str), Value.ref a), ("limit", u)].reverse.lookup x) := ⟨oL, esL, epL, k13 _ _ nLa hoL, hrL⟩
  refine ks_wpAt_execs_cons (ks_wpAt_Assign_Attr (wpAt_of_wpAny (PySem.ESX.ldL hns3 rfl (PySem.ESX.ldL hns3 rfl ?_ tms_kind tms_self) tms_kind tms_limit)))
  refine PySem.W.set_plain X3 (ox := PySem.HandSPX.excO C t1) (od := none) ⟨ha3, rfl, rfl, trivial⟩ T.T.sa ?_
  refine PySem.HandSPX.exc_osa X3 ha3 hcd (show PySem.HandSPX.refsVE (.ref C :: bm) = true from hbm) rfl T.no (fun h' tk' dx k dn dne hx hn => ?_)
  refine wpAt_of_wpAny (wpAny_execs_nil ?_)
  exact h _ (fun b o n e => k b o n (k13 b o n (kp b o e))) ⟨dx, t1, hx, Nat.le_trans (Nat.le_of_lt (Heap.lt_size (k13 _ _ nLa hoL))) dn, dne, hn⟩ rfl rfl
end
theorem vals1' {v : V} {u : Value} (r : Vals [v] [u]) : RelV v u := by
  cases r with
  | cons a b => exact a
/-- the rule TmRule of the head's facts -/
theorem tm_rule {P : Program} {w : World} {K : PySem.W.Frag} {mg : Str → Option Value} {base : Heap} {f cc cd : Addr} (T : TmC P K (He.ga K "TooMany") f cc cd) (hC : mg "TooMany" = some (.ref (He.ga K "TooMany"))) (hm : mg "super" = none) (htop : (P.main.scope.names.lookup ("super" : Str)).isSome = false) : TmRule P w K mg base := by
  rintro X rfl rfl rfl rfl rfl hcalm hr hg p pos e te he hstar pins s σ H Q I h
  obtain ⟨nm, q, N, bs, bm, sn, sub, ab, col, dd, k0, k1, k2, k3, k5, hK, hbm⟩ := T.T.cls
  refine wpAny_Call_Name_kw (ld_glob I hg hC ?_ (by decide))
  have ha : PA X [e] (tCons te tNil) := pa_cons he pa_nil (hs := hstar)
  refine PySem.W.callWith_K (h₀ := X.base) I.ok.mod.kin T.T.kC (thn (ha.run pos pins s σ H (fun vs H1 => match vs with
    | [v] => ∃ i, v = V.int i ∧ ∀ (H' : Hp) (d : Addr), Same H1 H' → XdAt H' d → Q (.ref (He.ga X.K "TooMany")) (some d) H'
    | _ => False) I h) fun us s1 hh => ?_) hstar (by rfl)
  obtain ⟨vs, H1, I1, r1, q1⟩ := hh
  match vs, us, r1, q1 with
  | [v], [u], r1, q1 =>
    obtain ⟨i, rfl, q⟩ := q1
    refine ⟨I1.kIn, ?_⟩
    show wpAny _ _ (call (.ref (He.ga X.K "TooMany")) [u]) _ _ _
    obtain ⟨hp, g, dr, tk, os⟩ := s1
    have hsz : hp.objs.size ≤ hp.objs.size + 1 := Nat.le_succ _
    have kk : ∀ b o, hp.get? b = some o → ((hp.push (PySem.W.kdv_tup [u])).push (PySem.HandSPX.excO (He.ga X.K "TooMany") hp.objs.size)).get? b = some o := fun b o e => Heap.get?_push_of_some _ (Heap.get?_push_of_some _ e)
    have hget : ((hp.push (PySem.W.kdv_tup [u])).push (PySem.HandSPX.excO (He.ga X.K "TooMany") hp.objs.size)).get? (hp.objs.size + 1) = some (PySem.HandSPX.excO (He.ga X.K "TooMany") hp.objs.size) := by heap_get
    have gone : hp.get? (hp.objs.size + 1) = none := Heap.get?_none_of_le hsz
    have nb : X.base.get? (hp.objs.size + 1) = none := by
      cases z : X.base.get? (hp.objs.size + 1) with
      | none => rfl
      | some o =>
        have y := I1.bk _ _ z
        rw [gone] at y
        cases y
    refine wpAny_call (PySem.HandSPX.call_own F.excBase_ValueError (fun Y => PySem.HandSPX.refsVE_contains Y bm hbm) (I1.kIn _ _ hK) (PySem.W.looks_findIn I1.kIn T.iC) (fun self => PySem.W.bind_fn I1.kIn self T.tI) few1 (tm_init (t0 := hp.objs.size) T I1.mod hm (fun b o e => kk b o (I1.bk b o e)) nb (hr.make _ _ _).depth htop hget fun s' k3 hx hg3 ho3 => ?_))
    obtain ⟨dx, t1, hx, dn, dne, hns⟩ := hx
    have dn2 : hp.objs.size ≤ dx := Nat.le_trans (Nat.le_of_lt (by rw [Heap.size_push, Heap.size_push]; omega)) dn
    obtain ⟨G, g1, g2⟩ := restrict s'.heap fun b => decide (b ≠ hp.objs.size + 1)
    have gk : ∀ b, b ≠ hp.objs.size + 1 → G.get? b = s'.heap.get? b := fun b hb => g1 b (decide_eq_true hb)
    have ga : G.get? (hp.objs.size + 1) = none := g2 _ (by simp)
    have lt : ∀ b o, hp.get? b = some o → b ≠ hp.objs.size + 1 := fun b o e z => by rw [z, gone] at e; cases e
    have J := I1.laid (t' := s'.toks) (a := dx) (o := .xd [(("limit" : Str), V.int i)]) (h' := G) (fun b o e => (gk b (lt b o e)).trans (k3 b o (lt b o e) (kk b o e))) dn2 (show ObjOk X.prog X.w _ G dx (.xd [(("limit" : Str), V.int i)]) from
      ⟨_, hns.at fun o y => (gk dx dne).trans y, relO_put (fs := []) (mA := fun _ => none) (vals1' r1) fun g => trivial⟩)
    have Hdx : H1 dx = none := I1.hok.fresh dn2
    refine ⟨rfl, hp.objs.size + 1, _, _, ⟨G, g, dr, s'.toks, os⟩, _, .ref (He.ga X.K "TooMany"), some dx, rfl, J, fun b o e => ?_, ga, hx, ⟨rfl, rfl, ?_⟩, rfl, rfl, ?_, ho3, ?_, raises_own T.T.exC T.T.tyC, q _ dx (same_upd Hdx) ⟨_, upd_same⟩⟩
    · by_cases hb : b = hp.objs.size + 1
      · rw [hb, ga] at e
        cases e
      · exact (gk b hb).symm.trans e
    · intro vs e
      have e2 := Data.fields.inj e
      rw [← e2]
      rfl
    · rw [upd_ne (Ne.symm dne)]
      exact I1.hok.fresh hsz
    · have y : s'.gens = g := hg3
      rw [y]
      exact I1.bare
end WO

set_option Elab.async false
set_option linter.all false
set_option maxRecDepth 100000
set_option maxHeartbeats 4000000
namespace WO
open PySem PySem.Spec PyProof.Rows L2 WOm
/-! ### ends of iterators where an exception is handled -/
section
variable {prog : Program} {w : World} {A : Around} {E : Value → Shared → Prop}
/-- a StopIteration is raised there -/
theorem stop_hot {α : Type} {x1 : Addr} {s : Shared} {Q : α → Shared → Prop} (hot : HotX.HotAt A x1 s.heap) (fin : ∀ h' e, (∀ b o, s.heap.get? b = some o → h'.get? b = some o) → (∃ o, h'.get? e = some o ∧ o.cls = .type "StopIteration") → E (.ref e) { s with heap := h' }) :
    wpAny (model prog w) A (newExc (.type "StopIteration") [] >>= fun e => (raiseNew e : Sem α)) Q E s := by
  obtain ⟨hh, o1, v1, g1, d1, c1⟩ := hot
  have keep : ∀ {b o}, s.heap.get? b = some o → ((s.heap.push { cls := .type "tuple", data := .seq #[] }).push { cls := .type "StopIteration", data := .fields #[.ref s.heap.objs.size, .none, .none, .none, .bool false, .none, .none] }).get? b = some o := fun e => Heap.get?_push_of_some _ (Heap.get?_push_of_some _ e)
  refine wpAny_bind ?_; simp only [newExc, newTuple]; refine wpAny_bind (wpAny_newObj_type ?_ (by size_fits))
  refine wpAny_bind (m := firstArgMember _ _) (wpAny_of_eq (a := Value.none) (by first | rfl | (simp only [firstArgMember]; rfl)) (wpAny_newObj_type ?_ (by size_fits)))
  refine HotX.raiseNew_hot ⟨hh, o1, v1, Heap.get?_push_of_some _ (Heap.get?_push_of_some _ g1), d1, c1⟩ (Nat.ne_of_lt (Heap.lt_size (Heap.get?_push_of_some _ g1))) (Heap.get?_push_size _ rfl) rfl (by first | (simp; done) | (simp; omega) | (simp only [Array.size_append]; simp; omega)) (fin _ _ (fun b o e => ?_) ⟨_, Heap.get?_update_self _ (Heap.get?_push_size _ rfl) rfl, rfl⟩)
  rw [Heap.get?_update_other _ _ (Nat.ne_of_gt (Heap.lt_size (Heap.get?_push_of_some _ e)))]; exact Heap.get?_push_of_some _ (Heap.get?_push_of_some _ e)
theorem hot_keeps {x1 c : Addr} {h h' : Heap} (hot : HotX.HotAt A x1 h) (n : x1 ≠ c) (k : ∀ b o, b ≠ c → h.get? b = some o → h'.get? b = some o) : HotX.HotAt A x1 h' := by
  obtain ⟨hh, o1, v1, g1, r⟩ := hot
  exact ⟨hh, o1, v1, k _ _ n g1, r⟩
theorem hot_in1 {x1 : Addr} {h : Heap} (hot : HotX.HotAt A x1 h) : HotX.HotAt A.in1 x1 h := hot
/-- a list's iterator, at its end -/
theorem list_end_hot {it l x1 : Addr} {i : Nat} {its : Array Value} {s : Shared} {Q : Value → Shared → Prop} (hot : HotX.HotAt A x1 s.heap) (nx : x1 ≠ it) (hit : s.heap.IsListIter it l i) (hl : s.heap.IsList l its) (hx : its[i]? = none)
    (fin : ∀ h' e, Heap.ExtBut it s.heap h' → (∃ o, h'.get? e = some o ∧ o.cls = .type "StopIteration") → E (.ref e) { s with heap := h' }) : wpAny (model prog w) A (Builtin.SmallTypes.nextOf (.ref it)) Q E s := by
  obtain ⟨o, ho, hc, hd⟩ := id hit
  obtain ⟨ol, hol, _, nl, hdl⟩ := hl
  unfold Builtin.SmallTypes.nextOf; refine wpAny_bind (wpAny_callSpecial?_slot (name := Str.ofString "__next__") hit.typeIs slot_listiter_next (wpAny_call_entry slot_listiter_next hit.typeIs entry_listiter_next ?_ (args_listiter_next _)))
  show wpAny _ _ (field (.ref it) 0 >>= _) _ _ s; refine wpAny_bind (wpAny_field ho hd (x := .ref l) rfl ?_)
  show wpAny _ _ (if (Value.ref l == Value.none) = true then _ else _) _ _ s; rw [if_neg (show ¬ ((Value.ref l == Value.none) = true) from Bool.false_ne_true)]
  show wpAny _ _ (field (.ref it) 1 >>= _) _ _ s; refine wpAny_bind (wpAny_field ho hd (x := .int i 0) rfl ?_)
  show wpAny _ _ (seqItems? (.ref l) >>= _) _ _ s; refine wpAny_bind (wpAny_seqItems hol hdl ?_); simp only [Int.toNat_natCast, hx]
  refine wpAny_bind (wpAny_rule (wpAny_bind (wpAny_setField ho hd (by simp) ?_)))
  have sb : Heap.SameBut it s.heap (s.heap.update it (Obj.mapFields (·.setIfInBounds 0 Value.none))) := Heap.SameBut.update ..
  refine stop_hot (x1 := x1) (hot_keeps (hot_in1 hot) nx fun b o n e => (sb.2 b n).trans e) fun h' e k he => fin h' e (fun b o n e => k b o ((sb.2 b n).trans e)) he
/-- zip of two lists, the first at its end -/
theorem zip_end_hot {z TI TO i1 i2 l1 l2 x1 : Addr} {k1 : Nat} {xs : Array Value} {a b : Value} {s : Shared} {Q : Option Value → Shared → Prop} (hot : HotX.HotAt A x1 s.heap) (n1 : x1 ≠ z) (n2 : x1 ≠ i1) (D : ZipApart z TI TO i1 i2 l1 l2) (hz : IsZip s.heap z TI TO .none) (hTI : IsPair s.heap TI (.ref i1) (.ref i2)) (hTO : IsPair s.heap TO a b)
    (h1 : s.heap.IsListIter i1 l1 k1) (hl1 : s.heap.IsList l1 xs) (hx : xs[k1]? = none) (fin : ∀ h', (∀ c o, c ≠ z → c ≠ i1 → s.heap.get? c = some o → h'.get? c = some o) → Q none { s with heap := h' }) : wpAny (model prog w) A (pyNext (.ref z)) Q E s := by
  have hT : s.TypeIs (.ref z) "zip" := ⟨_, hz, rfl⟩
  unfold pyNext; refine wpAny_bind (wpAny_attempt (wpAny_callSpecial?_slot (name := Str.ofString "__next__") hT F.slot_zip_next (wpAny_call_entry F.slot_zip_next hT F.entry_zip_next ?_ (F.args_zip_next_1 _))))
  show wpAny _ _ (field (.ref z) 2 >>= _) _ _ _; refine wpAny_bind (wpAny_field hz rfl (x := .bool false) rfl ?_)
  show wpAny _ _ (field (.ref z) 3 >>= _) _ _ _; refine wpAny_bind (wpAny_field hz rfl (x := .ref TI) rfl (wpAny_bind (wpAny_seqItems hTI rfl ?_)))
  show wpAny _ _ (Builtin.SmallTypes.ownedTupleIsFree (.ref z) >>= _) _ _ _; refine wpAny_bind ?_; unfold Builtin.SmallTypes.ownedTupleIsFree
  refine wpAny_bind (wpAny_field hz rfl (x := .none) rfl (wpAny_pure ?_)); simp only [if_true]; refine wpAny_bind (wpAny_rule (wpAny_bind (wpAny_field hz rfl (x := .ref TO) rfl (wpAny_bind (wpAny_setField_rec hz (by simp) fun h2 hz2 sb2 => ?_)))))
  replace hz2 : IsZip h2 z TI TO .ellipsis := hz2; refine wpAny_bind ?_; simp only [List.zipIdx_cons, List.zipIdx_nil, List.forIn_cons, List.forIn_nil]
  refine wpAny_bind (wpAny_bind (wpAny_onRaise ?_)); show wpAny _ _ (Builtin.SmallTypes.nextOf (.ref i1) >>= _) _ _ _
  have hot2 : HotX.HotAt A.in1 x1 h2 := hot_keeps (hot_in1 hot) n1 fun b o n e => (sb2.2 b n).trans e
  refine wpAny_bind (list_end_hot (A := _) (x1 := x1) hot2 n2 (h1.extBut sb2.extBut D.i1z) (hl1.extBut sb2.extBut D.l1z) hx fun h3 e k3 he => ?_)
  obtain ⟨oe, hoe, hce⟩ := he
  have hz3 : IsZip h3 z TI TO .ellipsis := k3 _ _ D.i1z.symm hz2
  have ne : e ≠ z := fun y => by rw [y, hz3] at hoe; cases hoe; simp at hce
  refine wpAny_setField_rec hz3 (by simp) fun h4 _ sb4 => ?_
  refine wpAny_bind (wpAny_isInstance (T := "StopIteration") (b := true) ⟨oe, sb4.extBut _ _ ne hoe, hce⟩ isSubtype_stop (wpAny_pure (fin _ fun c o c1 c2 y => sb4.extBut _ _ c1 (k3 _ _ c2 (sb2.extBut _ _ c1 y)))))
/-- a tuple's iterator, at its end -/
theorem tup_end_hot {it t x1 : Addr} {i : Nat} {its : Array Value} {s : Shared} {Q : Option Value → Shared → Prop} (hot : HotX.HotAt A x1 s.heap) (nx : x1 ≠ it) (hit : PyProof.Rows.IsTupIter s.heap it t i) (ht : PyProof.Rows.IsTup s.heap t its) (hx : its[i]? = none)
    (fin : ∀ h', Heap.ExtBut it s.heap h' → Q none { s with heap := h' }) : wpAny (model prog w) A (pyNext (.ref it)) Q E s := by
  obtain ⟨o, ho, hc, hd⟩ := id hit
  obtain ⟨ol, hol, _, nl, hdl⟩ := ht
  unfold pyNext; refine wpAny_bind (wpAny_attempt (wpAny_callSpecial?_slot (name := Str.ofString "__next__") hit.typeIs PyProof.Rows.slot_tupleiter_next (wpAny_call_entry PyProof.Rows.slot_tupleiter_next hit.typeIs PyProof.Rows.entry_tupleiter_next ?_ (PyProof.Rows.args_tupleiter_next _))))
  show wpAny _ _ (field (.ref it) 0 >>= _) _ _ s; refine wpAny_bind (wpAny_field ho hd (x := .ref t) rfl ?_)
  show wpAny _ _ (if (Value.ref t == Value.none) = true then _ else _) _ _ s; rw [if_neg (show ¬ ((Value.ref t == Value.none) = true) from Bool.false_ne_true)]
  show wpAny _ _ (field (.ref it) 1 >>= _) _ _ s; refine wpAny_bind (wpAny_field ho hd (x := .int i 0) rfl ?_)
  show wpAny _ _ (seqItems? (.ref t) >>= _) _ _ s; refine wpAny_bind (wpAny_seqItems hol hdl ?_); simp only [Int.toNat_natCast, hx]
  refine wpAny_bind (wpAny_rule (wpAny_bind (wpAny_setField ho hd (by simp) ?_)))
  have sb : Heap.SameBut it s.heap (s.heap.update it (Obj.mapFields (·.setIfInBounds 0 Value.none))) := Heap.SameBut.update ..
  refine stop_hot (x1 := x1) (hot_keeps (hot_in1 hot) nx fun b o n e => (sb.2 b n).trans e) fun h' e k he => ?_
  obtain ⟨oe, hoe, hce⟩ := he
  exact wpAny_bind (wpAny_isInstance (T := "StopIteration") (b := true) ⟨oe, hoe, hce⟩ isSubtype_stop (wpAny_pure (fin _ fun b o n e => k b o ((sb.2 b n).trans e))))
/-- (a, b) = a tuple of two -/
theorem unpack_hot {env : Env} {es : List Expr} {kk : Nat} {pos : Pos} {t x1 : Addr} {its : Array Value} {s : Shared} {Q : Unit → Shared → Prop} (hot : HotX.HotAt A x1 s.heap) (ht : PyProof.Rows.IsTup s.heap t its) (hn : (assignEach es env).length = its.size) (hst : (assignEach es env).findIdx? (·.1) = none)
    (fin : ∀ h', Heap.ExtBut s.heap.objs.size s.heap h' → wpAny (model prog w) A (assignInOrder ((assignEach es env).map (·.2)) its.toList) Q E { s with heap := h' }) : wpAny (model prog w) A (assign (.Tuple es kk pos) env (.ref t)) Q E s := by
  have nt : t ≠ s.heap.objs.size := by obtain ⟨o, ho, _⟩ := ht; exact Nat.ne_of_lt (Heap.lt_size ho)
  have nx : x1 ≠ s.heap.objs.size := by obtain ⟨_, o, _, ho, _⟩ := hot; exact Nat.ne_of_lt (Heap.lt_size ho)
  rw [PyProof.Rows.assign_Tuple]; refine wpAny_bind (wpAny_standAt ?_); unfold unpack; rw [hn, hst]; refine wpAny_bind (wpAny_holding ?_); unfold unpackItems; refine wpAny_bind ?_; unfold notIterableAtAll
  refine wpAny_bind (wpAny_specialOf ht.typeIs PyProof.Rows.slot_tuple_iter.lookup (wpAny_pure ?_)); simp only [Bool.false_eq_true, if_false]
  refine wpAny_bind (wpAny_holding (PyProof.Rows.iter_tuple ht (wpAny_bind (wpAny_holding (PyProof.Rows.draw_tuple nt its.size 0 _ _ ⟨_, Heap.get?_push_size _ rfl, rfl, rfl⟩ (ht.push _) (by omega) fun h2 it2 sb2 => ?_)))))
  have all_ : List.take its.size (List.drop 0 its.toList) = its.toList := by rw [List.drop_zero]; exact List.take_of_length_le (by simp)
  rw [all_, if_neg (by simp)]
  have ht2 : PyProof.Rows.IsTup h2 t its := (ht.push _).extBut sb2.extBut nt
  have hot2 : HotX.HotAt A x1 h2 := hot_keeps hot nx fun b o n e => sb2.extBut b o n (Heap.get?_push_of_some _ e)
  refine wpAny_bind (wpAny_holding (tup_end_hot hot2 nx it2 ht2 (by simp) fun h3 e3 => ?_)); simp only [Option.isSome_none, Bool.false_eq_true, if_false]
  exact wpAny_pure (fin h3 fun b o n e => e3 b o n (sb2.extBut b o n (Heap.get?_push_of_some _ e)))
end
end WO

set_option Elab.async false
set_option linter.all false
set_option maxRecDepth 100000
set_option maxHeartbeats 4000000
namespace WO
open PySem PySem.Spec PyProof.Rows L2 WOm
/-! ### a comprehension over zip of two lists, where an exception is handled -/
section
variable {X : Cx}
/-- what such a comprehension makes of its turns -/
def tLcz (K : PySem.W.Frag) (i j : Nat) (ta : TA) (tt : TT) (te : TE) : TE := fun σ H Q => ta σ H fun vs H1 => ∃ (a b : Addr) (xs ys : List V), vs = [.ref a, .ref b] ∧ SqL K H1 a xs ∧ SqL K H1 b ys ∧ xs.length = ys.length ∧ ∀ D, H1 D = none → ∃ Pv : Nat → Hp → Prop, Pv 0 (upd H1 D (.lst [])) ∧ (∀ k H, Pv k H → SqL K H a xs ∧ SqL K H b ys) ∧
  (∀ (k : Nat) (x y : V) (T : Addr) (H : Hp), xs[k]? = some x → ys[k]? = some y → Pv k H → H T = none → tt (((wipe σ [i, j]).set i (some x)).set j (some y)) (upd H T (.tup [x, y])) fun c H3 => if c = true then te (((wipe σ [i, j]).set i (some x)).set j (some y)) H3 fun z H4 => ∃ acc, H4 D = some (.lst acc) ∧ acc.length < sizeLine ∧ Pv (k + 1) (upd H4 D (.lst (acc ++ [z]))) else Pv (k + 1) H3) ∧
  ∀ H, Pv xs.length H → Q (.ref D) H
/-- the iterator's five objects -/
abbrev zipL (n : Addr) : List Addr := [n + 4, n + 2, n + 3, n, n + 1]
/-- where the walk of the two lists stands -/
def ZAt (h : Heap) (n a b : Addr) (k : Nat) : Prop := IsZip h (n + 4) (n + 2) (n + 3) .none ∧ IsPair h (n + 2) (.ref n) (.ref (n + 1)) ∧ (∃ x y, IsPair h (n + 3) x y) ∧ h.IsListIter n a k ∧ h.IsListIter (n + 1) b k
theorem ZAt.keep {h h' : Heap} {n a b : Addr} {k : Nat} (z : ZAt h n a b k) (kp : ∀ c ∈ zipL n, ∀ o, h.get? c = some o → h'.get? c = some o) : ZAt h' n a b k := by
  obtain ⟨z1, z2, ⟨x, y, z3⟩, z4, z5⟩ := z
  exact ⟨kp _ (by simp) _ z1, kp _ (by simp) _ z2, ⟨x, y, kp _ (by simp) _ z3⟩, z4.at fun o q => kp _ (by simp) o q, z5.at fun o q => kp _ (by simp) o q⟩
theorem ZAt.objs {h : Heap} {n a b : Addr} {k : Nat} (z : ZAt h n a b k) : ∀ c ∈ zipL n, ∃ o, h.get? c = some o ∧ ∀ v, o.data ≠ .cell v := by
  obtain ⟨z1, z2, ⟨x, y, z3⟩, ⟨o4, e4, _, d4⟩, ⟨o5, e5, _, d5⟩⟩ := z
  intro c hc
  have hc' : c = n + 4 ∨ c = n + 2 ∨ c = n + 3 ∨ c = n ∨ c = n + 1 := by simpa using hc
  rcases hc' with q | q | q | q | q <;> rw [q]
  · exact ⟨_, z1, fun v q => nomatch q⟩
  · exact ⟨_, z2, fun v q => nomatch q⟩
  · exact ⟨_, z3, fun v q => nomatch q⟩
  · exact ⟨o4, e4, fun v q => by rw [d4] at q; cases q⟩
  · exact ⟨o5, e5, fun v q => by rw [d5] at q; cases q⟩
theorem zip_mem {n c : Addr} (h : c ∈ zipL n) : n ≤ c ∧ c ≤ n + 4 := by
  have hc' : c = n + 4 ∨ c = n + 2 ∨ c = n + 3 ∨ c = n ∨ c = n + 1 := by simpa using h
  rcases hc' with q | q | q | q | q <;> rw [q]
  · exact ⟨Nat.le_add_right n 4, Nat.le_refl _⟩
  · exact ⟨Nat.le_add_right n 2, Nat.add_le_add_left (by decide : 2 ≤ 4) n⟩
  · exact ⟨Nat.le_add_right n 3, Nat.add_le_add_left (by decide : 3 ≤ 4) n⟩
  · exact ⟨Nat.le_refl n, Nat.le_add_right n 4⟩
  · exact ⟨Nat.le_add_right n 1, Nat.add_le_add_left (by decide : 1 ≤ 4) n⟩
theorem pe_lcz {p : Addr × Obj} {i j kk : Nat} {n1 n2 : Str} {e1 e2 elt : Expr} {ifs : List Expr} {scope : Scope} {q1 q2 tp zp zq pos : Pos} {ta : TA} {tt : TT} {te : TE} (hot : L2H.Hot1 X.A p) (hpn : p ∈ X.pn) (hN : X.N.Nodup) (hg : Gl X "zip") (hm : X.mg "zip" = none) (ha : PA X [e1, e2] ta)
    (ok : BlkOk X.N X.env.scope scope [(n1, i), (n2, j)]) (hpg : ∀ (s : Shared) (H : Hp) (C : Addr) (cl : List (Str × Addr)) (fp : List Addr), PGs (X.blk s H scope (compEnvC scope cl C X.env) fp) [.Name n1 q1, .Name n2 q2] (gCons (gName i) (gCons (gName j) gNil)))
    (ht : ∀ (s : Shared) (H : Hp) (C : Addr) (cl : List (Str × Addr)) (fp : List Addr), PTs (X.blk s H scope (compEnvC scope cl C X.env) fp) ifs tt) (he : ∀ (s : Shared) (H : Hp) (C : Addr) (cl : List (Str × Addr)) (fp : List Addr), PE (X.blk s H scope (compEnvC scope cl C X.env) fp) elt te)
    (hst : starEach [e1, e2] X.env = (false, eval e1 X.env) :: starEach [e2] X.env := by rfl) (hpl : (backTo zq (starEach [e2] X.env)).any (·.1) = false := by rfl) (hfd : ∀ x, foldedSetIterable (.Call (.Name "zip" zp) [e1, e2] [] zq) X.env x = pure x := by intro _; rfl) :
    PE X (.ListComp elt [⟨.Tuple [.Name n1 q1, .Name n2 q2] kk tp, .Call (.Name "zip" zp) [e1, e2] [] zq, ifs, 0⟩] scope pos) (tLcz X.K i j ta tt te) := by
  refine ⟨fun pins s σ H Q I h => ?_⟩
  have hfree : ∀ y ∈ scope.names, y.2 = .free → ∃ c, X.env.cells.lookup y.1 = some c := fun y hy e => (ok.free y hy e).elim (fun k => I.ok.has _ (.inl k)) (fun k => I.ok.has _ (.inr k))
  rw [eval_ListComp]
  refine wpAny_comprehension_free (use := none) rfl hfd (closure_ok hfree) ok.kind (fun y hy e => by rw [ok.uniq y hy, e]) ?_
  refine Call_ (ld_blt I hg hm PyProof.Rows.boot_zip (PyProof.Rows.callWith_type1 (thn (ha.run zq pins s σ H _ I h) fun us s1 ⟨vs, H1, I1, r1, w1⟩ => ?_) hst hpl))
  obtain ⟨a, b, xs, ys, rfl, hqx, hqy, hlen, w1⟩ := w1
  obtain ⟨ua, ub, rfl, ra, rb⟩ : ∃ ua ub, us = [ua, ub] ∧ ua = Value.ref a ∧ ub = Value.ref b := by
    cases r1 with
    | cons r rr => cases rr with
      | cons r' rr => cases rr; exact ⟨_, _, rfl, r, r'⟩
  subst ra rb
  obtain ⟨its, rv, pl1, _⟩ := I1.list hqx
  obtain ⟨its2, rv2, pl2, _⟩ := I1.list hqy
  have D0 := PySem.W.ktu_apart s1.heap.objs.size a b pl1.lt pl2.lt
  refine call_zip_2 pl1.isList pl2.isList fun h' hz hTI hTO hi1 hi2 hsz hk => wpAny_pyIter_zip hz ?_
  generalize hn0 : s1.heap.objs.size = n at *
  have Z0 : ZAt h' n a b 0 := ⟨hz, hTI, ⟨_, _, hTO⟩, hi1, hi2⟩
  have I2 : Inv X pins σ H1 { s1 with heap := h' } := I1.kept (t' := s1.toks) hk
  have fresh : ∀ c ∈ zipL n, FpOk X pins H1 c := fun c hc => I1.fpOk (by rw [hn0]; exact (zip_mem hc).1) (I1.hok.fresh (by rw [hn0]; exact (zip_mem hc).1))
  generalize hs2 : ({ s1 with heap := h' } : Shared) = s2 at I2
  have es2 : s2.heap = h' := by rw [← hs2]
  rw [← es2] at Z0
  refine wpAny_newObj_type (newEnv_comp ?_) (by show 0 ≤ sizeLine; decide)
  generalize hD : s2.heap.objs.size = D
  have hDn : H1 D = none := I2.hok.fresh (Nat.le_of_eq hD)
  obtain ⟨Pv, p0, pq, pstep, pend⟩ := w1 D hDn
  generalize hs3 : ({ s2 with heap := s2.heap.push { cls := .type "list", data := .seq ([] : List Value).toArray } } : Shared) = s3
  have es3 : s3.heap = s2.heap.push { cls := .type "list", data := .seq ([] : List Value).toArray } := by rw [← hs3]
  have I3 : Inv X pins σ (upd H1 D (.lst [])) s3 := by
    rw [← hs3]; refine I2.laid (t' := s2.toks) (fun _ _ e => Heap.get?_push_of_some _ e) (Nat.le_of_eq hD) ⟨Nat.zero_le _, [], 0, .nil, ?_⟩; rw [← hD]; exact Heap.get?_push_size _ rfl
  have Z3 : ZAt s3.heap n a b 0 := Z0.keep fun c _ o e => by rw [es3]; exact Heap.get?_push_of_some _ e
  generalize hH3 : upd H1 D (.lst []) = H3 at I3 p0
  have zlt : ∀ c ∈ zipL n, c < s3.heap.objs.size := fun c hc => (Z3.objs c hc).elim fun o ho => Heap.lt_size ho.1
  have z2lt : ∀ c ∈ zipL n, c < s2.heap.objs.size := fun c hc => (Z0.objs c hc).elim fun o ho => Heap.lt_size ho.1
  have f3 : ∀ c ∈ zipL n, FpOk X pins H3 c ∧ c < s3.heap.objs.size := fun c hc => ⟨⟨by rw [← hH3, upd_ne (by rw [← hD]; exact Nat.ne_of_lt (z2lt c hc))]; exact (fresh c hc).1, (fresh c hc).2⟩, zlt c hc⟩
  have I4 := block_start I3 ok hN f3
  have pt := ht s3 H3 s3.heap.objs.size (cellsFrom (s3.heap.objs.size + 1) scope.names (cloFrom X.env.cells scope.names [])) (zipL n)
  have pe := he s3 H3 s3.heap.objs.size (cellsFrom (s3.heap.objs.size + 1) scope.names (cloFrom X.env.cells scope.names [])) (zipL n)
  have pg := hpg s3 H3 s3.heap.objs.size (cellsFrom (s3.heap.objs.size + 1) scope.names (cloFrom X.env.cells scope.names [])) (zipL n)
  show codeAny _ _ (.compStart (.ListComp elt [⟨.Tuple [.Name n1 q1, .Name n2 q2] kk tp, .Call (.Name "zip" zp) [e1, e2] [] zq, ifs, 0⟩] scope pos) 0 (.ref (n + 4)) (.ref D) (compEnvC scope (cellsFrom (s3.heap.objs.size + 1) scope.names (cloFrom X.env.cells scope.names [])) s3.heap.objs.size X.env)) (compPost (model X.prog X.w) X.A X.xe none (EP X pins σ Q) (.ref D) s3.heap.objs.size) { s3 with heap := pushCells (s3.heap.push { cls := .type "dict", data := .dict #[] }) scope.names }
  have hn1 : (assignEach [Expr.Name n1 q1, .Name n2 q2] (compEnvC scope (cellsFrom (s3.heap.objs.size + 1) scope.names (cloFrom X.env.cells scope.names [])) s3.heap.objs.size X.env)).length = 2 := rfl
  have hn2 : (assignEach [Expr.Name n1 q1, .Name n2 q2] (compEnvC scope (cellsFrom (s3.heap.objs.size + 1) scope.names (cloFrom X.env.cells scope.names [])) s3.heap.objs.size X.env)).findIdx? (·.1) = none := rfl
  generalize hce : compEnvC scope (cellsFrom (s3.heap.objs.size + 1) scope.names (cloFrom X.env.cells scope.names [])) s3.heap.objs.size X.env = ce at I4 pt pe pg hn1 hn2 ⊢
  have cL : ce.locals = s3.heap.objs.size := by rw [← hce]; rfl
  generalize hs4 : ({ s3 with heap := pushCells (s3.heap.push { cls := .type "dict", data := .dict #[] }) scope.names } : Shared) = s4 at I4 ⊢
  have Z4 : ZAt s4.heap n a b 0 := Z3.keep fun c _ o e => by rw [← hs4]; exact pushCells_keeps _ _ _ _ (Heap.get?_push_of_some _ e)
  have pin3 := I3.pin p (List.mem_append_left _ hpn)
  have pst : p.1 ∉ frs X.stack := fun hm => (List.mem_cons.mp (I3.stkSub p.1 hm)).elim pin3.2.2.1 pin3.2.2.2.1
  have pz : p.1 ∉ zipL n := fun hm => (f3 _ hm).1.2.2.2.2.2 p (List.mem_append_left _ hpn) rfl
  have look : ∀ {σ' : L2.St} {H' : Hp} {s' : Shared}, Inv (X.blk s3 H3 scope ce (zipL n)) [] σ' H' s' → HotX.HotAt X.A p.1 s'.heap := fun {σ' H' s'} J => by
    obtain ⟨hh, v1, d1, c1⟩ := hot
    exact ⟨hh, p.2, v1, J.base.keep p.1 p.2 pin3.1 pin3.2.1 pst pz, d1, c1⟩
  have stat : ∀ {σ' : L2.St} {H' : Hp} {s' : Shared}, Inv (X.blk s3 H3 scope ce (zipL n)) [] σ' H' s' → (∀ c ∈ zipL n, H' c = none) → ∀ c ∈ zipL n, FpOk (X.blk s3 H3 scope ce (zipL n)) [] H' c := fun {σ' H' s'} J hn c hc =>
    ⟨hn c hc, (J.ok.exf c hc).1, J.ok.exfs c hc, .inl hc, fun x u e => (J.ok.exf c hc).2 x u e, fun q hq => absurd (show q ∈ ([] : List (Addr × Obj)) ++ [] from hq) (by simp)⟩
  have loop : codeAny (model X.prog X.w) X.A (.compLoop (.ListComp elt [⟨.Tuple [.Name n1 q1, .Name n2 q2] kk tp, .Call (.Name "zip" zp) [e1, e2] [] zq, ifs, 0⟩] scope pos) 0 (.ref (n + 4)) (.ref D) ce) (compPost (model X.prog X.w) X.A X.xe none (EP X pins σ Q) (.ref D) s3.heap.objs.size) s4 := by
    refine compLoop_any (fun m s' => ∃ k H', Inv (X.blk s3 H3 scope ce (zipL n)) [] (wipe σ [i, j]) H' s' ∧ ZAt s'.heap n a b k ∧ (∀ c ∈ zipL n, H' c = none) ∧ m = xs.length - k ∧ k ≤ xs.length ∧ Pv k H') ?_ xs.length ⟨0, H3, I4, Z4, fun c hc => (f3 c hc).1.1, rfl, Nat.zero_le _, p0⟩
    rintro m s5 ⟨k, H5, I5, Z5, n5, rfl, hk, p5⟩
    obtain ⟨qx, qy⟩ := pq k H5 p5
    obtain ⟨it5, rv5, pl5, _⟩ := I5.list qx
    obtain ⟨iu5, ru5, pu5, _⟩ := I5.list qy
    have hot5 := look I5
    obtain ⟨y1, y2, ⟨x0, y0, y3⟩, y4, y5⟩ := id Z5
    by_cases hlt : k < xs.length
    · have hx : xs[k]? = some xs[k] := List.getElem?_eq_getElem hlt
      have hy : ys[k]? = some (ys[k]'(by omega)) := List.getElem?_eq_getElem (by omega)
      generalize xs[k] = x at hx
      generalize ys[k]'(by omega) = y at hy
      obtain ⟨u, hu, ru⟩ := rv5.get hx
      obtain ⟨u2, hu2, ru2⟩ := ru5.get hy
      refine wpAny_pyNext_zip_item D0 y1 y2 y3 y4 y5 pl5.isList pu5.isList (x := u) (y := u2) (by simpa using hu) (by simpa using hu2) fun h6 z6 TO6 j1 j2 hT6 hsz6 k6 => ?_
      refine wpAny_letOwnedTupleGo_zip (s := { s5 with heap := h6 }) z6 fun h7 z7 sb7 => ?_
      have hzl : ∀ c ∈ zipL n, c < s5.heap.objs.size := fun c hc => (Z5.objs c hc).elim fun o ho => Heap.lt_size ho.1
      generalize hT : s5.heap.objs.size = T at *
      have mz : n + 4 ∈ zipL n := by simp
      have hT7 : h7.get? T = some { cls := .type "tuple", data := .seq #[u, u2] } := (sb7.2 _ (Nat.ne_of_gt (hzl _ mz))).trans hT6
      have HT : H5 T = none := I5.hok.fresh (Nat.le_of_eq hT)
      have I7 : Inv (X.blk s3 H3 scope ce (zipL n)) [] (wipe σ [i, j]) (upd H5 T (.tup [x, y])) { s5 with heap := h7 } := I5.turnedNew (t' := s5.toks) (ch := zipL n) (fun c o hb q => (sb7.2 c (fun z => hb (by simp [z]))).trans (k6 c o (fun z => hb (by simp [z])) (fun z => hb (by simp [z])) (fun z => hb (by simp [z])) (fun z => hb (by simp [z])) q)) (stat I5 n5) (Nat.le_of_eq hT)
        (show ObjOk X.prog X.w (upd H5 T (.tup [x, y])) h7 T (.tup [x, y]) from ⟨few2, [u, u2], .cons ru (.cons ru2 .nil), ⟨_, hT7, rfl, _, rfl⟩⟩)
      have Z7 : ZAt h7 n a b (k + 1) := ⟨z7, (sb7.2 _ D0.TIz).trans (k6 _ _ D0.TIz D0.TITO D0.TIi1 D0.TIi2 y2), ⟨u, u2, (sb7.2 _ D0.TOz).trans TO6⟩, j1.at fun o q => (sb7.2 _ D0.i1z).trans q, j2.at fun o q => (sb7.2 _ D0.i2z).trans q⟩
      have n7 : ∀ c ∈ zipL n, upd H5 T (.tup [x, y]) c = none := fun c hc => by rw [upd_ne (Nat.ne_of_lt (hzl c hc))]; exact n5 c hc
      refine unpack_hot (x1 := p.1) (its := #[u, u2]) (look I7) ⟨_, hT7, rfl, _, rfl⟩ hn1 hn2 fun h8 k8 => ?_
      have k8' : ∀ c o, h7.get? c = some o → h8.get? c = some o := fun c o e => k8 c o (Nat.ne_of_lt (Heap.lt_size e)) e
      have I8 : Inv (X.blk s3 H3 scope ce (zipL n)) [] (wipe σ [i, j]) (upd H5 T (.tup [x, y])) { s5 with heap := h8 } := I7.kept (t' := s5.toks) k8'
      have Z8 : ZAt h8 n a b (k + 1) := Z7.keep fun c _ o e => k8' c o e
      have I8' := I8.pinned (stat I8 n7) Z8.objs
      refine thnF (pg.run _ _ _ _ [x, y] [u, u2] (fun σ' H' => σ' = ((wipe σ [i, j]).set i (some x)).set j (some y) ∧ H' = upd H5 T (.tup [x, y])) I8' (.cons ru (.cons ru2 .nil)) ⟨x, [y], rfl, y, [], rfl, rfl, rfl, rfl⟩) fun _ s9 ⟨σ9, H9, I9, q9⟩ => ?_
      obtain ⟨rfl, rfl⟩ := q9
      refine thnF (pt.run _ s9 _ _ _ I9 (pstep k x y T H5 hx hy p5 HT)) fun c s10 ⟨H10, I10, q10⟩ => ?_
      have fin : ∀ {s' : Shared} {H' : Hp}, Inv (X.blk s3 H3 scope ce (zipL n)) ([] ++ pinsAt (zipL n) h8) (((wipe σ [i, j]).set i (some x)).set j (some y)) H' s' → Pv (k + 1) H' → ∃ m, m < xs.length - k ∧ ∃ k H', Inv (X.blk s3 H3 scope ce (zipL n)) [] (wipe σ [i, j]) H' s' ∧ ZAt s'.heap n a b k ∧ (∀ c ∈ zipL n, H' c = none) ∧ m = xs.length - k ∧ k ≤ xs.length ∧ Pv k H' := fun {s' H'} J pv => by
        have at_ : ∀ c ∈ zipL n, ∀ o, h8.get? c = some o → s'.heap.get? c = some o ∧ H' c = none := fun c hc o e =>
          have z := J.pin (c, o) (List.mem_append_right _ (List.mem_append_right _ (mem_pinsAt hc e)))
          ⟨z.1, z.2.1⟩
        refine ⟨xs.length - (k + 1), by omega, k + 1, H', (J.unpinned (pins := [])).weak (by rw [List.length_set, List.length_set]) (fun m v e => ?_), Z8.keep fun c hc o e => (at_ c hc o e).1, fun c hc => ?_, rfl, hlt, pv⟩
        · have nm := (wipe_some e).2
          rw [List.getElem?_set_ne (fun z => nm (by simp [z])), List.getElem?_set_ne (fun z => nm (by simp [z]))]
          exact e
        · obtain ⟨o, e, _⟩ := Z8.objs c hc
          exact (at_ c hc o e).2
      cases c with
      | false => exact fin I10 q10
      | true =>
        refine thnF (pe.run _ s10 _ H10 _ I10 q10) fun zv s11 ⟨yv, H11, I11, r11, acc, hD11, hz11, nx⟩ => ?_
        exact app_ok (X := X.blk s3 H3 scope ce (zipL n)) I11 hD11 hz11 r11 fun s12 I12 => fin I12 nx
    · have ek : k = xs.length := by omega
      have lv := rv5.length
      refine zip_end_hot (x1 := p.1) hot5 (fun z => pz (by rw [z]; simp)) (fun z => pz (by rw [z]; simp)) D0 y1 y2 y3 y4 pl5.isList (by simp; omega) fun h6 k6 => ?_
      have I6 : Inv (X.blk s3 H3 scope ce (zipL n)) [] (wipe σ [i, j]) H5 { s5 with heap := h6 } := I5.turnedL (t' := s5.toks) (ch := zipL n) (fun c o hb q => k6 c o (fun z => hb (by simp [z])) (fun z => hb (by simp [z])) q) (stat I5 n5)
      have I7 : Inv X pins σ H5 { s5 with heap := h6 } := I3.call' (ch := zipL n) I6.os I6.base I6.hok I6.bare fun c hc => ⟨(f3 c hc).1.2.2.2.1, (f3 c hc).1.2.1, (f3 c hc).1.2.2.2.2.1, (f3 c hc).1.2.2.2.2.2⟩
      have nC : H5 s3.heap.objs.size = none := by
        have z : H5 ce.locals = none := I6.free
        rw [cL] at z; exact z
      obtain ⟨m, hm6, _⟩ := I6.loc
      have hm6 : Heap.Ns h6 ce.locals m := hm6
      rw [cL] at hm6
      obtain ⟨g0, g1, g2, g3, g4, g5⟩ := I3.fpOk (Nat.le_refl _) nC
      exact ⟨m, hm6, fun h9 sb9 => ⟨.ref D, H5, I7.turned (t' := s5.toks) (fun c o hc e => (sb9.2 c hc).trans e) g0 g1 g3 g4 g5, rfl, pend H5 (ek ▸ p5)⟩⟩
  exact codeAny_compStart_list loop (wpAny_pyIter_zip Z4.1 loop)
end
end WO

set_option Elab.async false
set_option linter.all false
set_option maxRecDepth 100000
set_option maxHeartbeats 4000000
namespace WO
open PySem PySem.Spec PyProof.Rows L2 WOm
/-! ### isinstance of the exception that is handled, its dict standing or none -/
section
variable {prog : Program} {w : World} {A : Around} {E : Value → Shared → Prop} {K : PySem.W.Frag}
theorem ei_class {s : Shared} {x D : Addr} {ox : Obj} {od : Option Obj} {Q : Option Value → Shared → Prop} (C : ExcC K D) (X : K.In s.heap) (I : PySem.W.InstAt s.heap x ox D od) (q : Q (some (.ref D)) { s with toks := s.toks + 1 }) : wpAny (model prog w) A (getAttr? (.ref x) "__class__") Q E s := by
  have hf : PySem.W.findObj K D od "__class__" = some (.bind (.builtin "getset_descriptor.__get__") (.builtin "object.__class__")) := by
    obtain ⟨cd, hc, _⟩ := PySem.W.any_some C.hd
    unfold PySem.W.findObj; rw [hc, Option.bind_some, C.ha, Option.bind_some]; simp [C.hn, C.ht]
  obtain ⟨hp, g, d, t, os⟩ := s
  have T0 := I.type (M := model prog w)
  have T1 := PySem.W.looks_findIn (M := model prog w) X C.hg
  have T2 := PySem.W.looks_findIn (M := model prog w) X C.hk
  have T3 := PySem.W.looks_find (M := model prog w) X I hf
  have isb : PySem.W.Looks (model prog w) hp (isInstance (.ref x) (.type "BaseException")) true := T0.andThen (PySem.W.looks_subIn X C.hs)
  have no : (Value.builtin "BaseException.__getattribute__" == Value.builtin "object.__getattribute__") = false := by decide +kernel
  have no2 : (onTheHeap (Value.ref D) && Value.builtin "BaseException.__getattribute__" == Value.builtin "object.__getattribute__") = false := by rw [no]; rfl
  unfold getAttr? getAttrBy? getAttrBy; refine wpAny_bind (wpAny_mkText (wpAny_bind (wpAny_attempt (wpAny_holding (wpAny_bind (T0.at (wpAny_bind (T1.at ?_))))))))
  show wpAny _ _ (if (onTheHeap (Value.ref D) && Value.builtin "BaseException.__getattribute__" == Value.builtin "object.__getattribute__") = true then _ else _) _ _ _; rw [no2, if_neg Bool.false_ne_true]
  unfold getAttrByItsOwn hookBefore; refine wpAny_bind ?_; rw [if_pos (show onTheHeap (Value.ref D) = true from rfl)]; refine T2.at (wpAny_bind (wpAny_attempt (wpAny_holding ?_))); unfold callGetattribute
  rw [show (false && onTheHeap (Value.builtin "BaseException.__getattribute__")) = false from rfl, if_neg Bool.false_ne_true]; unfold boundAndCalled; rw [PySem.F.excAttr_ValueError.ga.bind (.ref x)]; refine wpAny_bind (wpAny_pure ?_)
  show wpAny _ _ (call (.builtin "BaseException.__getattribute__") [.ref x, .str "__class__" t]) _ _ _; refine wpAny_call (codeAny_call_builtin PySem.F.excAttr_ValueError.ga.plain PySem.F.entry_bexc_ga ?_)
  refine @PySem.W.check_slot (model prog w) _ _ ⟨hp, g, d, t + 1, os⟩ "BaseException.__getattribute__" "BaseException" "__getattribute__" (.ref x) [.str "__class__" t] [] _ (by decide +kernel) (by decide +kernel) isb (PySem.F.args_bexc_ga (.ref x) (.str "__class__" t)) ?_
  unfold Builtin.«object.__getattribute__»; refine wpAny_bind (wpAny_of_eq (a := ((Value.ref x : Value), [Value.str "__class__" t])) (by first | rfl | (simp only [slotArgs]; rfl)) (wpAny_bind (wpAny_pure (wpAny_bind (T0.at (wpAny_bind (T3.at ?_)))))))
  show wpAny _ _ (holding [Value.builtin "object.__class__"] (call (.builtin "getset_descriptor.__get__") [.builtin "object.__class__", .ref x, .ref D]) >>= ret) _ _ _
  refine wpAny_bind (wpAny_holding (wpAny_call (PySem.W.class_get (s := ⟨hp, g, d, t + 1, os⟩) (ox := ox) (od := od) X I C.hm (wpAny_pure ?_))))
  show wpAny _ _ (handedOut (.ref D)) _ _ _; rw [PySem.W.handedOut_of (v := .ref D) rfl]
  first
    | exact wpAny_pure (wpAny_pure q)
    | exact wpAny_pure q
    | exact wpAny_pure (wpAny_bind (wpAny_pure (wpAny_pure q)))
theorem ei_kit {D x : Addr} {ox : Obj} (C : ExcC K D) : PySem.W.KitX K (.ref x) (.ref D) (fun h => ∃ od, PySem.W.InstAt h x ox D od) := by
  have hc : ∃ c d cd sl, K.lookup D = some ⟨c, d, .cls cd, sl⟩ := by
    obtain ⟨cd, hc, _⟩ := PySem.W.any_some C.hd
    unfold PySem.W.clsIn at hc
    split at hc
    · exact ⟨_, _, _, _, by assumption⟩
    · cases hc
  obtain ⟨c, d, cd, sl, hk⟩ := hc
  refine ⟨fun M h X I => ?_, fun M h X _ => ?_, fun h tp dd its n sl X htp => ?_, fun X I k => ?_⟩
  · obtain ⟨od, I⟩ := I
    exact I.type
  · intro A' Q' E' s k q
    unfold isType loadHead
    exact wpAny_bind (wpAny_loadPart (k _ _ (X _ _ hk)) (wpAny_pure q))
  · refine Bool.eq_false_iff.mpr fun q => ?_
    obtain rfl : D = tp := Value.ref.inj (beq_iff_eq.mp q)
    have z := (X _ _ hk).symm.trans htp
    cases z
  · obtain ⟨od, I⟩ := I
    exact ei_class C X I k
end
section
variable {X : Cx}
/-- isinstance(e, c), e the exception p that is handled -/
theorem call_isH {p : Addr × Obj} {D : Addr} {d : Option Addr} (hp : p ∈ X.pn) (C : ExcC X.K D) (hz : Zc (.ref D) d p.2) (hf : ∃ vs, p.2.data = .fields vs) : CallR X (.builtin "isinstance") (fun xs H Q => (∀ dx, d = some dx → XdAt H dx) ∧ rIsE X.K D p.1 xs H Q) := by
  intro pins s σ H xs us Q I r h
  obtain ⟨hx, c, cv, b, rfl, hcv, e, q⟩ := h
  cases r with
  | cons rx rr =>
    cases rr with
    | cons rt rr =>
      cases rr
      cases rx
      obtain rfl := hcv _ rt
      have hget := (I.pin p (List.mem_append_left _ hp)).1
      obtain ⟨vs, hv⟩ := hf
      have J : ∃ od, PySem.W.InstAt s.heap p.1 p.2 D od := by
        obtain ⟨pa, oc, od, oda, osl⟩ := p
        obtain ⟨h1, h2⟩ := hz
        dsimp only at h1 h2 hv
        subst h1 h2 hv
        cases od with
        | none => exact ⟨none, hget, rfl, rfl, trivial⟩
        | some dx =>
          obtain ⟨fs, hxd⟩ := hx dx rfl
          have hok := I.hok dx _ hxd
          obtain ⟨mA, hn, _⟩ := hok
          obtain ⟨o, _, _, ho, _⟩ := hn
          exact ⟨some o, hget, rfl, rfl, ho⟩
      exact PySem.W.kia_one (ei_kit C) I.kIn J e (fun z => nomatch z) fun tk => ⟨.bl b, H, I.kept (t' := tk) fun _ _ z => z, rfl, q⟩
end
end WO

set_option Elab.async false
set_option linter.all false
set_option maxRecDepth 100000
set_option maxHeartbeats 4000000
namespace WO
open PySem PySem.Spec PyProof.Rows L2 WOm
/-! ### _law_names: the labels of a caught error -/
def labs : List Str := ["order", "many", "row", "number", "net", "marks", "unlike", "toomany", "value"]
theorem labs_split : Txt.split ("order many row number net marks unlike toomany value" : Str) (" " : Str) = labs := by decide +kernel
/-- the labels that bs picks -/
def pick (l : List (Str × Bool)) : List Str := l.filterMap fun p => if p.2 = true then some p.1 else none
theorem pick_sum : ∀ b0 b1 b2 b3 b4 b5 b6 b7 b8 : Bool, ((pick (labs.zip [b0, b1, b2, b3, b4, b5, b6, b7, b8])).map (·.length)).sum + (pick (labs.zip [b0, b1, b2, b3, b4, b5, b6, b7, b8])).length * (" " : Str).length ≤ 16777216 := by decide +kernel
def wordOf (bs : List Bool) : Str := Txt.join (" " : Str) (pick (labs.zip bs))
def kinds : List Str := ["InvalidOrder", "InvalidMany", "InvalidRow", "InvalidNumber", "InvalidNet", "InvalidMarks", "Unlike", "TooMany"]
/-- an own class of errors: what isinstance says of its errors -/
structure ErrC (K : PySem.W.Frag) (D : Addr) (bs : List Bool) : Prop where
  C : ExcC K D
  len : bs.length = 9
  at_ : ∀ (i : Nat) (x : Str), kinds[i]? = some x → PySem.W.kitOne K (.ref D) (.ref (He.ga K x)) = bs[i]?
  ve : PySem.W.kitOne K (.ref D) (.type "ValueError") = bs[8]?
/-- the top's classes of errors -/
structure Ty (K : PySem.W.Frag) (mg : Str → Option Value) : Prop where
  g : ∀ x ∈ kinds, mg x = some (.ref (He.ga K x))
section
variable {P : Program} {w : World} {K : PySem.W.Frag} {mg : Str → Option Value} {base : Heap}
abbrev nNames : List Str := ["_law_error", "_law_kinds_so", "_law_labels", "_law_label", "_law_fine"]
theorem sc_names : FnScope nNames ["_law_error"] (defScope (topS 42)) := C8.fnScope_by (by decide +kernel)
/-- what the body makes: p is the error that is handled -/
theorem names_body (T : Tx K mg) (Y : Ty K mg) {cdv : Value} {f : Addr} {A : Around} {outer : List Env} {s : Shared} {H : Hp} {E : XK} {p : Addr × Obj} {D : Addr} {d : Option Addr} {bs : List Bool} {Q : VK} (hot : L2H.Hot1 A p) (EC : ErrC K D bs) (hz : Zc (.ref D) d p.2) (hx : ∀ dx, d = some dx → XdAt H dx)
    (q : ∀ H', Same H H' → Q (.str (wordOf bs)) H') : ∃ t, PSs (L2H.cxH C8.CX0 P w K mg base nNames "_law_names" (defScope (topS 42)) f cdv A outer s H E p) (defBody (topS 42)) t ∧ t { nx := fun _ H' => Q .non H', rt := Q } (L2.start nNames [.ref p.1]) H := by
  have hpn : p ∈ (L2H.cxH C8.CX0 P w K mg base nNames "_law_names" (defScope (topS 42)) f cdv A outer s H E p).pn := List.mem_cons_self
  have hot' : L2H.Hot1 (L2H.cxH C8.CX0 P w K mg base nNames "_law_names" (defScope (topS 42)) f cdv A outer s H E p).A p := hot
  have hf : ∃ vs, p.2.data = .fields vs := hot.2.elim fun vs h => ⟨vs, h.1⟩
  have isr : CallR (L2H.cxH C8.CX0 P w K mg base nNames "_law_names" (defScope (topS 42)) f cdv A outer s H E p) (.builtin "isinstance") (fun xs H Q => (∀ dx, d = some dx → XdAt H dx) ∧ rIsE K D p.1 xs H Q) := call_isH hpn EC.C hz hf
  refine ⟨_, pss_cons (ps_set (i := 1) sc_names.nd rfl (.inl rfl) (pe_lst (pa_cons (pe_callB isr (by rfl) T.isinst (by decide +kernel) (pa_cons (pv 0) (pa_cons (pe_glob (v := .ref (He.ga K "InvalidOrder")) (by rfl) (Y.g _ (by decide)) rfl) pa_nil)))
        (pa_cons (pe_callB isr (by rfl) T.isinst (by decide +kernel) (pa_cons (pv 0) (pa_cons (pe_glob (v := .ref (He.ga K "InvalidMany")) (by rfl) (Y.g _ (by decide)) rfl) pa_nil)))
        (pa_cons (pe_callB isr (by rfl) T.isinst (by decide +kernel) (pa_cons (pv 0) (pa_cons (pe_glob (v := .ref (He.ga K "InvalidRow")) (by rfl) (Y.g _ (by decide)) rfl) pa_nil))) pa_nil)))))
      (pss_cons (ps_set (i := 1) sc_names.nd rfl (.inl rfl) (pe_op op_cat (pv 1) (pe_lst (pa_cons (pe_callB isr (by rfl) T.isinst (by decide +kernel) (pa_cons (pv 0) (pa_cons (pe_glob (v := .ref (He.ga K "InvalidNumber")) (by rfl) (Y.g _ (by decide)) rfl) pa_nil)))
        (pa_cons (pe_callB isr (by rfl) T.isinst (by decide +kernel) (pa_cons (pv 0) (pa_cons (pe_glob (v := .ref (He.ga K "InvalidNet")) (by rfl) (Y.g _ (by decide)) rfl) pa_nil))) pa_nil)))))
      (pss_cons (ps_set (i := 1) sc_names.nd rfl (.inl rfl) (pe_op op_cat (pv 1) (pe_lst (pa_cons (pe_callB isr (by rfl) T.isinst (by decide +kernel) (pa_cons (pv 0) (pa_cons (pe_glob (v := .ref (He.ga K "InvalidMarks")) (by rfl) (Y.g _ (by decide)) rfl) pa_nil)))
        (pa_cons (pe_callB isr (by rfl) T.isinst (by decide +kernel) (pa_cons (pv 0) (pa_cons (pe_glob (v := .ref (He.ga K "Unlike")) (by rfl) (Y.g _ (by decide)) rfl) pa_nil)))
        (pa_cons (pe_callB isr (by rfl) T.isinst (by decide +kernel) (pa_cons (pv 0) (pa_cons (pe_glob (v := .ref (He.ga K "TooMany")) (by rfl) (Y.g _ (by decide)) rfl) pa_nil))) pa_nil))))))
      (pss_cons (ps_expr (pe_bm PySem.F.plainAttrs_list PySem.F.slot_list_append PySem.F.type_list_append mt_append (pv 1) (pa_cons (pe_callB isr (by rfl) T.isinst (by decide +kernel) (pa_cons (pv 0) (pa_cons (pe_bltn (v := .ty "ValueError") (by rfl) T.verr (by decide +kernel) rfl) pa_nil))) pa_nil)))
      (pss_cons (ps_set (i := 2) sc_names.nd rfl (.inl rfl) pe_str)
      (pss_one (ps_ret (pe_join pe_str (pe_lcz (i := 3) (j := 4) hot' hpn sc_names.nd (by rfl) T.zip_ (pa_cons (pe_split (pv 2) pe_str) (pa_cons (pv 1) pa_nil)) (blkOk_by (N := nNames) (sc := defScope (topS 42)) (own := [("_law_label", 3), ("_law_fine", 4)]) (by decide +kernel))
        (fun _ _ _ _ _ => pgs_cons (pg_name (i := 3) sc_names.nd rfl (.inl rfl)) (pgs_cons (pg_name (i := 4) sc_names.nd rfl (.inl rfl)) pgs_nil)) (fun _ _ _ _ _ => pts_one (pt_val (pv 4))) (fun _ _ _ _ _ => pv 3))))))))), ?_⟩
  obtain ⟨b0, b1, b2, b3, b4, b5, b6, b7, b8, rfl⟩ : ∃ b0 b1 b2 b3 b4 b5 b6 b7 b8, bs = [b0, b1, b2, b3, b4, b5, b6, b7, b8] := by
    match bs, EC.len with
    | [b0, b1, b2, b3, b4, b5, b6, b7, b8], _ => exact ⟨_, _, _, _, _, _, _, _, _, rfl⟩
  have xk : ∀ {H' : Hp}, Same H H' → ∀ dx, d = some dx → XdAt H' dx := fun {H'} s dx e => by
    obtain ⟨fs, z⟩ := hx dx e
    exact ⟨fs, s _ _ z⟩
  refine ⟨_, rfl, xk (Same.refl H), _, _, b0, rfl, fun u h => h, EC.at_ 0 _ rfl, _, rfl, xk (Same.refl H), _, _, b1, rfl, fun u h => h, EC.at_ 1 _ rfl, _, rfl, xk (Same.refl H), _, _, b2, rfl, fun u h => h, EC.at_ 2 _ rfl, few (n := 3) (by decide), fun l1 n1 => ?_⟩
  generalize hH1 : upd H l1 _ = H1
  have s1 : Same H H1 := hH1 ▸ same_upd n1
  have e1 : H1 l1 = some (.lst [.bl b0, .bl b1, .bl b2]) := hH1 ▸ upd_same
  refine ⟨.ref l1, rfl, _, rfl, xk s1, _, _, b3, rfl, fun u h => h, EC.at_ 3 _ rfl, _, rfl, xk s1, _, _, b4, rfl, fun u h => h, EC.at_ 4 _ rfl, few2, fun l2 n2 => ?_⟩
  generalize hH2 : upd H1 l2 _ = H2
  have s2 : Same H1 H2 := hH2 ▸ same_upd n2
  have e2 : H2 l2 = some (.lst [.bl b3, .bl b4]) := hH2 ▸ upd_same
  refine ⟨l1, l2, _, _, rfl, rfl, s2 _ _ e1, e2, few (n := 5) (by decide), fun l3 n3 => ?_⟩
  generalize hH3 : upd H2 l3 _ = H3
  have s3 : Same H2 H3 := hH3 ▸ same_upd n3
  have e3 : H3 l3 = some (.lst [.bl b0, .bl b1, .bl b2, .bl b3, .bl b4]) := hH3 ▸ upd_same
  have s03 := (s1.trans s2).trans s3
  refine ⟨.ref l3, rfl, _, rfl, xk s03, _, _, b5, rfl, fun u h => h, EC.at_ 5 _ rfl, _, rfl, xk s03, _, _, b6, rfl, fun u h => h, EC.at_ 6 _ rfl, _, rfl, xk s03, _, _, b7, rfl, fun u h => h, EC.at_ 7 _ rfl, few (n := 3) (by decide), fun l4 n4 => ?_⟩
  generalize hH4 : upd H3 l4 _ = H4
  have s4 : Same H3 H4 := hH4 ▸ same_upd n4
  have e4 : H4 l4 = some (.lst [.bl b5, .bl b6, .bl b7]) := hH4 ▸ upd_same
  refine ⟨l3, l4, _, _, rfl, rfl, s4 _ _ e3, e4, few (n := 8) (by decide), fun l5 n5 => ?_⟩
  generalize hH5 : upd H4 l5 _ = H5
  have s5 : Same H4 H5 := hH5 ▸ same_upd n5
  have e5 : H5 l5 = some (.lst [.bl b0, .bl b1, .bl b2, .bl b3, .bl b4, .bl b5, .bl b6, .bl b7]) := hH5 ▸ upd_same
  have s05 := (s03.trans s4).trans s5
  have f5 : H l5 = none := L2.Same.free (s03.trans s4) n5
  refine ⟨.ref l5, rfl, .inl ⟨rfl, _, SqL.of e5⟩, _, rfl, xk s05, _, _, b8, rfl, fun u h => h, EC.ve, l5, _, _, rfl, rfl, e5, few' (n := 8) (by decide), ?_⟩
  have s06 : ∀ {o}, Same H (upd H5 l5 o) := fun {o} b u e => by
    rw [upd_ne (ne_of_none e f5)]
    exact s05 b u e
  generalize hH6 : upd H5 l5 _ = H6
  have s06' : Same H H6 := hH6 ▸ s06
  have e6 : H6 l5 = some (.lst ([b0, b1, b2, b3, b4, b5, b6, b7, b8].map V.bl)) := hH6 ▸ upd_same
  refine ⟨⟨_, rfl⟩, _, rfl, ⟨_, rfl⟩, _, _, rfl, rfl, by decide, by decide, fun l6 n6 => ?_⟩
  rw [labs_split]
  generalize hH7 : upd H6 l6 _ = H7
  have s7 : Same H6 H7 := hH7 ▸ same_upd n6
  have e7 : H7 l6 = some (.lst (labs.map V.str)) := hH7 ▸ upd_same
  have e67 := s7 _ _ e6
  generalize hbs : [b0, b1, b2, b3, b4, b5, b6, b7, b8] = bs at *
  have lbs : bs.length = 9 := by rw [← hbs]; rfl
  refine ⟨.ref l5, rfl, l6, l5, labs.map V.str, bs.map V.bl, rfl, SqL.of e7, SqL.of e67, by rw [List.length_map, List.length_map, lbs]; rfl, fun D7 n7 => ?_⟩
  have sd : ∀ {Hx : Hp} {o : HO}, Same H7 Hx → Same H7 (upd Hx D7 o) := fun {Hx o} s b u e => by
    rw [upd_ne (ne_of_none e n7)]
    exact s b u e
  refine ⟨fun k H' => Same H7 H' ∧ H' D7 = some (.lst ((pick ((labs.zip bs).take k)).map V.str)), ⟨sd (Same.refl H7), upd_same⟩, fun k H' h => ⟨SqL.of (h.1 _ _ e7), SqL.of (h.1 _ _ e67)⟩, ?_, ?_⟩
  · rintro k x y T7 H8 hx8 hy8 ⟨s8, e8⟩ nT
    rw [List.getElem?_map] at hx8 hy8
    obtain ⟨lab, hl, rfl⟩ := Option.map_eq_some_iff.mp hx8
    obtain ⟨bb, hb, rfl⟩ := Option.map_eq_some_iff.mp hy8
    have hz8 : (labs.zip bs)[k]? = some (lab, bb) := List.getElem?_zip_eq_some.mpr ⟨hl, hb⟩
    have tk : pick ((labs.zip bs).take (k + 1)) = pick ((labs.zip bs).take k) ++ if bb = true then [lab] else [] := by
      rw [List.take_add_one, hz8]
      unfold pick
      rw [List.filterMap_append]
      cases bb <;> rfl
    have s9 : Same H8 (upd H8 T7 (.tup [.str lab, .bl bb])) := same_upd nT
    refine ⟨.bl bb, rfl, bb, rfl, ?_⟩
    cases bb with
    | true =>
      refine iteT ⟨.str lab, rfl, _, s9 _ _ e8, few' (by
        rw [List.length_map]
        have := List.length_filterMap_le (fun p : Str × Bool => if p.2 = true then some p.1 else none) ((labs.zip bs).take k)
        have h2 : ((labs.zip bs).take k).length ≤ 9 := by rw [List.length_take, List.length_zip, lbs]; show min k (min 9 9) ≤ 9; omega
        unfold pick
        omega), sd (s8.trans s9), ?_⟩
      rw [upd_same, tk, List.map_append]
      rfl
    | false =>
      refine iteF ⟨s8.trans s9, ?_⟩
      rw [tk]
      show _ = some (HO.lst ((pick ((labs.zip bs).take k) ++ []).map V.str))
      rw [List.append_nil]
      exact s9 _ _ e8
  · rintro H8 ⟨s8, e8⟩
    have el : ((labs.zip bs).take (labs.map V.str).length) = labs.zip bs := by
      refine List.take_of_length_le ?_
      rw [List.length_zip, List.length_map, lbs]
      exact Nat.le_refl 9
    rw [el] at e8
    refine ⟨_, D7, pick (labs.zip bs), rfl, rfl, .inl (SqL.of e8), ?_, q H8 ((s06'.trans s7).trans s8)⟩
    rw [← hbs]
    exact pick_sum b0 b1 b2 b3 b4 b5 b6 b7 b8
end
end WO

set_option Elab.async false
set_option linter.all false
set_option maxRecDepth 100000
set_option maxHeartbeats 4000000
namespace WO
open PySem PySem.Spec PyProof.Rows L2 WOm
/-! ### _law_names called in the suite; _law_word -/
section
variable {P : Program} {w : World} {K : PySem.W.Frag} {mg : Str → Option Value} {base : Heap}
theorem names_code (T : Tx K mg) (Y : Ty K mg) {f : Addr} {fd : FuncData} (F : FunD K "_law_names" "_law_names" (defArgs (topS 42)) (defBody (topS 42)) (defScope (topS 42)) [] [] f fd) {A : Around} {outer : List Env} {s : Shared} {H : Hp} {p : Addr × Obj} {D : Addr} {d : Option Addr} {bs : List Bool} {Q : VK}
    (hr : L2H.RoomH 1 A) (hot : L2H.Hot1 A p) (hpin : L2H.PinOk outer H s p) (e0 : Env0 P w K mg base A outer s H) (EC : ErrC K D bs) (hz : Zc (.ref D) d p.2) (hx : ∀ dx, d = some dx → XdAt H dx) (q : ∀ H', Same H H' → Q (.str (wordOf bs)) H') :
    codeAny (model P w) A (.call (.ref f) ⟨[.ref p.1], []⟩) (CR C8.CX0 outer P w H s Q C8.E0) s := by
  have S := sc_names
  have hb := F.bindsA (ps := ["_law_error"]) (fun _ _ _ _ _ _ us hl => match us, hl with | [_], _ => rfl) s [.ref p.1] rfl
  obtain ⟨oc, od, dV, kV, doc, pm, an, cdv, ct, osl, rfl, lk, hcd, _, _⟩ := F.ex
  have KX : K.In s.heap := e0.mod.kin.keeps fun b o e => (e0.bs b o e).1
  have lim : s.heap.NoLimit := e0.mod.nolimit.keeps fun b o e => (e0.bs b o e).1
  have hkind : ∀ y ∈ ([("_law_error" : Str)]).zip [Value.ref p.1], (defScope (topS 42)).names.lookup y.1 = some .local ∨ ((defScope (topS 42)).names.lookup y.1 = some .cell ∧ ((cellsFrom (s.heap.objs.size + 1) (defScope (topS 42)).names []).lookup y.1).isSome = true) := fun y hy => by
    have e : y = (("_law_error" : Str), Value.ref p.1) := by simpa using hy
    rw [e]
    exact .inl (by rfl)
  refine codeAny_call_function hr.depth (KX _ _ lk) rfl S.co S.gen rfl (PySem.W.codeRec_of KX hcd) (hb _ _ _ _ (wpAny_newFunctionEnv_cells S.kind hkind fun env he s1 x => ?_))
  subst he
  refine ⟨lim.keeps x.toInCall.keep, codeAny_func ?_⟩
  obtain ⟨t, ht, hq⟩ := names_body (P := P) (w := w) (base := base) (cdv := cdv) (f := f) (outer := outer) (s := s) (E := C8.E0) T Y hot EC hz hx q
  have I := L2H.inv_startH (CX := C8.CX0) (E := C8.E0) (vs := [V.ref p.1]) S hpin e0 rfl (.cons rfl .nil) x
  refine wpAny_mono (ht.run [] s1 _ H _ I hq) (fun fl s' hs => ?_) fun e s' hs => hs
  cases fl with
  | ret u =>
    obtain ⟨v, σ', H', J, rv, q⟩ := hs
    exact ⟨v, H', J.os, J.bare, J.base, J.hok, rv, q⟩
  | next =>
    obtain ⟨σ', H', J, q⟩ := hs
    exact ⟨V.non, H', J.os, J.bare, J.base, J.hok, rfl, q⟩
  | brk =>
    obtain ⟨_, _, _, q⟩ := hs
    exact False.elim q
  | cont =>
    obtain ⟨_, _, _, q⟩ := hs
    exact False.elim q
end
/-- what such an error makes of the word -/
def Told (K : PySem.W.Frag) (Q : VK) : XK := fun cls d H' => ∃ (D : Addr) (bs : List Bool), cls = .ref D ∧ ErrC K D bs ∧ PySem.W.exmOne K (.ref D) (.ref (He.ga K "OrderError")) = some true ∧ (∀ dx, d = some dx → XdAt H' dx) ∧ ∀ H'', Same H' H'' → Q (.str (wordOf bs)) H''
theorem pe_names {X : Cx} {a : Addr} {oe : Obj} {cls : Value} {d : Option Addr} {pn : List (Addr × Obj)} {i : Nat} {q1 q2 pos : Pos} (T : Tx X.K X.mg) (Y : Ty X.K X.mg) (hr : L2H.RoomH 1 X.A) (hz : L2N.Zn cls d oe) (hf : ∃ vs, oe.data = .fields vs) (hg : Gl X "_law_names") (hN : X.N[i]? = some ("_law_error" : Str)) (hv : Vis X.env.scope "_law_error")
    (hst : starEach [Expr.Name "_law_error" q2] X.env = [(false, eval (.Name "_law_error" q2) X.env)]) :
    PE (X.suite a ((a, oe) :: pn)) (.Call (.Name "_law_names" q1) [.Name "_law_error" q2] [] pos) (fun σ H Q => (∃ σ0 : L2.St, σ = σ0.set i (some (.ref a))) ∧ Told X.K Q cls d H) := by
  refine ⟨fun pins s σ H Q I h => ?_⟩
  obtain ⟨⟨σ0, rfl⟩, D, bs, rfl, EC, _, hx, q⟩ := h
  have hs : (σ0.set i (some (V.ref a)))[i]? = some (some (V.ref a)) := by
    have l1 := I.len
    rw [List.length_set] at l1
    have l2 := (List.getElem?_eq_some_iff.mp hN).1
    exact List.getElem?_set_self (by rw [l1]; exact l2)
  obtain ⟨f, fd, F, hm⟩ := T.d_names.ex
  refine wpAny_Call_Name_kw (ld_glob I hg hm ?_ (by decide))
  have ha : PA (X.suite a ((a, oe) :: pn)) [.Name "_law_error" q2] (tCons (tVar i) tNil) := pa_cons (pe_var hN hv) pa_nil (hs := hst)
  refine PySem.W.callWith_K (h₀ := X.base) I.ok.mod.kin F.kp (thn (ha.run pos pins s _ H (fun vs H1 => vs = [V.ref a] ∧ H1 = H) I ⟨.ref a, hs, rfl, rfl⟩) fun us s1 hh => ?_) hst (by rfl)
  obtain ⟨vs, H1, I1, r1, rfl, rfl⟩ := hh
  refine ⟨I1.kIn, ?_⟩
  obtain rfl : us = [Value.ref a] := by
    cases r1 with
    | cons r rr => cases rr; cases r; rfl
  obtain ⟨v1, hv1⟩ := hf
  have hot : L2H.Hot1 (X.suite a ((a, oe) :: pn)).A (a, oe) := ⟨rfl, v1, hv1, hz.2.2 v1 hv1⟩
  have P1 := I1.pin (a, oe) (List.mem_append_left _ List.mem_cons_self)
  have hpin : L2H.PinOk X.stack H1 s1 (a, oe) := ⟨P1.1, P1.2.1, fun hm => (List.mem_cons.mp (I1.stkSub a hm)).elim P1.2.2.1 P1.2.2.2.1, P1.2.2.2.2⟩
  show wpAny _ _ (call (.ref f) [.ref a]) _ _ _
  refine wpAny_call (codeAny_mono (names_code (p := (a, oe)) T Y F (show L2H.RoomH 1 (X.suite a ((a, oe) :: pn)).A from ⟨hr.dp, hr.un⟩) hot hpin I1.env0 EC hz.zc hx q) fun r s' hq => ?_)
  cases r with
  | error e => exact False.elim hq
  | ok fl =>
    cases fl with
    | ret u => exact I1.after hq
    | next => exact False.elim hq
    | brk => exact False.elim hq
    | cont => exact False.elim hq
end WO

set_option Elab.async false
set_option linter.all false
set_option maxRecDepth 100000
set_option maxHeartbeats 4000000
namespace WO
open PySem PySem.Spec PyProof.Rows L2 WOm
abbrev nWord : List Str := ["_law_call", "_law_error"]
theorem sc_word : FnScope nWord ["_law_call"] (defScope (topS 43)) := C8.fnScope_by (by decide +kernel)
/-- nothing is let out -/
theorem takesNone {X : Cx} : L2N.Takes X (fun _ _ _ _ => False) := fun _ _ x => by
  obtain ⟨_, _, _, _, _, _, _, _, _, _, _, _, _, _, _, _, z⟩ := x
  exact z.elim
section
variable {P : Program} {w : World} {K : PySem.W.Frag} {mg : Str → Option Value} {base : Heap}
/-- the context of _law_word's body -/
abbrev cxW (P : Program) (w : World) (K : PySem.W.Frag) (mg : Str → Option Value) (base : Heap) (g : Addr) (cdv : Value) (A : Around) (outer : List Env) (s : Shared) (H : Hp) : Cx := cxOf C8.CX0 P w K mg base nWord "_law_word" (defScope (topS 43)) g cdv A outer s H C8.E0
theorem word_body (T : Tx K mg) (Y : Ty K mg) (hO : mg "OrderError" = some (.ref (He.ga K "OrderError"))) {g f c' : Addr} {cdv : Value} {A : Around} {outer : List Env} {s : Shared} {H : Hp} {qn : Str} {tl : XK → Hp → VK → Prop} {Q : VK} (hr : Room 2 (A.deeper (envOfC "_law_word" (defScope (topS 43)) s.heap.objs.size g cdv)))
    (act : ∀ (W : WX) (pn : List (Addr × Obj)) (xe : Value → Shared → Prop) (E : XK) (p1 p2 : Pos), L2N.Takes ((cxW P w K mg base g cdv A outer s H).nox.tr pn xe) W → (∀ cls d σ' H', E cls d H' → W cls d σ' H') →
      PE ((cxW P w K mg base g cdv A outer s H).nox.tr pn xe) (.Call (.Name "_law_call" p1) [] [] p2) (fun σZ HZ Q => σZ[0]? = some (some (.ref f)) ∧ HZ c' = some (LamX.CodeO c' qn) ∧ tl E HZ Q))
    (hc : H c' = some (LamX.CodeO c' qn)) (h : tl (Told K Q) H fun _ H' => Q (.str "") H') :
    ∃ t, PSs (cxW P w K mg base g cdv A outer s H).nox (defBody (topS 43)) t ∧ t { nx := fun _ H' => Q .non H', rt := Q } (L2.start nWord [V.ref f]) H := by
  refine ⟨_, pss_cons (L2N.ps_try_as (X := (cxW P w K mg base g cdv A outer s H).nox) (c := .ref (He.ga K "OrderError")) (i := 1)
      (tb := fun W D σ H => ∃ E : XK, (∀ cls d σ' H', E cls d H' → W cls d σ' H') ∧ σ[0]? = some (some (.ref f)) ∧ H c' = some (LamX.CodeO c' qn) ∧ tl E H fun _ H' => D.nx σ H')
      (ts := fun a cls d D σ H => (∃ σ0 : L2.St, σ = σ0.set 1 (some (.ref a))) ∧ Told K D.rt cls d H)
      rfl rfl sc_word.nd rfl (by rfl) ⟨by rfl, by decide, .inl hO⟩ takesNone (fun W pn xe tk _ => ?_) (fun a oe cls d pn hz hf => ?_)) (pss_one (ps_ret pe_str)), ?_⟩
  · refine ⟨fun pins s' σ H' D I h' => ?_⟩
    obtain ⟨E, hW, h1, h2, h3⟩ := h'
    exact (pss_one (ps_expr (act W pn xe E _ _ tk hW))).run pins s' σ H' D I ⟨h1, h2, h3⟩
  · exact pss_one (ps_ret (pe_names (X := (cxW P w K mg base g cdv A outer s H).nox) (i := 1) T Y (L2H.roomH_of (hr.mono (by decide))) hz hf (by rfl) rfl (.inl (by rfl)) (by rfl)))
  · refine ⟨fun cls d H' => Told K Q cls d H', fun cls d σ' H' t => ?_, rfl, hc, h⟩
    obtain ⟨D, bs, rfl, EC, hex, hx, q⟩ := id t
    exact ⟨true, hex, fun _ a na => ⟨⟨σ', rfl⟩, t⟩, fun z => by cases z⟩
end
end WO

set_option Elab.async false
set_option linter.all false
set_option maxRecDepth 100000
set_option maxHeartbeats 4000000
namespace WO
open PySem PySem.Spec PyProof.Rows L2 WOm LamX
/-! ### a lambda handed to _law_word, whose body may raise -/
theorem inv_xe {X : Cx} {g : Value → Shared → Prop} {pins : List (Addr × Obj)} {σ : L2.St} {H : Hp} {s : Shared} (I : Inv X pins σ H s) : Inv { X with xe := g } pins σ H s :=
  ⟨⟨I.ok.mod, I.ok.kind, I.ok.glob, I.ok.blt, I.ok.above, I.ok.inj, I.ok.has, I.ok.cab, I.ok.hd, I.ok.frames, I.ok.stk, I.ok.exf, I.ok.bs, I.ok.bsz, I.ok.noex, I.ok.exfs, I.ok.funs, I.ok.frf⟩, I.os, I.bare, I.base, I.loc, I.cell, I.free, I.freeC, I.pin, I.hok, I.len⟩
/-- the lambda's body, an exception's context being None -/
def lamN (X : Cx) (A : Around) (outer : List Env) (s : Shared) (H : Hp) (E : XK) (scope : Scope) (f c' : Addr) : Cx :=
  { lamCx X A outer s H E scope f c' with xe := fun e s' => wpAny (model X.prog X.w) (A.deeper (lamEnv X scope s.heap.objs.size f c')) (leaving (lamEnv X scope s.heap.objs.size f c') e) (fun _ s'' => L2N.CX X.prog X.w outer H s E e s'') (fun e' s'' => L2N.CX X.prog X.w outer H s E e' s'') s' }
theorem takes_lamN {X : Cx} {A : Around} {outer : List Env} {s : Shared} {H : Hp} {E : XK} {scope : Scope} {f c' : Addr} : L2N.Takes (lamN X A outer s H E scope f c') (fun cls d _ H => E cls d H) := L2N.takes_of rfl rfl rfl rfl
section
variable {X : Cx} {pins : List (Addr × Obj)} {σ : L2.St} {H : Hp} {s : Shared}
theorem act_lam {Y : Cx} {f c' : Addr} {pm ctv : Value} {params : Arguments} {body : Expr} {scope : Scope} {k i : Nat} {a : Str} {W : WX} {E : XK} {tb : TE} {p1 p2 : Pos} (I : Inv X pins σ H s) (L : LamS X.env.scope scope) (hf : s.heap.get? f = some (PySem.W.kla_obj "<lambda>" (X.env.qual ++ "<lambda>") params body scope (cloFrom X.env.cells scope.names []) pm c' ctv)) (hfn : H f = none) (hfr : f ∉ frs X.stack)
    (hbind : bindArgs (PySem.W.kla_fn "<lambda>" (X.env.qual ++ "<lambda>") params body scope (cloFrom X.env.cells scope.names []) pm (.ref c') ctv) ⟨[], []⟩ = pure [])
    (y1 : Y.prog = X.prog) (y2 : Y.w = X.w) (y3 : Y.s_0 = s) (y4 : Y.H_0 = H) (y5 : Y.outer = X.stack) (y6 : Y.ex = []) (y7 : Y.K = X.K) (y8 : Y.mg = X.mg) (y9 : Y.base = X.base)
    (tk : L2N.Takes Y W) (hW : ∀ cls d σ' H', E cls d H' → W cls d σ' H') (hr : Room (k + 1) Y.A) (hbody : ∀ (A : Around) (outer : List Env) (s : Shared) (H : Hp), Room k (A.deeper (lamEnv X scope s.heap.objs.size f c')) → PE (lamN X A outer s H E scope f c') body tb)
    (hN : Y.N[i]? = some a) (hv : Vis Y.env.scope a) (hd : (a == ("__debug__" : Str)) = false := by decide) (hcd : (a == ("__classdict__" : Str)) = false := by decide) :
    PE Y (.Call (.Name a p1) [] [] p2) (fun σZ HZ Q => σZ[i]? = some (some (.ref f)) ∧ HZ c' = some (CodeO c' (X.env.qual ++ "<lambda>")) ∧ tb σ HZ Q) := by
  refine ⟨fun pinsZ sZ σZ HZ Q IZ h => ?_⟩
  obtain ⟨hs, hc, ht⟩ := h
  refine wpAny_Call_Name_kw (thn ((pe_var (pos := p1) (i := i) hN hv hd hcd).run pinsZ sZ σZ HZ (fun v H1 => v = .ref f ∧ H1 = HZ) IZ ⟨.ref f, hs, rfl, rfl⟩) fun u s1 ⟨v, H1, I1, r1, ev, eH⟩ => ?_)
  subst ev eH
  obtain rfl : u = Value.ref f := r1
  have un0 : Un (frs X.stack) [] H H1 s.heap s1.heap := by
    have z := I1.base
    rw [y3, y4, y6] at z
    unfold Cx.fs at z
    rw [y5] at z
    exact z
  have of1 : s1.heap.get? f = some (PySem.W.kla_obj "<lambda>" (X.env.qual ++ "<lambda>") params body scope (cloFrom X.env.cells scope.names []) pm c' ctv) := un0.keep f _ hf hfn hfr (fun z => by cases z)
  refine PySem.W.callWith_F0 ⟨_, _, _, _, of1⟩ ?_
  obtain ⟨⟨oc, vs, t, hoc, hdc, hvc⟩, _, _⟩ := I1.hok c' _ hc
  have e0 : Env0 X.prog X.w X.K X.mg X.base Y.A Y.stack s1 H1 := by
    have z := I1.env0
    rw [y1, y2, y7, y8, y9] at z
    exact z
  have rc : codeAny (model X.prog X.w) Y.A (.call (.ref f) ⟨[], []⟩) (CR (L2N.CX X.prog X.w) Y.stack X.prog X.w H1 s1 Q E) s1 := by
    refine PySem.W.kla_callFunE hr.depth of1 rfl L.co L.gen rfl ⟨c', oc, vs, t, rfl, hoc, hdc, hvc⟩ ?_
    rw [hbind]
    refine wpAny_pure (wpAny_newFunctionEnv (fun y hy => (L.own y hy).2) (fun y hy => absurd hy (by simp)) (fun h₁ hns hsb => ⟨I1.nolimit.fresh _ hsb, ?_⟩) L.kind)
    show codeAny _ _ (.expr body (lamEnv X scope s1.heap.objs.size f c')) _ _
    have kp : ∀ b o, s1.heap.get? b = some o → h₁.get? b = some o := fun b o e => hsb.extBut b o (Nat.ne_of_lt (Heap.lt_size e)) (Heap.get?_push_of_some _ e)
    have J : Inv (lamN X Y.A Y.stack s1 H1 E scope f c') [] σ H1 { s1 with heap := h₁, toks := s1.toks + ([] : List (Str × Value)).length } := inv_xe (lam_start2 (E := E) I L e0 hr.hd un0 hns kp)
    refine PySem.W.kla_codeExpr (wpAny_mono ((hbody _ _ s1 H1 (hr.deeper _)).run [] _ _ H1 Q J ht) (fun v s' hq => ?_) fun e s' hq => hq)
    obtain ⟨w', H', J', rv, q⟩ := hq
    exact ⟨w', H', J'.os, J'.bare, J'.base, J'.hok, rv, q⟩
  rw [← y1, ← y2] at rc
  have hx := L2N.passes_call tk hW
  refine wpAny_call (codeAny_mono rc fun r s' hq => ?_)
  cases r with
  | error e => exact hx pinsZ σZ H1 s1 e s' I1 hq
  | ok fl =>
    cases fl with
    | ret u => exact I1.after hq
    | next => exact False.elim hq
    | brk => exact False.elim hq
    | cont => exact False.elim hq
end
/-- what _law_word(lambda: body) makes: t is the body's reading -/
def tWord (K : PySem.W.Frag) (TT : List (Addr × Str)) (t : XK → TE) : TE := fun σ H Q => Tabs TT H ∧ ∀ H1, ExtN H H1 → Tabs TT H1 → t (Told K Q) σ H1 fun _ H' => Q (.str "") H'
theorem pe_word {X : Cx} {TT : List (Addr × Str)} {c P : Addr} {k : Nat} {params : Arguments} {body : Expr} {scope : Scope} {t : XK → TE} {p lpos pos : Pos} (T : Tx X.K X.mg) (Y : Ty X.K X.mg) (hO : X.mg "OrderError" = some (.ref (He.ga X.K "OrderError"))) (hg : Gl X "_law_word")
    (TB : TabB X.base X.mg c P) (hcode : X.env.code = .ref c) (hmT : (P, X.env.qual ++ "<lambda>") ∈ TT) (hu : ∀ p ∈ TT, p.1 = P → p.2 = X.env.qual ++ "<lambda>") (hr : Room (k + 4) X.A) (L : LamS X.env.scope scope) (hdef : defaultsOf params X.env = ([], []))
    (hbind : ∀ (q : Str) (cl : List (Str × Addr)) (pm cv ctv : Value), bindArgs (PySem.W.kla_fn "<lambda>" q params body scope cl pm cv ctv) ⟨[], []⟩ = pure [])
    (hbody : ∀ (A : Around) (outer : List Env) (s : Shared) (H : Hp) (E : XK) (f c' : Addr), Room (k + 1) (A.deeper (lamEnv X scope s.heap.objs.size f c')) → PE (lamN X A outer s H E scope f c') body (t E)) :
    PE X (.Call (.Name "_law_word" p) [.Lambda params body scope lpos] [] pos) (tWord X.K TT t) := by
  refine ⟨fun pins s σ H Q I h => ?_⟩
  obtain ⟨hT, h⟩ := h
  obtain ⟨g, fd, F, hm⟩ := T.d_word.ex
  have hb := F.bindsA (ps := ["_law_call"]) (fun _ _ _ _ _ _ us hl => match us, hl with | [_], _ => rfl)
  obtain ⟨oc, od, dV, kV, doc, pm, an, cdv, ct, osl, rfl, lk, hcd, _, _⟩ := F.ex
  refine wpAny_Call_Name_kw (ld_glob I hg hm ?_ (by decide))
  refine PySem.W.callWith_K (h₀ := X.base) I.ok.mod.kin F.kp ?_ (by rfl) (by rfl)
  show wpAny _ _ (spliced ((false, eval (.Lambda params body scope lpos) X.env) :: backTo pos (starEach [] X.env))) _ _ s
  refine Calls.spliced_cons (lam_make2 I TB hcode hmT hu hT hdef (L.has I.ok) fun f c' pm' ctv H1 s' I1 eN T1 hf hfn hfr hco => Calls.spliced_nil ⟨I1.kIn, ?_⟩)
  have rc : codeAny (model X.prog X.w) X.A (.call (.ref g) ⟨[.ref f], []⟩) (CR C8.CX0 X.stack X.prog X.w H1 s' Q C8.E0) s' := by
    refine run_ofS (N := nWord) (ps := ["_law_call"]) (us := [.ref f]) (vs := [.ref f]) lk hcd sc_word hr I1.env0 (hb s' [.ref f] rfl) (.cons rfl .nil) rfl fun hr' => ?_
    obtain ⟨t', ht', hq'⟩ := word_body (f := f) (c' := c') (qn := X.env.qual ++ "<lambda>") (tl := fun E H' Q' => t E σ H' Q') T Y hO (hr'.mono (by omega)) (fun W pn xe E p1 p2 tk hW => act_lam (i := 0) (k := k + 2) I1 L hf hfn hfr (hbind _ _ _ _ _) rfl rfl rfl rfl rfl rfl rfl rfl rfl tk hW hr' (fun A outer s H hr2 => hbody A outer s H E f c' (hr2.mono (by omega))) rfl (.inl (by rfl))) hco (h H1 eN T1)
    exact ⟨t', ht'.nox, hq'⟩
  refine wpAny_call (codeAny_mono rc fun r s2 hq => ?_)
  cases r with
  | error e => exact (show False from hq).elim
  | ok fl =>
    cases fl with
    | ret u => exact I1.after hq
    | next => exact False.elim hq
    | brk => exact False.elim hq
    | cont => exact False.elim hq
end WO

set_option Elab.async false
set_option linter.all false
set_option maxRecDepth 100000
set_option maxHeartbeats 4000000
namespace WO
open PySem PySem.Spec PyProof.Rows L2 WOm LamX
/-! ### data written out -/
def Lit (K : PySem.W.Frag) (σ : L2.St) (te : TE) (d : PyData) : Prop := ∀ H (Q : VK), (∀ v H', Same H H' → Dp K H' v d → Q v H') → te σ H Q
def Lits (K : PySem.W.Frag) (σ : L2.St) (ta : TA) (ds : List PyData) : Prop := ∀ H (Q : List V → Hp → Prop), (∀ vs H', Same H H' → DpAll K H' vs ds → Q vs H') → ta σ H Q
section
variable {K : PySem.W.Frag} {σ : L2.St}
theorem lit_non : Lit K σ (tC .non) .none := fun H Q q => q _ _ (Same.refl H) .non
theorem lit_bl {b : Bool} : Lit K σ (tC (.bl b)) (.bool b) := fun H Q q => q _ _ (Same.refl H) (.bl b)
theorem lit_int {i : Int} : Lit K σ (tC (.int i)) (.int i) := fun H Q q => q _ _ (Same.refl H) (.int i)
theorem lit_str {x : Str} : Lit K σ (tC (.str x)) (.str x) := fun H Q q => q _ _ (Same.refl H) (.str x)
theorem lit_neg {i : Int} : Lit K σ (tUn (rU fun i => .int (-i)) (tC (.int i))) (.int (-i)) := fun H Q q => ⟨i, rfl, q _ _ (Same.refl H) (.int (-i))⟩
theorem lit_var {j : Nat} {i : Int} (h : σ[j]? = some (some (.int i))) : Lit K σ (tVar j) (.int i) := fun H Q q => ⟨.int i, h, q _ _ (Same.refl H) (.int i)⟩
theorem lits_nil : Lits K σ tNil [] := fun H Q q => q [] _ (Same.refl H) .nil
theorem lits_cons {te : TE} {ta : TA} {d : PyData} {ds : List PyData} (h : Lit K σ te d) (k : Lits K σ ta ds) : Lits K σ (tCons te ta) (d :: ds) := fun H Q q =>
  h H _ fun v H1 s1 d1 => k H1 _ fun vs H2 s2 d2 => q (v :: vs) H2 (s1.trans s2) (.cons (dp_keep s2 d d1) d2)
theorem lit_tup {ta : TA} {ds : List PyData} (h : Lits K σ ta ds) (hl : ds.length ≤ 1000 := by decide) : Lit K σ (tTup ta) (.tuple ds) := fun H Q q =>
  h H _ fun vs H1 s1 d1 => ⟨few (by rw [dpAll_len d1]; omega), fun p np => q (.ref p) _ (s1.trans (same_upd np)) (.tup (SqT.of upd_same) (dpAll_keep (same_upd np) ds d1))⟩
theorem lit_lst {ta : TA} {ds : List PyData} (h : Lits K σ ta ds) (hl : ds.length ≤ 1000 := by decide) : Lit K σ (tLst ta) (.list ds) := fun H Q q =>
  h H _ fun vs H1 s1 d1 => ⟨few (by rw [dpAll_len d1]; omega), fun p np => q (.ref p) _ (s1.trans (same_upd np)) (.lst (SqL.of upd_same) (dpAll_keep (same_upd np) ds d1))⟩
theorem dpAll_app {H : Hp} : ∀ {us vs : List V} {ds es : List PyData}, DpAll K H us ds → DpAll K H vs es → DpAll K H (us ++ vs) (ds ++ es)
  | [], _, _, _, h, k => by cases h; exact k
  | u :: us, _, _, _, h, k => by
    cases h with
    | cons a b => exact .cons a (dpAll_app b k)
theorem dpAll_rep {H : Hp} {us : List V} {ds : List PyData} (h : DpAll K H us ds) : ∀ k : Nat, DpAll K H (List.replicate k us).flatten (List.replicate k ds).flatten
  | 0 => .nil
  | k + 1 => by
    rw [List.replicate_succ, List.replicate_succ, List.flatten_cons, List.flatten_cons]
    exact dpAll_app h (dpAll_rep h k)
theorem lit_rep {te : TE} {d : PyData} {k : Int} (h : Lit K σ te (.tuple [d])) (h1 : 2 ≤ k) (h2 : k ≤ 1000) : Lit K σ (tOp (rRepT K) te (tC (.int k))) (.tuple (List.replicate k.toNat [d]).flatten) := fun H Q q => by
  refine h H _ fun v H1 s1 d1 => ?_
  cases d1 with
  | @tup a xs ds e1 e2 =>
    have l := dpAll_len e2
    refine ⟨a, k, xs, rfl, rfl, e1, (fun z => by rw [z] at l; cases l), h1, h2, by rw [l]; show 1 ≤ 1000; omega, fun p np => ?_⟩
    exact q _ _ (s1.trans (same_upd np)) (.tup (SqT.of upd_same) (dpAll_rep (dpAll_keep (same_upd np) [d] e2) _))
end
/-! an expression that makes such a datum, in the states S -/
def PL (X : Cx) (S : L2.St → Prop) (e : Expr) (d : PyData) : Prop := ∃ te, PE X e te ∧ ∀ σ, S σ → Lit X.K σ te d
def PLs (X : Cx) (S : L2.St → Prop) (es : List Expr) (ds : List PyData) : Prop := ∃ ta, PA X es ta ∧ ∀ σ, S σ → Lits X.K σ ta ds
section
variable {X : Cx} {S : L2.St → Prop}
theorem pl_non {j pos} : PL X S (.Constant .none j pos) .none := ⟨_, pe_non, fun _ _ => lit_non⟩
theorem pl_bl {b j pos} : PL X S (.Constant (.bool b) j pos) (.bool b) := ⟨_, pe_bl, fun _ _ => lit_bl⟩
theorem pl_int {i j pos} : PL X S (.Constant (.int i) j pos) (.int i) := ⟨_, pe_int, fun _ _ => lit_int⟩
theorem pl_str {x j pos} : PL X S (.Constant (.str x) j pos) (.str x) := ⟨_, pe_str, fun _ _ => lit_str⟩
theorem pl_neg {i j pos pos2} : PL X S (.UnaryOp .USub (.Constant (.int i) j pos) pos2) (.int (-i)) := ⟨_, pe_un un_neg pe_int, fun _ _ => lit_neg⟩
theorem pl_nil : PLs X S [] [] := ⟨_, pa_nil, fun _ _ => lits_nil⟩
theorem pl_cons {e : Expr} {es : List Expr} {d : PyData} {ds : List PyData} (h : PL X S e d) (k : PLs X S es ds) (hs : starEach (e :: es) X.env = (false, eval e X.env) :: starEach es X.env := by rfl) : PLs X S (e :: es) (d :: ds) := by
  obtain ⟨t, h1, h2⟩ := h
  obtain ⟨u, k1, k2⟩ := k
  exact ⟨_, pa_cons h1 k1 (hs := hs), fun σ z => lits_cons (h2 σ z) (k2 σ z)⟩
theorem pl_tup {es : List Expr} {k : Nat} {pos : Pos} {ds : List PyData} (h : PLs X S es ds) (hl : ds.length ≤ 1000 := by decide) : PL X S (.Tuple es k pos) (.tuple ds) := by
  obtain ⟨t, h1, h2⟩ := h
  exact ⟨_, pe_tup h1, fun σ z => lit_tup (h2 σ z) hl⟩
theorem pl_lst {es : List Expr} {pos : Pos} {ds : List PyData} (h : PLs X S es ds) (hl : ds.length ≤ 1000 := by decide) : PL X S (.List es pos) (.list ds) := by
  obtain ⟨t, h1, h2⟩ := h
  exact ⟨_, pe_lst h1, fun σ z => lit_lst (h2 σ z) hl⟩
theorem pl_rep {e : Expr} {d : PyData} {k : Int} {j : Nat} {p1 p2 : Pos} (h : PL X S e (.tuple [d])) (h1 : 2 ≤ k) (h2 : k ≤ 1000) : PL X S (.BinOp e .Mult (.Constant (.int k) j p1) p2) (.tuple (List.replicate k.toNat [d]).flatten) := by
  obtain ⟨t, k1, k2⟩ := h
  exact ⟨_, pe_op op_repT k1 pe_int, fun σ z => lit_rep (k2 σ z) h1 h2⟩
end
/-! ### _law_bad_nets -/
def bads (n : Nat) : List PyData := [.none, .list [], .tuple [.tuple [.int 0, .int 0]], .tuple [.tuple [.int 1, .int 0]], .tuple [.tuple [.int 0, .int n]], .tuple [.tuple [.int (-1), .int 0]], .tuple [.list [.int 0, .int 1]], .tuple [.tuple [.int 0, .bool true]], .tuple [.tuple [.int 0, .int 1, .int 2]], .tuple [.int 0, .int 1]]
def bads2 : List PyData := [.tuple (List.replicate 121 [PyData.tuple [.int 0, .int 1]]).flatten, .str "0", .tuple [.tuple [.int 0, .none]], .tuple [.tuple [.int 0]]]
theorem bads_no {n : Nat} (h : Few n) : ∀ d ∈ bads n ++ bads2, fitsNet n d = false := by
  rcases h with e | e | e | e <;> subst e <;> decide +kernel
def bad1 : List Expr := match defBody (topS 44) with
  | [.Assign _ (.List es _) _, _] => es
  | _ => []
def bad2 : List Expr := match defBody (topS 44) with
  | [_, .Return (some (.BinOp _ _ (.List es _) _)) _] => es
  | _ => []
def spBad (K : PySem.W.Frag) : Sp := fun vs H Q _ => ∃ n : Nat, vs = [.int n] ∧ ∀ H' p xs, Same H H' → H' p = some (.lst xs) → DpAll K H' xs (bads n ++ bads2) → Q (.ref p) H'
section
variable {P : Program} {w : World} {K : PySem.W.Frag} {mg : Str → Option Value} {base : Heap}
theorem sc_bad : FnScope ["_law_size_so", "_law_odds"] ["_law_size_so"] (defScope (topS 44)) := C8.fnScope_by (by decide +kernel)
theorem c_bad (T : Tx K mg) : C8.Cal P w K mg base 1 "_law_bad_nets" (spBad K) [] := by
  refine cal_of T.d_bad_nets (fun _ _ _ _ _ _ us hl => match us, hl with | [_], _ => rfl) sc_bad (fun vs H Q E h => ?_) (fun f cdv A outer s H vs Q E hr h => ?_)
  · obtain ⟨n, rfl, _⟩ := h
    rfl
  · obtain ⟨n, rfl, q⟩ := h
    have h1 : PLs (cxOf CX0 P w K mg base ["_law_size_so", "_law_odds"] "_law_bad_nets" (defScope (topS 44)) f cdv A outer s H E).nox (fun σ => σ[0]? = some (some (.int n))) bad1 (bads n) :=
      pl_cons pl_non (pl_cons (pl_lst pl_nil) (pl_cons (pl_tup (pl_cons (pl_tup (pl_cons pl_int (pl_cons pl_int pl_nil))) pl_nil)) (pl_cons (pl_tup (pl_cons (pl_tup (pl_cons pl_int (pl_cons pl_int pl_nil))) pl_nil)) (pl_cons (pl_tup (pl_cons (pl_tup (pl_cons pl_int (pl_cons ⟨_, pv 0, fun σ z => lit_var z⟩ pl_nil)) (Nat.le_of_ble_eq_true rfl)) pl_nil) (Nat.le_of_ble_eq_true rfl))
        (pl_cons (pl_tup (pl_cons (pl_tup (pl_cons pl_neg (pl_cons pl_int pl_nil))) pl_nil)) (pl_cons (pl_tup (pl_cons (pl_lst (pl_cons pl_int (pl_cons pl_int pl_nil))) pl_nil)) (pl_cons (pl_tup (pl_cons (pl_tup (pl_cons pl_int (pl_cons pl_bl pl_nil))) pl_nil))
        (pl_cons (pl_tup (pl_cons (pl_tup (pl_cons pl_int (pl_cons pl_int (pl_cons pl_int pl_nil)))) pl_nil)) (pl_cons (pl_tup (pl_cons pl_int (pl_cons pl_int pl_nil))) pl_nil)))))))))
    have h2 : PLs (cxOf CX0 P w K mg base ["_law_size_so", "_law_odds"] "_law_bad_nets" (defScope (topS 44)) f cdv A outer s H E).nox (fun σ => σ[0]? = some (some (.int n))) bad2 bads2 :=
      pl_cons (pl_rep (pl_tup (pl_cons (pl_tup (pl_cons pl_int (pl_cons pl_int pl_nil))) pl_nil)) (by decide) (by decide)) (pl_cons pl_str (pl_cons (pl_tup (pl_cons (pl_tup (pl_cons pl_int (pl_cons pl_non pl_nil))) pl_nil)) (pl_cons (pl_tup (pl_cons (pl_tup (pl_cons pl_int pl_nil)) pl_nil)) pl_nil)))
    obtain ⟨t1, a1, k1⟩ := h1
    obtain ⟨t2, a2, k2⟩ := h2
    refine ⟨_, pss_cons (ps_set (i := 1) sc_bad.nd rfl (.inl rfl) (pe_lst a1)) (pss_one (ps_ret (pe_op op_cat (pv 1) (pe_lst a2)))), ?_⟩
    refine k1 _ rfl H _ fun us H1 s1 d1 => ?_
    have l1 : us.length = 10 := dpAll_len d1
    refine ⟨few (by omega), fun l nl => ⟨.ref l, rfl, ?_⟩⟩
    generalize hH2 : upd H1 l _ = H2
    have s2 : Same H1 H2 := hH2 ▸ same_upd nl
    have e2 : H2 l = some (.lst us) := hH2 ▸ upd_same
    refine k2 _ rfl H2 _ fun vs H3 s3 d3 => ?_
    have l3 : vs.length = 4 := dpAll_len d3
    refine ⟨few (by omega), fun l2 nl2 => ?_⟩
    generalize hH4 : upd H3 l2 _ = H4
    have s4 : Same H3 H4 := hH4 ▸ same_upd nl2
    have e4 : H4 l2 = some (.lst vs) := hH4 ▸ upd_same
    refine ⟨l, l2, us, vs, rfl, rfl, s4 _ _ (s3 _ _ e2), e4, few (by omega), fun p np => ?_⟩
    have s5 : Same H4 (upd H4 p (.lst (us ++ vs))) := same_upd np
    exact q _ p _ ((((s1.trans s2).trans s3).trans s4).trans s5) upd_same (dpAll_app (dpAll_keep (((s2.trans s3).trans s4).trans s5) _ d1) (dpAll_keep (s4.trans s5) _ d3))
end
end WO

set_option Elab.async false
set_option linter.all false
set_option maxRecDepth 100000
set_option maxHeartbeats 4000000
namespace WO
open PySem PySem.Spec PyProof.Rows L2 WOm LamX
/-! ### what a refusal tells -/
/-- the three kinds of errors that come -/
structure Errs (K : PySem.W.Frag) : Prop where
  many : ErrC K (He.ga K "InvalidMany") [false, true, false, false, false, false, false, false, true]
  net : ErrC K (He.ga K "InvalidNet") [false, false, false, false, true, false, false, false, true]
  too : ErrC K (He.ga K "TooMany") [false, false, false, false, false, false, false, true, true]
  xm : PySem.W.exmOne K (.ref (He.ga K "InvalidMany")) (.ref (He.ga K "OrderError")) = some true
  xn : PySem.W.exmOne K (.ref (He.ga K "InvalidNet")) (.ref (He.ga K "OrderError")) = some true
  xt : PySem.W.exmOne K (.ref (He.ga K "TooMany")) (.ref (He.ga K "OrderError")) = some true
def sayOf : Nat → Str
  | 1 => "many value"
  | 2 => "net value"
  | 3 => "toomany value"
  | _ => ""
theorem word_many : wordOf [false, true, false, false, false, false, false, false, true] = sayOf 1 := by decide +kernel
theorem word_net : wordOf [false, false, false, false, true, false, false, false, true] = sayOf 2 := by decide +kernel
theorem word_too : wordOf [false, false, false, false, false, false, false, true, true] = sayOf 3 := by decide +kernel
theorem told_of {K : PySem.W.Frag} (ER : Errs K) {d e : PyData} {H : Hp} {Q : VK} {j : Nat} (hj : outS d e = j) (q : ∀ H', Same H H' → Q (.str (sayOf j)) H') : RefuseS K d e H (Told K Q) := by
  subst hj
  refine ⟨fun h H' s => ⟨_, _, rfl, ER.many, ER.xm, (fun dx z => by cases z), fun H'' s' => ?_⟩, fun h H' s => ⟨_, _, rfl, ER.net, ER.xn, (fun dx z => by cases z), fun H'' s' => ?_⟩, fun h H' dx s x => ⟨_, _, rfl, ER.too, ER.xt, fun dx' z => (by cases z; exact x), fun H'' s' => ?_⟩⟩
  · rw [word_many, ← h]; exact q H'' (s.trans s')
  · rw [word_net, ← h]; exact q H'' (s.trans s')
  · rw [word_too, ← h]; exact q H'' (s.trans s')
/-! ### a call by a variable -/
/-- one of the two defs -/
def MoreFn (P : Program) (w : World) (K : PySem.W.Frag) (mg : Str → Option Value) (base : Heap) (f : Addr) : Prop := ∃ (fd : FuncData) (ps : List Str) (R : List Cmp → Hp → VK → Prop), FnOk P w K mg base (L2N.CX P w) 6 f fd ps (spMore K R) ∧ PySem.W.keepIn K (.ref f) = true ∧ Binds K fd ps []
/-- it refuses -/
def spAny (K : PySem.W.Frag) : Sp := fun vs H _ E => ∃ v u d e, vs = [v, u] ∧ Dp K H v d ∧ Dp K H u e ∧ outS d e ≠ 0 ∧ RefuseS K d e H E
theorem spAny_more {K : PySem.W.Frag} {R : List Cmp → Hp → VK → Prop} {vs : List V} {H : Hp} {Q : VK} {E : XK} (h : spAny K vs H Q E) : spMore K R vs H Q E := by
  obtain ⟨v, u, d, e, h1, h2, h3, h4, h5⟩ := h
  exact ⟨v, u, d, e, h1, h2, h3, fun z => absurd z h4, h5⟩
theorem pe_cvN {X : Cx} {W : WX} {k i : Nat} {a : Str} {p1 pos : Pos} {e : Expr} {es : List Expr} {ta : TA} (hr : Room k X.A) (hk : 6 ≤ k) (tk : L2N.Takes X W) (hN : X.N[i]? = some a) (hv : Vis X.env.scope a) (ha : PA X (e :: es) ta)
    (hd : (a == ("__debug__" : Str)) = false := by decide) (hcd : (a == ("__classdict__" : Str)) = false := by decide) (he : starEach (e :: es) X.env = (false, eval e X.env) :: starEach es X.env := by rfl) (hpl : (backTo pos (starEach es X.env)).any (·.1) = false := by rfl) :
    PE X (.Call (.Name a p1) (e :: es) [] pos) (fun σ H Q => ∃ f : Addr, σ[i]? = some (some (.ref f)) ∧ MoreFn X.prog X.w X.K X.mg X.base f ∧ ta σ H fun vs H1 => spAny X.K vs H1 Q (WE W σ)) := by
  refine ⟨fun pins s σ H Q I h => ?_⟩
  obtain ⟨f, hs, ⟨fd, ps, R, F, kp, b⟩, h⟩ := h
  refine wpAny_Call_Name_kw (thn ((pe_var (pos := p1) (i := i) hN hv hd hcd).run pins s σ H (fun v H1 => v = .ref f ∧ H1 = H) I ⟨.ref f, hs, rfl, rfl⟩) fun u s1 ⟨v, H1, I1, r1, ev, eH⟩ => ?_)
  subst ev eH
  obtain rfl : u = Value.ref f := r1
  refine PySem.W.callWith_K (h₀ := X.base) I1.ok.mod.kin kp (thn (ha.run pos pins s1 σ H1 _ I1 h) fun us s2 ⟨vs, H2, I2, r, q⟩ => ⟨I2.kIn, ?_⟩) he hpl
  exact run_fnS F (hr.mono hk) b (E := WE W) (L2N.passAt tk σ) I2 r (spAny_more q)
/-! ### what stays while tables are written -/
theorem ExtN.sqL {K : PySem.W.Frag} {H H' : Hp} {a : Addr} {xs : List V} (e : ExtN H H') (h : SqL K H a xs) : SqL K H' a xs := by
  rcases h with (h | ⟨o, h⟩) | h
  · exact .inl (.inl (e _ _ h (fun ps z => by cases z)))
  · exact .inl (.inr ⟨o, e _ _ h (fun ps z => by cases z)⟩)
  · exact .inr h
theorem ExtN.sqT {K : PySem.W.Frag} {H H' : Hp} {a : Addr} {xs : List V} (e : ExtN H H') (h : SqT K H a xs) : SqT K H' a xs := by
  rcases h with (h | ⟨o, h⟩) | h
  · exact .inl (.inl (e _ _ h (fun ps z => by cases z)))
  · exact .inl (.inr ⟨o, e _ _ h (fun ps z => by cases z)⟩)
  · exact .inr h
mutual
theorem dp_ext {K : PySem.W.Frag} {H H' : Hp} (e : ExtN H H') : ∀ {v : V} (d : PyData), Dp K H v d → Dp K H' v d
  | _, .none, h => by cases h; exact .non
  | _, .bool b, h => by cases h; exact .bl b
  | _, .int i, h => by cases h; exact .int i
  | _, .str x, h => by cases h; exact .str x
  | _, .list ds, h => by
    cases h with
    | lst h1 h2 => exact .lst (ExtN.sqL e h1) (dpAll_ext e ds h2)
  | _, .tuple ds, h => by
    cases h with
    | tup h1 h2 => exact .tup (ExtN.sqT e h1) (dpAll_ext e ds h2)
  | _, .dict _, h => by cases h
theorem dpAll_ext {K : PySem.W.Frag} {H H' : Hp} (e : ExtN H H') : ∀ {vs : List V} (ds : List PyData), DpAll K H vs ds → DpAll K H' vs ds
  | _, [], h => by cases h; exact .nil
  | _, d :: ds, h => by
    cases h with
    | cons h1 h2 => exact .cons (dp_ext e d h1) (dpAll_ext e ds h2)
end
theorem Same.extN {H H' : Hp} (s : Same H H') : ExtN H H' := ExtN.of s
theorem Tabs.same {TT : List (Addr × Str)} {H H' : Hp} (t : Tabs TT H) (s : Same H H') : Tabs TT H' := t.ext s
theorem ext_lst {H H' : Hp} (e : ExtN H H') {a : Addr} {xs : List V} (h : H a = some (.lst xs)) : H' a = some (.lst xs) := e _ _ h (fun ps z => by cases z)
theorem ext_tup {H H' : Hp} (e : ExtN H H') {a : Addr} {xs : List V} (h : H a = some (.tup xs)) : H' a = some (.tup xs) := e _ _ h (fun ps z => by cases z)
end WO

set_option Elab.async false
set_option linter.all false
set_option maxRecDepth 100000
set_option maxHeartbeats 400000
namespace WO
open PySem PySem.Spec PyProof.Rows L2 WOm LamX
/-! ### _law_refused -/
def tCv (P : Program) (w : World) (K : PySem.W.Frag) (mg : Str → Option Value) (base : Heap) (i : Nat) (ta : TA) (E : XK) : TE := fun σ H Q => ∃ f : Addr, σ[i]? = some (some (.ref f)) ∧ MoreFn P w K mg base f ∧ ta σ H fun vs H1 => spAny K vs H1 Q E
theorem pe_lamBody {X : Cx} {A : Around} {outer : List Env} {s : Shared} {H : Hp} {E : XK} {scope : Scope} {f c' : Addr} {k i : Nat} {a : Str} {p1 pos : Pos} {e : Expr} {es : List Expr} {ta : TA} (hr : Room k (A.deeper (lamEnv X scope s.heap.objs.size f c'))) (hk : 6 ≤ k) (hN : X.N[i]? = some a) (hv : scope.names.lookup a = some .free) (ha : PA (lamN X A outer s H E scope f c') (e :: es) ta)
    (hd : (a == ("__debug__" : Str)) = false := by decide) (hcd : (a == ("__classdict__" : Str)) = false := by decide) (he : starEach (e :: es) (lamEnv X scope s.heap.objs.size f c') = (false, eval e (lamEnv X scope s.heap.objs.size f c')) :: starEach es (lamEnv X scope s.heap.objs.size f c') := by rfl) (hpl : (backTo pos (starEach es (lamEnv X scope s.heap.objs.size f c'))).any (·.1) = false := by rfl) :
    PE (lamN X A outer s H E scope f c') (.Call (.Name a p1) (e :: es) [] pos) (tCv X.prog X.w X.K X.mg X.base i ta E) :=
  pe_cvN (X := lamN X A outer s H E scope f c') (W := fun cls d _ H => E cls d H) hr hk takes_lamN hN (.inr (.inr hv)) ha hd hcd he hpl
abbrev nRef : List Str := ["_law_size_so", "_law_net_so", "_law_words", "_law_call", "_law_odd"]
theorem sc_ref : FnScope nRef ["_law_size_so", "_law_net_so"] (defScope (topS 47)) := C8.fnScope_by (by decide +kernel)
def qRef : Str := ("_law_refused" : Str) ++ ".<locals>." ++ "<lambda>"
def spRef (c P0 : Addr) : Sp := fun vs H Q _ => ∃ (n : Nat) (a : Addr), vs = [.int n, .ref a] ∧ Few n ∧ Tabs [(P0, qRef)] H ∧ ∀ H', ExtN H H' → Tabs [(P0, qRef)] H' → Q (.bl true) H'
section
variable {P : Program} {w : World} {K : PySem.W.Frag} {mg : Str → Option Value} {base : Heap}
abbrev cxR (P : Program) (w : World) (K : PySem.W.Frag) (mg : Str → Option Value) (base : Heap) (f c : Addr) (A : Around) (outer : List Env) (s : Shared) (H : Hp) (E : XK) : Cx := (cxOf C8.CX0 P w K mg base nRef "_law_refused" (defScope (topS 47)) f (.ref c) A outer s H E).nox
/-- what the head tells of the def -/
structure RefD (K : PySem.W.Frag) (mg : Str → Option Value) (c : Addr) : Prop where
  ex : ∃ (f : Addr) (oc : Value) (od : Option Addr) (dV kV doc pm : Value) (an : Option Addr) (ct : Value) (osl : Array (Option Value)), K.lookup f = some ⟨oc, od, .func (PySem.W.fnOf "_law_refused" "_law_refused" (defArgs (topS 47)) (defBody (topS 47)) (defScope (topS 47)) dV kV doc pm an (.ref c) ct), osl⟩ ∧
    PySem.W.codeIn K (.ref c) "_law_refused" = true ∧ mg "_law_refused" = some (.ref f) ∧ PySem.W.keepIn K (.ref f) = true ∧ Binds K (PySem.W.fnOf "_law_refused" "_law_refused" (defArgs (topS 47)) (defBody (topS 47)) (defScope (topS 47)) dV kV doc pm an (.ref c) ct) ["_law_size_so", "_law_net_so"] []
theorem outS_net {n : Nat} (h : Few n) {d : PyData} (hd : fitsNet n d = false) : outS (.int n) d = 2 := by
  obtain ⟨h1, h4⟩ := few_bd h
  show (if wholeD (.int n) 1 30 = true then (if fitsNet n d = true then (if (n : Int) ≤ 4 then 0 else 3) else 2) else 1) = 2
  rw [if_pos (whole_few h1 (by omega)), if_neg (by rw [hd]; decide)]
theorem outS_odd : ∀ d ∈ [PyData.none, .int 0, .int 31, .bool true], outS d .none = 1 := by decide +kernel
theorem outS_five : outS (.int 5) (.tuple []) = 3 := by decide +kernel
theorem outS_five2 : outS (.int 5) .none = 2 := by decide +kernel
theorem ne_same (x : Str) : (V.bl (!decide (V.str x = V.str x))) = V.bl false := by rw [decide_eq_true rfl]; rfl
theorem ext_free {H : Hp} {D : Addr} {o : HO} (n : H D = none) : ExtN H (upd H D o) := fun b u e _ => by rw [upd_ne (ne_of_none e n)]; exact e
theorem tab_s {TT : List (Addr × Str)} {H H' : Hp} (t : Tabs TT H) (s : Same H H') : Tabs TT H' := Tabs.same t s
theorem tb_hu {P0 : Addr} {q : Str} (h : q = qRef) : ∀ p ∈ [(P0, qRef)], p.1 = P0 → p.2 = q := fun p m _ => by rw [List.mem_singleton.mp m, h]
theorem tb_mem {P0 : Addr} {q : Str} (h : q = qRef) : (P0, q) ∈ [(P0, qRef)] := by rw [h]; exact List.mem_singleton.mpr rfl
theorem c_ref (T : Tx K mg) (Y : Ty K mg) (TM : TmRule P w K mg base) (ER : Errs K) (hO : mg "OrderError" = some (.ref (He.ga K "OrderError"))) {c P0 : Addr} (TB : TabB base mg c P0) (D : RefD K mg c) : C8.Cal P w K mg base 11 "_law_refused" (spRef c P0) [] := by
  obtain ⟨f, oc, od, dV, kV, doc, pm, an, ct, osl, lk, hcd, hm, kp, hb⟩ := D.ex
  obtain ⟨f1, fd1, ps1, F1, hm1, kp1, bb1⟩ := (c_fewest (P := P) (w := w) (base := base) T TM).ex
  obtain ⟨f2, fd2, ps2, F2, hm2, kp2, bb2⟩ := (c_more (P := P) (w := w) (base := base) T TM).ex
  have M1 : MoreFn P w K mg base f1 := ⟨fd1, ps1, rLen, F1, kp1, bb1⟩
  have M2 : MoreFn P w K mg base f2 := ⟨fd2, ps2, rNet, F2, kp2, bb2⟩
  refine ⟨f, _, ["_law_size_so", "_law_net_so"], [], fn_of lk hcd sc_ref (fun vs H Q E h => ?_) (fun A outer s H vs Q E hr h => ?_), hm, kp, hb, .nil⟩
  · obtain ⟨n, a, rfl, _⟩ := h
    rfl
  · obtain ⟨n, a, rfl, hfew, hT, q⟩ := h
    have wd : ∀ {X : Cx} {params : Arguments} {body : Expr} {scope : Scope} {ta : TA} {p lpos pos : Pos}, X.prog = P → X.w = w → X.K = K → X.mg = mg → X.base = base → X.A = A.deeper (envOfC "_law_refused" (defScope (topS 47)) s.heap.objs.size f (.ref c)) → X.env.code = .ref c → X.env.qual ++ "<lambda>" = qRef → Gl X "_law_word" → LamS X.env.scope scope → defaultsOf params X.env = ([], []) →
        (∀ (q : Str) (cl : List (Str × Addr)) (pm cv ctv : Value), bindArgs (PySem.W.kla_fn "<lambda>" q params body scope cl pm cv ctv) ⟨[], []⟩ = pure []) →
        (∀ (A : Around) (outer : List Env) (s : Shared) (H : Hp) (E : XK) (f c' : Addr), Room 6 (A.deeper (lamEnv X scope s.heap.objs.size f c')) → PE (lamN X A outer s H E scope f c') body (tCv P w K mg base 3 ta E)) →
        PE X (.Call (.Name "_law_word" p) [.Lambda params body scope lpos] [] pos) (tWord K [(P0, qRef)] (tCv P w K mg base 3 ta)) := by
      intro X params body scope ta p lpos pos e1 e2 e3 e4 e5 e6 hcode hq hg L hdef hbind hbody
      subst e1 e2 e3 e4 e5
      exact pe_word (k := 5) T Y hO hg TB hcode (tb_mem hq) (tb_hu hq) (by rw [e6]; exact hr.mono (by decide)) L hdef hbind hbody
    refine ⟨_, PSs.nox (pss_cons (ps_for PassesOwn.never rfl (pi_tup (pe_tup (pa_cons (pe_glob (v := .ref f1) (by rfl) hm1 rfl) (pa_cons (pe_glob (v := .ref f2) (by rfl) hm2 rfl) pa_nil)))) (pg_name (i := 3) sc_ref.nd rfl (.inr rfl))
        (pss_cons (ps_if (pt_cmpR (op_neD hr.units) (pe_lc (own := [("_law_odd", 4)]) (g := gName 4) (by rfl) sc_ref.nd (pi_list (C8.pe_c (c_bad T) hr (by decide) (by rfl) (pa_cons (pv 0) pa_nil))) (blkOk_by (N := nRef) (sc := defScope (topS 47)) (by decide +kernel)) (fun _ _ _ _ _ => pg_name (i := 4) sc_ref.nd rfl (.inr rfl))
            (fun _ _ _ _ _ => pts_one (pt_cmpR op_ne (wd rfl rfl rfl rfl rfl rfl rfl rfl (by rfl) (lamS_by (by rfl)) rfl (fun _ _ _ _ _ => rfl) (fun _ _ _ _ _ _ _ hr2 => pe_lamBody hr2 (by decide) rfl (by rfl) (pa_cons (pv 0) (pa_cons (pv 4) pa_nil)))) pe_str (nomark _))) (fun _ _ _ _ _ => pv 4)) (pe_lst pa_nil) (nomark _)) (pss_one (ps_ret pe_bl)) pss_nil)
        (pss_cons (ps_if (pt_cmpR (op_neD hr.units) (pe_lc (own := [("_law_odd", 4)]) (g := gName 4) (by rfl) sc_ref.nd (pi_tup (pe_tup (pa_cons pe_non (pa_cons pe_int (pa_cons pe_int (pa_cons pe_bl pa_nil)))))) (blkOk_by (N := nRef) (sc := defScope (topS 47)) (by decide +kernel)) (fun _ _ _ _ _ => pg_name (i := 4) sc_ref.nd rfl (.inr rfl))
            (fun _ _ _ _ _ => pts_one (pt_cmpR op_ne (wd rfl rfl rfl rfl rfl rfl rfl rfl (by rfl) (lamS_by (by rfl)) rfl (fun _ _ _ _ _ => rfl) (fun _ _ _ _ _ _ _ hr2 => pe_lamBody hr2 (by decide) rfl (by rfl) (pa_cons (pv 4) (pa_cons pe_non pa_nil)))) pe_str (nomark _))) (fun _ _ _ _ _ => pv 4)) (pe_lst pa_nil) (nomark _)) (pss_one (ps_ret pe_bl)) pss_nil)
        (pss_cons (ps_set (i := 2) sc_ref.nd rfl (.inl rfl) (pe_lst (pa_cons (wd rfl rfl rfl rfl rfl rfl rfl rfl (by rfl) (lamS_by (by rfl)) rfl (fun _ _ _ _ _ => rfl) (fun _ _ _ _ _ _ _ hr2 => pe_lamBody hr2 (by decide) rfl (by rfl) (pa_cons pe_int (pa_cons (pe_tup pa_nil) pa_nil)))) pa_nil)))
        (pss_one (ps_if (pt_cmpR (op_neD hr.units) (pe_op op_cat (pv 2) (pe_lst (pa_cons (wd rfl rfl rfl rfl rfl rfl rfl rfl (by rfl) (lamS_by (by rfl)) rfl (fun _ _ _ _ _ => rfl) (fun _ _ _ _ _ _ _ hr2 => pe_lamBody hr2 (by decide) rfl (by rfl) (pa_cons pe_int (pa_cons pe_non pa_nil)))) pa_nil))) (pe_lst (pa_cons pe_str (pa_cons pe_str pa_nil))) (nomark _)) (pss_one (ps_ret pe_bl)) pss_nil)))))) (pss_one (ps_ret pe_bl))), ?_⟩
    refine ⟨few2, fun tp ntp => ?_⟩
    generalize hH0 : upd H tp _ = H0
    have s0 : Same H H0 := hH0 ▸ same_upd ntp
    have e0 : H0 tp = some (.tup [.ref f1, .ref f2]) := hH0 ▸ upd_same
    refine ⟨tp, rfl, ⟨_, SqT.of e0⟩, for_tup (xs := [V.ref f1, .ref f2]) (fun i σ H2 => ∃ y2 y3, σ = [some (.int n), some (.ref a), y2, y3, none] ∧ ExtN H0 H2 ∧ Tabs [(P0, qRef)] H2) ⟨none, none, rfl, ExtN.refl H0, tab_s hT s0⟩ ?_ ?_ ?_⟩
    · rintro i σ H2 _ ⟨y2, y3, rfl, x2, _⟩
      exact SqT.of (ext_tup x2 e0)
    · rintro i x σ H2 hx ⟨y2, y3, rfl, x2, t2⟩
      obtain ⟨fx, rfl, Mx⟩ : ∃ fx, x = V.ref fx ∧ MoreFn P w K mg base fx := by
        match i, hx with
        | 0, hx => exact ⟨f1, (Option.some.inj hx).symm, M1⟩
        | 1, hx => exact ⟨f2, (Option.some.inj hx).symm, M2⟩
        | j + 2, hx => simp at hx
      refine ⟨.int n, rfl, n, rfl, fun H3 p xs s3 e3 d3 => ⟨p, rfl, ⟨_, SqL.of e3⟩, fun D3 hD3 => lc_list (xs := xs) (fun i H => ExtN H3 H ∧ Tabs [(P0, qRef)] H ∧ H D3 = some (.lst [])) ⟨ext_free hD3, tab_s (tab_s t2 s3) (same_upd hD3), upd_same⟩ ?_ ?_ ?_⟩⟩
      · rintro i H4 _ ⟨x4, _⟩
        exact SqL.of (ext_lst x4 e3)
      · rintro i y H4 hy ⟨x4, t4, e4⟩
        obtain ⟨dy, hdy, dpy⟩ := dpAll_at d3 hy
        have bad := bads_no hfew dy (List.mem_of_getElem? hdy)
        refine ⟨rfl, t4, fun H5 x5 t5 => ⟨fx, rfl, Mx, .int n, rfl, y, rfl, .int n, y, .int n, dy, rfl, .int _, dp_ext (x4.trans x5) dy dpy, by rw [outS_net hfew bad]; decide, told_of ER (outS_net hfew bad) fun H6 s6 => ⟨rfl, false, ne_same _, iteF ⟨(x4.trans x5).trans (Same.extN s6), tab_s t5 s6, s6 _ _ (ext_lst x5 e4)⟩⟩⟩⟩
      · rintro H4 ⟨x4, t4, e4⟩
        refine ⟨few0, fun l4 n4 => ?_⟩
        generalize hH5 : upd H4 l4 _ = H5
        have s5 : Same H4 H5 := hH5 ▸ same_upd n4
        have e5 : H5 l4 = some (.lst []) := hH5 ▸ upd_same
        refine ⟨.list [], .list [], .lst (SqL.of (s5 _ _ e4)) .nil, .lst (SqL.of e5) .nil, rfl, rfl, false, rfl, iteF ?_⟩
        have x05 : ExtN H0 H5 := ((x2.trans (Same.extN s3)).trans x4).trans (Same.extN s5)
        have t5 := tab_s t4 s5
        -- the second
        refine ⟨few (n := 4) (by decide), fun tq ntq => ?_⟩
        generalize hH6 : upd H5 tq _ = H6
        have s6 : Same H5 H6 := hH6 ▸ same_upd ntq
        have e6 : H6 tq = some (.tup [.non, .int 0, .int 31, .bl true]) := hH6 ▸ upd_same
        have d6 : DpAll K H6 [V.non, .int 0, .int 31, .bl true] [.none, .int 0, .int 31, .bool true] := .cons .non (.cons (.int _) (.cons (.int _) (.cons (.bl _) .nil)))
        refine ⟨tq, rfl, ⟨_, SqT.of e6⟩, fun D6 hD6 => lc_tup (xs := [V.non, .int 0, .int 31, .bl true]) (fun i H => ExtN H6 H ∧ Tabs [(P0, qRef)] H ∧ H D6 = some (.lst [])) ⟨ext_free hD6, tab_s (tab_s t5 s6) (same_upd hD6), upd_same⟩ ?_ ?_ ?_⟩
        · rintro i H7 _ ⟨x7, _⟩
          exact SqT.of (ext_tup x7 e6)
        · rintro i y H7 hy ⟨x7, t7, e7⟩
          obtain ⟨dy, hdy, dpy⟩ := dpAll_at d6 hy
          have bad := outS_odd dy (List.mem_of_getElem? hdy)
          refine ⟨rfl, t7, fun H8 x8 t8 => ⟨fx, rfl, Mx, y, rfl, y, .non, dy, .none, rfl, dp_ext (x7.trans x8) dy dpy, .non, by rw [bad]; decide, told_of ER bad fun H9 s9 => ⟨rfl, false, ne_same _, iteF ⟨(x7.trans x8).trans (Same.extN s9), tab_s t8 s9, s9 _ _ (ext_lst x8 e7)⟩⟩⟩⟩
        · rintro H7 ⟨x7, t7, e7⟩
          refine ⟨few0, fun l7 n7 => ?_⟩
          generalize hH8 : upd H7 l7 _ = H8
          have s8 : Same H7 H8 := hH8 ▸ same_upd n7
          have e8 : H8 l7 = some (.lst []) := hH8 ▸ upd_same
          refine ⟨.list [], .list [], .lst (SqL.of (s8 _ _ e7)) .nil, .lst (SqL.of e8) .nil, rfl, rfl, false, rfl, iteF ?_⟩
          have x08 : ExtN H0 H8 := ((x05.trans (Same.extN s6)).trans x7).trans (Same.extN s8)
          have t8 := tab_s t7 s8
          -- the words
          refine ⟨t8, fun H9 x9 t9 => ⟨fx, rfl, Mx, few0, fun tz ntz => ?_⟩⟩
          generalize hH10 : upd H9 tz _ = H10
          have s10 : Same H9 H10 := hH10 ▸ same_upd ntz
          have e10 : H10 tz = some (.tup []) := hH10 ▸ upd_same
          refine ⟨.int 5, .ref tz, .int 5, .tuple [], rfl, .int _, .tup (SqT.of e10) .nil, by rw [outS_five]; decide, told_of ER outS_five fun H11 s11 => ⟨few1, fun l11 n11 => ?_⟩⟩
          generalize hH12 : upd H11 l11 _ = H12
          have s12 : Same H11 H12 := hH12 ▸ same_upd n11
          have e12 : H12 l11 = some (.lst [.str (sayOf 3)]) := hH12 ▸ upd_same
          have x12 : ExtN H0 H12 := (((x08.trans x9).trans (Same.extN s10)).trans (Same.extN s11)).trans (Same.extN s12)
          have t12 := tab_s (tab_s (tab_s t9 s10) s11) s12
          refine ⟨.ref l11, rfl, t12, fun H13 x13 t13 => ⟨fx, rfl, Mx, .int 5, .non, .int 5, .none, rfl, .int _, .non, by rw [outS_five2]; decide, told_of ER outS_five2 fun H14 s14 => ⟨few1, fun l14 n14 => ?_⟩⟩⟩
          generalize hH15 : upd H14 l14 _ = H15
          have s15 : Same H14 H15 := hH15 ▸ same_upd n14
          have e15 : H15 l14 = some (.lst [.str (sayOf 2)]) := hH15 ▸ upd_same
          refine ⟨l11, l14, _, _, rfl, rfl, s15 _ _ (s14 _ _ (ext_lst x13 e12)), e15, few2, fun l16 n16 => ?_⟩
          generalize hH16 : upd H15 l16 _ = H16
          have s16 : Same H15 H16 := hH16 ▸ same_upd n16
          have e16 : H16 l16 = some (.lst [.str (sayOf 3), .str (sayOf 2)]) := hH16 ▸ upd_same
          refine ⟨few2, fun l17 n17 => ?_⟩
          generalize hH17 : upd H16 l17 _ = H17
          have s17 : Same H16 H17 := hH17 ▸ same_upd n17
          have e17 : H17 l17 = some (.lst [.str "toomany value", .str "net value"]) := hH17 ▸ upd_same
          refine ⟨.list [.str (sayOf 3), .str (sayOf 2)], .list [.str "toomany value", .str "net value"], .lst (SqL.of (s17 _ _ e16)) (.cons (.str _) (.cons (.str _) .nil)), .lst (SqL.of e17) (.cons (.str _) (.cons (.str _) .nil)), by decide +kernel, by decide +kernel, false, by decide +kernel, iteF ?_⟩
          exact ⟨_, some (.ref fx), rfl, ((((x12.trans x13).trans (Same.extN s14)).trans (Same.extN s15)).trans (Same.extN s16)).trans (Same.extN s17), tab_s (tab_s (tab_s (tab_s t13 s14) s15) s16) s17⟩
    · rintro σ H2 ⟨y2, y3, rfl, x2, t2⟩
      exact q H2 ((Same.extN s0).trans x2) t2
end
end WO

set_option Elab.async false
set_option linter.all false
set_option maxRecDepth 100000
set_option maxHeartbeats 800000
namespace WO
open PySem PySem.Spec PyProof.Rows L2 WOm LamX
/-! ### nets written out -/
def PCm (X : Cx) (e : Expr) (c : Cmp) : Prop := ∃ te, PE X e te ∧ ∀ σ H (Q : VK), (∀ H' p, Same H H' → CmpAt H' p c → Q (.ref p) H') → te σ H Q
def PNs (X : Cx) (es : List Expr) (net : List Cmp) : Prop := ∃ ta, PA X es ta ∧ ∀ σ H (Q : List V → Hp → Prop), (∀ H' (as : List Addr), Same H H' → as.length = net.length → (∀ (i : Nat) (c : Cmp), net[i]? = some c → ∃ p : Addr, as[i]? = some p ∧ CmpAt H' p c) → Q (as.map V.ref) H') → ta σ H Q
def PNt (X : Cx) (e : Expr) (net : List Cmp) : Prop := ∃ te, PE X e te ∧ ∀ σ H (Q : VK), (∀ H' p, Same H H' → NetAt H' p net → Q (.ref p) H') → te σ H Q
section
variable {X : Cx}
theorem pcm {a b : Nat} {j1 j2 k : Nat} {p1 p2 p3 : Pos} (h1 : starEach [Expr.Constant (.int (a : Int)) j1 p1, .Constant (.int (b : Int)) j2 p2] X.env = (false, eval (.Constant (.int (a : Int)) j1 p1) X.env) :: starEach [.Constant (.int (b : Int)) j2 p2] X.env := by rfl) : PCm X (.Tuple [.Constant (.int (a : Int)) j1 p1, .Constant (.int (b : Int)) j2 p2] k p3) (a, b) :=
  ⟨_, pe_tup (pa_cons pe_int (pa_cons pe_int pa_nil)), fun σ H Q q => ⟨few2, fun p np => q _ p (same_upd np) upd_same⟩⟩
theorem pns_nil : PNs X [] [] := ⟨_, pa_nil, fun σ H Q q => q H [] (Same.refl H) rfl (fun i c h => by simp at h)⟩
theorem pns_cons {e : Expr} {es : List Expr} {c : Cmp} {net : List Cmp} (h : PCm X e c) (k : PNs X es net) (hs : starEach (e :: es) X.env = (false, eval e X.env) :: starEach es X.env := by rfl) : PNs X (e :: es) (c :: net) := by
  obtain ⟨t, h1, h2⟩ := h
  obtain ⟨u, k1, k2⟩ := k
  refine ⟨_, pa_cons h1 k1 (hs := hs), fun σ H Q q => h2 σ H _ fun H1 p s1 hp => k2 σ H1 _ fun H2 as s2 hl has => q H2 (p :: as) (s1.trans s2) (by rw [List.length_cons, List.length_cons, hl]) fun i c' hi => ?_⟩
  cases i with
  | zero =>
    obtain rfl := Option.some.inj hi
    exact ⟨p, rfl, s2 _ _ hp⟩
  | succ i =>
    obtain ⟨p', e1, e2⟩ := has i c' (by simpa using hi)
    exact ⟨p', by simpa using e1, e2⟩
theorem pnt {es : List Expr} {k : Nat} {pos : Pos} {net : List Cmp} (h : PNs X es net) (hl : net.length ≤ 1000 := by decide) : PNt X (.Tuple es k pos) net := by
  obtain ⟨t, h1, h2⟩ := h
  refine ⟨_, pe_tup h1, fun σ H Q q => h2 σ H _ fun H1 as s1 hla has => ⟨few (by rw [List.length_map]; omega), fun p np => q _ p (s1.trans (same_upd np)) ⟨as, upd_same, hla, fun i c hi => ?_⟩⟩⟩
  obtain ⟨p', e1, e2⟩ := has i c hi
  exact ⟨p', e1, same_upd np _ _ e2⟩
end
theorem net_take {H H' : Hp} {a p : Addr} {net : List Cmp} {xs : List V} (h : NetAt H a net) (s : Same H H') (k : Nat) (e : H a = some (.tup xs)) (e' : H' p = some (.tup (xs.take k))) : NetAt H' p (net.take k) := by
  obtain ⟨as, h1, h2, h3⟩ := h
  rw [e] at h1
  cases h1
  refine ⟨as.take k, by rw [e', List.map_take], by rw [List.length_take, List.length_take, h2], fun i c hi => ?_⟩
  rw [List.getElem?_take] at hi
  by_cases hik : i < k
  · rw [if_pos hik] at hi
    obtain ⟨p', k1, k2⟩ := h3 i c hi
    exact ⟨p', by rw [List.getElem?_take, if_pos hik]; exact k1, s _ _ k2⟩
  · rw [if_neg hik] at hi
    cases hi
theorem codeO_lst {c : Addr} {q : Str} {xs : List V} : CodeO c q ≠ .lst xs := fun z => by
  unfold CodeO at z
  cases z
/-- the tables stay while a list is written -/
theorem tab_d {TT : List (Addr × Str)} {H H' : Hp} {b : Addr} {xs : List V} (t : Tabs TT H) (s : SameD b H H') (e : H b = some (.lst xs)) : Tabs TT H' := fun p hp => by
  obtain ⟨ps, h1, h2, h3⟩ := t p hp
  refine ⟨ps, s _ _ (ne_of h1 e (by intro z; cases z)) h1, h2, fun pos cv hc => ?_⟩
  obtain ⟨c, e1, e2⟩ := h3 pos cv hc
  exact ⟨c, e1, s _ _ (ne_of e2 e codeO_lst) e2⟩
theorem tab_bk {TT : List (Addr × Str)} {H H' : Hp} {b : Addr} (t : Tabs TT H) (s : SameD b H H') (h : Bk H b) : Tabs TT H' := by
  obtain ⟨x, y, e, _⟩ := h
  exact tab_d t s e
abbrev nLaw : List Str := ["_law_script", "_law_bucket_here", "_law_size_so", "_law_long_so", "_law_net_so", "_law_four"]
theorem sc_law : FnScope nLaw ["_law_script"] (defScope (topS 48)) := C8.fnScope_by (by decide +kernel)
def spLaw (K : PySem.W.Frag) (P0 : Addr) : Sp := fun vs H Q _ => ∃ (a : Addr) (ns : List Int), vs = [.ref a] ∧ SqL K H a (ns.map V.int) ∧ ns.length ≤ 1000000 ∧ Tabs [(P0, qRef)] H ∧ ∀ H', Q (.bl true) H'
section
variable {P : Program} {w : World} {K : PySem.W.Frag} {mg : Str → Option Value} {base : Heap}
abbrev cxL (P : Program) (w : World) (K : PySem.W.Frag) (mg : Str → Option Value) (base : Heap) (f : Addr) (cdv : Value) (A : Around) (outer : List Env) (s : Shared) (H0 : Hp) (E : XK) : Cx := cxOf (L2N.CX P w) P w K mg base nLaw "law" (defScope (topS 48)) f cdv A outer s H0 E
theorem pe_rt (T : Tx K mg) (TM : TmRule P w K mg base) {f : Addr} {cdv : Value} {A : Around} {outer : List Env} {s : Shared} {H0 : Hp} {E : XK} (hr : Room 11 (A.deeper (envOfC "law" (defScope (topS 48)) s.heap.objs.size f cdv))) {a1 a2 : Expr} {ta : TA} {p pos : Pos} (ha : PA (cxL P w K mg base f cdv A outer s H0 E) [a1, a2] ta) (h1 : starEach [a1, a2] (cxL P w K mg base f cdv A outer s H0 E).env = (false, eval a1 (cxL P w K mg base f cdv A outer s H0 E).env) :: starEach [a2] (cxL P w K mg base f cdv A outer s H0 E).env := by rfl) (h2 : (backTo pos (starEach [a2] (cxL P w K mg base f cdv A outer s H0 E).env)).any (·.1) = false := by rfl) :
    PE (cxL P w K mg base f cdv A outer s H0 E) (.Call (.Name "_law_right" p) [a1, a2] [] pos) (tCallS spRight (WE fun cls d _ H => E cls d H) ta) := pe_cx (c_right (P := P) (w := w) (base := base) T TM) hr (by decide) (by rfl) (L2N.takes_of rfl rfl rfl rfl) ha (by decide) h1 h2
theorem pe_fw (T : Tx K mg) (TM : TmRule P w K mg base) {f : Addr} {cdv : Value} {A : Around} {outer : List Env} {s : Shared} {H0 : Hp} {E : XK} (hr : Room 11 (A.deeper (envOfC "law" (defScope (topS 48)) s.heap.objs.size f cdv))) {a1 a2 : Expr} {ta : TA} {p pos : Pos} (ha : PA (cxL P w K mg base f cdv A outer s H0 E) [a1, a2] ta) (h1 : starEach [a1, a2] (cxL P w K mg base f cdv A outer s H0 E).env = (false, eval a1 (cxL P w K mg base f cdv A outer s H0 E).env) :: starEach [a2] (cxL P w K mg base f cdv A outer s H0 E).env := by rfl) (h2 : (backTo pos (starEach [a2] (cxL P w K mg base f cdv A outer s H0 E).env)).any (·.1) = false := by rfl) :
    PE (cxL P w K mg base f cdv A outer s H0 E) (.Call (.Name "fewest_more" p) [a1, a2] [] pos) (tCallS (spMore K rLen) (WE fun cls d _ H => E cls d H) ta) := pe_cx (c_fewest (P := P) (w := w) (base := base) T TM) hr (by decide) (by rfl) (L2N.takes_of rfl rfl rfl rfl) ha (by decide) h1 h2
theorem pe_mf (T : Tx K mg) (TM : TmRule P w K mg base) {f : Addr} {cdv : Value} {A : Around} {outer : List Env} {s : Shared} {H0 : Hp} {E : XK} (hr : Room 11 (A.deeper (envOfC "law" (defScope (topS 48)) s.heap.objs.size f cdv))) {a1 a2 : Expr} {ta : TA} {p pos : Pos} (ha : PA (cxL P w K mg base f cdv A outer s H0 E) [a1, a2] ta) (h1 : starEach [a1, a2] (cxL P w K mg base f cdv A outer s H0 E).env = (false, eval a1 (cxL P w K mg base f cdv A outer s H0 E).env) :: starEach [a2] (cxL P w K mg base f cdv A outer s H0 E).env := by rfl) (h2 : (backTo pos (starEach [a2] (cxL P w K mg base f cdv A outer s H0 E).env)).any (·.1) = false := by rfl) :
    PE (cxL P w K mg base f cdv A outer s H0 E) (.Call (.Name "more_for" p) [a1, a2] [] pos) (tCallS (spMore K rNet) (WE fun cls d _ H => E cls d H) ta) := pe_cx (c_more (P := P) (w := w) (base := base) T TM) hr (by decide) (by rfl) (L2N.takes_of rfl rfl rfl rfl) ha (by decide) h1 h2
theorem mk1 {H : Hp} {a b : Nat} {Q : VK} (q : ∀ H' p, Same H H' → NetAt H' p [(a, b)] → Q (.ref p) H') : [V.int a, .int b].length ≤ sizeLine ∧ ∀ p1, H p1 = none → [V.ref p1].length ≤ sizeLine ∧ ∀ p2, upd H p1 (.tup [.int a, .int b]) p2 = none → Q (.ref p2) (upd (upd H p1 (.tup [.int a, .int b])) p2 (.tup [.ref p1])) :=
  ⟨few2, fun p1 n1 => ⟨few1, fun p2 n2 => q _ p2 ((same_upd n1).trans (same_upd n2)) ⟨[p1], upd_same, rfl, fun i c h => by
    cases i with
    | zero =>
      obtain rfl := Option.some.inj h
      exact ⟨p1, rfl, same_upd n2 _ _ upd_same⟩
    | succ i => simp at h⟩⟩⟩
theorem mk2 {H : Hp} {a b c d : Nat} {Q : VK} (q : ∀ H' p, Same H H' → NetAt H' p [(a, b), (c, d)] → Q (.ref p) H') : [V.int a, .int b].length ≤ sizeLine ∧ ∀ p1, H p1 = none → [V.int c, .int d].length ≤ sizeLine ∧ ∀ p2, upd H p1 (.tup [.int a, .int b]) p2 = none → [V.ref p1, .ref p2].length ≤ sizeLine ∧ ∀ p3, upd (upd H p1 (.tup [.int a, .int b])) p2 (.tup [.int c, .int d]) p3 = none →
    Q (.ref p3) (upd (upd (upd H p1 (.tup [.int a, .int b])) p2 (.tup [.int c, .int d])) p3 (.tup [.ref p1, .ref p2])) :=
  ⟨few2, fun p1 n1 => ⟨few2, fun p2 n2 => ⟨few2, fun p3 n3 => q _ p3 (((same_upd n1).trans (same_upd n2)).trans (same_upd n3)) ⟨[p1, p2], upd_same, rfl, fun i c h => by
    match i, h with
    | 0, h =>
      obtain rfl := Option.some.inj h
      exact ⟨p1, rfl, same_upd n3 _ _ (same_upd n2 _ _ upd_same)⟩
    | 1, h =>
      obtain rfl := Option.some.inj h
      exact ⟨p2, rfl, same_upd n3 _ _ upd_same⟩
    | j + 2, h => simp at h⟩⟩⟩⟩
theorem net_nil {H : Hp} {p : Addr} (h : H p = some (.tup [])) : NetAt H p [] := ⟨[], h, rfl, fun i c z => by simp at z⟩
theorem few_1 : Few 1 := .inl rfl
theorem few_2 : Few 2 := .inr (.inl rfl)
theorem few_3 : Few 3 := .inr (.inr (.inl rfl))
theorem few_4 : Few 4 := .inr (.inr (.inr rfl))
theorem law_last (T : Tx K mg) (TM : TmRule P w K mg base) {f : Addr} {cdv : Value} {A : Around} {outer : List Env} {s : Shared} {H0 : Hp} {E : XK} (hr : Room 11 (A.deeper (envOfC "law" (defScope (topS 48)) s.heap.objs.size f cdv))) {Q : VK} (q : ∀ H', Q (.bl true) H') :
    ∃ t, PSs (cxL P w K mg base f cdv A outer s H0 E) ((defBody (topS 48)).drop 10) t ∧ ∀ σ H, t { nx := fun _ H' => Q .non H', rt := Q } σ H := by
  refine ⟨_, pss_one (ps_ret (pe_cmpR op_eq (pe_fw T TM hr (pa_cons pe_int (pa_cons (pe_tup (pa_cons (pe_tup (pa_cons pe_int (pa_cons pe_int pa_nil))) (pa_cons (pe_tup (pa_cons pe_int (pa_cons pe_int pa_nil))) pa_nil))) pa_nil))) pe_int (nomark _))), fun σ H => ?_⟩
  refine mk2 (a := 0) (b := 1) (c := 0) (d := 2) (Q := fun v H' => spMore K rLen [V.int ((3 : Nat) : Int), v] H' (fun x H2 => rEq x (.int 1) H2 Q) (WE (fun cls d _ H => E cls d H) σ)) (fun H1 p s1 hp => more_ok few_3 hp (by decide) (by decide) fun H2 qq s2 hb h6 => ⟨rfl, ?_⟩)
  rw [needs_len needs_h hb]
  exact q H2
end
end WO

set_option Elab.async false
set_option linter.all false
set_option maxRecDepth 100000
set_option maxHeartbeats 1600000
namespace WO
open PySem PySem.Spec PyProof.Rows L2 WOm LamX
section
variable {P : Program} {w : World} {K : PySem.W.Frag} {mg : Str → Option Value} {base : Heap}
theorem net1_at {H : Hp} {p1 p2 : Addr} {i j : Int} {a b : Nat} (n1 : H p1 = none) (n2 : upd H p1 (.tup [.int i, .int j]) p2 = none) (ei : i = a) (ej : j = b) : Same H (upd (upd H p1 (.tup [.int i, .int j])) p2 (.tup [.ref p1])) ∧ NetAt (upd (upd H p1 (.tup [.int i, .int j])) p2 (.tup [.ref p1])) p2 [(a, b)] := by
  subst ei ej
  exact ⟨(same_upd n1).trans (same_upd n2), [p1], upd_same, rfl, fun k c h => by
    cases k with
    | zero =>
      obtain rfl := Option.some.inj h
      exact ⟨p1, rfl, same_upd n2 _ _ upd_same⟩
    | succ k => simp at h⟩
abbrev fourE : Expr := match (defBody (topS 48)).getD 5 (.Pass ⟨0, 0, 0, 0⟩) with
  | .Assign _ v _ => v
  | _ => .Constant .none 0 ⟨0, 0, 0, 0⟩
theorem law_mid (T : Tx K mg) (TM : TmRule P w K mg base) {f : Addr} {cdv : Value} {A : Around} {outer : List Env} {s : Shared} {H0 : Hp} {E : XK} (hr : Room 11 (A.deeper (envOfC "law" (defScope (topS 48)) s.heap.objs.size f cdv))) {Q : VK} (q : ∀ H', Q (.bl true) H') :
    ∃ t, PSs (cxL P w K mg base f cdv A outer s H0 E) ((defBody (topS 48)).drop 5) t ∧ ∀ (y0 y2 y3 y4 : Option V) (b : Addr) (H : Hp), Bk H b → t { nx := fun _ H' => Q .non H', rt := Q } [y0, some (.ref b), y2, y3, y4, none] H := by
  have four_ : PNt (cxL P w K mg base f cdv A outer s H0 E) fourE four := pnt (pns_cons pcm (pns_cons pcm (pns_cons pcm (pns_cons pcm (pns_cons pcm pns_nil)))))
  obtain ⟨t4, p4, k4⟩ := four_
  obtain ⟨tl, pl, kl⟩ := law_last (f := f) (cdv := cdv) (A := A) (outer := outer) (s := s) (H0 := H0) (E := E) T TM hr q
  refine ⟨_, pss_cons (ps_set (i := 5) sc_law.nd rfl (.inl rfl) p4)
    (pss_cons (ps_if (pt_not (pt_val (pe_rt T TM hr (pa_cons pe_int (pa_cons (pe_tup (pa_cons (pe_tup (pa_cons pe_int (pa_cons pe_int pa_nil))) pa_nil)) pa_nil))))) (pss_one (ps_ret pe_bl)) pss_nil)
    (pss_cons (ps_if (pt_cmpR (op_neD hr.units) (pe_lst (pa_cons (pe_fw T TM hr (pa_cons pe_int (pa_cons (pe_slice sl_tupS (pv 5) po_none (po_some pe_int)) pa_nil))) (pa_cons (pe_fw T TM hr (pa_cons pe_int (pa_cons (pv 5) pa_nil))) (pa_cons (pe_fw T TM hr (pa_cons pe_int (pa_cons (pe_tup pa_nil) pa_nil))) pa_nil)))) (pe_lst (pa_cons pe_int (pa_cons pe_int (pa_cons pe_int pa_nil)))) (nomark _)) (pss_one (ps_ret pe_bl)) pss_nil)
    (pss_cons (ps_if (PW.pt (pw_or (pt_cmpR (op_neD hr.units) (pe_mf T TM hr (pa_cons pe_int (pa_cons (pe_tup pa_nil) pa_nil))) (pe_tup (pa_cons (pe_tup (pa_cons pe_int (pa_cons pe_int pa_nil))) pa_nil)) (nomark _))
      (pw_or (pt_cmpR (op_neD hr.units) (pe_mf T TM hr (pa_cons pe_int (pa_cons (pe_tup pa_nil) pa_nil))) (pe_tup pa_nil) (nomark _))
      (pw_or1 (pt_cmpR op_ne (pe_fw T TM hr (pa_cons pe_int (pa_cons (pe_tup (pa_cons (pe_tup (pa_cons pe_int (pa_cons pe_int pa_nil))) pa_nil)) pa_nil))) pe_int (nomark _)))))) (pss_one (ps_ret pe_bl)) pss_nil)
    (pss_cons (ps_if (PW.pt (pw_and (pt_cmpR op_eq (C8.pe_c (c_scoop T) hr (by decide) (by rfl) (pa_cons (pv 1) (pa_cons pe_int pa_nil))) pe_int (nomark _)) (pw_and1 (pt_cmpR op_ne (pe_fw T TM hr (pa_cons pe_int (pa_cons (pe_slice sl_tupS (pv 5) po_none (po_some pe_int)) pa_nil))) pe_int (nomark _))))) (pss_one (ps_ret pe_bl)) pss_nil) pl)))), fun y0 y2 y3 y4 b H hb => ?_⟩
  refine k4 _ H _ fun H1 fp s1 hf4 => ?_
  have hb1 := hb.same s1
  obtain ⟨as4, g1, g2, g3⟩ := id hf4
  -- right(3, ((0, 2),))
  refine ⟨few2, fun p1 n1 => ⟨few1, fun p2 n2 => ?_⟩⟩
  obtain ⟨s2, hp2⟩ := net1_at (a := 0) (b := 2) n1 n2 rfl rfl
  generalize upd (upd H1 p1 _) p2 _ = H2 at s2 hp2 ⊢
  refine ⟨3, p2, [(0, 2)], rfl, few_3, hp2, by decide, by decide, fun H3 s3 => ⟨true, rfl, iteF ?_⟩⟩
  have s13 := s2.trans s3
  have hf4' := hf4.keep (Same.tps s13)
  have g1' := s13 _ _ g1
  -- [fewest_more(4, four[:3]), ..]
  refine ⟨.ref fp, rfl, 3, rfl, fp, _, rfl, g1', fun H4 p4' s4 e4 => ?_⟩
  rw [show (3 : Int) = ((3 : Nat) : Int) from rfl, cut_to] at e4
  have n4 := net_take hf4' s4 3 g1' e4
  refine more_ok few_4 n4 (by decide) (by decide) fun H5 qa s5 ba _ => ?_
  have ea := needs_len needs_a ba
  have s45 := s4.trans s5
  have hf5 := hf4'.keep (Same.tps s45)
  refine ⟨.ref fp, rfl, more_ok few_4 hf5 (by decide) (by decide) fun H6 qb s6 bb _ => ?_⟩
  have eb := needs_len needs_b bb
  refine ⟨few0, fun z1 nz1 => ?_⟩
  generalize hH7 : upd H6 z1 _ = H7
  have s7 : Same H6 H7 := hH7 ▸ same_upd nz1
  have e7 : H7 z1 = some (.tup []) := hH7 ▸ upd_same
  refine more_ok few_3 (net_nil e7) (by decide) (by decide) fun H8 qc s8 bc _ => ?_
  have ec := needs_len needs_c bc
  refine ⟨few (n := 3) (by decide), fun l8 n8 => ?_⟩
  generalize hH9 : upd H8 l8 _ = H9
  have s9 : Same H8 H9 := hH9 ▸ same_upd n8
  have e9 : H9 l8 = some (.lst [.int qa.length, .int qb.length, .int qc.length]) := hH9 ▸ upd_same
  refine ⟨few (n := 3) (by decide), fun l9 n9 => ?_⟩
  generalize hH10 : upd H9 l9 _ = H10
  have s10 : Same H9 H10 := hH10 ▸ same_upd n9
  have e10 : H10 l9 = some (.lst [.int 2, .int 0, .int 3]) := hH10 ▸ upd_same
  refine ⟨.list [.int 2, .int 0, .int 3], .list [.int 2, .int 0, .int 3], ?_, .lst (SqL.of e10) (.cons (.int _) (.cons (.int _) (.cons (.int _) .nil))), by decide +kernel, by decide +kernel, false, by decide +kernel, iteF ?_⟩
  · have e9' := s10 _ _ e9
    rw [ea, eb, ec] at e9'
    exact .lst (SqL.of e9') (.cons (.int _) (.cons (.int _) (.cons (.int _) .nil)))
  have s110 : Same H3 H10 := (((((s45.trans s6).trans s7).trans s8).trans s9)).trans s10
  -- more_for(2, ()) != ((0, 1),)
  refine ⟨few0, fun z2 nz2 => ?_⟩
  generalize hH11 : upd H10 z2 _ = H11
  have s11 : Same H10 H11 := hH11 ▸ same_upd nz2
  have e11 : H11 z2 = some (.tup []) := hH11 ▸ upd_same
  refine more_ok few_2 (net_nil e11) (by decide) (by decide) fun H12 qd s12 bd _ => fun H13 p13 s13' hp13 => ?_
  rw [best_one bd] at hp13
  refine ⟨few2, fun q1 m1 => ⟨few1, fun q2 m2 => ?_⟩⟩
  obtain ⟨s14, hq2⟩ := net1_at (a := 0) (b := 1) m1 m2 rfl rfl
  generalize upd (upd H13 q1 _) q2 _ = H14 at s14 hq2 ⊢
  refine ⟨dNet [(0, 1)], dNet [(0, 1)], (hp13.keep (Same.tps s14)).dp, hq2.dp, by decide +kernel, by decide +kernel, false, by decide +kernel, iteF ?_⟩
  -- more_for(1, ()) != ()
  refine ⟨few0, fun z3 nz3 => ?_⟩
  generalize hH15 : upd H14 z3 _ = H15
  have s15 : Same H14 H15 := hH15 ▸ same_upd nz3
  have e15 : H15 z3 = some (.tup []) := hH15 ▸ upd_same
  refine more_ok few_1 (net_nil e15) (by decide) (by decide) fun H16 qe s16 be _ => fun H17 p17 s17 hp17 => ?_
  rw [best_none be] at hp17
  refine ⟨few0, fun z4 nz4 => ?_⟩
  generalize hH18 : upd H17 z4 _ = H18
  have s18 : Same H17 H18 := hH18 ▸ same_upd nz4
  have e18 : H18 z4 = some (.tup []) := hH18 ▸ upd_same
  refine ⟨dNet [], dNet [], (hp17.keep (Same.tps s18)).dp, (net_nil e18).dp, by decide +kernel, by decide +kernel, false, by decide +kernel, iteF ?_⟩
  -- fewest_more(2, ((0, 1),)) != 0
  refine ⟨few2, fun q3 m3 => ⟨few1, fun q4 m4 => ?_⟩⟩
  obtain ⟨s19, hq4⟩ := net1_at (a := 0) (b := 1) m3 m4 rfl rfl
  generalize upd (upd H18 q3 _) q4 _ = H19 at s19 hq4 ⊢
  refine more_ok few_2 hq4 (by decide) (by decide) fun H20 qf s20 bf _ => ⟨rfl, false, ?_, iteF ?_⟩
  · rw [needs_len needs_f bf]
    decide
  have sAll : Same H3 H20 := ((((((((((s110.trans s11).trans s12).trans s13').trans s14).trans s15).trans s16).trans s17).trans s18).trans s19)).trans s20
  have hb20 := (hb1.same s13).same sAll
  -- the last draw
  refine ⟨.ref b, rfl, b, 8, rfl, hb20, by decide, by decide, fun H21 r s21 hb21 r0 r1 => ⟨rfl, _, rfl, ?_⟩⟩
  have t21 := hb20.tps s21
  have hf21 := ((hf4.keep (Same.tps s13)).keep (Same.tps sAll)).keep t21
  have g21 := t21 _ _ (sAll _ _ g1')
  refine ite2 (fun e => ?_) (fun e => kl _ _)
  refine ⟨.ref fp, rfl, 1, rfl, fp, _, rfl, g21, fun H22 p22 s22 e22 => ?_⟩
  rw [show (1 : Int) = ((1 : Nat) : Int) from rfl, cut_to] at e22
  refine more_ok few_4 (net_take hf21 s22 1 g21 e22) (by decide) (by decide) fun H23 qg s23 bg _ => ⟨rfl, false, ?_, iteF (kl _ _)⟩
  rw [needs_len needs_g bg]
  decide
/-- .. from the net on -/
theorem law_tail (T : Tx K mg) (Y : Ty K mg) (TM : TmRule P w K mg base) (ER : Errs K) (hO : mg "OrderError" = some (.ref (He.ga K "OrderError"))) {c P0 : Addr} (TB : TabB base mg c P0) (D : RefD K mg c) {f : Addr} {cdv : Value} {A : Around} {outer : List Env} {s : Shared} {H0 : Hp} {E : XK} (hr : Room 11 (A.deeper (envOfC "law" (defScope (topS 48)) s.heap.objs.size f cdv))) {Q : VK} (q : ∀ H', Q (.bl true) H') :
    ∃ t, PSs (cxL P w K mg base f cdv A outer s H0 E) ((defBody (topS 48)).drop 3) t ∧ ∀ (y0 : Option V) (b : Addr) (n k : Nat) (H : Hp), Bk H b → Tabs [(P0, qRef)] H → Few n → k ≤ 100 → t { nx := fun _ H' => Q .non H', rt := Q } [y0, some (.ref b), some (.int n), some (.int k), none, none] H := by
  obtain ⟨tm, pm, km⟩ := law_mid (f := f) (cdv := cdv) (A := A) (outer := outer) (s := s) (H0 := H0) (E := E) T TM hr q
  refine ⟨_, pss_cons (ps_set (i := 4) sc_law.nd rfl (.inl rfl) (C8.pe_c (c_drawn T) hr (by decide) (by rfl) (pa_cons (pv 1) (pa_cons (pv 2) (pa_cons (pv 3) (pa_cons (pe_cmpR op_eq (C8.pe_c (c_scoop T) hr (by decide) (by rfl) (pa_cons (pv 1) (pa_cons pe_int pa_nil))) pe_int (nomark _)) pa_nil))))))
    (pss_cons (ps_if (PW.pt (pw_or (pt_not (pt_val (pe_rt T TM hr (pa_cons (pv 2) (pa_cons (pv 4) pa_nil))))) (pw_or1 (pt_not (pt_val (C8.pe_c (c_ref T Y TM ER hO TB D) hr (by decide) (by rfl) (pa_cons (pv 2) (pa_cons (pv 4) pa_nil)))))))) (pss_one (ps_ret pe_bl)) pss_nil) pm), fun y0 b n k H hb hT hn hk => ?_⟩
  refine ⟨.ref b, rfl, .int n, rfl, .int k, rfl, .ref b, rfl, b, 3, rfl, hb, by decide, by decide, fun H1 r s1 hb1 r0 r1 => ⟨rfl, ?_⟩⟩
  have t1 := tab_bk hT s1 hb
  refine ⟨b, n, k, decide (V.int r = V.int 0), rfl, hb1, hn, hk, fun H2 p net s2 hb2 hnet hfit hlen => ?_⟩
  have t2 := tab_bk t1 s2 hb1
  refine ⟨.int n, rfl, .ref p, rfl, n, p, net, rfl, hn, hnet, hfit, by omega, fun H3 s3 => ⟨true, rfl, iteF ?_⟩⟩
  refine ⟨.int n, rfl, .ref p, rfl, n, p, rfl, hn, tab_s t2 s3, fun H4 x4 t4 => ⟨true, rfl, iteF ?_⟩⟩
  refine km y0 _ _ _ b H4 ?_
  obtain ⟨x, y, e, h1, h2⟩ := hb2.same s3
  exact ⟨x, y, ext_lst x4 e, h1, h2⟩
theorem c_law (T : Tx K mg) (Y : Ty K mg) (TM : TmRule P w K mg base) (ER : Errs K) (hO : mg "OrderError" = some (.ref (He.ga K "OrderError"))) {c P0 : Addr} (TB : TabB base mg c P0) (D : RefD K mg c) {f : Addr} {fd : FuncData} (F : FunD K "law" "law" (defArgs (topS 48)) (defBody (topS 48)) (defScope (topS 48)) [] [] f fd) :
    FnOk P w K mg base (L2N.CX P w) 12 f fd ["_law_script"] (spLaw K P0) := by
  refine F.ok sc_law (fun vs H Q E h => ?_) (fun cdv A outer s H vs Q E hr h => ?_)
  · obtain ⟨a, ns, rfl, _⟩ := h
    rfl
  · obtain ⟨a, ns, rfl, hS, hl, hT, q⟩ := h
    obtain ⟨tt, pt, kt⟩ := law_tail (f := f) (cdv := cdv) (A := A) (outer := outer) (s := s) (H0 := H) (E := E) T Y TM ER hO TB D hr q
    refine ⟨_, pss_cons (ps_set (i := 1) sc_law.nd rfl (.inl rfl) (C8.pe_c (c_bucket T) hr (by decide) (by rfl) (pa_cons (pv 0) pa_nil)))
      (pss_cons (ps_set (i := 2) sc_law.nd rfl (.inl rfl) (pe_ix ix_list (pe_lst (pa_cons pe_int (pa_cons pe_int (pa_cons pe_int (pa_cons pe_int pa_nil))))) (C8.pe_c (c_scoop T) hr (by decide) (by rfl) (pa_cons (pv 1) (pa_cons pe_int pa_nil))) (fun _ _ => rfl)))
      (pss_cons (ps_set (i := 3) sc_law.nd rfl (.inl rfl) (pe_ifExp (pt_cmpR op_eq (pv 2) pe_int (nomark _)) (pe_op op_add pe_int (C8.pe_c (c_scoop T) hr (by decide) (by rfl) (pa_cons (pv 1) (pa_cons pe_int pa_nil)))) (C8.pe_c (c_scoop T) hr (by decide) (by rfl) (pa_cons (pv 1) (pa_cons pe_int pa_nil))))) pt)), ?_⟩
    refine ⟨.ref a, rfl, a, ns, rfl, hS, hl, fun H1 b s1 hb1 => ⟨few (n := 4) (by decide), fun l nl => ?_⟩⟩
    generalize hH2 : upd H1 l _ = H2
    have s2 : Same H1 H2 := hH2 ▸ same_upd nl
    have e2 : H2 l = some (.lst [.int 2, .int 3, .int 3, .int 4]) := hH2 ▸ upd_same
    have hb2 := hb1.same s2
    have lb : l ≠ b := fun z => by
      obtain ⟨x, y, eb, _⟩ := hb1
      rw [← z, nl] at eb
      cases eb
    have t2 : Tabs [(P0, qRef)] H2 := tab_s (tab_s hT s1) s2
    refine ⟨.ref b, rfl, b, 4, rfl, hb2, by decide, by decide, fun H3 r s3 hb3 r0 r1 => ?_⟩
    have e3 := s3 _ _ lb e2
    have t3 : Tabs [(P0, qRef)] H3 := tab_bk t2 s3 hb2
    obtain ⟨m, rfl⟩ : ∃ m : Nat, r = (m : Int) := ⟨r.toNat, by omega⟩
    obtain ⟨n, hn, hg⟩ : ∃ n : Nat, Few n ∧ ([V.int 2, .int 3, .int 3, .int 4])[m]? = some (.int (n : Int)) := by
      match m, (show m < 4 by omega) with
      | 0, _ => exact ⟨2, few_2, rfl⟩
      | 1, _ => exact ⟨3, few_3, rfl⟩
      | 2, _ => exact ⟨3, few_3, rfl⟩
      | 3, _ => exact ⟨4, few_4, rfl⟩
    refine ⟨l, _, m, .int n, rfl, rfl, SqL.of e3, atI_nat hg, .int n, rfl, rfl, _, rfl, ite2 (fun e => ?_) (fun e => ?_)⟩
    · refine ⟨.ref b, rfl, b, 3, rfl, hb3, by decide, by decide, fun H4 r s4 hb4 r0 r1 => ⟨3, r, rfl, rfl, ?_⟩⟩
      obtain ⟨m', rfl⟩ : ∃ m : Nat, r = (m : Int) := ⟨r.toNat, by omega⟩
      have z := kt (some (.ref a)) b n (3 + m') H4 hb4 (tab_bk t3 s4 hb3) hn (by omega)
      rw [show ((3 + m' : Nat) : Int) = 3 + (m' : Int) by omega] at z
      exact z
    · refine ⟨.ref b, rfl, b, 4, rfl, hb3, by decide, by decide, fun H4 r s4 hb4 r0 r1 => ?_⟩
      obtain ⟨m', rfl⟩ : ∃ m : Nat, r = (m : Int) := ⟨r.toNat, by omega⟩
      exact kt (some (.ref a)) b n m' H4 hb4 (tab_bk t3 s4 hb3) hn (by omega)
end
end WO

set_option Elab.async false
set_option linter.all false
set_option maxRecDepth 100000
set_option maxHeartbeats 0
namespace WO
open PySem PySem.Spec PyProof.Rows L2 WOm LamX
/-! ### what the head is asked -/
abbrev RR : PySem.W.OpenRow := PySem.W.OpenLaw.row PySem.Challenge.rw_wiredorders_k58_whole_fewest_comparers_m
abbrev PP : Program := (PySem.Challenge.rw_wiredorders_k58_whole_fewest_comparers_m).prog
def excB (K : PySem.W.Frag) (D : Addr) : Bool :=
  decide (PySem.W.findIn K (.ref D) "__getattribute__" = some (some (.builtin "BaseException.__getattribute__"))) && (decide (PySem.W.findIn K (.ref D) "__getattr__" = some none) && (decide (PySem.W.subIn K (.ref D) (.type "BaseException") = some true) && (PySem.W.hasDictIn K D && (decide (PySem.W.findIn K (.ref D) "__class__" = some (some (.builtin "object.__class__"))) &&
    (decide (PySem.W.specialIn K (.builtin "object.__class__") "__get__" = some (some (.builtin "getset_descriptor.__get__"))) && (decide (PySem.W.takesIn K (.builtin "object.__class__") = some true) && decide (PySem.W.mroIn K D (.type "object") = some true)))))))
theorem excB_ok {K : PySem.W.Frag} {D : Addr} (h : excB K D = true) : ExcC K D := by
  unfold excB at h
  simp only [Bool.and_eq_true, decide_eq_true_eq] at h
  obtain ⟨h1, h2, h3, h4, h5, h6, h7, h8⟩ := h
  exact ⟨h1, h2, h3, h4, h5, h6, h7, h8⟩
def errB (K : PySem.W.Frag) (x : Str) (bs : List Bool) : Bool := excB K (He.ga K x) && (decide (bs.length = 9) && ((List.range 8).all (fun i => decide (PySem.W.kitOne K (.ref (He.ga K x)) (.ref (He.ga K (kinds.getD i ""))) = bs[i]?)) && decide (PySem.W.kitOne K (.ref (He.ga K x)) (.type "ValueError") = bs[8]?)))
theorem errB_ok {K : PySem.W.Frag} {x : Str} {bs : List Bool} (h : errB K x bs = true) : ErrC K (He.ga K x) bs := by
  unfold errB at h
  simp only [Bool.and_eq_true, decide_eq_true_eq, List.all_eq_true, List.mem_range] at h
  obtain ⟨h1, h2, h3, h4⟩ := h
  refine ⟨excB_ok h1, h2, fun i y hy => ?_, h4⟩
  have hi : i < 8 := (List.getElem?_eq_some_iff.mp hy).1
  have z := h3 i hi
  rw [List.getD_eq_getElem?_getD, hy] at z
  exact z
def oexB (K : PySem.W.Frag) (C : Addr) : Bool := match K.lookup C with
  | some ⟨.type t, _, .cls cd, sl⟩ => decide (t = "type") && ((match cd.mro with
    | .ref C' :: bm => decide (C' = C) && PySem.HandSPX.refsVE bm
    | _ => false) && (cd.hasDict && (!cd.hasDel && (match sl.toList with
    | [_, _, _, _, some (.builtin n), _] => decide (n = "ValueError.__new__")
    | _ => false))))
  | _ => false
theorem oexB_ok {K : PySem.W.Frag} {C : Addr} (h : oexB K C = true) : ∃ nm q N bs bm sn sub ab col dd k0 k1 k2 k3 k5, K.lookup C = some (excClassObj nm q C N bs bm true sn sub ab col dd k0 k1 k2 k3 k5 "ValueError.__new__") ∧ PySem.HandSPX.refsVE bm = true := by
  unfold oexB at h
  split at h
  · rename_i t dd cd sl e
    simp only [Bool.and_eq_true, decide_eq_true_eq, Bool.not_eq_true'] at h
    obtain ⟨rfl, h1, h2, h3, h4⟩ := h
    obtain ⟨nm, bs, mro, ns, q, hd, sn, sub, ab, col, del⟩ := cd
    dsimp only at h1 h2 h3
    subst h2 h3
    split at h1
    · rename_i C' bm
      obtain ⟨rfl, hb⟩ : C' = C ∧ PySem.HandSPX.refsVE bm = true := by simpa using h1
      split at h4
      · rename_i k0 k1 k2 k3 n k5 es
        have en : n = "ValueError.__new__" := by simpa using h4
        subst en
        have esl : sl = #[k0, k1, k2, k3, some (.builtin "ValueError.__new__"), k5] := by rw [← es]
        subst esl
        exact ⟨nm, q, ns, bs, bm, sn, sub, ab, col, dd, k0, k1, k2, k3, k5, e, hb⟩
      · cases h4
    · cases h1
  · cases h
abbrev FnC : Type := Option (Str × Str × Arguments × FuncBody × Scope × Addr × List Str × Addr)
def iniV (K : PySem.W.Frag) : FnC := match K.lookup (He.ma K (He.ga K "TooMany") "__init__") with
  | some ⟨_, _, .func fd, _⟩ => some (fd.name, fd.qualname, fd.params, fd.body, fd.scope, fd.globals, fd.closure.map (·.1), fd.builtins)
  | _ => none
def iniW : FnC := some ("__init__", "TooMany.__init__", tmArgs, .stmts tmBody, tmScope, mainGlobals, ["__class__"], builtinsNs)
def iniB (K : PySem.W.Frag) : Bool := match K.lookup (He.ma K (He.ga K "TooMany") "__init__") with
  | some ⟨_, _, .func fd, _⟩ => (match fd.defaults with
    | .none => true
    | _ => false) && (PySem.W.codeIn K fd.code "TooMany.__init__" && ((match fd.closure with
    | [(_, c)] => (match K.lookup c with
      | some ⟨_, _, .cell (some (.ref D)), _⟩ => decide (D = He.ga K "TooMany")
      | _ => false)
    | _ => false) && (match fd.code with
    | .ref cd => (match K.lookup cd with
      | some ⟨_, _, .fields vs, _⟩ => (match (vs[2]? : Option Value) with
        | some (.str fl _) => ((PP.main.file : Str) == fl)
        | _ => false)
      | _ => false)
    | _ => false)))
  | _ => false
def tmB (K : PySem.W.Frag) : Bool := oexB K (He.ga K "TooMany") && (decide (PySem.W.findIn K (.ref (He.ga K "TooMany")) "__setattr__" = some (some (.builtin "object.__setattr__"))) && (decide (PySem.W.subIn K (.ref (He.ga K "TooMany")) (.type "BaseException") = some true) && (decide (PySem.W.typeIn K (.ref (He.ga K "TooMany")) = some (.type "type")) && (PySem.W.keepIn K (.ref (He.ga K "TooMany")) &&
  (decide (PySem.W.findIn K (.ref (He.ga K "TooMany")) "limit" = some none) && (decide (PySem.W.findIn K (.ref (He.ga K "TooMany")) "__init__" = some (some (.ref (He.ma K (He.ga K "TooMany") "__init__")))) && (decide (PySem.W.typeIn K (.ref (He.ma K (He.ga K "TooMany") "__init__")) = some (.type "function")) &&
  (iniB K && (decide (PySem.W.nsIn K cStatics "thirdparty.any" = some none) && (decide (PySem.W.ks_superIn K (He.ga K "TooMany") (He.ga K "TooMany") "__init__" = some (some (.builtin "ValueError.__init__"))) && (decide (PySem.W.subIn K (.ref (He.ga K "TooMany")) (.type "ValueError") = some true) && decide (PySem.W.mroIn K (He.ga K "TooMany") (.ref (He.ga K "TooMany")) = some true))))))))))))
theorem tmB_ok {K : PySem.W.Frag} (h : tmB K = true) (v : iniV K = iniW) : ∃ cc cd, TmC PP K (He.ga K "TooMany") (He.ma K (He.ga K "TooMany") "__init__") cc cd := by
  unfold tmB at h
  simp only [Bool.and_eq_true, decide_eq_true_eq] at h
  obtain ⟨h1, h2, h3, h4, h5, h6, h7, h8, h9, h10, h11, h12, h13⟩ := h
  unfold iniB at h9
  unfold iniV iniW at v
  split at h9
  · rename_i oc od fd osl e
    rw [e] at v
    obtain ⟨n1, n2, n3, n4, n5, n6, n7, n8, n9, n10, n11, n12, n13, n14, n15⟩ := fd
    simp only [Bool.and_eq_true] at h9
    simp only [Option.some.injEq, Prod.mk.injEq] at v
    obtain ⟨v1, v2, v3, v4, v5, v6, v7, v8⟩ := v
    subst v1 v2 v3 v4 v5 v6 v8
    obtain ⟨a1, a2, a3, a4⟩ := h9
    split at a1
    · split at a3
      · rename_i y cc
        obtain rfl : y = ("__class__" : Str) := by simpa using v7
        split at a3
        · rename_i c1 d1 D sl1 e1
          have eD : D = He.ga K "TooMany" := by simpa using a3
          split at a4
          · rename_i cd
            split at a4
            · rename_i c2 d2 vs s2 e2
              split at a4
              · rename_i fl tf e3
                exact ⟨cc, cd, ⟨oexB_ok h1, h2, h3, h4, h5⟩, h6, h7, h8, ⟨oc, od, osl, n9, n10, n11, n12, n14, e⟩, a2, ⟨c2, d2, vs, s2, fl, tf, e2, e3, a4⟩, ⟨c1, d1, sl1, by rw [← eD]; exact e1⟩, h10, h11, h12, h13⟩
              · cases a4
            · cases a4
          · cases a4
        · cases a3
      · cases a3
    · cases a1
  · cases h9
end WO

set_option Elab.async false
set_option linter.all false
set_option maxRecDepth 100000
set_option maxHeartbeats 0
namespace WO
open PySem PySem.Spec PyProof.Rows L2 WOm LamX
def defL : List (Str × Nat) := [("is_whole", 12), ("need_many", 13), ("need_few", 14), ("fits_net", 18), ("need_net", 19), ("compared", 20), ("behind_net", 21), ("all_marks", 22), ("is_sorted_row", 23), ("unsorted_by", 24), ("need_marked", 25), ("is_sorter", 26), ("pairs_among", 29), ("rows_behind", 30), ("shortest_more", 31), ("need_short", 32), ("fewest_more", 33), ("more_for", 34),
  ("_law_bucket", 36), ("_law_scoop", 37), ("_law_drawn_net", 38), ("_law_through", 39), ("_law_every", 40), ("_law_longer", 41), ("_law_names", 42), ("_law_word", 43), ("_law_bad_nets", 44), ("_law_far", 45), ("_law_right", 46), ("_law_refused", 47), ("law", 48)]
def dd (p : Str × Nat) : He.DefD := ⟨(p.1, none), p.1, p.1, defArgs (topS p.2), defBody (topS p.2), defScope (topS p.2), [], []⟩
def fnL : List He.DefD := defL.map dd
def faO : List He.Fa := [.free "isinstance", .free "int", .free "bool", .free "tuple", .free "len", .free "all", .free "range", .free "sorted", .free "zip", .free "set", .free "abs", .free "list", .free "ValueError", .free "super", .int "THINGS" 30, .int "COMPARERS" 120, .int "MARKED" 10, .int "SHORT" 4, .exc "InvalidMany", .exc "InvalidNet",
  .exm "InvalidMany" "OrderError" true, .exm "InvalidNet" "OrderError" true, .exm "TooMany" "OrderError" true, .glo "OrderError", .glo "InvalidOrder", .glo "InvalidMany", .glo "InvalidRow", .glo "InvalidNumber", .glo "InvalidNet", .glo "InvalidMarks", .glo "Unlike", .glo "TooMany"]
def faL : List He.Fa := defL.map (fun p => .glo p.1) ++ faO
def tfL : List He.Defn := [("_law_refused", none)]
def exY (K : PySem.W.Frag) : Bool := errB K "InvalidMany" [false, true, false, false, false, false, false, false, true] && (errB K "InvalidNet" [false, false, false, false, true, false, false, false, true] && (errB K "TooMany" [false, false, false, false, false, false, false, true, true] && tmB K))
def frY (g : Addr → Option Obj) : PySem.W.Frag := He.frT g (cStatics :: He.asD g 5)
abbrev AlY : Type := (He.AlT × Bool) × FnC
def obsY (g : Addr → Option Obj) : AlY := ((He.obsT faL fnL [] (frY g), exY (frY g) && He.tabsB g tfL (frY g)), iniV (frY g))
def valY (w : World) : AlY := ((He.valT fnL [] w, true), iniW)
structure SaysY (w : World) (h : Heap) (K : PySem.W.Frag) : Prop where
  t : He.SaysT faL fnL [] w K
  more : exY K = true
  ini : iniV K = iniW
  hd : PySem.W.codeHdIn K (He.cT K ("_law_refused", none)).1 (He.cT K ("_law_refused", none)).2 = true
  out : K.lookup (He.cT K ("_law_refused", none)).2 = none
  empty : h.get? (He.cT K ("_law_refused", none)).2 = some { cls := .none, data := .fields #[] }
theorem saysY_of {w : World} {h : Heap} (e : obsY h.get? = valY w) : SaysY w h (frY h.get?) := by
  have e1 : He.obsT faL fnL [] (frY h.get?) = He.valT fnL [] w := congrArg (fun z : AlY => z.1.1) e
  have e2 : (exY (frY h.get?) && He.tabsB h.get? tfL (frY h.get?)) = true := congrArg (fun z : AlY => z.1.2) e
  have e3 : iniV (frY h.get?) = iniW := congrArg (fun z : AlY => z.2) e
  obtain ⟨h1, h2⟩ := He.ba e2
  obtain ⟨h3, h4⟩ := He.ba (List.all_eq_true.mp h2 ("_law_refused", none) (List.mem_singleton.mpr rfl))
  refine ⟨e1, h1, e3, h3, ?_, ?_⟩ <;> cases q : h.get? (He.cT (frY h.get?) ("_law_refused", none)).2 with
  | none =>
    rw [q] at h4
    cases h4
  | some o =>
    rw [q] at h4
    first
      | exact He.frT_none q h4
      | rw [He.emptyTab_eq h4]
def hkY : PySem.W.Hook where
  α := AlY
  obs := fun s => obsY s.heap.get?
  val := fun w => valY w
  says := fun w h => ∃ K : PySem.W.Frag, K.In h ∧ SaysY w h K
  of := fun _ _ e => ⟨_, He.frT_in, saysY_of e⟩
  keeps := fun _ _ _ ⟨K, hK, c⟩ k => ⟨K, PySem.W.Frag.In.keeps hK k, ⟨c.t, c.more, c.ini, c.hd, c.out, k _ _ c.empty⟩⟩
def obF (s : PySem.W.SharedT) : AlY := obsY (HandSHeadRun.getT s)
theorem obF_eq (s : PySem.W.SharedT) : obF s = hkY.obs s.abs := by
  have e : HandSHeadRun.getT s = s.abs.heap.get? := funext (HandSHeadRun.getT_eq s)
  show obsY (HandSHeadRun.getT s) = obsY s.abs.heap.get?
  rw [e]
def loose1 : List Str := ["OrderError", "InvalidOrder", "InvalidMany", "InvalidRow", "InvalidNumber", "InvalidNet", "InvalidMarks", "Unlike", "TooMany", "THINGS", "is_whole", "need_many", "need_few", "COMPARERS", "MARKED", "fits_net", "need_net", "compared", "behind_net", "all_marks", "is_sorted_row", "unsorted_by"]
def loose2 : List Str := ["need_marked", "is_sorter", "SHORT", "pairs_among", "rows_behind", "shortest_more", "need_short", "fewest_more", "more_for", "_law_bucket", "_law_scoop", "_law_drawn_net", "_law_through", "_law_every", "_law_longer", "_law_names", "_law_word", "_law_bad_nets", "_law_far", "_law_right", "_law_refused"]
abbrev looseL : List Str := loose1 ++ loose2
theorem runY (w : World) : HandSHeadRun.RunEq RR (PySem.W.view RR.prog [48]) hkY obF 6000 looseL w := by
  intro os
  kernel_rfl
end WO

set_option Elab.async false
set_option linter.all false
set_option maxRecDepth 100000
set_option maxHeartbeats 0
namespace WO
open PySem PySem.Spec PyProof.Rows L2 WOm LamX
section
variable {w : World} {K : PySem.W.Frag} {h : Heap} {mg : Str → Option Value}
theorem glo_at (X : K.In h) (G : h.Ns mainGlobals mg) (c : SaysY w h K) {p : Str × Nat} (m : p ∈ defL) : mg p.1 = some (.ref (He.ga K p.1)) := He.glo_ok X G (c.t.d.facts (f := .glo p.1) (List.mem_append_left _ (List.mem_map.mpr ⟨p, m, rfl⟩)))
theorem def_at (X : K.In h) (G : h.Ns mainGlobals mg) (c : SaysY w h K) (x : Str) (i : Nat) (m : (x, i) ∈ defL) : DefOf K mg x (topS i) := by
  obtain ⟨fd, F⟩ := c.t.d.defs (d := dd (x, i)) (List.mem_map.mpr ⟨(x, i), m, rfl⟩)
  exact ⟨_, fd, F, glo_at X G c m⟩
theorem free_at (X : K.In h) (G : h.Ns mainGlobals mg) (c : SaysY w h K) (i : Nat) (x : Str) (e : faL[i]? = some (.free x)) : mg x = none := He.free_ok X G (c.t.d.fact i e)
theorem exc_at (X : K.In h) (G : h.Ns mainGlobals mg) (c : SaysY w h K) (x : Str) (i j : Nat) (e : faL[i]? = some (.glo x)) (e2 : faL[j]? = some (.exc x)) : ExcOf K mg x := by
  obtain ⟨h1, h2, h3, h4⟩ := He.exc_ok (c.t.d.fact j e2)
  exact ⟨He.glo_ok X G (c.t.d.fact i e), h1, h2, h3, h4⟩
theorem tx_of (X : K.In h) (G : h.Ns mainGlobals mg) (c : SaysY w h K) : Tx K mg where
  isinst := free_at X G c 31 _ rfl
  int_ := free_at X G c 32 _ rfl
  bool_ := free_at X G c 33 _ rfl
  tuple_ := free_at X G c 34 _ rfl
  len_ := free_at X G c 35 _ rfl
  all_ := free_at X G c 36 _ rfl
  range_ := free_at X G c 37 _ rfl
  sorted_ := free_at X G c 38 _ rfl
  zip_ := free_at X G c 39 _ rfl
  set_ := free_at X G c 40 _ rfl
  abs_ := free_at X G c 41 _ rfl
  list_ := free_at X G c 42 _ rfl
  verr := free_at X G c 43 _ rfl
  things := He.int_ok X G (c.t.d.fact 45 (f := .int "THINGS" 30) rfl)
  comparers := He.int_ok X G (c.t.d.fact 46 (f := .int "COMPARERS" 120) rfl)
  marked := He.int_ok X G (c.t.d.fact 47 (f := .int "MARKED" 10) rfl)
  short := He.int_ok X G (c.t.d.fact 48 (f := .int "SHORT" 4) rfl)
  e_many := exc_at X G c _ 56 49 rfl rfl
  e_net := exc_at X G c _ 59 50 rfl rfl
  d_is_whole := def_at X G c _ _ (by decide +kernel)
  d_need_many := def_at X G c _ _ (by decide +kernel)
  d_need_few := def_at X G c _ _ (by decide +kernel)
  d_fits_net := def_at X G c _ _ (by decide +kernel)
  d_need_net := def_at X G c _ _ (by decide +kernel)
  d_compared := def_at X G c _ _ (by decide +kernel)
  d_behind_net := def_at X G c _ _ (by decide +kernel)
  d_all_marks := def_at X G c _ _ (by decide +kernel)
  d_is_sorted_row := def_at X G c _ _ (by decide +kernel)
  d_unsorted_by := def_at X G c _ _ (by decide +kernel)
  d_need_marked := def_at X G c _ _ (by decide +kernel)
  d_is_sorter := def_at X G c _ _ (by decide +kernel)
  d_pairs_among := def_at X G c _ _ (by decide +kernel)
  d_rows_behind := def_at X G c _ _ (by decide +kernel)
  d_shortest_more := def_at X G c _ _ (by decide +kernel)
  d_need_short := def_at X G c _ _ (by decide +kernel)
  d_fewest_more := def_at X G c _ _ (by decide +kernel)
  d_more_for := def_at X G c _ _ (by decide +kernel)
  d_bucket := def_at X G c _ _ (by decide +kernel)
  d_scoop := def_at X G c _ _ (by decide +kernel)
  d_drawn_net := def_at X G c _ _ (by decide +kernel)
  d_through := def_at X G c _ _ (by decide +kernel)
  d_every := def_at X G c _ _ (by decide +kernel)
  d_longer := def_at X G c _ _ (by decide +kernel)
  d_names := def_at X G c _ _ (by decide +kernel)
  d_word := def_at X G c _ _ (by decide +kernel)
  d_bad_nets := def_at X G c _ _ (by decide +kernel)
  d_far := def_at X G c _ _ (by decide +kernel)
  d_right := def_at X G c _ _ (by decide +kernel)
  d_refused := def_at X G c _ _ (by decide +kernel)
  d_law := def_at X G c _ _ (by decide +kernel)
theorem ty_of (X : K.In h) (G : h.Ns mainGlobals mg) (c : SaysY w h K) : Ty K mg where
  g := fun x m => He.glo_ok X G (c.t.d.facts (f := .glo x) (by
    obtain ⟨i, hi, e⟩ := List.mem_iff_getElem.mp m
    have z : faL[55 + i]? = some (.glo kinds[i]) := by
      have hi : i < 8 := hi
      match i, hi with
      | 0, _ => rfl
      | 1, _ => rfl
      | 2, _ => rfl
      | 3, _ => rfl
      | 4, _ => rfl
      | 5, _ => rfl
      | 6, _ => rfl
      | 7, _ => rfl
    rw [e] at z
    exact List.mem_of_getElem? z))
theorem errs_of (c : SaysY w h K) : Errs K := by
  have m := c.more
  unfold exY at m
  simp only [Bool.and_eq_true] at m
  obtain ⟨h1, h2, h3, _⟩ := m
  exact ⟨errB_ok h1, errB_ok h2, errB_ok h3, He.exm_ok (c.t.d.fact 51 (f := .exm "InvalidMany" "OrderError" true) rfl), He.exm_ok (c.t.d.fact 52 (f := .exm "InvalidNet" "OrderError" true) rfl), He.exm_ok (c.t.d.fact 53 (f := .exm "TooMany" "OrderError" true) rfl)⟩
theorem tm_of (X : K.In h) (G : h.Ns mainGlobals mg) (c : SaysY w h K) {base : Heap} : TmRule PP w K mg base := by
  have m := c.more
  unfold exY at m
  simp only [Bool.and_eq_true] at m
  obtain ⟨cc, cd, T⟩ := tmB_ok m.2.2.2 c.ini
  exact tm_rule T (He.glo_ok X G (c.t.d.fact 62 (f := .glo "TooMany") rfl)) (free_at X G c 44 _ rfl) (by decide +kernel)
theorem ref_of (X : K.In h) (G : h.Ns mainGlobals mg) (c : SaysY w h K) : RefD K mg (He.cT K ("_law_refused", none)).1 := by
  obtain ⟨fd, F⟩ := c.t.d.defs (d := dd ("_law_refused", 47)) (List.mem_map.mpr ⟨("_law_refused", 47), by decide +kernel, rfl⟩)
  have F : FunD K "_law_refused" "_law_refused" (defArgs (topS 47)) (defBody (topS 47)) (defScope (topS 47)) [] [] (He.fAd K ("_law_refused", none)) fd := F
  have b := F.bindsN (ps := ["_law_size_so", "_law_net_so"]) fun _ _ _ _ _ _ us hl => match us, hl with | [_, _], _ => rfl
  have kp := F.kp
  obtain ⟨oc, od, dV, kV, doc, pm, an, cdv, ct, osl, rfl, lk, hcd, _, _⟩ := F.ex
  obtain ⟨c1, rfl⟩ := He.codeIn_ref hcd
  have e : He.codeOf K ("_law_refused", none) = c1 := He.codeOf_eq lk rfl
  show RefD K mg (He.codeOf K ("_law_refused", none))
  rw [e]
  exact ⟨_, oc, od, dV, kV, doc, pm, an, ct, osl, lk, hcd, glo_at X G c (p := ("_law_refused", 47)) (by decide +kernel), kp, b⟩
end
theorem law_says (w : World) (mg : Str → Option Value) (fa : Addr) (h : Heap) (Y : hkY.says w h) (G : h.Ns mainGlobals mg) (hmg : mg ("law" : Str) = some (.ref fa)) : ∃ K : PySem.W.Frag, K.In h ∧ LawAtS PySem.Challenge.rw_wiredorders_k58_whole_fewest_comparers_m w K (L2N.CX PP w) 12 63 "_law_script" mg fa h := by
  obtain ⟨K, X, c⟩ := Y
  refine ⟨K, X, ?_⟩
  obtain ⟨fd, F⟩ := c.t.d.defs (d := dd ("law", 48)) (List.mem_map.mpr ⟨("law", 48), by decide +kernel, rfl⟩)
  have F : FunD K "law" "law" (defArgs (topS 48)) (defBody (topS 48)) (defScope (topS 48)) [] [] (He.ga K "law") fd := F
  have e := hmg.symm.trans (glo_at X G c (p := ("law", 48)) (by decide +kernel))
  cases e
  have b := F.bindsA (ps := ["_law_script"]) fun _ _ _ _ _ _ us hl => match us, hl with | [_], _ => rfl
  refine ⟨fd, [He.cT K ("_law_refused", none)], spLaw K (He.cT K ("_law_refused", none)).2, fun p hp => ?_, fun p hp => ?_, fun p hp => ?_, fun s u => b s [u] rfl, fun H a ns hn _ hH hS => ?_, fun base KB GB TBs => ?_⟩
  · rw [List.mem_singleton.mp hp]; exact c.empty
  · rw [List.mem_singleton.mp hp]; exact c.out
  · rw [List.mem_singleton.mp hp]; exact PySem.W.codeHd_of_K X c.hd
  · exact ⟨a, ns, rfl, hS, by omega, fun p hp => by rw [List.mem_singleton.mp hp]; exact TabS.nil (hH _ (List.mem_singleton.mpr rfl)), fun _ => rfl⟩
  · exact c_law (tx_of X G c) (ty_of X G c) (tm_of X G c) (errs_of c) (He.glo_ok X G (c.t.d.fact 54 (f := .glo "OrderError") rfl)) (TBs _ (List.mem_singleton.mpr rfl)) (ref_of X G c) F
end WO
open PySem PySem.W PySem.Calls PyProof.Rows
theorem PySem.Challenge.cw_wiredorders_k58_whole_fewest_comparers_m_holds : PySem.Challenge.rw_wiredorders_k58_whole_fewest_comparers_m.Holds := by
  w_on; o_law
  refine HandSHeadRun.head_any (r := WO.RR) (q := view WO.RR.prog [48]) (H := WO.hkY) (ob := WO.obF) (M := 6000) (loose := WO.looseL) (d := HandSHeadRun.topDef WO.RR.prog 48) (kwd := []) WO.obF_eq (by kernel_rfl) (fun s => by kernel_rfl) WO.runY (by kernel_rfl) (by kernel_rfl) (by kernel_rfl) (by rfl) (by first | assumption | decide +kernel) (by decide +kernel) ⟨rfl, rfl, rfl, rfl, rfl, by decide +kernel⟩ ?hw ?hc
  case hw => w_witness2
  case hc =>
    refine LamX.walk_ofTsE (l := PySem.Challenge.rw_wiredorders_k58_whole_fewest_comparers_m) (n := 63) (k := 12) (x := "_law_script") (CX := fun w => L2N.CX WO.PP w) rfl (by decide) (by kernel_rfl) ⟨rfl, by decide, by decide⟩ ?F (fun w H s e s' z => ?_)
    · intro w mg fa h Y G hmg0
      have hmg : mg ("law" : PySem.Str) = some (.ref fa) := by
        have e : (HandSHeadRun.topDef WO.RR.prog 48).name = ("law" : PySem.Str) := by kernel_rfl
        rw [← e]
        exact hmg0
      exact WO.law_says w mg fa h Y G hmg
    · obtain ⟨_, _, _, _, _, _, _, _, _, _, _, _, z⟩ := z
      exact z

