import PyProof.Rows.All
import Wide.All
import OpenK.AllK
import Wide.FinOn
import KE.GoesEnum
import PyProof.AssignAttr
import HandS.ForMost
import HandS.IsInst
import HandS.Wide
import HandS.TupAny
import HandS.SortInts
import HandS.Walk
import HandS.Defaults
import HandS.Zip
import HandS.Evl
import KE.KStateDown
import HandS.Base
import HandS.Call
import HandS.Ends
import HandS.More
import HandS.Words
import HandS.WordsExc
import HandS.Head0
import HandS.Head1
import HandS.Head2
import HandS.HeadEnd
import HandS.HeadHook1
import HandS.HeadHook2
import PySem.Challenge.RW_splitclimb_k46_whole_merged_climbers
set_option Elab.async false
set_option linter.all false
set_option maxRecDepth 100000
set_option maxHeartbeats 0
namespace Lw
def prodI : List Int → Int
  | [] => 1
  | e :: r => e * prodI r
def sw : List Int → List Int → Int
  | e :: r, c :: cs => c * prodI r + sw r cs
  | _, _ => 0
def cdiv (a b : Int) : Int := -(-a / b)
def gua (many : Bool) (s c : List Int) : Int := if many then sw s c / prodI s else cdiv (sw s c) (prodI s)
def gval (s g : List Int) : Int × Int := (sw s g / prodI s.tail, cdiv (sw s g) (prodI s.tail))
def lmin : List Int → Int
  | [] => 0
  | [x] => x
  | x :: y :: r => min x (lmin (y :: r))
def lmax : List Int → Int
  | [] => 0
  | [x] => x
  | x :: y :: r => max x (lmax (y :: r))
theorem lmin_mem : ∀ {l : List Int}, l ≠ [] → lmin l ∈ l
  | [], h => absurd rfl h
  | [x], _ => by simp [lmin]
  | x :: y :: r, _ => by
    have ih := lmin_mem (l := y :: r) (by simp)
    unfold lmin
    by_cases h : x ≤ lmin (y :: r)
    · rw [Int.min_eq_left h]; simp
    · rw [Int.min_eq_right (by omega)]; exact List.mem_cons_of_mem _ ih
theorem lmin_le : ∀ {l : List Int} {y : Int}, y ∈ l → lmin l ≤ y
  | [], _, h => by simp at h
  | [x], y, h => by simp at h; subst h; exact Int.le_refl _
  | x :: z :: r, y, h => by
    unfold lmin
    rcases (List.mem_cons.mp h) with e | h
    · subst e; omega
    · have := lmin_le (l := z :: r) h; omega
theorem lmax_mem : ∀ {l : List Int}, l ≠ [] → lmax l ∈ l
  | [], h => absurd rfl h
  | [x], _ => by simp [lmax]
  | x :: y :: r, _ => by
    have ih := lmax_mem (l := y :: r) (by simp)
    unfold lmax
    by_cases h : lmax (y :: r) ≤ x
    · rw [Int.max_eq_left h]; simp
    · rw [Int.max_eq_right (by omega)]; exact List.mem_cons_of_mem _ ih
theorem le_lmax : ∀ {l : List Int} {y : Int}, y ∈ l → y ≤ lmax l
  | [], _, h => by simp at h
  | [x], y, h => by simp at h; subst h; exact Int.le_refl _
  | x :: z :: r, y, h => by
    unfold lmax
    rcases (List.mem_cons.mp h) with e | h
    · subst e; omega
    · have := le_lmax (l := z :: r) h; omega
theorem lmin_is {l : List Int} {m : Int} (h : m ∈ l) (h2 : ∀ y, y ∈ l → m ≤ y) : m = lmin l := by
  have h0 : l ≠ [] := by intro e; subst e; simp at h
  have := lmin_le h
  have := h2 _ (lmin_mem h0)
  omega
theorem lmax_is {l : List Int} {m : Int} (h : m ∈ l) (h2 : ∀ y, y ∈ l → y ≤ m) : m = lmax l := by
  have h0 : l ≠ [] := by intro e; subst e; simp at h
  have := le_lmax h
  have := h2 _ (lmax_mem h0)
  omega
theorem lmin_add : ∀ (l : List Int) (t : Int), l ≠ [] → lmin (l.map (· + t)) = lmin l + t
  | [], _, h => absurd rfl h
  | [x], t, _ => rfl
  | x :: y :: r, t, _ => by
    have ih := lmin_add (y :: r) t (by simp)
    show min (x + t) (lmin ((y :: r).map (· + t))) = min x (lmin (y :: r)) + t
    rw [ih]; omega
theorem lmax_add : ∀ (l : List Int) (t : Int), l ≠ [] → lmax (l.map (· + t)) = lmax l + t
  | [], _, h => absurd rfl h
  | [x], t, _ => rfl
  | x :: y :: r, t, _ => by
    have ih := lmax_add (y :: r) t (by simp)
    show max (x + t) (lmax ((y :: r).map (· + t))) = max x (lmax (y :: r)) + t
    rw [ih]; omega

def loss (many : Bool) (s c : List Int) (gs : List (List Int)) (k : Nat) : Int × Int :=
  if many then (gua true s c - lmin (gs.map fun g => (gval s g).1), (gval s (gs.getD k [])).1 - lmin (gs.map fun g => (gval s g).1))
  else (lmax (gs.map fun g => (gval s g).2) - gua false s c, lmax (gs.map fun g => (gval s g).2) - (gval s (gs.getD k [])).2)

abbrev Move := List (List Int) × Nat
def nx (m : Move) : List Int := (m.1.getD m.2 []).tail ++ [0]
def arr (m : Move) : Int := (m.1.getD m.2 []).headD 0
def lossL (many : Bool) : List Int → List Int → List Move → List (Int × Int)
  | s, c, m :: ms => loss many s c m.1 m.2 :: lossL many s.tail (nx m) ms
  | _, _, [] => []

structure Split (e : Int) (c : List Int) (gs : List (List Int)) : Prop where
  len : (gs.length : Int) = e
  gl : ∀ g ∈ gs, g.length = c.length
  nn : ∀ g ∈ gs, ∀ x ∈ g, 0 ≤ x
  sum : ∀ j, j < c.length → (gs.map fun g => g.getD j 0).sum = c.getD j 0

def Game : List Int → List Int → List Move → Prop
  | [], _, [] => True
  | e :: r, c, m :: ms => Split e c m.1 ∧ (m.2 : Int) < e ∧ Game r (nx m) ms
  | _, _, _ => False

/-- a group with m climbers more at the place j (the distance j + 1) -/
def pl (g : List Int) (j : Nat) (m : Int) : List Int := g.take j ++ (g.getD j 0 + m) :: g.drop (j + 1)
theorem pl_zero (x : Int) (r : List Int) (m : Int) : pl (x :: r) 0 m = (x + m) :: r := rfl
theorem pl_succ (x : Int) (r : List Int) (j : Nat) (m : Int) : pl (x :: r) (j + 1) m = x :: pl r j m := rfl
theorem pl_len : ∀ {g : List Int} {j : Nat} {m : Int}, j < g.length → (pl g j m).length = g.length
  | [], _, _, h => by simp at h
  | x :: r, 0, m, _ => rfl
  | x :: r, j + 1, m, h => by
    rw [pl_succ, List.length_cons, List.length_cons, pl_len (by simpa using h)]
theorem pl_get : ∀ {g : List Int} {j : Nat} {m : Int} (i : Nat), j < g.length → (pl g j m).getD i 0 = g.getD i 0 + if i = j then m else 0
  | [], _, _, _, hj => by simp at hj
  | x :: r, 0, m, 0, _ => by simp [pl_zero]
  | x :: r, 0, m, i + 1, _ => by simp [pl_zero]
  | x :: r, j + 1, m, 0, _ => by simp [pl_succ]
  | x :: r, j + 1, m, i + 1, h => by
    have ih := pl_get (g := r) (j := j) (m := m) i (by simpa using h)
    rw [pl_succ, List.getD_cons_succ, List.getD_cons_succ, ih]
    by_cases e : i = j
    · subst e; simp
    · have : ¬ i + 1 = j + 1 := by omega
      rw [if_neg e, if_neg this]
theorem pl_nn : ∀ {g : List Int} {j : Nat} {m : Int}, j < g.length → 0 ≤ m → (∀ x ∈ g, 0 ≤ x) → ∀ x ∈ pl g j m, 0 ≤ x
  | [], _, _, h, _, _ => by simp at h
  | y :: r, 0, m, _, hm, hx => fun x h => by
    rw [pl_zero] at h
    have hy := hx y (by simp)
    rcases (List.mem_cons.mp h) with e | h
    · omega
    · exact hx x (List.mem_cons_of_mem _ h)
  | y :: r, j + 1, m, hj, hm, hx => fun x h => by
    rw [pl_succ] at h
    rcases (List.mem_cons.mp h) with e | h
    · rw [e]; exact hx y (by simp)
    · exact pl_nn (by simpa using hj) hm (fun z hz => hx z (List.mem_cons_of_mem _ hz)) x h
theorem pl_tail_zero {g : List Int} {m : Int} (h : 0 < g.length) : (pl g 0 m).tail = g.tail := by
  cases g with
  | nil => simp at h
  | cons x r => rfl
theorem pl_tail_succ {g : List Int} {j : Nat} {m : Int} (h : j + 1 < g.length) : (pl g (j + 1) m).tail ++ [0] = pl (g.tail ++ [0]) j m := by
  cases g with
  | nil => simp at h
  | cons x r =>
    rw [pl_succ]
    show pl r j m ++ [0] = pl (r ++ [0]) j m
    have hj : j < r.length := by simpa using h
    unfold pl
    rw [List.take_append_of_le_length (by omega), List.drop_append_of_le_length (by omega)]
    have : (r ++ [0]).getD j 0 = r.getD j 0 := by
      rw [List.getD_eq_getElem?_getD, List.getD_eq_getElem?_getD, List.getElem?_append_left hj]
    rw [this]
    simp
theorem sw_pl : ∀ {s c : List Int} {j : Nat} {m : Int}, j < s.length → j < c.length → sw s (pl c j m) = sw s c + m * prodI (s.drop (j + 1))
  | [], _, _, _, hj, _ => by simp at hj
  | _ :: _, [], _, _, _, hj => by simp at hj
  | e :: r, c :: cs, 0, m, _, _ => by
    rw [pl_zero]
    show (c + m) * prodI r + sw r cs = c * prodI r + sw r cs + m * prodI r
    rw [Int.add_mul]; omega
  | e :: r, c :: cs, j + 1, m, h1, h2 => by
    have ih := sw_pl (s := r) (c := cs) (j := j) (m := m) (by simpa using h1) (by simpa using h2)
    rw [pl_succ]
    show c * prodI r + sw r (pl cs j m) = c * prodI r + sw r cs + m * prodI (r.drop (j + 1))
    rw [ih]; omega
theorem prodI_pos : ∀ {s : List Int}, (∀ e ∈ s, 0 < e) → 0 < prodI s
  | [], _ => by decide
  | e :: r, h => Int.mul_pos (h e (by simp)) (prodI_pos fun x hx => h x (List.mem_cons_of_mem _ hx))
theorem prodI_drop : ∀ {s : List Int} {d : Nat}, d < s.length → prodI (s.drop d) = s.getD d 0 * prodI (s.drop (d + 1))
  | [], _, h => by simp at h
  | e :: r, 0, _ => rfl
  | e :: r, d + 1, h => by
    show prodI (r.drop d) = r.getD d 0 * prodI (r.drop (d + 1))
    exact prodI_drop (by simpa using h)
/-- one climber at the distance d weighs as much as s[d] climbers at the distance d + 1 -/
theorem sw_same {s c : List Int} {d : Nat} (h1 : d + 1 < s.length) (h2 : d + 1 < c.length) : sw s (pl c d 1) = sw s (pl c (d + 1) (s.getD (d + 1) 0)) := by
  rw [sw_pl (by omega) (by omega), sw_pl h1 h2, prodI_drop h1]; omega
theorem add_div_self {a b : Int} (h : 0 < b) : (a + b) / b = a / b + 1 := Int.add_ediv_of_dvd_right (Int.dvd_refl b) |>.trans (by rw [Int.ediv_self (by omega)])
theorem cdiv_add {a b : Int} (h : 0 < b) : cdiv (a + b) b = cdiv a b + 1 := by
  unfold cdiv
  have e : -(a + b) = -a + b * (-1) := by omega
  rw [e, Int.add_mul_ediv_left _ _ (by omega)]; omega

/-! ### the two games -/
inductive St where
  | on (d : Nat) | off (b : Bool)
def St.isIn : St → Bool
  | .on _ => true
  | .off b => b
def mine : St → List (List Int) → Nat → List (List Int)
  | .on (d + 1), gs, h => gs.set h (pl (gs.getD h []) d 1)
  | _, gs, _ => gs
def oth (q : Int) : St → List (List Int) → Nat → List (List Int)
  | .on (d + 1), gs, h => gs.set h (pl (gs.getD h []) (d + 1) q)
  | .on 0, gs, _ => gs.map fun g => pl g 0 1
  | .off _, gs, _ => gs
def nxt : St → Nat → Nat → St
  | .on (d + 1), h, k => if h = k then .on d else .off false
  | .on 0, _, _ => .off true
  | .off b, _, _ => .off b
def gm (q : Int) : St → List Move → List Nat → List Move × List Move × St
  | st, m :: ms, h :: hs => ((mine st m.1 h, m.2) :: (gm q (nxt st h m.2) ms hs).1, (oth q st m.1 h, m.2) :: (gm q (nxt st h m.2) ms hs).2.1, (gm q (nxt st h m.2) ms hs).2.2)
  | st, _, _ => ([], [], st)
def cOne : St → List Int → List Int
  | .on (d + 1), c => pl c d 1
  | _, c => c
def cTwo (q : Int) : St → List Int → List Int
  | .on d, c => pl c d q
  | .off _, c => c
def Fit (q : Int) (s : List Int) : St → Prop
  | .on d => d < s.length ∧ s.getD d 0 = q
  | .off _ => True
def Homes : List Int → List Nat → Prop
  | [], [] => True
  | e :: r, h :: hs => (h : Int) < e ∧ Homes r hs
  | _, _ => False

/-! one group changed at one place -/
theorem sum_map_set (f : List Int → Int) : ∀ {gs : List (List Int)} {h : Nat} {g : List Int}, h < gs.length → ((gs.set h g).map f).sum = (gs.map f).sum - f (gs.getD h []) + f g
  | [], _, _, hh => by simp at hh
  | x :: r, 0, g, _ => by
    show f g + (r.map f).sum = f x + (r.map f).sum - f x + f g
    omega
  | x :: r, h + 1, g, hh => by
    have ih := sum_map_set f (gs := r) (h := h) (g := g) (by simpa using hh)
    show f x + ((r.set h g).map f).sum = f x + (r.map f).sum - f (r.getD h []) + f g
    rw [ih]; omega
theorem getD_mem {gs : List (List Int)} {h : Nat} (hh : h < gs.length) : gs.getD h [] ∈ gs := by
  rw [List.getD_eq_getElem?_getD, List.getElem?_eq_getElem hh]; exact List.getElem_mem hh
theorem split_set {e : Int} {c : List Int} {gs : List (List Int)} {h j : Nat} {m : Int} (S : Split e c gs) (hh : h < gs.length) (hj : j < c.length) (hm : 0 ≤ m) : Split e (pl c j m) (gs.set h (pl (gs.getD h []) j m)) := by
  have hg := S.gl _ (getD_mem hh)
  have hjg : j < (gs.getD h []).length := by omega
  refine ⟨by rw [List.length_set]; exact S.len, fun g mg => ?_, fun g mg => ?_, fun i hi => ?_⟩
  · rw [pl_len hj]
    rcases List.mem_or_eq_of_mem_set mg with z | z
    · exact S.gl g z
    · rw [z, pl_len hjg]; exact hg
  · rcases List.mem_or_eq_of_mem_set mg with z | z
    · exact S.nn g z
    · rw [z]; exact pl_nn hjg hm (S.nn _ (getD_mem hh))
  · rw [pl_len hj] at hi
    rw [sum_map_set (fun g => g.getD i 0) hh, S.sum i hi, pl_get i hj, pl_get i hjg]; omega
theorem sum_map_add (f : List Int → Int) (t : Int) : ∀ gs : List (List Int), (gs.map fun g => f g + t).sum = (gs.map f).sum + gs.length * t
  | [] => by simp
  | x :: r => by
    have ih := sum_map_add f t r
    rw [List.map_cons, List.map_cons, List.sum_cons, List.sum_cons, ih, List.length_cons]
    have : ((r.length + 1 : Nat) : Int) * t = r.length * t + t := by rw [Int.natCast_add, Int.add_mul]; simp
    omega
theorem split_all {e : Int} {c : List Int} {gs : List (List Int)} (S : Split e c gs) (hc : 0 < c.length) : Split e (pl c 0 e) (gs.map fun g => pl g 0 1) := by
  have hl : ∀ g ∈ gs, 0 < g.length := fun g hg => by rw [S.gl g hg]; exact hc
  refine ⟨by rw [List.length_map]; exact S.len, fun g mg => ?_, fun g mg => ?_, fun i hi => ?_⟩
  · obtain ⟨g', hg', rfl⟩ := List.mem_map.mp mg
    rw [pl_len (hl _ hg'), pl_len hc]; exact S.gl _ hg'
  · obtain ⟨g', hg', rfl⟩ := List.mem_map.mp mg
    exact pl_nn (hl _ hg') (by decide) (S.nn _ hg')
  · rw [pl_len hc] at hi
    rw [List.map_map, pl_get i hc, ← S.sum i hi]
    have e1 : gs.map ((fun g => g.getD i 0) ∘ fun g => pl g 0 1) = gs.map fun g => g.getD i 0 + if i = 0 then 1 else 0 :=
      List.map_congr_left fun g hg => pl_get i (hl g hg)
    rw [e1, sum_map_add (fun g => g.getD i 0)]
    have := S.len
    by_cases z : i = 0
    · rw [if_pos z, if_pos z]; omega
    · rw [if_neg z, if_neg z]; omega

theorem getD_set_eq {gs : List (List Int)} {h : Nat} {g : List Int} (hh : h < gs.length) : (gs.set h g).getD h [] = g := by
  rw [List.getD_eq_getElem?_getD, List.getElem?_set_self hh]; rfl
theorem getD_set_ne {gs : List (List Int)} {h k : Nat} {g : List Int} (hk : h ≠ k) : (gs.set h g).getD k [] = gs.getD k [] := by
  rw [List.getD_eq_getElem?_getD, List.getElem?_set_ne hk, ← List.getD_eq_getElem?_getD]
theorem getD_map_pl {gs : List (List Int)} {k : Nat} (hk : k < gs.length) : (gs.map fun g => pl g 0 1).getD k [] = pl (gs.getD k []) 0 1 := by
  rw [List.getD_eq_getElem?_getD, List.getElem?_map, List.getD_eq_getElem?_getD, List.getElem?_eq_getElem hk]; rfl

theorem map_set_same {α : Type} (f : List Int → α) {gs : List (List Int)} {h : Nat} {g g' : List Int} (e : f g = f g') : (gs.set h g).map f = (gs.set h g').map f := by
  rw [List.map_set, List.map_set, e]

/-- the losses of a round lean on the weights alone -/
theorem loss_same {s c c' : List Int} {gs gs' : List (List Int)} {k : Nat} (many : Bool) (h : sw s c = sw s c') (hg : gs.map (sw s) = gs'.map (sw s)) : loss many s c gs k = loss many s c' gs' k := by
  have e1 : (gs.map fun g => (gval s g).1) = gs'.map fun g => (gval s g).1 := by
    have : ∀ l : List (List Int), (l.map fun g => (gval s g).1) = (l.map (sw s)).map fun x => x / prodI s.tail := fun l => by rw [List.map_map]; rfl
    rw [this, this, hg]
  have e2 : (gs.map fun g => (gval s g).2) = gs'.map fun g => (gval s g).2 := by
    have : ∀ l : List (List Int), (l.map fun g => (gval s g).2) = (l.map (sw s)).map fun x => cdiv x (prodI s.tail) := fun l => by rw [List.map_map]; rfl
    rw [this, this, hg]
  have e3 : sw s (gs.getD k []) = sw s (gs'.getD k []) := by
    have z : sw s [] = 0 := by cases s <;> rfl
    have : ∀ l : List (List Int), sw s (l.getD k []) = (l.map (sw s)).getD k 0 := fun l => by
      iterate 2 rw [List.getD_eq_getElem?_getD]
      rw [List.getElem?_map]
      cases l[k]? with
      | none => exact z
      | some x => rfl
    rw [this, this, hg]
  unfold loss gua gval at *
  rw [e1, e2, e3, h]
theorem loss_shift {e : Int} {r c : List Int} {gs : List (List Int)} {k : Nat} (many : Bool) (he : ∀ x ∈ e :: r, 0 < x) (hc : 0 < c.length) (hk : k < gs.length) (hl : ∀ g ∈ gs, 0 < g.length) :
    loss many (e :: r) c gs k = loss many (e :: r) (pl c 0 e) (gs.map fun g => pl g 0 1) k := by
  have pr : 0 < prodI r := prodI_pos fun x hx => he x (List.mem_cons_of_mem _ hx)
  have ps : 0 < prodI (e :: r) := prodI_pos he
  have hne : gs ≠ [] := by intro z; subst z; simp at hk
  have w1 : ∀ g : List Int, 0 < g.length → sw (e :: r) (pl g 0 1) = sw (e :: r) g + prodI r := fun g hg => by
    rw [sw_pl (by simp) hg]; simp
  have w2 : sw (e :: r) (pl c 0 e) = sw (e :: r) c + prodI (e :: r) := by
    rw [sw_pl (by simp) hc]; rfl
  have v1 : ∀ g : List Int, 0 < g.length → gval (e :: r) (pl g 0 1) = ((gval (e :: r) g).1 + 1, (gval (e :: r) g).2 + 1) := fun g hg => by
    unfold gval
    rw [w1 g hg]
    show ((sw (e :: r) g + prodI r) / prodI r, cdiv (sw (e :: r) g + prodI r) (prodI r)) = _
    rw [add_div_self pr, cdiv_add pr]; rfl
  have e1 : ((gs.map fun g => pl g 0 1).map fun g => (gval (e :: r) g).1) = (gs.map fun g => (gval (e :: r) g).1).map (· + 1) := by
    iterate 2 rw [List.map_map]
    exact List.map_congr_left fun g hg => by show (gval (e :: r) (pl g 0 1)).1 = _; rw [v1 g (hl g hg)]; rfl
  have e2 : ((gs.map fun g => pl g 0 1).map fun g => (gval (e :: r) g).2) = (gs.map fun g => (gval (e :: r) g).2).map (· + 1) := by
    iterate 2 rw [List.map_map]
    exact List.map_congr_left fun g hg => by show (gval (e :: r) (pl g 0 1)).2 = _; rw [v1 g (hl g hg)]; rfl
  have g1 : gua true (e :: r) (pl c 0 e) = gua true (e :: r) c + 1 := by
    show sw (e :: r) (pl c 0 e) / prodI (e :: r) = sw (e :: r) c / prodI (e :: r) + 1
    rw [w2, add_div_self ps]
  have g2 : gua false (e :: r) (pl c 0 e) = gua false (e :: r) c + 1 := by
    show cdiv (sw (e :: r) (pl c 0 e)) (prodI (e :: r)) = cdiv (sw (e :: r) c) (prodI (e :: r)) + 1
    rw [w2, cdiv_add ps]
  have ek := v1 _ (hl _ (getD_mem hk))
  unfold loss
  rw [e1, e2, lmin_add _ _ (by simpa using hne), lmax_add _ _ (by simpa using hne), g1, g2, getD_map_pl hk, ek]
  cases many
  · simp only [Bool.false_eq_true, if_false]; congr 1 <;> omega
  · simp only [if_true]; congr 1 <;> omega

theorem nx_len {e : Int} {c : List Int} {m : Move} (S : Split e c m.1) (h : (m.2 : Int) < e) (hc : 0 < c.length) : (nx m).length = c.length := by
  have := S.len
  have hg := S.gl _ (getD_mem (h := m.2) (by omega))
  unfold nx
  rw [List.length_append, List.length_tail, hg]; simp; omega

/-- THE PLAIN LAW -/
theorem twin (q : Int) (hq : 0 ≤ q) : ∀ (s c : List Int) (ms : List Move) (hs : List Nat) (st : St), Game s c ms → Homes s hs → Fit q s st → s.length ≤ c.length → 0 < c.length → (∀ x ∈ s, 0 < x) →
    Game s (cOne st c) (gm q st ms hs).1 ∧ Game s (cTwo q st c) (gm q st ms hs).2.1 ∧ ∀ many, lossL many s (cOne st c) (gm q st ms hs).1 = lossL many s (cTwo q st c) (gm q st ms hs).2.1
  | [], c, [], hs, st, _, _, hf, _, _, _ => by
    cases st with
    | on d => exact absurd hf.1 (by simp)
    | off b => cases hs <;> exact ⟨trivial, trivial, fun _ => rfl⟩
  | e :: r, c, m :: ms, [], st, _, hh, _, _, _, _ => hh.elim
  | e :: r, c, m :: ms, h :: hs, st, hG, hH, hf, hl, hc, hp => by
    obtain ⟨S, hk, G⟩ := hG
    obtain ⟨hh, HH⟩ := hH
    have hlen := S.len
    have hk' : m.2 < m.1.length := by omega
    have hh' : h < m.1.length := by omega
    have hnl := nx_len S hk hc
    have hgk := S.gl _ (getD_mem hk')
    have hp' : ∀ x ∈ r, 0 < x := fun x hx => hp x (List.mem_cons_of_mem _ hx)
    have hlr : r.length ≤ (nx m).length := by rw [hnl]; simp at hl; omega
    cases st with
    | off b =>
      obtain ⟨a1, a2, a3⟩ := twin q hq r (nx m) ms hs (.off b) G HH trivial hlr (by omega) hp'
      refine ⟨⟨S, hk, a1⟩, ⟨S, hk, a2⟩, fun many => ?_⟩
      show loss many (e :: r) c m.1 m.2 :: lossL many r (nx m) _ = loss many (e :: r) c m.1 m.2 :: lossL many r (nx m) _
      exact congrArg _ (a3 many)
    | on d =>
      obtain ⟨hd, hqd⟩ := hf
      have hd' : d < c.length := by omega
      cases d with
      | zero =>
        have eq : e = q := hqd
        subst eq
        obtain ⟨a1, a2, a3⟩ := twin e hq r (nx m) ms hs (.off true) G HH trivial hlr (by omega) hp'
        have en : nx (m.1.map (fun g => pl g 0 1), m.2) = nx m := by
          unfold nx
          show ((m.1.map fun g => pl g 0 1).getD m.2 []).tail ++ [0] = _
          rw [getD_map_pl hk', pl_tail_zero (by omega)]
        refine ⟨⟨S, hk, a1⟩, ⟨split_all S hc, hk, ?_⟩, fun many => ?_⟩
        · show Game r (nx (m.1.map (fun g => pl g 0 1), m.2)) (gm e (.off true) ms hs).2.1
          rw [en]; exact a2
        · show loss many (e :: r) c m.1 m.2 :: lossL many r (nx m) _ = loss many (e :: r) (pl c 0 e) (m.1.map fun g => pl g 0 1) m.2 :: lossL many r (nx (m.1.map (fun g => pl g 0 1), m.2)) _
          rw [en, ← loss_shift many hp hc hk' fun g hg => by rw [S.gl g hg]; exact hc]
          exact congrArg _ (a3 many)
      | succ d =>
        have hgh := S.gl _ (getD_mem hh')
        have hdc : d + 1 < c.length := by omega
        have hdr : d < r.length := by simpa using hd
        have ew : sw (e :: r) (pl c d 1) = sw (e :: r) (pl c (d + 1) q) := by rw [sw_same hd hdc, hqd]
        have eg : (m.1.set h (pl (m.1.getD h []) d 1)).map (sw (e :: r)) = (m.1.set h (pl (m.1.getD h []) (d + 1) q)).map (sw (e :: r)) :=
          map_set_same _ (by rw [sw_same hd (by omega), hqd])
        have S1 := split_set S hh' (j := d) (m := 1) (by omega) (by decide)
        have S2 := split_set S hh' (j := d + 1) (m := q) hdc hq
        by_cases hhk : h = m.2
        · have n1 : nx (m.1.set h (pl (m.1.getD h []) d 1), m.2) = cOne (.on d) (nx m) := by
            unfold nx
            show ((m.1.set h (pl (m.1.getD h []) d 1)).getD m.2 []).tail ++ [0] = _
            rw [← hhk, getD_set_eq hh']
            cases d with
            | zero => rw [pl_tail_zero (by omega)]; rfl
            | succ d => rw [pl_tail_succ (by omega)]; rfl
          have n2 : nx (m.1.set h (pl (m.1.getD h []) (d + 1) q), m.2) = cTwo q (.on d) (nx m) := by
            unfold nx
            show ((m.1.set h (pl (m.1.getD h []) (d + 1) q)).getD m.2 []).tail ++ [0] = _
            rw [← hhk, getD_set_eq hh', pl_tail_succ (by omega)]; rfl
          obtain ⟨a1, a2, a3⟩ := twin q hq r (nx m) ms hs (.on d) G HH ⟨hdr, hqd⟩ hlr (by omega) hp'
          have en : nxt (.on (d + 1)) h m.2 = .on d := if_pos hhk
          refine ⟨?_, ?_, fun many => ?_⟩
          · show Split e (pl c d 1) (m.1.set h (pl (m.1.getD h []) d 1)) ∧ (m.2 : Int) < e ∧ Game r (nx (m.1.set h (pl (m.1.getD h []) d 1), m.2)) (gm q (nxt (.on (d + 1)) h m.2) ms hs).1
            rw [n1, en]; exact ⟨S1, hk, a1⟩
          · show Split e (pl c (d + 1) q) (m.1.set h (pl (m.1.getD h []) (d + 1) q)) ∧ (m.2 : Int) < e ∧ Game r (nx (m.1.set h (pl (m.1.getD h []) (d + 1) q), m.2)) (gm q (nxt (.on (d + 1)) h m.2) ms hs).2.1
            rw [n2, en]; exact ⟨S2, hk, a2⟩
          · show loss many (e :: r) (pl c d 1) (m.1.set h (pl (m.1.getD h []) d 1)) m.2 :: lossL many r (nx (m.1.set h (pl (m.1.getD h []) d 1), m.2)) (gm q (nxt (.on (d + 1)) h m.2) ms hs).1
              = loss many (e :: r) (pl c (d + 1) q) (m.1.set h (pl (m.1.getD h []) (d + 1) q)) m.2 :: lossL many r (nx (m.1.set h (pl (m.1.getD h []) (d + 1) q), m.2)) (gm q (nxt (.on (d + 1)) h m.2) ms hs).2.1
            rw [n1, n2, en, loss_same many ew eg]
            exact congrArg _ (a3 many)
        · have n1 : nx (m.1.set h (pl (m.1.getD h []) d 1), m.2) = nx m := by
            unfold nx
            show ((m.1.set h (pl (m.1.getD h []) d 1)).getD m.2 []).tail ++ [0] = _
            rw [getD_set_ne hhk]
          have n2 : nx (m.1.set h (pl (m.1.getD h []) (d + 1) q), m.2) = nx m := by
            unfold nx
            show ((m.1.set h (pl (m.1.getD h []) (d + 1) q)).getD m.2 []).tail ++ [0] = _
            rw [getD_set_ne hhk]
          obtain ⟨a1, a2, a3⟩ := twin q hq r (nx m) ms hs (.off false) G HH trivial hlr (by omega) hp'
          have en : nxt (.on (d + 1)) h m.2 = .off false := if_neg hhk
          refine ⟨?_, ?_, fun many => ?_⟩
          · show Split e (pl c d 1) (m.1.set h (pl (m.1.getD h []) d 1)) ∧ (m.2 : Int) < e ∧ Game r (nx (m.1.set h (pl (m.1.getD h []) d 1), m.2)) (gm q (nxt (.on (d + 1)) h m.2) ms hs).1
            rw [n1, en]; exact ⟨S1, hk, a1⟩
          · show Split e (pl c (d + 1) q) (m.1.set h (pl (m.1.getD h []) (d + 1) q)) ∧ (m.2 : Int) < e ∧ Game r (nx (m.1.set h (pl (m.1.getD h []) (d + 1) q), m.2)) (gm q (nxt (.on (d + 1)) h m.2) ms hs).2.1
            rw [n2, en]; exact ⟨S2, hk, a2⟩
          · show loss many (e :: r) (pl c d 1) (m.1.set h (pl (m.1.getD h []) d 1)) m.2 :: lossL many r (nx (m.1.set h (pl (m.1.getD h []) d 1), m.2)) (gm q (nxt (.on (d + 1)) h m.2) ms hs).1
              = loss many (e :: r) (pl c (d + 1) q) (m.1.set h (pl (m.1.getD h []) (d + 1) q)) m.2 :: lossL many r (nx (m.1.set h (pl (m.1.getD h []) (d + 1) q), m.2)) (gm q (nxt (.on (d + 1)) h m.2) ms hs).2.1
            rw [n1, n2, en, loss_same many ew eg]
            exact congrArg _ (a3 many)
  | [], _, _ :: _, _, _, h, _, _, _, _, _ => h.elim
  | _ :: _, _, [], _, _, h, _, _, _, _, _ => h.elim

/-! ### the arrivals -/
def due (n far : Nat) (b : Bool) : List Int := if b then ((List.replicate n 0).set (far - 1) 1).set far (-1) else List.replicate n 0
def came (l l' : List Move) : List Int := List.zipWith (fun a b => arr a - arr b) l l'
theorem gm_len (q : Int) : ∀ (st : St) (ms : List Move) (hs : List Nat), ms.length = hs.length → (gm q st ms hs).1.length = ms.length ∧ (gm q st ms hs).2.1.length = ms.length
  | _, [], _, _ => ⟨rfl, rfl⟩
  | _, _ :: _, [], h => by simp at h
  | st, m :: ms, h :: hs, hl => by
    obtain ⟨a, b⟩ := gm_len q (nxt st h m.2) ms hs (by simpa using hl)
    show (gm q (nxt st h m.2) ms hs).1.length + 1 = ms.length + 1 ∧ (gm q (nxt st h m.2) ms hs).2.1.length + 1 = ms.length + 1
    omega
theorem game_len : ∀ {s c : List Int} {ms : List Move}, Game s c ms → ms.length = s.length
  | [], _, [], _ => rfl
  | [], _, _ :: _, h => h.elim
  | _ :: _, _, [], h => h.elim
  | e :: r, c, m :: ms, h => by
    have := game_len h.2.2
    simp [this]
theorem homes_len : ∀ {s : List Int} {hs : List Nat}, Homes s hs → hs.length = s.length
  | [], [], _ => rfl
  | [], _ :: _, h => h.elim
  | _ :: _, [], h => h.elim
  | e :: r, h :: hs, z => by
    have := homes_len z.2
    simp [this]
theorem came_off (q : Int) (b : Bool) : ∀ (ms : List Move) (hs : List Nat), ms.length = hs.length → came (gm q (.off b) ms hs).1 (gm q (.off b) ms hs).2.1 = List.replicate ms.length 0 ∧ (gm q (.off b) ms hs).2.2 = .off b
  | [], hs, _ => by cases hs <;> exact ⟨rfl, rfl⟩
  | _ :: _, [], hl => by simp at hl
  | m :: ms, h :: hs, hl => by
    obtain ⟨i1, i2⟩ := came_off q b ms hs (by simpa using hl)
    refine ⟨?_, i2⟩
    show (arr m - arr m) :: came (gm q (.off b) ms hs).1 (gm q (.off b) ms hs).2.1 = List.replicate (ms.length + 1) 0
    rw [i1, List.replicate_succ]; congr 1; omega
theorem pl_head_zero {g : List Int} {m : Int} (h : 0 < g.length) : (pl g 0 m).headD 0 = g.headD 0 + m := by
  cases g with
  | nil => simp at h
  | cons x r => rfl
theorem pl_head_succ {g : List Int} {j : Nat} {m : Int} (h : 0 < g.length) : (pl g (j + 1) m).headD 0 = g.headD 0 := by
  cases g with
  | nil => simp at h
  | cons x r => rfl
theorem came_on (q : Int) : ∀ (s c : List Int) (ms : List Move) (hs : List Nat) (d : Nat), Game s c ms → Homes s hs → d < s.length → s.length ≤ c.length →
    ∃ b, (gm q (.on d) ms hs).2.2 = .off b ∧ came (gm q (.on d) ms hs).1 (gm q (.on d) ms hs).2.1 = if b then (if d = 0 then (List.replicate ms.length 0).set 0 (-1) else ((List.replicate ms.length 0).set (d - 1) 1).set d (-1)) else List.replicate ms.length 0
  | [], _, _, _, _, _, _, h, _ => by simp at h
  | _ :: _, _, [], _, _, h, _, _, _ => h.elim
  | _ :: _, _, _ :: _, [], _, _, h, _, _ => h.elim
  | e :: r, c, m :: ms, h :: hs, d, hG, hH, hd, hl => by
    obtain ⟨S, hk, G⟩ := hG
    obtain ⟨hh, HH⟩ := hH
    have hlen := S.len
    have hk' : m.2 < m.1.length := by omega
    have hh' : h < m.1.length := by omega
    have hc : 0 < c.length := by simp at hl; omega
    have hnl := nx_len S hk hc
    have hgk := S.gl _ (getD_mem hk')
    have hlr : r.length ≤ (nx m).length := by rw [hnl]; simp at hl; omega
    have lml : ms.length = hs.length := by rw [game_len G, homes_len HH]
    cases d with
    | zero =>
      obtain ⟨i1, i2⟩ := came_off q true ms hs lml
      refine ⟨true, i2, ?_⟩
      show (arr m - arr (m.1.map (fun g => pl g 0 1), m.2)) :: came (gm q (.off true) ms hs).1 (gm q (.off true) ms hs).2.1 = (List.replicate (ms.length + 1) 0).set 0 (-1)
      have e2 : arr (m.1.map (fun g => pl g 0 1), m.2) = arr m + 1 := by
        unfold arr
        show ((m.1.map fun g => pl g 0 1).getD m.2 []).headD 0 = _
        rw [getD_map_pl hk', pl_head_zero (by omega)]
      rw [i1, e2, List.replicate_succ, List.set_cons_zero]; congr 1; omega
    | succ d =>
      have hgh := S.gl _ (getD_mem hh')
      by_cases hhk : h = m.2
      · have en : nxt (.on (d + 1)) h m.2 = .on d := if_pos hhk
        obtain ⟨b, i2, i1⟩ := came_on q r (nx m) ms hs d G HH (by simpa using hd) hlr
        have a2 : arr (m.1.set h (pl (m.1.getD h []) (d + 1) q), m.2) = arr m := by
          unfold arr
          show ((m.1.set h (pl (m.1.getD h []) (d + 1) q)).getD m.2 []).headD 0 = _
          rw [← hhk, getD_set_eq hh', pl_head_succ (by omega)]
        have a1 : arr (m.1.set h (pl (m.1.getD h []) d 1), m.2) = arr m + if d = 0 then 1 else 0 := by
          unfold arr
          show ((m.1.set h (pl (m.1.getD h []) d 1)).getD m.2 []).headD 0 = _
          rw [← hhk, getD_set_eq hh']
          cases d with
          | zero => rw [pl_head_zero (by omega)]; rfl
          | succ d => rw [pl_head_succ (by omega)]; simp
        -- the climber may still be stopped later: then the first round gives nothing more
        refine ⟨b, by show (gm q (nxt (.on (d + 1)) h m.2) ms hs).2.2 = _; rw [en]; exact i2, ?_⟩
        show (arr (m.1.set h (pl (m.1.getD h []) d 1), m.2) - arr (m.1.set h (pl (m.1.getD h []) (d + 1) q), m.2)) :: came (gm q (nxt (.on (d + 1)) h m.2) ms hs).1 (gm q (nxt (.on (d + 1)) h m.2) ms hs).2.1 = _
        rw [en, a1, a2, i1]
        cases d with
        | zero =>
          have hb : b = true := by
            cases ms with
            | nil => have := game_len G; simp at this; rw [List.eq_nil_of_length_eq_zero this.symm] at hd; simp at hd
            | cons m1 ms1 =>
              cases hs with
              | nil => simp at lml
              | cons h1 hs1 =>
                have l2 : ms1.length = hs1.length := by simpa using lml
                have := (came_off q true ms1 hs1 l2).2
                have i3 : (gm q (.off true) ms1 hs1).2.2 = .off b := i2
                rw [this] at i3
                cases i3; rfl
          subst hb
          simp [List.replicate_succ]; omega
        | succ d =>
          cases b
          · simp [List.replicate_succ]
          · simp [List.replicate_succ]
      · have en : nxt (.on (d + 1)) h m.2 = .off false := if_neg hhk
        obtain ⟨i1, i2⟩ := came_off q false ms hs lml
        have a2 : arr (m.1.set h (pl (m.1.getD h []) (d + 1) q), m.2) = arr m := by
          unfold arr
          show ((m.1.set h (pl (m.1.getD h []) (d + 1) q)).getD m.2 []).headD 0 = _
          rw [getD_set_ne hhk]
        have a1 : arr (m.1.set h (pl (m.1.getD h []) d 1), m.2) = arr m := by
          unfold arr
          show ((m.1.set h (pl (m.1.getD h []) d 1)).getD m.2 []).headD 0 = _
          rw [getD_set_ne hhk]
        refine ⟨false, by show (gm q (nxt (.on (d + 1)) h m.2) ms hs).2.2 = _; rw [en]; exact i2, ?_⟩
        show (arr (m.1.set h (pl (m.1.getD h []) d 1), m.2) - arr (m.1.set h (pl (m.1.getD h []) (d + 1) q), m.2)) :: came (gm q (nxt (.on (d + 1)) h m.2) ms hs).1 (gm q (nxt (.on (d + 1)) h m.2) ms hs).2.1 = _
        rw [en, a1, a2, i1]
        simp [List.replicate_succ]
theorem sum_came : ∀ {l l' : List Move}, l.length = l'.length → (came l l').sum = (l.map arr).sum - (l'.map arr).sum
  | [], [], _ => rfl
  | [], _ :: _, hl => by simp at hl
  | _ :: _, [], hl => by simp at hl
  | m :: l, m' :: l', h => by
    have ih := sum_came (l := l) (l' := l') (by simpa using h)
    show (arr m - arr m') + (came l l').sum = (arr m + (l.map arr).sum) - (arr m' + (l'.map arr).sum)
    rw [ih]; omega
theorem sum_zero (n : Nat) : (List.replicate n (0 : Int)).sum = 0 := by
  induction n with
  | zero => rfl
  | succ n ih => rw [List.replicate_succ, List.sum_cons, ih]; rfl
theorem sum_setI : ∀ {l : List Int} {j : Nat} {y : Int}, j < l.length → (l.set j y).sum = l.sum - l.getD j 0 + y
  | [], _, _, h => by simp at h
  | a :: r, 0, y, _ => by
    show y + r.sum = a + r.sum - a + y
    omega
  | a :: r, j + 1, y, h => by
    have ih := sum_setI (l := r) (j := j) (y := y) (by simpa using h)
    show a + (r.set j y).sum = a + r.sum - r.getD j 0 + y
    rw [ih]; omega
theorem rep_getD (n j : Nat) : (List.replicate n (0 : Int)).getD j 0 = 0 := by
  rw [List.getD_eq_getElem?_getD, List.getElem?_replicate]
  split <;> rfl
theorem due_sum {n far : Nat} (b : Bool) (h0 : 1 ≤ far) (h1 : far < n) : (due n far b).sum = 0 := by
  unfold due
  cases b
  · exact sum_zero n
  · rw [if_pos rfl, sum_setI (by simpa using h1), sum_setI (by simp; omega), sum_zero, rep_getD]
    have : ((List.replicate n (0 : Int)).set (far - 1) 1).getD far 0 = 0 := by
      rw [List.getD_eq_getElem?_getD, List.getElem?_set_ne (by omega), ← List.getD_eq_getElem?_getD, rep_getD]
    rw [this]; rfl
/-- what the law asks of the arrivals -/
theorem came_due (q : Int) {s c : List Int} {ms : List Move} {hs : List Nat} {far : Nat} (G : Game s c ms) (HH : Homes s hs) (h0 : 1 ≤ far) (h1 : far < s.length) (hl : s.length ≤ c.length) :
    came (gm q (.on far) ms hs).1 (gm q (.on far) ms hs).2.1 = due s.length far (gm q (.on far) ms hs).2.2.isIn ∧ ((gm q (.on far) ms hs).1.map arr).sum = ((gm q (.on far) ms hs).2.1.map arr).sum := by
  obtain ⟨b, e1, e2⟩ := came_on q s c ms hs far G HH h1 hl
  have ec : came (gm q (.on far) ms hs).1 (gm q (.on far) ms hs).2.1 = due s.length far (gm q (.on far) ms hs).2.2.isIn := by
    have hf : ¬ far = 0 := by omega
    rw [e2, e1, game_len G]
    simp only [hf, if_false]
    rfl
  refine ⟨ec, ?_⟩
  obtain ⟨l1, l2⟩ := gm_len q (.on far) ms hs (by rw [game_len G, homes_len HH])
  have := sum_came (l := (gm q (.on far) ms hs).1) (l' := (gm q (.on far) ms hs).2.1) (by omega)
  rw [ec, due_sum _ h0 h1] at this
  omega
end Lw
namespace Lw
open PySem L2 PySem.Spec PyProof.Rows
/-! ### a tuple, an iterator, an enumerate, told apart -/
theorem ne_tup_it {h : Heap} {a it : Addr} {its : Array Value} {i : Nat} (p : IsTup h a its) (q : h.IsTupleIter it a i) : a ≠ it := by
  intro e
  obtain ⟨o, e1, c1, _⟩ := p
  obtain ⟨o2, e2, c2, _⟩ := q
  rw [← e, e1] at e2
  cases e2
  rw [c1] at c2
  exact absurd c2 (by decide)
theorem ne_enum_tup {h : Heap} {a e it : Addr} {its : Array Value} {c : Int} {old : Value} (p : IsTup h a its) (q : IsEnum h e it c old) : e ≠ a := by
  intro z
  obtain ⟨o, e1, c1, _⟩ := p
  have q' : h.get? e = some _ := q
  rw [z, e1] at q'
  cases q'
  have c2 : Value.type "enumerate" = Value.type "tuple" := c1
  injection c2 with c3
  exact absurd c3 (by decide)
/-! ### enumerate of a tuple -/
def IteT (K : PySem.W.Frag) (a : Addr) : It :=
  ⟨fun i H => ∃ (xs : List V) (x : V), SqT K H a xs ∧ xs[i]? = some x, fun i H v H' => ∃ T x, v = .ref T ∧ H T = none ∧ H' = upd H T (.tup [.int (i : Nat), x]) ∧ ∀ xs, SqT K H a xs → xs[i]? = some x, fun i H => ∃ xs : List V, SqT K H a xs ∧ i = xs.length⟩
theorem in2 {α : Type} {p : α → Prop} {x y : α} (hx : p x) (hy : p y) : ∀ z ∈ [x, y], p z := fun z hz => by
  cases hz with
  | head => exact hx
  | tail _ hz' =>
    rw [List.mem_singleton.mp hz']
    exact hy
theorem some_inj_at {its : List Value} {i : Nat} {y u : Value} (h1 : its.toArray[i]? = some y) (h2 : its[i]? = some u) : y = u := by
  rw [List.getElem?_toArray, h2] at h1
  injection h1 with h1
  exact h1.symm
theorem turn_enumT {P : Program} {w : World} {K : PySem.W.Frag} {elts : List Expr} {kk : Nat} {tpos : Pos} (a e it : Addr) :
    Turn P w K (.Tuple elts kk tpos) (IteT K a) [e, it] e (fun i h => (∃ old, IsEnum h e it ((i : Nat) : Int) old) ∧ h.IsTupleIter it a i ∧ e ≠ it) where
  mem := by simp
  obj := fun _ _ ⟨⟨_, hE⟩, ⟨ob, ho, _, hdat⟩, _⟩ => in2 ⟨_, hE, fun _ z => by cases z⟩ ⟨ob, ho, fun _ z => by rw [hdat] at z; cases z⟩
  keep := fun _ _ _ ⟨⟨_, hE⟩, hI, ne⟩ kp => ⟨⟨_, kp e (List.mem_cons_self ..) _ hE⟩, hI.at fun ob z => kp it (by simp) ob z, ne⟩
  item := by
    intro X xP xw xK calm i pins s σ H E inv foot ⟨⟨prev, hE⟩, hI, ne⟩ ⟨xs, x, hq, hx⟩
    subst xP xw xK
    obtain ⟨vals, paired, isT, hlay⟩ := inv.tuple hq
    obtain ⟨u, hu, relU⟩ := paired.get hx
    have eLt := Heap.lt_size hE
    have iLt := Heap.lt_size hI.choose_spec.1
    have aI := ne_tup_it isT hI
    have aE := ne_enum_tup isT hE
    have inside : i < vals.toArray.size := by simpa using (List.getElem?_eq_some_iff.mp hu).1
    refine wpAny_pyNext_enum_itemC (Draws.tuple (A := X.A.in1) (inv.ok.hd calm) it a aI vals.toArray) hE ⟨hI, isT⟩ inside ne (by simp [ne, aE]) fun y hp tk hy owned now madeT _ keeps => ?_
    cases some_inj_at hy hu
    refine ⟨_, rfl, wpAny_letOwnedTupleGo_enum (s := { s with heap := hp, toks := tk + 1 }) owned fun hp2 nextE side => ?_⟩
    have made : hp2.get? s.heap.objs.size = some { cls := .type "tuple", data := .seq #[.int i tk, u] } := (side.2 _ (Nat.ne_of_gt eLt)).trans madeT
    have pair : ObjOk X.prog X.w (upd H s.heap.objs.size (.tup [V.int (i : Nat), x])) hp2 s.heap.objs.size (HO.tup [V.int (i : Nat), x]) := by
      refine ⟨show 2 ≤ sizeLine by decide, [.int i tk, u], .cons ⟨_, rfl⟩ (.cons relU .nil), ⟨_, made, rfl, _, rfl⟩⟩
    have inv2 : Inv X pins σ (upd H s.heap.objs.size (.tup [V.int (i : Nat), x])) { s with heap := hp2, toks := tk + 1 } :=
      inv.turnedNew (ch := [e, it]) (fun b ob away z => (side.2 b fun q => away (by simp [q])).trans (keeps b ob (fun q => away (by simp [q])) (fun q => away (by simp [q])) z)) foot (Nat.le_refl _) pair
    refine ⟨.ref s.heap.objs.size, _, inv2, rfl, ⟨_, x, rfl, inv.hok.fresh (Nat.le_refl _), rfl, fun ys hy => by rw [inv.tuple_inj hy hq]; exact hx⟩, ⟨⟨u, nextE⟩, now.1.at fun ob z => (side.2 it (Ne.symm ne)).trans z, ne⟩, fun b hb => ?_⟩
    have old := in2 (p := fun c => c < s.heap.objs.size) eLt iLt b hb
    rw [upd_ne (Nat.ne_of_lt old)]
    exact (foot b hb).1
  done := by
    intro X xP xw xK calm i pins s σ H E inv foot ⟨⟨prev, hE⟩, hI, ne⟩ ⟨xs, hq, hx⟩
    subst xP xw xK
    obtain ⟨vals, paired, isT, hlay⟩ := inv.tuple hq
    obtain ⟨k0, k1, k2, k3, k4, k5⟩ := foot it (by simp)
    have len := paired.length
    have full : vals.toArray.size = i := by simp; omega
    refine wpAny_pyNext_enum_endD (Draws.tuple (A := X.A.in1) (inv.ok.hd calm) it a (ne_tup_it isT hI) vals.toArray) hE ⟨by rw [full]; exact hI, isT⟩ fun hp keeps => ⟨rfl, inv.turned (t' := s.toks) (fun b ob away z => keeps b ob away z) k0 k1 k3 k4 k5⟩
  self := fun _ _ _ _ _ ⟨⟨_, hE⟩, _⟩ got => wpAny_pyIter_enum hE got
def iEnumT (K : PySem.W.Frag) (ta : TA) : TI := fun σ H R => ta σ H fun vs H1 => ∃ a xs, vs = [.ref a] ∧ SqT K H1 a xs ∧ R (IteT K a) H1

open Sem (wp) in
open AutoSeq1 (wpAny_loadPart') in
theorem enum_new_tup (l : Addr) (items : Array Value) :
    Meets (Builtin.«enumerate.__new__» ⟨[.type "enumerate", .ref l], []⟩) (fun _ R s => s.heap.IsTuple l items ∧
      R (.ok (.ret (.ref (s.heap.push { cls := .type "tuple_iterator", data := .fields #[.ref l, .int 0 0] }).objs.size)))
        { s with heap := (s.heap.push { cls := .type "tuple_iterator", data := .fields #[.ref l, .int 0 0] }).push { cls := .type "enumerate", data := .fields #[.none, .bool false, .ref s.heap.objs.size, rawInt 0, .none, .none] } }) :=
  .of_wp fun prog w A R ⟨hp, g, d, tk, os⟩ ⟨ht, hr⟩ => by
    have hsub := sub_enumerate
    have q1 : ∀ {A' : Around} {E : Value → Shared → Prop} {Q : Value → Shared → Prop}, Q (.ref hp.objs.size) ⟨hp.push { cls := .type "tuple_iterator", data := .fields #[.ref l, .int 0 0] }, g, d, tk, os⟩ → wpAny (model prog w) A' (pyIter (.ref l)) Q E ⟨hp, g, d, tk, os⟩ :=
      fun q => (begins_tuple l items).iter prog w _ _ ⟨hp, g, d, tk, os⟩ _ ht q
    wp_walk using q1
    refine wpAny_stack_any fun _ => wpAny_pure ?_
    split
    · rename_i c _ _ _ _ _
      cases (c == Value.type "enumerate") <;> (wp_walk using q1; exact ⟨_, rfl, hr⟩)
    · wp_walk using q1
      exact ⟨_, rfl, hr⟩
theorem enum_call_tup {pr : Program} {w : World} {A : Around} {E : Value → Shared → Prop} {s : Shared} {l : Addr} {items : Array Value} {Q : Value → Shared → Prop} (ht : s.heap.IsTuple l items)
    (h : ∀ h', IsEnum h' (s.heap.objs.size + 1) s.heap.objs.size 0 .none → h'.IsTupleIter s.heap.objs.size l 0 → (∀ b o, s.heap.get? b = some o → h'.get? b = some o) → Q (.ref (s.heap.objs.size + 1)) { s with heap := h' }) :
    wpAny (model pr w) A (call (Value.type "enumerate") [Value.ref l]) Q E s := by
  refine callType_new F.called_enumerate (by decide) (F.typeCall_enumerate_1 _) (F.newCall_enumerate_1 _) (fun obj => F.args_object_init_2 obj _) F.entry_enumerate_new (enum_new_tup l items) ⟨ht, ?_⟩
  have hz : (s.heap.push { cls := .type "tuple_iterator", data := .fields #[.ref l, .int 0 0] }).objs.size = s.heap.objs.size + 1 := Heap.size_push ..
  show _ ∧ _
  rw [hz]
  have he : IsEnum ((s.heap.push { cls := .type "tuple_iterator", data := .fields #[.ref l, .int 0 0] }).push { cls := .type "enumerate", data := .fields #[.none, .bool false, .ref s.heap.objs.size, rawInt 0, .none, .none] }) (s.heap.objs.size + 1) s.heap.objs.size 0 .none := by
    have q := Heap.get?_push_size (s.heap.push { cls := .type "tuple_iterator", data := .fields #[.ref l, .int 0 0] }) (o := { cls := .type "enumerate", data := .fields #[.none, .bool false, .ref s.heap.objs.size, rawInt 0, .none, .none] }) rfl
    rw [hz] at q
    exact q
  exact ⟨⟨_, he, rfl⟩, h _ he ⟨_, Heap.get?_push_of_some _ (Heap.get?_push_size _ rfl), rfl, rfl⟩ fun b o x => Heap.get?_push_of_some _ (Heap.get?_push_of_some _ x)⟩
theorem pi_enumT {X : Cx} {e : Expr} {ta : TA} {p pos tpos : Pos} {elts : List Expr} {kk : Nat} (hg : Gl X "enumerate") (hm : X.mg "enumerate" = none) (ha : PA X [e] ta) (hs : starEach [e] X.env = [(false, eval e X.env)] := by rfl) :
    PI X (.Tuple elts kk tpos) (.Call (.Name "enumerate" p) [e] [] pos) (iEnumT X.K ta) := by
  refine ⟨fun pins s σ H R inv h => Call_ (ld_blt inv hg hm boot_enumerate (PyProof.Rows.callWith_type1 (thn (ha.run pos pins s σ H _ inv h) fun us s1 ⟨vs, H1, inv1, r1, a, xs, ev, hq, q⟩ => ?_) hs rfl))⟩
  subst ev
  obtain ⟨u, rfl, ru⟩ := Vals.one r1
  cases ru
  obtain ⟨vals, paired, isT, _⟩ := inv1.tuple hq
  refine enum_call_tup (items := vals.toArray) isT fun hp hE hI keeps => wpAny_pyIter_enum hE ?_
  have fresh : ∀ b ∈ [s1.heap.objs.size + 1, s1.heap.objs.size], s1.heap.objs.size ≤ b := in2 (Nat.le_succ _) (Nat.le_refl _)
  exact ⟨s1.heap.objs.size + 1, [s1.heap.objs.size + 1, s1.heap.objs.size], _, _, H1, rfl, inv1.kept (t' := s1.toks) keeps, turn_enumT a (s1.heap.objs.size + 1) s1.heap.objs.size, ⟨⟨.none, hE⟩, hI, Nat.succ_ne_self _⟩, fun b hb => inv1.fpOk (fresh b hb) (inv1.hok.fresh (fresh b hb)), q⟩
theorem walk_enumT {K : PySem.W.Frag} {a : Addr} {xs : List V} : Walk (IteT K a) xs.length (fun H => SqT K H a xs) (YPair (fun i => some (.int (i : Nat))) (fun i => xs[i]?)) where
  goes := fun i H hi hG => ⟨xs, xs[i], hG, List.getElem?_eq_getElem hi⟩
  stops := fun H hG => ⟨xs, hG, rfl⟩
  yields := fun i H x H' _ hG ⟨T, y, e1, nT, e2, h⟩ => ⟨T, _, y, e1, nT, e2, rfl, h xs hG⟩
end Lw
namespace Lw
open PySem L2 PySem.Spec PyProof.Rows
/-! ### zip of a tuple and a list -/
def ItzM (K : PySem.W.Frag) (a b : Addr) : It :=
  ⟨fun i H => ∃ (xs ys : List V) (x y : V), SqT K H a xs ∧ SqL K H b ys ∧ xs[i]? = some x ∧ ys[i]? = some y,
    fun i H v H' => ∃ T x y, v = .ref T ∧ H T = none ∧ H' = upd H T (.tup [x, y]) ∧ (∀ xs, SqT K H a xs → xs[i]? = some x) ∧ ∀ ys, SqL K H b ys → ys[i]? = some y,
    fun i H => ∃ xs ys : List V, SqT K H a xs ∧ SqL K H b ys ∧ i ≤ xs.length ∧ i ≤ ys.length ∧ (i = xs.length ∨ i = ys.length)⟩
abbrev ZipM (h : Heap) (z TI TO i1 i2 a b : Addr) (i : Nat) : Prop := IsZip h z TI TO .none ∧ IsTupOf2 h TI (.ref i1) (.ref i2) ∧ (∃ x y, IsTupOf2 h TO x y) ∧ h.IsTupleIter i1 a i ∧ h.IsListIter i2 b i
theorem in5 {α : Type} {p : α → Prop} {c1 c2 c3 c4 c5 : α} (h1 : p c1) (h2 : p c2) (h3 : p c3) (h4 : p c4) (h5 : p c5) : ∀ c ∈ [c1, c2, c3, c4, c5], p c := fun c hc => by
  cases hc with
  | head => exact h1
  | tail _ hc => cases hc with
    | head => exact h2
    | tail _ hc => cases hc with
      | head => exact h3
      | tail _ hc => exact in2 h4 h5 c hc
theorem zipM_has {h : Heap} {z TI TO i1 i2 a b : Addr} {i : Nat} : ZipM h z TI TO i1 i2 a b i → ∀ c ∈ [z, TI, TO, i1, i2], ∃ ob, h.get? c = some ob ∧ ∀ v, ob.data ≠ .cell v
  | ⟨hz, hI, ⟨_, _, hO⟩, ⟨ob1, at1, _, dat1⟩, ⟨ob2, at2, _, dat2⟩⟩ =>
    in5 ⟨_, hz, fun _ q => by cases q⟩ ⟨_, hI, fun _ q => by cases q⟩ ⟨_, hO, fun _ q => by cases q⟩ ⟨ob1, at1, fun _ q => by rw [dat1] at q; cases q⟩ ⟨ob2, at2, fun _ q => by rw [dat2] at q; cases q⟩
theorem turn_zipM {P : Program} {w : World} {K : PySem.W.Frag} {elts : List Expr} {kk : Nat} {tpos : Pos} {a b z TI TO i1 i2 : Addr} (S : ZipSep2 z TI TO i1 i2 [i1, a] [i2, b]) (away : i1 ≠ z ∧ i2 ≠ z) (na : a ≠ i1) (nb : b ≠ i2) :
    Turn P w K (.Tuple elts kk tpos) (ItzM K a b) [z, TI, TO, i1, i2] z (fun i h => ZipM h z TI TO i1 i2 a b i) where
  mem := List.mem_cons_self ..
  obj := fun _ _ st => zipM_has st
  keep := fun _ _ _ ⟨hz, hI, ⟨x, y, hO⟩, w1, w2⟩ kp => ⟨kp z (by simp) _ hz, kp TI (by simp) _ hI, ⟨x, y, kp TO (by simp) _ hO⟩, w1.at fun ob q => kp i1 (by simp) ob q, w2.at fun ob q => kp i2 (by simp) ob q⟩
  item := by
    intro X xP xw xK calm i pins s σ H E inv foot st ⟨xs, ys, x, y, hxs, hys, hx, hy⟩
    subst xP xw xK
    have below : ∀ c ∈ [z, TI, TO, i1, i2], c < s.heap.objs.size := fun c hc => Heap.lt_size (zipM_has st c hc).choose_spec.1
    obtain ⟨hz, hI, ⟨o1, o2, hO⟩, w1, w2⟩ := st
    obtain ⟨va, pa, isA, _⟩ := inv.tuple hxs
    obtain ⟨vb, pb, isB, _⟩ := inv.list hys
    obtain ⟨u, hu, relU⟩ := pa.get hx
    obtain ⟨q, hq, relQ⟩ := pb.get hy
    have inA : i < va.toArray.size := by simpa using (List.getElem?_eq_some_iff.mp hu).1
    have inB : i < vb.toArray.size := by simpa using (List.getElem?_eq_some_iff.mp hq).1
    refine wpAny_pyNext_zipD2_item S (Draws.tuple (A := X.A.in1) (inv.ok.hd calm) i1 a na va.toArray) (Draws.list (A := X.A.in1) (inv.ok.hd calm) i2 b nb vb.toArray) hz hI hO ⟨w1, isA⟩ ⟨w2, isB.isList⟩ inA inB fun v1 v2 hp tk got1 got2 zip1 out1 now1 now2 madeT _ keeps => ?_
    cases some_inj_at got1 hu
    cases some_inj_at got2 hq
    refine ⟨_, rfl, wpAny_letOwnedTupleGo_zip (s := { s with heap := hp, toks := tk }) zip1 fun hp2 zip2 side => ?_⟩
    have made : hp2.get? s.heap.objs.size = some { cls := .type "tuple", data := .seq #[u, q] } := (side.2 _ (Nat.ne_of_gt (below z (by simp)))).trans madeT
    have pair : ObjOk X.prog X.w (upd H s.heap.objs.size (.tup [x, y])) hp2 s.heap.objs.size (HO.tup [x, y]) := by
      refine ⟨show 2 ≤ sizeLine by decide, [u, q], .cons relU (.cons relQ .nil), ⟨_, made, rfl, _, rfl⟩⟩
    have inv2 : Inv X pins σ (upd H s.heap.objs.size (.tup [x, y])) { s with heap := hp2, toks := tk } := by
      refine inv.turnedNew (ch := [z, TI, TO, i1, i2]) (fun c ob out eq => ?_) foot (Nat.le_refl _) pair
      obtain ⟨nz, _, nO, n1, n2⟩ : c ≠ z ∧ c ≠ TI ∧ c ≠ TO ∧ c ≠ i1 ∧ c ≠ i2 := by simpa using out
      exact (side.2 c nz).trans (keeps c ob nz nO n1 n2 eq)
    refine ⟨.ref s.heap.objs.size, _, inv2, rfl, ⟨_, x, y, rfl, inv.hok.fresh (Nat.le_refl _), rfl, fun l hl => by rw [inv.tuple_inj hl hxs]; exact hx, fun l hl => by rw [inv.list_inj hl hys]; exact hy⟩, ⟨zip2, ?_, ⟨u, q, ?_⟩, ?_, ?_⟩, fun c hc => ?_⟩
    · exact (side.2 _ S.TIz).trans (keeps _ _ S.TIz S.TITO S.TIi1 S.TIi2 hI)
    · exact (side.2 _ S.TOz).trans out1
    · exact now1.1.at fun ob eq => (side.2 _ away.1).trans eq
    · exact now2.1.at fun ob eq => (side.2 _ away.2).trans eq
    · rw [upd_ne (Nat.ne_of_lt (below c hc))]
      exact (foot c hc).1
  done := by
    intro X xP xw xK calm i pins s σ H E inv foot ⟨hz, hI, ⟨o1, o2, hO⟩, w1, w2⟩ ⟨xs, ys, hxs, hys, le1, le2, stop⟩
    subst xP xw xK
    obtain ⟨va, pa, isA, _⟩ := inv.tuple hxs
    obtain ⟨vb, pb, isB, _⟩ := inv.list hys
    have sa : va.toArray.size = xs.length := by simp [pa.length]
    have sb : vb.toArray.size = ys.length := by simp [pb.length]
    refine wpAny_pyNext_zipD2_end (i := i) S (Draws.tuple (A := X.A.in1) (inv.ok.hd calm) i1 a na va.toArray) (Draws.list (A := X.A.in1) (inv.ok.hd calm) i2 b nb vb.toArray) hz hI hO ⟨w1, isA⟩ ⟨w2, isB.isList⟩ (by omega) (by omega) (by omega) fun hp tk keeps => ⟨rfl, inv.turnedL (ch := [z, TI, TO, i1, i2]) (fun c ob out eq => ?_) foot⟩
    obtain ⟨nz, _, nO, n1, n2⟩ : c ≠ z ∧ c ≠ TI ∧ c ≠ TO ∧ c ≠ i1 ∧ c ≠ i2 := by simpa using out
    exact keeps c ob nz nO n1 n2 eq
  self := fun _ _ _ _ _ st got => wpAny_pyIter_zip st.1 got
def iZipM (K : PySem.W.Frag) (ta : TA) : TI := fun σ H R => ta σ H fun vs H1 => ∃ a b xs ys, vs = [.ref a, .ref b] ∧ SqT K H1 a xs ∧ SqL K H1 b ys ∧ R (ItzM K a b) H1
theorem pi_zipM {X : Cx} {e e2 : Expr} {ta : TA} {p pos tpos : Pos} {elts : List Expr} {kk : Nat} (hg : Gl X "zip") (hm : X.mg "zip" = none) (ha : PA X [e, e2] ta)
    (hs : starEach [e, e2] X.env = ((false, eval e X.env) :: starEach [e2] X.env) := by rfl)
    (hpl : (backTo pos (starEach [e2] X.env)).any (fun x => x.1) = false := by rfl) : PI X (.Tuple elts kk tpos) (.Call (.Name "zip" p) [e, e2] [] pos) (iZipM X.K ta) := by
  refine ⟨fun pins s σ H R inv h => Call_ (ld_blt inv hg hm PyProof.Rows.boot_zip (PyProof.Rows.callWith_type1 (thn (ha.run pos pins s σ H _ inv h) fun us s1 ⟨vs, H1, inv1, r1, a, b, xs, ys, ev, hxs, hys, q⟩ => ?_) hs hpl))⟩
  subst ev
  obtain ⟨u, u', rfl, ru, ru'⟩ := Vals.two r1
  cases ru
  cases ru'
  obtain ⟨va, pa, isA, _⟩ := inv1.tuple hxs
  obtain ⟨vb, pb, isB, _⟩ := inv1.list hys
  refine zip_begins2 (begins_tuple a va.toArray) (begins_list b vb.toArray) isA isB.isList fun hp hz hI hO g1 g2 _ keeps => wpAny_pyIter_zip hz ?_
  have S := zip_sep2 (N := s1.heap.objs.size) (fp1 := [a]) (fp2 := [b]) (fun c hc => by rw [List.mem_singleton.mp hc]; exact isA.lt) (fun c hc => by rw [List.mem_singleton.mp hc]; exact isB.lt)
  have fresh : ∀ c ∈ [s1.heap.objs.size + 4, s1.heap.objs.size + 2, s1.heap.objs.size + 3, s1.heap.objs.size, s1.heap.objs.size + 1], s1.heap.objs.size ≤ c := in5 (Nat.le_add_right ..) (Nat.le_add_right ..) (Nat.le_add_right ..) (Nat.le_refl _) (Nat.le_add_right ..)
  exact ⟨s1.heap.objs.size + 4, [s1.heap.objs.size + 4, s1.heap.objs.size + 2, s1.heap.objs.size + 3, s1.heap.objs.size, s1.heap.objs.size + 1], _, _, H1, rfl, inv1.kept (t' := s1.toks) keeps,
    turn_zipM S ⟨S.zi1.symm, S.zi2.symm⟩ (Nat.ne_of_lt isA.lt) (Nat.ne_of_lt (Nat.lt_succ_of_lt isB.lt)), ⟨hz, hI, ⟨_, _, hO⟩, ⟨_, g1, rfl, rfl⟩, ⟨_, g2, rfl, rfl⟩⟩, fun c hc => inv1.fpOk (fresh c hc) (inv1.hok.fresh (fresh c hc)), q⟩
theorem walk_zipM {K : PySem.W.Frag} {a b : Addr} {xs ys : List V} {n : Nat} (hn : n = min xs.length ys.length) : Walk (ItzM K a b) n (fun H => SqT K H a xs ∧ SqL K H b ys) (YPair (fun i => xs[i]?) (fun i => ys[i]?)) where
  goes := fun i H hi hG => ⟨xs, ys, xs[i]'(by omega), ys[i]'(by omega), hG.1, hG.2, List.getElem?_eq_getElem (by omega), List.getElem?_eq_getElem (by omega)⟩
  stops := fun H hG => ⟨xs, ys, hG.1, hG.2, by omega, by omega, by omega⟩
  yields := fun i H x H' _ hG ⟨T, u, v, e1, nT, e2, f1, f2⟩ => ⟨T, u, v, e1, nT, e2, f1 xs hG.1, f2 ys hG.2⟩
/-! ### list + list, any that are read -/
def rCatL (K : PySem.W.Frag) : R2 := fun x y H Q => ∃ l b xs zs, x = .ref l ∧ y = .ref b ∧ SqL K H l xs ∧ SqL K H b zs ∧ xs.length + zs.length ≤ sizeLine ∧ ∀ p, H p = none → Q (.ref p) (upd H p (.lst (xs ++ zs)))
theorem op_catL {X : Cx} : OpR X (binaryOp .Add) (rCatL X.K) := by
  rintro pins s σ H x y v u Q inv rx ry ⟨l, b, xs, zs, rfl, rfl, h1, h2, hz, q⟩
  cases rx
  cases ry
  obtain ⟨its, r1, ⟨o1, n1, e1, c1, d1, t1⟩, _⟩ := inv.list h1
  obtain ⟨its2, r2, ⟨o2, n2, e2, c2, d2, t2⟩, _⟩ := inv.list h2
  obtain ⟨oc, od, dt, sl⟩ := o1
  obtain ⟨oc2, od2, dt2, sl2⟩ := o2
  have l1 := r1.length
  have l2 := r2.length
  have a1 : oc = .type "list" := c1
  have a2 : oc2 = .type "list" := c2
  have b1 : dt = _ := t1
  have b2 : dt2 = _ := t2
  subst a1 a2 b1 b2
  refine concat_meets ⟨_, e1, rfl⟩ ⟨_, e2, rfl⟩ noFill_list_add seq_list_add PySem.F.slot_list_add PySem.F.entry_list_add (PySem.F.args_list_add_2 _ _) (list_addW l b its.toArray its2.toArray n1 n2 od od2 sl sl2 (by rw [List.size_toArray, List.size_toArray]; omega)) ⟨e1, e2, ?_⟩
  rw [List.append_toArray]
  exact ⟨.ref _, _, inv.lnew (t' := s.toks) (r1.append r2) (by rw [List.length_append]; omega), rfl, q _ inv.fresh⟩
end Lw
namespace Lw
open PySem L2 PySem.Spec PyProof.Rows
/-! ### heaps: G is what stands for ever (data), H what stands now; M: the source of draws, that may turn -/
structure Ok (M : Option Addr) (G H : Hp) : Prop where
  ex : Same G H
  src : ∀ a, M = some a → G a = none ∧ ∃ x c k : Int, H a = some (.lst [.int x, .int c, .int k])
structure Ext (M : Option Addr) (G H G' H' : Hp) : Prop where
  g : Same G G'
  ok : Ok M G' H'
  keep : ∀ a o, M ≠ some a → H a = some o → H' a = some o
  fresh : ∀ a, H a ≠ none → G a = none → G' a = none
section
variable {M : Option Addr} {G H G1 H1 G2 H2 G' H' G0 H0 : Hp} {p l : Addr} {o : HO}
theorem Ok.pure (s : Same G H) : Ok none G H := ⟨s, fun _ h => nomatch h⟩
theorem Ok.low (h : Ok M G H) : Ok none G H := .pure h.ex
theorem Ext.refl (h : Ok M G H) : Ext M G H G H := ⟨.refl _, h, fun _ _ _ e => e, fun _ _ e => e⟩
theorem Ext.some (e : Ext M G H G1 H1) {a : Addr} (h : H a ≠ none) : H1 a ≠ none := fun z => by
  by_cases q : M = Option.some a
  · obtain ⟨_, x, c, k, y⟩ := e.ok.src a q
    rw [z] at y
    cases y
  · cases r : H a with
    | none => exact h r
    | some u =>
      have := e.keep a u q r
      rw [z] at this
      cases this
theorem Ext.trans (a : Ext M G H G1 H1) (b : Ext M G1 H1 G2 H2) : Ext M G H G2 H2 :=
  ⟨a.g.trans b.g, b.ok, fun c u n e => b.keep c u n (a.keep c u n e), fun c n e => b.fresh c (a.some n) (a.fresh c n e)⟩
theorem same_new (h : H p = none) : Same H (upd H p o) := fun b u e => by
  rw [upd_ne (ne_of_none e h)]
  exact e
theorem same_upd2 (s : Same G H) (h : G p = none) : Same (upd G p o) (upd H p o) := fun b u e => by
  by_cases z : b = p
  · subst z
    rw [upd_same] at e ⊢
    exact e
  · rw [upd_ne z] at e ⊢
    exact s b u e
theorem Ext.new (h : Ok M G H) (np : H p = none) : Ext M G H (upd G p o) (upd H p o) := by
  have gp := h.ex.free np
  refine ⟨same_new gp, ⟨same_upd2 h.ex gp, fun a e => ?_⟩, fun a u _ e => same_new np a u e, fun a n e => ?_⟩
  · obtain ⟨g, x, c, k, y⟩ := h.src a e
    have z : a ≠ p := ne_of_none y np
    rw [upd_ne z, upd_ne z]
    exact ⟨g, x, c, k, y⟩
  · have z : a ≠ p := fun z => n (z ▸ np)
    rw [upd_ne z]
    exact e
theorem Ext.same (h : Ok M G H) (s : Same H H') : Ext M G H G H' :=
  ⟨.refl _, ⟨h.ex.trans s, fun a e => let ⟨g, x, c, k, y⟩ := h.src a e; ⟨g, x, c, k, s _ _ y⟩⟩, fun a u _ e => s a u e, fun _ _ e => e⟩
theorem Ext.tmp (h : Ok M G H) (np : H p = none) : Ext M G H G (upd H p o) := .same h (same_new np)
/-- a pure step within a run that draws -/
theorem Ext.up (h : Ok M G H) (e : Ext none G H G' H') : Ext M G H G' H' := by
  refine ⟨e.g, ⟨e.ok.ex, fun a z => ?_⟩, fun a u _ q => e.keep a u (fun z => nomatch z) q, e.fresh⟩
  obtain ⟨g, x, c, k, y⟩ := h.src a z
  exact ⟨e.fresh a (fun q => by rw [y] at q; cases q) g, x, c, k, e.keep a _ (fun z => nomatch z) y⟩
theorem Ext.ne_src (h0 : Ok M G0 H0) (hl : H0 l = none) : M ≠ Option.some l := fun z => by
  obtain ⟨_, x, c, k, y⟩ := h0.src l z
  rw [hl] at y
  cases y
/-- an object that was made on the way, not frozen yet, is written -/
theorem Ext.mut (e : Ext M G0 H0 G H) (h0 : H0 l = none) (hs : M ≠ Option.some l) (hG : G l = none) : Ext M G0 H0 G (upd H l o) := by
  refine ⟨e.g, ⟨fun b u q => ?_, fun a q => ?_⟩, fun a u n q => ?_, e.fresh⟩
  · rw [upd_ne (ne_of_none q hG)]
    exact e.ok.ex b u q
  · obtain ⟨g, x, c, k, y⟩ := e.ok.src a q
    have z : a ≠ l := fun z => hs (z ▸ q)
    rw [upd_ne z]
    exact ⟨g, x, c, k, y⟩
  · rw [upd_ne (ne_of_none q h0)]
    exact e.keep a u n q
/-- .. is frozen -/
theorem Ext.frz (e : Ext M G0 H0 G H) (h0 : H0 l = none) (hs : M ≠ Option.some l) (hG : G l = none) (hl : H l = Option.some o) : Ext M G0 H0 (upd G l o) H := by
  refine ⟨fun b u q => ?_, ⟨fun b u q => ?_, fun a q => ?_⟩, e.keep, fun a n q => ?_⟩
  · have := e.g b u q
    rw [upd_ne (ne_of_none this hG)]
    exact this
  · by_cases z : b = l
    · subst z
      rw [upd_same] at q
      cases q
      exact hl
    · rw [upd_ne z] at q
      exact e.ok.ex b u q
  · obtain ⟨g, y⟩ := e.ok.src a q
    have z : a ≠ l := fun z => hs (z ▸ q)
    rw [upd_ne z]
    exact ⟨g, y⟩
  · have z : a ≠ l := fun z => n (z ▸ h0)
    rw [upd_ne z]
    exact e.fresh a n q
theorem Ext.sameH (e : Ext none G H G' H') : Same H H' := fun a u q => e.keep a u (fun z => nomatch z) q
end
/-! ### data -/
variable {K : PySem.W.Frag} {G G' H H' : Hp} {v : V} {ns : List Int}
theorem _root_.L2.Same.tup {a : Addr} {xs : List V} (e : Same G G') (h : SqT K G a xs) : SqT K G' a xs := by
  exact h.imp (fun q => q.imp (e _ _) fun ⟨o, q⟩ => ⟨o, e _ _ q⟩) id
/-- a tuple | a list of ints -/
def TupI (K : PySem.W.Frag) (G : Hp) (v : V) (ns : List Int) : Prop := ∃ a, v = .ref a ∧ SqT K G a (ns.map V.int)
def LstI (K : PySem.W.Frag) (G : Hp) (v : V) (ns : List Int) : Prop := ∃ a, v = .ref a ∧ SqL K G a (ns.map V.int)
def SeqI (K : PySem.W.Frag) (G : Hp) (v : V) (ns : List Int) : Prop := LstI K G v ns ∨ TupI K G v ns
/-- a list | a tuple of groups -/
def Gs (K : PySem.W.Frag) (G : Hp) (v : V) (gs : List (List Int)) : Prop := ∃ a vs, v = .ref a ∧ SqL K G a vs ∧ Paired (TupI K G) vs gs
def GsT (K : PySem.W.Frag) (G : Hp) (v : V) (gs : List (List Int)) : Prop := ∃ a vs, v = .ref a ∧ SqT K G a vs ∧ Paired (TupI K G) vs gs
/-- a move; a move of a record; pairs of ints; arrivals and the counts behind a move -/
def Mv (K : PySem.W.Frag) (G : Hp) (v : V) (m : Move) : Prop := ∃ a s, v = .ref a ∧ SqT K G a [s, .int m.2] ∧ Gs K G s m.1
def MvT (K : PySem.W.Frag) (G : Hp) (v : V) (m : Move) : Prop := ∃ a s, v = .ref a ∧ SqT K G a [s, .int m.2] ∧ GsT K G s m.1
def P2 (K : PySem.W.Frag) (G : Hp) (v : V) (p : Int × Int) : Prop := ∃ a, v = .ref a ∧ SqT K G a [.int p.1, .int p.2]
def AC (K : PySem.W.Frag) (G : Hp) (v : V) (p : Int × List Int) : Prop := ∃ a c, v = .ref a ∧ SqT K G a [.int p.1, c] ∧ TupI K G c p.2
/-- a list of such | a tuple -/
def Ls {α : Type} (R : PySem.W.Frag → Hp → V → α → Prop) (K : PySem.W.Frag) (G : Hp) (v : V) (ds : List α) : Prop := ∃ a vs, v = .ref a ∧ SqL K G a vs ∧ Paired (R K G) vs ds
def Ts {α : Type} (R : PySem.W.Frag → Hp → V → α → Prop) (K : PySem.W.Frag) (G : Hp) (v : V) (ds : List α) : Prop := ∃ a vs, v = .ref a ∧ SqT K G a vs ∧ Paired (R K G) vs ds
/-- what stands once stands behind every growth -/
def Mono {α : Type} (R : PySem.W.Frag → Hp → V → α → Prop) : Prop := ∀ (K : PySem.W.Frag) (G G' : Hp) (v : V) (d : α), Same G G' → R K G v d → R K G' v d
theorem TupI.mono {K : PySem.W.Frag} {G G' : Hp} {v : V} {d : List Int} (e : Same G G') (h : TupI K G v d) : TupI K G' v d := (fun ⟨a, q, h⟩ => ⟨a, q, e.tup h⟩) h
theorem TupI.mo : Mono TupI := fun _ _ _ _ _ => TupI.mono
theorem LstI.mono {K : PySem.W.Frag} {G G' : Hp} {v : V} {d : List Int} (e : Same G G') (h : LstI K G v d) : LstI K G' v d := (fun ⟨a, q, h⟩ => ⟨a, q, e.seq h⟩) h
theorem LstI.mo : Mono LstI := fun _ _ _ _ _ => LstI.mono
theorem SeqI.mono {K : PySem.W.Frag} {G G' : Hp} {v : V} {d : List Int} (e : Same G G') (h : SeqI K G v d) : SeqI K G' v d := (fun h => h.elim (fun h => .inl (LstI.mono e h)) fun h => .inr (TupI.mono e h)) h
theorem SeqI.mo : Mono SeqI := fun _ _ _ _ _ => SeqI.mono
theorem Gs.mono {K : PySem.W.Frag} {G G' : Hp} {v : V} {d : List (List Int)} (e : Same G G') (h : Gs K G v d) : Gs K G' v d := (fun ⟨a, vs, q, h, p⟩ => ⟨a, vs, q, e.seq h, Paired.mapP p fun _ _ h => TupI.mono e h⟩) h
theorem Gs.mo : Mono Gs := fun _ _ _ _ _ => Gs.mono
theorem GsT.mono {K : PySem.W.Frag} {G G' : Hp} {v : V} {d : List (List Int)} (e : Same G G') (h : GsT K G v d) : GsT K G' v d := (fun ⟨a, vs, q, h, p⟩ => ⟨a, vs, q, e.tup h, Paired.mapP p fun _ _ h => TupI.mono e h⟩) h
theorem GsT.mo : Mono GsT := fun _ _ _ _ _ => GsT.mono
theorem Mv.mono {K : PySem.W.Frag} {G G' : Hp} {v : V} {d : Move} (e : Same G G') (h : Mv K G v d) : Mv K G' v d := (fun ⟨a, s, q, h, p⟩ => ⟨a, s, q, e.tup h, Gs.mono e p⟩) h
theorem Mv.mo : Mono Mv := fun _ _ _ _ _ => Mv.mono
theorem MvT.mono {K : PySem.W.Frag} {G G' : Hp} {v : V} {d : Move} (e : Same G G') (h : MvT K G v d) : MvT K G' v d := (fun ⟨a, s, q, h, p⟩ => ⟨a, s, q, e.tup h, GsT.mono e p⟩) h
theorem MvT.mo : Mono MvT := fun _ _ _ _ _ => MvT.mono
theorem P2.mono {K : PySem.W.Frag} {G G' : Hp} {v : V} {d : Int × Int} (e : Same G G') (h : P2 K G v d) : P2 K G' v d := (fun ⟨a, q, h⟩ => ⟨a, q, e.tup h⟩) h
theorem P2.mo : Mono P2 := fun _ _ _ _ _ => P2.mono
theorem AC.mono {K : PySem.W.Frag} {G G' : Hp} {v : V} {d : Int × List Int} (e : Same G G') (h : AC K G v d) : AC K G' v d := (fun ⟨a, c, q, h, p⟩ => ⟨a, c, q, e.tup h, TupI.mono e p⟩) h
theorem AC.mo : Mono AC := fun _ _ _ _ _ => AC.mono
theorem Ls.mono {α : Type} {R : PySem.W.Frag → Hp → V → α → Prop} (m : Mono R) {K : PySem.W.Frag} {G G' : Hp} {v : V} {ds : List α} (e : Same G G') (h : Ls R K G v ds) : Ls R K G' v ds := let ⟨a, vs, q, h, p⟩ := h; ⟨a, vs, q, e.seq h, Paired.mapP p fun _ _ h => m _ _ _ _ _ e h⟩
theorem Ts.mono {α : Type} {R : PySem.W.Frag → Hp → V → α → Prop} (m : Mono R) {K : PySem.W.Frag} {G G' : Hp} {v : V} {ds : List α} (e : Same G G') (h : Ts R K G v ds) : Ts R K G' v ds := let ⟨a, vs, q, h, p⟩ := h; ⟨a, vs, q, e.tup h, Paired.mapP p fun _ _ h => m _ _ _ _ _ e h⟩
section
variable {α β : Type} {R : α → β → Prop}
theorem pget {l : List α} {l' : List β} (h : Paired R l l') {i : Nat} (hi : i < l'.length) : ∃ x, l[i]? = some x ∧ R x (l'[i]) := by
  have hl := h.length
  obtain ⟨b, e, r⟩ := paired_get h (i := i) (a := l[i]'(by omega)) (List.getElem?_eq_getElem _)
  rw [List.getElem?_eq_getElem hi] at e
  exact ⟨_, List.getElem?_eq_getElem _, (Option.some.inj e) ▸ r⟩
theorem pat {l : List α} {l' : List β} (h : Paired R l l') {i : Nat} {x : α} (hx : l[i]? = some x) : ∃ hi : i < l'.length, R x l'[i] := by
  have hl := h.length
  have hi : i < l.length := (List.getElem?_eq_some_iff.mp hx).1
  obtain ⟨y, e, r⟩ := pget h (i := i) (by omega)
  rw [hx] at e
  cases e
  exact ⟨by omega, r⟩
theorem papp : ∀ {l : List α} {l' : List β} {x : α} {y : β}, Paired R l l' → R x y → Paired R (l ++ [x]) (l' ++ [y])
  | _, _, _, _, .nil, r => .cons r .nil
  | _, _, _, _, .cons a t, r => .cons a (papp t r)
theorem ptake : ∀ {l : List α} {l' : List β} (n : Nat), Paired R l l' → Paired R (l.take n) (l'.take n)
  | _, _, 0, _ => .nil
  | _, _, _ + 1, .nil => .nil
  | _, _, n + 1, .cons r t => .cons r (ptake n t)
theorem pset : ∀ {l : List α} {l' : List β} {x : α} {y : β} (n : Nat), Paired R l l' → R x y → Paired R (l.set n x) (l'.set n y)
  | _, _, _, _, _, .nil, _ => .nil
  | _, _, _, _, 0, .cons _ t, r => .cons r t
  | _, _, _, _, n + 1, .cons q t, r => .cons q (pset n t r)
end
theorem paired_ints : ∀ {vs : List V} {ns : List Int}, Paired (fun v n => v = V.int n) vs ns → vs = ns.map V.int
  | _, _, .nil => rfl
  | _, _, .cons e t => by rw [e, paired_ints t]; rfl
/-- ints as data -/
def II (_ : PySem.W.Frag) (_ : Hp) (v : V) (n : Int) : Prop := v = .int n
theorem Ls.ints (h : Ls II K G v ns) : LstI K G v ns := let ⟨a, vs, e, s, p⟩ := h; ⟨a, e, paired_ints p ▸ s⟩
/-! ### a comprehension without tests: A says what is made so far -/
theorem lcG {M : Option Addr} {J : It} {n : Nat} {Gp : Hp → Prop} {Y : Nat → Hp → V → Hp → Prop} (w : Walk J n Gp Y) {g : TG} {te : TE} {vs : List Nat} {σ : L2.St} {G1 H1 : Hp} {D : Addr} {Qd : Hp → Prop} (A : Nat → List V → Hp → Prop)
    (hD : H1 D = none) (h1 : Ok M G1 H1) (hn : n < 16000000) (hGp : ∀ G H, Ext M G1 H1 G H → Gp H) (h0 : A 0 [] G1)
    (hs : ∀ i x acc G H H', i < n → Ext M G1 H1 G H → A i acc G → Y i H x H' → ∀ Q' : VK, (∀ y G' H4, Ext M G H G' H4 → A (i + 1) (acc ++ [y]) G' → Q' y H4) →
      g x (wipe σ vs) H' fun σ2 H2 => wipe σ2 vs = wipe σ vs ∧ te σ2 H2 Q')
    (hd : ∀ acc G G' H, Same G G' → Ext M G1 H1 G' H → G' D = some (.lst acc) → A n acc G → Qd H) :
    ∃ W : Nat → Nat → Hp → Prop, (∃ m0, W 0 m0 (upd H1 D (.lst []))) ∧ (∀ i m H, W i m H →
      (J.stop i H ∧ Qd H) ∨ (J.go i H ∧ ∃ Nx : Hp → Prop, (∀ H', Nx H' → ∃ m', m' < m ∧ W (i + 1) m' H') ∧ ∀ x H', J.yld i H x H' → g x (wipe σ vs) H' fun σ2 H2 => wipe σ2 vs = wipe σ vs ∧ tYes σ2 H2 fun b H3 =>
        if b = true then te σ2 H3 (fun y H4 => ∃ made, H4 D = some (.lst made) ∧ made.length < sizeLine ∧ Nx (upd H4 D (.lst (made ++ [y])))) else Nx H3)) := by
  have nsrc := Ext.ne_src h1 hD
  refine lc_it w (fun i H => ∃ acc G, Ext M G1 H1 G H ∧ G D = none ∧ H D = some (.lst acc) ∧ acc.length = i ∧ A i acc G) ⟨[], G1, .tmp h1 hD, h1.ex.free hD, upd_same, rfl, h0⟩ (fun i H _ ⟨_, G, e, _⟩ => hGp G H e) ?_ ?_
  · rintro i x H H' hi ⟨acc, G, e, gD, eD, el, ha⟩ hy
    refine hs i x acc G H H' hi e ha hy _ fun y G' H4 e4 a4 => ?_
    have hD4 : H4 D = some (.lst acc) := e4.keep D _ nsrc eD
    have gD4 : G' D = none := e4.fresh D (fun z => by rw [eD] at z; cases z) gD
    exact ⟨acc, hD4, Nat.lt_of_lt_of_le (by omega : acc.length < 16000000) (by decide), acc ++ [y], G', (e.trans e4).mut hD nsrc gD4, gD4, upd_same, by rw [List.length_append, el]; rfl, a4⟩
  · rintro H ⟨acc, G, e, gD, eD, el, ha⟩
    exact hd acc G _ H (same_new gD) (e.frz hD nsrc gD eD) upd_same ha
/-! ### rules in short -/
theorem pi_or {X : Cx} {tg e : Expr} {w1 w2 : TI} (h1 : PI X tg e w1) (h2 : PI X tg e w2) : PI X tg e (fun σ H R => w1 σ H R ∨ w2 σ H R) := ⟨fun pins s σ H R I h => h.elim (h1.run pins s σ H R I) (h2.run pins s σ H R I)⟩
theorem pe_globI {X : Cx} {x : Str} {i : Int} {pos : Pos} (hg : Gl X x) (h : ∃ t, X.mg x = some (.int i t)) (hd : (x == ("__debug__" : Str)) = false := by decide) : PE X (.Name x pos) (tC (.int i)) := let ⟨_, e⟩ := h; pe_glob hg e ⟨_, rfl⟩ hd
theorem pe_globS {X : Cx} {x z : Str} {pos : Pos} (hg : Gl X x) (h : ∃ t, X.mg x = some (.str z t)) (hd : (x == ("__debug__" : Str)) = false := by decide) : PE X (.Name x pos) (tC (.str z)) := let ⟨_, e⟩ := h; pe_glob hg e ⟨_, rfl⟩ hd
/-- o.f = .. as a target among others -/
def gFld (K : PySem.W.Frag) (to : TE) (f : Str) : TG := fun v σ H Q => to σ H fun x H2 => ∃ a C dx fs, x = .ref a ∧ H2 a = some (.ins C dx fs) ∧ Cls K C ∧ NoAttr K C f ∧ fs.length < 1000 ∧ Q σ (upd H2 a (.ins C dx (putF f v fs)))
theorem pg_fld {X : Cx} {o : Expr} {f : Str} {pos : Pos} {to : TE} (ho : PE X o to) : PG X (.Attribute o f pos) (gFld X.K to f) := by
  refine ⟨fun pins s σ H v u Q inv r hw => ?_⟩
  rw [assign_Attribute]
  refine wpAny_bind (wpAny_holding (thn (ho.run pins s σ H _ inv hw) fun ov s1 ⟨x, H1, inv1, r1, a, C, dx, fs, ex, ea, c, n, l, q⟩ => ?_))
  subst ex
  cases r1
  exact wpAny_bind (wpAny_standAt (wpAny_bind (wpAny_holding (setattr_ok inv1 ea c n l r fun s3 inv3 => wpAny_release ⟨σ, _, inv3, q⟩))))
/-! ### defs, called by what they promise -/
structure Cal (P : Program) (w : World) (K : PySem.W.Frag) (mg : Str → Option Value) (base : Heap) (x : Str) (ps : List Str) (k : Nat) (sp : Sp) : Prop where
  ex : ∃ f fd, FnOk P w K mg base CX0 k f fd ps sp ∧ mg x = some (.ref f) ∧ PySem.W.keepIn K (.ref f) = true ∧ Binds K fd ps []
theorem pe_cal {X : Cx} {x : Str} {ps : List Str} {k : Nat} {sp : Sp} {p pos : Pos} {e : Expr} {es : List Expr} {t : TA} (C : Cal X.prog X.w X.K X.mg X.base x ps k sp) (hr : Room k X.A) (hg : Gl X x) (ha : PA X (e :: es) t)
    (hpl : (backTo pos (starEach es X.env)).any (·.1) = false := by rfl) (hdb : (x == ("__debug__" : Str)) = false := by decide)
    (he : starEach (e :: es) X.env = (false, eval e X.env) :: starEach es X.env := by rfl) :
    PE X (.Call (.Name x p) (e :: es) [] pos) (tCall sp [] E0 t) := by
  obtain ⟨f, fd, F, hm, hk, hb⟩ := C.ex
  exact pe_call F hr hg hm hk hb .nil pass0 ha hdb he hpl
/-- a def as it stands behind the top -/
def Df (K : PySem.W.Frag) (mg : Str → Option Value) (x : Str) (st : Stmt) : Prop := ∃ f fd, FunD K x x (defArgs st) (defBody st) (defScope st) [] [] f fd ∧ mg x = some (.ref f)
theorem cal_of {P : Program} {w : World} {mg : Str → Option Value} {base : Heap} {x : Str} {st : Stmt} {N ps : List Str} {k : Nat} {sp : Sp} (D : Df K mg x st) (S : FnScope N ps (defScope st))
    (hb : ∀ (kV doc pm : Value) (an : Option Addr) (cdv ct : Value) (us : List Value), us.length = ps.length → bindArgs (PySem.W.fnOf x x (defArgs st) (defBody st) (defScope st) .none kV doc pm an cdv ct) ⟨us, []⟩ = pure (ps.zip us))
    (len : ∀ vs H Q E, sp vs H Q E → List.length vs = ps.length)
    (body : ∀ (f : Addr) (cdv : Value) (A : Around) (outer : List Env) (s : Shared) (H : Hp) (vs : List V) (Q : VK) (E : XK), Room k (A.deeper (envOfC x (defScope st) s.heap.objs.size f cdv)) → sp vs H Q E →
      ∃ t, PSs (cxOf CX0 P w K mg base N x (defScope st) f cdv A outer s H E).nox (defBody st) t ∧ t { nx := fun _ H' => Q .non H', rt := Q } (start N vs) H) : Cal P w K mg base x ps (k + 1) sp := by
  obtain ⟨f, fd, F, hm⟩ := D
  exact ⟨f, fd, F.ok S len fun cdv A outer s H vs Q E hr h => let ⟨t, a, b⟩ := body f cdv A outer s H vs Q E hr h; ⟨t, a.nox, b⟩, hm, F.kp, F.bindsN hb⟩
/-! ### types for isinstance -/
theorem ty_tup {a : Addr} {xs : List V} (h : SqT K H a xs) : TyX K H (.ref a) (.type "tuple") := by
  rcases h with (h | ⟨o, h⟩) | ⟨o, its, n, k, c, _⟩
  · exact .base (.tup h)
  · exact .fTuple h
  · exact .kTuple k c
theorem ty_lst {a : Addr} {xs : List V} (h : SqL K H a xs) : TyX K H (.ref a) (.type "list") := by
  rcases h with (h | ⟨o, h⟩) | ⟨o, its, n, k, c, _⟩
  · exact .base (.lst h)
  · exact .base (.frz h)
  · exact .kList k c
/-- the built-in names, the constants, as the program's top leaves them -/
structure Gb (mg : Str → Option Value) : Prop where
  isinstance_ : mg "isinstance" = none
  int_ : mg "int" = none
  bool_ : mg "bool" = none
  list_ : mg "list" = none
  tuple_ : mg "tuple" = none
  str_ : mg "str" = none
  len_ : mg "len" = none
  enumerate_ : mg "enumerate" = none
  all_ : mg "all" = none
  any_ : mg "any" = none
  sum_ : mg "sum" = none
  range_ : mg "range" = none
  zip_ : mg "zip" = none
  min_ : mg "min" = none
  max_ : mg "max" = none
  sorted_ : mg "sorted" = none
  rounds_ : ∃ t, mg "MAX_ROUNDS" = some (.int 200 t)
  groups_ : ∃ t, mg "MAX_GROUPS" = some (.int 1000 t)
  many_ : ∃ t, mg "MANY" = some (.str "many" t)
  few_ : ∃ t, mg "FEW" = some (.str "few" t)
def topS (i : Nat) : Stmt := PySem.Challenge.pw_splitclimb_k46_whole_merged_climbers.main.body.getD i (.Pass ⟨0, 0, 0, 0⟩)
end Lw
namespace Lw
open PySem L2 PySem.Spec PyProof.Rows
/-! ### the rules with the written part named, so that they serve within a comprehension's block too -/
def rLenK (K : PySem.W.Frag) : List V → Hp → VK → Prop := fun xs H Q => ∃ p ys, xs = [.ref p] ∧ (SqL K H p ys ∨ SqT K H p ys) ∧ Q (.int ys.length) H
def rListK (K : PySem.W.Frag) : List V → Hp → VK → Prop := fun xs H Q => ∃ p ys, xs = [.ref p] ∧ (SqL K H p ys ∨ SqT K H p ys) ∧ ∀ l, H l = none → Q (.ref l) (upd H l (.lst ys))
def rTupleK (K : PySem.W.Frag) : List V → Hp → VK → Prop := fun xs H Q => ∃ p ys, xs = [.ref p] ∧ ((SqL K H p ys ∧ ∀ l, H l = none → Q (.ref l) (upd H l (.tup ys))) ∨ (SqT K H p ys ∧ Q (.ref p) H))
section
variable {X : Cx} (K : PySem.W.Frag) {tg e e2 l : Expr} {tl te : TE} {ta : TA} {p pos tpos : Pos} {elts : List Expr} {kk : Nat}
theorem ix_listK (h : X.K = K := by rfl) : IxR X (rIxL K) := by subst h; exact ix_list
theorem ix_tupK (h : X.K = K := by rfl) : IxR X (rIxT K) := by subst h; exact ix_tup
theorem cr_lenK (h : X.K = K := by rfl) : CallR X (.builtin "len") (rLenK K) := by subst h; exact call_len_seq
theorem cr_isiK (h : X.K = K := by rfl) : CallR X (.builtin "isinstance") (rIsi K) := by subst h; exact call_isi
theorem cr_isiTK (h : X.K = K := by rfl) : CallR X (.builtin "isinstance") (rIsiT K) := by subst h; exact call_isiT
theorem cr_allK (hc : X.calm = true) (h : X.K = K := by rfl) : CallR X (.builtin "all") (rAll K) := by subst h; exact cr_all hc
theorem cr_anyK (hc : X.calm = true) (h : X.K = K := by rfl) : CallR X (.builtin "any") (rAny K) := by subst h; exact cr_any hc
theorem cr_sumK (hc : X.calm = true) (h : X.K = K := by rfl) : CallR X (.builtin "sum") (rSum K) := by subst h; exact cr_sum hc
theorem cr_minK (hc : X.calm = true) (h : X.K = K := by rfl) : CallR X (.builtin "min") (rMin K) := by subst h; exact cr_min hc
theorem cr_maxK (hc : X.calm = true) (h : X.K = K := by rfl) : CallR X (.builtin "max") (rMax K) := by subst h; exact cr_max hc
theorem cr_sortedK (h : X.K = K := by rfl) : CallR X (.builtin "sorted") (rSortedI K) := by subst h; exact cr_sortedI
theorem cr_tupleK (h : X.K = K := by rfl) : CallR X (.type "tuple") (rTupleK K) := by subst h; exact call_tuple_of
theorem cr_listK (h : X.K = K := by rfl) : CallR X (.type "list") (rListK K) := by subst h; exact call_list_of
theorem op_catLK (h : X.K = K := by rfl) : OpR X (binaryOp .Add) (rCatL K) := by subst h; exact op_catL
theorem op_catAK (h : X.K = K := by rfl) : OpR X (binaryOp .Add) (rCatA K) := by subst h; exact op_catA
theorem op_eqDK (hu : X.A.units + 64 < cLine) (h : X.K = K := by rfl) : OpR X (compareOp .Eq) (rEqD K) := by subst h; exact op_eqD hu
theorem op_neDK (hu : X.A.units + 64 < cLine) (h : X.K = K := by rfl) : OpR X (compareOp .NotEq) (rNeD K) := by subst h; exact op_neD hu
theorem op_notInK (h : X.K = K := by rfl) : OpR X (compareOp .NotIn) (rIn K true) := by subst h; exact op_notIn_seq
theorem sl_listK (h : X.K = K := by rfl) : SlR X (rSlL K) := by subst h; exact sl_list
theorem sl_tupK (h : X.K = K := by rfl) : SlR X (rSlA K) := by subst h; exact sl_tupA
theorem pi_listK (hl : PE X l tl) (h : X.K = K := by rfl) : PI X tg l (iList K tl) := by subst h; exact pi_list hl
theorem pi_tupK (hl : PE X l tl) (h : X.K = K := by rfl) : PI X tg l (iTup K tl) := by subst h; exact pi_tup hl
theorem pi_enumK (hg : Gl X "enumerate") (hm : X.mg "enumerate" = none) (ha : PA X [e] ta) (hs : starEach [e] X.env = [(false, eval e X.env)] := by rfl) (h : X.K = K := by rfl) : PI X (.Tuple elts kk tpos) (.Call (.Name "enumerate" p) [e] [] pos) (iEnum K ta) := by subst h; exact pi_enum hg hm ha hs
theorem pi_enumTK (hg : Gl X "enumerate") (hm : X.mg "enumerate" = none) (ha : PA X [e] ta) (hs : starEach [e] X.env = [(false, eval e X.env)] := by rfl) (h : X.K = K := by rfl) : PI X (.Tuple elts kk tpos) (.Call (.Name "enumerate" p) [e] [] pos) (iEnumT K ta) := by subst h; exact pi_enumT hg hm ha hs
theorem pi_zipK (hg : Gl X "zip") (hm : X.mg "zip" = none) (ha : PA X [e, e2] ta) (hs : starEach [e, e2] X.env = (false, eval e X.env) :: starEach [e2] X.env := by rfl) (hpl : (backTo pos (starEach [e2] X.env)).any (·.1) = false := by rfl) (h : X.K = K := by rfl) :
    PI X (.Tuple elts kk tpos) (.Call (.Name "zip" p) [e, e2] [] pos) (iZip K ta) := by subst h; exact pi_zip hg hm ha hs hpl
theorem pi_zipMK (hg : Gl X "zip") (hm : X.mg "zip" = none) (ha : PA X [e, e2] ta) (hs : starEach [e, e2] X.env = (false, eval e X.env) :: starEach [e2] X.env := by rfl) (hpl : (backTo pos (starEach [e2] X.env)).any (·.1) = false := by rfl) (h : X.K = K := by rfl) :
    PI X (.Tuple elts kk tpos) (.Call (.Name "zip" p) [e, e2] [] pos) (iZipM K ta) := by subst h; exact pi_zipM hg hm ha hs hpl
theorem pg_tupK (n : Nat) {es : List Expr} {k : Nat} {t : TGs} (hc : X.calm = true) (ht : PGs X es t) (hn : (assignEach es X.env).length = n := by rfl) (hst : (assignEach es X.env).findIdx? (·.1) = none := by rfl) (h : X.K = K := by rfl) : PG X (.Tuple es k pos) (gTup K n t) := by subst h; exact pg_tup hc ht hn hst
theorem pe_fldK {f : Str} (he : PE X e te) (hb : attributeBase e f X.env (eval e X.env) = eval e X.env) (h : X.K = K := by rfl) : PE X (.Attribute e f pos) (tFld K te f) := by subst h; exact pe_fld he hb
theorem pg_fldK {f : Str} (ho : PE X e te) (h : X.K = K := by rfl) : PG X (.Attribute e f pos) (gFld K te f) := by subst h; exact pg_fld ho
end
/-- xs.append(e) -/
theorem pe_appK {X : Cx} (K : PySem.W.Frag) {o e : Expr} {to te : TE} {apos cpos : Pos} (ho : PE X o to) (he : PE X e te)
    (hbase : attributeBase o "append" X.env (eval o X.env) = eval o X.env := by rfl)
    (hfew : ((backTo cpos (starEach [e] X.env)).all (fun x => !x.1) && (backToKw cpos (keywordEach [] X.env)).all (fun x => x.1.isSome) && decide ([e].length + ([] : List Keyword).length + (if ([] : List Keyword).isEmpty then 0 else 1) < 30)) = true := by rfl)
    (hline : (apos.endLine == cpos.line) = true := by rfl) (hs : starEach [e] X.env = (false, eval e X.env) :: starEach [] X.env := by rfl) (hplain : (backTo cpos (starEach [] X.env)).any (·.1) = false := by rfl) (h : X.K = K := by rfl) :
    PE X (.Call (.Attribute o "append" apos) [e] [] cpos) (tBM K "list" rAppend to (tCons te tNil)) := by
  subst h
  exact pe_bm PySem.F.plainAttrs_list PySem.F.slot_list_append PySem.F.type_list_append mt_append ho (pa_cons he pa_nil hs) hbase hfew hline hs hplain
/-- a method of the class at C, by its promise -/
structure CalM (P : Program) (w : World) (K : PySem.W.Frag) (mg : Str → Option Value) (base : Heap) (C : Addr) (m : Str) (ps : List Str) (k : Nat) (sp : Sp) : Prop where
  ex : ∃ f fd, FnOk P w K mg base CX0 k f fd ps sp ∧ Meth K C m f ∧ Binds K fd ps []
theorem pe_mcal {X : Cx} {C : Addr} {m : Str} {ps : List Str} {k : Nat} {sp : Sp} {o e : Expr} {es : List Expr} {to : TE} {t : TA} {apos pos : Pos} {pl : Sem Bool} (he : PE X o to) (c : Cls X.K C) (F : CalM X.prog X.w X.K X.mg X.base C m ps k sp) (hr : Room k X.A) (ha : PA X (e :: es) t)
    (hpl : (backTo pos (starEach es X.env)).any (·.1) = false := by rfl)
    (hst : starEach (e :: es) X.env = (false, eval e X.env) :: starEach es X.env := by rfl)
    (ht : eval (.Call (.Attribute o m apos) (e :: es) ([] : List Keyword) pos) X.env = (do
      let ov ← eval o X.env
      standAt apos.atName
      let (fn, us) ← holding [ov] (getMethod ov m pl)
      callWith pos fn us (backTo pos (starEach (e :: es) X.env)) (backToKw pos (keywordEach [] X.env))) := by rfl) :
    PE X (.Call (.Attribute o m apos) (e :: es) [] pos) (tMeth C m sp [] E0 to t) := by
  obtain ⟨f, fd, F, hm, hb⟩ := F.ex
  exact pe_meth he c hm F hr hb .nil pass0 ha hst hpl ht
theorem pe_mcal0 {X : Cx} {C : Addr} {m : Str} {ps : List Str} {k : Nat} {sp : Sp} {o : Expr} {to : TE} {apos pos : Pos} {pl : Sem Bool} (he : PE X o to) (c : Cls X.K C) (F : CalM X.prog X.w X.K X.mg X.base C m ps k sp) (hr : Room k X.A)
    (ht : eval (.Call (.Attribute o m apos) [] ([] : List Keyword) pos) X.env = (do
      let ov ← eval o X.env
      standAt apos.atName
      let (fn, us) ← holding [ov] (getMethod ov m pl)
      callWith pos fn us (backTo pos (starEach [] X.env)) (backToKw pos (keywordEach [] X.env))) := by rfl) :
    PE X (.Call (.Attribute o m apos) [] [] pos) (tMeth C m sp [] E0 to tNil) := by
  obtain ⟨f, fd, F, hm, hb⟩ := F.ex
  exact pe_meth0 he c hm F hr hb .nil pass0 ht
/-- C(..), by the promise of its __init__ -/
structure CalI (P : Program) (w : World) (K : PySem.W.Frag) (mg : Str → Option Value) (base : Heap) (C : Addr) (x : Str) (ps : List Str) (k : Nat) (sp : Sp) : Prop where
  ex : ∃ f fd, FnOk P w K mg base CX0 k f fd ps sp ∧ Mk K C f ∧ mg x = some (.ref C) ∧ Binds K fd ps []
theorem pe_mk {X : Cx} {C : Addr} {x : Str} {ps : List Str} {k : Nat} {sp : Sp} {p pos : Pos} {e : Expr} {es : List Expr} {t : TA} (F : CalI X.prog X.w X.K X.mg X.base C x ps k sp) (hr : Room (k + 1) X.A) (hg : Gl X x) (ha : PA X (e :: es) t)
    (hpl : (backTo pos (starEach es X.env)).any (·.1) = false := by rfl) (hdb : (x == ("__debug__" : Str)) = false := by decide)
    (he : starEach (e :: es) X.env = (false, eval e X.env) :: starEach es X.env := by rfl) :
    PE X (.Call (.Name x p) (e :: es) [] pos) (tMake C sp [] E0 t) := by
  obtain ⟨f, fd, F, M, hm, hb⟩ := F.ex
  exact pe_make M F hr hg hm hb .nil pass0 ha hdb he hpl
/-- a method's text -/
def inCls (s : Stmt) (j : Nat) : Stmt := inClass s j
theorem calM_of {P : Program} {w : World} {K : PySem.W.Frag} {mg : Str → Option Value} {base : Heap} {C f : Addr} {fd : FuncData} {m q : Str} {st : Stmt} {N ps : List Str} {k : Nat} {sp : Sp} (F : FunD K m q (defArgs st) (defBody st) (defScope st) [] [] f fd) (S : FnScope N ps (defScope st))
    (hb : ∀ (kV doc pm : Value) (an : Option Addr) (cdv ct : Value) (us : List Value), us.length = ps.length → bindArgs (PySem.W.fnOf m q (defArgs st) (defBody st) (defScope st) .none kV doc pm an cdv ct) ⟨us, []⟩ = pure (ps.zip us))
    (len : ∀ vs H Q E, sp vs H Q E → List.length vs = ps.length)
    (body : ∀ (f : Addr) (cdv : Value) (A : Around) (outer : List Env) (s : Shared) (H : Hp) (vs : List V) (Q : VK) (E : XK), Room k (A.deeper (envOfC q (defScope st) s.heap.objs.size f cdv)) → sp vs H Q E →
      ∃ t, PSs (cxOf CX0 P w K mg base N q (defScope st) f cdv A outer s H E).nox (defBody st) t ∧ t { nx := fun _ H' => Q .non H', rt := Q } (start N vs) H) : FnOk P w K mg base CX0 (k + 1) f fd ps sp ∧ Binds K fd ps [] :=
  ⟨F.ok S len fun cdv A outer s H vs Q E hr h => let ⟨t, a, b⟩ := body f cdv A outer s H vs Q E hr h; ⟨t, a.nox, b⟩, F.bindsN hb⟩
end Lw
namespace Lw
open PySem L2 PySem.Spec PyProof.Rows
/-! ### small facts -/
theorem int_at {ns : List Int} {i : Nat} {y : V} (h : (ns.map V.int)[i]? = some y) : ∃ hi : i < ns.length, y = .int ns[i] := by
  rw [List.getElem?_map] at h
  by_cases hi : i < ns.length
  · rw [List.getElem?_eq_getElem hi] at h
    exact ⟨hi, (Option.some.inj h).symm⟩
  · rw [List.getElem?_eq_none (by omega)] at h
    cases h
theorem int_get {ns : List Int} {i : Nat} (hi : i < ns.length) : (ns.map V.int)[i]? = some (.int ns[i]) := by
  rw [List.getElem?_map, List.getElem?_eq_getElem (i := i) hi]
  rfl
theorem take_map_succ {α β : Type} (f : α → β) {l : List α} {i : Nat} (hi : i < l.length) : (l.take (i + 1)).map f = (l.take i).map f ++ [f l[i]] := by
  rw [List.take_add_one, List.getElem?_eq_getElem hi, List.map_append]
  rfl
theorem take_map_all {α β : Type} (f : α → β) {l : List α} {n : Nat} (h : l.length ≤ n) : (l.take n).map f = l.map f := by rw [List.take_of_length_le h]
theorem depth_ints : ∀ ns : List Int, PyData.depthAll (ns.map PyData.int) = 0
  | [] => rfl
  | n :: ns => by
    rw [List.map_cons, PyData.depthAll, depth_ints ns]
    rfl
theorem lay_ints : ∀ ns : List Int, PyData.canLayAll0 (ns.map PyData.int) = true
  | [] => rfl
  | n :: ns => by
    rw [List.map_cons, PyData.canLayAll0, lay_ints ns]
    rfl
theorem shaped_ints (ns : List Int) : SeqAt.shaped (.list (ns.map PyData.int)) = true := by
  unfold SeqAt.shaped
  rw [PyData.canLay0, PyData.depth, depth_ints, lay_ints]
  rfl
theorem shaped_tup (ns : List Int) : SeqAt.shaped (.tuple (ns.map PyData.int)) = true := by
  unfold SeqAt.shaped
  rw [PyData.canLay0, PyData.depth, depth_ints, lay_ints]
  rfl
theorem dp_all {K : PySem.W.Frag} {H : Hp} : ∀ ns : List Int, DpAll K H (ns.map V.int) (ns.map PyData.int)
  | [] => .nil
  | n :: ns => .cons (.int n) (dp_all ns)
theorem dp_ints {K : PySem.W.Frag} {H : Hp} {a : Addr} {ns : List Int} (h : SqL K H a (ns.map V.int)) : Dp K H (.ref a) (.list (ns.map PyData.int)) := .lst h (dp_all ns)
theorem eqv_of_shaped {d : PyData} (h : SeqAt.shaped d = true) : PyData.eqv d d = true := SeqAt.eqv_refl d (SeqAt.canLay_of_shaped h)
/-- the goal's text -/
def gz (many : Bool) : Str := if many then "many" else "few"
theorem gz_flat (many : Bool) : inV (.str (gz many)) [.str "many", .str "few"] = true := by cases many <;> decide +kernel
theorem gz_many (many : Bool) : decide (V.str (gz many) = V.str "many") = many := by cases many <;> decide +kernel
/-- a schedule that the program's sizes bear -/
structure SOk (s : List Int) : Prop where
  len : s.length ≤ 200
  two : ∀ e ∈ s, 2 ≤ e
  few : ∀ e ∈ s, e ≤ 1000
  pr : prodI s < 2 ^ 64
theorem SOk.pos {s : List Int} (h : SOk s) : ∀ e ∈ s, 0 < e := fun e he => by have := h.two e he; omega
theorem SOk.tail {e : Int} {r : List Int} (h : SOk (e :: r)) : SOk r := by
  refine ⟨by have := h.len; simp at this; omega, fun x hx => h.two x (List.mem_cons_of_mem _ hx), fun x hx => h.few x (List.mem_cons_of_mem _ hx), ?_⟩
  have h1 := h.two e (by simp)
  have h2 : 0 < prodI r := prodI_pos fun x hx => h.pos x (List.mem_cons_of_mem _ hx)
  have h3 : prodI r ≤ e * prodI r := by
    have := Int.mul_le_mul_of_nonneg_right (show (1 : Int) ≤ e by omega) (Int.le_of_lt h2)
    omega
  have h4 : e * prodI r < 2 ^ 64 := h.pr
  omega
theorem SOk.drop : ∀ {s : List Int} (n : Nat), SOk s → SOk (s.drop n)
  | [], n, h => by rw [List.drop_nil]; exact h
  | e :: r, 0, h => h
  | e :: r, n + 1, h => SOk.drop n h.tail
theorem divW {i j : Int} (h0 : 0 < j) (h1 : j < 2 ^ 64) : CDivW i j := wide_div (b := 64) h0 (by omega) (by decide) (by decide)
section
variable {mg : Str → Option Value} {base : Heap} {K : PySem.W.Frag} {P : Program} {w : World}
/-! ### integers -/
def spIsInt : Sp := fun vs H Q _ => ∃ i : Int, vs = [.int i] ∧ Q (.bl true) H
theorem ok_is_integer (T : Gb mg) (D : Df K mg "is_integer" (topS 9)) : Cal P w K mg base "is_integer" ["value"] 1 spIsInt := by
  have sc : FnScope ["value"] ["value"] (defScope (topS 9)) := ⟨rfl, rfl, rfl, by decide +kernel, rfl, by decide +kernel, by decide +kernel⟩
  refine cal_of D sc (fun _ _ _ _ _ _ us hl => match us, hl with | [_], _ => rfl) (fun vs H Q E h => ?_) fun f cdv A outer s H vs Q E hr h => ?_
  · obtain ⟨i, rfl, _⟩ := h; rfl
  · obtain ⟨i, rfl, q⟩ := h
    refine ⟨_, (pss_one (ps_ret (pe_and (pe_callB (cr_isiK K) (by rfl) T.isinstance_ (by decide +kernel) (pa_cons (pv 0) (pa_cons (pe_bltn (v := .ty "int") (by rfl) T.int_ (by decide +kernel) rfl) pa_nil))) (pe_one (pe_not (pe_callB (cr_isiK K) (by rfl) T.isinstance_ (by decide +kernel) (pa_cons (pv 0) (pa_cons (pe_bltn (v := .ty "bool") (by rfl) T.bool_ (by decide +kernel) rfl) pa_nil)))))))), ?_⟩
    refine ⟨_, rfl, .int i, .ty "int", _, _, true, rfl, .ty _, .base (.int i), kit_ty (by decide +kernel), true, rfl, iteT ?_⟩
    exact ⟨_, rfl, .int i, .ty "bool", _, _, false, rfl, .ty _, .base (.int i), kit_ty (by decide +kernel), false, rfl, q⟩
def spAtLeast : Sp := fun vs H Q _ => ∃ i j : Int, vs = [.int i, .int j] ∧ j ≤ i ∧ Q (.bl true) H
theorem ok_is_at_least (T : Gb mg) (D : Df K mg "is_at_least" (topS 10)) (c_is_integer : Cal P w K mg base "is_integer" ["value"] 1 spIsInt) : Cal P w K mg base "is_at_least" ["value", "low"] 2 spAtLeast := by
  have sc : FnScope ["value", "low"] ["value", "low"] (defScope (topS 10)) := ⟨rfl, rfl, rfl, by decide +kernel, rfl, by decide +kernel, by decide +kernel⟩
  refine cal_of D sc (fun _ _ _ _ _ _ us hl => match us, hl with | [_, _], _ => rfl) (fun vs H Q E h => ?_) fun f cdv A outer s H vs Q E hr h => ?_
  · obtain ⟨i, j, rfl, _⟩ := h; rfl
  · obtain ⟨i, j, rfl, hij, q⟩ := h
    refine ⟨_, (pss_one (ps_ret (pe_and (pe_cal c_is_integer (hr.mono (by decide)) (by rfl) (pa_cons (pv 0) pa_nil)) (pe_one (pe_cmpR op_ge (pv 0) (pv 1) (nomark _)))))), ?_⟩
    refine ⟨_, rfl, i, rfl, true, rfl, iteT ?_⟩
    refine ⟨_, rfl, _, rfl, i, j, rfl, rfl, ?_⟩
    show Q (.bl (decide (j ≤ i))) H
    rw [decide_eq_true hij]
    exact q
def spBetween : Sp := fun vs H Q _ => ∃ v lo hi : Int, vs = [.int v, .int lo, .int hi] ∧ lo ≤ v ∧ v ≤ hi ∧ Q (.bl true) H
theorem ok_is_between (T : Gb mg) (D : Df K mg "is_between" (topS 11)) (c_is_integer : Cal P w K mg base "is_integer" ["value"] 1 spIsInt) : Cal P w K mg base "is_between" ["value", "low", "high"] 2 spBetween := by
  have sc : FnScope ["value", "low", "high"] ["value", "low", "high"] (defScope (topS 11)) := ⟨rfl, rfl, rfl, by decide +kernel, rfl, by decide +kernel, by decide +kernel⟩
  refine cal_of D sc (fun _ _ _ _ _ _ us hl => match us, hl with | [_, _, _], _ => rfl) (fun vs H Q E h => ?_) fun f cdv A outer s H vs Q E hr h => ?_
  · obtain ⟨v, lo, hi, rfl, _⟩ := h; rfl
  · obtain ⟨v, lo, hi, rfl, h1, h2, q⟩ := h
    refine ⟨_, (pss_one (ps_ret (pe_and (pe_cal c_is_integer (hr.mono (by decide)) (by rfl) (pa_cons (pv 0) pa_nil)) (pe_one (pe_chain op_le op_le (pv 1) (pv 0) (pv 2)))))), ?_⟩
    refine ⟨_, rfl, v, rfl, true, rfl, iteT ?_⟩
    refine ⟨_, rfl, _, rfl, lo, v, rfl, rfl, true, congrArg V.bl (decide_eq_true h1), iteT ?_⟩
    refine ⟨_, rfl, v, hi, rfl, rfl, ?_⟩
    show Q (.bl (decide (v ≤ hi))) H
    rw [decide_eq_true h2]
    exact q
def spRup : Sp := fun vs H Q _ => ∃ n d : Int, vs = [.int n, .int d] ∧ 0 < d ∧ d < 2 ^ 64 ∧ Q (.int (cdiv n d)) H
theorem ok_rounded_up (D : Df K mg "rounded_up" (topS 12)) : Cal P w K mg base "rounded_up" ["numerator", "denominator"] 1 spRup := by
  have sc : FnScope ["numerator", "denominator"] ["numerator", "denominator"] (defScope (topS 12)) := ⟨rfl, rfl, rfl, by decide +kernel, rfl, by decide +kernel, by decide +kernel⟩
  refine cal_of D sc (fun _ _ _ _ _ _ us hl => match us, hl with | [_, _], _ => rfl) (fun vs H Q E h => ?_) fun f cdv A outer s H vs Q E hr h => ?_
  · obtain ⟨n, d, rfl, _⟩ := h; rfl
  · obtain ⟨n, d, rfl, h0, h1, q⟩ := h
    refine ⟨_, (pss_one (ps_ret (pe_un un_neg (pe_op op_fdivW (pe_un un_neg (pv 0)) (pv 1))))), ?_⟩
    exact ⟨_, rfl, n, rfl, _, rfl, -n, d, rfl, rfl, divW h0 h1, -n / d, rfl, q⟩
/-! ### positions -/
def spSched (K : PySem.W.Frag) : Sp := fun vs H Q _ => ∃ (v : V) (ns : List Int), vs = [v] ∧ SeqI K H v ns ∧ ns.length ≤ 200 ∧ (∀ e ∈ ns, 2 ≤ e) ∧ ∀ H', Same H H' → Q .non H'
theorem ok_require_schedule (T : Gb mg) (D : Df K mg "require_schedule" (topS 18)) (c_is_at_least : Cal P w K mg base "is_at_least" ["value", "low"] 2 spAtLeast) : Cal P w K mg base "require_schedule" ["schedule"] 3 (spSched K) := by
  have sc : FnScope ["schedule", "index", "entry"] ["schedule"] (defScope (topS 18)) := ⟨rfl, rfl, rfl, by decide +kernel, rfl, by decide +kernel, by decide +kernel⟩
  refine cal_of D sc (fun _ _ _ _ _ _ us hl => match us, hl with | [_], _ => rfl) (fun vs H Q E h => ?_) fun f cdv A outer s H vs Q E hr h => ?_
  · obtain ⟨v, ns, rfl, _⟩ := h; rfl
  · obtain ⟨v, ns, rfl, hS, hl, h2, q⟩ := h
    refine ⟨_, (pss_cons (ps_if (PW.pt (pw_or (pt_not (pt_val (pe_callB (cr_isiTK K) (by rfl) T.isinstance_ (by decide +kernel) (pa_cons (pv 0) (pa_cons (pe_tup (pa_cons (pe_bltn (v := .ty "list") (by rfl) T.list_ (by decide +kernel) rfl) (pa_cons (pe_bltn (v := .ty "tuple") (by rfl) T.tuple_ (by decide +kernel) rfl) pa_nil))) pa_nil))))) (pw_or1 (pt_cmpR op_gt (pe_callB (cr_lenK K) (by rfl) T.len_ (by decide +kernel) (pa_cons (pv 0) pa_nil)) (pe_globI (by rfl) T.rounds_) (nomark _))))) (pss_one ps_never) pss_nil) (pss_one (ps_for PassesOwn.never rfl (pi_or (pi_enumK K (by rfl) T.enumerate_ (pa_cons (pv 0) pa_nil)) (pi_enumTK K (by rfl) T.enumerate_ (pa_cons (pv 0) pa_nil))) (pg_tupK K 2 rfl (pgs_cons (pg_name (i := 1) sc.nd rfl (Or.inl rfl)) (pgs_cons (pg_name (i := 2) sc.nd rfl (Or.inl rfl)) pgs_nil))) (pss_one (ps_if (pt_not (pt_val (pe_cal c_is_at_least (hr.mono (by decide)) (by rfl) (pa_cons (pv 2) (pa_cons pe_int pa_nil))))) (pss_one ps_never) pss_nil))))), ?_⟩
    -- isinstance(schedule, (list, tuple))
    refine ⟨v, rfl, show 2 ≤ sizeLine by decide, fun p np => ?_⟩
    have sp : Same H (upd H p (.tup [.ty "list", .ty "tuple"])) := same_new np
    have hS1 := SeqI.mono sp hS
    have hty : ∃ t, TyX K (upd H p (.tup [.ty "list", .ty "tuple"])) v t ∧ PySem.W.kitAny K t [.type "list", .type "tuple"] = some true := by
      rcases hS1 with ⟨a, rfl, h⟩ | ⟨a, rfl, h⟩
      · exact ⟨_, ty_lst h, kitAny_cons (b := true) (kit_ty (by decide +kernel)) (fun z => nomatch z) fun _ => rfl⟩
      · exact ⟨_, ty_tup h, kitAny_cons (b := false) (kit_ty (by decide +kernel)) (fun _ => kitAny_cons (b := true) (kit_ty (by decide +kernel)) (fun z => nomatch z) fun _ => rfl) fun z => nomatch z⟩
    obtain ⟨t, ty, kt⟩ := hty
    refine ⟨v, p, _, t, _, true, rfl, upd_same, .cons (.ty _) (.cons (.ty _) .nil), ty, kt, true, rfl, iteF ?_⟩
    -- len(schedule) > MAX_ROUNDS
    have hlen : ∃ a, v = .ref a ∧ (SqL K (upd H p (.tup [.ty "list", .ty "tuple"])) a (ns.map V.int) ∨ SqT K (upd H p (.tup [.ty "list", .ty "tuple"])) a (ns.map V.int)) := by
      rcases hS1 with ⟨a, e, h⟩ | ⟨a, e, h⟩
      · exact ⟨a, e, .inl h⟩
      · exact ⟨a, e, .inr h⟩
    obtain ⟨a, rfl, hq⟩ := hlen
    refine ⟨_, rfl, a, _, rfl, hq, _, _, rfl, rfl, false, ?_, iteF ?_⟩
    · rw [List.length_map]
      exact congrArg V.bl (decide_eq_false (by omega))
    -- the entries
    rcases hS with ⟨a', e, h⟩ | ⟨a', e, h⟩
    · cases e
      refine .inl ⟨_, rfl, a, _, rfl, sp.seq h, for_it walk_enum (fun i σ H' => (∃ u v : Option V, σ = [some (.ref a), u, v]) ∧ Same H H') ⟨⟨none, none, rfl⟩, sp⟩ (fun i σ H' _ h' => h'.2.seq h) ?_ (fun σ H' h' => q H' h'.2)⟩
      rintro i x σ H' H'' hi ⟨⟨u, v, rfl⟩, sm⟩ ⟨TA, x1, y1, rfl, nT, rfl, e1, e2⟩
      obtain ⟨hi', rfl⟩ := int_at e2
      cases e1
      exact ⟨TA, _, rfl, .of upd_same, rfl, _, _, rfl, _, _, rfl, rfl, _, rfl, _, 2, rfl, h2 _ (List.getElem_mem hi'), true, rfl, iteF ⟨⟨_, _, rfl⟩, sm.trans (same_new nT)⟩⟩
    · cases e
      refine .inr ⟨_, rfl, a, _, rfl, sp.tup h, for_it walk_enumT (fun i σ H' => (∃ u v : Option V, σ = [some (.ref a), u, v]) ∧ Same H H') ⟨⟨none, none, rfl⟩, sp⟩ (fun i σ H' _ h' => h'.2.tup h) ?_ (fun σ H' h' => q H' h'.2)⟩
      rintro i x σ H' H'' hi ⟨⟨u, v, rfl⟩, sm⟩ ⟨TA, x1, y1, rfl, nT, rfl, e1, e2⟩
      obtain ⟨hi', rfl⟩ := int_at e2
      cases e1
      exact ⟨TA, _, rfl, .of upd_same, rfl, _, _, rfl, _, _, rfl, rfl, _, rfl, _, 2, rfl, h2 _ (List.getElem_mem hi'), true, rfl, iteF ⟨⟨_, _, rfl⟩, sm.trans (same_new nT)⟩⟩
end
end Lw
namespace Lw
open PySem L2 PySem.Spec PyProof.Rows
section
variable {mg : Str → Option Value} {base : Heap} {K : PySem.W.Frag} {P : Program} {w : World}
def spRounds (K : PySem.W.Frag) : Sp := fun vs H Q _ => ∃ (v : V) (ns : List Int), vs = [v] ∧ TupI K H v ns ∧ ns ≠ [] ∧ SOk ns ∧ ∀ H', Same H H' → Q .non H'
theorem ok_require_rounds (T : Gb mg) (D : Df K mg "require_rounds" (topS 19)) (c_require_schedule : Cal P w K mg base "require_schedule" ["schedule"] 3 (spSched K)) : Cal P w K mg base "require_rounds" ["schedule"] 4 (spRounds K) := by
  have sc : FnScope ["schedule"] ["schedule"] (defScope (topS 19)) := ⟨rfl, rfl, rfl, by decide +kernel, rfl, by decide +kernel, by decide +kernel⟩
  refine cal_of D sc (fun _ _ _ _ _ _ us hl => match us, hl with | [_], _ => rfl) (fun vs H Q E h => ?_) fun f cdv A outer s H vs Q E hr h => ?_
  · obtain ⟨v, ns, rfl, _⟩ := h; rfl
  · obtain ⟨v, ns, rfl, hT, hne, ok, q⟩ := h
    refine ⟨_, (pss_cons (ps_expr (pe_cal c_require_schedule (hr.mono (by decide)) (by rfl) (pa_cons (pv 0) pa_nil))) (pss_one (ps_if (pt_cmpR op_eq (pe_callB (cr_lenK K) (by rfl) T.len_ (by decide +kernel) (pa_cons (pv 0) pa_nil)) pe_int (nomark _)) (pss_one ps_never) pss_nil))), ?_⟩
    refine ⟨v, rfl, v, ns, rfl, .inr hT, ok.len, ok.two, fun H1 s1 => ?_⟩
    obtain ⟨a, rfl, ht⟩ := hT
    refine ⟨_, rfl, a, _, rfl, .inr (s1.tup ht), rfl, false, ?_, iteF (q H1 s1)⟩
    refine congrArg V.bl (decide_eq_false fun z => hne ?_)
    have : ((ns.map V.int).length : Int) = 0 := V.int.inj z
    rw [List.length_map] at this
    exact List.eq_nil_of_length_eq_zero (by omega)
def spGroup (K : PySem.W.Frag) : Sp := fun vs H Q _ => ∃ (v : V) (ns : List Int) (L : Int), vs = [v, .int L] ∧ L = ns.length ∧ TupI K H v ns ∧ (∀ x ∈ ns, 0 ≤ x) ∧ ns.length < 1000000 ∧ ∀ H', Same H H' → Q (.bl true) H'
theorem all_true : ∀ n : Nat, (List.replicate n true).all id = true
  | 0 => rfl
  | n + 1 => by rw [List.replicate_succ, List.all_cons, all_true n]; rfl
theorem ok_is_group (T : Gb mg) (D : Df K mg "is_group" (topS 20)) (c_is_at_least : Cal P w K mg base "is_at_least" ["value", "low"] 2 spAtLeast) : Cal P w K mg base "is_group" ["value", "length"] 3 (spGroup K) := by
  have sc : FnScope ["value", "length", "entry"] ["value", "length"] (defScope (topS 20)) := ⟨rfl, rfl, rfl, by decide +kernel, rfl, by decide +kernel, by decide +kernel⟩
  refine cal_of D sc (fun _ _ _ _ _ _ us hl => match us, hl with | [_, _], _ => rfl) (fun vs H Q E h => ?_) fun f cdv A outer s H vs Q E hr h => ?_
  · obtain ⟨v, ns, L, rfl, _⟩ := h; rfl
  · obtain ⟨v, ns, L, rfl, rfl, ⟨a, rfl, ht⟩, h0, hl, q⟩ := h
    refine ⟨_, (pss_one (ps_ret (pe_and (pe_callB (cr_isiK K) (by rfl) T.isinstance_ (by decide +kernel) (pa_cons (pv 0) (pa_cons (pe_bltn (v := .ty "tuple") (by rfl) T.tuple_ (by decide +kernel) rfl) pa_nil))) (pe_and (pe_cmpR op_eq (pe_callB (cr_lenK K) (by rfl) T.len_ (by decide +kernel) (pa_cons (pv 0) pa_nil)) (pv 1) (nomark _)) (pe_one (pe_callB (cr_allK K rfl) (by rfl) T.all_ (by decide +kernel) (pa_cons (pe_lc (own := [("entry", 2)]) rfl sc.nd (pi_tupK K (pv 0)) (blkOk_by (by kernel_rfl)) (fun _ _ _ _ _ => (pg_name (i := 2) sc.nd rfl (Or.inl rfl))) (fun _ _ _ _ _ => pts_nil) (fun _ _ _ _ _ => (pe_cal c_is_at_least (hr.mono (by decide)) (by rfl) (pa_cons (pv 2) (pa_cons pe_int pa_nil))))) pa_nil))))))), ?_⟩
    refine ⟨_, rfl, _, _, _, _, true, rfl, .ty _, ty_tup ht, kit_ty (by decide +kernel), true, rfl, iteT ?_⟩
    refine ⟨_, rfl, a, _, rfl, .inr ht, _, rfl, rfl, true, congrArg V.bl (decide_eq_true (by rw [List.length_map])), iteT ?_⟩
    refine ⟨_, rfl, a, rfl, ⟨_, ht⟩, fun Dl hD => lcG (walk_tup (K := K) (a := a) (xs := ns.map V.int)) (fun i acc _ => acc = List.replicate i (.bl true)) hD (.pure (.refl H)) (by rw [List.length_map]; omega) (fun G H' e => (e.sameH).tup ht) rfl ?_ ?_⟩
    · rintro i x acc G H' H'' hi e ha ⟨rfl, hx⟩ Q' k
      obtain ⟨hi', rfl⟩ := int_at hx
      exact ⟨rfl, _, rfl, _, 0, rfl, h0 _ (List.getElem_mem hi'), k _ G _ (.refl e.ok) (by rw [ha, List.replicate_succ'])⟩
    · rintro acc G G' H' sg e eD ha
      refine ⟨Dl, List.replicate (ns.map V.int).length true, rfl, .of ?_, ?_⟩
      · rw [List.map_replicate, ← ha]
        exact e.ok.ex _ _ eD
      · rw [all_true]
        exact q H' e.sameH
def spCounts (K : PySem.W.Frag) : Sp := fun vs H Q _ => ∃ (v : V) (ns : List Int), vs = [v] ∧ TupI K H v ns ∧ ns.length ≤ 200 ∧ (∀ x ∈ ns, 0 ≤ x) ∧ ∀ H', Same H H' → Q .non H'
theorem ok_require_counts (T : Gb mg) (D : Df K mg "require_counts" (topS 21)) (c_is_group : Cal P w K mg base "is_group" ["value", "length"] 3 (spGroup K)) : Cal P w K mg base "require_counts" ["counts"] 4 (spCounts K) := by
  have sc : FnScope ["counts"] ["counts"] (defScope (topS 21)) := ⟨rfl, rfl, rfl, by decide +kernel, rfl, by decide +kernel, by decide +kernel⟩
  refine cal_of D sc (fun _ _ _ _ _ _ us hl => match us, hl with | [_], _ => rfl) (fun vs H Q E h => ?_) fun f cdv A outer s H vs Q E hr h => ?_
  · obtain ⟨v, ns, rfl, _⟩ := h; rfl
  · obtain ⟨v, ns, rfl, ⟨a, rfl, ht⟩, hl, h0, q⟩ := h
    refine ⟨_, (pss_one (ps_if (PW.pt (pw_or (pt_not (pt_val (pe_callB (cr_isiK K) (by rfl) T.isinstance_ (by decide +kernel) (pa_cons (pv 0) (pa_cons (pe_bltn (v := .ty "tuple") (by rfl) T.tuple_ (by decide +kernel) rfl) pa_nil))))) (pw_or (pt_cmpR op_gt (pe_callB (cr_lenK K) (by rfl) T.len_ (by decide +kernel) (pa_cons (pv 0) pa_nil)) (pe_globI (by rfl) T.rounds_) (nomark _)) (pw_or1 (pt_not (pt_val (pe_cal c_is_group (hr.mono (by decide)) (by rfl) (pa_cons (pv 0) (pa_cons (pe_callB (cr_lenK K) (by rfl) T.len_ (by decide +kernel) (pa_cons (pv 0) pa_nil)) pa_nil))))))))) (pss_one ps_never) pss_nil)), ?_⟩
    refine ⟨_, rfl, _, _, _, _, true, rfl, .ty _, ty_tup ht, kit_ty (by decide +kernel), true, rfl, iteF ?_⟩
    refine ⟨_, rfl, a, _, rfl, .inr ht, _, _, rfl, rfl, false, congrArg V.bl (decide_eq_false (by rw [List.length_map]; omega)), iteF ?_⟩
    exact ⟨_, rfl, _, rfl, a, _, rfl, .inr ht, _, ns, _, rfl, by rw [List.length_map], ⟨a, rfl, ht⟩, h0, by omega, fun H' s' => ⟨true, rfl, iteF (q H' s')⟩⟩
def spGoal : Sp := fun vs H Q _ => ∃ many : Bool, vs = [.str (gz many)] ∧ ∀ H', Same H H' → Q .non H'
theorem ok_require_goal (T : Gb mg) (D : Df K mg "require_goal" (topS 22)) : Cal P w K mg base "require_goal" ["goal"] 1 spGoal := by
  have sc : FnScope ["goal"] ["goal"] (defScope (topS 22)) := ⟨rfl, rfl, rfl, by decide +kernel, rfl, by decide +kernel, by decide +kernel⟩
  refine cal_of D sc (fun _ _ _ _ _ _ us hl => match us, hl with | [_], _ => rfl) (fun vs H Q E h => ?_) fun f cdv A outer s H vs Q E hr h => ?_
  · obtain ⟨many, rfl, _⟩ := h; rfl
  · obtain ⟨many, rfl, q⟩ := h
    refine ⟨_, (pss_one (ps_if (PW.pt (pw_or (pt_not (pt_val (pe_callB (cr_isiK K) (by rfl) T.isinstance_ (by decide +kernel) (pa_cons (pv 0) (pa_cons (pe_bltn (v := .ty "str") (by rfl) T.str_ (by decide +kernel) rfl) pa_nil))))) (pw_or1 (pt_cmpR (op_notInK K) (pv 0) (pe_tup (pa_cons (pe_globS (by rfl) T.many_) (pa_cons (pe_globS (by rfl) T.few_) pa_nil))) (by rfl))))) (pss_one ps_never) pss_nil)), ?_⟩
    refine ⟨_, rfl, _, _, _, _, true, rfl, .ty _, .base (.str _), kit_ty (by decide +kernel), true, rfl, iteF ?_⟩
    refine ⟨_, rfl, show 2 ≤ sizeLine by decide, fun p np => ?_⟩
    refine ⟨p, _, rfl, .inr (.of upd_same), rfl, rfl, false, ?_, iteF (q _ (same_new np))⟩
    show V.bl (!inV (.str (gz many)) [.str "many", .str "few"]) = V.bl false
    rw [gz_flat]
    rfl
def spSmall (K : PySem.W.Frag) : Sp := fun vs H Q _ => ∃ (v : V) (e : Int) (r : List Int), vs = [v] ∧ TupI K H v (e :: r) ∧ e ≤ 1000 ∧ Q .non H
theorem ok_require_small_round (T : Gb mg) (D : Df K mg "require_small_round" (topS 23)) : Cal P w K mg base "require_small_round" ["schedule"] 1 (spSmall K) := by
  have sc : FnScope ["schedule"] ["schedule"] (defScope (topS 23)) := ⟨rfl, rfl, rfl, by decide +kernel, rfl, by decide +kernel, by decide +kernel⟩
  refine cal_of D sc (fun _ _ _ _ _ _ us hl => match us, hl with | [_], _ => rfl) (fun vs H Q E h => ?_) fun f cdv A outer s H vs Q E hr h => ?_
  · obtain ⟨v, e, r, rfl, _⟩ := h; rfl
  · obtain ⟨v, e, r, rfl, ⟨a, rfl, ht⟩, he, q⟩ := h
    refine ⟨_, (pss_one (ps_if (pt_cmpR op_gt (pe_ix (ix_tupK K) (pv 0) pe_int (fun _ _ => rfl)) (pe_globI (by rfl) T.groups_) (nomark _)) (pss_one ps_never) pss_nil)), ?_⟩
    exact ⟨_, rfl, a, _, 0, .int e, rfl, rfl, ht, atI_nat (j := 0) rfl, e, 1000, rfl, rfl, false, congrArg V.bl (decide_eq_false (by omega)), iteF q⟩
/-- what a round's arguments are -/
def RArgs (K : PySem.W.Frag) (H : Hp) (sv cv gv : V) (s c : List Int) (gs : List (List Int)) : Prop :=
  TupI K H sv s ∧ TupI K H cv c ∧ Gs K H gv gs ∧ SOk s ∧ c.length ≤ 200 ∧ (∀ x ∈ c, 0 ≤ x) ∧ ∃ e r, s = e :: r ∧ Split e c gs
def spReqSplit (K : PySem.W.Frag) : Sp := fun vs H Q _ => ∃ (sv cv gv : V) (s c : List Int) (gs : List (List Int)), vs = [sv, cv, gv] ∧ RArgs K H sv cv gv s c gs ∧ ∀ H', Same H H' → Q .non H'
theorem RArgs.mono {K : PySem.W.Frag} {H H' : Hp} {sv cv gv : V} {s c : List Int} {gs : List (List Int)} (e : Same H H') (h : RArgs K H sv cv gv s c gs) : RArgs K H' sv cv gv s c gs := ⟨TupI.mono e h.1, TupI.mono e h.2.1, Gs.mono e h.2.2.1, h.2.2.2⟩
theorem getD_at {l : List Int} {i : Nat} (hi : i < l.length) : l.getD i 0 = l[i] := by rw [List.getD_eq_getElem?_getD, List.getElem?_eq_getElem hi]; rfl
theorem ok_require_split (T : Gb mg) (D : Df K mg "require_split" (topS 24)) (c_require_rounds : Cal P w K mg base "require_rounds" ["schedule"] 4 (spRounds K)) (c_require_counts : Cal P w K mg base "require_counts" ["counts"] 4 (spCounts K))
    (c_require_small_round : Cal P w K mg base "require_small_round" ["schedule"] 1 (spSmall K)) (c_is_group : Cal P w K mg base "is_group" ["value", "length"] 3 (spGroup K)) : Cal P w K mg base "require_split" ["schedule", "counts", "split"] 5 (spReqSplit K) := by
  have sc : FnScope ["schedule", "counts", "split", "index", "group"] ["schedule", "counts", "split"] (defScope (topS 24)) := ⟨rfl, rfl, rfl, by decide +kernel, rfl, by decide +kernel, by decide +kernel⟩
  refine cal_of D sc (fun _ _ _ _ _ _ us hl => match us, hl with | [_, _, _], _ => rfl) (fun vs H Q E h => ?_) fun f cdv A outer s H vs Q E hr h => ?_
  · obtain ⟨sv, cv, gv, s, c, gs, rfl, _⟩ := h; rfl
  · obtain ⟨sv, cv, gv, s, c, gs, rfl, ⟨hs, hc, hg, ok, cl, c0, e, r, rfl, S⟩, q⟩ := h
    refine ⟨_, (pss_cons (ps_expr (pe_cal c_require_rounds (hr.mono (by decide)) (by rfl) (pa_cons (pv 0) pa_nil))) (pss_cons (ps_expr (pe_cal c_require_counts (hr.mono (by decide)) (by rfl) (pa_cons (pv 1) pa_nil))) (pss_cons (ps_expr (pe_cal c_require_small_round (hr.mono (by decide)) (by rfl) (pa_cons (pv 0) pa_nil))) (pss_cons (ps_if (PW.pt (pw_or (pt_not (pt_val (pe_callB (cr_isiK K) (by rfl) T.isinstance_ (by decide +kernel) (pa_cons (pv 2) (pa_cons (pe_bltn (v := .ty "list") (by rfl) T.list_ (by decide +kernel) rfl) pa_nil))))) (pw_or1 (pt_cmpR op_ne (pe_callB (cr_lenK K) (by rfl) T.len_ (by decide +kernel) (pa_cons (pv 2) pa_nil)) (pe_ix (ix_tupK K) (pv 0) pe_int (fun _ _ => rfl)) (nomark _))))) (pss_one ps_never) pss_nil) (pss_cons (ps_for PassesOwn.never rfl (pi_enumK K (by rfl) T.enumerate_ (pa_cons (pv 2) pa_nil)) (pg_tupK K 2 rfl (pgs_cons (pg_name (i := 3) sc.nd rfl (Or.inl rfl)) (pgs_cons (pg_name (i := 4) sc.nd rfl (Or.inl rfl)) pgs_nil))) (pss_one (ps_if (pt_not (pt_val (pe_cal c_is_group (hr.mono (by decide)) (by rfl) (pa_cons (pv 4) (pa_cons (pe_callB (cr_lenK K) (by rfl) T.len_ (by decide +kernel) (pa_cons (pv 1) pa_nil)) pa_nil))))) (pss_one ps_never) pss_nil))) (pss_one (ps_if (pt_cmpR (op_neDK K hr.units) (pe_lc (own := [("index", 3)]) rfl sc.nd (pi_range1 (by rfl) T.range_ (pa_cons (pe_callB (cr_lenK K) (by rfl) T.len_ (by decide +kernel) (pa_cons (pv 1) pa_nil)) pa_nil)) (blkOk_by (by kernel_rfl)) (fun _ _ _ _ _ => (pg_name (i := 3) sc.nd rfl (Or.inr rfl))) (fun _ _ _ _ _ => pts_nil) (fun _ _ _ _ _ => (pe_callB (cr_sumK K rfl) (by rfl) T.sum_ (by decide +kernel) (pa_cons (pe_lc (own := [("group", 4)]) rfl sc.nd (pi_listK K (pv 2)) (blkOk_by (by kernel_rfl)) (fun _ _ _ _ _ => (pg_name (i := 4) sc.nd rfl (Or.inl rfl))) (fun _ _ _ _ _ => pts_nil) (fun _ _ _ _ _ => (pe_ix (ix_tupK K) (pv 4) (pv 3) (fun _ _ => rfl)))) pa_nil)))) (pe_callTy (cr_listK K) (by rfl) T.list_ (by decide +kernel) (pa_cons (pv 1) pa_nil)) (nomark _)) (pss_one ps_never) pss_nil))))))), ?_⟩
    -- the three checks of the arguments
    refine ⟨_, rfl, sv, _, rfl, hs, by simp, ok, fun H1 s1 => ?_⟩
    refine ⟨_, rfl, cv, c, rfl, TupI.mono s1 hc, cl, c0, fun H2 s2 => ?_⟩
    have s02 := s1.trans s2
    refine ⟨_, rfl, sv, e, r, rfl, TupI.mono s02 hs, ok.few e (by simp), ?_⟩
    -- isinstance(split, list), len(split) == schedule[0]
    obtain ⟨a, vs, rfl, hga, hp⟩ := hg
    obtain ⟨b, rfl, hsb⟩ := hs
    obtain ⟨d, rfl, hcd⟩ := hc
    have hga2 := s02.seq hga
    have len := hp.length
    have Sl := S.len
    refine ⟨_, rfl, _, _, _, _, true, rfl, .ty _, ty_lst hga2, kit_ty (by decide +kernel), true, rfl, iteF ?_⟩
    refine ⟨_, rfl, a, vs, rfl, .inl hga2, _, rfl, b, _, 0, .int e, rfl, rfl, s02.tup hsb, atI_nat (j := 0) rfl, rfl, false, ?_, iteF ?_⟩
    · rw [show decide (V.int (vs.length : Int) = V.int e) = true from decide_eq_true (by rw [len, Sl])]
      rfl
    -- the groups
    refine ⟨_, rfl, a, vs, rfl, hga2, for_it (walk_enum (K := K) (a := a) (xs := vs)) (fun i σ H' => (∃ u v : Option V, σ = [some (.ref b), some (.ref d), some (.ref a), u, v]) ∧ Same H H') ⟨⟨none, none, rfl⟩, s02⟩ (fun i σ H' _ h' => h'.2.seq hga) ?_ ?_⟩
    · rintro i x σ H' H'' hi ⟨⟨u, v, rfl⟩, sm⟩ ⟨TA, x1, y1, rfl, nT, rfl, e1, e2⟩
      cases e1
      obtain ⟨hi', hy⟩ := pat hp e2
      have s3 : Same H (upd H' TA (.tup [.int (i : Nat), y1])) := sm.trans (same_new nT)
      have hm := List.getElem_mem hi'
      have gl := S.gl _ hm
      refine ⟨TA, _, rfl, .of upd_same, rfl, _, _, rfl, _, _, rfl, rfl, _, rfl, _, rfl, d, _, rfl, .inr (s3.tup hcd), y1, gs[i], _, rfl, by rw [List.length_map, gl], TupI.mono s3 hy, S.nn _ hm, by omega, fun H4 s4 => ?_⟩
      exact ⟨true, rfl, iteF ⟨⟨_, _, rfl⟩, s3.trans s4⟩⟩
    · rintro σ H3 ⟨⟨u, v, rfl⟩, s3⟩
      -- the sums
      have hc3 := s3.tup hcd
      refine ⟨_, rfl, d, _, rfl, .inr hc3, c.length, by rw [List.length_map], by omega, by omega, fun Dl hD => ?_⟩
      have ecl : (c.length : Int).toNat = c.length := Int.toNat_natCast _
      refine lcG (walk_range (lo := 0) (n := (c.length : Int).toNat)) (fun i acc _ => acc = ((c.take i).map V.int)) hD (.pure (.refl H3)) (by omega) (fun _ _ _ => trivial) rfl ?_ ?_
      · rintro i x acc G H' H'' hi e' ha ⟨rfl, rfl⟩ Q' k
        rw [ecl] at hi
        refine ⟨rfl, ?_⟩
        have h0 := s3.trans e'.sameH
        refine ⟨_, rfl, a, rfl, ⟨_, h0.seq hga⟩, fun D2 hD2 => ?_⟩
        refine lcG (walk_list (K := K) (a := a) (xs := vs)) (fun j acc2 _ => acc2 = ((gs.take j).map fun g => g.getD i 0).map V.int) hD2 (.pure (.refl H'')) (by have := ok.few e (by simp); omega) (fun G2 H2 e2 => e2.sameH.seq (h0.seq hga)) rfl ?_ ?_
        · rintro j x acc2 G2 H2 H2' hj e2 ha2 ⟨rfl, hx⟩ Q2 k2
          obtain ⟨hj', t, rfl, hy⟩ := pat hp hx
          have hgi : i < gs[j].length := by rw [S.gl _ (List.getElem_mem hj')]; exact hi
          refine ⟨rfl, _, rfl, _, rfl, t, _, _, .int gs[j][i], rfl, rfl, (h0.trans e2.sameH).tup hy, ?_, k2 _ G2 _ (.refl e2.ok) ?_⟩
          · rw [show (0 : Int) + (i : Nat) = ((i : Nat) : Int) by omega]
            exact atI_nat (int_get hgi)
          · rw [ha2, take_map_succ _ hj', List.map_append, getD_at hgi]
            rfl
        · rintro acc2 G2 G2' H2 sg2 e2 eD2 ha2
          refine ⟨D2, gs.map fun g => g.getD i 0, rfl, .of ?_, ?_⟩
          · rw [take_map_all _ (by omega)] at ha2
            rw [← ha2]
            exact e2.ok.ex _ _ eD2
          · rw [S.sum i hi, getD_at hi]
            refine k _ G _ (Ext.same e'.ok e2.sameH) ?_
            rw [ha, take_map_succ _ hi]
      · rintro acc G G' H' sg e' eD ha
        rw [take_map_all _ (by omega)] at ha
        have s4 := s3.trans e'.sameH
        have hD4 := e'.ok.ex _ _ eD
        refine ⟨_, rfl, d, _, rfl, .inr (s4.tup hcd), fun l nl => ?_⟩
        refine ⟨_, _, dp_ints (ns := c) (.of ?_), dp_ints (ns := c) (.of upd_same), shaped_ints c, shaped_ints c, false, ?_, iteF (q _ (s4.trans (same_new nl)))⟩
        · rw [upd_ne (ne_of_none hD4 nl), ← ha]
          exact hD4
        · rw [eqv_of_shaped (shaped_ints c)]
          rfl
end
end Lw
namespace Lw
open PySem L2 PySem.Spec PyProof.Rows
/-! ### products, weights: the plain side -/
def prods (s : List Int) : List Int := (List.range (s.length + 1)).map fun i => prodI (s.take i)
theorem prodI_snoc : ∀ (s : List Int) (x : Int), prodI (s ++ [x]) = prodI s * x
  | [], x => by show x * 1 = 1 * x; omega
  | e :: r, x => by show e * prodI (r ++ [x]) = e * prodI r * x; rw [prodI_snoc r x, Int.mul_assoc]
theorem prodI_take {s : List Int} {i : Nat} (hi : i < s.length) : prodI (s.take (i + 1)) = prodI (s.take i) * s[i] := by
  rw [List.take_add_one, List.getElem?_eq_getElem hi]
  exact prodI_snoc _ _
theorem prodI_append : ∀ (a b : List Int), prodI (a ++ b) = prodI a * prodI b
  | [], b => by show prodI b = 1 * prodI b; omega
  | e :: r, b => by show e * prodI (r ++ b) = e * prodI r * prodI b; rw [prodI_append r b, Int.mul_assoc]
theorem prodI_split (s : List Int) (i : Nat) : prodI s = prodI (s.take i) * prodI (s.drop i) := by rw [← prodI_append, List.take_append_drop]
theorem SOk.take_pos {s : List Int} (ok : SOk s) (i : Nat) : 0 < prodI (s.take i) := prodI_pos fun x hx => ok.pos x (List.mem_of_mem_take hx)
theorem SOk.drop_pos {s : List Int} (ok : SOk s) (i : Nat) : 0 < prodI (s.drop i) := prodI_pos fun x hx => ok.pos x (List.mem_of_mem_drop hx)
theorem SOk.take_lt {s : List Int} (ok : SOk s) (i : Nat) : prodI (s.take i) < 2 ^ 64 := by
  have h1 := ok.take_pos i
  have h2 := ok.drop_pos i
  have h3 : prodI (s.take i) * 1 ≤ prodI (s.take i) * prodI (s.drop i) := Int.mul_le_mul_of_nonneg_left (by omega) (by omega)
  rw [← prodI_split] at h3
  have := ok.pr
  omega
theorem SOk.quot {s : List Int} (ok : SOk s) (i : Nat) : prodI s / prodI (s.take i) = prodI (s.drop i) := by
  have h1 := ok.take_pos i
  rw [prodI_split s i, Int.mul_ediv_cancel_left _ (by omega)]
theorem prods_snoc (s : List Int) : (prods s).map V.int = ((List.range s.length).map fun i => prodI (s.take i)).map V.int ++ [.int (prodI s)] := by
  unfold prods
  rw [List.range_succ, List.map_append, List.map_append]
  show _ ++ [V.int (prodI (s.take s.length))] = _
  rw [List.take_length]
theorem prods_len (s : List Int) : (prods s).length = s.length + 1 := by unfold prods; rw [List.length_map, List.length_range]
theorem prods_last {s : List Int} : atI ((prods s).map V.int) (-1) = some (.int (prodI s)) := by
  rw [prods_snoc]
  exact atI_last _ _
theorem prods_at {s : List Int} {i : Nat} {y : V} (h : (((prods s).map V.int).drop 1)[i]? = some y) : i < s.length ∧ y = .int (prodI (s.take (i + 1))) := by
  rw [List.getElem?_drop, Nat.add_comm 1 i] at h
  obtain ⟨hi, rfl⟩ := int_at h
  rw [prods_len] at hi
  refine ⟨by omega, ?_⟩
  exact congrArg V.int (by simp [prods])
def swAt (s c : List Int) (j : Nat) : Int := c.getD j 0 * prodI (s.drop (j + 1))
theorem sw_sum : ∀ (s c : List Int), ((List.range (min c.length s.length)).map (swAt s c)).sum = sw s c
  | [], c => by simp [sw]
  | _ :: _, [] => by simp [sw]
  | e :: r, x :: c => by
    have hl : min (x :: c).length (e :: r).length = min c.length r.length + 1 := by rw [List.length_cons, List.length_cons]; omega
    rw [hl, List.range_succ_eq_map, List.map_cons, List.map_map, List.sum_cons]
    show x * prodI r + ((List.range (min c.length r.length)).map (swAt r c)).sum = x * prodI r + sw r c
    rw [sw_sum r c]
theorem cut_from {xs : List V} (k : Nat) : cutV xs (some (k : Int)) none = xs.drop k := by
  unfold cutV
  rw [HT.sIx_nat, HT.sIx_none]
  by_cases h : k ≤ xs.length
  · rw [Nat.min_eq_left h, List.take_of_length_le (by rw [List.length_drop]; omega)]
  · rw [Nat.min_eq_right (by omega), List.drop_of_length_le (Nat.le_refl _), List.drop_of_length_le (by omega), List.take_nil]
theorem cut_to {xs : List V} (k : Nat) : cutV xs none (some (k : Int)) = xs.take k := by
  unfold cutV
  rw [HT.sIx_nat, HT.sIx_none, Nat.sub_zero, List.drop_zero]
  by_cases h : k ≤ xs.length
  · rw [Nat.min_eq_left h]
  · have hk : xs.length ≤ k := by omega
    rw [Nat.min_eq_right hk, List.take_of_length_le (Nat.le_refl _), List.take_of_length_le hk]
section
variable {mg : Str → Option Value} {base : Heap} {K : PySem.W.Frag} {P : Program} {w : World}
def spProducts (K : PySem.W.Frag) : Sp := fun vs H Q _ => ∃ (G : Hp) (v : V) (ns : List Int), Same G H ∧ vs = [v] ∧ TupI K G v ns ∧ SOk ns ∧ ∀ v' G' H', Ext none G H G' H' → LstI K G' v' (prods ns) → Q v' H'
theorem ok_products (D : Df K mg "products" (topS 25)) : Cal P w K mg base "products" ["schedule"] 1 (spProducts K) := by
  have sc : FnScope ["schedule", "found", "entry"] ["schedule"] (defScope (topS 25)) := ⟨rfl, rfl, rfl, by decide +kernel, rfl, by decide +kernel, by decide +kernel⟩
  refine cal_of D sc (fun _ _ _ _ _ _ us hl => match us, hl with | [_], _ => rfl) (fun vs H Q E h => ?_) fun f cdv A outer s H vs Q E hr h => ?_
  · obtain ⟨G, v, ns, _, rfl, _⟩ := h; rfl
  · obtain ⟨G, v, ns, sg, rfl, ⟨a, rfl, ht⟩, ok, q⟩ := h
    refine ⟨_, (pss_cons (ps_set (i := 1) sc.nd rfl (Or.inl rfl) (pe_lst (pa_cons pe_int pa_nil))) (pss_cons (ps_for PassesOwn.never rfl (pi_tupK K (pv 0)) (pg_name (i := 2) sc.nd rfl (Or.inl rfl)) (pss_one (ps_expr (pe_appK K (pv 1) (pe_op op_mul (pe_ix (ix_listK K) (pv 1) (pe_un un_neg pe_int) (fun _ _ => rfl)) (pv 2)))))) (pss_one (ps_ret (pv 1))))), ?_⟩
    refine ⟨show 1 ≤ sizeLine by decide, fun l hl => ?_⟩
    have gl := sg.free hl
    have e0 : Ext none G H G (upd H l (.lst [.int 1])) := .tmp (.pure sg) hl
    refine ⟨_, rfl, a, rfl, ⟨_, e0.ok.ex.tup ht⟩, for_it (walk_tup (K := K) (a := a) (xs := ns.map V.int)) (fun i σ H' => (∃ u : Option V, σ = [some (.ref a), some (.ref l), u]) ∧ Ext none G H G H' ∧ H' l = some (.lst (((List.range (i + 1)).map fun i => prodI (ns.take i)).map V.int)))
      ⟨⟨none, rfl⟩, e0, upd_same⟩ (fun i σ H' _ h' => h'.2.1.ok.ex.tup ht) ?_ ?_⟩
    · rintro i x σ H' H'' hi ⟨⟨u, rfl⟩, e, el⟩ ⟨rfl, hx⟩
      obtain ⟨hi', rfl⟩ := int_at hx
      have elast : ((List.range (i + 1)).map fun i => prodI (ns.take i)).map V.int = ((List.range i).map fun i => prodI (ns.take i)).map V.int ++ [.int (prodI (ns.take i))] := by
        rw [List.range_succ, List.map_append, List.map_append]
        rfl
      refine ⟨_, rfl, .inl ⟨rfl, _, .of el⟩, ?_⟩
      refine ⟨_, rfl, 1, rfl, l, _, -1, .int (prodI (ns.take i)), rfl, rfl, .of el, by rw [elast]; exact atI_last _ _, _, rfl, _, _, rfl, rfl, .inr ?_, ?_⟩
      · have := ok.two _ (List.getElem_mem hi')
        have := ok.few _ (List.getElem_mem hi')
        omega
      · refine ⟨l, _, _, rfl, rfl, el, ?_, ⟨_, rfl⟩, e.mut hl (fun z => nomatch z) gl, ?_⟩
        · rw [List.length_map, List.length_map, List.length_range]
          exact Nat.lt_of_le_of_lt (by have := ok.len; omega : i + 1 ≤ 1000) (by decide)
        · rw [upd_same]
          show some (HO.lst (_ ++ [V.int (prodI (ns.take i) * ns[i])])) = _
          rw [← prodI_take hi', List.range_succ (n := i + 1), List.map_append, List.map_append]
          rfl
    · rintro σ H' ⟨⟨u, rfl⟩, e, el⟩
      rw [List.length_map] at el
      exact ⟨_, rfl, q _ _ _ (e.frz hl (fun z => nomatch z) gl el) ⟨l, rfl, .of upd_same⟩⟩
def spSw (K : PySem.W.Frag) : Sp := fun vs H Q _ => ∃ (sv cv : V) (s c : List Int), vs = [sv, cv] ∧ TupI K H sv s ∧ TupI K H cv c ∧ SOk s ∧ c.length ≤ 1000 ∧ ∀ H', Same H H' → Q (.int (sw s c)) H'
theorem ok_scaled_weight (T : Gb mg) (D : Df K mg "scaled_weight" (topS 26)) (c_products : Cal P w K mg base "products" ["schedule"] 1 (spProducts K)) : Cal P w K mg base "scaled_weight" ["schedule", "counts"] 2 (spSw K) := by
  have sc : FnScope ["schedule", "counts", "found", "count", "product"] ["schedule", "counts"] (defScope (topS 26)) := ⟨rfl, rfl, rfl, by decide +kernel, rfl, by decide +kernel, by decide +kernel⟩
  refine cal_of D sc (fun _ _ _ _ _ _ us hl => match us, hl with | [_, _], _ => rfl) (fun vs H Q E h => ?_) fun f cdv A outer s H vs Q E hr h => ?_
  · obtain ⟨sv, cv, s, c, rfl, _⟩ := h; rfl
  · obtain ⟨sv, cv, s, c, rfl, hs, ⟨d, rfl, hcd⟩, ok, cl, q⟩ := h
    refine ⟨_, (pss_cons (ps_set (i := 2) sc.nd rfl (Or.inr rfl) (pe_cal c_products (hr.mono (by decide)) (by rfl) (pa_cons (pv 0) pa_nil))) (pss_one (ps_ret (pe_callB (cr_sumK K rfl) (by rfl) T.sum_ (by decide +kernel) (pa_cons (pe_lc (own := [("count", 3), ("product", 4)]) rfl sc.nd (pi_zipMK K (by rfl) T.zip_ (pa_cons (pv 1) (pa_cons (pe_slice (sl_listK K) (pv 2) (po_some pe_int) po_none) pa_nil))) (blkOk_by (by kernel_rfl)) (fun _ _ _ _ _ => (pg_tupK K 2 rfl (pgs_cons (pg_name (i := 3) sc.nd rfl (Or.inl rfl)) (pgs_cons (pg_name (i := 4) sc.nd rfl (Or.inl rfl)) pgs_nil)))) (fun _ _ _ _ _ => pts_nil) (fun _ _ _ _ _ => (pe_op op_mul (pv 3) (pe_op op_fdivW (pe_ix (ix_listK K) (pv 2) (pe_un un_neg pe_int) (fun _ _ => rfl)) (pv 4))))) pa_nil))))), ?_⟩
    refine ⟨_, rfl, H, sv, s, .refl H, rfl, hs, ok, fun v' G1 H1 e1 ⟨l, ev, hl⟩ => ?_⟩
    subst ev
    have hl1 := e1.ok.ex.seq hl
    refine ⟨_, rfl, _, rfl, 1, rfl, l, _, rfl, hl1, fun p np => ?_⟩
    have sp := same_new (o := .lst (cutV ((prods s).map V.int) (some 1) none)) np
    have s01 := e1.sameH.trans sp
    have ec : cutV ((prods s).map V.int) (some 1) none = ((prods s).map V.int).drop 1 := cut_from 1
    refine ⟨d, p, _, _, rfl, s01.tup hcd, .of upd_same, fun Dl hD => ?_⟩
    have hn : min c.length s.length = min (c.map V.int).length (cutV ((prods s).map V.int) (some 1) none).length := by
      rw [ec, List.length_map, List.length_drop, List.length_map, prods_len, Nat.add_sub_cancel]
    refine lcG (walk_zipM (K := K) (a := d) (b := p) (xs := c.map V.int) (ys := cutV ((prods s).map V.int) (some 1) none) hn) (fun i acc _ => acc = ((List.range i).map (swAt s c)).map V.int) hD (.pure (.refl _)) (by omega)
      (fun G H' e => ⟨e.sameH.tup (s01.tup hcd), .of (e.sameH _ _ upd_same)⟩) rfl ?_ ?_
    · rintro i x acc G H' H'' hi e ha ⟨TA, x1, y1, rfl, nT, rfl, h1, h2⟩ Q' k
      obtain ⟨hi', rfl⟩ := int_at h1
      have h2' : (((prods s).map V.int).drop 1)[i]? = some y1 := by rw [← ec]; exact h2
      obtain ⟨hi2, rfl⟩ := prods_at h2'
      have s2 : Same H1 (upd H' TA (.tup [.int c[i], .int (prodI (s.take (i + 1)))])) := (sp.trans e.sameH).trans (same_new nT)
      refine ⟨TA, _, rfl, .of upd_same, rfl, _, _, rfl, _, _, rfl, rfl, rfl, ?_⟩
      refine ⟨_, rfl, _, rfl, 1, rfl, l, _, -1, _, rfl, rfl, s2.seq hl1, prods_last, _, rfl, _, _, rfl, rfl, divW (ok.take_pos _) (ok.take_lt _), _, _, rfl, rfl, .inr ?_, ?_⟩
      · have h1 := (SOk.drop (i + 1) ok).pr
        have h2 := ok.drop_pos (i + 1)
        rw [ok.quot]
        omega
      · refine k _ G _ ((Ext.refl e.ok).trans (.same e.ok (same_new nT))) ?_
        rw [ok.quot, ha, List.range_succ, List.map_append, List.map_append]
        unfold swAt
        rw [List.map_singleton, List.map_singleton, getD_at hi']
    · rintro acc G G' H' sg e eD ha
      refine ⟨Dl, (List.range (min c.length s.length)).map (swAt s c), rfl, .of (by rw [← ha]; exact e.ok.ex _ _ eD), ?_⟩
      rw [sw_sum]
      exact q H' (s01.trans e.sameH)
def spRounded : Sp := fun vs H Q _ => ∃ (many : Bool) (n d : Int), vs = [.str (gz many), .int n, .int d] ∧ 0 < d ∧ d < 2 ^ 64 ∧ Q (.int (if many then n / d else cdiv n d)) H
theorem ok_rounded (T : Gb mg) (D : Df K mg "rounded" (topS 27)) (c_rounded_up : Cal P w K mg base "rounded_up" ["numerator", "denominator"] 1 spRup) : Cal P w K mg base "rounded" ["goal", "numerator", "denominator"] 2 spRounded := by
  have sc : FnScope ["goal", "numerator", "denominator"] ["goal", "numerator", "denominator"] (defScope (topS 27)) := ⟨rfl, rfl, rfl, by decide +kernel, rfl, by decide +kernel, by decide +kernel⟩
  refine cal_of D sc (fun _ _ _ _ _ _ us hl => match us, hl with | [_, _, _], _ => rfl) (fun vs H Q E h => ?_) fun f cdv A outer s H vs Q E hr h => ?_
  · obtain ⟨many, n, d, rfl, _⟩ := h; rfl
  · obtain ⟨many, n, d, rfl, h0, h1, q⟩ := h
    refine ⟨_, (pss_one (ps_ret (pe_ifExp (pt_cmpR op_eq (pv 0) (pe_globS (by rfl) T.many_) (nomark _)) (pe_op op_fdivW (pv 1) (pv 2)) (pe_cal c_rounded_up (hr.mono (by decide)) (by rfl) (pa_cons (pv 1) (pa_cons (pv 2) pa_nil)))))), ?_⟩
    refine ⟨_, rfl, rfl, many, congrArg V.bl (gz_many many), ?_⟩
    cases many
    · exact iteF ⟨_, rfl, _, rfl, n, d, rfl, h0, h1, q⟩
    · exact iteT ⟨_, rfl, _, rfl, n, d, rfl, rfl, divW h0 h1, q⟩
def spGuar (K : PySem.W.Frag) : Sp := fun vs H Q _ => ∃ (sv cv : V) (s c : List Int) (many : Bool), vs = [sv, cv, .str (gz many)] ∧ TupI K H sv s ∧ TupI K H cv c ∧ SOk s ∧ c.length ≤ 200 ∧ (∀ x ∈ c, 0 ≤ x) ∧ ∀ H', Same H H' → Q (.int (gua many s c)) H'
theorem ok_guaranteed (T : Gb mg) (D : Df K mg "guaranteed" (topS 28)) (c_require_schedule : Cal P w K mg base "require_schedule" ["schedule"] 3 (spSched K)) (c_require_counts : Cal P w K mg base "require_counts" ["counts"] 4 (spCounts K))
    (c_require_goal : Cal P w K mg base "require_goal" ["goal"] 1 spGoal) (c_rounded : Cal P w K mg base "rounded" ["goal", "numerator", "denominator"] 2 spRounded) (c_scaled_weight : Cal P w K mg base "scaled_weight" ["schedule", "counts"] 2 (spSw K))
    (c_products : Cal P w K mg base "products" ["schedule"] 1 (spProducts K)) : Cal P w K mg base "guaranteed" ["schedule", "counts", "goal"] 5 (spGuar K) := by
  have sc : FnScope ["schedule", "counts", "goal"] ["schedule", "counts", "goal"] (defScope (topS 28)) := ⟨rfl, rfl, rfl, by decide +kernel, rfl, by decide +kernel, by decide +kernel⟩
  refine cal_of D sc (fun _ _ _ _ _ _ us hl => match us, hl with | [_, _, _], _ => rfl) (fun vs H Q E h => ?_) fun f cdv A outer s H vs Q E hr h => ?_
  · obtain ⟨sv, cv, s, c, many, rfl, _⟩ := h; rfl
  · obtain ⟨sv, cv, s, c, many, rfl, hs, hc, ok, cl, c0, q⟩ := h
    refine ⟨_, (pss_cons (ps_expr (pe_cal c_require_schedule (hr.mono (by decide)) (by rfl) (pa_cons (pv 0) pa_nil))) (pss_cons (ps_expr (pe_cal c_require_counts (hr.mono (by decide)) (by rfl) (pa_cons (pv 1) pa_nil))) (pss_cons (ps_expr (pe_cal c_require_goal (hr.mono (by decide)) (by rfl) (pa_cons (pv 2) pa_nil))) (pss_one (ps_ret (pe_cal c_rounded (hr.mono (by decide)) (by rfl) (pa_cons (pv 2) (pa_cons (pe_cal c_scaled_weight (hr.mono (by decide)) (by rfl) (pa_cons (pv 0) (pa_cons (pv 1) pa_nil))) (pa_cons (pe_ix (ix_listK K) (pe_cal c_products (hr.mono (by decide)) (by rfl) (pa_cons (pv 0) pa_nil)) (pe_un un_neg pe_int) (fun _ _ => rfl)) pa_nil))))))))), ?_⟩
    refine ⟨_, rfl, sv, s, rfl, .inr hs, ok.len, ok.two, fun H1 s1 => ?_⟩
    refine ⟨_, rfl, cv, c, rfl, TupI.mono s1 hc, cl, c0, fun H2 s2 => ?_⟩
    refine ⟨_, rfl, many, rfl, fun H3 s3 => ?_⟩
    have s03 := (s1.trans s2).trans s3
    refine ⟨_, rfl, _, rfl, _, rfl, sv, cv, s, c, rfl, TupI.mono s03 hs, TupI.mono s03 hc, ok, by omega, fun H4 s4 => ?_⟩
    have s04 := s03.trans s4
    refine ⟨_, rfl, H4, sv, s, .refl _, rfl, TupI.mono s04 hs, ok, fun v' G5 H5 e5 ⟨l, ev, hl⟩ => ?_⟩
    subst ev
    refine ⟨1, rfl, l, _, -1, _, rfl, rfl, e5.ok.ex.seq hl, prods_last, many, sw s c, prodI s, rfl, prodI_pos ok.pos, ok.pr, ?_⟩
    have hq := q H5 (s04.trans e5.sameH)
    cases many
    · exact hq
    · exact hq
def spClimbed (K : PySem.W.Frag) : Sp := fun vs H Q _ => ∃ (G : Hp) (v : V) (g : List Int), Same G H ∧ vs = [v] ∧ TupI K G v g ∧ g ≠ [] ∧ g.length ≤ 1000 ∧ ∀ v' G' H', Ext none G H G' H' → AC K G' v' (g.headD 0, g.tail ++ [0]) → Q v' H'
theorem map_tail_drop (x : Int) (r : List Int) : cutV ((x :: r).map V.int) (some 1) none = r.map V.int := cut_from 1
theorem ok_climbed (T : Gb mg) (D : Df K mg "climbed" (topS 29)) : Cal P w K mg base "climbed" ["group"] 1 (spClimbed K) := by
  have sc : FnScope ["group"] ["group"] (defScope (topS 29)) := ⟨rfl, rfl, rfl, by decide +kernel, rfl, by decide +kernel, by decide +kernel⟩
  refine cal_of D sc (fun _ _ _ _ _ _ us hl => match us, hl with | [_], _ => rfl) (fun vs H Q E h => ?_) fun f cdv A outer s H vs Q E hr h => ?_
  · obtain ⟨G, v, g, _, rfl, _⟩ := h; rfl
  · obtain ⟨G, v, g, sg, rfl, ⟨a, rfl, ht⟩, hne, hl, q⟩ := h
    obtain ⟨x, r, rfl⟩ : ∃ x r, g = x :: r := by
      cases g with
      | nil => exact absurd rfl hne
      | cons y t => exact ⟨y, t, rfl⟩
    refine ⟨_, (pss_one (ps_ret (pe_ifExp (pt_cmpR op_gt (pe_callB (cr_lenK K) (by rfl) T.len_ (by decide +kernel) (pa_cons (pv 0) pa_nil)) pe_int (nomark _)) (pe_tup (pa_cons (pe_ix (ix_tupK K) (pv 0) pe_int (fun _ _ => rfl)) (pa_cons (pe_op (op_catAK K) (pe_slice (sl_tupK K) (pv 0) (po_some pe_int) po_none) (pe_tup (pa_cons pe_int pa_nil))) pa_nil))) (pe_tup (pa_cons pe_int (pa_cons (pe_tup pa_nil) pa_nil)))))), ?_⟩
    have okG : Ok none G H := .pure sg
    refine ⟨_, rfl, a, _, rfl, .inr (sg.tup ht), _, _, rfl, rfl, true, congrArg V.bl (decide_eq_true (by rw [List.length_map, List.length_cons]; omega)), iteT ?_⟩
    refine ⟨_, rfl, a, _, 0, .int x, rfl, rfl, sg.tup ht, atI_nat (j := 0) rfl, ?_⟩
    refine ⟨_, rfl, 1, rfl, a, _, rfl, sg.tup ht, fun z => ?_, fun _ p np => ?_⟩
    · have := z.1
      rw [show HT.sIx ((x :: r).map V.int).length 0 (some 1) = min 1 ((x :: r).map V.int).length from HT.sIx_nat _ 0 1, List.length_map, List.length_cons] at this
      omega
    · have e1 : Ext none G H (upd G p (.tup (cutV ((x :: r).map V.int) (some 1) none))) (upd H p (.tup (cutV ((x :: r).map V.int) (some 1) none))) := .new okG np
      rw [map_tail_drop] at e1 ⊢
      refine ⟨show 1 ≤ sizeLine by decide, fun u nu => ?_⟩
      have e2 := e1.trans (.new (o := .tup [.int 0]) e1.ok nu)
      have npu : p ≠ u := fun z => by rw [z, upd_same] at nu; cases nu
      have hp2 : (upd (upd G p (.tup (r.map V.int))) u (.tup [.int 0])) p = some (.tup (r.map V.int)) := by rw [upd_ne npu, upd_same]
      refine ⟨p, u, r.map V.int, [.int 0], rfl, rfl, .of (e2.ok.ex _ _ hp2), .of upd_same, ?_, (fun z => ?_), (fun _ z => nomatch z), (fun _ _ t nt => ?_)⟩
      · rw [List.length_map, List.length_singleton]
        simp only [List.length_cons] at hl
        exact Nat.le_trans (by omega : r.length + 1 ≤ 1000) (by decide)
      · have hr0 : r = [] := by simpa using z
        subst hr0
        refine ⟨show 2 ≤ sizeLine by decide, fun y ny => ?_⟩
        exact q _ _ _ (e2.trans (.new e2.ok ny)) ⟨y, .ref u, rfl, .of upd_same, u, rfl, .of (by rw [upd_ne (ne_of_none (e2.ok.ex _ _ upd_same) ny), upd_same]; rfl)⟩
      · have e3 := e2.trans (.new (o := .tup (r.map V.int ++ [.int 0])) e2.ok nt)
        refine ⟨show 2 ≤ sizeLine by decide, fun y ny => ?_⟩
        refine q _ _ _ (e3.trans (.new e3.ok ny)) ⟨y, .ref t, rfl, .of upd_same, t, rfl, .of ?_⟩
        rw [upd_ne (ne_of_none (e3.ok.ex _ _ upd_same) ny), upd_same]
        show some (HO.tup (r.map V.int ++ [V.int 0])) = some (HO.tup ((r ++ [0]).map V.int))
        rw [List.map_append]
        rfl
def spGw (K : PySem.W.Frag) : Sp := fun vs H Q _ => ∃ (G : Hp) (sv gv : V) (s : List Int) (gs : List (List Int)) (n : Nat), Same G H ∧ vs = [sv, gv] ∧ TupI K G sv s ∧ Gs K G gv gs ∧ SOk s ∧ gs.length ≤ 1000 ∧ (∀ g ∈ gs, g.length = n) ∧ n ≤ 200 ∧
  ∀ v' G' H', Ext none G H G' H' → LstI K G' v' (gs.map (sw s)) → Q v' H'
theorem ok_group_weights (T : Gb mg) (D : Df K mg "group_weights" (topS 31)) (c_scaled_weight : Cal P w K mg base "scaled_weight" ["schedule", "counts"] 2 (spSw K)) : Cal P w K mg base "group_weights" ["schedule", "split"] 3 (spGw K) := by
  have sc : FnScope ["schedule", "split", "group"] ["schedule", "split"] (defScope (topS 31)) := ⟨rfl, rfl, rfl, by decide +kernel, rfl, by decide +kernel, by decide +kernel⟩
  refine cal_of D sc (fun _ _ _ _ _ _ us hl => match us, hl with | [_, _], _ => rfl) (fun vs H Q E h => ?_) fun f cdv A outer s H vs Q E hr h => ?_
  · obtain ⟨G, sv, gv, s, gs, n, _, rfl, _⟩ := h; rfl
  · obtain ⟨G, sv, gv, s, gs, n, sg, rfl, hs, ⟨a, xs, rfl, ha, hp⟩, ok, gl, hn, n2, q⟩ := h
    refine ⟨_, (pss_one (ps_ret (pe_lc (own := [("group", 2)]) rfl sc.nd (pi_listK K (pv 1)) (blkOk_by (by kernel_rfl)) (fun _ _ _ _ _ => (pg_name (i := 2) sc.nd rfl (Or.inl rfl))) (fun _ _ _ _ _ => pts_nil) (fun _ _ _ _ _ => (pe_cal c_scaled_weight (hr.mono (by decide)) (by rfl) (pa_cons (pv 0) (pa_cons (pv 2) pa_nil))))))), ?_⟩
    have len := hp.length
    refine ⟨_, rfl, a, rfl, ⟨_, sg.seq ha⟩, fun Dl hD => ?_⟩
    refine lcG (walk_list (K := K) (a := a) (xs := xs)) (fun i acc _ => acc = ((gs.take i).map (sw s)).map V.int) hD (.pure sg) (by omega) (fun G' H' e => e.sameH.seq (sg.seq ha)) rfl ?_ ?_
    · rintro i x acc G1 H' H'' hi e hacc ⟨rfl, hx⟩ Q' k
      obtain ⟨hi', hg⟩ := pat hp hx
      have s1 := sg.trans e.sameH
      refine ⟨rfl, _, rfl, _, rfl, sv, x, s, gs[i], rfl, TupI.mono s1 hs, TupI.mono s1 hg, ok, by rw [hn _ (List.getElem_mem hi')]; omega, fun H4 s4 => ?_⟩
      refine k _ G1 _ (.same e.ok s4) ?_
      rw [hacc, take_map_succ _ hi', List.map_append]
      rfl
    · rintro acc G1 G2 H' sg' e eD hacc
      rw [take_map_all _ (by omega)] at hacc
      exact q _ _ _ e ⟨Dl, rfl, .of (by rw [← hacc]; exact eD)⟩
def spGv (K : PySem.W.Frag) : Sp := fun vs H Q _ => ∃ (G : Hp) (sv cv gv : V) (s c : List Int) (gs : List (List Int)), Same G H ∧ vs = [sv, cv, gv] ∧ RArgs K G sv cv gv s c gs ∧ ∀ v' G' H', Ext none G H G' H' → Ls P2 K G' v' (gs.map (gval s)) → Q v' H'
theorem ok_group_values (T : Gb mg) (D : Df K mg "group_values" (topS 32)) (c_require_split : Cal P w K mg base "require_split" ["schedule", "counts", "split"] 5 (spReqSplit K)) (c_products : Cal P w K mg base "products" ["schedule"] 1 (spProducts K))
    (c_rounded_up : Cal P w K mg base "rounded_up" ["numerator", "denominator"] 1 spRup) (c_group_weights : Cal P w K mg base "group_weights" ["schedule", "split"] 3 (spGw K)) : Cal P w K mg base "group_values" ["schedule", "counts", "split"] 6 (spGv K) := by
  have sc : FnScope ["schedule", "counts", "split", "rest", "part"] ["schedule", "counts", "split"] (defScope (topS 32)) := ⟨rfl, rfl, rfl, by decide +kernel, rfl, by decide +kernel, by decide +kernel⟩
  refine cal_of D sc (fun _ _ _ _ _ _ us hl => match us, hl with | [_, _, _], _ => rfl) (fun vs H Q E h => ?_) fun f cdv A outer s H vs Q E hr h => ?_
  · obtain ⟨G, sv, cv, gv, s, c, gs, _, rfl, _⟩ := h; rfl
  · obtain ⟨G, sv, cv, gv, s, c, gs, sg, rfl, hR, q⟩ := h
    refine ⟨_, (pss_cons (ps_expr (pe_cal c_require_split (hr.mono (by decide)) (by rfl) (pa_cons (pv 0) (pa_cons (pv 1) (pa_cons (pv 2) pa_nil))))) (pss_cons (ps_set (i := 3) sc.nd rfl (Or.inr rfl) (pe_op op_fdivW (pe_ix (ix_listK K) (pe_cal c_products (hr.mono (by decide)) (by rfl) (pa_cons (pv 0) pa_nil)) (pe_un un_neg pe_int) (fun _ _ => rfl)) (pe_ix (ix_tupK K) (pv 0) pe_int (fun _ _ => rfl)))) (pss_one (ps_ret (pe_lc (own := [("part", 4)]) rfl sc.nd (pi_listK K (pe_cal c_group_weights (hr.mono (by decide)) (by rfl) (pa_cons (pv 0) (pa_cons (pv 2) pa_nil)))) (blkOk_by (by kernel_rfl)) (fun _ _ _ _ _ => (pg_name (i := 4) sc.nd rfl (Or.inl rfl))) (fun _ _ _ _ _ => pts_nil) (fun _ _ _ _ _ => (pe_tup (pa_cons (pe_op op_fdivW (pv 4) (pv 3)) (pa_cons (pe_cal c_rounded_up (hr.mono (by decide)) (by rfl) (pa_cons (pv 4) (pa_cons (pv 3) pa_nil))) pa_nil))))))))), ?_⟩
    obtain ⟨hs, hc, hg, ok, cl, c0, e, r, rfl, S⟩ := id hR
    refine ⟨_, rfl, _, rfl, _, rfl, sv, cv, gv, e :: r, c, gs, rfl, RArgs.mono sg hR, fun H1 s1 => ?_⟩
    have e1 : Ext none G H G H1 := .same (.pure sg) s1
    -- rest
    refine ⟨_, rfl, G, sv, _, e1.ok.ex, rfl, hs, ok, fun v2 G2 H2 e2 ⟨l, ev, hl⟩ => ?_⟩
    subst ev
    have e02 := e1.trans e2
    obtain ⟨b, rfl, hb⟩ := id hs
    have pr := prodI_pos ok.tail.pos
    have he := ok.pos e (by simp)
    have hrest : prodI (e :: r) / e = prodI r := by
      show e * prodI r / e = prodI r
      rw [Int.mul_ediv_cancel_left _ (by omega)]
    refine ⟨1, rfl, l, _, -1, _, rfl, rfl, e2.ok.ex.seq hl, prods_last, _, rfl, b, _, 0, .int e, rfl, rfl, (e02.g.trans e02.ok.ex).tup hb, atI_nat (j := 0) rfl, _, _, rfl, rfl, divW he (by have := ok.few e (by simp); omega), ?_⟩
    rw [show (fun i j : Int => V.int (i / j)) (prodI (e :: r)) e = V.int (prodI r) from congrArg V.int hrest]
    -- the values
    have Sl := S.len
    have gle : gs.length ≤ 1000 := by have := ok.few e (by simp); omega
    refine ⟨_, rfl, _, rfl, G2, _, gv, _, gs, c.length, e02.ok.ex, rfl, TupI.mono e02.g hs, Gs.mono e02.g hg, ok, gle, S.gl, cl, fun v3 G3 H3 e3 ⟨l3, ev, hl3⟩ => ?_⟩
    subst ev
    have e03 := e02.trans e3
    refine ⟨l3, rfl, ⟨_, e3.ok.ex.seq hl3⟩, fun Dl hD => ?_⟩
    refine lcG (walk_list (K := K) (a := l3) (xs := (gs.map (sw (e :: r))).map V.int)) (fun i acc G' => Paired (P2 K G') acc ((gs.take i).map (gval (e :: r)))) hD e3.ok (by rw [List.length_map, List.length_map]; omega) (fun G' H' e' => (e'.g.trans e'.ok.ex).seq hl3) .nil ?_ ?_
    · rintro i x acc G4 H' H'' hi e4 hacc ⟨rfl, hx⟩ Q' k
      obtain ⟨hi', rfl⟩ := int_at hx
      rw [List.length_map] at hi'
      refine ⟨rfl, _, rfl, _, rfl, _, _, rfl, rfl, divW pr ok.tail.pr, _, rfl, _, rfl, _, _, rfl, pr, ok.tail.pr, show 2 ≤ sizeLine by decide, fun p np => ?_⟩
      refine k _ _ _ (.new e4.ok np) ?_
      rw [take_map_succ _ hi']
      refine papp (Paired.mapP hacc fun _ _ h => P2.mono (same_new (e4.ok.ex.free np)) h) ⟨p, rfl, .of ?_⟩
      rw [upd_same, List.getElem_map]
      rfl
    · rintro acc G4 G5 H' sg' e4 eD hacc
      rw [take_map_all _ (by rw [List.length_map, List.length_map]; omega)] at hacc
      exact q _ _ _ (e03.trans e4) ⟨Dl, acc, rfl, .of eD, Paired.mapP hacc fun _ _ h => P2.mono sg' h⟩
end
end Lw
namespace Lw
open PySem L2 PySem.Spec PyProof.Rows
/-! ### games by places -/
def posAt (c : List Int) (ms : List Move) : Nat → List Int
  | 0 => c
  | i + 1 => nx (ms.getD i ([], 0))
theorem game_drop : ∀ {s c : List Int} {ms : List Move} (i : Nat), Game s c ms → i ≤ ms.length → Game (s.drop i) (posAt c ms i) (ms.drop i)
  | _, _, _, 0, G, _ => G
  | [], _, [], i + 1, _, h => by simp at h
  | [], _, _ :: _, _ + 1, G, _ => G.elim
  | _ :: _, _, [], _ + 1, G, _ => G.elim
  | e :: r, c, m :: ms, i + 1, G, h => by
    have ih := game_drop i G.2.2 (by simpa using h)
    have e1 : posAt (nx m) ms i = posAt c (m :: ms) (i + 1) := by cases i <;> rfl
    rw [e1] at ih
    exact ih
theorem game_at {s c : List Int} {ms : List Move} {i : Nat} (G : Game s c ms) (hi : i < ms.length) : ∃ hs : i < s.length, Split s[i] (posAt c ms i) ms[i].1 ∧ (ms[i].2 : Int) < s[i] ∧ s.drop i = s[i] :: s.drop (i + 1) := by
  have hs : i < s.length := by rw [← game_len G]; exact hi
  have g := game_drop i G (by omega)
  rw [List.drop_eq_getElem_cons hi, List.drop_eq_getElem_cons hs] at g
  exact ⟨hs, g.1, g.2.1, List.drop_eq_getElem_cons hs⟩
theorem move_getD {ms : List Move} {i : Nat} (hi : i < ms.length) : ms.getD i ([], 0) = ms[i] := by rw [List.getD_eq_getElem?_getD, List.getElem?_eq_getElem hi]; rfl
theorem pos_len {s c : List Int} {ms : List Move} (G : Game s c ms) (hc : 0 < c.length) : ∀ i, i ≤ ms.length → (posAt c ms i).length = c.length
  | 0, _ => rfl
  | i + 1, h => by
    have ih := pos_len G hc i (by omega)
    obtain ⟨hs, S, hk, _⟩ := game_at G (i := i) (by omega)
    show (nx (ms.getD i ([], 0))).length = _
    rw [move_getD (by omega), nx_len S hk (by omega), ih]
theorem pos_nn {s c : List Int} {ms : List Move} (G : Game s c ms) (h0 : ∀ x ∈ c, 0 ≤ x) : ∀ i, i ≤ ms.length → ∀ x ∈ posAt c ms i, 0 ≤ x
  | 0, _ => h0
  | i + 1, h => fun x hx => by
    obtain ⟨hs, S, hk, _⟩ := game_at G (i := i) (by omega)
    have hx' : x ∈ nx (ms.getD i ([], 0)) := hx
    rw [move_getD (by omega)] at hx'
    have Sl := S.len
    rcases List.mem_append.mp hx' with z | z
    · exact S.nn _ (getD_mem (h := ms[i].2) (by omega)) x (List.mem_of_mem_tail z)
    · rw [List.mem_singleton.mp z]; exact Int.le_refl _
theorem lossL_len (many : Bool) : ∀ (s c : List Int) (ms : List Move), (lossL many s c ms).length = ms.length
  | _, _, [] => by unfold lossL; rfl
  | s, c, m :: ms => by
    show (lossL many s.tail (nx m) ms).length + 1 = ms.length + 1
    rw [lossL_len many s.tail (nx m) ms]
theorem lossL_at (many : Bool) : ∀ (s c : List Int) (ms : List Move) (i : Nat) (hi : i < ms.length), (lossL many s c ms)[i]? = some (loss many (s.drop i) (posAt c ms i) ms[i].1 ms[i].2)
  | _, _, [], _, h => by simp at h
  | s, c, m :: ms, 0, _ => rfl
  | s, c, m :: ms, i + 1, h => by
    have hi : i < ms.length := by simpa using h
    have ih := lossL_at many s.tail (nx m) ms i hi
    have e1 : posAt (nx m) ms i = posAt c (m :: ms) (i + 1) := by cases i <;> rfl
    have e2 : s.tail.drop i = s.drop (i + 1) := by rw [List.drop_tail]
    rw [e1, e2] at ih
    exact ih
def lossP (many : Bool) (b : Int) (ps : List (Int × Int)) (k : Nat) : Int × Int :=
  if many then (b - lmin (ps.map (·.1)), (ps.getD k (0, 0)).1 - lmin (ps.map (·.1))) else (lmax (ps.map (·.2)) - b, lmax (ps.map (·.2)) - (ps.getD k (0, 0)).2)
theorem loss_eq (many : Bool) {s c : List Int} {gs : List (List Int)} {k : Nat} (hk : k < gs.length) : lossP many (gua many s c) (gs.map (gval s)) k = loss many s c gs k := by
  have e : (gs.map (gval s)).getD k (0, 0) = gval s (gs.getD k []) := by
    rw [List.getD_eq_getElem?_getD, List.getElem?_map, List.getD_eq_getElem?_getD, List.getElem?_eq_getElem hk]
    rfl
  unfold lossP loss
  rw [e, List.map_map, List.map_map]
  cases many <;> rfl
def mist : Nat → List (Int × Int) → PyData
  | _, [] => .none
  | i, p :: r => if p = (0, 0) then mist (i + 1) r else .tuple [.int (i : Int), .str (if p.1 > 0 then "splitter" else "chooser")]
theorem mist_drop : ∀ {ls : List (Int × Int)} {i : Nat} (j : Nat), (∀ n, n < j → ls[n]? = some (0, 0)) → j ≤ ls.length → mist i ls = mist (i + j) (ls.drop j)
  | _, _, 0, _, _ => rfl
  | [], _, j + 1, _, h => by simp at h
  | p :: r, i, j + 1, h0, h => by
    have hp : p = (0, 0) := Option.some.inj (h0 0 (by omega))
    have ih := mist_drop (ls := r) (i := i + 1) j (fun n hn => h0 (n + 1) (by omega)) (by simpa using h)
    show (if p = (0, 0) then mist (i + 1) r else _) = _
    rw [if_pos hp, ih, Nat.add_assoc, Nat.add_comm 1 j]
    rfl
theorem shaped_is (i : Int) {z : Str} (h : SeqAt.shaped (.tuple [.int 0, .str z]) = true) : SeqAt.shaped (.tuple [.int i, .str z]) = true := by
  unfold SeqAt.shaped at h ⊢
  simp only [PyData.canLay0, PyData.canLayAll0, PyData.depth, PyData.depthAll] at h ⊢
  exact h
theorem depth_mist : ∀ (i : Nat) (ls : List (Int × Int)), SeqAt.shaped (mist i ls) = true
  | _, [] => rfl
  | i, p :: r => by
    show SeqAt.shaped (if p = (0, 0) then mist (i + 1) r else _) = true
    by_cases h : p = (0, 0)
    · rw [if_pos h]; exact depth_mist (i + 1) r
    · rw [if_neg h]
      by_cases h2 : p.1 > 0
      · rw [if_pos h2]; exact shaped_is _ (by decide +kernel)
      · rw [if_neg h2]; exact shaped_is _ (by decide +kernel)
/-! ### steps on tuples, frozen -/
section
variable {M : Option Addr} {K : PySem.W.Frag} {G H : Hp} {a b : Addr} {xs ys : List V} {Q : VK}
theorem slA {lo hi : Option Int} (ok : Ok M G H) (ht : SqT K G a xs) (k : ∀ q G' H', Ext M G H G' H' → SqT K G' q (cutV xs lo hi) → Q (.ref q) H') : rSlA K (.ref a) lo hi H Q := by
  refine ⟨a, xs, rfl, ok.ex.tup ht, fun z => ?_, fun _ p np => k p _ _ (.new ok np) (.of upd_same)⟩
  refine k a G H (.refl ok) ?_
  have e : cutV xs lo hi = xs := by
    unfold cutV
    rw [z.1, z.2, Nat.sub_zero, List.drop_zero, List.take_length]
  rw [e]
  exact ht
theorem ctA (ok : Ok M G H) (ha : SqT K G a xs) (hb : SqT K G b ys) (hl : xs.length + ys.length ≤ 1000) (k : ∀ q G' H', Ext M G H G' H' → SqT K G' q (xs ++ ys) → Q (.ref q) H') : rCatA K (.ref a) (.ref b) H Q := by
  refine ⟨a, b, xs, ys, rfl, rfl, ok.ex.tup ha, ok.ex.tup hb, Nat.le_trans hl (by decide), fun z => ?_, fun _ z => ?_, fun _ _ p np => k p _ _ (.new ok np) (.of upd_same)⟩
  · exact k b G H (.refl ok) (by rw [z]; exact hb)
  · exact k a G H (.refl ok) (by rw [z, List.append_nil]; exact ha)
end
section
variable {mg : Str → Option Value} {base : Heap} {K : PySem.W.Frag} {P : Program} {w : World}
def spIsSplit (K : PySem.W.Frag) : Sp := fun vs H Q _ => ∃ (e : Int) (cv gv : V) (c : List Int) (gs : List (List Int)), vs = [.int e, cv, gv] ∧ TupI K H cv c ∧ Gs K H gv gs ∧ Split e c gs ∧ c.length ≤ 200 ∧ e ≤ 1000 ∧ ∀ H', Same H H' → Q (.bl true) H'
theorem ok_is_split (T : Gb mg) (D : Df K mg "is_split" (topS 34)) (c_is_group : Cal P w K mg base "is_group" ["value", "length"] 3 (spGroup K)) : Cal P w K mg base "is_split" ["groups", "counts", "value"] 4 (spIsSplit K) := by
  have sc : FnScope ["groups", "counts", "value", "group", "index"] ["groups", "counts", "value"] (defScope (topS 34)) := ⟨rfl, rfl, rfl, by decide +kernel, rfl, by decide +kernel, by decide +kernel⟩
  refine cal_of D sc (fun _ _ _ _ _ _ us hl => match us, hl with | [_, _, _], _ => rfl) (fun vs H Q E h => ?_) fun f cdv A outer s H vs Q E hr h => ?_
  · obtain ⟨e, cv, gv, c, gs, rfl, _⟩ := h; rfl
  · obtain ⟨e, cv, gv, c, gs, rfl, ⟨d, rfl, hcd⟩, ⟨a, vs, rfl, hga, hp⟩, S, cl, he, q⟩ := h
    refine ⟨_, (pss_cons (ps_if (PW.pt (pw_or (pt_not (pt_val (pe_callB (cr_isiK K) (by rfl) T.isinstance_ (by decide +kernel) (pa_cons (pv 2) (pa_cons (pe_bltn (v := .ty "list") (by rfl) T.list_ (by decide +kernel) rfl) pa_nil))))) (pw_or1 (pt_cmpR op_ne (pe_callB (cr_lenK K) (by rfl) T.len_ (by decide +kernel) (pa_cons (pv 2) pa_nil)) (pv 0) (nomark _))))) (pss_one (ps_ret pe_bl)) pss_nil) (pss_cons (ps_if (pt_not (pt_val (pe_callB (cr_allK K rfl) (by rfl) T.all_ (by decide +kernel) (pa_cons (pe_lc (own := [("group", 3)]) rfl sc.nd (pi_listK K (pv 2)) (blkOk_by (by kernel_rfl)) (fun _ _ _ _ _ => (pg_name (i := 3) sc.nd rfl (Or.inl rfl))) (fun _ _ _ _ _ => pts_nil) (fun _ _ _ _ _ => (pe_cal c_is_group (hr.mono (by decide)) (by rfl) (pa_cons (pv 3) (pa_cons (pe_callB (cr_lenK K) (by rfl) T.len_ (by decide +kernel) (pa_cons (pv 1) pa_nil)) pa_nil))))) pa_nil)))) (pss_one (ps_ret pe_bl)) pss_nil) (pss_one (ps_ret (pe_cmpR (op_eqDK K hr.units) (pe_lc (own := [("index", 4)]) rfl sc.nd (pi_range1 (by rfl) T.range_ (pa_cons (pe_callB (cr_lenK K) (by rfl) T.len_ (by decide +kernel) (pa_cons (pv 1) pa_nil)) pa_nil)) (blkOk_by (by kernel_rfl)) (fun _ _ _ _ _ => (pg_name (i := 4) sc.nd rfl (Or.inr rfl))) (fun _ _ _ _ _ => pts_nil) (fun _ _ _ _ _ => (pe_callB (cr_sumK K rfl) (by rfl) T.sum_ (by decide +kernel) (pa_cons (pe_lc (own := [("group", 3)]) rfl sc.nd (pi_listK K (pv 2)) (blkOk_by (by kernel_rfl)) (fun _ _ _ _ _ => (pg_name (i := 3) sc.nd rfl (Or.inl rfl))) (fun _ _ _ _ _ => pts_nil) (fun _ _ _ _ _ => (pe_ix (ix_tupK K) (pv 3) (pv 4) (fun _ _ => rfl)))) pa_nil)))) (pe_callTy (cr_listK K) (by rfl) T.list_ (by decide +kernel) (pa_cons (pv 1) pa_nil)) (nomark _)))))), ?_⟩
    have len := hp.length
    have Sl := S.len
    refine ⟨_, rfl, _, _, _, _, true, rfl, .ty _, ty_lst hga, kit_ty (by decide +kernel), true, rfl, iteF ?_⟩
    refine ⟨_, rfl, a, vs, rfl, .inl hga, _, rfl, rfl, false, ?_, iteF ?_⟩
    · rw [show decide (V.int (vs.length : Int) = V.int e) = true from decide_eq_true (by rw [len, Sl])]
      rfl
    refine ⟨_, rfl, a, rfl, ⟨_, hga⟩, fun Dl hD => ?_⟩
    refine lcG (walk_list (K := K) (a := a) (xs := vs)) (fun i acc _ => acc = List.replicate i (.bl true)) hD (.pure (.refl H)) (by omega) (fun G H' e => e.sameH.seq hga) rfl ?_ ?_
    · rintro i x acc G H' H'' hi e' ha ⟨rfl, hx⟩ Q' k
      obtain ⟨hi', hg⟩ := pat hp hx
      have hm := List.getElem_mem hi'
      have gl := S.gl _ hm
      have s1 := e'.sameH
      exact ⟨rfl, _, rfl, _, rfl, d, _, rfl, .inr (s1.tup hcd), x, gs[i], _, rfl, by rw [List.length_map, gl], TupI.mono s1 hg, S.nn _ hm, by omega, fun H4 s4 => k _ G _ (.same e'.ok s4) (by rw [ha, List.replicate_succ'])⟩
    · rintro acc G G' H1 sg e1 eD ha
      have s01 := e1.sameH
      refine ⟨Dl, List.replicate vs.length true, rfl, .of ?_, true, ?_, iteF ?_⟩
      · rw [List.map_replicate, ← ha]
        exact e1.ok.ex _ _ eD
      · rw [all_true]
      -- the sums
      have hc3 := s01.tup hcd
      refine ⟨_, rfl, d, _, rfl, .inr hc3, c.length, by rw [List.length_map], by omega, by omega, fun Dl hD => ?_⟩
      have ecl : (c.length : Int).toNat = c.length := Int.toNat_natCast _
      refine lcG (walk_range (lo := 0) (n := (c.length : Int).toNat)) (fun i acc _ => acc = ((c.take i).map V.int)) hD (.pure (.refl H1)) (by omega) (fun _ _ _ => trivial) rfl ?_ ?_
      · rintro i x acc G H' H'' hi e' ha ⟨rfl, rfl⟩ Q' k
        rw [ecl] at hi
        refine ⟨rfl, ?_⟩
        have h0 := s01.trans e'.sameH
        refine ⟨_, rfl, a, rfl, ⟨_, h0.seq hga⟩, fun D2 hD2 => ?_⟩
        refine lcG (walk_list (K := K) (a := a) (xs := vs)) (fun j acc2 _ => acc2 = ((gs.take j).map fun g => g.getD i 0).map V.int) hD2 (.pure (.refl H'')) (by omega) (fun G2 H2 e2 => e2.sameH.seq (h0.seq hga)) rfl ?_ ?_
        · rintro j x acc2 G2 H2 H2' hj e2 ha2 ⟨rfl, hx⟩ Q2 k2
          obtain ⟨hj', t, rfl, hy⟩ := pat hp hx
          have hgi : i < gs[j].length := by rw [S.gl _ (List.getElem_mem hj')]; exact hi
          refine ⟨rfl, _, rfl, _, rfl, t, _, _, .int gs[j][i], rfl, rfl, (h0.trans e2.sameH).tup hy, ?_, k2 _ G2 _ (.refl e2.ok) ?_⟩
          · rw [show (0 : Int) + (i : Nat) = ((i : Nat) : Int) by omega]
            exact atI_nat (int_get hgi)
          · rw [ha2, take_map_succ _ hj', List.map_append, getD_at hgi]
            rfl
        · rintro acc2 G2 G2' H2 sg2 e2 eD2 ha2
          refine ⟨D2, gs.map fun g => g.getD i 0, rfl, .of ?_, ?_⟩
          · rw [take_map_all _ (by omega)] at ha2
            rw [← ha2]
            exact e2.ok.ex _ _ eD2
          · rw [S.sum i hi, getD_at hi]
            refine k _ G _ (Ext.same e'.ok e2.sameH) ?_
            rw [ha, take_map_succ _ hi]
      · rintro acc G G' H' sg e' eD ha
        rw [take_map_all _ (by omega)] at ha
        have s4 := s01.trans e'.sameH
        have hD4 := e'.ok.ex _ _ eD
        refine ⟨_, rfl, d, _, rfl, .inr (s4.tup hcd), fun l nl => ?_⟩
        refine ⟨_, _, dp_ints (ns := c) (.of ?_), dp_ints (ns := c) (.of upd_same), shaped_ints c, shaped_ints c, ?_⟩
        · rw [upd_ne (ne_of_none hD4 nl), ← ha]
          exact hD4
        · rw [eqv_of_shaped (shaped_ints c)]
          exact q _ (s4.trans (same_new nl))
def spIsMove (K : PySem.W.Frag) : Sp := fun vs H Q _ => ∃ (e : Int) (cv mv : V) (c : List Int) (m : Move), vs = [.int e, cv, mv] ∧ TupI K H cv c ∧ Mv K H mv m ∧ Split e c m.1 ∧ (m.2 : Int) < e ∧ c.length ≤ 200 ∧ e ≤ 1000 ∧ ∀ H', Same H H' → Q (.bl true) H'
theorem ok_is_move (T : Gb mg) (D : Df K mg "is_move" (topS 35)) (c_is_split : Cal P w K mg base "is_split" ["groups", "counts", "value"] 4 (spIsSplit K)) (c_is_between : Cal P w K mg base "is_between" ["value", "low", "high"] 2 spBetween) : Cal P w K mg base "is_move" ["groups", "counts", "value"] 5 (spIsMove K) := by
  have sc : FnScope ["groups", "counts", "value"] ["groups", "counts", "value"] (defScope (topS 35)) := ⟨rfl, rfl, rfl, by decide +kernel, rfl, by decide +kernel, by decide +kernel⟩
  refine cal_of D sc (fun _ _ _ _ _ _ us hl => match us, hl with | [_, _, _], _ => rfl) (fun vs H Q E h => ?_) fun f cdv A outer s H vs Q E hr h => ?_
  · obtain ⟨e, cv, mv, c, m, rfl, _⟩ := h; rfl
  · obtain ⟨e, cv, mv, c, m, rfl, hc, ⟨a, gv, rfl, ha, hg⟩, S, hk, cl, he, q⟩ := h
    refine ⟨_, (pss_cons (ps_if (PW.pt (pw_or (pt_not (pt_val (pe_callB (cr_isiK K) (by rfl) T.isinstance_ (by decide +kernel) (pa_cons (pv 2) (pa_cons (pe_bltn (v := .ty "tuple") (by rfl) T.tuple_ (by decide +kernel) rfl) pa_nil))))) (pw_or1 (pt_cmpR op_ne (pe_callB (cr_lenK K) (by rfl) T.len_ (by decide +kernel) (pa_cons (pv 2) pa_nil)) pe_int (nomark _))))) (pss_one (ps_ret pe_bl)) pss_nil) (pss_one (ps_ret (pe_and (pe_cal c_is_split (hr.mono (by decide)) (by rfl) (pa_cons (pv 0) (pa_cons (pv 1) (pa_cons (pe_ix (ix_tupK K) (pv 2) pe_int (fun _ _ => rfl)) pa_nil)))) (pe_one (pe_cal c_is_between (hr.mono (by decide)) (by rfl) (pa_cons (pe_ix (ix_tupK K) (pv 2) pe_int (fun _ _ => rfl)) (pa_cons pe_int (pa_cons (pe_op op_sub (pv 0) pe_int) pa_nil))))))))), ?_⟩
    refine ⟨_, rfl, _, _, _, _, true, rfl, .ty _, ty_tup ha, kit_ty (by decide +kernel), true, rfl, iteF ?_⟩
    refine ⟨_, rfl, a, _, rfl, .inr ha, rfl, false, rfl, iteF ?_⟩
    refine ⟨_, rfl, _, rfl, _, rfl, a, _, 0, gv, rfl, rfl, ha, atI_nat (j := 0) rfl, e, cv, gv, c, m.1, rfl, hc, hg, S, cl, he, fun H1 s1 => ⟨true, rfl, iteT ?_⟩⟩
    exact ⟨_, rfl, a, _, 1, .int m.2, rfl, rfl, s1.tup ha, atI_nat (j := 1) rfl, _, rfl, e, 1, rfl, rfl, m.2, 0, e - 1, rfl, by omega, by omega, q H1 s1⟩
def spReqMoves (K : PySem.W.Frag) : Sp := fun vs H Q _ => ∃ (sv cv mv : V) (s c : List Int) (ms : List Move), vs = [sv, cv, mv] ∧ LstI K H sv s ∧ TupI K H cv c ∧ Ls Mv K H mv ms ∧ SOk s ∧ Game s c ms ∧ 0 < c.length ∧ c.length ≤ 200 ∧ ∀ H', Same H H' → Q .non H'
theorem any_false : ∀ n : Nat, (List.replicate n false).any id = false
  | 0 => rfl
  | n + 1 => by rw [List.replicate_succ, List.any_cons, any_false n]; rfl
theorem ok_require_moves (T : Gb mg) (D : Df K mg "require_moves" (topS 36)) (c_is_move : Cal P w K mg base "is_move" ["groups", "counts", "value"] 5 (spIsMove K)) (c_climbed : Cal P w K mg base "climbed" ["group"] 1 (spClimbed K)) : Cal P w K mg base "require_moves" ["schedule", "counts", "moves"] 6 (spReqMoves K) := by
  have sc : FnScope ["schedule", "counts", "moves", "index", "move", "groups"] ["schedule", "counts", "moves"] (defScope (topS 36)) := ⟨rfl, rfl, rfl, by decide +kernel, rfl, by decide +kernel, by decide +kernel⟩
  refine cal_of D sc (fun _ _ _ _ _ _ us hl => match us, hl with | [_, _, _], _ => rfl) (fun vs H Q E h => ?_) fun f cdv A outer s H vs Q E hr h => ?_
  · obtain ⟨sv, cv, mv, s, c, ms, rfl, _⟩ := h; rfl
  · obtain ⟨sv, cv, mv, s, c, ms, rfl, ⟨b, rfl, hb⟩, hc, ⟨a, vs, rfl, ha, hp⟩, ok, G, c1, cl, q⟩ := h
    refine ⟨_, (pss_cons (ps_if (PW.pt (pw_or (pt_not (pt_val (pe_callB (cr_isiTK K) (by rfl) T.isinstance_ (by decide +kernel) (pa_cons (pv 2) (pa_cons (pe_tup (pa_cons (pe_bltn (v := .ty "list") (by rfl) T.list_ (by decide +kernel) rfl) (pa_cons (pe_bltn (v := .ty "tuple") (by rfl) T.tuple_ (by decide +kernel) rfl) pa_nil))) pa_nil))))) (pw_or1 (pt_cmpR op_gt (pe_callB (cr_lenK K) (by rfl) T.len_ (by decide +kernel) (pa_cons (pv 2) pa_nil)) (pe_callB (cr_lenK K) (by rfl) T.len_ (by decide +kernel) (pa_cons (pv 0) pa_nil)) (nomark _))))) (pss_one ps_never) pss_nil) (pss_cons (ps_if (pt_val (pe_callB (cr_anyK K rfl) (by rfl) T.any_ (by decide +kernel) (pa_cons (pe_lc (own := [("groups", 5)]) rfl sc.nd (pi_listK K (pe_slice (sl_listK K) (pv 0) po_none (po_some (pe_callB (cr_lenK K) (by rfl) T.len_ (by decide +kernel) (pa_cons (pv 2) pa_nil))))) (blkOk_by (by kernel_rfl)) (fun _ _ _ _ _ => (pg_name (i := 5) sc.nd rfl (Or.inl rfl))) (fun _ _ _ _ _ => pts_nil) (fun _ _ _ _ _ => (pe_cmpR op_gt (pv 5) (pe_globI (by rfl) T.groups_) (nomark _)))) pa_nil))) (pss_one ps_never) pss_nil) (pss_one (ps_for PassesOwn.never rfl (pi_enumK K (by rfl) T.enumerate_ (pa_cons (pv 2) pa_nil)) (pg_tupK K 2 rfl (pgs_cons (pg_name (i := 3) sc.nd rfl (Or.inl rfl)) (pgs_cons (pg_name (i := 4) sc.nd rfl (Or.inl rfl)) pgs_nil))) (pss_cons (ps_if (pt_not (pt_val (pe_cal c_is_move (hr.mono (by decide)) (by rfl) (pa_cons (pe_ix (ix_listK K) (pv 0) (pv 3) (fun _ _ => rfl)) (pa_cons (pv 1) (pa_cons (pv 4) pa_nil)))))) (pss_one ps_never) pss_nil) (pss_one (ps_set (i := 1) sc.nd rfl (Or.inl rfl) (pe_ix (ix_tupK K) (pe_cal c_climbed (hr.mono (by decide)) (by rfl) (pa_cons (pe_ix (ix_listK K) (pe_ix (ix_tupK K) (pv 4) pe_int (fun _ _ => rfl)) (pe_ix (ix_tupK K) (pv 4) pe_int (fun _ _ => rfl)) (fun _ _ => rfl)) pa_nil)) pe_int (fun _ _ => rfl))))))))), ?_⟩
    have len := hp.length
    have gl := game_len G
    have sl := ok.len
    -- isinstance(moves, (list, tuple)), len(moves) > len(schedule)
    refine ⟨_, rfl, show 2 ≤ sizeLine by decide, fun p np => ?_⟩
    have s1 : Same H (upd H p (.tup [.ty "list", .ty "tuple"])) := same_new np
    refine ⟨_, p, _, _, _, true, rfl, upd_same, .cons (.ty _) (.cons (.ty _) .nil), ty_lst (s1.seq ha), kitAny_cons (b := true) (kit_ty (by decide +kernel)) (fun z => nomatch z) (fun _ => rfl), true, rfl, iteF ?_⟩
    refine ⟨_, rfl, a, vs, rfl, .inl (s1.seq ha), _, rfl, b, _, rfl, .inl (s1.seq hb), _, _, rfl, rfl, false, congrArg V.bl (decide_eq_false (by rw [List.length_map]; omega)), iteF ?_⟩
    -- any([groups > MAX_GROUPS ..])
    refine ⟨_, rfl, _, rfl, a, vs, rfl, .inl (s1.seq ha), vs.length, rfl, b, _, rfl, s1.seq hb, fun t nt => ?_⟩
    rw [cut_to, List.take_of_length_le (by rw [List.length_map]; omega)]
    have s2 := s1.trans (same_new (o := .lst (s.map V.int)) nt)
    refine ⟨t, rfl, ⟨_, .of upd_same⟩, fun Dl hD => ?_⟩
    refine lcG (walk_list (K := K) (a := t) (xs := s.map V.int)) (fun i acc _ => acc = List.replicate i (.bl false)) hD (.pure (.refl _)) (by rw [List.length_map]; omega) (fun G H' e => .of (e.sameH _ _ upd_same)) rfl ?_ ?_
    · rintro i x acc G H' H'' hi e' hacc ⟨rfl, hx⟩ Q' k
      obtain ⟨hi', rfl⟩ := int_at hx
      refine ⟨rfl, _, rfl, _, _, rfl, rfl, k _ G _ (.refl e'.ok) ?_⟩
      show acc ++ [V.bl (decide ((1000 : Int) < s[i]))] = _
      rw [decide_eq_false (by have := ok.few _ (List.getElem_mem hi'); omega), hacc, List.replicate_succ']
    · rintro acc G1 G2 H1 sg e1 eD hacc
      have s3 := s2.trans e1.sameH
      refine ⟨Dl, List.replicate (s.map V.int).length false, rfl, .of ?_, false, ?_, iteF ?_⟩
      · rw [List.map_replicate, ← hacc]
        exact e1.ok.ex _ _ eD
      · rw [any_false]
      -- the moves
      refine ⟨_, rfl, a, vs, rfl, s3.seq ha, for_it (walk_enum (K := K) (a := a) (xs := vs)) (fun i σ H' => (∃ (cv' : V) (u v : Option V), σ = [some (.ref b), some cv', some (.ref a), u, v, none] ∧ TupI K H' cv' (posAt c ms i)) ∧ Same H H')
        ⟨⟨cv, none, none, rfl, TupI.mono s3 hc⟩, s3⟩ (fun i σ H' _ h' => h'.2.seq ha) ?_ (fun σ H' h' => q H' h'.2)⟩
      rintro i x σ H' H'' hi ⟨⟨cv', u, v, rfl, hcv⟩, sm⟩ ⟨TA, x1, y1, rfl, nT, rfl, e1, e2⟩
      cases e1
      obtain ⟨hi', hm⟩ := pat hp e2
      have s4' : Same H' (upd H' TA (.tup [.int (i : Nat), y1])) := same_new nT
      have s4 := sm.trans s4'
      obtain ⟨hs, S, hk, _⟩ := game_at G hi'
      have pl := pos_len G c1 i (by omega)
      refine ⟨TA, _, rfl, .of upd_same, rfl, _, _, rfl, _, _, rfl, rfl, ?_⟩
      refine ⟨_, rfl, _, rfl, b, _, i, _, rfl, rfl, s4.seq hb, atI_nat (int_get hs), _, rfl, _, rfl, s[i], cv', y1, posAt c ms i, ms[i], rfl, TupI.mono s4' hcv, Mv.mono s4 hm, S, hk, by omega, ok.few _ (List.getElem_mem hs), fun H5 s5 => ⟨true, rfl, iteF ?_⟩⟩
      -- counts = climbed(move[0][move[1]])[1]
      have s05 := s4.trans s5
      obtain ⟨t2, gv, rfl, ht2, d, gvs, rfl, hd, hgs⟩ := hm
      have Sl := S.len
      have hk' : ms[i].2 < ms[i].1.length := by omega
      obtain ⟨x5, ex5, hx5⟩ := pget hgs hk'
      have hgk := S.gl _ (getD_mem hk')
      have egk : ms[i].1.getD ms[i].2 [] = ms[i].1[ms[i].2] := by rw [List.getD_eq_getElem?_getD, List.getElem?_eq_getElem hk']; rfl
      refine ⟨_, rfl, t2, _, 0, .ref d, rfl, rfl, s05.tup ht2, atI_nat (j := 0) rfl, _, rfl, t2, _, 1, .int ms[i].2, rfl, rfl, s05.tup ht2, atI_nat (j := 1) rfl, d, gvs, ms[i].2, x5, rfl, rfl, s05.seq hd, atI_nat ex5, ?_⟩
      refine ⟨H5, x5, ms[i].1[ms[i].2], .refl _, rfl, TupI.mono s05 hx5, ?_, by rw [← egk, hgk]; omega, fun v' G6 H6 e6 hv => ?_⟩
      · intro z
        rw [← egk] at z
        rw [z] at hgk
        simp at hgk
        omega
      · obtain ⟨t6, c6, rfl, ht6, hc6⟩ := hv
        refine ⟨t6, _, 1, c6, rfl, rfl, e6.ok.ex.tup ht6, atI_nat (j := 1) rfl, ⟨c6, _, _, rfl, ?_⟩, s05.trans e6.sameH⟩
        show TupI K H6 c6 (nx (ms.getD i ([], 0)))
        rw [move_getD hi']
        unfold nx
        rw [egk]
        exact TupI.mono e6.ok.ex hc6
def spLossesOf (K : PySem.W.Frag) : Sp := fun vs H Q _ => ∃ (G : Hp) (many : Bool) (b : Int) (pv : V) (ps : List (Int × Int)) (k : Nat), Same G H ∧ vs = [.str (gz many), .int b, pv, .int k] ∧ Ls P2 K G pv ps ∧ k < ps.length ∧ ps.length ≤ 1000 ∧
  ∀ v G' H', Ext none G H G' H' → P2 K G' v (lossP many b ps k) → Q v H'
theorem pair_getD {ps : List (Int × Int)} {k : Nat} (hk : k < ps.length) : ps.getD k (0, 0) = ps[k] := by rw [List.getD_eq_getElem?_getD, List.getElem?_eq_getElem hk]; rfl
theorem ok_losses_of (T : Gb mg) (D : Df K mg "losses_of" (topS 37)) : Cal P w K mg base "losses_of" ["goal", "before", "values", "chosen"] 1 (spLossesOf K) := by
  have sc : FnScope ["goal", "before", "values", "chosen", "worst", "low", "high"] ["goal", "before", "values", "chosen"] (defScope (topS 37)) := ⟨rfl, rfl, rfl, by decide +kernel, rfl, by decide +kernel, by decide +kernel⟩
  refine cal_of D sc (fun _ _ _ _ _ _ us hl => match us, hl with | [_, _, _, _], _ => rfl) (fun vs H Q E h => ?_) fun f cdv A outer s H vs Q E hr h => ?_
  · obtain ⟨G, many, b, pv, ps, k, _, rfl, _⟩ := h; rfl
  · obtain ⟨G, many, b, pv, ps, k, sg, rfl, ⟨a, vs, rfl, ha, hp⟩, hk, hl, q⟩ := h
    refine ⟨_, (pss_cons (ps_if (pt_cmpR op_eq (pv 0) (pe_globS (by rfl) T.many_) (nomark _)) (pss_cons (ps_set (i := 4) sc.nd rfl (Or.inl rfl) (pe_callB (cr_minK K rfl) (by rfl) T.min_ (by decide +kernel) (pa_cons (pe_lc (own := [("low", 5), ("high", 6)]) rfl sc.nd (pi_listK K (pv 2)) (blkOk_by (by kernel_rfl)) (fun _ _ _ _ _ => (pg_tupK K 2 rfl (pgs_cons (pg_name (i := 5) sc.nd rfl (Or.inl rfl)) (pgs_cons (pg_name (i := 6) sc.nd rfl (Or.inl rfl)) pgs_nil)))) (fun _ _ _ _ _ => pts_nil) (fun _ _ _ _ _ => (pv 5))) pa_nil))) (pss_one (ps_ret (pe_tup (pa_cons (pe_op op_sub (pv 1) (pv 4)) (pa_cons (pe_op op_sub (pe_ix (ix_tupK K) (pe_ix (ix_listK K) (pv 2) (pv 3) (fun _ _ => rfl)) pe_int (fun _ _ => rfl)) (pv 4)) pa_nil)))))) pss_nil) (pss_cons (ps_set (i := 4) sc.nd rfl (Or.inl rfl) (pe_callB (cr_maxK K rfl) (by rfl) T.max_ (by decide +kernel) (pa_cons (pe_lc (own := [("low", 5), ("high", 6)]) rfl sc.nd (pi_listK K (pv 2)) (blkOk_by (by kernel_rfl)) (fun _ _ _ _ _ => (pg_tupK K 2 rfl (pgs_cons (pg_name (i := 5) sc.nd rfl (Or.inl rfl)) (pgs_cons (pg_name (i := 6) sc.nd rfl (Or.inl rfl)) pgs_nil)))) (fun _ _ _ _ _ => pts_nil) (fun _ _ _ _ _ => (pv 6))) pa_nil))) (pss_one (ps_ret (pe_tup (pa_cons (pe_op op_sub (pv 4) (pv 1)) (pa_cons (pe_op op_sub (pv 4) (pe_ix (ix_tupK K) (pe_ix (ix_listK K) (pv 2) (pv 3) (fun _ _ => rfl)) pe_int (fun _ _ => rfl))) pa_nil))))))), ?_⟩
    have len := hp.length
    obtain ⟨xk, exk, tk, rfl, htk⟩ := pget hp hk
    refine ⟨_, rfl, rfl, many, congrArg V.bl (gz_many many), ?_⟩
    cases many
    · refine iteF ?_
      refine ⟨_, rfl, a, rfl, ⟨_, sg.seq ha⟩, fun Dl hD => ?_⟩
      refine lcG (walk_list (K := K) (a := a) (xs := vs)) (fun i acc _ => acc = ((ps.take i).map (·.2)).map V.int) hD (.pure sg) (by omega) (fun G' H' e => e.sameH.seq (sg.seq ha)) rfl ?_ ?_
      · rintro i x acc G1 H' H'' hi e' hacc ⟨rfl, hx⟩ Q' kk
        obtain ⟨hi', t, rfl, ht⟩ := pat hp hx
        refine ⟨t, _, rfl, (sg.trans e'.sameH).tup ht, rfl, _, _, rfl, _, _, rfl, rfl, rfl, _, rfl, kk _ G1 _ (.refl e'.ok) ?_⟩
        rw [hacc, take_map_succ _ hi', List.map_append]
        rfl
      · rintro acc G1 G2 H1 sg1 e1 eD hacc
        rw [take_map_all _ (by omega)] at hacc
        refine ⟨Dl, ps.map (·.2), rfl, .of (by rw [← hacc]; exact e1.ok.ex _ _ eD), by rw [List.length_map]; omega, fun m hm hle => ?_⟩
        have em := lmax_is hm hle
        have g1 := e1.g.trans e1.ok.ex
        refine ⟨_, rfl, _, rfl, m, b, rfl, rfl, _, rfl, _, rfl, _, rfl, a, vs, k, _, rfl, rfl, g1.seq ha, atI_nat exk, tk, _, 1, _, rfl, rfl, g1.tup htk, atI_nat (j := 1) rfl, m, _, rfl, rfl, show 2 ≤ sizeLine by decide, fun p np => ?_⟩
        refine q _ _ _ (e1.trans (.new e1.ok np)) ⟨p, rfl, .of ?_⟩
        rw [upd_same]
        unfold lossP
        rw [pair_getD hk, em]
        rfl
    · refine iteT ?_
      refine ⟨_, rfl, a, rfl, ⟨_, sg.seq ha⟩, fun Dl hD => ?_⟩
      refine lcG (walk_list (K := K) (a := a) (xs := vs)) (fun i acc _ => acc = ((ps.take i).map (·.1)).map V.int) hD (.pure sg) (by omega) (fun G' H' e => e.sameH.seq (sg.seq ha)) rfl ?_ ?_
      · rintro i x acc G1 H' H'' hi e' hacc ⟨rfl, hx⟩ Q' kk
        obtain ⟨hi', t, rfl, ht⟩ := pat hp hx
        refine ⟨t, _, rfl, (sg.trans e'.sameH).tup ht, rfl, _, _, rfl, _, _, rfl, rfl, rfl, _, rfl, kk _ G1 _ (.refl e'.ok) ?_⟩
        rw [hacc, take_map_succ _ hi', List.map_append]
        rfl
      · rintro acc G1 G2 H1 sg1 e1 eD hacc
        rw [take_map_all _ (by omega)] at hacc
        refine ⟨Dl, ps.map (·.1), rfl, .of (by rw [← hacc]; exact e1.ok.ex _ _ eD), by rw [List.length_map]; omega, fun m hm hle => ?_⟩
        have em := lmin_is hm hle
        have g1 := e1.g.trans e1.ok.ex
        refine ⟨_, rfl, _, rfl, b, m, rfl, rfl, _, rfl, _, rfl, a, vs, k, _, rfl, rfl, g1.seq ha, atI_nat exk, tk, _, 0, _, rfl, rfl, g1.tup htk, atI_nat (j := 0) rfl, _, rfl, _, m, rfl, rfl, show 2 ≤ sizeLine by decide, fun p np => ?_⟩
        refine q _ _ _ (e1.trans (.new e1.ok np)) ⟨p, rfl, .of ?_⟩
        rw [upd_same]
        unfold lossP
        rw [pair_getD hk, em]
        rfl
end
end Lw
namespace Lw
open PySem L2 PySem.Spec PyProof.Rows
/-! ### the class Record -/
structure RecC (K : PySem.W.Frag) (C : Addr) : Prop where
  cl : Cls K C
  nS : NoAttr K C "schedule"
  nT : NoAttr K C "start"
  nM : NoAttr K C "moves"
def fl (sv cv mv : V) : List (Str × V) := putF "moves" mv (putF "start" cv (putF "schedule" sv []))
theorem fl_moves (sv cv mv : V) : (fl sv cv mv).lookup ("moves" : Str) = some mv := by unfold fl; rw [lookup_putF, if_pos rfl]
theorem fl_start (sv cv mv : V) : (fl sv cv mv).lookup ("start" : Str) = some cv := by
  unfold fl
  rw [lookup_putF, if_neg (by decide +kernel), lookup_putF, if_pos rfl]
theorem fl_sched (sv cv mv : V) : (fl sv cv mv).lookup ("schedule" : Str) = some sv := by
  unfold fl
  rw [lookup_putF, if_neg (by decide +kernel), lookup_putF, if_neg (by decide +kernel), lookup_putF, if_pos rfl]
theorem fl_no (sv cv mv : V) {m : Str} (h1 : ¬ m = "moves") (h2 : ¬ m = "start") (h3 : ¬ m = "schedule") : (fl sv cv mv).lookup m = none := by
  unfold fl
  rw [lookup_putF, if_neg h1, lookup_putF, if_neg h2, lookup_putF, if_neg h3]
  rfl
def Rc (K : PySem.W.Frag) (C : Addr) (G : Hp) (v : V) (s c : List Int) (ms : List Move) : Prop := ∃ a dx sv cv mv, v = .ref a ∧ G a = some (.ins C dx (fl sv cv mv)) ∧ TupI K G sv s ∧ TupI K G cv c ∧ Ts MvT K G mv ms
theorem Rc.mono {K : PySem.W.Frag} {C : Addr} {G G' : Hp} {v : V} {s c : List Int} {ms : List Move} (e : Same G G') (h : Rc K C G v s c ms) : Rc K C G' v s c ms :=
  let ⟨a, dx, sv, cv, mv, q, h1, h2, h3, h4⟩ := h; ⟨a, dx, sv, cv, mv, q, e _ _ h1, TupI.mono e h2, TupI.mono e h3, Ts.mono MvT.mo e h4⟩
theorem same_mut {G H : Hp} {p : Addr} {o : HO} (s : Same G H) (h : G p = none) : Same G (upd H p o) := fun b u e => by
  rw [upd_ne (ne_of_none e h)]
  exact s b u e
def DfM (K : PySem.W.Frag) (C : Addr) (m q : Str) (st : Stmt) : Prop := ∃ f fd, FunD K m q (defArgs st) (defBody st) (defScope st) [] [] f fd ∧ Meth K C m f
def DfI (K : PySem.W.Frag) (mg : Str → Option Value) (C : Addr) (x m q : Str) (st : Stmt) : Prop := ∃ f fd, FunD K m q (defArgs st) (defBody st) (defScope st) [] [] f fd ∧ Mk K C f ∧ mg x = some (.ref C)
section
variable {mg : Str → Option Value} {base : Heap} {K : PySem.W.Frag} {P : Program} {w : World} {C : Addr}
theorem calM_mk {m q : Str} {st : Stmt} {N ps : List Str} {k : Nat} {sp : Sp} (D : DfM K C m q st) (S : FnScope N ps (defScope st))
    (hb : ∀ (kV doc pm : Value) (an : Option Addr) (cdv ct : Value) (us : List Value), us.length = ps.length → bindArgs (PySem.W.fnOf m q (defArgs st) (defBody st) (defScope st) .none kV doc pm an cdv ct) ⟨us, []⟩ = pure (ps.zip us))
    (len : ∀ vs H Q E, sp vs H Q E → List.length vs = ps.length)
    (body : ∀ (f : Addr) (cdv : Value) (A : Around) (outer : List Env) (s : Shared) (H : Hp) (vs : List V) (Q : VK) (E : XK), Room k (A.deeper (envOfC q (defScope st) s.heap.objs.size f cdv)) → sp vs H Q E →
      ∃ t, PSs (cxOf CX0 P w K mg base N q (defScope st) f cdv A outer s H E).nox (defBody st) t ∧ t { nx := fun _ H' => Q .non H', rt := Q } (start N vs) H) : CalM P w K mg base C m ps (k + 1) sp := by
  obtain ⟨f, fd, F, hm⟩ := D
  obtain ⟨h1, h2⟩ := calM_of (P := P) (w := w) (mg := mg) (base := base) (C := C) F S hb len body
  exact ⟨f, fd, h1, hm, h2⟩
theorem calI_mk {x m q : Str} {st : Stmt} {N ps : List Str} {k : Nat} {sp : Sp} (D : DfI K mg C x m q st) (S : FnScope N ps (defScope st))
    (hb : ∀ (kV doc pm : Value) (an : Option Addr) (cdv ct : Value) (us : List Value), us.length = ps.length → bindArgs (PySem.W.fnOf m q (defArgs st) (defBody st) (defScope st) .none kV doc pm an cdv ct) ⟨us, []⟩ = pure (ps.zip us))
    (len : ∀ vs H Q E, sp vs H Q E → List.length vs = ps.length)
    (body : ∀ (f : Addr) (cdv : Value) (A : Around) (outer : List Env) (s : Shared) (H : Hp) (vs : List V) (Q : VK) (E : XK), Room k (A.deeper (envOfC q (defScope st) s.heap.objs.size f cdv)) → sp vs H Q E →
      ∃ t, PSs (cxOf CX0 P w K mg base N q (defScope st) f cdv A outer s H E).nox (defBody st) t ∧ t { nx := fun _ H' => Q .non H', rt := Q } (start N vs) H) : CalI P w K mg base C x ps (k + 1) sp := by
  obtain ⟨f, fd, F, hM, hm⟩ := D
  obtain ⟨h1, h2⟩ := calM_of (P := P) (w := w) (mg := mg) (base := base) (C := C) F S hb len body
  exact ⟨f, fd, h1, hM, hm, h2⟩
def spInit (K : PySem.W.Frag) (C : Addr) : Sp := fun vs H Q _ => ∃ (G : Hp) (p dx : Addr) (sv cv mv : V) (s c : List Int) (ms : List Move), vs = [.ref p, sv, cv, mv] ∧ Same G H ∧ G p = none ∧ H p = some (.ins C dx []) ∧ LstI K G sv s ∧ TupI K G cv c ∧ Ls Mv K G mv ms ∧
  SOk s ∧ Game s c ms ∧ 0 < c.length ∧ c.length ≤ 200 ∧ (∀ x ∈ c, 0 ≤ x) ∧ ∀ G' H', Same G G' → Same G' H' → (∀ b o, b ≠ p → H b = some o → H' b = some o) → Rc K C G' (.ref p) s c ms → Q .non H'
abbrev sInit : Stmt := inClass (topS 38) 0
theorem ok_init (T : Gb mg) (R : RecC K C) (D : DfI K mg C "Record" "__init__" "Record.__init__" sInit) (c_require_schedule : Cal P w K mg base "require_schedule" ["schedule"] 3 (spSched K)) (c_require_counts : Cal P w K mg base "require_counts" ["counts"] 4 (spCounts K))
    (c_require_moves : Cal P w K mg base "require_moves" ["schedule", "counts", "moves"] 6 (spReqMoves K)) : CalI P w K mg base C "Record" ["self", "schedule", "counts", "moves"] 7 (spInit K C) := by
  have sc : FnScope ["self", "schedule", "counts", "moves", "split", "chosen"] ["self", "schedule", "counts", "moves"] (defScope sInit) := ⟨rfl, rfl, rfl, by decide +kernel, rfl, by decide +kernel, by decide +kernel⟩
  refine calI_mk D sc (fun _ _ _ _ _ _ us hl => match us, hl with | [_, _, _, _], _ => rfl) (fun vs H Q E h => ?_) fun f cdv A outer s H vs Q E hr h => ?_
  · obtain ⟨G, p, dx, sv, cv, mv, s, c, ms, rfl, _⟩ := h; rfl
  · obtain ⟨G, p, dx, sv, cv, mv, s, c, ms, rfl, sg, gp, hp, hs, hc, hm, ok, Gm, c1, cl, c0, q⟩ := h
    refine ⟨_, (pss_cons (ps_expr (pe_cal c_require_schedule (hr.mono (by decide)) (by rfl) (pa_cons (pv 1) pa_nil))) (pss_cons (ps_expr (pe_cal c_require_counts (hr.mono (by decide)) (by rfl) (pa_cons (pv 2) pa_nil))) (pss_cons (ps_expr (pe_cal c_require_moves (hr.mono (by decide)) (by rfl) (pa_cons (pv 1) (pa_cons (pv 2) (pa_cons (pv 3) pa_nil))))) (pss_cons (ps_asg (pe_tup (pa_cons (pe_callTy (cr_tupleK K) (by rfl) T.tuple_ (by decide +kernel) (pa_cons (pv 1) pa_nil)) (pa_cons (pv 2) pa_nil))) (pg_tupK K 2 rfl (pgs_cons (pg_fldK K (pv 0)) (pgs_cons (pg_fldK K (pv 0)) pgs_nil)))) (pss_one (ps_asg (pe_callTy (cr_tupleK K) (by rfl) T.tuple_ (by decide +kernel) (pa_cons (pe_lc (own := [("split", 4), ("chosen", 5)]) rfl sc.nd (pi_listK K (pv 3)) (blkOk_by (by kernel_rfl)) (fun _ _ _ _ _ => (pg_tupK K 2 rfl (pgs_cons (pg_name (i := 4) sc.nd rfl (Or.inl rfl)) (pgs_cons (pg_name (i := 5) sc.nd rfl (Or.inl rfl)) pgs_nil)))) (fun _ _ _ _ _ => pts_nil) (fun _ _ _ _ _ => (pe_tup (pa_cons (pe_callTy (cr_tupleK K) (by rfl) T.tuple_ (by decide +kernel) (pa_cons (pv 4) pa_nil)) (pa_cons (pv 5) pa_nil))))) pa_nil)) (pg_fldK K (pv 0)))))))), ?_⟩
    refine ⟨_, rfl, sv, s, rfl, .inl (LstI.mono sg hs), ok.len, ok.two, fun H1 s1 => ?_⟩
    have g1 := sg.trans s1
    refine ⟨_, rfl, cv, c, rfl, TupI.mono g1 hc, cl, c0, fun H2 s2 => ?_⟩
    have g2 := g1.trans s2
    refine ⟨_, rfl, _, rfl, _, rfl, sv, cv, mv, s, c, ms, rfl, LstI.mono g2 hs, TupI.mono g2 hc, Ls.mono Mv.mo g2 hm, ok, Gm, c1, cl, fun H3 s3 => ?_⟩
    have g3 := g2.trans s3
    have s03 := (s1.trans s2).trans s3
    obtain ⟨b, rfl, hb⟩ := id hs
    -- self.schedule, self.start = (tuple(schedule), counts)
    refine ⟨_, rfl, b, _, rfl, .inl ⟨g3.seq hb, fun t1 n1 => ?_⟩⟩
    have e1 : Ext none G H3 (upd G t1 (.tup (s.map V.int))) (upd H3 t1 (.tup (s.map V.int))) := .new (.pure g3) n1
    refine ⟨_, rfl, show 2 ≤ sizeLine by decide, fun t2 n2 => ?_⟩
    have e2 := e1.trans (.tmp (o := .tup [.ref t1, cv]) e1.ok n2)
    have hp3 : H3 p = some (.ins C dx []) := s03 _ _ hp
    have hp4 := e2.sameH _ _ hp3
    have gp2 : upd G t1 (.tup (s.map V.int)) p = none := e2.fresh p (fun z => by rw [hp3] at z; cases z) gp
    refine ⟨t2, _, rfl, .of upd_same, rfl, _, _, rfl, _, rfl, p, C, dx, _, rfl, hp4, R.cl, R.nS, show 0 < 1000 by decide, _, _, rfl, _, rfl, p, C, dx, _, rfl, upd_same, R.cl, R.nT, show 1 < 1000 by decide, rfl, ?_⟩
    -- self.moves = tuple([..])
    have ok4 := Ok.pure (same_mut (o := .ins C dx (putF "start" cv (putF "schedule" (.ref t1) []))) (same_mut (o := .ins C dx (putF "schedule" (.ref t1) [])) e2.ok.ex gp2) gp2)
    obtain ⟨a, vs, rfl, ha, hpm⟩ := hm
    have len := hpm.length
    have ml := game_len Gm
    have sl := ok.len
    refine ⟨_, rfl, a, rfl, ⟨_, ok4.ex.seq (e2.g.seq ha)⟩, fun Dl hD => ?_⟩
    refine lcG (walk_list (K := K) (a := a) (xs := vs)) (fun i acc G' => Paired (MvT K G') acc (ms.take i)) hD ok4 (by omega) (fun G' H' e => (e.g.trans e.ok.ex).seq (e2.g.seq ha)) .nil ?_ ?_
    · rintro i x acc G5 H5 H5' hi e5 hacc ⟨rfl, hx⟩ Q' k
      obtain ⟨hi', t, gv, rfl, ht, d, gvs, rfl, hd, hgs⟩ := pat hpm hx
      have g5 := (e2.g.trans e5.g).trans e5.ok.ex
      refine ⟨t, _, rfl, g5.tup ht, rfl, _, _, rfl, _, _, rfl, rfl, rfl, ?_⟩
      refine ⟨_, rfl, d, gvs, rfl, .inl ⟨g5.seq hd, fun l nl => ?_⟩⟩
      have e6 := Ext.new (o := .tup gvs) e5.ok nl
      refine ⟨_, rfl, show 2 ≤ sizeLine by decide, fun u nu => ?_⟩
      have e7 := e6.trans (Ext.new (o := .tup [.ref l, .int ms[i].2]) e6.ok nu)
      refine k _ _ _ e7 ?_
      rw [List.take_add_one, List.getElem?_eq_getElem hi']
      have nlu : l ≠ u := ne_of_none (H := upd H5' l (.tup gvs)) upd_same nu
      refine papp (Paired.mapP hacc fun _ _ h => MvT.mono e7.g h) ⟨u, .ref l, rfl, .of upd_same, l, gvs, rfl, .of (by rw [upd_ne nlu, upd_same]), Paired.mapP hgs fun _ _ h => TupI.mono ((e2.g.trans e5.g).trans e7.g) h⟩
    · rintro acc G5 G6 H6 sg6 e6 eD hacc
      rw [List.take_of_length_le (by omega)] at hacc
      refine ⟨Dl, acc, rfl, .inl ⟨.of (e6.ok.ex _ _ eD), fun u nu => ?_⟩⟩
      have e7 := e6.trans (.new (o := .tup acc) e6.ok nu)
      have hp5 := e7.sameH p _ upd_same
      have gp7 : upd G6 u (.tup acc) p = none := e7.fresh p (fun z => by rw [upd_same] at z; cases z) gp2
      refine ⟨_, rfl, p, C, dx, _, rfl, hp5, R.cl, R.nM, show 2 < 1000 by decide, ?_⟩
      have gg := e2.g.trans e7.g
      refine q (upd (upd G6 u (.tup acc)) p (.ins C dx (fl (.ref t1) cv (.ref u)))) _ (gg.trans (same_new gp7)) (same_upd2 e7.ok.ex gp7) (fun b' o nb e => ?_) ?_
      · rw [upd_ne nb]
        refine e7.sameH b' o ?_
        rw [upd_ne nb, upd_ne nb]
        exact e2.sameH b' o (s03 b' o e)
      · have sn := same_new (o := .ins C dx (fl (.ref t1) cv (.ref u))) gp7
        refine ⟨p, dx, _, _, _, rfl, upd_same, ⟨t1, rfl, .of (sn _ _ (e7.g _ _ upd_same))⟩, TupI.mono (gg.trans sn) hc, u, acc, rfl, .of (sn _ _ upd_same), Paired.mapP hacc fun _ _ h => MvT.mono ((sg6.trans (same_new (e6.ok.ex.free nu))).trans sn) h⟩
/-- moves that can be climbed -/
def MvOk (ms : List Move) : Prop := ms.length ≤ 1000 ∧ ∀ m ∈ ms, m.2 < m.1.length ∧ m.1.getD m.2 [] ≠ [] ∧ (m.1.getD m.2 []).length ≤ 1000
theorem mvOk_of {s c : List Int} {ms : List Move} (ok : SOk s) (G : Game s c ms) (c1 : 0 < c.length) (cl : c.length ≤ 200) : MvOk ms := by
  refine ⟨by rw [game_len G]; have := ok.len; omega, fun m hm => ?_⟩
  obtain ⟨i, hi, rfl⟩ := List.mem_iff_getElem.mp hm
  obtain ⟨hs, S, hk, _⟩ := game_at G hi
  have Sl := S.len
  have hk' : ms[i].2 < ms[i].1.length := by omega
  have hg := S.gl _ (getD_mem hk')
  have pl := pos_len G c1 i (by omega)
  refine ⟨hk', fun z => ?_, by omega⟩
  rw [z] at hg
  simp at hg
  omega
def spSteps (K : PySem.W.Frag) (C : Addr) : Sp := fun vs H Q _ => ∃ (G : Hp) (v : V) (s c : List Int) (ms : List Move), Same G H ∧ vs = [v] ∧ Rc K C G v s c ms ∧ MvOk ms ∧ ∀ v' G' H', Ext none G H G' H' → Ls AC K G' v' (ms.map fun m => (arr m, nx m)) → Q v' H'
abbrev sSteps : Stmt := inClass (topS 38) 1
theorem ok_steps (R : RecC K C) (D : DfM K C "steps" "Record.steps" sSteps) (c_climbed : Cal P w K mg base "climbed" ["group"] 1 (spClimbed K)) : CalM P w K mg base C "steps" ["self"] 2 (spSteps K C) := by
  have sc : FnScope ["self", "split", "chosen"] ["self"] (defScope sSteps) := ⟨rfl, rfl, rfl, by decide +kernel, rfl, by decide +kernel, by decide +kernel⟩
  refine calM_mk D sc (fun _ _ _ _ _ _ us hl => match us, hl with | [_], _ => rfl) (fun vs H Q E h => ?_) fun f cdv A outer s H vs Q E hr h => ?_
  · obtain ⟨G, v, s, c, ms, _, rfl, _⟩ := h; rfl
  · obtain ⟨G, v, s, c, ms, sg, rfl, ⟨p, dx, sv, cv, mv, rfl, hp, hs, hc, a, vs, rfl, ha, hpm⟩, ⟨ml, hmv⟩, q⟩ := h
    refine ⟨_, (pss_one (ps_ret (pe_lc (own := [("split", 1), ("chosen", 2)]) rfl sc.nd (pi_tupK K (pe_fldK K (pv 0) rfl)) (blkOk_by (by kernel_rfl)) (fun _ _ _ _ _ => (pg_tupK K 2 rfl (pgs_cons (pg_name (i := 1) sc.nd rfl (Or.inl rfl)) (pgs_cons (pg_name (i := 2) sc.nd rfl (Or.inl rfl)) pgs_nil)))) (fun _ _ _ _ _ => pts_nil) (fun _ _ _ _ _ => (pe_cal c_climbed (hr.mono (by decide)) (by rfl) (pa_cons (pe_ix (ix_tupK K) (pv 1) (pv 2) (fun _ _ => rfl)) pa_nil)))))), ?_⟩
    have len := hpm.length
    refine ⟨_, rfl, p, C, dx, _, _, rfl, sg _ _ hp, R.cl, R.nM, fl_moves _ _ _, a, rfl, ⟨_, sg.tup ha⟩, fun Dl hD => ?_⟩
    refine lcG (walk_tup (K := K) (a := a) (xs := vs)) (fun i acc G' => Paired (AC K G') acc ((ms.take i).map fun m => (arr m, nx m))) hD (.pure sg) (by omega) (fun G' H' e => e.sameH.tup (sg.tup ha)) .nil ?_ ?_
    · rintro i x acc G1 H1 H1' hi e1 hacc ⟨rfl, hx⟩ Q' k
      obtain ⟨hi', t, gv, rfl, ht, d, gvs, rfl, hd, hgs⟩ := pat hpm hx
      obtain ⟨hk, hne, hl⟩ := hmv _ (List.getElem_mem hi')
      obtain ⟨xk, exk, hxk⟩ := pget hgs hk
      have g1 := e1.g.trans e1.ok.ex
      have egk : ms[i].1.getD ms[i].2 [] = ms[i].1[ms[i].2] := by rw [List.getD_eq_getElem?_getD, List.getElem?_eq_getElem hk]; rfl
      refine ⟨t, _, rfl, g1.tup ht, rfl, _, _, rfl, _, _, rfl, rfl, rfl, ?_⟩
      refine ⟨_, rfl, _, rfl, d, gvs, ms[i].2, xk, rfl, rfl, g1.tup hd, atI_nat exk, G1, xk, ms[i].1[ms[i].2], e1.ok.ex, rfl, TupI.mono e1.g hxk, by rw [← egk]; exact hne, by rw [← egk]; exact hl, fun v' G2 H2 e2 hv => ?_⟩
      refine k _ _ _ e2 ?_
      rw [take_map_succ _ hi']
      refine papp (Paired.mapP hacc fun _ _ h => AC.mono e2.g h) ?_
      unfold arr nx
      rw [egk]
      exact hv
    · rintro acc G1 G2 H' sg' e eD hacc
      rw [take_map_all _ (by omega)] at hacc
      exact q _ _ _ e ⟨Dl, acc, rfl, .of eD, Paired.mapP hacc fun _ _ h => AC.mono sg' h⟩
def spPos (K : PySem.W.Frag) (C : Addr) : Sp := fun vs H Q _ => ∃ (G : Hp) (v : V) (s c : List Int) (ms : List Move), Same G H ∧ vs = [v] ∧ Rc K C G v s c ms ∧ MvOk ms ∧ ∀ v' G' H', Ext none G H G' H' → Ls TupI K G' v' (c :: ms.map nx) → Q v' H'
abbrev sPos : Stmt := inClass (topS 38) 2
theorem ok_positions (R : RecC K C) (D : DfM K C "positions" "Record.positions" sPos) (m_steps : CalM P w K mg base C "steps" ["self"] 2 (spSteps K C)) : CalM P w K mg base C "positions" ["self"] 3 (spPos K C) := by
  have sc : FnScope ["self", "arrived", "counts"] ["self"] (defScope sPos) := ⟨rfl, rfl, rfl, by decide +kernel, rfl, by decide +kernel, by decide +kernel⟩
  refine calM_mk D sc (fun _ _ _ _ _ _ us hl => match us, hl with | [_], _ => rfl) (fun vs H Q E h => ?_) fun f cdv A outer s H vs Q E hr h => ?_
  · obtain ⟨G, v, s, c, ms, _, rfl, _⟩ := h; rfl
  · obtain ⟨G, v, s, c, ms, sg, rfl, hR, hmv, q⟩ := h
    refine ⟨_, (pss_one (ps_ret (pe_op (op_catLK K) (pe_lst (pa_cons (pe_fldK K (pv 0) rfl) pa_nil)) (pe_lc (own := [("arrived", 1), ("counts", 2)]) rfl sc.nd (pi_listK K (pe_mcal0 (pv 0) R.cl m_steps (hr.mono (by decide)))) (blkOk_by (by kernel_rfl)) (fun _ _ _ _ _ => (pg_tupK K 2 rfl (pgs_cons (pg_name (i := 1) sc.nd rfl (Or.inl rfl)) (pgs_cons (pg_name (i := 2) sc.nd rfl (Or.inl rfl)) pgs_nil)))) (fun _ _ _ _ _ => pts_nil) (fun _ _ _ _ _ => (pv 2)))))), ?_⟩
    obtain ⟨p, dx, sv, cv, mv, rfl, hp, hs, hc, a, vs, rfl, ha, hpm⟩ := id hR
    refine ⟨_, rfl, p, C, dx, _, _, rfl, sg _ _ hp, R.cl, R.nT, fl_start _ _ _, show [cv].length ≤ sizeLine from (show 1 ≤ sizeLine by decide), fun l nl => ?_⟩
    have e1 : Ext none G H (upd G l (.lst [cv])) (upd H l (.lst [cv])) := .new (.pure sg) nl
    refine ⟨_, rfl, p, dx, _, rfl, e1.ok.ex _ _ (e1.g _ _ hp), fl_no _ _ _ (by decide +kernel) (by decide +kernel) (by decide +kernel), _, _, s, c, ms, e1.ok.ex, rfl, Rc.mono e1.g hR, hmv, fun v' G2 H2 e2 ⟨b, ws, ev, hb, hw⟩ => ?_⟩
    subst ev
    have len := hw.length
    rw [List.length_map] at len
    have ml := hmv.1
    refine ⟨b, rfl, ⟨_, e2.ok.ex.seq hb⟩, fun Dl hD => ?_⟩
    refine lcG (walk_list (K := K) (a := b) (xs := ws)) (fun i acc G' => Paired (TupI K G') acc ((ms.take i).map nx)) hD e2.ok (by omega) (fun G' H' e => e.sameH.seq (e2.ok.ex.seq hb)) .nil ?_ ?_
    · rintro i x acc G3 H3 H3' hi e3 hacc ⟨rfl, hx⟩ Q' k
      obtain ⟨hi', t, c3, rfl, ht, hc3⟩ := pat hw hx
      rw [List.length_map] at hi'
      have g3 := e3.g.trans e3.ok.ex
      refine ⟨t, _, rfl, g3.tup ht, rfl, _, _, rfl, _, _, rfl, rfl, rfl, _, rfl, k _ _ _ (.refl e3.ok) ?_⟩
      rw [take_map_succ _ hi']
      refine papp hacc (TupI.mono e3.g ?_)
      rw [List.getElem_map] at hc3
      exact hc3
    · rintro acc G3 G4 H4 sg4 e4 eD hacc
      rw [take_map_all _ (by omega)] at hacc
      have al := hacc.length
      rw [List.length_map] at al
      have g14 := e2.trans e4
      refine ⟨l, Dl, [cv], acc, rfl, rfl, .of (g14.ok.ex _ _ (g14.g _ _ upd_same)), .of (e4.ok.ex _ _ eD), ?_, fun u nu => ?_⟩
      · exact Nat.le_trans (show [cv].length + acc.length ≤ 10000 by simp; omega) (by decide)
      · have e5 := (e1.trans g14).trans (.new (o := .lst ([cv] ++ acc)) e4.ok nu)
        exact q _ _ _ e5 ⟨u, cv :: acc, rfl, .of upd_same, .cons (TupI.mono e5.g hc) (Paired.mapP hacc fun _ _ h => TupI.mono (sg4.trans (same_new (e4.ok.ex.free nu))) h)⟩
def spArr (K : PySem.W.Frag) (C : Addr) : Sp := fun vs H Q _ => ∃ (G : Hp) (v : V) (s c : List Int) (ms : List Move), Same G H ∧ vs = [v] ∧ Rc K C G v s c ms ∧ MvOk ms ∧ ∀ v' G' H', Ext none G H G' H' → LstI K G' v' (ms.map arr) → Q v' H'
abbrev sArr : Stmt := inClass (topS 38) 3
theorem ok_arrivals (R : RecC K C) (D : DfM K C "arrivals" "Record.arrivals" sArr) (m_steps : CalM P w K mg base C "steps" ["self"] 2 (spSteps K C)) : CalM P w K mg base C "arrivals" ["self"] 3 (spArr K C) := by
  have sc : FnScope ["self", "arrived", "counts"] ["self"] (defScope sArr) := ⟨rfl, rfl, rfl, by decide +kernel, rfl, by decide +kernel, by decide +kernel⟩
  refine calM_mk D sc (fun _ _ _ _ _ _ us hl => match us, hl with | [_], _ => rfl) (fun vs H Q E h => ?_) fun f cdv A outer s H vs Q E hr h => ?_
  · obtain ⟨G, v, s, c, ms, _, rfl, _⟩ := h; rfl
  · obtain ⟨G, v, s, c, ms, sg, rfl, hR, hmv, q⟩ := h
    refine ⟨_, (pss_one (ps_ret (pe_lc (own := [("arrived", 1), ("counts", 2)]) rfl sc.nd (pi_listK K (pe_mcal0 (pv 0) R.cl m_steps (hr.mono (by decide)))) (blkOk_by (by kernel_rfl)) (fun _ _ _ _ _ => (pg_tupK K 2 rfl (pgs_cons (pg_name (i := 1) sc.nd rfl (Or.inl rfl)) (pgs_cons (pg_name (i := 2) sc.nd rfl (Or.inl rfl)) pgs_nil)))) (fun _ _ _ _ _ => pts_nil) (fun _ _ _ _ _ => (pv 1))))), ?_⟩
    obtain ⟨p, dx, sv, cv, mv, rfl, hp, hs, hc, a, vs, rfl, ha, hpm⟩ := id hR
    refine ⟨_, rfl, p, dx, _, rfl, sg _ _ hp, fl_no _ _ _ (by decide +kernel) (by decide +kernel) (by decide +kernel), G, _, s, c, ms, sg, rfl, hR, hmv, fun v' G2 H2 e2 ⟨b, ws, ev, hb, hw⟩ => ?_⟩
    subst ev
    have len := hw.length
    rw [List.length_map] at len
    have ml := hmv.1
    refine ⟨b, rfl, ⟨_, e2.ok.ex.seq hb⟩, fun Dl hD => ?_⟩
    refine lcG (walk_list (K := K) (a := b) (xs := ws)) (fun i acc _ => acc = ((ms.take i).map arr).map V.int) hD e2.ok (by omega) (fun G' H' e => e.sameH.seq (e2.ok.ex.seq hb)) rfl ?_ ?_
    · rintro i x acc G3 H3 H3' hi e3 hacc ⟨rfl, hx⟩ Q' k
      obtain ⟨hi', t, c3, rfl, ht, hc3⟩ := pat hw hx
      rw [List.length_map] at hi'
      have g3 := e3.g.trans e3.ok.ex
      refine ⟨t, _, rfl, g3.tup ht, rfl, _, _, rfl, _, _, rfl, rfl, rfl, _, rfl, k _ _ _ (.refl e3.ok) ?_⟩
      rw [take_map_succ _ hi', hacc, List.map_append, List.getElem_map]
      rfl
    · rintro acc G3 G4 H4 sg4 e4 eD hacc
      rw [take_map_all _ (by omega)] at hacc
      exact q _ _ _ (e2.trans e4) ⟨Dl, rfl, .of (by rw [← hacc]; exact eD)⟩
end
end Lw
namespace Lw
open PySem L2 PySem.Spec PyProof.Rows
theorem eqv_pair (p : Int × Int) : PyData.eqv (.tuple [.int p.1, .int p.2]) (.tuple [.int 0, .int 0]) = decide (p = (0, 0)) := by
  obtain ⟨a, b⟩ := p
  simp only [PyData.eqvAll, PyData.eqv]
  by_cases ha : a = 0
  · by_cases hb : b = 0
    · subst ha hb
      rfl
    · rw [decide_eq_false (fun z => hb (Prod.mk.inj z).2)]
      simp [hb]
  · rw [decide_eq_false (fun z => ha (Prod.mk.inj z).1)]
    simp [ha]
theorem posL_at {c : List Int} {ms : List Move} {i : Nat} (hi : i < ms.length) : ∃ h : i < (c :: ms.map nx).length, (c :: ms.map nx)[i] = posAt c ms i := by
  refine ⟨by rw [List.length_cons, List.length_map]; omega, ?_⟩
  cases i with
  | zero => rfl
  | succ i =>
    show (ms.map nx)[i]'(by rw [List.length_map]; omega) = nx (ms.getD i ([], 0))
    rw [List.getElem_map, move_getD (by omega)]
section
variable {mg : Str → Option Value} {base : Heap} {K : PySem.W.Frag} {P : Program} {w : World} {C : Addr}
/-- what a record's questions ask -/
def Good (K : PySem.W.Frag) (C : Addr) (G : Hp) (v : V) (s c : List Int) (ms : List Move) : Prop := Rc K C G v s c ms ∧ SOk s ∧ Game s c ms ∧ 0 < c.length ∧ c.length ≤ 200 ∧ ∀ x ∈ c, 0 ≤ x
theorem Good.mono {G G' : Hp} {v : V} {s c : List Int} {ms : List Move} (e : Same G G') (h : Good K C G v s c ms) : Good K C G' v s c ms := ⟨Rc.mono e h.1, h.2⟩
def spLosses (K : PySem.W.Frag) (C : Addr) : Sp := fun vs H Q _ => ∃ (G : Hp) (v : V) (many : Bool) (s c : List Int) (ms : List Move), Same G H ∧ vs = [v, .str (gz many)] ∧ Good K C G v s c ms ∧ ∀ v' G' H', Ext none G H G' H' → Ls P2 K G' v' (lossL many s c ms) → Q v' H'
abbrev sLosses : Stmt := inClass (topS 38) 4
theorem ok_losses (T : Gb mg) (R : RecC K C) (D : DfM K C "losses" "Record.losses" sLosses) (c_require_goal : Cal P w K mg base "require_goal" ["goal"] 1 spGoal) (m_positions : CalM P w K mg base C "positions" ["self"] 3 (spPos K C))
    (c_group_values : Cal P w K mg base "group_values" ["schedule", "counts", "split"] 6 (spGv K)) (c_losses_of : Cal P w K mg base "losses_of" ["goal", "before", "values", "chosen"] 1 (spLossesOf K)) (c_guaranteed : Cal P w K mg base "guaranteed" ["schedule", "counts", "goal"] 5 (spGuar K)) : CalM P w K mg base C "losses" ["self", "goal"] 7 (spLosses K C) := by
  have sc : FnScope ["self", "goal", "found", "index", "split", "chosen", "schedule", "counts", "values"] ["self", "goal"] (defScope sLosses) := ⟨rfl, rfl, rfl, by decide +kernel, rfl, by decide +kernel, by decide +kernel⟩
  refine calM_mk D sc (fun _ _ _ _ _ _ us hl => match us, hl with | [_, _], _ => rfl) (fun vs H Q E h => ?_) fun f cdv A outer s0 H vs Q E hr h => ?_
  · obtain ⟨G, v, many, s, c, ms, _, rfl, _⟩ := h; rfl
  · obtain ⟨G, v, many, s, c, ms, sg, rfl, hgood, q⟩ := h
    refine ⟨_, (pss_cons (ps_expr (pe_cal c_require_goal (hr.mono (by decide)) (by rfl) (pa_cons (pv 1) pa_nil))) (pss_cons (ps_set (i := 2) sc.nd rfl (Or.inl rfl) (pe_lst pa_nil)) (pss_cons (ps_for PassesOwn.never rfl (pi_enumTK K (by rfl) T.enumerate_ (pa_cons (pe_fldK K (pv 0) rfl) pa_nil)) (pg_tupK K 2 rfl (pgs_cons (pg_name (i := 3) sc.nd rfl (Or.inl rfl)) (pgs_cons (pg_tupK K 2 rfl (pgs_cons (pg_name (i := 4) sc.nd rfl (Or.inl rfl)) (pgs_cons (pg_name (i := 5) sc.nd rfl (Or.inl rfl)) pgs_nil))) pgs_nil))) (pss_cons (ps_par (by rfl) sc.nd (i := 6) (j := 7) rfl rfl (by decide) rfl rfl (pa_cons (pe_slice (sl_tupK K) (pe_fldK K (pv 0) rfl) (po_some (pv 3)) po_none) (pa_cons (pe_ix (ix_listK K) (pe_mcal0 (pv 0) R.cl m_positions (hr.mono (by decide))) (pv 3) (fun _ _ => rfl)) pa_nil)) (by rfl)) (pss_cons (ps_set (i := 8) sc.nd rfl (Or.inl rfl) (pe_cal c_group_values (hr.mono (by decide)) (by rfl) (pa_cons (pv 6) (pa_cons (pv 7) (pa_cons (pe_callTy (cr_listK K) (by rfl) T.list_ (by decide +kernel) (pa_cons (pv 4) pa_nil)) pa_nil))))) (pss_one (ps_expr (pe_appK K (pv 2) (pe_cal c_losses_of (hr.mono (by decide)) (by rfl) (pa_cons (pv 1) (pa_cons (pe_cal c_guaranteed (hr.mono (by decide)) (by rfl) (pa_cons (pv 6) (pa_cons (pv 7) (pa_cons (pv 1) pa_nil)))) (pa_cons (pv 8) (pa_cons (pv 5) pa_nil))))))))))) (pss_one (ps_ret (pv 2)))))), ?_⟩
    obtain ⟨hR, ok, Gm, c1, cl, c0⟩ := id hgood
    have hmv := mvOk_of ok Gm c1 cl
    have ml := hmv.1
    obtain ⟨p, dx, sv, cv, mv, rfl, hp, hs, hc, a, xs, rfl, ha, hpm⟩ := id hR
    obtain ⟨b, rfl, hb⟩ := id hs
    have len := hpm.length
    have ll := lossL_len many s c ms
    refine ⟨_, rfl, many, rfl, fun H1 s1 => ?_⟩
    refine ⟨Nat.zero_le _, fun l nl => ?_⟩
    have e0 : Ext none G H G (upd H1 l (.lst [])) := (Ext.same (.pure sg) s1).trans (.tmp (.pure (sg.trans s1)) nl)
    have l0 : H l = none := s1.free nl
    refine ⟨_, rfl, p, C, dx, _, _, rfl, e0.ok.ex _ _ hp, R.cl, R.nM, fl_moves _ _ _, a, xs, rfl, e0.ok.ex.tup ha, for_it (walk_enumT (K := K) (a := a) (xs := xs))
      (fun i σ H' => ∃ (G' : Hp) (acc : List V) (u3 u4 u5 u6 u7 u8 : Option V), σ = [some (.ref p), some (.str (gz many)), some (.ref l), u3, u4, u5, u6, u7, u8] ∧ Ext none G H G' H' ∧ G' l = none ∧ H' l = some (.lst acc) ∧ Paired (P2 K G') acc ((lossL many s c ms).take i))
      ⟨G, [], none, none, none, none, none, none, rfl, e0, sg.free l0, upd_same, .nil⟩ (fun i σ H' _ ⟨G', acc, _, _, _, _, _, _, _, e, _⟩ => (e.g.trans e.ok.ex).tup ha) ?_ ?_⟩
    · rintro i x σ H2 H2' hi ⟨G2, acc, u3, u4, u5, u6, u7, u8, rfl, e2, g2, el, hacc⟩ ⟨TA, x1, y1, rfl, nT, rfl, e1, hx⟩
      cases e1
      obtain ⟨hi', t, gv, rfl, ht, d, gvs, rfl, hd, hgs⟩ := pat hpm hx
      obtain ⟨hsi, S, hk, esd⟩ := game_at Gm hi'
      have pl := pos_len Gm c1 i (by omega)
      have pn := pos_nn Gm c0 i (by omega)
      have e3 := e2.trans (.tmp (o := .tup [.int (i : Nat), .ref t]) e2.ok nT)
      refine ⟨TA, _, rfl, .of upd_same, rfl, _, _, rfl, _, _, rfl, t, _, rfl, (e3.g.trans e3.ok.ex).tup ht, rfl, _, _, rfl, _, _, rfl, rfl, rfl, ?_⟩
      -- schedule, counts = (self.schedule[index:], self.positions()[index])
      refine ⟨_, rfl, p, C, dx, _, _, rfl, e3.ok.ex _ _ (e3.g _ _ hp), R.cl, R.nS, fl_sched _ _ _, _, rfl, i, rfl, ?_⟩
      dsimp only [tNoPart]
      refine slA e3.ok (e3.g.tup hb) fun sq G4 H4 e4 hsq => ?_
      have e34 := e3.trans e4
      rw [cut_from, ← List.map_drop] at hsq
      refine ⟨_, rfl, p, dx, _, rfl, e34.ok.ex _ _ (e34.g _ _ hp), fl_no _ _ _ (by decide +kernel) (by decide +kernel) (by decide +kernel), G4, _, s, c, ms, e34.ok.ex, rfl, Rc.mono e34.g hR, hmv, fun v' G5 H5 e5 ⟨lp, ws, ev, hlp, hw⟩ => ?_⟩
      subst ev
      have e35 := e34.trans e5
      obtain ⟨hpi, epi⟩ := posL_at (c := c) hi'
      obtain ⟨cv5, ecv5, hcv5⟩ := pget hw hpi
      rw [epi] at hcv5
      refine ⟨_, rfl, lp, ws, i, cv5, rfl, rfl, e5.ok.ex.seq hlp, atI_nat ecv5, _, _, rfl, ?_⟩
      -- values = group_values(schedule, counts, list(split))
      refine ⟨_, rfl, _, rfl, _, rfl, d, gvs, rfl, .inr ((e35.g.trans e35.ok.ex).tup hd), fun l2 nl2 => ?_⟩
      have e6 := Ext.new (o := .lst gvs) e35.ok nl2
      have e36 := e35.trans e6
      have hsq6 := (e5.g.trans e6.g).tup hsq
      have hcv6 := TupI.mono e6.g hcv5
      refine ⟨_, _, cv5, .ref l2, s.drop i, posAt c ms i, ms[i].1, e36.ok.ex, rfl, ⟨⟨sq, rfl, hsq6⟩, hcv6, ⟨l2, gvs, rfl, .of upd_same, Paired.mapP hgs fun _ _ h => TupI.mono e36.g h⟩, ok.drop i, by omega, pn, _, _, esd, S⟩, fun vv G7 H7 e7 hvv => ?_⟩
      have e37 := e36.trans e7
      -- found.append(losses_of(goal, guaranteed(schedule, counts, goal), values, chosen))
      have l2n : H2 l ≠ none := fun z => by rw [el] at z; cases z
      have e27 := ((Ext.tmp (o := .tup [.int (i : Nat), .ref t]) e2.ok nT).trans e4).trans ((e5.trans e6).trans e7)
      have el7 : H7 l = some (.lst acc) := e27.sameH _ _ el
      refine ⟨_, rfl, .inl ⟨rfl, _, .of el7⟩, ?_⟩
      refine ⟨_, rfl, _, rfl, _, rfl, _, rfl, .ref sq, cv5, s.drop i, posAt c ms i, many, rfl, ⟨sq, rfl, (e7.g.trans e7.ok.ex).tup hsq6⟩, TupI.mono (e7.g.trans e7.ok.ex) hcv6, ok.drop i, by omega, pn, fun H8 s8 => ?_⟩
      have Sl := S.len
      have hfew := ok.few _ (List.getElem_mem hsi)
      have hk' : ms[i].2 < ms[i].1.length := by omega
      refine ⟨_, rfl, _, rfl, G7, many, _, vv, ms[i].1.map (gval (s.drop i)), ms[i].2, e37.ok.ex.trans s8, rfl, hvv, by rw [List.length_map]; exact hk', by rw [List.length_map]; omega, fun v9 G9 H9 e9 hv9 => ?_⟩
      have e29 := e27.trans ((Ext.same e7.ok s8).trans e9)
      have g9 : G9 l = none := e29.fresh l l2n g2
      have el9 : H9 l = some (.lst acc) := e29.sameH _ _ el
      have al := hacc.length
      rw [List.length_take] at al
      refine ⟨l, acc, v9, rfl, rfl, el9, Nat.lt_of_le_of_lt (show acc.length ≤ 10000 by omega) (by decide), ?_⟩
      refine ⟨G9, acc ++ [v9], _, _, _, _, _, _, rfl, (e2.trans e29).mut l0 (fun z => nomatch z) g9, g9, upd_same, ?_⟩
      have ela := lossL_at many s c ms i hi'
      rw [List.take_add_one, ela]
      refine papp (Paired.mapP hacc fun _ _ h => P2.mono e29.g h) ?_
      rw [← loss_eq many hk']
      exact hv9
    · rintro σ H2 ⟨G2, acc, u3, u4, u5, u6, u7, u8, rfl, e2, g2, el, hacc⟩
      rw [List.take_of_length_le (by omega)] at hacc
      refine ⟨_, rfl, q _ _ _ (e2.frz l0 (fun z => nomatch z) g2 el) ⟨l, acc, rfl, .of upd_same, Paired.mapP hacc fun _ _ h => P2.mono (same_new g2) h⟩⟩
def spFirst (K : PySem.W.Frag) (C : Addr) : Sp := fun vs H Q _ => ∃ (G : Hp) (v : V) (many : Bool) (s c : List Int) (ms : List Move), Same G H ∧ vs = [v, .str (gz many)] ∧ Good K C G v s c ms ∧ ∀ v' G' H', Ext none G H G' H' → Dp K G' v' (mist 0 (lossL many s c ms)) → Q v' H'
abbrev sFirst : Stmt := inClass (topS 38) 5
theorem ok_first_mistake (T : Gb mg) (R : RecC K C) (D : DfM K C "first_mistake" "Record.first_mistake" sFirst) (m_losses : CalM P w K mg base C "losses" ["self", "goal"] 7 (spLosses K C)) : CalM P w K mg base C "first_mistake" ["self", "goal"] 8 (spFirst K C) := by
  have sc : FnScope ["self", "goal", "index", "loss"] ["self", "goal"] (defScope sFirst) := ⟨rfl, rfl, rfl, by decide +kernel, rfl, by decide +kernel, by decide +kernel⟩
  refine calM_mk D sc (fun _ _ _ _ _ _ us hl => match us, hl with | [_, _], _ => rfl) (fun vs H Q E h => ?_) fun f cdv A outer s0 H vs Q E hr h => ?_
  · obtain ⟨G, v, many, s, c, ms, _, rfl, _⟩ := h; rfl
  · obtain ⟨G, v, many, s, c, ms, sg, rfl, hgood, q⟩ := h
    refine ⟨_, (pss_cons (ps_for PassesOwn.never rfl (pi_enumK K (by rfl) T.enumerate_ (pa_cons (pe_mcal (pv 0) R.cl m_losses (hr.mono (by decide)) (pa_cons (pv 1) pa_nil)) pa_nil)) (pg_tupK K 2 rfl (pgs_cons (pg_name (i := 2) sc.nd rfl (Or.inl rfl)) (pgs_cons (pg_name (i := 3) sc.nd rfl (Or.inl rfl)) pgs_nil))) (pss_one (ps_if (pt_cmpR (op_neDK K hr.units) (pv 3) (pe_tup (pa_cons pe_int (pa_cons pe_int pa_nil))) (nomark _)) (pss_one (ps_ret (pe_tup (pa_cons (pv 2) (pa_cons (pe_ifExp (pt_cmpR op_gt (pe_ix (ix_tupK K) (pv 3) pe_int (fun _ _ => rfl)) pe_int (nomark _)) pe_str pe_str) pa_nil))))) pss_nil))) (pss_one (ps_ret pe_non))), ?_⟩
    obtain ⟨p, dx, sv, cv, mv, rfl, hp, _⟩ := id hgood.1
    refine ⟨_, rfl, p, dx, _, rfl, sg _ _ hp, fl_no _ _ _ (by decide +kernel) (by decide +kernel) (by decide +kernel), _, rfl, G, _, many, s, c, ms, sg, rfl, hgood, fun v' G1 H1 e1 ⟨l, ws, ev, hl, hw⟩ => ?_⟩
    subst ev
    have len := hw.length
    refine ⟨l, ws, rfl, e1.ok.ex.seq hl, for_it (walk_enum (K := K) (a := l) (xs := ws)) (fun i σ H' => (∃ u2 u3 : Option V, σ = [some (.ref p), some (.str (gz many)), u2, u3]) ∧ Ext none G H G1 H' ∧ ∀ n, n < i → (lossL many s c ms)[n]? = some (0, 0))
      ⟨⟨none, none, rfl⟩, e1, fun n h => absurd h (Nat.not_lt_zero n)⟩ (fun i σ H' _ h => h.2.1.ok.ex.seq hl) ?_ ?_⟩
    · rintro i x σ H2 H2' hi ⟨⟨u2, u3, rfl⟩, e2, hz⟩ ⟨TA, x1, y1, rfl, nT, rfl, ex, hx⟩
      cases ex
      obtain ⟨hi', t, rfl, ht⟩ := pat hw hx
      have e3 := e2.trans (.tmp (o := .tup [.int (i : Nat), .ref t]) e2.ok nT)
      refine ⟨TA, _, rfl, .of upd_same, rfl, _, _, rfl, _, _, rfl, rfl, ?_⟩
      refine ⟨_, rfl, show 2 ≤ sizeLine by decide, fun z nz => ?_⟩
      have e4 := e3.trans (.tmp (o := .tup [.int 0, .int 0]) e3.ok nz)
      have ht4 := e4.ok.ex.tup ht
      refine ⟨.tuple [.int (lossL many s c ms)[i].1, .int (lossL many s c ms)[i].2], .tuple [.int 0, .int 0], .tup ht4 (.cons (.int _) (.cons (.int _) .nil)), .tup (.of upd_same) (.cons (.int _) (.cons (.int _) .nil)), shaped_tup [_, _], shaped_tup [0, 0], _, rfl, ?_⟩
      rw [eqv_pair]
      by_cases hzz : (lossL many s c ms)[i] = (0, 0)
      · rw [decide_eq_true hzz]
        refine iteF ⟨⟨_, _, rfl⟩, e4, fun n hn => ?_⟩
        by_cases hni : n = i
        · rw [hni, List.getElem?_eq_getElem hi', hzz]
        · exact hz n (by omega)
      · rw [decide_eq_false hzz]
        refine iteT ?_
        have em : mist 0 (lossL many s c ms) = .tuple [.int (i : Int), .str (if (lossL many s c ms)[i].1 > 0 then "splitter" else "chooser")] := by
          rw [mist_drop i hz (by omega), List.drop_eq_getElem_cons hi', Nat.zero_add]
          show (if _ = (0, 0) then _ else _) = _
          rw [if_neg hzz]
        refine ⟨_, rfl, _, rfl, t, _, 0, _, rfl, rfl, ht4, atI_nat (j := 0) rfl, _, 0, rfl, rfl, _, rfl, ?_⟩
        by_cases hpos : (lossL many s c ms)[i].1 > 0
        · rw [if_pos hpos] at em
          rw [show decide ((0 : Int) < (lossL many s c ms)[i].1) = true from decide_eq_true hpos]
          refine iteT ⟨show 2 ≤ sizeLine by decide, fun y ny => ?_⟩
          refine q _ _ _ (e4.trans (.new e4.ok ny)) ?_
          rw [em]
          exact .tup (.of upd_same) (.cons (.int _) (.cons (.str _) .nil))
        · rw [if_neg hpos] at em
          rw [show decide ((0 : Int) < (lossL many s c ms)[i].1) = false from decide_eq_false hpos]
          refine iteF ⟨show 2 ≤ sizeLine by decide, fun y ny => ?_⟩
          refine q _ _ _ (e4.trans (.new e4.ok ny)) ?_
          rw [em]
          exact .tup (.of upd_same) (.cons (.int _) (.cons (.str _) .nil))
    · rintro σ H2 ⟨⟨u2, u3, rfl⟩, e2, hz⟩
      refine q _ _ _ e2 ?_
      rw [mist_drop ws.length hz (by omega), List.drop_of_length_le (by omega)]
      exact .non
end
end Lw
namespace Lw
open PySem L2 PySem.Spec PyProof.Rows
/-! ### the plain side of the draws -/
theorem mod_in (x : Int) {m : Int} (h : 0 < m) : 0 ≤ x % m ∧ x % m < m := ⟨Int.emod_nonneg _ (by omega), Int.emod_lt_of_pos _ h⟩
theorem sum_ints_add (q : Int) (f : Nat → Int) : ∀ n : Nat, ((List.range n).map fun p => q + f p).sum = n * q + ((List.range n).map f).sum
  | 0 => by simp
  | n + 1 => by
    rw [List.range_succ, List.map_append, List.map_append, List.sum_append, List.sum_append, sum_ints_add q f n, List.map_singleton, List.map_singleton, List.sum_singleton, List.sum_singleton, Int.natCast_add, Int.add_mul]
    omega
def bit (b : Bool) : Int := if b then 1 else 0
theorem bits_zero (m : Int) (p : Nat → Bool) : ∀ n : Nat, (∀ i < n, p i = false) → ((List.range n).map fun i => m * bit (p i)).sum = 0
  | 0, _ => rfl
  | n + 1, h => by
    rw [List.range_succ, List.map_append, List.sum_append, bits_zero m p n (fun i hi => h i (by omega)), List.map_singleton, List.sum_singleton, h n (by omega)]
    show (0 : Int) + m * 0 = 0
    omega
theorem sum_one (m : Int) (p : Nat → Bool) : ∀ n k : Nat, k < n → p k = true → (∀ i < n, i ≠ k → p i = false) → ((List.range n).map fun i => m * bit (p i)).sum = m
  | 0, k, h, _, _ => by omega
  | n + 1, k, h, hk, ho => by
    rw [List.range_succ, List.map_append, List.sum_append, List.map_singleton, List.sum_singleton]
    by_cases e : k = n
    · subst e
      rw [bits_zero m p k (fun i hi => ho i (by omega) (by omega)), hk]
      show (0 : Int) + m * 1 = m
      omega
    · rw [sum_one m p n k (by omega) hk (fun i hi => ho i (by omega)), ho n (by omega) (fun z => e z.symm)]
      show m + m * 0 = m
      omega
theorem even_fin : ∀ p a r : Fin 7, 2 ≤ p.val → a.val < p.val → r.val < p.val → ((List.range p.val).map fun x => bit (decide (((0 : Int) + (x : Nat) - (a.val : Int)) % (p.val : Int) < (r.val : Int)))).sum = r.val := by decide +kernel
theorem even_sum {m p a : Int} (h1 : 2 ≤ p) (h2 : p ≤ 6) (h3 : 0 ≤ a) (h4 : a < p) : ((List.range p.toNat).map fun x => m / p + bit (decide (((0 : Int) + (x : Nat) - a) % p < m % p))).sum = m := by
  have hr := mod_in m (show 0 < p by omega)
  have e := even_fin ⟨p.toNat, by omega⟩ ⟨a.toNat, by omega⟩ ⟨(m % p).toNat, by omega⟩ (by show 2 ≤ p.toNat; omega) (by show a.toNat < p.toNat; omega) (by show (m % p).toNat < p.toNat; omega)
  have c1 : ((p.toNat : Nat) : Int) = p := Int.toNat_of_nonneg (by omega)
  have c2 : ((a.toNat : Nat) : Int) = a := Int.toNat_of_nonneg h3
  have c3 : (((m % p).toNat : Nat) : Int) = m % p := Int.toNat_of_nonneg hr.1
  simp only [c1, c2, c3] at e
  rw [sum_ints_add, e, c1]
  exact Int.mul_ediv_add_emod m p
/-- the steps of a row of cuts -/
def dif : Int → List Int → Int → List Int
  | a, [], m => [m - a]
  | a, x :: r, m => (x - a) :: dif x r m
theorem dif_len : ∀ (a : Int) (l : List Int) (m : Int), (dif a l m).length = l.length + 1
  | _, [], _ => rfl
  | a, x :: r, m => by
    show (dif x r m).length + 1 = r.length + 1 + 1
    rw [dif_len x r m]
theorem dif_sum : ∀ (a : Int) (l : List Int) (m : Int), (dif a l m).sum = m - a
  | a, [], m => by show m - a + 0 = m - a; omega
  | a, x :: r, m => by
    show (x - a) + (dif x r m).sum = m - a
    rw [dif_sum x r m]
    omega
theorem dif_nn : ∀ {a : Int} {l : List Int} {m : Int}, l.Pairwise (· ≤ ·) → (∀ x ∈ l, a ≤ x ∧ x ≤ m) → a ≤ m → ∀ y ∈ dif a l m, 0 ≤ y
  | a, [], m, _, _, h => fun y hy => by
    have : y = m - a := List.mem_singleton.mp hy
    omega
  | a, x :: r, m, hp, hx, h => fun y hy => by
    obtain ⟨above, rest⟩ := List.pairwise_cons.mp hp
    have hxx := hx x (by simp)
    rcases (List.mem_cons.mp hy) with e | hy
    · omega
    · exact dif_nn rest (fun z hz => ⟨above z hz, (hx z (List.mem_cons_of_mem _ hz)).2⟩) hxx.2 y hy
theorem dif_at : ∀ {a : Int} {l : List Int} {m : Int} {i : Nat} (h : i < l.length + 1), (dif a l m)[i]? = some ((l ++ [m]).getD i 0 - (a :: l).getD i 0)
  | a, [], m, 0, _ => rfl
  | a, [], m, i + 1, h => by simp at h
  | a, x :: r, m, 0, _ => rfl
  | a, x :: r, m, i + 1, h => dif_at (a := x) (l := r) (m := m) (i := i) (by simpa using h)
theorem range_getD : ∀ l : List Int, ((List.range l.length).map fun p => l.getD p 0) = l
  | [] => rfl
  | x :: r => by
    rw [List.length_cons, List.range_succ_eq_map]
    rw [List.map_cons, List.map_map]
    show x :: ((List.range r.length).map fun p => r.getD p 0) = x :: r
    rw [range_getD r]
structure Col (p m : Int) (col : List Int) : Prop where
  len : (col.length : Int) = p
  nn : ∀ x ∈ col, 0 ≤ x
  sum : col.sum = m
theorem split_cols {p : Int} {c : List Int} {cols : List (List Int)} (hp : 0 ≤ p) (hl : cols.length = c.length) (h : ∀ j (hj : j < cols.length), Col p (c.getD j 0) cols[j]) :
    Split p c ((List.range p.toNat).map fun x => cols.map fun col => col.getD x 0) := by
  refine ⟨by rw [List.length_map, List.length_range]; omega, fun g hg => ?_, fun g hg x hx => ?_, fun j hj => ?_⟩
  · obtain ⟨i, _, rfl⟩ := List.mem_map.mp hg
    rw [List.length_map, hl]
  · obtain ⟨i, hi, rfl⟩ := List.mem_map.mp hg
    obtain ⟨col, hc, rfl⟩ := List.mem_map.mp hx
    obtain ⟨j, hj, rfl⟩ := List.mem_iff_getElem.mp hc
    have hcj := h j hj
    have below := List.mem_range.mp hi
    have := hcj.len
    have hic : i < cols[j].length := by omega
    rw [getD_at hic]
    exact hcj.nn _ (List.getElem_mem hic)
  · have hj' : j < cols.length := by omega
    have hcj := h j hj'
    rw [List.map_map]
    have e : (List.range p.toNat).map ((fun g => g.getD j 0) ∘ fun x => cols.map fun col => col.getD x 0) = (List.range cols[j].length).map fun x => cols[j].getD x 0 := by
      have el : cols[j].length = p.toNat := by have := hcj.len; omega
      rw [el]
      refine List.map_congr_left fun y _ => ?_
      show (cols.map fun col => col.getD y 0).getD j 0 = cols[j].getD y 0
      rw [getD_at (by rw [List.length_map]; exact hj'), List.getElem_map]
    rw [e, range_getD, hcj.sum]
end Lw
namespace Lw
open PySem L2 PySem.Spec PyProof.Rows
theorem md1 : (0 : Int) < 2147483646 := by decide
theorem md2 : (0 : Int) < 2147483647 := by decide
theorem md3 : (0 : Int) < 1000003 := by decide
theorem md4 : (0 : Int) < 2147483629 := by decide
theorem md5 : (0 : Int) < 2147483587 := by decide
theorem md6 : (0 : Int) < 2147483563 := by decide
theorem mul_mod_l {x m : Int} {j : Int} (h : 0 < m) (h2 : m < 2 ^ 63) : CMul (x % m) j := .inl (by have := mod_in x h; omega)
theorem src_ext {a : Addr} {G H : Hp} (ok : Ok (some a) G H) (x c k : Int) : Ext (some a) G H G (upd H a (.lst [.int x, .int c, .int k])) := by
  obtain ⟨ga, _⟩ := ok.src a rfl
  refine ⟨.refl _, ⟨fun b u e => ?_, fun b e => ?_⟩, fun b u n e => ?_, fun _ _ e => e⟩
  · rw [upd_ne (ne_of_none e ga)]
    exact ok.ex b u e
  · cases e
    exact ⟨ga, x, c, k, upd_same⟩
  · rw [upd_ne (fun z => n (by rw [z]))]
    exact e
section
variable {mg : Str → Option Value} {base : Heap} {K : PySem.W.Frag} {P : Program} {w : World}
def spMixed : Sp := fun vs H Q _ => ∃ c k : Int, vs = [.int c, .int k] ∧ ∀ r : Int, Q (.int r) H
theorem ok_l_mixed (D : Df K mg "_law_mixed" (topS 40)) : Cal P w K mg base "_law_mixed" ["_law_cell", "_law_k"] 1 spMixed := by
  have sc : FnScope ["_law_cell", "_law_k", "_law_number"] ["_law_cell", "_law_k"] (defScope (topS 40)) := ⟨rfl, rfl, rfl, by decide +kernel, rfl, by decide +kernel, by decide +kernel⟩
  refine cal_of D sc (fun _ _ _ _ _ _ us hl => match us, hl with | [_, _], _ => rfl) (fun vs H Q E h => ?_) fun f cdv A outer s H vs Q E hr h => ?_
  · obtain ⟨c, k, rfl, _⟩ := h; rfl
  · obtain ⟨c, k, rfl, q⟩ := h
    refine ⟨_, (pss_cons (ps_set (i := 2) sc.nd rfl (Or.inl rfl) (pe_op op_mod (pe_op op_mul (pe_op op_add (pe_op op_mod (pv 0) pe_int) pe_int) (pe_op op_add (pe_op op_mul (pv 1) pe_int) pe_int)) pe_int)) (pss_cons (ps_set (i := 2) sc.nd rfl (Or.inl rfl) (pe_op op_mod (pe_op op_mul (pe_op op_add (pv 2) (pe_op op_mul (pe_op op_mod (pe_op op_fdivW (pv 0) pe_int) pe_int) (pe_op op_add (pv 1) pe_int))) pe_int) pe_int)) (pss_cons (ps_set (i := 2) sc.nd rfl (Or.inl rfl) (pe_op op_mod (pe_op op_mul (pv 2) (pe_op op_add (pe_op op_add (pe_op op_fdivW (pv 2) pe_int) pe_int) (pv 1))) pe_int)) (pss_one (ps_ret (pe_op op_mod (pe_op op_mul (pv 2) (pe_op op_add (pe_op op_fdivW (pv 2) pe_int) pe_int)) pe_int)))))), ?_⟩
    refine ⟨_, rfl, _, _, rfl, rfl, md1, _, _, rfl, rfl, _, rfl, _, _, rfl, rfl, .inr ⟨by decide, by decide⟩, _, _, rfl, rfl, _, _, rfl, rfl, .inl ?_, _, _, rfl, rfl, md2, ?_⟩
    · have := mod_in c (m := 2147483646) (by decide)
      omega
    refine ⟨_, rfl, _, rfl, _, _, rfl, rfl, divW (by decide) (by decide), _, _, rfl, rfl, md3, _, rfl, _, _, rfl, rfl, _, _, rfl, rfl, mul_mod_l (by decide) (by decide), _, _, rfl, rfl, _, _, rfl, rfl, .inr ⟨by decide, by decide⟩, _, _, rfl, rfl, md4, ?_⟩
    refine ⟨_, rfl, _, rfl, _, _, rfl, rfl, divW (by decide) (by decide), _, _, rfl, rfl, _, rfl, _, _, rfl, rfl, _, _, rfl, rfl, mul_mod_l (by decide) (by decide), _, _, rfl, rfl, md5, ?_⟩
    exact ⟨_, rfl, _, rfl, _, _, rfl, rfl, divW (by decide) (by decide), _, _, rfl, rfl, _, _, rfl, rfl, mul_mod_l (by decide) (by decide), _, _, rfl, rfl, md6, q _⟩
def spTake : Sp := fun vs H Q _ => ∃ (G : Hp) (a : Addr) (many : Int), vs = [.ref a, .int many] ∧ Ok (some a) G H ∧ 1 ≤ many ∧ many < 2 ^ 64 ∧ ∀ r H', 0 ≤ r → r < many → Ext (some a) G H G H' → Q (.int r) H'
theorem ok_l_take (D : Df K mg "_law_take" (topS 41)) (c_l_mixed : Cal P w K mg base "_law_mixed" ["_law_cell", "_law_k"] 1 spMixed) : Cal P w K mg base "_law_take" ["_law_source_here", "_law_many"] 2 spTake := by
  have sc : FnScope ["_law_source_here", "_law_many", "_law_found"] ["_law_source_here", "_law_many"] (defScope (topS 41)) := ⟨rfl, rfl, rfl, by decide +kernel, rfl, by decide +kernel, by decide +kernel⟩
  refine cal_of D sc (fun _ _ _ _ _ _ us hl => match us, hl with | [_, _], _ => rfl) (fun vs H Q E h => ?_) fun f cdv A outer s H vs Q E hr h => ?_
  · obtain ⟨G, a, many, rfl, _⟩ := h; rfl
  · obtain ⟨G, a, many, rfl, ok, h1, h2, q⟩ := h
    refine ⟨_, (pss_cons (ps_if (pt_cmpR op_ge (pe_ix (ix_listK K) (pv 0) pe_int (fun _ _ => rfl)) (pe_op op_pow pe_int pe_int) (nomark _)) (pss_cons (ps_set (i := 2) sc.nd rfl (Or.inl rfl) (pe_op op_mod (pe_ix (ix_listK K) (pv 0) pe_int (fun _ _ => rfl)) (pv 1))) (pss_cons (ps_asg (pe_op op_fdivW (pe_ix (ix_listK K) (pv 0) pe_int (fun _ _ => rfl)) (pv 1)) (pg_sub (pv 0) pe_int set_list)) (pss_one (ps_ret (pv 2))))) pss_nil) (pss_cons (ps_asg (pe_op op_add (pe_ix (ix_listK K) (pv 0) pe_int (fun _ _ => rfl)) pe_int) (pg_sub (pv 0) pe_int set_list)) (pss_one (ps_ret (pe_op op_mod (pe_cal c_l_mixed (hr.mono (by decide)) (by rfl) (pa_cons (pe_ix (ix_listK K) (pv 0) pe_int (fun _ _ => rfl)) (pa_cons (pe_ix (ix_listK K) (pv 0) pe_int (fun _ _ => rfl)) pa_nil))) (pv 1)))))), ?_⟩
    obtain ⟨ga, x, c, k, ha⟩ := ok.src a rfl
    refine ⟨_, rfl, a, _, 0, .int x, rfl, rfl, .of ha, atI_nat (j := 0) rfl, _, _, rfl, rfl, ⟨by decide, by decide, by decide⟩, _, _, rfl, rfl, _, rfl, ite2 (fun _ => ?_) (fun _ => ?_)⟩
    · refine ⟨_, rfl, a, _, 0, .int x, rfl, rfl, .of ha, atI_nat (j := 0) rfl, _, rfl, _, _, rfl, rfl, by omega, ?_⟩
      refine ⟨_, rfl, a, _, 0, .int x, rfl, rfl, .of ha, atI_nat (j := 0) rfl, _, rfl, _, _, rfl, rfl, divW (by omega) h2, _, rfl, a, _, 0, 0, rfl, rfl, ha, rfl, ?_⟩
      exact ⟨_, rfl, q _ _ (mod_in _ (by omega)).1 (mod_in _ (by omega)).2 (src_ext ok _ c k)⟩
    · refine ⟨_, rfl, a, _, 2, .int k, rfl, rfl, .of ha, atI_nat (j := 2) rfl, _, _, rfl, rfl, _, rfl, a, _, 2, 2, rfl, rfl, ha, rfl, ?_⟩
      refine ⟨_, rfl, a, _, 1, .int c, rfl, rfl, .of upd_same, atI_nat (j := 1) rfl, _, rfl, a, _, 2, .int (k + 1), rfl, rfl, .of upd_same, atI_nat (j := 2) rfl, c, k + 1, rfl, fun r => ?_⟩
      exact ⟨_, rfl, _, _, rfl, rfl, by omega, q _ _ (mod_in _ (by omega)).1 (mod_in _ (by omega)).2 (src_ext ok x c (k + 1))⟩
def spOne (K : PySem.W.Frag) : Sp := fun vs H Q _ => ∃ (G : Hp) (a : Addr) (v : V) (ns : List Int), vs = [.ref a, v] ∧ Ok (some a) G H ∧ LstI K G v ns ∧ ns ≠ [] ∧ ns.length ≤ 1000 ∧ ∀ r H', r ∈ ns → Ext (some a) G H G H' → Q (.int r) H'
theorem ok_l_one (T : Gb mg) (D : Df K mg "_law_one" (topS 42)) (c_l_take : Cal P w K mg base "_law_take" ["_law_source_here", "_law_many"] 2 spTake) : Cal P w K mg base "_law_one" ["_law_source_here", "_law_some"] 3 (spOne K) := by
  have sc : FnScope ["_law_source_here", "_law_some"] ["_law_source_here", "_law_some"] (defScope (topS 42)) := ⟨rfl, rfl, rfl, by decide +kernel, rfl, by decide +kernel, by decide +kernel⟩
  refine cal_of D sc (fun _ _ _ _ _ _ us hl => match us, hl with | [_, _], _ => rfl) (fun vs H Q E h => ?_) fun f cdv A outer s H vs Q E hr h => ?_
  · obtain ⟨G, a, v, ns, rfl, _⟩ := h; rfl
  · obtain ⟨G, a, v, ns, rfl, ok, ⟨l, rfl, hl⟩, hne, hlen, q⟩ := h
    refine ⟨_, (pss_one (ps_ret (pe_ix (ix_listK K) (pv 1) (pe_cal c_l_take (hr.mono (by decide)) (by rfl) (pa_cons (pv 0) (pa_cons (pe_callB (cr_lenK K) (by rfl) T.len_ (by decide +kernel) (pa_cons (pv 1) pa_nil)) pa_nil))) (fun _ _ => rfl)))), ?_⟩
    have hpos : 0 < ns.length := List.length_pos_iff.mpr hne
    refine ⟨_, rfl, _, rfl, _, rfl, l, _, rfl, .inl (ok.ex.seq hl), G, a, _, rfl, ok, by rw [List.length_map]; omega, by rw [List.length_map]; omega, fun r H' h0 h1 e => ?_⟩
    rw [List.length_map] at h1
    have hr' : r.toNat < ns.length := by omega
    refine ⟨l, _, r, .int ns[r.toNat], rfl, rfl, e.ok.ex.seq hl, at_of (j := r.toNat) (by omega) (int_get hr'), q _ _ (List.getElem_mem hr') e⟩
def spSource : Sp := fun vs H Q _ => ∃ c : Int, vs = [.int c] ∧ ∀ p, H p = none → Q (.ref p) (upd H p (.lst [.int c, .int c, .int 0]))
theorem ok_l_source (D : Df K mg "_law_source" (topS 43)) : Cal P w K mg base "_law_source" ["_law_cell"] 1 spSource := by
  have sc : FnScope ["_law_cell"] ["_law_cell"] (defScope (topS 43)) := ⟨rfl, rfl, rfl, by decide +kernel, rfl, by decide +kernel, by decide +kernel⟩
  refine cal_of D sc (fun _ _ _ _ _ _ us hl => match us, hl with | [_], _ => rfl) (fun vs H Q E h => ?_) fun f cdv A outer s H vs Q E hr h => ?_
  · obtain ⟨c, rfl, _⟩ := h; rfl
  · obtain ⟨c, rfl, q⟩ := h
    refine ⟨_, (pss_one (ps_ret (pe_lst (pa_cons (pv 0) (pa_cons (pv 0) (pa_cons pe_int pa_nil)))))), ?_⟩
    exact ⟨_, rfl, _, rfl, show 3 ≤ sizeLine by decide, q⟩
def spLSteps (K : PySem.W.Frag) : Sp := fun vs H Q _ => ∃ (G : Hp) (a : Addr), vs = [.ref a, .int 2, .int 9, .int 6] ∧ Ok (some a) G H ∧ ∀ v ns G' H', Ext (some a) G H G' H' → LstI K G' v ns → 2 ≤ ns.length → ns.length ≤ 9 → (∀ e ∈ ns, 2 ≤ e ∧ e ≤ 6) → Q v H'
theorem ok_l_steps (T : Gb mg) (D : Df K mg "_law_steps" (topS 44)) (c_l_take : Cal P w K mg base "_law_take" ["_law_source_here", "_law_many"] 2 spTake) : Cal P w K mg base "_law_steps" ["_law_source_here", "_law_least", "_law_most", "_law_high"] 3 (spLSteps K) := by
  have sc : FnScope ["_law_source_here", "_law_least", "_law_most", "_law_high", "_law_turn"] ["_law_source_here", "_law_least", "_law_most", "_law_high"] (defScope (topS 44)) := ⟨rfl, rfl, rfl, by decide +kernel, rfl, by decide +kernel, by decide +kernel⟩
  refine cal_of D sc (fun _ _ _ _ _ _ us hl => match us, hl with | [_, _, _, _], _ => rfl) (fun vs H Q E h => ?_) fun f cdv A outer s H vs Q E hr h => ?_
  · obtain ⟨G, a, rfl, _⟩ := h; rfl
  · obtain ⟨G, a, rfl, ok, q⟩ := h
    refine ⟨_, (pss_one (ps_ret (pe_lc (own := [("_law_turn", 4)]) rfl sc.nd (pi_range1 (by rfl) T.range_ (pa_cons (pe_op op_add (pv 1) (pe_cal c_l_take (hr.mono (by decide)) (by rfl) (pa_cons (pv 0) (pa_cons (pe_op op_add (pe_op op_sub (pv 2) (pv 1)) pe_int) pa_nil)))) pa_nil)) (blkOk_by (by kernel_rfl)) (fun _ _ _ _ _ => (pg_name (i := 4) sc.nd rfl (Or.inl rfl))) (fun _ _ _ _ _ => pts_nil) (fun _ _ _ _ _ => (pe_op op_add pe_int (pe_cal c_l_take (hr.mono (by decide)) (by rfl) (pa_cons (pv 0) (pa_cons (pe_op op_sub (pv 3) pe_int) pa_nil)))))))), ?_⟩
    refine ⟨_, rfl, _, rfl, _, rfl, _, rfl, _, _, rfl, rfl, _, _, rfl, rfl, G, a, _, rfl, ok, by decide, by decide, fun n H1 n0 n1 e1 => ?_⟩
    refine ⟨_, _, rfl, rfl, 2 + n, rfl, by omega, by omega, fun Dl hD => ?_⟩
    refine lcG (walk_range (lo := 0) (n := (2 + n).toNat)) (fun i acc _ => ∃ ns : List Int, acc = ns.map V.int ∧ ns.length = i ∧ ∀ e ∈ ns, 2 ≤ e ∧ e ≤ 6) hD e1.ok (by omega) (fun _ _ _ => trivial) ⟨[], rfl, rfl, fun _ h => nomatch h⟩ ?_ ?_
    · rintro i x acc G2 H2 H2' hi e2 ⟨ns, rfl, rfl, hns⟩ ⟨rfl, rfl⟩ Q' k
      refine ⟨rfl, _, rfl, _, rfl, _, _, rfl, rfl, G2, a, _, rfl, e2.ok, by decide, by decide, fun r H3 r0 r1 e3 => ?_⟩
      refine ⟨_, _, rfl, rfl, k _ _ _ e3 ⟨ns ++ [2 + r], by rw [List.map_append]; rfl, by rw [List.length_append]; rfl, fun e he => ?_⟩⟩
      rcases List.mem_append.mp he with h | h
      · exact hns e h
      · rw [List.mem_singleton.mp h]
        omega
    · rintro acc G2 G3 H2 sg e2 eD ⟨ns, rfl, hl, hns⟩
      exact q _ _ _ _ (e1.trans e2) ⟨Dl, rfl, .of eD⟩ (by omega) (by omega) hns
def spWhere (K : PySem.W.Frag) : Sp := fun vs H Q _ => ∃ (G : Hp) (a : Addr) (n bd : Int), vs = [.ref a, .int n, .int bd] ∧ Ok (some a) G H ∧ 0 ≤ n ∧ n ≤ 100 ∧ 1 ≤ bd ∧ bd ≤ 10 ^ 17 ∧
  ∀ v ns G' H', Ext (some a) G H G' H' → TupI K G' v ns → (ns.length : Int) = n → (∀ x ∈ ns, 0 ≤ x ∧ x ≤ 10 ^ 17) → Q v H'
theorem ok_l_where (T : Gb mg) (D : Df K mg "_law_where" (topS 45)) (c_l_take : Cal P w K mg base "_law_take" ["_law_source_here", "_law_many"] 2 spTake) (c_l_one : Cal P w K mg base "_law_one" ["_law_source_here", "_law_some"] 3 (spOne K)) : Cal P w K mg base "_law_where" ["_law_source_here", "_law_length", "_law_bound"] 4 (spWhere K) := by
  have sc : FnScope ["_law_source_here", "_law_length", "_law_bound", "_law_turn"] ["_law_source_here", "_law_length", "_law_bound"] (defScope (topS 45)) := ⟨rfl, rfl, rfl, by decide +kernel, rfl, by decide +kernel, by decide +kernel⟩
  refine cal_of D sc (fun _ _ _ _ _ _ us hl => match us, hl with | [_, _, _], _ => rfl) (fun vs H Q E h => ?_) fun f cdv A outer s H vs Q E hr h => ?_
  · obtain ⟨G, a, n, bd, rfl, _⟩ := h; rfl
  · obtain ⟨G, a, n, bd, rfl, ok, n0, n1, b0, b1, q⟩ := h
    refine ⟨_, (pss_one (ps_ret (pe_callTy (cr_tupleK K) (by rfl) T.tuple_ (by decide +kernel) (pa_cons (pe_lc (own := [("_law_turn", 3)]) rfl sc.nd (pi_range1 (by rfl) T.range_ (pa_cons (pv 1) pa_nil)) (blkOk_by (by kernel_rfl)) (fun _ _ _ _ _ => (pg_name (i := 3) sc.nd rfl (Or.inl rfl))) (fun _ _ _ _ _ => pts_nil) (fun _ _ _ _ _ => (pe_cal c_l_one (hr.mono (by decide)) (by rfl) (pa_cons (pv 0) (pa_cons (pe_lst (pa_cons pe_int (pa_cons pe_int (pa_cons (pe_cal c_l_take (hr.mono (by decide)) (by rfl) (pa_cons (pv 0) (pa_cons (pe_op op_add (pv 2) pe_int) pa_nil))) pa_nil)))) pa_nil))))) pa_nil)))), ?_⟩
    refine ⟨_, rfl, n, rfl, by omega, by omega, fun Dl hD => ?_⟩
    refine lcG (walk_range (lo := 0) (n := n.toNat)) (fun i acc _ => ∃ ns : List Int, acc = ns.map V.int ∧ ns.length = i ∧ ∀ x ∈ ns, 0 ≤ x ∧ x ≤ 10 ^ 17) hD ok (by omega) (fun _ _ _ => trivial) ⟨[], rfl, rfl, fun _ h => nomatch h⟩ ?_ ?_
    · rintro i x acc G2 H2 H2' hi e2 ⟨ns, rfl, rfl, hns⟩ ⟨rfl, rfl⟩ Q' k
      refine ⟨rfl, _, rfl, _, rfl, _, rfl, _, _, rfl, rfl, G2, a, _, rfl, e2.ok, by omega, by omega, fun r H3 r0 r1 e3 => ?_⟩
      refine ⟨show 3 ≤ sizeLine by decide, fun l nl => ?_⟩
      have e4 := e3.trans (.new (o := .lst [.int 0, .int 1, .int r]) e3.ok nl)
      refine ⟨_, a, _, [0, 1, r], rfl, e4.ok, ⟨l, rfl, .of upd_same⟩, by simp, by simp, fun y H5 hy e5 => ?_⟩
      refine k _ _ _ (e4.trans e5) ⟨ns ++ [y], by rw [List.map_append]; rfl, by rw [List.length_append]; rfl, fun z hz => ?_⟩
      rcases List.mem_append.mp hz with h | h
      · exact hns z h
      · rw [List.mem_singleton.mp h]
        simp at hy
        omega
    · rintro acc G2 G3 H2 sg e2 eD ⟨ns, rfl, hl, hns⟩
      refine ⟨Dl, _, rfl, .inl ⟨.of (e2.ok.ex _ _ eD), fun t nt => ?_⟩⟩
      exact q _ _ _ _ (e2.trans (.new e2.ok nt)) ⟨t, rfl, .of upd_same⟩ (by omega) hns
end
end Lw
namespace Lw
open PySem L2 PySem.Spec PyProof.Rows
theorem range_snoc (f : Nat → Int) (i : Nat) : ((List.range (i + 1)).map f).map V.int = ((List.range i).map f).map V.int ++ [V.int (f i)] := by
  rw [List.range_succ, List.map_append, List.map_append]
  rfl
theorem dif_snoc {a : Int} {l : List Int} {m : Int} {i : Nat} (h : i < l.length + 1) : ((dif a l m).take (i + 1)).map V.int = ((dif a l m).take i).map V.int ++ [V.int ((l ++ [m]).getD i 0 - (a :: l).getD i 0)] := by
  rw [List.take_add_one, dif_at h, List.map_append]
  rfl
theorem getD_of {l : List Int} {i : Nat} {y : V} (h : (l.map V.int)[i]? = some y) : y = .int (l.getD i 0) := by
  obtain ⟨hi, e⟩ := int_at h
  rw [e, getD_at hi]
section
variable {mg : Str → Option Value} {base : Heap} {K : PySem.W.Frag} {P : Program} {w : World}
def spShared (K : PySem.W.Frag) : Sp := fun vs H Q _ => ∃ (G : Hp) (a : Addr) (many parts : Int), vs = [.ref a, .int many, .int parts] ∧ Ok (some a) G H ∧ 0 ≤ many ∧ many ≤ 10 ^ 17 ∧ 2 ≤ parts ∧ parts ≤ 6 ∧
  ∀ v ns G' H', Ext (some a) G H G' H' → LstI K G' v ns → Col parts many ns → Q v H'
theorem ok_l_shared (T : Gb mg) (D : Df K mg "_law_shared" (topS 46)) (c_l_take : Cal P w K mg base "_law_take" ["_law_source_here", "_law_many"] 2 spTake) : Cal P w K mg base "_law_shared" ["_law_source_here", "_law_many", "_law_parts"] 3 (spShared K) := by
  have sc : FnScope ["_law_source_here", "_law_many", "_law_parts", "_law_kind", "_law_at", "_law_cuts", "_law_part", "_law_begin", "_law_end"] ["_law_source_here", "_law_many", "_law_parts"] (defScope (topS 46)) := ⟨rfl, rfl, rfl, by decide +kernel, rfl, by decide +kernel, by decide +kernel⟩
  refine cal_of D sc (fun _ _ _ _ _ _ us hl => match us, hl with | [_, _, _], _ => rfl) (fun vs H Q E h => ?_) fun f cdv A outer s H vs Q E hr h => ?_
  · obtain ⟨G, a, many, parts, rfl, _⟩ := h; rfl
  · obtain ⟨G, a, many, parts, rfl, ok, m0, m1, p0, p1, q⟩ := h
    refine ⟨_, (pss_cons (ps_set (i := 3) sc.nd rfl (Or.inl rfl) (pe_cal c_l_take (hr.mono (by decide)) (by rfl) (pa_cons (pv 0) (pa_cons pe_int pa_nil)))) (pss_cons (ps_set (i := 4) sc.nd rfl (Or.inr rfl) (pe_cal c_l_take (hr.mono (by decide)) (by rfl) (pa_cons (pv 0) (pa_cons (pv 2) pa_nil)))) (pss_cons (ps_if (pt_cmpR op_eq (pv 3) pe_int (nomark _)) (pss_one (ps_ret (pe_lc (own := [("_law_part", 6)]) rfl sc.nd (pi_range1 (by rfl) T.range_ (pa_cons (pv 2) pa_nil)) (blkOk_by (by kernel_rfl)) (fun _ _ _ _ _ => (pg_name (i := 6) sc.nd rfl (Or.inl rfl))) (fun _ _ _ _ _ => pts_nil) (fun _ _ _ _ _ => (pe_op op_mul (pv 1) (pe_callTy call_int1 (by rfl) T.int_ (by decide +kernel) (pa_cons (pe_cmpR op_eq (pv 6) (pv 4) (nomark _)) pa_nil))))))) pss_nil) (pss_cons (ps_if (pt_cmpR op_lt (pv 3) pe_int (nomark _)) (pss_one (ps_ret (pe_lc (own := [("_law_part", 6)]) rfl sc.nd (pi_range1 (by rfl) T.range_ (pa_cons (pv 2) pa_nil)) (blkOk_by (by kernel_rfl)) (fun _ _ _ _ _ => (pg_name (i := 6) sc.nd rfl (Or.inl rfl))) (fun _ _ _ _ _ => pts_nil) (fun _ _ _ _ _ => (pe_op op_add (pe_op op_fdivW (pv 1) (pv 2)) (pe_callTy call_int1 (by rfl) T.int_ (by decide +kernel) (pa_cons (pe_cmpR op_lt (pe_op op_mod (pe_op op_sub (pv 6) (pv 4)) (pv 2)) (pe_op op_mod (pv 1) (pv 2)) (nomark _)) pa_nil))))))) pss_nil) (pss_cons (ps_set (i := 5) sc.nd rfl (Or.inl rfl) (pe_callB (cr_sortedK K) (by rfl) T.sorted_ (by decide +kernel) (pa_cons (pe_lc (own := [("_law_part", 6)]) rfl sc.nd (pi_range1 (by rfl) T.range_ (pa_cons (pe_op op_sub (pv 2) pe_int) pa_nil)) (blkOk_by (by kernel_rfl)) (fun _ _ _ _ _ => (pg_name (i := 6) sc.nd rfl (Or.inl rfl))) (fun _ _ _ _ _ => pts_nil) (fun _ _ _ _ _ => (pe_cal c_l_take (hr.mono (by decide)) (by rfl) (pa_cons (pv 0) (pa_cons (pe_op op_add (pv 1) pe_int) pa_nil))))) pa_nil))) (pss_one (ps_ret (pe_lc (own := [("_law_begin", 7), ("_law_end", 8)]) rfl sc.nd (pi_zipK K (by rfl) T.zip_ (pa_cons (pe_op (op_catLK K) (pe_lst (pa_cons pe_int pa_nil)) (pv 5)) (pa_cons (pe_op (op_catLK K) (pv 5) (pe_lst (pa_cons (pv 1) pa_nil))) pa_nil))) (blkOk_by (by kernel_rfl)) (fun _ _ _ _ _ => (pg_tupK K 2 rfl (pgs_cons (pg_name (i := 7) sc.nd rfl (Or.inl rfl)) (pgs_cons (pg_name (i := 8) sc.nd rfl (Or.inl rfl)) pgs_nil)))) (fun _ _ _ _ _ => pts_nil) (fun _ _ _ _ _ => (pe_op op_sub (pv 8) (pv 7))))))))))), ?_⟩
    refine ⟨_, rfl, G, a, _, rfl, ok, by decide, by decide, fun kd H1 k0 k1 e1 => ?_⟩
    refine ⟨_, rfl, _, rfl, G, a, _, rfl, e1.ok, by omega, by omega, fun at_ H2 a0 a1 e2 => ?_⟩
    have e02 := e1.trans e2
    have pn : ((parts.toNat : Nat) : Int) = parts := Int.toNat_of_nonneg (by omega)
    refine ⟨_, rfl, rfl, _, rfl, ite2 (fun _ => ?_) (fun _ => ?_)⟩
    · refine ⟨_, rfl, parts, rfl, by omega, by omega, fun Dl hD => ?_⟩
      refine lcG (walk_range (lo := 0) (n := parts.toNat)) (fun i acc _ => acc = ((List.range i).map fun x => many * bit (decide (V.int ((0 : Int) + (x : Nat)) = V.int at_))).map V.int) hD e02.ok (by omega) (fun _ _ _ => trivial) rfl ?_ ?_
      · rintro i x acc G2 H2 H2' hi e3 ha ⟨rfl, rfl⟩ Q' k
        refine ⟨rfl, _, rfl, _, rfl, _, rfl, rfl, .inr ⟨_, rfl, _, _, rfl, rfl, .inl (by omega), ?_⟩⟩
        refine k _ G2 _ (.refl e3.ok) ?_
        rw [ha, range_snoc]
        rfl
      · rintro acc G2 G3 H3 sg e3 eD ha
        refine q _ _ _ _ (e02.trans e3) ⟨Dl, rfl, .of (by rw [← ha]; exact eD)⟩ ⟨by rw [List.length_map, List.length_range]; omega, fun y hy => ?_, ?_⟩
        · obtain ⟨x, _, rfl⟩ := List.mem_map.mp hy
          refine Int.mul_nonneg m0 ?_
          unfold bit
          split <;> omega
        · refine sum_one many _ parts.toNat at_.toNat (by omega) (decide_eq_true (congrArg V.int (by omega))) fun i hi hn => decide_eq_false fun z => ?_
          injection z with z
          omega
    refine ⟨_, rfl, _, _, rfl, rfl, _, rfl, ite2 (fun _ => ?_) (fun _ => ?_)⟩
    · refine ⟨_, rfl, parts, rfl, by omega, by omega, fun Dl hD => ?_⟩
      refine lcG (walk_range (lo := 0) (n := parts.toNat)) (fun i acc _ => acc = ((List.range i).map fun x => many / parts + bit (decide (((0 : Int) + (x : Nat) - at_) % parts < many % parts))).map V.int) hD e02.ok (by omega) (fun _ _ _ => trivial) rfl ?_ ?_
      · rintro i x acc G2 H2 H2' hi e3 ha ⟨rfl, rfl⟩ Q' k
        refine ⟨rfl, _, rfl, _, rfl, _, _, rfl, rfl, divW (by omega) (by omega), ?_⟩
        refine ⟨_, rfl, _, rfl, _, _, rfl, rfl, _, rfl, _, _, rfl, rfl, (show (0 : Int) < parts by omega), _, rfl, _, rfl, _, _, rfl, rfl, (show (0 : Int) < parts by omega), _, _, rfl, rfl, .inr ⟨_, rfl, _, _, rfl, rfl, ?_⟩⟩
        refine k _ G2 _ (.refl e3.ok) ?_
        rw [ha, range_snoc]
        rfl
      · rintro acc G2 G3 H3 sg e3 eD ha
        refine q _ _ _ _ (e02.trans e3) ⟨Dl, rfl, .of (by rw [← ha]; exact eD)⟩ ⟨by rw [List.length_map, List.length_range]; omega, fun y hy => ?_, even_sum p0 p1 a0 a1⟩
        obtain ⟨x, _, rfl⟩ := List.mem_map.mp hy
        have h1 : 0 ≤ many / parts := Int.ediv_nonneg m0 (by omega)
        have h2 : ∀ b, 0 ≤ bit b := fun b => by unfold bit; split <;> omega
        have := h2 (decide (((0 : Int) + (x : Nat) - at_) % parts < many % parts))
        omega
    refine ⟨_, rfl, _, _, rfl, rfl, parts - 1, rfl, by omega, by omega, fun Dl hD => ?_⟩
    refine lcG (walk_range (lo := 0) (n := (parts - 1).toNat)) (fun i acc _ => ∃ ns : List Int, acc = ns.map V.int ∧ ns.length = i ∧ ∀ x ∈ ns, 0 ≤ x ∧ x ≤ many) hD e02.ok (by omega) (fun _ _ _ => trivial) ⟨[], rfl, rfl, fun _ h => nomatch h⟩ ?_ ?_
    · rintro i x acc G2 H2 H2' hi e3 ⟨ns, rfl, rfl, hns⟩ ⟨rfl, rfl⟩ Q' k
      refine ⟨rfl, _, rfl, _, rfl, _, _, rfl, rfl, G2, a, _, rfl, e3.ok, by omega, by omega, fun r H3 r0 r1 e4 => ?_⟩
      refine k _ _ _ e4 ⟨ns ++ [r], by rw [List.map_append]; rfl, by rw [List.length_append]; rfl, fun z hz => ?_⟩
      rcases List.mem_append.mp hz with h | h
      · exact hns z h
      · rw [List.mem_singleton.mp h]
        omega
    · rintro acc G2 G3 H3 sg e3 eD ⟨ns, rfl, hl, hns⟩
      refine ⟨Dl, ns, rfl, .of (e3.ok.ex _ _ eD), fun ns' p hp hs np => ?_⟩
      have e4 := (e02.trans e3).trans (.new (o := .lst (ns'.map V.int)) e3.ok np)
      have l' : ns'.length = ns.length := hp.length_eq
      have b' : ∀ x ∈ ns', 0 ≤ x ∧ x ≤ many := fun x hx => hns x (hp.mem_iff.mp hx)
      refine ⟨show 1 ≤ sizeLine by decide, fun u nu => ?_⟩
      have e5 := e4.trans (.new (o := .lst [.int 0]) e4.ok nu)
      have hp5 := e5.ok.ex
      have pu : p ≠ u := fun z => by rw [z, upd_same] at nu; cases nu
      have lp : (upd (upd H3 p (.lst (ns'.map V.int))) u (.lst [.int 0])) p = some (.lst (ns'.map V.int)) := by rw [upd_ne pu, upd_same]
      refine ⟨_, rfl, u, p, [.int 0], _, rfl, rfl, .of upd_same, .of lp, Nat.le_trans (show 1 + (ns'.map V.int).length ≤ 100 by rw [List.length_map]; omega) (by decide), fun z1 n1 => ?_⟩
      have e6 := e5.trans (.new (o := .lst ([.int 0] ++ ns'.map V.int)) e5.ok n1)
      refine ⟨_, rfl, _, rfl, show 1 ≤ sizeLine by decide, fun u2 nu2 => ?_⟩
      have e7 := e6.trans (.new (o := .lst [.int many]) e6.ok nu2)
      have s7 : ∀ x o, (upd (upd H3 p (.lst (ns'.map V.int))) u (.lst [.int 0])) x = some o → (upd (upd (upd (upd H3 p (.lst (ns'.map V.int))) u (.lst [.int 0])) z1 (.lst ([.int 0] ++ ns'.map V.int))) u2 (.lst [.int many])) x = some o := fun x o e => same_new nu2 _ _ (same_new n1 _ _ e)
      refine ⟨p, u2, _, [.int many], rfl, rfl, .of (s7 _ _ lp), .of upd_same, Nat.le_trans (show (ns'.map V.int).length + 1 ≤ 100 by rw [List.length_map]; omega) (by decide), fun z2 n2 => ?_⟩
      have e8 := e7.trans (.new (o := .lst (ns'.map V.int ++ [.int many])) e7.ok n2)
      have l1 : (upd (upd (upd (upd (upd H3 p (.lst (ns'.map V.int))) u (.lst [.int 0])) z1 (.lst ([.int 0] ++ ns'.map V.int))) u2 (.lst [.int many])) z2 (.lst (ns'.map V.int ++ [.int many]))) z1 = some (.lst (((0 : Int) :: ns').map V.int)) := same_new n2 _ _ (same_new nu2 _ _ upd_same)
      have l2 : (upd (upd (upd (upd (upd H3 p (.lst (ns'.map V.int))) u (.lst [.int 0])) z1 (.lst ([.int 0] ++ ns'.map V.int))) u2 (.lst [.int many])) z2 (.lst (ns'.map V.int ++ [.int many]))) z2 = some (.lst ((ns' ++ [many]).map V.int)) := by
        rw [upd_same, List.map_append]
        rfl
      refine ⟨z1, z2, _, _, rfl, .of l1, .of l2, fun Dl2 hD2 => ?_⟩
      refine lcG (walk_zip (K := K) (a := z1) (b := z2) (xs := ((0 : Int) :: ns').map V.int) (ys := (ns' ++ [many]).map V.int) (n := ns'.length + 1) (by simp)) (fun i acc _ => acc = ((dif 0 ns' many).take i).map V.int) hD2 e8.ok (by omega) (fun G' H' e => ⟨.of (e.keep _ _ (Ext.ne_src e5.ok n1) l1), .of (e.keep _ _ (Ext.ne_src e7.ok n2) l2)⟩) rfl ?_ ?_
      · rintro i x acc G4 H4 H4' hi e9 ha ⟨TA, x1, y1, rfl, nT, rfl, hx, hy⟩ Q' k
        cases getD_of hx
        cases getD_of hy
        refine ⟨TA, _, rfl, .of upd_same, rfl, _, _, rfl, _, _, rfl, rfl, rfl, _, rfl, _, rfl, _, _, rfl, rfl, ?_⟩
        refine k _ G4 _ (.tmp e9.ok nT) ?_
        rw [ha, dif_snoc (by omega)]
      · rintro acc G4 G5 H4 sg4 e9 eD4 ha
        have dl := dif_len 0 ns' many
        rw [List.take_of_length_le (by omega)] at ha
        refine q _ _ _ _ (e8.trans e9) ⟨Dl2, rfl, .of (by rw [← ha]; exact eD4)⟩ ⟨by omega, dif_nn hs b' m0, ?_⟩
        rw [dif_sum]
        omega
def spSplitL (K : PySem.W.Frag) : Sp := fun vs H Q _ => ∃ (G : Hp) (a : Addr) (parts : Int) (cv : V) (c : List Int), vs = [.ref a, .int parts, cv] ∧ Ok (some a) G H ∧ TupI K G cv c ∧ c.length ≤ 100 ∧ (∀ x ∈ c, 0 ≤ x ∧ x ≤ 10 ^ 17) ∧ 2 ≤ parts ∧ parts ≤ 6 ∧
  ∀ v gs G' H', Ext (some a) G H G' H' → Gs K G' v gs → Split parts c gs → Q v H'
theorem ok_l_split (T : Gb mg) (D : Df K mg "_law_split" (topS 47)) (c_l_shared : Cal P w K mg base "_law_shared" ["_law_source_here", "_law_many", "_law_parts"] 3 (spShared K)) : Cal P w K mg base "_law_split" ["_law_source_here", "_law_parts", "_law_where_here"] 4 (spSplitL K) := by
  have sc : FnScope ["_law_source_here", "_law_parts", "_law_where_here", "_law_columns", "_law_many", "_law_part", "_law_column"] ["_law_source_here", "_law_parts", "_law_where_here"] (defScope (topS 47)) := ⟨rfl, rfl, rfl, by decide +kernel, rfl, by decide +kernel, by decide +kernel⟩
  refine cal_of D sc (fun _ _ _ _ _ _ us hl => match us, hl with | [_, _, _], _ => rfl) (fun vs H Q E h => ?_) fun f cdv A outer s H vs Q E hr h => ?_
  · obtain ⟨G, a, parts, cv, c, rfl, _⟩ := h; rfl
  · obtain ⟨G, a, parts, cv, c, rfl, ok, ⟨b, rfl, hb⟩, cl, cb, p0, p1, q⟩ := h
    refine ⟨_, (pss_cons (ps_set (i := 3) sc.nd rfl (Or.inr rfl) (pe_lc (own := [("_law_many", 4)]) rfl sc.nd (pi_tupK K (pv 2)) (blkOk_by (by kernel_rfl)) (fun _ _ _ _ _ => (pg_name (i := 4) sc.nd rfl (Or.inl rfl))) (fun _ _ _ _ _ => pts_nil) (fun _ _ _ _ _ => (pe_cal c_l_shared (hr.mono (by decide)) (by rfl) (pa_cons (pv 0) (pa_cons (pv 4) (pa_cons (pv 1) pa_nil))))))) (pss_one (ps_ret (pe_lc (own := [("_law_part", 5)]) rfl sc.nd (pi_range1 (by rfl) T.range_ (pa_cons (pv 1) pa_nil)) (blkOk_by (by kernel_rfl)) (fun _ _ _ _ _ => (pg_name (i := 5) sc.nd rfl (Or.inr rfl))) (fun _ _ _ _ _ => pts_nil) (fun _ _ _ _ _ => (pe_callTy (cr_tupleK K) (by rfl) T.tuple_ (by decide +kernel) (pa_cons (pe_lc (own := [("_law_column", 6)]) rfl sc.nd (pi_listK K (pv 3)) (blkOk_by (by kernel_rfl)) (fun _ _ _ _ _ => (pg_name (i := 6) sc.nd rfl (Or.inl rfl))) (fun _ _ _ _ _ => pts_nil) (fun _ _ _ _ _ => (pe_ix (ix_listK K) (pv 6) (pv 5) (fun _ _ => rfl)))) pa_nil))))))), ?_⟩
    refine ⟨_, rfl, b, rfl, ⟨_, ok.ex.tup hb⟩, fun Dl hD => ?_⟩
    refine lcG (walk_tup (K := K) (a := b) (xs := c.map V.int)) (fun i acc G' => ∃ cols, Paired (LstI K G') acc cols ∧ cols.length = i ∧ ∀ j (hj : j < cols.length), Col parts (c.getD j 0) cols[j]) hD ok (by rw [List.length_map]; omega) (fun G' H' e => (e.g.trans e.ok.ex).tup hb) ⟨[], .nil, rfl, fun j hj => absurd hj (Nat.not_lt_zero j)⟩ ?_ ?_
    · rintro i x acc G2 H2 H2' hi e2 ⟨cols, hp, rfl, hc⟩ ⟨rfl, hx⟩ Q' k
      obtain ⟨hi', rfl⟩ := int_at hx
      have bb := cb _ (List.getElem_mem hi')
      refine ⟨rfl, _, rfl, _, rfl, _, rfl, G2, a, _, parts, rfl, e2.ok, bb.1, bb.2, p0, p1, fun v ns G3 H3 e3 hv hcol => ?_⟩
      refine k _ _ _ e3 ⟨cols ++ [ns], papp (Paired.mapP hp fun _ _ h => LstI.mono e3.g h) hv, by rw [List.length_append]; rfl, fun j hj => ?_⟩
      by_cases h : j < cols.length
      · rw [List.getElem_append_left h]
        exact hc j h
      · have ej : j = cols.length := by
          rw [List.length_append, List.length_singleton] at hj
          omega
        subst ej
        rw [List.getElem_append_right (Nat.le_refl _), getD_at hi']
        simpa using hcol
    · rintro acc G2 G3 H3 sg e2 eD ⟨cols, hp, hl, hc⟩
      rw [List.length_map] at hl
      have lp := hp.length
      refine ⟨_, rfl, parts, rfl, by omega, by omega, fun D2 hD2 => ?_⟩
      refine lcG (walk_range (lo := 0) (n := parts.toNat)) (fun i acc G' => Paired (TupI K G') acc ((List.range i).map fun x => cols.map fun col => col.getD x 0)) hD2 e2.ok (by omega) (fun _ _ _ => trivial) .nil ?_ ?_
      · rintro i x acc2 G4 H4 H4' hi e4 ha ⟨rfl, rfl⟩ Q' k
        have d4 : SqL K H4' Dl acc := .of (e4.ok.ex _ _ (e4.g _ _ eD))
        refine ⟨rfl, _, rfl, Dl, rfl, ⟨_, d4⟩, fun D3 hD3 => ?_⟩
        refine lcG (walk_list (K := K) (a := Dl) (xs := acc)) (fun j acc3 _ => acc3 = ((cols.take j).map fun col => col.getD i 0).map V.int) hD3 e4.ok (by omega) (fun G' H' e => (e.g.trans e.ok.ex).seq (.of (e4.g _ _ eD))) rfl ?_ ?_
        · rintro j y acc3 G5 H5 H5' hj e5 ha3 ⟨rfl, hx⟩ Q2 k2
          obtain ⟨hj', l, rfl, hl'⟩ := pat hp hx
          have hcj := hc j hj'
          have cl' := hcj.len
          have hil : i < cols[j].length := by omega
          have g5 : Same G2 H5' := sg.trans (e4.g.trans (e5.g.trans e5.ok.ex))
          refine ⟨rfl, _, rfl, _, rfl, l, _, (0 : Int) + (i : Nat), .int cols[j][i], rfl, rfl, g5.seq hl', at_of (j := i) (by omega) (int_get hil), ?_⟩
          refine k2 _ G5 _ (.refl e5.ok) ?_
          rw [ha3, take_map_succ _ hj', List.map_append, ← getD_at hil]
          rfl
        · rintro acc3 G5 G6 H6 sg6 e5 eD3 ha3
          rw [take_map_all _ (by omega)] at ha3
          refine ⟨D3, acc3, rfl, .inl ⟨.of (e5.ok.ex _ _ eD3), fun t nt => ?_⟩⟩
          have e6 := e5.trans (.new (o := .tup acc3) e5.ok nt)
          refine k _ _ _ e6 ?_
          rw [List.range_succ, List.map_append]
          refine papp (Paired.mapP ha fun _ _ h => TupI.mono e6.g h) ⟨t, rfl, .of ?_⟩
          rw [upd_same, ha3]
      · rintro acc2 G4 G5 H5 sg4 e4 eD4 ha
        exact q _ _ _ _ (e2.trans e4) ⟨D2, _, rfl, .of eD4, Paired.mapP ha fun _ _ h => TupI.mono sg4 h⟩ (split_cols (by omega) (by omega) hc)
def spClimbL (K : PySem.W.Frag) : Sp := fun vs H Q _ => ∃ (G : Hp) (v : V) (g : List Int), Same G H ∧ vs = [v] ∧ TupI K G v g ∧ g ≠ [] ∧ g.length ≤ 1000 ∧ ∀ v' G' H', Ext none G H G' H' → AC K G' v' (g.headD 0, g.tail ++ [0]) → Q v' H'
theorem eqv_nil (x : Int) (r : List Int) : PyData.eqv (.tuple ((x :: r).map PyData.int)) (.tuple []) = false := rfl
theorem ok_l_climbed (T : Gb mg) (D : Df K mg "_law_climbed" (topS 48)) : Cal P w K mg base "_law_climbed" ["_law_group"] 1 (spClimbL K) := by
  have sc : FnScope ["_law_group"] ["_law_group"] (defScope (topS 48)) := ⟨rfl, rfl, rfl, by decide +kernel, rfl, by decide +kernel, by decide +kernel⟩
  refine cal_of D sc (fun _ _ _ _ _ _ us hl => match us, hl with | [_], _ => rfl) (fun vs H Q E h => ?_) fun f cdv A outer s H vs Q E hr h => ?_
  · obtain ⟨G, v, g, _, rfl, _⟩ := h; rfl
  · obtain ⟨G, v, g, sg, rfl, ⟨a, rfl, ht⟩, hne, hl, q⟩ := h
    refine ⟨_, (pss_cons (ps_if (pt_cmpR (op_eqDK K hr.units) (pv 0) (pe_tup pa_nil) (nomark _)) (pss_one (ps_ret (pe_tup (pa_cons pe_int (pa_cons (pe_tup pa_nil) pa_nil))))) pss_nil) (pss_one (ps_ret (pe_tup (pa_cons (pe_ix (ix_tupK K) (pv 0) pe_int (fun _ _ => rfl)) (pa_cons (pe_op (op_catAK K) (pe_slice (sl_tupK K) (pv 0) (po_some pe_int) po_none) (pe_tup (pa_cons pe_int pa_nil))) pa_nil)))))), ?_⟩
    obtain ⟨x, r, rfl⟩ : ∃ x r, g = x :: r := by
      cases g with
      | nil => exact absurd rfl hne
      | cons y t => exact ⟨y, t, rfl⟩
    have ok0 : Ok none G H := .pure sg
    refine ⟨_, rfl, Nat.zero_le _, fun y ny => ?_⟩
    have e0 : Ext none G H G (upd H y (.tup [])) := .tmp ok0 ny
    have h0 := e0.ok.ex.tup ht
    refine ⟨.tuple ((x :: r).map PyData.int), .tuple [], .tup h0 (dp_all (x :: r)), .tup (.of upd_same) .nil, shaped_tup (x :: r), shaped_tup [], _, rfl, ?_⟩
    rw [eqv_nil]
    refine iteF ?_
    refine ⟨_, rfl, a, _, 0, .int x, rfl, rfl, h0, atI_nat (j := 0) rfl, _, rfl, 1, rfl, ?_⟩
    dsimp only [tNoPart]
    refine slA e0.ok ht fun b G1 H1 e1 hb => ?_
    rw [map_tail_drop] at hb
    refine ⟨show 1 ≤ sizeLine by decide, fun u nu => ?_⟩
    have e2 := e1.trans (.new (o := .tup [.int 0]) e1.ok nu)
    simp only [List.length_cons] at hl
    refine ctA (a := b) (b := u) e2.ok ((same_new (e1.ok.ex.free nu)).tup hb) (.of upd_same) (by rw [List.length_map, List.length_singleton]; omega) fun t G3 H3 e3 ht3 => ?_
    have e4 := e2.trans e3
    refine ⟨show 2 ≤ sizeLine by decide, fun z nz => ?_⟩
    refine q _ _ _ (e0.trans (e4.trans (.new e4.ok nz))) ⟨z, .ref t, rfl, .of upd_same, t, rfl, (same_new (e4.ok.ex.free nz)).tup ?_⟩
    have et : (((x :: r).tail ++ [0]).map V.int) = r.map V.int ++ [V.int 0] := List.map_append
    rw [show ((((x :: r).headD 0, (x :: r).tail ++ [0]) : Int × List Int).2.map V.int) = r.map V.int ++ [V.int 0] from et]
    exact ht3
end
end Lw
namespace Lw
open PySem L2 PySem.Spec PyProof.Rows
/-! ### games that grow at their end -/
theorem pos_cons (c : List Int) (m : Move) (ms : List Move) (i : Nat) : posAt c (m :: ms) (i + 1) = posAt (nx m) ms i := by cases i <;> rfl
theorem game_snoc : ∀ {s c : List Int} {ms : List Move} {e : Int} {m : Move}, Game s c ms → Split e (posAt c ms ms.length) m.1 → (m.2 : Int) < e → Game (s ++ [e]) c (ms ++ [m])
  | [], _, [], _, _, _, S, h => ⟨S, h, trivial⟩
  | [], _, _ :: _, _, _, G, _, _ => G.elim
  | _ :: _, _, [], _, _, G, _, _ => G.elim
  | e0 :: r, c, m0 :: ms, e, m, G, S, h => by
    refine ⟨G.1, G.2.1, game_snoc G.2.2 ?_ h⟩
    rw [← pos_cons c m0 ms ms.length]
    exact S
theorem homes_snoc : ∀ {s : List Int} {hs : List Nat} {e : Int} {h : Nat}, Homes s hs → (h : Int) < e → Homes (s ++ [e]) (hs ++ [h])
  | [], [], _, _, _, z => ⟨z, trivial⟩
  | [], _ :: _, _, _, H, _ => H.elim
  | _ :: _, [], _, _, H, _ => H.elim
  | _ :: _, _ :: _, _, _, H, z => ⟨H.1, homes_snoc H.2 z⟩
theorem gm_snoc (q : Int) : ∀ {st : St} {ms : List Move} {hs : List Nat} (m : Move) (h : Nat), ms.length = hs.length →
    gm q st (ms ++ [m]) (hs ++ [h]) = ((gm q st ms hs).1 ++ [(mine (gm q st ms hs).2.2 m.1 h, m.2)], (gm q st ms hs).2.1 ++ [(oth q (gm q st ms hs).2.2 m.1 h, m.2)], nxt (gm q st ms hs).2.2 h m.2)
  | _, [], [], _, _, _ => rfl
  | _, [], _ :: _, _, _, e => by simp at e
  | _, _ :: _, [], _, _, e => by simp at e
  | st, m0 :: ms, h0 :: hs, m, h, e => by
    have ih := gm_snoc q (st := nxt st h0 m0.2) (ms := ms) (hs := hs) m h (by simpa using e)
    show ((mine st m0.1 h0, m0.2) :: (gm q (nxt st h0 m0.2) (ms ++ [m]) (hs ++ [h])).1, (oth q st m0.1 h0, m0.2) :: (gm q (nxt st h0 m0.2) (ms ++ [m]) (hs ++ [h])).2.1, (gm q (nxt st h0 m0.2) (ms ++ [m]) (hs ++ [h])).2.2) = _
    rw [ih]
    rfl
theorem part_le : ∀ {l : List Int} {x : Int}, (∀ y ∈ l, 0 ≤ y) → x ∈ l → x ≤ l.sum
  | [], _, _, h => nomatch h
  | y :: r, x, h0, h => by
    have h1 := h0 y (by simp)
    have h2 : 0 ≤ r.sum := by
      clear h
      induction r with
      | nil => exact Int.le_refl _
      | cons z t ih =>
        have a := h0 z (by simp)
        have b := ih fun w hw => by
          rcases List.mem_cons.mp hw with e | e
          · exact e ▸ h1
          · exact h0 w (by simp [e])
        show 0 ≤ z + t.sum
        omega
    show x ≤ y + r.sum
    rcases (List.mem_cons.mp h) with e | e
    · omega
    · have := part_le (fun z hz => h0 z (List.mem_cons_of_mem _ hz)) e
      omega
theorem split_le {e B : Int} {c : List Int} {gs : List (List Int)} (S : Split e c gs) (h : ∀ x ∈ c, x ≤ B) : ∀ g ∈ gs, ∀ x ∈ g, x ≤ B := fun g hg x hx => by
  obtain ⟨j, hj, rfl⟩ := List.mem_iff_getElem.mp hx
  have gl := S.gl g hg
  have hjc : j < c.length := by omega
  have hs := S.sum j hjc
  have hm : g[j] ∈ gs.map fun g => g.getD j 0 := List.mem_map.mpr ⟨g, hg, by rw [List.getD_eq_getElem?_getD, List.getElem?_eq_getElem hj]; rfl⟩
  have h0 : ∀ y ∈ gs.map (fun g => g.getD j 0), 0 ≤ y := fun y hy => by
    obtain ⟨g', hg', rfl⟩ := List.mem_map.mp hy
    have gl' := S.gl g' hg'
    have hj' : j < g'.length := by omega
    show 0 ≤ g'.getD j 0
    rw [List.getD_eq_getElem?_getD, List.getElem?_eq_getElem hj']
    exact S.nn g' hg' _ (List.getElem_mem hj')
  have h1 := part_le h0 hm
  have h2 := h c[j] (List.getElem_mem hjc)
  have h3 : c.getD j 0 = c[j] := by rw [List.getD_eq_getElem?_getD, List.getElem?_eq_getElem hjc]; rfl
  omega
theorem nx_le {e B : Int} {c : List Int} {m : Move} (S : Split e c m.1) (hk : (m.2 : Int) < e) (hB : 0 ≤ B) (h : ∀ x ∈ c, 0 ≤ x ∧ x ≤ B) : ∀ x ∈ nx m, 0 ≤ x ∧ x ≤ B := fun x hx => by
  have Sl := S.len
  have hm := getD_mem (gs := m.1) (h := m.2) (by omega)
  rcases List.mem_append.mp hx with z | z
  · exact ⟨S.nn _ hm x (List.mem_of_mem_tail z), split_le S (fun y hy => (h y hy).2) _ hm x (List.mem_of_mem_tail z)⟩
  · have hx0 : x = 0 := List.mem_singleton.mp z
    exact ⟨by omega, by omega⟩
theorem pos_snoc (c : List Int) (ms : List Move) (m : Move) : posAt c (ms ++ [m]) (ms ++ [m]).length = nx m := by
  rw [show (ms ++ [m]).length = ms.length + 1 from List.length_append]
  show nx ((ms ++ [m]).getD ms.length ([], 0)) = nx m
  rw [List.getD_eq_getElem?_getD, List.getElem?_append_right (Nat.le_refl _), Nat.sub_self]
  rfl
/-- where the climbers are against the loop's place -/
def Cor (far i : Nat) : St → Bool → Prop
  | .on d, b => b = true ∧ d + i = far
  | .off b', b => b = b' ∧ (b = true → far < i)
theorem cor_nxt {far i h k : Nat} : ∀ {st : St} {b : Bool}, Cor far i st b → Cor far (i + 1) (nxt st h k) (nxt st h k).isIn
  | .on (d + 1), b, z => by
    show Cor far (i + 1) (if h = k then .on d else .off false) (if h = k then St.on d else .off false).isIn
    by_cases e : h = k
    · rw [if_pos e]
      have := z.2
      exact ⟨rfl, by omega⟩
    · rw [if_neg e]
      exact ⟨rfl, fun z => nomatch z⟩
  | .on 0, b, z => ⟨rfl, fun _ => by have := z.2; omega⟩
  | .off b', b, z => ⟨rfl, fun e => by
    have := z.2 (z.1.trans e)
    omega⟩
end Lw
namespace Lw
open PySem L2 PySem.Spec PyProof.Rows
section
variable {mg : Str → Option Value} {base : Heap} {K : PySem.W.Frag} {P : Program} {w : World}
def spPlus (K : PySem.W.Frag) : Sp := fun vs H Q _ => ∃ (G : Hp) (v : V) (g : List Int) (d : Nat) (m : Int), Same G H ∧ vs = [v, .int ((d : Int) + 1), .int m] ∧ TupI K G v g ∧ d < g.length ∧ g.length ≤ 200 ∧ ∀ v' G' H', Ext none G H G' H' → TupI K G' v' (pl g d m) → Q v' H'
theorem ok_l_plus (D : Df K mg "_law_plus" (topS 50)) : Cal P w K mg base "_law_plus" ["_law_group", "_law_far", "_law_many"] 1 (spPlus K) := by
  have sc : FnScope ["_law_group", "_law_far", "_law_many"] ["_law_group", "_law_far", "_law_many"] (defScope (topS 50)) := ⟨rfl, rfl, rfl, by decide +kernel, rfl, by decide +kernel, by decide +kernel⟩
  refine cal_of D sc (fun _ _ _ _ _ _ us hl => match us, hl with | [_, _, _], _ => rfl) (fun vs H Q E h => ?_) fun f cdv A outer s H vs Q E hr h => ?_
  · obtain ⟨G, v, g, d, m, _, rfl, _⟩ := h; rfl
  · obtain ⟨G, v, g, d, m, sg, rfl, ⟨a, rfl, ht⟩, hd, hl, q⟩ := h
    refine ⟨_, (pss_one (ps_ret (pe_op (op_catAK K) (pe_op (op_catAK K) (pe_slice (sl_tupK K) (pv 0) po_none (po_some (pe_op op_sub (pv 1) pe_int))) (pe_tup (pa_cons (pe_op op_add (pe_ix (ix_tupK K) (pv 0) (pe_op op_sub (pv 1) pe_int) (fun _ _ => rfl)) (pv 2)) pa_nil))) (pe_slice (sl_tupK K) (pv 0) (po_some (pv 1)) po_none)))), ?_⟩
    have ed : (d : Int) + 1 - 1 = (d : Nat) := by omega
    have ok0 : Ok none G H := .pure sg
    refine ⟨_, rfl, _, rfl, _, 1, rfl, rfl, _, rfl, ?_⟩
    refine slA ok0 ht fun q1 G1 H1 e1 h1 => ?_
    rw [ed, cut_to] at h1
    refine ⟨_, rfl, _, rfl, _, _, rfl, rfl, a, _, (d : Int) + 1 - 1, .int g[d], rfl, rfl, (e1.g.trans e1.ok.ex).tup ht, at_of (j := d) (by omega) (int_get hd), _, rfl, _, _, rfl, rfl, show 1 ≤ sizeLine by decide, fun u nu => ?_⟩
    have e2 := e1.trans (.new (o := .tup [.int (g[d] + m)]) e1.ok nu)
    refine ctA (a := q1) (b := u) e2.ok ((same_new (e1.ok.ex.free nu)).tup h1) (.of upd_same) (by rw [List.length_take, List.length_map, List.length_singleton]; omega) fun q2 G3 H3 e3 h3 => ?_
    have e4 := e2.trans e3
    refine ⟨_, rfl, _, rfl, ((d + 1 : Nat) : Int), rfl, ?_⟩
    dsimp only [tNoPart]
    refine slA e4.ok (e4.g.tup ht) fun q5 G5 H5 e5 h5 => ?_
    rw [cut_from] at h5
    have e6 := e4.trans e5
    refine ctA (a := q2) (b := q5) e6.ok (e5.g.tup h3) h5 (by rw [List.length_append, List.length_take, List.length_map, List.length_singleton, List.length_drop, List.length_map]; omega) fun q7 G7 H7 e7 h7 => ?_
    refine q _ _ _ (e6.trans e7) ⟨q7, rfl, ?_⟩
    have el : (pl g d m).map V.int = (List.take d (g.map V.int) ++ [V.int (g[d] + m)]) ++ List.drop (d + 1) (g.map V.int) := by
      unfold pl
      rw [List.map_append, List.map_cons, List.map_take, List.map_drop, getD_at hd, List.append_assoc]
      rfl
    rw [el]
    exact h7
def spGame (K : PySem.W.Frag) : Sp := fun vs H Q _ => ∃ (G : Hp) (a : Addr) (sv cv : V) (s c : List Int), vs = [.ref a, sv, cv, .int (s.length : Nat)] ∧ Ok (some a) G H ∧ LstI K G sv s ∧ TupI K G cv c ∧ (∀ e ∈ s, 2 ≤ e ∧ e ≤ 6) ∧ s.length ≤ 9 ∧ c.length ≤ 100 ∧ 0 < c.length ∧ (∀ x ∈ c, 0 ≤ x ∧ x ≤ 10 ^ 17) ∧
  ∀ v ms G' H', Ext (some a) G H G' H' → Ls Mv K G' v ms → Game s c ms → Q v H'
theorem ok_l_game (D : Df K mg "_law_game" (topS 49)) (c_l_take : Cal P w K mg base "_law_take" ["_law_source_here", "_law_many"] 2 spTake) (c_l_split : Cal P w K mg base "_law_split" ["_law_source_here", "_law_parts", "_law_where_here"] 4 (spSplitL K)) (c_l_climbed : Cal P w K mg base "_law_climbed" ["_law_group"] 1 (spClimbL K)) :
    Cal P w K mg base "_law_game" ["_law_source_here", "_law_steps_here", "_law_where_here", "_law_rounds"] 5 (spGame K) := by
  have sc : FnScope ["_law_source_here", "_law_steps_here", "_law_where_here", "_law_rounds", "_law_found", "_law_entry", "_law_parts_used", "_law_pick"] ["_law_source_here", "_law_steps_here", "_law_where_here", "_law_rounds"] (defScope (topS 49)) := ⟨rfl, rfl, rfl, by decide +kernel, rfl, by decide +kernel, by decide +kernel⟩
  refine cal_of D sc (fun _ _ _ _ _ _ us hl => match us, hl with | [_, _, _, _], _ => rfl) (fun vs H Q E h => ?_) fun f cdv A outer s0 H vs Q E hr h => ?_
  · obtain ⟨G, a, sv, cv, s, c, rfl, _⟩ := h; rfl
  · obtain ⟨G, a, sv, cv, s, c, rfl, ok, ⟨sa, rfl, hs⟩, hc, he, sl, cl, c0, cb, q⟩ := h
    refine ⟨_, (pss_cons (ps_set (i := 4) sc.nd rfl (Or.inl rfl) (pe_lst pa_nil)) (pss_cons (ps_for PassesOwn.never rfl (pi_listK K (pe_slice (sl_listK K) (pv 1) po_none (po_some (pv 3)))) (pg_name (i := 5) sc.nd rfl (Or.inl rfl)) (pss_cons (ps_set (i := 6) sc.nd rfl (Or.inl rfl) (pe_cal c_l_split (hr.mono (by decide)) (by rfl) (pa_cons (pv 0) (pa_cons (pv 5) (pa_cons (pv 2) pa_nil))))) (pss_cons (ps_set (i := 7) sc.nd rfl (Or.inl rfl) (pe_cal c_l_take (hr.mono (by decide)) (by rfl) (pa_cons (pv 0) (pa_cons (pv 5) pa_nil)))) (pss_cons (ps_expr (pe_appK K (pv 4) (pe_tup (pa_cons (pv 6) (pa_cons (pv 7) pa_nil))))) (pss_one (ps_set (i := 2) sc.nd rfl (Or.inl rfl) (pe_ix (ix_tupK K) (pe_cal c_l_climbed (hr.mono (by decide)) (by rfl) (pa_cons (pe_ix (ix_listK K) (pv 6) (pv 7) (fun _ _ => rfl)) pa_nil)) pe_int (fun _ _ => rfl)))))))) (pss_one (ps_ret (pv 4))))), ?_⟩
    refine ⟨Nat.zero_le _, fun l nl => ?_⟩
    have ns := Ext.ne_src ok nl
    have e0 : Ext (some a) G H G (upd H l (.lst [])) := .tmp ok nl
    refine ⟨_, rfl, _, rfl, (s.length : Nat), rfl, sa, _, rfl, e0.ok.ex.seq hs, fun p np => ?_⟩
    rw [cut_to, List.take_of_length_le (by rw [List.length_map]; omega)]
    have e1 := e0.trans (.new (o := .lst (s.map V.int)) e0.ok np)
    have g1 := e1.fresh
    have gl : (upd G p (.lst (s.map V.int))) l = none := by
      rw [upd_ne (fun z => by rw [z, ← z, upd_same] at np; cases np)]
      exact ok.ex.free nl
    refine ⟨p, rfl, ⟨_, .of upd_same⟩, for_it (walk_list (K := K) (a := p) (xs := s.map V.int)) (fun i σ H' => ∃ (G' : Hp) (acc : List V) (ms : List Move) (cv' : V) (u5 u6 u7 : Option V),
        σ = [some (.ref a), some (.ref sa), some cv', some (.int (s.length : Nat)), some (.ref l), u5, u6, u7] ∧ Ext (some a) G H G' H' ∧ G' l = none ∧ H' l = some (.lst acc) ∧ SqL K G' p (s.map V.int) ∧ Paired (Mv K G') acc ms ∧ ms.length = i ∧ Game (s.take i) c ms ∧ TupI K G' cv' (posAt c ms ms.length) ∧ (posAt c ms ms.length).length = c.length ∧ ∀ x ∈ posAt c ms ms.length, 0 ≤ x ∧ x ≤ 10 ^ 17)
      ⟨_, [], [], cv, none, none, none, rfl, e1, gl, ?_, .of upd_same, .nil, rfl, trivial, TupI.mono e1.g hc, rfl, cb⟩ (fun i σ H' _ ⟨G', acc, ms, cv', u5, u6, u7, _, e, _, _, h, _⟩ => e.ok.ex.seq h) ?_ ?_⟩
    · rw [upd_ne (fun z => by rw [z, ← z, upd_same] at np; cases np), upd_same]
    · rintro i x σ H2 H2' hi ⟨G2, acc, ms, cv', u5, u6, u7, rfl, e2, g2, el, hp, hm, rfl, Gm, hcv, pl', pb⟩ ⟨rfl, hx⟩
      obtain ⟨hi', rfl⟩ := int_at hx
      have hei := he _ (List.getElem_mem hi')
      refine ⟨_, rfl, _, rfl, _, rfl, G2, a, _, cv', posAt c ms ms.length, rfl, e2.ok, hcv, by omega, pb, hei.1, hei.2, fun v gs G3 H3 e3 hv S => ?_⟩
      refine ⟨_, rfl, _, rfl, G3, a, _, rfl, e3.ok, by omega, by omega, fun k H4 k0 k1 e4 => ?_⟩
      obtain ⟨kn, rfl⟩ := Int.eq_ofNat_of_zero_le k0
      have e24 := e3.trans e4
      have l2 : H2' l ≠ none := fun z => by rw [el] at z; cases z
      have el4 := e24.keep l _ ns el
      refine ⟨_, rfl, .inl ⟨rfl, _, .of el4⟩, ?_⟩
      refine ⟨_, rfl, _, rfl, show 2 ≤ sizeLine by decide, fun t nt => ?_⟩
      have e25 := e24.trans (.new (o := .tup [v, .int (kn : Int)]) e24.ok nt)
      have al := hm.length
      refine ⟨l, acc, .ref t, rfl, rfl, e25.keep l _ ns el, Nat.lt_of_le_of_lt (show acc.length ≤ 100 by omega) (by decide), ?_⟩
      have g5 := e25.fresh l l2 g2
      have e5 := (e2.trans e25).mut (o := .lst (acc ++ [.ref t])) nl ns g5
      have hv5 := Gs.mono (same_new (o := .tup [v, .int (kn : Int)]) (e24.ok.ex.free nt)) (Gs.mono e4.g hv)
      obtain ⟨d, dvs, rfl, hd, hgs⟩ := id hv5
      have Sl := S.len
      have hkn : kn < gs.length := by omega
      obtain ⟨gv, egv, hgv⟩ := pget hgs hkn
      have hgl := S.gl _ (List.getElem_mem hkn)
      refine ⟨_, rfl, _, rfl, d, dvs, kn, gv, rfl, rfl, e5.ok.ex.seq hd, atI_nat egv, ?_⟩
      refine ⟨_, gv, gs[kn], e5.ok.ex, rfl, hgv, fun z => ?_, by omega, fun v6 G6 H6 e6 ⟨t6, c6, ev, ht6, hc6⟩ => ?_⟩
      · rw [z] at hgl
        simp at hgl
        omega
      subst ev
      have e6' := Ext.up e5.ok e6
      refine ⟨t6, _, 1, c6, rfl, rfl, e6'.ok.ex.tup ht6, atI_nat (j := 1) rfl, ?_⟩
      have en : nx ((gs, kn) : Move) = gs[kn].tail ++ [0] := by
        show (gs.getD kn []).tail ++ [0] = _
        rw [List.getD_eq_getElem?_getD, List.getElem?_eq_getElem hkn]
        rfl
      have ht : s.take (ms.length + 1) = s.take ms.length ++ [s[ms.length]] := by rw [List.take_add_one, List.getElem?_eq_getElem hi']; rfl
      have l6 : (upd H4 t (.tup [.ref d, .int (kn : Int)])) l ≠ none := fun z => by rw [e25.keep l _ ns el] at z; cases z
      have gx := e6.g
      refine ⟨G6, acc ++ [.ref t], ms ++ [(gs, kn)], c6, _, _, _, rfl, e5.trans e6', e6'.fresh l (fun z => by rw [upd_same] at z; cases z) g5, e6'.keep l _ ns upd_same, (e25.g.trans gx).seq hp, ?_, by rw [List.length_append]; rfl, ?_, ?_, ?_, ?_⟩
      · refine papp (Paired.mapP hm fun _ _ h => Mv.mono (e25.g.trans gx) h) ⟨t, .ref d, rfl, gx.tup (.of upd_same), Gs.mono gx hv5⟩
      · rw [ht]
        exact game_snoc Gm S k1
      · rw [pos_snoc, en]
        exact hc6
      · rw [pos_snoc, nx_len (m := (gs, kn)) S k1 (by omega)]
        exact pl'
      · rw [pos_snoc]
        exact nx_le S k1 (by decide) pb
    · rintro σ H2 ⟨G2, acc, ms, cv', u5, u6, u7, rfl, e2, g2, el, hp, hm, hi, Gm, hcv, pl', pb⟩
      rw [List.length_map] at hi
      rw [List.take_of_length_le (by rw [List.length_map]; omega)] at Gm
      exact ⟨_, rfl, q _ _ _ _ (e2.frz nl ns g2 el) ⟨l, acc, rfl, .of upd_same, Paired.mapP hm fun _ _ h => Mv.mono (same_new g2) h⟩ Gm⟩
end
end Lw
namespace Lw
open PySem L2 PySem.Spec PyProof.Rows
section
variable {mg : Str → Option Value} {base : Heap} {K : PySem.W.Frag} {P : Program} {w : World}
def spBoth (K : PySem.W.Frag) : Sp := fun vs H Q _ => ∃ (G : Hp) (a : Addr) (sv cv : V) (s c : List Int) (far : Nat), vs = [.ref a, sv, cv, .int (far : Nat)] ∧ Ok (some a) G H ∧ LstI K G sv s ∧ TupI K G cv c ∧ (∀ e ∈ s, 2 ≤ e ∧ e ≤ 6) ∧ s.length ≤ 9 ∧ s.length ≤ c.length ∧ c.length ≤ 100 ∧ (∀ x ∈ c, 0 ≤ x ∧ x ≤ 10 ^ 17) ∧ far < s.length ∧
  ∀ v ms hs G' H' t x y, Ext (some a) G H G' H' → Game s c ms → Homes s hs → v = .ref t → SqT K G' t [x, y, .bl (gm (s.getD far 0) (.on far) ms hs).2.2.isIn] → Ls Mv K G' x (gm (s.getD far 0) (.on far) ms hs).1 → Ls Mv K G' y (gm (s.getD far 0) (.on far) ms hs).2.1 → Q v H'
theorem ok_l_both (T : Gb mg) (D : Df K mg "_law_both_games" (topS 51)) (c_l_take : Cal P w K mg base "_law_take" ["_law_source_here", "_law_many"] 2 spTake) (c_l_game : Cal P w K mg base "_law_game" ["_law_source_here", "_law_steps_here", "_law_where_here", "_law_rounds"] 5 (spGame K)) (c_l_plus : Cal P w K mg base "_law_plus" ["_law_group", "_law_far", "_law_many"] 1 (spPlus K)) :
    Cal P w K mg base "_law_both_games" ["_law_source_here", "_law_steps_here", "_law_where_here", "_law_far"] 6 (spBoth K) := by
  have sc : FnScope ["_law_source_here", "_law_steps_here", "_law_where_here", "_law_far", "_law_first", "_law_second", "_law_inside", "_law_copies", "_law_index", "_law_parts_used", "_law_pick", "_law_home", "_law_mine", "_law_others", "_law_one_here"] ["_law_source_here", "_law_steps_here", "_law_where_here", "_law_far"] (defScope (topS 51)) := ⟨rfl, rfl, rfl, by decide +kernel, rfl, by decide +kernel, by decide +kernel⟩
  refine cal_of D sc (fun _ _ _ _ _ _ us hl => match us, hl with | [_, _, _, _], _ => rfl) (fun vs H Q E h => ?_) fun f cdv A outer s0 H vs Q E hr h => ?_
  · obtain ⟨G, a, sv, cv, s, c, far, rfl, _⟩ := h; rfl
  · obtain ⟨G, a, sv, cv, s, c, far, rfl, ok, ⟨sa, rfl, hs⟩, hc, he, sl, scl, cl, cb, hf, q⟩ := h
    refine ⟨_, (pss_cons (ps_par (by rfl) sc.nd (i := 4) (j := 5) rfl rfl (by decide) rfl rfl (pa_cons (pe_lst pa_nil) (pa_cons (pe_lst pa_nil) pa_nil)) (by rfl)) (pss_cons (ps_set (i := 6) sc.nd rfl (Or.inl rfl) pe_bl) (pss_cons (ps_set (i := 7) sc.nd rfl (Or.inl rfl) (pe_ix (ix_listK K) (pv 1) (pv 3) (fun _ _ => rfl))) (pss_cons (ps_for PassesOwn.never rfl (pi_enumK K (by rfl) T.enumerate_ (pa_cons (pe_cal c_l_game (hr.mono (by decide)) (by rfl) (pa_cons (pv 0) (pa_cons (pv 1) (pa_cons (pv 2) (pa_cons (pe_callB (cr_lenK K) (by rfl) T.len_ (by decide +kernel) (pa_cons (pv 1) pa_nil)) pa_nil))))) pa_nil)) (pg_tupK K 2 rfl (pgs_cons (pg_name (i := 8) sc.nd rfl (Or.inl rfl)) (pgs_cons (pg_tupK K 2 rfl (pgs_cons (pg_name (i := 9) sc.nd rfl (Or.inl rfl)) (pgs_cons (pg_name (i := 10) sc.nd rfl (Or.inl rfl)) pgs_nil))) pgs_nil))) (pss_cons (ps_set (i := 11) sc.nd rfl (Or.inl rfl) (pe_cal c_l_take (hr.mono (by decide)) (by rfl) (pa_cons (pv 0) (pa_cons (pe_ix (ix_listK K) (pv 1) (pv 8) (fun _ _ => rfl)) pa_nil)))) (pss_cons (ps_par (by rfl) sc.nd (i := 12) (j := 13) rfl rfl (by decide) rfl rfl (pa_cons (pe_callTy (cr_listK K) (by rfl) T.list_ (by decide +kernel) (pa_cons (pv 9) pa_nil)) (pa_cons (pe_callTy (cr_listK K) (by rfl) T.list_ (by decide +kernel) (pa_cons (pv 9) pa_nil)) pa_nil)) (by rfl)) (Evl.pss_cut (ps_if (PW.pt (pw_and (pt_val (pv 6)) (pw_and1 (pt_cmpR op_lt (pv 8) (pv 3) (nomark _))))) (pss_cons (ps_asg (pe_cal c_l_plus (hr.mono (by decide)) (by rfl) (pa_cons (pe_ix (ix_listK K) (pv 12) (pv 11) (fun _ _ => rfl)) (pa_cons (pe_op op_sub (pv 3) (pv 8)) (pa_cons pe_int pa_nil)))) (pg_sub (pv 12) (pv 11) set_list)) (pss_cons (ps_asg (pe_cal c_l_plus (hr.mono (by decide)) (by rfl) (pa_cons (pe_ix (ix_listK K) (pv 13) (pv 11) (fun _ _ => rfl)) (pa_cons (pe_op op_sub (pe_op op_add (pv 3) pe_int) (pv 8)) (pa_cons (pv 7) pa_nil)))) (pg_sub (pv 13) (pv 11) set_list)) (pss_one (ps_set (i := 6) sc.nd rfl (Or.inl rfl) (pe_cmpR op_eq (pv 11) (pv 10) (nomark _)))))) (pss_one (ps_if (PW.pt (pw_and (pt_val (pv 6)) (pw_and1 (pt_cmpR op_eq (pv 8) (pv 3) (nomark _))))) (pss_one (ps_setLc (i := 13) (own := [("_law_one_here", 14)]) rfl sc.nd rfl rfl (sw_true rfl rfl rfl (by kernel_rfl)) (pi_listK K (pv 13)) (blkOk_by (by kernel_rfl)) (fun _ _ _ _ _ => (pg_name (i := 14) sc.nd rfl (Or.inl rfl))) (fun _ _ _ _ _ => pts_nil) (fun _ _ _ _ _ => (pe_cal c_l_plus (hr.mono (by decide)) (by rfl) (pa_cons (pv 14) (pa_cons pe_int (pa_cons pe_int pa_nil))))))) pss_nil))) (pss_cons (ps_expr (pe_appK K (pv 4) (pe_tup (pa_cons (pv 12) (pa_cons (pv 10) pa_nil))))) (pss_one (ps_expr (pe_appK K (pv 5) (pe_tup (pa_cons (pv 13) (pa_cons (pv 10) pa_nil))))))))))) (pss_one (ps_ret (pe_tup (pa_cons (pv 4) (pa_cons (pv 5) (pa_cons (pv 6) pa_nil)))))))))), ?_⟩
    refine ⟨Nat.zero_le _, fun l4 n4 => ?_⟩
    refine ⟨Nat.zero_le _, fun l5 n5 => ?_⟩
    have e04 : Ext (some a) G H G (upd H l4 (.lst [])) := .tmp ok n4
    have e05 := e04.trans (.tmp (o := .lst []) e04.ok n5)
    have s5 := Ext.ne_src e04.ok n5
    have s4 := Ext.ne_src ok n4
    have n45 : l4 ≠ l5 := fun z => by rw [z, upd_same] at n5; cases n5
    have n5' : H l5 = none := by rw [upd_ne (Ne.symm n45)] at n5; exact n5
    refine ⟨_, _, rfl, ?_⟩
    refine ⟨_, rfl, _, rfl, sa, _, far, .int s[far], rfl, rfl, e05.ok.ex.seq hs, atI_nat (int_get hf), ?_⟩
    refine ⟨_, rfl, _, rfl, _, rfl, _, rfl, sa, _, rfl, .inl (e05.ok.ex.seq hs), G, a, _, cv, s, c, ?_, e05.ok, ⟨sa, rfl, hs⟩, hc, he, sl, cl, by omega, cb, fun v ms G1 H1 e1 ⟨gl, gvs, ev, hgl, hms⟩ Gm => ?_⟩
    · rw [List.length_map]
      rfl
    subst ev
    have e01 := e05.trans e1
    have ml := game_len Gm
    have pl0 := hms.length
    rw [getD_at hf] at q
    have el4 : (upd (upd H l4 (.lst [])) l5 (.lst [])) l4 = some (.lst []) := by rw [upd_ne n45, upd_same]
    have gn4 : G l4 = none := ok.ex.free n4
    have gn5 : G l5 = none := ok.ex.free n5'
    refine ⟨gl, gvs, rfl, e1.ok.ex.seq hgl, for_it (walk_enum (K := K) (a := gl) (xs := gvs)) (fun i σ H' => ∃ (G' : Hp) (acc1 acc2 : List V) (hh : List Nat) (b : Bool) (u8 u9 u10 u11 u12 u13 u14 : Option V),
        σ = [some (.ref a), some (.ref sa), some cv, some (.int (far : Nat)), some (.ref l4), some (.ref l5), some (.bl b), some (.int s[far]), u8, u9, u10, u11, u12, u13, u14] ∧ Ext (some a) G H G' H' ∧ Same G1 G' ∧ G' l4 = none ∧ G' l5 = none ∧ H' l4 = some (.lst acc1) ∧ H' l5 = some (.lst acc2) ∧
        hh.length = i ∧ Homes (s.take i) hh ∧ Paired (Mv K G') acc1 (gm s[far] (.on far) (ms.take i) hh).1 ∧ Paired (Mv K G') acc2 (gm s[far] (.on far) (ms.take i) hh).2.1 ∧ Cor far i (gm s[far] (.on far) (ms.take i) hh).2.2 b ∧ b = (gm s[far] (.on far) (ms.take i) hh).2.2.isIn)
      ⟨G1, [], [], [], true, none, none, none, none, none, none, none, rfl, e01, .refl _, e1.fresh _ (fun z => by rw [el4] at z; cases z) gn4, e1.fresh _ (fun z => by rw [upd_same] at z; cases z) gn5, e1.keep _ _ s4 el4, e1.keep _ _ s5 upd_same, rfl, trivial, .nil, .nil, ⟨rfl, Nat.add_zero _⟩, rfl⟩
      (fun i σ H' _ ⟨G', acc1, acc2, hh, b, u8, u9, u10, u11, u12, u13, u14, _, e, sg, _⟩ => (sg.trans e.ok.ex).seq hgl) ?_ ?_⟩
    · rintro i x σ H2 H2' hi ⟨G2, acc1, acc2, hh, b, u8, u9, u10, u11, u12, u13, u14, rfl, e2, sg, g4, g5, h4, h5, rfl, HH, ha1, ha2, hcor, hb⟩ ⟨TA, x1, y1, rfl, nT, rfl, ex, hx⟩
      cases ex
      obtain ⟨hi', t, pv, rfl, ht, d, dvs, rfl, hd, hgs⟩ := pat hms hx
      obtain ⟨hsi, S, hk, esd⟩ := game_at Gm hi'
      have al1 := ha1.length
      have al2 := ha2.length
      have gml := gm_len s[far] (.on far) (ms.take hh.length) hh (by rw [List.length_take]; omega)
      rw [List.length_take] at gml
      have egm : ∀ hn : Nat, gm s[far] (.on far) (ms.take (hh.length + 1)) (hh ++ [hn]) = ((gm s[far] (.on far) (ms.take hh.length) hh).1 ++ [(mine (gm s[far] (.on far) (ms.take hh.length) hh).2.2 ms[hh.length].1 hn, ms[hh.length].2)],
          (gm s[far] (.on far) (ms.take hh.length) hh).2.1 ++ [(oth s[far] (gm s[far] (.on far) (ms.take hh.length) hh).2.2 ms[hh.length].1 hn, ms[hh.length].2)], nxt (gm s[far] (.on far) (ms.take hh.length) hh).2.2 hn ms[hh.length].2) := fun hn => by
        rw [show ms.take (hh.length + 1) = ms.take hh.length ++ [ms[hh.length]] by rw [List.take_add_one, List.getElem?_eq_getElem hi']; rfl]
        exact gm_snoc s[far] (st := .on far) (ms := ms.take hh.length) (hs := hh) ms[hh.length] hn (by rw [List.length_take]; omega)
      obtain ⟨r1, r2, st, er⟩ : ∃ r1 r2 st, gm s[far] (.on far) (ms.take hh.length) hh = (r1, r2, st) := ⟨_, _, _, rfl⟩
      rw [er] at ha1 ha2 hcor hb al1 al2 gml
      simp only [er] at egm
      have e3 := e2.trans (.tmp (o := .tup [.int (hh.length : Nat), .ref t]) e2.ok nT)
      have ht3 := (sg.trans e3.ok.ex).tup ht
      refine ⟨TA, _, rfl, .of upd_same, rfl, _, _, rfl, _, _, rfl, t, _, rfl, ht3, rfl, _, _, rfl, _, _, rfl, rfl, rfl, ?_⟩
      have hei := he _ (List.getElem_mem hsi)
      refine ⟨_, rfl, _, rfl, _, rfl, sa, _, (hh.length : Int), .int s[hh.length], rfl, rfl, e3.ok.ex.seq (e2.g.seq hs), atI_nat (int_get hsi), G2, a, _, rfl, e3.ok, by omega, by omega, fun h Ht h0 h1 e4 => ?_⟩
      obtain ⟨hn, rfl⟩ := Int.eq_ofNat_of_zero_le h0
      have hd4 := (sg.trans e4.ok.ex).seq hd
      refine ⟨_, rfl, d, dvs, rfl, .inl hd4, fun a12 n12 => ?_⟩
      refine ⟨_, rfl, d, dvs, rfl, .inl ((same_new n12).seq hd4), fun a13 n13 => ?_⟩
      refine ⟨_, _, rfl, ?_⟩
      have s12 := Ext.ne_src e4.ok n12
      have f1 : Ext (some a) G2 Ht G2 (upd Ht a12 (.lst dvs)) := .tmp e4.ok n12
      have s13 := Ext.ne_src f1.ok n13
      have n123 : a12 ≠ a13 := fun z => by rw [z, upd_same] at n13; cases n13
      have n13' : Ht a13 = none := by rw [upd_ne (Ne.symm n123)] at n13; exact n13
      have g12 : G2 a12 = none := e4.ok.ex.free n12
      have g13 : G2 a13 = none := e4.ok.ex.free n13'
      have Sl := S.len
      have hgl2 := hgs.length
      refine ⟨fun σ' H' => ∃ (G' : Hp) (v13 : V) (u14 : Option V), σ' = [some (.ref a), some (.ref sa), some cv, some (.int (far : Nat)), some (.ref l4), some (.ref l5), some (.bl (nxt st hn ms[hh.length].2).isIn), some (.int s[far]), some (.int (hh.length : Nat)), some (.ref d), some (.int (ms[hh.length].2 : Nat)), some (.int (hn : Nat)), some (.ref a12), some v13, u14] ∧
        Ext (some a) G2 Ht G' H' ∧ Gs K G' (.ref a12) (mine st ms[hh.length].1 hn) ∧ Gs K G' v13 (oth s[far] st ms[hh.length].1 hn), ?_, ?_⟩
      · have hgs2 := Paired.mapP hgs fun _ _ h => TupI.mono sg h
        cases st with
        | on d0 =>
          cases d0 with
          | succ d1 =>
            obtain ⟨rfl, hcd⟩ := hcor
            have f2 := f1.trans (.tmp (o := .lst dvs) f1.ok n13)
            have k12 : (upd (upd Ht a12 (.lst dvs)) a13 (.lst dvs)) a12 = some (.lst dvs) := by rw [upd_ne n123, upd_same]
            have hhn : hn < dvs.length := by omega
            have hhn' : hn < ms[hh.length].1.length := by omega
            obtain ⟨gv, egv, hgv⟩ := pget hgs2 hhn'
            have hgl3 := S.gl _ (List.getElem_mem hhn')
            have pl3 := pos_len Gm (by omega) hh.length (by omega)
            refine ⟨_, rfl, true, rfl, iteT ?_⟩
            refine ⟨_, rfl, _, rfl, _, _, rfl, rfl, true, congrArg V.bl (decide_eq_true (by omega)), iteT ?_⟩
            refine ⟨_, rfl, _, rfl, a12, dvs, (hn : Int), gv, rfl, rfl, .of k12, atI_nat egv, _, rfl, _, rfl, _, _, rfl, rfl, G2, gv, ms[hh.length].1[hn], d1, 1, f2.ok.ex, ?_, hgv, by omega, by omega, fun v6 G6 H6 e6 hv6 => ?_⟩
            · show [gv, V.int ((far : Int) - (hh.length : Nat)), V.int 1] = _
              rw [show (far : Int) - (hh.length : Nat) = (d1 : Nat) + 1 by omega]
            have f3 := f2.trans (.up f2.ok e6)
            have g12' := e6.fresh _ (fun z => by rw [k12] at z; cases z) g12
            have g13' := e6.fresh _ (fun z => by rw [upd_same] at z; cases z) g13
            have k12' := e6.sameH _ _ k12
            have k13' := e6.sameH _ _ upd_same
            refine ⟨_, rfl, _, rfl, a12, dvs, (hn : Int), hn, rfl, rfl, k12', Evl.ixN_nat hhn, ?_⟩
            have f4 := f3.mut (o := .lst (dvs.set hn v6)) n12 s12 g12'
            have k13 : (upd H6 a12 (.lst (dvs.set hn v6))) a13 = some (.lst dvs) := by rw [upd_ne (Ne.symm n123)]; exact k13'
            refine ⟨_, rfl, _, rfl, a13, dvs, (hn : Int), gv, rfl, rfl, .of k13, atI_nat egv, _, rfl, _, _, rfl, rfl, _, rfl, _, _, rfl, rfl, _, rfl, G6, gv, ms[hh.length].1[hn], d1 + 1, s[far], f4.ok.ex, ?_, TupI.mono e6.g hgv, by omega, by omega, fun v7 G7 H7 e7 hv7 => ?_⟩
            · show [gv, V.int ((far : Int) + 1 - (hh.length : Nat)), V.int s[far]] = _
              rw [show (far : Int) + 1 - (hh.length : Nat) = ((d1 + 1 : Nat) : Int) + 1 by omega]
            have f5 := f4.trans (.up f4.ok e7)
            have q12 := e7.sameH _ _ (upd_same (H := H6) (a := a12) (o := HO.lst (dvs.set hn v6)))
            have q13 := e7.sameH _ _ k13
            have w12 := e7.fresh a12 (fun z => by rw [upd_same] at z; cases z) g12'
            have w13 := e7.fresh a13 (fun z => by rw [k13] at z; cases z) g13'
            refine ⟨_, rfl, _, rfl, a13, dvs, (hn : Int), hn, rfl, rfl, q13, Evl.ixN_nat hhn, ?_⟩
            have f6 := f5.mut (o := .lst (dvs.set hn v7)) n13' s13 w13
            have q12' : (upd H7 a13 (.lst (dvs.set hn v7))) a12 = some (.lst (dvs.set hn v6)) := by rw [upd_ne n123]; exact q12
            have f7 := f6.frz n13' s13 w13 upd_same
            have w12' : (upd G7 a13 (.lst (dvs.set hn v7))) a12 = none := by rw [upd_ne n123]; exact w12
            have f8 := f7.frz n12 s12 w12' q12'
            have z7 := same_new (o := .lst (dvs.set hn v7)) w13
            have z8 := same_new (o := .lst (dvs.set hn v6)) w12'
            have z9 := z7.trans z8
            have eg : ms[hh.length].1.getD hn [] = ms[hh.length].1[hn] := by rw [List.getD_eq_getElem?_getD, List.getElem?_eq_getElem hhn']; rfl
            refine ⟨_, rfl, _, rfl, rfl, ?_⟩
            refine ⟨_, .ref a13, u14, ?_, f8, ?_, ?_⟩
            · have eb : decide (V.int (hn : Nat) = V.int (ms[hh.length].2 : Nat)) = (nxt (.on (d1 + 1)) hn ms[hh.length].2).isIn := by
                show _ = (if hn = ms[hh.length].2 then St.on d1 else .off false).isIn
                by_cases e : hn = ms[hh.length].2
                · rw [if_pos e, decide_eq_true (by rw [e])]
                  rfl
                · rw [if_neg e, decide_eq_false (fun z => e (by injection z with z; omega))]
                  rfl
              rw [← eb]
              rfl
            · refine ⟨a12, dvs.set hn v6, rfl, .of upd_same, ?_⟩
              show Paired _ _ (ms[hh.length].1.set hn (pl (ms[hh.length].1.getD hn []) d1 1))
              rw [eg]
              exact pset hn (Paired.mapP hgs2 fun _ _ h => TupI.mono (e6.g.trans (e7.g.trans z9)) h) (TupI.mono (e7.g.trans z9) hv6)
            · refine ⟨a13, dvs.set hn v7, rfl, .of (z8 _ _ upd_same), ?_⟩
              show Paired _ _ (ms[hh.length].1.set hn (pl (ms[hh.length].1.getD hn []) (d1 + 1) s[far]))
              rw [eg]
              exact pset hn (Paired.mapP hgs2 fun _ _ h => TupI.mono (e6.g.trans (e7.g.trans z9)) h) (TupI.mono z9 hv7)
          | zero =>
            obtain ⟨rfl, hcd⟩ := hcor
            have f2 := f1.trans (.new (o := .lst dvs) f1.ok n13)
            have k12 : (upd (upd Ht a12 (.lst dvs)) a13 (.lst dvs)) a12 = some (.lst dvs) := by rw [upd_ne n123, upd_same]
            refine ⟨_, rfl, true, rfl, iteT ?_⟩
            refine ⟨_, rfl, _, rfl, _, _, rfl, rfl, false, congrArg V.bl (decide_eq_false (by omega)), iteF ?_⟩
            refine ⟨_, rfl, true, rfl, iteT ?_⟩
            refine ⟨_, rfl, _, rfl, rfl, true, congrArg V.bl (decide_eq_true (congrArg V.int (by omega))), iteT ?_⟩
            refine ⟨_, rfl, a13, rfl, ⟨_, .of upd_same⟩, fun Dl hD => ?_⟩
            have p13 : SqL K (upd G2 a13 (.lst dvs)) a13 dvs := .of upd_same
            refine lcG (walk_list (K := K) (a := a13) (xs := dvs)) (fun j acc G' => Paired (TupI K G') acc ((ms[hh.length].1.take j).map fun g => pl g 0 1)) hD f2.ok (by omega) (fun G' H' e => (e.g.trans e.ok.ex).seq p13) .nil ?_ ?_
            · rintro j y acc G4 H4 H4' hj e5 hacc ⟨rfl, hy⟩ Q' k
              obtain ⟨hj', hgy⟩ := pat hgs2 hy
              have hgl3 := S.gl _ (List.getElem_mem hj')
              have pl3 := pos_len Gm (by omega) hh.length (by omega)
              refine ⟨rfl, _, rfl, G4, y, ms[hh.length].1[j], 0, 1, e5.ok.ex, rfl, TupI.mono ((same_new g13).trans e5.g) hgy, by omega, by omega, fun v6 G6 H6 e6 hv6 => ?_⟩
              refine k _ _ _ (.up e5.ok e6) ?_
              rw [take_map_succ _ hj']
              exact papp (Paired.mapP hacc fun _ _ h => TupI.mono e6.g h) hv6
            · rintro acc G4 G5 H4 sg4 e5 eD hacc
              rw [take_map_all _ (by omega)] at hacc
              have f3 := f2.trans e5
              have k12' := e5.keep _ _ s12 k12
              have w12 := e5.fresh a12 (fun z => by rw [k12] at z; cases z) (show (upd G2 a13 (.lst dvs)) a12 = none by rw [upd_ne n123]; exact g12)
              have f4 := f3.frz n12 s12 w12 k12'
              have z8 := same_new (o := .lst dvs) w12
              exact ⟨_, .ref Dl, _, rfl, f4, ⟨a12, dvs, rfl, .of upd_same, Paired.mapP hgs2 fun _ _ h => TupI.mono ((same_new g13).trans (e5.g.trans z8)) h⟩, ⟨Dl, acc, rfl, .of (z8 _ _ eD), Paired.mapP hacc fun _ _ h => TupI.mono (sg4.trans z8) h⟩⟩
        | off b' =>
          obtain ⟨rfl, hcd⟩ := hcor
          have f0 : Ext (some a) G2 Ht (upd G2 a12 (.lst dvs)) (upd Ht a12 (.lst dvs)) := .new e4.ok n12
          have f2 := f0.trans (.new (o := .lst dvs) f0.ok n13)
          have z1 := same_new (o := .lst dvs) g12
          have z2 := f2.g
          have hm : Gs K _ (.ref a12) ms[hh.length].1 := ⟨a12, dvs, rfl, .of (same_new (o := .lst dvs) (f0.ok.ex.free n13) _ _ upd_same), Paired.mapP hgs2 fun _ _ h => TupI.mono f2.g h⟩
          have ho : Gs K _ (.ref a13) ms[hh.length].1 := ⟨a13, dvs, rfl, .of upd_same, Paired.mapP hgs2 fun _ _ h => TupI.mono f2.g h⟩
          refine ⟨_, rfl, b, rfl, ?_⟩
          cases b with
          | false =>
            refine iteF (iteF ⟨_, rfl, false, rfl, iteF (iteF ?_)⟩)
            exact ⟨_, .ref a13, _, rfl, f2, hm, ho⟩
          | true =>
            have := hcd rfl
            refine iteT ⟨_, rfl, _, rfl, _, _, rfl, rfl, false, congrArg V.bl (decide_eq_false (by omega)), iteF ⟨_, rfl, true, rfl, iteT ?_⟩⟩
            refine ⟨_, rfl, _, rfl, rfl, false, congrArg V.bl (decide_eq_false (fun z => by injection z with z; omega)), iteF ?_⟩
            exact ⟨_, .ref a13, _, rfl, f2, hm, ho⟩
      · rintro σ' H' ⟨G', v13, u14, rfl, e5, hm, ho⟩
        have f5 := ((Ext.tmp (o := .tup [.int (hh.length : Nat), .ref t]) e2.ok nT).trans e4).trans e5
        have w4 : H2 l4 ≠ none := fun z => by rw [h4] at z; cases z
        have w5 : H2 l5 ≠ none := fun z => by rw [h5] at z; cases z
        refine ⟨_, rfl, .inl ⟨rfl, _, .of (f5.keep _ _ s4 h4)⟩, ?_⟩
        refine ⟨_, rfl, _, rfl, show 2 ≤ sizeLine by decide, fun t1 nt1 => ?_⟩
        have f6 := f5.trans (.new (o := .tup [.ref a12, .int (ms[hh.length].2 : Nat)]) f5.ok nt1)
        refine ⟨l4, acc1, .ref t1, rfl, rfl, f6.keep _ _ s4 h4, Nat.lt_of_le_of_lt (show acc1.length ≤ 100 by omega) (by decide), ?_⟩
        have e6 := (e2.trans f6).mut (o := .lst (acc1 ++ [.ref t1])) n4 s4 (f6.fresh _ w4 g4)
        have k5 := f6.keep _ _ s5 h5
        have k5' : (upd (upd H' t1 (.tup [.ref a12, .int (ms[hh.length].2 : Nat)])) l4 (.lst (acc1 ++ [.ref t1]))) l5 = some (.lst acc2) := by
          rw [upd_ne (Ne.symm n45)]
          exact k5
        refine ⟨_, rfl, .inl ⟨rfl, _, .of k5'⟩, ?_⟩
        refine ⟨_, rfl, _, rfl, show 2 ≤ sizeLine by decide, fun t2 nt2 => ?_⟩
        have f7 := Ext.new (o := .tup [v13, .int (ms[hh.length].2 : Nat)]) e6.ok nt2
        have k7 := f7.keep _ _ s5 k5'
        refine ⟨l5, acc2, .ref t2, rfl, rfl, k7, Nat.lt_of_le_of_lt (show acc2.length ≤ 100 by omega) (by decide), ?_⟩
        have g7 := f7.fresh l5 (fun z => by rw [k5'] at z; cases z) (f6.fresh _ w5 g5)
        have g7' := f7.fresh l4 (fun z => by rw [upd_same] at z; cases z) (f6.fresh _ w4 g4)
        have e7 := (e6.trans f7).mut (o := .lst (acc2 ++ [.ref t2])) n5' s5 g7
        have z6 := same_new (o := .tup [.ref a12, .int (ms[hh.length].2 : Nat)]) (f5.ok.ex.free nt1)
        have z7 := z6.trans f7.g
        refine ⟨_, acc1 ++ [.ref t1], acc2 ++ [.ref t2], hh ++ [hn], _, _, _, _, _, _, _, _, rfl, e7, sg.trans (f6.g.trans f7.g), g7', g7, ?_, upd_same, by rw [List.length_append]; rfl, ?_, ?_, ?_, ?_, ?_⟩
        · rw [upd_ne n45]
          exact f7.keep _ _ s4 upd_same
        · rw [show s.take (hh.length + 1) = s.take hh.length ++ [s[hh.length]] by rw [List.take_add_one, List.getElem?_eq_getElem hsi]; rfl]
          exact homes_snoc HH h1
        · rw [egm]
          exact papp (Paired.mapP ha1 fun _ _ h => Mv.mono (f6.g.trans f7.g) h) ⟨t1, .ref a12, rfl, f7.g.tup (.of upd_same), Gs.mono z7 hm⟩
        · rw [egm]
          exact papp (Paired.mapP ha2 fun _ _ h => Mv.mono (f6.g.trans f7.g) h) ⟨t2, v13, rfl, .of upd_same, Gs.mono z7 ho⟩
        · rw [egm]
          exact cor_nxt hcor
        · rw [egm]
    · rintro σ H2 ⟨G2, acc1, acc2, hh, b, u8, u9, u10, u11, u12, u13, u14, rfl, e2, sg, g4, g5, h4, h5, hl, HH, ha1, ha2, hcor, hb⟩
      have hlm : hh.length = ms.length := by omega
      have etk : ms.take gvs.length = ms := List.take_of_length_le (by omega)
      rw [etk] at ha1 ha2 hb
      subst hb
      rw [List.take_of_length_le (by omega)] at HH
      refine ⟨_, rfl, _, rfl, _, rfl, show 3 ≤ sizeLine by decide, fun z nz => ?_⟩
      have e3 := e2.frz n5' s5 g5 h5
      have g4' : (upd G2 l5 (.lst acc2)) l4 = none := by
        rw [upd_ne n45]
        exact g4
      have e4 := e3.frz n4 s4 g4' h4
      have e6 := e4.trans (.new (o := .tup [.ref l4, .ref l5, .bl (gm s[far] (.on far) ms hh).2.2.isIn]) e4.ok nz)
      have z3 := same_new (o := .lst acc2) g5
      have z4 := z3.trans (same_new (o := .lst acc1) g4')
      have z6 := same_new (o := .tup [.ref l4, .ref l5, .bl (gm s[far] (.on far) ms hh).2.2.isIn]) (e4.ok.ex.free nz)
      refine q _ ms hh _ _ z (.ref l4) (.ref l5) e6 Gm HH rfl (.of upd_same) ⟨l4, acc1, rfl, .of (z6 _ _ upd_same), Paired.mapP ha1 fun _ _ h => Mv.mono (z4.trans z6) h⟩ ⟨l5, acc2, rfl, .of (z6 _ _ ?_), Paired.mapP ha2 fun _ _ h => Mv.mono (z4.trans z6) h⟩
      rw [upd_ne (Ne.symm n45), upd_same]
end
end Lw
namespace Lw
open PySem L2 PySem.Spec PyProof.Rows
/-! ### what the law's own end needs -/
def pD (p : Int × Int) : PyData := .tuple [.int p.1, .int p.2]
theorem depth_pD (p : Int × Int) : (pD p).depth = 1 := by
  unfold pD
  rw [PyData.depth, show [PyData.int p.1, PyData.int p.2] = [p.1, p.2].map PyData.int from rfl, depth_ints]
theorem lay_pD (p : Int × Int) : (pD p).canLay0 = true := by
  unfold pD
  rw [PyData.canLay0, show [PyData.int p.1, PyData.int p.2] = [p.1, p.2].map PyData.int from rfl, lay_ints]
theorem depth_pairs : ∀ ps : List (Int × Int), PyData.depthAll (ps.map pD) ≤ 1
  | [] => Nat.zero_le _
  | p :: ps => by
    rw [List.map_cons, PyData.depthAll, depth_pD]
    exact Nat.max_le.mpr ⟨Nat.le_refl _, depth_pairs ps⟩
theorem lay_pairs : ∀ ps : List (Int × Int), PyData.canLayAll0 (ps.map pD) = true
  | [] => rfl
  | p :: ps => by
    rw [List.map_cons, PyData.canLayAll0, lay_pairs ps, lay_pD]
    rfl
theorem shaped_pairs (ps : List (Int × Int)) : SeqAt.shaped (.list (ps.map pD)) = true := by
  unfold SeqAt.shaped
  rw [PyData.canLay0, PyData.depth, lay_pairs]
  have := depth_pairs ps
  rw [Bool.true_and]
  refine decide_eq_true ?_
  omega
theorem dp_pairsA {K : PySem.W.Frag} {H : Hp} : ∀ {vs : List V} {ps : List (Int × Int)}, Paired (P2 K H) vs ps → DpAll K H vs (ps.map pD)
  | _, _, .nil => .nil
  | _, _, .cons ⟨a, e, h⟩ t => .cons (e ▸ .tup h (.cons (.int _) (.cons (.int _) .nil))) (dp_pairsA t)
theorem dp_pairs {K : PySem.W.Frag} {H : Hp} {v : V} {ps : List (Int × Int)} (h : Ls P2 K H v ps) : Dp K H v (.list (ps.map pD)) := by
  obtain ⟨a, vs, rfl, hs, hp⟩ := h
  exact .lst hs (dp_pairsA hp)
theorem mono_dpAux {K : PySem.W.Frag} {G G' : Hp} (e : Same G G') {v : V} {i : Int} {z : Str} (h : Dp K G v (.tuple [.int i, .str z])) : Dp K G' v (.tuple [.int i, .str z]) := by
  cases h with
  | tup hs ha =>
    refine .tup (e.tup hs) ?_
    cases ha with
    | cons h1 h2 =>
      cases h1
      cases h2 with
      | cons h3 h4 =>
        cases h3
        cases h4
        exact .cons (.int _) (.cons (.str _) .nil)
theorem mist_form : ∀ (i : Nat) (ls : List (Int × Int)), mist i ls = .none ∨ ∃ (j : Int) (z : Str), mist i ls = .tuple [.int j, .str z]
  | _, [] => .inl rfl
  | i, p :: r => by
    show (if p = (0, 0) then mist (i + 1) r else _) = _ ∨ _
    by_cases h : p = (0, 0)
    · rw [if_pos h]
      rcases mist_form (i + 1) r with e | ⟨j, z, e⟩
      · exact .inl e
      · refine .inr ⟨j, z, ?_⟩
        show (if p = (0, 0) then mist (i + 1) r else _) = _
        rw [if_pos h]
        exact e
    · refine .inr ⟨(i : Int), if p.1 > 0 then "splitter" else "chooser", ?_⟩
      show (if p = (0, 0) then mist (i + 1) r else _) = _
      rw [if_neg h]
theorem mono_mist {K : PySem.W.Frag} {G G' : Hp} (e : Same G G') {v : V} {i : Nat} {ls : List (Int × Int)} (h : Dp K G v (mist i ls)) : Dp K G' v (mist i ls) := by
  rcases mist_form i ls with z | ⟨j, z, q⟩
  · rw [z] at h ⊢
    cases h
    exact .non
  · rw [q] at h ⊢
    exact mono_dpAux e h
theorem six_pow : ∀ s : List Int, (∀ e ∈ s, 2 ≤ e ∧ e ≤ 6) → 0 ≤ prodI s ∧ prodI s ≤ 6 ^ s.length
  | [], _ => ⟨by decide, by decide⟩
  | e :: r, h => by
    obtain ⟨a, b⟩ := six_pow r fun x hx => h x (List.mem_cons_of_mem _ hx)
    have he := h e (by simp)
    show 0 ≤ e * prodI r ∧ e * prodI r ≤ 6 ^ (r.length + 1)
    refine ⟨Int.mul_nonneg (by omega) a, ?_⟩
    rw [Int.pow_succ, Int.mul_comm (6 ^ r.length) 6]
    exact Int.mul_le_mul he.2 b a (by decide)
theorem six_le : ∀ n : Fin 10, (6 : Int) ^ n.val ≤ 6 ^ 9 := by decide +kernel
theorem sok_of {s : List Int} (hl : s.length ≤ 9) (h : ∀ e ∈ s, 2 ≤ e ∧ e ≤ 6) : SOk s := by
  refine ⟨by omega, fun e he => (h e he).1, fun e he => by have := (h e he).2; omega, ?_⟩
  have h1 := (six_pow s h).2
  have h2 : (6 : Int) ^ s.length ≤ 6 ^ 9 := six_le ⟨s.length, by omega⟩
  have h3 : (6 : Int) ^ 9 < 2 ^ 64 := by decide
  omega
theorem flat_zeros (n : Nat) : (List.replicate n [V.int 0]).flatten = (List.replicate n (0 : Int)).map V.int := by
  induction n with
  | zero => rfl
  | succ n ih =>
    rw [List.replicate_succ, List.flatten_cons, ih]
    rfl
theorem came_at {l l' : List Move} {i : Nat} (h : i < l.length) (h' : i < l'.length) : ((came l l').take (i + 1)).map V.int = ((came l l').take i).map V.int ++ [V.int (arr l[i] - arr l'[i])] := by
  have hc : (came l l').length = min l.length l'.length := List.length_zipWith
  have hi : i < (came l l').length := by omega
  rw [List.take_add_one, List.getElem?_eq_getElem hi, List.map_append]
  have e : (came l l')[i] = arr l[i] - arr l'[i] := List.getElem_zipWith
  rw [e]
  rfl
theorem set_ints (l : List Int) (j : Nat) (y : Int) : (l.map V.int).set j (.int y) = (l.set j y).map V.int := List.map_set.symm
theorem gz_in {j : Nat} {x : V} (h : [V.str "many", V.str "few"][j]? = some x) : ∃ many, x = .str (gz many) := by
  match j, h with
  | 0, h => exact ⟨true, by cases h; rfl⟩
  | 1, h => exact ⟨false, by cases h; rfl⟩
  | j + 2, h => simp at h
end Lw
namespace Lw
open PySem L2 PySem.Spec PyProof.Rows
/-! ### the head: every def as a datum, what the names stand for, the run -/
def d_is_integer : He.DefD := ⟨("is_integer", none), "is_integer", "is_integer", defArgs (topS 9), defBody (topS 9), defScope (topS 9), [], []⟩
def d_is_at_least : He.DefD := ⟨("is_at_least", none), "is_at_least", "is_at_least", defArgs (topS 10), defBody (topS 10), defScope (topS 10), [], []⟩
def d_is_between : He.DefD := ⟨("is_between", none), "is_between", "is_between", defArgs (topS 11), defBody (topS 11), defScope (topS 11), [], []⟩
def d_rounded_up : He.DefD := ⟨("rounded_up", none), "rounded_up", "rounded_up", defArgs (topS 12), defBody (topS 12), defScope (topS 12), [], []⟩
def d_require_schedule : He.DefD := ⟨("require_schedule", none), "require_schedule", "require_schedule", defArgs (topS 18), defBody (topS 18), defScope (topS 18), [], []⟩
def d_require_rounds : He.DefD := ⟨("require_rounds", none), "require_rounds", "require_rounds", defArgs (topS 19), defBody (topS 19), defScope (topS 19), [], []⟩
def d_is_group : He.DefD := ⟨("is_group", none), "is_group", "is_group", defArgs (topS 20), defBody (topS 20), defScope (topS 20), [], []⟩
def d_require_counts : He.DefD := ⟨("require_counts", none), "require_counts", "require_counts", defArgs (topS 21), defBody (topS 21), defScope (topS 21), [], []⟩
def d_require_goal : He.DefD := ⟨("require_goal", none), "require_goal", "require_goal", defArgs (topS 22), defBody (topS 22), defScope (topS 22), [], []⟩
def d_require_small_round : He.DefD := ⟨("require_small_round", none), "require_small_round", "require_small_round", defArgs (topS 23), defBody (topS 23), defScope (topS 23), [], []⟩
def d_require_split : He.DefD := ⟨("require_split", none), "require_split", "require_split", defArgs (topS 24), defBody (topS 24), defScope (topS 24), [], []⟩
def d_products : He.DefD := ⟨("products", none), "products", "products", defArgs (topS 25), defBody (topS 25), defScope (topS 25), [], []⟩
def d_scaled_weight : He.DefD := ⟨("scaled_weight", none), "scaled_weight", "scaled_weight", defArgs (topS 26), defBody (topS 26), defScope (topS 26), [], []⟩
def d_rounded : He.DefD := ⟨("rounded", none), "rounded", "rounded", defArgs (topS 27), defBody (topS 27), defScope (topS 27), [], []⟩
def d_guaranteed : He.DefD := ⟨("guaranteed", none), "guaranteed", "guaranteed", defArgs (topS 28), defBody (topS 28), defScope (topS 28), [], []⟩
def d_climbed : He.DefD := ⟨("climbed", none), "climbed", "climbed", defArgs (topS 29), defBody (topS 29), defScope (topS 29), [], []⟩
def d_group_weights : He.DefD := ⟨("group_weights", none), "group_weights", "group_weights", defArgs (topS 31), defBody (topS 31), defScope (topS 31), [], []⟩
def d_group_values : He.DefD := ⟨("group_values", none), "group_values", "group_values", defArgs (topS 32), defBody (topS 32), defScope (topS 32), [], []⟩
def d_is_split : He.DefD := ⟨("is_split", none), "is_split", "is_split", defArgs (topS 34), defBody (topS 34), defScope (topS 34), [], []⟩
def d_is_move : He.DefD := ⟨("is_move", none), "is_move", "is_move", defArgs (topS 35), defBody (topS 35), defScope (topS 35), [], []⟩
def d_require_moves : He.DefD := ⟨("require_moves", none), "require_moves", "require_moves", defArgs (topS 36), defBody (topS 36), defScope (topS 36), [], []⟩
def d_losses_of : He.DefD := ⟨("losses_of", none), "losses_of", "losses_of", defArgs (topS 37), defBody (topS 37), defScope (topS 37), [], []⟩
def d_law_mixed : He.DefD := ⟨("_law_mixed", none), "_law_mixed", "_law_mixed", defArgs (topS 40), defBody (topS 40), defScope (topS 40), [], []⟩
def d_law_take : He.DefD := ⟨("_law_take", none), "_law_take", "_law_take", defArgs (topS 41), defBody (topS 41), defScope (topS 41), [], []⟩
def d_law_one : He.DefD := ⟨("_law_one", none), "_law_one", "_law_one", defArgs (topS 42), defBody (topS 42), defScope (topS 42), [], []⟩
def d_law_source : He.DefD := ⟨("_law_source", none), "_law_source", "_law_source", defArgs (topS 43), defBody (topS 43), defScope (topS 43), [], []⟩
def d_law_steps : He.DefD := ⟨("_law_steps", none), "_law_steps", "_law_steps", defArgs (topS 44), defBody (topS 44), defScope (topS 44), [], []⟩
def d_law_where : He.DefD := ⟨("_law_where", none), "_law_where", "_law_where", defArgs (topS 45), defBody (topS 45), defScope (topS 45), [], []⟩
def d_law_shared : He.DefD := ⟨("_law_shared", none), "_law_shared", "_law_shared", defArgs (topS 46), defBody (topS 46), defScope (topS 46), [], []⟩
def d_law_split : He.DefD := ⟨("_law_split", none), "_law_split", "_law_split", defArgs (topS 47), defBody (topS 47), defScope (topS 47), [], []⟩
def d_law_climbed : He.DefD := ⟨("_law_climbed", none), "_law_climbed", "_law_climbed", defArgs (topS 48), defBody (topS 48), defScope (topS 48), [], []⟩
def d_law_game : He.DefD := ⟨("_law_game", none), "_law_game", "_law_game", defArgs (topS 49), defBody (topS 49), defScope (topS 49), [], []⟩
def d_law_plus : He.DefD := ⟨("_law_plus", none), "_law_plus", "_law_plus", defArgs (topS 50), defBody (topS 50), defScope (topS 50), [], []⟩
def d_law_both_games : He.DefD := ⟨("_law_both_games", none), "_law_both_games", "_law_both_games", defArgs (topS 51), defBody (topS 51), defScope (topS 51), [], []⟩
def d_m_init : He.DefD := ⟨("Record", some "__init__"), "__init__", "Record.__init__", defArgs (inClass (topS 38) 0), defBody (inClass (topS 38) 0), defScope (inClass (topS 38) 0), [], []⟩
def d_m_steps : He.DefD := ⟨("Record", some "steps"), "steps", "Record.steps", defArgs (inClass (topS 38) 1), defBody (inClass (topS 38) 1), defScope (inClass (topS 38) 1), [], []⟩
def d_m_positions : He.DefD := ⟨("Record", some "positions"), "positions", "Record.positions", defArgs (inClass (topS 38) 2), defBody (inClass (topS 38) 2), defScope (inClass (topS 38) 2), [], []⟩
def d_m_arrivals : He.DefD := ⟨("Record", some "arrivals"), "arrivals", "Record.arrivals", defArgs (inClass (topS 38) 3), defBody (inClass (topS 38) 3), defScope (inClass (topS 38) 3), [], []⟩
def d_m_losses : He.DefD := ⟨("Record", some "losses"), "losses", "Record.losses", defArgs (inClass (topS 38) 4), defBody (inClass (topS 38) 4), defScope (inClass (topS 38) 4), [], []⟩
def d_m_first_mistake : He.DefD := ⟨("Record", some "first_mistake"), "first_mistake", "Record.first_mistake", defArgs (inClass (topS 38) 5), defBody (inClass (topS 38) 5), defScope (inClass (topS 38) 5), [], []⟩
def d_law : He.DefD := ⟨("law", none), "law", "law", defArgs (topS 52), defBody (topS 52), defScope (topS 52), [], []⟩
def fnA : List He.DefD := [d_is_integer, d_is_at_least, d_is_between, d_rounded_up, d_require_schedule, d_require_rounds, d_is_group, d_require_counts, d_require_goal, d_require_small_round, d_require_split, d_products, d_scaled_weight, d_rounded, d_guaranteed, d_climbed, d_group_weights, d_group_values, d_is_split, d_is_move]
def fnB : List He.DefD := [d_require_moves, d_losses_of, d_law_mixed, d_law_take, d_law_one, d_law_source, d_law_steps, d_law_where, d_law_shared, d_law_split, d_law_climbed, d_law_game, d_law_plus, d_law_both_games, d_m_init, d_m_steps, d_m_positions, d_m_arrivals, d_m_losses, d_m_first_mistake, d_law]
def fn : List He.DefD := fnA ++ fnB
def faA : List He.Fa := [.glo "is_integer", .glo "is_at_least", .glo "is_between", .glo "rounded_up", .glo "require_schedule", .glo "require_rounds", .glo "is_group", .glo "require_counts", .glo "require_goal", .glo "require_small_round", .glo "require_split", .glo "products", .glo "scaled_weight", .glo "rounded", .glo "guaranteed", .glo "climbed", .glo "group_weights"]
def faB : List He.Fa := [.glo "group_values", .glo "is_split", .glo "is_move", .glo "require_moves", .glo "losses_of", .glo "_law_mixed", .glo "_law_take", .glo "_law_one", .glo "_law_source", .glo "_law_steps", .glo "_law_where", .glo "_law_shared", .glo "_law_split", .glo "_law_climbed", .glo "_law_game", .glo "_law_plus", .glo "_law_both_games", .glo "law"]
def faC : List He.Fa := [.free "isinstance", .free "int", .free "bool", .free "list", .free "tuple", .free "str", .free "len", .free "enumerate", .free "all", .free "any", .free "sum", .free "range", .free "zip", .free "min", .free "max", .free "sorted", .int "MAX_ROUNDS" 200, .int "MAX_GROUPS" 1000, .str "MANY" "many", .str "FEW" "few", .glo "Record", .cls "Record", .mkr "Record", .noat "Record" "schedule", .noat "Record" "start", .noat "Record" "moves", .meth "Record" "steps", .meth "Record" "positions", .meth "Record" "arrivals", .meth "Record" "losses", .meth "Record" "first_mistake"]
def fa : List He.Fa := faA ++ (faB ++ faC)
def loA : List Str := ["ClimbError", "InvalidSchedule", "InvalidCounts", "InvalidSplit", "InvalidGoal", "InvalidMoves", "TooLarge", "is_integer", "is_at_least", "is_between", "rounded_up", "MAX_ROUNDS", "MAX_GROUPS", "MANY", "FEW", "require_schedule", "require_rounds", "is_group", "require_counts", "require_goal", "require_small_round", "require_split", "products"]
def loB : List Str := ["scaled_weight", "rounded", "guaranteed", "climbed", "group_weights", "group_values", "is_split", "is_move", "require_moves", "losses_of", "Record", "_law_mixed", "_law_take", "_law_one", "_law_source", "_law_steps", "_law_where", "_law_shared", "_law_split", "_law_climbed", "_law_game", "_law_plus", "_law_both_games"]
def lo : List Str := loA ++ loB
abbrev Rw : PySem.W.OpenRow := PySem.W.OpenLaw.row PySem.Challenge.rw_splitclimb_k46_whole_merged_climbers
abbrev hk : PySem.W.Hook := He.hookD 5 fa fn
def ob (s : PySem.W.SharedT) : He.AlD := He.obsDG 5 fa fn (HandSHeadRun.getT s)
theorem ob_eq (t : PySem.W.SharedT) : ob t = hk.obs t.abs := He.obsDG_eq (HandSHeadRun.getT_eq t)
theorem run (w : World) : HandSHeadRun.RunEq Rw (PySem.W.view Rw.prog [52]) hk ob 4000 lo w := by
  intro os
  kernel_rfl
structure AllF (K : PySem.W.Frag) (mg : Str → Option Value) : Prop where
  gb : Gb mg
  rc : RecC K (He.ga K "Record")
  d_is_integer : Df K mg "is_integer" (topS 9)
  d_is_at_least : Df K mg "is_at_least" (topS 10)
  d_is_between : Df K mg "is_between" (topS 11)
  d_rounded_up : Df K mg "rounded_up" (topS 12)
  d_require_schedule : Df K mg "require_schedule" (topS 18)
  d_require_rounds : Df K mg "require_rounds" (topS 19)
  d_is_group : Df K mg "is_group" (topS 20)
  d_require_counts : Df K mg "require_counts" (topS 21)
  d_require_goal : Df K mg "require_goal" (topS 22)
  d_require_small_round : Df K mg "require_small_round" (topS 23)
  d_require_split : Df K mg "require_split" (topS 24)
  d_products : Df K mg "products" (topS 25)
  d_scaled_weight : Df K mg "scaled_weight" (topS 26)
  d_rounded : Df K mg "rounded" (topS 27)
  d_guaranteed : Df K mg "guaranteed" (topS 28)
  d_climbed : Df K mg "climbed" (topS 29)
  d_group_weights : Df K mg "group_weights" (topS 31)
  d_group_values : Df K mg "group_values" (topS 32)
  d_is_split : Df K mg "is_split" (topS 34)
  d_is_move : Df K mg "is_move" (topS 35)
  d_require_moves : Df K mg "require_moves" (topS 36)
  d_losses_of : Df K mg "losses_of" (topS 37)
  d_law_mixed : Df K mg "_law_mixed" (topS 40)
  d_law_take : Df K mg "_law_take" (topS 41)
  d_law_one : Df K mg "_law_one" (topS 42)
  d_law_source : Df K mg "_law_source" (topS 43)
  d_law_steps : Df K mg "_law_steps" (topS 44)
  d_law_where : Df K mg "_law_where" (topS 45)
  d_law_shared : Df K mg "_law_shared" (topS 46)
  d_law_split : Df K mg "_law_split" (topS 47)
  d_law_climbed : Df K mg "_law_climbed" (topS 48)
  d_law_game : Df K mg "_law_game" (topS 49)
  d_law_plus : Df K mg "_law_plus" (topS 50)
  d_law_both_games : Df K mg "_law_both_games" (topS 51)
  d_m_init : DfI K mg (He.ga K "Record") "Record" "__init__" "Record.__init__" (inClass (topS 38) 0)
  d_m_steps : DfM K (He.ga K "Record") "steps" "Record.steps" (inClass (topS 38) 1)
  d_m_positions : DfM K (He.ga K "Record") "positions" "Record.positions" (inClass (topS 38) 2)
  d_m_arrivals : DfM K (He.ga K "Record") "arrivals" "Record.arrivals" (inClass (topS 38) 3)
  d_m_losses : DfM K (He.ga K "Record") "losses" "Record.losses" (inClass (topS 38) 4)
  d_m_first_mistake : DfM K (He.ga K "Record") "first_mistake" "Record.first_mistake" (inClass (topS 38) 5)
theorem facts {K : PySem.W.Frag} {h : Heap} {mg : Str → Option Value} (X : K.In h) (G : h.Ns mainGlobals mg) (c : He.SaysD fa fn K) : AllF K mg where
  gb := ⟨He.free_ok X G (c.fact 35 (f := .free "isinstance") rfl), He.free_ok X G (c.fact 36 (f := .free "int") rfl), He.free_ok X G (c.fact 37 (f := .free "bool") rfl), He.free_ok X G (c.fact 38 (f := .free "list") rfl), He.free_ok X G (c.fact 39 (f := .free "tuple") rfl), He.free_ok X G (c.fact 40 (f := .free "str") rfl), He.free_ok X G (c.fact 41 (f := .free "len") rfl), He.free_ok X G (c.fact 42 (f := .free "enumerate") rfl), He.free_ok X G (c.fact 43 (f := .free "all") rfl), He.free_ok X G (c.fact 44 (f := .free "any") rfl), He.free_ok X G (c.fact 45 (f := .free "sum") rfl), He.free_ok X G (c.fact 46 (f := .free "range") rfl), He.free_ok X G (c.fact 47 (f := .free "zip") rfl), He.free_ok X G (c.fact 48 (f := .free "min") rfl), He.free_ok X G (c.fact 49 (f := .free "max") rfl), He.free_ok X G (c.fact 50 (f := .free "sorted") rfl), He.int_ok X G (c.fact 51 (f := .int "MAX_ROUNDS" 200) rfl), He.int_ok X G (c.fact 52 (f := .int "MAX_GROUPS" 1000) rfl), He.str_ok X G (c.fact 53 (f := .str "MANY" "many") rfl), He.str_ok X G (c.fact 54 (f := .str "FEW" "few") rfl)⟩
  rc := ⟨He.cls_ok (c.fact 56 (f := .cls "Record") rfl), He.noat_ok (c.fact 58 (f := .noat "Record" "schedule") rfl), He.noat_ok (c.fact 59 (f := .noat "Record" "start") rfl), He.noat_ok (c.fact 60 (f := .noat "Record" "moves") rfl)⟩
  d_is_integer := let ⟨fd, e⟩ := c.def_ 0 (d := d_is_integer) rfl; ⟨_, fd, e, He.glo_ok X G (c.fact 0 (f := .glo "is_integer") rfl)⟩
  d_is_at_least := let ⟨fd, e⟩ := c.def_ 1 (d := d_is_at_least) rfl; ⟨_, fd, e, He.glo_ok X G (c.fact 1 (f := .glo "is_at_least") rfl)⟩
  d_is_between := let ⟨fd, e⟩ := c.def_ 2 (d := d_is_between) rfl; ⟨_, fd, e, He.glo_ok X G (c.fact 2 (f := .glo "is_between") rfl)⟩
  d_rounded_up := let ⟨fd, e⟩ := c.def_ 3 (d := d_rounded_up) rfl; ⟨_, fd, e, He.glo_ok X G (c.fact 3 (f := .glo "rounded_up") rfl)⟩
  d_require_schedule := let ⟨fd, e⟩ := c.def_ 4 (d := d_require_schedule) rfl; ⟨_, fd, e, He.glo_ok X G (c.fact 4 (f := .glo "require_schedule") rfl)⟩
  d_require_rounds := let ⟨fd, e⟩ := c.def_ 5 (d := d_require_rounds) rfl; ⟨_, fd, e, He.glo_ok X G (c.fact 5 (f := .glo "require_rounds") rfl)⟩
  d_is_group := let ⟨fd, e⟩ := c.def_ 6 (d := d_is_group) rfl; ⟨_, fd, e, He.glo_ok X G (c.fact 6 (f := .glo "is_group") rfl)⟩
  d_require_counts := let ⟨fd, e⟩ := c.def_ 7 (d := d_require_counts) rfl; ⟨_, fd, e, He.glo_ok X G (c.fact 7 (f := .glo "require_counts") rfl)⟩
  d_require_goal := let ⟨fd, e⟩ := c.def_ 8 (d := d_require_goal) rfl; ⟨_, fd, e, He.glo_ok X G (c.fact 8 (f := .glo "require_goal") rfl)⟩
  d_require_small_round := let ⟨fd, e⟩ := c.def_ 9 (d := d_require_small_round) rfl; ⟨_, fd, e, He.glo_ok X G (c.fact 9 (f := .glo "require_small_round") rfl)⟩
  d_require_split := let ⟨fd, e⟩ := c.def_ 10 (d := d_require_split) rfl; ⟨_, fd, e, He.glo_ok X G (c.fact 10 (f := .glo "require_split") rfl)⟩
  d_products := let ⟨fd, e⟩ := c.def_ 11 (d := d_products) rfl; ⟨_, fd, e, He.glo_ok X G (c.fact 11 (f := .glo "products") rfl)⟩
  d_scaled_weight := let ⟨fd, e⟩ := c.def_ 12 (d := d_scaled_weight) rfl; ⟨_, fd, e, He.glo_ok X G (c.fact 12 (f := .glo "scaled_weight") rfl)⟩
  d_rounded := let ⟨fd, e⟩ := c.def_ 13 (d := d_rounded) rfl; ⟨_, fd, e, He.glo_ok X G (c.fact 13 (f := .glo "rounded") rfl)⟩
  d_guaranteed := let ⟨fd, e⟩ := c.def_ 14 (d := d_guaranteed) rfl; ⟨_, fd, e, He.glo_ok X G (c.fact 14 (f := .glo "guaranteed") rfl)⟩
  d_climbed := let ⟨fd, e⟩ := c.def_ 15 (d := d_climbed) rfl; ⟨_, fd, e, He.glo_ok X G (c.fact 15 (f := .glo "climbed") rfl)⟩
  d_group_weights := let ⟨fd, e⟩ := c.def_ 16 (d := d_group_weights) rfl; ⟨_, fd, e, He.glo_ok X G (c.fact 16 (f := .glo "group_weights") rfl)⟩
  d_group_values := let ⟨fd, e⟩ := c.def_ 17 (d := d_group_values) rfl; ⟨_, fd, e, He.glo_ok X G (c.fact 17 (f := .glo "group_values") rfl)⟩
  d_is_split := let ⟨fd, e⟩ := c.def_ 18 (d := d_is_split) rfl; ⟨_, fd, e, He.glo_ok X G (c.fact 18 (f := .glo "is_split") rfl)⟩
  d_is_move := let ⟨fd, e⟩ := c.def_ 19 (d := d_is_move) rfl; ⟨_, fd, e, He.glo_ok X G (c.fact 19 (f := .glo "is_move") rfl)⟩
  d_require_moves := let ⟨fd, e⟩ := c.def_ 20 (d := d_require_moves) rfl; ⟨_, fd, e, He.glo_ok X G (c.fact 20 (f := .glo "require_moves") rfl)⟩
  d_losses_of := let ⟨fd, e⟩ := c.def_ 21 (d := d_losses_of) rfl; ⟨_, fd, e, He.glo_ok X G (c.fact 21 (f := .glo "losses_of") rfl)⟩
  d_law_mixed := let ⟨fd, e⟩ := c.def_ 22 (d := d_law_mixed) rfl; ⟨_, fd, e, He.glo_ok X G (c.fact 22 (f := .glo "_law_mixed") rfl)⟩
  d_law_take := let ⟨fd, e⟩ := c.def_ 23 (d := d_law_take) rfl; ⟨_, fd, e, He.glo_ok X G (c.fact 23 (f := .glo "_law_take") rfl)⟩
  d_law_one := let ⟨fd, e⟩ := c.def_ 24 (d := d_law_one) rfl; ⟨_, fd, e, He.glo_ok X G (c.fact 24 (f := .glo "_law_one") rfl)⟩
  d_law_source := let ⟨fd, e⟩ := c.def_ 25 (d := d_law_source) rfl; ⟨_, fd, e, He.glo_ok X G (c.fact 25 (f := .glo "_law_source") rfl)⟩
  d_law_steps := let ⟨fd, e⟩ := c.def_ 26 (d := d_law_steps) rfl; ⟨_, fd, e, He.glo_ok X G (c.fact 26 (f := .glo "_law_steps") rfl)⟩
  d_law_where := let ⟨fd, e⟩ := c.def_ 27 (d := d_law_where) rfl; ⟨_, fd, e, He.glo_ok X G (c.fact 27 (f := .glo "_law_where") rfl)⟩
  d_law_shared := let ⟨fd, e⟩ := c.def_ 28 (d := d_law_shared) rfl; ⟨_, fd, e, He.glo_ok X G (c.fact 28 (f := .glo "_law_shared") rfl)⟩
  d_law_split := let ⟨fd, e⟩ := c.def_ 29 (d := d_law_split) rfl; ⟨_, fd, e, He.glo_ok X G (c.fact 29 (f := .glo "_law_split") rfl)⟩
  d_law_climbed := let ⟨fd, e⟩ := c.def_ 30 (d := d_law_climbed) rfl; ⟨_, fd, e, He.glo_ok X G (c.fact 30 (f := .glo "_law_climbed") rfl)⟩
  d_law_game := let ⟨fd, e⟩ := c.def_ 31 (d := d_law_game) rfl; ⟨_, fd, e, He.glo_ok X G (c.fact 31 (f := .glo "_law_game") rfl)⟩
  d_law_plus := let ⟨fd, e⟩ := c.def_ 32 (d := d_law_plus) rfl; ⟨_, fd, e, He.glo_ok X G (c.fact 32 (f := .glo "_law_plus") rfl)⟩
  d_law_both_games := let ⟨fd, e⟩ := c.def_ 33 (d := d_law_both_games) rfl; ⟨_, fd, e, He.glo_ok X G (c.fact 33 (f := .glo "_law_both_games") rfl)⟩
  d_m_init := let ⟨fd, e⟩ := c.def_ 34 (d := d_m_init) rfl; ⟨_, fd, e, He.mkr_ok (c.fact 57 (f := .mkr "Record") rfl), He.glo_ok X G (c.fact 55 (f := .glo "Record") rfl)⟩
  d_m_steps := let ⟨fd, e⟩ := c.def_ 35 (d := d_m_steps) rfl; ⟨_, fd, e, He.meth_ok (c.fact 61 (f := .meth "Record" "steps") rfl)⟩
  d_m_positions := let ⟨fd, e⟩ := c.def_ 36 (d := d_m_positions) rfl; ⟨_, fd, e, He.meth_ok (c.fact 62 (f := .meth "Record" "positions") rfl)⟩
  d_m_arrivals := let ⟨fd, e⟩ := c.def_ 37 (d := d_m_arrivals) rfl; ⟨_, fd, e, He.meth_ok (c.fact 63 (f := .meth "Record" "arrivals") rfl)⟩
  d_m_losses := let ⟨fd, e⟩ := c.def_ 38 (d := d_m_losses) rfl; ⟨_, fd, e, He.meth_ok (c.fact 64 (f := .meth "Record" "losses") rfl)⟩
  d_m_first_mistake := let ⟨fd, e⟩ := c.def_ 39 (d := d_m_first_mistake) rfl; ⟨_, fd, e, He.meth_ok (c.fact 65 (f := .meth "Record" "first_mistake") rfl)⟩
theorem law_fun {K : PySem.W.Frag} (c : He.SaysD fa fn K) : ∃ fd, FunD K "law" "law" (defArgs (topS 52)) (defBody (topS 52)) (defScope (topS 52)) [] [] (He.ga K "law") fd := c.def_ 40 (d := d_law) rfl
theorem law_glo {K : PySem.W.Frag} {h : Heap} {mg : Str → Option Value} (X : K.In h) (G : h.Ns mainGlobals mg) (c : He.SaysD fa fn K) : mg "law" = some (.ref (He.ga K "law")) := He.glo_ok X G (c.fact 34 (f := .glo "law") rfl)
end Lw
namespace Lw
open PySem L2 PySem.Spec PyProof.Rows
section
variable {mg : Str → Option Value} {base : Heap} {K : PySem.W.Frag} {P : Program} {w : World} {C : Addr}
def spLaw (K : PySem.W.Frag) : Sp := fun vs H Q _ => ∃ (a : Addr) (script : List Int), vs = [.ref a] ∧ script.length ≤ 63 ∧ SqL K H a (script.map V.int) ∧ ∀ H', Q (.bl true) H'
theorem ok_law {f0 : Addr} {fd : FuncData} (T : Gb mg) (R : RecC K C) (F : FunD K "law" "law" (defArgs (topS 52)) (defBody (topS 52)) (defScope (topS 52)) [] [] f0 fd)
    (c_l_take : Cal P w K mg base "_law_take" ["_law_source_here", "_law_many"] 2 spTake) (c_l_one : Cal P w K mg base "_law_one" ["_law_source_here", "_law_some"] 3 (spOne K)) (c_l_source : Cal P w K mg base "_law_source" ["_law_cell"] 1 spSource) (c_l_steps : Cal P w K mg base "_law_steps" ["_law_source_here", "_law_least", "_law_most", "_law_high"] 3 (spLSteps K))
    (c_l_where : Cal P w K mg base "_law_where" ["_law_source_here", "_law_length", "_law_bound"] 4 (spWhere K)) (c_l_plus : Cal P w K mg base "_law_plus" ["_law_group", "_law_far", "_law_many"] 1 (spPlus K)) (c_l_both : Cal P w K mg base "_law_both_games" ["_law_source_here", "_law_steps_here", "_law_where_here", "_law_far"] 6 (spBoth K))
    (mkR : CalI P w K mg base C "Record" ["self", "schedule", "counts", "moves"] 7 (spInit K C)) (m_losses : CalM P w K mg base C "losses" ["self", "goal"] 7 (spLosses K C)) (m_first_mistake : CalM P w K mg base C "first_mistake" ["self", "goal"] 8 (spFirst K C))
    (m_arrivals : CalM P w K mg base C "arrivals" ["self"] 3 (spArr K C)) : FnOk P w K mg base CX0 9 f0 fd ["_law_script"] (spLaw K) := by
  have sc : FnScope ["_law_script", "_law_cell", "_law_source_here", "_law_steps_here", "_law_where_here", "_law_far", "_law_first", "_law_second", "_law_arrives", "_law_game_here", "_law_other", "_law_aim", "_law_came", "_law_due", "_law_a", "_law_b"] ["_law_script"] (defScope (topS 52)) := ⟨rfl, rfl, rfl, by decide +kernel, rfl, by decide +kernel, by decide +kernel⟩
  refine F.ok sc (fun vs H Q E h => ?_) fun cdv A outer s0 H vs Q E hr h => ?_
  · obtain ⟨a, ns, rfl, _⟩ := h; rfl
  · obtain ⟨a, ns, rfl, nl, ha, q⟩ := h
    suffices hh : ∃ t, PSs (cxOf CX0 P w K mg base ["_law_script", "_law_cell", "_law_source_here", "_law_steps_here", "_law_where_here", "_law_far", "_law_first", "_law_second", "_law_arrives", "_law_game_here", "_law_other", "_law_aim", "_law_came", "_law_due", "_law_a", "_law_b"] "law" (defScope (topS 52)) f0 cdv A outer s0 H E).nox (defBody (topS 52)) t ∧ t { nx := fun _ H' => Q .non H', rt := Q } (start ["_law_script", "_law_cell", "_law_source_here", "_law_steps_here", "_law_where_here", "_law_far", "_law_first", "_law_second", "_law_arrives", "_law_game_here", "_law_other", "_law_aim", "_law_came", "_law_due", "_law_a", "_law_b"] [.ref a]) H from let ⟨t, h1, h2⟩ := hh; ⟨t, h1.nox, h2⟩
    refine ⟨_, (pss_cons (ps_for PassesOwn.never rfl (pi_listK K (pe_slice (sl_listK K) (pe_op (op_catLK K) (pv 0) (pe_lst (pa_cons pe_int pa_nil))) po_none (po_some pe_int))) (pg_name (i := 1) sc.nd rfl (Or.inl rfl)) (pss_cons (ps_set (i := 2) sc.nd rfl (Or.inl rfl) (pe_cal c_l_source (hr.mono (by decide)) (by rfl) (pa_cons (pv 1) pa_nil))) (pss_cons (ps_set (i := 3) sc.nd rfl (Or.inl rfl) (pe_cal c_l_steps (hr.mono (by decide)) (by rfl) (pa_cons (pv 2) (pa_cons pe_int (pa_cons pe_int (pa_cons pe_int pa_nil)))))) (pss_cons (ps_set (i := 4) sc.nd rfl (Or.inl rfl) (pe_cal c_l_where (hr.mono (by decide)) (by rfl) (pa_cons (pv 2) (pa_cons (pe_op op_add (pe_callB (cr_lenK K) (by rfl) T.len_ (by decide +kernel) (pa_cons (pv 3) pa_nil)) (pe_cal c_l_take (hr.mono (by decide)) (by rfl) (pa_cons (pv 2) (pa_cons pe_int pa_nil)))) (pa_cons (pe_cal c_l_one (hr.mono (by decide)) (by rfl) (pa_cons (pv 2) (pa_cons (pe_lst (pa_cons pe_int (pa_cons pe_int (pa_cons pe_int (pa_cons (pe_op op_pow pe_int pe_int) pa_nil))))) pa_nil))) pa_nil))))) (pss_cons (ps_set (i := 5) sc.nd rfl (Or.inl rfl) (pe_op op_add pe_int (pe_cal c_l_take (hr.mono (by decide)) (by rfl) (pa_cons (pv 2) (pa_cons (pe_op op_sub (pe_callB (cr_lenK K) (by rfl) T.len_ (by decide +kernel) (pa_cons (pv 3) pa_nil)) pe_int) pa_nil))))) (pss_cons (ps_asg (pe_cal c_l_both (hr.mono (by decide)) (by rfl) (pa_cons (pv 2) (pa_cons (pv 3) (pa_cons (pv 4) (pa_cons (pv 5) pa_nil))))) (pg_tupK K 3 rfl (pgs_cons (pg_name (i := 6) sc.nd rfl (Or.inl rfl)) (pgs_cons (pg_name (i := 7) sc.nd rfl (Or.inl rfl)) (pgs_cons (pg_name (i := 8) sc.nd rfl (Or.inl rfl)) pgs_nil))))) (pss_cons (ps_set (i := 9) sc.nd rfl (Or.inl rfl) (pe_mk mkR (hr.mono (by decide)) (by rfl) (pa_cons (pv 3) (pa_cons (pe_cal c_l_plus (hr.mono (by decide)) (by rfl) (pa_cons (pv 4) (pa_cons (pv 5) (pa_cons pe_int pa_nil)))) (pa_cons (pv 6) pa_nil))))) (pss_cons (ps_set (i := 10) sc.nd rfl (Or.inl rfl) (pe_mk mkR (hr.mono (by decide)) (by rfl) (pa_cons (pv 3) (pa_cons (pe_cal c_l_plus (hr.mono (by decide)) (by rfl) (pa_cons (pv 4) (pa_cons (pe_op op_add (pv 5) pe_int) (pa_cons (pe_ix (ix_listK K) (pv 3) (pv 5) (fun _ _ => rfl)) pa_nil)))) (pa_cons (pv 7) pa_nil))))) (pss_cons (ps_for PassesOwn.never rfl (pi_listK K (pe_lst (pa_cons pe_str (pa_cons pe_str pa_nil)))) (pg_name (i := 11) sc.nd rfl (Or.inl rfl)) (pss_one (ps_if (PW.pt (pw_or (pt_cmpR (op_neDK K hr.units) (pe_mcal (pv 9) R.cl m_losses (hr.mono (by decide)) (pa_cons (pv 11) pa_nil)) (pe_mcal (pv 10) R.cl m_losses (hr.mono (by decide)) (pa_cons (pv 11) pa_nil)) (nomark _)) (pw_or1 (pt_cmpR (op_neDK K hr.units) (pe_mcal (pv 9) R.cl m_first_mistake (hr.mono (by decide)) (pa_cons (pv 11) pa_nil)) (pe_mcal (pv 10) R.cl m_first_mistake (hr.mono (by decide)) (pa_cons (pv 11) pa_nil)) (nomark _))))) (pss_one (ps_ret pe_bl)) pss_nil))) (pss_cons (ps_setLc (i := 12) (own := [("_law_a", 14), ("_law_b", 15)]) rfl sc.nd rfl rfl (sw_true rfl rfl rfl (by kernel_rfl)) (pi_zipK K (by rfl) T.zip_ (pa_cons (pe_mcal0 (pv 9) R.cl m_arrivals (hr.mono (by decide))) (pa_cons (pe_mcal0 (pv 10) R.cl m_arrivals (hr.mono (by decide))) pa_nil))) (blkOk_by (by kernel_rfl)) (fun _ _ _ _ _ => (pg_tupK K 2 rfl (pgs_cons (pg_name (i := 14) sc.nd rfl (Or.inl rfl)) (pgs_cons (pg_name (i := 15) sc.nd rfl (Or.inl rfl)) pgs_nil)))) (fun _ _ _ _ _ => pts_nil) (fun _ _ _ _ _ => (pe_op op_sub (pv 14) (pv 15)))) (pss_cons (ps_set (i := 13) sc.nd rfl (Or.inl rfl) (pe_op op_rep (pe_lst (pa_cons pe_int pa_nil)) (pe_callB (cr_lenK K) (by rfl) T.len_ (by decide +kernel) (pa_cons (pv 3) pa_nil)))) (Evl.pss_cut (ps_if (pt_val (pv 8)) (pss_one (ps_asg (pe_tup (pa_cons pe_int (pa_cons (pe_un un_neg pe_int) pa_nil))) (pg_tupK K 2 rfl (pgs_cons (pg_sub (pv 13) (pe_op op_sub (pv 5) pe_int) set_list) (pgs_cons (pg_sub (pv 13) (pv 5) set_list) pgs_nil))))) pss_nil) (pss_one (ps_if (PW.pt (pw_or (pt_cmpR (op_neDK K hr.units) (pv 12) (pv 13) (nomark _)) (pw_or1 (pt_cmpR op_ne (pe_callB (cr_sumK K rfl) (by rfl) T.sum_ (by decide +kernel) (pa_cons (pe_mcal0 (pv 9) R.cl m_arrivals (hr.mono (by decide))) pa_nil)) (pe_callB (cr_sumK K rfl) (by rfl) T.sum_ (by decide +kernel) (pa_cons (pe_mcal0 (pv 10) R.cl m_arrivals (hr.mono (by decide))) pa_nil)) (nomark _))))) (pss_one (ps_ret pe_bl)) pss_nil)))))))))))))) (pss_one (ps_ret pe_bl))), ?_⟩
    refine ⟨_, rfl, show 1 ≤ sizeLine by decide, fun u nu => ?_⟩
    refine ⟨a, u, _, [.int 0], rfl, rfl, (same_new nu).seq ha, .of upd_same, Nat.le_trans (show (ns.map V.int).length + 1 ≤ 100 by rw [List.length_map]; omega) (by decide), fun p np => ?_⟩
    refine ⟨4, rfl, p, _, rfl, .of upd_same, fun p2 np2 => ?_⟩
    obtain ⟨cells, ecells⟩ : ∃ cells : List Int, cutV (ns.map V.int ++ [V.int 0]) none (some 4) = cells.map V.int := by
      refine ⟨(ns ++ [0]).take 4, ?_⟩
      rw [show (some 4 : Option Int) = some ((4 : Nat) : Int) from rfl, cut_to, List.map_take, List.map_append]
      rfl
    rw [ecells]
    refine ⟨p2, rfl, ⟨_, .of upd_same⟩, for_it (walk_list (K := K) (a := p2) (xs := cells.map V.int)) (fun _ σ H' => (∃ u1 u2 u3 u4 u5 u6 u7 u8 u9 u10 u11 u12 u13 u14 u15 : Option V, σ = [some (.ref a), u1, u2, u3, u4, u5, u6, u7, u8, u9, u10, u11, u12, u13, u14, u15]) ∧ SqL K H' p2 (cells.map V.int))
      ⟨⟨none, none, none, none, none, none, none, none, none, none, none, none, none, none, none, rfl⟩, .of upd_same⟩ (fun _ _ _ _ h => h.2) ?_ ?_⟩
    · rintro i x σ H1 H1' hi ⟨⟨u1, u2, u3, u4, u5, u6, u7, u8, u9, u10, u11, u12, u13, u14, u15, rfl⟩, hp2⟩ ⟨rfl, hx⟩
      obtain ⟨_, rfl⟩ := int_at hx
      refine ⟨_, rfl, _, rfl, fun ps nps => ?_⟩
      have ok0 : Ok (some ps) H1' (upd H1' ps (.lst [.int cells[i], .int cells[i], .int 0])) := ⟨same_new nps, fun b e => by cases e; exact ⟨nps, _, _, _, upd_same⟩⟩
      refine ⟨_, rfl, H1', ps, rfl, ok0, fun v s G3 H3 e3 ⟨sa, ev, hs⟩ l2 l9 sb => ?_⟩
      subst ev
      -- where
      refine ⟨_, rfl, _, rfl, sa, _, rfl, .inl (e3.ok.ex.seq hs), _, rfl, G3, ps, _, rfl, e3.ok, by decide, by decide, fun r4 H4 r40 r41 e4 => ?_⟩
      refine ⟨_, _, rfl, rfl, _, rfl, _, _, rfl, rfl, ⟨by decide, by decide, by decide⟩, show 4 ≤ sizeLine by decide, fun l5 n5 => ?_⟩
      have e5 := e4.trans (.new (o := .lst [.int 1, .int 3, .int 40, .int (10 ^ 17)]) e4.ok n5)
      refine ⟨_, ps, _, [1, 3, 40, 10 ^ 17], rfl, e5.ok, ⟨l5, rfl, .of upd_same⟩, by simp, by simp, fun bd H6 hbd e6 => ?_⟩
      have hbd' : 1 ≤ bd ∧ bd ≤ 10 ^ 17 := by
        simp at hbd
        omega
      have e36 := e3.trans (e5.trans e6)
      refine ⟨_, ps, (s.length : Nat) + r4, bd, ?_, e36.ok, by omega, by omega, hbd'.1, hbd'.2, fun cv c G7 H7 e7 hc cl cb => ?_⟩
      · show [V.ref ps, V.int (((s.map V.int).length : Nat) + r4), V.int bd] = _
        rw [List.length_map]
      have e37 := e36.trans e7
      -- far
      have hs7 := (e5.trans (e6.trans e7)).g.seq hs
      refine ⟨_, rfl, _, rfl, sa, _, rfl, .inl (e37.ok.ex.seq hs7), _, _, rfl, rfl, G7, ps, _, rfl, e7.ok, ?_, ?_, fun r8 H8 r80 r81 e8 => ?_⟩
      · show 1 ≤ ((s.map V.int).length : Int) - 1
        rw [List.length_map]
        omega
      · show ((s.map V.int).length : Int) - 1 < 2 ^ 64
        rw [List.length_map]
        omega
      rw [List.length_map] at r81
      obtain ⟨d, rfl⟩ := Int.eq_ofNat_of_zero_le r80
      refine ⟨_, _, rfl, rfl, ?_⟩
      rw [show (fun i j : Int => V.int (i + j)) 1 (d : Nat) = V.int ((d + 1 : Nat) : Int) from congrArg V.int (by omega)]
      have hd : d + 1 < s.length := by omega
      have e38 := e37.trans e8
      refine ⟨_, rfl, _, rfl, _, rfl, _, rfl, G7, ps, .ref sa, cv, s, c, d + 1, rfl, e8.ok, ⟨sa, rfl, hs7⟩, hc, sb, l9, by omega, by omega, cb, hd, fun v9 ms hh G9 H9 t x y e9 Gm HH ev ht hx1 hy1 => ?_⟩
      subst ev
      rw [getD_at hd] at ht hx1 hy1
      have hq := sb _ (List.getElem_mem hd)
      obtain ⟨g1, g2, hloss⟩ := twin s[d + 1] (by omega) s c ms hh (.on (d + 1)) Gm HH ⟨hd, getD_at hd⟩ (by omega) (by omega) (fun x hx => by have := sb x hx; omega)
      obtain ⟨hcame, hsum⟩ := came_due s[d + 1] Gm HH (far := d + 1) (by omega) hd (by omega)
      obtain ⟨m1, m2, st, egm⟩ : ∃ m1 m2 st, gm s[d + 1] (.on (d + 1)) ms hh = (m1, m2, st) := ⟨_, _, _, rfl⟩
      rw [egm] at ht hx1 hy1 g1 g2 hcame hsum
      simp only [egm] at hloss
      change Game s (pl c d 1) m1 at g1
      change Game s (pl c (d + 1) s[d + 1]) m2 at g2
      change ∀ many, lossL many s (pl c d 1) m1 = lossL many s (pl c (d + 1) s[d + 1]) m2 at hloss
      change came m1 m2 = due s.length (d + 1) st.isIn at hcame
      change (m1.map arr).sum = (m2.map arr).sum at hsum
      refine ⟨t, _, rfl, e9.ok.ex.tup ht, rfl, _, _, rfl, _, _, rfl, _, _, rfl, rfl, ?_⟩
      have sk := sok_of l9 sb
      have hsH := e9.ok.ex.seq (e9.g.seq hs7)
      have hcH := TupI.mono (e9.g.trans e9.ok.ex) hc
      have h1 := Ls.mono Mv.mo e9.ok.ex hx1
      have h2 := Ls.mono Mv.mo e9.ok.ex hy1
      have c1 : (pl c d 1).length = c.length := pl_len (by omega)
      have c2 : (pl c (d + 1) s[d + 1]).length = c.length := pl_len (by omega)
      have n1 : ∀ z ∈ pl c d 1, 0 ≤ z := pl_nn (by omega) (by omega) fun z hz => (cb z hz).1
      have n2 : ∀ z ∈ pl c (d + 1) s[d + 1], 0 ≤ z := pl_nn (by omega) (by omega) fun z hz => (cb z hz).1
      -- the two records
      refine ⟨_, rfl, _, rfl, _, rfl, H9, cv, c, d, 1, .refl _, rfl, hcH, by omega, by omega, fun cv1 G10 H10 e10 hc1 => ?_⟩
      refine ⟨_, rfl, fun p1 dx1 np1 nd1 ne1 => ?_⟩
      have np1' : (upd H10 dx1 (.own p1)) p1 = none := by rw [upd_ne (Ne.symm ne1)]; exact np1
      refine ⟨G10, p1, dx1, .ref sa, cv1, x, s, pl c d 1, m1, rfl, e10.ok.ex.trans ((same_new nd1).trans (same_new np1')), e10.ok.ex.free np1, upd_same, ⟨sa, rfl, e10.g.seq hsH⟩, hc1, Ls.mono Mv.mo e10.g h1, sk, g1, by omega, by omega, n1, fun G11 H11 s1 s2 _ hR1 => ⟨rfl, ?_⟩⟩
      have z11 := e10.g.trans s1
      refine ⟨_, rfl, _, rfl, _, rfl, _, _, rfl, rfl, _, rfl, _, rfl, sa, _, ((d + 1 : Nat) : Int), .int s[d + 1], rfl, rfl, (z11.trans s2).seq hsH, atI_nat (int_get hd), G11, cv, c, d + 1, s[d + 1], s2, rfl, TupI.mono z11 hcH, by omega, by omega, fun cv2 G12 H12 e12 hc2 => ?_⟩
      refine ⟨_, rfl, fun p3 dx3 np3 nd3 ne3 => ?_⟩
      have np3' : (upd H12 dx3 (.own p3)) p3 = none := by rw [upd_ne (Ne.symm ne3)]; exact np3
      have z12 := z11.trans e12.g
      refine ⟨G12, p3, dx3, .ref sa, cv2, y, s, pl c (d + 1) s[d + 1], m2, rfl, e12.ok.ex.trans ((same_new nd3).trans (same_new np3')), e12.ok.ex.free np3, upd_same, ⟨sa, rfl, z12.seq hsH⟩, hc2, Ls.mono Mv.mo z12 h2, sk, g2, by omega, by omega, n2, fun G13 H13 s3 s4 _ hR2 => ⟨rfl, ?_⟩⟩
      have gd1 : Good K C G13 (.ref p1) s (pl c d 1) m1 := ⟨Rc.mono (e12.g.trans s3) hR1, sk, g1, by omega, by omega, n1⟩
      have gd2 : Good K C G13 (.ref p3) s (pl c (d + 1) s[d + 1]) m2 := ⟨hR2, sk, g2, by omega, by omega, n2⟩
      have z13 := z12.trans s3
      have hp13 := ((e38.g.trans (e9.g.trans e9.ok.ex)).trans z13).seq hp2
      have hs13 := z13.seq hsH
      obtain ⟨a1, dxa1, sv1, cq1, mq1, ea1, hi1, _⟩ := id gd1.1
      obtain ⟨a3, dxa3, sv3, cq3, mq3, ea3, hi3, _⟩ := id gd2.1
      cases ea1
      cases ea3
      have mv1 := mvOk_of sk g1 (by omega) (by omega)
      have mv2 := mvOk_of sk g2 (by omega) (by omega)
      have ml1 := game_len g1
      have ml2 := game_len g2
      refine ⟨show 2 ≤ sizeLine by decide, fun lp nlp => ?_⟩
      refine ⟨lp, rfl, ⟨_, .of upd_same⟩, for_it (walk_list (K := K) (a := lp) (xs := [.str "many", .str "few"])) (fun _ σ H' => (∃ u11 : Option V, σ = [some (.ref a), some (.int cells[i]), some (.ref ps), some (.ref sa), some cv, some (.int ((d + 1 : Nat) : Int)), some x, some y, some (.bl st.isIn), some (.ref p1), some (.ref p3), u11, u12, u13, u14, u15]) ∧ Same (upd H13 lp (.lst [.str "many", .str "few"])) H')
        ⟨⟨u11, rfl⟩, .refl _⟩ (fun _ _ _ _ h => h.2.seq (.of upd_same)) ?_ ?_⟩
      · rintro j z σ H15 H15' hj ⟨⟨w11, rfl⟩, s15⟩ ⟨rfl, hz⟩
        obtain ⟨many, rfl⟩ := gz_in hz
        have t13 := s4.trans ((same_new (o := .lst [.str "many", .str "few"]) nlp).trans s15)
        refine ⟨_, rfl, p1, dxa1, _, rfl, t13 _ _ hi1, fl_no _ _ _ (by decide +kernel) (by decide +kernel) (by decide +kernel), _, rfl, G13, _, many, s, _, m1, t13, rfl, gd1, fun v16 G16 H16 e16 hv16 => ?_⟩
        refine ⟨_, rfl, p3, dxa3, _, rfl, e16.ok.ex _ _ (e16.g _ _ hi3), fl_no _ _ _ (by decide +kernel) (by decide +kernel) (by decide +kernel), _, rfl, G16, _, many, s, _, m2, e16.ok.ex, rfl, Good.mono e16.g gd2, fun v17 G17 H17 e17 hv17 => ?_⟩
        refine ⟨.list ((lossL many s _ m1).map pD), .list ((lossL many s _ m2).map pD), dp_pairs (Ls.mono P2.mo (e17.g.trans e17.ok.ex) hv16), dp_pairs (Ls.mono P2.mo e17.ok.ex hv17), shaped_pairs _, shaped_pairs _, _, rfl, ?_⟩
        rw [hloss many, eqv_of_shaped (shaped_pairs _)]
        refine iteF ?_
        have y17 := e16.g.trans e17.g
        refine ⟨_, rfl, p1, dxa1, _, rfl, e17.ok.ex _ _ (y17 _ _ hi1), fl_no _ _ _ (by decide +kernel) (by decide +kernel) (by decide +kernel), _, rfl, G17, _, many, s, _, m1, e17.ok.ex, rfl, Good.mono y17 gd1, fun v18 G18 H18 e18 hv18 => ?_⟩
        have y18 := y17.trans e18.g
        refine ⟨_, rfl, p3, dxa3, _, rfl, e18.ok.ex _ _ (y18 _ _ hi3), fl_no _ _ _ (by decide +kernel) (by decide +kernel) (by decide +kernel), _, rfl, G18, _, many, s, _, m2, e18.ok.ex, rfl, Good.mono y18 gd2, fun v19 G19 H19 e19 hv19 => ?_⟩
        refine ⟨mist 0 (lossL many s _ m1), mist 0 (lossL many s _ m2), mono_mist (e19.g.trans e19.ok.ex) hv18, mono_mist e19.ok.ex hv19, depth_mist _ _, depth_mist _ _, _, rfl, ?_⟩
        rw [hloss many, eqv_of_shaped (depth_mist _ _)]
        refine iteF ?_
        exact ⟨⟨_, rfl⟩, s15.trans (e16.sameH.trans (e17.sameH.trans (e18.sameH.trans e19.sameH)))⟩
      · rintro σ H20 ⟨⟨w11, rfl⟩, s20⟩
        have t13 := s4.trans ((same_new (o := .lst [.str "many", .str "few"]) nlp).trans s20)
        refine ⟨_, rfl, p1, dxa1, _, rfl, t13 _ _ hi1, fl_no _ _ _ (by decide +kernel) (by decide +kernel) (by decide +kernel), G13, _, s, _, m1, t13, rfl, gd1.1, mv1, fun v21 G21 H21 e21 ⟨b1, ev, hb1⟩ => ?_⟩
        subst ev
        refine ⟨_, rfl, p3, dxa3, _, rfl, e21.ok.ex _ _ (e21.g _ _ hi3), fl_no _ _ _ (by decide +kernel) (by decide +kernel) (by decide +kernel), G21, _, s, _, m2, e21.ok.ex, rfl, Rc.mono e21.g gd2.1, mv2, fun v22 G22 H22 e22 ⟨b2, ev, hb2⟩ => ?_⟩
        subst ev
        have f1 := e22.g.seq hb1
        refine ⟨b1, b2, _, _, rfl, e22.ok.ex.seq f1, e22.ok.ex.seq hb2, fun Dl hD => ?_⟩
        refine lcG (walk_zip (K := K) (a := b1) (b := b2) (xs := (m1.map arr).map V.int) (ys := (m2.map arr).map V.int) (n := m1.length) (by simp only [List.length_map]; omega)) (fun i acc _ => acc = ((came m1 m2).take i).map V.int) hD e22.ok (by omega) (fun G' H' e => ⟨(e.g.trans e.ok.ex).seq f1, (e.g.trans e.ok.ex).seq hb2⟩) rfl ?_ ?_
        · rintro j z acc G24 H24 H24' hj e24 hacc ⟨TA, x1, y1, rfl, nT, rfl, ex, ey⟩ Q' k
          obtain ⟨hj1, rfl⟩ := int_at ex
          obtain ⟨hj2, rfl⟩ := int_at ey
          refine ⟨TA, _, rfl, .of upd_same, rfl, _, _, rfl, _, _, rfl, rfl, rfl, _, rfl, _, rfl, _, _, rfl, rfl, ?_⟩
          refine k _ G24 _ (.tmp e24.ok nT) ?_
          rw [List.length_map] at hj1 hj2
          rw [hacc, came_at hj1 hj2]
          simp only [List.getElem_map]
        · rintro acc G24 G25 H24 sg24 e24 eD hacc
          have lcm : (came m1 m2).length = m1.length := by
            rw [show (came m1 m2).length = min m1.length m2.length from List.length_zipWith]
            omega
          rw [List.take_of_length_le (by omega), hcame] at hacc
          have t25 := e21.g.trans (e22.g.trans e24.g)
          have o25 := e24.ok.ex
          refine ⟨show 1 ≤ sizeLine by decide, fun u6 n6 => ?_⟩
          refine ⟨_, rfl, sa, _, rfl, .inl ((same_new n6).seq (o25.seq (t25.seq hs13))), u6, _, [.int 0], rfl, rfl, upd_same, by omega, ?_, ?_, fun ld nld => ?_⟩
          · rw [List.length_map]
            omega
          · rw [List.length_map]
            exact Nat.le_trans (show 1 * ((s.length : Nat) : Int).toNat ≤ 100 by omega) (by decide)
          rw [Int.toNat_natCast, List.length_map, flat_zeros]
          have o26 := o25.trans (same_new (o := .lst [.int 0]) n6)
          have g26 := o26.free nld
          refine ⟨fun σ' H' => σ' = [some (.ref a), some (.int cells[i]), some (.ref ps), some (.ref sa), some cv, some (.int ((d + 1 : Nat) : Int)), some x, some y, some (.bl st.isIn), some (.ref p1), some (.ref p3), w11, some (.ref Dl), some (.ref ld), u14, u15] ∧ Same G25 H' ∧ H' ld = some (.lst ((due s.length (d + 1) st.isIn).map V.int)), ?_, ?_⟩
          · refine ⟨_, rfl, st.isIn, rfl, ?_⟩
            cases hin : st.isIn
            · exact iteF ⟨rfl, same_mut o26 g26, upd_same⟩
            · refine iteT ⟨1, rfl, show 2 ≤ sizeLine by decide, fun t7 n7 => ?_⟩
              have nt : ld ≠ t7 := fun z => by rw [z, upd_same] at n7; cases n7
              refine ⟨t7, _, rfl, .of upd_same, rfl, _, _, rfl, _, rfl, _, rfl, _, _, rfl, rfl, ld, (List.replicate s.length (0 : Int)).map V.int, ((d + 1 : Nat) : Int) - 1, d, rfl, rfl, ?_, ?_, ?_⟩
              · rw [upd_ne nt, upd_same]
              · rw [show ((d + 1 : Nat) : Int) - 1 = (d : Nat) by omega]
                exact Evl.ixN_nat (by simp only [List.length_map, List.length_replicate]; omega)
              refine ⟨_, _, rfl, _, rfl, _, rfl, ld, _, ((d + 1 : Nat) : Int), d + 1, rfl, rfl, upd_same, Evl.ixN_nat (by simp only [List.length_set, List.length_map, List.length_replicate]; omega), rfl, ?_⟩
              refine ⟨rfl, same_mut (same_mut ((same_mut o26 g26).trans (same_new n7)) g26) g26, ?_⟩
              rw [upd_same, set_ints, set_ints]
              rfl
          · rintro σ' H' ⟨rfl, o27, k27⟩
            refine ⟨_, rfl, _, rfl, .list ((due s.length (d + 1) st.isIn).map PyData.int), .list ((due s.length (d + 1) st.isIn).map PyData.int), dp_ints (.of (o27 _ _ (by rw [eD, hacc]))), dp_ints (.of k27), shaped_ints _, shaped_ints _, _, rfl, ?_⟩
            rw [eqv_of_shaped (shaped_ints _)]
            refine iteF ?_
            have t27 := t25
            refine ⟨_, rfl, p1, dxa1, _, rfl, o27 _ _ (t27 _ _ hi1), fl_no _ _ _ (by decide +kernel) (by decide +kernel) (by decide +kernel), G25, _, s, _, m1, o27, rfl, Rc.mono t27 gd1.1, mv1, fun v31 G31 H31 e31 ⟨b3, ev, hb3⟩ => ?_⟩
            subst ev
            refine ⟨b3, _, rfl, e31.ok.ex.seq hb3, ?_⟩
            have t31 := t27.trans e31.g
            refine ⟨_, rfl, p3, dxa3, _, rfl, e31.ok.ex _ _ (t31 _ _ hi3), fl_no _ _ _ (by decide +kernel) (by decide +kernel) (by decide +kernel), G31, _, s, _, m2, e31.ok.ex, rfl, Rc.mono t31 gd2.1, mv2, fun v32 G32 H32 e32 ⟨b4, ev, hb4⟩ => ?_⟩
            subst ev
            refine ⟨b4, _, rfl, e32.ok.ex.seq hb4, rfl, false, ?_, iteF ?_⟩
            · rw [hsum, decide_eq_true rfl]
              rfl
            · exact ⟨⟨_, _, _, _, _, _, _, _, _, _, _, _, _, _, _, rfl⟩, (t31.trans (e32.g.trans e32.ok.ex)).seq hp13⟩
    · rintro σ H2 ⟨⟨u1, u2, u3, u4, u5, u6, u7, u8, u9, u10, u11, u12, u13, u14, u15, rfl⟩, _⟩
      exact q _
end
end Lw
namespace Lw
open PySem L2 PySem.Spec PyProof.Rows
theorem law_keeps {P : Program} {w : World} {K : PySem.W.Frag} {mg : Str → Option Value} {base : Heap} {f0 : Addr} {fd : FuncData} (A : AllF K mg) (F : FunD K "law" "law" (defArgs (topS 52)) (defBody (topS 52)) (defScope (topS 52)) [] [] f0 fd) : FnOk P w K mg base CX0 9 f0 fd ["_law_script"] (spLaw K) := by
  have c_is_integer := ok_is_integer (P := P) (w := w) (base := base) A.gb A.d_is_integer
  have c_is_at_least := ok_is_at_least (P := P) (w := w) (base := base) A.gb A.d_is_at_least c_is_integer
  have c_is_between := ok_is_between (P := P) (w := w) (base := base) A.gb A.d_is_between c_is_integer
  have c_rounded_up := ok_rounded_up (P := P) (w := w) (base := base) A.d_rounded_up
  have c_require_schedule := ok_require_schedule (P := P) (w := w) (base := base) A.gb A.d_require_schedule c_is_at_least
  have c_require_rounds := ok_require_rounds (P := P) (w := w) (base := base) A.gb A.d_require_rounds c_require_schedule
  have c_is_group := ok_is_group (P := P) (w := w) (base := base) A.gb A.d_is_group c_is_at_least
  have c_require_counts := ok_require_counts (P := P) (w := w) (base := base) A.gb A.d_require_counts c_is_group
  have c_require_goal := ok_require_goal (P := P) (w := w) (base := base) A.gb A.d_require_goal
  have c_require_small_round := ok_require_small_round (P := P) (w := w) (base := base) A.gb A.d_require_small_round
  have c_require_split := ok_require_split (P := P) (w := w) (base := base) A.gb A.d_require_split c_require_rounds c_require_counts c_require_small_round c_is_group
  have c_products := ok_products (P := P) (w := w) (base := base) A.d_products
  have c_scaled_weight := ok_scaled_weight (P := P) (w := w) (base := base) A.gb A.d_scaled_weight c_products
  have c_rounded := ok_rounded (P := P) (w := w) (base := base) A.gb A.d_rounded c_rounded_up
  have c_guaranteed := ok_guaranteed (P := P) (w := w) (base := base) A.gb A.d_guaranteed c_require_schedule c_require_counts c_require_goal c_rounded c_scaled_weight c_products
  have c_climbed := ok_climbed (P := P) (w := w) (base := base) A.gb A.d_climbed
  have c_group_weights := ok_group_weights (P := P) (w := w) (base := base) A.gb A.d_group_weights c_scaled_weight
  have c_group_values := ok_group_values (P := P) (w := w) (base := base) A.gb A.d_group_values c_require_split c_products c_rounded_up c_group_weights
  have c_is_split := ok_is_split (P := P) (w := w) (base := base) A.gb A.d_is_split c_is_group
  have c_is_move := ok_is_move (P := P) (w := w) (base := base) A.gb A.d_is_move c_is_split c_is_between
  have c_require_moves := ok_require_moves (P := P) (w := w) (base := base) A.gb A.d_require_moves c_is_move c_climbed
  have c_losses_of := ok_losses_of (P := P) (w := w) (base := base) A.gb A.d_losses_of
  have mkR := ok_init (P := P) (w := w) (base := base) A.gb A.rc A.d_m_init c_require_schedule c_require_counts c_require_moves
  have m_steps := ok_steps (P := P) (w := w) (base := base) A.rc A.d_m_steps c_climbed
  have m_positions := ok_positions (P := P) (w := w) (base := base) A.rc A.d_m_positions m_steps
  have m_arrivals := ok_arrivals (P := P) (w := w) (base := base) A.rc A.d_m_arrivals m_steps
  have m_losses := ok_losses (P := P) (w := w) (base := base) A.gb A.rc A.d_m_losses c_require_goal m_positions c_group_values c_losses_of c_guaranteed
  have m_first_mistake := ok_first_mistake (P := P) (w := w) (base := base) A.gb A.rc A.d_m_first_mistake m_losses
  have c_l_mixed := ok_l_mixed (P := P) (w := w) (base := base) A.d_law_mixed
  have c_l_take := ok_l_take (P := P) (w := w) (base := base) A.d_law_take c_l_mixed
  have c_l_one := ok_l_one (P := P) (w := w) (base := base) A.gb A.d_law_one c_l_take
  have c_l_source := ok_l_source (P := P) (w := w) (base := base) A.d_law_source
  have c_l_steps := ok_l_steps (P := P) (w := w) (base := base) A.gb A.d_law_steps c_l_take
  have c_l_where := ok_l_where (P := P) (w := w) (base := base) A.gb A.d_law_where c_l_take c_l_one
  have c_l_shared := ok_l_shared (P := P) (w := w) (base := base) A.gb A.d_law_shared c_l_take
  have c_l_split := ok_l_split (P := P) (w := w) (base := base) A.gb A.d_law_split c_l_shared
  have c_l_climbed := ok_l_climbed (P := P) (w := w) (base := base) A.gb A.d_law_climbed
  have c_l_plus := ok_l_plus (P := P) (w := w) (base := base) A.d_law_plus
  have c_l_game := ok_l_game (P := P) (w := w) (base := base) A.d_law_game c_l_take c_l_split c_l_climbed
  have c_l_both := ok_l_both (P := P) (w := w) (base := base) A.gb A.d_law_both_games c_l_take c_l_game c_l_plus
  exact ok_law A.gb A.rc F c_l_take c_l_one c_l_source c_l_steps c_l_where c_l_plus c_l_both mkR m_losses m_first_mistake m_arrivals
end Lw
open PySem PySem.W PyProof.Rows PySem.Calls
theorem PySem.Challenge.cw_splitclimb_k46_whole_merged_climbers_holds : PySem.Challenge.rw_splitclimb_k46_whole_merged_climbers.Holds := by
  w_on
  o_law
  refine HandSHeadRun.head_any (r := Lw.Rw) (q := view Lw.Rw.prog [52]) (H := Lw.hk) (ob := Lw.ob) (M := 4000) (loose := Lw.lo) (d := HandSHeadRun.topDef Lw.Rw.prog 52) (kwd := []) Lw.ob_eq
    (by kernel_rfl) (fun s => by kernel_rfl) Lw.run (by kernel_rfl) (by kernel_rfl) (by kernel_rfl) (by rfl) (by first | assumption | decide +kernel) (by decide +kernel) ⟨rfl, rfl, rfl, rfl, rfl, by decide +kernel⟩ ?hw ?hc
  case hw => w_witness2
  case hc =>
    refine L2.walk_ofE (l := PySem.Challenge.rw_splitclimb_k46_whole_merged_climbers) (n := 63) (k := 9) (x := "_law_script") (CX := L2.CX0) rfl (by decide) (by kernel_rfl) ⟨rfl, by decide, by decide⟩ ?F (fun _ _ _ _ z => z)
    intro w mg fa h Y G hmg0
    obtain ⟨K, KX, c⟩ := Y
    have at_law : mg ("law" : PySem.Str) = some (.ref fa) := by
      have e : (HandSHeadRun.topDef Lw.Rw.prog 52).name = ("law" : PySem.Str) := by kernel_rfl
      rw [← e]
      exact hmg0
    have e := at_law.symm.trans (Lw.law_glo KX G c)
    cases e
    obtain ⟨fd, F⟩ := Lw.law_fun c
    have b := L2.FunD.bindsA (ps := ["_law_script"]) F fun _ _ _ _ _ _ us hl => match us, hl with | [_], _ => rfl
    exact ⟨K, fd, Lw.spLaw K, KX, fun s v => b s [v] rfl, fun H a ns hl _ hS => ⟨a, ns, rfl, hl, hS, fun _ => rfl⟩, fun base _ _ => Lw.law_keeps (Lw.facts KX G c) F⟩
