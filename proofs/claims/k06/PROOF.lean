import PyProof.Rows.All
import Wide.All
import OpenK.AllK
import Wide.FinOn
import HandS.ForMost
import HandS.Zip
import HandS.Walk
import HandS.Flow
import HandS.Style
import HandS.IsInst
import HandS.Property
import HandS.OwnEq
import HandS.TupAny
import HandS.TupMul
import HandS.Defaults
import HandS.Conv
import HandS.WideBits
import HandS.Exc
import KE.GoesEnum
import HandS.HeadHook2
import PySem.Challenge.RW_restkeepers_k06_whole_side_by_side_and_t
import HandS.Head0
import HandS.Head1
import HandS.Head2
import HandS.HeadEnd
import HandS.HeadHook1
import HandS.MakeKwOnly
import HandS.More
import PyProof.InstNe
/-! ==== MM ==== -/
set_option linter.all false
/-! what the defs reckon, as plain functions -/
namespace K06
abbrev Rw := List Int
abbrev Tb := List (List Int)
/-- the numbers from lo on, n of them -/
def ups (lo : Int) (n : Nat) : List Int := (List.range n).map fun i : Nat => lo + (i : Int)
/-- the places and the items -/
def enu {α : Type} (xs : List α) : List (Int × α) := (ups 0 xs.length).zip xs

/-! ### rests -/
def powM (p n : Int) : Nat → Int
  | 0 => 1
  | k + 1 => powM p n k * n % p
def undM (p r : Int) : Int := powM p r (p - 2).toNat
def sgnM (p r : Int) : Int := if r = 0 then 0 else if powM p r ((p - 1) / 2).toNat = 1 then 1 else -1
def oddsM (p : Int) : List Int := (ups 0 p.toNat).filter fun r => decide (sgnM p r = -1)
def oddM (p : Int) : Int := (oddsM p).getD 0 0
/-! ### rows, tables -/
def unitM (size place : Int) : Rw := (ups 0 size.toNat).map fun a => if a = place then 1 else 0
def idleM (size : Int) : Tb := (ups 0 size.toNat).map fun a => unitM size a
def dotM (p : Int) (xs ys : Rw) : Int := ((xs.zip ys).map fun z => z.1 * z.2).sum % p
def sumM (p : Int) (xs ys : Rw) (r : Int) : Rw := (xs.zip ys).map fun z => (z.1 + r * z.2) % p
def sclM (p : Int) (xs : Rw) (r : Int) : Rw := xs.map fun n => r * n % p
def mixM (p : Int) (rests : Rw) (rows : Tb) (size : Int) : Rw := (rests.zip rows).foldl (fun f z => sumM p f z.2 z.1) (List.replicate size.toNat 0)
def widM (t : Tb) : Int := if (t.length : Int) > 0 then ((t.getD 0 []).length : Int) else 0
def ledM (p : Int) (row : Rw) (t : Tb) : Rw := mixM p row t (widM t)
def turM (t : Tb) : Tb := (ups 0 t.length).map fun j => t.map fun row => row.getD j.toNat 0
/-! ### steps -/
def hdsM (row : Rw) : List Int := ((enu row).filter fun z => !decide (z.2 = 0)).map fun z => z.1
def hdM (row : Rw) : Int := (hdsM row).getD 0 0
def wthM (p : Int) (row head : Rw) (place : Int) : Rw := sumM p row head (0 - row.getD place.toNat 0)
def anyM (row : Rw) : Bool := row.any fun n => n != 0
def stepM (p : Int) (s : Tb × Tb) (place : Int) : Tb × Tb := match s.1.filter fun row => !decide (row.getD place.toNat 0 = 0) with
  | [] => s
  | h :: _ => ((s.1.map fun row => wthM p row (sclM p h (undM p (h.getD place.toNat 0))) place).filter anyM, (s.2.map fun row => wthM p row (sclM p h (undM p (h.getD place.toNat 0))) place) ++ [sclM p h (undM p (h.getD place.toNat 0))])
def stM (p : Int) (rows : Tb) : Tb := ((ups 0 (widM rows).toNat).foldl (stepM p) (rows, [])).2
def zrowM (p size : Int) (heads : List Int) (solved : Tb) (place : Int) : Rw := (heads.zip solved).foldl (fun row z => row.set z.1.toNat ((0 - z.2.getD place.toNat 0) % p)) (unitM size place)
def zlistM (p size : Int) (rows : Tb) : Tb := ((ups 0 size.toNat).filter fun a => !((stM p rows).map hdM).any fun y => y == a).map fun place => zrowM p size ((stM p rows).map hdM) (stM p rows) place
def zrM (p size : Int) (rows : Tb) : Tb := stM p (zlistM p size rows)
/-! ### rooms -/
def btsM (p : Int) (g rows : Tb) : Tb := (rows.map fun row => ledM p row g).map fun near => rows.map fun row => dotM p near row
def btwM (p : Int) (g : Tb) (one other : Rw) : Int := dotM p (ledM p one g) other
def fw1 (p : Int) (g left : Tb) : Option (Int × Rw) := (enu left).find? fun z => !decide (btwM p g z.2 z.2 = 0)
def fw2 (p : Int) (g left : Tb) : Option (Int × Rw) := (enu left).findSome? fun z => ((left.drop (z.1 + 1).toNat).find? fun o => !decide (btwM p g z.2 o = 0)).map fun o => (z.1, sumM p z.2 o 1)
def fwM (p : Int) (g left : Tb) : Option (Int × Rw) := match fw1 p g left with
  | some z => some z
  | none => fw2 p g left
def nextM (p : Int) (g left : Tb) (place : Int) (row : Rw) : Tb := (left.take place.toNat ++ left.drop (place + 1).toNat).map fun one => sumM p one row ((0 - btwM p g one row * undM p (btwM p g row row)) % p)
def sqL (p : Int) (g : Tb) : Nat → Tb → Tb → Rw → Tb × Rw
  | 0, left, found, nums => (found ++ left, nums ++ List.replicate left.length 0)
  | n + 1, left, found, nums => match fwM p g left with
    | none => (found ++ left, nums ++ List.replicate left.length 0)
    | some (place, row) => sqL p g n (nextM p g left place row) (found ++ [row]) (nums ++ [btwM p g row row])
def sqM (p : Int) (g : Tb) : Tb × Rw := sqL p g g.length (idleM g.length) [] []
def numsM (p : Int) (g : Tb) : Rw := (sqM p g).2.filter fun r => !decide (r = 0)
abbrev Kd := Int × Int × Int
def kindM (p : Int) (g : Tb) : Kd := ((g.length : Int), ((numsM p g).length : Int), (numsM p g).foldl (fun s n => s * sgnM p n) 1)
def tldM (p sign : Int) : Int := if sign = 1 then 1 else oddM p
def fullM (p size rank sign : Int) : Rw := (if rank > 0 then List.replicate (rank - 1).toNat 1 ++ [tldM p sign] else []) ++ List.replicate (size - rank).toNat 0
def plnM (p : Int) (k : Kd) : Tb := (ups 0 k.1.toNat).map fun a => (ups 0 k.1.toNat).map fun t => if a = t then (fullM p k.1 k.2.1 k.2.2).getD a.toNat 0 else 0
/-- a table beside another one -/
def bsdM (a b : Tb) : Tb := (a.map fun row => row ++ List.replicate b.length 0) ++ b.map fun row => List.replicate a.length 0 ++ row
def scdM (p : Int) (g : Tb) (r : Int) : Tb := g.map fun row => row.map fun n => r * n % p
def tofK (a b : Kd) : Kd := (a.1 - b.1, a.2.1 - b.2.1, a.2.2 * b.2.2)
def tofM (p : Int) (a b : Tb) : Option Tb := if (tofK (kindM p a) (kindM p b)).2.1 < 0 ∨ (tofK (kindM p a) (kindM p b)).1 < (tofK (kindM p a) (kindM p b)).2.1 ∨ ((tofK (kindM p a) (kindM p b)).2.1 = 0 ∧ ¬ (tofK (kindM p a) (kindM p b)).2.2 = 1) then none else some (plnM p (tofK (kindM p a) (kindM p b)))
/-! ### counts -/
def powdM (n : Int) : Nat → Int
  | 0 => 1
  | k + 1 => powdM n k * n
def tsgM (p s many : Int) : Int := if many % 2 = 0 then s else s * sgnM p (p - 1)
def cntM (p rank sign rest : Int) : Int := if rank < 1 then (if rank = 0 ∧ rest = 0 then 1 else 0) else
  if rank % 2 = 1 then powdM p (rank / 2).toNat * powdM p (rank / 2).toNat + sgnM p rest * tsgM p sign (rank / 2) * powdM p (rank / 2).toNat else
  powdM p (rank / 2).toNat * powdM p (rank / 2).toNat / p + tsgM p sign (rank / 2) * (if rest = 0 then powdM p (rank / 2).toNat - powdM p (rank / 2).toNat / p else 0 - powdM p (rank / 2).toNat / p)
def ctsK (p : Int) (k : Kd) : Rw := (ups 0 p.toNat).map fun rest => powdM p (k.1 - k.2.1).toNat * cntM p k.2.1 k.2.2 rest
def undcM (p size : Int) : Int := (ups 0 size.toNat).foldl (fun f a => f * (powdM p size.toNat - powdM p a.toNat)) 1
def uprM (p rank sign : Int) : Int := if rank = 0 then 1 else
  if rank % 2 = 0 then (ups 1 (rank / 2 - 1).toNat).foldl (fun f a => f * (powdM p (2 * a).toNat - 1)) (2 * powdM p (rank / 2 * (rank / 2 - 1)).toNat * (powdM p (rank / 2).toNat - sign * powdM (sgnM p (p - 1)) (rank / 2).toNat))
  else (ups 1 (rank / 2 + 1 - 1).toNat).foldl (fun f a => f * (powdM p (2 * a).toNat - 1)) (2 * powdM p (rank / 2 * (rank / 2)).toNat)
def kprK (p : Int) (k : Kd) : Int := uprM p k.2.1 k.2.2 * undcM p (k.1 - k.2.1) * powdM p ((k.1 - k.2.1) * k.2.1).toNat
def prsK (p : Int) (k : Kd) : Int := if k.2.1 % 2 = 1 then k.2.1 / 2 else if k.2.2 = (if k.2.1 / 2 % 2 = 0 then 1 else sgnM p (p - 1)) then k.2.1 / 2 else k.2.1 / 2 - 1
/-! ### the law's own -/
def foldM (p : Int) (near far : Rw) : Rw := (ups 0 p.toNat).map fun rest => ((ups 0 p.toNat).map fun one => near.getD one.toNat 0 * far.getD ((rest - one) % p).toNat 0).sum
def lbtM (p : Int) (g : Tb) (row other : Rw) : Int := ((row.zip g).foldl (fun t z => if z.1 = 0 then t else t + z.1 * ((z.2.zip other).map fun y => y.1 * y.2).sum) 0) % p
def lledM (p : Int) (t g : Tb) : Tb := t.map fun near => t.map fun far => lbtM p g near far
end K06
/-! ==== MR ==== -/
set_option linter.all false
set_option maxRecDepth 100000
set_option maxHeartbeats 4000000
namespace K06
/-! ### tables are right -/
/-- a row of n rests -/
def RowOk (p : Int) (n : Nat) (row : Rw) : Prop := row.length = n ∧ ∀ x ∈ row, 0 ≤ x ∧ x < p
def TabOk (p : Int) (n : Nat) (t : Tb) : Prop := ∀ row ∈ t, RowOk p n row
theorem RowOk.get {p : Int} {n : Nat} {row : Rw} (h : RowOk p n row) {i : Nat} (hi : i < n) : 0 ≤ row.getD i 0 ∧ row.getD i 0 < p := by
  rw [List.getD_eq_getElem?_getD, List.getElem?_eq_getElem (by rw [h.1]; exact hi)]
  exact h.2 _ (List.getElem_mem _)
theorem sum_ok {p : Int} {n : Nat} (hp : 0 < p) {xs ys : Rw} {r : Int} (h1 : xs.length = n) (h2 : ys.length = n) : RowOk p n (sumM p xs ys r) := by
  refine ⟨?_, fun x hx => ?_⟩
  · unfold sumM
    rw [List.length_map, List.length_zip, h1, h2, Nat.min_self]
  · obtain ⟨z, _, rfl⟩ := List.mem_map.mp hx
    exact ⟨Int.emod_nonneg _ (by omega), Int.emod_lt_of_pos _ hp⟩
theorem scl_ok {p : Int} {n : Nat} (hp : 0 < p) {xs : Rw} {r : Int} (h1 : xs.length = n) : RowOk p n (sclM p xs r) := by
  refine ⟨?_, fun x hx => ?_⟩
  · unfold sclM
    rw [List.length_map, h1]
  · obtain ⟨z, _, rfl⟩ := List.mem_map.mp hx
    exact ⟨Int.emod_nonneg _ (by omega), Int.emod_lt_of_pos _ hp⟩
theorem wth_ok {p : Int} {n : Nat} (hp : 0 < p) {xs ys : Rw} {r : Int} (h1 : xs.length = n) (h2 : ys.length = n) : RowOk p n (wthM p xs ys r) := sum_ok hp h1 h2
theorem step_nil {p : Int} {s : Tb × Tb} {a : Int} (e : s.1.filter (fun row => !decide (row.getD a.toNat 0 = 0)) = []) : stepM p s a = s := by
  unfold stepM
  rw [e]
theorem step_cons {p : Int} {s : Tb × Tb} {a : Int} {h : Rw} {t : Tb} (e : s.1.filter (fun row => !decide (row.getD a.toNat 0 = 0)) = h :: t) :
    stepM p s a = ((s.1.map fun row => wthM p row (sclM p h (undM p (h.getD a.toNat 0))) a).filter anyM, (s.2.map fun row => wthM p row (sclM p h (undM p (h.getD a.toNat 0))) a) ++ [sclM p h (undM p (h.getD a.toNat 0))]) := by
  unfold stepM
  rw [e]
theorem step_ok {p : Int} {n : Nat} (hp : 0 < p) {s : Tb × Tb} {a : Int} (h : TabOk p n s.1 ∧ TabOk p n s.2) : TabOk p n (stepM p s a).1 ∧ TabOk p n (stepM p s a).2 := by
  unfold stepM
  cases e : s.1.filter fun row => !decide (row.getD a.toNat 0 = 0) with
  | nil => exact h
  | cons x xs =>
    have hx : x ∈ s.1 := (List.mem_filter.mp (by rw [e]; exact List.mem_cons_self ..)).1
    have h3 := scl_ok hp (r := undM p (x.getD a.toNat 0)) (h.1 x hx).1
    refine ⟨fun row hr => ?_, fun row hr => ?_⟩
    · obtain ⟨z, hz, rfl⟩ := List.mem_map.mp (List.mem_filter.mp hr).1
      exact wth_ok hp (h.1 z hz).1 h3.1
    · rcases List.mem_append.mp hr with hr | hr
      · obtain ⟨z, hz, rfl⟩ := List.mem_map.mp hr
        exact wth_ok hp (h.2 z hz).1 h3.1
      · rw [List.mem_singleton.mp hr]
        exact h3
theorem steps_ok {p : Int} {n : Nat} (hp : 0 < p) : ∀ (as : List Int) (s : Tb × Tb), TabOk p n s.1 ∧ TabOk p n s.2 → TabOk p n (as.foldl (stepM p) s).1 ∧ TabOk p n (as.foldl (stepM p) s).2
  | [], _, h => h
  | a :: as, s, h => steps_ok hp as _ (step_ok hp h)
theorem stM_ok {p : Int} {n : Nat} (hp : 0 < p) {rows : Tb} (h : TabOk p n rows) : TabOk p n (stM p rows) := (steps_ok hp _ (rows, []) ⟨h, fun _ h => nomatch h⟩).2
end K06
namespace K06
theorem step_len (p : Int) (s : Tb × Tb) (a : Int) : (stepM p s a).2.length ≤ s.2.length + 1 := by
  unfold stepM
  cases s.1.filter fun row => !decide (row.getD a.toNat 0 = 0) with
  | nil => exact Nat.le_succ _
  | cons x xs =>
    show (List.map _ s.2 ++ [_]).length ≤ _
    rw [List.length_append, List.length_map, List.length_singleton]
    exact Nat.le_refl _
theorem steps_len (p : Int) : ∀ (as : List Int) (s : Tb × Tb), (as.foldl (stepM p) s).2.length ≤ s.2.length + as.length
  | [], s => Nat.le_refl _
  | a :: as, s => by
    have h1 := steps_len p as (stepM p s a)
    have h2 := step_len p s a
    rw [List.foldl_cons, List.length_cons]
    omega
end K06
namespace K06
/-! ### the primes of the law; steps have heads -/
def P357 (p : Int) : Prop := p = 3 ∨ p = 5 ∨ p = 7
theorem P357.b {p : Int} (h : P357 p) : 2 ≤ p ∧ p ≤ 1000 := by unfold P357 at h; omega
def undOk (p : Int) : Bool := (List.range p.toNat).all fun r => r == 0 || undM p r * (r : Int) % p == 1
theorem und_ok {p : Int} (h : P357 p) {x : Int} (hx : 0 < x ∧ x < p) : undM p x * x % p = 1 := by
  have key : undOk p = true := by
    rcases h with rfl | rfl | rfl <;> decide +kernel
  have h1 := List.all_eq_true.mp key x.toNat (List.mem_range.mpr (by omega))
  rcases Bool.or_eq_true _ _ |>.mp h1 with h1 | h1
  · have := beq_iff_eq.mp h1
    omega
  · have h2 := beq_iff_eq.mp h1
    have e : (x.toNat : Int) = x := by omega
    rw [e] at h2
    exact h2
theorem sum_get (p : Int) (xs ys : Rw) (r : Int) (i : Nat) (h1 : i < xs.length) (h2 : i < ys.length) : (sumM p xs ys r).getD i 0 = (xs.getD i 0 + r * ys.getD i 0) % p := by
  unfold sumM
  rw [List.getD_eq_getElem?_getD, List.getD_eq_getElem?_getD, List.getD_eq_getElem?_getD, List.getElem?_map, List.getElem?_eq_getElem h1, List.getElem?_eq_getElem h2]
  rw [List.getElem?_eq_getElem (by rw [List.length_zip]; omega), List.getElem_zip]
  rfl
theorem scl_get (p : Int) (xs : Rw) (r : Int) (i : Nat) (h1 : i < xs.length) : (sclM p xs r).getD i 0 = r * xs.getD i 0 % p := by
  unfold sclM
  rw [List.getD_eq_getElem?_getD, List.getD_eq_getElem?_getD, List.getElem?_map, List.getElem?_eq_getElem h1]
  rfl
end K06
namespace K06
/-! ### rows led are rests -/
theorem mixf_rng {p : Int} (hp : 0 < p) : ∀ (l : List (Int × Rw)) (f : Rw), (∀ x ∈ f, 0 ≤ x ∧ x < p) → ∀ x ∈ l.foldl (fun f z => sumM p f z.2 z.1) f, 0 ≤ x ∧ x < p
  | [], _, h => h
  | z :: l, f, h => mixf_rng hp l _ fun x hx => by
    obtain ⟨y, _, rfl⟩ := List.mem_map.mp hx
    exact ⟨Int.emod_nonneg _ (by omega), Int.emod_lt_of_pos _ hp⟩
theorem led_rng {p : Int} (hp : 0 < p) (row : Rw) (t : Tb) : ∀ x ∈ ledM p row t, 0 ≤ x ∧ x < p := mixf_rng hp _ _ fun x hx => by
  rw [(List.mem_replicate.mp hx).2]
  omega
theorem mixf_len {p : Int} {n : Nat} : ∀ (l : List (Int × Rw)) (f : Rw), f.length = n → (∀ z ∈ l, z.2.length = n) → (l.foldl (fun f z => sumM p f z.2 z.1) f).length = n
  | [], _, h, _ => h
  | z :: l, f, h, h2 => mixf_len l _ (by unfold sumM; rw [List.length_map, List.length_zip, h, h2 z (List.mem_cons_self ..), Nat.min_self]) fun y hy => h2 y (List.mem_cons_of_mem _ hy)
/-- a square table of rests, its size no more than six -/
def SqOk (p : Int) (t : Tb) : Prop := t.length ≤ 6 ∧ ∀ row ∈ t, row.length = t.length ∧ ∀ x ∈ row, 0 ≤ x ∧ x < p
theorem SqOk.tab {p : Int} {t : Tb} (h : SqOk p t) : TabOk p t.length t := fun row hr => h.2 row hr
theorem SqOk.wid {p : Int} {t : Tb} (h : SqOk p t) : widM t = t.length := by
  unfold widM
  cases t with
  | nil => rfl
  | cons x xs =>
    have := (h.2 x (List.mem_cons_self ..)).1
    show (if ((xs.length + 1 : Nat) : Int) > 0 then (x.length : Int) else 0) = _
    rw [if_pos (by omega), this]
theorem led_ok {p : Int} (hp : 0 < p) {t : Tb} (h : SqOk p t) (row : Rw) : RowOk p t.length (ledM p row t) := by
  refine ⟨?_, led_rng hp row t⟩
  unfold ledM mixM
  refine mixf_len _ _ (by rw [List.length_replicate, h.wid]; exact Int.toNat_natCast _) fun z hz => ?_
  exact (h.2 _ (List.of_mem_zip (show (z.1, z.2) ∈ row.zip t from hz)).2).1
theorem bts_ok {p : Int} (hp : 0 < p) (g rows : Tb) (h : rows.length ≤ 6) : SqOk p (btsM p g rows) := by
  unfold btsM
  refine ⟨by rw [List.length_map, List.length_map]; exact h, fun row hr => ?_⟩
  obtain ⟨near, _, rfl⟩ := List.mem_map.mp hr
  refine ⟨by rw [List.length_map, List.length_map, List.length_map], fun x hx => ?_⟩
  obtain ⟨r, _, rfl⟩ := List.mem_map.mp hx
  exact ⟨Int.emod_nonneg _ (by omega), Int.emod_lt_of_pos _ hp⟩
end K06
namespace K06
/-! ### first_worthy, squares_of -/
theorem find_go {α : Type} {f : α → Bool} {xs : List α} {i : Nat} {x : α} (h : (xs.take i).find? f = none) (hx : xs[i]? = some x) : (f x = true → xs.find? f = some x) ∧ (f x = false → (xs.take (i + 1)).find? f = none) := by
  constructor
  · intro hf
    have e : xs = xs.take i ++ xs.drop i := (List.take_append_drop i xs).symm
    have e2 : xs.drop i = x :: xs.drop (i + 1) := by
      have hi := (List.getElem?_eq_some_iff.mp hx).1
      rw [List.drop_eq_getElem_cons hi, (List.getElem?_eq_some_iff.mp hx).2]
    rw [e, List.find?_append, h, e2, List.find?_cons_of_pos hf]
    rfl
  · intro hf
    rw [List.take_succ, hx, List.find?_append, h]
    simp [hf]
theorem finds_go {α β : Type} {f : α → Option β} {xs : List α} {i : Nat} {x : α} (h : (xs.take i).findSome? f = none) (hx : xs[i]? = some x) : (∀ y, f x = some y → xs.findSome? f = some y) ∧ (f x = none → (xs.take (i + 1)).findSome? f = none) := by
  constructor
  · intro y hf
    have e : xs = xs.take i ++ xs.drop i := (List.take_append_drop i xs).symm
    have e2 : xs.drop i = x :: xs.drop (i + 1) := by
      have hi := (List.getElem?_eq_some_iff.mp hx).1
      rw [List.drop_eq_getElem_cons hi, (List.getElem?_eq_some_iff.mp hx).2]
    rw [e, List.findSome?_append, h, e2, List.findSome?_cons, hf]
    rfl
  · intro hf
    rw [List.take_succ, hx, List.findSome?_append, h]
    simp [hf]
theorem enu_at {α : Type} {xs : List α} {i : Nat} {z : Int × α} (h : (enu xs)[i]? = some z) : z.1 = i ∧ xs[i]? = some z.2 := by
  unfold enu at h
  rw [show z = (z.1, z.2) from rfl, List.getElem?_zip_eq_some] at h
  refine ⟨?_, h.2⟩
  have h1 := h.1
  unfold ups at h1
  rw [List.getElem?_map] at h1
  cases e : (List.range xs.length)[i]? with
  | none => rw [e] at h1; cases h1
  | some j =>
    rw [e] at h1
    have h2 : (0 : Int) + (j : Int) = z.1 := Option.some.inj h1
    have h3 := List.getElem?_eq_some_iff.mp e
    obtain ⟨h4, h5⟩ := h3
    rw [List.getElem_range] at h5
    omega
theorem enu_mem {α : Type} {xs : List α} {z : Int × α} (h : z ∈ enu xs) : (0 ≤ z.1 ∧ z.1 < xs.length) ∧ xs[z.1.toNat]? = some z.2 ∧ z.2 ∈ xs := by
  obtain ⟨i, hi⟩ := List.getElem?_of_mem h
  obtain ⟨h1, h2⟩ := enu_at hi
  have h3 := (List.getElem?_eq_some_iff.mp h2).1
  have e : z.1.toNat = i := by omega
  rw [e]
  exact ⟨by omega, h2, List.mem_of_getElem? h2⟩
/-- what first_worthy gives is a place of left and a row of rests -/
theorem fw_ok {p : Int} (hp : 0 < p) {n : Nat} {g left : Tb} (h : TabOk p n left) {z : Int × Rw} (e : fwM p g left = some z) : (0 ≤ z.1 ∧ z.1 < left.length) ∧ RowOk p n z.2 := by
  unfold fwM at e
  cases e1 : fw1 p g left with
  | some y =>
    rw [e1] at e
    cases Option.some.inj e
    have := enu_mem (List.mem_of_find?_eq_some e1)
    exact ⟨this.1, h _ this.2.2⟩
  | none =>
    rw [e1] at e
    obtain ⟨y, hy, e2⟩ := List.exists_of_findSome?_eq_some e
    have hy' := enu_mem hy
    cases e3 : (left.drop (y.1 + 1).toNat).find? fun o => !decide (btwM p g y.2 o = 0) with
    | none => rw [e3] at e2; cases e2
    | some o =>
      rw [e3] at e2
      cases Option.some.inj e2
      exact ⟨hy'.1, sum_ok hp (h _ hy'.2.2).1 (h _ (List.mem_of_mem_drop (List.mem_of_find?_eq_some e3))).1⟩
theorem next_ok {p : Int} (hp : 0 < p) {n : Nat} {g left : Tb} (h : TabOk p n left) {z : Int × Rw} (hz : (0 ≤ z.1 ∧ z.1 < left.length) ∧ RowOk p n z.2) : TabOk p n (nextM p g left z.1 z.2) ∧ (nextM p g left z.1 z.2).length + 1 = left.length := by
  unfold nextM
  constructor
  · intro row hr
    obtain ⟨one, ho, rfl⟩ := List.mem_map.mp hr
    refine sum_ok hp (h _ ?_).1 hz.2.1
    rcases List.mem_append.mp ho with ho | ho
    · exact List.mem_of_mem_take ho
    · exact List.mem_of_mem_drop ho
  · rw [List.length_map, List.length_append, List.length_take, List.length_drop]
    omega
theorem idle_ok {p : Int} (hp : 2 ≤ p) (n : Nat) : TabOk p n (idleM n) := fun row hr => by
  unfold idleM at hr
  obtain ⟨a, _, rfl⟩ := List.mem_map.mp hr
  refine ⟨by unfold unitM ups; rw [List.length_map, List.length_map, List.length_range, Int.toNat_natCast], fun x hx => ?_⟩
  unfold unitM at hx
  obtain ⟨z, _, rfl⟩ := List.mem_map.mp hx
  by_cases q : z = a
  · rw [if_pos q]; omega
  · rw [if_neg q]; omega
theorem idle_len (n : Nat) : (idleM n).length = n := by unfold idleM ups; rw [List.length_map, List.length_map, List.length_range, Int.toNat_natCast]
end K06
/-! ==== ML ==== -/
set_option linter.all false
set_option maxRecDepth 100000
set_option maxHeartbeats 4000000
namespace K06
/-! ### every step has a head -/
/-- left is naught at the places before i; every found row is not naught somewhere before i -/
def Lead (p : Int) (n : Nat) (i : Nat) (s : Tb × Tb) : Prop := (TabOk p n s.1 ∧ TabOk p n s.2) ∧ (∀ row ∈ s.1, ∀ c < i, row.getD c 0 = 0) ∧ ∀ row ∈ s.2, ∃ c < i, row.getD c 0 ≠ 0
theorem lead_step {p : Int} (hp : P357 p) {n i : Nat} (hi : i < n) {s : Tb × Tb} (h : Lead p n i s) : Lead p n (i + 1) (stepM p s (i : Int)) := by
  obtain ⟨hok, h1, h2⟩ := h
  have hpb := hp.b
  refine ⟨step_ok (p := p) (by omega) (a := (i : Int)) hok, ?_⟩
  cases e : s.1.filter fun row => !decide (row.getD i 0 = 0) with
  | nil =>
    rw [step_nil (a := (i : Int)) e]
    refine ⟨fun row hr c hc => ?_, fun row hr => ?_⟩
    · rcases Nat.lt_succ_iff_lt_or_eq.mp hc with hc | rfl
      · exact h1 row hr c hc
      · have := List.filter_eq_nil_iff.mp e row hr
        simpa using this
    · obtain ⟨c, hc, hn⟩ := h2 row hr
      exact ⟨c, by omega, hn⟩
  | cons hd tl =>
    rw [step_cons (a := (i : Int)) e, Int.toNat_natCast]
    have hm := List.mem_filter.mp (show hd ∈ s.1.filter fun row => !decide (row.getD i 0 = 0) by rw [e]; exact List.mem_cons_self ..)
    have hrow := hok.1 hd hm.1
    have hnz : hd.getD i 0 ≠ 0 := by simpa using hm.2
    have hb := hrow.get hi
    have hinv := und_ok hp (x := hd.getD i 0) (by omega)
    have hH := scl_ok (p := p) (by omega) (r := undM p (hd.getD i 0)) hrow.1
    have g1 : (sclM p hd (undM p (hd.getD i 0))).getD i 0 = 1 := by rw [scl_get p hd _ i (by rw [hrow.1]; exact hi)]; exact hinv
    have g0 : ∀ c < i, (sclM p hd (undM p (hd.getD i 0))).getD c 0 = 0 := fun c hc => by
      rw [scl_get p hd _ c (by rw [hrow.1]; omega), h1 hd hm.1 c hc]
      simp
    generalize sclM p hd (undM p (hd.getD i 0)) = H at hH g1 g0
    have w : ∀ row, RowOk p n row → ∀ c < n, (wthM p row H (i : Int)).getD c 0 = (row.getD c 0 + (0 - row.getD i 0) * H.getD c 0) % p := fun row hr c hc => by
      unfold wthM
      rw [Int.toNat_natCast]
      exact sum_get p row H _ c (by rw [hr.1]; exact hc) (by rw [hH.1]; exact hc)
    refine ⟨fun row hr c hc => ?_, fun row hr => ?_⟩
    · obtain ⟨z, hz, rfl⟩ := List.mem_map.mp (List.mem_filter.mp hr).1
      rw [w z (hok.1 z hz) c (by omega)]
      rcases Nat.lt_succ_iff_lt_or_eq.mp hc with hc | rfl
      · rw [g0 c hc, h1 z hz c hc]
        simp
      · rw [g1]
        have : z.getD c 0 + (0 - z.getD c 0) * 1 = 0 := by omega
        rw [this]
        simp
    · rcases List.mem_append.mp hr with hr | hr
      · obtain ⟨z, hz, rfl⟩ := List.mem_map.mp hr
        obtain ⟨c, hc, hn⟩ := h2 z hz
        refine ⟨c, by omega, ?_⟩
        rw [w z (hok.2 z hz) c (by omega), g0 c hc, Int.mul_zero, Int.add_zero]
        have := (hok.2 z hz).get (i := c) (by omega)
        rw [Int.emod_eq_of_lt this.1 this.2]
        exact hn
      · rw [List.mem_singleton.mp hr]
        exact ⟨i, by omega, by rw [g1]; decide⟩
theorem ups_succ (lo : Int) (n : Nat) : ups lo (n + 1) = ups lo n ++ [lo + (n : Int)] := by
  unfold ups
  rw [List.range_succ, List.map_append]
  rfl
theorem lead_all {p : Int} (hp : P357 p) {n : Nat} {rows : Tb} (h : TabOk p n rows) : ∀ i ≤ n, Lead p n i ((ups 0 i).foldl (stepM p) (rows, []))
  | 0, _ => ⟨⟨h, fun _ q => nomatch q⟩, fun _ _ c hc => absurd hc (Nat.not_lt_zero c), fun _ q => nomatch q⟩
  | i + 1, hi => by
    rw [ups_succ, List.foldl_append]
    have := lead_step hp (i := i) (by omega) (lead_all hp h i (by omega))
    show Lead p n (i + 1) (stepM p _ (0 + (i : Int)))
    rw [Int.zero_add]
    exact this
theorem wid_le {p : Int} {n : Nat} {rows : Tb} (h : TabOk p n rows) : (widM rows).toNat ≤ n := by
  unfold widM
  cases rows with
  | nil => exact Nat.zero_le _
  | cons x xs =>
    have := (h x (List.mem_cons_self ..)).1
    show (if ((xs.length + 1 : Nat) : Int) > 0 then (x.length : Int) else 0).toNat ≤ n
    rw [if_pos (by omega)]
    omega
theorem ups_get' {lo : Int} {n i : Nat} (h : i < n) : (ups lo n)[i]? = some (lo + (i : Int)) := by
  unfold ups
  rw [List.getElem?_map, List.getElem?_range h]
  rfl
theorem ups_len' (lo : Int) (n : Nat) : (ups lo n).length = n := by unfold ups; rw [List.length_map, List.length_range]
theorem hds_pos {row : Rw} {c : Nat} (h : row.getD c 0 ≠ 0) : 0 < (hdsM row).length := by
  have hc : c < row.length := by
    rcases Nat.lt_or_ge c row.length with q | q
    · exact q
    · exact absurd (by rw [List.getD_eq_getElem?_getD, List.getElem?_eq_none q]; rfl) h
  unfold hdsM
  rw [List.length_map]
  refine List.length_pos_of_mem (a := ((c : Int), row.getD c 0)) (List.mem_filter.mpr ⟨?_, by simpa using h⟩)
  unfold enu
  refine List.mem_of_getElem? (i := c) ?_
  rw [List.getElem?_zip_eq_some]
  refine ⟨by rw [ups_get' hc]; simp, ?_⟩
  rw [List.getD_eq_getElem?_getD, List.getElem?_eq_getElem hc]
  rfl
theorem hd_mem {row : Rw} (h : 0 < (hdsM row).length) : 0 ≤ hdM row ∧ hdM row < row.length := by
  have hm : hdM row ∈ hdsM row := by
    unfold hdM
    rw [List.getD_eq_getElem?_getD, List.getElem?_eq_getElem h]
    exact List.getElem_mem _
  generalize hdM row = x at hm ⊢
  unfold hdsM at hm
  obtain ⟨z, hz, rfl⟩ := List.mem_map.mp hm
  have h1 := (List.of_mem_zip (show (z.1, z.2) ∈ (ups 0 row.length).zip row from (List.mem_filter.mp hz).1)).1
  unfold ups at h1
  obtain ⟨i, hi, e⟩ := List.mem_map.mp h1
  have := List.mem_range.mp hi
  omega
theorem steps_hd {p : Int} (hp : P357 p) {n : Nat} {rows : Tb} (h : TabOk p n rows) : ∀ row ∈ stM p rows, 0 < (hdsM row).length := fun row hr => by
  obtain ⟨c, _, hn⟩ := (lead_all hp h _ (wid_le h)).2.2 row hr
  exact hds_pos hn
theorem unit_ok {p : Int} (hp : 2 ≤ p) (n : Nat) (a : Int) : RowOk p n (unitM n a) := by
  refine ⟨by unfold unitM; rw [List.length_map, ups_len', Int.toNat_natCast], fun x hx => ?_⟩
  unfold unitM at hx
  obtain ⟨z, _, rfl⟩ := List.mem_map.mp hx
  by_cases q : z = a
  · rw [if_pos q]; omega
  · rw [if_neg q]; omega
theorem set_ok {p : Int} {n : Nat} {row : Rw} (h : RowOk p n row) (i : Nat) {x : Int} (hx : 0 ≤ x ∧ x < p) : RowOk p n (row.set i x) := by
  refine ⟨by rw [List.length_set]; exact h.1, fun y hy => ?_⟩
  rcases List.mem_or_eq_of_mem_set hy with hy | rfl
  · exact h.2 y hy
  · exact hx
theorem zfold_ok {p : Int} (hp : 2 ≤ p) {n : Nat} (place : Int) : ∀ (l : List (Int × Rw)) (row : Rw), RowOk p n row → RowOk p n (l.foldl (fun row z => row.set z.1.toNat ((0 - z.2.getD place.toNat 0) % p)) row)
  | [], _, h => h
  | z :: l, row, h => zfold_ok hp place l _ (set_ok h _ ⟨Int.emod_nonneg _ (by omega), Int.emod_lt_of_pos _ (by omega)⟩)
theorem zrow_ok {p : Int} (hp : 2 ≤ p) (n : Nat) (hs : List Int) (solved : Tb) (place : Int) : RowOk p n (zrowM p n hs solved place) := zfold_ok hp place _ _ (unit_ok hp n place)
theorem zlist_ok {p : Int} (hp : 2 ≤ p) (n : Nat) (rows : Tb) : TabOk p n (zlistM p n rows) := fun row hr => by
  obtain ⟨a, _, rfl⟩ := List.mem_map.mp hr
  exact zrow_ok hp n _ _ _
end K06
/-! ==== MK ==== -/
set_option linter.all false
set_option maxRecDepth 100000
set_option maxHeartbeats 4000000
namespace K06
/-! ### kinds are small -/
def Sg (s : Int) : Prop := s = 1 ∨ s = -1
theorem Sg.mul {a b : Int} (h1 : Sg a) (h2 : Sg b) : Sg (a * b) := by
  unfold Sg
  rcases h1 with rfl | rfl <;> rcases h2 with rfl | rfl <;> decide
theorem sgn_sg {p r : Int} (h : r ≠ 0) : Sg (sgnM p r) := by
  unfold sgnM
  rw [if_neg h]
  by_cases q : powM p r ((p - 1) / 2).toNat = 1
  · rw [if_pos q]; exact .inl rfl
  · rw [if_neg q]; exact .inr rfl
theorem sgn_b (p r : Int) : -1 ≤ sgnM p r ∧ sgnM p r ≤ 1 := by
  unfold sgnM
  by_cases h : r = 0
  · rw [if_pos h]; decide
  · rw [if_neg h]
    by_cases q : powM p r ((p - 1) / 2).toNat = 1
    · rw [if_pos q]; decide
    · rw [if_neg q]; decide
theorem sgs_sg {p : Int} : ∀ (l : List Int) (s : Int), Sg s → (∀ n ∈ l, n ≠ 0) → Sg (l.foldl (fun s n => s * sgnM p n) s)
  | [], _, h, _ => h
  | n :: l, s, h, hl => sgs_sg l _ (h.mul (sgn_sg (hl n (List.mem_cons_self ..)))) fun m hm => hl m (List.mem_cons_of_mem _ hm)
theorem sqL_len (p : Int) (hp : 0 < p) (g : Tb) (n : Nat) : ∀ (f : Nat) (left found : Tb) (nums : Rw), TabOk p n left → nums.length = found.length → (sqL p g f left found nums).2.length = found.length + left.length ∧ (sqL p g f left found nums).1.length = found.length + left.length
  | 0, left, found, nums, _, h => by
    show (nums ++ List.replicate left.length 0).length = _ ∧ (found ++ left).length = _
    rw [List.length_append, List.length_append, List.length_replicate, h]
    exact ⟨rfl, rfl⟩
  | f + 1, left, found, nums, hT, h => by
    unfold sqL
    cases e : fwM p g left with
    | none =>
      show (nums ++ List.replicate left.length 0).length = _ ∧ (found ++ left).length = _
      rw [List.length_append, List.length_append, List.length_replicate, h]
      exact ⟨rfl, rfl⟩
    | some z =>
      obtain ⟨place, row⟩ := z
      have hz := fw_ok hp hT e
      obtain ⟨h1, h2⟩ : TabOk p n (nextM p g left place row) ∧ (nextM p g left place row).length + 1 = left.length := next_ok hp (g := g) (z := (place, row)) hT hz
      have ih := sqL_len p hp g n f (nextM p g left place row) (found ++ [row]) (nums ++ [btwM p g row row]) h1 (by rw [List.length_append, List.length_append, h]; rfl)
      show (sqL p g f (nextM p g left place row) (found ++ [row]) (nums ++ [btwM p g row row])).2.length = _ ∧ (sqL p g f (nextM p g left place row) (found ++ [row]) (nums ++ [btwM p g row row])).1.length = _
      rw [ih.1, ih.2, List.length_append, List.length_singleton]
      omega
theorem sqM_len {p : Int} (hp : 2 ≤ p) (g : Tb) : (sqM p g).2.length = g.length := by
  have := (sqL_len p (by omega) g g.length g.length (idleM g.length) [] [] (idle_ok hp _) rfl).1
  rw [idle_len] at this
  unfold sqM
  rw [this]
  show 0 + g.length = _
  omega
/-- a kind of rooms of size six at the most -/
def KOk (k : Kd) : Prop := (0 ≤ k.2.1 ∧ k.2.1 ≤ k.1 ∧ k.1 ≤ 6) ∧ Sg k.2.2
theorem kind_ok {p : Int} (hp : 2 ≤ p) {g : Tb} (h : g.length ≤ 6) : KOk (kindM p g) := by
  have h1 := sqM_len hp g
  have h2 := List.length_filter_le (fun r : Int => !decide (r = 0)) (sqM p g).2
  refine ⟨⟨?_, ?_, ?_⟩, sgs_sg _ _ (.inl rfl) fun n hn => ?_⟩
  · show (0 : Int) ≤ ((numsM p g).length : Int)
    omega
  · show ((numsM p g).length : Int) ≤ (g.length : Int)
    unfold numsM
    omega
  · show (g.length : Int) ≤ 6
    omega
  · have := (List.mem_filter.mp hn).2
    simpa using this
/-! ### finite looks -/
def domK : List (Int × Kd) := [3, 5, 7].flatMap fun p => (ups 0 7).flatMap fun size => (ups 0 7).flatMap fun rank => [1, -1].map fun sign => (p, size, rank, sign)
theorem ups_of {n : Nat} {x : Int} (h : 0 ≤ x ∧ x < n) : x ∈ ups 0 n := by
  unfold ups
  exact List.mem_map.mpr ⟨x.toNat, List.mem_range.mpr (by omega), by show (0 : Int) + (x.toNat : Int) = x; omega⟩
theorem dom_mem {p : Int} (hp : P357 p) {k : Kd} (h : (0 ≤ k.2.1 ∧ k.2.1 ≤ 6) ∧ (0 ≤ k.1 ∧ k.1 ≤ 6) ∧ Sg k.2.2) : (p, k) ∈ domK := by
  obtain ⟨size, rank, sign⟩ := k
  obtain ⟨h1, h2, h3⟩ := h
  unfold domK
  refine List.mem_flatMap.mpr ⟨p, ?_, List.mem_flatMap.mpr ⟨size, ups_of ⟨h2.1, by have : size ≤ 6 := h2.2; show size < 7; omega⟩, List.mem_flatMap.mpr ⟨rank, ups_of ⟨h1.1, by have : rank ≤ 6 := h1.2; show rank < 7; omega⟩, List.mem_map.mpr ⟨sign, ?_, rfl⟩⟩⟩⟩
  · rcases hp with rfl | rfl | rfl <;> decide
  · rcases (show Sg sign from h3) with rfl | rfl <;> decide
theorem KOk.dom {p : Int} (hp : P357 p) {k : Kd} (h : KOk k) : (p, k) ∈ domK := dom_mem hp ⟨⟨h.1.1, by have := h.1; omega⟩, ⟨by have := h.1; omega, h.1.2.2⟩, h.2⟩
/-- numbers that one may multiply, together less than a million bits -/
def Bg (x : Int) : Prop := x.natAbs < 2 ^ 400
instance (x : Int) : Decidable (Bg x) := inferInstanceAs (Decidable (_ < _))
def undcF (p size : Int) (i : Nat) : Int := ((ups 0 size.toNat).take i).foldl (fun f a => f * (powdM p size.toNat - powdM p a.toNat)) 1
def undcB (z : Int × Kd) : Bool := (List.range 8).all fun i => decide (Bg (undcF z.1 z.2.1 i)) && (ups 0 7).all fun a => decide (Bg (powdM z.1 z.2.1.toNat - powdM z.1 a.toNat))
theorem undc_all : domK.all undcB = true := by decide +kernel
def uprS (p rank sign : Int) : Int := if rank % 2 = 0 then 2 * powdM p (rank / 2 * (rank / 2 - 1)).toNat * (powdM p (rank / 2).toNat - sign * powdM (sgnM p (p - 1)) (rank / 2).toNat) else 2 * powdM p (rank / 2 * (rank / 2)).toNat
def uprM2 (rank : Int) : Int := if rank % 2 = 0 then rank / 2 else rank / 2 + 1
def uprF (p rank sign : Int) (i : Nat) : Int := ((ups 1 (uprM2 rank - 1).toNat).take i).foldl (fun f a => f * (powdM p (2 * a).toNat - 1)) (uprS p rank sign)
def uprB (z : Int × Kd) : Bool := ((List.range 8).all fun i => decide (Bg (uprF z.1 z.2.2.1 z.2.2.2 i))) && (((ups 0 7).all fun a => decide (Bg (powdM z.1 (2 * a).toNat - 1))) && (decide (Bg (powdM z.1 (z.2.2.1 / 2).toNat - z.2.2.2 * powdM (sgnM z.1 (z.1 - 1)) (z.2.2.1 / 2).toNat)) && decide (Bg (2 * powdM z.1 (z.2.2.1 / 2 * (z.2.2.1 / 2 - 1)).toNat))))
theorem upr_all : domK.all uprB = true := by decide +kernel
def kprB (z : Int × Kd) : Bool := decide (z.2.1 < z.2.2.1) || (decide (Bg (uprM z.1 z.2.2.1 z.2.2.2)) && (decide (Bg (undcM z.1 (z.2.1 - z.2.2.1))) && (decide (Bg (uprM z.1 z.2.2.1 z.2.2.2 * undcM z.1 (z.2.1 - z.2.2.1))) && decide (Bg (powdM z.1 ((z.2.1 - z.2.2.1) * z.2.2.1).toNat)))))
theorem kpr_all : domK.all kprB = true := by decide +kernel
theorem powd_b {n : Int} (hn : -7 ≤ n ∧ n ≤ 7) : ∀ k : Nat, (powdM n k).natAbs ≤ 7 ^ k
  | 0 => Nat.le_refl _
  | k + 1 => by
    show (powdM n k * n).natAbs ≤ _
    rw [Int.natAbs_mul, Nat.pow_succ]
    exact Nat.mul_le_mul (powd_b hn k) (by omega)
theorem powd_12 {n : Int} (hn : -7 ≤ n ∧ n ≤ 7) {k : Nat} (hk : k ≤ 12) : (powdM n k).natAbs ≤ 13841287201 :=
  Nat.le_trans (powd_b hn k) (Nat.le_trans (Nat.pow_le_pow_right (by decide) hk) (by decide))
def oddB : Bool := [3, 5, 7].all fun p => decide (0 < (oddsM p).length)
theorem odd_pos {p : Int} (hp : P357 p) : 0 < (oddsM p).length := by
  have h : oddB = true := by decide +kernel
  have := List.all_eq_true.mp h p (by rcases hp with rfl | rfl | rfl <;> decide)
  exact of_decide_eq_true this
theorem full_len {p size rank sign : Int} (h : 0 ≤ rank ∧ rank ≤ size) : (fullM p size rank sign).length = size.toNat := by
  unfold fullM
  rw [List.length_append, List.length_replicate]
  by_cases q : rank > 0
  · rw [if_pos q, List.length_append, List.length_replicate, List.length_singleton]
    omega
  · rw [if_neg q, List.length_nil]
    omega
end K06
namespace K06
theorem sgn3 (p r : Int) : sgnM p r = 0 ∨ Sg (sgnM p r) := by
  by_cases h : r = 0
  · left
    unfold sgnM
    rw [if_pos h]
  · exact .inr (sgn_sg h)
theorem tsg3 {p s : Int} (h : Sg s) (m : Int) : tsgM p s m = 0 ∨ Sg (tsgM p s m) := by
  unfold tsgM
  by_cases q : m % 2 = 0
  · rw [if_pos q]
    exact .inr h
  · rw [if_neg q]
    rcases sgn3 p (p - 1) with e | e
    · rw [e, Int.mul_zero]
      exact .inl rfl
    · exact .inr (h.mul e)
theorem mul3 {a b : Int} (h1 : a = 0 ∨ Sg a) (h2 : b = 0 ∨ Sg b) : -1 ≤ a * b ∧ a * b ≤ 1 := by
  unfold Sg at h1 h2
  rcases h1 with rfl | rfl | rfl <;> rcases h2 with rfl | rfl | rfl <;> decide
theorem mul6 {a b : Int} (h1 : 0 ≤ a) (h2 : 0 ≤ b) (h : a + b ≤ 7) : 0 ≤ a * b ∧ a * b ≤ 12 := by
  have : a = 0 ∨ a = 1 ∨ a = 2 ∨ a = 3 ∨ a = 4 ∨ a = 5 ∨ a = 6 ∨ a = 7 := by omega
  rcases this with rfl | rfl | rfl | rfl | rfl | rfl | rfl | rfl <;> omega
theorem undc_bg {p : Int} (hp : P357 p) {size : Int} (h : 0 ≤ size ∧ size ≤ 6) : (∀ i < 8, Bg (undcF p size i)) ∧ ∀ a : Int, 0 ≤ a ∧ a < 7 → Bg (powdM p size.toNat - powdM p a.toNat) := by
  have h1 := List.all_eq_true.mp undc_all (p, (size, 0, 1)) (dom_mem hp ⟨⟨by show (0 : Int) ≤ 0; decide, by show (0 : Int) ≤ 6; decide⟩, h, .inl rfl⟩)
  have h2 := List.all_eq_true.mp h1
  refine ⟨fun i hi => of_decide_eq_true (Bool.and_eq_true_iff.mp (h2 i (List.mem_range.mpr hi))).1, fun a ha => ?_⟩
  have h3 := (Bool.and_eq_true_iff.mp (h2 0 (List.mem_range.mpr (by decide)))).2
  exact of_decide_eq_true (List.all_eq_true.mp h3 a (ups_of ha))
theorem upr_bg {p : Int} (hp : P357 p) {rank sign : Int} (h : 0 ≤ rank ∧ rank ≤ 6) (hs : Sg sign) : (∀ i < 8, Bg (uprF p rank sign i)) ∧ (∀ a : Int, 0 ≤ a ∧ a < 7 → Bg (powdM p (2 * a).toNat - 1)) ∧ Bg (powdM p (rank / 2).toNat - sign * powdM (sgnM p (p - 1)) (rank / 2).toNat) ∧ Bg (2 * powdM p (rank / 2 * (rank / 2 - 1)).toNat) := by
  have h1 := List.all_eq_true.mp upr_all (p, (0, rank, sign)) (dom_mem hp ⟨h, ⟨by show (0 : Int) ≤ 0; decide, by show (0 : Int) ≤ 6; decide⟩, hs⟩)
  obtain ⟨h2, h1⟩ := Bool.and_eq_true_iff.mp h1
  obtain ⟨h3, h1⟩ := Bool.and_eq_true_iff.mp h1
  obtain ⟨h4, h5⟩ := Bool.and_eq_true_iff.mp h1
  exact ⟨fun i hi => of_decide_eq_true (List.all_eq_true.mp h2 i (List.mem_range.mpr hi)), fun a ha => of_decide_eq_true (List.all_eq_true.mp h3 a (ups_of ha)), of_decide_eq_true h4, of_decide_eq_true h5⟩
theorem kpr_bg {p : Int} (hp : P357 p) {k : Kd} (h : KOk k) : Bg (uprM p k.2.1 k.2.2) ∧ Bg (undcM p (k.1 - k.2.1)) ∧ Bg (uprM p k.2.1 k.2.2 * undcM p (k.1 - k.2.1)) ∧ Bg (powdM p ((k.1 - k.2.1) * k.2.1).toNat) := by
  have h1 := List.all_eq_true.mp kpr_all (p, k) (h.dom hp)
  have hk := h.1
  rcases Bool.or_eq_true_iff.mp h1 with h1 | h1
  · have : k.1 < k.2.1 := of_decide_eq_true h1
    omega
  · obtain ⟨h2, h1⟩ := Bool.and_eq_true_iff.mp h1
    obtain ⟨h3, h1⟩ := Bool.and_eq_true_iff.mp h1
    obtain ⟨h4, h5⟩ := Bool.and_eq_true_iff.mp h1
    exact ⟨of_decide_eq_true h2, of_decide_eq_true h3, of_decide_eq_true h4, of_decide_eq_true h5⟩
theorem upr_eq {p rank sign : Int} (h : ¬ rank = 0) : uprM p rank sign = (ups 1 (uprM2 rank - 1).toNat).foldl (fun f a => f * (powdM p (2 * a).toNat - 1)) (uprS p rank sign) := by
  unfold uprM uprM2 uprS
  rw [if_neg h]
  by_cases q : rank % 2 = 0
  · rw [if_pos q, if_pos q, if_pos q]
  · rw [if_neg q, if_neg q, if_neg q]
end K06
namespace K06
/-! ### the law's own undone -/
def lundL (p r : Int) : List Int := (ups 0 p.toNat).filter fun one => decide (one * r % p = 1)
def lundB : Bool := [3, 5, 7].all fun p => (ups 0 p.toNat).all fun r => decide (r = 0) || decide (0 < (lundL p r).length)
theorem lund_pos {p : Int} (hp : P357 p) {r : Int} (hr : 0 < r ∧ r < p) : 0 < (lundL p r).length := by
  have h : lundB = true := by decide +kernel
  have h1 := List.all_eq_true.mp h p (by rcases hp with rfl | rfl | rfl <;> decide)
  have h2 := List.all_eq_true.mp h1 r (ups_of (by omega))
  rcases Bool.or_eq_true_iff.mp h2 with h3 | h3
  · have := of_decide_eq_true h3
    omega
  · exact of_decide_eq_true h3
theorem lund_b {p : Int} (hp : P357 p) {r : Int} (hr : 0 < r ∧ r < p) : 0 ≤ (lundL p r).getD 0 0 ∧ (lundL p r).getD 0 0 < p := by
  have h := lund_pos hp hr
  have hm : (lundL p r).getD 0 0 ∈ lundL p r := by
    rw [List.getD_eq_getElem?_getD, List.getElem?_eq_getElem h]
    exact List.getElem_mem _
  have h1 := (List.mem_filter.mp hm).1
  unfold ups at h1
  obtain ⟨i, hi, e⟩ := List.mem_map.mp h1
  have := List.mem_range.mp hi
  have := hp.b
  omega
end K06
namespace K06
/-! ### the letters: rows of a table added, scaled -/
inductive LetM (p : Int) (n : Nat) : Tb → Prop where
  | id : LetM p n (idleM n)
  | add {t : Tb} (i j : Nat) (r : Int) (h : LetM p n t) (hi : i < n) (hj : j < n) (hij : i ≠ j) (hr : 0 < r ∧ r < p) : LetM p n (t.set i (sumM p (t.getD i []) (t.getD j []) r))
  | scl {t : Tb} (i : Nat) (r : Int) (h : LetM p n t) (hi : i < n) (hr : 0 < r ∧ r < p) : LetM p n (t.set i (sclM p (t.getD i []) r))
theorem tab_get {p : Int} {n : Nat} {t : Tb} (h : TabOk p n t) {i : Nat} (hi : i < t.length) : RowOk p n (t.getD i []) := by
  rw [List.getD_eq_getElem?_getD, List.getElem?_eq_getElem hi]
  exact h _ (List.getElem_mem _)
theorem tab_set {p : Int} {n : Nat} {t : Tb} (h : TabOk p n t) {i : Nat} {row : Rw} (hr : RowOk p n row) : TabOk p n (t.set i row) := fun x hx => by
  rcases List.mem_or_eq_of_mem_set hx with hx | rfl
  · exact h x hx
  · exact hr
theorem LetM.ok {p : Int} (hp : 2 ≤ p) {n : Nat} {t : Tb} (h : LetM p n t) : TabOk p n t ∧ t.length = n := by
  induction h with
  | id => exact ⟨idle_ok hp n, idle_len n⟩
  | add i j r h hi hj hij hr ih =>
    obtain ⟨h1, h2⟩ := ih
    exact ⟨tab_set h1 (sum_ok (by omega) (tab_get h1 (by omega)).1 (tab_get h1 (by omega)).1), by rw [List.length_set]; exact h2⟩
  | scl i r h hi hr ih =>
    obtain ⟨h1, h2⟩ := ih
    exact ⟨tab_set h1 (scl_ok (by omega) (tab_get h1 (by omega)).1), by rw [List.length_set]; exact h2⟩
theorem jmod {i b n : Int} (hi : 0 ≤ i ∧ i < n) (hb : 0 ≤ b ∧ b < n - 1) : (0 ≤ (i + 1 + b) % n ∧ (i + 1 + b) % n < n) ∧ (i + 1 + b) % n ≠ i := by
  have h1 := Int.emod_nonneg (i + 1 + b) (show n ≠ 0 by omega)
  have h2 := Int.emod_lt_of_pos (i + 1 + b) (show 0 < n by omega)
  refine ⟨⟨h1, h2⟩, ?_⟩
  by_cases q : i + 1 + b < n
  · rw [Int.emod_eq_of_lt (by omega) q]
    omega
  · have e : (i + 1 + b) % n = i + 1 + b - n := by
      have e2 : i + 1 + b = (i + 1 + b - n) + n := by omega
      rw [e2, Int.add_emod_right, Int.emod_eq_of_lt (by omega) (by omega)]
      omega
    rw [e]
    omega
end K06
namespace K06
/-! ### the law's own tables -/
def cell (t : Tb) (i j : Nat) : Int := (t.getD i []).getD j 0
def upd2 (t : Tb) (a b : Nat) (x : Int) : Tb := t.set a ((t.getD a []).set b x)
def BsOk (p : Int) (n : Nat) (t : Tb) : Prop := t.length = n ∧ TabOk p n t ∧ ∀ i j, i < n → j < n → cell t i j = cell t j i
theorem upd2_ok {p : Int} {n : Nat} {t : Tb} (h : t.length = n ∧ TabOk p n t) {a b : Nat} {x : Int} (ha : a < n) (hx : 0 ≤ x ∧ x < p) : (upd2 t a b x).length = n ∧ TabOk p n (upd2 t a b x) :=
  ⟨by unfold upd2; rw [List.length_set]; exact h.1, tab_set h.2 (set_ok (tab_get h.2 (by omega)) _ hx)⟩
theorem upd2_cell {p : Int} {n : Nat} {t : Tb} (h : t.length = n ∧ TabOk p n t) {a b : Nat} {x : Int} (ha : a < n) (hb : b < n) {i j : Nat} (hi : i < n) (hj : j < n) : cell (upd2 t a b x) i j = if i = a ∧ j = b then x else cell t i j := by
  have hl := (tab_get h.2 (i := a) (by omega)).1
  unfold cell upd2
  by_cases e : i = a
  · subst e
    rw [List.getD_eq_getElem?_getD (l := t.set i _), List.getElem?_set_self (by omega)]
    show ((t.getD i []).set b x).getD j 0 = _
    by_cases e2 : j = b
    · subst e2
      rw [if_pos ⟨rfl, rfl⟩, List.getD_eq_getElem?_getD, List.getElem?_set_self (by omega)]
      rfl
    · rw [if_neg (fun h => e2 h.2), List.getD_eq_getElem?_getD, List.getElem?_set_ne (fun h => e2 h.symm), ← List.getD_eq_getElem?_getD]
  · rw [if_neg (fun h => e h.1), List.getD_eq_getElem?_getD (l := t.set a _), List.getElem?_set_ne (fun h => e h.symm), ← List.getD_eq_getElem?_getD]
def bs0 (n : Nat) : Tb := (ups 0 n).map fun _ => List.replicate n (0 : Int)
theorem bs0_ok {p : Int} (hp : 2 ≤ p) (n : Nat) : BsOk p n (bs0 n) := by
  have h2 : TabOk p n (bs0 n) := fun row hr => by
    obtain ⟨_, _, rfl⟩ := List.mem_map.mp hr
    refine ⟨List.length_replicate, fun x hx => ?_⟩
    rw [(List.mem_replicate.mp hx).2]
    omega
  have h1 : (bs0 n).length = n := by unfold bs0; rw [List.length_map, ups_len']
  have hz : ∀ i j, cell (bs0 n) i j = 0 := fun i j => by
    unfold cell
    by_cases q : i < (bs0 n).length
    · have hm : (bs0 n).getD i [] ∈ bs0 n := by rw [List.getD_eq_getElem?_getD, List.getElem?_eq_getElem q]; exact List.getElem_mem _
      obtain ⟨_, _, e⟩ := List.mem_map.mp hm
      rw [← e, List.getD_eq_getElem?_getD]
      by_cases q2 : j < n
      · rw [List.getElem?_replicate_of_lt q2]; rfl
      · rw [List.getElem?_eq_none (by rw [List.length_replicate]; omega)]; rfl
    · rw [List.getD_eq_getElem?_getD (l := bs0 n), List.getElem?_eq_none (by omega)]
      rfl
  exact ⟨h1, h2, fun i j _ _ => by rw [hz, hz]⟩
theorem bs_diag {p : Int} {n : Nat} {t : Tb} (h : BsOk p n t) {k : Nat} {x : Int} (hk : k < n) (hx : 0 ≤ x ∧ x < p) : BsOk p n (upd2 t k k x) := by
  have h' := upd2_ok ⟨h.1, h.2.1⟩ (a := k) (b := k) hk hx
  refine ⟨h'.1, h'.2, fun i j hi hj => ?_⟩
  rw [upd2_cell ⟨h.1, h.2.1⟩ hk hk hi hj, upd2_cell ⟨h.1, h.2.1⟩ hk hk hj hi, h.2.2 i j hi hj]
  by_cases e1 : i = k <;> by_cases e2 : j = k <;> simp [e1, e2]
theorem bs_swap {p : Int} (hp : 2 ≤ p) {n : Nat} {t : Tb} (h : BsOk p n t) (hn : 1 < n) : BsOk p n (upd2 (upd2 (upd2 t 0 1 1) 1 0 1) 0 0 0) := by
  have g0 : t.length = n ∧ TabOk p n t := ⟨h.1, h.2.1⟩
  have g1 := upd2_ok g0 (a := 0) (b := 1) (x := 1) (by omega) (by omega)
  have g2 := upd2_ok g1 (a := 1) (b := 0) (x := 1) (by omega) (by omega)
  have g3 := upd2_ok g2 (a := 0) (b := 0) (x := 0) (by omega) (by omega)
  refine ⟨g3.1, g3.2, fun i j hi hj => ?_⟩
  have c : ∀ i j, i < n → j < n → cell (upd2 (upd2 (upd2 t 0 1 1) 1 0 1) 0 0 0) i j = if i = 0 ∧ j = 0 then 0 else if i = 1 ∧ j = 0 then 1 else if i = 0 ∧ j = 1 then 1 else cell t i j := fun i j hi hj => by
    rw [upd2_cell g2 (by omega) (by omega) hi hj, upd2_cell g1 (by omega) (by omega) hi hj, upd2_cell g0 (by omega) (by omega) hi hj]
  rw [c i j hi hj, c j i hj hi, h.2.2 i j hi hj]
  by_cases a1 : i = 0 <;> by_cases a2 : j = 0 <;> by_cases a3 : i = 1 <;> by_cases a4 : j = 1 <;> simp [a1, a2, a3, a4] <;> omega
end K06
namespace K06
/-! ### beside, taken off: what is needed of the laws -/
theorem bsd_sq {p : Int} (hp : 0 < p) {a b : Tb} (ha : SqOk p a) (hb : SqOk p b) (h : a.length + b.length ≤ 6) : SqOk p (bsdM a b) := by
  have hl : (bsdM a b).length = a.length + b.length := by unfold bsdM; rw [List.length_append, List.length_map, List.length_map]
  refine ⟨by omega, fun row hr => ?_⟩
  rw [hl]
  rcases List.mem_append.mp hr with hr | hr
  · obtain ⟨z, hz, rfl⟩ := List.mem_map.mp hr
    refine ⟨by rw [List.length_append, (ha.2 z hz).1, List.length_replicate], fun x hx => ?_⟩
    rcases List.mem_append.mp hx with hx | hx
    · exact (ha.2 z hz).2 x hx
    · rw [(List.mem_replicate.mp hx).2]; omega
  · obtain ⟨z, hz, rfl⟩ := List.mem_map.mp hr
    refine ⟨by rw [List.length_append, (hb.2 z hz).1, List.length_replicate], fun x hx => ?_⟩
    rcases List.mem_append.mp hx with hx | hx
    · rw [(List.mem_replicate.mp hx).2]; omega
    · exact (hb.2 z hz).2 x hx
def TakF (p : Int) (a b c : Tb) : Prop := P357 p ∧ (SqOk p a ∧ SqOk p b ∧ SqOk p c) ∧ (a.length + c.length ≤ 6 ∧ b.length + c.length ≤ 6) ∧
  (∀ t, tofM p a b = some t → SqOk p t ∧ kindM p t = tofK (kindM p a) (kindM p b) ∧ b.length + t.length ≤ 6 ∧ kindM p (bsdM b t) = kindM p a) ∧ (kindM p (bsdM a c) = kindM p (bsdM b c) ↔ kindM p a = kindM p b)
end K06
/-! ==== KA ==== -/
set_option Elab.async false
set_option linter.all false
set_option maxRecDepth 100000
set_option maxHeartbeats 4000000
namespace K06
open PySem L2 PySem.Spec PyProof.Rows

/-! ### data in the abstract heap -/
abbrev Fr := PySem.W.Frag
structure Rp (α : Type) where
  rel : Fr → Hp → V → α → Prop
  mono : ∀ {K : Fr} {H H' : Hp} {v : V} {x : α}, Same H H' → rel K H v x → rel K H' v x
theorem pmono {α : Type} {r : Rp α} {K : Fr} {H H' : Hp} (e : Same H H') {vs : List V} {xs : List α} (h : Paired (r.rel K H) vs xs) : Paired (r.rel K H') vs xs := Paired.mapP h fun _ _ q => r.mono e q
def rI : Rp Int := ⟨fun _ _ v x => v = .int x, fun _ h => h⟩
def rB : Rp Bool := ⟨fun _ _ v x => v = .bl x, fun _ h => h⟩
def rV (z : V) : Rp Unit := ⟨fun _ _ v _ => v = z, fun _ h => h⟩
def rT {α : Type} (r : Rp α) : Rp (List α) := ⟨fun K H v xs => ∃ a vs, v = .ref a ∧ H a = some (.tup vs) ∧ Paired (r.rel K H) vs xs, fun e h => by
  obtain ⟨a, vs, h1, h2, h3⟩ := h
  exact ⟨a, vs, h1, e _ _ h2, pmono e h3⟩⟩
def rL {α : Type} (r : Rp α) : Rp (List α) := ⟨fun K H v xs => ∃ a vs, v = .ref a ∧ H a = some (.lst vs) ∧ Paired (r.rel K H) vs xs, fun e h => by
  obtain ⟨a, vs, h1, h2, h3⟩ := h
  exact ⟨a, vs, h1, e _ _ h2, pmono e h3⟩⟩
def r2 {α β : Type} (r : Rp α) (q : Rp β) : Rp (α × β) := ⟨fun K H v x => ∃ a u w, v = .ref a ∧ H a = some (.tup [u, w]) ∧ r.rel K H u x.1 ∧ q.rel K H w x.2, fun e h => by
  obtain ⟨a, u, w, h1, h2, h3, h4⟩ := h
  exact ⟨a, u, w, h1, e _ _ h2, r.mono e h3, q.mono e h4⟩⟩
def r3 {α β γ : Type} (r : Rp α) (q : Rp β) (p : Rp γ) : Rp (α × β × γ) := ⟨fun K H v x => ∃ a u w z, v = .ref a ∧ H a = some (.tup [u, w, z]) ∧ r.rel K H u x.1 ∧ q.rel K H w x.2.1 ∧ p.rel K H z x.2.2, fun e h => by
  obtain ⟨a, u, w, z, h1, h2, h3, h4, h5⟩ := h
  exact ⟨a, u, w, z, h1, e _ _ h2, r.mono e h3, q.mono e h4, p.mono e h5⟩⟩
def rO {α : Type} (r : Rp α) : Rp (Option α) := ⟨fun K H v x => match x with
  | none => v = .non
  | some y => v ≠ .non ∧ r.rel K H v y, fun {K H H' v x} e h => by
  cases x with
  | none => exact h
  | some y => exact ⟨h.1, r.mono e h.2⟩⟩
theorem same_new {H : Hp} {p : Addr} {o : HO} (h : H p = none) : Same H (upd H p o) := fun b x e => by
  rw [upd_ne (ne_of_none e h)]
  exact e
/-- what H0 does not know may change -/
theorem same_mut {H H' : Hp} {p : Addr} {o : HO} (e : Same H H') (h : H p = none) : Same H (upd H' p o) := fun b x eb => by
  rw [upd_ne (ne_of_none eb h)]
  exact e b x eb

/-! ### expressions: what they are worth, the heap only extended -/
section
variable {X : Cx} {σ : L2.St} {H H' : Hp} {α β γ : Type} {r : Rp α} {q : Rp β} {pos : Pos} {e a b : Expr}
def cE (X : Cx) (e : Expr) : TE := fun σ H Q => ∀ pins s, Inv X pins σ H s → wpAny (model X.prog X.w) X.A (eval e X.env) (EP X pins σ Q) X.xe s
theorem cE_pe : PE X e (cE X e) := ⟨fun pins s _ _ _ I h => h pins s I⟩
theorem cE_of {t : TE} {Q : VK} (h : PE X e t) (ht : t σ H Q) : cE X e σ H Q := fun pins s I => h.run pins s σ H Q I ht
def cT (X : Cx) (e : Expr) : TT := fun σ H Q => ∀ pins s, Inv X pins σ H s → wpAny (model X.prog X.w) X.A (isTrue e X.env (eval e X.env)) (TP X pins σ Q) X.xe s
theorem cT_pt : PT X e (cT X e) := ⟨fun pins s _ _ _ I h => h pins s I⟩
theorem cT_of {t : TT} {Q : Bool → Hp → Prop} (h : PT X e t) (ht : t σ H Q) : cT X e σ H Q := fun pins s I => h.run pins s σ H Q I ht
def Ev (X : Cx) (σ : L2.St) (H : Hp) (e : Expr) (r : Rp α) (x : α) : Prop := ∀ H1, Same H H1 → ∀ Q : VK, (∀ v H2, Same H1 H2 → r.rel X.K H2 v x → Q v H2) → cE X e σ H1 Q
def EvT (X : Cx) (σ : L2.St) (H : Hp) (e : Expr) (b : Bool) : Prop := ∀ H1, Same H H1 → ∀ Q : Bool → Hp → Prop, (∀ H2, Same H1 H2 → Q b H2) → cT X e σ H1 Q
theorem Ev.up {x : α} (h : Ev X σ H e r x) (s : Same H H') : Ev X σ H' e r x := fun H1 s1 => h H1 (s.trans s1)
theorem EvT.up {b : Bool} (h : EvT X σ H e b) (s : Same H H') : EvT X σ H' e b := fun H1 s1 => h H1 (s.trans s1)
theorem ev_of {t : TE} {x : α} (h : PE X e t) (k : ∀ H1, Same H H1 → ∀ Q : VK, (∀ v H2, Same H1 H2 → r.rel X.K H2 v x → Q v H2) → t σ H1 Q) : Ev X σ H e r x := fun H1 s Q q => cE_of h (k H1 s Q q)
theorem evT_of {t : TT} {b : Bool} (h : PT X e t) (k : ∀ H1, Same H H1 → ∀ Q : Bool → Hp → Prop, (∀ H2, Same H1 H2 → Q b H2) → t σ H1 Q) : EvT X σ H e b := fun H1 s Q q => cT_of h (k H1 s Q q)
theorem Ev.is {x y : α} (h : Ev X σ H e r x) (k : x = y) : Ev X σ H e r y := k ▸ h
theorem EvT.is {x y : Bool} (h : EvT X σ H e x) (k : x = y) : EvT X σ H e y := k ▸ h
/-- a name's value -/
theorem ev_v (i : Nat) {x : Str} {v : V} {d : α} (hr : r.rel X.K H v d) (hσ : σ[i]? = some (some v) := by rfl) (hN : X.N[i]? = some x := by rfl) (hv : Vis X.env.scope x := by first | exact Or.inl rfl | exact Or.inr (Or.inl rfl) | exact Or.inr (Or.inr rfl))
    (hd : (x == ("__debug__" : Str)) = false := by decide) (hcd : (x == ("__classdict__" : Str)) = false := by decide) : Ev X σ H (.Name x pos) r d :=
  ev_of (pe_var hN hv hd hcd) fun H1 s _ k => ⟨v, hσ, k v H1 (Same.refl H1) (r.mono s hr)⟩
theorem ev_i {i : Int} {j : Nat} : Ev X σ H (.Constant (.int i) j pos) rI i := ev_of pe_int fun H1 _ _ k => k _ H1 (Same.refl H1) rfl
theorem ev_bl {i : Bool} {j : Nat} : Ev X σ H (.Constant (.bool i) j pos) rB i := ev_of pe_bl fun H1 _ _ k => k _ H1 (Same.refl H1) rfl
theorem ev_none {j : Nat} : Ev X σ H (.Constant .none j pos) (rO r) none := ev_of pe_non fun H1 _ _ k => k _ H1 (Same.refl H1) rfl
theorem ev_str {i : Str} {j : Nat} : Ev X σ H (.Constant (.str i) j pos) (rV (.str i)) () := ev_of pe_str fun H1 _ _ k => k _ H1 (Same.refl H1) rfl
/-- two, then an operator -/
theorem ev_op2 {op : Operator} {r2 : R2} {δ : Type} {p : Rp δ} {x : α} {y : β} {z : δ} (ho : OpR X (binaryOp op) r2) (ha : Ev X σ H a r x) (hb : Ev X σ H b q y)
    (k : ∀ H1, Same H H1 → ∀ u w, r.rel X.K H1 u x → q.rel X.K H1 w y → ∀ Q : VK, (∀ v H2, Same H1 H2 → p.rel X.K H2 v z → Q v H2) → r2 u w H1 Q) : Ev X σ H (.BinOp a op b pos) p z :=
  ev_of (pe_op ho cE_pe cE_pe) fun H1 s Q c => ha H1 s _ fun u H2 s2 hu => hb H2 (s.trans s2) _ fun w H3 s3 hw => k H3 ((s.trans s2).trans s3) u w (r.mono s3 hu) hw Q fun v H4 s4 hv => c v H4 ((s2.trans s3).trans s4) hv
theorem ev_add {x y : Int} (ha : Ev X σ H a rI x) (hb : Ev X σ H b rI y) : Ev X σ H (.BinOp a .Add b pos) rI (x + y) := ev_op2 op_add ha hb fun H1 _ _ _ hu hw _ c => ⟨x, y, hu, hw, c _ H1 (Same.refl H1) rfl⟩
theorem ev_sub {x y : Int} (ha : Ev X σ H a rI x) (hb : Ev X σ H b rI y) : Ev X σ H (.BinOp a .Sub b pos) rI (x - y) := ev_op2 op_sub ha hb fun H1 _ _ _ hu hw _ c => ⟨x, y, hu, hw, c _ H1 (Same.refl H1) rfl⟩
/-- a whole number that one may multiply by -/
def Sm (x : Int) : Prop := -1000000000000 ≤ x ∧ x ≤ 1000000000000
theorem ev_mul {x y : Int} (ha : Ev X σ H a rI x) (hb : Ev X σ H b rI y) (hx : Sm x) : Ev X σ H (.BinOp a .Mult b pos) rI (x * y) := ev_op2 op_mul ha hb fun H1 _ _ _ hu hw _ c => ⟨x, y, hu, hw, .inl ⟨by unfold Sm at hx; omega, by unfold Sm at hx; omega⟩, c _ H1 (Same.refl H1) rfl⟩
theorem ev_mod {x y : Int} (ha : Ev X σ H a rI x) (hb : Ev X σ H b rI y) (hy : 0 < y) : Ev X σ H (.BinOp a .Mod b pos) rI (x % y) := ev_op2 op_mod ha hb fun H1 _ _ _ hu hw _ c => ⟨x, y, hu, hw, hy, c _ H1 (Same.refl H1) rfl⟩
theorem ev_div {x y : Int} (ha : Ev X σ H a rI x) (hb : Ev X σ H b rI y) (hy : 0 < y ∧ y < 1000000) : Ev X σ H (.BinOp a .FloorDiv b pos) rI (x / y) := ev_op2 op_fdiv ha hb fun H1 _ _ _ hu hw _ c => ⟨x, y, hu, hw, ⟨hy.1, by omega⟩, c _ H1 (Same.refl H1) rfl⟩
/-! ### comparisons of whole numbers, as values and as tests -/
theorem ev_cmp {op : CmpOp} {r2 : R2} {δ : Type} {p : Rp δ} {x : α} {y : β} {z : δ} (ho : OpR X (compareOp op) r2) (ha : Ev X σ H a r x) (hb : Ev X σ H b q y) (hm : behindInMarks op b = false)
    (k : ∀ H1, Same H H1 → ∀ u w, r.rel X.K H1 u x → q.rel X.K H1 w y → ∀ Q : VK, (∀ v H2, Same H1 H2 → p.rel X.K H2 v z → Q v H2) → r2 u w H1 Q) : Ev X σ H (.Compare a [op] [b] pos) p z :=
  ev_of (pe_cmpR ho cE_pe cE_pe hm) fun H1 s Q c => ha H1 s _ fun u H2 s2 hu => hb H2 (s.trans s2) _ fun w H3 s3 hw => k H3 ((s.trans s2).trans s3) u w (r.mono s3 hu) hw Q fun v H4 s4 hv => c v H4 ((s2.trans s3).trans s4) hv
theorem ev_eq {x y : Int} (ha : Ev X σ H a rI x) (hb : Ev X σ H b rI y) : Ev X σ H (.Compare a [.Eq] [b] pos) rB (decide (x = y)) := ev_cmp op_eq ha hb (nomark _) fun H1 _ u w hu hw _ c => by
  cases (show u = V.int x from hu)
  cases (show w = V.int y from hw)
  exact ⟨rfl, c _ H1 (Same.refl H1) (by show V.bl _ = V.bl _; rw [dec_int]; exact congrArg V.bl (by by_cases e : x = y <;> simp [e]))⟩
theorem ev_ne {x y : Int} (ha : Ev X σ H a rI x) (hb : Ev X σ H b rI y) : Ev X σ H (.Compare a [.NotEq] [b] pos) rB (!decide (x = y)) := ev_cmp op_ne ha hb (nomark _) fun H1 _ u w hu hw _ c => by
  cases (show u = V.int x from hu)
  cases (show w = V.int y from hw)
  exact ⟨rfl, c _ H1 (Same.refl H1) (by show V.bl _ = V.bl _; rw [dec_int]; exact congrArg V.bl (by by_cases e : x = y <;> simp [e]))⟩
theorem ev_lt {x y : Int} (ha : Ev X σ H a rI x) (hb : Ev X σ H b rI y) : Ev X σ H (.Compare a [.Lt] [b] pos) rB (decide (x < y)) := ev_cmp op_lt ha hb (nomark _) fun H1 _ _ _ hu hw _ c => ⟨x, y, hu, hw, c _ H1 (Same.refl H1) rfl⟩
theorem ev_le {x y : Int} (ha : Ev X σ H a rI x) (hb : Ev X σ H b rI y) : Ev X σ H (.Compare a [.LtE] [b] pos) rB (decide (x ≤ y)) := ev_cmp op_le ha hb (nomark _) fun H1 _ _ _ hu hw _ c => ⟨x, y, hu, hw, c _ H1 (Same.refl H1) rfl⟩
theorem ev_gt {x y : Int} (ha : Ev X σ H a rI x) (hb : Ev X σ H b rI y) : Ev X σ H (.Compare a [.Gt] [b] pos) rB (decide (y < x)) := ev_cmp op_gt ha hb (nomark _) fun H1 _ _ _ hu hw _ c => ⟨x, y, hu, hw, c _ H1 (Same.refl H1) rfl⟩
theorem ev_ge {x y : Int} (ha : Ev X σ H a rI x) (hb : Ev X σ H b rI y) : Ev X σ H (.Compare a [.GtE] [b] pos) rB (decide (y ≤ x)) := ev_cmp op_ge ha hb (nomark _) fun H1 _ _ _ hu hw _ c => ⟨x, y, hu, hw, c _ H1 (Same.refl H1) rfl⟩
/-- a bool's expression as a test -/
theorem et_val {k : Bool} (h : Ev X σ H e rB k) (he : ∀ whole, isTrue e X.env whole = (do let v ← whole; standAt e.pos; holding [v] (truthy v)) := by intro _; rfl) : EvT X σ H e k :=
  evT_of (pt_val cE_pe he) fun H1 s Q c => h H1 s _ fun v H2 s2 hv => ⟨k, hv, c H2 s2⟩
theorem et_cmp {op : CmpOp} {r2 : R2} {x : α} {y : β} {k : Bool} (ho : OpR X (compareOp op) r2) (ha : Ev X σ H a r x) (hb : Ev X σ H b q y) (hm : behindInMarks op b = false)
    (kk : ∀ H1, Same H H1 → ∀ u w, r.rel X.K H1 u x → q.rel X.K H1 w y → ∀ Q : VK, (∀ H2, Same H1 H2 → Q (.bl k) H2) → r2 u w H1 Q) : EvT X σ H (.Compare a [op] [b] pos) k :=
  evT_of (pt_cmpR ho cE_pe cE_pe hm) fun H1 s Q c => ha H1 s _ fun u H2 s2 hu => hb H2 (s.trans s2) _ fun w H3 s3 hw => kk H3 ((s.trans s2).trans s3) u w (r.mono s3 hu) hw _ fun H4 s4 => ⟨k, rfl, c H4 ((s2.trans s3).trans s4)⟩
theorem et_eq {x y : Int} (ha : Ev X σ H a rI x) (hb : Ev X σ H b rI y) : EvT X σ H (.Compare a [.Eq] [b] pos) (decide (x = y)) := et_cmp op_eq ha hb (nomark _) fun H1 _ u w hu hw _ c => by
  cases (show u = V.int x from hu)
  cases (show w = V.int y from hw)
  refine ⟨rfl, ?_⟩
  rw [dec_int]
  have e : (x == y) = decide (x = y) := by by_cases e : x = y <;> simp [e]
  rw [e]
  exact c H1 (Same.refl H1)
theorem et_ne {x y : Int} (ha : Ev X σ H a rI x) (hb : Ev X σ H b rI y) : EvT X σ H (.Compare a [.NotEq] [b] pos) (!decide (x = y)) := et_cmp op_ne ha hb (nomark _) fun H1 _ u w hu hw _ c => by
  cases (show u = V.int x from hu)
  cases (show w = V.int y from hw)
  refine ⟨rfl, ?_⟩
  rw [dec_int]
  have e : (x == y) = decide (x = y) := by by_cases e : x = y <;> simp [e]
  rw [e]
  exact c H1 (Same.refl H1)
theorem et_lt {x y : Int} (ha : Ev X σ H a rI x) (hb : Ev X σ H b rI y) : EvT X σ H (.Compare a [.Lt] [b] pos) (decide (x < y)) := et_cmp op_lt ha hb (nomark _) fun H1 _ _ _ hu hw _ c => ⟨x, y, hu, hw, c H1 (Same.refl H1)⟩
theorem et_gt {x y : Int} (ha : Ev X σ H a rI x) (hb : Ev X σ H b rI y) : EvT X σ H (.Compare a [.Gt] [b] pos) (decide (y < x)) := et_cmp op_gt ha hb (nomark _) fun H1 _ _ _ hu hw _ c => ⟨x, y, hu, hw, c H1 (Same.refl H1)⟩
theorem et_le {x y : Int} (ha : Ev X σ H a rI x) (hb : Ev X σ H b rI y) : EvT X σ H (.Compare a [.LtE] [b] pos) (decide (x ≤ y)) := et_cmp op_le ha hb (nomark _) fun H1 _ _ _ hu hw _ c => ⟨x, y, hu, hw, c H1 (Same.refl H1)⟩
/-- x is None, x is not None -/
theorem et_isN {x : Option α} {j : Nat} {p2 : Pos} (ha : Ev X σ H a (rO r) x) : EvT X σ H (.Compare a [.Is] [.Constant .none j p2] pos) x.isNone :=
  evT_of (pt_cmpR op_isN cE_pe pe_non (nomark _)) fun H1 s Q c => ha H1 s _ fun u H2 s2 hu => ⟨rfl, x.isNone, by
    cases x with
    | none => cases (show u = V.non from hu); rfl
    | some y => exact congrArg V.bl (decide_eq_false hu.1), c H2 s2⟩
theorem et_notN {x : Option α} {j : Nat} {p2 : Pos} (ha : Ev X σ H a (rO r) x) : EvT X σ H (.Compare a [.IsNot] [.Constant .none j p2] pos) x.isSome :=
  evT_of (pt_cmpR op_notN cE_pe pe_non (nomark _)) fun H1 s Q c => ha H1 s _ fun u H2 s2 hu => ⟨rfl, x.isSome, by
    cases x with
    | none => cases (show u = V.non from hu); rfl
    | some y => exact congrArg V.bl (by rw [decide_eq_false hu.1]; rfl), c H2 s2⟩
theorem ev_isN {x : Option α} {j : Nat} {p2 : Pos} (ha : Ev X σ H a (rO r) x) : Ev X σ H (.Compare a [.Is] [.Constant .none j p2] pos) rB x.isNone :=
  ev_of (pe_cmpR op_isN cE_pe pe_non (nomark _)) fun H1 s Q c => ha H1 s _ fun u H2 s2 hu => ⟨rfl, c _ H2 s2 (by
    cases x with
    | none => cases (show u = V.non from hu); rfl
    | some y => exact congrArg V.bl (decide_eq_false hu.1))⟩
/-- tests joined by and, or -/
def cW (X : Cx) (e : Expr) : TT := fun σ H Q => ∀ whole pins s, Inv X pins σ H s → wpAny (model X.prog X.w) X.A (isTrue e X.env whole) (TP X pins σ Q) X.xe s
theorem cW_pw : PW X e (cW X e) := ⟨fun whole pins s _ _ _ I h => h whole pins s I⟩
def EvW (X : Cx) (σ : L2.St) (H : Hp) (e : Expr) (b : Bool) : Prop := ∀ H1, Same H H1 → ∀ Q : Bool → Hp → Prop, (∀ H2, Same H1 H2 → Q b H2) → cW X e σ H1 Q
theorem evW_of {t : TT} {b : Bool} (h : PW X e t) (k : ∀ H1, Same H H1 → ∀ Q : Bool → Hp → Prop, (∀ H2, Same H1 H2 → Q b H2) → t σ H1 Q) : EvW X σ H e b := fun H1 s Q q whole pins sh I => h.run whole pins sh σ H1 Q I (k H1 s Q q)
theorem et_w {k : Bool} (h : EvW X σ H e k) : EvT X σ H e k := fun H1 s Q c pins sh I => h H1 s Q c _ pins sh I
theorem ew_and1 {x : Bool} (h : EvT X σ H a x) : EvW X σ H (.BoolOp .And [a] pos) x := evW_of (pw_and1 cT_pt) fun H1 s Q c => h H1 s Q c
theorem ew_or1 {x : Bool} (h : EvT X σ H a x) : EvW X σ H (.BoolOp .Or [a] pos) x := evW_of (pw_or1 cT_pt) fun H1 s Q c => h H1 s Q c
theorem ew_and {b' : Expr} {rest : List Expr} {x y : Bool} (ha : EvT X σ H a x) (hb : x = true → EvW X σ H (.BoolOp .And (b' :: rest) pos) y) : EvW X σ H (.BoolOp .And (a :: b' :: rest) pos) (x && y) :=
  evW_of (pw_and cT_pt cW_pw) fun H1 s Q c => ha H1 s _ fun H2 s2 => by
    cases x with
    | true => exact iteT (hb rfl H2 (s.trans s2) Q fun H3 s3 => c H3 (s2.trans s3))
    | false => exact iteF (c H2 s2)
theorem ew_or {b' : Expr} {rest : List Expr} {x y : Bool} (ha : EvT X σ H a x) (hb : x = false → EvW X σ H (.BoolOp .Or (b' :: rest) pos) y) : EvW X σ H (.BoolOp .Or (a :: b' :: rest) pos) (x || y) :=
  evW_of (pw_or cT_pt cW_pw) fun H1 s Q c => ha H1 s _ fun H2 s2 => by
    cases x with
    | false => exact iteF (hb rfl H2 (s.trans s2) Q fun H3 s3 => c H3 (s2.trans s3))
    | true => exact iteT (c H2 s2)
theorem et_not {k : Bool} (h : EvT X σ H a k) : EvT X σ H (.UnaryOp .Not a pos) (!k) := evT_of (pt_not cT_pt) fun H1 s Q c => h H1 s _ fun H2 s2 => c H2 s2
theorem ev_not {k : Bool} (h : Ev X σ H a rB k) : Ev X σ H (.UnaryOp .Not a pos) rB (!k) := ev_of (pe_not cE_pe) fun H1 s Q c => h H1 s _ fun v H2 s2 hv => ⟨k, hv, c _ H2 s2 rfl⟩
theorem ev_and {b' : Expr} {rest : List Expr} {x y : Bool} (ha : Ev X σ H a rB x) (hb : x = true → Ev X σ H (.BoolOp .And (b' :: rest) pos) rB y) : Ev X σ H (.BoolOp .And (a :: b' :: rest) pos) rB (x && y) :=
  ev_of (pe_and cE_pe cE_pe) fun H1 s Q c => ha H1 s _ fun v H2 s2 hv => ⟨x, hv, by
    cases x with
    | true => exact iteT (hb rfl H2 (s.trans s2) _ fun w H3 s3 hw => c w H3 (s2.trans s3) hw)
    | false => exact iteF (c _ H2 s2 rfl)⟩
theorem ev_or {b' : Expr} {rest : List Expr} {x y : Bool} (ha : Ev X σ H a rB x) (hb : x = false → Ev X σ H (.BoolOp .Or (b' :: rest) pos) rB y) : Ev X σ H (.BoolOp .Or (a :: b' :: rest) pos) rB (x || y) :=
  ev_of (pe_or cE_pe cE_pe) fun H1 s Q c => ha H1 s _ fun v H2 s2 hv => ⟨x, hv, by
    cases x with
    | false => exact iteF (hb rfl H2 (s.trans s2) _ fun w H3 s3 hw => c w H3 (s2.trans s3) hw)
    | true => exact iteT (c _ H2 s2 rfl)⟩
theorem ev_one {op : BoolOp} {x : α} (h : Ev X σ H a r x) : Ev X σ H (.BoolOp op [a] pos) r x := ev_of (pe_one cE_pe) fun H1 s Q c => h H1 s Q c
theorem ev_if {c : Expr} {k : Bool} {x : α} (hc : EvT X σ H c k) (ha : k = true → Ev X σ H a r x) (hb : k = false → Ev X σ H b r x) : Ev X σ H (.IfExp c a b pos) r x :=
  ev_of (pe_ifExp cT_pt cE_pe cE_pe) fun H1 s Q q => hc H1 s _ fun H2 s2 => by
    cases k with
    | true => exact iteT (ha rfl H2 (s.trans s2) Q fun v H3 s3 hv => q v H3 (s2.trans s3) hv)
    | false => exact iteF (hb rfl H2 (s.trans s2) Q fun v H3 s3 hv => q v H3 (s2.trans s3) hv)
/-! ### argument lists -/
structure Rps (α : Type) where
  rel : Fr → Hp → List V → α → Prop
  mono : ∀ {K : Fr} {H H' : Hp} {v : List V} {x : α}, Same H H' → rel K H v x → rel K H' v x
def a0 : Rps Unit := ⟨fun _ _ vs _ => vs = [], fun _ h => h⟩
def aC {α β : Type} (r : Rp α) (q : Rps β) : Rps (α × β) := ⟨fun K H vs x => ∃ v ws, vs = v :: ws ∧ r.rel K H v x.1 ∧ q.rel K H ws x.2, fun e h => by
  obtain ⟨v, ws, h1, h2, h3⟩ := h
  exact ⟨v, ws, h1, r.mono e h2, q.mono e h3⟩⟩
def cA (X : Cx) (es : List Expr) : TA := fun σ H Q => ∀ pos pins s, Inv X pins σ H s → wpAny (model X.prog X.w) X.A (spliced (backTo pos (starEach es X.env))) (AP X pins σ Q) X.xe s
theorem cA_pa {es : List Expr} : PA X es (cA X es) := ⟨fun pos pins s _ _ _ I h => h pos pins s I⟩
def EvA (X : Cx) (σ : L2.St) (H : Hp) (es : List Expr) (p : Rps α) (x : α) : Prop := ∀ H1, Same H H1 → ∀ Q : List V → Hp → Prop, (∀ vs H2, Same H1 H2 → p.rel X.K H2 vs x → Q vs H2) → cA X es σ H1 Q
theorem EvA.up {es : List Expr} {p : Rps α} {x : α} (h : EvA X σ H es p x) (s : Same H H') : EvA X σ H' es p x := fun H1 s1 => h H1 (s.trans s1)
theorem ea_0 : EvA X σ H [] a0 () := fun H1 s Q q pos pins sh I => pa_nil.run pos pins sh σ H1 Q I (q [] H1 (Same.refl H1) rfl)
theorem ea_c {es : List Expr} {p : Rps β} {x : α} {y : β} (ha : Ev X σ H e r x) (hb : EvA X σ H es p y) (hs : starEach (e :: es) X.env = (false, eval e X.env) :: starEach es X.env := by rfl) : EvA X σ H (e :: es) (aC r p) (x, y) :=
  fun H1 s Q q pos pins sh I => (pa_cons cE_pe cA_pa hs).run pos pins sh σ H1 Q I (ha H1 s _ fun v H2 s2 hv => hb H2 (s.trans s2) _ fun vs H3 s3 hvs => q _ H3 (s2.trans s3) ⟨v, vs, rfl, r.mono s3 hv, hvs⟩)
/-- a call of a built-in by name -/
theorem ev_cb {es : List Expr} {p : Rps β} {rr : List V → Hp → VK → Prop} {id : String} {n : Str} {p2 : Pos} {x : β} {y : α} (hc : CallR X (.builtin id) rr) (hm : X.mg n = none) (hv : bootBuiltins n = some (.builtin id)) (ha : EvA X σ H (e :: es) p x)
    (k : ∀ H1, Same H H1 → ∀ vs, p.rel X.K H1 vs x → ∀ Q : VK, (∀ v H2, Same H1 H2 → r.rel X.K H2 v y → Q v H2) → rr vs H1 Q) (hg : Gl X n := by rfl) (hn : n ≠ "__name__" := by decide) (hdb : (n == ("__debug__" : Str)) = false := by decide)
    (he : starEach (e :: es) X.env = (false, eval e X.env) :: starEach es X.env := by rfl) (hpl : (backTo pos (starEach es X.env)).any (·.1) = false := by rfl) : Ev X σ H (.Call (.Name n p2) (e :: es) [] pos) r y :=
  ev_of (pe_callB hc hg hm hv cA_pa hn hdb he hpl) fun H1 s Q c => ha H1 s _ fun vs H2 s2 hvs => k H2 (s.trans s2) vs hvs Q fun v H3 s3 hv => c v H3 (s2.trans s3) hv
theorem ev_ct {es : List Expr} {p : Rps β} {rr : List V → Hp → VK → Prop} {id : String} {n : Str} {p2 : Pos} {x : β} {y : α} (hc : CallR X (.type id) rr) (hm : X.mg n = none) (hv : bootBuiltins n = some (.type id)) (ha : EvA X σ H (e :: es) p x)
    (k : ∀ H1, Same H H1 → ∀ vs, p.rel X.K H1 vs x → ∀ Q : VK, (∀ v H2, Same H1 H2 → r.rel X.K H2 v y → Q v H2) → rr vs H1 Q) (hg : Gl X n := by rfl) (hn : n ≠ "__name__" := by decide) (hdb : (n == ("__debug__" : Str)) = false := by decide)
    (he : starEach (e :: es) X.env = (false, eval e X.env) :: starEach es X.env := by rfl) (hpl : (backTo pos (starEach es X.env)).any (·.1) = false := by rfl) : Ev X σ H (.Call (.Name n p2) (e :: es) [] pos) r y :=
  ev_of (pe_callTy hc hg hm hv cA_pa hn hdb he hpl) fun H1 s Q c => ha H1 s _ fun vs H2 s2 hvs => k H2 (s.trans s2) vs hvs Q fun v H3 s3 hv => c v H3 (s2.trans s3) hv
theorem a1 {K : Fr} {vs : List V} {x : α} (h : (aC r a0).rel K H vs (x, ())) : ∃ v, vs = [v] ∧ r.rel K H v x := by
  obtain ⟨v, ws, h1, h2, h3⟩ := h
  cases (show ws = [] from h3)
  exact ⟨v, h1, h2⟩
theorem a2 {K : Fr} {vs : List V} {x : α} {y : β} (h : (aC r (aC q a0)).rel K H vs (x, y, ())) : ∃ v w, vs = [v, w] ∧ r.rel K H v x ∧ q.rel K H w y := by
  obtain ⟨v, ws, h1, h2, h3⟩ := h
  obtain ⟨w, h4, h5⟩ := a1 h3
  exact ⟨v, w, by rw [h1, h4], h2, h5⟩
theorem ea_1 {x : α} (ha : Ev X σ H e r x) (hs : starEach [e] X.env = (false, eval e X.env) :: starEach [] X.env := by rfl) : EvA X σ H [e] (aC r a0) (x, ()) := ea_c ha ea_0 hs
theorem len_p {K : Fr} {vs : List V} {xs : List α} (h : Paired (r.rel K H) vs xs) : vs.length = xs.length := h.length
theorem ev_lenT {xs : List α} {p2 : Pos} (hm : X.mg "len" = none) (ha : Ev X σ H a (rT r) xs) (hg : Gl X "len" := by rfl) (he : starEach [a] X.env = (false, eval a X.env) :: starEach [] X.env := by rfl) : Ev X σ H (.Call (.Name "len" p2) [a] [] pos) rI (xs.length : Int) :=
  ev_cb call_len_seq hm PySem.boot_len (ea_1 ha he) (fun H1 _ vs hvs Q c => by
    obtain ⟨v, rfl, a, ws, rfl, h1, h2⟩ := a1 hvs
    exact ⟨a, ws, rfl, .inr (SqT.of h1), c _ H1 (Same.refl H1) (by show _ = V.int _; rw [len_p h2])⟩) hg (he := he)
theorem ev_lenL {xs : List α} {p2 : Pos} (hm : X.mg "len" = none) (ha : Ev X σ H a (rL r) xs) (hg : Gl X "len" := by rfl) (he : starEach [a] X.env = (false, eval a X.env) :: starEach [] X.env := by rfl) : Ev X σ H (.Call (.Name "len" p2) [a] [] pos) rI (xs.length : Int) :=
  ev_cb call_len_seq hm PySem.boot_len (ea_1 ha he) (fun H1 _ vs hvs Q c => by
    obtain ⟨v, rfl, a, ws, rfl, h1, h2⟩ := a1 hvs
    exact ⟨a, ws, rfl, .inl (SqL.of h1), c _ H1 (Same.refl H1) (by show _ = V.int _; rw [len_p h2])⟩) hg (he := he)
theorem ints_p {K : Fr} : ∀ {vs : List V} {xs : List Int}, Paired (rI.rel K H) vs xs → vs = xs.map V.int
  | _, _, .nil => rfl
  | _, _, .cons h t => by
    have e : _ = V.int _ := h
    rw [e, ints_p t]
    rfl
theorem bools_p {K : Fr} : ∀ {vs : List V} {xs : List Bool}, Paired (rB.rel K H) vs xs → vs = xs.map V.bl
  | _, _, .nil => rfl
  | _, _, .cons h t => by
    have e : _ = V.bl _ := h
    rw [e, bools_p t]
    rfl
theorem ev_sum {xs : List Int} {p2 : Pos} (hm : X.mg "sum" = none) (ha : Ev X σ H a (rL rI) xs) (hc : X.calm = true := by rfl) (hg : Gl X "sum" := by rfl) (he : starEach [a] X.env = (false, eval a X.env) :: starEach [] X.env := by rfl) : Ev X σ H (.Call (.Name "sum" p2) [a] [] pos) rI xs.sum :=
  ev_cb (cr_sum hc) hm (by decide +kernel) (ea_1 ha he) (fun H1 _ vs hvs Q c => by
    obtain ⟨v, rfl, a, ws, rfl, h1, h2⟩ := a1 hvs
    rw [ints_p h2] at h1
    exact ⟨a, xs, rfl, SqL.of h1, c _ H1 (Same.refl H1) rfl⟩) hg (he := he)
theorem ev_all {xs : List Bool} {p2 : Pos} (hm : X.mg "all" = none) (ha : Ev X σ H a (rL rB) xs) (hc : X.calm = true := by rfl) (hg : Gl X "all" := by rfl) (he : starEach [a] X.env = (false, eval a X.env) :: starEach [] X.env := by rfl) : Ev X σ H (.Call (.Name "all" p2) [a] [] pos) rB (xs.all id) :=
  ev_cb (cr_all hc) hm (by decide +kernel) (ea_1 ha he) (fun H1 _ vs hvs Q c => by
    obtain ⟨v, rfl, a, ws, rfl, h1, h2⟩ := a1 hvs
    rw [bools_p h2] at h1
    exact ⟨a, xs, rfl, SqL.of h1, c _ H1 (Same.refl H1) rfl⟩) hg (he := he)
theorem ev_any {xs : List Bool} {p2 : Pos} (hm : X.mg "any" = none) (ha : Ev X σ H a (rL rB) xs) (hc : X.calm = true := by rfl) (hg : Gl X "any" := by rfl) (he : starEach [a] X.env = (false, eval a X.env) :: starEach [] X.env := by rfl) : Ev X σ H (.Call (.Name "any" p2) [a] [] pos) rB (xs.any id) :=
  ev_cb (cr_any hc) hm (by decide +kernel) (ea_1 ha he) (fun H1 _ vs hvs Q c => by
    obtain ⟨v, rfl, a, ws, rfl, h1, h2⟩ := a1 hvs
    rw [bools_p h2] at h1
    exact ⟨a, xs, rfl, SqL.of h1, c _ H1 (Same.refl H1) rfl⟩) hg (he := he)
theorem ev_tupL {xs : List α} {p2 : Pos} (hm : X.mg "tuple" = none) (ha : Ev X σ H a (rL r) xs) (hg : Gl X "tuple" := by rfl) (he : starEach [a] X.env = (false, eval a X.env) :: starEach [] X.env := by rfl) : Ev X σ H (.Call (.Name "tuple" p2) [a] [] pos) (rT r) xs :=
  ev_ct call_tuple_of hm (by decide +kernel) (ea_1 ha he) (fun H1 _ vs hvs Q c => by
    obtain ⟨v, rfl, a, ws, rfl, h1, h2⟩ := a1 hvs
    exact ⟨a, ws, rfl, .inl ⟨SqL.of h1, fun l hl => c _ _ (same_new hl) ⟨l, ws, rfl, upd_same, pmono (same_new hl) h2⟩⟩⟩) hg (he := he)
theorem ev_tupT {xs : List α} {p2 : Pos} (hm : X.mg "tuple" = none) (ha : Ev X σ H a (rT r) xs) (hg : Gl X "tuple" := by rfl) (he : starEach [a] X.env = (false, eval a X.env) :: starEach [] X.env := by rfl) : Ev X σ H (.Call (.Name "tuple" p2) [a] [] pos) (rT r) xs :=
  ev_ct call_tuple_of hm (by decide +kernel) (ea_1 ha he) (fun H1 _ vs hvs Q c => by
    obtain ⟨v, rfl, a, ws, rfl, h1, h2⟩ := a1 hvs
    exact ⟨a, ws, rfl, .inr ⟨SqT.of h1, c _ _ (Same.refl H1) ⟨a, ws, rfl, h1, h2⟩⟩⟩) hg (he := he)
theorem ev_lstT {xs : List α} {p2 : Pos} (hm : X.mg "list" = none) (ha : Ev X σ H a (rT r) xs) (hg : Gl X "list" := by rfl) (he : starEach [a] X.env = (false, eval a X.env) :: starEach [] X.env := by rfl) : Ev X σ H (.Call (.Name "list" p2) [a] [] pos) (rL r) xs :=
  ev_ct call_list_of hm (by decide +kernel) (ea_1 ha he) (fun H1 _ vs hvs Q c => by
    obtain ⟨v, rfl, a, ws, rfl, h1, h2⟩ := a1 hvs
    exact ⟨a, ws, rfl, .inr (SqT.of h1), fun l hl => c _ _ (same_new hl) ⟨l, ws, rfl, upd_same, pmono (same_new hl) h2⟩⟩) hg (he := he)
theorem ev_lstL {xs : List α} {p2 : Pos} (hm : X.mg "list" = none) (ha : Ev X σ H a (rL r) xs) (hg : Gl X "list" := by rfl) (he : starEach [a] X.env = (false, eval a X.env) :: starEach [] X.env := by rfl) : Ev X σ H (.Call (.Name "list" p2) [a] [] pos) (rL r) xs :=
  ev_ct call_list_of hm (by decide +kernel) (ea_1 ha he) (fun H1 _ vs hvs Q c => by
    obtain ⟨v, rfl, a, ws, rfl, h1, h2⟩ := a1 hvs
    exact ⟨a, ws, rfl, .inl (SqL.of h1), fun l hl => c _ _ (same_new hl) ⟨l, ws, rfl, upd_same, pmono (same_new hl) h2⟩⟩) hg (he := he)
theorem ev_intI {x : Int} {p2 : Pos} (hm : X.mg "int" = none) (ha : Ev X σ H a rI x) (hg : Gl X "int" := by rfl) (he : starEach [a] X.env = (false, eval a X.env) :: starEach [] X.env := by rfl) : Ev X σ H (.Call (.Name "int" p2) [a] [] pos) rI x :=
  ev_ct call_int1 hm (by decide +kernel) (ea_1 ha he) (fun H1 _ vs hvs Q c => by
    obtain ⟨v, rfl, h1⟩ := a1 hvs
    exact .inl ⟨x, congrArg (fun z => [z]) (show v = V.int x from h1), c _ H1 (Same.refl H1) rfl⟩) hg (he := he)
theorem ev_intB {x : Bool} {p2 : Pos} (hm : X.mg "int" = none) (ha : Ev X σ H a rB x) (hg : Gl X "int" := by rfl) (he : starEach [a] X.env = (false, eval a X.env) :: starEach [] X.env := by rfl) : Ev X σ H (.Call (.Name "int" p2) [a] [] pos) rI (if x then 1 else 0) :=
  ev_ct call_int1 hm (by decide +kernel) (ea_1 ha he) (fun H1 _ vs hvs Q c => by
    obtain ⟨v, rfl, h1⟩ := a1 hvs
    exact .inr ⟨x, congrArg (fun z => [z]) (show v = V.bl x from h1), c _ H1 (Same.refl H1) rfl⟩) hg (he := he)
end
end K06
/-! ==== KB0 ==== -/
set_option Elab.async false
set_option linter.all false
set_option maxRecDepth 100000
set_option maxHeartbeats 4000000
namespace K06
open PySem L2 PySem.Spec PyProof.Rows RZ
open AutoSeq1 (wpAny_loadPart')
/-! ### a tuple, taken no time or once -/
theorem tmul_one (l : Addr) (items : Array Value) (n : Nat) (dd : Option Addr) (sl : Array (Option Value)) (u : Tok) :
    Meets (Builtin.«tuple.__mul__» ⟨[.ref l, .int 1 u], []⟩) (fun _ R s => s.heap.get? l = some { cls := .type "tuple", dict := dd, data := .seq items n, slots := sl } ∧ R (.ok (.ret (Value.ref l))) s) :=
  .of_wp fun prog w A R s h => by
    obtain ⟨hp, g, d, tk, os⟩ := s
    obtain ⟨hl, h⟩ := h
    have f1 := AutoSeq1.idx_int
    have c1 : (items.isEmpty || (1 : Int) == 1) = true := by simp
    wp_walk using wpAny_loadPart' hl
    exact ⟨_, rfl, h⟩
theorem tmul_zero (l : Addr) (items : Array Value) (n : Nat) (dd : Option Addr) (sl : Array (Option Value)) (u : Tok) (c0 : items.isEmpty = false) :
    Meets (Builtin.«tuple.__mul__» ⟨[.ref l, .int 0 u], []⟩) (fun _ R s => s.heap.get? l = some { cls := .type "tuple", dict := dd, data := .seq items n, slots := sl } ∧
      R (.ok (.ret (Value.ref s.heap.objs.size))) { s with heap := s.heap.push { cls := Value.type "tuple", data := Data.seq #[] }, toks := s.toks }) :=
  .of_wp fun prog w A R s h => by
    obtain ⟨hp, g, d, tk, os⟩ := s
    obtain ⟨hl, h⟩ := h
    have f1 := AutoSeq1.idx_int
    have c1 : (items.isEmpty || (0 : Int) == 1) = false := by rw [c0]; rfl
    wp_walk using wpAny_loadPart' hl
    repeat (first
      | (refine wpAny_ite_false (decide_eq_false (by rw [c1]; exact Bool.false_ne_true)) ?_; wp_walk using wpAny_loadPart' hl)
      | (refine wpAny_ite_false (decide_eq_false (by rw [c0]; exact Bool.false_ne_true)) ?_; wp_walk using wpAny_loadPart' hl))
    exact ⟨_, rfl, h⟩
def rMul0 : R2 := fun x y H Q => ∃ l v, x = .ref l ∧ y = .int 0 ∧ H l = some (.tup [v]) ∧ ∀ p, H p = none → Q (.ref p) (upd H p (.tup []))
def rMul1 : R2 := fun x y H Q => ∃ l v, x = .ref l ∧ y = .int 1 ∧ H l = some (.tup [v]) ∧ Q (.ref l) H
section
variable {X : Cx}
theorem op_mul0 : OpR X (binaryOp .Mult) rMul0 := by
  intro pins s σ H x y v u Q I rx ry h
  obtain ⟨l, z, rfl, rfl, hT, q⟩ := h
  cases rx
  obtain ⟨t, rfl⟩ := ry
  obtain ⟨its, r, ⟨⟨cls, dd, data, sl⟩, ho, hc, n, hd⟩, hs⟩ := I.tuple (SqT.of hT)
  simp only at hc hd
  subst hc hd
  have hi : its.toArray.isEmpty = false := by
    cases its with
    | nil => cases r
    | cons a b => rfl
  refine wpAny_binaryOp_repeat_ref (T := "tuple") (U := "int") (by decide) ⟨_, ho, rfl⟩ (fun s' => typeIs_int s' 0 t) noFill_tuple_mul F.fills_int_mul F.slot_int_rmul repeat_tuple F.slot_int_index.lookup
    (call_meets F.slot_int_rmul (typeIs_int s 0 t) F.entry_int_rmul (F.args_int_rmul_2 _ _) (int_rmul_tuple 0 t l its.toArray n dd sl)
      ⟨ho, rfl, ⟨_, ho, rfl⟩, call_meets F.slot_tuple_mul ⟨_, ho, rfl⟩ F.entry_tuple_mul (F.args_tuple_mul_2 _ _) (tmul_zero l its.toArray n dd sl t hi) ⟨ho, ?_⟩⟩)
  refine ⟨.ref s.heap.objs.size, _, I.laid (t' := s.toks) (o := .tup []) (fun b ob q => Heap.get?_push_of_some _ q) (Nat.le_refl _) ?_, rfl, q _ (I.hok.fresh (Nat.le_refl _))⟩
  exact ⟨Nat.zero_le _, [], .nil, IsTup.new _ _⟩
theorem op_mul1 : OpR X (binaryOp .Mult) rMul1 := by
  intro pins s σ H x y v u Q I rx ry h
  obtain ⟨l, z, rfl, rfl, hT, q⟩ := h
  cases rx
  obtain ⟨t, rfl⟩ := ry
  obtain ⟨its, r, ⟨⟨cls, dd, data, sl⟩, ho, hc, n, hd⟩, hs⟩ := I.tuple (SqT.of hT)
  simp only at hc hd
  subst hc hd
  refine wpAny_binaryOp_repeat_ref (T := "tuple") (U := "int") (by decide) ⟨_, ho, rfl⟩ (fun s' => typeIs_int s' 1 t) noFill_tuple_mul F.fills_int_mul F.slot_int_rmul repeat_tuple F.slot_int_index.lookup
    (call_meets F.slot_int_rmul (typeIs_int s 1 t) F.entry_int_rmul (F.args_int_rmul_2 _ _) (int_rmul_tuple 1 t l its.toArray n dd sl)
      ⟨ho, rfl, ⟨_, ho, rfl⟩, call_meets F.slot_tuple_mul ⟨_, ho, rfl⟩ F.entry_tuple_mul (F.args_tuple_mul_2 _ _) (tmul_one l its.toArray n dd sl t) ⟨ho, ?_⟩⟩)
  exact ⟨.ref l, H, I, rfl, q⟩
/-- (v,) * k, k at least 0 -/
def rMulN : R2 := fun x y H Q => ∃ l v k, x = .ref l ∧ y = .int k ∧ H l = some (.tup [v]) ∧ 0 ≤ k ∧ k ≤ 1000 ∧ ∀ p H', Same H H' → H' p = some (.tup (List.replicate k.toNat v)) → Q (.ref p) H'
theorem op_mulN : OpR X (binaryOp .Mult) rMulN := by
  intro pins s σ H x y v u Q I rx ry h
  obtain ⟨l, z, k, rfl, rfl, hT, h0, h1, q⟩ := h
  by_cases e0 : k = 0
  · subst e0
    exact op_mul0 pins s σ H _ _ v u Q I rx ry ⟨l, z, rfl, rfl, hT, fun p hp => q p _ (same_new hp) upd_same⟩
  · by_cases e1 : k = 1
    · subst e1
      exact op_mul1 pins s σ H _ _ v u Q I rx ry ⟨l, z, rfl, rfl, hT, q l H (Same.refl H) hT⟩
    · refine op_repT pins s σ H _ _ v u Q I rx ry ⟨l, k, [z], rfl, rfl, SqT.of hT, List.cons_ne_nil _ _, by omega, h1, (by show 1 ≤ 1000; decide), fun p hp => q p _ (same_new hp) ?_⟩
      rw [upd_same]
      have e : ∀ m : Nat, (List.replicate m [z]).flatten = List.replicate m z := fun m => by
        induction m with
        | zero => rfl
        | succ m ih => rw [List.replicate_succ, List.flatten_cons, ih]; rfl
      rw [e]
/-- any(t), t a tuple of whole numbers -/
theorem truth_ints {prog : Program} {w : World} {A : Around} {ns : List Int} {its : List Value} (e : IntsAre its ns) :
    TruthOf prog w A (fun i v => its.toArray[i]? = some v) (fun i => ns.getD i 0 != 0) := fun i v s Q E hv hq => by
  have hv' : its[i]? = some v := by simpa using hv
  obtain ⟨n, t, rfl, hn⟩ := IntsAre.at e i v hv'
  have hg : ns.getD i 0 = n := by rw [List.getD_eq_getElem?_getD, hn] <;> rfl
  have hq' : Q (ns.getD i 0 != 0) s := hq
  rw [hg] at hq'
  exact PyProof.Rows.truthy_int hq'
def rAnyT : List V → Hp → VK → Prop := fun vs H Q => ∃ (a : Addr) (ns : List Int), vs = [V.ref a] ∧ H a = some (.tup (ns.map V.int)) ∧ Q (.bl (ns.any fun n => n != 0)) H
theorem anyR (ns : List Int) : (List.range ns.length).any (fun i => ns.getD i 0 != 0) = ns.any fun n => n != 0 := by
  induction ns with
  | nil => rfl
  | cons b bs ih =>
    rw [List.length_cons, List.range_succ_eq_map, List.any_cons, List.any_map, List.any_cons, ← ih]
    all_goals rfl
theorem cr_anyT (hc : X.calm = true) : CallR X (.builtin "any") rAnyT := by
  intro pins s σ H vs us Q I r h
  obtain ⟨a, ns, rfl, hs, q⟩ := h
  obtain ⟨its, rv, hl, _⟩ := I.tuple (SqT.of hs)
  rw [Vals.ref1 r]
  have hb := rv.ints
  have hlt : a < s.heap.objs.size := hl.lt
  refine call_any_walk (wpAny_pyIter_tuple (show s.heap.IsTuple a its.toArray from hl) ?_)
  refine ⟨_, _, _, _, _, _, _, rfl, Walks.tuple (A := X.A.in1) (I.ok.hd hc) _ a (Nat.ne_of_lt hlt) its.toArray, ⟨⟨_, Heap.get?_push_size _ rfl, rfl, rfl⟩, ?_⟩, truth_ints hb, fun h' tk hk => ?_⟩
  · obtain ⟨o, ho, hr⟩ := hl
    exact ⟨o, Heap.get?_push_of_some _ ho, hr⟩
  refine ⟨.bl _, H, I.kept fun b o eo => hk b o (fun hmem => ?_) (Heap.get?_push_of_some _ eo), ?_, q⟩
  · rcases List.mem_cons.mp hmem with e1 | hmem
    · exact absurd (e1 ▸ Heap.lt_size eo) (Nat.lt_irrefl _)
    · cases hmem
  · show Value.bool _ = Value.bool _
    rw [← anyR, List.size_toArray, ← hb.length]
end
/-! ### enumerate of a tuple -/
def ItU (a : Addr) : It :=
  ⟨fun i H => ∃ (xs : List V) (x : V), H a = some (.tup xs) ∧ xs[i]? = some x,
    fun i H v H' => ∃ T x, v = .ref T ∧ H T = none ∧ H' = upd H T (.tup [.int (i : Nat), x]) ∧ ∀ xs, H a = some (.tup xs) → xs[i]? = some x,
    fun i H => ∃ xs : List V, H a = some (.tup xs) ∧ xs.length = i⟩
theorem turn_enumU {P : Program} {w : World} {K : Fr} {elts : List Expr} {kk : Nat} {tpos : Pos} (a e it : Addr) (nea : e ≠ a) (nia : a ≠ it) :
    Turn P w K (.Tuple elts kk tpos) (ItU a) [e, it] e (fun i h => (∃ old, IsEnum h e it ((i : Nat) : Int) old) ∧ h.IsTupleIter it a i ∧ e ≠ it) where
  mem := by simp
  obj := fun i h st b hb => by
    obtain ⟨⟨old, he⟩, ⟨o, ho, hc, hd⟩, _⟩ := st
    rcases (show b = e ∨ b = it by simpa using hb) with rfl | rfl
    · exact ⟨_, he, fun v q => nomatch q⟩
    · exact ⟨o, ho, fun v q => by rw [hd] at q; cases q⟩
  keep := fun i h h' st k => by
    obtain ⟨⟨old, he⟩, hi, hne⟩ := st
    exact ⟨⟨old, k e (by simp) _ he⟩, hi.at fun o q => k it (by simp) o q, hne⟩
  item := by
    intro X hP hw hK hc i pins s σ H E I hf st hg
    subst hP hw hK
    obtain ⟨⟨old, he⟩, hit, hne⟩ := st
    obtain ⟨xs, x, hq, hx⟩ := hg
    obtain ⟨its, rv, p, hz⟩ := I.tuple (SqT.of hq)
    obtain ⟨u, hu, ru⟩ := rv.get hx
    have hel : e < s.heap.objs.size := Heap.lt_size he
    have hil : it < s.heap.objs.size := by
      obtain ⟨_, q, _⟩ := hit
      exact Heap.lt_size q
    have hlt : i < its.toArray.size := by
      have := (List.getElem?_eq_some_iff.mp hu).1
      simpa using this
    refine wpAny_pyNext_enum_itemD (Draws.tuple (A := X.A.in1) (I.ok.hd hc) it a nia its.toArray) he ⟨hit, p⟩ hlt hne (by simp [hne, nea]) fun x' h' tk hPx ho hit' hT hsz hk => ?_
    have ex : x' = u := by
      have h1 : its.toArray[i]? = some x' := hPx
      have h2 : its[i]? = some x' := by simpa using h1
      rw [hu] at h2
      exact (Option.some.inj h2).symm
    subst ex
    refine ⟨_, rfl, wpAny_letOwnedTupleGo_enum (s := { s with heap := h', toks := tk + 1 }) ho fun h'' he' sb => ?_⟩
    have hT2 : h''.get? s.heap.objs.size = some { cls := .type "tuple", data := .seq #[.int i tk, x'] } := (sb.2 _ (Nat.ne_of_gt hel)).trans hT
    have new : ObjOk X.prog X.w (upd H s.heap.objs.size (.tup [.int (i : Nat), x])) h'' s.heap.objs.size (.tup [.int (i : Nat), x]) :=
      ⟨by show 2 ≤ sizeLine; decide, [.int i tk, x'], .cons ⟨_, rfl⟩ (.cons ru .nil), ⟨_, hT2, rfl, _, rfl⟩⟩
    have I1 : Inv X pins σ (upd H s.heap.objs.size (.tup [.int (i : Nat), x])) { s with heap := h'', toks := tk + 1 } :=
      I.turnedNew (ch := [e, it]) (fun b ob hb q => (sb.2 b (fun z => hb (by simp [z]))).trans (hk b ob (fun z => hb (by simp [z])) (fun z => hb (by simp [z])) q)) hf (Nat.le_refl _) new
    refine ⟨.ref s.heap.objs.size, _, I1, rfl, ⟨_, x, rfl, I.hok.fresh (Nat.le_refl _), rfl, fun ys hy => ?_⟩, ⟨⟨x', ?_⟩, hit'.1.at fun o q => (sb.2 it (Ne.symm hne)).trans q, hne⟩, fun b hb => ?_⟩
    · rw [hq] at hy
      cases hy
      exact hx
    · have e1 : ((i + 1 : Nat) : Int) = (i : Int) + 1 := by omega
      rw [e1]
      exact he'
    · have hb' : b < s.heap.objs.size := by
        rcases (show b = e ∨ b = it by simpa using hb) with rfl | rfl
        · exact hel
        · exact hil
      rw [upd_ne (Nat.ne_of_lt hb')]
      exact (hf b hb).1
  done := by
    intro X hP hw hK hc i pins s σ H E I hf st hg
    subst hP hw hK
    obtain ⟨⟨old, he⟩, hit, hne⟩ := st
    obtain ⟨xs, hq, hx⟩ := hg
    obtain ⟨its, rv, p, hz⟩ := I.tuple (SqT.of hq)
    obtain ⟨f0, f1, f2, f3, f4, f5⟩ := hf it (by simp)
    have hn : its.toArray.size = i := by
      rw [List.size_toArray, ← rv.length]
      exact hx
    subst hn
    exact wpAny_pyNext_enum_endD (Draws.tuple (A := X.A.in1) (I.ok.hd hc) it a nia its.toArray) he ⟨hit, p⟩ fun h' eb => ⟨rfl, I.turned (t' := s.toks) (fun b o hb q => eb b o hb q) f0 f1 f3 f4 f5⟩
  self := fun A i s Q E st h => by
    obtain ⟨⟨_, he⟩, _⟩ := st
    exact wpAny_pyIter_enum he h
set_option maxHeartbeats 1000000 in
theorem meets_enumU (t : Addr) (items : Array Value) :
    Meets (Builtin.«enumerate.__new__» ⟨[.type "enumerate", .ref t], []⟩) (fun _ R s => s.heap.IsTuple t items ∧
      R (.ok (.ret (.ref (s.heap.push { cls := .type "tuple_iterator", data := .fields #[.ref t, .int 0 0] }).objs.size)))
        { s with heap := (s.heap.push { cls := .type "tuple_iterator", data := .fields #[.ref t, .int 0 0] }).push { cls := .type "enumerate", data := .fields #[.none, .bool false, .ref s.heap.objs.size, rawInt 0, .none, .none] } }) :=
  .of_wp fun prog w A R s h => by
    obtain ⟨hp, g, d, tk, os⟩ := s
    obtain ⟨h1, h⟩ := h
    have hsub := sub_enumerate
    have q1 : ∀ {A' : Around} {E : Value → Shared → Prop} {Q : Value → Shared → Prop}, Q (.ref hp.objs.size) ⟨hp.push { cls := .type "tuple_iterator", data := .fields #[.ref t, .int 0 0] }, g, d, tk, os⟩ → wpAny (model prog w) A' (pyIter (.ref t)) Q E ⟨hp, g, d, tk, os⟩ :=
      fun q => wpAny_pyIter_tuple (s := ⟨hp, g, d, tk, os⟩) h1 q
    wp_walk using q1
    refine wpAny_stack_any fun st => wpAny_pure ?_
    split
    · rename_i c _ _ _ _ _
      cases (c == Value.type "enumerate")
      · wp_walk using q1
        exact ⟨_, rfl, h⟩
      · wp_walk using q1
        exact ⟨_, rfl, h⟩
    · wp_walk using q1
      exact ⟨_, rfl, h⟩
theorem call_enumU {prog : Program} {w : World} {A : Around} {E : Value → Shared → Prop} {s : Shared} {t : Addr} {items : Array Value} {Q : Value → Shared → Prop} (hT : s.heap.IsTuple t items)
    (h : ∀ h', IsEnum h' (s.heap.objs.size + 1) s.heap.objs.size 0 .none → h'.IsTupleIter s.heap.objs.size t 0 →
      (∀ b o, s.heap.get? b = some o → h'.get? b = some o) → Q (.ref (s.heap.objs.size + 1)) { s with heap := h' }) :
    wpAny (model prog w) A (call (.type "enumerate") [.ref t]) Q E s := by
  refine callType_new F.called_enumerate (by decide) (F.typeCall_enumerate_1 _) (F.newCall_enumerate_1 _) (fun obj => F.args_object_init_2 obj _) F.entry_enumerate_new (meets_enumU t items) ⟨hT, ?_⟩
  have hz : (s.heap.push { cls := .type "tuple_iterator", data := .fields #[.ref t, .int 0 0] }).objs.size = s.heap.objs.size + 1 := Heap.size_push ..
  show _ ∧ _
  rw [hz]
  have he : IsEnum ((s.heap.push { cls := .type "tuple_iterator", data := .fields #[.ref t, .int 0 0] }).push
      { cls := .type "enumerate", data := .fields #[.none, .bool false, .ref s.heap.objs.size, rawInt 0, .none, .none] }) (s.heap.objs.size + 1) s.heap.objs.size 0 .none := by
    have q := Heap.get?_push_size (s.heap.push { cls := .type "tuple_iterator", data := .fields #[.ref t, .int 0 0] })
      (o := { cls := .type "enumerate", data := .fields #[.none, .bool false, .ref s.heap.objs.size, rawInt 0, .none, .none] }) rfl
    rw [hz] at q
    exact q
  exact ⟨⟨_, he, rfl⟩, h _ he ⟨_, Heap.get?_push_of_some _ (Heap.get?_push_size _ rfl), rfl, rfl⟩ fun b o x => Heap.get?_push_of_some _ (Heap.get?_push_of_some _ x)⟩
def iEnumU (ta : TA) : TI := fun σ H R => ta σ H fun vs H1 => ∃ a xs, vs = [.ref a] ∧ H1 a = some (.tup xs) ∧ R (ItU a) H1
theorem pi_enumU {X : Cx} {e : Expr} {ta : TA} {p pos tpos : Pos} {elts : List Expr} {kk : Nat} (hg : Gl X "enumerate") (hm : X.mg "enumerate" = none) (ha : PA X [e] ta) (hs : starEach [e] X.env = [(false, eval e X.env)] := by rfl) :
    PI X (.Tuple elts kk tpos) (.Call (.Name "enumerate" p) [e] [] pos) (iEnumU ta) := by
  refine ⟨fun pins s σ H R I h => ?_⟩
  refine Call_ (ld_blt I hg hm boot_enumerate (PyProof.Rows.callWith_type1 (thn (ha.run pos pins s σ H _ I h) fun us s1 ⟨vs, H1, I1, r1, q1⟩ => ?_) hs rfl))
  obtain ⟨a, xs, ex, hq, q⟩ := q1
  subst ex
  cases r1 with
  | cons r rr =>
    cases rr
    cases r
    obtain ⟨its, rv, p', hz⟩ := I1.tuple (SqT.of hq)
    have hal : a < s1.heap.objs.size := p'.lt
    refine call_enumU (show s1.heap.IsTuple a its.toArray from p') fun h' he hit hk => wpAny_pyIter_enum he ?_
    have I2 : Inv X pins σ H1 { s1 with heap := h' } := I1.kept (t' := s1.toks) hk
    have n1 : s1.heap.objs.size + 1 ≠ a := by
      intro z
      rw [← z] at hal
      exact absurd hal (by simp)
    refine ⟨s1.heap.objs.size + 1, [s1.heap.objs.size + 1, s1.heap.objs.size], _, _, H1, rfl, I2, turn_enumU a (s1.heap.objs.size + 1) s1.heap.objs.size n1 (Nat.ne_of_lt hal), ⟨⟨.none, he⟩, hit, Nat.succ_ne_self _⟩, fun b hb => ?_, q⟩
    have hle : s1.heap.objs.size ≤ b := by
      rcases (show b = s1.heap.objs.size + 1 ∨ b = s1.heap.objs.size by simpa using hb) with z | z
      · rw [z]; exact Nat.le_add_right _ _
      · rw [z]; exact Nat.le_refl _
    exact I1.fpOk hle (I1.hok.fresh hle)
theorem walk_enumU {a : Addr} {xs : List V} : Walk (ItU a) xs.length (fun H => H a = some (.tup xs)) (YPair (fun i => some (.int (i : Nat))) (fun i => xs[i]?)) := by
  refine ⟨fun i _ hi q => ⟨xs, xs[i], q, by simp [hi]⟩, fun _ q => ⟨xs, q, rfl⟩, fun i H v H' _ q y => ?_⟩
  obtain ⟨T, x, h1, h2, h3, h4⟩ := y
  exact ⟨T, .int (i : Nat), x, h1, h2, h3, rfl, h4 xs q⟩
theorem walk_zipT {K : Fr} {a b : Addr} {xs ys : List V} {n : Nat} (hn : n = min xs.length ys.length) : Walk (ItzT K a b) n (fun H => SqT K H a xs ∧ SqT K H b ys) (YPair (fun i => xs[i]?) (fun i => ys[i]?)) := by
  subst hn
  refine ⟨fun i _ hi q => ?_, fun _ q => ⟨xs, ys, q.1, q.2, by omega⟩, fun i H v H' _ q y => ?_⟩
  · have h1 : i < xs.length := by omega
    have h2 : i < ys.length := by omega
    exact ⟨xs, ys, xs[i], ys[i], q.1, q.2, by simp [h1], by simp [h2]⟩
  · obtain ⟨T, x, z, h1, h2, h3, h4, h5⟩ := y
    exact ⟨T, x, z, h1, h2, h3, h4 xs q.1, h5 ys q.2⟩
end K06
/-! ==== KB ==== -/
set_option Elab.async false
set_option linter.all false
set_option maxRecDepth 100000
set_option maxHeartbeats 4000000
namespace K06
open PySem L2 PySem.Spec PyProof.Rows RZ

/-! ### pairs of lists -/
section
variable {α β γ : Type} {F : V → α → Prop} {G : V → β → Prop}
theorem pr_get : ∀ {vs : List V} {xs : List α} {j : Nat} {x : α}, Paired F vs xs → xs[j]? = some x → ∃ v, vs[j]? = some v ∧ F v x
  | _, _, _, _, .nil, h => by simp at h
  | _, _, 0, _, .cons r _, h => by
    have e := Option.some.inj h
    subst e
    exact ⟨_, rfl, r⟩
  | _, _, j + 1, x, .cons _ t, h => pr_get (j := j) (x := x) t (by simpa using h)
theorem pr_getV : ∀ {vs : List V} {xs : List α} {j : Nat} {v : V}, Paired F vs xs → vs[j]? = some v → ∃ x, xs[j]? = some x ∧ F v x
  | _, _, _, _, .nil, h => by simp at h
  | _, _, 0, _, .cons r _, h => by
    have e := Option.some.inj h
    subst e
    exact ⟨_, rfl, r⟩
  | _, _, j + 1, v, .cons _ t, h => pr_getV (j := j) (v := v) t (by simpa using h)
theorem pr_app : ∀ {vs ws : List V} {xs ys : List α}, Paired F vs xs → Paired F ws ys → Paired F (vs ++ ws) (xs ++ ys)
  | _, _, _, _, .nil, h => h
  | _, _, _, _, .cons r t, h => .cons r (pr_app t h)
theorem pr_take : ∀ {vs : List V} {xs : List α} (n : Nat), Paired F vs xs → Paired F (vs.take n) (xs.take n)
  | _, _, 0, _ => .nil
  | _, _, _ + 1, .nil => .nil
  | _, _, n + 1, .cons r t => .cons r (pr_take n t)
theorem pr_drop : ∀ {vs : List V} {xs : List α} (n : Nat), Paired F vs xs → Paired F (vs.drop n) (xs.drop n)
  | _, _, 0, h => h
  | _, _, _ + 1, .nil => .nil
  | _, _, n + 1, .cons _ t => pr_drop n t
theorem pr_rep {v : V} {x : α} (h : F v x) : ∀ n, Paired F (List.replicate n v) (List.replicate n x)
  | 0 => .nil
  | n + 1 => .cons h (pr_rep h n)
end
/-- what is said of a value does not hang on the items of a list -/
class Fz {α : Type} (r : Rp α) : Prop where
  fz : ∀ {K : Fr} {H : Hp} {D : Addr} {zs zs' : List V} {v : V} {x : α}, H D = some (.lst zs) → r.rel K H v x → r.rel K (upd H D (.lst zs')) v x
theorem fz_p {α : Type} {r : Rp α} [Fz r] {K : Fr} {H : Hp} {D : Addr} {zs zs' vs : List V} {xs : List α} (hD : H D = some (.lst zs)) (h : Paired (r.rel K H) vs xs) : Paired (r.rel K (upd H D (.lst zs'))) vs xs := Paired.mapP h fun _ _ q => Fz.fz hD q
theorem fz_tup {H : Hp} {D a : Addr} {zs zs' vs : List V} (hD : H D = some (.lst zs)) (h : H a = some (.tup vs)) : (upd H D (.lst zs')) a = some (.tup vs) := by
  rw [upd_ne (ne_of h hD (by intro q; cases q))]
  exact h
instance : Fz rI := ⟨fun _ h => h⟩
instance : Fz rB := ⟨fun _ h => h⟩
instance {z : V} : Fz (rV z) := ⟨fun _ h => h⟩
instance {α : Type} {r : Rp α} [Fz r] : Fz (rT r) := ⟨fun hD h => by
  obtain ⟨a, vs, h1, h2, h3⟩ := h
  exact ⟨a, vs, h1, fz_tup hD h2, fz_p hD h3⟩⟩
instance {α β : Type} {r : Rp α} {q : Rp β} [Fz r] [Fz q] : Fz (r2 r q) := ⟨fun hD h => by
  obtain ⟨a, u, w, h1, h2, h3, h4⟩ := h
  exact ⟨a, u, w, h1, fz_tup hD h2, Fz.fz hD h3, Fz.fz hD h4⟩⟩
instance {α β γ : Type} {r : Rp α} {q : Rp β} {p : Rp γ} [Fz r] [Fz q] [Fz p] : Fz (r3 r q p) := ⟨fun hD h => by
  obtain ⟨a, u, w, z, h1, h2, h3, h4, h5⟩ := h
  exact ⟨a, u, w, z, h1, fz_tup hD h2, Fz.fz hD h3, Fz.fz hD h4, Fz.fz hD h5⟩⟩
instance {α : Type} {r : Rp α} [Fz r] : Fz (rO r) := ⟨fun {K H D zs zs' v x} hD h => by
  cases x with
  | none => exact h
  | some y => exact ⟨h.1, Fz.fz hD h.2⟩⟩

section
variable {X : Cx} {σ : L2.St} {H H' : Hp} {α β γ δ : Type} {r : Rp α} {q : Rp β} {p : Rp γ} {pos : Pos} {e a b : Expr}
/-! ### displays -/
theorem ev_2 {k : Nat} {x : α} {y : β} (ha : Ev X σ H a r x) (hb : Ev X σ H b q y) (hs : starEach [a, b] X.env = (false, eval a X.env) :: starEach [b] X.env := by rfl) (hs2 : starEach [b] X.env = (false, eval b X.env) :: starEach [] X.env := by rfl) : Ev X σ H (.Tuple [a, b] k pos) (r2 r q) (x, y) :=
  ev_of (pe_tup cA_pa) fun H1 s Q c => ea_c ha (ea_1 hb hs2) hs H1 s _ fun vs H2 s2 hvs => by
    obtain ⟨v, w, rfl, h1, h2⟩ := a2 hvs
    exact ⟨by show 2 ≤ sizeLine; decide, fun l hl => c _ _ (s2.trans (same_new hl)) ⟨l, v, w, rfl, upd_same, r.mono (same_new hl) h1, q.mono (same_new hl) h2⟩⟩
theorem ev_3 {k : Nat} {d : Expr} {x : α} {y : β} {z : γ} (ha : Ev X σ H a r x) (hb : Ev X σ H b q y) (hd : Ev X σ H d p z) (hs : starEach [a, b, d] X.env = (false, eval a X.env) :: starEach [b, d] X.env := by rfl) (hs2 : starEach [b, d] X.env = (false, eval b X.env) :: starEach [d] X.env := by rfl)
    (hs3 : starEach [d] X.env = (false, eval d X.env) :: starEach [] X.env := by rfl) : Ev X σ H (.Tuple [a, b, d] k pos) (r3 r q p) (x, y, z) :=
  ev_of (pe_tup cA_pa) fun H1 s Q c => ea_c ha (ea_c hb (ea_1 hd hs3) hs2) hs H1 s _ fun vs H2 s2 hvs => by
    obtain ⟨u, ws, rfl, h1, h2⟩ := hvs
    obtain ⟨v, w, rfl, h3, h4⟩ := a2 h2
    exact ⟨by show 3 ≤ sizeLine; decide, fun l hl => c _ _ (s2.trans (same_new hl)) ⟨l, u, v, w, rfl, upd_same, r.mono (same_new hl) h1, q.mono (same_new hl) h3, p.mono (same_new hl) h4⟩⟩
/-- a tuple of one, as a row -/
theorem ev_T1 {k : Nat} {x : α} (ha : Ev X σ H a r x) (hs : starEach [a] X.env = (false, eval a X.env) :: starEach [] X.env := by rfl) : Ev X σ H (.Tuple [a] k pos) (rT r) [x] :=
  ev_of (pe_tup cA_pa) fun H1 s Q c => ea_1 ha hs H1 s _ fun vs H2 s2 hvs => by
    obtain ⟨v, rfl, h1⟩ := a1 hvs
    exact ⟨by show 1 ≤ sizeLine; decide, fun l hl => c _ _ (s2.trans (same_new hl)) ⟨l, [v], rfl, upd_same, .cons (r.mono (same_new hl) h1) .nil⟩⟩
theorem ev_L0 : Ev X σ H (.List [] pos) (rL r) [] :=
  ev_of (pe_lst pa_nil) fun H1 s Q c => ⟨Nat.zero_le _, fun l hl => c _ _ (same_new hl) ⟨l, [], rfl, upd_same, .nil⟩⟩
theorem ev_L1 {x : α} (ha : Ev X σ H a r x) (hs : starEach [a] X.env = (false, eval a X.env) :: starEach [] X.env := by rfl) : Ev X σ H (.List [a] pos) (rL r) [x] :=
  ev_of (pe_lst cA_pa) fun H1 s Q c => ea_1 ha hs H1 s _ fun vs H2 s2 hvs => by
    obtain ⟨v, rfl, h1⟩ := a1 hvs
    exact ⟨by show 1 ≤ sizeLine; decide, fun l hl => c _ _ (s2.trans (same_new hl)) ⟨l, [v], rfl, upd_same, .cons (r.mono (same_new hl) h1) .nil⟩⟩
/-! ### items, slices, sums of lists -/
theorem ev_ixT {xs : List α} {j : Nat} {x : α} (ha : Ev X σ H a (rT r) xs) (hb : Ev X σ H b rI (j : Int)) (hx : xs[j]? = some x) (hs : PlainIx b := by exact fun _ _ => rfl) : Ev X σ H (.Subscript a b pos) r x :=
  ev_of (pe_ix ix_tup cE_pe cE_pe hs) fun H1 s Q c => ha H1 s _ fun v H2 s2 hv => hb H2 (s.trans s2) _ fun w H3 s3 hw => by
    obtain ⟨l, ws, rfl, h1, h2⟩ := (rT r).mono s3 hv
    obtain ⟨u, h3, h4⟩ := pr_get h2 hx
    exact ⟨l, ws, (j : Int), u, rfl, hw, SqT.of h1, atI_nat h3, c u H3 (s2.trans s3) h4⟩
theorem ev_ixL {xs : List α} {j : Nat} {x : α} (ha : Ev X σ H a (rL r) xs) (hb : Ev X σ H b rI (j : Int)) (hx : xs[j]? = some x) (hs : PlainIx b := by exact fun _ _ => rfl) : Ev X σ H (.Subscript a b pos) r x :=
  ev_of (pe_ix ix_list cE_pe cE_pe hs) fun H1 s Q c => ha H1 s _ fun v H2 s2 hv => hb H2 (s.trans s2) _ fun w H3 s3 hw => by
    obtain ⟨l, ws, rfl, h1, h2⟩ := (rL r).mono s3 hv
    obtain ⟨u, h3, h4⟩ := pr_get h2 hx
    exact ⟨l, ws, (j : Int), u, rfl, hw, SqL.of h1, atI_nat h3, c u H3 (s2.trans s3) h4⟩
/-- the parts of pairs and triples, by written numbers -/
theorem ev_p0 {x : α × β} {k : Nat} {p2 : Pos} (ha : Ev X σ H a (r2 r q) x) (hs : PlainIx (.Constant (.int 0) k p2) := by exact fun _ _ => rfl) : Ev X σ H (.Subscript a (.Constant (.int 0) k p2) pos) r x.1 :=
  ev_of (pe_ix ix_tup cE_pe pe_int hs) fun H1 s Q c => ha H1 s _ fun v H2 s2 hv => by
    obtain ⟨l, u, w, rfl, h1, h2, h3⟩ := hv
    exact ⟨l, [u, w], 0, u, rfl, rfl, SqT.of h1, atI_nat (j := 0) rfl, c u H2 s2 h2⟩
theorem ev_p1 {x : α × β} {k : Nat} {p2 : Pos} (ha : Ev X σ H a (r2 r q) x) (hs : PlainIx (.Constant (.int 1) k p2) := by exact fun _ _ => rfl) : Ev X σ H (.Subscript a (.Constant (.int 1) k p2) pos) q x.2 :=
  ev_of (pe_ix ix_tup cE_pe pe_int hs) fun H1 s Q c => ha H1 s _ fun v H2 s2 hv => by
    obtain ⟨l, u, w, rfl, h1, h2, h3⟩ := hv
    exact ⟨l, [u, w], 1, w, rfl, rfl, SqT.of h1, atI_nat (j := 1) rfl, c w H2 s2 h3⟩
theorem ev_t0 {x : α × β × γ} {k : Nat} {p2 : Pos} (ha : Ev X σ H a (r3 r q p) x) (hs : PlainIx (.Constant (.int 0) k p2) := by exact fun _ _ => rfl) : Ev X σ H (.Subscript a (.Constant (.int 0) k p2) pos) r x.1 :=
  ev_of (pe_ix ix_tup cE_pe pe_int hs) fun H1 s Q c => ha H1 s _ fun v H2 s2 hv => by
    obtain ⟨l, u, w, z, rfl, h1, h2, h3, h4⟩ := hv
    exact ⟨l, [u, w, z], 0, u, rfl, rfl, SqT.of h1, atI_nat (j := 0) rfl, c u H2 s2 h2⟩
theorem ev_t1 {x : α × β × γ} {k : Nat} {p2 : Pos} (ha : Ev X σ H a (r3 r q p) x) (hs : PlainIx (.Constant (.int 1) k p2) := by exact fun _ _ => rfl) : Ev X σ H (.Subscript a (.Constant (.int 1) k p2) pos) q x.2.1 :=
  ev_of (pe_ix ix_tup cE_pe pe_int hs) fun H1 s Q c => ha H1 s _ fun v H2 s2 hv => by
    obtain ⟨l, u, w, z, rfl, h1, h2, h3, h4⟩ := hv
    exact ⟨l, [u, w, z], 1, w, rfl, rfl, SqT.of h1, atI_nat (j := 1) rfl, c w H2 s2 h3⟩
theorem ev_t2 {x : α × β × γ} {k : Nat} {p2 : Pos} (ha : Ev X σ H a (r3 r q p) x) (hs : PlainIx (.Constant (.int 2) k p2) := by exact fun _ _ => rfl) : Ev X σ H (.Subscript a (.Constant (.int 2) k p2) pos) p x.2.2 :=
  ev_of (pe_ix ix_tup cE_pe pe_int hs) fun H1 s Q c => ha H1 s _ fun v H2 s2 hv => by
    obtain ⟨l, u, w, z, rfl, h1, h2, h3, h4⟩ := hv
    exact ⟨l, [u, w, z], 2, z, rfl, rfl, SqT.of h1, atI_nat (j := 2) rfl, c z H2 s2 h4⟩
theorem cut_from (vs : List V) (j : Nat) : cutV vs (some (j : Int)) none = vs.drop j := by
  unfold cutV
  rw [HT.sIx_nat, HT.sIx_none]
  rcases Nat.lt_or_ge j vs.length with h | h
  · rw [Nat.min_eq_left (Nat.le_of_lt h)]
    exact List.take_of_length_le (by rw [List.length_drop]; exact Nat.le_refl _)
  · rw [Nat.min_eq_right h, List.drop_of_length_le (Nat.le_refl _), List.drop_of_length_le h]
    exact List.take_nil
theorem cut_to (vs : List V) (j : Nat) : cutV vs none (some (j : Int)) = vs.take j := by
  unfold cutV
  rw [HT.sIx_nat, HT.sIx_none]
  rcases Nat.lt_or_ge j vs.length with h | h
  · rw [Nat.min_eq_left (Nat.le_of_lt h)]
    rfl
  · rw [Nat.min_eq_right h, Nat.sub_zero, List.take_of_length_le (by rw [List.drop_zero]; exact Nat.le_refl _), List.take_of_length_le h]
    rfl
theorem ev_from {xs : List α} {j : Nat} {p2 : Pos} (ha : Ev X σ H a (rL r) xs) (hb : Ev X σ H b rI (j : Int)) : Ev X σ H (.Subscript a (.Slice (some b) none none p2) pos) (rL r) (xs.drop j) :=
  ev_of (pe_slice sl_list cE_pe (po_some cE_pe) po_none) fun H1 s Q c => ha H1 s _ fun v H2 s2 hv => hb H2 (s.trans s2) _ fun w H3 s3 hw => by
    obtain ⟨l, ws, rfl, h1, h2⟩ := (rL r).mono s3 hv
    exact ⟨(j : Int), hw, l, ws, rfl, SqL.of h1, fun z hz => c _ _ ((s2.trans s3).trans (same_new hz)) ⟨z, _, rfl, upd_same, by rw [cut_from]; exact pmono (same_new hz) (pr_drop j h2)⟩⟩
theorem ev_to {xs : List α} {j : Nat} {p2 : Pos} (ha : Ev X σ H a (rL r) xs) (hb : Ev X σ H b rI (j : Int)) : Ev X σ H (.Subscript a (.Slice none (some b) none p2) pos) (rL r) (xs.take j) :=
  ev_of (pe_slice sl_list cE_pe po_none (po_some cE_pe)) fun H1 s Q c => ha H1 s _ fun v H2 s2 hv => hb H2 (s.trans s2) _ fun w H3 s3 hw => by
    obtain ⟨l, ws, rfl, h1, h2⟩ := (rL r).mono s3 hv
    exact ⟨(j : Int), hw, l, ws, rfl, SqL.of h1, fun z hz => c _ _ ((s2.trans s3).trans (same_new hz)) ⟨z, _, rfl, upd_same, by rw [cut_to]; exact pmono (same_new hz) (pr_take j h2)⟩⟩
theorem sz100 {n : Nat} (h : n ≤ 100000) : n ≤ sizeLine := Nat.le_trans h (by decide)
theorem ev_cat {xs ys : List α} (ha : Ev X σ H a (rL r) xs) (hb : Ev X σ H b (rL r) ys) (hz : xs.length + ys.length ≤ 100000) : Ev X σ H (.BinOp a .Add b pos) (rL r) (xs ++ ys) :=
  ev_op2 op_cat ha hb fun H1 _ u w hu hw _ c => by
    obtain ⟨l, vs, rfl, h1, h2⟩ := hu
    obtain ⟨m, ws, rfl, h3, h4⟩ := hw
    exact ⟨l, m, vs, ws, rfl, rfl, h1, h3, by rw [h2.length, h4.length]; exact sz100 hz, fun z hz => c _ _ (same_new hz) ⟨z, _, rfl, upd_same, pmono (same_new hz) (pr_app h2 h4)⟩⟩
theorem ev_catT {xs ys : List α} (ha : Ev X σ H a (rT r) xs) (hb : Ev X σ H b (rT r) ys) (hz : xs.length + ys.length ≤ 100000) : Ev X σ H (.BinOp a .Add b pos) (rT r) (xs ++ ys) :=
  ev_op2 op_catA ha hb fun H1 _ u w hu hw _ c => by
    obtain ⟨l, vs, rfl, h1, h2⟩ := hu
    obtain ⟨m, ws, rfl, h3, h4⟩ := hw
    refine ⟨l, m, vs, ws, rfl, rfl, SqT.of h1, SqT.of h3, by rw [h2.length, h4.length]; exact sz100 hz, fun e => ?_, fun _ e => ?_, fun _ _ z hz => c _ _ (same_new hz) ⟨z, _, rfl, upd_same, pmono (same_new hz) (pr_app h2 h4)⟩⟩
    · subst e
      cases h2
      exact c _ _ (Same.refl H1) ⟨m, ws, rfl, h3, h4⟩
    · subst e
      cases h4
      rw [List.append_nil] at c
      exact c _ _ (Same.refl H1) ⟨l, vs, rfl, h1, h2⟩
theorem rep_flat {α : Type} (x : α) : ∀ m : Nat, (List.replicate m [x]).flatten = List.replicate m x
  | 0 => rfl
  | m + 1 => by rw [List.replicate_succ, List.flatten_cons, rep_flat x m]; rfl
/-- [x] * k -/
theorem ev_repL {x : α} {k : Int} (ha : Ev X σ H a (rL r) [x]) (hb : Ev X σ H b rI k) (h0 : -1000 ≤ k ∧ k ≤ 1000) : Ev X σ H (.BinOp a .Mult b pos) (rL r) (List.replicate k.toNat x) :=
  ev_op2 op_rep ha hb fun H1 _ u w hu hw _ c => by
    obtain ⟨l, vs, rfl, h1, h2⟩ := hu
    cases h2 with
    | cons h2 t =>
      cases t
      refine ⟨l, k, _, rfl, hw, h1, by omega, by omega, ?_, fun z hz => c _ _ (same_new hz) ⟨z, _, rfl, upd_same, ?_⟩⟩
      · exact sz100 (by rw [List.length_singleton]; omega)
      · rw [rep_flat]
        exact pr_rep (r.mono (same_new hz) h2) _
/-- (x,) * k -/
theorem ev_repT {x : α} {k : Int} (ha : Ev X σ H a (rT r) [x]) (hb : Ev X σ H b rI k) (h0 : 0 ≤ k ∧ k ≤ 1000) : Ev X σ H (.BinOp a .Mult b pos) (rT r) (List.replicate k.toNat x) :=
  ev_op2 op_mulN ha hb fun H1 _ u w hu hw _ c => by
    obtain ⟨l, vs, rfl, h1, h2⟩ := hu
    cases h2 with
    | cons h2 t =>
      cases t
      exact ⟨l, _, k, rfl, hw, h1, h0.1, h0.2, fun p H2 s2 hp => c _ _ s2 ⟨p, _, rfl, hp, pr_rep (r.mono s2 h2) _⟩⟩
/-- any(t), a row of whole numbers -/
theorem ev_anyT {xs : List Int} {p2 : Pos} (hm : X.mg "any" = none) (ha : Ev X σ H a (rT rI) xs) (hc : X.calm = true := by rfl) (hg : Gl X "any" := by rfl) (he : starEach [a] X.env = (false, eval a X.env) :: starEach [] X.env := by rfl) : Ev X σ H (.Call (.Name "any" p2) [a] [] pos) rB (xs.any fun n => n != 0) :=
  ev_cb (cr_anyT hc) hm (by decide +kernel) (ea_1 ha he) (fun H1 _ vs hvs Q c => by
    obtain ⟨v, rfl, a, ws, rfl, h1, h2⟩ := a1 hvs
    rw [ints_p h2] at h1
    exact ⟨a, xs, rfl, h1, c _ H1 (Same.refl H1) rfl⟩) hg (he := he)
theorem ev_max0 {x y : Int} {p2 : Pos} (hm : X.mg "max" = none) (ha : Ev X σ H a rI x) (hb : Ev X σ H b rI y) (hc : X.calm = true := by rfl) (hg : Gl X "max" := by rfl) (hs : starEach [a, b] X.env = (false, eval a X.env) :: starEach [b] X.env := by rfl) (hs2 : starEach [b] X.env = (false, eval b X.env) :: starEach [] X.env := by rfl)
    (hpl : (backTo pos (starEach [b] X.env)).any (·.1) = false := by rfl) : Ev X σ H (.Call (.Name "max" p2) [a, b] [] pos) rI (if y > x then y else x) :=
  ev_cb (call_max2 hc) hm (by decide +kernel) (ea_c ha (ea_1 hb hs2) hs) (fun H1 _ vs hvs Q c => by
    obtain ⟨v, w, rfl, h1, h2⟩ := a2 hvs
    exact ⟨x, y, by rw [show v = V.int x from h1, show w = V.int y from h2], c _ H1 (Same.refl H1) rfl⟩) hg (he := hs) (hpl := hpl)
theorem ev_abs {x : Int} {p2 : Pos} (hm : X.mg "abs" = none) (ha : Ev X σ H a rI x) (hg : Gl X "abs" := by rfl) (he : starEach [a] X.env = (false, eval a X.env) :: starEach [] X.env := by rfl) : Ev X σ H (.Call (.Name "abs" p2) [a] [] pos) rI (if x < 0 then -x else x) :=
  ev_cb call_abs hm (by decide +kernel) (ea_1 ha he) (fun H1 _ vs hvs Q c => by
    obtain ⟨v, rfl, h1⟩ := a1 hvs
    exact ⟨x, congrArg (fun z => [z]) (show v = V.int x from h1), c _ H1 (Same.refl H1) rfl⟩) hg (he := he)
theorem ev_pow {x y : Int} (ha : Ev X σ H a rI x) (hb : Ev X σ H b rI y) (hx : 0 ≤ y ∧ y ≤ 1000000 ∧ x.natAbs < 2 ^ 64) : Ev X σ H (.BinOp a .Pow b pos) rI (x ^ y.toNat) := ev_op2 op_pow ha hb fun H1 _ _ _ hu hw _ c => ⟨x, y, hu, hw, hx, c _ H1 (Same.refl H1) rfl⟩
/-- x in xs, of whole numbers -/
theorem inv_ints (x : Int) : ∀ xs : List Int, inV (.int x) (xs.map V.int) = xs.any fun y => y == x
  | [] => rfl
  | y :: ys => by
    have ih := inv_ints x ys
    unfold inV at ih ⊢
    rw [List.map_cons, List.any_cons, List.any_cons, ih]
    rfl
theorem flat_ints : ∀ xs : List Int, (xs.map V.int).all flatV = true
  | [] => rfl
  | y :: ys => by
    rw [List.map_cons, List.all_cons, flat_ints ys]
    rfl
end
end K06
namespace K06
open PySem L2 PySem.Spec PyProof.Rows RZ
theorem ev_neg {X : Cx} {σ : L2.St} {H : Hp} {a : Expr} {pos : Pos} {x : Int} (ha : Ev X σ H a rI x) : Ev X σ H (.UnaryOp .USub a pos) rI (-x) :=
  ev_of (pe_un un_neg cE_pe) fun H1 s Q c => ha H1 s _ fun v H2 s2 hv => ⟨x, hv, c _ H2 s2 rfl⟩
end K06
/-! ==== KC ==== -/
set_option Elab.async false
set_option linter.all false
set_option maxRecDepth 100000
set_option maxHeartbeats 4000000
namespace K06
open PySem L2 PySem.Spec PyProof.Rows RZ

/-! ### what is walked -/
/-- lists and tuples are never too long -/
def Lens (H : Hp) : Prop := ∀ a xs, (H a = some (.lst xs) ∨ H a = some (.tup xs)) → xs.length ≤ sizeLine
theorem lens_of {X : Cx} {pins : List (Addr × Obj)} {σ : L2.St} {H : Hp} {s : Shared} (I : Inv X pins σ H s) : Lens H := fun a xs h => by
  rcases h with h | h
  · exact (I.hok a _ h).1
  · exact (I.hok a _ h).1
section
variable {X : Cx} {σ : L2.St} {H H' : Hp} {α β γ δ : Type} {r : Rp α} {q : Rp β} {p : Rp γ} {pos : Pos} {e a b : Expr}
theorem cE_lens {Q : VK} (h : cE X e σ H fun v H' => Lens H' → Q v H') : cE X e σ H Q := fun pins s I => thn (h pins s I) fun u s' ⟨v, H', I', r', q'⟩ => ⟨v, H', I', r', q' (lens_of I')⟩
theorem cA_lens {es : List Expr} {Q : List V → Hp → Prop} (h : cA X es σ H fun v H' => Lens H' → Q v H') : cA X es σ H Q := fun pos pins s I => thn (h pos pins s I) fun u s' ⟨v, H', I', r', q'⟩ => ⟨v, H', I', r', q' (lens_of I')⟩
/-- one name a turn; two names a turn -/
abbrev Y1 (K : Fr) (r : Rp α) (xs : List α) : Nat → Hp → V → Hp → Prop := fun i H3 v H4 => H4 = H3 ∧ ∃ x, xs[i]? = some x ∧ r.rel K H3 v x
abbrev Y2 (K : Fr) (r : Rp α) (q : Rp β) (xs : List (α × β)) : Nat → Hp → V → Hp → Prop := fun i H3 v H4 => ∃ T u w x, v = .ref T ∧ H3 T = none ∧ H4 = upd H3 T (.tup [u, w]) ∧ xs[i]? = some x ∧ r.rel K H3 u x.1 ∧ q.rel K H3 w x.2
def Src (X : Cx) (σ : L2.St) (H : Hp) (tg iter : Expr) (n : Nat) (Y : Nat → Hp → V → Hp → Prop) : Prop := ∃ wi, PI X tg iter wi ∧ ∀ H1, Same H H1 → ∀ R : It → Hp → Prop, (∀ J H2, Same H1 H2 → n ≤ sizeLine → Walk J n (Same H2) Y → R J H2) → wi σ H1 R
/-- the same by names whose values are known at H: whatever is added or changed elsewhere -/
def SrcV (X : Cx) (σ : L2.St) (H : Hp) (tg iter : Expr) (n : Nat) (Y : Nat → Hp → V → Hp → Prop) : Prop := ∃ wi, PI X tg iter wi ∧ ∀ H1, Same H H1 → ∀ R : It → Hp → Prop, (∀ J H2, Same H1 H2 → Walk J n (Same H) Y → R J H2) → wi σ H1 R
theorem src_L {tg : Expr} {xs : List α} (ha : Ev X σ H a (rL r) xs) : Src X σ H tg a xs.length (Y1 X.K r xs) := ⟨_, pi_list cE_pe, fun H1 s R k => cE_lens (ha H1 s _ fun v H2 s2 hv hl => by
  obtain ⟨l, vs, rfl, h1, h2⟩ := hv
  refine ⟨l, rfl, ⟨vs, SqL.of h1⟩, k _ H2 s2 (by rw [← h2.length]; exact hl l vs (.inl h1)) ?_⟩
  rw [← h2.length]
  refine walk_list.mono (fun H3 s3 => SqL.of (s3 _ _ h1)) fun i H3 x H4 _ s3 y => ?_
  obtain ⟨z, h3, h4⟩ := pr_getV (pmono s3 h2) y.2
  exact ⟨y.1, z, h3, h4⟩)⟩
theorem src_T {tg : Expr} {xs : List α} (ha : Ev X σ H a (rT r) xs) : Src X σ H tg a xs.length (Y1 X.K r xs) := ⟨_, pi_tup cE_pe, fun H1 s R k => cE_lens (ha H1 s _ fun v H2 s2 hv hl => by
  obtain ⟨l, vs, rfl, h1, h2⟩ := hv
  refine ⟨l, rfl, ⟨vs, SqT.of h1⟩, k _ H2 s2 (by rw [← h2.length]; exact hl l vs (.inr h1)) ?_⟩
  rw [← h2.length]
  refine walk_tup.mono (fun H3 s3 => SqT.of (s3 _ _ h1)) fun i H3 x H4 _ s3 y => ?_
  obtain ⟨z, h3, h4⟩ := pr_getV (pmono s3 h2) y.2
  exact ⟨y.1, z, h3, h4⟩)⟩
theorem ups_len (lo : Int) (n : Nat) : (ups lo n).length = n := by unfold ups; rw [List.length_map, List.length_range]
theorem ups_get {lo : Int} {n i : Nat} (h : i < n) : (ups lo n)[i]? = some (lo + (i : Int)) := by
  unfold ups
  rw [List.getElem?_map, List.getElem?_range h]
  rfl
theorem ups_mem {lo : Int} {n : Nat} {x : Int} (h : x ∈ ups lo n) : lo ≤ x ∧ x < lo + (n : Int) := by
  unfold ups at h
  obtain ⟨i, hi, e⟩ := List.mem_map.mp h
  have := List.mem_range.mp hi
  omega
theorem src_R1 {tg : Expr} {n : Int} {p2 : Pos} (hm : X.mg "range" = none) (ha : Ev X σ H a rI n) (hz : n ≤ 100000 ∧ -100000 ≤ n) (hg : Gl X "range" := by rfl) (hs : starEach [a] X.env = (false, eval a X.env) :: starEach [] X.env := by rfl) :
    Src X σ H tg (.Call (.Name "range" p2) [a] [] pos) (ups 0 n.toNat).length (Y1 X.K rI (ups 0 n.toNat)) := by
  rw [ups_len]
  exact ⟨_, pi_range1 hg hm cA_pa hs, fun H1 s R k => ea_1 ha hs H1 s _ fun vs H2 s2 hvs => by
  obtain ⟨v, rfl, h1⟩ := a1 hvs
  refine ⟨n, congrArg (fun z => [z]) (show v = V.int n from h1), by omega, by omega, k _ H2 s2 (sz100 (by omega)) ?_⟩
  exact walk_range.mono (fun _ _ => trivial) fun i H3 x H4 hi _ y => ⟨y.1, _, ups_get hi, y.2⟩⟩
theorem src_R2 {tg : Expr} {lo n : Int} {p2 : Pos} (hm : X.mg "range" = none) (ha : Ev X σ H a rI lo) (hb : Ev X σ H b rI n) (hz : (n ≤ 50000 ∧ -50000 ≤ n) ∧ (lo ≤ 50000 ∧ -50000 ≤ lo)) (hg : Gl X "range" := by rfl)
    (hs : starEach [a, b] X.env = [(false, eval a X.env), (false, eval b X.env)] := by rfl) (hs2 : starEach [b] X.env = [(false, eval b X.env)] := by rfl) :
    Src X σ H tg (.Call (.Name "range" p2) [a, b] [] pos) (ups lo (n - lo).toNat).length (Y1 X.K rI (ups lo (n - lo).toNat)) := by
  rw [ups_len]
  exact ⟨_, pi_range2 hg hm cA_pa hs hs2, fun H1 s R k => ea_c ha (ea_1 hb (by rw [hs2]; rfl)) (by rw [hs, hs2]) H1 s _ fun vs H2 s2 hvs => by
  obtain ⟨v, w, rfl, h1, h2⟩ := a2 hvs
  refine ⟨lo, n, by rw [show v = V.int lo from h1, show w = V.int n from h2], ⟨by omega, by omega, by omega, by omega⟩, k _ H2 s2 (sz100 (by omega)) ?_⟩
  exact walk_range.mono (fun _ _ => trivial) fun i H3 x H4 hi _ y => ⟨y.1, _, ups_get hi, y.2⟩⟩
theorem zip_get {xs : List α} {ys : List β} {i : Nat} {x : α} {y : β} (h1 : xs[i]? = some x) (h2 : ys[i]? = some y) : (xs.zip ys)[i]? = some (x, y) := by
  rw [List.getElem?_zip_eq_some]
  exact ⟨h1, h2⟩
theorem src_zT {elts : List Expr} {kk : Nat} {tpos p2 : Pos} {xs : List α} {ys : List β} (hm : X.mg "zip" = none) (ha : Ev X σ H a (rT r) xs) (hb : Ev X σ H b (rT q) ys) (hg : Gl X "zip" := by rfl)
    (hs : starEach [a, b] X.env = (false, eval a X.env) :: starEach [b] X.env := by rfl) (hs2 : starEach [b] X.env = (false, eval b X.env) :: starEach [] X.env := by rfl) (hpl : (backTo pos (starEach [b] X.env)).any (·.1) = false := by rfl) :
    Src X σ H (.Tuple elts kk tpos) (.Call (.Name "zip" p2) [a, b] [] pos) (xs.zip ys).length (Y2 X.K r q (xs.zip ys)) := ⟨_, pi_zipA hg hm cA_pa hs hpl, fun H1 s R k => cA_lens (ea_c ha (ea_1 hb hs2) hs H1 s _ fun vs H2 s2 hvs hl => by
  obtain ⟨v, w, rfl, h1, h2⟩ := a2 hvs
  obtain ⟨l, vs, rfl, h3, h4⟩ := h1
  obtain ⟨m, ws, rfl, h5, h6⟩ := h2
  have e : (xs.zip ys).length = min vs.length ws.length := by rw [List.length_zip, h4.length, h6.length]
  refine ⟨l, m, vs, ws, rfl, .inr ⟨SqT.of h3, SqT.of h5, k _ H2 s2 (by have := hl l vs (.inr h3); omega) ?_⟩⟩
  refine (walk_zipT e).mono (fun H3 s3 => ⟨SqT.of (s3 _ _ h3), SqT.of (s3 _ _ h5)⟩) fun i H3 x H4 _ s3 y => ?_
  obtain ⟨T, u, w, k1, k2, k3, k4, k5⟩ := y
  obtain ⟨z, h7, h8⟩ := pr_getV (pmono s3 h4) k4
  obtain ⟨z', h9, h10⟩ := pr_getV (pmono s3 h6) k5
  exact ⟨T, u, w, (z, z'), k1, k2, k3, zip_get h7 h9, h8, h10⟩)⟩
theorem src_zL {elts : List Expr} {kk : Nat} {tpos p2 : Pos} {xs : List α} {ys : List β} (hm : X.mg "zip" = none) (ha : Ev X σ H a (rL r) xs) (hb : Ev X σ H b (rL q) ys) (hg : Gl X "zip" := by rfl)
    (hs : starEach [a, b] X.env = (false, eval a X.env) :: starEach [b] X.env := by rfl) (hs2 : starEach [b] X.env = (false, eval b X.env) :: starEach [] X.env := by rfl) (hpl : (backTo pos (starEach [b] X.env)).any (·.1) = false := by rfl) :
    Src X σ H (.Tuple elts kk tpos) (.Call (.Name "zip" p2) [a, b] [] pos) (xs.zip ys).length (Y2 X.K r q (xs.zip ys)) := ⟨_, pi_zipA hg hm cA_pa hs hpl, fun H1 s R k => cA_lens (ea_c ha (ea_1 hb hs2) hs H1 s _ fun vs H2 s2 hvs hl => by
  obtain ⟨v, w, rfl, h1, h2⟩ := a2 hvs
  obtain ⟨l, vs, rfl, h3, h4⟩ := h1
  obtain ⟨m, ws, rfl, h5, h6⟩ := h2
  have e : (xs.zip ys).length = min vs.length ws.length := by rw [List.length_zip, h4.length, h6.length]
  refine ⟨l, m, vs, ws, rfl, .inl ⟨SqL.of h3, SqL.of h5, k _ H2 s2 (by have := hl l vs (.inl h3); omega) ?_⟩⟩
  refine (walk_zip e).mono (fun H3 s3 => ⟨SqL.of (s3 _ _ h3), SqL.of (s3 _ _ h5)⟩) fun i H3 x H4 _ s3 y => ?_
  obtain ⟨T, u, w, k1, k2, k3, k4, k5⟩ := y
  obtain ⟨z, h7, h8⟩ := pr_getV (pmono s3 h4) k4
  obtain ⟨z', h9, h10⟩ := pr_getV (pmono s3 h6) k5
  exact ⟨T, u, w, (z, z'), k1, k2, k3, zip_get h7 h9, h8, h10⟩)⟩
theorem enu_len (xs : List α) : (enu xs).length = xs.length := by unfold enu; rw [List.length_zip, ups_len, Nat.min_self]
theorem enu_get {xs : List α} {i : Nat} {x : α} (h : xs[i]? = some x) : (enu xs)[i]? = some ((i : Int), x) := by
  have h1 := (List.getElem?_eq_some_iff.mp h).1
  have e := zip_get (ups_get (lo := 0) h1) h
  rw [Int.zero_add] at e
  exact e
theorem src_eL {elts : List Expr} {kk : Nat} {tpos p2 : Pos} {xs : List α} (hm : X.mg "enumerate" = none) (ha : Ev X σ H a (rL r) xs) (hg : Gl X "enumerate" := by rfl)
    (hs : starEach [a] X.env = (false, eval a X.env) :: starEach [] X.env := by rfl) :
    Src X σ H (.Tuple elts kk tpos) (.Call (.Name "enumerate" p2) [a] [] pos) (enu xs).length (Y2 X.K rI r (enu xs)) := ⟨_, pi_enum hg hm cA_pa hs, fun H1 s R k => cA_lens (ea_1 ha hs H1 s _ fun vs H2 s2 hvs hl => by
  obtain ⟨v, rfl, l, vs, rfl, h3, h4⟩ := a1 hvs
  have e : (enu xs).length = vs.length := by rw [enu_len, h4.length]
  refine ⟨l, vs, rfl, SqL.of h3, k _ H2 s2 (by rw [e]; exact hl l vs (.inl h3)) ?_⟩
  rw [e]
  refine walk_enum.mono (fun H3 s3 => SqL.of (s3 _ _ h3)) fun i H3 x H4 _ s3 y => ?_
  obtain ⟨T, u, w, k1, k2, k3, k4, k5⟩ := y
  obtain ⟨z', h9, h10⟩ := pr_getV (pmono s3 h4) k5
  exact ⟨T, u, w, _, k1, k2, k3, enu_get h9, (Option.some.inj k4).symm, h10⟩)⟩
theorem src_eT {elts : List Expr} {kk : Nat} {tpos p2 : Pos} {xs : List α} (hm : X.mg "enumerate" = none) (ha : Ev X σ H a (rT r) xs) (hg : Gl X "enumerate" := by rfl)
    (hs : starEach [a] X.env = (false, eval a X.env) :: starEach [] X.env := by rfl) :
    Src X σ H (.Tuple elts kk tpos) (.Call (.Name "enumerate" p2) [a] [] pos) (enu xs).length (Y2 X.K rI r (enu xs)) := ⟨_, pi_enumU hg hm cA_pa hs, fun H1 s R k => cA_lens (ea_1 ha hs H1 s _ fun vs H2 s2 hvs hl => by
  obtain ⟨v, rfl, l, vs, rfl, h3, h4⟩ := a1 hvs
  have e : (enu xs).length = vs.length := by rw [enu_len, h4.length]
  refine ⟨l, vs, rfl, h3, k _ H2 s2 (by rw [e]; exact hl l vs (.inr h3)) ?_⟩
  rw [e]
  refine walk_enumU.mono (fun H3 s3 => s3 _ _ h3) fun i H3 x H4 _ s3 y => ?_
  obtain ⟨T, u, w, k1, k2, k3, k4, k5⟩ := y
  obtain ⟨z', h9, h10⟩ := pr_getV (pmono s3 h4) k5
  exact ⟨T, u, w, _, k1, k2, k3, enu_get h9, (Option.some.inj k4).symm, h10⟩)⟩

/-! ### comprehensions -/
theorem wipe1 (σ : L2.St) (j : Nat) (o : Option V) : wipe (σ.set j o) [j] = wipe σ [j] := by
  show (σ.set j o).set j none = σ.set j none
  rw [List.set_set]
theorem wipe_set (σ : L2.St) (j : Nat) (o : Option V) : (wipe σ [j]).set j o = σ.set j o := by
  show (σ.set j none).set j o = σ.set j o
  rw [List.set_set]
/-- a comprehension's reading, one name -/
theorem lc_1 {wi : TI} {tt : TT} {te : TE} {j : Nat} {xs : List α} {c : α → Bool} {f : α → β} [Fz q]
    (hw : ∀ H1, Same H H1 → ∀ R : It → Hp → Prop, (∀ J H2, Same H1 H2 → xs.length ≤ sizeLine → Walk J xs.length (Same H2) (Y1 X.K r xs) → R J H2) → wi σ H1 R)
    (ht : ∀ x ∈ xs, ∀ v H1, Same H H1 → r.rel X.K H1 v x → ∀ Q : Bool → Hp → Prop, (∀ H2, Same H1 H2 → Q (c x) H2) → tt (σ.set j (some v)) H1 Q)
    (he : ∀ x ∈ xs, c x = true → ∀ v H1, Same H H1 → r.rel X.K H1 v x → ∀ Q : VK, (∀ w H2, Same H1 H2 → q.rel X.K H2 w (f x) → Q w H2) → te (σ.set j (some v)) H1 Q) :
    ∀ H1, Same H H1 → ∀ Q : VK, (∀ v H2, Same H1 H2 → (rL q).rel X.K H2 v ((xs.filter c).map f) → Q v H2) → tLc wi (gName j) tt te [j] σ H1 Q := fun H1 s Q k => hw H1 s _ fun J H2 s2 hz w D hD => by
  refine lc_it w (fun i H3 => Same H2 H3 ∧ ∃ acc, H3 D = some (.lst acc) ∧ acc.length ≤ i ∧ Paired (q.rel X.K H3) acc (((xs.take i).filter c).map f)) ⟨same_new hD, [], upd_same, Nat.le_refl _, .nil⟩ (fun i H3 _ h => h.1) ?_ ?_
  · rintro i v H3 H4 hi ⟨s3, acc, h1, h1b, h2⟩ ⟨rfl, x, hx, hv⟩
    have hm : x ∈ xs := List.mem_of_getElem? hx
    show (fun σ2 H5 => wipe σ2 [j] = wipe σ [j] ∧ _) ((wipe σ [j]).set j (some v)) H4
    rw [wipe_set]
    refine ⟨wipe1 σ j _, ht x hm v H4 ((s.trans s2).trans s3) hv _ fun H5 s5 => ?_⟩
    have ek : (xs.take (i + 1)).filter c = (xs.take i).filter c ++ (if c x then [x] else []) := take_succ_filter c xs i x hx
    cases hc : c x with
    | false =>
      refine iteF ⟨s3.trans s5, acc, s5 _ _ h1, Nat.le_succ_of_le h1b, ?_⟩
      rw [ek, hc]
      simp only [Bool.false_eq_true, if_false, List.append_nil]
      exact pmono s5 h2
    | true =>
      refine iteT (he x hm hc v H5 (((s.trans s2).trans s3).trans s5) (r.mono s5 hv) _ fun w' H6 s6 hw' => ?_)
      have h3 : H6 D = some (.lst acc) := s6 _ _ (s5 _ _ h1)
      refine ⟨acc, h3, by have : i < sizeLine := Nat.lt_of_lt_of_le hi hz; omega, same_mut ((s3.trans s5).trans s6) hD, acc ++ [w'], upd_same, by rw [List.length_append, List.length_singleton]; omega, ?_⟩
      rw [ek, hc]
      simp only [if_true, List.map_append, List.map_cons, List.map_nil]
      exact pr_app (fz_p h3 (pmono (s5.trans s6) h2)) (.cons (Fz.fz h3 hw') .nil)
  · rintro H3 ⟨s3, acc, h1, _, h2⟩
    refine k _ H3 (s2.trans s3) ⟨D, acc, rfl, h1, ?_⟩
    rw [List.take_length] at h2
    exact h2
/-- the same, two names -/
theorem lc_2 {δ' : Type} {rr : Rp δ'} [Fz rr] {wi : TI} {tt : TT} {te : TE} {j k : Nat} (hjk : j ≠ k) {xs : List (α × β)} {c : α × β → Bool} {f : α × β → δ'}
    (hw : ∀ H1, Same H H1 → ∀ R : It → Hp → Prop, (∀ J H2, Same H1 H2 → xs.length ≤ sizeLine → Walk J xs.length (Same H2) (Y2 X.K r q xs) → R J H2) → wi σ H1 R)
    (ht : ∀ x ∈ xs, ∀ u v H1, Same H H1 → r.rel X.K H1 u x.1 → q.rel X.K H1 v x.2 → ∀ Q : Bool → Hp → Prop, (∀ H2, Same H1 H2 → Q (c x) H2) → tt ((σ.set j (some u)).set k (some v)) H1 Q)
    (he : ∀ x ∈ xs, c x = true → ∀ u v H1, Same H H1 → r.rel X.K H1 u x.1 → q.rel X.K H1 v x.2 → ∀ Q : VK, (∀ w H2, Same H1 H2 → rr.rel X.K H2 w (f x) → Q w H2) → te ((σ.set j (some u)).set k (some v)) H1 Q) :
    ∀ H1, Same H H1 → ∀ Q : VK, (∀ v H2, Same H1 H2 → (rL rr).rel X.K H2 v ((xs.filter c).map f) → Q v H2) → tLc wi (gTup X.K 2 (gCons (gName j) (gCons (gName k) gNil))) tt te [j, k] σ H1 Q := fun H1 s Q kk => hw H1 s _ fun J H2 s2 hz w D hD => by
  have wv : ∀ (u v : V), ((wipe σ [j, k]).set j (some u)).set k (some v) = (σ.set j (some u)).set k (some v) := fun u v => by
    show ((((σ.set k none).set j none).set j (some u)).set k (some v)) = _
    rw [List.set_set, List.set_comm _ _ (Ne.symm hjk), List.set_set]
  have ww : ∀ (u v : V), wipe ((σ.set j (some u)).set k (some v)) [j, k] = wipe σ [j, k] := fun u v => by
    show ((((σ.set j (some u)).set k (some v)).set k none).set j none) = ((σ.set k none).set j none)
    rw [List.set_set, List.set_comm _ _ (Ne.symm hjk), List.set_set, List.set_comm _ _ hjk]
  refine lc_it w (fun i H3 => Same H2 H3 ∧ ∃ acc, H3 D = some (.lst acc) ∧ acc.length ≤ i ∧ Paired (rr.rel X.K H3) acc (((xs.take i).filter c).map f)) ⟨same_new hD, [], upd_same, Nat.le_refl _, .nil⟩ (fun i H3 _ h => h.1) ?_ ?_
  · rintro i v H3 H4 hi ⟨s3, acc, h1, h1b, h2⟩ ⟨T, u, v', x, rfl, hT, rfl, hx, hu, hv⟩
    have hm : x ∈ xs := List.mem_of_getElem? hx
    have s4 := same_new (o := HO.tup [u, v']) hT
    refine ⟨T, [u, v'], rfl, SqT.of upd_same, rfl, u, [v'], rfl, v', [], rfl, rfl, ?_⟩
    have e0 := wv u v'
    show _ ∧ _
    rw [e0]
    refine ⟨ww u v', ht x hm u v' _ (((s.trans s2).trans s3).trans s4) (r.mono s4 hu) (q.mono s4 hv) _ fun H5 s5 => ?_⟩
    have ek : (xs.take (i + 1)).filter c = (xs.take i).filter c ++ (if c x then [x] else []) := take_succ_filter c xs i x hx
    cases hc : c x with
    | false =>
      refine iteF ⟨(s3.trans s4).trans s5, acc, s5 _ _ (s4 _ _ h1), Nat.le_succ_of_le h1b, ?_⟩
      rw [ek, hc]
      simp only [Bool.false_eq_true, if_false, List.append_nil]
      exact pmono (s4.trans s5) h2
    | true =>
      refine iteT (he x hm hc u v' H5 ((((s.trans s2).trans s3).trans s4).trans s5) (r.mono (s4.trans s5) hu) (q.mono (s4.trans s5) hv) _ fun w' H6 s6 hw' => ?_)
      have h3 : H6 D = some (.lst acc) := s6 _ _ (s5 _ _ (s4 _ _ h1))
      refine ⟨acc, h3, by have : i < sizeLine := Nat.lt_of_lt_of_le hi hz; omega, same_mut (((s3.trans s4).trans s5).trans s6) hD, acc ++ [w'], upd_same, by rw [List.length_append, List.length_singleton]; omega, ?_⟩
      rw [ek, hc]
      simp only [if_true, List.map_append, List.map_cons, List.map_nil]
      exact pr_app (fz_p h3 (pmono ((s4.trans s5).trans s6) h2)) (.cons (Fz.fz h3 hw') .nil)
  · rintro H3 ⟨s3, acc, h1, _, h2⟩
    refine kk _ H3 (s2.trans s3) ⟨D, acc, rfl, h1, ?_⟩
    rw [List.take_length] at h2
    exact h2
end
end K06
/-! ==== KD ==== -/
set_option Elab.async false
set_option linter.all false
set_option maxRecDepth 100000
set_option maxHeartbeats 4000000
namespace K06
open PySem L2 PySem.Spec PyProof.Rows RZ

section
variable {X : Cx} {σ : L2.St} {H H' : Hp} {α β γ δ : Type} {r : Rp α} {q : Rp β} {p : Rp γ} {pos spos : Pos} {e a b : Expr}
/-- a comprehension's block -/
abbrev Bk (X : Cx) (scope : Scope) (s : Shared) (Hs : Hp) (C : Addr) (cl : List (Str × Addr)) (fp : List Addr) : Cx := X.blk s Hs scope (compEnvC scope cl C X.env) fp
def cEb (X : Cx) (scope : Scope) (e : Expr) : TE := fun σ H Q => ∀ s Hs C cl fp, cE (Bk X scope s Hs C cl fp) e σ H Q
def cTb (X : Cx) (scope : Scope) (e : Expr) : TT := fun σ H Q => ∀ s Hs C cl fp, cT (Bk X scope s Hs C cl fp) e σ H Q
theorem cEb_pe {scope : Scope} (s : Shared) (Hs : Hp) (C : Addr) (cl : List (Str × Addr)) (fp : List Addr) : PE (Bk X scope s Hs C cl fp) e (cEb X scope e) := ⟨fun pins s' _ _ _ I h => h s Hs C cl fp pins s' I⟩
theorem cTb_pt {scope : Scope} (s : Shared) (Hs : Hp) (C : Addr) (cl : List (Str × Addr)) (fp : List Addr) : PT (Bk X scope s Hs C cl fp) e (cTb X scope e) := ⟨fun pins s' _ _ _ I h => h s Hs C cl fp pins s' I⟩
/-- a target's name in its block -/
def Own (X : Cx) (scope : Scope) (y : Str) (j : Nat) : Prop := X.N[j]? = some y ∧ L2.Loc (relS scope X.env.scope) y ∧ ((scope.names.lookup y == some .cell) = true ∨ (relS scope X.env.scope).names.lookup y = some .local)
theorem own_pg {scope : Scope} {y : Str} {j : Nat} (nd : X.N.Nodup) (o : Own X scope y j) (s : Shared) (Hs : Hp) (C : Addr) (cl : List (Str × Addr)) (fp : List Addr) : PG (Bk X scope s Hs C cl fp) (.Name y pos) (gName j) := pg_name (X := Bk X scope s Hs C cl fp) nd o.1 o.2.1 o.2.2
section
variable {scope : Scope} {elt iter c : Expr} {y z : Str} {py pz pt : Pos} {j k kk : Nat}
theorem ev_lc1 {xs : List α} {f : α → β} [Fz q] (nd : X.N.Nodup) (src : Src X σ H (.Name y py) iter xs.length (Y1 X.K r xs)) (ok : BlkOk X.N X.env.scope scope [(y, j)]) (ow : Own X scope y j)
    (he : ∀ s Hs C cl fp, ∀ x ∈ xs, ∀ v H1, Same H H1 → r.rel X.K H1 v x → Ev (Bk X scope s Hs C cl fp) (σ.set j (some v)) H1 elt q (f x)) (hc : X.calm = true := by rfl) (hs : ∀ x, foldedSetIterable iter X.env x = pure x := by intro _; rfl) :
    Ev X σ H (.ListComp elt [⟨.Name y py, iter, [], 0⟩] scope pos) (rL q) (xs.map f) := by
  obtain ⟨wi, hi, hw⟩ := src
  have e : (xs.filter fun _ => true).map f = xs.map f := by rw [List.filter_eq_self.mpr fun _ _ => rfl]
  rw [← e]
  exact ev_of (pe_lc (own := [(y, j)]) (te := cEb X scope elt) hc nd hi ok (own_pg nd ow) (fun _ _ _ _ _ => pts_nil) (fun s Hs C cl fp => cEb_pe s Hs C cl fp) hs)
    (lc_1 (te := cEb X scope elt) hw (fun _ _ v H1 _ _ Q k => k H1 (Same.refl H1)) fun x hx _ v H1 s1 hv Q k s Hs C cl fp => he s Hs C cl fp x hx v H1 s1 hv H1 (Same.refl H1) Q k)
theorem ev_lc1f {xs : List α} {f : α → β} {cf : α → Bool} [Fz q] (nd : X.N.Nodup) (src : Src X σ H (.Name y py) iter xs.length (Y1 X.K r xs)) (ok : BlkOk X.N X.env.scope scope [(y, j)]) (ow : Own X scope y j)
    (ht : ∀ s Hs C cl fp, ∀ x ∈ xs, ∀ v H1, Same H H1 → r.rel X.K H1 v x → EvT (Bk X scope s Hs C cl fp) (σ.set j (some v)) H1 c (cf x))
    (he : ∀ s Hs C cl fp, ∀ x ∈ xs, cf x = true → ∀ v H1, Same H H1 → r.rel X.K H1 v x → Ev (Bk X scope s Hs C cl fp) (σ.set j (some v)) H1 elt q (f x)) (hc : X.calm = true := by rfl) (hs : ∀ x, foldedSetIterable iter X.env x = pure x := by intro _; rfl) :
    Ev X σ H (.ListComp elt [⟨.Name y py, iter, [c], 0⟩] scope pos) (rL q) ((xs.filter cf).map f) := by
  obtain ⟨wi, hi, hw⟩ := src
  exact ev_of (pe_lc (own := [(y, j)]) (te := cEb X scope elt) (tt := cTb X scope c) hc nd hi ok (own_pg nd ow) (fun s Hs C cl fp => pts_one (cTb_pt s Hs C cl fp)) (fun s Hs C cl fp => cEb_pe s Hs C cl fp) hs)
    (lc_1 (te := cEb X scope elt) (tt := cTb X scope c) hw (fun x hx v H1 s1 hv Q k s Hs C cl fp => ht s Hs C cl fp x hx v H1 s1 hv H1 (Same.refl H1) Q k) fun x hx hc v H1 s1 hv Q k s Hs C cl fp => he s Hs C cl fp x hx hc v H1 s1 hv H1 (Same.refl H1) Q k)
theorem own_pg2 {s : Shared} {Hs : Hp} {C : Addr} {cl : List (Str × Addr)} {fp : List Addr} (nd : X.N.Nodup) (hc : X.calm = true) (o1 : Own X scope y j) (o2 : Own X scope z k)
    (h1 : (assignEach [.Name y py, .Name z pz] (Bk X scope s Hs C cl fp).env).map (·.2) = [assign (.Name y py) (Bk X scope s Hs C cl fp).env, assign (.Name z pz) (Bk X scope s Hs C cl fp).env])
    (h2 : (assignEach [.Name z pz] (Bk X scope s Hs C cl fp).env).map (·.2) = [assign (.Name z pz) (Bk X scope s Hs C cl fp).env])
    (hn : (assignEach [.Name y py, .Name z pz] (Bk X scope s Hs C cl fp).env).length = 2) (hst : (assignEach [.Name y py, .Name z pz] (Bk X scope s Hs C cl fp).env).findIdx? (·.1) = none) : PG (Bk X scope s Hs C cl fp) (.Tuple [.Name y py, .Name z pz] kk pt) (gTup X.K 2 (gCons (gName j) (gCons (gName k) gNil))) :=
  pg_tup (X := Bk X scope s Hs C cl fp) hc (pgs_cons (own_pg nd o1 s Hs C cl fp) (pgs_cons (own_pg nd o2 s Hs C cl fp) pgs_nil (by rw [h2]; rfl)) (by rw [h1, h2])) hn hst
theorem ev_lc2 {δ' : Type} {rr : Rp δ'} [Fz rr] {xs : List (α × β)} {f : α × β → δ'} (nd : X.N.Nodup) (src : Src X σ H (.Tuple [.Name y py, .Name z pz] kk pt) iter xs.length (Y2 X.K r q xs)) (ok : BlkOk X.N X.env.scope scope [(y, j), (z, k)]) (o1 : Own X scope y j) (o2 : Own X scope z k) (hjk : j ≠ k)
    (he : ∀ s Hs C cl fp, ∀ x ∈ xs, ∀ u v H1, Same H H1 → r.rel X.K H1 u x.1 → q.rel X.K H1 v x.2 → Ev (Bk X scope s Hs C cl fp) ((σ.set j (some u)).set k (some v)) H1 elt rr (f x)) (hc : X.calm = true := by rfl) (hs : ∀ x, foldedSetIterable iter X.env x = pure x := by intro _; rfl) :
    Ev X σ H (.ListComp elt [⟨.Tuple [.Name y py, .Name z pz] kk pt, iter, [], 0⟩] scope pos) (rL rr) (xs.map f) := by
  obtain ⟨wi, hi, hw⟩ := src
  have e : (xs.filter fun _ => true).map f = xs.map f := by rw [List.filter_eq_self.mpr fun _ _ => rfl]
  rw [← e]
  exact ev_of (pe_lc (own := [(y, j), (z, k)]) (te := cEb X scope elt) hc nd hi ok (fun s Hs C cl fp => own_pg2 nd hc o1 o2 rfl rfl rfl rfl) (fun _ _ _ _ _ => pts_nil) (fun s Hs C cl fp => cEb_pe s Hs C cl fp) hs)
    (lc_2 (te := cEb X scope elt) hjk hw (fun _ _ u v H1 _ _ _ Q k => k H1 (Same.refl H1)) fun x hx _ u v H1 s1 hu hv Q k s Hs C cl fp => he s Hs C cl fp x hx u v H1 s1 hu hv H1 (Same.refl H1) Q k)
theorem ev_lc2f {δ' : Type} {rr : Rp δ'} [Fz rr] {xs : List (α × β)} {f : α × β → δ'} {cf : α × β → Bool} (nd : X.N.Nodup) (src : Src X σ H (.Tuple [.Name y py, .Name z pz] kk pt) iter xs.length (Y2 X.K r q xs)) (ok : BlkOk X.N X.env.scope scope [(y, j), (z, k)]) (o1 : Own X scope y j) (o2 : Own X scope z k) (hjk : j ≠ k)
    (ht : ∀ s Hs C cl fp, ∀ x ∈ xs, ∀ u v H1, Same H H1 → r.rel X.K H1 u x.1 → q.rel X.K H1 v x.2 → EvT (Bk X scope s Hs C cl fp) ((σ.set j (some u)).set k (some v)) H1 c (cf x))
    (he : ∀ s Hs C cl fp, ∀ x ∈ xs, cf x = true → ∀ u v H1, Same H H1 → r.rel X.K H1 u x.1 → q.rel X.K H1 v x.2 → Ev (Bk X scope s Hs C cl fp) ((σ.set j (some u)).set k (some v)) H1 elt rr (f x)) (hc : X.calm = true := by rfl) (hs : ∀ x, foldedSetIterable iter X.env x = pure x := by intro _; rfl) :
    Ev X σ H (.ListComp elt [⟨.Tuple [.Name y py, .Name z pz] kk pt, iter, [c], 0⟩] scope pos) (rL rr) ((xs.filter cf).map f) := by
  obtain ⟨wi, hi, hw⟩ := src
  exact ev_of (pe_lc (own := [(y, j), (z, k)]) (te := cEb X scope elt) (tt := cTb X scope c) hc nd hi ok (fun s Hs C cl fp => own_pg2 nd hc o1 o2 rfl rfl rfl rfl) (fun s Hs C cl fp => pts_one (cTb_pt s Hs C cl fp)) (fun s Hs C cl fp => cEb_pe s Hs C cl fp) hs)
    (lc_2 (te := cEb X scope elt) (tt := cTb X scope c) hjk hw (fun x hx u v H1 s1 hu hv Q k s Hs C cl fp => ht s Hs C cl fp x hx u v H1 s1 hu hv H1 (Same.refl H1) Q k) fun x hx hc u v H1 s1 hu hv Q k s Hs C cl fp => he s Hs C cl fp x hx hc u v H1 s1 hu hv H1 (Same.refl H1) Q k)
end

/-! ### statements -/
def cS (X : Cx) (sts : List Stmt) : TS := fun D σ H => ∀ pins s, Inv X pins σ H s → wpAny (model X.prog X.w) X.A (execs sts X.env) (SP X pins D) X.xe s
theorem cS_pss {sts : List Stmt} : PSs X sts (cS X sts) := ⟨fun pins s _ _ _ I h => h pins s I⟩
theorem cS_of {sts : List Stmt} {t : TS} {D : Ends} (h : PSs X sts t) (k : t D σ H) : cS X sts D σ H := fun pins s I => h.run pins s σ H D I k
variable {D : Ends} {rest body els : List Stmt}
theorem cs_nil (h : D.nx σ H) : cS X [] D σ H := cS_of pss_nil h
theorem cs_one {st : Stmt} {t : TS} (h : PS X st t) (k : t { D with nx := fun σ' H' => cS X rest D σ' H' } σ H) : cS X (st :: rest) D σ H := cS_of (pss_cons h cS_pss) k
/-- name = value -/
theorem cs_set {i : Nat} {y : Str} {p2 : Pos} {x : α} (nd : X.N.Nodup) (hi : X.N[i]? = some y) (ha : Ev X σ H a r x) (k : ∀ v H1, Same H H1 → r.rel X.K H1 v x → cS X rest D (σ.set i (some v)) H1)
    (hx : L2.Loc X.env.scope y := by first | exact Or.inl rfl | exact Or.inr rfl) (hs : swapsWith a (some (.Name y p2)) pos.line X.env = pure false := by rfl) (hf : X.fn y = true ∨ X.env.scope.names.lookup y = some .local := by first | exact .inl rfl | exact .inr rfl) : cS X (.Assign [.Name y p2] a pos :: rest) D σ H :=
  cs_one (ps_set nd hi hx cE_pe hs hf) (ha H (Same.refl H) _ fun v H1 s1 hv => k v H1 s1 hv)
/-- a, b = x, y -/
theorem cs_par {i j : Nat} {y z : Str} {p1 p2 p3 p4 : Pos} {k1 k2 : Nat} {x : α} {w : β} (nd : X.N.Nodup) (hi : X.N[i]? = some y) (hj : X.N[j]? = some z) (hij : i ≠ j) (ha : Ev X σ H a r x) (hb : Ev X σ H b q w)
    (k : ∀ u v H1, Same H H1 → r.rel X.K H1 u x → q.rel X.K H1 v w → cS X rest D ((σ.set i (some u)).set j (some v)) H1) (hy : X.env.scope.names.lookup y = some .local := by rfl) (hz : X.env.scope.names.lookup z = some .local := by rfl) (hc : X.calm = true := by rfl)
    (hw : swappedStores [.Tuple [.Name y p1, .Name z p2] k1 p3] (.Tuple [a, b] k2 p4) X.env = pure (some [y, z]) := by rfl)
    (hs : swapsWithSole [.Tuple [.Name y p1, .Name z p2] k1 p3] (.Tuple [a, b] k2 p4) pos.line X.env = pure false := by rfl)
    (hs1 : starEach [a, b] X.env = (false, eval a X.env) :: starEach [b] X.env := by rfl) (hs2 : starEach [b] X.env = (false, eval b X.env) :: starEach [] X.env := by rfl) : cS X (.Assign [.Tuple [.Name y p1, .Name z p2] k1 p3] (.Tuple [a, b] k2 p4) pos :: rest) D σ H :=
  cs_one (ps_par hc nd hi hj hij hy hz cA_pa hw hs) (ea_c ha (ea_1 hb hs2) hs1 H (Same.refl H) _ fun vs H1 s1 hv => by
    obtain ⟨u, v, rfl, h1, h2⟩ := a2 hv
    exact ⟨u, v, rfl, k u v H1 s1 h1 h2⟩)
theorem cs_par3 {i j l : Nat} {y z w : Str} {p1 p2 p3 p4 p5 : Pos} {k1 k2 : Nat} {d : Expr} {x : α} {x2 : β} {x3 : γ} (nd : X.N.Nodup) (hi : X.N[i]? = some y) (hj : X.N[j]? = some z) (hl : X.N[l]? = some w) (hij : i ≠ j) (hil : i ≠ l) (hjl : j ≠ l) (ha : Ev X σ H a r x) (hb : Ev X σ H b q x2) (hd : Ev X σ H d p x3)
    (k : ∀ u v t H1, Same H H1 → r.rel X.K H1 u x → q.rel X.K H1 v x2 → p.rel X.K H1 t x3 → cS X rest D (((σ.set i (some u)).set j (some v)).set l (some t)) H1)
    (hy : X.env.scope.names.lookup y = some .local := by rfl) (hz : X.env.scope.names.lookup z = some .local := by rfl) (hw' : X.env.scope.names.lookup w = some .local := by rfl) (hc : X.calm = true := by rfl)
    (hw : swappedStores [.Tuple [.Name y p1, .Name z p2, .Name w p3] k1 p4] (.Tuple [a, b, d] k2 p5) X.env = pure (some [y, z, w]) := by rfl)
    (hs : swapsWithSole [.Tuple [.Name y p1, .Name z p2, .Name w p3] k1 p4] (.Tuple [a, b, d] k2 p5) pos.line X.env = pure false := by rfl)
    (hs1 : starEach [a, b, d] X.env = (false, eval a X.env) :: starEach [b, d] X.env := by rfl) (hs2 : starEach [b, d] X.env = (false, eval b X.env) :: starEach [d] X.env := by rfl) (hs3 : starEach [d] X.env = (false, eval d X.env) :: starEach [] X.env := by rfl) :
    cS X (.Assign [.Tuple [.Name y p1, .Name z p2, .Name w p3] k1 p4] (.Tuple [a, b, d] k2 p5) pos :: rest) D σ H :=
  cs_one (ps_par3 hc nd hi hj hl hij hil hjl hy hz hw' cA_pa hw hs) (ea_c ha (ea_c hb (ea_1 hd hs3) hs2) hs1 H (Same.refl H) _ fun vs H1 s1 hv => by
    obtain ⟨u, ws, rfl, h1, h2⟩ := hv
    obtain ⟨v, t, rfl, h3, h4⟩ := a2 h2
    exact ⟨u, v, t, rfl, k u v t H1 s1 h1 h3 h4⟩)
theorem cs_ret {x : α} (ha : Ev X σ H a r x) (k : ∀ v H1, Same H H1 → r.rel X.K H1 v x → D.rt v H1) : cS X (.Return (some a) pos :: rest) D σ H :=
  cs_one (ps_ret cE_pe) (ha H (Same.refl H) _ fun v H1 s1 hv => k v H1 s1 hv)
theorem cs_if {c : Expr} {k : Bool} (hc : EvT X σ H c k) (h1 : k = true → ∀ H1, Same H H1 → cS X body { D with nx := fun σ' H' => cS X rest D σ' H' } σ H1) (h2 : k = false → ∀ H1, Same H H1 → cS X els { D with nx := fun σ' H' => cS X rest D σ' H' } σ H1) : cS X (.If c body els pos :: rest) D σ H :=
  cs_one (ps_if cT_pt cS_pss cS_pss) (hc H (Same.refl H) _ fun H1 s1 => by
    cases k with
    | true => exact iteT (h1 rfl H1 s1)
    | false => exact iteF (h2 rfl H1 s1))
/-- if, where the test is known to fail and nothing stands behind else -/
theorem cs_skip {c : Expr} (hc : EvT X σ H c false) (h2 : ∀ H1, Same H H1 → cS X rest D σ H1) : cS X (.If c body [] pos :: rest) D σ H := cs_if hc (fun z => nomatch z) fun _ H1 s1 => cs_nil (h2 H1 s1)
theorem cs_drop {x : α} (ha : Ev X σ H a r x) (k : ∀ H1, Same H H1 → cS X rest D σ H1) (hs : swapsWith a none pos.line X.env = pure false := by rfl) : cS X (.Expr a pos :: rest) D σ H :=
  cs_one (ps_expr cE_pe hs) (ha H (Same.refl H) _ fun v H1 s1 _ => k H1 s1)
theorem cs_nx (h : D.nx σ H) : cS X [] D σ H := cs_nil h
/-- a name's comprehension -/
theorem cs_setC {i : Nat} {y : Str} {py : Pos} {scope : Scope} {elt tg iter : Expr} {ifs : List Expr} {own : List (Str × Nat)} {wi : TI} {g : TG} {tt : TT} {te : TE} {x : α} (nd : X.N.Nodup) (hi : X.N[i]? = some y)
    (hp : PI X tg iter wi) (ok : BlkOk X.N X.env.scope scope own) (hg : ∀ s Hs C cl fp, PG (Bk X scope s Hs C cl fp) tg g) (ht : ∀ s Hs C cl fp, PTs (Bk X scope s Hs C cl fp) ifs tt) (he : ∀ s Hs C cl fp, PE (Bk X scope s Hs C cl fp) elt te)
    (hr : ∀ H1, Same H H1 → ∀ Q : VK, (∀ v H2, Same H1 H2 → r.rel X.K H2 v x → Q v H2) → tLc wi g tt te (own.map (·.2)) σ H1 Q)
    (k : ∀ v H1, Same H H1 → r.rel X.K H1 v x → cS X rest D (σ.set i (some v)) H1) (hyl : X.env.scope.names.lookup y = some .local) (hsw : swapsWith (.ListComp elt [⟨tg, iter, ifs, 0⟩] scope pos) (some (.Name y py)) spos.line X.env = pure true) (hc : X.calm = true)
    (hs : ∀ x, foldedSetIterable iter X.env x = pure x) : cS X (.Assign [.Name y py] (.ListComp elt [⟨tg, iter, ifs, 0⟩] scope pos) spos :: rest) D σ H :=
  cs_one (ps_setLc (own := own) hc nd hi hyl hsw hp ok hg ht he hs) (hr H (Same.refl H) _ fun v H1 s1 hv => k v H1 s1 hv)
end
end K06
/-! ==== KE2 ==== -/
set_option Elab.async false
set_option linter.all false
set_option maxRecDepth 100000
set_option maxHeartbeats 4000000
namespace K06
open PySem L2 PySem.Spec PyProof.Rows RZ
/-! ### promises, calls -/
/-- the promise of a pure def -/
def spF {α β : Type} (R : Rps α) (g : α → Prop) (r : Rp β) (f : α → β) (K : Fr) : Sp := fun vs H Q _ => ∃ x, R.rel K H vs x ∧ g x ∧ ∀ v H2, Same H H2 → r.rel K H2 v (f x) → Q v H2
/-- a def of the text's top, as it is called -/
structure Df (P : Program) (w : World) (K : Fr) (mg : Str → Option Value) (base : Heap) (k : Nat) (x : Str) (ps : List Str) (sp : Sp) : Prop where
  ex : ∃ (f : Addr) (fd : FuncData), mg x = some (.ref f) ∧ PySem.W.keepIn K (.ref f) = true ∧ Binds K fd ps [] ∧ FnOk P w K mg base CX0 k f fd ps sp
abbrev FnP (K : Fr) (x : Str) (st : Stmt) (f : Addr) (fd : FuncData) : Prop := FunD K x x (defArgs st) (defBody st) (defScope st) [] [] f fd
section
variable {X : Cx} {σ : L2.St} {H H' : Hp} {α β γ δ : Type} {r : Rp α} {q : Rp β} {p : Rp γ} {pos : Pos} {e a b : Expr}
theorem ev_callS {k : Nat} {n : Str} {p2 : Pos} {ps : List Str} {sp : Sp} {es : List Expr} {R : Rps γ} {x : γ} {y : α} (D : Df X.prog X.w X.K X.mg X.base k n ps sp) (hr : Room k X.A) (ha : EvA X σ H (e :: es) R x)
    (hs : ∀ H1, Same H H1 → ∀ vs, R.rel X.K H1 vs x → ∀ Q : VK, (∀ v H2, Same H1 H2 → r.rel X.K H2 v y → Q v H2) → ∀ E, sp vs H1 Q E)
    (hg : Gl X n := by rfl) (hdb : (n == ("__debug__" : Str)) = false := by decide)
    (he : starEach (e :: es) X.env = (false, eval e X.env) :: starEach es X.env := by rfl) (hpl : (backTo pos (starEach es X.env)).any (·.1) = false := by rfl) : Ev X σ H (.Call (.Name n p2) (e :: es) [] pos) r y := by
  obtain ⟨f, fd, hm, hk, hb, F⟩ := D.ex
  exact ev_of (pe_call F hr hg hm hk hb .nil pass0 cA_pa hdb he hpl) fun H1 s Q c => ha H1 s _ fun vs H2 s2 hvs => by
    rw [List.append_nil]
    exact hs H2 (s.trans s2) vs hvs Q (fun v H3 s3 hv => c v H3 (s2.trans s3) hv) E0
theorem ev_call {k : Nat} {n : Str} {p2 : Pos} {ps : List Str} {es : List Expr} {R : Rps γ} {g : γ → Prop} {f : γ → α} {x : γ} {y : α} (D : Df X.prog X.w X.K X.mg X.base k n ps (spF R g r f X.K)) (hr : Room k X.A) (ha : EvA X σ H (e :: es) R x) (hx : g x) (hy : f x = y := by rfl)
    (hg : Gl X n := by rfl) (hdb : (n == ("__debug__" : Str)) = false := by decide)
    (he : starEach (e :: es) X.env = (false, eval e X.env) :: starEach es X.env := by rfl) (hpl : (backTo pos (starEach es X.env)).any (·.1) = false := by rfl) : Ev X σ H (.Call (.Name n p2) (e :: es) [] pos) r y :=
  ev_callS D hr ha (fun H1 s vs hvs Q c E => ⟨x, hvs, hx, fun v H2 s2 hv => c v H2 s2 (hy ▸ hv)⟩) hg hdb he hpl
/-! ### loops -/
variable {D : Ends} {rest body : List Stmt} {iter : Expr} {y z : Str} {py pz pt : Pos} {j k kk : Nat}
theorem cs_for1 {xs : List α} (nd : X.N.Nodup) (hi : X.N[j]? = some y) (src : Src X σ H (.Name y py) iter xs.length (Y1 X.K r xs)) (Pv : Hp → Nat → L2.St → Hp → Prop) (h0 : ∀ H2, Same H H2 → Pv H2 0 σ H2)
    (hs : ∀ H2, Same H H2 → ∀ i x v σ' H', xs[i]? = some x → Same H2 H' → r.rel X.K H' v x → Pv H2 i σ' H' → cS X body ⟨fun σ3 H3 => Same H2 H3 ∧ Pv H2 (i + 1) σ3 H3, D.rt, fun σ3 H3 => cS X rest D σ3 H3, fun σ3 H3 => Same H2 H3 ∧ Pv H2 (i + 1) σ3 H3⟩ (σ'.set j (some v)) H')
    (hd : ∀ H2, Same H H2 → ∀ σ' H', Same H2 H' → Pv H2 xs.length σ' H' → cS X rest D σ' H') (hp : PassesOwn (model X.prog X.w) X.A X.env X.xe := by exact PassesOwn.never)
    (hx : L2.Loc X.env.scope y := by first | exact Or.inl rfl | exact Or.inr rfl) (hf : X.fn y = true ∨ X.env.scope.names.lookup y = some .local := by first | exact .inl rfl | exact .inr rfl) (hc : X.calm = true := by rfl) (hfs : ∀ x, foldedSetIterable iter X.env x = pure x := by intro _; rfl) :
    cS X (.For (.Name y py) iter body [] pos :: rest) D σ H := by
  obtain ⟨wi, hi', hw⟩ := src
  refine cs_one (ps_for hp hc hi' (pg_name nd hi hx hf) cS_pss hfs) (hw H (Same.refl H) _ fun J H2 s2 _ w => ?_)
  refine for_it w (D := { D with nx := fun σ' H' => cS X rest D σ' H' }) (fun i σ' H' => Same H2 H' ∧ Pv H2 i σ' H') ⟨Same.refl H2, h0 H2 s2⟩ (fun _ _ _ _ h => h.1) ?_ (fun σ' H' h => hd H2 s2 σ' H' h.1 h.2)
  rintro i v σ' H3 H4 hi3 ⟨s3, pv⟩ ⟨rfl, x, hx', hv⟩
  exact hs H2 s2 i x v σ' H4 hx' s3 hv pv
theorem cs_for2 {xs : List (α × β)} (nd : X.N.Nodup) (hi : X.N[j]? = some y) (hi2 : X.N[k]? = some z) (src : Src X σ H (.Tuple [.Name y py, .Name z pz] kk pt) iter xs.length (Y2 X.K r q xs)) (Pv : Hp → Nat → L2.St → Hp → Prop) (h0 : ∀ H2, Same H H2 → Pv H2 0 σ H2)
    (hs : ∀ H2, Same H H2 → ∀ i x u v σ' H', xs[i]? = some x → Same H2 H' → r.rel X.K H' u x.1 → q.rel X.K H' v x.2 → Pv H2 i σ' H' → cS X body ⟨fun σ3 H3 => Same H2 H3 ∧ Pv H2 (i + 1) σ3 H3, D.rt, fun σ3 H3 => cS X rest D σ3 H3, fun σ3 H3 => Same H2 H3 ∧ Pv H2 (i + 1) σ3 H3⟩ ((σ'.set j (some u)).set k (some v)) H')
    (hm : ∀ H2, Same H H2 → ∀ i σ' H3 H4, Same H3 H4 → Pv H2 i σ' H3 → Pv H2 i σ' H4)
    (hd : ∀ H2, Same H H2 → ∀ σ' H', Same H2 H' → Pv H2 xs.length σ' H' → cS X rest D σ' H') (hp : PassesOwn (model X.prog X.w) X.A X.env X.xe := by exact PassesOwn.never)
    (hx : L2.Loc X.env.scope y := by first | exact Or.inl rfl | exact Or.inr rfl) (hf : X.fn y = true ∨ X.env.scope.names.lookup y = some .local := by first | exact .inl rfl | exact .inr rfl)
    (hx2 : L2.Loc X.env.scope z := by first | exact Or.inl rfl | exact Or.inr rfl) (hf2 : X.fn z = true ∨ X.env.scope.names.lookup z = some .local := by first | exact .inl rfl | exact .inr rfl) (hc : X.calm = true := by rfl) (hfs : ∀ x, foldedSetIterable iter X.env x = pure x := by intro _; rfl)
    (h1 : (assignEach [.Name y py, .Name z pz] X.env).map (·.2) = assign (.Name y py) X.env :: (assignEach [.Name z pz] X.env).map (·.2) := by rfl) (h2 : (assignEach [.Name z pz] X.env).map (·.2) = assign (.Name z pz) X.env :: (assignEach [] X.env).map (·.2) := by rfl)
    (hn : (assignEach [.Name y py, .Name z pz] X.env).length = 2 := by rfl) (hst : (assignEach [.Name y py, .Name z pz] X.env).findIdx? (·.1) = none := by rfl) :
    cS X (.For (.Tuple [.Name y py, .Name z pz] kk pt) iter body [] pos :: rest) D σ H := by
  obtain ⟨wi, hi', hw⟩ := src
  refine cs_one (ps_for hp hc hi' (pg_tup hc (pgs_cons (pg_name nd hi hx hf) (pgs_cons (pg_name nd hi2 hx2 hf2) pgs_nil h2) h1) hn hst) cS_pss hfs) (hw H (Same.refl H) _ fun J H2 s2 _ w => ?_)
  refine for_it w (D := { D with nx := fun σ' H' => cS X rest D σ' H' }) (fun i σ' H' => Same H2 H' ∧ Pv H2 i σ' H') ⟨Same.refl H2, h0 H2 s2⟩ (fun _ _ _ _ h => h.1) ?_ (fun σ' H' h => hd H2 s2 σ' H' h.1 h.2)
  rintro i v σ' H3 H4 hi3 ⟨s3, pv⟩ ⟨T, u, v', x, rfl, hT, rfl, hx', hu, hv⟩
  have s4 := same_new (o := HO.tup [u, v']) hT
  refine ⟨T, [u, v'], rfl, SqT.of upd_same, rfl, u, [v'], rfl, v', [], rfl, rfl, ?_⟩
  exact hs H2 s2 i x u v' σ' _ hx' (s3.trans s4) (r.mono s4 hu) (q.mono s4 hv) (hm H2 s2 i σ' H3 _ s4 pv)
end
end K06
/-! ==== HK ==== -/
set_option Elab.async false
set_option linter.all false
set_option maxRecDepth 100000
set_option maxHeartbeats 4000000
namespace K06
open PySem L2 PySem.Spec PyProof.Rows RZ
abbrev pw : Program := PySem.Challenge.pw_restkeepers_k06_whole_side_by_side_and_t
def top (i : Nat) : Stmt := pw.main.body.getD i (.Pass ⟨0, 0, 0, 0⟩)
/-! ### what the top leaves: defs by places of one's own -/
structure DX where
  at_ : Fr → Addr
  name : Str
  qual : Str
  params : Arguments
  body : List Stmt
  scope : Scope
  dfl : List (Fr → V)
def DX.dvs (d : DX) (K : Fr) : List V := d.dfl.map fun g => g K
def DX.val (d : DX) : He.FnW := some (d.name, d.qual, d.params, .stmts d.body, d.scope, mainGlobals, [], builtinsNs)
def DX.obs (K : Fr) (d : DX) : He.FnW := match K.lookup (d.at_ K) with
  | some ⟨_, _, .func z, _⟩ => some (z.name, z.qualname, z.params, z.body, z.scope, z.globals, z.closure, z.builtins)
  | _ => none
def DX.ok (K : Fr) (d : DX) : Bool := PySem.W.keepIn K (.ref (d.at_ K)) && (match K.lookup (d.at_ K) with
  | some ⟨_, _, .func z, _⟩ => PySem.W.codeIn K z.code d.qual && He.dflB K z.defaults (d.dvs K)
  | _ => false)
theorem DX.funD {K : Fr} {d : DX} (e : d.obs K = d.val) (c : d.ok K = true) : ∃ z, FunD K d.name d.qual d.params d.body d.scope (d.dvs K) [] (d.at_ K) z := by
  obtain ⟨kp, c2⟩ := He.ba c
  unfold DX.obs at e
  cases q : K.lookup (d.at_ K) with
  | none =>
    rw [q] at c2
    cases c2
  | some o =>
    obtain ⟨oc, od, dt, osl⟩ := o
    rw [q] at c2 e
    cases dt with
    | func z =>
      obtain ⟨n1, n2, n3, n4, n5, n6, n7, n8, n9, n10, n11, n12, n13, n14, n15⟩ := z
      have e2 : (some (n1, n2, n3, n4, n5, n6, n7, n15) : He.FnW) = some (d.name, d.qual, d.params, .stmts d.body, d.scope, mainGlobals, [], builtinsNs) := e
      simp only [Option.some.injEq, Prod.mk.injEq] at e2
      obtain ⟨h1, h2, h3, h4, h5, h6, h7, h8⟩ := e2
      subst h1 h2 h3 h4 h5 h6 h7 h8
      obtain ⟨k1, k2⟩ := He.ba (show (PySem.W.codeIn K n13 d.qual && He.dflB K n8 (d.dvs K)) = true from c2)
      exact ⟨_, ⟨oc, od, n8, n9, n10, n11, n12, n13, n14, osl, rfl, q, k1, He.dflB_ok k2, .inl rfl⟩, kp⟩
    | _ => cases c2
abbrev AlK : Type := Bool × List He.FnW
def obK (fa : List He.Fa) (ex : List (Fr → Bool)) (dx : List DX) (K : Fr) : AlK := ((fa.all fun f => f.ok K) && ((ex.all fun f => f K) && dx.all fun d => d.ok K), dx.map fun d => d.obs K)
def vaK (dx : List DX) : AlK := (true, dx.map DX.val)
/-- what the names of the top reach, no further than is asked -/
def refK (o : Obj) : List Addr := match o.data with
  | .dict es _ => es.toList.flatMap fun e => He.refV e.val
  | .func z => He.refV z.code ++ He.refV z.defaults
  | .cls z => [z.ns]
  | .fields vs => (match o.cls with
    | .type n => if n = "property" then vs.toList.flatMap He.refV else []
    | _ => [])
  | _ => []
def groK (g : Addr → Option Obj) (as : List Addr) : List Addr := as.flatMap fun a => match g a with
  | some o => refK o
  | none => []
def asK (g : Addr → Option Obj) : Nat → List Addr → List Addr
  | 0, as => as
  | n + 1, as => as ++ asK g n (groK g as)
def obG (n : Nat) (fa : List He.Fa) (ex : List (Fr → Bool)) (dx : List DX) (g : Addr → Option Obj) : AlK := obK fa ex dx (He.frG g (asK g n [mainGlobals]))
def hkK (n : Nat) (fa : List He.Fa) (ex : List (Fr → Bool)) (dx : List DX) : PySem.W.Hook where
  α := AlK
  obs := fun s => obG n fa ex dx s.heap.get?
  val := fun _ => vaK dx
  says := fun _ h => ∃ K : Fr, K.In h ∧ obK fa ex dx K = vaK dx
  of := fun _ _ e => ⟨_, He.frG_in, e⟩
  keeps := fun _ _ _ ⟨K, hK, c⟩ k => ⟨K, PySem.W.Frag.In.keeps hK k, c⟩
theorem obG_eq {n : Nat} {fa : List He.Fa} {ex : List (Fr → Bool)} {dx : List DX} {g : Addr → Option Obj} {s : Shared} (h : ∀ a, g a = s.heap.get? a) : obG n fa ex dx g = (hkK n fa ex dx).obs s := by
  have e : g = s.heap.get? := funext h
  rw [e] <;> rfl
section
variable {fa : List He.Fa} {ex : List (Fr → Bool)} {dx : List DX} {K : Fr} (c : obK fa ex dx K = vaK dx)
include c
theorem says1 : (fa.all fun f => f.ok K) = true ∧ (ex.all fun f => f K) = true ∧ (dx.all fun d => d.ok K) = true := by
  obtain ⟨h1, h2⟩ := He.ba (show ((fa.all fun f => f.ok K) && ((ex.all fun f => f K) && dx.all fun d => d.ok K)) = true from congrArg (fun z : AlK => z.1) c)
  obtain ⟨h3, h4⟩ := He.ba h2
  exact ⟨h1, h3, h4⟩
theorem says_fa {f : He.Fa} (h : f ∈ fa) : f.ok K = true := List.all_eq_true.mp (says1 c).1 f h
theorem says_ex {f : Fr → Bool} (h : f ∈ ex) : f K = true := List.all_eq_true.mp (says1 c).2.1 f h
theorem says_dx {d : DX} (i : Nat) (h : dx[i]? = some d) : ∃ z, FunD K d.name d.qual d.params d.body d.scope (d.dvs K) [] (d.at_ K) z := by
  have e : dx.map (fun d => d.obs K) = dx.map DX.val := congrArg (fun z : AlK => z.2) c
  have e2 : (dx.map fun d => d.obs K)[i]? = (dx.map DX.val)[i]? := by rw [e]
  rw [List.getElem?_map, List.getElem?_map, h] at e2
  exact DX.funD (Option.some.inj e2) (List.all_eq_true.mp (says1 c).2.2 d (List.mem_of_getElem? h))
end
/-! ### the defs by number: where each stands -/
def gA (x : Str) (K : Fr) : Addr := He.ga K x
def mA (x m : Str) (K : Fr) : Addr := He.ma K (He.ga K x) m
def pA (x m : Str) (K : Fr) : Addr := match PySem.W.recIn K (mA x m K) "property" with
  | some (.ref g :: _) => g
  | _ => 0
def dA (x : Str) (K : Fr) : V := .ref (He.dflAt (x, some "__init__") 0 K)
def d0 : DX := ⟨gA "is_integer", "is_integer", "is_integer", defArgs (top 13), defBody (top 13), defScope (top 13), []⟩
def d1 : DX := ⟨gA "is_list", "is_list", "is_list", defArgs (top 14), defBody (top 14), defScope (top 14), []⟩
def d2 : DX := ⟨gA "want_at_most", "want_at_most", "want_at_most", defArgs (top 15), defBody (top 15), defScope (top 15), []⟩
def d3 : DX := ⟨gA "power_of", "power_of", "power_of", defArgs (top 18), defBody (top 18), defScope (top 18), []⟩
def d4 : DX := ⟨gA "undone_of", "undone_of", "undone_of", defArgs (top 19), defBody (top 19), defScope (top 19), []⟩
def d5 : DX := ⟨gA "sign_of", "sign_of", "sign_of", defArgs (top 20), defBody (top 20), defScope (top 20), []⟩
def d6 : DX := ⟨gA "odd_of", "odd_of", "odd_of", defArgs (top 21), defBody (top 21), defScope (top 21), []⟩
def d7 : DX := ⟨gA "is_rest_by", "is_rest_by", "is_rest_by", defArgs (top 22), defBody (top 22), defScope (top 22), []⟩
def d8 : DX := ⟨gA "want_prime", "want_prime", "want_prime", defArgs (top 23), defBody (top 23), defScope (top 23), []⟩
def d9 : DX := ⟨gA "want_rest", "want_rest", "want_rest", defArgs (top 24), defBody (top 24), defScope (top 24), []⟩
def d10 : DX := ⟨gA "is_prime", "is_prime", "is_prime", defArgs (top 25), defBody (top 25), defScope (top 25), []⟩
def d11 : DX := ⟨gA "sign_rest", "sign_rest", "sign_rest", defArgs (top 26), defBody (top 26), defScope (top 26), []⟩
def d12 : DX := ⟨gA "unit", "unit", "unit", defArgs (top 29), defBody (top 29), defScope (top 29), []⟩
def d13 : DX := ⟨gA "idle_of", "idle_of", "idle_of", defArgs (top 30), defBody (top 30), defScope (top 30), []⟩
def d14 : DX := ⟨gA "dot", "dot", "dot", defArgs (top 31), defBody (top 31), defScope (top 31), []⟩
def d15 : DX := ⟨gA "sum_of", "sum_of", "sum_of", defArgs (top 32), defBody (top 32), defScope (top 32), []⟩
def d16 : DX := ⟨gA "scaled_of", "scaled_of", "scaled_of", defArgs (top 33), defBody (top 33), defScope (top 33), []⟩
def d17 : DX := ⟨gA "mix_of", "mix_of", "mix_of", defArgs (top 34), defBody (top 34), defScope (top 34), []⟩
def d18 : DX := ⟨gA "led_of", "led_of", "led_of", defArgs (top 35), defBody (top 35), defScope (top 35), []⟩
def d19 : DX := ⟨gA "turned_of", "turned_of", "turned_of", defArgs (top 36), defBody (top 36), defScope (top 36), []⟩
def d20 : DX := ⟨gA "row_in", "row_in", "row_in", defArgs (top 37), defBody (top 37), defScope (top 37), []⟩
def d21 : DX := ⟨gA "table_in", "table_in", "table_in", defArgs (top 38), defBody (top 38), defScope (top 38), []⟩
def d22 : DX := ⟨gA "want_row", "want_row", "want_row", defArgs (top 39), defBody (top 39), defScope (top 39), []⟩
def d23 : DX := ⟨gA "want_table", "want_table", "want_table", defArgs (top 40), defBody (top 40), defScope (top 40), []⟩
def d24 : DX := ⟨gA "want_sized", "want_sized", "want_sized", defArgs (top 41), defBody (top 41), defScope (top 41), []⟩
def d25 : DX := ⟨gA "head_of", "head_of", "head_of", defArgs (top 43), defBody (top 43), defScope (top 43), []⟩
def d26 : DX := ⟨gA "heads_of", "heads_of", "heads_of", defArgs (top 44), defBody (top 44), defScope (top 44), []⟩
def d27 : DX := ⟨gA "without", "without", "without", defArgs (top 45), defBody (top 45), defScope (top 45), []⟩
def d28 : DX := ⟨gA "steps_of", "steps_of", "steps_of", defArgs (top 46), defBody (top 46), defScope (top 46), []⟩
def d29 : DX := ⟨gA "zeros_of", "zeros_of", "zeros_of", defArgs (top 47), defBody (top 47), defScope (top 47), []⟩
def d30 : DX := ⟨mA "Known" "__init__", "__init__", "Known.__init__", defArgs (inClass (top 49) 0), defBody (inClass (top 49) 0), defScope (inClass (top 49) 0), []⟩
def d31 : DX := ⟨gA "right_rows", "right_rows", "right_rows", defArgs (top 50), defBody (top 50), defScope (top 50), []⟩
def d32 : DX := ⟨mA "Room" "__init__", "__init__", "Room.__init__", defArgs (inClass (top 51) 0), defBody (inClass (top 51) 0), defScope (inClass (top 51) 0), [dA "Room"]⟩
def d33 : DX := ⟨pA "Room" "size", "size", "Room.size", defArgs (inClass (top 51) 2), defBody (inClass (top 51) 2), defScope (inClass (top 51) 2), []⟩
def d34 : DX := ⟨pA "Room" "rank", "rank", "Room.rank", defArgs (inClass (top 51) 3), defBody (inClass (top 51) 3), defScope (inClass (top 51) 3), []⟩
def d35 : DX := ⟨mA "Room" "rows", "rows", "Room.rows", defArgs (inClass (top 51) 4), defBody (inClass (top 51) 4), defScope (inClass (top 51) 4), []⟩
def d36 : DX := ⟨mA "Room" "still", "still", "Room.still", defArgs (inClass (top 51) 7), defBody (inClass (top 51) 7), defScope (inClass (top 51) 7), []⟩
def d37 : DX := ⟨mA "Room" "led", "led", "Room.led", defArgs (inClass (top 51) 8), defBody (inClass (top 51) 8), defScope (inClass (top 51) 8), []⟩
def d38 : DX := ⟨mA "Room" "__eq__", "__eq__", "Room.__eq__", defArgs (inClass (top 51) 9), defBody (inClass (top 51) 9), defScope (inClass (top 51) 9), []⟩
def d39 : DX := ⟨gA "want_room", "want_room", "want_room", defArgs (top 52), defBody (top 52), defScope (top 52), []⟩
def d40 : DX := ⟨gA "room_of", "room_of", "room_of", defArgs (top 53), defBody (top 53), defScope (top 53), []⟩
def d41 : DX := ⟨gA "between_of", "between_of", "between_of", defArgs (top 54), defBody (top 54), defScope (top 54), []⟩
def d42 : DX := ⟨gA "worth_of", "worth_of", "worth_of", defArgs (top 55), defBody (top 55), defScope (top 55), []⟩
def d43 : DX := ⟨gA "betweens_of", "betweens_of", "betweens_of", defArgs (top 56), defBody (top 56), defScope (top 56), []⟩
def d44 : DX := ⟨gA "led_by", "led_by", "led_by", defArgs (top 57), defBody (top 57), defScope (top 57), []⟩
def d45 : DX := ⟨gA "still_of", "still_of", "still_of", defArgs (top 58), defBody (top 58), defScope (top 58), []⟩
def d46 : DX := ⟨gA "between_by", "between_by", "between_by", defArgs (top 60), defBody (top 60), defScope (top 60), []⟩
def d47 : DX := ⟨gA "first_worthy", "first_worthy", "first_worthy", defArgs (top 61), defBody (top 61), defScope (top 61), []⟩
def d48 : DX := ⟨gA "squares_of", "squares_of", "squares_of", defArgs (top 62), defBody (top 62), defScope (top 62), []⟩
def d49 : DX := ⟨gA "told_last", "told_last", "told_last", defArgs (top 63), defBody (top 63), defScope (top 63), []⟩
def d50 : DX := ⟨gA "kind_in", "kind_in", "kind_in", defArgs (top 64), defBody (top 64), defScope (top 64), []⟩
def d51 : DX := ⟨gA "plain_rows", "plain_rows", "plain_rows", defArgs (top 65), defBody (top 65), defScope (top 65), []⟩
def d52 : DX := ⟨gA "kind_of", "kind_of", "kind_of", defArgs (top 66), defBody (top 66), defScope (top 66), []⟩
def d53 : DX := ⟨gA "plain_room", "plain_room", "plain_room", defArgs (top 67), defBody (top 67), defScope (top 67), []⟩
def d54 : DX := ⟨gA "want_like", "want_like", "want_like", defArgs (top 70), defBody (top 70), defScope (top 70), []⟩
def d55 : DX := ⟨gA "beside", "beside", "beside", defArgs (top 71), defBody (top 71), defScope (top 71), []⟩
def d56 : DX := ⟨gA "scaled", "scaled", "scaled", defArgs (top 72), defBody (top 72), defScope (top 72), []⟩
def d57 : DX := ⟨gA "taken_off", "taken_off", "taken_off", defArgs (top 73), defBody (top 73), defScope (top 73), []⟩
def d58 : DX := ⟨gA "are_beside", "are_beside", "are_beside", defArgs (top 75), defBody (top 75), defScope (top 75), []⟩
def d59 : DX := ⟨gA "alike", "alike", "alike", defArgs (top 76), defBody (top 76), defScope (top 76), []⟩
def d60 : DX := ⟨gA "pairs_in", "pairs_in", "pairs_in", defArgs (top 78), defBody (top 78), defScope (top 78), []⟩
def d61 : DX := ⟨gA "pair_count", "pair_count", "pair_count", defArgs (top 80), defBody (top 80), defScope (top 80), []⟩
def d62 : DX := ⟨gA "powered", "powered", "powered", defArgs (top 82), defBody (top 82), defScope (top 82), []⟩
def d63 : DX := ⟨gA "turned_sign", "turned_sign", "turned_sign", defArgs (top 83), defBody (top 83), defScope (top 83), []⟩
def d64 : DX := ⟨gA "count_in", "count_in", "count_in", defArgs (top 84), defBody (top 84), defScope (top 84), []⟩
def d65 : DX := ⟨gA "counts_of", "counts_of", "counts_of", defArgs (top 85), defBody (top 85), defScope (top 85), []⟩
def d66 : DX := ⟨gA "worth_counts", "worth_counts", "worth_counts", defArgs (top 86), defBody (top 86), defScope (top 86), []⟩
def d67 : DX := ⟨gA "undone_count", "undone_count", "undone_count", defArgs (top 88), defBody (top 88), defScope (top 88), []⟩
def d68 : DX := ⟨gA "upright_keepers", "upright_keepers", "upright_keepers", defArgs (top 89), defBody (top 89), defScope (top 89), []⟩
def d69 : DX := ⟨gA "keepers_by", "keepers_by", "keepers_by", defArgs (top 90), defBody (top 90), defScope (top 90), []⟩
def d70 : DX := ⟨gA "all_keepers", "all_keepers", "all_keepers", defArgs (top 91), defBody (top 91), defScope (top 91), []⟩
def d71 : DX := ⟨gA "keeper_count", "keeper_count", "keeper_count", defArgs (top 92), defBody (top 92), defScope (top 92), []⟩
def d72 : DX := ⟨gA "_law_pot", "_law_pot", "_law_pot", defArgs (top 94), defBody (top 94), defScope (top 94), []⟩
def d73 : DX := ⟨gA "_law_draw", "_law_draw", "_law_draw", defArgs (top 95), defBody (top 95), defScope (top 95), []⟩
def d74 : DX := ⟨gA "_law_pick", "_law_pick", "_law_pick", defArgs (top 96), defBody (top 96), defScope (top 96), []⟩
def d75 : DX := ⟨gA "_law_undone", "_law_undone", "_law_undone", defArgs (top 97), defBody (top 97), defScope (top 97), []⟩
def d76 : DX := ⟨gA "_law_plus", "_law_plus", "_law_plus", defArgs (top 98), defBody (top 98), defScope (top 98), []⟩
def d77 : DX := ⟨gA "_law_between", "_law_between", "_law_between", defArgs (top 99), defBody (top 99), defScope (top 99), []⟩
def d78 : DX := ⟨gA "_law_letters", "_law_letters", "_law_letters", defArgs (top 100), defBody (top 100), defScope (top 100), []⟩
def d79 : DX := ⟨gA "_law_led", "_law_led", "_law_led", defArgs (top 101), defBody (top 101), defScope (top 101), []⟩
def d80 : DX := ⟨gA "_law_room", "_law_room", "_law_room", defArgs (top 102), defBody (top 102), defScope (top 102), []⟩
def d81 : DX := ⟨gA "_law_given", "_law_given", "_law_given", defArgs (top 103), defBody (top 103), defScope (top 103), []⟩
def d82 : DX := ⟨gA "_law_other", "_law_other", "_law_other", defArgs (top 104), defBody (top 104), defScope (top 104), []⟩
def d83 : DX := ⟨gA "_law_beside", "_law_beside", "_law_beside", defArgs (top 105), defBody (top 105), defScope (top 105), []⟩
def d84 : DX := ⟨gA "_law_folded", "_law_folded", "_law_folded", defArgs (top 106), defBody (top 106), defScope (top 106), []⟩
def d85 : DX := ⟨gA "_law_taken_right", "_law_taken_right", "_law_taken_right", defArgs (top 107), defBody (top 107), defScope (top 107), []⟩
def d86 : DX := ⟨gA "_law_right", "_law_right", "_law_right", defArgs (top 108), defBody (top 108), defScope (top 108), []⟩
def d87 : DX := ⟨gA "law", "law", "law", defArgs (top 109), defBody (top 109), defScope (top 109), []⟩
def dx0 : List DX := [d0, d1, d2, d3, d4, d5, d6, d7, d8, d9, d10, d11, d12, d13, d14]
def dx1 : List DX := [d15, d16, d17, d18, d19, d20, d21, d22, d23, d24, d25, d26, d27, d28, d29]
def dx2 : List DX := [d30, d31, d32, d33, d34, d35, d36, d37, d38, d39, d40, d41, d42, d43, d44]
def dx3 : List DX := [d45, d46, d47, d48, d49, d50, d51, d52, d53, d54, d55, d56, d57, d58, d59]
def dx4 : List DX := [d60, d61, d62, d63, d64, d65, d66, d67, d68, d69, d70, d71, d72, d73, d74]
def dx5 : List DX := [d75, d76, d77, d78, d79, d80, d81, d82, d83, d84, d85, d86, d87]
def dxL : List DX := dx0 ++ dx1 ++ dx2 ++ dx3 ++ dx4 ++ dx5
def fa0 : List He.Fa := [.glo "is_integer", .glo "is_list", .glo "want_at_most", .glo "power_of", .glo "undone_of", .glo "sign_of", .glo "odd_of", .glo "is_rest_by", .glo "want_prime", .glo "want_rest", .glo "is_prime", .glo "sign_rest", .glo "unit", .glo "idle_of", .glo "dot"]
def fa1 : List He.Fa := [.glo "sum_of", .glo "scaled_of", .glo "mix_of", .glo "led_of", .glo "turned_of", .glo "row_in", .glo "table_in", .glo "want_row", .glo "want_table", .glo "want_sized", .glo "head_of", .glo "heads_of", .glo "without", .glo "steps_of", .glo "zeros_of"]
def fa2 : List He.Fa := [.glo "Known", .glo "right_rows", .glo "Room", .glo "want_room", .glo "room_of", .glo "between_of", .glo "worth_of", .glo "betweens_of", .glo "led_by", .glo "still_of", .glo "between_by", .glo "first_worthy", .glo "squares_of", .glo "told_last", .glo "kind_in"]
def fa3 : List He.Fa := [.glo "plain_rows", .glo "kind_of", .glo "plain_room", .glo "want_like", .glo "beside", .glo "scaled", .glo "taken_off", .glo "are_beside", .glo "alike", .glo "pairs_in", .glo "pair_count", .glo "powered", .glo "turned_sign", .glo "count_in", .glo "counts_of"]
def fa4 : List He.Fa := [.glo "worth_counts", .glo "undone_count", .glo "upright_keepers", .glo "keepers_by", .glo "all_keepers", .glo "keeper_count", .glo "_law_pot", .glo "_law_draw", .glo "_law_pick", .glo "_law_undone", .glo "_law_plus", .glo "_law_between", .glo "_law_letters", .glo "_law_led", .glo "_law_room"]
def fa5 : List He.Fa := [.glo "_law_given", .glo "_law_other", .glo "_law_beside", .glo "_law_folded", .glo "_law_taken_right", .glo "_law_right", .glo "law", .glo "PRIMES", .free "len", .free "zip", .free "sum", .free "range", .free "tuple", .free "list", .free "any"]
def fa6 : List He.Fa := [.free "all", .free "isinstance", .free "int", .free "max", .free "abs", .free "divmod", .free "enumerate", .free "bool", .free "property", .free "repr", .int "MOST_SIZE_tables" 6, .int "MOST_SIZE_beside" 6, .cls "Room", .cls "Known", .noat "Room" "own_prime"]
def fa7 : List He.Fa := [.noat "Room" "own_rows", .noat "Known" "own_prime", .noat "Known" "own_rows", .meth "Room" "rows", .meth "Room" "still", .meth "Room" "led", .meth "Room" "__eq__", .mkr "Room", .mkr "Known"]
def faL : List He.Fa := fa0 ++ fa1 ++ fa2 ++ fa3 ++ fa4 ++ fa5 ++ fa6 ++ fa7
def nm0 : List PySem.Str := [PySem.Str.ofString "RoomError", PySem.Str.ofString "StateError", PySem.Str.ofString "LimitError", PySem.Str.ofString "InvalidPrime", PySem.Str.ofString "InvalidRest", PySem.Str.ofString "InvalidRoom", PySem.Str.ofString "InvalidRow", PySem.Str.ofString "InvalidTable", PySem.Str.ofString "InvalidRows", PySem.Str.ofString "UnlikePrimes", PySem.Str.ofString "TooMany", PySem.Str.ofString "is_integer", PySem.Str.ofString "is_list", PySem.Str.ofString "want_at_most", PySem.Str.ofString "PRIMES"]
def nm1 : List PySem.Str := [PySem.Str.ofString "power_of", PySem.Str.ofString "undone_of", PySem.Str.ofString "sign_of", PySem.Str.ofString "odd_of", PySem.Str.ofString "is_rest_by", PySem.Str.ofString "want_prime", PySem.Str.ofString "want_rest", PySem.Str.ofString "is_prime", PySem.Str.ofString "sign_rest", PySem.Str.ofString "MOST_SIZE_tables", PySem.Str.ofString "unit", PySem.Str.ofString "idle_of", PySem.Str.ofString "dot", PySem.Str.ofString "sum_of", PySem.Str.ofString "scaled_of"]
def nm2 : List PySem.Str := [PySem.Str.ofString "mix_of", PySem.Str.ofString "led_of", PySem.Str.ofString "turned_of", PySem.Str.ofString "row_in", PySem.Str.ofString "table_in", PySem.Str.ofString "want_row", PySem.Str.ofString "want_table", PySem.Str.ofString "want_sized", PySem.Str.ofString "head_of", PySem.Str.ofString "heads_of", PySem.Str.ofString "without", PySem.Str.ofString "steps_of", PySem.Str.ofString "zeros_of", PySem.Str.ofString "Known", PySem.Str.ofString "right_rows"]
def nm3 : List PySem.Str := [PySem.Str.ofString "Room", PySem.Str.ofString "want_room", PySem.Str.ofString "room_of", PySem.Str.ofString "between_of", PySem.Str.ofString "worth_of", PySem.Str.ofString "betweens_of", PySem.Str.ofString "led_by", PySem.Str.ofString "still_of", PySem.Str.ofString "between_by", PySem.Str.ofString "first_worthy", PySem.Str.ofString "squares_of", PySem.Str.ofString "told_last", PySem.Str.ofString "kind_in", PySem.Str.ofString "plain_rows", PySem.Str.ofString "kind_of"]
def nm4 : List PySem.Str := [PySem.Str.ofString "plain_room", PySem.Str.ofString "MOST_SIZE_beside", PySem.Str.ofString "want_like", PySem.Str.ofString "beside", PySem.Str.ofString "scaled", PySem.Str.ofString "taken_off", PySem.Str.ofString "are_beside", PySem.Str.ofString "alike", PySem.Str.ofString "pairs_in", PySem.Str.ofString "pair_count", PySem.Str.ofString "powered", PySem.Str.ofString "turned_sign", PySem.Str.ofString "count_in", PySem.Str.ofString "counts_of", PySem.Str.ofString "worth_counts"]
def nm5 : List PySem.Str := [PySem.Str.ofString "undone_count", PySem.Str.ofString "upright_keepers", PySem.Str.ofString "keepers_by", PySem.Str.ofString "all_keepers", PySem.Str.ofString "keeper_count", PySem.Str.ofString "_law_pot", PySem.Str.ofString "_law_draw", PySem.Str.ofString "_law_pick", PySem.Str.ofString "_law_undone", PySem.Str.ofString "_law_plus", PySem.Str.ofString "_law_between", PySem.Str.ofString "_law_letters", PySem.Str.ofString "_law_led", PySem.Str.ofString "_law_room", PySem.Str.ofString "_law_given"]
def nm6 : List PySem.Str := [PySem.Str.ofString "_law_other", PySem.Str.ofString "_law_beside", PySem.Str.ofString "_law_folded", PySem.Str.ofString "_law_taken_right", PySem.Str.ofString "_law_right"]
def names : List PySem.Str := nm0 ++ nm1 ++ nm2 ++ nm3 ++ nm4 ++ nm5 ++ nm6

/-! ### further facts, each by a look -/
def cR (K : Fr) : Addr := He.ga K "Room"
def cK (K : Fr) : Addr := He.ga K "Known"
def isiB (C : Addr) (K : Fr) : Bool := He.eqO (PySem.W.findIn K (.ref C) "__class__") (some (some (.builtin "object.__class__"))) && (decide (PySem.W.specialIn K (.builtin "object.__class__") "__get__" = some (some (.builtin "getset_descriptor.__get__"))) &&
  (decide (PySem.W.takesIn K (.builtin "object.__class__") = some true) && decide (PySem.W.mroIn K C (.type "object") = some true)))
def proB (C : Addr) (f : Str) (p : Addr) (g : Addr) (K : Fr) : Bool := He.eqO (PySem.W.findIn K (.ref C) f) (some (some (.ref p))) && (decide (PySem.W.specialIn K (.ref p) "__get__" = some (some (.builtin "property.__get__"))) &&
  (decide (PySem.W.takesIn K (.ref p) = some true) && (match PySem.W.recIn K p "property" with
    | some (.ref q :: _) => decide (q = g)
    | _ => false)))
def exL : List (Fr → Bool) := [fun K => isiB (cR K) K, fun K => isiB (cK K) K, fun K => proB (cR K) "size" (mA "Room" "size" K) (pA "Room" "size" K) K, fun K => proB (cR K) "rank" (mA "Room" "rank" K) (pA "Room" "rank" K) K,
  fun K => decide (PySem.W.kitOne K (.ref (cR K)) (.ref (cR K)) = some true), fun K => decide (PySem.W.kitOne K (.ref (cK K)) (.ref (cK K)) = some true), fun K => decide (PySem.W.kitOne K (.type "int") (.ref (cK K)) = some false),
  fun K => He.eqO (PySem.W.findIn K (.ref (cR K)) "__ne__") (some (some (.builtin "object.__ne__"))), fun K => He.tupB K "PRIMES" [.int 3, .int 5, .int 7, .int 11, .int 13], fun K => PySem.W.notFirst K (cR K) (.ref (cR K))]
def Says (K : Fr) : Prop := obK faL exL dxL K = vaK dxL
abbrev RR : PySem.W.OpenRow := PySem.W.OpenLaw.row PySem.Challenge.rw_restkeepers_k06_whole_side_by_side_and_t
abbrev hk : PySem.W.Hook := hkK 6 faL exL dxL
def ob (s : PySem.W.SharedT) : AlK := obG 6 faL exL dxL (HandSHeadRun.getT s)
theorem ob_eq (s : PySem.W.SharedT) : ob s = hk.obs s.abs := obG_eq (HandSHeadRun.getT_eq s)
end K06
/-! ==== KT ==== -/
set_option Elab.async false
set_option linter.all false
set_option maxRecDepth 100000
set_option maxHeartbeats 4000000
namespace K06
open PySem L2 PySem.Spec PyProof.Rows RZ
/-! ### what a proof of a def leans on -/
structure Tx (K : Fr) (mg : Str → Option Value) : Prop where
  c : Says K
  X : ∃ h : Heap, K.In h ∧ h.Ns mainGlobals mg
section
variable {K : Fr} {mg : Str → Option Value} (T : Tx K mg)
include T
theorem Tx.fa (i : Nat) {f : He.Fa} (h : faL[i]? = some f) : f.ok K = true := says_fa T.c (List.mem_of_getElem? h)
theorem Tx.ex (i : Nat) {f : Fr → Bool} (h : exL[i]? = some f) : f K = true := says_ex T.c (List.mem_of_getElem? h)
theorem Tx.dx (i : Nat) {d : DX} (h : dxL[i]? = some d) : ∃ z, FunD K d.name d.qual d.params d.body d.scope (d.dvs K) [] (d.at_ K) z := says_dx T.c i h
theorem Tx.gl (i : Nat) {x : Str} (h : faL[i]? = some (.glo x)) : mg x = some (.ref (gA x K)) := by
  obtain ⟨hp, X, G⟩ := T.X
  exact He.glo_ok X G (T.fa i h)
theorem Tx.fr (i : Nat) {x : Str} (h : faL[i]? = some (.free x)) : mg x = none := by
  obtain ⟨hp, X, G⟩ := T.X
  exact He.free_ok X G (T.fa i h)
theorem Tx.it (i : Nat) {x : Str} {n : Int} (h : faL[i]? = some (.int x n)) : ∃ t, mg x = some (.int n t) := by
  obtain ⟨hp, X, G⟩ := T.X
  exact He.int_ok X G (T.fa i h)
theorem m_len : mg "len" = none := T.fr 83 rfl
theorem m_zip : mg "zip" = none := T.fr 84 rfl
theorem m_sum : mg "sum" = none := T.fr 85 rfl
theorem m_range : mg "range" = none := T.fr 86 rfl
theorem m_tuple : mg "tuple" = none := T.fr 87 rfl
theorem m_list : mg "list" = none := T.fr 88 rfl
theorem m_any : mg "any" = none := T.fr 89 rfl
theorem m_all : mg "all" = none := T.fr 90 rfl
theorem m_isinstance : mg "isinstance" = none := T.fr 91 rfl
theorem m_int : mg "int" = none := T.fr 92 rfl
theorem m_max : mg "max" = none := T.fr 93 rfl
theorem m_abs : mg "abs" = none := T.fr 94 rfl
theorem m_divmod : mg "divmod" = none := T.fr 95 rfl
theorem m_enumerate : mg "enumerate" = none := T.fr 96 rfl
theorem m_bool : mg "bool" = none := T.fr 97 rfl
theorem m_property : mg "property" = none := T.fr 98 rfl
theorem m_repr : mg "repr" = none := T.fr 99 rfl
end
end K06
/-! ==== KF ==== -/
set_option Elab.async false
set_option linter.all false
set_option maxRecDepth 100000
set_option maxHeartbeats 4000000
namespace K06
open PySem L2 PySem.Spec PyProof.Rows RZ
/-! ### further rules -/
/-- a list or a tuple -/
def rS {α : Type} (r : Rp α) : Rp (List α) := ⟨fun K H v xs => (rL r).rel K H v xs ∨ (rT r).rel K H v xs, fun e h => h.elim (fun h => .inl ((rL r).mono e h)) fun h => .inr ((rT r).mono e h)⟩
/-- a list or a tuple, of whatever -/
def rAny : Rp Unit := ⟨fun _ H v _ => ∃ a vs, v = .ref a ∧ (H a = some (.lst vs) ∨ H a = some (.tup vs)), fun e h => by
  obtain ⟨a, vs, h1, h2⟩ := h
  exact ⟨a, vs, h1, h2.elim (fun h => .inl (e _ _ h)) fun h => .inr (e _ _ h)⟩⟩
theorem rS_any {α : Type} {r : Rp α} {K : Fr} {H : Hp} {v : V} {xs : List α} (h : (rS r).rel K H v xs) : rAny.rel K H v () := by
  rcases h with ⟨a, vs, h1, h2, _⟩ | ⟨a, vs, h1, h2, _⟩
  · exact ⟨a, vs, h1, .inl h2⟩
  · exact ⟨a, vs, h1, .inr h2⟩
/-- a kind of sequence, read alike -/
class Sq {α : Type} (rr : Rp (List α)) (r : Rp α) : Prop where
  lt : rr = rL r ∨ rr = rT r
instance {α : Type} {r : Rp α} : Sq (rL r) r := ⟨.inl rfl⟩
instance {α : Type} {r : Rp α} : Sq (rT r) r := ⟨.inr rfl⟩
theorem sq_S {α : Type} {rr : Rp (List α)} {r : Rp α} [q : Sq rr r] {K : Fr} {H : Hp} {v : V} {xs : List α} (h : rr.rel K H v xs) : (rS r).rel K H v xs := by
  rcases q.lt with e | e
  · subst e
    exact .inl h
  · subst e
    exact .inr h
/-- a room -/
def rR (K0 : Fr) : Rp (Int × Tb) := ⟨fun K H v x => ∃ a dx w, v = .ref a ∧ H a = some (.ins (cR K0) dx [("own_prime", .int x.1), ("own_rows", w)]) ∧ (rT (rT rI)).rel K H w x.2, fun e h => by
  obtain ⟨a, dx, w, h1, h2, h3⟩ := h
  exact ⟨a, dx, w, h1, e _ _ h2, (rT (rT rI)).mono e h3⟩⟩
def rK (K0 : Fr) : Rp (Int × Tb) := ⟨fun K H v x => ∃ a dx w, v = .ref a ∧ H a = some (.ins (cK K0) dx [("own_prime", .int x.1), ("own_rows", w)]) ∧ (rT (rT rI)).rel K H w x.2, fun e h => by
  obtain ⟨a, dx, w, h1, h2, h3⟩ := h
  exact ⟨a, dx, w, h1, e _ _ h2, (rT (rT rI)).mono e h3⟩⟩
section
variable {X : Cx} {σ : L2.St} {H H' : Hp} {α β γ : Type} {r : Rp α} {q : Rp β} {p : Rp γ} {pos : Pos} {e a b c : Expr}
theorem ev_weak {x : α} {y : β} (h : Ev X σ H e r x) (k : ∀ {H1 v}, r.rel X.K H1 v x → q.rel X.K H1 v y) : Ev X σ H e q y := fun H1 s Q c => h H1 s Q fun v H2 s2 hv => c v H2 s2 (k hv)
theorem src_Q {rr : Rp (List α)} [z : Sq rr r] {tg : Expr} {xs : List α} (ha : Ev X σ H a rr xs) : Src X σ H tg a xs.length (Y1 X.K r xs) := by
  rcases z.lt with e | e
  · subst e
    exact src_L ha
  · subst e
    exact src_T ha
theorem ev_lenQ {rr : Rp (List α)} [z : Sq rr r] {xs : List α} {p2 : Pos} (hm : X.mg "len" = none) (ha : Ev X σ H a rr xs) (hg : Gl X "len" := by rfl) (he : starEach [a] X.env = (false, eval a X.env) :: starEach [] X.env := by rfl) : Ev X σ H (.Call (.Name "len" p2) [a] [] pos) rI (xs.length : Int) := by
  rcases z.lt with e | e
  · subst e
    exact ev_lenL hm ha hg he
  · subst e
    exact ev_lenT hm ha hg he
theorem ev_tupQ {rr : Rp (List α)} [z : Sq rr r] {xs : List α} {p2 : Pos} (hm : X.mg "tuple" = none) (ha : Ev X σ H a rr xs) (hg : Gl X "tuple" := by rfl) (he : starEach [a] X.env = (false, eval a X.env) :: starEach [] X.env := by rfl) : Ev X σ H (.Call (.Name "tuple" p2) [a] [] pos) (rT r) xs := by
  rcases z.lt with e | e
  · subst e
    exact ev_tupL hm ha hg he
  · subst e
    exact ev_tupT hm ha hg he
/-- x <= y < z, of whole numbers -/
theorem ev_leLt {x y z : Int} (ha : Ev X σ H a rI x) (hb : Ev X σ H b rI y) (hc : Ev X σ H c rI z) (hm : lastMarks [.LtE, .Lt] [b, c] = false := by with_unfolding_all rfl) : Ev X σ H (.Compare a [.LtE, .Lt] [b, c] pos) rB (decide (x ≤ y) && decide (y < z)) :=
  ev_of (pe_chain op_le op_lt cE_pe cE_pe cE_pe hm) fun H1 s Q k => ha H1 s _ fun u H2 s2 hu => hb H2 (s.trans s2) _ fun v H3 s3 hv => ⟨x, y, hu, hv, decide (x ≤ y), rfl, by
    by_cases g : x ≤ y
    · rw [decide_eq_true g] at k ⊢
      exact iteT (hc H3 ((s.trans s2).trans s3) _ fun w H4 s4 hw => ⟨y, z, hv, hw, k _ H4 ((s2.trans s3).trans s4) rfl⟩)
    · rw [decide_eq_false g] at k ⊢
      exact iteF (k _ H3 (s2.trans s3) rfl)⟩
theorem et_leLe {x y z : Int} (ha : Ev X σ H a rI x) (hb : Ev X σ H b rI y) (hc : Ev X σ H c rI z) (hm : lastMarks [.LtE, .LtE] [b, c] = false := by with_unfolding_all rfl) : EvT X σ H (.Compare a [.LtE, .LtE] [b, c] pos) (decide (x ≤ y) && decide (y ≤ z)) :=
  evT_of (pt_chain op_le op_le cE_pe cE_pe cE_pe hm) fun H1 s Q k => ha H1 s _ fun u H2 s2 hu => hb H2 (s.trans s2) _ fun v H3 s3 hv => ⟨x, y, hu, hv, decide (x ≤ y), rfl, by
    by_cases g : x ≤ y
    · rw [decide_eq_true g] at k ⊢
      exact iteT (hc H3 ((s.trans s2).trans s3) _ fun w H4 s4 hw => ⟨y, z, hv, hw, _, rfl, k H4 ((s2.trans s3).trans s4)⟩)
    · rw [decide_eq_false g] at k ⊢
      exact iteF ⟨false, rfl, k H3 (s2.trans s3)⟩⟩
/-- isinstance(x, a class) -/
theorem ev_isi {x : α} {C : V} {t u : Value} {k : Bool} {p2 : Pos} (hm : X.mg "isinstance" = none) (ha : Ev X σ H a r x) (hc : PE X c (tC C)) (hC : ClsV C u) (ht : ∀ {H1 v}, r.rel X.K H1 v x → TyX X.K H1 v t) (hk : PySem.W.kitOne X.K t u = some k)
    (hg : Gl X "isinstance" := by rfl) (hs : starEach [a, c] X.env = (false, eval a X.env) :: starEach [c] X.env := by rfl) (hs2 : starEach [c] X.env = (false, eval c X.env) :: starEach [] X.env := by rfl) (hpl : (backTo pos (starEach [c] X.env)).any (·.1) = false := by rfl) :
    Ev X σ H (.Call (.Name "isinstance" p2) [a, c] [] pos) rB k :=
  ev_cb call_isi hm (by decide +kernel) (ea_c ha (ea_1 (r := rV C) (x := ()) (ev_of hc fun H1 _ Q k => k C H1 (Same.refl H1) rfl) hs2) hs) (fun H1 _ vs hvs Q k2 => by
    obtain ⟨v, w, rfl, h1, h2⟩ := a2 hvs
    cases (show w = C from h2)
    exact ⟨v, C, t, u, k, rfl, hC, ht h1, hk, k2 _ H1 (Same.refl H1) rfl⟩) hg (he := hs) (hpl := hpl)
theorem pe_tyN {x : Str} {n : String} {p2 : Pos} (hm : X.mg x = none) (hv : bootBuiltins x = some (.type n)) (hg : Gl X x := by rfl) (hn : x ≠ "__name__" := by decide) (hd : (x == ("__debug__" : Str)) = false := by decide) : PE X (.Name x p2) (tC (.ty n)) := pe_bltn hg hm hv rfl hn hd
/-- isinstance(x, (list, tuple)) -/
theorem ev_isList {k : Nat} {p2 p3 p4 p5 : Pos} (hm : X.mg "isinstance" = none) (hml : X.mg "list" = none) (hmt : X.mg "tuple" = none) (ha : Ev X σ H a rAny ()) (hg : Gl X "isinstance" := by rfl) (hgl : Gl X "list" := by rfl) (hgt : Gl X "tuple" := by rfl)
    (hs : starEach [a, .Tuple [.Name "list" p2, .Name "tuple" p3] k p4] X.env = (false, eval a X.env) :: starEach [.Tuple [.Name "list" p2, .Name "tuple" p3] k p4] X.env := by rfl) :
    Ev X σ H (.Call (.Name "isinstance" p5) [a, .Tuple [.Name "list" p2, .Name "tuple" p3] k p4] [] pos) rB true := by
  refine ev_of (pe_callB (t := fun σ1 H1 Q => cE X a σ1 H1 fun v H2 => ∀ l, H2 l = none → Q [v, .ref l] (upd H2 l (.tup [.ty "list", .ty "tuple"]))) call_isiT hg hm (by decide +kernel) ?_ (by decide) (by decide) hs rfl) fun H1 s Q c => ha H1 s _ fun v H2 s2 hv l hl => ?_
  · refine (⟨fun pos pins s σ H Q I h => (pa_cons (cE_pe (X := X) (e := a)) (pa_cons (pe_tup (pa_cons (pe_tyN (n := "list") hml (by decide +kernel) hgl) (pa_cons (pe_tyN (n := "tuple") hmt (by decide +kernel) hgt) pa_nil rfl) rfl)) pa_nil rfl) hs).run pos pins s σ H Q I ?_⟩)
    exact fun pins s I => thn (h pins s I) fun u s' ⟨v, H2, I2, r2, q2⟩ => ⟨v, H2, I2, r2, ⟨by show 2 ≤ sizeLine; decide, fun l hl => q2 l hl⟩⟩
  · have s3 := same_new (o := HO.tup [.ty "list", .ty "tuple"]) hl
    obtain ⟨z, vs, rfl, h1⟩ := rAny.mono s3 hv
    rcases h1 with h1 | h1
    · exact ⟨.ref z, l, [.ty "list", .ty "tuple"], .type "list", [.type "list", .type "tuple"], true, rfl, upd_same, .cons (.ty _) (.cons (.ty _) .nil), .base (.lst h1), kitAny_cons (b := true) (kit_ty (by decide +kernel)) (fun z => nomatch z) fun _ => rfl, c _ _ (s2.trans s3) rfl⟩
    · exact ⟨.ref z, l, [.ty "list", .ty "tuple"], .type "tuple", [.type "list", .type "tuple"], true, rfl, upd_same, .cons (.ty _) (.cons (.ty _) .nil), .base (.tup h1),
        kitAny_cons (b := false) (kit_ty (by decide +kernel)) (fun _ => kitAny_cons (b := true) (kit_ty (by decide +kernel)) (fun z => nomatch z) fun _ => rfl) (fun z => nomatch z), c _ _ (s2.trans s3) rfl⟩
/-- the attributes of a room -/
theorem ev_fld {x : α} {y : β} {f : Str} (ha : Ev X σ H a r x) (hf : ∀ {H1 v}, r.rel X.K H1 v x → ∃ z C dx fs w, v = .ref z ∧ H1 z = some (.ins C dx fs) ∧ Cls X.K C ∧ NoAttr X.K C f ∧ fs.lookup f = some w ∧ q.rel X.K H1 w y)
    (hb : attributeBase a f X.env (eval a X.env) = eval a X.env := by rfl) : Ev X σ H (.Attribute a f pos) q y :=
  ev_of (pe_fld cE_pe hb) fun H1 s Q k => ha H1 s _ fun v H2 s2 hv => by
    obtain ⟨z, C, dx, fs, w, h1, h2, h3, h4, h5, h6⟩ := hf hv
    exact ⟨z, C, dx, fs, w, h1, h2, h3, h4, h5, k w H2 s2 h6⟩
end
section
variable {X : Cx} {σ : L2.St} {H H' : Hp} {α : Type} {r : Rp α} {pos : Pos} {e a b c : Expr} {mg : Str → Option Value}
theorem ev_prime {x : Int × Tb} (T : Tx X.K mg) (ha : Ev X σ H a (rR X.K) x) (hb : attributeBase a "own_prime" X.env (eval a X.env) = eval a X.env := by rfl) : Ev X σ H (.Attribute a "own_prime" pos) rI x.1 :=
  ev_fld ha (fun {H1 v} h => by
    obtain ⟨z, dx, w, h1, h2, h3⟩ := h
    exact ⟨z, _, dx, _, _, h1, h2, He.cls_ok (T.fa 102 rfl), He.noat_ok (T.fa 104 rfl), rfl, rfl⟩) hb
theorem ev_rows {x : Int × Tb} (T : Tx X.K mg) (ha : Ev X σ H a (rR X.K) x) (hb : attributeBase a "own_rows" X.env (eval a X.env) = eval a X.env := by rfl) : Ev X σ H (.Attribute a "own_rows" pos) (rT (rT rI)) x.2 :=
  ev_fld ha (fun {H1 v} h => by
    obtain ⟨z, dx, w, h1, h2, h3⟩ := h
    exact ⟨z, _, dx, _, w, h1, h2, He.cls_ok (T.fa 102 rfl), He.noat_ok (T.fa 105 rfl), rfl, h3⟩) hb
theorem ev_primeK {x : Int × Tb} (T : Tx X.K mg) (ha : Ev X σ H a (rK X.K) x) (hb : attributeBase a "own_prime" X.env (eval a X.env) = eval a X.env := by rfl) : Ev X σ H (.Attribute a "own_prime" pos) rI x.1 :=
  ev_fld ha (fun {H1 v} h => by
    obtain ⟨z, dx, w, h1, h2, h3⟩ := h
    exact ⟨z, _, dx, _, _, h1, h2, He.cls_ok (T.fa 103 rfl), He.noat_ok (T.fa 106 rfl), rfl, rfl⟩) hb
theorem ev_rowsK {x : Int × Tb} (T : Tx X.K mg) (ha : Ev X σ H a (rK X.K) x) (hb : attributeBase a "own_rows" X.env (eval a X.env) = eval a X.env := by rfl) : Ev X σ H (.Attribute a "own_rows" pos) (rT (rT rI)) x.2 :=
  ev_fld ha (fun {H1 v} h => by
    obtain ⟨z, dx, w, h1, h2, h3⟩ := h
    exact ⟨z, _, dx, _, w, h1, h2, He.cls_ok (T.fa 103 rfl), He.noat_ok (T.fa 107 rfl), rfl, h3⟩) hb
end
end K06
/-! ==== KG ==== -/
set_option Elab.async false
set_option linter.all false
set_option maxRecDepth 100000
set_option maxHeartbeats 4000000
namespace K06
open PySem L2 PySem.Spec PyProof.Rows RZ
theorem fold_take {α β : Type} (f : β → α → β) {xs : List α} {i : Nat} {x : α} (b : β) (h : xs[i]? = some x) : (xs.take (i + 1)).foldl f b = f ((xs.take i).foldl f b) x := by
  rw [List.take_succ, h, List.foldl_append]
  rfl
theorem tx_I {K : Fr} {H : Hp} {v : V} {x : Int} (h : rI.rel K H v x) : TyX K H v (.type "int") := by
  cases (show v = V.int x from h)
  exact .base (.int _)
theorem inB {x n : Int} (h : 0 ≤ x ∧ x < n) : (decide (0 ≤ x) && decide (x < n)) = true := by rw [decide_eq_true h.1, decide_eq_true h.2]; rfl
theorem some_T {α : Type} {r : Rp α} {K : Fr} {H : Hp} {v : V} {x : List α} (h : (rT r).rel K H v x) : (rO (rT r)).rel K H v (some x) := ⟨by
  obtain ⟨a, vs, e, _⟩ := h
  rw [e]
  exact (fun e => nomatch e), h⟩
theorem pr_unsome {α : Type} {r : Rp α} {K : Fr} {H : Hp} : ∀ {vs : List V} {xs : List α}, Paired ((rO r).rel K H) vs (xs.map some) → Paired (r.rel K H) vs xs
  | _, [], .nil => .nil
  | _, x :: xs, .cons h t => .cons h.2 (pr_unsome t)
section
variable {X : Cx} {σ : L2.St} {H H' : Hp} {α β γ δ : Type} {r : Rp α} {q : Rp β} {p : Rp γ} {pos spos : Pos} {e a b : Expr}
variable {D : Ends} {rest body els : List Stmt} {scope : Scope} {elt iter c : Expr} {y z nm : Str} {py pz pt pn : Pos} {j k kk i : Nat}
theorem ev_gi {x : Str} {n : Int} (hm : ∃ t, X.mg x = some (.int n t)) (hg : Gl X x := by rfl) (hd : (x == ("__debug__" : Str)) = false := by decide) : Ev X σ H (.Name x pos) rI n := by
  obtain ⟨t, ht⟩ := hm
  exact ev_of (pe_glob (v := .int n) hg ht ⟨_, rfl⟩ hd) fun H1 _ Q k => k _ H1 (Same.refl H1) rfl
theorem ev_ixTd {xs : List α} {x : Int} {d : α} (ha : Ev X σ H a (rT r) xs) (hb : Ev X σ H b rI x) (hx : 0 ≤ x ∧ x < xs.length) (hs : PlainIx b := by exact fun _ _ => rfl) : Ev X σ H (.Subscript a b pos) r (xs.getD x.toNat d) := by
  refine ev_ixT (j := x.toNat) ha (hb.is (by omega)) ?_ hs
  rw [List.getD_eq_getElem?_getD, List.getElem?_eq_getElem (by omega)]
  rfl
theorem ev_ixLd {xs : List α} {x : Int} {d : α} (ha : Ev X σ H a (rL r) xs) (hb : Ev X σ H b rI x) (hx : 0 ≤ x ∧ x < xs.length) (hs : PlainIx b := by exact fun _ _ => rfl) : Ev X σ H (.Subscript a b pos) r (xs.getD x.toNat d) := by
  refine ev_ixL (j := x.toNat) ha (hb.is (by omega)) ?_ hs
  rw [List.getD_eq_getElem?_getD, List.getElem?_eq_getElem (by omega)]
  rfl
/-- name = [elt for y in iter] -/
theorem cs_set1 {xs : List α} {f : α → β} [Fz q] (nd : X.N.Nodup) (hi : X.N[i]? = some nm) (src : Src X σ H (.Name y py) iter xs.length (Y1 X.K r xs)) (ok : BlkOk X.N X.env.scope scope [(y, j)]) (ow : Own X scope y j)
    (he : ∀ s Hs C cl fp, ∀ x ∈ xs, ∀ v H1, Same H H1 → r.rel X.K H1 v x → Ev (Bk X scope s Hs C cl fp) (σ.set j (some v)) H1 elt q (f x))
    (k : ∀ v H1, Same H H1 → (rL q).rel X.K H1 v (xs.map f) → cS X rest D (σ.set i (some v)) H1) (hyl : X.env.scope.names.lookup nm = some .local := by rfl)
    (hsw : swapsWith (.ListComp elt [⟨.Name y py, iter, [], 0⟩] scope pos) (some (.Name nm pn)) spos.line X.env = pure true := by rfl) (hc : X.calm = true := by rfl) (hs : ∀ x, foldedSetIterable iter X.env x = pure x := by intro _; rfl) :
    cS X (.Assign [.Name nm pn] (.ListComp elt [⟨.Name y py, iter, [], 0⟩] scope pos) spos :: rest) D σ H := by
  obtain ⟨wi, hi', hw⟩ := src
  have e : (xs.filter fun _ => true).map f = xs.map f := by rw [List.filter_eq_self.mpr fun _ _ => rfl]
  rw [← e] at k
  exact cs_setC (own := [(y, j)]) (te := cEb X scope elt) nd hi hi' ok (own_pg nd ow) (fun _ _ _ _ _ => pts_nil) (fun s Hs C cl fp => cEb_pe s Hs C cl fp)
    (lc_1 (te := cEb X scope elt) hw (fun _ _ v H1 _ _ Q k => k H1 (Same.refl H1)) fun x hx _ v H1 s1 hv Q k s Hs C cl fp => he s Hs C cl fp x hx v H1 s1 hv H1 (Same.refl H1) Q k) k hyl hsw hc hs
theorem cs_set1f {xs : List α} {f : α → β} {cf : α → Bool} [Fz q] (nd : X.N.Nodup) (hi : X.N[i]? = some nm) (src : Src X σ H (.Name y py) iter xs.length (Y1 X.K r xs)) (ok : BlkOk X.N X.env.scope scope [(y, j)]) (ow : Own X scope y j)
    (ht : ∀ s Hs C cl fp, ∀ x ∈ xs, ∀ v H1, Same H H1 → r.rel X.K H1 v x → EvT (Bk X scope s Hs C cl fp) (σ.set j (some v)) H1 c (cf x))
    (he : ∀ s Hs C cl fp, ∀ x ∈ xs, cf x = true → ∀ v H1, Same H H1 → r.rel X.K H1 v x → Ev (Bk X scope s Hs C cl fp) (σ.set j (some v)) H1 elt q (f x))
    (k : ∀ v H1, Same H H1 → (rL q).rel X.K H1 v ((xs.filter cf).map f) → cS X rest D (σ.set i (some v)) H1) (hyl : X.env.scope.names.lookup nm = some .local := by rfl)
    (hsw : swapsWith (.ListComp elt [⟨.Name y py, iter, [c], 0⟩] scope pos) (some (.Name nm pn)) spos.line X.env = pure true := by rfl) (hc : X.calm = true := by rfl) (hs : ∀ x, foldedSetIterable iter X.env x = pure x := by intro _; rfl) :
    cS X (.Assign [.Name nm pn] (.ListComp elt [⟨.Name y py, iter, [c], 0⟩] scope pos) spos :: rest) D σ H := by
  obtain ⟨wi, hi', hw⟩ := src
  exact cs_setC (own := [(y, j)]) (te := cEb X scope elt) (tt := cTb X scope c) nd hi hi' ok (own_pg nd ow) (fun s Hs C cl fp => pts_one (cTb_pt s Hs C cl fp)) (fun s Hs C cl fp => cEb_pe s Hs C cl fp)
    (lc_1 (te := cEb X scope elt) (tt := cTb X scope c) hw (fun x hx v H1 s1 hv Q k s Hs C cl fp => ht s Hs C cl fp x hx v H1 s1 hv H1 (Same.refl H1) Q k) fun x hx hc v H1 s1 hv Q k s Hs C cl fp => he s Hs C cl fp x hx hc v H1 s1 hv H1 (Same.refl H1) Q k) k hyl hsw hc hs
end
/-- value in PRIMES -/
def inP (x : Int) : Bool := [3, 5, 7, 11, 13].any fun y => y == x
theorem ev_inP {X : Cx} {σ : L2.St} {H : Hp} {a : Expr} {p2 pos : Pos} {x : Int} (T : Tx X.K X.mg) (ha : Ev X σ H a rI x) (hg : Gl X "PRIMES" := by rfl) : Ev X σ H (.Compare a [.In] [.Name "PRIMES" p2] pos) rB (inP x) :=
  ev_cmp (r := rI) (q := rV (.ref (gA "PRIMES" X.K))) (y := ()) op_in_seq ha (ev_of (pe_glob (v := .ref (gA "PRIMES" X.K)) hg (T.gl 82 rfl) rfl (by decide)) fun H1 _ Q k => k _ H1 (Same.refl H1) rfl) rfl fun H1 _ u w hu hw Q k => by
    cases (show u = V.int x from hu)
    cases (show w = V.ref (gA "PRIMES" X.K) from hw)
    have h := He.tupB_ok (T.ex 8 rfl) H1
    refine ⟨_, _, rfl, .inr h, rfl, rfl, k _ H1 (Same.refl H1) ?_⟩
    exact congrArg V.bl (inv_ints x [3, 5, 7, 11, 13])
end K06
/-! ==== KI ==== -/
set_option Elab.async false
set_option linter.all false
set_option maxRecDepth 100000
set_option maxHeartbeats 4000000
namespace K06
open PySem L2 PySem.Spec PyProof.Rows RZ
/-- data that may be compared -/
class Dt {α : Type} (r : Rp α) where
  d : α → PyData
  n : Nat
  dp : ∀ {K : Fr} {H : Hp} {v : V} {x : α}, r.rel K H v x → Dp K H v (d x)
  lay : ∀ x, (d x).canLay0 = true
  dep : ∀ x, (d x).depth ≤ n
  eq : ∀ x y, PyData.eqv (d x) (d y) = true ↔ x = y
instance : Dt rI where
  d := .int
  n := 0
  dp := fun {K H v x} h => by
    cases (show v = V.int x from h)
    exact .int _
  lay := fun _ => rfl
  dep := fun _ => Nat.le_refl _
  eq := fun x y => by
    show (x == y) = true ↔ x = y
    exact beq_iff_eq
instance : Dt rB where
  d := .bool
  n := 0
  dp := fun {K H v x} h => by
    cases (show v = V.bl x from h)
    exact .bl _
  lay := fun _ => rfl
  dep := fun _ => Nat.le_refl _
  eq := fun x y => by
    show (x == y) = true ↔ x = y
    exact beq_iff_eq
section
variable {α β γ : Type} {r : Rp α} {q : Rp β} {p : Rp γ} [I : Dt r] [J : Dt q] [L : Dt p]
theorem dpAll {K : Fr} {H : Hp} : ∀ {vs : List V} {xs : List α}, Paired (r.rel K H) vs xs → DpAll K H vs (xs.map I.d)
  | _, _, .nil => .nil
  | _, _, .cons h t => .cons (I.dp h) (dpAll t)
theorem layAll : ∀ xs : List α, PyData.canLayAll0 (xs.map I.d) = true
  | [] => rfl
  | x :: xs => by
    show (PyData.canLay0 (I.d x) && PyData.canLayAll0 (xs.map I.d)) = true
    rw [I.lay, layAll xs]
    rfl
theorem depAll : ∀ xs : List α, PyData.depthAll (xs.map I.d) ≤ I.n
  | [] => Nat.zero_le _
  | x :: xs => Nat.max_le.mpr ⟨I.dep x, depAll xs⟩
theorem eqAll : ∀ xs ys : List α, PyData.eqvAll (xs.map I.d) (ys.map I.d) = true ↔ xs = ys
  | [], [] => ⟨fun _ => rfl, fun _ => rfl⟩
  | [], y :: ys => ⟨fun h => (nomatch (show false = true from h)), fun h => nomatch h⟩
  | x :: xs, [] => ⟨fun h => (nomatch (show false = true from h)), fun h => nomatch h⟩
  | x :: xs, y :: ys => by
    show (PyData.eqv (I.d x) (I.d y) && PyData.eqvAll (xs.map I.d) (ys.map I.d)) = true ↔ _
    rw [Bool.and_eq_true, I.eq, eqAll xs ys, List.cons.injEq]
instance : Dt (rL r) where
  d := fun xs => .list (xs.map I.d)
  n := I.n + 1
  dp := fun h => by
    obtain ⟨a, vs, rfl, h1, h2⟩ := h
    exact .lst (SqL.of h1) (dpAll h2)
  lay := fun xs => layAll xs
  dep := fun xs => Nat.succ_le_succ (depAll xs)
  eq := fun xs ys => eqAll xs ys
instance : Dt (rT r) where
  d := fun xs => .tuple (xs.map I.d)
  n := I.n + 1
  dp := fun h => by
    obtain ⟨a, vs, rfl, h1, h2⟩ := h
    exact .tup (SqT.of h1) (dpAll h2)
  lay := fun xs => layAll xs
  dep := fun xs => Nat.succ_le_succ (depAll xs)
  eq := fun xs ys => eqAll xs ys
instance : Dt (r3 r q p) where
  d := fun x => .tuple [I.d x.1, J.d x.2.1, L.d x.2.2]
  n := max I.n (max J.n (max L.n 0)) + 1
  dp := fun h => by
    obtain ⟨a, u, w, z, rfl, h1, h2, h3, h4⟩ := h
    exact .tup (SqT.of h1) (.cons (I.dp h2) (.cons (J.dp h3) (.cons (L.dp h4) .nil)))
  lay := fun x => by
    show (PyData.canLay0 (I.d x.1) && (PyData.canLay0 (J.d x.2.1) && (PyData.canLay0 (L.d x.2.2) && true))) = true
    rw [I.lay, J.lay, L.lay]
    rfl
  dep := fun x => by
    show max (PyData.depth (I.d x.1)) (max (PyData.depth (J.d x.2.1)) (max (PyData.depth (L.d x.2.2)) 0)) + 1 ≤ _
    have h1 := I.dep x.1
    have h2 := J.dep x.2.1
    have h3 := L.dep x.2.2
    omega
  eq := fun x y => by
    show (PyData.eqv (I.d x.1) (I.d y.1) && (PyData.eqv (J.d x.2.1) (J.d y.2.1) && (PyData.eqv (L.d x.2.2) (L.d y.2.2) && true))) = true ↔ _
    rw [Bool.and_true, Bool.and_eq_true, Bool.and_eq_true, I.eq, J.eq, L.eq]
    obtain ⟨x1, x2, x3⟩ := x
    obtain ⟨y1, y2, y3⟩ := y
    simp
end
theorem dt_eq {α : Type} {r : Rp α} [I : Dt r] [DecidableEq α] (x y : α) : PyData.eqv (I.d x) (I.d y) = decide (x = y) := by
  by_cases h : x = y
  · rw [decide_eq_true h]
    exact (I.eq x y).mpr h
  · rw [decide_eq_false h]
    cases e : PyData.eqv (I.d x) (I.d y) with
    | false => rfl
    | true => exact absurd ((I.eq x y).mp e) h
theorem dt_sh {α : Type} {r : Rp α} [I : Dt r] (x : α) (h : I.n ≤ 64) : SeqAt.shaped (I.d x) = true := by
  unfold SeqAt.shaped
  rw [I.lay, Bool.true_and]
  exact decide_eq_true (Nat.le_trans (I.dep x) h)
section
variable {X : Cx} {σ : L2.St} {H H' : Hp} {α β γ : Type} {r : Rp α} [I : Dt r] [DecidableEq α] {pos : Pos} {e a b c : Expr} {x y : α}
theorem ev_deq (hu : X.A.units + 64 < cLine) (ha : Ev X σ H a r x) (hb : Ev X σ H b r y) (hn : I.n ≤ 64 := by decide) : Ev X σ H (.Compare a [.Eq] [b] pos) rB (decide (x = y)) :=
  ev_cmp (op_eqD hu) ha hb (nomark _) fun H1 _ u w h1 h2 Q k => ⟨_, _, I.dp h1, I.dp h2, dt_sh x hn, dt_sh y hn, k _ H1 (Same.refl H1) (congrArg V.bl (dt_eq x y))⟩
theorem ev_dne (hu : X.A.units + 64 < cLine) (ha : Ev X σ H a r x) (hb : Ev X σ H b r y) (hn : I.n ≤ 64 := by decide) : Ev X σ H (.Compare a [.NotEq] [b] pos) rB (!decide (x = y)) :=
  ev_cmp (op_neD hu) ha hb (nomark _) fun H1 _ u w h1 h2 Q k => ⟨_, _, I.dp h1, I.dp h2, dt_sh x hn, dt_sh y hn, k _ H1 (Same.refl H1) (congrArg V.bl (by rw [dt_eq x y]))⟩
theorem et_deq (hu : X.A.units + 64 < cLine) (ha : Ev X σ H a r x) (hb : Ev X σ H b r y) (hn : I.n ≤ 64 := by decide) : EvT X σ H (.Compare a [.Eq] [b] pos) (decide (x = y)) :=
  et_cmp (op_eqD hu) ha hb (nomark _) fun H1 _ u w h1 h2 Q k => ⟨_, _, I.dp h1, I.dp h2, dt_sh x hn, dt_sh y hn, by rw [dt_eq x y]; exact k H1 (Same.refl H1)⟩
theorem et_dne (hu : X.A.units + 64 < cLine) (ha : Ev X σ H a r x) (hb : Ev X σ H b r y) (hn : I.n ≤ 64 := by decide) : EvT X σ H (.Compare a [.NotEq] [b] pos) (!decide (x = y)) :=
  et_cmp (op_neD hu) ha hb (nomark _) fun H1 _ u w h1 h2 Q k => ⟨_, _, I.dp h1, I.dp h2, dt_sh x hn, dt_sh y hn, by rw [dt_eq x y]; exact k H1 (Same.refl H1)⟩
end
theorem sm_of {x p : Int} (h : 0 ≤ x ∧ x < p) (hp : p ≤ 1000) : Sm x := by unfold Sm; omega
end K06
namespace K06
open PySem L2 PySem.Spec PyProof.Rows RZ
theorem powM_b {p n : Int} (hp : 2 ≤ p) : ∀ k, 0 ≤ powM p n k ∧ powM p n k < p
  | 0 => by show (0 : Int) ≤ 1 ∧ (1 : Int) < p; omega
  | k + 1 => ⟨Int.emod_nonneg _ (by omega), Int.emod_lt_of_pos _ (by omega)⟩
theorem sm_und {p r : Int} (hp : 2 ≤ p ∧ p ≤ 1000) : Sm (undM p r) := sm_of (powM_b hp.1 _) hp.2
theorem ev_ixQd {X : Cx} {σ : L2.St} {H : Hp} {α : Type} {r : Rp α} {a b : Expr} {pos : Pos} {rr : Rp (List α)} [z : Sq rr r] {xs : List α} {x : Int} {d : α} (ha : Ev X σ H a rr xs) (hb : Ev X σ H b rI x) (hx : 0 ≤ x ∧ x < xs.length) (hs : PlainIx b := by exact fun _ _ => rfl) : Ev X σ H (.Subscript a b pos) r (xs.getD x.toNat d) := by
  rcases z.lt with e | e
  · subst e
    exact ev_ixLd ha hb hx hs
  · subst e
    exact ev_ixTd ha hb hx hs
end K06
/-! ==== KJ ==== -/
set_option Elab.async false
set_option linter.all false
set_option maxRecDepth 100000
set_option maxHeartbeats 4000000
namespace K06
open PySem L2 PySem.Spec PyProof.Rows RZ
theorem none_back {H1 H2 : Hp} {a : Addr} (s : Same H1 H2) (h : H2 a = none) : H1 a = none := by
  cases e : H1 a with
  | none => rfl
  | some o => rw [s _ _ e] at h; cases h
theorem pr_ints {K : Fr} {H : Hp} : ∀ xs : List Int, Paired (rI.rel K H) (xs.map V.int) xs
  | [] => .nil
  | x :: xs => .cons rfl (pr_ints xs)
section
variable {X : Cx} {σ : L2.St} {H H' Hk : Hp} {α β γ δ : Type} {r : Rp α} {q : Rp β} {p : Rp γ} {pos spos : Pos} {e a b d : Expr}
/-! ### new lists -/
def EvN (X : Cx) (σ : L2.St) (H : Hp) (e : Expr) (r : Rp α) (xs : List α) : Prop := ∀ H1, Same H H1 → ∀ Q : VK, (∀ l vs H2, H1 l = none → Same H1 H2 → H2 l = some (.lst vs) → Paired (r.rel X.K H2) vs xs → Q (.ref l) H2) → cE X e σ H1 Q
theorem EvN.ev {xs : List α} (h : EvN X σ H e r xs) : Ev X σ H e (rL r) xs := fun H1 s Q k => h H1 s Q fun l vs H2 _ s2 h1 h2 => k _ H2 s2 ⟨l, vs, rfl, h1, h2⟩
theorem EvN.is {xs ys : List α} (h : EvN X σ H e r xs) (k : xs = ys) : EvN X σ H e r ys := k ▸ h
theorem EvN.up {xs : List α} (h : EvN X σ H e r xs) (s : Same H H') : EvN X σ H' e r xs := fun H1 s1 => h H1 (s.trans s1)
theorem en_of {t : TE} {xs : List α} (h : PE X e t) (k : ∀ H1, Same H H1 → ∀ Q : VK, (∀ l vs H2, H1 l = none → Same H1 H2 → H2 l = some (.lst vs) → Paired (r.rel X.K H2) vs xs → Q (.ref l) H2) → t σ H1 Q) : EvN X σ H e r xs := fun H1 s Q q => cE_of h (k H1 s Q q)
theorem en_L0 : EvN X σ H (.List [] pos) r [] :=
  en_of (pe_lst pa_nil) fun H1 s Q c => ⟨Nat.zero_le _, fun l hl => c l _ _ hl (same_new hl) upd_same .nil⟩
theorem en_lstQ {rr : Rp (List α)} [z : Sq rr r] {xs : List α} {p2 : Pos} (hm : X.mg "list" = none) (ha : Ev X σ H a rr xs) (hg : Gl X "list" := by rfl) (he : starEach [a] X.env = (false, eval a X.env) :: starEach [] X.env := by rfl) : EvN X σ H (.Call (.Name "list" p2) [a] [] pos) r xs :=
  en_of (pe_callTy call_list_of hg hm (by decide +kernel) cA_pa (by decide) (by decide) he) fun H1 s Q c => ea_1 ha he H1 s _ fun vs H2 s2 hvs => by
    obtain ⟨v, rfl, h1⟩ := a1 hvs
    have h2 := sq_S (r := r) h1
    rcases h2 with ⟨a, ws, rfl, h1, h2⟩ | ⟨a, ws, rfl, h1, h2⟩
    · exact ⟨a, ws, rfl, .inl (SqL.of h1), fun l hl => c l _ _ (none_back s2 hl) (s2.trans (same_new hl)) upd_same (pmono (same_new hl) h2)⟩
    · exact ⟨a, ws, rfl, .inr (SqT.of h1), fun l hl => c l _ _ (none_back s2 hl) (s2.trans (same_new hl)) upd_same (pmono (same_new hl) h2)⟩
/-- a comprehension's reading, one name -/
theorem lc_1n {wi : TI} {tt : TT} {te : TE} {j : Nat} {xs : List α} {c : α → Bool} {f : α → β} [Fz q]
    (hw : ∀ H1, Same H H1 → ∀ R : It → Hp → Prop, (∀ J H2, Same H1 H2 → xs.length ≤ sizeLine → Walk J xs.length (Same H2) (Y1 X.K r xs) → R J H2) → wi σ H1 R)
    (ht : ∀ x ∈ xs, ∀ v H1, Same H H1 → r.rel X.K H1 v x → ∀ Q : Bool → Hp → Prop, (∀ H2, Same H1 H2 → Q (c x) H2) → tt (σ.set j (some v)) H1 Q)
    (he : ∀ x ∈ xs, c x = true → ∀ v H1, Same H H1 → r.rel X.K H1 v x → ∀ Q : VK, (∀ w H2, Same H1 H2 → q.rel X.K H2 w (f x) → Q w H2) → te (σ.set j (some v)) H1 Q) :
    ∀ H1, Same H H1 → ∀ Q : VK, (∀ l vs H2, H1 l = none → Same H1 H2 → H2 l = some (.lst vs) → Paired (q.rel X.K H2) vs ((xs.filter c).map f) → Q (.ref l) H2) → tLc wi (gName j) tt te [j] σ H1 Q := fun H1 s Q k => hw H1 s _ fun J H2 s2 hz w D hD => by
  refine lc_it w (fun i H3 => Same H2 H3 ∧ ∃ acc, H3 D = some (.lst acc) ∧ acc.length ≤ i ∧ Paired (q.rel X.K H3) acc (((xs.take i).filter c).map f)) ⟨same_new hD, [], upd_same, Nat.le_refl _, .nil⟩ (fun i H3 _ h => h.1) ?_ ?_
  · rintro i v H3 H4 hi ⟨s3, acc, h1, h1b, h2⟩ ⟨rfl, x, hx, hv⟩
    have hm : x ∈ xs := List.mem_of_getElem? hx
    show (fun σ2 H5 => wipe σ2 [j] = wipe σ [j] ∧ _) ((wipe σ [j]).set j (some v)) H4
    rw [wipe_set]
    refine ⟨wipe1 σ j _, ht x hm v H4 ((s.trans s2).trans s3) hv _ fun H5 s5 => ?_⟩
    have ek : (xs.take (i + 1)).filter c = (xs.take i).filter c ++ (if c x then [x] else []) := take_succ_filter c xs i x hx
    cases hc : c x with
    | false =>
      refine iteF ⟨s3.trans s5, acc, s5 _ _ h1, Nat.le_succ_of_le h1b, ?_⟩
      rw [ek, hc]
      simp only [Bool.false_eq_true, if_false, List.append_nil]
      exact pmono s5 h2
    | true =>
      refine iteT (he x hm hc v H5 (((s.trans s2).trans s3).trans s5) (r.mono s5 hv) _ fun w' H6 s6 hw' => ?_)
      have h3 : H6 D = some (.lst acc) := s6 _ _ (s5 _ _ h1)
      refine ⟨acc, h3, by have : i < sizeLine := Nat.lt_of_lt_of_le hi hz; omega, same_mut ((s3.trans s5).trans s6) hD, acc ++ [w'], upd_same, by rw [List.length_append, List.length_singleton]; omega, ?_⟩
      rw [ek, hc]
      simp only [if_true, List.map_append, List.map_cons, List.map_nil]
      exact pr_app (fz_p h3 (pmono (s5.trans s6) h2)) (.cons (Fz.fz h3 hw') .nil)
  · rintro H3 ⟨s3, acc, h1, _, h2⟩
    rw [List.take_length] at h2
    exact k D acc H3 (none_back s2 hD) (s2.trans s3) h1 h2

section
variable {scope : Scope} {elt iter c : Expr} {y z nm : Str} {py pz pt pn : Pos} {i j k kk : Nat} {D : Ends} {rest body : List Stmt}
theorem en_lc1 {xs : List α} {f : α → β} [Fz q] (nd : X.N.Nodup) (src : Src X σ H (.Name y py) iter xs.length (Y1 X.K r xs)) (ok : BlkOk X.N X.env.scope scope [(y, j)]) (ow : Own X scope y j)
    (he : ∀ s Hs C cl fp, ∀ x ∈ xs, ∀ v H1, Same H H1 → r.rel X.K H1 v x → Ev (Bk X scope s Hs C cl fp) (σ.set j (some v)) H1 elt q (f x)) (hc : X.calm = true := by rfl) (hs : ∀ x, foldedSetIterable iter X.env x = pure x := by intro _; rfl) :
    EvN X σ H (.ListComp elt [⟨.Name y py, iter, [], 0⟩] scope pos) q (xs.map f) := by
  obtain ⟨wi, hi, hw⟩ := src
  have e : (xs.filter fun _ => true).map f = xs.map f := by rw [List.filter_eq_self.mpr fun _ _ => rfl]
  rw [← e]
  exact en_of (pe_lc (own := [(y, j)]) (te := cEb X scope elt) hc nd hi ok (own_pg nd ow) (fun _ _ _ _ _ => pts_nil) (fun s Hs C cl fp => cEb_pe s Hs C cl fp) hs)
    (lc_1n (te := cEb X scope elt) hw (fun _ _ v H1 _ _ Q k => k H1 (Same.refl H1)) fun x hx _ v H1 s1 hv Q k s Hs C cl fp => he s Hs C cl fp x hx v H1 s1 hv H1 (Same.refl H1) Q k)
theorem en_lc1f {xs : List α} {f : α → β} {cf : α → Bool} [Fz q] (nd : X.N.Nodup) (src : Src X σ H (.Name y py) iter xs.length (Y1 X.K r xs)) (ok : BlkOk X.N X.env.scope scope [(y, j)]) (ow : Own X scope y j)
    (ht : ∀ s Hs C cl fp, ∀ x ∈ xs, ∀ v H1, Same H H1 → r.rel X.K H1 v x → EvT (Bk X scope s Hs C cl fp) (σ.set j (some v)) H1 c (cf x))
    (he : ∀ s Hs C cl fp, ∀ x ∈ xs, cf x = true → ∀ v H1, Same H H1 → r.rel X.K H1 v x → Ev (Bk X scope s Hs C cl fp) (σ.set j (some v)) H1 elt q (f x)) (hc : X.calm = true := by rfl) (hs : ∀ x, foldedSetIterable iter X.env x = pure x := by intro _; rfl) :
    EvN X σ H (.ListComp elt [⟨.Name y py, iter, [c], 0⟩] scope pos) q ((xs.filter cf).map f) := by
  obtain ⟨wi, hi, hw⟩ := src
  exact en_of (pe_lc (own := [(y, j)]) (te := cEb X scope elt) (tt := cTb X scope c) hc nd hi ok (own_pg nd ow) (fun s Hs C cl fp => pts_one (cTb_pt s Hs C cl fp)) (fun s Hs C cl fp => cEb_pe s Hs C cl fp) hs)
    (lc_1n (te := cEb X scope elt) (tt := cTb X scope c) hw (fun x hx v H1 s1 hv Q k s Hs C cl fp => ht s Hs C cl fp x hx v H1 s1 hv H1 (Same.refl H1) Q k) fun x hx hc v H1 s1 hv Q k s Hs C cl fp => he s Hs C cl fp x hx hc v H1 s1 hv H1 (Same.refl H1) Q k)
/-- name = a new list -/
theorem cs_setN {p2 : Pos} {xs : List α} (nd : X.N.Nodup) (hi : X.N[i]? = some y) (ha : EvN X σ H a r xs) (k : ∀ l vs H1, H l = none → Same H H1 → H1 l = some (.lst vs) → Paired (r.rel X.K H1) vs xs → cS X rest D (σ.set i (some (.ref l))) H1)
    (hx : L2.Loc X.env.scope y := by first | exact Or.inl rfl | exact Or.inr rfl) (hs : swapsWith a (some (.Name y p2)) pos.line X.env = pure false := by rfl) (hf : X.fn y = true ∨ X.env.scope.names.lookup y = some .local := by first | exact .inl rfl | exact .inr rfl) : cS X (.Assign [.Name y p2] a pos :: rest) D σ H :=
  cs_one (ps_set nd hi hx cE_pe hs hf) (ha H (Same.refl H) _ fun l vs H1 h1 s1 h2 h3 => k l vs H1 h1 s1 h2 h3)
/-- name = [elt for y in iter], new -/
theorem cs_setN1 {xs : List α} {f : α → β} [Fz q] (nd : X.N.Nodup) (hi : X.N[i]? = some nm) (src : Src X σ H (.Name y py) iter xs.length (Y1 X.K r xs)) (ok : BlkOk X.N X.env.scope scope [(y, j)]) (ow : Own X scope y j)
    (he : ∀ s Hs C cl fp, ∀ x ∈ xs, ∀ v H1, Same H H1 → r.rel X.K H1 v x → Ev (Bk X scope s Hs C cl fp) (σ.set j (some v)) H1 elt q (f x))
    (k : ∀ l vs H1, H l = none → Same H H1 → H1 l = some (.lst vs) → Paired (q.rel X.K H1) vs (xs.map f) → cS X rest D (σ.set i (some (.ref l))) H1) (hyl : X.env.scope.names.lookup nm = some .local := by rfl)
    (hsw : swapsWith (.ListComp elt [⟨.Name y py, iter, [], 0⟩] scope pos) (some (.Name nm pn)) spos.line X.env = pure true := by rfl) (hc : X.calm = true := by rfl) (hs : ∀ x, foldedSetIterable iter X.env x = pure x := by intro _; rfl) :
    cS X (.Assign [.Name nm pn] (.ListComp elt [⟨.Name y py, iter, [], 0⟩] scope pos) spos :: rest) D σ H := by
  obtain ⟨wi, hi', hw⟩ := src
  have e : (xs.filter fun _ => true).map f = xs.map f := by rw [List.filter_eq_self.mpr fun _ _ => rfl]
  rw [← e] at k
  exact cs_one (ps_setLc (own := [(y, j)]) (te := cEb X scope elt) hc nd hi hyl hsw hi' ok (own_pg nd ow) (fun _ _ _ _ _ => pts_nil) (fun s Hs C cl fp => cEb_pe s Hs C cl fp) hs)
    (lc_1n (te := cEb X scope elt) hw (fun _ _ v H1 _ _ Q k => k H1 (Same.refl H1)) (fun x hx _ v H1 s1 hv Q k s Hs C cl fp => he s Hs C cl fp x hx v H1 s1 hv H1 (Same.refl H1) Q k) H (Same.refl H) _ k)
theorem cA2 {Q : List V → Hp → Prop} (h : cE X a σ H fun v H1 => cE X b σ H1 fun w H2 => Q [v, w] H2) (hs1 : starEach [a, b] X.env = (false, eval a X.env) :: starEach [b] X.env) (hs2 : starEach [b] X.env = (false, eval b X.env) :: starEach [] X.env) : cA X [a, b] σ H Q :=
  fun pos pins s I => (pa_cons cE_pe (pa_cons cE_pe pa_nil hs2) hs1).run pos pins s σ H Q I h
theorem cA3 {Q : List V → Hp → Prop} (h : cE X a σ H fun v H1 => cE X b σ H1 fun w H2 => cE X d σ H2 fun u H3 => Q [v, w, u] H3) (hs1 : starEach [a, b, d] X.env = (false, eval a X.env) :: starEach [b, d] X.env) (hs2 : starEach [b, d] X.env = (false, eval b X.env) :: starEach [d] X.env) (hs3 : starEach [d] X.env = (false, eval d X.env) :: starEach [] X.env) : cA X [a, b, d] σ H Q :=
  fun pos pins s I => (pa_cons cE_pe (pa_cons cE_pe (pa_cons cE_pe pa_nil hs3) hs2) hs1).run pos pins s σ H Q I h
/-- x, y = a, a new list -/
theorem cs_parN {p1 p2 p3 p4 : Pos} {k1 k2 : Nat} {x : α} {ws : List β} (nd : X.N.Nodup) (hi : X.N[i]? = some y) (hj : X.N[j]? = some z) (hij : i ≠ j) (ha : Ev X σ H a r x) (hb : EvN X σ H b q ws)
    (k : ∀ u H1 l vs H2, Same H H1 → r.rel X.K H1 u x → H1 l = none → Same H1 H2 → H2 l = some (.lst vs) → Paired (q.rel X.K H2) vs ws → cS X rest D ((σ.set i (some u)).set j (some (.ref l))) H2) (hy : X.env.scope.names.lookup y = some .local := by rfl) (hz : X.env.scope.names.lookup z = some .local := by rfl) (hc : X.calm = true := by rfl)
    (hw : swappedStores [.Tuple [.Name y p1, .Name z p2] k1 p3] (.Tuple [a, b] k2 p4) X.env = pure (some [y, z]) := by rfl)
    (hs : swapsWithSole [.Tuple [.Name y p1, .Name z p2] k1 p3] (.Tuple [a, b] k2 p4) pos.line X.env = pure false := by rfl)
    (hs1 : starEach [a, b] X.env = (false, eval a X.env) :: starEach [b] X.env := by rfl) (hs2 : starEach [b] X.env = (false, eval b X.env) :: starEach [] X.env := by rfl) : cS X (.Assign [.Tuple [.Name y p1, .Name z p2] k1 p3] (.Tuple [a, b] k2 p4) pos :: rest) D σ H :=
  cs_one (ps_par hc nd hi hj hij hy hz cA_pa hw hs) (cA2 (ha H (Same.refl H) _ fun u H1 s1 hu => hb H1 s1 _ fun l vs H2 hl s2 h1 h2 => ⟨u, .ref l, rfl, k u H1 l vs H2 s1 hu hl s2 h1 h2⟩) hs1 hs2)
/-- the same where a name is a cell: a tuple is laid and taken apart -/
theorem cs_unpN {p1 p2 p3 p4 : Pos} {k1 k2 : Nat} {x : α} {ws : List β} (nd : X.N.Nodup) (hi : X.N[i]? = some y) (hj : X.N[j]? = some z) (ha : Ev X σ H a r x) (hb : EvN X σ H b q ws)
    (k : ∀ u H1 l vs H2 H3, Same H H1 → r.rel X.K H1 u x → H1 l = none → Same H1 H2 → H2 l = some (.lst vs) → Paired (q.rel X.K H2) vs ws → Same H2 H3 → cS X rest D ((σ.set i (some u)).set j (some (.ref l))) H3) (hc : X.calm = true := by rfl)
    (hx : L2.Loc X.env.scope y := by first | exact Or.inl rfl | exact Or.inr rfl) (hf : X.fn y = true ∨ X.env.scope.names.lookup y = some .local := by first | exact .inl rfl | exact .inr rfl)
    (hx2 : L2.Loc X.env.scope z := by first | exact Or.inl rfl | exact Or.inr rfl) (hf2 : X.fn z = true ∨ X.env.scope.names.lookup z = some .local := by first | exact .inl rfl | exact .inr rfl)
    (hw : swappedStores [.Tuple [.Name y p1, .Name z p2] k1 p3] (.Tuple [a, b] k2 p4) X.env = pure none := by rfl)
    (hs : swapsWithSole [.Tuple [.Name y p1, .Name z p2] k1 p3] (.Tuple [a, b] k2 p4) pos.line X.env = pure false := by rfl)
    (ht : (assignEach [.Tuple [.Name y p1, .Name z p2] k1 p3] X.env).map (·.2) = [assign (.Tuple [.Name y p1, .Name z p2] k1 p3) X.env] := by rfl)
    (h1 : (assignEach [.Name y p1, .Name z p2] X.env).map (·.2) = assign (.Name y p1) X.env :: (assignEach [.Name z p2] X.env).map (·.2) := by rfl) (h2 : (assignEach [.Name z p2] X.env).map (·.2) = assign (.Name z p2) X.env :: (assignEach [] X.env).map (·.2) := by rfl)
    (hn : (assignEach [.Name y p1, .Name z p2] X.env).length = 2 := by rfl) (hst : (assignEach [.Name y p1, .Name z p2] X.env).findIdx? (·.1) = none := by rfl)
    (hs1 : starEach [a, b] X.env = (false, eval a X.env) :: starEach [b] X.env := by rfl) (hs2 : starEach [b] X.env = (false, eval b X.env) :: starEach [] X.env := by rfl) : cS X (.Assign [.Tuple [.Name y p1, .Name z p2] k1 p3] (.Tuple [a, b] k2 p4) pos :: rest) D σ H :=
  cs_one (ps_asg (pe_tup cA_pa) (pg_tup hc (pgs_cons (pg_name nd hi hx hf) (pgs_cons (pg_name nd hj hx2 hf2) pgs_nil h2) h1) hn hst) hs hw ht) (cA2 (ha H (Same.refl H) _ fun u H1 s1 hu => hb H1 s1 _ fun l vs H2 hl s2 h1 h2 =>
    ⟨by show 2 ≤ sizeLine; decide, fun T hT => ⟨T, [u, .ref l], rfl, SqT.of upd_same, rfl, u, [.ref l], rfl, .ref l, [], rfl, rfl, k u H1 l vs H2 _ s1 hu hl s2 h1 h2 (same_new hT)⟩⟩) hs1 hs2)
theorem cs_parNN {m : Nat} {nn : Str} {p1 p2 p3 p4 p5 : Pos} {k1 k2 : Nat} {xs : List α} {ws : List β} {us : List γ} (nd : X.N.Nodup) (hi : X.N[i]? = some y) (hj : X.N[j]? = some z) (hm : X.N[m]? = some nn) (hij : i ≠ j) (him : i ≠ m) (hjm : j ≠ m) (ha : EvN X σ H a r xs) (hb : EvN X σ H b q ws) (hd : EvN X σ H d p us)
    (k : ∀ l1 vs1 H1 l2 vs2 H2 l3 vs3 H3, H l1 = none → Same H H1 → H1 l1 = some (.lst vs1) → Paired (r.rel X.K H1) vs1 xs → H1 l2 = none → Same H1 H2 → H2 l2 = some (.lst vs2) → Paired (q.rel X.K H2) vs2 ws → H2 l3 = none → Same H2 H3 → H3 l3 = some (.lst vs3) → Paired (p.rel X.K H3) vs3 us →
      cS X rest D (((σ.set i (some (.ref l1))).set j (some (.ref l2))).set m (some (.ref l3))) H3) (hy : X.env.scope.names.lookup y = some .local := by rfl) (hz : X.env.scope.names.lookup z = some .local := by rfl) (hnn : X.env.scope.names.lookup nn = some .local := by rfl) (hc : X.calm = true := by rfl)
    (hw : swappedStores [.Tuple [.Name y p1, .Name z p2, .Name nn p3] k1 p4] (.Tuple [a, b, d] k2 p5) X.env = pure (some [y, z, nn]) := by rfl)
    (hs : swapsWithSole [.Tuple [.Name y p1, .Name z p2, .Name nn p3] k1 p4] (.Tuple [a, b, d] k2 p5) pos.line X.env = pure false := by rfl)
    (hs1 : starEach [a, b, d] X.env = (false, eval a X.env) :: starEach [b, d] X.env := by rfl) (hs2 : starEach [b, d] X.env = (false, eval b X.env) :: starEach [d] X.env := by rfl) (hs3 : starEach [d] X.env = (false, eval d X.env) :: starEach [] X.env := by rfl) :
    cS X (.Assign [.Tuple [.Name y p1, .Name z p2, .Name nn p3] k1 p4] (.Tuple [a, b, d] k2 p5) pos :: rest) D σ H :=
  cs_one (ps_par3 hc nd hi hj hm hij him hjm hy hz hnn cA_pa hw hs) (cA3 (ha H (Same.refl H) _ fun l1 vs1 H1 hl1 s1 h1 h1' => hb H1 s1 _ fun l2 vs2 H2 hl2 s2 h2 h2' => hd H2 (s1.trans s2) _ fun l3 vs3 H3 hl3 s3 h3 h3' => ⟨.ref l1, .ref l2, .ref l3, rfl, k l1 vs1 H1 l2 vs2 H2 l3 vs3 H3 hl1 s1 h1 h1' hl2 s2 h2 h2' hl3 s3 h3 h3'⟩) hs1 hs2 hs3)
/-- xs[k] = value -/
theorem cs_item {ix : Expr} {l : Addr} {vs : List V} {n : Int} {p2 : Pos} {x : α} (hv : Ev X σ H a r x) (ho : Ev X σ H b (rV (.ref l)) ()) (hi : Ev X σ H ix rI n) (hl : H l = some (.lst vs)) (hn : 0 ≤ n ∧ n < vs.length)
    (k : ∀ v H1, Same H H1 → r.rel X.K H1 v x → cS X rest D σ (upd H1 l (.lst (vs.set n.toNat v))))
    (hs : swapsWithSole [.Subscript b ix p2] a pos.line X.env = pure false := by rfl) (hw : swappedStores [.Subscript b ix p2] a X.env = pure none := by rfl) (h1 : (assignEach [.Subscript b ix p2] X.env).map (·.2) = [assign (.Subscript b ix p2) X.env] := by rfl)
    (has : ∀ v, assign (.Subscript b ix p2) X.env v = (do
      let ov ← holding [v] (eval b X.env)
      let iv ← holding [v, ov] (eval ix X.env)
      standAt p2
      holding [v, ov, iv] (setItem ov iv v)
      release [v, ov, iv] []) := by intro _; rfl) : cS X (.Assign [.Subscript b ix p2] a pos :: rest) D σ H :=
  cs_one (ps_asg cE_pe (pg_sub cE_pe cE_pe set_list has) hs hw h1) (hv H (Same.refl H) _ fun v H1 s1 h1 => ho H1 s1 _ fun o H2 s2 h2 => hi H2 (s1.trans s2) _ fun w H3 s3 h3 => by
    cases (show o = V.ref l from h2)
    cases (show w = V.int n from h3)
    refine ⟨l, vs, n, n.toNat, rfl, rfl, ((s1.trans s2).trans s3) _ _ hl, ?_, k v H3 ((s1.trans s2).trans s3) (r.mono (s2.trans s3) h1)⟩
    unfold ixN
    rw [if_pos hn.1, if_pos hn.2])
/-- xs.append(value) -/
theorem cs_app {l : Addr} {vs : List V} {x : α} {ap cp : Pos} (ho : Ev X σ H b (rV (.ref l)) ()) (hv : Ev X σ H a r x) (hl : H l = some (.lst vs)) (hn : vs.length ≤ 100000)
    (k : ∀ v H1, Same H H1 → r.rel X.K H1 v x → cS X rest D σ (upd H1 l (.lst (vs ++ [v]))))
    (hs0 : swapsWith (.Call (.Attribute b "append" ap) [a] [] cp) none pos.line X.env = pure false := by rfl) (hbase : attributeBase b "append" X.env (eval b X.env) = eval b X.env := by rfl)
    (hfew : ((backTo cp (starEach [a] X.env)).all (fun x => !x.1) && (backToKw cp (keywordEach [] X.env)).all (fun x => x.1.isSome)
      && decide ([a].length + ([] : List Keyword).length + (if ([] : List Keyword).isEmpty then 0 else 1) < 30)) = true := by rfl)
    (hline : (ap.endLine == cp.line) = true := by rfl) (hs : starEach [a] X.env = (false, eval a X.env) :: starEach [] X.env := by rfl) (hplain : (backTo cp (starEach [] X.env)).any (·.1) = false := by rfl) :
    cS X (.Expr (.Call (.Attribute b "append" ap) [a] [] cp) pos :: rest) D σ H :=
  cs_one (ps_expr (pe_bm PySem.F.plainAttrs_list PySem.F.slot_list_append PySem.F.type_list_append mt_append cE_pe cA_pa hbase hfew hline hs hplain) hs0) (ho H (Same.refl H) _ fun o H1 s1 h1 => by
    cases (show o = V.ref l from h1)
    refine ⟨.inl ⟨rfl, vs, SqL.of (s1 _ _ hl)⟩, ea_1 hv hs H1 s1 _ fun ws H2 s2 hws => ?_⟩
    obtain ⟨v, rfl, h2⟩ := a1 hws
    exact ⟨l, vs, v, rfl, rfl, (s1.trans s2) _ _ hl, Nat.lt_of_le_of_lt hn (by decide), k v H2 (s1.trans s2) h2⟩)
theorem et_notIn {x : Int} {xs : List Int} (ha : Ev X σ H a rI x) (hb : Ev X σ H b (rL rI) xs) (hm : behindInMarks .NotIn b = false := by rfl) : EvT X σ H (.Compare a [.NotIn] [b] pos) (!xs.any fun y => y == x) :=
  et_cmp op_notIn_seq ha hb hm fun H1 _ u w hu hw Q k => by
    cases (show u = V.int x from hu)
    obtain ⟨l, vs, rfl, h1, h2⟩ := hw
    have h3 := ints_p h2
    subst h3
    refine ⟨l, _, rfl, .inl (SqL.of h1), rfl, flat_ints xs, ?_⟩
    rw [inv_ints]
    exact k H1 (Same.refl H1)
/-! ### loops whose body changes lists -/
def SrcG (X : Cx) (σ : L2.St) (H : Hp) (G : Hp → Prop) (tg iter : Expr) (n : Nat) (Y : Nat → Hp → V → Hp → Prop) : Prop := ∃ wi, PI X tg iter wi ∧ ∀ R : It → Hp → Prop, (∀ J H2, Same H H2 → Walk J n G Y → R J H2) → wi σ H R
theorem srcG_R1 {tg : Expr} {G : Hp → Prop} {n : Int} {p2 : Pos} (hm : X.mg "range" = none) (ha : Ev X σ H a rI n) (hz : n ≤ 100000 ∧ -100000 ≤ n) (hg : Gl X "range" := by rfl) (hs : starEach [a] X.env = (false, eval a X.env) :: starEach [] X.env := by rfl) :
    SrcG X σ H G tg (.Call (.Name "range" p2) [a] [] pos) (ups 0 n.toNat).length (Y1 X.K rI (ups 0 n.toNat)) := by
  rw [ups_len]
  exact ⟨_, pi_range1 hg hm cA_pa hs, fun R k => ea_1 ha hs H (Same.refl H) _ fun vs H2 s2 hvs => by
  obtain ⟨v, rfl, h1⟩ := a1 hvs
  refine ⟨n, congrArg (fun z => [z]) (show v = V.int n from h1), by omega, by omega, k _ H2 s2 ?_⟩
  exact walk_range.mono (fun _ _ => trivial) fun i H3 x H4 hi _ y => ⟨y.1, _, ups_get hi, y.2⟩⟩
/-- a list that is known at Hk -/
theorem srcG_L {tg : Expr} {G : Hp → Prop} {v : V} {xs : List α} (ha : Ev X σ H a (rV v) ()) (hv : (rL r).rel X.K Hk v xs) (hk : Same Hk H) (hG : ∀ H1, G H1 → Same Hk H1) : SrcG X σ H G tg a xs.length (Y1 X.K r xs) := ⟨_, pi_list cE_pe, fun R k => ha H (Same.refl H) _ fun u H2 s2 hu => by
  cases (show u = v from hu)
  obtain ⟨l, vs, rfl, h1, h2⟩ := hv
  refine ⟨l, rfl, ⟨vs, SqL.of ((hk.trans s2) _ _ h1)⟩, k _ H2 s2 ?_⟩
  rw [← h2.length]
  refine walk_list.mono (fun H3 s3 => SqL.of (hG _ s3 _ _ h1)) fun i H3 x H4 _ s3 y => ?_
  obtain ⟨z, h3, h4⟩ := pr_getV (pmono (hG _ s3) h2) y.2
  exact ⟨y.1, z, h3, h4⟩⟩
theorem srcG_zL {elts : List Expr} {kk : Nat} {tpos p2 : Pos} {G : Hp → Prop} {v w : V} {xs : List α} {ys : List β} (hm : X.mg "zip" = none) (ha : Ev X σ H a (rV v) ()) (hb : Ev X σ H b (rV w) ()) (hv : (rL r).rel X.K Hk v xs) (hw : (rL q).rel X.K Hk w ys) (hk : Same Hk H) (hG : ∀ H1, G H1 → Same Hk H1) (hg : Gl X "zip" := by rfl)
    (hs : starEach [a, b] X.env = (false, eval a X.env) :: starEach [b] X.env := by rfl) (hs2 : starEach [b] X.env = (false, eval b X.env) :: starEach [] X.env := by rfl) (hpl : (backTo pos (starEach [b] X.env)).any (·.1) = false := by rfl) :
    SrcG X σ H G (.Tuple elts kk tpos) (.Call (.Name "zip" p2) [a, b] [] pos) (xs.zip ys).length (Y2 X.K r q (xs.zip ys)) := ⟨_, pi_zipA hg hm cA_pa hs hpl, fun R k => ea_c ha (ea_1 hb hs2) hs H (Same.refl H) _ fun vs H2 s2 hvs => by
  obtain ⟨v', w', rfl, h1, h2⟩ := a2 hvs
  cases (show v' = v from h1)
  cases (show w' = w from h2)
  obtain ⟨l, vs, rfl, h3, h4⟩ := hv
  obtain ⟨m, ws, rfl, h5, h6⟩ := hw
  have e : (xs.zip ys).length = min vs.length ws.length := by rw [List.length_zip, h4.length, h6.length]
  refine ⟨l, m, vs, ws, rfl, .inl ⟨SqL.of ((hk.trans s2) _ _ h3), SqL.of ((hk.trans s2) _ _ h5), k _ H2 s2 ?_⟩⟩
  refine (walk_zip e).mono (fun H3 s3 => ⟨SqL.of (hG _ s3 _ _ h3), SqL.of (hG _ s3 _ _ h5)⟩) fun i H3 x H4 _ s3 y => ?_
  obtain ⟨T, u, w, k1, k2, k3, k4, k5⟩ := y
  obtain ⟨z, h7, h8⟩ := pr_getV (pmono (hG _ s3) h4) k4
  obtain ⟨z', h9, h10⟩ := pr_getV (pmono (hG _ s3) h6) k5
  exact ⟨T, u, w, (z, z'), k1, k2, k3, zip_get h7 h9, h8, h10⟩⟩
theorem cs_forG1 {G : Hp → Prop} {xs : List α} (nd : X.N.Nodup) (hi : X.N[j]? = some y) (src : SrcG X σ H G (.Name y py) iter xs.length (Y1 X.K r xs)) (Pv : Nat → L2.St → Hp → Prop) (h0 : ∀ H2, Same H H2 → Pv 0 σ H2) (hG : ∀ i σ' H', Pv i σ' H' → G H')
    (hs : ∀ i x v σ' H', xs[i]? = some x → r.rel X.K H' v x → Pv i σ' H' → cS X body ⟨Pv (i + 1), D.rt, fun σ3 H3 => cS X rest D σ3 H3, Pv (i + 1)⟩ (σ'.set j (some v)) H')
    (hd : ∀ σ' H', Pv xs.length σ' H' → cS X rest D σ' H') (hp : PassesOwn (model X.prog X.w) X.A X.env X.xe := by exact PassesOwn.never)
    (hx : L2.Loc X.env.scope y := by first | exact Or.inl rfl | exact Or.inr rfl) (hf : X.fn y = true ∨ X.env.scope.names.lookup y = some .local := by first | exact .inl rfl | exact .inr rfl) (hc : X.calm = true := by rfl) (hfs : ∀ x, foldedSetIterable iter X.env x = pure x := by intro _; rfl) :
    cS X (.For (.Name y py) iter body [] pos :: rest) D σ H := by
  obtain ⟨wi, hi', hw⟩ := src
  refine cs_one (ps_for hp hc hi' (pg_name nd hi hx hf) cS_pss hfs) (hw _ fun J H2 s2 w => ?_)
  refine for_it w (D := { D with nx := fun σ' H' => cS X rest D σ' H' }) Pv (h0 H2 s2) (fun i σ' H' _ h => hG i σ' H' h) ?_ (fun σ' H' h => hd σ' H' h)
  rintro i v σ' H3 H4 hi3 pv ⟨rfl, x, hx', hv⟩
  exact hs i x v σ' H4 hx' hv pv
/-- a for over a new list -/
theorem cs_forN1 {xs : List α} (nd : X.N.Nodup) (hi : X.N[j]? = some y) (ha : EvN X σ H iter r xs) (Pv : Addr → List V → Nat → L2.St → Hp → Prop) (h0 : ∀ l vs H2, H l = none → Same H H2 → H2 l = some (.lst vs) → Paired (r.rel X.K H2) vs xs → Pv l vs 0 σ H2)
    (hG : ∀ l vs i σ' H', H l = none → Pv l vs i σ' H' → H' l = some (.lst vs) ∧ Paired (r.rel X.K H') vs xs)
    (hs : ∀ l vs, H l = none → ∀ i x v σ' H', xs[i]? = some x → r.rel X.K H' v x → Pv l vs i σ' H' → cS X body ⟨Pv l vs (i + 1), D.rt, fun σ3 H3 => cS X rest D σ3 H3, Pv l vs (i + 1)⟩ (σ'.set j (some v)) H')
    (hd : ∀ l vs, H l = none → ∀ σ' H', Pv l vs xs.length σ' H' → cS X rest D σ' H') (hp : PassesOwn (model X.prog X.w) X.A X.env X.xe := by exact PassesOwn.never)
    (hx : L2.Loc X.env.scope y := by first | exact Or.inl rfl | exact Or.inr rfl) (hf : X.fn y = true ∨ X.env.scope.names.lookup y = some .local := by first | exact .inl rfl | exact .inr rfl) (hc : X.calm = true := by rfl) (hfs : ∀ x, foldedSetIterable iter X.env x = pure x := by intro _; rfl) :
    cS X (.For (.Name y py) iter body [] pos :: rest) D σ H := by
  refine cs_one (ps_for hp hc (pi_list cE_pe) (pg_name nd hi hx hf) cS_pss hfs) (ha H (Same.refl H) _ fun l vs H2 hl s2 h1 h2 => ⟨l, rfl, ⟨vs, SqL.of h1⟩, ?_⟩)
  have w : Walk (Itl X.K l) xs.length (fun H' => H' l = some (.lst vs) ∧ Paired (r.rel X.K H') vs xs) (Y1 X.K r xs) := by
    rw [← h2.length]
    refine walk_list.mono (fun H3 s3 => SqL.of s3.1) fun i H3 x H4 _ s3 y => ?_
    obtain ⟨z, h3, h4⟩ := pr_getV s3.2 y.2
    exact ⟨y.1, z, h3, h4⟩
  refine for_it w (D := { D with nx := fun σ' H' => cS X rest D σ' H' }) (Pv l vs) (h0 l vs H2 hl s2 h1 h2) (fun i σ' H' _ h => hG l vs i σ' H' hl h) ?_ (fun σ' H' h => hd l vs hl σ' H' h)
  rintro i v σ' H3 H4 hi3 pv ⟨rfl, x, hx', hv⟩
  exact hs l vs hl i x v σ' H4 hx' hv pv
theorem cs_forG2 {G : Hp → Prop} {xs : List (α × β)} (nd : X.N.Nodup) (hi : X.N[j]? = some y) (hi2 : X.N[k]? = some z) (src : SrcG X σ H G (.Tuple [.Name y py, .Name z pz] kk pt) iter xs.length (Y2 X.K r q xs)) (Pv : Nat → L2.St → Hp → Prop) (h0 : ∀ H2, Same H H2 → Pv 0 σ H2) (hG : ∀ i σ' H', Pv i σ' H' → G H')
    (hs : ∀ i x u v σ' H', xs[i]? = some x → r.rel X.K H' u x.1 → q.rel X.K H' v x.2 → Pv i σ' H' → cS X body ⟨Pv (i + 1), D.rt, fun σ3 H3 => cS X rest D σ3 H3, Pv (i + 1)⟩ ((σ'.set j (some u)).set k (some v)) H')
    (hm : ∀ i σ' H3 H4, Same H3 H4 → Pv i σ' H3 → Pv i σ' H4)
    (hd : ∀ σ' H', Pv xs.length σ' H' → cS X rest D σ' H') (hp : PassesOwn (model X.prog X.w) X.A X.env X.xe := by exact PassesOwn.never)
    (hx : L2.Loc X.env.scope y := by first | exact Or.inl rfl | exact Or.inr rfl) (hf : X.fn y = true ∨ X.env.scope.names.lookup y = some .local := by first | exact .inl rfl | exact .inr rfl)
    (hx2 : L2.Loc X.env.scope z := by first | exact Or.inl rfl | exact Or.inr rfl) (hf2 : X.fn z = true ∨ X.env.scope.names.lookup z = some .local := by first | exact .inl rfl | exact .inr rfl) (hc : X.calm = true := by rfl) (hfs : ∀ x, foldedSetIterable iter X.env x = pure x := by intro _; rfl)
    (h1 : (assignEach [.Name y py, .Name z pz] X.env).map (·.2) = assign (.Name y py) X.env :: (assignEach [.Name z pz] X.env).map (·.2) := by rfl) (h2 : (assignEach [.Name z pz] X.env).map (·.2) = assign (.Name z pz) X.env :: (assignEach [] X.env).map (·.2) := by rfl)
    (hn : (assignEach [.Name y py, .Name z pz] X.env).length = 2 := by rfl) (hst : (assignEach [.Name y py, .Name z pz] X.env).findIdx? (·.1) = none := by rfl) :
    cS X (.For (.Tuple [.Name y py, .Name z pz] kk pt) iter body [] pos :: rest) D σ H := by
  obtain ⟨wi, hi', hw⟩ := src
  refine cs_one (ps_for hp hc hi' (pg_tup hc (pgs_cons (pg_name nd hi hx hf) (pgs_cons (pg_name nd hi2 hx2 hf2) pgs_nil h2) h1) hn hst) cS_pss hfs) (hw _ fun J H2 s2 w => ?_)
  refine for_it w (D := { D with nx := fun σ' H' => cS X rest D σ' H' }) Pv (h0 H2 s2) (fun i σ' H' _ h => hG i σ' H' h) ?_ (fun σ' H' h => hd σ' H' h)
  rintro i v σ' H3 H4 hi3 pv ⟨T, u, v', x, rfl, hT, rfl, hx', hu, hv⟩
  have s4 := same_new (o := HO.tup [u, v']) hT
  refine ⟨T, [u, v'], rfl, SqT.of upd_same, rfl, u, [v'], rfl, v', [], rfl, rfl, ?_⟩
  exact hs i x u v' σ' _ hx' (r.mono s4 hu) (q.mono s4 hv) (hm i σ' H3 _ s4 pv)
end
end
end K06
/-! ==== KL ==== -/
set_option Elab.async false
set_option linter.all false
set_option maxRecDepth 100000
set_option maxHeartbeats 4000000
namespace K06
open PySem L2 PySem.Spec PyProof.Rows RZ
/-! ### rooms as objects -/
structure Mt (P : Program) (w : World) (K : Fr) (mg : Str → Option Value) (base : Heap) (k : Nat) (f : Addr) (ps : List Str) (dvs : List V) (sp : Sp) : Prop where
  ex : ∃ (fd : FuncData) (ds : List Value), Vals dvs ds ∧ Binds K fd ps ds ∧ FnOk P w K mg base CX0 k f fd ps sp
theorem lk2 {m : Str} {a b : V} (h : List.lookup m [(("own_prime" : Str), V.non), ("own_rows", V.non)] = none) : List.lookup m [(("own_prime" : Str), a), ("own_rows", b)] = none := by
  simp only [List.lookup] at h ⊢
  split at h
  · cases h
  · rename_i q
    split at h
    · cases h
    · rename_i q2
      simp only [q, q2]
section
variable {K : Fr} {mg : Str → Option Value}
theorem isi_ok {C : Addr} (h : isiB C K = true) : PySem.W.findIn K (.ref C) "__class__" = some (some (.builtin "object.__class__")) ∧ PySem.W.specialIn K (.builtin "object.__class__") "__get__" = some (some (.builtin "getset_descriptor.__get__")) ∧
    PySem.W.takesIn K (.builtin "object.__class__") = some true ∧ PySem.W.mroIn K C (.type "object") = some true := by
  obtain ⟨c1, c⟩ := He.ba h
  obtain ⟨c2, c⟩ := He.ba c
  obtain ⟨c3, c4⟩ := He.ba c
  exact ⟨He.eqO_ok c1, of_decide_eq_true c2, of_decide_eq_true c3, of_decide_eq_true c4⟩
theorem pro_ok {C : Addr} {f : Str} {p g : Addr} (h : proB C f p g K = true) : PropOf K C f p g := by
  obtain ⟨c1, c⟩ := He.ba h
  obtain ⟨c2, c⟩ := He.ba c
  obtain ⟨c3, c4⟩ := He.ba c
  refine ⟨He.eqO_ok c1, of_decide_eq_true c2, of_decide_eq_true c3, ?_⟩
  split at c4
  · rename_i q tl e
    rw [of_decide_eq_true c4] at e
    exact ⟨_, e⟩
  · cases c4
theorem tx_R (T : Tx K mg) {H : Hp} {v : V} {x : Int × Tb} (h : (rR K).rel K H v x) : TyX K H v (.ref (cR K)) := by
  obtain ⟨a, dx, w, rfl, h2, h3⟩ := h
  obtain ⟨c1, c2, c3, c4⟩ := isi_ok (C := cR K) (T.ex 0 (f := fun K => isiB (cR K) K) rfl)
  exact .base (.ins h2 (He.cls_ok (T.fa 102 rfl)) c1 c2 c3 c4)
theorem tx_K (T : Tx K mg) {H : Hp} {v : V} {x : Int × Tb} (h : (rK K).rel K H v x) : TyX K H v (.ref (cK K)) := by
  obtain ⟨a, dx, w, rfl, h2, h3⟩ := h
  obtain ⟨c1, c2, c3, c4⟩ := isi_ok (C := cK K) (T.ex 1 (f := fun K => isiB (cK K) K) rfl)
  exact .base (.ins h2 (He.cls_ok (T.fa 103 rfl)) c1 c2 c3 c4)
end
/-- the heap without one place -/
def er (a : Addr) (H : Hp) : Hp := fun b => if b = a then none else H b
theorem er_at {a : Addr} {H : Hp} : er a H a = none := if_pos rfl
theorem er_ne {a b : Addr} {H : Hp} (h : b ≠ a) : er a H b = H b := if_neg h
theorem same_er {a : Addr} {H : Hp} : Same (er a H) H := fun b o h => by
  by_cases e : b = a
  · rw [e, er_at] at h
    cases h
  · rwa [er_ne e] at h
theorem er_upd {a : Addr} {H : Hp} {o : HO} : er a (upd H a o) = er a H := funext fun b => by
  by_cases e : b = a
  · rw [e, er_at, er_at]
  · rw [er_ne e, er_ne e, upd_ne e]
theorem same_er2 {a : Addr} {H H' : Hp} (h : H a = none) (s : Same H H') : Same H (er a H') := fun b o e => by
  have hb : b ≠ a := fun q => by rw [q, h] at e; cases e
  rw [er_ne hb]
  exact s _ _ e
theorem er_mono {a : Addr} {H H' : Hp} (s : Same H H') : Same (er a H) (er a H') := fun b o e => by
  by_cases q : b = a
  · rw [q, er_at] at e
    cases e
  · rw [er_ne q] at e ⊢
    exact s _ _ e
instance {K : Fr} : Fz (rR K) := ⟨fun {K' H D zs zs' v x} hD h => by
  obtain ⟨a, dx, w, h1, h2, h3⟩ := h
  refine ⟨a, dx, w, h1, ?_, Fz.fz hD h3⟩
  rw [upd_ne (ne_of h2 hD (by intro q; cases q))]
  exact h2⟩
section
variable {X : Cx} {σ : L2.St} {H H' Hk : Hp} {α β γ δ : Type} {r : Rp α} {q : Rp β} {p : Rp γ} {pos spos : Pos} {e a b d : Expr} {mg : Str → Option Value}
theorem ev_isRoom {x : Int × Tb} {p2 p3 : Pos} (T : Tx X.K X.mg) (ha : Ev X σ H a (rR X.K) x) (hg : Gl X "isinstance" := by rfl) (hgR : Gl X "Room" := by rfl)
    (hs : starEach [a, .Name "Room" p3] X.env = (false, eval a X.env) :: starEach [.Name "Room" p3] X.env := by rfl) : Ev X σ H (.Call (.Name "isinstance" p2) [a, .Name "Room" p3] [] pos) rB true :=
  ev_isi (m_isinstance T) ha (pe_glob (v := .ref (cR X.K)) hgR (T.gl 32 rfl) rfl) (.own _) (tx_R T) (of_decide_eq_true (T.ex 4 rfl)) hg hs
theorem ev_isKnown {x : Int × Tb} {p2 p3 : Pos} (T : Tx X.K X.mg) (ha : Ev X σ H a (rK X.K) x) (hg : Gl X "isinstance" := by rfl) (hgR : Gl X "Known" := by rfl)
    (hs : starEach [a, .Name "Known" p3] X.env = (false, eval a X.env) :: starEach [.Name "Known" p3] X.env := by rfl) : Ev X σ H (.Call (.Name "isinstance" p2) [a, .Name "Known" p3] [] pos) rB true :=
  ev_isi (m_isinstance T) ha (pe_glob (v := .ref (cK X.K)) hgR (T.gl 30 rfl) rfl) (.own _) (tx_K T) (of_decide_eq_true (T.ex 5 rfl)) hg hs
theorem ev_notKnown {x : Int} {p2 p3 : Pos} (T : Tx X.K X.mg) (ha : Ev X σ H a rI x) (hg : Gl X "isinstance" := by rfl) (hgR : Gl X "Known" := by rfl)
    (hs : starEach [a, .Name "Known" p3] X.env = (false, eval a X.env) :: starEach [.Name "Known" p3] X.env := by rfl) : Ev X σ H (.Call (.Name "isinstance" p2) [a, .Name "Known" p3] [] pos) rB false :=
  ev_isi (m_isinstance T) ha (pe_glob (v := .ref (cK X.K)) hgR (T.gl 30 rfl) rfl) (.own _) tx_I (of_decide_eq_true (T.ex 6 rfl)) hg hs
/-- a property; methods -/
theorem ev_prop {k : Nat} {f : Str} {pp g : Addr} {ps : List Str} {G : (Int × Tb) × Unit → Prop} {F : (Int × Tb) × Unit → α} {x : Int × Tb} {y : α} (T : Tx X.K mg) (M : Mt X.prog X.w X.K X.mg X.base k g ps [] (spF (aC (rR X.K) a0) G r F X.K)) (hp : PropOf X.K (cR X.K) f pp g) (hr : Room (k + 1) X.A) (ha : Ev X σ H a (rR X.K) x) (hx : G (x, ())) (hy : F (x, ()) = y := by rfl)
    (hab : attributeBase a f X.env (eval a X.env) = eval a X.env := by rfl) : Ev X σ H (.Attribute a f pos) r y := by
  obtain ⟨fd, ds, hd, hb, Fn⟩ := M.ex
  refine ev_of (pe_prop cE_pe (He.cls_ok (T.fa 102 rfl)) hp Fn hr hb hd pass0 hab) fun H1 s Q c => ha H1 s _ fun v H2 s2 hv => ?_
  have hv' := hv
  obtain ⟨z, dx, w, rfl, h2, h3⟩ := hv'
  exact ⟨z, dx, _, rfl, h2, (x, ()), ⟨_, _, rfl, hv, rfl⟩, hx, fun v H3 s3 hv3 => c v H3 (s2.trans s3) (hy ▸ hv3)⟩
theorem ev_meth0 {k : Nat} {m : Str} {f : Addr} {ps : List Str} {G : (Int × Tb) × Unit → Prop} {F : (Int × Tb) × Unit → α} {x : Int × Tb} {y : α} {ap : Pos} {pl : Sem Bool} (T : Tx X.K mg) (M : Mt X.prog X.w X.K X.mg X.base k f ps [] (spF (aC (rR X.K) a0) G r F X.K)) (hm : Meth X.K (cR X.K) m f) (hr : Room k X.A) (ha : Ev X σ H a (rR X.K) x) (hx : G (x, ())) (hy : F (x, ()) = y := by rfl)
    (hl : List.lookup m [(("own_prime" : Str), V.non), ("own_rows", V.non)] = none := by decide +kernel)
    (ht : eval (.Call (.Attribute a m ap) [] [] pos) X.env = (do
      let ov ← eval a X.env
      standAt ap.atName
      let (f, first) ← holding [ov] (getMethod ov m pl)
      callWith pos f first (backTo pos (starEach [] X.env)) (backToKw pos (keywordEach [] X.env))) := by rfl) : Ev X σ H (.Call (.Attribute a m ap) [] [] pos) r y := by
  obtain ⟨fd, ds, hd, hb, Fn⟩ := M.ex
  refine ev_of (pe_meth0 (pl := pl) cE_pe (He.cls_ok (T.fa 102 rfl)) hm Fn hr hb hd pass0 ht) fun H1 s Q c => ha H1 s _ fun v H2 s2 hv => ?_
  have hv' := hv
  obtain ⟨z, dx, w, rfl, h2, h3⟩ := hv'
  refine ⟨z, dx, _, rfl, h2, lk2 hl, ?_⟩
  exact ⟨(x, ()), ⟨_, _, rfl, hv, rfl⟩, hx, fun v H3 s3 hv3 => c v H3 (s2.trans s3) (hy ▸ hv3)⟩
theorem ev_meth1 {k : Nat} {m : Str} {f : Addr} {ps : List Str} {G : (Int × Tb) × β × Unit → Prop} {F : (Int × Tb) × β × Unit → α} {x : Int × Tb} {u : β} {y : α} {ap : Pos} {pl : Sem Bool} (T : Tx X.K mg) (M : Mt X.prog X.w X.K X.mg X.base k f ps [] (spF (aC (rR X.K) (aC q a0)) G r F X.K)) (hm : Meth X.K (cR X.K) m f) (hr : Room k X.A) (ha : Ev X σ H a (rR X.K) x) (hb : Ev X σ H b q u) (hx : G (x, u, ())) (hy : F (x, u, ()) = y := by rfl)
    (hl : List.lookup m [(("own_prime" : Str), V.non), ("own_rows", V.non)] = none := by decide +kernel) (hst : starEach [b] X.env = (false, eval b X.env) :: starEach [] X.env := by rfl)
    (ht : eval (.Call (.Attribute a m ap) [b] [] pos) X.env = (do
      let ov ← eval a X.env
      standAt ap.atName
      let (f, first) ← holding [ov] (getMethod ov m pl)
      callWith pos f first (backTo pos (starEach [b] X.env)) (backToKw pos (keywordEach [] X.env))) := by rfl) : Ev X σ H (.Call (.Attribute a m ap) [b] [] pos) r y := by
  obtain ⟨fd, ds, hd, hbi, Fn⟩ := M.ex
  refine ev_of (pe_meth (pl := pl) cE_pe (He.cls_ok (T.fa 102 rfl)) hm Fn hr hbi hd pass0 cA_pa hst rfl ht) fun H1 s Q c => ha H1 s _ fun v H2 s2 hv => ?_
  have hv' := hv
  obtain ⟨z, dx, w, rfl, h2, h3⟩ := hv'
  refine ⟨z, dx, _, rfl, h2, lk2 hl, ea_1 hb hst H2 (s.trans s2) _ fun vs H3 s3 hvs => ?_⟩
  obtain ⟨t, rfl, h5⟩ := a1 hvs
  exact ⟨(x, u, ()), ⟨_, _, rfl, (rR X.K).mono s3 hv, _, _, rfl, h5, rfl⟩, hx, fun v H4 s4 hv4 => c v H4 ((s2.trans s3).trans s4) (hy ▸ hv4)⟩
/-! ### attributes stored -/
def gAt (K : Fr) (to : TE) (f : Str) : TG := fun v σ H Q => to σ H fun x H2 => ∃ a C dx fs, x = .ref a ∧ H2 a = some (.ins C dx fs) ∧ Cls K C ∧ NoAttr K C f ∧ fs.length < 1000 ∧ Q σ (upd H2 a (.ins C dx (putF f v fs)))
theorem pg_at {o : Expr} {to : TE} {f : Str} (ho : PE X o to)
    (ha : ∀ v, assign (.Attribute o f pos) X.env v = (do
      let ov ← holding [v] (eval o X.env)
      standAt pos.atName
      holding [v, ov] (setAttr ov f v)
      release [v, ov] []) := by intro _; rfl) : PG X (.Attribute o f pos) (gAt X.K to f) := by
  refine ⟨fun pins s σ H v u Q I r h => ?_⟩
  rw [ha]
  refine wpAny_bind (wpAny_holding (thn (ho.run pins s σ H _ I h) fun ov s1 ⟨x, H1, I1, r1, a, C, dx, fs, ex, ea, c, n, l, q⟩ => ?_))
  subst ex
  obtain rfl : ov = Value.ref a := r1
  refine wpAny_bind (wpAny_standAt (wpAny_bind (wpAny_holding (setattr_ok (I1.tok _) ea c n l r fun s3 I3 => ?_))))
  exact wpAny_release ⟨σ, _, I3, q⟩
end
/-- what is said of a value hangs on tuples alone -/
class Tp {α : Type} (r : Rp α) : Prop where
  tp : ∀ {K : Fr} {H H' : Hp} {v : V} {x : α}, (∀ a vs, H a = some (.tup vs) → H' a = some (.tup vs)) → r.rel K H v x → r.rel K H' v x
instance : Tp rI := ⟨fun _ h => h⟩
instance : Tp rB := ⟨fun _ h => h⟩
instance {z : V} : Tp (rV z) := ⟨fun _ h => h⟩
instance {α : Type} {r : Rp α} [Tp r] : Tp (rT r) := ⟨fun e h => by
  obtain ⟨a, vs, h1, h2, h3⟩ := h
  exact ⟨a, vs, h1, e _ _ h2, Paired.mapP h3 fun _ _ q => Tp.tp e q⟩⟩
instance {α β : Type} {r : Rp α} {q : Rp β} [Tp r] [Tp q] : Tp (r2 r q) := ⟨fun e h => by
  obtain ⟨a, u, w, h1, h2, h3, h4⟩ := h
  exact ⟨a, u, w, h1, e _ _ h2, Tp.tp e h3, Tp.tp e h4⟩⟩
instance {α β γ : Type} {r : Rp α} {q : Rp β} {p : Rp γ} [Tp r] [Tp q] [Tp p] : Tp (r3 r q p) := ⟨fun e h => by
  obtain ⟨a, u, w, z, h1, h2, h3, h4, h5⟩ := h
  exact ⟨a, u, w, z, h1, e _ _ h2, Tp.tp e h3, Tp.tp e h4, Tp.tp e h5⟩⟩
theorem tup_er {H : Hp} {p : Addr} {o : HO} (h : H p = some o) (ho : ∀ vs, o ≠ .tup vs) : ∀ a vs, H a = some (.tup vs) → er p H a = some (.tup vs) := fun a vs e => by
  rw [er_ne]
  · exact e
  · rintro rfl
    rw [h] at e
    exact ho vs (Option.some.inj e)
section
variable {X : Cx} {σ : L2.St} {H : Hp} {pos : Pos} {a b : Expr} {mg : Str → Option Value} {rest : List Stmt} {D : Ends}
theorem cs_two {x dx : Addr} {p : Int} {g : Tb} {p1 p2 p3 p4 p5 p6 : Pos} {k1 k2 : Nat} (T : Tx X.K mg) (ha : Ev X σ H a rI p) (hb : Ev X σ H b (rT (rT rI)) g) (hσ : σ[0]? = some (some (.ref x))) (hN : X.N[0]? = some ("self" : Str)) (hx : H x = some (.ins (cR X.K) dx []))
    (k : ∀ H2, Same (er x H) H2 → (rR X.K).rel X.K H2 (.ref x) (p, g) → cS X rest D σ H2) (hv : Vis X.env.scope "self" := by first | exact Or.inl rfl | exact Or.inr (Or.inl rfl) | exact Or.inr (Or.inr rfl)) (hc : X.calm = true := by rfl)
    (hw : swappedStores [.Tuple [.Attribute (.Name "self" p1) "own_prime" p2, .Attribute (.Name "self" p3) "own_rows" p4] k1 p5] (.Tuple [a, b] k2 p6) X.env = pure none := by rfl)
    (hs : swapsWithSole [.Tuple [.Attribute (.Name "self" p1) "own_prime" p2, .Attribute (.Name "self" p3) "own_rows" p4] k1 p5] (.Tuple [a, b] k2 p6) pos.line X.env = pure false := by rfl)
    (ht : (assignEach [.Tuple [.Attribute (.Name "self" p1) "own_prime" p2, .Attribute (.Name "self" p3) "own_rows" p4] k1 p5] X.env).map (·.2) = [assign (.Tuple [.Attribute (.Name "self" p1) "own_prime" p2, .Attribute (.Name "self" p3) "own_rows" p4] k1 p5) X.env] := by rfl)
    (h1 : (assignEach [.Attribute (.Name "self" p1) "own_prime" p2, .Attribute (.Name "self" p3) "own_rows" p4] X.env).map (·.2) = assign (.Attribute (.Name "self" p1) "own_prime" p2) X.env :: (assignEach [.Attribute (.Name "self" p3) "own_rows" p4] X.env).map (·.2) := by rfl)
    (h2 : (assignEach [.Attribute (.Name "self" p3) "own_rows" p4] X.env).map (·.2) = assign (.Attribute (.Name "self" p3) "own_rows" p4) X.env :: (assignEach [] X.env).map (·.2) := by rfl)
    (hn : (assignEach [.Attribute (.Name "self" p1) "own_prime" p2, .Attribute (.Name "self" p3) "own_rows" p4] X.env).length = 2 := by rfl) (hst : (assignEach [.Attribute (.Name "self" p1) "own_prime" p2, .Attribute (.Name "self" p3) "own_rows" p4] X.env).findIdx? (·.1) = none := by rfl)
    (hs1 : starEach [a, b] X.env = (false, eval a X.env) :: starEach [b] X.env := by rfl) (hs2 : starEach [b] X.env = (false, eval b X.env) :: starEach [] X.env := by rfl) :
    cS X (.Assign [.Tuple [.Attribute (.Name "self" p1) "own_prime" p2, .Attribute (.Name "self" p3) "own_rows" p4] k1 p5] (.Tuple [a, b] k2 p6) pos :: rest) D σ H :=
  cs_one (ps_asg (pe_tup cA_pa) (pg_tup hc (pgs_cons (pg_at cE_pe) (pgs_cons (pg_at cE_pe) pgs_nil h2) h1) hn hst) hs hw ht) (cA2 (ha H (Same.refl H) _ fun u H1 s1 hu => hb H1 s1 _ fun w H2 s2 hw =>
    ⟨by show 2 ≤ sizeLine; decide, fun t hT => by
      have s3 := same_new (o := HO.tup [u, w]) hT
      cases (show u = V.int p from hu)
      refine ⟨t, [.int p, w], rfl, SqT.of upd_same, rfl, .int p, [w], rfl, (ev_v (r := rV (.ref x)) (d := ()) 0 rfl hσ hN hv) _ (Same.refl _) _ fun o H3 s4 ho => ?_⟩
      cases (show o = V.ref x from ho)
      have sA := ((s1.trans s2).trans s3).trans s4
      refine ⟨x, _, dx, [], rfl, sA _ _ hx, He.cls_ok (T.fa 102 rfl), He.noat_ok (T.fa 104 rfl), by show 0 < 1000; decide, w, [], rfl, (ev_v (r := rV (.ref x)) (d := ()) 0 rfl hσ hN hv) _ (Same.refl _) _ fun o H4 s5 ho => ?_⟩
      cases (show o = V.ref x from ho)
      have hx4 := s5 _ _ (upd_same (H := H3) (a := x) (o := .ins (cR X.K) dx (putF "own_prime" (.int p) [])))
      have sB : Same (er x H3) H4 := (same_mut same_er er_at).trans s5
      refine ⟨x, _, dx, _, rfl, hx4, He.cls_ok (T.fa 102 rfl), He.noat_ok (T.fa 105 rfl), by show 1 < 1000; decide, rfl, k _ (same_mut ((er_mono sA).trans sB) er_at) ⟨x, dx, w, rfl, upd_same, ?_⟩⟩
      have hw3 := (rT (rT rI)).mono (s3.trans s4) hw
      exact (rT (rT rI)).mono (same_mut sB er_at) (Tp.tp (tup_er (sA _ _ hx) fun _ e => nomatch e) hw3)⟩) hs1 hs2)
end
end K06
/-! ==== DA ==== -/
set_option Elab.async false
set_option linter.all false
set_option maxRecDepth 100000
set_option maxHeartbeats 4000000
namespace K06
open PySem L2 PySem.Spec PyProof.Rows RZ

abbrev sp_unit (K : Fr) : Sp := spF (aC (rI) (aC (rI) (a0))) (fun (size, place, _) => -1000 ≤ size ∧ size ≤ 1000) (rT rI) (fun (size, place, _) => unitM size place) K
theorem sc_unit : FnScope ["size", "place", "at"] ["size", "place"] (defScope (top 29)) := ⟨rfl, rfl, rfl, by decide +kernel, rfl, by decide +kernel, by decide +kernel⟩
theorem df_unit {P : Program} {w : World} {K : Fr} {mg : Str → Option Value} {base : Heap} (T : Tx K mg) : Df P w K mg base 1 "unit" ["size", "place"] (sp_unit K) := by
  obtain ⟨fd, F⟩ := T.dx 12 (d := d12) rfl
  refine ⟨_, fd, T.gl 12 rfl, F.kp, F.bindsN (fun _ _ _ _ _ _ us hl => match us, hl with | [_, _], _ => rfl), ?_⟩
  refine F.ok sc_unit (fun vs H Q E h => ?_) (fun cdv A outer s H vs Q E hr h => ⟨_, PSs.nox cS_pss, ?_⟩)
  · obtain ⟨⟨size, place, u_end⟩, ⟨v_size, _, rfl, h_size, ⟨v_place, _, rfl, h_place, h_end⟩⟩, g⟩ := h
    cases h_end
    rfl
  · obtain ⟨⟨size, place, u_end⟩, ⟨v_size, _, rfl, h_size, ⟨v_place, _, rfl, h_place, h_end⟩⟩, g, kk⟩ := h
    cases h_end
    replace h_size : Rp.rel (rI) K H v_size size := h_size
    replace h_place : Rp.rel (rI) K H v_place place := h_place
    replace g : -1000 ≤ size ∧ size ≤ 1000 := g
    replace kk : ∀ v H2, Same H H2 → Rp.rel (rT rI) K H2 v (unitM size place) → Q v H2 := kk
    refine cs_ret ?_ fun v H1 s1 hv => kk v H1 s1 hv
    refine ev_tupL (m_tuple T) (ev_lc1 sc_unit.nd (j := 2) (src_R1 (m_range T) (ev_v 0 h_size) ?_) (blkOk_by (N := ["size", "place", "at"]) (sc := defScope (top 29)) (by decide +kernel)) ⟨rfl, by first | exact Or.inl rfl | exact Or.inr rfl, by first | exact Or.inr rfl | exact Or.inl rfl⟩ fun s Hs C cl fp x hx v H1 s1 hv => ev_if (et_eq (ev_v 2 hv) (ev_v 1 (rI.mono s1 h_place))) (fun q => (ev_i).is ?_) fun q => (ev_i).is ?_)
    ·   omega
    · rw [if_pos (of_decide_eq_true q)]
    · rw [if_neg (of_decide_eq_false q)]
abbrev sp_idle_of (K : Fr) : Sp := spF (aC (rI) (a0)) (fun (size, _) => -1000 ≤ size ∧ size ≤ 1000) (rT (rT rI)) (fun (size, _) => idleM size) K
theorem sc_idle_of : FnScope ["size", "place"] ["size"] (defScope (top 30)) := ⟨rfl, rfl, rfl, by decide +kernel, rfl, by decide +kernel, by decide +kernel⟩
theorem df_idle_of {P : Program} {w : World} {K : Fr} {mg : Str → Option Value} {base : Heap} (T : Tx K mg) : Df P w K mg base 2 "idle_of" ["size"] (sp_idle_of K) := by
  have D_unit := df_unit (P := P) (w := w) (base := base) T
  obtain ⟨fd, F⟩ := T.dx 13 (d := d13) rfl
  refine ⟨_, fd, T.gl 13 rfl, F.kp, F.bindsN (fun _ _ _ _ _ _ us hl => match us, hl with | [_], _ => rfl), ?_⟩
  refine F.ok sc_idle_of (fun vs H Q E h => ?_) (fun cdv A outer s H vs Q E hr h => ⟨_, PSs.nox cS_pss, ?_⟩)
  · obtain ⟨⟨size, u_end⟩, ⟨v_size, _, rfl, h_size, h_end⟩, g⟩ := h
    cases h_end
    rfl
  · obtain ⟨⟨size, u_end⟩, ⟨v_size, _, rfl, h_size, h_end⟩, g, kk⟩ := h
    cases h_end
    replace h_size : Rp.rel (rI) K H v_size size := h_size
    replace g : -1000 ≤ size ∧ size ≤ 1000 := g
    replace kk : ∀ v H2, Same H H2 → Rp.rel (rT (rT rI)) K H2 v (idleM size) → Q v H2 := kk
    refine cs_ret ?_ fun v H1 s1 hv => kk v H1 s1 hv
    refine ev_tupL (m_tuple T) (ev_lc1 sc_idle_of.nd (j := 1) (src_R1 (m_range T) (ev_v 0 h_size) ?_) (blkOk_by (N := ["size", "place"]) (sc := defScope (top 30)) (by decide +kernel)) ⟨rfl, by first | exact Or.inl rfl | exact Or.inr rfl, by first | exact Or.inr rfl | exact Or.inl rfl⟩ fun s Hs C cl fp x hx v H1 s1 hv => ev_call D_unit (hr.mono (by decide)) (ea_c (ev_v 0 (rI.mono s1 h_size)) (ea_c (ev_v 1 hv) ea_0)) g)
    omega
abbrev sp_dot (K : Fr) : Sp := spF (aC (rI) (aC (rT rI) (aC (rT rI) (a0)))) (fun (prime, row, other, _) => 0 < prime ∧ ∀ y ∈ row, Sm y) (rI) (fun (prime, row, other, _) => dotM prime row other) K
theorem sc_dot : FnScope ["prime", "row", "other", "near", "far"] ["prime", "row", "other"] (defScope (top 31)) := ⟨rfl, rfl, rfl, by decide +kernel, rfl, by decide +kernel, by decide +kernel⟩
theorem df_dot {P : Program} {w : World} {K : Fr} {mg : Str → Option Value} {base : Heap} (T : Tx K mg) : Df P w K mg base 1 "dot" ["prime", "row", "other"] (sp_dot K) := by
  obtain ⟨fd, F⟩ := T.dx 14 (d := d14) rfl
  refine ⟨_, fd, T.gl 14 rfl, F.kp, F.bindsN (fun _ _ _ _ _ _ us hl => match us, hl with | [_, _, _], _ => rfl), ?_⟩
  refine F.ok sc_dot (fun vs H Q E h => ?_) (fun cdv A outer s H vs Q E hr h => ⟨_, PSs.nox cS_pss, ?_⟩)
  · obtain ⟨⟨prime, row, other, u_end⟩, ⟨v_prime, _, rfl, h_prime, ⟨v_row, _, rfl, h_row, ⟨v_other, _, rfl, h_other, h_end⟩⟩⟩, g⟩ := h
    cases h_end
    rfl
  · obtain ⟨⟨prime, row, other, u_end⟩, ⟨v_prime, _, rfl, h_prime, ⟨v_row, _, rfl, h_row, ⟨v_other, _, rfl, h_other, h_end⟩⟩⟩, g, kk⟩ := h
    cases h_end
    replace h_prime : Rp.rel (rI) K H v_prime prime := h_prime
    replace h_row : Rp.rel (rT rI) K H v_row row := h_row
    replace h_other : Rp.rel (rT rI) K H v_other other := h_other
    replace g : 0 < prime ∧ ∀ y ∈ row, Sm y := g
    replace kk : ∀ v H2, Same H H2 → Rp.rel (rI) K H2 v (dotM prime row other) → Q v H2 := kk
    refine cs_ret ?_ fun v H1 s1 hv => kk v H1 s1 hv
    refine ev_mod (ev_sum (m_sum T) (ev_lc2 sc_dot.nd (j := 3) (k := 4) (src_zT (m_zip T) (ev_v 1 h_row) (ev_v 2 h_other)) (blkOk_by (N := ["prime", "row", "other", "near", "far"]) (sc := defScope (top 31)) (by decide +kernel)) ⟨rfl, by first | exact Or.inl rfl | exact Or.inr rfl, by first | exact Or.inr rfl | exact Or.inl rfl⟩ ⟨rfl, by first | exact Or.inl rfl | exact Or.inr rfl, by first | exact Or.inr rfl | exact Or.inl rfl⟩ (by decide) fun s Hs C cl fp x hx u v H1 s1 hu hv => ev_mul (ev_v 3 hu) (ev_v 4 hv) ?_)) (ev_v 0 h_prime) g.1
    exact g.2 _ (List.of_mem_zip hx).1
end K06
/-! ==== DB ==== -/
set_option Elab.async false
set_option linter.all false
set_option maxRecDepth 100000
set_option maxHeartbeats 4000000
namespace K06
open PySem L2 PySem.Spec PyProof.Rows RZ

abbrev sp_power_of (K : Fr) : Sp := spF (aC (rI) (aC (rI) (aC (rI) (a0)))) (fun (prime, number, many, _) => (0 < prime ∧ prime ≤ 1000) ∧ (-1000 ≤ many ∧ many ≤ 1000)) (rI) (fun (prime, number, many, _) => powM prime number many.toNat) K
theorem sc_power_of : FnScope ["prime", "number", "many", "found", "turn"] ["prime", "number", "many"] (defScope (top 18)) := ⟨rfl, rfl, rfl, by decide +kernel, rfl, by decide +kernel, by decide +kernel⟩
theorem df_power_of {P : Program} {w : World} {K : Fr} {mg : Str → Option Value} {base : Heap} (T : Tx K mg) : Df P w K mg base 1 "power_of" ["prime", "number", "many"] (sp_power_of K) := by
  obtain ⟨fd, F⟩ := T.dx 3 (d := d3) rfl
  refine ⟨_, fd, T.gl 3 rfl, F.kp, F.bindsN (fun _ _ _ _ _ _ us hl => match us, hl with | [_, _, _], _ => rfl), ?_⟩
  refine F.ok sc_power_of (fun vs H Q E h => ?_) (fun cdv A outer s H vs Q E hr h => ⟨_, PSs.nox cS_pss, ?_⟩)
  · obtain ⟨⟨prime, number, many, u_end⟩, ⟨v_prime, _, rfl, h_prime, ⟨v_number, _, rfl, h_number, ⟨v_many, _, rfl, h_many, h_end⟩⟩⟩, g⟩ := h
    cases h_end
    rfl
  · obtain ⟨⟨prime, number, many, u_end⟩, ⟨v_prime, _, rfl, h_prime, ⟨v_number, _, rfl, h_number, ⟨v_many, _, rfl, h_many, h_end⟩⟩⟩, g, kk⟩ := h
    cases h_end
    replace h_prime : Rp.rel (rI) K H v_prime prime := h_prime
    replace h_number : Rp.rel (rI) K H v_number number := h_number
    replace h_many : Rp.rel (rI) K H v_many many := h_many
    replace g : (0 < prime ∧ prime ≤ 1000) ∧ (-1000 ≤ many ∧ many ≤ 1000) := g
    replace kk : ∀ v H2, Same H H2 → Rp.rel (rI) K H2 v (powM prime number many.toNat) → Q v H2 := kk
    refine cs_set (i := 3) sc_power_of.nd rfl (ev_i) fun v1 H1 s1 hv1 => ?_
    refine cs_for1 (j := 4) sc_power_of.nd rfl (src_R1 (m_range T) (ev_v 2 (rI.mono s1 h_many)) (by omega)) (fun _ i σ' _ => ∃ o, σ' = [some v_prime, some v_number, some v_many, some (.int (powM prime number i)), o]) (fun H2 s2 => ⟨none, ?_⟩) ?_ ?_
    · cases hv1
      rfl
    · rintro H2 s2 i x v σ' H' hx s3 hv ⟨o, rfl⟩
      refine cs_set (i := 3) sc_power_of.nd rfl (ev_mod (ev_mul (ev_v 3 (r := rI) (d := powM prime number i) rfl) (ev_v 1 (rI.mono ((s1.trans s2).trans s3) h_number)) ?_) (ev_v 0 (rI.mono ((s1.trans s2).trans s3) h_prime)) g.1.1) fun v2 H3 s4 hv2 => cs_nil ⟨s3.trans s4, some v, ?_⟩
      · cases i with
        | zero => exact ⟨by show (-1000000000000 : Int) ≤ 1; decide, by show (1 : Int) ≤ 1000000000000; decide⟩
        | succ i =>
          have h1 := Int.emod_nonneg (powM prime number i * number) (show prime ≠ 0 by omega)
          have h2 := Int.emod_lt_of_pos (powM prime number i * number) g.1.1
          exact ⟨by show -1000000000000 ≤ powM prime number i * number % prime; omega, by show powM prime number i * number % prime ≤ 1000000000000; omega⟩
      · cases hv2
        rfl
    · rintro H2 s2 σ' H' s3 ⟨o, rfl⟩
      refine cs_ret (ev_v 3 (r := rI) (d := powM prime number many.toNat) ?_) fun v H1 s1 hv => kk v H1 ?_ hv
      · rw [ups_len]
        rfl
      · exact ((‹Same H _›.trans s2).trans s3).trans s1
abbrev sp_undone_of (K : Fr) : Sp := spF (aC (rI) (aC (rI) (a0))) (fun (prime, rest, _) => 2 ≤ prime ∧ prime ≤ 1000) (rI) (fun (prime, rest, _) => undM prime rest) K
theorem sc_undone_of : FnScope ["prime", "rest"] ["prime", "rest"] (defScope (top 19)) := ⟨rfl, rfl, rfl, by decide +kernel, rfl, by decide +kernel, by decide +kernel⟩
theorem df_undone_of {P : Program} {w : World} {K : Fr} {mg : Str → Option Value} {base : Heap} (T : Tx K mg) : Df P w K mg base 2 "undone_of" ["prime", "rest"] (sp_undone_of K) := by
  have D_power_of := df_power_of (P := P) (w := w) (base := base) T
  obtain ⟨fd, F⟩ := T.dx 4 (d := d4) rfl
  refine ⟨_, fd, T.gl 4 rfl, F.kp, F.bindsN (fun _ _ _ _ _ _ us hl => match us, hl with | [_, _], _ => rfl), ?_⟩
  refine F.ok sc_undone_of (fun vs H Q E h => ?_) (fun cdv A outer s H vs Q E hr h => ⟨_, PSs.nox cS_pss, ?_⟩)
  · obtain ⟨⟨prime, rest, u_end⟩, ⟨v_prime, _, rfl, h_prime, ⟨v_rest, _, rfl, h_rest, h_end⟩⟩, g⟩ := h
    cases h_end
    rfl
  · obtain ⟨⟨prime, rest, u_end⟩, ⟨v_prime, _, rfl, h_prime, ⟨v_rest, _, rfl, h_rest, h_end⟩⟩, g, kk⟩ := h
    cases h_end
    replace h_prime : Rp.rel (rI) K H v_prime prime := h_prime
    replace h_rest : Rp.rel (rI) K H v_rest rest := h_rest
    replace g : 2 ≤ prime ∧ prime ≤ 1000 := g
    replace kk : ∀ v H2, Same H H2 → Rp.rel (rI) K H2 v (undM prime rest) → Q v H2 := kk
    refine cs_ret ?_ fun v H1 s1 hv => kk v H1 s1 hv
    exact ev_call D_power_of (hr.mono (by decide)) (ea_c (ev_v 0 h_prime) (ea_c (ev_v 1 h_rest) (ea_c (ev_sub (ev_v 0 h_prime) ev_i) ea_0))) (show (0 < prime ∧ prime ≤ 1000) ∧ (-1000 ≤ prime - 2 ∧ prime - 2 ≤ 1000) by omega)
abbrev sp_sign_of (K : Fr) : Sp := spF (aC (rI) (aC (rI) (a0))) (fun (prime, rest, _) => 2 ≤ prime ∧ prime ≤ 1000) (rI) (fun (prime, rest, _) => sgnM prime rest) K
theorem sc_sign_of : FnScope ["prime", "rest"] ["prime", "rest"] (defScope (top 20)) := ⟨rfl, rfl, rfl, by decide +kernel, rfl, by decide +kernel, by decide +kernel⟩
theorem df_sign_of {P : Program} {w : World} {K : Fr} {mg : Str → Option Value} {base : Heap} (T : Tx K mg) : Df P w K mg base 2 "sign_of" ["prime", "rest"] (sp_sign_of K) := by
  have D_power_of := df_power_of (P := P) (w := w) (base := base) T
  obtain ⟨fd, F⟩ := T.dx 5 (d := d5) rfl
  refine ⟨_, fd, T.gl 5 rfl, F.kp, F.bindsN (fun _ _ _ _ _ _ us hl => match us, hl with | [_, _], _ => rfl), ?_⟩
  refine F.ok sc_sign_of (fun vs H Q E h => ?_) (fun cdv A outer s H vs Q E hr h => ⟨_, PSs.nox cS_pss, ?_⟩)
  · obtain ⟨⟨prime, rest, u_end⟩, ⟨v_prime, _, rfl, h_prime, ⟨v_rest, _, rfl, h_rest, h_end⟩⟩, g⟩ := h
    cases h_end
    rfl
  · obtain ⟨⟨prime, rest, u_end⟩, ⟨v_prime, _, rfl, h_prime, ⟨v_rest, _, rfl, h_rest, h_end⟩⟩, g, kk⟩ := h
    cases h_end
    replace h_prime : Rp.rel (rI) K H v_prime prime := h_prime
    replace h_rest : Rp.rel (rI) K H v_rest rest := h_rest
    replace g : 2 ≤ prime ∧ prime ≤ 1000 := g
    replace kk : ∀ v H2, Same H H2 → Rp.rel (rI) K H2 v (sgnM prime rest) → Q v H2 := kk
    by_cases e0 : rest = 0
    · refine cs_if (et_eq (ev_v 1 h_rest) ev_i) (fun _ H1 s1 => cs_ret ev_i fun v H2 s2 hv => kk v H2 (s1.trans s2) ?_) fun q => absurd e0 (of_decide_eq_false q)
      show rI.rel K H2 v (sgnM prime rest)
      unfold sgnM
      rw [if_pos e0]
      exact hv
    · refine cs_if (et_eq (ev_v 1 h_rest) ev_i) (fun q => absurd (of_decide_eq_true q) e0) fun _ H1 s1 => cs_nil ?_
      refine cs_ret (x := sgnM prime rest) (ev_if (et_eq (ev_call D_power_of (hr.mono (by decide)) (y := powM prime rest ((prime - 1) / 2).toNat) (ea_c (ev_v 0 (rI.mono s1 h_prime)) (ea_c (ev_v 1 (rI.mono s1 h_rest)) (ea_c (ev_div (ev_sub (ev_v 0 (rI.mono s1 h_prime)) ev_i) ev_i ⟨by decide, by decide⟩) ea_0))) (show (0 < prime ∧ prime ≤ 1000) ∧ (-1000 ≤ (prime - 1) / 2 ∧ (prime - 1) / 2 ≤ 1000) by omega)) ev_i) (fun q => ev_i.is ?_) fun q => ?_) fun v H2 s2 hv => kk v H2 (s1.trans s2) hv
      · unfold sgnM
        rw [if_neg e0, if_pos (of_decide_eq_true q)]
      · have e1 : sgnM prime rest = -1 := by
          unfold sgnM
          rw [if_neg e0, if_neg (of_decide_eq_false q)]
        rw [e1]
        exact ev_neg ev_i
abbrev sp_odd_of (K : Fr) : Sp := spF (aC (rI) (a0)) (fun (prime, _) => (3 ≤ prime ∧ prime ≤ 1000) ∧ 0 < (oddsM prime).length) (rI) (fun (prime, _) => oddM prime) K
theorem sc_odd_of : FnScope ["prime", "rest"] ["prime"] (defScope (top 21)) := ⟨rfl, rfl, rfl, by decide +kernel, rfl, by decide +kernel, by decide +kernel⟩
theorem df_odd_of {P : Program} {w : World} {K : Fr} {mg : Str → Option Value} {base : Heap} (T : Tx K mg) : Df P w K mg base 3 "odd_of" ["prime"] (sp_odd_of K) := by
  have D_sign_of := df_sign_of (P := P) (w := w) (base := base) T
  obtain ⟨fd, F⟩ := T.dx 6 (d := d6) rfl
  refine ⟨_, fd, T.gl 6 rfl, F.kp, F.bindsN (fun _ _ _ _ _ _ us hl => match us, hl with | [_], _ => rfl), ?_⟩
  refine F.ok sc_odd_of (fun vs H Q E h => ?_) (fun cdv A outer s H vs Q E hr h => ⟨_, PSs.nox cS_pss, ?_⟩)
  · obtain ⟨⟨prime, u_end⟩, ⟨v_prime, _, rfl, h_prime, h_end⟩, g⟩ := h
    cases h_end
    rfl
  · obtain ⟨⟨prime, u_end⟩, ⟨v_prime, _, rfl, h_prime, h_end⟩, g, kk⟩ := h
    cases h_end
    replace h_prime : Rp.rel (rI) K H v_prime prime := h_prime
    replace g : (3 ≤ prime ∧ prime ≤ 1000) ∧ 0 < (oddsM prime).length := g
    replace kk : ∀ v H2, Same H H2 → Rp.rel (rI) K H2 v (oddM prime) → Q v H2 := kk
    refine cs_ret ?_ fun v H1 s1 hv => kk v H1 s1 hv
    refine ev_ixL (j := 0) (xs := oddsM prime) ?_ ev_i ?_
    · have e : oddsM prime = ((ups 0 prime.toNat).filter fun r => decide (sgnM prime r = -1)).map fun r => r := by rw [List.map_id']; rfl
      rw [e]
      exact ev_lc1f sc_odd_of.nd (j := 1) (src_R1 (m_range T) (ev_v 0 h_prime) (by omega)) (blkOk_by (N := ["prime", "rest"]) (sc := defScope (top 21)) (by decide +kernel)) ⟨rfl, by first | exact Or.inl rfl | exact Or.inr rfl, by first | exact Or.inr rfl | exact Or.inl rfl⟩ (fun s Hs C cl fp x hx v H1 s1 hv => et_eq (ev_call D_sign_of (hr.mono (by decide)) (ea_c (ev_v 0 (rI.mono s1 h_prime)) (ea_c (ev_v 1 hv) ea_0)) (show 2 ≤ prime ∧ prime ≤ 1000 by omega)) (ev_neg ev_i)) fun s Hs C cl fp x hx _ v H1 s1 hv => ev_v 1 hv
    · show (oddsM prime)[0]? = some ((oddsM prime).getD 0 0)
      rw [List.getD_eq_getElem?_getD, List.getElem?_eq_getElem g.2]
      rfl
end K06
/-! ==== DC ==== -/
set_option Elab.async false
set_option linter.all false
set_option maxRecDepth 100000
set_option maxHeartbeats 4000000
namespace K06
open PySem L2 PySem.Spec PyProof.Rows RZ

abbrev sp_is_integer (K : Fr) : Sp := spF (aC (rI) (a0)) (fun (value, _) => True) (rB) (fun (value, _) => true) K
theorem sc_is_integer : FnScope ["value"] ["value"] (defScope (top 13)) := ⟨rfl, rfl, rfl, by decide +kernel, rfl, by decide +kernel, by decide +kernel⟩
theorem df_is_integer {P : Program} {w : World} {K : Fr} {mg : Str → Option Value} {base : Heap} (T : Tx K mg) : Df P w K mg base 1 "is_integer" ["value"] (sp_is_integer K) := by
  obtain ⟨fd, F⟩ := T.dx 0 (d := d0) rfl
  refine ⟨_, fd, T.gl 0 rfl, F.kp, F.bindsN (fun _ _ _ _ _ _ us hl => match us, hl with | [_], _ => rfl), ?_⟩
  refine F.ok sc_is_integer (fun vs H Q E h => ?_) (fun cdv A outer s H vs Q E hr h => ⟨_, PSs.nox cS_pss, ?_⟩)
  · obtain ⟨⟨value, u_end⟩, ⟨v_value, _, rfl, h_value, h_end⟩, g⟩ := h
    cases h_end
    rfl
  · obtain ⟨⟨value, u_end⟩, ⟨v_value, _, rfl, h_value, h_end⟩, g, kk⟩ := h
    cases h_end
    replace h_value : Rp.rel (rI) K H v_value value := h_value
    replace g : True := g
    replace kk : ∀ v H2, Same H H2 → Rp.rel (rB) K H2 v (true) → Q v H2 := kk
    refine cs_ret ?_ fun v H1 s1 hv => kk v H1 s1 hv
    exact (ev_and (ev_isi (m_isinstance T) (ev_v 0 h_value) (pe_tyN (n := "int") (m_int T) (by decide +kernel)) (.ty _) tx_I (kit_ty (r := true) (by decide +kernel))) fun _ => ev_one (ev_not (ev_isi (m_isinstance T) (ev_v 0 h_value) (pe_tyN (n := "bool") (m_bool T) (by decide +kernel)) (.ty _) tx_I (kit_ty (r := false) (by decide +kernel))))).is rfl
abbrev sp_is_list (K : Fr) : Sp := spF (aC (rAny) (a0)) (fun (value, _) => True) (rB) (fun (value, _) => true) K
theorem sc_is_list : FnScope ["value"] ["value"] (defScope (top 14)) := ⟨rfl, rfl, rfl, by decide +kernel, rfl, by decide +kernel, by decide +kernel⟩
theorem df_is_list {P : Program} {w : World} {K : Fr} {mg : Str → Option Value} {base : Heap} (T : Tx K mg) : Df P w K mg base 1 "is_list" ["value"] (sp_is_list K) := by
  obtain ⟨fd, F⟩ := T.dx 1 (d := d1) rfl
  refine ⟨_, fd, T.gl 1 rfl, F.kp, F.bindsN (fun _ _ _ _ _ _ us hl => match us, hl with | [_], _ => rfl), ?_⟩
  refine F.ok sc_is_list (fun vs H Q E h => ?_) (fun cdv A outer s H vs Q E hr h => ⟨_, PSs.nox cS_pss, ?_⟩)
  · obtain ⟨⟨value, u_end⟩, ⟨v_value, _, rfl, h_value, h_end⟩, g⟩ := h
    cases h_end
    rfl
  · obtain ⟨⟨value, u_end⟩, ⟨v_value, _, rfl, h_value, h_end⟩, g, kk⟩ := h
    cases h_end
    replace h_value : Rp.rel (rAny) K H v_value value := h_value
    replace g : True := g
    replace kk : ∀ v H2, Same H H2 → Rp.rel (rB) K H2 v (true) → Q v H2 := kk
    refine cs_ret ?_ fun v H1 s1 hv => kk v H1 s1 hv
    exact ev_isList (m_isinstance T) (m_list T) (m_tuple T) (ev_v 0 h_value)
abbrev sp_want_at_most (K : Fr) : Sp := spF (aC (rV (.str "size")) (aC (rI) (aC (rI) (a0)))) (fun (what, limit, number, _) => number ≤ limit) (rV .non) (fun (what, limit, number, _) => ()) K
theorem sc_want_at_most : FnScope ["what", "limit", "number"] ["what", "limit", "number"] (defScope (top 15)) := ⟨rfl, rfl, rfl, by decide +kernel, rfl, by decide +kernel, by decide +kernel⟩
theorem df_want_at_most {P : Program} {w : World} {K : Fr} {mg : Str → Option Value} {base : Heap} (T : Tx K mg) : Df P w K mg base 1 "want_at_most" ["what", "limit", "number"] (sp_want_at_most K) := by
  obtain ⟨fd, F⟩ := T.dx 2 (d := d2) rfl
  refine ⟨_, fd, T.gl 2 rfl, F.kp, F.bindsN (fun _ _ _ _ _ _ us hl => match us, hl with | [_, _, _], _ => rfl), ?_⟩
  refine F.ok sc_want_at_most (fun vs H Q E h => ?_) (fun cdv A outer s H vs Q E hr h => ⟨_, PSs.nox cS_pss, ?_⟩)
  · obtain ⟨⟨what, limit, number, u_end⟩, ⟨v_what, _, rfl, h_what, ⟨v_limit, _, rfl, h_limit, ⟨v_number, _, rfl, h_number, h_end⟩⟩⟩, g⟩ := h
    cases h_end
    rfl
  · obtain ⟨⟨what, limit, number, u_end⟩, ⟨v_what, _, rfl, h_what, ⟨v_limit, _, rfl, h_limit, ⟨v_number, _, rfl, h_number, h_end⟩⟩⟩, g, kk⟩ := h
    cases h_end
    replace h_what : Rp.rel (rV (.str "size")) K H v_what what := h_what
    replace h_limit : Rp.rel (rI) K H v_limit limit := h_limit
    replace h_number : Rp.rel (rI) K H v_number number := h_number
    replace g : number ≤ limit := g
    replace kk : ∀ v H2, Same H H2 → Rp.rel (rV .non) K H2 v (()) → Q v H2 := kk
    refine cs_skip ((et_gt (ev_v 2 h_number) (ev_v 1 h_limit)).is (decide_eq_false (by omega))) fun H1 s1 => cs_nil (kk .non H1 s1 rfl)
abbrev sp_is_rest_by (K : Fr) : Sp := spF (aC (rI) (aC (rI) (a0))) (fun (prime, value, _) => True) (rB) (fun (prime, value, _) => decide (0 ≤ value) && decide (value < prime)) K
theorem sc_is_rest_by : FnScope ["prime", "value"] ["prime", "value"] (defScope (top 22)) := ⟨rfl, rfl, rfl, by decide +kernel, rfl, by decide +kernel, by decide +kernel⟩
theorem df_is_rest_by {P : Program} {w : World} {K : Fr} {mg : Str → Option Value} {base : Heap} (T : Tx K mg) : Df P w K mg base 2 "is_rest_by" ["prime", "value"] (sp_is_rest_by K) := by
  have D_is_integer := df_is_integer (P := P) (w := w) (base := base) T
  obtain ⟨fd, F⟩ := T.dx 7 (d := d7) rfl
  refine ⟨_, fd, T.gl 7 rfl, F.kp, F.bindsN (fun _ _ _ _ _ _ us hl => match us, hl with | [_, _], _ => rfl), ?_⟩
  refine F.ok sc_is_rest_by (fun vs H Q E h => ?_) (fun cdv A outer s H vs Q E hr h => ⟨_, PSs.nox cS_pss, ?_⟩)
  · obtain ⟨⟨prime, value, u_end⟩, ⟨v_prime, _, rfl, h_prime, ⟨v_value, _, rfl, h_value, h_end⟩⟩, g⟩ := h
    cases h_end
    rfl
  · obtain ⟨⟨prime, value, u_end⟩, ⟨v_prime, _, rfl, h_prime, ⟨v_value, _, rfl, h_value, h_end⟩⟩, g, kk⟩ := h
    cases h_end
    replace h_prime : Rp.rel (rI) K H v_prime prime := h_prime
    replace h_value : Rp.rel (rI) K H v_value value := h_value
    replace g : True := g
    replace kk : ∀ v H2, Same H H2 → Rp.rel (rB) K H2 v (decide (0 ≤ value) && decide (value < prime)) → Q v H2 := kk
    refine cs_ret ?_ fun v H1 s1 hv => kk v H1 s1 hv
    exact (ev_and (ev_call D_is_integer (hr.mono (by decide)) (ea_c (ev_v 1 h_value) ea_0) trivial) fun _ => ev_one (ev_leLt ev_i (ev_v 1 h_value) (ev_v 0 h_prime))).is rfl
abbrev sp_is_prime (K : Fr) : Sp := spF (aC (rI) (a0)) (fun (value, _) => True) (rB) (fun (value, _) => inP value) K
theorem sc_is_prime : FnScope ["value"] ["value"] (defScope (top 25)) := ⟨rfl, rfl, rfl, by decide +kernel, rfl, by decide +kernel, by decide +kernel⟩
theorem df_is_prime {P : Program} {w : World} {K : Fr} {mg : Str → Option Value} {base : Heap} (T : Tx K mg) : Df P w K mg base 2 "is_prime" ["value"] (sp_is_prime K) := by
  have D_is_integer := df_is_integer (P := P) (w := w) (base := base) T
  obtain ⟨fd, F⟩ := T.dx 10 (d := d10) rfl
  refine ⟨_, fd, T.gl 10 rfl, F.kp, F.bindsN (fun _ _ _ _ _ _ us hl => match us, hl with | [_], _ => rfl), ?_⟩
  refine F.ok sc_is_prime (fun vs H Q E h => ?_) (fun cdv A outer s H vs Q E hr h => ⟨_, PSs.nox cS_pss, ?_⟩)
  · obtain ⟨⟨value, u_end⟩, ⟨v_value, _, rfl, h_value, h_end⟩, g⟩ := h
    cases h_end
    rfl
  · obtain ⟨⟨value, u_end⟩, ⟨v_value, _, rfl, h_value, h_end⟩, g, kk⟩ := h
    cases h_end
    replace h_value : Rp.rel (rI) K H v_value value := h_value
    replace g : True := g
    replace kk : ∀ v H2, Same H H2 → Rp.rel (rB) K H2 v (inP value) → Q v H2 := kk
    refine cs_ret ?_ fun v H1 s1 hv => kk v H1 s1 hv
    exact (ev_and (ev_call D_is_integer (hr.mono (by decide)) (ea_c (ev_v 0 h_value) ea_0) trivial) fun _ => ev_one (ev_inP T (ev_v 0 h_value))).is rfl
abbrev sp_want_prime (K : Fr) : Sp := spF (aC (rI) (a0)) (fun (value, _) => inP value = true) (rV .non) (fun (value, _) => ()) K
theorem sc_want_prime : FnScope ["value"] ["value"] (defScope (top 23)) := ⟨rfl, rfl, rfl, by decide +kernel, rfl, by decide +kernel, by decide +kernel⟩
theorem df_want_prime {P : Program} {w : World} {K : Fr} {mg : Str → Option Value} {base : Heap} (T : Tx K mg) : Df P w K mg base 3 "want_prime" ["value"] (sp_want_prime K) := by
  have D_is_prime := df_is_prime (P := P) (w := w) (base := base) T
  obtain ⟨fd, F⟩ := T.dx 8 (d := d8) rfl
  refine ⟨_, fd, T.gl 8 rfl, F.kp, F.bindsN (fun _ _ _ _ _ _ us hl => match us, hl with | [_], _ => rfl), ?_⟩
  refine F.ok sc_want_prime (fun vs H Q E h => ?_) (fun cdv A outer s H vs Q E hr h => ⟨_, PSs.nox cS_pss, ?_⟩)
  · obtain ⟨⟨value, u_end⟩, ⟨v_value, _, rfl, h_value, h_end⟩, g⟩ := h
    cases h_end
    rfl
  · obtain ⟨⟨value, u_end⟩, ⟨v_value, _, rfl, h_value, h_end⟩, g, kk⟩ := h
    cases h_end
    replace h_value : Rp.rel (rI) K H v_value value := h_value
    replace g : inP value = true := g
    replace kk : ∀ v H2, Same H H2 → Rp.rel (rV .non) K H2 v (()) → Q v H2 := kk
    refine cs_skip ((et_not (et_val (ev_call D_is_prime (hr.mono (by decide)) (ea_c (ev_v 0 h_value) ea_0) trivial))).is (by show (!inP value) = false; rw [g]; rfl)) fun H1 s1 => cs_nil (kk .non H1 s1 rfl)
abbrev sp_want_rest (K : Fr) : Sp := spF (aC (rI) (aC (rI) (a0))) (fun (prime, value, _) => 0 ≤ value ∧ value < prime) (rV .non) (fun (prime, value, _) => ()) K
theorem sc_want_rest : FnScope ["prime", "value"] ["prime", "value"] (defScope (top 24)) := ⟨rfl, rfl, rfl, by decide +kernel, rfl, by decide +kernel, by decide +kernel⟩
theorem df_want_rest {P : Program} {w : World} {K : Fr} {mg : Str → Option Value} {base : Heap} (T : Tx K mg) : Df P w K mg base 3 "want_rest" ["prime", "value"] (sp_want_rest K) := by
  have D_is_rest_by := df_is_rest_by (P := P) (w := w) (base := base) T
  obtain ⟨fd, F⟩ := T.dx 9 (d := d9) rfl
  refine ⟨_, fd, T.gl 9 rfl, F.kp, F.bindsN (fun _ _ _ _ _ _ us hl => match us, hl with | [_, _], _ => rfl), ?_⟩
  refine F.ok sc_want_rest (fun vs H Q E h => ?_) (fun cdv A outer s H vs Q E hr h => ⟨_, PSs.nox cS_pss, ?_⟩)
  · obtain ⟨⟨prime, value, u_end⟩, ⟨v_prime, _, rfl, h_prime, ⟨v_value, _, rfl, h_value, h_end⟩⟩, g⟩ := h
    cases h_end
    rfl
  · obtain ⟨⟨prime, value, u_end⟩, ⟨v_prime, _, rfl, h_prime, ⟨v_value, _, rfl, h_value, h_end⟩⟩, g, kk⟩ := h
    cases h_end
    replace h_prime : Rp.rel (rI) K H v_prime prime := h_prime
    replace h_value : Rp.rel (rI) K H v_value value := h_value
    replace g : 0 ≤ value ∧ value < prime := g
    replace kk : ∀ v H2, Same H H2 → Rp.rel (rV .non) K H2 v (()) → Q v H2 := kk
    refine cs_skip ((et_not (et_val (ev_call D_is_rest_by (hr.mono (by decide)) (ea_c (ev_v 0 h_prime) (ea_c (ev_v 1 h_value) ea_0)) trivial))).is (by show (!(decide (0 ≤ value) && decide (value < prime))) = false; rw [inB g]; rfl)) fun H1 s1 => cs_nil (kk .non H1 s1 rfl)
abbrev sp_sign_rest (K : Fr) : Sp := spF (aC (rI) (aC (rI) (a0))) (fun (prime, rest, _) => (inP prime = true ∧ 2 ≤ prime ∧ prime ≤ 1000) ∧ 0 ≤ rest ∧ rest < prime) (rI) (fun (prime, rest, _) => sgnM prime rest) K
theorem sc_sign_rest : FnScope ["prime", "rest"] ["prime", "rest"] (defScope (top 26)) := ⟨rfl, rfl, rfl, by decide +kernel, rfl, by decide +kernel, by decide +kernel⟩
theorem df_sign_rest {P : Program} {w : World} {K : Fr} {mg : Str → Option Value} {base : Heap} (T : Tx K mg) : Df P w K mg base 4 "sign_rest" ["prime", "rest"] (sp_sign_rest K) := by
  have D_sign_of := df_sign_of (P := P) (w := w) (base := base) T
  have D_want_prime := df_want_prime (P := P) (w := w) (base := base) T
  have D_want_rest := df_want_rest (P := P) (w := w) (base := base) T
  obtain ⟨fd, F⟩ := T.dx 11 (d := d11) rfl
  refine ⟨_, fd, T.gl 11 rfl, F.kp, F.bindsN (fun _ _ _ _ _ _ us hl => match us, hl with | [_, _], _ => rfl), ?_⟩
  refine F.ok sc_sign_rest (fun vs H Q E h => ?_) (fun cdv A outer s H vs Q E hr h => ⟨_, PSs.nox cS_pss, ?_⟩)
  · obtain ⟨⟨prime, rest, u_end⟩, ⟨v_prime, _, rfl, h_prime, ⟨v_rest, _, rfl, h_rest, h_end⟩⟩, g⟩ := h
    cases h_end
    rfl
  · obtain ⟨⟨prime, rest, u_end⟩, ⟨v_prime, _, rfl, h_prime, ⟨v_rest, _, rfl, h_rest, h_end⟩⟩, g, kk⟩ := h
    cases h_end
    replace h_prime : Rp.rel (rI) K H v_prime prime := h_prime
    replace h_rest : Rp.rel (rI) K H v_rest rest := h_rest
    replace g : (inP prime = true ∧ 2 ≤ prime ∧ prime ≤ 1000) ∧ 0 ≤ rest ∧ rest < prime := g
    replace kk : ∀ v H2, Same H H2 → Rp.rel (rI) K H2 v (sgnM prime rest) → Q v H2 := kk
    refine cs_drop (ev_call D_want_prime (hr.mono (by decide)) (ea_c (ev_v 0 h_prime) ea_0) g.1.1) fun H1 s1 => cs_drop (ev_call D_want_rest (hr.mono (by decide)) (ea_c (ev_v 0 (rI.mono s1 h_prime)) (ea_c (ev_v 1 (rI.mono s1 h_rest)) ea_0)) g.2) fun H2 s2 => cs_ret (ev_call D_sign_of (hr.mono (by decide)) (ea_c (ev_v 0 (rI.mono (s1.trans s2) h_prime)) (ea_c (ev_v 1 (rI.mono (s1.trans s2) h_rest)) ea_0)) g.1.2) fun v H3 s3 hv => kk v H3 ((s1.trans s2).trans s3) hv
abbrev sp_sum_of (K : Fr) : Sp := spF (aC (rI) (aC (rT rI) (aC (rT rI) (aC (rI) (a0))))) (fun (prime, row, other, rest, _) => 0 < prime ∧ Sm rest) (rT rI) (fun (prime, row, other, rest, _) => sumM prime row other rest) K
theorem sc_sum_of : FnScope ["prime", "row", "other", "rest", "near", "far"] ["prime", "row", "other", "rest"] (defScope (top 32)) := ⟨rfl, rfl, rfl, by decide +kernel, rfl, by decide +kernel, by decide +kernel⟩
theorem df_sum_of {P : Program} {w : World} {K : Fr} {mg : Str → Option Value} {base : Heap} (T : Tx K mg) : Df P w K mg base 1 "sum_of" ["prime", "row", "other", "rest"] (sp_sum_of K) := by
  obtain ⟨fd, F⟩ := T.dx 15 (d := d15) rfl
  refine ⟨_, fd, T.gl 15 rfl, F.kp, F.bindsN (fun _ _ _ _ _ _ us hl => match us, hl with | [_, _, _, _], _ => rfl), ?_⟩
  refine F.ok sc_sum_of (fun vs H Q E h => ?_) (fun cdv A outer s H vs Q E hr h => ⟨_, PSs.nox cS_pss, ?_⟩)
  · obtain ⟨⟨prime, row, other, rest, u_end⟩, ⟨v_prime, _, rfl, h_prime, ⟨v_row, _, rfl, h_row, ⟨v_other, _, rfl, h_other, ⟨v_rest, _, rfl, h_rest, h_end⟩⟩⟩⟩, g⟩ := h
    cases h_end
    rfl
  · obtain ⟨⟨prime, row, other, rest, u_end⟩, ⟨v_prime, _, rfl, h_prime, ⟨v_row, _, rfl, h_row, ⟨v_other, _, rfl, h_other, ⟨v_rest, _, rfl, h_rest, h_end⟩⟩⟩⟩, g, kk⟩ := h
    cases h_end
    replace h_prime : Rp.rel (rI) K H v_prime prime := h_prime
    replace h_row : Rp.rel (rT rI) K H v_row row := h_row
    replace h_other : Rp.rel (rT rI) K H v_other other := h_other
    replace h_rest : Rp.rel (rI) K H v_rest rest := h_rest
    replace g : 0 < prime ∧ Sm rest := g
    replace kk : ∀ v H2, Same H H2 → Rp.rel (rT rI) K H2 v (sumM prime row other rest) → Q v H2 := kk
    refine cs_ret ?_ fun v H1 s1 hv => kk v H1 s1 hv
    refine ev_tupL (m_tuple T) (ev_lc2 sc_sum_of.nd (j := 4) (k := 5) (src_zT (m_zip T) (ev_v 1 h_row) (ev_v 2 h_other)) (blkOk_by (N := ["prime", "row", "other", "rest", "near", "far"]) (sc := defScope (top 32)) (by decide +kernel)) ⟨rfl, by first | exact Or.inl rfl | exact Or.inr rfl, by first | exact Or.inr rfl | exact Or.inl rfl⟩ ⟨rfl, by first | exact Or.inl rfl | exact Or.inr rfl, by first | exact Or.inr rfl | exact Or.inl rfl⟩ (by decide) fun s Hs C cl fp x hx u v H1 s1 hu hv => ev_mod (ev_add (ev_v 4 hu) (ev_mul (ev_v 3 (rI.mono s1 h_rest)) (ev_v 5 hv) g.2)) (ev_v 0 (rI.mono s1 h_prime)) g.1)
abbrev sp_scaled_of (K : Fr) : Sp := spF (aC (rI) (aC (rT rI) (aC (rI) (a0)))) (fun (prime, row, rest, _) => 0 < prime ∧ Sm rest) (rT rI) (fun (prime, row, rest, _) => sclM prime row rest) K
theorem sc_scaled_of : FnScope ["prime", "row", "rest", "number"] ["prime", "row", "rest"] (defScope (top 33)) := ⟨rfl, rfl, rfl, by decide +kernel, rfl, by decide +kernel, by decide +kernel⟩
theorem df_scaled_of {P : Program} {w : World} {K : Fr} {mg : Str → Option Value} {base : Heap} (T : Tx K mg) : Df P w K mg base 1 "scaled_of" ["prime", "row", "rest"] (sp_scaled_of K) := by
  obtain ⟨fd, F⟩ := T.dx 16 (d := d16) rfl
  refine ⟨_, fd, T.gl 16 rfl, F.kp, F.bindsN (fun _ _ _ _ _ _ us hl => match us, hl with | [_, _, _], _ => rfl), ?_⟩
  refine F.ok sc_scaled_of (fun vs H Q E h => ?_) (fun cdv A outer s H vs Q E hr h => ⟨_, PSs.nox cS_pss, ?_⟩)
  · obtain ⟨⟨prime, row, rest, u_end⟩, ⟨v_prime, _, rfl, h_prime, ⟨v_row, _, rfl, h_row, ⟨v_rest, _, rfl, h_rest, h_end⟩⟩⟩, g⟩ := h
    cases h_end
    rfl
  · obtain ⟨⟨prime, row, rest, u_end⟩, ⟨v_prime, _, rfl, h_prime, ⟨v_row, _, rfl, h_row, ⟨v_rest, _, rfl, h_rest, h_end⟩⟩⟩, g, kk⟩ := h
    cases h_end
    replace h_prime : Rp.rel (rI) K H v_prime prime := h_prime
    replace h_row : Rp.rel (rT rI) K H v_row row := h_row
    replace h_rest : Rp.rel (rI) K H v_rest rest := h_rest
    replace g : 0 < prime ∧ Sm rest := g
    replace kk : ∀ v H2, Same H H2 → Rp.rel (rT rI) K H2 v (sclM prime row rest) → Q v H2 := kk
    refine cs_ret ?_ fun v H1 s1 hv => kk v H1 s1 hv
    refine ev_tupL (m_tuple T) (ev_lc1 sc_scaled_of.nd (j := 3) (src_T (ev_v 1 h_row)) (blkOk_by (N := ["prime", "row", "rest", "number"]) (sc := defScope (top 33)) (by decide +kernel)) ⟨rfl, by first | exact Or.inl rfl | exact Or.inr rfl, by first | exact Or.inr rfl | exact Or.inl rfl⟩ fun s Hs C cl fp x hx v H1 s1 hv => ev_mod (ev_mul (ev_v 2 (rI.mono s1 h_rest)) (ev_v 3 hv) g.2) (ev_v 0 (rI.mono s1 h_prime)) g.1)
abbrev sp_mix_of (K : Fr) : Sp := spF (aC (rI) (aC (rT rI) (aC (rT (rT rI)) (aC (rI) (a0))))) (fun (prime, rests, rows, size, _) => (0 < prime ∧ ∀ x ∈ rests, Sm x) ∧ 0 ≤ size ∧ size ≤ 1000) (rT rI) (fun (prime, rests, rows, size, _) => mixM prime rests rows size) K
theorem sc_mix_of : FnScope ["prime", "rests", "rows", "size", "found", "rest", "row"] ["prime", "rests", "rows", "size"] (defScope (top 34)) := ⟨rfl, rfl, rfl, by decide +kernel, rfl, by decide +kernel, by decide +kernel⟩
theorem df_mix_of {P : Program} {w : World} {K : Fr} {mg : Str → Option Value} {base : Heap} (T : Tx K mg) : Df P w K mg base 2 "mix_of" ["prime", "rests", "rows", "size"] (sp_mix_of K) := by
  have D_sum_of := df_sum_of (P := P) (w := w) (base := base) T
  obtain ⟨fd, F⟩ := T.dx 17 (d := d17) rfl
  refine ⟨_, fd, T.gl 17 rfl, F.kp, F.bindsN (fun _ _ _ _ _ _ us hl => match us, hl with | [_, _, _, _], _ => rfl), ?_⟩
  refine F.ok sc_mix_of (fun vs H Q E h => ?_) (fun cdv A outer s H vs Q E hr h => ⟨_, PSs.nox cS_pss, ?_⟩)
  · obtain ⟨⟨prime, rests, rows, size, u_end⟩, ⟨v_prime, _, rfl, h_prime, ⟨v_rests, _, rfl, h_rests, ⟨v_rows, _, rfl, h_rows, ⟨v_size, _, rfl, h_size, h_end⟩⟩⟩⟩, g⟩ := h
    cases h_end
    rfl
  · obtain ⟨⟨prime, rests, rows, size, u_end⟩, ⟨v_prime, _, rfl, h_prime, ⟨v_rests, _, rfl, h_rests, ⟨v_rows, _, rfl, h_rows, ⟨v_size, _, rfl, h_size, h_end⟩⟩⟩⟩, g, kk⟩ := h
    cases h_end
    replace h_prime : Rp.rel (rI) K H v_prime prime := h_prime
    replace h_rests : Rp.rel (rT rI) K H v_rests rests := h_rests
    replace h_rows : Rp.rel (rT (rT rI)) K H v_rows rows := h_rows
    replace h_size : Rp.rel (rI) K H v_size size := h_size
    replace g : (0 < prime ∧ ∀ x ∈ rests, Sm x) ∧ 0 ≤ size ∧ size ≤ 1000 := g
    replace kk : ∀ v H2, Same H H2 → Rp.rel (rT rI) K H2 v (mixM prime rests rows size) → Q v H2 := kk
    refine cs_set (i := 4) sc_mix_of.nd rfl (ev_repT (ev_T1 ev_i) (ev_v 3 h_size) g.2) fun v1 H1 s1 hv1 => ?_
    refine cs_for2 (j := 5) (k := 6) sc_mix_of.nd rfl rfl (src_zT (m_zip T) (ev_v 1 ((rT rI).mono s1 h_rests)) (ev_v 2 ((rT (rT rI)).mono s1 h_rows))) (fun _ i σ' H' => ∃ w o1 o2, σ' = [some v_prime, some v_rests, some v_rows, some v_size, some w, o1, o2] ∧ (rT rI).rel K H' w (((rests.zip rows).take i).foldl (fun f z => sumM prime f z.2 z.1) (List.replicate size.toNat 0))) (fun H2 s2 => ⟨v1, none, none, rfl, (rT rI).mono s2 hv1⟩) ?_ ?_ ?_
    · rintro H2 s2 i x u v σ' H' hx s3 hu hv ⟨w, o1, o2, rfl, hw⟩
      have hm := List.of_mem_zip (List.mem_of_getElem? hx)
      refine cs_set (i := 4) sc_mix_of.nd rfl (ev_call D_sum_of (hr.mono (by decide)) (ea_c (ev_v 0 (rI.mono ((s1.trans s2).trans s3) h_prime)) (ea_c (ev_v 4 hw) (ea_c (ev_v 6 hv) (ea_c (ev_v 5 hu) ea_0)))) ⟨g.1.1, g.1.2 _ hm.1⟩) fun v2 H3 s4 hv2 => cs_nil ⟨s3.trans s4, v2, some u, some v, rfl, ?_⟩
      rw [fold_take _ _ hx]
      exact hv2
    · rintro H2 s2 i σ' H3 H4 s4 ⟨w, o1, o2, rfl, hw⟩
      exact ⟨w, o1, o2, rfl, (rT rI).mono s4 hw⟩
    · rintro H2 s2 σ' H' s3 ⟨w, o1, o2, rfl, hw⟩
      rw [List.take_length] at hw
      exact cs_ret (ev_v 4 hw) fun v H4 s4 hv => kk v H4 (((s1.trans s2).trans s3).trans s4) hv
abbrev sp_led_of (K : Fr) : Sp := spF (aC (rI) (aC (rT rI) (aC (rT (rT rI)) (a0)))) (fun (prime, row, table, _) => (0 < prime ∧ ∀ x ∈ row, Sm x) ∧ widM table ≤ 1000) (rT rI) (fun (prime, row, table, _) => ledM prime row table) K
theorem sc_led_of : FnScope ["prime", "row", "table"] ["prime", "row", "table"] (defScope (top 35)) := ⟨rfl, rfl, rfl, by decide +kernel, rfl, by decide +kernel, by decide +kernel⟩
theorem df_led_of {P : Program} {w : World} {K : Fr} {mg : Str → Option Value} {base : Heap} (T : Tx K mg) : Df P w K mg base 3 "led_of" ["prime", "row", "table"] (sp_led_of K) := by
  have D_mix_of := df_mix_of (P := P) (w := w) (base := base) T
  obtain ⟨fd, F⟩ := T.dx 18 (d := d18) rfl
  refine ⟨_, fd, T.gl 18 rfl, F.kp, F.bindsN (fun _ _ _ _ _ _ us hl => match us, hl with | [_, _, _], _ => rfl), ?_⟩
  refine F.ok sc_led_of (fun vs H Q E h => ?_) (fun cdv A outer s H vs Q E hr h => ⟨_, PSs.nox cS_pss, ?_⟩)
  · obtain ⟨⟨prime, row, table, u_end⟩, ⟨v_prime, _, rfl, h_prime, ⟨v_row, _, rfl, h_row, ⟨v_table, _, rfl, h_table, h_end⟩⟩⟩, g⟩ := h
    cases h_end
    rfl
  · obtain ⟨⟨prime, row, table, u_end⟩, ⟨v_prime, _, rfl, h_prime, ⟨v_row, _, rfl, h_row, ⟨v_table, _, rfl, h_table, h_end⟩⟩⟩, g, kk⟩ := h
    cases h_end
    replace h_prime : Rp.rel (rI) K H v_prime prime := h_prime
    replace h_row : Rp.rel (rT rI) K H v_row row := h_row
    replace h_table : Rp.rel (rT (rT rI)) K H v_table table := h_table
    replace g : (0 < prime ∧ ∀ x ∈ row, Sm x) ∧ widM table ≤ 1000 := g
    replace kk : ∀ v H2, Same H H2 → Rp.rel (rT rI) K H2 v (ledM prime row table) → Q v H2 := kk
    refine cs_ret ?_ fun v H1 s1 hv => kk v H1 s1 hv
    refine ev_call D_mix_of (hr.mono (by decide)) (ea_c (ev_v 0 h_prime) (ea_c (ev_v 1 h_row) (ea_c (ev_v 2 h_table) (ea_c (ev_if (x := widM table) (et_gt (ev_lenT (m_len T) (ev_v 2 h_table)) ev_i) (fun q => (ev_lenT (m_len T) (ev_ixTd (x := 0) (d := []) (ev_v 2 h_table) ev_i ?_)).is ?_) (fun q => ev_i.is ?_)) ea_0)))) (show (0 < prime ∧ ∀ x ∈ row, Sm x) ∧ 0 ≤ widM table ∧ widM table ≤ 1000 from ⟨g.1, ?_, g.2⟩)
    · have := of_decide_eq_true q
      omega
    · unfold widM
      rw [if_pos (of_decide_eq_true q)]
      rfl
    · unfold widM
      rw [if_neg (of_decide_eq_false q)]
    · unfold widM
      by_cases q : (table.length : Int) > 0
      · rw [if_pos q]
        omega
      · rw [if_neg q]
        omega
abbrev sp_turned_of (K : Fr) : Sp := spF (aC (rT (rT rI)) (a0)) (fun (table, _) => table.length ≤ 1000 ∧ ∀ row ∈ table, row.length = table.length) (rT (rT rI)) (fun (table, _) => turM table) K
theorem sc_turned_of : FnScope ["table", "row", "place"] ["table"] (defScope (top 36)) := ⟨rfl, rfl, rfl, by decide +kernel, rfl, by decide +kernel, by decide +kernel⟩
theorem df_turned_of {P : Program} {w : World} {K : Fr} {mg : Str → Option Value} {base : Heap} (T : Tx K mg) : Df P w K mg base 1 "turned_of" ["table"] (sp_turned_of K) := by
  obtain ⟨fd, F⟩ := T.dx 19 (d := d19) rfl
  refine ⟨_, fd, T.gl 19 rfl, F.kp, F.bindsN (fun _ _ _ _ _ _ us hl => match us, hl with | [_], _ => rfl), ?_⟩
  refine F.ok sc_turned_of (fun vs H Q E h => ?_) (fun cdv A outer s H vs Q E hr h => ⟨_, PSs.nox cS_pss, ?_⟩)
  · obtain ⟨⟨table, u_end⟩, ⟨v_table, _, rfl, h_table, h_end⟩, g⟩ := h
    cases h_end
    rfl
  · obtain ⟨⟨table, u_end⟩, ⟨v_table, _, rfl, h_table, h_end⟩, g, kk⟩ := h
    cases h_end
    replace h_table : Rp.rel (rT (rT rI)) K H v_table table := h_table
    replace g : table.length ≤ 1000 ∧ ∀ row ∈ table, row.length = table.length := g
    replace kk : ∀ v H2, Same H H2 → Rp.rel (rT (rT rI)) K H2 v (turM table) → Q v H2 := kk
    refine cs_ret ?_ fun v H1 s1 hv => kk v H1 s1 hv
    refine ev_tupL (m_tuple T) (ev_lc1 sc_turned_of.nd (j := 2) (src_R1 (m_range T) (ev_lenT (m_len T) (ev_v 0 h_table)) ?_) (blkOk_by (N := ["table", "row", "place"]) (sc := defScope (top 36)) (by decide +kernel)) ⟨rfl, by first | exact Or.inl rfl | exact Or.inr rfl, by first | exact Or.inr rfl | exact Or.inl rfl⟩ fun s Hs C cl fp x hx v H1 s1 hv => ev_tupL (X := Bk _ _ s Hs C cl fp) (m_tuple T) (ev_lc1 sc_turned_of.nd (j := 1) (src_T (ev_v 0 ((rT (rT rI)).mono s1 h_table))) (blkOk_by (N := ["table", "row", "place"]) (sc := relS _ (defScope (top 36))) (by decide +kernel)) ⟨rfl, by first | exact Or.inl rfl | exact Or.inr rfl, by first | exact Or.inr rfl | exact Or.inl rfl⟩ fun s' Hs' C' cl' fp' y hy w H2 s2 hw => ev_ixTd (ev_v 1 hw) (ev_v 2 (rI.mono s2 hv)) ?_))
    · omega
    · have h1 := ups_mem hx
      have h2 := g.2 y hy
      omega
abbrev sp_row_in (K : Fr) : Sp := spF (aC (rI) (aC (rS rI) (aC (rI) (a0)))) (fun (prime, value, size, _) => value.length = size ∧ ∀ x ∈ value, 0 ≤ x ∧ x < prime) (rO (rT rI)) (fun (prime, value, size, _) => some value) K
theorem sc_row_in : FnScope ["prime", "value", "size", "number"] ["prime", "value", "size"] (defScope (top 37)) := ⟨rfl, rfl, rfl, by decide +kernel, rfl, by decide +kernel, by decide +kernel⟩
theorem df_row_in {P : Program} {w : World} {K : Fr} {mg : Str → Option Value} {base : Heap} (T : Tx K mg) : Df P w K mg base 3 "row_in" ["prime", "value", "size"] (sp_row_in K) := by
  have D_is_list := df_is_list (P := P) (w := w) (base := base) T
  have D_is_rest_by := df_is_rest_by (P := P) (w := w) (base := base) T
  obtain ⟨fd, F⟩ := T.dx 20 (d := d20) rfl
  refine ⟨_, fd, T.gl 20 rfl, F.kp, F.bindsN (fun _ _ _ _ _ _ us hl => match us, hl with | [_, _, _], _ => rfl), ?_⟩
  refine F.ok sc_row_in (fun vs H Q E h => ?_) (fun cdv A outer s H vs Q E hr h => ⟨_, PSs.nox cS_pss, ?_⟩)
  · obtain ⟨⟨prime, value, size, u_end⟩, ⟨v_prime, _, rfl, h_prime, ⟨v_value, _, rfl, h_value, ⟨v_size, _, rfl, h_size, h_end⟩⟩⟩, g⟩ := h
    cases h_end
    rfl
  · obtain ⟨⟨prime, value, size, u_end⟩, ⟨v_prime, _, rfl, h_prime, ⟨v_value, _, rfl, h_value, ⟨v_size, _, rfl, h_size, h_end⟩⟩⟩, g, kk⟩ := h
    cases h_end
    replace h_prime : Rp.rel (rI) K H v_prime prime := h_prime
    replace h_value : Rp.rel (rS rI) K H v_value value := h_value
    replace h_size : Rp.rel (rI) K H v_size size := h_size
    replace g : value.length = size ∧ ∀ x ∈ value, 0 ≤ x ∧ x < prime := g
    replace kk : ∀ v H2, Same H H2 → Rp.rel (rO (rT rI)) K H2 v (some value) → Q v H2 := kk
    rcases h_value with h_value | h_value
    all_goals
      refine cs_skip ((et_w (ew_or (x := false) (et_not (et_val (ev_call D_is_list (hr.mono (by decide)) (y := true) (ea_c (ev_weak (ev_v 1 h_value) fun h => rS_any (sq_S (r := rI) h)) ea_0) trivial))) fun _ => ew_or (et_ne (ev_lenQ (r := rI) (m_len T) (ev_v 1 h_value)) (ev_v 2 h_size)) fun _ => ew_or1 (et_not (et_val (ev_all (m_all T) (ev_lc1 sc_row_in.nd (j := 3) (src_Q (r := rI) (ev_v 1 h_value)) (blkOk_by (N := ["prime", "value", "size", "number"]) (sc := defScope (top 37)) (by decide +kernel)) ⟨rfl, by first | exact Or.inl rfl | exact Or.inr rfl, by first | exact Or.inr rfl | exact Or.inl rfl⟩ fun s' Hs C cl fp x hx v H1 s1 hv => ev_call D_is_rest_by (hr.mono (by decide)) (ea_c (ev_v 0 (rI.mono s1 h_prime)) (ea_c (ev_v 3 hv) ea_0)) trivial)))))).is ?_) fun H1 s1 => cs_ret (ev_weak (ev_tupQ (r := rI) (m_tuple T) (ev_v 1 (Rp.mono _ s1 h_value))) some_T) fun v H2 s2 hv => kk v H2 (s1.trans s2) hv
      have e1 : (value.map fun x => decide (0 ≤ x) && decide (x < prime)).all id = true := by
        rw [List.all_eq_true]
        intro b hb
        obtain ⟨x, hx, rfl⟩ := List.mem_map.mp hb
        exact inB (g.2 x hx)
      rw [e1, decide_eq_true g.1]
      rfl
end K06
/-! ==== DD ==== -/
set_option Elab.async false
set_option linter.all false
set_option maxRecDepth 100000
set_option maxHeartbeats 4000000
namespace K06
open PySem L2 PySem.Spec PyProof.Rows RZ

abbrev sp_table_in (K : Fr) : Sp := spF (aC (rI) (aC (rS (rS rI)) (a0))) (fun (prime, value, _) => value.length ≤ 6 ∧ ∀ row ∈ value, row.length = value.length ∧ ∀ x ∈ row, 0 ≤ x ∧ x < prime) (rO (rT (rT rI))) (fun (prime, value, _) => some value) K
theorem sc_table_in : FnScope ["prime", "value", "found", "row"] ["prime", "value"] (defScope (top 38)) := ⟨rfl, rfl, rfl, by decide +kernel, rfl, by decide +kernel, by decide +kernel⟩
theorem df_table_in {P : Program} {w : World} {K : Fr} {mg : Str → Option Value} {base : Heap} (T : Tx K mg) : Df P w K mg base 4 "table_in" ["prime", "value"] (sp_table_in K) := by
  have D_is_list := df_is_list (P := P) (w := w) (base := base) T
  have D_row_in := df_row_in (P := P) (w := w) (base := base) T
  obtain ⟨fd, F⟩ := T.dx 21 (d := d21) rfl
  refine ⟨_, fd, T.gl 21 rfl, F.kp, F.bindsN (fun _ _ _ _ _ _ us hl => match us, hl with | [_, _], _ => rfl), ?_⟩
  refine F.ok sc_table_in (fun vs H Q E h => ?_) (fun cdv A outer s H vs Q E hr h => ⟨_, PSs.nox cS_pss, ?_⟩)
  · obtain ⟨⟨prime, value, u_end⟩, ⟨v_prime, _, rfl, h_prime, ⟨v_value, _, rfl, h_value, h_end⟩⟩, g⟩ := h
    cases h_end
    rfl
  · obtain ⟨⟨prime, value, u_end⟩, ⟨v_prime, _, rfl, h_prime, ⟨v_value, _, rfl, h_value, h_end⟩⟩, g, kk⟩ := h
    cases h_end
    replace h_prime : Rp.rel (rI) K H v_prime prime := h_prime
    replace h_value : Rp.rel (rS (rS rI)) K H v_value value := h_value
    replace g : value.length ≤ 6 ∧ ∀ row ∈ value, row.length = value.length ∧ ∀ x ∈ row, 0 ≤ x ∧ x < prime := g
    replace kk : ∀ v H2, Same H H2 → Rp.rel (rO (rT (rT rI))) K H2 v (some value) → Q v H2 := kk
    rcases h_value with h_value | h_value
    all_goals
      refine cs_skip ((et_w (ew_or (x := false) (et_not (et_val (ev_call D_is_list (hr.mono (by decide)) (y := true) (ea_c (ev_weak (ev_v 1 h_value) fun h => rS_any (sq_S (r := rS rI) h)) ea_0) trivial))) fun _ => ew_or1 (et_gt (ev_lenQ (r := rS rI) (m_len T) (ev_v 1 h_value)) (ev_gi (n := 6) (T.it 100 rfl))))).is (decide_eq_false (by omega))) fun H1 s1 => ?_
      refine cs_set1 (i := 2) (j := 3) (q := rO (rT rI)) (f := some) sc_table_in.nd rfl (src_Q (r := rS rI) (ev_v 1 (Rp.mono _ s1 h_value))) (blkOk_by (N := ["prime", "value", "found", "row"]) (sc := defScope (top 38)) (by decide +kernel)) ⟨rfl, by first | exact Or.inl rfl | exact Or.inr rfl, by first | exact Or.inr rfl | exact Or.inl rfl⟩ (fun s' Hs C cl fp x hx v H2 s2 hv => ev_call D_row_in (hr.mono (by decide)) (ea_c (ev_v 0 (rI.mono (s1.trans s2) h_prime)) (ea_c (ev_v 3 hv) (ea_c (ev_lenQ (X := Bk _ _ s' Hs C cl fp) (r := rS rI) (m_len T) (ev_v 1 (Rp.mono _ (s1.trans s2) h_value))) ea_0))) ⟨by rw [(g.2 x hx).1], (g.2 x hx).2⟩) fun v2 H2 s2 hv2 => ?_
      refine cs_ret (ev_if (x := some value) (et_val (Ev.is (y := false) (ev_any (m_any T) (ev_lc1 (f := fun _ => false) (j := 3) sc_table_in.nd (src_L (ev_v 2 hv2)) (blkOk_by (N := ["prime", "value", "found", "row"]) (sc := defScope (top 38)) (by decide +kernel)) ⟨rfl, by first | exact Or.inl rfl | exact Or.inr rfl, by first | exact Or.inr rfl | exact Or.inl rfl⟩ fun s' Hs C cl fp x hx v H3 s3 hv => Ev.is (ev_isN (ev_v 3 hv)) ?_)) ?_)) (fun q => nomatch q) fun _ => ev_weak (ev_tupL (m_tuple T) (ev_v 2 hv2)) fun h => some_T ?_) fun v H3 s3 hv => kk v H3 ((s1.trans s2).trans s3) hv
      · obtain ⟨y, _, rfl⟩ := List.mem_map.mp hx
        rfl
      · rw [List.any_eq_false]
        intro b hb
        obtain ⟨y, _, rfl⟩ := List.mem_map.mp hb
        exact fun h => nomatch h
      · obtain ⟨a, vs, e1, e2, e3⟩ := h
        exact ⟨a, vs, e1, e2, pr_unsome e3⟩
abbrev sp_want_table (K : Fr) : Sp := spF (aC (rI) (aC (rS (rS rI)) (a0))) (fun (prime, value, _) => value.length ≤ 6 ∧ ∀ row ∈ value, row.length = value.length ∧ ∀ x ∈ row, 0 ≤ x ∧ x < prime) (rT (rT rI)) (fun (prime, value, _) => value) K
theorem sc_want_table : FnScope ["prime", "value", "found"] ["prime", "value"] (defScope (top 40)) := ⟨rfl, rfl, rfl, by decide +kernel, rfl, by decide +kernel, by decide +kernel⟩
theorem df_want_table {P : Program} {w : World} {K : Fr} {mg : Str → Option Value} {base : Heap} (T : Tx K mg) : Df P w K mg base 5 "want_table" ["prime", "value"] (sp_want_table K) := by
  have D_table_in := df_table_in (P := P) (w := w) (base := base) T
  obtain ⟨fd, F⟩ := T.dx 23 (d := d23) rfl
  refine ⟨_, fd, T.gl 23 rfl, F.kp, F.bindsN (fun _ _ _ _ _ _ us hl => match us, hl with | [_, _], _ => rfl), ?_⟩
  refine F.ok sc_want_table (fun vs H Q E h => ?_) (fun cdv A outer s H vs Q E hr h => ⟨_, PSs.nox cS_pss, ?_⟩)
  · obtain ⟨⟨prime, value, u_end⟩, ⟨v_prime, _, rfl, h_prime, ⟨v_value, _, rfl, h_value, h_end⟩⟩, g⟩ := h
    cases h_end
    rfl
  · obtain ⟨⟨prime, value, u_end⟩, ⟨v_prime, _, rfl, h_prime, ⟨v_value, _, rfl, h_value, h_end⟩⟩, g, kk⟩ := h
    cases h_end
    replace h_prime : Rp.rel (rI) K H v_prime prime := h_prime
    replace h_value : Rp.rel (rS (rS rI)) K H v_value value := h_value
    replace g : value.length ≤ 6 ∧ ∀ row ∈ value, row.length = value.length ∧ ∀ x ∈ row, 0 ≤ x ∧ x < prime := g
    replace kk : ∀ v H2, Same H H2 → Rp.rel (rT (rT rI)) K H2 v (value) → Q v H2 := kk
    refine cs_set (i := 2) sc_want_table.nd rfl (ev_call D_table_in (hr.mono (by decide)) (y := some value) (ea_c (ev_v 0 h_prime) (ea_c (ev_v 1 h_value) ea_0)) g) fun v1 H1 s1 hv1 => cs_skip (et_isN (x := some value) (ev_v 2 hv1)) fun H2 s2 => cs_ret (ev_v 2 (Rp.mono _ s2 hv1.2)) fun v H3 s3 hv => kk v H3 ((s1.trans s2).trans s3) hv
abbrev sp_want_sized (K : Fr) : Sp := spF (aC (rI) (aC (rS (rS rI)) (aC (rI) (a0)))) (fun (prime, value, size, _) => (value.length ≤ 6 ∧ ∀ row ∈ value, row.length = value.length ∧ ∀ x ∈ row, 0 ≤ x ∧ x < prime) ∧ (value.length : Int) = size) (rT (rT rI)) (fun (prime, value, size, _) => value) K
theorem sc_want_sized : FnScope ["prime", "value", "size", "found"] ["prime", "value", "size"] (defScope (top 41)) := ⟨rfl, rfl, rfl, by decide +kernel, rfl, by decide +kernel, by decide +kernel⟩
theorem df_want_sized {P : Program} {w : World} {K : Fr} {mg : Str → Option Value} {base : Heap} (T : Tx K mg) : Df P w K mg base 6 "want_sized" ["prime", "value", "size"] (sp_want_sized K) := by
  have D_want_table := df_want_table (P := P) (w := w) (base := base) T
  obtain ⟨fd, F⟩ := T.dx 24 (d := d24) rfl
  refine ⟨_, fd, T.gl 24 rfl, F.kp, F.bindsN (fun _ _ _ _ _ _ us hl => match us, hl with | [_, _, _], _ => rfl), ?_⟩
  refine F.ok sc_want_sized (fun vs H Q E h => ?_) (fun cdv A outer s H vs Q E hr h => ⟨_, PSs.nox cS_pss, ?_⟩)
  · obtain ⟨⟨prime, value, size, u_end⟩, ⟨v_prime, _, rfl, h_prime, ⟨v_value, _, rfl, h_value, ⟨v_size, _, rfl, h_size, h_end⟩⟩⟩, g⟩ := h
    cases h_end
    rfl
  · obtain ⟨⟨prime, value, size, u_end⟩, ⟨v_prime, _, rfl, h_prime, ⟨v_value, _, rfl, h_value, ⟨v_size, _, rfl, h_size, h_end⟩⟩⟩, g, kk⟩ := h
    cases h_end
    replace h_prime : Rp.rel (rI) K H v_prime prime := h_prime
    replace h_value : Rp.rel (rS (rS rI)) K H v_value value := h_value
    replace h_size : Rp.rel (rI) K H v_size size := h_size
    replace g : (value.length ≤ 6 ∧ ∀ row ∈ value, row.length = value.length ∧ ∀ x ∈ row, 0 ≤ x ∧ x < prime) ∧ (value.length : Int) = size := g
    replace kk : ∀ v H2, Same H H2 → Rp.rel (rT (rT rI)) K H2 v (value) → Q v H2 := kk
    refine cs_set (i := 3) sc_want_sized.nd rfl (ev_call D_want_table (hr.mono (by decide)) (y := value) (ea_c (ev_v 0 h_prime) (ea_c (ev_v 1 h_value) ea_0)) g.1) fun v1 H1 s1 hv1 => cs_skip ((et_ne (ev_lenT (m_len T) (ev_v 3 hv1)) (ev_v 2 (rI.mono s1 h_size))).is ?_) fun H2 s2 => cs_ret (ev_v 3 (Rp.mono _ s2 hv1)) fun v H3 s3 hv => kk v H3 ((s1.trans s2).trans s3) hv
    rw [decide_eq_true g.2]
    rfl
abbrev sp_head_of (K : Fr) : Sp := spF (aC (rT rI) (a0)) (fun (row, _) => 0 < (hdsM row).length) (rI) (fun (row, _) => hdM row) K
theorem sc_head_of : FnScope ["row", "place", "number"] ["row"] (defScope (top 43)) := ⟨rfl, rfl, rfl, by decide +kernel, rfl, by decide +kernel, by decide +kernel⟩
theorem df_head_of {P : Program} {w : World} {K : Fr} {mg : Str → Option Value} {base : Heap} (T : Tx K mg) : Df P w K mg base 1 "head_of" ["row"] (sp_head_of K) := by
  obtain ⟨fd, F⟩ := T.dx 25 (d := d25) rfl
  refine ⟨_, fd, T.gl 25 rfl, F.kp, F.bindsN (fun _ _ _ _ _ _ us hl => match us, hl with | [_], _ => rfl), ?_⟩
  refine F.ok sc_head_of (fun vs H Q E h => ?_) (fun cdv A outer s H vs Q E hr h => ⟨_, PSs.nox cS_pss, ?_⟩)
  · obtain ⟨⟨row, u_end⟩, ⟨v_row, _, rfl, h_row, h_end⟩, g⟩ := h
    cases h_end
    rfl
  · obtain ⟨⟨row, u_end⟩, ⟨v_row, _, rfl, h_row, h_end⟩, g, kk⟩ := h
    cases h_end
    replace h_row : Rp.rel (rT rI) K H v_row row := h_row
    replace g : 0 < (hdsM row).length := g
    replace kk : ∀ v H2, Same H H2 → Rp.rel (rI) K H2 v (hdM row) → Q v H2 := kk
    refine cs_ret ?_ fun v H1 s1 hv => kk v H1 s1 hv
    refine ev_ixLd (d := 0) (xs := hdsM row) (ev_lc2f (j := 1) (k := 2) sc_head_of.nd (src_eT (m_enumerate T) (ev_v 0 h_row)) (blkOk_by (N := ["row", "place", "number"]) (sc := defScope (top 43)) (by decide +kernel)) ⟨rfl, by first | exact Or.inl rfl | exact Or.inr rfl, by first | exact Or.inr rfl | exact Or.inl rfl⟩ ⟨rfl, by first | exact Or.inl rfl | exact Or.inr rfl, by first | exact Or.inr rfl | exact Or.inl rfl⟩ (by decide) (fun s' Hs C cl fp x hx u v H1 s1 hu hv => et_ne (ev_v 2 hv) ev_i) fun s' Hs C cl fp x hx _ u v H1 s1 hu hv => ev_v 1 hu) ev_i ?_
    omega
abbrev sp_heads_of (K : Fr) : Sp := spF (aC (rL (rT rI)) (a0)) (fun (steps, _) => ∀ row ∈ steps, 0 < (hdsM row).length) (rL rI) (fun (steps, _) => steps.map hdM) K
theorem sc_heads_of : FnScope ["steps", "row"] ["steps"] (defScope (top 44)) := ⟨rfl, rfl, rfl, by decide +kernel, rfl, by decide +kernel, by decide +kernel⟩
theorem df_heads_of {P : Program} {w : World} {K : Fr} {mg : Str → Option Value} {base : Heap} (T : Tx K mg) : Df P w K mg base 2 "heads_of" ["steps"] (sp_heads_of K) := by
  have D_head_of := df_head_of (P := P) (w := w) (base := base) T
  obtain ⟨fd, F⟩ := T.dx 26 (d := d26) rfl
  refine ⟨_, fd, T.gl 26 rfl, F.kp, F.bindsN (fun _ _ _ _ _ _ us hl => match us, hl with | [_], _ => rfl), ?_⟩
  refine F.ok sc_heads_of (fun vs H Q E h => ?_) (fun cdv A outer s H vs Q E hr h => ⟨_, PSs.nox cS_pss, ?_⟩)
  · obtain ⟨⟨steps, u_end⟩, ⟨v_steps, _, rfl, h_steps, h_end⟩, g⟩ := h
    cases h_end
    rfl
  · obtain ⟨⟨steps, u_end⟩, ⟨v_steps, _, rfl, h_steps, h_end⟩, g, kk⟩ := h
    cases h_end
    replace h_steps : Rp.rel (rL (rT rI)) K H v_steps steps := h_steps
    replace g : ∀ row ∈ steps, 0 < (hdsM row).length := g
    replace kk : ∀ v H2, Same H H2 → Rp.rel (rL rI) K H2 v (steps.map hdM) → Q v H2 := kk
    refine cs_ret ?_ fun v H1 s1 hv => kk v H1 s1 hv
    exact ev_lc1 (j := 1) sc_heads_of.nd (src_L (ev_v 0 h_steps)) (blkOk_by (N := ["steps", "row"]) (sc := defScope (top 44)) (by decide +kernel)) ⟨rfl, by first | exact Or.inl rfl | exact Or.inr rfl, by first | exact Or.inr rfl | exact Or.inl rfl⟩ fun s' Hs C cl fp x hx v H1 s1 hv => ev_call D_head_of (hr.mono (by decide)) (ea_c (ev_v 1 hv) ea_0) (g x hx)
abbrev sp_without (K : Fr) : Sp := spF (aC (rI) (aC (rT rI) (aC (rT rI) (aC (rI) (a0))))) (fun (prime, row, head, place, _) => (0 < prime ∧ prime ≤ 1000) ∧ (0 ≤ place ∧ place < row.length) ∧ ∀ x ∈ row, 0 ≤ x ∧ x < prime) (rT rI) (fun (prime, row, head, place, _) => wthM prime row head place) K
theorem sc_without : FnScope ["prime", "row", "head", "place"] ["prime", "row", "head", "place"] (defScope (top 45)) := ⟨rfl, rfl, rfl, by decide +kernel, rfl, by decide +kernel, by decide +kernel⟩
theorem df_without {P : Program} {w : World} {K : Fr} {mg : Str → Option Value} {base : Heap} (T : Tx K mg) : Df P w K mg base 2 "without" ["prime", "row", "head", "place"] (sp_without K) := by
  have D_sum_of := df_sum_of (P := P) (w := w) (base := base) T
  obtain ⟨fd, F⟩ := T.dx 27 (d := d27) rfl
  refine ⟨_, fd, T.gl 27 rfl, F.kp, F.bindsN (fun _ _ _ _ _ _ us hl => match us, hl with | [_, _, _, _], _ => rfl), ?_⟩
  refine F.ok sc_without (fun vs H Q E h => ?_) (fun cdv A outer s H vs Q E hr h => ⟨_, PSs.nox cS_pss, ?_⟩)
  · obtain ⟨⟨prime, row, head, place, u_end⟩, ⟨v_prime, _, rfl, h_prime, ⟨v_row, _, rfl, h_row, ⟨v_head, _, rfl, h_head, ⟨v_place, _, rfl, h_place, h_end⟩⟩⟩⟩, g⟩ := h
    cases h_end
    rfl
  · obtain ⟨⟨prime, row, head, place, u_end⟩, ⟨v_prime, _, rfl, h_prime, ⟨v_row, _, rfl, h_row, ⟨v_head, _, rfl, h_head, ⟨v_place, _, rfl, h_place, h_end⟩⟩⟩⟩, g, kk⟩ := h
    cases h_end
    replace h_prime : Rp.rel (rI) K H v_prime prime := h_prime
    replace h_row : Rp.rel (rT rI) K H v_row row := h_row
    replace h_head : Rp.rel (rT rI) K H v_head head := h_head
    replace h_place : Rp.rel (rI) K H v_place place := h_place
    replace g : (0 < prime ∧ prime ≤ 1000) ∧ (0 ≤ place ∧ place < row.length) ∧ ∀ x ∈ row, 0 ≤ x ∧ x < prime := g
    replace kk : ∀ v H2, Same H H2 → Rp.rel (rT rI) K H2 v (wthM prime row head place) → Q v H2 := kk
    refine cs_ret ?_ fun v H1 s1 hv => kk v H1 s1 hv
    refine ev_call D_sum_of (hr.mono (by decide)) (ea_c (ev_v 0 h_prime) (ea_c (ev_v 1 h_row) (ea_c (ev_v 2 h_head) (ea_c (ev_sub ev_i (ev_ixTd (d := 0) (ev_v 1 h_row) (ev_v 3 h_place) g.2.1)) ea_0)))) ⟨g.1.1, ?_⟩
    have h := (show RowOk prime row.length row from ⟨rfl, g.2.2⟩).get (i := place.toNat) (by omega)
    show Sm (0 - row.getD place.toNat 0)
    unfold Sm
    omega
abbrev sp_steps_of (K : Fr) : Sp := spF (aC (rI) (aC (rS (rT rI)) (a0))) (fun (prime, rows, _) => (2 ≤ prime ∧ prime ≤ 1000) ∧ ∃ n : Nat, n ≤ 1000 ∧ TabOk prime n rows) (rL (rT rI)) (fun (prime, rows, _) => stM prime rows) K
theorem sc_steps_of : FnScope ["prime", "rows", "left", "found", "place", "heads", "row", "head", "made"] ["prime", "rows"] (defScope (top 46)) := ⟨rfl, rfl, rfl, by decide +kernel, rfl, by decide +kernel, by decide +kernel⟩
theorem df_steps_of {P : Program} {w : World} {K : Fr} {mg : Str → Option Value} {base : Heap} (T : Tx K mg) : Df P w K mg base 3 "steps_of" ["prime", "rows"] (sp_steps_of K) := by
  have D_scaled_of := df_scaled_of (P := P) (w := w) (base := base) T
  have D_undone_of := df_undone_of (P := P) (w := w) (base := base) T
  have D_without := df_without (P := P) (w := w) (base := base) T
  obtain ⟨fd, F⟩ := T.dx 28 (d := d28) rfl
  refine ⟨_, fd, T.gl 28 rfl, F.kp, F.bindsN (fun _ _ _ _ _ _ us hl => match us, hl with | [_, _], _ => rfl), ?_⟩
  refine F.ok sc_steps_of (fun vs H Q E h => ?_) (fun cdv A outer s H vs Q E hr h => ⟨_, PSs.nox cS_pss, ?_⟩)
  · obtain ⟨⟨prime, rows, u_end⟩, ⟨v_prime, _, rfl, h_prime, ⟨v_rows, _, rfl, h_rows, h_end⟩⟩, g⟩ := h
    cases h_end
    rfl
  · obtain ⟨⟨prime, rows, u_end⟩, ⟨v_prime, _, rfl, h_prime, ⟨v_rows, _, rfl, h_rows, h_end⟩⟩, g, kk⟩ := h
    cases h_end
    replace h_prime : Rp.rel (rI) K H v_prime prime := h_prime
    replace h_rows : Rp.rel (rS (rT rI)) K H v_rows rows := h_rows
    replace g : (2 ≤ prime ∧ prime ≤ 1000) ∧ ∃ n : Nat, n ≤ 1000 ∧ TabOk prime n rows := g
    replace kk : ∀ v H2, Same H H2 → Rp.rel (rL (rT rI)) K H2 v (stM prime rows) → Q v H2 := kk
    obtain ⟨hp, n, hn, hT⟩ := g
    have key : ∀ {v1 v2 : V} {H1 : Hp}, Same H H1 → Rp.rel (rL (rT rI)) K H1 v1 rows → Rp.rel (rL (rT rI)) K H1 v2 [] → cS (cxOf CX0 P w K mg base ["prime", "rows", "left", "found", "place", "heads", "row", "head", "made"] d28.qual d28.scope (d28.at_ K) cdv A outer s H E).nox (d28.body.drop 1) { nx := fun _ H' => Q .non H', rt := Q } [some v_prime, some v_rows, some v1, some v2, none, none, none, none, none] H1 := by
      intro v1 v2 H1 s1 h1 h2
      have hw : widM rows ≤ 1000 := by
        unfold widM
        cases rows with
        | nil => exact (by decide : (0 : Int) ≤ 1000)
        | cons x xs =>
          have := (hT x (List.mem_cons_self ..)).1
          show (if ((xs.length + 1 : Nat) : Int) > 0 then (x.length : Int) else 0) ≤ 1000
          rw [if_pos (by omega)]
          omega
      have hw0 : 0 ≤ widM rows := by
        unfold widM
        by_cases q : (rows.length : Int) > 0
        · rw [if_pos q]
          omega
        · rw [if_neg q]
          omega
      have hwn : widM rows ≤ n := by
        unfold widM
        cases rows with
        | nil => exact Int.natCast_nonneg n
        | cons x xs =>
          have := (hT x (List.mem_cons_self ..)).1
          show (if ((xs.length + 1 : Nat) : Int) > 0 then (x.length : Int) else 0) ≤ n
          rw [if_pos (by omega)]
          omega
      rcases h_rows with h_rows | h_rows
      all_goals
        refine cs_for1 (j := 4) sc_steps_of.nd rfl (src_R1 (n := widM rows) (m_range T) (ev_if (x := widM rows) (et_gt (ev_lenQ (r := rT rI) (m_len T) (ev_v 1 (Rp.mono _ s1 h_rows))) ev_i) (fun q => Ev.is (ev_lenT (r := rI) (m_len T) (ev_ixQd (r := rT rI) (x := 0) (d := []) (ev_v 1 (Rp.mono _ s1 h_rows)) ev_i ?_)) ?_) fun q => Ev.is ev_i ?_) ?_) (fun _ i σ' H' => ∃ wl wf o1 o2 o3 o4, σ' = [some v_prime, some v_rows, some wl, some wf, o1, o2, none, o3, o4] ∧ Rp.rel (rL (rT rI)) K H' wl (((ups 0 (widM rows).toNat).take i).foldl (stepM prime) (rows, [])).1 ∧ Rp.rel (rL (rT rI)) K H' wf (((ups 0 (widM rows).toNat).take i).foldl (stepM prime) (rows, [])).2) (fun H2 s2 => ⟨v1, v2, none, none, none, none, rfl, Rp.mono _ s2 h1, Rp.mono _ s2 h2⟩) ?_ ?_
        · have := of_decide_eq_true q
          omega
        · unfold widM
          rw [if_pos (of_decide_eq_true q)]
          rfl
        · unfold widM
          rw [if_neg (of_decide_eq_false q)]
        · omega
        · rintro H2 s2 i x v σ' H' hx s3 hv ⟨wl, wf, o1, o2, o3, o4, rfl, hl, hf⟩
          have hok := steps_ok (p := prime) (by omega) ((ups 0 (widM rows).toNat).take i) (rows, []) ⟨hT, fun _ h => nomatch h⟩
          have hxm := ups_mem (List.mem_of_getElem? hx)
          rw [fold_take _ _ hx]
          have hlen := steps_len prime ((ups 0 (widM rows).toNat).take i) (rows, [])
          have hlen2 : ((ups 0 (widM rows).toNat).take i).length ≤ (widM rows).toNat := by rw [List.length_take, ups_len]; exact Nat.min_le_right _ _
          have hlen3 : ((rows, []) : Tb × Tb).2.length = 0 := rfl
          generalize ((ups 0 (widM rows).toNat).take i).foldl (stepM prime) (rows, []) = S at hl hf hok hlen ⊢
          have sH : Same H H' := (s1.trans s2).trans s3
          refine cs_set1f (f := fun x => x) (cf := fun row => !decide (row.getD x.toNat 0 = 0)) (q := rT rI) (i := 5) (j := 6) sc_steps_of.nd rfl (src_L (ev_v 2 hl)) (blkOk_by (N := ["prime", "rows", "left", "found", "place", "heads", "row", "head", "made"]) (sc := d28.scope) (by decide +kernel)) ⟨rfl, by first | exact Or.inl rfl | exact Or.inr rfl, by first | exact Or.inr rfl | exact Or.inl rfl⟩ (fun s' Hs C cl fp y hy w H3 s4 hw => et_ne (ev_ixTd (ev_v 6 hw) (ev_v 4 (rI.mono s4 hv)) (by have := (hok.1 y hy).1; omega)) ev_i) (fun s' Hs C cl fp y hy _ w H3 s4 hw => ev_v 6 hw) fun v3 H3 s4 hv3 => ?_
          rw [List.map_id'] at hv3
          cases hh : S.1.filter fun row => !decide (row.getD x.toNat 0 = 0) with
          | nil =>
            rw [hh] at hv3
            have hst : stepM prime S x = S := by
              unfold stepM
              rw [hh]
            rw [hst]
            refine cs_skip ((et_dne hr.units (ev_v 5 hv3) (ev_L0 (r := rT rI))).is rfl) fun H4 s5 => cs_nil ⟨(s3.trans s4).trans s5, wl, wf, some v, some v3, o3, o4, rfl, Rp.mono _ (s4.trans s5) hl, Rp.mono _ (s4.trans s5) hf⟩
          | cons hd hds =>
            rw [hh] at hv3
            have hm : hd ∈ S.1 := (List.mem_filter.mp (by rw [hh]; exact List.mem_cons_self ..)).1
            have hrow := hok.1 hd hm
            have hg := hrow.get (i := x.toNat) (by omega)
            have hst : stepM prime S x = ((S.1.map fun row => wthM prime row (sclM prime hd (undM prime (hd.getD x.toNat 0))) x).filter anyM, (S.2.map fun row => wthM prime row (sclM prime hd (undM prime (hd.getD x.toNat 0))) x) ++ [sclM prime hd (undM prime (hd.getD x.toNat 0))]) := by
              unfold stepM
              rw [hh]
            rw [hst]
            have hu : Sm (undM prime (hd.getD x.toNat 0)) := sm_und (by omega)
            refine cs_if (EvT.is (y := true) (et_dne hr.units (ev_v 5 hv3) (ev_L0 (r := rT rI))) rfl) (fun _ H4 s5 => ?_) fun q => nomatch q
            have s5' := s4.trans s5
            have hx5 : ∀ H5, Same H4 H5 → Same H H5 := fun H5 s => (sH.trans s5').trans s
            refine cs_set (i := 7) sc_steps_of.nd rfl (ev_call D_scaled_of (hr.mono (by decide)) (y := sclM prime hd (undM prime (hd.getD x.toNat 0))) (ea_c (ev_v 0 (rI.mono (hx5 _ (Same.refl _)) h_prime)) (ea_c (ev_ixL (j := 0) (ev_v 5 (Rp.mono _ s5 hv3)) ev_i rfl) (ea_c (ev_call D_undone_of (hr.mono (by decide)) (y := undM prime (hd.getD x.toNat 0)) (ea_c (ev_v 0 (rI.mono (hx5 _ (Same.refl _)) h_prime)) (ea_c (ev_ixTd (d := 0) (ev_ixL (j := 0) (x := hd) (ev_v 5 (Rp.mono _ s5 hv3)) ev_i rfl) (ev_v 4 (rI.mono s5' hv)) ?_) ea_0)) hp) ea_0))) ⟨by omega, hu⟩) fun v5 H5 s6 hv5 => ?_
            · have := hrow.1
              omega
            generalize sclM prime hd (undM prime (hd.getD x.toNat 0)) = hd' at hv5 ⊢
            refine cs_set1 (f := fun row => wthM prime row hd' x) (q := rT rI) (i := 8) (j := 6) sc_steps_of.nd rfl (src_L (ev_v 2 (Rp.mono _ (s5'.trans s6) hl))) (blkOk_by (N := ["prime", "rows", "left", "found", "place", "heads", "row", "head", "made"]) (sc := defScope (top 46)) (by decide +kernel)) ⟨rfl, by first | exact Or.inl rfl | exact Or.inr rfl, by first | exact Or.inr rfl | exact Or.inl rfl⟩ (fun s' Hs C cl fp y hy w H6 s7 hw => ev_call D_without (hr.mono (by decide)) (ea_c (ev_v 0 (rI.mono ((hx5 _ s6).trans s7) h_prime)) (ea_c (ev_v 6 hw) (ea_c (ev_v 7 (Rp.mono _ s7 hv5)) (ea_c (ev_v 4 (rI.mono ((s5'.trans s6).trans s7) hv)) ea_0)))) ⟨⟨by omega, by omega⟩, ⟨by omega, by have := (hok.1 y hy).1; omega⟩, (hok.1 y hy).2⟩) fun v6 H6 s7 hv6 => ?_
            refine cs_set1f (f := fun x => x) (cf := anyM) (q := rT rI) (i := 2) (j := 6) sc_steps_of.nd rfl (src_L (ev_v 8 hv6)) (blkOk_by (N := ["prime", "rows", "left", "found", "place", "heads", "row", "head", "made"]) (sc := defScope (top 46)) (by decide +kernel)) ⟨rfl, by first | exact Or.inl rfl | exact Or.inr rfl, by first | exact Or.inr rfl | exact Or.inl rfl⟩ (fun s' Hs C cl fp y hy w H7 s8 hw => et_val (ev_anyT (X := Bk _ _ s' Hs C cl fp) (m_any T) (ev_v 6 hw))) (fun s' Hs C cl fp y hy _ w H7 s8 hw => ev_v 6 hw) fun v7 H7 s8 hv7 => ?_
            rw [List.map_id'] at hv7
            refine cs_set (i := 3) sc_steps_of.nd rfl (ev_cat (r := rT rI) (ev_lc1 (f := fun row => wthM prime row hd' x) (q := rT rI) (j := 6) sc_steps_of.nd (src_L (ev_v 3 (Rp.mono _ (((s5'.trans s6).trans s7).trans s8) hf))) (blkOk_by (N := ["prime", "rows", "left", "found", "place", "heads", "row", "head", "made"]) (sc := defScope (top 46)) (by decide +kernel)) ⟨rfl, by first | exact Or.inl rfl | exact Or.inr rfl, by first | exact Or.inr rfl | exact Or.inl rfl⟩ (fun s' Hs C cl fp y hy w H8 s9 hw => ev_call D_without (hr.mono (by decide)) (ea_c (ev_v 0 (rI.mono ((((hx5 _ s6).trans s7).trans s8).trans s9) h_prime)) (ea_c (ev_v 6 hw) (ea_c (ev_v 7 (Rp.mono _ ((s7.trans s8).trans s9) hv5)) (ea_c (ev_v 4 (rI.mono ((((s5'.trans s6).trans s7).trans s8).trans s9) hv)) ea_0)))) ⟨⟨by omega, by omega⟩, ⟨by omega, by have := (hok.2 y hy).1; omega⟩, (hok.2 y hy).2⟩)) (ev_L1 (ev_v 7 (Rp.mono _ (s7.trans s8) hv5))) ?_) fun v8 H8 s9 hv8 => cs_nil (cs_nil ⟨s3.trans ((((s5'.trans s6).trans s7).trans s8).trans s9), v7, v8, some v, some v3, some v5, some v6, rfl, Rp.mono _ s9 hv7, hv8⟩)
            rw [List.length_map, List.length_singleton]
            omega
        · rintro H2 s2 σ' H' s3 ⟨wl, wf, o1, o2, o3, o4, rfl, hl, hf⟩
          refine cs_ret (x := stM prime rows) (ev_v 3 ?_) fun v H4 s4 hv => kk v H4 (((s1.trans s2).trans s3).trans s4) hv
          rw [List.take_of_length_le (Nat.le_refl _)] at hf
          exact hf
    rcases h_rows with h | h
    · exact cs_par (i := 2) (j := 3) sc_steps_of.nd rfl rfl (by decide) (ev_lstL (r := rT rI) (m_list T) (ev_v 1 h)) (ev_L0 (r := rT rI)) fun u v H1 s1 hu hv => key s1 hu hv
    · exact cs_par (i := 2) (j := 3) sc_steps_of.nd rfl rfl (by decide) (ev_lstT (r := rT rI) (m_list T) (ev_v 1 h)) (ev_L0 (r := rT rI)) fun u v H1 s1 hu hv => key s1 hu hv
end K06
/-! ==== DE ==== -/
set_option Elab.async false
set_option linter.all false
set_option maxRecDepth 100000
set_option maxHeartbeats 4000000
namespace K06
open PySem L2 PySem.Spec PyProof.Rows RZ

abbrev sp_zeros_of (K : Fr) : Sp := spF (aC (rI) (aC (rI) (aC (rT (rT rI)) (a0)))) (fun (prime, size, rows, _) => P357 prime ∧ ∃ n : Nat, (n : Int) = size ∧ n ≤ 1000 ∧ TabOk prime n rows) (rL (rT rI)) (fun (prime, size, rows, _) => zrM prime size rows) K
theorem sc_zeros_of : FnScope ["prime", "size", "rows", "solved", "heads", "found", "place", "at", "row", "head", "step"] ["prime", "size", "rows"] (defScope (top 47)) := ⟨rfl, rfl, rfl, by decide +kernel, rfl, by decide +kernel, by decide +kernel⟩
theorem df_zeros_of {P : Program} {w : World} {K : Fr} {mg : Str → Option Value} {base : Heap} (T : Tx K mg) : Df P w K mg base 4 "zeros_of" ["prime", "size", "rows"] (sp_zeros_of K) := by
  have D_heads_of := df_heads_of (P := P) (w := w) (base := base) T
  have D_steps_of := df_steps_of (P := P) (w := w) (base := base) T
  have D_unit := df_unit (P := P) (w := w) (base := base) T
  obtain ⟨fd, F⟩ := T.dx 29 (d := d29) rfl
  refine ⟨_, fd, T.gl 29 rfl, F.kp, F.bindsN (fun _ _ _ _ _ _ us hl => match us, hl with | [_, _, _], _ => rfl), ?_⟩
  refine F.ok sc_zeros_of (fun vs H Q E h => ?_) (fun cdv A outer s H vs Q E hr h => ⟨_, PSs.nox cS_pss, ?_⟩)
  · obtain ⟨⟨prime, size, rows, u_end⟩, ⟨v_prime, _, rfl, h_prime, ⟨v_size, _, rfl, h_size, ⟨v_rows, _, rfl, h_rows, h_end⟩⟩⟩, g⟩ := h
    cases h_end
    rfl
  · obtain ⟨⟨prime, size, rows, u_end⟩, ⟨v_prime, _, rfl, h_prime, ⟨v_size, _, rfl, h_size, ⟨v_rows, _, rfl, h_rows, h_end⟩⟩⟩, g, kk⟩ := h
    cases h_end
    replace h_prime : Rp.rel (rI) K H v_prime prime := h_prime
    replace h_size : Rp.rel (rI) K H v_size size := h_size
    replace h_rows : Rp.rel (rT (rT rI)) K H v_rows rows := h_rows
    replace g : P357 prime ∧ ∃ n : Nat, (n : Int) = size ∧ n ≤ 1000 ∧ TabOk prime n rows := g
    replace kk : ∀ v H2, Same H H2 → Rp.rel (rL (rT rI)) K H2 v (zrM prime size rows) → Q v H2 := kk
    obtain ⟨hp, n, rfl, hn, hT⟩ := g
    have hpb := hp.b
    have hsok := stM_ok (p := prime) (by omega) hT
    have hsh := steps_hd hp hT
    refine cs_set (i := 3) sc_zeros_of.nd rfl (ev_call D_steps_of (hr.mono (by decide)) (y := stM prime rows) (ea_c (ev_v 0 h_prime) (ea_c (ev_weak (ev_v 2 h_rows) fun h => sq_S (r := rT rI) h) ea_0)) ⟨hpb, n, hn, hT⟩) fun v1 H1 s1 hv1 => ?_
    refine cs_unpN (q := rT rI) (ws := []) (i := 4) (j := 5) sc_zeros_of.nd rfl rfl (ev_call D_heads_of (hr.mono (by decide)) (y := (stM prime rows).map hdM) (ea_c (ev_v 3 hv1) ea_0) hsh) en_L0 fun v2 Hk F vs0 H3' H3 s2 hv2 hF s3' h3 h3' s33 => ?_
    cases h3'
    replace h3 := s33 _ _ h3
    have s3 : Same Hk H3 := s3'.trans s33
    have sk : Same H Hk := s1.trans s2
    refine cs_forN1 (j := 6) sc_zeros_of.nd rfl (en_lc1f (q := rI) (f := fun x => x) (j := 7) sc_zeros_of.nd (src_R1 (n := (n : Int)) (m_range T) (ev_v 1 (rI.mono (sk.trans s3) h_size)) (by omega)) (blkOk_by (N := ["prime", "size", "rows", "solved", "heads", "found", "place", "at", "row", "head", "step"]) (sc := defScope (top 47)) (by decide +kernel)) ⟨rfl, by first | exact Or.inl rfl | exact Or.inr rfl, by first | exact Or.inr rfl | exact Or.inl rfl⟩ (fun s' Hs C cl fp x hx v H4 s4 hv => et_notIn (ev_v 7 hv) (ev_v 4 (Rp.mono _ (s3.trans s4) hv2))) fun s' Hs C cl fp x hx _ v H4 s4 hv => ev_v 7 hv) (fun l vs i σ' H' => ∃ o1 o2 o3 o4 acc, σ' = [some v_prime, some v_size, some v_rows, some v1, some v2, some (.ref F), o1, none, o2, o3, o4] ∧ Same Hk H' ∧ (H' l = some (.lst vs) ∧ Paired (rI.rel K H') vs (((ups 0 (n : Int).toNat).filter fun a => !((stM prime rows).map hdM).any fun y => y == a).map fun x => x)) ∧ H' F = some (.lst acc) ∧ Paired ((rT rI).rel K H') acc ((((ups 0 (n : Int).toNat).filter fun a => !((stM prime rows).map hdM).any fun y => y == a).take i).map fun place => zrowM prime n ((stM prime rows).map hdM) (stM prime rows) place)) ?_ ?_ ?_ ?_
    · intro l vs H4 hl s4 h4 h4'
      exact ⟨none, none, none, none, [], rfl, s3.trans s4, ⟨h4, h4'⟩, s4 _ _ h3, .nil⟩
    · rintro l vs i σ' H' hl ⟨o1, o2, o3, o4, acc, rfl, sH, hvl, hF', hacc⟩
      exact hvl
    · rintro l vs hl i x v σ' H' hx hv ⟨o1, o2, o3, o4, acc, rfl, sH, hvl, hF', hacc⟩
      have hlF : l ≠ F := fun e => by rw [e, h3] at hl; cases hl
      have hxm := List.mem_of_getElem? hx
      rw [List.map_id'] at hx hxm
      have hxb := ups_mem (List.mem_filter.mp hxm).1
      have sH0 := sk.trans sH
      refine cs_setN (r := rI) (xs := unitM n x) (i := 8) sc_zeros_of.nd rfl (en_lstQ (m_list T) (ev_call D_unit (hr.mono (by decide)) (y := unitM n x) (ea_c (ev_v 1 (rI.mono sH0 h_size)) (ea_c (ev_v 6 hv) ea_0)) (show -1000 ≤ (n : Int) ∧ (n : Int) ≤ 1000 by omega))) fun D rv H5 hD s5 h5 h5' => ?_
      have hFD : F ≠ D := fun e => by rw [← e, hF'] at hD; cases hD
      refine cs_forG2 (j := 9) (k := 10) (G := Same H') sc_zeros_of.nd rfl rfl (srcG_zL (Hk := Hk) (m_zip T) (ev_v 4 rfl) (ev_v 3 rfl) hv2 (Rp.mono _ s2 hv1) (sH.trans s5) fun H1 h => sH.trans h) (fun i' σ'' H6 => ∃ o3 o4 w, σ'' = [some v_prime, some v_size, some v_rows, some v1, some v2, some (.ref F), some v, none, some (.ref D), o3, o4] ∧ Same H' H6 ∧ H6 D = some (.lst w) ∧ Paired (rI.rel K H6) w (((((stM prime rows).map hdM).zip (stM prime rows)).take i').foldl (fun row z => row.set z.1.toNat ((0 - z.2.getD x.toNat 0) % prime)) (unitM n x))) ?_ ?_ ?_ ?_ ?_
      · intro H6 s6
        exact ⟨o3, o4, rv, rfl, s5.trans s6, s6 _ _ h5, pmono s6 h5'⟩
      · rintro i' σ'' H6 ⟨o3, o4, w, rfl, s6, _⟩
        exact s6
      · rintro i' z u t σ'' H6 hz hu ht ⟨o3', o4', w, rfl, s6, hw, hw'⟩
        have hzm := List.of_mem_zip (List.mem_of_getElem? hz)
        have hrow := hsok _ hzm.2
        have hfo := zfold_ok (p := prime) (n := n) (by omega) x ((((stM prime rows).map hdM).zip (stM prime rows)).take i') _ (unit_ok (by omega) n x)
        have hlen := hw'.length
        obtain ⟨row0, hr0, e0⟩ := List.mem_map.mp hzm.1
        have hd0 := hd_mem (hsh row0 hr0)
        rw [e0, (hsok row0 hr0).1] at hd0
        refine cs_item (r := rI) (x := (0 - z.2.getD x.toNat 0) % prime) (ev_mod (ev_sub ev_i (ev_ixTd (d := 0) (ev_v 10 ht) (ev_v 6 (rI.mono s6 hv)) ?_)) (ev_v 0 (rI.mono (sH0.trans s6) h_prime)) (by omega)) (ev_v 8 rfl) (ev_v 9 hu) hw ?_ fun y H7 s7 hy => cs_nil ⟨some u, some t, w.set z.1.toNat y, rfl, same_mut (s6.trans s7) hD, upd_same, ?_⟩
        · have := hrow.1
          omega
        · rw [hlen, hfo.1]
          exact hd0
        · rw [fold_take _ _ hz]
          cases (show y = V.int _ from hy)
          have e := ints_p hw'
          subst e
          rw [← List.map_set]
          exact pr_ints _
      · rintro i' σ'' H6 H7 s7 ⟨o3', o4', w, rfl, s6, hw, hw'⟩
        exact ⟨o3', o4', w, rfl, s6.trans s7, s7 _ _ hw, pmono s7 hw'⟩
      · rintro σ'' H6 ⟨o3', o4', w, rfl, s6, hw, hw'⟩
        rw [List.take_length] at hw'
        refine cs_app (r := rT rI) (x := zrowM prime n ((stM prime rows).map hdM) (stM prime rows) x) (ev_v 5 rfl) (ev_tupL (m_tuple T) (ev_v 8 ⟨D, w, rfl, hw, hw'⟩)) (s6 _ _ hF') ?_ fun y H7 s7 hy => cs_nil ⟨some v, some (.ref D), o3', o4', acc ++ [y], rfl, same_mut ((sH.trans s6).trans s7) hF, ⟨?_, ?_⟩, upd_same, ?_⟩
        · rw [hacc.length, List.length_map, List.length_take]
          have h1 := List.length_filter_le (fun a => !((stM prime rows).map hdM).any fun y => y == a) (ups 0 (n : Int).toNat)
          rw [ups_len, Int.toNat_natCast] at h1
          rw [Int.toNat_natCast]
          omega
        · rw [upd_ne hlF]
          exact (s6.trans s7) _ _ hvl.1
        · exact fz_p ((s6.trans s7) _ _ hF') (pmono (s6.trans s7) hvl.2)
        · rw [List.take_succ, hx, List.map_append]
          have h8 : H7 F = some (.lst acc) := (s6.trans s7) _ _ hF'
          exact pr_app (fz_p h8 (pmono (s6.trans s7) hacc)) (.cons (Fz.fz h8 hy) .nil)
    · rintro l vs hl σ' H' ⟨o1, o2, o3, o4, acc, rfl, sH, hvl, hF', hacc⟩
      rw [List.map_id', List.take_length] at hacc
      exact cs_ret (ev_call D_steps_of (hr.mono (by decide)) (y := zrM prime n rows) (ea_c (ev_v 0 (rI.mono (sk.trans sH) h_prime)) (ea_c (ev_weak (r := rL (rT rI)) (x := zlistM prime n rows) (ev_v 5 ⟨F, acc, rfl, hF', hacc⟩) fun h => sq_S (r := rT rI) h) ea_0)) ⟨hpb, n, hn, zlist_ok (by omega) n rows⟩) fun v H4 s4 hv => kk v H4 ((sk.trans sH).trans s4) hv
end K06
/-! ==== DF ==== -/
set_option Elab.async false
set_option linter.all false
set_option maxRecDepth 100000
set_option maxHeartbeats 4000000
namespace K06
open PySem L2 PySem.Spec PyProof.Rows RZ

abbrev sp_right_rows (K : Fr) : Sp := spF (aC (rI) (aC (rS (rS rI)) (a0))) (fun (prime, value, _) => (value.length ≤ 6 ∧ ∀ row ∈ value, row.length = value.length ∧ ∀ x ∈ row, 0 ≤ x ∧ x < prime) ∧ turM value = value) (rT (rT rI)) (fun (prime, value, _) => value) K
theorem sc_right_rows : FnScope ["prime", "value", "found"] ["prime", "value"] (defScope (top 50)) := ⟨rfl, rfl, rfl, by decide +kernel, rfl, by decide +kernel, by decide +kernel⟩
theorem df_right_rows {P : Program} {w : World} {K : Fr} {mg : Str → Option Value} {base : Heap} (T : Tx K mg) : Df P w K mg base 5 "right_rows" ["prime", "value"] (sp_right_rows K) := by
  have D_table_in := df_table_in (P := P) (w := w) (base := base) T
  have D_turned_of := df_turned_of (P := P) (w := w) (base := base) T
  obtain ⟨fd, F⟩ := T.dx 31 (d := d31) rfl
  refine ⟨_, fd, T.gl 31 rfl, F.kp, F.bindsN (fun _ _ _ _ _ _ us hl => match us, hl with | [_, _], _ => rfl), ?_⟩
  refine F.ok sc_right_rows (fun vs H Q E h => ?_) (fun cdv A outer s H vs Q E hr h => ⟨_, PSs.nox cS_pss, ?_⟩)
  · obtain ⟨⟨prime, value, u_end⟩, ⟨v_prime, _, rfl, h_prime, ⟨v_value, _, rfl, h_value, h_end⟩⟩, g⟩ := h
    cases h_end
    rfl
  · obtain ⟨⟨prime, value, u_end⟩, ⟨v_prime, _, rfl, h_prime, ⟨v_value, _, rfl, h_value, h_end⟩⟩, g, kk⟩ := h
    cases h_end
    replace h_prime : Rp.rel (rI) K H v_prime prime := h_prime
    replace h_value : Rp.rel (rS (rS rI)) K H v_value value := h_value
    replace g : (value.length ≤ 6 ∧ ∀ row ∈ value, row.length = value.length ∧ ∀ x ∈ row, 0 ≤ x ∧ x < prime) ∧ turM value = value := g
    replace kk : ∀ v H2, Same H H2 → Rp.rel (rT (rT rI)) K H2 v (value) → Q v H2 := kk
    refine cs_set (i := 2) sc_right_rows.nd rfl (ev_call D_table_in (hr.mono (by decide)) (y := some value) (ea_c (ev_v 0 h_prime) (ea_c (ev_v 1 h_value) ea_0)) g.1) fun v1 H1 s1 hv1 => cs_skip (EvT.is (et_w (ew_or (et_isN (x := some value) (ev_v 2 hv1)) fun _ => ew_or1 (et_dne (r := rT (rT rI)) (x := turM value) (y := value) hr.units (ev_call D_turned_of (hr.mono (by decide)) (ea_c (ev_v 2 hv1.2) ea_0) ⟨by omega, fun row hr => (g.1.2 row hr).1⟩) (ev_v 2 hv1.2)))) ?_) fun H2 s2 => cs_ret (ev_v 2 (Rp.mono _ s2 hv1.2)) fun v H3 s3 hv => kk v H3 ((s1.trans s2).trans s3) hv
    rw [decide_eq_true g.2]
    rfl
/-- a new object's promise -/
def spInit (r : Rp (Int × Tb)) (C : Addr) (args : Fr → Hp → List V → Int × Tb → Prop) (K : Fr) : Sp := fun vs H Q _ => ∃ x dx us g, vs = .ref x :: us ∧ H x = some (.ins C dx []) ∧ args K (er x H) us g ∧ ∀ H2, Same (er x H) H2 → r.rel K H2 (.ref x) g → Q .non H2
abbrev sp_Known_init (K : Fr) : Sp := spInit (rK K) (cK K) (fun K H us g => ∃ v, us = [.int g.1, v] ∧ (rT (rT rI)).rel K H v g.2) K
theorem sc_Known_init : FnScope ["self", "prime", "rows"] ["self", "prime", "rows"] (defScope (inClass (top 49) 0)) := ⟨rfl, rfl, rfl, by decide +kernel, rfl, by decide +kernel, by decide +kernel⟩
theorem mt_Known_init {P : Program} {w : World} {K : Fr} {mg : Str → Option Value} {base : Heap} (T : Tx K mg) : Mt P w K mg base 1 (d30.at_ K) ["self", "prime", "rows"] [] (sp_Known_init K) := by
  obtain ⟨fd, F⟩ := T.dx 30 (d := d30) rfl
  refine ⟨fd, [], .nil, F.bindsN (fun _ _ _ _ _ _ us hl => match us, hl with | [_, _, _], _ => rfl), ?_⟩
  refine F.ok sc_Known_init (fun vs H Q E h => ?_) (fun cdv A outer s H vs Q E hr h => ⟨_, PSs.nox cS_pss, ?_⟩)
  · obtain ⟨x, dx, us, g, rfl, _, ⟨v, rfl, _⟩, _⟩ := h
    rfl
  · obtain ⟨x, dx, us, g, rfl, hx, ⟨v, rfl, hv⟩, kk⟩ := h
    obtain ⟨p, g⟩ := g
    refine cs_one (ps_fld cE_pe cE_pe rfl) ((ev_v (r := rI) (d := p) 1 rfl) H (Same.refl H) _ fun u1 H1 s1 hu1 => (ev_v (r := rV (.ref x)) (d := ()) 0 rfl) H1 (Same.refl _) _ fun o H1' s1' ho => ?_)
    cases (show u1 = V.int p from hu1)
    cases (show o = V.ref x from ho)
    have s2 := s1.trans s1'
    refine ⟨x, _, dx, [], rfl, s2 _ _ hx, He.cls_ok (T.fa 103 rfl), He.noat_ok (T.fa 106 rfl), by decide, ?_⟩
    have s3 : Same (er x H) (upd H1' x (.ins (cK K) dx (putF "own_prime" (.int p) []))) := same_mut (same_er.trans s2) er_at
    refine cs_one (ps_fld cE_pe cE_pe rfl) ((ev_v (r := rV v) (d := ()) 2 rfl) _ (Same.refl _) _ fun u2 H2 s4 hu2 => (ev_v (r := rV (.ref x)) (d := ()) 0 rfl) H2 (Same.refl _) _ fun o H3 s5 ho => ?_)
    cases (show u2 = v from hu2)
    cases (show o = V.ref x from ho)
    have hx3 := (s4.trans s5) _ _ (upd_same (H := H1') (a := x) (o := .ins (cK K) dx (putF "own_prime" (.int p) [])))
    refine ⟨x, _, dx, _, rfl, hx3, He.cls_ok (T.fa 103 rfl), He.noat_ok (T.fa 107 rfl), by show 1 < 1000; decide, cs_nil (kk _ ?_ ⟨x, dx, v, rfl, upd_same, ?_⟩)⟩
    · exact same_mut ((s3.trans s4).trans s5) er_at
    · exact (rT (rT rI)).mono (same_mut ((s3.trans s4).trans s5) er_at) hv
abbrev sp_Room_init (K : Fr) : Sp := spInit (rR K) (cR K) (fun K H us g => ∃ u v, us = [u, v] ∧ ((rK K).rel K H u g ∨ (u = .int g.1 ∧ (rS (rS rI)).rel K H v g.2 ∧ inP g.1 = true ∧ ((g.2.length ≤ 6 ∧ ∀ row ∈ g.2, row.length = g.2.length ∧ ∀ x ∈ row, 0 ≤ x ∧ x < g.1) ∧ turM g.2 = g.2)))) K
theorem sc_Room_init : FnScope ["self", "prime", "rows"] ["self", "prime", "rows"] (defScope (inClass (top 51) 0)) := ⟨rfl, rfl, rfl, by decide +kernel, rfl, by decide +kernel, by decide +kernel⟩
theorem fn_Room_init {P : Program} {w : World} {K : Fr} {mg : Str → Option Value} {base : Heap} (T : Tx K mg) : ∃ fd, FunD K "__init__" "Room.__init__" d32.params d32.body d32.scope [dA "Room" K] [] (d32.at_ K) fd ∧ FnOk P w K mg base CX0 6 (d32.at_ K) fd ["self", "prime", "rows"] (sp_Room_init K) := by
  have D_want_prime := df_want_prime (P := P) (w := w) (base := base) T
  have D_right_rows := df_right_rows (P := P) (w := w) (base := base) T
  obtain ⟨fd, F⟩ := T.dx 32 (d := d32) rfl
  refine ⟨fd, F, ?_⟩
  refine F.ok sc_Room_init (fun vs H Q E h => ?_) (fun cdv A outer s H vs Q E hr h => ⟨_, PSs.nox cS_pss, ?_⟩)
  · obtain ⟨x, dx, us, g, rfl, _, ⟨u, v, rfl, _⟩, _⟩ := h
    rfl
  · obtain ⟨x, dx, us, g, rfl, hx, ⟨u, v, rfl, hc⟩, kk⟩ := h
    obtain ⟨p, g⟩ := g
    have hself : ∀ {H1 : Hp}, Same H H1 → H1 x = some (.ins (cR K) dx []) := fun s => s _ _ hx
    rcases hc with hc | ⟨rfl, hv, hp, hg⟩
    · have hu : (rK K).rel K H u (p, g) := (rK K).mono same_er hc
      refine cs_if (et_val (ev_isKnown T (ev_v 1 hu))) (fun _ H1 s1 => ?_) fun q => nomatch q
      refine cs_two T (ev_primeK T (ev_v 1 ((rK K).mono s1 hu))) (ev_rowsK T (ev_v 1 ((rK K).mono s1 hu))) rfl rfl (hself s1) fun H2 s2 h2 => cs_nil (cs_nil (kk H2 ((er_mono s1).trans s2) h2))
    · have hp' : (rI).rel K H (.int p) p := rfl
      have hv' : (rS (rS rI)).rel K H v g := (rS (rS rI)).mono same_er hv
      refine cs_if (et_val (ev_notKnown T (ev_v 1 hp'))) (fun q => nomatch q) fun _ H1 s1 => ?_
      refine cs_drop (ev_call D_want_prime (hr.mono (by decide)) (ea_c (ev_v (r := rI) (d := p) 1 rfl) ea_0) hp) fun H2 s2 => ?_
      refine cs_two T (ev_v (r := rI) (d := p) 1 rfl) (ev_call D_right_rows (hr.mono (by decide)) (y := g) (ea_c (ev_v (r := rI) (d := p) 1 rfl) (ea_c (ev_v 2 ((rS (rS rI)).mono (s1.trans s2) hv')) ea_0)) hg) rfl rfl (hself (s1.trans s2)) fun H3 s3 h3 => cs_nil (cs_nil (kk H3 ((er_mono (s1.trans s2)).trans s3) h3))
section
variable {X : Cx} {σ : L2.St} {H : Hp} {pos p2 : Pos} {a b : Expr}
theorem same_make {H : Hp} {x dx : Addr} {C : Addr} (hx : H x = none) (hdx : H dx = none) : Same H (er x (upd (upd H dx (.own x)) x (.ins C dx []))) := fun b o e => by
  have h1 : b ≠ x := fun q => by rw [q, hx] at e; cases e
  have h2 : b ≠ dx := fun q => by rw [q, hdx] at e; cases e
  rw [er_ne h1, upd_ne h1, upd_ne h2]
  exact e
theorem ev_mkKnown {p : Int} {g : Tb} (T : Tx X.K X.mg) (hr : Room 10 X.A) (ha : Ev X σ H a rI p) (hb : Ev X σ H b (rT (rT rI)) g) (hg : Gl X "Known" := by rfl)
    (hs : starEach [a, b] X.env = (false, eval a X.env) :: starEach [b] X.env := by rfl) (hs2 : starEach [b] X.env = (false, eval b X.env) :: starEach [] X.env := by rfl) (hpl : (backTo pos (starEach [b] X.env)).any (·.1) = false := by rfl) : Ev X σ H (.Call (.Name "Known" p2) [a, b] [] pos) (rK X.K) (p, g) := by
  obtain ⟨fd, ds, hd, hbi, Fn⟩ := (mt_Known_init (P := X.prog) (w := X.w) (base := X.base) T).ex
  refine ev_of (pe_make (He.mkr_ok (T.fa 113 rfl)) Fn (hr.mono (by decide)) hg (T.gl 30 rfl) hbi hd pass0 cA_pa (by decide) hs hpl) fun H1 s Q c => ea_c ha (ea_1 hb hs2) hs H1 s _ fun vs H2 s2 hvs => ?_
  obtain ⟨v, w, rfl, h1, h2⟩ := a2 hvs
  cases (show v = V.int p from h1)
  intro x dx hx hdx hne
  have sm := same_make (C := cK X.K) hx hdx
  exact ⟨x, dx, _, (p, g), rfl, upd_same, ⟨w, rfl, (rT (rT rI)).mono sm h2⟩, fun H3 s3 h3 => ⟨rfl, c _ H3 ((s2.trans sm).trans s3) h3⟩⟩
theorem ev_mkRoom1 {x : Int × Tb} (T : Tx X.K X.mg) (hr : Room 10 X.A) (ha : Ev X σ H a (rK X.K) x) (hg : Gl X "Room" := by rfl)
    (hs : starEach [a] X.env = (false, eval a X.env) :: starEach [] X.env := by rfl) : Ev X σ H (.Call (.Name "Room" p2) [a] [] pos) (rR X.K) x := by
  obtain ⟨fd, F, Fn⟩ := fn_Room_init (P := X.prog) (w := X.w) (base := X.base) T
  obtain ⟨ds, hd, hbi⟩ := F.binds1 (ps := ["self", "prime", "rows"]) 2 0 (fun h => nomatch h) rfl (fun T kV doc pm an cdv ct us its hl hl2 => match us, hl, its, hl2 with | [_, _], _, [_], _ => ⟨_, rfl, rfl⟩)
  refine ev_of (pe_make (He.mkr_ok (T.fa 112 rfl)) Fn (hr.mono (by decide)) hg (T.gl 32 rfl) hbi hd pass0 cA_pa (by decide) hs rfl) fun H1 s Q c => ea_1 ha hs H1 s _ fun vs H2 s2 hvs => ?_
  obtain ⟨v, rfl, h1⟩ := a1 hvs
  intro y dx hy hdx hne
  have sm := same_make (C := cR X.K) hy hdx
  exact ⟨y, dx, _, x, rfl, upd_same, ⟨v, dA "Room" X.K, rfl, .inl ((rK X.K).mono sm h1)⟩, fun H3 s3 h3 => ⟨rfl, c _ H3 ((s2.trans sm).trans s3) h3⟩⟩
theorem ev_mkRoom2 {p : Int} {g : Tb} (T : Tx X.K X.mg) (hr : Room 10 X.A) (ha : Ev X σ H a rI p) (hb : Ev X σ H b (rS (rS rI)) g) (hp : inP p = true) (hG : SqOk p g ∧ turM g = g) (hg : Gl X "Room" := by rfl)
    (hs : starEach [a, b] X.env = (false, eval a X.env) :: starEach [b] X.env := by rfl) (hs2 : starEach [b] X.env = (false, eval b X.env) :: starEach [] X.env := by rfl) (hpl : (backTo pos (starEach [b] X.env)).any (·.1) = false := by rfl) : Ev X σ H (.Call (.Name "Room" p2) [a, b] [] pos) (rR X.K) (p, g) := by
  obtain ⟨fd, F, Fn⟩ := fn_Room_init (P := X.prog) (w := X.w) (base := X.base) T
  obtain ⟨ds, hd, hbi⟩ := F.binds1 (ps := ["self", "prime", "rows"]) 3 1 (fun h => nomatch h) rfl (fun T kV doc pm an cdv ct us its hl hl2 => match us, hl, its, hl2 with | [_, _, _], _, [_], _ => ⟨_, rfl, rfl⟩)
  refine ev_of (pe_make (He.mkr_ok (T.fa 112 rfl)) Fn (hr.mono (by decide)) hg (T.gl 32 rfl) hbi hd pass0 cA_pa (by decide) hs hpl) fun H1 s Q c => ea_c ha (ea_1 hb hs2) hs H1 s _ fun vs H2 s2 hvs => ?_
  obtain ⟨v, w, rfl, h1, h2⟩ := a2 hvs
  cases (show v = V.int p from h1)
  intro y dx hy hdx hne
  have sm := same_make (C := cR X.K) hy hdx
  exact ⟨y, dx, _, (p, g), rfl, upd_same, ⟨_, _, rfl, .inr ⟨rfl, (rS (rS rI)).mono sm h2, hp, hG⟩⟩, fun H3 s3 h3 => ⟨rfl, c _ H3 ((s2.trans sm).trans s3) h3⟩⟩
end
abbrev sp_want_room (K : Fr) : Sp := spF (aC (rR K) (a0)) (fun (value, _) => True) (rR K) (fun (value, _) => value) K
theorem sc_want_room : FnScope ["value"] ["value"] (defScope (top 52)) := ⟨rfl, rfl, rfl, by decide +kernel, rfl, by decide +kernel, by decide +kernel⟩
theorem df_want_room {P : Program} {w : World} {K : Fr} {mg : Str → Option Value} {base : Heap} (T : Tx K mg) : Df P w K mg base 1 "want_room" ["value"] (sp_want_room K) := by
  obtain ⟨fd, F⟩ := T.dx 39 (d := d39) rfl
  refine ⟨_, fd, T.gl 33 rfl, F.kp, F.bindsN (fun _ _ _ _ _ _ us hl => match us, hl with | [_], _ => rfl), ?_⟩
  refine F.ok sc_want_room (fun vs H Q E h => ?_) (fun cdv A outer s H vs Q E hr h => ⟨_, PSs.nox cS_pss, ?_⟩)
  · obtain ⟨⟨value, u_end⟩, ⟨v_value, _, rfl, h_value, h_end⟩, g⟩ := h
    cases h_end
    rfl
  · obtain ⟨⟨value, u_end⟩, ⟨v_value, _, rfl, h_value, h_end⟩, g, kk⟩ := h
    cases h_end
    replace h_value : Rp.rel (rR K) K H v_value value := h_value
    replace g : True := g
    replace kk : ∀ v H2, Same H H2 → Rp.rel (rR K) K H2 v (value) → Q v H2 := kk
    refine cs_skip (EvT.is (et_not (et_val (ev_isRoom T (ev_v 0 h_value)))) rfl) fun H1 s1 => cs_ret (ev_v 0 ((rR K).mono s1 h_value)) fun v H2 s2 hv => kk v H2 (s1.trans s2) hv
abbrev sp_room_of (K : Fr) : Sp := spF (aC (rI) (aC (rT (rT rI)) (a0))) (fun (prime, table, _) => True) (rR K) (fun (prime, table, _) => (prime, table)) K
theorem sc_room_of : FnScope ["prime", "table"] ["prime", "table"] (defScope (top 53)) := ⟨rfl, rfl, rfl, by decide +kernel, rfl, by decide +kernel, by decide +kernel⟩
theorem df_room_of {P : Program} {w : World} {K : Fr} {mg : Str → Option Value} {base : Heap} (T : Tx K mg) : Df P w K mg base 12 "room_of" ["prime", "table"] (sp_room_of K) := by
  obtain ⟨fd, F⟩ := T.dx 40 (d := d40) rfl
  refine ⟨_, fd, T.gl 34 rfl, F.kp, F.bindsN (fun _ _ _ _ _ _ us hl => match us, hl with | [_, _], _ => rfl), ?_⟩
  refine F.ok sc_room_of (fun vs H Q E h => ?_) (fun cdv A outer s H vs Q E hr h => ⟨_, PSs.nox cS_pss, ?_⟩)
  · obtain ⟨⟨prime, table, u_end⟩, ⟨v_prime, _, rfl, h_prime, ⟨v_table, _, rfl, h_table, h_end⟩⟩, g⟩ := h
    cases h_end
    rfl
  · obtain ⟨⟨prime, table, u_end⟩, ⟨v_prime, _, rfl, h_prime, ⟨v_table, _, rfl, h_table, h_end⟩⟩, g, kk⟩ := h
    cases h_end
    replace h_prime : Rp.rel (rI) K H v_prime prime := h_prime
    replace h_table : Rp.rel (rT (rT rI)) K H v_table table := h_table
    replace g : True := g
    replace kk : ∀ v H2, Same H H2 → Rp.rel (rR K) K H2 v ((prime, table)) → Q v H2 := kk
    refine cs_ret ?_ fun v H1 s1 hv => kk v H1 s1 hv
    exact ev_mkRoom1 T (hr.mono (by decide)) (ev_mkKnown T (hr.mono (by decide)) (ev_v 0 h_prime) (ev_v 1 h_table))
abbrev sp_betweens_of (K : Fr) : Sp := spF (aC (rR K) (aC (rT (rT rI)) (a0))) (fun (room, rows, _) => (0 < room.1 ∧ room.1 ≤ 1000) ∧ widM room.2 ≤ 1000 ∧ ∀ row ∈ rows, ∀ x ∈ row, 0 ≤ x ∧ x < room.1) (rT (rT rI)) (fun (room, rows, _) => btsM room.1 room.2 rows) K
theorem sc_betweens_of : FnScope ["room", "rows", "prime", "led", "row", "near"] ["room", "rows"] (defScope (top 56)) := ⟨rfl, rfl, rfl, by decide +kernel, rfl, by decide +kernel, by decide +kernel⟩
theorem df_betweens_of {P : Program} {w : World} {K : Fr} {mg : Str → Option Value} {base : Heap} (T : Tx K mg) : Df P w K mg base 4 "betweens_of" ["room", "rows"] (sp_betweens_of K) := by
  have D_dot := df_dot (P := P) (w := w) (base := base) T
  have D_led_of := df_led_of (P := P) (w := w) (base := base) T
  obtain ⟨fd, F⟩ := T.dx 43 (d := d43) rfl
  refine ⟨_, fd, T.gl 37 rfl, F.kp, F.bindsN (fun _ _ _ _ _ _ us hl => match us, hl with | [_, _], _ => rfl), ?_⟩
  refine F.ok sc_betweens_of (fun vs H Q E h => ?_) (fun cdv A outer s H vs Q E hr h => ⟨_, PSs.nox cS_pss, ?_⟩)
  · obtain ⟨⟨room, rows, u_end⟩, ⟨v_room, _, rfl, h_room, ⟨v_rows, _, rfl, h_rows, h_end⟩⟩, g⟩ := h
    cases h_end
    rfl
  · obtain ⟨⟨room, rows, u_end⟩, ⟨v_room, _, rfl, h_room, ⟨v_rows, _, rfl, h_rows, h_end⟩⟩, g, kk⟩ := h
    cases h_end
    replace h_room : Rp.rel (rR K) K H v_room room := h_room
    replace h_rows : Rp.rel (rT (rT rI)) K H v_rows rows := h_rows
    replace g : (0 < room.1 ∧ room.1 ≤ 1000) ∧ widM room.2 ≤ 1000 ∧ ∀ row ∈ rows, ∀ x ∈ row, 0 ≤ x ∧ x < room.1 := g
    replace kk : ∀ v H2, Same H H2 → Rp.rel (rT (rT rI)) K H2 v (btsM room.1 room.2 rows) → Q v H2 := kk
    refine cs_set (i := 2) sc_betweens_of.nd rfl (ev_prime T (ev_v 0 h_room)) fun v1 H1 s1 hv1 => ?_
    refine cs_set1 (f := fun row => ledM room.1 row room.2) (q := rT rI) (i := 3) (j := 4) sc_betweens_of.nd rfl (src_T (ev_v 1 (Rp.mono _ (s1) h_rows))) (blkOk_by (N := ["room", "rows", "prime", "led", "row", "near"]) (sc := defScope (top 56)) (by decide +kernel)) ⟨rfl, by first | exact Or.inl rfl | exact Or.inr rfl, by first | exact Or.inr rfl | exact Or.inl rfl⟩ (fun s' Hs C cl fp x hx v H2 s2 hv => ev_call D_led_of (hr.mono (by decide)) (ea_c (ev_v 2 (rI.mono s2 hv1)) (ea_c (ev_v 4 hv) (ea_c (ev_rows (X := Bk _ _ s' Hs C cl fp) T (ev_v 0 (Rp.mono _ ((s1.trans s2)) h_room))) ea_0))) ⟨⟨g.1.1, fun y hy => sm_of (g.2.2 x hx y hy) g.1.2⟩, g.2.1⟩) fun v2 H2 s2 hv2 => ?_
    refine cs_ret (ev_tupL (m_tuple T) (ev_lc1 (f := fun near => rows.map fun row => dotM room.1 near row) (q := rT rI) sc_betweens_of.nd (j := 5) (src_L (ev_v 3 hv2)) (blkOk_by (N := ["room", "rows", "prime", "led", "row", "near"]) (sc := defScope (top 56)) (by decide +kernel)) ⟨rfl, by first | exact Or.inl rfl | exact Or.inr rfl, by first | exact Or.inr rfl | exact Or.inl rfl⟩ fun s' Hs C cl fp x hx v H3 s3 hv => ev_tupL (X := Bk _ _ s' Hs C cl fp) (m_tuple T) (ev_lc1 (f := fun row => dotM room.1 x row) (q := rI) sc_betweens_of.nd (j := 4) (src_T (ev_v 1 (Rp.mono _ (((s1.trans s2).trans s3)) h_rows))) (blkOk_by (N := ["room", "rows", "prime", "led", "row", "near"]) (sc := relS _ (defScope (top 56))) (by decide +kernel)) ⟨rfl, by first | exact Or.inl rfl | exact Or.inr rfl, by first | exact Or.inr rfl | exact Or.inl rfl⟩ fun s'' Hs' C' cl' fp' y hy w H4 s4 hw => ev_call D_dot (hr.mono (by decide)) (ea_c (ev_v 2 (rI.mono ((s2.trans s3).trans s4) hv1)) (ea_c (ev_v 5 ((rT rI).mono s4 hv)) (ea_c (ev_v 4 hw) ea_0))) ⟨g.1.1, fun z hz => ?_⟩))) fun v H3 s3 hv => kk v H3 ((s1.trans s2).trans s3) hv
    obtain ⟨row, _, rfl⟩ := List.mem_map.mp hx
    exact sm_of (led_rng g.1.1 row room.2 z hz) g.1.2
abbrev sp_led_by (K : Fr) : Sp := spF (aC (rR K) (aC (rT (rT rI)) (a0))) (fun (room, rows, _) => (0 < room.1 ∧ room.1 ≤ 1000) ∧ widM room.2 ≤ 1000 ∧ ∀ row ∈ rows, ∀ x ∈ row, 0 ≤ x ∧ x < room.1) (rR K) (fun (room, rows, _) => (room.1, btsM room.1 room.2 rows)) K
theorem sc_led_by : FnScope ["room", "rows"] ["room", "rows"] (defScope (top 57)) := ⟨rfl, rfl, rfl, by decide +kernel, rfl, by decide +kernel, by decide +kernel⟩
theorem df_led_by {P : Program} {w : World} {K : Fr} {mg : Str → Option Value} {base : Heap} (T : Tx K mg) : Df P w K mg base 13 "led_by" ["room", "rows"] (sp_led_by K) := by
  have D_betweens_of := df_betweens_of (P := P) (w := w) (base := base) T
  have D_room_of := df_room_of (P := P) (w := w) (base := base) T
  obtain ⟨fd, F⟩ := T.dx 44 (d := d44) rfl
  refine ⟨_, fd, T.gl 38 rfl, F.kp, F.bindsN (fun _ _ _ _ _ _ us hl => match us, hl with | [_, _], _ => rfl), ?_⟩
  refine F.ok sc_led_by (fun vs H Q E h => ?_) (fun cdv A outer s H vs Q E hr h => ⟨_, PSs.nox cS_pss, ?_⟩)
  · obtain ⟨⟨room, rows, u_end⟩, ⟨v_room, _, rfl, h_room, ⟨v_rows, _, rfl, h_rows, h_end⟩⟩, g⟩ := h
    cases h_end
    rfl
  · obtain ⟨⟨room, rows, u_end⟩, ⟨v_room, _, rfl, h_room, ⟨v_rows, _, rfl, h_rows, h_end⟩⟩, g, kk⟩ := h
    cases h_end
    replace h_room : Rp.rel (rR K) K H v_room room := h_room
    replace h_rows : Rp.rel (rT (rT rI)) K H v_rows rows := h_rows
    replace g : (0 < room.1 ∧ room.1 ≤ 1000) ∧ widM room.2 ≤ 1000 ∧ ∀ row ∈ rows, ∀ x ∈ row, 0 ≤ x ∧ x < room.1 := g
    replace kk : ∀ v H2, Same H H2 → Rp.rel (rR K) K H2 v ((room.1, btsM room.1 room.2 rows)) → Q v H2 := kk
    refine cs_ret ?_ fun v H1 s1 hv => kk v H1 s1 hv
    exact ev_call D_room_of (hr.mono (by decide)) (ea_c (ev_prime T (ev_v 0 h_room)) (ea_c (ev_call D_betweens_of (hr.mono (by decide)) (y := btsM room.1 room.2 rows) (ea_c (ev_v 0 h_room) (ea_c (ev_v 1 h_rows) ea_0)) g) ea_0)) trivial
abbrev sp_still_of (K : Fr) : Sp := spF (aC (rR K) (a0)) (fun (room, _) => P357 room.1 ∧ SqOk room.1 room.2) (rL (rT rI)) (fun (room, _) => zrM room.1 (room.2.length : Int) room.2) K
theorem sc_still_of : FnScope ["room"] ["room"] (defScope (top 58)) := ⟨rfl, rfl, rfl, by decide +kernel, rfl, by decide +kernel, by decide +kernel⟩
theorem df_still_of {P : Program} {w : World} {K : Fr} {mg : Str → Option Value} {base : Heap} (T : Tx K mg) : Df P w K mg base 5 "still_of" ["room"] (sp_still_of K) := by
  have D_zeros_of := df_zeros_of (P := P) (w := w) (base := base) T
  obtain ⟨fd, F⟩ := T.dx 45 (d := d45) rfl
  refine ⟨_, fd, T.gl 39 rfl, F.kp, F.bindsN (fun _ _ _ _ _ _ us hl => match us, hl with | [_], _ => rfl), ?_⟩
  refine F.ok sc_still_of (fun vs H Q E h => ?_) (fun cdv A outer s H vs Q E hr h => ⟨_, PSs.nox cS_pss, ?_⟩)
  · obtain ⟨⟨room, u_end⟩, ⟨v_room, _, rfl, h_room, h_end⟩, g⟩ := h
    cases h_end
    rfl
  · obtain ⟨⟨room, u_end⟩, ⟨v_room, _, rfl, h_room, h_end⟩, g, kk⟩ := h
    cases h_end
    replace h_room : Rp.rel (rR K) K H v_room room := h_room
    replace g : P357 room.1 ∧ SqOk room.1 room.2 := g
    replace kk : ∀ v H2, Same H H2 → Rp.rel (rL (rT rI)) K H2 v (zrM room.1 (room.2.length : Int) room.2) → Q v H2 := kk
    refine cs_ret ?_ fun v H1 s1 hv => kk v H1 s1 hv
    exact ev_call D_zeros_of (hr.mono (by decide)) (ea_c (ev_prime T (ev_v 0 h_room)) (ea_c (ev_lenT (m_len T) (ev_rows T (ev_v 0 h_room))) (ea_c (ev_rows T (ev_v 0 h_room)) ea_0))) ⟨g.1, room.2.length, rfl, by have := g.2.1; omega, g.2.tab⟩
abbrev sp_Room_size (K : Fr) : Sp := spF (aC (rR K) (a0)) (fun (self, _) => True) (rI) (fun (self, _) => (self.2.length : Int)) K
theorem sc_Room_size : FnScope ["self"] ["self"] (defScope (inClass (top 51) 2)) := ⟨rfl, rfl, rfl, by decide +kernel, rfl, by decide +kernel, by decide +kernel⟩
theorem mt_Room_size {P : Program} {w : World} {K : Fr} {mg : Str → Option Value} {base : Heap} (T : Tx K mg) : Mt P w K mg base 1 (d33.at_ K) ["self"] [] (sp_Room_size K) := by
  obtain ⟨fd, F⟩ := T.dx 33 (d := d33) rfl
  refine ⟨fd, [], .nil, F.bindsN (fun _ _ _ _ _ _ us hl => match us, hl with | [_], _ => rfl), ?_⟩
  refine F.ok sc_Room_size (fun vs H Q E h => ?_) (fun cdv A outer s H vs Q E hr h => ⟨_, PSs.nox cS_pss, ?_⟩)
  · obtain ⟨⟨self, u_end⟩, ⟨v_self, _, rfl, h_self, h_end⟩, g⟩ := h
    cases h_end
    rfl
  · obtain ⟨⟨self, u_end⟩, ⟨v_self, _, rfl, h_self, h_end⟩, g, kk⟩ := h
    cases h_end
    replace h_self : Rp.rel (rR K) K H v_self self := h_self
    replace g : True := g
    replace kk : ∀ v H2, Same H H2 → Rp.rel (rI) K H2 v ((self.2.length : Int)) → Q v H2 := kk
    refine cs_ret ?_ fun v H1 s1 hv => kk v H1 s1 hv
    exact ev_lenT (m_len T) (ev_rows T (ev_v 0 h_self))
abbrev sp_Room_rank (K : Fr) : Sp := spF (aC (rR K) (a0)) (fun (self, _) => P357 self.1 ∧ SqOk self.1 self.2) (rI) (fun (self, _) => ((stM self.1 self.2).length : Int)) K
theorem sc_Room_rank : FnScope ["self"] ["self"] (defScope (inClass (top 51) 3)) := ⟨rfl, rfl, rfl, by decide +kernel, rfl, by decide +kernel, by decide +kernel⟩
theorem mt_Room_rank {P : Program} {w : World} {K : Fr} {mg : Str → Option Value} {base : Heap} (T : Tx K mg) : Mt P w K mg base 4 (d34.at_ K) ["self"] [] (sp_Room_rank K) := by
  have D_steps_of := df_steps_of (P := P) (w := w) (base := base) T
  obtain ⟨fd, F⟩ := T.dx 34 (d := d34) rfl
  refine ⟨fd, [], .nil, F.bindsN (fun _ _ _ _ _ _ us hl => match us, hl with | [_], _ => rfl), ?_⟩
  refine F.ok sc_Room_rank (fun vs H Q E h => ?_) (fun cdv A outer s H vs Q E hr h => ⟨_, PSs.nox cS_pss, ?_⟩)
  · obtain ⟨⟨self, u_end⟩, ⟨v_self, _, rfl, h_self, h_end⟩, g⟩ := h
    cases h_end
    rfl
  · obtain ⟨⟨self, u_end⟩, ⟨v_self, _, rfl, h_self, h_end⟩, g, kk⟩ := h
    cases h_end
    replace h_self : Rp.rel (rR K) K H v_self self := h_self
    replace g : P357 self.1 ∧ SqOk self.1 self.2 := g
    replace kk : ∀ v H2, Same H H2 → Rp.rel (rI) K H2 v (((stM self.1 self.2).length : Int)) → Q v H2 := kk
    refine cs_ret ?_ fun v H1 s1 hv => kk v H1 s1 hv
    exact ev_lenL (m_len T) (ev_call D_steps_of (hr.mono (by decide)) (y := stM self.1 self.2) (ea_c (ev_prime T (ev_v 0 h_self)) (ea_c (ev_weak (ev_rows T (ev_v 0 h_self)) fun h => sq_S (r := rT rI) h) ea_0)) ⟨g.1.b, self.2.length, by have := g.2.1; omega, g.2.tab⟩)
abbrev sp_Room_rows (K : Fr) : Sp := spF (aC (rR K) (a0)) (fun (self, _) => True) (rT (rT rI)) (fun (self, _) => self.2) K
theorem sc_Room_rows : FnScope ["self"] ["self"] (defScope (inClass (top 51) 4)) := ⟨rfl, rfl, rfl, by decide +kernel, rfl, by decide +kernel, by decide +kernel⟩
theorem mt_Room_rows {P : Program} {w : World} {K : Fr} {mg : Str → Option Value} {base : Heap} (T : Tx K mg) : Mt P w K mg base 1 (d35.at_ K) ["self"] [] (sp_Room_rows K) := by
  obtain ⟨fd, F⟩ := T.dx 35 (d := d35) rfl
  refine ⟨fd, [], .nil, F.bindsN (fun _ _ _ _ _ _ us hl => match us, hl with | [_], _ => rfl), ?_⟩
  refine F.ok sc_Room_rows (fun vs H Q E h => ?_) (fun cdv A outer s H vs Q E hr h => ⟨_, PSs.nox cS_pss, ?_⟩)
  · obtain ⟨⟨self, u_end⟩, ⟨v_self, _, rfl, h_self, h_end⟩, g⟩ := h
    cases h_end
    rfl
  · obtain ⟨⟨self, u_end⟩, ⟨v_self, _, rfl, h_self, h_end⟩, g, kk⟩ := h
    cases h_end
    replace h_self : Rp.rel (rR K) K H v_self self := h_self
    replace g : True := g
    replace kk : ∀ v H2, Same H H2 → Rp.rel (rT (rT rI)) K H2 v (self.2) → Q v H2 := kk
    refine cs_ret ?_ fun v H1 s1 hv => kk v H1 s1 hv
    exact ev_rows T (ev_v 0 h_self)
abbrev sp_Room_still (K : Fr) : Sp := spF (aC (rR K) (a0)) (fun (self, _) => P357 self.1 ∧ SqOk self.1 self.2) (rL (rT rI)) (fun (self, _) => zrM self.1 (self.2.length : Int) self.2) K
theorem sc_Room_still : FnScope ["self"] ["self"] (defScope (inClass (top 51) 7)) := ⟨rfl, rfl, rfl, by decide +kernel, rfl, by decide +kernel, by decide +kernel⟩
theorem mt_Room_still {P : Program} {w : World} {K : Fr} {mg : Str → Option Value} {base : Heap} (T : Tx K mg) : Mt P w K mg base 6 (d36.at_ K) ["self"] [] (sp_Room_still K) := by
  have D_still_of := df_still_of (P := P) (w := w) (base := base) T
  obtain ⟨fd, F⟩ := T.dx 36 (d := d36) rfl
  refine ⟨fd, [], .nil, F.bindsN (fun _ _ _ _ _ _ us hl => match us, hl with | [_], _ => rfl), ?_⟩
  refine F.ok sc_Room_still (fun vs H Q E h => ?_) (fun cdv A outer s H vs Q E hr h => ⟨_, PSs.nox cS_pss, ?_⟩)
  · obtain ⟨⟨self, u_end⟩, ⟨v_self, _, rfl, h_self, h_end⟩, g⟩ := h
    cases h_end
    rfl
  · obtain ⟨⟨self, u_end⟩, ⟨v_self, _, rfl, h_self, h_end⟩, g, kk⟩ := h
    cases h_end
    replace h_self : Rp.rel (rR K) K H v_self self := h_self
    replace g : P357 self.1 ∧ SqOk self.1 self.2 := g
    replace kk : ∀ v H2, Same H H2 → Rp.rel (rL (rT rI)) K H2 v (zrM self.1 (self.2.length : Int) self.2) → Q v H2 := kk
    refine cs_ret ?_ fun v H1 s1 hv => kk v H1 s1 hv
    exact ev_call D_still_of (hr.mono (by decide)) (ea_c (ev_v 0 h_self) ea_0) g
abbrev sp_Room_led (K : Fr) : Sp := spF (aC (rR K) (aC (rS (rS rI)) (a0))) (fun (self, table, _) => (0 < self.1 ∧ self.1 ≤ 1000) ∧ widM self.2 ≤ 1000 ∧ SqOk self.1 table ∧ table.length = self.2.length) (rR K) (fun (self, table, _) => (self.1, btsM self.1 self.2 table)) K
theorem sc_Room_led : FnScope ["self", "table"] ["self", "table"] (defScope (inClass (top 51) 8)) := ⟨rfl, rfl, rfl, by decide +kernel, rfl, by decide +kernel, by decide +kernel⟩
theorem mt_Room_led {P : Program} {w : World} {K : Fr} {mg : Str → Option Value} {base : Heap} (T : Tx K mg) : Mt P w K mg base 14 (d37.at_ K) ["self", "table"] [] (sp_Room_led K) := by
  have D_led_by := df_led_by (P := P) (w := w) (base := base) T
  have D_want_sized := df_want_sized (P := P) (w := w) (base := base) T
  obtain ⟨fd, F⟩ := T.dx 37 (d := d37) rfl
  refine ⟨fd, [], .nil, F.bindsN (fun _ _ _ _ _ _ us hl => match us, hl with | [_, _], _ => rfl), ?_⟩
  refine F.ok sc_Room_led (fun vs H Q E h => ?_) (fun cdv A outer s H vs Q E hr h => ⟨_, PSs.nox cS_pss, ?_⟩)
  · obtain ⟨⟨self, table, u_end⟩, ⟨v_self, _, rfl, h_self, ⟨v_table, _, rfl, h_table, h_end⟩⟩, g⟩ := h
    cases h_end
    rfl
  · obtain ⟨⟨self, table, u_end⟩, ⟨v_self, _, rfl, h_self, ⟨v_table, _, rfl, h_table, h_end⟩⟩, g, kk⟩ := h
    cases h_end
    replace h_self : Rp.rel (rR K) K H v_self self := h_self
    replace h_table : Rp.rel (rS (rS rI)) K H v_table table := h_table
    replace g : (0 < self.1 ∧ self.1 ≤ 1000) ∧ widM self.2 ≤ 1000 ∧ SqOk self.1 table ∧ table.length = self.2.length := g
    replace kk : ∀ v H2, Same H H2 → Rp.rel (rR K) K H2 v ((self.1, btsM self.1 self.2 table)) → Q v H2 := kk
    refine cs_ret ?_ fun v H1 s1 hv => kk v H1 s1 hv
    refine ev_call D_led_by (hr.mono (by decide)) (ea_c (ev_v 0 h_self) (ea_c (ev_call D_want_sized (hr.mono (by decide)) (y := table) (ea_c (ev_prime T (ev_v 0 h_self)) (ea_c (ev_v 1 h_table) (ea_c (ev_lenT (m_len T) (ev_rows T (ev_v 0 h_self))) ea_0))) ⟨g.2.2.1, by rw [g.2.2.2]⟩) ea_0)) ⟨g.1, g.2.1, fun row hr x hx => (g.2.2.1.2 row hr).2 x hx⟩
abbrev sp_Room___eq__ (K : Fr) : Sp := spF (aC (rR K) (aC (rR K) (a0))) (fun (self, other, _) => True) (rB) (fun (self, other, _) => decide (self.1 = other.1) && decide (self.2 = other.2)) K
theorem sc_Room___eq__ : FnScope ["self", "other"] ["self", "other"] (defScope (inClass (top 51) 9)) := ⟨rfl, rfl, rfl, by decide +kernel, rfl, by decide +kernel, by decide +kernel⟩
theorem mt_Room___eq__ {P : Program} {w : World} {K : Fr} {mg : Str → Option Value} {base : Heap} (T : Tx K mg) : Mt P w K mg base 1 (d38.at_ K) ["self", "other"] [] (sp_Room___eq__ K) := by
  obtain ⟨fd, F⟩ := T.dx 38 (d := d38) rfl
  refine ⟨fd, [], .nil, F.bindsN (fun _ _ _ _ _ _ us hl => match us, hl with | [_, _], _ => rfl), ?_⟩
  refine F.ok sc_Room___eq__ (fun vs H Q E h => ?_) (fun cdv A outer s H vs Q E hr h => ⟨_, PSs.nox cS_pss, ?_⟩)
  · obtain ⟨⟨self, other, u_end⟩, ⟨v_self, _, rfl, h_self, ⟨v_other, _, rfl, h_other, h_end⟩⟩, g⟩ := h
    cases h_end
    rfl
  · obtain ⟨⟨self, other, u_end⟩, ⟨v_self, _, rfl, h_self, ⟨v_other, _, rfl, h_other, h_end⟩⟩, g, kk⟩ := h
    cases h_end
    replace h_self : Rp.rel (rR K) K H v_self self := h_self
    replace h_other : Rp.rel (rR K) K H v_other other := h_other
    replace g : True := g
    replace kk : ∀ v H2, Same H H2 → Rp.rel (rB) K H2 v (decide (self.1 = other.1) && decide (self.2 = other.2)) → Q v H2 := kk
    refine cs_skip (EvT.is (et_not (et_val (ev_isRoom T (ev_v 1 h_other)))) rfl) fun H1 s1 => cs_ret (ev_and (ev_eq (ev_prime T (ev_v 0 (Rp.mono _ (s1) h_self))) (ev_prime T (ev_v 1 (Rp.mono _ (s1) h_other)))) fun _ => ev_one (ev_deq hr.units (ev_rows T (ev_v 0 (Rp.mono _ (s1) h_self))) (ev_rows T (ev_v 1 (Rp.mono _ (s1) h_other))))) fun v H2 s2 hv => kk v H2 (s1.trans s2) hv
end K06
/-! ==== KM ==== -/
set_option Elab.async false
set_option linter.all false
set_option maxRecDepth 100000
set_option maxHeartbeats 4000000
namespace K06
open PySem L2 PySem.Spec PyProof.Rows RZ
theorem bg2 {x y : Int} (h : Bg x ∧ Bg y) : CMulW x y := by
  have b : ∀ z : Int, Bg z → z.natAbs.log2 < 400 := fun z hz => by
    by_cases q : z.natAbs = 0
    · rw [q]
      decide
    · exact (Nat.log2_lt q).mpr hz
  have h1 := b x h.1
  have h2 := b y h.2
  unfold CMulW
  omega
section
variable {X : Cx} {σ : L2.St} {H H' Hk : Hp} {α β γ δ : Type} {r : Rp α} {q : Rp β} {p : Rp γ} {pos spos : Pos} {e a b c d : Expr}
variable {iter : Expr} {y z nm : Str} {py pz pt pn : Pos} {i j k kk : Nat} {D : Ends} {rest body : List Stmt}
theorem cs_while (Pv : Nat → L2.St → Hp → Prop) (h0 : ∃ m, Pv m σ H) (ht : ∀ m σ' H', Pv m σ' H' → ∃ b, EvT X σ' H' c b ∧
    (b = true → ∀ H2, Same H' H2 → cS X body ⟨fun σ3 H3 => ∃ m', m' < m ∧ Pv m' σ3 H3, D.rt, fun σ3 H3 => cS X rest D σ3 H3, fun σ3 H3 => ∃ m', m' < m ∧ Pv m' σ3 H3⟩ σ' H2) ∧ (b = false → ∀ H2, Same H' H2 → cS X rest D σ' H2))
    (hp : PassesOwn (model X.prog X.w) X.A X.env X.xe := by exact PassesOwn.never) : cS X (.While c body [] pos :: rest) D σ H := by
  refine cs_one (ps_while hp cT_pt cS_pss) ⟨Pv, h0, fun m σ' H1 h => ?_⟩
  obtain ⟨b, h1, h2, h3⟩ := ht m σ' H1 h
  refine h1 H1 (Same.refl _) _ fun H2 s2 => ?_
  cases b with
  | true => exact iteT ⟨_, fun _ _ h => h, h2 rfl H2 s2⟩
  | false => exact iteF (h3 rfl H2 s2)
/-- x, y = a pair -/
theorem cs_unp2 {x : α × β} {p1 p2 p3 : Pos} {k1 : Nat} (nd : X.N.Nodup) (hi : X.N[i]? = some y) (hj : X.N[j]? = some z) (ha : Ev X σ H a (r2 r q) x)
    (k : ∀ u v H1, Same H H1 → r.rel X.K H1 u x.1 → q.rel X.K H1 v x.2 → cS X rest D ((σ.set i (some u)).set j (some v)) H1) (hc : X.calm = true := by rfl)
    (hx : L2.Loc X.env.scope y := by first | exact Or.inl rfl | exact Or.inr rfl) (hf : X.fn y = true ∨ X.env.scope.names.lookup y = some .local := by first | exact .inl rfl | exact .inr rfl)
    (hx2 : L2.Loc X.env.scope z := by first | exact Or.inl rfl | exact Or.inr rfl) (hf2 : X.fn z = true ∨ X.env.scope.names.lookup z = some .local := by first | exact .inl rfl | exact .inr rfl)
    (hw : swappedStores [.Tuple [.Name y p1, .Name z p2] k1 p3] a X.env = pure none := by rfl)
    (hs : swapsWithSole [.Tuple [.Name y p1, .Name z p2] k1 p3] a pos.line X.env = pure false := by rfl)
    (ht : (assignEach [.Tuple [.Name y p1, .Name z p2] k1 p3] X.env).map (·.2) = [assign (.Tuple [.Name y p1, .Name z p2] k1 p3) X.env] := by rfl)
    (h1 : (assignEach [.Name y p1, .Name z p2] X.env).map (·.2) = assign (.Name y p1) X.env :: (assignEach [.Name z p2] X.env).map (·.2) := by rfl) (h2 : (assignEach [.Name z p2] X.env).map (·.2) = assign (.Name z p2) X.env :: (assignEach [] X.env).map (·.2) := by rfl)
    (hn : (assignEach [.Name y p1, .Name z p2] X.env).length = 2 := by rfl) (hst : (assignEach [.Name y p1, .Name z p2] X.env).findIdx? (·.1) = none := by rfl) : cS X (.Assign [.Tuple [.Name y p1, .Name z p2] k1 p3] a pos :: rest) D σ H :=
  cs_one (ps_asg cE_pe (pg_tup hc (pgs_cons (pg_name nd hi hx hf) (pgs_cons (pg_name nd hj hx2 hf2) pgs_nil h2) h1) hn hst) hs hw ht) (ha H (Same.refl H) _ fun t H1 s1 ht => by
    obtain ⟨l, u, v, rfl, h1, h2, h3⟩ := ht
    exact ⟨l, [u, v], rfl, SqT.of h1, rfl, u, [v], rfl, v, [], rfl, rfl, k u v H1 s1 h2 h3⟩)
/-- x, y, z = a triple -/
theorem cs_unp3 {m : Nat} {x : α × β × γ} {p1 p2 p3 p4 : Pos} {k1 : Nat} (nd : X.N.Nodup) (hi : X.N[i]? = some y) (hj : X.N[j]? = some z) (hm : X.N[m]? = some nm) (ha : Ev X σ H a (r3 r q p) x)
    (k : ∀ u v t H1, Same H H1 → r.rel X.K H1 u x.1 → q.rel X.K H1 v x.2.1 → p.rel X.K H1 t x.2.2 → cS X rest D (((σ.set i (some u)).set j (some v)).set m (some t)) H1) (hc : X.calm = true := by rfl)
    (hx : L2.Loc X.env.scope y := by first | exact Or.inl rfl | exact Or.inr rfl) (hf : X.fn y = true ∨ X.env.scope.names.lookup y = some .local := by first | exact .inl rfl | exact .inr rfl)
    (hx2 : L2.Loc X.env.scope z := by first | exact Or.inl rfl | exact Or.inr rfl) (hf2 : X.fn z = true ∨ X.env.scope.names.lookup z = some .local := by first | exact .inl rfl | exact .inr rfl)
    (hx3 : L2.Loc X.env.scope nm := by first | exact Or.inl rfl | exact Or.inr rfl) (hf3 : X.fn nm = true ∨ X.env.scope.names.lookup nm = some .local := by first | exact .inl rfl | exact .inr rfl)
    (hw : swappedStores [.Tuple [.Name y p1, .Name z p2, .Name nm p3] k1 p4] a X.env = pure none := by rfl)
    (hs : swapsWithSole [.Tuple [.Name y p1, .Name z p2, .Name nm p3] k1 p4] a pos.line X.env = pure false := by rfl)
    (ht : (assignEach [.Tuple [.Name y p1, .Name z p2, .Name nm p3] k1 p4] X.env).map (·.2) = [assign (.Tuple [.Name y p1, .Name z p2, .Name nm p3] k1 p4) X.env] := by rfl)
    (h1 : (assignEach [.Name y p1, .Name z p2, .Name nm p3] X.env).map (·.2) = assign (.Name y p1) X.env :: (assignEach [.Name z p2, .Name nm p3] X.env).map (·.2) := by rfl) (h2 : (assignEach [.Name z p2, .Name nm p3] X.env).map (·.2) = assign (.Name z p2) X.env :: (assignEach [.Name nm p3] X.env).map (·.2) := by rfl)
    (h3 : (assignEach [.Name nm p3] X.env).map (·.2) = assign (.Name nm p3) X.env :: (assignEach [] X.env).map (·.2) := by rfl)
    (hn : (assignEach [.Name y p1, .Name z p2, .Name nm p3] X.env).length = 3 := by rfl) (hst : (assignEach [.Name y p1, .Name z p2, .Name nm p3] X.env).findIdx? (·.1) = none := by rfl) : cS X (.Assign [.Tuple [.Name y p1, .Name z p2, .Name nm p3] k1 p4] a pos :: rest) D σ H :=
  cs_one (ps_asg cE_pe (pg_tup hc (pgs_cons (pg_name nd hi hx hf) (pgs_cons (pg_name nd hj hx2 hf2) (pgs_cons (pg_name nd hm hx3 hf3) pgs_nil h3) h2) h1) hn hst) hs hw ht) (ha H (Same.refl H) _ fun t H1 s1 ht => by
    obtain ⟨l, u, v, w, rfl, h1, h2, h3, h4⟩ := ht
    exact ⟨l, [u, v, w], rfl, SqT.of h1, rfl, u, [v, w], rfl, v, [w], rfl, w, [], rfl, rfl, k u v w H1 s1 h2 h3 h4⟩)
theorem cs_unpE {x : α} {w : β} {p1 p2 p3 p4 : Pos} {k1 k2 : Nat} (nd : X.N.Nodup) (hi : X.N[i]? = some y) (hj : X.N[j]? = some z) (ha : Ev X σ H a r x) (hb : Ev X σ H b q w)
    (k : ∀ u v H1, Same H H1 → r.rel X.K H1 u x → q.rel X.K H1 v w → cS X rest D ((σ.set i (some u)).set j (some v)) H1) (hc : X.calm = true := by rfl)
    (hx : L2.Loc X.env.scope y := by first | exact Or.inl rfl | exact Or.inr rfl) (hf : X.fn y = true ∨ X.env.scope.names.lookup y = some .local := by first | exact .inl rfl | exact .inr rfl)
    (hx2 : L2.Loc X.env.scope z := by first | exact Or.inl rfl | exact Or.inr rfl) (hf2 : X.fn z = true ∨ X.env.scope.names.lookup z = some .local := by first | exact .inl rfl | exact .inr rfl)
    (hw : swappedStores [.Tuple [.Name y p1, .Name z p2] k1 p3] (.Tuple [a, b] k2 p4) X.env = pure none := by rfl)
    (hs : swapsWithSole [.Tuple [.Name y p1, .Name z p2] k1 p3] (.Tuple [a, b] k2 p4) pos.line X.env = pure false := by rfl)
    (ht : (assignEach [.Tuple [.Name y p1, .Name z p2] k1 p3] X.env).map (·.2) = [assign (.Tuple [.Name y p1, .Name z p2] k1 p3) X.env] := by rfl)
    (h1 : (assignEach [.Name y p1, .Name z p2] X.env).map (·.2) = assign (.Name y p1) X.env :: (assignEach [.Name z p2] X.env).map (·.2) := by rfl) (h2 : (assignEach [.Name z p2] X.env).map (·.2) = assign (.Name z p2) X.env :: (assignEach [] X.env).map (·.2) := by rfl)
    (hn : (assignEach [.Name y p1, .Name z p2] X.env).length = 2 := by rfl) (hst : (assignEach [.Name y p1, .Name z p2] X.env).findIdx? (·.1) = none := by rfl)
    (hs1 : starEach [a, b] X.env = (false, eval a X.env) :: starEach [b] X.env := by rfl) (hs2 : starEach [b] X.env = (false, eval b X.env) :: starEach [] X.env := by rfl) : cS X (.Assign [.Tuple [.Name y p1, .Name z p2] k1 p3] (.Tuple [a, b] k2 p4) pos :: rest) D σ H :=
  cs_unp2 nd hi hj (ev_2 ha hb hs1 hs2) k hc hx hf hx2 hf2 hw hs ht h1 h2 hn hst
theorem ev_mulW {x y : Int} (ha : Ev X σ H a rI x) (hb : Ev X σ H b rI y) (hx : Bg x ∧ Bg y) : Ev X σ H (.BinOp a .Mult b pos) rI (x * y) := ev_op2 op_mulW ha hb fun H1 _ _ _ hu hw _ c => ⟨x, y, hu, hw, bg2 hx, c _ H1 (Same.refl H1) rfl⟩
theorem some_2 {K : Fr} {H : Hp} {v : V} {x : α × β} (h : (r2 r q).rel K H v x) : (rO (r2 r q)).rel K H v (some x) := ⟨by
  obtain ⟨a, u, w, e, _⟩ := h
  rw [e]
  exact (fun e => nomatch e), h⟩
end
end K06
/-! ==== DG ==== -/
set_option Elab.async false
set_option linter.all false
set_option maxRecDepth 100000
set_option maxHeartbeats 4000000
namespace K06
open PySem L2 PySem.Spec PyProof.Rows RZ

abbrev sp_between_by (K : Fr) : Sp := spF (aC (rI) (aC (rT (rT rI)) (aC (rT rI) (aC (rT rI) (a0))))) (fun (prime, rows, one, other, _) => (0 < prime ∧ prime ≤ 1000) ∧ widM rows ≤ 1000 ∧ ∀ x ∈ one, 0 ≤ x ∧ x < prime) (rI) (fun (prime, rows, one, other, _) => btwM prime rows one other) K
theorem sc_between_by : FnScope ["prime", "rows", "one", "other"] ["prime", "rows", "one", "other"] (defScope (top 60)) := ⟨rfl, rfl, rfl, by decide +kernel, rfl, by decide +kernel, by decide +kernel⟩
theorem df_between_by {P : Program} {w : World} {K : Fr} {mg : Str → Option Value} {base : Heap} (T : Tx K mg) : Df P w K mg base 4 "between_by" ["prime", "rows", "one", "other"] (sp_between_by K) := by
  have D_dot := df_dot (P := P) (w := w) (base := base) T
  have D_led_of := df_led_of (P := P) (w := w) (base := base) T
  obtain ⟨fd, F⟩ := T.dx 46 (d := d46) rfl
  refine ⟨_, fd, T.gl 40 rfl, F.kp, F.bindsN (fun _ _ _ _ _ _ us hl => match us, hl with | [_, _, _, _], _ => rfl), ?_⟩
  refine F.ok sc_between_by (fun vs H Q E h => ?_) (fun cdv A outer s H vs Q E hr h => ⟨_, PSs.nox cS_pss, ?_⟩)
  · obtain ⟨⟨prime, rows, one, other, u_end⟩, ⟨v_prime, _, rfl, h_prime, ⟨v_rows, _, rfl, h_rows, ⟨v_one, _, rfl, h_one, ⟨v_other, _, rfl, h_other, h_end⟩⟩⟩⟩, g⟩ := h
    cases h_end
    rfl
  · obtain ⟨⟨prime, rows, one, other, u_end⟩, ⟨v_prime, _, rfl, h_prime, ⟨v_rows, _, rfl, h_rows, ⟨v_one, _, rfl, h_one, ⟨v_other, _, rfl, h_other, h_end⟩⟩⟩⟩, g, kk⟩ := h
    cases h_end
    replace h_prime : Rp.rel (rI) K H v_prime prime := h_prime
    replace h_rows : Rp.rel (rT (rT rI)) K H v_rows rows := h_rows
    replace h_one : Rp.rel (rT rI) K H v_one one := h_one
    replace h_other : Rp.rel (rT rI) K H v_other other := h_other
    replace g : (0 < prime ∧ prime ≤ 1000) ∧ widM rows ≤ 1000 ∧ ∀ x ∈ one, 0 ≤ x ∧ x < prime := g
    replace kk : ∀ v H2, Same H H2 → Rp.rel (rI) K H2 v (btwM prime rows one other) → Q v H2 := kk
    refine cs_ret ?_ fun v H1 s1 hv => kk v H1 s1 hv
    exact ev_call D_dot (hr.mono (by decide)) (ea_c (ev_v 0 h_prime) (ea_c (ev_call D_led_of (hr.mono (by decide)) (y := ledM prime one rows) (ea_c (ev_v 0 h_prime) (ea_c (ev_v 2 h_one) (ea_c (ev_v 1 h_rows) ea_0))) ⟨⟨g.1.1, fun x hx => sm_of (g.2.2 x hx) g.1.2⟩, g.2.1⟩) (ea_c (ev_v 3 h_other) ea_0))) ⟨g.1.1, fun y hy => sm_of (led_rng g.1.1 one rows y hy) g.1.2⟩
abbrev sp_first_worthy (K : Fr) : Sp := spF (aC (rI) (aC (rT (rT rI)) (aC (rL (rT rI)) (a0)))) (fun (prime, rows, left, _) => (2 ≤ prime ∧ prime ≤ 1000) ∧ widM rows ≤ 1000 ∧ left.length ≤ 1000 ∧ ∃ n : Nat, TabOk prime n left) (rO (r2 rI (rT rI))) (fun (prime, rows, left, _) => fwM prime rows left) K
theorem sc_first_worthy : FnScope ["prime", "rows", "left", "place", "row", "other"] ["prime", "rows", "left"] (defScope (top 61)) := ⟨rfl, rfl, rfl, by decide +kernel, rfl, by decide +kernel, by decide +kernel⟩
theorem df_first_worthy {P : Program} {w : World} {K : Fr} {mg : Str → Option Value} {base : Heap} (T : Tx K mg) : Df P w K mg base 5 "first_worthy" ["prime", "rows", "left"] (sp_first_worthy K) := by
  have D_between_by := df_between_by (P := P) (w := w) (base := base) T
  have D_sum_of := df_sum_of (P := P) (w := w) (base := base) T
  obtain ⟨fd, F⟩ := T.dx 47 (d := d47) rfl
  refine ⟨_, fd, T.gl 41 rfl, F.kp, F.bindsN (fun _ _ _ _ _ _ us hl => match us, hl with | [_, _, _], _ => rfl), ?_⟩
  refine F.ok sc_first_worthy (fun vs H Q E h => ?_) (fun cdv A outer s H vs Q E hr h => ⟨_, PSs.nox cS_pss, ?_⟩)
  · obtain ⟨⟨prime, rows, left, u_end⟩, ⟨v_prime, _, rfl, h_prime, ⟨v_rows, _, rfl, h_rows, ⟨v_left, _, rfl, h_left, h_end⟩⟩⟩, g⟩ := h
    cases h_end
    rfl
  · obtain ⟨⟨prime, rows, left, u_end⟩, ⟨v_prime, _, rfl, h_prime, ⟨v_rows, _, rfl, h_rows, ⟨v_left, _, rfl, h_left, h_end⟩⟩⟩, g, kk⟩ := h
    cases h_end
    replace h_prime : Rp.rel (rI) K H v_prime prime := h_prime
    replace h_rows : Rp.rel (rT (rT rI)) K H v_rows rows := h_rows
    replace h_left : Rp.rel (rL (rT rI)) K H v_left left := h_left
    replace g : (2 ≤ prime ∧ prime ≤ 1000) ∧ widM rows ≤ 1000 ∧ left.length ≤ 1000 ∧ ∃ n : Nat, TabOk prime n left := g
    replace kk : ∀ v H2, Same H H2 → Rp.rel (rO (r2 rI (rT rI))) K H2 v (fwM prime rows left) → Q v H2 := kk
    obtain ⟨hp, hw, hll, n, hT⟩ := g
    refine cs_for2 (j := 3) (k := 4) sc_first_worthy.nd rfl rfl (src_eL (m_enumerate T) (ev_v 2 h_left)) (fun _ i σ' _ => (∃ o1 o2, σ' = [some v_prime, some v_rows, some v_left, o1, o2, none]) ∧ ((enu left).take i).find? (fun z => !decide (btwM prime rows z.2 z.2 = 0)) = none) (fun H2 s2 => ⟨⟨none, none, rfl⟩, rfl⟩) ?_ ?_ ?_
    · rintro H2 s2 i x u v σ' H' hx s3 hu hv ⟨⟨o1, o2, rfl⟩, hf⟩
      have sH := s2.trans s3
      have hm := enu_mem (List.mem_of_getElem? hx)
      have hgo := find_go hf hx
      refine cs_if (k := !decide (btwM prime rows x.2 x.2 = 0)) (et_ne (ev_call D_between_by (hr.mono (by decide)) (ea_c (ev_v 0 (Rp.mono _ (sH) h_prime)) (ea_c (ev_v 1 (Rp.mono _ (sH) h_rows)) (ea_c (ev_v 4 hv) (ea_c (ev_v 4 hv) ea_0)))) ⟨⟨by omega, by omega⟩, hw, (hT _ hm.2.2).2⟩) ev_i) (fun q H3 s4 => ?_) fun q H3 s4 => cs_nil (cs_nil ⟨s3.trans s4, ⟨some u, some v, rfl⟩, hgo.2 q⟩)
      refine cs_ret (x := x) (ev_2 (ev_v 3 (rI.mono s4 hu)) (ev_v 4 ((rT rI).mono s4 hv))) fun y H4 s5 hy => kk y H4 ((sH.trans s4).trans s5) ?_
      have e : fwM prime rows left = some x := by
        unfold fwM fw1
        rw [hgo.1 q]
      rw [e]
      exact some_2 hy
    · rintro H2 s2 i σ' H3 H4 s4 h
      exact h
    · rintro H2 s2 σ' H' s3 ⟨⟨o1, o2, rfl⟩, hf⟩
      rw [List.take_length] at hf
      have sH := s2.trans s3
      have efw : fwM prime rows left = fw2 prime rows left := by
        unfold fwM fw1
        rw [hf]
      rw [efw] at kk
      refine cs_for2 (j := 3) (k := 4) sc_first_worthy.nd rfl rfl (src_eL (m_enumerate T) (ev_v 2 (Rp.mono _ (sH) h_left))) (fun _ i σ' _ => (∃ o1 o2 o3, σ' = [some v_prime, some v_rows, some v_left, o1, o2, o3]) ∧ ((enu left).take i).findSome? (fun z => ((left.drop (z.1 + 1).toNat).find? fun o => !decide (btwM prime rows z.2 o = 0)).map fun o => (z.1, sumM prime z.2 o 1)) = none) (fun H2 s2 => ⟨⟨o1, o2, none, rfl⟩, rfl⟩) ?_ ?_ ?_
      · rintro H2' s4 i x u v σ' H3 hx s5 hu hv ⟨⟨o1, o2, o3, rfl⟩, hf2⟩
        have sH3 := (sH.trans s4).trans s5
        have hm := enu_mem (List.mem_of_getElem? hx)
        have hgo := finds_go hf2 hx
        refine cs_for1 (j := 5) sc_first_worthy.nd rfl (src_L (ev_from (j := (x.1 + 1).toNat) (ev_v 2 (Rp.mono _ (sH3) h_left)) (Ev.is (ev_add (ev_v 3 hu) ev_i) (by omega)))) (fun _ j σ' _ => (∃ o3, σ' = [some v_prime, some v_rows, some v_left, some u, some v, o3]) ∧ ((left.drop (x.1 + 1).toNat).take j).find? (fun o => !decide (btwM prime rows x.2 o = 0)) = none) (fun H2 s2 => ⟨⟨o3, rfl⟩, rfl⟩) ?_ ?_
        · rintro H4 s6 j o w σ' H5 ho s7 hw' ⟨⟨o3, rfl⟩, hf3⟩
          have s67 := s6.trans s7
          have hg3 := find_go hf3 ho
          refine cs_if (k := !decide (btwM prime rows x.2 o = 0)) (et_ne (ev_call D_between_by (hr.mono (by decide)) (ea_c (ev_v 0 (Rp.mono _ (sH3.trans s67) h_prime)) (ea_c (ev_v 1 (Rp.mono _ (sH3.trans s67) h_rows)) (ea_c (ev_v 4 ((rT rI).mono s67 hv)) (ea_c (ev_v 5 hw') ea_0)))) ⟨⟨by omega, by omega⟩, hw, (hT _ hm.2.2).2⟩) ev_i) (fun q H6 s8 => ?_) fun q H6 s8 => cs_nil (cs_nil ⟨s7.trans s8, ⟨some w, rfl⟩, hg3.2 q⟩)
          have s678 := s67.trans s8
          refine cs_ret (x := (x.1, sumM prime x.2 o 1)) (ev_2 (ev_v 3 (rI.mono s678 hu)) (ev_call D_sum_of (hr.mono (by decide)) (y := sumM prime x.2 o 1) (ea_c (ev_v 0 (Rp.mono _ (sH3.trans s678) h_prime)) (ea_c (ev_v 4 ((rT rI).mono s678 hv)) (ea_c (ev_v 5 ((rT rI).mono s8 hw')) (ea_c ev_i ea_0)))) ⟨by omega, by unfold Sm; omega⟩)) fun y H7 s9 hy => kk y H7 ((sH3.trans s678).trans s9) ?_
          have e : fw2 prime rows left = some (x.1, sumM prime x.2 o 1) := hgo.1 _ (by rw [hg3.1 q]; rfl)
          rw [e]
          exact some_2 hy
        · rintro H4 s6 σ' H5 s7 ⟨⟨o3, rfl⟩, hf3⟩
          rw [List.take_length] at hf3
          exact cs_nil ⟨(s5.trans s6).trans s7, ⟨some u, some v, o3, rfl⟩, hgo.2 (by rw [hf3]; rfl)⟩
      · rintro H2 s2 i σ' H3 H4 s4 h
        exact h
      · rintro H2' s4 σ' H3 s5 ⟨⟨o1, o2, o3, rfl⟩, hf2⟩
        rw [List.take_length] at hf2
        have e : fw2 prime rows left = none := hf2
        rw [e] at kk
        exact cs_ret ev_none fun y H7 s9 hy => kk y H7 (((sH.trans s4).trans s5).trans s9) hy
end K06
/-! ==== DH ==== -/
set_option Elab.async false
set_option linter.all false
set_option maxRecDepth 100000
set_option maxHeartbeats 4000000
namespace K06
open PySem L2 PySem.Spec PyProof.Rows RZ

abbrev sp_squares_of (K : Fr) : Sp := spF (aC (rI) (aC (rT (rT rI)) (a0))) (fun (prime, rows, _) => (2 ≤ prime ∧ prime ≤ 1000) ∧ SqOk prime rows) (r2 (rT (rT rI)) (rL rI)) (fun (prime, rows, _) => sqM prime rows) K
theorem sc_squares_of : FnScope ["prime", "rows", "left", "found", "numbers", "here", "place", "row", "worth", "turn", "others", "one"] ["prime", "rows"] (defScope (top 62)) := ⟨rfl, rfl, rfl, by decide +kernel, rfl, by decide +kernel, by decide +kernel⟩
theorem df_squares_of {P : Program} {w : World} {K : Fr} {mg : Str → Option Value} {base : Heap} (T : Tx K mg) : Df P w K mg base 6 "squares_of" ["prime", "rows"] (sp_squares_of K) := by
  have D_between_by := df_between_by (P := P) (w := w) (base := base) T
  have D_first_worthy := df_first_worthy (P := P) (w := w) (base := base) T
  have D_idle_of := df_idle_of (P := P) (w := w) (base := base) T
  have D_sum_of := df_sum_of (P := P) (w := w) (base := base) T
  have D_undone_of := df_undone_of (P := P) (w := w) (base := base) T
  obtain ⟨fd, F⟩ := T.dx 48 (d := d48) rfl
  refine ⟨_, fd, T.gl 42 rfl, F.kp, F.bindsN (fun _ _ _ _ _ _ us hl => match us, hl with | [_, _], _ => rfl), ?_⟩
  refine F.ok sc_squares_of (fun vs H Q E h => ?_) (fun cdv A outer s H vs Q E hr h => ⟨_, PSs.nox cS_pss, ?_⟩)
  · obtain ⟨⟨prime, rows, u_end⟩, ⟨v_prime, _, rfl, h_prime, ⟨v_rows, _, rfl, h_rows, h_end⟩⟩, g⟩ := h
    cases h_end
    rfl
  · obtain ⟨⟨prime, rows, u_end⟩, ⟨v_prime, _, rfl, h_prime, ⟨v_rows, _, rfl, h_rows, h_end⟩⟩, g, kk⟩ := h
    cases h_end
    replace h_prime : Rp.rel (rI) K H v_prime prime := h_prime
    replace h_rows : Rp.rel (rT (rT rI)) K H v_rows rows := h_rows
    replace g : (2 ≤ prime ∧ prime ≤ 1000) ∧ SqOk prime rows := g
    replace kk : ∀ v H2, Same H H2 → Rp.rel (r2 (rT (rT rI)) (rL rI)) K H2 v (sqM prime rows) → Q v H2 := kk
    obtain ⟨hp, hq⟩ := g
    have hp0 : 0 < prime := by omega
    have hw : widM rows ≤ 1000 := by rw [hq.wid]; have := hq.1; omega
    have hn := hq.1
    refine cs_parNN (r := rT rI) (q := rT rI) (p := rI) (xs := idleM (rows.length : Int)) (ws := []) (us := []) (i := 2) (j := 3) (m := 4) sc_squares_of.nd rfl rfl rfl (by decide) (by decide) (by decide) (en_lstQ (rr := rT (rT rI)) (m_list T) (ev_call D_idle_of (hr.mono (by decide)) (ea_c (ev_lenT (m_len T) (ev_v 1 h_rows)) ea_0) (show -1000 ≤ (rows.length : Int) ∧ (rows.length : Int) ≤ 1000 by omega))) en_L0 en_L0 fun l vl H1 F vf H2 N vn H3 hl0 s1 hl hl' hF0 s2 hF hF' hN0 s3 hN hN' => ?_
    cases hF'
    cases hN'
    have sH := (s1.trans s2).trans s3
    have hFn : H F = none := none_back s1 hF0
    have hNn : H N = none := none_back (s1.trans s2) hN0
    have hlF : l ≠ F := fun e => by rw [← e, hl] at hF0; cases hF0
    have hlN : l ≠ N := fun e => by rw [← e, s2 _ _ hl] at hN0; cases hN0
    have hFN : F ≠ N := fun e => by rw [← e, hF] at hN0; cases hN0
    have hid := idle_ok (p := prime) hp.1 rows.length
    have hidl := idle_len rows.length
    refine cs_set (i := 5) sc_squares_of.nd rfl (ev_call D_first_worthy (hr.mono (by decide)) (y := fwM prime rows (idleM (rows.length : Int))) (ea_c (ev_v 0 (Rp.mono _ (sH) h_prime)) (ea_c (ev_v 1 (Rp.mono _ (sH) h_rows)) (ea_c (ev_v 2 (r := rL (rT rI)) (d := idleM (rows.length : Int)) ⟨l, vl, rfl, (s2.trans s3) _ _ hl, pmono (s2.trans s3) hl'⟩) ea_0))) ⟨hp, hw, by rw [hidl]; omega, _, hid⟩) fun vh H4 s4 hvh => ?_
    refine cs_while (fun m σ' H' => ∃ l vl vf vn vh o6 o7 o8 o9 o10 left found nums f, σ' = [some v_prime, some v_rows, some (.ref l), some (.ref F), some (.ref N), some vh, o6, o7, o8, o9, o10, none] ∧ Same H H' ∧ (l ≠ F ∧ l ≠ N) ∧ (H' l = some (.lst vl) ∧ Paired ((rT rI).rel K H') vl left) ∧ (H' F = some (.lst vf) ∧ Paired ((rT rI).rel K H') vf found) ∧ (H' N = some (.lst vn) ∧ Paired (rI.rel K H') vn nums) ∧ (rO (r2 rI (rT rI))).rel K H' vh (fwM prime rows left) ∧ TabOk prime rows.length left ∧ m = left.length ∧ (left.length ≤ f ∧ sqL prime rows f left found nums = sqM prime rows) ∧ found.length + left.length ≤ 6 ∧ nums.length = found.length) ⟨_, l, vl, [], [], vh, none, none, none, none, none, idleM rows.length, [], [], rows.length, rfl, sH.trans s4, ⟨hlF, hlN⟩, ⟨((s2.trans s3).trans s4) _ _ hl, pmono ((s2.trans s3).trans s4) hl'⟩, ⟨(s3.trans s4) _ _ hF, .nil⟩, ⟨s4 _ _ hN, .nil⟩, hvh, hid, rfl, ⟨by rw [hidl]; exact Nat.le_refl _, rfl⟩, by rw [hidl]; show 0 + rows.length ≤ 6; omega, rfl⟩ ?_
    rintro m σ' H' ⟨l, vl, vf, vn, vh, o6, o7, o8, o9, o10, left, found, nums, f, rfl, sH', ⟨hlF, hlN⟩, ⟨hl, hl'⟩, ⟨hF, hF'⟩, ⟨hN, hN'⟩, hvh, hT, rfl, ⟨hf, hsq⟩, hb, hnl⟩
    refine ⟨_, et_notN (ev_v 5 hvh), fun q H5 s5 => ?_, fun q H5 s5 => ?_⟩
    · cases hfw : fwM prime rows left with
      | none => rw [hfw] at q; cases q
      | some z =>
      rw [hfw] at hvh
      obtain ⟨place, row⟩ := z
      have hz := fw_ok hp0 hT hfw
      obtain ⟨hnx, hnl2⟩ : TabOk prime rows.length (nextM prime rows left place row) ∧ (nextM prime rows left place row).length + 1 = left.length := next_ok hp0 (g := rows) (z := (place, row)) hT hz
      have sH5 := sH'.trans s5
      refine cs_unp2 (i := 6) (j := 7) sc_squares_of.nd rfl rfl (ev_v 5 (Rp.mono _ s5 hvh.2)) fun u v H6 s6 hu hv => ?_
      have hv : (rT rI).rel K H6 v row := hv
      have hu : rI.rel K H6 u place := hu
      refine cs_set (i := 8) sc_squares_of.nd rfl (ev_call D_between_by (hr.mono (by decide)) (y := btwM prime rows row row) (ea_c (ev_v 0 (Rp.mono _ (sH5.trans s6) h_prime)) (ea_c (ev_v 1 (Rp.mono _ (sH5.trans s6) h_rows)) (ea_c (ev_v 7 hv) (ea_c (ev_v 7 hv) ea_0)))) ⟨⟨by omega, by omega⟩, hw, hz.2.2⟩) fun w H7 s7 hw7 => ?_
      refine cs_set (i := 9) sc_squares_of.nd rfl (ev_call D_undone_of (hr.mono (by decide)) (y := undM prime (btwM prime rows row row)) (ea_c (ev_v 0 (Rp.mono _ ((sH5.trans s6).trans s7) h_prime)) (ea_c (ev_v 8 hw7) ea_0)) hp) fun t H8 s8 ht8 => ?_
      have s68 := (s6.trans s7).trans s8
      have s78 := s7.trans s8
      refine cs_set (i := 10) sc_squares_of.nd rfl (ev_cat (ev_to (r := rT rI) (xs := left) (j := place.toNat) (ev_v 2 (r := rL (rT rI)) ⟨l, vl, rfl, (s5.trans s68) _ _ hl, pmono (s5.trans s68) hl'⟩) (Ev.is (ev_v 6 (rI.mono s78 hu)) (by omega))) (ev_from (r := rT rI) (xs := left) (j := (place + 1).toNat) (ev_v 2 (r := rL (rT rI)) ⟨l, vl, rfl, (s5.trans s68) _ _ hl, pmono (s5.trans s68) hl'⟩) (Ev.is (ev_add (ev_v 6 (rI.mono s78 hu)) ev_i) (by omega))) (by rw [List.length_take, List.length_drop]; omega)) fun vo H9 s9 hvo => ?_
      have s59 := (s5.trans s68).trans s9
      have sH9 := sH'.trans s59
      refine cs_setN1 (f := fun one => sumM prime one row ((0 - btwM prime rows one row * undM prime (btwM prime rows row row)) % prime)) (q := rT rI) (i := 2) (j := 11) sc_squares_of.nd rfl (src_L (ev_v 10 hvo)) (blkOk_by (N := ["prime", "rows", "left", "found", "numbers", "here", "place", "row", "worth", "turn", "others", "one"]) (sc := defScope (top 62)) (by decide +kernel)) ⟨rfl, by first | exact Or.inl rfl | exact Or.inr rfl, by first | exact Or.inr rfl | exact Or.inl rfl⟩ (fun s' Hs C cl fp x hx y H10 s10 hy => ev_call D_sum_of (hr.mono (by decide)) (ea_c (ev_v 0 (Rp.mono _ (sH9.trans s10) h_prime)) (ea_c (ev_v 11 hy) (ea_c (ev_v 7 ((rT rI).mono ((s78.trans s9).trans s10) hv)) (ea_c (ev_mod (ev_sub ev_i (ev_mul (ev_call D_between_by (hr.mono (by decide)) (y := btwM prime rows x row) (ea_c (ev_v 0 (Rp.mono _ (sH9.trans s10) h_prime)) (ea_c (ev_v 1 (Rp.mono _ (sH9.trans s10) h_rows)) (ea_c (ev_v 11 hy) (ea_c (ev_v 7 ((rT rI).mono ((s78.trans s9).trans s10) hv)) ea_0)))) ⟨⟨by omega, by omega⟩, hw, (hT x ?_).2⟩) (ev_v 9 (rI.mono (s9.trans s10) ht8)) ?_)) (ev_v 0 (rI.mono (sH9.trans s10) h_prime)) hp0) ea_0)))) ⟨hp0, ?_⟩) fun l2 vl2 H10 hl20 s10 hl2 hl2' => ?_
      · rcases List.mem_append.mp hx with h | h
        · exact List.mem_of_mem_take h
        · exact List.mem_of_mem_drop h
      · exact sm_of ⟨Int.emod_nonneg _ (by omega), Int.emod_lt_of_pos _ hp0⟩ hp.2
      · exact sm_of ⟨Int.emod_nonneg _ (by omega), Int.emod_lt_of_pos _ hp0⟩ hp.2
      have hl2F : l2 ≠ F := fun e => by rw [e, s59 _ _ hF] at hl20; cases hl20
      have hl2N : l2 ≠ N := fun e => by rw [e, s59 _ _ hN] at hl20; cases hl20
      have s510 := s59.trans s10
      refine cs_app (r := rT rI) (x := row) (ev_v 3 rfl) (ev_v 7 ((rT rI).mono ((s78.trans s9).trans s10) hv)) (s510 _ _ hF) (by rw [hF'.length]; omega) fun y H11 s11 hy => ?_
      have hF11 : H11 F = some (.lst vf) := (s510.trans s11) _ _ hF
      have sX : Same H (upd H11 F (.lst (vf ++ [y]))) := same_mut ((sH'.trans s510).trans s11) hFn
      have hN11 : (upd H11 F (.lst (vf ++ [y]))) N = some (.lst vn) := by rw [upd_ne (Ne.symm hFN)]; exact (s510.trans s11) _ _ hN
      refine cs_app (r := rI) (x := btwM prime rows row row) (l := N) (vs := vn) (ev_v 4 rfl) (ev_v 8 (r := rI) (d := btwM prime rows row row) hw7) hN11 (by rw [hN'.length]; omega) fun y2 H12 s12 hy2 => ?_
      have hN12 : H12 N = some (.lst vn) := s12 _ _ hN11
      have hF12 : H12 F = some (.lst (vf ++ [y])) := s12 _ _ upd_same
      have sY : Same H (upd H12 N (.lst (vn ++ [y2]))) := same_mut (sX.trans s12) hNn
      have hl12 : (upd H12 N (.lst (vn ++ [y2]))) l2 = some (.lst vl2) := by
        rw [upd_ne hl2N]
        refine s12 _ _ ?_
        rw [upd_ne hl2F]
        exact s11 _ _ hl2
      have lift : ∀ {α : Type} {r : Rp α} [Fz r] {v : V} {x : α}, r.rel K H11 v x → r.rel K (upd H12 N (.lst (vn ++ [y2]))) v x := fun h => Fz.fz hN12 (Rp.mono _ s12 (Fz.fz hF11 h))
      have liftp : ∀ {vs : List V} {xs : Tb}, Paired ((rT rI).rel K H11) vs xs → Paired ((rT rI).rel K (upd H12 N (.lst (vn ++ [y2])))) vs xs := fun h => Paired.mapP h fun _ _ q => lift (r := rT rI) q
      refine cs_set (i := 5) sc_squares_of.nd rfl (ev_call D_first_worthy (hr.mono (by decide)) (y := fwM prime rows (nextM prime rows left place row)) (ea_c (ev_v 0 (Rp.mono _ (sY) h_prime)) (ea_c (ev_v 1 (Rp.mono _ (sY) h_rows)) (ea_c (ev_v 2 (r := rL (rT rI)) (d := nextM prime rows left place row) ⟨l2, vl2, rfl, hl12, liftp (pmono s11 hl2')⟩) ea_0))) ⟨hp, hw, by omega, _, hnx⟩) fun vh2 H13 s13 hvh2 => cs_nil ⟨_, by omega, l2, vl2, vf ++ [y], vn ++ [y2], vh2, some u, some v, some w, some t, some vo, nextM prime rows left place row, found ++ [row], nums ++ [btwM prime rows row row], f - 1, rfl, sY.trans s13, ⟨hl2F, hl2N⟩, ⟨s13 _ _ hl12, pmono s13 (liftp (pmono s11 hl2'))⟩, ⟨s13 _ _ ?_, pmono s13 (pr_app (liftp (pmono (s510.trans s11) hF')) (.cons (lift hy) .nil))⟩, ⟨s13 _ _ upd_same, pr_app hN' (.cons hy2 .nil)⟩, hvh2, hnx, rfl, ⟨by omega, ?_⟩, ?_, ?_⟩
      · rw [upd_ne hFN]
        exact hF12
      · rw [← hsq]
        cases f with
        | zero => omega
        | succ f =>
          conv => rhs; unfold sqL
          rw [hfw]
          rfl
      · rw [List.length_append, List.length_singleton]
        omega
      · rw [List.length_append, List.length_append, List.length_singleton, List.length_singleton]
        omega
    · have hfw : fwM prime rows left = none := by
        cases e : fwM prime rows left with
        | none => rfl
        | some z => rw [e] at q; cases q
      have he : sqM prime rows = (found ++ left, nums ++ List.replicate left.length 0) := by
        rw [← hsq]
        cases f with
        | zero => rfl
        | succ f => unfold sqL; rw [hfw]
      rw [he] at kk
      have hl5 : (rL (rT rI)).rel K H5 (.ref l) left := ⟨l, vl, rfl, s5 _ _ hl, pmono s5 hl'⟩
      refine cs_ret (x := (found ++ left, nums ++ List.replicate left.length 0)) (ev_2 (ev_tupL (m_tuple T) (ev_cat (ev_v 3 (r := rL (rT rI)) (d := found) ⟨F, vf, rfl, s5 _ _ hF, pmono s5 hF'⟩) (ev_v 2 hl5) (by omega))) (ev_cat (ev_v 4 (r := rL rI) (d := nums) ⟨N, vn, rfl, s5 _ _ hN, pmono s5 hN'⟩) (Ev.is (ev_repL (k := (left.length : Int)) (ev_L1 ev_i) (ev_lenL (m_len T) (ev_v 2 hl5)) (by omega)) (by rw [Int.toNat_natCast])) (by rw [List.length_replicate]; omega))) fun y H6 s6 hy => kk y H6 ((sH'.trans s5).trans s6) hy
end K06
/-! ==== DI ==== -/
set_option Elab.async false
set_option linter.all false
set_option maxRecDepth 100000
set_option maxHeartbeats 4000000
namespace K06
open PySem L2 PySem.Spec PyProof.Rows RZ

abbrev sp_told_last (K : Fr) : Sp := spF (aC (rI) (aC (rI) (a0))) (fun (prime, sign, _) => P357 prime) (rI) (fun (prime, sign, _) => tldM prime sign) K
theorem sc_told_last : FnScope ["prime", "sign"] ["prime", "sign"] (defScope (top 63)) := ⟨rfl, rfl, rfl, by decide +kernel, rfl, by decide +kernel, by decide +kernel⟩
theorem df_told_last {P : Program} {w : World} {K : Fr} {mg : Str → Option Value} {base : Heap} (T : Tx K mg) : Df P w K mg base 4 "told_last" ["prime", "sign"] (sp_told_last K) := by
  have D_odd_of := df_odd_of (P := P) (w := w) (base := base) T
  obtain ⟨fd, F⟩ := T.dx 49 (d := d49) rfl
  refine ⟨_, fd, T.gl 43 rfl, F.kp, F.bindsN (fun _ _ _ _ _ _ us hl => match us, hl with | [_, _], _ => rfl), ?_⟩
  refine F.ok sc_told_last (fun vs H Q E h => ?_) (fun cdv A outer s H vs Q E hr h => ⟨_, PSs.nox cS_pss, ?_⟩)
  · obtain ⟨⟨prime, sign, u_end⟩, ⟨v_prime, _, rfl, h_prime, ⟨v_sign, _, rfl, h_sign, h_end⟩⟩, g⟩ := h
    cases h_end
    rfl
  · obtain ⟨⟨prime, sign, u_end⟩, ⟨v_prime, _, rfl, h_prime, ⟨v_sign, _, rfl, h_sign, h_end⟩⟩, g, kk⟩ := h
    cases h_end
    replace h_prime : Rp.rel (rI) K H v_prime prime := h_prime
    replace h_sign : Rp.rel (rI) K H v_sign sign := h_sign
    replace g : P357 prime := g
    replace kk : ∀ v H2, Same H H2 → Rp.rel (rI) K H2 v (tldM prime sign) → Q v H2 := kk
    have hb := g.b
    refine cs_ret ?_ fun v H1 s1 hv => kk v H1 s1 hv
    exact ev_if (et_eq (ev_v 1 h_sign) ev_i) (fun q => Ev.is ev_i (by unfold tldM; rw [if_pos (of_decide_eq_true q)])) fun q => ev_call D_odd_of (hr.mono (by decide)) (ea_c (ev_v 0 h_prime) ea_0) ⟨by unfold P357 at g; omega, odd_pos g⟩ (hy := by unfold tldM; rw [if_neg (of_decide_eq_false q)])
abbrev sp_kind_in (K : Fr) : Sp := spF (aC (rI) (aC (rT (rT rI)) (a0))) (fun (prime, rows, _) => P357 prime ∧ SqOk prime rows) (r3 rI rI rI) (fun (prime, rows, _) => kindM prime rows) K
theorem sc_kind_in : FnScope ["prime", "rows", "numbers", "rest", "sign", "number"] ["prime", "rows"] (defScope (top 64)) := ⟨rfl, rfl, rfl, by decide +kernel, rfl, by decide +kernel, by decide +kernel⟩
theorem df_kind_in {P : Program} {w : World} {K : Fr} {mg : Str → Option Value} {base : Heap} (T : Tx K mg) : Df P w K mg base 7 "kind_in" ["prime", "rows"] (sp_kind_in K) := by
  have D_sign_of := df_sign_of (P := P) (w := w) (base := base) T
  have D_squares_of := df_squares_of (P := P) (w := w) (base := base) T
  obtain ⟨fd, F⟩ := T.dx 50 (d := d50) rfl
  refine ⟨_, fd, T.gl 44 rfl, F.kp, F.bindsN (fun _ _ _ _ _ _ us hl => match us, hl with | [_, _], _ => rfl), ?_⟩
  refine F.ok sc_kind_in (fun vs H Q E h => ?_) (fun cdv A outer s H vs Q E hr h => ⟨_, PSs.nox cS_pss, ?_⟩)
  · obtain ⟨⟨prime, rows, u_end⟩, ⟨v_prime, _, rfl, h_prime, ⟨v_rows, _, rfl, h_rows, h_end⟩⟩, g⟩ := h
    cases h_end
    rfl
  · obtain ⟨⟨prime, rows, u_end⟩, ⟨v_prime, _, rfl, h_prime, ⟨v_rows, _, rfl, h_rows, h_end⟩⟩, g, kk⟩ := h
    cases h_end
    replace h_prime : Rp.rel (rI) K H v_prime prime := h_prime
    replace h_rows : Rp.rel (rT (rT rI)) K H v_rows rows := h_rows
    replace g : P357 prime ∧ SqOk prime rows := g
    replace kk : ∀ v H2, Same H H2 → Rp.rel (r3 rI rI rI) K H2 v (kindM prime rows) → Q v H2 := kk
    have hb := g.1.b
    refine cs_set1f (f := fun x => x) (cf := fun r => !decide (r = 0)) (xs := (sqM prime rows).2) (q := rI) (i := 2) (j := 3) sc_kind_in.nd rfl (src_L (ev_p1 (x := sqM prime rows) (ev_call D_squares_of (hr.mono (by decide)) (y := sqM prime rows) (ea_c (ev_v 0 h_prime) (ea_c (ev_v 1 h_rows) ea_0)) ⟨hb, g.2⟩))) (blkOk_by (N := ["prime", "rows", "numbers", "rest", "sign", "number"]) (sc := defScope (top 64)) (by decide +kernel)) ⟨rfl, by first | exact Or.inl rfl | exact Or.inr rfl, by first | exact Or.inr rfl | exact Or.inl rfl⟩ (fun s' Hs C cl fp x hx v H1 s1 hv => et_ne (ev_v 3 hv) ev_i) (fun s' Hs C cl fp x hx _ v H1 s1 hv => ev_v 3 hv) fun v1 H1 s1 hv1 => ?_
    rw [List.map_id'] at hv1
    refine cs_set (i := 4) sc_kind_in.nd rfl ev_i fun v2 H2 s2 hv2 => ?_
    have hnz : ∀ n ∈ numsM prime rows, n ≠ 0 := fun n hn => by
      have := (List.mem_filter.mp hn).2
      simpa using this
    refine cs_for1 (j := 5) sc_kind_in.nd rfl (src_L (xs := numsM prime rows) (ev_v 2 (Rp.mono _ s2 hv1))) (fun _ i σ' H' => ∃ w o, σ' = [some v_prime, some v_rows, some v1, none, some w, o] ∧ rI.rel K H' w (((numsM prime rows).take i).foldl (fun s n => s * sgnM prime n) 1)) (fun H3 s3 => ⟨v2, none, rfl, rI.mono s3 hv2⟩) ?_ ?_
    · rintro H3 s3 i x v σ' H' hx s4 hv ⟨w, o, rfl, hw⟩
      refine cs_set (i := 4) sc_kind_in.nd rfl (ev_mul (ev_v 4 hw) (ev_call D_sign_of (hr.mono (by decide)) (y := sgnM prime x) (ea_c (ev_v 0 (Rp.mono _ ((((s1.trans s2).trans s3).trans s4)) h_prime)) (ea_c (ev_v 5 hv) ea_0)) hb) ?_) fun v3 H4 s5 hv3 => cs_nil ⟨s4.trans s5, v3, some v, rfl, ?_⟩
      · have := sgs_sg (p := prime) ((numsM prime rows).take i) 1 (.inl rfl) fun n hn => hnz n (List.mem_of_mem_take hn)
        unfold Sm
        rcases this with e | e <;> rw [e] <;> decide
      · rw [fold_take _ _ hx]
        exact hv3
    · rintro H3 s3 σ' H' s4 ⟨w, o, rfl, hw⟩
      rw [List.take_length] at hw
      have sA := ((s1.trans s2).trans s3).trans s4
      exact cs_ret (x := kindM prime rows) (ev_3 (ev_lenT (m_len T) (ev_v 1 (Rp.mono _ (sA) h_rows))) (ev_lenL (m_len T) (ev_v 2 (r := rL rI) (d := numsM prime rows) (Rp.mono _ ((s2.trans s3).trans s4) hv1))) (ev_v 4 hw)) fun v H5 s5 hv => kk v H5 (sA.trans s5) hv
abbrev sp_plain_rows (K : Fr) : Sp := spF (aC (rI) (aC (r3 rI rI rI) (a0))) (fun (prime, kind, _) => P357 prime ∧ 0 ≤ kind.2.1 ∧ kind.2.1 ≤ kind.1 ∧ kind.1 ≤ 6) (rT (rT rI)) (fun (prime, kind, _) => plnM prime kind) K
theorem sc_plain_rows : FnScope ["prime", "kind", "size", "rank", "sign", "numbers", "full", "to", "at"] ["prime", "kind"] (defScope (top 65)) := ⟨rfl, rfl, rfl, by decide +kernel, rfl, by decide +kernel, by decide +kernel⟩
theorem df_plain_rows {P : Program} {w : World} {K : Fr} {mg : Str → Option Value} {base : Heap} (T : Tx K mg) : Df P w K mg base 5 "plain_rows" ["prime", "kind"] (sp_plain_rows K) := by
  have D_told_last := df_told_last (P := P) (w := w) (base := base) T
  obtain ⟨fd, F⟩ := T.dx 51 (d := d51) rfl
  refine ⟨_, fd, T.gl 45 rfl, F.kp, F.bindsN (fun _ _ _ _ _ _ us hl => match us, hl with | [_, _], _ => rfl), ?_⟩
  refine F.ok sc_plain_rows (fun vs H Q E h => ?_) (fun cdv A outer s H vs Q E hr h => ⟨_, PSs.nox cS_pss, ?_⟩)
  · obtain ⟨⟨prime, kind, u_end⟩, ⟨v_prime, _, rfl, h_prime, ⟨v_kind, _, rfl, h_kind, h_end⟩⟩, g⟩ := h
    cases h_end
    rfl
  · obtain ⟨⟨prime, kind, u_end⟩, ⟨v_prime, _, rfl, h_prime, ⟨v_kind, _, rfl, h_kind, h_end⟩⟩, g, kk⟩ := h
    cases h_end
    replace h_prime : Rp.rel (rI) K H v_prime prime := h_prime
    replace h_kind : Rp.rel (r3 rI rI rI) K H v_kind kind := h_kind
    replace g : P357 prime ∧ 0 ≤ kind.2.1 ∧ kind.2.1 ≤ kind.1 ∧ kind.1 ≤ 6 := g
    replace kk : ∀ v H2, Same H H2 → Rp.rel (rT (rT rI)) K H2 v (plnM prime kind) → Q v H2 := kk
    obtain ⟨hp, h1, h2, h3⟩ := g
    refine cs_unp3 (i := 2) (j := 3) (m := 4) sc_plain_rows.nd rfl rfl rfl (ev_v 1 h_kind) fun a b c H1 s1 ha hb hc => ?_
    refine cs_set (i := 5) sc_plain_rows.nd rfl (ev_if (x := if kind.2.1 > 0 then List.replicate (kind.2.1 - 1).toNat (1 : Int) ++ [tldM prime kind.2.2] else []) (et_gt (ev_v 3 hb) ev_i) (fun q => Ev.is (ev_cat (ev_repL (ev_L1 ev_i) (ev_sub (ev_v 3 hb) ev_i) (by omega)) (ev_L1 (ev_call D_told_last (hr.mono (by decide)) (y := tldM prime kind.2.2) (ea_c (ev_v 0 (Rp.mono _ (s1) h_prime)) (ea_c (ev_v 4 hc) ea_0)) hp)) ?_) ?_) fun q => Ev.is ev_L0 ?_) fun v2 H2 s2 hv2 => ?_
    · rw [List.length_replicate, List.length_singleton]
      omega
    · rw [if_pos (of_decide_eq_true q)]
    · rw [if_neg (of_decide_eq_false q)]
    have hfl := full_len (p := prime) (sign := kind.2.2) ⟨h1, h2⟩
    refine cs_set (i := 6) sc_plain_rows.nd rfl (x := fullM prime kind.1 kind.2.1 kind.2.2) (ev_cat (ev_v 5 hv2) (ev_repL (ev_L1 ev_i) (ev_sub (ev_v 2 (rI.mono s2 ha)) (ev_v 3 (rI.mono s2 hb))) (by omega)) ?_) fun v3 H3 s3 hv3 => ?_
    · have e := hfl
      unfold fullM at e
      rw [List.length_append] at e
      omega
    have s13 := s2.trans s3
    refine cs_ret (ev_tupL (m_tuple T) (ev_lc1 (q := rT rI) (f := fun a : Int => (ups 0 kind.1.toNat).map fun t : Int => if a = t then (fullM prime kind.1 kind.2.1 kind.2.2).getD a.toNat 0 else 0) sc_plain_rows.nd (j := 8) (src_R1 (m_range T) (ev_v 2 (rI.mono s13 ha)) (by omega)) (blkOk_by (N := ["prime", "kind", "size", "rank", "sign", "numbers", "full", "to", "at"]) (sc := defScope (top 65)) (by decide +kernel)) ⟨rfl, by first | exact Or.inl rfl | exact Or.inr rfl, by first | exact Or.inr rfl | exact Or.inl rfl⟩ fun s' Hs C cl fp x hx v H4 s4 hv => ev_tupL (X := Bk _ _ s' Hs C cl fp) (m_tuple T) (ev_lc1 (q := rI) (f := fun t : Int => if x = t then (fullM prime kind.1 kind.2.1 kind.2.2).getD x.toNat 0 else 0) sc_plain_rows.nd (j := 7) (src_R1 (m_range T) (ev_v 2 (rI.mono (s13.trans s4) ha)) (by omega)) (blkOk_by (N := ["prime", "kind", "size", "rank", "sign", "numbers", "full", "to", "at"]) (sc := relS _ (defScope (top 65))) (by decide +kernel)) ⟨rfl, by first | exact Or.inl rfl | exact Or.inr rfl, by first | exact Or.inr rfl | exact Or.inl rfl⟩ fun s'' Hs' C' cl' fp' y hy w H5 s5 hw => ev_if (et_eq (ev_v 8 (rI.mono s5 hv)) (ev_v 7 hw)) (fun q => Ev.is (ev_ixLd (d := 0) (ev_v 6 (Rp.mono _ (s4.trans s5) hv3)) (ev_v 8 (rI.mono s5 hv)) ?_) ?_) fun q => Ev.is ev_i ?_))) fun v H4 s4 hv => kk v H4 (((s1.trans s2).trans s3).trans s4) hv
    · have := ups_mem hx
      omega
    · rw [if_pos (of_decide_eq_true q)]
    · rw [if_neg (of_decide_eq_false q)]
abbrev sp_kind_of (K : Fr) : Sp := spF (aC (rR K) (a0)) (fun (room, _) => P357 room.1 ∧ SqOk room.1 room.2) (r3 rI rI rI) (fun (room, _) => kindM room.1 room.2) K
theorem sc_kind_of : FnScope ["room", "here"] ["room"] (defScope (top 66)) := ⟨rfl, rfl, rfl, by decide +kernel, rfl, by decide +kernel, by decide +kernel⟩
theorem df_kind_of {P : Program} {w : World} {K : Fr} {mg : Str → Option Value} {base : Heap} (T : Tx K mg) : Df P w K mg base 8 "kind_of" ["room"] (sp_kind_of K) := by
  have D_kind_in := df_kind_in (P := P) (w := w) (base := base) T
  have D_want_room := df_want_room (P := P) (w := w) (base := base) T
  obtain ⟨fd, F⟩ := T.dx 52 (d := d52) rfl
  refine ⟨_, fd, T.gl 46 rfl, F.kp, F.bindsN (fun _ _ _ _ _ _ us hl => match us, hl with | [_], _ => rfl), ?_⟩
  refine F.ok sc_kind_of (fun vs H Q E h => ?_) (fun cdv A outer s H vs Q E hr h => ⟨_, PSs.nox cS_pss, ?_⟩)
  · obtain ⟨⟨room, u_end⟩, ⟨v_room, _, rfl, h_room, h_end⟩, g⟩ := h
    cases h_end
    rfl
  · obtain ⟨⟨room, u_end⟩, ⟨v_room, _, rfl, h_room, h_end⟩, g, kk⟩ := h
    cases h_end
    replace h_room : Rp.rel (rR K) K H v_room room := h_room
    replace g : P357 room.1 ∧ SqOk room.1 room.2 := g
    replace kk : ∀ v H2, Same H H2 → Rp.rel (r3 rI rI rI) K H2 v (kindM room.1 room.2) → Q v H2 := kk
    refine cs_set (i := 1) sc_kind_of.nd rfl (ev_call D_want_room (hr.mono (by decide)) (y := room) (ea_c (ev_v 0 h_room) ea_0) trivial) fun v1 H1 s1 hv1 => cs_ret (ev_call D_kind_in (hr.mono (by decide)) (ea_c (ev_prime T (ev_v 1 hv1)) (ea_c (ev_rows T (ev_v 1 hv1)) ea_0)) g) fun v H2 s2 hv => kk v H2 (s1.trans s2) hv
abbrev sp_plain_room (K : Fr) : Sp := spF (aC (rR K) (a0)) (fun (room, _) => P357 room.1 ∧ SqOk room.1 room.2) (rR K) (fun (room, _) => (room.1, plnM room.1 (kindM room.1 room.2))) K
theorem sc_plain_room : FnScope ["room", "here"] ["room"] (defScope (top 67)) := ⟨rfl, rfl, rfl, by decide +kernel, rfl, by decide +kernel, by decide +kernel⟩
theorem df_plain_room {P : Program} {w : World} {K : Fr} {mg : Str → Option Value} {base : Heap} (T : Tx K mg) : Df P w K mg base 13 "plain_room" ["room"] (sp_plain_room K) := by
  have D_kind_in := df_kind_in (P := P) (w := w) (base := base) T
  have D_plain_rows := df_plain_rows (P := P) (w := w) (base := base) T
  have D_room_of := df_room_of (P := P) (w := w) (base := base) T
  have D_want_room := df_want_room (P := P) (w := w) (base := base) T
  obtain ⟨fd, F⟩ := T.dx 53 (d := d53) rfl
  refine ⟨_, fd, T.gl 47 rfl, F.kp, F.bindsN (fun _ _ _ _ _ _ us hl => match us, hl with | [_], _ => rfl), ?_⟩
  refine F.ok sc_plain_room (fun vs H Q E h => ?_) (fun cdv A outer s H vs Q E hr h => ⟨_, PSs.nox cS_pss, ?_⟩)
  · obtain ⟨⟨room, u_end⟩, ⟨v_room, _, rfl, h_room, h_end⟩, g⟩ := h
    cases h_end
    rfl
  · obtain ⟨⟨room, u_end⟩, ⟨v_room, _, rfl, h_room, h_end⟩, g, kk⟩ := h
    cases h_end
    replace h_room : Rp.rel (rR K) K H v_room room := h_room
    replace g : P357 room.1 ∧ SqOk room.1 room.2 := g
    replace kk : ∀ v H2, Same H H2 → Rp.rel (rR K) K H2 v ((room.1, plnM room.1 (kindM room.1 room.2))) → Q v H2 := kk
    refine cs_set (i := 1) sc_plain_room.nd rfl (ev_call D_want_room (hr.mono (by decide)) (y := room) (ea_c (ev_v 0 h_room) ea_0) trivial) fun v1 H1 s1 hv1 => cs_ret (ev_call D_room_of (hr.mono (by decide)) (ea_c (ev_prime T (ev_v 1 hv1)) (ea_c (ev_call D_plain_rows (hr.mono (by decide)) (y := plnM room.1 (kindM room.1 room.2)) (ea_c (ev_prime T (ev_v 1 hv1)) (ea_c (ev_call D_kind_in (hr.mono (by decide)) (y := kindM room.1 room.2) (ea_c (ev_prime T (ev_v 1 hv1)) (ea_c (ev_rows T (ev_v 1 hv1)) ea_0)) g) ea_0)) ⟨g.1, (kind_ok (by have := g.1.b; omega) g.2.1).1⟩) ea_0)) trivial) fun v H2 s2 hv => kk v H2 (s1.trans s2) hv
abbrev sp_want_like (K : Fr) : Sp := spF (aC (rR K) (aC (rR K) (a0))) (fun (room, other, _) => room.1 = other.1) (rV .non) (fun (room, other, _) => ()) K
theorem sc_want_like : FnScope ["room", "other"] ["room", "other"] (defScope (top 70)) := ⟨rfl, rfl, rfl, by decide +kernel, rfl, by decide +kernel, by decide +kernel⟩
theorem df_want_like {P : Program} {w : World} {K : Fr} {mg : Str → Option Value} {base : Heap} (T : Tx K mg) : Df P w K mg base 1 "want_like" ["room", "other"] (sp_want_like K) := by
  obtain ⟨fd, F⟩ := T.dx 54 (d := d54) rfl
  refine ⟨_, fd, T.gl 48 rfl, F.kp, F.bindsN (fun _ _ _ _ _ _ us hl => match us, hl with | [_, _], _ => rfl), ?_⟩
  refine F.ok sc_want_like (fun vs H Q E h => ?_) (fun cdv A outer s H vs Q E hr h => ⟨_, PSs.nox cS_pss, ?_⟩)
  · obtain ⟨⟨room, other, u_end⟩, ⟨v_room, _, rfl, h_room, ⟨v_other, _, rfl, h_other, h_end⟩⟩, g⟩ := h
    cases h_end
    rfl
  · obtain ⟨⟨room, other, u_end⟩, ⟨v_room, _, rfl, h_room, ⟨v_other, _, rfl, h_other, h_end⟩⟩, g, kk⟩ := h
    cases h_end
    replace h_room : Rp.rel (rR K) K H v_room room := h_room
    replace h_other : Rp.rel (rR K) K H v_other other := h_other
    replace g : room.1 = other.1 := g
    replace kk : ∀ v H2, Same H H2 → Rp.rel (rV .non) K H2 v (()) → Q v H2 := kk
    refine cs_skip (EvT.is (et_ne (ev_prime T (ev_v 0 h_room)) (ev_prime T (ev_v 1 h_other))) (by rw [decide_eq_true g]; rfl)) fun H1 s1 => cs_nil (kk .non H1 s1 rfl)
abbrev sp_beside (K : Fr) : Sp := spF (aC (rR K) (aC (rR K) (a0))) (fun (room, other, _) => room.1 = other.1 ∧ room.2.length + other.2.length ≤ 6 ∧ (∀ row ∈ room.2, row.length ≤ 6) ∧ ∀ row ∈ other.2, row.length ≤ 6) (rR K) (fun (room, other, _) => (room.1, bsdM room.2 other.2)) K
theorem sc_beside : FnScope ["room", "other", "here", "there", "ahead", "behind", "rows", "row"] ["room", "other"] (defScope (top 71)) := ⟨rfl, rfl, rfl, by decide +kernel, rfl, by decide +kernel, by decide +kernel⟩
theorem fn_beside {P : Program} {w : World} {K : Fr} {mg : Str → Option Value} {base : Heap} (T : Tx K mg) : ∃ fd, FunD K d55.name d55.qual d55.params d55.body d55.scope [] [] (d55.at_ K) fd ∧ FnOk P w K mg base CX0 13 (d55.at_ K) fd ["room", "other"] (sp_beside K) := by
  have D_room_of := df_room_of (P := P) (w := w) (base := base) T
  have D_want_at_most := df_want_at_most (P := P) (w := w) (base := base) T
  have D_want_like := df_want_like (P := P) (w := w) (base := base) T
  have D_want_room := df_want_room (P := P) (w := w) (base := base) T
  have M_Room_size := mt_Room_size (P := P) (w := w) (base := base) T
  obtain ⟨fd, F⟩ := T.dx 55 (d := d55) rfl
  refine ⟨fd, F, ?_⟩
  refine F.ok sc_beside (fun vs H Q E h => ?_) (fun cdv A outer s H vs Q E hr h => ⟨_, PSs.nox cS_pss, ?_⟩)
  · obtain ⟨⟨room, other, u_end⟩, ⟨v_room, _, rfl, h_room, ⟨v_other, _, rfl, h_other, h_end⟩⟩, g⟩ := h
    cases h_end
    rfl
  · obtain ⟨⟨room, other, u_end⟩, ⟨v_room, _, rfl, h_room, ⟨v_other, _, rfl, h_other, h_end⟩⟩, g, kk⟩ := h
    cases h_end
    replace h_room : Rp.rel (rR K) K H v_room room := h_room
    replace h_other : Rp.rel (rR K) K H v_other other := h_other
    replace g : room.1 = other.1 ∧ room.2.length + other.2.length ≤ 6 ∧ (∀ row ∈ room.2, row.length ≤ 6) ∧ ∀ row ∈ other.2, row.length ≤ 6 := g
    replace kk : ∀ v H2, Same H H2 → Rp.rel (rR K) K H2 v ((room.1, bsdM room.2 other.2)) → Q v H2 := kk
    obtain ⟨h1, h2, h3, h4⟩ := g
    refine cs_set (i := 2) sc_beside.nd rfl (ev_call D_want_room (hr.mono (by decide)) (y := room) (ea_c (ev_v 0 h_room) ea_0) trivial) fun v1 H1 s1 hv1 => ?_
    refine cs_set (i := 3) sc_beside.nd rfl (ev_call D_want_room (hr.mono (by decide)) (y := other) (ea_c (ev_v 1 (Rp.mono _ (s1) h_other)) ea_0) trivial) fun v2 H2 s2 hv2 => ?_
    refine cs_drop (ev_call D_want_like (hr.mono (by decide)) (ea_c (ev_v 2 (Rp.mono _ s2 hv1)) (ea_c (ev_v 3 hv2) ea_0)) h1) fun H3 s3 => ?_
    have hh : ∀ {H4 : Hp}, Same H3 H4 → (rR K).rel K H4 v1 room := fun s => Rp.mono _ ((s2.trans s3).trans s) hv1
    have ht : ∀ {H4 : Hp}, Same H3 H4 → (rR K).rel K H4 v2 other := fun s => Rp.mono _ (s3.trans s) hv2
    have pS : PropOf K (cR K) "size" (mA "Room" "size" K) (pA "Room" "size" K) := pro_ok (T.ex 2 (f := fun K => proB (cR K) "size" (mA "Room" "size" K) (pA "Room" "size" K) K) rfl)
    refine cs_drop (ev_call D_want_at_most (hr.mono (by decide)) (x := ((), 6, (room.2.length : Int) + (other.2.length : Int), ())) (ea_c ev_str (ea_c (ev_gi (n := 6) (T.it 101 rfl)) (ea_c (ev_add (ev_prop T M_Room_size pS (hr.mono (by decide)) (ev_v 2 (hh (Same.refl _))) trivial) (ev_prop T M_Room_size pS (hr.mono (by decide)) (ev_v 3 (ht (Same.refl _))) trivial)) ea_0))) (show (room.2.length : Int) + (other.2.length : Int) ≤ 6 by omega)) fun H4 s4 => ?_
    refine cs_unpE (r := rT rI) (q := rT rI) (x := List.replicate room.2.length (0 : Int)) (w := List.replicate other.2.length (0 : Int)) (i := 4) (j := 5) sc_beside.nd rfl rfl (Ev.is (ev_repT (ev_T1 ev_i) (ev_prop (y := (room.2.length : Int)) T M_Room_size pS (hr.mono (by decide)) (ev_v 2 (hh s4)) trivial) (by omega)) (by rw [Int.toNat_natCast])) (Ev.is (ev_repT (ev_T1 ev_i) (ev_prop (y := (other.2.length : Int)) T M_Room_size pS (hr.mono (by decide)) (ev_v 3 (ht s4)) trivial) (by omega)) (by rw [Int.toNat_natCast])) fun a b H5 s5 ha hb => ?_
    refine cs_set (i := 6) sc_beside.nd rfl (x := bsdM room.2 other.2) (ev_cat (ev_lc1 (q := rT rI) (f := fun row => row ++ List.replicate other.2.length (0 : Int)) (j := 7) sc_beside.nd (src_T (ev_rows T (ev_v 2 (hh (s4.trans s5))))) (blkOk_by (N := ["room", "other", "here", "there", "ahead", "behind", "rows", "row"]) (sc := defScope (top 71)) (by decide +kernel)) ⟨rfl, by first | exact Or.inl rfl | exact Or.inr rfl, by first | exact Or.inr rfl | exact Or.inl rfl⟩ fun s' Hs C cl fp x hx v H6 s6 hv => ev_catT (ev_v 7 hv) (ev_v 5 ((rT rI).mono s6 hb)) ?_) (ev_lc1 (q := rT rI) (f := fun row => List.replicate room.2.length (0 : Int) ++ row) (j := 7) sc_beside.nd (src_T (ev_rows T (ev_v 3 (ht (s4.trans s5))))) (blkOk_by (N := ["room", "other", "here", "there", "ahead", "behind", "rows", "row"]) (sc := defScope (top 71)) (by decide +kernel)) ⟨rfl, by first | exact Or.inl rfl | exact Or.inr rfl, by first | exact Or.inr rfl | exact Or.inl rfl⟩ fun s' Hs C cl fp x hx v H6 s6 hv => ev_catT (ev_v 4 ((rT rI).mono s6 ha)) (ev_v 7 hv) ?_) ?_) fun v7 H7 s7 hv7 => ?_
    · have := h3 x hx
      rw [List.length_replicate]
      omega
    · have := h4 x hx
      rw [List.length_replicate]
      omega
    · rw [List.length_map, List.length_map]
      omega
    refine cs_ret (ev_call D_room_of (hr.mono (by decide)) (ea_c (ev_prime T (ev_v 2 (hh ((s4.trans s5).trans s7)))) (ea_c (ev_tupL (m_tuple T) (ev_v 6 hv7)) ea_0)) trivial) fun v H8 s8 hv => kk v H8 ((((((s1.trans s2).trans s3).trans s4).trans s5).trans s7).trans s8) hv
theorem df_beside {P : Program} {w : World} {K : Fr} {mg : Str → Option Value} {base : Heap} (T : Tx K mg) : Df P w K mg base 13 "beside" ["room", "other"] (sp_beside K) := by
  obtain ⟨fd, F, ok⟩ := fn_beside (P := P) (w := w) (base := base) T
  exact ⟨_, fd, T.gl 49 rfl, F.kp, F.bindsN (fun _ _ _ _ _ _ us hl => match us, hl with | [_, _], _ => rfl), ok⟩
abbrev sp_scaled (K : Fr) : Sp := spF (aC (rR K) (aC (rI) (a0))) (fun (room, rest, _) => (0 < room.1 ∧ room.1 ≤ 1000) ∧ 0 ≤ rest ∧ rest < room.1) (rR K) (fun (room, rest, _) => (room.1, scdM room.1 room.2 rest)) K
theorem sc_scaled : FnScope ["room", "rest", "here", "prime", "number", "row"] ["room", "rest"] (defScope (top 72)) := ⟨rfl, rfl, rfl, by decide +kernel, rfl, by decide +kernel, by decide +kernel⟩
theorem fn_scaled {P : Program} {w : World} {K : Fr} {mg : Str → Option Value} {base : Heap} (T : Tx K mg) : ∃ fd, FunD K d56.name d56.qual d56.params d56.body d56.scope [] [] (d56.at_ K) fd ∧ FnOk P w K mg base CX0 13 (d56.at_ K) fd ["room", "rest"] (sp_scaled K) := by
  have D_room_of := df_room_of (P := P) (w := w) (base := base) T
  have D_want_rest := df_want_rest (P := P) (w := w) (base := base) T
  have D_want_room := df_want_room (P := P) (w := w) (base := base) T
  obtain ⟨fd, F⟩ := T.dx 56 (d := d56) rfl
  refine ⟨fd, F, ?_⟩
  refine F.ok sc_scaled (fun vs H Q E h => ?_) (fun cdv A outer s H vs Q E hr h => ⟨_, PSs.nox cS_pss, ?_⟩)
  · obtain ⟨⟨room, rest, u_end⟩, ⟨v_room, _, rfl, h_room, ⟨v_rest, _, rfl, h_rest, h_end⟩⟩, g⟩ := h
    cases h_end
    rfl
  · obtain ⟨⟨room, rest, u_end⟩, ⟨v_room, _, rfl, h_room, ⟨v_rest, _, rfl, h_rest, h_end⟩⟩, g, kk⟩ := h
    cases h_end
    replace h_room : Rp.rel (rR K) K H v_room room := h_room
    replace h_rest : Rp.rel (rI) K H v_rest rest := h_rest
    replace g : (0 < room.1 ∧ room.1 ≤ 1000) ∧ 0 ≤ rest ∧ rest < room.1 := g
    replace kk : ∀ v H2, Same H H2 → Rp.rel (rR K) K H2 v ((room.1, scdM room.1 room.2 rest)) → Q v H2 := kk
    refine cs_set (i := 2) sc_scaled.nd rfl (ev_call D_want_room (hr.mono (by decide)) (y := room) (ea_c (ev_v 0 h_room) ea_0) trivial) fun v1 H1 s1 hv1 => ?_
    refine cs_set (i := 3) sc_scaled.nd rfl (ev_prime T (ev_v 2 hv1)) fun v2 H2 s2 hv2 => ?_
    refine cs_drop (ev_call D_want_rest (hr.mono (by decide)) (ea_c (ev_v 3 hv2) (ea_c (ev_v 1 (Rp.mono _ (s1.trans s2) h_rest)) ea_0)) g.2) fun H3 s3 => ?_
    refine cs_ret (ev_call D_room_of (hr.mono (by decide)) (y := (room.1, scdM room.1 room.2 rest)) (ea_c (ev_v 3 (rI.mono s3 hv2)) (ea_c (ev_tupL (m_tuple T) (ev_lc1 (q := rT rI) (f := fun row : Rw => row.map fun n : Int => rest * n % room.1) (j := 5) sc_scaled.nd (src_T (ev_rows T (ev_v 2 (Rp.mono _ (s2.trans s3) hv1)))) (blkOk_by (N := ["room", "rest", "here", "prime", "number", "row"]) (sc := defScope (top 72)) (by decide +kernel)) ⟨rfl, by first | exact Or.inl rfl | exact Or.inr rfl, by first | exact Or.inr rfl | exact Or.inl rfl⟩ fun s' Hs C cl fp x hx v H4 s4 hv => ev_tupL (X := Bk _ _ s' Hs C cl fp) (m_tuple T) (ev_lc1 (q := rI) (f := fun n : Int => rest * n % room.1) (j := 4) sc_scaled.nd (src_T (ev_v 5 hv)) (blkOk_by (N := ["room", "rest", "here", "prime", "number", "row"]) (sc := relS _ (defScope (top 72))) (by decide +kernel)) ⟨rfl, by first | exact Or.inl rfl | exact Or.inr rfl, by first | exact Or.inr rfl | exact Or.inl rfl⟩ fun s'' Hs' C' cl' fp' y hy w H5 s5 hw => ev_mod (ev_intI (X := Bk _ _ s'' Hs' C' cl' fp') (m_int T) (ev_mul (ev_v 1 (rI.mono ((((s1.trans s2).trans s3).trans s4).trans s5) h_rest)) (ev_v 4 hw) (sm_of g.2 g.1.2))) (ev_v 3 (rI.mono ((s3.trans s4).trans s5) hv2)) g.1.1))) ea_0)) trivial) fun v H8 s8 hv => kk v H8 (((s1.trans s2).trans s3).trans s8) hv
theorem df_scaled {P : Program} {w : World} {K : Fr} {mg : Str → Option Value} {base : Heap} (T : Tx K mg) : Df P w K mg base 13 "scaled" ["room", "rest"] (sp_scaled K) := by
  obtain ⟨fd, F, ok⟩ := fn_scaled (P := P) (w := w) (base := base) T
  exact ⟨_, fd, T.gl 50 rfl, F.kp, F.bindsN (fun _ _ _ _ _ _ us hl => match us, hl with | [_, _], _ => rfl), ok⟩
abbrev sp_taken_off (K : Fr) : Sp := spF (aC (rR K) (aC (rR K) (a0))) (fun (room, other, _) => room.1 = other.1 ∧ (P357 room.1 ∧ SqOk room.1 room.2) ∧ SqOk other.1 other.2) (rO (rR K)) (fun (room, other, _) => (tofM room.1 room.2 other.2).map fun t => (room.1, t)) K
theorem sc_taken_off : FnScope ["room", "other", "here", "there", "near", "far", "size", "rank", "sign"] ["room", "other"] (defScope (top 73)) := ⟨rfl, rfl, rfl, by decide +kernel, rfl, by decide +kernel, by decide +kernel⟩
theorem fn_taken_off {P : Program} {w : World} {K : Fr} {mg : Str → Option Value} {base : Heap} (T : Tx K mg) : ∃ fd, FunD K d57.name d57.qual d57.params d57.body d57.scope [] [] (d57.at_ K) fd ∧ FnOk P w K mg base CX0 13 (d57.at_ K) fd ["room", "other"] (sp_taken_off K) := by
  have D_kind_in := df_kind_in (P := P) (w := w) (base := base) T
  have D_plain_rows := df_plain_rows (P := P) (w := w) (base := base) T
  have D_room_of := df_room_of (P := P) (w := w) (base := base) T
  have D_want_like := df_want_like (P := P) (w := w) (base := base) T
  have D_want_room := df_want_room (P := P) (w := w) (base := base) T
  obtain ⟨fd, F⟩ := T.dx 57 (d := d57) rfl
  refine ⟨fd, F, ?_⟩
  refine F.ok sc_taken_off (fun vs H Q E h => ?_) (fun cdv A outer s H vs Q E hr h => ⟨_, PSs.nox cS_pss, ?_⟩)
  · obtain ⟨⟨room, other, u_end⟩, ⟨v_room, _, rfl, h_room, ⟨v_other, _, rfl, h_other, h_end⟩⟩, g⟩ := h
    cases h_end
    rfl
  · obtain ⟨⟨room, other, u_end⟩, ⟨v_room, _, rfl, h_room, ⟨v_other, _, rfl, h_other, h_end⟩⟩, g, kk⟩ := h
    cases h_end
    replace h_room : Rp.rel (rR K) K H v_room room := h_room
    replace h_other : Rp.rel (rR K) K H v_other other := h_other
    replace g : room.1 = other.1 ∧ (P357 room.1 ∧ SqOk room.1 room.2) ∧ SqOk other.1 other.2 := g
    replace kk : ∀ v H2, Same H H2 → Rp.rel (rO (rR K)) K H2 v ((tofM room.1 room.2 other.2).map fun t => (room.1, t)) → Q v H2 := kk
    obtain ⟨h1, h2, h3⟩ := g
    have h2' : P357 other.1 := h1 ▸ h2.1
    refine cs_set (i := 2) sc_taken_off.nd rfl (ev_call D_want_room (hr.mono (by decide)) (y := room) (ea_c (ev_v 0 h_room) ea_0) trivial) fun v1 H1 s1 hv1 => ?_
    refine cs_set (i := 3) sc_taken_off.nd rfl (ev_call D_want_room (hr.mono (by decide)) (y := other) (ea_c (ev_v 1 (Rp.mono _ (s1) h_other)) ea_0) trivial) fun v2 H2 s2 hv2 => ?_
    refine cs_drop (ev_call D_want_like (hr.mono (by decide)) (ea_c (ev_v 2 (Rp.mono _ s2 hv1)) (ea_c (ev_v 3 hv2) ea_0)) h1) fun H3 s3 => ?_
    have hh : ∀ {H4 : Hp}, Same H3 H4 → (rR K).rel K H4 v1 room := fun s => Rp.mono _ ((s2.trans s3).trans s) hv1
    have ht : ∀ {H4 : Hp}, Same H3 H4 → (rR K).rel K H4 v2 other := fun s => Rp.mono _ (s3.trans s) hv2
    refine cs_par (i := 4) (j := 5) sc_taken_off.nd rfl rfl (by decide) (ev_call D_kind_in (hr.mono (by decide)) (y := kindM room.1 room.2) (ea_c (ev_prime T (ev_v 2 (hh (Same.refl _)))) (ea_c (ev_rows T (ev_v 2 (hh (Same.refl _)))) ea_0)) h2) (ev_call D_kind_in (hr.mono (by decide)) (y := kindM room.1 other.2) (hy := by rw [h1]) (ea_c (ev_prime T (ev_v 3 (ht (Same.refl _)))) (ea_c (ev_rows T (ev_v 3 (ht (Same.refl _)))) ea_0)) ⟨h2', h3⟩) fun a b H4 s4 ha hb => ?_
    have k1 := kind_ok (p := room.1) h2.1.b.1 h2.2.1
    have k2 := kind_ok (p := room.1) h2.1.b.1 h3.1
    have etof : tofM room.1 room.2 other.2 = if (tofK (kindM room.1 room.2) (kindM room.1 other.2)).2.1 < 0 ∨ (tofK (kindM room.1 room.2) (kindM room.1 other.2)).1 < (tofK (kindM room.1 room.2) (kindM room.1 other.2)).2.1 ∨ ((tofK (kindM room.1 room.2) (kindM room.1 other.2)).2.1 = 0 ∧ ¬ (tofK (kindM room.1 room.2) (kindM room.1 other.2)).2.2 = 1) then none else some (plnM room.1 (tofK (kindM room.1 room.2) (kindM room.1 other.2))) := rfl
    rw [etof] at kk
    generalize kindM room.1 room.2 = A' at ha k1 kk
    generalize kindM room.1 other.2 = B' at hb k2 kk
    refine cs_par3 (i := 6) (j := 7) (l := 8) (x := A'.1 - B'.1) (x2 := A'.2.1 - B'.2.1) (x3 := A'.2.2 * B'.2.2) sc_taken_off.nd rfl rfl rfl (by decide) (by decide) (by decide) (ev_sub (ev_t0 (ev_v 4 ha)) (ev_t0 (ev_v 5 hb))) (ev_sub (ev_t1 (ev_v 4 ha)) (ev_t1 (ev_v 5 hb))) (ev_mul (ev_t2 (ev_v 4 ha)) (ev_t2 (ev_v 5 hb)) ?_) fun u v t H5 s5 hu hv ht5 => ?_
    · unfold Sm
      rcases k1.2 with e | e <;> rw [e] <;> decide
    have s15 := (((s1.trans s2).trans s3).trans s4).trans s5
    refine cs_if (k := decide (A'.2.1 - B'.2.1 < 0) || (decide (A'.1 - B'.1 < A'.2.1 - B'.2.1) || (decide (A'.2.1 - B'.2.1 = 0) && !decide (A'.2.2 * B'.2.2 = 1)))) (et_w (ew_or (et_lt (ev_v 7 hv) ev_i) fun _ => ew_or (et_lt (ev_v 6 hu) (ev_v 7 hv)) fun _ => ew_or1 (et_w (ew_and (et_eq (ev_v 7 hv) ev_i) fun _ => ew_and1 (et_ne (ev_v 8 ht5) ev_i))))) (fun q H6 s6 => ?_) fun q H6 s6 => cs_nil ?_
    · have hc : (tofK A' B').2.1 < 0 ∨ (tofK A' B').1 < (tofK A' B').2.1 ∨ ((tofK A' B').2.1 = 0 ∧ ¬ (tofK A' B').2.2 = 1) := by simpa [tofK] using q
      rw [if_pos hc] at kk
      exact cs_ret ev_none fun v H7 s7 hv => kk v H7 ((s15.trans s6).trans s7) hv
    · have hc : ¬ ((tofK A' B').2.1 < 0 ∨ (tofK A' B').1 < (tofK A' B').2.1 ∨ ((tofK A' B').2.1 = 0 ∧ ¬ (tofK A' B').2.2 = 1)) := fun hc => by
        have : (decide (A'.2.1 - B'.2.1 < 0) || (decide (A'.1 - B'.1 < A'.2.1 - B'.2.1) || (decide (A'.2.1 - B'.2.1 = 0) && !decide (A'.2.2 * B'.2.2 = 1)))) = true := by simpa [tofK] using hc
        rw [q] at this
        cases this
      rw [if_neg hc] at kk
      have h0 : ¬ (A'.2.1 - B'.2.1 < 0) := fun e => hc (.inl e)
      have h1' : ¬ (A'.1 - B'.1 < A'.2.1 - B'.2.1) := fun e => hc (.inr (.inl e))
      have hk1 := k1.1
      have hk2 := k2.1
      refine cs_ret (ev_call D_room_of (hr.mono (by decide)) (y := (room.1, plnM room.1 (tofK A' B'))) (ea_c (ev_prime T (ev_v 2 (hh ((s4.trans s5).trans s6)))) (ea_c (ev_call D_plain_rows (hr.mono (by decide)) (y := plnM room.1 (tofK A' B')) (ea_c (ev_prime T (ev_v 2 (hh ((s4.trans s5).trans s6)))) (ea_c (ev_3 (ev_v 6 (rI.mono s6 hu)) (ev_v 7 (rI.mono s6 hv)) (ev_v 8 (rI.mono s6 ht5))) ea_0)) ⟨h2.1, by show 0 ≤ A'.2.1 - B'.2.1; omega, by show A'.2.1 - B'.2.1 ≤ A'.1 - B'.1; omega, by show A'.1 - B'.1 ≤ 6; omega⟩) ea_0)) trivial) fun v H7 s7 hv => kk v H7 ((s15.trans s6).trans s7) ⟨?_, hv⟩
      obtain ⟨z, _, _, e, _⟩ := hv
      rw [e]
      exact fun e => nomatch e
theorem df_taken_off {P : Program} {w : World} {K : Fr} {mg : Str → Option Value} {base : Heap} (T : Tx K mg) : Df P w K mg base 13 "taken_off" ["room", "other"] (sp_taken_off K) := by
  obtain ⟨fd, F, ok⟩ := fn_taken_off (P := P) (w := w) (base := base) T
  exact ⟨_, fd, T.gl 51 rfl, F.kp, F.bindsN (fun _ _ _ _ _ _ us hl => match us, hl with | [_, _], _ => rfl), ok⟩
abbrev sp_are_beside (K : Fr) : Sp := spF (aC (rR K) (aC (rR K) (a0))) (fun (here, there, _) => here.1 = there.1) (rB) (fun (here, there, _) => decide (here.2.length = there.2.length)) K
theorem sc_are_beside : FnScope ["here", "there"] ["here", "there"] (defScope (top 75)) := ⟨rfl, rfl, rfl, by decide +kernel, rfl, by decide +kernel, by decide +kernel⟩
theorem df_are_beside {P : Program} {w : World} {K : Fr} {mg : Str → Option Value} {base : Heap} (T : Tx K mg) : Df P w K mg base 1 "are_beside" ["here", "there"] (sp_are_beside K) := by
  obtain ⟨fd, F⟩ := T.dx 58 (d := d58) rfl
  refine ⟨_, fd, T.gl 52 rfl, F.kp, F.bindsN (fun _ _ _ _ _ _ us hl => match us, hl with | [_, _], _ => rfl), ?_⟩
  refine F.ok sc_are_beside (fun vs H Q E h => ?_) (fun cdv A outer s H vs Q E hr h => ⟨_, PSs.nox cS_pss, ?_⟩)
  · obtain ⟨⟨here, there, u_end⟩, ⟨v_here, _, rfl, h_here, ⟨v_there, _, rfl, h_there, h_end⟩⟩, g⟩ := h
    cases h_end
    rfl
  · obtain ⟨⟨here, there, u_end⟩, ⟨v_here, _, rfl, h_here, ⟨v_there, _, rfl, h_there, h_end⟩⟩, g, kk⟩ := h
    cases h_end
    replace h_here : Rp.rel (rR K) K H v_here here := h_here
    replace h_there : Rp.rel (rR K) K H v_there there := h_there
    replace g : here.1 = there.1 := g
    replace kk : ∀ v H2, Same H H2 → Rp.rel (rB) K H2 v (decide (here.2.length = there.2.length)) → Q v H2 := kk
    refine cs_ret ?_ fun v H1 s1 hv => kk v H1 s1 hv
    refine Ev.is (ev_and (ev_eq (ev_prime T (ev_v 0 h_here)) (ev_prime T (ev_v 1 h_there))) fun _ => ev_one (ev_eq (ev_lenT (m_len T) (ev_rows T (ev_v 0 h_here))) (ev_lenT (m_len T) (ev_rows T (ev_v 1 h_there))))) ?_
    rw [decide_eq_true g, Bool.true_and]
    exact decide_eq_decide.mpr (by omega)
abbrev sp_alike (K : Fr) : Sp := spF (aC (rR K) (aC (rR K) (a0))) (fun (room, other, _) => room.1 = other.1 ∧ (P357 room.1 ∧ SqOk room.1 room.2) ∧ SqOk other.1 other.2) (rB) (fun (room, other, _) => decide (kindM room.1 room.2 = kindM other.1 other.2)) K
theorem sc_alike : FnScope ["room", "other", "here", "there"] ["room", "other"] (defScope (top 76)) := ⟨rfl, rfl, rfl, by decide +kernel, rfl, by decide +kernel, by decide +kernel⟩
theorem df_alike {P : Program} {w : World} {K : Fr} {mg : Str → Option Value} {base : Heap} (T : Tx K mg) : Df P w K mg base 8 "alike" ["room", "other"] (sp_alike K) := by
  have D_are_beside := df_are_beside (P := P) (w := w) (base := base) T
  have D_kind_in := df_kind_in (P := P) (w := w) (base := base) T
  have D_want_room := df_want_room (P := P) (w := w) (base := base) T
  obtain ⟨fd, F⟩ := T.dx 59 (d := d59) rfl
  refine ⟨_, fd, T.gl 53 rfl, F.kp, F.bindsN (fun _ _ _ _ _ _ us hl => match us, hl with | [_, _], _ => rfl), ?_⟩
  refine F.ok sc_alike (fun vs H Q E h => ?_) (fun cdv A outer s H vs Q E hr h => ⟨_, PSs.nox cS_pss, ?_⟩)
  · obtain ⟨⟨room, other, u_end⟩, ⟨v_room, _, rfl, h_room, ⟨v_other, _, rfl, h_other, h_end⟩⟩, g⟩ := h
    cases h_end
    rfl
  · obtain ⟨⟨room, other, u_end⟩, ⟨v_room, _, rfl, h_room, ⟨v_other, _, rfl, h_other, h_end⟩⟩, g, kk⟩ := h
    cases h_end
    replace h_room : Rp.rel (rR K) K H v_room room := h_room
    replace h_other : Rp.rel (rR K) K H v_other other := h_other
    replace g : room.1 = other.1 ∧ (P357 room.1 ∧ SqOk room.1 room.2) ∧ SqOk other.1 other.2 := g
    replace kk : ∀ v H2, Same H H2 → Rp.rel (rB) K H2 v (decide (kindM room.1 room.2 = kindM other.1 other.2)) → Q v H2 := kk
    obtain ⟨h1, h2, h3⟩ := g
    refine cs_set (i := 2) sc_alike.nd rfl (ev_call D_want_room (hr.mono (by decide)) (y := room) (ea_c (ev_v 0 h_room) ea_0) trivial) fun v1 H1 s1 hv1 => ?_
    refine cs_set (i := 3) sc_alike.nd rfl (ev_call D_want_room (hr.mono (by decide)) (y := other) (ea_c (ev_v 1 (Rp.mono _ (s1) h_other)) ea_0) trivial) fun v2 H2 s2 hv2 => ?_
    refine cs_if (k := !decide (room.2.length = other.2.length)) (et_not (et_val (ev_call D_are_beside (hr.mono (by decide)) (ea_c (ev_v 2 (Rp.mono _ s2 hv1)) (ea_c (ev_v 3 hv2) ea_0)) h1))) (fun q H3 s3 => cs_ret ev_bl fun v H4 s4 hv => kk v H4 (((s1.trans s2).trans s3).trans s4) ?_) fun q H3 s3 => cs_nil (cs_ret (ev_deq (r := r3 rI rI rI) hr.units (ev_call D_kind_in (hr.mono (by decide)) (y := kindM room.1 room.2) (ea_c (ev_prime T (ev_v 2 (Rp.mono _ (s2.trans s3) hv1))) (ea_c (ev_rows T (ev_v 2 (Rp.mono _ (s2.trans s3) hv1))) ea_0)) h2) (ev_call D_kind_in (hr.mono (by decide)) (y := kindM other.1 other.2) (ea_c (ev_prime T (ev_v 3 (Rp.mono _ s3 hv2))) (ea_c (ev_rows T (ev_v 3 (Rp.mono _ s3 hv2))) ea_0)) ⟨h1 ▸ h2.1, h3⟩)) fun v H4 s4 hv => kk v H4 (((s1.trans s2).trans s3).trans s4) hv)
    have e : decide (kindM room.1 room.2 = kindM other.1 other.2) = false := decide_eq_false fun e => by
      have e1 := congrArg Prod.fst e
      have e2 : (room.2.length : Int) = (other.2.length : Int) := e1
      have e3 : room.2.length = other.2.length := by omega
      rw [decide_eq_true e3] at q
      cases q
    rw [e]
    exact hv
end K06
/-! ==== DJ ==== -/
set_option Elab.async false
set_option linter.all false
set_option maxRecDepth 100000
set_option maxHeartbeats 4000000
namespace K06
open PySem L2 PySem.Spec PyProof.Rows RZ

abbrev sp_pairs_in (K : Fr) : Sp := spF (aC (rR K) (a0)) (fun (room, _) => P357 room.1 ∧ SqOk room.1 room.2) (rI) (fun (room, _) => prsK room.1 (kindM room.1 room.2)) K
theorem sc_pairs_in : FnScope ["room", "size", "rank", "sign", "half", "good"] ["room"] (defScope (top 78)) := ⟨rfl, rfl, rfl, by decide +kernel, rfl, by decide +kernel, by decide +kernel⟩
theorem df_pairs_in {P : Program} {w : World} {K : Fr} {mg : Str → Option Value} {base : Heap} (T : Tx K mg) : Df P w K mg base 8 "pairs_in" ["room"] (sp_pairs_in K) := by
  have D_kind_in := df_kind_in (P := P) (w := w) (base := base) T
  have D_sign_of := df_sign_of (P := P) (w := w) (base := base) T
  obtain ⟨fd, F⟩ := T.dx 60 (d := d60) rfl
  refine ⟨_, fd, T.gl 54 rfl, F.kp, F.bindsN (fun _ _ _ _ _ _ us hl => match us, hl with | [_], _ => rfl), ?_⟩
  refine F.ok sc_pairs_in (fun vs H Q E h => ?_) (fun cdv A outer s H vs Q E hr h => ⟨_, PSs.nox cS_pss, ?_⟩)
  · obtain ⟨⟨room, u_end⟩, ⟨v_room, _, rfl, h_room, h_end⟩, g⟩ := h
    cases h_end
    rfl
  · obtain ⟨⟨room, u_end⟩, ⟨v_room, _, rfl, h_room, h_end⟩, g, kk⟩ := h
    cases h_end
    replace h_room : Rp.rel (rR K) K H v_room room := h_room
    replace g : P357 room.1 ∧ SqOk room.1 room.2 := g
    replace kk : ∀ v H2, Same H H2 → Rp.rel (rI) K H2 v (prsK room.1 (kindM room.1 room.2)) → Q v H2 := kk
    refine cs_unp3 (i := 1) (j := 2) (m := 3) (x := kindM room.1 room.2) sc_pairs_in.nd rfl rfl rfl (ev_call D_kind_in (hr.mono (by decide)) (ea_c (ev_prime T (ev_v 0 h_room)) (ea_c (ev_rows T (ev_v 0 h_room)) ea_0)) g) fun a b c H1 s1 ha hb hc => ?_
    generalize kindM room.1 room.2 = k at ha hb hc kk
    refine cs_set (i := 4) sc_pairs_in.nd rfl (ev_div (ev_v 2 hb) ev_i (by decide)) fun v1 H2 s2 hv1 => ?_
    refine cs_if (et_eq (ev_mod (ev_v 2 (rI.mono s2 hb)) ev_i (by decide)) ev_i) (fun q H3 s3 => cs_ret (ev_v 4 (rI.mono s3 hv1)) fun v H4 s4 hv => kk v H4 (((s1.trans s2).trans s3).trans s4) ?_) fun q H3 s3 => cs_nil ?_
    · unfold prsK
      rw [if_pos (of_decide_eq_true q)]
      exact hv
    have s13 := (s1.trans s2).trans s3
    refine cs_set (i := 5) sc_pairs_in.nd rfl (x := if k.2.1 / 2 % 2 = 0 then 1 else sgnM room.1 (room.1 - 1)) (ev_if (et_eq (ev_mod (ev_v 4 (rI.mono s3 hv1)) ev_i (by decide)) ev_i) (fun q => Ev.is ev_i (by rw [if_pos (of_decide_eq_true q)])) fun q => ev_call D_sign_of (hr.mono (by decide)) (hy := by rw [if_neg (of_decide_eq_false q)]) (ea_c (ev_prime T (ev_v 0 (Rp.mono _ (s13) h_room))) (ea_c (ev_sub (ev_prime T (ev_v 0 (Rp.mono _ (s13) h_room))) ev_i) ea_0)) g.1.b) fun v4 H4 s4 hv4 => ?_
    have e : prsK room.1 k = if k.2.2 = (if k.2.1 / 2 % 2 = 0 then 1 else sgnM room.1 (room.1 - 1)) then k.2.1 / 2 else k.2.1 / 2 - 1 := by
      unfold prsK
      rw [if_neg (of_decide_eq_false q)]
    rw [e] at kk
    generalize (if k.2.1 / 2 % 2 = 0 then 1 else sgnM room.1 (room.1 - 1)) = good at hv4 kk
    exact cs_ret (x := if k.2.2 = good then k.2.1 / 2 else k.2.1 / 2 - 1) (ev_if (et_eq (ev_v 3 (rI.mono ((s2.trans s3).trans s4) hc)) (ev_v 5 hv4)) (fun q => Ev.is (ev_v 4 (rI.mono (s3.trans s4) hv1)) (by rw [if_pos (of_decide_eq_true q)])) fun q => Ev.is (ev_sub (ev_v 4 (rI.mono (s3.trans s4) hv1)) ev_i) (by rw [if_neg (of_decide_eq_false q)])) fun v H5 s5 hv => kk v H5 ((s13.trans s4).trans s5) hv
abbrev sp_pair_count (K : Fr) : Sp := spF (aC (rR K) (a0)) (fun (room, _) => P357 room.1 ∧ SqOk room.1 room.2) (rI) (fun (room, _) => prsK room.1 (kindM room.1 room.2)) K
theorem sc_pair_count : FnScope ["room"] ["room"] (defScope (top 80)) := ⟨rfl, rfl, rfl, by decide +kernel, rfl, by decide +kernel, by decide +kernel⟩
theorem df_pair_count {P : Program} {w : World} {K : Fr} {mg : Str → Option Value} {base : Heap} (T : Tx K mg) : Df P w K mg base 9 "pair_count" ["room"] (sp_pair_count K) := by
  have D_pairs_in := df_pairs_in (P := P) (w := w) (base := base) T
  have D_want_room := df_want_room (P := P) (w := w) (base := base) T
  obtain ⟨fd, F⟩ := T.dx 61 (d := d61) rfl
  refine ⟨_, fd, T.gl 55 rfl, F.kp, F.bindsN (fun _ _ _ _ _ _ us hl => match us, hl with | [_], _ => rfl), ?_⟩
  refine F.ok sc_pair_count (fun vs H Q E h => ?_) (fun cdv A outer s H vs Q E hr h => ⟨_, PSs.nox cS_pss, ?_⟩)
  · obtain ⟨⟨room, u_end⟩, ⟨v_room, _, rfl, h_room, h_end⟩, g⟩ := h
    cases h_end
    rfl
  · obtain ⟨⟨room, u_end⟩, ⟨v_room, _, rfl, h_room, h_end⟩, g, kk⟩ := h
    cases h_end
    replace h_room : Rp.rel (rR K) K H v_room room := h_room
    replace g : P357 room.1 ∧ SqOk room.1 room.2 := g
    replace kk : ∀ v H2, Same H H2 → Rp.rel (rI) K H2 v (prsK room.1 (kindM room.1 room.2)) → Q v H2 := kk
    refine cs_ret ?_ fun v H1 s1 hv => kk v H1 s1 hv
    exact ev_call D_pairs_in (hr.mono (by decide)) (ea_c (ev_call D_want_room (hr.mono (by decide)) (y := room) (ea_c (ev_v 0 h_room) ea_0) trivial) ea_0) g
abbrev sp_powered (K : Fr) : Sp := spF (aC (rI) (aC (rI) (a0))) (fun (number, many, _) => (-7 ≤ number ∧ number ≤ 7) ∧ -12 ≤ many ∧ many ≤ 12) (rI) (fun (number, many, _) => powdM number many.toNat) K
theorem sc_powered : FnScope ["number", "many", "found", "turn"] ["number", "many"] (defScope (top 82)) := ⟨rfl, rfl, rfl, by decide +kernel, rfl, by decide +kernel, by decide +kernel⟩
theorem df_powered {P : Program} {w : World} {K : Fr} {mg : Str → Option Value} {base : Heap} (T : Tx K mg) : Df P w K mg base 1 "powered" ["number", "many"] (sp_powered K) := by
  obtain ⟨fd, F⟩ := T.dx 62 (d := d62) rfl
  refine ⟨_, fd, T.gl 56 rfl, F.kp, F.bindsN (fun _ _ _ _ _ _ us hl => match us, hl with | [_, _], _ => rfl), ?_⟩
  refine F.ok sc_powered (fun vs H Q E h => ?_) (fun cdv A outer s H vs Q E hr h => ⟨_, PSs.nox cS_pss, ?_⟩)
  · obtain ⟨⟨number, many, u_end⟩, ⟨v_number, _, rfl, h_number, ⟨v_many, _, rfl, h_many, h_end⟩⟩, g⟩ := h
    cases h_end
    rfl
  · obtain ⟨⟨number, many, u_end⟩, ⟨v_number, _, rfl, h_number, ⟨v_many, _, rfl, h_many, h_end⟩⟩, g, kk⟩ := h
    cases h_end
    replace h_number : Rp.rel (rI) K H v_number number := h_number
    replace h_many : Rp.rel (rI) K H v_many many := h_many
    replace g : (-7 ≤ number ∧ number ≤ 7) ∧ -12 ≤ many ∧ many ≤ 12 := g
    replace kk : ∀ v H2, Same H H2 → Rp.rel (rI) K H2 v (powdM number many.toNat) → Q v H2 := kk
    refine cs_set (i := 2) sc_powered.nd rfl (ev_i) fun v1 H1 s1 hv1 => ?_
    refine cs_for1 (j := 3) sc_powered.nd rfl (src_R1 (m_range T) (ev_v 1 (Rp.mono _ (s1) h_many)) (by omega)) (fun _ i σ' H' => ∃ w o, σ' = [some v_number, some v_many, some w, o] ∧ rI.rel K H' w (powdM number i)) (fun H2 s2 => ⟨v1, none, rfl, rI.mono s2 hv1⟩) ?_ ?_
    · rintro H2 s2 i x v σ' H' hx s3 hv ⟨w, o, rfl, hw⟩
      have hi := (List.getElem?_eq_some_iff.mp hx).1
      rw [ups_len] at hi
      refine cs_set (i := 2) sc_powered.nd rfl (ev_mul (ev_v 2 hw) (ev_v 0 (Rp.mono _ ((s1.trans s2).trans s3) h_number)) ?_) fun v2 H3 s4 hv2 => cs_nil ⟨s3.trans s4, v2, some v, rfl, hv2⟩
      have := powd_12 g.1 (k := i) (by omega)
      unfold Sm
      omega
    · rintro H2 s2 σ' H' s3 ⟨w, o, rfl, hw⟩
      rw [ups_len] at hw
      exact cs_ret (ev_v 2 hw) fun v H4 s4 hv => kk v H4 (((s1.trans s2).trans s3).trans s4) hv
abbrev sp_turned_sign (K : Fr) : Sp := spF (aC (rI) (aC (rI) (aC (rI) (a0)))) (fun (prime, sign, many, _) => (2 ≤ prime ∧ prime ≤ 1000) ∧ Sg sign) (rI) (fun (prime, sign, many, _) => tsgM prime sign many) K
theorem sc_turned_sign : FnScope ["prime", "sign", "many"] ["prime", "sign", "many"] (defScope (top 83)) := ⟨rfl, rfl, rfl, by decide +kernel, rfl, by decide +kernel, by decide +kernel⟩
theorem df_turned_sign {P : Program} {w : World} {K : Fr} {mg : Str → Option Value} {base : Heap} (T : Tx K mg) : Df P w K mg base 3 "turned_sign" ["prime", "sign", "many"] (sp_turned_sign K) := by
  have D_sign_of := df_sign_of (P := P) (w := w) (base := base) T
  obtain ⟨fd, F⟩ := T.dx 63 (d := d63) rfl
  refine ⟨_, fd, T.gl 57 rfl, F.kp, F.bindsN (fun _ _ _ _ _ _ us hl => match us, hl with | [_, _, _], _ => rfl), ?_⟩
  refine F.ok sc_turned_sign (fun vs H Q E h => ?_) (fun cdv A outer s H vs Q E hr h => ⟨_, PSs.nox cS_pss, ?_⟩)
  · obtain ⟨⟨prime, sign, many, u_end⟩, ⟨v_prime, _, rfl, h_prime, ⟨v_sign, _, rfl, h_sign, ⟨v_many, _, rfl, h_many, h_end⟩⟩⟩, g⟩ := h
    cases h_end
    rfl
  · obtain ⟨⟨prime, sign, many, u_end⟩, ⟨v_prime, _, rfl, h_prime, ⟨v_sign, _, rfl, h_sign, ⟨v_many, _, rfl, h_many, h_end⟩⟩⟩, g, kk⟩ := h
    cases h_end
    replace h_prime : Rp.rel (rI) K H v_prime prime := h_prime
    replace h_sign : Rp.rel (rI) K H v_sign sign := h_sign
    replace h_many : Rp.rel (rI) K H v_many many := h_many
    replace g : (2 ≤ prime ∧ prime ≤ 1000) ∧ Sg sign := g
    replace kk : ∀ v H2, Same H H2 → Rp.rel (rI) K H2 v (tsgM prime sign many) → Q v H2 := kk
    refine cs_ret ?_ fun v H1 s1 hv => kk v H1 s1 hv
    refine ev_if (et_eq (ev_mod (ev_v 2 h_many) ev_i (by decide)) ev_i) (fun q => Ev.is (ev_v 1 h_sign) (by unfold tsgM; rw [if_pos (of_decide_eq_true q)])) fun q => Ev.is (ev_mul (ev_v 1 h_sign) (ev_call D_sign_of (hr.mono (by decide)) (y := sgnM prime (prime - 1)) (ea_c (ev_v 0 h_prime) (ea_c (ev_sub (ev_v 0 h_prime) ev_i) ea_0)) g.1) ?_) (by unfold tsgM; rw [if_neg (of_decide_eq_false q)])
    unfold Sm
    rcases g.2 with e | e <;> rw [e] <;> decide
abbrev sp_count_in (K : Fr) : Sp := spF (aC (rI) (aC (rI) (aC (rI) (aC (rI) (a0))))) (fun (prime, rank, sign, rest, _) => P357 prime ∧ (0 ≤ rank ∧ rank ≤ 6) ∧ Sg sign) (rI) (fun (prime, rank, sign, rest, _) => cntM prime rank sign rest) K
theorem sc_count_in : FnScope ["prime", "rank", "sign", "rest", "half", "good", "few", "less"] ["prime", "rank", "sign", "rest"] (defScope (top 84)) := ⟨rfl, rfl, rfl, by decide +kernel, rfl, by decide +kernel, by decide +kernel⟩
theorem df_count_in {P : Program} {w : World} {K : Fr} {mg : Str → Option Value} {base : Heap} (T : Tx K mg) : Df P w K mg base 4 "count_in" ["prime", "rank", "sign", "rest"] (sp_count_in K) := by
  have D_powered := df_powered (P := P) (w := w) (base := base) T
  have D_sign_of := df_sign_of (P := P) (w := w) (base := base) T
  have D_turned_sign := df_turned_sign (P := P) (w := w) (base := base) T
  obtain ⟨fd, F⟩ := T.dx 64 (d := d64) rfl
  refine ⟨_, fd, T.gl 58 rfl, F.kp, F.bindsN (fun _ _ _ _ _ _ us hl => match us, hl with | [_, _, _, _], _ => rfl), ?_⟩
  refine F.ok sc_count_in (fun vs H Q E h => ?_) (fun cdv A outer s H vs Q E hr h => ⟨_, PSs.nox cS_pss, ?_⟩)
  · obtain ⟨⟨prime, rank, sign, rest, u_end⟩, ⟨v_prime, _, rfl, h_prime, ⟨v_rank, _, rfl, h_rank, ⟨v_sign, _, rfl, h_sign, ⟨v_rest, _, rfl, h_rest, h_end⟩⟩⟩⟩, g⟩ := h
    cases h_end
    rfl
  · obtain ⟨⟨prime, rank, sign, rest, u_end⟩, ⟨v_prime, _, rfl, h_prime, ⟨v_rank, _, rfl, h_rank, ⟨v_sign, _, rfl, h_sign, ⟨v_rest, _, rfl, h_rest, h_end⟩⟩⟩⟩, g, kk⟩ := h
    cases h_end
    replace h_prime : Rp.rel (rI) K H v_prime prime := h_prime
    replace h_rank : Rp.rel (rI) K H v_rank rank := h_rank
    replace h_sign : Rp.rel (rI) K H v_sign sign := h_sign
    replace h_rest : Rp.rel (rI) K H v_rest rest := h_rest
    replace g : P357 prime ∧ (0 ≤ rank ∧ rank ≤ 6) ∧ Sg sign := g
    replace kk : ∀ v H2, Same H H2 → Rp.rel (rI) K H2 v (cntM prime rank sign rest) → Q v H2 := kk
    obtain ⟨hp, hr6, hsg⟩ := g
    have hb := hp.b
    have h7 : -7 ≤ prime ∧ prime ≤ 7 := by unfold P357 at hp; omega
    refine cs_if (et_lt (ev_v 1 h_rank) ev_i) (fun q H1 s1 => cs_ret (x := if (decide (rank = 0) && decide (rest = 0)) then (1 : Int) else 0) (ev_intB (m_int T) (ev_and (ev_eq (ev_v 1 (Rp.mono _ (s1) h_rank)) ev_i) fun _ => ev_one (ev_eq (ev_v 3 (Rp.mono _ (s1) h_rest)) ev_i))) fun v H2 s2 hv => kk v H2 (s1.trans s2) ?_) fun q H1 s1 => cs_nil ?_
    · have e : cntM prime rank sign rest = if (decide (rank = 0) && decide (rest = 0)) then (1 : Int) else 0 := by
        unfold cntM
        rw [if_pos (of_decide_eq_true q)]
        simp only [Bool.and_eq_true, decide_eq_true_eq]
      rw [e]
      exact hv
    have q' : ¬ rank < 1 := of_decide_eq_false q
    refine cs_set (i := 4) sc_count_in.nd rfl (ev_div (ev_v 1 (Rp.mono _ (s1) h_rank)) ev_i (by decide)) fun v2 H2 s2 hv2 => ?_
    have s12 := s1.trans s2
    refine cs_par (i := 5) (j := 6) sc_count_in.nd rfl rfl (by decide) (ev_call D_turned_sign (hr.mono (by decide)) (y := tsgM prime sign (rank / 2)) (ea_c (ev_v 0 (Rp.mono _ (s12) h_prime)) (ea_c (ev_v 2 (Rp.mono _ (s12) h_sign)) (ea_c (ev_v 4 hv2) ea_0))) ⟨hb, hsg⟩) (ev_call D_powered (hr.mono (by decide)) (y := powdM prime (rank / 2).toNat) (ea_c (ev_v 0 (Rp.mono _ (s12) h_prime)) (ea_c (ev_v 4 hv2) ea_0)) ⟨h7, by omega⟩) fun a b H3 s3 ha hb3 => ?_
    have hF := powd_12 h7 (k := (rank / 2).toNat) (by omega)
    have hG := tsg3 (p := prime) hsg (rank / 2)
    have s13 := s12.trans s3
    have e0 : cntM prime rank sign rest = if rank % 2 = 1 then powdM prime (rank / 2).toNat * powdM prime (rank / 2).toNat + sgnM prime rest * tsgM prime sign (rank / 2) * powdM prime (rank / 2).toNat else
        powdM prime (rank / 2).toNat * powdM prime (rank / 2).toNat / prime + tsgM prime sign (rank / 2) * (if rest = 0 then powdM prime (rank / 2).toNat - powdM prime (rank / 2).toNat / prime else 0 - powdM prime (rank / 2).toNat / prime) := by
      unfold cntM
      rw [if_neg q']
    rw [e0] at kk
    generalize powdM prime (rank / 2).toNat = F at hb3 hF kk
    generalize tsgM prime sign (rank / 2) = G at ha hG kk
    have hSF : Sm F := by unfold Sm; omega
    have hG1 : Sm G := by have := mul3 hG (b := 1) (.inr (.inl rfl)); unfold Sm; omega
    refine cs_if (et_eq (ev_mod (ev_v 1 (Rp.mono _ (s13) h_rank)) ev_i (by decide)) ev_i) (fun q H4 s4 => ?_) fun q H4 s4 => cs_nil ?_
    · rw [if_pos (of_decide_eq_true q)] at kk
      refine cs_ret (ev_add (ev_mul (ev_v 6 (rI.mono s4 hb3)) (ev_v 6 (rI.mono s4 hb3)) hSF) (ev_mul (ev_mul (ev_call D_sign_of (hr.mono (by decide)) (y := sgnM prime rest) (ea_c (ev_v 0 (Rp.mono _ (s13.trans s4) h_prime)) (ea_c (ev_v 3 (Rp.mono _ (s13.trans s4) h_rest)) ea_0)) hb) (ev_v 5 (rI.mono s4 ha)) ?_) (ev_v 6 (rI.mono s4 hb3)) ?_)) fun v H5 s5 hv => kk v H5 ((s13.trans s4).trans s5) hv
      · have := sgn_b prime rest
        unfold Sm
        omega
      · have := mul3 (sgn3 prime rest) hG
        unfold Sm
        omega
    · rw [if_neg (of_decide_eq_false q)] at kk
      refine cs_set (i := 7) sc_count_in.nd rfl (ev_div (ev_v 6 (rI.mono s4 hb3)) (ev_v 0 (Rp.mono _ (s13.trans s4) h_prime)) (by omega)) fun v5 H5 s5 hv5 => ?_
      have s45 := s4.trans s5
      refine cs_ret (ev_add (ev_div (ev_mul (ev_v 6 (rI.mono s45 hb3)) (ev_v 6 (rI.mono s45 hb3)) hSF) (ev_v 0 (Rp.mono _ (s13.trans s45) h_prime)) (by omega)) (ev_mul (ev_v 5 (rI.mono s45 ha)) (ev_if (x := if rest = 0 then F - F / prime else 0 - F / prime) (et_eq (ev_v 3 (Rp.mono _ (s13.trans s45) h_rest)) ev_i) (fun q => Ev.is (ev_sub (ev_v 6 (rI.mono s45 hb3)) (ev_v 7 hv5)) (by rw [if_pos (of_decide_eq_true q)])) fun q => Ev.is (ev_sub ev_i (ev_v 7 hv5)) (by rw [if_neg (of_decide_eq_false q)])) hG1)) fun v H6 s6 hv => kk v H6 ((s13.trans s45).trans s6) hv
abbrev sp_counts_of (K : Fr) : Sp := spF (aC (rR K) (a0)) (fun (room, _) => P357 room.1 ∧ SqOk room.1 room.2) (rL rI) (fun (room, _) => ctsK room.1 (kindM room.1 room.2)) K
theorem sc_counts_of : FnScope ["room", "size", "rank", "sign", "beside", "rest"] ["room"] (defScope (top 85)) := ⟨rfl, rfl, rfl, by decide +kernel, rfl, by decide +kernel, by decide +kernel⟩
theorem df_counts_of {P : Program} {w : World} {K : Fr} {mg : Str → Option Value} {base : Heap} (T : Tx K mg) : Df P w K mg base 8 "counts_of" ["room"] (sp_counts_of K) := by
  have D_count_in := df_count_in (P := P) (w := w) (base := base) T
  have D_kind_in := df_kind_in (P := P) (w := w) (base := base) T
  have D_powered := df_powered (P := P) (w := w) (base := base) T
  obtain ⟨fd, F⟩ := T.dx 65 (d := d65) rfl
  refine ⟨_, fd, T.gl 59 rfl, F.kp, F.bindsN (fun _ _ _ _ _ _ us hl => match us, hl with | [_], _ => rfl), ?_⟩
  refine F.ok sc_counts_of (fun vs H Q E h => ?_) (fun cdv A outer s H vs Q E hr h => ⟨_, PSs.nox cS_pss, ?_⟩)
  · obtain ⟨⟨room, u_end⟩, ⟨v_room, _, rfl, h_room, h_end⟩, g⟩ := h
    cases h_end
    rfl
  · obtain ⟨⟨room, u_end⟩, ⟨v_room, _, rfl, h_room, h_end⟩, g, kk⟩ := h
    cases h_end
    replace h_room : Rp.rel (rR K) K H v_room room := h_room
    replace g : P357 room.1 ∧ SqOk room.1 room.2 := g
    replace kk : ∀ v H2, Same H H2 → Rp.rel (rL rI) K H2 v (ctsK room.1 (kindM room.1 room.2)) → Q v H2 := kk
    have hb := g.1.b
    have h7 : -7 ≤ room.1 ∧ room.1 ≤ 7 := by have := g.1; unfold P357 at this; omega
    have hk := kind_ok (p := room.1) hb.1 g.2.1
    refine cs_unp3 (i := 1) (j := 2) (m := 3) (x := kindM room.1 room.2) sc_counts_of.nd rfl rfl rfl (ev_call D_kind_in (hr.mono (by decide)) (ea_c (ev_prime T (ev_v 0 h_room)) (ea_c (ev_rows T (ev_v 0 h_room)) ea_0)) g) fun a b c H1 s1 ha hb' hc => ?_
    generalize kindM room.1 room.2 = k at ha hb' hc kk hk
    have hk1 := hk.1
    refine cs_set (i := 4) sc_counts_of.nd rfl (ev_call D_powered (hr.mono (by decide)) (y := powdM room.1 (k.1 - k.2.1).toNat) (ea_c (ev_prime T (ev_v 0 (Rp.mono _ (s1) h_room))) (ea_c (ev_sub (ev_v 1 ha) (ev_v 2 hb')) ea_0)) ⟨h7, by omega⟩) fun v2 H2 s2 hv2 => ?_
    refine cs_ret (ev_lc1 (q := rI) (f := fun rest : Int => powdM room.1 (k.1 - k.2.1).toNat * cntM room.1 k.2.1 k.2.2 rest) (j := 5) sc_counts_of.nd (src_R1 (m_range T) (ev_prime T (ev_v 0 (Rp.mono _ (s1.trans s2) h_room))) (by omega)) (blkOk_by (N := ["room", "size", "rank", "sign", "beside", "rest"]) (sc := defScope (top 85)) (by decide +kernel)) ⟨rfl, by first | exact Or.inl rfl | exact Or.inr rfl, by first | exact Or.inr rfl | exact Or.inl rfl⟩ fun s' Hs C cl fp x hx v H3 s3 hv => ev_mul (ev_v 4 (rI.mono s3 hv2)) (ev_call D_count_in (hr.mono (by decide)) (ea_c (ev_prime (X := Bk _ _ s' Hs C cl fp) T (ev_v 0 (Rp.mono _ ((s1.trans s2).trans s3) h_room))) (ea_c (ev_v 2 (rI.mono (s2.trans s3) hb')) (ea_c (ev_v 3 (rI.mono (s2.trans s3) hc)) (ea_c (ev_v 5 hv) ea_0)))) ⟨g.1, by omega, hk.2⟩) ?_) fun v H4 s4 hv => kk v H4 ((s1.trans s2).trans s4) hv
    have := powd_12 h7 (k := (k.1 - k.2.1).toNat) (by omega)
    unfold Sm
    omega
abbrev sp_worth_counts (K : Fr) : Sp := spF (aC (rR K) (a0)) (fun (room, _) => P357 room.1 ∧ SqOk room.1 room.2) (rL rI) (fun (room, _) => ctsK room.1 (kindM room.1 room.2)) K
theorem sc_worth_counts : FnScope ["room"] ["room"] (defScope (top 86)) := ⟨rfl, rfl, rfl, by decide +kernel, rfl, by decide +kernel, by decide +kernel⟩
theorem df_worth_counts {P : Program} {w : World} {K : Fr} {mg : Str → Option Value} {base : Heap} (T : Tx K mg) : Df P w K mg base 9 "worth_counts" ["room"] (sp_worth_counts K) := by
  have D_counts_of := df_counts_of (P := P) (w := w) (base := base) T
  have D_want_room := df_want_room (P := P) (w := w) (base := base) T
  obtain ⟨fd, F⟩ := T.dx 66 (d := d66) rfl
  refine ⟨_, fd, T.gl 60 rfl, F.kp, F.bindsN (fun _ _ _ _ _ _ us hl => match us, hl with | [_], _ => rfl), ?_⟩
  refine F.ok sc_worth_counts (fun vs H Q E h => ?_) (fun cdv A outer s H vs Q E hr h => ⟨_, PSs.nox cS_pss, ?_⟩)
  · obtain ⟨⟨room, u_end⟩, ⟨v_room, _, rfl, h_room, h_end⟩, g⟩ := h
    cases h_end
    rfl
  · obtain ⟨⟨room, u_end⟩, ⟨v_room, _, rfl, h_room, h_end⟩, g, kk⟩ := h
    cases h_end
    replace h_room : Rp.rel (rR K) K H v_room room := h_room
    replace g : P357 room.1 ∧ SqOk room.1 room.2 := g
    replace kk : ∀ v H2, Same H H2 → Rp.rel (rL rI) K H2 v (ctsK room.1 (kindM room.1 room.2)) → Q v H2 := kk
    refine cs_drop (ev_call D_want_room (hr.mono (by decide)) (y := room) (ea_c (ev_v 0 h_room) ea_0) trivial) fun H1 s1 => cs_ret (ev_call D_counts_of (hr.mono (by decide)) (ea_c (ev_v 0 (Rp.mono _ (s1) h_room)) ea_0) g) fun v H2 s2 hv => kk v H2 (s1.trans s2) hv
abbrev sp_undone_count (K : Fr) : Sp := spF (aC (rI) (aC (rI) (a0))) (fun (prime, size, _) => P357 prime ∧ 0 ≤ size ∧ size ≤ 6) (rI) (fun (prime, size, _) => undcM prime size) K
theorem sc_undone_count : FnScope ["prime", "size", "found", "at"] ["prime", "size"] (defScope (top 88)) := ⟨rfl, rfl, rfl, by decide +kernel, rfl, by decide +kernel, by decide +kernel⟩
theorem df_undone_count {P : Program} {w : World} {K : Fr} {mg : Str → Option Value} {base : Heap} (T : Tx K mg) : Df P w K mg base 2 "undone_count" ["prime", "size"] (sp_undone_count K) := by
  have D_powered := df_powered (P := P) (w := w) (base := base) T
  obtain ⟨fd, F⟩ := T.dx 67 (d := d67) rfl
  refine ⟨_, fd, T.gl 61 rfl, F.kp, F.bindsN (fun _ _ _ _ _ _ us hl => match us, hl with | [_, _], _ => rfl), ?_⟩
  refine F.ok sc_undone_count (fun vs H Q E h => ?_) (fun cdv A outer s H vs Q E hr h => ⟨_, PSs.nox cS_pss, ?_⟩)
  · obtain ⟨⟨prime, size, u_end⟩, ⟨v_prime, _, rfl, h_prime, ⟨v_size, _, rfl, h_size, h_end⟩⟩, g⟩ := h
    cases h_end
    rfl
  · obtain ⟨⟨prime, size, u_end⟩, ⟨v_prime, _, rfl, h_prime, ⟨v_size, _, rfl, h_size, h_end⟩⟩, g, kk⟩ := h
    cases h_end
    replace h_prime : Rp.rel (rI) K H v_prime prime := h_prime
    replace h_size : Rp.rel (rI) K H v_size size := h_size
    replace g : P357 prime ∧ 0 ≤ size ∧ size ≤ 6 := g
    replace kk : ∀ v H2, Same H H2 → Rp.rel (rI) K H2 v (undcM prime size) → Q v H2 := kk
    have h7 : -7 ≤ prime ∧ prime ≤ 7 := by have := g.1; unfold P357 at this; omega
    have hbg := undc_bg g.1 g.2
    refine cs_set (i := 2) sc_undone_count.nd rfl (ev_i) fun v1 H1 s1 hv1 => ?_
    refine cs_for1 (j := 3) sc_undone_count.nd rfl (src_R1 (m_range T) (ev_v 1 (Rp.mono _ (s1) h_size)) (by omega)) (fun _ i σ' H' => ∃ w o, σ' = [some v_prime, some v_size, some w, o] ∧ rI.rel K H' w (undcF prime size i)) (fun H2 s2 => ⟨v1, none, rfl, rI.mono s2 hv1⟩) ?_ ?_
    · rintro H2 s2 i x v σ' H' hx s3 hv ⟨w, o, rfl, hw⟩
      have hi := (List.getElem?_eq_some_iff.mp hx).1
      have hxm := ups_mem (List.mem_of_getElem? hx)
      rw [ups_len] at hi
      have sA := (s1.trans s2).trans s3
      refine cs_set (i := 2) sc_undone_count.nd rfl (ev_mulW (ev_v 2 hw) (ev_sub (ev_call D_powered (hr.mono (by decide)) (y := powdM prime size.toNat) (ea_c (ev_v 0 (Rp.mono _ (sA) h_prime)) (ea_c (ev_v 1 (Rp.mono _ (sA) h_size)) ea_0)) ⟨h7, by omega⟩) (ev_call D_powered (hr.mono (by decide)) (y := powdM prime x.toNat) (ea_c (ev_v 0 (Rp.mono _ (sA) h_prime)) (ea_c (ev_v 3 hv) ea_0)) ⟨h7, by omega⟩)) ⟨hbg.1 i (by omega), hbg.2 x (by omega)⟩) fun v2 H3 s4 hv2 => cs_nil ⟨s3.trans s4, v2, some v, rfl, ?_⟩
      unfold undcF at hv2 ⊢
      rw [fold_take _ _ hx]
      exact hv2
    · rintro H2 s2 σ' H' s3 ⟨w, o, rfl, hw⟩
      unfold undcF at hw
      rw [List.take_length] at hw
      exact cs_ret (ev_v 2 hw) fun v H4 s4 hv => kk v H4 (((s1.trans s2).trans s3).trans s4) hv
abbrev sp_upright_keepers (K : Fr) : Sp := spF (aC (rI) (aC (rI) (aC (rI) (a0)))) (fun (prime, rank, sign, _) => P357 prime ∧ (0 ≤ rank ∧ rank ≤ 6) ∧ Sg sign) (rI) (fun (prime, rank, sign, _) => uprM prime rank sign) K
theorem sc_upright_keepers : FnScope ["prime", "rank", "sign", "half", "good", "found", "most", "at"] ["prime", "rank", "sign"] (defScope (top 89)) := ⟨rfl, rfl, rfl, by decide +kernel, rfl, by decide +kernel, by decide +kernel⟩
theorem df_upright_keepers {P : Program} {w : World} {K : Fr} {mg : Str → Option Value} {base : Heap} (T : Tx K mg) : Df P w K mg base 3 "upright_keepers" ["prime", "rank", "sign"] (sp_upright_keepers K) := by
  have D_powered := df_powered (P := P) (w := w) (base := base) T
  have D_sign_of := df_sign_of (P := P) (w := w) (base := base) T
  obtain ⟨fd, F⟩ := T.dx 68 (d := d68) rfl
  refine ⟨_, fd, T.gl 62 rfl, F.kp, F.bindsN (fun _ _ _ _ _ _ us hl => match us, hl with | [_, _, _], _ => rfl), ?_⟩
  refine F.ok sc_upright_keepers (fun vs H Q E h => ?_) (fun cdv A outer s H vs Q E hr h => ⟨_, PSs.nox cS_pss, ?_⟩)
  · obtain ⟨⟨prime, rank, sign, u_end⟩, ⟨v_prime, _, rfl, h_prime, ⟨v_rank, _, rfl, h_rank, ⟨v_sign, _, rfl, h_sign, h_end⟩⟩⟩, g⟩ := h
    cases h_end
    rfl
  · obtain ⟨⟨prime, rank, sign, u_end⟩, ⟨v_prime, _, rfl, h_prime, ⟨v_rank, _, rfl, h_rank, ⟨v_sign, _, rfl, h_sign, h_end⟩⟩⟩, g, kk⟩ := h
    cases h_end
    replace h_prime : Rp.rel (rI) K H v_prime prime := h_prime
    replace h_rank : Rp.rel (rI) K H v_rank rank := h_rank
    replace h_sign : Rp.rel (rI) K H v_sign sign := h_sign
    replace g : P357 prime ∧ (0 ≤ rank ∧ rank ≤ 6) ∧ Sg sign := g
    replace kk : ∀ v H2, Same H H2 → Rp.rel (rI) K H2 v (uprM prime rank sign) → Q v H2 := kk
    have hb := g.1.b
    have h7 : -7 ≤ prime ∧ prime ≤ 7 := by have := g.1; unfold P357 at this; omega
    have hbg := upr_bg g.1 g.2.1 g.2.2
    have hsb := sgn_b prime (prime - 1)
    have hrk := g.2.1
    refine cs_if (et_eq (ev_v 1 h_rank) ev_i) (fun q H1 s1 => cs_ret ev_i fun v H2 s2 hv => kk v H2 (s1.trans s2) ?_) fun q H1 s1 => cs_nil ?_
    · unfold uprM
      rw [if_pos (of_decide_eq_true q)]
      exact hv
    have q0 : ¬ rank = 0 := of_decide_eq_false q
    rw [upr_eq q0] at kk
    refine cs_set (i := 3) sc_upright_keepers.nd rfl (ev_div (ev_v 1 (Rp.mono _ (s1) h_rank)) ev_i (by decide)) fun v2 H2 s2 hv2 => ?_
    have s12 := s1.trans s2
    have tail : ∀ (og : Option V) (vf vm : V) (H3 : Hp), Same H H3 → rI.rel K H3 vf (uprS prime rank sign) → rI.rel K H3 vm (uprM2 rank) → cS (cxOf CX0 P w K mg base ["prime", "rank", "sign", "half", "good", "found", "most", "at"] d68.qual d68.scope (d68.at_ K) cdv A outer s H E).nox (d68.body.drop 3) { nx := fun _ H' => Q .non H', rt := Q } [some v_prime, some v_rank, some v_sign, some v2, og, some vf, some vm, none] H3 := by
      intro og vf vm H3 s3 hf hm
      have hm2 : 0 ≤ uprM2 rank ∧ uprM2 rank ≤ 4 := by
        unfold uprM2
        by_cases q : rank % 2 = 0
        · rw [if_pos q]; omega
        · rw [if_neg q]; omega
      refine cs_for1 (j := 7) sc_upright_keepers.nd rfl (src_R2 (n := uprM2 rank) (m_range T) ev_i (ev_v 6 hm) (by omega)) (fun _ i σ' H' => ∃ w o, σ' = [some v_prime, some v_rank, some v_sign, some v2, og, some w, some vm, o] ∧ rI.rel K H' w (uprF prime rank sign i)) (fun H4 s4 => ⟨vf, none, rfl, rI.mono s4 hf⟩) ?_ ?_
      · rintro H4 s4 i x v σ' H' hx s5 hv ⟨w, o, rfl, hw⟩
        have hi := (List.getElem?_eq_some_iff.mp hx).1
        have hxm := ups_mem (List.mem_of_getElem? hx)
        rw [ups_len] at hi
        have sA := (s3.trans s4).trans s5
        refine cs_set (i := 5) sc_upright_keepers.nd rfl (ev_mulW (ev_v 5 hw) (ev_sub (ev_call D_powered (hr.mono (by decide)) (y := powdM prime (2 * x).toNat) (ea_c (ev_v 0 (Rp.mono _ (sA) h_prime)) (ea_c (ev_mul ev_i (ev_v 7 hv) (by unfold Sm; decide)) ea_0)) ⟨h7, by omega⟩) ev_i) ⟨hbg.1 i (by omega), hbg.2.1 x (by omega)⟩) fun v2 H3 s4 hv2 => cs_nil ⟨s5.trans s4, v2, some v, rfl, ?_⟩
        unfold uprF at hv2 ⊢
        rw [fold_take _ _ hx]
        exact hv2
      · rintro H4 s4 σ' H' s5 ⟨w, o, rfl, hw⟩
        unfold uprF at hw
        rw [List.take_length] at hw
        exact cs_ret (ev_v 5 hw) fun v H5 s6 hv => kk v H5 (((s3.trans s4).trans s5).trans s6) hv
    refine cs_if (et_eq (ev_mod (ev_v 1 (Rp.mono _ (s12) h_rank)) ev_i (by decide)) ev_i) (fun q H3 s3 => ?_) fun q H3 s3 => ?_
    · have q1 := of_decide_eq_true q
      have hh := mul6 (a := rank / 2) (b := rank / 2 - 1) (by omega) (by omega) (by omega)
      have s13 := s12.trans s3
      refine cs_set (i := 4) sc_upright_keepers.nd rfl (ev_mul (ev_v 2 (Rp.mono _ (s13) h_sign)) (ev_call D_powered (hr.mono (by decide)) (y := powdM (sgnM prime (prime - 1)) (rank / 2).toNat) (ea_c (ev_call D_sign_of (hr.mono (by decide)) (y := sgnM prime (prime - 1)) (ea_c (ev_v 0 (Rp.mono _ (s13) h_prime)) (ea_c (ev_sub (ev_v 0 (Rp.mono _ (s13) h_prime)) ev_i) ea_0)) hb) (ea_c (ev_v 3 (rI.mono s3 hv2)) ea_0)) ⟨by omega, by omega⟩) ?_) fun v4 H4 s4 hv4 => ?_
      · unfold Sm
        rcases g.2.2 with e | e <;> rw [e] <;> decide
      have s14 := s13.trans s4
      refine cs_par (i := 5) (j := 6) (x := uprS prime rank sign) (w := uprM2 rank) sc_upright_keepers.nd rfl rfl (by decide) (Ev.is (ev_mulW (ev_mul ev_i (ev_call D_powered (hr.mono (by decide)) (y := powdM prime (rank / 2 * (rank / 2 - 1)).toNat) (ea_c (ev_v 0 (Rp.mono _ (s14) h_prime)) (ea_c (ev_mul (ev_v 3 (rI.mono (s3.trans s4) hv2)) (ev_sub (ev_v 3 (rI.mono (s3.trans s4) hv2)) ev_i) (by unfold Sm; omega)) ea_0)) ⟨h7, by omega⟩) (by unfold Sm; decide)) (ev_sub (ev_call D_powered (hr.mono (by decide)) (y := powdM prime (rank / 2).toNat) (ea_c (ev_v 0 (Rp.mono _ (s14) h_prime)) (ea_c (ev_v 3 (rI.mono (s3.trans s4) hv2)) ea_0)) ⟨h7, by omega⟩) (ev_v 4 hv4)) ⟨hbg.2.2.2, hbg.2.2.1⟩) (by unfold uprS; rw [if_pos q1])) (Ev.is (ev_v 3 (rI.mono (s3.trans s4) hv2)) (by unfold uprM2; rw [if_pos q1])) fun a b H5 s5 ha hb5 => cs_nil (tail _ a b H5 (s14.trans s5) ha hb5)
    · have q1 : ¬ rank % 2 = 0 := of_decide_eq_false q
      have hh := mul6 (a := rank / 2) (b := rank / 2) (by omega) (by omega) (by omega)
      have s13 := s12.trans s3
      refine cs_par (i := 5) (j := 6) (x := uprS prime rank sign) (w := uprM2 rank) sc_upright_keepers.nd rfl rfl (by decide) (Ev.is (ev_mul ev_i (ev_call D_powered (hr.mono (by decide)) (y := powdM prime (rank / 2 * (rank / 2)).toNat) (ea_c (ev_v 0 (Rp.mono _ (s13) h_prime)) (ea_c (ev_mul (ev_v 3 (rI.mono s3 hv2)) (ev_v 3 (rI.mono s3 hv2)) (by unfold Sm; omega)) ea_0)) ⟨h7, by omega⟩) (by unfold Sm; decide)) (by unfold uprS; rw [if_neg q1])) (Ev.is (ev_add (ev_v 3 (rI.mono s3 hv2)) ev_i) (by unfold uprM2; rw [if_neg q1])) fun a b H5 s5 ha hb5 => cs_nil (tail _ a b H5 (s13.trans s5) ha hb5)
abbrev sp_keepers_by (K : Fr) : Sp := spF (aC (rI) (aC (rI) (aC (rI) (aC (rI) (a0))))) (fun (prime, size, rank, sign, _) => P357 prime ∧ KOk (size, rank, sign)) (rI) (fun (prime, size, rank, sign, _) => kprK prime (size, rank, sign)) K
theorem sc_keepers_by : FnScope ["prime", "size", "rank", "sign", "flat"] ["prime", "size", "rank", "sign"] (defScope (top 90)) := ⟨rfl, rfl, rfl, by decide +kernel, rfl, by decide +kernel, by decide +kernel⟩
theorem df_keepers_by {P : Program} {w : World} {K : Fr} {mg : Str → Option Value} {base : Heap} (T : Tx K mg) : Df P w K mg base 4 "keepers_by" ["prime", "size", "rank", "sign"] (sp_keepers_by K) := by
  have D_powered := df_powered (P := P) (w := w) (base := base) T
  have D_undone_count := df_undone_count (P := P) (w := w) (base := base) T
  have D_upright_keepers := df_upright_keepers (P := P) (w := w) (base := base) T
  obtain ⟨fd, F⟩ := T.dx 69 (d := d69) rfl
  refine ⟨_, fd, T.gl 63 rfl, F.kp, F.bindsN (fun _ _ _ _ _ _ us hl => match us, hl with | [_, _, _, _], _ => rfl), ?_⟩
  refine F.ok sc_keepers_by (fun vs H Q E h => ?_) (fun cdv A outer s H vs Q E hr h => ⟨_, PSs.nox cS_pss, ?_⟩)
  · obtain ⟨⟨prime, size, rank, sign, u_end⟩, ⟨v_prime, _, rfl, h_prime, ⟨v_size, _, rfl, h_size, ⟨v_rank, _, rfl, h_rank, ⟨v_sign, _, rfl, h_sign, h_end⟩⟩⟩⟩, g⟩ := h
    cases h_end
    rfl
  · obtain ⟨⟨prime, size, rank, sign, u_end⟩, ⟨v_prime, _, rfl, h_prime, ⟨v_size, _, rfl, h_size, ⟨v_rank, _, rfl, h_rank, ⟨v_sign, _, rfl, h_sign, h_end⟩⟩⟩⟩, g, kk⟩ := h
    cases h_end
    replace h_prime : Rp.rel (rI) K H v_prime prime := h_prime
    replace h_size : Rp.rel (rI) K H v_size size := h_size
    replace h_rank : Rp.rel (rI) K H v_rank rank := h_rank
    replace h_sign : Rp.rel (rI) K H v_sign sign := h_sign
    replace g : P357 prime ∧ KOk (size, rank, sign) := g
    replace kk : ∀ v H2, Same H H2 → Rp.rel (rI) K H2 v (kprK prime (size, rank, sign)) → Q v H2 := kk
    have h7 : -7 ≤ prime ∧ prime ≤ 7 := by have := g.1; unfold P357 at this; omega
    have hbg := kpr_bg g.1 g.2
    have hk : 0 ≤ rank ∧ rank ≤ size ∧ size ≤ 6 := g.2.1
    have hh := mul6 (a := size - rank) (b := rank) (by omega) (by omega) (by omega)
    refine cs_set (i := 4) sc_keepers_by.nd rfl (ev_sub (ev_v 1 h_size) (ev_v 2 h_rank)) fun v1 H1 s1 hv1 => ?_
    exact cs_ret (ev_mulW (ev_mulW (ev_call D_upright_keepers (hr.mono (by decide)) (y := uprM prime rank sign) (ea_c (ev_v 0 (Rp.mono _ (s1) h_prime)) (ea_c (ev_v 2 (Rp.mono _ (s1) h_rank)) (ea_c (ev_v 3 (Rp.mono _ (s1) h_sign)) ea_0))) ⟨g.1, by omega, g.2.2⟩) (ev_call D_undone_count (hr.mono (by decide)) (y := undcM prime (size - rank)) (ea_c (ev_v 0 (Rp.mono _ (s1) h_prime)) (ea_c (ev_v 4 hv1) ea_0)) ⟨g.1, by omega⟩) ⟨hbg.1, hbg.2.1⟩) (ev_call D_powered (hr.mono (by decide)) (y := powdM prime ((size - rank) * rank).toNat) (ea_c (ev_v 0 (Rp.mono _ (s1) h_prime)) (ea_c (ev_mul (ev_v 4 hv1) (ev_v 2 (Rp.mono _ (s1) h_rank)) (by unfold Sm; omega)) ea_0)) ⟨h7, by omega⟩) ⟨hbg.2.2.1, hbg.2.2.2⟩) fun v H2 s2 hv => kk v H2 (s1.trans s2) hv
abbrev sp_all_keepers (K : Fr) : Sp := spF (aC (rR K) (a0)) (fun (room, _) => P357 room.1 ∧ SqOk room.1 room.2) (rI) (fun (room, _) => kprK room.1 (kindM room.1 room.2)) K
theorem sc_all_keepers : FnScope ["room", "size", "rank", "sign"] ["room"] (defScope (top 91)) := ⟨rfl, rfl, rfl, by decide +kernel, rfl, by decide +kernel, by decide +kernel⟩
theorem df_all_keepers {P : Program} {w : World} {K : Fr} {mg : Str → Option Value} {base : Heap} (T : Tx K mg) : Df P w K mg base 8 "all_keepers" ["room"] (sp_all_keepers K) := by
  have D_keepers_by := df_keepers_by (P := P) (w := w) (base := base) T
  have D_kind_in := df_kind_in (P := P) (w := w) (base := base) T
  obtain ⟨fd, F⟩ := T.dx 70 (d := d70) rfl
  refine ⟨_, fd, T.gl 64 rfl, F.kp, F.bindsN (fun _ _ _ _ _ _ us hl => match us, hl with | [_], _ => rfl), ?_⟩
  refine F.ok sc_all_keepers (fun vs H Q E h => ?_) (fun cdv A outer s H vs Q E hr h => ⟨_, PSs.nox cS_pss, ?_⟩)
  · obtain ⟨⟨room, u_end⟩, ⟨v_room, _, rfl, h_room, h_end⟩, g⟩ := h
    cases h_end
    rfl
  · obtain ⟨⟨room, u_end⟩, ⟨v_room, _, rfl, h_room, h_end⟩, g, kk⟩ := h
    cases h_end
    replace h_room : Rp.rel (rR K) K H v_room room := h_room
    replace g : P357 room.1 ∧ SqOk room.1 room.2 := g
    replace kk : ∀ v H2, Same H H2 → Rp.rel (rI) K H2 v (kprK room.1 (kindM room.1 room.2)) → Q v H2 := kk
    have hk := kind_ok (p := room.1) g.1.b.1 g.2.1
    refine cs_unp3 (i := 1) (j := 2) (m := 3) (x := kindM room.1 room.2) sc_all_keepers.nd rfl rfl rfl (ev_call D_kind_in (hr.mono (by decide)) (ea_c (ev_prime T (ev_v 0 h_room)) (ea_c (ev_rows T (ev_v 0 h_room)) ea_0)) g) fun a b c H1 s1 ha hb hc => ?_
    exact cs_ret (ev_call D_keepers_by (hr.mono (by decide)) (y := kprK room.1 (kindM room.1 room.2)) (ea_c (ev_prime T (ev_v 0 (Rp.mono _ (s1) h_room))) (ea_c (ev_v 1 ha) (ea_c (ev_v 2 hb) (ea_c (ev_v 3 hc) ea_0)))) ⟨g.1, hk⟩) fun v H2 s2 hv => kk v H2 (s1.trans s2) hv
abbrev sp_keeper_count (K : Fr) : Sp := spF (aC (rR K) (a0)) (fun (room, _) => P357 room.1 ∧ SqOk room.1 room.2) (rI) (fun (room, _) => kprK room.1 (kindM room.1 room.2)) K
theorem sc_keeper_count : FnScope ["room"] ["room"] (defScope (top 92)) := ⟨rfl, rfl, rfl, by decide +kernel, rfl, by decide +kernel, by decide +kernel⟩
theorem df_keeper_count {P : Program} {w : World} {K : Fr} {mg : Str → Option Value} {base : Heap} (T : Tx K mg) : Df P w K mg base 9 "keeper_count" ["room"] (sp_keeper_count K) := by
  have D_all_keepers := df_all_keepers (P := P) (w := w) (base := base) T
  have D_want_room := df_want_room (P := P) (w := w) (base := base) T
  obtain ⟨fd, F⟩ := T.dx 71 (d := d71) rfl
  refine ⟨_, fd, T.gl 65 rfl, F.kp, F.bindsN (fun _ _ _ _ _ _ us hl => match us, hl with | [_], _ => rfl), ?_⟩
  refine F.ok sc_keeper_count (fun vs H Q E h => ?_) (fun cdv A outer s H vs Q E hr h => ⟨_, PSs.nox cS_pss, ?_⟩)
  · obtain ⟨⟨room, u_end⟩, ⟨v_room, _, rfl, h_room, h_end⟩, g⟩ := h
    cases h_end
    rfl
  · obtain ⟨⟨room, u_end⟩, ⟨v_room, _, rfl, h_room, h_end⟩, g, kk⟩ := h
    cases h_end
    replace h_room : Rp.rel (rR K) K H v_room room := h_room
    replace g : P357 room.1 ∧ SqOk room.1 room.2 := g
    replace kk : ∀ v H2, Same H H2 → Rp.rel (rI) K H2 v (kprK room.1 (kindM room.1 room.2)) → Q v H2 := kk
    refine cs_ret ?_ fun v H1 s1 hv => kk v H1 s1 hv
    exact ev_call D_all_keepers (hr.mono (by decide)) (ea_c (ev_call D_want_room (hr.mono (by decide)) (y := room) (ea_c (ev_v 0 h_room) ea_0) trivial) ea_0) g
end K06
/-! ==== KN ==== -/
set_option Elab.async false
set_option linter.all false
set_option maxRecDepth 100000
set_option maxHeartbeats 4000000
namespace K06
open PySem L2 PySem.Spec PyProof.Rows RZ
/-! ### the pot -/
def Pot (P : Addr) (H : Hp) : Prop := ∃ a b : Int, H P = some (.lst [.int a, .int b]) ∧ 0 ≤ a ∧ 0 ≤ b ∧ b < 2147483648
theorem Pot.same {P : Addr} {H H' : Hp} (h : Pot P H) (s : Same H H') : Pot P H' := by
  obtain ⟨a, b, h1, h2⟩ := h
  exact ⟨a, b, s _ _ h1, h2⟩
/-- from H1 to H2 nothing changes but what stands at P -/
def Px (P : Addr) (H1 H2 : Hp) : Prop := Same (er P H1) H2 ∧ Pot P H2
theorem same_er3 {P : Addr} {H H' : Hp} (s : Same (er P H) H') : Same (er P H) (er P H') := same_er2 er_at s
theorem Px.tr {P : Addr} {H1 H2 H3 : Hp} (h : Px P H1 H2) (k : Px P H2 H3) : Px P H1 H3 := ⟨(same_er3 h.1).trans k.1, k.2⟩
theorem Px.of {P : Addr} {H1 H2 : Hp} (h : Pot P H1) (s : Same H1 H2) : Px P H1 H2 := ⟨same_er.trans s, h.same s⟩
theorem Px.er {P : Addr} {H1 H2 : Hp} (h : Px P H1 H2) : Same (er P H1) (er P H2) := same_er3 h.1
/-- what is said of a value holds without a list -/
class Te {α : Type} (r : Rp α) : Prop where
  te : ∀ {K : Fr} {H : Hp} {P : Addr} {zs : List V} {v : V} {x : α}, H P = some (.lst zs) → r.rel K H v x → r.rel K (er P H) v x
instance te_tp {α : Type} {r : Rp α} [Tp r] : Te r := ⟨fun h k => Tp.tp (tup_er h fun _ e => nomatch e) k⟩
instance {K0 : Fr} : Te (rR K0) := ⟨fun {K H P zs v x} h k => by
  obtain ⟨a, dx, w, h1, h2, h3⟩ := k
  refine ⟨a, dx, w, h1, ?_, Te.te h h3⟩
  rw [er_ne (fun e => by rw [← e, h2] at h; cases h)]
  exact h2⟩
instance {α : Type} {r : Rp α} [Te r] : Te (rO r) := ⟨fun {K H P zs v x} h k => by
  cases x with
  | none => exact k
  | some y => exact ⟨k.1, Te.te h k.2⟩⟩
theorem pot_te {α : Type} {r : Rp α} [Te r] {K : Fr} {H : Hp} {P : Addr} {v : V} {x : α} (h : Pot P H) (k : r.rel K H v x) : r.rel K (er P H) v x := by
  obtain ⟨a, b, h1, _⟩ := h
  exact Te.te h1 k
/-- a list that is not the pot -/
theorem lst_er {α : Type} {r : Rp α} [Te r] {K : Fr} {H : Hp} {P l : Addr} {vs : List V} {xs : List α} (h : Pot P H) (hl : l ≠ P) (h1 : H l = some (.lst vs)) (h2 : Paired (r.rel K H) vs xs) : (rL r).rel K (er P H) (.ref l) xs := ⟨l, vs, rfl, by rw [er_ne hl]; exact h1, Paired.mapP h2 fun _ _ q => pot_te h q⟩
section
variable {X : Cx} {σ : L2.St} {H H' Hk : Hp} {P : Addr} {α β γ δ : Type} {r : Rp α} {q : Rp β} {p : Rp γ} {pos spos : Pos} {e a b c d : Expr} {p1 : α → Prop} {p2 : α → β → Prop}
/-- an expression that may draw from the pot at P -/
def EvP (X : Cx) (σ : L2.St) (P : Addr) (Hk : Hp) (e : Expr) (r : Rp α) (post : α → Prop) : Prop := ∀ H1, Same Hk H1 → Pot P H1 → ∀ Q : VK, (∀ x v H2, post x → Px P H1 H2 → r.rel X.K (er P H2) v x → Q v H2) → cE X e σ H1 Q
def EtP (X : Cx) (σ : L2.St) (P : Addr) (Hk : Hp) (e : Expr) : Prop := ∀ H1, Same Hk H1 → Pot P H1 → ∀ Q : Bool → Hp → Prop, (∀ k H2, Px P H1 H2 → Q k H2) → cT X e σ H1 Q
theorem EvP.up (h : EvP X σ P Hk e r p1) (s : Same Hk H) : EvP X σ P H e r p1 := fun H1 s1 => h H1 (s.trans s1)
theorem EvP.post {p2 : α → Prop} (h : EvP X σ P Hk e r p1) (k : ∀ x, p1 x → p2 x) : EvP X σ P Hk e r p2 := fun H1 s1 hp Q c => h H1 s1 hp Q fun x v H2 h1 => c x v H2 (k x h1)
theorem evp [Te r] {x : α} (h : Ev X σ Hk e r x) : EvP X σ P Hk e r (fun y => y = x) := fun H1 s1 hp Q c => h H1 s1 Q fun v H2 s2 hv => c x v H2 rfl (Px.of hp s2) (pot_te (hp.same s2) hv)
theorem evpN [Te r] {xs : List α} (h : EvN X σ Hk e r xs) : EvP X σ P Hk e (rL r) (fun y => y = xs) := fun H1 s1 hp Q c => h H1 s1 Q fun l vs H2 hl s2 h1 h2 => by
  refine c xs _ H2 rfl (Px.of hp s2) (lst_er (hp.same s2) ?_ h1 h2)
  obtain ⟨a, b, h3, _⟩ := hp
  exact fun e => by rw [e, h3] at hl; cases hl
theorem er_k {P : Addr} {Hk H : Hp} (hP : Hk P = none) (s : Same Hk H) : Same Hk (er P H) := same_er2 hP s
/-- two, the second drawing -/
theorem evp_op2 {op : Operator} {r2 : R2} {δ : Type} {p : Rp δ} {p3 : δ → Prop} (hP : Hk P = none) (ho : OpR X (binaryOp op) r2) (ha : EvP X σ P Hk a r p1) (hb : ∀ x, p1 x → EvP X σ P Hk b q (p2 x))
    (k : ∀ x y, p1 x → p2 x y → ∃ z, p3 z ∧ ∀ H1, Pot P H1 → ∀ u w, r.rel X.K (er P H1) u x → q.rel X.K (er P H1) w y → ∀ Q : VK, (∀ v, p.rel X.K (er P H1) v z → Q v H1) → r2 u w H1 Q) : EvP X σ P Hk (.BinOp a op b pos) p p3 := fun H1 s1 hp Q c =>
  cE_of (pe_op ho cE_pe cE_pe) (ha H1 s1 hp _ fun x u H2 hx px hu => hb x hx H2 ((er_k hP s1).trans px.1) px.2 _ fun y w H3 hy py hw => by
    obtain ⟨z, hz, kz⟩ := k x y hx hy
    exact kz H3 py.2 u w (r.mono py.er hu) hw Q fun v hv => c z v H3 hz (px.tr py) hv)
theorem evp_add {p1 : Int → Prop} {p2 : Int → Int → Prop} (hP : Hk P = none) (ha : EvP X σ P Hk a rI p1) (hb : ∀ x, p1 x → EvP X σ P Hk b rI (p2 x)) : EvP X σ P Hk (.BinOp a .Add b pos) rI (fun z => ∃ x y, p1 x ∧ p2 x y ∧ z = x + y) :=
  evp_op2 hP op_add ha hb fun x y hx hy => ⟨x + y, ⟨x, y, hx, hy, rfl⟩, fun H1 _ u w hu hw Q k => ⟨x, y, hu, hw, k _ rfl⟩⟩
theorem evp_mod {p1 : Int → Prop} {n : Int} (hn : 0 < n) (hP : Hk P = none) (ha : EvP X σ P Hk a rI p1) (hb : Ev X σ Hk b rI n) : EvP X σ P Hk (.BinOp a .Mod b pos) rI (fun z => ∃ x, p1 x ∧ z = x % n) :=
  evp_op2 hP op_mod ha (fun _ _ => evp hb) fun x y hx hy => ⟨x % n, ⟨x, hx, rfl⟩, fun H1 _ u w hu hw Q k => ⟨x, n, hu, hy ▸ hw, hn, k _ rfl⟩⟩
theorem evp_int {p1 : Int → Prop} {p2 : Pos} (hP : Hk P = none) (hm : X.mg "int" = none) (ha : EvP X σ P Hk a rI p1) (hg : Gl X "int" := by rfl) (he : starEach [a] X.env = (false, eval a X.env) :: starEach [] X.env := by rfl) : EvP X σ P Hk (.Call (.Name "int" p2) [a] [] pos) rI p1 := fun H1 s1 hp Q c =>
  cE_of (pe_callTy call_int1 hg hm (by decide +kernel) (pa_cons cE_pe pa_nil he) (by decide) (by decide) he) (ha H1 s1 hp _ fun x v H2 hx px hv => .inl ⟨x, congrArg (fun z => [z]) (show v = V.int x from hv), c x _ H2 hx px rfl⟩)
theorem evp_if {k1 k2 : α → Prop} (hP : Hk P = none) (hc : EtP X σ P Hk c) (ha : EvP X σ P Hk a r k1) (hb : EvP X σ P Hk b r k2) : EvP X σ P Hk (.IfExp c a b pos) r (fun x => k1 x ∨ k2 x) := fun H1 s1 hp Q q =>
  cE_of (pe_ifExp cT_pt cE_pe cE_pe) (hc H1 s1 hp _ fun k H2 px => by
    have s2 := (er_k hP s1).trans px.1
    cases k with
    | true => exact iteT (ha H2 s2 px.2 Q fun x v H3 h3 p3 hv => q x v H3 (.inl h3) (px.tr p3) hv)
    | false => exact iteF (hb H2 s2 px.2 Q fun x v H3 h3 p3 hv => q x v H3 (.inr h3) (px.tr p3) hv))
theorem etp_cmp {op : CmpOp} {r2 : R2} {p1 : Int → Prop} {n : Int} (hP : Hk P = none) (ho : OpR X (compareOp op) r2) (ha : EvP X σ P Hk a rI p1) (hb : Ev X σ Hk b rI n) (hm : behindInMarks op b = false)
    (k : ∀ x, ∃ z : Bool, ∀ H1 Q, Q (V.bl z) H1 → r2 (V.int x) (V.int n) H1 Q) : EtP X σ P Hk (.Compare a [op] [b] pos) := fun H1 s1 hp Q c =>
  cT_of (pt_cmpR ho cE_pe cE_pe hm) (ha H1 s1 hp _ fun x u H2 hx px hu => hb H2 ((er_k hP s1).trans px.1) _ fun w H3 s3 hw => by
    obtain ⟨z, kz⟩ := k x
    cases (show u = V.int x from hu)
    cases (show w = V.int n from hw)
    exact kz H3 _ ⟨z, rfl, c z H3 (px.tr (Px.of px.2 s3))⟩)
theorem etp_gt {p1 : Int → Prop} {n : Int} (hP : Hk P = none) (ha : EvP X σ P Hk a rI p1) (hb : Ev X σ Hk b rI n) : EtP X σ P Hk (.Compare a [.Gt] [b] pos) :=
  etp_cmp hP op_gt ha hb (nomark _) fun x => ⟨_, fun H1 Q q => ⟨x, n, rfl, rfl, q⟩⟩
theorem etp_eq {p1 : Int → Prop} {n : Int} (hP : Hk P = none) (ha : EvP X σ P Hk a rI p1) (hb : Ev X σ Hk b rI n) : EtP X σ P Hk (.Compare a [.Eq] [b] pos) :=
  etp_cmp hP op_eq ha hb (nomark _) fun x => ⟨_, fun H1 Q q => ⟨rfl, q⟩⟩
/-! ### statements -/
variable {D : Ends} {rest : List Stmt} {i j k : Nat} {y z : Str}
theorem cs_setP {p3 : Pos} (nd : X.N.Nodup) (hi : X.N[i]? = some y) (ha : EvP X σ P Hk a r p1) (hs1 : Same Hk H) (hp : Pot P H) (k : ∀ x v H2, p1 x → Px P H H2 → r.rel X.K (er P H2) v x → cS X rest D (σ.set i (some v)) H2)
    (hx : L2.Loc X.env.scope y := by first | exact Or.inl rfl | exact Or.inr rfl) (hs : swapsWith a (some (.Name y p3)) pos.line X.env = pure false := by rfl) (hf : X.fn y = true ∨ X.env.scope.names.lookup y = some .local := by first | exact .inl rfl | exact .inr rfl) : cS X (.Assign [.Name y p3] a pos :: rest) D σ H :=
  cs_one (ps_set nd hi hx cE_pe hs hf) (ha H hs1 hp _ fun x v H2 h1 px hv => k x v H2 h1 px hv)
theorem cs_retP (ha : EvP X σ P Hk a r p1) (hs1 : Same Hk H) (hp : Pot P H) (k : ∀ x v H2, p1 x → Px P H H2 → r.rel X.K (er P H2) v x → D.rt v H2) : cS X (.Return (some a) pos :: rest) D σ H :=
  cs_one (ps_ret cE_pe) (ha H hs1 hp _ fun x v H2 h1 px hv => k x v H2 h1 px hv)
end
/-! ### promises about the pot -/
/-- a def that draws: its first argument is the pot -/
def spP {α β : Type} (R : Rps α) (g : α → Prop) (r : Rp β) (post : α → β → Prop) (K : Fr) : Sp := fun vs H Q _ => ∃ P us x, vs = .ref P :: us ∧ Pot P H ∧ R.rel K (er P H) us x ∧ g x ∧ ∀ y v H2, post x y → Px P H H2 → r.rel K (er P H2) v y → Q v H2
section
variable {X : Cx} {σ : L2.St} {H H' Hk : Hp} {P : Addr} {α β γ δ : Type} {r : Rp α} {q : Rp β} {p : Rp γ} {pos p2 : Pos} {e a b c d : Expr}
def rRef (P : Addr) : Rp Unit := rV (.ref P)
theorem evp_call {k : Nat} {n : Str} {ps : List Str} {es : List Expr} {R : Rps γ} {g : γ → Prop} {post : γ → α → Prop} {x : γ} (D : Df X.prog X.w X.K X.mg X.base k n ps (spP R g r post X.K)) (hr : Room k X.A) (hP : Hk P = none) (h0 : Ev X σ Hk e (rV (.ref P)) ()) (ha : ∀ H1, Same Hk H1 → Pot P H1 → ∀ Q : List V → Hp → Prop, (∀ vs H2, Px P H1 H2 → R.rel X.K (er P H2) vs x → Q vs H2) → cA X es σ H1 Q) (hx : g x)
    (hg : Gl X n := by rfl) (hdb : (n == ("__debug__" : Str)) = false := by decide)
    (he : starEach (e :: es) X.env = (false, eval e X.env) :: starEach es X.env := by rfl) (hpl : (backTo pos (starEach es X.env)).any (·.1) = false := by rfl) : EvP X σ P Hk (.Call (.Name n p2) (e :: es) [] pos) r (post x) := by
  obtain ⟨f, fd, hm, hk, hb, F⟩ := D.ex
  refine fun H1 s1 hp Q c => cE_of (pe_call F hr hg hm hk hb .nil pass0 (pa_cons cE_pe cA_pa he) hdb he hpl) (h0 H1 s1 _ fun v H2 s2 hv => ?_)
  cases (show v = V.ref P from hv)
  have px := Px.of hp s2
  refine ha H2 (s1.trans s2) px.2 _ fun vs H3 py hvs => ?_
  show spP R g r post X.K ((V.ref P :: vs) ++ []) H3 Q E0
  rw [List.append_nil]
  exact ⟨P, vs, x, rfl, py.2, hvs, hx, fun y v H4 hy pz hv => c y v H4 hy ((px.tr py).tr pz) hv⟩
/-- arguments without draws -/
theorem ap_0 : ∀ H1, Same Hk H1 → Pot P H1 → ∀ Q : List V → Hp → Prop, (∀ vs H2, Px P H1 H2 → a0.rel X.K (er P H2) vs () → Q vs H2) → cA X [] σ H1 Q := fun H1 s1 hp Q c => ea_0 (H := H1) H1 (Same.refl _) _ fun vs H2 s2 hv => c vs H2 (Px.of hp s2) hv
theorem ap_c [Te r] {es : List Expr} {R : Rps β} {x : α} {y : β} (hP : Hk P = none) (ha : Ev X σ Hk e r x) (hb : ∀ H1, Same Hk H1 → Pot P H1 → ∀ Q : List V → Hp → Prop, (∀ vs H2, Px P H1 H2 → R.rel X.K (er P H2) vs y → Q vs H2) → cA X es σ H1 Q) (hs : starEach (e :: es) X.env = (false, eval e X.env) :: starEach es X.env := by rfl) :
    ∀ H1, Same Hk H1 → Pot P H1 → ∀ Q : List V → Hp → Prop, (∀ vs H2, Px P H1 H2 → (aC r R).rel X.K (er P H2) vs (x, y) → Q vs H2) → cA X (e :: es) σ H1 Q := fun H1 s1 hp Q c pos pins s I =>
  (pa_cons cE_pe cA_pa hs).run pos pins s σ H1 Q I (ha H1 s1 _ fun v H2 s2 hv => hb H2 (s1.trans s2) (hp.same s2) _ fun vs H3 py hvs => c (v :: vs) H3 ((Px.of hp s2).tr py) ⟨v, vs, rfl, r.mono py.er (pot_te (hp.same s2) hv), hvs⟩)
/-- a list that is known without the pot, as an argument -/
theorem ap_cK {es : List Expr} {R : Rps β} {x : α} {v : V} {y : β} (hP : Hk P = none) (ha : Ev X σ Hk e (rV v) ()) (hv : r.rel X.K Hk v x) (hb : ∀ H1, Same Hk H1 → Pot P H1 → ∀ Q : List V → Hp → Prop, (∀ vs H2, Px P H1 H2 → R.rel X.K (er P H2) vs y → Q vs H2) → cA X es σ H1 Q) (hs : starEach (e :: es) X.env = (false, eval e X.env) :: starEach es X.env := by rfl) :
    ∀ H1, Same Hk H1 → Pot P H1 → ∀ Q : List V → Hp → Prop, (∀ vs H2, Px P H1 H2 → (aC r R).rel X.K (er P H2) vs (x, y) → Q vs H2) → cA X (e :: es) σ H1 Q := fun H1 s1 hp Q c pos pins s I =>
  (pa_cons cE_pe cA_pa hs).run pos pins s σ H1 Q I (ha H1 s1 _ fun u H2 s2 hu => hb H2 (s1.trans s2) (hp.same s2) _ fun vs H3 py hvs => by
    cases (show u = v from hu)
    exact c (v :: vs) H3 ((Px.of hp s2).tr py) ⟨v, vs, rfl, r.mono (er_k hP (((er_k hP s1).trans (Px.of hp s2).er).trans py.1)) hv, hvs⟩)
end
end K06
/-! ==== KO ==== -/
set_option Elab.async false
set_option linter.all false
set_option maxRecDepth 100000
set_option maxHeartbeats 4000000
namespace K06
open PySem L2 PySem.Spec PyProof.Rows RZ
/-! ### lists of new lists -/
/-- rows at the addresses as -/
def At {β : Type} (q : Rp β) (K : Fr) (H : Hp) (as : List Addr) (yss : List (List β)) : Prop := Paired (fun a ys => ∃ ws, H a = some (.lst ws) ∧ Paired (q.rel K H) ws ys) as yss
theorem at_mono {β : Type} {q : Rp β} {K : Fr} {H H' : Hp} {as : List Addr} {yss : List (List β)} (s : Same H H') (h : At q K H as yss) : At q K H' as yss := Paired.mapP h fun a ys ⟨ws, h1, h2⟩ => ⟨ws, s _ _ h1, pmono s h2⟩
theorem pr_app2 {α β : Type} {F : α → β → Prop} : ∀ {vs ws : List α} {xs ys : List β}, Paired F vs xs → Paired F ws ys → Paired F (vs ++ ws) (xs ++ ys)
  | _, _, _, _, .nil, h => h
  | _, _, _, _, .cons r t, h => .cons r (pr_app2 t h)
theorem at_rel {β : Type} {q : Rp β} {K : Fr} {H : Hp} : ∀ {as : List Addr} {yss : List (List β)}, At q K H as yss → Paired ((rL q).rel K H) (as.map V.ref) yss
  | _, _, .nil => .nil
  | _, _, .cons ⟨ws, h1, h2⟩ t => .cons ⟨_, ws, rfl, h1, h2⟩ (at_rel t)
theorem at_upd {β : Type} {q : Rp β} [Fz q] {K : Fr} {H : Hp} {D : Addr} {zs zs' : List V} (hD : H D = some (.lst zs)) : ∀ {as : List Addr} {yss : List (List β)}, D ∉ as → At q K H as yss → At q K (upd H D (.lst zs')) as yss
  | _, _, _, .nil => .nil
  | _, _, hn, .cons ⟨ws, h1, h2⟩ t => .cons ⟨ws, by rw [upd_ne (fun e => hn (by rw [e]; exact List.mem_cons_self ..))]; exact h1, fz_p hD h2⟩ (at_upd hD (fun h => hn (List.mem_cons_of_mem _ h)) t)
theorem at_mem {β : Type} {q : Rp β} {K : Fr} {H : Hp} : ∀ {as : List Addr} {yss : List (List β)} {a : Addr}, At q K H as yss → a ∈ as → ∃ ws, H a = some (.lst ws)
  | _, _, _, .cons ⟨ws, h1, _⟩ t, h => by
    rcases List.mem_cons.mp h with rfl | h
    · exact ⟨ws, h1⟩
    · exact at_mem t h
section
variable {X : Cx} {σ : L2.St} {H H' Hk : Hp} {α β γ δ : Type} {r : Rp α} {q : Rp β} {p : Rp γ} {pos spos : Pos} {e a b d : Expr}
def EvG (X : Cx) (σ : L2.St) (H : Hp) (e : Expr) (q : Rp β) (yss : List (List β)) : Prop := ∀ H1, Same H H1 → ∀ Q : VK, (∀ D as H2, H1 D = none → D ∉ as → as.Nodup → (∀ a ∈ as, H1 a = none) → Same H1 H2 → H2 D = some (.lst (as.map V.ref)) → At q X.K H2 as yss → Q (.ref D) H2) → cE X e σ H1 Q
theorem EvG.n {yss : List (List β)} (h : EvG X σ H e q yss) : EvN X σ H e (rL q) yss := fun H1 s Q k => h H1 s Q fun D as H2 h1 _ _ _ s2 h2 h3 => k D _ H2 h1 s2 h2 (at_rel h3)
theorem EvG.up {yss : List (List β)} (h : EvG X σ H e q yss) (s : Same H H') : EvG X σ H' e q yss := fun H1 s1 => h H1 (s.trans s1)
theorem lc_A {wi : TI} {tt : TT} {te : TE} {j : Nat} {xs : List α} {f : α → List β} [Fz q]
    (hw : ∀ H1, Same H H1 → ∀ R : It → Hp → Prop, (∀ J H2, Same H1 H2 → xs.length ≤ sizeLine → Walk J xs.length (Same H2) (Y1 X.K r xs) → R J H2) → wi σ H1 R)
    (ht : ∀ v H1, ∀ Q : Bool → Hp → Prop, Q true H1 → tt (σ.set j (some v)) H1 Q)
    (he : ∀ x ∈ xs, ∀ v H1, Same H H1 → r.rel X.K H1 v x → ∀ Q : VK, (∀ l ws H2, H1 l = none → Same H1 H2 → H2 l = some (.lst ws) → Paired (q.rel X.K H2) ws (f x) → Q (.ref l) H2) → te (σ.set j (some v)) H1 Q) :
    ∀ H1, Same H H1 → ∀ Q : VK, (∀ D as H2, H1 D = none → D ∉ as → as.Nodup → (∀ a ∈ as, H1 a = none) → Same H1 H2 → H2 D = some (.lst (as.map V.ref)) → At q X.K H2 as (xs.map f) → Q (.ref D) H2) → tLc wi (gName j) tt te [j] σ H1 Q := fun H1 s Q k => hw H1 s _ fun J H2 s2 hz w D hD => by
  refine lc_it w (fun i H3 => Same H2 H3 ∧ ∃ as : List Addr, H3 D = some (.lst (as.map V.ref)) ∧ as.length ≤ i ∧ D ∉ as ∧ as.Nodup ∧ (∀ a ∈ as, H2 a = none) ∧ At q X.K H3 as ((xs.take i).map f)) ⟨same_new hD, [], upd_same, Nat.le_refl _, (fun h => nomatch h), List.nodup_nil, (fun _ h => nomatch h), .nil⟩ (fun i H3 _ h => h.1) ?_ ?_
  · rintro i v H3 H4 hi ⟨s3, as, h1, h1b, h2, h3, h4, h5⟩ ⟨rfl, x, hx, hv⟩
    have hm : x ∈ xs := List.mem_of_getElem? hx
    show (fun σ2 H5 => wipe σ2 [j] = wipe σ [j] ∧ _) ((wipe σ [j]).set j (some v)) H4
    rw [wipe_set]
    refine ⟨wipe1 σ j _, ht v H4 _ ?_⟩
    refine iteT (he x hm v H4 ((s.trans s2).trans s3) hv _ fun l ws H6 hl s6 h6 h7 => ?_)
    have h8 : H6 D = some (.lst (as.map V.ref)) := s6 _ _ h1
    have hlD : D ≠ l := fun e => by rw [← e, h1] at hl; cases hl
    have hla : l ∉ as := fun h => by
      obtain ⟨ws', e⟩ := at_mem h5 h
      rw [hl] at e
      cases e
    refine ⟨as.map V.ref, h8, by rw [List.length_map]; have : i < sizeLine := Nat.lt_of_lt_of_le hi hz; omega, same_mut (s3.trans s6) hD, as ++ [l], ?_, by rw [List.length_append, List.length_singleton]; omega, ?_, ?_, ?_, ?_⟩
    · rw [List.map_append]
      exact upd_same
    · intro h
      rcases List.mem_append.mp h with h | h
      · exact h2 h
      · exact hlD (List.mem_singleton.mp h)
    · exact List.nodup_append.mpr ⟨h3, List.nodup_cons.mpr ⟨(fun h => nomatch h), List.nodup_nil⟩, fun a ha b hb e => by rw [List.mem_singleton.mp hb] at e; exact hla (e ▸ ha)⟩
    · intro a ha
      rcases List.mem_append.mp ha with ha | ha
      · exact h4 a ha
      · rw [List.mem_singleton.mp ha]
        exact none_back s3 hl
    · rw [List.take_succ, hx, List.map_append]
      refine pr_app2 (at_upd h8 h2 (at_mono s6 h5)) (.cons ⟨ws, ?_, fz_p h8 h7⟩ .nil)
      rw [upd_ne (Ne.symm hlD)]
      exact h6
  · rintro H3 ⟨s3, as, h1, _, h2, h3, h4, h5⟩
    rw [List.take_length] at h5
    exact k D as H3 (none_back s2 hD) h2 h3 (fun a ha => none_back s2 (h4 a ha)) (s2.trans s3) h1 h5
section
variable {scope : Scope} {elt iter c : Expr} {y z nm : Str} {py pz pt pn : Pos} {i j k kk : Nat} {D : Ends} {rest body : List Stmt}
theorem eg_lc1 {xs : List α} {f : α → List β} [Fz q] (nd : X.N.Nodup) (src : Src X σ H (.Name y py) iter xs.length (Y1 X.K r xs)) (ok : BlkOk X.N X.env.scope scope [(y, j)]) (ow : Own X scope y j)
    (he : ∀ s Hs C cl fp, ∀ x ∈ xs, ∀ v H1, Same H H1 → r.rel X.K H1 v x → EvN (Bk X scope s Hs C cl fp) (σ.set j (some v)) H1 elt q (f x)) (hc : X.calm = true := by rfl) (hs : ∀ x, foldedSetIterable iter X.env x = pure x := by intro _; rfl) :
    EvG X σ H (.ListComp elt [⟨.Name y py, iter, [], 0⟩] scope pos) q (xs.map f) := by
  obtain ⟨wi, hi, hw⟩ := src
  exact fun H1 s Q k => cE_of (pe_lc (own := [(y, j)]) (te := cEb X scope elt) hc nd hi ok (own_pg nd ow) (fun _ _ _ _ _ => pts_nil) (fun s Hs C cl fp => cEb_pe s Hs C cl fp) hs)
    (lc_A (te := cEb X scope elt) hw (fun _ _ Q k => k) (fun x hx v H1 s1 hv Q k s Hs C cl fp => he s Hs C cl fp x hx v H1 s1 hv H1 (Same.refl H1) Q k) H1 s Q k)
/-- name = [elt for y in iter], new lists -/
theorem cs_setG {xs : List α} {f : α → List β} [Fz q] (nd : X.N.Nodup) (hi : X.N[i]? = some nm) (src : Src X σ H (.Name y py) iter xs.length (Y1 X.K r xs)) (ok : BlkOk X.N X.env.scope scope [(y, j)]) (ow : Own X scope y j)
    (he : ∀ s Hs C cl fp, ∀ x ∈ xs, ∀ v H1, Same H H1 → r.rel X.K H1 v x → EvN (Bk X scope s Hs C cl fp) (σ.set j (some v)) H1 elt q (f x))
    (k : ∀ T as H2, H T = none → T ∉ as → as.Nodup → (∀ a ∈ as, H a = none) → Same H H2 → H2 T = some (.lst (as.map V.ref)) → At q X.K H2 as (xs.map f) → cS X rest D (σ.set i (some (.ref T))) H2) (hyl : X.env.scope.names.lookup nm = some .local := by rfl)
    (hsw : swapsWith (.ListComp elt [⟨.Name y py, iter, [], 0⟩] scope pos) (some (.Name nm pn)) spos.line X.env = pure true := by rfl) (hc : X.calm = true := by rfl) (hs : ∀ x, foldedSetIterable iter X.env x = pure x := by intro _; rfl) :
    cS X (.Assign [.Name nm pn] (.ListComp elt [⟨.Name y py, iter, [], 0⟩] scope pos) spos :: rest) D σ H := by
  obtain ⟨wi, hi', hw⟩ := src
  exact cs_one (ps_setLc (own := [(y, j)]) (te := cEb X scope elt) hc nd hi hyl hsw hi' ok (own_pg nd ow) (fun _ _ _ _ _ => pts_nil) (fun s Hs C cl fp => cEb_pe s Hs C cl fp) hs)
    (lc_A (te := cEb X scope elt) hw (fun _ _ Q k => k) (fun x hx v H1 s1 hv Q k s Hs C cl fp => he s Hs C cl fp x hx v H1 s1 hv H1 (Same.refl H1) Q k) H (Same.refl H) _ k)
theorem cs_retG {yss : List (List β)} (ha : EvG X σ H a q yss) (k : ∀ T as H2, H T = none → T ∉ as → as.Nodup → (∀ x ∈ as, H x = none) → Same H H2 → H2 T = some (.lst (as.map V.ref)) → At q X.K H2 as yss → D.rt (.ref T) H2) : cS X (.Return (some a) pos :: rest) D σ H :=
  cs_one (ps_ret cE_pe) (ha H (Same.refl H) _ k)
/-- a new list by + or * -/
theorem en_cat {xs ys : List α} (ha : Ev X σ H a (rL r) xs) (hb : Ev X σ H b (rL r) ys) (hz : xs.length + ys.length ≤ 100000) : EvN X σ H (.BinOp a .Add b pos) r (xs ++ ys) :=
  en_of (pe_op op_cat cE_pe cE_pe) fun H1 s Q c => ha H1 s _ fun u H2 s2 hu => hb H2 (s.trans s2) _ fun w H3 s3 hw => by
    obtain ⟨l, vs, rfl, h1, h2⟩ := (rL r).mono s3 hu
    obtain ⟨m, ws, rfl, h3, h4⟩ := hw
    exact ⟨l, m, vs, ws, rfl, rfl, h1, h3, by rw [h2.length, h4.length]; exact sz100 hz, fun z hz => c z _ _ (none_back (s2.trans s3) hz) ((s2.trans s3).trans (same_new hz)) upd_same (pmono (same_new hz) (pr_app h2 h4))⟩
theorem en_rep {x : α} {k : Int} (ha : Ev X σ H a (rL r) [x]) (hb : Ev X σ H b rI k) (h0 : -1000 ≤ k ∧ k ≤ 1000) : EvN X σ H (.BinOp a .Mult b pos) r (List.replicate k.toNat x) :=
  en_of (pe_op op_rep cE_pe cE_pe) fun H1 s Q c => ha H1 s _ fun u H2 s2 hu => hb H2 (s.trans s2) _ fun w H3 s3 hw => by
    obtain ⟨l, vs, rfl, h1, h2⟩ := (rL r).mono s3 hu
    cases h2 with
    | cons h2 t =>
      cases t
      refine ⟨l, k, _, rfl, hw, h1, by omega, by omega, ?_, fun z hz => c z _ _ (none_back (s2.trans s3) hz) ((s2.trans s3).trans (same_new hz)) upd_same ?_⟩
      · exact sz100 (by rw [List.length_singleton]; omega)
      · rw [rep_flat]
        exact pr_rep (r.mono (same_new hz) h2) _
end
end
/-- the promise of a def that gives a new list of new lists -/
def spG {α : Type} (R : Rps α) (g : α → Prop) (f : α → Tb) (K : Fr) : Sp := fun vs H Q _ => ∃ x, R.rel K H vs x ∧ g x ∧ ∀ D as H2, H D = none → D ∉ as → as.Nodup → (∀ a ∈ as, H a = none) → Same H H2 → H2 D = some (.lst (as.map V.ref)) → At rI K H2 as (f x) → Q (.ref D) H2
section
variable {X : Cx} {σ : L2.St} {H H' Hk : Hp} {γ : Type} {pos : Pos} {e : Expr}
theorem eg_call {k : Nat} {n : Str} {p2 : Pos} {ps : List Str} {es : List Expr} {R : Rps γ} {g : γ → Prop} {f : γ → Tb} {x : γ} {y : Tb} (D : Df X.prog X.w X.K X.mg X.base k n ps (spG R g f X.K)) (hr : Room k X.A) (ha : EvA X σ H (e :: es) R x) (hx : g x) (hy : f x = y := by rfl)
    (hg : Gl X n := by rfl) (hdb : (n == ("__debug__" : Str)) = false := by decide)
    (he : starEach (e :: es) X.env = (false, eval e X.env) :: starEach es X.env := by rfl) (hpl : (backTo pos (starEach es X.env)).any (·.1) = false := by rfl) : EvG X σ H (.Call (.Name n p2) (e :: es) [] pos) rI y := by
  obtain ⟨fa, fd, hm, hk, hb, F⟩ := D.ex
  refine fun H1 s Q c => cE_of (pe_call F hr hg hm hk hb .nil pass0 cA_pa hdb he hpl) (ha H1 s _ fun vs H2 s2 hvs => ?_)
  rw [List.append_nil]
  refine ⟨x, hvs, hx, fun D as H3 h1 h2 h3 h4 s3 h5 h6 => c D as H3 (none_back s2 h1) h2 h3 (fun a ha => none_back s2 (h4 a ha)) (s2.trans s3) h5 (hy ▸ h6)⟩
end
section
variable {X : Cx} {σ : L2.St} {H H' Hk : Hp} {P : Addr} {α : Type} {r : Rp α} {pos p2 : Pos} {e a b : Expr} {rest : List Stmt} {D : Ends}
theorem ev_divmod {x y : Int} (hm : X.mg "divmod" = none) (ha : Ev X σ H a rI x) (hb : Ev X σ H b rI y) (hy : 0 < y ∧ y < 1000000) (hg : Gl X "divmod" := by rfl) (hs : starEach [a, b] X.env = (false, eval a X.env) :: starEach [b] X.env := by rfl) (hs2 : starEach [b] X.env = (false, eval b X.env) :: starEach [] X.env := by rfl)
    (hpl : (backTo pos (starEach [b] X.env)).any (·.1) = false := by rfl) : Ev X σ H (.Call (.Name "divmod" p2) [a, b] [] pos) (r2 rI rI) (x / y, x % y) :=
  ev_cb call_divmod hm (by decide +kernel) (ea_c ha (ea_1 hb hs2) hs) (fun H1 _ vs hvs Q c => by
    obtain ⟨v, w, rfl, h1, h2⟩ := a2 hvs
    exact ⟨x, y, by rw [show v = V.int x from h1, show w = V.int y from h2], ⟨hy.1, by omega⟩, fun l hl => c _ _ (same_new hl) ⟨l, _, _, rfl, upd_same, rfl, rfl⟩⟩) hg (he := hs) (hpl := hpl)
/-- xs[k], name = a pair -/
theorem cs_itemN {i : Nat} {z : Str} {o ix : Expr} {l : Addr} {vs : List V} {n : Int} {β : Type} {q : Rp β} {x : α × β} {p3 p4 p5 : Pos} {k1 : Nat} (nd : X.N.Nodup) (hj : X.N[i]? = some z) (ha : Ev X σ H a (r2 r q) x) (ho : Ev X σ H o (rV (.ref l)) ()) (hi : Ev X σ H ix rI n) (hl : H l = some (.lst vs)) (hn : 0 ≤ n ∧ n < vs.length)
    (k : ∀ u v H1, Same H H1 → r.rel X.K H1 u x.1 → q.rel X.K H1 v x.2 → cS X rest D (σ.set i (some v)) (upd H1 l (.lst (vs.set n.toNat u)))) (hc : X.calm = true := by rfl)
    (hx2 : L2.Loc X.env.scope z := by first | exact Or.inl rfl | exact Or.inr rfl) (hf2 : X.fn z = true ∨ X.env.scope.names.lookup z = some .local := by first | exact .inl rfl | exact .inr rfl)
    (hw : swappedStores [.Tuple [.Subscript o ix p3, .Name z p4] k1 p5] a X.env = pure none := by rfl)
    (hs : swapsWithSole [.Tuple [.Subscript o ix p3, .Name z p4] k1 p5] a pos.line X.env = pure false := by rfl)
    (ht : (assignEach [.Tuple [.Subscript o ix p3, .Name z p4] k1 p5] X.env).map (·.2) = [assign (.Tuple [.Subscript o ix p3, .Name z p4] k1 p5) X.env] := by rfl)
    (h1 : (assignEach [.Subscript o ix p3, .Name z p4] X.env).map (·.2) = assign (.Subscript o ix p3) X.env :: (assignEach [.Name z p4] X.env).map (·.2) := by rfl) (h2 : (assignEach [.Name z p4] X.env).map (·.2) = assign (.Name z p4) X.env :: (assignEach [] X.env).map (·.2) := by rfl)
    (hn2 : (assignEach [.Subscript o ix p3, .Name z p4] X.env).length = 2 := by rfl) (hst : (assignEach [.Subscript o ix p3, .Name z p4] X.env).findIdx? (·.1) = none := by rfl)
    (has : ∀ v, assign (.Subscript o ix p3) X.env v = (do
      let ov ← holding [v] (eval o X.env)
      let iv ← holding [v, ov] (eval ix X.env)
      standAt p3
      holding [v, ov, iv] (setItem ov iv v)
      release [v, ov, iv] []) := by intro _; rfl) : cS X (.Assign [.Tuple [.Subscript o ix p3, .Name z p4] k1 p5] a pos :: rest) D σ H :=
  cs_one (ps_asg cE_pe (pg_tup hc (pgs_cons (pg_sub cE_pe cE_pe set_list has) (pgs_cons (pg_name nd hj hx2 hf2) pgs_nil h2) h1) hn2 hst) hs hw ht) (ha H (Same.refl H) _ fun t H1 s1 ht => by
    obtain ⟨m, u, v, rfl, h1, h2, h3⟩ := ht
    refine ⟨m, [u, v], rfl, SqT.of h1, rfl, u, [v], rfl, ho H1 s1 _ fun o H2 s2 h4 => hi H2 (s1.trans s2) _ fun w H3 s3 h5 => ?_⟩
    cases (show o = V.ref l from h4)
    cases (show w = V.int n from h5)
    refine ⟨l, vs, n, n.toNat, rfl, rfl, ((s1.trans s2).trans s3) _ _ hl, ?_, v, [], rfl, rfl, k u v H3 ((s1.trans s2).trans s3) (r.mono (s2.trans s3) h2) (q.mono (s2.trans s3) h3)⟩
    unfold ixN
    rw [if_pos hn.1, if_pos hn.2])
/-- xs[a draw] -/
theorem evp_ix {xs : List α} {v : V} {p1 : Int → Prop} (hP : Hk P = none) (ha : Ev X σ Hk a (rV v) ()) (hv : (rL r).rel X.K Hk v xs) (hb : EvP X σ P Hk b rI p1) (hx : ∀ i, p1 i → 0 ≤ i ∧ i < xs.length) (hs : PlainIx b := by exact fun _ _ => rfl) : EvP X σ P Hk (.Subscript a b pos) r (fun x => x ∈ xs) := fun H1 s1 hp Q c =>
  cE_of (pe_ix ix_list cE_pe cE_pe hs) (ha H1 s1 _ fun u H2 s2 hu => by
    cases (show u = v from hu)
    refine hb H2 (s1.trans s2) (hp.same s2) _ fun i w H3 hi px hw => ?_
    have sk : Same Hk (er P H3) := ((er_k hP (s1.trans s2)).trans px.er)
    obtain ⟨l, ws, rfl, h1, h2⟩ := (rL r).mono sk hv
    have hib := hx i hi
    obtain ⟨t, h3, h4⟩ := pr_get h2 (List.getElem?_eq_getElem (l := xs) (i := i.toNat) (by omega))
    have e : ((i.toNat : Nat) : Int) = i := by omega
    refine ⟨l, ws, i, t, rfl, hw, SqL.of (same_er _ _ h1), by rw [← e]; exact atI_nat h3, c _ t H3 (List.getElem_mem _) ((Px.of hp s2).tr px) h4⟩)
end
end K06
/-! ==== DK ==== -/
set_option Elab.async false
set_option linter.all false
set_option maxRecDepth 100000
set_option maxHeartbeats 4000000
namespace K06
open PySem L2 PySem.Spec PyProof.Rows RZ

abbrev sp__law_undone (K : Fr) : Sp := spF (aC (rI) (aC (rI) (a0))) (fun (_law_prime, _law_rest, _) => P357 _law_prime ∧ 0 < _law_rest ∧ _law_rest < _law_prime) (rI) (fun (_law_prime, _law_rest, _) => (lundL _law_prime _law_rest).getD 0 0) K
theorem sc__law_undone : FnScope ["_law_prime", "_law_rest", "_law_one"] ["_law_prime", "_law_rest"] (defScope (top 97)) := ⟨rfl, rfl, rfl, by decide +kernel, rfl, by decide +kernel, by decide +kernel⟩
theorem df__law_undone {P : Program} {w : World} {K : Fr} {mg : Str → Option Value} {base : Heap} (T : Tx K mg) : Df P w K mg base 1 "_law_undone" ["_law_prime", "_law_rest"] (sp__law_undone K) := by
  obtain ⟨fd, F⟩ := T.dx 75 (d := d75) rfl
  refine ⟨_, fd, T.gl 69 rfl, F.kp, F.bindsN (fun _ _ _ _ _ _ us hl => match us, hl with | [_, _], _ => rfl), ?_⟩
  refine F.ok sc__law_undone (fun vs H Q E h => ?_) (fun cdv A outer s H vs Q E hr h => ⟨_, PSs.nox cS_pss, ?_⟩)
  · obtain ⟨⟨_law_prime, _law_rest, u_end⟩, ⟨v__law_prime, _, rfl, h__law_prime, ⟨v__law_rest, _, rfl, h__law_rest, h_end⟩⟩, g⟩ := h
    cases h_end
    rfl
  · obtain ⟨⟨_law_prime, _law_rest, u_end⟩, ⟨v__law_prime, _, rfl, h__law_prime, ⟨v__law_rest, _, rfl, h__law_rest, h_end⟩⟩, g, kk⟩ := h
    cases h_end
    replace h__law_prime : Rp.rel (rI) K H v__law_prime _law_prime := h__law_prime
    replace h__law_rest : Rp.rel (rI) K H v__law_rest _law_rest := h__law_rest
    replace g : P357 _law_prime ∧ 0 < _law_rest ∧ _law_rest < _law_prime := g
    replace kk : ∀ v H2, Same H H2 → Rp.rel (rI) K H2 v ((lundL _law_prime _law_rest).getD 0 0) → Q v H2 := kk
    have hb := g.1.b
    have hl := lund_pos g.1 g.2
    refine cs_ret ?_ fun v H1 s1 hv => kk v H1 s1 hv
    refine ev_ixLd (d := 0) (xs := lundL _law_prime _law_rest) ?_ ev_i (by omega)
    have e : lundL _law_prime _law_rest = (lundL _law_prime _law_rest).map fun x => x := by rw [List.map_id']
    rw [e]
    exact ev_lc1f (q := rI) (f := fun x => x) sc__law_undone.nd (j := 2) (src_R1 (m_range T) (ev_v 0 h__law_prime) (by omega)) (blkOk_by (N := ["_law_prime", "_law_rest", "_law_one"]) (sc := defScope (top 97)) (by decide +kernel)) ⟨rfl, by first | exact Or.inl rfl | exact Or.inr rfl, by first | exact Or.inr rfl | exact Or.inl rfl⟩ (fun s Hs C cl fp x hx v H1 s1 hv => et_eq (ev_mod (ev_mul (ev_v 2 hv) (ev_v 1 (rI.mono s1 h__law_rest)) (by have := ups_mem hx; unfold Sm; omega)) (ev_v 0 (rI.mono s1 h__law_prime)) (by omega)) ev_i) fun s Hs C cl fp x hx _ v H1 s1 hv => ev_v 2 hv
abbrev sp__law_plus (K : Fr) : Sp := spF (aC (rI) (aC (rL rI) (aC (rL rI) (aC (rI) (a0))))) (fun (_law_prime, _law_row, _law_other_here, _law_rest, _) => 0 < _law_prime ∧ Sm _law_rest) (rT rI) (fun (_law_prime, _law_row, _law_other_here, _law_rest, _) => sumM _law_prime _law_row _law_other_here _law_rest) K
theorem sc__law_plus : FnScope ["_law_prime", "_law_row", "_law_other_here", "_law_rest", "_law_near", "_law_far"] ["_law_prime", "_law_row", "_law_other_here", "_law_rest"] (defScope (top 98)) := ⟨rfl, rfl, rfl, by decide +kernel, rfl, by decide +kernel, by decide +kernel⟩
theorem df__law_plus {P : Program} {w : World} {K : Fr} {mg : Str → Option Value} {base : Heap} (T : Tx K mg) : Df P w K mg base 1 "_law_plus" ["_law_prime", "_law_row", "_law_other_here", "_law_rest"] (sp__law_plus K) := by
  obtain ⟨fd, F⟩ := T.dx 76 (d := d76) rfl
  refine ⟨_, fd, T.gl 70 rfl, F.kp, F.bindsN (fun _ _ _ _ _ _ us hl => match us, hl with | [_, _, _, _], _ => rfl), ?_⟩
  refine F.ok sc__law_plus (fun vs H Q E h => ?_) (fun cdv A outer s H vs Q E hr h => ⟨_, PSs.nox cS_pss, ?_⟩)
  · obtain ⟨⟨_law_prime, _law_row, _law_other_here, _law_rest, u_end⟩, ⟨v__law_prime, _, rfl, h__law_prime, ⟨v__law_row, _, rfl, h__law_row, ⟨v__law_other_here, _, rfl, h__law_other_here, ⟨v__law_rest, _, rfl, h__law_rest, h_end⟩⟩⟩⟩, g⟩ := h
    cases h_end
    rfl
  · obtain ⟨⟨_law_prime, _law_row, _law_other_here, _law_rest, u_end⟩, ⟨v__law_prime, _, rfl, h__law_prime, ⟨v__law_row, _, rfl, h__law_row, ⟨v__law_other_here, _, rfl, h__law_other_here, ⟨v__law_rest, _, rfl, h__law_rest, h_end⟩⟩⟩⟩, g, kk⟩ := h
    cases h_end
    replace h__law_prime : Rp.rel (rI) K H v__law_prime _law_prime := h__law_prime
    replace h__law_row : Rp.rel (rL rI) K H v__law_row _law_row := h__law_row
    replace h__law_other_here : Rp.rel (rL rI) K H v__law_other_here _law_other_here := h__law_other_here
    replace h__law_rest : Rp.rel (rI) K H v__law_rest _law_rest := h__law_rest
    replace g : 0 < _law_prime ∧ Sm _law_rest := g
    replace kk : ∀ v H2, Same H H2 → Rp.rel (rT rI) K H2 v (sumM _law_prime _law_row _law_other_here _law_rest) → Q v H2 := kk
    refine cs_ret ?_ fun v H1 s1 hv => kk v H1 s1 hv
    refine ev_tupL (m_tuple T) (ev_lc2 sc__law_plus.nd (j := 4) (k := 5) (src_zL (m_zip T) (ev_v 1 h__law_row) (ev_v 2 h__law_other_here)) (blkOk_by (N := ["_law_prime", "_law_row", "_law_other_here", "_law_rest", "_law_near", "_law_far"]) (sc := defScope (top 98)) (by decide +kernel)) ⟨rfl, by first | exact Or.inl rfl | exact Or.inr rfl, by first | exact Or.inr rfl | exact Or.inl rfl⟩ ⟨rfl, by first | exact Or.inl rfl | exact Or.inr rfl, by first | exact Or.inr rfl | exact Or.inl rfl⟩ (by decide) fun s Hs C cl fp x hx u v H1 s1 hu hv => ev_mod (ev_add (ev_v 4 hu) (ev_mul (ev_v 3 (rI.mono s1 h__law_rest)) (ev_v 5 hv) g.2)) (ev_v 0 (rI.mono s1 h__law_prime)) g.1)
abbrev sp__law_between (K : Fr) : Sp := spF (aC (rI) (aC (rL (rL rI)) (aC (rL rI) (aC (rL rI) (a0))))) (fun (_law_prime, _law_grid, _law_row, _law_other_here, _) => (0 < _law_prime ∧ (∀ x ∈ _law_row, Sm x)) ∧ ∀ line ∈ _law_grid, ∀ x ∈ line, Sm x) (rI) (fun (_law_prime, _law_grid, _law_row, _law_other_here, _) => lbtM _law_prime _law_grid _law_row _law_other_here) K
theorem sc__law_between : FnScope ["_law_prime", "_law_grid", "_law_row", "_law_other_here", "_law_total", "_law_number", "_law_line", "_law_one", "_law_far"] ["_law_prime", "_law_grid", "_law_row", "_law_other_here"] (defScope (top 99)) := ⟨rfl, rfl, rfl, by decide +kernel, rfl, by decide +kernel, by decide +kernel⟩
theorem df__law_between {P : Program} {w : World} {K : Fr} {mg : Str → Option Value} {base : Heap} (T : Tx K mg) : Df P w K mg base 1 "_law_between" ["_law_prime", "_law_grid", "_law_row", "_law_other_here"] (sp__law_between K) := by
  obtain ⟨fd, F⟩ := T.dx 77 (d := d77) rfl
  refine ⟨_, fd, T.gl 71 rfl, F.kp, F.bindsN (fun _ _ _ _ _ _ us hl => match us, hl with | [_, _, _, _], _ => rfl), ?_⟩
  refine F.ok sc__law_between (fun vs H Q E h => ?_) (fun cdv A outer s H vs Q E hr h => ⟨_, PSs.nox cS_pss, ?_⟩)
  · obtain ⟨⟨_law_prime, _law_grid, _law_row, _law_other_here, u_end⟩, ⟨v__law_prime, _, rfl, h__law_prime, ⟨v__law_grid, _, rfl, h__law_grid, ⟨v__law_row, _, rfl, h__law_row, ⟨v__law_other_here, _, rfl, h__law_other_here, h_end⟩⟩⟩⟩, g⟩ := h
    cases h_end
    rfl
  · obtain ⟨⟨_law_prime, _law_grid, _law_row, _law_other_here, u_end⟩, ⟨v__law_prime, _, rfl, h__law_prime, ⟨v__law_grid, _, rfl, h__law_grid, ⟨v__law_row, _, rfl, h__law_row, ⟨v__law_other_here, _, rfl, h__law_other_here, h_end⟩⟩⟩⟩, g, kk⟩ := h
    cases h_end
    replace h__law_prime : Rp.rel (rI) K H v__law_prime _law_prime := h__law_prime
    replace h__law_grid : Rp.rel (rL (rL rI)) K H v__law_grid _law_grid := h__law_grid
    replace h__law_row : Rp.rel (rL rI) K H v__law_row _law_row := h__law_row
    replace h__law_other_here : Rp.rel (rL rI) K H v__law_other_here _law_other_here := h__law_other_here
    replace g : (0 < _law_prime ∧ (∀ x ∈ _law_row, Sm x)) ∧ ∀ line ∈ _law_grid, ∀ x ∈ line, Sm x := g
    replace kk : ∀ v H2, Same H H2 → Rp.rel (rI) K H2 v (lbtM _law_prime _law_grid _law_row _law_other_here) → Q v H2 := kk
    refine cs_set (i := 4) sc__law_between.nd rfl ev_i fun v1 H1 s1 hv1 => ?_
    refine cs_for2 (j := 5) (k := 6) sc__law_between.nd rfl rfl (src_zL (m_zip T) (ev_v 2 (Rp.mono _ (s1) h__law_row)) (ev_v 1 (Rp.mono _ (s1) h__law_grid))) (fun _ i σ' H' => ∃ w o1 o2, σ' = [some v__law_prime, some v__law_grid, some v__law_row, some v__law_other_here, some w, o1, o2, none, none] ∧ rI.rel K H' w (((_law_row.zip _law_grid).take i).foldl (fun t z => if z.1 = 0 then t else t + z.1 * ((z.2.zip _law_other_here).map fun y => y.1 * y.2).sum) 0)) (fun H2 s2 => ⟨v1, none, none, rfl, rI.mono s2 hv1⟩) ?_ ?_ ?_
    · rintro H2 s2 i x u v σ' H' hx s3 hu hv ⟨w, o1, o2, rfl, hw⟩
      have hm := List.of_mem_zip (List.mem_of_getElem? hx)
      rw [fold_take _ _ hx]
      generalize ((_law_row.zip _law_grid).take i).foldl (fun t z => if z.1 = 0 then t else t + z.1 * ((z.2.zip _law_other_here).map fun y => y.1 * y.2).sum) 0 = t0 at hw ⊢
      refine cs_if (et_ne (ev_v 5 hu) ev_i) (fun q H3 s4 => ?_) fun q H3 s4 => cs_nil (cs_nil ⟨s3.trans s4, w, some u, some v, rfl, ?_⟩)
      · have q' : ¬ x.1 = 0 := by simpa using q
        rw [if_neg q']
        refine cs_set (i := 4) sc__law_between.nd rfl (ev_add (ev_v 4 (rI.mono s4 hw)) (ev_mul (ev_v 5 (rI.mono s4 hu)) (ev_sum (m_sum T) (ev_lc2 sc__law_between.nd (j := 7) (k := 8) (src_zL (m_zip T) (ev_v 6 (Rp.mono _ s4 hv)) (ev_v 3 (Rp.mono _ (((s1.trans s2).trans s3).trans s4) h__law_other_here))) (blkOk_by (N := ["_law_prime", "_law_grid", "_law_row", "_law_other_here", "_law_total", "_law_number", "_law_line", "_law_one", "_law_far"]) (sc := defScope (top 99)) (by decide +kernel)) ⟨rfl, by first | exact Or.inl rfl | exact Or.inr rfl, by first | exact Or.inr rfl | exact Or.inl rfl⟩ ⟨rfl, by first | exact Or.inl rfl | exact Or.inr rfl, by first | exact Or.inr rfl | exact Or.inl rfl⟩ (by decide) fun s' Hs C cl fp y hy u' v' H4 s5 hu' hv' => ev_mul (ev_v 7 hu') (ev_v 8 hv') (g.2 _ hm.2 _ (List.of_mem_zip hy).1))) (g.1.2 _ hm.1))) fun v4 H4 s5 hv4 => cs_nil (cs_nil ⟨(s3.trans s4).trans s5, v4, some u, some v, rfl, hv4⟩)
      · have q' : x.1 = 0 := by simpa using q
        rw [if_pos q']
        exact rI.mono s4 hw
    · rintro H2 s2 i σ' H3 H4 s4 ⟨w, o1, o2, rfl, hw⟩
      exact ⟨w, o1, o2, rfl, rI.mono s4 hw⟩
    · rintro H2 s2 σ' H' s3 ⟨w, o1, o2, rfl, hw⟩
      rw [List.take_length] at hw
      exact cs_ret (x := lbtM _law_prime _law_grid _law_row _law_other_here) (ev_mod (ev_v 4 hw) (ev_v 0 (Rp.mono _ ((s1.trans s2).trans s3) h__law_prime)) g.1.1) fun v H4 s4 hv => kk v H4 (((s1.trans s2).trans s3).trans s4) hv
abbrev sp__law_led (K : Fr) : Sp := spG (aC (rI) (aC (rL (rL rI)) (aC (rL (rL rI)) (a0)))) (fun (_law_prime, _law_table, _law_grid, _) => (0 < _law_prime ∧ ∀ row ∈ _law_table, ∀ x ∈ row, Sm x) ∧ ∀ line ∈ _law_grid, ∀ x ∈ line, Sm x) (fun (_law_prime, _law_table, _law_grid, _) => lledM _law_prime _law_table _law_grid) K
theorem sc__law_led : FnScope ["_law_prime", "_law_table", "_law_grid", "_law_far", "_law_near"] ["_law_prime", "_law_table", "_law_grid"] (defScope (top 101)) := ⟨rfl, rfl, rfl, by decide +kernel, rfl, by decide +kernel, by decide +kernel⟩
theorem df__law_led {P : Program} {w : World} {K : Fr} {mg : Str → Option Value} {base : Heap} (T : Tx K mg) : Df P w K mg base 2 "_law_led" ["_law_prime", "_law_table", "_law_grid"] (sp__law_led K) := by
  have D__law_between := df__law_between (P := P) (w := w) (base := base) T
  obtain ⟨fd, F⟩ := T.dx 79 (d := d79) rfl
  refine ⟨_, fd, T.gl 73 rfl, F.kp, F.bindsN (fun _ _ _ _ _ _ us hl => match us, hl with | [_, _, _], _ => rfl), ?_⟩
  refine F.ok sc__law_led (fun vs H Q E h => ?_) (fun cdv A outer s H vs Q E hr h => ⟨_, PSs.nox cS_pss, ?_⟩)
  · obtain ⟨⟨_law_prime, _law_table, _law_grid, u_end⟩, ⟨v__law_prime, _, rfl, h__law_prime, ⟨v__law_table, _, rfl, h__law_table, ⟨v__law_grid, _, rfl, h__law_grid, h_end⟩⟩⟩, g⟩ := h
    cases h_end
    rfl
  · obtain ⟨⟨_law_prime, _law_table, _law_grid, u_end⟩, ⟨v__law_prime, _, rfl, h__law_prime, ⟨v__law_table, _, rfl, h__law_table, ⟨v__law_grid, _, rfl, h__law_grid, h_end⟩⟩⟩, g, kk⟩ := h
    cases h_end
    replace h__law_prime : Rp.rel (rI) K H v__law_prime _law_prime := h__law_prime
    replace h__law_table : Rp.rel (rL (rL rI)) K H v__law_table _law_table := h__law_table
    replace h__law_grid : Rp.rel (rL (rL rI)) K H v__law_grid _law_grid := h__law_grid
    replace g : (0 < _law_prime ∧ ∀ row ∈ _law_table, ∀ x ∈ row, Sm x) ∧ ∀ line ∈ _law_grid, ∀ x ∈ line, Sm x := g
    replace kk : ∀ D as H2, H D = none → D ∉ as → as.Nodup → (∀ a ∈ as, H a = none) → Same H H2 → H2 D = some (.lst (as.map V.ref)) → At rI K H2 as (lledM _law_prime _law_table _law_grid) → Q (.ref D) H2 := kk
    refine cs_retG (eg_lc1 (q := rI) (f := fun near => _law_table.map fun far => lbtM _law_prime _law_grid near far) sc__law_led.nd (j := 4) (src_L (ev_v 1 h__law_table)) (blkOk_by (N := ["_law_prime", "_law_table", "_law_grid", "_law_far", "_law_near"]) (sc := defScope (top 101)) (by decide +kernel)) ⟨rfl, by first | exact Or.inl rfl | exact Or.inr rfl, by first | exact Or.inr rfl | exact Or.inl rfl⟩ (fun s Hs C cl fp x hx v H1 s1 hv => en_lc1 (q := rI) (f := fun far => lbtM _law_prime _law_grid x far) sc__law_led.nd (j := 3) (src_L (ev_v 1 (Rp.mono _ s1 h__law_table))) (blkOk_by (N := ["_law_prime", "_law_table", "_law_grid", "_law_far", "_law_near"]) (sc := relS _ (defScope (top 101))) (by decide +kernel)) ⟨rfl, by first | exact Or.inl rfl | exact Or.inr rfl, by first | exact Or.inr rfl | exact Or.inl rfl⟩ fun s' Hs' C' cl' fp' y hy w H2 s2 hw => ev_call D__law_between (hr.mono (by decide)) (ea_c (ev_v 0 (rI.mono (s1.trans s2) h__law_prime)) (ea_c (ev_v 2 (Rp.mono _ (s1.trans s2) h__law_grid)) (ea_c (ev_v 4 (Rp.mono _ s2 hv)) (ea_c (ev_v 3 hw) ea_0)))) ⟨⟨g.1.1, g.1.2 x hx⟩, g.2⟩)) kk
abbrev sp__law_beside (K : Fr) : Sp := spF (aC (rL (rL rI)) (aC (rL (rL rI)) (a0))) (fun (_law_grid, _law_other_here, _) => (_law_grid.length ≤ 6 ∧ _law_other_here.length ≤ 6) ∧ (∀ row ∈ _law_grid, row.length ≤ 6) ∧ ∀ row ∈ _law_other_here, row.length ≤ 6) (rL (rL rI)) (fun (_law_grid, _law_other_here, _) => bsdM _law_grid _law_other_here) K
theorem sc__law_beside : FnScope ["_law_grid", "_law_other_here", "_law_row"] ["_law_grid", "_law_other_here"] (defScope (top 105)) := ⟨rfl, rfl, rfl, by decide +kernel, rfl, by decide +kernel, by decide +kernel⟩
theorem df__law_beside {P : Program} {w : World} {K : Fr} {mg : Str → Option Value} {base : Heap} (T : Tx K mg) : Df P w K mg base 1 "_law_beside" ["_law_grid", "_law_other_here"] (sp__law_beside K) := by
  obtain ⟨fd, F⟩ := T.dx 83 (d := d83) rfl
  refine ⟨_, fd, T.gl 77 rfl, F.kp, F.bindsN (fun _ _ _ _ _ _ us hl => match us, hl with | [_, _], _ => rfl), ?_⟩
  refine F.ok sc__law_beside (fun vs H Q E h => ?_) (fun cdv A outer s H vs Q E hr h => ⟨_, PSs.nox cS_pss, ?_⟩)
  · obtain ⟨⟨_law_grid, _law_other_here, u_end⟩, ⟨v__law_grid, _, rfl, h__law_grid, ⟨v__law_other_here, _, rfl, h__law_other_here, h_end⟩⟩, g⟩ := h
    cases h_end
    rfl
  · obtain ⟨⟨_law_grid, _law_other_here, u_end⟩, ⟨v__law_grid, _, rfl, h__law_grid, ⟨v__law_other_here, _, rfl, h__law_other_here, h_end⟩⟩, g, kk⟩ := h
    cases h_end
    replace h__law_grid : Rp.rel (rL (rL rI)) K H v__law_grid _law_grid := h__law_grid
    replace h__law_other_here : Rp.rel (rL (rL rI)) K H v__law_other_here _law_other_here := h__law_other_here
    replace g : (_law_grid.length ≤ 6 ∧ _law_other_here.length ≤ 6) ∧ (∀ row ∈ _law_grid, row.length ≤ 6) ∧ ∀ row ∈ _law_other_here, row.length ≤ 6 := g
    replace kk : ∀ v H2, Same H H2 → Rp.rel (rL (rL rI)) K H2 v (bsdM _law_grid _law_other_here) → Q v H2 := kk
    refine cs_ret ?_ fun v H1 s1 hv => kk v H1 s1 hv
    refine ev_cat (EvG.n (eg_lc1 (q := rI) (f := fun row : Rw => row ++ List.replicate _law_other_here.length (0 : Int)) sc__law_beside.nd (j := 2) (src_L (ev_v 0 h__law_grid)) (blkOk_by (N := ["_law_grid", "_law_other_here", "_law_row"]) (sc := defScope (top 105)) (by decide +kernel)) ⟨rfl, by first | exact Or.inl rfl | exact Or.inr rfl, by first | exact Or.inr rfl | exact Or.inl rfl⟩ (fun s Hs C cl fp x hx v H1 s1 hv => en_cat (en_lstQ (X := Bk _ _ s Hs C cl fp) (rr := rL rI) (m_list T) (ev_v 2 hv)).ev (Ev.is (ev_repL (k := (_law_other_here.length : Int)) (ev_L1 ev_i) (ev_lenL (X := Bk _ _ s Hs C cl fp) (m_len T) (ev_v 1 (Rp.mono _ s1 h__law_other_here))) (by omega)) (by rw [Int.toNat_natCast])) ?_))).ev (EvG.n (eg_lc1 (q := rI) (f := fun row : Rw => List.replicate _law_grid.length (0 : Int) ++ row) sc__law_beside.nd (j := 2) (src_L (ev_v 1 h__law_other_here)) (blkOk_by (N := ["_law_grid", "_law_other_here", "_law_row"]) (sc := defScope (top 105)) (by decide +kernel)) ⟨rfl, by first | exact Or.inl rfl | exact Or.inr rfl, by first | exact Or.inr rfl | exact Or.inl rfl⟩ (fun s Hs C cl fp x hx v H1 s1 hv => en_cat (Ev.is (ev_repL (k := (_law_grid.length : Int)) (ev_L1 ev_i) (ev_lenL (X := Bk _ _ s Hs C cl fp) (m_len T) (ev_v 0 (Rp.mono _ s1 h__law_grid))) (by omega)) (by rw [Int.toNat_natCast])) (en_lstQ (X := Bk _ _ s Hs C cl fp) (rr := rL rI) (m_list T) (ev_v 2 hv)).ev ?_))).ev ?_
    · have := g.2.1 x hx
      rw [List.length_replicate]
      omega
    · have := g.2.2 x hx
      rw [List.length_replicate]
      omega
    · rw [List.length_map, List.length_map]
      omega
abbrev sp__law_folded (K : Fr) : Sp := spF (aC (rI) (aC (rL rI) (aC (rL rI) (a0)))) (fun (_law_prime, _law_near, _law_far, _) => (0 < _law_prime ∧ _law_prime ≤ 1000) ∧ (_law_near.length = _law_prime.toNat ∧ _law_far.length = _law_prime.toNat) ∧ ∀ x ∈ _law_near, Sm x) (rL rI) (fun (_law_prime, _law_near, _law_far, _) => foldM _law_prime _law_near _law_far) K
theorem sc__law_folded : FnScope ["_law_prime", "_law_near", "_law_far", "_law_one", "_law_rest"] ["_law_prime", "_law_near", "_law_far"] (defScope (top 106)) := ⟨rfl, rfl, rfl, by decide +kernel, rfl, by decide +kernel, by decide +kernel⟩
theorem df__law_folded {P : Program} {w : World} {K : Fr} {mg : Str → Option Value} {base : Heap} (T : Tx K mg) : Df P w K mg base 1 "_law_folded" ["_law_prime", "_law_near", "_law_far"] (sp__law_folded K) := by
  obtain ⟨fd, F⟩ := T.dx 84 (d := d84) rfl
  refine ⟨_, fd, T.gl 78 rfl, F.kp, F.bindsN (fun _ _ _ _ _ _ us hl => match us, hl with | [_, _, _], _ => rfl), ?_⟩
  refine F.ok sc__law_folded (fun vs H Q E h => ?_) (fun cdv A outer s H vs Q E hr h => ⟨_, PSs.nox cS_pss, ?_⟩)
  · obtain ⟨⟨_law_prime, _law_near, _law_far, u_end⟩, ⟨v__law_prime, _, rfl, h__law_prime, ⟨v__law_near, _, rfl, h__law_near, ⟨v__law_far, _, rfl, h__law_far, h_end⟩⟩⟩, g⟩ := h
    cases h_end
    rfl
  · obtain ⟨⟨_law_prime, _law_near, _law_far, u_end⟩, ⟨v__law_prime, _, rfl, h__law_prime, ⟨v__law_near, _, rfl, h__law_near, ⟨v__law_far, _, rfl, h__law_far, h_end⟩⟩⟩, g, kk⟩ := h
    cases h_end
    replace h__law_prime : Rp.rel (rI) K H v__law_prime _law_prime := h__law_prime
    replace h__law_near : Rp.rel (rL rI) K H v__law_near _law_near := h__law_near
    replace h__law_far : Rp.rel (rL rI) K H v__law_far _law_far := h__law_far
    replace g : (0 < _law_prime ∧ _law_prime ≤ 1000) ∧ (_law_near.length = _law_prime.toNat ∧ _law_far.length = _law_prime.toNat) ∧ ∀ x ∈ _law_near, Sm x := g
    replace kk : ∀ v H2, Same H H2 → Rp.rel (rL rI) K H2 v (foldM _law_prime _law_near _law_far) → Q v H2 := kk
    refine cs_ret ?_ fun v H1 s1 hv => kk v H1 s1 hv
    refine ev_lc1 (q := rI) (f := fun rest : Int => ((ups 0 _law_prime.toNat).map fun one : Int => _law_near.getD one.toNat 0 * _law_far.getD ((rest - one) % _law_prime).toNat 0).sum) sc__law_folded.nd (j := 4) (src_R1 (m_range T) (ev_v 0 h__law_prime) (by omega)) (blkOk_by (N := ["_law_prime", "_law_near", "_law_far", "_law_one", "_law_rest"]) (sc := defScope (top 106)) (by decide +kernel)) ⟨rfl, by first | exact Or.inl rfl | exact Or.inr rfl, by first | exact Or.inr rfl | exact Or.inl rfl⟩ fun s Hs C cl fp x hx v H1 s1 hv => ev_sum (X := Bk _ _ s Hs C cl fp) (m_sum T) (ev_lc1 (q := rI) (f := fun one : Int => _law_near.getD one.toNat 0 * _law_far.getD ((x - one) % _law_prime).toNat 0) sc__law_folded.nd (j := 3) (src_R1 (m_range T) (ev_v 0 (rI.mono s1 h__law_prime)) (by omega)) (blkOk_by (N := ["_law_prime", "_law_near", "_law_far", "_law_one", "_law_rest"]) (sc := relS _ (defScope (top 106))) (by decide +kernel)) ⟨rfl, by first | exact Or.inl rfl | exact Or.inr rfl, by first | exact Or.inr rfl | exact Or.inl rfl⟩ fun s' Hs' C' cl' fp' y hy w H2 s2 hw => ev_mul (ev_ixLd (d := 0) (ev_v 1 (Rp.mono _ (s1.trans s2) h__law_near)) (ev_v 3 hw) ?_) (ev_ixLd (d := 0) (ev_v 2 (Rp.mono _ (s1.trans s2) h__law_far)) (ev_mod (ev_sub (ev_v 4 (rI.mono s2 hv)) (ev_v 3 hw)) (ev_v 0 (rI.mono (s1.trans s2) h__law_prime)) g.1.1) ?_) ?_)
    · have := ups_mem hy
      omega
    · have h1 := Int.emod_nonneg (x - y) (show _law_prime ≠ 0 by omega)
      have h2 := Int.emod_lt_of_pos (x - y) g.1.1
      omega
    · have h1 := ups_mem hy
      rw [List.getD_eq_getElem?_getD, List.getElem?_eq_getElem (by omega)]
      exact g.2.2 _ (List.getElem_mem _)
end K06
/-! ==== DL ==== -/
set_option Elab.async false
set_option linter.all false
set_option maxRecDepth 100000
set_option maxHeartbeats 4000000
namespace K06
open PySem L2 PySem.Spec PyProof.Rows RZ

abbrev sp__law_draw (K : Fr) : Sp := spP (aC (rI) (a0)) (fun (_law_many, _) => 1 ≤ _law_many ∧ _law_many ≤ 1000) (rI) (fun (_law_many, _) res => 0 ≤ res ∧ res < _law_many) K
theorem sc__law_draw : FnScope ["_law_pot_here", "_law_many", "_law_digit"] ["_law_pot_here", "_law_many"] (defScope (top 95)) := ⟨rfl, rfl, rfl, by decide +kernel, rfl, by decide +kernel, by decide +kernel⟩
theorem df__law_draw {P : Program} {w : World} {K : Fr} {mg : Str → Option Value} {base : Heap} (T : Tx K mg) : Df P w K mg base 1 "_law_draw" ["_law_pot_here", "_law_many"] (sp__law_draw K) := by
  obtain ⟨fd, F⟩ := T.dx 73 (d := d73) rfl
  refine ⟨_, fd, T.gl 67 rfl, F.kp, F.bindsN (fun _ _ _ _ _ _ us hl => match us, hl with | [_, _], _ => rfl), ?_⟩
  refine F.ok sc__law_draw (fun vs H Q E h => ?_) (fun cdv A outer s H vs Q E hr h => ⟨_, PSs.nox cS_pss, ?_⟩)
  · obtain ⟨Pt, us, ⟨_law_many, u_end⟩, rfl, hpot, ⟨v__law_many, _, rfl, h__law_many, h_end⟩, g⟩ := h
    cases h_end
    rfl
  · obtain ⟨Pt, us, ⟨_law_many, u_end⟩, rfl, hpot, ⟨v__law_many, _, rfl, h__law_many, h_end⟩, g, kk⟩ := h
    cases h_end
    replace h__law_many : Rp.rel (rI) K (er Pt H) v__law_many _law_many := h__law_many
    replace g : 1 ≤ _law_many ∧ _law_many ≤ 1000 := g
    replace kk : ∀ res v H2, (0 ≤ res ∧ res < _law_many) → Px Pt H H2 → Rp.rel (rI) K (er Pt H2) v res → Q v H2 := kk
    obtain ⟨a, b, hP, ha0, hb0, hb1⟩ := hpot
    have hpr : (rL rI).rel K H (.ref Pt) [a, b] := ⟨Pt, _, rfl, hP, .cons rfl (.cons rfl .nil)⟩
    have h_m : rI.rel K H v__law_many _law_many := rI.mono same_er h__law_many
    refine cs_if (et_gt (ev_ixL (j := 0) (x := a) (ev_v 0 hpr) ev_i rfl) ev_i) (fun q H1 s1 => ?_) fun q H1 s1 => cs_nil ?_
    · refine cs_itemN (i := 2) (r := rI) (q := rI) (x := (a / _law_many, a % _law_many)) sc__law_draw.nd rfl (ev_divmod (m_divmod T) (ev_ixL (j := 0) (x := a) (ev_v 0 ((rL rI).mono s1 hpr)) ev_i rfl) (ev_v 1 (rI.mono s1 h_m)) (by omega)) (ev_v 0 rfl) ev_i (s1 _ _ hP) ⟨by decide, by show (0 : Int) < ((2 : Nat) : Int); decide⟩ fun u v H2 s2 hu hv => ?_
      cases (show u = V.int (a / _law_many) from hu)
      have px : Px Pt H (upd H2 Pt (.lst [.int (a / _law_many), .int b])) := ⟨same_mut (same_er.trans (s1.trans s2)) er_at, _, _, upd_same, Int.ediv_nonneg ha0 (by omega), hb0, hb1⟩
      exact cs_ret (ev_v 2 (r := rI) (d := a % _law_many) hv) fun v H3 s3 hv => kk _ _ H3 ⟨Int.emod_nonneg _ (by omega), Int.emod_lt_of_pos _ (by omega)⟩ (px.tr (Px.of px.2 s3)) hv
    · refine cs_item (r := rI) (x := (b * 39373 + 353) % 2147483587) (ev_mod (ev_intI (m_int T) (ev_add (ev_mul (ev_ixL (j := 1) (x := b) (ev_v 0 ((rL rI).mono s1 hpr)) ev_i rfl) ev_i (by unfold Sm; omega)) ev_i)) ev_i (by decide)) (ev_v 0 rfl) ev_i (s1 _ _ hP) ⟨by decide, by show (1 : Int) < ((2 : Nat) : Int); decide⟩ fun v H2 s2 hv => ?_
      cases (show v = V.int _ from hv)
      have hb2 := Int.emod_nonneg (b * 39373 + 353) (show (2147483587 : Int) ≠ 0 by decide)
      have hb3 := Int.emod_lt_of_pos (b * 39373 + 353) (show (0 : Int) < 2147483587 by decide)
      generalize (b * 39373 + 353) % 2147483587 = b' at hb2 hb3
      have px : Px Pt H (upd H2 Pt (.lst [.int a, .int b'])) := ⟨same_mut (same_er.trans (s1.trans s2)) er_at, a, b', upd_same, ha0, hb2, by omega⟩
      have hpr' : (rL rI).rel K (upd H2 Pt (.lst [.int a, .int b'])) (.ref Pt) [a, b'] := ⟨Pt, _, rfl, upd_same, .cons rfl (.cons rfl .nil)⟩
      have h_m' : rI.rel K (upd H2 Pt (.lst [.int a, .int b'])) v__law_many _law_many := rI.mono px.1 h__law_many
      exact cs_ret (ev_mod (ev_intI (m_int T) (ev_div (ev_mod (ev_intI (m_int T) (ev_mul (ev_ixL (j := 1) (x := b') (ev_v 0 hpr') ev_i rfl) (ev_ixL (j := 1) (x := b') (ev_v 0 hpr') ev_i rfl) (by unfold Sm; omega))) ev_i (by decide)) ev_i (by decide))) (ev_v 1 h_m') (by omega)) fun v H3 s3 hv => kk _ _ H3 ⟨Int.emod_nonneg _ (by omega), Int.emod_lt_of_pos _ (by omega)⟩ (px.tr (Px.of px.2 s3)) hv
abbrev sp__law_pick (K : Fr) : Sp := spP (aC (rL rI) (a0)) (fun (_law_some, _) => 1 ≤ _law_some.length ∧ _law_some.length ≤ 1000) (rI) (fun (_law_some, _) res => res ∈ _law_some) K
theorem sc__law_pick : FnScope ["_law_pot_here", "_law_some"] ["_law_pot_here", "_law_some"] (defScope (top 96)) := ⟨rfl, rfl, rfl, by decide +kernel, rfl, by decide +kernel, by decide +kernel⟩
theorem df__law_pick {P : Program} {w : World} {K : Fr} {mg : Str → Option Value} {base : Heap} (T : Tx K mg) : Df P w K mg base 2 "_law_pick" ["_law_pot_here", "_law_some"] (sp__law_pick K) := by
  have D__law_draw := df__law_draw (P := P) (w := w) (base := base) T
  obtain ⟨fd, F⟩ := T.dx 74 (d := d74) rfl
  refine ⟨_, fd, T.gl 68 rfl, F.kp, F.bindsN (fun _ _ _ _ _ _ us hl => match us, hl with | [_, _], _ => rfl), ?_⟩
  refine F.ok sc__law_pick (fun vs H Q E h => ?_) (fun cdv A outer s H vs Q E hr h => ⟨_, PSs.nox cS_pss, ?_⟩)
  · obtain ⟨Pt, us, ⟨_law_some, u_end⟩, rfl, hpot, ⟨v__law_some, _, rfl, h__law_some, h_end⟩, g⟩ := h
    cases h_end
    rfl
  · obtain ⟨Pt, us, ⟨_law_some, u_end⟩, rfl, hpot, ⟨v__law_some, _, rfl, h__law_some, h_end⟩, g, kk⟩ := h
    cases h_end
    replace h__law_some : Rp.rel (rL rI) K (er Pt H) v__law_some _law_some := h__law_some
    replace g : 1 ≤ _law_some.length ∧ _law_some.length ≤ 1000 := g
    replace kk : ∀ res v H2, (res ∈ _law_some) → Px Pt H H2 → Rp.rel (rI) K (er Pt H2) v res → Q v H2 := kk
    refine cs_retP (P := Pt) (evp_ix er_at (ev_v 1 rfl) h__law_some (evp_call D__law_draw (hr.mono (by decide)) er_at (ev_v 0 rfl) (ap_c (x := (_law_some.length : Int)) er_at (ev_lenL (m_len T) (ev_v 1 h__law_some)) ap_0) (show 1 ≤ (_law_some.length : Int) ∧ (_law_some.length : Int) ≤ 1000 by omega)) fun i hi => hi) same_er hpot kk
end K06
/-! ==== KP ==== -/
set_option Elab.async false
set_option linter.all false
set_option maxRecDepth 100000
set_option maxHeartbeats 4000000
namespace K06
open PySem L2 PySem.Spec PyProof.Rows RZ
/-! ### what stands while the letters are made -/
def rTop : Rp Unit := ⟨fun _ _ _ _ => True, fun _ h => h⟩
def rA : Rp Addr := ⟨fun _ _ v a => v = .ref a, fun _ h => h⟩
structure LC (Pt T B : Addr) (bs : List Addr) (H0 : Hp) : Prop where
  tp : T ≠ Pt
  bp : B ≠ Pt
  bt : B ≠ T
  ne : ∀ b ∈ bs, b ≠ Pt ∧ b ≠ T ∧ b ≠ B
  t0 : H0 T = none
  b0 : ∀ b ∈ bs, H0 b = none
structure LJ (K : Fr) (p : Int) (n : Nat) (Pt T B : Addr) (bs : List Addr) (H0 H : Hp) (ts : List Addr) (tbl : Tb) : Prop where
  sm : Same (er Pt H0) H
  pot : Pot Pt H
  hT : H T = some (.lst (ts.map V.ref))
  hB : H B = some (.lst (bs.map V.ref))
  rows : At rI K H ts tbl
  dis : T ∉ ts ∧ Pt ∉ ts ∧ ∀ b ∈ bs, b ∉ ts
  bk : ∀ b ∈ bs, ∃ row : Rw, H b = some (.lst (row.map V.int)) ∧ RowOk p n row
  lt : LetM p n tbl
section
variable {K : Fr} {p : Int} {n : Nat} {Pt T B : Addr} {bs : List Addr} {H0 H H' : Hp} {ts : List Addr} {tbl : Tb}
theorem at_px : ∀ {ts : List Addr} {tbl : Tb}, At rI K H ts tbl → Pt ∉ ts → Same (er Pt H) H' → At rI K H' ts tbl
  | _, _, .nil, _, _ => .nil
  | _, _, .cons ⟨ws, h1, h2⟩ t, hn, s => .cons ⟨ws, s _ _ (by rw [er_ne (fun e => hn (by rw [e]; exact List.mem_cons_self ..))]; exact h1), h2⟩ (at_px t (fun h => hn (List.mem_cons_of_mem _ h)) s)
theorem LJ.px (c : LC Pt T B bs H0) (j : LJ K p n Pt T B bs H0 H ts tbl) (h : Px Pt H H') : LJ K p n Pt T B bs H0 H' ts tbl := by
  have lift : ∀ a o, a ≠ Pt → H a = some o → H' a = some o := fun a o ha e => h.1 _ _ (by rw [er_ne ha]; exact e)
  refine ⟨(same_er3 j.sm).trans h.1, h.2, lift _ _ c.tp j.hT, lift _ _ c.bp j.hB, at_px j.rows j.dis.2.1 h.1, j.dis, fun b hb => ?_, j.lt⟩
  obtain ⟨row, h1, h2⟩ := j.bk b hb
  exact ⟨row, lift _ _ (c.ne b hb).1 h1, h2⟩
theorem LJ.same (c : LC Pt T B bs H0) (j : LJ K p n Pt T B bs H0 H ts tbl) (s : Same H H') : LJ K p n Pt T B bs H0 H' ts tbl := j.px c (Px.of j.pot s)
theorem LJ.tab (j : LJ K p n Pt T B bs H0 H ts tbl) : (rL (rL rI)).rel K H (.ref T) tbl := ⟨T, _, rfl, j.hT, at_rel j.rows⟩
theorem at_set {q : Rp Int} {l : Addr} {ws : List V} {ys : Rw} (h1 : H l = some (.lst ws)) (h2 : Paired (q.rel K H) ws ys) : ∀ {as : List Addr} {yss : Tb} (i : Nat), At q K H as yss → At q K H (as.set i l) (yss.set i ys)
  | _, _, _, .nil => .nil
  | _, _, 0, .cons _ t => .cons ⟨ws, h1, h2⟩ t
  | _, _, i + 1, .cons h t => .cons h (at_set h1 h2 i t)
/-- a row of the table is a new one -/
theorem LJ.setT (c : LC Pt T B bs H0) {H1 : Hp} (j : LJ K p n Pt T B bs H0 H ts tbl) {l : Addr} {ws : List V} {row : Rw} (i : Nat) (hl : H l = none) (s : Same H H1) (h1 : H1 l = some (.lst ws)) (h2 : Paired (rI.rel K H1) ws row) (lt : LetM p n (tbl.set i row)) :
    LJ K p n Pt T B bs H0 (upd H1 T (.lst ((ts.map V.ref).set i (.ref l)))) (ts.set i l) (tbl.set i row) := by
  have j1 := j.same c s
  have hlT : T ≠ l := fun e => by rw [← e, j.hT] at hl; cases hl
  have hlP : Pt ≠ l := fun e => by
    obtain ⟨a, b, h, _⟩ := j.pot
    rw [← e, h] at hl
    cases hl
  have hlB : ∀ b ∈ bs, b ≠ l := fun b hb e => by
    obtain ⟨r, h, _⟩ := j.bk b hb
    rw [← e, h] at hl
    cases hl
  have hn : ∀ {x}, x ∉ ts → x ≠ l → x ∉ ts.set i l := fun h1 h2 h => (List.mem_or_eq_of_mem_set h).elim h1 h2
  have hd : T ∉ ts.set i l := hn j.dis.1 hlT
  refine ⟨same_mut j1.sm (by rw [er_ne c.tp]; exact c.t0), ?_, ?_, ?_, ?_, ⟨hd, hn j.dis.2.1 hlP, fun b hb => hn (j.dis.2.2 b hb) (hlB b hb)⟩, fun b hb => ?_, lt⟩
  · obtain ⟨a, b, h, h'⟩ := j1.pot
    exact ⟨a, b, by rw [upd_ne (Ne.symm c.tp)]; exact h, h'⟩
  · rw [← List.map_set]
    exact upd_same
  · rw [upd_ne c.bt]
    exact j1.hB
  · exact at_upd (q := rI) j1.hT hd (at_set h1 h2 i j1.rows)
  · obtain ⟨r, h, h'⟩ := j1.bk b hb
    exact ⟨r, by rw [upd_ne (c.ne b hb).2.1]; exact h, h'⟩
theorem LJ.setB (c : LC Pt T B bs H0) (j : LJ K p n Pt T B bs H0 H ts tbl) {b : Addr} (hb : b ∈ bs) {row : Rw} (h : RowOk p n row) : LJ K p n Pt T B bs H0 (upd H b (.lst (row.map V.int))) ts tbl := by
  obtain ⟨r0, h0, _⟩ := j.bk b hb
  refine ⟨same_mut j.sm (by rw [er_ne (c.ne b hb).1]; exact c.b0 b hb), ?_, ?_, ?_, at_upd (q := rI) h0 (j.dis.2.2 b hb) j.rows, j.dis, fun b' hb' => ?_, j.lt⟩
  · obtain ⟨a, z, h1, h2⟩ := j.pot
    exact ⟨a, z, by rw [upd_ne (Ne.symm (c.ne b hb).1)]; exact h1, h2⟩
  · rw [upd_ne (Ne.symm (c.ne b hb).2.1)]
    exact j.hT
  · rw [upd_ne (Ne.symm (c.ne b hb).2.2)]
    exact j.hB
  · by_cases e : b' = b
    · subst e
      exact ⟨row, upd_same, h⟩
    · obtain ⟨r, h1, h2⟩ := j.bk b' hb'
      exact ⟨r, by rw [upd_ne e]; exact h1, h2⟩
theorem pr_refs : ∀ as : List Addr, Paired (rA.rel K H) (as.map V.ref) as
  | [] => .nil
  | a :: as => .cons rfl (pr_refs as)
/-- a heap of one list -/
def one (B : Addr) (vs : List V) : Hp := fun b => if b = B then some (.lst vs) else none
theorem one_same {vs : List V} (h : H B = some (.lst vs)) : Same (one B vs) H := fun b o e => by
  unfold one at e
  by_cases q : b = B
  · rw [if_pos q] at e
    rw [q, h]
    exact e
  · rw [if_neg q] at e
    cases e
theorem one_at {vs : List V} : one B vs B = some (.lst vs) := if_pos rfl
end
theorem at_all {K : Fr} {p : Int} {n : Nat} {H : Hp} : ∀ {as : List Addr} {yss : Tb}, At rI K H as yss → TabOk p n yss → ∀ b ∈ as, ∃ row : Rw, H b = some (.lst (row.map V.int)) ∧ RowOk p n row
  | _, _, .cons (b := ys) ⟨ws, h1, h2⟩ t, hT, b, hb => by
    rcases List.mem_cons.mp hb with rfl | hb
    · refine ⟨ys, ?_, hT _ (List.mem_cons_self ..)⟩
      rw [h1, ints_p h2]
    · exact at_all t (fun r hr => hT r (List.mem_cons_of_mem _ hr)) b hb
section
variable {X : Cx} {σ : L2.St} {H : Hp} {α : Type} {r : Rp α} {a b : Expr} {pos : Pos} {D : Ends} {rest : List Stmt}
theorem cs_itemG {ix : Expr} {l : Addr} {vs : List V} {n : Int} {p2 : Pos} {xs : List α} (hv : EvN X σ H a r xs) (ho : Ev X σ H b (rV (.ref l)) ()) (hi : Ev X σ H ix rI n) (hl : H l = some (.lst vs)) (hn : 0 ≤ n ∧ n < vs.length)
    (k : ∀ m ws H1, H m = none → Same H H1 → H1 m = some (.lst ws) → Paired (r.rel X.K H1) ws xs → cS X rest D σ (upd H1 l (.lst (vs.set n.toNat (.ref m)))))
    (hs : swapsWithSole [.Subscript b ix p2] a pos.line X.env = pure false := by rfl) (hw : swappedStores [.Subscript b ix p2] a X.env = pure none := by rfl) (h1 : (assignEach [.Subscript b ix p2] X.env).map (·.2) = [assign (.Subscript b ix p2) X.env] := by rfl)
    (has : ∀ v, assign (.Subscript b ix p2) X.env v = (do
      let ov ← holding [v] (eval b X.env)
      let iv ← holding [v, ov] (eval ix X.env)
      standAt p2
      holding [v, ov, iv] (setItem ov iv v)
      release [v, ov, iv] []) := by intro _; rfl) : cS X (.Assign [.Subscript b ix p2] a pos :: rest) D σ H :=
  cs_one (ps_asg cE_pe (pg_sub cE_pe cE_pe set_list has) hs hw h1) (hv H (Same.refl H) _ fun m ws H1 hm s1 h1 h1' => ho H1 s1 _ fun o H2 s2 h2 => hi H2 (s1.trans s2) _ fun w H3 s3 h3 => by
    cases (show o = V.ref l from h2)
    cases (show w = V.int n from h3)
    refine ⟨l, vs, n, n.toNat, rfl, rfl, ((s1.trans s2).trans s3) _ _ hl, ?_, k m ws H3 hm ((s1.trans s2).trans s3) ((s2.trans s3) _ _ h1) (pmono (s2.trans s3) h1')⟩
    unfold ixN
    rw [if_pos hn.1, if_pos hn.2])
end
end K06
/-! ==== DM ==== -/
set_option Elab.async false
set_option linter.all false
set_option maxRecDepth 100000
set_option maxHeartbeats 4000000
namespace K06
open PySem L2 PySem.Spec PyProof.Rows RZ

abbrev sp__law_letters (K : Fr) : Sp := spP (aC (rI) (aC (rI) (a0))) (fun (_law_prime, _law_size, _) => P357 _law_prime ∧ ∃ n : Nat, (n : Int) = _law_size ∧ n ≤ 6) (r2 (rL (rL rI)) rTop) (fun (_law_prime, _law_size, _) res => LetM _law_prime _law_size.toNat res.1) K
theorem sc__law_letters : FnScope ["_law_pot_here", "_law_prime", "_law_size", "_law_table", "_law_j", "_law_i", "_law_back", "_law_row", "_law_turn", "_law_rest", "_law_number"] ["_law_pot_here", "_law_prime", "_law_size"] (defScope (top 100)) := ⟨rfl, rfl, rfl, by decide +kernel, rfl, by decide +kernel, by decide +kernel⟩
theorem df__law_letters {P : Program} {w : World} {K : Fr} {mg : Str → Option Value} {base : Heap} (T : Tx K mg) : Df P w K mg base 2 "_law_letters" ["_law_pot_here", "_law_prime", "_law_size"] (sp__law_letters K) := by
  have D__law_draw := df__law_draw (P := P) (w := w) (base := base) T
  have D__law_plus := df__law_plus (P := P) (w := w) (base := base) T
  have D__law_undone := df__law_undone (P := P) (w := w) (base := base) T
  obtain ⟨fd, F⟩ := T.dx 78 (d := d78) rfl
  refine ⟨_, fd, T.gl 72 rfl, F.kp, F.bindsN (fun _ _ _ _ _ _ us hl => match us, hl with | [_, _, _], _ => rfl), ?_⟩
  refine F.ok sc__law_letters (fun vs H Q E h => ?_) (fun cdv A outer s H vs Q E hr h => ⟨_, PSs.nox cS_pss, ?_⟩)
  · obtain ⟨Pt, us, ⟨_law_prime, _law_size, u_end⟩, rfl, hpot, ⟨v__law_prime, _, rfl, h__law_prime, ⟨v__law_size, _, rfl, h__law_size, h_end⟩⟩, g⟩ := h
    cases h_end
    rfl
  · obtain ⟨Pt, us, ⟨_law_prime, _law_size, u_end⟩, rfl, hpot, ⟨v__law_prime, _, rfl, h__law_prime, ⟨v__law_size, _, rfl, h__law_size, h_end⟩⟩, g, kk⟩ := h
    cases h_end
    replace h__law_prime : Rp.rel (rI) K (er Pt H) v__law_prime _law_prime := h__law_prime
    replace h__law_size : Rp.rel (rI) K (er Pt H) v__law_size _law_size := h__law_size
    replace g : P357 _law_prime ∧ ∃ n : Nat, (n : Int) = _law_size ∧ n ≤ 6 := g
    replace kk : ∀ res v H2, (LetM _law_prime _law_size.toNat res.1) → Px Pt H H2 → Rp.rel (r2 (rL (rL rI)) rTop) K (er Pt H2) v res → Q v H2 := kk
    obtain ⟨hp, n, rfl, hn⟩ := g
    rw [Int.toNat_natCast] at kk
    have hb := hp.b
    cases (show v__law_prime = V.int _law_prime from h__law_prime)
    cases (show v__law_size = V.int n from h__law_size)
    obtain ⟨pa, pb, hPt, hpab⟩ := hpot
    have hpot : Pot Pt H := ⟨pa, pb, hPt, hpab⟩
    refine cs_setG (q := rI) (f := fun i : Int => unitM n i) (i := 3) (j := 5) sc__law_letters.nd rfl (src_R1 (n := (n : Int)) (m_range T) (ev_v 2 rfl) (by omega)) (blkOk_by (N := ["_law_pot_here", "_law_prime", "_law_size", "_law_table", "_law_j", "_law_i", "_law_back", "_law_row", "_law_turn", "_law_rest", "_law_number"]) (sc := defScope (top 100)) (by decide +kernel)) ⟨rfl, by first | exact Or.inl rfl | exact Or.inr rfl, by first | exact Or.inr rfl | exact Or.inl rfl⟩ (fun s' Hs C cl fp x hx v H1 s1 hv => en_lc1 (q := rI) (f := fun t : Int => if t = x then 1 else 0) (j := 4) sc__law_letters.nd (src_R1 (X := Bk _ _ s' Hs C cl fp) (n := (n : Int)) (m_range T) (ev_v 2 rfl) (by omega)) (blkOk_by (N := ["_law_pot_here", "_law_prime", "_law_size", "_law_table", "_law_j", "_law_i", "_law_back", "_law_row", "_law_turn", "_law_rest", "_law_number"]) (sc := relS _ (defScope (top 100))) (by decide +kernel)) ⟨rfl, by first | exact Or.inl rfl | exact Or.inr rfl, by first | exact Or.inr rfl | exact Or.inl rfl⟩ fun s'' Hs' C' cl' fp' y hy w H2 s2 hw => Ev.is (ev_intB (X := Bk _ _ s'' Hs' C' cl' fp') (m_int T) (ev_eq (ev_v 5 (rI.mono s2 hv)) (ev_v 4 hw))) ?_) fun Ta as H1 hT hTa hnd has s1 h1 h2 => ?_
    · by_cases e : x = y
      · subst e
        simp
      · have e' : ¬ y = x := fun h => e h.symm
        simp [e, e']
    replace h2 : At rI K H1 as (idleM n) := h2
    have hP1 : H1 Pt = _ := s1 _ _ hPt
    refine cs_setG (q := rI) (f := fun row : Rw => row) (i := 6) (j := 7) sc__law_letters.nd rfl (src_L (xs := idleM n) (ev_v 3 (r := rL (rL rI)) ⟨Ta, _, rfl, h1, at_rel h2⟩)) (blkOk_by (N := ["_law_pot_here", "_law_prime", "_law_size", "_law_table", "_law_j", "_law_i", "_law_back", "_law_row", "_law_turn", "_law_rest", "_law_number"]) (sc := defScope (top 100)) (by decide +kernel)) ⟨rfl, by first | exact Or.inl rfl | exact Or.inr rfl, by first | exact Or.inr rfl | exact Or.inl rfl⟩ (fun s' Hs C cl fp x hx v H2 s2 hv => en_lstQ (X := Bk _ _ s' Hs C cl fp) (rr := rL rI) (m_list T) (ev_v 7 hv)) fun B bs H2 hB hBb hnd2 hbs s2 h3 h4 => ?_
    rw [List.map_id'] at h4
    have c : LC Pt Ta B bs H := by
      refine ⟨?_, ?_, ?_, fun b hbb => ⟨?_, ?_, ?_⟩, hT, fun b hbb => none_back s1 (hbs b hbb)⟩
      · intro e
        rw [e, hPt] at hT
        cases hT
      · intro e
        rw [e, hP1] at hB
        cases hB
      · intro e
        rw [e, h1] at hB
        cases hB
      · intro e
        have := hbs b hbb
        rw [e, hP1] at this
        cases this
      · intro e
        have := hbs b hbb
        rw [e, h1] at this
        cases this
      · intro e
        exact hBb (e ▸ hbb)
    have hd1 : Pt ∉ as := fun h => by
      have := has _ h
      rw [hPt] at this
      cases this
    have hd2 : ∀ b ∈ bs, b ∉ as := fun b hbb h => by
      obtain ⟨ws, e⟩ := at_mem h2 h
      rw [hbs b hbb] at e
      cases e
    have j0 : LJ K _law_prime n Pt Ta B bs H H2 as (idleM n) := ⟨same_er.trans (s1.trans s2), hpot.same (s1.trans s2), s2 _ _ h1, h3, at_mono s2 h2, ⟨hTa, hd1, hd2⟩, at_all h4 (idle_ok hb.1 n), .id⟩
    refine cs_forG1 (j := 8) (G := fun _ => True) sc__law_letters.nd rfl (srcG_R1 (n := if n > 1 then 4 else 0) (m_range T) (ev_if (et_gt (ev_v 2 (r := rI) (d := (n : Int)) rfl) ev_i) (fun q => Ev.is ev_i ?_) fun q => Ev.is ev_i ?_) ?_) (fun _ σ' H' => ∃ o4 o5 o7 o8 o9 ts tbl, σ' = [some (.ref Pt), some (.int _law_prime), some (.int n), some (.ref Ta), o4, o5, some (.ref B), o7, o8, o9, none] ∧ LJ K _law_prime n Pt Ta B bs H H' ts tbl) (fun H3 s3 => ⟨none, none, none, none, none, as, idleM n, rfl, j0.same c s3⟩) (fun _ _ _ _ => trivial) ?_ ?_
    · have := of_decide_eq_true q
      rw [if_pos (by omega)]
    · have := of_decide_eq_false q
      rw [if_neg (by omega)]
    · by_cases q : n > 1
      · rw [if_pos q]; omega
      · rw [if_neg q]; omega
    · rintro _ x v σ' H' hx hv ⟨o4, o5, o7, o8, o9, ts, tbl, rfl, j⟩
      have h1n : 1 < n := by
        have h5 := (List.getElem?_eq_some_iff.mp hx).1
        rw [ups_len] at h5
        by_cases q : n > 1
        · exact q
        · rw [if_neg q] at h5
          exact absurd h5 (Nat.not_lt_zero _)
      refine cs_setP (P := Pt) (i := 5) sc__law_letters.nd rfl (evp_call D__law_draw (hr.mono (by decide)) er_at (ev_v 0 rfl) (ap_c (x := (n : Int)) er_at (ev_v 2 rfl) ap_0) (show 1 ≤ (n : Int) ∧ (n : Int) ≤ 1000 by omega)) same_er j.pot fun i v1 H3 hi px hv1 => ?_
      cases (show v1 = V.int i from hv1)
      replace hi : 0 ≤ i ∧ i < (n : Int) := hi
      have j := j.px c px
      refine cs_setP (P := Pt) (i := 4) sc__law_letters.nd rfl (evp_mod (n := (n : Int)) (by omega) er_at (evp_int er_at (m_int T) (evp_add er_at (evp (x := i + 1) (ev_add (ev_v 5 rfl) ev_i)) fun _ _ => evp_call D__law_draw (hr.mono (by decide)) er_at (ev_v 0 rfl) (ap_c (x := (n : Int) - 1) er_at (ev_sub (ev_v 2 rfl) ev_i) ap_0) (show 1 ≤ (n : Int) - 1 ∧ (n : Int) - 1 ≤ 1000 by omega))) (ev_v 2 rfl)) same_er j.pot fun j' v2 H4 hj px2 hv2 => ?_
      cases (show v2 = V.int j' from hv2)
      obtain ⟨z, ⟨z1, z2, rfl, hz2, rfl⟩, rfl⟩ := hj
      replace hz2 : 0 ≤ z2 ∧ z2 < (n : Int) - 1 := hz2
      have hjm := jmod hi hz2
      generalize (i + 1 + z2) % (n : Int) = j' at hjm
      have j := j.px c px2
      refine cs_setP (P := Pt) (i := 9) sc__law_letters.nd rfl (evp_add er_at (evp (x := 1) ev_i) fun _ _ => evp_call D__law_draw (hr.mono (by decide)) er_at (ev_v 0 rfl) (ap_c (x := _law_prime - 1) er_at (ev_sub (ev_v 1 rfl) ev_i) ap_0) (show 1 ≤ _law_prime - 1 ∧ _law_prime - 1 ≤ 1000 by omega)) same_er j.pot fun rr v3 H5 hrr px3 hv3 => ?_
      cases (show v3 = V.int rr from hv3)
      obtain ⟨_, z3, rfl, hz3, rfl⟩ := hrr
      replace hz3 : 0 ≤ z3 ∧ z3 < _law_prime - 1 := hz3
      have hrb : 0 < 1 + z3 ∧ 1 + z3 < _law_prime := by omega
      generalize 1 + z3 = rr at hrb
      have j := j.px c px3
      have hlt := j.lt.ok hb.1
      have hSm : Sm rr := by unfold Sm; omega
      refine cs_itemG (r := rI) (xs := sumM _law_prime (tbl.getD i.toNat []) (tbl.getD j'.toNat []) rr) (en_lstQ (rr := rT rI) (m_list T) (ev_call D__law_plus (hr.mono (by decide)) (ea_c (ev_v 1 (r := rI) (d := _law_prime) rfl) (ea_c (ev_ixLd (d := []) (xs := tbl) (x := i) (ev_v 3 j.tab) (ev_v 5 rfl) ⟨hi.1, by rw [hlt.2]; exact hi.2⟩) (ea_c (ev_ixLd (d := []) (xs := tbl) (x := j') (ev_v 3 j.tab) (ev_v 4 rfl) ⟨hjm.1.1, by rw [hlt.2]; exact hjm.1.2⟩) (ea_c (ev_v 9 (r := rI) (d := rr) rfl) ea_0)))) ⟨by omega, hSm⟩)) (ev_v 3 rfl) (ev_v 5 (r := rI) (d := i) rfl) j.hT ⟨hi.1, by rw [List.length_map, j.rows.length, hlt.2]; exact hi.2⟩ fun l ws H6 hl s6 hl1 hl2 => ?_
      have j := j.setT c i.toNat hl s6 hl1 hl2 (.add i.toNat j'.toNat rr j.lt (by omega) (by omega) (by omega) hrb)
      generalize ts.set i.toNat l = ts' at j
      generalize tbl.set i.toNat (sumM _law_prime (tbl.getD i.toNat []) (tbl.getD j'.toNat []) rr) = tbl' at j
      generalize upd H6 Ta _ = H7 at j
      refine cs_forG1 (j := 7) (G := fun H1 => Same (one B (bs.map V.ref)) H1) sc__law_letters.nd rfl (srcG_L (Hk := one B (bs.map V.ref)) (r := rA) (xs := bs) (ev_v 6 rfl) ⟨B, _, rfl, one_at, pr_refs bs⟩ (one_same j.hB) fun _ h => h) (fun _ σ' H' => ∃ o7, σ' = [some (.ref Pt), some (.int _law_prime), some (.int n), some (.ref Ta), some (.int j'), some (.int i), some (.ref B), o7, some v, some (.int rr), none] ∧ LJ K _law_prime n Pt Ta B bs H H' ts' tbl') (fun H8 s8 => ⟨o7, rfl, j.same c s8⟩) (fun _ _ H8 ⟨_, _, j⟩ => one_same j.hB) ?_ ?_
      · rintro _ b v8 σ' H8 hx8 hv8 ⟨o7, rfl, j⟩
        cases (show v8 = V.ref b from hv8)
        have hbb := List.mem_of_getElem? hx8
        obtain ⟨row, hr1, hr2⟩ := j.bk b hbb
        have hrow : (rL rI).rel K H8 (.ref b) row := ⟨b, _, rfl, hr1, pr_ints row⟩
        refine cs_item (r := rI) (x := (row.getD j'.toNat 0 - rr * row.getD i.toNat 0) % _law_prime) (ev_mod (ev_sub (ev_ixLd (d := 0) (ev_v 7 hrow) (ev_v 4 rfl) ⟨hjm.1.1, by rw [hr2.1]; exact hjm.1.2⟩) (ev_mul (ev_v 9 rfl) (ev_ixLd (d := 0) (ev_v 7 hrow) (ev_v 5 rfl) ⟨hi.1, by rw [hr2.1]; exact hi.2⟩) hSm)) (ev_v 1 rfl) (by omega)) (ev_v 7 rfl) (ev_v 4 (r := rI) (d := j') rfl) hr1 ⟨hjm.1.1, by rw [List.length_map, hr2.1]; exact hjm.1.2⟩ fun y H9 s9 hy => cs_nil ⟨some (.ref b), rfl, ?_⟩
        cases (show y = V.int _ from hy)
        rw [← List.map_set]
        exact (j.same c s9).setB c hbb (set_ok hr2 _ ⟨Int.emod_nonneg _ (by omega), Int.emod_lt_of_pos _ (by omega)⟩)
      · rintro σ' H8 ⟨o7, rfl, j⟩
        exact cs_nil ⟨_, _, _, _, _, ts', tbl', rfl, j⟩
    · rintro σ' H' ⟨o4, o5, o7, o8, o9, ts, tbl, rfl, j⟩
      refine cs_forG1 (j := 5) (G := fun _ => True) sc__law_letters.nd rfl (srcG_R1 (n := (n : Int)) (m_range T) (ev_v 2 rfl) (by omega)) (fun _ σ' H' => ∃ o5 o7 o9 ts tbl, σ' = [some (.ref Pt), some (.int _law_prime), some (.int n), some (.ref Ta), o4, o5, some (.ref B), o7, o8, o9, none] ∧ LJ K _law_prime n Pt Ta B bs H H' ts tbl) (fun H3 s3 => ⟨o5, o7, o9, ts, tbl, rfl, j.same c s3⟩) (fun _ _ _ _ => trivial) ?_ ?_
      · rintro _ i v1 σ' H3 hx hv1 ⟨o5, o7, o9, ts, tbl, rfl, j⟩
        cases (show v1 = V.int i from hv1)
        have hi := ups_mem (List.mem_of_getElem? hx)
        rw [Int.toNat_natCast, Int.zero_add] at hi
        refine cs_setP (P := Pt) (i := 9) sc__law_letters.nd rfl (evp_add er_at (evp (x := 1) ev_i) fun _ _ => evp_call D__law_draw (hr.mono (by decide)) er_at (ev_v 0 rfl) (ap_c (x := _law_prime - 1) er_at (ev_sub (ev_v 1 rfl) ev_i) ap_0) (show 1 ≤ _law_prime - 1 ∧ _law_prime - 1 ≤ 1000 by omega)) same_er j.pot fun rr v3 H5 hrr px3 hv3 => ?_
        cases (show v3 = V.int rr from hv3)
        obtain ⟨_, z3, rfl, hz3, rfl⟩ := hrr
        replace hz3 : 0 ≤ z3 ∧ z3 < _law_prime - 1 := hz3
        have hrb : 0 < 1 + z3 ∧ 1 + z3 < _law_prime := by omega
        generalize 1 + z3 = rr at hrb
        have j := j.px c px3
        have hlt := j.lt.ok hb.1
        have hSm : Sm rr := by unfold Sm; omega
        refine cs_itemG (r := rI) (xs := sclM _law_prime (tbl.getD i.toNat []) rr) (en_lc1 (q := rI) (f := fun m : Int => rr * m % _law_prime) (j := 10) sc__law_letters.nd (src_L (ev_ixLd (d := []) (xs := tbl) (x := i) (ev_v 3 j.tab) (ev_v 5 rfl) ⟨hi.1, by rw [hlt.2]; exact hi.2⟩)) (blkOk_by (N := ["_law_pot_here", "_law_prime", "_law_size", "_law_table", "_law_j", "_law_i", "_law_back", "_law_row", "_law_turn", "_law_rest", "_law_number"]) (sc := defScope (top 100)) (by decide +kernel)) ⟨rfl, by first | exact Or.inl rfl | exact Or.inr rfl, by first | exact Or.inr rfl | exact Or.inl rfl⟩ fun s' Hs C cl fp y hy w H6 s6 hw => ev_mod (ev_mul (ev_v 9 rfl) (ev_v 10 hw) hSm) (ev_v 1 rfl) (by omega)) (ev_v 3 rfl) (ev_v 5 (r := rI) (d := i) rfl) j.hT ⟨hi.1, by rw [List.length_map, j.rows.length, hlt.2]; exact hi.2⟩ fun l ws H6 hl s6 hl1 hl2 => ?_
        have j := j.setT c i.toNat hl s6 hl1 hl2 (.scl i.toNat rr j.lt (by omega) hrb)
        generalize ts.set i.toNat l = ts' at j
        generalize tbl.set i.toNat (sclM _law_prime (tbl.getD i.toNat []) rr) = tbl' at j
        generalize upd H6 Ta _ = H7 at j
        refine cs_forG1 (j := 7) (G := fun H1 => Same (one B (bs.map V.ref)) H1) sc__law_letters.nd rfl (srcG_L (Hk := one B (bs.map V.ref)) (r := rA) (xs := bs) (ev_v 6 rfl) ⟨B, _, rfl, one_at, pr_refs bs⟩ (one_same j.hB) fun _ h => h) (fun _ σ' H' => ∃ o7, σ' = [some (.ref Pt), some (.int _law_prime), some (.int n), some (.ref Ta), o4, some (.int i), some (.ref B), o7, o8, some (.int rr), none] ∧ LJ K _law_prime n Pt Ta B bs H H' ts' tbl') (fun H8 s8 => ⟨o7, rfl, j.same c s8⟩) (fun _ _ H8 ⟨_, _, j⟩ => one_same j.hB) ?_ ?_
        · rintro _ b v8 σ' H8 hx8 hv8 ⟨o7, rfl, j⟩
          cases (show v8 = V.ref b from hv8)
          have hbb := List.mem_of_getElem? hx8
          obtain ⟨row, hr1, hr2⟩ := j.bk b hbb
          have hrow : (rL rI).rel K H8 (.ref b) row := ⟨b, _, rfl, hr1, pr_ints row⟩
          have hg := hr2.get (i := i.toNat) (by omega)
          refine cs_item (r := rI) (x := (row.getD i.toNat 0 * (lundL _law_prime rr).getD 0 0) % _law_prime) (ev_mod (ev_mul (ev_ixLd (d := 0) (ev_v 7 hrow) (ev_v 5 rfl) ⟨hi.1, by rw [hr2.1]; exact hi.2⟩) (ev_call D__law_undone (hr.mono (by decide)) (y := (lundL _law_prime rr).getD 0 0) (ea_c (ev_v 1 (r := rI) (d := _law_prime) rfl) (ea_c (ev_v 9 (r := rI) (d := rr) rfl) ea_0)) ⟨hp, hrb⟩) (sm_of hg hb.2)) (ev_v 1 rfl) (by omega)) (ev_v 7 rfl) (ev_v 5 (r := rI) (d := i) rfl) hr1 ⟨hi.1, by rw [List.length_map, hr2.1]; exact hi.2⟩ fun y H9 s9 hy => cs_nil ⟨some (.ref b), rfl, ?_⟩
          cases (show y = V.int _ from hy)
          rw [← List.map_set]
          exact (j.same c s9).setB c hbb (set_ok hr2 _ ⟨Int.emod_nonneg _ (by omega), Int.emod_lt_of_pos _ (by omega)⟩)
        · rintro σ' H8 ⟨o7, rfl, j⟩
          exact cs_nil ⟨_, _, _, ts', tbl', rfl, j⟩
      · rintro σ' H3 ⟨o5, o7, o9, ts, tbl, rfl, j⟩
        refine cs_ret (ev_2 (r := rV (.ref Ta)) (q := rV (.ref B)) (x := ()) (y := ()) (ev_v 3 rfl) (ev_v 6 rfl)) fun v H4 s4 hv => ?_
        have j := j.same c s4
        obtain ⟨a, u, w, rfl, h5, h6, h7⟩ := hv
        cases (show u = V.ref Ta from h6)
        cases (show w = V.ref B from h7)
        refine kk (tbl, ()) _ H4 j.lt ⟨j.sm, j.pot⟩ ⟨a, .ref Ta, .ref B, rfl, ?_, ⟨Ta, _, rfl, ?_, at_rel (at_px j.rows j.dis.2.1 (Same.refl _))⟩, trivial⟩
        · rw [er_ne]
          · exact h5
          · intro e
            obtain ⟨x, y, h, _⟩ := j.pot
            rw [e, h] at h5
            cases h5
        · rw [er_ne c.tp]
          exact j.hT
end K06
/-! ==== KQ ==== -/
set_option Elab.async false
set_option linter.all false
set_option maxRecDepth 100000
set_option maxHeartbeats 4000000
namespace K06
open PySem L2 PySem.Spec PyProof.Rows RZ
/-! ### more of drawing -/
theorem pot_ne {P l : Addr} {H : Hp} (h : Pot P H) (hl : H l = none) : l ≠ P := fun e => by
  obtain ⟨a, b, h1, _⟩ := h
  rw [← e, hl] at h1
  cases h1
theorem pot_at {P : Addr} {K : Fr} {H : Hp} (h : Pot P H) : ∀ {as : List Addr} {yss : Tb}, P ∉ as → At rI K H as yss → At rI K (er P H) as yss
  | _, _, _, .nil => .nil
  | _, _, hn, .cons ⟨ws, h1, h2⟩ t => .cons ⟨ws, by rw [er_ne (fun e => hn (by rw [e]; exact List.mem_cons_self ..))]; exact h1, h2⟩ (pot_at h (fun h => hn (List.mem_cons_of_mem _ h)) t)
section
variable {X : Cx} {σ : L2.St} {H H' Hk : Hp} {P : Addr} {α β γ δ : Type} {r : Rp α} {q : Rp β} {p : Rp γ} {pos spos p2 p3 : Pos} {e a b c d : Expr} {p1 : α → Prop}
theorem evp_2 [Te r] {x : α} {k : Nat} {p2 : β → Prop} (hP : Hk P = none) (ha : Ev X σ Hk a r x) (hb : EvP X σ P Hk b q p2) (hs : starEach [a, b] X.env = (false, eval a X.env) :: starEach [b] X.env := by rfl) (hs2 : starEach [b] X.env = (false, eval b X.env) :: starEach [] X.env := by rfl) : EvP X σ P Hk (.Tuple [a, b] k pos) (r2 r q) (fun z => z.1 = x ∧ p2 z.2) := fun H1 s1 hp Q c =>
  cE_of (pe_tup cA_pa) (cA2 (ha H1 s1 _ fun u H2 s2 hu => hb H2 (s1.trans s2) (hp.same s2) _ fun y w H3 hy px hw => ⟨by show 2 ≤ sizeLine; decide, fun l hl => by
    have sn := same_new (o := HO.tup [u, w]) hl
    have hne := pot_ne px.2 hl
    refine c (x, y) _ _ ⟨rfl, hy⟩ (((Px.of hp s2).tr px).tr (Px.of px.2 sn)) ⟨l, u, w, rfl, by rw [er_ne hne]; exact upd_same, ?_, q.mono (er_mono sn) hw⟩
    exact r.mono (px.er.trans (er_mono sn)) (pot_te (hp.same s2) hu)⟩) hs hs2)
theorem evp_p0 {k : Nat} {p3 : Pos} {p1 : α × β → Prop} (ha : EvP X σ P Hk a (r2 r q) p1) (hs : PlainIx (.Constant (.int 0) k p3) := by exact fun _ _ => rfl) : EvP X σ P Hk (.Subscript a (.Constant (.int 0) k p3) pos) r (fun x => ∃ y, p1 (x, y)) := fun H1 s1 hp Q c =>
  cE_of (pe_ix ix_tup cE_pe pe_int hs) (ha H1 s1 hp _ fun x v H2 hx px hv => by
    obtain ⟨l, u, w, rfl, h1, h2, h3⟩ := hv
    exact ⟨l, [u, w], 0, u, rfl, rfl, SqT.of (same_er _ _ h1), atI_nat (j := 0) rfl, c x.1 u H2 ⟨x.2, hx⟩ px h2⟩)
/-- a call that gives new rows; its second argument draws -/
theorem evp_callG {k : Nat} {n : Str} {ps : List Str} {e1 e2 e3 : Expr} {g : Int × Tb × Tb × Unit → Prop} {f : Int × Tb × Tb × Unit → Tb} {x1 : Int} {v3 : V} {t3 : Tb} {p2' : Tb → Prop} (D : Df X.prog X.w X.K X.mg X.base k n ps (spG (aC rI (aC (rL (rL rI)) (aC (rL (rL rI)) a0))) g f X.K)) (hr : Room k X.A) (hP : Hk P = none)
    (h1 : Ev X σ Hk e1 rI x1) (h2 : EvP X σ P Hk e2 (rL (rL rI)) p2') (h3 : Ev X σ Hk e3 (rV v3) ()) (hv3 : (rL (rL rI)).rel X.K Hk v3 t3) (hgd : ∀ t, p2' t → g (x1, t, t3, ()))
    (hg : Gl X n := by rfl) (hdb : (n == ("__debug__" : Str)) = false := by decide)
    (he : starEach [e1, e2, e3] X.env = (false, eval e1 X.env) :: starEach [e2, e3] X.env := by rfl) (he2 : starEach [e2, e3] X.env = (false, eval e2 X.env) :: starEach [e3] X.env := by rfl) (he3 : starEach [e3] X.env = (false, eval e3 X.env) :: starEach [] X.env := by rfl) (hpl : (backTo pos (starEach [e2, e3] X.env)).any (·.1) = false := by rfl) :
    EvP X σ P Hk (.Call (.Name n p2) [e1, e2, e3] [] pos) (rL (rL rI)) (fun y => ∃ t, p2' t ∧ y = f (x1, t, t3, ())) := by
  obtain ⟨fa, fd, hm, hk, hb, F⟩ := D.ex
  refine fun H1 s1 hp Q c => cE_of (pe_call F hr hg hm hk hb .nil pass0 cA_pa hdb he hpl) (cA3 (h1 H1 s1 _ fun u H2 s2 hu => h2 H2 (s1.trans s2) (hp.same s2) _ fun t w H3 ht px hw => ?_) he he2 he3)
  have sk : Same Hk (er P H3) := (er_k hP (s1.trans s2)).trans px.er
  refine h3 H3 (sk.trans same_er) _ fun z H4 s4 hz => ?_
  cases (show z = v3 from hz)
  cases (show u = V.int x1 from hu)
  rw [List.append_nil]
  have s34 : Same (er P H3) H4 := same_er.trans s4
  refine ⟨(x1, t, t3, ()), ⟨_, _, rfl, rfl, _, _, rfl, Rp.mono _ s34 hw, _, _, rfl, Rp.mono _ (sk.trans s34) hv3, rfl⟩, hgd t ht, fun D as H5 hD hDa hnd has s5 h5 h6 => ?_⟩
  have hp4 := px.2.same s4
  have hp5 := hp4.same s5
  refine c _ _ H5 ⟨t, ht, rfl⟩ ((((Px.of hp s2).tr px).tr (Px.of px.2 s4)).tr (Px.of hp4 s5)) ⟨D, _, rfl, ?_, at_rel (pot_at hp5 (fun h => pot_ne hp4 (has _ h) rfl) h6)⟩
  rw [er_ne (pot_ne hp4 hD)]
  exact h5
/-- a new list as an argument -/
theorem ap_n [Te r] {es : List Expr} {R : Rps β} {xs : List α} {y : β} (hP : Hk P = none) (ha : EvN X σ Hk e r xs) (hb : ∀ H1, Same Hk H1 → Pot P H1 → ∀ Q : List V → Hp → Prop, (∀ vs H2, Px P H1 H2 → R.rel X.K (er P H2) vs y → Q vs H2) → cA X es σ H1 Q) (hs : starEach (e :: es) X.env = (false, eval e X.env) :: starEach es X.env := by rfl) :
    ∀ H1, Same Hk H1 → Pot P H1 → ∀ Q : List V → Hp → Prop, (∀ vs H2, Px P H1 H2 → (aC (rL r) R).rel X.K (er P H2) vs (xs, y) → Q vs H2) → cA X (e :: es) σ H1 Q := fun H1 s1 hp Q c pos pins s I =>
  (pa_cons cE_pe cA_pa hs).run pos pins s σ H1 Q I (ha H1 s1 _ fun l vs H2 hl s2 h1 h2 => hb H2 (s1.trans s2) (hp.same s2) _ fun ws H3 py hvs => c (.ref l :: ws) H3 ((Px.of hp s2).tr py) ⟨_, ws, rfl, Rp.mono _ py.er (lst_er (hp.same s2) (pot_ne hp hl) h1 h2), hvs⟩)
theorem en_L4 {k1 k2 k3 k4 : Int} {j1 j2 j3 j4 : Nat} {q1 q2 q3 q4 : Pos} (hs : starEach [.Constant (.int k1) j1 q1, .Constant (.int k2) j2 q2, .Constant (.int k3) j3 q3, .Constant (.int k4) j4 q4] X.env = [(false, eval (.Constant (.int k1) j1 q1) X.env), (false, eval (.Constant (.int k2) j2 q2) X.env), (false, eval (.Constant (.int k3) j3 q3) X.env), (false, eval (.Constant (.int k4) j4 q4) X.env)] := by rfl)
    (hs2 : starEach [.Constant (.int k2) j2 q2, .Constant (.int k3) j3 q3, .Constant (.int k4) j4 q4] X.env = [(false, eval (.Constant (.int k2) j2 q2) X.env), (false, eval (.Constant (.int k3) j3 q3) X.env), (false, eval (.Constant (.int k4) j4 q4) X.env)] := by rfl)
    (hs3 : starEach [.Constant (.int k3) j3 q3, .Constant (.int k4) j4 q4] X.env = [(false, eval (.Constant (.int k3) j3 q3) X.env), (false, eval (.Constant (.int k4) j4 q4) X.env)] := by rfl) (hs4 : starEach [.Constant (.int k4) j4 q4] X.env = [(false, eval (.Constant (.int k4) j4 q4) X.env)] := by rfl) :
    EvN X σ H (.List [.Constant (.int k1) j1 q1, .Constant (.int k2) j2 q2, .Constant (.int k3) j3 q3, .Constant (.int k4) j4 q4] pos) rI [k1, k2, k3, k4] :=
  en_of (pe_lst (pa_cons pe_int (pa_cons pe_int (pa_cons pe_int (pa_cons pe_int pa_nil (by rw [hs4]; rfl)) (by rw [hs3, hs4])) (by rw [hs2, hs3])) (by rw [hs, hs2]))) fun H1 s Q c => ⟨by show 4 ≤ sizeLine; decide, fun l hl => c l _ _ hl (same_new hl) upd_same (pr_ints [k1, k2, k3, k4])⟩
theorem etp_and {k : Bool} (hP : Hk P = none) (ha : EvT X σ Hk a k) (hb : EtP X σ P Hk b) : EtP X σ P Hk (.BoolOp .And [a, b] pos) := fun H1 s1 hp Q c pins sh I =>
  (pw_and cT_pt (pw_and1 cT_pt)).run _ pins sh σ H1 Q I (ha H1 s1 _ fun H2 s2 => by
    cases k with
    | true => exact iteT (hb H2 (s1.trans s2) (hp.same s2) Q fun k H3 px => c k H3 ((Px.of hp s2).tr px))
    | false => exact iteF (c false H2 (Px.of hp s2)))
variable {D : Ends} {rest body els : List Stmt}
theorem cs_ifP (hc : EtP X σ P Hk c) (hs : Same Hk H) (hp : Pot P H) (h1 : ∀ H1, Px P H H1 → cS X body { D with nx := fun σ' H' => cS X rest D σ' H' } σ H1) (h2 : ∀ H1, Px P H H1 → cS X els { D with nx := fun σ' H' => cS X rest D σ' H' } σ H1) : cS X (.If c body els pos :: rest) D σ H :=
  cs_one (ps_if cT_pt cS_pss cS_pss) (hc H hs hp _ fun k H1 px => by
    cases k with
    | true => exact iteT (h1 H1 px)
    | false => exact iteF (h2 H1 px))
/-- xs[k] = a value that draws -/
theorem cs_itemP {o ix : Expr} (hv : EvP X σ P Hk a r p1) (hs1 : Same Hk H) (hp : Pot P H)
    (k : ∀ x v H2, p1 x → Px P H H2 → r.rel X.K (er P H2) v x → ∃ (l : Addr) (vs : List V) (n : Int), Ev X σ H2 o (rV (.ref l)) () ∧ Ev X σ H2 ix rI n ∧ H2 l = some (.lst vs) ∧ (0 ≤ n ∧ n < vs.length) ∧ ∀ H3, Same H2 H3 → cS X rest D σ (upd H3 l (.lst (vs.set n.toNat v))))
    (hs : swapsWithSole [.Subscript o ix p2] a pos.line X.env = pure false := by rfl) (hw : swappedStores [.Subscript o ix p2] a X.env = pure none := by rfl) (h1 : (assignEach [.Subscript o ix p2] X.env).map (·.2) = [assign (.Subscript o ix p2) X.env] := by rfl)
    (has : ∀ v, assign (.Subscript o ix p2) X.env v = (do
      let ov ← holding [v] (eval o X.env)
      let iv ← holding [v, ov] (eval ix X.env)
      standAt p2
      holding [v, ov, iv] (setItem ov iv v)
      release [v, ov, iv] []) := by intro _; rfl) : cS X (.Assign [.Subscript o ix p2] a pos :: rest) D σ H :=
  cs_one (ps_asg cE_pe (pg_sub cE_pe cE_pe set_list has) hs hw h1) (hv H hs1 hp _ fun x v H2 hx px hv => by
    obtain ⟨l, vs, n, h2, h3, h4, hn, k2⟩ := k x v H2 hx px hv
    refine h2 H2 (Same.refl _) _ fun o H3 s3 ho => h3 H3 s3 _ fun w H4 s4 hw => ?_
    cases (show o = V.ref l from ho)
    cases (show w = V.int n from hw)
    refine ⟨l, vs, n, n.toNat, rfl, rfl, (s3.trans s4) _ _ h4, ?_, k2 H4 (s3.trans s4)⟩
    unfold ixN
    rw [if_pos hn.1, if_pos hn.2])
/-- a store, as a step -/
theorem gs_sub {o ix : Expr} {l : Addr} {vs : List V} {n : Int} {u : V} {Q : L2.St → Hp → Prop} (h2 : Ev X σ H o (rV (.ref l)) ()) (h3 : Ev X σ H ix rI n) (h4 : H l = some (.lst vs)) (hn : 0 ≤ n ∧ n < vs.length) (k : ∀ H3, Same H H3 → Q σ (upd H3 l (.lst (vs.set n.toNat u)))) : gSub (cE X o) (cE X ix) rSetL u σ H Q := by
  refine h2 H (Same.refl _) _ fun o H3 s3 ho => h3 H3 s3 _ fun w H4 s4 hw => ?_
  cases (show o = V.ref l from ho)
  cases (show w = V.int n from hw)
  refine ⟨l, vs, n, n.toNat, rfl, rfl, (s3.trans s4) _ _ h4, ?_, k H4 (s3.trans s4)⟩
  unfold ixN
  rw [if_pos hn.1, if_pos hn.2]
theorem gs_mono {o ix : Expr} {u : V} {Q Q' : L2.St → Hp → Prop} (h : gSub (cE X o) (cE X ix) rSetL u σ H Q) (k : ∀ σ H, Q σ H → Q' σ H) : gSub (cE X o) (cE X ix) rSetL u σ H Q' := by
  refine fun pins s I => thn (h pins s I) fun v s1 ⟨x, H1, I1, r1, q1⟩ => ⟨x, H1, I1, r1, fun pins s I => thn (q1 pins s I) fun v s1 ⟨y, H2, I2, r2, q2⟩ => ⟨y, H2, I2, r2, ?_⟩⟩
  obtain ⟨p, xs, a, j, h1, h2, h3, h4, h5⟩ := q2
  exact ⟨p, xs, a, j, h1, h2, h3, h4, k _ _ h5⟩
theorem cs_sub3 {o1 o2 o3 i1 i2 i3 : Expr} {q1 q2 q3 q4 : Pos} {kk : Nat} {x : α × β × γ} (ha : Ev X σ H a (r3 r q p) x)
    (k : ∀ u v w H1, Same H H1 → r.rel X.K H1 u x.1 → q.rel X.K H1 v x.2.1 → p.rel X.K H1 w x.2.2 → gSub (cE X o1) (cE X i1) rSetL u σ H1 fun σ H => gSub (cE X o2) (cE X i2) rSetL v σ H fun σ H => gSub (cE X o3) (cE X i3) rSetL w σ H fun σ H => cS X rest D σ H) (hc : X.calm = true := by rfl)
    (hw : swappedStores [.Tuple [.Subscript o1 i1 q1, .Subscript o2 i2 q2, .Subscript o3 i3 q3] kk q4] a X.env = pure none := by rfl)
    (hs : swapsWithSole [.Tuple [.Subscript o1 i1 q1, .Subscript o2 i2 q2, .Subscript o3 i3 q3] kk q4] a pos.line X.env = pure false := by rfl)
    (ht : (assignEach [.Tuple [.Subscript o1 i1 q1, .Subscript o2 i2 q2, .Subscript o3 i3 q3] kk q4] X.env).map (·.2) = [assign (.Tuple [.Subscript o1 i1 q1, .Subscript o2 i2 q2, .Subscript o3 i3 q3] kk q4) X.env] := by rfl)
    (h1 : (assignEach [.Subscript o1 i1 q1, .Subscript o2 i2 q2, .Subscript o3 i3 q3] X.env).map (·.2) = assign (.Subscript o1 i1 q1) X.env :: (assignEach [.Subscript o2 i2 q2, .Subscript o3 i3 q3] X.env).map (·.2) := by rfl)
    (h2 : (assignEach [.Subscript o2 i2 q2, .Subscript o3 i3 q3] X.env).map (·.2) = assign (.Subscript o2 i2 q2) X.env :: (assignEach [.Subscript o3 i3 q3] X.env).map (·.2) := by rfl)
    (h3 : (assignEach [.Subscript o3 i3 q3] X.env).map (·.2) = assign (.Subscript o3 i3 q3) X.env :: (assignEach [] X.env).map (·.2) := by rfl)
    (hn2 : (assignEach [.Subscript o1 i1 q1, .Subscript o2 i2 q2, .Subscript o3 i3 q3] X.env).length = 3 := by rfl) (hst : (assignEach [.Subscript o1 i1 q1, .Subscript o2 i2 q2, .Subscript o3 i3 q3] X.env).findIdx? (·.1) = none := by rfl)
    (has1 : ∀ v, assign (.Subscript o1 i1 q1) X.env v = (do
      let ov ← holding [v] (eval o1 X.env)
      let iv ← holding [v, ov] (eval i1 X.env)
      standAt q1
      holding [v, ov, iv] (setItem ov iv v)
      release [v, ov, iv] []) := by intro _; rfl)
    (has2 : ∀ v, assign (.Subscript o2 i2 q2) X.env v = (do
      let ov ← holding [v] (eval o2 X.env)
      let iv ← holding [v, ov] (eval i2 X.env)
      standAt q2
      holding [v, ov, iv] (setItem ov iv v)
      release [v, ov, iv] []) := by intro _; rfl)
    (has3 : ∀ v, assign (.Subscript o3 i3 q3) X.env v = (do
      let ov ← holding [v] (eval o3 X.env)
      let iv ← holding [v, ov] (eval i3 X.env)
      standAt q3
      holding [v, ov, iv] (setItem ov iv v)
      release [v, ov, iv] []) := by intro _; rfl) : cS X (.Assign [.Tuple [.Subscript o1 i1 q1, .Subscript o2 i2 q2, .Subscript o3 i3 q3] kk q4] a pos :: rest) D σ H :=
  cs_one (ps_asg cE_pe (pg_tup hc (pgs_cons (pg_sub cE_pe cE_pe set_list has1) (pgs_cons (pg_sub cE_pe cE_pe set_list has2) (pgs_cons (pg_sub cE_pe cE_pe set_list has3) pgs_nil h3) h2) h1) hn2 hst) hs hw ht) (ha H (Same.refl H) _ fun t H1 s1 ht => by
    obtain ⟨m, u, v, w, rfl, h1, h2, h3, h4⟩ := ht
    refine ⟨m, [u, v, w], rfl, SqT.of h1, rfl, u, [v, w], rfl, ?_⟩
    refine gs_mono (k u v w H1 s1 h2 h3 h4) fun σ H h => ⟨v, [w], rfl, gs_mono h fun σ H h => ⟨w, [], rfl, gs_mono h fun σ H h => ⟨rfl, h⟩⟩⟩)
end
theorem pr_get2 {α β : Type} {F : α → β → Prop} : ∀ {vs : List α} {xs : List β} {j : Nat} {x : α}, Paired F vs xs → vs[j]? = some x → ∃ v, xs[j]? = some v ∧ F x v
  | _, _, _, _, .nil, h => by simp at h
  | _, _, 0, _, .cons r _, h => by
    have e := Option.some.inj h
    subst e
    exact ⟨_, rfl, r⟩
  | _, _, j + 1, x, .cons _ t, h => pr_get2 (j := j) (x := x) t (by simpa using h)
/-! ### what stands while a base is made -/
structure BC (Pt B : Addr) (bs : List Addr) (H0 : Hp) : Prop where
  bp : B ≠ Pt
  bb : B ∉ bs
  nd : bs.Nodup
  ne : ∀ b ∈ bs, b ≠ Pt
  z : H0 B = none
  b0 : ∀ b ∈ bs, H0 b = none
structure BJ (K : Fr) (p : Int) (n : Nat) (Pt B : Addr) (bs : List Addr) (H0 H : Hp) (tbl : Tb) : Prop where
  sm : Same (er Pt H0) H
  pot : Pot Pt H
  hB : H B = some (.lst (bs.map V.ref))
  rows : At rI K H bs tbl
  ok : tbl.length = n ∧ TabOk p n tbl
section
variable {K : Fr} {p : Int} {n : Nat} {Pt B : Addr} {bs : List Addr} {H0 H H' : Hp} {tbl : Tb}
theorem BJ.px (c : BC Pt B bs H0) (j : BJ K p n Pt B bs H0 H tbl) (h : Px Pt H H') : BJ K p n Pt B bs H0 H' tbl :=
  ⟨(same_er3 j.sm).trans h.1, h.2, h.1 _ _ (by rw [er_ne c.bp]; exact j.hB), at_px j.rows (fun h => c.ne _ h rfl) h.1, j.ok⟩
theorem BJ.same (c : BC Pt B bs H0) (j : BJ K p n Pt B bs H0 H tbl) (s : Same H H') : BJ K p n Pt B bs H0 H' tbl := j.px c (Px.of j.pot s)
theorem BJ.tab (j : BJ K p n Pt B bs H0 H tbl) : (rL (rL rI)).rel K H (.ref B) tbl := ⟨B, _, rfl, j.hB, at_rel j.rows⟩
theorem BJ.tabE (c : BC Pt B bs H0) (j : BJ K p n Pt B bs H0 H tbl) : (rL (rL rI)).rel K (er Pt H) (.ref B) tbl := ⟨B, _, rfl, by rw [er_ne c.bp]; exact j.hB, at_rel (pot_at j.pot (fun h => c.ne _ h rfl) j.rows)⟩
theorem at_setN {ws : List V} {ys : Rw} (h2 : Paired (rI.rel K H) ws ys) : ∀ {as : List Addr} {yss : Tb} (i : Nat) (hi : i < as.length), At rI K H as yss → as.Nodup → At rI K (upd H (as[i]) (.lst ws)) as (yss.set i ys)
  | _, _, _, hi, .nil, _ => absurd hi (Nat.not_lt_zero _)
  | a :: as, y :: yss, 0, _, .cons h t, nd => .cons ⟨ws, upd_same, h2⟩ (by
    obtain ⟨ws0, h0, _⟩ := h
    exact at_upd h0 (List.nodup_cons.mp nd).1 t)
  | a :: as, y :: yss, i + 1, hi, .cons h t, nd => by
    have hi' : i < as.length := Nat.lt_of_succ_lt_succ hi
    have hne : a ≠ as[i] := fun e => (List.nodup_cons.mp nd).1 (e ▸ List.getElem_mem hi')
    obtain ⟨ws0, h0, h1⟩ := h
    exact .cons ⟨ws0, by show (upd H as[i] _) a = _; rw [upd_ne hne]; exact h0, h1⟩ (at_setN h2 i hi' t (List.nodup_cons.mp nd).2)
/-- base[a][b] = x -/
theorem BJ.set (c : BC Pt B bs H0) (j : BJ K p n Pt B bs H0 H tbl) {a b : Nat} {x : Int} (ha : a < n) (hx : 0 ≤ x ∧ x < p) : ∃ l, bs[a]? = some l ∧ H l = some (.lst ((tbl.getD a []).map V.int)) ∧ ∀ H', Same H H' → BJ K p n Pt B bs H0 (upd H' l (.lst (((tbl.getD a []).map V.int).set b (.int x)))) (upd2 tbl a b x) := by
  have hl := j.rows.length
  have ha' : a < bs.length := by rw [hl, j.ok.1]; exact ha
  have hd : ∃ ws, H bs[a] = some (.lst ws) ∧ Paired (rI.rel K H) ws (tbl.getD a []) := by
    have : ∀ {as : List Addr} {yss : Tb} (i : Nat) (hi : i < as.length), At rI K H as yss → ∃ ws, H as[i] = some (.lst ws) ∧ Paired (rI.rel K H) ws (yss.getD i []) := by
      intro as yss i hi h
      obtain ⟨v, h3, h4⟩ := pr_get2 h (List.getElem?_eq_getElem hi)
      rw [List.getD_eq_getElem?_getD, h3]
      exact h4
    exact this a ha' j.rows
  obtain ⟨ws, h1, h2⟩ := hd
  have e := ints_p h2
  subst e
  have hm : bs[a] ∈ bs := List.getElem_mem ha'
  refine ⟨bs[a], List.getElem?_eq_getElem ha', h1, fun H' s => ?_⟩
  have j' := j.same c s
  have h1' : H' bs[a] = some (.lst ((tbl.getD a []).map V.int)) := s _ _ h1
  refine ⟨same_mut j'.sm (by rw [er_ne (c.ne _ hm)]; exact c.b0 _ hm), ?_, ?_, ?_, upd2_ok j.ok ha hx⟩
  · obtain ⟨y, z, h3, h4⟩ := j'.pot
    exact ⟨y, z, by rw [upd_ne (Ne.symm (c.ne _ hm))]; exact h3, h4⟩
  · rw [upd_ne (fun e : B = bs[a] => c.bb (by rw [e]; exact hm))]
    exact j'.hB
  · refine at_setN ?_ a ha' j'.rows c.nd
    rw [← List.map_set]
    exact pr_ints _
end
end K06
/-! ==== DN ==== -/
set_option Elab.async false
set_option linter.all false
set_option maxRecDepth 100000
set_option maxHeartbeats 4000000
namespace K06
open PySem L2 PySem.Spec PyProof.Rows RZ

abbrev sp__law_other (K : Fr) : Sp := spP (aC (rI) (a0)) (fun (_law_prime, _) => P357 _law_prime) (rL (rL rI)) (fun (_law_prime, _) res => ∃ (n : Nat) (t base : Tb), n ≤ 3 ∧ LetM _law_prime n t ∧ BsOk _law_prime n base ∧ res = lledM _law_prime t base) K
theorem sc__law_other : FnScope ["_law_pot_here", "_law_prime", "_law_size", "_law_base", "_law_place"] ["_law_pot_here", "_law_prime"] (defScope (top 104)) := ⟨rfl, rfl, rfl, by decide +kernel, rfl, by decide +kernel, by decide +kernel⟩
theorem df__law_other {P : Program} {w : World} {K : Fr} {mg : Str → Option Value} {base : Heap} (T : Tx K mg) : Df P w K mg base 3 "_law_other" ["_law_pot_here", "_law_prime"] (sp__law_other K) := by
  have D__law_draw := df__law_draw (P := P) (w := w) (base := base) T
  have D__law_led := df__law_led (P := P) (w := w) (base := base) T
  have D__law_letters := df__law_letters (P := P) (w := w) (base := base) T
  obtain ⟨fd, F⟩ := T.dx 82 (d := d82) rfl
  refine ⟨_, fd, T.gl 76 rfl, F.kp, F.bindsN (fun _ _ _ _ _ _ us hl => match us, hl with | [_, _], _ => rfl), ?_⟩
  refine F.ok sc__law_other (fun vs H Q E h => ?_) (fun cdv A outer s H vs Q E hr h => ⟨_, PSs.nox cS_pss, ?_⟩)
  · obtain ⟨Pt, us, ⟨_law_prime, u_end⟩, rfl, hpot, ⟨v__law_prime, _, rfl, h__law_prime, h_end⟩, g⟩ := h
    cases h_end
    rfl
  · obtain ⟨Pt, us, ⟨_law_prime, u_end⟩, rfl, hpot, ⟨v__law_prime, _, rfl, h__law_prime, h_end⟩, g, kk⟩ := h
    cases h_end
    replace h__law_prime : Rp.rel (rI) K (er Pt H) v__law_prime _law_prime := h__law_prime
    replace g : P357 _law_prime := g
    replace kk : ∀ res v H2, (∃ (n : Nat) (t base : Tb), n ≤ 3 ∧ LetM _law_prime n t ∧ BsOk _law_prime n base ∧ res = lledM _law_prime t base) → Px Pt H H2 → Rp.rel (rL (rL rI)) K (er Pt H2) v res → Q v H2 := kk
    have hb := g.b
    cases (show v__law_prime = V.int _law_prime from h__law_prime)
    refine cs_setP (P := Pt) (i := 2) sc__law_other.nd rfl (evp_call D__law_draw (hr.mono (by decide)) er_at (ev_v 0 rfl) (ap_c (x := 4) er_at ev_i ap_0) (show 1 ≤ (4 : Int) ∧ (4 : Int) ≤ 1000 by decide)) same_er hpot fun sz v1 H1 hsz px1 hv1 => ?_
    cases (show v1 = V.int sz from hv1)
    replace hsz : 0 ≤ sz ∧ sz < 4 := hsz
    obtain ⟨n, rfl⟩ : ∃ n : Nat, sz = n := ⟨sz.toNat, by omega⟩
    obtain ⟨pa, pb, hPt, hpab⟩ := px1.2
    have hpot1 : Pot Pt H1 := ⟨pa, pb, hPt, hpab⟩
    refine cs_setG (q := rI) (f := fun _ : Int => List.replicate (n : Int).toNat (0 : Int)) (i := 3) (j := 4) sc__law_other.nd rfl (src_R1 (n := (n : Int)) (m_range T) (ev_v 2 rfl) (by omega)) (blkOk_by (N := ["_law_pot_here", "_law_prime", "_law_size", "_law_base", "_law_place"]) (sc := defScope (top 104)) (by decide +kernel)) ⟨rfl, by first | exact Or.inl rfl | exact Or.inr rfl, by first | exact Or.inr rfl | exact Or.inl rfl⟩ (fun s' Hs C cl fp x hx v H2 s2 hv => en_rep (ev_L1 ev_i) (ev_v 2 rfl) (by omega)) fun B bs H2 hB hBb hnd hbs s2 h3 h4 => ?_
    have e0 : ((ups 0 (n : Int).toNat).map fun _ : Int => List.replicate (n : Int).toNat (0 : Int)) = bs0 n := by
      rw [Int.toNat_natCast]
      rfl
    rw [e0] at h4
    have c : BC Pt B bs H1 := ⟨pot_ne hpot1 hB, hBb, hnd, fun b hbb => pot_ne hpot1 (hbs b hbb), hB, hbs⟩
    have hb0 := bs0_ok (p := _law_prime) hb.1 n
    have j0 : BJ K _law_prime n Pt B bs H1 H2 (bs0 n) := ⟨same_er.trans s2, hpot1.same s2, h3, h4, hb0.1, hb0.2.1⟩
    refine cs_forG1 (j := 4) (G := fun _ => True) sc__law_other.nd rfl (srcG_R1 (n := (n : Int)) (m_range T) (ev_v 2 rfl) (by omega)) (fun _ σ' H' => ∃ o4 tbl, σ' = [some (.ref Pt), some (.int _law_prime), some (.int n), some (.ref B), o4] ∧ BJ K _law_prime n Pt B bs H1 H' tbl ∧ BsOk _law_prime n tbl) (fun H3 s3 => ⟨none, bs0 n, rfl, j0.same c s3, hb0⟩) (fun _ _ _ _ => trivial) ?_ ?_
    · rintro _ k v σ' H3 hx hv ⟨o4, tbl, rfl, j, hbo⟩
      cases (show v = V.int k from hv)
      have hk := ups_mem (List.mem_of_getElem? hx)
      rw [Int.toNat_natCast, Int.zero_add] at hk
      refine cs_itemP (P := Pt) (p1 := fun x => 0 ≤ x ∧ x < _law_prime) (EvP.post (evp_if er_at (etp_gt (n := 0) er_at (evp_call D__law_draw (hr.mono (by decide)) er_at (ev_v 0 rfl) (ap_c (x := 3) er_at ev_i ap_0) (show 1 ≤ (3 : Int) ∧ (3 : Int) ≤ 1000 by decide)) ev_i) (evp_call D__law_draw (hr.mono (by decide)) er_at (ev_v 0 rfl) (ap_c (x := _law_prime) er_at (ev_v 1 rfl) ap_0) (show 1 ≤ _law_prime ∧ _law_prime ≤ 1000 by omega)) (evp (x := 0) ev_i)) (fun x hx => hx.elim (fun h => h) fun h => by omega)) same_er j.pot fun x v2 H4 hx px hv2 => ?_
      cases (show v2 = V.int x from hv2)
      have j := j.px c px
      obtain ⟨l, hl1, hl2, hl3⟩ := j.set c (a := k.toNat) (b := k.toNat) (x := x) (by omega) hx
      refine ⟨l, _, k, ev_weak (ev_ixL (r := rA) (xs := bs) (j := k.toNat) (ev_v 3 ⟨B, _, rfl, j.hB, pr_refs bs⟩) (Ev.is (ev_v 4 rfl) (by omega)) hl1) fun h => h, ev_v 4 rfl, hl2, ⟨hk.1, by rw [List.length_map, (tab_get j.ok.2 (i := k.toNat) (by rw [j.ok.1]; omega)).1]; exact hk.2⟩, fun H5 s5 => cs_nil ⟨_, _, rfl, hl3 H5 s5, bs_diag hbo (by omega) hx⟩⟩
    · rintro σ' H3 ⟨o4, tbl, rfl, j, hbo⟩
      refine cs_retP (P := Pt) (evp_callG D__law_led (hr.mono (by decide)) er_at (ev_v 1 (r := rI) (d := _law_prime) rfl) (evp_p0 (evp_call D__law_letters (hr.mono (by decide)) er_at (ev_v 0 rfl) (ap_c (x := _law_prime) er_at (ev_v 1 rfl) (ap_c (x := (n : Int)) er_at (ev_v 2 rfl) ap_0)) ⟨g, n, rfl, by omega⟩)) (ev_v 3 rfl) (j.tabE c) fun t ht => ?_) same_er j.pot fun res v H4 hres px hv => ?_
      · obtain ⟨_, ht⟩ := ht
        have ht' : LetM _law_prime n t := by
          have this : LetM _law_prime ((n : Nat) : Int).toNat t := ht
          rw [Int.toNat_natCast] at this
          exact this
        have h5 := ht'.ok hb.1
        exact ⟨⟨by omega, fun row hr x hx => sm_of ((h5.1 row hr).2 x hx) hb.2⟩, fun row hr x hx => sm_of ((j.ok.2 row hr).2 x hx) hb.2⟩
      · obtain ⟨t, ⟨_, ht⟩, rfl⟩ := hres
        have ht' : LetM _law_prime n t := by
          have this : LetM _law_prime ((n : Nat) : Int).toNat t := ht
          rw [Int.toNat_natCast] at this
          exact this
        exact kk _ v H4 ⟨n, t, tbl, by omega, ht', hbo, rfl⟩ ⟨((same_er3 px1.1).trans j.sm |> same_er3).trans px.1, px.2⟩ hv
abbrev sp__law_room (K : Fr) : Sp := spP (aC (rI) (a0)) (fun (_law_most, _) => _law_most = 3) (r2 rI (rL (rL rI))) (fun (_law_most, _) res => P357 res.1 ∧ ∃ (n : Nat) (t base : Tb), n ≤ 3 ∧ LetM res.1 n t ∧ BsOk res.1 n base ∧ res.2 = lledM res.1 t base) K
theorem sc__law_room : FnScope ["_law_pot_here", "_law_most", "_law_prime", "_law_size", "_law_base", "_law_place"] ["_law_pot_here", "_law_most"] (defScope (top 102)) := ⟨rfl, rfl, rfl, by decide +kernel, rfl, by decide +kernel, by decide +kernel⟩
theorem df__law_room {P : Program} {w : World} {K : Fr} {mg : Str → Option Value} {base : Heap} (T : Tx K mg) : Df P w K mg base 3 "_law_room" ["_law_pot_here", "_law_most"] (sp__law_room K) := by
  have D__law_draw := df__law_draw (P := P) (w := w) (base := base) T
  have D__law_led := df__law_led (P := P) (w := w) (base := base) T
  have D__law_letters := df__law_letters (P := P) (w := w) (base := base) T
  have D__law_pick := df__law_pick (P := P) (w := w) (base := base) T
  obtain ⟨fd, F⟩ := T.dx 80 (d := d80) rfl
  refine ⟨_, fd, T.gl 74 rfl, F.kp, F.bindsN (fun _ _ _ _ _ _ us hl => match us, hl with | [_, _], _ => rfl), ?_⟩
  refine F.ok sc__law_room (fun vs H Q E h => ?_) (fun cdv A outer s H vs Q E hr h => ⟨_, PSs.nox cS_pss, ?_⟩)
  · obtain ⟨Pt, us, ⟨_law_most, u_end⟩, rfl, hpot, ⟨v__law_most, _, rfl, h__law_most, h_end⟩, g⟩ := h
    cases h_end
    rfl
  · obtain ⟨Pt, us, ⟨_law_most, u_end⟩, rfl, hpot, ⟨v__law_most, _, rfl, h__law_most, h_end⟩, g, kk⟩ := h
    cases h_end
    replace h__law_most : Rp.rel (rI) K (er Pt H) v__law_most _law_most := h__law_most
    replace g : _law_most = 3 := g
    replace kk : ∀ res v H2, (P357 res.1 ∧ ∃ (n : Nat) (t base : Tb), n ≤ 3 ∧ LetM res.1 n t ∧ BsOk res.1 n base ∧ res.2 = lledM res.1 t base) → Px Pt H H2 → Rp.rel (r2 rI (rL (rL rI))) K (er Pt H2) v res → Q v H2 := kk
    subst g
    cases (show v__law_most = V.int 3 from h__law_most)
    refine cs_setP (P := Pt) (i := 2) sc__law_room.nd rfl (evp_call D__law_pick (hr.mono (by decide)) er_at (ev_v 0 rfl) (ap_n (xs := [3, 3, 5, 7]) er_at en_L4 ap_0) (show 1 ≤ ([3, 3, 5, 7] : List Int).length ∧ ([3, 3, 5, 7] : List Int).length ≤ 1000 by decide)) same_er hpot fun p v0 H0 hp px0 hv0 => ?_
    cases (show v0 = V.int p from hv0)
    replace hp : p ∈ ([3, 3, 5, 7] : List Int) := hp
    have hp : P357 p := by
      simp only [List.mem_cons, List.not_mem_nil, or_false] at hp
      unfold P357
      omega
    have hb := hp.b
    refine cs_setP (P := Pt) (i := 3) sc__law_room.nd rfl (evp_call D__law_draw (hr.mono (by decide)) er_at (ev_v 0 rfl) (ap_c (x := 4) er_at (ev_add (x := 3) (y := 1) (ev_if (et_eq (ev_v 2 (r := rI) (d := p) rfl) ev_i) (fun _ => ev_v 1 rfl) fun _ => ev_i) ev_i) ap_0) (show 1 ≤ (4 : Int) ∧ (4 : Int) ≤ 1000 by decide)) same_er px0.2 fun sz v1 H1 hsz px1' hv1 => ?_
    have px1 := px0.tr px1'
    cases (show v1 = V.int sz from hv1)
    replace hsz : 0 ≤ sz ∧ sz < 4 := hsz
    obtain ⟨n, rfl⟩ : ∃ n : Nat, sz = n := ⟨sz.toNat, by omega⟩
    obtain ⟨pa, pb, hPt, hpab⟩ := px1.2
    have hpot1 : Pot Pt H1 := ⟨pa, pb, hPt, hpab⟩
    refine cs_setG (q := rI) (f := fun _ : Int => List.replicate (n : Int).toNat (0 : Int)) (i := 4) (j := 5) sc__law_room.nd rfl (src_R1 (n := (n : Int)) (m_range T) (ev_v 3 rfl) (by omega)) (blkOk_by (N := ["_law_pot_here", "_law_most", "_law_prime", "_law_size", "_law_base", "_law_place"]) (sc := defScope (top 102)) (by decide +kernel)) ⟨rfl, by first | exact Or.inl rfl | exact Or.inr rfl, by first | exact Or.inr rfl | exact Or.inl rfl⟩ (fun s' Hs C cl fp x hx v H2 s2 hv => en_rep (ev_L1 ev_i) (ev_v 3 rfl) (by omega)) fun B bs H2 hB hBb hnd hbs s2 h3 h4 => ?_
    have e0 : ((ups 0 (n : Int).toNat).map fun _ : Int => List.replicate (n : Int).toNat (0 : Int)) = bs0 n := by
      rw [Int.toNat_natCast]
      rfl
    rw [e0] at h4
    have c : BC Pt B bs H1 := ⟨pot_ne hpot1 hB, hBb, hnd, fun b hbb => pot_ne hpot1 (hbs b hbb), hB, hbs⟩
    have hb0 := bs0_ok (p := p) hb.1 n
    have j0 : BJ K p n Pt B bs H1 H2 (bs0 n) := ⟨same_er.trans s2, hpot1.same s2, h3, h4, hb0.1, hb0.2.1⟩
    refine cs_forG1 (j := 5) (G := fun _ => True) sc__law_room.nd rfl (srcG_R1 (n := (n : Int)) (m_range T) (ev_v 3 rfl) (by omega)) (fun _ σ' H' => ∃ o5 tbl, σ' = [some (.ref Pt), some (.int 3), some (.int p), some (.int n), some (.ref B), o5] ∧ BJ K p n Pt B bs H1 H' tbl ∧ BsOk p n tbl) (fun H3 s3 => ⟨none, bs0 n, rfl, j0.same c s3, hb0⟩) (fun _ _ _ _ => trivial) ?_ ?_
    · rintro _ k v σ' H3 hx hv ⟨o5, tbl, rfl, j, hbo⟩
      cases (show v = V.int k from hv)
      have hk := ups_mem (List.mem_of_getElem? hx)
      rw [Int.toNat_natCast, Int.zero_add] at hk
      refine cs_itemP (P := Pt) (p1 := fun x => 0 ≤ x ∧ x < p) (EvP.post (evp_if er_at (etp_gt (n := 0) er_at (evp_call D__law_draw (hr.mono (by decide)) er_at (ev_v 0 rfl) (ap_c (x := 4) er_at ev_i ap_0) (show 1 ≤ (4 : Int) ∧ (4 : Int) ≤ 1000 by decide)) ev_i) (evp_call D__law_draw (hr.mono (by decide)) er_at (ev_v 0 rfl) (ap_c (x := p) er_at (ev_v 2 rfl) ap_0) (show 1 ≤ p ∧ p ≤ 1000 by omega)) (evp (x := 0) ev_i)) (fun x hx => hx.elim (fun h => h) fun h => by omega)) same_er j.pot fun x v2 H4 hx px hv2 => ?_
      cases (show v2 = V.int x from hv2)
      have j := j.px c px
      obtain ⟨l, hl1, hl2, hl3⟩ := j.set c (a := k.toNat) (b := k.toNat) (x := x) (by omega) hx
      refine ⟨l, _, k, ev_weak (ev_ixL (r := rA) (xs := bs) (j := k.toNat) (ev_v 4 ⟨B, _, rfl, j.hB, pr_refs bs⟩) (Ev.is (ev_v 5 rfl) (by omega)) hl1) fun h => h, ev_v 5 rfl, hl2, ⟨hk.1, by rw [List.length_map, (tab_get j.ok.2 (i := k.toNat) (by rw [j.ok.1]; omega)).1]; exact hk.2⟩, fun H5 s5 => cs_nil ⟨_, _, rfl, hl3 H5 s5, bs_diag hbo (by omega) hx⟩⟩
    · rintro σ' H3 ⟨o5, tbl, rfl, j, hbo⟩
      have fin : ∀ (H3 : Hp) (tbl : Tb), BJ K p n Pt B bs H1 H3 tbl → BsOk p n tbl → cS (cxOf CX0 P w K mg base ["_law_pot_here", "_law_most", "_law_prime", "_law_size", "_law_base", "_law_place"] d80.qual d80.scope (d80.at_ K) cdv A outer s H E).nox (d80.body.drop 5) { nx := fun _ H' => Q .non H', rt := Q } [some (.ref Pt), some (.int 3), some (.int p), some (.int n), some (.ref B), o5] H3 := by
        intro H3 tbl j hbo
        refine cs_retP (P := Pt) (evp_2 (x := p) er_at (ev_v 2 (r := rI) (d := p) rfl) (evp_callG D__law_led (hr.mono (by decide)) er_at (ev_v 2 (r := rI) (d := p) rfl) (evp_p0 (evp_call D__law_letters (hr.mono (by decide)) er_at (ev_v 0 rfl) (ap_c (x := p) er_at (ev_v 2 rfl) (ap_c (x := (n : Int)) er_at (ev_v 3 rfl) ap_0)) ⟨hp, n, rfl, by omega⟩)) (ev_v 4 rfl) (j.tabE c) fun t ht => ?_)) same_er j.pot fun res v H4 hres px hv => ?_
        · obtain ⟨_, ht⟩ := ht
          have ht' : LetM p n t := by
            have this : LetM p ((n : Nat) : Int).toNat t := ht
            rw [Int.toNat_natCast] at this
            exact this
          have h5 := ht'.ok hb.1
          exact ⟨⟨by omega, fun row hr x hx => sm_of ((h5.1 row hr).2 x hx) hb.2⟩, fun row hr x hx => sm_of ((j.ok.2 row hr).2 x hx) hb.2⟩
        · obtain ⟨hr1, t, ⟨_, ht⟩, hr2⟩ := hres
          obtain ⟨r1, r2'⟩ := res
          have hr1 : r1 = p := hr1
          subst hr1
          have ht' : LetM r1 n t := by
            have this : LetM r1 ((n : Nat) : Int).toNat t := ht
            rw [Int.toNat_natCast] at this
            exact this
          exact kk _ v H4 ⟨hp, n, t, tbl, by omega, ht', hbo, hr2⟩ ⟨((same_er3 px1.1).trans j.sm |> same_er3).trans px.1, px.2⟩ hv
      by_cases h1n : 1 < n
      · refine cs_ifP (P := Pt) (etp_and er_at (et_gt (ev_v 3 (r := rI) (d := (n : Int)) rfl) ev_i) (etp_eq (n := 0) er_at (evp_call D__law_draw (hr.mono (by decide)) er_at (ev_v 0 rfl) (ap_c (x := 3) er_at ev_i ap_0) (show 1 ≤ (3 : Int) ∧ (3 : Int) ≤ 1000 by decide)) ev_i)) same_er j.pot (fun H4 px => ?_) fun H4 px => cs_nil (fin H4 tbl (j.px c px) hbo)
        refine cs_sub3 (r := rI) (q := rI) (p := rI) (x := (1, 1, 0)) (ev_3 ev_i ev_i ev_i) fun u v w H5 s5 hu hv hw => ?_
        cases (show u = V.int 1 from hu)
        cases (show v = V.int 1 from hv)
        cases (show w = V.int 0 from hw)
        have j1 := (j.px c px).same c s5
        obtain ⟨l1, a1', a2', a3'⟩ := j1.set c (a := 0) (b := 1) (x := 1) (by omega) (by omega)
        refine gs_sub (l := l1) (n := 1) (ev_weak (ev_ixL (r := rA) (xs := bs) (j := 0) (ev_v 4 ⟨B, _, rfl, j1.hB, pr_refs bs⟩) ev_i a1') fun h => h) ev_i a2' ⟨by decide, by rw [List.length_map, (tab_get j1.ok.2 (i := 0) (by rw [j1.ok.1]; omega)).1]; omega⟩ fun H6 s6 => ?_
        have j2 := a3' H6 s6
        obtain ⟨l2, b1', b2', b3'⟩ := j2.set c (a := 1) (b := 0) (x := 1) (by omega) (by omega)
        refine gs_sub (l := l2) (n := 0) (ev_weak (ev_ixL (r := rA) (xs := bs) (j := 1) (ev_v 4 ⟨B, _, rfl, j2.hB, pr_refs bs⟩) ev_i b1') fun h => h) ev_i b2' ⟨by decide, by rw [List.length_map, (tab_get j2.ok.2 (i := 1) (by rw [j2.ok.1]; omega)).1]; omega⟩ fun H7 s7 => ?_
        have j3 := b3' H7 s7
        obtain ⟨l3, c1', c2', c3'⟩ := j3.set c (a := 0) (b := 0) (x := 0) (by omega) (by omega)
        refine gs_sub (l := l3) (n := 0) (ev_weak (ev_ixL (r := rA) (xs := bs) (j := 0) (ev_v 4 ⟨B, _, rfl, j3.hB, pr_refs bs⟩) ev_i c1') fun h => h) ev_i c2' ⟨by decide, by rw [List.length_map, (tab_get j3.ok.2 (i := 0) (by rw [j3.ok.1]; omega)).1]; omega⟩ fun H8 s8 => ?_
        exact cs_nil (fin _ _ (c3' H8 s8) (bs_swap hb.1 hbo h1n))
      · exact cs_skip (EvT.is (et_w (ew_and (x := false) (y := false) (EvT.is (et_gt (ev_v 3 (r := rI) (d := (n : Int)) rfl) ev_i) (decide_eq_false (by omega))) fun h => nomatch h)) rfl) fun H4 s4 => fin H4 tbl (j.same c s4) hbo
end K06
/-! ==== KR ==== -/
set_option Elab.async false
set_option linter.all false
set_option maxRecDepth 100000
set_option maxHeartbeats 4000000
namespace K06
open PySem L2 PySem.Spec PyProof.Rows RZ
theorem ints_er {K : Fr} {H H' : Hp} {ws : List V} {xs : List Int} (h : Paired (rI.rel K H) ws xs) : Paired (rI.rel K H') ws xs := Paired.mapP h fun _ _ q => q
section
variable {X : Cx} {σ : L2.St} {H H' Hk : Hp} {P : Addr} {α β γ δ : Type} {r : Rp α} {q : Rp β} {p : Rp γ} {pos spos p2 p3 : Pos} {e a b c d : Expr} {p1 : α → Prop}
theorem ev_go {x : α} {Q : VK} (h : Ev X σ H e r x) (k : ∀ v H2, Same H H2 → r.rel X.K H2 v x → Q v H2) : cE X e σ H Q := h H (Same.refl H) Q k
theorem en_go {xs : List α} {Q : VK} (h : EvN X σ H e r xs) (k : ∀ l vs H2, H l = none → Same H H2 → H2 l = some (.lst vs) → Paired (r.rel X.K H2) vs xs → Q (.ref l) H2) : cE X e σ H Q := h H (Same.refl H) Q k
theorem EvP.weak {q : Rp α} (h : EvP X σ P Hk e r p1) (k : ∀ {H v x}, r.rel X.K H v x → q.rel X.K H v x) : EvP X σ P Hk e q p1 := fun H1 s1 hp Q c => h H1 s1 hp Q fun x v H2 hx px hv => c x v H2 hx px (k hv)
theorem evp_var {v : V} {x : α} (hP : Hk P = none) (h : Ev X σ Hk e (rV v) ()) (hv : r.rel X.K Hk v x) : EvP X σ P Hk e r (fun y => y = x) := fun H1 s1 hp Q c => h H1 s1 Q fun u H2 s2 hu => by
  cases (show u = v from hu)
  exact c x v H2 rfl (Px.of hp s2) (r.mono ((er_k hP s1).trans (Px.of hp s2).er) hv)
theorem evp_tup {v : V} {xs : List α} {p2 : Pos} (hP : Hk P = none) (hm : X.mg "tuple" = none) (h : Ev X σ Hk a (rV v) ()) (hv : (rL r).rel X.K Hk v xs) (hg : Gl X "tuple" := by rfl) (he : starEach [a] X.env = (false, eval a X.env) :: starEach [] X.env := by rfl) : EvP X σ P Hk (.Call (.Name "tuple" p2) [a] [] pos) (rT r) (fun y => y = xs) := fun H1 s1 hp Q c =>
  cE_of (pe_callTy call_tuple_of hg hm (by decide +kernel) cA_pa (by decide) (by decide) he) (ea_1 h he H1 s1 _ fun vs H2 s2 hvs => by
    obtain ⟨u, rfl, hu⟩ := a1 hvs
    cases (show u = v from hu)
    have sk : Same Hk (er P H2) := (er_k hP s1).trans (Px.of hp s2).er
    obtain ⟨l, ws, rfl, h1, h2⟩ := (rL r).mono sk hv
    have hp2 := hp.same s2
    refine ⟨l, ws, rfl, .inl ⟨SqL.of (same_er _ _ h1), fun t ht => ?_⟩⟩
    have sn := same_new (o := HO.tup ws) ht
    exact c xs _ _ rfl ((Px.of hp s2).tr (Px.of hp2 sn)) ⟨t, ws, rfl, by rw [er_ne (pot_ne hp2 ht)]; exact upd_same, pmono (er_mono sn) h2⟩)
theorem tt_go {σ : L2.St} {H4 : Hp} {Q : Bool → Hp → Prop} (h : Q true H4) : tYes σ H4 Q := h
/-- the elements of a comprehension, each drawn -/
theorem cs_setLP {scope : Scope} {elt iter : Expr} {y nm : Str} {py pn : Pos} {i j : Nat} {xs : List α} {w : V} {H1 : Hp} {D' : Ends} {rest : List Stmt} (hP : Hk P = none) (nd : X.N.Nodup) (hi : X.N[i]? = some nm) (s1 : Same Hk H1) (hp : Pot P H1) (hit : Ev X σ Hk iter (rV w) ()) (hw : (rL r).rel X.K Hk w xs) (ok : BlkOk X.N X.env.scope scope [(y, j)]) (ow : Own X scope y j) {q : Rp α}
    (he : ∀ s Hs C cl fp, ∀ x ∈ xs, ∀ v H3, Same Hk H3 → Pot P H3 → r.rel X.K Hk v x → ∀ Q : VK, (∀ w H4, Px P H3 H4 → (∀ D zs, H3 D = some (.lst zs) → D ≠ P → q.rel X.K (er D (er P H4)) w x) → Q w H4) → cE (Bk X scope s Hs C cl fp) elt (σ.set j (some v)) H3 Q) (k : ∀ v H2, Px P H1 H2 → (rL q).rel X.K (er P H2) v xs → cS X rest D' (σ.set i (some v)) H2) (hyl : X.env.scope.names.lookup nm = some .local := by rfl)
    (hsw : swapsWith (.ListComp elt [⟨.Name y py, iter, [], 0⟩] scope pos) (some (.Name nm pn)) spos.line X.env = pure true := by rfl) (hc : X.calm = true := by rfl) (hs : ∀ x, foldedSetIterable iter X.env x = pure x := by intro _; rfl) :
    cS X (.Assign [.Name nm pn] (.ListComp elt [⟨.Name y py, iter, [], 0⟩] scope pos) spos :: rest) D' σ H1 := by
  refine cs_one (ps_setLc (own := [(y, j)]) (te := cEb X scope elt) hc nd hi hyl hsw (pi_list cE_pe) ok (own_pg nd ow) (fun _ _ _ _ _ => pts_nil) (fun s Hs C cl fp => cEb_pe s Hs C cl fp) hs) ?_
  show tLc _ _ _ _ [j] σ H1 _
  refine cE_lens (hit H1 s1 _ fun u H2 s2 hu hlen => ?_)
  cases (show u = w from hu)
  obtain ⟨l, vs, rfl, h1, h2⟩ := hw
  have hk2 := s1.trans s2
  have hp2 := hp.same s2
  refine ⟨l, rfl, ⟨vs, SqL.of (hk2 _ _ h1)⟩, fun D hD => ?_⟩
  have hz : xs.length ≤ sizeLine := by rw [← h2.length]; exact hlen l vs (.inl (hk2 _ _ h1))
  have hDP := pot_ne hp2 hD
  have hDk : Hk D = none := none_back hk2 hD
  have wk : Walk (Itl X.K l) xs.length (fun H3 => Same Hk H3) (fun i H3 v H4 => H4 = H3 ∧ ∃ x, xs[i]? = some x ∧ r.rel X.K Hk v x) := by
    rw [← h2.length]
    refine walk_list.mono (fun H3 s3 => SqL.of (s3 _ _ h1)) fun i H3 x H4 _ s3 y => ?_
    obtain ⟨z, h3, h4⟩ := pr_getV h2 y.2
    exact ⟨y.1, z, h3, h4⟩
  refine lc_it wk (fun i H3 => Same Hk H3 ∧ Pot P H3 ∧ Same (er P H1) H3 ∧ ∃ acc, H3 D = some (.lst acc) ∧ acc.length ≤ i ∧ Paired (q.rel X.K (er D (er P H3))) acc (xs.take i)) ⟨hk2.trans (same_new hD), hp2.same (same_new hD), same_er.trans (s2.trans (same_new hD)), [], upd_same, Nat.le_refl _, .nil⟩ (fun i H3 _ h => h.1) ?_ ?_
  · rintro i v H3 H4 hi ⟨sk, hp3, s3, acc, h3, h3b, h4⟩ ⟨rfl, x, hx, hv⟩
    have hm : x ∈ xs := List.mem_of_getElem? hx
    show (fun σ2 H5 => wipe σ2 [j] = wipe σ [j] ∧ _) ((wipe σ [j]).set j (some v)) H4
    rw [wipe_set]
    refine ⟨wipe1 σ j _, tt_go ?_⟩
    refine iteT fun s Hs C cl fp => he s Hs C cl fp x hm v H4 sk hp3 hv _ fun u H5 px hu => ?_
    have h5 : H5 D = some (.lst acc) := px.1 _ _ (by rw [er_ne hDP]; exact h3)
    refine ⟨acc, h5, by have : i < sizeLine := Nat.lt_of_lt_of_le hi hz; omega, same_mut ((er_k hP sk).trans px.1) hDk, ?_, same_mut ((same_er3 s3).trans px.1) ?_, acc ++ [u], upd_same, by rw [List.length_append, List.length_singleton]; omega, ?_⟩
    · obtain ⟨a, b, h6, h7⟩ := px.2
      exact ⟨a, b, by rw [upd_ne (Ne.symm hDP)]; exact h6, h7⟩
    · rw [er_ne hDP]
      exact none_back s2 hD
    · have e : er D (er P (upd H5 D (.lst (acc ++ [u])))) = er D (er P H5) := funext fun z => by
        by_cases e1 : z = D
        · rw [e1, er_at, er_at]
        · rw [er_ne e1, er_ne e1]
          by_cases e2 : z = P
          · rw [e2, er_at, er_at]
          · rw [er_ne e2, er_ne e2, upd_ne e1]
      rw [e, List.take_succ, hx]
      exact pr_app (pmono (er_mono px.er) h4) (.cons (hu D acc h3 hDP) .nil)
  · rintro H3 ⟨sk, hp3, s3, acc, h3, h3b, h4⟩
    rw [List.take_length] at h4
    exact k _ H3 ⟨s3, hp3⟩ ⟨D, acc, rfl, by rw [er_ne hDP]; exact h3, pmono same_er h4⟩
theorem en_L2 {x y : Int} (ha : Ev X σ H a rI x) (hb : Ev X σ H b rI y) (hs : starEach [a, b] X.env = (false, eval a X.env) :: starEach [b] X.env := by rfl) (hs2 : starEach [b] X.env = (false, eval b X.env) :: starEach [] X.env := by rfl) : EvN X σ H (.List [a, b] pos) rI [x, y] :=
  en_of (pe_lst cA_pa) fun H1 s Q c => ea_c ha (ea_1 hb hs2) hs H1 s _ fun vs H2 s2 hvs => by
    obtain ⟨v, w, rfl, h1, h2⟩ := a2 hvs
    exact ⟨by show 2 ≤ sizeLine; decide, fun l hl => c l _ _ (none_back s2 hl) (s2.trans (same_new hl)) upd_same (.cons h1 (.cons h2 .nil))⟩
theorem cs_retN {xs : List α} {D : Ends} {rest : List Stmt} (ha : EvN X σ H a r xs) (k : ∀ l vs H2, H l = none → Same H H2 → H2 l = some (.lst vs) → Paired (r.rel X.K H2) vs xs → D.rt (.ref l) H2) : cS X (.Return (some a) pos :: rest) D σ H :=
  cs_one (ps_ret cE_pe) (ha H (Same.refl H) _ k)
theorem ev_slen {S : Addr} {ns : List Int} {p2 : Pos} (hm : X.mg "len" = none) (ha : Ev X σ H a (rV (.ref S)) ()) (hS : SqL X.K H S (ns.map V.int)) (hg : Gl X "len" := by rfl) (he : starEach [a] X.env = (false, eval a X.env) :: starEach [] X.env := by rfl) : Ev X σ H (.Call (.Name "len" p2) [a] [] pos) rI (ns.length : Int) :=
  fun H1 s => (ev_cb (p := aC (rV (.ref S)) a0) (r := rI) call_len_seq hm PySem.boot_len (ea_1 (ha.up s) he) (fun H2 s2 vs hvs Q c => by
    obtain ⟨v, rfl, h1⟩ := a1 hvs
    cases (show v = V.ref S from h1)
    exact ⟨S, _, rfl, .inl ((s.trans s2).seq hS), c _ H2 (Same.refl H2) (by show _ = V.int _; rw [List.length_map])⟩) hg (he := he)) H1 (Same.refl H1)
theorem ev_six {S : Addr} {ns : List Int} (ha : Ev X σ H a (rV (.ref S)) ()) (hb : Ev X σ H b rI 0) (hS : SqL X.K H S (ns.map V.int)) (hx : 0 < ns.length) (hs : PlainIx b := by exact fun _ _ => rfl) : Ev X σ H (.Subscript a b pos) rI (ns.getD 0 0) :=
  ev_of (pe_ix ix_list cE_pe cE_pe hs) fun H1 s Q c => ha H1 s _ fun v H2 s2 hv => hb H2 (s.trans s2) _ fun w H3 s3 hw => by
    cases (show v = V.ref S from hv)
    refine ⟨S, _, 0, .int (ns.getD 0 0), rfl, hw, ((s.trans s2).trans s3).seq hS, atI_nat (j := 0) ?_, c _ H3 (s2.trans s3) rfl⟩
    rw [List.getElem?_map, List.getElem?_eq_getElem hx, List.getD_eq_getElem?_getD, List.getElem?_eq_getElem hx]
    rfl
end
end K06
/-! ==== DO ==== -/
set_option Elab.async false
set_option linter.all false
set_option maxRecDepth 100000
set_option maxHeartbeats 4000000
namespace K06
open PySem L2 PySem.Spec PyProof.Rows RZ

abbrev sp__law_given (K : Fr) : Sp := spP (aC (rL (rL rI)) (a0)) (fun (_law_grid, _) => True) (rS (rS rI)) (fun (_law_grid, _) res => res = _law_grid) K
theorem sc__law_given : FnScope ["_law_pot_here", "_law_grid", "_law_found", "_law_row"] ["_law_pot_here", "_law_grid"] (defScope (top 103)) := ⟨rfl, rfl, rfl, by decide +kernel, rfl, by decide +kernel, by decide +kernel⟩
theorem df__law_given {P : Program} {w : World} {K : Fr} {mg : Str → Option Value} {base : Heap} (T : Tx K mg) : Df P w K mg base 2 "_law_given" ["_law_pot_here", "_law_grid"] (sp__law_given K) := by
  have D__law_draw := df__law_draw (P := P) (w := w) (base := base) T
  obtain ⟨fd, F⟩ := T.dx 81 (d := d81) rfl
  refine ⟨_, fd, T.gl 75 rfl, F.kp, F.bindsN (fun _ _ _ _ _ _ us hl => match us, hl with | [_, _], _ => rfl), ?_⟩
  refine F.ok sc__law_given (fun vs H Q E h => ?_) (fun cdv A outer s H vs Q E hr h => ⟨_, PSs.nox cS_pss, ?_⟩)
  · obtain ⟨Pt, us, ⟨_law_grid, u_end⟩, rfl, hpot, ⟨v__law_grid, _, rfl, h__law_grid, h_end⟩, g⟩ := h
    cases h_end
    rfl
  · obtain ⟨Pt, us, ⟨_law_grid, u_end⟩, rfl, hpot, ⟨v__law_grid, _, rfl, h__law_grid, h_end⟩, g, kk⟩ := h
    cases h_end
    replace h__law_grid : Rp.rel (rL (rL rI)) K (er Pt H) v__law_grid _law_grid := h__law_grid
    replace g : True := g
    replace kk : ∀ res v H2, (res = _law_grid) → Px Pt H H2 → Rp.rel (rS (rS rI)) K (er Pt H2) v res → Q v H2 := kk
    refine cs_setLP (P := Pt) (Hk := er Pt H) (r := rL rI) (q := rS rI) (i := 2) (j := 3) er_at sc__law_given.nd rfl same_er hpot (ev_v 1 rfl) h__law_grid (blkOk_by (N := ["_law_pot_here", "_law_grid", "_law_found", "_law_row"]) (sc := defScope (top 103)) (by decide +kernel)) ⟨rfl, by first | exact Or.inl rfl | exact Or.inr rfl, by first | exact Or.inr rfl | exact Or.inl rfl⟩ (fun s' Hs C cl fp x hx v H3 s3 hp3 hv => ?_) fun v1 H1 px1 hv1 => ?_
    · have hP : (er Pt H3) Pt = none := er_at
      intro Q' c
      have hv3 : (rL rI).rel K (er Pt H3) v x := Rp.mono _ (same_er2 er_at s3) hv
      refine cE_of (pe_ifExp cT_pt cE_pe cE_pe) ((etp_eq (n := 0) hP (evp_call (X := Bk _ _ s' Hs C cl fp) D__law_draw (hr.mono (by decide)) hP (ev_v 0 rfl) (ap_c (x := 2) hP ev_i ap_0) (show 1 ≤ (2 : Int) ∧ (2 : Int) ≤ 1000 by decide)) ev_i) H3 same_er hp3 _ fun k H4 px => ?_)
      have hv4 : (rL rI).rel K H4 v x := Rp.mono _ px.1 hv3
      have keep : ∀ {H5 D zs}, Same H4 H5 → H3 D = some (.lst zs) → D ≠ Pt → H5 D = some (.lst zs) := fun s5 h hD => s5 _ _ (px.1 _ _ (by rw [er_ne hD]; exact h))
      cases k with
      | true =>
        refine iteT (ev_go (ev_tupL (X := Bk _ _ s' Hs C cl fp) (r := rI) (xs := x) (m_tuple T) (ev_v 3 hv4)) fun w H5 s5 hw => c w H5 (px.tr (Px.of px.2 s5)) fun D zs hD hDP => ?_)
        have h5 := pot_te (px.2.same s5) hw
        exact .inr (Te.te (by rw [er_ne hDP]; exact keep s5 hD hDP) h5)
      | false =>
        refine iteF (en_go (en_lstQ (X := Bk _ _ s' Hs C cl fp) (rr := rL rI) (r := rI) (xs := x) (m_list T) (ev_v 3 hv4)) fun l ws H5 hl s5 h5 h6 => c _ H5 (px.tr (Px.of px.2 s5)) fun D zs hD hDP => .inl ⟨l, ws, rfl, ?_, ints_er h6⟩)
        have hlP := pot_ne px.2 hl
        have hlD : l ≠ D := fun e => by
          have := keep (Same.refl _) hD hDP
          rw [← e, hl] at this
          cases this
        rw [er_ne hlD, er_ne hlP]
        exact h5
    · refine cs_retP (P := Pt) (EvP.post (evp_if er_at (etp_eq (n := 0) er_at (evp_call D__law_draw (hr.mono (by decide)) er_at (ev_v 0 rfl) (ap_c (x := 2) er_at ev_i ap_0) (show 1 ≤ (2 : Int) ∧ (2 : Int) ≤ 1000 by decide)) ev_i) (EvP.weak (q := rS (rS rI)) (evp_var (r := rL (rS rI)) er_at (ev_v 2 rfl) hv1) fun h => Or.inl h) (EvP.weak (q := rS (rS rI)) (evp_tup (r := rS rI) er_at (m_tuple T) (ev_v 2 rfl) hv1) fun h => Or.inr h)) (fun x hx => hx.elim (fun h => h) fun h => h)) same_er px1.2 fun res v H2 hres px2 hv => kk res v H2 hres (px1.tr px2) hv
/-- the pot is made -/
def spPot (K : Fr) : Sp := fun vs H Q _ => ∃ (S : Addr) (ns : List Int), vs = [.ref S, .int 0] ∧ SqL K H S (ns.map V.int) ∧ ns.length ≤ 100000 ∧ ∀ P H2, H P = none → Same H H2 → Pot P H2 → Q (.ref P) H2
abbrev sp__law_pot (K : Fr) : Sp := spPot K
theorem sc__law_pot : FnScope ["_law_script", "_law_k", "_law_cell"] ["_law_script", "_law_k"] (defScope (top 94)) := ⟨rfl, rfl, rfl, by decide +kernel, rfl, by decide +kernel, by decide +kernel⟩
theorem df__law_pot {P : Program} {w : World} {K : Fr} {mg : Str → Option Value} {base : Heap} (T : Tx K mg) : Df P w K mg base 1 "_law_pot" ["_law_script", "_law_k"] (sp__law_pot K) := by
  obtain ⟨fd, F⟩ := T.dx 72 (d := d72) rfl
  refine ⟨_, fd, T.gl 66 rfl, F.kp, F.bindsN (fun _ _ _ _ _ _ us hl => match us, hl with | [_, _], _ => rfl), ?_⟩
  refine F.ok sc__law_pot (fun vs H Q E h => ?_) (fun cdv A outer s H vs Q E hr h => ⟨_, PSs.nox cS_pss, ?_⟩)
  · obtain ⟨S, ns, rfl, _⟩ := h
    rfl
  · obtain ⟨S, ns, rfl, hS, hl, kk⟩ := h
    refine cs_set (i := 2) sc__law_pot.nd rfl (x := if (0 : Int) < (ns.length : Int) then (if ns.getD 0 0 < 0 then -(ns.getD 0 0) else ns.getD 0 0) else 577 * 0 + 461) (ev_if (et_lt (ev_v 1 (r := rI) (d := 0) rfl) (ev_slen (m_len T) (ev_v 0 rfl) hS)) (fun q => Ev.is (ev_abs (m_abs T) (ev_six (ev_v 0 rfl) (ev_v 1 rfl) hS (by have := of_decide_eq_true q; omega))) (by rw [if_pos (of_decide_eq_true q)])) fun q => Ev.is (ev_add (ev_mul ev_i (ev_v 1 (r := rI) (d := 0) rfl) (by unfold Sm; decide)) ev_i) (by rw [if_neg (of_decide_eq_false q)])) fun v H1 s1 hv => ?_
    generalize (if (0 : Int) < (ns.length : Int) then (if ns.getD 0 0 < 0 then -(ns.getD 0 0) else ns.getD 0 0) else 577 * 0 + 461) = cell at hv
    have hc1 := Int.emod_nonneg cell (show (2147483549 : Int) ≠ 0 by decide)
    have hc2 := Int.emod_lt_of_pos cell (show (0 : Int) < 2147483549 by decide)
    refine cs_retN (en_L2 (ev_max0 (m_max T) ev_i (ev_sub (ev_v 2 hv) (ev_pow ev_i ev_i ⟨by decide, by decide, by decide⟩))) (ev_add (ev_mod (ev_intI (m_int T) (ev_add (ev_add (ev_mul (ev_mod (ev_intI (m_int T) (ev_v 2 hv)) ev_i (by decide)) ev_i (by unfold Sm; omega)) (ev_mul ev_i (ev_v 1 (r := rI) (d := 0) rfl) (by unfold Sm; decide))) ev_i)) ev_i (by decide)) ev_i)) fun l vs H2 hl0 s2 h1 h2 => ?_
    have e := ints_p h2
    subst e
    generalize cell % 2147483549 * 48271 + 21370 * 0 + 353 = y at h1
    have hy1 := Int.emod_nonneg y (show (2147483563 : Int) ≠ 0 by decide)
    have hy2 := Int.emod_lt_of_pos y (show (0 : Int) < 2147483563 by decide)
    refine kk l H2 (none_back s1 hl0) (s1.trans s2) ⟨_, _, h1, ?_, by omega, by omega⟩
    by_cases q : cell - 10 ^ (18 : Int).toNat > 0
    · rw [if_pos q]
      omega
    · rw [if_neg q]
      exact Int.le_refl _
end K06
/-! ==== KU ==== -/
set_option Elab.async false
set_option linter.all false
set_option maxRecDepth 100000
set_option maxHeartbeats 4000000
/-! ### != of rooms: by their own == -/
namespace K06
open PySem L2 PySem.Spec PyProof.Rows RZ
section
variable {M : Model} {prog : Program} {w : World} {A : Around} {E : Value → Shared → Prop} {s : Shared} {K : PySem.W.Frag} {x y C f : Addr} {ox : Obj} {od : Option Obj}
theorem ne_entry {Q : Fin → Shared → Prop} (X : K.In s.heap) (I : PySem.W.InstAt s.heap x ox C od) (hs : PySem.W.findIn K (.ref C) "__eq__" = some (some (.ref f))) (hf : PySem.W.isFn K (.ref f) = true) (hu : A.units < cLine)
    (hcall : wpAny (model prog w) A (call (.ref f) [.ref x, .ref y]) (fun v s' => ∃ b, v = .bool b ∧ Q (.done (.ret (.bool (!b)))) s') E s) : wpAny (model prog w) A (Builtin.«object.__ne__» ⟨[.ref x, .ref y], []⟩) Q E s := by
  unfold Builtin.«object.__ne__»
  repeat (first
    | with_reducible refine wpAny_cRoomFor hu ?_
    | (refine wpAny_bind (m := callSpecialIfBound? (.ref x) (Str.ofString "__eq__") [.ref y])
        (PySem.W.ifBound_K X I hs hf (wpAny_mono hcall (fun r s' hr => by
          obtain ⟨b, rfl, hq⟩ := hr
          repeat (first | exact hq | exact wpAny_pure hq | exact wpAny_truthy_bool hq | (refine wpAny_bind (m := truthy (.bool _)) (wpAny_truthy_bool ?_)) | wp_step)) fun _ _ e => e)))
    | wp_step)
theorem ifBound_objNe {args : List Value} {Q : Option Value → Shared → Prop} (X : K.In s.heap) (I : PySem.W.InstAt s.heap x ox C od) (hs : PySem.W.findIn K (.ref C) "__ne__" = some (some (.builtin "object.__ne__")))
    (h : wpAny M A (call (.builtin "object.__ne__") (.ref x :: args)) (fun v => Q (some v)) E s) : wpAny M A (callSpecialIfBound? (.ref x) "__ne__" args) Q E s := by
  simp only [callSpecialIfBound?, bindSpecialIfBound?]
  refine wpAny_holding (wpAny_bind (wpAny_bind (wpAny_bind (I.type.here ((PySem.W.looks_findIn X hs).here ?_)))))
  refine wpAny_bind (wpAny_askSetting (wpAny_ite ?_))
  have fin : wpAny M A (call (.builtin "object.__ne__") ([.ref x] ++ args) >>= fun v => pure (some v)) Q E s := wpAny_bind (wpAny_mono h (fun v s' h' => wpAny_pure h') fun _ _ h' => h')
  split
  · exact wpAny_bind (wpAny_of_eq (F.cmp_object.ne.bind _) (wpAny_pure (by exact fin)))
  · exact wpAny_tryCatch (wpAny_bind (wpAny_of_eq (F.cmp_object.ne.bind _) (wpAny_pure (by exact fin))))
theorem rc_ne {Q : Value → Shared → Prop} (hu : A.units + 1 < cLine) (X : K.In s.heap) (I : PySem.W.InstAt s.heap x ox C od) (hy : PySem.W.Looks (model prog w) s.heap (typeOf (.ref y)) (.ref C)) (hm : PySem.W.mroIn K C (.type "object") = some true)
    (hn : PySem.W.findIn K (.ref C) "__ne__" = some (some (.builtin "object.__ne__"))) (hs : PySem.W.findIn K (.ref C) "__eq__" = some (some (.ref f))) (hf : PySem.W.isFn K (.ref f) = true)
    (h : wpAny (model prog w) A.in1 (call (.ref f) [.ref x, .ref y]) (fun v s' => ∃ b, v = .bool b ∧ Q (.bool (!b)) s') E s) : wpAny (model prog w) A (richCompare .NotEq (.ref x) (.ref y)) Q E s := by
  have one : wpAny (model prog w) A (tryCompare (.ref x) "__ne__" (.ref y)) (fun r s' => ∃ v, r = some v ∧ Q v s') E s := by
    unfold tryCompare
    refine wpAny_bind (ifBound_objNe X I hn (wpAny_call (codeAny_call_builtin F.cmp_object.ne.plain F.cmpEntry_ne (PySem.W.check_slot F.cmpKind_ne F.cmpSplit_ne (I.type.andThen (PySem.W.looks_mroIn X hm)) (F.cmpArgs_ne _ _)
      (ne_entry (A := A.in1) X I hs hf hu (wpAny_mono h (fun v s' hv => ?_) fun _ _ e => e))))))
    obtain ⟨b, rfl, hq⟩ := hv
    first | exact ⟨b, rfl, wpAny_pure ⟨_, rfl, hq⟩⟩ | exact ⟨b, rfl, wpAny_pure (wpAny_pure ⟨_, rfl, hq⟩)⟩
  unfold richCompare
  simp only [oneThing_ref]
  refine wpAny_holding (wpAny_bind (wpAny_cRoomFor (Nat.lt_of_succ_lt hu) ?_))
  rw [cmpInfo_NotEq]
  dsimp only
  refine wpAny_bind (I.type.here (wpAny_bind (hy.here ?_)))
  rw [show (Value.ref C != Value.ref C) = false from by simp]
  simp only [Bool.false_eq_true, if_false]
  refine wpAny_bind (wpAny_pure ?_)
  simp only [Bool.false_eq_true, if_false]
  refine wpAny_bind (wpAny_mono one (fun r s' z => ?_) fun _ _ e => e)
  obtain ⟨v, rfl, hq⟩ := z
  exact wpAny_pure hq
end
section
variable {X : Cx} {σ : L2.St} {H : Hp} {a b : Expr} {pos : Pos}
def rNeR (K : Fr) : R2 := fun x y H Q => ∃ g g' : Int × Tb, (rR K).rel K H x g ∧ (rR K).rel K H y g' ∧ ∀ H2, Same H H2 → Q (.bl (!(decide (g.1 = g'.1) && decide (g.2 = g'.2)))) H2
theorem op_neR {k : Nat} (T : Tx X.K X.mg) (hr : Room (k + 1) X.A) (Mq : Mt X.prog X.w X.K X.mg X.base k (mA "Room" "__eq__" X.K) ["self", "other"] [] (sp_Room___eq__ X.K)) : OpR X (compareOp .NotEq) (rNeR X.K) := by
  intro pins s σ H x y v u Q I rx ry hq
  obtain ⟨g, g', h1, h2, q⟩ := hq
  have h1' := h1
  have h2' := h2
  obtain ⟨a, dx, w, rfl, ha, _⟩ := h1'
  obtain ⟨b, dy, w', rfl, hb, _⟩ := h2'
  cases rx
  cases ry
  obtain ⟨fd, ds, hd, hbi, F⟩ := Mq.ex
  cases hd
  obtain ⟨mA', J, _⟩ := ins_get I.hok ha
  obtain ⟨mB, J', _⟩ := ins_get I.hok hb
  obtain ⟨od, J, _⟩ := J.look
  obtain ⟨od', J', _⟩ := J'.look
  have hm := He.meth_ok (T.fa 111 rfl)
  obtain ⟨_, _, _, hmro⟩ := isi_ok (C := cR X.K) (T.ex 0 (f := fun K => isiB (cR K) K) rfl)
  show wpAny (model X.prog X.w) X.A (richCompare .NotEq (.ref a) (.ref b)) (EP X pins σ Q) X.xe s
  refine rc_ne (C := cR X.K) (by have := hr.un; omega) I.kIn J J'.type hmro (He.eqO_ok (T.ex 7 (f := fun K => He.eqO (PySem.W.findIn K (.ref (cR K)) "__ne__") (some (some (.builtin "object.__ne__")))) rfl)) hm.at_ hm.fn ?_
  have hsp : sp_Room___eq__ X.K [.ref a, .ref b] H (fun v H' => v = .bl (decide (g.1 = g'.1) && decide (g.2 = g'.2)) ∧ Same H H') E0 := ⟨(g, g', ()), ⟨_, _, rfl, h1, _, _, rfl, h2, rfl⟩, trivial, fun v H2 s2 hv => ⟨hv, s2⟩⟩
  have hl := F.len _ _ _ _ hsp
  have r2' : Vals [V.ref a, V.ref b] [Value.ref a, Value.ref b] := .cons rfl (.cons rfl .nil)
  refine wpAny_call (codeAny_mono (F.run X.A.in1 X.stack s H ⟨[.ref a, .ref b], []⟩ [.ref a, .ref b] [.ref a, .ref b] _ E0 hr.in1 I.env0.in1 (by
    have := hbi s [.ref a, .ref b] I.kIn (by simpa using hl)
    simpa using this) r2' hsp) fun r s' hq => ?_)
  cases r with
  | error e => exact pass0 pins σ H s e s' I hq
  | ok fl =>
    cases fl with
    | ret w =>
      obtain ⟨z, H', I', rz, ez, ex⟩ := I.after hq
      subst ez
      cases rz
      exact ⟨_, rfl, .bl (!(decide (g.1 = g'.1) && decide (g.2 = g'.2))), H', I', rfl, q H' ex⟩
    | next => exact False.elim hq
    | brk => exact False.elim hq
    | cont => exact False.elim hq
theorem et_neR {g g' : Int × Tb} {k : Nat} (T : Tx X.K X.mg) (hr : Room (k + 1) X.A) (Mq : Mt X.prog X.w X.K X.mg X.base k (mA "Room" "__eq__" X.K) ["self", "other"] [] (sp_Room___eq__ X.K)) (ha : Ev X σ H a (rR X.K) g) (hb : Ev X σ H b (rR X.K) g') : EvT X σ H (.Compare a [.NotEq] [b] pos) (!(decide (g.1 = g'.1) && decide (g.2 = g'.2))) :=
  et_cmp (op_neR T hr Mq) ha hb (nomark _) fun H1 _ u w h1 h2 Q k => ⟨g, g', h1, h2, fun H2 s2 => k H2 s2⟩
theorem et_notTrue {x : Bool} {j : Nat} {p2 : Pos} (ha : Ev X σ H a rB x) : EvT X σ H (.Compare a [.IsNot] [.Constant (.bool true) j p2] pos) (!decide (x = true)) :=
  et_cmp (r := rB) (q := rB) (y := true) op_notBl ha ev_bl (nomark _) fun H1 _ u w hu hw Q k => ⟨x, true, hu, hw, k H1 (Same.refl H1)⟩
end
end K06
/-! ==== DP ==== -/
set_option Elab.async false
set_option linter.all false
set_option maxRecDepth 100000
set_option maxHeartbeats 4000000
namespace K06
open PySem L2 PySem.Spec PyProof.Rows RZ

abbrev sp__law_taken_right (K : Fr) : Sp := spF (aC (rR K) (aC (rR K) (aC (rR K) (a0)))) (fun (_law_first, _law_second, _law_third, _) => (_law_first.1 = _law_second.1 ∧ _law_first.1 = _law_third.1) ∧ TakF _law_first.1 _law_first.2 _law_second.2 _law_third.2) (rB) (fun (_law_first, _law_second, _law_third, _) => true) K
theorem sc__law_taken_right : FnScope ["_law_first", "_law_second", "_law_third", "_law_found", "_law_one", "_law_other_here", "_law_size", "_law_high", "_law_sign_now"] ["_law_first", "_law_second", "_law_third"] (defScope (top 107)) := ⟨rfl, rfl, rfl, by decide +kernel, rfl, by decide +kernel, by decide +kernel⟩
theorem df__law_taken_right {P : Program} {w : World} {K : Fr} {mg : Str → Option Value} {base : Heap} (T : Tx K mg) : Df P w K mg base 14 "_law_taken_right" ["_law_first", "_law_second", "_law_third"] (sp__law_taken_right K) := by
  have D_alike := df_alike (P := P) (w := w) (base := base) T
  have D_beside := df_beside (P := P) (w := w) (base := base) T
  have D_kind_of := df_kind_of (P := P) (w := w) (base := base) T
  have D_plain_room := df_plain_room (P := P) (w := w) (base := base) T
  have D_taken_off := df_taken_off (P := P) (w := w) (base := base) T
  have M_Room___eq__ := mt_Room___eq__ (P := P) (w := w) (base := base) T
  obtain ⟨fd, F⟩ := T.dx 85 (d := d85) rfl
  refine ⟨_, fd, T.gl 79 rfl, F.kp, F.bindsN (fun _ _ _ _ _ _ us hl => match us, hl with | [_, _, _], _ => rfl), ?_⟩
  refine F.ok sc__law_taken_right (fun vs H Q E h => ?_) (fun cdv A outer s H vs Q E hr h => ⟨_, PSs.nox cS_pss, ?_⟩)
  · obtain ⟨⟨_law_first, _law_second, _law_third, u_end⟩, ⟨v__law_first, _, rfl, h__law_first, ⟨v__law_second, _, rfl, h__law_second, ⟨v__law_third, _, rfl, h__law_third, h_end⟩⟩⟩, g⟩ := h
    cases h_end
    rfl
  · obtain ⟨⟨_law_first, _law_second, _law_third, u_end⟩, ⟨v__law_first, _, rfl, h__law_first, ⟨v__law_second, _, rfl, h__law_second, ⟨v__law_third, _, rfl, h__law_third, h_end⟩⟩⟩, g, kk⟩ := h
    cases h_end
    replace h__law_first : Rp.rel (rR K) K H v__law_first _law_first := h__law_first
    replace h__law_second : Rp.rel (rR K) K H v__law_second _law_second := h__law_second
    replace h__law_third : Rp.rel (rR K) K H v__law_third _law_third := h__law_third
    replace g : (_law_first.1 = _law_second.1 ∧ _law_first.1 = _law_third.1) ∧ TakF _law_first.1 _law_first.2 _law_second.2 _law_third.2 := g
    replace kk : ∀ v H2, Same H H2 → Rp.rel (rB) K H2 v (true) → Q v H2 := kk
    obtain ⟨⟨e1, e2⟩, hp, ⟨ha, hb, hc⟩, ⟨hl1, hl2⟩, ht, hk⟩ := g
    obtain ⟨p, a⟩ := _law_first
    obtain ⟨p2, b⟩ := _law_second
    obtain ⟨p3, c⟩ := _law_third
    cases (show p = p2 from e1)
    cases (show p = p3 from e2)
    replace hp : P357 p := hp
    replace ha : SqOk p a := ha
    replace hb : SqOk p b := hb
    replace hc : SqOk p c := hc
    replace ht : ∀ t, tofM p a b = some t → SqOk p t ∧ kindM p t = tofK (kindM p a) (kindM p b) ∧ b.length + t.length ≤ 6 ∧ kindM p (bsdM b t) = kindM p a := ht
    replace hk : kindM p (bsdM a c) = kindM p (bsdM b c) ↔ kindM p a = kindM p b := hk
    replace hl1 : a.length + c.length ≤ 6 := hl1
    replace hl2 : b.length + c.length ≤ 6 := hl2
    have hpb := hp.b
    have rw6 : ∀ {g : Tb}, SqOk p g → ∀ row ∈ g, row.length ≤ 6 := fun h row hr => by rw [(h.2 row hr).1]; exact h.1
    refine cs_par3 (r := rO (rR K)) (q := r3 rI rI rI) (p := r3 rI rI rI) (x := (tofM p a b).map fun t => (p, t)) (x2 := kindM p a) (x3 := kindM p b) (i := 3) (j := 4) (l := 5) sc__law_taken_right.nd rfl rfl rfl (by decide) (by decide) (by decide) (ev_call D_taken_off (hr.mono (by decide)) (ea_c (ev_v 0 h__law_first) (ea_c (ev_v 1 h__law_second) ea_0)) ⟨rfl, ⟨hp, ha⟩, hb⟩) (ev_call D_kind_of (hr.mono (by decide)) (ea_c (ev_v 0 h__law_first) ea_0) ⟨hp, ha⟩) (ev_call D_kind_of (hr.mono (by decide)) (ea_c (ev_v 1 h__law_second) ea_0) ⟨hp, hb⟩) fun u v w0 H1 s1 hu hv hw => ?_
    have etof : tofM p a b = if (tofK (kindM p a) (kindM p b)).2.1 < 0 ∨ (tofK (kindM p a) (kindM p b)).1 < (tofK (kindM p a) (kindM p b)).2.1 ∨ ((tofK (kindM p a) (kindM p b)).2.1 = 0 ∧ ¬ (tofK (kindM p a) (kindM p b)).2.2 = 1) then none else some (plnM p (tofK (kindM p a) (kindM p b))) := rfl
    have k1 := kind_ok (p := p) hpb.1 ha.1
    refine cs_par3 (x := (kindM p a).1 - (kindM p b).1) (x2 := (kindM p a).2.1 - (kindM p b).2.1) (x3 := (kindM p a).2.2 * (kindM p b).2.2) (i := 6) (j := 7) (l := 8) sc__law_taken_right.nd rfl rfl rfl (by decide) (by decide) (by decide) (ev_sub (ev_t0 (ev_v 4 hv)) (ev_t0 (ev_v 5 hw))) (ev_sub (ev_t1 (ev_v 4 hv)) (ev_t1 (ev_v 5 hw))) (ev_mul (ev_t2 (ev_v 4 hv)) (ev_t2 (ev_v 5 hw)) ?_) fun u2 v2 w2 H2 s2 hu2 hv2 hw2 => ?_
    · unfold Sm
      rcases k1.2 with e | e <;> rw [e] <;> decide
    have eK : tofK (kindM p a) (kindM p b) = ((kindM p a).1 - (kindM p b).1, (kindM p a).2.1 - (kindM p b).2.1, (kindM p a).2.2 * (kindM p b).2.2) := rfl
    rw [eK] at etof ht
    generalize (kindM p a).1 - (kindM p b).1 = size at hu2 etof ht
    generalize (kindM p a).2.1 - (kindM p b).2.1 = high at hv2 etof ht
    generalize (kindM p a).2.2 * (kindM p b).2.2 = sign at hw2 etof ht
    have tail : ∀ (H3 : Hp), Same H2 H3 → cS (cxOf CX0 P w K mg base ["_law_first", "_law_second", "_law_third", "_law_found", "_law_one", "_law_other_here", "_law_size", "_law_high", "_law_sign_now"] d85.qual d85.scope (d85.at_ K) cdv A outer s H E).nox (d85.body.drop 3) { nx := fun _ H' => Q .non H', rt := Q } [some v__law_first, some v__law_second, some v__law_third, some u, some v, some w0, some u2, some v2, some w2] H3 := by
      intro H3 s3
      have sA := (s1.trans s2).trans s3
      have hac := bsd_sq (by omega) ha hc hl1
      have hbc := bsd_sq (by omega) hb hc hl2
      refine cs_ret (ev_deq (r := rB) hr.units (ev_call D_alike (hr.mono (by decide)) (y := decide (kindM p (bsdM a c) = kindM p (bsdM b c))) (ea_c (ev_call D_beside (hr.mono (by decide)) (y := (p, bsdM a c)) (ea_c (ev_v 0 (Rp.mono _ (sA) h__law_first)) (ea_c (ev_v 2 (Rp.mono _ (sA) h__law_third)) ea_0)) ⟨rfl, hl1, rw6 ha, rw6 hc⟩) (ea_c (ev_call D_beside (hr.mono (by decide)) (y := (p, bsdM b c)) (ea_c (ev_v 1 (Rp.mono _ (sA) h__law_second)) (ea_c (ev_v 2 (Rp.mono _ (sA) h__law_third)) ea_0)) ⟨rfl, hl2, rw6 hb, rw6 hc⟩) ea_0)) ⟨rfl, ⟨hp, hac⟩, hbc⟩) (ev_call D_alike (hr.mono (by decide)) (y := decide (kindM p a = kindM p b)) (ea_c (ev_v 0 (Rp.mono _ (sA) h__law_first)) (ea_c (ev_v 1 (Rp.mono _ (sA) h__law_second)) ea_0)) ⟨rfl, ⟨hp, ha⟩, hb⟩)) fun v H4 s4 hv => kk v H4 (sA.trans s4) ?_
      have e : decide (decide (kindM p (bsdM a c) = kindM p (bsdM b c)) = decide (kindM p a = kindM p b)) = true := decide_eq_true (by by_cases q : kindM p a = kindM p b <;> simp [q, hk])
      rw [e] at hv
      exact hv
    have s12 := s1.trans s2
    by_cases hcond : (0 ≤ high ∧ high ≤ size) ∧ (0 < high ∨ sign = 1)
    · have hne : ¬ (high < 0 ∨ size < high ∨ (high = 0 ∧ ¬ sign = 1)) := by omega
      rw [if_neg hne] at etof
      obtain ⟨h1, h2, h3, h4⟩ := ht _ etof
      rw [etof] at hu
      have hu : (rO (rR K)).rel K H1 u (some (p, plnM p (size, high, sign))) := hu
      obtain ⟨t, htt⟩ : ∃ t, plnM p (size, high, sign) = t := ⟨_, rfl⟩
      rw [htt] at hu h1 h2 h3 h4
      have hut : ∀ {H3 : Hp}, Same H1 H3 → (rR K).rel K H3 u (p, t) := fun s => Rp.mono _ s hu.2
      refine cs_if (k := true) (EvT.is (et_w (ew_and (et_leLe ev_i (ev_v 7 hv2) (ev_v 6 hu2)) fun _ => ew_and1 (et_w (ew_or (et_gt (ev_v 7 hv2) ev_i) fun _ => ew_or1 (et_eq (ev_v 8 hw2) ev_i))))) ?_) (fun _ H3 s3 => ?_) fun q => nomatch q
      · rw [decide_eq_true hcond.1.1, decide_eq_true hcond.1.2]
        rcases hcond.2 with h | h
        · rw [decide_eq_true h]; rfl
        · rw [decide_eq_true h, Bool.or_true]; rfl
      have sA := s12.trans s3
      have s13 := s2.trans s3
      have hbt := bsd_sq (by omega) hb h1 h3
      have eplain : plnM p (kindM p t) = t := by
        rw [h2]
        exact htt
      refine cs_skip (EvT.is (et_w (ew_or (x := false) (et_isN (x := some (p, t)) (ev_v 3 (Rp.mono _ s13 hu))) fun _ => ew_or (x := false) (EvT.is (et_dne (r := r3 rI rI rI) (x := kindM p t) (y := (size, high, sign)) hr.units (ev_call D_kind_of (hr.mono (by decide)) (ea_c (ev_v 3 (hut s13)) ea_0) ⟨hp, h1⟩) (ev_3 (ev_v 6 (rI.mono s3 hu2)) (ev_v 7 (rI.mono s3 hv2)) (ev_v 8 (rI.mono s3 hw2)))) ?_) fun _ => ew_or (x := false) (EvT.is (et_neR (g := (p, plnM p (kindM p t))) (g' := (p, t)) T (hr.mono (by decide)) M_Room___eq__ (ev_call D_plain_room (hr.mono (by decide)) (ea_c (ev_v 3 (hut s13)) ea_0) ⟨hp, h1⟩) (ev_v 3 (hut s13))) ?_) fun _ => ew_or1 (x := false) (EvT.is (et_notTrue (x := decide (kindM p (bsdM b t) = kindM p a)) (ev_call D_alike (hr.mono (by decide)) (ea_c (ev_call D_beside (hr.mono (by decide)) (y := (p, bsdM b t)) (ea_c (ev_v 1 (Rp.mono _ (sA) h__law_second)) (ea_c (ev_v 3 (hut s13)) ea_0)) ⟨rfl, h3, rw6 hb, rw6 h1⟩) (ea_c (ev_v 0 (Rp.mono _ (sA) h__law_first)) ea_0)) ⟨rfl, ⟨hp, hbt⟩, ha⟩)) ?_))) rfl) fun H4 s4 => cs_nil (tail H4 (s3.trans s4))
      · rw [h2, decide_eq_true rfl]
        rfl
      · show (!(decide (p = p) && decide (plnM p (kindM p t) = t))) = false
        rw [eplain, decide_eq_true rfl, decide_eq_true rfl]
        rfl
      · rw [decide_eq_true h4]
        rfl
    · have hne : high < 0 ∨ size < high ∨ (high = 0 ∧ ¬ sign = 1) := by omega
      rw [if_pos hne] at etof
      rw [etof] at hu
      refine cs_if (k := false) (EvT.is (et_w (ew_and (et_leLe ev_i (ev_v 7 hv2) (ev_v 6 hu2)) fun _ => ew_and1 (et_w (ew_or (et_gt (ev_v 7 hv2) ev_i) fun _ => ew_or1 (et_eq (ev_v 8 hw2) ev_i))))) ?_) (fun q => nomatch q) fun _ H3 s3 => ?_
      · cases e : ((decide (0 ≤ high) && decide (high ≤ size)) && (decide (0 < high) || decide (sign = 1))) with
        | false => rfl
        | true =>
          refine absurd ?_ hcond
          simpa using e
      · exact cs_skip (et_notN (x := none) (ev_v 3 (Rp.mono _ (s2.trans s3) hu))) fun H4 s4 => cs_nil (tail H4 (s3.trans s4))
end K06
/-! ==== KV ==== -/
set_option Elab.async false
set_option linter.all false
set_option maxRecDepth 100000
set_option maxHeartbeats 4000000
namespace K06
open PySem L2 PySem.Spec PyProof.Rows RZ
/-! ### calls by keywords alone -/
def swp {α : Type} (sw : Bool) : List α → List α
  | [a, b] => if sw then [b, a] else [a, b]
  | l => l
theorem swp_rel (sw : Bool) {zs : List V} {ws : List Value} (h : Vals zs ws) : Vals (swp sw zs) (swp sw ws) := by
  cases h with
  | nil => exact .nil
  | cons h1 t =>
    cases t with
    | nil => exact .cons h1 .nil
    | cons h2 t =>
      cases t with
      | nil =>
        cases sw with
        | true => exact .cons h2 (.cons h1 .nil)
        | false => exact .cons h1 (.cons h2 .nil)
      | cons h3 t => exact .cons h1 (.cons h2 (.cons h3 t))
theorem fun_kw {K : Fr} {x qual : Str} {params : Arguments} {body : List Stmt} {scope : Scope} {f : Addr} {fd : FuncData} {ps : List Str} {ka kb : Str} (sw : Bool) (F : FunD K x qual params body scope [] [] f fd)
    (h : ∀ (kV doc pm : Value) (an : Option Addr) (cdv ct u v : Value), bindArgs (PySem.W.fnOf x qual params body scope .none kV doc pm an cdv ct) ⟨[], [(ka, u), (kb, v)]⟩ = pure (ps.zip (swp sw [u, v]))) : KBn K fd ps 0 [ka, kb] (fun _ ws => swp sw ws) (fun _ zs => swp sw zs) := by
  obtain ⟨oc, od, dV, kV, doc, pm, an, cdv, ct, osl, rfl, lk, hcd, hD, hK⟩ := F.ex
  rcases hD with ⟨_, rfl⟩ | ⟨e, _⟩
  · refine ⟨fun s us ws _ h1 h2 => ?_, fun _ h => swp_rel sw h⟩
    match us, h1, ws, h2 with
    | [], _, [u, v], _ => exact .of_eq (h kV doc pm an cdv ct u v)
  · exact absurd rfl e
section
variable {X : Cx} {σ : L2.St} {H : Hp} {α β γ : Type} {r : Rp α} {q : Rp β} {p : Rp γ} {e1 e2 : Expr} {pos p2 q1 q2 : Pos}
theorem ev_kw {k : Nat} {n ka kb : Str} {f : Addr} {fd : FuncData} {ps : List Str} {sp : Sp} {x : α} {y : β} {z : γ} (sw : Bool) (F : FnOk X.prog X.w X.K X.mg X.base CX0 k f fd ps sp) (hb : KBn X.K fd ps 0 [ka, kb] (fun _ ws => swp sw ws) (fun _ zs => swp sw zs)) (hr : Room k X.A) (hm : X.mg n = some (.ref f)) (hk : PySem.W.keepIn X.K (.ref f) = true)
    (h1 : Ev X σ H e1 r x) (h2 : Ev X σ H e2 q y) (hs : ∀ H1, Same H H1 → ∀ v w, r.rel X.K H1 v x → q.rel X.K H1 w y → ∀ Q : VK, (∀ u H2, Same H1 H2 → p.rel X.K H2 u z → Q u H2) → sp (swp sw [v, w]) H1 Q E0)
    (hg : Gl X n := by rfl) (hall : (backToKw pos (keywordEach [⟨some ka, e1, q1⟩, ⟨some kb, e2, q2⟩] X.env)).all (·.1.isSome) = true := by rfl) (hks : (backToKw pos (keywordEach [⟨some ka, e1, q1⟩, ⟨some kb, e2, q2⟩] X.env)).filterMap (·.1) = [ka, kb] := by rfl)
    (hdb : (n == ("__debug__" : Str)) = false := by decide) (hpl : ((backTo pos (starEach [] X.env)).any (·.1) || (backToKw pos (keywordEach [⟨some ka, e1, q1⟩, ⟨some kb, e2, q2⟩] X.env)).any (·.1.isNone)) = false := by rfl) :
    Ev X σ H (.Call (.Name n p2) [] [⟨some ka, e1, q1⟩, ⟨some kb, e2, q2⟩] pos) p z := fun H1 s Q c pins sh I => by
  refine wpAny_Call_Name_kw (ld_glob I hg hm ?_ hdb)
  refine PySem.W.callWith_KW0 (h₀ := X.base) I.ok.mod.kin hk hall ?_ hpl
  have hq : tCons (cE X e1) (tCons (cE X e2) tNil) σ H1 (fun zs H3 => zs.length = 2 ∧ sp (swp sw zs) H3 Q E0) := h1 H1 s _ fun v H2 s2 hv => h2 H2 (s.trans s2) _ fun w H3 s3 hw => ⟨rfl, hs H3 ((s.trans s2).trans s3) v w (r.mono s3 hv) hw Q fun u H4 s4 hu => c u H4 ((s2.trans s3).trans s4) hu⟩
  refine thn ((pk_cons cE_pe (pk_cons cE_pe pk_nil)).run pos pins sh σ H1 _ I hq) fun ws s2 ⟨zs, H2, I2, rz, l, q2⟩ => ⟨I2.kIn, ?_⟩
  rw [hks]
  exact run_fnN (us := []) (vs := []) F hr hb pass0 I2 .nil rz rfl l q2
end
end K06
/-! ==== MS ==== -/
set_option linter.all false
set_option maxRecDepth 100000
set_option maxHeartbeats 4000000
namespace K06
/-! ### sums -/
abbrev Vec := Nat → Int
def S : Nat → (Nat → Int) → Int
  | 0, _ => 0
  | n + 1, f => S n f + f n
theorem S_congr {n : Nat} {f g : Nat → Int} (h : ∀ i < n, f i = g i) : S n f = S n g := by
  induction n with
  | zero => rfl
  | succ n ih =>
    show S n f + f n = S n g + g n
    rw [ih fun i hi => h i (by omega), h n (by omega)]
theorem S_zero (n : Nat) : S n (fun _ => 0) = 0 := by
  induction n with
  | zero => rfl
  | succ n ih =>
    show S n _ + 0 = 0
    rw [ih]
    rfl
theorem S_add (n : Nat) (f g : Nat → Int) : S n (fun i => f i + g i) = S n f + S n g := by
  induction n with
  | zero => rfl
  | succ n ih =>
    show S n _ + (f n + g n) = (S n f + f n) + (S n g + g n)
    rw [ih]
    omega
theorem S_mul (n : Nat) (c : Int) (f : Nat → Int) : S n (fun i => c * f i) = c * S n f := by
  induction n with
  | zero => exact (Int.mul_zero c).symm
  | succ n ih =>
    show S n _ + c * f n = c * (S n f + f n)
    rw [ih, Int.mul_add]
theorem S_swap (m n : Nat) (f : Nat → Nat → Int) : S m (fun i => S n fun j => f i j) = S n (fun j => S m fun i => f i j) := by
  induction m with
  | zero => exact (S_zero n).symm
  | succ m ih =>
    show S m _ + S n (fun j => f m j) = S n (fun j => S m (fun i => f i j) + f m j)
    rw [ih, S_add]
theorem S_mod {n : Nat} {p : Int} {f g : Nat → Int} (h : ∀ i < n, f i % p = g i % p) : S n f % p = S n g % p := by
  induction n with
  | zero => rfl
  | succ n ih =>
    show (S n f + f n) % p = (S n g + g n) % p
    rw [Int.add_emod, ih fun i hi => h i (by omega), h n (by omega), ← Int.add_emod]
theorem S_split (m n : Nat) (f : Nat → Int) : S (m + n) f = S m f + S n (fun i => f (m + i)) := by
  induction n with
  | zero => exact (Int.add_zero _).symm
  | succ n ih =>
    show S (m + n) f + f (m + n) = S m f + (S n _ + f (m + n))
    rw [ih]
    omega
/-! ### functions of rests -/
def Per (p : Int) (h : Int → Int) : Prop := ∀ x y, x % p = y % p → h x = h y
theorem S_shift1 {p : Int} (hp : 0 < p) {φ : Int → Int} (h : Per p φ) : S p.toNat (fun c => φ ((c : Int) + 1)) = S p.toNat (fun c => φ (c : Int)) := by
  have key : ∀ n : Nat, S n (fun c => φ ((c : Int) + 1)) + φ 0 = S n (fun c => φ (c : Int)) + φ (n : Int) := fun n => by
    induction n with
    | zero => rfl
    | succ n ih =>
      show S n _ + φ ((n : Int) + 1) + φ 0 = S n _ + φ (n : Int) + φ ((n + 1 : Nat) : Int)
      have e : ((n + 1 : Nat) : Int) = (n : Int) + 1 := by omega
      rw [e]
      omega
  have k := key p.toNat
  have e : φ ((p.toNat : Nat) : Int) = φ 0 := h _ _ (by
    have : ((p.toNat : Nat) : Int) = p := by omega
    rw [this, Int.emod_self, Int.zero_emod])
  omega
theorem S_shiftN {p : Int} (hp : 0 < p) {φ : Int → Int} (h : Per p φ) : ∀ a : Nat, S p.toNat (fun c => φ ((c : Int) + (a : Int))) = S p.toNat (fun c => φ (c : Int))
  | 0 => S_congr fun i _ => by rw [Int.natCast_zero, Int.add_zero]
  | a + 1 => by
    have h2 : Per p (fun x => φ (x + (a : Int))) := fun x y e => h _ _ (by rw [Int.add_emod, e, ← Int.add_emod])
    have k := S_shift1 hp h2
    rw [← S_shiftN hp h a, ← k]
    exact S_congr fun i _ => by
      congr 1
      omega
theorem S_shift {p : Int} (hp : 0 < p) {φ : Int → Int} (h : Per p φ) (a : Int) : S p.toNat (fun c => φ ((c : Int) + a)) = S p.toNat (fun c => φ (c : Int)) := by
  have e : ((a % p).toNat : Int) = a % p := by have := Int.emod_nonneg a (show p ≠ 0 by omega); omega
  rw [← S_shiftN hp h (a % p).toNat]
  exact S_congr fun i _ => h _ _ (by rw [e, Int.add_emod, Int.add_emod (i : Int) (a % p), Int.emod_emod])
theorem S_scale {p : Int} (hp : P357 p) {φ : Int → Int} (h : Per p φ) {r : Int} (hr : 0 < r ∧ r < p) : S p.toNat (fun c => φ ((c : Int) * r)) = S p.toNat (fun c => φ (c : Int)) := by
  rcases hp with rfl | rfl | rfl
  · have : r = 1 ∨ r = 2 := by omega
    rcases this with rfl | rfl
    · exact S_congr fun i _ => by rw [Int.mul_one]
    · show 0 + φ 0 + φ 2 + φ 4 = 0 + φ 0 + φ 1 + φ 2
      rw [h 4 1 (by decide)]
      omega
  · have : r = 1 ∨ r = 2 ∨ r = 3 ∨ r = 4 := by omega
    rcases this with rfl | rfl | rfl | rfl
    · exact S_congr fun i _ => by rw [Int.mul_one]
    · show 0 + φ 0 + φ 2 + φ 4 + φ 6 + φ 8 = 0 + φ 0 + φ 1 + φ 2 + φ 3 + φ 4
      rw [h 6 1 (by decide), h 8 3 (by decide)]
      omega
    · show 0 + φ 0 + φ 3 + φ 6 + φ 9 + φ 12 = 0 + φ 0 + φ 1 + φ 2 + φ 3 + φ 4
      rw [h 6 1 (by decide), h 9 4 (by decide), h 12 2 (by decide)]
      omega
    · show 0 + φ 0 + φ 4 + φ 8 + φ 12 + φ 16 = 0 + φ 0 + φ 1 + φ 2 + φ 3 + φ 4
      rw [h 8 3 (by decide), h 12 2 (by decide), h 16 1 (by decide)]
      omega
  · have : r = 1 ∨ r = 2 ∨ r = 3 ∨ r = 4 ∨ r = 5 ∨ r = 6 := by omega
    rcases this with rfl | rfl | rfl | rfl | rfl | rfl
    · exact S_congr fun i _ => by rw [Int.mul_one]
    · show 0 + φ 0 + φ 2 + φ 4 + φ 6 + φ 8 + φ 10 + φ 12 = 0 + φ 0 + φ 1 + φ 2 + φ 3 + φ 4 + φ 5 + φ 6
      rw [h 8 1 (by decide), h 10 3 (by decide), h 12 5 (by decide)]
      omega
    · show 0 + φ 0 + φ 3 + φ 6 + φ 9 + φ 12 + φ 15 + φ 18 = 0 + φ 0 + φ 1 + φ 2 + φ 3 + φ 4 + φ 5 + φ 6
      rw [h 9 2 (by decide), h 12 5 (by decide), h 15 1 (by decide), h 18 4 (by decide)]
      omega
    · show 0 + φ 0 + φ 4 + φ 8 + φ 12 + φ 16 + φ 20 + φ 24 = 0 + φ 0 + φ 1 + φ 2 + φ 3 + φ 4 + φ 5 + φ 6
      rw [h 8 1 (by decide), h 12 5 (by decide), h 16 2 (by decide), h 20 6 (by decide), h 24 3 (by decide)]
      omega
    · show 0 + φ 0 + φ 5 + φ 10 + φ 15 + φ 20 + φ 25 + φ 30 = 0 + φ 0 + φ 1 + φ 2 + φ 3 + φ 4 + φ 5 + φ 6
      rw [h 10 3 (by decide), h 15 1 (by decide), h 20 6 (by decide), h 25 4 (by decide), h 30 2 (by decide)]
      omega
    · show 0 + φ 0 + φ 6 + φ 12 + φ 18 + φ 24 + φ 30 + φ 36 = 0 + φ 0 + φ 1 + φ 2 + φ 3 + φ 4 + φ 5 + φ 6
      rw [h 12 5 (by decide), h 18 4 (by decide), h 24 3 (by decide), h 30 2 (by decide), h 36 1 (by decide)]
      omega
/-! ### sums over all that rows span -/
def vadd (v : Vec) (c : Int) (r : Vec) : Vec := fun i => v i + c * r i
def A (p : Int) : List Vec → (Vec → Int) → Vec → Int
  | [], F, v => F v
  | r :: rs, F, v => S p.toNat fun c => A p rs F (vadd v (c : Int) r)
/-- two lists of rows walk alike -/
def Sim (R : Vec → Vec → Prop) : List Vec → List Vec → Prop
  | [], [] => True
  | u :: us, w :: ws => (∀ v y c, R v y → R (vadd v c u) (vadd y c w)) ∧ Sim R us ws
  | _, _ => False
theorem A_sim {p : Int} {R : Vec → Vec → Prop} {F G : Vec → Int} (hF : ∀ v y, R v y → F v = G y) : ∀ {us ws : List Vec}, Sim R us ws → ∀ {v y : Vec}, R v y → A p us F v = A p ws G y
  | [], [], _, v, y, h => hF v y h
  | u :: us, w :: ws, hs, v, y, h => S_congr fun c _ => A_sim hF hs.2 (hs.1 v y c h)
  | [], _ :: _, hs, _, _, _ => hs.elim
  | _ :: _, [], hs, _, _, _ => hs.elim
/-- the same rests at the first n places -/
def Eq' (n : Nat) (p : Int) (v y : Vec) : Prop := ∀ i < n, v i % p = y i % p
def Res (n : Nat) (p : Int) (F : Vec → Int) : Prop := ∀ v y, Eq' n p v y → F v = F y
def EqL (n : Nat) (p : Int) : List Vec → List Vec → Prop
  | [], [] => True
  | u :: us, w :: ws => Eq' n p u w ∧ EqL n p us ws
  | _, _ => False
theorem vadd_mod {n : Nat} {p : Int} {v y u w : Vec} {c d : Int} (h1 : Eq' n p v y) (h2 : Eq' n p u w) (hc : c % p = d % p) : Eq' n p (vadd v c u) (vadd y d w) := fun i hi => by
  unfold vadd
  rw [Int.add_emod, h1 i hi, Int.mul_emod, hc, h2 i hi, ← Int.mul_emod, ← Int.add_emod]
theorem EqL.sim {n : Nat} {p : Int} : ∀ {us ws : List Vec}, EqL n p us ws → Sim (Eq' n p) us ws
  | [], [], _ => trivial
  | u :: us, w :: ws, h => ⟨fun v y c hv => vadd_mod hv h.1 rfl, EqL.sim h.2⟩
  | [], _ :: _, h => h.elim
  | _ :: _, [], h => h.elim
theorem EqL.refl {n : Nat} {p : Int} : ∀ us : List Vec, EqL n p us us
  | [] => trivial
  | u :: us => ⟨fun _ _ => rfl, EqL.refl us⟩
theorem A_res {n : Nat} {p : Int} {F : Vec → Int} (hF : Res n p F) {us ws : List Vec} (h : EqL n p us ws) {v y : Vec} (hv : Eq' n p v y) : A p us F v = A p ws F y := A_sim (R := Eq' n p) (fun v y => hF v y) h.sim hv
theorem A_swap (p : Int) (r s : Vec) (rs : List Vec) (F : Vec → Int) (v : Vec) : A p (r :: s :: rs) F v = A p (s :: r :: rs) F v := by
  show S p.toNat (fun c => S p.toNat fun d => A p rs F (vadd (vadd v c r) d s)) = S p.toNat (fun d => S p.toNat fun c => A p rs F (vadd (vadd v d s) c r))
  rw [S_swap]
  exact S_congr fun d _ => S_congr fun c _ => congrArg _ (funext fun i => by unfold vadd; omega)
theorem A_perm {p : Int} {F : Vec → Int} {l l' : List Vec} (h : l.Perm l') : ∀ v, A p l F v = A p l' F v := by
  induction h with
  | nil => exact fun _ => rfl
  | cons x _ ih => exact fun v => S_congr fun c _ => ih _
  | swap x y l => exact fun v => A_swap p y x l F v
  | trans _ _ ih1 ih2 => exact fun v => (ih1 v).trans (ih2 v)
theorem A_add {n : Nat} {p : Int} (hp : 0 < p) {F : Vec → Int} (hF : Res n p F) (r s : Vec) (k : Int) (rs : List Vec) (v : Vec) : A p (s :: (vadd r k s) :: rs) F v = A p (s :: r :: rs) F v := by
  rw [A_swap, A_swap p s r]
  refine S_congr fun d _ => ?_
  show S p.toNat (fun c => A p rs F (vadd (vadd v d (vadd r k s)) c s)) = S p.toNat (fun c => A p rs F (vadd (vadd v d r) c s))
  have hφ : Per p (fun x => A p rs F (vadd (vadd v d r) x s)) := fun x y e => A_res hF (EqL.refl rs) (vadd_mod (fun _ _ => rfl) (fun _ _ => rfl) e)
  rw [← S_shift hp hφ ((d : Int) * k)]
  refine S_congr fun c _ => congrArg _ (funext fun i => ?_)
  unfold vadd
  grind
theorem A_scl {n : Nat} {p : Int} (hp : P357 p) {F : Vec → Int} (hF : Res n p F) (s : Vec) {r : Int} (hr : 0 < r ∧ r < p) (rs : List Vec) (v : Vec) : A p ((fun i => r * s i) :: rs) F v = A p (s :: rs) F v := by
  have hφ : Per p (fun x => A p rs F (vadd v x s)) := fun x y e => A_res hF (EqL.refl rs) (vadd_mod (fun _ _ => rfl) (fun _ _ => rfl) e)
  show S p.toNat (fun c => A p rs F (vadd v c _)) = S p.toNat (fun c => A p rs F (vadd v c s))
  rw [← S_scale hp hφ hr]
  refine S_congr fun c _ => congrArg _ (funext fun i => ?_)
  unfold vadd
  grind
end K06
/-! ==== MQ ==== -/
set_option linter.all false
set_option maxRecDepth 100000
set_option maxHeartbeats 4000000
namespace K06
/-! ### the form -/
def B (n : Nat) (g : Nat → Nat → Int) (u v : Vec) : Int := S n fun i => u i * S n fun j => g i j * v j
theorem B_addl (n : Nat) (g : Nat → Nat → Int) (u r v : Vec) (c : Int) : B n g (vadd u c r) v = B n g u v + c * B n g r v := by
  unfold B
  rw [← S_mul, ← S_add]
  exact S_congr fun i _ => by unfold vadd; grind
theorem B_addr (n : Nat) (g : Nat → Nat → Int) (u r v : Vec) (c : Int) : B n g v (vadd u c r) = B n g v u + c * B n g v r := by
  unfold B
  rw [← S_mul, ← S_add]
  refine S_congr fun i _ => ?_
  have e : S n (fun j => g i j * vadd u c r j) = S n (fun j => g i j * u j) + c * S n (fun j => g i j * r j) := by
    rw [← S_mul, ← S_add]
    exact S_congr fun j _ => by unfold vadd; grind
  rw [e]
  grind
def Symm (n : Nat) (g : Nat → Nat → Int) : Prop := ∀ i j, i < n → j < n → g i j = g j i
theorem B_symm {n : Nat} {g : Nat → Nat → Int} (h : Symm n g) (u v : Vec) : B n g u v = B n g v u := by
  have e1 : ∀ u v : Vec, B n g u v = S n (fun i => S n fun j => u i * g i j * v j) := fun u v => by
    unfold B
    exact S_congr fun i _ => by rw [← S_mul]; exact S_congr fun j _ => by grind
  rw [e1 u v, e1 v u, S_swap]
  exact S_congr fun j hj => S_congr fun i hi => by rw [h i j hi hj]; grind
theorem B_mod {n : Nat} {p : Int} {g g' : Nat → Nat → Int} (hg : ∀ i j, i < n → j < n → g i j % p = g' i j % p) {u u' v v' : Vec} (h1 : Eq' n p u u') (h2 : Eq' n p v v') : B n g u v % p = B n g' u' v' % p := by
  refine S_mod fun i hi => ?_
  have e : S n (fun j => g i j * v j) % p = S n (fun j => g' i j * v' j) % p := S_mod fun j hj => by rw [Int.mul_emod, hg i j hi hj, h2 j hj, ← Int.mul_emod]
  rw [Int.mul_emod, h1 i hi, e, ← Int.mul_emod]
theorem B_sq {n : Nat} {g : Nat → Nat → Int} (h : Symm n g) (v r : Vec) (c : Int) : B n g (vadd v c r) (vadd v c r) = B n g v v + 2 * c * B n g v r + c * c * B n g r r := by
  rw [B_addl, B_addr, B_addr, B_symm h r v]
  grind
theorem sub_mod {p z a b : Int} (h : a % p = b % p) : (z - a) % p = (z - b) % p := by rw [Int.sub_emod, h, ← Int.sub_emod]
/-- the count of a form's worths, weighed by h -/
def Psi (p : Int) (n : Nat) (g : Nat → Nat → Int) (rows : List Vec) (h : Int → Int) (z : Int) : Int := A p rows (fun v => h (z - B n g v v)) fun _ => 0
theorem res_h {n : Nat} {p : Int} {g : Nat → Nat → Int} {h : Int → Int} (hh : Per p h) (z : Int) : Res n p fun v => h (z - B n g v v) := fun v y e => hh _ _ (sub_mod (B_mod (fun _ _ _ _ => rfl) e e))
/-- the count of a sum of squares' worths -/
def D (p : Int) : List Int → (Int → Int) → Int → Int
  | [], h, z => h z
  | w :: ws, h, z => S p.toNat fun c => D p ws h (z - (c : Int) * (c : Int) * w)
theorem D_per {p : Int} {h : Int → Int} (hh : Per p h) : ∀ ws : List Int, Per p (D p ws h)
  | [] => hh
  | w :: ws => fun x y e => S_congr fun c _ => D_per hh ws _ _ (by rw [Int.sub_emod, e, ← Int.sub_emod])
theorem D_app (p : Int) (h : Int → Int) : ∀ (us ws : List Int) (z : Int), D p (us ++ ws) h z = D p us (D p ws h) z
  | [], _, _ => rfl
  | u :: us, ws, z => S_congr fun c _ => D_app p h us ws _
/-- a row that stands upright on the others is taken out -/
theorem peel {p : Int} {n : Nat} {g : Nat → Nat → Int} (hg : Symm n g) {h : Int → Int} (hh : Per p h) {row : Vec} {os : List Vec} (ho : ∀ o ∈ os, B n g o row % p = 0) (z : Int) : Psi p n g (row :: os) h z = S p.toNat fun c => Psi p n g os h (z - (c : Int) * (c : Int) * B n g row row) := by
  refine S_congr fun c _ => ?_
  refine A_sim (R := fun v y => v = vadd y (c : Int) row ∧ B n g y row % p = 0) ?_ ?_ ?_
  · rintro v y ⟨rfl, hy⟩
    refine hh _ _ ?_
    rw [B_sq hg]
    obtain ⟨k, hk⟩ := Int.dvd_of_emod_eq_zero hy
    rw [hk]
    have e : z - (B n g y y + 2 * (c : Int) * (p * k) + (c : Int) * (c : Int) * B n g row row) = (z - (c : Int) * (c : Int) * B n g row row - B n g y y) + p * (-(2 * (c : Int) * k)) := by grind
    rw [e, Int.add_mul_emod_self_left]
  · have key : ∀ os : List Vec, (∀ o ∈ os, B n g o row % p = 0) → Sim (fun v y => v = vadd y (c : Int) row ∧ B n g y row % p = 0) os os := by
      intro os
      induction os with
      | nil => exact fun _ => trivial
      | cons o os ih =>
        intro ho
        refine ⟨?_, ih fun x hx => ho x (List.mem_cons_of_mem _ hx)⟩
        rintro v y d ⟨rfl, hy⟩
        refine ⟨funext fun i => by unfold vadd; omega, ?_⟩
        rw [B_addl, Int.add_emod, hy, Int.mul_emod, ho o (List.mem_cons_self ..)]
        simp
    exact key os ho
  · refine ⟨rfl, ?_⟩
    have e : B n g (fun _ => 0) row = 0 := by
      unfold B
      rw [show (fun i => (0 : Int) * S n fun j => g i j * row j) = fun _ => 0 from funext fun i => Int.zero_mul _]
      exact S_zero n
    rw [e]
    rfl
theorem psi_per {p : Int} {n : Nat} {g : Nat → Nat → Int} {h : Int → Int} (hh : Per p h) (rows : List Vec) : Per p (Psi p n g rows h) := fun x y e => by
  have : (fun v => h (x - B n g v v)) = fun v => h (y - B n g v v) := funext fun v => hh _ _ (by rw [Int.sub_emod, e, ← Int.sub_emod])
  unfold Psi
  rw [this]
/-- all the others are turned upright by one row -/
theorem A_all {n : Nat} {p : Int} (hp : 0 < p) {F : Vec → Int} (hF : Res n p F) (row : Vec) (t : Vec → Int) : ∀ (os : List Vec) (v : Vec), A p (row :: os.map fun o => vadd o (t o) row) F v = A p (row :: os) F v
  | [], _ => rfl
  | o :: os, v => by
    show A p (row :: vadd o (t o) row :: os.map fun o => vadd o (t o) row) F v = A p (row :: o :: os) F v
    rw [A_add hp hF, A_swap, A_swap p row o]
    exact S_congr fun c _ => A_all hp hF row t os _
/-! ### lists as functions -/
def vec (row : Rw) : Vec := fun i => row.getD i 0
theorem S_front (n : Nat) (f : Nat → Int) : S (n + 1) f = f 0 + S n fun i => f (i + 1) := by
  induction n with
  | zero => show 0 + f 0 = f 0 + 0; omega
  | succ n ih =>
    show S (n + 1) f + f (n + 1) = f 0 + (S n _ + f (n + 1))
    rw [ih]
    omega
theorem sum_zip {α : Type} (d : α) (f : α → Int) : ∀ (xs : Rw) (ys : List α), xs.length = ys.length → ((xs.zip ys).map fun z => z.1 * f z.2).sum = S xs.length fun i => xs.getD i 0 * f (ys.getD i d)
  | [], [], _ => rfl
  | x :: xs, y :: ys, h => by
    rw [List.zip_cons_cons, List.map_cons, List.sum_cons, sum_zip d f xs ys (by simpa using h)]
    show _ = S (xs.length + 1) _
    rw [S_front]
    rfl
theorem dot_S {p : Int} {n : Nat} {xs ys : Rw} (h1 : xs.length = n) (h2 : ys.length = n) : dotM p xs ys = (S n fun i => vec xs i * vec ys i) % p := by
  unfold dotM
  rw [sum_zip 0 (fun y => y) xs ys (by omega), h1]
  rfl
theorem mix_get {p : Int} {n j : Nat} (hj : j < n) : ∀ (l : List (Int × Rw)) (f : Rw), f.length = n → (∀ z ∈ l, z.2.length = n) → (l.foldl (fun f z => sumM p f z.2 z.1) f).getD j 0 % p = (f.getD j 0 + (l.map fun z => z.1 * z.2.getD j 0).sum) % p
  | [], f, _, _ => by
    show f.getD j 0 % p = (f.getD j 0 + 0) % p
    rw [Int.add_zero]
  | z :: l, f, h, hl => by
    have hz := hl z (List.mem_cons_self ..)
    have h2 : (sumM p f z.2 z.1).length = n := by unfold sumM; rw [List.length_map, List.length_zip, h, hz, Nat.min_self]
    show (l.foldl _ (sumM p f z.2 z.1)).getD j 0 % p = _
    rw [mix_get hj l _ h2 fun y hy => hl y (List.mem_cons_of_mem _ hy), sum_get p f z.2 z.1 j (by omega) (by omega)]
    rw [List.map_cons, List.sum_cons, Int.emod_add_emod, Int.add_assoc]
theorem led_S {p : Int} {g : Tb} (hg : SqOk p g) {x : Rw} (hx : x.length = g.length) {j : Nat} (hj : j < g.length) : (ledM p x g).getD j 0 % p = (S g.length fun i => vec x i * cell g i j) % p := by
  unfold ledM mixM
  rw [mix_get hj _ _ (by rw [List.length_replicate, hg.wid]; omega) fun z hz => (hg.2 _ (List.of_mem_zip (show (z.1, z.2) ∈ x.zip g from hz)).2).1]
  have e : (List.replicate (widM g).toNat (0 : Int)).getD j 0 = 0 := by
    rw [List.getD_eq_getElem?_getD, List.getElem?_replicate]
    split <;> rfl
  rw [e, Int.zero_add, sum_zip [] (fun row => row.getD j 0) x g hx, hx]
  rfl
theorem btw_B {p : Int} (hp : 0 < p) {g : Tb} (hg : SqOk p g) {x y : Rw} (hx : x.length = g.length) (hy : y.length = g.length) : btwM p g x y = B g.length (cell g) (vec x) (vec y) % p := by
  unfold btwM
  rw [dot_S (led_ok hp hg x).1 hy]
  have e1 : B g.length (cell g) (vec x) (vec y) = S g.length fun j => (S g.length fun i => vec x i * cell g i j) * vec y j := by
    unfold B
    have e2 : (S g.length fun i => vec x i * S g.length fun j => cell g i j * vec y j) = S g.length fun i => S g.length fun j => vec x i * cell g i j * vec y j := S_congr fun i _ => by rw [← S_mul]; exact S_congr fun j _ => by grind
    rw [e2, S_swap]
    refine S_congr fun j _ => ?_
    rw [Int.mul_comm, ← S_mul]
    exact S_congr fun i _ => by grind
  rw [e1]
  refine S_mod fun j hj => ?_
  have := led_S hg hx hj
  show ((ledM p x g).getD j 0 * vec y j) % p = _
  rw [Int.mul_emod, this, ← Int.mul_emod]
theorem lbt_B {p : Int} {n : Nat} {g : Tb} (hl : g.length = n) (hg : ∀ row ∈ g, row.length = n) {x y : Rw} (hx : x.length = n) (hy : y.length = n) : lbtM p g x y = B n (cell g) (vec x) (vec y) % p := by
  have key : ∀ (l : List (Int × Rw)) (t : Int), l.foldl (fun t z => if z.1 = 0 then t else t + z.1 * ((z.2.zip y).map fun y => y.1 * y.2).sum) t = t + (l.map fun z => z.1 * ((z.2.zip y).map fun y => y.1 * y.2).sum).sum := by
    intro l
    induction l with
    | nil => exact fun t => (Int.add_zero t).symm
    | cons z l ih =>
      intro t
      rw [List.foldl_cons, ih, List.map_cons, List.sum_cons]
      by_cases q : z.1 = 0
      · rw [if_pos q, q]
        omega
      · rw [if_neg q]
        omega
  unfold lbtM
  rw [key, Int.zero_add, sum_zip [] (fun row : Rw => ((row.zip y).map fun y => y.1 * y.2).sum) x g (by omega), hx]
  unfold B
  congr 1
  refine S_congr fun i hi => ?_
  have hm : g.getD i [] ∈ g := by rw [List.getD_eq_getElem?_getD, List.getElem?_eq_getElem (by omega)]; exact List.getElem_mem _
  have hr := hg _ hm
  show x.getD i 0 * _ = x.getD i 0 * _
  rw [sum_zip 0 (fun y => y) (g.getD i []) y (by omega), hr]
  rfl
end K06
/-! ==== MP ==== -/
set_option linter.all false
set_option maxRecDepth 100000
set_option maxHeartbeats 4000000
namespace K06
/-! ### the squares tell the count -/
def Iso (p : Int) (g : Tb) : Tb → Prop
  | [] => True
  | r :: rs => btwM p g r r = 0 ∧ (∀ o ∈ rs, btwM p g r o = 0) ∧ Iso p g rs
theorem psi_iso {p : Int} (hp : 0 < p) {g : Tb} (hg : SqOk p g) (hs : Symm g.length (cell g)) {h : Int → Int} (hh : Per p h) : ∀ (left : Tb), TabOk p g.length left → Iso p g left → ∀ z, Psi p g.length (cell g) (left.map vec) h z = D p (List.replicate left.length 0) h z
  | [], _, _, z => by
    show h (z - B _ _ _ _) = h z
    have e : B g.length (cell g) (fun _ => 0) (fun _ => 0) = 0 := by
      unfold B
      rw [show (fun i => (0 : Int) * S g.length fun j => cell g i j * 0) = fun _ => 0 from funext fun i => Int.zero_mul _]
      exact S_zero _
    rw [e, Int.sub_zero]
  | r :: rs, hT, ⟨h1, h2, h3⟩, z => by
    have hr := hT r (List.mem_cons_self ..)
    have hT' : TabOk p g.length rs := fun x hx => hT x (List.mem_cons_of_mem _ hx)
    show Psi p _ _ (vec r :: rs.map vec) h z = _
    rw [peel hs hh]
    · show _ = S p.toNat fun c => D p (List.replicate rs.length 0) h (z - (c : Int) * (c : Int) * 0)
      refine S_congr fun c _ => ?_
      rw [psi_iso hp hg hs hh rs hT' h3]
      refine D_per hh _ _ _ (sub_mod ?_)
      rw [btw_B hp hg hr.1 hr.1] at h1
      rw [Int.mul_emod, h1]
      simp
    · intro o ho
      obtain ⟨y, hy, rfl⟩ := List.mem_map.mp ho
      rw [B_symm hs, ← btw_B hp hg hr.1 (hT' y hy).1]
      exact h2 y hy
theorem enu_of {α : Type} {xs : List α} {i : Nat} {x : α} (h : xs[i]? = some x) : ((i : Int), x) ∈ enu xs := by
  have hi := (List.getElem?_eq_some_iff.mp h).1
  refine List.mem_of_getElem? (i := i) ?_
  unfold enu
  rw [List.getElem?_zip_eq_some]
  refine ⟨by rw [ups_get' hi]; simp, h⟩
theorem fw_none {p : Int} {g left : Tb} (h : fwM p g left = none) : Iso p g left := by
  unfold fwM at h
  cases e1 : fw1 p g left with
  | some y => rw [e1] at h; cases h
  | none =>
    rw [e1] at h
    have a1 : ∀ x ∈ left, btwM p g x x = 0 := fun x hx => by
      obtain ⟨i, hi⟩ := List.getElem?_of_mem hx
      have := List.find?_eq_none.mp e1 _ (enu_of hi)
      simpa using this
    have a2 : ∀ i x, left[i]? = some x → ∀ o ∈ left.drop (i + 1), btwM p g x o = 0 := fun i x hi o ho => by
      have h2 := List.findSome?_eq_none_iff.mp (show fw2 p g left = none from h) _ (enu_of hi)
      have h3 : ((left.drop ((i : Int) + 1).toNat).find? fun o => !decide (btwM p g x o = 0)) = none := by
        cases e : (left.drop ((i : Int) + 1).toNat).find? fun o => !decide (btwM p g x o = 0) with
        | none => rfl
        | some y => rw [e] at h2; cases h2
      have e : ((i : Int) + 1).toNat = i + 1 := by omega
      rw [e] at h3
      have := List.find?_eq_none.mp h3 o ho
      simpa using this
    have key : ∀ (l2 l1 : Tb), left = l1 ++ l2 → Iso p g l2 := by
      intro l2
      induction l2 with
      | nil => exact fun _ _ => trivial
      | cons r rs ih =>
        intro l1 e
        have h2 := a2 l1.length r (by rw [e]; simp)
        refine ⟨a1 r (by rw [e]; simp), fun o ho => h2 o ?_, ih (l1 ++ [r]) (by rw [e]; simp)⟩
        rw [e, List.drop_append]
        simp [ho]
    exact key left [] rfl
theorem sum_vadd {p : Int} {n : Nat} {x y : Rw} (hx : x.length = n) (hy : y.length = n) (r : Int) : Eq' n p (vec (sumM p x y r)) (vadd (vec x) r (vec y)) := fun i hi => by
  unfold vec vadd
  rw [sum_get p x y r i (by omega) (by omega), Int.emod_emod]
theorem A_cons {n : Nat} {p : Int} {F : Vec → Int} (hF : Res n p F) {u w : Vec} (h : Eq' n p u w) (rs : List Vec) (v : Vec) : A p (u :: rs) F v = A p (w :: rs) F v := A_res hF (us := u :: rs) (ws := w :: rs) ⟨h, EqL.refl rs⟩ fun _ _ => rfl
theorem mul_mm (a b p : Int) : (a * b) % p = (a * (b % p)) % p := by rw [Int.mul_emod a b, Int.mul_emod a (b % p), Int.emod_emod]
theorem turn0 {p b w' u : Int} (hw : u * (w' % p) % p = 1) : (b + ((0 - (b % p) * u) % p) * w') % p = 0 := by
  have e1 := Int.emod_add_mul_ediv b p
  have e2 := Int.emod_add_mul_ediv (0 - (b % p) * u) p
  have e3 := Int.emod_add_mul_ediv w' p
  have e4 := Int.emod_add_mul_ediv (u * (w' % p)) p
  rw [hw] at e4
  generalize (0 - (b % p) * u) % p = t at e2 ⊢
  generalize (0 - (b % p) * u) / p = q2 at e2
  generalize u * (w' % p) / p = q4 at e4
  generalize b % p = b0 at e1 e2
  generalize w' % p = w at e3 e4
  generalize b / p = q1 at e1
  generalize w' / p = q3 at e3
  refine Int.emod_eq_zero_of_dvd ⟨q1 - b0 * q4 - b0 * u * q3 - q2 * (w + p * q3), ?_⟩
  subst e1
  subst e3
  have et : t = 0 - b0 * u - p * q2 := by omega
  subst et
  have : b0 * (u * w) = b0 * (1 + p * q4) := by rw [e4]
  grind
theorem psi_sq {p : Int} (hp : P357 p) {g : Tb} (hg : SqOk p g) (hs : Symm g.length (cell g)) : ∀ (f : Nat) (left found : Tb) (nums : Rw), left.length ≤ f → TabOk p g.length left →
    ∃ ws : List Int, (sqL p g f left found nums).2 = nums ++ ws ∧ ws.length = left.length ∧ (∀ w ∈ ws, 0 ≤ w ∧ w < p) ∧ ∀ h, Per p h → ∀ z, Psi p g.length (cell g) (left.map vec) h z = D p ws h z := by
  have hpb := hp.b
  have h0 : 0 < p := by omega
  have fin : ∀ (left found : Tb) (nums : Rw), TabOk p g.length left → fwM p g left = none → ∃ ws : List Int, nums ++ List.replicate left.length 0 = nums ++ ws ∧ ws.length = left.length ∧ (∀ w ∈ ws, 0 ≤ w ∧ w < p) ∧ ∀ h, Per p h → ∀ z, Psi p g.length (cell g) (left.map vec) h z = D p ws h z := fun left found nums hT h =>
    ⟨List.replicate left.length 0, rfl, List.length_replicate, fun w hw => by rw [(List.mem_replicate.mp hw).2]; omega, fun h' hh z => psi_iso h0 hg hs hh left hT (fw_none h) z⟩
  intro f
  induction f with
  | zero =>
    intro left found nums hl hT
    have e : left = [] := List.length_eq_zero_iff.mp (by omega)
    subst e
    exact fin [] found nums hT rfl
  | succ f ih =>
    intro left found nums hl hT
    cases hf : fwM p g left with
    | none =>
      obtain ⟨ws, h1, h2⟩ := fin left found nums hT hf
      refine ⟨ws, ?_, h2⟩
      unfold sqL
      rw [hf]
      exact h1
    | some z =>
      obtain ⟨place, row⟩ := z
      have hz := fw_ok h0 hT hf
      have hz1 : 0 ≤ place ∧ place < left.length := hz.1
      have hrow : RowOk p g.length row := hz.2
      obtain ⟨hnx, hnl⟩ : TabOk p g.length (nextM p g left place row) ∧ (nextM p g left place row).length + 1 = left.length := next_ok h0 (g := g) (z := (place, row)) hT hz
      obtain ⟨ws, h1, h2, h3, h4⟩ := ih (nextM p g left place row) (found ++ [row]) (nums ++ [btwM p g row row]) (by omega) hnx
      have hB := btw_B h0 hg hrow.1 hrow.1
      refine ⟨btwM p g row row :: ws, ?_, ?_, ?_, ?_⟩
      · have e : sqL p g (f + 1) left found nums = sqL p g f (nextM p g left place row) (found ++ [row]) (nums ++ [btwM p g row row]) := by
          conv => lhs; unfold sqL
          rw [hf]
        rw [e, h1, List.append_assoc]
        rfl
      · rw [List.length_cons, h2]
        exact hnl
      · intro w hw
        rcases List.mem_cons.mp hw with rfl | hw
        · rw [hB]
          exact ⟨Int.emod_nonneg _ (by omega), Int.emod_lt_of_pos _ h0⟩
        · exact h3 w hw
      · intro h hh z
        -- the place, the others
        have hpl : place.toNat < left.length := by omega
        have hx : left[place.toNat]? = some left[place.toNat] := List.getElem?_eq_getElem hpl
        generalize left[place.toNat] = x at hx
        have hsplit : left = left.take place.toNat ++ x :: left.drop (place.toNat + 1) := by
          conv => lhs; rw [← List.take_append_drop place.toNat left]
          rw [List.drop_eq_getElem_cons hpl]
          rw [List.getElem?_eq_getElem hpl] at hx
          rw [Option.some.inj hx]
        have hxm : x ∈ left := List.mem_of_getElem? hx
        have hos : (place + 1).toNat = place.toNat + 1 := by omega
        obtain ⟨os, hos'⟩ : ∃ os, os = left.take place.toNat ++ left.drop (place + 1).toNat := ⟨_, rfl⟩
        have hosm : ∀ o ∈ os, RowOk p g.length o := fun o ho => hT o (by
          rw [hos'] at ho
          rcases List.mem_append.mp ho with ho | ho
          · exact List.mem_of_mem_take ho
          · exact List.mem_of_mem_drop ho)
        have hperm : left.Perm (x :: os) := by
          rw [hos', hos]
          conv => lhs; rw [hsplit]
          exact List.perm_middle
        have hres := res_h (n := g.length) (g := cell g) hh z
        -- the row stands for x; its worth is not naught
        have hA : A p (left.map vec) (fun v => h (z - B g.length (cell g) v v)) (fun _ => 0) = A p (vec row :: os.map vec) (fun v => h (z - B g.length (cell g) v v)) (fun _ => 0) ∧ btwM p g row row ≠ 0 := by
          rw [A_perm (hperm.map vec)]
          show A p (vec x :: os.map vec) _ _ = _ ∧ _
          unfold fwM at hf
          cases e1 : fw1 p g left with
          | some y =>
            rw [e1] at hf
            cases Option.some.inj hf
            have hm := enu_mem (List.mem_of_find?_eq_some e1)
            have e2 : x = row := Option.some.inj (hx.symm.trans hm.2.1)
            subst e2
            refine ⟨rfl, ?_⟩
            have := List.find?_some e1
            simpa using this
          | none =>
            rw [e1] at hf
            obtain ⟨y, hy, e2⟩ := List.exists_of_findSome?_eq_some hf
            have hm := enu_mem hy
            cases e3 : (left.drop (y.1 + 1).toNat).find? fun o => !decide (btwM p g y.2 o = 0) with
            | none => rw [e3] at e2; cases e2
            | some o =>
              rw [e3] at e2
              have e4 := Option.some.inj e2
              have e5 : y.1 = place := congrArg Prod.fst e4
              have e6 : sumM p y.2 o 1 = row := congrArg Prod.snd e4
              rw [e5] at hm e3
              have e7 : x = y.2 := Option.some.inj (hx.symm.trans hm.2.1)
              rw [← e7] at e3 e6
              have hod := List.mem_of_find?_eq_some e3
              have hoo : o ∈ os := by rw [hos']; exact List.mem_append_right _ hod
              have hxo : btwM p g x o ≠ 0 := by
                have := List.find?_some e3
                simpa using this
              have ho := hosm o hoo
              have hxr := hT x hxm
              have z1 : ∀ r ∈ left, btwM p g r r = 0 := fun r hr => by
                obtain ⟨i, hi⟩ := List.getElem?_of_mem hr
                have := List.find?_eq_none.mp e1 _ (enu_of hi)
                simpa using this
              have hol : o ∈ left := List.mem_of_mem_drop hod
              subst e6
              constructor
              · have hp2 : (os.map vec).Perm (vec o :: (os.erase o).map vec) := (List.perm_cons_erase hoo).map vec
                rw [A_perm (hp2.cons (vec x)), A_perm (hp2.cons (vec (sumM p x o 1))), A_swap, ← A_add h0 hres (vec x) (vec o) 1, A_swap]
                exact A_cons hres (fun i hi => (sum_vadd hxr.1 ho.1 1 i hi).symm) _ _
              · have b1 := z1 x hxm
                have b2 := z1 o hol
                rw [btw_B h0 hg hxr.1 hxr.1] at b1
                rw [btw_B h0 hg ho.1 ho.1] at b2
                rw [btw_B h0 hg hxr.1 ho.1] at hxo
                rw [hB, B_mod (g' := cell g) (fun _ _ _ _ => rfl) (sum_vadd hxr.1 ho.1 1) (sum_vadd hxr.1 ho.1 1), B_sq hs]
                generalize B g.length (cell g) (vec x) (vec x) = X at b1
                generalize B g.length (cell g) (vec o) (vec o) = Y at b2
                generalize B g.length (cell g) (vec x) (vec o) = Z at hxo
                intro e
                rcases hp with rfl | rfl | rfl <;> omega
        obtain ⟨hA1, hw⟩ := hA
        have hwb : 0 < btwM p g row row ∧ btwM p g row row < p := by
          rw [hB] at hw ⊢
          have := Int.emod_nonneg (B g.length (cell g) (vec row) (vec row)) (show p ≠ 0 by omega)
          have := Int.emod_lt_of_pos (B g.length (cell g) (vec row) (vec row)) h0
          omega
        have hinv := und_ok hp hwb
        have hnext : nextM p g left place row = os.map fun one => sumM p one row ((0 - btwM p g one row * undM p (btwM p g row row)) % p) := by rw [hos']; rfl
        generalize undM p (btwM p g row row) = u at hinv hnext
        unfold Psi
        rw [hA1, ← A_all h0 hres (vec row) fun v => (0 - (B g.length (cell g) v (vec row) % p) * u) % p]
        have hE : EqL g.length p (vec row :: (os.map vec).map fun v => vadd v ((0 - (B g.length (cell g) v (vec row) % p) * u) % p) (vec row)) (vec row :: (nextM p g left place row).map vec) := by
          refine ⟨fun _ _ => rfl, ?_⟩
          rw [hnext]
          have key : ∀ os : Tb, (∀ o ∈ os, RowOk p g.length o) → EqL g.length p ((os.map vec).map fun v => vadd v ((0 - (B g.length (cell g) v (vec row) % p) * u) % p) (vec row)) ((os.map fun one => sumM p one row ((0 - btwM p g one row * u) % p)).map vec) := by
            intro os
            induction os with
            | nil => exact fun _ => trivial
            | cons o os ih2 =>
              intro ho
              refine ⟨fun i hi => ?_, ih2 fun y hy => ho y (List.mem_cons_of_mem _ hy)⟩
              have hoo := ho o (List.mem_cons_self ..)
              have := sum_vadd (p := p) hoo.1 hrow.1 ((0 - btwM p g o row * u) % p) i hi
              rw [this, btw_B h0 hg hoo.1 hrow.1]
          exact key os hosm
        rw [A_res hres hE (fun _ _ => rfl)]
        show Psi p g.length (cell g) (vec row :: (nextM p g left place row).map vec) h z = _
        rw [peel hs hh]
        · refine S_congr fun c _ => ?_
          rw [h4 h hh]
          refine D_per hh _ _ _ (sub_mod ?_)
          rw [hB]
          exact mul_mm _ _ _
        · intro o ho
          obtain ⟨o', ho', rfl⟩ := List.mem_map.mp ho
          rw [hnext] at ho'
          obtain ⟨one, h5, rfl⟩ := List.mem_map.mp ho'
          have h6 := hosm one h5
          rw [B_mod (g' := cell g) (fun _ _ _ _ => rfl) (sum_vadd h6.1 hrow.1 _) (fun _ _ => rfl), B_addl, btw_B h0 hg h6.1 hrow.1]
          rw [hB] at hinv
          exact turn0 hinv
end K06
/-! ==== MU ==== -/
set_option linter.all false
set_option maxRecDepth 100000
set_option maxHeartbeats 4000000
namespace K06
/-! ### the count tells the kind -/
def kdW (p : Int) (ws : List Int) : Kd := ((ws.length : Int), ((ws.filter fun r => !decide (r = 0)).length : Int), (ws.filter fun r => !decide (r = 0)).foldl (fun s n => s * sgnM p n) 1)
def stepK (p : Int) (k : Kd) (w : Int) : Kd := (k.1 + 1, if w = 0 then k.2.1 else k.2.1 + 1, if w = 0 then k.2.2 else k.2.2 * sgnM p w)
theorem sgn_fold (p : Int) : ∀ (l : List Int) (s : Int), l.foldl (fun s n => s * sgnM p n) s = s * l.foldl (fun s n => s * sgnM p n) 1
  | [], s => by show s = s * 1; rw [Int.mul_one]
  | n :: l, s => by
    rw [List.foldl_cons, List.foldl_cons, sgn_fold p l (s * sgnM p n), sgn_fold p l (1 * sgnM p n)]
    grind
theorem kdW_cons (p w : Int) (ws : List Int) : kdW p (w :: ws) = stepK p (kdW p ws) w := by
  unfold kdW stepK
  by_cases q : w = 0
  · rw [if_pos q, if_pos q, List.filter_cons_of_neg (by simp [q])]
    exact Prod.ext (by show ((ws.length + 1 : Nat) : Int) = _; omega) rfl
  · rw [if_neg q, if_neg q, List.filter_cons_of_pos (by simp [q]), List.foldl_cons, sgn_fold]
    refine Prod.ext (by show ((ws.length + 1 : Nat) : Int) = _; omega) (Prod.ext ?_ ?_)
    · exact Int.natCast_add _ 1
    · show 1 * sgnM p w * _ = _ * sgnM p w
      grind
theorem kdW_app (p : Int) : ∀ (us ws : List Int), kdW p (us ++ ws) = ((kdW p us).1 + (kdW p ws).1, (kdW p us).2.1 + (kdW p ws).2.1, (kdW p us).2.2 * (kdW p ws).2.2)
  | us, ws => by
    unfold kdW
    rw [List.filter_append, List.length_append, List.length_append, List.foldl_append, sgn_fold p (ws.filter _) (List.foldl _ 1 _)]
    refine Prod.ext ?_ (Prod.ext ?_ rfl)
    · exact Int.natCast_add _ _
    · exact Int.natCast_add _ _
def Rg (p : Int) (ws : List Int) : Prop := ∀ w ∈ ws, 0 ≤ w ∧ w < p
theorem kdW_ok {p : Int} {ws : List Int} (hl : ws.length ≤ 6) : KOk (kdW p ws) ∧ ((kdW p ws).2.1 = 0 → (kdW p ws).2.2 = 1) := by
  have h2 := List.length_filter_le (fun r : Int => !decide (r = 0)) ws
  refine ⟨⟨⟨?_, ?_, ?_⟩, sgs_sg _ _ (.inl rfl) fun n hn => ?_⟩, fun h => ?_⟩
  · show (0 : Int) ≤ ((ws.filter _).length : Int)
    omega
  · show ((ws.filter _).length : Int) ≤ (ws.length : Int)
    omega
  · show (ws.length : Int) ≤ 6
    omega
  · have := (List.mem_filter.mp hn).2
    simpa using this
  · have h1 : ((ws.filter fun r => !decide (r = 0)).length : Int) = 0 := h
    have h3 : (ws.filter fun r => !decide (r = 0)) = [] := List.length_eq_zero_iff.mp (by omega)
    show (ws.filter fun r => !decide (r = 0)).foldl _ 1 = 1
    rw [h3]
    rfl
def dlt (p z : Int) : Int := if z % p = 0 then 1 else 0
theorem dlt_per (p : Int) : Per p (dlt p) := fun x y e => by unfold dlt; rw [e]
def ctsF (p : Int) (k : Kd) (z : Int) : Int := powdM p (k.1 - k.2.1).toNat * cntM p k.2.1 k.2.2 (z % p)
theorem sub_modl {p x a b : Int} (h : a % p = b % p) : (a - x) % p = (b - x) % p := by rw [Int.sub_emod, h, ← Int.sub_emod]
theorem ctsF_per (p : Int) (k : Kd) : Per p (ctsF p k) := fun x y e => by unfold ctsF; rw [e]
def Vk (k : Kd) : Bool := decide (k.2.1 ≤ k.1) && (decide (¬ k.2.1 = 0) || decide (k.2.2 = 1))
def stepB (z : Int × Kd) : Bool := !Vk z.2 || (decide (z.2.1 = 6) || (ups 0 z.1.toNat).all fun w => (ups 0 z.1.toNat).all fun y => decide (S z.1.toNat (fun c => ctsF z.1 z.2 (y - (c : Int) * (c : Int) * w)) = ctsF z.1 (stepK z.1 z.2 w) y))
theorem step_all : domK.all stepB = true := by decide +kernel
theorem vk_of {k : Kd} (h : KOk k ∧ (k.2.1 = 0 → k.2.2 = 1)) : Vk k = true := by
  unfold Vk
  rw [decide_eq_true h.1.1.2.1, Bool.true_and]
  by_cases q : k.2.1 = 0
  · rw [decide_eq_true (h.2 q), Bool.or_true]
  · rw [decide_eq_true q]
    rfl
theorem D_cts {p : Int} (hp : P357 p) : ∀ (ws : List Int), ws.length ≤ 6 → Rg p ws → ∀ z, D p ws (dlt p) z = ctsF p (kdW p ws) z
  | [], _, _, z => by
    show dlt p z = powdM p 0 * cntM p 0 1 (z % p)
    have e : powdM p 0 = 1 := rfl
    rw [e]
    unfold dlt cntM
    simp
  | w :: ws, hl, hr, z => by
    have hpb := hp.b
    have hl' : ws.length ≤ 5 := by simpa using hl
    have hw := hr w (List.mem_cons_self ..)
    rw [kdW_cons]
    show S p.toNat (fun c => D p ws (dlt p) (z - (c : Int) * (c : Int) * w)) = _
    have e : S p.toNat (fun c => D p ws (dlt p) (z - (c : Int) * (c : Int) * w)) = S p.toNat (fun c => ctsF p (kdW p ws) (z % p - (c : Int) * (c : Int) * w)) := S_congr fun c _ => by
      rw [D_cts hp ws (by omega) fun x hx => hr x (List.mem_cons_of_mem _ hx)]
      exact ctsF_per p _ _ _ (sub_modl (Int.emod_emod z p).symm)
    rw [e]
    have ok := kdW_ok (p := p) (ws := ws) (by omega)
    have h1 := List.all_eq_true.mp step_all _ (ok.1.dom hp)
    unfold stepB at h1
    rw [show Vk (p, kdW p ws).2 = true from vk_of ok] at h1
    have h6 : ¬ (kdW p ws).1 = 6 := by show ¬ (ws.length : Int) = 6; omega
    rw [show decide ((p, kdW p ws).2.1 = 6) = false from decide_eq_false h6] at h1
    have hz1 := Int.emod_nonneg z (show p ≠ 0 by omega)
    have hz2 := Int.emod_lt_of_pos z (show 0 < p by omega)
    have h2 := List.all_eq_true.mp (show _ = true from h1) w (ups_of (by show 0 ≤ w ∧ w < ((p.toNat : Nat) : Int); omega))
    have h3 := of_decide_eq_true (List.all_eq_true.mp h2 (z % p) (ups_of (by show 0 ≤ z % p ∧ z % p < ((p.toNat : Nat) : Int); omega)))
    rw [h3]
    exact ctsF_per p _ _ _ (Int.emod_emod _ _)
/-- two kinds of a size have other counts -/
def injB (z : Int × Kd) : Bool := !Vk z.2 || (ups 0 7).all fun rank => [1, -1].all fun sign => !Vk (z.2.1, rank, sign) || (decide (z.2.2 = (rank, sign)) || !((ups 0 z.1.toNat).all fun y => decide (ctsF z.1 z.2 y = ctsF z.1 (z.2.1, rank, sign) y)))
theorem inj_all : domK.all injB = true := by decide +kernel
theorem kd_inj {p : Int} (hp : P357 p) {us ws : List Int} (hl : us.length = ws.length) (h6 : us.length ≤ 6) (hu : Rg p us) (hw : Rg p ws) (h : ∀ z, D p us (dlt p) z = D p ws (dlt p) z) : kdW p us = kdW p ws := by
  have ok1 := kdW_ok (p := p) (ws := us) h6
  have ok2 := kdW_ok (p := p) (ws := ws) (by omega)
  have h1 := List.all_eq_true.mp inj_all _ (ok1.1.dom hp)
  unfold injB at h1
  rw [show Vk (p, kdW p us).2 = true from vk_of ok1] at h1
  have hk := ok2.1.1
  have h2 := List.all_eq_true.mp (show _ = true from h1) (kdW p ws).2.1 (ups_of (by omega))
  have h3 := List.all_eq_true.mp h2 (kdW p ws).2.2 (by rcases ok2.1.2 with e | e <;> rw [e] <;> decide)
  have e1 : (kdW p us).1 = (kdW p ws).1 := by show (us.length : Int) = (ws.length : Int); omega
  have e2 : ((p, kdW p us).2.1, (kdW p ws).2.1, (kdW p ws).2.2) = kdW p ws := Prod.ext e1 rfl
  rw [e2, vk_of ok2] at h3
  have hall : ((ups 0 (p, kdW p us).1.toNat).all fun y => decide (ctsF (p, kdW p us).1 (p, kdW p us).2 y = ctsF (p, kdW p us).1 (kdW p ws) y)) = true := List.all_eq_true.mpr fun y _ => decide_eq_true (by
    show ctsF p (kdW p us) y = ctsF p (kdW p ws) y
    rw [← D_cts hp us h6 hu, ← D_cts hp ws (by omega) hw]
    exact h y)
  rw [hall] at h3
  have h4 : decide ((p, kdW p us).2.2 = ((kdW p ws).2.1, (kdW p ws).2.2)) = true := by simpa using h3
  exact Prod.ext e1 (of_decide_eq_true h4)
end K06
/-! ==== MV ==== -/
set_option linter.all false
set_option maxRecDepth 100000
set_option maxHeartbeats 4000000
namespace K06
/-! ### what follows of kinds -/
def Sy (p : Int) (g : Tb) : Prop := SqOk p g ∧ turM g = g
def addK (a b : Kd) : Kd := (a.1 + b.1, a.2.1 + b.2.1, a.2.2 * b.2.2)
def ev (a : Nat) : Vec := fun i => if i = a then 1 else 0
theorem get_map {α β : Type} (f : α → β) (l : List α) (i : Nat) (d : β) (d' : α) (h : i < l.length) : (l.map f).getD i d = f (l.getD i d') := by
  rw [List.getD_eq_getElem?_getD, List.getD_eq_getElem?_getD, List.getElem?_map, List.getElem?_eq_getElem h]
  rfl
theorem get_none {α : Type} (l : List α) (i : Nat) (d : α) (h : l.length ≤ i) : l.getD i d = d := by
  rw [List.getD_eq_getElem?_getD, List.getElem?_eq_none h]
  rfl
theorem ups_getD {n i : Nat} (h : i < n) : (ups 0 n).getD i 0 = i := by
  rw [List.getD_eq_getElem?_getD, ups_get' h]
  show (0 : Int) + (i : Int) = i
  omega
theorem unit_vec {n a : Nat} (ha : a < n) : vec (unitM n a) = ev a := funext fun i => by
  unfold vec unitM ev
  rw [Int.toNat_natCast]
  by_cases hi : i < n
  · rw [get_map _ _ i 0 0 (by rw [ups_len']; exact hi), ups_getD hi]
    by_cases q : i = a
    · rw [if_pos (by omega), if_pos q]
    · rw [if_neg (by omega), if_neg q]
  · rw [get_none _ _ _ (by rw [List.length_map, ups_len']; omega), if_neg (by omega)]
theorem idle_vec (n : Nat) : (idleM n).map vec = (List.range n).map ev := by
  unfold idleM ups
  rw [Int.toNat_natCast, List.map_map, List.map_map]
  refine List.map_congr_left fun a ha => ?_
  show vec (unitM n (0 + (a : Int))) = ev a
  rw [Int.zero_add]
  exact unit_vec (List.mem_range.mp ha)
theorem tur_cell {t : Tb} {i j : Nat} (hi : i < t.length) (hj : j < t.length) : cell (turM t) i j = cell t j i := by
  unfold cell turM
  rw [get_map _ _ i [] 0 (by rw [ups_len']; exact hi), ups_getD hi, get_map _ _ j 0 [] hj, Int.toNat_natCast]
theorem Sy.symm {p : Int} {g : Tb} (h : Sy p g) : Symm g.length (cell g) := fun i j hi hj => by
  have := tur_cell (t := g) hi hj
  rw [h.2] at this
  exact this
theorem tab_ext {p : Int} {n : Nat} {s t : Tb} (h1 : s.length = t.length) (hs : TabOk p n s) (ht : TabOk p n t) (h : ∀ i j, i < s.length → j < n → cell s i j = cell t i j) : s = t := by
  refine List.ext_getElem h1 fun i hi hi' => ?_
  have a1 := hs _ (List.getElem_mem hi)
  have a2 := ht _ (List.getElem_mem hi')
  refine List.ext_getElem (by rw [a1.1, a2.1]) fun j hj hj' => ?_
  have := h i j hi (by rw [← a1.1]; exact hj)
  unfold cell at this
  rw [List.getD_eq_getElem?_getD (l := s), List.getElem?_eq_getElem hi, List.getD_eq_getElem?_getD (l := t), List.getElem?_eq_getElem hi'] at this
  show s[i][j] = t[i][j]
  have e1 : (s[i]).getD j 0 = s[i][j] := by rw [List.getD_eq_getElem?_getD, List.getElem?_eq_getElem hj]; rfl
  have e2 : (t[i]).getD j 0 = t[i][j] := by rw [List.getD_eq_getElem?_getD, List.getElem?_eq_getElem hj']; rfl
  rw [← e1, ← e2]
  exact this
theorem tur_ok {p : Int} {g : Tb} (h : SqOk p g) : TabOk p g.length (turM g) := fun row hr => by
  unfold turM at hr
  obtain ⟨a, ha, rfl⟩ := List.mem_map.mp hr
  refine ⟨List.length_map .., fun x hx => ?_⟩
  obtain ⟨z, hz, rfl⟩ := List.mem_map.mp hx
  have h1 := h.tab z hz
  unfold ups at ha
  obtain ⟨k, hk, rfl⟩ := List.mem_map.mp ha
  have hk' := List.mem_range.mp hk
  have e : ((0 : Int) + (k : Int)).toNat = k := by omega
  rw [e]
  exact h1.get hk'
theorem sy_of {p : Int} {g : Tb} (h : SqOk p g) (hs : Symm g.length (cell g)) : Sy p g := by
  refine ⟨h, ?_⟩
  have hl : (turM g).length = g.length := by unfold turM; rw [List.length_map, ups_len']
  refine tab_ext (p := p) (n := g.length) hl (tur_ok h) h.tab fun i j hi hj => ?_
  rw [hl] at hi
  rw [tur_cell hi hj]
  exact hs j i hj hi
/-- the count of a table, and its kind -/
def NN (p : Int) (g : Tb) (h : Int → Int) (z : Int) : Int := Psi p g.length (cell g) ((List.range g.length).map ev) h z
theorem kind_D {p : Int} (hp : P357 p) {g : Tb} (hg : Sy p g) : ∃ ws : List Int, kindM p g = kdW p ws ∧ ws.length = g.length ∧ Rg p ws ∧ ∀ h, Per p h → ∀ z, NN p g h z = D p ws h z := by
  obtain ⟨ws, h1, h2, h3, h4⟩ := psi_sq hp hg.1 hg.symm g.length (idleM g.length) [] [] (by rw [idle_len]; exact Nat.le_refl _) (idle_ok hp.b.1 _)
  rw [idle_len] at h2
  rw [idle_vec] at h4
  refine ⟨ws, ?_, h2, h3, h4⟩
  have e : (sqM p g).2 = ws := h1
  unfold kindM numsM kdW
  rw [e, h2]
theorem kind_eq {p : Int} (hp : P357 p) {g : Tb} (hg : Sy p g) {us : List Int} (hl : us.length = g.length) (hu : Rg p us) (h : ∀ z, NN p g (dlt p) z = D p us (dlt p) z) : kindM p g = kdW p us := by
  obtain ⟨ws, h1, h2, h3, h4⟩ := kind_D hp hg
  rw [h1]
  refine kd_inj hp (by omega) (by rw [h2]; exact hg.1.1) h3 hu fun z => ?_
  rw [← h4 _ (dlt_per p), h]
/-! ### tables side by side -/
theorem bsd_len (a b : Tb) : (bsdM a b).length = a.length + b.length := by unfold bsdM; rw [List.length_append, List.length_map, List.length_map]
theorem getD_app1 {α : Type} (l m : List α) (i : Nat) (d : α) (h : i < l.length) : (l ++ m).getD i d = l.getD i d := by
  rw [List.getD_eq_getElem?_getD, List.getD_eq_getElem?_getD, List.getElem?_append_left h]
theorem getD_app2 {α : Type} (l m : List α) (i : Nat) (d : α) : (l ++ m).getD (l.length + i) d = m.getD i d := by
  rw [List.getD_eq_getElem?_getD, List.getD_eq_getElem?_getD, List.getElem?_append_right (by omega)]
  congr 2
  omega
theorem getD_rep0 (n i : Nat) : (List.replicate n (0 : Int)).getD i 0 = 0 := by
  rw [List.getD_eq_getElem?_getD, List.getElem?_replicate]
  split <;> rfl
section
variable {p : Int} {a b : Tb} (ha : SqOk p a) (hb : SqOk p b)
include ha hb
theorem bsd_11 {i j : Nat} (hi : i < a.length) (hj : j < a.length) : cell (bsdM a b) i j = cell a i j := by
  have hm : a.getD i [] ∈ a := by rw [List.getD_eq_getElem?_getD, List.getElem?_eq_getElem hi]; exact List.getElem_mem _
  unfold cell bsdM
  rw [getD_app1 _ _ i [] (by rw [List.length_map]; exact hi), get_map _ a i [] [] hi, getD_app1 _ _ j 0 (by rw [(ha.2 _ hm).1]; exact hj)]
theorem bsd_12 {i j : Nat} (hi : i < a.length) : cell (bsdM a b) i (a.length + j) = 0 := by
  have hm : a.getD i [] ∈ a := by rw [List.getD_eq_getElem?_getD, List.getElem?_eq_getElem hi]; exact List.getElem_mem _
  unfold cell bsdM
  rw [getD_app1 _ _ i [] (by rw [List.length_map]; exact hi), get_map _ a i [] [] hi]
  have e := getD_app2 (a.getD i []) (List.replicate b.length (0 : Int)) j 0
  rw [(ha.2 _ hm).1] at e
  rw [e, getD_rep0]
theorem bsd_21 {i j : Nat} (hi : i < b.length) (hj : j < a.length) : cell (bsdM a b) (a.length + i) j = 0 := by
  unfold cell bsdM
  have e := getD_app2 (a.map fun row => row ++ List.replicate b.length (0 : Int)) (b.map fun row => List.replicate a.length (0 : Int) ++ row) i []
  rw [List.length_map] at e
  rw [e, get_map _ b i [] [] hi, getD_app1 _ _ j 0 (by rw [List.length_replicate]; exact hj), getD_rep0]
theorem bsd_22 {i j : Nat} (hi : i < b.length) : cell (bsdM a b) (a.length + i) (a.length + j) = cell b i j := by
  unfold cell bsdM
  have e := getD_app2 (a.map fun row => row ++ List.replicate b.length (0 : Int)) (b.map fun row => List.replicate a.length (0 : Int) ++ row) i []
  rw [List.length_map] at e
  rw [e, get_map _ b i [] [] hi]
  have e2 := getD_app2 (List.replicate a.length (0 : Int)) (b.getD i []) j 0
  rw [List.length_replicate] at e2
  exact e2
theorem B_bsd (x : Vec) : B (a.length + b.length) (cell (bsdM a b)) x x = B a.length (cell a) x x + B b.length (cell b) (fun i => x (a.length + i)) fun i => x (a.length + i) := by
  unfold B
  rw [S_split]
  congr 1
  · refine S_congr fun i hi => ?_
    rw [S_split]
    have e1 : S a.length (fun j => cell (bsdM a b) i j * x j) = S a.length fun j => cell a i j * x j := S_congr fun j hj => by rw [bsd_11 ha hb hi hj]
    have e2 : S b.length (fun j => cell (bsdM a b) i (a.length + j) * x (a.length + j)) = 0 := by
      rw [← S_zero b.length]
      exact S_congr fun j _ => by rw [bsd_12 ha hb hi, Int.zero_mul]
    rw [e1, e2, Int.add_zero]
  · refine S_congr fun i hi => ?_
    rw [S_split]
    have e1 : S a.length (fun j => cell (bsdM a b) (a.length + i) j * x j) = 0 := by
      rw [← S_zero a.length]
      exact S_congr fun j hj => by rw [bsd_21 ha hb hi hj, Int.zero_mul]
    have e2 : S b.length (fun j => cell (bsdM a b) (a.length + i) (a.length + j) * x (a.length + j)) = S b.length fun j => cell b i j * x (a.length + j) := S_congr fun j _ => by rw [bsd_22 ha hb hi]
    rw [e1, e2, Int.zero_add]
theorem bsd_symm (sa : Symm a.length (cell a)) (sb : Symm b.length (cell b)) : Symm (bsdM a b).length (cell (bsdM a b)) := fun i j hi hj => by
  rw [bsd_len] at hi hj
  by_cases q1 : i < a.length
  · by_cases q2 : j < a.length
    · rw [bsd_11 ha hb q1 q2, bsd_11 ha hb q2 q1]
      exact sa i j q1 q2
    · obtain ⟨k, rfl⟩ : ∃ k, j = a.length + k := ⟨j - a.length, by omega⟩
      rw [bsd_12 ha hb q1, bsd_21 ha hb (by omega) q1]
  · obtain ⟨l, rfl⟩ : ∃ l, i = a.length + l := ⟨i - a.length, by omega⟩
    by_cases q2 : j < a.length
    · rw [bsd_21 ha hb (by omega) q2, bsd_12 ha hb q2]
    · obtain ⟨k, rfl⟩ : ∃ k, j = a.length + k := ⟨j - a.length, by omega⟩
      rw [bsd_22 ha hb (by omega), bsd_22 ha hb (by omega)]
      exact sb l k (by omega) (by omega)
end
theorem A_app (p : Int) (F : Vec → Int) (ws : List Vec) : ∀ (us : List Vec) (v : Vec), A p (us ++ ws) F v = A p us (A p ws F) v
  | [], _ => rfl
  | u :: us, v => S_congr fun c _ => A_app p F ws us _
theorem sim_map {R : Vec → Vec → Prop} {α : Type} {f g : α → Vec} : ∀ (l : List α), (∀ x ∈ l, ∀ v y c, R v y → R (vadd v c (f x)) (vadd y c (g x))) → Sim R (l.map f) (l.map g)
  | [], _ => trivial
  | x :: l, h => ⟨h x (List.mem_cons_self ..), sim_map l fun y hy => h y (List.mem_cons_of_mem _ hy)⟩
theorem NN_bsd {p : Int} {a b : Tb} (ha : SqOk p a) (hb : SqOk p b) (h : Int → Int) (z : Int) : NN p (bsdM a b) h z = NN p a (NN p b h) z := by
  unfold NN Psi
  rw [bsd_len, List.range_add, List.map_append, List.map_map, A_app]
  refine A_sim (R := fun v y => v = y ∧ ∀ i, a.length ≤ i → v i = 0) ?_ (sim_map _ ?_) ⟨rfl, fun _ _ => rfl⟩
  · rintro v y ⟨rfl, hv⟩
    refine A_sim (R := fun x u => (∀ i < a.length, x i = v i) ∧ ∀ j, x (a.length + j) = u j) ?_ (sim_map _ ?_) ⟨fun _ _ => rfl, fun j => hv _ (by omega)⟩
    · rintro x u ⟨h1, h2⟩
      rw [B_bsd ha hb]
      have e1 : B a.length (cell a) x x = B a.length (cell a) v v := by
        unfold B
        exact S_congr fun i hi => by rw [h1 i hi]; congr 1; exact S_congr fun j hj => by rw [h1 j hj]
      have e2 : (fun i => x (a.length + i)) = u := funext h2
      rw [e1, e2]
      congr 1
      omega
    · rintro k hk x u c ⟨h1, h2⟩
      refine ⟨fun i hi => ?_, fun j => ?_⟩
      · show x i + c * ev (a.length + k) i = v i
        unfold ev
        rw [if_neg (by omega), Int.mul_zero, Int.add_zero]
        exact h1 i hi
      · show x (a.length + j) + c * ev (a.length + k) (a.length + j) = u j + c * ev k j
        unfold ev
        rw [h2 j]
        by_cases q : j = k
        · rw [if_pos (by omega), if_pos q]
        · rw [if_neg (by omega), if_neg q]
  · rintro k hk v y c ⟨rfl, hv⟩
    refine ⟨rfl, fun i hi => ?_⟩
    have := List.mem_range.mp hk
    show v i + c * ev k i = 0
    unfold ev
    rw [hv i hi, if_neg (by omega), Int.mul_zero]
    rfl
theorem NN_per {p : Int} {g : Tb} {h : Int → Int} (hh : Per p h) : Per p (NN p g h) := psi_per hh _
theorem z_add {p : Int} (hp : P357 p) {a b : Tb} (ha : Sy p a) (hb : Sy p b) (h : a.length + b.length ≤ 6) : kindM p (bsdM a b) = addK (kindM p a) (kindM p b) := by
  obtain ⟨us, h1, h2, h3, h4⟩ := kind_D hp ha
  obtain ⟨ws, h5, h6, h7, h8⟩ := kind_D hp hb
  have hS : Sy p (bsdM a b) := sy_of (bsd_sq (by have := hp.b; omega) ha.1 hb.1 h) (bsd_symm ha.1 hb.1 ha.symm hb.symm)
  rw [kind_eq hp hS (us := us ++ ws) (by rw [List.length_append, bsd_len, h2, h6]) (fun w hw => (List.mem_append.mp hw).elim (h3 w) (h7 w)) fun z => ?_, kdW_app, ← h1, ← h5]
  · rfl
  · rw [NN_bsd ha.1 hb.1, D_app, h4 _ (NN_per (dlt_per p))]
    congr 1
    exact funext fun y => h8 _ (dlt_per p) y
theorem bsd_sy {p : Int} (hp : P357 p) {a b : Tb} (ha : Sy p a) (hb : Sy p b) (h : a.length + b.length ≤ 6) : Sy p (bsdM a b) := sy_of (bsd_sq (by have := hp.b; omega) ha.1 hb.1 h) (bsd_symm ha.1 hb.1 ha.symm hb.symm)
end K06
/-! ==== MW ==== -/
set_option linter.all false
set_option maxRecDepth 100000
set_option maxHeartbeats 4000000
namespace K06
/-! ### tables led by letters -/
theorem list_range {t : Tb} : t = (List.range t.length).map fun i => t.getD i [] := by
  refine List.ext_getElem (by rw [List.length_map, List.length_range]) fun i h1 h2 => ?_
  rw [List.getElem_map, List.getElem_range, List.getD_eq_getElem?_getD, List.getElem?_eq_getElem h1]
  rfl
theorem perm_set {t : Tb} {i : Nat} (hi : i < t.length) (x : Rw) : (t.set i x).Perm (x :: (t.take i ++ t.drop (i + 1))) := by
  rw [List.set_eq_take_append_cons_drop, if_pos hi]
  exact List.perm_middle
theorem perm_get {t : Tb} {i : Nat} (hi : i < t.length) : t.Perm (t.getD i [] :: (t.take i ++ t.drop (i + 1))) := by
  have e : t.set i (t.getD i []) = t := by
    rw [List.getD_eq_getElem?_getD, List.getElem?_eq_getElem hi]
    exact List.set_getElem_self hi
  have := perm_set hi (t.getD i [])
  rwa [e] at this
theorem mem_others {t : Tb} {i j : Nat} (hj : j < t.length) (hij : i ≠ j) : t.getD j [] ∈ t.take i ++ t.drop (i + 1) := by
  have e : t.getD j [] = t[j] := by rw [List.getD_eq_getElem?_getD, List.getElem?_eq_getElem hj]; rfl
  rw [e]
  rcases Nat.lt_or_ge j i with h | h
  · refine List.mem_append_left _ (List.mem_of_getElem? (i := j) ?_)
    rw [List.getElem?_take_of_lt h, List.getElem?_eq_getElem hj]
  · refine List.mem_append_right _ (List.mem_of_getElem? (i := j - (i + 1)) ?_)
    rw [List.getElem?_drop]
    have : i + 1 + (j - (i + 1)) = j := by omega
    rw [this, List.getElem?_eq_getElem hj]
/-- a row and the others, one of them added to it -/
theorem A_mix {n : Nat} {p : Int} (hp : 0 < p) {F : Vec → Int} (hF : Res n p F) {x o : Rw} {os : Tb} (hx : x.length = n) (ho : o.length = n) (hm : o ∈ os) (r : Int) (v : Vec) : A p (vec (sumM p x o r) :: os.map vec) F v = A p (vec x :: os.map vec) F v := by
  have hp2 : (os.map vec).Perm (vec o :: (os.erase o).map vec) := (List.perm_cons_erase hm).map vec
  rw [A_perm (hp2.cons (vec x)), A_perm (hp2.cons (vec (sumM p x o r))), A_swap p (vec x), ← A_add hp hF (vec x) (vec o) r, A_swap p (vec o)]
  exact A_cons hF (sum_vadd hx ho r) _ _
theorem scl_vec {p : Int} {n : Nat} {x : Rw} (hx : x.length = n) (r : Int) : Eq' n p (vec (sclM p x r)) fun i => r * vec x i := fun i hi => by
  unfold vec
  rw [scl_get p x r i (by omega), Int.emod_emod]
theorem A_letters {p : Int} (hp : P357 p) {n : Nat} {F : Vec → Int} (hF : Res n p F) {t : Tb} (h : LetM p n t) : A p (t.map vec) F (fun _ => 0) = A p ((List.range n).map ev) F fun _ => 0 := by
  have hpb := hp.b
  induction h with
  | id => rw [idle_vec]
  | @add t i j r h hi hj hij hr ih =>
    have ok := h.ok hpb.1
    rw [← ih, A_perm ((perm_set (by omega) _).map vec), A_perm ((perm_get (t := t) (i := i) (by omega)).map vec)]
    exact A_mix (by omega) hF (tab_get ok.1 (by omega)).1 (tab_get ok.1 (by omega)).1 (mem_others (by omega) hij) r _
  | @scl t i r h hi hr ih =>
    have ok := h.ok hpb.1
    rw [← ih, A_perm ((perm_set (by omega) _).map vec), A_perm ((perm_get (t := t) (i := i) (by omega)).map vec)]
    show A p (vec _ :: _) F _ = A p (vec _ :: _) F _
    rw [A_cons hF (scl_vec (tab_get ok.1 (by omega)).1 r)]
    exact A_scl hp hF _ hr _ _
theorem S_one {n a : Nat} (ha : a < n) (f : Nat → Int) : (S n fun i => ev a i * f i) = f a := by
  induction n with
  | zero => omega
  | succ n ih =>
    show S n _ + ev a n * f n = f a
    by_cases q : a < n
    · rw [ih q]
      unfold ev
      rw [if_neg (by omega), Int.zero_mul, Int.add_zero]
    · have e : a = n := by omega
      subst e
      have e2 : (S a fun i => ev a i * f i) = 0 := by
        rw [← S_zero a]
        refine S_congr fun i hi => ?_
        unfold ev
        rw [if_neg (by omega), Int.zero_mul]
      rw [e2]
      unfold ev
      rw [if_pos rfl, Int.one_mul, Int.zero_add]
/-- the row that a row of rests leads to -/
def comb (n : Nat) (t : Tb) (v : Vec) : Vec := fun j => S n fun i => v i * cell t i j
theorem B_comb {n : Nat} {g g' : Nat → Nat → Int} {t : Tb} {p : Int} (hg : ∀ i j, i < n → j < n → g' i j % p = B n g (fun k => cell t i k) (fun k => cell t j k) % p) (v : Vec) : B n g' v v % p = B n g (comb n t v) (comb n t v) % p := by
  have e0 : ∀ w, B n g (comb n t v) w = S n fun i => v i * B n g (fun k => cell t i k) w := fun w => by
    unfold B comb
    have e1 : (S n fun k => (S n fun i => v i * cell t i k) * S n fun l => g k l * w l) = S n fun k => S n fun i => v i * (cell t i k * S n fun l => g k l * w l) := S_congr fun k _ => by
      rw [Int.mul_comm, ← S_mul]
      exact S_congr fun i _ => by grind
    rw [e1, S_swap]
    exact S_congr fun i _ => S_mul _ _ _
  have e2 : ∀ u, B n g u (comb n t v) = S n fun j => v j * B n g u fun k => cell t j k := fun u => by
    unfold B comb
    have e1 : (S n fun k => u k * S n fun l => g k l * S n fun j => v j * cell t j l) = S n fun k => S n fun j => v j * (u k * S n fun l => g k l * cell t j l) := S_congr fun k _ => by
      have e3 : (S n fun l => g k l * S n fun j => v j * cell t j l) = S n fun j => v j * S n fun l => g k l * cell t j l := by
        have e4 : (S n fun l => g k l * S n fun j => v j * cell t j l) = S n fun l => S n fun j => v j * (g k l * cell t j l) := S_congr fun l _ => by
          rw [← S_mul]
          exact S_congr fun j _ => by grind
        rw [e4, S_swap]
        exact S_congr fun j _ => S_mul _ _ _
      rw [e3, ← S_mul]
      exact S_congr fun j _ => by grind
    rw [e1, S_swap]
    exact S_congr fun j _ => S_mul _ _ _
  rw [e0]
  show (S n fun i => v i * S n fun j => g' i j * v j) % p = _
  refine S_mod fun i hi => ?_
  rw [e2]
  have e5 : (S n fun j => g' i j * v j) % p = (S n fun j => v j * B n g (fun k => cell t i k) fun k => cell t j k) % p := S_mod fun j hj => by
    rw [Int.mul_comm, Int.mul_emod, hg i j hi hj, ← Int.mul_emod]
  rw [Int.mul_emod, e5, ← Int.mul_emod]
/-- a table's form led by letters counts the same -/
theorem NN_led {p : Int} (hp : P357 p) {n : Nat} {g g' : Nat → Nat → Int} {t : Tb} (ht : LetM p n t) (hg : ∀ i j, i < n → j < n → g' i j % p = B n g (fun k => cell t i k) (fun k => cell t j k) % p) {h : Int → Int} (hh : Per p h) (z : Int) :
    Psi p n g' ((List.range n).map ev) h z = Psi p n g ((List.range n).map ev) h z := by
  have ok := ht.ok hp.b.1
  have hres := res_h (n := n) (g := g) hh z
  have e1 : Psi p n g ((List.range n).map ev) h z = A p ((List.range n).map fun i => vec (t.getD i [])) (fun v => h (z - B n g v v)) fun _ => 0 := by
    show A p _ _ _ = _
    rw [← A_letters hp hres ht]
    congr 1
    conv => lhs; rw [list_range (t := t)]
    rw [List.map_map, ok.2]
    rfl
  rw [e1]
  refine A_sim (R := fun v y => y = comb n t v) ?_ (sim_map _ ?_) ?_
  · rintro v y rfl
    exact hh _ _ (sub_mod (B_comb hg v))
  · rintro a ha v y c rfl
    refine funext fun j => ?_
    have ha' := List.mem_range.mp ha
    show comb n t v j + c * vec (t.getD a []) j = S n fun i => (v i + c * ev a i) * cell t i j
    have e3 : (S n fun i => (v i + c * ev a i) * cell t i j) = (S n fun i => v i * cell t i j) + c * S n fun i => ev a i * cell t i j := by
      rw [← S_mul, ← S_add]
      exact S_congr fun i _ => by grind
    rw [e3, S_one ha']
    rfl
  · refine funext fun j => ?_
    show (0 : Int) = S n fun i => 0 * cell t i j
    rw [show (fun i => (0 : Int) * cell t i j) = fun _ => 0 from funext fun i => Int.zero_mul _, S_zero]
theorem lled_len (p : Int) (t g : Tb) : (lledM p t g).length = t.length := by unfold lledM; rw [List.length_map]
theorem lled_cell {p : Int} {t g : Tb} {i j : Nat} (hi : i < t.length) (hj : j < t.length) : cell (lledM p t g) i j = lbtM p g (t.getD i []) (t.getD j []) := by
  unfold cell lledM
  rw [get_map _ t i [] [] hi, get_map _ t j 0 [] hj]
theorem z_grid {p : Int} (hp : P357 p) {n : Nat} (hn : n ≤ 3) {t base : Tb} (h1 : LetM p n t) (h2 : BsOk p n base) : Sy p (lledM p t base) ∧ (lledM p t base).length = n := by
  have hpb := hp.b
  have ok := h1.ok hpb.1
  have hl : (lledM p t base).length = n := by rw [lled_len, ok.2]
  have hc : ∀ i j, i < n → j < n → cell (lledM p t base) i j = B n (cell base) (vec (t.getD i [])) (vec (t.getD j [])) % p := fun i j hi hj => by
    rw [lled_cell (by omega) (by omega), lbt_B h2.1 (fun row hr => (h2.2.1 row hr).1) (tab_get ok.1 (by omega)).1 (tab_get ok.1 (by omega)).1]
  have hS : SqOk p (lledM p t base) := by
    refine ⟨by omega, fun row hr => ?_⟩
    rw [lled_len]
    unfold lledM at hr
    obtain ⟨near, _, rfl⟩ := List.mem_map.mp hr
    refine ⟨by rw [List.length_map], fun x hx => ?_⟩
    obtain ⟨far, _, rfl⟩ := List.mem_map.mp hx
    exact ⟨Int.emod_nonneg _ (by omega), Int.emod_lt_of_pos _ (by omega)⟩
  refine ⟨sy_of hS fun i j hi hj => ?_, hl⟩
  rw [hl] at hi hj
  rw [hc i j hi hj, hc j i hj hi, B_symm h2.2.2]
theorem bts_cell {p : Int} {g t : Tb} {i j : Nat} (hi : i < t.length) (hj : j < t.length) : cell (btsM p g t) i j = btwM p g (t.getD i []) (t.getD j []) := by
  unfold cell btsM
  rw [get_map _ _ i [] [] (by rw [List.length_map]; exact hi), get_map _ t j 0 [] hj, get_map _ t i [] [] hi]
  rfl
theorem z_led {p : Int} (hp : P357 p) {b t : Tb} (hb : Sy p b) (ht : LetM p b.length t) : Sy p (btsM p b t) ∧ (btsM p b t).length = b.length ∧ kindM p (btsM p b t) = kindM p b := by
  have hpb := hp.b
  have h0 : 0 < p := by omega
  have ok := ht.ok hpb.1
  have hl : (btsM p b t).length = b.length := by unfold btsM; rw [List.length_map, List.length_map, ok.2]
  have hc : ∀ i j, i < b.length → j < b.length → cell (btsM p b t) i j = B b.length (cell b) (vec (t.getD i [])) (vec (t.getD j [])) % p := fun i j hi hj => by
    rw [bts_cell (by omega) (by omega), btw_B h0 hb.1 (tab_get ok.1 (by omega)).1 (tab_get ok.1 (by omega)).1]
  have hS := bts_ok h0 b t (by rw [ok.2]; exact hb.1.1)
  have hSy : Sy p (btsM p b t) := sy_of hS fun i j hi hj => by
    rw [hl] at hi hj
    rw [hc i j hi hj, hc j i hj hi, B_symm hb.symm]
  refine ⟨hSy, hl, ?_⟩
  obtain ⟨ws, h1, h2, h3, h4⟩ := kind_D hp hb
  rw [h1]
  refine kind_eq hp hSy (by rw [h2, hl]) h3 fun z => ?_
  rw [← h4 _ (dlt_per p)]
  unfold NN
  rw [hl]
  exact NN_led hp ht (fun i j hi hj => by rw [hc i j hi hj, Int.emod_emod]; rfl) (dlt_per p) z
/-! ### tables scaled -/
theorem scd_cell {p r : Int} {g : Tb} {i j : Nat} (hi : i < g.length) (hj : j < (g.getD i []).length) : cell (scdM p g r) i j = r * cell g i j % p := by
  unfold cell scdM
  rw [get_map _ g i [] [] hi, get_map _ (g.getD i []) j 0 0 hj]
theorem scd_sq {p : Int} (hp : 0 < p) {g : Tb} (hg : SqOk p g) (r : Int) : SqOk p (scdM p g r) := by
  unfold scdM
  refine ⟨by rw [List.length_map]; exact hg.1, fun row hr => ?_⟩
  obtain ⟨z, hz, rfl⟩ := List.mem_map.mp hr
  rw [List.length_map, List.length_map]
  refine ⟨(hg.2 z hz).1, fun x hx => ?_⟩
  obtain ⟨y, _, rfl⟩ := List.mem_map.mp hx
  exact ⟨Int.emod_nonneg _ (by omega), Int.emod_lt_of_pos _ hp⟩
theorem D_scl {p r : Int} {h : Int → Int} (hh : Per p h) : ∀ (ws : List Int) (y : Int), D p ws (fun y => h (r * y)) y = D p (ws.map fun w => r * w % p) h (r * y)
  | [], _ => rfl
  | w :: ws, y => S_congr fun c _ => by
    rw [D_scl hh ws]
    refine D_per hh _ _ _ ?_
    have e : r * (y - (c : Int) * (c : Int) * w) = r * y - (c : Int) * (c : Int) * (r * w) := by grind
    rw [e]
    exact sub_mod (mul_mm _ _ _)
def sclB : Bool := [3, 5, 7].all fun p => (ups 0 p.toNat).all fun r => (ups 0 p.toNat).all fun w => decide (r = 0) || (decide (w = 0) || (decide (¬ r * w % p = 0) && decide (sgnM p (r * w % p) = sgnM p r * sgnM p w)))
theorem scl_fin {p : Int} (hp : P357 p) {r w : Int} (hr : 0 < r ∧ r < p) (hw : 0 < w ∧ w < p) : ¬ r * w % p = 0 ∧ sgnM p (r * w % p) = sgnM p r * sgnM p w := by
  have h : sclB = true := by decide +kernel
  have h1 := List.all_eq_true.mp h p (by rcases hp with rfl | rfl | rfl <;> decide)
  have h2 := List.all_eq_true.mp (List.all_eq_true.mp h1 r (ups_of (by omega))) w (ups_of (by omega))
  rw [decide_eq_false (show ¬ r = 0 by omega), decide_eq_false (show ¬ w = 0 by omega)] at h2
  have h3 := Bool.and_eq_true_iff.mp (show _ = true from h2)
  exact ⟨of_decide_eq_true h3.1, of_decide_eq_true h3.2⟩
theorem kdW_scl {p : Int} (hp : P357 p) {r : Int} (hr : 0 < r ∧ r < p) : ∀ ws : List Int, Rg p ws → kdW p (ws.map fun w => r * w % p) = ((kdW p ws).1, (kdW p ws).2.1, (kdW p ws).2.2 * (if (kdW p ws).2.1 % 2 = 1 then sgnM p r else 1))
  | [], _ => rfl
  | w :: ws, h => by
    have ih := kdW_scl hp hr ws fun x hx => h x (List.mem_cons_of_mem _ hx)
    have hw := h w (List.mem_cons_self ..)
    have hk : 0 ≤ (kdW p ws).2.1 := by show (0 : Int) ≤ ((ws.filter _).length : Int); omega
    rw [List.map_cons, kdW_cons, ih, kdW_cons]
    unfold stepK
    by_cases q : w = 0
    · subst q
      rw [Int.mul_zero, Int.zero_emod, if_pos rfl, if_pos rfl, if_pos rfl]
    · obtain ⟨f1, f2⟩ := scl_fin hp hr (w := w) (by omega)
      rw [if_neg f1, if_neg f1, if_neg q, if_neg q, f2]
      refine Prod.ext rfl (Prod.ext rfl ?_)
      show (kdW p ws).2.2 * (if (kdW p ws).2.1 % 2 = 1 then sgnM p r else 1) * (sgnM p r * sgnM p w) = (kdW p ws).2.2 * sgnM p w * (if ((kdW p ws).2.1 + 1) % 2 = 1 then sgnM p r else 1)
      have hs : sgnM p r * sgnM p r = 1 := by
        rcases sgn_sg (p := p) (r := r) (by omega) with e | e <;> rw [e] <;> decide
      by_cases q2 : (kdW p ws).2.1 % 2 = 1
      · rw [if_pos q2, if_neg (by omega), Int.mul_one]
        have : (kdW p ws).2.2 * sgnM p r * (sgnM p r * sgnM p w) = (kdW p ws).2.2 * (sgnM p r * sgnM p r) * sgnM p w := by grind
        rw [this, hs, Int.mul_one]
      · rw [if_neg q2, if_pos (by omega), Int.mul_one]
        grind
theorem z_scd {p : Int} (hp : P357 p) {a : Tb} (ha : Sy p a) {r : Int} (hr : 0 < r ∧ r < p) : kindM p (scdM p a r) = ((kindM p a).1, (kindM p a).2.1, (kindM p a).2.2 * (if (kindM p a).2.1 % 2 = 1 then sgnM p r else 1)) := by
  have hpb := hp.b
  have h0 : 0 < p := by omega
  obtain ⟨ws, h1, h2, h3, h4⟩ := kind_D hp ha
  have hl : (scdM p a r).length = a.length := by unfold scdM; rw [List.length_map]
  have hc : ∀ i j, i < a.length → j < a.length → cell (scdM p a r) i j = r * cell a i j % p := fun i j hi hj => scd_cell hi (by rw [(tab_get ha.1.tab hi).1]; exact hj)
  have hSy : Sy p (scdM p a r) := sy_of (scd_sq h0 ha.1 r) fun i j hi hj => by
    rw [hl] at hi hj
    rw [hc i j hi hj, hc j i hj hi, ha.symm i j hi hj]
  rw [kind_eq hp hSy (us := ws.map fun w => r * w % p) (by rw [List.length_map, h2, hl]) (fun w hw => ?_) fun z => ?_, kdW_scl hp hr ws h3, ← h1]
  · obtain ⟨y, _, rfl⟩ := List.mem_map.mp hw
    exact ⟨Int.emod_nonneg _ (by omega), Int.emod_lt_of_pos _ h0⟩
  · -- h(z - r q): the sum over another function
    have hper : Per p fun y => dlt p (z + r * y) := fun x y e => dlt_per p _ _ (by rw [Int.add_emod, Int.mul_emod, e, ← Int.mul_emod, ← Int.add_emod])
    have e1 : NN p (scdM p a r) (dlt p) z = NN p a (fun y => dlt p (z + r * y)) 0 := by
      unfold NN Psi
      rw [hl]
      congr 1
      refine funext fun v => dlt_per p _ _ ?_
      have e2 : B a.length (cell (scdM p a r)) v v % p = (r * B a.length (cell a) v v) % p := by
        have e3 : r * B a.length (cell a) v v = B a.length (fun i j => r * cell a i j) v v := by
          unfold B
          rw [← S_mul]
          refine S_congr fun i _ => ?_
          have e5 : (S a.length fun j => r * cell a i j * v j) = r * S a.length fun j => cell a i j * v j := by
            rw [← S_mul]
            exact S_congr fun j _ => by grind
          rw [e5]
          grind
        rw [e3]
        exact B_mod (fun i j hi hj => by rw [hc i j hi hj, Int.emod_emod]) (fun _ _ => rfl) (fun _ _ => rfl)
      rw [sub_mod (z := z) e2]
      congr 1
      grind
    rw [e1, h4 _ hper]
    have hper2 : Per p fun y => dlt p (z + y) := fun x y e => dlt_per p _ _ (by rw [Int.add_emod, e, ← Int.add_emod])
    have e6 := D_scl (r := r) hper2 ws 0
    rw [show D p ws (fun y => dlt p (z + r * y)) 0 = D p ws (fun y => (fun y => dlt p (z + y)) (r * y)) 0 from rfl, e6, Int.mul_zero]
    have key : ∀ (us : List Int) (y : Int), D p us (fun y => dlt p (z + y)) y = D p us (dlt p) (z + y) := by
      intro us
      induction us with
      | nil => exact fun _ => rfl
      | cons u us ih =>
        intro y
        refine S_congr fun c _ => ?_
        rw [ih]
        congr 1
        omega
    rw [key, Int.add_zero]
/-! ### plain tables -/
theorem pln_len (p : Int) (k : Kd) : (plnM p k).length = k.1.toNat := by unfold plnM; rw [List.length_map, ups_len']
theorem pln_cell {p : Int} {k : Kd} {i j : Nat} (hi : i < k.1.toNat) (hj : j < k.1.toNat) : cell (plnM p k) i j = if i = j then (fullM p k.1 k.2.1 k.2.2).getD i 0 else 0 := by
  unfold cell plnM
  rw [get_map _ _ i [] 0 (by rw [ups_len']; exact hi), get_map _ _ j 0 0 (by rw [ups_len']; exact hj), ups_getD hi, ups_getD hj, Int.toNat_natCast]
  by_cases q : i = j
  · rw [if_pos q, if_pos (by omega)]
  · rw [if_neg q, if_neg (by omega)]
def fullB (z : Int × Kd) : Bool := !Vk z.2 || (decide (kdW z.1 (fullM z.1 z.2.1 z.2.2.1 z.2.2.2) = z.2) && (fullM z.1 z.2.1 z.2.2.1 z.2.2.2).all fun x => decide (0 ≤ x) && decide (x < z.1))
theorem full_all : domK.all fullB = true := by decide +kernel
theorem Psi_diag {p : Int} {n : Nat} {g : Nat → Nat → Int} (hg : Symm n g) (hd : ∀ i j, i < n → j < n → i ≠ j → g i j = 0) {h : Int → Int} (hh : Per p h) : ∀ (l : List Nat), l.Nodup → (∀ a ∈ l, a < n) → ∀ z, Psi p n g (l.map ev) h z = D p (l.map fun a => g a a) h z
  | [], _, _, z => by
    show h (z - B n g _ _) = h z
    have e : B n g (fun _ => 0) (fun _ => 0) = 0 := by
      unfold B
      rw [show (fun i => (0 : Int) * S n fun j => g i j * 0) = fun _ => 0 from funext fun i => Int.zero_mul _]
      exact S_zero _
    rw [e, Int.sub_zero]
  | a :: l, nd, hl, z => by
    have ha := hl a (List.mem_cons_self ..)
    have hB : ∀ x y, x < n → y < n → B n g (ev x) (ev y) = g x y := fun x y hx hy => by
      unfold B
      rw [S_one hx]
      have e : (S n fun j => g x j * ev y j) = S n fun j => ev y j * g x j := S_congr fun j _ => Int.mul_comm _ _
      rw [e, S_one hy]
    show Psi p n g (ev a :: l.map ev) h z = S p.toNat fun c => D p (l.map fun a => g a a) h (z - (c : Int) * (c : Int) * g a a)
    rw [peel hg hh]
    · refine S_congr fun c _ => ?_
      rw [hB a a ha ha, Psi_diag hg hd hh l (List.nodup_cons.mp nd).2 fun x hx => hl x (List.mem_cons_of_mem _ hx)]
    · intro o ho
      obtain ⟨y, hy, rfl⟩ := List.mem_map.mp ho
      have hy' := hl y (List.mem_cons_of_mem _ hy)
      rw [hB y a hy' ha, hd y a hy' ha (fun e => (List.nodup_cons.mp nd).1 (e ▸ hy))]
      rfl
theorem z_pln {p : Int} (hp : P357 p) {k : Kd} (hk : KOk k) (h0 : k.2.1 = 0 → k.2.2 = 1) : kindM p (plnM p k) = k ∧ Sy p (plnM p k) ∧ (plnM p k).length = k.1.toNat := by
  have hpb := hp.b
  have h1 := List.all_eq_true.mp full_all _ (hk.dom hp)
  unfold fullB at h1
  rw [show Vk (p, k).2 = true from vk_of ⟨hk, h0⟩] at h1
  obtain ⟨h2, h3⟩ := Bool.and_eq_true_iff.mp (show _ = true from h1)
  have h2 : kdW p (fullM p k.1 k.2.1 k.2.2) = k := of_decide_eq_true h2
  have hr : Rg p (fullM p k.1 k.2.1 k.2.2) := fun w hw => by
    have := List.all_eq_true.mp h3 w hw
    obtain ⟨a1, a2⟩ := Bool.and_eq_true_iff.mp this
    exact ⟨of_decide_eq_true a1, of_decide_eq_true a2⟩
  have hfl := full_len (p := p) (sign := k.2.2) ⟨hk.1.1, hk.1.2.1⟩
  have hl := pln_len p k
  have hS : SqOk p (plnM p k) := by
    refine ⟨by rw [hl]; have := hk.1; omega, fun row hrow => ?_⟩
    rw [hl]
    unfold plnM at hrow
    obtain ⟨a, _, rfl⟩ := List.mem_map.mp hrow
    refine ⟨by rw [List.length_map, ups_len'], fun x hx => ?_⟩
    obtain ⟨t, _, rfl⟩ := List.mem_map.mp hx
    by_cases q : a = t
    · rw [if_pos q]
      by_cases q2 : a.toNat < (fullM p k.1 k.2.1 k.2.2).length
      · rw [List.getD_eq_getElem?_getD, List.getElem?_eq_getElem q2]
        exact hr _ (List.getElem_mem _)
      · rw [get_none _ _ _ (by omega)]
        omega
    · rw [if_neg q]
      omega
  have hsy : Symm (plnM p k).length (cell (plnM p k)) := fun i j hi hj => by
    rw [hl] at hi hj
    rw [pln_cell hi hj, pln_cell hj hi]
    by_cases q : i = j
    · subst q
      rfl
    · rw [if_neg q, if_neg fun e => q e.symm]
  have hSy := sy_of hS hsy
  refine ⟨?_, hSy, hl⟩
  rw [kind_eq hp hSy (us := fullM p k.1 k.2.1 k.2.2) (by rw [hfl, hl]) hr fun z => ?_, h2]
  unfold NN
  rw [Psi_diag hsy (fun i j hi hj hij => by rw [hl] at hi hj; rw [pln_cell hi hj, if_neg hij]) (dlt_per p) _ List.nodup_range (fun a ha => List.mem_range.mp ha)]
  congr 1
  refine List.ext_getElem (by rw [List.length_map, List.length_range, hl, hfl]) fun i hi hi' => ?_
  rw [List.getElem_map, List.getElem_range]
  rw [List.length_map, List.length_range, hl] at hi
  rw [pln_cell hi hi, if_pos rfl, List.getD_eq_getElem?_getD, List.getElem?_eq_getElem hi']
  rfl
end K06
/-! ==== MX ==== -/
set_option linter.all false
set_option maxRecDepth 100000
set_option maxHeartbeats 4000000
namespace K06
/-! ### counts folded -/
theorem sum_ups (n : Nat) (f : Int → Int) : ((ups 0 n).map f).sum = S n fun i => f (i : Int) := by
  induction n with
  | zero => rfl
  | succ n ih =>
    rw [ups_succ, List.map_append, List.sum_append, ih]
    show _ + (f ((0 : Int) + (n : Int)) + 0) = S n _ + f (n : Int)
    rw [Int.add_zero, Int.zero_add]
theorem S_dlt {p : Int} (hp : 0 < p) (f : Nat → Int) : (S p.toNat fun r => dlt p (r : Int) * f r) = f 0 := by
  have key : ∀ n : Nat, 0 < n → (n : Int) ≤ p → (S n fun r => dlt p (r : Int) * f r) = f 0 := by
    intro n
    induction n with
    | zero => intro h; omega
    | succ n ih =>
      intro _ hn
      show S n _ + dlt p (n : Int) * f n = f 0
      by_cases q : n = 0
      · subst q
        show 0 + dlt p ((0 : Nat) : Int) * f 0 = f 0
        have : dlt p ((0 : Nat) : Int) = 1 := by unfold dlt; rw [if_pos (by simp)]
        rw [this]
        omega
      · rw [ih (by omega) (by omega)]
        have : dlt p (n : Int) = 0 := by
          unfold dlt
          rw [if_neg]
          rw [Int.emod_eq_of_lt (by omega) (by omega)]
          omega
        rw [this]
        omega
  exact key p.toNat (by omega) (by omega)
theorem D_conv {p : Int} (hp : 0 < p) {h : Int → Int} (hh : Per p h) : ∀ (us : List Int) (z : Int), D p us h z = S p.toNat fun r => D p us (dlt p) (r : Int) * h (z - (r : Int))
  | [], z => by
    show h z = S p.toNat fun r => dlt p (r : Int) * h (z - (r : Int))
    rw [S_dlt hp fun r => h (z - (r : Int))]
    show h z = h (z - ((0 : Nat) : Int))
    congr 1
    omega
  | u :: us, z => by
    show (S p.toNat fun c => D p us h (z - (c : Int) * (c : Int) * u)) = S p.toNat fun r => (S p.toNat fun c => D p us (dlt p) ((r : Int) - (c : Int) * (c : Int) * u)) * h (z - (r : Int))
    have e1 : (S p.toNat fun r => (S p.toNat fun c => D p us (dlt p) ((r : Int) - (c : Int) * (c : Int) * u)) * h (z - (r : Int))) = S p.toNat fun c => S p.toNat fun r => D p us (dlt p) ((r : Int) - (c : Int) * (c : Int) * u) * h (z - (r : Int)) := by
      rw [S_swap]
      refine S_congr fun r _ => ?_
      rw [Int.mul_comm, ← S_mul]
      exact S_congr fun c _ => Int.mul_comm _ _
    rw [e1]
    refine S_congr fun c _ => ?_
    rw [D_conv hp hh us]
    have hφ : Per p fun x => D p us (dlt p) (x - (c : Int) * (c : Int) * u) * h (z - x) := fun x y e => by
      show D p us (dlt p) (x - _) * h (z - x) = D p us (dlt p) (y - _) * h (z - y)
      rw [D_per (dlt_per p) us _ _ (sub_modl e), hh _ _ (sub_mod e)]
    rw [← S_shift hp hφ ((c : Int) * (c : Int) * u)]
    refine S_congr fun r _ => ?_
    show _ = D p us (dlt p) ((r : Int) + (c : Int) * (c : Int) * u - (c : Int) * (c : Int) * u) * h (z - ((r : Int) + (c : Int) * (c : Int) * u))
    congr 1
    · congr 1
      omega
    · congr 1
      omega
theorem cts_len (p : Int) (k : Kd) : (ctsK p k).length = p.toNat := by unfold ctsK; rw [List.length_map, ups_len']
theorem cts_get {p : Int} (hp : 0 < p) {k : Kd} {i : Nat} (hi : i < p.toNat) : (ctsK p k).getD i 0 = ctsF p k i := by
  unfold ctsK ctsF
  rw [get_map _ _ i 0 0 (by rw [ups_len']; exact hi), ups_getD hi, Int.emod_eq_of_lt (by omega) (by omega)]
theorem z_fold {p : Int} (hp : P357 p) {a b : Tb} (ha : Sy p a) (hb : Sy p b) (h : a.length + b.length ≤ 6) : ctsK p (addK (kindM p a) (kindM p b)) = foldM p (ctsK p (kindM p a)) (ctsK p (kindM p b)) := by
  have hpb := hp.b
  have h0 : 0 < p := by omega
  obtain ⟨us, h1, h2, h3, _⟩ := kind_D hp ha
  obtain ⟨ws, h5, h6, h7, _⟩ := kind_D hp hb
  have e : addK (kindM p a) (kindM p b) = kdW p (us ++ ws) := by rw [kdW_app, ← h1, ← h5]; rfl
  have hl : (foldM p (ctsK p (kindM p a)) (ctsK p (kindM p b))).length = p.toNat := by unfold foldM; rw [List.length_map, ups_len']
  refine List.ext_getElem (by rw [cts_len, hl]) fun i hi hi' => ?_
  have hip : i < p.toNat := by rw [← hl]; exact hi'
  have e1 : (ctsK p (addK (kindM p a) (kindM p b)))[i] = ctsF p (addK (kindM p a) (kindM p b)) i := by
    rw [← cts_get h0 hip, List.getD_eq_getElem?_getD, List.getElem?_eq_getElem hi]
    rfl
  have e2 : (foldM p (ctsK p (kindM p a)) (ctsK p (kindM p b)))[i] = S p.toNat fun r => ctsF p (kindM p a) (r : Int) * ctsF p (kindM p b) ((i : Int) - (r : Int)) := by
    have e3 : (foldM p (ctsK p (kindM p a)) (ctsK p (kindM p b)))[i] = (foldM p (ctsK p (kindM p a)) (ctsK p (kindM p b))).getD i 0 := by
      rw [List.getD_eq_getElem?_getD, List.getElem?_eq_getElem hi']
      rfl
    rw [e3]
    unfold foldM
    rw [get_map _ _ i 0 0 (by rw [ups_len']; exact hip), ups_getD hip, sum_ups]
    refine S_congr fun r hr => ?_
    rw [Int.toNat_natCast, cts_get h0 hr]
    have m1 := Int.emod_nonneg ((i : Int) - (r : Int)) (show p ≠ 0 by omega)
    have m2 := Int.emod_lt_of_pos ((i : Int) - (r : Int)) h0
    rw [cts_get h0 (by omega)]
    congr 1
    exact ctsF_per p _ _ _ (by
      have : ((((i : Int) - (r : Int)) % p).toNat : Int) = ((i : Int) - (r : Int)) % p := by omega
      rw [this, Int.emod_emod])
  rw [e1, e2, e, ← D_cts hp (us ++ ws) (by rw [List.length_append]; omega) (fun w hw => (List.mem_append.mp hw).elim (h3 w) (h7 w)), D_app, D_conv h0 (D_per (dlt_per p) ws)]
  refine S_congr fun r _ => ?_
  have hl1 := ha.1.1
  have hl2 := hb.1.1
  rw [D_cts hp us (by omega) h3, D_cts hp ws (by omega) h7, h1, h5]
def ctsB (z : Int × Kd) : Bool := decide (z.2.1 < z.2.2.1) || (ctsK z.1 z.2).all fun x => decide (-1000000000000 ≤ x) && decide (x ≤ 1000000000000)
theorem cts_all : domK.all ctsB = true := by decide +kernel
theorem z_cts {p : Int} (hp : P357 p) {k : Kd} (hk : KOk k) : (ctsK p k).length = p.toNat ∧ ∀ x ∈ ctsK p k, -1000000000000 ≤ x ∧ x ≤ 1000000000000 := by
  refine ⟨cts_len p k, fun x hx => ?_⟩
  have h1 := List.all_eq_true.mp cts_all _ (hk.dom hp)
  have h2 := hk.1
  rcases Bool.or_eq_true_iff.mp h1 with h3 | h3
  · have : k.1 < k.2.1 := of_decide_eq_true h3
    omega
  · obtain ⟨a1, a2⟩ := Bool.and_eq_true_iff.mp (List.all_eq_true.mp h3 x hx)
    exact ⟨of_decide_eq_true a1, of_decide_eq_true a2⟩
theorem steps_zero {p : Int} : ∀ (as : List Int) (rows found : Tb), (∀ row ∈ rows, ∀ c, row.getD c 0 = 0) → as.foldl (stepM p) (rows, found) = (rows, found)
  | [], _, _, _ => rfl
  | a :: as, rows, found, h => by
    rw [List.foldl_cons, step_nil]
    · exact steps_zero as rows found h
    · rw [List.filter_eq_nil_iff]
      intro row hr
      rw [h row hr]
      decide
theorem z_zero {p : Int} (hp : 0 < p) {a : Tb} (ha : SqOk p a) : (stM p (scdM p a 0)).length = 0 := by
  unfold stM
  rw [steps_zero]
  · rfl
  · intro row hr c
    unfold scdM at hr
    obtain ⟨z, _, rfl⟩ := List.mem_map.mp hr
    by_cases q : c < z.length
    · rw [get_map _ z c 0 0 q, Int.zero_mul, Int.zero_emod]
    · exact get_none _ _ _ (by rw [List.length_map]; omega)
end K06
/-! ==== MY ==== -/
set_option linter.all false
set_option maxRecDepth 100000
set_option maxHeartbeats 4000000
namespace K06
/-! ### the steps of tables side by side -/
def zr (n : Nat) : Rw := List.replicate n 0
def padR (n : Nat) (t : Tb) : Tb := t.map fun row => row ++ zr n
def padL (m : Nat) (t : Tb) : Tb := t.map fun row => zr m ++ row
theorem zr_ok {p : Int} (hp : 0 < p) (n : Nat) : RowOk p n (zr n) := ⟨List.length_replicate, fun x hx => by rw [(List.mem_replicate.mp hx).2]; omega⟩
theorem zr_len (n : Nat) : (zr n).length = n := List.length_replicate
theorem row_app {p : Int} {m n : Nat} {x y : Rw} (hx : RowOk p m x) (hy : RowOk p n y) : RowOk p (m + n) (x ++ y) := ⟨by rw [List.length_append, hx.1, hy.1], fun z hz => (List.mem_append.mp hz).elim (hx.2 z) (hy.2 z)⟩
theorem padR_ok {p : Int} (hp : 0 < p) {m n : Nat} {t : Tb} (h : TabOk p m t) : TabOk p (m + n) (padR n t) := fun row hr => by
  obtain ⟨z, hz, rfl⟩ := List.mem_map.mp hr
  exact row_app (h z hz) (zr_ok hp n)
theorem padL_ok {p : Int} (hp : 0 < p) {m n : Nat} {t : Tb} (h : TabOk p n t) : TabOk p (m + n) (padL m t) := fun row hr => by
  obtain ⟨z, hz, rfl⟩ := List.mem_map.mp hr
  exact row_app (zr_ok hp m) (h z hz)
theorem tab_app {p : Int} {n : Nat} {s t : Tb} (hs : TabOk p n s) (ht : TabOk p n t) : TabOk p n (s ++ t) := fun row hr => (List.mem_append.mp hr).elim (hs row) (ht row)
theorem sum_app (p r : Int) {x1 x2 y1 y2 : Rw} (h : x1.length = y1.length) : sumM p (x1 ++ x2) (y1 ++ y2) r = sumM p x1 y1 r ++ sumM p x2 y2 r := by
  unfold sumM
  rw [List.zip_append h, List.map_append]
theorem sum_id {p : Int} (f : Int × Int → Int) : ∀ (x y : Rw), x.length = y.length → (∀ z ∈ x.zip y, f z = z.1) → (x.zip y).map f = x
  | [], [], _, _ => rfl
  | a :: x, b :: y, h, hf => by
    rw [List.zip_cons_cons, List.map_cons, hf (a, b) (List.mem_cons_self ..), sum_id (p := p) f x y (by simpa using h) fun z hz => hf z (List.mem_cons_of_mem _ hz)]
theorem sum_0 {p : Int} {n : Nat} {x y : Rw} (hx : RowOk p n x) (hy : y.length = n) : sumM p x y 0 = x := by
  refine sum_id (p := p) _ x y (by rw [hx.1, hy]) fun z hz => ?_
  have := hx.2 _ (List.of_mem_zip (show (z.1, z.2) ∈ x.zip y from hz)).1
  show (z.1 + 0 * z.2) % p = z.1
  rw [Int.zero_mul, Int.add_zero, Int.emod_eq_of_lt this.1 this.2]
theorem sum_z {p : Int} {n : Nat} {x : Rw} (hx : RowOk p n x) (r : Int) : sumM p x (zr n) r = x := by
  refine sum_id (p := p) _ x _ (by rw [hx.1, zr_len]) fun z hz => ?_
  have hm := List.of_mem_zip (show (z.1, z.2) ∈ x.zip (zr n) from hz)
  have := hx.2 _ hm.1
  show (z.1 + r * z.2) % p = z.1
  rw [(List.mem_replicate.mp hm.2).2, Int.mul_zero, Int.add_zero, Int.emod_eq_of_lt this.1 this.2]
theorem scl_app (p r : Int) (x y : Rw) : sclM p (x ++ y) r = sclM p x r ++ sclM p y r := by
  unfold sclM
  rw [List.map_append]
theorem scl_zr (p r : Int) (n : Nat) : sclM p (zr n) r = zr n := by
  unfold sclM zr
  rw [List.map_replicate, Int.mul_zero, Int.zero_emod]
theorem zr_get (n i : Nat) : (zr n).getD i 0 = 0 := getD_rep0 n i
theorem any_app (x y : Rw) : anyM (x ++ y) = (anyM x || anyM y) := by unfold anyM; rw [List.any_append]
theorem any_zr (n : Nat) : anyM (zr n) = false := by
  unfold anyM
  rw [List.any_eq_false]
  intro x hx
  rw [(List.mem_replicate.mp hx).2]
  decide
theorem any_R (n : Nat) (x : Rw) : anyM (x ++ zr n) = anyM x := by rw [any_app, any_zr, Bool.or_false]
theorem any_L (m : Nat) (x : Rw) : anyM (zr m ++ x) = anyM x := by rw [any_app, any_zr, Bool.false_or]
theorem any_of {x : Rw} {c : Nat} (h : x.getD c 0 ≠ 0) : anyM x = true := by
  unfold anyM
  rw [List.any_eq_true]
  by_cases q : c < x.length
  · refine ⟨x[c], List.getElem_mem q, ?_⟩
    rw [List.getD_eq_getElem?_getD, List.getElem?_eq_getElem q] at h
    simpa using h
  · exact absurd (get_none _ _ _ (by omega)) h
theorem padR_any (n : Nat) (t : Tb) : (padR n t).filter anyM = padR n (t.filter anyM) := by
  unfold padR
  rw [List.filter_map]
  congr 1
  exact List.filter_congr fun x _ => any_R n x
theorem padL_any (m : Nat) (t : Tb) : (padL m t).filter anyM = padL m (t.filter anyM) := by
  unfold padL
  rw [List.filter_map]
  congr 1
  exact List.filter_congr fun x _ => any_L m x
section
variable {p : Int} (hp : 0 < p) {m n : Nat} {f h b : Rw}
theorem wth_1 (hf : f.length = m) (hh : h.length = m) {c : Int} (hc : 0 ≤ c ∧ c < m) : wthM p (f ++ zr n) (h ++ zr n) c = wthM p f h c ++ zr n := by
  unfold wthM
  rw [sum_app p _ (by rw [hf, hh]), getD_app1 _ _ _ _ (by omega)]
  congr 1
  unfold sumM zr
  rw [List.zip_replicate, List.map_replicate]
  simp
include hp in
theorem wth_2 (hh : h.length = m) (hb : RowOk p n b) {c : Int} (hc : 0 ≤ c ∧ c < m) : wthM p (zr m ++ b) (h ++ zr n) c = zr m ++ b := by
  unfold wthM
  rw [sum_app p _ (by rw [zr_len, hh]), getD_app1 _ _ _ _ (by rw [zr_len]; omega), zr_get, Int.sub_zero, sum_0 (zr_ok hp m) hh, sum_z hb]
theorem wth_3 (hb : b.length = n) (hh : h.length = n) {c : Int} (hc : 0 ≤ c) : wthM p (zr m ++ b) (zr m ++ h) ((m : Int) + c) = zr m ++ wthM p b h c := by
  have e : ((m : Int) + c).toNat = (zr m).length + c.toNat := by rw [zr_len]; omega
  unfold wthM
  rw [sum_app p _ rfl, e, getD_app2]
  congr 1
  unfold sumM zr
  rw [List.zip_replicate, List.map_replicate]
  simp
include hp in
theorem wth_4 (hf : RowOk p m f) (hh : h.length = n) {c : Int} (hc : 0 ≤ c) : wthM p (f ++ zr n) (zr m ++ h) ((m : Int) + c) = f ++ zr n := by
  have e : ((m : Int) + c).toNat = f.length + c.toNat := by rw [hf.1]; omega
  unfold wthM
  rw [sum_app p _ (by rw [hf.1, zr_len]), e, getD_app2, zr_get, Int.sub_zero, sum_z hf, sum_0 (zr_ok hp n) hh]
end
/-- rows of noughts left out -/
def Nn (s : Tb × Tb) : Tb × Tb := (s.1.filter anyM, s.2)
theorem filt2 (l : Tb) : (l.filter anyM).filter anyM = l.filter anyM := by
  rw [List.filter_filter]
  exact List.filter_congr fun x _ => Bool.and_self _
theorem heads_any (l : Tb) (c : Nat) : (l.filter anyM).filter (fun row => !decide (row.getD c 0 = 0)) = l.filter fun row => !decide (row.getD c 0 = 0) := by
  rw [List.filter_filter]
  refine List.filter_congr fun x _ => ?_
  by_cases q : x.getD c 0 = 0
  · rw [decide_eq_true q]
    rfl
  · rw [decide_eq_false q, any_of q]
    rfl
theorem map_any {p : Int} {w : Nat} {H : Rw} (hH : H.length = w) (c : Int) : ∀ (l : Tb), TabOk p w l → (l.map fun row => wthM p row H c).filter anyM = ((l.filter anyM).map fun row => wthM p row H c).filter anyM
  | [], _ => rfl
  | x :: l, h => by
    have ih := map_any hH c l fun r hr => h r (List.mem_cons_of_mem _ hr)
    have hx := h x (List.mem_cons_self ..)
    cases q : anyM x with
    | true =>
      rw [List.filter_cons_of_pos q, List.map_cons, List.map_cons, List.filter_cons, List.filter_cons, ih]
    | false =>
      have e0 : x.getD c.toNat 0 = 0 := by
        by_cases q2 : x.getD c.toNat 0 = 0
        · exact q2
        · rw [any_of q2] at q
          cases q
      have e : wthM p x H c = x := by
        unfold wthM
        rw [e0, Int.sub_zero, sum_0 hx hH]
      rw [List.filter_cons_of_neg (by rw [q]; decide), List.map_cons, e, List.filter_cons_of_neg (by rw [q]; decide), ih]
theorem step_N {p : Int} (hp : 0 < p) {w : Nat} {s : Tb × Tb} (h1 : TabOk p w s.1) (c : Int) : Nn (stepM p s c) = Nn (stepM p (Nn s) c) := by
  cases e : s.1.filter fun row => !decide (row.getD c.toNat 0 = 0) with
  | nil =>
    rw [step_nil e, step_nil (s := Nn s) (by show (s.1.filter anyM).filter _ = []; rw [heads_any]; exact e)]
    unfold Nn
    rw [filt2]
  | cons h t =>
    have hm := (List.mem_filter.mp (show h ∈ s.1.filter _ by rw [e]; exact List.mem_cons_self ..)).1
    have hH := scl_ok hp (r := undM p (h.getD c.toNat 0)) (h1 h hm).1
    rw [step_cons e, step_cons (s := Nn s) (h := h) (t := t) (by show (s.1.filter anyM).filter _ = _; rw [heads_any]; exact e)]
    unfold Nn
    rw [map_any hH.1 c s.1 h1]
theorem step_cg {p : Int} (hp : 0 < p) {w : Nat} {s s' : Tb × Tb} (h1 : TabOk p w s.1) (h2 : TabOk p w s'.1) (h : Nn s = Nn s') (c : Int) : Nn (stepM p s c) = Nn (stepM p s' c) := by
  rw [step_N hp h1, h, ← step_N hp h2]
section
variable {p : Int} (hp : 0 < p) {m n : Nat}
include hp
theorem phase1 {LA FA LB : Tb} (h1 : TabOk p m LA) (h2 : TabOk p m FA) (h3 : TabOk p n LB) {c : Int} (hc : 0 ≤ c ∧ c < m) :
    Nn (stepM p (padR n LA ++ padL m LB, padR n FA) c) = Nn (padR n (stepM p (LA, FA) c).1 ++ padL m LB, padR n (stepM p (LA, FA) c).2) := by
  have e1 : (padR n LA).filter (fun row => !decide (row.getD c.toNat 0 = 0)) = padR n (LA.filter fun row => !decide (row.getD c.toNat 0 = 0)) := by
    unfold padR
    rw [List.filter_map]
    congr 1
    refine List.filter_congr fun x hx => ?_
    show (!decide ((x ++ zr n).getD c.toNat 0 = 0)) = _
    rw [getD_app1 _ _ _ _ (by rw [(h1 x hx).1]; omega)]
  have e2 : (padL m LB).filter (fun row => !decide (row.getD c.toNat 0 = 0)) = [] := by
    rw [List.filter_eq_nil_iff]
    intro row hr
    obtain ⟨z, _, rfl⟩ := List.mem_map.mp hr
    rw [getD_app1 _ _ _ _ (by rw [zr_len]; omega), zr_get]
    decide
  cases e : LA.filter fun row => !decide (row.getD c.toNat 0 = 0) with
  | nil =>
    rw [step_nil (s := (LA, FA)) e, step_nil (s := (padR n LA ++ padL m LB, padR n FA)) (by show (padR n LA ++ padL m LB).filter _ = []; rw [List.filter_append, e1, e2, e]; rfl)]
  | cons h t =>
    have hm := (List.mem_filter.mp (show h ∈ LA.filter _ by rw [e]; exact List.mem_cons_self ..)).1
    have hh := h1 h hm
    rw [step_cons (s := (LA, FA)) e, step_cons (s := (padR n LA ++ padL m LB, padR n FA)) (h := h ++ zr n) (t := padR n t) (by show (padR n LA ++ padL m LB).filter _ = _; rw [List.filter_append, e1, e2, e, List.append_nil]; rfl)]
    rw [getD_app1 _ _ _ _ (by rw [hh.1]; omega), scl_app, scl_zr]
    have hH := scl_ok hp (r := undM p (h.getD c.toNat 0)) hh.1
    generalize sclM p h (undM p (h.getD c.toNat 0)) = H at hH
    have m1 : ∀ {l : Tb}, TabOk p m l → (padR n l).map (fun row => wthM p row (H ++ zr n) c) = padR n (l.map fun row => wthM p row H c) := fun {l} hl => by
      unfold padR
      rw [List.map_map, List.map_map]
      exact List.map_congr_left fun x hx => wth_1 (hl x hx).1 hH.1 hc
    have m2 : (padL m LB).map (fun row => wthM p row (H ++ zr n) c) = padL m LB := by
      unfold padL
      rw [List.map_map]
      exact List.map_congr_left fun x hx => wth_2 hp hH.1 (h3 x hx) hc
    show Nn (((padR n LA ++ padL m LB).map _).filter anyM, (padR n FA).map _ ++ [H ++ zr n]) = Nn (padR n ((LA.map _).filter anyM) ++ padL m LB, padR n (FA.map _ ++ [H]))
    rw [List.map_append, m1 h1, m1 h2, m2]
    refine Prod.ext ?_ ?_
    · show ((_ : Tb).filter anyM).filter anyM = (_ : Tb).filter anyM
      rw [filt2, List.filter_append, List.filter_append, padR_any, padR_any, filt2]
    · show padR n _ ++ [H ++ zr n] = padR n (_ ++ [H])
      unfold padR
      rw [List.map_append]
      rfl
theorem phase2 {LB FA FB : Tb} (h1 : TabOk p n LB) (h2 : TabOk p m FA) (h3 : TabOk p n FB) {c : Int} (hc : 0 ≤ c ∧ c < n) :
    stepM p (padL m LB, padR n FA ++ padL m FB) ((m : Int) + c) = (padL m (stepM p (LB, FB) c).1, padR n FA ++ padL m (stepM p (LB, FB) c).2) := by
  have ec : ∀ x : Rw, (zr m ++ x).getD ((m : Int) + c).toNat 0 = x.getD c.toNat 0 := fun x => by
    have e : ((m : Int) + c).toNat = (zr m).length + c.toNat := by rw [zr_len]; omega
    rw [e, getD_app2]
  have e1 : (padL m LB).filter (fun row => !decide (row.getD ((m : Int) + c).toNat 0 = 0)) = padL m (LB.filter fun row => !decide (row.getD c.toNat 0 = 0)) := by
    unfold padL
    rw [List.filter_map]
    congr 1
    refine List.filter_congr fun x hx => ?_
    show (!decide ((zr m ++ x).getD _ 0 = 0)) = _
    rw [ec]
  cases e : LB.filter fun row => !decide (row.getD c.toNat 0 = 0) with
  | nil =>
    rw [step_nil (s := (LB, FB)) e, step_nil (s := (padL m LB, padR n FA ++ padL m FB)) (by show (padL m LB).filter _ = []; rw [e1, e]; rfl)]
  | cons h t =>
    have hm := (List.mem_filter.mp (show h ∈ LB.filter _ by rw [e]; exact List.mem_cons_self ..)).1
    have hh := h1 h hm
    rw [step_cons (s := (LB, FB)) e, step_cons (s := (padL m LB, padR n FA ++ padL m FB)) (h := zr m ++ h) (t := padL m t) (by show (padL m LB).filter _ = _; rw [e1, e]; rfl)]
    rw [ec, scl_app, scl_zr]
    have hH := scl_ok hp (r := undM p (h.getD c.toNat 0)) hh.1
    generalize sclM p h (undM p (h.getD c.toNat 0)) = H at hH
    have m1 : ∀ {l : Tb}, TabOk p n l → (padL m l).map (fun row => wthM p row (zr m ++ H) ((m : Int) + c)) = padL m (l.map fun row => wthM p row H c) := fun {l} hl => by
      unfold padL
      rw [List.map_map, List.map_map]
      exact List.map_congr_left fun x hx => wth_3 (hl x hx).1 hH.1 hc.1
    have m2 : (padR n FA).map (fun row => wthM p row (zr m ++ H) ((m : Int) + c)) = padR n FA := by
      unfold padR
      rw [List.map_map]
      exact List.map_congr_left fun x hx => wth_4 hp (h2 x hx) hH.1 hc.1
    show (((padL m LB).map _).filter anyM, (padR n FA ++ padL m FB).map _ ++ [zr m ++ H]) = (padL m ((LB.map _).filter anyM), padR n FA ++ padL m (FB.map _ ++ [H]))
    rw [List.map_append, m1 h1, m1 h3, m2, padL_any]
    refine Prod.ext rfl ?_
    show padR n FA ++ padL m _ ++ [zr m ++ H] = padR n FA ++ padL m (_ ++ [H])
    unfold padL
    rw [List.map_append, List.append_assoc]
    rfl
theorem run1 {B : Tb} (hB : TabOk p n B) : ∀ (cs : List Int), (∀ c ∈ cs, 0 ≤ c ∧ c < (m : Int)) → ∀ (LA FA : Tb) (s : Tb × Tb), TabOk p m LA → TabOk p m FA → TabOk p (m + n) s.1 → TabOk p (m + n) s.2 → Nn s = Nn (padR n LA ++ padL m B, padR n FA) →
    Nn (cs.foldl (stepM p) s) = Nn (padR n (cs.foldl (stepM p) (LA, FA)).1 ++ padL m B, padR n (cs.foldl (stepM p) (LA, FA)).2)
  | [], _, _, _, _, _, _, _, _, h => h
  | c :: cs, hc, LA, FA, s, h1, h2, h3, h4, h => by
    have k := step_ok hp (a := c) (s := (LA, FA)) ⟨h1, h2⟩
    have k2 := step_ok hp (a := c) ⟨h3, h4⟩
    have hcc := hc c (List.mem_cons_self ..)
    exact run1 hB cs (fun x hx => hc x (List.mem_cons_of_mem _ hx)) (stepM p (LA, FA) c).1 (stepM p (LA, FA) c).2 (stepM p s c) k.1 k.2 k2.1 k2.2 (by
      rw [step_cg hp h3 (s' := (padR n LA ++ padL m B, padR n FA)) (tab_app (padR_ok hp h1) (padL_ok hp hB)) h c]
      exact phase1 hp h1 h2 hB hcc)
theorem run2 {FA : Tb} (hA : TabOk p m FA) : ∀ (cs : List Int), (∀ c ∈ cs, 0 ≤ c ∧ c < (n : Int)) → ∀ (LB FB : Tb), TabOk p n LB → TabOk p n FB →
    (cs.map fun c => (m : Int) + c).foldl (stepM p) (padL m LB, padR n FA ++ padL m FB) = (padL m (cs.foldl (stepM p) (LB, FB)).1, padR n FA ++ padL m (cs.foldl (stepM p) (LB, FB)).2)
  | [], _, _, _, _, _ => rfl
  | c :: cs, hc, LB, FB, h1, h2 => by
    have k := step_ok hp (a := c) (s := (LB, FB)) ⟨h1, h2⟩
    rw [List.map_cons, List.foldl_cons, phase2 hp h1 hA h2 (hc c (List.mem_cons_self ..))]
    exact run2 hA cs (fun x hx => hc x (List.mem_cons_of_mem _ hx)) _ _ k.1 k.2
theorem run_cg {w : Nat} : ∀ (cs : List Int) (s s' : Tb × Tb), TabOk p w s.1 → TabOk p w s.2 → TabOk p w s'.1 → TabOk p w s'.2 → Nn s = Nn s' → Nn (cs.foldl (stepM p) s) = Nn (cs.foldl (stepM p) s')
  | [], _, _, _, _, _, _, h => h
  | c :: cs, s, s', h1, h2, h3, h4, h => run_cg cs _ _ (step_ok hp ⟨h1, h2⟩).1 (step_ok hp ⟨h1, h2⟩).2 (step_ok hp ⟨h3, h4⟩).1 (step_ok hp ⟨h3, h4⟩).2 (step_cg hp h1 h3 h c)
end
theorem st_wid {p : Int} {w : Nat} {t : Tb} (h : TabOk p w t) : stM p t = ((ups 0 w).foldl (stepM p) (t, [])).2 := by
  cases t with
  | nil =>
    unfold stM
    have hz : ∀ row ∈ ([] : Tb), ∀ c, row.getD c 0 = 0 := fun row h => nomatch h
    rw [steps_zero _ [] [] hz, steps_zero _ [] [] hz]
  | cons x xs =>
    have e : (widM (x :: xs)).toNat = w := by
      unfold widM
      have := (h x (List.mem_cons_self ..)).1
      show (if ((xs.length + 1 : Nat) : Int) > 0 then (x.length : Int) else 0).toNat = w
      rw [if_pos (by omega)]
      omega
    unfold stM
    rw [e]
theorem ups_mem' {n : Nat} {x : Int} (h : x ∈ ups 0 n) : 0 ≤ x ∧ x < n := by
  unfold ups at h
  obtain ⟨i, hi, e⟩ := List.mem_map.mp h
  have := List.mem_range.mp hi
  omega
theorem ups_split (m n : Nat) : ups 0 (m + n) = ups 0 m ++ (ups 0 n).map fun c => (m : Int) + c := by
  unfold ups
  rw [List.range_add, List.map_append, List.map_map, List.map_map]
  congr 1
  exact List.map_congr_left fun i _ => by show (0 : Int) + ((m + i : Nat) : Int) = (m : Int) + (0 + (i : Int)); omega
/-- steps of a table beside a table -/
theorem st_block {p : Int} (hp : P357 p) {m n : Nat} {tA tB : Tb} (hA : TabOk p m tA) (hB : TabOk p n tB) : stM p (padR n tA ++ padL m tB) = padR n (stM p tA) ++ padL m (stM p tB) := by
  have h0 : 0 < p := by have := hp.b; omega
  rw [st_wid (tab_app (padR_ok h0 hA) (padL_ok h0 hB)), st_wid hA, st_wid hB, ups_split, List.foldl_append]
  have hnil : ∀ {w : Nat}, TabOk p w [] := fun _ h => nomatch h
  have e1 := run1 h0 hB (ups 0 m) (fun c hc => ups_mem' hc) tA [] (padR n tA ++ padL m tB, []) hA hnil (tab_app (padR_ok h0 hA) (padL_ok h0 hB)) hnil rfl
  have ok := steps_ok h0 (ups 0 m) (tA, []) ⟨hA, hnil⟩
  have okS := steps_ok h0 (n := m + n) (ups 0 m) (padR n tA ++ padL m tB, []) ⟨tab_app (padR_ok h0 hA) (padL_ok h0 hB), hnil⟩
  have ld := lead_all hp hA m (Nat.le_refl _)
  have hz : ((ups 0 m).foldl (stepM p) (tA, [])).1.filter anyM = [] := by
    rw [List.filter_eq_nil_iff]
    intro row hr
    have h1 := ok.1 row hr
    have h2 := ld.2.1 row hr
    have e : row = zr m := List.ext_getElem (by rw [h1.1, zr_len]) fun i hi hi' => by
      have h3 := h2 i (by rw [← h1.1]; exact hi)
      rw [List.getD_eq_getElem?_getD, List.getElem?_eq_getElem hi] at h3
      have h4 := zr_get m i
      rw [List.getD_eq_getElem?_getD, List.getElem?_eq_getElem hi'] at h4
      exact h3.trans h4.symm
    rw [e, any_zr]
    decide
  have e2 : Nn ((ups 0 m).foldl (stepM p) (padR n tA ++ padL m tB, [])) = Nn (padL m tB, padR n ((ups 0 m).foldl (stepM p) (tA, [])).2 ++ padL m []) := by
    rw [e1]
    refine Prod.ext ?_ ?_
    · show (_ ++ _ : Tb).filter anyM = (padL m tB).filter anyM
      rw [List.filter_append, padR_any, hz]
      rfl
    · show padR n _ = padR n _ ++ []
      rw [List.append_nil]
  have e3 := run_cg h0 ((ups 0 n).map fun c => (m : Int) + c) _ _ okS.1 okS.2 (padL_ok h0 hB) (tab_app (padR_ok h0 ok.2) (padL_ok h0 hnil)) e2
  rw [run2 h0 ok.2 (ups 0 n) (fun c hc => ups_mem' hc) tB [] hB hnil] at e3
  exact congrArg Prod.snd e3
end K06
/-! ==== MZ2 ==== -/
set_option linter.all false
set_option maxRecDepth 100000
set_option maxHeartbeats 4000000
namespace K06
/-! ### noughts of tables side by side -/
theorem enu_app (x y : Rw) : enu (x ++ y) = enu x ++ (enu y).map fun z => ((x.length : Int) + z.1, z.2) := by
  unfold enu
  rw [List.length_append, ups_split, List.zip_append (by rw [ups_len']), List.zip_map_left]
  rfl
theorem enu_zr (n : Nat) : (enu (zr n)).filter (fun z => !decide (z.2 = 0)) = [] := by
  rw [List.filter_eq_nil_iff]
  intro z hz
  have := (List.of_mem_zip (show (z.1, z.2) ∈ (ups 0 (zr n).length).zip (zr n) from hz)).2
  rw [(List.mem_replicate.mp this).2]
  decide
theorem hds_R (x : Rw) (n : Nat) : hdsM (x ++ zr n) = hdsM x := by
  unfold hdsM
  rw [enu_app, List.filter_append, List.filter_map]
  have e : ((enu (zr n)).filter ((fun z : Int × Int => !decide (z.2 = 0)) ∘ fun z => ((x.length : Int) + z.1, z.2))) = [] := enu_zr n
  rw [e, List.map_nil, List.append_nil]
theorem hds_L (x : Rw) (m : Nat) : hdsM (zr m ++ x) = (hdsM x).map fun c => (m : Int) + c := by
  unfold hdsM
  rw [enu_app, List.filter_append, enu_zr, List.nil_append, List.filter_map, List.map_map, List.map_map, zr_len]
  rfl
theorem hd_R (x : Rw) (n : Nat) : hdM (x ++ zr n) = hdM x := by unfold hdM; rw [hds_R]
theorem hd_L {x : Rw} (h : 0 < (hdsM x).length) (m : Nat) : hdM (zr m ++ x) = (m : Int) + hdM x := by
  unfold hdM
  rw [hds_L, get_map _ _ 0 0 0 h]
theorem unit_L {m n a : Nat} (ha : a < m) : unitM ((m + n : Nat) : Int) (a : Int) = unitM m a ++ zr n := by
  unfold unitM
  rw [Int.toNat_natCast, Int.toNat_natCast, ups_split, List.map_append, List.map_map]
  congr 1
  refine List.eq_replicate_iff.mpr ⟨by rw [List.length_map, ups_len'], fun y hy => ?_⟩
  obtain ⟨t, ht, rfl⟩ := List.mem_map.mp hy
  have := ups_mem' ht
  show (if (m : Int) + t = (a : Int) then (1 : Int) else 0) = 0
  rw [if_neg (by omega)]
theorem unit_R {m n a : Nat} : unitM ((m + n : Nat) : Int) ((m : Int) + (a : Int)) = zr m ++ unitM n a := by
  unfold unitM
  rw [Int.toNat_natCast, Int.toNat_natCast, ups_split, List.map_append, List.map_map]
  congr 1
  · refine List.eq_replicate_iff.mpr ⟨by rw [List.length_map, ups_len'], fun y hy => ?_⟩
    obtain ⟨t, ht, rfl⟩ := List.mem_map.mp hy
    have := ups_mem' ht
    rw [if_neg (by omega)]
  · refine List.map_congr_left fun t _ => ?_
    show (if (m : Int) + t = (m : Int) + (a : Int) then (1 : Int) else 0) = if t = (a : Int) then 1 else 0
    by_cases q : t = (a : Int)
    · rw [if_pos q, if_pos (by omega)]
    · rw [if_neg q, if_neg (by omega)]
theorem set_zr (n i : Nat) : (zr n).set i 0 = zr n := by
  refine List.eq_replicate_iff.mpr ⟨by rw [List.length_set, zr_len], fun y hy => ?_⟩
  rcases List.mem_or_eq_of_mem_set hy with h | rfl
  · exact (List.mem_replicate.mp h).2
  · rfl
theorem set_appL {x y : Rw} {i : Nat} (h : i < x.length) (v : Int) : (x ++ y).set i v = x.set i v ++ y := by
  rw [List.set_append, if_pos h]
theorem set_appR {x y : Rw} (i : Nat) (v : Int) : (x ++ y).set (x.length + i) v = x ++ y.set i v := by
  rw [List.set_append, if_neg (by omega)]
  congr 2
  omega
def zf (p place : Int) (row : Rw) (z : Int × Rw) : Rw := row.set z.1.toNat ((0 - z.2.getD place.toNat 0) % p)
section
variable {p : Int} {m n : Nat}
/-- heads in range, rows of the width -/
def Hd (m : Nat) (l : List (Int × Rw)) : Prop := ∀ z ∈ l, (0 ≤ z.1 ∧ z.1 < (m : Int)) ∧ z.2.length = m
theorem zf_11 {a : Nat} (ha : a < m) : ∀ (l : List (Int × Rw)), Hd m l → ∀ x : Rw, x.length = m → (l.map fun z => (z.1, z.2 ++ zr n)).foldl (zf p a) (x ++ zr n) = l.foldl (zf p a) x ++ zr n
  | [], _, _, _ => rfl
  | z :: l, h, x, hx => by
    obtain ⟨h1, h2⟩ := h z (List.mem_cons_self ..)
    have e : zf p a (x ++ zr n) (z.1, z.2 ++ zr n) = zf p a x z ++ zr n := by
      unfold zf
      show (x ++ zr n).set z.1.toNat ((0 - (z.2 ++ zr n).getD (a : Int).toNat 0) % p) = _
      rw [set_appL (by omega), Int.toNat_natCast, getD_app1 _ _ _ _ (by omega)]
    rw [List.map_cons, List.foldl_cons, e]
    exact zf_11 ha l (fun y hy => h y (List.mem_cons_of_mem _ hy)) _ (by unfold zf; rw [List.length_set]; exact hx)
theorem zf_12 {a : Nat} (ha : a < m) : ∀ (l : List (Int × Rw)), Hd n l → ∀ x : Rw, x.length = m → (l.map fun z => ((m : Int) + z.1, zr m ++ z.2)).foldl (zf p a) (x ++ zr n) = x ++ zr n
  | [], _, _, _ => rfl
  | z :: l, h, x, hx => by
    obtain ⟨h1, h2⟩ := h z (List.mem_cons_self ..)
    have e : zf p a (x ++ zr n) ((m : Int) + z.1, zr m ++ z.2) = x ++ zr n := by
      unfold zf
      show (x ++ zr n).set ((m : Int) + z.1).toNat ((0 - (zr m ++ z.2).getD (a : Int).toNat 0) % p) = _
      have e2 : ((m : Int) + z.1).toNat = x.length + z.1.toNat := by omega
      rw [e2, set_appR, Int.toNat_natCast, getD_app1 _ _ _ _ (by rw [zr_len]; exact ha), zr_get, Int.sub_zero, Int.zero_emod, set_zr]
    rw [List.map_cons, List.foldl_cons, e]
    exact zf_12 ha l (fun y hy => h y (List.mem_cons_of_mem _ hy)) x hx
theorem zf_21 {a : Nat} : ∀ (l : List (Int × Rw)), Hd m l → ∀ x : Rw, (l.map fun z => (z.1, z.2 ++ zr n)).foldl (zf p ((m : Int) + (a : Int))) (zr m ++ x) = zr m ++ x
  | [], _, _ => rfl
  | z :: l, h, x => by
    obtain ⟨h1, h2⟩ := h z (List.mem_cons_self ..)
    have e : zf p ((m : Int) + (a : Int)) (zr m ++ x) (z.1, z.2 ++ zr n) = zr m ++ x := by
      unfold zf
      show (zr m ++ x).set z.1.toNat ((0 - (z.2 ++ zr n).getD ((m : Int) + (a : Int)).toNat 0) % p) = _
      have e2 : ((m : Int) + (a : Int)).toNat = z.2.length + a := by omega
      rw [e2, getD_app2, zr_get, Int.sub_zero, Int.zero_emod, set_appL (by rw [zr_len]; omega), set_zr]
    rw [List.map_cons, List.foldl_cons, e]
    exact zf_21 l (fun y hy => h y (List.mem_cons_of_mem _ hy)) x
theorem zf_22 {a : Nat} : ∀ (l : List (Int × Rw)), Hd n l → ∀ x : Rw, (l.map fun z => ((m : Int) + z.1, zr m ++ z.2)).foldl (zf p ((m : Int) + (a : Int))) (zr m ++ x) = zr m ++ l.foldl (zf p a) x
  | [], _, _ => rfl
  | z :: l, h, x => by
    obtain ⟨h1, h2⟩ := h z (List.mem_cons_self ..)
    have e : zf p ((m : Int) + (a : Int)) (zr m ++ x) ((m : Int) + z.1, zr m ++ z.2) = zr m ++ zf p a x z := by
      unfold zf
      show (zr m ++ x).set ((m : Int) + z.1).toNat ((0 - (zr m ++ z.2).getD ((m : Int) + (a : Int)).toNat 0) % p) = _
      have e2 : ((m : Int) + (a : Int)).toNat = (zr m).length + a := by rw [zr_len]; omega
      have e3 : ((m : Int) + z.1).toNat = (zr m).length + z.1.toNat := by rw [zr_len]; omega
      rw [e2, e3, getD_app2, set_appR, Int.toNat_natCast]
    rw [List.map_cons, List.foldl_cons, e]
    exact zf_22 l (fun y hy => h y (List.mem_cons_of_mem _ hy)) _
end
theorem any_eq (l : List Int) (x : Int) : (l.any fun y => y == x) = decide (x ∈ l) := by
  induction l with
  | nil => rfl
  | cons y l ih =>
    rw [List.any_cons, ih]
    by_cases q : y = x
    · subst q
      simp
    · have q' : ¬ x = y := fun e => q e.symm
      simp [q, q']
theorem zlist_block {p : Int} (hp : P357 p) {a b : Tb} (ha : SqOk p a) (hb : SqOk p b) : zlistM p ((a.length + b.length : Nat) : Int) (bsdM a b) = padR b.length (zlistM p a.length a) ++ padL a.length (zlistM p b.length b) := by
  have hbs : bsdM a b = padR b.length a ++ padL a.length b := rfl
  have h0 : 0 < p := by have := hp.b; omega
  have oka := stM_ok h0 ha.tab
  have okb := stM_ok h0 hb.tab
  have hda := steps_hd hp ha.tab
  have hdb := steps_hd hp hb.tab
  unfold zlistM
  rw [hbs, st_block hp ha.tab hb.tab]
  generalize stM p a = sa at oka hda
  generalize stM p b = sb at okb hdb
  have eh : (padR b.length sa ++ padL a.length sb).map hdM = sa.map hdM ++ (sb.map hdM).map fun c => (a.length : Int) + c := by
    unfold padR padL
    rw [List.map_append, List.map_map, List.map_map, List.map_map]
    congr 1
    · exact List.map_congr_left fun x _ => hd_R x _
    · exact List.map_congr_left fun x hx => hd_L (hdb x hx) _
  have ra : ∀ h ∈ sa.map hdM, 0 ≤ h ∧ h < (a.length : Int) := fun h hh => by
    obtain ⟨x, hx, rfl⟩ := List.mem_map.mp hh
    have := hd_mem (hda x hx)
    rw [(oka x hx).1] at this
    exact this
  have rb : ∀ h ∈ sb.map hdM, 0 ≤ h ∧ h < (b.length : Int) := fun h hh => by
    obtain ⟨x, hx, rfl⟩ := List.mem_map.mp hh
    have := hd_mem (hdb x hx)
    rw [(okb x hx).1] at this
    exact this
  have za : Hd a.length ((sa.map hdM).zip sa) := fun z hz => by
    have := List.of_mem_zip (show (z.1, z.2) ∈ (sa.map hdM).zip sa from hz)
    exact ⟨ra _ this.1, (oka _ this.2).1⟩
  have zb : Hd b.length ((sb.map hdM).zip sb) := fun z hz => by
    have := List.of_mem_zip (show (z.1, z.2) ∈ (sb.map hdM).zip sb from hz)
    exact ⟨rb _ this.1, (okb _ this.2).1⟩
  have ez : (sa.map hdM ++ (sb.map hdM).map fun c => (a.length : Int) + c).zip (padR b.length sa ++ padL a.length sb) = (((sa.map hdM).zip sa).map fun z => (z.1, z.2 ++ zr b.length)) ++ (((sb.map hdM).zip sb).map fun z => ((a.length : Int) + z.1, zr a.length ++ z.2)) := by
    unfold padR padL
    rw [List.zip_append (by rw [List.length_map, List.length_map]), List.zip_map_right, List.zip_map]
    rfl
  have pR : ∀ (l : List Int) (f : Int → Rw), padR b.length (l.map f) = l.map fun x => f x ++ zr b.length := fun l f => List.map_map ..
  have pL : ∀ (l : List Int) (f : Int → Rw), padL a.length (l.map f) = l.map fun x => zr a.length ++ f x := fun l f => List.map_map ..
  rw [eh, Int.toNat_natCast, ups_split, List.filter_append, List.map_append, pR, pL]
  generalize hH : (sa.map hdM ++ (sb.map hdM).map fun c => (a.length : Int) + c) = HH at ez ⊢
  congr 1
  · have e1 : ((ups 0 a.length).filter fun x => !HH.any fun y => y == x) = (ups 0 (a.length : Int).toNat).filter fun x => !(sa.map hdM).any fun y => y == x := by
      rw [Int.toNat_natCast]
      refine List.filter_congr fun x hx => ?_
      have hxb := ups_mem' hx
      rw [← hH, List.any_append, any_eq ((sb.map hdM).map _), decide_eq_false, Bool.or_false]
      intro h
      obtain ⟨c, hc, e⟩ := List.mem_map.mp h
      have := rb c hc
      omega
    rw [e1]
    refine List.map_congr_left fun x hx => ?_
    have hxb := ups_mem' (List.mem_filter.mp hx).1
    rw [Int.toNat_natCast] at hxb
    obtain ⟨k, rfl⟩ : ∃ k : Nat, x = k := ⟨x.toNat, by omega⟩
    show zrowM p _ _ (padR b.length sa ++ padL a.length sb) (k : Int) = zrowM p a.length (sa.map hdM) sa k ++ zr b.length
    unfold zrowM
    rw [ez, unit_L (by omega), List.foldl_append]
    show List.foldl (zf p k) (List.foldl (zf p k) _ _) _ = List.foldl (zf p k) _ _ ++ _
    have ul : (unitM (a.length : Int) (k : Int)).length = a.length := (unit_ok hp.b.1 a.length k).1
    rw [zf_11 (by omega) _ za _ ul]
    refine zf_12 (by omega) _ zb _ ?_
    exact (zfold_ok hp.b.1 (k : Int) ((sa.map hdM).zip sa) _ (unit_ok hp.b.1 a.length k)).1
  · rw [List.filter_map, List.map_map]
    have e1 : ((ups 0 b.length).filter ((fun x => !HH.any fun y => y == x) ∘ fun c => (a.length : Int) + c)) = (ups 0 (b.length : Int).toNat).filter fun x => !(sb.map hdM).any fun y => y == x := by
      rw [Int.toNat_natCast]
      refine List.filter_congr fun x hx => ?_
      have hxb := ups_mem' hx
      show (!HH.any fun y => y == (a.length : Int) + x) = _
      rw [← hH, List.any_append, any_eq (sa.map hdM), decide_eq_false, Bool.false_or, any_eq, any_eq]
      · congr 1
        refine decide_eq_decide.mpr ⟨fun h => ?_, fun h => List.mem_map.mpr ⟨x, h, rfl⟩⟩
        obtain ⟨c, hc, e⟩ := List.mem_map.mp h
        have : c = x := by omega
        exact this ▸ hc
      · intro h
        have := ra _ h
        omega
    rw [e1]
    refine List.map_congr_left fun x hx => ?_
    have hxb := ups_mem' (List.mem_filter.mp hx).1
    rw [Int.toNat_natCast] at hxb
    obtain ⟨k, rfl⟩ : ∃ k : Nat, x = k := ⟨x.toNat, by omega⟩
    show zrowM p _ _ (padR b.length sa ++ padL a.length sb) ((a.length : Int) + (k : Int)) = zr a.length ++ zrowM p b.length (sb.map hdM) sb k
    unfold zrowM
    rw [ez, unit_R, List.foldl_append]
    show List.foldl (zf p ((a.length : Int) + (k : Int))) (List.foldl (zf p ((a.length : Int) + (k : Int))) _ _) _ = _ ++ List.foldl (zf p k) _ _
    rw [zf_21 _ za, zf_22 _ zb]
theorem z_still {p : Int} (hp : P357 p) {a b : Tb} (ha : Sy p a) (hb : Sy p b) (h : a.length + b.length ≤ 6) : (zrM p ((bsdM a b).length : Int) (bsdM a b)).length = (zrM p (a.length : Int) a).length + (zrM p (b.length : Int) b).length := by
  unfold zrM
  rw [bsd_len, zlist_block hp ha.1 hb.1, st_block hp (zlist_ok hp.b.1 a.length a) (zlist_ok hp.b.1 b.length b)]
  unfold padR padL
  rw [List.length_append, List.length_map, List.length_map]
end K06
/-! ==== MT ==== -/
set_option linter.all false
set_option maxRecDepth 100000
set_option maxHeartbeats 4000000
namespace K06
theorem z_kv {p : Int} {g : Tb} (h : (kindM p g).2.1 = 0) : (kindM p g).2.2 = 1 := by
  have h1 : ((numsM p g).length : Int) = 0 := h
  have h2 : numsM p g = [] := List.length_eq_zero_iff.mp (by omega)
  show (numsM p g).foldl (fun s n => s * sgnM p n) 1 = 1
  rw [h2]
  rfl
theorem sg_sq {s : Int} (h : Sg s) : s * s = 1 := by rcases h with rfl | rfl <;> decide
theorem k_len {p : Int} {g : Tb} : (kindM p g).1 = g.length := rfl
theorem z_tak {p : Int} (hp : P357 p) {a b c : Tb} (ha : Sy p a) (hb : Sy p b) (hc : Sy p c) (hl : a.length ≤ 3 ∧ b.length ≤ 3 ∧ c.length ≤ 3) : TakF p a b c := by
  have hpb := hp.b
  have ka := kind_ok (p := p) hpb.1 ha.1.1
  have kb := kind_ok (p := p) hpb.1 hb.1.1
  have kc := kind_ok (p := p) hpb.1 hc.1.1
  refine ⟨hp, ⟨ha.1, hb.1, hc.1⟩, ⟨by omega, by omega⟩, fun t ht => ?_, ?_⟩
  · unfold tofM at ht
    split at ht
    · cases ht
    · rename_i hne
      have e := Option.some.inj ht
      subst e
      have h1 := ka.1
      have h2 := kb.1
      have h3 := k_len (p := p) (g := a)
      have h4 := k_len (p := p) (g := b)
      have d1 : (tofK (kindM p a) (kindM p b)).1 = (kindM p a).1 - (kindM p b).1 := rfl
      have d2 : (tofK (kindM p a) (kindM p b)).2.1 = (kindM p a).2.1 - (kindM p b).2.1 := rfl
      have d3 : (tofK (kindM p a) (kindM p b)).2.2 = (kindM p a).2.2 * (kindM p b).2.2 := rfl
      have hkd : KOk (tofK (kindM p a) (kindM p b)) := ⟨by omega, by rw [d3]; exact ka.2.mul kb.2⟩
      have h0 : (tofK (kindM p a) (kindM p b)).2.1 = 0 → (tofK (kindM p a) (kindM p b)).2.2 = 1 := fun h => by
        by_cases q : (tofK (kindM p a) (kindM p b)).2.2 = 1
        · exact q
        · exact absurd (.inr (.inr ⟨h, q⟩)) hne
      obtain ⟨g1, g2, g3⟩ := z_pln hp hkd h0
      have hlen : b.length + (plnM p (tofK (kindM p a) (kindM p b))).length ≤ 6 := by rw [g3, d1]; omega
      refine ⟨g2.1, g1, hlen, ?_⟩
      rw [z_add hp hb g2 hlen, g1]
      refine Prod.ext ?_ (Prod.ext ?_ ?_)
      · show (kindM p b).1 + ((kindM p a).1 - (kindM p b).1) = (kindM p a).1
        omega
      · show (kindM p b).2.1 + ((kindM p a).2.1 - (kindM p b).2.1) = (kindM p a).2.1
        omega
      · show (kindM p b).2.2 * ((kindM p a).2.2 * (kindM p b).2.2) = (kindM p a).2.2
        rcases kb.2 with e | e <;> rw [e] <;> omega
  · rw [z_add hp ha hc (by omega), z_add hp hb hc (by omega)]
    refine ⟨fun h => ?_, fun h => by rw [h]⟩
    have h1 := congrArg Prod.fst h
    have h2 := congrArg (fun k : Kd => k.2.1) h
    have h3 := congrArg (fun k : Kd => k.2.2) h
    replace h1 : (kindM p a).1 + (kindM p c).1 = (kindM p b).1 + (kindM p c).1 := h1
    replace h2 : (kindM p a).2.1 + (kindM p c).2.1 = (kindM p b).2.1 + (kindM p c).2.1 := h2
    replace h3 : (kindM p a).2.2 * (kindM p c).2.2 = (kindM p b).2.2 * (kindM p c).2.2 := h3
    refine Prod.ext (by omega) (Prod.ext (by omega) ?_)
    rcases kc.2 with e | e <;> rw [e] at h3 <;> omega
/-- both, the second one (led) taken off -/
theorem z_off2 {p : Int} (hp : P357 p) {a b c : Tb} (ha : Sy p a) (hb : Sy p b) (h : a.length + b.length ≤ 6) (hc : kindM p c = kindM p b) : tofM p (bsdM a b) c = some (plnM p (kindM p a)) := by
  have hpb := hp.b
  have ka := kind_ok (p := p) hpb.1 ha.1.1
  have kb := kind_ok (p := p) hpb.1 hb.1.1
  have e : tofK (kindM p (bsdM a b)) (kindM p c) = kindM p a := by
    rw [z_add hp ha hb h, hc]
    refine Prod.ext ?_ (Prod.ext ?_ ?_)
    · show (kindM p a).1 + (kindM p b).1 - (kindM p b).1 = _
      omega
    · show (kindM p a).2.1 + (kindM p b).2.1 - (kindM p b).2.1 = _
      omega
    · show (kindM p a).2.2 * (kindM p b).2.2 * (kindM p b).2.2 = _
      rcases kb.2 with e | e <;> rw [e] <;> omega
  unfold tofM
  rw [e]
  have h1 := ka.1
  rw [if_neg]
  rintro (q | q | ⟨q1, q2⟩)
  · omega
  · omega
  · exact q2 (z_kv q1)
theorem z_comm {p : Int} (hp : P357 p) {a b : Tb} (ha : Sy p a) (hb : Sy p b) (h : a.length + b.length ≤ 6) : kindM p (bsdM b a) = kindM p (bsdM a b) := by
  rw [z_add hp ha hb h, z_add hp hb ha (by omega)]
  refine Prod.ext ?_ (Prod.ext ?_ ?_)
  · show (kindM p b).1 + (kindM p a).1 = (kindM p a).1 + (kindM p b).1
    omega
  · show (kindM p b).2.1 + (kindM p a).2.1 = (kindM p a).2.1 + (kindM p b).2.1
    omega
  · show (kindM p b).2.2 * (kindM p a).2.2 = (kindM p a).2.2 * (kindM p b).2.2
    exact Int.mul_comm _ _
theorem z_off1 {p : Int} (hp : P357 p) {a b : Tb} (ha : Sy p a) (hb : Sy p b) (h : a.length + b.length ≤ 6) : tofM p (bsdM a b) a = some (plnM p (kindM p b)) := by
  have h1 := z_off2 hp hb ha (by omega) (c := a) rfl
  unfold tofM at h1 ⊢
  rw [z_comm hp ha hb h] at h1
  exact h1
end K06
/-! ==== KW ==== -/
set_option Elab.async false
set_option linter.all false
set_option maxRecDepth 100000
set_option maxHeartbeats 4000000
namespace K06
open PySem L2 PySem.Spec PyProof.Rows RZ
/-! ### steps of the last defs -/
instance {α β : Type} {r : Rp α} {q : Rp β} [Te r] [Te q] : Te (r2 r q) := ⟨fun {K H P zs v x} h k => by
  obtain ⟨a, u, w, h1, h2, h3, h4⟩ := k
  exact ⟨a, u, w, h1, by rw [er_ne (fun e => by rw [← e, h2] at h; cases h)]; exact h2, Te.te h h3, Te.te h h4⟩⟩
/-- two whole numbers and a truth value, a list -/
def rIIB : Rp (Int × Int × Bool) := ⟨fun K H v x => ∃ l, v = .ref l ∧ H l = some (.lst [.int x.1, .int x.2.1, .bl x.2.2]), fun e h => by
  obtain ⟨l, h1, h2⟩ := h
  exact ⟨l, h1, e _ _ h2⟩⟩
instance : Dt rIIB where
  d := fun x => .list [.int x.1, .int x.2.1, .bool x.2.2]
  n := 1
  dp := fun h => by
    obtain ⟨l, rfl, h2⟩ := h
    exact .lst (SqL.of h2) (.cons (.int _) (.cons (.int _) (.cons (.bl _) .nil)))
  lay := fun _ => rfl
  dep := fun x => by
    show max 0 (max 0 (max 0 0)) + 1 ≤ 1
    decide
  eq := fun x y => by
    obtain ⟨x1, x2, x3⟩ := x
    obtain ⟨y1, y2, y3⟩ := y
    show ((x1 == y1) && ((x2 == y2) && ((x3 == y3) && true))) = true ↔ _
    simp
section
variable {X : Cx} {σ : L2.St} {H H' Hk : Hp} {P : Addr} {α β γ δ : Type} {r : Rp α} {q : Rp β} {p : Rp γ} {pos spos p2 p3 : Pos} {e a b c d : Expr} {D : Ends} {rest body : List Stmt} {i j l : Nat} {y z w : Str}
theorem ev_IIB {x1 x2 : Int} {x3 : Bool} (ha : Ev X σ H a rI x1) (hb : Ev X σ H b rI x2) (hd : Ev X σ H d rB x3) (hs : starEach [a, b, d] X.env = (false, eval a X.env) :: starEach [b, d] X.env := by rfl) (hs2 : starEach [b, d] X.env = (false, eval b X.env) :: starEach [d] X.env := by rfl)
    (hs3 : starEach [d] X.env = (false, eval d X.env) :: starEach [] X.env := by rfl) : Ev X σ H (.List [a, b, d] pos) rIIB (x1, x2, x3) :=
  ev_of (pe_lst cA_pa) fun H1 s Q c => ea_c ha (ea_c hb (ea_1 hd hs3) hs2) hs H1 s _ fun vs H2 s2 hvs => by
    obtain ⟨u, ws, rfl, h1, h2⟩ := hvs
    obtain ⟨v, w, rfl, h3, h4⟩ := a2 h2
    cases (show u = V.int x1 from h1)
    cases (show v = V.int x2 from h3)
    cases (show w = V.bl x3 from h4)
    exact ⟨by show 3 ≤ sizeLine; decide, fun l hl => c _ _ (s2.trans (same_new hl)) ⟨l, rfl, upd_same⟩⟩
/-- a test that is known to fail -/
theorem cs_skipP (hc : EvT X σ (er P H) c false) (hp : Pot P H) (k : ∀ H1, Px P H H1 → cS X rest D σ H1) : cS X (.If c body [] pos :: rest) D σ H := cs_skip (hc.up same_er) fun H1 s1 => k H1 (Px.of hp s1)
/-- x, y = a pair that was drawn -/
theorem cs_unp2P {p1 : α × β → Prop} {p4 p5 p6 : Pos} {k1 : Nat} (nd : X.N.Nodup) (hi : X.N[i]? = some y) (hj : X.N[j]? = some z) (ha : EvP X σ P Hk a (r2 r q) p1) (hs1 : Same Hk H) (hp : Pot P H)
    (k : ∀ x u v H1, p1 x → Px P H H1 → r.rel X.K (er P H1) u x.1 → q.rel X.K (er P H1) v x.2 → cS X rest D ((σ.set i (some u)).set j (some v)) H1) (hc : X.calm = true := by rfl)
    (hx : L2.Loc X.env.scope y := by first | exact Or.inl rfl | exact Or.inr rfl) (hf : X.fn y = true ∨ X.env.scope.names.lookup y = some .local := by first | exact .inl rfl | exact .inr rfl)
    (hx2 : L2.Loc X.env.scope z := by first | exact Or.inl rfl | exact Or.inr rfl) (hf2 : X.fn z = true ∨ X.env.scope.names.lookup z = some .local := by first | exact .inl rfl | exact .inr rfl)
    (hw : swappedStores [.Tuple [.Name y p4, .Name z p5] k1 p6] a X.env = pure none := by rfl)
    (hs : swapsWithSole [.Tuple [.Name y p4, .Name z p5] k1 p6] a pos.line X.env = pure false := by rfl)
    (ht : (assignEach [.Tuple [.Name y p4, .Name z p5] k1 p6] X.env).map (·.2) = [assign (.Tuple [.Name y p4, .Name z p5] k1 p6) X.env] := by rfl)
    (h1 : (assignEach [.Name y p4, .Name z p5] X.env).map (·.2) = assign (.Name y p4) X.env :: (assignEach [.Name z p5] X.env).map (·.2) := by rfl) (h2 : (assignEach [.Name z p5] X.env).map (·.2) = assign (.Name z p5) X.env :: (assignEach [] X.env).map (·.2) := by rfl)
    (hn : (assignEach [.Name y p4, .Name z p5] X.env).length = 2 := by rfl) (hst : (assignEach [.Name y p4, .Name z p5] X.env).findIdx? (·.1) = none := by rfl) : cS X (.Assign [.Tuple [.Name y p4, .Name z p5] k1 p6] a pos :: rest) D σ H :=
  cs_one (ps_asg cE_pe (pg_tup hc (pgs_cons (pg_name nd hi hx hf) (pgs_cons (pg_name nd hj hx2 hf2) pgs_nil h2) h1) hn hst) hs hw ht) (ha H hs1 hp _ fun x t H1 hx px ht => by
    obtain ⟨l, u, v, rfl, h1, h2, h3⟩ := ht
    exact ⟨l, [u, v], rfl, SqT.of (same_er _ _ h1), rfl, u, [v], rfl, v, [], rfl, rfl, k x u v H1 hx px h2 h3⟩)
/-- x, y = a, b; the second draws -/
theorem cs_parP [Te r] {x : α} {p1 : β → Prop} {p4 p5 p6 p7 : Pos} {k1 k2 : Nat} (nd : X.N.Nodup) (hi : X.N[i]? = some y) (hj : X.N[j]? = some z) (hij : i ≠ j) (hP : Hk P = none) (ha : Ev X σ Hk a r x) (hb : EvP X σ P Hk b q p1) (hs1 : Same Hk H) (hp : Pot P H)
    (k : ∀ w u v H1, p1 w → Px P H H1 → r.rel X.K (er P H1) u x → q.rel X.K (er P H1) v w → cS X rest D ((σ.set i (some u)).set j (some v)) H1) (hy : X.env.scope.names.lookup y = some .local := by rfl) (hz : X.env.scope.names.lookup z = some .local := by rfl) (hc : X.calm = true := by rfl)
    (hw : swappedStores [.Tuple [.Name y p4, .Name z p5] k1 p6] (.Tuple [a, b] k2 p7) X.env = pure (some [y, z]) := by rfl)
    (hs : swapsWithSole [.Tuple [.Name y p4, .Name z p5] k1 p6] (.Tuple [a, b] k2 p7) pos.line X.env = pure false := by rfl)
    (hs1' : starEach [a, b] X.env = (false, eval a X.env) :: starEach [b] X.env := by rfl) (hs2 : starEach [b] X.env = (false, eval b X.env) :: starEach [] X.env := by rfl) : cS X (.Assign [.Tuple [.Name y p4, .Name z p5] k1 p6] (.Tuple [a, b] k2 p7) pos :: rest) D σ H :=
  cs_one (ps_par hc nd hi hj hij hy hz cA_pa hw hs) (cA2 (ha H hs1 _ fun u H1 s1 hu => hb H1 (hs1.trans s1) (hp.same s1) _ fun w v H2 hw px hv => ⟨u, v, rfl, k w u v H2 hw ((Px.of hp s1).tr px) (r.mono px.er (pot_te (hp.same s1) hu)) hv⟩) hs1' hs2)
theorem cs_par3P [Te r] [Te q] [Te p] {p4 p5 p6 p7 p8 : Pos} {k1 k2 : Nat} {x : α} {x2 : β} {x3 : γ} (nd : X.N.Nodup) (hi : X.N[i]? = some y) (hj : X.N[j]? = some z) (hl : X.N[l]? = some w) (hij : i ≠ j) (hil : i ≠ l) (hjl : j ≠ l) (ha : Ev X σ (er P H) a r x) (hb : Ev X σ (er P H) b q x2) (hd : Ev X σ (er P H) d p x3) (hp : Pot P H)
    (k : ∀ u v t H1, Px P H H1 → r.rel X.K (er P H1) u x → q.rel X.K (er P H1) v x2 → p.rel X.K (er P H1) t x3 → cS X rest D (((σ.set i (some u)).set j (some v)).set l (some t)) H1)
    (hy : X.env.scope.names.lookup y = some .local := by rfl) (hz : X.env.scope.names.lookup z = some .local := by rfl) (hw' : X.env.scope.names.lookup w = some .local := by rfl) (hc : X.calm = true := by rfl)
    (hw : swappedStores [.Tuple [.Name y p4, .Name z p5, .Name w p6] k1 p7] (.Tuple [a, b, d] k2 p8) X.env = pure (some [y, z, w]) := by rfl)
    (hs : swapsWithSole [.Tuple [.Name y p4, .Name z p5, .Name w p6] k1 p7] (.Tuple [a, b, d] k2 p8) pos.line X.env = pure false := by rfl)
    (hs1 : starEach [a, b, d] X.env = (false, eval a X.env) :: starEach [b, d] X.env := by rfl) (hs2 : starEach [b, d] X.env = (false, eval b X.env) :: starEach [d] X.env := by rfl) (hs3 : starEach [d] X.env = (false, eval d X.env) :: starEach [] X.env := by rfl) :
    cS X (.Assign [.Tuple [.Name y p4, .Name z p5, .Name w p6] k1 p7] (.Tuple [a, b, d] k2 p8) pos :: rest) D σ H :=
  cs_par3 nd hi hj hl hij hil hjl (ha.up same_er) (hb.up same_er) (hd.up same_er) (fun u v t H1 s1 hu hv ht => k u v t H1 (Px.of hp s1) (pot_te (hp.same s1) hu) (pot_te (hp.same s1) hv) (pot_te (hp.same s1) ht)) hy hz hw' hc hw hs hs1 hs2 hs3
/-- Room(prime, rows), the rows drawn -/
theorem evp_mkRoom2 {pr : Int} {p1 : Tb → Prop} (T : Tx X.K X.mg) (hr : Room 10 X.A) (hP : Hk P = none) (ha : Ev X σ Hk a rI pr) (hb : EvP X σ P Hk b (rS (rS rI)) p1) (hp : inP pr = true) (hG : ∀ g, p1 g → SqOk pr g ∧ turM g = g) (hg : Gl X "Room" := by rfl)
    (hs : starEach [a, b] X.env = (false, eval a X.env) :: starEach [b] X.env := by rfl) (hs2 : starEach [b] X.env = (false, eval b X.env) :: starEach [] X.env := by rfl) (hpl : (backTo pos (starEach [b] X.env)).any (·.1) = false := by rfl) : EvP X σ P Hk (.Call (.Name "Room" p2) [a, b] [] pos) (rR X.K) (fun x => x.1 = pr ∧ p1 x.2) := by
  obtain ⟨fd, F, Fn⟩ := fn_Room_init (P := X.prog) (w := X.w) (base := X.base) T
  obtain ⟨ds, hd, hbi⟩ := F.binds1 (ps := ["self", "prime", "rows"]) 3 1 (fun h => nomatch h) rfl (fun T kV doc pm an cdv ct us its hl hl2 => match us, hl, its, hl2 with | [_, _, _], _, [_], _ => ⟨_, rfl, rfl⟩)
  refine fun H1 s1 hp1 Q c => cE_of (pe_make (He.mkr_ok (T.fa 112 rfl)) Fn (hr.mono (by decide)) hg (T.gl 32 rfl) hbi hd pass0 cA_pa (by decide) hs hpl) (cA2 (ha H1 s1 _ fun v H2 s2 hv => hb H2 (s1.trans s2) (hp1.same s2) _ fun g w H3 hgp px hw => ?_) hs hs2)
  cases (show v = V.int pr from hv)
  intro z dx hz hdx hne
  have sm := same_make (C := cR X.K) hz hdx
  have hzP := pot_ne px.2 hz
  refine ⟨z, dx, _, (pr, g), rfl, upd_same, ⟨_, _, rfl, .inr ⟨rfl, (rS (rS rI)).mono (same_er.trans sm) hw, hp, hG g hgp⟩⟩, fun H4 s4 h4 => ⟨rfl, ?_⟩⟩
  have s34 := sm.trans s4
  have p4 := px.2.same s34
  exact c (pr, g) _ H4 ⟨rfl, hgp⟩ (((Px.of hp1 s2).tr px).tr (Px.of px.2 s34)) (pot_te p4 h4)
/-- room.led(table), the table drawn -/
theorem evp_meth1 {k : Nat} {m : Str} {f : Addr} {ps : List Str} {G : (Int × Tb) × β × Unit → Prop} {F : (Int × Tb) × β × Unit → α} {x : Int × Tb} {p1 : β → Prop} {ap : Pos} {pl : Sem Bool} {mg : Str → Option Value} [Te r] {q' : Rp β} (T : Tx X.K mg) (M : Mt X.prog X.w X.K X.mg X.base k f ps [] (spF (aC (rR X.K) (aC q a0)) G r F X.K)) (hm : Meth X.K (cR X.K) m f) (hr : Room k X.A) (hP : Hk P = none) (ha : Ev X σ Hk a (rR X.K) x) (hb : EvP X σ P Hk b q' p1) (hq : ∀ {H v y}, q'.rel X.K H v y → q.rel X.K H v y) (hx : ∀ u, p1 u → G (x, u, ()))
    (hl : List.lookup m [(("own_prime" : Str), V.non), ("own_rows", V.non)] = none := by decide +kernel) (hst : starEach [b] X.env = (false, eval b X.env) :: starEach [] X.env := by rfl)
    (ht : eval (.Call (.Attribute a m ap) [b] [] pos) X.env = (do
      let ov ← eval a X.env
      standAt ap.atName
      let (f, first) ← holding [ov] (getMethod ov m pl)
      callWith pos f first (backTo pos (starEach [b] X.env)) (backToKw pos (keywordEach [] X.env))) := by rfl) : EvP X σ P Hk (.Call (.Attribute a m ap) [b] [] pos) r (fun y => ∃ u, p1 u ∧ y = F (x, u, ())) := by
  obtain ⟨fd, ds, hd, hbi, Fn⟩ := M.ex
  refine fun H1 s1 hp1 Q c => cE_of (pe_meth (pl := pl) cE_pe (He.cls_ok (T.fa 102 rfl)) hm Fn hr hbi hd pass0 (pa_cons cE_pe pa_nil hst) hst rfl ht) (ha H1 s1 _ fun v H2 s2 hv => ?_)
  have hv' := hv
  obtain ⟨z, dx, w, rfl, h2, h3⟩ := hv'
  refine ⟨z, dx, _, rfl, h2, lk2 hl, hb H2 (s1.trans s2) (hp1.same s2) _ fun u t H3 hu px ht => ?_⟩
  have hR : (rR X.K).rel X.K H3 (.ref z) x := (rR X.K).mono px.1 (pot_te (hp1.same s2) hv)
  refine ⟨(x, u, ()), ⟨_, _, rfl, hR, _, _, rfl, hq (q'.mono same_er ht), rfl⟩, hx u hu, fun v H4 s4 hv4 => ?_⟩
  exact c _ v H4 ⟨u, hu, rfl⟩ (((Px.of hp1 s2).tr px).tr (Px.of px.2 s4)) (pot_te (px.2.same s4) hv4)
end
end K06
/-! ==== DQ ==== -/
set_option Elab.async false
set_option linter.all false
set_option maxRecDepth 100000
set_option maxHeartbeats 4000000
namespace K06
open PySem L2 PySem.Spec PyProof.Rows RZ

theorem inP_of {p : Int} (hp : P357 p) : inP p = true := by
  rcases hp with rfl | rfl | rfl <;> decide
abbrev sp__law_right (K : Fr) : Sp := spP (a0) (fun _ => True) (rB) (fun _ res => res = true) K
theorem sc__law_right : FnScope ["_law_pot_here", "_law_prime", "_law_grid", "_law_other_here", "_law_first", "_law_second", "_law_both", "_law_near", "_law_far", "_law_row", "_law_rest", "_law_times", "_law_led_here", "_law_turned"] ["_law_pot_here"] (defScope (top 108)) := ⟨rfl, rfl, rfl, by decide +kernel, rfl, by decide +kernel, by decide +kernel⟩
theorem df__law_right {P : Program} {w : World} {K : Fr} {mg : Str → Option Value} {base : Heap} (T : Tx K mg) : Df P w K mg base 16 "_law_right" ["_law_pot_here"] (sp__law_right K) := by
  have D__law_beside := df__law_beside (P := P) (w := w) (base := base) T
  have D__law_draw := df__law_draw (P := P) (w := w) (base := base) T
  have D__law_folded := df__law_folded (P := P) (w := w) (base := base) T
  have D__law_given := df__law_given (P := P) (w := w) (base := base) T
  have D__law_letters := df__law_letters (P := P) (w := w) (base := base) T
  have D__law_other := df__law_other (P := P) (w := w) (base := base) T
  have D__law_room := df__law_room (P := P) (w := w) (base := base) T
  have D__law_taken_right := df__law_taken_right (P := P) (w := w) (base := base) T
  have D_alike := df_alike (P := P) (w := w) (base := base) T
  have D_beside := df_beside (P := P) (w := w) (base := base) T
  have D_keeper_count := df_keeper_count (P := P) (w := w) (base := base) T
  have D_kind_of := df_kind_of (P := P) (w := w) (base := base) T
  have D_pair_count := df_pair_count (P := P) (w := w) (base := base) T
  have D_plain_room := df_plain_room (P := P) (w := w) (base := base) T
  have D_scaled := df_scaled (P := P) (w := w) (base := base) T
  have D_sign_rest := df_sign_rest (P := P) (w := w) (base := base) T
  have D_taken_off := df_taken_off (P := P) (w := w) (base := base) T
  have D_worth_counts := df_worth_counts (P := P) (w := w) (base := base) T
  have M_Room_rows := mt_Room_rows (P := P) (w := w) (base := base) T
  have M_Room_still := mt_Room_still (P := P) (w := w) (base := base) T
  have M_Room_led := mt_Room_led (P := P) (w := w) (base := base) T
  have M_Room_rank := mt_Room_rank (P := P) (w := w) (base := base) T
  have M_Room___eq__ := mt_Room___eq__ (P := P) (w := w) (base := base) T
  obtain ⟨fd, F⟩ := T.dx 86 (d := d86) rfl
  refine ⟨_, fd, T.gl 80 rfl, F.kp, F.bindsN (fun _ _ _ _ _ _ us hl => match us, hl with | [_], _ => rfl), ?_⟩
  refine F.ok sc__law_right (fun vs H Q E h => ?_) (fun cdv A outer s H vs Q E hr h => ⟨_, PSs.nox cS_pss, ?_⟩)
  · obtain ⟨Pt, us, u_end, rfl, hpot, h_end, g⟩ := h
    cases h_end
    rfl
  · obtain ⟨Pt, us, u_end, rfl, hpot, h_end, g, kk⟩ := h
    cases h_end
    replace g : True := g
    replace kk : ∀ res v H2, (res = true) → Px Pt H H2 → Rp.rel (rB) K (er Pt H2) v res → Q v H2 := kk
    have hmR : Meth K (cR K) "rows" (mA "Room" "rows" K) := He.meth_ok (T.fa 108 rfl)
    have hmS : Meth K (cR K) "still" (mA "Room" "still" K) := He.meth_ok (T.fa 109 rfl)
    have hmL : Meth K (cR K) "led" (mA "Room" "led" K) := He.meth_ok (T.fa 110 rfl)
    have pK : PropOf K (cR K) "rank" (mA "Room" "rank" K) (pA "Room" "rank" K) := pro_ok (T.ex 3 (f := fun K => proB (cR K) "rank" (mA "Room" "rank" K) (pA "Room" "rank" K) K) rfl)
    refine cs_unp2P (P := Pt) (i := 1) (j := 2) sc__law_right.nd rfl rfl (evp_call D__law_room (hr.mono (by decide)) er_at (ev_v 0 rfl) (ap_c (x := 3) er_at ev_i ap_0) rfl) same_er hpot fun x0 u0 v0 H1 hx0 px1 hu0 hv0 => ?_
    obtain ⟨p, a⟩ := x0
    obtain ⟨hp, na, ta, ba, hna, hlt, hbo, ea⟩ := hx0
    replace hp : P357 p := hp
    replace hlt : LetM p na ta := hlt
    replace hbo : BsOk p na ba := hbo
    replace ea : a = lledM p ta ba := ea
    cases (show u0 = V.int p from hu0)
    obtain ⟨hSa, hla⟩ := z_grid hp hna hlt hbo
    rw [← ea] at hSa hla
    have hpb := hp.b
    replace hv0 : (rL (rL rI)).rel K (er Pt H1) v0 a := hv0
    refine cs_setP (P := Pt) (i := 3) sc__law_right.nd rfl (evp_call D__law_other (hr.mono (by decide)) er_at (ev_v 0 rfl) (ap_c (x := p) er_at (ev_v 1 rfl) ap_0) hp) same_er px1.2 fun b v1 H2 hb px2 hv1 => ?_
    obtain ⟨nb, tb, bb, hnb, hlt2, hbo2, eb⟩ := hb
    obtain ⟨hSb, hlb⟩ := z_grid hp hnb hlt2 hbo2
    rw [← eb] at hSb hlb
    have hab : a.length + b.length ≤ 6 := by omega
    have hSab := bsd_sq (by omega) hSa.1 hSb.1 hab
    have hSba := bsd_sq (by omega) hSb.1 hSa.1 (by omega)
    have hv0' := Rp.mono _ px2.er hv0
    have rw6 : ∀ {g : Tb}, SqOk p g → ∀ row ∈ g, row.length ≤ 6 := fun h row hr => by rw [(h.2 row hr).1]; exact h.1
    refine cs_parP (r := rR K) (q := rR K) (x := (p, a)) (P := Pt) (i := 4) (j := 5) sc__law_right.nd rfl rfl (by decide) er_at (ev_mkRoom2 T (hr.mono (by decide)) (ev_v 1 rfl) (ev_weak (q := rS (rS rI)) (ev_v 2 hv0') fun h => ?_) (inP_of hp) hSa) (evp_mkRoom2 (p1 := fun g => g = b) T (hr.mono (by decide)) er_at (ev_v 1 (r := rI) (d := p) rfl) (EvP.post (evp_call D__law_given (hr.mono (by decide)) er_at (ev_v 0 rfl) (ap_cK (r := rL (rL rI)) (x := b) er_at (ev_v 3 rfl) hv1 ap_0) trivial) fun x hx => hx) (inP_of hp) (fun g hg => hg ▸ hSb)) same_er px2.2 fun w2 u2 v2 H3 hw2 px3 hu2 hv2 => ?_
    · obtain ⟨l, vs, h1, h2, h3⟩ := h
      exact .inl ⟨l, vs, h1, h2, Paired.mapP h3 fun _ _ q => .inl q⟩
    obtain ⟨w21, w22⟩ := w2
    obtain ⟨e1, e2⟩ := hw2
    cases (show w21 = p from e1)
    cases (show w22 = b from e2)
    refine cs_par3P (r := rR K) (q := r3 rI rI rI) (p := r3 rI rI rI) (P := Pt) (x := (p, bsdM a b)) (x2 := kindM p a) (x3 := kindM p b) (i := 6) (j := 7) (l := 8) sc__law_right.nd rfl rfl rfl (by decide) (by decide) (by decide) (ev_call D_beside (hr.mono (by decide)) (ea_c (ev_v 4 hu2) (ea_c (ev_v 5 hv2) ea_0)) ⟨rfl, hab, rw6 hSa.1, rw6 hSb.1⟩) (ev_call D_kind_of (hr.mono (by decide)) (ea_c (ev_v 4 hu2) ea_0) ⟨hp, hSa.1⟩) (ev_call D_kind_of (hr.mono (by decide)) (ea_c (ev_v 5 hv2) ea_0) ⟨hp, hSb.1⟩) px3.2 fun u3 v3 w3 H4 px4 hu3 hv3 hw3 => ?_
    have gr : ∀ {H5 : Hp}, Same (er Pt H4) H5 → (rL (rL rI)).rel K H5 v0 a := fun s => Rp.mono _ s (Rp.mono _ (px3.tr px4).er hv0')
    have ot : ∀ {H5 : Hp}, Same (er Pt H4) H5 → (rL (rL rI)).rel K H5 v1 b := fun s => Rp.mono _ s (Rp.mono _ (px3.tr px4).er hv1)
    have fi : ∀ {H5 : Hp}, Same (er Pt H4) H5 → (rR K).rel K H5 u2 (p, a) := fun s => Rp.mono _ s (Rp.mono _ px4.er hu2)
    have se : ∀ {H5 : Hp}, Same (er Pt H4) H5 → (rR K).rel K H5 v2 (p, b) := fun s => Rp.mono _ s (Rp.mono _ px4.er hv2)
    have bo : ∀ {H5 : Hp}, Same (er Pt H4) H5 → (rR K).rel K H5 u3 (p, bsdM a b) := fun s => Rp.mono _ s hu3
    have ne : ∀ {H5 : Hp}, Same (er Pt H4) H5 → (r3 rI rI rI).rel K H5 v3 (kindM p a) := fun s => Rp.mono _ s hv3
    have fa : ∀ {H5 : Hp}, Same (er Pt H4) H5 → (r3 rI rI rI).rel K H5 w3 (kindM p b) := fun s => Rp.mono _ s hw3
    have s0 : Same (er Pt H4) (er Pt H4) := Same.refl _
    obtain ⟨fdB, FB, okB⟩ := fn_beside (P := P) (w := w) (base := base) T
    obtain ⟨fdS, FS, okS⟩ := fn_scaled (P := P) (w := w) (base := base) T
    obtain ⟨fdT, FT, okT⟩ := fn_taken_off (P := P) (w := w) (base := base) T
    have kwB : KBn K fdB ["room", "other"] 0 ["other", "room"] (fun _ ws => swp true ws) (fun _ zs => swp true zs) := fun_kw true FB fun _ _ _ _ _ _ _ _ => rfl
    have kwS : KBn K fdS ["room", "rest"] 0 ["room", "rest"] (fun _ ws => swp false ws) (fun _ zs => swp false zs) := fun_kw false FS fun _ _ _ _ _ _ _ _ => rfl
    have kwT : KBn K fdT ["room", "other"] 0 ["room", "other"] (fun _ ws => swp false ws) (fun _ zs => swp false zs) := fun_kw false FT fun _ _ _ _ _ _ _ _ => rfl
    have ka := kind_ok (p := p) hpb.1 hSa.1.1
    have kb := kind_ok (p := p) hpb.1 hSb.1.1
    have kab := z_add hp hSa hSb hab
    have ed : ∀ {α : Type} [DecidableEq α] (x : α), (!decide (x = x)) = false := fun x => by rw [decide_eq_true rfl]; rfl
    have er2 : ∀ (x : Int × Tb), (!(decide (x.1 = x.1) && decide (x.2 = x.2))) = false := fun x => by rw [decide_eq_true rfl, decide_eq_true rfl]; rfl
    have cc : ∀ (k : Kd), -1 ≤ k.2.2 ∨ True := fun _ => .inr trivial
    have sg : ∀ {k : Kd}, KOk k → Sm k.2.2 := fun h => by
      unfold Sm
      rcases h.2 with e | e <;> rw [e] <;> decide
    refine cs_skipP (P := Pt) (EvT.is (et_w (ew_or (x := false) (y := false) (EvT.is (et_dne (r := rT (rT rI)) (x := bsdM a b) (y := bsdM a b) hr.units (ev_meth0 T M_Room_rows hmR (hr.mono (by decide)) (ev_v 6 (bo s0)) trivial) (ev_tupL (r := rT rI) (m_tuple T) (Ev.is (ev_lc1 (q := rT rI) (f := fun row : Rw => row) (j := 9) sc__law_right.nd (src_L (r := rL rI) (xs := bsdM a b) (ev_call D__law_beside (hr.mono (by decide)) (ea_c (ev_v 2 (gr s0)) (ea_c (ev_v 3 (ot s0)) ea_0)) ⟨⟨hSa.1.1, hSb.1.1⟩, rw6 hSa.1, rw6 hSb.1⟩)) (blkOk_by (N := ["_law_pot_here", "_law_prime", "_law_grid", "_law_other_here", "_law_first", "_law_second", "_law_both", "_law_near", "_law_far", "_law_row", "_law_rest", "_law_times", "_law_led_here", "_law_turned"]) (sc := defScope (top 108)) (by decide +kernel)) ⟨rfl, by first | exact Or.inl rfl | exact Or.inr rfl, by first | exact Or.inr rfl | exact Or.inl rfl⟩ fun s' Hs C cl fp x hx v H5 s5 hv => ev_tupL (X := Bk _ _ s' Hs C cl fp) (r := rI) (m_tuple T) (ev_v 9 hv)) (List.map_id' _)))) (ed _)) fun _ => ew_or1 (x := false) (EvT.is (et_neR (g := (p, bsdM a b)) (g' := (p, bsdM a b)) T (hr.mono (by decide)) M_Room___eq__ (ev_kw (r := rR K) (q := rR K) (x := (p, b)) (y := (p, a)) true okB kwB (hr.mono (by decide)) (T.gl 49 rfl) FB.kp (ev_v 5 (se s0)) (ev_v 4 (fi s0)) fun H1 s v w hv hw Q k => ⟨((p, a), (p, b), ()), ⟨_, _, rfl, hw, _, _, rfl, hv, rfl⟩, ⟨rfl, hab, rw6 hSa.1, rw6 hSb.1⟩, k⟩) (ev_v 6 (bo s0))) (er2 _)))) rfl) px4.2 fun H5 px5 => ?_
    have s5 := px5.er
    refine cs_skipP (P := Pt) (EvT.is (et_w (ew_or (x := false) (y := false) (EvT.is (et_dne (r := r3 rI rI rI) (x := kindM p (bsdM a b)) (y := addK (kindM p a) (kindM p b)) hr.units (ev_call D_kind_of (hr.mono (by decide)) (ea_c (ev_v 6 (bo s5)) ea_0) ⟨hp, hSab⟩) (ev_3 (ev_add (ev_t0 (ev_v 7 (ne s5))) (ev_t0 (ev_v 8 (fa s5)))) (ev_add (ev_t1 (ev_v 7 (ne s5))) (ev_t1 (ev_v 8 (fa s5)))) (ev_mul (ev_t2 (ev_v 7 (ne s5))) (ev_t2 (ev_v 8 (fa s5))) (sg ka)))) (by rw [kab]; exact ed _)) fun _ => ew_or1 (x := false) (EvT.is (et_ne (x := ((zrM p ((bsdM a b).length : Int) (bsdM a b)).length : Int)) (y := ((zrM p (a.length : Int) a).length : Int) + ((zrM p (b.length : Int) b).length : Int)) (ev_lenL (r := rT rI) (m_len T) (ev_meth0 T M_Room_still hmS (hr.mono (by decide)) (ev_v 6 (bo s5)) ⟨hp, hSab⟩)) (ev_add (ev_lenL (r := rT rI) (m_len T) (ev_meth0 T M_Room_still hmS (hr.mono (by decide)) (ev_v 4 (fi s5)) ⟨hp, hSa.1⟩)) (ev_lenL (r := rT rI) (m_len T) (ev_meth0 T M_Room_still hmS (hr.mono (by decide)) (ev_v 5 (se s5)) ⟨hp, hSb.1⟩)))) (by rw [z_still hp hSa hSb hab, decide_eq_true (by omega)]; rfl)))) rfl) px5.2 fun H6 px6 => ?_
    have s6 := s5.trans px6.er
    have ca := z_cts hp ka
    have cb := z_cts hp kb
    refine cs_skipP (P := Pt) (EvT.is (et_dne (r := rL rI) (x := ctsK p (kindM p (bsdM a b))) (y := foldM p (ctsK p (kindM p a)) (ctsK p (kindM p b))) hr.units (ev_call D_worth_counts (hr.mono (by decide)) (ea_c (ev_v 6 (bo s6)) ea_0) ⟨hp, hSab⟩) (ev_call D__law_folded (hr.mono (by decide)) (ea_c (ev_v 1 (r := rI) (d := p) rfl) (ea_c (ev_call D_worth_counts (hr.mono (by decide)) (y := ctsK p (kindM p a)) (ea_c (ev_v 4 (fi s6)) ea_0) ⟨hp, hSa.1⟩) (ea_c (ev_call D_worth_counts (hr.mono (by decide)) (y := ctsK p (kindM p b)) (ea_c (ev_v 5 (se s6)) ea_0) ⟨hp, hSb.1⟩) ea_0))) ⟨⟨by omega, hpb.2⟩, ⟨ca.1, cb.1⟩, ca.2⟩)) (by rw [kab, z_fold hp hSa hSb hab]; exact ed _)) px6.2 fun H7 px7 => ?_
    have s7 := s6.trans px7.er
    refine cs_setP (P := Pt) (i := 10) sc__law_right.nd rfl (evp_add er_at (evp (x := 1) ev_i) fun _ _ => evp_call D__law_draw (hr.mono (by decide)) er_at (ev_v 0 rfl) (ap_c (x := p - 1) er_at (ev_sub (ev_v 1 (r := rI) (d := p) rfl) ev_i) ap_0) (show 1 ≤ p - 1 ∧ p - 1 ≤ 1000 by omega)) same_er px7.2 fun rr vr H8 hrr px8 hvr => ?_
    cases (show vr = V.int rr from hvr)
    obtain ⟨_, z3, rfl, hz3, rfl⟩ := hrr
    replace hz3 : 0 ≤ z3 ∧ z3 < p - 1 := hz3
    have hrb : 0 < 1 + z3 ∧ 1 + z3 < p := by omega
    generalize 1 + z3 = rr at hrb
    have s8 := s7.trans px8.er
    have hsc := z_scd hp hSa hrb
    have scq : ∀ {r : Int}, SqOk p (scdM p a r) := ⟨by unfold scdM; rw [List.length_map]; exact hSa.1.1, fun row hr => by
      unfold scdM at hr ⊢
      obtain ⟨z, hz, rfl⟩ := List.mem_map.mp hr
      rw [List.length_map, List.length_map]
      refine ⟨(hSa.1.2 z hz).1, fun x hx => ?_⟩
      obtain ⟨y, _, rfl⟩ := List.mem_map.mp hx
      exact ⟨Int.emod_nonneg _ (by omega), Int.emod_lt_of_pos _ (by omega)⟩⟩
    refine cs_setP (P := Pt) (i := 11) sc__law_right.nd rfl (evp (r := rR K) (x := (p, scdM p a rr)) (ev_kw (r := rR K) (q := rI) (x := (p, a)) (y := rr) false okS kwS (hr.mono (by decide)) (T.gl 50 rfl) FS.kp (ev_v 4 (fi s8)) (ev_v 10 rfl) fun H1 s v w hv hw Q k => ⟨((p, a), rr, ()), ⟨_, _, rfl, hv, _, _, rfl, hw, rfl⟩, ⟨⟨by show 0 < p; omega, hpb.2⟩, by omega, hrb.2⟩, k⟩)) same_er px8.2 fun xt vt H9 hxt px9 hvt => ?_
    cases (show xt = _ from hxt)
    have s9 := s8.trans px9.er
    refine cs_skipP (P := Pt) (EvT.is (et_w (ew_or (x := false) (y := false) (EvT.is (et_dne (r := r3 rI rI rI) (x := kindM p (scdM p a rr)) (y := ((kindM p a).1, (kindM p a).2.1, (kindM p a).2.2 * (if (kindM p a).2.1 % 2 = 1 then sgnM p rr else 1))) hr.units (ev_call D_kind_of (hr.mono (by decide)) (ea_c (ev_v 11 hvt) ea_0) ⟨hp, scq⟩) (ev_3 (ev_t0 (ev_v 7 (ne s9))) (ev_t1 (ev_v 7 (ne s9))) (ev_mul (ev_t2 (ev_v 7 (ne s9))) (ev_if (x := if (kindM p a).2.1 % 2 = 1 then sgnM p rr else 1) (et_eq (ev_mod (ev_intI (m_int T) (ev_t1 (ev_v 7 (ne s9)))) ev_i (by decide)) ev_i) (fun q => Ev.is (ev_call D_sign_rest (hr.mono (by decide)) (y := sgnM p rr) (ea_c (ev_v 1 (r := rI) (d := p) rfl) (ea_c (ev_v 10 (r := rI) (d := rr) rfl) ea_0)) ⟨⟨inP_of hp, hpb⟩, by omega, hrb.2⟩) (by rw [if_pos (of_decide_eq_true q)])) fun q => Ev.is ev_i (by rw [if_neg (of_decide_eq_false q)])) (sg ka)))) (by rw [hsc]; exact ed _)) fun _ => ew_or1 (x := false) (EvT.is (et_ne (x := ((stM p (scdM p a 0)).length : Int)) (y := 0) (ev_prop T M_Room_rank pK (hr.mono (by decide)) (ev_call D_scaled (hr.mono (by decide)) (y := (p, scdM p a 0)) (ea_c (ev_v 4 (fi s9)) (ea_c ev_i ea_0)) ⟨⟨by show 0 < p; omega, hpb.2⟩, by show (0 : Int) ≤ 0; decide, by show 0 < p; omega⟩) ⟨hp, scq⟩) ev_i) (by rw [z_zero (by omega) hSa.1]; rfl)))) rfl) px9.2 fun H10 px10 => ?_
    have s10 := s9.trans px10.er
    refine cs_setP (P := Pt) (i := 12) sc__law_right.nd rfl (evp_meth1 (q := rS (rS rI)) (q' := rL (rL rI)) T M_Room_led hmL (hr.mono (by decide)) er_at (ev_v 5 (se s10)) (evp_p0 (evp_call D__law_letters (hr.mono (by decide)) er_at (ev_v 0 rfl) (ap_c (x := p) er_at (ev_v 1 rfl) (ap_c (x := (b.length : Int)) er_at (ev_lenL (r := rL rI) (m_len T) (ev_v 3 (ot s10))) ap_0)) ⟨hp, b.length, rfl, hSb.1.1⟩)) (fun h => ?_) fun t ht => ?_) same_er px10.2 fun xl vl H11 hxl px11 hvl => ?_
    · obtain ⟨l, vs, h1, h2, h3⟩ := h
      exact .inl ⟨l, vs, h1, h2, Paired.mapP h3 fun _ _ q => .inl q⟩
    · obtain ⟨_, ht⟩ := ht
      have ht' : LetM p b.length t := by
        have this : LetM p ((b.length : Nat) : Int).toNat t := ht
        rw [Int.toNat_natCast] at this
        exact this
      have h5 := ht'.ok hpb.1
      exact ⟨⟨by show 0 < p; omega, hpb.2⟩, by show widM b ≤ 1000; rw [hSb.1.wid]; omega, ⟨by have := h5.2; have := hSb.1.1; omega, fun row hr => by rw [h5.2]; exact h5.1 row hr⟩, h5.2⟩
    obtain ⟨t, ⟨_, ht⟩, rfl⟩ := hxl
    have ht' : LetM p b.length t := by
      have this : LetM p ((b.length : Nat) : Int).toNat t := ht
      rw [Int.toNat_natCast] at this
      exact this
    obtain ⟨hSc, hlc, hkc⟩ := z_led hp hSb ht'
    replace hvl : (rR K).rel K (er Pt H11) vl (p, btsM p b t) := hvl
    generalize btsM p b t = c at hSc hlc hkc hvl
    have s11 := s10.trans px11.er
    have o2 := z_off2 hp hSa hSb hab hkc
    have o1 := z_off1 hp hSa hSb hab
    have e1o : (tofM p (bsdM a b) a).map (fun t => (p, t)) = some (p, plnM p (kindM p b)) := by rw [o1]; rfl
    refine cs_skipP (P := Pt) (EvT.is (et_w (ew_or (x := false) (y := false) (EvT.is (et_neR (g := (p, plnM p (kindM p a))) (g' := (p, plnM p (kindM p a))) T (hr.mono (by decide)) M_Room___eq__ (ev_weak (r := rO (rR K)) (q := rR K) (x := some (p, plnM p (kindM p a))) (ev_call D_taken_off (hr.mono (by decide)) (hy := by show (tofM p (bsdM a b) c).map _ = _; rw [o2]; rfl) (ea_c (ev_v 6 (bo s11)) (ea_c (ev_v 12 hvl) ea_0)) ⟨rfl, ⟨hp, hSab⟩, hSc.1⟩) fun h => h.2) (ev_call D_plain_room (hr.mono (by decide)) (ea_c (ev_v 4 (fi s11)) ea_0) ⟨hp, hSa.1⟩)) (er2 _)) fun _ => ew_or1 (x := false) (EvT.is (et_neR (g := (p, plnM p (kindM p b))) (g' := (p, plnM p (kindM p b))) T (hr.mono (by decide)) M_Room___eq__ (ev_weak (r := rO (rR K)) (q := rR K) (x := some (p, plnM p (kindM p b))) (ev_kw (r := rR K) (q := rR K) (x := (p, bsdM a b)) (y := (p, a)) false okT kwT (hr.mono (by decide)) (T.gl 51 rfl) FT.kp (ev_v 6 (bo s11)) (ev_v 4 (fi s11)) fun H1 s v w hv hw Q k => ⟨((p, bsdM a b), (p, a), ()), ⟨_, _, rfl, hv, _, _, rfl, hw, rfl⟩, ⟨rfl, ⟨hp, hSab⟩, hSa.1⟩, fun v H2 s2 hv => k v H2 s2 (e1o ▸ hv)⟩) fun h => h.2) (ev_call D_plain_room (hr.mono (by decide)) (ea_c (ev_v 5 (se s11)) ea_0) ⟨hp, hSb.1⟩)) (er2 _)))) rfl) px11.2 fun H12 px12 => ?_
    have s12 := s11.trans px12.er
    have hvl12 := Rp.mono _ px12.er hvl
    refine cs_setP (P := Pt) (i := 13) sc__law_right.nd rfl (evp (r := rR K) (x := (p, bsdM b a)) (ev_call D_beside (hr.mono (by decide)) (ea_c (ev_v 5 (se s12)) (ea_c (ev_v 4 (fi s12)) ea_0)) ⟨rfl, by show b.length + a.length ≤ 6; omega, rw6 hSb.1, rw6 hSa.1⟩)) same_er px12.2 fun xu vu H13 hxu px13 hvu => ?_
    cases (show xu = _ from hxu)
    have s13 := s12.trans px13.er
    have hvl13 := Rp.mono _ px13.er hvl12
    have hcm := z_comm hp hSa hSb hab
    refine cs_skipP (P := Pt) (EvT.is (et_dne (r := rIIB) (x := (kprK p (kindM p (bsdM b a)), prsK p (kindM p (bsdM b a)), decide (kindM p (bsdM b a) = kindM p (bsdM a b)))) (y := (kprK p (kindM p (bsdM a b)), prsK p (kindM p (bsdM a b)), true)) hr.units (ev_IIB (ev_call D_keeper_count (hr.mono (by decide)) (ea_c (ev_v 13 hvu) ea_0) ⟨hp, hSba⟩) (ev_call D_pair_count (hr.mono (by decide)) (ea_c (ev_v 13 hvu) ea_0) ⟨hp, hSba⟩) (ev_call D_alike (hr.mono (by decide)) (ea_c (ev_v 13 hvu) (ea_c (ev_v 6 (bo s13)) ea_0)) ⟨rfl, ⟨hp, hSba⟩, hSab⟩)) (ev_IIB (ev_call D_keeper_count (hr.mono (by decide)) (ea_c (ev_v 6 (bo s13)) ea_0) ⟨hp, hSab⟩) (ev_call D_pair_count (hr.mono (by decide)) (ea_c (ev_v 6 (bo s13)) ea_0) ⟨hp, hSab⟩) ev_bl)) (by rw [hcm, decide_eq_true rfl]; exact ed _)) px13.2 fun H14 px14 => ?_
    have s14 := s13.trans px14.er
    have hvl14 := Rp.mono _ px14.er hvl13
    have tk1 : TakF p a b c := z_tak hp hSa hSb hSc ⟨by omega, by omega, by omega⟩
    have tk2 : TakF p b a a := z_tak hp hSb hSa hSa ⟨by omega, by omega, by omega⟩
    have pxA := (((((((((((((px1.tr px2).tr px3).tr px4).tr px5).tr px6).tr px7).tr px8).tr px9).tr px10).tr px11).tr px12).tr px13).tr px14)
    refine cs_retP (P := Pt) (evp (r := rB) (x := true) (ev_and (x := true) (y := true) (ev_call D__law_taken_right (hr.mono (by decide)) (x := ((p, a), (p, b), (p, c), ())) (ea_c (ev_v 4 (fi s14)) (ea_c (ev_v 5 (se s14)) (ea_c (ev_v 12 hvl14) ea_0))) ⟨⟨rfl, rfl⟩, tk1⟩) fun _ => ev_one (ev_call D__law_taken_right (hr.mono (by decide)) (x := ((p, b), (p, a), (p, a), ())) (ea_c (ev_v 5 (se s14)) (ea_c (ev_v 4 (fi s14)) (ea_c (ev_v 4 (fi s14)) ea_0))) ⟨⟨rfl, rfl⟩, tk2⟩))) same_er px14.2 fun res v H15 hres px15 hv => kk res v H15 hres (pxA.tr px15) hv
section
variable {X : Cx} {σ : L2.St} {H : Hp} {pos p2 : Pos} {e e2 : Expr} {Q : VK}
theorem cE_call1 {k : Nat} {n : Str} {ps : List Str} {sp : Sp} (D : Df X.prog X.w X.K X.mg X.base k n ps sp) (hr : Room k X.A) (h : cE X e σ H fun v H1 => sp [v] H1 Q E0) (hg : Gl X n := by rfl) (hdb : (n == ("__debug__" : Str)) = false := by decide)
    (he : starEach [e] X.env = (false, eval e X.env) :: starEach [] X.env := by rfl) : cE X (.Call (.Name n p2) [e] [] pos) σ H Q := by
  obtain ⟨f, fd, hm, hk, hb, F⟩ := D.ex
  exact cE_of (pe_call F hr hg hm hk hb .nil pass0 (pa_cons cE_pe pa_nil he) hdb he rfl) h
theorem cE_call2 {k : Nat} {n : Str} {ps : List Str} {sp : Sp} (D : Df X.prog X.w X.K X.mg X.base k n ps sp) (hr : Room k X.A) (h : cE X e σ H fun v H1 => cE X e2 σ H1 fun w H2 => sp [v, w] H2 Q E0) (hg : Gl X n := by rfl) (hdb : (n == ("__debug__" : Str)) = false := by decide)
    (he : starEach [e, e2] X.env = (false, eval e X.env) :: starEach [e2] X.env := by rfl) (he2 : starEach [e2] X.env = (false, eval e2 X.env) :: starEach [] X.env := by rfl) (hpl : (backTo pos (starEach [e2] X.env)).any (·.1) = false := by rfl) : cE X (.Call (.Name n p2) [e, e2] [] pos) σ H Q := by
  obtain ⟨f, fd, hm, hk, hb, F⟩ := D.ex
  exact cE_of (pe_call F hr hg hm hk hb .nil pass0 (pa_cons cE_pe (pa_cons cE_pe pa_nil he2) he) hdb he hpl) h
end
def spLaw (K : Fr) : Sp := fun vs H Q _ => ∃ (S : Addr) (ns : List Int), vs = [.ref S] ∧ SqL K H S (ns.map V.int) ∧ ns.length ≤ 100000 ∧ ∀ H2, Q (.bl true) H2
abbrev sp_law (K : Fr) : Sp := spLaw K
theorem sc_law : FnScope ["_law_script"] ["_law_script"] (defScope (top 109)) := ⟨rfl, rfl, rfl, by decide +kernel, rfl, by decide +kernel, by decide +kernel⟩
theorem fn_law {P : Program} {w : World} {K : Fr} {mg : Str → Option Value} {base : Heap} (T : Tx K mg) : ∃ fd, FunD K d87.name d87.qual d87.params d87.body d87.scope [] [] (d87.at_ K) fd ∧ FnOk P w K mg base CX0 17 (d87.at_ K) fd ["_law_script"] (sp_law K) := by
  have D__law_pot := df__law_pot (P := P) (w := w) (base := base) T
  have D__law_right := df__law_right (P := P) (w := w) (base := base) T
  obtain ⟨fd, F⟩ := T.dx 87 (d := d87) rfl
  refine ⟨fd, F, ?_⟩
  refine F.ok sc_law (fun vs H Q E h => ?_) (fun cdv A outer s H vs Q E hr h => ⟨_, PSs.nox cS_pss, ?_⟩)
  · obtain ⟨S, ns, rfl, _⟩ := h
    rfl
  · obtain ⟨S, ns, rfl, hS, hl, kk⟩ := h
    refine cs_one (ps_ret cE_pe) (cE_call1 D__law_right (hr.mono (by decide)) (cE_call2 D__law_pot (hr.mono (by decide)) (ev_go (ev_v (r := rV (.ref S)) (d := ()) 0 rfl) fun v H1 s1 hv => ev_go (ev_i (i := 0)) fun w H2 s2 hw => ?_)))
    cases (show v = V.ref S from hv)
    cases (show w = V.int 0 from hw)
    refine ⟨S, ns, rfl, (s1.trans s2).seq hS, hl, fun Pt H3 hPt s3 hp => ⟨Pt, [], (), rfl, hp, rfl, trivial, fun y v H4 hy px hv => ?_⟩⟩
    cases (show y = true from hy)
    cases (show v = V.bl true from hv)
    exact kk H4
theorem df_law {P : Program} {w : World} {K : Fr} {mg : Str → Option Value} {base : Heap} (T : Tx K mg) : Df P w K mg base 17 "law" ["_law_script"] (sp_law K) := by
  obtain ⟨fd, F, ok⟩ := fn_law (P := P) (w := w) (base := base) T
  exact ⟨_, fd, T.gl 81 rfl, F.kp, F.bindsN (fun _ _ _ _ _ _ us hl => match us, hl with | [_], _ => rfl), ok⟩
end K06
/-! ==== HR ==== -/
set_option Elab.async false
set_option linter.all false
set_option maxRecDepth 100000
set_option maxHeartbeats 0
namespace K06
open PySem L2 PySem.Spec PyProof.Rows RZ
theorem run (w : World) : HandSHeadRun.RunEq RR (PySem.W.view RR.prog [109]) hk ob 6000 names w := by
  intro os
  kernel_rfl
end K06
/-! ==== J ==== -/
set_option Elab.async false
set_option linter.all false
set_option maxRecDepth 100000
set_option maxHeartbeats 0
namespace K06
open PySem L2 PySem.Spec PyProof.Rows RZ
theorem facts {P : Program} {w : World} {K : PySem.W.Frag} {h : Heap} {mg : Str → Option Value} {f : Addr} (X : K.In h) (G : h.Ns mainGlobals mg) (hfa : mg ("law" : Str) = some (.ref f)) (c : Says K) :
    ∃ fd : FuncData, (∀ (s : Shared) (v : Value), BindsTo s fd ⟨[v], []⟩ [(("_law_script" : Str), v)]) ∧ ∀ base : Heap, K.In base → base.Ns mainGlobals mg → FnOk P w K mg base CX0 17 f fd ["_law_script"] (spLaw K) := by
  have T : Tx K mg := ⟨c, h, X, G⟩
  have e := hfa.symm.trans (T.gl 81 rfl)
  cases e
  obtain ⟨fd, F⟩ := T.dx 87 (d := d87) rfl
  have b := FunD.bindsA (ps := ["_law_script"]) F fun _ _ _ _ _ _ us hl => match us, hl with | [_], _ => rfl
  refine ⟨fd, fun s v => b s [v] rfl, fun base _ _ => ?_⟩
  obtain ⟨fd', F', ok⟩ := fn_law (P := P) (w := w) (base := base) T
  obtain ⟨_, _, _, _, _, _, _, _, _, _, e1, l1, _⟩ := F.ex
  obtain ⟨_, _, _, _, _, _, _, _, _, _, e2, l2, _⟩ := F'.ex
  have e3 := Option.some.inj (l1.symm.trans l2)
  have e4 : fd = fd' := by
    injection e3 with _ _ e5 _
    injection e5
  exact e4 ▸ ok
end K06
open PySem PySem.W PySem.Calls PyProof.Rows
theorem PySem.Challenge.cw_restkeepers_k06_whole_side_by_side_and_t_holds : PySem.Challenge.rw_restkeepers_k06_whole_side_by_side_and_t.Holds := by
  w_on; o_law
  refine HandSHeadRun.head_any (r := OpenLaw.row PySem.Challenge.rw_restkeepers_k06_whole_side_by_side_and_t) (q := view (OpenLaw.row PySem.Challenge.rw_restkeepers_k06_whole_side_by_side_and_t).prog [109]) (H := K06.hk) (ob := K06.ob) (M := 6000) (loose := K06.names) (d := HandSHeadRun.topDef (OpenLaw.row PySem.Challenge.rw_restkeepers_k06_whole_side_by_side_and_t).prog 109) (kwd := []) K06.ob_eq
    (by kernel_rfl) (fun s => by kernel_rfl) K06.run (by kernel_rfl) (by kernel_rfl) (by kernel_rfl) (by rfl) (by first | assumption | decide +kernel) (by decide +kernel) ⟨rfl, rfl, rfl, rfl, rfl, by decide +kernel⟩ ?hw ?hc
  case hw => w_witness2
  case hc =>
    refine L2.walk_ofE (l := PySem.Challenge.rw_restkeepers_k06_whole_side_by_side_and_t) (n := 63) (k := 17) (x := "_law_script") (CX := L2.CX0) rfl (by decide) (by kernel_rfl) ⟨rfl, by decide, by decide⟩ ?F (fun _ _ _ _ z => z)
    intro w mg fa h Y G hmg0
    obtain ⟨K, KX, c⟩ := Y
    have hmg : mg ("law" : PySem.Str) = some (.ref fa) := by
      have e : (HandSHeadRun.topDef (OpenLaw.row PySem.Challenge.rw_restkeepers_k06_whole_side_by_side_and_t).prog 109).name = ("law" : PySem.Str) := by kernel_rfl
      rw [← e]
      exact hmg0
    obtain ⟨fd, hb, hF⟩ := K06.facts (P := (PySem.Challenge.rw_restkeepers_k06_whole_side_by_side_and_t).prog) (w := w) KX G hmg c
    exact ⟨K, fd, K06.spLaw K, KX, hb, fun H a ns hl _ hS => ⟨a, ns, rfl, hS, by omega, fun _ => rfl⟩, hF⟩
