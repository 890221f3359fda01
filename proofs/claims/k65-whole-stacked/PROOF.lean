import PyProof.Rows.All
import Wide.All
import OpenK.AllK
import Wide.FinOn
import HandS.ForMost
import HandS.Walk
import HandS.Wide
import HandS.Zip
import HandS.NoneIn
import HandS.TupAny
import HandS.IsInst
import HandS.Defaults
import KE.KDictKeyed
import KE.KEqNest
import HandS.Conv
import HandS.TupSets
import KE.SortData
import KE.IntBitsLaws
import PySem.Challenge.RW_scissorhall_k65_whole_stacked
import KE.KStateDown
import Lean
import HandS.Base
import HandS.Call
import HandS.Ends
import HandS.More
import HandS.Words
import HandS.WordsExc
import HandS.Head0
import HandS.Head1
import HandS.Head2
import HandS.HeadEnd
import HandS.HeadHook1
import HandS.HeadHook2
/-! the mathematics: rows in lowest form, lines, planes, formal sums of ends (plain Lean) -/
set_option maxRecDepth 10000
namespace Ma
/-! ### rows in lowest form -/
def gcdF (g : Nat) (ns : List Int) : Nat := ns.foldl (fun g x => Nat.gcd g x.natAbs) g
def gcdL (ns : List Int) : Nat := gcdF 0 ns
def low (ns : List Int) : List Int := ns.map fun x => x / (gcdL ns : Int)
theorem gcdF_cons (g : Nat) (x : Int) (ns : List Int) : gcdF g (x :: ns) = gcdF (Nat.gcd g x.natAbs) ns := rfl
theorem gcdF_eq : ∀ (ns : List Int) (g : Nat), gcdF g ns = Nat.gcd g (gcdL ns)
  | [], g => by simp [gcdL, gcdF]
  | x :: ns, g => by
    have h1 := gcdF_eq ns (Nat.gcd g x.natAbs)
    have h2 := gcdF_eq ns (Nat.gcd 0 x.natAbs)
    show gcdF (Nat.gcd g x.natAbs) ns = Nat.gcd g (gcdF (Nat.gcd 0 x.natAbs) ns)
    rw [h1, h2, Nat.gcd_zero_left, Nat.gcd_assoc]
theorem gcdL_cons (x : Int) (ns : List Int) : gcdL (x :: ns) = Nat.gcd x.natAbs (gcdL ns) := by
  show gcdF (Nat.gcd 0 x.natAbs) ns = _
  rw [gcdF_eq, Nat.gcd_zero_left]
theorem gcdL_nil : gcdL [] = 0 := rfl
theorem gcdL_dvd : ∀ {ns : List Int} {x : Int}, x ∈ ns → (gcdL ns : Int) ∣ x
  | y :: ns, x, h => by
    rw [gcdL_cons]
    rcases List.mem_cons.mp h with rfl | h
    · exact Int.ofNat_dvd_left.mpr (Nat.gcd_dvd_left _ _)
    · have h1 := gcdL_dvd (ns := ns) h
      exact Int.ofNat_dvd_left.mpr (Nat.dvd_trans (Nat.gcd_dvd_right _ _) (Int.ofNat_dvd_left.mp h1))
theorem gcdL_scale (k : Int) : ∀ ns : List Int, gcdL (ns.map (k * ·)) = k.natAbs * gcdL ns
  | [] => rfl
  | x :: ns => by
    rw [List.map_cons, gcdL_cons, gcdL_cons, gcdL_scale k ns, Int.natAbs_mul, Nat.gcd_mul_left]
theorem gcdL_neg : ∀ ns : List Int, gcdL (ns.map (- ·)) = gcdL ns
  | [] => rfl
  | x :: ns => by
    rw [List.map_cons, gcdL_cons, gcdL_cons, gcdL_neg ns, Int.natAbs_neg]
theorem low_scale {k : Int} (hk : 0 < k) (ns : List Int) : low (ns.map (k * ·)) = low ns := by
  unfold low
  rw [gcdL_scale, List.map_map]
  refine List.map_congr_left fun x _ => ?_
  show k * x / ((k.natAbs * gcdL ns : Nat) : Int) = _
  rw [Int.natCast_mul, Int.natAbs_of_nonneg (Int.le_of_lt hk), Int.mul_ediv_mul_of_pos _ _ hk]
theorem low_neg (ns : List Int) : low (ns.map (- ·)) = (low ns).map (- ·) := by
  unfold low
  rw [gcdL_neg, List.map_map, List.map_map]
  refine List.map_congr_left fun x hx => ?_
  show -x / _ = -(x / _)
  exact Int.neg_ediv_of_dvd (gcdL_dvd hx)
theorem low_prop {a b : Int} {u v : List Int} (ha : 0 < a) (hb : 0 < b) (h : u.map (a * ·) = v.map (b * ·)) : low u = low v := by
  rw [← low_scale ha u, ← low_scale hb v, h]
theorem gcdL_pos {ns : List Int} {x : Int} (h : x ∈ ns) (hx : x ≠ 0) : 0 < gcdL ns := by
  rcases Nat.eq_zero_or_pos (gcdL ns) with e | e
  · have h1 := gcdL_dvd h
    rw [e] at h1
    exact absurd (Int.zero_dvd.mp h1) hx
  · exact e
theorem low_back (ns : List Int) : (low ns).map ((gcdL ns : Int) * ·) = ns := by
  unfold low
  rw [List.map_map]
  conv => rhs; rw [← List.map_id ns]
  exact List.map_congr_left fun x hx => Int.mul_ediv_cancel' (gcdL_dvd hx)
theorem low_gcd {ns : List Int} (h : 0 < gcdL ns) : gcdL (low ns) = 1 := by
  have h1 := gcdL_scale (gcdL ns : Int) (low ns)
  rw [low_back, Int.natAbs_natCast] at h1
  exact Nat.eq_of_mul_eq_mul_left h (by omega)
theorem low_one {ns : List Int} (h : gcdL ns = 1) : low ns = ns := by
  unfold low
  rw [h]
  conv => rhs; rw [← List.map_id ns]
  exact List.map_congr_left fun x _ => Int.ediv_one x
theorem low_low {ns : List Int} (h : 0 < gcdL ns) : low (low ns) = low ns := low_one (low_gcd h)
theorem gcdL_zero : ∀ {ns : List Int}, gcdL ns = 0 → ∀ x ∈ ns, x = 0
  | y :: ns, h, x, hx => by
    rw [gcdL_cons] at h
    obtain ⟨h1, h2⟩ := Nat.gcd_eq_zero_iff.mp h
    rcases List.mem_cons.mp hx with rfl | hx
    · omega
    · exact gcdL_zero h2 x hx
/-- a row of noughts is left as it is by the division -/
theorem low_zero {ns : List Int} (h : gcdL ns = 0) : low ns = ns := by
  unfold low
  conv => rhs; rw [← List.map_id ns]
  refine List.map_congr_left fun x hx => ?_
  rw [gcdL_zero h x hx]
  exact Int.zero_ediv _
theorem low_small {ns : List Int} (h : gcdL ns < 2) : low ns = ns := by
  rcases (by omega : gcdL ns = 0 ∨ gcdL ns = 1) with e | e
  · exact low_zero e
  · exact low_one e
/-! ### the sign of the first number that is not nought -/
def neg1 : List Int → Bool
  | [] => false
  | x :: r => if 0 < x then false else if x < 0 then true else neg1 r
def up (ns : List Int) : List Int := if neg1 ns = true then ns.map (- ·) else ns
theorem neg_neg_row (ns : List Int) : (ns.map (- ·)).map (- ·) = ns := by
  rw [List.map_map]
  conv => rhs; rw [← List.map_id ns]
  exact List.map_congr_left fun x _ => Int.neg_neg x
theorem neg1_neg : ∀ ns : List Int, neg1 ns = true → neg1 (ns.map (- ·)) = false
  | x :: r, h => by
    simp only [neg1, List.map_cons] at h ⊢
    by_cases h1 : 0 < x
    · simp [h1] at h
    · by_cases h2 : x < 0
      · rw [if_pos (show 0 < -x by omega)]
      · have h3 : ¬ 0 < -x := by omega
        have h4 : ¬ -x < 0 := by omega
        simp only [h1, h2, h3, h4, if_false] at h ⊢
        exact neg1_neg r h
theorem neg1_both : ∀ ns : List Int, neg1 ns = false → neg1 (ns.map (- ·)) = false → ns.map (- ·) = ns
  | [], _, _ => rfl
  | x :: r, h, h' => by
    simp only [neg1, List.map_cons] at h h' ⊢
    by_cases h1 : 0 < x
    · rw [if_neg (show ¬ 0 < -x by omega), if_pos (show -x < 0 by omega)] at h'
      cases h'
    · by_cases h2 : x < 0
      · simp [h1, h2] at h
      · have h3 : ¬ 0 < -x := by omega
        have h4 : ¬ -x < 0 := by omega
        have h5 : x = 0 := by omega
        simp only [h1, h2, h3, h4, if_false] at h h'
        rw [neg1_both r h h', h5]
        rfl
theorem up_neg (ns : List Int) : up (ns.map (- ·)) = up ns := by
  unfold up
  cases h : neg1 ns with
  | true => rw [neg1_neg ns h, if_neg Bool.false_ne_true, if_pos rfl]
  | false =>
    cases h' : neg1 (ns.map (- ·)) with
    | true => rw [if_pos rfl, if_neg Bool.false_ne_true, neg_neg_row]
    | false => rw [if_neg Bool.false_ne_true, if_neg Bool.false_ne_true, neg1_both ns h h']
def canon (ns : List Int) : List Int := up (low ns)
theorem canon_scale {k : Int} (hk : k ≠ 0) (ns : List Int) : canon (ns.map (k * ·)) = canon ns := by
  unfold canon
  rcases (by omega : 0 < k ∨ 0 < -k) with h | h
  · rw [low_scale h]
  · have e : ns.map (k * ·) = (ns.map (- ·)).map ((-k) * ·) := by
      rw [List.map_map]
      refine List.map_congr_left fun x _ => ?_
      show k * x = -k * -x
      rw [Int.neg_mul_neg]
    rw [e, low_scale h, low_neg, up_neg]
theorem canon_prop {a b : Int} {u v : List Int} (ha : a ≠ 0) (hb : b ≠ 0) (h : u.map (a * ·) = v.map (b * ·)) : canon u = canon v := by
  rw [← canon_scale ha u, ← canon_scale hb v, h]
theorem canon_to {b : Int} {u v : List Int} (hb : b ≠ 0) (h : u = v.map (b * ·)) : canon u = canon v := by
  rw [h, canon_scale hb]
/-! ### points -/
structure P4 where
  x : Int
  y : Int
  z : Int
  w : Int
  deriving DecidableEq
def P4.l (p : P4) : List Int := [p.x, p.y, p.z, p.w]
theorem P4.ext {p q : P4} (h1 : p.x = q.x) (h2 : p.y = q.y) (h3 : p.z = q.z) (h4 : p.w = q.w) : p = q := by
  cases p; cases q; simp_all
theorem P4.l_inj {p q : P4} (h : p.l = q.l) : p = q := by
  unfold P4.l at h
  simp only [List.cons.injEq] at h
  exact P4.ext h.1 h.2.1 h.2.2.1 h.2.2.2.1
def mk4 (x y z w : Int) : P4 := ⟨x / (gcdL [x, y, z, w] : Int), y / (gcdL [x, y, z, w] : Int), z / (gcdL [x, y, z, w] : Int), w / (gcdL [x, y, z, w] : Int)⟩
theorem mk4_l (x y z w : Int) : (mk4 x y z w).l = low [x, y, z, w] := rfl
theorem mk4_of (x y z w : Int) (hw : 0 < w) : ∃ g : Int, 0 < g ∧ g * (mk4 x y z w).x = x ∧ g * (mk4 x y z w).y = y ∧ g * (mk4 x y z w).z = z ∧ g * (mk4 x y z w).w = w ∧ 0 < (mk4 x y z w).w := by
  have hg : 0 < gcdL [x, y, z, w] := gcdL_pos (x := w) (by simp) (by omega)
  have e : (gcdL [x, y, z, w] : Int) * (mk4 x y z w).w = w := Int.mul_ediv_cancel' (gcdL_dvd (by simp))
  refine ⟨gcdL [x, y, z, w], by omega, Int.mul_ediv_cancel' (gcdL_dvd (by simp)), Int.mul_ediv_cancel' (gcdL_dvd (by simp)), Int.mul_ediv_cancel' (gcdL_dvd (by simp)), e, ?_⟩
  have h1 : 0 < (gcdL [x, y, z, w] : Int) * (mk4 x y z w).w := by rw [e]; exact hw
  exact Int.pos_of_mul_pos_right h1 (by omega)
/-- a point in its one form -/
def P4.Ok (p : P4) : Prop := 0 < p.w ∧ gcdL p.l = 1
theorem mk4_ok (x y z w : Int) (hw : 0 < w) : (mk4 x y z w).Ok := by
  obtain ⟨g, _, _, _, _, _, h⟩ := mk4_of x y z w hw
  exact ⟨h, by rw [mk4_l]; exact low_gcd (gcdL_pos (x := w) (by simp) (by omega))⟩
theorem P4.Ok.low {p : P4} (h : p.Ok) : low p.l = p.l := low_one h.2
def add (p a : P4) : P4 := mk4 (p.x * a.w + a.x * p.w) (p.y * a.w + a.y * p.w) (p.z * a.w + a.z * p.w) (p.w * a.w)
/-- q is the point p pushed by the way (ax, ay, az) / aw, told without a common divisor's form -/
structure Pushed (p a q : P4) (g : Int) : Prop where
  g0 : 0 < g
  x : g * q.x = p.x * a.w + a.x * p.w
  y : g * q.y = p.y * a.w + a.y * p.w
  z : g * q.z = p.z * a.w + a.z * p.w
  w : g * q.w = p.w * a.w
  w0 : 0 < q.w
theorem add_pushed {p a : P4} (hp : 0 < p.w) (ha : 0 < a.w) : ∃ g, Pushed p a (add p a) g := by
  obtain ⟨g, h0, h1, h2, h3, h4, h5⟩ := mk4_of (p.x * a.w + a.x * p.w) (p.y * a.w + a.y * p.w) (p.z * a.w + a.z * p.w) (p.w * a.w) (Int.mul_pos hp ha)
  exact ⟨g, h0, h1, h2, h3, h4, h5⟩
theorem add_ok {p a : P4} (hp : 0 < p.w) (ha : 0 < a.w) : (add p a).Ok := mk4_ok _ _ _ _ (Int.mul_pos hp ha)
theorem ok_eq {p q : P4} {a b : Int} (hp : p.Ok) (hq : q.Ok) (ha : 0 < a) (hb : 0 < b) (h1 : a * p.x = b * q.x) (h2 : a * p.y = b * q.y) (h3 : a * p.z = b * q.z) (h4 : a * p.w = b * q.w) : p = q := by
  refine P4.l_inj ?_
  rw [← hp.low, ← hq.low]
  refine low_prop ha hb ?_
  show [a * p.x, a * p.y, a * p.z, a * p.w] = [b * q.x, b * q.y, b * q.z, b * q.w]
  rw [h1, h2, h3, h4]
/-- pushes one behind the other: by the sum of the ways, and in either order -/
theorem add_add {p a b c : P4} (hp : 0 < p.w) (ha : 0 < a.w) (hb : 0 < b.w) (hc : 0 < c.w) {s t : Int} (hs : 0 < s) (ht : 0 < t)
    (h1 : s * (a.x * b.w + b.x * a.w) = t * c.x) (h2 : s * (a.y * b.w + b.y * a.w) = t * c.y) (h3 : s * (a.z * b.w + b.z * a.w) = t * c.z) (h4 : s * (a.w * b.w) = t * c.w) : add (add p a) b = add p c := by
  obtain ⟨g, G⟩ := add_pushed (p := p) (a := a) hp ha
  obtain ⟨k, L⟩ := add_pushed (p := add p a) (a := b) G.w0 hb
  obtain ⟨m, N⟩ := add_pushed (p := p) (a := c) hp hc
  refine ok_eq (add_ok G.w0 hb) (add_ok hp hc) (a := s * (g * k)) (b := t * m) (Int.mul_pos hs (Int.mul_pos G.g0 L.g0)) (Int.mul_pos ht N.g0) ?_ ?_ ?_ ?_
  · have e1 := L.x; have e2 := N.x; have e3 := G.x; have e4 := G.w
    grind
  · have e1 := L.y; have e2 := N.y; have e3 := G.y; have e4 := G.w
    grind
  · have e1 := L.z; have e2 := N.z; have e3 := G.z; have e4 := G.w
    grind
  · have e1 := L.w; have e2 := N.w; have e4 := G.w
    grind
end Ma
namespace Ma
/-! ### lines and planes -/
/-- the six numbers of two points -/
def lineN (p q : P4) : List Int := [q.x * p.w - p.x * q.w, q.y * p.w - p.y * q.w, q.z * p.w - p.z * q.w, p.y * q.z - p.z * q.y, p.z * q.x - p.x * q.z, p.x * q.y - p.y * q.x]
def line (p q : P4) : List Int := canon (lineN p q)
structure V3 where
  x : Int
  y : Int
  z : Int
def gap (p q : P4) : V3 := ⟨q.x * p.w - p.x * q.w, q.y * p.w - p.y * q.w, q.z * p.w - p.z * q.w⟩
def V3.l (v : V3) : List Int := [v.x, v.y, v.z]
def crs (u v : V3) : V3 := ⟨u.y * v.z - u.z * v.y, u.z * v.x - u.x * v.z, u.x * v.y - u.y * v.x⟩
def dt (u v : V3) : Int := u.x * v.x + u.y * v.y + u.z * v.z
def planeN (p q r : P4) : List Int :=
  let n := crs (gap p q) (gap p r)
  [n.x * p.w, n.y * p.w, n.z * p.w, -(n.x * p.x + n.y * p.y + n.z * p.z)]
def plane (p q r : P4) : List Int := canon (planeN p q r)
def det (p q r s : P4) : Int := dt (crs (gap p q) (gap p r)) (gap p s)
/-- the plane's numbers as minors of three rows -/
def m1 (p q r : P4) : Int := p.y * (q.z * r.w - q.w * r.z) - p.z * (q.y * r.w - q.w * r.y) + p.w * (q.y * r.z - q.z * r.y)
def m2 (p q r : P4) : Int := -(p.x * (q.z * r.w - q.w * r.z) - p.z * (q.x * r.w - q.w * r.x) + p.w * (q.x * r.z - q.z * r.x))
def m3 (p q r : P4) : Int := p.x * (q.y * r.w - q.w * r.y) - p.y * (q.x * r.w - q.w * r.x) + p.w * (q.x * r.y - q.y * r.x)
def m4 (p q r : P4) : Int := -(p.x * (q.y * r.z - q.z * r.y) - p.y * (q.x * r.z - q.z * r.x) + p.z * (q.x * r.y - q.y * r.x))
def mm (p q r : P4) : List Int := [m1 p q r, m2 p q r, m3 p q r, m4 p q r]
def d4 (p q r s : P4) : Int := m1 p q r * s.x + m2 p q r * s.y + m3 p q r * s.z + m4 p q r * s.w
theorem row4 {a b c d a' b' c' d' : Int} (h1 : a = a') (h2 : b = b') (h3 : c = c') (h4 : d = d') : [a, b, c, d] = [a', b', c', d'] := by
  rw [h1, h2, h3, h4]
theorem row6 {a b c d e f a' b' c' d' e' f' : Int} (h1 : a = a') (h2 : b = b') (h3 : c = c') (h4 : d = d') (h5 : e = e') (h6 : f = f') : [a, b, c, d, e, f] = [a', b', c', d', e', f'] := by
  rw [h1, h2, h3, h4, h5, h6]
theorem planeN_mm (p q r : P4) : planeN p q r = (mm p q r).map (p.w * p.w * ·) := by
  obtain ⟨px, py, pz, pw⟩ := p
  obtain ⟨qx, qy, qz, qw⟩ := q
  obtain ⟨rx, ry, rz, rw⟩ := r
  refine row4 ?_ ?_ ?_ ?_ <;> simp only [crs, gap, m1, m2, m3, m4] <;> grind
theorem det_d4 (p q r s : P4) : det p q r s = p.w * p.w * d4 p q r s := by
  obtain ⟨px, py, pz, pw⟩ := p
  obtain ⟨qx, qy, qz, qw⟩ := q
  obtain ⟨rx, ry, rz, rw⟩ := r
  obtain ⟨sx, sy, sz, sw⟩ := s
  simp only [det, dt, crs, gap, d4, m1, m2, m3, m4]
  grind
theorem plane_mm {p : P4} (q r : P4) (h : p.w ≠ 0) : plane p q r = canon (mm p q r) :=
  canon_to (b := p.w * p.w) (Int.mul_ne_zero h h) (planeN_mm p q r)
theorem mm_swap12 (p q r : P4) : mm q p r = (mm p q r).map ((-1) * ·) := by
  refine row4 ?_ ?_ ?_ ?_ <;> simp only [m1, m2, m3, m4] <;> grind
theorem mm_swap23 (p q r : P4) : mm p r q = (mm p q r).map ((-1) * ·) := by
  refine row4 ?_ ?_ ?_ ?_ <;> simp only [m1, m2, m3, m4] <;> grind
theorem d4_swap12 (p q r s : P4) : d4 q p r s = -d4 p q r s := by
  simp only [d4, m1, m2, m3, m4]; grind
theorem d4_swap23 (p q r s : P4) : d4 p r q s = -d4 p q r s := by
  simp only [d4, m1, m2, m3, m4]; grind
theorem d4_swap34 (p q r s : P4) : d4 p q s r = -d4 p q r s := by
  simp only [d4, m1, m2, m3, m4]; grind
theorem lineN_swap (p q : P4) : lineN q p = (lineN p q).map ((-1) * ·) := by
  refine row6 ?_ ?_ ?_ ?_ ?_ ?_ <;> grind
theorem line_swap (p q : P4) : line q p = line p q := canon_to (b := -1) (by omega) (lineN_swap p q)
theorem plane_swap12 {p q : P4} (r : P4) (hp : p.w ≠ 0) (hq : q.w ≠ 0) : plane q p r = plane p q r := by
  rw [plane_mm _ _ hp, plane_mm _ _ hq]
  exact canon_to (b := -1) (by omega) (mm_swap12 p q r)
theorem plane_swap23 {p : P4} (q r : P4) (hp : p.w ≠ 0) : plane p r q = plane p q r := by
  rw [plane_mm _ _ hp, plane_mm _ _ hp]
  exact canon_to (b := -1) (by omega) (mm_swap23 p q r)
/-! ### ends on lines in planes -/
abbrev Key := List (List Int)
def e (π l : List Int) (a : P4) (κ : Key) : Int := if κ = [π, l, a.l] then 1 else 0
def E (π : List Int) (a b : P4) (κ : Key) : Int := e π (line a b) a κ - e π (line a b) b κ
def W (p q r : P4) (κ : Key) : Int := E (plane p q r) p q κ + E (plane p q r) q r κ + E (plane p q r) r p κ
def M (p q r s : P4) (κ : Key) : Int := W q r s κ + W p s r κ + W p q s κ + W p r q κ
theorem E_swap (π : List Int) (a b : P4) (κ : Key) : E π b a κ = -E π a b κ := by
  unfold E
  rw [line_swap a b]
  omega
theorem E_self (π : List Int) (a : P4) (κ : Key) : E π a a κ = 0 := by
  unfold E
  omega
theorem E_on {π : List Int} {a b c : P4} {κ : Key} {l : List Int} (h1 : line a b = l) (h2 : line b c = l) (h3 : line a c = l) : E π a b κ + E π b c κ = E π a c κ := by
  unfold E
  rw [h1, h2, h3]
  omega
theorem W_swap12 {p q : P4} (r : P4) (κ : Key) (hp : p.w ≠ 0) (hq : q.w ≠ 0) : W q p r κ = -W p q r κ := by
  unfold W
  rw [plane_swap12 r hp hq, E_swap _ p q, E_swap _ r p, E_swap _ q r]
  omega
theorem W_swap23 {p : P4} (q r : P4) (κ : Key) (hp : p.w ≠ 0) : W p r q κ = -W p q r κ := by
  unfold W
  rw [plane_swap23 q r hp, E_swap _ r p, E_swap _ q r, E_swap _ p q]
  omega
theorem M_swap12 {p q r s : P4} (κ : Key) (hp : p.w ≠ 0) (hq : q.w ≠ 0) : M q p r s κ = -M p q r s κ := by
  unfold M
  have e1 := W_swap23 r s κ hp
  have e2 := W_swap23 r s κ hq
  have e3 := W_swap12 s κ hp hq
  have e4 := W_swap23 p r κ hq
  have e5 := W_swap12 r κ hp hq
  have e6 := W_swap23 q r κ hp
  omega
theorem M_swap23 {p q r s : P4} (κ : Key) (hp : p.w ≠ 0) (hq : q.w ≠ 0) (hr : r.w ≠ 0) : M p r q s κ = -M p q r s κ := by
  unfold M
  have e1 := W_swap12 s κ hq hr
  have e2 := W_swap23 q r κ hp
  have e3 := W_swap23 s r κ hp
  have e4 := W_swap23 s q κ hp
  have e5 := W_swap23 q s κ hp
  have e6 := W_swap23 r s κ hp
  omega
theorem M_swap34 {p q r s : P4} (κ : Key) (hp : p.w ≠ 0) (hq : q.w ≠ 0) : M p q s r κ = -M p q r s κ := by
  unfold M
  have e1 := W_swap23 r s κ hq
  have e2 := W_swap23 r s κ hp
  have e3 := W_swap23 q s κ hp
  have e4 := W_swap23 q r κ hp
  omega
end Ma
namespace Ma
/-! ### prisms -/
def smul (g : Int) (p : P4) : P4 := ⟨g * p.x, g * p.y, g * p.z, g * p.w⟩
def comb (p a : P4) : P4 := ⟨p.x * a.w + a.x * p.w, p.y * a.w + a.y * p.w, p.z * a.w + a.z * p.w, p.w * a.w⟩
def dir (a : P4) : P4 := ⟨a.x, a.y, a.z, 0⟩
theorem Pushed.eq {p a q : P4} {g : Int} (h : Pushed p a q g) : smul g q = comb p a := P4.ext h.x h.y h.z h.w
theorem mm_smul3 (g : Int) (p q r : P4) : mm p q (smul g r) = (mm p q r).map (g * ·) := by
  refine row4 ?_ ?_ ?_ ?_ <;> simp only [m1, m2, m3, m4, smul] <;> grind
theorem mm_smul2 (g : Int) (p q r : P4) : mm p (smul g q) r = (mm p q r).map (g * ·) := by
  refine row4 ?_ ?_ ?_ ?_ <;> simp only [m1, m2, m3, m4, smul] <;> grind
theorem mm_smul1 (g : Int) (p q r : P4) : mm (smul g p) q r = (mm p q r).map (g * ·) := by
  refine row4 ?_ ?_ ?_ ?_ <;> simp only [m1, m2, m3, m4, smul] <;> grind
theorem lineN_smul2 (g : Int) (p q : P4) : lineN p (smul g q) = (lineN p q).map (g * ·) := by
  refine row6 ?_ ?_ ?_ ?_ ?_ ?_ <;> simp only [smul] <;> grind
theorem lineN_smul1 (g : Int) (p q : P4) : lineN (smul g p) q = (lineN p q).map (g * ·) := by
  refine row6 ?_ ?_ ?_ ?_ ?_ ?_ <;> simp only [smul] <;> grind
theorem d4_smul4 (g : Int) (p q r s : P4) : d4 p q r (smul g s) = g * d4 p q r s := by
  simp only [d4, smul]; grind
theorem d4_smul3 (g : Int) (p q r s : P4) : d4 p q (smul g r) s = g * d4 p q r s := by
  simp only [d4, m1, m2, m3, m4, smul]; grind
theorem d4_smul2 (g : Int) (p q r s : P4) : d4 p (smul g q) r s = g * d4 p q r s := by
  simp only [d4, m1, m2, m3, m4, smul]; grind
theorem d4_smul1 (g : Int) (p q r s : P4) : d4 (smul g p) q r s = g * d4 p q r s := by
  simp only [d4, m1, m2, m3, m4, smul]; grind
theorem map_map_mul (a b : Int) (v : List Int) : (v.map (a * ·)).map (b * ·) = v.map (a * b * ·) := by
  rw [List.map_map]
  refine List.map_congr_left fun x _ => ?_
  show b * (a * x) = a * b * x
  grind
/-- what two rows that are multiples of one another give -/
theorem canon_two {a b : Int} {u v : List Int} (ha : 0 < a) (hb : 0 < b) (h : u.map (a * ·) = v.map (b * ·)) : canon u = canon v := canon_prop (by omega) (by omega) h
def ray (p a : P4) : List Int := canon (lineN p (dir a))
def wall (p q a : P4) : List Int := canon (mm p q (dir a))
/-- ways of one sense -/
def Par (a b : P4) : Prop := ∃ s t : Int, 0 < s ∧ 0 < t ∧ smul s (dir a) = smul t (dir b)
theorem ray_par {a b : P4} (p : P4) (h : Par a b) : ray p a = ray p b := by
  obtain ⟨s, t, hs, ht, e⟩ := h
  refine canon_two hs ht ?_
  rw [← lineN_smul2, ← lineN_smul2, e]
theorem wall_par {a b : P4} (p q : P4) (h : Par a b) : wall p q a = wall p q b := by
  obtain ⟨s, t, hs, ht, e⟩ := h
  refine canon_two hs ht ?_
  rw [← mm_smul3, ← mm_smul3, e]
theorem lineN_comb (p a : P4) : lineN p (comb p a) = (lineN p (dir a)).map (p.w * ·) := by
  refine row6 ?_ ?_ ?_ ?_ ?_ ?_ <;> simp only [comb, dir] <;> grind
theorem lineN_comb_dir (p a : P4) : lineN (comb p a) (dir a) = (lineN p (dir a)).map (a.w * ·) := by
  refine row6 ?_ ?_ ?_ ?_ ?_ ?_ <;> simp only [comb, dir] <;> grind
section
variable {p q r p' q' r' a : P4} {g k m : Int}
theorem line_up (hp : 0 < p.w) (h : Pushed p a p' g) : line p p' = ray p a := by
  refine canon_two h.g0 hp ?_
  rw [← lineN_smul2, h.eq, lineN_comb]
theorem ray_up (ha : 0 < a.w) (h : Pushed p a p' g) : ray p' a = ray p a := by
  refine canon_two h.g0 ha ?_
  rw [← lineN_smul1, h.eq, lineN_comb_dir]
theorem mm_c3 (p q a : P4) : mm p q (comb p a) = (mm p q (dir a)).map (p.w * ·) := by
  refine row4 ?_ ?_ ?_ ?_ <;> simp only [m1, m2, m3, m4, comb, dir] <;> grind
theorem mm_c23 (p q a : P4) : mm q (comb q a) (comb p a) = (mm p q (dir a)).map (a.w * q.w * ·) := by
  refine row4 ?_ ?_ ?_ ?_ <;> simp only [m1, m2, m3, m4, comb, dir] <;> grind
theorem mm_c2 (p r a : P4) : mm p (comb p a) r = (mm r p (dir a)).map (p.w * ·) := by
  refine row4 ?_ ?_ ?_ ?_ <;> simp only [m1, m2, m3, m4, comb, dir] <;> grind
theorem mm_c23' (p r a : P4) : mm r (comb p a) (comb r a) = (mm r p (dir a)).map (a.w * r.w * ·) := by
  refine row4 ?_ ?_ ?_ ?_ <;> simp only [m1, m2, m3, m4, comb, dir] <;> grind
theorem mm_c12 (p q a : P4) : mm (comb p a) (comb q a) (dir a) = (mm p q (dir a)).map (a.w * a.w * ·) := by
  refine row4 ?_ ?_ ?_ ?_ <;> simp only [m1, m2, m3, m4, comb, dir] <;> grind
theorem plane_a (hp : 0 < p.w) (h : Pushed p a p' g) : plane p q p' = wall p q a := by
  rw [plane_mm _ _ (by omega)]
  refine canon_two h.g0 hp ?_
  rw [← mm_smul3, h.eq, mm_c3]
theorem plane_b (hq : 0 < q.w) (ha : 0 < a.w) (h : Pushed p a p' g) (h' : Pushed q a q' k) : plane q q' p' = wall p q a := by
  rw [plane_mm _ _ (by omega)]
  refine canon_two (a := k * g) (b := a.w * q.w) (Int.mul_pos h'.g0 h.g0) (Int.mul_pos ha hq) ?_
  rw [← map_map_mul, ← mm_smul2, ← mm_smul3, h.eq, h'.eq, mm_c23]
theorem plane_c (hp : 0 < p.w) (h : Pushed p a p' g) : plane p p' r = wall r p a := by
  rw [plane_mm _ _ (by omega)]
  refine canon_two h.g0 hp ?_
  rw [← mm_smul2, h.eq, mm_c2]
theorem plane_d (hr : 0 < r.w) (ha : 0 < a.w) (h : Pushed p a p' g) (h' : Pushed r a r' k) : plane r p' r' = wall r p a := by
  rw [plane_mm _ _ (by omega)]
  refine canon_two (a := g * k) (b := a.w * r.w) (Int.mul_pos h.g0 h'.g0) (Int.mul_pos ha hr) ?_
  rw [← map_map_mul, ← mm_smul2, ← mm_smul3, h.eq, h'.eq, mm_c23']
theorem wall_up (ha : 0 < a.w) (h : Pushed p a p' g) (h' : Pushed q a q' k) : wall p' q' a = wall p q a := by
  refine canon_two (a := g * k) (b := a.w * a.w) (Int.mul_pos h.g0 h'.g0) (Int.mul_pos ha ha) ?_
  rw [← map_map_mul, ← mm_smul1, ← mm_smul2, h.eq, h'.eq, mm_c12]
end
/-- the four sides of a slanted wall -/
def Q4 (π : List Int) (p q p' q' : P4) (κ : Key) : Int := E π p q κ + E π q q' κ + E π q' p' κ + E π p' p κ
/-- what the prism's walls are -/
def P5 (p q r p' q' r' a : P4) (κ : Key) : Int := W p' q' r' κ - W p q r κ + Q4 (wall p q a) p q p' q' κ + Q4 (wall q r a) q r q' r' κ + Q4 (wall r p a) r p r' p' κ
theorem prism_sum {p q r p' q' r' a : P4} {g k m : Int} (κ : Key) (hp : 0 < p.w) (hq : 0 < q.w) (hr : 0 < r.w) (ha : 0 < a.w) (P : Pushed p a p' g) (Q : Pushed q a q' k) (R : Pushed r a r' m) :
    M p q r p' κ + M q r p' q' κ + M r p' q' r' κ = P5 p q r p' q' r' a κ := by
  have i1 := W_swap23 r p' κ (p := q) (by omega)
  have i2 := W_swap23 p' q' κ (p := r) (by omega)
  have i3 := W_swap23 q r κ (p := p) (by omega)
  have s1 : W p q p' κ + W q q' p' κ = Q4 (wall p q a) p q p' q' κ := by
    unfold W Q4
    rw [plane_a hp P, plane_b hq ha P Q, E_swap _ q p']
    omega
  have s2 : W q r q' κ + W r r' q' κ = Q4 (wall q r a) q r q' r' κ := by
    unfold W Q4
    rw [plane_a hq Q, plane_b hr ha Q R, E_swap _ r q']
    omega
  have s3 : W p p' r κ + W r p' r' κ = Q4 (wall r p a) r p r' p' κ := by
    unfold W Q4
    rw [plane_c hp P, plane_d hr ha P R, E_swap _ p' r]
    omega
  unfold M P5
  omega
theorem Q4_neg {π : List Int} (p q p' q' : P4) (κ : Key) : Q4 π q p q' p' κ = -Q4 π p q p' q' κ := by
  unfold Q4
  have e1 := E_swap π p q κ
  have e2 := E_swap π p p' κ
  have e3 := E_swap π q q' κ
  have e4 := E_swap π p' q' κ
  omega
theorem wall_swap (p q a : P4) : wall q p a = wall p q a := canon_to (b := -1) (by omega) (mm_swap12 p q (dir a))
theorem P5_swap12 {p q r p' q' r' a : P4} (κ : Key) (hp : 0 < p.w) (hq : 0 < q.w) (hp' : 0 < p'.w) (hq' : 0 < q'.w) : P5 q p r q' p' r' a κ = -P5 p q r p' q' r' a κ := by
  unfold P5
  have e1 := W_swap12 (p := p) (q := q) r κ (by omega) (by omega)
  have e2 := W_swap12 (p := p') (q := q') r' κ (by omega) (by omega)
  have e3 := Q4_neg (π := wall p q a) p q p' q' κ
  have e4 := Q4_neg (π := wall r p a) r p r' p' κ
  have e5 := Q4_neg (π := wall q r a) q r q' r' κ
  rw [wall_swap p q a, wall_swap r p a, wall_swap q r a]
  omega
theorem P5_swap23 {p q r p' q' r' a : P4} (κ : Key) (hp : 0 < p.w) (hp' : 0 < p'.w) : P5 p r q p' r' q' a κ = -P5 p q r p' q' r' a κ := by
  unfold P5
  have e1 := W_swap23 (p := p) q r κ (by omega)
  have e2 := W_swap23 (p := p') q' r' κ (by omega)
  have e3 := Q4_neg (π := wall p q a) p q p' q' κ
  have e4 := Q4_neg (π := wall r p a) r p r' p' κ
  have e5 := Q4_neg (π := wall q r a) q r q' r' κ
  rw [wall_swap p q a, wall_swap r p a, wall_swap q r a]
  omega
/-- two walls, one on the other -/
theorem Q4_stack {p q p1 q1 p2 q2 a b c : P4} {g k m n o l : Int} (κ : Key) (hp : 0 < p.w) (hq : 0 < q.w) (ha : 0 < a.w) (hb : 0 < b.w) (hc : 0 < c.w) (hab : Par a c) (hbc : Par b a)
    (P : Pushed p a p1 g) (Q : Pushed q a q1 k) (P2 : Pushed p1 b p2 m) (Q2 : Pushed q1 b q2 n) (P3 : Pushed p c p2 o) (Q3 : Pushed q c q2 l) :
    Q4 (wall p q a) p q p1 q1 κ + Q4 (wall p1 q1 b) p1 q1 p2 q2 κ = Q4 (wall p q c) p q p2 q2 κ := by
  have w1 : wall p1 q1 b = wall p q a := by rw [wall_par _ _ hbc, wall_up ha P Q]
  have w2 : wall p q c = wall p q a := (wall_par _ _ hab).symm
  rw [w1, w2]
  have l1 : line p p1 = ray p a := line_up hp P
  have l2 : line p1 p2 = ray p a := by rw [line_up P.w0 P2, ray_par _ hbc, ray_up ha P]
  have l3 : line p p2 = ray p a := by rw [line_up hp P3, ← ray_par _ hab]
  have k1 : line q q1 = ray q a := line_up hq Q
  have k2 : line q1 q2 = ray q a := by rw [line_up Q.w0 Q2, ray_par _ hbc, ray_up ha Q]
  have k3 : line q q2 = ray q a := by rw [line_up hq Q3, ← ray_par _ hab]
  have e1 := E_on (π := wall p q a) (κ := κ) l1 l2 l3
  have e2 := E_on (π := wall p q a) (κ := κ) k1 k2 k3
  have e3 := E_swap (wall p q a) p p1 κ
  have e4 := E_swap (wall p q a) p1 p2 κ
  have e5 := E_swap (wall p q a) p p2 κ
  have e6 := E_swap (wall p q a) p1 q1 κ
  unfold Q4
  omega
theorem P5_stack {p q r p1 q1 r1 p2 q2 r2 a b c : P4} {g k m g' k' m' g2 k2 m2 : Int} (κ : Key) (hp : 0 < p.w) (hq : 0 < q.w) (hr : 0 < r.w) (ha : 0 < a.w) (hb : 0 < b.w) (hc : 0 < c.w) (hab : Par a c) (hbc : Par b a)
    (P : Pushed p a p1 g) (Q : Pushed q a q1 k) (R : Pushed r a r1 m) (P2 : Pushed p1 b p2 g') (Q2 : Pushed q1 b q2 k') (R2 : Pushed r1 b r2 m') (P3 : Pushed p c p2 g2) (Q3 : Pushed q c q2 k2) (R3 : Pushed r c r2 m2) :
    P5 p q r p1 q1 r1 a κ + P5 p1 q1 r1 p2 q2 r2 b κ = P5 p q r p2 q2 r2 c κ := by
  unfold P5
  have e1 := Q4_stack κ hp hq ha hb hc hab hbc P Q P2 Q2 P3 Q3
  have e2 := Q4_stack κ hq hr ha hb hc hab hbc Q R Q2 R2 Q3 R3
  have e3 := Q4_stack κ hr hp ha hb hc hab hbc R P R2 P2 R3 P3
  omega
/-! ### signs -/
theorem d4_c4 (p q r a : P4) : d4 p q r (comb p a) = p.w * d4 p q r (dir a) := by
  simp only [d4, m1, m2, m3, m4, comb, dir]; grind
theorem d4_c34 (p q r a : P4) : d4 q r (comb p a) (comb q a) = a.w * q.w * d4 p q r (dir a) := by
  simp only [d4, m1, m2, m3, m4, comb, dir]; grind
theorem d4_c234 (p q r a : P4) : d4 r (comb p a) (comb q a) (comb r a) = a.w * a.w * r.w * d4 p q r (dir a) := by
  simp only [d4, m1, m2, m3, m4, comb, dir]; grind
theorem d4_shift (p q r s t : P4) : d4 (comb p t) (comb q t) (comb r t) (comb s t) = t.w * t.w * (t.w * t.w) * d4 p q r s := by
  simp only [d4, m1, m2, m3, m4, comb]; grind
theorem d4_shift3 (p q r a t : P4) : d4 (comb p t) (comb q t) (comb r t) (dir a) = t.w * t.w * t.w * d4 p q r (dir a) := by
  simp only [d4, m1, m2, m3, m4, comb, dir]; grind
theorem sign_of {a b x y : Int} (ha : 0 < a) (hb : 0 < b) (h : a * x = b * y) : x.sign = y.sign := by
  have e1 : (a * x).sign = x.sign := by rw [Int.sign_mul, Int.sign_eq_one_of_pos ha, Int.one_mul]
  have e2 : (b * y).sign = y.sign := by rw [Int.sign_mul, Int.sign_eq_one_of_pos hb, Int.one_mul]
  rw [← e1, ← e2, h]
section
variable {p q r s p' q' r' s' a b t : P4} {g k m n : Int}
theorem sg1 (hp : 0 < p.w) (P : Pushed p a p' g) : (d4 p q r p').sign = (d4 p q r (dir a)).sign :=
  sign_of P.g0 hp (by rw [← d4_smul4, P.eq, d4_c4])
theorem sg2 (hq : 0 < q.w) (ha : 0 < a.w) (P : Pushed p a p' g) (Q : Pushed q a q' k) : (d4 q r p' q').sign = (d4 p q r (dir a)).sign :=
  sign_of (a := g * k) (b := a.w * q.w) (Int.mul_pos P.g0 Q.g0) (Int.mul_pos ha hq) (by rw [Int.mul_assoc, ← d4_smul4, ← d4_smul3, P.eq, Q.eq, d4_c34])
theorem sg3 (hr : 0 < r.w) (ha : 0 < a.w) (P : Pushed p a p' g) (Q : Pushed q a q' k) (R : Pushed r a r' m) : (d4 r p' q' r').sign = (d4 p q r (dir a)).sign :=
  sign_of (a := g * (k * m)) (b := a.w * a.w * r.w) (Int.mul_pos P.g0 (Int.mul_pos Q.g0 R.g0)) (Int.mul_pos (Int.mul_pos ha ha) hr) (by rw [Int.mul_assoc, Int.mul_assoc, ← d4_smul4, ← d4_smul3, ← d4_smul2, P.eq, Q.eq, R.eq, d4_c234])
theorem sg_shift (ht : 0 < t.w) (P : Pushed p t p' g) (Q : Pushed q t q' k) (R : Pushed r t r' m) (S : Pushed s t s' n) : (d4 p' q' r' s').sign = (d4 p q r s).sign :=
  sign_of (a := g * (k * (m * n))) (b := t.w * t.w * (t.w * t.w)) (Int.mul_pos P.g0 (Int.mul_pos Q.g0 (Int.mul_pos R.g0 S.g0))) (Int.mul_pos (Int.mul_pos ht ht) (Int.mul_pos ht ht))
    (by rw [Int.mul_assoc, Int.mul_assoc, Int.mul_assoc, ← d4_smul4, ← d4_smul3, ← d4_smul2, ← d4_smul1, P.eq, Q.eq, R.eq, S.eq, d4_shift])
theorem sg_shift3 (ht : 0 < t.w) (P : Pushed p t p' g) (Q : Pushed q t q' k) (R : Pushed r t r' m) : (d4 p' q' r' (dir a)).sign = (d4 p q r (dir a)).sign :=
  sign_of (a := g * (k * m)) (b := t.w * t.w * t.w) (Int.mul_pos P.g0 (Int.mul_pos Q.g0 R.g0)) (Int.mul_pos (Int.mul_pos ht ht) ht)
    (by rw [Int.mul_assoc, Int.mul_assoc, ← d4_smul3, ← d4_smul2, ← d4_smul1, P.eq, Q.eq, R.eq, d4_shift3])
theorem sg_par (h : Par a b) : (d4 p q r (dir a)).sign = (d4 p q r (dir b)).sign := by
  obtain ⟨s, t, hs, ht, e⟩ := h
  exact sign_of hs ht (by rw [← d4_smul4, ← d4_smul4, e])
end
end Ma
set_option Elab.async false
set_option linter.all false
set_option maxRecDepth 100000
set_option maxHeartbeats 1000000
/-! a typed layer over HandS: values stand for plain data by relations; the heap is hidden -/
namespace TL
open PySem PySem.Spec PyProof.Rows L2
theorem lt_by {i n : Nat} (h : Nat.blt i n = true) : i < n := Nat.le_of_ble_eq_true h
/-! ### relations -/
structure Rl (α : Type) where
  r : Hp → V → α → Prop
  mono : ∀ {H H' : Hp} {v : V} {x : α}, Same H H' → r H v x → r H' v x
theorem pair_mono {α β : Type} {F G : α → β → Prop} (h : ∀ a b, F a b → G a b) : ∀ {l : List α} {m : List β}, Paired F l m → Paired G l m
  | _, _, .nil => .nil
  | _, _, .cons a t => .cons (h _ _ a) (pair_mono h t)
theorem pair_len {α β : Type} {F : α → β → Prop} : ∀ {l : List α} {m : List β}, Paired F l m → l.length = m.length
  | _, _, .nil => rfl
  | _, _, .cons _ t => congrArg Nat.succ (pair_len t)
theorem pair_get {α β : Type} {F : α → β → Prop} : ∀ {l : List α} {m : List β} {i : Nat} {y : β}, Paired F l m → m[i]? = some y → ∃ x, l[i]? = some x ∧ F x y
  | _, _, _, _, .nil, e => by simp at e
  | _, _, 0, _, .cons r _, e => by simp at e; subst e; exact ⟨_, rfl, r⟩
  | _, _, i + 1, y, .cons _ t, e => by
    obtain ⟨u, h1, h2⟩ := pair_get (i := i) (y := y) t (by simpa using e)
    exact ⟨u, by simpa using h1, h2⟩
theorem pair_getL {α β : Type} {F : α → β → Prop} : ∀ {l : List α} {m : List β} {i : Nat} {x : α}, Paired F l m → l[i]? = some x → ∃ y, m[i]? = some y ∧ F x y
  | _, _, _, _, .nil, e => by simp at e
  | _, _, 0, _, .cons r _, e => by simp at e; subst e; exact ⟨_, rfl, r⟩
  | _, _, i + 1, y, .cons _ t, e => by
    obtain ⟨u, h1, h2⟩ := pair_getL (i := i) t (by simpa using e)
    exact ⟨u, by simpa using h1, h2⟩
theorem pair_app {α β : Type} {F : α → β → Prop} : ∀ {l l' : List α} {m m' : List β}, Paired F l m → Paired F l' m' → Paired F (l ++ l') (m ++ m')
  | _, _, _, _, .nil, s => s
  | _, _, _, _, .cons r t, s => .cons r (pair_app t s)
theorem pair_take {α β : Type} {F : α → β → Prop} : ∀ {l : List α} {m : List β} (n : Nat), Paired F l m → Paired F (l.take n) (m.take n)
  | _, _, 0, _ => .nil
  | _, _, _ + 1, .nil => .nil
  | _, _, n + 1, .cons r t => .cons r (pair_take n t)
theorem pair_drop {α β : Type} {F : α → β → Prop} : ∀ {l : List α} {m : List β} (n : Nat), Paired F l m → Paired F (l.drop n) (m.drop n)
  | _, _, 0, r => r
  | _, _, _ + 1, .nil => .nil
  | _, _, n + 1, .cons _ t => pair_drop n t
theorem pair_set {α β : Type} {F : α → β → Prop} {x : α} {y : β} (h : F x y) : ∀ {l : List α} {m : List β} (n : Nat), Paired F l m → Paired F (l.set n x) (m.set n y)
  | _, _, _, .nil => .nil
  | _, _, 0, .cons r t => .cons h t
  | _, _, n + 1, .cons r t => .cons r (pair_set h n t)
def RI : Rl Int := ⟨fun _ v n => v = .int n, fun _ h => h⟩
def RB : Rl Bool := ⟨fun _ v n => v = .bl n, fun _ h => h⟩
def RU : Rl Unit := ⟨fun _ v _ => v = .non, fun _ h => h⟩
def RA : Rl Addr := ⟨fun _ v a => v = .ref a, fun _ h => h⟩
def RT {α : Type} (R : Rl α) : Rl (List α) := ⟨fun H v xs => ∃ a vs, v = .ref a ∧ H a = some (.tup vs) ∧ Paired (R.r H) vs xs ∧ xs.length ≤ sizeLine,
  fun s ⟨a, vs, e, h, p, z⟩ => ⟨a, vs, e, s _ _ h, pair_mono (fun _ _ q => R.mono s q) p, z⟩⟩
def RL {α : Type} (R : Rl α) : Rl (List α) := ⟨fun H v xs => ∃ a vs, v = .ref a ∧ H a = some (.lst vs) ∧ Paired (R.r H) vs xs ∧ xs.length ≤ sizeLine,
  fun s ⟨a, vs, e, h, p, z⟩ => ⟨a, vs, e, s _ _ h, pair_mono (fun _ _ q => R.mono s q) p, z⟩⟩
/-- a list or a tuple -/
def RS {α : Type} (R : Rl α) : Rl (List α) := ⟨fun H v xs => (RL R).r H v xs ∨ (RT R).r H v xs, fun s h => h.imp (fun q => (RL R).mono s q) fun q => (RT R).mono s q⟩
/-- a pair of two kinds -/
def RP {α β : Type} (R : Rl α) (S : Rl β) : Rl (α × β) := ⟨fun H v x => ∃ a v1 v2, v = .ref a ∧ H a = some (.tup [v1, v2]) ∧ R.r H v1 x.1 ∧ S.r H v2 x.2,
  fun s ⟨a, v1, v2, e, h, p, q⟩ => ⟨a, v1, v2, e, s _ _ h, R.mono s p, S.mono s q⟩⟩
/-- the script -/
def RSc (K : PySem.W.Frag) : Rl (List Int) := ⟨fun H v ns => ∃ a, v = .ref a ∧ SqL K H a (ns.map V.int), fun s ⟨a, e, h⟩ => ⟨a, e, s.seq h⟩⟩
/-! ### typed slots, owned objects -/
structure Slot where
  α : Type
  R : Rl α
  x : α
abbrev Cn := List (Option Slot)
abbrev sl {α : Type} (R : Rl α) (x : α) : Option Slot := some ⟨α, R, x⟩
abbrev KK := List (List Int)
/-- the dict at d, its entries as they lie: keys, the keys' addresses, values -/
abbrev DEs := List (KK × Addr × V)
/-- an owned object: a list that grows or changes, a dict with keys that are tuples of tuples of ints -/
inductive MO : Type 1 where
  | lst {α : Type} (R : Rl α) (xs : List α)
  | dic (φ : Addr → List (KK × Addr × V) → HO) {β : Type} (R : Rl β) (kvs : List (KK × β))
abbrev Mn := List (Addr × MO)
abbrev adr (Δ : Mn) : List Addr := Δ.map (·.1)
def RK : Rl KK := RT (RT RI)
def MO.ok (Hs H : Hp) (a : Addr) : MO → Prop
  | .lst R xs => ∃ vs, H a = some (.lst vs) ∧ Paired (R.r Hs) vs xs
  | .dic φ R kvs => ∃ es : DEs, H a = some (φ a es) ∧ (∀ e ∈ es, RK.r Hs (.ref e.2.1) e.1) ∧ Paired (fun (e : KK × Addr × V) kv => e.1 = kv.1 ∧ R.r Hs e.2.2 kv.2) es kvs
theorem MO.ok_mono {Hs Hs' H H' : Hp} {a : Addr} (m : MO) (h : m.ok Hs H a) (s : Same Hs Hs') (e : H' a = H a) : m.ok Hs' H' a := by
  cases m with
  | lst R xs =>
    obtain ⟨vs, h1, h2⟩ := h
    exact ⟨vs, by rw [e]; exact h1, pair_mono (fun _ _ q => R.mono s q) h2⟩
  | dic φ R kvs =>
    obtain ⟨es, h1, h2, h3⟩ := h
    exact ⟨es, by rw [e]; exact h1, fun x hx => RK.mono s (h2 x hx), pair_mono (fun _ _ q => ⟨q.1, R.mono s q.2⟩) h3⟩
theorem MO.live {Hs H : Hp} {a : Addr} (m : MO) (h : m.ok Hs H a) : H a ≠ none := by
  cases m with
  | lst R xs => obtain ⟨vs, h1, _⟩ := h; rw [h1]; exact fun e => nomatch e
  | dic φ R kvs => obtain ⟨es, h1, _⟩ := h; rw [h1]; exact fun e => nomatch e
/-- the small heap Hs holds what never changes; H is the whole -/
structure Ok (Hs H : Hp) (σ : L2.St) (Γ : Cn) (Δ : Mn) : Prop where
  sub : Same Hs H
  len : σ.length = Γ.length
  slot : ∀ (i : Nat) (s : Slot), Γ[i]? = some (some s) → ∃ v, σ[i]? = some (some v) ∧ s.R.r Hs v s.x
  nd : (adr Δ).Nodup
  mo : ∀ p ∈ Δ, p.2.ok Hs H p.1 ∧ Hs p.1 = none
/-- new objects alone -/
structure Nw (Hs H Hs' H' : Hp) : Prop where
  s1 : Same Hs Hs'
  s2 : Same H H'
  sub : Same Hs' H'
  new : ∀ b, Hs' b ≠ none → Hs b ≠ none ∨ H b = none
/-- the objects at as may have changed -/
structure Stp (as : List Addr) (Hs H Hs' H' : Hp) : Prop where
  s1 : Same Hs Hs'
  keep : ∀ b o, H b = some o → b ∉ as → H' b = some o
  new : ∀ b, Hs' b ≠ none → Hs b ≠ none ∨ H b = none
  live : ∀ b, H b ≠ none → H' b ≠ none
theorem ne_some {α : Type} {o : Option α} (h : o ≠ none) : ∃ x, o = some x := by
  cases o with
  | none => exact absurd rfl h
  | some x => exact ⟨x, rfl⟩
theorem Same.ne {H H' : Hp} (s : Same H H') {b : Addr} (h : H b ≠ none) : H' b ≠ none := by
  obtain ⟨o, e⟩ := ne_some h
  rw [s b o e]
  exact fun q => nomatch q
theorem Same.eq {H H' : Hp} (s : Same H H') {b : Addr} (h : H b ≠ none) : H' b = H b := by
  obtain ⟨o, e⟩ := ne_some h
  rw [s b o e, e]
theorem Nw.refl {Hs H : Hp} (s : Same Hs H) : Nw Hs H Hs H := ⟨fun _ _ h => h, fun _ _ h => h, s, fun _ h => .inl h⟩
theorem Nw.trans {Hs H Hs1 H1 Hs2 H2 : Hp} (a : Nw Hs H Hs1 H1) (b : Nw Hs1 H1 Hs2 H2) : Nw Hs H Hs2 H2 :=
  ⟨fun x o h => b.s1 x o (a.s1 x o h), fun x o h => b.s2 x o (a.s2 x o h), b.sub, fun x h => by
    rcases b.new x h with q | q
    · exact a.new x q
    · refine .inr ?_
      cases e : H x with
      | none => rfl
      | some o => rw [a.s2 x o e] at q; cases q⟩
theorem Stp.refl {as : List Addr} {Hs H : Hp} : Stp as Hs H Hs H := ⟨fun _ _ h => h, fun _ _ h _ => h, fun _ h => .inl h, fun _ h => h⟩
theorem Stp.trans {as : List Addr} {Hs H Hs1 H1 Hs2 H2 : Hp} (a : Stp as Hs H Hs1 H1) (b : Stp as Hs1 H1 Hs2 H2) : Stp as Hs H Hs2 H2 :=
  ⟨fun x o h => b.s1 x o (a.s1 x o h), fun x o h n => b.keep x o (a.keep x o h n) n, fun x h => by
    rcases b.new x h with q | q
    · exact a.new x q
    · refine .inr ?_
      cases e : H x with
      | none => rfl
      | some o => exact absurd q (a.live x (by rw [e]; exact fun z => nomatch z)), fun x h => b.live x (a.live x h)⟩
theorem Nw.stp {Hs H Hs' H' : Hp} (n : Nw Hs H Hs' H') {as : List Addr} : Stp as Hs H Hs' H' := ⟨n.s1, fun b o h _ => n.s2 b o h, n.new, fun _ h => Same.ne n.s2 h⟩
theorem Stp.nw {Hs H Hs' H' : Hp} (s : Stp [] Hs H Hs' H') (h : Same Hs' H') : Nw Hs H Hs' H' := ⟨s.s1, fun b o e => s.keep b o e (by simp), h, s.new⟩
section
variable {Hs H Hs' H' : Hp} {σ : L2.St} {Γ : Cn} {Δ Δ' : Mn} {p : Addr} {o : HO}
theorem Ok.nw (k : Ok Hs H σ Γ Δ) (n : Nw Hs H Hs' H') : Ok Hs' H' σ Γ Δ where
  sub := n.sub
  len := k.len
  slot := fun i s e => let ⟨v, h1, h2⟩ := k.slot i s e; ⟨v, h1, s.R.mono n.s1 h2⟩
  nd := k.nd
  mo := fun q hq => by
    obtain ⟨h1, h2⟩ := k.mo q hq
    refine ⟨q.2.ok_mono h1 n.s1 (Same.eq n.s2 (q.2.live h1)), ?_⟩
    cases e : Hs' q.1 with
    | none => rfl
    | some o =>
      rcases n.new q.1 (by rw [e]; exact fun z => nomatch z) with z | z
      · exact absurd h2 z
      · exact absurd z (q.2.live h1)
/-- a new object that is known -/
theorem Nw.push (s : Same Hs H) (hp : H p = none) : Nw Hs H (upd Hs p o) (upd H p o) where
  s1 := fun b u e => by
    have : b ≠ p := fun z => by subst z; rw [s _ _ e] at hp; cases hp
    rw [upd_ne this]; exact e
  s2 := fun b u e => by rw [upd_ne (ne_of_none e hp)]; exact e
  sub := fun b u e => by
    by_cases hb : b = p
    · subst hb; rw [upd_same] at e ⊢; exact e
    · rw [upd_ne hb] at e ⊢; exact s _ _ e
  new := fun b h => by
    by_cases hb : b = p
    · subst hb; exact .inr hp
    · rw [upd_ne hb] at h; exact .inl h
/-- a new object that is forgotten -/
theorem Nw.drop (s : Same Hs H) (hp : H p = none) : Nw Hs H Hs (upd H p o) where
  s1 := fun _ _ e => e
  s2 := fun b u e => by rw [upd_ne (ne_of_none e hp)]; exact e
  sub := fun b u e => by rw [upd_ne (ne_of_none (s _ _ e) hp)]; exact s _ _ e
  new := fun _ h => .inl h
end
/-! ### what evaluates to what -/
structure Ev {α : Type} (te : TE) (Γ : Cn) (Δ : Mn) (R : Rl α) (x : α) (Δ' : Mn) : Prop where
  same : adr Δ' = adr Δ
  run : ∀ (σ : L2.St) (Hs H : Hp), Ok Hs H σ Γ Δ → ∀ Q : VK, (∀ v Hs' H', Ok Hs' H' σ Γ Δ' → Stp (adr Δ) Hs H Hs' H' → R.r Hs' v x → Q v H') → te σ H Q
structure EvT (tt : TT) (Γ : Cn) (Δ : Mn) (b : Bool) (Δ' : Mn) : Prop where
  same : adr Δ' = adr Δ
  run : ∀ (σ : L2.St) (Hs H : Hp), Ok Hs H σ Γ Δ → ∀ Q : Bool → Hp → Prop, (∀ Hs' H', Ok Hs' H' σ Γ Δ' → Stp (adr Δ) Hs H Hs' H' → Q b H') → tt σ H Q
/-- values of slots -/
inductive Args (Hs : Hp) : List V → List Slot → Prop
  | nil : Args Hs [] []
  | cons {v : V} {vs : List V} {s : Slot} {ss : List Slot} : s.R.r Hs v s.x → Args Hs vs ss → Args Hs (v :: vs) (s :: ss)
theorem Args.mono {Hs Hs' : Hp} (s : Same Hs Hs') : ∀ {vs : List V} {ss : List Slot}, Args Hs vs ss → Args Hs' vs ss
  | _, _, .nil => .nil
  | _, _, .cons (s := t) h r => .cons (t.R.mono s h) (Args.mono s r)
structure EvA (ta : TA) (Γ : Cn) (Δ : Mn) (ss : List Slot) (Δ' : Mn) : Prop where
  same : adr Δ' = adr Δ
  run : ∀ (σ : L2.St) (Hs H : Hp), Ok Hs H σ Γ Δ → ∀ Q : List V → Hp → Prop, (∀ vs Hs' H', Ok Hs' H' σ Γ Δ' → Stp (adr Δ) Hs H Hs' H' → Args Hs' vs ss → Q vs H') → ta σ H Q
/-- a new list -/
structure EvN {α : Type} (te : TE) (Γ : Cn) (Δ : Mn) (R : Rl α) (xs : List α) (Δ' : Mn) : Prop where
  same : adr Δ' = adr Δ
  run : ∀ (σ : L2.St) (Hs H : Hp), Ok Hs H σ Γ Δ → ∀ Q : VK, (∀ p vs Hs' H', Ok Hs' H' σ Γ Δ' → Stp (adr Δ) Hs H Hs' H' → H p = none → Hs' p = none → p ∉ adr Δ → H' p = some (.lst vs) → Paired (R.r Hs') vs xs → xs.length ≤ sizeLine → Q (.ref p) H') → te σ H Q
section
variable {α β γ : Type} {Γ : Cn} {Δ Δ1 Δ2 Δ3 : Mn} {R : Rl α} {S : Rl β} {T : Rl γ} {x : α} {y : β} {z : γ} {ta tb te : TE} {tt tu : TT} {K : PySem.W.Frag}
theorem Ev.to {x' : α} (h : Ev te Γ Δ R x Δ1) (e : x = x') : Ev te Γ Δ R x' Δ1 := e ▸ h
theorem EvT.to {b b' : Bool} (h : EvT tt Γ Δ b Δ1) (e : b = b') : EvT tt Γ Δ b' Δ1 := e ▸ h
theorem EvN.to {xs xs' : List α} (h : EvN te Γ Δ R xs Δ1) (e : xs = xs') : EvN te Γ Δ R xs' Δ1 := e ▸ h
/-- a known new list -/
theorem EvN.ev {xs : List α} (h : EvN te Γ Δ R xs Δ1) : Ev te Γ Δ (RL R) xs Δ1 := ⟨h.same, fun σ Hs H k Q q => h.run σ Hs H k Q fun p vs Hs' H' k' st hp hs' hpd h' pr hz => by
  have nHs : Nw Hs' H' (upd Hs' p (.lst vs)) H' → Ok (upd Hs' p (.lst vs)) H' σ Γ Δ1 := fun n => k'.nw n
  have s1 : Same Hs' (upd Hs' p (.lst vs)) := fun b u e => by
    have : b ≠ p := fun z => by subst z; rw [hs'] at e; cases e
    rw [upd_ne this]; exact e
  have sb : Same (upd Hs' p (.lst vs)) H' := fun b u e => by
    by_cases hb : b = p
    · subst hb; rw [upd_same] at e; rw [h']; exact e
    · rw [upd_ne hb] at e; exact k'.sub _ _ e
  refine q _ (upd Hs' p (.lst vs)) H' ⟨sb, k'.len, fun i s e => let ⟨v, h1, h2⟩ := k'.slot i s e; ⟨v, h1, s.R.mono s1 h2⟩, k'.nd, fun m hm => ?_⟩ ⟨fun b u e => s1 _ _ (st.s1 _ _ e), st.keep, fun b hb => ?_, st.live⟩ ⟨p, vs, rfl, upd_same, pair_mono (fun _ _ w => R.mono s1 w) pr, hz⟩
  · obtain ⟨h1, h2⟩ := k'.mo m hm
    have hne : m.1 ≠ p := fun e => hpd (by rw [← e, ← h.same]; exact List.mem_map_of_mem hm)
    exact ⟨m.2.ok_mono h1 s1 rfl, by rw [upd_ne hne]; exact h2⟩
  · by_cases hbp : b = p
    · subst hbp; exact .inr hp
    · rw [upd_ne hbp] at hb; exact st.new b hb⟩
/-! #### names, constants -/
theorem ev_var {i : Nat} (h : Γ[i]? = some (some ⟨α, R, x⟩)) : Ev (tVar i) Γ Δ R x Δ := ⟨rfl, fun σ Hs H k Q q => by
  obtain ⟨v, h1, h2⟩ := k.slot i _ h
  exact ⟨v, h1, q v Hs H k .refl h2⟩⟩
theorem ev_int {n : Int} : Ev (tC (.int n)) Γ Δ RI n Δ := ⟨rfl, fun σ Hs H k Q q => q _ Hs H k .refl rfl⟩
theorem ev_bl {b : Bool} : Ev (tC (.bl b)) Γ Δ RB b Δ := ⟨rfl, fun σ Hs H k Q q => q _ Hs H k .refl rfl⟩
/-! #### operators -/
/-- a two-place rule on known values -/
def Rr (r : R2) (R : Rl α) (x : α) (S : Rl β) (y : β) (T : Rl γ) (z : γ) : Prop :=
  ∀ (Hs H : Hp) (v u : V), Same Hs H → R.r Hs v x → S.r Hs u y → ∀ Q : VK, (∀ w Hs' H', Nw Hs H Hs' H' → T.r Hs' w z → Q w H') → r v u H Q
theorem stp_to {Δ Δ' : Mn} {Hs H Hs' H' : Hp} (e : adr Δ' = adr Δ) (s : Stp (adr Δ') Hs H Hs' H') : Stp (adr Δ) Hs H Hs' H' := by rw [← e]; exact s
theorem ev_op {r : R2} (ha : Ev ta Γ Δ R x Δ1) (hb : Ev tb Γ Δ1 S y Δ2) (hr : Rr r R x S y T z) : Ev (tOp r ta tb) Γ Δ T z Δ2 :=
  ⟨hb.same.trans ha.same, fun σ Hs H k Q q => ha.run σ Hs H k _ fun v Hs1 H1 k1 s1 h1 => hb.run σ Hs1 H1 k1 _ fun u Hs2 H2 k2 s2 h2 =>
    hr Hs2 H2 v u k2.sub (R.mono s2.s1 h1) h2 Q fun w Hs3 H3 n h3 => q w Hs3 H3 (k2.nw n) ((s1.trans (stp_to ha.same s2)).trans n.stp) h3⟩
theorem ev_un {r : V → Hp → VK → Prop} (ha : Ev ta Γ Δ R x Δ1) (hr : ∀ (Hs H : Hp) (v : V), Same Hs H → R.r Hs v x → ∀ Q : VK, (∀ w Hs' H', Nw Hs H Hs' H' → T.r Hs' w z → Q w H') → r v H Q) : Ev (tUn r ta) Γ Δ T z Δ1 :=
  ⟨ha.same, fun σ Hs H k Q q => ha.run σ Hs H k _ fun v Hs1 H1 k1 s1 h1 => hr Hs1 H1 v k1.sub h1 Q fun w Hs3 H3 n h3 => q w Hs3 H3 (k1.nw n) (s1.trans n.stp) h3⟩
variable {i j : Int}
theorem rr_I0 {g : Int → Int → Int} : Rr (rI0 fun i j => .int (g i j)) RI i RI j RI (g i j) := fun Hs H v u s h1 h2 Q q => ⟨i, j, h1, h2, q _ Hs H (.refl s) rfl⟩
theorem rr_I {C : Int → Int → Prop} {g : Int → Int → Int} (c : C i j) : Rr (rI C fun i j => .int (g i j)) RI i RI j RI (g i j) := fun Hs H v u s h1 h2 Q q => ⟨i, j, h1, h2, c, q _ Hs H (.refl s) rfl⟩
theorem rr_B0 {g : Int → Int → Bool} : Rr (rI0 fun i j => .bl (g i j)) RI i RI j RB (g i j) := fun Hs H v u s h1 h2 Q q => ⟨i, j, h1, h2, q _ Hs H (.refl s) rfl⟩
theorem ev_I0 {g : Int → Int → Int} (ha : Ev ta Γ Δ RI i Δ1) (hb : Ev tb Γ Δ1 RI j Δ2) : Ev (tOp (rI0 fun i j => .int (g i j)) ta tb) Γ Δ RI (g i j) Δ2 := ev_op ha hb rr_I0
theorem ev_I {C : Int → Int → Prop} {g : Int → Int → Int} (ha : Ev ta Γ Δ RI i Δ1) (hb : Ev tb Γ Δ1 RI j Δ2) (c : C i j) : Ev (tOp (rI C fun i j => .int (g i j)) ta tb) Γ Δ RI (g i j) Δ2 := ev_op ha hb (rr_I c)
theorem ev_cmp {g : Int → Int → Bool} (ha : Ev ta Γ Δ RI i Δ1) (hb : Ev tb Γ Δ1 RI j Δ2) : Ev (tOp (rI0 fun i j => .bl (g i j)) ta tb) Γ Δ RB (g i j) Δ2 := ev_op ha hb rr_B0
theorem ev_eqI (ha : Ev ta Γ Δ RI i Δ1) (hb : Ev tb Γ Δ1 RI j Δ2) : Ev (tOp rEq ta tb) Γ Δ RB (decide (i = j)) Δ2 := ev_op ha hb fun Hs H v u s h1 h2 Q q => by
  cases (show v = .int i from h1); cases (show u = .int j from h2)
  refine ⟨rfl, q _ Hs H (.refl s) (congrArg V.bl ?_)⟩
  by_cases e : i = j
  · subst e; simp
  · simp [e]
theorem ev_neI (ha : Ev ta Γ Δ RI i Δ1) (hb : Ev tb Γ Δ1 RI j Δ2) : Ev (tOp rNe ta tb) Γ Δ RB (!decide (i = j)) Δ2 := ev_op ha hb fun Hs H v u s h1 h2 Q q => by
  cases (show v = .int i from h1); cases (show u = .int j from h2)
  refine ⟨rfl, q _ Hs H (.refl s) (congrArg V.bl ?_)⟩
  by_cases e : i = j
  · subst e; simp
  · simp [e]
theorem ev_neg (ha : Ev ta Γ Δ RI i Δ1) : Ev (tUn (rU fun i => .int (-i)) ta) Γ Δ RI (-i) Δ1 := ev_un ha fun Hs H v s h Q q => ⟨i, h, q _ Hs H (.refl s) rfl⟩
/-! #### items -/
theorem atI_pair {l : List V} {xs : List α} {F : V → α → Prop} (p : Paired F l xs) {i : Int} (h : atI xs i = some x) : ∃ v, atI l i = some v ∧ F v x := by
  unfold atI at h ⊢
  rw [pair_len p]
  cases e : ixN xs.length i with
  | none => rw [e] at h; cases h
  | some j =>
    rw [e] at h
    exact pair_get p h
theorem ev_ixT {xs : List α} (ha : Ev ta Γ Δ (RT R) xs Δ1) (hb : Ev tb Γ Δ1 RI i Δ2) (h : atI xs i = some x) : Ev (tOp (rIxT K) ta tb) Γ Δ R x Δ2 := ev_op ha hb fun Hs H v u s h1 h2 Q q => by
  obtain ⟨a, vs, rfl, e, p, _⟩ := h1
  obtain ⟨w, hw, hr⟩ := atI_pair p h
  exact ⟨a, vs, i, w, rfl, h2, SqT.of (s _ _ e), hw, q _ Hs H (.refl s) hr⟩
theorem ev_ixL {xs : List α} (ha : Ev ta Γ Δ (RL R) xs Δ1) (hb : Ev tb Γ Δ1 RI i Δ2) (h : atI xs i = some x) : Ev (tOp (rIxL K) ta tb) Γ Δ R x Δ2 := ev_op ha hb fun Hs H v u s h1 h2 Q q => by
  obtain ⟨a, vs, rfl, e, p, _⟩ := h1
  obtain ⟨w, hw, hr⟩ := atI_pair p h
  exact ⟨a, vs, i, w, rfl, h2, SqL.of (s _ _ e), hw, q _ Hs H (.refl s) hr⟩
theorem ev_ixS {xs : List α} (ha : Ev ta Γ Δ (RS R) xs Δ1) (hb : Ev tb Γ Δ1 RI i Δ2) (h : atI xs i = some x) : Ev (tOp (rIx K) ta tb) Γ Δ R x Δ2 := ev_op ha hb fun Hs H v u s h1 h2 Q q => by
  rcases h1 with ⟨a, vs, rfl, e, p, _⟩ | ⟨a, vs, rfl, e, p, _⟩
  · obtain ⟨w, hw, hr⟩ := atI_pair p h
    exact .inl ⟨a, vs, i, w, rfl, h2, SqL.of (s _ _ e), hw, q _ Hs H (.refl s) hr⟩
  · obtain ⟨w, hw, hr⟩ := atI_pair p h
    exact .inr (.inl ⟨a, vs, i, w, rfl, h2, SqT.of (s _ _ e), hw, q _ Hs H (.refl s) hr⟩)
theorem ev_fst {xy : α × β} (ha : Ev ta Γ Δ (RP R S) xy Δ1) : Ev (tOp (rIxT K) ta (tC (.int 0))) Γ Δ R xy.1 Δ1 := ev_op (y := (0 : Int)) (S := RI) ha ev_int fun Hs H v u s h1 h2 Q q => by
  obtain ⟨a, v1, v2, rfl, e, p1, p2⟩ := h1
  exact ⟨a, _, 0, v1, rfl, h2, SqT.of (s _ _ e), rfl, q _ Hs H (.refl s) p1⟩
theorem ev_snd {xy : α × β} (ha : Ev ta Γ Δ (RP R S) xy Δ1) : Ev (tOp (rIxT K) ta (tC (.int 1))) Γ Δ S xy.2 Δ1 := ev_op (y := (1 : Int)) (S := RI) ha ev_int fun Hs H v u s h1 h2 Q q => by
  obtain ⟨a, v1, v2, rfl, e, p1, p2⟩ := h1
  exact ⟨a, _, 1, v2, rfl, h2, SqT.of (s _ _ e), rfl, q _ Hs H (.refl s) p2⟩
theorem ev_S_of_L {xs : List α} (h : Ev te Γ Δ (RL R) xs Δ1) : Ev te Γ Δ (RS R) xs Δ1 := ⟨h.same, fun σ Hs H k Q q => h.run σ Hs H k Q fun v Hs' H' k' s r => q v Hs' H' k' s (.inl r)⟩
theorem ev_S_of_T {xs : List α} (h : Ev te Γ Δ (RT R) xs Δ1) : Ev te Γ Δ (RS R) xs Δ1 := ⟨h.same, fun σ Hs H k Q q => h.run σ Hs H k Q fun v Hs' H' k' s r => q v Hs' H' k' s (.inr r)⟩
/-- an owned list, read -/
theorem Ok.own {Hs H : Hp} {σ : L2.St} {a : Addr} {m : MO} (k : Ok Hs H σ Γ Δ) (h : (a, m) ∈ Δ) : m.ok Hs H a ∧ Hs a = none := k.mo (a, m) h
theorem ev_ixO {a : Addr} {xs : List α} (ha : Ev ta Γ Δ RA a Δ1) (hb : Ev tb Γ Δ1 RI i Δ2) (hm : (a, MO.lst R xs) ∈ Δ2) (h : atI xs i = some x) : Ev (tOp (rIxL K) ta tb) Γ Δ R x Δ2 :=
  ⟨hb.same.trans ha.same, fun σ Hs H k Q q => ha.run σ Hs H k _ fun v Hs1 H1 k1 s1 h1 => hb.run σ Hs1 H1 k1 _ fun u Hs2 H2 k2 s2 h2 => by
    obtain ⟨⟨vs, e, p⟩, _⟩ := k2.own hm
    obtain ⟨w, hw, hr⟩ := atI_pair p h
    exact ⟨a, vs, i, w, h1, h2, SqL.of e, hw, q _ Hs2 H2 k2 (s1.trans (stp_to ha.same s2)) hr⟩⟩
/-! #### tests -/
theorem et_test {b : Bool} (h : Ev te Γ Δ RB b Δ1) : EvT (tTest te) Γ Δ b Δ1 := ⟨h.same, fun σ Hs H k Q q => h.run σ Hs H k _ fun v Hs' H' k' s r => ⟨b, r, q Hs' H' k' s⟩⟩
theorem et_B {b : Bool} (h : Ev te Γ Δ RB b Δ1) : EvT (tB te) Γ Δ b Δ1 := ⟨h.same, fun σ Hs H k Q q => h.run σ Hs H k _ fun v Hs' H' k' s r => ⟨b, r, q Hs' H' k' s⟩⟩
theorem et_and {a b : Bool} (h1 : EvT tt Γ Δ a Δ1) (h2 : a = true → EvT tu Γ Δ1 b Δ1) : EvT (tAnd tt tu) Γ Δ (a && b) Δ1 := ⟨h1.same, fun σ Hs H k Q q => h1.run σ Hs H k _ fun Hs1 H1 k1 s1 => by
  cases a with
  | true =>
    show tu σ H1 Q
    exact (h2 rfl).run σ Hs1 H1 k1 Q fun Hs2 H2 k2 s2 => q Hs2 H2 k2 (s1.trans (stp_to h1.same s2))
  | false => exact q Hs1 H1 k1 s1⟩
theorem et_or {a b : Bool} (h1 : EvT tt Γ Δ a Δ1) (h2 : a = false → EvT tu Γ Δ1 b Δ1) : EvT (tOr tt tu) Γ Δ (a || b) Δ1 := ⟨h1.same, fun σ Hs H k Q q => h1.run σ Hs H k _ fun Hs1 H1 k1 s1 => by
  cases a with
  | false =>
    show tu σ H1 Q
    exact (h2 rfl).run σ Hs1 H1 k1 Q fun Hs2 H2 k2 s2 => q Hs2 H2 k2 (s1.trans (stp_to h1.same s2))
  | true => exact q Hs1 H1 k1 s1⟩
theorem et_not {a : Bool} (h1 : EvT tt Γ Δ a Δ1) : EvT (tNot tt) Γ Δ (!a) Δ1 := ⟨h1.same, fun σ Hs H k Q q => h1.run σ Hs H k _ fun Hs1 H1 k1 s1 => q Hs1 H1 k1 s1⟩
theorem ev_andV {a b : Bool} (h1 : Ev ta Γ Δ RB a Δ1) (h2 : a = true → Ev tb Γ Δ1 RB b Δ1) : Ev (tAndV ta tb) Γ Δ RB (a && b) Δ1 := ⟨h1.same, fun σ Hs H k Q q => h1.run σ Hs H k _ fun v Hs1 H1 k1 s1 r1 => ⟨a, r1, by
  cases a with
  | true =>
    show tb σ H1 Q
    exact (h2 rfl).run σ Hs1 H1 k1 Q fun w Hs2 H2 k2 s2 r2 => q w Hs2 H2 k2 (s1.trans (stp_to h1.same s2)) r2
  | false => exact q _ Hs1 H1 k1 s1 rfl⟩⟩
theorem ev_notV {a : Bool} (h1 : Ev ta Γ Δ RB a Δ1) : Ev (tNotV ta) Γ Δ RB (!a) Δ1 := ⟨h1.same, fun σ Hs H k Q q => h1.run σ Hs H k _ fun v Hs1 H1 k1 s1 r1 => ⟨a, r1, q _ Hs1 H1 k1 s1 rfl⟩⟩
/-! #### arguments, displays, calls -/
theorem ea_nil : EvA tNil Γ Δ [] Δ := ⟨rfl, fun σ Hs H k Q q => q _ Hs H k .refl .nil⟩
theorem ea_cons {tr : TA} {ss : List Slot} (h : Ev ta Γ Δ R x Δ1) (hr : EvA tr Γ Δ1 ss Δ2) : EvA (tCons ta tr) Γ Δ (⟨α, R, x⟩ :: ss) Δ2 :=
  ⟨hr.same.trans h.same, fun σ Hs H k Q q => h.run σ Hs H k _ fun v Hs1 H1 k1 s1 r1 => hr.run σ Hs1 H1 k1 _ fun vs Hs2 H2 k2 s2 r2 => q _ Hs2 H2 k2 (s1.trans (stp_to h.same s2)) (.cons (R.mono s2.s1 r1) r2)⟩
/-- arguments of one kind -/
def slots (R : Rl α) (xs : List α) : List Slot := xs.map fun x => ⟨α, R, x⟩
theorem args_pair {Hs : Hp} : ∀ {vs : List V} {xs : List α}, Args Hs vs (slots R xs) → Paired (R.r Hs) vs xs
  | _, [], .nil => .nil
  | _, _ :: _, .cons h r => .cons h (args_pair r)
theorem args_of_pair {Hs : Hp} : ∀ {vs : List V} {xs : List α}, Paired (R.r Hs) vs xs → Args Hs vs (slots R xs)
  | _, [], .nil => .nil
  | _, _ :: _, .cons h r => .cons h (args_of_pair r)
theorem ea_snil : EvA tNil Γ Δ (slots R []) Δ := ea_nil
theorem ea_scons {tr : TA} {xs : List α} (h : Ev ta Γ Δ R x Δ1) (hr : EvA tr Γ Δ1 (slots R xs) Δ2) : EvA (tCons ta tr) Γ Δ (slots R (x :: xs)) Δ2 := ea_cons h hr
theorem ev_tup {t : TA} {xs : List α} (h : EvA t Γ Δ (slots R xs) Δ1) (hz : xs.length ≤ 1000) : Ev (tTup t) Γ Δ (RT R) xs Δ1 :=
  ⟨h.same, fun σ Hs H k Q q => h.run σ Hs H k _ fun vs Hs1 H1 k1 s1 r1 => by
    have pr := args_pair r1
    have hz' : xs.length ≤ sizeLine := Nat.le_of_lt (small1000 hz)
    refine ⟨by rw [pair_len pr]; exact hz', fun p hp => ?_⟩
    have n : Nw Hs1 H1 (upd Hs1 p (.tup vs)) (upd H1 p (.tup vs)) := .push k1.sub hp
    exact q _ _ _ (k1.nw n) (s1.trans n.stp) ⟨p, vs, rfl, upd_same, pair_mono (fun _ _ w => R.mono n.s1 w) pr, hz'⟩⟩
theorem ev_pair {t : TA} (h : EvA t Γ Δ [⟨α, R, x⟩, ⟨β, S, y⟩] Δ1) : Ev (tTup t) Γ Δ (RP R S) (x, y) Δ1 :=
  ⟨h.same, fun σ Hs H k Q q => h.run σ Hs H k _ fun vs Hs1 H1 k1 s1 r1 => by
    cases r1 with
    | @cons v1 _ _ _ h1 r =>
      cases r with
      | @cons v2 _ _ _ h2 r =>
        cases r
        refine ⟨by show 2 ≤ sizeLine; decide, fun p hp => ?_⟩
        have n : Nw Hs1 H1 (upd Hs1 p (.tup [v1, v2])) (upd H1 p (.tup [v1, v2])) := .push k1.sub hp
        exact q _ _ _ (k1.nw n) (s1.trans n.stp) ⟨p, v1, v2, rfl, upd_same, R.mono n.s1 h1, S.mono n.s1 h2⟩⟩
theorem en_lst {t : TA} {xs : List α} (h : EvA t Γ Δ (slots R xs) Δ1) (hz : xs.length ≤ 1000) : EvN (tLst t) Γ Δ R xs Δ1 :=
  ⟨h.same, fun σ Hs H k Q q => h.run σ Hs H k _ fun vs Hs1 H1 k1 s1 r1 => by
    have pr := args_pair r1
    have hz' : xs.length ≤ sizeLine := Nat.le_of_lt (small1000 hz)
    refine ⟨by rw [pair_len pr]; exact hz', fun p hp => ?_⟩
    have n : Nw Hs1 H1 Hs1 (upd H1 p (.lst vs)) := .drop k1.sub hp
    have hsp : Hs1 p = none := Same.free k1.sub hp
    have hHp : H p = none := by
      cases e : H p with
      | none => rfl
      | some o => exact absurd hp (s1.live p (by rw [e]; exact fun z => nomatch z))
    refine q p vs _ _ (k1.nw n) (s1.trans n.stp) hHp hsp (fun hm => ?_) upd_same pr hz'
    obtain ⟨m, hm1, hm2⟩ := List.mem_map.mp hm
    have := m.2.live (k.mo m hm1).1
    rw [hm2] at this
    exact this hHp⟩
/-! #### promises -/
/-- a def that makes new things alone: i its datum, its arguments, what it asks, what it hands back -/
def spG {ι : Type} (as : ι → List Slot) (pre : ι → Prop) (res : ι → Slot) : Sp := fun vs H Q _ =>
  ∃ (Hs : Hp) (i : ι), Same Hs H ∧ Args Hs vs (as i) ∧ pre i ∧ ∀ u Hs' H', Nw Hs H Hs' H' → (res i).R.r Hs' u (res i).x → Q u H'
theorem Stp.ok {as : List Addr} {Hs H Hs' H' : Hp} (n : Nw Hs H Hs' H') : Stp as Hs H Hs' H' := n.stp
theorem ev_call {ι : Type} {as : ι → List Slot} {pre : ι → Prop} {res : ι → Slot} {E : XK} {t : TA} (i : ι) (h : EvA t Γ Δ (as i) Δ1) (hp : pre i) : Ev (tCall (spG as pre res) [] E t) Γ Δ (res i).R (res i).x Δ1 :=
  ⟨h.same, fun σ Hs H k Q q => h.run σ Hs H k _ fun vs Hs1 H1 k1 s1 r1 => ⟨Hs1, i, k1.sub, by rw [List.append_nil]; exact r1, hp, fun u Hs2 H2 n r => q u Hs2 H2 (k1.nw n) (s1.trans n.stp) r⟩⟩
/-- a call of a built-in by values -/
theorem ev_cb {r : List V → Hp → VK → Prop} {t : TA} {ss : List Slot} (h : EvA t Γ Δ ss Δ1) (hr : ∀ (Hs H : Hp) (vs : List V), Same Hs H → Args Hs vs ss → ∀ Q : VK, (∀ w Hs' H', Nw Hs H Hs' H' → T.r Hs' w z → Q w H') → r vs H Q) : Ev (tCB r t) Γ Δ T z Δ1 :=
  ⟨h.same, fun σ Hs H k Q q => h.run σ Hs H k _ fun vs Hs1 H1 k1 s1 r1 => hr Hs1 H1 vs k1.sub r1 Q fun w Hs2 H2 n r => q w Hs2 H2 (k1.nw n) (s1.trans n.stp) r⟩
end
end TL
set_option Elab.async false
set_option linter.all false
set_option maxRecDepth 100000
set_option maxHeartbeats 1000000
/-! the typed layer: built-ins, slices, statements, loops, comprehensions -/
namespace TL
open PySem PySem.Spec PyProof.Rows L2
section
variable {α β γ : Type} {Γ : Cn} {Δ Δ1 Δ2 Δ3 : Mn} {R : Rl α} {S : Rl β} {T : Rl γ} {x : α} {y : β} {z : γ} {ta tb te : TE} {tt tu : TT} {K : PySem.W.Frag} {i j : Int}
theorem mem_adr {p : Addr × MO} (h : p ∈ Δ) : p.1 ∈ adr Δ := List.mem_map_of_mem h
/-! #### built-ins -/
theorem seq_of {Hs H : Hp} {v : V} {xs : List α} (s : Same Hs H) (h : (RS R).r Hs v xs) : ∃ p ys, v = .ref p ∧ (SqL K H p ys ∨ SqT K H p ys) ∧ Paired (R.r Hs) ys xs ∧ xs.length ≤ sizeLine := by
  rcases h with ⟨a, vs, rfl, e, p, zz⟩ | ⟨a, vs, rfl, e, p, zz⟩
  · exact ⟨a, vs, rfl, .inl (SqL.of (s _ _ e)), p, zz⟩
  · exact ⟨a, vs, rfl, .inr (SqT.of (s _ _ e)), p, zz⟩
theorem ev_len {xs : List α} (h : Ev ta Γ Δ (RS R) xs Δ1) : Ev (tCB (fun xs H Q => ∃ p ys, xs = [V.ref p] ∧ (SqL K H p ys ∨ SqT K H p ys) ∧ Q (.int ys.length) H) (tCons ta tNil)) Γ Δ RI (xs.length : Int) Δ1 :=
  ev_cb (ea_cons h ea_nil) fun Hs H vs s r Q q => by
    cases r with
    | cons h r =>
      cases r
      obtain ⟨p, ys, rfl, e, pr, _⟩ := seq_of (K := K) s h
      exact ⟨p, ys, rfl, e, q _ Hs H (.refl s) (by show V.int _ = _; rw [pair_len pr])⟩
theorem ev_lenO {a : Addr} {xs : List α} (h : Ev ta Γ Δ RA a Δ1) (hm : (a, MO.lst R xs) ∈ Δ1) : Ev (tCB (fun xs H Q => ∃ p ys, xs = [V.ref p] ∧ (SqL K H p ys ∨ SqT K H p ys) ∧ Q (.int ys.length) H) (tCons ta tNil)) Γ Δ RI (xs.length : Int) Δ1 :=
  ⟨h.same, fun σ Hs H k Q q => h.run σ Hs H k _ fun v Hs1 H1 k1 s1 h1 => by
    obtain ⟨⟨vs, e, p⟩, _⟩ := k1.own hm
    exact ⟨a, vs, by rw [show v = V.ref a from h1], .inl (SqL.of e), q _ Hs1 H1 k1 s1 (by show V.int _ = _; rw [pair_len p])⟩⟩
theorem ev_abs (h : Ev ta Γ Δ RI i Δ1) : Ev (tCB (fun xs H Q => ∃ i, xs = [V.int i] ∧ Q (.int (if i < 0 then -i else i)) H) (tCons ta tNil)) Γ Δ RI (i.natAbs : Int) Δ1 :=
  ev_cb (ea_cons h ea_nil) fun Hs H vs s r Q q => by
    cases r with
    | cons h r =>
      cases r
      cases (show _ = V.int i from h)
      exact ⟨i, rfl, q _ Hs H (.refl s) (congrArg V.int (by split <;> omega))⟩
def b2i (b : Bool) : Int := if b then 1 else 0
theorem ev_intB {b : Bool} (h : Ev ta Γ Δ RB b Δ1) : Ev (tCB (fun xs H Q => (∃ i, xs = [V.int i] ∧ Q (.int i) H) ∨ ∃ k, xs = [V.bl k] ∧ Q (.int (if k then 1 else 0)) H) (tCons ta tNil)) Γ Δ RI (b2i b) Δ1 :=
  ev_cb (ea_cons h ea_nil) fun Hs H vs s r Q q => by
    cases r with
    | cons h r =>
      cases r
      exact .inr ⟨b, by rw [show _ = V.bl b from h], q _ Hs H (.refl s) rfl⟩
theorem en_list {xs : List α} (h : Ev ta Γ Δ (RS R) xs Δ1) : EvN (tCB (fun xs H Q => ∃ p ys, xs = [V.ref p] ∧ (SqL K H p ys ∨ SqT K H p ys) ∧ ∀ l, H l = none → Q (.ref l) (upd H l (.lst ys))) (tCons ta tNil)) Γ Δ R xs Δ1 :=
  ⟨h.same, fun σ Hs H k Q q => h.run σ Hs H k _ fun v Hs1 H1 k1 s1 h1 => by
    obtain ⟨p, ys, rfl, e, pr, hz⟩ := seq_of (K := K) k1.sub h1
    refine ⟨p, ys, rfl, e, fun l hl => ?_⟩
    have n : Nw Hs1 H1 Hs1 (upd H1 l (.lst ys)) := .drop k1.sub hl
    have hHl : H l = none := by
      cases e : H l with
      | none => rfl
      | some o => exact absurd hl (s1.live l (by rw [e]; exact fun z => nomatch z))
    refine q l ys _ _ (k1.nw n) (s1.trans n.stp) hHl (Same.free k1.sub hl) (fun hm => ?_) upd_same pr hz
    obtain ⟨m, hm1, hm2⟩ := List.mem_map.mp hm
    have := m.2.live (k.mo m hm1).1
    rw [hm2] at this
    exact this hHl⟩
theorem ev_tuple {xs : List α} (h : Ev ta Γ Δ (RS R) xs Δ1) : Ev (tCB (fun xs H Q => ∃ p ys, xs = [V.ref p] ∧ ((SqL K H p ys ∧ ∀ l, H l = none → Q (.ref l) (upd H l (.tup ys))) ∨ (SqT K H p ys ∧ Q (.ref p) H))) (tCons ta tNil)) Γ Δ (RT R) xs Δ1 :=
  ev_cb (ea_cons h ea_nil) fun Hs H vs s r Q q => by
    cases r with
    | cons h r =>
      cases r
      rcases h with ⟨a, vs, rfl, e, p, hz⟩ | ⟨a, vs, rfl, e, p, hz⟩
      · refine ⟨a, vs, rfl, .inl ⟨SqL.of (s _ _ e), fun l hl => ?_⟩⟩
        have n : Nw Hs H (upd Hs l (.tup vs)) (upd H l (.tup vs)) := .push s hl
        exact q _ _ _ n ⟨l, vs, rfl, upd_same, pair_mono (fun _ _ w => R.mono n.s1 w) p, hz⟩
      · exact ⟨a, vs, rfl, .inr ⟨SqT.of (s _ _ e), q _ Hs H (.refl s) ⟨a, vs, rfl, e, p, hz⟩⟩⟩
theorem ev_tupleO {a : Addr} {xs : List α} (h : Ev ta Γ Δ RA a Δ1) (hm : (a, MO.lst R xs) ∈ Δ1) (hz : xs.length ≤ 1000) : Ev (tCB (fun xs H Q => ∃ p ys, xs = [V.ref p] ∧ ((SqL K H p ys ∧ ∀ l, H l = none → Q (.ref l) (upd H l (.tup ys))) ∨ (SqT K H p ys ∧ Q (.ref p) H))) (tCons ta tNil)) Γ Δ (RT R) xs Δ1 :=
  ⟨h.same, fun σ Hs H k Q q => h.run σ Hs H k _ fun v Hs1 H1 k1 s1 h1 => by
    obtain ⟨⟨vs, e, p⟩, _⟩ := k1.own hm
    refine ⟨a, vs, by rw [show v = V.ref a from h1], .inl ⟨SqL.of e, fun l hl => ?_⟩⟩
    have n : Nw Hs1 H1 (upd Hs1 l (.tup vs)) (upd H1 l (.tup vs)) := .push k1.sub hl
    exact q _ _ _ (k1.nw n) (s1.trans n.stp) ⟨l, vs, rfl, upd_same, pair_mono (fun _ _ w => R.mono n.s1 w) p, Nat.le_of_lt (small1000 hz)⟩⟩
theorem ints_of {Hs : Hp} : ∀ {vs : List V} {ns : List Int}, Paired (RI.r Hs) vs ns → vs = ns.map V.int
  | _, _, .nil => rfl
  | _, _, .cons (a := a) (b := b) h t => by
    have e : a = V.int b := h
    rw [e, ints_of t]
    rfl
theorem ints_pair {Hs : Hp} : ∀ xs : List Int, Paired (RI.r Hs) (xs.map V.int) xs
  | [] => .nil
  | _ :: r => .cons rfl (ints_pair r)
theorem bools_of {Hs : Hp} : ∀ {vs : List V} {ns : List Bool}, Paired (RB.r Hs) vs ns → vs = ns.map V.bl
  | _, _, .nil => rfl
  | _, _, .cons (a := a) (b := b) h t => by
    have e : a = V.bl b := h
    rw [e, bools_of t]
    rfl
theorem ev_sum {xs : List Int} (h : Ev ta Γ Δ (RL RI) xs Δ1) : Ev (tCB (rSum K) (tCons ta tNil)) Γ Δ RI xs.sum Δ1 :=
  ev_cb (ea_cons h ea_nil) fun Hs H vs s r Q q => by
    cases r with
    | cons h r =>
      cases r
      obtain ⟨a, vs, rfl, e, p, hz⟩ := h
      exact ⟨a, xs, rfl, by rw [← ints_of p]; exact SqL.of (s _ _ e), q _ Hs H (.refl s) rfl⟩
theorem ev_all {xs : List Bool} (h : Ev ta Γ Δ (RL RB) xs Δ1) : Ev (tCB (rAll K) (tCons ta tNil)) Γ Δ RB (xs.all id) Δ1 :=
  ev_cb (ea_cons h ea_nil) fun Hs H vs s r Q q => by
    cases r with
    | cons h r =>
      cases r
      obtain ⟨a, vs, rfl, e, p, hz⟩ := h
      exact ⟨a, xs, rfl, by rw [← bools_of p]; exact SqL.of (s _ _ e), q _ Hs H (.refl s) rfl⟩
theorem ev_isi_int {b : Bool} {n : String} (h : Ev ta Γ Δ RI i Δ1) (hb : kitB "int" n = some b) : Ev (tCB (rIsi K) (tCons ta (tCons (tC (.ty n)) tNil))) Γ Δ RB b Δ1 :=
  ⟨h.same, fun σ Hs H k Q q => h.run σ Hs H k _ fun v Hs1 H1 k1 s1 h1 => ⟨v, .ty n, _, _, b, rfl, .ty n, .base (by rw [show v = V.int i from h1]; exact .int i), kit_ty hb, q _ Hs1 H1 k1 s1 rfl⟩⟩
theorem ev_isi_tup {b : Bool} {n : String} {xs : List α} (h : Ev ta Γ Δ (RT R) xs Δ1) (hb : kitB "tuple" n = some b) : Ev (tCB (rIsi K) (tCons ta (tCons (tC (.ty n)) tNil))) Γ Δ RB b Δ1 :=
  ⟨h.same, fun σ Hs H k Q q => h.run σ Hs H k _ fun v Hs1 H1 k1 s1 ⟨a, vs, e, e1, _⟩ => ⟨v, .ty n, _, _, b, rfl, .ty n, .base (by rw [e]; exact .tup (k1.sub _ _ e1)), kit_ty hb, q _ Hs1 H1 k1 s1 rfl⟩⟩
/-! #### slices, joins -/
structure EvO (to : TO) (Γ : Cn) (Δ : Mn) (o : Option Int) : Prop where
  run : ∀ (σ : L2.St) (Hs H : Hp), Ok Hs H σ Γ Δ → ∀ Q : Option Int → Hp → Prop, (∀ Hs' H', Ok Hs' H' σ Γ Δ → Stp (adr Δ) Hs H Hs' H' → Q o H') → to σ H Q
theorem eo_none : EvO tNoPart Γ Δ none := ⟨fun σ Hs H k Q q => q Hs H k .refl⟩
theorem eo_some (h : Ev te Γ Δ RI i Δ) : EvO (tPart te) Γ Δ (some i) := ⟨fun σ Hs H k Q q => h.run σ Hs H k _ fun v Hs' H' k' s r => ⟨i, r, q Hs' H' k' s⟩⟩
def cutX (xs : List α) (lo hi : Option Int) : List α := (xs.drop (HT.sIx xs.length 0 lo)).take (HT.sIx xs.length xs.length hi - HT.sIx xs.length 0 lo)
theorem cutX_len (xs : List α) (lo hi : Option Int) : (cutX xs lo hi).length ≤ xs.length := by
  unfold cutX
  rw [List.length_take, List.length_drop]
  omega
theorem cut_pair {F : V → α → Prop} {vs : List V} {xs : List α} (p : Paired F vs xs) (lo hi : Option Int) : Paired F (cutV vs lo hi) (cutX xs lo hi) := by
  unfold cutV cutX
  rw [pair_len p]
  exact pair_take _ (pair_drop _ p)
theorem ev_slT {tl th : TO} {xs : List α} {lo hi : Option Int} (h : Ev te Γ Δ (RT R) xs Δ1) (h1 : EvO tl Γ Δ1 lo) (h2 : EvO th Γ Δ1 hi) : Ev (tSl (rSlA K) te tl th) Γ Δ (RT R) (cutX xs lo hi) Δ1 :=
  ⟨h.same, fun σ Hs H k Q q => h.run σ Hs H k _ fun v Hs1 H1 k1 s1 r1 => h1.run σ Hs1 H1 k1 _ fun Hs2 H2 k2 s2 => h2.run σ Hs2 H2 k2 _ fun Hs3 H3 k3 s3 => by
    obtain ⟨a, vs, rfl, e, p, hz⟩ := (RT R).mono s3.s1 ((RT R).mono s2.s1 r1)
    have st := (s1.trans (stp_to h.same s2)).trans (stp_to h.same s3)
    refine ⟨a, vs, rfl, SqT.of (k3.sub _ _ e), fun hw => ?_, fun hw pp hp => ?_⟩
    · have ec : cutX xs lo hi = xs := by
        rw [pair_len p] at hw
        unfold cutX
        rw [hw.1, hw.2]
        simp
      exact q _ Hs3 H3 k3 st ⟨a, vs, rfl, e, by rw [ec]; exact p, by rw [ec]; exact hz⟩
    · have n : Nw Hs3 H3 (upd Hs3 pp (.tup (cutV vs lo hi))) (upd H3 pp (.tup (cutV vs lo hi))) := .push k3.sub hp
      exact q _ _ _ (k3.nw n) (st.trans n.stp) ⟨pp, _, rfl, upd_same, pair_mono (fun _ _ w => R.mono n.s1 w) (cut_pair p lo hi), Nat.le_trans (cutX_len _ _ _) hz⟩⟩
theorem fresh_adr {σ : L2.St} {Hs H : Hp} {p : Addr} (k : Ok Hs H σ Γ Δ) (h : H p = none) : p ∉ adr Δ := fun hm => by
  obtain ⟨m, hm1, hm2⟩ := List.mem_map.mp hm
  have := m.2.live (k.mo m hm1).1
  rw [hm2] at this
  exact this h
theorem back_none {as : List Addr} {Hs H Hs' H' : Hp} {p : Addr} (s : Stp as Hs H Hs' H') (h : H' p = none) : H p = none := by
  cases e : H p with
  | none => rfl
  | some o => exact absurd h (s.live p (by rw [e]; exact fun z => nomatch z))
theorem en_slL {tl th : TO} {xs : List α} {lo hi : Option Int} (h : Ev te Γ Δ (RL R) xs Δ1) (h1 : EvO tl Γ Δ1 lo) (h2 : EvO th Γ Δ1 hi) : EvN (tSl (rSlL K) te tl th) Γ Δ R (cutX xs lo hi) Δ1 :=
  ⟨h.same, fun σ Hs H k Q q => h.run σ Hs H k _ fun v Hs1 H1 k1 s1 r1 => h1.run σ Hs1 H1 k1 _ fun Hs2 H2 k2 s2 => h2.run σ Hs2 H2 k2 _ fun Hs3 H3 k3 s3 => by
    obtain ⟨a, vs, rfl, e, p, hz⟩ := (RL R).mono s3.s1 ((RL R).mono s2.s1 r1)
    have st := (s1.trans (stp_to h.same s2)).trans (stp_to h.same s3)
    refine ⟨a, vs, rfl, SqL.of (k3.sub _ _ e), fun pp hp => ?_⟩
    have n : Nw Hs3 H3 Hs3 (upd H3 pp (.lst (cutV vs lo hi))) := .drop k3.sub hp
    have hHp := back_none st hp
    exact q pp _ _ _ (k3.nw n) (st.trans n.stp) hHp (Same.free k3.sub hp) (fresh_adr k hHp) upd_same (cut_pair p lo hi) (Nat.le_trans (cutX_len _ _ _) hz)⟩
/-- a slice of the script -/
theorem en_slSc {tl th : TO} {xs : List Int} {lo hi : Option Int} (h : Ev te Γ Δ (RSc K) xs Δ1) (h1 : EvO tl Γ Δ1 lo) (h2 : EvO th Γ Δ1 hi) (hz : xs.length ≤ 1000) : EvN (tSl (rSlL K) te tl th) Γ Δ RI (cutX xs lo hi) Δ1 :=
  ⟨h.same, fun σ Hs H k Q q => h.run σ Hs H k _ fun v Hs1 H1 k1 s1 r1 => h1.run σ Hs1 H1 k1 _ fun Hs2 H2 k2 s2 => h2.run σ Hs2 H2 k2 _ fun Hs3 H3 k3 s3 => by
    obtain ⟨a, rfl, e⟩ := (RSc K).mono k3.sub ((RSc K).mono s3.s1 ((RSc K).mono s2.s1 r1))
    have st := (s1.trans (stp_to h.same s2)).trans (stp_to h.same s3)
    refine ⟨a, _, rfl, e, fun pp hp => ?_⟩
    have n : Nw Hs3 H3 Hs3 (upd H3 pp (.lst (cutV (xs.map V.int) lo hi))) := .drop k3.sub hp
    have hHp := back_none st hp
    have pr : Paired (RI.r Hs3) (xs.map V.int) xs := ints_pair xs
    exact q pp _ _ _ (k3.nw n) (st.trans n.stp) hHp (Same.free k3.sub hp) (fresh_adr k hHp) upd_same (cut_pair pr lo hi) (Nat.le_trans (cutX_len _ _ _) (Nat.le_of_lt (small1000 hz)))⟩
theorem en_cat {xs ys : List α} (ha : Ev ta Γ Δ (RL R) xs Δ1) (hb : Ev tb Γ Δ1 (RL R) ys Δ2) (hz : xs.length + ys.length ≤ 1000) : EvN (tOp rCat ta tb) Γ Δ R (xs ++ ys) Δ2 :=
  ⟨hb.same.trans ha.same, fun σ Hs H k Q q => ha.run σ Hs H k _ fun v Hs1 H1 k1 s1 r1 => hb.run σ Hs1 H1 k1 _ fun u Hs2 H2 k2 s2 r2 => by
    obtain ⟨a, vs, rfl, e, p, _⟩ := (RL R).mono s2.s1 r1
    obtain ⟨b, us, rfl, e', p', _⟩ := r2
    have st := s1.trans (stp_to ha.same s2)
    have hz' : xs.length + ys.length ≤ sizeLine := Nat.le_of_lt (small1000 hz)
    refine ⟨a, b, vs, us, rfl, rfl, k2.sub _ _ e, k2.sub _ _ e', by rw [pair_len p, pair_len p']; exact hz', fun pp hp => ?_⟩
    have n : Nw Hs2 H2 Hs2 (upd H2 pp (.lst (vs ++ us))) := .drop k2.sub hp
    have hHp := back_none st hp
    exact q pp _ _ _ (k2.nw n) (st.trans n.stp) hHp (Same.free k2.sub hp) (fresh_adr k hHp) upd_same (pair_app p p') (by rw [List.length_append]; exact hz')⟩
theorem ev_catT {xs ys : List α} (ha : Ev ta Γ Δ (RT R) xs Δ1) (hb : Ev tb Γ Δ1 (RT R) ys Δ2) (hz : xs.length + ys.length ≤ 1000) : Ev (tOp (rCatA K) ta tb) Γ Δ (RT R) (xs ++ ys) Δ2 :=
  ev_op ha hb fun Hs H v u s h1 h2 Q q => by
    obtain ⟨a, vs, rfl, e, p, z1⟩ := h1
    obtain ⟨b, us, rfl, e', p', z2⟩ := h2
    have hz' : xs.length + ys.length ≤ sizeLine := Nat.le_of_lt (small1000 hz)
    refine ⟨a, b, vs, us, rfl, rfl, SqT.of (s _ _ e), SqT.of (s _ _ e'), by rw [pair_len p, pair_len p']; exact hz', fun h0 => ?_, fun _ h0 => ?_, fun _ _ pp hp => ?_⟩
    · subst h0
      cases p
      exact q _ Hs H (.refl s) ⟨b, us, rfl, e', p', z2⟩
    · subst h0
      cases p'
      exact q _ Hs H (.refl s) ⟨a, vs, rfl, e, by rw [List.append_nil]; exact p, by rw [List.append_nil]; exact z1⟩
    · have n : Nw Hs H (upd Hs pp (.tup (vs ++ us))) (upd H pp (.tup (vs ++ us))) := .push s hp
      exact q _ _ _ n ⟨pp, _, rfl, upd_same, pair_mono (fun _ _ w => R.mono n.s1 w) (pair_app p p'), by rw [List.length_append]; exact hz'⟩
/-! #### what data is, for == -/
class Dat (R : Rl α) (d : α → PyData) : Prop where
  dp : ∀ {K : PySem.W.Frag} {Hs H : Hp} {v : V} {x : α}, Same Hs H → R.r Hs v x → Dp K H v (d x)
theorem dat_RI : Dat RI PyData.int := ⟨fun {K Hs H v x} s h => by rw [show v = V.int x from h]; exact .int x⟩
theorem dat_all {d : α → PyData} (D : Dat R d) {K : PySem.W.Frag} {Hs H : Hp} (s : Same Hs H) : ∀ {vs : List V} {xs : List α}, Paired (R.r Hs) vs xs → DpAll K H vs (xs.map d)
  | _, _, .nil => .nil
  | _, _, .cons h t => .cons (D.dp s h) (dat_all D s t)
theorem dat_RT {d : α → PyData} (D : Dat R d) : Dat (RT R) (fun xs => .tuple (xs.map d)) := ⟨fun {K Hs H v x} s h => by
  obtain ⟨a, vs, rfl, e, p, _⟩ := h
  exact .tup (SqT.of (s _ _ e)) (dat_all D s p)⟩
theorem ev_eqD {d : α → PyData} {x x' : α} {b : Bool} (D : Dat R d) (ha : Ev ta Γ Δ R x Δ1) (hb : Ev tb Γ Δ1 R x' Δ2) (h1 : SeqAt.shaped (d x) = true) (h2 : SeqAt.shaped (d x') = true) (hb' : PyData.eqv (d x) (d x') = b) : Ev (tOp (rEqD K) ta tb) Γ Δ RB b Δ2 :=
  ev_op ha hb fun Hs H v u s q1 q2 Q q => ⟨_, _, D.dp s q1, D.dp s q2, h1, h2, q _ Hs H (.refl s) (by rw [hb']; rfl)⟩
end
/-! ### statements -/
structure Ctx where
  fa : List Addr
  Hs : Hp
  H : Hp
  fl : Hp
structure Fr (C : Ctx) (Hs H : Hp) (Δ : Mn) : Prop where
  stp : Stp C.fa C.Hs C.H Hs H
  own : ∀ a ∈ adr Δ, a ∈ C.fa ∨ C.H a = none
  fl : Same C.fl Hs
def Wn (C : Ctx) (N : L2.St → Hp → Prop) (Γ : Cn) (Δ : Mn) : Prop := ∀ σ Hs H, Ok Hs H σ Γ Δ → Fr C Hs H Δ → N σ H
/-- what a def's end is to bring -/
def Rt (C : Ctx) (rt : VK) {α : Type} (R : Rl α) (x : α) (ms : Mn) : Prop := ∀ v Hs' H', Same Hs' H' → Stp C.fa C.Hs C.H Hs' H' → (∀ p ∈ ms, p.2.ok Hs' H' p.1 ∧ Hs' p.1 = none) → R.r Hs' v x → rt v H'
theorem Fr.step {C : Ctx} {Hs H Hs' H' : Hp} {Δ Δ' : Mn} (f : Fr C Hs H Δ) (e : adr Δ' = adr Δ) (s : Stp (adr Δ) Hs H Hs' H') : Fr C Hs' H' Δ' := by
  refine ⟨⟨fun b o h => s.s1 b o (f.stp.s1 b o h), fun b o h n => s.keep b o (f.stp.keep b o h n) fun hb => ?_, fun b h => ?_, fun b h => s.live b (f.stp.live b h)⟩, by rw [e]; exact f.own, fun b o h => s.s1 b o (f.fl b o h)⟩
  · rcases f.own b hb with q | q
    · exact n q
    · rw [q] at h; cases h
  · rcases s.new b h with q | q
    · exact f.stp.new b q
    · refine .inr ?_
      cases e : C.H b with
      | none => rfl
      | some o => exact absurd q (f.stp.live b (by rw [e]; exact fun z => nomatch z))
section
variable {α β : Type} {C : Ctx} {Γ Γ' : Cn} {Δ Δ1 Δ2 : Mn} {R : Rl α} {S : Rl β} {x : α} {te : TE} {tt : TT} {t u : TS} {Nx bkk ctt : L2.St → Hp → Prop} {rtt : VK} {N : L2.St → Hp → Prop} {K : PySem.W.Frag}
theorem Ok.set {Hs H : Hp} {σ : L2.St} {i : Nat} {v : V} (k : Ok Hs H σ Γ Δ) (h : R.r Hs v x) (hi : i < Γ.length := by decide) : Ok Hs H (σ.set i (some v)) (Γ.set i (sl R x)) Δ where
  sub := k.sub
  len := by simpa using k.len
  slot := fun j s e => by
    by_cases hj : i = j
    · subst hj
      rw [List.getElem?_set_self hi] at e
      cases e
      exact ⟨v, List.getElem?_set_self (by rw [k.len]; exact hi), h⟩
    · rw [List.getElem?_set_ne hj] at e
      rw [List.getElem?_set_ne hj]
      exact k.slot j s e
  nd := k.nd
  mo := k.mo
theorem w_seq (h : Wn C (t ⟨u ⟨Nx, rtt, bkk, ctt⟩, rtt, bkk, ctt⟩) Γ Δ) : Wn C (tSeq t u ⟨Nx, rtt, bkk, ctt⟩) Γ Δ := h
theorem w_set {i : Nat} (h : Ev te Γ Δ R x Δ1) (q : Wn C Nx (Γ.set i (sl R x)) Δ1) (hi : i < Γ.length := by exact lt_by rfl) : Wn C (tAsg te (gName i) ⟨Nx, rtt, bkk, ctt⟩) Γ Δ := fun σ Hs H k f =>
  h.run σ Hs H k _ fun v Hs' H' k' s r => q _ Hs' H' (k'.set r hi) (f.step h.same s)
theorem w_setN {i : Nat} {xs : List α} (h : EvN te Γ Δ R xs Δ1) (q : ∀ a, Wn C Nx (Γ.set i (sl RA a)) ((a, .lst R xs) :: Δ1)) (hi : i < Γ.length := by exact lt_by rfl) : Wn C (tAsg te (gName i) ⟨Nx, rtt, bkk, ctt⟩) Γ Δ := fun σ Hs H k f =>
  h.run σ Hs H k _ fun p vs Hs' H' k' s hp hs' hpd h' pr hz => by
    have k2 := k'.set (R := RA) (x := p) (v := .ref p) (i := i) rfl hi
    have f2 := f.step h.same s
    refine q p _ Hs' H' ⟨k2.sub, k2.len, k2.slot, List.nodup_cons.mpr ⟨by show ¬ p ∈ adr Δ1; rw [h.same]; exact hpd, k2.nd⟩, fun m hm => ?_⟩ ⟨f2.stp, fun a ha => ?_, f2.fl⟩
    · rcases List.mem_cons.mp hm with rfl | hm
      · exact ⟨⟨vs, h', pr⟩, hs'⟩
      · exact k2.mo m hm
    · rcases List.mem_cons.mp ha with rfl | ha
      · exact .inr (back_none f.stp hp)
      · exact f2.own a ha
theorem w_if {b : Bool} (h : EvT tt Γ Δ b Δ1) (h1 : b = true → Wn C (t ⟨Nx, rtt, bkk, ctt⟩) Γ Δ1) (h2 : b = false → Wn C (u ⟨Nx, rtt, bkk, ctt⟩) Γ Δ1) : Wn C (tIfS tt t u ⟨Nx, rtt, bkk, ctt⟩) Γ Δ := fun σ Hs H k f =>
  h.run σ Hs H k _ fun Hs' H' k' s => by
    have f' := f.step h.same s
    cases b with
    | true => exact h1 rfl σ Hs' H' k' f'
    | false => exact h2 rfl σ Hs' H' k' f'
theorem w_yes (h : EvT tt Γ Δ true Δ1) (h1 : Wn C (t ⟨Nx, rtt, bkk, ctt⟩) Γ Δ1) : Wn C (tIfS tt t u ⟨Nx, rtt, bkk, ctt⟩) Γ Δ := w_if h (fun _ => h1) fun e => nomatch e
theorem w_no (h : EvT tt Γ Δ false Δ1) (h1 : Wn C (u ⟨Nx, rtt, bkk, ctt⟩) Γ Δ1) : Wn C (tIfS tt t u ⟨Nx, rtt, bkk, ctt⟩) Γ Δ := w_if h (fun e => nomatch e) fun _ => h1
theorem w_next (h : Wn C Nx Γ Δ) : Wn C (tNext ⟨Nx, rtt, bkk, ctt⟩) Γ Δ := h
theorem w_drop (h : Ev te Γ Δ R x Δ1) (q : Wn C Nx Γ Δ1) : Wn C (tDrop te ⟨Nx, rtt, bkk, ctt⟩) Γ Δ := fun σ Hs H k f =>
  h.run σ Hs H k _ fun v Hs' H' k' s r => q σ Hs' H' k' (f.step h.same s)
theorem w_ret {ms : Mn} (q : Rt C rtt R x ms) (h : Ev te Γ Δ R x Δ1) (hm : ∀ p ∈ ms, p ∈ Δ1) : Wn C (tRet te ⟨Nx, rtt, bkk, ctt⟩) Γ Δ := fun σ Hs H k f =>
  h.run σ Hs H k _ fun v Hs' H' k' s r => q v Hs' H' k'.sub (f.step h.same s).stp (fun p hp => k'.mo p (hm p hp)) r
/-- an owned list of the def's own is handed back -/
theorem w_retO {i : Nat} {b : Addr} {xs : List α} {ms : Mn} (q : Rt C rtt (RL R) xs ms) (hi : Γ[i]? = some (some ⟨Addr, RA, b⟩)) (hz : xs.length ≤ 1000) (hm : ∀ p ∈ ms, p ∈ Δ) (hf : ∀ a ∈ C.fa, a ∈ adr Δ) : Wn C (tRet (tVar i) ⟨Nx, rtt, bkk, ctt⟩) Γ ((b, .lst R xs) :: Δ) := fun σ Hs H k f => by
  obtain ⟨v, h1, h2⟩ := k.slot i _ hi
  refine ⟨v, h1, ?_⟩
  obtain ⟨⟨vs, e, p⟩, hn⟩ := k.own (List.mem_cons_self ..)
  have hnd := List.nodup_cons.mp k.nd
  have s1 : Same Hs (upd Hs b (.lst vs)) := fun c u e' => by
    have : c ≠ b := fun z => by rw [z, hn] at e'; cases e'
    rw [upd_ne this]; exact e'
  have nb : C.H b = none := by
    rcases f.own b (List.mem_cons_self ..) with z | z
    · exact absurd (hf b z) hnd.1
    · exact z
  refine q v (upd Hs b (.lst vs)) H (fun c u e' => ?_) ⟨fun c u e => s1 _ _ (f.stp.s1 _ _ e), f.stp.keep, fun c hc => ?_, f.stp.live⟩ (fun m hm' => ?_) ⟨b, vs, h2, upd_same, pair_mono (fun _ _ w => R.mono s1 w) p, Nat.le_of_lt (small1000 hz)⟩
  · by_cases hc : c = b
    · subst hc; rw [upd_same] at e'; rw [e]; exact e'
    · rw [upd_ne hc] at e'; exact k.sub _ _ e'
  · by_cases hcb : c = b
    · subst hcb; exact .inr nb
    · rw [upd_ne hcb] at hc; exact f.stp.new c hc
  · obtain ⟨q1, q2⟩ := k.mo m (List.mem_cons_of_mem _ (hm m hm'))
    have hne : m.1 ≠ b := fun z => hnd.1 (by have := mem_adr (hm m hm'); rw [z] at this; exact this)
    exact ⟨m.2.ok_mono q1 s1 rfl, by rw [upd_ne hne]; exact q2⟩
/-- the def's end without a return -/
theorem w_end {ms : Mn} {rt : VK} (q : Rt C rt RU () ms) (hm : ∀ p ∈ ms, p ∈ Δ) : Wn C (fun _ H' => rt .non H') Γ Δ := fun σ Hs H k f => q .non Hs H k.sub f.stp (fun p hp => k.mo p (hm p hp)) rfl
/-- fewer slots known -/
def Wk (Γ Γ' : Cn) : Prop := Γ.length = Γ'.length ∧ ∀ (i : Nat) (s : Slot), Γ'[i]? = some (some s) → Γ[i]? = some (some s)
theorem Ok.wk {Hs H : Hp} {σ : L2.St} (k : Ok Hs H σ Γ Δ) (w : Wk Γ Γ') : Ok Hs H σ Γ' Δ := ⟨k.sub, k.len.trans w.1, fun i s e => k.slot i s (w.2 i s e), k.nd, k.mo⟩
theorem w_wk (w : Wk Γ Γ') (h : Wn C N Γ' Δ) : Wn C N Γ Δ := fun σ Hs H k f => h σ Hs H (k.wk w) f
theorem wk_nil : Wk [] [] := ⟨rfl, fun _ _ h => h⟩
theorem wk_same {s : Option Slot} (h : Wk Γ Γ') : Wk (s :: Γ) (s :: Γ') := ⟨congrArg Nat.succ h.1, fun i u e => by
  cases i with
  | zero => exact e
  | succ i => exact h.2 i u e⟩
theorem wk_drop {s : Option Slot} (h : Wk Γ Γ') : Wk (s :: Γ) (none :: Γ') := ⟨congrArg Nat.succ h.1, fun i u e => by
  cases i with
  | zero => simp at e
  | succ i => exact h.2 i u e⟩
/-- xs.append(e), the list owned and first -/
theorem w_app {ta : TE} {a : Addr} {xs : List α} {Δr Δr' : Mn} (ha : Ev ta Γ ((a, .lst R xs) :: Δr) RA a ((a, .lst R xs) :: Δr)) (h : Ev te Γ ((a, .lst R xs) :: Δr) R x ((a, .lst R xs) :: Δr')) (hz : xs.length ≤ 1000)
    (q : Wn C Nx Γ ((a, .lst R (xs ++ [x])) :: Δr')) : Wn C (tDrop (tBM K "list" rAppend ta (tCons te tNil)) ⟨Nx, rtt, bkk, ctt⟩) Γ ((a, .lst R xs) :: Δr) := fun σ Hs H k f =>
  ha.run σ Hs H k _ fun v Hs1 H1 k1 s1 r1 => by
    cases (show v = .ref a from r1)
    obtain ⟨⟨vs, e, p⟩, _⟩ := k1.own (List.mem_cons_self ..)
    refine ⟨.inl ⟨rfl, vs, SqL.of e⟩, h.run σ Hs1 H1 k1 _ fun w Hs2 H2 k2 s2 r2 => ?_⟩
    obtain ⟨⟨ws, e2, p2⟩, hn⟩ := k2.own (List.mem_cons_self ..)
    refine ⟨a, ws, w, rfl, rfl, e2, by rw [pair_len p2]; exact small1000 hz, ?_⟩
    have f2 := f.step h.same (s1.trans s2)
    have sa : ∀ b, b ≠ a → upd H2 a (.lst (ws ++ [w])) b = H2 b := fun b hb => upd_ne hb
    refine q σ Hs2 (upd H2 a (.lst (ws ++ [w]))) ⟨fun b u z => ?_, k2.len, k2.slot, k2.nd, fun m hm => ?_⟩ ⟨⟨f2.stp.s1, fun b o z n => ?_, f2.stp.new, fun b z => ?_⟩, f2.own, f2.fl⟩
    · have : b ≠ a := fun y => by subst y; rw [hn] at z; cases z
      rw [sa b this]; exact k2.sub _ _ z
    · rcases List.mem_cons.mp hm with rfl | hm
      · exact ⟨⟨_, upd_same, pair_app p2 (.cons r2 .nil)⟩, hn⟩
      · have hne : m.1 ≠ a := fun z => (List.nodup_cons.mp k2.nd).1 (by have := mem_adr hm; rw [z] at this; exact this)
        obtain ⟨q1, q2⟩ := k2.mo m (List.mem_cons_of_mem _ hm)
        exact ⟨m.2.ok_mono q1 (fun _ _ z => z) (sa _ hne), q2⟩
    · by_cases hb : b = a
      · subst hb
        rcases f2.own b (List.mem_cons_self ..) with y | y
        · exact absurd y n
        · rw [y] at z; cases z
      · rw [sa b hb]; exact f2.stp.keep b o z n
    · by_cases hb : b = a
      · subst hb; rw [upd_same]; exact fun z => nomatch z
      · rw [sa b hb]; exact f2.stp.live b z
end
end TL
set_option Elab.async false
set_option linter.all false
set_option maxRecDepth 100000
set_option maxHeartbeats 1000000
/-! the typed layer: targets, loops, comprehensions, bodies -/
namespace TL
open PySem PySem.Spec PyProof.Rows L2
/-! ### what is walked -/
/-- wi gives n turns; at turn i the target g, from typed slots Γ1, makes st i Γ1, by the slots js alone -/
structure EvI (wi : TI) (g : TG) (js : List Nat) (Γ : Cn) (Δ : Mn) (n : Nat) (st : Nat → Cn → Cn) : Prop where
  len : ∀ i Γ1, (st i Γ1).length = Γ1.length
  run : ∀ (σ : L2.St) (Hs H : Hp), Ok Hs H σ Γ Δ → ∀ R : It → Hp → Prop,
    (∀ J Hs' H' G Y, Ok Hs' H' σ Γ Δ → Stp (adr Δ) Hs H Hs' H' → L2.Walk J n G Y → (∀ H'', Same Hs' H'' → G H'') →
      (∀ i H1 v H2 Hs1 (σ1 : L2.St) Γ1 Δ1, i < n → Y i H1 v H2 → Same Hs' Hs1 → Γ1.length = Γ.length → Ok Hs1 H1 σ1 Γ1 Δ1 → ∀ Q : L2.St → Hp → Prop,
        (∀ σ2 : L2.St, Ok Hs1 H2 σ2 (st i Γ1) Δ1 → Nw Hs1 H1 Hs1 H2 → (∀ k, k ∉ js → σ2[k]? = σ1[k]?) → σ2.length = σ1.length → Q σ2 H2) → g v σ1 H2 Q) → R J H') → wi σ H R
section
variable {α β : Type} {C : Ctx} {Γ Γ' : Cn} {Δ Δ1 Δ2 : Mn} {R : Rl α} {S : Rl β} {x : α} {y : β} {te ta tb : TE} {tt : TT} {t u : TS} {Nx bkk ctt : L2.St → Hp → Prop} {rtt : VK} {N : L2.St → Hp → Prop} {K : PySem.W.Frag} {j j1 j2 : Nat}
theorem Ok.noslot {Hs H : Hp} {σ : L2.St} {i : Nat} {v : V} (k : Ok Hs H σ Γ Δ) (hi : i < Γ.length) : Ok Hs H (σ.set i (some v)) (Γ.set i none) Δ where
  sub := k.sub
  len := by simpa using k.len
  slot := fun j s e => by
    by_cases hj : i = j
    · subst hj
      rw [List.getElem?_set_self hi] at e
      cases e
    · rw [List.getElem?_set_ne hj] at e
      rw [List.getElem?_set_ne hj]
      exact k.slot j s e
  nd := k.nd
  mo := k.mo
theorem one_slot {j : Nat} {H2 H1 Hs1 : Hp} {σ1 : L2.St} {v : V} {Q : L2.St → Hp → Prop} {s : Option Slot} (k : Ok Hs1 H1 σ1 Γ Δ) (e : H2 = H1) (hj : j < Γ.length) (hs : ∀ s', s = some s' → s'.R.r Hs1 v s'.x)
    (q : ∀ σ2 : L2.St, Ok Hs1 H2 σ2 (Γ.set j s) Δ → Nw Hs1 H1 Hs1 H2 → (∀ k, k ∉ [j] → σ2[k]? = σ1[k]?) → σ2.length = σ1.length → Q σ2 H2) : gName j v σ1 H2 Q := by
  subst e
  refine q (σ1.set j (some v)) ?_ (.refl k.sub) (fun m hm => List.getElem?_set_ne fun z => hm (by simp [z])) (by simp)
  cases s with
  | none => exact k.noslot hj
  | some s => obtain ⟨α, R, x⟩ := s; exact k.set (hs _ rfl) hj
/-- the item of a walked row -/
def itS (R : Rl α) (xs : List α) (i : Nat) : Option Slot := (xs[i]?).map fun x => ⟨α, R, x⟩
theorem itS_get {xs : List α} {i : Nat} {x : α} (h : xs[i]? = some x) : itS R xs i = sl R x := by unfold itS; rw [h]; rfl
theorem itS_rel {Hs : Hp} {vs : List V} {xs : List α} {i : Nat} {v : V} (p : Paired (R.r Hs) vs xs) (h : vs[i]? = some v) : ∀ s', itS R xs i = some s' → s'.R.r Hs v s'.x := by
  obtain ⟨x, hx, hr⟩ := pair_getL p h
  intro s' e
  rw [itS_get hx] at e
  cases e
  exact hr
theorem ei_list {xs : List α} (h : Ev te Γ Δ (RL R) xs Δ) (hj : j < Γ.length := by exact lt_by rfl) : EvI (iList K te) (gName j) [j] Γ Δ xs.length (fun i Γ1 => Γ1.set j (itS R xs i)) where
  len := fun _ _ => by simp
  run := fun σ Hs H k Q q => h.run σ Hs H k _ fun v Hs' H' k' s ⟨a, vs, e, e1, p, _⟩ => ⟨a, e, ⟨vs, SqL.of (k'.sub _ _ e1)⟩, by
    refine q (Itl K a) Hs' H' (fun H => SqL K H a vs) (YAt vs) k' s (by rw [← pair_len p]; exact walk_list) (fun H'' hs => SqL.of (hs _ _ e1)) fun i H1 v H2 Hs1 σ1 Γ1 Δ1 hi y hs hl k1 Q1 q1 => ?_
    obtain ⟨e2, e3⟩ := y
    exact one_slot k1 e2 (by rw [hl]; exact hj) (itS_rel (pair_mono (fun _ _ z => R.mono hs z) p) e3) q1⟩
theorem ei_tup {xs : List α} (h : Ev te Γ Δ (RT R) xs Δ) (hj : j < Γ.length := by exact lt_by rfl) : EvI (iTup K te) (gName j) [j] Γ Δ xs.length (fun i Γ1 => Γ1.set j (itS R xs i)) where
  len := fun _ _ => by simp
  run := fun σ Hs H k Q q => h.run σ Hs H k _ fun v Hs' H' k' s ⟨a, vs, e, e1, p, _⟩ => ⟨a, e, ⟨vs, SqT.of (k'.sub _ _ e1)⟩, by
    refine q (Itt K a) Hs' H' (fun H => SqT K H a vs) (YAt vs) k' s (by rw [← pair_len p]; exact walk_tup) (fun H'' hs => SqT.of (hs _ _ e1)) fun i H1 v H2 Hs1 σ1 Γ1 Δ1 hi y hs hl k1 Q1 q1 => ?_
    obtain ⟨e2, e3⟩ := y
    exact one_slot k1 e2 (by rw [hl]; exact hj) (itS_rel (pair_mono (fun _ _ z => R.mono hs z) p) e3) q1⟩
theorem ei_rng1 {n : Int} (h : EvA (tCons te tNil) Γ Δ [⟨Int, RI, n⟩] Δ) (hn : n < 1000) (h0 : 0 ≤ n) (hj : j < Γ.length := by exact lt_by rfl) : EvI (iRng1 (tCons te tNil)) (gName j) [j] Γ Δ n.toNat (fun i Γ1 => Γ1.set j (sl RI (i : Int))) where
  len := fun _ _ => by simp
  run := fun σ Hs H k Q q => h.run σ Hs H k _ fun vs Hs' H' k' s r => by
    cases r with
    | cons h r =>
      cases r
      refine ⟨n, by rw [show _ = V.int n from h], by omega, by omega, ?_⟩
      refine q (Itr 0 n.toNat) Hs' H' (fun _ => True) _ k' s walk_range (fun _ _ => trivial) fun i H1 v H2 Hs1 σ1 Γ1 Δ1 hi y hs hl k1 Q1 q1 => ?_
      obtain ⟨e2, e3⟩ := y
      exact one_slot k1 e2 (by rw [hl]; exact hj) (fun s' e => by cases e; rw [e3]; show V.int _ = V.int _; rw [Int.zero_add]) q1
theorem ei_rng2 {lo n : Int} (h : EvA (tCons ta (tCons tb tNil)) Γ Δ [⟨Int, RI, lo⟩, ⟨Int, RI, n⟩] Δ) (hb : -1000 < lo ∧ n < 1000) (hb2 : lo < 1000 ∧ -1000 < n) (hj : j < Γ.length := by exact lt_by rfl) : EvI (iRng2 (tCons ta (tCons tb tNil))) (gName j) [j] Γ Δ (n - lo).toNat (fun i Γ1 => Γ1.set j (sl RI (lo + (i : Int)))) where
  len := fun _ _ => by simp
  run := fun σ Hs H k Q q => h.run σ Hs H k _ fun vs Hs' H' k' s r => by
    cases r with
    | cons h r =>
      cases r with
      | cons h' r =>
        cases r
        refine ⟨lo, n, by rw [show _ = V.int lo from h, show _ = V.int n from h'], by omega, ?_⟩
        refine q (Itr lo _) Hs' H' (fun _ => True) _ k' s walk_range (fun _ _ => trivial) fun i H1 v H2 Hs1 σ1 Γ1 Δ1 hi y hs hl k1 Q1 q1 => ?_
        obtain ⟨e2, e3⟩ := y
        exact one_slot k1 e2 (by rw [hl]; exact hj) (fun s' e => by cases e; rw [e3]; rfl) q1
/-! #### targets of several names -/
def gNs : List Nat → TGs
  | [] => gNil
  | j :: js => gCons (gName j) (gNs js)
def setsV : List Nat → List V → L2.St → L2.St
  | j :: js, v :: vs, σ => setsV js vs (σ.set j (some v))
  | _, _, σ => σ
def setsC : List Nat → List (Option Slot) → Cn → Cn
  | j :: js, s :: ss, Γ => setsC js ss (Γ.set j s)
  | _, _, Γ => Γ
theorem gNs_run : ∀ (js : List Nat) (vs : List V) (σ : L2.St) (H : Hp) (Q : L2.St → Hp → Prop), js.length = vs.length → Q (setsV js vs σ) H → gNs js vs σ H Q
  | [], [], _, _, _, _, q => ⟨rfl, q⟩
  | j :: js, v :: vs, σ, H, Q, h, q => ⟨v, vs, rfl, gNs_run js vs _ H Q (Nat.succ.inj h) q⟩
theorem setsC_len : ∀ (js : List Nat) (ss : List (Option Slot)) (Γ : Cn), (setsC js ss Γ).length = Γ.length
  | [], _, _ => rfl
  | _ :: _, [], _ => rfl
  | j :: js, s :: ss, Γ => by
    show (setsC js ss (Γ.set j s)).length = _
    rw [setsC_len js ss]; simp
theorem setsV_len : ∀ (js : List Nat) (vs : List V) (σ : L2.St), (setsV js vs σ).length = σ.length
  | [], _, _ => rfl
  | _ :: _, [], _ => rfl
  | j :: js, v :: vs, σ => by
    show (setsV js vs (σ.set j (some v))).length = _
    rw [setsV_len js vs]; simp
theorem setsV_out : ∀ (js : List Nat) (vs : List V) (σ : L2.St) (k : Nat), k ∉ js → (setsV js vs σ)[k]? = σ[k]?
  | [], _, _, _, _ => rfl
  | _ :: _, [], _, _, _ => rfl
  | j :: js, v :: vs, σ, k, h => by
    show (setsV js vs (σ.set j (some v)))[k]? = _
    rw [setsV_out js vs _ k fun z => h (List.mem_cons_of_mem _ z), List.getElem?_set_ne fun z => h (by rw [z]; exact List.mem_cons_self ..)]
inductive ArgsO (Hs : Hp) : List V → List (Option Slot) → Prop
  | nil : ArgsO Hs [] []
  | cons {v : V} {vs : List V} {s : Option Slot} {ss : List (Option Slot)} : (∀ s', s = some s' → s'.R.r Hs v s'.x) → ArgsO Hs vs ss → ArgsO Hs (v :: vs) (s :: ss)
theorem argsO {Hs : Hp} : ∀ {vs : List V} {xs : List α}, Paired (R.r Hs) vs xs → ArgsO Hs vs (xs.map fun x => sl R x)
  | _, _, .nil => .nil
  | _, _, .cons h t => .cons (fun s' e => by cases e; exact h) (argsO t)
theorem sets_ok {Hs H : Hp} : ∀ {js : List Nat} {vs : List V} {ss : List (Option Slot)} {σ : L2.St} {Γ : Cn}, Ok Hs H σ Γ Δ → ArgsO Hs vs ss → (∀ j ∈ js, j < Γ.length) → Ok Hs H (setsV js vs σ) (setsC js ss Γ) Δ
  | [], _, _, _, _, k, _, _ => k
  | _ :: _, [], [], _, _, k, _, _ => k
  | j :: js, v :: vs, s :: ss, σ, Γ, k, .cons h p, hj => by
    show Ok Hs H (setsV js vs (σ.set j (some v))) (setsC js ss (Γ.set j s)) Δ
    refine sets_ok ?_ p fun i hi => by simpa using hj i (List.mem_cons_of_mem _ hi)
    have hj' := hj j (List.mem_cons_self ..)
    cases s with
    | none => exact k.noslot hj'
    | some s => obtain ⟨α, R, x⟩ := s; exact k.set (h _ rfl) hj'
/-- a, b, .. = a tuple; = a list -/
theorem w_unT {js : List Nat} {xs : List α} (h : Ev te Γ Δ (RT R) xs Δ1) (hl : xs.length = js.length) (hj : ∀ j ∈ js, j < Γ.length) (q : Wn C Nx (setsC js (xs.map fun x => sl R x) Γ) Δ1) : Wn C (tAsg te (gTup K js.length (gNs js)) ⟨Nx, rtt, bkk, ctt⟩) Γ Δ := fun σ Hs H k f =>
  h.run σ Hs H k _ fun v Hs' H' k' s ⟨a, vs, e, e1, p, _⟩ => by
    refine ⟨a, vs, e, SqT.of (k'.sub _ _ e1), (pair_len p).trans hl, gNs_run js vs σ H' _ (by rw [pair_len p, hl]) ?_⟩
    exact q _ Hs' H' (sets_ok k' (argsO p) hj) (f.step h.same s)
theorem w_unL {js : List Nat} {xs : List α} (h : Ev te Γ Δ (RL R) xs Δ1) (hl : xs.length = js.length) (hj : ∀ j ∈ js, j < Γ.length) (q : Wn C Nx (setsC js (xs.map fun x => sl R x) Γ) Δ1) : Wn C (tAsg te (gUnl K js.length (gNs js)) ⟨Nx, rtt, bkk, ctt⟩) Γ Δ := fun σ Hs H k f =>
  h.run σ Hs H k _ fun v Hs' H' k' s ⟨a, vs, e, e1, p, _⟩ => by
    refine ⟨a, vs, e, SqL.of (k'.sub _ _ e1), (pair_len p).trans hl, gNs_run js vs σ H' _ (by rw [pair_len p, hl]) ?_⟩
    exact q _ Hs' H' (sets_ok k' (argsO p) hj) (f.step h.same s)
/-- a, b = e1, e2 -/
theorem w_par {i j : Nat} {ta : TA} (h : EvA ta Γ Δ [⟨α, R, x⟩, ⟨β, S, y⟩] Δ1) (q : Wn C Nx ((Γ.set i (sl R x)).set j (sl S y)) Δ1) (hi : i < Γ.length := by exact lt_by rfl) (hj : j < Γ.length := by exact lt_by rfl) : Wn C (tPar i j ta ⟨Nx, rtt, bkk, ctt⟩) Γ Δ := fun σ Hs H k f =>
  h.run σ Hs H k _ fun vs Hs' H' k' s r => by
    cases r with
    | cons h1 r =>
      cases r with
      | cons h2 r =>
        cases r
        exact ⟨_, _, rfl, q _ Hs' H' ((k'.set h1 hi).set h2 (by simpa using hj)) (f.step h.same s)⟩
theorem two_slots {H2 H1 Hs1 : Hp} {σ1 : L2.St} {T : Addr} {v1 v2 : V} {Q : L2.St → Hp → Prop} {s1 s2 : Option Slot} (k : Ok Hs1 H1 σ1 Γ Δ) (hT : H1 T = none) (e : H2 = upd H1 T (.tup [v1, v2])) (h1 : j1 < Γ.length) (h2 : j2 < Γ.length)
    (r1 : ∀ s', s1 = some s' → s'.R.r Hs1 v1 s'.x) (r2 : ∀ s', s2 = some s' → s'.R.r Hs1 v2 s'.x)
    (q : ∀ σ2 : L2.St, Ok Hs1 H2 σ2 ((Γ.set j1 s1).set j2 s2) Δ → Nw Hs1 H1 Hs1 H2 → (∀ k, k ∉ [j1, j2] → σ2[k]? = σ1[k]?) → σ2.length = σ1.length → Q σ2 H2) : gTup K 2 (gCons (gName j1) (gCons (gName j2) gNil)) (.ref T) σ1 H2 Q := by
  subst e
  have n : Nw Hs1 H1 Hs1 (upd H1 T (.tup [v1, v2])) := .drop k.sub hT
  refine ⟨T, _, rfl, SqT.of upd_same, rfl, gNs_run [j1, j2] [v1, v2] σ1 _ Q rfl (q _ ?_ n (fun m hm => setsV_out [j1, j2] _ _ m hm) (setsV_len _ _ _))⟩
  exact sets_ok (js := [j1, j2]) (vs := [v1, v2]) (ss := [s1, s2]) (k.nw n) (.cons r1 (.cons r2 .nil)) fun j hj => by
    rcases List.mem_cons.mp hj with rfl | hj
    · exact h1
    · rcases List.mem_cons.mp hj with rfl | hj
      · exact h2
      · cases hj
theorem ei_enum {xs : List α} (h : EvA (tCons te tNil) Γ Δ [⟨_, RL R, xs⟩] Δ) (h1 : j1 < Γ.length := by exact lt_by rfl) (h2 : j2 < Γ.length := by exact lt_by rfl) : EvI (iEnum K (tCons te tNil)) (gTup K 2 (gCons (gName j1) (gCons (gName j2) gNil))) [j1, j2] Γ Δ xs.length (fun i Γ1 => (Γ1.set j1 (sl RI (i : Int))).set j2 (itS R xs i)) where
  len := fun _ _ => by simp
  run := fun σ Hs H k Q q => h.run σ Hs H k _ fun ws Hs' H' k' s r => by
    cases r with
    | cons h r =>
      cases r
      obtain ⟨a, vs, rfl, e1, p, _⟩ := h
      refine ⟨a, vs, rfl, SqL.of (k'.sub _ _ e1), q _ Hs' H' (fun H => SqL K H a vs) _ k' s (by rw [← pair_len p]; exact walk_enum) (fun H'' hs => SqL.of (hs _ _ e1)) fun i H1 v H2 Hs1 σ1 Γ1 Δ1 hi y hs hl k1 Q1 q1 => ?_⟩
      obtain ⟨T, x, z, rfl, hT, e2, e3, e4⟩ := y
      refine two_slots k1 hT e2 (by rw [hl]; exact h1) (by rw [hl]; exact h2) (fun s' e => ?_) (itS_rel (pair_mono (fun _ _ z => R.mono hs z) p) e4) q1
      cases e
      exact (Option.some.inj e3).symm
/-- zip of two lists, of two tuples -/
theorem ei_zipL {xs : List α} {ys : List β} (h : EvA (tCons ta (tCons tb tNil)) Γ Δ [⟨_, RL R, xs⟩, ⟨_, RL S, ys⟩] Δ) (h1 : j1 < Γ.length := by exact lt_by rfl) (h2 : j2 < Γ.length := by exact lt_by rfl) : EvI (RZ.iZipA K (tCons ta (tCons tb tNil))) (gTup K 2 (gCons (gName j1) (gCons (gName j2) gNil))) [j1, j2] Γ Δ (min xs.length ys.length) (fun i Γ1 => (Γ1.set j1 (itS R xs i)).set j2 (itS S ys i)) where
  len := fun _ _ => by simp
  run := fun σ Hs H k Q q => h.run σ Hs H k _ fun ws Hs' H' k' s r => by
    cases r with
    | cons h r =>
      cases r with
      | cons h' r =>
        cases r
        obtain ⟨a, vs, rfl, e1, p, _⟩ := h
        obtain ⟨b, us, rfl, e1', p', _⟩ := h'
        refine ⟨a, b, vs, us, rfl, .inl ⟨SqL.of (k'.sub _ _ e1), SqL.of (k'.sub _ _ e1'), q _ Hs' H' (fun H => SqL K H a vs ∧ SqL K H b us) _ k' s (walk_zip (by rw [pair_len p, pair_len p'])) (fun H'' hs => ⟨SqL.of (hs _ _ e1), SqL.of (hs _ _ e1')⟩) fun i H1 v H2 Hs1 σ1 Γ1 Δ1 hi y hs hl k1 Q1 q1 => ?_⟩⟩
        obtain ⟨T, x, z, rfl, hT, e2, e3, e4⟩ := y
        exact two_slots k1 hT e2 (by rw [hl]; exact h1) (by rw [hl]; exact h2) (itS_rel (pair_mono (fun _ _ z => R.mono hs z) p) e3) (itS_rel (pair_mono (fun _ _ z => S.mono hs z) p') e4) q1
theorem walk_zipT {K : PySem.W.Frag} {a b : Addr} {xs ys : List V} {n : Nat} (hn : n = min xs.length ys.length) : L2.Walk (RZ.ItzT K a b) n (fun H => SqT K H a xs ∧ SqT K H b ys) (YPair (fun i => xs[i]?) (fun i => ys[i]?)) := by
  subst hn
  refine ⟨fun i _ hi q => ?_, fun _ q => ⟨xs, ys, q.1, q.2, by omega⟩, fun i H v H' _ q y => ?_⟩
  · have h1 : i < xs.length := by omega
    have h2 : i < ys.length := by omega
    exact ⟨xs, ys, xs[i], ys[i], q.1, q.2, by simp [h1], by simp [h2]⟩
  · obtain ⟨T, x, z, h1, h2, h3, h4, h5⟩ := y
    exact ⟨T, x, z, h1, h2, h3, h4 xs q.1, h5 ys q.2⟩
theorem ei_zipT {xs : List α} {ys : List β} (h : EvA (tCons ta (tCons tb tNil)) Γ Δ [⟨_, RT R, xs⟩, ⟨_, RT S, ys⟩] Δ) (h1 : j1 < Γ.length := by exact lt_by rfl) (h2 : j2 < Γ.length := by exact lt_by rfl) : EvI (RZ.iZipA K (tCons ta (tCons tb tNil))) (gTup K 2 (gCons (gName j1) (gCons (gName j2) gNil))) [j1, j2] Γ Δ (min xs.length ys.length) (fun i Γ1 => (Γ1.set j1 (itS R xs i)).set j2 (itS S ys i)) where
  len := fun _ _ => by simp
  run := fun σ Hs H k Q q => h.run σ Hs H k _ fun ws Hs' H' k' s r => by
    cases r with
    | cons h r =>
      cases r with
      | cons h' r =>
        cases r
        obtain ⟨a, vs, rfl, e1, p, _⟩ := h
        obtain ⟨b, us, rfl, e1', p', _⟩ := h'
        refine ⟨a, b, vs, us, rfl, .inr ⟨SqT.of (k'.sub _ _ e1), SqT.of (k'.sub _ _ e1'), q _ Hs' H' (fun H => SqT K H a vs ∧ SqT K H b us) _ k' s (walk_zipT (by rw [pair_len p, pair_len p'])) (fun H'' hs => ⟨SqT.of (hs _ _ e1), SqT.of (hs _ _ e1')⟩) fun i H1 v H2 Hs1 σ1 Γ1 Δ1 hi y hs hl k1 Q1 q1 => ?_⟩⟩
        obtain ⟨T, x, z, rfl, hT, e2, e3, e4⟩ := y
        exact two_slots k1 hT e2 (by rw [hl]; exact h1) (by rw [hl]; exact h2) (itS_rel (pair_mono (fun _ _ z => R.mono hs z) p) e3) (itS_rel (pair_mono (fun _ _ z => S.mono hs z) p') e4) q1
/-- a list of pairs, each unpacked -/
theorem ei_pairs {xs : List (List α)} (h : Ev te Γ Δ (RL (RT R)) xs Δ) (hp : ∀ p ∈ xs, p.length = 2) (h1 : j1 < Γ.length := by exact lt_by rfl) (h2 : j2 < Γ.length := by exact lt_by rfl) : EvI (iList K te) (gTup K 2 (gCons (gName j1) (gCons (gName j2) gNil))) [j1, j2] Γ Δ xs.length (fun i Γ1 => (Γ1.set j1 (itS R (xs.getD i []) 0)).set j2 (itS R (xs.getD i []) 1)) where
  len := fun _ _ => by simp
  run := fun σ Hs H k Q q => h.run σ Hs H k _ fun v Hs' H' k' s ⟨a, vs, e, e1, p, _⟩ => ⟨a, e, ⟨vs, SqL.of (k'.sub _ _ e1)⟩, by
    refine q (Itl K a) Hs' H' (fun H => SqL K H a vs) (YAt vs) k' s (by rw [← pair_len p]; exact walk_list) (fun H'' hs => SqL.of (hs _ _ e1)) fun i H1 v H2 Hs1 σ1 Γ1 Δ1 hi y hs hl k1 Q1 q1 => ?_
    obtain ⟨e2, e3⟩ := y
    subst e2
    obtain ⟨z, hz, hr⟩ := pair_getL p e3
    obtain ⟨b, ws, rfl, e4, p4, _⟩ := (RT R).mono hs hr
    have l2 := hp z (List.mem_of_getElem? hz)
    have ez : xs.getD i [] = z := by rw [List.getD_eq_getElem?_getD, hz]; rfl
    rw [ez] at q1
    obtain ⟨z1, z2, rfl⟩ : ∃ z1 z2, z = [z1, z2] := by
      match z, l2 with
      | [z1, z2], _ => exact ⟨z1, z2, rfl⟩
    cases p4 with
    | @cons w1 _ _ _ r1 p4 =>
      cases p4 with
      | @cons w2 _ _ _ r2 p4 =>
        cases p4
        refine ⟨b, _, rfl, SqT.of (k1.sub _ _ e4), rfl, gNs_run [j1, j2] [w1, w2] σ1 _ Q1 rfl (q1 _ ?_ (.refl k1.sub) (fun m hm => setsV_out [j1, j2] _ _ m hm) (setsV_len _ _ _))⟩
        exact sets_ok (js := [j1, j2]) (vs := [w1, w2]) (ss := [sl R z1, sl R z2]) k1 (.cons (fun s' e => by cases e; exact r1) (.cons (fun s' e => by cases e; exact r2) .nil)) fun j hj => by
          rcases List.mem_cons.mp hj with rfl | hj
          · rw [hl]; exact h1
          · rcases List.mem_cons.mp hj with rfl | hj
            · rw [hl]; exact h2
            · cases hj⟩
/-! ### loops -/
theorem w_for {wi : TI} {g : TG} {js : List Nat} {n : Nat} {st : Nat → Cn → Cn} (hI : EvI wi g js Γ Δ n st) (Γs : Nat → Cn) (Δs : Nat → Mn) (h0 : Wk Γ (Γs 0)) (hΔ : Δs 0 = Δ) (hl : ∀ i, i < n → (Γs i).length = Γ.length)
    (hb : ∀ (C' : Ctx) (I : Nat → L2.St → Hp → Prop), C'.fa = C.fa → C'.Hs = C.Hs → C'.H = C.H → (∀ i, Wn C' (I i) (Γs i) (Δs i)) → ∀ i, i < n → Wn C' (t ⟨I (i + 1), rtt, Nx, I (i + 1)⟩) (st i (Γs i)) (Δs i))
    (hd : Wn C Nx (Γs n) (Δs n)) : Wn C (tFor wi g t ⟨Nx, rtt, bkk, ctt⟩) Γ Δ := fun σ Hs H k f =>
  hI.run σ Hs H k _ fun J Hs' H' G Y k' s W hG hY => by
    subst hΔ
    have f' := f.step rfl s
    refine for_it W (fun i σ1 H1 => ∃ Hs1, Ok Hs1 H1 σ1 (Γs i) (Δs i) ∧ Fr ⟨C.fa, C.Hs, C.H, Hs'⟩ Hs1 H1 (Δs i)) ⟨Hs', k'.wk h0, f'.stp, f'.own, fun _ _ e => e⟩ (fun i σ1 H1 _ ⟨Hs1, k1, f1⟩ => hG H1 fun b o e => k1.sub _ _ (f1.fl _ _ e)) (fun i x σ1 H1 H2 hi ⟨Hs1, k1, f1⟩ y => ?_) fun σ1 H1 ⟨Hs1, k1, f1⟩ => ?_
    · refine hY i H1 x H2 Hs1 σ1 (Γs i) (Δs i) hi y f1.fl (hl i hi) k1 _ fun σ2 k2 nw _ _ => ?_
      refine hb ⟨C.fa, C.Hs, C.H, Hs'⟩ (fun i σ1 H1 => ∃ Hs1, Ok Hs1 H1 σ1 (Γs i) (Δs i) ∧ Fr ⟨C.fa, C.Hs, C.H, Hs'⟩ Hs1 H1 (Δs i)) rfl rfl rfl (fun i σ3 Hs3 H3 k3 f3 => ⟨Hs3, k3, f3⟩) i hi σ2 Hs1 H2 k2 (f1.step rfl nw.stp)
    · exact hd σ1 Hs1 H1 k1 ⟨f1.stp, f1.own, fun b o e => f1.fl _ _ (f'.fl _ _ e)⟩
theorem w_while {ι : Type} {tc : TT} (Γs : ι → Cn) (Δs : ι → Mn) (μ : ι → Nat) (b : ι → Bool) (i0 : ι) (h0 : Wk Γ (Γs i0)) (hΔ : Δs i0 = Δ) (good : ι → Prop) (hg : good i0) (hc : ∀ i, good i → EvT tc (Γs i) (Δs i) (b i) (Δs i))
    (hb : ∀ i, good i → b i = true → ∃ i', μ i' < μ i ∧ good i' ∧ ∀ I : L2.St → Hp → Prop, Wn C I (Γs i') (Δs i') → Wn C (t ⟨I, rtt, Nx, I⟩) (Γs i) (Δs i))
    (hd : ∀ i, good i → b i = false → Wn C Nx (Γs i) (Δs i)) : Wn C (tWhile tc t ⟨Nx, rtt, bkk, ctt⟩) Γ Δ := fun σ Hs H k f => by
  subst hΔ
  refine ⟨fun m σ1 H1 => ∃ i Hs1, m = μ i ∧ good i ∧ Ok Hs1 H1 σ1 (Γs i) (Δs i) ∧ Fr C Hs1 H1 (Δs i), ⟨_, i0, Hs, rfl, hg, k.wk h0, f⟩, ?_⟩
  rintro m σ1 H1 ⟨i, Hs1, rfl, gi, k1, f1⟩
  refine (hc i gi).run σ1 Hs1 H1 k1 _ fun Hs2 H2 k2 s2 => ?_
  have f2 := f1.step rfl s2
  cases e : b i with
  | true =>
    rw [if_pos rfl]
    obtain ⟨i', hm, gi', h⟩ := hb i gi e
    exact ⟨fun σ' H' => ∃ Hs', Ok Hs' H' σ' (Γs i') (Δs i') ∧ Fr C Hs' H' (Δs i'), fun σ' H' ⟨Hs', k', f'⟩ => ⟨_, hm, i', Hs', rfl, gi', k', f'⟩, h _ (fun σ' Hs' H' k' f' => ⟨Hs', k', f'⟩) σ1 Hs2 H2 k2 f2⟩
  | false =>
    rw [if_neg Bool.false_ne_true]
    exact hd i gi e σ1 Hs2 H2 k2 f2
/-! ### comprehensions -/
def wpC (Γ : Cn) : List Nat → Cn
  | [] => Γ
  | v :: vs => (wpC Γ vs).set v none
theorem wpC_len (Γ : Cn) : ∀ vs, (wpC Γ vs).length = Γ.length
  | [] => rfl
  | v :: vs => by show ((wpC Γ vs).set v none).length = _; rw [List.length_set, wpC_len Γ vs]
theorem wp_ok {Hs H : Hp} {σ : L2.St} (k : Ok Hs H σ Γ Δ) : ∀ vs, Ok Hs H (wipe σ vs) (wpC Γ vs) Δ
  | [] => k
  | v :: vs => by
    have k' := wp_ok k vs
    refine ⟨k'.sub, by rw [wipe_length, wpC_len]; exact k.len, fun i s e => ?_, k'.nd, k'.mo⟩
    show ∃ w, ((wipe σ vs).set v none)[i]? = _ ∧ _
    have e' : ((wpC Γ vs).set v none)[i]? = some (some s) := e
    by_cases hi : v = i
    · subst hi
      by_cases hl : v < (wpC Γ vs).length
      · rw [List.getElem?_set_self hl] at e'; cases e'
      · rw [List.getElem?_eq_none (by simpa using hl)] at e'; cases e'
    · rw [List.getElem?_set_ne hi] at e'
      rw [List.getElem?_set_ne hi]
      exact k'.slot i s e'
theorem wipe_get (σ : L2.St) : ∀ (vs : List Nat) (i : Nat), (wipe σ vs)[i]? = if i ∈ vs then (if i < σ.length then some none else none) else σ[i]?
  | [], i => by simp [wipe]
  | v :: vs, i => by
    show ((wipe σ vs).set v none)[i]? = _
    by_cases hi : v = i
    · subst hi
      rw [if_pos (List.mem_cons_self ..)]
      by_cases hl : v < σ.length
      · rw [List.getElem?_set_self (by rw [wipe_length]; exact hl), if_pos hl]
      · rw [List.getElem?_eq_none (by rw [List.length_set, wipe_length]; omega), if_neg hl]
    · rw [List.getElem?_set_ne hi, wipe_get σ vs i]
      have : (i ∈ v :: vs) = (i ∈ vs) := by simp [Ne.symm hi]
      simp only [this]
theorem wipe_out {σ1 σ2 : L2.St} {js vs : List Nat} (h : ∀ k, k ∉ js → σ2[k]? = σ1[k]?) (hl : σ2.length = σ1.length) (hs : ∀ j ∈ js, j ∈ vs) : wipe σ2 vs = wipe σ1 vs := by
  refine List.ext_getElem? fun i => ?_
  rw [wipe_get, wipe_get, hl]
  by_cases hi : i ∈ vs
  · rw [if_pos hi, if_pos hi]
  · rw [if_neg hi, if_neg hi, h i fun z => hi (hs i z)]
theorem wipe_wipe (σ : L2.St) (vs : List Nat) : wipe (wipe σ vs) vs = wipe σ vs := by
  refine List.ext_getElem? fun i => ?_
  rw [wipe_get, wipe_get, wipe_length]
  by_cases hi : i ∈ vs
  · rw [if_pos hi, if_pos hi]
  · rw [if_neg hi]
theorem Ok.reslot {Hs H Hs2 H2 : Hp} {σ σ2 : L2.St} {Γ2 : Cn} (k : Ok Hs H σ Γ Δ) (k2 : Ok Hs2 H2 σ2 Γ2 Δ2) (s : Same Hs Hs2) : Ok Hs2 H2 σ Γ Δ2 :=
  ⟨k2.sub, k.len, fun i t e => let ⟨v, h1, h2⟩ := k.slot i t e; ⟨v, h1, t.R.mono s h2⟩, k2.nd, k2.mo⟩
/-- [e for .. in ..] -/
theorem en_lc {wi : TI} {g : TG} {js vs : List Nat} {n : Nat} {st : Nat → Cn → Cn} (hI : EvI wi g js Γ Δ n st) (hj : ∀ j ∈ js, j ∈ vs) (ys : Nat → β) (Δs : Nat → Mn) (hΔ : Δs 0 = Δ) (hn : n ≤ 1000)
    (he : ∀ i, i < n → Ev te (st i (wpC Γ vs)) (Δs i) S (ys i) (Δs (i + 1))) : EvN (tLc wi g tYes te vs) Γ Δ S ((List.range n).map ys) (Δs n) := by
  have hadr : ∀ i, i ≤ n → adr (Δs i) = adr Δ := fun i => by
    induction i with
    | zero => intro _; rw [hΔ]
    | succ i ih => intro h; rw [(he i h).same, ih (Nat.le_of_lt h)]
  refine ⟨hadr n (Nat.le_refl _), fun σ Hs H k Q q => hI.run σ Hs H k _ fun J Hs' H' G Y k' s W hG hY D hD => ?_⟩
  subst hΔ
  have hDs : Hs' D = none := Same.free k'.sub hD
  have hHD := back_none s hD
  have hDa : D ∉ adr (Δs 0) := fresh_adr k hHD
  have n0 : Nw Hs' H' Hs' (upd H' D (.lst [])) := .drop k'.sub hD
  refine lc_it W (fun i H1 => ∃ Hs1 ws, Ok Hs1 H1 σ Γ (Δs i) ∧ Stp (adr (Δs 0)) Hs' H' Hs1 H1 ∧ Hs1 D = none ∧ H1 D = some (.lst ws) ∧ Paired (S.r Hs1) ws ((List.range i).map ys)) ⟨Hs', [], k'.nw n0, n0.stp, hDs, upd_same, .nil⟩ (fun i H1 _ ⟨Hs1, ws, k1, s1, _⟩ => hG H1 fun b o e => k1.sub _ _ (s1.s1 _ _ e)) (fun i x H1 H2 hi ⟨Hs1, ws, k1, s1, d1, e1, p1⟩ y => ?_) fun H1 ⟨Hs1, ws, k1, s1, d1, e1, p1⟩ => ?_
  · refine hY i H1 x H2 Hs1 (wipe σ vs) (wpC Γ vs) (Δs i) hi y s1.s1 (wpC_len _ _) (wp_ok k1 vs) _ fun σ2 k2 nw hout hlen => ?_
    refine ⟨by rw [wipe_out hout hlen hj, wipe_wipe], ?_⟩
    unfold tYes
    dsimp only
    rw [if_pos rfl]
    refine (he i hi).run σ2 Hs1 H2 k2 _ fun v Hs3 H3 k3 s3 r3 => ?_
    have hi' := hadr i (Nat.le_of_lt hi)
    have s3' : Stp (adr (Δs 0)) Hs1 H2 Hs3 H3 := by rw [← hi']; exact s3
    have st := (s1.trans nw.stp).trans s3'
    have e3 : H3 D = some (.lst ws) := s3'.keep D _ (nw.s2 _ _ e1) hDa
    have d3 : Hs3 D = none := by
      cases e : Hs3 D with
      | none => rfl
      | some o =>
        rcases s3'.new D (by rw [e]; exact fun z => nomatch z) with z | z
        · exact absurd d1 z
        · rw [nw.s2 _ _ e1] at z; cases z
    have kk := k1.reslot k3 s3'.s1
    refine ⟨ws, e3, by rw [pair_len p1, List.length_map, List.length_range]; exact small1000 (by omega), Hs3, ws ++ [v], ⟨fun b o z => ?_, kk.len, kk.slot, kk.nd, fun m hm => ?_⟩, ⟨st.s1, fun b o z nm => ?_, st.new, fun b z => ?_⟩, d3, upd_same, ?_⟩
    · have : b ≠ D := fun y => by rw [y, d3] at z; cases z
      rw [upd_ne this]; exact kk.sub _ _ z
    · obtain ⟨q1, q2⟩ := kk.mo m hm
      have hne : m.1 ≠ D := fun z => hDa (by rw [← hadr (i + 1) hi, ← z]; exact mem_adr hm)
      exact ⟨m.2.ok_mono q1 (fun _ _ z => z) (upd_ne hne), q2⟩
    · rw [upd_ne (ne_of_none z hD)]; exact st.keep b o z nm
    · by_cases hb : b = D
      · subst hb; rw [upd_same]; exact fun z => nomatch z
      · rw [upd_ne hb]; exact st.live b z
    · rw [List.range_succ, List.map_append]
      exact pair_app (pair_mono (fun _ _ w => S.mono s3'.s1 w) p1) (.cons r3 .nil)
  · exact q D ws Hs1 H1 k1 (s.trans s1) hHD d1 hDa e1 p1 (by rw [List.length_map, List.length_range]; exact Nat.le_of_lt (small1000 hn))
end
end TL
set_option Elab.async false
set_option linter.all false
set_option maxRecDepth 100000
set_option maxHeartbeats 1000000
/-! the typed layer: promises of defs by their bodies -/
namespace TL
open PySem PySem.Spec PyProof.Rows L2
theorem args_len {Hs : Hp} : ∀ {vs : List V} {ss : List Slot}, Args Hs vs ss → vs.length = ss.length
  | _, _, .nil => rfl
  | _, _, .cons _ r => congrArg Nat.succ (args_len r)
/-- the slots at a def's start -/
def st0 (n : Nat) (ss : List Slot) : Cn := ss.map some ++ List.replicate (n - ss.length) none
theorem args_get {Hs : Hp} : ∀ {vs : List V} {ss : List Slot} {i : Nat} {s : Slot}, Args Hs vs ss → ss[i]? = some s → ∃ v, vs[i]? = some v ∧ s.R.r Hs v s.x
  | _, _, _, _, .nil, e => by simp at e
  | _, _, 0, _, .cons h _, e => by simp at e; subst e; exact ⟨_, rfl, h⟩
  | _, _, i + 1, s, .cons _ t, e => by
    obtain ⟨u, h1, h2⟩ := args_get (i := i) (s := s) t (by simpa using e)
    exact ⟨u, by simpa using h1, h2⟩
theorem start_ok {Hs H : Hp} {vs : List V} {ss : List Slot} {N : List Str} {Δ : Mn} (sub : Same Hs H) (h : Args Hs vs ss) (hN : ss.length ≤ N.length) (nd : (adr Δ).Nodup) (mo : ∀ p ∈ Δ, p.2.ok Hs H p.1 ∧ Hs p.1 = none) : Ok Hs H (L2.start N vs) (st0 N.length ss) Δ where
  sub := sub
  len := by
    unfold L2.start st0
    have := args_len h
    simp only [List.length_append, List.length_map, List.length_replicate]
    omega
  slot := fun i s e => by
    unfold st0 at e
    unfold L2.start
    by_cases hi : i < ss.length
    · rw [List.getElem?_append_left (by simpa using hi), List.getElem?_map] at e
      cases e' : ss[i]? with
      | none => rw [e'] at e; cases e
      | some s' =>
        rw [e'] at e
        cases e
        obtain ⟨v, h1, h2⟩ := args_get h e'
        exact ⟨v, by rw [List.getElem?_append_left (by rw [List.length_map, args_len h]; exact hi), List.getElem?_map, h1]; rfl, h2⟩
    · rw [List.getElem?_append_right (by simpa using hi), List.getElem?_replicate] at e
      split at e <;> cases e
  nd := nd
  mo := mo
/-- a def that changes the object that it is handed first (or that stands among its arguments) -/
def spM {ι : Type} (as : ι → Addr → List Slot) (m : ι → MO) (pre : ι → Prop) (res : ι → Slot) (m' : ι → MO) : Sp := fun vs H Q _ =>
  ∃ (Hs : Hp) (i : ι) (a : Addr), Same Hs H ∧ Args Hs vs (as i a) ∧ (m i).ok Hs H a ∧ Hs a = none ∧ pre i ∧
    ∀ u Hs' H', Same Hs' H' → Stp [a] Hs H Hs' H' → (m' i).ok Hs' H' a → Hs' a = none → (res i).R.r Hs' u (res i).x → Q u H'
/-- a def that hands back a new list of its own -/
def spN {ι α : Type} (as : ι → List Slot) (pre : ι → Prop) (R : Rl α) (res : ι → List α) : Sp := fun vs H Q _ =>
  ∃ (Hs : Hp) (i : ι), Same Hs H ∧ Args Hs vs (as i) ∧ pre i ∧ ∀ p ws Hs' H', Nw Hs H Hs' H' → H p = none → Hs' p = none → H' p = some (.lst ws) → Paired (R.r Hs') ws (res i) → (res i).length ≤ sizeLine → Q (.ref p) H'
section
variable {P : Program} {w : World} {K : PySem.W.Frag} {mg : Str → Option Value} {base : Heap}
abbrev FnP (K : PySem.W.Frag) (x : Str) (st : Stmt) (dvs : List V) (f : Addr) (fd : FuncData) : Prop := FunD K x x (defArgs st) (defBody st) (defScope st) dvs [] f fd
theorem okG {x : Str} {st : Stmt} {dvs : List V} {f : Addr} {fd : FuncData} {N ps : List Str} {k : Nat} {ι : Type} {as : ι → List Slot} {pre : ι → Prop} {res : ι → Slot} (F : FnP K x st dvs f fd) (S : FnScope N ps (defScope st))
    (hl : ∀ i, (as i).length = ps.length) (hN : ps.length ≤ N.length)
    (hb : ∀ (cdv : Value) (A : Around) (outer : List Env) (s : Shared) (H : Hp) (E : XK), Room k (A.deeper (envOfC x (defScope st) s.heap.objs.size f cdv)) → ∀ i, pre i →
      ∃ t, PSs (cxOf CX0 P w K mg base N x (defScope st) f cdv A outer s H E).nox (defBody st) t ∧
        ∀ (C : Ctx) (rt : VK), C.fa = [] → Rt C rt (res i).R (res i).x [] → Wn C (t { nx := fun _ H' => rt .non H', rt := rt }) (st0 N.length (as i)) []) : FnOk P w K mg base CX0 (k + 1) f fd ps (spG as pre res) := by
  refine F.ok S (fun vs H Q E h => ?_) (fun cdv A outer s H vs Q E hr h => ?_)
  · obtain ⟨Hs, i, _, ha, _⟩ := h
    rw [args_len ha, hl]
  · obtain ⟨Hs, i, sub, ha, hp, q⟩ := h
    obtain ⟨t, ht, hw⟩ := hb cdv A outer s H E hr i hp
    refine ⟨t, ht.nox, hw ⟨[], Hs, H, Hs⟩ Q rfl (fun v Hs' H' s1 st _ r => q v Hs' H' (st.nw s1) r) _ Hs H (start_ok sub ha (by rw [hl]; exact hN) List.nodup_nil (fun _ h => nomatch h)) ⟨.refl, (fun _ h => nomatch h), fun _ _ h => h⟩⟩
theorem okM {x : Str} {st : Stmt} {dvs : List V} {f : Addr} {fd : FuncData} {N ps : List Str} {k : Nat} {ι : Type} {as : ι → Addr → List Slot} {m : ι → MO} {pre : ι → Prop} {res : ι → Slot} {m' : ι → MO} (F : FnP K x st dvs f fd) (S : FnScope N ps (defScope st))
    (hl : ∀ i a, (as i a).length = ps.length) (hN : ps.length ≤ N.length)
    (hb : ∀ (cdv : Value) (A : Around) (outer : List Env) (s : Shared) (H : Hp) (E : XK), Room k (A.deeper (envOfC x (defScope st) s.heap.objs.size f cdv)) → ∀ i, pre i →
      ∃ t, PSs (cxOf CX0 P w K mg base N x (defScope st) f cdv A outer s H E).nox (defBody st) t ∧
        ∀ (a : Addr) (C : Ctx) (rt : VK), C.fa = [a] → Rt C rt (res i).R (res i).x [(a, m' i)] → Wn C (t { nx := fun _ H' => rt .non H', rt := rt }) (st0 N.length (as i a)) [(a, m i)]) : FnOk P w K mg base CX0 (k + 1) f fd ps (spM as m pre res m') := by
  refine F.ok S (fun vs H Q E h => ?_) (fun cdv A outer s H vs Q E hr h => ?_)
  · obtain ⟨Hs, i, a, _, ha, _⟩ := h
    rw [args_len ha, hl]
  · obtain ⟨Hs, i, a, sub, ha, hm, hn, hp, q⟩ := h
    obtain ⟨t, ht, hw⟩ := hb cdv A outer s H E hr i hp
    refine ⟨t, ht.nox, hw a ⟨[a], Hs, H, Hs⟩ Q rfl (fun v Hs' H' s1 st ms r => q v Hs' H' s1 st (ms _ (List.mem_cons_self ..)).1 (ms _ (List.mem_cons_self ..)).2 r) _ Hs H (start_ok sub ha (by rw [hl]; exact hN) (by simp) (fun p h => ?_)) ⟨.refl, fun b h => .inl h, fun _ _ h => h⟩⟩
    cases List.mem_singleton.mp h
    exact ⟨hm, hn⟩
/-- what the end of a def that makes a list is to bring -/
def Rn (C : Ctx) (rt : VK) {α : Type} (R : Rl α) (xs : List α) : Prop := ∀ p ws Hs' H', Same Hs' H' → Stp C.fa C.Hs C.H Hs' H' → C.H p = none → Hs' p = none → H' p = some (.lst ws) → Paired (R.r Hs') ws xs → xs.length ≤ sizeLine → rt (.ref p) H'
theorem okN {x : Str} {st : Stmt} {dvs : List V} {f : Addr} {fd : FuncData} {N ps : List Str} {k : Nat} {ι α : Type} {as : ι → List Slot} {pre : ι → Prop} {R : Rl α} {res : ι → List α} (F : FnP K x st dvs f fd) (S : FnScope N ps (defScope st))
    (hl : ∀ i, (as i).length = ps.length) (hN : ps.length ≤ N.length)
    (hb : ∀ (cdv : Value) (A : Around) (outer : List Env) (s : Shared) (H : Hp) (E : XK), Room k (A.deeper (envOfC x (defScope st) s.heap.objs.size f cdv)) → ∀ i, pre i →
      ∃ t, PSs (cxOf CX0 P w K mg base N x (defScope st) f cdv A outer s H E).nox (defBody st) t ∧
        ∀ (C : Ctx) (rt : VK), C.fa = [] → Rn C rt R (res i) → Wn C (t { nx := fun _ H' => rt .non H', rt := rt }) (st0 N.length (as i)) []) : FnOk P w K mg base CX0 (k + 1) f fd ps (spN as pre R res) := by
  refine F.ok S (fun vs H Q E h => ?_) (fun cdv A outer s H vs Q E hr h => ?_)
  · obtain ⟨Hs, i, _, ha, _⟩ := h
    rw [args_len ha, hl]
  · obtain ⟨Hs, i, sub, ha, hp, q⟩ := h
    obtain ⟨t, ht, hw⟩ := hb cdv A outer s H E hr i hp
    refine ⟨t, ht.nox, hw ⟨[], Hs, H, Hs⟩ Q rfl (fun p ws Hs' H' s1 st hp hs' h' pr hz => q p ws Hs' H' (st.nw s1) hp hs' h' pr hz) _ Hs H (start_ok sub ha (by rw [hl]; exact hN) List.nodup_nil (fun _ h => nomatch h)) ⟨.refl, (fun _ h => nomatch h), fun _ _ h => h⟩⟩
end
section
variable {α β : Type} {C : Ctx} {Γ Γ' : Cn} {Δ Δ1 Δ2 : Mn} {R : Rl α} {S : Rl β} {x : α} {te : TE} {tt : TT} {t u : TS} {Nx bkk ctt : L2.St → Hp → Prop} {rtt : VK} {N : L2.St → Hp → Prop} {K : PySem.W.Frag}
/-- an owned list handed back as it is -/
theorem w_retNew {i : Nat} {b : Addr} {xs : List α} (q : Rn C rtt R xs) (hf : C.fa = []) (hi : Γ[i]? = some (some ⟨Addr, RA, b⟩)) (hz : xs.length ≤ 1000) : Wn C (tRet (tVar i) ⟨Nx, rtt, bkk, ctt⟩) Γ ((b, .lst R xs) :: Δ) := fun σ Hs H k f => by
  obtain ⟨v, h1, h2⟩ := k.slot i _ hi
  refine ⟨v, h1, ?_⟩
  obtain ⟨⟨vs, e, p⟩, hn⟩ := k.own (List.mem_cons_self ..)
  cases (show v = V.ref b from h2)
  have nb : C.H b = none := by
    rcases f.own b (List.mem_cons_self ..) with z | z
    · rw [hf] at z; cases z
    · exact z
  exact q b vs Hs H k.sub f.stp nb hn e p (Nat.le_of_lt (small1000 hz))
theorem nodup_at {Δ : Mn} : ∀ {k : Nat} {a : Addr} {m : MO}, (adr Δ).Nodup → Δ[k]? = some (a, m) → ∀ (m' : MO), adr (Δ.set k (a, m')) = adr Δ ∧ ∀ p ∈ Δ.set k (a, m'), p = (a, m') ∨ (p ∈ Δ ∧ p.1 ≠ a) := by
  induction Δ with
  | nil => intro k a m _ h; simp at h
  | cons q r ih =>
    intro k a m nd h m'
    obtain ⟨n1, n2⟩ := List.nodup_cons.mp nd
    cases k with
    | zero =>
      cases (show some q = some (a, m) from by simpa using h)
      refine ⟨rfl, fun p hp => ?_⟩
      rcases List.mem_cons.mp hp with e | hp
      · exact .inl e
      · exact .inr ⟨List.mem_cons_of_mem _ hp, fun e => n1 (by have := mem_adr hp; rw [e] at this; exact this)⟩
    | succ k =>
      have h' : r[k]? = some (a, m) := by simpa using h
      obtain ⟨h1, h2⟩ := ih (k := k) (a := a) (m := m) n2 h' m'
      refine ⟨by show q.1 :: adr (r.set k (a, m')) = _; rw [h1]; rfl, fun p hp => ?_⟩
      rcases List.mem_cons.mp (show p ∈ q :: r.set k (a, m') from hp) with e | hp
      · subst e
        exact .inr ⟨List.mem_cons_self .., fun e => n1 (by have := mem_adr (List.mem_of_getElem? h'); rw [← e] at this; exact this)⟩
      · rcases h2 p hp with e | ⟨e1, e2⟩
        · exact .inl e
        · exact .inr ⟨List.mem_cons_of_mem _ e1, e2⟩
theorem mut_ok {Hs H Hs' H' : Hp} {σ : L2.St} {k : Nat} {a : Addr} {m m' : MO} (kk : Ok Hs H σ Γ Δ) (hk : Δ[k]? = some (a, m)) (sub : Same Hs' H') (st : Stp [a] Hs H Hs' H') (hm : m'.ok Hs' H' a) (hn : Hs' a = none) : Ok Hs' H' σ Γ (Δ.set k (a, m')) := by
  obtain ⟨e1, e2⟩ := nodup_at kk.nd hk m'
  refine ⟨sub, kk.len, fun i s e => let ⟨v, h1, h2⟩ := kk.slot i s e; ⟨v, h1, s.R.mono st.s1 h2⟩, by rw [e1]; exact kk.nd, fun p hp => ?_⟩
  rcases e2 p hp with rfl | ⟨h1, h2⟩
  · exact ⟨hm, hn⟩
  · obtain ⟨q1, q2⟩ := kk.mo p h1
    have hl := p.2.live q1
    obtain ⟨o, ho⟩ := ne_some hl
    refine ⟨p.2.ok_mono q1 st.s1 (by rw [ho]; exact st.keep _ _ ho (by simpa using h2)), ?_⟩
    cases e : Hs' p.1 with
    | none => rfl
    | some o =>
      rcases st.new p.1 (by rw [e]; exact fun z => nomatch z) with z | z
      · exact absurd q2 z
      · exact absurd z hl
theorem stp_in {as bs : List Addr} {Hs H Hs' H' : Hp} (s : Stp as Hs H Hs' H') (h : ∀ a ∈ as, a ∈ bs) : Stp bs Hs H Hs' H' := ⟨s.s1, fun b o e n => s.keep b o e fun z => n (h b z), s.new, s.live⟩
theorem mem_at {k : Nat} {a : Addr} {m : MO} (hk : Δ[k]? = some (a, m)) : a ∈ adr Δ := mem_adr (p := (a, m)) (List.mem_of_getElem? hk)
theorem ev_callM {ι : Type} {as : ι → Addr → List Slot} {m : ι → MO} {pre : ι → Prop} {res : ι → Slot} {m' : ι → MO} {E : XK} {t : TA} {a : Addr} (i : ι) (k : Nat) (h : EvA t Γ Δ (as i a) Δ1) (hk : Δ1[k]? = some (a, m i)) (hnd : True) (hp : pre i) : Ev (tCall (spM as m pre res m') [] E t) Γ Δ (res i).R (res i).x (Δ1.set k (a, m' i)) := by
  have key : adr (Δ1.set k (a, m' i)) = adr Δ1 := by
    unfold adr
    rw [List.map_set]
    refine List.ext_getElem? fun j => ?_
    by_cases hj : k = j
    · subst hj
      have hl : k < Δ1.length := (List.getElem?_eq_some_iff.mp hk).1
      rw [List.getElem?_set_self (by simpa using hl), List.getElem?_map, hk]
      rfl
    · rw [List.getElem?_set_ne hj]
  refine ⟨key.trans h.same, fun σ Hs H kk Q q => h.run σ Hs H kk _ fun vs Hs1 H1 k1 s1 r1 => ?_⟩
  obtain ⟨hm, hn⟩ := k1.mo _ (List.mem_of_getElem? hk)
  refine ⟨Hs1, i, a, k1.sub, by rw [List.append_nil]; exact r1, hm, hn, hp, fun u Hs2 H2 sub st hm2 hn2 r => q u Hs2 H2 (mut_ok k1 hk sub st hm2 hn2) (s1.trans (stp_in st fun b hb => ?_)) r⟩
  cases List.mem_singleton.mp hb
  rw [← h.same]
  exact mem_at hk
theorem en_call {ι : Type} {as : ι → List Slot} {pre : ι → Prop} {res : ι → List α} {E : XK} {t : TA} (i : ι) (h : EvA t Γ Δ (as i) Δ1) (hp : pre i) : EvN (tCall (spN as pre R res) [] E t) Γ Δ R (res i) Δ1 :=
  ⟨h.same, fun σ Hs H k Q q => h.run σ Hs H k _ fun vs Hs1 H1 k1 s1 r1 => ⟨Hs1, i, k1.sub, by rw [List.append_nil]; exact r1, hp, fun p ws Hs2 H2 n hp hs h2 pr hz => by
    have hHp := back_none s1 hp
    exact q p ws Hs2 H2 (k1.nw n) (s1.trans n.stp) hHp hs (fresh_adr k hHp) h2 pr hz⟩⟩
/-- xs[k] = e of an owned list -/
theorem w_setO {to ti : TE} {a : Addr} {xs : List α} {k : Nat} {n : Int} {jj : Nat} (h : Ev te Γ Δ R x Δ1) (ho : Ev to Γ Δ1 RA a Δ1) (hi : Ev ti Γ Δ1 RI n Δ1) (hk : Δ1[k]? = some (a, .lst R xs)) (hn : ixN xs.length n = some jj)
    (q : Wn C Nx Γ (Δ1.set k (a, .lst R (xs.set jj x)))) : Wn C (tAsg te (gSub to ti rSetL) ⟨Nx, rtt, bkk, ctt⟩) Γ Δ := fun σ Hs H kk f =>
  h.run σ Hs H kk _ fun v Hs1 H1 k1 s1 r1 => ho.run σ Hs1 H1 k1 _ fun o Hs2 H2 k2 s2 r2 => hi.run σ Hs2 H2 k2 _ fun u Hs3 H3 k3 s3 r3 => by
    obtain ⟨⟨vs, e, p⟩, hn'⟩ := k3.mo _ (List.mem_of_getElem? hk)
    have f3 : Fr C Hs3 H3 Δ1 := ((f.step h.same s1).step rfl s2).step rfl s3
    refine ⟨a, vs, n, jj, r2, r3, e, by rw [pair_len p]; exact hn, ?_⟩
    have st : Stp [a] Hs3 H3 Hs3 (upd H3 a (.lst (vs.set jj v))) := ⟨fun _ _ z => z, fun b o z nb => by rw [upd_ne (by simpa using nb)]; exact z, fun _ z => .inl z, fun b z => by
      by_cases hb : b = a
      · subst hb; rw [upd_same]; exact fun z => nomatch z
      · rw [upd_ne hb]; exact z⟩
    have sub : Same Hs3 (upd H3 a (.lst (vs.set jj v))) := fun b o z => by
      have : b ≠ a := fun y => by rw [y, hn'] at z; cases z
      rw [upd_ne this]; exact k3.sub _ _ z
    have rv : R.r Hs3 v x := R.mono s3.s1 (R.mono s2.s1 r1)
    have k4 := mut_ok k3 hk (m' := .lst R (xs.set jj x)) sub st ⟨_, upd_same, pair_set rv _ p⟩ hn'
    exact q σ _ _ k4 (f3.step (nodup_at k3.nd hk _).1 (stp_in st fun b hb => by cases List.mem_singleton.mp hb; exact mem_at hk))
/-- xs.pop(k) of an owned list, the item dropped -/
theorem w_popO {to ti : TE} {a : Addr} {xs : List α} {k : Nat} {jj : Nat} (ho : Ev to Γ Δ RA a Δ) (hi : Ev ti Γ Δ RI (jj : Int) Δ) (hk : Δ[k]? = some (a, .lst R xs)) (hn : jj < xs.length) (hz : jj < 1000)
    (q : Wn C Nx Γ (Δ.set k (a, .lst R (xs.eraseIdx jj)))) : Wn C (tDrop (tBM K "list" rPopAt to (tCons ti tNil)) ⟨Nx, rtt, bkk, ctt⟩) Γ Δ := fun σ Hs H kk f =>
  ho.run σ Hs H kk _ fun o Hs1 H1 k1 s1 r1 => by
    cases (show o = V.ref a from r1)
    obtain ⟨⟨vs, e, p⟩, _⟩ := k1.mo _ (List.mem_of_getElem? hk)
    refine ⟨.inl ⟨rfl, vs, SqL.of e⟩, hi.run σ Hs1 H1 k1 _ fun u Hs2 H2 k2 s2 r2 => ?_⟩
    obtain ⟨⟨ws, e2, p2⟩, hn'⟩ := k2.mo _ (List.mem_of_getElem? hk)
    have f3 : Fr C Hs2 H2 Δ := (f.step rfl s1).step rfl s2
    have hl : jj < ws.length := by rw [pair_len p2]; exact hn
    refine ⟨a, ws, (jj : Int), jj, ws[jj], rfl, by rw [show u = V.int (jj : Int) from r2], e2, by omega, by omega, seqIndex_of (by omega) (by omega), List.getElem?_eq_getElem hl, ?_⟩
    have st : Stp [a] Hs2 H2 Hs2 (upd H2 a (.lst (ws.eraseIdx jj))) := ⟨fun _ _ z => z, fun b o z nb => by rw [upd_ne (by simpa using nb)]; exact z, fun _ z => .inl z, fun b z => by
      by_cases hb : b = a
      · subst hb; rw [upd_same]; exact fun z => nomatch z
      · rw [upd_ne hb]; exact z⟩
    have sub : Same Hs2 (upd H2 a (.lst (ws.eraseIdx jj))) := fun b o z => by
      have : b ≠ a := fun y => by rw [y, hn'] at z; cases z
      rw [upd_ne this]; exact k2.sub _ _ z
    have pr : Paired (R.r Hs2) (ws.eraseIdx jj) (xs.eraseIdx jj) := by
      rw [List.eraseIdx_eq_take_drop_succ, List.eraseIdx_eq_take_drop_succ]
      exact pair_app (pair_take _ p2) (pair_drop _ p2)
    exact q σ _ _ (mut_ok k2 hk (m' := .lst R (xs.eraseIdx jj)) sub st ⟨_, upd_same, pr⟩ hn') (f3.step (nodup_at k2.nd hk _).1 (stp_in st fun b hb => by cases List.mem_singleton.mp hb; exact mem_at hk))
end
end TL
set_option Elab.async false
set_option linter.all false
set_option maxRecDepth 100000
set_option maxHeartbeats 1000000
/-! dicts whose keys are tuples of tuples of ints -/
namespace TL
open PySem PySem.Spec PyProof.Rows L2
abbrev NK := NestedKey
def rowK (r : List Int) : NK := .tup (r.map .num)
def nk (k : KK) : NK := .tup (k.map rowK)
theorem num_inj : ∀ {a b : List Int}, a.map NestedKey.num = b.map NestedKey.num → a = b
  | [], [], _ => rfl
  | [], _ :: _, h => by simp at h
  | _ :: _, [], h => by simp at h
  | x :: a, y :: b, h => by
    rw [List.map_cons, List.map_cons] at h
    injection h with h1 h2
    injection h1 with h1
    rw [h1, num_inj h2]
theorem row_inj {a b : List Int} (h : rowK a = rowK b) : a = b := by
  unfold rowK at h
  injection h with h
  exact num_inj h
theorem rows_inj : ∀ {a b : KK}, a.map rowK = b.map rowK → a = b
  | [], [], _ => rfl
  | [], _ :: _, h => by simp at h
  | _ :: _, [], h => by simp at h
  | x :: a, y :: b, h => by
    rw [List.map_cons, List.map_cons] at h
    injection h with h1 h2
    rw [row_inj h1, rows_inj h2]
theorem nk_inj {a b : KK} (h : nk a = nk b) : a = b := by
  unfold nk at h
  injection h with h
  exact rows_inj h
theorem nums_depth : ∀ r : List Int, NestedKey.depthAll (r.map .num) = 0
  | [] => rfl
  | _ :: r => by
    show max 0 (NestedKey.depthAll (r.map .num)) = 0
    rw [nums_depth r]
    rfl
theorem rows_depth : ∀ k : KK, NestedKey.depthAll (k.map rowK) ≤ 1
  | [] => Nat.zero_le _
  | r :: k => by
    show max (NestedKey.depthAll (r.map .num) + 1) (NestedKey.depthAll (k.map rowK)) ≤ 1
    have := rows_depth k
    rw [nums_depth r]
    omega
theorem nk_depth (k : KK) : (nk k).depth ≤ 8 := by
  show NestedKey.depthAll (k.map rowK) + 1 ≤ 8
  have := rows_depth k
  omega
section
variable {X : Cx} {pins : List (Addr × Obj)} {σ : L2.St} {H : Hp} {s : Shared}
theorem nums_is {h : Heap} : ∀ {ns : List Int} {us : List Value}, Vals (ns.map V.int) us → NestedAll h (ns.map .num) us
  | [], _, .nil => .nil
  | n :: ns, _, .cons r t => by
    obtain ⟨tk, rfl⟩ := (show ∃ t, _ = Value.int n t from r)
    exact .cons (.int n tk) (nums_is t)
theorem row_is (I : Inv X pins σ H s) {v : V} {u : Value} {r : List Int} (h : (RT RI).r H v r) (ru : RelV v u) : NestedIs s.heap (rowK r) u := by
  obtain ⟨a, vs, rfl, e, p, _⟩ := h
  cases ru
  obtain ⟨its, rv, ⟨o, h1, h2, n, h3⟩, _⟩ := I.tuple (SqT.of e)
  rw [ints_of p] at rv
  exact .tup h1 h2 h3 (by simpa using nums_is rv)
theorem rows_is (I : Inv X pins σ H s) : ∀ {vs : List V} {us : List Value} {k : KK}, Paired ((RT RI).r H) vs k → Vals vs us → NestedAll s.heap (k.map rowK) us
  | _, _, _, .nil, .nil => .nil
  | _, _, _, .cons h t, .cons r q => .cons (row_is I h r) (rows_is I t q)
theorem key_is (I : Inv X pins σ H s) {b : Addr} {k : KK} (h : RK.r H (.ref b) k) : (nestedKind X.prog X.w).is s.heap (nk k) b := by
  obtain ⟨a, vs, e0, e, p, _⟩ := h
  cases e0
  obtain ⟨its, rv, ⟨o, h1, h2, n, h3⟩, _⟩ := I.tuple (SqT.of e)
  exact ⟨.tup h1 h2 h3 (by simpa using rows_is I p rv), nk_depth k⟩
end
/-! ### rows of entries -/
abbrev XEs := List (NK × Addr × Value)
def ERel (e : KK × Addr × V) (x : NK × Addr × Value) : Prop := x.1 = nk e.1 ∧ x.2.1 = e.2.1 ∧ RelV e.2.2 x.2.2
def lookE (es : DEs) (k : KK) : Option V := (es.find? fun e => decide (e.1 = k)).map (·.2.2)
def putE (es : DEs) (k : KK) (b : Addr) (v : V) : DEs := if (lookE es k).isSome then es.map (fun e => if e.1 = k then (e.1, e.2.1, v) else e) else es ++ [(k, b, v)]
def dropE (es : DEs) (k : KK) : DEs := es.filter fun e => decide (e.1 ≠ k)
theorem erel_key {e : KK × Addr × V} {x : NK × Addr × Value} (h : ERel e x) (k : KK) : (x.1 = nk k) ↔ (e.1 = k) := by
  rw [h.1]
  exact ⟨fun q => nk_inj q, fun q => by rw [q]⟩
theorem erel_look {es : DEs} {xs : XEs} (p : Paired ERel es xs) (k : KK) : RelO (lookE es k) ((atKey xs (nk k)).map (·.2)) := by
  induction p with
  | nil => exact True.intro
  | @cons e x es xs h t ih =>
    by_cases q : e.1 = k
    · have q' : x.1 = nk k := (erel_key h k).mpr q
      have e1 : lookE (e :: es) k = some e.2.2 := by simp [lookE, q]
      have e2 : atKey (x :: xs) (nk k) = some x.2 := by simp [atKey, q']
      rw [e1, e2]
      exact h.2.2
    · have q' : ¬ x.1 = nk k := fun z => q ((erel_key h k).mp z)
      have e1 : lookE (e :: es) k = lookE es k := by simp [lookE, q]
      have e2 : atKey (x :: xs) (nk k) = atKey xs (nk k) := by simp [atKey, q']
      rw [e1, e2]
      exact ih
theorem erel_map {es : DEs} {xs : XEs} (p : Paired ERel es xs) (k : KK) {v : V} {u : Value} (r : RelV v u) : Paired ERel (es.map (fun e => if e.1 = k then (e.1, e.2.1, v) else e)) (xs.map (putAt (nk k) u)) := by
  induction p with
  | nil => exact .nil
  | @cons e x es xs h t ih =>
    refine .cons ?_ ih
    unfold putAt
    dsimp only
    by_cases q : e.1 = k
    · rw [if_pos q, if_pos ((erel_key h k).mpr q)]
      exact ⟨h.1, h.2.1, r⟩
    · rw [if_neg q, if_neg fun z => q ((erel_key h k).mp z)]
      exact h
theorem relO_isSome {o : Option V} {o' : Option Value} (h : RelO o o') : o.isSome = o'.isSome := by
  cases o <;> cases o' <;> first | rfl | exact h.elim
theorem pairedApp {α β : Type} {F : α → β → Prop} : ∀ {l l' : List α} {m m' : List β}, Paired F l m → Paired F l' m' → Paired F (l ++ l') (m ++ m') := pair_app
theorem erel_put {es : DEs} {xs : XEs} (p : Paired ERel es xs) (k : KK) (b : Addr) {v : V} {u : Value} (r : RelV v u) : Paired ERel (putE es k b v) (storedH xs (nk k) b u) := by
  have hs := relO_isSome (erel_look p k)
  rw [Option.isSome_map] at hs
  unfold putE storedH
  rw [hs]
  split
  · exact erel_map p k r
  · exact pair_app p (.cons ⟨rfl, rfl, r⟩ .nil)
theorem erel_drop {es : DEs} {xs : XEs} (p : Paired ERel es xs) (k : KK) : Paired ERel (dropE es k) (withoutH xs (nk k)) := by
  induction p with
  | nil => exact .nil
  | @cons e x es xs h t ih =>
    unfold dropE withoutH at ih ⊢
    by_cases q : e.1 = k
    · have q' : x.1 = nk k := (erel_key h k).mpr q
      rw [List.filter_cons, List.filter_cons, if_neg (by simp [q]), if_neg (by simp [q'])]
      exact ih
    · have q' : ¬ x.1 = nk k := fun z => q ((erel_key h k).mp z)
      rw [List.filter_cons, List.filter_cons, if_pos (by simp [q]), if_pos (by simp [q'])]
      exact .cons h ih
theorem nodup_nk {es : DEs} {xs : XEs} (p : Paired ERel es xs) : (xs.map (·.1)) = (es.map (·.1)).map nk := by
  induction p with
  | nil => rfl
  | @cons e x es xs h t ih => rw [List.map_cons, List.map_cons, List.map_cons, ih, h.1]
/-- the dict at a -/
def dicO (P : Program) (w : World) (a : Addr) (es : DEs) : HO := .ext fun h => (a == sysModules) = false ∧ es.length ≤ sizeLine ∧
  ∃ xs : XEs, Paired ERel es xs ∧ (xs.map (·.1)).Nodup ∧ ∃ o ents ep, h.get? a = some o ∧ o.ExactDict ∧ o.data = .dict ents ep ∧ ents.toList = xs.map (entryOfKey (nestedKind P w))
def KeysAt (H : Hp) (es : DEs) : Prop := ∀ e ∈ es, RK.r H (.ref e.2.1) e.1
theorem dic_new {P : Program} {w : World} {H' : Hp} {h' : Heap} {a : Addr} {es : DEs} {xs : XEs} (ha : (a == sysModules) = false) (hz : es.length ≤ sizeLine) (p : Paired ERel es xs) (d : h'.DictOfH (nestedKind P w) a xs) : ObjOk P w H' h' a (dicO P w a es) := by
  obtain ⟨o, ents, ep, ho, hx, hd, he, _, hn⟩ := d
  refine ⟨⟨ha, hz, xs, p, hn, o, ents, ep, ho, hx, hd, he⟩, ⟨o, ho⟩, fun h1 h2 q k => ?_⟩
  obtain ⟨q1, q2, ys, q3, q4, o', es', ep', q5, q6, q7, q8⟩ := q
  exact ⟨q1, q2, ys, q3, q4, o', es', ep', k o' q5, q6, q7, q8⟩
section
variable {X : Cx} {pins : List (Addr × Obj)} {σ : L2.St} {H : Hp} {s : Shared} {A : Around} {E : Value → Shared → Prop} {a : Addr} {es : DEs}
theorem dic_at (I : Inv X pins σ H s) (h : H a = some (dicO X.prog X.w a es)) (hk : KeysAt H es) : (a == sysModules) = false ∧ es.length ≤ sizeLine ∧ ∃ xs : XEs, Paired ERel es xs ∧ s.heap.DictOfH (nestedKind X.prog X.w) a xs := by
  obtain ⟨⟨h1, h2, xs, p, hn, o, ents, ep, ho, hx, hd, he⟩, _⟩ := I.hok a _ h
  refine ⟨h1, h2, xs, p, o, ents, ep, ho, hx, hd, he, fun x hm => ?_, hn⟩
  obtain ⟨i, hi⟩ := List.mem_iff_getElem?.mp hm
  obtain ⟨e, h3, h4⟩ := pair_get p hi
  have := key_is I (hk e (List.mem_of_getElem? h3))
  rw [h4.1, h4.2.1]
  exact this
theorem dic_type (I : Inv X pins σ H s) (h : H a = some (dicO X.prog X.w a es)) : s.TypeIs (.ref a) "dict" ∧ ∀ b, Value.ref a = .ref b → ∃ ob, s.heap.get? b = some ob ∧ ob.dict = none := by
  obtain ⟨⟨h1, h2, xs, p, hn, o, ents, ep, ho, hx, hd, he⟩, _⟩ := I.hok a _ h
  refine ⟨⟨o, ho, hx.1⟩, fun b q => ?_⟩
  cases q
  exact ⟨o, ho, hx.2.1⟩
/-! #### {} -/
def tDicNew (P : Program) (w : World) : TE := fun _ H Q => ∀ p, H p = none → Q (.ref p) (upd H p (dicO P w p []))
theorem pe_dicNew {pos : Pos} : PE X (.Dict [] [] pos) (tDicNew X.prog X.w) := ⟨fun pins s σ H Q I h =>
  wpAny_Dict_empty ⟨.ref s.heap.objs.size, _, I.laid (a := s.heap.objs.size) (o := dicO X.prog X.w s.heap.objs.size []) (t' := s.toks) (fun _ _ q => Heap.get?_push_of_some _ q) (Nat.le_refl _)
    (dic_new (beq_eq_false_iff_ne.mpr fun e => by have := I.big; rw [e] at this; exact Nat.lt_irrefl _ this) (Nat.zero_le _) .nil (Heap.DictOfH.new s.heap)), rfl, h _ (I.hok.fresh (Nat.le_refl _))⟩⟩
/-! #### d.get(k, x) -/
def tDicGet2 (P : Program) (w : World) (td ty tx : TE) : TE := fun σ H Q => td σ H fun x H1 => ∃ a es1, x = .ref a ∧ H1 a = some (dicO P w a es1) ∧ ty σ H1 fun y H2 => tx σ H2 fun z H3 =>
  ∃ es b k, H3 a = some (dicO P w a es) ∧ KeysAt H3 es ∧ y = .ref b ∧ RK.r H3 (.ref b) k ∧ Q ((lookE es k).getD z) H3
theorem pe_dicGet2 {o e f : Expr} {apos cpos : Pos} {td ty tx : TE} (hu : X.A.units + 64 < cLine) (ho : PE X o td) (he : PE X e ty) (hf : PE X f tx) (m : M2 X o "get" apos e f cpos) : PE X (.Call (.Attribute o "get" apos) [e, f] [] cpos) (tDicGet2 X.prog X.w td ty tx) := by
  refine ⟨fun pins s σ H Q I h => ?_⟩
  refine wpAny_Call_method m.base m.few m.line PySem.F.plainAttrs_dict PySem.F.slot_dict_get PySem.F.type_dict_get (thn (ho.run pins s σ H _ I h) fun u s1 ⟨x, H1, I1, rx, a, es1, ex, d, q1⟩ => ?_)
  subst ex
  obtain rfl : u = Value.ref a := rx
  obtain ⟨t1, t2⟩ := dic_type I1 d
  refine ⟨t1, t2, ?_⟩
  rw [m.trees]
  refine Calls.callWith_builtin rfl (Calls.evalArgs_plain (Calls.spliced_cons (thn (he.run pins s1 σ H1 _ I1 q1) fun iv s2 ⟨y, H2, I2, ry, q2⟩ =>
    Calls.spliced_cons (thn (hf.run pins s2 σ H2 _ I2 q2) fun fv s3 ⟨z, H3, I3, rz, es, b, k, d3, kk, ey, ek, q3⟩ => Calls.spliced_nil ?_))))
  subst ey
  obtain rfl : iv = Value.ref b := ry
  obtain ⟨g1, g2, xs, p, dd⟩ := dic_at I3 d3 kk
  refine call_meetsIn PySem.F.slot_dict_get dd.typeIs PySem.F.entry_dict_get (PySem.F.args_dict_get_3 _ _ _) (meetsH_dict_get_default (nestedKind X.prog X.w) a b g1 fv) ⟨by show X.A.units + 1 + 8 < cLine; omega, nk k, xs, key_is I3 ek, dd, ?_⟩
  exact ⟨_, H3, I3.tok _, (erel_look p k).getD rz, q3⟩
/-! #### d.pop(k), there -/
def tDicPop (P : Program) (w : World) (td ty : TE) : TE := fun σ H Q => td σ H fun x H1 => ∃ a es1, x = .ref a ∧ H1 a = some (dicO P w a es1) ∧ ty σ H1 fun y H2 =>
  ∃ es b k v, H2 a = some (dicO P w a es) ∧ KeysAt H2 es ∧ y = .ref b ∧ RK.r H2 (.ref b) k ∧ lookE es k = some v ∧ Q v (upd H2 a (dicO P w a (dropE es k)))
theorem dropE_len (es : DEs) (k : KK) : (dropE es k).length ≤ es.length := List.length_filter_le _ _
theorem dic_write {h' : Heap} {t' : Nat} {es' : DEs} {xs' : XEs} (I : Inv X pins σ H s) (h : H a = some (dicO X.prog X.w a es)) (hs : Heap.SameBut a s.heap h') (ha : (a == sysModules) = false) (hz : es'.length ≤ sizeLine) (p : Paired ERel es' xs') (d : h'.DictOfH (nestedKind X.prog X.w) a xs') :
    Inv X pins σ (upd H a (dicO X.prog X.w a es')) { s with heap := h', toks := t' } := by
  have he : ∃ q, h'.get? a = some q := let ⟨q, _, _, hq, _⟩ := d; ⟨q, hq⟩
  exact d_write I (by rw [h]; exact True.intro) hs he (dic_new ha hz p d)
theorem pe_dicPop {o e : Expr} {apos cpos : Pos} {td ty : TE} (hu : X.A.units + 64 < cLine) (ho : PE X o td) (he : PE X e ty) (m : M1 X o "pop" apos e cpos) : PE X (.Call (.Attribute o "pop" apos) [e] [] cpos) (tDicPop X.prog X.w td ty) := by
  refine ⟨fun pins s σ H Q I h => ?_⟩
  refine wpAny_Call_method m.base m.few m.line PySem.F.plainAttrs_dict PySem.F.slot_dict_pop PySem.F.type_dict_pop (thn (ho.run pins s σ H _ I h) fun u s1 ⟨x, H1, I1, rx, a, es1, ex, d, q1⟩ => ?_)
  subst ex
  obtain rfl : u = Value.ref a := rx
  obtain ⟨t1, t2⟩ := dic_type I1 d
  refine ⟨t1, t2, ?_⟩
  rw [m.trees]
  refine Calls.callWith_builtin rfl (Calls.evalArgs_plain (Calls.spliced_cons (thn (he.run pins s1 σ H1 _ I1 q1) fun iv s2 ⟨y, H2, I2, ry, es, b, k, v, d2, kk, ey, ek, hl, q2⟩ => Calls.spliced_nil ?_)))
  subst ey
  obtain rfl : iv = Value.ref b := ry
  obtain ⟨g1, g2, xs, p, dd⟩ := dic_at I2 d2 kk
  have hr := erel_look p k
  rw [hl] at hr
  cases hx : atKey xs (nk k) with
  | none => rw [hx] at hr; exact hr.elim
  | some pr =>
    rw [hx] at hr
    refine call_pop_heap (p := pr) (.inl rfl) (PySem.F.args_dict_pop_2 _ _) (by show X.A.units + 1 + 8 < cLine; omega) (key_is I2 ek) g1 dd hx (fun h' dd' hs => ?_) (by rw [← pair_len p]; exact g2)
    exact ⟨v, _, dic_write I2 d2 hs g1 (Nat.le_trans (dropE_len _ _) g2) (erel_drop p k) dd', hr, q2⟩
/-! #### d[k] = v -/
def rDicSet (P : Program) (w : World) : V → V → V → Hp → (Hp → Prop) → Prop := fun o i v H Q => ∃ a es b k, o = .ref a ∧ i = .ref b ∧ H a = some (dicO P w a es) ∧ KeysAt H es ∧ RK.r H (.ref b) k ∧ es.length < sizeLine ∧ Q (upd H a (dicO P w a (putE es k b v)))
theorem putE_len (es : DEs) (k : KK) (b : Addr) (v : V) : (putE es k b v).length ≤ es.length + 1 := by
  unfold putE
  split <;> simp
theorem set_dic (hu : X.A.units + 64 < cLine) : PSet X (rDicSet X.prog X.w) := by
  intro pins s σ H o i v ov iv u Q I ro ri rv h
  obtain ⟨a, es, b, k, rfl, rfl, d, kk, ek, hz, q⟩ := h
  obtain rfl : ov = Value.ref a := ro
  obtain rfl : iv = Value.ref b := ri
  obtain ⟨g1, g2, xs, p, dd⟩ := dic_at I d kk
  refine wpAny_setItem_heap (by show X.A.units + 1 + 8 < cLine; omega) (key_is I ek) dd (fun h' dd' hs => ?_) (by rw [← pair_len p]; exact g2)
  exact ⟨_, dic_write I d hs g1 (Nat.le_trans (putE_len _ _ _ _) hz) (erel_put p k b rv) dd', q⟩
/-! #### d[k], there -/
def tDicItem (P : Program) (w : World) (td ty : TE) : TE := fun σ H Q => td σ H fun x H1 => ty σ H1 fun y H2 => ∃ a es b k v, x = .ref a ∧ y = .ref b ∧ H2 a = some (dicO P w a es) ∧ KeysAt H2 es ∧ RK.r H2 (.ref b) k ∧ lookE es k = some v ∧ Q v H2
theorem pe_dicItem {o i : Expr} {pos : Pos} {td ty : TE} (hu : X.A.units + 64 < cLine) (ho : PE X o td) (hi : PE X i ty) (hs : NoSl i) : PE X (.Subscript o i pos) (tDicItem X.prog X.w td ty) := by
  refine ⟨fun pins s σ H Q I h => ?_⟩
  refine subD_of PySem.F.slot_dict_getitem.lookup hs (thn (ho.run pins s σ H _ I h) fun u s1 ⟨x, H1, I1, rx, q1⟩ => thn (hi.run pins s1 σ H1 _ I1 q1) fun iv s2 ⟨y, H2, I2, ry, a, es, b, k, v, ex, ey, d, kk, ek, hl, q2⟩ => ?_)
  subst ex ey
  obtain rfl : u = Value.ref a := rx
  obtain rfl : iv = Value.ref b := ry
  obtain ⟨g1, g2, xs, p, dd⟩ := dic_at I2 d kk
  have hr := erel_look p k
  rw [hl] at hr
  cases hx : atKey xs (nk k) with
  | none => rw [hx] at hr; exact hr.elim
  | some pr =>
    rw [hx] at hr
    exact ⟨dd.typeIs, wpAny_getItem_heap (by show X.A.units + 1 + 8 < cLine; omega) (key_is I2 ek) dd hx ⟨v, H2, I2.tok _, hr, q2⟩⟩
end
end TL
set_option Elab.async false
set_option linter.all false
set_option maxRecDepth 100000
set_option maxHeartbeats 2000000
/-! dicts compared, listed; rows sorted; a list zipped with a tuple -/
namespace TL
open PySem PySem.Spec PyProof.Rows L2 PySem.W PySem.Calls PyProof.V
section
variable {prog : Program} {w : World} {K : Type} [DecidableEq K] {knd : HeapKind prog w K} {A : Around} {E : Value → Shared → Prop} {s : Shared}
/-- every entry of the one dict stands in the other one, as many -/
theorem samePairsH {nm : String} {a b : Addr} {xs ys : List (K × Addr × Value)} {Q : Bool → Shared → Prop} (hu : knd.room A) (ha : (a == sysModules) = false) (hb : (b == sysModules) = false)
    (da : s.heap.DictOfH knd a xs) (db : s.heap.DictOfH knd b ys) (hl : xs.length = ys.length)
    (hits : ∀ x ∈ xs, ∃ (n : Int) (t u : Tok) (c : Addr), x.2.2 = .int n t ∧ atKey ys x.1 = some (c, .int n u)) (h : Q true s) :
    wpAny (model prog w) A (Builtin.Dict.samePairs nm a b) Q E s := by
  obtain ⟨oa, es, ep, hoa, _, hda, hea, hka, hna⟩ := da
  obtain ⟨ob, es', ep', hob, _, hdb, heb, hkb, hnb⟩ := db
  have hla : es.size = xs.length := size_of_entries hea
  have hlb : es'.size = ys.length := size_of_entries heb
  unfold Builtin.Dict.samePairs Builtin.Dict.showsAll
  rw [if_neg (show ¬ (a == sysModules) = true by rw [ha]; exact Bool.false_ne_true), if_neg (show ¬ (b == sysModules) = true by rw [hb]; exact Bool.false_ne_true)]
  refine wpAny_bind (wpAny_pure (wpAny_bind (wpAny_pure ?_)))
  refine wpAny_bind (wpAny_dictEntries hoa hda ?_)
  dsimp only
  refine wpAny_bind (wpAny_dictEntries hob hdb ?_)
  have hsz : es.size = es'.size := by rw [hla, hlb, hl]
  rw [if_neg (by rw [hsz]; simp)]
  refine wpAny_bind (wpAny_dictEpoch hoa hda ?_)
  refine wpAny_bind ?_
  rw [Std.Legacy.Range.forIn_eq_forIn_range']
  simp only [Std.Legacy.Range.size, Nat.sub_zero, Nat.add_sub_cancel, Nat.div_one]
  refine wpAny_forIn_list _
    (fun rest q s' => s' = s ∧ q = (none, ()) ∧ ∃ i, rest = List.range' i (es.size - i) ∧ i ≤ es.size)
    _ ?_ ?_ _ _ ⟨rfl, rfl, 0, by simp, Nat.zero_le _⟩
  · rintro x rest q s' ⟨rfl, rfl, i, hr, hi⟩
    have hlt : i < es.size := by
      rcases Nat.lt_or_ge i es.size with h | h
      · exact h
      · rw [Nat.sub_eq_zero_of_le h] at hr; simp at hr
    obtain ⟨rfl, hrest⟩ : x = i ∧ rest = List.range' (i + 1) (es.size - (i + 1)) := by
      have e : es.size - i = (es.size - (i + 1)) + 1 := by omega
      rw [e, List.range'_succ] at hr
      injection hr with h1 h2
      exact ⟨h1, h2⟩
    refine wpAny_bind (wpAny_dictEntries hoa hda ?_)
    have hlt' : x < xs.length := by omega
    have hx : xs[x]? = some xs[x] := List.getElem?_eq_getElem hlt'
    have hex : es[x]? = some (entryOfKey knd xs[x]) := by rw [entry_at hea x, hx]; rfl
    rw [hex]
    show wpAny _ _ (holding [Value.ref xs[x].2.1, xs[x].2.2] _ >>= _) _ _ _
    obtain ⟨n, t, u, c, e1, e2⟩ := hits _ (List.mem_of_getElem? hx)
    refine wpAny_bind (wpAny_holding (wpAny_bind (wpAny_dictFind_heap hu (hka _ (List.mem_of_getElem? hx)) hob hdb heb hkb hnb (fun hno => ?_) fun j p hj => ?_)))
    · rw [atKey_none_of_get hno] at e2; cases e2
    · have e3 := atKey_of_get hnb hj
      rw [e2] at e3
      cases e3
      refine wpAny_bind (wpAny_dictEntries hob hdb ?_)
      rw [entry_at heb j, hj]
      refine wpAny_holding ?_
      show wpAny _ _ (eqBool xs[x].2.2 (.int n u)) _ _ _
      rw [e1]
      refine wpAny_eqBool_int ?_
      rw [show (n == n) = true from by simp]
      show wpAny _ _ (if (!true) = true then _ else _) _ _ _
      rw [if_neg (by decide)]
      refine wpAny_bind (wpAny_dictEpoch hoa hda ?_)
      rw [if_neg (by simp)]
      exact wpAny_pure ⟨rfl, rfl, x + 1, hrest, hlt⟩
  · rintro q s' ⟨rfl, rfl, i, hr, hi⟩
    exact wpAny_pure h
theorem eq_dictsH {a b : Addr} {xs ys : List (K × Addr × Value)} {Q : Value → Shared → Prop} (hr : knd.room A.in1) (ha : (a == sysModules) = false) (hb : (b == sysModules) = false)
    (da : s.heap.DictOfH knd a xs) (db : s.heap.DictOfH knd b ys) (hu : A.units < cLine) (hl : xs.length = ys.length)
    (hits : ∀ x ∈ xs, ∃ (n : Int) (t u : Tok) (c : Addr), x.2.2 = .int n t ∧ atKey ys x.1 = some (c, .int n u)) (h : Q (.bool true) s) :
    wpAny (model prog w) A (compareOp .Eq (.ref a) (.ref b)) Q E s := by
  refine wpAny_richCompare_same_room (op := .Eq) da.typeIs db.typeIs PySem.F.slot_dict_eq (wpAny_call_entry PySem.F.slot_dict_eq da.typeIs PySem.F.entry_dict_eq ?_ (PySem.F.args_dict_eq_2 _ _)) hu
  show wpAny _ _ (Builtin.Dict.dictSlotArgs "__eq__" ⟨[.ref a, .ref b], []⟩ >>= _) _ _ s
  refine wpAny_bind ?_
  unfold Builtin.Dict.dictSlotArgs
  refine wpAny_bind (wpAny_notOrdered_dict da.typeIs ?_)
  show wpAny _ _ (pure (Value.ref a, Value.ref b)) _ _ s
  refine wpAny_pure ?_
  refine wpAny_bind (wpAny_isInstance (T := "dict") db.typeIs PySem.F.sub_dict_dict ?_)
  simp only [Bool.not_true, Bool.false_eq_true, if_false]
  refine wpAny_bind (wpAny_pure (wpAny_bind (wpAny_pure ?_)))
  refine wpAny_bind (samePairsH hr ha hb da db hl hits ?_)
  refine wpAny_pure ⟨_, rfl, ?_, ?_⟩
  · exact fun x => nomatch x
  · exact h
end
section
variable {X : Cx}
def rDicEq (P : Program) (w : World) : R2 := fun x y H Q => ∃ a b es fs, x = .ref a ∧ y = .ref b ∧ H a = some (dicO P w a es) ∧ H b = some (dicO P w b fs) ∧ KeysAt H es ∧ KeysAt H fs ∧ es.length = fs.length ∧
  (∀ e ∈ es, ∃ n : Int, e.2.2 = .int n ∧ lookE fs e.1 = some (.int n)) ∧ Q (.bl true) H
theorem op_dicEq (hu : X.A.units + 64 < cLine) : OpR X (compareOp .Eq) (rDicEq X.prog X.w) := by
  intro pins s σ H x y v u Q I rx ry h
  obtain ⟨a, b, es, fs, rfl, rfl, ea, eb, ka, kb, hl, hh, q⟩ := h
  obtain rfl : v = Value.ref a := rx
  obtain rfl : u = Value.ref b := ry
  obtain ⟨g1, _, xs, p, dd⟩ := dic_at I ea ka
  obtain ⟨g2, _, ys, p', dd'⟩ := dic_at I eb kb
  refine eq_dictsH (by show X.A.units + 1 + 8 < cLine; omega) g1 g2 dd dd' (by omega) (by rw [← pair_len p, ← pair_len p', hl]) (fun x hx => ?_) ⟨.bl true, H, I, rfl, q⟩
  obtain ⟨i, hi⟩ := List.mem_iff_getElem?.mp hx
  obtain ⟨e, he, hr⟩ := pair_get p hi
  obtain ⟨n, e1, e2⟩ := hh e (List.mem_of_getElem? he)
  have r1 := hr.2.2
  rw [e1] at r1
  obtain ⟨t, ht⟩ := (show ∃ t, x.2.2 = Value.int n t from r1)
  have r2 := erel_look p' e.1
  rw [e2, ← hr.1] at r2
  cases ha : atKey ys x.1 with
  | none => rw [ha] at r2; exact r2.elim
  | some c =>
    rw [ha] at r2
    obtain ⟨t', ht'⟩ := (show ∃ t, c.2 = Value.int n t from r2)
    exact ⟨n, t, t', c.1, ht, by rw [← ht']⟩
theorem refs_eq : ∀ {es : DEs} {xs : XEs}, Paired ERel es xs → (es.map fun e => V.ref e.2.1) = (xs.map fun x => x.2.1).map V.ref
  | _, _, .nil => rfl
  | _, _, .cons h t => by rw [List.map_cons, List.map_cons, List.map_cons, refs_eq t, h.2.1]
/-! #### list(d) -/
theorem call_listDic (hc : X.calm = true) : CallR X (.type "list") (fun xs H Q => ∃ d es, xs = [V.ref d] ∧ H d = some (dicO X.prog X.w d es) ∧ KeysAt H es ∧ ∀ p, H p = none → Q (.ref p) (upd H p (.lst (es.map fun e => V.ref e.2.1)))) := by
  intro pins s σ H xs us Q I r h
  obtain ⟨d, es0, rfl, hd, hk, q⟩ := h
  obtain ⟨u, rfl, rx⟩ := r.one
  cases rx
  obtain ⟨hs, z, ks, pr, o, es, ep, ho, hx, hdt, he, _, hn⟩ := dic_at I hd hk
  have l1 : es.size = ks.length := size_of_entries he
  have l2 : es0.length = ks.length := pair_len pr
  refine PySem.W.kdl_call (kdl_raw hs hx hdt) (I.ok.hd hc) ho (by omega) fun h' tk acc' c' kp e it => ?_
  have ea : acc'.toList = ks.map fun x => Value.ref x.2.1 := by
    have hl : acc'.toList.length = ks.length := by rw [Array.length_toList, it.1]; exact l1
    apply List.ext_getElem?
    intro j
    rw [List.getElem?_map]
    cases hj : acc'.toList[j]? with
    | none =>
      have h1 := List.getElem?_eq_none_iff.mp hj
      rw [List.getElem?_eq_none (by omega)]
      all_goals rfl
    | some v =>
      obtain ⟨en, hen, hv⟩ := it.2 j v (by rw [← Array.getElem?_toList]; exact hj)
      have qe := entry_at he j
      rw [hen] at qe
      cases hb : ks[j]? with
      | none =>
        rw [hb] at qe
        exact nomatch (show some en = none from qe)
      | some b =>
        rw [hb] at qe
        have e2 : en = entryOfKey (nestedKind X.prog X.w) b := Option.some.inj qe
        rw [hv, e2]
        all_goals rfl
  have es_eq : (es0.map fun e => V.ref e.2.1) = (ks.map fun x => x.2.1).map V.ref := refs_eq pr
  have eb : acc'.toList = (ks.map fun x => x.2.1).map Value.ref := by rw [ea, List.map_map]; all_goals rfl
  have rv : Vals ((ks.map fun x => x.2.1).map V.ref) acc'.toList := by rw [eb]; exact vals_refs _
  have hz : ((ks.map fun x => x.2.1).map V.ref).length ≤ sizeLine := by rw [List.length_map, List.length_map]; omega
  refine ⟨.ref s.heap.objs.size, _, I.laid (t' := tk) (o := .lst (es0.map fun e => V.ref e.2.1)) kp (Nat.le_refl _) ?_, rfl, q _ (I.hok.fresh (Nat.le_refl _))⟩
  rw [es_eq]
  exact ⟨hz, acc'.toList, c', rv, by rw [Array.toArray_toList]; exact e⟩
end
end TL
set_option Elab.async false
set_option linter.all false
set_option maxRecDepth 100000
set_option maxHeartbeats 2000000
/-! sorted of rows of ints, in a list or a tuple -/
namespace TL
open PySem PySem.Spec PyProof.Rows L2 PySem.W PySem.Calls
section
variable {prog : Program} {w : World} {A : Around} {E : Value → Shared → Prop} {s : Shared}
theorem collect_tup {l : Addr} {vs : List Value} {Q : List Value → Shared → Prop} (hl : ∃ o n, s.heap.get? l = some o ∧ o.cls = .type "tuple" ∧ o.data = .seq vs.toArray n)
    (h : Q vs { s with heap := (s.heap.push (seqObj "list" #[] 0)).update s.heap.objs.size (Obj.mapSeq (· ++ vs.toArray)) }) (hsz : vs.length ≤ sizeLine) :
    wpAny (model prog w) A (collect (.ref l)) Q E s := by
  obtain ⟨o, n, ho, hc, hd⟩ := hl
  unfold collect
  refine wpAny_bind (wpAny_runValue (codeAny_builtin entry_proto_collect' ?_))
  show wpAny _ _ (do again (.builtin "list.__iadd__" ⟨[← newList [], .ref l], []⟩)) _ _ s
  refine wpAny_bind (wpAny_newList (wpAny_pure ⟨Code.quiet_builtin _ (by decide +kernel), codeAny_builtin entry_list_iadd' ?_⟩))
  show wpAny _ _ (Builtin.List.listExtendWith (.ref s.heap.objs.size) (.ref l) (.ref s.heap.objs.size)) _ _ { s with heap := s.heap.push (seqObj "list" #[] 0) }
  unfold Builtin.List.listExtendWith
  have ho' : (s.heap.push (seqObj "list" #[] 0)).get? l = some o := Heap.get?_push_of_some _ ho
  refine wpAny_bind (wpAny_typeOf (T := "tuple") ⟨o, ho', hc⟩ ?_)
  have ht : (Value.type "tuple" == Value.type "tuple") = true := by rfl
  rw [if_pos (by rw [ht]; simp)]
  refine wpAny_bind (listItems_at ho' hd ?_)
  refine wpAny_bind (listItems_at (xs := #[]) (n := 0) (Heap.get?_push_size _ rfl) rfl ?_)
  rw [if_neg (by simp)]
  refine wpAny_bind (listUpdate_at (xs := #[]) (n := 0) (Heap.get?_push_size _ rfl) rfl ?_ (Nat.zero_le _) (by show (#[] ++ vs.toArray).size ≤ sizeLine + 1; simp only [Array.size_append, List.size_toArray, List.length_nil]; omega))
  refine wpAny_pure ?_
  show wpAny (model prog w) A (do
      let o ← load s.heap.objs.size
      match o.data with
      | .seq xs _ => pure xs.toList
      | _ => unsupported "internal:collect") Q E { s with heap := (s.heap.push (seqObj "list" #[] 0)).update s.heap.objs.size (Obj.mapSeq (· ++ vs.toArray)) }
  refine wpAny_bind (wpAny_load (get?_update_seq (Heap.get?_push_size _ rfl) _) ?_)
  show wpAny _ _ (pure ((#[] : Array Value) ++ vs.toArray).toList) Q E _
  rw [show ((#[] : Array Value) ++ vs.toArray).toList = vs by simp]
  exact wpAny_pure h
theorem sorted_of_sortT {l : Addr} {vs : List Value} {Q : Value → Shared → Prop} (hl : ∃ o n, s.heap.get? l = some o ∧ o.cls = .type "tuple" ∧ o.data = .seq vs.toArray n) (hL : vs.length ≤ sizeLine)
    (body : ∀ E' : Value → Shared → Prop, wpAny (model prog w) A.in1.in1 (Builtin.«list.sort» ⟨[.ref (s.heap.objs.size + 1)], []⟩) (fun f s' => f = .done (.ret .none) ∧ Q (.ref (s.heap.objs.size + 1)) s') E' { s with heap := copyHeap s.heap vs }) :
    wpAny (model prog w) A (call (.builtin "sorted") [.ref l] []) Q E s := by
  refine call_function_entry_kw kind_sorted plain_sorted entry_sorted (args_sorted1 _) ?_
  unfold Builtin.«sorted»
  refine wpAny_bind (m := checkCount "sorted" 1 1 _) (wpAny_pure ?_)
  refine wpAny_bind (collect_tup hl ?_ hL)
  refine wpAny_bind (wpAny_newList ?_ hL)
  have hsz : ((s.heap.push (seqObj "list" #[] 0)).update s.heap.objs.size (Obj.mapSeq (· ++ vs.toArray))).objs.size = s.heap.objs.size + 1 := by
    rw [Heap.size_update, size_push']
  show wpAny _ _ _ _ _ { s with heap := copyHeap s.heap vs }
  rw [hsz]
  refine wpAny_bind (wpAny_holding (wpAny_call_entry_kw slot_list_sort ⟨_, copyHeap_at s.heap vs, rfl⟩ entry_list_sort ?body (args_list_sort _)))
  case body =>
    show wpAny (model prog w) A.in1.in1 (Builtin.«list.sort» ⟨[.ref (s.heap.objs.size + 1)], []⟩) _ _ _
    refine wpAny_mono (body _) (fun f s' hf => ?_) fun _ _ e => e
    obtain ⟨rfl, hq⟩ := hf
    exact ⟨_, rfl, wpAny_pure ⟨_, rfl, hq⟩⟩
theorem sorted_dataT {β : Type} {enc : β → PyData} {R : Value → β → Prop} {vs : List Value} {bs : List β} {l : Addr} {Q : Value → Shared → Prop} (hl : ∃ o n, s.heap.get? l = some o ∧ o.cls = .type "tuple" ∧ o.data = .seq vs.toArray n) (e : EachIs R vs bs) (er : EachIs (fun v b => ∃ as, Reads s.heap v (enc b) as) vs bs) (hal : AllAlike (bs.map enc)) (hk : Sortable (bs.map enc)) (hL : bs.length ≤ sizeLine)
    (hu : ∀ b, b ∈ bs → A.units + 2 + (enc b).depth < cLine) (h : ∀ out, out.length = bs.length → EachIs R out (bs.mergeSort (dataLe false enc)) → Q (.ref (s.heap.objs.size + 1)) { s with heap := sortedAll s.heap vs (List.toArray out) }) :
    wpAny (model prog w) A (call (.builtin "sorted") [.ref l]) Q E s := by
  have er' : EachIs (fun v b => ∃ as, Reads (sortingHeap (copyHeap s.heap vs) (s.heap.objs.size + 1) vs) v (enc b) as) vs bs := er.mono fun _ _ ⟨as, r⟩ => ⟨as, PyProof.Rows.Reads.keeps (fun _ _ => sorting_copy_old) r⟩
  refine sorted_of_sortT hl (by rw [e.length]; exact hL) fun _ => list_sort_vals (s := { s with heap := copyHeap s.heap vs }) (copyHeap_at s.heap vs) (SortsAt.data (s := { s with heap := sortingHeap (copyHeap s.heap vs) (s.heap.objs.size + 1) vs }) (each_map (R := fun v d => ∃ as, Reads (sortingHeap (copyHeap s.heap vs) (s.heap.objs.size + 1) vs) v d as) enc er') hal hk (bound_map hu)) (by rw [e.length]; exact hL) ⟨rfl, ?_⟩
  exact h _ (by rw [sortVals_length false rfl]; exact e.length) (sortVals_data false e er' hal)
end
def srt (rows : List (List Int)) : List (List Int) := rows.mergeSort fun p q => decide (p ≤ q)
def encP (r : List Int) : PyData := .tuple (r.map .int)
theorem dataLe_tups : dataLe false encP = fun p q => decide (p ≤ q) := by
  funext p q
  show (!dataLt (.tuple (q.map .int)) (.tuple (p.map .int))) = _
  rw [dataLt_tuple]
  show (!rowLt (q.map .int) (p.map .int)) = _
  rw [dataLt_ints]
  by_cases h : q < p
  · have h' : ¬ p ≤ q := fun r => List.not_lt.mpr r h
    simp [h, h']
  · have h' : p ≤ q := List.not_lt.mp h
    simp [h, h']
section
variable {X : Cx}
def rSortX (K : PySem.W.Frag) : List V → Hp → VK → Prop := fun vs H Q => ∃ (a : Addr) (xs : List V) (rows : List (List Int)) (Pr : V → List Int → Prop), vs = [.ref a] ∧ (SqL K H a xs ∨ SqT K H a xs) ∧ Paired Pr xs rows ∧ (∀ v r, Pr v r → (RT RI).r H v r) ∧ (∀ r ∈ rows, r ≠ []) ∧ rows.length ≤ sizeLine ∧
  ∀ p ys, H p = none → Paired Pr ys (srt rows) → Q (.ref p) (upd H p (.lst ys))
theorem each_of {Pr : V → List Int → Prop} : ∀ {xs : List V} {us : List Value} {rows : List (List Int)}, Paired Pr xs rows → Vals xs us → EachIs (fun u row => ∃ v, RelV v u ∧ Pr v row) us rows
  | _, _, _, .nil, .nil => .nil
  | _, _, _, .cons h t, .cons r q => .cons ⟨_, r, h⟩ (each_of t q)
theorem of_each {Pr : V → List Int → Prop} : ∀ {us : List Value} {rows : List (List Int)}, EachIs (fun u row => ∃ v, RelV v u ∧ Pr v row) us rows → ∃ xs, Vals xs us ∧ Paired Pr xs rows
  | _, _, .nil => ⟨[], .nil, .nil⟩
  | _, _, .cons ⟨v, r, h⟩ t => by
    obtain ⟨xs, h1, h2⟩ := of_each t
    exact ⟨v :: xs, .cons r h1, .cons h h2⟩
theorem depth_encP (r : List Int) : (encP r).depth ≤ 1 := by
  unfold encP
  rw [PyData.depth, depth_ints]
  exact Nat.le_refl _
theorem cr_sortedX (hu : X.A.units + 64 < cLine) : CallR X (.builtin "sorted") (rSortX X.K) := by
  intro pins s σ H vs us Q I r h
  obtain ⟨a, xs, rows, Pr, rfl, hq, p, hPr, hne, hz, q⟩ := h
  obtain ⟨u, rfl, rx⟩ := r.one
  cases rx
  have hal : AllAlike (rows.map encP) := AllAlike.of fun b b' => by
    unfold encP
    rw [alike, alike_ints]
  have hk : Sortable (rows.map encP) := .inl fun d hd => by
    obtain ⟨b, hb, rfl⟩ := List.mem_map.mp hd
    cases b with
    | nil => exact absurd rfl (hne _ hb)
    | cons x r => exact ⟨_, _, rfl⟩
  have hd : ∀ b, b ∈ rows → X.A.units + 2 + (encP b).depth < cLine := fun b _ => by
    have := depth_encP b
    omega
  have reads : ∀ {us : List Value}, EachIs (fun u row => ∃ v, RelV v u ∧ Pr v row) us rows → EachIs (fun v b => ∃ as, Reads s.heap v (encP b) as) us rows := fun e => e.mono fun u b ⟨v, r, h⟩ => by
    refine Dp.reads I _ v u ?_ r
    exact (dat_RT dat_RI).dp (K := X.K) (fun _ _ z => z) (hPr _ _ h)
  have fin : ∀ {vs out : List Value}, out.length = rows.length → EachIs (fun u row => ∃ v, RelV v u ∧ Pr v row) out (rows.mergeSort (dataLe false encP)) → EP X pins σ Q (.ref (s.heap.objs.size + 1)) { s with heap := sortedAll s.heap vs out.toArray } := fun {vs out} hl eo => by
    obtain ⟨ys, h1, h2⟩ := of_each eo
    rw [dataLe_tups] at h2
    obtain ⟨ep, he'⟩ := sortedAll_at s.heap vs out.toArray
    refine ⟨.ref _, upd H (s.heap.objs.size + 1) (.lst ys), I.laid (t' := s.toks) (fun _ _ => sortedAll_old) (Nat.le_succ _) ⟨?_, out, ep, h1, he'⟩, rfl, q _ ys (I.hok.fresh (Nat.le_succ _)) h2⟩
    rw [h1.length, hl]
    exact hz
  rcases hq with hq | hq
  · obtain ⟨its, rv, hl, _⟩ := I.list hq
    have e := each_of p rv
    exact sorted_data (enc := encP) hl.isList e (reads e) hal hk hz hd fun out h1 h2 => fin h1 h2
  · obtain ⟨its, rv, ⟨o, h1, h2, n, h3⟩, _⟩ := I.tuple hq
    have e := each_of p rv
    exact sorted_dataT (enc := encP) ⟨o, n, h1, h2, h3⟩ e (reads e) hal hk hz hd fun out h1 h2 => fin h1 h2
end
section
variable {Γ : Cn} {Δ Δ1 : Mn} {ta : TE} {K : PySem.W.Frag}
theorem en_sorted {rows : List (List Int)} (h : Ev ta Γ Δ (RS (RT RI)) rows Δ1) (hne : ∀ r ∈ rows, r ≠ []) (hz : rows.length ≤ 1000) : EvN (tCB (rSortX K) (tCons ta tNil)) Γ Δ (RT RI) (srt rows) Δ1 :=
  ⟨h.same, fun σ Hs H k Q q => h.run σ Hs H k _ fun v Hs1 H1 k1 s1 r1 => by
    obtain ⟨p, ys, rfl, e, pr, _⟩ := seq_of (K := K) k1.sub r1
    have hz' : rows.length ≤ sizeLine := Nat.le_of_lt (small1000 hz)
    refine ⟨p, ys, rows, (RT RI).r Hs1, rfl, e, pr, fun _ _ z => (RT RI).mono k1.sub z, hne, hz', fun l ws hl pw => ?_⟩
    have n : Nw Hs1 H1 Hs1 (upd H1 l (.lst ws)) := .drop k1.sub hl
    have hHl := back_none s1 hl
    exact q l ws _ _ (k1.nw n) (s1.trans n.stp) hHl (Same.free k1.sub hl) (fresh_adr k hHl) upd_same pw (by unfold srt; rw [List.length_mergeSort]; exact hz')⟩
end
end TL
set_option Elab.async false
set_option linter.all false
set_option maxRecDepth 100000
set_option maxHeartbeats 2000000
/-! zip over any two sources whose iterators are known: here a list beside a tuple -/
namespace ZM
open PySem PySem.Spec PyProof.Rows L2
/-- an iterator at `it` over `src`: A0 ahead of a step, A1 behind it; it gives x -/
structure Steps (P : Program) (w : World) (it src : Addr) (A0 A1 : Heap → Prop) (x : Value) : Prop where
  go : ∀ (A : Around) (E : Value → Shared → Prop) (s : Shared) (Q : Value → Shared → Prop), A0 s.heap → (∀ g, A1 g → Heap.SameBut it s.heap g → Q x { s with heap := g }) → wpAny (model P w) A (Builtin.SmallTypes.nextOf (.ref it)) Q E s
  far0 : ∀ (c : Addr) (h g : Heap), c ≠ it → c ≠ src → Heap.ExtBut c h g → A0 h → A0 g
  far1 : ∀ (c : Addr) (h g : Heap), c ≠ it → c ≠ src → Heap.ExtBut c h g → A1 h → A1 g
/-- .. it is at its end -/
structure Stops (P : Program) (w : World) (it src : Addr) (A0 : Heap → Prop) : Prop where
  go : ∀ (A : Around) (E : Value → Shared → Prop) (s : Shared) (Q : Value → Shared → Prop), A.handled = none → A0 s.heap → (∀ g e, Heap.ExtBut it s.heap g → (∃ o, g.get? e = some o ∧ o.cls = .type "StopIteration") → E (.ref e) { s with heap := g }) → wpAny (model P w) A (Builtin.SmallTypes.nextOf (.ref it)) Q E s
  far0 : ∀ (c : Addr) (h g : Heap), c ≠ it → c ≠ src → Heap.ExtBut c h g → A0 h → A0 g
section
variable {P : Program} {w : World} {A : Around} {E : Value → Shared → Prop} {s : Shared} {z tI tO i1 i2 l1 l2 : Addr} {a b x y : Value} {A0 A1 B0 B1 : Heap → Prop}
/-- the objects of a zip that lie apart, but for the zip's own pair -/
abbrev Off (z tO i1 i2 : Addr) (h g : Heap) : Prop := ∀ c o, c ≠ z → c ≠ tO → c ≠ i1 → c ≠ i2 → h.get? c = some o → g.get? c = some o
theorem next_item (D : ZipApart z tI tO i1 i2 l1 l2) (hz : IsZip s.heap z tI tO .none) (hI : IsPair s.heap tI (.ref i1) (.ref i2)) (hO : IsPair s.heap tO a b) (S1 : Steps P w i1 l1 A0 A1 x) (S2 : Steps P w i2 l2 B0 B1 y) (p1 : A0 s.heap) (p2 : B0 s.heap)
    {Q : Value → Shared → Prop} (q : ∀ g, IsZip g z tI tO (rawInt s.heap.objs.size) → IsPair g tO x y → A1 g → B1 g → IsPair g s.heap.objs.size x y → g.objs.size = s.heap.objs.size + 1 → Off z tO i1 i2 s.heap g → Q (.ref s.heap.objs.size) { s with heap := g }) :
    wpAny (model P w) A (Builtin.«zip.__next__» ⟨[.ref z], []⟩) (fun fin s' => ∃ v, fin = .done (.ret v) ∧ Q v s') E s := by
  show wpAny _ _ (field (.ref z) 2 >>= _) _ _ _
  refine wpAny_bind (wpAny_field hz rfl (x := .bool false) rfl ?_)
  show wpAny _ _ (field (.ref z) 3 >>= _) _ _ _
  refine wpAny_bind (wpAny_field hz rfl (x := .ref tI) rfl (wpAny_bind (wpAny_seqItems hI rfl ?_)))
  show wpAny _ _ (Builtin.SmallTypes.ownedTupleIsFree (.ref z) >>= _) _ _ _
  refine wpAny_bind ?_
  unfold Builtin.SmallTypes.ownedTupleIsFree
  refine wpAny_bind (wpAny_field hz rfl (x := .none) rfl (wpAny_pure ?_))
  simp only [if_true]
  refine wpAny_bind (wpAny_rule (wpAny_bind (wpAny_field hz rfl (x := .ref tO) rfl (wpAny_bind (wpAny_setField_rec hz (by simp) fun g1 z1 e1 => ?_)))))
  replace z1 : IsZip g1 z tI tO .ellipsis := z1
  refine wpAny_bind ?_
  simp only [List.zipIdx_cons, List.zipIdx_nil, List.forIn_cons, List.forIn_nil]
  refine wpAny_bind (wpAny_bind (wpAny_onRaise ?_))
  show wpAny _ _ (Builtin.SmallTypes.nextOf (.ref i1) >>= _) _ _ _
  refine wpAny_bind (S1.go _ _ { s with heap := g1 } _ (S1.far0 z _ _ D.i1z.symm D.l1z.symm e1.extBut p1) fun g2 q2 e2 => wpAny_pure ?_)
  have o2 : IsPair g2 tO a b := e2.extBut _ _ D.TOi1 (e1.extBut _ _ D.TOz hO)
  refine wpAny_bind (wpAny_seqItems o2 rfl (wpAny_bind (wpAny_updateSeq_pair o2 fun g3 o3 e3 => ?_)))
  replace o3 : IsPair g3 tO x b := o3
  refine wpAny_bind (wpAny_letGo (wpAny_pure ?_))
  refine wpAny_bind (wpAny_bind (wpAny_onRaise ?_))
  show wpAny _ _ (Builtin.SmallTypes.nextOf (.ref i2) >>= _) _ _ _
  have b3 : B0 g3 := S2.far0 tO _ _ D.TOi2 D.l2TO.symm e3.extBut (S2.far0 i1 _ _ D.i12 D.l2i1.symm e2.extBut (S2.far0 z _ _ D.i2z.symm D.l2z.symm e1.extBut p2))
  refine wpAny_bind (S2.go _ _ { s with heap := g3 } _ b3 fun g4 q4 e4 => wpAny_pure ?_)
  have o4 : IsPair g4 tO x b := e4.extBut _ _ D.TOi2 o3
  refine wpAny_bind (wpAny_seqItems o4 rfl (wpAny_bind (wpAny_updateSeq_pair o4 fun g5 o5 e5 => ?_)))
  replace o5 : IsPair g5 tO x y := o5
  refine wpAny_bind (wpAny_letGo (wpAny_pure (wpAny_pure (wpAny_bind (wpAny_seqItems o5 rfl (wpAny_bind (wpAny_newTuple ?_)))))))
  have sz : g5.objs.size = s.heap.objs.size := by rw [e5.1, e4.1, e3.1, e2.1, e1.1]
  have z5 : IsZip g5 z tI tO .ellipsis := e5.extBut _ _ D.TOz.symm (e4.extBut _ _ D.i2z.symm (e3.extBut _ _ D.TOz.symm (e2.extBut _ _ D.i1z.symm z1)))
  have off5 : Off z tO i1 i2 s.heap g5 := fun c o c1 c2 c3 c4 e => e5.extBut _ _ c2 (e4.extBut _ _ c4 (e3.extBut _ _ c2 (e2.extBut _ _ c3 (e1.extBut _ _ c1 e))))
  have a5 : A1 g5 := S1.far1 tO _ _ D.TOi1 D.l1TO.symm e5.extBut (S1.far1 i2 _ _ D.i12.symm D.l1i2.symm e4.extBut (S1.far1 tO _ _ D.TOi1 D.l1TO.symm e3.extBut q2))
  have b5 : B1 g5 := S2.far1 tO _ _ D.TOi2 D.l2TO.symm e5.extBut q4
  have zlt : z < g5.objs.size := Heap.lt_size z5
  show wpAny _ _ (Builtin.SmallTypes.ownedTupleHandOut (.ref z) (.ref g5.objs.size) >>= _) _ _ _
  refine wpAny_bind ?_
  unfold Builtin.SmallTypes.ownedTupleHandOut
  have z6 : IsZip (g5.push { cls := .type "tuple", data := .seq #[x, y] }) z tI tO .ellipsis := Heap.get?_push_of_some _ z5
  refine wpAny_bind (wpAny_setField_rec z6 (by simp) fun g7 z7 e7 => ?_)
  replace z7 : IsZip g7 z tI tO (rawInt g5.objs.size) := z7
  refine wpAny_setField_rec z7 (by simp) fun g8 z8 e8 => ?_
  replace z8 : IsZip g8 z tI tO (rawInt g5.objs.size) := z8
  have lift : Heap.ExtBut z g5 g8 := fun c o c1 e => e8.extBut _ _ c1 (e7.extBut _ _ c1 (Heap.get?_push_of_some _ e))
  have t8 : IsPair g8 g5.objs.size x y := e8.extBut _ _ (Nat.ne_of_gt zlt) (e7.extBut _ _ (Nat.ne_of_gt zlt) (Heap.get?_push_size _ rfl))
  have s8 : g8.objs.size = g5.objs.size + 1 := by rw [e8.1, e7.1, Heap.size_push]
  rw [sz] at z8 t8 s8
  refine wpAny_pure ⟨_, rfl, ?_⟩
  show Q (.ref g5.objs.size) _
  rw [sz]
  exact q g8 z8 (lift _ _ D.TOz o5) (S1.far1 z _ _ D.i1z.symm D.l1z.symm lift a5) (S2.far1 z _ _ D.i2z.symm D.l2z.symm lift b5) t8 s8 fun c o c1 c2 c3 c4 e => lift c o c1 (off5 c o c1 c2 c3 c4 e)
/-- the first source is at its end -/
theorem next_end (hh : A.handled = none) (D : ZipApart z tI tO i1 i2 l1 l2) (hz : IsZip s.heap z tI tO .none) (hI : IsPair s.heap tI (.ref i1) (.ref i2)) (S1 : Stops P w i1 l1 A0) (p1 : A0 s.heap)
    {Q : Fin → Shared → Prop} (q : ∀ g e, Off z tO i1 i2 s.heap g → (∃ o, g.get? e = some o ∧ o.cls = .type "StopIteration") → E (.ref e) { s with heap := g }) :
    wpAny (model P w) A (Builtin.«zip.__next__» ⟨[.ref z], []⟩) Q E s := by
  show wpAny _ _ (field (.ref z) 2 >>= _) _ _ _
  refine wpAny_bind (wpAny_field hz rfl (x := .bool false) rfl ?_)
  show wpAny _ _ (field (.ref z) 3 >>= _) _ _ _
  refine wpAny_bind (wpAny_field hz rfl (x := .ref tI) rfl (wpAny_bind (wpAny_seqItems hI rfl ?_)))
  show wpAny _ _ (Builtin.SmallTypes.ownedTupleIsFree (.ref z) >>= _) _ _ _
  refine wpAny_bind ?_
  unfold Builtin.SmallTypes.ownedTupleIsFree
  refine wpAny_bind (wpAny_field hz rfl (x := .none) rfl (wpAny_pure ?_))
  simp only [if_true]
  refine wpAny_bind (wpAny_rule (wpAny_bind (wpAny_field hz rfl (x := .ref tO) rfl (wpAny_bind (wpAny_setField_rec hz (by simp) fun g1 z1 e1 => ?_)))))
  replace z1 : IsZip g1 z tI tO .ellipsis := z1
  refine wpAny_bind ?_
  simp only [List.zipIdx_cons, List.zipIdx_nil, List.forIn_cons, List.forIn_nil]
  refine wpAny_bind (wpAny_bind (wpAny_onRaise ?_))
  show wpAny _ _ (Builtin.SmallTypes.nextOf (.ref i1) >>= _) _ _ _
  refine wpAny_bind (S1.go _ _ { s with heap := g1 } _ hh (S1.far0 z _ _ D.i1z.symm D.l1z.symm e1.extBut p1) fun g2 e x2 he => ?_)
  obtain ⟨oe, h1, h2⟩ := he
  have z2 : IsZip g2 z tI tO .ellipsis := x2 _ _ D.i1z.symm z1
  have ez : e ≠ z := fun k => by rw [k, z2] at h1; cases h1; simp at h2
  exact wpAny_setField_rec z2 (by simp) fun g3 _ e3 => q g3 e (fun c o c1 _ c3 _ k => e3.extBut _ _ c1 (x2 _ _ c3 (e1.extBut _ _ c1 k))) ⟨oe, e3.extBut _ _ ez h1, h2⟩
theorem pyNext_item (D : ZipApart z tI tO i1 i2 l1 l2) (hz : IsZip s.heap z tI tO .none) (hI : IsPair s.heap tI (.ref i1) (.ref i2)) (hO : IsPair s.heap tO a b) (S1 : Steps P w i1 l1 A0 A1 x) (S2 : Steps P w i2 l2 B0 B1 y) (p1 : A0 s.heap) (p2 : B0 s.heap)
    {Q : Option Value → Shared → Prop} (q : ∀ g, IsZip g z tI tO (rawInt s.heap.objs.size) → IsPair g tO x y → A1 g → B1 g → IsPair g s.heap.objs.size x y → g.objs.size = s.heap.objs.size + 1 → Off z tO i1 i2 s.heap g → Q (some (.ref s.heap.objs.size)) { s with heap := g }) :
    wpAny (model P w) A (pyNext (.ref z)) Q E s := by
  have ty : s.TypeIs (.ref z) "zip" := ⟨_, hz, rfl⟩
  unfold pyNext
  exact wpAny_bind (wpAny_attempt (wpAny_callSpecial?_slot (name := Str.ofString "__next__") ty PySem.F.slot_zip_next (wpAny_call_entry PySem.F.slot_zip_next ty PySem.F.entry_zip_next
    (next_item D hz hI hO S1 S2 p1 p2 fun g r1 r2 r3 r4 r5 r6 r7 => wpAny_pure (q g r1 r2 r3 r4 r5 r6 r7)) (PySem.F.args_zip_next_1 _))))
theorem pyNext_end (hh : A.handled = none) (D : ZipApart z tI tO i1 i2 l1 l2) (hz : IsZip s.heap z tI tO .none) (hI : IsPair s.heap tI (.ref i1) (.ref i2)) (S1 : Stops P w i1 l1 A0) (p1 : A0 s.heap)
    {Q : Option Value → Shared → Prop} (q : ∀ g, Off z tO i1 i2 s.heap g → Q none { s with heap := g }) : wpAny (model P w) A (pyNext (.ref z)) Q E s := by
  have ty : s.TypeIs (.ref z) "zip" := ⟨_, hz, rfl⟩
  unfold pyNext
  refine wpAny_bind (wpAny_attempt (wpAny_callSpecial?_slot (name := Str.ofString "__next__") ty PySem.F.slot_zip_next (wpAny_call_entry PySem.F.slot_zip_next ty PySem.F.entry_zip_next
    (next_end (A := A.in1) hh D hz hI S1 p1 fun g e k he => ?_) (PySem.F.args_zip_next_1 _))))
  obtain ⟨o, h1, h2⟩ := he
  exact wpAny_bind (wpAny_isInstance (T := "StopIteration") (b := true) ⟨o, h1, h2⟩ isSubtype_stop (wpAny_pure (q _ k)))
/-! the two kinds of sources -/
theorem list_steps {it l : Addr} {k : Nat} {xs : Array Value} (hx : xs[k]? = some x) : Steps P w it l (fun h => h.IsListIter it l k ∧ h.IsList l xs) (fun h => h.IsListIter it l (k + 1)) x where
  go := fun A E s Q p q => wpAny_nextOf_list_item p.1 p.2 hx q
  far0 := fun c h g c1 c2 e p => ⟨p.1.extBut e c1.symm, p.2.extBut e c2.symm⟩
  far1 := fun c h g c1 c2 e p => p.extBut e c1.symm
theorem list_stops {it l : Addr} {k : Nat} {xs : Array Value} (hx : xs[k]? = none) : Stops P w it l (fun h => h.IsListIter it l k ∧ h.IsList l xs) where
  go := fun A E s Q hh p q => wpAny_nextOf_list_end hh p.1 p.2 hx q
  far0 := fun c h g c1 c2 e p => ⟨p.1.extBut e c1.symm, p.2.extBut e c2.symm⟩
theorem tup_steps {it l : Addr} {k : Nat} {xs : Array Value} (hx : xs[k]? = some x) : Steps P w it l (fun h => h.IsTupleIter it l k ∧ h.IsTuple l xs) (fun h => h.IsTupleIter it l (k + 1)) x where
  go := fun A E s Q p q => RZ.nextOf_tuple_item p.1 p.2 hx q
  far0 := fun c h g c1 c2 e p => ⟨p.1.extBut e c1.symm, p.2.extBut e c2.symm⟩
  far1 := fun c h g c1 c2 e p => p.extBut e c1.symm
/-! made of a list and a tuple -/
abbrev j1 (h : Heap) (a : Addr) : Heap := h.push { cls := .type "list_iterator", data := .fields #[.ref a, .int 0 0] }
abbrev j2 (h : Heap) (a b : Addr) : Heap := (j1 h a).push { cls := .type "tuple_iterator", data := .fields #[.ref b, .int 0 0] }
abbrev j3 (h : Heap) (a b : Addr) : Heap := (j2 h a b).push { cls := .type "tuple", data := .seq #[.ref h.objs.size, .ref (j1 h a).objs.size] }
abbrev j4 (h : Heap) (a b : Addr) : Heap := (j3 h a b).push { cls := .type "tuple", data := .seq #[.none, .none] }
abbrev j5 (h : Heap) (a b : Addr) : Heap := (j4 h a b).push { cls := .type "zip", data := .fields #[.none, .bool false, .bool false, .ref (j2 h a b).objs.size, .ref (j3 h a b).objs.size] }
theorem meets_mix (a b : Addr) (xs ys : Array Value) :
    Meets (Builtin.«zip.__new__» ⟨[.type "zip", .ref a, .ref b], []⟩) (fun _ R s => s.heap.IsList a xs ∧ s.heap.IsTuple b ys ∧ R (.ok (.ret (.ref (j4 s.heap a b).objs.size))) { s with heap := j5 s.heap a b }) :=
  .of_wp fun prog w A R s h => by
    obtain ⟨hp, g, d, tk, os⟩ := s
    obtain ⟨la, lb, h⟩ := h
    have hsub := sub_zip
    have La : Heap.IsList (Shared.heap ⟨hp, g, d, tk, os⟩) a xs := la
    have Lb : Heap.IsTuple (Shared.heap ⟨hp.push { cls := .type "list_iterator", data := .fields #[.ref a, .int 0 0] }, g, d, tk, os⟩) b ys := Heap.IsTuple.push lb _
    wp_walk using wpAny_pyIter_list La, wpAny_pyIter_tuple Lb
    exact ⟨_, rfl, h⟩
theorem call_mix {l1 l2 : Addr} {xs ys : Array Value} {Q : Value → Shared → Prop} (h1 : s.heap.IsList l1 xs) (h2 : s.heap.IsTuple l2 ys)
    (q : ∀ g, IsZip g (s.heap.objs.size + 4) (s.heap.objs.size + 2) (s.heap.objs.size + 3) .none → IsPair g (s.heap.objs.size + 2) (.ref s.heap.objs.size) (.ref (s.heap.objs.size + 1)) →
      IsPair g (s.heap.objs.size + 3) .none .none → g.IsListIter s.heap.objs.size l1 0 → g.IsTupleIter (s.heap.objs.size + 1) l2 0 → (∀ c o, s.heap.get? c = some o → g.get? c = some o) → Q (.ref (s.heap.objs.size + 4)) { s with heap := g }) :
    wpAny (model P w) A (call (.type "zip") [.ref l1, .ref l2]) Q E s := by
  refine callType_new PySem.F.called_zip (by decide) (PySem.F.typeCall_zip_2 _ _) (PySem.F.newCall_zip_2 _ _) (fun obj => PySem.F.args_object_init_3 obj _ _) PySem.F.entry_zip_new (meets_mix l1 l2 xs ys) ⟨h1, h2, ?_⟩
  have n1 : (j1 s.heap l1).objs.size = s.heap.objs.size + 1 := Heap.size_push ..
  have n2 : (j2 s.heap l1 l2).objs.size = s.heap.objs.size + 2 := by rw [Heap.size_push, n1]
  have n3 : (j3 s.heap l1 l2).objs.size = s.heap.objs.size + 3 := by rw [Heap.size_push, n2]
  have n4 : (j4 s.heap l1 l2).objs.size = s.heap.objs.size + 4 := by rw [Heap.size_push, n3]
  have o5 : (j5 s.heap l1 l2).get? (j4 s.heap l1 l2).objs.size = some _ := Heap.get?_push_size _ rfl
  have u4 : ∀ {c o}, (j4 s.heap l1 l2).get? c = some o → (j5 s.heap l1 l2).get? c = some o := fun e => Heap.get?_push_of_some _ e
  have u3 : ∀ {c o}, (j3 s.heap l1 l2).get? c = some o → (j5 s.heap l1 l2).get? c = some o := fun e => u4 (Heap.get?_push_of_some _ e)
  have u2 : ∀ {c o}, (j2 s.heap l1 l2).get? c = some o → (j5 s.heap l1 l2).get? c = some o := fun e => u3 (Heap.get?_push_of_some _ e)
  have u1 : ∀ {c o}, (j1 s.heap l1).get? c = some o → (j5 s.heap l1 l2).get? c = some o := fun e => u2 (Heap.get?_push_of_some _ e)
  have o4 : (j5 s.heap l1 l2).get? (j3 s.heap l1 l2).objs.size = some _ := u4 (Heap.get?_push_size _ rfl)
  have o3 : (j5 s.heap l1 l2).get? (j2 s.heap l1 l2).objs.size = some _ := u3 (Heap.get?_push_size _ rfl)
  have o2 : (j5 s.heap l1 l2).get? (j1 s.heap l1).objs.size = some _ := u2 (Heap.get?_push_size _ rfl)
  have o1 : (j5 s.heap l1 l2).get? s.heap.objs.size = some _ := u1 (Heap.get?_push_size _ rfl)
  show _ ∧ _
  rw [n2, n3, n4] at o5
  rw [n1, n2] at o3
  rw [n3] at o4
  rw [n1] at o2
  rw [n4]
  exact ⟨⟨_, o5, rfl⟩, q _ o5 o3 o4 ⟨_, o1, rfl, rfl⟩ ⟨_, o2, rfl, rfl⟩ fun c o e => u1 (Heap.get?_push_of_some _ e)⟩
end
/-! over the layer -/
def ItzM (K : PySem.W.Frag) (a b : Addr) : It :=
  ⟨fun i H => ∃ (xs ys : List V) (x y : V), SqL K H a xs ∧ SqT K H b ys ∧ xs[i]? = some x ∧ ys[i]? = some y,
    fun i H v H' => ∃ T x y, v = .ref T ∧ H T = none ∧ H' = upd H T (.tup [x, y]) ∧ (∀ xs, SqL K H a xs → xs[i]? = some x) ∧ ∀ ys, SqT K H b ys → ys[i]? = some y,
    fun i H => ∃ xs : List V, SqL K H a xs ∧ xs.length ≤ i⟩
theorem turn_mix {P : Program} {w : World} {K : PySem.W.Frag} {elts : List Expr} {kk : Nat} {tpos : Pos} {a b z tI tO i1 i2 : Addr} (D : ZipApart z tI tO i1 i2 a b) :
    Turn P w K (.Tuple elts kk tpos) (ItzM K a b) [z, tI, tO, i1, i2] z (fun i h => IsZip h z tI tO .none ∧ IsPair h tI (.ref i1) (.ref i2) ∧ (∃ x y, IsPair h tO x y) ∧ h.IsListIter i1 a i ∧ h.IsTupleIter i2 b i) where
  mem := by simp
  obj := fun i h st c hc => by
    obtain ⟨hz, hI, ⟨x, y, hO⟩, ⟨o1, e1, _, d1⟩, ⟨o2, e2, _, d2⟩⟩ := st
    simp only [List.mem_cons, List.not_mem_nil, or_false] at hc
    rcases hc with q | q | q | q | q
    · rw [q]; exact ⟨_, hz, fun v q => nomatch q⟩
    · rw [q]; exact ⟨_, hI, fun v q => nomatch q⟩
    · rw [q]; exact ⟨_, hO, fun v q => nomatch q⟩
    · exact ⟨o1, by rw [q]; exact e1, fun v q => by rw [d1] at q; cases q⟩
    · exact ⟨o2, by rw [q]; exact e2, fun v q => by rw [d2] at q; cases q⟩
  keep := fun i h h' st k => by
    obtain ⟨hz, hI, ⟨x, y, hO⟩, h1, h2⟩ := st
    exact ⟨k z (by simp) _ hz, k tI (by simp) _ hI, ⟨x, y, k tO (by simp) _ hO⟩, h1.at fun o q => k i1 (by simp) o q, h2.at fun o q => k i2 (by simp) o q⟩
  item := by
    intro X hP hw hK hc i pins s σ H E I hf st hg
    subst hP hw hK
    obtain ⟨hz, hI, ⟨x0, y0, hO⟩, h1, h2⟩ := st
    obtain ⟨xs, ys, x, y, qx, qy, hx, hy⟩ := hg
    obtain ⟨its, rv, p, _⟩ := I.list qx
    obtain ⟨its2, rv2, p2, _⟩ := I.tuple qy
    obtain ⟨u, hu, ru⟩ := rv.get hx
    obtain ⟨u2, hu2, ru2⟩ := rv2.get hy
    have zl : z < s.heap.objs.size := Heap.lt_size hz
    have low : ∀ c ∈ [z, tI, tO, i1, i2], c < s.heap.objs.size := fun c hm => by
      obtain ⟨o1, e1, _⟩ := id h1
      obtain ⟨o2, e2, _⟩ := id h2
      simp only [List.mem_cons, List.not_mem_nil, or_false] at hm
      rcases hm with q | q | q | q | q
      · rw [q]; exact zl
      · rw [q]; exact Heap.lt_size hI
      · rw [q]; exact Heap.lt_size hO
      · rw [q]; exact Heap.lt_size e1
      · rw [q]; exact Heap.lt_size e2
    refine pyNext_item D hz hI hO (list_steps (x := u) (xs := its.toArray) (by simpa using hu)) (tup_steps (x := u2) (xs := its2.toArray) (by simpa using hu2)) ⟨h1, p.isList⟩ ⟨h2, show s.heap.IsTuple b its2.toArray from p2⟩ fun g z' O' r1 r2 T' _ off => ?_
    refine ⟨_, rfl, wpAny_letOwnedTupleGo_zip (s := { s with heap := g }) z' fun g' z'' sb => ?_⟩
    have T2 : g'.get? s.heap.objs.size = some { cls := .type "tuple", data := .seq #[u, u2] } := (sb.2 _ (Nat.ne_of_gt zl)).trans T'
    have new : ObjOk X.prog X.w (upd H s.heap.objs.size (.tup [x, y])) g' s.heap.objs.size (.tup [x, y]) :=
      ⟨by show 2 ≤ sizeLine; decide, [u, u2], .cons ru (.cons ru2 .nil), ⟨_, T2, rfl, _, rfl⟩⟩
    have I1 : Inv X pins σ (upd H s.heap.objs.size (.tup [x, y])) { s with heap := g' } :=
      I.turnedNew (t' := s.toks) (ch := [z, tI, tO, i1, i2]) (fun c o hb q => by
        simp only [List.mem_cons, List.not_mem_nil, or_false, not_or] at hb
        exact (sb.2 c hb.1).trans (off c o hb.1 hb.2.2.1 hb.2.2.2.1 hb.2.2.2.2 q)) hf (Nat.le_refl _) new
    refine ⟨.ref s.heap.objs.size, _, I1, rfl, ⟨_, x, y, rfl, I.hok.fresh (Nat.le_refl _), rfl, fun l hl => by rw [I.list_inj hl qx]; exact hx, fun l hl => by rw [I.tuple_inj hl qy]; exact hy⟩, ⟨z'', ?_, ⟨u, u2, ?_⟩, ?_, ?_⟩, fun c hm => ?_⟩
    · exact (sb.2 _ D.TIz).trans (off _ _ D.TIz D.TITO D.TIi1 D.TIi2 hI)
    · exact (sb.2 _ D.TOz).trans O'
    · exact r1.at fun o q => (sb.2 _ D.i1z).trans q
    · exact r2.at fun o q => (sb.2 _ D.i2z).trans q
    · rw [upd_ne (Nat.ne_of_lt (low c hm))]
      exact (hf c hm).1
  done := by
    intro X hP hw hK hc i pins s σ H E I hf st hg
    subst hP hw hK
    obtain ⟨hz, hI, ⟨x0, y0, hO⟩, h1, h2⟩ := st
    obtain ⟨xs, qx, hend⟩ := hg
    obtain ⟨its, rv, p, _⟩ := I.list qx
    have l1 := rv.length
    refine pyNext_end (I.ok.hd hc) D hz hI (list_stops (xs := its.toArray) (by simp; omega)) ⟨h1, p.isList⟩ fun g off => ⟨rfl, I.turnedL (t' := s.toks) (ch := [z, tI, tO, i1, i2]) (fun c o hb q => ?_) hf⟩
    simp only [List.mem_cons, List.not_mem_nil, or_false, not_or] at hb
    exact off c o hb.1 hb.2.2.1 hb.2.2.2.1 hb.2.2.2.2 q
  self := fun A i s Q E st h => wpAny_pyIter_zip st.1 h
def iZipM (K : PySem.W.Frag) (ta : TA) : TI := fun σ H R => ta σ H fun vs H1 => ∃ a b xs ys, vs = [.ref a, .ref b] ∧ SqL K H1 a xs ∧ SqT K H1 b ys ∧ R (ItzM K a b) H1
theorem pi_zipM {X : Cx} {e e2 : Expr} {ta : TA} {p pos tpos : Pos} {elts : List Expr} {kk : Nat} (hg : Gl X "zip") (hm : X.mg "zip" = none) (ha : PA X [e, e2] ta)
    (hs : starEach [e, e2] X.env = (false, eval e X.env) :: starEach [e2] X.env := by rfl) (hpl : (backTo pos (starEach [e2] X.env)).any (·.1) = false := by rfl) :
    PI X (.Tuple elts kk tpos) (.Call (.Name "zip" p) [e, e2] [] pos) (iZipM X.K ta) := by
  refine ⟨fun pins s σ H R I h => ?_⟩
  refine Call_ (ld_blt I hg hm PyProof.Rows.boot_zip (PyProof.Rows.callWith_type1 (thn (ha.run pos pins s σ H _ I h) fun us s1 ⟨vs, H1, I1, r1, q1⟩ => ?_) hs hpl))
  obtain ⟨a, b, xs, ys, ex, qx, qy, q⟩ := q1
  subst ex
  cases r1 with
  | cons r rr =>
    cases rr with
    | cons r' rr =>
      cases rr
      cases r
      cases r'
      have fresh5 : ∀ c ∈ [s1.heap.objs.size + 4, s1.heap.objs.size + 2, s1.heap.objs.size + 3, s1.heap.objs.size, s1.heap.objs.size + 1], FpOk X pins H1 c := fun c hcm => by
        simp only [List.mem_cons, List.not_mem_nil, or_false] at hcm
        have hle : s1.heap.objs.size ≤ c := by
          rcases hcm with z | z | z | z | z <;> rw [z]
          · exact Nat.le_add_right _ _
          · exact Nat.le_add_right _ _
          · exact Nat.le_add_right _ _
          · exact Nat.le_refl _
          · exact Nat.le_add_right _ _
        exact I1.fpOk hle (I1.hok.fresh hle)
      obtain ⟨its, rv, p1, _⟩ := I1.list qx
      obtain ⟨its2, rv2, p2, _⟩ := I1.tuple qy
      obtain ⟨o2, ho2, _⟩ := id p2
      refine call_mix p1.isList (show s1.heap.IsTuple b its2.toArray from p2) fun g hz hI hO h1 h2 hk => wpAny_pyIter_zip hz ?_
      have I2 : Inv X pins σ H1 { s1 with heap := g } := I1.kept (t' := s1.toks) hk
      exact ⟨s1.heap.objs.size + 4, [s1.heap.objs.size + 4, s1.heap.objs.size + 2, s1.heap.objs.size + 3, s1.heap.objs.size, s1.heap.objs.size + 1], _, _, H1, rfl, I2, turn_mix (PySem.W.ktu_apart s1.heap.objs.size a b p1.lt (Heap.lt_size ho2)), ⟨hz, hI, ⟨_, _, hO⟩, h1, h2⟩, fresh5, q⟩
theorem walk_mix {K : PySem.W.Frag} {a b : Addr} {xs ys : List V} {n : Nat} (hn : n = xs.length) (hl : xs.length ≤ ys.length) : L2.Walk (ItzM K a b) n (fun H => SqL K H a xs ∧ SqT K H b ys) (YPair (fun i => xs[i]?) (fun i => ys[i]?)) := by
  subst hn
  refine ⟨fun i _ hi q => ⟨xs, ys, xs[i], ys[i]'(by omega), q.1, q.2, by simp [hi], by simp [show i < ys.length by omega]⟩, fun _ q => ⟨xs, q.1, Nat.le_refl _⟩, fun i H v H' _ q y => ?_⟩
  obtain ⟨T, x, z, h1, h2, h3, h4, h5⟩ := y
  exact ⟨T, x, z, h1, h2, h3, h4 xs q.1, h5 ys q.2⟩
end ZM
namespace TL
open PySem PySem.Spec PyProof.Rows L2
theorem ei_zipM {α β : Type} {Γ : Cn} {Δ : Mn} {R : Rl α} {S : Rl β} {ta tb : TE} {K : PySem.W.Frag} {j1 j2 : Nat} {xs : List α} {ys : List β} (h : EvA (tCons ta (tCons tb tNil)) Γ Δ [⟨_, RL R, xs⟩, ⟨_, RT S, ys⟩] Δ) (hle : xs.length ≤ ys.length) (h1 : j1 < Γ.length := by exact lt_by rfl) (h2 : j2 < Γ.length := by exact lt_by rfl) : EvI (ZM.iZipM K (tCons ta (tCons tb tNil))) (gTup K 2 (gCons (gName j1) (gCons (gName j2) gNil))) [j1, j2] Γ Δ xs.length (fun i Γ1 => (Γ1.set j1 (itS R xs i)).set j2 (itS S ys i)) where
  len := fun _ _ => by simp
  run := fun σ Hs H k Q q => h.run σ Hs H k _ fun ws Hs' H' k' s r => by
    cases r with
    | cons h r =>
      cases r with
      | cons h' r =>
        cases r
        obtain ⟨a, vs, rfl, e1, p, _⟩ := h
        obtain ⟨b, us, rfl, e1', p', _⟩ := h'
        refine ⟨a, b, vs, us, rfl, SqL.of (k'.sub _ _ e1), SqT.of (k'.sub _ _ e1'), q _ Hs' H' (fun H => SqL K H a vs ∧ SqT K H b us) _ k' s (ZM.walk_mix (by rw [pair_len p]) (by rw [pair_len p, pair_len p']; exact hle)) (fun H'' hs => ⟨SqL.of (hs _ _ e1), SqT.of (hs _ _ e1')⟩) fun i H1 v H2 Hs1 σ1 Γ1 Δ1 hi y hs hl k1 Q1 q1 => ?_⟩
        obtain ⟨T, x, z, rfl, hT, e2, e3, e4⟩ := y
        exact two_slots k1 hT e2 (by rw [hl]; exact h1) (by rw [hl]; exact h2) (itS_rel (pair_mono (fun _ _ z => R.mono hs z) p) e3) (itS_rel (pair_mono (fun _ _ z => S.mono hs z) p') e4) q1
end TL
set_option Elab.async false
set_option linter.all false
set_option maxRecDepth 100000
set_option maxHeartbeats 2000000
/-! the typed layer: dicts -/
namespace TL
open PySem PySem.Spec PyProof.Rows L2
variable {β : Type}
def lookK (kvs : List (KK × β)) (k : KK) : Option β := (kvs.find? fun p => decide (p.1 = k)).map (·.2)
def putK (kvs : List (KK × β)) (k : KK) (x : β) : List (KK × β) := if (lookK kvs k).isSome then kvs.map (fun p => if p.1 = k then (p.1, x) else p) else kvs ++ [(k, x)]
def dropK (kvs : List (KK × β)) (k : KK) : List (KK × β) := kvs.filter fun p => decide (p.1 ≠ k)
def DRel (F : V → β → Prop) (e : KK × Addr × V) (kv : KK × β) : Prop := e.1 = kv.1 ∧ F e.2.2 kv.2
theorem drel_look {F : V → β → Prop} {es : DEs} {kvs : List (KK × β)} (p : Paired (DRel F) es kvs) (k : KK) : (lookE es k = none ∧ lookK kvs k = none) ∨ ∃ v x, lookE es k = some v ∧ lookK kvs k = some x ∧ F v x := by
  induction p with
  | nil => exact .inl ⟨rfl, rfl⟩
  | @cons e kv es kvs h t ih =>
    by_cases q : e.1 = k
    · refine .inr ⟨e.2.2, kv.2, by simp [lookE, q], by simp [lookK, ← h.1, q], h.2⟩
    · have q' : ¬ kv.1 = k := fun z => q (h.1.trans z)
      rw [show lookE (e :: es) k = lookE es k by simp [lookE, q], show lookK (kv :: kvs) k = lookK kvs k by simp [lookK, q']]
      exact ih
theorem drel_put {F : V → β → Prop} {es : DEs} {kvs : List (KK × β)} (p : Paired (DRel F) es kvs) (k : KK) (b : Addr) {v : V} {x : β} (r : F v x) : Paired (DRel F) (putE es k b v) (putK kvs k x) := by
  have hm : Paired (DRel F) (es.map (fun e => if e.1 = k then (e.1, e.2.1, v) else e)) (kvs.map (fun p => if p.1 = k then (p.1, x) else p)) := by
    induction p with
    | nil => exact .nil
    | @cons e kv es kvs h t ih =>
      refine .cons ?_ ih
      dsimp only
      by_cases q : e.1 = k
      · rw [if_pos q, if_pos (h.1.symm.trans q)]
        exact ⟨h.1, r⟩
      · rw [if_neg q, if_neg fun z => q (h.1.trans z)]
        exact h
  unfold putE putK
  rcases drel_look p k with ⟨e1, e2⟩ | ⟨w, y, e1, e2, _⟩
  · rw [e1, e2]
    exact pair_app p (.cons ⟨rfl, r⟩ .nil)
  · rw [e1, e2]
    exact hm
theorem drel_drop {F : V → β → Prop} {es : DEs} {kvs : List (KK × β)} (p : Paired (DRel F) es kvs) (k : KK) : Paired (DRel F) (dropE es k) (dropK kvs k) := by
  induction p with
  | nil => exact .nil
  | @cons e kv es kvs h t ih =>
    unfold dropE dropK at ih ⊢
    by_cases q : e.1 = k
    · rw [List.filter_cons, List.filter_cons, if_neg (by simp [q]), if_neg (by simp [← h.1, q])]
      exact ih
    · rw [List.filter_cons, List.filter_cons, if_pos (by simp [q]), if_pos (by simp [← h.1, q])]
      exact .cons h ih
theorem keys_put {Hs : Hp} {es : DEs} (h : ∀ e ∈ es, RK.r Hs (.ref e.2.1) e.1) {k : KK} {b : Addr} (hb : RK.r Hs (.ref b) k) (v : V) : ∀ e ∈ putE es k b v, RK.r Hs (.ref e.2.1) e.1 := by
  intro e he
  unfold putE at he
  split at he
  · obtain ⟨e', h1, h2⟩ := List.mem_map.mp he
    by_cases q : e'.1 = k
    · rw [if_pos q] at h2; subst h2; exact h e' h1
    · rw [if_neg q] at h2; subst h2; exact h e' h1
  · rcases List.mem_append.mp he with he | he
    · exact h e he
    · cases List.mem_singleton.mp he
      exact hb
theorem keys_drop {Hs : Hp} {es : DEs} (h : ∀ e ∈ es, RK.r Hs (.ref e.2.1) e.1) (k : KK) : ∀ e ∈ dropE es k, RK.r Hs (.ref e.2.1) e.1 := fun e he => h e (List.mem_filter.mp he).1
section
variable {α : Type} {C : Ctx} {Γ : Cn} {Δ Δ1 Δ2 : Mn} {R : Rl β} {x : β} {k : KK} {a : Addr} {kvs : List (KK × β)} {td ty tx te ta tb : TE} {Nx bkk ctt : L2.St → Hp → Prop} {rtt : VK} {P : Program} {w : World} {K : PySem.W.Frag} {j i : Nat}
theorem keysAt {Hs H : Hp} {es : DEs} (s : Same Hs H) (h : ∀ e ∈ es, RK.r Hs (.ref e.2.1) e.1) : KeysAt H es := fun e he => RK.mono s (h e he)
theorem rk_ref {Hs : Hp} {v : V} (h : RK.r Hs v k) : ∃ b, v = .ref b ∧ RK.r Hs (.ref b) k := by
  obtain ⟨b, vs, rfl, r⟩ := h
  exact ⟨b, rfl, b, vs, rfl, r⟩
theorem w_newDic (q : ∀ a, Wn C Nx (Γ.set i (sl RA a)) ((a, .dic (dicO P w) R []) :: Δ)) (hi : i < Γ.length := by exact lt_by rfl) : Wn C (tAsg (tDicNew P w) (gName i) ⟨Nx, rtt, bkk, ctt⟩) Γ Δ := fun σ Hs H kk f p hp => by
  have n : Nw Hs H Hs (upd H p (dicO P w p [])) := .drop kk.sub hp
  have k2 := (kk.nw n).set (R := RA) (x := p) (v := .ref p) (i := i) rfl hi
  have f2 := f.step rfl (n.stp (as := adr Δ))
  refine q p _ Hs _ ⟨k2.sub, k2.len, k2.slot, List.nodup_cons.mpr ⟨fresh_adr kk hp, k2.nd⟩, fun m hm => ?_⟩ ⟨f2.stp, fun b hb => ?_, f2.fl⟩
  · rcases List.mem_cons.mp hm with rfl | hm
    · exact ⟨⟨[], upd_same, (fun _ h => nomatch h), .nil⟩, Same.free kk.sub hp⟩
    · exact k2.mo m hm
  · rcases List.mem_cons.mp hb with rfl | hb
    · exact .inr (back_none f.stp hp)
    · exact f2.own b hb
theorem ev_dicGet (hd : Ev td Γ Δ RA a Δ) (hk : Ev ty Γ Δ RK k Δ) (hx : Ev tx Γ Δ R x Δ) (hm : (a, MO.dic (dicO P w) R kvs) ∈ Δ) : Ev (tDicGet2 P w td ty tx) Γ Δ R ((lookK kvs k).getD x) Δ :=
  ⟨rfl, fun σ Hs H kk Q q => hd.run σ Hs H kk _ fun v Hs1 H1 k1 s1 r1 => by
    obtain ⟨⟨es, e1, _, _⟩, _⟩ := k1.own hm
    refine ⟨a, es, r1, e1, hk.run σ Hs1 H1 k1 _ fun u Hs2 H2 k2 s2 r2 => hx.run σ Hs2 H2 k2 _ fun z Hs3 H3 k3 s3 r3 => ?_⟩
    obtain ⟨⟨es3, e3, h3, p3⟩, _⟩ := k3.own hm
    obtain ⟨b, rfl, rb⟩ := rk_ref (RK.mono s3.s1 r2)
    refine ⟨es3, b, k, e3, keysAt k3.sub h3, rfl, RK.mono k3.sub rb, ?_⟩
    refine q _ Hs3 H3 k3 ((s1.trans s2).trans s3) ?_
    rcases drel_look (F := R.r Hs3) p3 k with ⟨q1, q2⟩ | ⟨v', x', q1, q2, q3⟩
    · rw [q1, q2]; exact r3
    · rw [q1, q2]; exact q3⟩
theorem ev_dicItem (hd : Ev td Γ Δ RA a Δ) (hk : Ev ty Γ Δ RK k Δ) (hm : (a, MO.dic (dicO P w) R kvs) ∈ Δ) (hl : lookK kvs k = some x) : Ev (tDicItem P w td ty) Γ Δ R x Δ :=
  ⟨rfl, fun σ Hs H kk Q q => hd.run σ Hs H kk _ fun v Hs1 H1 k1 s1 r1 => hk.run σ Hs1 H1 k1 _ fun u Hs2 H2 k2 s2 r2 => by
    obtain ⟨⟨es2, e2, h2, p2⟩, _⟩ := k2.own hm
    obtain ⟨b, rfl, rb⟩ := rk_ref r2
    rcases drel_look (F := R.r Hs2) p2 k with ⟨q1, q2⟩ | ⟨v', x', q1, q2, q3⟩
    · rw [hl] at q2; cases q2
    · rw [hl] at q2; cases q2
      exact ⟨a, es2, b, k, v', r1, rfl, e2, keysAt k2.sub h2, RK.mono k2.sub rb, q1, q _ Hs2 H2 k2 (s1.trans s2) q3⟩⟩
theorem upd_step {Hs H : Hp} {o : HO} (sub : Same Hs H) (hn : Hs a = none) (hl : H a ≠ none) : Same Hs (upd H a o) ∧ Stp [a] Hs H Hs (upd H a o) := by
  refine ⟨fun b u z => ?_, fun _ _ z => z, fun b u z nb => by rw [upd_ne (by simpa using nb)]; exact z, fun _ z => .inl z, fun b z => ?_⟩
  · have : b ≠ a := fun y => by rw [y, hn] at z; cases z
    rw [upd_ne this]; exact sub _ _ z
  · by_cases hb : b = a
    · subst hb; rw [upd_same]; exact fun z => nomatch z
    · rw [upd_ne hb]; exact z
theorem w_dicSet {to ti : TE} (h : Ev te Γ Δ R x Δ) (ho : Ev to Γ Δ RA a Δ) (hi : Ev ti Γ Δ RK k Δ) (hj : Δ[j]? = some (a, .dic (dicO P w) R kvs)) (hz : kvs.length ≤ 1000)
    (q : Wn C Nx Γ (Δ.set j (a, .dic (dicO P w) R (putK kvs k x)))) : Wn C (tAsg te (gSub to ti (rDicSet P w)) ⟨Nx, rtt, bkk, ctt⟩) Γ Δ := fun σ Hs H kk f =>
  h.run σ Hs H kk _ fun v Hs1 H1 k1 s1 r1 => ho.run σ Hs1 H1 k1 _ fun o Hs2 H2 k2 s2 r2 => hi.run σ Hs2 H2 k2 _ fun u Hs3 H3 k3 s3 r3 => by
    obtain ⟨⟨es, e, h3, p⟩, hn⟩ := k3.mo _ (List.mem_of_getElem? hj)
    have f3 : Fr C Hs3 H3 Δ := ((f.step rfl s1).step rfl s2).step rfl s3
    obtain ⟨b, rfl, rb⟩ := rk_ref r3
    obtain ⟨sub, st⟩ := upd_step (o := dicO P w a (putE es k b v)) k3.sub hn (by rw [e]; exact fun z => nomatch z)
    refine ⟨a, es, b, k, r2, rfl, e, keysAt k3.sub h3, RK.mono k3.sub rb, by rw [pair_len p]; exact small1000 hz, ?_⟩
    have rv : R.r Hs3 v x := R.mono s3.s1 (R.mono s2.s1 r1)
    have k4 := mut_ok k3 hj (m' := .dic (dicO P w) R (putK kvs k x)) sub st ⟨_, upd_same, keys_put h3 rb v, drel_put (F := R.r Hs3) p k b rv⟩ hn
    exact q σ _ _ k4 (f3.step (nodup_at k3.nd hj _).1 (stp_in st fun c hc => by cases List.mem_singleton.mp hc; exact mem_at hj))
theorem w_dicPop {to ti : TE} (ho : Ev to Γ Δ RA a Δ) (hi : Ev ti Γ Δ RK k Δ) (hj : Δ[j]? = some (a, .dic (dicO P w) R kvs)) (hl : lookK kvs k = some x)
    (q : Wn C Nx Γ (Δ.set j (a, .dic (dicO P w) R (dropK kvs k)))) : Wn C (tDrop (tDicPop P w to ti) ⟨Nx, rtt, bkk, ctt⟩) Γ Δ := fun σ Hs H kk f =>
  ho.run σ Hs H kk _ fun o Hs2 H2 k2 s2 r2 => by
    obtain ⟨⟨es1, e1, _, _⟩, _⟩ := k2.mo _ (List.mem_of_getElem? hj)
    refine ⟨a, es1, r2, e1, hi.run σ Hs2 H2 k2 _ fun u Hs3 H3 k3 s3 r3 => ?_⟩
    obtain ⟨⟨es, e, h3, p⟩, hn⟩ := k3.mo _ (List.mem_of_getElem? hj)
    have f3 : Fr C Hs3 H3 Δ := (f.step rfl s2).step rfl s3
    obtain ⟨b, rfl, rb⟩ := rk_ref r3
    obtain ⟨sub, st⟩ := upd_step (o := dicO P w a (dropE es k)) k3.sub hn (by rw [e]; exact fun z => nomatch z)
    rcases drel_look (F := R.r Hs3) p k with ⟨q1, q2⟩ | ⟨v', x', q1, q2, q3⟩
    · rw [hl] at q2; cases q2
    · refine ⟨es, b, k, v', e, keysAt k3.sub h3, rfl, RK.mono k3.sub rb, q1, ?_⟩
      have k4 := mut_ok k3 hj (m' := .dic (dicO P w) R (dropK kvs k)) sub st ⟨_, upd_same, keys_drop h3 k, drel_drop (F := R.r Hs3) p k⟩ hn
      exact q σ _ _ k4 (f3.step (nodup_at k3.nd hj _).1 (stp_in st fun c hc => by cases List.mem_singleton.mp hc; exact mem_at hj))
theorem keys_pair {Hs : Hp} : ∀ {es : DEs} {kvs : List (KK × β)}, (∀ e ∈ es, RK.r Hs (.ref e.2.1) e.1) → Paired (DRel (R.r Hs)) es kvs → Paired (RK.r Hs) (es.map fun e => V.ref e.2.1) (kvs.map (·.1))
  | _, _, _, .nil => .nil
  | _, _, h, .cons r t => .cons (by have := h _ (List.mem_cons_self ..); rw [r.1] at this; exact this) (keys_pair (fun e he => h e (List.mem_cons_of_mem _ he)) t)
theorem en_listDic (h : Ev ta Γ Δ RA a Δ) (hm : (a, MO.dic (dicO P w) R kvs) ∈ Δ) (hz : kvs.length ≤ 1000) : EvN (tCB (fun xs H Q => ∃ d es, xs = [V.ref d] ∧ H d = some (dicO P w d es) ∧ KeysAt H es ∧ ∀ p, H p = none → Q (.ref p) (upd H p (.lst (es.map fun e => V.ref e.2.1)))) (tCons ta tNil)) Γ Δ RK (kvs.map (·.1)) Δ :=
  ⟨rfl, fun σ Hs H kk Q q => h.run σ Hs H kk _ fun v Hs1 H1 k1 s1 r1 => by
    obtain ⟨⟨es, e, h1, p⟩, _⟩ := k1.own hm
    refine ⟨a, es, by rw [show v = V.ref a from r1], e, keysAt k1.sub h1, fun l hl => ?_⟩
    have n : Nw Hs1 H1 Hs1 (upd H1 l (.lst (es.map fun e => V.ref e.2.1))) := .drop k1.sub hl
    have hHl := back_none s1 hl
    exact q l _ _ _ (k1.nw n) (s1.trans n.stp) hHl (Same.free k1.sub hl) (fresh_adr kk hHl) upd_same (keys_pair (R := R) h1 p) (by rw [List.length_map]; exact Nat.le_of_lt (small1000 hz))⟩
/-! #### a def that hands back a new dict -/
structure EvD (te : TE) (Γ : Cn) (Δ : Mn) (P : Program) (w : World) (R : Rl β) (kvs : List (KK × β)) (Δ' : Mn) : Prop where
  same : adr Δ' = adr Δ
  run : ∀ (σ : L2.St) (Hs H : Hp), Ok Hs H σ Γ Δ → ∀ Q : VK, (∀ p es Hs' H', Ok Hs' H' σ Γ Δ' → Stp (adr Δ) Hs H Hs' H' → H p = none → Hs' p = none → p ∉ adr Δ → H' p = some (dicO P w p es) → (∀ e ∈ es, RK.r Hs' (.ref e.2.1) e.1) → Paired (DRel (R.r Hs')) es kvs → Q (.ref p) H') → te σ H Q
def spD {ι : Type} (P : Program) (w : World) (as : ι → List Slot) (pre : ι → Prop) (R : Rl β) (res : ι → List (KK × β)) : Sp := fun vs H Q _ =>
  ∃ (Hs : Hp) (i : ι), Same Hs H ∧ Args Hs vs (as i) ∧ pre i ∧ ∀ p es Hs' H', Nw Hs H Hs' H' → H p = none → Hs' p = none → H' p = some (dicO P w p es) → (∀ e ∈ es, RK.r Hs' (.ref e.2.1) e.1) → Paired (DRel (R.r Hs')) es (res i) → Q (.ref p) H'
def Rd (P : Program) (w : World) (C : Ctx) (rt : VK) (R : Rl β) (kvs : List (KK × β)) : Prop := ∀ p es Hs' H', Same Hs' H' → Stp C.fa C.Hs C.H Hs' H' → C.H p = none → Hs' p = none → H' p = some (dicO P w p es) → (∀ e ∈ es, RK.r Hs' (.ref e.2.1) e.1) → Paired (DRel (R.r Hs')) es kvs → rt (.ref p) H'
theorem okD {mg : Str → Option Value} {base : Heap} {x : Str} {st : Stmt} {dvs : List V} {f : Addr} {fd : FuncData} {N ps : List Str} {k : Nat} {ι : Type} {as : ι → List Slot} {pre : ι → Prop} {R : Rl β} {res : ι → List (KK × β)} (F : FnP K x st dvs f fd) (S : FnScope N ps (defScope st))
    (hl : ∀ i, (as i).length = ps.length) (hN : ps.length ≤ N.length)
    (hb : ∀ (cdv : Value) (A : Around) (outer : List Env) (s : Shared) (H : Hp) (E : XK), Room k (A.deeper (envOfC x (defScope st) s.heap.objs.size f cdv)) → ∀ i, pre i →
      ∃ t, PSs (cxOf CX0 P w K mg base N x (defScope st) f cdv A outer s H E).nox (defBody st) t ∧
        ∀ (C : Ctx) (rt : VK), C.fa = [] → Rd P w C rt R (res i) → Wn C (t { nx := fun _ H' => rt .non H', rt := rt }) (st0 N.length (as i)) []) : FnOk P w K mg base CX0 (k + 1) f fd ps (spD P w as pre R res) := by
  refine F.ok S (fun vs H Q E h => ?_) (fun cdv A outer s H vs Q E hr h => ?_)
  · obtain ⟨Hs, i, _, ha, _⟩ := h
    rw [args_len ha, hl]
  · obtain ⟨Hs, i, sub, ha, hp, q⟩ := h
    obtain ⟨t, ht, hw⟩ := hb cdv A outer s H E hr i hp
    refine ⟨t, ht.nox, hw ⟨[], Hs, H, Hs⟩ Q rfl (fun p es Hs' H' s1 st hp hs' h' hk pr => q p es Hs' H' (st.nw s1) hp hs' h' hk pr) _ Hs H (start_ok sub ha (by rw [hl]; exact hN) List.nodup_nil (fun _ h => nomatch h)) ⟨.refl, (fun _ h => nomatch h), fun _ _ h => h⟩⟩
theorem w_retDic (q : Rd P w C rtt R kvs) (hf : C.fa = []) (hi : Γ[i]? = some (some ⟨Addr, RA, a⟩)) : Wn C (tRet (tVar i) ⟨Nx, rtt, bkk, ctt⟩) Γ ((a, .dic (dicO P w) R kvs) :: Δ) := fun σ Hs H kk f => by
  obtain ⟨v, h1, h2⟩ := kk.slot i _ hi
  refine ⟨v, h1, ?_⟩
  obtain ⟨⟨es, e, h3, p⟩, hn⟩ := kk.own (List.mem_cons_self ..)
  cases (show v = V.ref a from h2)
  have nb : C.H a = none := by
    rcases f.own a (List.mem_cons_self ..) with z | z
    · rw [hf] at z; cases z
    · exact z
  exact q a es Hs H kk.sub f.stp nb hn e h3 p
theorem ed_call {ι : Type} {as : ι → List Slot} {pre : ι → Prop} {res : ι → List (KK × β)} {E : XK} {t : TA} (i : ι) (h : EvA t Γ Δ (as i) Δ1) (hp : pre i) : EvD (tCall (spD P w as pre R res) [] E t) Γ Δ P w R (res i) Δ1 :=
  ⟨h.same, fun σ Hs H k Q q => h.run σ Hs H k _ fun vs Hs1 H1 k1 s1 r1 => ⟨Hs1, i, k1.sub, by rw [List.append_nil]; exact r1, hp, fun p es Hs2 H2 n hp hs h2 hk pr => by
    have hHp := back_none s1 hp
    exact q p es Hs2 H2 (k1.nw n) (s1.trans n.stp) hHp hs (fresh_adr k hHp) h2 hk pr⟩⟩
theorem ev_dicEq {k1 k2 : List (KK × Int)} (ha : EvD ta Γ Δ P w RI k1 Δ1) (hb : EvD tb Γ Δ1 P w RI k2 Δ2) (hl : k1.length = k2.length) (hh : ∀ p ∈ k1, lookK k2 p.1 = some p.2) : Ev (tOp (rDicEq P w) ta tb) Γ Δ RB true Δ2 :=
  ⟨hb.same.trans ha.same, fun σ Hs H k Q q => ha.run σ Hs H k _ fun p es Hs1 H1 g1 s1 hp hs1 hpd h1 hk1 pr1 => by
    refine hb.run σ Hs1 H1 g1 _ fun p' es' Hs2 H2 g2 s2 hp' hs2 hpd' h2 hk2 pr2 => ?_
    have e1 : H2 p = some (dicO P w p es) := s2.keep p _ h1 (by rw [ha.same]; exact hpd)
    refine ⟨p, p', es, es', rfl, rfl, e1, h2, keysAt g2.sub fun e he => RK.mono s2.s1 (hk1 e he), keysAt g2.sub hk2, by rw [pair_len pr1, pair_len pr2, hl], fun e he => ?_, q _ Hs2 H2 g2 (s1.trans (stp_to ha.same s2)) rfl⟩
    obtain ⟨i, hi⟩ := List.mem_iff_getElem?.mp he
    obtain ⟨kv, h3, h4⟩ := pair_getL pr1 hi
    have h5 := hh kv (List.mem_of_getElem? h3)
    refine ⟨kv.2, h4.2, ?_⟩
    rcases drel_look (F := RI.r Hs2) pr2 e.1 with ⟨q1, q2⟩ | ⟨v', x', q1, q2, q3⟩
    · rw [h4.1, h5] at q2; cases q2
    · rw [h4.1, h5] at q2; cases q2
      rw [q1, show v' = V.int kv.2 from q3]⟩
end
end TL
set_option Elab.async false
set_option linter.all false
set_option maxRecDepth 100000
set_option maxHeartbeats 1000000
/-! bounds; * of great ints -/
namespace TL
open PySem PySem.Spec PyProof.Rows L2
def Bd (k : Nat) (x : Int) : Prop := x.natAbs < 2 ^ k
theorem Bd.mono {a b : Nat} {x : Int} (h : Bd a x) (l : a ≤ b) : Bd b x := Nat.lt_of_lt_of_le h (Nat.pow_le_pow_right (by decide) l)
theorem Bd.mul {a b : Nat} {x y : Int} (h : Bd a x) (g : Bd b y) : Bd (a + b) (x * y) := by
  unfold Bd at *
  rw [Int.natAbs_mul, Nat.pow_add]
  exact Nat.mul_lt_mul'' h g
theorem bd_two {a b : Nat} {m n k : Nat} (h : m < 2 ^ a) (g : n < 2 ^ b) (e : k ≤ m + n) : k < 2 ^ (max a b + 1) := by
  have h1 : 2 ^ a ≤ 2 ^ max a b := Nat.pow_le_pow_right (by decide) (by omega)
  have h2 : 2 ^ b ≤ 2 ^ max a b := Nat.pow_le_pow_right (by decide) (by omega)
  rw [Nat.pow_succ]
  omega
theorem Bd.add {a b : Nat} {x y : Int} (h : Bd a x) (g : Bd b y) : Bd (max a b + 1) (x + y) := bd_two h g (by omega)
theorem Bd.sub {a b : Nat} {x y : Int} (h : Bd a x) (g : Bd b y) : Bd (max a b + 1) (x - y) := bd_two h g (by omega)
theorem Bd.neg {a : Nat} {x : Int} (h : Bd a x) : Bd a (-x) := by
  unfold Bd at *
  rw [Int.natAbs_neg]
  exact h
theorem Bd.lit {a : Nat} {x : Int} (h : Nat.blt x.natAbs (2 ^ a) = true) : Bd a x := lt_by h
theorem mulOk {a b : Nat} {x y : Int} (h : Bd a x) (g : Bd b y) (l : a + b ≤ 1000000) : IntMulOk x y := by
  have f : ∀ {k : Nat} {z : Int}, Bd k z → Builtin.Int.intBits z ≤ k := fun {k z} q => by
    unfold Builtin.Int.intBits
    split
    · exact Nat.zero_le _
    · next e =>
      have : z.natAbs ≠ 0 := fun y => e (by rw [Int.natAbs_eq_zero.mp y]; rfl)
      exact (Nat.log2_lt this).mpr q
  exact .of_le (f h) (f g) (by omega)
theorem op_mulX {X : Cx} : OpR X (binaryOp .Mult) (rI IntMulOk fun i j => .int (i * j)) := opI fun _ _ _ _ _ _ _ hc q => mul_int q hc
theorem divOk {b : Nat} {i j : Int} (h : 0 < j) (hb : Bd b j) (h9 : b < 9000) : CDivW i j := ⟨h, by
  have e : j.natAbs ≠ 0 := by omega
  exact Nat.lt_of_lt_of_le ((Nat.log2_lt e).mpr hb) (Nat.le_of_lt h9)⟩
end TL
namespace Ma
open TL
/-- a point in reach: its under is positive, its numbers have at most 400 bits -/
structure P4.Z (p : P4) : Prop where
  w0 : 0 < p.w
  x : Bd 400 p.x
  y : Bd 400 p.y
  z : Bd 400 p.z
  w : Bd 400 p.w
structure P4.B (k : Nat) (p : P4) : Prop where
  w0 : 0 < p.w
  x : Bd k p.x
  y : Bd k p.y
  z : Bd k p.z
  w : Bd k p.w
structure V3.B (k : Nat) (p : V3) : Prop where
  x : Bd k p.x
  y : Bd k p.y
  z : Bd k p.z
theorem P4.B.Z {k : Nat} {p : P4} (h : P4.B k p) (l : k ≤ 400) : p.Z := ⟨h.w0, h.x.mono l, h.y.mono l, h.z.mono l, h.w.mono l⟩
theorem V3.B.mono {k m : Nat} {p : V3} (h : V3.B k p) (l : k ≤ m) : V3.B m p := ⟨h.x.mono l, h.y.mono l, h.z.mono l⟩
theorem bd_gcdL {k : Nat} : ∀ {ns : List Int}, (∀ x ∈ ns, Bd k x) → gcdL ns < 2 ^ k
  | [], _ => Nat.pow_pos (by decide)
  | x :: ns, h => by
    rw [gcdL_cons]
    by_cases e : x.natAbs = 0
    · rw [e, Nat.gcd_zero_left]
      exact bd_gcdL fun y hy => h y (List.mem_cons_of_mem _ hy)
    · exact Nat.lt_of_le_of_lt (Nat.gcd_le_left _ (by omega)) (h x (List.mem_cons_self ..))
theorem bd_gcd {k : Nat} {ns : List Int} (h : ∀ x ∈ ns, Bd k x) : Bd k (gcdL ns : Int) := bd_gcdL h
theorem bd_div {k : Nat} {x : Int} (g : Nat) (h : Bd k x) : Bd k (x / (g : Int)) := by
  unfold Bd at *
  rcases Nat.eq_zero_or_pos g with e | e
  · subst e
    simp
    exact Nat.lt_of_le_of_lt (Nat.zero_le _) h
  · exact Nat.lt_of_le_of_lt (Int.natAbs_ediv_le_natAbs x g) h
theorem bd_low {k : Nat} {ns : List Int} (h : ∀ x ∈ ns, Bd k x) : ∀ x ∈ low ns, Bd k x := fun x hx => by
  obtain ⟨y, hy, rfl⟩ := List.mem_map.mp hx
  exact bd_div _ (h y hy)
theorem mk4_B {k : Nat} {x y z w : Int} (hx : Bd k x) (hy : Bd k y) (hz : Bd k z) (hw : Bd k w) (h0 : 0 < w) : P4.B k (mk4 x y z w) :=
  ⟨(mk4_of x y z w h0).choose_spec.2.2.2.2.2, bd_div _ hx, bd_div _ hy, bd_div _ hz, bd_div _ hw⟩
theorem add_B {k m : Nat} {p a : P4} (h : P4.B k p) (g : P4.B m a) : P4.B (k + m + 1) (add p a) := by
  have e : max (k + m) (m + k) + 1 = k + m + 1 := by omega
  refine mk4_B ?_ ?_ ?_ ?_ (Int.mul_pos h.w0 g.w0)
  · rw [← e]; exact (h.x.mul g.w).add (g.x.mul h.w)
  · rw [← e]; exact (h.y.mul g.w).add (g.y.mul h.w)
  · rw [← e]; exact (h.z.mul g.w).add (g.z.mul h.w)
  · exact (h.w.mul g.w).mono (by omega)
theorem gap_B {p q : P4} (h : p.Z) (g : q.Z) : V3.B 801 (gap p q) := ⟨(g.x.mul h.w).sub (h.x.mul g.w), (g.y.mul h.w).sub (h.y.mul g.w), (g.z.mul h.w).sub (h.z.mul g.w)⟩
theorem crs_B {u v : V3} {k m : Nat} (h : V3.B k u) (g : V3.B m v) : V3.B (k + m + 1) (crs u v) := by
  have e : max (k + m) (k + m) + 1 = k + m + 1 := by omega
  refine ⟨?_, ?_, ?_⟩ <;> rw [← e]
  · exact (h.y.mul g.z).sub (h.z.mul g.y)
  · exact (h.z.mul g.x).sub (h.x.mul g.z)
  · exact (h.x.mul g.y).sub (h.y.mul g.x)
end Ma
set_option Elab.async false
set_option linter.all false
set_option maxRecDepth 100000
set_option maxHeartbeats 1000000
/-! short rows: comprehensions over two, three, four things -/
namespace TL
open PySem PySem.Spec PyProof.Rows L2
theorem le_by {i n : Nat} (h : Nat.ble i n = true) : i ≤ n := Nat.le_of_ble_eq_true h
theorem js_by {js : List Nat} {n : Nat} (h : js.all (fun j => Nat.blt j n) = true) : ∀ j ∈ js, j < n := fun j hj => lt_by (List.all_eq_true.mp h j hj)
section
variable {β : Type} {Γ : Cn} {Δ : Mn} {S : Rl β} {te : TE} {wi : TI} {g : TG} {js vs : List Nat} {n : Nat} {st : Nat → Cn → Cn} {a b c d : β}
theorem en_lc2 (hI : EvI wi g js Γ Δ n st) (hj : ∀ j ∈ js, j ∈ vs) (hn : n = 2) (h0 : Ev te (st 0 (wpC Γ vs)) Δ S a Δ) (h1 : Ev te (st 1 (wpC Γ vs)) Δ S b Δ) : EvN (tLc wi g tYes te vs) Γ Δ S [a, b] Δ := by
  subst hn
  refine en_lc hI hj (fun i => if i = 0 then a else b) (fun _ => Δ) rfl (by decide) fun i hi => ?_
  obtain rfl | rfl : i = 0 ∨ i = 1 := by omega
  · exact h0
  · exact h1
theorem en_lc3 (hI : EvI wi g js Γ Δ n st) (hj : ∀ j ∈ js, j ∈ vs) (hn : n = 3) (h0 : Ev te (st 0 (wpC Γ vs)) Δ S a Δ) (h1 : Ev te (st 1 (wpC Γ vs)) Δ S b Δ) (h2 : Ev te (st 2 (wpC Γ vs)) Δ S c Δ) : EvN (tLc wi g tYes te vs) Γ Δ S [a, b, c] Δ := by
  subst hn
  refine en_lc hI hj (fun i => if i = 0 then a else if i = 1 then b else c) (fun _ => Δ) rfl (by decide) fun i hi => ?_
  obtain rfl | rfl | rfl : i = 0 ∨ i = 1 ∨ i = 2 := by omega
  · exact h0
  · exact h1
  · exact h2
theorem en_lc4 (hI : EvI wi g js Γ Δ n st) (hj : ∀ j ∈ js, j ∈ vs) (hn : n = 4) (h0 : Ev te (st 0 (wpC Γ vs)) Δ S a Δ) (h1 : Ev te (st 1 (wpC Γ vs)) Δ S b Δ) (h2 : Ev te (st 2 (wpC Γ vs)) Δ S c Δ) (h3 : Ev te (st 3 (wpC Γ vs)) Δ S d Δ) : EvN (tLc wi g tYes te vs) Γ Δ S [a, b, c, d] Δ := by
  subst hn
  refine en_lc hI hj (fun i => if i = 0 then a else if i = 1 then b else if i = 2 then c else d) (fun _ => Δ) rfl (by decide) fun i hi => ?_
  obtain rfl | rfl | rfl | rfl : i = 0 ∨ i = 1 ∨ i = 2 ∨ i = 3 := by omega
  · exact h0
  · exact h1
  · exact h2
  · exact h3
end
section
variable {α : Type} {C : Ctx} {Γ : Cn} {Δ Δ1 : Mn} {R : Rl α} {x : α} {te : TE} {Nx bkk ctt : L2.St → Hp → Prop} {rtt : VK}
theorem w_re {ms : Mn} (h : Ev te Γ Δ R x Δ1) (q : Rt C rtt R x ms) (hm : ∀ p ∈ ms, p ∈ Δ1) : Wn C (tRet te ⟨Nx, rtt, bkk, ctt⟩) Γ Δ := w_ret q h hm
theorem w_setE {i : Nat} {x' : α} (h : Ev te Γ Δ R x Δ1) (e : x = x') (q : Wn C Nx (Γ.set i (sl R x')) Δ1) (hi : i < Γ.length := by exact lt_by rfl) : Wn C (tAsg te (gName i) ⟨Nx, rtt, bkk, ctt⟩) Γ Δ := by subst e; exact w_set h q hi
theorem w_nx (h : Wn C Nx Γ Δ) : Wn C (tNext ⟨Nx, rtt, bkk, ctt⟩) Γ Δ := h
end
/-- a value together with a fact -/
def Rl.wh {α : Type} (R : Rl α) (φ : Prop) : Rl α := ⟨fun H v x => φ ∧ R.r H v x, fun s h => ⟨h.1, R.mono s h.2⟩⟩
section
variable {α : Type} {C : Ctx} {Γ : Cn} {Δ : Mn} {R : Rl α} {x : α} {N : L2.St → Hp → Prop} {φ : Prop}
theorem w_fact (j : Nat) (hj : Γ[j]? = some (some ⟨α, R.wh φ, x⟩)) (h : φ → Wn C N (Γ.set j (sl R x)) Δ) : Wn C N Γ Δ := fun σ Hs H k f => by
  obtain ⟨v, h1, h2⟩ := k.slot j _ hj
  refine h h2.1 σ Hs H ⟨k.sub, by rw [List.length_set]; exact k.len, fun i s e => ?_, k.nd, k.mo⟩ f
  by_cases hi : j = i
  · subst hi
    have hl : j < Γ.length := (List.getElem?_eq_some_iff.mp hj).1
    rw [List.getElem?_set_self hl] at e
    cases e
    exact ⟨v, h1, h2.2⟩
  · rw [List.getElem?_set_ne hi] at e
    exact k.slot i s e
theorem w_known (j : Nat) (hj : Γ[j]? = some (some ⟨α, R, x⟩)) (hφ : φ) (h : Wn C N (Γ.set j (sl (R.wh φ) x)) Δ) : Wn C N Γ Δ := fun σ Hs H k f => by
  obtain ⟨v, h1, h2⟩ := k.slot j _ hj
  refine h σ Hs H ⟨k.sub, by rw [List.length_set]; exact k.len, fun i s e => ?_, k.nd, k.mo⟩ f
  by_cases hi : j = i
  · subst hi
    have hl : j < Γ.length := (List.getElem?_eq_some_iff.mp hj).1
    rw [List.getElem?_set_self hl] at e
    cases e
    exact ⟨v, h1, hφ, h2⟩
  · rw [List.getElem?_set_ne hi] at e
    exact k.slot i s e
end
section
variable {X : Cx} {pos : Pos}
theorem pg_tupK {K : PySem.W.Frag} {es : List Expr} {k : Nat} {t : TGs} {n : Nat} (hK : X.K = K) (hc : X.calm = true) (h : PGs X es t)
    (hn : (assignEach es X.env).length = n := by rfl) (hst : (assignEach es X.env).findIdx? (·.1) = none := by rfl) : PG X (.Tuple es k pos) (gTup K n t) := hK ▸ pg_tup hc h hn hst
end
end TL
set_option Elab.async false
set_option linter.all false
set_option maxRecDepth 10000
/-! simplices in their one order, formal sums of heaps -/
namespace Ma
open TL
/-! ### sorted rows -/
theorem srt_perm (l : List (List Int)) : (srt l).Perm l := List.mergeSort_perm l _
theorem srt_pw (l : List (List Int)) : (srt l).Pairwise (· ≤ ·) := by
  have h := List.pairwise_mergeSort (le := fun p q : List Int => decide (p ≤ q)) (fun a b c h1 h2 => by
    simp only [decide_eq_true_eq] at *
    exact List.le_trans h1 h2) (fun a b => by
    simp only [Bool.or_eq_true, decide_eq_true_eq]
    exact List.le_total a b) l
  refine h.imp fun h => ?_
  simpa using h
theorem srt_eq {l m : List (List Int)} (h : l.Perm m) : srt l = srt m :=
  List.Perm.eq_of_pairwise (fun a b _ _ h1 h2 => List.le_antisymm h1 h2) (srt_pw l) (srt_pw m) ((srt_perm l).trans (h.trans (srt_perm m).symm))
def srtP (ps : List P4) : List P4 := ps.mergeSort fun p q => decide (p.l ≤ q.l)
theorem srtP_map (ps : List P4) : srt (ps.map P4.l) = (srtP ps).map P4.l := (List.map_mergeSort (r := fun p q : P4 => decide (p.l ≤ q.l)) (s := fun p q => decide (p ≤ q)) (f := P4.l) (l := ps) (fun _ _ _ _ => rfl)).symm
theorem srtP_perm (ps : List P4) : (srtP ps).Perm ps := List.mergeSort_perm ps _
theorem map_inj_list {α β : Type} {f : α → β} (hf : ∀ a b, f a = f b → a = b) : ∀ {l m : List α}, l.map f = m.map f → l = m
  | [], [], _ => rfl
  | [], _ :: _, h => by simp at h
  | _ :: _, [], h => by simp at h
  | a :: l, b :: m, h => by
    rw [List.map_cons, List.map_cons] at h
    injection h with h1 h2
    rw [hf _ _ h1, map_inj_list hf h2]
theorem srtP_eq {l m : List P4} (h : l.Perm m) : srtP l = srtP m := map_inj_list (f := P4.l) (fun _ _ => P4.l_inj) (by rw [← srtP_map, ← srtP_map]; exact srt_eq (h.map _))
/-! ### what swaps two neighbours does to four -/
theorem perm_ind {α : Type} {G : List α → List α → Prop} (rf : ∀ l, G l l) (tr : ∀ {a b c}, G a b → G b c → G a c) (sw : ∀ pre x y l, G (pre ++ x :: y :: l) (pre ++ y :: x :: l)) {l m : List α} (h : l.Perm m) : G l m := by
  have key : ∀ pre, G (pre ++ l) (pre ++ m) := by
    induction h with
    | nil => exact fun pre => rf _
    | cons x _ ih =>
      intro pre
      have := ih (pre ++ [x])
      simpa using this
    | swap x y l => exact fun pre => sw pre y x l
    | trans _ _ ih1 ih2 => exact fun pre => tr (ih1 pre) (ih2 pre)
  exact key []
def d4L : List P4 → Int
  | [p, q, r, s] => d4 p q r s
  | _ => 0
def detL : List P4 → Int
  | [p, q, r, s] => det p q r s
  | _ => 0
def ML : List P4 → Key → Int
  | [p, q, r, s], κ => M p q r s κ
  | _, _ => 0
def AllW (ps : List P4) : Prop := ∀ p ∈ ps, 0 < p.w
/-- both turn their signs, or neither does -/
def Alt (κ : Key) (a b : List P4) : Prop := AllW a → AllW b ∧ ((d4L b = d4L a ∧ ML b κ = ML a κ) ∨ (d4L b = -d4L a ∧ ML b κ = -ML a κ))
theorem alt_swap (κ : Key) (pre : List P4) (x y : P4) (l : List P4) : Alt κ (pre ++ x :: y :: l) (pre ++ y :: x :: l) := by
  intro ha
  refine ⟨fun p hp => ha p ?_, ?_⟩
  · simp only [List.mem_append, List.mem_cons] at hp ⊢
    rcases hp with h | h | h | h
    · exact .inl h
    · exact .inr (.inr (.inl h))
    · exact .inr (.inl h)
    · exact .inr (.inr (.inr h))
  · have hw : ∀ p ∈ pre ++ x :: y :: l, p.w ≠ 0 := fun p hp => by have := ha p hp; omega
    match pre, l with
    | [], [r, s] => exact .inr ⟨d4_swap12 x y r s, M_swap12 κ (hw _ (by simp)) (hw _ (by simp))⟩
    | [p], [s] => exact .inr ⟨d4_swap23 p x y s, M_swap23 κ (hw _ (by simp)) (hw _ (by simp)) (hw _ (by simp))⟩
    | [p, q], [] => exact .inr ⟨d4_swap34 p q x y, M_swap34 κ (hw _ (by simp)) (hw _ (by simp))⟩
    | [], [] => exact .inl ⟨rfl, rfl⟩
    | [], [_] => exact .inl ⟨rfl, rfl⟩
    | [], _ :: _ :: _ :: _ => exact .inl ⟨rfl, rfl⟩
    | [_], [] => exact .inl ⟨rfl, rfl⟩
    | [_], _ :: _ :: _ => exact .inl ⟨rfl, rfl⟩
    | [_, _], _ :: _ => exact .inl ⟨rfl, rfl⟩
    | [_, _, _], _ => exact .inl ⟨rfl, rfl⟩
    | a :: b :: c :: d :: [], _ => exact .inl ⟨rfl, rfl⟩
    | a :: b :: c :: d :: f :: t, _ => exact .inl ⟨rfl, rfl⟩
theorem alt_perm (κ : Key) {a b : List P4} (h : a.Perm b) : Alt κ a b := by
  refine perm_ind (G := Alt κ) (fun l ha => ⟨ha, .inl ⟨rfl, rfl⟩⟩) (fun {a b c} h1 h2 ha => ?_) (alt_swap κ) h
  obtain ⟨hb, h1⟩ := h1 ha
  obtain ⟨hc, h2⟩ := h2 hb
  refine ⟨hc, ?_⟩
  rcases h1 with ⟨e1, e2⟩ | ⟨e1, e2⟩ <;> rcases h2 with ⟨g1, g2⟩ | ⟨g1, g2⟩ <;> rw [g1, g2, e1, e2]
  · exact .inl ⟨rfl, rfl⟩
  · exact .inr ⟨rfl, rfl⟩
  · exact .inr ⟨rfl, rfl⟩
  · exact .inl ⟨by omega, by omega⟩
/-- the tetra's ends, told without order -/
def SL (ps : List P4) (κ : Key) : Int := (d4L ps).sign * ML ps κ
theorem SL_perm (κ : Key) {a b : List P4} (h : a.Perm b) (ha : AllW a) : SL b κ = SL a κ := by
  unfold SL
  rcases (alt_perm κ h ha).2 with ⟨e1, e2⟩ | ⟨e1, e2⟩ <;> rw [e1, e2]
  rw [Int.sign_neg, Int.neg_mul_neg]
theorem d4L_perm0 {a b : List P4} (h : a.Perm b) (ha : AllW a) (h0 : d4L a ≠ 0) : d4L b ≠ 0 := by
  rcases (alt_perm [] h ha).2 with ⟨e1, _⟩ | ⟨e1, _⟩ <;> omega
theorem det_sign {p q r s : P4} (hp : 0 < p.w) : (det p q r s).sign = (d4 p q r s).sign := by
  rw [det_d4, Int.sign_mul, Int.sign_eq_one_of_pos (Int.mul_pos hp hp), Int.one_mul]
/-! ### the simplex of four points -/
def simpP (ps : List P4) : List P4 :=
  match srtP ps with
  | [p, q, r, s] => if det p q r s < 0 then [p, q, s, r] else [p, q, r, s]
  | l => l
theorem len4 {α : Type} {l : List α} (h : l.length = 4) : ∃ p q r s, l = [p, q, r, s] := by
  match l, h with
  | [p, q, r, s], _ => exact ⟨p, q, r, s, rfl⟩
theorem len3 {α : Type} {l : List α} (h : l.length = 3) : ∃ p q r, l = [p, q, r] := by
  match l, h with
  | [p, q, r], _ => exact ⟨p, q, r, rfl⟩
theorem srt4 {ps : List P4} (h : ps.length = 4) : ∃ p q r s, srtP ps = [p, q, r, s] := len4 (by rw [(srtP_perm ps).length_eq, h])
theorem simpP_perm (ps : List P4) : (simpP ps).Perm ps := by
  refine .trans ?_ (srtP_perm ps)
  unfold simpP
  split
  · next e =>
    rw [e]
    split
    · exact .cons _ (.cons _ (.swap _ _ _))
    · exact .refl _
  · exact .refl _
theorem allW_perm {a b : List P4} (h : a.Perm b) (ha : AllW a) : AllW b := fun p hp => ha p (h.mem_iff.mpr hp)
theorem simpP_pos {ps : List P4} (hl : ps.length = 4) (hw : AllW ps) (h0 : d4L ps ≠ 0) : 0 < d4L (simpP ps) := by
  obtain ⟨p, q, r, s, e⟩ := srt4 hl
  have hs := srtP_perm ps
  have n0 : d4L (srtP ps) ≠ 0 := d4L_perm0 hs.symm hw h0
  have w0 := allW_perm hs.symm hw
  rw [e] at n0 w0
  have n1 : d4 p q r s ≠ 0 := n0
  have hp : 0 < p.w := w0 p (by simp)
  have sg := det_sign (q := q) (r := r) (s := s) hp
  have en : simpP ps = if det p q r s < 0 then [p, q, s, r] else [p, q, r, s] := by unfold simpP; rw [e]
  rw [en]
  split
  · next h =>
    show 0 < d4 p q s r
    rw [d4_swap34]
    rw [Int.sign_eq_neg_one_of_neg h] at sg
    have := Int.neg_of_sign_eq_neg_one sg.symm
    omega
  · next h =>
    show 0 < d4 p q r s
    rcases (by omega : 0 < det p q r s ∨ det p q r s = 0) with h | h
    · rw [Int.sign_eq_one_of_pos h] at sg
      exact Int.pos_of_sign_eq_one sg.symm
    · rw [h, Int.sign_zero] at sg
      exact absurd (Int.sign_eq_zero_iff_zero.mp sg.symm) n1
theorem ML_simp {ps : List P4} (κ : Key) (hl : ps.length = 4) (hw : AllW ps) (h0 : d4L ps ≠ 0) : ML (simpP ps) κ = SL ps κ := by
  have h := SL_perm κ (simpP_perm ps).symm hw
  rw [← h]
  unfold SL
  rw [Int.sign_eq_one_of_pos (simpP_pos hl hw h0), Int.one_mul]
theorem simpP_simpP {ps : List P4} : simpP (simpP ps) = simpP ps := by
  have e : srtP (simpP ps) = srtP ps := srtP_eq (simpP_perm ps)
  have : ∀ qs, srtP qs = srtP ps → simpP qs = simpP ps := fun qs h => by unfold simpP; rw [h]
  exact this _ e
theorem simpP_eq {l m : List P4} (h : l.Perm m) : simpP l = simpP m := by
  unfold simpP
  rw [srtP_eq h]
theorem simpP_len {ps : List P4} : (simpP ps).length = ps.length := (simpP_perm ps).length_eq
end Ma
set_option Elab.async false
set_option linter.all false
set_option maxRecDepth 10000
/-! prisms of heaps: stacked, and pushed in the plane -/
namespace Ma
open TL
structure P3 where
  x : Int
  y : Int
  w : Int
def P3.l (p : P3) : List Int := [p.x, p.y, p.w]
theorem P3.l_inj {p q : P3} (h : p.l = q.l) : p = q := by
  cases p; cases q
  unfold P3.l at h
  simp only [List.cons.injEq] at h
  simp_all
def P3.up (p : P3) : P4 := ⟨p.x, p.y, 0, p.w⟩
def mk3 (x y w : Int) : P3 := ⟨x / (gcdL [x, y, w] : Int), y / (gcdL [x, y, w] : Int), w / (gcdL [x, y, w] : Int)⟩
def add3 (p s : P3) : P3 := mk3 (p.x * s.w + s.x * p.w) (p.y * s.w + s.y * p.w) (p.w * s.w)
theorem gcd_up (x y w : Int) : gcdL [x, y, 0, w] = gcdL [x, y, w] := by
  simp only [gcdL_cons]
  simp
theorem add3_up (p s : P3) : (add3 p s).up = add p.up s.up := by
  have h : gcdL [p.x * s.w + s.x * p.w, p.y * s.w + s.y * p.w, 0 * s.w + 0 * p.w, p.w * s.w] = gcdL [p.x * s.w + s.x * p.w, p.y * s.w + s.y * p.w, p.w * s.w] := by
    rw [show (0 : Int) * s.w + 0 * p.w = 0 by omega]
    exact gcd_up _ _ _
  unfold add3 add mk3 mk4 P3.up
  dsimp only
  rw [h]
  simp
structure T3 where
  p : P3
  q : P3
  r : P3
def T3.l (t : T3) : List (List Int) := [t.p.l, t.q.l, t.r.l]
def prism1 (t : T3) (a : P4) : List (List P4) :=
  [simpP [t.p.up, t.q.up, t.r.up, add t.p.up a], simpP [t.q.up, t.r.up, add t.p.up a, add t.q.up a], simpP [t.r.up, add t.p.up a, add t.q.up a, add t.r.up a]]
def prismP (hs : List T3) (a : P4) : List (List P4) := hs.flatMap fun t => prism1 t a
def movedP (h : List (List P4)) (t : P4) : List (List P4) := h.map fun ps => simpP (ps.map fun p => add p t)
def tabH (h : List (List P4)) (κ : Key) : Int := (h.map fun ps => ML ps κ).sum
structure TOk (t : T3) (a : P4) : Prop where
  a0 : 0 < a.w
  p0 : 0 < t.p.w
  q0 : 0 < t.q.w
  r0 : 0 < t.r.w
  n0 : d4 t.p.up t.q.up t.r.up (dir a) ≠ 0
theorem tabH_cons (ps : List P4) (h : List (List P4)) (κ : Key) : tabH (ps :: h) κ = ML ps κ + tabH h κ := by simp [tabH]
theorem tabH_app (g h : List (List P4)) (κ : Key) : tabH (g ++ h) κ = tabH g κ + tabH h κ := by simp [tabH]
theorem tabH_nil (κ : Key) : tabH [] κ = 0 := rfl
theorem movedP_app (g h : List (List P4)) (t : P4) : movedP (g ++ h) t = movedP g t ++ movedP h t := by simp [movedP]
theorem sign_ne {x y : Int} (h : x.sign = y.sign) (h0 : y ≠ 0) : x ≠ 0 := fun e => h0 (by
  rw [e, Int.sign_zero] at h
  exact Int.sign_eq_zero_iff_zero.mp h.symm)
theorem allW4 {p q r s : P4} (h1 : 0 < p.w) (h2 : 0 < q.w) (h3 : 0 < r.w) (h4 : 0 < s.w) : AllW [p, q, r, s] := fun x hx => by
  simp only [List.mem_cons, List.not_mem_nil, or_false] at hx
  rcases hx with rfl | rfl | rfl | rfl <;> assumption
/-- three signs in one -/
theorem three (σ a b c t : Int) (h : a + b + c = t) : σ * a + (σ * b + (σ * c + 0)) = σ * t := by
  rw [← h, Int.mul_add, Int.mul_add]
  omega
theorem tet {p q r s : P4} {σ : Int} (κ : Key) (h1 : 0 < p.w) (h2 : 0 < q.w) (h3 : 0 < r.w) (h4 : 0 < s.w) (hs : (d4 p q r s).sign = σ) (h0 : σ ≠ 0) : ML (simpP [p, q, r, s]) κ = σ * M p q r s κ := by
  have n0 : d4 p q r s ≠ 0 := fun e => h0 (by rw [← hs, e, Int.sign_zero])
  rw [ML_simp κ rfl (allW4 h1 h2 h3 h4) n0]
  show (d4 p q r s).sign * M p q r s κ = _
  rw [hs]
theorem prism1_tab {t : T3} {a : P4} (κ : Key) (h : TOk t a) : tabH (prism1 t a) κ = (d4 t.p.up t.q.up t.r.up (dir a)).sign * P5 t.p.up t.q.up t.r.up (add t.p.up a) (add t.q.up a) (add t.r.up a) a κ := by
  obtain ⟨⟨px, py, pw⟩, ⟨qx, qy, qw⟩, ⟨rx, ry, rw'⟩⟩ := t
  obtain ⟨a0, p0, q0, r0, n0⟩ := h
  obtain ⟨g, P⟩ := add_pushed (p := P3.up ⟨px, py, pw⟩) p0 a0
  obtain ⟨k, Q⟩ := add_pushed (p := P3.up ⟨qx, qy, qw⟩) q0 a0
  obtain ⟨m, R⟩ := add_pushed (p := P3.up ⟨rx, ry, rw'⟩) r0 a0
  have s0 := fun e => n0 (Int.sign_eq_zero_iff_zero.mp e)
  unfold prism1
  rw [tabH_cons, tabH_cons, tabH_cons, tabH_nil, tet κ p0 q0 r0 P.w0 (sg1 p0 P) s0, tet κ q0 r0 P.w0 Q.w0 (sg2 q0 a0 P Q) s0, tet κ r0 P.w0 Q.w0 R.w0 (sg3 r0 a0 P Q R) s0]
  exact three _ _ _ _ _ (prism_sum κ p0 q0 r0 a0 P Q R)
theorem add_swap {p a b : P4} (hp : 0 < p.w) (ha : 0 < a.w) (hb : 0 < b.w) : add (add p b) a = add (add p a) b := by
  rw [add_add (p := p) (a := b) (b := a) (c := comb b a) hp hb ha (Int.mul_pos hb ha) (s := 1) (t := 1) (by decide) (by decide) (by simp only [comb]) (by simp only [comb]) (by simp only [comb]) (by simp only [comb]),
    add_add (p := p) (a := a) (b := b) (c := comb b a) hp ha hb (Int.mul_pos hb ha) (s := 1) (t := 1) (by decide) (by decide) (by simp only [comb]; grind) (by simp only [comb]; grind) (by simp only [comb]; grind) (by simp only [comb]; grind)]
theorem tetM {p q r s t p1 q1 r1 s1 : P4} {g k m n σ : Int} (κ : Key) (h1 : 0 < p.w) (h2 : 0 < q.w) (h3 : 0 < r.w) (h4 : 0 < s.w) (ht : 0 < t.w) (hs : (d4 p q r s).sign = σ) (h0 : σ ≠ 0)
    (e1 : add p t = p1) (e2 : add q t = q1) (e3 : add r t = r1) (e4 : add s t = s1) (P : Pushed p t p1 g) (Q : Pushed q t q1 k) (R : Pushed r t r1 m) (S : Pushed s t s1 n) : ML (simpP ((simpP [p, q, r, s]).map fun p => add p t)) κ = σ * M p1 q1 r1 s1 κ := by
  have pe : ((simpP [p, q, r, s]).map fun p => add p t).Perm [p1, q1, r1, s1] := by
    have := (simpP_perm [p, q, r, s]).map fun p => add p t
    rw [List.map_cons, List.map_cons, List.map_cons, List.map_cons, List.map_nil, e1, e2, e3, e4] at this
    exact this
  rw [simpP_eq pe]
  exact tet κ P.w0 Q.w0 R.w0 S.w0 ((sg_shift ht P Q R S).trans hs) h0
theorem moved1_tab {t : T3} {a b : P4} (κ : Key) (h : TOk t b) (ha : 0 < a.w) : tabH (movedP (prism1 t b) a) κ = (d4 t.p.up t.q.up t.r.up (dir b)).sign * P5 (add t.p.up a) (add t.q.up a) (add t.r.up a) (add (add t.p.up a) b) (add (add t.q.up a) b) (add (add t.r.up a) b) b κ := by
  obtain ⟨⟨px, py, pw⟩, ⟨qx, qy, qw⟩, ⟨rx, ry, rw'⟩⟩ := t
  obtain ⟨b0, p0, q0, r0, n0⟩ := h
  obtain ⟨g, P⟩ := add_pushed (p := P3.up ⟨px, py, pw⟩) p0 b0
  obtain ⟨k, Q⟩ := add_pushed (p := P3.up ⟨qx, qy, qw⟩) q0 b0
  obtain ⟨m, R⟩ := add_pushed (p := P3.up ⟨rx, ry, rw'⟩) r0 b0
  obtain ⟨g1, P1⟩ := add_pushed (p := P3.up ⟨px, py, pw⟩) p0 ha
  obtain ⟨k1, Q1⟩ := add_pushed (p := P3.up ⟨qx, qy, qw⟩) q0 ha
  obtain ⟨m1, R1⟩ := add_pushed (p := P3.up ⟨rx, ry, rw'⟩) r0 ha
  obtain ⟨g2, P2⟩ := add_pushed P1.w0 b0
  obtain ⟨k2, Q2⟩ := add_pushed Q1.w0 b0
  obtain ⟨m2, R2⟩ := add_pushed R1.w0 b0
  obtain ⟨g3, Pc⟩ := add_pushed P.w0 ha
  obtain ⟨k3, Q3⟩ := add_pushed Q.w0 ha
  obtain ⟨m3, R3⟩ := add_pushed R.w0 ha
  have eP := add_swap (p := P3.up ⟨px, py, pw⟩) p0 ha b0
  have eQ := add_swap (p := P3.up ⟨qx, qy, qw⟩) q0 ha b0
  have eR := add_swap (p := P3.up ⟨rx, ry, rw'⟩) r0 ha b0
  rw [eP] at Pc; rw [eQ] at Q3; rw [eR] at R3
  have s0 := fun e => n0 (Int.sign_eq_zero_iff_zero.mp e)
  unfold prism1 movedP
  rw [List.map_cons, List.map_cons, List.map_cons, List.map_nil, tabH_cons, tabH_cons, tabH_cons, tabH_nil,
    tetM κ p0 q0 r0 P.w0 ha (sg1 p0 P) s0 rfl rfl rfl eP P1 Q1 R1 Pc, tetM κ q0 r0 P.w0 Q.w0 ha (sg2 q0 b0 P Q) s0 rfl rfl eP eQ Q1 R1 Pc Q3, tetM κ r0 P.w0 Q.w0 R.w0 ha (sg3 r0 b0 P Q R) s0 rfl eP eQ eR R1 Pc Q3 R3]
  exact three _ _ _ _ _ (prism_sum κ P1.w0 Q1.w0 R1.w0 b0 P2 Q2 R2)
/-- c is the sum of the ways a and b -/
structure Sum2 (a b c : P4) : Prop where
  a0 : 0 < a.w
  b0 : 0 < b.w
  c0 : 0 < c.w
  ac : Par a c
  ba : Par b a
  ex : ∃ s t : Int, 0 < s ∧ 0 < t ∧ s * (a.x * b.w + b.x * a.w) = t * c.x ∧ s * (a.y * b.w + b.y * a.w) = t * c.y ∧ s * (a.z * b.w + b.z * a.w) = t * c.z ∧ s * (a.w * b.w) = t * c.w
theorem stack1 {t : T3} {a b c : P4} (κ : Key) (h : TOk t a) (S : Sum2 a b c) : tabH (prism1 t a) κ + tabH (movedP (prism1 t b) a) κ = tabH (prism1 t c) κ := by
  have sb : (d4 t.p.up t.q.up t.r.up (dir b)).sign = (d4 t.p.up t.q.up t.r.up (dir a)).sign := sg_par S.ba
  have sc : (d4 t.p.up t.q.up t.r.up (dir c)).sign = (d4 t.p.up t.q.up t.r.up (dir a)).sign := (sg_par S.ac).symm
  have hb : TOk t b := ⟨S.b0, h.p0, h.q0, h.r0, sign_ne sb h.n0⟩
  have hc : TOk t c := ⟨S.c0, h.p0, h.q0, h.r0, sign_ne sc h.n0⟩
  rw [prism1_tab κ h, moved1_tab κ hb S.a0, prism1_tab κ hc, sb, sc, ← Int.mul_add]
  congr 1
  obtain ⟨s, u, hs, hu, e1, e2, e3, e4⟩ := S.ex
  obtain ⟨⟨px, py, pw⟩, ⟨qx, qy, qw⟩, ⟨rx, ry, rw'⟩⟩ := t
  obtain ⟨a0, p0, q0, r0, n0⟩ := h
  obtain ⟨g1, P1⟩ := add_pushed (p := P3.up ⟨px, py, pw⟩) p0 a0
  obtain ⟨k1, Q1⟩ := add_pushed (p := P3.up ⟨qx, qy, qw⟩) q0 a0
  obtain ⟨m1, R1⟩ := add_pushed (p := P3.up ⟨rx, ry, rw'⟩) r0 a0
  obtain ⟨g2, P2⟩ := add_pushed P1.w0 S.b0
  obtain ⟨k2, Q2⟩ := add_pushed Q1.w0 S.b0
  obtain ⟨m2, R2⟩ := add_pushed R1.w0 S.b0
  obtain ⟨g3, Pc⟩ := add_pushed (p := P3.up ⟨px, py, pw⟩) p0 S.c0
  obtain ⟨k3, Q3⟩ := add_pushed (p := P3.up ⟨qx, qy, qw⟩) q0 S.c0
  obtain ⟨m3, R3⟩ := add_pushed (p := P3.up ⟨rx, ry, rw'⟩) r0 S.c0
  have eP := add_add (p := P3.up ⟨px, py, pw⟩) p0 a0 S.b0 S.c0 hs hu e1 e2 e3 e4
  have eQ := add_add (p := P3.up ⟨qx, qy, qw⟩) q0 a0 S.b0 S.c0 hs hu e1 e2 e3 e4
  have eR := add_add (p := P3.up ⟨rx, ry, rw'⟩) r0 a0 S.b0 S.c0 hs hu e1 e2 e3 e4
  rw [← eP] at Pc ⊢; rw [← eQ] at Q3 ⊢; rw [← eR] at R3 ⊢
  exact P5_stack κ p0 q0 r0 a0 S.b0 S.c0 S.ac S.ba P1 Q1 R1 P2 Q2 R2 Pc Q3 R3
theorem stack {hs : List T3} {a b c : P4} (κ : Key) (h : ∀ t ∈ hs, TOk t a) (S : Sum2 a b c) : tabH (prismP hs a ++ movedP (prismP hs b) a) κ = tabH (prismP hs c) κ := by
  rw [tabH_app]
  induction hs with
  | nil => rfl
  | cons t hs ih =>
    have ih := ih fun u hu => h u (List.mem_cons_of_mem _ hu)
    have e1 := stack1 κ (h t (List.mem_cons_self ..)) S
    show tabH (prism1 t a ++ prismP hs a) κ + tabH (movedP (prism1 t b ++ prismP hs b) a) κ = tabH (prism1 t c ++ prismP hs c) κ
    rw [movedP_app, tabH_app, tabH_app, tabH_app, ← e1, ← ih]
    omega
/-! ### pushed in the plane -/
def d3L (a : P4) : List P4 → Int
  | [p, q, r] => d4 p q r (dir a)
  | _ => 0
def P5L (a : P4) (κ : Key) : List P4 → Int
  | [p, q, r] => P5 p q r (add p a) (add q a) (add r a) a κ
  | _ => 0
def Alt3 (a : P4) (κ : Key) (l m : List P4) : Prop := AllW l → AllW m ∧ ((d3L a m = d3L a l ∧ P5L a κ m = P5L a κ l) ∨ (d3L a m = -d3L a l ∧ P5L a κ m = -P5L a κ l))
theorem alt3_swap {a : P4} (ha : 0 < a.w) (κ : Key) (pre : List P4) (x y : P4) (l : List P4) : Alt3 a κ (pre ++ x :: y :: l) (pre ++ y :: x :: l) := by
  intro hw
  refine ⟨fun p hp => hw p ?_, ?_⟩
  · simp only [List.mem_append, List.mem_cons] at hp ⊢
    rcases hp with h | h | h | h
    · exact .inl h
    · exact .inr (.inr (.inl h))
    · exact .inr (.inl h)
    · exact .inr (.inr (.inr h))
  · match pre, l with
    | [], [r] =>
      have hx := hw x (by simp); have hy := hw y (by simp)
      exact .inr ⟨d4_swap12 x y r _, P5_swap12 κ hx hy (add_ok hx ha).1 (add_ok hy ha).1⟩
    | [p], [] =>
      have hp := hw p (by simp)
      exact .inr ⟨d4_swap23 p x y _, P5_swap23 κ hp (add_ok hp ha).1⟩
    | [], [] => exact .inl ⟨rfl, rfl⟩
    | [], _ :: _ :: _ => exact .inl ⟨rfl, rfl⟩
    | [_], _ :: _ => exact .inl ⟨rfl, rfl⟩
    | [_, _], _ => exact .inl ⟨rfl, rfl⟩
    | [_, _, _], _ => exact .inl ⟨rfl, rfl⟩
    | b :: c :: d :: f :: t, _ => exact .inl ⟨rfl, rfl⟩
theorem alt3_perm {a : P4} (ha : 0 < a.w) (κ : Key) {l m : List P4} (h : l.Perm m) : Alt3 a κ l m := by
  refine perm_ind (G := Alt3 a κ) (fun l hw => ⟨hw, .inl ⟨rfl, rfl⟩⟩) (fun {x y z} h1 h2 hx => ?_) (alt3_swap ha κ) h
  obtain ⟨hy, h1⟩ := h1 hx
  obtain ⟨hz, h2⟩ := h2 hy
  refine ⟨hz, ?_⟩
  rcases h1 with ⟨e1, e2⟩ | ⟨e1, e2⟩ <;> rcases h2 with ⟨g1, g2⟩ | ⟨g1, g2⟩ <;> rw [g1, g2, e1, e2]
  · exact .inl ⟨rfl, rfl⟩
  · exact .inr ⟨rfl, rfl⟩
  · exact .inr ⟨rfl, rfl⟩
  · exact .inl ⟨by omega, by omega⟩
theorem alt3_sign {a : P4} (ha : 0 < a.w) (κ : Key) {l m : List P4} (h : l.Perm m) (hw : AllW l) : (d3L a m).sign * P5L a κ m = (d3L a l).sign * P5L a κ l := by
  rcases (alt3_perm ha κ h hw).2 with ⟨e1, e2⟩ | ⟨e1, e2⟩ <;> rw [e1, e2]
  rw [Int.sign_neg, Int.neg_mul_neg]
theorem allW3 {p q r : P4} (h1 : 0 < p.w) (h2 : 0 < q.w) (h3 : 0 < r.w) : AllW [p, q, r] := fun x hx => by
  simp only [List.mem_cons, List.not_mem_nil, or_false] at hx
  rcases hx with rfl | rfl | rfl <;> assumption
def T3.ps (t : T3) : List P3 := [t.p, t.q, t.r]
def T3.Pushed (t u : T3) (s : P3) : Prop := u.ps.Perm (t.ps.map fun p => add3 p s)
theorem push_perm {t u : T3} {s : P3} (h : t.Pushed u s) : [add t.p.up s.up, add t.q.up s.up, add t.r.up s.up].Perm [u.p.up, u.q.up, u.r.up] := by
  have := (List.Perm.map P3.up h).symm
  show [add t.p.up s.up, add t.q.up s.up, add t.r.up s.up].Perm (u.ps.map P3.up)
  rw [← add3_up, ← add3_up, ← add3_up]
  exact this
theorem push_ok {t u : T3} {s : P3} {a : P4} (hs : 0 < s.w) (h : TOk t a) (hu : t.Pushed u s) : TOk u a := by
  have pe := push_perm hu
  have hw : AllW [add t.p.up s.up, add t.q.up s.up, add t.r.up s.up] := allW3 (add_ok h.p0 hs).1 (add_ok h.q0 hs).1 (add_ok h.r0 hs).1
  have wu := allW_perm pe hw
  obtain ⟨g, P⟩ := add_pushed (p := t.p.up) (a := s.up) h.p0 hs
  obtain ⟨k, Q⟩ := add_pushed (p := t.q.up) (a := s.up) h.q0 hs
  obtain ⟨m, R⟩ := add_pushed (p := t.r.up) (a := s.up) h.r0 hs
  have n1 : d4 (add t.p.up s.up) (add t.q.up s.up) (add t.r.up s.up) (dir a) ≠ 0 := sign_ne (sg_shift3 hs P Q R) h.n0
  refine ⟨h.a0, wu u.p.up (by simp), wu u.q.up (by simp), wu u.r.up (by simp), ?_⟩
  show d3L a [u.p.up, u.q.up, u.r.up] ≠ 0
  have n1 : d3L a [add t.p.up s.up, add t.q.up s.up, add t.r.up s.up] ≠ 0 := n1
  rcases (alt3_perm h.a0 [] pe hw).2 with ⟨e1, _⟩ | ⟨e1, _⟩ <;> omega
theorem push1 {t u : T3} {s : P3} {a : P4} (κ : Key) (hs : 0 < s.w) (h : TOk t a) (hu : t.Pushed u s) : tabH (prism1 u a) κ = tabH (movedP (prism1 t a) s.up) κ := by
  rw [prism1_tab κ (push_ok hs h hu), moved1_tab κ h hs]
  have hw : AllW [add t.p.up s.up, add t.q.up s.up, add t.r.up s.up] := allW3 (add_ok h.p0 hs).1 (add_ok h.q0 hs).1 (add_ok h.r0 hs).1
  have e := alt3_sign h.a0 κ (push_perm hu) hw
  obtain ⟨g, P⟩ := add_pushed (p := t.p.up) (a := s.up) h.p0 hs
  obtain ⟨k, Q⟩ := add_pushed (p := t.q.up) (a := s.up) h.q0 hs
  obtain ⟨m, R⟩ := add_pushed (p := t.r.up) (a := s.up) h.r0 hs
  rw [← sg_shift3 (a := a) hs P Q R]
  exact e
theorem push {hs : List T3} {f : T3 → T3} {s : P3} {a : P4} (κ : Key) (h0 : 0 < s.w) (h : ∀ t ∈ hs, TOk t a) (hf : ∀ t ∈ hs, t.Pushed (f t) s) : tabH (prismP (hs.map f) a) κ = tabH (movedP (prismP hs a) s.up) κ := by
  induction hs with
  | nil => rfl
  | cons t hs ih =>
    have ih := ih (fun u hu => h u (List.mem_cons_of_mem _ hu)) fun u hu => hf u (List.mem_cons_of_mem _ hu)
    show tabH (prism1 (f t) a ++ prismP (hs.map f) a) κ = tabH (movedP (prism1 t a ++ prismP hs a) s.up) κ
    rw [movedP_app, tabH_app, tabH_app, ih, push1 κ h0 (h t (List.mem_cons_self ..)) (hf t (List.mem_cons_self ..))]
end Ma
set_option Elab.async false
set_option linter.all false
set_option maxRecDepth 100000
set_option maxHeartbeats 1000000
namespace Sc
open PySem PySem.Spec PyProof.Rows L2 TL
def top (i : Nat) : Stmt := PySem.Challenge.pw_scissorhall_k65_whole_stacked.main.body.getD i (.Pass ⟨0, 0, 0, 0⟩)
/-- a def that may be called: where it stands, what it promises -/
structure Cal (P : Program) (w : World) (K : PySem.W.Frag) (mg : Str → Option Value) (base : Heap) (x : Str) (k : Nat) (ps : List Str) (sp : Sp) : Prop where
  ex : ∃ (f : Addr) (fd : FuncData) (ds : List Value), FnOk P w K mg base CX0 k f fd ps sp ∧ mg x = some (.ref f) ∧ PySem.W.keepIn K (.ref f) = true ∧ Binds K fd ps ds ∧ Vals [] ds
section
variable {X : Cx}
theorem pcall {x : Str} {k : Nat} {ps : List Str} {sp : Sp} {e : Expr} {es : List Expr} {t : TA} {p pos : Pos} (c : Cal X.prog X.w X.K X.mg X.base x k ps sp) (hr : Room k X.A) (hg : Gl X x) (ha : PA X (e :: es) t)
    (hdb : (x == ("__debug__" : Str)) = false := by decide) (hs : starEach (e :: es) X.env = (false, eval e X.env) :: starEach es X.env := by rfl) (hpl : (backTo pos (starEach es X.env)).any (·.1) = false := by rfl) : PE X (.Call (.Name x p) (e :: es) [] pos) (tCall sp [] E0 t) := by
  obtain ⟨f, fd, ds, F, g, kp, b, v⟩ := c.ex
  exact pe_call F hr hg g kp b v pass0 ha hdb hs hpl
end
/-- the built-ins are what they were -/
structure Bl (mg : Str → Option Value) : Prop where
  abs_ : mg "abs" = none
  len_ : mg "len" = none
  all_ : mg "all" = none
  sum_ : mg "sum" = none
  sorted_ : mg "sorted" = none
  isinstance_ : mg "isinstance" = none
  int_ : mg "int" = none
  bool_ : mg "bool" = none
  tuple_ : mg "tuple" = none
  list_ : mg "list" = none
  zip_ : mg "zip" = none
  range_ : mg "range" = none
  enumerate_ : mg "enumerate" = none
end Sc
set_option Elab.async false
set_option linter.all false
set_option maxRecDepth 100000
set_option maxHeartbeats 1000000
namespace Sc
open PySem PySem.Spec PyProof.Rows L2 TL
section
variable {P : Program} {w : World} {K : PySem.W.Frag} {mg : Str → Option Value} {base : Heap} {f : Addr} {fd : FuncData}
abbrev s_divisor : Stmt := top 6
abbrev N_divisor : List Str := ["one", "other", "great", "small"]
theorem sc_divisor : FnScope N_divisor ["one", "other"] (defScope s_divisor) := ⟨rfl, rfl, rfl, by decide +kernel, rfl, by decide +kernel, by decide +kernel⟩
def sp_divisor : Sp := spG (ι := Int × Int) (fun i => [⟨_, RI, i.1⟩, ⟨_, RI, i.2⟩]) (fun _ => True) (fun i => ⟨_, RI, ((Nat.gcd i.1.natAbs i.2.natAbs : Nat) : Int)⟩)
abbrev C_divisor (P : Program) (w : World) (K : PySem.W.Frag) (mg : Str → Option Value) (base : Heap) : Prop := Cal P w K mg base "divisor" 1 ["one", "other"] (sp_divisor)
theorem ok_divisor (bl : Bl mg) (F : FnP K "divisor" s_divisor [] f fd) : FnOk P w K mg base CX0 1 f fd ["one", "other"] (sp_divisor) := by
  refine okG F sc_divisor (fun _ => rfl) (by decide) (fun cdv A outer s H E hr i hp => ⟨_, (pss_cons (ps_par (i := 2) (j := 3) rfl sc_divisor.nd rfl rfl (by decide) rfl rfl (pa_cons (pe_callB call_abs (by rfl) bl.abs_ (by first | rfl | decide +kernel) (pa_cons (pv 0) pa_nil)) (pa_cons (pe_callB call_abs (by rfl) bl.abs_ (by first | rfl | decide +kernel) (pa_cons (pv 1) pa_nil)) pa_nil)) (by rfl))
    (pss_cons (ps_while PassesOwn.never (pt_cmpR op_ne (pv 3) pe_int (nomark _)) (pss_one (ps_par (i := 2) (j := 3) rfl sc_divisor.nd rfl rfl (by decide) rfl rfl (pa_cons (pv 3) (pa_cons (pe_op op_modN (pv 2) (pv 3)) pa_nil)) (by rfl))))
    (pss_one (ps_ret (pv 2))))), fun C rt hC q => ?_⟩)
  obtain ⟨a, b⟩ := i
  refine w_seq (w_par (ea_cons (ev_abs (ev_var rfl)) (ea_cons (ev_abs (ev_var rfl)) ea_nil)) ?_)
  refine w_seq (w_while (ι := Nat × Nat) (fun j => [sl RI a, sl RI b, sl RI (j.1 : Int), sl RI (j.2 : Int)]) (fun _ => []) (fun j => j.2) (fun j => decide (j.2 ≠ 0)) (a.natAbs, b.natAbs) ⟨rfl, fun _ _ h => h⟩ rfl (fun j => Nat.gcd j.1 j.2 = Nat.gcd a.natAbs b.natAbs) rfl
    (fun j _ => (et_test (ev_neI (ev_var rfl) ev_int)).to ?_) (fun j hj hb => ?_) (fun j hj hb => ?_))
  · by_cases e : j.2 = 0 <;> simp [e]
  · have h0 : j.2 ≠ 0 := by simpa using hb
    refine ⟨(j.2, j.1 % j.2), Nat.mod_lt _ (by omega), ?_, fun I hI => ?_⟩
    · rw [← hj]; show Nat.gcd j.2 (j.1 % j.2) = _; rw [Nat.gcd_comm j.1 j.2, Nat.gcd_rec j.2 j.1, Nat.gcd_comm]
    · refine w_par (ea_cons (ev_var rfl) (ea_cons ((ev_I (ev_var rfl) (ev_var rfl) (by omega)).to (x' := ((j.1 % j.2 : Nat) : Int)) ?_) ea_nil)) hI
      rw [Int.fmod_eq_emod_of_nonneg _ (by omega)]; rfl
  · have h0 : j.2 = 0 := by simpa using hb
    refine w_ret q ((ev_var rfl).to ?_) (fun _ h => nomatch h)
    rw [← hj, h0, Nat.gcd_zero_right]
end
end Sc
set_option Elab.async false
set_option linter.all false
set_option maxRecDepth 100000
set_option maxHeartbeats 1000000
namespace Sc
open PySem PySem.Spec PyProof.Rows L2 TL Ma
theorem gcdF_append (g : Nat) (xs ys : List Int) : gcdF g (xs ++ ys) = gcdF (gcdF g xs) ys := List.foldl_append
theorem gcdL_take {xs : List Int} {i : Nat} (hi : i < xs.length) : gcdL (xs.take (i + 1)) = Nat.gcd (gcdL (xs.take i)) xs[i].natAbs := by
  have e : xs.take (i + 1) = xs.take i ++ [xs[i]] := by rw [List.take_append_getElem]
  rw [e]
  show gcdF 0 _ = _
  rw [gcdF_append]
  rfl
theorem gcdL_all {xs : List Int} : gcdL (xs.take xs.length) = gcdL xs := by rw [List.take_length]
theorem range_get (xs : List Int) (f : Int → Int) : (List.range xs.length).map (fun i => f (xs.getD i 0)) = xs.map f := by
  refine List.ext_getElem (by simp) fun i h1 h2 => ?_
  simp at h1
  simp [List.getD_eq_getElem?_getD, h1]
section
variable {P : Program} {w : World} {K : PySem.W.Frag} {mg : Str → Option Value} {base : Heap} {f : Addr} {fd : FuncData}
abbrev RLT (b : Bool) : Rl (List Int) := match b with | true => RL RI | false => RT RI
abbrev s_lowest : Stmt := top 7
abbrev N_lowest : List Str := ["numbers", "most", "number"]
theorem sc_lowest : FnScope N_lowest ["numbers"] (defScope s_lowest) := ⟨rfl, rfl, rfl, by decide +kernel, rfl, by decide +kernel, by decide +kernel⟩
def sp_lowest : Sp := spG (ι := Bool × List Int) (fun i => [⟨_, RLT i.1, i.2⟩]) (fun i => i.2.length ≤ 1000 ∧ ∀ x ∈ i.2, Bd 8000 x) (fun i => ⟨_, RT RI, low i.2⟩)
abbrev C_lowest (P : Program) (w : World) (K : PySem.W.Frag) (mg : Str → Option Value) (base : Heap) : Prop := Cal P w K mg base "lowest" 2 ["numbers"] (sp_lowest)
theorem ok_lowest (bl : Bl mg) (c_divisor : C_divisor P w K mg base) (F : FnP K "lowest" s_lowest [] f fd) : FnOk P w K mg base CX0 2 f fd ["numbers"] (sp_lowest) := by
  refine okG F sc_lowest (fun _ => rfl) (by decide) (fun cdv A outer s H E hr i hp => ?_)
  obtain ⟨b, xs⟩ := i
  obtain ⟨hz, hb⟩ := hp
  dsimp only at hz hb
  have hz9 : Bd 8000 (gcdL xs : Int) := bd_gcd hb
  cases b
  rotate_left
  · refine ⟨_, (pss_cons (ps_set (i := 1) sc_lowest.nd rfl (.inr rfl) pe_int)
    (pss_cons (ps_for PassesOwn.never rfl (pi_list (pv 0)) (pg_name (i := 2) sc_lowest.nd rfl (.inl rfl)) (pss_one (ps_set (i := 1) sc_lowest.nd rfl (.inr rfl) (pcall c_divisor (hr.mono (by decide)) (by rfl) (pa_cons (pv 1) (pa_cons (pv 2) pa_nil))))))
    (pss_cons (ps_if (pt_cmpR op_lt (pv 1) pe_int (nomark _)) (pss_one (ps_ret (pe_callTy call_tuple_of (by rfl) bl.tuple_ (by first | rfl | decide +kernel) (pa_cons (pv 0) pa_nil)))) pss_nil)
    (pss_one (ps_ret (pe_callTy call_tuple_of (by rfl) bl.tuple_ (by first | rfl | decide +kernel) (pa_cons (pe_lc (own := [("number", 2)]) (tt := tYes) rfl sc_lowest.nd (pi_list (pv 0)) (blkOk_by (N := N_lowest) (sc := defScope s_lowest) (by decide +kernel)) (fun _ _ _ _ _ => (pg_name (i := 2) sc_lowest.nd rfl (.inl rfl))) (fun _ _ _ _ _ => pts_nil) (fun _ _ _ _ _ => (pe_op op_fdivW (pv 2) (pv 1)))) pa_nil))))))), fun C rt hC q => ?_⟩
    refine w_seq (w_set ev_int ?_)
    refine w_seq (w_for (ei_list (ev_var rfl)) (fun i => [sl (RL RI) xs, sl RI ((gcdL (xs.take i) : Nat) : Int), none]) (fun _ => []) ⟨rfl, fun _ _ h => h⟩ rfl (fun _ _ => rfl) (fun C' I _ _ _ hI i hi => ?_) ?_)
    · show Wn C' _ [_, _, itS RI xs i] []
      rw [itS_get (List.getElem?_eq_getElem hi)]
      refine w_set (ev_call (_, _) (ea_cons (ev_var rfl) (ea_cons (ev_var rfl) ea_nil)) trivial) ?_
      refine w_wk (wk_same (wk_same (wk_drop wk_nil))) ?_
      have := hI (i + 1)
      rw [gcdL_take hi] at this
      exact this
    · rw [gcdL_all]
      refine w_seq (w_if (et_test (ev_cmp (ev_var rfl) ev_int)) (fun h => ?_) fun h => ?_)
      · have h2 : gcdL xs < 2 := by
          have e : (gcdL xs : Int) < 2 := of_decide_eq_true h
          omega
        exact w_ret q ((ev_tuple (ev_S_of_L (ev_var rfl))).to (low_small h2).symm) (fun _ h => nomatch h)
      · have h2 : ¬ ((gcdL xs : Int) < 2) := of_decide_eq_false h
        have h3 : (0 : Int) < (gcdL xs : Int) := by omega
        refine w_next (w_ret q ((ev_tuple (ev_S_of_L (en_lc (ei_list (ev_var rfl)) (by decide) (fun i => xs.getD i 0 / (gcdL xs : Int)) (fun _ => []) rfl hz (fun i hi => ?_)).ev)).to (range_get xs fun x => x / (gcdL xs : Int))) (fun _ h => nomatch h))
        show Ev _ [_, _, itS RI xs i] [] RI _ []
        rw [itS_get (List.getElem?_eq_getElem hi)]
        refine (ev_I (ev_var rfl) (ev_var rfl) (divOk h3 hz9 (by decide))).to ?_
        simp [List.getD_eq_getElem?_getD, hi]
  · refine ⟨_, (pss_cons (ps_set (i := 1) sc_lowest.nd rfl (.inr rfl) pe_int)
    (pss_cons (ps_for PassesOwn.never rfl (pi_tup (pv 0)) (pg_name (i := 2) sc_lowest.nd rfl (.inl rfl)) (pss_one (ps_set (i := 1) sc_lowest.nd rfl (.inr rfl) (pcall c_divisor (hr.mono (by decide)) (by rfl) (pa_cons (pv 1) (pa_cons (pv 2) pa_nil))))))
    (pss_cons (ps_if (pt_cmpR op_lt (pv 1) pe_int (nomark _)) (pss_one (ps_ret (pe_callTy call_tuple_of (by rfl) bl.tuple_ (by first | rfl | decide +kernel) (pa_cons (pv 0) pa_nil)))) pss_nil)
    (pss_one (ps_ret (pe_callTy call_tuple_of (by rfl) bl.tuple_ (by first | rfl | decide +kernel) (pa_cons (pe_lc (own := [("number", 2)]) (tt := tYes) rfl sc_lowest.nd (pi_tup (pv 0)) (blkOk_by (N := N_lowest) (sc := defScope s_lowest) (by decide +kernel)) (fun _ _ _ _ _ => (pg_name (i := 2) sc_lowest.nd rfl (.inl rfl))) (fun _ _ _ _ _ => pts_nil) (fun _ _ _ _ _ => (pe_op op_fdivW (pv 2) (pv 1)))) pa_nil))))))), fun C rt hC q => ?_⟩
    refine w_seq (w_set ev_int ?_)
    refine w_seq (w_for (ei_tup (ev_var rfl)) (fun i => [sl (RT RI) xs, sl RI ((gcdL (xs.take i) : Nat) : Int), none]) (fun _ => []) ⟨rfl, fun _ _ h => h⟩ rfl (fun _ _ => rfl) (fun C' I _ _ _ hI i hi => ?_) ?_)
    · show Wn C' _ [_, _, itS RI xs i] []
      rw [itS_get (List.getElem?_eq_getElem hi)]
      refine w_set (ev_call (_, _) (ea_cons (ev_var rfl) (ea_cons (ev_var rfl) ea_nil)) trivial) ?_
      refine w_wk (wk_same (wk_same (wk_drop wk_nil))) ?_
      have := hI (i + 1)
      rw [gcdL_take hi] at this
      exact this
    · rw [gcdL_all]
      refine w_seq (w_if (et_test (ev_cmp (ev_var rfl) ev_int)) (fun h => ?_) fun h => ?_)
      · have h2 : gcdL xs < 2 := by
          have e : (gcdL xs : Int) < 2 := of_decide_eq_true h
          omega
        exact w_ret q ((ev_tuple (ev_S_of_T (ev_var rfl))).to (low_small h2).symm) (fun _ h => nomatch h)
      · have h2 : ¬ ((gcdL xs : Int) < 2) := of_decide_eq_false h
        have h3 : (0 : Int) < (gcdL xs : Int) := by omega
        refine w_next (w_ret q ((ev_tuple (ev_S_of_L (en_lc (ei_tup (ev_var rfl)) (by decide) (fun i => xs.getD i 0 / (gcdL xs : Int)) (fun _ => []) rfl hz (fun i hi => ?_)).ev)).to (range_get xs fun x => x / (gcdL xs : Int))) (fun _ h => nomatch h))
        show Ev _ [_, _, itS RI xs i] [] RI _ []
        rw [itS_get (List.getElem?_eq_getElem hi)]
        refine (ev_I (ev_var rfl) (ev_var rfl) (divOk h3 hz9 (by decide))).to ?_
        simp [List.getD_eq_getElem?_getD, hi]
end
end Sc
set_option Elab.async false
set_option linter.all false
set_option maxRecDepth 100000
set_option maxHeartbeats 1000000
namespace Sc
open PySem PySem.Spec PyProof.Rows L2 TL Ma
section
variable {P : Program} {w : World} {K : PySem.W.Frag} {mg : Str → Option Value} {base : Heap} {f : Addr} {fd : FuncData}
abbrev s_point : Stmt := top 9
abbrev N_point : List Str := ["numbers", "bottom", "number"]
theorem sc_point : FnScope N_point ["numbers", "bottom"] (defScope s_point) := ⟨rfl, rfl, rfl, by decide +kernel, rfl, by decide +kernel, by decide +kernel⟩
def sp_point : Sp := spG (ι := List Int × Int) (fun i => [⟨_, RL RI, i.1⟩, ⟨_, RI, i.2⟩]) (fun i => i.1.length ≤ 900 ∧ (∀ x ∈ i.1, Bd 8000 x) ∧ 0 < i.2 ∧ Bd 8000 i.2) (fun i => ⟨_, RT RI, low (i.1 ++ [i.2])⟩)
abbrev C_point (P : Program) (w : World) (K : PySem.W.Frag) (mg : Str → Option Value) (base : Heap) : Prop := Cal P w K mg base "point" 3 ["numbers", "bottom"] (sp_point)
theorem ok_point (bl : Bl mg) (c_lowest : C_lowest P w K mg base) (F : FnP K "point" s_point [.int 1] f fd) : FnOk P w K mg base CX0 3 f fd ["numbers", "bottom"] (sp_point) := by
  refine okG F sc_point (fun _ => rfl) (by decide) (fun cdv A outer s H E hr i hp => ⟨_, (pss_cons (ps_if (pt_cmpR op_eq (pv 1) pe_int (nomark _)) (pss_one ps_never) pss_nil)
    (pss_cons (ps_if (pt_cmpR op_lt (pv 1) pe_int (nomark _)) (pss_one (ps_ret (pcall c_lowest (hr.mono (by decide)) (by rfl) (pa_cons (pe_op op_cat (pe_lc (own := [("number", 2)]) (tt := tYes) rfl sc_point.nd (pi_list (pv 0)) (blkOk_by (N := N_point) (sc := defScope s_point) (by decide +kernel)) (fun _ _ _ _ _ => (pg_name (i := 2) sc_point.nd rfl (.inl rfl))) (fun _ _ _ _ _ => pts_nil) (fun _ _ _ _ _ => (pe_un un_neg (pv 2)))) (pe_lst (pa_cons (pe_un un_neg (pv 1)) pa_nil))) pa_nil)))) pss_nil)
    (pss_one (ps_ret (pcall c_lowest (hr.mono (by decide)) (by rfl) (pa_cons (pe_op op_cat (pe_callTy call_list_of (by rfl) bl.list_ (by first | rfl | decide +kernel) (pa_cons (pv 0) pa_nil)) (pe_lst (pa_cons (pv 1) pa_nil))) pa_nil)))))), fun C rt hC q => ?_⟩)
  obtain ⟨xs, b⟩ := i
  obtain ⟨hz, hb, h0, hB⟩ := hp
  dsimp only at hz hb h0 hB
  refine w_seq (w_no ((et_test (ev_eqI (ev_var rfl) ev_int)).to (decide_eq_false (by show ¬ b = 0; omega))) (w_nx ?_))
  refine w_seq (w_no ((et_test (ev_cmp (ev_var rfl) ev_int)).to (decide_eq_false (by show ¬ b < 0; omega))) (w_nx ?_))
  refine w_re (ev_call (true, xs ++ [b]) (ea_cons (en_cat (en_list (ev_S_of_L (ev_var rfl))).ev (en_lst (ea_scons (ev_var rfl) ea_snil) (le_by rfl)).ev (by show xs.length + 1 ≤ 1000; omega)).ev ea_nil) ⟨by rw [List.length_append]; show xs.length + 1 ≤ 1000; omega, fun x hx => ?_⟩) q (fun _ h => nomatch h)
  rcases List.mem_append.mp hx with hx | hx
  · exact hb x hx
  · cases List.mem_singleton.mp hx
    exact hB
abbrev s_added : Stmt := top 10
abbrev N_added : List Str := ["p", "q", "one", "other"]
theorem sc_added : FnScope N_added ["p", "q"] (defScope s_added) := ⟨rfl, rfl, rfl, by decide +kernel, rfl, by decide +kernel, by decide +kernel⟩
def sp_added : Sp := spG (ι := P4 × P4) (fun i => [⟨_, RT RI, i.1.l⟩, ⟨_, RT RI, i.2.l⟩]) (fun i => i.1.Z ∧ i.2.Z) (fun i => ⟨_, RT RI, (add i.1 i.2).l⟩)
abbrev C_added (P : Program) (w : World) (K : PySem.W.Frag) (mg : Str → Option Value) (base : Heap) : Prop := Cal P w K mg base "added" 4 ["p", "q"] (sp_added)
theorem all3 {k : Nat} {a b c : Int} (h1 : Bd k a) (h2 : Bd k b) (h3 : Bd k c) : ∀ x ∈ [a, b, c], Bd k x := fun x hx => by
  simp only [List.mem_cons, List.not_mem_nil, or_false] at hx
  rcases hx with rfl | rfl | rfl <;> assumption
theorem all4 {k : Nat} {a b c d : Int} (h1 : Bd k a) (h2 : Bd k b) (h3 : Bd k c) (h4 : Bd k d) : ∀ x ∈ [a, b, c, d], Bd k x := fun x hx => by
  simp only [List.mem_cons, List.not_mem_nil, or_false] at hx
  rcases hx with rfl | rfl | rfl | rfl <;> assumption
theorem ok_added (bl : Bl mg) (c_point : C_point P w K mg base) (F : FnP K "added" s_added [] f fd) : FnOk P w K mg base CX0 4 f fd ["p", "q"] (sp_added) := by
  refine okG F sc_added (fun _ => rfl) (by decide) (fun cdv A outer s H E hr i hp => ⟨_, (pss_one (ps_ret (pcall c_point (hr.mono (by decide)) (by rfl) (pa_cons (pe_lc (own := [("one", 2), ("other", 3)]) (tt := tYes) rfl sc_added.nd (RZ.pi_zipA (by rfl) bl.zip_ (pa_cons (pe_slice sl_tupA (pv 0) po_none (po_some (pe_un un_neg pe_int))) (pa_cons (pe_slice sl_tupA (pv 1) po_none (po_some (pe_un un_neg pe_int))) pa_nil))) (blkOk_by (N := N_added) (sc := defScope s_added) (by decide +kernel)) (fun _ _ _ _ _ => (pg_tupK (K := K) (n := 2) rfl (by rfl) (pgs_cons (pg_name (i := 2) sc_added.nd rfl (.inl rfl)) (pgs_cons (pg_name (i := 3) sc_added.nd rfl (.inl rfl)) pgs_nil)))) (fun _ _ _ _ _ => pts_nil) (fun _ _ _ _ _ => (pe_op op_add (pe_op op_mulX (pv 2) (pe_ix (r := rIxT K) ix_tup (pv 1) (pe_un un_neg pe_int) (fun _ _ => rfl))) (pe_op op_mulX (pv 3) (pe_ix (r := rIxT K) ix_tup (pv 0) (pe_un un_neg pe_int) (fun _ _ => rfl)))))) (pa_cons (pe_op op_mulX (pe_ix ix_tup (pv 0) (pe_un un_neg pe_int) (fun _ _ => rfl)) (pe_ix ix_tup (pv 1) (pe_un un_neg pe_int) (fun _ _ => rfl))) pa_nil))))), fun C rt hC q => ?_⟩)
  obtain ⟨p, a⟩ := i
  obtain ⟨hp, ha⟩ := hp
  dsimp only at hp ha
  have hh : ∀ {x y z u : Int}, Bd 400 x → Bd 400 y → Bd 400 z → Bd 400 u → Bd 8000 (x * y + z * u) := fun h1 h2 h3 h4 => ((h1.mul h2).add (h3.mul h4)).mono (by decide)
  exact w_re ((ev_call (_, _) (ea_cons (EvN.ev (en_lc3 (ei_zipT (ea_cons (ev_slT (ev_var rfl) eo_none (eo_some (ev_neg ev_int))) (ea_cons (ev_slT (ev_var rfl) eo_none (eo_some (ev_neg ev_int))) ea_nil))) (by decide) rfl (ev_I0 (ev_I (ev_var rfl) (ev_ixT (ev_var rfl) (ev_neg ev_int) rfl) (by apply mulOk; (case h => (repeat' (first | assumption | exact Bd.lit (a := 64) rfl | exact P4.Z.x (by assumption) | exact P4.Z.y (by assumption) | exact P4.Z.z (by assumption) | exact P4.Z.w (by assumption) | exact V3.B.x (by assumption) | exact V3.B.y (by assumption) | exact V3.B.z (by assumption) | apply Bd.mul | apply Bd.add | apply Bd.sub | apply Bd.neg))); (case g => (repeat' (first | assumption | exact Bd.lit (a := 64) rfl | exact P4.Z.x (by assumption) | exact P4.Z.y (by assumption) | exact P4.Z.z (by assumption) | exact P4.Z.w (by assumption) | exact V3.B.x (by assumption) | exact V3.B.y (by assumption) | exact V3.B.z (by assumption) | apply Bd.mul | apply Bd.add | apply Bd.sub | apply Bd.neg))); (case l => decide))) (ev_I (ev_var rfl) (ev_ixT (ev_var rfl) (ev_neg ev_int) rfl) (by apply mulOk; (case h => (repeat' (first | assumption | exact Bd.lit (a := 64) rfl | exact P4.Z.x (by assumption) | exact P4.Z.y (by assumption) | exact P4.Z.z (by assumption) | exact P4.Z.w (by assumption) | exact V3.B.x (by assumption) | exact V3.B.y (by assumption) | exact V3.B.z (by assumption) | apply Bd.mul | apply Bd.add | apply Bd.sub | apply Bd.neg))); (case g => (repeat' (first | assumption | exact Bd.lit (a := 64) rfl | exact P4.Z.x (by assumption) | exact P4.Z.y (by assumption) | exact P4.Z.z (by assumption) | exact P4.Z.w (by assumption) | exact V3.B.x (by assumption) | exact V3.B.y (by assumption) | exact V3.B.z (by assumption) | apply Bd.mul | apply Bd.add | apply Bd.sub | apply Bd.neg))); (case l => decide)))) (ev_I0 (ev_I (ev_var rfl) (ev_ixT (ev_var rfl) (ev_neg ev_int) rfl) (by apply mulOk; (case h => (repeat' (first | assumption | exact Bd.lit (a := 64) rfl | exact P4.Z.x (by assumption) | exact P4.Z.y (by assumption) | exact P4.Z.z (by assumption) | exact P4.Z.w (by assumption) | exact V3.B.x (by assumption) | exact V3.B.y (by assumption) | exact V3.B.z (by assumption) | apply Bd.mul | apply Bd.add | apply Bd.sub | apply Bd.neg))); (case g => (repeat' (first | assumption | exact Bd.lit (a := 64) rfl | exact P4.Z.x (by assumption) | exact P4.Z.y (by assumption) | exact P4.Z.z (by assumption) | exact P4.Z.w (by assumption) | exact V3.B.x (by assumption) | exact V3.B.y (by assumption) | exact V3.B.z (by assumption) | apply Bd.mul | apply Bd.add | apply Bd.sub | apply Bd.neg))); (case l => decide))) (ev_I (ev_var rfl) (ev_ixT (ev_var rfl) (ev_neg ev_int) rfl) (by apply mulOk; (case h => (repeat' (first | assumption | exact Bd.lit (a := 64) rfl | exact P4.Z.x (by assumption) | exact P4.Z.y (by assumption) | exact P4.Z.z (by assumption) | exact P4.Z.w (by assumption) | exact V3.B.x (by assumption) | exact V3.B.y (by assumption) | exact V3.B.z (by assumption) | apply Bd.mul | apply Bd.add | apply Bd.sub | apply Bd.neg))); (case g => (repeat' (first | assumption | exact Bd.lit (a := 64) rfl | exact P4.Z.x (by assumption) | exact P4.Z.y (by assumption) | exact P4.Z.z (by assumption) | exact P4.Z.w (by assumption) | exact V3.B.x (by assumption) | exact V3.B.y (by assumption) | exact V3.B.z (by assumption) | apply Bd.mul | apply Bd.add | apply Bd.sub | apply Bd.neg))); (case l => decide)))) (ev_I0 (ev_I (ev_var rfl) (ev_ixT (ev_var rfl) (ev_neg ev_int) rfl) (by apply mulOk; (case h => (repeat' (first | assumption | exact Bd.lit (a := 64) rfl | exact P4.Z.x (by assumption) | exact P4.Z.y (by assumption) | exact P4.Z.z (by assumption) | exact P4.Z.w (by assumption) | exact V3.B.x (by assumption) | exact V3.B.y (by assumption) | exact V3.B.z (by assumption) | apply Bd.mul | apply Bd.add | apply Bd.sub | apply Bd.neg))); (case g => (repeat' (first | assumption | exact Bd.lit (a := 64) rfl | exact P4.Z.x (by assumption) | exact P4.Z.y (by assumption) | exact P4.Z.z (by assumption) | exact P4.Z.w (by assumption) | exact V3.B.x (by assumption) | exact V3.B.y (by assumption) | exact V3.B.z (by assumption) | apply Bd.mul | apply Bd.add | apply Bd.sub | apply Bd.neg))); (case l => decide))) (ev_I (ev_var rfl) (ev_ixT (ev_var rfl) (ev_neg ev_int) rfl) (by apply mulOk; (case h => (repeat' (first | assumption | exact Bd.lit (a := 64) rfl | exact P4.Z.x (by assumption) | exact P4.Z.y (by assumption) | exact P4.Z.z (by assumption) | exact P4.Z.w (by assumption) | exact V3.B.x (by assumption) | exact V3.B.y (by assumption) | exact V3.B.z (by assumption) | apply Bd.mul | apply Bd.add | apply Bd.sub | apply Bd.neg))); (case g => (repeat' (first | assumption | exact Bd.lit (a := 64) rfl | exact P4.Z.x (by assumption) | exact P4.Z.y (by assumption) | exact P4.Z.z (by assumption) | exact P4.Z.w (by assumption) | exact V3.B.x (by assumption) | exact V3.B.y (by assumption) | exact V3.B.z (by assumption) | apply Bd.mul | apply Bd.add | apply Bd.sub | apply Bd.neg))); (case l => decide)))))) (ea_cons (ev_I (ev_ixT (ev_var rfl) (ev_neg ev_int) rfl) (ev_ixT (ev_var rfl) (ev_neg ev_int) rfl) (by apply mulOk; (case h => (repeat' (first | assumption | exact Bd.lit (a := 64) rfl | exact P4.Z.x (by assumption) | exact P4.Z.y (by assumption) | exact P4.Z.z (by assumption) | exact P4.Z.w (by assumption) | exact V3.B.x (by assumption) | exact V3.B.y (by assumption) | exact V3.B.z (by assumption) | apply Bd.mul | apply Bd.add | apply Bd.sub | apply Bd.neg))); (case g => (repeat' (first | assumption | exact Bd.lit (a := 64) rfl | exact P4.Z.x (by assumption) | exact P4.Z.y (by assumption) | exact P4.Z.z (by assumption) | exact P4.Z.w (by assumption) | exact V3.B.x (by assumption) | exact V3.B.y (by assumption) | exact V3.B.z (by assumption) | apply Bd.mul | apply Bd.add | apply Bd.sub | apply Bd.neg))); (case l => decide))) ea_nil)) ⟨le_by rfl, all3 (hh hp.x ha.w ha.x hp.w) (hh hp.y ha.w ha.y hp.w) (hh hp.z ha.w ha.z hp.w), Int.mul_pos hp.w0 ha.w0, (hp.w.mul ha.w).mono (by decide)⟩)) q (fun _ h => nomatch h)
abbrev s_arrow : Stmt := top 13
abbrev N_arrow : List Str := ["p", "q", "one", "other"]
theorem sc_arrow : FnScope N_arrow ["p", "q"] (defScope s_arrow) := ⟨rfl, rfl, rfl, by decide +kernel, rfl, by decide +kernel, by decide +kernel⟩
def sp_arrow : Sp := spG (ι := P4 × P4) (fun i => [⟨_, RT RI, i.1.l⟩, ⟨_, RT RI, i.2.l⟩]) (fun i => i.1.Z ∧ i.2.Z) (fun i => ⟨_, RT RI, (gap i.1 i.2).l⟩)
abbrev C_arrow (P : Program) (w : World) (K : PySem.W.Frag) (mg : Str → Option Value) (base : Heap) : Prop := Cal P w K mg base "arrow" 1 ["p", "q"] (sp_arrow)
theorem ok_arrow (bl : Bl mg) (F : FnP K "arrow" s_arrow [] f fd) : FnOk P w K mg base CX0 1 f fd ["p", "q"] (sp_arrow) := by
  refine okG F sc_arrow (fun _ => rfl) (by decide) (fun cdv A outer s H E hr i hp => ⟨_, (pss_one (ps_ret (pe_callTy call_tuple_of (by rfl) bl.tuple_ (by first | rfl | decide +kernel) (pa_cons (pe_lc (own := [("one", 2), ("other", 3)]) (tt := tYes) rfl sc_arrow.nd (RZ.pi_zipA (by rfl) bl.zip_ (pa_cons (pe_slice sl_tupA (pv 0) po_none (po_some (pe_un un_neg pe_int))) (pa_cons (pe_slice sl_tupA (pv 1) po_none (po_some (pe_un un_neg pe_int))) pa_nil))) (blkOk_by (N := N_arrow) (sc := defScope s_arrow) (by decide +kernel)) (fun _ _ _ _ _ => (pg_tupK (K := K) (n := 2) rfl (by rfl) (pgs_cons (pg_name (i := 2) sc_arrow.nd rfl (.inl rfl)) (pgs_cons (pg_name (i := 3) sc_arrow.nd rfl (.inl rfl)) pgs_nil)))) (fun _ _ _ _ _ => pts_nil) (fun _ _ _ _ _ => (pe_op op_sub (pe_op op_mulX (pv 3) (pe_ix (r := rIxT K) ix_tup (pv 0) (pe_un un_neg pe_int) (fun _ _ => rfl))) (pe_op op_mulX (pv 2) (pe_ix (r := rIxT K) ix_tup (pv 1) (pe_un un_neg pe_int) (fun _ _ => rfl)))))) pa_nil)))), fun C rt hC q => ?_⟩)
  obtain ⟨p, a⟩ := i
  obtain ⟨hp, ha⟩ := hp
  dsimp only at hp ha
  exact w_re ((ev_tuple (ev_S_of_L (EvN.ev (en_lc3 (ei_zipT (ea_cons (ev_slT (ev_var rfl) eo_none (eo_some (ev_neg ev_int))) (ea_cons (ev_slT (ev_var rfl) eo_none (eo_some (ev_neg ev_int))) ea_nil))) (by decide) rfl (ev_I0 (ev_I (ev_var rfl) (ev_ixT (ev_var rfl) (ev_neg ev_int) rfl) (by apply mulOk; (case h => (repeat' (first | assumption | exact Bd.lit (a := 64) rfl | exact P4.Z.x (by assumption) | exact P4.Z.y (by assumption) | exact P4.Z.z (by assumption) | exact P4.Z.w (by assumption) | exact V3.B.x (by assumption) | exact V3.B.y (by assumption) | exact V3.B.z (by assumption) | apply Bd.mul | apply Bd.add | apply Bd.sub | apply Bd.neg))); (case g => (repeat' (first | assumption | exact Bd.lit (a := 64) rfl | exact P4.Z.x (by assumption) | exact P4.Z.y (by assumption) | exact P4.Z.z (by assumption) | exact P4.Z.w (by assumption) | exact V3.B.x (by assumption) | exact V3.B.y (by assumption) | exact V3.B.z (by assumption) | apply Bd.mul | apply Bd.add | apply Bd.sub | apply Bd.neg))); (case l => decide))) (ev_I (ev_var rfl) (ev_ixT (ev_var rfl) (ev_neg ev_int) rfl) (by apply mulOk; (case h => (repeat' (first | assumption | exact Bd.lit (a := 64) rfl | exact P4.Z.x (by assumption) | exact P4.Z.y (by assumption) | exact P4.Z.z (by assumption) | exact P4.Z.w (by assumption) | exact V3.B.x (by assumption) | exact V3.B.y (by assumption) | exact V3.B.z (by assumption) | apply Bd.mul | apply Bd.add | apply Bd.sub | apply Bd.neg))); (case g => (repeat' (first | assumption | exact Bd.lit (a := 64) rfl | exact P4.Z.x (by assumption) | exact P4.Z.y (by assumption) | exact P4.Z.z (by assumption) | exact P4.Z.w (by assumption) | exact V3.B.x (by assumption) | exact V3.B.y (by assumption) | exact V3.B.z (by assumption) | apply Bd.mul | apply Bd.add | apply Bd.sub | apply Bd.neg))); (case l => decide)))) (ev_I0 (ev_I (ev_var rfl) (ev_ixT (ev_var rfl) (ev_neg ev_int) rfl) (by apply mulOk; (case h => (repeat' (first | assumption | exact Bd.lit (a := 64) rfl | exact P4.Z.x (by assumption) | exact P4.Z.y (by assumption) | exact P4.Z.z (by assumption) | exact P4.Z.w (by assumption) | exact V3.B.x (by assumption) | exact V3.B.y (by assumption) | exact V3.B.z (by assumption) | apply Bd.mul | apply Bd.add | apply Bd.sub | apply Bd.neg))); (case g => (repeat' (first | assumption | exact Bd.lit (a := 64) rfl | exact P4.Z.x (by assumption) | exact P4.Z.y (by assumption) | exact P4.Z.z (by assumption) | exact P4.Z.w (by assumption) | exact V3.B.x (by assumption) | exact V3.B.y (by assumption) | exact V3.B.z (by assumption) | apply Bd.mul | apply Bd.add | apply Bd.sub | apply Bd.neg))); (case l => decide))) (ev_I (ev_var rfl) (ev_ixT (ev_var rfl) (ev_neg ev_int) rfl) (by apply mulOk; (case h => (repeat' (first | assumption | exact Bd.lit (a := 64) rfl | exact P4.Z.x (by assumption) | exact P4.Z.y (by assumption) | exact P4.Z.z (by assumption) | exact P4.Z.w (by assumption) | exact V3.B.x (by assumption) | exact V3.B.y (by assumption) | exact V3.B.z (by assumption) | apply Bd.mul | apply Bd.add | apply Bd.sub | apply Bd.neg))); (case g => (repeat' (first | assumption | exact Bd.lit (a := 64) rfl | exact P4.Z.x (by assumption) | exact P4.Z.y (by assumption) | exact P4.Z.z (by assumption) | exact P4.Z.w (by assumption) | exact V3.B.x (by assumption) | exact V3.B.y (by assumption) | exact V3.B.z (by assumption) | apply Bd.mul | apply Bd.add | apply Bd.sub | apply Bd.neg))); (case l => decide)))) (ev_I0 (ev_I (ev_var rfl) (ev_ixT (ev_var rfl) (ev_neg ev_int) rfl) (by apply mulOk; (case h => (repeat' (first | assumption | exact Bd.lit (a := 64) rfl | exact P4.Z.x (by assumption) | exact P4.Z.y (by assumption) | exact P4.Z.z (by assumption) | exact P4.Z.w (by assumption) | exact V3.B.x (by assumption) | exact V3.B.y (by assumption) | exact V3.B.z (by assumption) | apply Bd.mul | apply Bd.add | apply Bd.sub | apply Bd.neg))); (case g => (repeat' (first | assumption | exact Bd.lit (a := 64) rfl | exact P4.Z.x (by assumption) | exact P4.Z.y (by assumption) | exact P4.Z.z (by assumption) | exact P4.Z.w (by assumption) | exact V3.B.x (by assumption) | exact V3.B.y (by assumption) | exact V3.B.z (by assumption) | apply Bd.mul | apply Bd.add | apply Bd.sub | apply Bd.neg))); (case l => decide))) (ev_I (ev_var rfl) (ev_ixT (ev_var rfl) (ev_neg ev_int) rfl) (by apply mulOk; (case h => (repeat' (first | assumption | exact Bd.lit (a := 64) rfl | exact P4.Z.x (by assumption) | exact P4.Z.y (by assumption) | exact P4.Z.z (by assumption) | exact P4.Z.w (by assumption) | exact V3.B.x (by assumption) | exact V3.B.y (by assumption) | exact V3.B.z (by assumption) | apply Bd.mul | apply Bd.add | apply Bd.sub | apply Bd.neg))); (case g => (repeat' (first | assumption | exact Bd.lit (a := 64) rfl | exact P4.Z.x (by assumption) | exact P4.Z.y (by assumption) | exact P4.Z.z (by assumption) | exact P4.Z.w (by assumption) | exact V3.B.x (by assumption) | exact V3.B.y (by assumption) | exact V3.B.z (by assumption) | apply Bd.mul | apply Bd.add | apply Bd.sub | apply Bd.neg))); (case l => decide))))))))) q (fun _ h => nomatch h)
abbrev s_cross : Stmt := top 14
abbrev N_cross : List Str := ["u", "v"]
theorem sc_cross : FnScope N_cross ["u", "v"] (defScope s_cross) := ⟨rfl, rfl, rfl, by decide +kernel, rfl, by decide +kernel, by decide +kernel⟩
def sp_cross : Sp := spG (ι := V3 × V3) (fun i => [⟨_, RT RI, i.1.l⟩, ⟨_, RT RI, i.2.l⟩]) (fun i => i.1.B 2000 ∧ i.2.B 2000) (fun i => ⟨_, RT RI, (crs i.1 i.2).l⟩)
abbrev C_cross (P : Program) (w : World) (K : PySem.W.Frag) (mg : Str → Option Value) (base : Heap) : Prop := Cal P w K mg base "cross" 1 ["u", "v"] (sp_cross)
theorem ok_cross (bl : Bl mg) (F : FnP K "cross" s_cross [] f fd) : FnOk P w K mg base CX0 1 f fd ["u", "v"] (sp_cross) := by
  refine okG F sc_cross (fun _ => rfl) (by decide) (fun cdv A outer s H E hr i hp => ⟨_, (pss_one (ps_ret (pe_tup (pa_cons (pe_op op_sub (pe_op op_mulX (pe_ix ix_tup (pv 0) pe_int (fun _ _ => rfl)) (pe_ix ix_tup (pv 1) pe_int (fun _ _ => rfl))) (pe_op op_mulX (pe_ix ix_tup (pv 0) pe_int (fun _ _ => rfl)) (pe_ix ix_tup (pv 1) pe_int (fun _ _ => rfl)))) (pa_cons (pe_op op_sub (pe_op op_mulX (pe_ix ix_tup (pv 0) pe_int (fun _ _ => rfl)) (pe_ix ix_tup (pv 1) pe_int (fun _ _ => rfl))) (pe_op op_mulX (pe_ix ix_tup (pv 0) pe_int (fun _ _ => rfl)) (pe_ix ix_tup (pv 1) pe_int (fun _ _ => rfl)))) (pa_cons (pe_op op_sub (pe_op op_mulX (pe_ix ix_tup (pv 0) pe_int (fun _ _ => rfl)) (pe_ix ix_tup (pv 1) pe_int (fun _ _ => rfl))) (pe_op op_mulX (pe_ix ix_tup (pv 0) pe_int (fun _ _ => rfl)) (pe_ix ix_tup (pv 1) pe_int (fun _ _ => rfl)))) pa_nil)))))), fun C rt hC q => ?_⟩)
  obtain ⟨p, a⟩ := i
  obtain ⟨hp, ha⟩ := hp
  dsimp only at hp ha
  exact w_re ((ev_tup (ea_scons (ev_I0 (ev_I (ev_ixT (ev_var rfl) ev_int rfl) (ev_ixT (ev_var rfl) ev_int rfl) (by apply mulOk; (case h => (repeat' (first | assumption | exact Bd.lit (a := 64) rfl | exact P4.Z.x (by assumption) | exact P4.Z.y (by assumption) | exact P4.Z.z (by assumption) | exact P4.Z.w (by assumption) | exact V3.B.x (by assumption) | exact V3.B.y (by assumption) | exact V3.B.z (by assumption) | apply Bd.mul | apply Bd.add | apply Bd.sub | apply Bd.neg))); (case g => (repeat' (first | assumption | exact Bd.lit (a := 64) rfl | exact P4.Z.x (by assumption) | exact P4.Z.y (by assumption) | exact P4.Z.z (by assumption) | exact P4.Z.w (by assumption) | exact V3.B.x (by assumption) | exact V3.B.y (by assumption) | exact V3.B.z (by assumption) | apply Bd.mul | apply Bd.add | apply Bd.sub | apply Bd.neg))); (case l => decide))) (ev_I (ev_ixT (ev_var rfl) ev_int rfl) (ev_ixT (ev_var rfl) ev_int rfl) (by apply mulOk; (case h => (repeat' (first | assumption | exact Bd.lit (a := 64) rfl | exact P4.Z.x (by assumption) | exact P4.Z.y (by assumption) | exact P4.Z.z (by assumption) | exact P4.Z.w (by assumption) | exact V3.B.x (by assumption) | exact V3.B.y (by assumption) | exact V3.B.z (by assumption) | apply Bd.mul | apply Bd.add | apply Bd.sub | apply Bd.neg))); (case g => (repeat' (first | assumption | exact Bd.lit (a := 64) rfl | exact P4.Z.x (by assumption) | exact P4.Z.y (by assumption) | exact P4.Z.z (by assumption) | exact P4.Z.w (by assumption) | exact V3.B.x (by assumption) | exact V3.B.y (by assumption) | exact V3.B.z (by assumption) | apply Bd.mul | apply Bd.add | apply Bd.sub | apply Bd.neg))); (case l => decide)))) (ea_scons (ev_I0 (ev_I (ev_ixT (ev_var rfl) ev_int rfl) (ev_ixT (ev_var rfl) ev_int rfl) (by apply mulOk; (case h => (repeat' (first | assumption | exact Bd.lit (a := 64) rfl | exact P4.Z.x (by assumption) | exact P4.Z.y (by assumption) | exact P4.Z.z (by assumption) | exact P4.Z.w (by assumption) | exact V3.B.x (by assumption) | exact V3.B.y (by assumption) | exact V3.B.z (by assumption) | apply Bd.mul | apply Bd.add | apply Bd.sub | apply Bd.neg))); (case g => (repeat' (first | assumption | exact Bd.lit (a := 64) rfl | exact P4.Z.x (by assumption) | exact P4.Z.y (by assumption) | exact P4.Z.z (by assumption) | exact P4.Z.w (by assumption) | exact V3.B.x (by assumption) | exact V3.B.y (by assumption) | exact V3.B.z (by assumption) | apply Bd.mul | apply Bd.add | apply Bd.sub | apply Bd.neg))); (case l => decide))) (ev_I (ev_ixT (ev_var rfl) ev_int rfl) (ev_ixT (ev_var rfl) ev_int rfl) (by apply mulOk; (case h => (repeat' (first | assumption | exact Bd.lit (a := 64) rfl | exact P4.Z.x (by assumption) | exact P4.Z.y (by assumption) | exact P4.Z.z (by assumption) | exact P4.Z.w (by assumption) | exact V3.B.x (by assumption) | exact V3.B.y (by assumption) | exact V3.B.z (by assumption) | apply Bd.mul | apply Bd.add | apply Bd.sub | apply Bd.neg))); (case g => (repeat' (first | assumption | exact Bd.lit (a := 64) rfl | exact P4.Z.x (by assumption) | exact P4.Z.y (by assumption) | exact P4.Z.z (by assumption) | exact P4.Z.w (by assumption) | exact V3.B.x (by assumption) | exact V3.B.y (by assumption) | exact V3.B.z (by assumption) | apply Bd.mul | apply Bd.add | apply Bd.sub | apply Bd.neg))); (case l => decide)))) (ea_scons (ev_I0 (ev_I (ev_ixT (ev_var rfl) ev_int rfl) (ev_ixT (ev_var rfl) ev_int rfl) (by apply mulOk; (case h => (repeat' (first | assumption | exact Bd.lit (a := 64) rfl | exact P4.Z.x (by assumption) | exact P4.Z.y (by assumption) | exact P4.Z.z (by assumption) | exact P4.Z.w (by assumption) | exact V3.B.x (by assumption) | exact V3.B.y (by assumption) | exact V3.B.z (by assumption) | apply Bd.mul | apply Bd.add | apply Bd.sub | apply Bd.neg))); (case g => (repeat' (first | assumption | exact Bd.lit (a := 64) rfl | exact P4.Z.x (by assumption) | exact P4.Z.y (by assumption) | exact P4.Z.z (by assumption) | exact P4.Z.w (by assumption) | exact V3.B.x (by assumption) | exact V3.B.y (by assumption) | exact V3.B.z (by assumption) | apply Bd.mul | apply Bd.add | apply Bd.sub | apply Bd.neg))); (case l => decide))) (ev_I (ev_ixT (ev_var rfl) ev_int rfl) (ev_ixT (ev_var rfl) ev_int rfl) (by apply mulOk; (case h => (repeat' (first | assumption | exact Bd.lit (a := 64) rfl | exact P4.Z.x (by assumption) | exact P4.Z.y (by assumption) | exact P4.Z.z (by assumption) | exact P4.Z.w (by assumption) | exact V3.B.x (by assumption) | exact V3.B.y (by assumption) | exact V3.B.z (by assumption) | apply Bd.mul | apply Bd.add | apply Bd.sub | apply Bd.neg))); (case g => (repeat' (first | assumption | exact Bd.lit (a := 64) rfl | exact P4.Z.x (by assumption) | exact P4.Z.y (by assumption) | exact P4.Z.z (by assumption) | exact P4.Z.w (by assumption) | exact V3.B.x (by assumption) | exact V3.B.y (by assumption) | exact V3.B.z (by assumption) | apply Bd.mul | apply Bd.add | apply Bd.sub | apply Bd.neg))); (case l => decide)))) ea_snil))) (le_by rfl))) q (fun _ h => nomatch h)
abbrev s_dot : Stmt := top 15
abbrev N_dot : List Str := ["u", "v", "one", "other"]
theorem sc_dot : FnScope N_dot ["u", "v"] (defScope s_dot) := ⟨rfl, rfl, rfl, by decide +kernel, rfl, by decide +kernel, by decide +kernel⟩
def sp_dot : Sp := spG (ι := V3 × V3) (fun i => [⟨_, RT RI, i.1.l⟩, ⟨_, RT RI, i.2.l⟩]) (fun i => i.1.B 4001 ∧ i.2.B 4001) (fun i => ⟨_, RI, dt i.1 i.2⟩)
abbrev C_dot (P : Program) (w : World) (K : PySem.W.Frag) (mg : Str → Option Value) (base : Heap) : Prop := Cal P w K mg base "dot" 1 ["u", "v"] (sp_dot)
theorem sum3 (a b c : Int) : [a, b, c].sum = a + b + c := by simp only [List.sum_cons, List.sum_nil]; omega
theorem ok_dot (bl : Bl mg) (F : FnP K "dot" s_dot [] f fd) : FnOk P w K mg base CX0 1 f fd ["u", "v"] (sp_dot) := by
  refine okG F sc_dot (fun _ => rfl) (by decide) (fun cdv A outer s H E hr i hp => ⟨_, (pss_one (ps_ret (pe_callB (cr_sum rfl) (by rfl) bl.sum_ (by first | rfl | decide +kernel) (pa_cons (pe_lc (own := [("one", 2), ("other", 3)]) (tt := tYes) rfl sc_dot.nd (RZ.pi_zipA (by rfl) bl.zip_ (pa_cons (pv 0) (pa_cons (pv 1) pa_nil))) (blkOk_by (N := N_dot) (sc := defScope s_dot) (by decide +kernel)) (fun _ _ _ _ _ => (pg_tupK (K := K) (n := 2) rfl (by rfl) (pgs_cons (pg_name (i := 2) sc_dot.nd rfl (.inl rfl)) (pgs_cons (pg_name (i := 3) sc_dot.nd rfl (.inl rfl)) pgs_nil)))) (fun _ _ _ _ _ => pts_nil) (fun _ _ _ _ _ => (pe_op op_mulX (pv 2) (pv 3)))) pa_nil)))), fun C rt hC q => ?_⟩)
  obtain ⟨p, a⟩ := i
  obtain ⟨hp, ha⟩ := hp
  dsimp only at hp ha
  exact w_re (Ev.to (ev_sum (EvN.ev (en_lc3 (ei_zipT (ea_cons (ev_var rfl) (ea_cons (ev_var rfl) ea_nil))) (by decide) rfl (ev_I (ev_var rfl) (ev_var rfl) (by apply mulOk; (case h => (repeat' (first | assumption | exact Bd.lit (a := 64) rfl | exact P4.Z.x (by assumption) | exact P4.Z.y (by assumption) | exact P4.Z.z (by assumption) | exact P4.Z.w (by assumption) | exact V3.B.x (by assumption) | exact V3.B.y (by assumption) | exact V3.B.z (by assumption) | apply Bd.mul | apply Bd.add | apply Bd.sub | apply Bd.neg))); (case g => (repeat' (first | assumption | exact Bd.lit (a := 64) rfl | exact P4.Z.x (by assumption) | exact P4.Z.y (by assumption) | exact P4.Z.z (by assumption) | exact P4.Z.w (by assumption) | exact V3.B.x (by assumption) | exact V3.B.y (by assumption) | exact V3.B.z (by assumption) | apply Bd.mul | apply Bd.add | apply Bd.sub | apply Bd.neg))); (case l => decide))) (ev_I (ev_var rfl) (ev_var rfl) (by apply mulOk; (case h => (repeat' (first | assumption | exact Bd.lit (a := 64) rfl | exact P4.Z.x (by assumption) | exact P4.Z.y (by assumption) | exact P4.Z.z (by assumption) | exact P4.Z.w (by assumption) | exact V3.B.x (by assumption) | exact V3.B.y (by assumption) | exact V3.B.z (by assumption) | apply Bd.mul | apply Bd.add | apply Bd.sub | apply Bd.neg))); (case g => (repeat' (first | assumption | exact Bd.lit (a := 64) rfl | exact P4.Z.x (by assumption) | exact P4.Z.y (by assumption) | exact P4.Z.z (by assumption) | exact P4.Z.w (by assumption) | exact V3.B.x (by assumption) | exact V3.B.y (by assumption) | exact V3.B.z (by assumption) | apply Bd.mul | apply Bd.add | apply Bd.sub | apply Bd.neg))); (case l => decide))) (ev_I (ev_var rfl) (ev_var rfl) (by apply mulOk; (case h => (repeat' (first | assumption | exact Bd.lit (a := 64) rfl | exact P4.Z.x (by assumption) | exact P4.Z.y (by assumption) | exact P4.Z.z (by assumption) | exact P4.Z.w (by assumption) | exact V3.B.x (by assumption) | exact V3.B.y (by assumption) | exact V3.B.z (by assumption) | apply Bd.mul | apply Bd.add | apply Bd.sub | apply Bd.neg))); (case g => (repeat' (first | assumption | exact Bd.lit (a := 64) rfl | exact P4.Z.x (by assumption) | exact P4.Z.y (by assumption) | exact P4.Z.z (by assumption) | exact P4.Z.w (by assumption) | exact V3.B.x (by assumption) | exact V3.B.y (by assumption) | exact V3.B.z (by assumption) | apply Bd.mul | apply Bd.add | apply Bd.sub | apply Bd.neg))); (case l => decide)))))) (sum3 _ _ _)) q (fun _ h => nomatch h)
abbrev s_determinant : Stmt := top 16
abbrev N_determinant : List Str := ["rows"]
theorem sc_determinant : FnScope N_determinant ["rows"] (defScope s_determinant) := ⟨rfl, rfl, rfl, by decide +kernel, rfl, by decide +kernel, by decide +kernel⟩
def sp_determinant : Sp := spG (ι := V3 × V3 × V3) (fun i => [⟨_, RL (RT RI), [i.1.l, i.2.1.l, i.2.2.l]⟩]) (fun i => i.1.B 801 ∧ i.2.1.B 801 ∧ i.2.2.B 801) (fun i => ⟨_, RI, dt i.1 (crs i.2.1 i.2.2)⟩)
abbrev C_determinant (P : Program) (w : World) (K : PySem.W.Frag) (mg : Str → Option Value) (base : Heap) : Prop := Cal P w K mg base "determinant" 2 ["rows"] (sp_determinant)
theorem ok_determinant (bl : Bl mg) (c_dot : C_dot P w K mg base) (c_cross : C_cross P w K mg base) (F : FnP K "determinant" s_determinant [] f fd) : FnOk P w K mg base CX0 2 f fd ["rows"] (sp_determinant) := by
  refine okG F sc_determinant (fun _ => rfl) (by decide) (fun cdv A outer s H E hr i hp => ⟨_, (pss_cons (ps_if (pt_cmpR op_eq (pe_callB call_len_seq (by rfl) bl.len_ (by first | rfl | decide +kernel) (pa_cons (pv 0) pa_nil)) pe_int (nomark _)) (pss_one (ps_ret (pe_op op_sub (pe_op op_mulX (pe_ix ix_tup (pe_ix ix_list (pv 0) pe_int (fun _ _ => rfl)) pe_int (fun _ _ => rfl)) (pe_ix ix_tup (pe_ix ix_list (pv 0) pe_int (fun _ _ => rfl)) pe_int (fun _ _ => rfl))) (pe_op op_mulX (pe_ix ix_tup (pe_ix ix_list (pv 0) pe_int (fun _ _ => rfl)) pe_int (fun _ _ => rfl)) (pe_ix ix_tup (pe_ix ix_list (pv 0) pe_int (fun _ _ => rfl)) pe_int (fun _ _ => rfl)))))) pss_nil)
    (pss_one (ps_ret (pcall c_dot (hr.mono (by decide)) (by rfl) (pa_cons (pe_ix ix_list (pv 0) pe_int (fun _ _ => rfl)) (pa_cons (pcall c_cross (hr.mono (by decide)) (by rfl) (pa_cons (pe_ix ix_list (pv 0) pe_int (fun _ _ => rfl)) (pa_cons (pe_ix ix_list (pv 0) pe_int (fun _ _ => rfl)) pa_nil))) pa_nil)))))), fun C rt hC q => ?_⟩)
  obtain ⟨u, v, t⟩ := i
  obtain ⟨hu, hv, ht⟩ := hp
  dsimp only at hu hv ht
  refine w_seq (w_no ((et_test (ev_eqI (ev_len (ev_S_of_L (ev_var rfl))) ev_int)).to rfl) (w_nx ?_))
  exact w_re (ev_call (_, _) (ea_cons (ev_ixL (ev_var rfl) ev_int rfl) (ea_cons (ev_call (_, _) (ea_cons (ev_ixL (ev_var rfl) ev_int rfl) (ea_cons (ev_ixL (ev_var rfl) ev_int rfl) ea_nil)) ⟨hv.mono (by decide), ht.mono (by decide)⟩) ea_nil)) ⟨hu.mono (by decide), (crs_B hv ht).mono (by decide)⟩) q (fun _ h => nomatch h)
end
end Sc
set_option Elab.async false
set_option linter.all false
set_option maxRecDepth 100000
set_option maxHeartbeats 1000000
namespace Sc
open PySem PySem.Spec PyProof.Rows L2 TL Ma
theorem dt_crs (u v t : V3) : dt u (crs v t) = dt (crs u v) t := by
  simp only [dt, crs]
  grind
theorem sign_b2i (x : Int) : TL.b2i (decide (0 < x)) - TL.b2i (decide (x < 0)) = x.sign := by
  unfold TL.b2i
  rcases Int.lt_trichotomy x 0 with h | h | h
  · rw [Int.sign_eq_neg_one_of_neg h]; simp [h]; omega
  · subst h; rfl
  · rw [Int.sign_eq_one_of_pos h]; simp [h]; omega
section
variable {P : Program} {w : World} {K : PySem.W.Frag} {mg : Str → Option Value} {base : Heap} {f : Addr} {fd : FuncData}
abbrev s_side : Stmt := top 17
abbrev N_side : List Str := ["points", "found", "p"]
theorem sc_side : FnScope N_side ["points"] (defScope s_side) := ⟨rfl, rfl, rfl, by decide +kernel, rfl, by decide +kernel, by decide +kernel⟩
def sp_side : Sp := spG (ι := P4 × P4 × P4 × P4) (fun i => [⟨_, RL (RT RI), [i.1.l, i.2.1.l, i.2.2.1.l, i.2.2.2.l]⟩]) (fun i => i.1.Z ∧ i.2.1.Z ∧ i.2.2.1.Z ∧ i.2.2.2.Z) (fun i => ⟨_, RI, (det i.1 i.2.1 i.2.2.1 i.2.2.2).sign⟩)
abbrev C_side (P : Program) (w : World) (K : PySem.W.Frag) (mg : Str → Option Value) (base : Heap) : Prop := Cal P w K mg base "side" 3 ["points"] (sp_side)
theorem ok_side (bl : Bl mg) (c_determinant : C_determinant P w K mg base) (c_arrow : C_arrow P w K mg base) (F : FnP K "side" s_side [] f fd) : FnOk P w K mg base CX0 3 f fd ["points"] (sp_side) := by
  refine okG F sc_side (fun _ => rfl) (by decide) (fun cdv A outer s H E hr i hp => ⟨_, (pss_cons (ps_set (i := 1) sc_side.nd rfl (.inl rfl) (pcall c_determinant (hr.mono (by decide)) (by rfl) (pa_cons (pe_lc (own := [("p", 2)]) (tt := tYes) rfl sc_side.nd (pi_list (pe_slice sl_list (pv 0) (po_some pe_int) po_none)) (blkOk_by (N := N_side) (sc := defScope s_side) (by decide +kernel)) (fun _ _ _ _ _ => (pg_name (i := 2) sc_side.nd rfl (.inl rfl))) (fun _ _ _ _ _ => pts_nil) (fun _ _ _ _ _ => (pcall c_arrow (hr.mono (by decide)) (by rfl) (pa_cons (pe_ix (r := rIxL K) ix_list (pv 0) pe_int (fun _ _ => rfl)) (pa_cons (pv 2) pa_nil))))) pa_nil)))
    (pss_one (ps_ret (pe_op op_sub (pe_callTy call_int1 (by rfl) bl.int_ (by first | rfl | decide +kernel) (pa_cons (pe_cmpR op_gt (pv 1) pe_int (nomark _)) pa_nil)) (pe_callTy call_int1 (by rfl) bl.int_ (by first | rfl | decide +kernel) (pa_cons (pe_cmpR op_lt (pv 1) pe_int (nomark _)) pa_nil)))))), fun C rt hC q => ?_⟩)
  obtain ⟨p, q1, r, t⟩ := i
  obtain ⟨hp, hq, hr, ht⟩ := hp
  dsimp only at hp hq hr ht
  refine w_seq (w_set (ev_call (gap p q1, gap p r, gap p t) (ea_cons (EvN.ev (en_lc3 (ei_list (EvN.ev (en_slL (ev_var rfl) (eo_some ev_int) eo_none))) (by decide) rfl (ev_call (_, _) (ea_cons (ev_ixL (ev_var rfl) ev_int rfl) (ea_cons (ev_var rfl) ea_nil)) (by first | assumption | trivial | (repeat' (first | assumption | apply And.intro)))) (ev_call (_, _) (ea_cons (ev_ixL (ev_var rfl) ev_int rfl) (ea_cons (ev_var rfl) ea_nil)) (by first | assumption | trivial | (repeat' (first | assumption | apply And.intro)))) (ev_call (_, _) (ea_cons (ev_ixL (ev_var rfl) ev_int rfl) (ea_cons (ev_var rfl) ea_nil)) (by first | assumption | trivial | (repeat' (first | assumption | apply And.intro)))))) ea_nil) ⟨gap_B hp hq, gap_B hp hr, gap_B hp ht⟩) ?_)
  refine w_re (Ev.to (ev_I0 (ev_intB (ev_cmp (ev_var rfl) ev_int)) (ev_intB (ev_cmp (ev_var rfl) ev_int))) ?_) q (fun _ h => nomatch h)
  show TL.b2i (decide (dt (gap p q1) (crs (gap p r) (gap p t)) > 0)) - TL.b2i (decide (dt (gap p q1) (crs (gap p r) (gap p t)) < 0)) = _
  rw [dt_crs]
  exact sign_b2i _
abbrev RLTT (b : Bool) : Rl (List (List Int)) := match b with | true => RL (RT RI) | false => RT (RT RI)
theorem pl_ne (ps : List P4) : ∀ r ∈ ps.map P4.l, r ≠ [] := fun r hr => by
  obtain ⟨p, _, rfl⟩ := List.mem_map.mp hr
  exact fun h => by cases h
abbrev s_simplex : Stmt := top 19
abbrev N_simplex : List Str := ["points", "corners", "turn"]
theorem sc_simplex : FnScope N_simplex ["points"] (defScope s_simplex) := ⟨rfl, rfl, rfl, by decide +kernel, rfl, by decide +kernel, by decide +kernel⟩
def sp_simplex : Sp := spG (ι := Bool × List P4) (fun i => [⟨_, RLTT i.1, i.2.map P4.l⟩]) (fun i => i.2.length = 4 ∧ (∀ p ∈ i.2, p.Z) ∧ d4L i.2 ≠ 0) (fun i => ⟨_, RT (RT RI), (simpP i.2).map P4.l⟩)
abbrev C_simplex (P : Program) (w : World) (K : PySem.W.Frag) (mg : Str → Option Value) (base : Heap) : Prop := Cal P w K mg base "simplex" 4 ["points"] (sp_simplex)
theorem ok_simplex (bl : Bl mg) (c_side : C_side P w K mg base) (F : FnP K "simplex" s_simplex [] f fd) : FnOk P w K mg base CX0 4 f fd ["points"] (sp_simplex) := by
  refine okG F sc_simplex (fun _ => rfl) (by decide) (fun cdv A outer s H E hr i hp => ?_)
  obtain ⟨b, ps⟩ := i
  obtain ⟨hl, hZ, h0⟩ := hp
  dsimp only at hl hZ h0
  have hw : AllW ps := fun p hp => (hZ p hp).w0
  obtain ⟨p, q0, r, t, es⟩ := srt4 hl
  have hpm := srtP_perm ps
  have n0 : d4L (srtP ps) ≠ 0 := d4L_perm0 hpm.symm hw h0
  rw [es] at hpm n0
  have hz : ∀ x, x ∈ [p, q0, r, t] → x.Z := fun x hx => hZ x (hpm.mem_iff.mp hx)
  have hp := hz p (by simp)
  have hq := hz q0 (by simp)
  have hr' := hz r (by simp)
  have ht := hz t (by simp)
  have sg := det_sign (q := q0) (r := r) (s := t) hp.w0
  have nd : (det p q0 r t).sign ≠ 0 := fun e => n0 (Int.sign_eq_zero_iff_zero.mp (sg.symm.trans e))
  have en : simpP ps = if det p q0 r t < 0 then [p, q0, t, r] else [p, q0, r, t] := by unfold simpP; rw [es]
  have e1 : srt (ps.map P4.l) = [p.l, q0.l, r.l, t.l] := by rw [srtP_map, es]; rfl
  have l0 : (ps.map P4.l).length ≤ 1000 := by rw [List.length_map, hl]; decide
  cases b
  rotate_left
  · refine ⟨_, (pss_cons (ps_set (i := 1) sc_simplex.nd rfl (.inl rfl) (pe_callB (cr_sortedX hr.units) (by rfl) bl.sorted_ (by first | rfl | decide +kernel) (pa_cons (pv 0) pa_nil)))
    (pss_cons (ps_set (i := 2) sc_simplex.nd rfl (.inl rfl) (pcall c_side (hr.mono (by decide)) (by rfl) (pa_cons (pv 1) pa_nil)))
    (pss_cons (ps_if (pt_cmpR op_eq (pv 2) pe_int (nomark _)) (pss_one ps_never) pss_nil)
    (pss_cons (ps_if (pt_cmpR op_lt (pv 2) pe_int (nomark _)) (pss_one (ps_set (i := 1) sc_simplex.nd rfl (.inl rfl) (pe_op op_cat (pe_slice sl_list (pv 1) po_none (po_some (pe_un un_neg pe_int))) (pe_lst (pa_cons (pe_ix ix_list (pv 1) (pe_un un_neg pe_int) (fun _ _ => rfl)) (pa_cons (pe_ix ix_list (pv 1) (pe_un un_neg pe_int) (fun _ _ => rfl)) pa_nil)))))) pss_nil)
    (pss_one (ps_ret (pe_callTy call_tuple_of (by rfl) bl.tuple_ (by first | rfl | decide +kernel) (pa_cons (pv 1) pa_nil)))))))), fun C rt hC q => ?_⟩
    refine w_seq (w_setE (EvN.ev (en_sorted (ev_S_of_L (ev_var rfl)) (pl_ne ps) l0)) e1 ?_)
    refine w_seq (w_set (ev_call (p, q0, r, t) (ea_cons (ev_var rfl) ea_nil) (by first | assumption | trivial | (repeat' (first | assumption | apply And.intro)))) ?_)
    refine w_seq (w_no ((et_test (ev_eqI (ev_var rfl) ev_int)).to (decide_eq_false nd)) (w_nx ?_))
    refine w_seq (w_if (et_test (ev_cmp (ev_var rfl) ev_int)) (fun h => ?_) fun h => ?_)
    · have h : (det p q0 r t).sign < 0 := of_decide_eq_true h
      refine w_set (EvN.ev (en_cat (EvN.ev (en_slL (ev_var rfl) eo_none (eo_some (ev_neg ev_int)))) (EvN.ev (en_lst (ea_scons (ev_ixL (ev_var rfl) (ev_neg ev_int) rfl) (ea_scons (ev_ixL (ev_var rfl) (ev_neg ev_int) rfl) ea_snil)) (le_by rfl))) (le_by rfl))) ?_
      refine w_re (Ev.to (ev_tuple (ev_S_of_L (ev_var rfl))) ?_) q (fun _ h => nomatch h)
      dsimp only
      rw [en, if_pos (Int.sign_neg_iff.mp h)]
      rfl
    · have h : ¬ (det p q0 r t).sign < 0 := of_decide_eq_false h
      refine w_nx (w_re (Ev.to (ev_tuple (ev_S_of_L (ev_var rfl))) ?_) q (fun _ h => nomatch h))
      dsimp only
      rw [en, if_neg fun e => h (Int.sign_neg_iff.mpr e)]
      rfl
  · refine ⟨_, (pss_cons (ps_set (i := 1) sc_simplex.nd rfl (.inl rfl) (pe_callB (cr_sortedX hr.units) (by rfl) bl.sorted_ (by first | rfl | decide +kernel) (pa_cons (pv 0) pa_nil)))
    (pss_cons (ps_set (i := 2) sc_simplex.nd rfl (.inl rfl) (pcall c_side (hr.mono (by decide)) (by rfl) (pa_cons (pv 1) pa_nil)))
    (pss_cons (ps_if (pt_cmpR op_eq (pv 2) pe_int (nomark _)) (pss_one ps_never) pss_nil)
    (pss_cons (ps_if (pt_cmpR op_lt (pv 2) pe_int (nomark _)) (pss_one (ps_set (i := 1) sc_simplex.nd rfl (.inl rfl) (pe_op op_cat (pe_slice sl_list (pv 1) po_none (po_some (pe_un un_neg pe_int))) (pe_lst (pa_cons (pe_ix ix_list (pv 1) (pe_un un_neg pe_int) (fun _ _ => rfl)) (pa_cons (pe_ix ix_list (pv 1) (pe_un un_neg pe_int) (fun _ _ => rfl)) pa_nil)))))) pss_nil)
    (pss_one (ps_ret (pe_callTy call_tuple_of (by rfl) bl.tuple_ (by first | rfl | decide +kernel) (pa_cons (pv 1) pa_nil)))))))), fun C rt hC q => ?_⟩
    refine w_seq (w_setE (EvN.ev (en_sorted (ev_S_of_T (ev_var rfl)) (pl_ne ps) l0)) e1 ?_)
    refine w_seq (w_set (ev_call (p, q0, r, t) (ea_cons (ev_var rfl) ea_nil) (by first | assumption | trivial | (repeat' (first | assumption | apply And.intro)))) ?_)
    refine w_seq (w_no ((et_test (ev_eqI (ev_var rfl) ev_int)).to (decide_eq_false nd)) (w_nx ?_))
    refine w_seq (w_if (et_test (ev_cmp (ev_var rfl) ev_int)) (fun h => ?_) fun h => ?_)
    · have h : (det p q0 r t).sign < 0 := of_decide_eq_true h
      refine w_set (EvN.ev (en_cat (EvN.ev (en_slL (ev_var rfl) eo_none (eo_some (ev_neg ev_int)))) (EvN.ev (en_lst (ea_scons (ev_ixL (ev_var rfl) (ev_neg ev_int) rfl) (ea_scons (ev_ixL (ev_var rfl) (ev_neg ev_int) rfl) ea_snil)) (le_by rfl))) (le_by rfl))) ?_
      refine w_re (Ev.to (ev_tuple (ev_S_of_L (ev_var rfl))) ?_) q (fun _ h => nomatch h)
      dsimp only
      rw [en, if_pos (Int.sign_neg_iff.mp h)]
      rfl
    · have h : ¬ (det p q0 r t).sign < 0 := of_decide_eq_false h
      refine w_nx (w_re (Ev.to (ev_tuple (ev_S_of_L (ev_var rfl))) ?_) q (fun _ h => nomatch h))
      dsimp only
      rw [en, if_neg fun e => h (Int.sign_neg_iff.mpr e)]
      rfl
abbrev s_walls_of : Stmt := top 20
abbrev N_walls_of : List Str := ["corners", "p", "q", "r", "s"]
theorem sc_walls_of : FnScope N_walls_of ["corners"] (defScope s_walls_of) := ⟨rfl, rfl, rfl, by decide +kernel, rfl, by decide +kernel, by decide +kernel⟩
def sp_walls_of : Sp := spG (ι := P4 × P4 × P4 × P4) (fun i => [⟨_, RT (RT RI), [i.1.l, i.2.1.l, i.2.2.1.l, i.2.2.2.l]⟩]) (fun _ => True)
  (fun i => ⟨_, RL (RT (RT RI)), [[i.1.l, i.2.2.1.l, i.2.1.l], [i.1.l, i.2.1.l, i.2.2.2.l], [i.2.1.l, i.2.2.1.l, i.2.2.2.l], [i.1.l, i.2.2.2.l, i.2.2.1.l]]⟩)
abbrev C_walls_of (P : Program) (w : World) (K : PySem.W.Frag) (mg : Str → Option Value) (base : Heap) : Prop := Cal P w K mg base "walls_of" 1 ["corners"] (sp_walls_of)
theorem ok_walls_of (bl : Bl mg) (F : FnP K "walls_of" s_walls_of [] f fd) : FnOk P w K mg base CX0 1 f fd ["corners"] (sp_walls_of) := by
  refine okG F sc_walls_of (fun _ => rfl) (by decide) (fun cdv A outer s H E hr i hp => ⟨_, (pss_cons (ps_if (pt_cmpR op_eq (pe_callB call_len_seq (by rfl) bl.len_ (by first | rfl | decide +kernel) (pa_cons (pv 0) pa_nil)) pe_int (nomark _)) (pss_cons (ps_asg (pv 0) (pg_tup (by rfl) (pgs_cons (pg_name (i := 1) sc_walls_of.nd rfl (.inl rfl)) (pgs_cons (pg_name (i := 2) sc_walls_of.nd rfl (.inl rfl)) (pgs_cons (pg_name (i := 3) sc_walls_of.nd rfl (.inl rfl)) pgs_nil)))))
    (pss_one (ps_ret (pe_lst (pa_cons (pe_tup (pa_cons (pv 1) (pa_cons (pv 2) pa_nil))) (pa_cons (pe_tup (pa_cons (pv 2) (pa_cons (pv 3) pa_nil))) (pa_cons (pe_tup (pa_cons (pv 3) (pa_cons (pv 1) pa_nil))) pa_nil))))))) pss_nil)
    (pss_cons (ps_asg (pv 0) (pg_tup (by rfl) (pgs_cons (pg_name (i := 1) sc_walls_of.nd rfl (.inl rfl)) (pgs_cons (pg_name (i := 2) sc_walls_of.nd rfl (.inl rfl)) (pgs_cons (pg_name (i := 3) sc_walls_of.nd rfl (.inl rfl)) (pgs_cons (pg_name (i := 4) sc_walls_of.nd rfl (.inl rfl)) pgs_nil))))))
    (pss_one (ps_ret (pe_lst (pa_cons (pe_tup (pa_cons (pv 1) (pa_cons (pv 3) (pa_cons (pv 2) pa_nil)))) (pa_cons (pe_tup (pa_cons (pv 1) (pa_cons (pv 2) (pa_cons (pv 4) pa_nil)))) (pa_cons (pe_tup (pa_cons (pv 2) (pa_cons (pv 3) (pa_cons (pv 4) pa_nil)))) (pa_cons (pe_tup (pa_cons (pv 1) (pa_cons (pv 4) (pa_cons (pv 3) pa_nil)))) pa_nil))))))))), fun C rt hC q => ?_⟩)
  obtain ⟨p, q1, r, t⟩ := i
  refine w_seq (w_no ((et_test (ev_eqI (ev_len (ev_S_of_T (ev_var rfl))) ev_int)).to rfl) (w_nx ?_))
  refine w_seq (w_unT (js := [1, 2, 3, 4]) (ev_var rfl) rfl (js_by rfl) ?_)
  exact w_re (EvN.ev (en_lst (ea_scons (ev_tup (ea_scons (ev_var rfl) (ea_scons (ev_var rfl) (ea_scons (ev_var rfl) ea_snil))) (le_by rfl)) (ea_scons (ev_tup (ea_scons (ev_var rfl) (ea_scons (ev_var rfl) (ea_scons (ev_var rfl) ea_snil))) (le_by rfl)) (ea_scons (ev_tup (ea_scons (ev_var rfl) (ea_scons (ev_var rfl) (ea_scons (ev_var rfl) ea_snil))) (le_by rfl)) (ea_scons (ev_tup (ea_scons (ev_var rfl) (ea_scons (ev_var rfl) (ea_scons (ev_var rfl) ea_snil))) (le_by rfl)) ea_snil)))) (le_by rfl))) q (fun _ h => nomatch h)
abbrev s_raised : Stmt := top 22
abbrev N_raised : List Str := ["p"]
theorem sc_raised : FnScope N_raised ["p"] (defScope s_raised) := ⟨rfl, rfl, rfl, by decide +kernel, rfl, by decide +kernel, by decide +kernel⟩
def sp_raised : Sp := spG (ι := P3) (fun i => [⟨_, RT RI, i.l⟩]) (fun _ => True) (fun i => ⟨_, RT RI, i.up.l⟩)
abbrev C_raised (P : Program) (w : World) (K : PySem.W.Frag) (mg : Str → Option Value) (base : Heap) : Prop := Cal P w K mg base "raised" 1 ["p"] (sp_raised)
theorem ok_raised (bl : Bl mg) (F : FnP K "raised" s_raised [] f fd) : FnOk P w K mg base CX0 1 f fd ["p"] (sp_raised) := by
  refine okG F sc_raised (fun _ => rfl) (by decide) (fun cdv A outer s H E hr i hp => ⟨_, (pss_one (ps_ret (pe_tup (pa_cons (pe_ix ix_tup (pv 0) pe_int (fun _ _ => rfl)) (pa_cons (pe_ix ix_tup (pv 0) pe_int (fun _ _ => rfl)) (pa_cons pe_int (pa_cons (pe_ix ix_tup (pv 0) pe_int (fun _ _ => rfl)) pa_nil))))))), fun C rt hC q => ?_⟩)
  exact w_re ((ev_tup (ea_scons (ev_ixT (ev_var rfl) ev_int rfl) (ea_scons (ev_ixT (ev_var rfl) ev_int rfl) (ea_scons ev_int (ea_scons (ev_ixT (ev_var rfl) ev_int rfl) ea_snil)))) (le_by rfl))) q (fun _ h => nomatch h)
end
end Sc
set_option Elab.async false
set_option linter.all false
set_option maxRecDepth 100000
set_option maxHeartbeats 1000000
namespace Sc
open PySem PySem.Spec PyProof.Rows L2 TL Ma
/-- what a prism asks of a triangle -/
structure TZ (t : T3) (a : P4) : Prop where
  ok : TOk t a
  aB : a.B 190
  pB : t.p.up.B 200
  qB : t.q.up.B 200
  rB : t.r.up.B 200
theorem take_succ_get {α : Type} {xs : List α} {i : Nat} {x : α} (h : xs[i]? = some x) : xs.take (i + 1) = xs.take i ++ [x] := by
  obtain ⟨hi, rfl⟩ := List.getElem?_eq_some_iff.mp h
  rw [List.take_append_getElem]
theorem take_all {α : Type} (xs : List α) : xs.take xs.length = xs := List.take_length
theorem prismP_len (hs : List T3) (a : P4) : (prismP hs a).length = 3 * hs.length := by
  induction hs with
  | nil => rfl
  | cons t hs ih =>
    show (prism1 t a ++ prismP hs a).length = _
    rw [List.length_append, ih]
    show 3 + _ = 3 * (hs.length + 1)
    omega
theorem prismP_take {hs : List T3} {a : P4} {i : Nat} {t : T3} (h : hs[i]? = some t) : prismP (hs.take (i + 1)) a = prismP (hs.take i) a ++ prism1 t a := by
  rw [take_succ_get h]
  unfold prismP
  rw [List.flatMap_append]
  simp
theorem Z4 {p q r s : P4} (h1 : p.Z) (h2 : q.Z) (h3 : r.Z) (h4 : s.Z) : ∀ x ∈ [p, q, r, s], x.Z := fun x hx => by
  simp only [List.mem_cons, List.not_mem_nil, or_false] at hx
  rcases hx with rfl | rfl | rfl | rfl <;> assumption
section
variable {P : Program} {w : World} {K : PySem.W.Frag} {mg : Str → Option Value} {base : Heap} {f : Addr} {fd : FuncData}
abbrev s_prism : Stmt := top 23
abbrev N_prism : List Str := ["heap", "arrow", "found", "corners", "p", "q", "r", "up", "over", "beyond", "corner"]
theorem sc_prism : FnScope N_prism ["heap", "arrow"] (defScope s_prism) := ⟨rfl, rfl, rfl, by decide +kernel, rfl, by decide +kernel, by decide +kernel⟩
def sp_prism : Sp := spG (ι := List T3 × P4) (fun i => [⟨_, RT (RT (RT RI)), i.1.map T3.l⟩, ⟨_, RT RI, i.2.l⟩]) (fun i => i.1.length ≤ 200 ∧ i.2.z ≠ 0 ∧ ∀ t ∈ i.1, TZ t i.2) (fun i => ⟨_, RT (RT (RT RI)), (prismP i.1 i.2).map fun ps => ps.map P4.l⟩)
abbrev C_prism (P : Program) (w : World) (K : PySem.W.Frag) (mg : Str → Option Value) (base : Heap) : Prop := Cal P w K mg base "prism" 5 ["heap", "arrow"] (sp_prism)
theorem ok_prism (bl : Bl mg) (c_raised : C_raised P w K mg base) (c_added : C_added P w K mg base) (c_simplex : C_simplex P w K mg base) (F : FnP K "prism" s_prism [] f fd) : FnOk P w K mg base CX0 5 f fd ["heap", "arrow"] (sp_prism) := by
  refine okG F sc_prism (fun _ => rfl) (by decide) (fun cdv A outer s H E hr i hp => ⟨_, (pss_cons (ps_if (pt_cmpR op_eq (pe_ix ix_tup (pv 1) pe_int (fun _ _ => rfl)) pe_int (nomark _)) (pss_one ps_never) pss_nil)
    (pss_cons (ps_set (i := 2) sc_prism.nd rfl (.inl rfl) (pe_lst pa_nil))
    (pss_cons (ps_for PassesOwn.never rfl (pi_tup (pv 0)) (pg_name (i := 3) sc_prism.nd rfl (.inl rfl)) (pss_cons (ps_asg (pe_lc (own := [("corner", 10)]) (tt := tYes) rfl sc_prism.nd (pi_tup (pv 3)) (blkOk_by (N := N_prism) (sc := defScope s_prism) (by decide +kernel)) (fun _ _ _ _ _ => (pg_name (i := 10) sc_prism.nd rfl (.inl rfl))) (fun _ _ _ _ _ => pts_nil) (fun _ _ _ _ _ => (pcall c_raised (hr.mono (by decide)) (by rfl) (pa_cons (pv 10) pa_nil)))) (pg_unl (by rfl) (pgs_cons (pg_name (i := 4) sc_prism.nd rfl (.inl rfl)) (pgs_cons (pg_name (i := 5) sc_prism.nd rfl (.inl rfl)) (pgs_cons (pg_name (i := 6) sc_prism.nd rfl (.inl rfl)) pgs_nil)))))
    (pss_cons (ps_asg (pe_lc (own := [("corner", 10)]) (tt := tYes) rfl sc_prism.nd (pi_tup (pe_tup (pa_cons (pv 4) (pa_cons (pv 5) (pa_cons (pv 6) pa_nil))))) (blkOk_by (N := N_prism) (sc := defScope s_prism) (by decide +kernel)) (fun _ _ _ _ _ => (pg_name (i := 10) sc_prism.nd rfl (.inl rfl))) (fun _ _ _ _ _ => pts_nil) (fun _ _ _ _ _ => (pcall c_added (hr.mono (by decide)) (by rfl) (pa_cons (pv 10) (pa_cons (pv 1) pa_nil))))) (pg_unl (by rfl) (pgs_cons (pg_name (i := 7) sc_prism.nd rfl (.inl rfl)) (pgs_cons (pg_name (i := 8) sc_prism.nd rfl (.inl rfl)) (pgs_cons (pg_name (i := 9) sc_prism.nd rfl (.inl rfl)) pgs_nil)))))
    (pss_cons (ps_expr (pe_bm PySem.F.plainAttrs_list PySem.F.slot_list_append PySem.F.type_list_append mt_append (pv 2) (pa_cons (pcall c_simplex (hr.mono (by decide)) (by rfl) (pa_cons (pe_tup (pa_cons (pv 4) (pa_cons (pv 5) (pa_cons (pv 6) (pa_cons (pv 7) pa_nil))))) pa_nil)) pa_nil)))
    (pss_cons (ps_expr (pe_bm PySem.F.plainAttrs_list PySem.F.slot_list_append PySem.F.type_list_append mt_append (pv 2) (pa_cons (pcall c_simplex (hr.mono (by decide)) (by rfl) (pa_cons (pe_tup (pa_cons (pv 5) (pa_cons (pv 6) (pa_cons (pv 7) (pa_cons (pv 8) pa_nil))))) pa_nil)) pa_nil)))
    (pss_one (ps_expr (pe_bm PySem.F.plainAttrs_list PySem.F.slot_list_append PySem.F.type_list_append mt_append (pv 2) (pa_cons (pcall c_simplex (hr.mono (by decide)) (by rfl) (pa_cons (pe_tup (pa_cons (pv 6) (pa_cons (pv 7) (pa_cons (pv 8) (pa_cons (pv 9) pa_nil))))) pa_nil)) pa_nil)))))))))
    (pss_one (ps_ret (pe_callTy call_tuple_of (by rfl) bl.tuple_ (by first | rfl | decide +kernel) (pa_cons (pv 2) pa_nil))))))), fun C rt hC q => ?_⟩)
  obtain ⟨hs, a⟩ := i
  obtain ⟨hl, hz, hT⟩ := hp
  dsimp only at hl hz hT q
  refine w_seq (w_no ((et_test (ev_eqI (ev_ixT (ev_var rfl) ev_int rfl) ev_int)).to (decide_eq_false hz)) (w_nx ?_))
  refine w_seq (w_setN (R := RT (RT RI)) (xs := []) (en_lst ea_snil (le_by rfl)) fun b => ?_)
  refine w_seq (w_for (ei_tup (ev_var rfl)) (fun i => [sl (RT (RT (RT RI))) (hs.map T3.l), sl (RT RI) a.l, sl RA b, none, none, none, none, none, none, none, none])
    (fun i => [(b, .lst (RT (RT RI)) ((prismP (hs.take i) a).map fun ps => ps.map P4.l))]) ⟨rfl, fun _ _ h => h⟩ rfl (fun _ _ => rfl) (fun C' I _ _ _ hI i hi => ?_) ?_)
  · rw [List.length_map] at hi
    have ht : hs[i]? = some hs[i] := List.getElem?_eq_getElem hi
    have hI' := hI (i + 1)
    rw [prismP_take ht] at hI'
    obtain ⟨tok, aB, pB, qB, rB⟩ := hT hs[i] (List.getElem_mem hi)
    show Wn C' _ [_, _, _, itS (RT (RT RI)) (hs.map T3.l) i, _, _, _, _, _, _, _] _
    rw [itS_get (show (hs.map T3.l)[i]? = some (hs[i].l) by rw [List.getElem?_map, ht]; rfl)]
    obtain ⟨⟨p, q', r⟩, et⟩ : ∃ t, t = hs[i] := ⟨_, rfl⟩
    rw [← et] at tok pB qB rB hI' ⊢
    dsimp only at pB qB rB
    have pZ := pB.Z (by decide)
    have qZ := qB.Z (by decide)
    have rZ := rB.Z (by decide)
    have aZ := aB.Z (by decide)
    have pZ' := (add_B pB aB).Z (by decide)
    have qZ' := (add_B qB aB).Z (by decide)
    have rZ' := (add_B rB aB).Z (by decide)
    have n0 := tok.n0
    obtain ⟨g, hP⟩ := add_pushed (p := p.up) (a := a) tok.p0 tok.a0
    obtain ⟨k, hQ⟩ := add_pushed (p := q'.up) (a := a) tok.q0 tok.a0
    obtain ⟨m, hR⟩ := add_pushed (p := r.up) (a := a) tok.r0 tok.a0
    have n1 : d4L [p.up, q'.up, r.up, add p.up a] ≠ 0 := sign_ne (sg1 tok.p0 hP) n0
    have n2 : d4L [q'.up, r.up, add p.up a, add q'.up a] ≠ 0 := sign_ne (sg2 tok.q0 tok.a0 hP hQ) n0
    have n3 : d4L [r.up, add p.up a, add q'.up a, add r.up a] ≠ 0 := sign_ne (sg3 tok.r0 tok.a0 hP hQ hR) n0
    have lz : ∀ k, k ≤ 2 → ((prismP (hs.take i) a).map fun ps => ps.map P4.l).length + k ≤ 1000 := fun k hk => by
      rw [List.length_map, prismP_len, List.length_take]
      omega
    refine w_seq (w_unL (js := [4, 5, 6]) (EvN.ev (en_lc3 (ei_tup (ev_var rfl)) (by decide) rfl (ev_call p (ea_cons (ev_var rfl) ea_nil) trivial) (ev_call q' (ea_cons (ev_var rfl) ea_nil) trivial) (ev_call r (ea_cons (ev_var rfl) ea_nil) trivial))) rfl (js_by rfl) ?_)
    refine w_seq (w_unL (js := [7, 8, 9]) (EvN.ev (en_lc3 (ei_tup (ev_tup (ea_scons (ev_var rfl) (ea_scons (ev_var rfl) (ea_scons (ev_var rfl) ea_snil))) (le_by rfl))) (by decide) rfl (ev_call (p.up, a) (ea_cons (ev_var rfl) (ea_cons (ev_var rfl) ea_nil)) ⟨by assumption, by assumption⟩) (ev_call (q'.up, a) (ea_cons (ev_var rfl) (ea_cons (ev_var rfl) ea_nil)) ⟨by assumption, by assumption⟩) (ev_call (r.up, a) (ea_cons (ev_var rfl) (ea_cons (ev_var rfl) ea_nil)) ⟨by assumption, by assumption⟩))) rfl (js_by rfl) ?_)
    refine w_seq (w_app (ev_var rfl) (ev_call (false, [p.up, q'.up, r.up, add p.up a]) (ea_cons (ev_tup (ea_scons (ev_var rfl) (ea_scons (ev_var rfl) (ea_scons (ev_var rfl) (ea_scons (ev_var rfl) ea_snil)))) (le_by rfl)) ea_nil) ⟨rfl, Z4 pZ qZ rZ pZ', n1⟩) (lz 0 (by decide)) ?_)
    refine w_seq (w_app (ev_var rfl) (ev_call (false, [q'.up, r.up, add p.up a, add q'.up a]) (ea_cons (ev_tup (ea_scons (ev_var rfl) (ea_scons (ev_var rfl) (ea_scons (ev_var rfl) (ea_scons (ev_var rfl) ea_snil)))) (le_by rfl)) ea_nil) ⟨rfl, Z4 qZ rZ pZ' qZ', n2⟩) (by rw [List.length_append]; exact lz 1 (by decide)) ?_)
    refine w_app (ev_var rfl) (ev_call (false, [r.up, add p.up a, add q'.up a, add r.up a]) (ea_cons (ev_tup (ea_scons (ev_var rfl) (ea_scons (ev_var rfl) (ea_scons (ev_var rfl) (ea_scons (ev_var rfl) ea_snil)))) (le_by rfl)) ea_nil) ⟨rfl, Z4 rZ pZ' qZ' rZ', n3⟩) (by rw [List.length_append, List.length_append]; exact lz 2 (by decide)) ?_
    rw [List.map_append, ] at hI'
    rw [List.append_assoc, List.append_assoc]
    exact w_wk (wk_same (wk_same (wk_same (wk_drop (wk_drop (wk_drop (wk_drop (wk_drop (wk_drop (wk_drop (wk_drop wk_nil))))))))))) hI'
  · rw [List.length_map, List.take_length]
    have hlen : ((prismP hs a).map fun ps => ps.map P4.l).length ≤ 1000 := by
      rw [List.length_map, prismP_len]
      omega
    refine w_re (Ev.to (ev_tupleO (ev_var rfl) (List.mem_cons_self ..) hlen) ?_) q (fun _ h => nomatch h)
    rfl
abbrev s_moved_point : Stmt := top 33
abbrev N_moved_point : List Str := ["p", "by"]
theorem sc_moved_point : FnScope N_moved_point ["p", "by"] (defScope s_moved_point) := ⟨rfl, rfl, rfl, by decide +kernel, rfl, by decide +kernel, by decide +kernel⟩
abbrev RM : Rl (Int × List Int) := RP RI (RT RI)
def sp_moved_point : Sp := spG (ι := P4 × P4) (fun i => [⟨_, RT RI, i.1.l⟩, ⟨_, RM, (1, i.2.l)⟩]) (fun i => i.1.Z ∧ i.2.Z) (fun i => ⟨_, RT RI, (add i.1 i.2).l⟩)
abbrev C_moved_point (P : Program) (w : World) (K : PySem.W.Frag) (mg : Str → Option Value) (base : Heap) : Prop := Cal P w K mg base "moved_point" 5 ["p", "by"] (sp_moved_point)
theorem ok_moved_point (bl : Bl mg) (c_added : C_added P w K mg base) (F : FnP K "moved_point" s_moved_point [] f fd) : FnOk P w K mg base CX0 5 f fd ["p", "by"] (sp_moved_point) := by
  refine okG F sc_moved_point (fun _ => rfl) (by decide) (fun cdv A outer s H E hr i hp => ⟨_, (pss_cons (ps_if (pt_cmpR op_eq (pe_ix ix_tup (pv 1) pe_int (fun _ _ => rfl)) pe_int (nomark _)) (pss_one (ps_ret (pcall c_added (hr.mono (by decide)) (by rfl) (pa_cons (pv 0) (pa_cons (pe_ix ix_tup (pv 1) pe_int (fun _ _ => rfl)) pa_nil))))) pss_nil)
    (pss_one ps_never)), fun C rt hC q => ?_⟩)
  obtain ⟨p, a⟩ := i
  obtain ⟨hp, ha⟩ := hp
  dsimp only at hp ha
  refine w_seq (w_yes ((et_test (ev_eqI (ev_fst (ev_var rfl)) ev_int)).to rfl) ?_)
  exact w_re (ev_call (_, _) (ea_cons (ev_var rfl) (ea_cons (ev_snd (xy := ((1 : Int), a.l)) (ev_var rfl)) ea_nil)) ⟨hp, ha⟩) q (fun _ h => nomatch h)
abbrev s_moved_simplex : Stmt := top 34
abbrev N_moved_simplex : List Str := ["corners", "by", "corner"]
theorem sc_moved_simplex : FnScope N_moved_simplex ["corners", "by"] (defScope s_moved_simplex) := ⟨rfl, rfl, rfl, by decide +kernel, rfl, by decide +kernel, by decide +kernel⟩
def sp_moved_simplex : Sp := spG (ι := List P4 × P4) (fun i => [⟨_, RT (RT RI), i.1.map P4.l⟩, ⟨_, RM, (1, i.2.l)⟩]) (fun i => i.1.length = 4 ∧ (∀ p ∈ i.1, p.Z ∧ (add p i.2).Z) ∧ i.2.Z ∧ d4L (i.1.map fun p => add p i.2) ≠ 0)
  (fun i => ⟨_, RT (RT RI), (simpP (i.1.map fun p => add p i.2)).map P4.l⟩)
abbrev C_moved_simplex (P : Program) (w : World) (K : PySem.W.Frag) (mg : Str → Option Value) (base : Heap) : Prop := Cal P w K mg base "moved_simplex" 6 ["corners", "by"] (sp_moved_simplex)
theorem ok_moved_simplex (bl : Bl mg) (c_simplex : C_simplex P w K mg base) (c_moved_point : C_moved_point P w K mg base) (F : FnP K "moved_simplex" s_moved_simplex [] f fd) : FnOk P w K mg base CX0 6 f fd ["corners", "by"] (sp_moved_simplex) := by
  refine okG F sc_moved_simplex (fun _ => rfl) (by decide) (fun cdv A outer s H E hr i hp => ⟨_, (pss_one (ps_ret (pcall c_simplex (hr.mono (by decide)) (by rfl) (pa_cons (pe_lc (own := [("corner", 2)]) (tt := tYes) rfl sc_moved_simplex.nd (pi_tup (pv 0)) (blkOk_by (N := N_moved_simplex) (sc := defScope s_moved_simplex) (by decide +kernel)) (fun _ _ _ _ _ => (pg_name (i := 2) sc_moved_simplex.nd rfl (.inl rfl))) (fun _ _ _ _ _ => pts_nil) (fun _ _ _ _ _ => (pcall c_moved_point (hr.mono (by decide)) (by rfl) (pa_cons (pv 2) (pa_cons (pv 1) pa_nil))))) pa_nil)))), fun C rt hC q => ?_⟩)
  obtain ⟨ps, a⟩ := i
  obtain ⟨hl, hZ, ha, h0⟩ := hp
  dsimp only at hl hZ ha h0
  obtain ⟨p, q0, r, t, rfl⟩ := len4 hl
  have hp := hZ p (by simp)
  have hq := hZ q0 (by simp)
  have hr' := hZ r (by simp)
  have ht := hZ t (by simp)
  obtain ⟨hp, hp'⟩ := hp
  obtain ⟨hq, hq'⟩ := hq
  obtain ⟨hr', hr''⟩ := hr'
  obtain ⟨ht, ht'⟩ := ht
  exact w_re (ev_call (true, [add p a, add q0 a, add r a, add t a]) (ea_cons (EvN.ev (en_lc4 (ei_tup (ev_var rfl)) (by decide) rfl (ev_call (_, _) (ea_cons (ev_var rfl) (ea_cons (ev_var rfl) ea_nil)) ⟨by assumption, by assumption⟩) (ev_call (_, _) (ea_cons (ev_var rfl) (ea_cons (ev_var rfl) ea_nil)) ⟨by assumption, by assumption⟩) (ev_call (_, _) (ea_cons (ev_var rfl) (ea_cons (ev_var rfl) ea_nil)) ⟨by assumption, by assumption⟩) (ev_call (_, _) (ea_cons (ev_var rfl) (ea_cons (ev_var rfl) ea_nil)) ⟨by assumption, by assumption⟩))) ea_nil) ⟨rfl, Z4 hp' hq' hr'' ht', h0⟩) q (fun _ h => nomatch h)
abbrev s_moved : Stmt := top 35
abbrev N_moved : List Str := ["heap", "by", "corners"]
theorem sc_moved : FnScope N_moved ["heap", "by"] (defScope s_moved) := ⟨rfl, rfl, rfl, by decide +kernel, rfl, by decide +kernel, by decide +kernel⟩
def sp_moved : Sp := spG (ι := List (List P4) × P4) (fun i => [⟨_, RT (RT (RT RI)), i.1.map fun ps => ps.map P4.l⟩, ⟨_, RM, (1, i.2.l)⟩]) (fun i => i.1.length ≤ 1000 ∧ i.2.Z ∧ ∀ ps ∈ i.1, ps.length = 4 ∧ (∀ p ∈ ps, p.Z ∧ (add p i.2).Z) ∧ d4L (ps.map fun p => add p i.2) ≠ 0)
  (fun i => ⟨_, RT (RT (RT RI)), (movedP i.1 i.2).map fun ps => ps.map P4.l⟩)
abbrev C_moved (P : Program) (w : World) (K : PySem.W.Frag) (mg : Str → Option Value) (base : Heap) : Prop := Cal P w K mg base "moved" 7 ["heap", "by"] (sp_moved)
theorem range_get2 {α β : Type} (xs : List α) (d : α) (f : α → β) : (List.range xs.length).map (fun i => f (xs.getD i d)) = xs.map f := by
  refine List.ext_getElem (by simp) fun i h1 h2 => ?_
  simp at h1
  simp [List.getD_eq_getElem?_getD, h1]
theorem ok_moved (bl : Bl mg) (c_moved_simplex : C_moved_simplex P w K mg base) (F : FnP K "moved" s_moved [] f fd) : FnOk P w K mg base CX0 7 f fd ["heap", "by"] (sp_moved) := by
  refine okG F sc_moved (fun _ => rfl) (by decide) (fun cdv A outer s H E hr i hp => ⟨_, (pss_one (ps_ret (pe_callTy call_tuple_of (by rfl) bl.tuple_ (by first | rfl | decide +kernel) (pa_cons (pe_lc (own := [("corners", 2)]) (tt := tYes) rfl sc_moved.nd (pi_tup (pv 0)) (blkOk_by (N := N_moved) (sc := defScope s_moved) (by decide +kernel)) (fun _ _ _ _ _ => (pg_name (i := 2) sc_moved.nd rfl (.inl rfl))) (fun _ _ _ _ _ => pts_nil) (fun _ _ _ _ _ => (pcall c_moved_simplex (hr.mono (by decide)) (by rfl) (pa_cons (pv 2) (pa_cons (pv 1) pa_nil))))) pa_nil)))), fun C rt hC q => ?_⟩)
  obtain ⟨h, a⟩ := i
  obtain ⟨hl, ha, hZ⟩ := hp
  dsimp only at hl hZ ha
  refine w_re (Ev.to (ev_tuple (ev_S_of_L (EvN.ev (en_lc (ei_tup (ev_var rfl)) (by decide) (fun i => (simpP ((h.getD i []).map fun p => add p a)).map P4.l) (fun _ => []) rfl (by rw [List.length_map]; exact hl) fun i hi => ?_)))) ?_) q (fun _ h => nomatch h)
  · rw [List.length_map] at hi
    show Ev _ [_, _, itS (RT (RT RI)) (h.map fun ps => ps.map P4.l) i] [] _ _ []
    rw [itS_get (show (h.map fun ps => ps.map P4.l)[i]? = some (h[i].map P4.l) by rw [List.getElem?_map, List.getElem?_eq_getElem hi]; rfl)]
    obtain ⟨z1, z2, z3⟩ := hZ h[i] (List.getElem_mem hi)
    rw [show h.getD i [] = h[i] by simp [List.getD_eq_getElem?_getD, hi]]
    exact ev_call (h[i], a) (ea_cons (ev_var rfl) (ea_cons (ev_var rfl) ea_nil)) ⟨z1, z2, ha, z3⟩
  · rw [List.length_map]
    dsimp only
    rw [range_get2 h [] fun ps => (simpP (ps.map fun p => add p a)).map P4.l]
    unfold movedP
    rw [List.map_map]
    rfl
end
end Sc
set_option Elab.async false
set_option linter.all false
set_option maxRecDepth 100000
set_option maxHeartbeats 1000000
namespace Sc
open PySem PySem.Spec PyProof.Rows L2 TL Ma
theorem neg1_zeros : ∀ {xs ys : List Int}, (∀ x ∈ xs, x = 0) → neg1 (xs ++ ys) = neg1 ys
  | [], _, _ => rfl
  | x :: xs, ys, h => by
    have h0 : x = 0 := h x (List.mem_cons_self ..)
    subst h0
    exact neg1_zeros (xs := xs) fun y hy => h y (List.mem_cons_of_mem _ hy)
theorem neg1_at {xs : List Int} {i : Nat} (hi : i < xs.length) (h : ∀ x ∈ xs.take i, x = 0) : neg1 xs = neg1 (xs[i] :: xs.drop (i + 1)) := by
  conv => lhs; rw [← List.take_append_drop i xs, neg1_zeros h, List.drop_eq_getElem_cons hi]
theorem up_pos {xs : List Int} {i : Nat} (hi : i < xs.length) (h : ∀ x ∈ xs.take i, x = 0) (h0 : 0 < xs[i]) : up xs = xs := by
  unfold up
  rw [neg1_at hi h, if_neg]
  simp [neg1, h0]
theorem up_neg' {xs : List Int} {i : Nat} (hi : i < xs.length) (h : ∀ x ∈ xs.take i, x = 0) (h0 : xs[i] < 0) : up xs = xs.map fun x => -x := by
  unfold up
  rw [neg1_at hi h, if_pos]
  have : ¬ 0 < xs[i] := by omega
  simp [neg1, h0, this]
theorem up_zero {xs : List Int} (h : ∀ x ∈ xs, x = 0) : up xs = xs := by
  unfold up
  have := neg1_zeros (xs := xs) (ys := []) h
  rw [List.append_nil] at this
  rw [this, if_neg]
  simp [neg1]
theorem zeros_step {xs : List Int} {i : Nat} (hi : i < xs.length) (h : ∀ x ∈ xs.take i, x = 0) (h0 : xs[i] = 0) : ∀ x ∈ xs.take (i + 1), x = 0 := fun x hx => by
  rw [← List.take_append_getElem (h := hi)] at hx
  rcases List.mem_append.mp hx with hx | hx
  · exact h x hx
  · cases List.mem_singleton.mp hx
    exact h0
theorem ev_wh {α : Type} {Γ : Cn} {Δ : Mn} {R : Rl α} {x : α} {φ : Prop} {i : Nat} (h : Γ[i]? = some (some ⟨α, R.wh φ, x⟩)) : Ev (tVar i) Γ Δ R x Δ := ⟨rfl, fun σ Hs H k Q q => by
  obtain ⟨v, h1, h2⟩ := k.slot i _ h
  exact ⟨v, h1, q v Hs H k .refl h2.2⟩⟩
theorem rt_c {C C' : TL.Ctx} {rt : VK} {α : Type} {R : Rl α} {x : α} {ms : Mn} (h1 : C'.fa = C.fa) (h2 : C'.Hs = C.Hs) (h3 : C'.H = C.H) (q : Rt C rt R x ms) : Rt C' rt R x ms := fun v Hs' H' s st => by
  rw [h1, h2, h3] at st
  exact q v Hs' H' s st
section
variable {P : Program} {w : World} {K : PySem.W.Frag} {mg : Str → Option Value} {base : Heap} {f : Addr} {fd : FuncData}
abbrev s_unturned : Stmt := top 27
abbrev N_unturned : List Str := ["numbers", "number"]
theorem sc_unturned : FnScope N_unturned ["numbers"] (defScope s_unturned) := ⟨rfl, rfl, rfl, by decide +kernel, rfl, by decide +kernel, by decide +kernel⟩
def sp_unturned : Sp := spG (ι := List Int) (fun i => [⟨_, RT RI, i⟩]) (fun i => i.length ≤ 1000) (fun i => ⟨_, RT RI, up i⟩)
abbrev C_unturned (P : Program) (w : World) (K : PySem.W.Frag) (mg : Str → Option Value) (base : Heap) : Prop := Cal P w K mg base "unturned" 1 ["numbers"] (sp_unturned)
theorem ok_unturned (bl : Bl mg) (F : FnP K "unturned" s_unturned [] f fd) : FnOk P w K mg base CX0 1 f fd ["numbers"] (sp_unturned) := by
  refine okG F sc_unturned (fun _ => rfl) (by decide) (fun cdv A outer s H E hr xs hl => ⟨_, (pss_cons (ps_for PassesOwn.never rfl (pi_tup (pv 0)) (pg_name (i := 1) sc_unturned.nd rfl (.inl rfl)) (pss_cons (ps_if (pt_cmpR op_gt (pv 1) pe_int (nomark _)) (pss_one (ps_ret (pe_callTy call_tuple_of (by rfl) bl.tuple_ (by first | rfl | decide +kernel) (pa_cons (pv 0) pa_nil)))) pss_nil)
    (pss_one (ps_if (pt_cmpR op_lt (pv 1) pe_int (nomark _)) (pss_one (ps_ret (pe_callTy call_tuple_of (by rfl) bl.tuple_ (by first | rfl | decide +kernel) (pa_cons (pe_lc (own := [("number", 1)]) (tt := tYes) rfl sc_unturned.nd (pi_tup (pv 0)) (blkOk_by (N := N_unturned) (sc := defScope s_unturned) (by decide +kernel)) (fun _ _ _ _ _ => (pg_name (i := 1) sc_unturned.nd rfl (.inl rfl))) (fun _ _ _ _ _ => pts_nil) (fun _ _ _ _ _ => (pe_un un_neg (pv 1)))) pa_nil)))) pss_nil))))
    (pss_one (ps_ret (pe_callTy call_tuple_of (by rfl) bl.tuple_ (by first | rfl | decide +kernel) (pa_cons (pv 0) pa_nil))))), fun C rt hC q => ?_⟩)
  dsimp only at hl q
  refine w_seq (w_known 0 rfl (φ := ∀ x ∈ xs.take 0, x = 0) (fun _ h => nomatch h) (w_for (ei_tup (xs := xs) (ev_wh rfl)) (fun i => [sl ((RT RI).wh (∀ x ∈ xs.take i, x = 0)) xs, none]) (fun _ => []) ⟨rfl, fun _ _ h => h⟩ rfl (fun _ _ => rfl) (fun C' I f1 f2 f3 hI i hi => ?_) ?_))
  · refine w_fact 0 rfl fun hz => ?_
    show Wn C' _ [_, itS RI xs i] []
    rw [itS_get (List.getElem?_eq_getElem hi)]
    refine w_seq (w_if (et_test (ev_cmp (ev_var rfl) ev_int)) (fun h => ?_) fun h => w_nx ?_)
    · exact w_re (Ev.to (ev_tuple (ev_S_of_T (ev_var rfl))) (up_pos hi hz (of_decide_eq_true h)).symm) (rt_c f1 f2 f3 q) (fun _ h => nomatch h)
    refine w_if (et_test (ev_cmp (ev_var rfl) ev_int)) (fun h' => ?_) fun h' => w_nx ?_
    · refine w_re (Ev.to (ev_tuple (ev_S_of_L (EvN.ev (en_lc (ei_tup (ev_var rfl)) (by decide) (fun i => -(xs.getD i 0)) (fun _ => []) rfl hl (fun i hi => ?_))))) ((range_get xs fun x => -x).trans (up_neg' hi hz (of_decide_eq_true h')).symm)) (rt_c f1 f2 f3 q) (fun _ h => nomatch h)
      show Ev _ [_, itS RI xs i] [] RI _ []
      rw [itS_get (List.getElem?_eq_getElem hi)]
      refine Ev.to (ev_neg (ev_var rfl)) ?_
      simp [List.getD_eq_getElem?_getD, hi]
    have h1 : ¬ xs[i] > 0 := of_decide_eq_false h
    have h2 : ¬ xs[i] < 0 := of_decide_eq_false h'
    exact w_known 0 rfl (zeros_step hi hz (by omega)) (w_wk (wk_same (wk_drop wk_nil)) (hI (i + 1)))
  · rw [List.take_length]
    refine w_fact 0 rfl fun hz => ?_
    exact w_re (Ev.to (ev_tuple (ev_S_of_T (ev_var rfl))) (up_zero hz).symm) q (fun _ h => nomatch h)
abbrev s_blade : Stmt := top 25
abbrev N_blade : List Str := ["points", "p", "q", "numbers", "u", "v", "out", "far", "number"]
theorem sc_blade : FnScope N_blade ["points"] (defScope s_blade) := ⟨rfl, rfl, rfl, by decide +kernel, rfl, by decide +kernel, by decide +kernel⟩
def sp_blade : Sp := spG (ι := P4 × P4 × P4) (fun i => [⟨_, RT (RT RI), [i.1.l, i.2.1.l, i.2.2.l]⟩]) (fun i => i.1.Z ∧ i.2.1.Z ∧ i.2.2.Z ∧ ¬ (m1 i.1 i.2.1 i.2.2 = 0 ∧ m2 i.1 i.2.1 i.2.2 = 0 ∧ m3 i.1 i.2.1 i.2.2 = 0)) (fun i => ⟨_, RT RI, low (planeN i.1 i.2.1 i.2.2)⟩)
abbrev C_blade (P : Program) (w : World) (K : PySem.W.Frag) (mg : Str → Option Value) (base : Heap) : Prop := Cal P w K mg base "blade" 3 ["points"] (sp_blade)
theorem plane_nd {p q r : P4} (hp : 0 < p.w) (h : (crs (gap p q) (gap p r)).x * p.w = 0 ∧ (crs (gap p q) (gap p r)).y * p.w = 0 ∧ (crs (gap p q) (gap p r)).z * p.w = 0) : m1 p q r = 0 ∧ m2 p q r = 0 ∧ m3 p q r = 0 := by
  have e := planeN_mm p q r
  unfold planeN mm at e
  simp only [List.map_cons, List.map_nil, List.cons.injEq] at e
  obtain ⟨e1, e2, e3, _⟩ := e
  have hw : p.w * p.w ≠ 0 := Int.mul_ne_zero (by omega) (by omega)
  rw [h.1] at e1; rw [h.2.1] at e2; rw [h.2.2] at e3
  refine ⟨?_, ?_, ?_⟩
  · exact (Int.mul_eq_zero.mp e1.symm).resolve_left hw
  · exact (Int.mul_eq_zero.mp e2.symm).resolve_left hw
  · exact (Int.mul_eq_zero.mp e3.symm).resolve_left hw
theorem ok_blade (bl : Bl mg) (c_lowest : C_lowest P w K mg base) (c_arrow : C_arrow P w K mg base) (F : FnP K "blade" s_blade [] f fd) : FnOk P w K mg base CX0 3 f fd ["points"] (sp_blade) := by
  refine okG F sc_blade (fun _ => rfl) (by decide) (fun cdv A outer s H E hr i hp => ⟨_, (pss_cons (ps_asg (pe_slice sl_tupA (pv 0) po_none (po_some pe_int)) (pg_tup (by rfl) (pgs_cons (pg_name (i := 1) sc_blade.nd rfl (.inl rfl)) (pgs_cons (pg_name (i := 2) sc_blade.nd rfl (.inl rfl)) pgs_nil))))
    (pss_cons (ps_if (pt_cmpR op_eq (pe_callB call_len_seq (by rfl) bl.len_ (by first | rfl | decide +kernel) (pa_cons (pv 0) pa_nil)) pe_int (nomark _)) (pss_one (ps_set (i := 3) sc_blade.nd rfl (.inl rfl) (pe_tup (pa_cons (pe_op op_sub (pe_op op_mulX (pe_ix ix_tup (pv 1) pe_int (fun _ _ => rfl)) (pe_ix ix_tup (pv 2) pe_int (fun _ _ => rfl))) (pe_op op_mulX (pe_ix ix_tup (pv 1) pe_int (fun _ _ => rfl)) (pe_ix ix_tup (pv 2) pe_int (fun _ _ => rfl)))) (pa_cons (pe_op op_sub (pe_op op_mulX (pe_ix ix_tup (pv 1) pe_int (fun _ _ => rfl)) (pe_ix ix_tup (pv 2) pe_int (fun _ _ => rfl))) (pe_op op_mulX (pe_ix ix_tup (pv 1) pe_int (fun _ _ => rfl)) (pe_ix ix_tup (pv 2) pe_int (fun _ _ => rfl)))) (pa_cons (pe_op op_sub (pe_op op_mulX (pe_ix ix_tup (pv 1) pe_int (fun _ _ => rfl)) (pe_ix ix_tup (pv 2) pe_int (fun _ _ => rfl))) (pe_op op_mulX (pe_ix ix_tup (pv 1) pe_int (fun _ _ => rfl)) (pe_ix ix_tup (pv 2) pe_int (fun _ _ => rfl)))) pa_nil)))))) (pss_cons (ps_set (i := 4) sc_blade.nd rfl (.inl rfl) (pcall c_arrow (hr.mono (by decide)) (by rfl) (pa_cons (pv 1) (pa_cons (pv 2) pa_nil))))
    (pss_cons (ps_set (i := 5) sc_blade.nd rfl (.inl rfl) (pcall c_arrow (hr.mono (by decide)) (by rfl) (pa_cons (pv 1) (pa_cons (pe_ix ix_tup (pv 0) pe_int (fun _ _ => rfl)) pa_nil))))
    (pss_cons (ps_set (i := 6) sc_blade.nd rfl (.inl rfl) (pe_tup (pa_cons (pe_op op_sub (pe_op op_mulX (pe_ix ix_tup (pv 4) pe_int (fun _ _ => rfl)) (pe_ix ix_tup (pv 5) pe_int (fun _ _ => rfl))) (pe_op op_mulX (pe_ix ix_tup (pv 4) pe_int (fun _ _ => rfl)) (pe_ix ix_tup (pv 5) pe_int (fun _ _ => rfl)))) (pa_cons (pe_op op_sub (pe_op op_mulX (pe_ix ix_tup (pv 4) pe_int (fun _ _ => rfl)) (pe_ix ix_tup (pv 5) pe_int (fun _ _ => rfl))) (pe_op op_mulX (pe_ix ix_tup (pv 4) pe_int (fun _ _ => rfl)) (pe_ix ix_tup (pv 5) pe_int (fun _ _ => rfl)))) (pa_cons (pe_op op_sub (pe_op op_mulX (pe_ix ix_tup (pv 4) pe_int (fun _ _ => rfl)) (pe_ix ix_tup (pv 5) pe_int (fun _ _ => rfl))) (pe_op op_mulX (pe_ix ix_tup (pv 4) pe_int (fun _ _ => rfl)) (pe_ix ix_tup (pv 5) pe_int (fun _ _ => rfl)))) pa_nil)))))
    (pss_cons (ps_set (i := 7) sc_blade.nd rfl (.inl rfl) (pe_op op_add (pe_op op_add (pe_op op_mulX (pe_ix ix_tup (pv 6) pe_int (fun _ _ => rfl)) (pe_ix ix_tup (pv 1) pe_int (fun _ _ => rfl))) (pe_op op_mulX (pe_ix ix_tup (pv 6) pe_int (fun _ _ => rfl)) (pe_ix ix_tup (pv 1) pe_int (fun _ _ => rfl)))) (pe_op op_mulX (pe_ix ix_tup (pv 6) pe_int (fun _ _ => rfl)) (pe_ix ix_tup (pv 1) pe_int (fun _ _ => rfl)))))
    (pss_one (ps_set (i := 3) sc_blade.nd rfl (.inl rfl) (pe_tup (pa_cons (pe_op op_mulX (pe_ix ix_tup (pv 6) pe_int (fun _ _ => rfl)) (pe_ix ix_tup (pv 1) pe_int (fun _ _ => rfl))) (pa_cons (pe_op op_mulX (pe_ix ix_tup (pv 6) pe_int (fun _ _ => rfl)) (pe_ix ix_tup (pv 1) pe_int (fun _ _ => rfl))) (pa_cons (pe_op op_mulX (pe_ix ix_tup (pv 6) pe_int (fun _ _ => rfl)) (pe_ix ix_tup (pv 1) pe_int (fun _ _ => rfl))) (pa_cons (pe_un un_neg (pv 7)) pa_nil))))))))))))
    (pss_cons (ps_if (pt_val (pe_callB (cr_all rfl) (by rfl) bl.all_ (by first | rfl | decide +kernel) (pa_cons (pe_lc (own := [("number", 8)]) (tt := tYes) rfl sc_blade.nd (pi_tup (pe_slice sl_tupA (pv 3) po_none (po_some (pe_un un_neg pe_int)))) (blkOk_by (N := N_blade) (sc := defScope s_blade) (by decide +kernel)) (fun _ _ _ _ _ => (pg_name (i := 8) sc_blade.nd rfl (.inl rfl))) (fun _ _ _ _ _ => pts_nil) (fun _ _ _ _ _ => (pe_cmpR op_eq (pv 8) pe_int (nomark _)))) pa_nil))) (pss_one ps_never) pss_nil)
    (pss_one (ps_ret (pcall c_lowest (hr.mono (by decide)) (by rfl) (pa_cons (pv 3) pa_nil))))))), fun C rt hC q => ?_⟩)
  obtain ⟨p, q', r⟩ := i
  obtain ⟨hp, hq, hr', hn⟩ := hp
  dsimp only at hp hq hr' hn q
  have b1 := gap_B hp hq
  have b2 := gap_B hp hr'
  have b3 := crs_B b1 b2
  have bf : ∀ {x y : Int}, Bd 1603 x → Bd 400 y → Bd 8000 (x * y) := fun h g => (h.mul g).mono (by decide)
  refine w_seq (w_unT (js := [1, 2]) (ev_slT (ev_var rfl) eo_none (eo_some ev_int)) rfl (js_by rfl) ?_)
  refine w_seq (w_no ((et_test (ev_eqI (ev_len (ev_S_of_T (ev_var rfl))) ev_int)).to rfl) ?_)
  refine w_seq (w_set (ev_call (_, _) (ea_cons (ev_var rfl) (ea_cons (ev_var rfl) ea_nil)) ⟨hp, hq⟩) ?_)
  refine w_seq (w_set (ev_call (_, _) (ea_cons (ev_var rfl) (ea_cons (ev_ixT (ev_var rfl) ev_int rfl) ea_nil)) ⟨hp, hr'⟩) ?_)
  refine w_seq (w_set (ev_tup (ea_scons (ev_I0 (ev_I (ev_ixT (ev_var rfl) ev_int rfl) (ev_ixT (ev_var rfl) ev_int rfl) (by apply mulOk; (case h => (repeat' (first | assumption | exact Bd.lit (a := 64) rfl | exact P4.Z.x (by assumption) | exact P4.Z.y (by assumption) | exact P4.Z.z (by assumption) | exact P4.Z.w (by assumption) | exact V3.B.x (by assumption) | exact V3.B.y (by assumption) | exact V3.B.z (by assumption) | apply Bd.mul | apply Bd.add | apply Bd.sub | apply Bd.neg))); (case g => (repeat' (first | assumption | exact Bd.lit (a := 64) rfl | exact P4.Z.x (by assumption) | exact P4.Z.y (by assumption) | exact P4.Z.z (by assumption) | exact P4.Z.w (by assumption) | exact V3.B.x (by assumption) | exact V3.B.y (by assumption) | exact V3.B.z (by assumption) | apply Bd.mul | apply Bd.add | apply Bd.sub | apply Bd.neg))); (case l => decide))) (ev_I (ev_ixT (ev_var rfl) ev_int rfl) (ev_ixT (ev_var rfl) ev_int rfl) (by apply mulOk; (case h => (repeat' (first | assumption | exact Bd.lit (a := 64) rfl | exact P4.Z.x (by assumption) | exact P4.Z.y (by assumption) | exact P4.Z.z (by assumption) | exact P4.Z.w (by assumption) | exact V3.B.x (by assumption) | exact V3.B.y (by assumption) | exact V3.B.z (by assumption) | apply Bd.mul | apply Bd.add | apply Bd.sub | apply Bd.neg))); (case g => (repeat' (first | assumption | exact Bd.lit (a := 64) rfl | exact P4.Z.x (by assumption) | exact P4.Z.y (by assumption) | exact P4.Z.z (by assumption) | exact P4.Z.w (by assumption) | exact V3.B.x (by assumption) | exact V3.B.y (by assumption) | exact V3.B.z (by assumption) | apply Bd.mul | apply Bd.add | apply Bd.sub | apply Bd.neg))); (case l => decide)))) (ea_scons (ev_I0 (ev_I (ev_ixT (ev_var rfl) ev_int rfl) (ev_ixT (ev_var rfl) ev_int rfl) (by apply mulOk; (case h => (repeat' (first | assumption | exact Bd.lit (a := 64) rfl | exact P4.Z.x (by assumption) | exact P4.Z.y (by assumption) | exact P4.Z.z (by assumption) | exact P4.Z.w (by assumption) | exact V3.B.x (by assumption) | exact V3.B.y (by assumption) | exact V3.B.z (by assumption) | apply Bd.mul | apply Bd.add | apply Bd.sub | apply Bd.neg))); (case g => (repeat' (first | assumption | exact Bd.lit (a := 64) rfl | exact P4.Z.x (by assumption) | exact P4.Z.y (by assumption) | exact P4.Z.z (by assumption) | exact P4.Z.w (by assumption) | exact V3.B.x (by assumption) | exact V3.B.y (by assumption) | exact V3.B.z (by assumption) | apply Bd.mul | apply Bd.add | apply Bd.sub | apply Bd.neg))); (case l => decide))) (ev_I (ev_ixT (ev_var rfl) ev_int rfl) (ev_ixT (ev_var rfl) ev_int rfl) (by apply mulOk; (case h => (repeat' (first | assumption | exact Bd.lit (a := 64) rfl | exact P4.Z.x (by assumption) | exact P4.Z.y (by assumption) | exact P4.Z.z (by assumption) | exact P4.Z.w (by assumption) | exact V3.B.x (by assumption) | exact V3.B.y (by assumption) | exact V3.B.z (by assumption) | apply Bd.mul | apply Bd.add | apply Bd.sub | apply Bd.neg))); (case g => (repeat' (first | assumption | exact Bd.lit (a := 64) rfl | exact P4.Z.x (by assumption) | exact P4.Z.y (by assumption) | exact P4.Z.z (by assumption) | exact P4.Z.w (by assumption) | exact V3.B.x (by assumption) | exact V3.B.y (by assumption) | exact V3.B.z (by assumption) | apply Bd.mul | apply Bd.add | apply Bd.sub | apply Bd.neg))); (case l => decide)))) (ea_scons (ev_I0 (ev_I (ev_ixT (ev_var rfl) ev_int rfl) (ev_ixT (ev_var rfl) ev_int rfl) (by apply mulOk; (case h => (repeat' (first | assumption | exact Bd.lit (a := 64) rfl | exact P4.Z.x (by assumption) | exact P4.Z.y (by assumption) | exact P4.Z.z (by assumption) | exact P4.Z.w (by assumption) | exact V3.B.x (by assumption) | exact V3.B.y (by assumption) | exact V3.B.z (by assumption) | apply Bd.mul | apply Bd.add | apply Bd.sub | apply Bd.neg))); (case g => (repeat' (first | assumption | exact Bd.lit (a := 64) rfl | exact P4.Z.x (by assumption) | exact P4.Z.y (by assumption) | exact P4.Z.z (by assumption) | exact P4.Z.w (by assumption) | exact V3.B.x (by assumption) | exact V3.B.y (by assumption) | exact V3.B.z (by assumption) | apply Bd.mul | apply Bd.add | apply Bd.sub | apply Bd.neg))); (case l => decide))) (ev_I (ev_ixT (ev_var rfl) ev_int rfl) (ev_ixT (ev_var rfl) ev_int rfl) (by apply mulOk; (case h => (repeat' (first | assumption | exact Bd.lit (a := 64) rfl | exact P4.Z.x (by assumption) | exact P4.Z.y (by assumption) | exact P4.Z.z (by assumption) | exact P4.Z.w (by assumption) | exact V3.B.x (by assumption) | exact V3.B.y (by assumption) | exact V3.B.z (by assumption) | apply Bd.mul | apply Bd.add | apply Bd.sub | apply Bd.neg))); (case g => (repeat' (first | assumption | exact Bd.lit (a := 64) rfl | exact P4.Z.x (by assumption) | exact P4.Z.y (by assumption) | exact P4.Z.z (by assumption) | exact P4.Z.w (by assumption) | exact V3.B.x (by assumption) | exact V3.B.y (by assumption) | exact V3.B.z (by assumption) | apply Bd.mul | apply Bd.add | apply Bd.sub | apply Bd.neg))); (case l => decide)))) ea_snil))) (le_by rfl)) ?_)
  refine w_seq (w_set (ev_I0 (ev_I0 (ev_I (ev_ixT (ev_var rfl) ev_int rfl) (ev_ixT (ev_var rfl) ev_int rfl) (by apply mulOk; (case h => (repeat' (first | assumption | exact Bd.lit (a := 64) rfl | exact P4.Z.x (by assumption) | exact P4.Z.y (by assumption) | exact P4.Z.z (by assumption) | exact P4.Z.w (by assumption) | exact V3.B.x (by assumption) | exact V3.B.y (by assumption) | exact V3.B.z (by assumption) | apply Bd.mul | apply Bd.add | apply Bd.sub | apply Bd.neg))); (case g => (repeat' (first | assumption | exact Bd.lit (a := 64) rfl | exact P4.Z.x (by assumption) | exact P4.Z.y (by assumption) | exact P4.Z.z (by assumption) | exact P4.Z.w (by assumption) | exact V3.B.x (by assumption) | exact V3.B.y (by assumption) | exact V3.B.z (by assumption) | apply Bd.mul | apply Bd.add | apply Bd.sub | apply Bd.neg))); (case l => decide))) (ev_I (ev_ixT (ev_var rfl) ev_int rfl) (ev_ixT (ev_var rfl) ev_int rfl) (by apply mulOk; (case h => (repeat' (first | assumption | exact Bd.lit (a := 64) rfl | exact P4.Z.x (by assumption) | exact P4.Z.y (by assumption) | exact P4.Z.z (by assumption) | exact P4.Z.w (by assumption) | exact V3.B.x (by assumption) | exact V3.B.y (by assumption) | exact V3.B.z (by assumption) | apply Bd.mul | apply Bd.add | apply Bd.sub | apply Bd.neg))); (case g => (repeat' (first | assumption | exact Bd.lit (a := 64) rfl | exact P4.Z.x (by assumption) | exact P4.Z.y (by assumption) | exact P4.Z.z (by assumption) | exact P4.Z.w (by assumption) | exact V3.B.x (by assumption) | exact V3.B.y (by assumption) | exact V3.B.z (by assumption) | apply Bd.mul | apply Bd.add | apply Bd.sub | apply Bd.neg))); (case l => decide)))) (ev_I (ev_ixT (ev_var rfl) ev_int rfl) (ev_ixT (ev_var rfl) ev_int rfl) (by apply mulOk; (case h => (repeat' (first | assumption | exact Bd.lit (a := 64) rfl | exact P4.Z.x (by assumption) | exact P4.Z.y (by assumption) | exact P4.Z.z (by assumption) | exact P4.Z.w (by assumption) | exact V3.B.x (by assumption) | exact V3.B.y (by assumption) | exact V3.B.z (by assumption) | apply Bd.mul | apply Bd.add | apply Bd.sub | apply Bd.neg))); (case g => (repeat' (first | assumption | exact Bd.lit (a := 64) rfl | exact P4.Z.x (by assumption) | exact P4.Z.y (by assumption) | exact P4.Z.z (by assumption) | exact P4.Z.w (by assumption) | exact V3.B.x (by assumption) | exact V3.B.y (by assumption) | exact V3.B.z (by assumption) | apply Bd.mul | apply Bd.add | apply Bd.sub | apply Bd.neg))); (case l => decide)))) ?_)
  refine w_set (ev_tup (ea_scons (ev_I (ev_ixT (ev_var rfl) ev_int rfl) (ev_ixT (ev_var rfl) ev_int rfl) (by apply mulOk; (case h => (repeat' (first | assumption | exact Bd.lit (a := 64) rfl | exact P4.Z.x (by assumption) | exact P4.Z.y (by assumption) | exact P4.Z.z (by assumption) | exact P4.Z.w (by assumption) | exact V3.B.x (by assumption) | exact V3.B.y (by assumption) | exact V3.B.z (by assumption) | apply Bd.mul | apply Bd.add | apply Bd.sub | apply Bd.neg))); (case g => (repeat' (first | assumption | exact Bd.lit (a := 64) rfl | exact P4.Z.x (by assumption) | exact P4.Z.y (by assumption) | exact P4.Z.z (by assumption) | exact P4.Z.w (by assumption) | exact V3.B.x (by assumption) | exact V3.B.y (by assumption) | exact V3.B.z (by assumption) | apply Bd.mul | apply Bd.add | apply Bd.sub | apply Bd.neg))); (case l => decide))) (ea_scons (ev_I (ev_ixT (ev_var rfl) ev_int rfl) (ev_ixT (ev_var rfl) ev_int rfl) (by apply mulOk; (case h => (repeat' (first | assumption | exact Bd.lit (a := 64) rfl | exact P4.Z.x (by assumption) | exact P4.Z.y (by assumption) | exact P4.Z.z (by assumption) | exact P4.Z.w (by assumption) | exact V3.B.x (by assumption) | exact V3.B.y (by assumption) | exact V3.B.z (by assumption) | apply Bd.mul | apply Bd.add | apply Bd.sub | apply Bd.neg))); (case g => (repeat' (first | assumption | exact Bd.lit (a := 64) rfl | exact P4.Z.x (by assumption) | exact P4.Z.y (by assumption) | exact P4.Z.z (by assumption) | exact P4.Z.w (by assumption) | exact V3.B.x (by assumption) | exact V3.B.y (by assumption) | exact V3.B.z (by assumption) | apply Bd.mul | apply Bd.add | apply Bd.sub | apply Bd.neg))); (case l => decide))) (ea_scons (ev_I (ev_ixT (ev_var rfl) ev_int rfl) (ev_ixT (ev_var rfl) ev_int rfl) (by apply mulOk; (case h => (repeat' (first | assumption | exact Bd.lit (a := 64) rfl | exact P4.Z.x (by assumption) | exact P4.Z.y (by assumption) | exact P4.Z.z (by assumption) | exact P4.Z.w (by assumption) | exact V3.B.x (by assumption) | exact V3.B.y (by assumption) | exact V3.B.z (by assumption) | apply Bd.mul | apply Bd.add | apply Bd.sub | apply Bd.neg))); (case g => (repeat' (first | assumption | exact Bd.lit (a := 64) rfl | exact P4.Z.x (by assumption) | exact P4.Z.y (by assumption) | exact P4.Z.z (by assumption) | exact P4.Z.w (by assumption) | exact V3.B.x (by assumption) | exact V3.B.y (by assumption) | exact V3.B.z (by assumption) | apply Bd.mul | apply Bd.add | apply Bd.sub | apply Bd.neg))); (case l => decide))) (ea_scons (ev_neg (ev_var rfl)) ea_snil)))) (le_by rfl)) ?_
  refine w_seq (w_no ((et_test (ev_all (EvN.ev (en_lc3 (ei_tup (ev_slT (ev_var rfl) eo_none (eo_some (ev_neg ev_int)))) (by decide) rfl (ev_eqI (ev_var rfl) ev_int) (ev_eqI (ev_var rfl) ev_int) (ev_eqI (ev_var rfl) ev_int))))).to ?_) (w_nx ?_))
  · rw [Bool.eq_false_iff]
    intro h
    rw [List.all_eq_true] at h
    refine hn (plane_nd hp.w0 ⟨?_, ?_, ?_⟩)
    · exact of_decide_eq_true (h _ (List.mem_cons_self ..))
    · exact of_decide_eq_true (h _ (List.mem_cons_of_mem _ (List.mem_cons_self ..)))
    · exact of_decide_eq_true (h _ (List.mem_cons_of_mem _ (List.mem_cons_of_mem _ (List.mem_cons_self ..))))
  · exact w_re (ev_call (false, planeN p q' r) (ea_cons (ev_var rfl) ea_nil) ⟨le_by rfl, all4 (bf b3.x hp.w) (bf b3.y hp.w) (bf b3.z hp.w) (((((b3.x.mul hp.x).add (b3.y.mul hp.y)).add (b3.z.mul hp.z)).neg).mono (by decide))⟩) q (fun _ h => nomatch h)
abbrev s_line_key : Stmt := top 28
abbrev N_line_key : List Str := ["p", "q", "way", "x", "y", "z"]
theorem sc_line_key : FnScope N_line_key ["p", "q"] (defScope s_line_key) := ⟨rfl, rfl, rfl, by decide +kernel, rfl, by decide +kernel, by decide +kernel⟩
def sp_line_key : Sp := spG (ι := P4 × P4) (fun i => [⟨_, RT RI, i.1.l⟩, ⟨_, RT RI, i.2.l⟩]) (fun i => i.1.Z ∧ i.2.Z) (fun i => ⟨_, RT RI, line i.1 i.2⟩)
abbrev C_line_key (P : Program) (w : World) (K : PySem.W.Frag) (mg : Str → Option Value) (base : Heap) : Prop := Cal P w K mg base "line_key" 4 ["p", "q"] (sp_line_key)
theorem lineN_B {p q : P4} (hp : p.Z) (hq : q.Z) : ∀ x ∈ lineN p q, Bd 8000 x := fun x hx => by
  have m : ∀ {y : Int}, Bd 801 y → Bd 8000 y := fun h => h.mono (by decide)
  unfold lineN at hx
  simp only [List.mem_cons, List.not_mem_nil, or_false] at hx
  rcases hx with rfl | rfl | rfl | rfl | rfl | rfl <;> apply m
  · exact (hq.x.mul hp.w).sub (hp.x.mul hq.w)
  · exact (hq.y.mul hp.w).sub (hp.y.mul hq.w)
  · exact (hq.z.mul hp.w).sub (hp.z.mul hq.w)
  · exact (hp.y.mul hq.z).sub (hp.z.mul hq.y)
  · exact (hp.z.mul hq.x).sub (hp.x.mul hq.z)
  · exact (hp.x.mul hq.y).sub (hp.y.mul hq.x)
theorem ok_line_key (bl : Bl mg) (c_arrow : C_arrow P w K mg base) (c_unturned : C_unturned P w K mg base) (c_lowest : C_lowest P w K mg base) (c_blade : C_blade P w K mg base) (F : FnP K "line_key" s_line_key [] f fd) : FnOk P w K mg base CX0 4 f fd ["p", "q"] (sp_line_key) := by
  refine okG F sc_line_key (fun _ => rfl) (by decide) (fun cdv A outer s H E hr i hp => ⟨_, (pss_cons (ps_set (i := 2) sc_line_key.nd rfl (.inl rfl) (pcall c_arrow (hr.mono (by decide)) (by rfl) (pa_cons (pv 0) (pa_cons (pv 1) pa_nil))))
    (pss_cons (ps_if (pt_cmpR op_eq (pe_callB call_len_seq (by rfl) bl.len_ (by first | rfl | decide +kernel) (pa_cons (pv 2) pa_nil)) pe_int (nomark _)) (pss_one (ps_ret (pcall c_unturned (hr.mono (by decide)) (by rfl) (pa_cons (pcall c_blade (hr.mono (by decide)) (by rfl) (pa_cons (pe_tup (pa_cons (pv 0) (pa_cons (pv 1) pa_nil))) pa_nil)) pa_nil)))) pss_nil)
    (pss_cons (ps_set (i := 3) sc_line_key.nd rfl (.inl rfl) (pe_op op_sub (pe_op op_mulX (pe_ix ix_tup (pv 0) pe_int (fun _ _ => rfl)) (pe_ix ix_tup (pv 1) pe_int (fun _ _ => rfl))) (pe_op op_mulX (pe_ix ix_tup (pv 0) pe_int (fun _ _ => rfl)) (pe_ix ix_tup (pv 1) pe_int (fun _ _ => rfl)))))
    (pss_cons (ps_set (i := 4) sc_line_key.nd rfl (.inl rfl) (pe_op op_sub (pe_op op_mulX (pe_ix ix_tup (pv 0) pe_int (fun _ _ => rfl)) (pe_ix ix_tup (pv 1) pe_int (fun _ _ => rfl))) (pe_op op_mulX (pe_ix ix_tup (pv 0) pe_int (fun _ _ => rfl)) (pe_ix ix_tup (pv 1) pe_int (fun _ _ => rfl)))))
    (pss_cons (ps_set (i := 5) sc_line_key.nd rfl (.inl rfl) (pe_op op_sub (pe_op op_mulX (pe_ix ix_tup (pv 0) pe_int (fun _ _ => rfl)) (pe_ix ix_tup (pv 1) pe_int (fun _ _ => rfl))) (pe_op op_mulX (pe_ix ix_tup (pv 0) pe_int (fun _ _ => rfl)) (pe_ix ix_tup (pv 1) pe_int (fun _ _ => rfl)))))
    (pss_one (ps_ret (pcall c_unturned (hr.mono (by decide)) (by rfl) (pa_cons (pcall c_lowest (hr.mono (by decide)) (by rfl) (pa_cons (pe_op op_catA (pv 2) (pe_tup (pa_cons (pv 3) (pa_cons (pv 4) (pa_cons (pv 5) pa_nil))))) pa_nil)) pa_nil))))))))), fun C rt hC q => ?_⟩)
  obtain ⟨p, q'⟩ := i
  obtain ⟨hp, hq⟩ := hp
  dsimp only at hp hq q
  refine w_seq (w_set (ev_call (_, _) (ea_cons (ev_var rfl) (ea_cons (ev_var rfl) ea_nil)) ⟨hp, hq⟩) ?_)
  refine w_seq (w_no ((et_test (ev_eqI (ev_len (ev_S_of_T (ev_var rfl))) ev_int)).to rfl) (w_nx ?_))
  refine w_seq (w_set (ev_I0 (ev_I (ev_ixT (ev_var rfl) ev_int rfl) (ev_ixT (ev_var rfl) ev_int rfl) (by apply mulOk; (case h => (repeat' (first | assumption | exact Bd.lit (a := 64) rfl | exact P4.Z.x (by assumption) | exact P4.Z.y (by assumption) | exact P4.Z.z (by assumption) | exact P4.Z.w (by assumption) | exact V3.B.x (by assumption) | exact V3.B.y (by assumption) | exact V3.B.z (by assumption) | apply Bd.mul | apply Bd.add | apply Bd.sub | apply Bd.neg))); (case g => (repeat' (first | assumption | exact Bd.lit (a := 64) rfl | exact P4.Z.x (by assumption) | exact P4.Z.y (by assumption) | exact P4.Z.z (by assumption) | exact P4.Z.w (by assumption) | exact V3.B.x (by assumption) | exact V3.B.y (by assumption) | exact V3.B.z (by assumption) | apply Bd.mul | apply Bd.add | apply Bd.sub | apply Bd.neg))); (case l => decide))) (ev_I (ev_ixT (ev_var rfl) ev_int rfl) (ev_ixT (ev_var rfl) ev_int rfl) (by apply mulOk; (case h => (repeat' (first | assumption | exact Bd.lit (a := 64) rfl | exact P4.Z.x (by assumption) | exact P4.Z.y (by assumption) | exact P4.Z.z (by assumption) | exact P4.Z.w (by assumption) | exact V3.B.x (by assumption) | exact V3.B.y (by assumption) | exact V3.B.z (by assumption) | apply Bd.mul | apply Bd.add | apply Bd.sub | apply Bd.neg))); (case g => (repeat' (first | assumption | exact Bd.lit (a := 64) rfl | exact P4.Z.x (by assumption) | exact P4.Z.y (by assumption) | exact P4.Z.z (by assumption) | exact P4.Z.w (by assumption) | exact V3.B.x (by assumption) | exact V3.B.y (by assumption) | exact V3.B.z (by assumption) | apply Bd.mul | apply Bd.add | apply Bd.sub | apply Bd.neg))); (case l => decide)))) ?_)
  refine w_seq (w_set (ev_I0 (ev_I (ev_ixT (ev_var rfl) ev_int rfl) (ev_ixT (ev_var rfl) ev_int rfl) (by apply mulOk; (case h => (repeat' (first | assumption | exact Bd.lit (a := 64) rfl | exact P4.Z.x (by assumption) | exact P4.Z.y (by assumption) | exact P4.Z.z (by assumption) | exact P4.Z.w (by assumption) | exact V3.B.x (by assumption) | exact V3.B.y (by assumption) | exact V3.B.z (by assumption) | apply Bd.mul | apply Bd.add | apply Bd.sub | apply Bd.neg))); (case g => (repeat' (first | assumption | exact Bd.lit (a := 64) rfl | exact P4.Z.x (by assumption) | exact P4.Z.y (by assumption) | exact P4.Z.z (by assumption) | exact P4.Z.w (by assumption) | exact V3.B.x (by assumption) | exact V3.B.y (by assumption) | exact V3.B.z (by assumption) | apply Bd.mul | apply Bd.add | apply Bd.sub | apply Bd.neg))); (case l => decide))) (ev_I (ev_ixT (ev_var rfl) ev_int rfl) (ev_ixT (ev_var rfl) ev_int rfl) (by apply mulOk; (case h => (repeat' (first | assumption | exact Bd.lit (a := 64) rfl | exact P4.Z.x (by assumption) | exact P4.Z.y (by assumption) | exact P4.Z.z (by assumption) | exact P4.Z.w (by assumption) | exact V3.B.x (by assumption) | exact V3.B.y (by assumption) | exact V3.B.z (by assumption) | apply Bd.mul | apply Bd.add | apply Bd.sub | apply Bd.neg))); (case g => (repeat' (first | assumption | exact Bd.lit (a := 64) rfl | exact P4.Z.x (by assumption) | exact P4.Z.y (by assumption) | exact P4.Z.z (by assumption) | exact P4.Z.w (by assumption) | exact V3.B.x (by assumption) | exact V3.B.y (by assumption) | exact V3.B.z (by assumption) | apply Bd.mul | apply Bd.add | apply Bd.sub | apply Bd.neg))); (case l => decide)))) ?_)
  refine w_seq (w_set (ev_I0 (ev_I (ev_ixT (ev_var rfl) ev_int rfl) (ev_ixT (ev_var rfl) ev_int rfl) (by apply mulOk; (case h => (repeat' (first | assumption | exact Bd.lit (a := 64) rfl | exact P4.Z.x (by assumption) | exact P4.Z.y (by assumption) | exact P4.Z.z (by assumption) | exact P4.Z.w (by assumption) | exact V3.B.x (by assumption) | exact V3.B.y (by assumption) | exact V3.B.z (by assumption) | apply Bd.mul | apply Bd.add | apply Bd.sub | apply Bd.neg))); (case g => (repeat' (first | assumption | exact Bd.lit (a := 64) rfl | exact P4.Z.x (by assumption) | exact P4.Z.y (by assumption) | exact P4.Z.z (by assumption) | exact P4.Z.w (by assumption) | exact V3.B.x (by assumption) | exact V3.B.y (by assumption) | exact V3.B.z (by assumption) | apply Bd.mul | apply Bd.add | apply Bd.sub | apply Bd.neg))); (case l => decide))) (ev_I (ev_ixT (ev_var rfl) ev_int rfl) (ev_ixT (ev_var rfl) ev_int rfl) (by apply mulOk; (case h => (repeat' (first | assumption | exact Bd.lit (a := 64) rfl | exact P4.Z.x (by assumption) | exact P4.Z.y (by assumption) | exact P4.Z.z (by assumption) | exact P4.Z.w (by assumption) | exact V3.B.x (by assumption) | exact V3.B.y (by assumption) | exact V3.B.z (by assumption) | apply Bd.mul | apply Bd.add | apply Bd.sub | apply Bd.neg))); (case g => (repeat' (first | assumption | exact Bd.lit (a := 64) rfl | exact P4.Z.x (by assumption) | exact P4.Z.y (by assumption) | exact P4.Z.z (by assumption) | exact P4.Z.w (by assumption) | exact V3.B.x (by assumption) | exact V3.B.y (by assumption) | exact V3.B.z (by assumption) | apply Bd.mul | apply Bd.add | apply Bd.sub | apply Bd.neg))); (case l => decide)))) ?_)
  exact w_re (ev_call _ (ea_cons (ev_call (false, _) (ea_cons (ev_catT (ev_var rfl) (ev_tup (ea_scons (ev_var rfl) (ea_scons (ev_var rfl) (ea_scons (ev_var rfl) ea_snil))) (le_by rfl)) (le_by rfl)) ea_nil) ⟨le_by rfl, lineN_B hp hq⟩) ea_nil) (le_by rfl)) q (fun _ h => nomatch h)
end
end Sc
set_option Elab.async false
set_option linter.all false
set_option maxRecDepth 10000
/-! tables of ends as lists of entries -/
namespace Ma
open TL
def valK (kvs : List (Key × Int)) (k : Key) : Int := (lookK kvs k).getD 0
def putEnd (kvs : List (Key × Int)) (k : Key) (n : Int) : List (Key × Int) := if valK kvs k + n = 0 then dropK kvs k else putK kvs k (valK kvs k + n)
def putSum (kvs : List (Key × Int)) (k : Key) (n : Int) : List (Key × Int) := putK kvs k (valK kvs k + n)
section
variable {β : Type} {kvs : List (Key × β)} {k k' : Key} {x : β}
theorem lookK_nil : lookK ([] : List (Key × β)) k = none := rfl
theorem lookK_cons (p : Key × β) : lookK (p :: kvs) k = if p.1 = k then some p.2 else lookK kvs k := by
  unfold lookK
  rw [List.find?_cons]
  by_cases h : p.1 = k <;> simp [h]
theorem lookK_app (b : List (Key × β)) : lookK (kvs ++ b) k = (lookK kvs k).or (lookK b k) := by
  induction kvs with
  | nil => simp [lookK_nil]
  | cons p kvs ih =>
    rw [List.cons_append, lookK_cons, lookK_cons, ih]
    split <;> simp
theorem lookK_map : lookK (kvs.map fun p => if p.1 = k then (p.1, x) else p) k' = if k' = k then (lookK kvs k').map fun _ => x else lookK kvs k' := by
  induction kvs with
  | nil => simp [lookK_nil]
  | cons p kvs ih =>
    rw [List.map_cons, lookK_cons, lookK_cons, ih]
    by_cases h : p.1 = k
    · rw [if_pos h]
      by_cases h' : k' = k
      · subst h'; simp [h]
      · have : ¬ p.1 = k' := fun e => h' (e.symm.trans h)
        simp [h', this]
    · rw [if_neg h]
      by_cases h' : k' = k
      · subst h'; simp [h]
      · simp [h']
theorem lookK_put : lookK (putK kvs k x) k' = if k' = k then some x else lookK kvs k' := by
  unfold putK
  by_cases h : (lookK kvs k).isSome
  · rw [if_pos h, lookK_map]
    by_cases e : k' = k
    · subst e
      obtain ⟨y, hy⟩ := Option.isSome_iff_exists.mp h
      simp [hy]
    · simp [e]
  · rw [if_neg h, lookK_app, lookK_cons, lookK_nil]
    have hn : lookK kvs k = none := by simpa using h
    by_cases e : k' = k
    · subst e; simp [hn]
    · have : ¬ k = k' := fun z => e z.symm
      simp [e, this]
theorem lookK_drop : lookK (dropK kvs k) k' = if k' = k then none else lookK kvs k' := by
  unfold dropK
  induction kvs with
  | nil => simp [lookK_nil]
  | cons p kvs ih =>
    rw [List.filter_cons]
    by_cases h : p.1 = k
    · rw [if_neg (by simp [h]), ih, lookK_cons]
      by_cases e : k' = k
      · simp [e]
      · have : ¬ p.1 = k' := fun z => e (z.symm.trans h)
        simp [e, this]
    · rw [if_pos (by simp [h]), lookK_cons, ih, lookK_cons]
      by_cases e : k' = k
      · subst e; simp [h]
      · simp [e]
theorem lookK_keys : (lookK kvs k).isSome ↔ k ∈ kvs.map (·.1) := by
  induction kvs with
  | nil => simp [lookK_nil]
  | cons p kvs ih =>
    rw [lookK_cons, List.map_cons, List.mem_cons]
    by_cases h : p.1 = k
    · simp [h]
    · have : ¬ k = p.1 := fun z => h z.symm
      simp only [h, this, if_false, false_or]
      exact ih
theorem put_keys : (putK kvs k x).map (·.1) = if (lookK kvs k).isSome then kvs.map (·.1) else kvs.map (·.1) ++ [k] := by
  unfold putK
  split
  · rw [List.map_map]
    refine List.map_congr_left fun p _ => ?_
    show (if p.1 = k then (p.1, x) else p).1 = p.1
    split <;> rfl
  · simp
theorem put_nodup (h : (kvs.map (·.1)).Nodup) : ((putK kvs k x).map (·.1)).Nodup := by
  rw [put_keys]
  split
  · exact h
  · next e =>
    rw [List.nodup_append]
    refine ⟨h, by simp, fun a ha b hb => ?_⟩
    cases List.mem_singleton.mp hb
    intro z
    subst z
    exact e (lookK_keys.mpr ha)
theorem drop_nodup (h : (kvs.map (·.1)).Nodup) : ((dropK kvs k).map (·.1)).Nodup := h.sublist ((List.filter_sublist).map _)
theorem look_mem (h : (kvs.map (·.1)).Nodup) {p : Key × β} (hp : p ∈ kvs) : lookK kvs p.1 = some p.2 := by
  induction kvs with
  | nil => cases hp
  | cons q kvs ih =>
    rw [List.map_cons, List.nodup_cons] at h
    rw [lookK_cons]
    rcases List.mem_cons.mp hp with rfl | hp
    · simp
    · have : ¬ q.1 = p.1 := fun z => h.1 (by rw [z]; exact List.mem_map_of_mem hp)
      rw [if_neg this]
      exact ih h.2 hp
theorem put_len : (putK kvs k x).length ≤ kvs.length + 1 := by
  unfold putK
  split <;> simp
theorem drop_len : (dropK kvs k).length ≤ kvs.length := List.length_filter_le _ _
end
/-- no end lies twice, none with nought -/
structure Good (kvs : List (Key × Int)) : Prop where
  nd : (kvs.map (·.1)).Nodup
  nz : ∀ k x, lookK kvs k = some x → x ≠ 0
theorem good_nil : Good [] := ⟨List.nodup_nil, fun k x h => by cases h⟩
theorem putEnd_val (kvs : List (Key × Int)) (k k' : Key) (n : Int) : valK (putEnd kvs k n) k' = valK kvs k' + if k' = k then n else 0 := by
  unfold putEnd
  split
  · next h =>
    show (lookK (dropK kvs k) k').getD 0 = _
    rw [lookK_drop]
    by_cases e : k' = k
    · subst e; simp [h]
    · simp [e, valK]
  · show (lookK (putK kvs k _) k').getD 0 = _
    rw [lookK_put]
    by_cases e : k' = k
    · subst e; simp
    · simp [e, valK]
theorem putSum_val (kvs : List (Key × Int)) (k k' : Key) (n : Int) : valK (putSum kvs k n) k' = valK kvs k' + if k' = k then n else 0 := by
  show (lookK (putK kvs k _) k').getD 0 = _
  rw [lookK_put]
  by_cases e : k' = k
  · subst e; simp
  · simp [e, valK]
theorem putEnd_good {kvs : List (Key × Int)} (h : Good kvs) (k : Key) (n : Int) : Good (putEnd kvs k n) := by
  unfold putEnd
  split
  · refine ⟨drop_nodup h.nd, fun k' x e => ?_⟩
    rw [lookK_drop] at e
    split at e
    · cases e
    · exact h.nz _ _ e
  · next hn =>
    refine ⟨put_nodup h.nd, fun k' x e => ?_⟩
    rw [lookK_put] at e
    split at e
    · cases e; exact hn
    · exact h.nz _ _ e
theorem putEnd_pop {kvs : List (Key × Int)} {k : Key} {n : Int} (hn : n ≠ 0) (h : valK kvs k + n = 0) : lookK kvs k = some (-n) := by
  unfold valK at h
  cases e : lookK kvs k with
  | none => rw [e] at h; simp at h; exact absurd h hn
  | some x => rw [e] at h; simp at h; congr 1; omega
theorem good_eq {a b : List (Key × Int)} (ha : Good a) (hb : Good b) (h : ∀ k, valK a k = valK b k) : a.length = b.length ∧ ∀ p ∈ a, lookK b p.1 = some p.2 := by
  have lk : ∀ k, lookK a k = lookK b k := fun k => by
    have e := h k
    unfold valK at e
    cases h1 : lookK a k with
    | none =>
      cases h2 : lookK b k with
      | none => rfl
      | some y => rw [h1, h2] at e; exact absurd e.symm (hb.nz _ _ h2)
    | some x =>
      cases h2 : lookK b k with
      | none => rw [h1, h2] at e; exact absurd e (ha.nz _ _ h1)
      | some y => rw [h1, h2] at e; exact congrArg some e
  have ks : ∀ k, k ∈ a.map (·.1) ↔ k ∈ b.map (·.1) := fun k => by rw [← lookK_keys, ← lookK_keys, lk]
  have hp : (a.map (·.1)).Perm (b.map (·.1)) := (List.perm_ext_iff_of_nodup ha.nd hb.nd).mpr ks
  refine ⟨by have := hp.length_eq; simpa using this, fun p hp => ?_⟩
  rw [← lk]
  exact look_mem ha.nd hp
/-! ### what a heap puts -/
abbrev Ops := List (Key × Int)
def sumOps (o : Ops) (κ : Key) : Int := (o.map fun p => if κ = p.1 then p.2 else 0).sum
theorem sumOps_app (a b : Ops) (κ : Key) : sumOps (a ++ b) κ = sumOps a κ + sumOps b κ := by simp [sumOps]
theorem sumOps_nil (κ : Key) : sumOps [] κ = 0 := rfl
theorem sumOps_cons (p : Key × Int) (a : Ops) (κ : Key) : sumOps (p :: a) κ = (if κ = p.1 then p.2 else 0) + sumOps a κ := by simp [sumOps]
def doEnd (d : List (Key × Int)) (o : Ops) : List (Key × Int) := o.foldl (fun d p => putEnd d p.1 p.2) d
def doSum (d : List (Key × Int)) (o : Ops) : List (Key × Int) := o.foldl (fun d p => putSum d p.1 p.2) d
theorem doEnd_app (d : List (Key × Int)) (a b : Ops) : doEnd d (a ++ b) = doEnd (doEnd d a) b := List.foldl_append
theorem doSum_app (d : List (Key × Int)) (a b : Ops) : doSum d (a ++ b) = doSum (doSum d a) b := List.foldl_append
theorem doEnd_val : ∀ (o : Ops) (d : List (Key × Int)) (κ : Key), valK (doEnd d o) κ = valK d κ + sumOps o κ
  | [], d, κ => by rw [sumOps_nil]; show valK d κ = _; omega
  | p :: o, d, κ => by
    show valK (doEnd (putEnd d p.1 p.2) o) κ = _
    rw [doEnd_val o, putEnd_val, sumOps_cons]
    omega
theorem doSum_val : ∀ (o : Ops) (d : List (Key × Int)) (κ : Key), valK (doSum d o) κ = valK d κ + sumOps o κ
  | [], d, κ => by rw [sumOps_nil]; show valK d κ = _; omega
  | p :: o, d, κ => by
    show valK (doSum (putSum d p.1 p.2) o) κ = _
    rw [doSum_val o, putSum_val, sumOps_cons]
    omega
theorem doEnd_good : ∀ (o : Ops) {d : List (Key × Int)}, Good d → Good (doEnd d o)
  | [], _, h => h
  | p :: o, _, h => doEnd_good o (putEnd_good h p.1 p.2)
theorem doEnd_len : ∀ (o : Ops) (d : List (Key × Int)), (doEnd d o).length ≤ d.length + o.length
  | [], d => Nat.le_refl _
  | p :: o, d => by
    have h := doEnd_len o (putEnd d p.1 p.2)
    have h2 : (putEnd d p.1 p.2).length ≤ d.length + 1 := by
      unfold putEnd
      split
      · exact Nat.le_succ_of_le drop_len
      · exact put_len
    show (doEnd (putEnd d p.1 p.2) o).length ≤ d.length + (o.length + 1)
    omega
theorem doSum_len : ∀ (o : Ops) (d : List (Key × Int)), (doSum d o).length ≤ d.length + o.length
  | [], d => Nat.le_refl _
  | p :: o, d => by
    have h := doSum_len o (putSum d p.1 p.2)
    have h2 : (putSum d p.1 p.2).length ≤ d.length + 1 := put_len
    show (doSum (putSum d p.1 p.2) o).length ≤ d.length + (o.length + 1)
    omega
theorem doSum_nodup : ∀ (o : Ops) {d : List (Key × Int)}, (d.map (·.1)).Nodup → ((doSum d o).map (·.1)).Nodup
  | [], _, h => h
  | p :: o, _, h => doSum_nodup o (put_nodup h)
/-- the ends of a side, with the number n -/
def opsS (n : Int) (π : List Int) (x y : P4) : Ops := [([π, line x y, x.l], n), ([π, line x y, y.l], -n)]
theorem opsS_sum (n : Int) (π : List Int) (x y : P4) (κ : Key) : sumOps (opsS n π x y) κ = n * E π x y κ := by
  unfold opsS E e
  rw [sumOps_cons, sumOps_cons, sumOps_nil]
  dsimp only
  split <;> split <;> omega
def opsW (a b c : P4) : Ops := opsS 1 (plane a b c) a b ++ (opsS 1 (plane a b c) b c ++ opsS 1 (plane a b c) c a)
/-- as the law goes round -/
def opsV (n : Int) (a b c : P4) : Ops := opsS n (plane a b c) c a ++ (opsS n (plane a b c) a b ++ opsS n (plane a b c) b c)
theorem opsW_sum (a b c : P4) (κ : Key) : sumOps (opsW a b c) κ = W a b c κ := by
  unfold opsW W
  rw [sumOps_app, sumOps_app, opsS_sum, opsS_sum, opsS_sum]
  omega
theorem opsV_sum (n : Int) (a b c : P4) (κ : Key) : sumOps (opsV n a b c) κ = n * W a b c κ := by
  unfold opsV W
  rw [sumOps_app, sumOps_app, opsS_sum, opsS_sum, opsS_sum, ← Int.mul_add, ← Int.mul_add]
  congr 1
  omega
def opsM : List P4 → Ops
  | [p, q, r, s] => opsW p r q ++ (opsW p q s ++ (opsW q r s ++ opsW p s r))
  | _ => []
def opsN (n : Int) : List P4 → Ops
  | [p, q, r, s] => opsV n q r s ++ (opsV n p s r ++ (opsV n p q s ++ opsV n p r q))
  | _ => []
theorem opsM_sum {ps : List P4} (h : ps.length = 4) (κ : Key) : sumOps (opsM ps) κ = ML ps κ := by
  obtain ⟨p, q, r, s, rfl⟩ := len4 h
  show sumOps (opsW p r q ++ (opsW p q s ++ (opsW q r s ++ opsW p s r))) κ = M p q r s κ
  rw [sumOps_app, sumOps_app, sumOps_app, opsW_sum, opsW_sum, opsW_sum, opsW_sum]
  unfold M
  omega
theorem opsN_sum {ps : List P4} (n : Int) (h : ps.length = 4) (κ : Key) : sumOps (opsN n ps) κ = n * ML ps κ := by
  obtain ⟨p, q, r, s, rfl⟩ := len4 h
  show sumOps (opsV n q r s ++ (opsV n p s r ++ (opsV n p q s ++ opsV n p r q))) κ = n * M p q r s κ
  rw [sumOps_app, sumOps_app, sumOps_app, opsV_sum, opsV_sum, opsV_sum, opsV_sum]
  unfold M
  rw [← Int.mul_add, ← Int.mul_add, ← Int.mul_add]
  congr 1
  omega
theorem opsM_len (ps : List P4) : (opsM ps).length ≤ 24 := by
  match ps with
  | [] | [_] | [_, _] | [_, _, _] => exact Nat.zero_le _
  | [p, q, r, s] => exact Nat.le_refl _
  | _ :: _ :: _ :: _ :: _ :: _ => exact Nat.zero_le _
theorem opsN_len (n : Int) (ps : List P4) : (opsN n ps).length ≤ 24 := by
  match ps with
  | [] | [_] | [_, _] | [_, _, _] => exact Nat.zero_le _
  | [p, q, r, s] => exact Nat.le_refl _
  | _ :: _ :: _ :: _ :: _ :: _ => exact Nat.zero_le _
def opsH (h : List (List P4)) : Ops := h.flatMap opsM
def opsG (n : Int) (h : List (List P4)) : Ops := h.flatMap (opsN n)
theorem opsH_len : ∀ h : List (List P4), (opsH h).length ≤ 24 * h.length
  | [] => Nat.le_refl _
  | ps :: h => by
    show (opsM ps ++ opsH h).length ≤ 24 * (h.length + 1)
    rw [List.length_append]
    have := opsM_len ps
    have := opsH_len h
    omega
theorem opsG_len (n : Int) : ∀ h : List (List P4), (opsG n h).length ≤ 24 * h.length
  | [] => Nat.le_refl _
  | ps :: h => by
    show (opsN n ps ++ opsG n h).length ≤ 24 * (h.length + 1)
    rw [List.length_append]
    have := opsN_len n ps
    have := opsG_len n h
    omega
theorem opsH_sum {h : List (List P4)} (h4 : ∀ ps ∈ h, ps.length = 4) (κ : Key) : sumOps (opsH h) κ = tabH h κ := by
  induction h with
  | nil => rfl
  | cons ps h ih =>
    show sumOps (opsM ps ++ opsH h) κ = _
    rw [sumOps_app, tabH_cons, ih fun q hq => h4 q (List.mem_cons_of_mem _ hq), opsM_sum (h4 ps (List.mem_cons_self ..))]
theorem opsG_sum {h : List (List P4)} (n : Int) (h4 : ∀ ps ∈ h, ps.length = 4) (κ : Key) : sumOps (opsG n h) κ = n * tabH h κ := by
  induction h with
  | nil => show 0 = n * 0; omega
  | cons ps h ih =>
    show sumOps (opsN n ps ++ opsG n h) κ = _
    rw [sumOps_app, tabH_cons, ih fun q hq => h4 q (List.mem_cons_of_mem _ hq), opsN_sum n (h4 ps (List.mem_cons_self ..)), Int.mul_add]
def shoreP (h : List (List P4)) : List (Key × Int) := doEnd [] (opsH h)
theorem shore_eq {g h : List (List P4)} (g4 : ∀ ps ∈ g, ps.length = 4) (h4 : ∀ ps ∈ h, ps.length = 4) (e : ∀ κ, tabH g κ = tabH h κ) : (shoreP g).length = (shoreP h).length ∧ ∀ p ∈ shoreP g, lookK (shoreP h) p.1 = some p.2 :=
  good_eq (doEnd_good _ good_nil) (doEnd_good _ good_nil) fun k => by
    unfold shoreP
    rw [doEnd_val, doEnd_val, opsH_sum g4, opsH_sum h4, e]
def tableP (g h : List (List P4)) : List (Key × Int) := doSum (doSum [] (opsG 1 g)) (opsG (-1) h)
theorem table_zero {g h : List (List P4)} (g4 : ∀ ps ∈ g, ps.length = 4) (h4 : ∀ ps ∈ h, ps.length = 4) (e : ∀ κ, tabH g κ = tabH h κ) : ∀ p ∈ tableP g h, p.2 = 0 := fun p hp => by
  have nd : ((tableP g h).map (·.1)).Nodup := doSum_nodup _ (doSum_nodup _ List.nodup_nil)
  have h1 := look_mem nd hp
  have h2 : valK (tableP g h) p.1 = p.2 := by unfold valK; rw [h1]; rfl
  unfold tableP at h2
  rw [doSum_val, doSum_val, opsG_sum 1 g4, opsG_sum (-1) h4, e] at h2
  have : valK [] p.1 = 0 := rfl
  omega
end Ma
set_option Elab.async false
set_option linter.all false
set_option maxRecDepth 100000
set_option maxHeartbeats 1000000
namespace Sc
open PySem PySem.Spec PyProof.Rows L2 TL Ma
abbrev HL (h : List (List P4)) : List (List (List Int)) := h.map fun ps => ps.map P4.l
def WN (a b c : P4) : Prop := ¬ (m1 a b c = 0 ∧ m2 a b c = 0 ∧ m3 a b c = 0)
theorem wn_of {a b c d : P4} (ha : 0 < a.w) (h : d4 a b c d ≠ 0) : WN a b c := fun ⟨h1, h2, h3⟩ => by
  have e : m1 a b c * a.x + m2 a b c * a.y + m3 a b c * a.z + m4 a b c * a.w = 0 := by
    simp only [m1, m2, m3, m4]
    grind
  rw [h1, h2, h3] at e
  have e4 : m4 a b c * a.w = 0 := by omega
  have h4 : m4 a b c = 0 := (Int.mul_eq_zero.mp e4).resolve_right (by omega)
  refine h ?_
  unfold d4
  rw [h1, h2, h3, h4]
  omega
def wallsP : List P4 → List (P4 × P4 × P4)
  | [p, q, r, s] => [(p, r, q), (p, q, s), (q, r, s), (p, s, r)]
  | _ => []
def opsWs (ws : List (P4 × P4 × P4)) : Ops := ws.flatMap fun t => opsW t.1 t.2.1 t.2.2
theorem opsM_walls (p q r s : P4) : opsM [p, q, r, s] = opsWs (wallsP [p, q, r, s]) := by
  show _ = opsW p r q ++ (opsW p q s ++ (opsW q r s ++ (opsW p s r ++ [])))
  rw [List.append_nil]
  rfl
theorem walls_wn {p q r s : P4} (hp : 0 < p.w) (hq : 0 < q.w) (h : d4 p q r s ≠ 0) : ∀ t ∈ wallsP [p, q, r, s], WN t.1 t.2.1 t.2.2 := fun t ht => by
  unfold wallsP at ht
  simp only [List.mem_cons, List.not_mem_nil, or_false] at ht
  rcases ht with rfl | rfl | rfl | rfl
  · exact wn_of (a := p) (b := r) (c := q) (d := s) hp (by rw [d4_swap23 p q r s]; omega)
  · exact wn_of (a := p) (b := q) (c := s) (d := r) hp (by rw [d4_swap34 p q r s]; omega)
  · exact wn_of (a := q) (b := r) (c := s) (d := p) hq (by rw [d4_swap34 q r p s, d4_swap23 q p r s, d4_swap12 p q r s]; omega)
  · exact wn_of (a := p) (b := s) (c := r) (d := q) hp (by rw [d4_swap34 p s q r, d4_swap23 p q s r, d4_swap34 p q r s]; omega)
theorem flatMap_take {α β : Type} {xs : List α} {i : Nat} {x : α} (f : α → List β) (h : xs[i]? = some x) : (xs.take (i + 1)).flatMap f = (xs.take i).flatMap f ++ f x := by
  rw [take_succ_get h, List.flatMap_append]
  simp
section
variable {P : Program} {w : World} {K : PySem.W.Frag} {mg : Str → Option Value} {base : Heap} {f : Addr} {fd : FuncData}
abbrev s_put_end : Stmt := top 29
abbrev N_put_end : List Str := ["shore", "key", "number", "found"]
theorem sc_put_end : FnScope N_put_end ["shore", "key", "number"] (defScope s_put_end) := ⟨rfl, rfl, rfl, by decide +kernel, rfl, by decide +kernel, by decide +kernel⟩
def sp_put_end (P : Program) (w : World) : Sp := spM (ι := List (KK × Int) × KK × Int) (fun i a => [⟨_, RA, a⟩, ⟨_, RK, i.2.1⟩, ⟨_, RI, i.2.2⟩]) (fun i => .dic (dicO P w) RI i.1) (fun i => i.2.2 ≠ 0 ∧ i.1.length ≤ 1000) (fun _ => ⟨_, RU, ()⟩) (fun i => .dic (dicO P w) RI (putEnd i.1 i.2.1 i.2.2))
abbrev C_put_end (P : Program) (w : World) (K : PySem.W.Frag) (mg : Str → Option Value) (base : Heap) : Prop := Cal P w K mg base "put_end" 1 ["shore", "key", "number"] (sp_put_end P w)
theorem ok_put_end (bl : Bl mg) (F : FnP K "put_end" s_put_end [] f fd) : FnOk P w K mg base CX0 1 f fd ["shore", "key", "number"] (sp_put_end P w) := by
  refine okM F sc_put_end (fun _ _ => rfl) (by decide) (fun cdv A outer s H E hr i hp => ⟨_, (pss_cons (ps_set (i := 3) sc_put_end.nd rfl (.inl rfl) (pe_op op_add (pe_dicGet2 hr.units (pv 0) (pv 1) pe_int ⟨rfl, rfl, rfl, rfl⟩) (pv 2)))
    (pss_one (ps_if (pt_cmpR op_eq (pv 3) pe_int (nomark _)) (pss_one (ps_expr (pe_dicPop hr.units (pv 0) (pv 1) ⟨rfl, rfl, rfl, rfl⟩))) (pss_one (ps_asg (pv 3) (pg_sub (pv 0) (pv 1) (set_dic hr.units))))))), fun a C rt hC q => ?_⟩)
  obtain ⟨kvs, k, n⟩ := i
  obtain ⟨hn, hl⟩ := hp
  dsimp only at hn hl q
  refine w_seq (w_set (ev_I0 (ev_dicGet (ev_var rfl) (ev_var rfl) ev_int (List.mem_cons_self ..)) (ev_var rfl)) ?_)
  refine w_if (et_test (ev_eqI (ev_var rfl) ev_int)) (fun h => ?_) fun h => ?_
  · have h : valK kvs k + n = 0 := of_decide_eq_true h
    have e : putEnd kvs k n = dropK kvs k := by unfold putEnd; rw [if_pos h]
    rw [e] at q
    exact w_dicPop (j := 0) (ev_var rfl) (ev_var rfl) rfl (putEnd_pop hn h) (w_end q fun p hp => hp)
  · have h : ¬ valK kvs k + n = 0 := of_decide_eq_false h
    have e : putEnd kvs k n = putK kvs k (valK kvs k + n) := by unfold putEnd; rw [if_neg h]
    rw [e] at q
    exact w_dicSet (j := 0) (ev_var rfl) (ev_var rfl) (ev_var rfl) rfl hl (w_end q fun p hp => hp)
abbrev s_shore_of : Stmt := top 30
abbrev N_shore_of : List Str := ["heap", "shore", "corners", "wall", "flat", "sides", "p", "q", "line"]
theorem sc_shore_of : FnScope N_shore_of ["heap"] (defScope s_shore_of) := ⟨rfl, rfl, rfl, by decide +kernel, rfl, by decide +kernel, by decide +kernel⟩
def sp_shore_of (P : Program) (w : World) : Sp := spD P w (ι := List (List P4)) (fun i => [⟨_, RT (RT (RT RI)), HL i⟩]) (fun i => i.length ≤ 30 ∧ ∀ ps ∈ i, ps.length = 4 ∧ (∀ p ∈ ps, p.Z) ∧ d4L ps ≠ 0) RI shoreP
abbrev C_shore_of (P : Program) (w : World) (K : PySem.W.Frag) (mg : Str → Option Value) (base : Heap) : Prop := Cal P w K mg base "shore_of" 5 ["heap"] (sp_shore_of P w)
theorem ok_shore_of (bl : Bl mg) (c_walls_of : C_walls_of P w K mg base) (c_unturned : C_unturned P w K mg base) (c_line_key : C_line_key P w K mg base) (c_put_end : C_put_end P w K mg base) (c_blade : C_blade P w K mg base) (F : FnP K "shore_of" s_shore_of [] f fd) : FnOk P w K mg base CX0 5 f fd ["heap"] (sp_shore_of P w) := by
  refine okD F sc_shore_of (fun _ => rfl) (by decide) (fun cdv A outer s H E hr h hp => ⟨_, (pss_cons (ps_set (i := 1) sc_shore_of.nd rfl (.inl rfl) pe_dicNew)
    (pss_cons (ps_for PassesOwn.never rfl (pi_tup (pv 0)) (pg_name (i := 2) sc_shore_of.nd rfl (.inl rfl)) (pss_one (ps_for PassesOwn.never rfl (pi_list (pcall c_walls_of (hr.mono (by decide)) (by rfl) (pa_cons (pv 2) pa_nil))) (pg_name (i := 3) sc_shore_of.nd rfl (.inl rfl)) (pss_cons (ps_set (i := 4) sc_shore_of.nd rfl (.inl rfl) (pe_tup pa_nil))
    (pss_cons (ps_set (i := 5) sc_shore_of.nd rfl (.inl rfl) (pe_lst (pa_cons (pv 3) pa_nil)))
    (pss_cons (ps_if (pt_cmpR op_eq (pe_callB call_len_seq (by rfl) bl.len_ (by first | rfl | decide +kernel) (pa_cons (pv 3) pa_nil)) pe_int (nomark _)) (pss_cons (ps_set (i := 4) sc_shore_of.nd rfl (.inl rfl) (pcall c_unturned (hr.mono (by decide)) (by rfl) (pa_cons (pcall c_blade (hr.mono (by decide)) (by rfl) (pa_cons (pv 3) pa_nil)) pa_nil)))
    (pss_one (ps_set (i := 5) sc_shore_of.nd rfl (.inl rfl) (pe_lst (pa_cons (pe_tup (pa_cons (pe_ix ix_tup (pv 3) pe_int (fun _ _ => rfl)) (pa_cons (pe_ix ix_tup (pv 3) pe_int (fun _ _ => rfl)) pa_nil))) (pa_cons (pe_tup (pa_cons (pe_ix ix_tup (pv 3) pe_int (fun _ _ => rfl)) (pa_cons (pe_ix ix_tup (pv 3) pe_int (fun _ _ => rfl)) pa_nil))) (pa_cons (pe_tup (pa_cons (pe_ix ix_tup (pv 3) pe_int (fun _ _ => rfl)) (pa_cons (pe_ix ix_tup (pv 3) pe_int (fun _ _ => rfl)) pa_nil))) pa_nil))))))) pss_nil)
    (pss_one (ps_for PassesOwn.never rfl (pi_list (pv 5)) (pg_tup (by rfl) (pgs_cons (pg_name (i := 6) sc_shore_of.nd rfl (.inl rfl)) (pgs_cons (pg_name (i := 7) sc_shore_of.nd rfl (.inl rfl)) pgs_nil))) (pss_cons (ps_set (i := 8) sc_shore_of.nd rfl (.inl rfl) (pcall c_line_key (hr.mono (by decide)) (by rfl) (pa_cons (pv 6) (pa_cons (pv 7) pa_nil))))
    (pss_cons (ps_expr (pcall c_put_end (hr.mono (by decide)) (by rfl) (pa_cons (pv 1) (pa_cons (pe_tup (pa_cons (pv 4) (pa_cons (pv 8) (pa_cons (pv 6) pa_nil)))) (pa_cons pe_int pa_nil)))))
    (pss_one (ps_expr (pcall c_put_end (hr.mono (by decide)) (by rfl) (pa_cons (pv 1) (pa_cons (pe_tup (pa_cons (pv 4) (pa_cons (pv 8) (pa_cons (pv 7) pa_nil)))) (pa_cons (pe_un un_neg pe_int) pa_nil))))))))))))))))
    (pss_one (ps_ret (pv 1))))), fun C rt hC q => ?_⟩)
  obtain ⟨hl, hh⟩ := hp
  refine w_seq (w_newDic (R := RI) fun a => ?_)
  refine w_seq (w_for (ei_tup (ev_var rfl)) (fun i => [sl (RT (RT (RT RI))) (HL h), sl RA a, none, none, none, none, none, none, none])
    (fun i => [(a, .dic (dicO P w) RI (doEnd [] (opsH (h.take i))))]) ⟨rfl, fun _ _ h => h⟩ rfl (fun _ _ => rfl) (fun C' I f1 f2 f3 hI i hi => ?_) ?_)
  · rw [List.length_map] at hi
    have hI' := hI (i + 1)
    unfold opsH at hI'
    rw [flatMap_take _ (List.getElem?_eq_getElem hi), doEnd_app] at hI'
    have hlen : (doEnd [] (opsH (h.take i))).length ≤ 900 := Nat.le_trans (doEnd_len _ _) (by
      have := opsH_len (h.take i)
      rw [List.length_take] at this
      show 0 + _ ≤ _
      omega)
    show Wn C' _ [_, _, itS (RT (RT RI)) (HL h) i, _, _, _, _, _, _] _
    rw [itS_get (show (HL h)[i]? = some (h[i].map P4.l) by rw [List.getElem?_map, List.getElem?_eq_getElem hi]; rfl)]
    obtain ⟨h4, hZ, h0⟩ := hh h[i] (List.getElem_mem hi)
    obtain ⟨d0, ed⟩ : ∃ d, d = doEnd [] (opsH (h.take i)) := ⟨_, rfl⟩
    change Wn C' (I (i + 1)) _ [(a, .dic (dicO P w) RI (doEnd (doEnd [] (opsH (h.take i))) _))] at hI'
    rw [← ed] at hlen hI' ⊢
    obtain ⟨p, q0, r, t, e4⟩ := len4 h4
    rw [e4] at hZ h0 hI' ⊢
    have hp := hZ p (by simp)
    have hq := hZ q0 (by simp)
    have hr' := hZ r (by simp)
    have ht := hZ t (by simp)
    have hwn := walls_wn hp.w0 hq.w0 h0
    have hwz : ∀ t' ∈ wallsP [p, q0, r, t], t'.1.Z ∧ t'.2.1.Z ∧ t'.2.2.Z := fun t' ht' => by
      unfold wallsP at ht'
      simp only [List.mem_cons, List.not_mem_nil, or_false] at ht'
      rcases ht' with rfl | rfl | rfl | rfl <;> exact ⟨by assumption, by assumption, by assumption⟩
    rw [opsM_walls] at hI'
    obtain ⟨ws, ews⟩ : ∃ ws, ws = wallsP [p, q0, r, t] := ⟨_, rfl⟩
    have wl : ws.length = 4 := by rw [ews]; rfl
    have ewm : [[p.l, r.l, q0.l], [p.l, q0.l, t.l], [q0.l, r.l, t.l], [p.l, t.l, r.l]] = ws.map fun t => [t.1.l, t.2.1.l, t.2.2.l] := by rw [ews]; rfl
    rw [← ews] at hwn hwz hI'
    refine w_for (ei_list (xs := ws.map fun t => [t.1.l, t.2.1.l, t.2.2.l]) (Ev.to (ev_call (p, q0, r, t) (ea_cons (ev_var rfl) ea_nil) trivial) ewm)) (fun j => [sl (RT (RT (RT RI))) (HL h), sl RA a, none, none, none, none, none, none, none])
      (fun j => [(a, .dic (dicO P w) RI (doEnd d0 (opsWs (ws.take j))))]) (wk_same (wk_same (wk_drop (wk_same (wk_same (wk_same (wk_same (wk_same (wk_same wk_nil))))))))) rfl (fun _ _ => rfl) (fun C1 I1 g1 g2 g3 hI1 j hj => ?_) ?_
    · rw [List.length_map] at hj
      have hI1' := hI1 (j + 1)
      unfold opsWs at hI1'
      rw [flatMap_take _ (List.getElem?_eq_getElem hj), doEnd_app] at hI1'
      change Wn C1 (I1 (j + 1)) _ [(a, .dic (dicO P w) RI (doEnd (doEnd d0 (opsWs (ws.take j))) _))] at hI1'
      have hlen1 : (doEnd d0 (opsWs (ws.take j))).length ≤ 960 := by
        have h1 := doEnd_len (opsWs (ws.take j)) d0
        have h2 : (opsWs (ws.take j)).length = 6 * (ws.take j).length := by
          unfold opsWs
          rw [List.length_flatMap]
          have : ∀ l : List (P4 × P4 × P4), (l.map fun t => (opsW t.1 t.2.1 t.2.2).length).sum = 6 * l.length := fun l => by
            induction l with
            | nil => rfl
            | cons x l ih => rw [List.map_cons, List.sum_cons, ih]; show 6 + _ = 6 * (_ + 1); omega
          exact this _
        rw [List.length_take] at h2
        omega
      obtain ⟨d1, ed1⟩ : ∃ d, d = doEnd d0 (opsWs (ws.take j)) := ⟨_, rfl⟩
      show Wn C1 _ [_, _, _, itS (RT (RT RI)) (ws.map fun t => [t.1.l, t.2.1.l, t.2.2.l]) j, _, _, _, _, _] _
      rw [itS_get (show (ws.map fun t => [t.1.l, t.2.1.l, t.2.2.l])[j]? = some [ws[j].1.l, ws[j].2.1.l, ws[j].2.2.l] by rw [List.getElem?_map, List.getElem?_eq_getElem hj]; rfl)]
      obtain ⟨aZ, bZ, cZ⟩ := hwz ws[j] (List.getElem_mem hj)
      have wn := hwn ws[j] (List.getElem_mem hj)
      obtain ⟨⟨x, y, z⟩, ew⟩ : ∃ t, t = ws[j] := ⟨_, rfl⟩
      rw [← ew] at aZ bZ cZ wn hI1' ⊢
      rw [← ed1] at hlen1 hI1' ⊢
      dsimp only at aZ bZ cZ wn hI1'
      refine w_seq (w_set (ev_tup (R := RI) (xs := []) ea_snil (le_by rfl)) ?_)
      refine w_seq (w_set (EvN.ev (en_lst (R := RT (RT RI)) (ea_scons (ev_var rfl) ea_snil) (le_by rfl))) ?_)
      refine w_seq (w_yes ((et_test (ev_eqI (ev_len (ev_S_of_T (ev_var rfl))) ev_int)).to rfl) ?_)
      refine w_seq (w_setE (ev_call _ (ea_cons (ev_call (x, y, z) (ea_cons (ev_var rfl) ea_nil) ⟨aZ, bZ, cZ, wn⟩) ea_nil) (le_by rfl)) (show _ = plane x y z from rfl) ?_)
      refine w_set (EvN.ev (en_lst (ea_scons (ev_tup (ea_scons (ev_ixT (ev_var rfl) ev_int rfl) (ea_scons (ev_ixT (ev_var rfl) ev_int rfl) ea_snil)) (le_by rfl)) (ea_scons (ev_tup (ea_scons (ev_ixT (ev_var rfl) ev_int rfl) (ea_scons (ev_ixT (ev_var rfl) ev_int rfl) ea_snil)) (le_by rfl)) (ea_scons (ev_tup (ea_scons (ev_ixT (ev_var rfl) ev_int rfl) (ea_scons (ev_ixT (ev_var rfl) ev_int rfl) ea_snil)) (le_by rfl)) ea_snil))) (le_by rfl))) ?_
      obtain ⟨ss, ess⟩ : ∃ ss : List (P4 × P4), ss = [(x, y), (y, z), (z, x)] := ⟨_, rfl⟩
      have hsz : ∀ t ∈ ss, t.1.Z ∧ t.2.Z := fun t' ht' => by
        rw [ess] at ht'
        simp only [List.mem_cons, List.not_mem_nil, or_false] at ht'
        rcases ht' with rfl | rfl | rfl <;> exact ⟨by assumption, by assumption⟩
      have eo : opsW x y z = ss.flatMap fun t => opsS 1 (plane x y z) t.1 t.2 := by
        rw [ess]
        show _ = opsS 1 (plane x y z) x y ++ (opsS 1 (plane x y z) y z ++ (opsS 1 (plane x y z) z x ++ []))
        rw [List.append_nil]
        rfl
      have sl3 : ss.length = 3 := by rw [ess]; rfl
      have esm : [[x.l, y.l], [y.l, z.l], [z.l, x.l]] = ss.map fun t => [t.1.l, t.2.l] := by rw [ess]; rfl
      rw [eo] at hI1'
      refine w_for (ei_pairs (xs := ss.map fun t => [t.1.l, t.2.l]) (Ev.to (ev_var rfl) esm) (fun p hp => by obtain ⟨t, _, rfl⟩ := List.mem_map.mp hp; rfl)) (fun m => [sl (RT (RT (RT RI))) (HL h), sl RA a, none, none, sl (RT RI) (plane x y z), none, none, none, none])
        (fun m => [(a, .dic (dicO P w) RI (doEnd d1 ((ss.take m).flatMap fun t => opsS 1 (plane x y z) t.1 t.2)))]) (wk_same (wk_same (wk_drop (wk_drop (wk_same (wk_drop (wk_same (wk_same (wk_same wk_nil))))))))) rfl (fun _ _ => rfl) (fun C2 I2 e1 e2 e3 hI2 m hm => ?_) ?_
      · rw [List.length_map] at hm
        have hI2' := hI2 (m + 1)
        rw [flatMap_take _ (List.getElem?_eq_getElem hm), doEnd_app] at hI2'
        have hlen2 : (doEnd d1 ((ss.take m).flatMap fun t => opsS 1 (plane x y z) t.1 t.2)).length ≤ 970 := by
          have h1 := doEnd_len ((ss.take m).flatMap fun t => opsS 1 (plane x y z) t.1 t.2) d1
          have h2 : ((ss.take m).flatMap fun t => opsS 1 (plane x y z) t.1 t.2).length = 2 * (ss.take m).length := by
            rw [List.length_flatMap]
            have : ∀ l : List (P4 × P4), (l.map fun t => (opsS 1 (plane x y z) t.1 t.2).length).sum = 2 * l.length := fun l => by
              induction l with
              | nil => rfl
              | cons x l ih => rw [List.map_cons, List.sum_cons, ih]; show 2 + _ = 2 * (_ + 1); omega
            exact this _
          rw [List.length_take] at h2
          omega
        have eg : (ss.map fun t => [t.1.l, t.2.l]).getD m [] = [ss[m].1.l, ss[m].2.l] := by
          rw [List.getD_eq_getElem?_getD, List.getElem?_map, List.getElem?_eq_getElem hm]; rfl
        obtain ⟨uZ, vZ⟩ := hsz ss[m] (List.getElem_mem hm)
        obtain ⟨d2, ed2⟩ : ∃ d, d = doEnd d1 ((ss.take m).flatMap fun t => opsS 1 (plane x y z) t.1 t.2) := ⟨_, rfl⟩
        show Wn C2 _ [_, _, _, _, _, _, itS (RT RI) ((ss.map fun t => [t.1.l, t.2.l]).getD m []) 0, itS (RT RI) ((ss.map fun t => [t.1.l, t.2.l]).getD m []) 1, _] _
        rw [eg]
        obtain ⟨⟨u, v⟩, euv⟩ : ∃ t, t = ss[m] := ⟨_, rfl⟩
        rw [← euv] at uZ vZ hI2' ⊢
        rw [← ed2] at hlen2 hI2' ⊢
        dsimp only at uZ vZ hI2'
        refine w_seq (w_set (ev_call (u, v) (ea_cons (ev_var rfl) (ea_cons (ev_var rfl) ea_nil)) ⟨uZ, vZ⟩) ?_)
        refine w_seq (w_drop (ev_callM (d2, [plane x y z, line u v, u.l], 1) 0 (ea_cons (ev_var rfl) (ea_cons (ev_tup (ea_scons (ev_var rfl) (ea_scons (ev_var rfl) (ea_scons (ev_var rfl) ea_snil))) (le_by rfl)) (ea_cons ev_int ea_nil))) rfl trivial ⟨by show (1 : Int) ≠ 0; decide, by show d2.length ≤ 1000; omega⟩) ?_)
        refine w_drop (ev_callM (putEnd d2 [plane x y z, line u v, u.l] 1, [plane x y z, line u v, v.l], -1) 0 (ea_cons (ev_var rfl) (ea_cons (ev_tup (ea_scons (ev_var rfl) (ea_scons (ev_var rfl) (ea_scons (ev_var rfl) ea_snil))) (le_by rfl)) (ea_cons (ev_neg ev_int) ea_nil))) rfl trivial ⟨by show (-1 : Int) ≠ 0; decide, ?_⟩) ?_
        · have := doEnd_len [(([plane x y z, line u v, u.l] : KK), (1 : Int))] d2
          show (doEnd d2 [(([plane x y z, line u v, u.l] : KK), (1 : Int))]).length ≤ 1000
          exact Nat.le_trans this (by show d2.length + 1 ≤ 1000; omega)
        · exact w_wk (wk_same (wk_same (wk_drop (wk_drop (wk_same (wk_drop (wk_drop (wk_drop (wk_drop wk_nil))))))))) hI2'
      · rw [List.length_map, sl3, show ss.take 3 = ss by rw [← sl3, List.take_length]]
        exact w_wk (wk_same (wk_same (wk_drop (wk_drop (wk_drop (wk_drop (wk_drop (wk_drop (wk_drop wk_nil))))))))) hI1'
    · rw [List.length_map, wl, show ws.take 4 = ws by rw [← wl, List.take_length]]
      exact w_wk (wk_same (wk_same (wk_drop (wk_drop (wk_drop (wk_drop (wk_drop (wk_drop (wk_drop wk_nil))))))))) hI'
  · rw [List.length_map, List.take_length]
    exact w_retDic q hC rfl
abbrev s_same : Stmt := top 31
abbrev N_same : List Str := ["one", "other"]
theorem sc_same : FnScope N_same ["one", "other"] (defScope s_same) := ⟨rfl, rfl, rfl, by decide +kernel, rfl, by decide +kernel, by decide +kernel⟩
def sp_same : Sp := spG (ι := List (List P4) × List (List P4)) (fun i => [⟨_, RT (RT (RT RI)), HL i.1⟩, ⟨_, RT (RT (RT RI)), HL i.2⟩])
  (fun i => (i.1.length ≤ 30 ∧ ∀ ps ∈ i.1, ps.length = 4 ∧ (∀ p ∈ ps, p.Z) ∧ d4L ps ≠ 0) ∧ (i.2.length ≤ 30 ∧ ∀ ps ∈ i.2, ps.length = 4 ∧ (∀ p ∈ ps, p.Z) ∧ d4L ps ≠ 0) ∧ ∀ κ, tabH i.1 κ = tabH i.2 κ) (fun _ => ⟨_, RB, true⟩)
abbrev C_same (P : Program) (w : World) (K : PySem.W.Frag) (mg : Str → Option Value) (base : Heap) : Prop := Cal P w K mg base "same" 6 ["one", "other"] (sp_same)
theorem ok_same (bl : Bl mg) (c_shore_of : C_shore_of P w K mg base) (F : FnP K "same" s_same [] f fd) : FnOk P w K mg base CX0 6 f fd ["one", "other"] (sp_same) := by
  refine okG F sc_same (fun _ => rfl) (by decide) (fun cdv A outer s H E hr i hp => ⟨_, (pss_one (ps_ret (pe_cmpR (op_dicEq hr.units) (pcall c_shore_of (hr.mono (by decide)) (by rfl) (pa_cons (pv 0) pa_nil)) (pcall c_shore_of (hr.mono (by decide)) (by rfl) (pa_cons (pv 1) pa_nil)) (nomark _)))), fun C rt hC q => ?_⟩)
  obtain ⟨g, h⟩ := i
  obtain ⟨hg, hh, he⟩ := hp
  dsimp only at hg hh he q
  obtain ⟨e1, e2⟩ := shore_eq (fun ps hps => (hg.2 ps hps).1) (fun ps hps => (hh.2 ps hps).1) he
  exact w_re (ev_dicEq (ed_call g (ea_cons (ev_var rfl) ea_nil) hg) (ed_call h (ea_cons (ev_var rfl) ea_nil) hh) e1 e2) q (fun _ h => nomatch h)
end
end Sc
set_option Elab.async false
set_option linter.all false
set_option maxRecDepth 100000
set_option maxHeartbeats 1000000
namespace Sc
open PySem PySem.Spec PyProof.Rows L2 TL Ma
section
variable {P : Program} {w : World} {K : PySem.W.Frag} {mg : Str → Option Value} {base : Heap} {f : Addr} {fd : FuncData}
abbrev s__law_gcd : Stmt := top 39
abbrev N__law_gcd : List Str := ["_law_one", "_law_other"]
theorem sc__law_gcd : FnScope N__law_gcd ["_law_one", "_law_other"] (defScope s__law_gcd) := ⟨rfl, rfl, rfl, by decide +kernel, rfl, by decide +kernel, by decide +kernel⟩
def sp__law_gcd : Sp := spG (ι := Int × Int) (fun i => [⟨_, RI, i.1⟩, ⟨_, RI, i.2⟩]) (fun _ => True) (fun i => ⟨_, RI, ((Nat.gcd i.1.natAbs i.2.natAbs : Nat) : Int)⟩)
abbrev C__law_gcd (P : Program) (w : World) (K : PySem.W.Frag) (mg : Str → Option Value) (base : Heap) : Prop := Cal P w K mg base "_law_gcd" 1 ["_law_one", "_law_other"] (sp__law_gcd)
theorem ok__law_gcd (bl : Bl mg) (F : FnP K "_law_gcd" s__law_gcd [] f fd) : FnOk P w K mg base CX0 1 f fd ["_law_one", "_law_other"] (sp__law_gcd) := by
  refine okG F sc__law_gcd (fun _ => rfl) (by decide) (fun cdv A outer s H E hr i hp => ⟨_, (pss_cons (ps_set (i := 0) sc__law_gcd.nd rfl (.inl rfl) (pe_callB call_abs (by rfl) bl.abs_ (by first | rfl | decide +kernel) (pa_cons (pv 0) pa_nil)))
    (pss_cons (ps_set (i := 1) sc__law_gcd.nd rfl (.inl rfl) (pe_callB call_abs (by rfl) bl.abs_ (by first | rfl | decide +kernel) (pa_cons (pv 1) pa_nil)))
    (pss_cons (ps_while PassesOwn.never (pt_cmpR op_gt (pv 1) pe_int (nomark _)) (pss_one (ps_par (i := 0) (j := 1) rfl sc__law_gcd.nd rfl rfl (by decide) rfl rfl (pa_cons (pv 1) (pa_cons (pe_op op_modN (pv 0) (pv 1)) pa_nil)) (by rfl))))
    (pss_one (ps_ret (pv 0)))))), fun C rt hC q => ?_⟩)
  obtain ⟨a, b⟩ := i
  refine w_seq (w_set (ev_abs (ev_var rfl)) ?_)
  refine w_seq (w_set (ev_abs (ev_var rfl)) ?_)
  refine w_seq (w_while (ι := Nat × Nat) (fun j => [sl RI (j.1 : Int), sl RI (j.2 : Int)]) (fun _ => []) (fun j => j.2) (fun j => decide (j.2 ≠ 0)) (a.natAbs, b.natAbs) ⟨rfl, fun _ _ h => h⟩ rfl (fun j => Nat.gcd j.1 j.2 = Nat.gcd a.natAbs b.natAbs) rfl
    (fun j _ => (et_test (ev_cmp (ev_var rfl) ev_int)).to ?_) (fun j hj hb => ?_) (fun j hj hb => ?_))
  · by_cases e : j.2 = 0
    · simp [e]
    · have : (j.2 : Int) > 0 := by omega
      simp [e]; omega
  · have h0 : j.2 ≠ 0 := by simpa using hb
    refine ⟨(j.2, j.1 % j.2), Nat.mod_lt _ (by omega), ?_, fun I hI => ?_⟩
    · rw [← hj]; show Nat.gcd j.2 (j.1 % j.2) = _; rw [Nat.gcd_comm j.1 j.2, Nat.gcd_rec j.2 j.1, Nat.gcd_comm]
    · refine w_par (ea_cons (ev_var rfl) (ea_cons (Ev.to (x' := ((j.1 % j.2 : Nat) : Int)) (ev_I (ev_var rfl) (ev_var rfl) (by omega)) ?_) ea_nil)) hI
      rw [Int.fmod_eq_emod_of_nonneg _ (by omega)]; rfl
  · have h0 : j.2 = 0 := by simpa using hb
    refine w_re (Ev.to (ev_var rfl) ?_) q (fun _ h => nomatch h)
    rw [← hj, h0, Nat.gcd_zero_right]
abbrev s__law_lowest : Stmt := top 40
abbrev N__law_lowest : List Str := ["_law_numbers", "_law_by", "_law_number"]
theorem sc__law_lowest : FnScope N__law_lowest ["_law_numbers"] (defScope s__law_lowest) := ⟨rfl, rfl, rfl, by decide +kernel, rfl, by decide +kernel, by decide +kernel⟩
def sp__law_lowest : Sp := spG (ι := Bool × List Int) (fun i => [⟨_, RLT i.1, i.2⟩]) (fun i => i.2.length ≤ 1000 ∧ ∀ x ∈ i.2, Bd 8000 x) (fun i => ⟨_, RT RI, low i.2⟩)
abbrev C__law_lowest (P : Program) (w : World) (K : PySem.W.Frag) (mg : Str → Option Value) (base : Heap) : Prop := Cal P w K mg base "_law_lowest" 2 ["_law_numbers"] (sp__law_lowest)
theorem ok__law_lowest (bl : Bl mg) (c__law_gcd : C__law_gcd P w K mg base) (F : FnP K "_law_lowest" s__law_lowest [] f fd) : FnOk P w K mg base CX0 2 f fd ["_law_numbers"] (sp__law_lowest) := by
  refine okG F sc__law_lowest (fun _ => rfl) (by decide) (fun cdv A outer s H E hr i hp => ?_)
  obtain ⟨b, xs⟩ := i
  obtain ⟨hz, hb⟩ := hp
  dsimp only at hz hb
  have hz9 : Bd 8000 (gcdL xs : Int) := bd_gcd hb
  cases b
  rotate_left
  · refine ⟨_, (pss_cons (ps_set (i := 1) sc__law_lowest.nd rfl (.inr rfl) pe_int)
    (pss_cons (ps_for PassesOwn.never rfl (pi_list (pv 0)) (pg_name (i := 2) sc__law_lowest.nd rfl (.inl rfl)) (pss_one (ps_set (i := 1) sc__law_lowest.nd rfl (.inr rfl) (pcall c__law_gcd (hr.mono (by decide)) (by rfl) (pa_cons (pv 1) (pa_cons (pv 2) pa_nil))))))
    (pss_cons (ps_if (pt_cmpR op_eq (pv 1) pe_int (nomark _)) (pss_one (ps_ret (pe_callTy call_tuple_of (by rfl) bl.tuple_ (by first | rfl | decide +kernel) (pa_cons (pv 0) pa_nil)))) pss_nil)
    (pss_one (ps_ret (pe_callTy call_tuple_of (by rfl) bl.tuple_ (by first | rfl | decide +kernel) (pa_cons (pe_lc (own := [("_law_number", 2)]) (tt := tYes) rfl sc__law_lowest.nd (pi_list (pv 0)) (blkOk_by (N := N__law_lowest) (sc := defScope s__law_lowest) (by decide +kernel)) (fun _ _ _ _ _ => (pg_name (i := 2) sc__law_lowest.nd rfl (.inl rfl))) (fun _ _ _ _ _ => pts_nil) (fun _ _ _ _ _ => (pe_op op_fdivW (pv 2) (pv 1)))) pa_nil))))))), fun C rt hC q => ?_⟩
    refine w_seq (w_set ev_int ?_)
    refine w_seq (w_for (ei_list (ev_var rfl)) (fun i => [sl (RL RI) xs, sl RI ((gcdL (xs.take i) : Nat) : Int), none]) (fun _ => []) ⟨rfl, fun _ _ h => h⟩ rfl (fun _ _ => rfl) (fun C' I _ _ _ hI i hi => ?_) ?_)
    · show Wn C' _ [_, _, itS RI xs i] []
      rw [itS_get (List.getElem?_eq_getElem hi)]
      refine w_set (ev_call (_, _) (ea_cons (ev_var rfl) (ea_cons (ev_var rfl) ea_nil)) trivial) ?_
      refine w_wk (wk_same (wk_same (wk_drop wk_nil))) ?_
      have := hI (i + 1)
      rw [gcdL_take hi] at this
      exact this
    · rw [gcdL_all]
      refine w_seq (w_if (et_test (ev_eqI (ev_var rfl) ev_int)) (fun h => ?_) fun h => ?_)
      · have h2 : gcdL xs < 2 := by
          have e : (gcdL xs : Int) = 0 := of_decide_eq_true h
          omega
        exact w_re (Ev.to (ev_tuple (ev_S_of_L (ev_var rfl))) (low_small h2).symm) q (fun _ h => nomatch h)
      · have h2 : ¬ ((gcdL xs : Int) = 0) := of_decide_eq_false h
        have h3 : (0 : Int) < (gcdL xs : Int) := by omega
        refine w_nx (w_re (Ev.to (ev_tuple (ev_S_of_L (EvN.ev (en_lc (ei_list (ev_var rfl)) (by decide) (fun i => xs.getD i 0 / (gcdL xs : Int)) (fun _ => []) rfl hz (fun i hi => ?_))))) (range_get xs fun x => x / (gcdL xs : Int))) q (fun _ h => nomatch h))
        show Ev _ [_, _, itS RI xs i] [] RI _ []
        rw [itS_get (List.getElem?_eq_getElem hi)]
        refine Ev.to (ev_I (ev_var rfl) (ev_var rfl) (divOk h3 hz9 (by decide))) ?_
        simp [List.getD_eq_getElem?_getD, hi]
  · refine ⟨_, (pss_cons (ps_set (i := 1) sc__law_lowest.nd rfl (.inr rfl) pe_int)
    (pss_cons (ps_for PassesOwn.never rfl (pi_tup (pv 0)) (pg_name (i := 2) sc__law_lowest.nd rfl (.inl rfl)) (pss_one (ps_set (i := 1) sc__law_lowest.nd rfl (.inr rfl) (pcall c__law_gcd (hr.mono (by decide)) (by rfl) (pa_cons (pv 1) (pa_cons (pv 2) pa_nil))))))
    (pss_cons (ps_if (pt_cmpR op_eq (pv 1) pe_int (nomark _)) (pss_one (ps_ret (pe_callTy call_tuple_of (by rfl) bl.tuple_ (by first | rfl | decide +kernel) (pa_cons (pv 0) pa_nil)))) pss_nil)
    (pss_one (ps_ret (pe_callTy call_tuple_of (by rfl) bl.tuple_ (by first | rfl | decide +kernel) (pa_cons (pe_lc (own := [("_law_number", 2)]) (tt := tYes) rfl sc__law_lowest.nd (pi_tup (pv 0)) (blkOk_by (N := N__law_lowest) (sc := defScope s__law_lowest) (by decide +kernel)) (fun _ _ _ _ _ => (pg_name (i := 2) sc__law_lowest.nd rfl (.inl rfl))) (fun _ _ _ _ _ => pts_nil) (fun _ _ _ _ _ => (pe_op op_fdivW (pv 2) (pv 1)))) pa_nil))))))), fun C rt hC q => ?_⟩
    refine w_seq (w_set ev_int ?_)
    refine w_seq (w_for (ei_tup (ev_var rfl)) (fun i => [sl (RT RI) xs, sl RI ((gcdL (xs.take i) : Nat) : Int), none]) (fun _ => []) ⟨rfl, fun _ _ h => h⟩ rfl (fun _ _ => rfl) (fun C' I _ _ _ hI i hi => ?_) ?_)
    · show Wn C' _ [_, _, itS RI xs i] []
      rw [itS_get (List.getElem?_eq_getElem hi)]
      refine w_set (ev_call (_, _) (ea_cons (ev_var rfl) (ea_cons (ev_var rfl) ea_nil)) trivial) ?_
      refine w_wk (wk_same (wk_same (wk_drop wk_nil))) ?_
      have := hI (i + 1)
      rw [gcdL_take hi] at this
      exact this
    · rw [gcdL_all]
      refine w_seq (w_if (et_test (ev_eqI (ev_var rfl) ev_int)) (fun h => ?_) fun h => ?_)
      · have h2 : gcdL xs < 2 := by
          have e : (gcdL xs : Int) = 0 := of_decide_eq_true h
          omega
        exact w_re (Ev.to (ev_tuple (ev_S_of_T (ev_var rfl))) (low_small h2).symm) q (fun _ h => nomatch h)
      · have h2 : ¬ ((gcdL xs : Int) = 0) := of_decide_eq_false h
        have h3 : (0 : Int) < (gcdL xs : Int) := by omega
        refine w_nx (w_re (Ev.to (ev_tuple (ev_S_of_L (EvN.ev (en_lc (ei_tup (ev_var rfl)) (by decide) (fun i => xs.getD i 0 / (gcdL xs : Int)) (fun _ => []) rfl hz (fun i hi => ?_))))) (range_get xs fun x => x / (gcdL xs : Int))) q (fun _ h => nomatch h))
        show Ev _ [_, _, itS RI xs i] [] RI _ []
        rw [itS_get (List.getElem?_eq_getElem hi)]
        refine Ev.to (ev_I (ev_var rfl) (ev_var rfl) (divOk h3 hz9 (by decide))) ?_
        simp [List.getD_eq_getElem?_getD, hi]
abbrev s__law_upward : Stmt := top 41
abbrev N__law_upward : List Str := ["_law_numbers", "_law_told", "_law_number", "_law_one"]
theorem sc__law_upward : FnScope N__law_upward ["_law_numbers"] (defScope s__law_upward) := ⟨rfl, rfl, rfl, by decide +kernel, rfl, by decide +kernel, by decide +kernel⟩
def sp__law_upward : Sp := spG (ι := List Int) (fun i => [⟨_, RL RI, i⟩]) (fun i => i.length ≤ 1000 ∧ ∀ x ∈ i, Bd 8000 x) (fun i => ⟨_, RT RI, canon i⟩)
abbrev C__law_upward (P : Program) (w : World) (K : PySem.W.Frag) (mg : Str → Option Value) (base : Heap) : Prop := Cal P w K mg base "_law_upward" 3 ["_law_numbers"] (sp__law_upward)
theorem ok__law_upward (bl : Bl mg) (c__law_lowest : C__law_lowest P w K mg base) (F : FnP K "_law_upward" s__law_upward [] f fd) : FnOk P w K mg base CX0 3 f fd ["_law_numbers"] (sp__law_upward) := by
  refine okG F sc__law_upward (fun _ => rfl) (by decide) (fun cdv A outer s H E hr ns hp => ⟨_, (pss_cons (ps_set (i := 1) sc__law_upward.nd rfl (.inl rfl) (pcall c__law_lowest (hr.mono (by decide)) (by rfl) (pa_cons (pv 0) pa_nil)))
    (pss_cons (ps_for PassesOwn.never rfl (pi_tup (pv 1)) (pg_name (i := 2) sc__law_upward.nd rfl (.inl rfl)) (pss_cons (ps_if (pt_cmpR op_gt (pv 2) pe_int (nomark _)) (pss_one (ps_ret (pv 1))) pss_nil)
    (pss_one (ps_if (pt_cmpR op_lt (pv 2) pe_int (nomark _)) (pss_one (ps_ret (pe_callTy call_tuple_of (by rfl) bl.tuple_ (by first | rfl | decide +kernel) (pa_cons (pe_lc (own := [("_law_one", 3)]) (tt := tYes) rfl sc__law_upward.nd (pi_tup (pv 1)) (blkOk_by (N := N__law_upward) (sc := defScope s__law_upward) (by decide +kernel)) (fun _ _ _ _ _ => (pg_name (i := 3) sc__law_upward.nd rfl (.inl rfl))) (fun _ _ _ _ _ => pts_nil) (fun _ _ _ _ _ => (pe_op op_sub pe_int (pv 3)))) pa_nil)))) pss_nil))))
    (pss_one (ps_ret (pv 1))))), fun C rt hC q => ?_⟩)
  obtain ⟨hl0, hb⟩ := hp
  refine w_seq (w_set (ev_call (true, ns) (ea_cons (ev_var rfl) ea_nil) ⟨hl0, hb⟩) ?_)
  obtain ⟨xs, ex⟩ : ∃ xs, xs = low ns := ⟨_, rfl⟩
  have hl : xs.length ≤ 1000 := by rw [ex]; unfold low; rw [List.length_map]; exact hl0
  have q : Rt C rt (RT RI) (up xs) [] := by rw [ex]; exact q
  dsimp only
  rw [← ex]
  refine w_seq (w_known 1 rfl (φ := ∀ x ∈ xs.take 0, x = 0) (fun _ h => nomatch h) (w_for (ei_tup (xs := xs) (ev_wh rfl)) (fun i => [sl (RL RI) ns, sl ((RT RI).wh (∀ x ∈ xs.take i, x = 0)) xs, none, none]) (fun _ => []) ⟨rfl, fun _ _ h => h⟩ rfl (fun _ _ => rfl) (fun C' I f1 f2 f3 hI i hi => ?_) ?_))
  · refine w_fact 1 rfl fun hz => ?_
    show Wn C' _ [_, _, itS RI xs i, _] []
    rw [itS_get (List.getElem?_eq_getElem hi)]
    refine w_seq (w_if (et_test (ev_cmp (ev_var rfl) ev_int)) (fun h => ?_) fun h => w_nx ?_)
    · exact w_re (Ev.to (ev_var rfl) (up_pos hi hz (of_decide_eq_true h)).symm) (rt_c f1 f2 f3 q) (fun _ h => nomatch h)
    refine w_if (et_test (ev_cmp (ev_var rfl) ev_int)) (fun h' => ?_) fun h' => w_nx ?_
    · refine w_re (Ev.to (ev_tuple (ev_S_of_L (EvN.ev (en_lc (ei_tup (ev_var rfl)) (by decide) (fun i => -(xs.getD i 0)) (fun _ => []) rfl hl (fun i hi => ?_))))) ((range_get xs fun x => -x).trans (up_neg' hi hz (of_decide_eq_true h')).symm)) (rt_c f1 f2 f3 q) (fun _ h => nomatch h)
      show Ev _ [_, _, _, itS RI xs i] [] RI _ []
      rw [itS_get (List.getElem?_eq_getElem hi)]
      refine Ev.to (ev_I0 ev_int (ev_var rfl)) ?_
      show 0 - xs[i] = _
      simp [List.getD_eq_getElem?_getD, hi]
    have h1 : ¬ xs[i] > 0 := of_decide_eq_false h
    have h2 : ¬ xs[i] < 0 := of_decide_eq_false h'
    exact w_known 1 rfl (zeros_step hi hz (by omega)) (w_wk (wk_same (wk_same (wk_drop (wk_drop wk_nil)))) (hI (i + 1)))
  · rw [List.take_length]
    refine w_fact 1 rfl fun hz => ?_
    exact w_re (Ev.to (ev_var rfl) (up_zero hz).symm) q (fun _ h => nomatch h)
abbrev s__law_whole : Stmt := top 42
abbrev N__law_whole : List Str := ["_law_number"]
theorem sc__law_whole : FnScope N__law_whole ["_law_number"] (defScope s__law_whole) := ⟨rfl, rfl, rfl, by decide +kernel, rfl, by decide +kernel, by decide +kernel⟩
def sp__law_whole : Sp := spG (ι := Int) (fun i => [⟨_, RI, i⟩]) (fun _ => True) (fun _ => ⟨_, RB, true⟩)
abbrev C__law_whole (P : Program) (w : World) (K : PySem.W.Frag) (mg : Str → Option Value) (base : Heap) : Prop := Cal P w K mg base "_law_whole" 1 ["_law_number"] (sp__law_whole)
theorem ok__law_whole (bl : Bl mg) (F : FnP K "_law_whole" s__law_whole [] f fd) : FnOk P w K mg base CX0 1 f fd ["_law_number"] (sp__law_whole) := by
  refine okG F sc__law_whole (fun _ => rfl) (by decide) (fun cdv A outer s H E hr i hp => ⟨_, (pss_one (ps_ret (pe_and (pe_callB call_isi (by rfl) bl.isinstance_ (by first | rfl | decide +kernel) (pa_cons (pv 0) (pa_cons (pe_bltn (v := .ty "int") (by rfl) bl.int_ (by first | rfl | decide +kernel) rfl) pa_nil))) (pe_one (pe_not (pe_callB call_isi (by rfl) bl.isinstance_ (by first | rfl | decide +kernel) (pa_cons (pv 0) (pa_cons (pe_bltn (v := .ty "bool") (by rfl) bl.bool_ (by first | rfl | decide +kernel) rfl) pa_nil)))))))), fun C rt hC q => ?_⟩)
  exact w_re (Ev.to (ev_andV (a := true) (b := true) (ev_isi_int (ev_var rfl) rfl) fun _ => Ev.to (ev_notV (a := false) (ev_isi_int (ev_var rfl) rfl)) rfl) rfl) q (fun _ h => nomatch h)
abbrev s__law_wholes : Stmt := top 43
abbrev N__law_wholes : List Str := ["_law_told", "_law_many", "_law_number"]
theorem sc__law_wholes : FnScope N__law_wholes ["_law_told", "_law_many"] (defScope s__law_wholes) := ⟨rfl, rfl, rfl, by decide +kernel, rfl, by decide +kernel, by decide +kernel⟩
def sp__law_wholes : Sp := spG (ι := List Int × Int) (fun i => [⟨_, RT RI, i.1⟩, ⟨_, RI, i.2⟩]) (fun i => i.1.length ≤ 1000 ∧ (i.1.length : Int) = i.2) (fun _ => ⟨_, RB, true⟩)
abbrev C__law_wholes (P : Program) (w : World) (K : PySem.W.Frag) (mg : Str → Option Value) (base : Heap) : Prop := Cal P w K mg base "_law_wholes" 2 ["_law_told", "_law_many"] (sp__law_wholes)
theorem ok__law_wholes (bl : Bl mg) (c__law_whole : C__law_whole P w K mg base) (F : FnP K "_law_wholes" s__law_wholes [] f fd) : FnOk P w K mg base CX0 2 f fd ["_law_told", "_law_many"] (sp__law_wholes) := by
  refine okG F sc__law_wholes (fun _ => rfl) (by decide) (fun cdv A outer s H E hr i hp => ⟨_, (pss_cons (ps_if (PW.pt (pw_or (pt_not (pt_val (pe_callB call_isi (by rfl) bl.isinstance_ (by first | rfl | decide +kernel) (pa_cons (pv 0) (pa_cons (pe_bltn (v := .ty "tuple") (by rfl) bl.tuple_ (by first | rfl | decide +kernel) rfl) pa_nil))))) (pw_or1 (pt_cmpR op_ne (pe_callB call_len_seq (by rfl) bl.len_ (by first | rfl | decide +kernel) (pa_cons (pv 0) pa_nil)) (pv 1) (nomark _))))) (pss_one (ps_ret pe_bl)) pss_nil)
    (pss_one (ps_ret (pe_callB (cr_all rfl) (by rfl) bl.all_ (by first | rfl | decide +kernel) (pa_cons (pe_lc (own := [("_law_number", 2)]) (tt := tYes) rfl sc__law_wholes.nd (pi_tup (pv 0)) (blkOk_by (N := N__law_wholes) (sc := defScope s__law_wholes) (by decide +kernel)) (fun _ _ _ _ _ => (pg_name (i := 2) sc__law_wholes.nd rfl (.inl rfl))) (fun _ _ _ _ _ => pts_nil) (fun _ _ _ _ _ => (pcall c__law_whole (hr.mono (by decide)) (by rfl) (pa_cons (pv 2) pa_nil)))) pa_nil))))), fun C rt hC q => ?_⟩)
  obtain ⟨xs, n⟩ := i
  obtain ⟨hl, hn⟩ := hp
  dsimp only at hl hn q
  refine w_seq (w_no (EvT.to (et_or (a := false) (et_not (a := true) (et_test (ev_isi_tup (ev_var rfl) rfl))) fun _ => et_B (Ev.to (ev_neI (ev_len (ev_S_of_T (ev_var rfl))) (ev_var rfl)) (show (!decide ((xs.length : Int) = n)) = false by rw [hn]; simp))) rfl) (w_nx ?_))
  refine w_re (Ev.to (ev_all (EvN.ev (en_lc (ei_tup (ev_var rfl)) (by decide) (fun _ => true) (fun _ => []) rfl hl (fun i hi => ?_)))) ?_) q (fun _ h => nomatch h)
  · show Ev _ [_, _, itS RI xs i] [] RB _ []
    rw [itS_get (List.getElem?_eq_getElem hi)]
    exact ev_call xs[i] (ea_cons (ev_var rfl) ea_nil) trivial
  · simp
abbrev s__law_frac : Stmt := top 44
abbrev N__law_frac : List Str := ["_law_top", "_law_bottom"]
theorem sc__law_frac : FnScope N__law_frac ["_law_top", "_law_bottom"] (defScope s__law_frac) := ⟨rfl, rfl, rfl, by decide +kernel, rfl, by decide +kernel, by decide +kernel⟩
def sp__law_frac : Sp := spG (ι := Int × Int) (fun i => [⟨_, RI, i.1⟩, ⟨_, RI, i.2⟩]) (fun i => 0 < i.2 ∧ Bd 8000 i.1 ∧ Bd 8000 i.2) (fun i => ⟨_, RT RI, low [i.1, i.2]⟩)
abbrev C__law_frac (P : Program) (w : World) (K : PySem.W.Frag) (mg : Str → Option Value) (base : Heap) : Prop := Cal P w K mg base "_law_frac" 3 ["_law_top", "_law_bottom"] (sp__law_frac)
theorem all2 {k : Nat} {a b : Int} (h1 : Bd k a) (h2 : Bd k b) : ∀ x ∈ [a, b], Bd k x := fun x hx => by
  simp only [List.mem_cons, List.not_mem_nil, or_false] at hx
  rcases hx with rfl | rfl <;> assumption
theorem ok__law_frac (bl : Bl mg) (c__law_lowest : C__law_lowest P w K mg base) (F : FnP K "_law_frac" s__law_frac [] f fd) : FnOk P w K mg base CX0 3 f fd ["_law_top", "_law_bottom"] (sp__law_frac) := by
  refine okG F sc__law_frac (fun _ => rfl) (by decide) (fun cdv A outer s H E hr i hp => ⟨_, (pss_cons (ps_if (pt_cmpR op_lt (pv 1) pe_int (nomark _)) (pss_one (ps_ret (pcall c__law_lowest (hr.mono (by decide)) (by rfl) (pa_cons (pe_lst (pa_cons (pe_op op_sub pe_int (pv 0)) (pa_cons (pe_op op_sub pe_int (pv 1)) pa_nil))) pa_nil)))) pss_nil)
    (pss_one (ps_ret (pcall c__law_lowest (hr.mono (by decide)) (by rfl) (pa_cons (pe_lst (pa_cons (pv 0) (pa_cons (pv 1) pa_nil))) pa_nil))))), fun C rt hC q => ?_⟩)
  obtain ⟨a, b⟩ := i
  obtain ⟨h0, ha, hb⟩ := hp
  dsimp only at h0 ha hb q
  refine w_seq (w_no (EvT.to (et_test (ev_cmp (ev_var rfl) ev_int)) (decide_eq_false (by show ¬ b < 0; omega))) (w_nx ?_))
  exact w_re (ev_call (true, _) (ea_cons (EvN.ev (en_lst (ea_scons (ev_var rfl) (ea_scons (ev_var rfl) ea_snil)) (le_by rfl))) ea_nil) ⟨le_by rfl, all2 ha hb⟩) q (fun _ h => nomatch h)
abbrev s__law_sum : Stmt := top 45
abbrev N__law_sum : List Str := ["_law_one", "_law_other"]
theorem sc__law_sum : FnScope N__law_sum ["_law_one", "_law_other"] (defScope s__law_sum) := ⟨rfl, rfl, rfl, by decide +kernel, rfl, by decide +kernel, by decide +kernel⟩
def sp__law_sum : Sp := spG (ι := (Int × Int) × (Int × Int)) (fun i => [⟨_, RT RI, [i.1.1, i.1.2]⟩, ⟨_, RT RI, [i.2.1, i.2.2]⟩]) (fun i => 0 < i.1.2 ∧ 0 < i.2.2 ∧ Bd 100 i.1.1 ∧ Bd 100 i.1.2 ∧ Bd 100 i.2.1 ∧ Bd 100 i.2.2)
  (fun i => ⟨_, RT RI, low [i.1.1 * i.2.2 + i.2.1 * i.1.2, i.1.2 * i.2.2]⟩)
abbrev C__law_sum (P : Program) (w : World) (K : PySem.W.Frag) (mg : Str → Option Value) (base : Heap) : Prop := Cal P w K mg base "_law_sum" 4 ["_law_one", "_law_other"] (sp__law_sum)
theorem ok__law_sum (bl : Bl mg) (c__law_frac : C__law_frac P w K mg base) (F : FnP K "_law_sum" s__law_sum [] f fd) : FnOk P w K mg base CX0 4 f fd ["_law_one", "_law_other"] (sp__law_sum) := by
  refine okG F sc__law_sum (fun _ => rfl) (by decide) (fun cdv A outer s H E hr i hp => ⟨_, (pss_one (ps_ret (pcall c__law_frac (hr.mono (by decide)) (by rfl) (pa_cons (pe_op op_add (pe_op op_mulX (pe_ix ix_tup (pv 0) pe_int (fun _ _ => rfl)) (pe_ix ix_tup (pv 1) pe_int (fun _ _ => rfl))) (pe_op op_mulX (pe_ix ix_tup (pv 1) pe_int (fun _ _ => rfl)) (pe_ix ix_tup (pv 0) pe_int (fun _ _ => rfl)))) (pa_cons (pe_op op_mulX (pe_ix ix_tup (pv 0) pe_int (fun _ _ => rfl)) (pe_ix ix_tup (pv 1) pe_int (fun _ _ => rfl))) pa_nil))))), fun C rt hC q => ?_⟩)
  obtain ⟨⟨a, b⟩, ⟨c, d⟩⟩ := i
  obtain ⟨h1, h2, h3, h4, h5, h6⟩ := hp
  dsimp only at h1 h2 h3 h4 h5 h6 q
  exact w_re ((ev_call (_, _) (ea_cons (ev_I0 (ev_I (ev_ixT (ev_var rfl) ev_int rfl) (ev_ixT (ev_var rfl) ev_int rfl) (by apply mulOk; (case h => (repeat' (first | assumption | exact Bd.lit (a := 64) rfl | exact P4.Z.x (by assumption) | exact P4.Z.y (by assumption) | exact P4.Z.z (by assumption) | exact P4.Z.w (by assumption) | exact V3.B.x (by assumption) | exact V3.B.y (by assumption) | exact V3.B.z (by assumption) | apply Bd.mul | apply Bd.add | apply Bd.sub | apply Bd.neg))); (case g => (repeat' (first | assumption | exact Bd.lit (a := 64) rfl | exact P4.Z.x (by assumption) | exact P4.Z.y (by assumption) | exact P4.Z.z (by assumption) | exact P4.Z.w (by assumption) | exact V3.B.x (by assumption) | exact V3.B.y (by assumption) | exact V3.B.z (by assumption) | apply Bd.mul | apply Bd.add | apply Bd.sub | apply Bd.neg))); (case l => decide))) (ev_I (ev_ixT (ev_var rfl) ev_int rfl) (ev_ixT (ev_var rfl) ev_int rfl) (by apply mulOk; (case h => (repeat' (first | assumption | exact Bd.lit (a := 64) rfl | exact P4.Z.x (by assumption) | exact P4.Z.y (by assumption) | exact P4.Z.z (by assumption) | exact P4.Z.w (by assumption) | exact V3.B.x (by assumption) | exact V3.B.y (by assumption) | exact V3.B.z (by assumption) | apply Bd.mul | apply Bd.add | apply Bd.sub | apply Bd.neg))); (case g => (repeat' (first | assumption | exact Bd.lit (a := 64) rfl | exact P4.Z.x (by assumption) | exact P4.Z.y (by assumption) | exact P4.Z.z (by assumption) | exact P4.Z.w (by assumption) | exact V3.B.x (by assumption) | exact V3.B.y (by assumption) | exact V3.B.z (by assumption) | apply Bd.mul | apply Bd.add | apply Bd.sub | apply Bd.neg))); (case l => decide)))) (ea_cons (ev_I (ev_ixT (ev_var rfl) ev_int rfl) (ev_ixT (ev_var rfl) ev_int rfl) (by apply mulOk; (case h => (repeat' (first | assumption | exact Bd.lit (a := 64) rfl | exact P4.Z.x (by assumption) | exact P4.Z.y (by assumption) | exact P4.Z.z (by assumption) | exact P4.Z.w (by assumption) | exact V3.B.x (by assumption) | exact V3.B.y (by assumption) | exact V3.B.z (by assumption) | apply Bd.mul | apply Bd.add | apply Bd.sub | apply Bd.neg))); (case g => (repeat' (first | assumption | exact Bd.lit (a := 64) rfl | exact P4.Z.x (by assumption) | exact P4.Z.y (by assumption) | exact P4.Z.z (by assumption) | exact P4.Z.w (by assumption) | exact V3.B.x (by assumption) | exact V3.B.y (by assumption) | exact V3.B.z (by assumption) | apply Bd.mul | apply Bd.add | apply Bd.sub | apply Bd.neg))); (case l => decide))) ea_nil)) ⟨Int.mul_pos h1 h2, ((h3.mul h6).add (h5.mul h4)).mono (by decide), (h4.mul h6).mono (by decide)⟩)) q (fun _ h => nomatch h)
end
end Sc
set_option Elab.async false
set_option linter.all false
set_option maxRecDepth 10000
/-! triangles in the plane -/
namespace Ma
open TL
structure V2 where
  x : Int
  y : Int
def V2.l (v : V2) : List Int := [v.x, v.y]
def gap2 (p q : P3) : V2 := ⟨q.x * p.w - p.x * q.w, q.y * p.w - p.y * q.w⟩
def turn2 (u v : V2) : Int := u.x * v.y - u.y * v.x
def det2 (p q r : P3) : Int := turn2 (gap2 p q) (gap2 p r)
def D3 (p q r : P3) : Int := p.x * (q.y * r.w - q.w * r.y) - p.y * (q.x * r.w - q.w * r.x) + p.w * (q.x * r.y - q.y * r.x)
theorem det2_D3 (p q r : P3) : det2 p q r = p.w * D3 p q r := by
  simp only [det2, turn2, gap2, D3]
  grind
theorem d4_D3 (p q r : P3) (a : P4) : d4 p.up q.up r.up (dir a) = D3 p q r * a.z := by
  simp only [d4, m1, m2, m3, m4, P3.up, dir, D3]
  grind
structure P3.Z (p : P3) : Prop where
  w0 : 0 < p.w
  x : Bd 400 p.x
  y : Bd 400 p.y
  w : Bd 400 p.w
structure P3.B (k : Nat) (p : P3) : Prop where
  w0 : 0 < p.w
  x : Bd k p.x
  y : Bd k p.y
  w : Bd k p.w
theorem P3.B.Z {k : Nat} {p : P3} (h : P3.B k p) (l : k ≤ 400) : p.Z := ⟨h.w0, h.x.mono l, h.y.mono l, h.w.mono l⟩
theorem P3.B.up {k : Nat} {p : P3} (h : P3.B k p) : P4.B k p.up := ⟨h.w0, h.x, h.y, Nat.pow_pos (by decide), h.w⟩
theorem mk3_B {k : Nat} {x y w : Int} (hx : Bd k x) (hy : Bd k y) (hw : Bd k w) (h0 : 0 < w) : P3.B k (mk3 x y w) := by
  refine ⟨?_, bd_div _ hx, bd_div _ hy, bd_div _ hw⟩
  have hg : 0 < gcdL [x, y, w] := gcdL_pos (x := w) (by simp) (by omega)
  have e : (gcdL [x, y, w] : Int) * (mk3 x y w).w = w := Int.mul_ediv_cancel' (gcdL_dvd (by simp))
  have h1 : 0 < (gcdL [x, y, w] : Int) * (mk3 x y w).w := by rw [e]; exact h0
  exact Int.pos_of_mul_pos_right h1 (by omega)
theorem mk3_of (x y w : Int) (hw : 0 < w) : ∃ g : Int, 0 < g ∧ g * (mk3 x y w).x = x ∧ g * (mk3 x y w).y = y ∧ g * (mk3 x y w).w = w := by
  have hg : 0 < gcdL [x, y, w] := gcdL_pos (x := w) (by simp) (by omega)
  exact ⟨gcdL [x, y, w], by omega, Int.mul_ediv_cancel' (gcdL_dvd (by simp)), Int.mul_ediv_cancel' (gcdL_dvd (by simp)), Int.mul_ediv_cancel' (gcdL_dvd (by simp))⟩
theorem add3_B {k m : Nat} {p a : P3} (h : P3.B k p) (g : P3.B m a) : P3.B (k + m + 1) (add3 p a) := by
  have e : max (k + m) (m + k) + 1 = k + m + 1 := by omega
  refine mk3_B ?_ ?_ ?_ (Int.mul_pos h.w0 g.w0)
  · rw [← e]; exact (h.x.mul g.w).add (g.x.mul h.w)
  · rw [← e]; exact (h.y.mul g.w).add (g.y.mul h.w)
  · exact (h.w.mul g.w).mono (by omega)
structure V2.B (k : Nat) (p : V2) : Prop where
  x : Bd k p.x
  y : Bd k p.y
theorem gap2_B {p q : P3} (h : p.Z) (g : q.Z) : V2.B 801 (gap2 p q) := ⟨(g.x.mul h.w).sub (h.x.mul g.w), (g.y.mul h.w).sub (h.y.mul g.w)⟩
/-! ### D3 under swaps and pushes -/
theorem D3_swap12 (p q r : P3) : D3 q p r = -D3 p q r := by simp only [D3]; grind
theorem D3_swap23 (p q r : P3) : D3 p r q = -D3 p q r := by simp only [D3]; grind
def D3L : List P3 → Int
  | [p, q, r] => D3 p q r
  | _ => 0
theorem D3L_perm {l m : List P3} (h : l.Perm m) : D3L m = D3L l ∨ D3L m = -D3L l := by
  refine perm_ind (G := fun l m => D3L m = D3L l ∨ D3L m = -D3L l) (fun _ => .inl rfl) (fun {a b c} h1 h2 => by omega) (fun pre x y l => ?_) h
  match pre, l with
  | [], [r] => exact .inr (D3_swap12 x y r)
  | [p], [] => exact .inr (D3_swap23 p x y)
  | [], [] => exact .inl rfl
  | [], _ :: _ :: _ => exact .inl rfl
  | [_], _ :: _ => exact .inl rfl
  | [_, _], _ => exact .inl rfl
  | [_, _, _], _ => exact .inl rfl
  | b :: c :: d :: f :: t, _ => exact .inl rfl
theorem D3_comb (p q r s : P3) : D3 ⟨p.x * s.w + s.x * p.w, p.y * s.w + s.y * p.w, p.w * s.w⟩ ⟨q.x * s.w + s.x * q.w, q.y * s.w + s.y * q.w, q.w * s.w⟩ ⟨r.x * s.w + s.x * r.w, r.y * s.w + s.y * r.w, r.w * s.w⟩ = s.w * s.w * s.w * D3 p q r := by
  simp only [D3]; grind
theorem D3_scale (a b c : Int) (p q r : P3) : D3 ⟨a * p.x, a * p.y, a * p.w⟩ ⟨b * q.x, b * q.y, b * q.w⟩ ⟨c * r.x, c * r.y, c * r.w⟩ = a * b * c * D3 p q r := by
  simp only [D3]; grind
theorem D3_add3 {p q r s : P3} (hp : 0 < p.w) (hq : 0 < q.w) (hr : 0 < r.w) (hs : 0 < s.w) (h : D3 p q r ≠ 0) : D3 (add3 p s) (add3 q s) (add3 r s) ≠ 0 := by
  obtain ⟨g, g0, g1, g2, g3⟩ := mk3_of (p.x * s.w + s.x * p.w) (p.y * s.w + s.y * p.w) (p.w * s.w) (Int.mul_pos hp hs)
  obtain ⟨k, k0, k1, k2, k3⟩ := mk3_of (q.x * s.w + s.x * q.w) (q.y * s.w + s.y * q.w) (q.w * s.w) (Int.mul_pos hq hs)
  obtain ⟨m, m0, n1, n2, n3⟩ := mk3_of (r.x * s.w + s.x * r.w) (r.y * s.w + s.y * r.w) (r.w * s.w) (Int.mul_pos hr hs)
  have e := D3_scale g k m (add3 p s) (add3 q s) (add3 r s)
  unfold add3 at e ⊢
  rw [g1, g2, g3, k1, k2, k3, n1, n2, n3, D3_comb] at e
  intro z
  rw [z] at e
  have hw : s.w ≠ 0 := by omega
  exact Int.mul_ne_zero (Int.mul_ne_zero (Int.mul_ne_zero hw hw) hw) h (by rw [e]; omega)
/-! ### the simplex of three points -/
def srtT (ps : List P3) : List P3 := ps.mergeSort fun p q => decide (p.l ≤ q.l)
theorem srtT_map (ps : List P3) : srt (ps.map P3.l) = (srtT ps).map P3.l := (List.map_mergeSort (r := fun p q : P3 => decide (p.l ≤ q.l)) (s := fun p q => decide (p ≤ q)) (f := P3.l) (l := ps) (fun _ _ _ _ => rfl)).symm
theorem srtT_perm (ps : List P3) : (srtT ps).Perm ps := List.mergeSort_perm ps _
def simpT (ps : List P3) : List P3 :=
  match srtT ps with
  | [p, q, r] => if det2 p q r < 0 then [p, r, q] else [p, q, r]
  | l => l
theorem simpT_perm (ps : List P3) : (simpT ps).Perm ps := by
  refine .trans ?_ (srtT_perm ps)
  unfold simpT
  split
  · next e =>
    rw [e]
    split
    · exact .cons _ (.swap _ _ _)
    · exact .refl _
  · exact .refl _
theorem srt3 {ps : List P3} (h : ps.length = 3) : ∃ p q r, srtT ps = [p, q, r] := len3 (by rw [(srtT_perm ps).length_eq, h])
def P4.v (p : P4) : V3 := ⟨p.x, p.y, p.z⟩
end Ma
set_option Elab.async false
set_option linter.all false
set_option maxRecDepth 100000
set_option maxHeartbeats 1000000
namespace Sc
open PySem PySem.Spec PyProof.Rows L2 TL Ma
section
variable {P : Program} {w : World} {K : PySem.W.Frag} {mg : Str → Option Value} {base : Heap} {f : Addr} {fd : FuncData}
abbrev s__law_gap : Stmt := top 47
abbrev N__law_gap : List Str := ["_law_p", "_law_q", "_law_k"]
theorem sc__law_gap : FnScope N__law_gap ["_law_p", "_law_q"] (defScope s__law_gap) := ⟨rfl, rfl, rfl, by decide +kernel, rfl, by decide +kernel, by decide +kernel⟩
abbrev S2 (R S : Rl (List Int)) (x y : List Int) : List Slot := [⟨_, R, x⟩, ⟨_, S, y⟩]
def sp__law_gap : Sp := spG (ι := (P3 × P3) ⊕ (P4 × P4)) (fun | .inl i => S2 (RT RI) (RT RI) i.1.l i.2.l | .inr i => S2 (RT RI) (RT RI) i.1.l i.2.l)
  (fun | .inl i => i.1.Z ∧ i.2.Z | .inr i => i.1.Z ∧ i.2.Z) (fun | .inl i => ⟨_, RL RI, (gap2 i.1 i.2).l⟩ | .inr i => ⟨_, RL RI, (gap i.1 i.2).l⟩)
abbrev C__law_gap (P : Program) (w : World) (K : PySem.W.Frag) (mg : Str → Option Value) (base : Heap) : Prop := Cal P w K mg base "_law_gap" 1 ["_law_p", "_law_q"] (sp__law_gap)
theorem ok__law_gap (bl : Bl mg) (F : FnP K "_law_gap" s__law_gap [] f fd) : FnOk P w K mg base CX0 1 f fd ["_law_p", "_law_q"] (sp__law_gap) := by
  refine okG F sc__law_gap (fun i => by cases i <;> rfl) (by decide) (fun cdv A outer s H E hr i hp => ⟨_, (pss_one (ps_ret (pe_lc (own := [("_law_k", 2)]) (tt := tYes) rfl sc__law_gap.nd (pi_range1 (by rfl) bl.range_ (pa_cons (pe_op op_sub (pe_callB call_len_seq (by rfl) bl.len_ (by first | rfl | decide +kernel) (pa_cons (pv 0) pa_nil)) pe_int) pa_nil)) (blkOk_by (N := N__law_gap) (sc := defScope s__law_gap) (by decide +kernel)) (fun _ _ _ _ _ => (pg_name (i := 2) sc__law_gap.nd rfl (.inl rfl))) (fun _ _ _ _ _ => pts_nil) (fun _ _ _ _ _ => (pe_op op_sub (pe_op op_mulX (pe_ix (r := rIxT K) ix_tup (pv 1) (pv 2) (fun _ _ => rfl)) (pe_ix (r := rIxT K) ix_tup (pv 0) (pe_un un_neg pe_int) (fun _ _ => rfl))) (pe_op op_mulX (pe_ix (r := rIxT K) ix_tup (pv 0) (pv 2) (fun _ _ => rfl)) (pe_ix (r := rIxT K) ix_tup (pv 1) (pe_un un_neg pe_int) (fun _ _ => rfl)))))))), fun C rt hC q => ?_⟩)
  rcases i with ⟨p, a⟩ | ⟨p, a⟩
  · obtain ⟨hp, ha⟩ := hp
    have hp : p.Z := hp
    have ha : a.Z := ha
    have x1 := hp.x; have x2 := hp.y; have x3 := hp.w; have y1 := ha.x; have y2 := ha.y; have y3 := ha.w
    exact w_re ((EvN.ev (en_lc2 (ei_rng1 (ea_cons (ev_I0 (ev_len (ev_S_of_T (ev_var rfl))) ev_int) ea_nil) (of_decide_eq_true rfl) (of_decide_eq_true rfl)) (by decide) rfl (ev_I0 (ev_I (ev_ixT (ev_var rfl) (ev_var rfl) rfl) (ev_ixT (ev_var rfl) (ev_neg ev_int) rfl) (by apply mulOk; (case h => (repeat' (first | assumption | exact Bd.lit (a := 64) rfl | exact P4.Z.x (by assumption) | exact P4.Z.y (by assumption) | exact P4.Z.z (by assumption) | exact P4.Z.w (by assumption) | exact V3.B.x (by assumption) | exact V3.B.y (by assumption) | exact V3.B.z (by assumption) | apply Bd.mul | apply Bd.add | apply Bd.sub | apply Bd.neg))); (case g => (repeat' (first | assumption | exact Bd.lit (a := 64) rfl | exact P4.Z.x (by assumption) | exact P4.Z.y (by assumption) | exact P4.Z.z (by assumption) | exact P4.Z.w (by assumption) | exact V3.B.x (by assumption) | exact V3.B.y (by assumption) | exact V3.B.z (by assumption) | apply Bd.mul | apply Bd.add | apply Bd.sub | apply Bd.neg))); (case l => decide))) (ev_I (ev_ixT (ev_var rfl) (ev_var rfl) rfl) (ev_ixT (ev_var rfl) (ev_neg ev_int) rfl) (by apply mulOk; (case h => (repeat' (first | assumption | exact Bd.lit (a := 64) rfl | exact P4.Z.x (by assumption) | exact P4.Z.y (by assumption) | exact P4.Z.z (by assumption) | exact P4.Z.w (by assumption) | exact V3.B.x (by assumption) | exact V3.B.y (by assumption) | exact V3.B.z (by assumption) | apply Bd.mul | apply Bd.add | apply Bd.sub | apply Bd.neg))); (case g => (repeat' (first | assumption | exact Bd.lit (a := 64) rfl | exact P4.Z.x (by assumption) | exact P4.Z.y (by assumption) | exact P4.Z.z (by assumption) | exact P4.Z.w (by assumption) | exact V3.B.x (by assumption) | exact V3.B.y (by assumption) | exact V3.B.z (by assumption) | apply Bd.mul | apply Bd.add | apply Bd.sub | apply Bd.neg))); (case l => decide)))) (ev_I0 (ev_I (ev_ixT (ev_var rfl) (ev_var rfl) rfl) (ev_ixT (ev_var rfl) (ev_neg ev_int) rfl) (by apply mulOk; (case h => (repeat' (first | assumption | exact Bd.lit (a := 64) rfl | exact P4.Z.x (by assumption) | exact P4.Z.y (by assumption) | exact P4.Z.z (by assumption) | exact P4.Z.w (by assumption) | exact V3.B.x (by assumption) | exact V3.B.y (by assumption) | exact V3.B.z (by assumption) | apply Bd.mul | apply Bd.add | apply Bd.sub | apply Bd.neg))); (case g => (repeat' (first | assumption | exact Bd.lit (a := 64) rfl | exact P4.Z.x (by assumption) | exact P4.Z.y (by assumption) | exact P4.Z.z (by assumption) | exact P4.Z.w (by assumption) | exact V3.B.x (by assumption) | exact V3.B.y (by assumption) | exact V3.B.z (by assumption) | apply Bd.mul | apply Bd.add | apply Bd.sub | apply Bd.neg))); (case l => decide))) (ev_I (ev_ixT (ev_var rfl) (ev_var rfl) rfl) (ev_ixT (ev_var rfl) (ev_neg ev_int) rfl) (by apply mulOk; (case h => (repeat' (first | assumption | exact Bd.lit (a := 64) rfl | exact P4.Z.x (by assumption) | exact P4.Z.y (by assumption) | exact P4.Z.z (by assumption) | exact P4.Z.w (by assumption) | exact V3.B.x (by assumption) | exact V3.B.y (by assumption) | exact V3.B.z (by assumption) | apply Bd.mul | apply Bd.add | apply Bd.sub | apply Bd.neg))); (case g => (repeat' (first | assumption | exact Bd.lit (a := 64) rfl | exact P4.Z.x (by assumption) | exact P4.Z.y (by assumption) | exact P4.Z.z (by assumption) | exact P4.Z.w (by assumption) | exact V3.B.x (by assumption) | exact V3.B.y (by assumption) | exact V3.B.z (by assumption) | apply Bd.mul | apply Bd.add | apply Bd.sub | apply Bd.neg))); (case l => decide))))))) q (fun _ h => nomatch h)
  · obtain ⟨hp, ha⟩ := hp
    have hp : p.Z := hp
    have ha : a.Z := ha
    exact w_re ((EvN.ev (en_lc3 (ei_rng1 (ea_cons (ev_I0 (ev_len (ev_S_of_T (ev_var rfl))) ev_int) ea_nil) (of_decide_eq_true rfl) (of_decide_eq_true rfl)) (by decide) rfl (ev_I0 (ev_I (ev_ixT (ev_var rfl) (ev_var rfl) rfl) (ev_ixT (ev_var rfl) (ev_neg ev_int) rfl) (by apply mulOk; (case h => (repeat' (first | assumption | exact Bd.lit (a := 64) rfl | exact P4.Z.x (by assumption) | exact P4.Z.y (by assumption) | exact P4.Z.z (by assumption) | exact P4.Z.w (by assumption) | exact V3.B.x (by assumption) | exact V3.B.y (by assumption) | exact V3.B.z (by assumption) | apply Bd.mul | apply Bd.add | apply Bd.sub | apply Bd.neg))); (case g => (repeat' (first | assumption | exact Bd.lit (a := 64) rfl | exact P4.Z.x (by assumption) | exact P4.Z.y (by assumption) | exact P4.Z.z (by assumption) | exact P4.Z.w (by assumption) | exact V3.B.x (by assumption) | exact V3.B.y (by assumption) | exact V3.B.z (by assumption) | apply Bd.mul | apply Bd.add | apply Bd.sub | apply Bd.neg))); (case l => decide))) (ev_I (ev_ixT (ev_var rfl) (ev_var rfl) rfl) (ev_ixT (ev_var rfl) (ev_neg ev_int) rfl) (by apply mulOk; (case h => (repeat' (first | assumption | exact Bd.lit (a := 64) rfl | exact P4.Z.x (by assumption) | exact P4.Z.y (by assumption) | exact P4.Z.z (by assumption) | exact P4.Z.w (by assumption) | exact V3.B.x (by assumption) | exact V3.B.y (by assumption) | exact V3.B.z (by assumption) | apply Bd.mul | apply Bd.add | apply Bd.sub | apply Bd.neg))); (case g => (repeat' (first | assumption | exact Bd.lit (a := 64) rfl | exact P4.Z.x (by assumption) | exact P4.Z.y (by assumption) | exact P4.Z.z (by assumption) | exact P4.Z.w (by assumption) | exact V3.B.x (by assumption) | exact V3.B.y (by assumption) | exact V3.B.z (by assumption) | apply Bd.mul | apply Bd.add | apply Bd.sub | apply Bd.neg))); (case l => decide)))) (ev_I0 (ev_I (ev_ixT (ev_var rfl) (ev_var rfl) rfl) (ev_ixT (ev_var rfl) (ev_neg ev_int) rfl) (by apply mulOk; (case h => (repeat' (first | assumption | exact Bd.lit (a := 64) rfl | exact P4.Z.x (by assumption) | exact P4.Z.y (by assumption) | exact P4.Z.z (by assumption) | exact P4.Z.w (by assumption) | exact V3.B.x (by assumption) | exact V3.B.y (by assumption) | exact V3.B.z (by assumption) | apply Bd.mul | apply Bd.add | apply Bd.sub | apply Bd.neg))); (case g => (repeat' (first | assumption | exact Bd.lit (a := 64) rfl | exact P4.Z.x (by assumption) | exact P4.Z.y (by assumption) | exact P4.Z.z (by assumption) | exact P4.Z.w (by assumption) | exact V3.B.x (by assumption) | exact V3.B.y (by assumption) | exact V3.B.z (by assumption) | apply Bd.mul | apply Bd.add | apply Bd.sub | apply Bd.neg))); (case l => decide))) (ev_I (ev_ixT (ev_var rfl) (ev_var rfl) rfl) (ev_ixT (ev_var rfl) (ev_neg ev_int) rfl) (by apply mulOk; (case h => (repeat' (first | assumption | exact Bd.lit (a := 64) rfl | exact P4.Z.x (by assumption) | exact P4.Z.y (by assumption) | exact P4.Z.z (by assumption) | exact P4.Z.w (by assumption) | exact V3.B.x (by assumption) | exact V3.B.y (by assumption) | exact V3.B.z (by assumption) | apply Bd.mul | apply Bd.add | apply Bd.sub | apply Bd.neg))); (case g => (repeat' (first | assumption | exact Bd.lit (a := 64) rfl | exact P4.Z.x (by assumption) | exact P4.Z.y (by assumption) | exact P4.Z.z (by assumption) | exact P4.Z.w (by assumption) | exact V3.B.x (by assumption) | exact V3.B.y (by assumption) | exact V3.B.z (by assumption) | apply Bd.mul | apply Bd.add | apply Bd.sub | apply Bd.neg))); (case l => decide)))) (ev_I0 (ev_I (ev_ixT (ev_var rfl) (ev_var rfl) rfl) (ev_ixT (ev_var rfl) (ev_neg ev_int) rfl) (by apply mulOk; (case h => (repeat' (first | assumption | exact Bd.lit (a := 64) rfl | exact P4.Z.x (by assumption) | exact P4.Z.y (by assumption) | exact P4.Z.z (by assumption) | exact P4.Z.w (by assumption) | exact V3.B.x (by assumption) | exact V3.B.y (by assumption) | exact V3.B.z (by assumption) | apply Bd.mul | apply Bd.add | apply Bd.sub | apply Bd.neg))); (case g => (repeat' (first | assumption | exact Bd.lit (a := 64) rfl | exact P4.Z.x (by assumption) | exact P4.Z.y (by assumption) | exact P4.Z.z (by assumption) | exact P4.Z.w (by assumption) | exact V3.B.x (by assumption) | exact V3.B.y (by assumption) | exact V3.B.z (by assumption) | apply Bd.mul | apply Bd.add | apply Bd.sub | apply Bd.neg))); (case l => decide))) (ev_I (ev_ixT (ev_var rfl) (ev_var rfl) rfl) (ev_ixT (ev_var rfl) (ev_neg ev_int) rfl) (by apply mulOk; (case h => (repeat' (first | assumption | exact Bd.lit (a := 64) rfl | exact P4.Z.x (by assumption) | exact P4.Z.y (by assumption) | exact P4.Z.z (by assumption) | exact P4.Z.w (by assumption) | exact V3.B.x (by assumption) | exact V3.B.y (by assumption) | exact V3.B.z (by assumption) | apply Bd.mul | apply Bd.add | apply Bd.sub | apply Bd.neg))); (case g => (repeat' (first | assumption | exact Bd.lit (a := 64) rfl | exact P4.Z.x (by assumption) | exact P4.Z.y (by assumption) | exact P4.Z.z (by assumption) | exact P4.Z.w (by assumption) | exact V3.B.x (by assumption) | exact V3.B.y (by assumption) | exact V3.B.z (by assumption) | apply Bd.mul | apply Bd.add | apply Bd.sub | apply Bd.neg))); (case l => decide))))))) q (fun _ h => nomatch h)
abbrev s__law_joined : Stmt := top 46
abbrev N__law_joined : List Str := ["_law_p", "_law_q", "_law_way", "_law_far_here", "_law_k"]
theorem sc__law_joined : FnScope N__law_joined ["_law_p", "_law_q", "_law_way"] (defScope s__law_joined) := ⟨rfl, rfl, rfl, by decide +kernel, rfl, by decide +kernel, by decide +kernel⟩
def sp__law_joined : Sp := spG (ι := (P3 × P3) ⊕ (P4 × P4)) (fun | .inl i => [⟨_, RT RI, i.1.l⟩, ⟨_, RT RI, i.2.l⟩, ⟨_, RI, 1⟩] | .inr i => [⟨_, RT RI, i.1.l⟩, ⟨_, RT RI, i.2.l⟩, ⟨_, RI, 1⟩])
  (fun | .inl i => i.1.Z ∧ i.2.Z | .inr i => i.1.Z ∧ i.2.Z) (fun | .inl i => ⟨_, RT RI, (add3 i.1 i.2).l⟩ | .inr i => ⟨_, RT RI, (add i.1 i.2).l⟩)
abbrev C__law_joined (P : Program) (w : World) (K : PySem.W.Frag) (mg : Str → Option Value) (base : Heap) : Prop := Cal P w K mg base "_law_joined" 3 ["_law_p", "_law_q", "_law_way"] (sp__law_joined)
theorem ok__law_joined (bl : Bl mg) (c__law_lowest : C__law_lowest P w K mg base) (F : FnP K "_law_joined" s__law_joined [] f fd) : FnOk P w K mg base CX0 3 f fd ["_law_p", "_law_q", "_law_way"] (sp__law_joined) := by
  have hh : ∀ {x y z u : Int}, Bd 400 x → Bd 400 y → Bd 400 z → Bd 400 u → Bd 8000 (1 * x * y + z * u) := fun {x y z u} h1 h2 h3 h4 => by rw [Int.one_mul]; exact ((h1.mul h2).add (h3.mul h4)).mono (by decide)
  refine okG F sc__law_joined (fun i => by cases i <;> rfl) (by decide) (fun cdv A outer s H E hr i hp => ⟨_, (pss_cons (ps_setLc (i := 3) (own := [("_law_k", 4)]) (tt := tYes) rfl sc__law_joined.nd rfl rfl (sw_true rfl rfl rfl (by decide +kernel)) (pi_range1 (by rfl) bl.range_ (pa_cons (pe_op op_sub (pe_callB call_len_seq (by rfl) bl.len_ (by first | rfl | decide +kernel) (pa_cons (pv 0) pa_nil)) pe_int) pa_nil)) (blkOk_by (N := N__law_joined) (sc := defScope s__law_joined) (by decide +kernel)) (fun _ _ _ _ _ => (pg_name (i := 4) sc__law_joined.nd rfl (.inl rfl))) (fun _ _ _ _ _ => pts_nil) (fun _ _ _ _ _ => (pe_op op_add (pe_op op_mulX (pe_op op_mulX (pv 2) (pe_ix (r := rIxT K) ix_tup (pv 0) (pv 4) (fun _ _ => rfl))) (pe_ix (r := rIxT K) ix_tup (pv 1) (pe_un un_neg pe_int) (fun _ _ => rfl))) (pe_op op_mulX (pe_ix (r := rIxT K) ix_tup (pv 1) (pv 4) (fun _ _ => rfl)) (pe_ix (r := rIxT K) ix_tup (pv 0) (pe_un un_neg pe_int) (fun _ _ => rfl))))))
    (pss_one (ps_ret (pcall c__law_lowest (hr.mono (by decide)) (by rfl) (pa_cons (pe_op op_cat (pv 3) (pe_lst (pa_cons (pe_op op_mulX (pe_ix ix_tup (pv 0) (pe_un un_neg pe_int) (fun _ _ => rfl)) (pe_ix ix_tup (pv 1) (pe_un un_neg pe_int) (fun _ _ => rfl))) pa_nil))) pa_nil))))), fun C rt hC q => ?_⟩)
  rcases i with ⟨p, a⟩ | ⟨p, a⟩
  · obtain ⟨hp, ha⟩ := hp
    have hp : p.Z := hp
    have ha : a.Z := ha
    have x1 := hp.x; have x2 := hp.y; have x3 := hp.w; have y1 := ha.x; have y2 := ha.y; have y3 := ha.w
    have e : low [1 * p.x * a.w + a.x * p.w, 1 * p.y * a.w + a.y * p.w, p.w * a.w] = (add3 p a).l := by rw [Int.one_mul, Int.one_mul]; rfl
    refine w_seq (w_set (EvN.ev (en_lc2 (ei_rng1 (ea_cons (ev_I0 (ev_len (ev_S_of_T (ev_var rfl))) ev_int) ea_nil) (of_decide_eq_true rfl) (of_decide_eq_true rfl)) (by decide) rfl (ev_I0 (ev_I (ev_I (ev_var rfl) (ev_ixT (ev_var rfl) (ev_var rfl) rfl) (by apply mulOk; (case h => (repeat' (first | assumption | exact Bd.lit (a := 64) rfl | exact P4.Z.x (by assumption) | exact P4.Z.y (by assumption) | exact P4.Z.z (by assumption) | exact P4.Z.w (by assumption) | exact V3.B.x (by assumption) | exact V3.B.y (by assumption) | exact V3.B.z (by assumption) | apply Bd.mul | apply Bd.add | apply Bd.sub | apply Bd.neg))); (case g => (repeat' (first | assumption | exact Bd.lit (a := 64) rfl | exact P4.Z.x (by assumption) | exact P4.Z.y (by assumption) | exact P4.Z.z (by assumption) | exact P4.Z.w (by assumption) | exact V3.B.x (by assumption) | exact V3.B.y (by assumption) | exact V3.B.z (by assumption) | apply Bd.mul | apply Bd.add | apply Bd.sub | apply Bd.neg))); (case l => decide))) (ev_ixT (ev_var rfl) (ev_neg ev_int) rfl) (by apply mulOk; (case h => (repeat' (first | assumption | exact Bd.lit (a := 64) rfl | exact P4.Z.x (by assumption) | exact P4.Z.y (by assumption) | exact P4.Z.z (by assumption) | exact P4.Z.w (by assumption) | exact V3.B.x (by assumption) | exact V3.B.y (by assumption) | exact V3.B.z (by assumption) | apply Bd.mul | apply Bd.add | apply Bd.sub | apply Bd.neg))); (case g => (repeat' (first | assumption | exact Bd.lit (a := 64) rfl | exact P4.Z.x (by assumption) | exact P4.Z.y (by assumption) | exact P4.Z.z (by assumption) | exact P4.Z.w (by assumption) | exact V3.B.x (by assumption) | exact V3.B.y (by assumption) | exact V3.B.z (by assumption) | apply Bd.mul | apply Bd.add | apply Bd.sub | apply Bd.neg))); (case l => decide))) (ev_I (ev_ixT (ev_var rfl) (ev_var rfl) rfl) (ev_ixT (ev_var rfl) (ev_neg ev_int) rfl) (by apply mulOk; (case h => (repeat' (first | assumption | exact Bd.lit (a := 64) rfl | exact P4.Z.x (by assumption) | exact P4.Z.y (by assumption) | exact P4.Z.z (by assumption) | exact P4.Z.w (by assumption) | exact V3.B.x (by assumption) | exact V3.B.y (by assumption) | exact V3.B.z (by assumption) | apply Bd.mul | apply Bd.add | apply Bd.sub | apply Bd.neg))); (case g => (repeat' (first | assumption | exact Bd.lit (a := 64) rfl | exact P4.Z.x (by assumption) | exact P4.Z.y (by assumption) | exact P4.Z.z (by assumption) | exact P4.Z.w (by assumption) | exact V3.B.x (by assumption) | exact V3.B.y (by assumption) | exact V3.B.z (by assumption) | apply Bd.mul | apply Bd.add | apply Bd.sub | apply Bd.neg))); (case l => decide)))) (ev_I0 (ev_I (ev_I (ev_var rfl) (ev_ixT (ev_var rfl) (ev_var rfl) rfl) (by apply mulOk; (case h => (repeat' (first | assumption | exact Bd.lit (a := 64) rfl | exact P4.Z.x (by assumption) | exact P4.Z.y (by assumption) | exact P4.Z.z (by assumption) | exact P4.Z.w (by assumption) | exact V3.B.x (by assumption) | exact V3.B.y (by assumption) | exact V3.B.z (by assumption) | apply Bd.mul | apply Bd.add | apply Bd.sub | apply Bd.neg))); (case g => (repeat' (first | assumption | exact Bd.lit (a := 64) rfl | exact P4.Z.x (by assumption) | exact P4.Z.y (by assumption) | exact P4.Z.z (by assumption) | exact P4.Z.w (by assumption) | exact V3.B.x (by assumption) | exact V3.B.y (by assumption) | exact V3.B.z (by assumption) | apply Bd.mul | apply Bd.add | apply Bd.sub | apply Bd.neg))); (case l => decide))) (ev_ixT (ev_var rfl) (ev_neg ev_int) rfl) (by apply mulOk; (case h => (repeat' (first | assumption | exact Bd.lit (a := 64) rfl | exact P4.Z.x (by assumption) | exact P4.Z.y (by assumption) | exact P4.Z.z (by assumption) | exact P4.Z.w (by assumption) | exact V3.B.x (by assumption) | exact V3.B.y (by assumption) | exact V3.B.z (by assumption) | apply Bd.mul | apply Bd.add | apply Bd.sub | apply Bd.neg))); (case g => (repeat' (first | assumption | exact Bd.lit (a := 64) rfl | exact P4.Z.x (by assumption) | exact P4.Z.y (by assumption) | exact P4.Z.z (by assumption) | exact P4.Z.w (by assumption) | exact V3.B.x (by assumption) | exact V3.B.y (by assumption) | exact V3.B.z (by assumption) | apply Bd.mul | apply Bd.add | apply Bd.sub | apply Bd.neg))); (case l => decide))) (ev_I (ev_ixT (ev_var rfl) (ev_var rfl) rfl) (ev_ixT (ev_var rfl) (ev_neg ev_int) rfl) (by apply mulOk; (case h => (repeat' (first | assumption | exact Bd.lit (a := 64) rfl | exact P4.Z.x (by assumption) | exact P4.Z.y (by assumption) | exact P4.Z.z (by assumption) | exact P4.Z.w (by assumption) | exact V3.B.x (by assumption) | exact V3.B.y (by assumption) | exact V3.B.z (by assumption) | apply Bd.mul | apply Bd.add | apply Bd.sub | apply Bd.neg))); (case g => (repeat' (first | assumption | exact Bd.lit (a := 64) rfl | exact P4.Z.x (by assumption) | exact P4.Z.y (by assumption) | exact P4.Z.z (by assumption) | exact P4.Z.w (by assumption) | exact V3.B.x (by assumption) | exact V3.B.y (by assumption) | exact V3.B.z (by assumption) | apply Bd.mul | apply Bd.add | apply Bd.sub | apply Bd.neg))); (case l => decide)))))) ?_)
    exact w_re (Ev.to (ev_call (true, _) (ea_cons (EvN.ev (en_cat (ev_var rfl) (EvN.ev (en_lst (ea_scons (ev_I (ev_ixT (ev_var rfl) (ev_neg ev_int) rfl) (ev_ixT (ev_var rfl) (ev_neg ev_int) rfl) (by apply mulOk; (case h => (repeat' (first | assumption | exact Bd.lit (a := 64) rfl | exact P4.Z.x (by assumption) | exact P4.Z.y (by assumption) | exact P4.Z.z (by assumption) | exact P4.Z.w (by assumption) | exact V3.B.x (by assumption) | exact V3.B.y (by assumption) | exact V3.B.z (by assumption) | apply Bd.mul | apply Bd.add | apply Bd.sub | apply Bd.neg))); (case g => (repeat' (first | assumption | exact Bd.lit (a := 64) rfl | exact P4.Z.x (by assumption) | exact P4.Z.y (by assumption) | exact P4.Z.z (by assumption) | exact P4.Z.w (by assumption) | exact V3.B.x (by assumption) | exact V3.B.y (by assumption) | exact V3.B.z (by assumption) | apply Bd.mul | apply Bd.add | apply Bd.sub | apply Bd.neg))); (case l => decide))) ea_snil) (le_by rfl))) (le_by rfl))) ea_nil) ⟨le_by rfl, all3 (hh hp.x ha.w ha.x hp.w) (hh hp.y ha.w ha.y hp.w) ((hp.w.mul ha.w).mono (by decide))⟩) (e)) q (fun _ h => nomatch h)
  · obtain ⟨hp, ha⟩ := hp
    have hp : p.Z := hp
    have ha : a.Z := ha
    have e : low [1 * p.x * a.w + a.x * p.w, 1 * p.y * a.w + a.y * p.w, 1 * p.z * a.w + a.z * p.w, p.w * a.w] = (add p a).l := by rw [Int.one_mul, Int.one_mul, Int.one_mul]; rfl
    refine w_seq (w_set (EvN.ev (en_lc3 (ei_rng1 (ea_cons (ev_I0 (ev_len (ev_S_of_T (ev_var rfl))) ev_int) ea_nil) (of_decide_eq_true rfl) (of_decide_eq_true rfl)) (by decide) rfl (ev_I0 (ev_I (ev_I (ev_var rfl) (ev_ixT (ev_var rfl) (ev_var rfl) rfl) (by apply mulOk; (case h => (repeat' (first | assumption | exact Bd.lit (a := 64) rfl | exact P4.Z.x (by assumption) | exact P4.Z.y (by assumption) | exact P4.Z.z (by assumption) | exact P4.Z.w (by assumption) | exact V3.B.x (by assumption) | exact V3.B.y (by assumption) | exact V3.B.z (by assumption) | apply Bd.mul | apply Bd.add | apply Bd.sub | apply Bd.neg))); (case g => (repeat' (first | assumption | exact Bd.lit (a := 64) rfl | exact P4.Z.x (by assumption) | exact P4.Z.y (by assumption) | exact P4.Z.z (by assumption) | exact P4.Z.w (by assumption) | exact V3.B.x (by assumption) | exact V3.B.y (by assumption) | exact V3.B.z (by assumption) | apply Bd.mul | apply Bd.add | apply Bd.sub | apply Bd.neg))); (case l => decide))) (ev_ixT (ev_var rfl) (ev_neg ev_int) rfl) (by apply mulOk; (case h => (repeat' (first | assumption | exact Bd.lit (a := 64) rfl | exact P4.Z.x (by assumption) | exact P4.Z.y (by assumption) | exact P4.Z.z (by assumption) | exact P4.Z.w (by assumption) | exact V3.B.x (by assumption) | exact V3.B.y (by assumption) | exact V3.B.z (by assumption) | apply Bd.mul | apply Bd.add | apply Bd.sub | apply Bd.neg))); (case g => (repeat' (first | assumption | exact Bd.lit (a := 64) rfl | exact P4.Z.x (by assumption) | exact P4.Z.y (by assumption) | exact P4.Z.z (by assumption) | exact P4.Z.w (by assumption) | exact V3.B.x (by assumption) | exact V3.B.y (by assumption) | exact V3.B.z (by assumption) | apply Bd.mul | apply Bd.add | apply Bd.sub | apply Bd.neg))); (case l => decide))) (ev_I (ev_ixT (ev_var rfl) (ev_var rfl) rfl) (ev_ixT (ev_var rfl) (ev_neg ev_int) rfl) (by apply mulOk; (case h => (repeat' (first | assumption | exact Bd.lit (a := 64) rfl | exact P4.Z.x (by assumption) | exact P4.Z.y (by assumption) | exact P4.Z.z (by assumption) | exact P4.Z.w (by assumption) | exact V3.B.x (by assumption) | exact V3.B.y (by assumption) | exact V3.B.z (by assumption) | apply Bd.mul | apply Bd.add | apply Bd.sub | apply Bd.neg))); (case g => (repeat' (first | assumption | exact Bd.lit (a := 64) rfl | exact P4.Z.x (by assumption) | exact P4.Z.y (by assumption) | exact P4.Z.z (by assumption) | exact P4.Z.w (by assumption) | exact V3.B.x (by assumption) | exact V3.B.y (by assumption) | exact V3.B.z (by assumption) | apply Bd.mul | apply Bd.add | apply Bd.sub | apply Bd.neg))); (case l => decide)))) (ev_I0 (ev_I (ev_I (ev_var rfl) (ev_ixT (ev_var rfl) (ev_var rfl) rfl) (by apply mulOk; (case h => (repeat' (first | assumption | exact Bd.lit (a := 64) rfl | exact P4.Z.x (by assumption) | exact P4.Z.y (by assumption) | exact P4.Z.z (by assumption) | exact P4.Z.w (by assumption) | exact V3.B.x (by assumption) | exact V3.B.y (by assumption) | exact V3.B.z (by assumption) | apply Bd.mul | apply Bd.add | apply Bd.sub | apply Bd.neg))); (case g => (repeat' (first | assumption | exact Bd.lit (a := 64) rfl | exact P4.Z.x (by assumption) | exact P4.Z.y (by assumption) | exact P4.Z.z (by assumption) | exact P4.Z.w (by assumption) | exact V3.B.x (by assumption) | exact V3.B.y (by assumption) | exact V3.B.z (by assumption) | apply Bd.mul | apply Bd.add | apply Bd.sub | apply Bd.neg))); (case l => decide))) (ev_ixT (ev_var rfl) (ev_neg ev_int) rfl) (by apply mulOk; (case h => (repeat' (first | assumption | exact Bd.lit (a := 64) rfl | exact P4.Z.x (by assumption) | exact P4.Z.y (by assumption) | exact P4.Z.z (by assumption) | exact P4.Z.w (by assumption) | exact V3.B.x (by assumption) | exact V3.B.y (by assumption) | exact V3.B.z (by assumption) | apply Bd.mul | apply Bd.add | apply Bd.sub | apply Bd.neg))); (case g => (repeat' (first | assumption | exact Bd.lit (a := 64) rfl | exact P4.Z.x (by assumption) | exact P4.Z.y (by assumption) | exact P4.Z.z (by assumption) | exact P4.Z.w (by assumption) | exact V3.B.x (by assumption) | exact V3.B.y (by assumption) | exact V3.B.z (by assumption) | apply Bd.mul | apply Bd.add | apply Bd.sub | apply Bd.neg))); (case l => decide))) (ev_I (ev_ixT (ev_var rfl) (ev_var rfl) rfl) (ev_ixT (ev_var rfl) (ev_neg ev_int) rfl) (by apply mulOk; (case h => (repeat' (first | assumption | exact Bd.lit (a := 64) rfl | exact P4.Z.x (by assumption) | exact P4.Z.y (by assumption) | exact P4.Z.z (by assumption) | exact P4.Z.w (by assumption) | exact V3.B.x (by assumption) | exact V3.B.y (by assumption) | exact V3.B.z (by assumption) | apply Bd.mul | apply Bd.add | apply Bd.sub | apply Bd.neg))); (case g => (repeat' (first | assumption | exact Bd.lit (a := 64) rfl | exact P4.Z.x (by assumption) | exact P4.Z.y (by assumption) | exact P4.Z.z (by assumption) | exact P4.Z.w (by assumption) | exact V3.B.x (by assumption) | exact V3.B.y (by assumption) | exact V3.B.z (by assumption) | apply Bd.mul | apply Bd.add | apply Bd.sub | apply Bd.neg))); (case l => decide)))) (ev_I0 (ev_I (ev_I (ev_var rfl) (ev_ixT (ev_var rfl) (ev_var rfl) rfl) (by apply mulOk; (case h => (repeat' (first | assumption | exact Bd.lit (a := 64) rfl | exact P4.Z.x (by assumption) | exact P4.Z.y (by assumption) | exact P4.Z.z (by assumption) | exact P4.Z.w (by assumption) | exact V3.B.x (by assumption) | exact V3.B.y (by assumption) | exact V3.B.z (by assumption) | apply Bd.mul | apply Bd.add | apply Bd.sub | apply Bd.neg))); (case g => (repeat' (first | assumption | exact Bd.lit (a := 64) rfl | exact P4.Z.x (by assumption) | exact P4.Z.y (by assumption) | exact P4.Z.z (by assumption) | exact P4.Z.w (by assumption) | exact V3.B.x (by assumption) | exact V3.B.y (by assumption) | exact V3.B.z (by assumption) | apply Bd.mul | apply Bd.add | apply Bd.sub | apply Bd.neg))); (case l => decide))) (ev_ixT (ev_var rfl) (ev_neg ev_int) rfl) (by apply mulOk; (case h => (repeat' (first | assumption | exact Bd.lit (a := 64) rfl | exact P4.Z.x (by assumption) | exact P4.Z.y (by assumption) | exact P4.Z.z (by assumption) | exact P4.Z.w (by assumption) | exact V3.B.x (by assumption) | exact V3.B.y (by assumption) | exact V3.B.z (by assumption) | apply Bd.mul | apply Bd.add | apply Bd.sub | apply Bd.neg))); (case g => (repeat' (first | assumption | exact Bd.lit (a := 64) rfl | exact P4.Z.x (by assumption) | exact P4.Z.y (by assumption) | exact P4.Z.z (by assumption) | exact P4.Z.w (by assumption) | exact V3.B.x (by assumption) | exact V3.B.y (by assumption) | exact V3.B.z (by assumption) | apply Bd.mul | apply Bd.add | apply Bd.sub | apply Bd.neg))); (case l => decide))) (ev_I (ev_ixT (ev_var rfl) (ev_var rfl) rfl) (ev_ixT (ev_var rfl) (ev_neg ev_int) rfl) (by apply mulOk; (case h => (repeat' (first | assumption | exact Bd.lit (a := 64) rfl | exact P4.Z.x (by assumption) | exact P4.Z.y (by assumption) | exact P4.Z.z (by assumption) | exact P4.Z.w (by assumption) | exact V3.B.x (by assumption) | exact V3.B.y (by assumption) | exact V3.B.z (by assumption) | apply Bd.mul | apply Bd.add | apply Bd.sub | apply Bd.neg))); (case g => (repeat' (first | assumption | exact Bd.lit (a := 64) rfl | exact P4.Z.x (by assumption) | exact P4.Z.y (by assumption) | exact P4.Z.z (by assumption) | exact P4.Z.w (by assumption) | exact V3.B.x (by assumption) | exact V3.B.y (by assumption) | exact V3.B.z (by assumption) | apply Bd.mul | apply Bd.add | apply Bd.sub | apply Bd.neg))); (case l => decide)))))) ?_)
    exact w_re (Ev.to (ev_call (true, _) (ea_cons (EvN.ev (en_cat (ev_var rfl) (EvN.ev (en_lst (ea_scons (ev_I (ev_ixT (ev_var rfl) (ev_neg ev_int) rfl) (ev_ixT (ev_var rfl) (ev_neg ev_int) rfl) (by apply mulOk; (case h => (repeat' (first | assumption | exact Bd.lit (a := 64) rfl | exact P4.Z.x (by assumption) | exact P4.Z.y (by assumption) | exact P4.Z.z (by assumption) | exact P4.Z.w (by assumption) | exact V3.B.x (by assumption) | exact V3.B.y (by assumption) | exact V3.B.z (by assumption) | apply Bd.mul | apply Bd.add | apply Bd.sub | apply Bd.neg))); (case g => (repeat' (first | assumption | exact Bd.lit (a := 64) rfl | exact P4.Z.x (by assumption) | exact P4.Z.y (by assumption) | exact P4.Z.z (by assumption) | exact P4.Z.w (by assumption) | exact V3.B.x (by assumption) | exact V3.B.y (by assumption) | exact V3.B.z (by assumption) | apply Bd.mul | apply Bd.add | apply Bd.sub | apply Bd.neg))); (case l => decide))) ea_snil) (le_by rfl))) (le_by rfl))) ea_nil) ⟨le_by rfl, all4 (hh hp.x ha.w ha.x hp.w) (hh hp.y ha.w ha.y hp.w) (hh hp.z ha.w ha.z hp.w) ((hp.w.mul ha.w).mono (by decide))⟩) (e)) q (fun _ h => nomatch h)
abbrev s__law_cross : Stmt := top 48
abbrev N__law_cross : List Str := ["_law_u", "_law_v", "_law_x", "_law_y", "_law_z"]
theorem sc__law_cross : FnScope N__law_cross ["_law_u", "_law_v"] (defScope s__law_cross) := ⟨rfl, rfl, rfl, by decide +kernel, rfl, by decide +kernel, by decide +kernel⟩
def sp__law_cross : Sp := spG (ι := (V3 × V3) ⊕ (P4 × P4)) (fun | .inl i => S2 (RS RI) (RS RI) i.1.l i.2.l | .inr i => S2 (RS RI) (RS RI) i.1.l i.2.l)
  (fun | .inl i => i.1.B 801 ∧ i.2.B 801 | .inr i => i.1.Z ∧ i.2.Z) (fun | .inl i => ⟨_, RL RI, (crs i.1 i.2).l⟩ | .inr i => ⟨_, RL RI, (crs i.1.v i.2.v).l⟩)
abbrev C__law_cross (P : Program) (w : World) (K : PySem.W.Frag) (mg : Str → Option Value) (base : Heap) : Prop := Cal P w K mg base "_law_cross" 1 ["_law_u", "_law_v"] (sp__law_cross)
theorem ok__law_cross (bl : Bl mg) (F : FnP K "_law_cross" s__law_cross [] f fd) : FnOk P w K mg base CX0 1 f fd ["_law_u", "_law_v"] (sp__law_cross) := by
  refine okG F sc__law_cross (fun i => by cases i <;> rfl) (by decide) (fun cdv A outer s H E hr i hp => ⟨_, (pss_cons (ps_set (i := 2) sc__law_cross.nd rfl (.inl rfl) (pe_op op_sub (pe_op op_mulX (pe_ix ix_seq (pv 0) pe_int (fun _ _ => rfl)) (pe_ix ix_seq (pv 1) pe_int (fun _ _ => rfl))) (pe_op op_mulX (pe_ix ix_seq (pv 0) pe_int (fun _ _ => rfl)) (pe_ix ix_seq (pv 1) pe_int (fun _ _ => rfl)))))
    (pss_cons (ps_set (i := 3) sc__law_cross.nd rfl (.inl rfl) (pe_op op_sub (pe_op op_mulX (pe_ix ix_seq (pv 0) pe_int (fun _ _ => rfl)) (pe_ix ix_seq (pv 1) pe_int (fun _ _ => rfl))) (pe_op op_mulX (pe_ix ix_seq (pv 0) pe_int (fun _ _ => rfl)) (pe_ix ix_seq (pv 1) pe_int (fun _ _ => rfl)))))
    (pss_cons (ps_set (i := 4) sc__law_cross.nd rfl (.inl rfl) (pe_op op_sub (pe_op op_mulX (pe_ix ix_seq (pv 0) pe_int (fun _ _ => rfl)) (pe_ix ix_seq (pv 1) pe_int (fun _ _ => rfl))) (pe_op op_mulX (pe_ix ix_seq (pv 0) pe_int (fun _ _ => rfl)) (pe_ix ix_seq (pv 1) pe_int (fun _ _ => rfl)))))
    (pss_one (ps_ret (pe_lst (pa_cons (pv 2) (pa_cons (pv 3) (pa_cons (pv 4) pa_nil))))))))), fun C rt hC q => ?_⟩)
  rcases i with ⟨p, a⟩ | ⟨p, a⟩
  · obtain ⟨hp, ha⟩ := hp
    have hp : p.B 801 := hp
    have ha : a.B 801 := ha
    refine w_seq (w_set (ev_I0 (ev_I (ev_ixS (ev_var rfl) ev_int rfl) (ev_ixS (ev_var rfl) ev_int rfl) (by apply mulOk; (case h => (repeat' (first | assumption | exact Bd.lit (a := 64) rfl | exact P4.Z.x (by assumption) | exact P4.Z.y (by assumption) | exact P4.Z.z (by assumption) | exact P4.Z.w (by assumption) | exact V3.B.x (by assumption) | exact V3.B.y (by assumption) | exact V3.B.z (by assumption) | apply Bd.mul | apply Bd.add | apply Bd.sub | apply Bd.neg))); (case g => (repeat' (first | assumption | exact Bd.lit (a := 64) rfl | exact P4.Z.x (by assumption) | exact P4.Z.y (by assumption) | exact P4.Z.z (by assumption) | exact P4.Z.w (by assumption) | exact V3.B.x (by assumption) | exact V3.B.y (by assumption) | exact V3.B.z (by assumption) | apply Bd.mul | apply Bd.add | apply Bd.sub | apply Bd.neg))); (case l => decide))) (ev_I (ev_ixS (ev_var rfl) ev_int rfl) (ev_ixS (ev_var rfl) ev_int rfl) (by apply mulOk; (case h => (repeat' (first | assumption | exact Bd.lit (a := 64) rfl | exact P4.Z.x (by assumption) | exact P4.Z.y (by assumption) | exact P4.Z.z (by assumption) | exact P4.Z.w (by assumption) | exact V3.B.x (by assumption) | exact V3.B.y (by assumption) | exact V3.B.z (by assumption) | apply Bd.mul | apply Bd.add | apply Bd.sub | apply Bd.neg))); (case g => (repeat' (first | assumption | exact Bd.lit (a := 64) rfl | exact P4.Z.x (by assumption) | exact P4.Z.y (by assumption) | exact P4.Z.z (by assumption) | exact P4.Z.w (by assumption) | exact V3.B.x (by assumption) | exact V3.B.y (by assumption) | exact V3.B.z (by assumption) | apply Bd.mul | apply Bd.add | apply Bd.sub | apply Bd.neg))); (case l => decide)))) ?_)
    refine w_seq (w_set (ev_I0 (ev_I (ev_ixS (ev_var rfl) ev_int rfl) (ev_ixS (ev_var rfl) ev_int rfl) (by apply mulOk; (case h => (repeat' (first | assumption | exact Bd.lit (a := 64) rfl | exact P4.Z.x (by assumption) | exact P4.Z.y (by assumption) | exact P4.Z.z (by assumption) | exact P4.Z.w (by assumption) | exact V3.B.x (by assumption) | exact V3.B.y (by assumption) | exact V3.B.z (by assumption) | apply Bd.mul | apply Bd.add | apply Bd.sub | apply Bd.neg))); (case g => (repeat' (first | assumption | exact Bd.lit (a := 64) rfl | exact P4.Z.x (by assumption) | exact P4.Z.y (by assumption) | exact P4.Z.z (by assumption) | exact P4.Z.w (by assumption) | exact V3.B.x (by assumption) | exact V3.B.y (by assumption) | exact V3.B.z (by assumption) | apply Bd.mul | apply Bd.add | apply Bd.sub | apply Bd.neg))); (case l => decide))) (ev_I (ev_ixS (ev_var rfl) ev_int rfl) (ev_ixS (ev_var rfl) ev_int rfl) (by apply mulOk; (case h => (repeat' (first | assumption | exact Bd.lit (a := 64) rfl | exact P4.Z.x (by assumption) | exact P4.Z.y (by assumption) | exact P4.Z.z (by assumption) | exact P4.Z.w (by assumption) | exact V3.B.x (by assumption) | exact V3.B.y (by assumption) | exact V3.B.z (by assumption) | apply Bd.mul | apply Bd.add | apply Bd.sub | apply Bd.neg))); (case g => (repeat' (first | assumption | exact Bd.lit (a := 64) rfl | exact P4.Z.x (by assumption) | exact P4.Z.y (by assumption) | exact P4.Z.z (by assumption) | exact P4.Z.w (by assumption) | exact V3.B.x (by assumption) | exact V3.B.y (by assumption) | exact V3.B.z (by assumption) | apply Bd.mul | apply Bd.add | apply Bd.sub | apply Bd.neg))); (case l => decide)))) ?_)
    refine w_seq (w_set (ev_I0 (ev_I (ev_ixS (ev_var rfl) ev_int rfl) (ev_ixS (ev_var rfl) ev_int rfl) (by apply mulOk; (case h => (repeat' (first | assumption | exact Bd.lit (a := 64) rfl | exact P4.Z.x (by assumption) | exact P4.Z.y (by assumption) | exact P4.Z.z (by assumption) | exact P4.Z.w (by assumption) | exact V3.B.x (by assumption) | exact V3.B.y (by assumption) | exact V3.B.z (by assumption) | apply Bd.mul | apply Bd.add | apply Bd.sub | apply Bd.neg))); (case g => (repeat' (first | assumption | exact Bd.lit (a := 64) rfl | exact P4.Z.x (by assumption) | exact P4.Z.y (by assumption) | exact P4.Z.z (by assumption) | exact P4.Z.w (by assumption) | exact V3.B.x (by assumption) | exact V3.B.y (by assumption) | exact V3.B.z (by assumption) | apply Bd.mul | apply Bd.add | apply Bd.sub | apply Bd.neg))); (case l => decide))) (ev_I (ev_ixS (ev_var rfl) ev_int rfl) (ev_ixS (ev_var rfl) ev_int rfl) (by apply mulOk; (case h => (repeat' (first | assumption | exact Bd.lit (a := 64) rfl | exact P4.Z.x (by assumption) | exact P4.Z.y (by assumption) | exact P4.Z.z (by assumption) | exact P4.Z.w (by assumption) | exact V3.B.x (by assumption) | exact V3.B.y (by assumption) | exact V3.B.z (by assumption) | apply Bd.mul | apply Bd.add | apply Bd.sub | apply Bd.neg))); (case g => (repeat' (first | assumption | exact Bd.lit (a := 64) rfl | exact P4.Z.x (by assumption) | exact P4.Z.y (by assumption) | exact P4.Z.z (by assumption) | exact P4.Z.w (by assumption) | exact V3.B.x (by assumption) | exact V3.B.y (by assumption) | exact V3.B.z (by assumption) | apply Bd.mul | apply Bd.add | apply Bd.sub | apply Bd.neg))); (case l => decide)))) ?_)
    exact w_re ((EvN.ev (en_lst (ea_scons (ev_var rfl) (ea_scons (ev_var rfl) (ea_scons (ev_var rfl) ea_snil))) (le_by rfl)))) q (fun _ h => nomatch h)
  · obtain ⟨hp, ha⟩ := hp
    have hp : p.Z := hp
    have ha : a.Z := ha
    refine w_seq (w_set (ev_I0 (ev_I (ev_ixS (ev_var rfl) ev_int rfl) (ev_ixS (ev_var rfl) ev_int rfl) (by apply mulOk; (case h => (repeat' (first | assumption | exact Bd.lit (a := 64) rfl | exact P4.Z.x (by assumption) | exact P4.Z.y (by assumption) | exact P4.Z.z (by assumption) | exact P4.Z.w (by assumption) | exact V3.B.x (by assumption) | exact V3.B.y (by assumption) | exact V3.B.z (by assumption) | apply Bd.mul | apply Bd.add | apply Bd.sub | apply Bd.neg))); (case g => (repeat' (first | assumption | exact Bd.lit (a := 64) rfl | exact P4.Z.x (by assumption) | exact P4.Z.y (by assumption) | exact P4.Z.z (by assumption) | exact P4.Z.w (by assumption) | exact V3.B.x (by assumption) | exact V3.B.y (by assumption) | exact V3.B.z (by assumption) | apply Bd.mul | apply Bd.add | apply Bd.sub | apply Bd.neg))); (case l => decide))) (ev_I (ev_ixS (ev_var rfl) ev_int rfl) (ev_ixS (ev_var rfl) ev_int rfl) (by apply mulOk; (case h => (repeat' (first | assumption | exact Bd.lit (a := 64) rfl | exact P4.Z.x (by assumption) | exact P4.Z.y (by assumption) | exact P4.Z.z (by assumption) | exact P4.Z.w (by assumption) | exact V3.B.x (by assumption) | exact V3.B.y (by assumption) | exact V3.B.z (by assumption) | apply Bd.mul | apply Bd.add | apply Bd.sub | apply Bd.neg))); (case g => (repeat' (first | assumption | exact Bd.lit (a := 64) rfl | exact P4.Z.x (by assumption) | exact P4.Z.y (by assumption) | exact P4.Z.z (by assumption) | exact P4.Z.w (by assumption) | exact V3.B.x (by assumption) | exact V3.B.y (by assumption) | exact V3.B.z (by assumption) | apply Bd.mul | apply Bd.add | apply Bd.sub | apply Bd.neg))); (case l => decide)))) ?_)
    refine w_seq (w_set (ev_I0 (ev_I (ev_ixS (ev_var rfl) ev_int rfl) (ev_ixS (ev_var rfl) ev_int rfl) (by apply mulOk; (case h => (repeat' (first | assumption | exact Bd.lit (a := 64) rfl | exact P4.Z.x (by assumption) | exact P4.Z.y (by assumption) | exact P4.Z.z (by assumption) | exact P4.Z.w (by assumption) | exact V3.B.x (by assumption) | exact V3.B.y (by assumption) | exact V3.B.z (by assumption) | apply Bd.mul | apply Bd.add | apply Bd.sub | apply Bd.neg))); (case g => (repeat' (first | assumption | exact Bd.lit (a := 64) rfl | exact P4.Z.x (by assumption) | exact P4.Z.y (by assumption) | exact P4.Z.z (by assumption) | exact P4.Z.w (by assumption) | exact V3.B.x (by assumption) | exact V3.B.y (by assumption) | exact V3.B.z (by assumption) | apply Bd.mul | apply Bd.add | apply Bd.sub | apply Bd.neg))); (case l => decide))) (ev_I (ev_ixS (ev_var rfl) ev_int rfl) (ev_ixS (ev_var rfl) ev_int rfl) (by apply mulOk; (case h => (repeat' (first | assumption | exact Bd.lit (a := 64) rfl | exact P4.Z.x (by assumption) | exact P4.Z.y (by assumption) | exact P4.Z.z (by assumption) | exact P4.Z.w (by assumption) | exact V3.B.x (by assumption) | exact V3.B.y (by assumption) | exact V3.B.z (by assumption) | apply Bd.mul | apply Bd.add | apply Bd.sub | apply Bd.neg))); (case g => (repeat' (first | assumption | exact Bd.lit (a := 64) rfl | exact P4.Z.x (by assumption) | exact P4.Z.y (by assumption) | exact P4.Z.z (by assumption) | exact P4.Z.w (by assumption) | exact V3.B.x (by assumption) | exact V3.B.y (by assumption) | exact V3.B.z (by assumption) | apply Bd.mul | apply Bd.add | apply Bd.sub | apply Bd.neg))); (case l => decide)))) ?_)
    refine w_seq (w_set (ev_I0 (ev_I (ev_ixS (ev_var rfl) ev_int rfl) (ev_ixS (ev_var rfl) ev_int rfl) (by apply mulOk; (case h => (repeat' (first | assumption | exact Bd.lit (a := 64) rfl | exact P4.Z.x (by assumption) | exact P4.Z.y (by assumption) | exact P4.Z.z (by assumption) | exact P4.Z.w (by assumption) | exact V3.B.x (by assumption) | exact V3.B.y (by assumption) | exact V3.B.z (by assumption) | apply Bd.mul | apply Bd.add | apply Bd.sub | apply Bd.neg))); (case g => (repeat' (first | assumption | exact Bd.lit (a := 64) rfl | exact P4.Z.x (by assumption) | exact P4.Z.y (by assumption) | exact P4.Z.z (by assumption) | exact P4.Z.w (by assumption) | exact V3.B.x (by assumption) | exact V3.B.y (by assumption) | exact V3.B.z (by assumption) | apply Bd.mul | apply Bd.add | apply Bd.sub | apply Bd.neg))); (case l => decide))) (ev_I (ev_ixS (ev_var rfl) ev_int rfl) (ev_ixS (ev_var rfl) ev_int rfl) (by apply mulOk; (case h => (repeat' (first | assumption | exact Bd.lit (a := 64) rfl | exact P4.Z.x (by assumption) | exact P4.Z.y (by assumption) | exact P4.Z.z (by assumption) | exact P4.Z.w (by assumption) | exact V3.B.x (by assumption) | exact V3.B.y (by assumption) | exact V3.B.z (by assumption) | apply Bd.mul | apply Bd.add | apply Bd.sub | apply Bd.neg))); (case g => (repeat' (first | assumption | exact Bd.lit (a := 64) rfl | exact P4.Z.x (by assumption) | exact P4.Z.y (by assumption) | exact P4.Z.z (by assumption) | exact P4.Z.w (by assumption) | exact V3.B.x (by assumption) | exact V3.B.y (by assumption) | exact V3.B.z (by assumption) | apply Bd.mul | apply Bd.add | apply Bd.sub | apply Bd.neg))); (case l => decide)))) ?_)
    exact w_re ((EvN.ev (en_lst (ea_scons (ev_var rfl) (ea_scons (ev_var rfl) (ea_scons (ev_var rfl) ea_snil))) (le_by rfl)))) q (fun _ h => nomatch h)
abbrev s__law_dot : Stmt := top 49
abbrev N__law_dot : List Str := ["_law_u", "_law_v", "_law_one", "_law_other"]
theorem sc__law_dot : FnScope N__law_dot ["_law_u", "_law_v"] (defScope s__law_dot) := ⟨rfl, rfl, rfl, by decide +kernel, rfl, by decide +kernel, by decide +kernel⟩
def sp__law_dot : Sp := spG (ι := (V3 × V3) ⊕ (V3 × P4)) (fun | .inl i => S2 (RL RI) (RL RI) i.1.l i.2.l | .inr i => S2 (RL RI) (RT RI) i.1.l i.2.l)
  (fun | .inl i => i.1.B 1603 ∧ i.2.B 1603 | .inr i => i.1.B 1603 ∧ i.2.Z) (fun | .inl i => ⟨_, RI, dt i.1 i.2⟩ | .inr i => ⟨_, RI, dt i.1 i.2.v⟩)
abbrev C__law_dot (P : Program) (w : World) (K : PySem.W.Frag) (mg : Str → Option Value) (base : Heap) : Prop := Cal P w K mg base "_law_dot" 1 ["_law_u", "_law_v"] (sp__law_dot)
theorem ok__law_dot (bl : Bl mg) (F : FnP K "_law_dot" s__law_dot [] f fd) : FnOk P w K mg base CX0 1 f fd ["_law_u", "_law_v"] (sp__law_dot) := by
  refine okG F sc__law_dot (fun i => by cases i <;> rfl) (by decide) (fun cdv A outer s H E hr i hp => ?_)
  rcases i with ⟨p, a⟩ | ⟨p, a⟩
  · refine ⟨_, (pss_one (ps_ret (pe_callB (cr_sum rfl) (by rfl) bl.sum_ (by first | rfl | decide +kernel) (pa_cons (pe_lc (own := [("_law_one", 2), ("_law_other", 3)]) (tt := tYes) rfl sc__law_dot.nd (RZ.pi_zipA (by rfl) bl.zip_ (pa_cons (pv 0) (pa_cons (pv 1) pa_nil))) (blkOk_by (N := N__law_dot) (sc := defScope s__law_dot) (by decide +kernel)) (fun _ _ _ _ _ => (pg_tupK (K := K) (n := 2) rfl (by rfl) (pgs_cons (pg_name (i := 2) sc__law_dot.nd rfl (.inl rfl)) (pgs_cons (pg_name (i := 3) sc__law_dot.nd rfl (.inl rfl)) pgs_nil)))) (fun _ _ _ _ _ => pts_nil) (fun _ _ _ _ _ => (pe_op op_mulX (pv 2) (pv 3)))) pa_nil)))), fun C rt hC q => ?_⟩
    obtain ⟨hp, ha⟩ := hp
    have hp : p.B 1603 := hp
    have ha : a.B 1603 := ha
    exact w_re (Ev.to (ev_sum (EvN.ev (en_lc3 (ei_zipL (ea_cons (ev_var rfl) (ea_cons (ev_var rfl) ea_nil))) (by decide) rfl (ev_I (ev_var rfl) (ev_var rfl) (by apply mulOk; (case h => (repeat' (first | assumption | exact Bd.lit (a := 64) rfl | exact P4.Z.x (by assumption) | exact P4.Z.y (by assumption) | exact P4.Z.z (by assumption) | exact P4.Z.w (by assumption) | exact V3.B.x (by assumption) | exact V3.B.y (by assumption) | exact V3.B.z (by assumption) | apply Bd.mul | apply Bd.add | apply Bd.sub | apply Bd.neg))); (case g => (repeat' (first | assumption | exact Bd.lit (a := 64) rfl | exact P4.Z.x (by assumption) | exact P4.Z.y (by assumption) | exact P4.Z.z (by assumption) | exact P4.Z.w (by assumption) | exact V3.B.x (by assumption) | exact V3.B.y (by assumption) | exact V3.B.z (by assumption) | apply Bd.mul | apply Bd.add | apply Bd.sub | apply Bd.neg))); (case l => decide))) (ev_I (ev_var rfl) (ev_var rfl) (by apply mulOk; (case h => (repeat' (first | assumption | exact Bd.lit (a := 64) rfl | exact P4.Z.x (by assumption) | exact P4.Z.y (by assumption) | exact P4.Z.z (by assumption) | exact P4.Z.w (by assumption) | exact V3.B.x (by assumption) | exact V3.B.y (by assumption) | exact V3.B.z (by assumption) | apply Bd.mul | apply Bd.add | apply Bd.sub | apply Bd.neg))); (case g => (repeat' (first | assumption | exact Bd.lit (a := 64) rfl | exact P4.Z.x (by assumption) | exact P4.Z.y (by assumption) | exact P4.Z.z (by assumption) | exact P4.Z.w (by assumption) | exact V3.B.x (by assumption) | exact V3.B.y (by assumption) | exact V3.B.z (by assumption) | apply Bd.mul | apply Bd.add | apply Bd.sub | apply Bd.neg))); (case l => decide))) (ev_I (ev_var rfl) (ev_var rfl) (by apply mulOk; (case h => (repeat' (first | assumption | exact Bd.lit (a := 64) rfl | exact P4.Z.x (by assumption) | exact P4.Z.y (by assumption) | exact P4.Z.z (by assumption) | exact P4.Z.w (by assumption) | exact V3.B.x (by assumption) | exact V3.B.y (by assumption) | exact V3.B.z (by assumption) | apply Bd.mul | apply Bd.add | apply Bd.sub | apply Bd.neg))); (case g => (repeat' (first | assumption | exact Bd.lit (a := 64) rfl | exact P4.Z.x (by assumption) | exact P4.Z.y (by assumption) | exact P4.Z.z (by assumption) | exact P4.Z.w (by assumption) | exact V3.B.x (by assumption) | exact V3.B.y (by assumption) | exact V3.B.z (by assumption) | apply Bd.mul | apply Bd.add | apply Bd.sub | apply Bd.neg))); (case l => decide)))))) (sum3 _ _ _)) q (fun _ h => nomatch h)
  · refine ⟨_, (pss_one (ps_ret (pe_callB (cr_sum rfl) (by rfl) bl.sum_ (by first | rfl | decide +kernel) (pa_cons (pe_lc (own := [("_law_one", 2), ("_law_other", 3)]) (tt := tYes) rfl sc__law_dot.nd (ZM.pi_zipM (by rfl) bl.zip_ (pa_cons (pv 0) (pa_cons (pv 1) pa_nil))) (blkOk_by (N := N__law_dot) (sc := defScope s__law_dot) (by decide +kernel)) (fun _ _ _ _ _ => (pg_tupK (K := K) (n := 2) rfl (by rfl) (pgs_cons (pg_name (i := 2) sc__law_dot.nd rfl (.inl rfl)) (pgs_cons (pg_name (i := 3) sc__law_dot.nd rfl (.inl rfl)) pgs_nil)))) (fun _ _ _ _ _ => pts_nil) (fun _ _ _ _ _ => (pe_op op_mulX (pv 2) (pv 3)))) pa_nil)))), fun C rt hC q => ?_⟩
    obtain ⟨hp, ha⟩ := hp
    have hp : p.B 1603 := hp
    have ha : a.Z := ha
    exact w_re (Ev.to (ev_sum (EvN.ev (en_lc3 (ei_zipM (ea_cons (ev_var rfl) (ea_cons (ev_var rfl) ea_nil)) (le_by rfl)) (by decide) rfl (ev_I (ev_var rfl) (ev_var rfl) (by apply mulOk; (case h => (repeat' (first | assumption | exact Bd.lit (a := 64) rfl | exact P4.Z.x (by assumption) | exact P4.Z.y (by assumption) | exact P4.Z.z (by assumption) | exact P4.Z.w (by assumption) | exact V3.B.x (by assumption) | exact V3.B.y (by assumption) | exact V3.B.z (by assumption) | apply Bd.mul | apply Bd.add | apply Bd.sub | apply Bd.neg))); (case g => (repeat' (first | assumption | exact Bd.lit (a := 64) rfl | exact P4.Z.x (by assumption) | exact P4.Z.y (by assumption) | exact P4.Z.z (by assumption) | exact P4.Z.w (by assumption) | exact V3.B.x (by assumption) | exact V3.B.y (by assumption) | exact V3.B.z (by assumption) | apply Bd.mul | apply Bd.add | apply Bd.sub | apply Bd.neg))); (case l => decide))) (ev_I (ev_var rfl) (ev_var rfl) (by apply mulOk; (case h => (repeat' (first | assumption | exact Bd.lit (a := 64) rfl | exact P4.Z.x (by assumption) | exact P4.Z.y (by assumption) | exact P4.Z.z (by assumption) | exact P4.Z.w (by assumption) | exact V3.B.x (by assumption) | exact V3.B.y (by assumption) | exact V3.B.z (by assumption) | apply Bd.mul | apply Bd.add | apply Bd.sub | apply Bd.neg))); (case g => (repeat' (first | assumption | exact Bd.lit (a := 64) rfl | exact P4.Z.x (by assumption) | exact P4.Z.y (by assumption) | exact P4.Z.z (by assumption) | exact P4.Z.w (by assumption) | exact V3.B.x (by assumption) | exact V3.B.y (by assumption) | exact V3.B.z (by assumption) | apply Bd.mul | apply Bd.add | apply Bd.sub | apply Bd.neg))); (case l => decide))) (ev_I (ev_var rfl) (ev_var rfl) (by apply mulOk; (case h => (repeat' (first | assumption | exact Bd.lit (a := 64) rfl | exact P4.Z.x (by assumption) | exact P4.Z.y (by assumption) | exact P4.Z.z (by assumption) | exact P4.Z.w (by assumption) | exact V3.B.x (by assumption) | exact V3.B.y (by assumption) | exact V3.B.z (by assumption) | apply Bd.mul | apply Bd.add | apply Bd.sub | apply Bd.neg))); (case g => (repeat' (first | assumption | exact Bd.lit (a := 64) rfl | exact P4.Z.x (by assumption) | exact P4.Z.y (by assumption) | exact P4.Z.z (by assumption) | exact P4.Z.w (by assumption) | exact V3.B.x (by assumption) | exact V3.B.y (by assumption) | exact V3.B.z (by assumption) | apply Bd.mul | apply Bd.add | apply Bd.sub | apply Bd.neg))); (case l => decide)))))) (sum3 _ _ _)) q (fun _ h => nomatch h)
abbrev s__law_turn : Stmt := top 50
abbrev N__law_turn : List Str := ["_law_ways"]
theorem sc__law_turn : FnScope N__law_turn ["_law_ways"] (defScope s__law_turn) := ⟨rfl, rfl, rfl, by decide +kernel, rfl, by decide +kernel, by decide +kernel⟩
def sp__law_turn : Sp := spG (ι := (V2 × V2) ⊕ (V3 × V3 × V3)) (fun | .inl i => [⟨_, RL (RL RI), [i.1.l, i.2.l]⟩] | .inr i => [⟨_, RL (RL RI), [i.1.l, i.2.1.l, i.2.2.l]⟩])
  (fun | .inl i => i.1.B 801 ∧ i.2.B 801 | .inr i => i.1.B 801 ∧ i.2.1.B 801 ∧ i.2.2.B 801) (fun | .inl i => ⟨_, RI, turn2 i.1 i.2⟩ | .inr i => ⟨_, RI, dt (crs i.1 i.2.1) i.2.2⟩)
abbrev C__law_turn (P : Program) (w : World) (K : PySem.W.Frag) (mg : Str → Option Value) (base : Heap) : Prop := Cal P w K mg base "_law_turn" 2 ["_law_ways"] (sp__law_turn)
theorem ok__law_turn (bl : Bl mg) (c__law_dot : C__law_dot P w K mg base) (c__law_cross : C__law_cross P w K mg base) (F : FnP K "_law_turn" s__law_turn [] f fd) : FnOk P w K mg base CX0 2 f fd ["_law_ways"] (sp__law_turn) := by
  refine okG F sc__law_turn (fun i => by cases i <;> rfl) (by decide) (fun cdv A outer s H E hr i hp => ⟨_, (pss_cons (ps_if (pt_cmpR op_eq (pe_callB call_len_seq (by rfl) bl.len_ (by first | rfl | decide +kernel) (pa_cons (pv 0) pa_nil)) pe_int (nomark _)) (pss_one (ps_ret (pe_op op_sub (pe_op op_mulX (pe_ix ix_list (pe_ix ix_list (pv 0) pe_int (fun _ _ => rfl)) pe_int (fun _ _ => rfl)) (pe_ix ix_list (pe_ix ix_list (pv 0) pe_int (fun _ _ => rfl)) pe_int (fun _ _ => rfl))) (pe_op op_mulX (pe_ix ix_list (pe_ix ix_list (pv 0) pe_int (fun _ _ => rfl)) pe_int (fun _ _ => rfl)) (pe_ix ix_list (pe_ix ix_list (pv 0) pe_int (fun _ _ => rfl)) pe_int (fun _ _ => rfl)))))) pss_nil)
    (pss_one (ps_ret (pcall c__law_dot (hr.mono (by decide)) (by rfl) (pa_cons (pcall c__law_cross (hr.mono (by decide)) (by rfl) (pa_cons (pe_ix ix_list (pv 0) pe_int (fun _ _ => rfl)) (pa_cons (pe_ix ix_list (pv 0) pe_int (fun _ _ => rfl)) pa_nil))) (pa_cons (pe_ix ix_list (pv 0) pe_int (fun _ _ => rfl)) pa_nil)))))), fun C rt hC q => ?_⟩)
  rcases i with ⟨u, v⟩ | ⟨u, v, t⟩
  · obtain ⟨hu, hv⟩ := hp
    have x1 : Bd 801 u.x := hu.x
    have x2 : Bd 801 u.y := hu.y
    have y1 : Bd 801 v.x := hv.x
    have y2 : Bd 801 v.y := hv.y
    refine w_seq (w_yes ((et_test (ev_eqI (ev_len (ev_S_of_L (ev_var rfl))) ev_int)).to rfl) ?_)
    exact w_re (ev_I0 (ev_I (ev_ixL (ev_ixL (ev_var rfl) ev_int rfl) ev_int rfl) (ev_ixL (ev_ixL (ev_var rfl) ev_int rfl) ev_int rfl) (by apply mulOk; (case h => (repeat' (first | assumption | exact Bd.lit (a := 64) rfl | exact P4.Z.x (by assumption) | exact P4.Z.y (by assumption) | exact P4.Z.z (by assumption) | exact P4.Z.w (by assumption) | exact V3.B.x (by assumption) | exact V3.B.y (by assumption) | exact V3.B.z (by assumption) | apply Bd.mul | apply Bd.add | apply Bd.sub | apply Bd.neg))); (case g => (repeat' (first | assumption | exact Bd.lit (a := 64) rfl | exact P4.Z.x (by assumption) | exact P4.Z.y (by assumption) | exact P4.Z.z (by assumption) | exact P4.Z.w (by assumption) | exact V3.B.x (by assumption) | exact V3.B.y (by assumption) | exact V3.B.z (by assumption) | apply Bd.mul | apply Bd.add | apply Bd.sub | apply Bd.neg))); (case l => decide))) (ev_I (ev_ixL (ev_ixL (ev_var rfl) ev_int rfl) ev_int rfl) (ev_ixL (ev_ixL (ev_var rfl) ev_int rfl) ev_int rfl) (by apply mulOk; (case h => (repeat' (first | assumption | exact Bd.lit (a := 64) rfl | exact P4.Z.x (by assumption) | exact P4.Z.y (by assumption) | exact P4.Z.z (by assumption) | exact P4.Z.w (by assumption) | exact V3.B.x (by assumption) | exact V3.B.y (by assumption) | exact V3.B.z (by assumption) | apply Bd.mul | apply Bd.add | apply Bd.sub | apply Bd.neg))); (case g => (repeat' (first | assumption | exact Bd.lit (a := 64) rfl | exact P4.Z.x (by assumption) | exact P4.Z.y (by assumption) | exact P4.Z.z (by assumption) | exact P4.Z.w (by assumption) | exact V3.B.x (by assumption) | exact V3.B.y (by assumption) | exact V3.B.z (by assumption) | apply Bd.mul | apply Bd.add | apply Bd.sub | apply Bd.neg))); (case l => decide)))) q (fun _ h => nomatch h)
  · obtain ⟨hu, hv, ht⟩ := hp
    have hu : u.B 801 := hu
    have hv : v.B 801 := hv
    have ht : t.B 801 := ht
    refine w_seq (w_no ((et_test (ev_eqI (ev_len (ev_S_of_L (ev_var rfl))) ev_int)).to rfl) (w_nx ?_))
    exact w_re (ev_call (Sum.inl (crs u v, t)) (ea_cons (ev_call (Sum.inl (u, v)) (ea_cons (ev_S_of_L (ev_ixL (ev_var rfl) ev_int rfl)) (ea_cons (ev_S_of_L (ev_ixL (ev_var rfl) ev_int rfl)) ea_nil)) ⟨hu, hv⟩) (ea_cons (ev_ixL (ev_var rfl) ev_int rfl) ea_nil)) ⟨crs_B hu hv, ht.mono (by decide)⟩) q (fun _ h => nomatch h)
abbrev s__law_det : Stmt := top 51
abbrev N__law_det : List Str := ["_law_points", "_law_p"]
theorem sc__law_det : FnScope N__law_det ["_law_points"] (defScope s__law_det) := ⟨rfl, rfl, rfl, by decide +kernel, rfl, by decide +kernel, by decide +kernel⟩
def sp__law_det : Sp := spG (ι := Bool × ((P3 × P3 × P3) ⊕ (P4 × P4 × P4 × P4))) (fun i => match i.2 with | .inl t => [⟨_, RLTT i.1, [t.1.l, t.2.1.l, t.2.2.l]⟩] | .inr t => [⟨_, RLTT i.1, [t.1.l, t.2.1.l, t.2.2.1.l, t.2.2.2.l]⟩])
  (fun i => match i.2 with | .inl t => t.1.Z ∧ t.2.1.Z ∧ t.2.2.Z | .inr t => t.1.Z ∧ t.2.1.Z ∧ t.2.2.1.Z ∧ t.2.2.2.Z)
  (fun i => match i.2 with | .inl t => ⟨_, RI, det2 t.1 t.2.1 t.2.2⟩ | .inr t => ⟨_, RI, det t.1 t.2.1 t.2.2.1 t.2.2.2⟩)
abbrev C__law_det (P : Program) (w : World) (K : PySem.W.Frag) (mg : Str → Option Value) (base : Heap) : Prop := Cal P w K mg base "_law_det" 3 ["_law_points"] (sp__law_det)
theorem ok__law_det (bl : Bl mg) (c__law_turn : C__law_turn P w K mg base) (c__law_gap : C__law_gap P w K mg base) (F : FnP K "_law_det" s__law_det [] f fd) : FnOk P w K mg base CX0 3 f fd ["_law_points"] (sp__law_det) := by
  refine okG F sc__law_det (fun i => by rcases i with ⟨b, i | i⟩ <;> rfl) (by decide) (fun cdv A outer s H E hr i hp => ?_)
  obtain ⟨b, i⟩ := i
  cases b
  rotate_left
  · refine ⟨_, (pss_one (ps_ret (pcall c__law_turn (hr.mono (by decide)) (by rfl) (pa_cons (pe_lc (own := [("_law_p", 1)]) (tt := tYes) rfl sc__law_det.nd (pi_list (pe_slice sl_list (pv 0) (po_some pe_int) po_none)) (blkOk_by (N := N__law_det) (sc := defScope s__law_det) (by decide +kernel)) (fun _ _ _ _ _ => (pg_name (i := 1) sc__law_det.nd rfl (.inl rfl))) (fun _ _ _ _ _ => pts_nil) (fun _ _ _ _ _ => (pcall c__law_gap (hr.mono (by decide)) (by rfl) (pa_cons (pe_ix (r := rIxL K) ix_list (pv 0) pe_int (fun _ _ => rfl)) (pa_cons (pv 1) pa_nil))))) pa_nil)))), fun C rt hC q => ?_⟩
    rcases i with ⟨p, q0, r⟩ | ⟨p, q0, r, t⟩
    · obtain ⟨hp, hq, hr'⟩ := hp
      exact w_re ((ev_call (Sum.inl (gap2 p q0, gap2 p r)) (ea_cons (EvN.ev (en_lc2 (ei_list (EvN.ev (en_slL (ev_var rfl) (eo_some ev_int) eo_none))) (by decide) rfl (ev_call (Sum.inl (p, q0)) (ea_cons (ev_ixL (ev_var rfl) ev_int rfl) (ea_cons (ev_var rfl) ea_nil)) ⟨hp, hq⟩) (ev_call (Sum.inl (p, r)) (ea_cons (ev_ixL (ev_var rfl) ev_int rfl) (ea_cons (ev_var rfl) ea_nil)) ⟨hp, hr'⟩))) ea_nil) ⟨gap2_B hp hq, gap2_B hp hr'⟩)) q (fun _ h => nomatch h)
    · obtain ⟨hp, hq, hr', ht⟩ := hp
      exact w_re ((ev_call (Sum.inr (gap p q0, gap p r, gap p t)) (ea_cons (EvN.ev (en_lc3 (ei_list (EvN.ev (en_slL (ev_var rfl) (eo_some ev_int) eo_none))) (by decide) rfl (ev_call (Sum.inr (p, q0)) (ea_cons (ev_ixL (ev_var rfl) ev_int rfl) (ea_cons (ev_var rfl) ea_nil)) ⟨hp, hq⟩) (ev_call (Sum.inr (p, r)) (ea_cons (ev_ixL (ev_var rfl) ev_int rfl) (ea_cons (ev_var rfl) ea_nil)) ⟨hp, hr'⟩) (ev_call (Sum.inr (p, t)) (ea_cons (ev_ixL (ev_var rfl) ev_int rfl) (ea_cons (ev_var rfl) ea_nil)) ⟨hp, ht⟩))) ea_nil) ⟨gap_B hp hq, gap_B hp hr', gap_B hp ht⟩)) q (fun _ h => nomatch h)
  · refine ⟨_, (pss_one (ps_ret (pcall c__law_turn (hr.mono (by decide)) (by rfl) (pa_cons (pe_lc (own := [("_law_p", 1)]) (tt := tYes) rfl sc__law_det.nd (pi_tup (pe_slice sl_tupA (pv 0) (po_some pe_int) po_none)) (blkOk_by (N := N__law_det) (sc := defScope s__law_det) (by decide +kernel)) (fun _ _ _ _ _ => (pg_name (i := 1) sc__law_det.nd rfl (.inl rfl))) (fun _ _ _ _ _ => pts_nil) (fun _ _ _ _ _ => (pcall c__law_gap (hr.mono (by decide)) (by rfl) (pa_cons (pe_ix (r := rIxT K) ix_tup (pv 0) pe_int (fun _ _ => rfl)) (pa_cons (pv 1) pa_nil))))) pa_nil)))), fun C rt hC q => ?_⟩
    rcases i with ⟨p, q0, r⟩ | ⟨p, q0, r, t⟩
    · obtain ⟨hp, hq, hr'⟩ := hp
      exact w_re ((ev_call (Sum.inl (gap2 p q0, gap2 p r)) (ea_cons (EvN.ev (en_lc2 (ei_tup (ev_slT (ev_var rfl) (eo_some ev_int) eo_none)) (by decide) rfl (ev_call (Sum.inl (p, q0)) (ea_cons (ev_ixT (ev_var rfl) ev_int rfl) (ea_cons (ev_var rfl) ea_nil)) ⟨hp, hq⟩) (ev_call (Sum.inl (p, r)) (ea_cons (ev_ixT (ev_var rfl) ev_int rfl) (ea_cons (ev_var rfl) ea_nil)) ⟨hp, hr'⟩))) ea_nil) ⟨gap2_B hp hq, gap2_B hp hr'⟩)) q (fun _ h => nomatch h)
    · obtain ⟨hp, hq, hr', ht⟩ := hp
      exact w_re ((ev_call (Sum.inr (gap p q0, gap p r, gap p t)) (ea_cons (EvN.ev (en_lc3 (ei_tup (ev_slT (ev_var rfl) (eo_some ev_int) eo_none)) (by decide) rfl (ev_call (Sum.inr (p, q0)) (ea_cons (ev_ixT (ev_var rfl) ev_int rfl) (ea_cons (ev_var rfl) ea_nil)) ⟨hp, hq⟩) (ev_call (Sum.inr (p, r)) (ea_cons (ev_ixT (ev_var rfl) ev_int rfl) (ea_cons (ev_var rfl) ea_nil)) ⟨hp, hr'⟩) (ev_call (Sum.inr (p, t)) (ea_cons (ev_ixT (ev_var rfl) ev_int rfl) (ea_cons (ev_var rfl) ea_nil)) ⟨hp, ht⟩))) ea_nil) ⟨gap_B hp hq, gap_B hp hr', gap_B hp ht⟩)) q (fun _ h => nomatch h)
end
end Sc
set_option Elab.async false
set_option linter.all false
set_option maxRecDepth 100000
set_option maxHeartbeats 1000000
namespace Sc
open PySem PySem.Spec PyProof.Rows L2 TL Ma
/-! shaped data -/
def Sh (n : Nat) (d : PyData) : Prop := d.canLay0 = true ∧ d.depth ≤ n
theorem sh_tuple {α : Type} {n : Nat} {d : α → PyData} : ∀ {xs : List α}, (∀ x ∈ xs, Sh n (d x)) → Sh (n + 1) (.tuple (xs.map d)) := fun {xs} h => by
  have key : PyData.canLayAll0 (xs.map d) = true ∧ PyData.depthAll (xs.map d) ≤ n := by
    induction xs with
    | nil => exact ⟨by simp [PyData.canLayAll0], by simp [PyData.depthAll]⟩
    | cons x xs ih =>
      obtain ⟨h1, h2⟩ := h x (List.mem_cons_self ..)
      obtain ⟨h3, h4⟩ := ih fun y hy => h y (List.mem_cons_of_mem _ hy)
      refine ⟨by rw [List.map_cons, PyData.canLayAll0, h1, h3]; rfl, ?_⟩
      rw [List.map_cons, PyData.depthAll]
      omega
  exact ⟨by rw [PyData.canLay0]; exact key.1, by rw [PyData.depth]; omega⟩
abbrev dR (r : List Int) : PyData := .tuple (r.map .int)
abbrev dRR (r : List (List Int)) : PyData := .tuple (r.map dR)
abbrev dRRR (r : List (List (List Int))) : PyData := .tuple (r.map dRR)
theorem sh_R (r : List Int) : Sh 1 (dR r) := sh_tuple fun x _ => ⟨by simp [PyData.canLay0], by simp [PyData.depth]⟩
theorem sh_RR (r : List (List Int)) : Sh 2 (dRR r) := sh_tuple fun x _ => sh_R x
theorem sh_RRR (r : List (List (List Int))) : Sh 3 (dRRR r) := sh_tuple fun x _ => sh_RR x
theorem Sh.shaped {n : Nat} {d : PyData} (h : Sh n d) (hn : n ≤ 64) : SeqAt.shaped d = true := by
  unfold SeqAt.shaped
  rw [h.1, Bool.true_and]
  exact decide_eq_true (Nat.le_trans h.2 hn)
theorem Sh.self {n : Nat} {d : PyData} (h : Sh n d) : PyData.eqv d d = true := SeqAt.eqv_refl d h.1
section
variable {P : Program} {w : World} {K : PySem.W.Frag} {mg : Str → Option Value} {base : Heap} {f : Addr} {fd : FuncData}
abbrev s__law_simplex : Stmt := top 52
abbrev N__law_simplex : List Str := ["_law_points", "_law_told"]
theorem sc__law_simplex : FnScope N__law_simplex ["_law_points"] (defScope s__law_simplex) := ⟨rfl, rfl, rfl, by decide +kernel, rfl, by decide +kernel, by decide +kernel⟩
def sp__law_simplex : Sp := spG (ι := Bool × (List P3 ⊕ List P4)) (fun i => match i.2 with | .inl t => [⟨_, RLTT i.1, t.map P3.l⟩] | .inr t => [⟨_, RLTT i.1, t.map P4.l⟩])
  (fun i => match i.2 with | .inl t => t.length = 3 ∧ ∀ p ∈ t, p.Z | .inr t => t.length = 4 ∧ ∀ p ∈ t, p.Z)
  (fun i => match i.2 with | .inl t => ⟨_, RT (RT RI), (simpT t).map P3.l⟩ | .inr t => ⟨_, RT (RT RI), (simpP t).map P4.l⟩)
abbrev C__law_simplex (P : Program) (w : World) (K : PySem.W.Frag) (mg : Str → Option Value) (base : Heap) : Prop := Cal P w K mg base "_law_simplex" 4 ["_law_points"] (sp__law_simplex)
theorem pl_ne3 (ps : List P3) : ∀ r ∈ ps.map P3.l, r ≠ [] := fun r hr => by
  obtain ⟨p, _, rfl⟩ := List.mem_map.mp hr
  exact fun h => by cases h
theorem ok__law_simplex (bl : Bl mg) (c__law_det : C__law_det P w K mg base) (F : FnP K "_law_simplex" s__law_simplex [] f fd) : FnOk P w K mg base CX0 4 f fd ["_law_points"] (sp__law_simplex) := by
  refine okG F sc__law_simplex (fun i => by rcases i with ⟨b, i | i⟩ <;> rfl) (by decide) (fun cdv A outer s H E hr i hp => ?_)
  obtain ⟨b, i⟩ := i
  cases b
  rotate_left
  · refine ⟨_, (pss_cons (ps_set (i := 1) sc__law_simplex.nd rfl (.inl rfl) (pe_callB (cr_sortedX hr.units) (by rfl) bl.sorted_ (by first | rfl | decide +kernel) (pa_cons (pv 0) pa_nil)))
    (pss_cons (ps_if (pt_cmpR op_lt (pcall c__law_det (hr.mono (by decide)) (by rfl) (pa_cons (pv 1) pa_nil)) pe_int (nomark _)) (pss_one (ps_set (i := 1) sc__law_simplex.nd rfl (.inl rfl) (pe_op op_cat (pe_slice sl_list (pv 1) po_none (po_some (pe_un un_neg pe_int))) (pe_lst (pa_cons (pe_ix ix_list (pv 1) (pe_un un_neg pe_int) (fun _ _ => rfl)) (pa_cons (pe_ix ix_list (pv 1) (pe_un un_neg pe_int) (fun _ _ => rfl)) pa_nil)))))) pss_nil)
    (pss_one (ps_ret (pe_callTy call_tuple_of (by rfl) bl.tuple_ (by first | rfl | decide +kernel) (pa_cons (pv 1) pa_nil)))))), fun C rt hC q => ?_⟩
    rcases i with ps | ps
    · obtain ⟨hl, hZ⟩ := hp
      obtain ⟨p, q0, r, es⟩ := srt3 hl
      have hpm := srtT_perm ps
      rw [es] at hpm
      have hp : p.Z := hZ p (hpm.mem_iff.mp (by simp))
      have hq : q0.Z := hZ q0 (hpm.mem_iff.mp (by simp))
      have hr' : r.Z := hZ r (hpm.mem_iff.mp (by simp))
      have en : simpT ps = if det2 p q0 r < 0 then [p, r, q0] else [p, q0, r] := by unfold simpT; rw [es]
      have e1 : srt (ps.map P3.l) = [p.l, q0.l, r.l] := by rw [srtT_map, es]; rfl
      have l0 : (ps.map P3.l).length ≤ 1000 := by rw [List.length_map, hl]; decide
      have q : Rt C rt (RT (RT RI)) ((simpT ps).map P3.l) [] := q
      rw [en] at q
      refine w_seq (w_setE (EvN.ev (en_sorted (ev_S_of_L (ev_var rfl)) (pl_ne3 ps) l0)) e1 ?_)
      refine w_seq (w_if (et_test (ev_cmp (ev_call (true, Sum.inl (p, q0, r)) (ea_cons (ev_var rfl) ea_nil) ⟨hp, hq, hr'⟩) ev_int)) (fun h => ?_) fun h => ?_)
      · have h : det2 p q0 r < 0 := of_decide_eq_true h
        rw [if_pos h] at q
        refine w_set (EvN.ev (en_cat (EvN.ev (en_slL (ev_var rfl) eo_none (eo_some (ev_neg ev_int)))) (EvN.ev (en_lst (ea_scons (ev_ixL (ev_var rfl) (ev_neg ev_int) rfl) (ea_scons (ev_ixL (ev_var rfl) (ev_neg ev_int) rfl) ea_snil)) (le_by rfl))) (le_by rfl))) ?_
        exact w_re (ev_tuple (ev_S_of_L (ev_var rfl))) q (fun _ h => nomatch h)
      · have h : ¬ det2 p q0 r < 0 := of_decide_eq_false h
        rw [if_neg h] at q
        exact w_nx (w_re (ev_tuple (ev_S_of_L (ev_var rfl))) q (fun _ h => nomatch h))
    · obtain ⟨hl, hZ⟩ := hp
      obtain ⟨p, q0, r, t, es⟩ := srt4 hl
      have hpm := srtP_perm ps
      rw [es] at hpm
      have hp : p.Z := hZ p (hpm.mem_iff.mp (by simp))
      have hq : q0.Z := hZ q0 (hpm.mem_iff.mp (by simp))
      have hr' : r.Z := hZ r (hpm.mem_iff.mp (by simp))
      have ht : t.Z := hZ t (hpm.mem_iff.mp (by simp))
      have en : simpP ps = if det p q0 r t < 0 then [p, q0, t, r] else [p, q0, r, t] := by unfold simpP; rw [es]
      have e1 : srt (ps.map P4.l) = [p.l, q0.l, r.l, t.l] := by rw [srtP_map, es]; rfl
      have l0 : (ps.map P4.l).length ≤ 1000 := by rw [List.length_map, hl]; decide
      have q : Rt C rt (RT (RT RI)) ((simpP ps).map P4.l) [] := q
      rw [en] at q
      refine w_seq (w_setE (EvN.ev (en_sorted (ev_S_of_L (ev_var rfl)) (pl_ne ps) l0)) e1 ?_)
      refine w_seq (w_if (et_test (ev_cmp (ev_call (true, Sum.inr (p, q0, r, t)) (ea_cons (ev_var rfl) ea_nil) ⟨hp, hq, hr', ht⟩) ev_int)) (fun h => ?_) fun h => ?_)
      · have h : det p q0 r t < 0 := of_decide_eq_true h
        rw [if_pos h] at q
        refine w_set (EvN.ev (en_cat (EvN.ev (en_slL (ev_var rfl) eo_none (eo_some (ev_neg ev_int)))) (EvN.ev (en_lst (ea_scons (ev_ixL (ev_var rfl) (ev_neg ev_int) rfl) (ea_scons (ev_ixL (ev_var rfl) (ev_neg ev_int) rfl) ea_snil)) (le_by rfl))) (le_by rfl))) ?_
        exact w_re (ev_tuple (ev_S_of_L (ev_var rfl))) q (fun _ h => nomatch h)
      · have h : ¬ det p q0 r t < 0 := of_decide_eq_false h
        rw [if_neg h] at q
        exact w_nx (w_re (ev_tuple (ev_S_of_L (ev_var rfl))) q (fun _ h => nomatch h))
  · refine ⟨_, (pss_cons (ps_set (i := 1) sc__law_simplex.nd rfl (.inl rfl) (pe_callB (cr_sortedX hr.units) (by rfl) bl.sorted_ (by first | rfl | decide +kernel) (pa_cons (pv 0) pa_nil)))
    (pss_cons (ps_if (pt_cmpR op_lt (pcall c__law_det (hr.mono (by decide)) (by rfl) (pa_cons (pv 1) pa_nil)) pe_int (nomark _)) (pss_one (ps_set (i := 1) sc__law_simplex.nd rfl (.inl rfl) (pe_op op_cat (pe_slice sl_list (pv 1) po_none (po_some (pe_un un_neg pe_int))) (pe_lst (pa_cons (pe_ix ix_list (pv 1) (pe_un un_neg pe_int) (fun _ _ => rfl)) (pa_cons (pe_ix ix_list (pv 1) (pe_un un_neg pe_int) (fun _ _ => rfl)) pa_nil)))))) pss_nil)
    (pss_one (ps_ret (pe_callTy call_tuple_of (by rfl) bl.tuple_ (by first | rfl | decide +kernel) (pa_cons (pv 1) pa_nil)))))), fun C rt hC q => ?_⟩
    rcases i with ps | ps
    · obtain ⟨hl, hZ⟩ := hp
      obtain ⟨p, q0, r, es⟩ := srt3 hl
      have hpm := srtT_perm ps
      rw [es] at hpm
      have hp : p.Z := hZ p (hpm.mem_iff.mp (by simp))
      have hq : q0.Z := hZ q0 (hpm.mem_iff.mp (by simp))
      have hr' : r.Z := hZ r (hpm.mem_iff.mp (by simp))
      have en : simpT ps = if det2 p q0 r < 0 then [p, r, q0] else [p, q0, r] := by unfold simpT; rw [es]
      have e1 : srt (ps.map P3.l) = [p.l, q0.l, r.l] := by rw [srtT_map, es]; rfl
      have l0 : (ps.map P3.l).length ≤ 1000 := by rw [List.length_map, hl]; decide
      have q : Rt C rt (RT (RT RI)) ((simpT ps).map P3.l) [] := q
      rw [en] at q
      refine w_seq (w_setE (EvN.ev (en_sorted (ev_S_of_T (ev_var rfl)) (pl_ne3 ps) l0)) e1 ?_)
      refine w_seq (w_if (et_test (ev_cmp (ev_call (true, Sum.inl (p, q0, r)) (ea_cons (ev_var rfl) ea_nil) ⟨hp, hq, hr'⟩) ev_int)) (fun h => ?_) fun h => ?_)
      · have h : det2 p q0 r < 0 := of_decide_eq_true h
        rw [if_pos h] at q
        refine w_set (EvN.ev (en_cat (EvN.ev (en_slL (ev_var rfl) eo_none (eo_some (ev_neg ev_int)))) (EvN.ev (en_lst (ea_scons (ev_ixL (ev_var rfl) (ev_neg ev_int) rfl) (ea_scons (ev_ixL (ev_var rfl) (ev_neg ev_int) rfl) ea_snil)) (le_by rfl))) (le_by rfl))) ?_
        exact w_re (ev_tuple (ev_S_of_L (ev_var rfl))) q (fun _ h => nomatch h)
      · have h : ¬ det2 p q0 r < 0 := of_decide_eq_false h
        rw [if_neg h] at q
        exact w_nx (w_re (ev_tuple (ev_S_of_L (ev_var rfl))) q (fun _ h => nomatch h))
    · obtain ⟨hl, hZ⟩ := hp
      obtain ⟨p, q0, r, t, es⟩ := srt4 hl
      have hpm := srtP_perm ps
      rw [es] at hpm
      have hp : p.Z := hZ p (hpm.mem_iff.mp (by simp))
      have hq : q0.Z := hZ q0 (hpm.mem_iff.mp (by simp))
      have hr' : r.Z := hZ r (hpm.mem_iff.mp (by simp))
      have ht : t.Z := hZ t (hpm.mem_iff.mp (by simp))
      have en : simpP ps = if det p q0 r t < 0 then [p, q0, t, r] else [p, q0, r, t] := by unfold simpP; rw [es]
      have e1 : srt (ps.map P4.l) = [p.l, q0.l, r.l, t.l] := by rw [srtP_map, es]; rfl
      have l0 : (ps.map P4.l).length ≤ 1000 := by rw [List.length_map, hl]; decide
      have q : Rt C rt (RT (RT RI)) ((simpP ps).map P4.l) [] := q
      rw [en] at q
      refine w_seq (w_setE (EvN.ev (en_sorted (ev_S_of_T (ev_var rfl)) (pl_ne ps) l0)) e1 ?_)
      refine w_seq (w_if (et_test (ev_cmp (ev_call (true, Sum.inr (p, q0, r, t)) (ea_cons (ev_var rfl) ea_nil) ⟨hp, hq, hr', ht⟩) ev_int)) (fun h => ?_) fun h => ?_)
      · have h : det p q0 r t < 0 := of_decide_eq_true h
        rw [if_pos h] at q
        refine w_set (EvN.ev (en_cat (EvN.ev (en_slL (ev_var rfl) eo_none (eo_some (ev_neg ev_int)))) (EvN.ev (en_lst (ea_scons (ev_ixL (ev_var rfl) (ev_neg ev_int) rfl) (ea_scons (ev_ixL (ev_var rfl) (ev_neg ev_int) rfl) ea_snil)) (le_by rfl))) (le_by rfl))) ?_
        exact w_re (ev_tuple (ev_S_of_L (ev_var rfl))) q (fun _ h => nomatch h)
      · have h : ¬ det p q0 r t < 0 := of_decide_eq_false h
        rw [if_neg h] at q
        exact w_nx (w_re (ev_tuple (ev_S_of_L (ev_var rfl))) q (fun _ h => nomatch h))
abbrev s__law_gone : Stmt := top 60
abbrev N__law_gone : List Str := ["_law_points", "_law_way", "_law_far_here", "_law_p"]
theorem sc__law_gone : FnScope N__law_gone ["_law_points", "_law_way", "_law_far_here"] (defScope s__law_gone) := ⟨rfl, rfl, rfl, by decide +kernel, rfl, by decide +kernel, by decide +kernel⟩
def sp__law_gone : Sp := spG (ι := (List P3 × P3) ⊕ (List P4 × P4)) (fun | .inl i => [⟨_, RT (RT RI), i.1.map P3.l⟩, ⟨_, RI, 1⟩, ⟨_, RT RI, i.2.l⟩] | .inr i => [⟨_, RT (RT RI), i.1.map P4.l⟩, ⟨_, RI, 1⟩, ⟨_, RT RI, i.2.l⟩])
  (fun | .inl i => i.1.length = 3 ∧ i.2.Z ∧ ∀ p ∈ i.1, p.Z ∧ (add3 p i.2).Z | .inr i => i.1.length = 4 ∧ i.2.Z ∧ ∀ p ∈ i.1, p.Z ∧ (add p i.2).Z)
  (fun | .inl i => ⟨_, RT (RT RI), (simpT (i.1.map fun p => add3 p i.2)).map P3.l⟩ | .inr i => ⟨_, RT (RT RI), (simpP (i.1.map fun p => add p i.2)).map P4.l⟩)
abbrev C__law_gone (P : Program) (w : World) (K : PySem.W.Frag) (mg : Str → Option Value) (base : Heap) : Prop := Cal P w K mg base "_law_gone" 5 ["_law_points", "_law_way", "_law_far_here"] (sp__law_gone)
theorem ok__law_gone (bl : Bl mg) (c__law_simplex : C__law_simplex P w K mg base) (c__law_joined : C__law_joined P w K mg base) (F : FnP K "_law_gone" s__law_gone [] f fd) : FnOk P w K mg base CX0 5 f fd ["_law_points", "_law_way", "_law_far_here"] (sp__law_gone) := by
  refine okG F sc__law_gone (fun i => by cases i <;> rfl) (by decide) (fun cdv A outer s H E hr i hp => ⟨_, (pss_one (ps_ret (pcall c__law_simplex (hr.mono (by decide)) (by rfl) (pa_cons (pe_lc (own := [("_law_p", 3)]) (tt := tYes) rfl sc__law_gone.nd (pi_tup (pv 0)) (blkOk_by (N := N__law_gone) (sc := defScope s__law_gone) (by decide +kernel)) (fun _ _ _ _ _ => (pg_name (i := 3) sc__law_gone.nd rfl (.inl rfl))) (fun _ _ _ _ _ => pts_nil) (fun _ _ _ _ _ => (pcall c__law_joined (hr.mono (by decide)) (by rfl) (pa_cons (pv 3) (pa_cons (pv 2) (pa_cons (pv 1) pa_nil)))))) pa_nil)))), fun C rt hC q => ?_⟩)
  rcases i with ⟨ps, a⟩ | ⟨ps, a⟩
  · obtain ⟨hl, ha, hZ⟩ := hp
    have ha : a.Z := ha
    obtain ⟨p, q0, r, rfl⟩ := len3 (show ps.length = 3 from hl)
    obtain ⟨hp, hp'⟩ := hZ p (by simp)
    obtain ⟨hq, hq'⟩ := hZ q0 (by simp)
    obtain ⟨hr', hr''⟩ := hZ r (by simp)
    exact w_re (ev_call (true, Sum.inl [add3 p a, add3 q0 a, add3 r a]) (ea_cons (EvN.ev (en_lc3 (ei_tup (ev_var rfl)) (by decide) rfl (ev_call (Sum.inl (p, a)) (ea_cons (ev_var rfl) (ea_cons (ev_var rfl) (ea_cons (ev_var rfl) ea_nil))) ⟨hp, ha⟩) (ev_call (Sum.inl (q0, a)) (ea_cons (ev_var rfl) (ea_cons (ev_var rfl) (ea_cons (ev_var rfl) ea_nil))) ⟨hq, ha⟩) (ev_call (Sum.inl (r, a)) (ea_cons (ev_var rfl) (ea_cons (ev_var rfl) (ea_cons (ev_var rfl) ea_nil))) ⟨hr', ha⟩))) ea_nil) ⟨rfl, fun x hx => by
      simp only [List.mem_cons, List.not_mem_nil, or_false] at hx
      rcases hx with rfl | rfl | rfl <;> assumption⟩) q (fun _ h => nomatch h)
  · obtain ⟨hl, ha, hZ⟩ := hp
    have ha : a.Z := ha
    obtain ⟨p, q0, r, t, rfl⟩ := len4 (show ps.length = 4 from hl)
    obtain ⟨hp, hp'⟩ := hZ p (by simp)
    obtain ⟨hq, hq'⟩ := hZ q0 (by simp)
    obtain ⟨hr', hr''⟩ := hZ r (by simp)
    obtain ⟨ht, ht'⟩ := hZ t (by simp)
    exact w_re (ev_call (true, Sum.inr [add p a, add q0 a, add r a, add t a]) (ea_cons (EvN.ev (en_lc4 (ei_tup (ev_var rfl)) (by decide) rfl (ev_call (Sum.inr (p, a)) (ea_cons (ev_var rfl) (ea_cons (ev_var rfl) (ea_cons (ev_var rfl) ea_nil))) ⟨hp, ha⟩) (ev_call (Sum.inr (q0, a)) (ea_cons (ev_var rfl) (ea_cons (ev_var rfl) (ea_cons (ev_var rfl) ea_nil))) ⟨hq, ha⟩) (ev_call (Sum.inr (r, a)) (ea_cons (ev_var rfl) (ea_cons (ev_var rfl) (ea_cons (ev_var rfl) ea_nil))) ⟨hr', ha⟩) (ev_call (Sum.inr (t, a)) (ea_cons (ev_var rfl) (ea_cons (ev_var rfl) (ea_cons (ev_var rfl) ea_nil))) ⟨ht, ha⟩))) ea_nil) ⟨rfl, Z4 hp' hq' hr'' ht'⟩) q (fun _ h => nomatch h)
abbrev s__law_space_line : Stmt := top 54
abbrev N__law_space_line : List Str := ["_law_p", "_law_q"]
theorem sc__law_space_line : FnScope N__law_space_line ["_law_p", "_law_q"] (defScope s__law_space_line) := ⟨rfl, rfl, rfl, by decide +kernel, rfl, by decide +kernel, by decide +kernel⟩
def sp__law_space_line : Sp := spG (ι := P4 × P4) (fun i => S2 (RT RI) (RT RI) i.1.l i.2.l) (fun i => i.1.Z ∧ i.2.Z) (fun i => ⟨_, RT RI, line i.1 i.2⟩)
abbrev C__law_space_line (P : Program) (w : World) (K : PySem.W.Frag) (mg : Str → Option Value) (base : Heap) : Prop := Cal P w K mg base "_law_space_line" 4 ["_law_p", "_law_q"] (sp__law_space_line)
theorem ok__law_space_line (bl : Bl mg) (c__law_upward : C__law_upward P w K mg base) (c__law_gap : C__law_gap P w K mg base) (c__law_cross : C__law_cross P w K mg base) (F : FnP K "_law_space_line" s__law_space_line [] f fd) : FnOk P w K mg base CX0 4 f fd ["_law_p", "_law_q"] (sp__law_space_line) := by
  refine okG F sc__law_space_line (fun _ => rfl) (by decide) (fun cdv A outer s H E hr i hp => ⟨_, (pss_one (ps_ret (pcall c__law_upward (hr.mono (by decide)) (by rfl) (pa_cons (pe_op op_cat (pcall c__law_gap (hr.mono (by decide)) (by rfl) (pa_cons (pv 0) (pa_cons (pv 1) pa_nil))) (pcall c__law_cross (hr.mono (by decide)) (by rfl) (pa_cons (pv 0) (pa_cons (pv 1) pa_nil)))) pa_nil)))), fun C rt hC q => ?_⟩)
  obtain ⟨p, q0⟩ := i
  obtain ⟨hp, hq⟩ := hp
  have hp : p.Z := hp
  have hq : q0.Z := hq
  exact w_re (ev_call _ (ea_cons (EvN.ev (en_cat (ev_call (Sum.inr (p, q0)) (ea_cons (ev_var rfl) (ea_cons (ev_var rfl) ea_nil)) ⟨hp, hq⟩) (ev_call (Sum.inr (p, q0)) (ea_cons (ev_S_of_T (ev_var rfl)) (ea_cons (ev_S_of_T (ev_var rfl)) ea_nil)) ⟨hp, hq⟩) (le_by rfl))) ea_nil) ⟨le_by rfl, lineN_B hp hq⟩) q (fun _ h => nomatch h)
abbrev s__law_plane : Stmt := top 55
abbrev N__law_plane : List Str := ["_law_p", "_law_q", "_law_r", "_law_out", "_law_number"]
theorem sc__law_plane : FnScope N__law_plane ["_law_p", "_law_q", "_law_r"] (defScope s__law_plane) := ⟨rfl, rfl, rfl, by decide +kernel, rfl, by decide +kernel, by decide +kernel⟩
def sp__law_plane : Sp := spG (ι := P4 × P4 × P4) (fun i => [⟨_, RT RI, i.1.l⟩, ⟨_, RT RI, i.2.1.l⟩, ⟨_, RT RI, i.2.2.l⟩]) (fun i => i.1.Z ∧ i.2.1.Z ∧ i.2.2.Z) (fun i => ⟨_, RT RI, plane i.1 i.2.1 i.2.2⟩)
abbrev C__law_plane (P : Program) (w : World) (K : PySem.W.Frag) (mg : Str → Option Value) (base : Heap) : Prop := Cal P w K mg base "_law_plane" 4 ["_law_p", "_law_q", "_law_r"] (sp__law_plane)
theorem ok__law_plane (bl : Bl mg) (c__law_cross : C__law_cross P w K mg base) (c__law_upward : C__law_upward P w K mg base) (c__law_gap : C__law_gap P w K mg base) (c__law_dot : C__law_dot P w K mg base) (F : FnP K "_law_plane" s__law_plane [] f fd) : FnOk P w K mg base CX0 4 f fd ["_law_p", "_law_q", "_law_r"] (sp__law_plane) := by
  refine okG F sc__law_plane (fun _ => rfl) (by decide) (fun cdv A outer s H E hr i hp => ⟨_, (pss_cons (ps_set (i := 3) sc__law_plane.nd rfl (.inl rfl) (pcall c__law_cross (hr.mono (by decide)) (by rfl) (pa_cons (pcall c__law_gap (hr.mono (by decide)) (by rfl) (pa_cons (pv 0) (pa_cons (pv 1) pa_nil))) (pa_cons (pcall c__law_gap (hr.mono (by decide)) (by rfl) (pa_cons (pv 0) (pa_cons (pv 2) pa_nil))) pa_nil))))
    (pss_one (ps_ret (pcall c__law_upward (hr.mono (by decide)) (by rfl) (pa_cons (pe_op op_cat (pe_lc (own := [("_law_number", 4)]) (tt := tYes) rfl sc__law_plane.nd (pi_list (pv 3)) (blkOk_by (N := N__law_plane) (sc := defScope s__law_plane) (by decide +kernel)) (fun _ _ _ _ _ => (pg_name (i := 4) sc__law_plane.nd rfl (.inl rfl))) (fun _ _ _ _ _ => pts_nil) (fun _ _ _ _ _ => (pe_op op_mulX (pv 4) (pe_ix (r := rIxT K) ix_tup (pv 0) pe_int (fun _ _ => rfl))))) (pe_lst (pa_cons (pe_op op_sub pe_int (pcall c__law_dot (hr.mono (by decide)) (by rfl) (pa_cons (pv 3) (pa_cons (pv 0) pa_nil)))) pa_nil))) pa_nil))))), fun C rt hC q => ?_⟩)
  obtain ⟨p, q0, r⟩ := i
  obtain ⟨hp, hq, hr'⟩ := hp
  have hp : p.Z := hp
  have hq : q0.Z := hq
  have hr' : r.Z := hr'
  have b1 := gap_B hp hq
  have b2 := gap_B hp hr'
  have b3 := crs_B b1 b2
  have bf : ∀ {x y : Int}, Bd 1603 x → Bd 400 y → Bd 8000 (x * y) := fun h g => (h.mul g).mono (by decide)
  have e : [(crs (gap p q0) (gap p r)).x * p.w, (crs (gap p q0) (gap p r)).y * p.w, (crs (gap p q0) (gap p r)).z * p.w, 0 - dt (crs (gap p q0) (gap p r)) p.v] = planeN p q0 r := by
    unfold planeN
    rw [Int.zero_sub]
    rfl
  have e9 : canon [(crs (gap p q0) (gap p r)).x * p.w, (crs (gap p q0) (gap p r)).y * p.w, (crs (gap p q0) (gap p r)).z * p.w, 0 - dt (crs (gap p q0) (gap p r)) p.v] = plane p q0 r := by rw [e]; rfl
  obtain ⟨n, en⟩ : ∃ n, n = crs (gap p q0) (gap p r) := ⟨_, rfl⟩
  rw [← en] at e9 b3
  refine w_seq (w_setE (ev_call (Sum.inl (gap p q0, gap p r)) (ea_cons (ev_S_of_L (ev_call (Sum.inr (p, q0)) (ea_cons (ev_var rfl) (ea_cons (ev_var rfl) ea_nil)) ⟨hp, hq⟩)) (ea_cons (ev_S_of_L (ev_call (Sum.inr (p, r)) (ea_cons (ev_var rfl) (ea_cons (ev_var rfl) ea_nil)) ⟨hp, hr'⟩)) ea_nil)) ⟨b1, b2⟩) (show (crs (gap p q0) (gap p r)).l = n.l by rw [en]) ?_)
  refine w_re (Ev.to (ev_call _ (ea_cons (EvN.ev (en_cat (EvN.ev (en_lc3 (ei_list (ev_var rfl)) (by decide) rfl (ev_I (ev_var rfl) (ev_ixT (ev_var rfl) ev_int rfl) (by apply mulOk; (case h => (repeat' (first | assumption | exact Bd.lit (a := 64) rfl | exact P4.Z.x (by assumption) | exact P4.Z.y (by assumption) | exact P4.Z.z (by assumption) | exact P4.Z.w (by assumption) | exact V3.B.x (by assumption) | exact V3.B.y (by assumption) | exact V3.B.z (by assumption) | apply Bd.mul | apply Bd.add | apply Bd.sub | apply Bd.neg))); (case g => (repeat' (first | assumption | exact Bd.lit (a := 64) rfl | exact P4.Z.x (by assumption) | exact P4.Z.y (by assumption) | exact P4.Z.z (by assumption) | exact P4.Z.w (by assumption) | exact V3.B.x (by assumption) | exact V3.B.y (by assumption) | exact V3.B.z (by assumption) | apply Bd.mul | apply Bd.add | apply Bd.sub | apply Bd.neg))); (case l => decide))) (ev_I (ev_var rfl) (ev_ixT (ev_var rfl) ev_int rfl) (by apply mulOk; (case h => (repeat' (first | assumption | exact Bd.lit (a := 64) rfl | exact P4.Z.x (by assumption) | exact P4.Z.y (by assumption) | exact P4.Z.z (by assumption) | exact P4.Z.w (by assumption) | exact V3.B.x (by assumption) | exact V3.B.y (by assumption) | exact V3.B.z (by assumption) | apply Bd.mul | apply Bd.add | apply Bd.sub | apply Bd.neg))); (case g => (repeat' (first | assumption | exact Bd.lit (a := 64) rfl | exact P4.Z.x (by assumption) | exact P4.Z.y (by assumption) | exact P4.Z.z (by assumption) | exact P4.Z.w (by assumption) | exact V3.B.x (by assumption) | exact V3.B.y (by assumption) | exact V3.B.z (by assumption) | apply Bd.mul | apply Bd.add | apply Bd.sub | apply Bd.neg))); (case l => decide))) (ev_I (ev_var rfl) (ev_ixT (ev_var rfl) ev_int rfl) (by apply mulOk; (case h => (repeat' (first | assumption | exact Bd.lit (a := 64) rfl | exact P4.Z.x (by assumption) | exact P4.Z.y (by assumption) | exact P4.Z.z (by assumption) | exact P4.Z.w (by assumption) | exact V3.B.x (by assumption) | exact V3.B.y (by assumption) | exact V3.B.z (by assumption) | apply Bd.mul | apply Bd.add | apply Bd.sub | apply Bd.neg))); (case g => (repeat' (first | assumption | exact Bd.lit (a := 64) rfl | exact P4.Z.x (by assumption) | exact P4.Z.y (by assumption) | exact P4.Z.z (by assumption) | exact P4.Z.w (by assumption) | exact V3.B.x (by assumption) | exact V3.B.y (by assumption) | exact V3.B.z (by assumption) | apply Bd.mul | apply Bd.add | apply Bd.sub | apply Bd.neg))); (case l => decide))))) (EvN.ev (en_lst (ea_scons (ev_I0 ev_int (ev_call (Sum.inr (n, p)) (ea_cons (ev_var rfl) (ea_cons (ev_var rfl) ea_nil)) ⟨b3, hp⟩)) ea_snil) (le_by rfl))) (le_by rfl))) ea_nil) ⟨le_by rfl, all4 (bf b3.x hp.w) (bf b3.y hp.w) (bf b3.z hp.w) ?_⟩) e9) q (fun _ h => nomatch h)
  rw [Int.zero_sub]
  exact ((((b3.x.mul hp.x).add (b3.y.mul hp.y)).add (b3.z.mul hp.z)).neg).mono (by decide)
abbrev s__law_shuts : Stmt := top 56
abbrev N__law_shuts : List Str := ["_law_points", "_law_p", "_law_q", "_law_r", "_law_s"]
theorem sc__law_shuts : FnScope N__law_shuts ["_law_points"] (defScope s__law_shuts) := ⟨rfl, rfl, rfl, by decide +kernel, rfl, by decide +kernel, by decide +kernel⟩
def sp__law_shuts : Sp := spG (ι := P4 × P4 × P4 × P4) (fun i => [⟨_, RT (RT RI), [i.1.l, i.2.1.l, i.2.2.1.l, i.2.2.2.l]⟩]) (fun _ => True)
  (fun i => ⟨_, RL (RT (RT RI)), [[i.2.1.l, i.2.2.1.l, i.2.2.2.l], [i.1.l, i.2.2.2.l, i.2.2.1.l], [i.1.l, i.2.1.l, i.2.2.2.l], [i.1.l, i.2.2.1.l, i.2.1.l]]⟩)
abbrev C__law_shuts (P : Program) (w : World) (K : PySem.W.Frag) (mg : Str → Option Value) (base : Heap) : Prop := Cal P w K mg base "_law_shuts" 1 ["_law_points"] (sp__law_shuts)
theorem ok__law_shuts (bl : Bl mg) (F : FnP K "_law_shuts" s__law_shuts [] f fd) : FnOk P w K mg base CX0 1 f fd ["_law_points"] (sp__law_shuts) := by
  refine okG F sc__law_shuts (fun _ => rfl) (by decide) (fun cdv A outer s H E hr i hp => ⟨_, (pss_cons (ps_asg (pv 0) (pg_tup (by rfl) (pgs_cons (pg_name (i := 1) sc__law_shuts.nd rfl (.inl rfl)) (pgs_cons (pg_name (i := 2) sc__law_shuts.nd rfl (.inl rfl)) (pgs_cons (pg_name (i := 3) sc__law_shuts.nd rfl (.inl rfl)) (pgs_cons (pg_name (i := 4) sc__law_shuts.nd rfl (.inl rfl)) pgs_nil))))))
    (pss_one (ps_ret (pe_lst (pa_cons (pe_tup (pa_cons (pv 2) (pa_cons (pv 3) (pa_cons (pv 4) pa_nil)))) (pa_cons (pe_tup (pa_cons (pv 1) (pa_cons (pv 4) (pa_cons (pv 3) pa_nil)))) (pa_cons (pe_tup (pa_cons (pv 1) (pa_cons (pv 2) (pa_cons (pv 4) pa_nil)))) (pa_cons (pe_tup (pa_cons (pv 1) (pa_cons (pv 3) (pa_cons (pv 2) pa_nil)))) pa_nil)))))))), fun C rt hC q => ?_⟩)
  obtain ⟨p, q1, r, t⟩ := i
  refine w_seq (w_unT (js := [1, 2, 3, 4]) (ev_var rfl) rfl (js_by rfl) ?_)
  exact w_re ((EvN.ev (en_lst (ea_scons (ev_tup (ea_scons (ev_var rfl) (ea_scons (ev_var rfl) (ea_scons (ev_var rfl) ea_snil))) (le_by rfl)) (ea_scons (ev_tup (ea_scons (ev_var rfl) (ea_scons (ev_var rfl) (ea_scons (ev_var rfl) ea_snil))) (le_by rfl)) (ea_scons (ev_tup (ea_scons (ev_var rfl) (ea_scons (ev_var rfl) (ea_scons (ev_var rfl) ea_snil))) (le_by rfl)) (ea_scons (ev_tup (ea_scons (ev_var rfl) (ea_scons (ev_var rfl) (ea_scons (ev_var rfl) ea_snil))) (le_by rfl)) ea_snil)))) (le_by rfl)))) q (fun _ h => nomatch h)
abbrev s__law_raised : Stmt := top 72
abbrev N__law_raised : List Str := ["_law_p"]
theorem sc__law_raised : FnScope N__law_raised ["_law_p"] (defScope s__law_raised) := ⟨rfl, rfl, rfl, by decide +kernel, rfl, by decide +kernel, by decide +kernel⟩
def sp__law_raised : Sp := spG (ι := P3) (fun i => [⟨_, RT RI, i.l⟩]) (fun _ => True) (fun i => ⟨_, RT RI, i.up.l⟩)
abbrev C__law_raised (P : Program) (w : World) (K : PySem.W.Frag) (mg : Str → Option Value) (base : Heap) : Prop := Cal P w K mg base "_law_raised" 1 ["_law_p"] (sp__law_raised)
theorem ok__law_raised (bl : Bl mg) (F : FnP K "_law_raised" s__law_raised [] f fd) : FnOk P w K mg base CX0 1 f fd ["_law_p"] (sp__law_raised) := by
  refine okG F sc__law_raised (fun _ => rfl) (by decide) (fun cdv A outer s H E hr i hp => ⟨_, (pss_one (ps_ret (pe_tup (pa_cons (pe_ix ix_tup (pv 0) pe_int (fun _ _ => rfl)) (pa_cons (pe_ix ix_tup (pv 0) pe_int (fun _ _ => rfl)) (pa_cons pe_int (pa_cons (pe_ix ix_tup (pv 0) pe_int (fun _ _ => rfl)) pa_nil))))))), fun C rt hC q => ?_⟩)
  exact w_re ((ev_tup (ea_scons (ev_ixT (ev_var rfl) ev_int rfl) (ea_scons (ev_ixT (ev_var rfl) ev_int rfl) (ea_scons ev_int (ea_scons (ev_ixT (ev_var rfl) ev_int rfl) ea_snil)))) (le_by rfl))) q (fun _ h => nomatch h)
end
end Sc
set_option Elab.async false
set_option linter.all false
set_option maxRecDepth 10000
/-! the lines of a simplex, kept by pairs of corners -/
namespace Ma
open TL
def rowP : List Int → P4
  | [a, b, c, d] => ⟨a, b, c, d⟩
  | _ => ⟨0, 0, 0, 0⟩
theorem rowP_l (p : P4) : rowP p.l = p := rfl
def keyF : Key → List Int
  | [a, b] => line (rowP a) (rowP b)
  | _ => []
def putF (d : List (Key × List Int)) (k : Key) : List (Key × List Int) := putK d k (keyF k)
theorem putsF : ∀ (ks : List Key) (d : List (Key × List Int)), (∀ k x, lookK d k = some x → x = keyF k) → ∀ k, k ∈ ks ∨ (lookK d k).isSome → lookK (ks.foldl putF d) k = some (keyF k)
  | [], d, h, k, hk => by
    rcases hk with hk | hk
    · cases hk
    · obtain ⟨x, hx⟩ := Option.isSome_iff_exists.mp hk
      show lookK d k = _
      rw [hx, h k x hx]
  | k0 :: ks, d, h, k, hk => by
    refine putsF ks (putF d k0) (fun k' x e => ?_) k ?_
    · unfold putF at e
      rw [lookK_put] at e
      split at e
      · next z => rw [z]; exact (Option.some.inj e).symm
      · exact h _ _ e
    · by_cases e : k = k0
      · refine .inr ?_
        unfold putF
        rw [lookK_put, if_pos e]
        rfl
      · rcases hk with hk | hk
        · rcases List.mem_cons.mp hk with hk | hk
          · exact absurd hk e
          · exact .inl hk
        · refine .inr ?_
          unfold putF
          rw [lookK_put, if_neg e]
          exact hk
/-- both ways round -/
def put2 (d : List (Key × List Int)) (x y : P4) : List (Key × List Int) := putK (putK d [x.l, y.l] (line x y)) [y.l, x.l] (line x y)
theorem put2_eq (d : List (Key × List Int)) (x y : P4) : put2 d x y = putF (putF d [x.l, y.l]) [y.l, x.l] := by
  unfold put2 putF
  show putK (putK d _ (line x y)) _ (line x y) = putK (putK d _ (line (rowP x.l) (rowP y.l))) _ (line (rowP y.l) (rowP x.l))
  rw [rowP_l, rowP_l, line_swap x y]
theorem put2_len (d : List (Key × List Int)) (x y : P4) : (put2 d x y).length ≤ d.length + 2 := by
  unfold put2
  have h1 := put_len (kvs := d) (k := [x.l, y.l]) (x := line x y)
  have h2 := put_len (kvs := putK d [x.l, y.l] (line x y)) (k := [y.l, x.l]) (x := line x y)
  omega
/-- the inner turns, the outer turns -/
def inL (ps : List P4) (d : List (Key × List Int)) (k : Nat) : Nat → List (Key × List Int)
  | 0 => d
  | m + 1 => put2 (inL ps d k m) (ps.getD m ⟨0, 0, 0, 0⟩) (ps.getD k ⟨0, 0, 0, 0⟩)
def outL (ps : List P4) : Nat → List (Key × List Int)
  | 0 => []
  | k + 1 => inL ps (outL ps k) k k
theorem inL_len (ps : List P4) (d : List (Key × List Int)) (k : Nat) : ∀ m, (inL ps d k m).length ≤ d.length + 2 * m
  | 0 => Nat.le_refl _
  | m + 1 => by
    have h1 := inL_len ps d k m
    have h2 := put2_len (inL ps d k m) (ps.getD m ⟨0, 0, 0, 0⟩) (ps.getD k ⟨0, 0, 0, 0⟩)
    show (put2 _ _ _).length ≤ _
    omega
theorem outL_len (ps : List P4) : ∀ k, (outL ps k).length ≤ 2 * (k * k)
  | 0 => Nat.le_refl _
  | k + 1 => by
    have h1 := outL_len ps k
    have h2 := inL_len ps (outL ps k) k k
    show (inL ps (outL ps k) k k).length ≤ _
    have : (k + 1) * (k + 1) = k * k + k + k + 1 := by rw [Nat.add_mul, Nat.mul_add]; omega
    omega
def keys12 (p q r s : P4) : List Key := [[p.l, q.l], [q.l, p.l], [p.l, r.l], [r.l, p.l], [q.l, r.l], [r.l, q.l], [p.l, s.l], [s.l, p.l], [q.l, s.l], [s.l, q.l], [r.l, s.l], [s.l, r.l]]
theorem outL_keys (p q r s : P4) : outL [p, q, r, s] 4 = (keys12 p q r s).foldl putF [] := by
  simp only [outL, inL, List.getD_cons_zero, List.getD_cons_succ, put2_eq, keys12, List.foldl_cons, List.foldl_nil]
theorem outL_look (p q r s : P4) {x y : P4} (h : ([x.l, y.l] : Key) ∈ keys12 p q r s) : lookK (outL [p, q, r, s] 4) [x.l, y.l] = some (line x y) := by
  rw [outL_keys]
  exact putsF (keys12 p q r s) [] (fun k x e => by cases e) [x.l, y.l] (.inl h)
def pairs12 (p q r s : P4) : List (P4 × P4) := [(p, q), (q, p), (p, r), (r, p), (q, r), (r, q), (p, s), (s, p), (q, s), (s, q), (r, s), (s, r)]
theorem keys_pairs {p q r s x y : P4} (h : (x, y) ∈ pairs12 p q r s) : ([x.l, y.l] : Key) ∈ keys12 p q r s := by
  have : keys12 p q r s = (pairs12 p q r s).map fun t => [t.1.l, t.2.l] := rfl
  rw [this]
  exact List.mem_map.mpr ⟨(x, y), h, rfl⟩
def shutsP : List P4 → List (P4 × P4 × P4)
  | [p, q, r, s] => [(q, r, s), (p, s, r), (p, q, s), (p, r, q)]
  | _ => []
def roundP (t : P4 × P4 × P4) : List (P4 × P4) := [(t.2.2, t.1), (t.1, t.2.1), (t.2.1, t.2.2)]
theorem shuts_keys (p q r s : P4) : ∀ t ∈ shutsP [p, q, r, s], ∀ u ∈ roundP t, ([u.1.l, u.2.l] : Key) ∈ keys12 p q r s := fun t ht u hu => by
  unfold shutsP at ht
  simp only [List.mem_cons, List.not_mem_nil, or_false] at ht
  rcases ht with rfl | rfl | rfl | rfl <;>
  · unfold roundP at hu
    simp only [List.mem_cons, List.not_mem_nil, or_false] at hu
    rcases hu with rfl | rfl | rfl <;> (refine keys_pairs ?_; unfold pairs12; simp only [List.mem_cons, true_or, or_true])
theorem opsN_shuts (n : Int) (p q r s : P4) : opsN n [p, q, r, s] = (shutsP [p, q, r, s]).flatMap fun t => opsV n t.1 t.2.1 t.2.2 := by
  show _ = opsV n q r s ++ (opsV n p s r ++ (opsV n p q s ++ (opsV n p r q ++ [])))
  rw [List.append_nil]
  rfl
theorem opsV_round (n : Int) (t : P4 × P4 × P4) : opsV n t.1 t.2.1 t.2.2 = (roundP t).flatMap fun u => opsS n (plane t.1 t.2.1 t.2.2) u.1 u.2 := by
  show _ = opsS n _ t.2.2 t.1 ++ (opsS n _ t.1 t.2.1 ++ (opsS n _ t.2.1 t.2.2 ++ []))
  rw [List.append_nil]
  rfl
end Ma
set_option Elab.async false
set_option linter.all false
set_option maxRecDepth 100000
set_option maxHeartbeats 1000000
namespace Sc
open PySem PySem.Spec PyProof.Rows L2 TL Ma
theorem shuts_Z {p q r s : P4} (hp : p.Z) (hq : q.Z) (hr : r.Z) (hs : s.Z) : ∀ t ∈ shutsP [p, q, r, s], t.1.Z ∧ t.2.1.Z ∧ t.2.2.Z := fun t ht => by
  unfold shutsP at ht
  simp only [List.mem_cons, List.not_mem_nil, or_false] at ht
  rcases ht with rfl | rfl | rfl | rfl <;> exact ⟨by assumption, by assumption, by assumption⟩
theorem sum_map_const {α : Type} (f : α → Nat) (c : Nat) (h : ∀ x, f x = c) (l : List α) : (l.map f).sum = c * l.length := by
  induction l with
  | nil => simp
  | cons x l ih => rw [List.map_cons, List.sum_cons, ih, h, List.length_cons, Nat.mul_add]; omega
section
variable {P : Program} {w : World} {K : PySem.W.Frag} {mg : Str → Option Value} {base : Heap} {f : Addr} {fd : FuncData}
abbrev s__law_put : Stmt := top 57
abbrev N__law_put : List Str := ["_law_table", "_law_key", "_law_number"]
theorem sc__law_put : FnScope N__law_put ["_law_table", "_law_key", "_law_number"] (defScope s__law_put) := ⟨rfl, rfl, rfl, by decide +kernel, rfl, by decide +kernel, by decide +kernel⟩
def sp__law_put (P : Program) (w : World) : Sp := spM (ι := List (KK × Int) × KK × Int) (fun i a => [⟨_, RA, a⟩, ⟨_, RK, i.2.1⟩, ⟨_, RI, i.2.2⟩]) (fun i => .dic (dicO P w) RI i.1) (fun i => i.1.length ≤ 1000) (fun _ => ⟨_, RU, ()⟩) (fun i => .dic (dicO P w) RI (putSum i.1 i.2.1 i.2.2))
abbrev C__law_put (P : Program) (w : World) (K : PySem.W.Frag) (mg : Str → Option Value) (base : Heap) : Prop := Cal P w K mg base "_law_put" 1 ["_law_table", "_law_key", "_law_number"] (sp__law_put P w)
theorem ok__law_put (bl : Bl mg) (F : FnP K "_law_put" s__law_put [] f fd) : FnOk P w K mg base CX0 1 f fd ["_law_table", "_law_key", "_law_number"] (sp__law_put P w) := by
  refine okM F sc__law_put (fun _ _ => rfl) (by decide) (fun cdv A outer s H E hr i hp => ⟨_, (pss_one (ps_asg (pe_op op_add (pe_dicGet2 hr.units (pv 0) (pv 1) pe_int ⟨rfl, rfl, rfl, rfl⟩) (pv 2)) (pg_sub (pv 0) (pv 1) (set_dic hr.units)))), fun a C rt hC q => ?_⟩)
  obtain ⟨kvs, k, n⟩ := i
  exact w_dicSet (j := 0) (ev_I0 (ev_dicGet (ev_var rfl) (ev_var rfl) ev_int (List.mem_cons_self ..)) (ev_var rfl)) (ev_var rfl) (ev_var rfl) rfl hp (w_end q fun p hp => hp)
abbrev s__law_mark : Stmt := top 58
abbrev N__law_mark : List Str := ["_law_table", "_law_points", "_law_number", "_law_k", "_law_p", "_law_q", "_law_line", "_law_lines", "_law_m", "_law_shut", "_law_flat"]
theorem sc__law_mark : FnScope N__law_mark ["_law_table", "_law_points", "_law_number"] (defScope s__law_mark) := ⟨rfl, rfl, rfl, by decide +kernel, rfl, by decide +kernel, by decide +kernel⟩
def sp__law_mark (P : Program) (w : World) : Sp := spM (ι := List (KK × Int) × List P4 × Int) (fun i a => [⟨_, RA, a⟩, ⟨_, RT (RT RI), i.2.1.map P4.l⟩, ⟨_, RI, i.2.2⟩]) (fun i => .dic (dicO P w) RI i.1)
  (fun i => i.2.1.length = 4 ∧ (∀ p ∈ i.2.1, p.Z) ∧ i.1.length ≤ 900) (fun _ => ⟨_, RU, ()⟩) (fun i => .dic (dicO P w) RI (doSum i.1 (opsN i.2.2 i.2.1)))
abbrev C__law_mark (P : Program) (w : World) (K : PySem.W.Frag) (mg : Str → Option Value) (base : Heap) : Prop := Cal P w K mg base "_law_mark" 5 ["_law_table", "_law_points", "_law_number"] (sp__law_mark P w)
theorem ok__law_mark (bl : Bl mg) (c__law_shuts : C__law_shuts P w K mg base) (c__law_plane : C__law_plane P w K mg base) (c__law_put : C__law_put P w K mg base) (c__law_space_line : C__law_space_line P w K mg base) (F : FnP K "_law_mark" s__law_mark [] f fd) : FnOk P w K mg base CX0 5 f fd ["_law_table", "_law_points", "_law_number"] (sp__law_mark P w) := by
  refine okM F sc__law_mark (fun _ _ => rfl) (by decide) (fun cdv A outer s H E hr i hp => ⟨_, (pss_cons (ps_if (pt_cmpR op_eq (pe_callB call_len_seq (by rfl) bl.len_ (by first | rfl | decide +kernel) (pa_cons (pv 1) pa_nil)) pe_int (nomark _)) (pss_cons (ps_for PassesOwn.never rfl (pi_range1 (by rfl) bl.range_ (pa_cons pe_int pa_nil)) (pg_name (i := 3) sc__law_mark.nd rfl (.inl rfl)) (pss_cons (ps_set (i := 4) sc__law_mark.nd rfl (.inl rfl) (pe_ix ix_tup (pv 1) (pe_op op_sub (pv 3) pe_int) (fun _ _ => rfl)))
    (pss_cons (ps_set (i := 5) sc__law_mark.nd rfl (.inl rfl) (pe_ix ix_tup (pv 1) (pv 3) (fun _ _ => rfl)))
    (pss_cons ps_never
    (pss_cons (ps_expr (pcall c__law_put (hr.mono (by decide)) (by rfl) (pa_cons (pv 0) (pa_cons (pe_tup (pa_cons (pv 6) (pa_cons (pv 4) pa_nil))) (pa_cons (pv 2) pa_nil)))))
    (pss_one (ps_expr (pcall c__law_put (hr.mono (by decide)) (by rfl) (pa_cons (pv 0) (pa_cons (pe_tup (pa_cons (pv 6) (pa_cons (pv 5) pa_nil))) (pa_cons (pe_op op_sub pe_int (pv 2)) pa_nil)))))))))))
    (pss_one ps_retN)) pss_nil)
    (pss_cons (ps_set (i := 7) sc__law_mark.nd rfl (.inl rfl) pe_dicNew)
    (pss_cons (ps_for PassesOwn.never rfl (pi_range1 (by rfl) bl.range_ (pa_cons pe_int pa_nil)) (pg_name (i := 3) sc__law_mark.nd rfl (.inl rfl)) (pss_one (ps_for PassesOwn.never rfl (pi_range1 (by rfl) bl.range_ (pa_cons (pv 3) pa_nil)) (pg_name (i := 8) sc__law_mark.nd rfl (.inl rfl)) (pss_cons (ps_set (i := 6) sc__law_mark.nd rfl (.inl rfl) (pcall c__law_space_line (hr.mono (by decide)) (by rfl) (pa_cons (pe_ix ix_tup (pv 1) (pv 8) (fun _ _ => rfl)) (pa_cons (pe_ix ix_tup (pv 1) (pv 3) (fun _ _ => rfl)) pa_nil))))
    (pss_cons (ps_asg (pv 6) (pg_sub (pv 7) (pe_tup (pa_cons (pe_ix ix_tup (pv 1) (pv 8) (fun _ _ => rfl)) (pa_cons (pe_ix ix_tup (pv 1) (pv 3) (fun _ _ => rfl)) pa_nil))) (set_dic hr.units)))
    (pss_one (ps_asg (pv 6) (pg_sub (pv 7) (pe_tup (pa_cons (pe_ix ix_tup (pv 1) (pv 3) (fun _ _ => rfl)) (pa_cons (pe_ix ix_tup (pv 1) (pv 8) (fun _ _ => rfl)) pa_nil))) (set_dic hr.units)))))))))
    (pss_one (ps_for PassesOwn.never rfl (pi_list (pcall c__law_shuts (hr.mono (by decide)) (by rfl) (pa_cons (pv 1) pa_nil))) (pg_name (i := 9) sc__law_mark.nd rfl (.inl rfl)) (pss_cons (ps_set (i := 10) sc__law_mark.nd rfl (.inl rfl) (pcall c__law_plane (hr.mono (by decide)) (by rfl) (pa_cons (pe_ix ix_tup (pv 9) pe_int (fun _ _ => rfl)) (pa_cons (pe_ix ix_tup (pv 9) pe_int (fun _ _ => rfl)) (pa_cons (pe_ix ix_tup (pv 9) pe_int (fun _ _ => rfl)) pa_nil)))))
    (pss_one (ps_for PassesOwn.never rfl (pi_range1 (by rfl) bl.range_ (pa_cons pe_int pa_nil)) (pg_name (i := 3) sc__law_mark.nd rfl (.inl rfl)) (pss_cons (ps_set (i := 4) sc__law_mark.nd rfl (.inl rfl) (pe_ix ix_tup (pv 9) (pe_op op_sub (pv 3) pe_int) (fun _ _ => rfl)))
    (pss_cons (ps_set (i := 5) sc__law_mark.nd rfl (.inl rfl) (pe_ix ix_tup (pv 9) (pv 3) (fun _ _ => rfl)))
    (pss_cons (ps_set (i := 6) sc__law_mark.nd rfl (.inl rfl) (pe_dicItem hr.units (pv 7) (pe_tup (pa_cons (pv 4) (pa_cons (pv 5) pa_nil))) (fun _ _ => rfl)))
    (pss_cons (ps_expr (pcall c__law_put (hr.mono (by decide)) (by rfl) (pa_cons (pv 0) (pa_cons (pe_tup (pa_cons (pv 10) (pa_cons (pv 6) (pa_cons (pv 4) pa_nil)))) (pa_cons (pv 2) pa_nil)))))
    (pss_one (ps_expr (pcall c__law_put (hr.mono (by decide)) (by rfl) (pa_cons (pv 0) (pa_cons (pe_tup (pa_cons (pv 10) (pa_cons (pv 6) (pa_cons (pv 5) pa_nil)))) (pa_cons (pe_op op_sub pe_int (pv 2)) pa_nil)))))))))))))))))), fun a C rt hC q => ?_⟩)
  obtain ⟨kvs, ps, n⟩ := i
  obtain ⟨hl, hZ, hk⟩ := hp
  dsimp only at hl hZ hk q
  obtain ⟨p, q0, r, t, rfl⟩ := len4 hl
  have hp := hZ p (by simp)
  have hq := hZ q0 (by simp)
  have hr' := hZ r (by simp)
  have ht := hZ t (by simp)
  refine w_seq (w_no ((et_test (ev_eqI (ev_len (ev_S_of_T (ev_var rfl))) ev_int)).to rfl) (w_nx ?_))
  refine w_seq (w_newDic (R := RT RI) fun b => ?_)
  have gl : ∀ k, k < 4 → [p, q0, r, t][k]? = some ([p, q0, r, t].getD k ⟨0, 0, 0, 0⟩) := fun k hk => by
    obtain rfl | rfl | rfl | rfl : k = 0 ∨ k = 1 ∨ k = 2 ∨ k = 3 := by omega
    all_goals rfl
  have at' : ∀ k : Nat, k < 4 → atI ([p, q0, r, t].map P4.l) (k : Int) = some (([p, q0, r, t].getD k ⟨0, 0, 0, 0⟩).l) := fun k hk => by
    obtain rfl | rfl | rfl | rfl : k = 0 ∨ k = 1 ∨ k = 2 ∨ k = 3 := by omega
    all_goals rfl
  have gz : ∀ k, k < 4 → ([p, q0, r, t].getD k ⟨0, 0, 0, 0⟩).Z := fun k hk => hZ _ (List.mem_of_getElem? (gl k hk))
  refine w_seq (w_for (ei_rng1 (n := 4) (ea_cons ev_int ea_nil) (by decide) (by decide)) (fun _ => [sl RA a, sl (RT (RT RI)) ([p, q0, r, t].map P4.l), sl RI n, none, none, none, none, sl RA b, none, none, none])
    (fun i => [(b, .dic (dicO P w) (RT RI) (outL [p, q0, r, t] i)), (a, .dic (dicO P w) RI kvs)]) ⟨rfl, fun _ _ h => h⟩ rfl (fun _ _ => rfl) (fun C' I f1 f2 f3 hI k hk4 => ?_) ?_)
  · have hk4 : k < 4 := hk4
    have hI' := hI (k + 1)
    have ol := outL_len [p, q0, r, t] k
    have ok2 : k * k ≤ 16 := Nat.mul_le_mul (Nat.le_of_lt hk4) (Nat.le_of_lt hk4)
    obtain ⟨d0, ed⟩ : ∃ d, d = outL [p, q0, r, t] k := ⟨_, rfl⟩
    change Wn C' (I (k + 1)) _ [(b, .dic (dicO P w) (RT RI) (inL [p, q0, r, t] (outL [p, q0, r, t] k) k k)), _] at hI'
    rw [← ed] at hI' ol ⊢
    refine w_for (ei_rng1 (n := (k : Int)) (ea_cons (ev_var rfl) ea_nil) (by omega) (by omega)) (fun _ => [sl RA a, sl (RT (RT RI)) ([p, q0, r, t].map P4.l), sl RI n, sl RI (k : Int), none, none, none, sl RA b, none, none, none])
      (fun m => [(b, .dic (dicO P w) (RT RI) (inL [p, q0, r, t] d0 k m)), (a, .dic (dicO P w) RI kvs)]) ⟨rfl, fun _ _ h => h⟩ rfl (fun _ _ => rfl) (fun C1 I1 g1 g2 g3 hI1 m hm => ?_) ?_
    · have hm : m < k := by simpa using hm
      have hI1' := hI1 (m + 1)
      have il := inL_len [p, q0, r, t] d0 k m
      obtain ⟨d1, ed1⟩ : ∃ d, d = inL [p, q0, r, t] d0 k m := ⟨_, rfl⟩
      change Wn C1 (I1 (m + 1)) _ [(b, .dic (dicO P w) (RT RI) (put2 (inL [p, q0, r, t] d0 k m) ([p, q0, r, t].getD m ⟨0, 0, 0, 0⟩) ([p, q0, r, t].getD k ⟨0, 0, 0, 0⟩))), _] at hI1'
      rw [← ed1] at hI1' il ⊢
      have hx := at' m (by omega)
      have hy := at' k hk4
      have xZ := gz m (by omega)
      have yZ := gz k hk4
      obtain ⟨x, ex⟩ : ∃ x, x = [p, q0, r, t].getD m ⟨0, 0, 0, 0⟩ := ⟨_, rfl⟩
      obtain ⟨y, ey⟩ : ∃ x, x = [p, q0, r, t].getD k ⟨0, 0, 0, 0⟩ := ⟨_, rfl⟩
      rw [← ex] at hx xZ hI1'
      rw [← ey] at hy yZ hI1'
      refine w_seq (w_set (ev_call (x, y) (ea_cons (ev_ixT (ev_var rfl) (ev_var rfl) hx) (ea_cons (ev_ixT (ev_var rfl) (ev_var rfl) hy) ea_nil)) ⟨xZ, yZ⟩) ?_)
      refine w_seq (w_dicSet (j := 0) (k := [x.l, y.l]) (ev_var rfl) (ev_var rfl) (ev_tup (ea_scons (ev_ixT (ev_var rfl) (ev_var rfl) hx) (ea_scons (ev_ixT (ev_var rfl) (ev_var rfl) hy) ea_snil)) (le_by rfl)) rfl (by omega) ?_)
      refine w_dicSet (j := 0) (k := [y.l, x.l]) (ev_var rfl) (ev_var rfl) (ev_tup (ea_scons (ev_ixT (ev_var rfl) (ev_var rfl) hy) (ea_scons (ev_ixT (ev_var rfl) (ev_var rfl) hx) ea_snil)) (le_by rfl)) rfl ?_ ?_
      · exact Nat.le_trans (put_len (kvs := d1) (k := [x.l, y.l]) (x := line x y)) (by omega)
      · exact w_wk (wk_same (wk_same (wk_same (wk_same (wk_drop (wk_drop (wk_drop (wk_same (wk_drop (wk_drop (wk_drop wk_nil))))))))))) hI1'
    · rw [show ((k : Int)).toNat = k from rfl]
      exact w_wk (wk_same (wk_same (wk_same (wk_drop (wk_drop (wk_drop (wk_drop (wk_same (wk_drop (wk_drop (wk_drop wk_nil))))))))))) hI'
  · have lk := @outL_look p q0 r t
    have sk := shuts_keys p q0 r t
    have sZ := shuts_Z hp hq hr' ht
    change Wn C _ _ [(b, .dic (dicO P w) (RT RI) (outL [p, q0, r, t] 4)), _]
    obtain ⟨L, eL⟩ : ∃ L, L = outL [p, q0, r, t] 4 := ⟨_, rfl⟩
    rw [← eL] at lk ⊢
    rw [opsN_shuts] at q
    obtain ⟨ws, ews⟩ : ∃ ws, ws = shutsP [p, q0, r, t] := ⟨_, rfl⟩
    have wl : ws.length = 4 := by rw [ews]; rfl
    have ewm : [[q0.l, r.l, t.l], [p.l, t.l, r.l], [p.l, q0.l, t.l], [p.l, r.l, q0.l]] = ws.map fun t => [t.1.l, t.2.1.l, t.2.2.l] := by rw [ews]; rfl
    rw [← ews] at sk sZ q
    refine w_for (ei_list (xs := ws.map fun t => [t.1.l, t.2.1.l, t.2.2.l]) (Ev.to (ev_call (p, q0, r, t) (ea_cons (ev_var rfl) ea_nil) trivial) ewm)) (fun _ => [sl RA a, none, sl RI n, none, none, none, none, sl RA b, none, none, none])
      (fun j => [(b, .dic (dicO P w) (RT RI) L), (a, .dic (dicO P w) RI (doSum kvs ((ws.take j).flatMap fun t => opsV n t.1 t.2.1 t.2.2)))]) (wk_same (wk_drop (wk_same (wk_same (wk_same (wk_same (wk_same (wk_same (wk_same (wk_same (wk_same wk_nil))))))))))) rfl (fun _ _ => rfl) (fun C1 I1 g1 g2 g3 hI1 j hj => ?_) ?_
    · rw [List.length_map] at hj
      have hI1' := hI1 (j + 1)
      rw [flatMap_take _ (List.getElem?_eq_getElem hj), doSum_app, opsV_round] at hI1'
      have hlen1 : (doSum kvs ((ws.take j).flatMap fun t => opsV n t.1 t.2.1 t.2.2)).length ≤ 930 := by
        have h1 := doSum_len ((ws.take j).flatMap fun t => opsV n t.1 t.2.1 t.2.2) kvs
        rw [List.length_flatMap, sum_map_const (fun t : P4 × P4 × P4 => (opsV n t.1 t.2.1 t.2.2).length) 6 (fun _ => rfl), List.length_take] at h1
        omega
      obtain ⟨d1, ed1⟩ : ∃ d, d = doSum kvs ((ws.take j).flatMap fun t => opsV n t.1 t.2.1 t.2.2) := ⟨_, rfl⟩
      show Wn C1 _ [_, _, _, _, _, _, _, _, _, itS (RT (RT RI)) (ws.map fun t => [t.1.l, t.2.1.l, t.2.2.l]) j, _] _
      rw [itS_get (show (ws.map fun t => [t.1.l, t.2.1.l, t.2.2.l])[j]? = some [ws[j].1.l, ws[j].2.1.l, ws[j].2.2.l] by rw [List.getElem?_map, List.getElem?_eq_getElem hj]; rfl)]
      obtain ⟨aZ, bZ, cZ⟩ := sZ ws[j] (List.getElem_mem hj)
      have sk1 := sk ws[j] (List.getElem_mem hj)
      obtain ⟨tt, ew⟩ : ∃ t, t = ws[j] := ⟨_, rfl⟩
      rw [← ew] at aZ bZ cZ sk1 hI1' ⊢
      rw [← ed1] at hlen1 hI1' ⊢
      obtain ⟨x, y, z⟩ := tt
      dsimp only at aZ bZ cZ hI1'
      refine w_seq (w_set (ev_call (x, y, z) (ea_cons (ev_ixT (ev_var rfl) ev_int rfl) (ea_cons (ev_ixT (ev_var rfl) ev_int rfl) (ea_cons (ev_ixT (ev_var rfl) ev_int rfl) ea_nil))) ⟨aZ, bZ, cZ⟩) ?_)
      obtain ⟨ss, ess⟩ : ∃ ss : List (P4 × P4), ss = roundP (x, y, z) := ⟨_, rfl⟩
      have sl3 : ss.length = 3 := by rw [ess]; rfl
      rw [← ess] at sk1 hI1'
      have ha1 : ∀ m (hm : m < ss.length), atI [x.l, y.l, z.l] ((m : Int) - 1) = some ss[m].1.l ∧ atI [x.l, y.l, z.l] (m : Int) = some ss[m].2.l := fun m hm => by
        subst ess
        have hm : m < 3 := hm
        obtain rfl | rfl | rfl : m = 0 ∨ m = 1 ∨ m = 2 := by omega
        all_goals exact ⟨rfl, rfl⟩
      refine w_for (ei_rng1 (n := 3) (ea_cons ev_int ea_nil) (by decide) (by decide)) (fun _ => [sl RA a, none, sl RI n, none, none, none, none, sl RA b, none, sl (RT (RT RI)) [x.l, y.l, z.l], sl (RT RI) (plane x y z)])
        (fun m => [(b, .dic (dicO P w) (RT RI) L), (a, .dic (dicO P w) RI (doSum d1 ((ss.take m).flatMap fun u => opsS n (plane x y z) u.1 u.2)))]) ⟨rfl, fun _ _ h => h⟩ rfl (fun _ _ => rfl) (fun C2 I2 e1 e2 e3 hI2 m hm => ?_) ?_
      · have hm : m < ss.length := by rw [sl3]; exact hm
        have hI2' := hI2 (m + 1)
        rw [flatMap_take _ (List.getElem?_eq_getElem hm), doSum_app] at hI2'
        have hlen2 : (doSum d1 ((ss.take m).flatMap fun u => opsS n (plane x y z) u.1 u.2)).length ≤ 940 := by
          have h1 := doSum_len ((ss.take m).flatMap fun u => opsS n (plane x y z) u.1 u.2) d1
          rw [List.length_flatMap, sum_map_const (fun u : P4 × P4 => (opsS n (plane x y z) u.1 u.2).length) 2 (fun _ => rfl), List.length_take] at h1
          omega
        obtain ⟨d2, ed2⟩ : ∃ d, d = doSum d1 ((ss.take m).flatMap fun u => opsS n (plane x y z) u.1 u.2) := ⟨_, rfl⟩
        obtain ⟨hu, hv⟩ := ha1 m hm
        have hlk := lk (sk1 ss[m] (List.getElem_mem hm))
        obtain ⟨uu, euv⟩ : ∃ t, t = ss[m] := ⟨_, rfl⟩
        rw [← euv] at hu hv hlk hI2'
        rw [← ed2] at hlen2 hI2' ⊢
        obtain ⟨u, v⟩ := uu
        refine w_seq (w_set (ev_ixT (ev_var rfl) (ev_I0 (ev_var rfl) ev_int) hu) ?_)
        refine w_seq (w_set (ev_ixT (ev_var rfl) (ev_var rfl) hv) ?_)
        refine w_seq (w_set (ev_dicItem (k := [u.l, v.l]) (ev_var rfl) (ev_tup (ea_scons (ev_var rfl) (ea_scons (ev_var rfl) ea_snil)) (le_by rfl)) (List.mem_cons_self ..) hlk) ?_)
        refine w_seq (w_drop (ev_callM (d2, [plane x y z, line u v, u.l], n) 1 (ea_cons (ev_var rfl) (ea_cons (ev_tup (ea_scons (ev_var rfl) (ea_scons (ev_var rfl) (ea_scons (ev_var rfl) ea_snil))) (le_by rfl)) (ea_cons (ev_var rfl) ea_nil))) rfl trivial (by show d2.length ≤ 1000; omega)) ?_)
        refine w_drop (ev_callM (putSum d2 [plane x y z, line u v, u.l] n, [plane x y z, line u v, v.l], 0 - n) 1 (ea_cons (ev_var rfl) (ea_cons (ev_tup (ea_scons (ev_var rfl) (ea_scons (ev_var rfl) (ea_scons (ev_var rfl) ea_snil))) (le_by rfl)) (ea_cons (ev_I0 ev_int (ev_var rfl)) ea_nil))) rfl trivial ?_) ?_
        · have : (putSum d2 [plane x y z, line u v, u.l] n).length ≤ d2.length + 1 := put_len
          show (putSum d2 [plane x y z, line u v, u.l] n).length ≤ 1000
          omega
        · rw [show (0 - n : Int) = -n by omega]
          exact w_wk (wk_same (wk_drop (wk_same (wk_drop (wk_drop (wk_drop (wk_drop (wk_same (wk_drop (wk_same (wk_same wk_nil))))))))))) hI2'
      · rw [show (3 : Int).toNat = ss.length from sl3.symm, List.take_length]
        exact w_wk (wk_same (wk_drop (wk_same (wk_drop (wk_drop (wk_drop (wk_drop (wk_same (wk_drop (wk_drop (wk_drop wk_nil))))))))))) hI1'
    · rw [List.length_map, List.take_length]
      exact w_end q fun m hm => by
        cases List.mem_singleton.mp hm
        exact List.mem_cons_of_mem _ (List.mem_cons_self ..)
end
end Sc
set_option Elab.async false
set_option linter.all false
set_option maxRecDepth 100000
set_option maxHeartbeats 1000000
namespace Sc
open PySem PySem.Spec PyProof.Rows L2 TL Ma
theorem opsG_take {h : List (List P4)} {i : Nat} (n : Int) (hi : i < h.length) : opsG n (h.take (i + 1)) = opsG n (h.take i) ++ opsN n h[i] := flatMap_take _ (List.getElem?_eq_getElem hi)
section
variable {P : Program} {w : World} {K : PySem.W.Frag} {mg : Str → Option Value} {base : Heap} {f : Addr} {fd : FuncData}
abbrev RL3 (b : Bool) : Rl (List (List (List Int))) := match b with | true => RL (RT (RT RI)) | false => RT (RT (RT RI))
abbrev s__law_same : Stmt := top 59
abbrev N__law_same : List Str := ["_law_one", "_law_other", "_law_table", "_law_points", "_law_key"]
theorem sc__law_same : FnScope N__law_same ["_law_one", "_law_other"] (defScope s__law_same) := ⟨rfl, rfl, rfl, by decide +kernel, rfl, by decide +kernel, by decide +kernel⟩
def sp__law_same : Sp := spG (ι := Bool × List (List P4) × List (List P4)) (fun i => [⟨_, RT (RT (RT RI)), HL i.2.1⟩, ⟨_, RL3 i.1, HL i.2.2⟩])
  (fun i => (i.2.1.length ≤ 18 ∧ ∀ ps ∈ i.2.1, ps.length = 4 ∧ ∀ p ∈ ps, p.Z) ∧ (i.2.2.length ≤ 18 ∧ ∀ ps ∈ i.2.2, ps.length = 4 ∧ ∀ p ∈ ps, p.Z) ∧ ∀ κ, tabH i.2.1 κ = tabH i.2.2 κ) (fun _ => ⟨_, RB, true⟩)
abbrev C__law_same (P : Program) (w : World) (K : PySem.W.Frag) (mg : Str → Option Value) (base : Heap) : Prop := Cal P w K mg base "_law_same" 6 ["_law_one", "_law_other"] (sp__law_same)
theorem ok__law_same (bl : Bl mg) (c__law_mark : C__law_mark P w K mg base) (F : FnP K "_law_same" s__law_same [] f fd) : FnOk P w K mg base CX0 6 f fd ["_law_one", "_law_other"] (sp__law_same) := by
  refine okG F sc__law_same (fun _ => rfl) (by decide) (fun cdv A outer s H E hr i hp => ?_)
  obtain ⟨b, g, h⟩ := i
  obtain ⟨⟨gl, gh⟩, ⟨hl, hh⟩, he⟩ := hp
  dsimp only at gl gh hl hh he
  have tz := table_zero (fun ps hps => (gh ps hps).1) (fun ps hps => (hh ps hps).1) he
  have gL : ∀ i, (doSum [] (opsG 1 (g.take i))).length ≤ 440 := fun i => Nat.le_trans (doSum_len _ _) (by
    have := opsG_len 1 (g.take i)
    rw [List.length_take] at this
    show 0 + _ ≤ _
    omega)
  have hL : ∀ i, (doSum (doSum [] (opsG 1 g)) (opsG (-1) (h.take i))).length ≤ 880 := fun i => Nat.le_trans (doSum_len _ _) (by
    have h1 := opsG_len (-1) (h.take i)
    rw [List.length_take] at h1
    have h2 := gL g.length
    rw [List.take_length] at h2
    omega)
  cases b
  rotate_left
  · refine ⟨_, (pss_cons (ps_set (i := 2) sc__law_same.nd rfl (.inr rfl) pe_dicNew)
    (pss_cons (ps_for PassesOwn.never rfl (pi_tup (pv 0)) (pg_name (i := 3) sc__law_same.nd rfl (.inl rfl)) (pss_one (ps_expr (pcall c__law_mark (hr.mono (by decide)) (by rfl) (pa_cons (pv 2) (pa_cons (pv 3) (pa_cons pe_int pa_nil)))))))
    (pss_cons (ps_for PassesOwn.never rfl (pi_list (pv 1)) (pg_name (i := 3) sc__law_same.nd rfl (.inl rfl)) (pss_one (ps_expr (pcall c__law_mark (hr.mono (by decide)) (by rfl) (pa_cons (pv 2) (pa_cons (pv 3) (pa_cons (pe_un un_neg pe_int) pa_nil)))))))
    (pss_one (ps_ret (pe_callB (cr_all rfl) (by rfl) bl.all_ (by first | rfl | decide +kernel) (pa_cons (pe_lc (own := [("_law_key", 4)]) (tt := tYes) rfl sc__law_same.nd (pi_list (pe_callTy (call_listDic rfl) (by rfl) bl.list_ (by first | rfl | decide +kernel) (pa_cons (pv 2) pa_nil))) (blkOk_by (N := N__law_same) (sc := defScope s__law_same) (by decide +kernel)) (fun _ _ _ _ _ => (pg_name (i := 4) sc__law_same.nd rfl (.inl rfl))) (fun _ _ _ _ _ => pts_nil) (fun _ _ _ _ _ => (pe_cmpR op_eq (show PE _ _ (tDicItem P w (tVar 2) (tVar 4)) from (pe_dicItem hr.units (pv 2) (pv 4) (fun _ _ => rfl))) pe_int (nomark _)))) pa_nil))))))), fun C rt hC q => ?_⟩
    refine w_seq (w_newDic (R := RI) fun a => ?_)
    refine w_seq (w_for (ei_tup (ev_var rfl)) (fun i => [sl (RT (RT (RT RI))) (HL g), sl (RL (RT (RT RI))) (HL h), sl RA a, none, none])
      (fun i => [(a, .dic (dicO P w) RI (doSum [] (opsG 1 (g.take i))))]) ⟨rfl, fun _ _ h => h⟩ rfl (fun _ _ => rfl) (fun C' I f1 f2 f3 hI i hi => ?_) ?_)
    · rw [List.length_map] at hi
      have hI' := hI (i + 1)
      rw [opsG_take 1 hi, doSum_app] at hI'
      show Wn C' _ [_, _, _, itS (RT (RT RI)) (HL g) i, _] _
      rw [itS_get (show (HL g)[i]? = some (g[i].map P4.l) by rw [List.getElem?_map, List.getElem?_eq_getElem hi]; rfl)]
      obtain ⟨z1, z2⟩ := gh g[i] (List.getElem_mem hi)
      refine w_drop (ev_callM (doSum [] (opsG 1 (g.take i)), g[i], 1) 0 (ea_cons (ev_var rfl) (ea_cons (ev_var rfl) (ea_cons ev_int ea_nil))) rfl trivial ⟨z1, z2, Nat.le_trans (gL i) (by decide)⟩) ?_
      exact w_wk (wk_same (wk_same (wk_same (wk_drop (wk_drop wk_nil))))) hI'
    · rw [List.length_map, List.take_length]
      refine w_seq (w_for (ei_list (ev_var rfl)) (fun i => [sl (RT (RT (RT RI))) (HL g), sl (RL (RT (RT RI))) (HL h), sl RA a, none, none])
        (fun i => [(a, .dic (dicO P w) RI (doSum (doSum [] (opsG 1 g)) (opsG (-1) (h.take i))))]) ⟨rfl, fun _ _ h => h⟩ rfl (fun _ _ => rfl) (fun C' I f1 f2 f3 hI i hi => ?_) ?_)
      · rw [List.length_map] at hi
        have hI' := hI (i + 1)
        rw [opsG_take (-1) hi, doSum_app] at hI'
        show Wn C' _ [_, _, _, itS (RT (RT RI)) (HL h) i, _] _
        rw [itS_get (show (HL h)[i]? = some (h[i].map P4.l) by rw [List.getElem?_map, List.getElem?_eq_getElem hi]; rfl)]
        obtain ⟨z1, z2⟩ := hh h[i] (List.getElem_mem hi)
        refine w_drop (ev_callM (doSum (doSum [] (opsG 1 g)) (opsG (-1) (h.take i)), h[i], -1) 0 (ea_cons (ev_var rfl) (ea_cons (ev_var rfl) (ea_cons (ev_neg ev_int) ea_nil))) rfl trivial ⟨z1, z2, Nat.le_trans (hL i) (by decide)⟩) ?_
        exact w_wk (wk_same (wk_same (wk_same (wk_drop (wk_drop wk_nil))))) hI'
      · rw [List.length_map, List.take_length]
        have hT := hL h.length
        rw [List.take_length] at hT
        change (tableP g h).length ≤ 880 at hT
        change Wn C _ _ [(a, .dic (dicO P w) RI (tableP g h))]
        obtain ⟨T, eT⟩ : ∃ T, T = tableP g h := ⟨_, rfl⟩
        have nd : (T.map (·.1)).Nodup := by rw [eT]; exact doSum_nodup _ (doSum_nodup _ List.nodup_nil)
        rw [← eT] at hT tz ⊢
        refine w_re (Ev.to (ev_all (EvN.ev (en_lc (ei_list (EvN.ev (en_listDic (ev_var rfl) (List.mem_cons_self ..) (by omega)))) (by decide) (fun _ => true) (fun _ => [(a, .dic (dicO P w) RI T)]) rfl (by rw [List.length_map]; omega) (fun i hi => ?_)))) ?_) q (fun _ h => nomatch h)
        · rw [List.length_map] at hi
          show Ev _ [_, _, _, _, itS RK (T.map (·.1)) i] _ RB _ _
          rw [itS_get (show (T.map (·.1))[i]? = some T[i].1 by rw [List.getElem?_map, List.getElem?_eq_getElem hi]; rfl)]
          refine Ev.to (ev_eqI (ev_dicItem (ev_var rfl) (ev_var rfl) (List.mem_cons_self ..) (look_mem nd (List.getElem_mem hi))) ev_int) ?_
          exact decide_eq_true (tz _ (List.getElem_mem hi))
        · simp
  · refine ⟨_, (pss_cons (ps_set (i := 2) sc__law_same.nd rfl (.inr rfl) pe_dicNew)
    (pss_cons (ps_for PassesOwn.never rfl (pi_tup (pv 0)) (pg_name (i := 3) sc__law_same.nd rfl (.inl rfl)) (pss_one (ps_expr (pcall c__law_mark (hr.mono (by decide)) (by rfl) (pa_cons (pv 2) (pa_cons (pv 3) (pa_cons pe_int pa_nil)))))))
    (pss_cons (ps_for PassesOwn.never rfl (pi_tup (pv 1)) (pg_name (i := 3) sc__law_same.nd rfl (.inl rfl)) (pss_one (ps_expr (pcall c__law_mark (hr.mono (by decide)) (by rfl) (pa_cons (pv 2) (pa_cons (pv 3) (pa_cons (pe_un un_neg pe_int) pa_nil)))))))
    (pss_one (ps_ret (pe_callB (cr_all rfl) (by rfl) bl.all_ (by first | rfl | decide +kernel) (pa_cons (pe_lc (own := [("_law_key", 4)]) (tt := tYes) rfl sc__law_same.nd (pi_list (pe_callTy (call_listDic rfl) (by rfl) bl.list_ (by first | rfl | decide +kernel) (pa_cons (pv 2) pa_nil))) (blkOk_by (N := N__law_same) (sc := defScope s__law_same) (by decide +kernel)) (fun _ _ _ _ _ => (pg_name (i := 4) sc__law_same.nd rfl (.inl rfl))) (fun _ _ _ _ _ => pts_nil) (fun _ _ _ _ _ => (pe_cmpR op_eq (show PE _ _ (tDicItem P w (tVar 2) (tVar 4)) from (pe_dicItem hr.units (pv 2) (pv 4) (fun _ _ => rfl))) pe_int (nomark _)))) pa_nil))))))), fun C rt hC q => ?_⟩
    refine w_seq (w_newDic (R := RI) fun a => ?_)
    refine w_seq (w_for (ei_tup (ev_var rfl)) (fun i => [sl (RT (RT (RT RI))) (HL g), sl (RT (RT (RT RI))) (HL h), sl RA a, none, none])
      (fun i => [(a, .dic (dicO P w) RI (doSum [] (opsG 1 (g.take i))))]) ⟨rfl, fun _ _ h => h⟩ rfl (fun _ _ => rfl) (fun C' I f1 f2 f3 hI i hi => ?_) ?_)
    · rw [List.length_map] at hi
      have hI' := hI (i + 1)
      rw [opsG_take 1 hi, doSum_app] at hI'
      show Wn C' _ [_, _, _, itS (RT (RT RI)) (HL g) i, _] _
      rw [itS_get (show (HL g)[i]? = some (g[i].map P4.l) by rw [List.getElem?_map, List.getElem?_eq_getElem hi]; rfl)]
      obtain ⟨z1, z2⟩ := gh g[i] (List.getElem_mem hi)
      refine w_drop (ev_callM (doSum [] (opsG 1 (g.take i)), g[i], 1) 0 (ea_cons (ev_var rfl) (ea_cons (ev_var rfl) (ea_cons ev_int ea_nil))) rfl trivial ⟨z1, z2, Nat.le_trans (gL i) (by decide)⟩) ?_
      exact w_wk (wk_same (wk_same (wk_same (wk_drop (wk_drop wk_nil))))) hI'
    · rw [List.length_map, List.take_length]
      refine w_seq (w_for (ei_tup (ev_var rfl)) (fun i => [sl (RT (RT (RT RI))) (HL g), sl (RT (RT (RT RI))) (HL h), sl RA a, none, none])
        (fun i => [(a, .dic (dicO P w) RI (doSum (doSum [] (opsG 1 g)) (opsG (-1) (h.take i))))]) ⟨rfl, fun _ _ h => h⟩ rfl (fun _ _ => rfl) (fun C' I f1 f2 f3 hI i hi => ?_) ?_)
      · rw [List.length_map] at hi
        have hI' := hI (i + 1)
        rw [opsG_take (-1) hi, doSum_app] at hI'
        show Wn C' _ [_, _, _, itS (RT (RT RI)) (HL h) i, _] _
        rw [itS_get (show (HL h)[i]? = some (h[i].map P4.l) by rw [List.getElem?_map, List.getElem?_eq_getElem hi]; rfl)]
        obtain ⟨z1, z2⟩ := hh h[i] (List.getElem_mem hi)
        refine w_drop (ev_callM (doSum (doSum [] (opsG 1 g)) (opsG (-1) (h.take i)), h[i], -1) 0 (ea_cons (ev_var rfl) (ea_cons (ev_var rfl) (ea_cons (ev_neg ev_int) ea_nil))) rfl trivial ⟨z1, z2, Nat.le_trans (hL i) (by decide)⟩) ?_
        exact w_wk (wk_same (wk_same (wk_same (wk_drop (wk_drop wk_nil))))) hI'
      · rw [List.length_map, List.take_length]
        have hT := hL h.length
        rw [List.take_length] at hT
        change (tableP g h).length ≤ 880 at hT
        change Wn C _ _ [(a, .dic (dicO P w) RI (tableP g h))]
        obtain ⟨T, eT⟩ : ∃ T, T = tableP g h := ⟨_, rfl⟩
        have nd : (T.map (·.1)).Nodup := by rw [eT]; exact doSum_nodup _ (doSum_nodup _ List.nodup_nil)
        rw [← eT] at hT tz ⊢
        refine w_re (Ev.to (ev_all (EvN.ev (en_lc (ei_list (EvN.ev (en_listDic (ev_var rfl) (List.mem_cons_self ..) (by omega)))) (by decide) (fun _ => true) (fun _ => [(a, .dic (dicO P w) RI T)]) rfl (by rw [List.length_map]; omega) (fun i hi => ?_)))) ?_) q (fun _ h => nomatch h)
        · rw [List.length_map] at hi
          show Ev _ [_, _, _, _, itS RK (T.map (·.1)) i] _ RB _ _
          rw [itS_get (show (T.map (·.1))[i]? = some T[i].1 by rw [List.getElem?_map, List.getElem?_eq_getElem hi]; rfl)]
          refine Ev.to (ev_eqI (ev_dicItem (ev_var rfl) (ev_var rfl) (List.mem_cons_self ..) (look_mem nd (List.getElem_mem hi))) ev_int) ?_
          exact decide_eq_true (tz _ (List.getElem_mem hi))
        · simp
abbrev s__law_point_form : Stmt := top 61
abbrev N__law_point_form : List Str := ["_law_p", "_law_many"]
theorem sc__law_point_form : FnScope N__law_point_form ["_law_p", "_law_many"] (defScope s__law_point_form) := ⟨rfl, rfl, rfl, by decide +kernel, rfl, by decide +kernel, by decide +kernel⟩
def sp__law_point_form : Sp := spG (ι := P4) (fun i => [⟨_, RT RI, i.l⟩, ⟨_, RI, 3⟩]) (fun i => i.Z ∧ i.Ok) (fun _ => ⟨_, RB, true⟩)
abbrev C__law_point_form (P : Program) (w : World) (K : PySem.W.Frag) (mg : Str → Option Value) (base : Heap) : Prop := Cal P w K mg base "_law_point_form" 3 ["_law_p", "_law_many"] (sp__law_point_form)
theorem ok__law_point_form (bl : Bl mg) (c__law_lowest : C__law_lowest P w K mg base) (c__law_wholes : C__law_wholes P w K mg base) (F : FnP K "_law_point_form" s__law_point_form [] f fd) : FnOk P w K mg base CX0 3 f fd ["_law_p", "_law_many"] (sp__law_point_form) := by
  refine okG F sc__law_point_form (fun _ => rfl) (by decide) (fun cdv A outer s H E hr p hp => ⟨_, (pss_cons (ps_if (PW.pt (pw_or (pt_not (pt_val (pcall c__law_wholes (hr.mono (by decide)) (by rfl) (pa_cons (pv 0) (pa_cons (pe_op op_add (pv 1) pe_int) pa_nil))))) (pw_or1 (pt_cmpR op_lt (pe_ix ix_tup (pv 0) (pe_un un_neg pe_int) (fun _ _ => rfl)) pe_int (nomark _))))) (pss_one (ps_ret pe_bl)) pss_nil)
    (pss_one (ps_ret (pe_cmpR (op_eqD hr.units) (pcall c__law_lowest (hr.mono (by decide)) (by rfl) (pa_cons (pv 0) pa_nil)) (pv 0) (nomark _))))), fun C rt hC q => ?_⟩)
  obtain ⟨hz, ho⟩ := hp
  have w0 := hz.w0
  refine w_seq (w_no (EvT.to (et_or (a := false) (et_not (a := true) (et_test (ev_call (p.l, _) (ea_cons (ev_var rfl) (ea_cons (ev_I0 (ev_var rfl) ev_int) ea_nil)) ⟨le_by rfl, rfl⟩))) fun _ => et_B (Ev.to (ev_cmp (ev_ixT (ev_var rfl) (ev_neg ev_int) rfl) ev_int) (show decide (p.w < 1) = false from decide_eq_false (by omega)))) rfl) (w_nx ?_))
  exact w_re (ev_eqD (dat_RT dat_RI) (ev_call (false, p.l) (ea_cons (ev_var rfl) ea_nil) ⟨le_by rfl, all4 (hz.x.mono (by decide)) (hz.y.mono (by decide)) (hz.z.mono (by decide)) (hz.w.mono (by decide))⟩) (ev_var rfl) ((sh_R _).shaped (by decide)) ((sh_R _).shaped (by decide)) (by dsimp only; rw [ho.low]; exact (sh_R _).self)) q (fun _ h => nomatch h)
abbrev s__law_simplex_form : Stmt := top 62
abbrev N__law_simplex_form : List Str := ["_law_points", "_law_many", "_law_p"]
theorem sc__law_simplex_form : FnScope N__law_simplex_form ["_law_points", "_law_many"] (defScope s__law_simplex_form) := ⟨rfl, rfl, rfl, by decide +kernel, rfl, by decide +kernel, by decide +kernel⟩
def sp__law_simplex_form : Sp := spG (ι := List P4) (fun i => [⟨_, RT (RT RI), i.map P4.l⟩, ⟨_, RI, 3⟩]) (fun i => i.length = 4 ∧ (∀ p ∈ i, p.Z ∧ p.Ok) ∧ d4L i ≠ 0 ∧ simpP i = i) (fun _ => ⟨_, RB, true⟩)
abbrev C__law_simplex_form (P : Program) (w : World) (K : PySem.W.Frag) (mg : Str → Option Value) (base : Heap) : Prop := Cal P w K mg base "_law_simplex_form" 5 ["_law_points", "_law_many"] (sp__law_simplex_form)
theorem ok__law_simplex_form (bl : Bl mg) (c__law_det : C__law_det P w K mg base) (c__law_simplex : C__law_simplex P w K mg base) (c__law_point_form : C__law_point_form P w K mg base) (F : FnP K "_law_simplex_form" s__law_simplex_form [] f fd) : FnOk P w K mg base CX0 5 f fd ["_law_points", "_law_many"] (sp__law_simplex_form) := by
  refine okG F sc__law_simplex_form (fun _ => rfl) (by decide) (fun cdv A outer s H E hr ps hp => ⟨_, (pss_cons (ps_if (PW.pt (pw_or (pt_not (pt_val (pe_callB call_isi (by rfl) bl.isinstance_ (by first | rfl | decide +kernel) (pa_cons (pv 0) (pa_cons (pe_bltn (v := .ty "tuple") (by rfl) bl.tuple_ (by first | rfl | decide +kernel) rfl) pa_nil))))) (pw_or1 (pt_cmpR op_ne (pe_callB call_len_seq (by rfl) bl.len_ (by first | rfl | decide +kernel) (pa_cons (pv 0) pa_nil)) (pe_op op_add (pv 1) pe_int) (nomark _))))) (pss_one (ps_ret pe_bl)) pss_nil)
    (pss_cons (ps_if (pt_not (pt_val (pe_callB (cr_all rfl) (by rfl) bl.all_ (by first | rfl | decide +kernel) (pa_cons (pe_lc (own := [("_law_p", 2)]) (tt := tYes) rfl sc__law_simplex_form.nd (pi_tup (pv 0)) (blkOk_by (N := N__law_simplex_form) (sc := defScope s__law_simplex_form) (by decide +kernel)) (fun _ _ _ _ _ => (pg_name (i := 2) sc__law_simplex_form.nd rfl (.inl rfl))) (fun _ _ _ _ _ => pts_nil) (fun _ _ _ _ _ => (pcall c__law_point_form (hr.mono (by decide)) (by rfl) (pa_cons (pv 2) (pa_cons (pv 1) pa_nil))))) pa_nil)))) (pss_one (ps_ret pe_bl)) pss_nil)
    (pss_one (ps_ret (pe_and (pe_cmpR op_ne (pcall c__law_det (hr.mono (by decide)) (by rfl) (pa_cons (pv 0) pa_nil)) pe_int (nomark _)) (pe_one (pe_cmpR (op_eqD hr.units) (pcall c__law_simplex (hr.mono (by decide)) (by rfl) (pa_cons (pv 0) pa_nil)) (pv 0) (nomark _)))))))), fun C rt hC q => ?_⟩)
  obtain ⟨hl, hZ, h0, hs⟩ := hp
  obtain ⟨p, q0, r, t, rfl⟩ := len4 hl
  obtain ⟨pZ, pO⟩ := hZ p (by simp)
  obtain ⟨qZ, qO⟩ := hZ q0 (by simp)
  obtain ⟨rZ, rO⟩ := hZ r (by simp)
  obtain ⟨tZ, tO⟩ := hZ t (by simp)
  have nd : det p q0 r t ≠ 0 := fun e => h0 (by
    have sg := det_sign (q := q0) (r := r) (s := t) pZ.w0
    rw [e, Int.sign_zero] at sg
    exact Int.sign_eq_zero_iff_zero.mp sg.symm)
  refine w_seq (w_no (EvT.to (et_or (a := false) (et_not (a := true) (et_test (ev_isi_tup (ev_var rfl) rfl))) fun _ => et_B (Ev.to (ev_neI (ev_len (ev_S_of_T (ev_var rfl))) (ev_I0 (ev_var rfl) ev_int)) rfl)) rfl) (w_nx ?_))
  refine w_seq (w_no (EvT.to (et_not (a := true) (et_test (Ev.to (ev_all (EvN.ev (en_lc4 (ei_tup (ev_var rfl)) (by decide) rfl (ev_call p (ea_cons (ev_var rfl) (ea_cons (ev_var rfl) ea_nil)) ⟨pZ, pO⟩) (ev_call q0 (ea_cons (ev_var rfl) (ea_cons (ev_var rfl) ea_nil)) ⟨qZ, qO⟩) (ev_call r (ea_cons (ev_var rfl) (ea_cons (ev_var rfl) ea_nil)) ⟨rZ, rO⟩) (ev_call t (ea_cons (ev_var rfl) (ea_cons (ev_var rfl) ea_nil)) ⟨tZ, tO⟩)))) rfl))) rfl) (w_nx ?_))
  refine w_re (Ev.to (ev_andV (a := true) (b := true) (Ev.to (ev_neI (ev_call (false, Sum.inr (p, q0, r, t)) (ea_cons (ev_var rfl) ea_nil) ⟨pZ, qZ, rZ, tZ⟩) ev_int) (show (!decide (det p q0 r t = 0)) = true by rw [decide_eq_false nd]; rfl)) fun _ =>
    ev_eqD (dat_RT (dat_RT dat_RI)) (ev_call (false, Sum.inr [p, q0, r, t]) (ea_cons (ev_var rfl) ea_nil) ⟨rfl, Z4 pZ qZ rZ tZ⟩) (ev_var rfl) ((sh_RR _).shaped (by decide)) ((sh_RR _).shaped (by decide)) ?_) rfl) q (fun _ h => nomatch h)
  show PyData.eqv (dRR ((simpP [p, q0, r, t]).map P4.l)) (dRR ([p, q0, r, t].map P4.l)) = true
  rw [hs]
  exact (sh_RR _).self
abbrev s__law_heap_form : Stmt := top 63
abbrev N__law_heap_form : List Str := ["_law_heap", "_law_many", "_law_points"]
theorem sc__law_heap_form : FnScope N__law_heap_form ["_law_heap", "_law_many"] (defScope s__law_heap_form) := ⟨rfl, rfl, rfl, by decide +kernel, rfl, by decide +kernel, by decide +kernel⟩
def sp__law_heap_form : Sp := spG (ι := List (List P4)) (fun i => [⟨_, RT (RT (RT RI)), HL i⟩, ⟨_, RI, 3⟩]) (fun i => i.length ≤ 1000 ∧ ∀ ps ∈ i, ps.length = 4 ∧ (∀ p ∈ ps, p.Z ∧ p.Ok) ∧ d4L ps ≠ 0 ∧ simpP ps = ps) (fun _ => ⟨_, RB, true⟩)
abbrev C__law_heap_form (P : Program) (w : World) (K : PySem.W.Frag) (mg : Str → Option Value) (base : Heap) : Prop := Cal P w K mg base "_law_heap_form" 6 ["_law_heap", "_law_many"] (sp__law_heap_form)
theorem ok__law_heap_form (bl : Bl mg) (c__law_simplex_form : C__law_simplex_form P w K mg base) (F : FnP K "_law_heap_form" s__law_heap_form [] f fd) : FnOk P w K mg base CX0 6 f fd ["_law_heap", "_law_many"] (sp__law_heap_form) := by
  refine okG F sc__law_heap_form (fun _ => rfl) (by decide) (fun cdv A outer s H E hr h hp => ⟨_, (pss_cons (ps_if (pt_not (pt_val (pe_callB call_isi (by rfl) bl.isinstance_ (by first | rfl | decide +kernel) (pa_cons (pv 0) (pa_cons (pe_bltn (v := .ty "tuple") (by rfl) bl.tuple_ (by first | rfl | decide +kernel) rfl) pa_nil))))) (pss_one (ps_ret pe_bl)) pss_nil)
    (pss_one (ps_ret (pe_callB (cr_all rfl) (by rfl) bl.all_ (by first | rfl | decide +kernel) (pa_cons (pe_lc (own := [("_law_points", 2)]) (tt := tYes) rfl sc__law_heap_form.nd (pi_tup (pv 0)) (blkOk_by (N := N__law_heap_form) (sc := defScope s__law_heap_form) (by decide +kernel)) (fun _ _ _ _ _ => (pg_name (i := 2) sc__law_heap_form.nd rfl (.inl rfl))) (fun _ _ _ _ _ => pts_nil) (fun _ _ _ _ _ => (pcall c__law_simplex_form (hr.mono (by decide)) (by rfl) (pa_cons (pv 2) (pa_cons (pv 1) pa_nil))))) pa_nil))))), fun C rt hC q => ?_⟩)
  obtain ⟨hl, hh⟩ := hp
  refine w_seq (w_no (EvT.to (et_not (a := true) (et_test (ev_isi_tup (ev_var rfl) rfl))) rfl) (w_nx ?_))
  refine w_re (Ev.to (ev_all (EvN.ev (en_lc (ei_tup (ev_var rfl)) (by decide) (fun _ => true) (fun _ => []) rfl (by rw [List.length_map]; exact hl) (fun i hi => ?_)))) ?_) q (fun _ h => nomatch h)
  · rw [List.length_map] at hi
    show Ev _ [_, _, itS (RT (RT RI)) (HL h) i] [] RB _ []
    rw [itS_get (show (HL h)[i]? = some (h[i].map P4.l) by rw [List.getElem?_map, List.getElem?_eq_getElem hi]; rfl)]
    exact ev_call h[i] (ea_cons (ev_var rfl) (ea_cons (ev_var rfl) ea_nil)) (hh h[i] (List.getElem_mem hi))
  · simp
end
end Sc
set_option Elab.async false
set_option linter.all false
set_option maxRecDepth 10000
/-! the row of numbers that a script gives, and what is taken from it -/
namespace Ma
open TL
def dropZ : List Int → List Int
  | [] => []
  | x :: r => if x = 0 then dropZ r else x :: r
def headV (n : Int) : List Int → Int
  | [] => 0
  | x :: _ => x.fmod n
def headR (n : Int) : List Int → List Int
  | [] => []
  | x :: r => x / n :: r
def takeV (xs : List Int) (n : Int) : Int := headV n (dropZ xs)
def takeR (xs : List Int) (n : Int) : List Int := headR n (dropZ xs)
/-- a row of numbers that are not negative -/
structure Rw (xs : List Int) : Prop where
  nn : ∀ x ∈ xs, 0 ≤ x
  len : xs.length ≤ 63
theorem dropZ_rw : ∀ {xs : List Int}, Rw xs → Rw (dropZ xs)
  | [], h => h
  | x :: r, h => by
    unfold dropZ
    split
    · exact dropZ_rw ⟨fun y hy => h.nn y (List.mem_cons_of_mem _ hy), by have := h.len; rw [List.length_cons] at this; omega⟩
    · exact h
theorem takeR_rw {xs : List Int} {n : Int} (h : Rw xs) (hn : 0 < n) : Rw (takeR xs n) := by
  have h' := dropZ_rw h
  unfold takeR
  match dropZ xs, h' with
  | [], _ => exact ⟨(fun _ h => nomatch h), Nat.zero_le _⟩
  | x :: r, h' =>
    refine ⟨fun y hy => ?_, h'.len⟩
    rcases List.mem_cons.mp hy with rfl | hy
    · exact Int.ediv_nonneg (h'.nn x (List.mem_cons_self ..)) (by omega)
    · exact h'.nn y (List.mem_cons_of_mem _ hy)
theorem takeV_nn {xs : List Int} {n : Int} (h : Rw xs) (hn : 0 < n) : 0 ≤ takeV xs n := by
  unfold takeV
  match dropZ xs with
  | [] => exact Int.le_refl _
  | x :: _ => exact Int.fmod_nonneg_of_pos x hn
theorem takeV_lt {xs : List Int} {n : Int} (h : Rw xs) (hn : 0 < n) : takeV xs n < n := by
  unfold takeV
  match dropZ xs with
  | [] => exact hn
  | x :: _ => exact Int.fmod_lt_of_pos x hn
theorem takeV_B {xs : List Int} {n : Int} {k : Nat} (h : Rw xs) (hn : 0 < n) (hb : Bd k n) : Bd k (takeV xs n) := by
  have h1 := takeV_nn h hn
  have h2 := takeV_lt h hn
  unfold Bd at *
  omega
/-- one number of the row -/
def cellA (a b m c : Int) (k : Nat) (s u t v : Int) : Int := ((((c + a * k * k + b * k + m) * s).fmod u) * t).fmod v
def cellV (c : Int) (k : Nat) : Int :=
  if c ≥ 10 ^ 18 then c - 10 ^ 18
  else (cellA 7 13 5 c k 48271 2147483647 52021 1000000007 * 998244353 + cellA 11 17 3 c k 40692 2147483399 30011 998244353) * 1000000009 + cellA 5 29 8 c k 39373 2147483587 45989 1000000009
theorem cellV_nn (c : Int) (k : Nat) : 0 ≤ cellV c k := by
  unfold cellV
  split
  · omega
  · have h1 : 0 ≤ cellA 7 13 5 c k 48271 2147483647 52021 1000000007 := Int.fmod_nonneg_of_pos _ (by decide)
    have h2 : 0 ≤ cellA 11 17 3 c k 40692 2147483399 30011 998244353 := Int.fmod_nonneg_of_pos _ (by decide)
    have h3 : 0 ≤ cellA 5 29 8 c k 39373 2147483587 45989 1000000009 := Int.fmod_nonneg_of_pos _ (by decide)
    omega
def rowV (cs : List Int) : Nat → List Int
  | 0 => []
  | k + 1 => rowV cs k ++ [cellV (cs.getD k 0) k]
theorem rowV_len (cs : List Int) : ∀ k, (rowV cs k).length = k
  | 0 => rfl
  | k + 1 => by
    show (rowV cs k ++ [_]).length = _
    rw [List.length_append, rowV_len cs k]
    rfl
theorem rowV_nn (cs : List Int) : ∀ k, ∀ x ∈ rowV cs k, 0 ≤ x
  | 0, _, h => by cases h
  | k + 1, x, h => by
    rcases List.mem_append.mp h with h | h
    · exact rowV_nn cs k x h
    · cases List.mem_singleton.mp h
      exact cellV_nn _ _
end Ma
set_option Elab.async false
set_option linter.all false
set_option maxRecDepth 100000
set_option maxHeartbeats 1000000
namespace Sc
open PySem PySem.Spec PyProof.Rows L2 TL Ma
theorem dropZ_nz : ∀ {xs : List Int}, xs = [] ∨ xs.headD 0 ≠ 0 → dropZ xs = xs
  | [], _ => rfl
  | x :: r, h => by
    unfold dropZ
    rw [if_neg]
    rcases h with h | h
    · cases h
    · exact h
section
variable {P : Program} {w : World} {K : PySem.W.Frag} {mg : Str → Option Value} {base : Heap} {f : Addr} {fd : FuncData}
abbrev s__law_take : Stmt := top 38
abbrev N__law_take : List Str := ["_law_row_here", "_law_many", "_law_found"]
theorem sc__law_take : FnScope N__law_take ["_law_row_here", "_law_many"] (defScope s__law_take) := ⟨rfl, rfl, rfl, by decide +kernel, rfl, by decide +kernel, by decide +kernel⟩
def sp__law_take : Sp := spM (ι := List Int × Int) (fun i a => [⟨_, RA, a⟩, ⟨_, RI, i.2⟩]) (fun i => .lst RI i.1) (fun i => 0 < i.2 ∧ Bd 8000 i.2 ∧ i.1.length ≤ 63) (fun i => ⟨_, RI, takeV i.1 i.2⟩) (fun i => .lst RI (takeR i.1 i.2))
abbrev C__law_take (P : Program) (w : World) (K : PySem.W.Frag) (mg : Str → Option Value) (base : Heap) : Prop := Cal P w K mg base "_law_take" 1 ["_law_row_here", "_law_many"] (sp__law_take)
theorem ok__law_take (bl : Bl mg) (F : FnP K "_law_take" s__law_take [] f fd) : FnOk P w K mg base CX0 1 f fd ["_law_row_here", "_law_many"] (sp__law_take) := by
  refine okM F sc__law_take (fun _ _ => rfl) (by decide) (fun cdv A outer s H E hr i hp => ⟨_, (pss_cons (ps_while PassesOwn.never (PW.pt (pw_and (pt_cmpR op_gt (pe_callB call_len_seq (by rfl) bl.len_ (by first | rfl | decide +kernel) (pa_cons (pv 0) pa_nil)) pe_int (nomark _)) (pw_and1 (pt_cmpR op_eq (pe_ix ix_list (pv 0) pe_int (fun _ _ => rfl)) pe_int (nomark _))))) (pss_one (ps_expr (pe_bm PySem.F.plainAttrs_list PySem.F.slot_list_pop PySem.F.type_list_pop mt_popAt (pv 0) (pa_cons pe_int pa_nil)))))
    (pss_cons (ps_if (pt_cmpR op_eq (pe_callB call_len_seq (by rfl) bl.len_ (by first | rfl | decide +kernel) (pa_cons (pv 0) pa_nil)) pe_int (nomark _)) (pss_one (ps_ret pe_int)) pss_nil)
    (pss_cons (ps_set (i := 2) sc__law_take.nd rfl (.inl rfl) (pe_op op_modN (pe_ix ix_list (pv 0) pe_int (fun _ _ => rfl)) (pv 1)))
    (pss_cons (ps_asg (pe_op op_fdivW (pe_ix ix_list (pv 0) pe_int (fun _ _ => rfl)) (pv 1)) (pg_sub (pv 0) pe_int set_list))
    (pss_one (ps_ret (pv 2))))))), fun a C rt hC q => ?_⟩)
  obtain ⟨xs, n⟩ := i
  obtain ⟨h0, hbn, hl⟩ := hp
  dsimp only at h0 hbn hl q
  refine w_seq (w_while (ι := List Int) (fun _ => [sl RA a, sl RI n, none]) (fun ys => [(a, .lst RI ys)]) (fun ys => ys.length) (fun ys => (decide ((ys.length : Int) > 0) && decide (ys.headD 1 = 0))) xs ⟨rfl, fun _ _ h => h⟩ rfl (fun ys => dropZ ys = dropZ xs ∧ ys.length ≤ 63) ⟨rfl, hl⟩
    (fun ys _ => et_and (et_B (ev_cmp (ev_lenO (ev_var rfl) (List.mem_cons_self ..)) ev_int)) fun hgt => ?_) (fun ys hy hb => ?_) (fun ys hy hb => ?_))
  · have hgt : (ys.length : Int) > 0 := of_decide_eq_true hgt
    match ys, hgt with
    | y :: r, _ => exact et_B (ev_eqI (ev_ixO (ev_var rfl) ev_int (List.mem_cons_self ..) (show atI (y :: r) 0 = some y by unfold atI; rw [show ixN (y :: r).length 0 = some 0 by unfold ixN; simp]; rfl)) ev_int)
  · rw [Bool.and_eq_true] at hb
    have h1 : (ys.length : Int) > 0 := of_decide_eq_true hb.1
    have h2 : ys.headD 1 = 0 := of_decide_eq_true hb.2
    match ys, h1, h2, hy with
    | y :: r, _, h2, hy =>
      have h2 : y = 0 := h2
      subst h2
      refine ⟨r, Nat.lt_succ_self _, ⟨hy.1, by have := hy.2; rw [List.length_cons] at this; omega⟩, fun I hI => ?_⟩
      exact w_popO (jj := 0) (k := 0) (ev_var rfl) ev_int rfl (Nat.succ_pos _) (by decide) hI
  · obtain ⟨hy, hyl⟩ := hy
    have hd : dropZ xs = ys := by
      rw [← hy]
      match ys, hb with
      | [], _ => rfl
      | y :: r, hb =>
        refine dropZ_nz (.inr fun e => ?_)
        have e : y = 0 := e
        subst e
        simp at hb
    have eV : takeV xs n = headV n ys := by unfold takeV; rw [hd]
    have eR : takeR xs n = headR n ys := by unfold takeR; rw [hd]
    rw [eV, eR] at q
    match ys, q with
    | [], q =>
      refine w_seq (w_yes ((et_test (ev_eqI (ev_lenO (ev_var rfl) (List.mem_cons_self ..)) ev_int)).to rfl) ?_)
      exact w_re ev_int q (fun p hp => hp)
    | y :: r, q =>
      have ha : atI (y :: r) 0 = some y := by unfold atI; rw [show ixN (y :: r).length 0 = some 0 by unfold ixN; simp]; rfl
      have hn : ixN (y :: r).length 0 = some 0 := by unfold ixN; simp
      refine w_seq (w_no ((et_test (ev_eqI (ev_lenO (ev_var rfl) (List.mem_cons_self ..)) ev_int)).to (decide_eq_false (by rw [List.length_cons]; omega))) (w_nx ?_))
      refine w_seq (w_set (ev_I (ev_ixO (ev_var rfl) ev_int (List.mem_cons_self ..) ha) (ev_var rfl) (by omega)) ?_)
      refine w_seq (w_setO (k := 0) (jj := 0) (ev_I (ev_ixO (ev_var rfl) ev_int (List.mem_cons_self ..) ha) (ev_var rfl) (divOk h0 hbn (by decide))) (ev_var rfl) ev_int rfl hn ?_)
      exact w_re (ev_var rfl) q (fun p hp => hp)
abbrev s__law_row : Stmt := top 37
abbrev N__law_row : List Str := ["_law_script", "_law_row_here", "_law_k", "_law_cell", "_law_one", "_law_two", "_law_three"]
theorem sc__law_row : FnScope N__law_row ["_law_script"] (defScope s__law_row) := ⟨rfl, rfl, rfl, by decide +kernel, rfl, by decide +kernel, by decide +kernel⟩
def sp__law_row (K : PySem.W.Frag) : Sp := spN (ι := List Int) (fun i => [⟨_, RSc K, i⟩]) (fun i => i.length ≤ 63) RI (fun i => rowV i i.length)
abbrev C__law_row (P : Program) (w : World) (K : PySem.W.Frag) (mg : Str → Option Value) (base : Heap) : Prop := Cal P w K mg base "_law_row" 1 ["_law_script"] (sp__law_row K)
theorem ok__law_row (bl : Bl mg) (F : FnP K "_law_row" s__law_row [] f fd) : FnOk P w K mg base CX0 1 f fd ["_law_script"] (sp__law_row K) := by
  refine okN F sc__law_row (fun _ => rfl) (by decide) (fun cdv A outer s H E hr cs hl => ⟨_, (pss_cons (ps_set (i := 1) sc__law_row.nd rfl (.inl rfl) (pe_lst pa_nil))
    (pss_cons (ps_for PassesOwn.never rfl (pi_enum (by rfl) bl.enumerate_ (pa_cons (pe_slice sl_list (pv 0) po_none (po_some pe_int)) pa_nil)) (pg_tup (by rfl) (pgs_cons (pg_name (i := 2) sc__law_row.nd rfl (.inl rfl)) (pgs_cons (pg_name (i := 3) sc__law_row.nd rfl (.inl rfl)) pgs_nil))) (pss_one (ps_if (pt_cmpR op_ge (pv 3) (pe_op op_pow pe_int pe_int) (nomark _)) (pss_one (ps_expr (pe_bm PySem.F.plainAttrs_list PySem.F.slot_list_append PySem.F.type_list_append mt_append (pv 1) (pa_cons (pe_op op_sub (pv 3) (pe_op op_pow pe_int pe_int)) pa_nil)))) (pss_cons (ps_set (i := 4) sc__law_row.nd rfl (.inl rfl) (pe_op op_modN (pe_op op_mulX (pe_op op_add (pe_op op_add (pe_op op_add (pv 3) (pe_op op_mulX (pe_op op_mulX pe_int (pv 2)) (pv 2))) (pe_op op_mulX pe_int (pv 2))) pe_int) pe_int) pe_int))
    (pss_cons (ps_set (i := 5) sc__law_row.nd rfl (.inl rfl) (pe_op op_modN (pe_op op_mulX (pe_op op_add (pe_op op_add (pe_op op_add (pv 3) (pe_op op_mulX (pe_op op_mulX pe_int (pv 2)) (pv 2))) (pe_op op_mulX pe_int (pv 2))) pe_int) pe_int) pe_int))
    (pss_cons (ps_set (i := 6) sc__law_row.nd rfl (.inl rfl) (pe_op op_modN (pe_op op_mulX (pe_op op_add (pe_op op_add (pe_op op_add (pv 3) (pe_op op_mulX (pe_op op_mulX pe_int (pv 2)) (pv 2))) (pe_op op_mulX pe_int (pv 2))) pe_int) pe_int) pe_int))
    (pss_cons (ps_set (i := 4) sc__law_row.nd rfl (.inl rfl) (pe_op op_modN (pe_op op_mulX (pv 4) pe_int) pe_int))
    (pss_cons (ps_set (i := 5) sc__law_row.nd rfl (.inl rfl) (pe_op op_modN (pe_op op_mulX (pv 5) pe_int) pe_int))
    (pss_cons (ps_set (i := 6) sc__law_row.nd rfl (.inl rfl) (pe_op op_modN (pe_op op_mulX (pv 6) pe_int) pe_int))
    (pss_one (ps_expr (pe_bm PySem.F.plainAttrs_list PySem.F.slot_list_append PySem.F.type_list_append mt_append (pv 1) (pa_cons (pe_op op_add (pe_op op_mulX (pe_op op_add (pe_op op_mulX (pv 4) pe_int) (pv 5)) pe_int) (pv 6)) pa_nil)))))))))))))
    (pss_one (ps_ret (pv 1))))), fun C rt hC q => ?_⟩)
  have ec : cutX cs none (some 63) = cs := by
    unfold cutX
    rw [show HT.sIx cs.length 0 none = 0 from rfl, List.drop_zero, Nat.sub_zero]
    refine List.take_of_length_le ?_
    show cs.length ≤ HT.sIx cs.length cs.length (some 63)
    unfold HT.sIx
    simp
    omega
  refine w_seq (w_setN (R := RI) (xs := []) (en_lst ea_snil (le_by rfl)) fun a => ?_)
  refine w_seq (w_for (ei_enum (ea_cons (EvN.ev (EvN.to (en_slSc (ev_var rfl) eo_none (eo_some ev_int) (Nat.le_trans hl (by decide))) ec)) ea_nil)) (fun i => [sl (RSc K) cs, sl RA a, none, none, none, none, none])
    (fun i => [(a, .lst RI (rowV cs i))]) ⟨rfl, fun _ _ h => h⟩ rfl (fun _ _ => rfl) (fun C' I f1 f2 f3 hI i hi => ?_) ?_)
  · have hI' := hI (i + 1)
    show Wn C' _ [_, _, sl RI (i : Int), itS RI cs i, _, _, _] _
    rw [itS_get (List.getElem?_eq_getElem hi)]
    change Wn C' (I (i + 1)) _ [(a, .lst RI (rowV cs i ++ [cellV (cs.getD i 0) i]))] at hI'
    rw [show cs.getD i 0 = cs[i] by simp [List.getD_eq_getElem?_getD, hi]] at hI'
    obtain ⟨c, ec'⟩ : ∃ c, c = cs[i] := ⟨_, rfl⟩
    rw [← ec'] at hI' ⊢
    have hk : Bd 10 (i : Int) := by
      show (i : Int).natAbs < 2 ^ 10
      simp
      omega
    have rl : (rowV cs i).length ≤ 1000 := by rw [rowV_len]; omega
    have hp : CPow 10 18 := ⟨by decide, by decide, by decide⟩
    refine w_if (et_test (ev_cmp (ev_var rfl) (ev_I ev_int ev_int hp))) (fun h => ?_) fun h => ?_
    · have h : c ≥ 10 ^ 18 := of_decide_eq_true h
      refine w_app (ev_var rfl) (ev_I0 (ev_var rfl) (ev_I ev_int ev_int hp)) rl ?_
      rw [show cellV c i = c - 10 ^ 18 by unfold cellV; rw [if_pos h]] at hI'
      exact w_wk (wk_same (wk_same (wk_drop (wk_drop (wk_drop (wk_drop (wk_drop wk_nil))))))) hI'
    · have h : ¬ c ≥ 10 ^ 18 := of_decide_eq_false h
      rw [show cellV c i = _ by unfold cellV; rw [if_neg h]] at hI'
      refine w_seq (w_set (ev_I (ev_I (ev_I0 (ev_I0 (ev_I0 (ev_var rfl) (ev_I (ev_I ev_int (ev_var rfl) (by first | exact IntMulOk.of_right (by decide) | exact IntMulOk.of_left (by decide) | exact mulOk (Bd.mul (Bd.lit (a := 10) rfl) hk) hk (by decide))) (ev_var rfl) (by first | exact IntMulOk.of_right (by decide) | exact IntMulOk.of_left (by decide) | exact mulOk (Bd.mul (Bd.lit (a := 10) rfl) hk) hk (by decide)))) (ev_I ev_int (ev_var rfl) (by first | exact IntMulOk.of_right (by decide) | exact IntMulOk.of_left (by decide) | exact mulOk (Bd.mul (Bd.lit (a := 10) rfl) hk) hk (by decide)))) ev_int) ev_int (by first | exact IntMulOk.of_right (by decide) | exact IntMulOk.of_left (by decide) | exact mulOk (Bd.mul (Bd.lit (a := 10) rfl) hk) hk (by decide))) ev_int (by decide)) ?_)
      refine w_seq (w_set (ev_I (ev_I (ev_I0 (ev_I0 (ev_I0 (ev_var rfl) (ev_I (ev_I ev_int (ev_var rfl) (by first | exact IntMulOk.of_right (by decide) | exact IntMulOk.of_left (by decide) | exact mulOk (Bd.mul (Bd.lit (a := 10) rfl) hk) hk (by decide))) (ev_var rfl) (by first | exact IntMulOk.of_right (by decide) | exact IntMulOk.of_left (by decide) | exact mulOk (Bd.mul (Bd.lit (a := 10) rfl) hk) hk (by decide)))) (ev_I ev_int (ev_var rfl) (by first | exact IntMulOk.of_right (by decide) | exact IntMulOk.of_left (by decide) | exact mulOk (Bd.mul (Bd.lit (a := 10) rfl) hk) hk (by decide)))) ev_int) ev_int (by first | exact IntMulOk.of_right (by decide) | exact IntMulOk.of_left (by decide) | exact mulOk (Bd.mul (Bd.lit (a := 10) rfl) hk) hk (by decide))) ev_int (by decide)) ?_)
      refine w_seq (w_set (ev_I (ev_I (ev_I0 (ev_I0 (ev_I0 (ev_var rfl) (ev_I (ev_I ev_int (ev_var rfl) (by first | exact IntMulOk.of_right (by decide) | exact IntMulOk.of_left (by decide) | exact mulOk (Bd.mul (Bd.lit (a := 10) rfl) hk) hk (by decide))) (ev_var rfl) (by first | exact IntMulOk.of_right (by decide) | exact IntMulOk.of_left (by decide) | exact mulOk (Bd.mul (Bd.lit (a := 10) rfl) hk) hk (by decide)))) (ev_I ev_int (ev_var rfl) (by first | exact IntMulOk.of_right (by decide) | exact IntMulOk.of_left (by decide) | exact mulOk (Bd.mul (Bd.lit (a := 10) rfl) hk) hk (by decide)))) ev_int) ev_int (by first | exact IntMulOk.of_right (by decide) | exact IntMulOk.of_left (by decide) | exact mulOk (Bd.mul (Bd.lit (a := 10) rfl) hk) hk (by decide))) ev_int (by decide)) ?_)
      refine w_seq (w_set (ev_I (ev_I (ev_var rfl) ev_int (IntMulOk.of_right (by decide))) ev_int (by decide)) ?_)
      refine w_seq (w_set (ev_I (ev_I (ev_var rfl) ev_int (IntMulOk.of_right (by decide))) ev_int (by decide)) ?_)
      refine w_seq (w_set (ev_I (ev_I (ev_var rfl) ev_int (IntMulOk.of_right (by decide))) ev_int (by decide)) ?_)
      refine w_app (ev_var rfl) (ev_I0 (ev_I (ev_I0 (ev_I (ev_var rfl) ev_int (IntMulOk.of_right (by decide))) (ev_var rfl)) ev_int (IntMulOk.of_right (by decide))) (ev_var rfl)) rl ?_
      exact w_wk (wk_same (wk_same (wk_drop (wk_drop (wk_drop (wk_drop (wk_drop wk_nil))))))) hI'
  · exact w_retNew q hC rfl (by rw [rowV_len]; omega)
end
end Sc
set_option Elab.async false
set_option linter.all false
set_option maxRecDepth 100000
set_option maxHeartbeats 1000000
namespace Sc
open PySem PySem.Spec PyProof.Rows L2 TL Ma
section
variable {P : Program} {w : World} {K : PySem.W.Frag} {mg : Str → Option Value} {base : Heap} {f : Addr} {fd : FuncData}
abbrev s__law_raw_turn : Stmt := top 65
abbrev N__law_raw_turn : List Str := ["_law_corners", "_law_corner", "_law_b", "_law_c"]
theorem sc__law_raw_turn : FnScope N__law_raw_turn ["_law_corners"] (defScope s__law_raw_turn) := ⟨rfl, rfl, rfl, by decide +kernel, rfl, by decide +kernel, by decide +kernel⟩
def sp__law_raw_turn : Sp := spG (ι := V2 × V2 × V2) (fun i => [⟨_, RL (RL RI), [i.1.l, i.2.1.l, i.2.2.l]⟩]) (fun i => i.1.B 700 ∧ i.2.1.B 700 ∧ i.2.2.B 700) (fun i => ⟨_, RI, turn2 ⟨i.2.1.x - i.1.x, i.2.1.y - i.1.y⟩ ⟨i.2.2.x - i.1.x, i.2.2.y - i.1.y⟩⟩)
abbrev C__law_raw_turn (P : Program) (w : World) (K : PySem.W.Frag) (mg : Str → Option Value) (base : Heap) : Prop := Cal P w K mg base "_law_raw_turn" 3 ["_law_corners"] (sp__law_raw_turn)
theorem ok__law_raw_turn (bl : Bl mg) (c__law_turn : C__law_turn P w K mg base) (F : FnP K "_law_raw_turn" s__law_raw_turn [] f fd) : FnOk P w K mg base CX0 3 f fd ["_law_corners"] (sp__law_raw_turn) := by
  refine okG F sc__law_raw_turn (fun _ => rfl) (by decide) (fun cdv A outer s H E hr i hp => ⟨_, (pss_one (ps_ret (pcall c__law_turn (hr.mono (by decide)) (by rfl) (pa_cons (pe_lc (own := [("_law_corner", 1)]) (tt := tYes) rfl sc__law_raw_turn.nd (pi_list (pe_slice sl_list (pv 0) (po_some pe_int) po_none)) (blkOk_by (N := N__law_raw_turn) (sc := defScope s__law_raw_turn) (by decide +kernel)) (fun _ _ _ _ _ => (pg_name (i := 1) sc__law_raw_turn.nd rfl (.inl rfl))) (fun _ _ _ _ _ => pts_nil) (fun _ _ _ _ _ => (pe_lc (own := [("_law_b", 2), ("_law_c", 3)]) (tt := tYes) rfl sc__law_raw_turn.nd (show PI _ _ _ (RZ.iZipA K _) from RZ.pi_zipA (by rfl) bl.zip_ (pa_cons (pe_ix (r := rIxL K) ix_list (pv 0) pe_int (fun _ _ => rfl)) (pa_cons (pv 1) pa_nil))) (blkOk_by (by rfl)) (fun _ _ _ _ _ => (pg_tupK (K := K) (n := 2) rfl (by rfl) (pgs_cons (pg_name (i := 2) sc__law_raw_turn.nd rfl (.inl rfl)) (pgs_cons (pg_name (i := 3) sc__law_raw_turn.nd rfl (.inl rfl)) pgs_nil)))) (fun _ _ _ _ _ => pts_nil) (fun _ _ _ _ _ => (pe_op op_sub (pv 3) (pv 2)))))) pa_nil)))), fun C rt hC q => ?_⟩)
  obtain ⟨u, v, t⟩ := i
  obtain ⟨hu, hv, ht⟩ := hp
  dsimp only at hu hv ht
  exact w_re ((ev_call (Sum.inl (⟨v.x - u.x, v.y - u.y⟩, ⟨t.x - u.x, t.y - u.y⟩)) (ea_cons (EvN.ev (en_lc2 (ei_list (EvN.ev (en_slL (ev_var rfl) (eo_some ev_int) eo_none))) (by decide) rfl (EvN.ev (en_lc2 (ei_zipL (ea_cons (ev_ixL (ev_var rfl) ev_int rfl) (ea_cons (ev_var rfl) ea_nil))) (by decide) rfl (ev_I0 (ev_var rfl) (ev_var rfl)) (ev_I0 (ev_var rfl) (ev_var rfl)))) (EvN.ev (en_lc2 (ei_zipL (ea_cons (ev_ixL (ev_var rfl) ev_int rfl) (ea_cons (ev_var rfl) ea_nil))) (by decide) rfl (ev_I0 (ev_var rfl) (ev_var rfl)) (ev_I0 (ev_var rfl) (ev_var rfl)))))) ea_nil) ⟨⟨(hv.x.sub hu.x).mono (by decide), (hv.y.sub hu.y).mono (by decide)⟩, ⟨(ht.x.sub hu.x).mono (by decide), (ht.y.sub hu.y).mono (by decide)⟩⟩)) q (fun _ h => nomatch h)
end
end Sc
set_option Elab.async false
set_option linter.all false
set_option maxRecDepth 10000
/-! raw triangles, stretches, pushes: what a row gives -/
namespace Ma
open TL
/-! ### corners -/
def cornV (xs : List Int) (n : Int) : V2 := ⟨takeV xs n, takeV (takeR xs n) n⟩
def cornR (xs : List Int) (n : Int) : List Int := takeR (takeR xs n) n
def rawN (xs : List Int) (n : Int) : Nat → List V2 × List Int
  | 0 => ([], xs)
  | k + 1 => ((rawN xs n k).1 ++ [cornV (rawN xs n k).2 n], cornR (rawN xs n k).2 n)
def tri2 (u v t : V2) : Int := turn2 ⟨v.x - u.x, v.y - u.y⟩ ⟨t.x - u.x, t.y - u.y⟩
def tri2L : List V2 → Int
  | [u, v, t] => tri2 u v t
  | _ => 0
def rawD : List V2 := [⟨0, 0⟩, ⟨1, 0⟩, ⟨0, 1⟩]
def rawV (xs : List Int) (n : Int) : List V2 := if tri2L (rawN xs n 3).1 ≠ 0 then (rawN xs n 3).1 else rawD
def rawR (xs : List Int) (n : Int) : List Int := (rawN xs n 3).2
/-- corners of a true triangle, small -/
structure CT (c : List V2) : Prop where
  ex : ∃ u v t, c = [u, v, t] ∧ tri2 u v t ≠ 0
  b : ∀ u ∈ c, Bd 10 u.x ∧ Bd 10 u.y
theorem rawN_len (xs : List Int) (n : Int) : ∀ k, (rawN xs n k).1.length = k
  | 0 => rfl
  | k + 1 => by show ((rawN xs n k).1 ++ [_]).length = _; rw [List.length_append, rawN_len xs n k]; rfl
theorem cornR_rw {xs : List Int} {n : Int} (h : Rw xs) (hn : 0 < n) : Rw (cornR xs n) := takeR_rw (takeR_rw h hn) hn
theorem rawN_rw {xs : List Int} {n : Int} (h : Rw xs) (hn : 0 < n) : ∀ k, Rw (rawN xs n k).2
  | 0 => h
  | k + 1 => cornR_rw (rawN_rw h hn k) hn
theorem rawN_b {xs : List Int} {n : Int} (h : Rw xs) (hn : 0 < n) (hb : Bd 10 n) : ∀ k, ∀ u ∈ (rawN xs n k).1, Bd 10 u.x ∧ Bd 10 u.y
  | 0, _, hu => by cases hu
  | k + 1, u, hu => by
    rcases List.mem_append.mp hu with hu | hu
    · exact rawN_b h hn hb k u hu
    · cases List.mem_singleton.mp hu
      have r := rawN_rw h hn k
      exact ⟨takeV_B r hn hb, takeV_B (takeR_rw r hn) hn hb⟩
theorem rawR_rw {xs : List Int} {n : Int} (h : Rw xs) (hn : 0 < n) : Rw (rawR xs n) := rawN_rw h hn 3
theorem rawV_ct {xs : List Int} {n : Int} (h : Rw xs) (hn : 0 < n) (hb : Bd 10 n) : CT (rawV xs n) := by
  unfold rawV
  split
  · next e =>
    obtain ⟨u, v, t, e'⟩ := len3 (rawN_len xs n 3)
    refine ⟨⟨u, v, t, e', ?_⟩, rawN_b h hn hb 3⟩
    rw [e'] at e
    exact e
  · refine ⟨⟨_, _, _, rfl, by decide⟩, fun u hu => ?_⟩
    unfold rawD at hu
    simp only [List.mem_cons, List.not_mem_nil, or_false] at hu
    rcases hu with rfl | rfl | rfl <;> exact ⟨Bd.lit rfl, Bd.lit rfl⟩
def heapN (xs : List Int) : Nat → List (List V2) × List Int
  | 0 => ([], xs)
  | k + 1 =>
    let h := heapN xs k
    if takeV h.2 6 = 5 ∧ 0 < h.1.length then (h.1 ++ [h.1.getLastD []], takeR h.2 6)
    else (h.1 ++ [rawV (takeR h.2 6) (1 + (if takeV h.2 6 = 4 then 1 else 0) + 1)], rawR (takeR h.2 6) (1 + (if takeV h.2 6 = 4 then 1 else 0) + 1))
theorem heapN_len (xs : List Int) : ∀ k, (heapN xs k).1.length = k
  | 0 => rfl
  | k + 1 => by
    have ih := heapN_len xs k
    unfold heapN
    dsimp only
    split <;> (dsimp only; rw [List.length_append, ih]; rfl)
theorem two_three (p : Prop) [Decidable p] : 0 < (1 + (if p then 1 else 0) + 1 : Int) ∧ Bd 10 (1 + (if p then 1 else 0) + 1 : Int) := by
  by_cases h : p
  · rw [if_pos h]; exact ⟨by decide, Bd.lit rfl⟩
  · rw [if_neg h]; exact ⟨by decide, Bd.lit rfl⟩
theorem heapN_rw {xs : List Int} (h : Rw xs) : ∀ k, Rw (heapN xs k).2
  | 0 => h
  | k + 1 => by
    have ih := takeR_rw (heapN_rw h k) (n := 6) (by decide)
    unfold heapN
    dsimp only
    split
    · exact ih
    · exact rawR_rw ih (two_three _).1
theorem heapN_ct {xs : List Int} (h : Rw xs) : ∀ k, ∀ c ∈ (heapN xs k).1, CT c
  | 0, _, hc => by cases hc
  | k + 1, c, hc => by
    have ih := heapN_ct h k
    have rw' := takeR_rw (heapN_rw h k) (n := 6) (by decide)
    unfold heapN at hc
    dsimp only at hc
    split at hc
    · next e =>
      dsimp only at hc
      rcases List.mem_append.mp hc with hc | hc
      · exact ih c hc
      · cases List.mem_singleton.mp hc
        refine ih _ ?_
        have e2 := e.2
        match hh : (heapN xs k).1, e2 with
        | a :: l, _ =>
          rw [hh] at e2
          show (a :: l).getLastD [] ∈ a :: l
          rw [List.getLastD_cons]
          rw [List.getLastD_eq_getLast?]
          cases hl : l.getLast? with
          | none => simp
          | some y => exact List.mem_cons_of_mem _ (List.mem_of_getLast? hl)
    · dsimp only at hc
      rcases List.mem_append.mp hc with hc | hc
      · exact ih c hc
      · cases List.mem_singleton.mp hc
        exact rawV_ct rw' (two_three _).1 (two_three _).2
def rawHeapV (xs : List Int) : List (List V2) := (heapN (takeR xs 4) (takeV xs 4).toNat).1
def rawHeapR (xs : List Int) : List Int := (heapN (takeR xs 4) (takeV xs 4).toNat).2
/-! ### far points, stretches -/
def wideF (k : Int) : Int := [0, 3, 9, 10 ^ 12].getD k.toNat 0
def farS (xs : List Int) : Int × Int × List Int := (wideF (takeV xs 4), 1 + takeV (takeR xs 4) 9 * (takeV xs 4 / 2), takeR (takeR xs 4) 9)
def farV (xs : List Int) : P3 :=
  mk3 (takeV (farS xs).2.2 (2 * (farS xs).1 + 1) - (farS xs).1) (takeV (takeR (farS xs).2.2 (2 * (farS xs).1 + 1)) (2 * (farS xs).1 + 1) - (farS xs).1) (farS xs).2.1
def farR (xs : List Int) : List Int := takeR (takeR (farS xs).2.2 (2 * (farS xs).1 + 1)) (2 * (farS xs).1 + 1)
theorem wideF_cases {k : Int} (h0 : 0 ≤ k) (h4 : k < 4) : 0 ≤ wideF k ∧ Bd 41 (wideF k) ∧ L2.atI [0, 3, 9, 10 ^ 12] k = some (wideF k) := by
  obtain rfl | rfl | rfl | rfl : k = 0 ∨ k = 1 ∨ k = 2 ∨ k = 3 := by omega
  all_goals exact ⟨by decide, Bd.lit rfl, rfl⟩
structure FarOk (xs : List Int) : Prop where
  w0 : 0 ≤ (farS xs).1
  wB : Bd 41 (farS xs).1
  n0 : 0 < 2 * (farS xs).1 + 1
  nB : Bd 44 (2 * (farS xs).1 + 1)
  u0 : 0 < (farS xs).2.1
  uB : Bd 10 (farS xs).2.1
  rw : Rw (farS xs).2.2
theorem farOk {xs : List Int} (h : Rw xs) : FarOk xs := by
  have k0 := takeV_nn h (n := 4) (by decide)
  have k4 := takeV_lt h (n := 4) (by decide)
  obtain ⟨w0, wB, _⟩ := wideF_cases k0 k4
  have r1 := takeR_rw h (n := 4) (by decide)
  have t0 := takeV_nn r1 (n := 9) (by decide)
  have t9 := takeV_lt r1 (n := 9) (by decide)
  have d0 : 0 ≤ takeV xs 4 / 2 := by omega
  have d2 : takeV xs 4 / 2 ≤ 1 := by omega
  have m0 : 0 ≤ takeV (takeR xs 4) 9 * (takeV xs 4 / 2) := Int.mul_nonneg t0 d0
  have m9 : takeV (takeR xs 4) 9 * (takeV xs 4 / 2) ≤ 9 * 1 := Int.mul_le_mul (by omega) d2 d0 (by decide)
  have e1 : (farS xs).2.1 = 1 + takeV (takeR xs 4) 9 * (takeV xs 4 / 2) := rfl
  have e2 : (farS xs).1 = wideF (takeV xs 4) := rfl
  refine ⟨w0, wB, by rw [e2]; omega, ?_, by rw [e1]; omega, ?_, takeR_rw r1 (by decide)⟩
  · rw [e2]
    exact ((Bd.lit (a := 2) (x := 2) rfl).mul wB).add (Bd.lit (a := 2) (x := 1) rfl)
  · unfold Bd
    rw [e1]
    have : (2 : Nat) ^ 10 = 1024 := by decide
    omega
theorem farR_rw {xs : List Int} (h : Rw xs) : Rw (farR xs) := takeR_rw (takeR_rw (farOk h).rw (farOk h).n0) (farOk h).n0
theorem farV_B {xs : List Int} (h : Rw xs) : P3.B 45 (farV xs) := by
  have o := farOk h
  exact mk3_B (((takeV_B o.rw o.n0 o.nB).sub o.wB).mono (by decide)) (((takeV_B (takeR_rw o.rw o.n0) o.n0 o.nB).sub o.wB).mono (by decide)) (o.uB.mono (by decide)) o.u0
/-- a positive fraction -/
structure Fr2 where
  n : Int
  d : Int
def Fr2.l (f : Fr2) : List Int := [f.n, f.d]
def mkF (a b : Int) : Fr2 := ⟨a / (gcdL [a, b] : Int), b / (gcdL [a, b] : Int)⟩
theorem mkF_l (a b : Int) : (mkF a b).l = low [a, b] := rfl
structure Fr2.Ok (k : Nat) (f : Fr2) : Prop where
  n0 : 0 < f.n
  d0 : 0 < f.d
  nB : Bd k f.n
  dB : Bd k f.d
theorem mkF_of {a b : Int} (ha : 0 < a) (hb : 0 < b) : ∃ g : Int, 0 < g ∧ g * (mkF a b).n = a ∧ g * (mkF a b).d = b := by
  have hg : 0 < gcdL [a, b] := gcdL_pos (x := b) (by simp) (by omega)
  exact ⟨gcdL [a, b], by omega, Int.mul_ediv_cancel' (gcdL_dvd (by simp)), Int.mul_ediv_cancel' (gcdL_dvd (by simp))⟩
theorem mkF_ok {a b : Int} {k : Nat} (ha : 0 < a) (hb : 0 < b) (hA : Bd k a) (hB : Bd k b) : (mkF a b).Ok k := by
  obtain ⟨g, g0, e1, e2⟩ := mkF_of ha hb
  refine ⟨?_, ?_, bd_div _ hA, bd_div _ hB⟩
  · exact Int.pos_of_mul_pos_right (by rw [e1]; exact ha) (by omega)
  · exact Int.pos_of_mul_pos_right (by rw [e2]; exact hb) (by omega)
def topF (k : Int) : Int := [1, 7, 10 ^ 9].getD k.toNat 0
def botF (k : Int) : Int := [1, 7, 10 ^ 6].getD k.toNat 0
theorem topF_cases {k : Int} (h0 : 0 ≤ k) (h3 : k < 3) : 0 < topF k ∧ Bd 30 (topF k) ∧ L2.atI [1, 7, 10 ^ 9] k = some (topF k) := by
  obtain rfl | rfl | rfl : k = 0 ∨ k = 1 ∨ k = 2 := by omega
  all_goals exact ⟨by decide, Bd.lit rfl, rfl⟩
theorem botF_cases {k : Int} (h0 : 0 ≤ k) (h3 : k < 3) : 0 < botF k ∧ Bd 30 (botF k) ∧ L2.atI [1, 7, 10 ^ 6] k = some (botF k) := by
  obtain rfl | rfl | rfl : k = 0 ∨ k = 1 ∨ k = 2 := by omega
  all_goals exact ⟨by decide, Bd.lit rfl, rfl⟩
def strA (xs : List Int) : Int := 1 + takeV (takeR xs 3) (topF (takeV xs 3))
def strB (xs : List Int) : Int := 1 + takeV (takeR (takeR xs 3) (topF (takeV xs 3))) (botF (takeV xs 3))
def strV (xs : List Int) : Fr2 := mkF (strA xs) (strB xs)
def strR (xs : List Int) : List Int := takeR (takeR (takeR xs 3) (topF (takeV xs 3))) (botF (takeV xs 3))
structure StrOk (xs : List Int) : Prop where
  t0 : 0 < topF (takeV xs 3)
  tB : Bd 30 (topF (takeV xs 3))
  b0 : 0 < botF (takeV xs 3)
  bB : Bd 30 (botF (takeV xs 3))
  a0 : 0 < strA xs
  aB : Bd 32 (strA xs)
  c0 : 0 < strB xs
  cB : Bd 32 (strB xs)
  rw : Rw (strR xs)
theorem strOk {xs : List Int} (h : Rw xs) : StrOk xs := by
  have k0 := takeV_nn h (n := 3) (by decide)
  have k3 := takeV_lt h (n := 3) (by decide)
  obtain ⟨t0, tB, _⟩ := topF_cases k0 k3
  obtain ⟨b0, bB, _⟩ := botF_cases k0 k3
  have r1 := takeR_rw h (n := 3) (by decide)
  have r2 := takeR_rw r1 t0
  have v1 := takeV_nn r1 t0
  have v2 := takeV_nn r2 b0
  exact ⟨t0, tB, b0, bB, by unfold strA; omega, ((Bd.lit (a := 2) rfl).add (takeV_B r1 t0 tB)).mono (by decide), by unfold strB; omega, ((Bd.lit (a := 2) rfl).add (takeV_B r2 b0 bB)).mono (by decide), takeR_rw r2 b0⟩
theorem strV_ok {xs : List Int} (h : Rw xs) : (strV xs).Ok 32 := mkF_ok (strOk h).a0 (strOk h).c0 (strOk h).aB (strOk h).cB
/-! ### spots -/
def spotV (c : V2) (f g : Fr2) : P3 := mk3 (c.x * f.n * (f.d * g.d / f.d)) (c.y * g.n * (f.d * g.d / g.d)) (f.d * g.d)
theorem spot_eq (c : V2) {f g : Fr2} (hf : 0 < f.d) (hg : 0 < g.d) : spotV c f g = mk3 (c.x * f.n * g.d) (c.y * g.n * f.d) (f.d * g.d) := by
  unfold spotV
  rw [Int.mul_ediv_cancel_left _ (by omega), Int.mul_ediv_cancel _ (by omega)]
theorem spot_B {c : V2} {f g : Fr2} (hx : Bd 10 c.x) (hy : Bd 10 c.y) (hf : f.Ok 32) (hg : g.Ok 32) : P3.B 80 (spotV c f g) := by
  rw [spot_eq c hf.d0 hg.d0]
  exact mk3_B (((hx.mul hf.nB).mul hg.dB).mono (by decide)) (((hy.mul hg.nB).mul hf.dB).mono (by decide)) ((hf.dB.mul hg.dB).mono (by decide)) (Int.mul_pos hf.d0 hg.d0)
theorem spot_D3 {u v t : V2} {f g : Fr2} (hf : f.Ok 32) (hg : g.Ok 32) (h : tri2 u v t ≠ 0) : D3 (spotV u f g) (spotV v f g) (spotV t f g) ≠ 0 := by
  rw [spot_eq u hf.d0 hg.d0, spot_eq v hf.d0 hg.d0, spot_eq t hf.d0 hg.d0]
  have w0 := Int.mul_pos hf.d0 hg.d0
  obtain ⟨a, a0, a1, a2, a3⟩ := mk3_of (u.x * f.n * g.d) (u.y * g.n * f.d) (f.d * g.d) w0
  obtain ⟨b, b0, b1, b2, b3⟩ := mk3_of (v.x * f.n * g.d) (v.y * g.n * f.d) (f.d * g.d) w0
  obtain ⟨c, c0, c1, c2, c3⟩ := mk3_of (t.x * f.n * g.d) (t.y * g.n * f.d) (f.d * g.d) w0
  have e := D3_scale a b c (mk3 (u.x * f.n * g.d) (u.y * g.n * f.d) (f.d * g.d)) (mk3 (v.x * f.n * g.d) (v.y * g.n * f.d) (f.d * g.d)) (mk3 (t.x * f.n * g.d) (t.y * g.n * f.d) (f.d * g.d))
  rw [a1, a2, a3, b1, b2, b3, c1, c2, c3] at e
  intro z
  rw [z] at e
  have e' : D3 ⟨u.x * f.n * g.d, u.y * g.n * f.d, f.d * g.d⟩ ⟨v.x * f.n * g.d, v.y * g.n * f.d, f.d * g.d⟩ ⟨t.x * f.n * g.d, t.y * g.n * f.d, f.d * g.d⟩ = (f.n * g.n) * (f.d * g.d * (f.d * g.d)) * tri2 u v t := by
    simp only [D3, tri2, turn2]
    grind
  rw [e'] at e
  have n0 : (f.n * g.n) * (f.d * g.d * (f.d * g.d)) ≠ 0 := by
    have h1 := Int.mul_pos hf.n0 hg.n0
    have h2 := Int.mul_pos w0 w0
    have h3 := Int.mul_pos h1 h2
    omega
  exact Int.mul_ne_zero n0 h (by rw [e]; omega)
end Ma
namespace Ma
open TL
def strN (xs : List Int) : Nat → List Fr2 × List Int
  | 0 => ([], xs)
  | k + 1 => ((strN xs k).1 ++ [strV (strN xs k).2], strR (strN xs k).2)
theorem strN_rw {xs : List Int} (h : Rw xs) : ∀ k, Rw (strN xs k).2
  | 0 => h
  | k + 1 => (strOk (strN_rw h k)).rw
theorem strN_len (xs : List Int) : ∀ k, (strN xs k).1.length = k
  | 0 => rfl
  | k + 1 => by show ((strN xs k).1 ++ [_]).length = _; rw [List.length_append, strN_len xs k]; rfl
def laidN (xs : List Int) (hs : List (List V2)) (f g : Fr2) : Nat → List (List P3) × List Int
  | 0 => ([], xs)
  | k + 1 => ((laidN xs hs f g k).1 ++ [simpT ((hs.getD k []).map fun u => add3 (spotV u f g) (farV (laidN xs hs f g k).2))], farR (laidN xs hs f g k).2)
theorem laidN_len (xs : List Int) (hs : List (List V2)) (f g : Fr2) : ∀ k, (laidN xs hs f g k).1.length = k
  | 0 => rfl
  | k + 1 => by show ((laidN xs hs f g k).1 ++ [_]).length = _; rw [List.length_append, laidN_len xs hs f g k]; rfl
theorem laidN_rw {xs : List Int} (hs : List (List V2)) (f g : Fr2) (h : Rw xs) : ∀ k, Rw (laidN xs hs f g k).2
  | 0 => h
  | k + 1 => farR_rw (laidN_rw hs f g h k)
/-- a laid triangle -/
structure LT (t : List P3) : Prop where
  len : t.length = 3
  b : ∀ p ∈ t, P3.B 126 p
  d : D3L t ≠ 0
  g : ∀ p ∈ t, gcdL p.l = 1
theorem add3_gcd {p s : P3} (hp : 0 < p.w) (hs : 0 < s.w) : gcdL (add3 p s).l = 1 := by
  show gcdL (low [p.x * s.w + s.x * p.w, p.y * s.w + s.y * p.w, p.w * s.w]) = 1
  refine low_gcd (gcdL_pos (x := p.w * s.w) (by simp) ?_)
  have := Int.mul_pos hp hs
  omega
theorem simpT_lt {p q r : P3} (hp : P3.B 126 p) (hq : P3.B 126 q) (hr : P3.B 126 r) (h : D3 p q r ≠ 0) (gp : gcdL p.l = 1) (gq : gcdL q.l = 1) (gr : gcdL r.l = 1) : LT (simpT [p, q, r]) := by
  have pe := simpT_perm [p, q, r]
  refine ⟨pe.length_eq, fun x hx => ?_, ?_, fun x hx => ?_⟩
  rotate_right
  · have := pe.mem_iff.mp hx
    simp only [List.mem_cons, List.not_mem_nil, or_false] at this
    rcases this with rfl | rfl | rfl <;> assumption
  · have := pe.mem_iff.mp hx
    simp only [List.mem_cons, List.not_mem_nil, or_false] at this
    rcases this with rfl | rfl | rfl <;> assumption
  · have h' : D3L [p, q, r] ≠ 0 := h
    rcases D3L_perm pe with e | e <;> omega
theorem laid1 {c : List V2} {f g : Fr2} {s : P3} (hc : CT c) (hf : f.Ok 32) (hg : g.Ok 32) (hs : P3.B 45 s) : LT (simpT (c.map fun u => add3 (spotV u f g) s)) := by
  obtain ⟨⟨u, v, t, rfl, ht⟩, hb⟩ := hc
  have b : ∀ w ∈ [u, v, t], P3.B 80 (spotV w f g) := fun w hw => spot_B (hb w hw).1 (hb w hw).2 hf hg
  have b1 := b u (by simp)
  have b2 := b v (by simp)
  have b3 := b t (by simp)
  exact simpT_lt (add3_B b1 hs) (add3_B b2 hs) (add3_B b3 hs) (D3_add3 b1.w0 b2.w0 b3.w0 hs.w0 (spot_D3 hf hg ht)) (add3_gcd b1.w0 hs.w0) (add3_gcd b2.w0 hs.w0) (add3_gcd b3.w0 hs.w0)
theorem laidN_lt {xs : List Int} {hs : List (List V2)} {f g : Fr2} (h : Rw xs) (hc : ∀ c ∈ hs, CT c) (hf : f.Ok 32) (hg : g.Ok 32) : ∀ k, k ≤ hs.length → ∀ t ∈ (laidN xs hs f g k).1, LT t
  | 0, _, _, ht => by cases ht
  | k + 1, hk, t, ht => by
    rcases List.mem_append.mp ht with ht | ht
    · exact laidN_lt h hc hf hg k (by omega) t ht
    · cases List.mem_singleton.mp ht
      refine laid1 (hc _ ?_) hf hg (farV_B (laidN_rw hs f g h k))
      rw [List.getD_eq_getElem?_getD, List.getElem?_eq_getElem (by omega)]
      exact List.getElem_mem _
end Ma
set_option Elab.async false
set_option linter.all false
set_option maxRecDepth 100000
set_option maxHeartbeats 1000000
namespace TL
open PySem PySem.Spec PyProof.Rows L2
section
variable {α β : Type} {C : Ctx} {Γ : Cn} {Δ Δ1 Δ2 Δ3 Δr Δ' : Mn} {R : Rl α} {S : Rl β} {te : TE} {t : TS} {K : PySem.W.Frag} {Nx bkk ctt : L2.St → Hp → Prop} {rtt : VK} {wi : TI} {g : TG} {js vs : List Nat} {n : Nat} {st : Nat → Cn → Cn} {a b c : β}
/-- an owned list that stays as it is from now on -/
theorem w_freeze {i : Nat} {p : Addr} {xs : List α} (hi : Γ[i]? = some (some ⟨Addr, RA, p⟩)) (hz : xs.length ≤ 1000) (hf : ∀ a ∈ C.fa, a ∈ adr Δr) (h : Wn C Nx (Γ.set i (sl (RL R) xs)) Δr) : Wn C Nx Γ ((p, .lst R xs) :: Δr) := fun σ Hs H k f => by
  obtain ⟨v, h1, h2⟩ := k.slot i _ hi
  obtain ⟨⟨vs, e, pr⟩, hn⟩ := k.own (List.mem_cons_self ..)
  have hnd := List.nodup_cons.mp k.nd
  have s1 : Same Hs (upd Hs p (.lst vs)) := fun c u e' => by
    have : c ≠ p := fun z => by rw [z, hn] at e'; cases e'
    rw [upd_ne this]; exact e'
  have nb : C.H p = none := by
    rcases f.own p (List.mem_cons_self ..) with z | z
    · exact absurd (hf p z) hnd.1
    · exact z
  refine h σ (upd Hs p (.lst vs)) H ⟨fun c u e' => ?_, by rw [List.length_set]; exact k.len, fun j s e' => ?_, hnd.2, fun m hm => ?_⟩ ⟨⟨fun c u e => s1 _ _ (f.stp.s1 _ _ e), f.stp.keep, fun c hc => ?_, f.stp.live⟩, fun a ha => f.own a (List.mem_cons_of_mem _ ha), fun c u e => s1 _ _ (f.fl _ _ e)⟩
  · by_cases hc : c = p
    · subst hc; rw [upd_same] at e'; rw [e]; exact e'
    · rw [upd_ne hc] at e'; exact k.sub _ _ e'
  · by_cases hj : i = j
    · subst hj
      have hl : i < Γ.length := (List.getElem?_eq_some_iff.mp hi).1
      rw [List.getElem?_set_self hl] at e'
      cases e'
      exact ⟨v, h1, p, vs, h2, upd_same, pair_mono (fun _ _ w => R.mono s1 w) pr, Nat.le_of_lt (small1000 hz)⟩
    · rw [List.getElem?_set_ne hj] at e'
      obtain ⟨v', g1, g2⟩ := k.slot j s e'
      exact ⟨v', g1, s.R.mono s1 g2⟩
  · obtain ⟨q1, q2⟩ := k.mo m (List.mem_cons_of_mem _ hm)
    have hne : m.1 ≠ p := fun z => hnd.1 (by have := mem_adr hm; rw [z] at this; exact this)
    exact ⟨m.2.ok_mono q1 s1 rfl, by rw [upd_ne hne]; exact q2⟩
  · by_cases hcb : c = p
    · subst hcb; exact .inr nb
    · rw [upd_ne hcb] at hc; exact f.stp.new c hc
theorem en_lc2M (hI : EvI wi g js Γ Δ n st) (hj : ∀ j ∈ js, j ∈ vs) (hn : n = 2) (h0 : Ev te (st 0 (wpC Γ vs)) Δ S a Δ1) (h1 : Ev te (st 1 (wpC Γ vs)) Δ1 S b Δ2) : EvN (tLc wi g tYes te vs) Γ Δ S [a, b] Δ2 := by
  subst hn
  refine en_lc hI hj (fun i => if i = 0 then a else b) (fun i => if i = 0 then Δ else if i = 1 then Δ1 else Δ2) rfl (by decide) fun i hi => ?_
  obtain rfl | rfl : i = 0 ∨ i = 1 := by omega
  · exact h0
  · exact h1
theorem en_lc3M (hI : EvI wi g js Γ Δ n st) (hj : ∀ j ∈ js, j ∈ vs) (hn : n = 3) (h0 : Ev te (st 0 (wpC Γ vs)) Δ S a Δ1) (h1 : Ev te (st 1 (wpC Γ vs)) Δ1 S b Δ2) (h2 : Ev te (st 2 (wpC Γ vs)) Δ2 S c Δ3) : EvN (tLc wi g tYes te vs) Γ Δ S [a, b, c] Δ3 := by
  subst hn
  refine en_lc hI hj (fun i => if i = 0 then a else if i = 1 then b else c) (fun i => if i = 0 then Δ else if i = 1 then Δ1 else if i = 2 then Δ2 else Δ3) rfl (by decide) fun i hi => ?_
  obtain rfl | rfl | rfl : i = 0 ∨ i = 1 ∨ i = 2 := by omega
  · exact h0
  · exact h1
  · exact h2
/-- range(e), where e changes what is owned -/
theorem w_forR {j : Nat} {m : Int} (h : EvA (tCons te tNil) Γ Δ [⟨Int, RI, m⟩] Δ') (hm : m < 1000) (h0 : 0 ≤ m) (Γs : Nat → Cn) (Δs : Nat → Mn) (hw : Wk Γ (Γs 0)) (hΔ : Δs 0 = Δ') (hl : ∀ i, i < m.toNat → (Γs i).length = Γ.length)
    (hb : ∀ (C' : Ctx) (I : Nat → L2.St → Hp → Prop), C'.fa = C.fa → C'.Hs = C.Hs → C'.H = C.H → (∀ i, Wn C' (I i) (Γs i) (Δs i)) → ∀ i, i < m.toNat → Wn C' (t ⟨I (i + 1), rtt, Nx, I (i + 1)⟩) ((Γs i).set j (sl RI (i : Int))) (Δs i))
    (hd : Wn C Nx (Γs m.toNat) (Δs m.toNat)) (hj : j < Γ.length := by exact lt_by rfl) : Wn C (tFor (iRng1 (tCons te tNil)) (gName j) t ⟨Nx, rtt, bkk, ctt⟩) Γ Δ := fun σ Hs H k f => by
  unfold tFor iRng1
  refine h.run σ Hs H k _ fun vs Hs' H' k' s r => ?_
  · cases r with
    | cons h1 r =>
      cases r
      subst hΔ
      have f' := f.step h.same s
      refine ⟨m, by rw [show _ = V.int m from h1], by omega, by omega, ?_⟩
      refine for_it (walk_range (lo := 0) (n := m.toNat)) (fun i σ1 H1 => ∃ Hs1, Ok Hs1 H1 σ1 (Γs i) (Δs i) ∧ Fr ⟨C.fa, C.Hs, C.H, Hs'⟩ Hs1 H1 (Δs i)) ⟨Hs', k'.wk hw, f'.stp, f'.own, fun _ _ e => e⟩ (fun i σ1 H1 _ _ => trivial) (fun i x σ1 H1 H2 hi ⟨Hs1, k1, f1⟩ y => ?_) fun σ1 H1 ⟨Hs1, k1, f1⟩ => ?_
      · obtain ⟨e2, e3⟩ := y
        refine one_slot (s := sl RI (i : Int)) k1 e2 (by rw [hl i hi]; exact hj) (fun s' e => by cases e; rw [e3]; show V.int _ = V.int _; rw [Int.zero_add]) fun σ2 k2 nw _ _ => ?_
        exact hb ⟨C.fa, C.Hs, C.H, Hs'⟩ (fun i σ1 H1 => ∃ Hs1, Ok Hs1 H1 σ1 (Γs i) (Δs i) ∧ Fr ⟨C.fa, C.Hs, C.H, Hs'⟩ Hs1 H1 (Δs i)) rfl rfl rfl (fun i σ3 Hs3 H3 k3 f3 => ⟨Hs3, k3, f3⟩) i hi σ2 Hs1 H2 k2 (f1.step rfl nw.stp)
      · exact hd σ1 Hs1 H1 k1 ⟨f1.stp, f1.own, fun b o e => f1.fl _ _ (f'.fl _ _ e)⟩
theorem ev_callE {ι : Type} {as : ι → Addr → List Slot} {m : ι → MO} {pre : ι → Prop} {res : ι → Slot} {m' : ι → MO} {E : XK} {t : TA} {a : Addr} (i : ι) (k : Nat) (h : EvA t Γ Δ (as i a) Δ1) (hk : Δ1[k]? = some (a, m i)) (hp : pre i) (e : Δ1.set k (a, m' i) = Δ2) : Ev (tCall (spM as m pre res m') [] E t) Γ Δ (res i).R (res i).x Δ2 := e ▸ ev_callM i k h hk trivial hp
theorem bdL {x : Int} (h : Nat.blt x.natAbs 1024 = true) : Bd 8000 x := Bd.mono (a := 10) (Bd.lit h) (by decide)
theorem nd_t {p : Prop} [Decidable p] (h : (!decide p) = true) : ¬ p := fun z => by rw [decide_eq_true z] at h; cases h
theorem nd_f {p : Prop} [Decidable p] (h : (!decide p) = false) : p := by
  by_cases z : p
  · exact z
  · rw [decide_eq_false z] at h; cases h
end
end TL
namespace Sc
open PySem PySem.Spec PyProof.Rows L2 TL Ma
theorem b2i_if (p : Prop) [Decidable p] : TL.b2i (decide p) = if p then 1 else 0 := by
  unfold TL.b2i
  by_cases h : p <;> simp [h]
theorem atI_last {α : Type} {xs : List α} (d : α) (h : 0 < xs.length) : atI xs (-1) = some (xs.getLastD d) := by
  unfold atI
  have : ixN xs.length (-1) = some (xs.length - 1) := by
    unfold ixN
    simp
    omega
  rw [this]
  show xs[xs.length - 1]? = _
  rw [← List.getLast?_eq_getElem?, List.getLastD_eq_getLast?]
  cases e : xs.getLast? with
  | none => rw [List.getLast?_eq_none_iff] at e; rw [e] at h; cases h
  | some y => rfl
section
variable {P : Program} {w : World} {K : PySem.W.Frag} {mg : Str → Option Value} {base : Heap} {f : Addr} {fd : FuncData}
abbrev s__law_raw : Stmt := top 64
abbrev N__law_raw : List Str := ["_law_row_here", "_law_dims", "_law_wide", "_law_corners", "_law_k", "_law_m"]
theorem sc__law_raw : FnScope N__law_raw ["_law_row_here", "_law_dims", "_law_wide"] (defScope s__law_raw) := ⟨rfl, rfl, rfl, by decide +kernel, rfl, by decide +kernel, by decide +kernel⟩
def sp__law_raw : Sp := spM (ι := List Int × Int) (fun i a => [⟨_, RA, a⟩, ⟨_, RI, 2⟩, ⟨_, RI, i.2⟩]) (fun i => .lst RI i.1) (fun i => Rw i.1 ∧ 0 < i.2 + 1 ∧ Bd 10 (i.2 + 1)) (fun i => ⟨_, RL (RL RI), (rawV i.1 (i.2 + 1)).map V2.l⟩) (fun i => .lst RI (rawR i.1 (i.2 + 1)))
abbrev C__law_raw (P : Program) (w : World) (K : PySem.W.Frag) (mg : Str → Option Value) (base : Heap) : Prop := Cal P w K mg base "_law_raw" 4 ["_law_row_here", "_law_dims", "_law_wide"] (sp__law_raw)
theorem ok__law_raw (bl : Bl mg) (c__law_raw_turn : C__law_raw_turn P w K mg base) (c__law_take : C__law_take P w K mg base) (F : FnP K "_law_raw" s__law_raw [] f fd) : FnOk P w K mg base CX0 4 f fd ["_law_row_here", "_law_dims", "_law_wide"] (sp__law_raw) := by
  refine okM F sc__law_raw (fun _ _ => rfl) (by decide) (fun cdv A outer s H E hr i hp => ⟨_, (pss_cons (ps_set (i := 3) sc__law_raw.nd rfl (.inl rfl) (pe_lst pa_nil))
    (pss_cons (ps_for PassesOwn.never rfl (pi_range1 (by rfl) bl.range_ (pa_cons (pe_op op_add (pv 1) pe_int) pa_nil)) (pg_name (i := 4) sc__law_raw.nd rfl (.inl rfl)) (pss_one (ps_expr (pe_bm PySem.F.plainAttrs_list PySem.F.slot_list_append PySem.F.type_list_append mt_append (pv 3) (pa_cons (pe_lc (own := [("_law_m", 5)]) (tt := tYes) rfl sc__law_raw.nd (pi_range1 (by rfl) bl.range_ (pa_cons (pv 1) pa_nil)) (blkOk_by (N := N__law_raw) (sc := defScope s__law_raw) (by decide +kernel)) (fun _ _ _ _ _ => (pg_name (i := 5) sc__law_raw.nd rfl (.inl rfl))) (fun _ _ _ _ _ => pts_nil) (fun _ _ _ _ _ => (pcall c__law_take (hr.mono (by decide)) (by rfl) (pa_cons (pv 0) (pa_cons (pe_op op_add (pv 2) pe_int) pa_nil))))) pa_nil)))))
    (pss_cons (ps_if (pt_cmpR op_ne (pcall c__law_raw_turn (hr.mono (by decide)) (by rfl) (pa_cons (pv 3) pa_nil)) pe_int (nomark _)) (pss_one (ps_ret (pv 3))) pss_nil)
    (pss_one (ps_ret (pe_lc (own := [("_law_k", 4)]) (tt := tYes) rfl sc__law_raw.nd (pi_range2 (by rfl) bl.range_ (pa_cons (pe_un un_neg pe_int) (pa_cons (pv 1) pa_nil))) (blkOk_by (N := N__law_raw) (sc := defScope s__law_raw) (by decide +kernel)) (fun _ _ _ _ _ => (pg_name (i := 4) sc__law_raw.nd rfl (.inr rfl))) (fun _ _ _ _ _ => pts_nil) (fun _ _ _ _ _ => (pe_lc (own := [("_law_m", 5)]) (tt := tYes) rfl sc__law_raw.nd (pi_range1 (by rfl) bl.range_ (pa_cons (pv 1) pa_nil)) (blkOk_by (by rfl)) (fun _ _ _ _ _ => (pg_name (i := 5) sc__law_raw.nd rfl (.inl rfl))) (fun _ _ _ _ _ => pts_nil) (fun _ _ _ _ _ => (pe_callTy call_int1 (by rfl) bl.int_ (by first | rfl | decide +kernel) (pa_cons (pe_cmpR op_eq (pv 5) (pv 4) (nomark _)) pa_nil))))))))))), fun a C rt hC q => ?_⟩)
  obtain ⟨xs, wd⟩ := i
  obtain ⟨hR, hn, hB⟩ := hp
  dsimp only at hR hn hB q
  refine w_seq (w_setN (R := RL RI) (xs := []) (en_lst ea_snil (le_by rfl)) fun b => ?_)
  refine w_seq (w_for (ei_rng1 (n := 2 + 1) (ea_cons (ev_I0 (ev_var rfl) ev_int) ea_nil) (by decide) (by decide)) (fun _ => [sl RA a, sl RI 2, sl RI wd, sl RA b, none, none])
    (fun i => [(b, .lst (RL RI) ((rawN xs (wd + 1) i).1.map V2.l)), (a, .lst RI (rawN xs (wd + 1) i).2)]) ⟨rfl, fun _ _ h => h⟩ rfl (fun _ _ => rfl) (fun C' I _ _ _ hI i hi => ?_) ?_)
  · have hI' := hI (i + 1)
    have hi : i < 3 := hi
    have rR := rawN_rw hR hn i
    have rL := rawN_len xs (wd + 1) i
    change Wn C' (I (i + 1)) _ [(b, .lst (RL RI) (((rawN xs (wd + 1) i).1 ++ [cornV (rawN xs (wd + 1) i).2 (wd + 1)]).map V2.l)), (a, .lst RI (cornR (rawN xs (wd + 1) i).2 (wd + 1)))] at hI'
    rw [List.map_append] at hI'
    obtain ⟨r, er⟩ : ∃ r, r = (rawN xs (wd + 1) i).2 := ⟨_, rfl⟩
    obtain ⟨l, el⟩ : ∃ l, l = (rawN xs (wd + 1) i).1 := ⟨_, rfl⟩
    rw [← el] at rL hI' ⊢
    rw [← er] at rR hI' ⊢
    refine w_app (ev_var rfl) (EvN.ev (en_lc2M (ei_rng1 (n := 2) (ea_cons (ev_var rfl) ea_nil) (by decide) (by decide)) (by decide) rfl
      (ev_callE (r, wd + 1) 1 (ea_cons (ev_var rfl) (ea_cons (ev_I0 (ev_var rfl) ev_int) ea_nil)) rfl ⟨hn, hB.mono (by decide), rR.len⟩ rfl)
      (ev_callE (takeR r (wd + 1), wd + 1) 1 (ea_cons (ev_var rfl) (ea_cons (ev_I0 (ev_var rfl) ev_int) ea_nil)) rfl ⟨hn, hB.mono (by decide), (takeR_rw rR hn).len⟩ rfl))) (by rw [List.length_map, rL]; omega) ?_
    exact w_wk (wk_same (wk_same (wk_same (wk_same (wk_drop (wk_same wk_nil)))))) hI'
  · obtain ⟨u, v, t, e3⟩ := len3 (rawN_len xs (wd + 1) 3)
    have hb3 := rawN_b hR hn hB 3
    have rV : rawV xs (wd + 1) = if tri2L (rawN xs (wd + 1) 3).1 ≠ 0 then (rawN xs (wd + 1) 3).1 else rawD := rfl
    rw [e3] at rV hb3
    rw [rV] at q
    change Wn C _ _ [(b, .lst (RL RI) ((rawN xs (wd + 1) 3).1.map V2.l)), (a, .lst RI (rawR xs (wd + 1)))]
    rw [e3]
    refine w_freeze (i := 3) rfl (le_by rfl) (fun x hx => by rw [hC] at hx; exact hx) ?_
    have bb : ∀ x ∈ [u, v, t], V2.B 700 x := fun x hx => ⟨(hb3 x hx).1.mono (by decide), (hb3 x hx).2.mono (by decide)⟩
    refine w_seq (w_if (et_test (ev_neI (ev_call (u, v, t) (ea_cons (ev_var rfl) ea_nil) ⟨bb _ (by simp), bb _ (by simp), bb _ (by simp)⟩) ev_int)) (fun h => ?_) fun h => w_nx ?_)
    · have h : ¬ tri2 u v t = 0 := nd_t h
      rw [if_pos (show tri2L [u, v, t] ≠ 0 from h)] at q
      exact w_re (ev_var rfl) q (fun p hp => hp)
    · have h : tri2 u v t = 0 := nd_f h
      rw [if_neg (show ¬ tri2L [u, v, t] ≠ 0 from fun z => z h)] at q
      refine w_re (Ev.to (EvN.ev (en_lc3 (ei_rng2 (lo := -1) (n := 2) (ea_cons (ev_neg ev_int) (ea_cons (ev_var rfl) ea_nil)) (by decide) (by decide)) (by decide) rfl
        (EvN.ev (en_lc2 (ei_rng1 (n := 2) (ea_cons (ev_var rfl) ea_nil) (by decide) (by decide)) (by decide) rfl (ev_intB (ev_eqI (ev_var rfl) (ev_var rfl))) (ev_intB (ev_eqI (ev_var rfl) (ev_var rfl)))))
        (EvN.ev (en_lc2 (ei_rng1 (n := 2) (ea_cons (ev_var rfl) ea_nil) (by decide) (by decide)) (by decide) rfl (ev_intB (ev_eqI (ev_var rfl) (ev_var rfl))) (ev_intB (ev_eqI (ev_var rfl) (ev_var rfl)))))
        (EvN.ev (en_lc2 (ei_rng1 (n := 2) (ea_cons (ev_var rfl) ea_nil) (by decide) (by decide)) (by decide) rfl (ev_intB (ev_eqI (ev_var rfl) (ev_var rfl))) (ev_intB (ev_eqI (ev_var rfl) (ev_var rfl))))))) ?_) q (fun p hp => hp)
      rfl
abbrev s__law_raw_heap : Stmt := top 67
abbrev N__law_raw_heap : List Str := ["_law_row_here", "_law_dims", "_law_many", "_law_heap", "_law_k", "_law_kind"]
theorem sc__law_raw_heap : FnScope N__law_raw_heap ["_law_row_here", "_law_dims", "_law_many"] (defScope s__law_raw_heap) := ⟨rfl, rfl, rfl, by decide +kernel, rfl, by decide +kernel, by decide +kernel⟩
def sp__law_raw_heap : Sp := spM (ι := List Int) (fun _ a => [⟨_, RA, a⟩, ⟨_, RI, 2⟩, ⟨_, RI, 3⟩]) (fun i => .lst RI i) (fun i => Rw i) (fun i => ⟨_, RL (RL (RL RI)), (rawHeapV i).map fun c => c.map V2.l⟩) (fun i => .lst RI (rawHeapR i))
abbrev C__law_raw_heap (P : Program) (w : World) (K : PySem.W.Frag) (mg : Str → Option Value) (base : Heap) : Prop := Cal P w K mg base "_law_raw_heap" 5 ["_law_row_here", "_law_dims", "_law_many"] (sp__law_raw_heap)
theorem ok__law_raw_heap (bl : Bl mg) (c__law_take : C__law_take P w K mg base) (c__law_raw : C__law_raw P w K mg base) (F : FnP K "_law_raw_heap" s__law_raw_heap [] f fd) : FnOk P w K mg base CX0 5 f fd ["_law_row_here", "_law_dims", "_law_many"] (sp__law_raw_heap) := by
  refine okM F sc__law_raw_heap (fun _ _ => rfl) (by decide) (fun cdv A outer s H E hr xs hR => ⟨_, (pss_cons (ps_set (i := 3) sc__law_raw_heap.nd rfl (.inl rfl) (pe_lst pa_nil))
    (pss_cons (ps_for PassesOwn.never rfl (pi_range1 (by rfl) bl.range_ (pa_cons (pcall c__law_take (hr.mono (by decide)) (by rfl) (pa_cons (pv 0) (pa_cons (pe_op op_add (pv 2) pe_int) pa_nil))) pa_nil)) (pg_name (i := 4) sc__law_raw_heap.nd rfl (.inl rfl)) (pss_cons (ps_set (i := 5) sc__law_raw_heap.nd rfl (.inl rfl) (pcall c__law_take (hr.mono (by decide)) (by rfl) (pa_cons (pv 0) (pa_cons pe_int pa_nil))))
    (pss_one (ps_if (PW.pt (pw_and (pt_cmpR op_eq (pv 5) pe_int (nomark _)) (pw_and1 (pt_cmpR op_gt (pe_callB call_len_seq (by rfl) bl.len_ (by first | rfl | decide +kernel) (pa_cons (pv 3) pa_nil)) pe_int (nomark _))))) (pss_one (ps_expr (pe_bm PySem.F.plainAttrs_list PySem.F.slot_list_append PySem.F.type_list_append mt_append (pv 3) (pa_cons (pe_ix ix_list (pv 3) (pe_un un_neg pe_int) (fun _ _ => rfl)) pa_nil)))) (pss_one (ps_if (pt_cmpR op_eq (pv 1) pe_int (nomark _)) (pss_one (ps_expr (pe_bm PySem.F.plainAttrs_list PySem.F.slot_list_append PySem.F.type_list_append mt_append (pv 3) (pa_cons (pcall c__law_raw (hr.mono (by decide)) (by rfl) (pa_cons (pv 0) (pa_cons pe_int (pa_cons (pe_op op_add pe_int (pe_callTy call_int1 (by rfl) bl.int_ (by first | rfl | decide +kernel) (pa_cons (pe_cmpR op_eq (pv 5) pe_int (nomark _)) pa_nil))) pa_nil)))) pa_nil)))) (pss_one (ps_if (pt_cmpR op_gt (pv 5) pe_int (nomark _)) (pss_one (ps_expr (pe_bm PySem.F.plainAttrs_list PySem.F.slot_list_append PySem.F.type_list_append mt_append (pv 3) (pa_cons (pcall c__law_raw (hr.mono (by decide)) (by rfl) (pa_cons (pv 0) (pa_cons pe_int (pa_cons pe_int pa_nil)))) pa_nil)))) (pss_one ps_never)))))))))
    (pss_one (ps_ret (pv 3))))), fun a C rt hC q => ?_⟩)
  have R1 := takeR_rw hR (n := 4) (by decide)
  have k0 := takeV_nn hR (n := 4) (by decide)
  have k4 := takeV_lt hR (n := 4) (by decide)
  refine w_seq (w_setN (R := RL (RL RI)) (xs := []) (en_lst ea_snil (le_by rfl)) fun b => ?_)
  refine w_seq (w_forR (ea_cons (ev_callE (xs, 3 + 1) 1 (ea_cons (ev_var rfl) (ea_cons (ev_I0 (ev_var rfl) ev_int) ea_nil)) rfl ⟨by show (0 : Int) < 4; decide, bdL rfl, hR.len⟩ rfl) ea_nil) (by show takeV xs 4 < 1000; omega) k0 (fun _ => [sl RA a, sl RI 2, sl RI 3, sl RA b, none, none])
    (fun i => [(b, .lst (RL (RL RI)) ((heapN (takeR xs 4) i).1.map fun c => c.map V2.l)), (a, .lst RI (heapN (takeR xs 4) i).2)]) ⟨rfl, fun _ _ h => h⟩ rfl (fun _ _ => rfl) (fun C' I _ _ _ hI i hi => ?_) ?_)
  · have hi : i < 4 := by
      have : i < (takeV xs 4).toNat := hi
      omega
    have hI' := hI (i + 1)
    have rR := heapN_rw R1 i
    have rL := heapN_len (takeR xs 4) i
    unfold heapN at hI'
    dsimp only at hI'
    obtain ⟨r, er⟩ : ∃ r, r = (heapN (takeR xs 4) i).2 := ⟨_, rfl⟩
    obtain ⟨l, el⟩ : ∃ l, l = (heapN (takeR xs 4) i).1 := ⟨_, rfl⟩
    rw [← el] at rL hI' ⊢
    rw [← er] at rR hI' ⊢
    have r6 := takeR_rw rR (n := 6) (by decide)
    refine w_seq (w_set (ev_callE (r, 6) 1 (ea_cons (ev_var rfl) (ea_cons ev_int ea_nil)) rfl ⟨by show (0 : Int) < 6; decide, bdL rfl, rR.len⟩ rfl) ?_)
    refine w_if (et_and (et_B (ev_eqI (ev_var rfl) ev_int)) fun _ => et_B (ev_cmp (ev_lenO (ev_var rfl) (List.mem_cons_self ..)) ev_int)) (fun h => ?_) fun h => ?_
    · rw [Bool.and_eq_true] at h
      have h1 : takeV r 6 = 5 := of_decide_eq_true h.1
      have h2 : ((l.map fun c => c.map V2.l).length : Int) > 0 := of_decide_eq_true h.2
      have h3 : 0 < l.length := by rw [List.length_map] at h2; omega
      rw [if_pos ⟨h1, h3⟩] at hI'
      refine w_app (ev_var rfl) (ev_ixO (ev_var rfl) (ev_neg ev_int) (List.mem_cons_self ..) (x := (l.getLastD []).map V2.l) ?_) (by rw [List.length_map, rL]; omega) ?_
      · rw [atI_last [] (by rw [List.length_map]; exact h3)]
        congr 1
        rw [List.getLastD_eq_getLast?, List.getLastD_eq_getLast?, List.getLast?_map]
        cases l.getLast? with
        | none => rfl
        | some y => rfl
      · dsimp only at hI'
        rw [List.map_append] at hI'
        exact w_wk (wk_same (wk_same (wk_same (wk_same (wk_drop (wk_drop wk_nil)))))) hI'
    · have h3 : ¬ (takeV r 6 = 5 ∧ 0 < l.length) := fun ⟨h1, h2⟩ => by
        have e2 : ((l.map fun c => c.map V2.l).length : Int) > 0 := by rw [List.length_map]; omega
        have := (Bool.and_eq_true _ _).mpr ⟨decide_eq_true h1, decide_eq_true e2⟩
        rw [show (decide (takeV r 6 = 5) && decide (((l.map fun c => c.map V2.l).length : Int) > 0)) = false from h] at this
        cases this
      rw [if_neg h3] at hI'
      dsimp only at hI'
      obtain ⟨t0, tB⟩ := two_three (takeV r 6 = 4)
      refine w_yes ((et_test (ev_eqI (ev_var rfl) ev_int)).to rfl) ?_
      refine w_app (ev_var rfl) (ev_callE (takeR r 6, 1 + (if takeV r 6 = 4 then 1 else 0)) 1 (ea_cons (ev_var rfl) (ea_cons ev_int (ea_cons (Ev.to (ev_I0 ev_int (ev_intB (ev_eqI (ev_var rfl) ev_int))) (by rw [b2i_if])) ea_nil))) rfl ⟨r6, t0, tB⟩ rfl) (by rw [List.length_map, rL]; omega) ?_
      rw [List.map_append] at hI'
      exact w_wk (wk_same (wk_same (wk_same (wk_same (wk_drop (wk_drop wk_nil)))))) hI'
  · change Wn C _ [sl RA a, sl RI 2, sl RI 3, sl RA b, none, none] [(b, .lst (RL (RL RI)) ((rawHeapV xs).map fun c => c.map V2.l)), (a, .lst RI (rawHeapR xs))]
    refine w_retO q rfl ?_ (fun p hp => hp) (fun x hx => by rw [hC] at hx; exact hx)
    rw [List.length_map]
    show (heapN (takeR xs 4) (takeV xs 4).toNat).1.length ≤ 1000
    rw [heapN_len]
    omega
end
end Sc
set_option Elab.async false
set_option linter.all false
set_option maxRecDepth 100000
set_option maxHeartbeats 1000000
namespace Sc
open PySem PySem.Spec PyProof.Rows L2 TL Ma
section
variable {P : Program} {w : World} {K : PySem.W.Frag} {mg : Str → Option Value} {base : Heap} {f : Addr} {fd : FuncData}
abbrev s__law_far : Stmt := top 68
abbrev N__law_far : List Str := ["_law_row_here", "_law_dims", "_law_kind", "_law_wide", "_law_under", "_law_far_here", "_law_k"]
theorem sc__law_far : FnScope N__law_far ["_law_row_here", "_law_dims"] (defScope s__law_far) := ⟨rfl, rfl, rfl, by decide +kernel, rfl, by decide +kernel, by decide +kernel⟩
def sp__law_far : Sp := spM (ι := List Int) (fun _ a => [⟨_, RA, a⟩, ⟨_, RI, 2⟩]) (fun i => .lst RI i) (fun i => Rw i) (fun i => ⟨_, RT RI, (farV i).l⟩) (fun i => .lst RI (farR i))
abbrev C__law_far (P : Program) (w : World) (K : PySem.W.Frag) (mg : Str → Option Value) (base : Heap) : Prop := Cal P w K mg base "_law_far" 3 ["_law_row_here", "_law_dims"] (sp__law_far)
theorem ok__law_far (bl : Bl mg) (c__law_take : C__law_take P w K mg base) (c__law_lowest : C__law_lowest P w K mg base) (F : FnP K "_law_far" s__law_far [] f fd) : FnOk P w K mg base CX0 3 f fd ["_law_row_here", "_law_dims"] (sp__law_far) := by
  refine okM F sc__law_far (fun _ _ => rfl) (by decide) (fun cdv A outer s H E hr xs hR => ⟨_, (pss_cons (ps_set (i := 2) sc__law_far.nd rfl (.inl rfl) (pcall c__law_take (hr.mono (by decide)) (by rfl) (pa_cons (pv 0) (pa_cons pe_int pa_nil))))
    (pss_cons (ps_set (i := 3) sc__law_far.nd rfl (.inr rfl) (pe_ix ix_list (pe_lst (pa_cons pe_int (pa_cons pe_int (pa_cons pe_int (pa_cons (pe_op op_pow pe_int pe_int) pa_nil))))) (pv 2) (fun _ _ => rfl)))
    (pss_cons (ps_set (i := 4) sc__law_far.nd rfl (.inl rfl) (pe_op op_add pe_int (pe_op op_mulX (pcall c__law_take (hr.mono (by decide)) (by rfl) (pa_cons (pv 0) (pa_cons pe_int pa_nil))) (pe_op op_fdivW (pv 2) pe_int))))
    (pss_cons (ps_setLc (i := 5) (own := [("_law_k", 6)]) (tt := tYes) rfl sc__law_far.nd rfl rfl (sw_true rfl rfl rfl (by decide +kernel)) (pi_range1 (by rfl) bl.range_ (pa_cons (pv 1) pa_nil)) (blkOk_by (N := N__law_far) (sc := defScope s__law_far) (by decide +kernel)) (fun _ _ _ _ _ => (pg_name (i := 6) sc__law_far.nd rfl (.inl rfl))) (fun _ _ _ _ _ => pts_nil) (fun _ _ _ _ _ => (pe_op op_sub (pcall c__law_take (hr.mono (by decide)) (by rfl) (pa_cons (pv 0) (pa_cons (pe_op op_add (pe_op op_mulX pe_int (pv 3)) pe_int) pa_nil))) (pv 3))))
    (pss_one (ps_ret (pcall c__law_lowest (hr.mono (by decide)) (by rfl) (pa_cons (pe_op op_cat (pv 5) (pe_lst (pa_cons (pv 4) pa_nil))) pa_nil)))))))), fun a C rt hC q => ?_⟩)
  have o := farOk hR
  have k0 := takeV_nn hR (n := 4) (by decide)
  have k4 := takeV_lt hR (n := 4) (by decide)
  obtain ⟨_, _, hat⟩ := wideF_cases k0 k4
  have R1 := takeR_rw hR (n := 4) (by decide)
  have hp : CPow 10 12 := ⟨by decide, by decide, by decide⟩
  refine w_seq (w_set (ev_callE (xs, 4) 0 (ea_cons (ev_var rfl) (ea_cons ev_int ea_nil)) rfl ⟨by show (0 : Int) < 4; decide, bdL rfl, hR.len⟩ rfl) ?_)
  refine w_seq (w_set (ev_ixL (xs := [0, 3, 9, 10 ^ 12]) (x := wideF (takeV xs 4)) (EvN.ev (en_lst (ea_scons ev_int (ea_scons ev_int (ea_scons ev_int (ea_scons (Ev.to (ev_I ev_int ev_int hp) rfl) ea_snil)))) (le_by rfl))) (ev_var rfl) hat) ?_)
  have b9 : Bd 20 (takeV (takeR xs 4) 9) := takeV_B R1 (by decide) (Bd.lit rfl)
  have bk : Bd 20 (takeV xs 4 / 2) := by
    show (takeV xs 4 / 2).natAbs < 2 ^ 20
    have : (2 : Nat) ^ 20 = 1048576 := by decide
    omega
  refine w_seq (w_set (ev_I0 ev_int (ev_I (ev_callE (takeR xs 4, 9) 0 (ea_cons (ev_var rfl) (ea_cons ev_int ea_nil)) rfl ⟨by show (0 : Int) < 9; decide, bdL rfl, R1.len⟩ rfl) (ev_I (ev_var rfl) ev_int (divOk (b := 9) (by decide) (Bd.lit rfl) (by decide))) (mulOk b9 bk (by decide)))) ?_)
  change Wn C _ [sl RA a, sl RI 2, sl RI (takeV xs 4), sl RI (farS xs).1, sl RI (farS xs).2.1, none, none] [(a, .lst RI (farS xs).2.2)]
  have eV : (farV xs).l = low [takeV (farS xs).2.2 (2 * (farS xs).1 + 1) - (farS xs).1, takeV (takeR (farS xs).2.2 (2 * (farS xs).1 + 1)) (2 * (farS xs).1 + 1) - (farS xs).1, (farS xs).2.1] := rfl
  have eR : farR xs = takeR (takeR (farS xs).2.2 (2 * (farS xs).1 + 1)) (2 * (farS xs).1 + 1) := rfl
  rw [eV, eR] at q
  obtain ⟨w0, wB, n0, nB, u0, uB, oR⟩ := o
  obtain ⟨wd, ewd⟩ : ∃ z, z = (farS xs).1 := ⟨_, rfl⟩
  obtain ⟨un, eun⟩ : ∃ z, z = (farS xs).2.1 := ⟨_, rfl⟩
  obtain ⟨rr, err⟩ : ∃ z, z = (farS xs).2.2 := ⟨_, rfl⟩
  rw [← ewd] at w0 wB n0 nB q ⊢
  rw [← eun] at u0 uB q ⊢
  rw [← err] at oR q ⊢
  have v1 := takeV_B oR n0 nB
  have v2 := takeV_B (takeR_rw oR n0) n0 nB
  refine w_seq (w_set (EvN.ev (en_lc2M (ei_rng1 (n := 2) (ea_cons (ev_var rfl) ea_nil) (by decide) (by decide)) (by decide) rfl
    (ev_I0 (ev_callE (rr, 2 * wd + 1) 0 (ea_cons (ev_var rfl) (ea_cons (ev_I0 (ev_I ev_int (ev_var rfl) (mulOk (Bd.lit (a := 9) rfl) wB (by decide))) ev_int) ea_nil)) rfl ⟨n0, nB.mono (by decide), oR.len⟩ rfl) (ev_var rfl))
    (ev_I0 (ev_callE (takeR rr (2 * wd + 1), 2 * wd + 1) 0 (ea_cons (ev_var rfl) (ea_cons (ev_I0 (ev_I ev_int (ev_var rfl) (mulOk (Bd.lit (a := 9) rfl) wB (by decide))) ev_int) ea_nil)) rfl ⟨n0, nB.mono (by decide), (takeR_rw oR n0).len⟩ rfl) (ev_var rfl)))) ?_)
  exact w_re (ev_call (true, _) (ea_cons (EvN.ev (en_cat (ev_var rfl) (EvN.ev (en_lst (ea_scons (ev_var rfl) ea_snil) (le_by rfl))) (le_by rfl))) ea_nil) ⟨le_by rfl, all3 ((v1.sub wB).mono (by decide)) ((v2.sub wB).mono (by decide)) (uB.mono (by decide))⟩) q (fun p hp => hp)
abbrev s__law_stretch : Stmt := top 69
abbrev N__law_stretch : List Str := ["_law_row_here", "_law_dims", "_law_told", "_law_k", "_law_kind"]
theorem sc__law_stretch : FnScope N__law_stretch ["_law_row_here", "_law_dims"] (defScope s__law_stretch) := ⟨rfl, rfl, rfl, by decide +kernel, rfl, by decide +kernel, by decide +kernel⟩
def sp__law_stretch : Sp := spM (ι := List Int) (fun _ a => [⟨_, RA, a⟩, ⟨_, RI, 2⟩]) (fun i => .lst RI i) (fun i => Rw i) (fun i => ⟨_, RL (RT RI), (strN i 2).1.map Fr2.l⟩) (fun i => .lst RI (strN i 2).2)
abbrev C__law_stretch (P : Program) (w : World) (K : PySem.W.Frag) (mg : Str → Option Value) (base : Heap) : Prop := Cal P w K mg base "_law_stretch" 4 ["_law_row_here", "_law_dims"] (sp__law_stretch)
theorem ok__law_stretch (bl : Bl mg) (c__law_take : C__law_take P w K mg base) (c__law_frac : C__law_frac P w K mg base) (F : FnP K "_law_stretch" s__law_stretch [] f fd) : FnOk P w K mg base CX0 4 f fd ["_law_row_here", "_law_dims"] (sp__law_stretch) := by
  refine okM F sc__law_stretch (fun _ _ => rfl) (by decide) (fun cdv A outer s H E hr xs hR => ⟨_, (pss_cons (ps_set (i := 2) sc__law_stretch.nd rfl (.inl rfl) (pe_lst pa_nil))
    (pss_cons (ps_for PassesOwn.never rfl (pi_range1 (by rfl) bl.range_ (pa_cons (pv 1) pa_nil)) (pg_name (i := 3) sc__law_stretch.nd rfl (.inl rfl)) (pss_cons (ps_set (i := 4) sc__law_stretch.nd rfl (.inl rfl) (pcall c__law_take (hr.mono (by decide)) (by rfl) (pa_cons (pv 0) (pa_cons pe_int pa_nil))))
    (pss_one (ps_expr (pe_bm PySem.F.plainAttrs_list PySem.F.slot_list_append PySem.F.type_list_append mt_append (pv 2) (pa_cons (pcall c__law_frac (hr.mono (by decide)) (by rfl) (pa_cons (pe_op op_add pe_int (pcall c__law_take (hr.mono (by decide)) (by rfl) (pa_cons (pv 0) (pa_cons (pe_ix ix_list (pe_lst (pa_cons pe_int (pa_cons pe_int (pa_cons (pe_op op_pow pe_int pe_int) pa_nil)))) (pv 4) (fun _ _ => rfl)) pa_nil)))) (pa_cons (pe_op op_add pe_int (pcall c__law_take (hr.mono (by decide)) (by rfl) (pa_cons (pv 0) (pa_cons (pe_ix ix_list (pe_lst (pa_cons pe_int (pa_cons pe_int (pa_cons (pe_op op_pow pe_int pe_int) pa_nil)))) (pv 4) (fun _ _ => rfl)) pa_nil)))) pa_nil))) pa_nil))))))
    (pss_one (ps_ret (pv 2))))), fun a C rt hC q => ?_⟩)
  have p9 : CPow 10 9 := ⟨by decide, by decide, by decide⟩
  have p6 : CPow 10 6 := ⟨by decide, by decide, by decide⟩
  refine w_seq (w_setN (R := RT RI) (xs := []) (en_lst ea_snil (le_by rfl)) fun b => ?_)
  refine w_seq (w_for (ei_rng1 (n := 2) (ea_cons (ev_var rfl) ea_nil) (by decide) (by decide)) (fun _ => [sl RA a, sl RI 2, sl RA b, none, none])
    (fun i => [(b, .lst (RT RI) ((strN xs i).1.map Fr2.l)), (a, .lst RI (strN xs i).2)]) ⟨rfl, fun _ _ h => h⟩ rfl (fun _ _ => rfl) (fun C' I _ _ _ hI i hi => ?_) ?_)
  · have hi : i < 2 := hi
    have hI' := hI (i + 1)
    have rR := strN_rw hR i
    have rL := strN_len xs i
    change Wn C' (I (i + 1)) _ [(b, .lst (RT RI) (((strN xs i).1 ++ [strV (strN xs i).2]).map Fr2.l)), (a, .lst RI (strR (strN xs i).2))] at hI'
    rw [List.map_append] at hI'
    obtain ⟨r, er⟩ : ∃ r, r = (strN xs i).2 := ⟨_, rfl⟩
    obtain ⟨l, el⟩ : ∃ l, l = (strN xs i).1 := ⟨_, rfl⟩
    rw [← el] at rL hI' ⊢
    rw [← er] at rR hI' ⊢
    have o := strOk rR
    have k0 := takeV_nn rR (n := 3) (by decide)
    have k3 := takeV_lt rR (n := 3) (by decide)
    obtain ⟨_, _, ht⟩ := topF_cases k0 k3
    obtain ⟨_, _, hb⟩ := botF_cases k0 k3
    have r1 := takeR_rw rR (n := 3) (by decide)
    have r2 := takeR_rw r1 o.t0
    refine w_seq (w_set (ev_callE (r, 3) 1 (ea_cons (ev_var rfl) (ea_cons ev_int ea_nil)) rfl ⟨by show (0 : Int) < 3; decide, bdL rfl, rR.len⟩ rfl) ?_)
    refine w_app (ev_var rfl) (ev_call (strA r, strB r) (ea_cons
      (ev_I0 ev_int (ev_callE (takeR r 3, topF (takeV r 3)) 1 (ea_cons (ev_var rfl) (ea_cons (ev_ixL (xs := [1, 7, 10 ^ 9]) (EvN.ev (en_lst (ea_scons ev_int (ea_scons ev_int (ea_scons (Ev.to (ev_I ev_int ev_int p9) rfl) ea_snil))) (le_by rfl))) (ev_var rfl) ht) ea_nil)) rfl ⟨o.t0, o.tB.mono (by decide), r1.len⟩ rfl)) (ea_cons
      (ev_I0 ev_int (ev_callE (takeR (takeR r 3) (topF (takeV r 3)), botF (takeV r 3)) 1 (ea_cons (ev_var rfl) (ea_cons (ev_ixL (xs := [1, 7, 10 ^ 6]) (EvN.ev (en_lst (ea_scons ev_int (ea_scons ev_int (ea_scons (Ev.to (ev_I ev_int ev_int p6) rfl) ea_snil))) (le_by rfl))) (ev_var rfl) hb) ea_nil)) rfl ⟨o.b0, o.bB.mono (by decide), r2.len⟩ rfl)) ea_nil)) ⟨o.c0, o.aB.mono (by decide), o.cB.mono (by decide)⟩) (by rw [List.length_map, rL]; omega) ?_
    exact w_wk (wk_same (wk_same (wk_same (wk_drop (wk_drop wk_nil))))) hI'
  · change Wn C _ [sl RA a, sl RI 2, sl RA b, none, none] [(b, .lst (RT RI) ((strN xs 2).1.map Fr2.l)), (a, .lst RI (strN xs 2).2)]
    exact w_retO q rfl (le_by rfl) (fun p hp => hp) (fun x hx => by rw [hC] at hx; exact hx)
abbrev s__law_spot : Stmt := top 70
abbrev N__law_spot : List Str := ["_law_corner", "_law_stretch_here", "_law_under", "_law_part", "_law_far_here", "_law_number"]
theorem sc__law_spot : FnScope N__law_spot ["_law_corner", "_law_stretch_here"] (defScope s__law_spot) := ⟨rfl, rfl, rfl, by decide +kernel, rfl, by decide +kernel, by decide +kernel⟩
def sp__law_spot : Sp := spG (ι := V2 × Fr2 × Fr2) (fun i => [⟨_, RL RI, i.1.l⟩, ⟨_, RL (RT RI), [i.2.1.l, i.2.2.l]⟩]) (fun i => Bd 10 i.1.x ∧ Bd 10 i.1.y ∧ i.2.1.Ok 32 ∧ i.2.2.Ok 32) (fun i => ⟨_, RT RI, (spotV i.1 i.2.1 i.2.2).l⟩)
abbrev C__law_spot (P : Program) (w : World) (K : PySem.W.Frag) (mg : Str → Option Value) (base : Heap) : Prop := Cal P w K mg base "_law_spot" 3 ["_law_corner", "_law_stretch_here"] (sp__law_spot)
theorem ok__law_spot (bl : Bl mg) (c__law_lowest : C__law_lowest P w K mg base) (F : FnP K "_law_spot" s__law_spot [] f fd) : FnOk P w K mg base CX0 3 f fd ["_law_corner", "_law_stretch_here"] (sp__law_spot) := by
  refine okG F sc__law_spot (fun _ => rfl) (by decide) (fun cdv A outer s H E hr i hp => ⟨_, (pss_cons (ps_set (i := 2) sc__law_spot.nd rfl (.inr rfl) pe_int)
    (pss_cons (ps_for PassesOwn.never rfl (pi_list (pv 1)) (pg_name (i := 3) sc__law_spot.nd rfl (.inl rfl)) (pss_one (ps_set (i := 2) sc__law_spot.nd rfl (.inr rfl) (pe_op op_mulX (pv 2) (pe_ix ix_tup (pv 3) pe_int (fun _ _ => rfl))))))
    (pss_cons (ps_setLc (i := 4) (own := [("_law_number", 5), ("_law_part", 3)]) (tt := tYes) rfl sc__law_spot.nd rfl rfl (sw_true rfl rfl rfl (by decide +kernel)) (RZ.pi_zipA (by rfl) bl.zip_ (pa_cons (pv 0) (pa_cons (pv 1) pa_nil))) (blkOk_by (N := N__law_spot) (sc := defScope s__law_spot) (by decide +kernel)) (fun _ _ _ _ _ => (pg_tupK (K := K) (n := 2) rfl (by rfl) (pgs_cons (pg_name (i := 5) sc__law_spot.nd rfl (.inl rfl)) (pgs_cons (pg_name (i := 3) sc__law_spot.nd rfl (.inl rfl)) pgs_nil)))) (fun _ _ _ _ _ => pts_nil) (fun _ _ _ _ _ => (pe_op op_mulX (pe_op op_mulX (pv 5) (pe_ix (r := rIxT K) ix_tup (pv 3) pe_int (fun _ _ => rfl))) (pe_op op_fdivW (pv 2) (pe_ix (r := rIxT K) ix_tup (pv 3) pe_int (fun _ _ => rfl))))))
    (pss_one (ps_ret (pcall c__law_lowest (hr.mono (by decide)) (by rfl) (pa_cons (pe_op op_cat (pv 4) (pe_lst (pa_cons (pv 2) pa_nil))) pa_nil))))))), fun C rt hC q => ?_⟩)
  obtain ⟨c, f1, f2⟩ := i
  obtain ⟨hx, hy, hf, hg⟩ := hp
  dsimp only at hx hy hf hg q
  have x1 := hf.nB; have x2 := hf.dB; have y1 := hg.nB; have y2 := hg.dB
  refine w_seq (w_set ev_int ?_)
  refine w_seq (w_for (ei_list (ev_var rfl)) (fun i => [sl (RL RI) c.l, sl (RL (RT RI)) [f1.l, f2.l], sl RI (if i = 0 then 1 else if i = 1 then 1 * f1.d else 1 * f1.d * f2.d), none, none, none]) (fun _ => []) ⟨rfl, fun _ _ h => h⟩ rfl (fun _ _ => rfl) (fun C' I _ _ _ hI i hi => ?_) ?_)
  · have hi : i < 2 := hi
    have hI' := hI (i + 1)
    obtain rfl | rfl : i = 0 ∨ i = 1 := by omega
    · refine w_set (ev_I (ev_var rfl) (ev_ixT (ev_var rfl) ev_int rfl) (mulOk (a := 9) (b := 32) (Bd.lit rfl) x2 (by decide))) ?_
      exact w_wk (wk_same (wk_same (wk_same (wk_drop (wk_same (wk_same wk_nil)))))) hI'
    · refine w_set (ev_I (ev_var rfl) (ev_ixT (ev_var rfl) ev_int rfl) (mulOk (a := 41) (b := 32) ((Bd.lit (a := 9) rfl).mul x2) y2 (by decide))) ?_
      exact w_wk (wk_same (wk_same (wk_same (wk_drop (wk_same (wk_same wk_nil)))))) hI'
  · have w0 := Int.mul_pos hf.d0 hg.d0
    have wB : Bd 64 (f1.d * f2.d) := x2.mul y2
    have e1 : (1 : Int) * f1.d * f2.d = f1.d * f2.d := by rw [Int.one_mul]
    change Wn C _ [sl (RL RI) c.l, sl (RL (RT RI)) [f1.l, f2.l], sl RI (1 * f1.d * f2.d), none, none, none] []
    rw [e1]
    have q1 : Bd 64 (f1.d * f2.d / f1.d) := by rw [Int.mul_ediv_cancel_left _ (by have := hf.d0; omega)]; exact y2.mono (by decide)
    have q2 : Bd 64 (f1.d * f2.d / f2.d) := by rw [Int.mul_ediv_cancel _ (by have := hg.d0; omega)]; exact x2.mono (by decide)
    have d1 : CDivW (f1.d * f2.d) f1.d := divOk hf.d0 x2 (by decide)
    have d2 : CDivW (f1.d * f2.d) f2.d := divOk hg.d0 y2 (by decide)
    refine w_seq (w_set (EvN.ev (en_lc2 (ei_zipL (ea_cons (ev_var rfl) (ea_cons (ev_var rfl) ea_nil))) (by decide) rfl
      (ev_I (ev_I (ev_var rfl) (ev_ixT (ev_var rfl) ev_int rfl) (mulOk hx x1 (by decide))) (ev_I (ev_var rfl) (ev_ixT (ev_var rfl) ev_int rfl) d1) (mulOk (hx.mul x1) q1 (by decide)))
      (ev_I (ev_I (ev_var rfl) (ev_ixT (ev_var rfl) ev_int rfl) (mulOk hy y1 (by decide))) (ev_I (ev_var rfl) (ev_ixT (ev_var rfl) ev_int rfl) d2) (mulOk (hy.mul y1) q2 (by decide))))) ?_)
    exact w_re (ev_call (true, _) (ea_cons (EvN.ev (en_cat (ev_var rfl) (EvN.ev (en_lst (ea_scons (ev_var rfl) ea_snil) (le_by rfl))) (le_by rfl))) ea_nil) ⟨le_by rfl, all3 (((hx.mul x1).mul q1).mono (by decide)) (((hy.mul y1).mul q2).mono (by decide)) (wB.mono (by decide))⟩) q (fun _ h => nomatch h)
abbrev HV (h : List (List V2)) : List (List (List Int)) := h.map fun c => c.map V2.l
abbrev s__law_laid : Stmt := top 71
abbrev N__law_laid : List Str := ["_law_row_here", "_law_heap", "_law_stretch_here", "_law_told", "_law_corners", "_law_far_here", "_law_corner"]
theorem sc__law_laid : FnScope N__law_laid ["_law_row_here", "_law_heap", "_law_stretch_here"] (defScope s__law_laid) := ⟨rfl, rfl, rfl, by decide +kernel, rfl, by decide +kernel, by decide +kernel⟩
def sp__law_laid : Sp := spM (ι := List Int × List (List V2) × Fr2 × Fr2) (fun i a => [⟨_, RA, a⟩, ⟨_, RL (RL (RL RI)), HV i.2.1⟩, ⟨_, RL (RT RI), [i.2.2.1.l, i.2.2.2.l]⟩]) (fun i => .lst RI i.1)
  (fun i => Rw i.1 ∧ i.2.1.length ≤ 10 ∧ (∀ c ∈ i.2.1, CT c) ∧ i.2.2.1.Ok 32 ∧ i.2.2.2.Ok 32) (fun i => ⟨_, RL (RT (RT RI)), (laidN i.1 i.2.1 i.2.2.1 i.2.2.2 i.2.1.length).1.map fun t => t.map P3.l⟩) (fun i => .lst RI (laidN i.1 i.2.1 i.2.2.1 i.2.2.2 i.2.1.length).2)
abbrev C__law_laid (P : Program) (w : World) (K : PySem.W.Frag) (mg : Str → Option Value) (base : Heap) : Prop := Cal P w K mg base "_law_laid" 5 ["_law_row_here", "_law_heap", "_law_stretch_here"] (sp__law_laid)
theorem ok__law_laid (bl : Bl mg) (c__law_far : C__law_far P w K mg base) (c__law_simplex : C__law_simplex P w K mg base) (c__law_joined : C__law_joined P w K mg base) (c__law_spot : C__law_spot P w K mg base) (F : FnP K "_law_laid" s__law_laid [] f fd) : FnOk P w K mg base CX0 5 f fd ["_law_row_here", "_law_heap", "_law_stretch_here"] (sp__law_laid) := by
  refine okM F sc__law_laid (fun _ _ => rfl) (by decide) (fun cdv A outer s H E hr i hp => ⟨_, (pss_cons (ps_set (i := 3) sc__law_laid.nd rfl (.inl rfl) (pe_lst pa_nil))
    (pss_cons (ps_for PassesOwn.never rfl (pi_list (pv 1)) (pg_name (i := 4) sc__law_laid.nd rfl (.inl rfl)) (pss_cons (ps_set (i := 5) sc__law_laid.nd rfl (.inr rfl) (pcall c__law_far (hr.mono (by decide)) (by rfl) (pa_cons (pv 0) (pa_cons (pe_callB call_len_seq (by rfl) bl.len_ (by first | rfl | decide +kernel) (pa_cons (pv 2) pa_nil)) pa_nil))))
    (pss_one (ps_expr (pe_bm PySem.F.plainAttrs_list PySem.F.slot_list_append PySem.F.type_list_append mt_append (pv 3) (pa_cons (pcall c__law_simplex (hr.mono (by decide)) (by rfl) (pa_cons (pe_lc (own := [("_law_corner", 6)]) (tt := tYes) rfl sc__law_laid.nd (pi_list (pv 4)) (blkOk_by (N := N__law_laid) (sc := defScope s__law_laid) (by decide +kernel)) (fun _ _ _ _ _ => (pg_name (i := 6) sc__law_laid.nd rfl (.inl rfl))) (fun _ _ _ _ _ => pts_nil) (fun _ _ _ _ _ => (pcall c__law_joined (hr.mono (by decide)) (by rfl) (pa_cons (pcall c__law_spot (hr.mono (by decide)) (by rfl) (pa_cons (pv 6) (pa_cons (pv 2) pa_nil))) (pa_cons (pv 5) (pa_cons pe_int pa_nil)))))) pa_nil)) pa_nil))))))
    (pss_one (ps_ret (pv 3))))), fun a C rt hC q => ?_⟩)
  obtain ⟨xs, hs, f1, f2⟩ := i
  obtain ⟨hR, hl, hc, hf, hg⟩ := hp
  dsimp only at hR hl hc hf hg q
  refine w_seq (w_setN (R := RT (RT RI)) (xs := []) (en_lst ea_snil (le_by rfl)) fun b => ?_)
  refine w_seq (w_for (ei_list (ev_var rfl)) (fun _ => [sl RA a, sl (RL (RL (RL RI))) (HV hs), sl (RL (RT RI)) [f1.l, f2.l], sl RA b, none, none, none])
    (fun i => [(b, .lst (RT (RT RI)) ((laidN xs hs f1 f2 i).1.map fun t => t.map P3.l)), (a, .lst RI (laidN xs hs f1 f2 i).2)]) ⟨rfl, fun _ _ h => h⟩ rfl (fun _ _ => rfl) (fun C' I _ _ _ hI i hi => ?_) ?_)
  · rw [List.length_map] at hi
    have hi : i < hs.length := hi
    have hI' := hI (i + 1)
    have rR := laidN_rw hs f1 f2 hR i
    have rL := laidN_len xs hs f1 f2 i
    change Wn C' (I (i + 1)) _ [(b, .lst (RT (RT RI)) (((laidN xs hs f1 f2 i).1 ++ [simpT ((hs.getD i []).map fun u => add3 (spotV u f1 f2) (farV (laidN xs hs f1 f2 i).2))]).map fun t => t.map P3.l)), (a, .lst RI (farR (laidN xs hs f1 f2 i).2))] at hI'
    rw [List.map_append, show hs.getD i [] = hs[i] by simp [List.getD_eq_getElem?_getD, hi]] at hI'
    show Wn C' _ [_, _, _, _, itS (RL (RL RI)) (HV hs) i, _, _] _
    rw [itS_get (show (HV hs)[i]? = some (hs[i].map V2.l) by rw [List.getElem?_map, List.getElem?_eq_getElem hi]; rfl)]
    have ct := hc hs[i] (List.getElem_mem hi)
    obtain ⟨cc, ecc⟩ : ∃ z, z = hs[i] := ⟨_, rfl⟩
    rw [← ecc] at ct hI' ⊢
    obtain ⟨r, er⟩ : ∃ r, r = (laidN xs hs f1 f2 i).2 := ⟨_, rfl⟩
    obtain ⟨l, el⟩ : ∃ l, l = (laidN xs hs f1 f2 i).1 := ⟨_, rfl⟩
    rw [← el] at rL hI' ⊢
    rw [← er] at rR hI' ⊢
    obtain ⟨⟨u, v, t, rfl, ht⟩, hb⟩ := ct
    obtain ⟨ux, uy⟩ := hb u (by simp)
    obtain ⟨vx, vy⟩ := hb v (by simp)
    obtain ⟨tx, ty⟩ := hb t (by simp)
    have sB := farV_B rR
    have s1 := spot_B ux uy hf hg
    have s2 := spot_B vx vy hf hg
    have s3 := spot_B tx ty hf hg
    have z1 := (add3_B s1 sB).Z (by decide)
    have z2 := (add3_B s2 sB).Z (by decide)
    have z3 := (add3_B s3 sB).Z (by decide)
    have sZ := sB.Z (by decide)
    refine w_seq (w_set (ev_callE r 1 (ea_cons (ev_var rfl) (ea_cons (Ev.to (ev_len (ev_S_of_L (ev_var rfl))) rfl) ea_nil)) rfl rR rfl) ?_)
    refine w_app (ev_var rfl) (ev_call (true, Sum.inl [add3 (spotV u f1 f2) (farV r), add3 (spotV v f1 f2) (farV r), add3 (spotV t f1 f2) (farV r)]) (ea_cons (EvN.ev (en_lc3 (ei_list (ev_var rfl)) (by decide) rfl (ev_call (Sum.inl (spotV u f1 f2, farV r)) (ea_cons (ev_call (u, f1, f2) (ea_cons (ev_var rfl) (ea_cons (ev_var rfl) ea_nil)) ⟨ux, uy, hf, hg⟩) (ea_cons (ev_var rfl) (ea_cons ev_int ea_nil))) ⟨s1.Z (by decide), sZ⟩) (ev_call (Sum.inl (spotV v f1 f2, farV r)) (ea_cons (ev_call (v, f1, f2) (ea_cons (ev_var rfl) (ea_cons (ev_var rfl) ea_nil)) ⟨vx, vy, hf, hg⟩) (ea_cons (ev_var rfl) (ea_cons ev_int ea_nil))) ⟨s2.Z (by decide), sZ⟩) (ev_call (Sum.inl (spotV t f1 f2, farV r)) (ea_cons (ev_call (t, f1, f2) (ea_cons (ev_var rfl) (ea_cons (ev_var rfl) ea_nil)) ⟨tx, ty, hf, hg⟩) (ea_cons (ev_var rfl) (ea_cons ev_int ea_nil))) ⟨s3.Z (by decide), sZ⟩))) ea_nil) ⟨rfl, fun x hx => by
      simp only [List.mem_cons, List.not_mem_nil, or_false] at hx
      rcases hx with rfl | rfl | rfl <;> assumption⟩) (by rw [List.length_map, rL]; omega) ?_
    exact w_wk (wk_same (wk_same (wk_same (wk_same (wk_drop (wk_drop (wk_drop wk_nil))))))) hI'
  · rw [List.length_map]
    exact w_retO q rfl (by rw [List.length_map, laidN_len]; show hs.length ≤ 1000; omega) (fun p hp => hp) (fun x hx => by rw [hC] at hx; exact hx)
end
end Sc
set_option Elab.async false
set_option linter.all false
set_option maxRecDepth 10000
/-! the way of the prisms, its parts; the law's heaps -/
namespace Ma
open TL
def topS (k : Int) : Int := [1, 3, 10 ^ 9].getD k.toNat 0
def botS (k : Int) : Int := [1, 4, 10 ^ 6].getD k.toNat 0
theorem topS_cases {k : Int} (h0 : 0 ≤ k) (h3 : k < 3) : 0 < topS k ∧ Bd 30 (topS k) ∧ L2.atI [1, 3, 10 ^ 9] k = some (topS k) := by
  obtain rfl | rfl | rfl : k = 0 ∨ k = 1 ∨ k = 2 := by omega
  all_goals exact ⟨by decide, Bd.lit rfl, rfl⟩
theorem botS_cases {k : Int} (h0 : 0 ≤ k) (h3 : k < 3) : 0 < botS k ∧ Bd 30 (botS k) ∧ L2.atI [1, 4, 10 ^ 6] k = some (botS k) := by
  obtain rfl | rfl | rfl : k = 0 ∨ k = 1 ∨ k = 2 := by omega
  all_goals exact ⟨by decide, Bd.lit rfl, rfl⟩
/-- wide, under, the row behind them -/
structure SH where
  w : Int
  u : Int
  r : List Int
def shS (xs : List Int) : SH := ⟨topS (takeV xs 3), 1 + takeV (takeR (takeR xs 3) 3) (botS (takeV (takeR xs 3) 3)), takeR (takeR (takeR xs 3) 3) (botS (takeV (takeR xs 3) 3))⟩
structure SH.Ok (s : SH) : Prop where
  w0 : 0 < s.w
  wB : Bd 30 s.w
  u0 : 0 < s.u
  uB : Bd 32 s.u
  rw : Rw s.r
theorem shS_ok {xs : List Int} (h : Rw xs) : (shS xs).Ok := by
  have k0 := takeV_nn h (n := 3) (by decide)
  have k3 := takeV_lt h (n := 3) (by decide)
  have r1 := takeR_rw h (n := 3) (by decide)
  have l0 := takeV_nn r1 (n := 3) (by decide)
  have l3 := takeV_lt r1 (n := 3) (by decide)
  have r2 := takeR_rw r1 (n := 3) (by decide)
  obtain ⟨t0, tB, _⟩ := topS_cases k0 k3
  obtain ⟨b0, bB, _⟩ := botS_cases l0 l3
  have v := takeV_nn r2 b0
  exact ⟨t0, tB, by show 0 < 1 + _; omega, ((Bd.lit (a := 2) rfl).add (takeV_B r2 b0 bB)).mono (by decide), takeR_rw r2 b0⟩
def shR (s : SH) : Nat → List Int
  | 0 => s.r
  | k + 1 => takeR (shR s k) (2 * s.w + 1)
def shV (s : SH) (k : Nat) : Int := takeV (shR s k) (2 * s.w + 1) - s.w
def shZ (s : SH) : Int := (1 + takeV (shR s 3) s.w) * (1 - 2 * takeV (takeR (shR s 3) s.w) 2)
def shE (s : SH) : List Int := takeR (takeR (shR s 3) s.w) 2
def shiftV (xs : List Int) : P4 := mk4 (shV (shS xs) 0) (shV (shS xs) 1) (if takeV (shE (shS xs)) 8 = 7 then 0 else shZ (shS xs)) (shS xs).u
def shiftR (xs : List Int) : List Int := takeR (shE (shS xs)) 8
theorem shR_rw {s : SH} (h : s.Ok) : ∀ k, Rw (shR s k)
  | 0 => h.rw
  | k + 1 => takeR_rw (shR_rw h k) (by have := h.w0; omega)
theorem sh_n {s : SH} (h : s.Ok) : 0 < 2 * s.w + 1 ∧ Bd 34 (2 * s.w + 1) :=
  ⟨by have := h.w0; omega, (((Bd.lit (a := 2) (x := 2) rfl).mul h.wB).add (Bd.lit (a := 2) (x := 1) rfl)).mono (by decide)⟩
theorem shV_B {s : SH} (h : s.Ok) (k : Nat) : Bd 36 (shV s k) := ((takeV_B (shR_rw h k) (sh_n h).1 (sh_n h).2).sub h.wB).mono (by decide)
theorem shZ_B {s : SH} (h : s.Ok) : Bd 44 (shZ s) := by
  have r3 := shR_rw h 3
  have r4 := takeR_rw r3 h.w0
  exact (((Bd.lit (a := 2) (x := 1) rfl).add (takeV_B r3 h.w0 h.wB)).mul ((Bd.lit (a := 2) (x := 1) rfl).sub ((Bd.lit (a := 2) (x := 2) rfl).mul (takeV_B r4 (n := 2) (k := 3) (by decide) (Bd.lit rfl))))).mono (by decide)
theorem shE_rw {s : SH} (h : s.Ok) : Rw (shE s) := takeR_rw (takeR_rw (shR_rw h 3) h.w0) (by decide)
theorem shiftR_rw {xs : List Int} (h : Rw xs) : Rw (shiftR xs) := takeR_rw (shE_rw (shS_ok h)) (by decide)
theorem shiftV_B {xs : List Int} (h : Rw xs) : P4.B 44 (shiftV xs) := by
  have o := shS_ok h
  refine mk4_B ((shV_B o 0).mono (by decide)) ((shV_B o 1).mono (by decide)) ?_ (o.uB.mono (by decide)) o.u0
  split
  · exact Bd.lit rfl
  · exact shZ_B o
/-- a way out of the plane -/
structure Way (a : P4) : Prop where
  b : P4.B 44 a
  z : a.z ≠ 0
def fixV (a : P4) : P4 := if a.z = 0 then ⟨a.x, a.y, a.w, a.w⟩ else a
theorem fix_way {a : P4} (h : P4.B 44 a) : Way (fixV a) := by
  unfold fixV
  split
  · exact ⟨⟨h.w0, h.x, h.y, h.w, h.w⟩, by have := h.w0; show a.w ≠ 0; omega⟩
  · next e => exact ⟨h, e⟩
def partV (a : P4) (f : Fr2) : P4 := mk4 (f.n * a.x) (f.n * a.y) (f.n * a.z) (f.d * a.w)
theorem part_B {a : P4} {f : Fr2} (ha : P4.B 44 a) (hf : f.Ok 12) : P4.B 56 (partV a f) := mk4_B ((hf.nB.mul ha.x).mono (by decide)) ((hf.nB.mul ha.y).mono (by decide)) ((hf.nB.mul ha.z).mono (by decide)) ((hf.dB.mul ha.w).mono (by decide)) (Int.mul_pos hf.d0 ha.w0)
theorem part_of {a : P4} {f : Fr2} (ha : 0 < a.w) (hf : 0 < f.d) : ∃ g : Int, 0 < g ∧ g * (partV a f).x = f.n * a.x ∧ g * (partV a f).y = f.n * a.y ∧ g * (partV a f).z = f.n * a.z ∧ g * (partV a f).w = f.d * a.w ∧ 0 < (partV a f).w := mk4_of _ _ _ _ (Int.mul_pos hf ha)
theorem part_z {a : P4} {f : Fr2} (h : Way a) (hf : f.Ok 12) : (partV a f).z ≠ 0 := fun e => by
  obtain ⟨g, g0, _, _, g3, _⟩ := part_of (a := a) (f := f) h.b.w0 hf.d0
  rw [e] at g3
  have : f.n * a.z ≠ 0 := Int.mul_ne_zero (by have := hf.n0; omega) h.z
  omega
theorem part_par {a : P4} {f k : Fr2} (h : Way a) (hf : f.Ok 12) (hk : k.Ok 12) : Par (partV a f) (partV a k) := by
  obtain ⟨g, g0, g1, g2, g3, g4, _⟩ := part_of (a := a) (f := f) h.b.w0 hf.d0
  obtain ⟨m, m0, m1, m2, m3, m4, _⟩ := part_of (a := a) (f := k) h.b.w0 hk.d0
  refine ⟨g * k.n, m * f.n, Int.mul_pos g0 hk.n0, Int.mul_pos m0 hf.n0, P4.ext ?_ ?_ ?_ ?_⟩ <;> simp only [smul, dir]
  · grind
  · grind
  · grind
  · omega
theorem sum_id {g m c e X1 X2 W1 W2 X n1 n2 d1 d2 N ax aw : Int} (h1 : g * X1 = n1 * ax) (h2 : m * X2 = n2 * ax) (h3 : g * W1 = d1 * aw) (h4 : m * W2 = d2 * aw) (h5 : c * N = n1 * d2 + n2 * d1) (h6 : e * X = N * ax) : g * m * (X1 * W2 + X2 * W1) = c * e * aw * X := by
  have e1 : g * m * (X1 * W2 + X2 * W1) = (g * X1) * (m * W2) + (m * X2) * (g * W1) := by grind
  have e2 : c * e * aw * X = c * aw * (e * X) := by grind
  have e3 : c * aw * (N * ax) = (c * N) * (aw * ax) := by grind
  rw [e1, h1, h2, h3, h4, e2, h6, e3, h5]
  grind
theorem sum_iw {g m c e W1 W2 W d1 d2 D aw : Int} (h3 : g * W1 = d1 * aw) (h4 : m * W2 = d2 * aw) (h5 : c * D = d1 * d2) (h6 : e * W = D * aw) : g * m * (W1 * W2) = c * e * aw * W := by
  have e1 : g * m * (W1 * W2) = (g * W1) * (m * W2) := by grind
  have e2 : c * e * aw * W = c * aw * (e * W) := by grind
  have e3 : c * aw * (D * aw) = (c * D) * (aw * aw) := by grind
  rw [e1, h3, h4, e2, h6, e3, h5]
  grind
theorem part_sum {a : P4} {f k : Fr2} (h : Way a) (hf : f.Ok 12) (hk : k.Ok 12) (hs : (mkF (f.n * k.d + k.n * f.d) (f.d * k.d)).Ok 12) : Sum2 (partV a f) (partV a k) (partV a (mkF (f.n * k.d + k.n * f.d) (f.d * k.d))) := by
  refine ⟨(part_B h.b hf).w0, (part_B h.b hk).w0, (part_B h.b hs).w0, part_par h hf hs, part_par h hk hf, ?_⟩
  obtain ⟨g, g0, g1, g2, g3, g4, _⟩ := part_of (a := a) (f := f) h.b.w0 hf.d0
  obtain ⟨m, m0, m1, m2, m3, m4, _⟩ := part_of (a := a) (f := k) h.b.w0 hk.d0
  obtain ⟨c, c0, c1, c2⟩ := mkF_of (a := f.n * k.d + k.n * f.d) (b := f.d * k.d) (by have := Int.mul_pos hf.n0 hk.d0; have := Int.mul_pos hk.n0 hf.d0; omega) (Int.mul_pos hf.d0 hk.d0)
  obtain ⟨e, e0, e1, e2, e3, e4, _⟩ := part_of (a := a) (f := mkF (f.n * k.d + k.n * f.d) (f.d * k.d)) h.b.w0 hs.d0
  refine ⟨g * m, c * e * a.w, Int.mul_pos g0 m0, Int.mul_pos (Int.mul_pos c0 e0) h.b.w0, sum_id g1 m1 g4 m4 c1 e1, sum_id g2 m2 g4 m4 c1 e2, sum_id g3 m3 g4 m4 c1 e3, sum_iw g4 m4 c2 e4⟩
/-! ### heaps of triangles -/
def T3.of : List P3 → T3
  | [p, q, r] => ⟨p, q, r⟩
  | _ => ⟨⟨0, 0, 1⟩, ⟨0, 0, 1⟩, ⟨0, 0, 1⟩⟩
theorem of_ps {t : List P3} (h : t.length = 3) : (T3.of t).ps = t := by
  obtain ⟨p, q, r, rfl⟩ := len3 h
  rfl
theorem of_l {t : List P3} (h : t.length = 3) : (T3.of t).l = t.map P3.l := by
  obtain ⟨p, q, r, rfl⟩ := len3 h
  rfl
/-- a triangle of a heap -/
structure TT (k : Nat) (t : T3) : Prop where
  p : P3.B k t.p
  q : P3.B k t.q
  r : P3.B k t.r
  d : D3 t.p t.q t.r ≠ 0
  gp : gcdL t.p.l = 1
  gq : gcdL t.q.l = 1
  gr : gcdL t.r.l = 1
theorem lt_tt {t : List P3} (h : LT t) : TT 126 (T3.of t) := by
  obtain ⟨p, q, r, rfl⟩ := len3 h.len
  exact ⟨h.b p (by simp), h.b q (by simp), h.b r (by simp), h.d, h.g p (by simp), h.g q (by simp), h.g r (by simp)⟩
theorem up_ok {p : P3} (h : 0 < p.w) (g : gcdL p.l = 1) : p.up.Ok := ⟨h, by
  show gcdL [p.x, p.y, 0, p.w] = 1
  rw [gcd_up]
  exact g⟩
theorem tt_ok {k : Nat} {t : T3} {a : P4} (h : TT k t) (ha : 0 < a.w) (hz : a.z ≠ 0) : TOk t a := ⟨ha, h.p.w0, h.q.w0, h.r.w0, by rw [d4_D3]; exact Int.mul_ne_zero h.d hz⟩
/-- what a solid of the law asks: its simplices in their one form -/
structure SF (ps : List P4) : Prop where
  len : ps.length = 4
  z : ∀ p ∈ ps, p.Z ∧ p.Ok
  d : d4L ps ≠ 0
  s : simpP ps = ps
theorem sf_simp {p q r s : P4} (h : ∀ x ∈ [p, q, r, s], x.Z ∧ x.Ok) (h0 : d4L [p, q, r, s] ≠ 0) : SF (simpP [p, q, r, s]) := by
  have pe := simpP_perm [p, q, r, s]
  have hw : AllW [p, q, r, s] := fun x hx => (h x hx).1.w0
  refine ⟨pe.length_eq, fun x hx => h x (pe.mem_iff.mp hx), ?_, simpP_simpP⟩
  have := simpP_pos rfl hw h0
  omega
theorem zo4 {p q r s : P4} (h1 : p.Z ∧ p.Ok) (h2 : q.Z ∧ q.Ok) (h3 : r.Z ∧ r.Ok) (h4 : s.Z ∧ s.Ok) : ∀ x ∈ [p, q, r, s], x.Z ∧ x.Ok := fun x hx => by
  simp only [List.mem_cons, List.not_mem_nil, or_false] at hx
  rcases hx with rfl | rfl | rfl | rfl <;> assumption
/-- a simplex of a prism: four of six points -/
theorem prism1_sf {k : Nat} {t : T3} {a : P4} (hk : k + 57 ≤ 300) (h : TT k t) (ha : P4.B 56 a) (hz : a.z ≠ 0) : ∀ ps ∈ prism1 t a, SF ps ∧ ∀ p ∈ ps, P4.B 300 p := fun ps hps => by
  have ok := tt_ok h ha.w0 hz
  obtain ⟨g, hP⟩ := add_pushed (p := t.p.up) (a := a) h.p.w0 ha.w0
  obtain ⟨m, hQ⟩ := add_pushed (p := t.q.up) (a := a) h.q.w0 ha.w0
  obtain ⟨n, hR⟩ := add_pushed (p := t.r.up) (a := a) h.r.w0 ha.w0
  have n1 : d4L [t.p.up, t.q.up, t.r.up, add t.p.up a] ≠ 0 := sign_ne (sg1 h.p.w0 hP) ok.n0
  have n2 : d4L [t.q.up, t.r.up, add t.p.up a, add t.q.up a] ≠ 0 := sign_ne (sg2 h.q.w0 ha.w0 hP hQ) ok.n0
  have n3 : d4L [t.r.up, add t.p.up a, add t.q.up a, add t.r.up a] ≠ 0 := sign_ne (sg3 h.r.w0 ha.w0 hP hQ hR) ok.n0
  have lift : ∀ {p : P4} {j : Nat}, P4.B j p → j ≤ 300 → P4.B 300 p := fun h l => ⟨h.w0, h.x.mono l, h.y.mono l, h.z.mono l, h.w.mono l⟩
  have bp := lift h.p.up (by omega)
  have bq := lift h.q.up (by omega)
  have br := lift h.r.up (by omega)
  have bp' := lift (add_B h.p.up ha) (by omega)
  have bq' := lift (add_B h.q.up ha) (by omega)
  have br' := lift (add_B h.r.up ha) (by omega)
  have zp := And.intro (bp.Z (by decide)) (up_ok h.p.w0 h.gp)
  have zq := And.intro (bq.Z (by decide)) (up_ok h.q.w0 h.gq)
  have zr := And.intro (br.Z (by decide)) (up_ok h.r.w0 h.gr)
  have zp' := And.intro (bp'.Z (by decide)) (add_ok (p := t.p.up) (a := a) h.p.w0 ha.w0)
  have zq' := And.intro (bq'.Z (by decide)) (add_ok (p := t.q.up) (a := a) h.q.w0 ha.w0)
  have zr' := And.intro (br'.Z (by decide)) (add_ok (p := t.r.up) (a := a) h.r.w0 ha.w0)
  have mem : ∀ {p q r s x : P4}, P4.B 300 p → P4.B 300 q → P4.B 300 r → P4.B 300 s → x ∈ simpP [p, q, r, s] → P4.B 300 x := fun {p q r s x} h1 h2 h3 h4 hx => by
    have := (simpP_perm [p, q, r, s]).mem_iff.mp hx
    simp only [List.mem_cons, List.not_mem_nil, or_false] at this
    rcases this with rfl | rfl | rfl | rfl <;> assumption
  unfold prism1 at hps
  simp only [List.mem_cons, List.not_mem_nil, or_false] at hps
  rcases hps with rfl | rfl | rfl
  · exact ⟨sf_simp (zo4 zp zq zr zp') n1, fun x hx => mem bp bq br bp' hx⟩
  · exact ⟨sf_simp (zo4 zq zr zp' zq') n2, fun x hx => mem bq br bp' bq' hx⟩
  · exact ⟨sf_simp (zo4 zr zp' zq' zr') n3, fun x hx => mem br bp' bq' br' hx⟩
theorem prismP_sf {k : Nat} {hs : List T3} {a : P4} (hk : k + 57 ≤ 300) (h : ∀ t ∈ hs, TT k t) (ha : P4.B 56 a) (hz : a.z ≠ 0) : ∀ ps ∈ prismP hs a, SF ps ∧ ∀ p ∈ ps, P4.B 300 p := fun ps hps => by
  obtain ⟨t, ht, hps⟩ := List.mem_flatMap.mp hps
  exact prism1_sf hk (h t ht) ha hz ps hps
theorem moved_d4 {ps : List P4} {a : P4} (ha : 0 < a.w) (h : SF ps) : d4L (ps.map fun p => add p a) ≠ 0 := by
  obtain ⟨p, q, r, s, rfl⟩ := len4 h.len
  have hp := (h.z p (by simp)).1.w0
  have hq := (h.z q (by simp)).1.w0
  have hr := (h.z r (by simp)).1.w0
  have hs := (h.z s (by simp)).1.w0
  obtain ⟨g, P⟩ := add_pushed hp ha
  obtain ⟨m, Q⟩ := add_pushed hq ha
  obtain ⟨n, R⟩ := add_pushed hr ha
  obtain ⟨k, S⟩ := add_pushed hs ha
  exact sign_ne (sg_shift ha P Q R S) h.d
theorem moved_sf {h : List (List P4)} {a : P4} (ha : P4.B 56 a) (hh : ∀ ps ∈ h, SF ps ∧ ∀ p ∈ ps, P4.B 300 p) : ∀ ps ∈ movedP h a, SF ps := fun ps hps => by
  obtain ⟨qs, hq, rfl⟩ := List.mem_map.mp hps
  obtain ⟨sf, hb⟩ := hh qs hq
  have n0 := moved_d4 ha.w0 sf
  obtain ⟨p, q, r, s, rfl⟩ := len4 sf.len
  have z : ∀ x ∈ [p, q, r, s], (add x a).Z ∧ (add x a).Ok := fun x hx => ⟨(add_B (hb x hx) ha).Z (by decide), add_ok (hb x hx).w0 ha.w0⟩
  exact sf_simp (zo4 (z p (by simp)) (z q (by simp)) (z r (by simp)) (z s (by simp))) n0
theorem moved_z {h : List (List P4)} {a : P4} (ha : P4.B 56 a) (hh : ∀ ps ∈ h, SF ps ∧ ∀ p ∈ ps, P4.B 300 p) : ∀ ps ∈ h, ps.length = 4 ∧ (∀ p ∈ ps, p.Z ∧ (add p a).Z) ∧ d4L (ps.map fun p => add p a) ≠ 0 := fun ps hps => by
  obtain ⟨sf, hb⟩ := hh ps hps
  exact ⟨sf.len, fun p hp => ⟨(sf.z p hp).1, (add_B (hb p hp) ha).Z (by decide)⟩, moved_d4 ha.w0 sf⟩
def pushT (s : P3) (t : T3) : T3 := T3.of (simpT (t.ps.map fun p => add3 p s))
theorem pushT_ps (s : P3) (t : T3) : (pushT s t).ps = simpT (t.ps.map fun p => add3 p s) := of_ps (by rw [(simpT_perm _).length_eq, List.length_map]; rfl)
theorem pushT_pushed (s : P3) (t : T3) : t.Pushed (pushT s t) s := by
  show (pushT s t).ps.Perm _
  rw [pushT_ps]
  exact simpT_perm _
theorem pushT_tt {s : P3} {t : T3} (hs : P3.B 45 s) (h : TT 126 t) : TT 172 (pushT s t) := by
  have pe : (pushT s t).ps.Perm [add3 t.p s, add3 t.q s, add3 t.r s] := pushT_pushed s t
  have bp := add3_B h.p hs
  have bq := add3_B h.q hs
  have br := add3_B h.r hs
  have gp := add3_gcd h.p.w0 hs.w0
  have gq := add3_gcd h.q.w0 hs.w0
  have gr := add3_gcd h.r.w0 hs.w0
  have all : ∀ x ∈ (pushT s t).ps, P3.B 172 x ∧ gcdL x.l = 1 := fun x hx => by
    have := pe.mem_iff.mp hx
    simp only [List.mem_cons, List.not_mem_nil, or_false] at this
    rcases this with rfl | rfl | rfl
    · exact ⟨bp, gp⟩
    · exact ⟨bq, gq⟩
    · exact ⟨br, gr⟩
  have d0 : D3L [add3 t.p s, add3 t.q s, add3 t.r s] ≠ 0 := D3_add3 h.p.w0 h.q.w0 h.r.w0 hs.w0 h.d
  have d1 : D3L (pushT s t).ps ≠ 0 := by rcases D3L_perm pe.symm with e | e <;> omega
  exact ⟨(all (pushT s t).p (by simp [T3.ps])).1, (all (pushT s t).q (by simp [T3.ps])).1, (all (pushT s t).r (by simp [T3.ps])).1, d1, (all (pushT s t).p (by simp [T3.ps])).2, (all (pushT s t).q (by simp [T3.ps])).2, (all (pushT s t).r (by simp [T3.ps])).2⟩
end Ma
set_option Elab.async false
set_option linter.all false
set_option maxRecDepth 100000
set_option maxHeartbeats 1000000
namespace TL
open PySem PySem.Spec PyProof.Rows L2
section
variable {α : Type} {C : Ctx} {Γ : Cn} {Δ Δ1 : Mn} {R : Rl α} {tt : TT} {t u : TS} {Nx bkk ctt : L2.St → Hp → Prop} {rtt : VK}
/-- both ways lead to one state -/
theorem w_ifJ {b : Bool} (Γ' : Cn) (Δ' : Mn) (h : EvT tt Γ Δ b Δ1) (h1 : b = true → Wn C Nx Γ' Δ' → Wn C (t ⟨Nx, rtt, bkk, ctt⟩) Γ Δ1) (h2 : b = false → Wn C Nx Γ' Δ' → Wn C (u ⟨Nx, rtt, bkk, ctt⟩) Γ Δ1) (hr : Wn C Nx Γ' Δ') : Wn C (tIfS tt t u ⟨Nx, rtt, bkk, ctt⟩) Γ Δ := w_if h (fun e => h1 e hr) fun e => h2 e hr
end
end TL
namespace Sc
open PySem PySem.Spec PyProof.Rows L2 TL Ma
section
variable {P : Program} {w : World} {K : PySem.W.Frag} {mg : Str → Option Value} {base : Heap} {f : Addr} {fd : FuncData}
abbrev s__law_shift : Stmt := top 73
abbrev N__law_shift : List Str := ["_law_row_here", "_law_dims", "_law_wide", "_law_under", "_law_far_here", "_law_k"]
theorem sc__law_shift : FnScope N__law_shift ["_law_row_here", "_law_dims"] (defScope s__law_shift) := ⟨rfl, rfl, rfl, by decide +kernel, rfl, by decide +kernel, by decide +kernel⟩
def sp__law_shift : Sp := spM (ι := List Int) (fun _ a => [⟨_, RA, a⟩, ⟨_, RI, 3⟩]) (fun i => .lst RI i) (fun i => Rw i) (fun i => ⟨_, RT RI, (shiftV i).l⟩) (fun i => .lst RI (shiftR i))
abbrev C__law_shift (P : Program) (w : World) (K : PySem.W.Frag) (mg : Str → Option Value) (base : Heap) : Prop := Cal P w K mg base "_law_shift" 3 ["_law_row_here", "_law_dims"] (sp__law_shift)
theorem ok__law_shift (bl : Bl mg) (c__law_lowest : C__law_lowest P w K mg base) (c__law_take : C__law_take P w K mg base) (F : FnP K "_law_shift" s__law_shift [] f fd) : FnOk P w K mg base CX0 3 f fd ["_law_row_here", "_law_dims"] (sp__law_shift) := by
  refine okM F sc__law_shift (fun _ _ => rfl) (by decide) (fun cdv A outer s H E hr xs hR => ⟨_, (pss_cons (ps_set (i := 2) sc__law_shift.nd rfl (.inr rfl) (pe_ix ix_list (pe_lst (pa_cons pe_int (pa_cons pe_int (pa_cons (pe_op op_pow pe_int pe_int) pa_nil)))) (pcall c__law_take (hr.mono (by decide)) (by rfl) (pa_cons (pv 0) (pa_cons pe_int pa_nil))) (fun _ _ => rfl)))
    (pss_cons (ps_set (i := 3) sc__law_shift.nd rfl (.inl rfl) (pe_ix ix_list (pe_lst (pa_cons pe_int (pa_cons pe_int (pa_cons (pe_op op_pow pe_int pe_int) pa_nil)))) (pcall c__law_take (hr.mono (by decide)) (by rfl) (pa_cons (pv 0) (pa_cons pe_int pa_nil))) (fun _ _ => rfl)))
    (pss_cons (ps_set (i := 3) sc__law_shift.nd rfl (.inl rfl) (pe_op op_add pe_int (pcall c__law_take (hr.mono (by decide)) (by rfl) (pa_cons (pv 0) (pa_cons (pv 3) pa_nil)))))
    (pss_cons (ps_setLc (i := 4) (own := [("_law_k", 5)]) (tt := tYes) rfl sc__law_shift.nd rfl rfl (sw_true rfl rfl rfl (by decide +kernel)) (pi_range1 (by rfl) bl.range_ (pa_cons (pv 1) pa_nil)) (blkOk_by (N := N__law_shift) (sc := defScope s__law_shift) (by decide +kernel)) (fun _ _ _ _ _ => (pg_name (i := 5) sc__law_shift.nd rfl (.inl rfl))) (fun _ _ _ _ _ => pts_nil) (fun _ _ _ _ _ => (pe_op op_sub (pcall c__law_take (hr.mono (by decide)) (by rfl) (pa_cons (pv 0) (pa_cons (pe_op op_add (pe_op op_mulX pe_int (pv 2)) pe_int) pa_nil))) (pv 2))))
    (pss_cons (ps_asg (pe_op op_mulX (pe_op op_add pe_int (pcall c__law_take (hr.mono (by decide)) (by rfl) (pa_cons (pv 0) (pa_cons (pv 2) pa_nil)))) (pe_op op_sub pe_int (pe_op op_mulX pe_int (pcall c__law_take (hr.mono (by decide)) (by rfl) (pa_cons (pv 0) (pa_cons pe_int pa_nil)))))) (pg_sub (pv 4) (pe_un un_neg pe_int) set_list))
    (pss_cons (ps_if (pt_cmpR op_eq (pcall c__law_take (hr.mono (by decide)) (by rfl) (pa_cons (pv 0) (pa_cons pe_int pa_nil))) pe_int (nomark _)) (pss_one (ps_asg pe_int (pg_sub (pv 4) (pe_un un_neg pe_int) set_list))) pss_nil)
    (pss_one (ps_ret (pcall c__law_lowest (hr.mono (by decide)) (by rfl) (pa_cons (pe_op op_cat (pv 4) (pe_lst (pa_cons (pv 3) pa_nil))) pa_nil)))))))))), fun a C rt hC q => ?_⟩)
  have o := shS_ok hR
  have k0 := takeV_nn hR (n := 3) (by decide)
  have k3 := takeV_lt hR (n := 3) (by decide)
  have r1 := takeR_rw hR (n := 3) (by decide)
  have l0 := takeV_nn r1 (n := 3) (by decide)
  have l3 := takeV_lt r1 (n := 3) (by decide)
  have r2 := takeR_rw r1 (n := 3) (by decide)
  obtain ⟨t0, tB, ht⟩ := topS_cases k0 k3
  obtain ⟨b0, bB, hb⟩ := botS_cases l0 l3
  have p9 : CPow 10 9 := ⟨by decide, by decide, by decide⟩
  have p6 : CPow 10 6 := ⟨by decide, by decide, by decide⟩
  refine w_seq (w_set (ev_ixL (xs := [1, 3, 10 ^ 9]) (EvN.ev (en_lst (ea_scons ev_int (ea_scons ev_int (ea_scons (Ev.to (ev_I ev_int ev_int p9) rfl) ea_snil))) (le_by rfl))) (ev_callE (xs, 3) 0 (ea_cons (ev_var rfl) (ea_cons ev_int ea_nil)) rfl ⟨by show (0 : Int) < 3; decide, bdL rfl, hR.len⟩ rfl) ht) ?_)
  refine w_seq (w_set (ev_ixL (xs := [1, 4, 10 ^ 6]) (EvN.ev (en_lst (ea_scons ev_int (ea_scons ev_int (ea_scons (Ev.to (ev_I ev_int ev_int p6) rfl) ea_snil))) (le_by rfl))) (ev_callE (takeR xs 3, 3) 0 (ea_cons (ev_var rfl) (ea_cons ev_int ea_nil)) rfl ⟨by show (0 : Int) < 3; decide, bdL rfl, r1.len⟩ rfl) hb) ?_)
  refine w_seq (w_set (ev_I0 ev_int (ev_callE (takeR (takeR xs 3) 3, botS (takeV (takeR xs 3) 3)) 0 (ea_cons (ev_var rfl) (ea_cons (ev_var rfl) ea_nil)) rfl ⟨b0, bB.mono (by decide), r2.len⟩ rfl)) ?_)
  change Wn C _ [sl RA a, sl RI 3, sl RI (shS xs).w, sl RI (shS xs).u, none, none] [(a, .lst RI (shR (shS xs) 0))]
  have eV : (shiftV xs).l = low [shV (shS xs) 0, shV (shS xs) 1, (if takeV (shE (shS xs)) 8 = 7 then 0 else shZ (shS xs)), (shS xs).u] := rfl
  have eR : shiftR xs = takeR (shE (shS xs)) 8 := rfl
  rw [eV, eR] at q
  obtain ⟨S, eS⟩ : ∃ z, z = shS xs := ⟨_, rfl⟩
  rw [← eS] at o q ⊢
  have sr := shR_rw o
  obtain ⟨n0, nB⟩ := sh_n o
  have wB := o.wB
  have tk : ∀ k, EvA (tCons (tVar 0) (tCons (tOp (rI0 fun i j => V.int (i + j)) (tOp (rI IntMulOk fun i j => V.int (i * j)) (tC (V.int 2)) (tVar 2)) (tC (V.int 1))) tNil)) [sl RA a, sl RI 3, sl RI S.w, sl RI S.u, none, sl RI k] [] [⟨_, RA, a⟩, ⟨_, RI, 2 * S.w + 1⟩] [] := fun k => ea_cons (ev_var rfl) (ea_cons (ev_I0 (ev_I ev_int (ev_var rfl) (mulOk (Bd.lit (a := 9) rfl) wB (by decide))) ev_int) ea_nil)
  refine w_seq (w_setN (EvN.to (en_lc3M (ei_rng1 (n := 3) (ea_cons (ev_var rfl) ea_nil) (by decide) (by decide)) (by decide) rfl
    (ev_I0 (ev_callE (shR S 0, 2 * S.w + 1) 0 (ea_cons (ev_var rfl) (ea_cons (ev_I0 (ev_I ev_int (ev_var rfl) (mulOk (Bd.lit (a := 9) rfl) wB (by decide))) ev_int) ea_nil)) rfl ⟨n0, nB.mono (by decide), (sr 0).len⟩ rfl) (ev_var rfl))
    (ev_I0 (ev_callE (shR S 1, 2 * S.w + 1) 0 (ea_cons (ev_var rfl) (ea_cons (ev_I0 (ev_I ev_int (ev_var rfl) (mulOk (Bd.lit (a := 9) rfl) wB (by decide))) ev_int) ea_nil)) rfl ⟨n0, nB.mono (by decide), (sr 1).len⟩ rfl) (ev_var rfl))
    (ev_I0 (ev_callE (shR S 2, 2 * S.w + 1) 0 (ea_cons (ev_var rfl) (ea_cons (ev_I0 (ev_I ev_int (ev_var rfl) (mulOk (Bd.lit (a := 9) rfl) wB (by decide))) ev_int) ea_nil)) rfl ⟨n0, nB.mono (by decide), (sr 2).len⟩ rfl) (ev_var rfl))) (show _ = [shV S 0, shV S 1, shV S 2] from rfl)) fun b => ?_)
  change Wn C _ [sl RA a, sl RI 3, sl RI S.w, sl RI S.u, sl RA b, none] [(b, .lst RI [shV S 0, shV S 1, shV S 2]), (a, .lst RI (shR S 3))]
  have r3 := sr 3
  have r4 := takeR_rw r3 o.w0
  have v3 := takeV_B r3 o.w0 wB
  have v4 := takeV_B r4 (n := 2) (k := 3) (by decide) (Bd.lit rfl)
  refine w_seq (w_setO (k := 0) (jj := 2) (x := shZ S) (ev_I (ev_I0 ev_int (ev_callE (shR S 3, S.w) 1 (ea_cons (ev_var rfl) (ea_cons (ev_var rfl) ea_nil)) rfl ⟨o.w0, wB.mono (by decide), r3.len⟩ rfl)) (ev_I0 ev_int (ev_I ev_int (ev_callE (takeR (shR S 3) S.w, 2) 1 (ea_cons (ev_var rfl) (ea_cons ev_int ea_nil)) rfl ⟨by show (0 : Int) < 2; decide, bdL rfl, r4.len⟩ rfl) (mulOk (Bd.lit (a := 9) rfl) v4 (by decide))))
    (mulOk ((Bd.lit (a := 9) rfl).add v3) ((Bd.lit (a := 9) rfl).sub ((Bd.lit (a := 9) rfl).mul v4)) (by decide))) (ev_var rfl) (ev_neg ev_int) rfl rfl ?_)
  change Wn C _ [sl RA a, sl RI 3, sl RI S.w, sl RI S.u, sl RA b, none] [(b, .lst RI [shV S 0, shV S 1, shZ S]), (a, .lst RI (shE S))]
  have eE := shE_rw o
  refine w_seq (w_ifJ (b := decide (takeV (shE S) 8 = 7)) [sl RA a, sl RI 3, sl RI S.w, sl RI S.u, sl RA b, none] [(b, .lst RI [shV S 0, shV S 1, if takeV (shE S) 8 = 7 then 0 else shZ S]), (a, .lst RI (takeR (shE S) 8))]
    (et_test (ev_eqI (ev_callE (shE S, 8) 1 (ea_cons (ev_var rfl) (ea_cons ev_int ea_nil)) rfl ⟨by show (0 : Int) < 8; decide, bdL rfl, eE.len⟩ rfl) ev_int)) (fun h hr => ?_) (fun h hr => ?_) ?_)
  · rw [if_pos (of_decide_eq_true h)] at hr
    exact w_setO (k := 0) (jj := 2) ev_int (ev_var rfl) (ev_neg ev_int) rfl rfl hr
  · rw [if_neg (of_decide_eq_false h)] at hr
    exact w_nx hr
  · have zB : Bd 44 (if takeV (shE S) 8 = 7 then 0 else shZ S) := by
      split
      · exact Bd.lit rfl
      · exact shZ_B o
    obtain ⟨z, ez⟩ : ∃ z, z = if takeV (shE S) 8 = 7 then 0 else shZ S := ⟨_, rfl⟩
    rw [← ez] at zB q ⊢
    refine w_freeze (i := 4) rfl (le_by rfl) (fun x hx => by rw [hC] at hx; exact hx) ?_
    exact w_re (ev_call (true, _) (ea_cons (EvN.ev (en_cat (ev_var rfl) (EvN.ev (en_lst (ea_scons (ev_var rfl) ea_snil) (le_by rfl))) (le_by rfl))) ea_nil) ⟨le_by rfl, all4 ((shV_B o 0).mono (by decide)) ((shV_B o 1).mono (by decide)) (zB.mono (by decide)) (o.uB.mono (by decide))⟩) q (fun p hp => hp)
abbrev s__law_part_of : Stmt := top 74
abbrev N__law_part_of : List Str := ["_law_far_here", "_law_share", "_law_number"]
theorem sc__law_part_of : FnScope N__law_part_of ["_law_far_here", "_law_share"] (defScope s__law_part_of) := ⟨rfl, rfl, rfl, by decide +kernel, rfl, by decide +kernel, by decide +kernel⟩
def sp__law_part_of : Sp := spG (ι := P4 × Fr2) (fun i => [⟨_, RT RI, i.1.l⟩, ⟨_, RT RI, i.2.l⟩]) (fun i => P4.B 44 i.1 ∧ i.2.Ok 12) (fun i => ⟨_, RT RI, (partV i.1 i.2).l⟩)
abbrev C__law_part_of (P : Program) (w : World) (K : PySem.W.Frag) (mg : Str → Option Value) (base : Heap) : Prop := Cal P w K mg base "_law_part_of" 3 ["_law_far_here", "_law_share"] (sp__law_part_of)
theorem ok__law_part_of (bl : Bl mg) (c__law_lowest : C__law_lowest P w K mg base) (F : FnP K "_law_part_of" s__law_part_of [] f fd) : FnOk P w K mg base CX0 3 f fd ["_law_far_here", "_law_share"] (sp__law_part_of) := by
  refine okG F sc__law_part_of (fun _ => rfl) (by decide) (fun cdv A outer s H E hr i hp => ⟨_, (pss_one (ps_ret (pcall c__law_lowest (hr.mono (by decide)) (by rfl) (pa_cons (pe_op op_cat (pe_lc (own := [("_law_number", 2)]) (tt := tYes) rfl sc__law_part_of.nd (pi_tup (pe_slice sl_tupA (pv 0) po_none (po_some pe_int))) (blkOk_by (N := N__law_part_of) (sc := defScope s__law_part_of) (by decide +kernel)) (fun _ _ _ _ _ => (pg_name (i := 2) sc__law_part_of.nd rfl (.inl rfl))) (fun _ _ _ _ _ => pts_nil) (fun _ _ _ _ _ => (pe_op op_mulX (pe_ix (r := rIxT K) ix_tup (pv 1) pe_int (fun _ _ => rfl)) (pv 2)))) (pe_lst (pa_cons (pe_op op_mulX (pe_ix ix_tup (pv 1) pe_int (fun _ _ => rfl)) (pe_ix ix_tup (pv 0) pe_int (fun _ _ => rfl))) pa_nil))) pa_nil)))), fun C rt hC q => ?_⟩)
  obtain ⟨p, g⟩ := i
  obtain ⟨hp, hg⟩ := hp
  dsimp only at hp hg q
  have x1 := hp.x; have x2 := hp.y; have x3 := hp.z; have x4 := hp.w; have y1 := hg.nB; have y2 := hg.dB
  exact w_re ((ev_call (true, _) (ea_cons (EvN.ev (en_cat (EvN.ev (en_lc3 (ei_tup (ev_slT (ev_var rfl) eo_none (eo_some ev_int))) (by decide) rfl (ev_I (ev_ixT (ev_var rfl) ev_int rfl) (ev_var rfl) (by apply mulOk; (case h => (repeat' (first | assumption | exact Bd.lit (a := 64) rfl | exact P4.Z.x (by assumption) | exact P4.Z.y (by assumption) | exact P4.Z.z (by assumption) | exact P4.Z.w (by assumption) | exact V3.B.x (by assumption) | exact V3.B.y (by assumption) | exact V3.B.z (by assumption) | apply Bd.mul | apply Bd.add | apply Bd.sub | apply Bd.neg))); (case g => (repeat' (first | assumption | exact Bd.lit (a := 64) rfl | exact P4.Z.x (by assumption) | exact P4.Z.y (by assumption) | exact P4.Z.z (by assumption) | exact P4.Z.w (by assumption) | exact V3.B.x (by assumption) | exact V3.B.y (by assumption) | exact V3.B.z (by assumption) | apply Bd.mul | apply Bd.add | apply Bd.sub | apply Bd.neg))); (case l => decide))) (ev_I (ev_ixT (ev_var rfl) ev_int rfl) (ev_var rfl) (by apply mulOk; (case h => (repeat' (first | assumption | exact Bd.lit (a := 64) rfl | exact P4.Z.x (by assumption) | exact P4.Z.y (by assumption) | exact P4.Z.z (by assumption) | exact P4.Z.w (by assumption) | exact V3.B.x (by assumption) | exact V3.B.y (by assumption) | exact V3.B.z (by assumption) | apply Bd.mul | apply Bd.add | apply Bd.sub | apply Bd.neg))); (case g => (repeat' (first | assumption | exact Bd.lit (a := 64) rfl | exact P4.Z.x (by assumption) | exact P4.Z.y (by assumption) | exact P4.Z.z (by assumption) | exact P4.Z.w (by assumption) | exact V3.B.x (by assumption) | exact V3.B.y (by assumption) | exact V3.B.z (by assumption) | apply Bd.mul | apply Bd.add | apply Bd.sub | apply Bd.neg))); (case l => decide))) (ev_I (ev_ixT (ev_var rfl) ev_int rfl) (ev_var rfl) (by apply mulOk; (case h => (repeat' (first | assumption | exact Bd.lit (a := 64) rfl | exact P4.Z.x (by assumption) | exact P4.Z.y (by assumption) | exact P4.Z.z (by assumption) | exact P4.Z.w (by assumption) | exact V3.B.x (by assumption) | exact V3.B.y (by assumption) | exact V3.B.z (by assumption) | apply Bd.mul | apply Bd.add | apply Bd.sub | apply Bd.neg))); (case g => (repeat' (first | assumption | exact Bd.lit (a := 64) rfl | exact P4.Z.x (by assumption) | exact P4.Z.y (by assumption) | exact P4.Z.z (by assumption) | exact P4.Z.w (by assumption) | exact V3.B.x (by assumption) | exact V3.B.y (by assumption) | exact V3.B.z (by assumption) | apply Bd.mul | apply Bd.add | apply Bd.sub | apply Bd.neg))); (case l => decide))))) (EvN.ev (en_lst (ea_scons (ev_I (ev_ixT (ev_var rfl) ev_int rfl) (ev_ixT (ev_var rfl) ev_int rfl) (by apply mulOk; (case h => (repeat' (first | assumption | exact Bd.lit (a := 64) rfl | exact P4.Z.x (by assumption) | exact P4.Z.y (by assumption) | exact P4.Z.z (by assumption) | exact P4.Z.w (by assumption) | exact V3.B.x (by assumption) | exact V3.B.y (by assumption) | exact V3.B.z (by assumption) | apply Bd.mul | apply Bd.add | apply Bd.sub | apply Bd.neg))); (case g => (repeat' (first | assumption | exact Bd.lit (a := 64) rfl | exact P4.Z.x (by assumption) | exact P4.Z.y (by assumption) | exact P4.Z.z (by assumption) | exact P4.Z.w (by assumption) | exact V3.B.x (by assumption) | exact V3.B.y (by assumption) | exact V3.B.z (by assumption) | apply Bd.mul | apply Bd.add | apply Bd.sub | apply Bd.neg))); (case l => decide))) ea_snil) (le_by rfl))) (le_by rfl))) ea_nil) ⟨le_by rfl, all4 ((y1.mul x1).mono (by decide)) ((y1.mul x2).mono (by decide)) ((y1.mul x3).mono (by decide)) ((y2.mul x4).mono (by decide))⟩)) q (fun _ h => nomatch h)
end
end Sc
set_option Elab.async false
set_option linter.all false
set_option maxRecDepth 10000
/-! what the law makes of its row -/
namespace Ma
open TL
def f1V (xs : List Int) : Fr2 := strV (rawHeapR xs)
def f2V (xs : List Int) : Fr2 := strV (strR (rawHeapR xs))
def x2V (xs : List Int) : List Int := (strN (rawHeapR xs) 2).2
def ltsV (xs : List Int) : List (List P3) := (laidN (x2V xs) (rawHeapV xs) (f1V xs) (f2V xs) (rawHeapV xs).length).1
def x3V (xs : List Int) : List Int := (laidN (x2V xs) (rawHeapV xs) (f1V xs) (f2V xs) (rawHeapV xs).length).2
def tsV (xs : List Int) : List T3 := (ltsV xs).map T3.of
structure HeapOk (xs : List Int) : Prop where
  r1 : Rw (rawHeapR xs)
  r2 : Rw (x2V xs)
  r3 : Rw (x3V xs)
  n : (rawHeapV xs).length ≤ 3
  ct : ∀ c ∈ rawHeapV xs, CT c
  f1 : (f1V xs).Ok 32
  f2 : (f2V xs).Ok 32
  m : (tsV xs).length ≤ 3
  tt : ∀ t ∈ tsV xs, TT 126 t
  e : ((ltsV xs).map fun t => t.map P3.l) = (tsV xs).map T3.l
theorem heapOk {xs : List Int} (h : Rw xs) : HeapOk xs := by
  have r0 := takeR_rw h (n := 4) (by decide)
  have k0 := takeV_nn h (n := 4) (by decide)
  have k4 := takeV_lt h (n := 4) (by decide)
  have r1 : Rw (rawHeapR xs) := heapN_rw r0 _
  have n3 : (rawHeapV xs).length ≤ 3 := by
    show (heapN (takeR xs 4) (takeV xs 4).toNat).1.length ≤ 3
    rw [heapN_len]
    omega
  have ct : ∀ c ∈ rawHeapV xs, CT c := heapN_ct r0 _
  have o1 := strV_ok r1
  have o2 := strV_ok (strOk r1).rw
  have r2 : Rw (x2V xs) := strN_rw r1 2
  have lt : ∀ t ∈ ltsV xs, LT t := laidN_lt r2 ct o1 o2 _ (Nat.le_refl _)
  refine ⟨r1, r2, laidN_rw _ _ _ r2 _, n3, ct, o1, o2, ?_, fun t ht => ?_, ?_⟩
  · show ((ltsV xs).map T3.of).length ≤ 3
    rw [List.length_map]
    show (laidN (x2V xs) (rawHeapV xs) (f1V xs) (f2V xs) (rawHeapV xs).length).1.length ≤ 3
    rw [laidN_len]
    exact n3
  · obtain ⟨l, hl, rfl⟩ := List.mem_map.mp ht
    exact lt_tt (lt l hl)
  · show _ = ((ltsV xs).map T3.of).map T3.l
    rw [List.map_map]
    exact List.map_congr_left fun l hl => (of_l (lt l hl).len).symm
def frN (r : List Int) : Fr2 := mkF (1 + takeV r 9) (1 + takeV (takeR r 9) 9)
def frR (r : List Int) : List Int := takeR (takeR r 9) 9
theorem frR_rw {r : List Int} (h : Rw r) : Rw (frR r) := takeR_rw (takeR_rw h (by decide)) (by decide)
structure FrOk (r : List Int) : Prop where
  a0 : 0 < 1 + takeV r 9
  aB : Bd 5 (1 + takeV r 9)
  b0 : 0 < 1 + takeV (takeR r 9) 9
  bB : Bd 5 (1 + takeV (takeR r 9) 9)
theorem frOk {r : List Int} (h : Rw r) : FrOk r := by
  have r1 := takeR_rw h (n := 9) (by decide)
  have a := takeV_nn h (n := 9) (by decide)
  have b := takeV_nn r1 (n := 9) (by decide)
  exact ⟨by omega, (Bd.lit (a := 4) (x := 1) rfl).add (takeV_B h (n := 9) (k := 4) (by decide) (Bd.lit rfl)), by omega, (Bd.lit (a := 4) (x := 1) rfl).add (takeV_B r1 (n := 9) (k := 4) (by decide) (Bd.lit rfl))⟩
theorem Fr2.Ok.mono {k m : Nat} {f : Fr2} (h : f.Ok k) (l : k ≤ m) : f.Ok m := ⟨h.n0, h.d0, h.nB.mono l, h.dB.mono l⟩
theorem frN_ok {r : List Int} (h : Rw r) : (frN r).Ok 5 := mkF_ok (frOk h).a0 (frOk h).b0 (frOk h).aB (frOk h).bB
def sumF (f g : Fr2) : Fr2 := mkF (f.n * g.d + g.n * f.d) (f.d * g.d)
theorem sumF_ok {f g : Fr2} (hf : f.Ok 5) (hg : g.Ok 5) : (sumF f g).Ok 12 :=
  mkF_ok (by have := Int.mul_pos hf.n0 hg.d0; have := Int.mul_pos hg.n0 hf.d0; omega) (Int.mul_pos hf.d0 hg.d0) (((hf.nB.mul hg.dB).add (hg.nB.mul hf.dB)).mono (by decide)) ((hf.dB.mul hg.dB).mono (by decide))
end Ma
set_option Elab.async false
set_option linter.all false
set_option maxRecDepth 100000
set_option maxHeartbeats 2000000
namespace Sc
open PySem PySem.Spec PyProof.Rows L2 TL Ma
theorem tt_tz {k : Nat} {t : T3} {a : P4} (hk : k ≤ 200) (h : TT k t) (ha : P4.B 56 a) (hz : a.z ≠ 0) : TZ t a := by
  have lift : ∀ {p : P4} {i j : Nat}, P4.B i p → i ≤ j → P4.B j p := fun h l => ⟨h.w0, h.x.mono l, h.y.mono l, h.z.mono l, h.w.mono l⟩
  exact ⟨tt_ok h ha.w0 hz, lift ha (by decide), lift h.p.up hk, lift h.q.up hk, lift h.r.up hk⟩
theorem hl_app (g h : List (List P4)) : HL g ++ HL h = HL (g ++ h) := List.map_append.symm
theorem cut_lo {α : Type} {xs : List α} {n : Int} (h0 : 0 ≤ n) (h1 : n ≤ xs.length) : cutX xs none (some n) = xs.take n.toNat := by
  unfold cutX
  rw [show HT.sIx xs.length 0 none = 0 from rfl, List.drop_zero, Nat.sub_zero]
  congr 1
  unfold HT.sIx
  have hn : ¬ n < 0 := by omega
  simp [hn]
  omega
theorem cut_hi {α : Type} {xs : List α} {n : Int} (h0 : 0 ≤ n) (h1 : n ≤ xs.length) : cutX xs (some n) none = xs.drop n.toNat := by
  unfold cutX
  have e : HT.sIx xs.length 0 (some n) = n.toNat := by
    unfold HT.sIx
    have hn : ¬ n < 0 := by omega
    simp [hn]
    omega
  rw [e, show HT.sIx xs.length xs.length none = xs.length from rfl]
  refine List.take_of_length_le ?_
  rw [List.length_drop]
  exact Nat.le_refl _
theorem tl_ps (t : T3) : t.l = t.ps.map P3.l := rfl
section
variable {P : Program} {w : World} {K : PySem.W.Frag} {mg : Str → Option Value} {base : Heap} {f : Addr} {fd : FuncData}
abbrev s_law : Stmt := top 75
abbrev N_law : List Str := ["_law_script", "_law_row_here", "_law_heap", "_law_far_here", "_law_one", "_law_other", "_law_low", "_law_high", "_law_whole_here", "_law_told", "_law_shift_here", "_law_pushed_heap", "_law_up", "_law_at", "_law_apart", "_law_points"]
theorem sc_law : FnScope N_law ["_law_script"] (defScope s_law) := ⟨rfl, rfl, rfl, by decide +kernel, rfl, by decide +kernel, by decide +kernel⟩
def sp_law (K : PySem.W.Frag) : Sp := spG (ι := List Int) (fun i => [⟨_, RSc K, i⟩]) (fun i => i.length ≤ 63) (fun _ => ⟨_, RB, true⟩)
theorem ok_law (bl : Bl mg) (c__law_row : C__law_row P w K mg base) (c__law_laid : C__law_laid P w K mg base) (c__law_shift : C__law_shift P w K mg base) (c__law_frac : C__law_frac P w K mg base) (c_prism : C_prism P w K mg base) (c_moved : C_moved P w K mg base) (c__law_far : C__law_far P w K mg base) (c__law_raised : C__law_raised P w K mg base) (c__law_take : C__law_take P w K mg base) (c__law_raw_heap : C__law_raw_heap P w K mg base) (c__law_stretch : C__law_stretch P w K mg base) (c__law_part_of : C__law_part_of P w K mg base) (c__law_same : C__law_same P w K mg base) (c__law_sum : C__law_sum P w K mg base) (c__law_heap_form : C__law_heap_form P w K mg base) (c_same : C_same P w K mg base) (c__law_gone : C__law_gone P w K mg base) (F : FnP K "law" s_law [] f fd) : FnOk P w K mg base CX0 8 f fd ["_law_script"] (sp_law K) := by
  refine okG F sc_law (fun _ => rfl) (by decide) (fun cdv A outer s H E hr cs hl => ⟨_, (pss_cons (ps_set (i := 1) sc_law.nd rfl (.inl rfl) (pcall c__law_row (hr.mono (by decide)) (by rfl) (pa_cons (pv 0) pa_nil)))
    (pss_cons (ps_set (i := 2) sc_law.nd rfl (.inl rfl) (pcall c__law_laid (hr.mono (by decide)) (by rfl) (pa_cons (pv 1) (pa_cons (pcall c__law_raw_heap (hr.mono (by decide)) (by rfl) (pa_cons (pv 1) (pa_cons pe_int (pa_cons pe_int pa_nil)))) (pa_cons (pcall c__law_stretch (hr.mono (by decide)) (by rfl) (pa_cons (pv 1) (pa_cons pe_int pa_nil))) pa_nil)))))
    (pss_cons (ps_set (i := 3) sc_law.nd rfl (.inl rfl) (pcall c__law_shift (hr.mono (by decide)) (by rfl) (pa_cons (pv 1) (pa_cons pe_int pa_nil))))
    (pss_cons (ps_if (pt_cmpR op_eq (pe_ix ix_tup (pv 3) pe_int (fun _ _ => rfl)) pe_int (nomark _)) (pss_one (ps_set (i := 3) sc_law.nd rfl (.inl rfl) (pe_tup (pa_cons (pe_ix ix_tup (pv 3) pe_int (fun _ _ => rfl)) (pa_cons (pe_ix ix_tup (pv 3) pe_int (fun _ _ => rfl)) (pa_cons (pe_ix ix_tup (pv 3) pe_int (fun _ _ => rfl)) (pa_cons (pe_ix ix_tup (pv 3) pe_int (fun _ _ => rfl)) pa_nil))))))) pss_nil)
    (pss_cons (ps_set (i := 4) sc_law.nd rfl (.inl rfl) (pcall c__law_frac (hr.mono (by decide)) (by rfl) (pa_cons (pe_op op_add pe_int (pcall c__law_take (hr.mono (by decide)) (by rfl) (pa_cons (pv 1) (pa_cons pe_int pa_nil)))) (pa_cons (pe_op op_add pe_int (pcall c__law_take (hr.mono (by decide)) (by rfl) (pa_cons (pv 1) (pa_cons pe_int pa_nil)))) pa_nil))))
    (pss_cons (ps_set (i := 5) sc_law.nd rfl (.inl rfl) (pcall c__law_frac (hr.mono (by decide)) (by rfl) (pa_cons (pe_op op_add pe_int (pcall c__law_take (hr.mono (by decide)) (by rfl) (pa_cons (pv 1) (pa_cons pe_int pa_nil)))) (pa_cons (pe_op op_add pe_int (pcall c__law_take (hr.mono (by decide)) (by rfl) (pa_cons (pv 1) (pa_cons pe_int pa_nil)))) pa_nil))))
    (pss_cons (ps_set (i := 6) sc_law.nd rfl (.inl rfl) (pcall c_prism (hr.mono (by decide)) (by rfl) (pa_cons (pe_callTy call_tuple_of (by rfl) bl.tuple_ (by first | rfl | decide +kernel) (pa_cons (pv 2) pa_nil)) (pa_cons (pcall c__law_part_of (hr.mono (by decide)) (by rfl) (pa_cons (pv 3) (pa_cons (pv 4) pa_nil))) pa_nil))))
    (pss_cons (ps_set (i := 7) sc_law.nd rfl (.inl rfl) (pcall c_moved (hr.mono (by decide)) (by rfl) (pa_cons (pcall c_prism (hr.mono (by decide)) (by rfl) (pa_cons (pe_callTy call_tuple_of (by rfl) bl.tuple_ (by first | rfl | decide +kernel) (pa_cons (pv 2) pa_nil)) (pa_cons (pcall c__law_part_of (hr.mono (by decide)) (by rfl) (pa_cons (pv 3) (pa_cons (pv 5) pa_nil))) pa_nil))) (pa_cons (pe_tup (pa_cons pe_int (pa_cons (pcall c__law_part_of (hr.mono (by decide)) (by rfl) (pa_cons (pv 3) (pa_cons (pv 4) pa_nil))) pa_nil))) pa_nil))))
    (pss_cons (ps_set (i := 8) sc_law.nd rfl (.inl rfl) (pcall c_prism (hr.mono (by decide)) (by rfl) (pa_cons (pe_callTy call_tuple_of (by rfl) bl.tuple_ (by first | rfl | decide +kernel) (pa_cons (pv 2) pa_nil)) (pa_cons (pcall c__law_part_of (hr.mono (by decide)) (by rfl) (pa_cons (pv 3) (pa_cons (pcall c__law_sum (hr.mono (by decide)) (by rfl) (pa_cons (pv 4) (pa_cons (pv 5) pa_nil))) pa_nil))) pa_nil))))
    (pss_cons (ps_for PassesOwn.never rfl (pi_tup (pe_tup (pa_cons (pv 6) (pa_cons (pv 7) (pa_cons (pv 8) pa_nil))))) (pg_name (i := 9) sc_law.nd rfl (.inl rfl)) (pss_one (ps_if (pt_not (pt_val (pcall c__law_heap_form (hr.mono (by decide)) (by rfl) (pa_cons (pv 9) (pa_cons pe_int pa_nil))))) (pss_one (ps_ret pe_bl)) pss_nil)))
    (pss_cons (ps_if (PW.pt (pw_or (pt_not (pt_val (pcall c__law_same (hr.mono (by decide)) (by rfl) (pa_cons (pe_op op_catA (pv 6) (pv 7)) (pa_cons (pv 8) pa_nil))))) (pw_or1 (pt_not (pt_val (pcall c_same (hr.mono (by decide)) (by rfl) (pa_cons (pv 8) (pa_cons (pe_op op_catA (pv 6) (pv 7)) pa_nil)))))))) (pss_one (ps_ret pe_bl)) pss_nil)
    (pss_cons (ps_set (i := 10) sc_law.nd rfl (.inr rfl) (pcall c__law_far (hr.mono (by decide)) (by rfl) (pa_cons (pv 1) (pa_cons pe_int pa_nil))))
    (pss_cons (ps_set (i := 11) sc_law.nd rfl (.inl rfl) (pe_callTy call_tuple_of (by rfl) bl.tuple_ (by first | rfl | decide +kernel) (pa_cons (pe_lc (own := [("_law_points", 15)]) (tt := tYes) rfl sc_law.nd (pi_list (pv 2)) (blkOk_by (N := N_law) (sc := defScope s_law) (by decide +kernel)) (fun _ _ _ _ _ => (pg_name (i := 15) sc_law.nd rfl (.inl rfl))) (fun _ _ _ _ _ => pts_nil) (fun _ _ _ _ _ => (pcall c__law_gone (hr.mono (by decide)) (by rfl) (pa_cons (pv 15) (pa_cons pe_int (pa_cons (pv 10) pa_nil)))))) pa_nil)))
    (pss_cons (ps_set (i := 12) sc_law.nd rfl (.inr rfl) (pcall c__law_raised (hr.mono (by decide)) (by rfl) (pa_cons (pv 10) pa_nil)))
    (pss_cons (ps_if (pt_not (pt_val (pcall c__law_same (hr.mono (by decide)) (by rfl) (pa_cons (pcall c_prism (hr.mono (by decide)) (by rfl) (pa_cons (pv 11) (pa_cons (pcall c__law_part_of (hr.mono (by decide)) (by rfl) (pa_cons (pv 3) (pa_cons (pv 4) pa_nil))) pa_nil))) (pa_cons (pe_lc (own := [("_law_points", 15)]) (tt := tYes) rfl sc_law.nd (pi_tup (pv 6)) (blkOk_by (N := N_law) (sc := defScope s_law) (by decide +kernel)) (fun _ _ _ _ _ => (pg_name (i := 15) sc_law.nd rfl (.inl rfl))) (fun _ _ _ _ _ => pts_nil) (fun _ _ _ _ _ => (pcall c__law_gone (hr.mono (by decide)) (by rfl) (pa_cons (pv 15) (pa_cons pe_int (pa_cons (pv 12) pa_nil)))))) pa_nil))))) (pss_one (ps_ret pe_bl)) pss_nil)
    (pss_cons (ps_set (i := 13) sc_law.nd rfl (.inl rfl) (pcall c__law_take (hr.mono (by decide)) (by rfl) (pa_cons (pv 1) (pa_cons (pe_op op_add (pe_callB call_len_seq (by rfl) bl.len_ (by first | rfl | decide +kernel) (pa_cons (pv 2) pa_nil)) pe_int) pa_nil))))
    (pss_cons (ps_set (i := 14) sc_law.nd rfl (.inl rfl) (pe_op op_catA (pcall c_prism (hr.mono (by decide)) (by rfl) (pa_cons (pe_callTy call_tuple_of (by rfl) bl.tuple_ (by first | rfl | decide +kernel) (pa_cons (pe_slice sl_list (pv 2) po_none (po_some (pv 13))) pa_nil)) (pa_cons (pcall c__law_part_of (hr.mono (by decide)) (by rfl) (pa_cons (pv 3) (pa_cons (pv 4) pa_nil))) pa_nil))) (pcall c_prism (hr.mono (by decide)) (by rfl) (pa_cons (pe_callTy call_tuple_of (by rfl) bl.tuple_ (by first | rfl | decide +kernel) (pa_cons (pe_slice sl_list (pv 2) (po_some (pv 13)) po_none) pa_nil)) (pa_cons (pcall c__law_part_of (hr.mono (by decide)) (by rfl) (pa_cons (pv 3) (pa_cons (pv 4) pa_nil))) pa_nil)))))
    (pss_one (ps_ret (pe_cmpR (op_eqD hr.units) (pv 14) (pv 6) (nomark _))))))))))))))))))))), fun C rt hC q => ?_⟩)
  refine w_seq (w_setN (en_call cs (ea_cons (ev_var rfl) ea_nil) hl) fun a => ?_)
  obtain ⟨xs, ex⟩ : ∃ z, z = rowV cs cs.length := ⟨_, rfl⟩
  have hR : Rw xs := by rw [ex]; exact ⟨rowV_nn cs _, by rw [rowV_len]; exact hl⟩
  rw [← ex]
  have ho := heapOk hR
  -- the heap
  refine w_seq (w_setE (ev_callE (x2V xs, rawHeapV xs, f1V xs, f2V xs) 0 (ea_cons (ev_var rfl) (ea_cons (ev_callE xs 0 (ea_cons (ev_var rfl) (ea_cons ev_int (ea_cons ev_int ea_nil))) rfl hR rfl) (ea_cons (Ev.to (ev_callE (rawHeapR xs) 0 (ea_cons (ev_var rfl) (ea_cons ev_int ea_nil)) rfl ho.r1 rfl) rfl) ea_nil))) rfl ⟨ho.r2, Nat.le_trans ho.n (by decide), ho.ct, ho.f1, ho.f2⟩ rfl) ho.e ?_)
  obtain ⟨ts, ets⟩ : ∃ z, z = tsV xs := ⟨_, rfl⟩
  obtain ⟨x3, ex3⟩ : ∃ z, z = x3V xs := ⟨_, rfl⟩
  have r3 : Rw x3 := by rw [ex3]; exact ho.r3
  have tn : ts.length ≤ 3 := by rw [ets]; exact ho.m
  have tt : ∀ t ∈ ts, TT 126 t := by rw [ets]; exact ho.tt
  change Wn C _ [sl (RSc K) cs, sl RA a, sl (RL (RT (RT RI))) ((tsV xs).map T3.l), none, none, none, none, none, none, none, none, none, none, none, none, none] [(a, .lst RI (x3V xs))]
  rw [← ets, ← ex3]
  -- the way
  refine w_seq (w_set (ev_callE x3 0 (ea_cons (ev_var rfl) (ea_cons ev_int ea_nil)) rfl r3 rfl) ?_)
  have wB := shiftV_B r3
  have way := fix_way wB
  have r4 := shiftR_rw r3
  refine w_seq (w_ifJ [sl (RSc K) cs, sl RA a, sl (RL (RT (RT RI))) (ts.map T3.l), sl (RT RI) (fixV (shiftV x3)).l, none, none, none, none, none, none, none, none, none, none, none, none] [(a, .lst RI (shiftR x3))] (et_test (ev_eqI (ev_ixT (ev_var rfl) ev_int rfl) ev_int)) (fun h hr => ?_) (fun h hr => ?_) ?_)
  · have e : fixV (shiftV x3) = ⟨(shiftV x3).x, (shiftV x3).y, (shiftV x3).w, (shiftV x3).w⟩ := by unfold fixV; rw [if_pos (of_decide_eq_true h)]
    rw [e] at hr
    exact w_set (ev_tup (ea_scons (ev_ixT (ev_var rfl) ev_int rfl) (ea_scons (ev_ixT (ev_var rfl) ev_int rfl) (ea_scons (ev_ixT (ev_var rfl) ev_int rfl) (ea_scons (ev_ixT (ev_var rfl) ev_int rfl) ea_snil)))) (le_by rfl)) hr
  · have e : fixV (shiftV x3) = shiftV x3 := by unfold fixV; rw [if_neg (of_decide_eq_false h)]
    rw [e] at hr
    exact w_nx hr
  obtain ⟨v, ev⟩ : ∃ z, z = fixV (shiftV x3) := ⟨_, rfl⟩
  obtain ⟨x4, ex4⟩ : ∃ z, z = shiftR x3 := ⟨_, rfl⟩
  rw [← ev] at way ⊢
  rw [← ex4] at r4 ⊢
  -- the shares
  have fr1 := frOk r4
  have f1o := frN_ok r4
  have r4' := takeR_rw r4 (n := 9) (by decide)
  have r5 := frR_rw r4
  have fr2 := frOk r5
  have f2o := frN_ok r5
  have r5' := takeR_rw r5 (n := 9) (by decide)
  have r6 := frR_rw r5
  refine w_seq (w_setE (ev_call (1 + takeV x4 9, 1 + takeV (takeR x4 9) 9) (ea_cons (ev_I0 ev_int (ev_callE (x4, 9) 0 (ea_cons (ev_var rfl) (ea_cons ev_int ea_nil)) rfl ⟨by show (0 : Int) < 9; decide, bdL rfl, r4.len⟩ rfl)) (ea_cons (ev_I0 ev_int (ev_callE (takeR x4 9, 9) 0 (ea_cons (ev_var rfl) (ea_cons ev_int ea_nil)) rfl ⟨by show (0 : Int) < 9; decide, bdL rfl, r4'.len⟩ rfl)) ea_nil)) ⟨fr1.b0, fr1.aB.mono (by decide), fr1.bB.mono (by decide)⟩) (show _ = (frN x4).l from rfl) ?_)
  refine w_seq (w_setE (ev_call (1 + takeV (frR x4) 9, 1 + takeV (takeR (frR x4) 9) 9) (ea_cons (ev_I0 ev_int (ev_callE (frR x4, 9) 0 (ea_cons (ev_var rfl) (ea_cons ev_int ea_nil)) rfl ⟨by show (0 : Int) < 9; decide, bdL rfl, r5.len⟩ rfl)) (ea_cons (ev_I0 ev_int (ev_callE (takeR (frR x4) 9, 9) 0 (ea_cons (ev_var rfl) (ea_cons ev_int ea_nil)) rfl ⟨by show (0 : Int) < 9; decide, bdL rfl, r5'.len⟩ rfl)) ea_nil)) ⟨fr2.b0, fr2.aB.mono (by decide), fr2.bB.mono (by decide)⟩) (show _ = (frN (frR x4)).l from rfl) ?_)
  change Wn C _ [sl (RSc K) cs, sl RA a, sl (RL (RT (RT RI))) (ts.map T3.l), sl (RT RI) v.l, sl (RT RI) (frN x4).l, sl (RT RI) (frN (frR x4)).l, none, none, none, none, none, none, none, none, none, none] [(a, .lst RI (frR (frR x4)))]
  obtain ⟨f1, ef1⟩ : ∃ z, z = frN x4 := ⟨_, rfl⟩
  obtain ⟨f2, ef2⟩ : ∃ z, z = frN (frR x4) := ⟨_, rfl⟩
  obtain ⟨x6, ex6⟩ : ∃ z, z = frR (frR x4) := ⟨_, rfl⟩
  rw [← ef1] at f1o ⊢
  rw [← ef2] at f2o ⊢
  rw [← ex6] at r6 ⊢
  have g1 := f1o.mono (m := 12) (by decide)
  have g2 := f2o.mono (m := 12) (by decide)
  have gs := sumF_ok f1o f2o
  have AB := part_B way.b g1
  have BB := part_B way.b g2
  have CB := part_B way.b gs
  have Az := part_z way g1
  have Bz := part_z way g2
  have Cz := part_z way gs
  have S2 : Sum2 (partV v f1) (partV v f2) (partV v (sumF f1 f2)) := part_sum way g1 g2 gs
  have pA : EvA (tCons (tVar 3) (tCons (tVar 4) tNil)) [] [] [] [] → True := fun _ => trivial
  -- the solids
  have tl : ts.length ≤ 200 := by omega
  refine w_seq (w_set (ev_call (ts, partV v f1) (ea_cons (ev_tuple (ev_S_of_L (ev_var rfl))) (ea_cons (ev_call (v, f1) (ea_cons (ev_var rfl) (ea_cons (ev_var rfl) ea_nil)) ⟨way.b, g1⟩) ea_nil)) ⟨tl, Az, fun t ht => tt_tz (by decide) (tt t ht) AB Az⟩) ?_)
  have LS := prismP_sf (k := 126) (by decide) tt AB Az
  have HS := prismP_sf (k := 126) (by decide) tt BB Bz
  have WS := prismP_sf (k := 126) (by decide) tt CB Cz
  have lL : (prismP ts (partV v f1)).length ≤ 9 := by rw [prismP_len]; omega
  have lH : (prismP ts (partV v f2)).length ≤ 9 := by rw [prismP_len]; omega
  have lW : (prismP ts (partV v (sumF f1 f2))).length ≤ 9 := by rw [prismP_len]; omega
  refine w_seq (w_set (ev_call (prismP ts (partV v f2), partV v f1) (ea_cons (ev_call (ts, partV v f2) (ea_cons (ev_tuple (ev_S_of_L (ev_var rfl))) (ea_cons (ev_call (v, f2) (ea_cons (ev_var rfl) (ea_cons (ev_var rfl) ea_nil)) ⟨way.b, g2⟩) ea_nil)) ⟨tl, Bz, fun t ht => tt_tz (by decide) (tt t ht) BB Bz⟩)
    (ea_cons (ev_pair (ea_cons ev_int (ea_cons (ev_call (v, f1) (ea_cons (ev_var rfl) (ea_cons (ev_var rfl) ea_nil)) ⟨way.b, g1⟩) ea_nil))) ea_nil)) ⟨Nat.le_trans lH (by decide), AB.Z (by decide), moved_z AB HS⟩) ?_)
  refine w_seq (w_set (ev_call (ts, partV v (sumF f1 f2)) (ea_cons (ev_tuple (ev_S_of_L (ev_var rfl))) (ea_cons (ev_call (v, sumF f1 f2) (ea_cons (ev_var rfl) (ea_cons (ev_call ((f1.n, f1.d), (f2.n, f2.d)) (ea_cons (ev_var rfl) (ea_cons (ev_var rfl) ea_nil)) ⟨f1o.d0, f2o.d0, f1o.nB.mono (by decide), f1o.dB.mono (by decide), f2o.nB.mono (by decide), f2o.dB.mono (by decide)⟩) ea_nil)) ⟨way.b, gs⟩) ea_nil)) ⟨tl, Cz, fun t ht => tt_tz (by decide) (tt t ht) CB Cz⟩) ?_)
  have MS := moved_sf AB HS
  have lM : (movedP (prismP ts (partV v f2)) (partV v f1)).length ≤ 9 := by unfold movedP; rw [List.length_map]; exact lH
  have st := fun κ => stack κ (fun t ht => tt_ok (tt t ht) AB.w0 Az) S2
  have sfo : ∀ {h : List (List P4)}, h.length ≤ 9 → (∀ ps ∈ h, SF ps) → h.length ≤ 1000 ∧ ∀ ps ∈ h, ps.length = 4 ∧ (∀ p ∈ ps, p.Z ∧ p.Ok) ∧ d4L ps ≠ 0 ∧ simpP ps = ps := fun l h => ⟨by omega, fun ps hps => ⟨(h ps hps).len, (h ps hps).z, (h ps hps).d, (h ps hps).s⟩⟩
  have LS' : ∀ ps ∈ prismP ts (partV v f1), SF ps := fun ps hps => (LS ps hps).1
  have WS' : ∀ ps ∈ prismP ts (partV v (sumF f1 f2)), SF ps := fun ps hps => (WS ps hps).1
  obtain ⟨L, eL⟩ : ∃ z, z = prismP ts (partV v f1) := ⟨_, rfl⟩
  obtain ⟨M', eM⟩ : ∃ z, z = movedP (prismP ts (partV v f2)) (partV v f1) := ⟨_, rfl⟩
  obtain ⟨Q, eQ⟩ : ∃ z, z = prismP ts (partV v (sumF f1 f2)) := ⟨_, rfl⟩
  change Wn C _ [sl (RSc K) cs, sl RA a, sl (RL (RT (RT RI))) (ts.map T3.l), sl (RT RI) v.l, sl (RT RI) f1.l, sl (RT RI) f2.l, sl (RT (RT (RT RI))) (HL (prismP ts (partV v f1))), sl (RT (RT (RT RI))) (HL (movedP (prismP ts (partV v f2)) (partV v f1))), sl (RT (RT (RT RI))) (HL (prismP ts (partV v (sumF f1 f2)))), none, none, none, none, none, none, none] [(a, .lst RI x6)]
  rw [← eL, ← eM, ← eQ]
  rw [← eL] at LS LS' lL
  rw [← eM] at MS lM
  rw [← eQ] at WS' lW
  rw [← eL, ← eM, ← eQ] at st
  refine w_seq (w_for (ei_tup (xs := [HL L, HL M', HL Q]) (ev_tup (ea_scons (ev_var rfl) (ea_scons (ev_var rfl) (ea_scons (ev_var rfl) ea_snil))) (le_by rfl))) (fun _ => [sl (RSc K) cs, sl RA a, sl (RL (RT (RT RI))) (ts.map T3.l), sl (RT RI) v.l, sl (RT RI) f1.l, sl (RT RI) f2.l, sl (RT (RT (RT RI))) (HL L), sl (RT (RT (RT RI))) (HL M'), sl (RT (RT (RT RI))) (HL Q), none, none, none, none, none, none, none])
    (fun _ => [(a, .lst RI x6)]) ⟨rfl, fun _ _ h => h⟩ rfl (fun _ _ => rfl) (fun C' I _ _ _ hI i hi => ?_) ?_)
  · have hi : i < 3 := hi
    obtain ⟨g, eg, hg⟩ : ∃ g, [HL L, HL M', HL Q][i]? = some (HL g) ∧ (g.length ≤ 1000 ∧ ∀ ps ∈ g, ps.length = 4 ∧ (∀ p ∈ ps, p.Z ∧ p.Ok) ∧ d4L ps ≠ 0 ∧ simpP ps = ps) := by
      obtain rfl | rfl | rfl : i = 0 ∨ i = 1 ∨ i = 2 := by omega
      · exact ⟨L, rfl, sfo lL LS'⟩
      · exact ⟨M', rfl, sfo lM MS⟩
      · exact ⟨Q, rfl, sfo lW WS'⟩
    show Wn C' _ [_, _, _, _, _, _, _, _, _, itS (RT (RT (RT RI))) [HL L, HL M', HL Q] i, _, _, _, _, _, _] _
    rw [itS_get eg]
    refine w_no (EvT.to (et_not (a := true) (et_test (ev_call g (ea_cons (ev_var rfl) (ea_cons ev_int ea_nil)) hg))) rfl) (w_nx ?_)
    exact w_wk (wk_same (wk_same (wk_same (wk_same (wk_same (wk_same (wk_same (wk_same (wk_same (wk_drop (wk_same (wk_same (wk_same (wk_same (wk_same (wk_same wk_nil)))))))))))))))) (hI (i + 1))
  -- the same solid
  have z4 : ∀ {h : List (List P4)}, (∀ ps ∈ h, SF ps) → ∀ ps ∈ h, ps.length = 4 ∧ ∀ p ∈ ps, p.Z := fun h ps hps => ⟨(h ps hps).len, fun p hp => ((h ps hps).z p hp).1⟩
  have z5 : ∀ {h : List (List P4)}, (∀ ps ∈ h, SF ps) → ∀ ps ∈ h, ps.length = 4 ∧ (∀ p ∈ ps, p.Z) ∧ d4L ps ≠ 0 := fun h ps hps => ⟨(h ps hps).len, fun p hp => ((h ps hps).z p hp).1, (h ps hps).d⟩
  have LM : ∀ ps ∈ L ++ M', SF ps := fun ps hps => (List.mem_append.mp hps).elim (LS' ps) (MS ps)
  have lLM : (L ++ M').length ≤ 18 := by rw [List.length_append]; omega
  have lcat : (HL L).length + (HL M').length ≤ 1000 := by rw [List.length_map, List.length_map]; omega
  refine w_seq (w_no (EvT.to (et_or (a := false) (et_not (a := true) (et_test (ev_call (false, L ++ M', Q) (ea_cons (Ev.to (ev_catT (ev_var rfl) (ev_var rfl) lcat) (hl_app L M')) (ea_cons (ev_var rfl) ea_nil)) ⟨⟨lLM, z4 LM⟩, ⟨Nat.le_trans lW (by decide), z4 WS'⟩, st⟩))) fun _ => et_not (a := true) (et_test (ev_call (Q, L ++ M') (ea_cons (ev_var rfl) (ea_cons (Ev.to (ev_catT (ev_var rfl) (ev_var rfl) lcat) (hl_app L M')) ea_nil)) ⟨⟨Nat.le_trans lW (by decide), z5 WS'⟩, ⟨Nat.le_trans lLM (by decide), z5 LM⟩, fun κ => (st κ).symm⟩))) rfl) (w_nx ?_))
  -- pushed in the plane
  have sB := farV_B r6
  have r7 := farR_rw r6
  refine w_seq (w_set (ev_callE x6 0 (ea_cons (ev_var rfl) (ea_cons ev_int ea_nil)) rfl r6 rfl) ?_)
  obtain ⟨s', es⟩ : ∃ z, z = farV x6 := ⟨_, rfl⟩
  obtain ⟨x7, ex7⟩ : ∃ z, z = farR x6 := ⟨_, rfl⟩
  change Wn C _ [sl (RSc K) cs, sl RA a, sl (RL (RT (RT RI))) (ts.map T3.l), sl (RT RI) v.l, sl (RT RI) f1.l, sl (RT RI) f2.l, sl (RT (RT (RT RI))) (HL L), sl (RT (RT (RT RI))) (HL M'), sl (RT (RT (RT RI))) (HL Q), none, sl (RT RI) (farV x6).l, none, none, none, none, none] [(a, .lst RI (farR x6))]
  rw [← es] at sB ⊢
  rw [← ex7] at r7 ⊢
  have sZ := sB.Z (by decide)
  have sU := sB.up
  have sU' : P4.B 56 s'.up := ⟨sU.w0, sU.x.mono (by decide), sU.y.mono (by decide), sU.z.mono (by decide), sU.w.mono (by decide)⟩
  have lts : (ts.map T3.l).length ≤ 1000 := by rw [List.length_map]; omega
  refine w_seq (w_setE (ev_tuple (ev_S_of_L (EvN.ev (en_lc (S := RT (RT RI)) (ei_list (ev_var rfl)) (by decide) (fun i => (pushT s' (ts.getD i (T3.of []))).l) (fun _ => [(a, .lst RI x7)]) rfl lts fun i hi => ?_)))) (show _ = (ts.map (pushT s')).map T3.l by
    rw [List.length_map, range_get2 ts (T3.of []) fun t => (pushT s' t).l, List.map_map]; rfl) ?_)
  · rw [List.length_map] at hi
    show Ev _ [_, _, _, _, _, _, _, _, _, _, _, _, _, _, _, itS (RT (RT RI)) (ts.map T3.l) i] _ _ _ _
    rw [itS_get (show (ts.map T3.l)[i]? = some (ts[i].l) by rw [List.getElem?_map, List.getElem?_eq_getElem hi]; rfl)]
    rw [show ts.getD i (T3.of []) = ts[i] by simp [List.getD_eq_getElem?_getD, hi]]
    have t1 := tt ts[i] (List.getElem_mem hi)
    obtain ⟨t, et⟩ : ∃ z, z = ts[i] := ⟨_, rfl⟩
    rw [← et] at t1 ⊢
    refine Ev.to (ev_call (Sum.inl (t.ps, s')) (ea_cons (ev_var rfl) (ea_cons ev_int (ea_cons (ev_var rfl) ea_nil))) ⟨rfl, sZ, fun p hp => ?_⟩) (show (simpT (t.ps.map fun p => add3 p s')).map P3.l = (pushT s' t).l by rw [tl_ps, pushT_ps])
    have hp : p ∈ [t.p, t.q, t.r] := hp
    simp only [List.mem_cons, List.not_mem_nil, or_false] at hp
    rcases hp with rfl | rfl | rfl
    · exact ⟨t1.p.Z (by decide), (add3_B t1.p sB).Z (by decide)⟩
    · exact ⟨t1.q.Z (by decide), (add3_B t1.q sB).Z (by decide)⟩
    · exact ⟨t1.r.Z (by decide), (add3_B t1.r sB).Z (by decide)⟩
  refine w_seq (w_set (ev_call s' (ea_cons (ev_var rfl) ea_nil) trivial) ?_)
  have ptt : ∀ t ∈ ts.map (pushT s'), TT 172 t := fun t ht => by
    obtain ⟨u, hu, rfl⟩ := List.mem_map.mp ht
    exact pushT_tt sB (tt u hu)
  have PS := prismP_sf (k := 172) (by decide) ptt AB Az
  have PS' : ∀ ps ∈ prismP (ts.map (pushT s')) (partV v f1), SF ps := fun ps hps => (PS ps hps).1
  have lP : (prismP (ts.map (pushT s')) (partV v f1)).length ≤ 9 := by rw [prismP_len, List.length_map]; omega
  have mz := moved_z sU' LS
  have MU := moved_sf sU' LS
  have lMU : (movedP L s'.up).length ≤ 9 := by unfold movedP; rw [List.length_map]; exact lL
  have pu := fun κ => push (f := pushT s') κ sB.w0 (fun t ht => tt_ok (tt t ht) AB.w0 Az) fun t ht => pushT_pushed s' t
  rw [← eL] at pu
  have lHL : (HL L).length ≤ 1000 := by rw [List.length_map]; omega
  refine w_seq (w_no (EvT.to (et_not (a := true) (et_test (ev_call (true, prismP (ts.map (pushT s')) (partV v f1), movedP L s'.up)
    (ea_cons (ev_call (ts.map (pushT s'), partV v f1) (ea_cons (ev_var rfl) (ea_cons (ev_call (v, f1) (ea_cons (ev_var rfl) (ea_cons (ev_var rfl) ea_nil)) ⟨way.b, g1⟩) ea_nil)) ⟨by rw [List.length_map]; omega, Az, fun t ht => tt_tz (by decide) (ptt t ht) AB Az⟩)
    (ea_cons (Ev.to (EvN.ev (en_lc (S := RT (RT RI)) (ei_tup (ev_var rfl)) (by decide) (fun i => (simpP ((L.getD i []).map fun p => add p s'.up)).map P4.l) (fun _ => [(a, .lst RI x7)]) rfl lHL fun i hi => ?_)) (show _ = HL (movedP L s'.up) by
      rw [List.length_map, range_get2 L [] fun ps => (simpP (ps.map fun p => add p s'.up)).map P4.l]
      unfold HL movedP
      rw [List.map_map]; rfl)) ea_nil)) ⟨⟨Nat.le_trans lP (by decide), z4 PS'⟩, ⟨Nat.le_trans lMU (by decide), z4 MU⟩, pu⟩))) rfl) (w_nx ?_))
  · rw [List.length_map] at hi
    show Ev _ [_, _, _, _, _, _, _, _, _, _, _, _, _, _, _, itS (RT (RT RI)) (HL L) i] _ _ _ _
    rw [itS_get (show (HL L)[i]? = some (L[i].map P4.l) by rw [List.getElem?_map, List.getElem?_eq_getElem hi]; rfl)]
    rw [show L.getD i [] = L[i] by simp [List.getD_eq_getElem?_getD, hi]]
    obtain ⟨z1, z2, z3⟩ := mz L[i] (List.getElem_mem hi)
    exact ev_call (Sum.inr (L[i], s'.up)) (ea_cons (ev_var rfl) (ea_cons ev_int (ea_cons (ev_var rfl) ea_nil))) ⟨z1, sU'.Z (by decide), z2⟩
  -- in parts
  have n0 : 0 < ((ts.map T3.l).length : Int) + 1 := by omega
  have nB : Bd 8000 (((ts.map T3.l).length : Int) + 1) := by
    refine Bd.mono (a := 10) ?_ (by decide)
    show (((ts.map T3.l).length : Int) + 1).natAbs < 2 ^ 10
    rw [List.length_map]
    have : (2 : Nat) ^ 10 = 1024 := by decide
    omega
  have a0 := takeV_nn r7 n0
  have a1 := takeV_lt r7 n0
  refine w_seq (w_set (ev_callE (x7, ((ts.map T3.l).length : Int) + 1) 0 (ea_cons (ev_var rfl) (ea_cons (ev_I0 (ev_len (ev_S_of_L (ev_var rfl))) ev_int) ea_nil)) rfl ⟨n0, nB, r7.len⟩ rfl) ?_)
  obtain ⟨k, ek⟩ : ∃ z, z = takeV x7 (((ts.map T3.l).length : Int) + 1) := ⟨_, rfl⟩
  rw [← ek] at a0 a1
  dsimp only
  rw [← ek]
  have c1 := (cut_lo (xs := ts.map T3.l) a0 (by omega)).trans (List.map_take (f := T3.l) (l := ts) (i := k.toNat)).symm
  have c2 := (cut_hi (xs := ts.map T3.l) a0 (by omega)).trans (List.map_drop (f := T3.l) (l := ts) (i := k.toNat)).symm
  have tk : ∀ t ∈ ts.take k.toNat, TZ t (partV v f1) := fun t ht => tt_tz (by decide) (tt t (List.mem_of_mem_take ht)) AB Az
  have td : ∀ t ∈ ts.drop k.toNat, TZ t (partV v f1) := fun t ht => tt_tz (by decide) (tt t (List.mem_of_mem_drop ht)) AB Az
  have l1 : (ts.take k.toNat).length ≤ 3 := by rw [List.length_take]; omega
  have l2 : (ts.drop k.toNat).length ≤ 3 := by rw [List.length_drop]; omega
  have ep : prismP (ts.take k.toNat) (partV v f1) ++ prismP (ts.drop k.toNat) (partV v f1) = L := by
    rw [eL]
    unfold prismP
    rw [← List.flatMap_append, List.take_append_drop]
  have lc : (HL (prismP (ts.take k.toNat) (partV v f1))).length + (HL (prismP (ts.drop k.toNat) (partV v f1))).length ≤ 1000 := by
    rw [List.length_map, List.length_map, prismP_len, prismP_len]
    omega
  refine w_seq (w_setE (ev_catT
    (ev_call (ts.take k.toNat, partV v f1) (ea_cons (ev_tuple (ev_S_of_L (Ev.to (EvN.ev (en_slL (ev_var rfl) eo_none (eo_some (ev_var rfl)))) c1))) (ea_cons (ev_call (v, f1) (ea_cons (ev_var rfl) (ea_cons (ev_var rfl) ea_nil)) ⟨way.b, g1⟩) ea_nil)) ⟨Nat.le_trans l1 (by decide), Az, tk⟩)
    (ev_call (ts.drop k.toNat, partV v f1) (ea_cons (ev_tuple (ev_S_of_L (Ev.to (EvN.ev (en_slL (ev_var rfl) (eo_some (ev_var rfl)) eo_none)) c2))) (ea_cons (ev_call (v, f1) (ea_cons (ev_var rfl) (ea_cons (ev_var rfl) ea_nil)) ⟨way.b, g1⟩) ea_nil)) ⟨Nat.le_trans l2 (by decide), Az, td⟩) lc) (show _ = HL L by rw [← ep]; exact hl_app _ _) ?_)
  exact w_re (ev_eqD (dat_RT (dat_RT (dat_RT dat_RI))) (ev_var rfl) (ev_var rfl) ((sh_RRR (HL L)).shaped (by decide)) ((sh_RRR (HL L)).shaped (by decide)) (sh_RRR (HL L)).self) q (fun _ h => nomatch h)
end
end Sc
set_option Elab.async false
set_option linter.all false
set_option maxRecDepth 100000
set_option maxHeartbeats 0
namespace Sc
open PySem PySem.Spec PyProof.Rows L2 TL
def d__law_row : He.DefD := ⟨("_law_row", none), "_law_row", "_law_row", defArgs s__law_row, defBody s__law_row, defScope s__law_row, [], []⟩
def d__law_take : He.DefD := ⟨("_law_take", none), "_law_take", "_law_take", defArgs s__law_take, defBody s__law_take, defScope s__law_take, [], []⟩
def d__law_gcd : He.DefD := ⟨("_law_gcd", none), "_law_gcd", "_law_gcd", defArgs s__law_gcd, defBody s__law_gcd, defScope s__law_gcd, [], []⟩
def d__law_lowest : He.DefD := ⟨("_law_lowest", none), "_law_lowest", "_law_lowest", defArgs s__law_lowest, defBody s__law_lowest, defScope s__law_lowest, [], []⟩
def d__law_far : He.DefD := ⟨("_law_far", none), "_law_far", "_law_far", defArgs s__law_far, defBody s__law_far, defScope s__law_far, [], []⟩
def d__law_dot : He.DefD := ⟨("_law_dot", none), "_law_dot", "_law_dot", defArgs s__law_dot, defBody s__law_dot, defScope s__law_dot, [], []⟩
def d__law_cross : He.DefD := ⟨("_law_cross", none), "_law_cross", "_law_cross", defArgs s__law_cross, defBody s__law_cross, defScope s__law_cross, [], []⟩
def d__law_turn : He.DefD := ⟨("_law_turn", none), "_law_turn", "_law_turn", defArgs s__law_turn, defBody s__law_turn, defScope s__law_turn, [], []⟩
def d__law_gap : He.DefD := ⟨("_law_gap", none), "_law_gap", "_law_gap", defArgs s__law_gap, defBody s__law_gap, defScope s__law_gap, [], []⟩
def d__law_det : He.DefD := ⟨("_law_det", none), "_law_det", "_law_det", defArgs s__law_det, defBody s__law_det, defScope s__law_det, [], []⟩
def d__law_simplex : He.DefD := ⟨("_law_simplex", none), "_law_simplex", "_law_simplex", defArgs s__law_simplex, defBody s__law_simplex, defScope s__law_simplex, [], []⟩
def d__law_joined : He.DefD := ⟨("_law_joined", none), "_law_joined", "_law_joined", defArgs s__law_joined, defBody s__law_joined, defScope s__law_joined, [], []⟩
def d__law_spot : He.DefD := ⟨("_law_spot", none), "_law_spot", "_law_spot", defArgs s__law_spot, defBody s__law_spot, defScope s__law_spot, [], []⟩
def d__law_laid : He.DefD := ⟨("_law_laid", none), "_law_laid", "_law_laid", defArgs s__law_laid, defBody s__law_laid, defScope s__law_laid, [], []⟩
def d__law_shift : He.DefD := ⟨("_law_shift", none), "_law_shift", "_law_shift", defArgs s__law_shift, defBody s__law_shift, defScope s__law_shift, [], []⟩
def d__law_frac : He.DefD := ⟨("_law_frac", none), "_law_frac", "_law_frac", defArgs s__law_frac, defBody s__law_frac, defScope s__law_frac, [], []⟩
def d_raised : He.DefD := ⟨("raised", none), "raised", "raised", defArgs s_raised, defBody s_raised, defScope s_raised, [], []⟩
def d_divisor : He.DefD := ⟨("divisor", none), "divisor", "divisor", defArgs s_divisor, defBody s_divisor, defScope s_divisor, [], []⟩
def d_lowest : He.DefD := ⟨("lowest", none), "lowest", "lowest", defArgs s_lowest, defBody s_lowest, defScope s_lowest, [], []⟩
def d_point : He.DefD := ⟨("point", none), "point", "point", defArgs s_point, defBody s_point, defScope s_point, [.int 1], []⟩
def d_added : He.DefD := ⟨("added", none), "added", "added", defArgs s_added, defBody s_added, defScope s_added, [], []⟩
def d_dot : He.DefD := ⟨("dot", none), "dot", "dot", defArgs s_dot, defBody s_dot, defScope s_dot, [], []⟩
def d_cross : He.DefD := ⟨("cross", none), "cross", "cross", defArgs s_cross, defBody s_cross, defScope s_cross, [], []⟩
def d_determinant : He.DefD := ⟨("determinant", none), "determinant", "determinant", defArgs s_determinant, defBody s_determinant, defScope s_determinant, [], []⟩
def d_arrow : He.DefD := ⟨("arrow", none), "arrow", "arrow", defArgs s_arrow, defBody s_arrow, defScope s_arrow, [], []⟩
def d_side : He.DefD := ⟨("side", none), "side", "side", defArgs s_side, defBody s_side, defScope s_side, [], []⟩
def d_simplex : He.DefD := ⟨("simplex", none), "simplex", "simplex", defArgs s_simplex, defBody s_simplex, defScope s_simplex, [], []⟩
def d_prism : He.DefD := ⟨("prism", none), "prism", "prism", defArgs s_prism, defBody s_prism, defScope s_prism, [], []⟩
def d_moved_point : He.DefD := ⟨("moved_point", none), "moved_point", "moved_point", defArgs s_moved_point, defBody s_moved_point, defScope s_moved_point, [], []⟩
def d_moved_simplex : He.DefD := ⟨("moved_simplex", none), "moved_simplex", "moved_simplex", defArgs s_moved_simplex, defBody s_moved_simplex, defScope s_moved_simplex, [], []⟩
def d_moved : He.DefD := ⟨("moved", none), "moved", "moved", defArgs s_moved, defBody s_moved, defScope s_moved, [], []⟩
def d__law_raised : He.DefD := ⟨("_law_raised", none), "_law_raised", "_law_raised", defArgs s__law_raised, defBody s__law_raised, defScope s__law_raised, [], []⟩
def d__law_raw_turn : He.DefD := ⟨("_law_raw_turn", none), "_law_raw_turn", "_law_raw_turn", defArgs s__law_raw_turn, defBody s__law_raw_turn, defScope s__law_raw_turn, [], []⟩
def d__law_raw : He.DefD := ⟨("_law_raw", none), "_law_raw", "_law_raw", defArgs s__law_raw, defBody s__law_raw, defScope s__law_raw, [], []⟩
def d__law_raw_heap : He.DefD := ⟨("_law_raw_heap", none), "_law_raw_heap", "_law_raw_heap", defArgs s__law_raw_heap, defBody s__law_raw_heap, defScope s__law_raw_heap, [], []⟩
def d__law_stretch : He.DefD := ⟨("_law_stretch", none), "_law_stretch", "_law_stretch", defArgs s__law_stretch, defBody s__law_stretch, defScope s__law_stretch, [], []⟩
def d__law_part_of : He.DefD := ⟨("_law_part_of", none), "_law_part_of", "_law_part_of", defArgs s__law_part_of, defBody s__law_part_of, defScope s__law_part_of, [], []⟩
def d__law_shuts : He.DefD := ⟨("_law_shuts", none), "_law_shuts", "_law_shuts", defArgs s__law_shuts, defBody s__law_shuts, defScope s__law_shuts, [], []⟩
def d__law_upward : He.DefD := ⟨("_law_upward", none), "_law_upward", "_law_upward", defArgs s__law_upward, defBody s__law_upward, defScope s__law_upward, [], []⟩
def d__law_plane : He.DefD := ⟨("_law_plane", none), "_law_plane", "_law_plane", defArgs s__law_plane, defBody s__law_plane, defScope s__law_plane, [], []⟩
def d__law_put : He.DefD := ⟨("_law_put", none), "_law_put", "_law_put", defArgs s__law_put, defBody s__law_put, defScope s__law_put, [], []⟩
def d__law_space_line : He.DefD := ⟨("_law_space_line", none), "_law_space_line", "_law_space_line", defArgs s__law_space_line, defBody s__law_space_line, defScope s__law_space_line, [], []⟩
def d__law_mark : He.DefD := ⟨("_law_mark", none), "_law_mark", "_law_mark", defArgs s__law_mark, defBody s__law_mark, defScope s__law_mark, [], []⟩
def d__law_same : He.DefD := ⟨("_law_same", none), "_law_same", "_law_same", defArgs s__law_same, defBody s__law_same, defScope s__law_same, [], []⟩
def d__law_sum : He.DefD := ⟨("_law_sum", none), "_law_sum", "_law_sum", defArgs s__law_sum, defBody s__law_sum, defScope s__law_sum, [], []⟩
def d__law_whole : He.DefD := ⟨("_law_whole", none), "_law_whole", "_law_whole", defArgs s__law_whole, defBody s__law_whole, defScope s__law_whole, [], []⟩
def d__law_wholes : He.DefD := ⟨("_law_wholes", none), "_law_wholes", "_law_wholes", defArgs s__law_wholes, defBody s__law_wholes, defScope s__law_wholes, [], []⟩
def d__law_point_form : He.DefD := ⟨("_law_point_form", none), "_law_point_form", "_law_point_form", defArgs s__law_point_form, defBody s__law_point_form, defScope s__law_point_form, [], []⟩
def d__law_simplex_form : He.DefD := ⟨("_law_simplex_form", none), "_law_simplex_form", "_law_simplex_form", defArgs s__law_simplex_form, defBody s__law_simplex_form, defScope s__law_simplex_form, [], []⟩
def d__law_heap_form : He.DefD := ⟨("_law_heap_form", none), "_law_heap_form", "_law_heap_form", defArgs s__law_heap_form, defBody s__law_heap_form, defScope s__law_heap_form, [], []⟩
def d_walls_of : He.DefD := ⟨("walls_of", none), "walls_of", "walls_of", defArgs s_walls_of, defBody s_walls_of, defScope s_walls_of, [], []⟩
def d_unturned : He.DefD := ⟨("unturned", none), "unturned", "unturned", defArgs s_unturned, defBody s_unturned, defScope s_unturned, [], []⟩
def d_blade : He.DefD := ⟨("blade", none), "blade", "blade", defArgs s_blade, defBody s_blade, defScope s_blade, [], []⟩
def d_line_key : He.DefD := ⟨("line_key", none), "line_key", "line_key", defArgs s_line_key, defBody s_line_key, defScope s_line_key, [], []⟩
def d_put_end : He.DefD := ⟨("put_end", none), "put_end", "put_end", defArgs s_put_end, defBody s_put_end, defScope s_put_end, [], []⟩
def d_shore_of : He.DefD := ⟨("shore_of", none), "shore_of", "shore_of", defArgs s_shore_of, defBody s_shore_of, defScope s_shore_of, [], []⟩
def d_same : He.DefD := ⟨("same", none), "same", "same", defArgs s_same, defBody s_same, defScope s_same, [], []⟩
def d__law_gone : He.DefD := ⟨("_law_gone", none), "_law_gone", "_law_gone", defArgs s__law_gone, defBody s__law_gone, defScope s__law_gone, [], []⟩
def d_law : He.DefD := ⟨("law", none), "law", "law", defArgs s_law, defBody s_law, defScope s_law, [], []⟩
def fn : List He.DefD := ([d__law_row, d__law_take, d__law_gcd, d__law_lowest, d__law_far, d__law_dot, d__law_cross, d__law_turn] : List He.DefD) ++
  ([d__law_gap, d__law_det, d__law_simplex, d__law_joined, d__law_spot, d__law_laid, d__law_shift, d__law_frac] : List He.DefD) ++
  ([d_raised, d_divisor, d_lowest, d_point, d_added, d_dot, d_cross, d_determinant] : List He.DefD) ++
  ([d_arrow, d_side, d_simplex, d_prism, d_moved_point, d_moved_simplex, d_moved, d__law_raised] : List He.DefD) ++
  ([d__law_raw_turn, d__law_raw, d__law_raw_heap, d__law_stretch, d__law_part_of, d__law_shuts, d__law_upward, d__law_plane] : List He.DefD) ++
  ([d__law_put, d__law_space_line, d__law_mark, d__law_same, d__law_sum, d__law_whole, d__law_wholes, d__law_point_form] : List He.DefD) ++
  ([d__law_simplex_form, d__law_heap_form, d_walls_of, d_unturned, d_blade, d_line_key, d_put_end, d_shore_of] : List He.DefD) ++
  ([d_same, d__law_gone, d_law] : List He.DefD)
def fa : List He.Fa := ([.glo "_law_row", .glo "_law_take", .glo "_law_gcd", .glo "_law_lowest", .glo "_law_far", .glo "_law_dot", .glo "_law_cross", .glo "_law_turn"] : List He.Fa) ++
  ([.glo "_law_gap", .glo "_law_det", .glo "_law_simplex", .glo "_law_joined", .glo "_law_spot", .glo "_law_laid", .glo "_law_shift", .glo "_law_frac"] : List He.Fa) ++
  ([.glo "raised", .glo "divisor", .glo "lowest", .glo "point", .glo "added", .glo "dot", .glo "cross", .glo "determinant"] : List He.Fa) ++
  ([.glo "arrow", .glo "side", .glo "simplex", .glo "prism", .glo "moved_point", .glo "moved_simplex", .glo "moved", .glo "_law_raised"] : List He.Fa) ++
  ([.glo "_law_raw_turn", .glo "_law_raw", .glo "_law_raw_heap", .glo "_law_stretch", .glo "_law_part_of", .glo "_law_shuts", .glo "_law_upward", .glo "_law_plane"] : List He.Fa) ++
  ([.glo "_law_put", .glo "_law_space_line", .glo "_law_mark", .glo "_law_same", .glo "_law_sum", .glo "_law_whole", .glo "_law_wholes", .glo "_law_point_form"] : List He.Fa) ++
  ([.glo "_law_simplex_form", .glo "_law_heap_form", .glo "walls_of", .glo "unturned", .glo "blade", .glo "line_key", .glo "put_end", .glo "shore_of"] : List He.Fa) ++
  ([.glo "same", .glo "_law_gone", .glo "law", .free "abs", .free "len", .free "all", .free "sum", .free "sorted"] : List He.Fa) ++
  ([.free "isinstance", .free "int", .free "bool", .free "tuple", .free "list", .free "zip", .free "range", .free "enumerate"] : List He.Fa)
abbrev R : PySem.W.OpenRow := PySem.W.OpenLaw.row PySem.Challenge.rw_scissorhall_k65_whole_stacked
abbrev hk : PySem.W.Hook := He.hookD 4 fa fn
def ob (s : PySem.W.SharedT) : He.AlD := He.obsDG 4 fa fn (HandSHeadRun.getT s)
theorem ob_eq (s : PySem.W.SharedT) : ob s = hk.obs s.abs := He.obsDG_eq (HandSHeadRun.getT_eq s)
def loose : List Str := (["HallError", "NoPoint", "Flat", "NoBlade", "divisor", "lowest", "point", "added", "turned", "lessened", "arrow", "cross"] : List Str) ++
  (["dot", "determinant", "side", "simplex", "walls_of", "raised", "prism", "blade", "unturned", "line_key", "put_end", "shore_of"] : List Str) ++
  (["same", "moved_point", "moved_simplex", "moved", "_law_row", "_law_take", "_law_gcd", "_law_lowest", "_law_upward", "_law_whole", "_law_wholes", "_law_frac"] : List Str) ++
  (["_law_sum", "_law_joined", "_law_gap", "_law_cross", "_law_dot", "_law_turn", "_law_det", "_law_simplex", "_law_flat_line", "_law_space_line", "_law_plane", "_law_shuts"] : List Str) ++
  (["_law_put", "_law_mark", "_law_same", "_law_gone", "_law_point_form", "_law_simplex_form", "_law_heap_form", "_law_raw", "_law_raw_turn", "_law_kuhn", "_law_raw_heap", "_law_far"] : List Str) ++
  (["_law_stretch", "_law_spot", "_law_laid", "_law_raised", "_law_shift", "_law_part_of"] : List Str)
theorem run (w : World) : HandSHeadRun.RunEq R (PySem.W.view R.prog [75]) hk ob 3000 loose w := by
  intro os
  kernel_rfl
theorem facts {P : Program} {w : World} {K : PySem.W.Frag} {h : Heap} {mg : Str → Option Value} {f : Addr} (X : K.In h) (G : h.Ns mainGlobals mg) (hfa : mg ("law" : Str) = some (.ref f)) (c : He.SaysD fa fn K) :
    ∃ fd : FuncData, (∀ (s : Shared) (v : Value), BindsTo s fd ⟨[v], []⟩ [("_law_script", v)]) ∧ ∀ base : Heap, K.In base → base.Ns mainGlobals mg → FnOk P w K mg base CX0 8 f fd ["_law_script"] (sp_law K) := by
  obtain ⟨fd, F⟩ := c.def_ 58 (d := d_law) rfl
  have e := hfa.symm.trans (He.glo_ok X G (c.fact 58 (f := .glo "law") rfl))
  cases e
  have b := FunD.bindsA (ps := ["_law_script"]) F fun _ _ _ _ _ _ us hl => match us, hl with | [_], _ => rfl
  refine ⟨fd, fun s v => b s [v] rfl, fun base _ _ => ?_⟩
  have bl : Bl mg := ⟨He.free_ok X G (c.fact 59 (f := .free "abs") rfl), He.free_ok X G (c.fact 60 (f := .free "len") rfl), He.free_ok X G (c.fact 61 (f := .free "all") rfl), He.free_ok X G (c.fact 62 (f := .free "sum") rfl), He.free_ok X G (c.fact 63 (f := .free "sorted") rfl), He.free_ok X G (c.fact 64 (f := .free "isinstance") rfl), He.free_ok X G (c.fact 65 (f := .free "int") rfl), He.free_ok X G (c.fact 66 (f := .free "bool") rfl), He.free_ok X G (c.fact 67 (f := .free "tuple") rfl), He.free_ok X G (c.fact 68 (f := .free "list") rfl), He.free_ok X G (c.fact 69 (f := .free "zip") rfl), He.free_ok X G (c.fact 70 (f := .free "range") rfl), He.free_ok X G (c.fact 71 (f := .free "enumerate") rfl)⟩
  obtain ⟨fd__law_row, F__law_row⟩ := c.def_ 0 (d := d__law_row) rfl
  have c__law_row : C__law_row P w K mg base := ⟨_, fd__law_row, [], ok__law_row bl F__law_row, He.glo_ok X G (c.fact 0 (f := .glo "_law_row") rfl), F__law_row.kp, F__law_row.bindsN (fun _ _ _ _ _ _ us hl => match us, hl with | [_], _ => rfl), .nil⟩
  obtain ⟨fd__law_take, F__law_take⟩ := c.def_ 1 (d := d__law_take) rfl
  have c__law_take : C__law_take P w K mg base := ⟨_, fd__law_take, [], ok__law_take bl F__law_take, He.glo_ok X G (c.fact 1 (f := .glo "_law_take") rfl), F__law_take.kp, F__law_take.bindsN (fun _ _ _ _ _ _ us hl => match us, hl with | [_, _], _ => rfl), .nil⟩
  obtain ⟨fd__law_gcd, F__law_gcd⟩ := c.def_ 2 (d := d__law_gcd) rfl
  have c__law_gcd : C__law_gcd P w K mg base := ⟨_, fd__law_gcd, [], ok__law_gcd bl F__law_gcd, He.glo_ok X G (c.fact 2 (f := .glo "_law_gcd") rfl), F__law_gcd.kp, F__law_gcd.bindsN (fun _ _ _ _ _ _ us hl => match us, hl with | [_, _], _ => rfl), .nil⟩
  obtain ⟨fd__law_lowest, F__law_lowest⟩ := c.def_ 3 (d := d__law_lowest) rfl
  have c__law_lowest : C__law_lowest P w K mg base := ⟨_, fd__law_lowest, [], ok__law_lowest bl c__law_gcd F__law_lowest, He.glo_ok X G (c.fact 3 (f := .glo "_law_lowest") rfl), F__law_lowest.kp, F__law_lowest.bindsN (fun _ _ _ _ _ _ us hl => match us, hl with | [_], _ => rfl), .nil⟩
  obtain ⟨fd__law_far, F__law_far⟩ := c.def_ 4 (d := d__law_far) rfl
  have c__law_far : C__law_far P w K mg base := ⟨_, fd__law_far, [], ok__law_far bl c__law_take c__law_lowest F__law_far, He.glo_ok X G (c.fact 4 (f := .glo "_law_far") rfl), F__law_far.kp, F__law_far.bindsN (fun _ _ _ _ _ _ us hl => match us, hl with | [_, _], _ => rfl), .nil⟩
  obtain ⟨fd__law_dot, F__law_dot⟩ := c.def_ 5 (d := d__law_dot) rfl
  have c__law_dot : C__law_dot P w K mg base := ⟨_, fd__law_dot, [], ok__law_dot bl F__law_dot, He.glo_ok X G (c.fact 5 (f := .glo "_law_dot") rfl), F__law_dot.kp, F__law_dot.bindsN (fun _ _ _ _ _ _ us hl => match us, hl with | [_, _], _ => rfl), .nil⟩
  obtain ⟨fd__law_cross, F__law_cross⟩ := c.def_ 6 (d := d__law_cross) rfl
  have c__law_cross : C__law_cross P w K mg base := ⟨_, fd__law_cross, [], ok__law_cross bl F__law_cross, He.glo_ok X G (c.fact 6 (f := .glo "_law_cross") rfl), F__law_cross.kp, F__law_cross.bindsN (fun _ _ _ _ _ _ us hl => match us, hl with | [_, _], _ => rfl), .nil⟩
  obtain ⟨fd__law_turn, F__law_turn⟩ := c.def_ 7 (d := d__law_turn) rfl
  have c__law_turn : C__law_turn P w K mg base := ⟨_, fd__law_turn, [], ok__law_turn bl c__law_dot c__law_cross F__law_turn, He.glo_ok X G (c.fact 7 (f := .glo "_law_turn") rfl), F__law_turn.kp, F__law_turn.bindsN (fun _ _ _ _ _ _ us hl => match us, hl with | [_], _ => rfl), .nil⟩
  obtain ⟨fd__law_gap, F__law_gap⟩ := c.def_ 8 (d := d__law_gap) rfl
  have c__law_gap : C__law_gap P w K mg base := ⟨_, fd__law_gap, [], ok__law_gap bl F__law_gap, He.glo_ok X G (c.fact 8 (f := .glo "_law_gap") rfl), F__law_gap.kp, F__law_gap.bindsN (fun _ _ _ _ _ _ us hl => match us, hl with | [_, _], _ => rfl), .nil⟩
  obtain ⟨fd__law_det, F__law_det⟩ := c.def_ 9 (d := d__law_det) rfl
  have c__law_det : C__law_det P w K mg base := ⟨_, fd__law_det, [], ok__law_det bl c__law_turn c__law_gap F__law_det, He.glo_ok X G (c.fact 9 (f := .glo "_law_det") rfl), F__law_det.kp, F__law_det.bindsN (fun _ _ _ _ _ _ us hl => match us, hl with | [_], _ => rfl), .nil⟩
  obtain ⟨fd__law_simplex, F__law_simplex⟩ := c.def_ 10 (d := d__law_simplex) rfl
  have c__law_simplex : C__law_simplex P w K mg base := ⟨_, fd__law_simplex, [], ok__law_simplex bl c__law_det F__law_simplex, He.glo_ok X G (c.fact 10 (f := .glo "_law_simplex") rfl), F__law_simplex.kp, F__law_simplex.bindsN (fun _ _ _ _ _ _ us hl => match us, hl with | [_], _ => rfl), .nil⟩
  obtain ⟨fd__law_joined, F__law_joined⟩ := c.def_ 11 (d := d__law_joined) rfl
  have c__law_joined : C__law_joined P w K mg base := ⟨_, fd__law_joined, [], ok__law_joined bl c__law_lowest F__law_joined, He.glo_ok X G (c.fact 11 (f := .glo "_law_joined") rfl), F__law_joined.kp, F__law_joined.bindsN (fun _ _ _ _ _ _ us hl => match us, hl with | [_, _, _], _ => rfl), .nil⟩
  obtain ⟨fd__law_spot, F__law_spot⟩ := c.def_ 12 (d := d__law_spot) rfl
  have c__law_spot : C__law_spot P w K mg base := ⟨_, fd__law_spot, [], ok__law_spot bl c__law_lowest F__law_spot, He.glo_ok X G (c.fact 12 (f := .glo "_law_spot") rfl), F__law_spot.kp, F__law_spot.bindsN (fun _ _ _ _ _ _ us hl => match us, hl with | [_, _], _ => rfl), .nil⟩
  obtain ⟨fd__law_laid, F__law_laid⟩ := c.def_ 13 (d := d__law_laid) rfl
  have c__law_laid : C__law_laid P w K mg base := ⟨_, fd__law_laid, [], ok__law_laid bl c__law_far c__law_simplex c__law_joined c__law_spot F__law_laid, He.glo_ok X G (c.fact 13 (f := .glo "_law_laid") rfl), F__law_laid.kp, F__law_laid.bindsN (fun _ _ _ _ _ _ us hl => match us, hl with | [_, _, _], _ => rfl), .nil⟩
  obtain ⟨fd__law_shift, F__law_shift⟩ := c.def_ 14 (d := d__law_shift) rfl
  have c__law_shift : C__law_shift P w K mg base := ⟨_, fd__law_shift, [], ok__law_shift bl c__law_lowest c__law_take F__law_shift, He.glo_ok X G (c.fact 14 (f := .glo "_law_shift") rfl), F__law_shift.kp, F__law_shift.bindsN (fun _ _ _ _ _ _ us hl => match us, hl with | [_, _], _ => rfl), .nil⟩
  obtain ⟨fd__law_frac, F__law_frac⟩ := c.def_ 15 (d := d__law_frac) rfl
  have c__law_frac : C__law_frac P w K mg base := ⟨_, fd__law_frac, [], ok__law_frac bl c__law_lowest F__law_frac, He.glo_ok X G (c.fact 15 (f := .glo "_law_frac") rfl), F__law_frac.kp, F__law_frac.bindsN (fun _ _ _ _ _ _ us hl => match us, hl with | [_, _], _ => rfl), .nil⟩
  obtain ⟨fd_raised, F_raised⟩ := c.def_ 16 (d := d_raised) rfl
  have c_raised : C_raised P w K mg base := ⟨_, fd_raised, [], ok_raised bl F_raised, He.glo_ok X G (c.fact 16 (f := .glo "raised") rfl), F_raised.kp, F_raised.bindsN (fun _ _ _ _ _ _ us hl => match us, hl with | [_], _ => rfl), .nil⟩
  obtain ⟨fd_divisor, F_divisor⟩ := c.def_ 17 (d := d_divisor) rfl
  have c_divisor : C_divisor P w K mg base := ⟨_, fd_divisor, [], ok_divisor bl F_divisor, He.glo_ok X G (c.fact 17 (f := .glo "divisor") rfl), F_divisor.kp, F_divisor.bindsN (fun _ _ _ _ _ _ us hl => match us, hl with | [_, _], _ => rfl), .nil⟩
  obtain ⟨fd_lowest, F_lowest⟩ := c.def_ 18 (d := d_lowest) rfl
  have c_lowest : C_lowest P w K mg base := ⟨_, fd_lowest, [], ok_lowest bl c_divisor F_lowest, He.glo_ok X G (c.fact 18 (f := .glo "lowest") rfl), F_lowest.kp, F_lowest.bindsN (fun _ _ _ _ _ _ us hl => match us, hl with | [_], _ => rfl), .nil⟩
  obtain ⟨fd_point, F_point⟩ := c.def_ 19 (d := d_point) rfl
  obtain ⟨ds_point, v_point, b_point⟩ := FunD.binds1 (ps := ["numbers", "bottom"]) F_point 2 1 (fun h => nomatch (show ([V.int 1] : List V) = [] from h)) rfl fun T kV doc pm an cdv ct us its hu hi => match us, its, hu, hi with | [_, _], [_], _, _ => ⟨_, rfl, rfl⟩
  have c_point : C_point P w K mg base := ⟨_, fd_point, ds_point, ok_point bl c_lowest F_point, He.glo_ok X G (c.fact 19 (f := .glo "point") rfl), F_point.kp, b_point, v_point⟩
  obtain ⟨fd_added, F_added⟩ := c.def_ 20 (d := d_added) rfl
  have c_added : C_added P w K mg base := ⟨_, fd_added, [], ok_added bl c_point F_added, He.glo_ok X G (c.fact 20 (f := .glo "added") rfl), F_added.kp, F_added.bindsN (fun _ _ _ _ _ _ us hl => match us, hl with | [_, _], _ => rfl), .nil⟩
  obtain ⟨fd_dot, F_dot⟩ := c.def_ 21 (d := d_dot) rfl
  have c_dot : C_dot P w K mg base := ⟨_, fd_dot, [], ok_dot bl F_dot, He.glo_ok X G (c.fact 21 (f := .glo "dot") rfl), F_dot.kp, F_dot.bindsN (fun _ _ _ _ _ _ us hl => match us, hl with | [_, _], _ => rfl), .nil⟩
  obtain ⟨fd_cross, F_cross⟩ := c.def_ 22 (d := d_cross) rfl
  have c_cross : C_cross P w K mg base := ⟨_, fd_cross, [], ok_cross bl F_cross, He.glo_ok X G (c.fact 22 (f := .glo "cross") rfl), F_cross.kp, F_cross.bindsN (fun _ _ _ _ _ _ us hl => match us, hl with | [_, _], _ => rfl), .nil⟩
  obtain ⟨fd_determinant, F_determinant⟩ := c.def_ 23 (d := d_determinant) rfl
  have c_determinant : C_determinant P w K mg base := ⟨_, fd_determinant, [], ok_determinant bl c_dot c_cross F_determinant, He.glo_ok X G (c.fact 23 (f := .glo "determinant") rfl), F_determinant.kp, F_determinant.bindsN (fun _ _ _ _ _ _ us hl => match us, hl with | [_], _ => rfl), .nil⟩
  obtain ⟨fd_arrow, F_arrow⟩ := c.def_ 24 (d := d_arrow) rfl
  have c_arrow : C_arrow P w K mg base := ⟨_, fd_arrow, [], ok_arrow bl F_arrow, He.glo_ok X G (c.fact 24 (f := .glo "arrow") rfl), F_arrow.kp, F_arrow.bindsN (fun _ _ _ _ _ _ us hl => match us, hl with | [_, _], _ => rfl), .nil⟩
  obtain ⟨fd_side, F_side⟩ := c.def_ 25 (d := d_side) rfl
  have c_side : C_side P w K mg base := ⟨_, fd_side, [], ok_side bl c_determinant c_arrow F_side, He.glo_ok X G (c.fact 25 (f := .glo "side") rfl), F_side.kp, F_side.bindsN (fun _ _ _ _ _ _ us hl => match us, hl with | [_], _ => rfl), .nil⟩
  obtain ⟨fd_simplex, F_simplex⟩ := c.def_ 26 (d := d_simplex) rfl
  have c_simplex : C_simplex P w K mg base := ⟨_, fd_simplex, [], ok_simplex bl c_side F_simplex, He.glo_ok X G (c.fact 26 (f := .glo "simplex") rfl), F_simplex.kp, F_simplex.bindsN (fun _ _ _ _ _ _ us hl => match us, hl with | [_], _ => rfl), .nil⟩
  obtain ⟨fd_prism, F_prism⟩ := c.def_ 27 (d := d_prism) rfl
  have c_prism : C_prism P w K mg base := ⟨_, fd_prism, [], ok_prism bl c_raised c_added c_simplex F_prism, He.glo_ok X G (c.fact 27 (f := .glo "prism") rfl), F_prism.kp, F_prism.bindsN (fun _ _ _ _ _ _ us hl => match us, hl with | [_, _], _ => rfl), .nil⟩
  obtain ⟨fd_moved_point, F_moved_point⟩ := c.def_ 28 (d := d_moved_point) rfl
  have c_moved_point : C_moved_point P w K mg base := ⟨_, fd_moved_point, [], ok_moved_point bl c_added F_moved_point, He.glo_ok X G (c.fact 28 (f := .glo "moved_point") rfl), F_moved_point.kp, F_moved_point.bindsN (fun _ _ _ _ _ _ us hl => match us, hl with | [_, _], _ => rfl), .nil⟩
  obtain ⟨fd_moved_simplex, F_moved_simplex⟩ := c.def_ 29 (d := d_moved_simplex) rfl
  have c_moved_simplex : C_moved_simplex P w K mg base := ⟨_, fd_moved_simplex, [], ok_moved_simplex bl c_simplex c_moved_point F_moved_simplex, He.glo_ok X G (c.fact 29 (f := .glo "moved_simplex") rfl), F_moved_simplex.kp, F_moved_simplex.bindsN (fun _ _ _ _ _ _ us hl => match us, hl with | [_, _], _ => rfl), .nil⟩
  obtain ⟨fd_moved, F_moved⟩ := c.def_ 30 (d := d_moved) rfl
  have c_moved : C_moved P w K mg base := ⟨_, fd_moved, [], ok_moved bl c_moved_simplex F_moved, He.glo_ok X G (c.fact 30 (f := .glo "moved") rfl), F_moved.kp, F_moved.bindsN (fun _ _ _ _ _ _ us hl => match us, hl with | [_, _], _ => rfl), .nil⟩
  obtain ⟨fd__law_raised, F__law_raised⟩ := c.def_ 31 (d := d__law_raised) rfl
  have c__law_raised : C__law_raised P w K mg base := ⟨_, fd__law_raised, [], ok__law_raised bl F__law_raised, He.glo_ok X G (c.fact 31 (f := .glo "_law_raised") rfl), F__law_raised.kp, F__law_raised.bindsN (fun _ _ _ _ _ _ us hl => match us, hl with | [_], _ => rfl), .nil⟩
  obtain ⟨fd__law_raw_turn, F__law_raw_turn⟩ := c.def_ 32 (d := d__law_raw_turn) rfl
  have c__law_raw_turn : C__law_raw_turn P w K mg base := ⟨_, fd__law_raw_turn, [], ok__law_raw_turn bl c__law_turn F__law_raw_turn, He.glo_ok X G (c.fact 32 (f := .glo "_law_raw_turn") rfl), F__law_raw_turn.kp, F__law_raw_turn.bindsN (fun _ _ _ _ _ _ us hl => match us, hl with | [_], _ => rfl), .nil⟩
  obtain ⟨fd__law_raw, F__law_raw⟩ := c.def_ 33 (d := d__law_raw) rfl
  have c__law_raw : C__law_raw P w K mg base := ⟨_, fd__law_raw, [], ok__law_raw bl c__law_raw_turn c__law_take F__law_raw, He.glo_ok X G (c.fact 33 (f := .glo "_law_raw") rfl), F__law_raw.kp, F__law_raw.bindsN (fun _ _ _ _ _ _ us hl => match us, hl with | [_, _, _], _ => rfl), .nil⟩
  obtain ⟨fd__law_raw_heap, F__law_raw_heap⟩ := c.def_ 34 (d := d__law_raw_heap) rfl
  have c__law_raw_heap : C__law_raw_heap P w K mg base := ⟨_, fd__law_raw_heap, [], ok__law_raw_heap bl c__law_take c__law_raw F__law_raw_heap, He.glo_ok X G (c.fact 34 (f := .glo "_law_raw_heap") rfl), F__law_raw_heap.kp, F__law_raw_heap.bindsN (fun _ _ _ _ _ _ us hl => match us, hl with | [_, _, _], _ => rfl), .nil⟩
  obtain ⟨fd__law_stretch, F__law_stretch⟩ := c.def_ 35 (d := d__law_stretch) rfl
  have c__law_stretch : C__law_stretch P w K mg base := ⟨_, fd__law_stretch, [], ok__law_stretch bl c__law_take c__law_frac F__law_stretch, He.glo_ok X G (c.fact 35 (f := .glo "_law_stretch") rfl), F__law_stretch.kp, F__law_stretch.bindsN (fun _ _ _ _ _ _ us hl => match us, hl with | [_, _], _ => rfl), .nil⟩
  obtain ⟨fd__law_part_of, F__law_part_of⟩ := c.def_ 36 (d := d__law_part_of) rfl
  have c__law_part_of : C__law_part_of P w K mg base := ⟨_, fd__law_part_of, [], ok__law_part_of bl c__law_lowest F__law_part_of, He.glo_ok X G (c.fact 36 (f := .glo "_law_part_of") rfl), F__law_part_of.kp, F__law_part_of.bindsN (fun _ _ _ _ _ _ us hl => match us, hl with | [_, _], _ => rfl), .nil⟩
  obtain ⟨fd__law_shuts, F__law_shuts⟩ := c.def_ 37 (d := d__law_shuts) rfl
  have c__law_shuts : C__law_shuts P w K mg base := ⟨_, fd__law_shuts, [], ok__law_shuts bl F__law_shuts, He.glo_ok X G (c.fact 37 (f := .glo "_law_shuts") rfl), F__law_shuts.kp, F__law_shuts.bindsN (fun _ _ _ _ _ _ us hl => match us, hl with | [_], _ => rfl), .nil⟩
  obtain ⟨fd__law_upward, F__law_upward⟩ := c.def_ 38 (d := d__law_upward) rfl
  have c__law_upward : C__law_upward P w K mg base := ⟨_, fd__law_upward, [], ok__law_upward bl c__law_lowest F__law_upward, He.glo_ok X G (c.fact 38 (f := .glo "_law_upward") rfl), F__law_upward.kp, F__law_upward.bindsN (fun _ _ _ _ _ _ us hl => match us, hl with | [_], _ => rfl), .nil⟩
  obtain ⟨fd__law_plane, F__law_plane⟩ := c.def_ 39 (d := d__law_plane) rfl
  have c__law_plane : C__law_plane P w K mg base := ⟨_, fd__law_plane, [], ok__law_plane bl c__law_cross c__law_upward c__law_gap c__law_dot F__law_plane, He.glo_ok X G (c.fact 39 (f := .glo "_law_plane") rfl), F__law_plane.kp, F__law_plane.bindsN (fun _ _ _ _ _ _ us hl => match us, hl with | [_, _, _], _ => rfl), .nil⟩
  obtain ⟨fd__law_put, F__law_put⟩ := c.def_ 40 (d := d__law_put) rfl
  have c__law_put : C__law_put P w K mg base := ⟨_, fd__law_put, [], ok__law_put bl F__law_put, He.glo_ok X G (c.fact 40 (f := .glo "_law_put") rfl), F__law_put.kp, F__law_put.bindsN (fun _ _ _ _ _ _ us hl => match us, hl with | [_, _, _], _ => rfl), .nil⟩
  obtain ⟨fd__law_space_line, F__law_space_line⟩ := c.def_ 41 (d := d__law_space_line) rfl
  have c__law_space_line : C__law_space_line P w K mg base := ⟨_, fd__law_space_line, [], ok__law_space_line bl c__law_upward c__law_gap c__law_cross F__law_space_line, He.glo_ok X G (c.fact 41 (f := .glo "_law_space_line") rfl), F__law_space_line.kp, F__law_space_line.bindsN (fun _ _ _ _ _ _ us hl => match us, hl with | [_, _], _ => rfl), .nil⟩
  obtain ⟨fd__law_mark, F__law_mark⟩ := c.def_ 42 (d := d__law_mark) rfl
  have c__law_mark : C__law_mark P w K mg base := ⟨_, fd__law_mark, [], ok__law_mark bl c__law_shuts c__law_plane c__law_put c__law_space_line F__law_mark, He.glo_ok X G (c.fact 42 (f := .glo "_law_mark") rfl), F__law_mark.kp, F__law_mark.bindsN (fun _ _ _ _ _ _ us hl => match us, hl with | [_, _, _], _ => rfl), .nil⟩
  obtain ⟨fd__law_same, F__law_same⟩ := c.def_ 43 (d := d__law_same) rfl
  have c__law_same : C__law_same P w K mg base := ⟨_, fd__law_same, [], ok__law_same bl c__law_mark F__law_same, He.glo_ok X G (c.fact 43 (f := .glo "_law_same") rfl), F__law_same.kp, F__law_same.bindsN (fun _ _ _ _ _ _ us hl => match us, hl with | [_, _], _ => rfl), .nil⟩
  obtain ⟨fd__law_sum, F__law_sum⟩ := c.def_ 44 (d := d__law_sum) rfl
  have c__law_sum : C__law_sum P w K mg base := ⟨_, fd__law_sum, [], ok__law_sum bl c__law_frac F__law_sum, He.glo_ok X G (c.fact 44 (f := .glo "_law_sum") rfl), F__law_sum.kp, F__law_sum.bindsN (fun _ _ _ _ _ _ us hl => match us, hl with | [_, _], _ => rfl), .nil⟩
  obtain ⟨fd__law_whole, F__law_whole⟩ := c.def_ 45 (d := d__law_whole) rfl
  have c__law_whole : C__law_whole P w K mg base := ⟨_, fd__law_whole, [], ok__law_whole bl F__law_whole, He.glo_ok X G (c.fact 45 (f := .glo "_law_whole") rfl), F__law_whole.kp, F__law_whole.bindsN (fun _ _ _ _ _ _ us hl => match us, hl with | [_], _ => rfl), .nil⟩
  obtain ⟨fd__law_wholes, F__law_wholes⟩ := c.def_ 46 (d := d__law_wholes) rfl
  have c__law_wholes : C__law_wholes P w K mg base := ⟨_, fd__law_wholes, [], ok__law_wholes bl c__law_whole F__law_wholes, He.glo_ok X G (c.fact 46 (f := .glo "_law_wholes") rfl), F__law_wholes.kp, F__law_wholes.bindsN (fun _ _ _ _ _ _ us hl => match us, hl with | [_, _], _ => rfl), .nil⟩
  obtain ⟨fd__law_point_form, F__law_point_form⟩ := c.def_ 47 (d := d__law_point_form) rfl
  have c__law_point_form : C__law_point_form P w K mg base := ⟨_, fd__law_point_form, [], ok__law_point_form bl c__law_lowest c__law_wholes F__law_point_form, He.glo_ok X G (c.fact 47 (f := .glo "_law_point_form") rfl), F__law_point_form.kp, F__law_point_form.bindsN (fun _ _ _ _ _ _ us hl => match us, hl with | [_, _], _ => rfl), .nil⟩
  obtain ⟨fd__law_simplex_form, F__law_simplex_form⟩ := c.def_ 48 (d := d__law_simplex_form) rfl
  have c__law_simplex_form : C__law_simplex_form P w K mg base := ⟨_, fd__law_simplex_form, [], ok__law_simplex_form bl c__law_det c__law_simplex c__law_point_form F__law_simplex_form, He.glo_ok X G (c.fact 48 (f := .glo "_law_simplex_form") rfl), F__law_simplex_form.kp, F__law_simplex_form.bindsN (fun _ _ _ _ _ _ us hl => match us, hl with | [_, _], _ => rfl), .nil⟩
  obtain ⟨fd__law_heap_form, F__law_heap_form⟩ := c.def_ 49 (d := d__law_heap_form) rfl
  have c__law_heap_form : C__law_heap_form P w K mg base := ⟨_, fd__law_heap_form, [], ok__law_heap_form bl c__law_simplex_form F__law_heap_form, He.glo_ok X G (c.fact 49 (f := .glo "_law_heap_form") rfl), F__law_heap_form.kp, F__law_heap_form.bindsN (fun _ _ _ _ _ _ us hl => match us, hl with | [_, _], _ => rfl), .nil⟩
  obtain ⟨fd_walls_of, F_walls_of⟩ := c.def_ 50 (d := d_walls_of) rfl
  have c_walls_of : C_walls_of P w K mg base := ⟨_, fd_walls_of, [], ok_walls_of bl F_walls_of, He.glo_ok X G (c.fact 50 (f := .glo "walls_of") rfl), F_walls_of.kp, F_walls_of.bindsN (fun _ _ _ _ _ _ us hl => match us, hl with | [_], _ => rfl), .nil⟩
  obtain ⟨fd_unturned, F_unturned⟩ := c.def_ 51 (d := d_unturned) rfl
  have c_unturned : C_unturned P w K mg base := ⟨_, fd_unturned, [], ok_unturned bl F_unturned, He.glo_ok X G (c.fact 51 (f := .glo "unturned") rfl), F_unturned.kp, F_unturned.bindsN (fun _ _ _ _ _ _ us hl => match us, hl with | [_], _ => rfl), .nil⟩
  obtain ⟨fd_blade, F_blade⟩ := c.def_ 52 (d := d_blade) rfl
  have c_blade : C_blade P w K mg base := ⟨_, fd_blade, [], ok_blade bl c_lowest c_arrow F_blade, He.glo_ok X G (c.fact 52 (f := .glo "blade") rfl), F_blade.kp, F_blade.bindsN (fun _ _ _ _ _ _ us hl => match us, hl with | [_], _ => rfl), .nil⟩
  obtain ⟨fd_line_key, F_line_key⟩ := c.def_ 53 (d := d_line_key) rfl
  have c_line_key : C_line_key P w K mg base := ⟨_, fd_line_key, [], ok_line_key bl c_arrow c_unturned c_lowest c_blade F_line_key, He.glo_ok X G (c.fact 53 (f := .glo "line_key") rfl), F_line_key.kp, F_line_key.bindsN (fun _ _ _ _ _ _ us hl => match us, hl with | [_, _], _ => rfl), .nil⟩
  obtain ⟨fd_put_end, F_put_end⟩ := c.def_ 54 (d := d_put_end) rfl
  have c_put_end : C_put_end P w K mg base := ⟨_, fd_put_end, [], ok_put_end bl F_put_end, He.glo_ok X G (c.fact 54 (f := .glo "put_end") rfl), F_put_end.kp, F_put_end.bindsN (fun _ _ _ _ _ _ us hl => match us, hl with | [_, _, _], _ => rfl), .nil⟩
  obtain ⟨fd_shore_of, F_shore_of⟩ := c.def_ 55 (d := d_shore_of) rfl
  have c_shore_of : C_shore_of P w K mg base := ⟨_, fd_shore_of, [], ok_shore_of bl c_walls_of c_unturned c_line_key c_put_end c_blade F_shore_of, He.glo_ok X G (c.fact 55 (f := .glo "shore_of") rfl), F_shore_of.kp, F_shore_of.bindsN (fun _ _ _ _ _ _ us hl => match us, hl with | [_], _ => rfl), .nil⟩
  obtain ⟨fd_same, F_same⟩ := c.def_ 56 (d := d_same) rfl
  have c_same : C_same P w K mg base := ⟨_, fd_same, [], ok_same bl c_shore_of F_same, He.glo_ok X G (c.fact 56 (f := .glo "same") rfl), F_same.kp, F_same.bindsN (fun _ _ _ _ _ _ us hl => match us, hl with | [_, _], _ => rfl), .nil⟩
  obtain ⟨fd__law_gone, F__law_gone⟩ := c.def_ 57 (d := d__law_gone) rfl
  have c__law_gone : C__law_gone P w K mg base := ⟨_, fd__law_gone, [], ok__law_gone bl c__law_simplex c__law_joined F__law_gone, He.glo_ok X G (c.fact 57 (f := .glo "_law_gone") rfl), F__law_gone.kp, F__law_gone.bindsN (fun _ _ _ _ _ _ us hl => match us, hl with | [_, _, _], _ => rfl), .nil⟩
  exact ok_law bl c__law_row c__law_laid c__law_shift c__law_frac c_prism c_moved c__law_far c__law_raised c__law_take c__law_raw_heap c__law_stretch c__law_part_of c__law_same c__law_sum c__law_heap_form c_same c__law_gone F
end Sc
open PySem PySem.W PySem.Calls PyProof.Rows
theorem PySem.Challenge.cw_scissorhall_k65_whole_stacked_holds : PySem.Challenge.rw_scissorhall_k65_whole_stacked.Holds := by
  w_on; o_law
  refine HandSHeadRun.head_any (r := OpenLaw.row PySem.Challenge.rw_scissorhall_k65_whole_stacked) (q := view (OpenLaw.row PySem.Challenge.rw_scissorhall_k65_whole_stacked).prog [75]) (H := Sc.hk) (ob := Sc.ob) (M := 3000) (loose := Sc.loose) (d := HandSHeadRun.topDef (OpenLaw.row PySem.Challenge.rw_scissorhall_k65_whole_stacked).prog 75) (kwd := []) Sc.ob_eq
    (by kernel_rfl) (fun s => by kernel_rfl) Sc.run (by kernel_rfl) (by kernel_rfl) (by kernel_rfl) (by rfl) (by first | assumption | decide +kernel) (by decide +kernel) ⟨rfl, rfl, rfl, rfl, rfl, by decide +kernel⟩ ?hw ?hc
  case hw => w_witness2
  case hc =>
    refine L2.walk_ofE (l := PySem.Challenge.rw_scissorhall_k65_whole_stacked) (n := 63) (k := 8) (x := "_law_script") (CX := L2.CX0) rfl (by decide) (by kernel_rfl) ⟨rfl, by decide, by decide⟩ ?F (fun _ _ _ _ z => z)
    intro w mg fa h Y G hmg0
    obtain ⟨K, KX, c⟩ := Y
    have hmg : mg ("law" : PySem.Str) = some (.ref fa) := by
      have e : (HandSHeadRun.topDef (OpenLaw.row PySem.Challenge.rw_scissorhall_k65_whole_stacked).prog 75).name = ("law" : PySem.Str) := by kernel_rfl
      rw [← e]
      exact hmg0
    obtain ⟨fd, hb, hF⟩ := Sc.facts (P := (PySem.Challenge.rw_scissorhall_k65_whole_stacked).prog) (w := w) KX G hmg c
    exact ⟨K, fd, Sc.sp_law K, KX, hb, fun H a ns hl _ hS => ⟨H, ns, fun _ _ z => z, .cons ⟨a, rfl, hS⟩ .nil, hl, fun _ _ _ _ z => z⟩, hF⟩
