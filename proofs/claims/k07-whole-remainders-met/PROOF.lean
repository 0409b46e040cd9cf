import PyProof.Rows.All
import Wide.All
import OpenK.AllK
import Wide.FinOn
import HandS.ForMost
import HandS.ForExc
import HandS.ExcIs
import HandS.ExcField
import HandS.IsInst
import HandS.Lambda
import HandS.EndTab
import HandS.Wide
import HandS.Flow
import HandS.Style
import HandS.RaiseMore
import KE.KExcSuper
import KE.KExcIs
import KE.DataEq
import KE.KNestM
import PySem.Challenge.RW_endlessplane_k07_whole_remainders_met
/-! The plain law: Euclid, the inverse, remainders of lines. No program in sight. -/
namespace K07
/-! ### Euclid -/
theorem gcd_turn (a b : Nat) : Nat.gcd b (a % b) = Nat.gcd a b := by
  rw [Nat.gcd_comm a b, Nat.gcd_rec b a, Nat.gcd_comm]
theorem cast_mod (a b : Nat) : ((a : Int) % (b : Int)) = ((a % b : Nat) : Int) := by omega
theorem cast_div (a b : Nat) : ((a : Int) / (b : Int)) = ((a / b : Nat) : Int) := by omega
/-- behind i turns of Euclid from A, B -/
structure Eu (A B i a b : Nat) : Prop where
  g : Nat.gcd a b = Nat.gcd A B
  sz : (i = 0 ∧ a * b ≤ A * B) ∨ (b ≤ a ∧ a * b * 2 ^ i ≤ 2 * (A * B))
theorem Eu.start (A B : Nat) : Eu A B 0 A B := ⟨rfl, .inl ⟨rfl, Nat.le_refl _⟩⟩
theorem two_mod {a b : Nat} (hb : 0 < b) (h : b ≤ a) : 2 * (a % b) ≤ a := by
  have h1 := Nat.div_add_mod a b
  have h2 := Nat.mod_lt a hb
  have h3 : 1 ≤ a / b := (Nat.le_div_iff_mul_le hb).mpr (by omega)
  have h4 : b * 1 ≤ b * (a / b) := Nat.mul_le_mul_left b h3
  omega
theorem Eu.turn {A B i a b : Nat} (E : Eu A B i a b) (hb : b ≠ 0) : Eu A B (i + 1) b (a % b) := by
  have hb' : 0 < b := Nat.pos_of_ne_zero hb
  have hlt := Nat.mod_lt a hb'
  refine ⟨(gcd_turn a b).trans E.g, .inr ⟨Nat.le_of_lt hlt, ?_⟩⟩
  rcases E.sz with ⟨hi, hsz⟩ | ⟨h, hsz⟩
  · subst hi
    have h2 : a % b ≤ a := Nat.mod_le a b
    have h3 : b * (a % b) ≤ b * a := Nat.mul_le_mul_left b h2
    rw [Nat.mul_comm b a] at h3
    rw [Nat.zero_add, Nat.pow_one]
    omega
  · have h2 := two_mod hb' h
    have e : b * (a % b) * 2 ^ (i + 1) = b * (2 * (a % b)) * 2 ^ i := by
      rw [Nat.pow_succ, Nat.mul_comm (2 ^ i) 2, ← Nat.mul_assoc, Nat.mul_assoc b (a % b) 2, Nat.mul_comm (a % b) 2]
    rw [e]
    have h3 : b * (2 * (a % b)) * 2 ^ i ≤ b * a * 2 ^ i := Nat.mul_le_mul_right _ (Nat.mul_le_mul_left b h2)
    rw [Nat.mul_comm b a] at h3
    omega
theorem Eu.done {A B i a : Nat} (E : Eu A B i a 0) : a = Nat.gcd A B := by
  have h := E.g
  rw [Nat.gcd_zero_right] at h
  exact h
/-- 400 turns are enough -/
theorem Eu.end {A B a b : Nat} (E : Eu A B 400 a b) (hA : A < 2 ^ 190) (hB : B < 2 ^ 190) : b = 0 := by
  rcases E.sz with ⟨hi, _⟩ | ⟨h, hsz⟩
  · exact absurd hi (by decide)
  · have h1 : A * B < 2 ^ 190 * 2 ^ 190 := Nat.mul_lt_mul'' hA hB
    rw [← Nat.pow_add] at h1
    rcases Nat.eq_zero_or_pos (a * b) with h0 | h0
    · rcases Nat.mul_eq_zero.mp h0 with z | z
      · omega
      · exact z
    · have h2 : 1 * 2 ^ 400 ≤ a * b * 2 ^ 400 := Nat.mul_le_mul_right _ h0
      have h3 : (2 : Nat) ^ 400 = 2 ^ (190 + 190) * 2 ^ 20 := by rw [← Nat.pow_add]
      have h4 : (2 : Nat) ^ (190 + 190) * 2 ^ 20 = 2 ^ (190 + 190) * 1048576 := by congr 1
      generalize (2 : Nat) ^ (190 + 190) = z at *
      generalize (2 : Nat) ^ 400 = y at *
      omega
theorem gcd_le {A B : Nat} {n : Nat} (hA : A < 2 ^ n) (hB : B < 2 ^ n) : Nat.gcd A B < 2 ^ n := by
  rcases Nat.eq_zero_or_pos A with h | h
  · rw [h, Nat.gcd_zero_left]; exact hB
  · exact Nat.lt_of_le_of_lt (Nat.gcd_le_left B h) hA
/-! ### the inverse -/
/-- one state of the extended Euclid of a modulus m and a number x -/
structure Xg (m : Nat) (x : Int) (l r : Nat) (n f : Int) : Prop where
  pos : 0 < l
  lm : l ≤ m
  rl : r ≤ m
  dl : (m : Int) ∣ (l : Int) - n * x
  dr : (m : Int) ∣ (r : Int) - f * x
  g : Nat.gcd l r = 1
  sz : f.natAbs * l + n.natAbs * r ≤ m
theorem Xg.start {m : Nat} {x : Int} (hm : 0 < m) (hg : Int.gcd x m = 1) : Xg m x m (x % (m : Int)).toNat 0 1 := by
  have h0 : 0 ≤ x % (m : Int) := Int.emod_nonneg x (by omega)
  have h1 : x % (m : Int) < (m : Int) := Int.emod_lt_of_pos x (by omega)
  have e : (((x % (m : Int)).toNat : Nat) : Int) = x % (m : Int) := Int.toNat_of_nonneg h0
  refine ⟨hm, Nat.le_refl _, by omega, ⟨1, by omega⟩, ?_, ?_, by simp⟩
  · rw [e, Int.one_mul]
    refine ⟨-(x / (m : Int)), ?_⟩
    have := Int.mul_ediv_add_emod x (m : Int)
    rw [Int.mul_neg]
    omega
  · have h2 : Nat.gcd m (x % (m : Int)).toNat = Int.gcd (m : Int) (x % (m : Int)) := by
      rw [Int.gcd, Int.natAbs_natCast]
      congr 1
      omega
    rw [h2]
    -- whatever divides m and x % m divides x
    have e2 := Int.mul_ediv_add_emod x (m : Int)
    have h3 : Int.gcd (m : Int) (x % (m : Int)) ∣ Int.gcd x m := by
      have h4 := Int.dvd_add (Int.dvd_trans (Int.gcd_dvd_left (m : Int) (x % (m : Int))) ⟨x / (m : Int), rfl⟩) (Int.gcd_dvd_right (m : Int) (x % (m : Int)))
      rw [e2] at h4
      exact Int.dvd_gcd h4 (Int.gcd_dvd_left ..)
    rw [hg] at h3
    exact Nat.eq_one_of_dvd_one h3
theorem dvd_comb {m a b u v t : Int} (h1 : m ∣ a - u) (h2 : m ∣ b - v) : m ∣ (a - t * b) - (u - t * v) := by
  obtain ⟨c, hc⟩ := h1
  obtain ⟨d, hd⟩ := h2
  refine ⟨c - t * d, ?_⟩
  have e : (a - t * b) - (u - t * v) = (a - u) - t * (b - v) := by rw [Int.mul_sub]; omega
  rw [e, hc, hd, Int.mul_sub, ← Int.mul_assoc, ← Int.mul_assoc, Int.mul_comm t m]
theorem Xg.turn {m : Nat} {x : Int} {l r : Nat} {n f : Int} (X : Xg m x l r n f) (hr : r ≠ 0) : Xg m x r (l % r) f (n - ((l / r : Nat) : Int) * f) := by
  have hr' : 0 < r := Nat.pos_of_ne_zero hr
  have e1 := Nat.div_add_mod l r
  have e2 : ((l % r : Nat) : Int) = (l : Int) - ((l / r : Nat) : Int) * (r : Int) := by
    have : ((r * (l / r) + l % r : Nat) : Int) = (l : Int) := by rw [e1]
    rw [Int.natCast_add, Int.natCast_mul, Int.mul_comm] at this
    omega
  have hlt := Nat.mod_lt l hr'
  refine ⟨hr', X.rl, by have := X.rl; omega, X.dr, ?_, (gcd_turn l r).trans X.g, ?_⟩
  · rw [e2]
    have h := dvd_comb (t := ((l / r : Nat) : Int)) X.dl X.dr
    have e3 : (n - ((l / r : Nat) : Int) * f) * x = n * x - ((l / r : Nat) : Int) * (f * x) := by rw [Int.sub_mul, Int.mul_assoc]
    rw [e3]
    exact h
  · have hs := X.sz
    have h1 : (n - ((l / r : Nat) : Int) * f).natAbs ≤ n.natAbs + (l / r) * f.natAbs := by
      have := Int.natAbs_sub_le n (((l / r : Nat) : Int) * f)
      rw [Int.natAbs_mul, Int.natAbs_natCast] at this
      exact this
    have h2 : (n - ((l / r : Nat) : Int) * f).natAbs * r ≤ (n.natAbs + (l / r) * f.natAbs) * r := Nat.mul_le_mul_right r h1
    have h3 : (n.natAbs + (l / r) * f.natAbs) * r + f.natAbs * (l % r) = n.natAbs * r + f.natAbs * l := by
      rw [Nat.add_mul]
      have : (l / r) * f.natAbs * r + f.natAbs * (l % r) = f.natAbs * l := by
        rw [Nat.mul_comm (l / r) f.natAbs, Nat.mul_assoc, ← Nat.mul_add, Nat.mul_comm (l / r) r, e1]
      omega
    omega
theorem Xg.bf {m : Nat} {x : Int} {l r : Nat} {n f : Int} (X : Xg m x l r n f) : f.natAbs ≤ m := by
  have h := X.sz
  have h1 : f.natAbs * 1 ≤ f.natAbs * l := Nat.mul_le_mul_left _ X.pos
  omega
theorem Xg.bn {m : Nat} {x : Int} {l r : Nat} {n f : Int} (X : Xg m x l r n f) (hr : r ≠ 0) : n.natAbs ≤ m := by
  have h := X.sz
  have h1 : n.natAbs * 1 ≤ n.natAbs * r := Nat.mul_le_mul_left _ (Nat.pos_of_ne_zero hr)
  omega
/-- what the inverse answers -/
def InvOf (m : Nat) (x u : Int) : Prop := (m : Int) ∣ 1 - u * x
theorem Xg.done {m : Nat} {x : Int} {l : Nat} {n f : Int} (X : Xg m x l 0 n f) : InvOf m x (n % (m : Int)) := by
  have h := X.g
  rw [Nat.gcd_zero_right] at h
  have hd := X.dl
  rw [h] at hd
  obtain ⟨c, hc⟩ := hd
  have e := Int.mul_ediv_add_emod n (m : Int)
  refine ⟨c + (n / (m : Int)) * x, ?_⟩
  have e2 : n * x = ((m : Int) * (n / (m : Int)) + n % (m : Int)) * x := by rw [e]
  rw [Int.add_mul] at e2
  rw [Int.mul_add, ← Int.mul_assoc, ← hc]
  omega
/-! ### a + b i is r modulo p -/
/-- s, q tell just the i for which a + b i is r modulo p -/
structure Told (a b r p s q : Int) : Prop where
  lo : 0 ≤ s
  hi : s < q
  at_ : p ∣ a + b * s - r
  just : ∀ i : Int, p ∣ a + b * i - r ↔ q ∣ i - s
theorem gpos {b p : Int} (hp : 0 < p) : 0 < (Int.gcd b p : Int) := by
  have : 0 < Int.gcd b p := Int.gcd_pos_of_ne_zero_right _ (by omega)
  omega
theorem gdp (b p : Int) : (Int.gcd b p : Int) * (p / (Int.gcd b p : Int)) = p := Int.mul_ediv_cancel' (Int.gcd_dvd_right ..)
theorem gdb (b p : Int) : (Int.gcd b p : Int) * (b / (Int.gcd b p : Int)) = b := Int.mul_ediv_cancel' (Int.gcd_dvd_left ..)
theorem qpos {b p : Int} (hp : 0 < p) : 0 < p / (Int.gcd b p : Int) := by
  refine Int.ediv_pos_of_pos_of_dvd hp (Int.le_of_lt (gpos hp)) (Int.gcd_dvd_right ..)
theorem qcop {b p : Int} (hp : 0 < p) : Int.gcd (b / (Int.gcd b p : Int)) (p / (Int.gcd b p : Int)) = 1 := by
  have h : 0 < Int.gcd b p := Int.gcd_pos_of_ne_zero_right _ (by omega)
  exact Int.gcd_ediv_gcd_ediv_gcd h
theorem dvd_iff_emod {m a : Int} : m ∣ a ↔ a % m = 0 := Int.dvd_iff_emod_eq_zero
theorem told_of {a b r p u : Int} (hp : 0 < p) (hd : (Int.gcd b p : Int) ∣ r - a) (hu : p / (Int.gcd b p : Int) ∣ 1 - u * (b / (Int.gcd b p : Int))) :
    Told a b r p (((r - a) / (Int.gcd b p : Int) * u) % (p / (Int.gcd b p : Int))) (p / (Int.gcd b p : Int)) := by
  have hg := gpos (b := b) hp
  have e1 := gdp b p
  have e2 := gdb b p
  have hq := qpos (b := b) hp
  have e3 : (Int.gcd b p : Int) * ((r - a) / (Int.gcd b p : Int)) = r - a := Int.mul_ediv_cancel' hd
  generalize (Int.gcd b p : Int) = g at *
  generalize p / g = q at *
  generalize b / g = c at *
  generalize (r - a) / g = k at *
  have e4 := Int.mul_ediv_add_emod (k * u) q
  have hat : p ∣ a + b * ((k * u) % q) - r := by
    obtain ⟨w, hw⟩ := hu
    -- b * s - (r - a) = g * (c * s - k), c * s = c * (k u - q e)
    refine ⟨-(k * w) - c * (k * u / q), ?_⟩
    have hs : (k * u) % q = k * u - q * (k * u / q) := by omega
    have hk : c * (k * u) = k - k * (q * w) := by
      rw [← hw, Int.mul_sub, Int.mul_one, Int.mul_left_comm, Int.mul_comm c u]; omega
    have h5 : a + b * ((k * u) % q) - r = g * (c * ((k * u) % q) - k) := by
      rw [Int.mul_sub, e3, ← Int.mul_assoc, e2]; omega
    rw [h5, ← e1, Int.mul_assoc]
    congr 1
    rw [hs, Int.mul_sub c, hk, Int.mul_sub q, Int.mul_neg, Int.mul_left_comm k q w, Int.mul_left_comm c q]
    omega
  refine ⟨Int.emod_nonneg _ (by omega), Int.emod_lt_of_pos _ hq, hat, fun i => ⟨fun h => ?_, fun h => ?_⟩⟩
  · -- p | b (i - s), so q | c (i - s), so q | i - s
    have h1 : p ∣ b * (i - (k * u) % q) := by
      have := Int.dvd_sub h hat
      rw [Int.mul_sub]
      have e : a + b * i - r - (a + b * ((k * u) % q) - r) = b * i - b * ((k * u) % q) := by omega
      rw [e] at this
      exact this
    have h2 : q ∣ c * (i - (k * u) % q) := by
      rw [← e1, ← e2, Int.mul_assoc] at h1
      exact Int.dvd_of_mul_dvd_mul_left (by omega) h1
    obtain ⟨w, hw⟩ := hu
    obtain ⟨v, hv⟩ := h2
    refine ⟨w * (i - (k * u) % q) + u * v, ?_⟩
    have e : i - (k * u) % q = (1 - u * c) * (i - (k * u) % q) + u * (c * (i - (k * u) % q)) := by
      rw [Int.sub_mul, Int.one_mul, Int.mul_assoc]; omega
    rw [hw, hv] at e
    rw [Int.mul_add, ← Int.mul_assoc, Int.mul_left_comm q u v]
    exact e
  · obtain ⟨v, hv⟩ := h
    have : p ∣ b * (i - (k * u) % q) := by
      rw [hv, ← e1, ← e2]
      refine ⟨c * v, ?_⟩
      rw [Int.mul_assoc, Int.mul_assoc, Int.mul_left_comm c q v]
    have h3 := Int.dvd_add this hat
    have e : b * (i - (k * u) % q) + (a + b * ((k * u) % q) - r) = a + b * i - r := by rw [Int.mul_sub]; omega
    rw [e] at h3
    exact h3
/-! ### the integers of two remainders -/
theorem lcm_two (p q : Int) : p / (Int.gcd p q : Int) * q = p * (q / (Int.gcd p q : Int)) := by
  have e1 := gdp p q
  have e2 := gdb p q
  generalize (Int.gcd p q : Int) = g at *
  generalize p / g = c at *
  generalize q / g = d at *
  rw [← e1, ← e2, Int.mul_left_comm, Int.mul_assoc]
theorem both_of {r p s q i m : Int} (hp : 0 < p) (hq : 0 < q) (hm : m = p * (q / (Int.gcd p q : Int))) (h : q ∣ r + p * i - s) :
    0 ≤ (r + p * i) % m ∧ (r + p * i) % m < m ∧ p ∣ (r + p * i) % m - r ∧ q ∣ (r + p * i) % m - s := by
  have hq2 := qpos (b := p) hq
  have hm0 : 0 < m := by rw [hm]; exact Int.mul_pos hp hq2
  have e := Int.mul_ediv_add_emod (r + p * i) m
  have hpm : p ∣ m := ⟨_, hm⟩
  have hqm : q ∣ m := by
    rw [hm, ← lcm_two]
    exact ⟨p / (Int.gcd p q : Int), Int.mul_comm ..⟩
  have e2 : (r + p * i) % m = r + p * i - m * ((r + p * i) / m) := by omega
  refine ⟨Int.emod_nonneg _ (by omega), Int.emod_lt_of_pos _ hm0, ?_, ?_⟩
  · rw [e2]
    have : r + p * i - m * ((r + p * i) / m) - r = p * i - m * ((r + p * i) / m) := by omega
    rw [this]
    exact Int.dvd_sub ⟨i, rfl⟩ (Int.dvd_trans hpm ⟨_, rfl⟩)
  · rw [e2]
    have : r + p * i - m * ((r + p * i) / m) - s = (r + p * i - s) - m * ((r + p * i) / m) := by omega
    rw [this]
    exact Int.dvd_sub h (Int.dvd_trans hqm ⟨_, rfl⟩)
end K07
set_option Elab.async false
set_option linter.all false
set_option maxRecDepth 100000
set_option maxHeartbeats 2000000
namespace PySem
namespace EXN
open PySem.W PySem.Calls PyProof.Rows PySem.HandSPX
/-! ### BadNumber: the text of __init__ (super().__init__(number); self.number = number) -/
/-- by its place: the first statement of the class's body -/
def iSt : Stmt := L2.inClass (PySem.Challenge.pw_endlessplane_k07_whole_remainders_met.main.body.getD 5 (.Pass ⟨0, 0, 0, 0⟩)) 0
abbrev iA : Arguments := L2.defArgs iSt
abbrev iB : List Stmt := L2.defBody iSt
abbrev iS : Scope := L2.defScope iSt
/-- what the written part says of BadNumber, at C, and of its __init__, at fI -/
structure BadTxt (prog : Program) (K : Frag) (mg : Str → Option Value) (C fI : Addr) : Prop where
  gC : mg "BadNumber" = some (.ref C)
  gS : mg "super" = none
  cls : ∃ nm q N bs bm sn sub ab col dd k0 k1 k2 k3 k5, K.lookup C = some (excClassObj nm q C N bs bm true sn sub ab col dd k0 k1 k2 k3 k5 "ValueError.__new__") ∧ refsVE bm = true
  sa : findIn K (.ref C) "__setattr__" = some (some (.builtin "object.__setattr__"))
  ga : findIn K (.ref C) "__getattribute__" = some (some (.builtin "BaseException.__getattribute__"))
  gg : findIn K (.ref C) "__getattr__" = some none
  noN : findIn K (.ref C) "number" = some none
  iC : findIn K (.ref C) "__init__" = some (some (.ref fI))
  tC : typeIn K (.ref fI) = some (.type "function")
  kC : keepIn K (.ref C) = true
  exC : subIn K (.ref C) (.type "BaseException") = some true
  tyC : typeIn K (.ref C) = some (.type "type")
  hdC : hasDictIn K C = true
  mro : mroIn K C (.ref C) = some true
  veC : subIn K (.ref C) (.type "ValueError") = some true
  sup : ks_superIn K C C "__init__" = some (some (.builtin "ValueError.__init__"))
  nt : nsIn K cStatics "thirdparty.any" = some none
  top : (prog.main.scope.names.lookup ("super" : Str)).isSome = false
  fn : ∃ (oc : Value) (od : Option Addr) (doc pm : Value) (an : Option Addr) (cda cc : Addr) (ct : Value) (osl : Array (Option Value)) (ccl : Value) (cdd : Option Addr) (vs : Array Value) (ccs : Array (Option Value)) (file : Str) (tf : Tok) (cl : Value) (cld : Option Addr) (csl : Array (Option Value)),
    K.lookup fI = some ⟨oc, od, .func (ksFn "__init__" "BadNumber.__init__" iA iB iS .none .none doc pm an (.ref cda) ct cc), osl⟩ ∧ codeIn K (.ref cda) "BadNumber.__init__" = true ∧
    K.lookup cda = some ⟨ccl, cdd, .fields vs, ccs⟩ ∧ vs[2]? = some (.str file tf) ∧ ((prog.main.file : Str) == file) = true ∧ K.lookup cc = some ⟨cl, cld, .cell (some (.ref C)), csl⟩
/-- what __init__ leaves of a fresh exception at x -/
structure InitEnd (h h' : Heap) (x C dx t1 : Addr) (v : Value) : Prop where
  keep : ∀ b o, b ≠ x → h.get? b = some o → h'.get? b = some o
  obj : h'.get? x = some { cls := .ref C, dict := some dx, data := .fields #[.ref t1, .none, .none, .none, .bool false, .none] }
  dbig : h.objs.size ≤ dx
  dne : dx ≠ x
  ns : h'.Ns1 dx (fun y => if y = "number" then some v else none)
/-- a made BadNumber -/
structure OwnMade (h h' : Heap) (e C d : Addr) (v : Value) : Prop where
  keep : ∀ b o, h.get? b = some o → h'.get? b = some o
  new : h.objs.size ≤ e
  obj : ∃ oe vs, h'.get? e = some oe ∧ oe.cls = .ref C ∧ oe.dict = some d ∧ oe.data = .fields vs ∧ vs[1]? = some .none
  dbig : h.objs.size ≤ d
  dne : d ≠ e
  ns : h'.Ns1 d (fun y => if y = "number" then some v else none)
theorem boot_sup : bootBuiltins "super" = some (.type "super") := by decide +kernel
section
variable {prog : Program} {w : World} {A : Around} {E : Value → Shared → Prop} {R : Result → Shared → Prop} {s : Shared} {K : Frag} {mg : Str → Option Value} {C fI : Addr}
set_option maxHeartbeats 4000000 in
theorem bad_init (T : BadTxt prog K mg C fI) {x t0 : Addr} {v : Value} (X : K.In s.heap) (hlim : s.heap.NoLimit) (hG : s.heap.Ns mainGlobals mg) (hB : ∃ mb, s.heap.Ns builtinsNs mb ∧ ∀ x : Str, x ≠ "__name__" → mb x = bootBuiltins x)
    (hx : s.heap.get? x = some (excO C t0)) (hnx : K.lookup x = none) (hroom : A.depth < recursionLimit)
    (hq : ∀ h' tk dx t1, InitEnd s.heap h' x C dx t1 v → R (.ok (.ret .none)) { s with heap := h', toks := tk }) :
    codeAny (model prog w) A (.call (.ref fI) ⟨[.ref x, v], []⟩) R s := by
  obtain ⟨oc, od, doc, pm, an, cda, cc, ct, osl, ccl, cdd, vs, ccs, file, tf, cl, cld, csl, ho, hcd, hcode, hvs, hfile, hcell⟩ := T.fn
  obtain ⟨nm, q, N, bs, bm, sn, sub, ab, col, dd, k0, k1, k2, k3, k5, hC, hbm⟩ := T.cls
  obtain ⟨mb, hmb, hboot⟩ := hB
  have hcl : clsIn K C = some { name := nm, bases := bs, mro := .ref C :: bm, ns := N, qualname := q, hasDict := true, slotNames := sn, subclasses := sub, abstract := ab, collection := col, hasDel := false } := by unfold clsIn; rw [hC] <;> rfl
  refine ks_codeAny_call_defAt (fd := ksFn "__init__" "BadNumber.__init__" iA iB iS .none .none doc pm an (.ref cda) ct cc) (body := iB) (binds := [("self", .ref x), ("number", v)])
    hroom (X _ _ ho) rfl hlim (codeRec_of X hcd) rfl (BindsTo.of_eq (by first | rfl | with_unfolding_all rfl)) (show ∀ x ∈ iS.names, x.2 ≠ .cell by decide +kernel) (locs rfl) (fun h₁ hns kk => ?_) rfl rfl rfl
  have X₁ : K.In h₁ := X.keeps kk
  have hx₁ := kk _ _ hx
  have hxL : s.heap.objs.size ≠ x := Nat.ne_of_gt (Heap.lt_size hx)
  have I : InstAt h₁ x (excO C t0) C none := ⟨hx₁, rfl, rfl, trivial⟩
  have hxC : x ≠ C := ks_ne X₁ I hcl
  -- super().__init__(number)
  refine ks_wpAt_execs_cons (ks_wpAt_Expr_any (ks_wpAt_MethodCall ?_))
  refine ks_wpAt_super_base (env := ksEnv "BadNumber.__init__" iS s.heap.objs.size fI (.ref cda) cc) rfl rfl (by decide) rfl (X₁ _ _ ho) rfl rfl rfl (X₁ _ _ hcode) rfl hvs hfile T.top ?_
  refine ks_loadName_global rfl rfl (PySem.Calls.loadGlobal_builtin (env := ksEnv "BadNumber.__init__" iS s.heap.objs.size fI (.ref cda) cc) (hG.keeps kk) T.gS (hmb.keeps kk) ((hboot _ (by decide)).trans boot_sup) ⟨rfl, ?_⟩)
  refine wpAny_loadName_free rfl rfl rfl ⟨_, X₁ _ _ hcell, rfl⟩ ?_
  refine wpAny_loadName_local rfl rfl hns rfl ?_
  refine ks_wpAny_isType_cls (X₁ _ _ hC) rfl ⟨rfl, ?_⟩
  obtain ⟨hp, g, dr, tk0, os⟩ := s
  refine ks_wpAny_call_super (X₁ _ _ hC) rfl hx₁ rfl (fun c e => nomatch e) (looks_mroIn X₁ T.mro) (fun h₂ e2 k2 => ?_)
  have X₂ : K.In h₂ := X₁.keeps k2
  have hx₂ := k2 _ _ hx₁
  have I₂ : InstAt h₂ x (excO C t0) C none := ⟨hx₂, rfl, rfl, trivial⟩
  have hsup : alongIn K "__init__" (((Value.ref C :: bm).dropWhile (· != .ref C)).drop 1) = some (some (.builtin "ValueError.__init__")) := by
    have e := T.sup
    unfold ks_superIn at e
    rw [hcl] at e
    exact e
  refine kxs_getMethod kxs_ValueError e2 (looks_opaque X₂ T.nt) (l₀ := .ref C :: bm) (fun A Q E s k q => wpAny_bind ((looks_clsIn X₂ hcl) A _ E s k (wpAny_pure q))) rfl X₂ hsup (I₂.type.andThen (looks_subIn X₂ T.veC)) hxC (by decide) ?_
  refine kxs_callWith (i := "ValueError.__init__") (x := x) rfl ?_
  have hns₂ := hns.keeps k2
  have hnsu : (h₂.push (kxs_mw "ValueError.__init__" x)).Ns hp.objs.size fun y => List.lookup y [(PySem.Str.ofString "self", Value.ref x), (PySem.Str.ofString "number", v)].reverse := hns₂.keeps fun b o e => Heap.get?_push_of_some _ e
  have hu : (h₂.push (kxs_mw "ValueError.__init__" x)).get? h₂.objs.size = some (kxs_mw "ValueError.__init__" x) := Heap.get?_push_size _ rfl
  have hx₃ : (h₂.push (kxs_mw "ValueError.__init__" x)).get? x = some (excO C t0) := Heap.get?_push_of_some _ hx₂
  have X₃ : K.In (h₂.push (kxs_mw "ValueError.__init__" x)) := X₂.keeps fun b o e => Heap.get?_push_of_some _ e
  refine evalArgs_plain ?_
  show wpAny _ _ (spliced ((false, eval _ _) :: backTo _ (starEach [] _))) _ _ _
  refine Calls.spliced_cons (wpAny_Name (wpAny_loadName_local rfl rfl hnsu (show _ = some v from rfl) ?_) (by decide))
  refine Calls.spliced_nil ⟨hu, ?_⟩
  refine wpAny_call (codeAny_of_tree ?_)
  show wpAny _ _ (callAny (.ref h₂.objs.size) ⟨[v], []⟩) _ _ _
  simp only [callAny]
  refine wpAny_bind (wpAny_load hu ?_)
  dsimp only [kxs_mw]
  rw [if_pos (by decide)]
  show wpAny _ _ (if (Value.type "method-wrapper" != Value.type "method") = true then _ else _) _ _ _
  rw [if_pos (by decide)]
  refine wpAny_bind (check_bound_init PySem.F.excBase_ValueError.toExcCallFacts (X₃ _ _ hC) hx₃ rfl ?_)
  refine wpAny_bind (wpAny_pure (wpAny_pure ?_))
  refine ⟨plainId_quiet PySem.F.excBase_ValueError.init.plain _, codeAny_builtin PySem.F.excBase_ValueError.initEntry ?_⟩
  refine exc_init_tree (cls := .ref C) (t0 := t0) (dv := none) (c2 := .none) (c3 := .none) (b4 := .bool false) hx₃ (by show 1 ≤ sizeLine; rw [sizeLine_eq]; decide) fun h₄ k4 e4 _ => ?_
  -- self.number = number
  show _root_.PySem.wpAt _ _ _ (execs _ _) _ _ _
  have kA : ∀ b o, b ≠ x → hp.get? b = some o → h₄.get? b = some o := fun b o hb e => k4 b o hb (Heap.get?_push_of_some _ (k2 b o (kk b o e)))
  have hLx : hp.objs.size ≠ x := hxL
  have hns₄ : h₄.Ns hp.objs.size fun y => List.lookup y [(PySem.Str.ofString "self", Value.ref x), (PySem.Str.ofString "number", v)].reverse := by
    obtain ⟨o, es, ep, ho4, r⟩ := hnsu
    exact ⟨o, es, ep, k4 _ _ hLx ho4, r⟩
  have X₄ : K.In h₄ := fun b o e => k4 b o (fun z => by rw [z, hnx] at e; cases e) (X₃ b o e)
  refine wpAt_of_wpAny (wpAny_execs_cons (plainObj_wpAny_Assign_Attribute ?_))
  refine wpAny_Name (wpAny_loadName_local rfl rfl hns₄ (show _ = some v from rfl) ?_) (by decide)
  refine wpAny_Name (wpAny_loadName_local rfl rfl hns₄ (show _ = some (Value.ref x) from rfl) ?_) (by decide)
  refine set_plain X₄ (ox := excO C _) (od := none) ⟨e4, rfl, rfl, trivial⟩ T.sa ?_
  refine exc_osa X₄ e4 hcl (show refsVE (.ref C :: bm) = true from hbm) rfl T.noN (fun h₅ tk₅ dx k₅ dn dne hx₅ hn₅ => ?_)
  show wpAny _ _ (execs _ _) _ _ _
  have z1 : hp.objs.size < h₁.objs.size := hns.lt
  have z2 : hp.objs.size ≤ dx := by
    refine Nat.le_trans (Nat.le_of_lt ?_) dn
    have := hns₄.lt
    exact this
  exact wpAny_execs_nil (hq h₅ tk₅ dx _ ⟨fun b o hb e => k₅ b o hb (kA b o hb e), hx₅, z2, dne, hn₅⟩)
set_option maxHeartbeats 4000000 in
theorem bad_made (T : BadTxt prog K mg C fI) {v : Value} (X : K.In s.heap) (hlim : s.heap.NoLimit) (hG : s.heap.Ns mainGlobals mg) (hB : ∃ mb, s.heap.Ns builtinsNs mb ∧ ∀ x : Str, x ≠ "__name__" → mb x = bootBuiltins x) (hroom : A.depth + 1 < recursionLimit)
    (hq : ∀ h' tk e d, OwnMade s.heap h' e C d v → R (.ok (.ret (.ref e))) { s with heap := h', toks := tk }) :
    codeAny (model prog w) A (.call (.ref C) ⟨[v], []⟩) R s := by
  obtain ⟨nm, q, N, bs, bm, sn, sub, ab, col, dd, k0, k1, k2, k3, k5, hC, hbm⟩ := T.cls
  obtain ⟨hp, g, dr, tk, os⟩ := s
  have k : ∀ b o, hp.get? b = some o → ((hp.push (kdv_tup [v])).push (excO C hp.objs.size)).get? b = some o := fun b o e => Heap.get?_push_of_some _ (Heap.get?_push_of_some _ e)
  have hget : ((hp.push (kdv_tup [v])).push (excO C hp.objs.size)).get? (hp.objs.size + 1) = some (excO C hp.objs.size) := by heap_get
  have hnx : K.lookup (hp.objs.size + 1) = none := by
    cases e : K.lookup (hp.objs.size + 1) with
    | none => rfl
    | some o =>
      have z : hp.get? (hp.objs.size + 1) = some o := X _ _ e
      exact absurd (Nat.lt_of_succ_lt (Heap.lt_size z)) (Nat.lt_irrefl _)
  have hone : [v].length ≤ sizeLine := by rw [sizeLine_eq]; exact (by decide : 1 ≤ 16777216)
  refine call_own PySem.F.excBase_ValueError (fun X => refsVE_contains X bm hbm) (X _ _ hC) (looks_findIn X T.iC) (fun self => bind_fn X self T.tC) hone ?_
  refine bad_init (s := ⟨(hp.push (kdv_tup [v])).push (excO C hp.objs.size), g, dr, tk, os⟩) T (X.keeps k) (hlim.keeps k) (hG.keeps k) (let ⟨mb, h1, h2⟩ := hB; ⟨mb, h1.keeps k, h2⟩) hget hnx ?_ fun h' tk' dx t1 ⟨k', hx, dn, dne, hns⟩ => ?_
  · show A.depth + 1 < recursionLimit
    exact hroom
  · have old : ∀ b o, hp.get? b = some o → h'.get? b = some o := fun b o e => k' b o (Nat.ne_of_lt (Nat.lt_succ_of_lt (Heap.lt_size e))) (k b o e)
    have z : hp.objs.size + 1 + 1 ≤ dx := by
      first
        | (simpa only [Heap.size_push] using dn)
        | exact dn
        | (have q := dn; rw [Heap.size_push, Heap.size_push] at q; exact q)
    exact ⟨rfl, hq h' tk' (hp.objs.size + 1) dx ⟨old, Nat.le_succ _, ⟨_, _, hx, rfl, rfl, rfl, rfl⟩, Nat.le_trans (Nat.le_trans (Nat.le_succ _) (Nat.le_succ _)) z, dne, hns⟩⟩
end
end EXN
end PySem
namespace L2
open PySem PySem.Spec PyProof.Rows
namespace EXN
theorem relO_bad {v : V} {v' : Value} (r : RelV v v') (f : Str) : RelO (List.lookup f [(("number" : Str), v)]) (if f = "number" then some v' else none) := by
  by_cases hw : f = "number"
  · subst hw
    rw [if_pos rfl]
    have q : List.lookup ("number" : Str) [(("number" : Str), v)] = some v := by simp [List.lookup]
    rw [q]
    exact r
  · rw [if_neg hw]
    have qw : (f == ("number" : Str)) = false := by simpa using hw
    have q2 : List.lookup f [(("number" : Str), v)] = none := by simp [List.lookup, qw]
    rw [q2]
    trivial
section
variable {X : Cx} {C fI : Addr}
/-- BadNumber(e) -/
def tMk (C : Addr) (ta : TA) : St → Hp → XK → Prop := fun σ H Q => ta σ H fun vs H1 => ∃ v, vs = [v] ∧ ∀ d, H1 d = none → Q (.ref C) (some d) (upd H1 d (.xd [(("number" : Str), v)]))
theorem pmk {a : Expr} {ta : TA} {p pos : Pos} {k : Nat} (T : PySem.EXN.BadTxt X.prog X.K X.mg C fI) (hr : Room k X.A) (ha : PA X [a] ta) (hg : Gl X "BadNumber" := by rfl)
    (he : starEach (a :: []) X.env = (false, eval a X.env) :: starEach [] X.env := by rfl) (hpl : (backTo pos (starEach [] X.env)).any (·.1) = false := by rfl) :
    PMk X (.Call (.Name "BadNumber" p) [a] [] pos) (tMk C ta) := by
  intro pins s σ H Q I h
  refine wpAny_Call_Name_kw (ld_glob I hg T.gC ?_)
  refine PySem.W.callWith_K (h₀ := X.base) I.ok.mod.kin T.kC (thn (ha.run pos pins s σ H _ I h) fun us s1 hh => ?_) he hpl
  obtain ⟨vs, H1, I1, r1, v, ev, q1⟩ := hh
  subst ev
  refine ⟨I1.kIn, ?_⟩
  cases r1 with
  | cons rv rn =>
    rename_i v' us'
    cases rn
    show wpAny _ _ (call (.ref C) [v']) _ _ _
    have hlim := I1.nolimit
    have hG := I1.mod.glob.keeps I1.bk
    have hB : ∃ mb, s1.heap.Ns builtinsNs mb ∧ ∀ x : Str, x ≠ "__name__" → mb x = bootBuiltins x := by
      obtain ⟨mb, h1, h2⟩ := I1.mod.blt
      exact ⟨mb, h1.keeps I1.bk, h2⟩
    have hK := I1.kIn
    obtain ⟨hp, g, dr, tk, os⟩ := s1
    refine wpAny_call (PySem.EXN.bad_made T hK hlim hG hB (by have := hr.dp; omega) fun h' tk' e d M => ?_)
    show MkP X pins σ Q (.ref e) ⟨h', g, dr, tk', os⟩
    obtain ⟨oe, fv, hoe, hc, hd, hdat, h1⟩ := M.obj
    have hns := M.ns
    obtain ⟨G', g1, g2⟩ := restrict h' fun b => decide (b ≠ e)
    have gk : ∀ b, b ≠ e → G'.get? b = h'.get? b := fun b hb => g1 b (decide_eq_true hb)
    have ge : G'.get? e = none := g2 e (by simp)
    have old : ∀ b o, hp.get? b = some o → G'.get? b = some o := fun b o q => (gk b (Nat.ne_of_lt (Nat.lt_of_lt_of_le (Heap.lt_size q) M.new))).trans (M.keep b o q)
    have ob : ObjOk X.prog X.w (upd H1 d (.xd [(("number" : Str), v)])) G' d (.xd [(("number" : Str), v)]) :=
      ⟨_, hns.at (fun o q => (gk d M.dne).trans q), fun f => relO_bad rv f⟩
    have J : Inv X pins σ (upd H1 d (.xd [(("number" : Str), v)])) ⟨G', g, dr, tk', os⟩ := I1.laid (t' := tk') old M.dbig ob
    refine ⟨e, oe, fv, ⟨G', g, dr, tk', os⟩, _, .ref C, some d, rfl, J, fun b o q => ?_, ge, hoe, ⟨hc, hd⟩, hdat, h1, ?_, rfl, I1.bare, raises_own T.exC T.tyC, q1 d (I1.hok.fresh M.dbig)⟩
    · by_cases hb : b = e
      · have q' : G'.get? b = some o := q
        rw [hb, ge] at q'; cases q'
      · exact (gk b hb).symm.trans q
    · rw [upd_ne (Ne.symm M.dne)]
      exact I1.hok.fresh M.new
/-- raise BadNumber(e) -/
def tRaise (C : Addr) (W : WX) (ta : TA) : TS := fun _ σ H => tMk C ta σ H fun cls d H' => W cls d σ H'
theorem ps_raise' {a : Expr} {ta : TA} {W : WX} {p pos pos2 : Pos} {k : Nat} (hc : X.calm = true) (T : PySem.EXN.BadTxt X.prog X.K X.mg C fI) (hr : Room k X.A) (tk : Takes X W) (ha : PA X [a] ta) (hg : Gl X "BadNumber" := by rfl)
    (he : starEach (a :: []) X.env = (false, eval a X.env) :: starEach [] X.env := by rfl) (hpl : (backTo pos (starEach [] X.env)).any (·.1) = false := by rfl) :
    PS X (.Raise (some (.Call (.Name "BadNumber" p) [a] [] pos)) none pos2) (tRaise C W ta) := ps_raise hc tk (pmk T hr ha hg he hpl)
end
end EXN
end L2
namespace PySem
namespace EXP
open PySem.W PySem.Calls PyProof.Rows PySem.HandSPX
/-! ### BadPart: the text of __init__ (super().__init__(part); self.part = part) -/
/-- by its place: the first statement of the class's body -/
def iSt : Stmt := L2.inClass (PySem.Challenge.pw_endlessplane_k07_whole_remainders_met.main.body.getD 4 (.Pass ⟨0, 0, 0, 0⟩)) 0
abbrev iA : Arguments := L2.defArgs iSt
abbrev iB : List Stmt := L2.defBody iSt
abbrev iS : Scope := L2.defScope iSt
/-- what the written part says of BadPart, at C, and of its __init__, at fI -/
structure BadTxt (prog : Program) (K : Frag) (mg : Str → Option Value) (C fI : Addr) : Prop where
  gC : mg "BadPart" = some (.ref C)
  gS : mg "super" = none
  cls : ∃ nm q N bs bm sn sub ab col dd k0 k1 k2 k3 k5, K.lookup C = some (excClassObj nm q C N bs bm true sn sub ab col dd k0 k1 k2 k3 k5 "ValueError.__new__") ∧ refsVE bm = true
  sa : findIn K (.ref C) "__setattr__" = some (some (.builtin "object.__setattr__"))
  ga : findIn K (.ref C) "__getattribute__" = some (some (.builtin "BaseException.__getattribute__"))
  gg : findIn K (.ref C) "__getattr__" = some none
  noN : findIn K (.ref C) "part" = some none
  iC : findIn K (.ref C) "__init__" = some (some (.ref fI))
  tC : typeIn K (.ref fI) = some (.type "function")
  kC : keepIn K (.ref C) = true
  exC : subIn K (.ref C) (.type "BaseException") = some true
  tyC : typeIn K (.ref C) = some (.type "type")
  hdC : hasDictIn K C = true
  mro : mroIn K C (.ref C) = some true
  veC : subIn K (.ref C) (.type "ValueError") = some true
  sup : ks_superIn K C C "__init__" = some (some (.builtin "ValueError.__init__"))
  nt : nsIn K cStatics "thirdparty.any" = some none
  top : (prog.main.scope.names.lookup ("super" : Str)).isSome = false
  fn : ∃ (oc : Value) (od : Option Addr) (doc pm : Value) (an : Option Addr) (cda cc : Addr) (ct : Value) (osl : Array (Option Value)) (ccl : Value) (cdd : Option Addr) (vs : Array Value) (ccs : Array (Option Value)) (file : Str) (tf : Tok) (cl : Value) (cld : Option Addr) (csl : Array (Option Value)),
    K.lookup fI = some ⟨oc, od, .func (ksFn "__init__" "BadPart.__init__" iA iB iS .none .none doc pm an (.ref cda) ct cc), osl⟩ ∧ codeIn K (.ref cda) "BadPart.__init__" = true ∧
    K.lookup cda = some ⟨ccl, cdd, .fields vs, ccs⟩ ∧ vs[2]? = some (.str file tf) ∧ ((prog.main.file : Str) == file) = true ∧ K.lookup cc = some ⟨cl, cld, .cell (some (.ref C)), csl⟩
/-- what __init__ leaves of a fresh exception at x -/
structure InitEnd (h h' : Heap) (x C dx t1 : Addr) (v : Value) : Prop where
  keep : ∀ b o, b ≠ x → h.get? b = some o → h'.get? b = some o
  obj : h'.get? x = some { cls := .ref C, dict := some dx, data := .fields #[.ref t1, .none, .none, .none, .bool false, .none] }
  dbig : h.objs.size ≤ dx
  dne : dx ≠ x
  ns : h'.Ns1 dx (fun y => if y = "part" then some v else none)
/-- a made BadPart -/
structure OwnMade (h h' : Heap) (e C d : Addr) (v : Value) : Prop where
  keep : ∀ b o, h.get? b = some o → h'.get? b = some o
  new : h.objs.size ≤ e
  obj : ∃ oe vs, h'.get? e = some oe ∧ oe.cls = .ref C ∧ oe.dict = some d ∧ oe.data = .fields vs ∧ vs[1]? = some .none
  dbig : h.objs.size ≤ d
  dne : d ≠ e
  ns : h'.Ns1 d (fun y => if y = "part" then some v else none)
theorem boot_sup : bootBuiltins "super" = some (.type "super") := by decide +kernel
section
variable {prog : Program} {w : World} {A : Around} {E : Value → Shared → Prop} {R : Result → Shared → Prop} {s : Shared} {K : Frag} {mg : Str → Option Value} {C fI : Addr}
set_option maxHeartbeats 4000000 in
theorem bad_init (T : BadTxt prog K mg C fI) {x t0 : Addr} {v : Value} (X : K.In s.heap) (hlim : s.heap.NoLimit) (hG : s.heap.Ns mainGlobals mg) (hB : ∃ mb, s.heap.Ns builtinsNs mb ∧ ∀ x : Str, x ≠ "__name__" → mb x = bootBuiltins x)
    (hx : s.heap.get? x = some (excO C t0)) (hnx : K.lookup x = none) (hroom : A.depth < recursionLimit)
    (hq : ∀ h' tk dx t1, InitEnd s.heap h' x C dx t1 v → R (.ok (.ret .none)) { s with heap := h', toks := tk }) :
    codeAny (model prog w) A (.call (.ref fI) ⟨[.ref x, v], []⟩) R s := by
  obtain ⟨oc, od, doc, pm, an, cda, cc, ct, osl, ccl, cdd, vs, ccs, file, tf, cl, cld, csl, ho, hcd, hcode, hvs, hfile, hcell⟩ := T.fn
  obtain ⟨nm, q, N, bs, bm, sn, sub, ab, col, dd, k0, k1, k2, k3, k5, hC, hbm⟩ := T.cls
  obtain ⟨mb, hmb, hboot⟩ := hB
  have hcl : clsIn K C = some { name := nm, bases := bs, mro := .ref C :: bm, ns := N, qualname := q, hasDict := true, slotNames := sn, subclasses := sub, abstract := ab, collection := col, hasDel := false } := by unfold clsIn; rw [hC] <;> rfl
  refine ks_codeAny_call_defAt (fd := ksFn "__init__" "BadPart.__init__" iA iB iS .none .none doc pm an (.ref cda) ct cc) (body := iB) (binds := [("self", .ref x), ("part", v)])
    hroom (X _ _ ho) rfl hlim (codeRec_of X hcd) rfl (BindsTo.of_eq (by first | rfl | with_unfolding_all rfl)) (show ∀ x ∈ iS.names, x.2 ≠ .cell by decide +kernel) (locs rfl) (fun h₁ hns kk => ?_) rfl rfl rfl
  have X₁ : K.In h₁ := X.keeps kk
  have hx₁ := kk _ _ hx
  have hxL : s.heap.objs.size ≠ x := Nat.ne_of_gt (Heap.lt_size hx)
  have I : InstAt h₁ x (excO C t0) C none := ⟨hx₁, rfl, rfl, trivial⟩
  have hxC : x ≠ C := ks_ne X₁ I hcl
  -- super().__init__(part)
  refine ks_wpAt_execs_cons (ks_wpAt_Expr_any (ks_wpAt_MethodCall ?_))
  refine ks_wpAt_super_base (env := ksEnv "BadPart.__init__" iS s.heap.objs.size fI (.ref cda) cc) rfl rfl (by decide) rfl (X₁ _ _ ho) rfl rfl rfl (X₁ _ _ hcode) rfl hvs hfile T.top ?_
  refine ks_loadName_global rfl rfl (PySem.Calls.loadGlobal_builtin (env := ksEnv "BadPart.__init__" iS s.heap.objs.size fI (.ref cda) cc) (hG.keeps kk) T.gS (hmb.keeps kk) ((hboot _ (by decide)).trans boot_sup) ⟨rfl, ?_⟩)
  refine wpAny_loadName_free rfl rfl rfl ⟨_, X₁ _ _ hcell, rfl⟩ ?_
  refine wpAny_loadName_local rfl rfl hns rfl ?_
  refine ks_wpAny_isType_cls (X₁ _ _ hC) rfl ⟨rfl, ?_⟩
  obtain ⟨hp, g, dr, tk0, os⟩ := s
  refine ks_wpAny_call_super (X₁ _ _ hC) rfl hx₁ rfl (fun c e => nomatch e) (looks_mroIn X₁ T.mro) (fun h₂ e2 k2 => ?_)
  have X₂ : K.In h₂ := X₁.keeps k2
  have hx₂ := k2 _ _ hx₁
  have I₂ : InstAt h₂ x (excO C t0) C none := ⟨hx₂, rfl, rfl, trivial⟩
  have hsup : alongIn K "__init__" (((Value.ref C :: bm).dropWhile (· != .ref C)).drop 1) = some (some (.builtin "ValueError.__init__")) := by
    have e := T.sup
    unfold ks_superIn at e
    rw [hcl] at e
    exact e
  refine kxs_getMethod kxs_ValueError e2 (looks_opaque X₂ T.nt) (l₀ := .ref C :: bm) (fun A Q E s k q => wpAny_bind ((looks_clsIn X₂ hcl) A _ E s k (wpAny_pure q))) rfl X₂ hsup (I₂.type.andThen (looks_subIn X₂ T.veC)) hxC (by decide) ?_
  refine kxs_callWith (i := "ValueError.__init__") (x := x) rfl ?_
  have hns₂ := hns.keeps k2
  have hnsu : (h₂.push (kxs_mw "ValueError.__init__" x)).Ns hp.objs.size fun y => List.lookup y [(PySem.Str.ofString "self", Value.ref x), (PySem.Str.ofString "part", v)].reverse := hns₂.keeps fun b o e => Heap.get?_push_of_some _ e
  have hu : (h₂.push (kxs_mw "ValueError.__init__" x)).get? h₂.objs.size = some (kxs_mw "ValueError.__init__" x) := Heap.get?_push_size _ rfl
  have hx₃ : (h₂.push (kxs_mw "ValueError.__init__" x)).get? x = some (excO C t0) := Heap.get?_push_of_some _ hx₂
  have X₃ : K.In (h₂.push (kxs_mw "ValueError.__init__" x)) := X₂.keeps fun b o e => Heap.get?_push_of_some _ e
  refine evalArgs_plain ?_
  show wpAny _ _ (spliced ((false, eval _ _) :: backTo _ (starEach [] _))) _ _ _
  refine Calls.spliced_cons (wpAny_Name (wpAny_loadName_local rfl rfl hnsu (show _ = some v from rfl) ?_) (by decide))
  refine Calls.spliced_nil ⟨hu, ?_⟩
  refine wpAny_call (codeAny_of_tree ?_)
  show wpAny _ _ (callAny (.ref h₂.objs.size) ⟨[v], []⟩) _ _ _
  simp only [callAny]
  refine wpAny_bind (wpAny_load hu ?_)
  dsimp only [kxs_mw]
  rw [if_pos (by decide)]
  show wpAny _ _ (if (Value.type "method-wrapper" != Value.type "method") = true then _ else _) _ _ _
  rw [if_pos (by decide)]
  refine wpAny_bind (check_bound_init PySem.F.excBase_ValueError.toExcCallFacts (X₃ _ _ hC) hx₃ rfl ?_)
  refine wpAny_bind (wpAny_pure (wpAny_pure ?_))
  refine ⟨plainId_quiet PySem.F.excBase_ValueError.init.plain _, codeAny_builtin PySem.F.excBase_ValueError.initEntry ?_⟩
  refine exc_init_tree (cls := .ref C) (t0 := t0) (dv := none) (c2 := .none) (c3 := .none) (b4 := .bool false) hx₃ (by show 1 ≤ sizeLine; rw [sizeLine_eq]; decide) fun h₄ k4 e4 _ => ?_
  -- self.part = part
  show _root_.PySem.wpAt _ _ _ (execs _ _) _ _ _
  have kA : ∀ b o, b ≠ x → hp.get? b = some o → h₄.get? b = some o := fun b o hb e => k4 b o hb (Heap.get?_push_of_some _ (k2 b o (kk b o e)))
  have hLx : hp.objs.size ≠ x := hxL
  have hns₄ : h₄.Ns hp.objs.size fun y => List.lookup y [(PySem.Str.ofString "self", Value.ref x), (PySem.Str.ofString "part", v)].reverse := by
    obtain ⟨o, es, ep, ho4, r⟩ := hnsu
    exact ⟨o, es, ep, k4 _ _ hLx ho4, r⟩
  have X₄ : K.In h₄ := fun b o e => k4 b o (fun z => by rw [z, hnx] at e; cases e) (X₃ b o e)
  refine wpAt_of_wpAny (wpAny_execs_cons (plainObj_wpAny_Assign_Attribute ?_))
  refine wpAny_Name (wpAny_loadName_local rfl rfl hns₄ (show _ = some v from rfl) ?_) (by decide)
  refine wpAny_Name (wpAny_loadName_local rfl rfl hns₄ (show _ = some (Value.ref x) from rfl) ?_) (by decide)
  refine set_plain X₄ (ox := excO C _) (od := none) ⟨e4, rfl, rfl, trivial⟩ T.sa ?_
  refine exc_osa X₄ e4 hcl (show refsVE (.ref C :: bm) = true from hbm) rfl T.noN (fun h₅ tk₅ dx k₅ dn dne hx₅ hn₅ => ?_)
  show wpAny _ _ (execs _ _) _ _ _
  have z1 : hp.objs.size < h₁.objs.size := hns.lt
  have z2 : hp.objs.size ≤ dx := by
    refine Nat.le_trans (Nat.le_of_lt ?_) dn
    have := hns₄.lt
    exact this
  exact wpAny_execs_nil (hq h₅ tk₅ dx _ ⟨fun b o hb e => k₅ b o hb (kA b o hb e), hx₅, z2, dne, hn₅⟩)
set_option maxHeartbeats 4000000 in
theorem bad_made (T : BadTxt prog K mg C fI) {v : Value} (X : K.In s.heap) (hlim : s.heap.NoLimit) (hG : s.heap.Ns mainGlobals mg) (hB : ∃ mb, s.heap.Ns builtinsNs mb ∧ ∀ x : Str, x ≠ "__name__" → mb x = bootBuiltins x) (hroom : A.depth + 1 < recursionLimit)
    (hq : ∀ h' tk e d, OwnMade s.heap h' e C d v → R (.ok (.ret (.ref e))) { s with heap := h', toks := tk }) :
    codeAny (model prog w) A (.call (.ref C) ⟨[v], []⟩) R s := by
  obtain ⟨nm, q, N, bs, bm, sn, sub, ab, col, dd, k0, k1, k2, k3, k5, hC, hbm⟩ := T.cls
  obtain ⟨hp, g, dr, tk, os⟩ := s
  have k : ∀ b o, hp.get? b = some o → ((hp.push (kdv_tup [v])).push (excO C hp.objs.size)).get? b = some o := fun b o e => Heap.get?_push_of_some _ (Heap.get?_push_of_some _ e)
  have hget : ((hp.push (kdv_tup [v])).push (excO C hp.objs.size)).get? (hp.objs.size + 1) = some (excO C hp.objs.size) := by heap_get
  have hnx : K.lookup (hp.objs.size + 1) = none := by
    cases e : K.lookup (hp.objs.size + 1) with
    | none => rfl
    | some o =>
      have z : hp.get? (hp.objs.size + 1) = some o := X _ _ e
      exact absurd (Nat.lt_of_succ_lt (Heap.lt_size z)) (Nat.lt_irrefl _)
  have hone : [v].length ≤ sizeLine := by rw [sizeLine_eq]; exact (by decide : 1 ≤ 16777216)
  refine call_own PySem.F.excBase_ValueError (fun X => refsVE_contains X bm hbm) (X _ _ hC) (looks_findIn X T.iC) (fun self => bind_fn X self T.tC) hone ?_
  refine bad_init (s := ⟨(hp.push (kdv_tup [v])).push (excO C hp.objs.size), g, dr, tk, os⟩) T (X.keeps k) (hlim.keeps k) (hG.keeps k) (let ⟨mb, h1, h2⟩ := hB; ⟨mb, h1.keeps k, h2⟩) hget hnx ?_ fun h' tk' dx t1 ⟨k', hx, dn, dne, hns⟩ => ?_
  · show A.depth + 1 < recursionLimit
    exact hroom
  · have old : ∀ b o, hp.get? b = some o → h'.get? b = some o := fun b o e => k' b o (Nat.ne_of_lt (Nat.lt_succ_of_lt (Heap.lt_size e))) (k b o e)
    have z : hp.objs.size + 1 + 1 ≤ dx := by
      first
        | (simpa only [Heap.size_push] using dn)
        | exact dn
        | (have q := dn; rw [Heap.size_push, Heap.size_push] at q; exact q)
    exact ⟨rfl, hq h' tk' (hp.objs.size + 1) dx ⟨old, Nat.le_succ _, ⟨_, _, hx, rfl, rfl, rfl, rfl⟩, Nat.le_trans (Nat.le_trans (Nat.le_succ _) (Nat.le_succ _)) z, dne, hns⟩⟩
end
end EXP
end PySem
namespace L2
open PySem PySem.Spec PyProof.Rows
namespace EXP
theorem relO_bad {v : V} {v' : Value} (r : RelV v v') (f : Str) : RelO (List.lookup f [(("part" : Str), v)]) (if f = "part" then some v' else none) := by
  by_cases hw : f = "part"
  · subst hw
    rw [if_pos rfl]
    have q : List.lookup ("part" : Str) [(("part" : Str), v)] = some v := by simp [List.lookup]
    rw [q]
    exact r
  · rw [if_neg hw]
    have qw : (f == ("part" : Str)) = false := by simpa using hw
    have q2 : List.lookup f [(("part" : Str), v)] = none := by simp [List.lookup, qw]
    rw [q2]
    trivial
section
variable {X : Cx} {C fI : Addr}
/-- BadPart(e) -/
def tMk (C : Addr) (ta : TA) : St → Hp → XK → Prop := fun σ H Q => ta σ H fun vs H1 => ∃ v, vs = [v] ∧ ∀ d, H1 d = none → Q (.ref C) (some d) (upd H1 d (.xd [(("part" : Str), v)]))
theorem pmk {a : Expr} {ta : TA} {p pos : Pos} {k : Nat} (T : PySem.EXP.BadTxt X.prog X.K X.mg C fI) (hr : Room k X.A) (ha : PA X [a] ta) (hg : Gl X "BadPart" := by rfl)
    (he : starEach (a :: []) X.env = (false, eval a X.env) :: starEach [] X.env := by rfl) (hpl : (backTo pos (starEach [] X.env)).any (·.1) = false := by rfl) :
    PMk X (.Call (.Name "BadPart" p) [a] [] pos) (tMk C ta) := by
  intro pins s σ H Q I h
  refine wpAny_Call_Name_kw (ld_glob I hg T.gC ?_)
  refine PySem.W.callWith_K (h₀ := X.base) I.ok.mod.kin T.kC (thn (ha.run pos pins s σ H _ I h) fun us s1 hh => ?_) he hpl
  obtain ⟨vs, H1, I1, r1, v, ev, q1⟩ := hh
  subst ev
  refine ⟨I1.kIn, ?_⟩
  cases r1 with
  | cons rv rn =>
    rename_i v' us'
    cases rn
    show wpAny _ _ (call (.ref C) [v']) _ _ _
    have hlim := I1.nolimit
    have hG := I1.mod.glob.keeps I1.bk
    have hB : ∃ mb, s1.heap.Ns builtinsNs mb ∧ ∀ x : Str, x ≠ "__name__" → mb x = bootBuiltins x := by
      obtain ⟨mb, h1, h2⟩ := I1.mod.blt
      exact ⟨mb, h1.keeps I1.bk, h2⟩
    have hK := I1.kIn
    obtain ⟨hp, g, dr, tk, os⟩ := s1
    refine wpAny_call (PySem.EXP.bad_made T hK hlim hG hB (by have := hr.dp; omega) fun h' tk' e d M => ?_)
    show MkP X pins σ Q (.ref e) ⟨h', g, dr, tk', os⟩
    obtain ⟨oe, fv, hoe, hc, hd, hdat, h1⟩ := M.obj
    have hns := M.ns
    obtain ⟨G', g1, g2⟩ := restrict h' fun b => decide (b ≠ e)
    have gk : ∀ b, b ≠ e → G'.get? b = h'.get? b := fun b hb => g1 b (decide_eq_true hb)
    have ge : G'.get? e = none := g2 e (by simp)
    have old : ∀ b o, hp.get? b = some o → G'.get? b = some o := fun b o q => (gk b (Nat.ne_of_lt (Nat.lt_of_lt_of_le (Heap.lt_size q) M.new))).trans (M.keep b o q)
    have ob : ObjOk X.prog X.w (upd H1 d (.xd [(("part" : Str), v)])) G' d (.xd [(("part" : Str), v)]) :=
      ⟨_, hns.at (fun o q => (gk d M.dne).trans q), fun f => relO_bad rv f⟩
    have J : Inv X pins σ (upd H1 d (.xd [(("part" : Str), v)])) ⟨G', g, dr, tk', os⟩ := I1.laid (t' := tk') old M.dbig ob
    refine ⟨e, oe, fv, ⟨G', g, dr, tk', os⟩, _, .ref C, some d, rfl, J, fun b o q => ?_, ge, hoe, ⟨hc, hd⟩, hdat, h1, ?_, rfl, I1.bare, raises_own T.exC T.tyC, q1 d (I1.hok.fresh M.dbig)⟩
    · by_cases hb : b = e
      · have q' : G'.get? b = some o := q
        rw [hb, ge] at q'; cases q'
      · exact (gk b hb).symm.trans q
    · rw [upd_ne (Ne.symm M.dne)]
      exact I1.hok.fresh M.new
/-- raise BadPart(e) -/
def tRaise (C : Addr) (W : WX) (ta : TA) : TS := fun _ σ H => tMk C ta σ H fun cls d H' => W cls d σ H'
theorem ps_raise' {a : Expr} {ta : TA} {W : WX} {p pos pos2 : Pos} {k : Nat} (hc : X.calm = true) (T : PySem.EXP.BadTxt X.prog X.K X.mg C fI) (hr : Room k X.A) (tk : Takes X W) (ha : PA X [a] ta) (hg : Gl X "BadPart" := by rfl)
    (he : starEach (a :: []) X.env = (false, eval a X.env) :: starEach [] X.env := by rfl) (hpl : (backTo pos (starEach [] X.env)).any (·.1) = false := by rfl) :
    PS X (.Raise (some (.Call (.Name "BadPart" p) [a] [] pos)) none pos2) (tRaise C W ta) := ps_raise hc tk (pmk T hr ha hg he hpl)
end
end EXP
end L2
set_option Elab.async false
set_option linter.all false
set_option maxRecDepth 100000
set_option maxHeartbeats 2000000
namespace L2
open PySem PySem.Spec PyProof.Rows
/-- isinstance(e, c), e the exception that the suite holds, with its dict -/
def rIsD (K : PySem.W.Frag) (D a dd : Addr) : List V → Hp → VK → Prop := fun xs H Q => ∃ (c : V) (cv : Value) (b : Bool) (fs : List (Str × V)), xs = [.ref a, c] ∧ H dd = some (.xd fs) ∧ (∀ u, RelV c u → u = cv) ∧ PySem.W.kitOne K (.ref D) cv = some b ∧ Q (.bl b) H
theorem call_isD {X : Cx} {a D dd : Addr} {oe : Obj} {pn : List (Addr × Obj)} (C : ExcC X.K D) (hz : Zc (.ref D) (some dd) oe) (hf : ∃ vs, oe.data = .fields vs) : CallR (X.suite a ((a, oe) :: pn)) (.builtin "isinstance") (rIsD X.K D a dd) := by
  intro pins s σ H xs us Q I r h
  obtain ⟨c, cv, b, fs, rfl, hd, hcv, e, q⟩ := h
  cases r with
  | cons rx rr =>
    cases rr with
    | cons rt rr =>
      cases rr
      cases rx
      have ec := hcv _ rt
      subst ec
      obtain ⟨hget, _⟩ := I.pin (a, oe) (List.mem_append.mpr (.inl List.mem_cons_self))
      obtain ⟨vs, hv⟩ := hf
      have hxd : ObjOk X.prog X.w H s.heap dd (.xd fs) := I.hok dd _ hd
      obtain ⟨mA, hns, _⟩ := hxd
      obtain ⟨od, ho, _⟩ := lookIn_ns hns
      have J : PySem.W.InstAt s.heap a oe D (some od) := ⟨hget, hz.1, by unfold PySem.W.notCls; rw [hv] <;> rfl, by rw [hz.2]; exact ho⟩
      have hcl : (PySem.W.clsIn X.K D).isSome = true := by
        obtain ⟨cd, hc, _⟩ := PySem.W.any_some C.hd
        rw [hc]
        rfl
      exact PySem.W.kia_one (PySem.W.kitx_exc hcl C.hg C.hk C.hs C.ha C.hn C.ht C.hm) I.kIn J e (fun z => nomatch z) fun tk => ⟨.bl b, H, I.kept (t' := tk) fun _ _ z => z, rfl, q⟩
/-- what repr says of a plain value -/
def reprV : V → Str
  | .non => "None"
  | .bl b => if b then "True" else "False"
  | .int i => toString i
  | .str x => PySem.reprText x
  | _ => ""
def ReprOk : V → Prop
  | .non => True
  | .bl _ => True
  | .int i => i.natAbs.log2 < 1920
  | .str x => (PySem.reprText x).length ≤ sizeLine
  | _ => False
theorem call_repr {X : Cx} : CallR X (.builtin "repr") (fun xs H Q => ∃ x, xs = [x] ∧ ReprOk x ∧ Q (.str (reprV x)) H) := by
  intro pins s σ H xs us Q I r h
  obtain ⟨x, rfl, hx, q⟩ := h
  obtain ⟨u, rfl, rx⟩ := vals1 r
  cases x with
  | non => cases rx; exact PySem.P.repr_of_none ⟨.str _, H, I.tok _, ⟨_, rfl⟩, q⟩
  | bl b => cases rx; exact PySem.P.repr_of_bool ⟨.str _, H, I.tok _, ⟨_, rfl⟩, q⟩
  | int i => obtain ⟨t, rfl⟩ := rx; exact PySem.P.repr_of_int hx ⟨.str _, H, I.tok _, ⟨_, rfl⟩, q⟩
  | str z => obtain ⟨t, rfl⟩ := rx; exact PySem.P.repr_of_str ⟨.str _, H, I.tok _, ⟨_, rfl⟩, q⟩ hx
  | byt _ => exact hx.elim
  | flt _ => exact hx.elim
  | ref _ => exact hx.elim
  | ty _ => exact hx.elim
/-- a def that stands at a name of the module and keeps its promise -/
def Def (P : Program) (w : World) (K : PySem.W.Frag) (mg : Str → Option Value) (base : Heap) (CX : CXT) (k : Nat) (x : Str) (ps : List Str) (sp : Sp) : Prop :=
  ∃ (f : Addr) (fd : FuncData), FnOk P w K mg base CX k f fd ps sp ∧ mg x = some (.ref f) ∧ PySem.W.keepIn K (.ref f) = true ∧ Binds K fd ps []
theorem pe_def {X : Cx} {CX : CXT} {k : Nat} {x : Str} {ps : List Str} {sp : Sp} {E : XK} {p pos : Pos} {e : Expr} {es : List Expr} {t : TA} (D : Def X.prog X.w X.K X.mg X.base CX k x ps sp) (hr : Room k X.A) (hx : Passes CX X E) (ha : PA X (e :: es) t)
    (hg : Gl X x := by rfl) (hdb : (x == ("__debug__" : Str)) = false := by decide) (he : starEach (e :: es) X.env = (false, eval e X.env) :: starEach es X.env := by rfl) (hpl : (backTo pos (starEach es X.env)).any (·.1) = false := by rfl) :
    PE X (.Call (.Name x p) (e :: es) [] pos) (tCall sp [] E t) := by
  refine ⟨fun pins s σ H Q I h => ?_⟩
  obtain ⟨f, fd, F, m, kp, b⟩ := D
  exact (pe_call F hr hg m kp b .nil hx ha hdb he hpl).run pins s σ H Q I h
end L2
set_option Elab.async false
set_option linter.all false
set_option maxRecDepth 100000
set_option maxHeartbeats 2000000
namespace K7
open PySem PySem.Spec PyProof.Rows L2
/-! ### the text by places -/
def top (i : Nat) : Stmt := PySem.Challenge.pw_endlessplane_k07_whole_remainders_met.main.body.getD i (.Pass ⟨0, 0, 0, 0⟩)
/-! ### words -/
def isI : V → Bool
  | .int _ => true
  | _ => false
/-- None, a bool, an int, a text -/
def Plain : V → Prop
  | .non => True
  | .bl _ => True
  | .int _ => True
  | .str _ => True
  | _ => False
theorem isI_true {v : V} (h : isI v = true) : ∃ i, v = .int i := by
  cases v with
  | int i => exact ⟨i, rfl⟩
  | _ => cases h
theorem isI_int {v : V} {i : Int} (h : v = .int i) : isI v = true := by subst h; rfl
/-- an error of the class at C, whose own dict (new) holds x as f, may leave from here -/
def Bad (C : Addr) (f : Str) (x : V) (H : Hp) (E : XK) : Prop := ∀ H' d, Same H H' → H' d = none → E (.ref C) (some d) (upd H' d (.xd [(f, x)]))
theorem Bad.here {C : Addr} {f : Str} {x : V} {H : Hp} {E : XK} (b : Bad C f x H E) : ∀ d, H d = none → E (.ref C) (some d) (upd H d (.xd [(f, x)])) := fun d h => b H d (Same.refl H) h
theorem Bad.later {C : Addr} {f : Str} {x : V} {H H1 : Hp} {E : XK} (b : Bad C f x H E) (s : Same H H1) : Bad C f x H1 E := fun H' d h n => b H' d (s.trans h) n
theorem Same.new {H : Hp} {p : Addr} {o : HO} (n : H p = none) : Same H (upd H p o) := fun b u e => by rw [upd_ne (ne_of_none e n)]; exact e
theorem Same.tup {K : PySem.W.Frag} {H H' : Hp} {a : Addr} {xs : List V} (e : Same H H') (h : SqT K H a xs) : SqT K H' a xs := by
  rcases h with (h | ⟨o, h⟩) | h
  · exact .inl (.inl (e _ _ h))
  · exact .inl (.inr ⟨o, e _ _ h⟩)
  · exact .inr h
/-- what the top has written: the errors' classes, the built-ins' names -/
structure Txt (P : Program) (K : PySem.W.Frag) (mg : Str → Option Value) (CN fN CP fP : Addr) : Prop where
  n : PySem.EXN.BadTxt P K mg CN fN
  p : PySem.EXP.BadTxt P K mg CP fP
  isinstance : mg "isinstance" = none
  int : mg "int" = none
  bool : mg "bool" = none
  tuple : mg "tuple" = none
  len : mg "len" = none
  all : mg "all" = none
  abs : mg "abs" = none
  range : mg "range" = none
  repr : mg "repr" = none
  list : mg "list" = none
section
variable {P : Program} {w : World} {K : PySem.W.Frag} {mg : Str → Option Value} {base : Heap} {CN fN CP fP f : Addr} {fd : FuncData}
/-! ### is_integer -/
def spInt : Sp := fun vs H Q _ => ∃ v, vs = [v] ∧ Plain v ∧ Q (.bl (isI v)) H
theorem scInt : FnScope ["value"] ["value"] (defScope (top 1)) := ⟨rfl, rfl, rfl, by decide +kernel, rfl, by decide +kernel, by decide +kernel⟩
theorem fn_int (F : Fun K "is_integer" "is_integer" (top 1) f fd) (T : Txt P K mg CN fN CP fP) : FnOk P w K mg base CX0 1 f fd ["value"] spInt := by
  refine F.ok scInt (fun vs H Q E h => ?_) (fun cdv A outer s H vs Q E hr h => ?_)
  · obtain ⟨v, rfl, _⟩ := h
    rfl
  · obtain ⟨v, rfl, pl, q⟩ := h
    refine ⟨_, pss_one (ps_ret (pe_and (pe_callB call_isi (by rfl) T.isinstance PyProof.Rows.boot_isinstance (pa_cons (pv 0) (pa_cons (pe_bltn (v := .ty "int") (by rfl) T.int PyProof.Rows.boot_int rfl) pa_nil)))
      (pe_one (pe_not (pe_callB call_isi (by rfl) T.isinstance PyProof.Rows.boot_isinstance (pa_cons (pv 0) (pa_cons (pe_bltn (v := .ty "bool") (by rfl) T.bool PyProof.Rows.boot_bool rfl) pa_nil))))))), ?_⟩
    cases v with
    | non => exact ⟨_, rfl, _, _, _, _, _, rfl, .ty "int", .base .non, kit_ty (r := false) (by decide +kernel), _, rfl, iteF q⟩
    | bl b => exact ⟨_, rfl, _, _, _, _, _, rfl, .ty "int", .base (.bl b), kit_ty (r := true) (by decide +kernel), _, rfl, iteT ⟨_, rfl, _, _, _, _, _, rfl, .ty "bool", .base (.bl b), kit_ty (r := true) (by decide +kernel), _, rfl, q⟩⟩
    | int i => exact ⟨_, rfl, _, _, _, _, _, rfl, .ty "int", .base (.int i), kit_ty (r := true) (by decide +kernel), _, rfl, iteT ⟨_, rfl, _, _, _, _, _, rfl, .ty "bool", .base (.int i), kit_ty (r := false) (by decide +kernel), _, rfl, q⟩⟩
    | str z => exact ⟨_, rfl, _, _, _, _, _, rfl, .ty "int", .base (.str z), kit_ty (r := false) (by decide +kernel), _, rfl, iteF q⟩
    | byt _ => exact pl.elim
    | flt _ => exact pl.elim
    | ref _ => exact pl.elim
    | ty _ => exact pl.elim
/-! ### check_integer -/
def spCI (CN : Addr) : Sp := fun vs H Q E => ∃ v, vs = [v] ∧ Plain v ∧ (isI v = false → Bad CN "number" v H E) ∧ (isI v = true → Q .non H)
theorem scCI : FnScope ["number"] ["number"] (defScope (top 7)) := ⟨rfl, rfl, rfl, by decide +kernel, rfl, by decide +kernel, by decide +kernel⟩
theorem fn_ci (F : Fun K "check_integer" "check_integer" (top 7) f fd) (T : Txt P K mg CN fN CP fP) (D1 : Def P w K mg base CX0 1 "is_integer" ["value"] spInt) : FnOk P w K mg base (L2.CX P w) 3 f fd ["number"] (spCI CN) := by
  refine F.okX scCI (fun vs H Q E h => ?_) (fun cdv A outer s H vs Q E hr h => ?_)
  · obtain ⟨v, rfl, _⟩ := h
    rfl
  · obtain ⟨v, rfl, pl, kb, kq⟩ := h
    refine ⟨_, pss_one (ps_if (pt_not (pt_val (pe_def D1 (hr.mono (by decide)) pass0 (pa_cons (pv 0) pa_nil)))) (pss_one (EXN.ps_raise' rfl T.n hr (takes_of rfl rfl rfl rfl) (pa_cons (pv 0) pa_nil))) pss_nil), ?_⟩
    refine ⟨_, rfl, v, rfl, pl, _, rfl, ?_⟩
    cases e : isI v with
    | false => exact iteT ⟨_, rfl, _, rfl, (kb e).here⟩
    | true => exact iteF (kq e)
end
end K7
set_option Elab.async false
set_option linter.all false
set_option maxRecDepth 100000
set_option maxHeartbeats 2000000
namespace K7
open PySem PySem.Spec PyProof.Rows L2
theorem abs_if (i : Int) : (if i < 0 then -i else i) = (i.natAbs : Int) := by split <;> omega
section
variable {P : Program} {w : World} {K : PySem.W.Frag} {mg : Str → Option Value} {base : Heap} {CN fN CP fP f : Addr} {fd : FuncData}
/-! ### check_remainder -/
def spCR (CN : Addr) : Sp := fun vs H Q E => ∃ x y, vs = [x, y] ∧ Plain x ∧ Plain y ∧ (isI x = false → Bad CN "number" x H E) ∧ (isI x = true → (¬ ∃ p, y = .int p ∧ 1 ≤ p) → Bad CN "number" y H E) ∧ (isI x = true → (∃ p, y = .int p ∧ 1 ≤ p) → Q .non H)
theorem scCR : FnScope ["r", "p"] ["r", "p"] (defScope (top 8)) := ⟨rfl, rfl, rfl, by decide +kernel, rfl, by decide +kernel, by decide +kernel⟩
theorem fn_cr (F : Fun K "check_remainder" "check_remainder" (top 8) f fd) (T : Txt P K mg CN fN CP fP) (D1 : Def P w K mg base CX0 1 "is_integer" ["value"] spInt) (D2 : Def P w K mg base (L2.CX P w) 3 "check_integer" ["number"] (spCI CN)) :
    FnOk P w K mg base (L2.CX P w) 5 f fd ["r", "p"] (spCR CN) := by
  refine F.okX scCR (fun vs H Q E h => ?_) (fun cdv A outer s H vs Q E hr h => ?_)
  · obtain ⟨x, y, rfl, _⟩ := h
    rfl
  · obtain ⟨x, y, rfl, px, py, kx, ky, kq⟩ := h
    refine ⟨_, pss_cons (ps_expr (pe_def D2 (hr.mono (by decide)) (passes_call (E := E) (takes_of rfl rfl rfl rfl) (fun _ _ _ _ z => z)) (pa_cons (pv 0) pa_nil)))
      (pss_one (ps_if (PW.pt (pw_or (pt_not (pt_val (pe_def D1 (hr.mono (by decide)) pass0 (pa_cons (pv 1) pa_nil)))) (pw_or1 (pt_cmpR op_lt (pv 1) pe_int (nomark _)))))
        (pss_one (EXN.ps_raise' rfl T.n (hr.mono (by decide) : Room 1 _) (takes_of rfl rfl rfl rfl) (pa_cons (pv 1) pa_nil))) pss_nil)), ?_⟩
    refine ⟨_, rfl, x, rfl, px, kx, fun hx => ?_⟩
    refine ⟨_, rfl, y, rfl, py, _, rfl, ?_⟩
    cases e : isI y with
    | false => exact iteT (iteT ⟨_, rfl, _, rfl, (ky hx (fun ⟨p, h1, _⟩ => by rw [isI_int h1] at e; cases e)).here⟩)
    | true =>
      obtain ⟨p, rfl⟩ := isI_true e
      refine iteF ⟨_, rfl, _, _, rfl, rfl, _, rfl, ?_⟩
      refine ite2 (fun hp => ?_) (fun hp => ?_)
      · have hp' : p < 1 := of_decide_eq_true hp
        exact ⟨_, rfl, _, rfl, (ky hx (fun ⟨p', h1, h2⟩ => by cases h1; omega)).here⟩
      · have hp' : ¬ p < 1 := fun z => hp (decide_eq_true z)
        exact kq hx ⟨p, rfl, by omega⟩
/-! ### greatest_divisor -/
def spG (CN : Addr) : Sp := fun vs H Q E => ∃ x y, vs = [x, y] ∧ Plain x ∧ Plain y ∧ (isI x = false → Bad CN "number" x H E) ∧ (isI x = true → isI y = false → Bad CN "number" y H E) ∧ (∀ a b, x = .int a → y = .int b → Q (.int (Int.gcd a b)) H)
theorem spG_ints {a b : Int} {H : Hp} {Q : VK} {E : XK} (h : Q (.int (Int.gcd a b)) H) : spG CN [.int a, .int b] H Q E :=
  ⟨_, _, rfl, trivial, trivial, fun z => Bool.noConfusion (show true = false from z), fun _ z => Bool.noConfusion (show true = false from z), fun a' b' ea eb => by cases ea; cases eb; exact h⟩
theorem scG : FnScope ["one", "other", "left", "rest"] ["one", "other"] (defScope (top 10)) := ⟨rfl, rfl, rfl, by decide +kernel, rfl, by decide +kernel, by decide +kernel⟩
def muG (i : Nat) : L2.St → Hp → Nat := fun σ _ => match σ[i]? with | some (some (.int b)) => b.toNat | _ => 0
theorem fn_g (F : Fun K "greatest_divisor" "greatest_divisor" (top 10) f fd) (T : Txt P K mg CN fN CP fP) (D2 : Def P w K mg base (L2.CX P w) 3 "check_integer" ["number"] (spCI CN)) :
    FnOk P w K mg base (L2.CX P w) 5 f fd ["one", "other"] (spG CN) := by
  refine F.okX scG (fun vs H Q E h => ?_) (fun cdv A outer s H vs Q E hr h => ?_)
  · obtain ⟨x, y, rfl, _⟩ := h
    rfl
  · obtain ⟨x, y, rfl, px, py, kx, ky, kq⟩ := h
    refine ⟨_, pss_cons (ps_expr (pe_def D2 (hr.mono (by decide)) (passes_call (E := E) (takes_of rfl rfl rfl rfl) (fun _ _ _ _ z => z)) (pa_cons (pv 0) pa_nil)))
      (pss_cons (ps_expr (pe_def D2 (hr.mono (by decide)) (passes_call (E := E) (takes_of rfl rfl rfl rfl) (fun _ _ _ _ z => z)) (pa_cons (pv 1) pa_nil)))
      (pss_cons (ps_par (i := 2) (j := 3) rfl scG.nd rfl rfl (by decide) rfl rfl (pa_cons (pe_callB call_abs (by rfl) T.abs PyProof.Rows.boot_abs (pa_cons (pv 0) pa_nil)) (pa_cons (pe_callB call_abs (by rfl) T.abs PyProof.Rows.boot_abs (pa_cons (pv 1) pa_nil)) pa_nil)) (by rfl))
      (pss_cons (ps_while (passes_of rfl) (pt_cmpR op_ne (pv 3) pe_int (nomark _))
        (pss_one (ps_par (i := 2) (j := 3) rfl scG.nd rfl rfl (by decide) rfl rfl (pa_cons (pv 3) (pa_cons (pe_op op_mod (pe_callTy call_int1 (by rfl) T.int PyProof.Rows.boot_int (pa_cons (pv 2) pa_nil)) (pv 3)) pa_nil)) (by rfl))))
      (pss_one (ps_ret (pv 2)))))), ?_⟩
    refine ⟨_, rfl, x, rfl, px, kx, fun hx => ?_⟩
    refine ⟨_, rfl, y, rfl, py, ky hx, fun hy => ?_⟩
    obtain ⟨a, rfl⟩ := isI_true hx
    obtain ⟨b, rfl⟩ := isI_true hy
    refine ⟨_, rfl, a, rfl, _, rfl, b, rfl, _, _, rfl, ?_⟩
    rw [abs_if, abs_if]
    refine while_by (fun σ H' => ∃ m n : Nat, σ = [some (.int a), some (.int b), some (.int (m : Int)), some (.int (n : Int))] ∧ H' = H ∧ Nat.gcd m n = Nat.gcd a.natAbs b.natAbs) (muG 3) ⟨_, _, rfl, rfl, rfl⟩ ?_ (fun σ H Q Q' hq ⟨v, e, v2, k, ek, q⟩ => ⟨v, e, v2, k, ek, hq _ _ q⟩)
    rintro σ H' ⟨m, n, rfl, rfl, hg⟩
    refine ⟨_, rfl, rfl, _, rfl, ?_⟩
    by_cases hn : n = 0
    · subst hn
      refine iteNS rfl ⟨_, rfl, ?_⟩
      rw [Nat.gcd_zero_right] at hg
      have := kq a b rfl rfl
      rw [Int.gcd, ← hg] at this
      exact this
    · rw [show (!decide (V.int (n : Int) = V.int 0)) = true by rw [decide_eq_false (fun z => hn (by have := V.int.inj z; omega))]; rfl]
      refine iteT ⟨_, rfl, _, rfl, .inl ⟨_, rfl, _, rfl, _, _, rfl, rfl, (by show (0 : Int) < n; omega), _, _, rfl, ?_⟩⟩
      refine ⟨⟨n, m % n, ?_, rfl, (K07.gcd_turn m n).trans hg⟩, ?_⟩
      · show [some (V.int a), some (V.int b), some (V.int (n : Int)), some (V.int ((m : Int) % (n : Int)))] = _
        rw [K07.cast_mod]
      · show ((m : Int) % (n : Int)).toNat < ((n : Nat) : Int).toNat
        rw [K07.cast_mod]
        have := Nat.mod_lt m (Nat.pos_of_ne_zero hn)
        omega
/-! ### least_multiple -/
def spLM (CN : Addr) : Sp := fun vs H Q E => ∃ x y, vs = [x, y] ∧ Plain x ∧ Plain y ∧ ((¬ ∃ p, x = .int p ∧ 1 ≤ p) → Bad CN "number" x H E) ∧ ((∃ p, x = .int p ∧ 1 ≤ p) → (¬ ∃ p, y = .int p ∧ 1 ≤ p) → Bad CN "number" y H E) ∧
  (∀ a b, x = .int a → y = .int b → 1 ≤ a → 1 ≤ b → a.natAbs < 2 ^ 200 ∧ b.natAbs < 2 ^ 200 ∧ ∀ H', Same H H' → Q (.int (a * b / (Int.gcd a b : Int))) H')
theorem scLM : FnScope ["one", "other", "number"] ["one", "other"] (defScope (top 11)) := ⟨rfl, rfl, rfl, by decide +kernel, rfl, by decide +kernel, by decide +kernel⟩
theorem fn_lm (F : Fun K "least_multiple" "least_multiple" (top 11) f fd) (T : Txt P K mg CN fN CP fP) (D1 : Def P w K mg base CX0 1 "is_integer" ["value"] spInt) (D3 : Def P w K mg base (L2.CX P w) 5 "greatest_divisor" ["one", "other"] (spG CN)) :
    FnOk P w K mg base (L2.CX P w) 7 f fd ["one", "other"] (spLM CN) := by
  refine F.okX scLM (fun vs H Q E h => ?_) (fun cdv A outer s H vs Q E hr h => ?_)
  · obtain ⟨x, y, rfl, _⟩ := h
    rfl
  · obtain ⟨x, y, rfl, px, py, kx, ky, kq⟩ := h
    refine ⟨_, pss_cons (ps_for (passes_of rfl) rfl (pi_tup (pe_tup (pa_cons (pv 0) (pa_cons (pv 1) pa_nil)))) (pg_name (i := 2) scLM.nd rfl (Or.inl rfl))
        (pss_one (ps_if (PW.pt (pw_or (pt_not (pt_val (pe_def D1 (hr.mono (by decide)) pass0 (pa_cons (pv 2) pa_nil)))) (pw_or1 (pt_cmpR op_lt (pv 2) pe_int (nomark _)))))
          (pss_one (EXN.ps_raise' rfl T.n (hr.mono (by decide) : Room 1 _) (takes_of rfl rfl rfl rfl) (pa_cons (pv 2) pa_nil))) pss_nil)))
      (pss_one (ps_ret (pe_op op_fdivW (pe_op op_mulW (pv 0) (pe_callTy call_int1 (by rfl) T.int PyProof.Rows.boot_int (pa_cons (pv 1) pa_nil)))
        (pe_def D3 (hr.mono (by decide)) (passes_call (E := E0) (takes_of rfl rfl rfl rfl) (fun _ _ _ _ z => z.elim)) (pa_cons (pv 0) (pa_cons (pv 1) pa_nil)))))), ?_⟩
    refine ⟨_, rfl, _, rfl, (by show 2 ≤ sizeLine; decide), fun t ht => ?_⟩
    have sm : Same H (upd H t (.tup [x, y])) := Same.new ht
    have st : SqT K (upd H t (.tup [x, y])) t [x, y] := SqT.of upd_same
    -- one turn
    have turn : ∀ (v z : V) (i : Nat) (D : Ends), Plain v → ((¬ ∃ p, v = .int p ∧ 1 ≤ p) → Bad CN "number" v H E) → ((∃ p, v = .int p ∧ 1 ≤ p) → D.nx [some x, some y, some v] (upd H t (.tup [x, y]))) →
        (tIfS (tOr (tNot (tB (tCall spInt [] E0 (tCons (tVar 2) tNil)))) (tTest (tOp (rI0 fun i j => .bl (decide (i < j))) (tVar 2) (tC (.int 1))))) (EXN.tRaise CN (fun cls d _ H => E cls d H) (tCons (tVar 2) tNil)) tNext) D [some x, some y, some v] (upd H t (.tup [x, y])) := by
      intro v z i D pv kv kn
      refine ⟨_, rfl, v, rfl, pv, _, rfl, ?_⟩
      cases e : isI v with
      | false => exact iteT (iteT ⟨_, rfl, _, rfl, ((kv (fun ⟨p, h1, _⟩ => by rw [isI_int h1] at e; cases e)).later sm).here⟩)
      | true =>
        obtain ⟨p, rfl⟩ := isI_true e
        refine iteF ⟨_, rfl, _, _, rfl, rfl, _, rfl, ?_⟩
        refine ite2 (fun hp => ?_) (fun hp => ?_)
        · have hp' : p < 1 := of_decide_eq_true hp
          exact ⟨_, rfl, _, rfl, ((kv (fun ⟨p', h1, h2⟩ => by cases h1; omega)).later sm).here⟩
        · have hp' : ¬ p < 1 := fun z => hp (decide_eq_true z)
          exact kn ⟨p, rfl, by omega⟩
    refine ⟨t, rfl, ⟨_, st⟩, for_tup (K := K) (a := t) (xs := [x, y]) (fun i σ H' => H' = upd H t (.tup [x, y]) ∧ ∃ v, σ = [some x, some y, v] ∧ (1 ≤ i → ∃ p, x = .int p ∧ 1 ≤ p) ∧ (2 ≤ i → ∃ p, y = .int p ∧ 1 ≤ p))
      ⟨rfl, _, rfl, fun z => absurd z (by decide), fun z => absurd z (by decide)⟩ (fun i σ H' _ ⟨e, _⟩ => by rw [e]; exact st) ?_ ?_⟩
    · rintro i u σ H' hi ⟨rfl, v, rfl, h1, h2⟩
      match i, hi with
      | 0, hi =>
        obtain rfl : x = u := Option.some.inj hi
        exact turn x x 0 _ px kx fun hp => ⟨rfl, _, rfl, fun _ => hp, fun z => absurd z (by decide)⟩
      | 1, hi =>
        obtain rfl : y = u := Option.some.inj hi
        exact turn y y 1 _ py (ky (h1 (Nat.le_refl _))) fun hp => ⟨rfl, _, rfl, fun _ => h1 (Nat.le_refl _), fun _ => hp⟩
      | i + 2, hi => simp at hi
    · rintro σ H' ⟨rfl, v, rfl, h1, h2⟩
      obtain ⟨a, rfl, ha⟩ := h1 (by show 1 ≤ 2; decide)
      obtain ⟨b, rfl, hb⟩ := h2 (by show 2 ≤ 2; decide)
      obtain ⟨ba, bb, k⟩ := kq a b rfl rfl ha hb
      refine ⟨_, rfl, _, rfl, .inl ⟨_, rfl, ?_⟩⟩
      refine ⟨_, _, rfl, rfl, wide_mul ba bb (by decide) (by decide) (by decide), ?_⟩
      refine ⟨_, rfl, _, rfl, ?_⟩
      unfold tNil
      refine spG_ints ?_
      have g0 : 0 < Int.gcd a b := Int.gcd_pos_of_ne_zero_left _ (by omega)
      have g1 : Int.gcd a b < 2 ^ 200 := K07.gcd_le ba bb
      refine ⟨_, _, rfl, rfl, wide_div (by omega) (b := 200) (by rw [Int.natAbs_natCast]; exact g1) (by decide) (by decide), k _ sm⟩
end
end K7
set_option Elab.async false
set_option linter.all false
set_option maxRecDepth 100000
set_option maxHeartbeats 2000000
namespace K7
open PySem PySem.Spec PyProof.Rows L2
section
variable {P : Program} {w : World} {K : PySem.W.Frag} {mg : Str → Option Value} {base : Heap} {CN fN CP fP f : Addr} {fd : FuncData}
/-! ### inverse -/
def spInv : Sp := fun vs H Q _ => ∃ (x : Int) (m : Nat), vs = [.int x, .int (m : Int)] ∧ 0 < m ∧ m < 2 ^ 200 ∧ Int.gcd x m = 1 ∧ ∀ H' u, Same H H' → 0 ≤ u → u < (m : Int) → K07.InvOf m x u → Q (.int u) H'
theorem scV : FnScope ["number", "modulus", "left", "rest", "near", "far", "times"] ["number", "modulus"] (defScope (top 12)) := ⟨rfl, rfl, rfl, by decide +kernel, rfl, by decide +kernel, by decide +kernel⟩
theorem fn_inv (F : Fun K "inverse" "inverse" (top 12) f fd) (T : Txt P K mg CN fN CP fP) : FnOk P w K mg base CX0 1 f fd ["number", "modulus"] spInv := by
  refine F.ok scV (fun vs H Q E h => ?_) (fun cdv A outer s H vs Q E hr h => ?_)
  · obtain ⟨x, m, rfl, _⟩ := h
    rfl
  · obtain ⟨x, m, rfl, hm, hz, hg, k⟩ := h
    refine ⟨_, pss_cons (ps_asg (pe_tup (pa_cons (pv 1) (pa_cons (pe_op op_mod (pe_callTy call_int1 (by rfl) T.int PyProof.Rows.boot_int (pa_cons (pv 0) pa_nil)) (pv 1)) (pa_cons pe_int (pa_cons pe_int pa_nil)))))
        (pg_tup rfl (pgs_cons (pg_name (i := 2) scV.nd rfl (Or.inl rfl)) (pgs_cons (pg_name (i := 3) scV.nd rfl (Or.inl rfl)) (pgs_cons (pg_name (i := 4) scV.nd rfl (Or.inl rfl)) (pgs_cons (pg_name (i := 5) scV.nd rfl (Or.inl rfl)) pgs_nil))))))
      (pss_cons (ps_while PassesOwn.never (pt_cmpR op_ne (pv 3) pe_int (nomark _))
        (pss_cons (ps_set (i := 6) scV.nd rfl (Or.inl rfl) (pe_op op_fdivW (pe_callTy call_int1 (by rfl) T.int PyProof.Rows.boot_int (pa_cons (pv 2) pa_nil)) (pv 3)))
        (pss_one (ps_asg (pe_tup (pa_cons (pv 3) (pa_cons (pe_op op_sub (pv 2) (pe_op op_mulW (pv 6) (pv 3))) (pa_cons (pv 5) (pa_cons (pe_op op_sub (pv 4) (pe_op op_mulW (pv 6) (pv 5))) pa_nil)))))
          (pg_tup rfl (pgs_cons (pg_name (i := 2) scV.nd rfl (Or.inl rfl)) (pgs_cons (pg_name (i := 3) scV.nd rfl (Or.inl rfl)) (pgs_cons (pg_name (i := 4) scV.nd rfl (Or.inl rfl)) (pgs_cons (pg_name (i := 5) scV.nd rfl (Or.inl rfl)) pgs_nil)))))))))
      (pss_one (ps_ret (pe_op op_mod (pe_callTy call_int1 (by rfl) T.int PyProof.Rows.boot_int (pa_cons (pv 4) pa_nil)) (pv 1))))), ?_⟩
    have hm' : (0 : Int) < (m : Int) := by omega
    refine ⟨_, rfl, _, rfl, .inl ⟨_, rfl, _, rfl, _, _, rfl, rfl, hm', ?_⟩⟩
    refine ⟨(by show 4 ≤ sizeLine; decide), fun t ht => ?_⟩
    refine ⟨t, _, rfl, SqT.of upd_same, rfl, _, _, rfl, _, _, rfl, _, _, rfl, _, _, rfl, rfl, ?_⟩
    have x0 : 0 ≤ x % (m : Int) := Int.emod_nonneg x (by omega)
    refine while_by (fun σ H' => ∃ (l r : Nat) (n f : Int) (v : Option V), σ = [some (.int x), some (.int (m : Int)), some (.int (l : Int)), some (.int (r : Int)), some (.int n), some (.int f), v] ∧ Same H H' ∧ K07.Xg m x l r n f) (muG 3)
      ⟨m, (x % (m : Int)).toNat, 0, 1, none, ?_, Same.new ht, K07.Xg.start hm hg⟩ ?_ (fun σ H Q Q' hq ⟨v, e, v2, k, ek, q⟩ => ⟨v, e, v2, k, ek, hq _ _ q⟩)
    · rw [Int.toNat_of_nonneg x0]
      rfl
    rintro σ H' ⟨l, r, n, f, v, rfl, sm, X⟩
    refine ⟨_, rfl, rfl, _, rfl, ?_⟩
    by_cases hn : r = 0
    · subst hn
      refine iteNS rfl ?_
      refine ⟨_, rfl, .inl ⟨_, rfl, _, rfl, _, _, rfl, rfl, hm', ?_⟩⟩
      exact k H' _ sm (Int.emod_nonneg n (by omega)) (Int.emod_lt_of_pos n hm') X.done
    · rw [show (!decide (V.int (r : Int) = V.int 0)) = true by rw [decide_eq_false (fun z => hn (by have := V.int.inj z; omega))]; rfl]
      have hr0 : 0 < r := Nat.pos_of_ne_zero hn
      have br : ((r : Nat) : Int).natAbs < 2 ^ 200 := by rw [Int.natAbs_natCast]; exact Nat.lt_of_le_of_lt X.rl hz
      have bf : f.natAbs < 2 ^ 200 := Nat.lt_of_le_of_lt X.bf hz
      have ec := K07.cast_div l r
      have bt : ((l : Int) / (r : Int)).natAbs < 2 ^ 200 := by rw [ec, Int.natAbs_natCast]; exact Nat.lt_of_le_of_lt (Nat.le_trans (Nat.div_le_self l r) X.lm) hz
      refine iteT ⟨_, rfl, .inl ⟨_, rfl, _, rfl, _, _, rfl, rfl, wide_div (by omega) br (by decide) (by decide), ?_⟩⟩
      refine ⟨_, rfl, _, rfl, _, rfl, _, rfl, _, _, rfl, rfl, wide_mul bt br (by decide) (by decide) (by decide), _, _, rfl, rfl, ?_⟩
      refine ⟨_, rfl, _, rfl, _, rfl, _, rfl, _, _, rfl, rfl, wide_mul bt bf (by decide) (by decide) (by decide), _, _, rfl, rfl, ?_⟩
      refine ⟨(by show 4 ≤ sizeLine; decide), fun t ht => ?_⟩
      refine ⟨t, _, rfl, SqT.of upd_same, rfl, _, _, rfl, _, _, rfl, _, _, rfl, _, _, rfl, rfl, ?_⟩
      have e1 := Nat.div_add_mod l r
      have e2 : (l : Int) - ((l / r : Nat) : Int) * (r : Int) = ((l % r : Nat) : Int) := by
        have : ((r * (l / r) + l % r : Nat) : Int) = (l : Int) := by rw [e1]
        rw [Int.natCast_add, Int.natCast_mul, Int.mul_comm] at this
        omega
      refine ⟨⟨r, l % r, f, n - ((l / r : Nat) : Int) * f, some (.int ((l / r : Nat) : Int)), ?_, sm.trans (Same.new ht), X.turn hn⟩, ?_⟩
      · show [some (V.int x), some (V.int (m : Int)), some (V.int (r : Int)), some (V.int ((l : Int) - ((l : Int) / (r : Int)) * (r : Int))), some (V.int f), some (V.int (n - ((l : Int) / (r : Int)) * f)), some (V.int ((l : Int) / (r : Int)))] = _
        rw [ec, e2]
      · show ((l : Int) - ((l : Int) / (r : Int)) * (r : Int)).toNat < ((r : Nat) : Int).toNat
        rw [ec, e2]
        have := Nat.mod_lt l hr0
        omega
end
end K7
set_option Elab.async false
set_option linter.all false
set_option maxRecDepth 100000
set_option maxHeartbeats 2000000
namespace K7
open PySem PySem.Spec PyProof.Rows L2
/-- a number of less than 190 bits -/
def Bd (i : Int) : Prop := i.natAbs < 2 ^ 190
theorem Bd.up {i : Int} (h : Bd i) {n : Nat} (hn : 190 ≤ n) : i.natAbs < 2 ^ n := Nat.lt_of_lt_of_le h (Nat.pow_le_pow_right (by decide) hn)
theorem Bd.sub {i j : Int} (h : Bd i) (h' : Bd j) : (i - j).natAbs < 2 ^ 191 := by
  have h1 : i.natAbs < 2 ^ 190 := h
  have h2 : j.natAbs < 2 ^ 190 := h'
  have e : (2 : Nat) ^ 191 = 2 ^ 190 + 2 ^ 190 := by rw [show 191 = 190 + 1 from rfl, Nat.pow_succ, Nat.mul_two]
  rw [e]
  generalize (2 : Nat) ^ 190 = z at *
  omega
theorem natAbs_div_le (i : Int) (g : Int) (hg : 0 < g) (hd : g ∣ i) : (i / g).natAbs ≤ i.natAbs := by
  obtain ⟨c, rfl⟩ := hd
  rw [Int.mul_ediv_cancel_left _ (by omega), Int.natAbs_mul]
  have : 1 * c.natAbs ≤ g.natAbs * c.natAbs := Nat.mul_le_mul_right _ (by omega)
  omega
theorem gcd_bd {b p : Int} (hb : Bd b) (hp : Bd p) : ((Int.gcd b p : Nat) : Int).natAbs < 2 ^ 190 := by
  rw [Int.natAbs_natCast]
  exact K07.gcd_le hb hp
section
variable {P : Program} {w : World} {K : PySem.W.Frag} {mg : Str → Option Value} {base : Heap} {CN fN CP fP f : Addr} {fd : FuncData}
/-! ### remainder_of -/
/-- what remainder_of answers of ints -/
def RO (A B R p : Int) (H : Hp) (Q : VK) : Prop := Bd A ∧ Bd B ∧ Bd R ∧ Bd p ∧ (¬ (Int.gcd B p : Int) ∣ R - A → Q .non H) ∧
  ((Int.gcd B p : Int) ∣ R - A → ∀ H' t s, Same H H' → H t = none → H' t = some (.tup [.int s, .int (p / (Int.gcd B p : Int))]) → K07.Told A B R p s (p / (Int.gcd B p : Int)) → Q (.ref t) H')
def spRO (CN : Addr) : Sp := fun vs H Q E => ∃ a b r p, vs = [a, b, r, p] ∧ Plain a ∧ Plain b ∧ Plain r ∧ Plain p ∧ (isI a = false → Bad CN "number" a H E) ∧ (isI a = true → isI b = false → Bad CN "number" b H E) ∧
  (isI a = true → isI b = true → isI r = false → Bad CN "number" r H E) ∧ (isI a = true → isI b = true → isI r = true → (¬ ∃ q, p = .int q ∧ 1 ≤ q) → Bad CN "number" p H E) ∧
  (∀ A B R q, a = .int A → b = .int B → r = .int R → p = .int q → 1 ≤ q → RO A B R q H Q)
theorem spRO_ints {A B R q : Int} {H : Hp} {Q : VK} {E : XK} (hq : 1 ≤ q) (h : RO A B R q H Q) : spRO CN [.int A, .int B, .int R, .int q] H Q E :=
  ⟨_, _, _, _, rfl, trivial, trivial, trivial, trivial, fun z => Bool.noConfusion (show true = false from z), fun _ z => Bool.noConfusion (show true = false from z), fun _ _ z => Bool.noConfusion (show true = false from z), fun _ _ _ z => absurd ⟨q, rfl, hq⟩ z,
    fun _ _ _ _ ea eb er ep _ => by cases ea; cases eb; cases er; cases ep; exact h⟩
theorem scRO : FnScope ["a", "b", "r", "p", "divisor", "modulus"] ["a", "b", "r", "p"] (defScope (top 13)) := ⟨rfl, rfl, rfl, by decide +kernel, rfl, by decide +kernel, by decide +kernel⟩
theorem fn_ro (F : Fun K "remainder_of" "remainder_of" (top 13) f fd) (T : Txt P K mg CN fN CP fP) (D2 : Def P w K mg base (L2.CX P w) 3 "check_integer" ["number"] (spCI CN)) (D3 : Def P w K mg base (L2.CX P w) 5 "check_remainder" ["r", "p"] (spCR CN))
    (D4 : Def P w K mg base (L2.CX P w) 5 "greatest_divisor" ["one", "other"] (spG CN)) (D5 : Def P w K mg base CX0 1 "inverse" ["number", "modulus"] spInv) : FnOk P w K mg base (L2.CX P w) 7 f fd ["a", "b", "r", "p"] (spRO CN) := by
  refine F.okX scRO (fun vs H Q E h => ?_) (fun cdv A outer s H vs Q E hr h => ?_)
  · obtain ⟨a, b, r, p, rfl, _⟩ := h
    rfl
  · obtain ⟨a, b, r, p, rfl, pa, pb, pr, pp, ka, kb, kr, kp, kq⟩ := h
    refine ⟨_, pss_cons (ps_expr (pe_def D2 (hr.mono (by decide)) (passes_call (E := E) (takes_of rfl rfl rfl rfl) (fun _ _ _ _ z => z)) (pa_cons (pv 0) pa_nil)))
      (pss_cons (ps_expr (pe_def D2 (hr.mono (by decide)) (passes_call (E := E) (takes_of rfl rfl rfl rfl) (fun _ _ _ _ z => z)) (pa_cons (pv 1) pa_nil)))
      (pss_cons (ps_expr (pe_def D3 (hr.mono (by decide)) (passes_call (E := E) (takes_of rfl rfl rfl rfl) (fun _ _ _ _ z => z)) (pa_cons (pv 2) (pa_cons (pv 3) pa_nil))))
      (pss_cons (ps_set (i := 4) scRO.nd rfl (Or.inl rfl) (pe_def D4 (hr.mono (by decide)) (passes_call (E := E0) (takes_of rfl rfl rfl rfl) (fun _ _ _ _ z => z.elim)) (pa_cons (pv 1) (pa_cons (pv 3) pa_nil))))
      (pss_cons (ps_if (pt_cmpR op_ne (pe_op op_mod (pe_callTy call_int1 (by rfl) T.int PyProof.Rows.boot_int (pa_cons (pe_op op_sub (pv 2) (pv 0)) pa_nil)) (pv 4)) pe_int (nomark _)) (pss_one (ps_ret pe_non)) pss_nil)
      (pss_cons (ps_set (i := 5) scRO.nd rfl (Or.inl rfl) (pe_op op_fdivW (pe_callTy call_int1 (by rfl) T.int PyProof.Rows.boot_int (pa_cons (pv 3) pa_nil)) (pv 4)))
      (pss_one (ps_ret (pe_tup (pa_cons (pe_op op_mod (pe_callTy call_int1 (by rfl) T.int PyProof.Rows.boot_int (pa_cons (pe_op op_mulW (pe_op op_fdivW (pe_callTy call_int1 (by rfl) T.int PyProof.Rows.boot_int (pa_cons (pe_op op_sub (pv 2) (pv 0)) pa_nil)) (pv 4))
          (pe_def D5 (hr.mono (by decide)) pass0 (pa_cons (pe_op op_fdivW (pe_callTy call_int1 (by rfl) T.int PyProof.Rows.boot_int (pa_cons (pv 1) pa_nil)) (pv 4)) (pa_cons (pv 5) pa_nil)))) pa_nil)) (pv 5)) (pa_cons (pv 5) pa_nil)))))))))), ?_⟩
    refine ⟨_, rfl, a, rfl, pa, ka, fun ha => ?_⟩
    refine ⟨_, rfl, b, rfl, pb, kb ha, fun hb => ?_⟩
    refine ⟨_, rfl, _, rfl, r, p, rfl, pr, pp, kr ha hb, fun hr => kp ha hb hr, fun hr ⟨q, ep, hq⟩ => ?_⟩
    subst ep
    obtain ⟨A, rfl⟩ := isI_true ha
    obtain ⟨B, rfl⟩ := isI_true hb
    obtain ⟨R, rfl⟩ := isI_true hr
    obtain ⟨bA, bB, bR, bq, kn, kt⟩ := kq A B R q rfl rfl rfl rfl hq
    have hq0 : 0 < q := by omega
    have g0 := K07.gpos (b := B) hq0
    have gb := gcd_bd bB bq
    refine ⟨_, rfl, _, rfl, ?_⟩
    unfold tNil
    refine spG_ints ?_
    refine ⟨_, rfl, _, rfl, _, _, rfl, rfl, .inl ⟨_, rfl, _, rfl, _, _, rfl, rfl, g0, rfl, _, rfl, ?_⟩⟩
    by_cases hd : (Int.gcd B q : Int) ∣ R - A
    · have hz : (R - A) % (Int.gcd B q : Int) = 0 := Int.emod_eq_zero_of_dvd hd
      refine iteNS (by show V.int ((R - A) % (Int.gcd B q : Int)) = V.int 0; rw [hz]) ?_
      refine ⟨_, rfl, .inl ⟨_, rfl, _, rfl, _, _, rfl, rfl, wide_div g0 gb (by decide) (by decide), ?_⟩⟩
      refine ⟨_, rfl, _, rfl, _, _, rfl, rfl, .inl ⟨_, rfl, _, rfl, _, _, rfl, rfl, wide_div g0 gb (by decide) (by decide), ?_⟩⟩
      refine ⟨_, rfl, .inl ⟨_, rfl, _, rfl, _, _, rfl, rfl, wide_div g0 gb (by decide) (by decide), _, rfl, ?_⟩⟩
      have hq2 := K07.qpos (b := B) hq0
      have em : (((q / (Int.gcd B q : Int)).toNat : Nat) : Int) = q / (Int.gcd B q : Int) := Int.toNat_of_nonneg (by omega)
      have hle : (q / (Int.gcd B q : Int)).natAbs ≤ q.natAbs := natAbs_div_le q _ g0 (Int.gcd_dvd_right ..)
      have hqb : (q / (Int.gcd B q : Int)).natAbs < 2 ^ 190 := Nat.lt_of_le_of_lt hle bq
      refine ⟨B / (Int.gcd B q : Int), (q / (Int.gcd B q : Int)).toNat, ?_, by omega, ?_, ?_, ?_⟩
      · show [V.int (B / (Int.gcd B q : Int)), V.int (q / (Int.gcd B q : Int))] = _
        rw [em]
      · have : (q / (Int.gcd B q : Int)).toNat = (q / (Int.gcd B q : Int)).natAbs := by omega
        rw [this]
        exact Nat.lt_trans hqb (Nat.pow_lt_pow_right (by decide) (by decide))
      · rw [em]
        exact K07.qcop hq0
      · intro H' u sm u0 u1 hu
        rw [em] at u1
        unfold K07.InvOf at hu
        rw [em] at hu
        have b1 : ((R - A) / (Int.gcd B q : Int)).natAbs < 2 ^ 191 := Nat.lt_of_le_of_lt (natAbs_div_le _ _ g0 hd) (bR.sub bA)
        have b2 : u.natAbs < 2 ^ 190 := Nat.lt_of_le_of_lt (by omega) hqb
        refine ⟨_, _, rfl, rfl, wide_mul b1 b2 (by decide) (by decide) (by decide), ?_⟩
        refine .inl ⟨_, rfl, _, rfl, _, _, rfl, rfl, hq2, _, rfl, (by show 2 ≤ sizeLine; decide), fun t ht => ?_⟩
        exact kt hd _ t _ (sm.trans (Same.new ht)) (sm.free ht) upd_same (K07.told_of hq0 hd hu)
    · have hz : ¬ (R - A) % (Int.gcd B q : Int) = 0 := fun z => hd (Int.dvd_of_emod_eq_zero z)
      rw [show (!decide (V.int ((R - A) % (Int.gcd B q : Int)) = V.int 0)) = true by rw [decide_eq_false (fun z => hz (V.int.inj z))]; rfl]
      exact iteT (kn hd)
end
end K7
set_option Elab.async false
set_option linter.all false
set_option maxRecDepth 100000
set_option maxHeartbeats 2000000
namespace K7
open PySem PySem.Spec PyProof.Rows L2
def ge1 : V → Bool
  | .int q => decide (1 ≤ q)
  | _ => false
/-- what is handed in as a remainder, and whether it is one -/
inductive RemV (H : Hp) : V → Bool → Prop where
  | non : RemV H .non false
  | lst {a : Addr} {xs : List V} (e : H a = some (.lst xs)) : RemV H (.ref a) false
  | tup {a : Addr} {xs : List V} (e : H a = some (.tup xs)) (h : xs.length ≠ 2) : RemV H (.ref a) false
  | pair {a : Addr} {x y : V} (e : H a = some (.tup [x, y])) (px : Plain x) (py : Plain y) : RemV H (.ref a) (isI x && isI y && ge1 y)
theorem RemV.same {H H' : Hp} {v : V} {b : Bool} (h : RemV H v b) (s : Same H H') : RemV H' v b := by
  cases h with
  | non => exact .non
  | lst e => exact .lst (s _ _ e)
  | tup e h => exact .tup (s _ _ e) h
  | pair e px py => exact .pair (s _ _ e) px py
section
variable {P : Program} {w : World} {K : PySem.W.Frag} {mg : Str → Option Value} {base : Heap} {CN fN CP fP f : Addr} {fd : FuncData}
/-! ### is_remainder -/
def spIR : Sp := fun vs H Q _ => ∃ v b, vs = [v] ∧ RemV H v b ∧ ∀ H', Same H H' → Q (.bl b) H'
theorem scIR : FnScope ["value", "part"] ["value"] (defScope (top 14)) := ⟨rfl, rfl, rfl, by decide +kernel, rfl, by decide +kernel, by decide +kernel⟩
theorem fn_ir (F : Fun K "is_remainder" "is_remainder" (top 14) f fd) (T : Txt P K mg CN fN CP fP) (D1 : Def P w K mg base CX0 1 "is_integer" ["value"] spInt) : FnOk P w K mg base CX0 3 f fd ["value"] spIR := by
  refine F.ok scIR (fun vs H Q E h => ?_) (fun cdv A outer s H vs Q E hr h => ?_)
  · obtain ⟨v, b, rfl, _⟩ := h
    rfl
  · obtain ⟨v, b, rfl, hv, k⟩ := h
    have hr1 : Room 1 _ := hr.mono (by decide)
    refine ⟨_, pss_one (ps_ret (pe_and (pe_callB call_isi (by rfl) T.isinstance PyProof.Rows.boot_isinstance (pa_cons (pv 0) (pa_cons (pe_bltn (v := .ty "tuple") (by rfl) T.tuple PyProof.Rows.boot_tuple rfl) pa_nil)))
      (pe_and (pe_cmpR op_eq (pe_callB call_len_seq (by rfl) T.len PySem.boot_len (pa_cons (pv 0) pa_nil)) pe_int (nomark _))
      (pe_and (pe_callB (cr_all rfl) (by rfl) T.all PyProof.Rows.boot_all (pa_cons (pe_lc (own := [("part", 1)]) (g := gName 1) (tt := tYes) rfl scIR.nd (pi_tup (pv 0)) (blkOk_by (N := ["value", "part"]) (sc := defScope (top 14)) (by decide +kernel))
          (fun _ _ _ _ _ => pg_name (i := 1) scIR.nd rfl (Or.inl rfl)) (fun _ _ _ _ _ => pts_nil) (fun _ _ _ _ _ => pe_def D1 hr1 pass0 (pa_cons (pv 1) pa_nil))) pa_nil))
      (pe_one (pe_cmpR op_ge (pe_ix ix_tup (pv 0) pe_int (fun _ _ => rfl)) pe_int (nomark _))))))), ?_⟩
    cases hv with
    | non => exact ⟨_, rfl, _, _, _, _, _, rfl, .ty "tuple", .base .non, kit_ty (r := false) (by decide +kernel), _, rfl, iteF (k _ (Same.refl _))⟩
    | lst e => exact ⟨_, rfl, _, _, _, _, _, rfl, .ty "tuple", .base (.lst e), kit_ty (r := false) (by decide +kernel), _, rfl, iteF (k _ (Same.refl _))⟩
    | @tup a xs e h =>
      refine ⟨_, rfl, _, _, _, _, _, rfl, .ty "tuple", .base (.tup e), kit_ty (r := true) (by decide +kernel), _, rfl, iteT ?_⟩
      refine ⟨_, rfl, a, _, rfl, .inr (SqT.of e), rfl, _, rfl, ?_⟩
      rw [decide_eq_false (fun z => h (by have := V.int.inj z; omega))]
      exact iteF (k _ (Same.refl _))
    | @pair a x y e px py =>
      refine ⟨_, rfl, _, _, _, _, _, rfl, .ty "tuple", .base (.tup e), kit_ty (r := true) (by decide +kernel), _, rfl, iteT ?_⟩
      refine ⟨_, rfl, a, _, rfl, .inr (SqT.of e), rfl, _, rfl, iteT ?_⟩
      refine ⟨_, rfl, a, rfl, ⟨_, SqT.of e⟩, fun D hD => ?_⟩
      refine lc_tup (K := K) (a := a) (xs := [x, y]) (fun i H' => H' D = some (.lst (([x, y].take i).map fun v => .bl (isI v))) ∧ Same H H') ⟨upd_same, Same.new hD⟩ (fun i H' _ ⟨_, sm⟩ => SqT.of (sm _ _ e)) ?_ ?_
      · rintro i u H' hi ⟨hd, sm⟩
        have pu : Plain u := by
          match i, hi with
          | 0, hi => obtain rfl : x = u := Option.some.inj hi; exact px
          | 1, hi => obtain rfl : y = u := Option.some.inj hi; exact py
          | i + 2, hi => simp at hi
        refine ⟨rfl, ?_⟩
        unfold tYes
        refine iteT ⟨_, rfl, u, rfl, pu, _, hd, small1000 (by rw [List.length_map, List.length_take]; show min i 2 ≤ 1000; omega), ?_, fun b o z => ?_⟩
        · rw [upd_same, List.take_succ, hi, List.map_append]
          rfl
        · rw [upd_ne (ne_of_none z hD)]
          exact sm b o z
      · rintro H' ⟨hd, sm⟩
        refine ⟨D, [isI x, isI y], rfl, SqL.of hd, ?_⟩
        cases ex : isI x with
        | false =>
          rw [ex] at k
          exact ⟨false, rfl, iteF (k _ sm)⟩
        | true =>
          cases ey : isI y with
          | false =>
            rw [ex, ey] at k
            exact ⟨false, rfl, iteF (k _ sm)⟩
          | true =>
            rw [ex, ey] at k
            obtain ⟨q, rfl⟩ := isI_true ey
            exact ⟨true, rfl, iteT ⟨_, rfl, a, _, _, _, rfl, rfl, SqT.of (sm _ _ e), atI_nat (j := 1) rfl, _, _, rfl, rfl, k _ sm⟩⟩
/-! ### both_remainders -/
/-- what both_remainders answers of two remainders -/
def BR (r p s q : Int) (H : Hp) (Q : VK) : Prop := Bd r ∧ Bd p ∧ Bd s ∧ Bd q ∧ (¬ (Int.gcd p q : Int) ∣ s - r → ∀ H', Same H H' → Q .non H') ∧
  ((Int.gcd p q : Int) ∣ s - r → ∀ H' t z m, Same H H' → H t = none → H' t = some (.tup [.int z, .int m]) → m = p * (q / (Int.gcd p q : Int)) → 0 ≤ z → z < m → p ∣ z - r → q ∣ z - s → Q (.ref t) H')
def spBR (CP : Addr) : Sp := fun vs H Q E => ∃ v u bv bu, vs = [v, u] ∧ RemV H v bv ∧ RemV H u bu ∧ (bv = false ∨ bu = false → Bad CP "part" (.str "remainder") H E) ∧
  (bv = true → bu = true → ∃ a c r p s q, v = .ref a ∧ H a = some (.tup [.int r, .int p]) ∧ u = .ref c ∧ H c = some (.tup [.int s, .int q]) ∧ 1 ≤ p ∧ 1 ≤ q ∧ BR r p s q H Q)
theorem scBR : FnScope ["one", "other", "found", "modulus"] ["one", "other"] (defScope (top 15)) := ⟨rfl, rfl, rfl, by decide +kernel, rfl, by decide +kernel, by decide +kernel⟩
theorem fn_br (F : Fun K "both_remainders" "both_remainders" (top 15) f fd) (T : Txt P K mg CN fN CP fP) (D6 : Def P w K mg base CX0 3 "is_remainder" ["value"] spIR) (D7 : Def P w K mg base (L2.CX P w) 7 "remainder_of" ["a", "b", "r", "p"] (spRO CN)) :
    FnOk P w K mg base (L2.CX P w) 9 f fd ["one", "other"] (spBR CP) := by
  refine F.okX scBR (fun vs H Q E h => ?_) (fun cdv A outer s H vs Q E hr h => ?_)
  · obtain ⟨v, u, bv, bu, rfl, _⟩ := h
    rfl
  · obtain ⟨v, u, bv, bu, rfl, hv, hu, kb, kq⟩ := h
    refine ⟨_, pss_cons (ps_if (PW.pt (pw_or (pt_not (pt_val (pe_def D6 (hr.mono (by decide)) pass0 (pa_cons (pv 0) pa_nil)))) (pw_or1 (pt_not (pt_val (pe_def D6 (hr.mono (by decide)) pass0 (pa_cons (pv 1) pa_nil)))))))
        (pss_one (EXP.ps_raise' rfl T.p hr (takes_of rfl rfl rfl rfl) (pa_cons pe_str pa_nil))) pss_nil)
      (pss_cons (ps_set (i := 2) scBR.nd rfl (Or.inl rfl) (pe_def D7 (hr.mono (by decide)) (passes_call (E := E0) (takes_of rfl rfl rfl rfl) (fun _ _ _ _ z => z.elim))
        (pa_cons (pe_ix ix_tup (pv 0) pe_int (fun _ _ => rfl)) (pa_cons (pe_ix ix_tup (pv 0) pe_int (fun _ _ => rfl)) (pa_cons (pe_ix ix_tup (pv 1) pe_int (fun _ _ => rfl)) (pa_cons (pe_ix ix_tup (pv 1) pe_int (fun _ _ => rfl)) pa_nil))))))
      (pss_cons (ps_if (pt_cmp (pc_isN (pv 2))) (pss_one (ps_ret pe_non)) pss_nil)
      (pss_cons (ps_set (i := 3) scBR.nd rfl (Or.inl rfl) (pe_op op_mulW (pe_ix ix_tup (pv 0) pe_int (fun _ _ => rfl)) (pe_ix ix_tup (pv 2) pe_int (fun _ _ => rfl))))
      (pss_one (ps_ret (pe_tup (pa_cons (pe_op op_mod (pe_callTy call_int1 (by rfl) T.int PyProof.Rows.boot_int (pa_cons (pe_op op_add (pe_ix ix_tup (pv 0) pe_int (fun _ _ => rfl)) (pe_op op_mulW (pe_ix ix_tup (pv 0) pe_int (fun _ _ => rfl)) (pe_ix ix_tup (pv 2) pe_int (fun _ _ => rfl)))) pa_nil)) (pv 3)) (pa_cons (pv 3) pa_nil)))))))), ?_⟩
    refine ⟨_, rfl, v, bv, rfl, hv, fun H1 s1 => ⟨_, rfl, ?_⟩⟩
    cases ebv : bv with
    | false => exact iteT (iteT ⟨_, rfl, fun d hd => kb (.inl ebv) H1 d s1 hd⟩)
    | true =>
      refine iteF ⟨_, rfl, u, bu, rfl, hu.same s1, fun H2 s2' => ⟨_, rfl, ?_⟩⟩
      have s2 := s1.trans s2'
      cases ebu : bu with
      | false => exact iteT ⟨_, rfl, fun d hd => kb (.inr ebu) H2 d s2 hd⟩
      | true =>
        refine iteF ?_
        obtain ⟨a, c, r, p, s, q, rfl, ha, rfl, hc, hp, hq, br, bp, bs, bq, kn, kt⟩ := kq ebv ebu
        have ta := SqT.of (K := K) (s2 _ _ ha)
        have tc := SqT.of (K := K) (s2 _ _ hc)
        refine ⟨_, rfl, a, _, _, _, rfl, rfl, ta, atI_nat (j := 0) rfl, ?_⟩
        refine ⟨_, rfl, a, _, _, _, rfl, rfl, ta, atI_nat (j := 1) rfl, ?_⟩
        refine ⟨_, rfl, c, _, _, _, rfl, rfl, tc, atI_nat (j := 0) rfl, ?_⟩
        refine ⟨_, rfl, c, _, _, _, rfl, rfl, tc, atI_nat (j := 1) rfl, ?_⟩
        unfold tNil
        refine spRO_ints hq ⟨br, bp, bs, bq, fun hd => ?_, fun hd H3 t i s3' nt ht told => ?_⟩
        · exact ⟨_, rfl, _, rfl, iteT (kn hd _ s2)⟩
        · have s3 := s2.trans s3'
          have ta3 := SqT.of (K := K) (s3 _ _ ha)
          have tt3 := SqT.of (K := K) ht
          have hp0 : 0 < p := by omega
          have hq0 : 0 < q := by omega
          have g0 := K07.gpos (b := p) hq0
          have hqb : (q / (Int.gcd p q : Int)).natAbs < 2 ^ 190 := Nat.lt_of_le_of_lt (natAbs_div_le q _ g0 (Int.gcd_dvd_right ..)) bq
          have hib : i.natAbs < 2 ^ 190 := Nat.lt_of_le_of_lt (by have := told.lo; have := told.hi; omega) hqb
          refine ⟨_, rfl, _, rfl, iteF ?_⟩
          refine ⟨_, rfl, a, _, _, _, rfl, rfl, ta3, atI_nat (j := 1) rfl, _, rfl, t, _, _, _, rfl, rfl, tt3, atI_nat (j := 1) rfl, _, _, rfl, rfl, wide_mul bp hqb (by decide) (by decide) (by decide), ?_⟩
          refine ⟨_, rfl, a, _, _, _, rfl, rfl, ta3, atI_nat (j := 0) rfl, _, rfl, a, _, _, _, rfl, rfl, ta3, atI_nat (j := 1) rfl, _, rfl, t, _, _, _, rfl, rfl, tt3, atI_nat (j := 0) rfl, _, _, rfl, rfl, wide_mul bp hib (by decide) (by decide) (by decide), ?_⟩
          have hm0 : 0 < p * (q / (Int.gcd p q : Int)) := Int.mul_pos hp0 (K07.qpos hq0)
          refine ⟨_, _, rfl, rfl, .inl ⟨_, rfl, _, rfl, _, _, rfl, rfl, hm0, ?_⟩⟩
          refine ⟨_, rfl, (by show 2 ≤ sizeLine; decide), fun t2 ht2 => ?_⟩
          obtain ⟨z0, z1, z2, z3⟩ := K07.both_of (i := i) hp0 hq0 rfl told.at_
          exact kt hd _ t2 _ _ (s3.trans (Same.new ht2)) (s3.free ht2) upd_same rfl z0 z1 z2 z3
end
end K7
set_option Elab.async false
set_option linter.all false
set_option maxRecDepth 100000
set_option maxHeartbeats 2000000
namespace K7
open PySem PySem.Spec PyProof.Rows L2
/-- the law's state: at S a list of the cells' list at C and of the counter -/
structure StAt (H : Hp) (S C : Addr) (ns : List Int) (k : Int) : Prop where
  ne : S ≠ C
  st : H S = some (.lst [.ref C, .int k])
  ce : H C = some (.lst (ns.map V.int))
  few : ns.length ≤ 63
/-- all but S, C is as it was -/
def But (S C : Addr) (H H' : Hp) : Prop := ∀ b, b ≠ S → b ≠ C → H' b = H b
theorem But.refl (S C : Addr) (H : Hp) : But S C H H := fun _ _ _ => rfl
theorem But.trans {S C : Addr} {H H1 H2 : Hp} (a : But S C H H1) (b : But S C H1 H2) : But S C H H2 := fun x h1 h2 => (b x h1 h2).trans (a x h1 h2)
theorem StAt.same {H H' : Hp} {S C : Addr} {ns : List Int} {k : Int} (h : StAt H S C ns k) (s : Same H H') : StAt H' S C ns k := ⟨h.ne, s _ _ h.st, s _ _ h.ce, h.few⟩
/-- a tuple (a table) is kept -/
theorem StAt.other {H H' : Hp} {S C a : Addr} {ns : List Int} {k : Int} {o : HO} (h : StAt H S C ns k) (b : But S C H H') (e : H a = some o) (no : ∀ xs, o ≠ .lst xs) : H' a = some o := by
  rw [b a (fun z => by rw [z, h.st] at e; exact no _ (Option.some.inj e).symm) (fun z => by rw [z, h.ce] at e; exact no _ (Option.some.inj e).symm)]
  exact e
theorem ixN_of {n j : Nat} {i : Int} (e : i = (j : Int)) (h : j < n) : ixN n i = some j := by
  unfold ixN
  rw [e, if_pos (by omega), if_pos (by omega)]
  simp
section
variable {P : Program} {w : World} {K : PySem.W.Frag} {mg : Str → Option Value} {base : Heap} {CN fN CP fP f : Addr} {fd : FuncData}
/-! ### _law_draw -/
def spDraw : Sp := fun vs H Q _ => ∃ (S C : Addr) (ns : List Int) (k l : Int), vs = [.ref S, .int l] ∧ StAt H S C ns k ∧ 0 < l ∧ l < 1073741824 ∧ ∀ H' ns' k' r, StAt H' S C ns' k' → But S C H H' → 0 ≤ r → r < l → Q (.int r) H'
theorem scDraw : FnScope ["_law_state", "_law_limit", "_law_cells", "_law_at", "_law_cell", "_law_mixed"] ["_law_state", "_law_limit"] (defScope (top 17)) := ⟨rfl, rfl, rfl, by decide +kernel, rfl, by decide +kernel, by decide +kernel⟩
theorem fn_draw (F : Fun K "_law_draw" "_law_draw" (top 17) f fd) (T : Txt P K mg CN fN CP fP) : FnOk P w K mg base CX0 1 f fd ["_law_state", "_law_limit"] spDraw := by
  refine F.ok scDraw (fun vs H Q E h => ?_) (fun cdv A outer s H vs Q E hr h => ?_)
  · obtain ⟨S, C, ns, k, l, rfl, _⟩ := h
    rfl
  · obtain ⟨S, C, ns, k, l, rfl, hst, l0, l1, kk⟩ := h
    refine ⟨_, pss_cons (ps_set (i := 2) scDraw.nd rfl (Or.inl rfl) (pe_ix ix_list (pv 0) pe_int (fun _ _ => rfl)))
      (pss_cons (ps_if (pt_not (pt_truth (pv 2) (by intro _; rfl))) (pss_one (ps_ret pe_int)) pss_nil)
      (pss_cons (ps_set (i := 3) scDraw.nd rfl (Or.inl rfl) (pe_op op_mod (pe_callTy call_int1 (by rfl) T.int PyProof.Rows.boot_int (pa_cons (pe_ix ix_list (pv 0) pe_int (fun _ _ => rfl)) pa_nil)) (pe_callB call_len_seq (by rfl) T.len PySem.boot_len (pa_cons (pv 2) pa_nil))))
      (pss_cons (ps_set (i := 4) scDraw.nd rfl (Or.inl rfl) (pe_ix ix_list (pv 2) (pv 3) (fun _ _ => rfl)))
      (pss_cons (ps_asg (pe_op op_add (pe_ix ix_list (pv 0) pe_int (fun _ _ => rfl)) pe_int) (pg_sub (pv 0) pe_int set_list))
      (pss_cons (ps_if (pt_cmpR op_ge (pv 4) (pe_op op_pow pe_int pe_int) (nomark _))
        (pss_cons (ps_asg (pe_op op_fdiv (pv 4) (pv 1)) (pg_sub (pv 2) (pv 3) set_list))
        (pss_one (ps_ret (pe_op op_mod (pe_callTy call_int1 (by rfl) T.int PyProof.Rows.boot_int (pa_cons (pv 4) pa_nil)) (pv 1))))) pss_nil)
      (pss_cons (ps_set (i := 5) scDraw.nd rfl (Or.inl rfl) (pe_op op_mod (pe_callTy call_int1 (by rfl) T.int PyProof.Rows.boot_int (pa_cons (pe_op op_add (pe_op op_add (pe_op op_mul (pv 4) pe_int) (pe_op op_mul (pe_ix ix_list (pv 0) pe_int (fun _ _ => rfl)) pe_int)) pe_int) pa_nil)) pe_int))
      (pss_one (ps_ret (pe_op op_mod (pe_op op_mod (pe_callTy call_int1 (by rfl) T.int PyProof.Rows.boot_int (pa_cons (pe_op op_add (pe_op op_mul (pv 5) pe_int) (pe_op op_mul (pe_ix ix_list (pv 0) pe_int (fun _ _ => rfl)) pe_int)) pa_nil)) pe_int) (pv 1)))))))))), ?_⟩
    refine ⟨_, rfl, S, _, _, _, rfl, rfl, SqL.of hst.st, atI_nat (j := 0) rfl, ?_⟩
    refine ⟨_, rfl, _, .inl ⟨_, SqL.of hst.ce, rfl⟩, ?_⟩
    cases ns with
    | nil => exact iteT (kk H [] k 0 hst (But.refl _ _ _) (Int.le_refl _) l0)
    | cons n0 nr =>
      refine iteF ?_
      generalize hns : n0 :: nr = ns at *
      have hlen : 0 < ns.length := by rw [← hns]; exact Nat.succ_pos _
      have hlen' : (0 : Int) < (ns.length : Int) := by omega
      refine ⟨_, rfl, S, _, _, _, rfl, rfl, SqL.of hst.st, atI_nat (j := 1) rfl, .inl ⟨_, rfl, _, rfl, C, _, rfl, .inl (SqL.of hst.ce), _, _, rfl, rfl, (by rw [List.length_map]; exact hlen'), ?_⟩⟩
      rw [List.length_map]
      -- the place
      have h0 : 0 ≤ k % (ns.length : Int) := Int.emod_nonneg k (by omega)
      have h1 : k % (ns.length : Int) < (ns.length : Int) := Int.emod_lt_of_pos k hlen'
      obtain ⟨j, hj⟩ : ∃ j : Nat, k % (ns.length : Int) = (j : Int) := ⟨(k % (ns.length : Int)).toNat, (Int.toNat_of_nonneg h0).symm⟩
      have hjl : j < ns.length := by omega
      have hc : (ns.map V.int)[j]? = some (.int ns[j]) := by rw [List.getElem?_map, List.getElem?_eq_getElem hjl]; rfl
      generalize ns[j] = c at hc
      refine ⟨_, rfl, _, rfl, C, _, _, _, rfl, rfl, SqL.of hst.ce, at_of hj hc, ?_⟩
      refine ⟨_, rfl, S, _, _, _, rfl, rfl, SqL.of hst.st, atI_nat (j := 1) rfl, _, _, rfl, rfl, _, rfl, S, _, _, 1, rfl, rfl, hst.st, rfl, ?_⟩
      have e1 : upd H S (.lst [.ref C, .int (k + 1)]) S = some (.lst [.ref C, .int (k + 1)]) := upd_same
      have e2 : upd H S (.lst [.ref C, .int (k + 1)]) C = some (.lst (ns.map V.int)) := by rw [upd_ne hst.ne.symm]; exact hst.ce
      have b1 : But S C H (upd H S (.lst [.ref C, .int (k + 1)])) := fun b z _ => upd_ne z
      show tSeq _ _ _ _ (upd H S (.lst [.ref C, .int (k + 1)]))
      generalize upd H S (.lst [.ref C, .int (k + 1)]) = H1 at *
      refine ⟨_, rfl, _, _, rfl, rfl, ⟨by decide, by decide, by decide⟩, _, _, rfl, rfl, _, rfl, ?_⟩
      refine ite2 (fun _ => ?_) (fun _ => ?_)
      · refine ⟨_, rfl, _, rfl, _, _, rfl, rfl, ⟨l0, l1⟩, _, rfl, _, rfl, C, _, _, j, rfl, rfl, e2, ixN_of hj (by rw [List.length_map]; exact hjl), ?_⟩
        refine ⟨_, rfl, .inl ⟨_, rfl, _, rfl, _, _, rfl, rfl, l0, ?_⟩⟩
        refine kk _ (ns.set j (c / l)) (k + 1) _ ⟨hst.ne, ?_, ?_, ?_⟩ (fun b h1 h2 => ?_) (Int.emod_nonneg _ (by omega)) (Int.emod_lt_of_pos _ l0)
        · rw [upd_ne hst.ne]; exact e1
        · rw [upd_same, List.map_set]
        · rw [List.length_set]; exact hst.few
        · rw [upd_ne h2]; exact b1 b h1 h2
      · refine ⟨_, rfl, _, _, rfl, rfl, .inr ⟨by decide, by decide⟩, _, rfl, S, _, _, _, rfl, rfl, SqL.of e1, atI_nat (j := 1) rfl, _, _, rfl, rfl, .inr ⟨by decide, by decide⟩, _, _, rfl, rfl, _, _, rfl, rfl, .inl ⟨_, rfl, _, _, rfl, rfl, (by show (0 : Int) < 2147483647; decide), ?_⟩⟩
        refine ⟨_, rfl, _, _, rfl, rfl, .inr ⟨by decide, by decide⟩, _, rfl, S, _, _, _, rfl, rfl, SqL.of e1, atI_nat (j := 1) rfl, _, _, rfl, rfl, .inr ⟨by decide, by decide⟩, _, _, rfl, rfl, .inl ⟨_, rfl, _, _, rfl, rfl, (by show (0 : Int) < 2147483629; decide), _, rfl, _, _, rfl, rfl, l0, ?_⟩⟩
        exact kk _ ns (k + 1) _ ⟨hst.ne, e1, e2, hst.few⟩ b1 (Int.emod_nonneg _ (by omega)) (Int.emod_lt_of_pos _ l0)
end
end K7
set_option Elab.async false
set_option linter.all false
set_option maxRecDepth 100000
set_option maxHeartbeats 2000000
namespace K7
open PySem PySem.Spec PyProof.Rows L2
section
variable {P : Program} {w : World} {K : PySem.W.Frag} {mg : Str → Option Value} {base : Heap} {CN fN CP fP f : Addr} {fd : FuncData}
/-! ### _law_number -/
def spNum : Sp := fun vs H Q _ => ∃ (S C : Addr) (ns : List Int) (k m : Int), vs = [.ref S, .int m] ∧ StAt H S C ns k ∧ 0 ≤ m ∧ m ≤ 1000 ∧ ∀ H' ns' k' n, StAt H' S C ns' k' → But S C H H' → n.natAbs < 2 ^ 98 → Q (.int n) H'
theorem scNum : FnScope ["_law_state", "_law_most", "_law_number_here", "_law_turn"] ["_law_state", "_law_most"] (defScope (top 18)) := ⟨rfl, rfl, rfl, by decide +kernel, rfl, by decide +kernel, by decide +kernel⟩
theorem num_step {h r z : Int} {i : Nat} (h0 : 0 ≤ h) (h1 : h < 2 ^ (24 * i)) (r0 : 0 ≤ r) (r1 : r < z) (hz : z = 16777216) : 0 ≤ h * z + r ∧ h * z + r < 2 ^ (24 * (i + 1)) := by
  subst hz
  have e : (2 : Int) ^ (24 * (i + 1)) = 2 ^ (24 * i) * 16777216 := by
    rw [show 24 * (i + 1) = 24 * i + 24 by omega, Int.pow_add]
    congr 1
  rw [e]
  generalize (2 : Int) ^ (24 * i) = p at *
  omega
theorem num_end {h r : Int} (h0 : 0 ≤ h) (h1 : h < 2 ^ (24 * 4)) (r0 : 0 ≤ r) (r1 : r < 2) : ((h + 10 ^ 29) * (1 - 2 * r)).natAbs < 2 ^ 98 := by
  have e : (2 : Int) ^ (24 * 4) = 79228162514264337593543950336 := by decide
  have e2 : (10 : Int) ^ 29 = 100000000000000000000000000000 := by decide
  have e3 : (2 : Nat) ^ 98 = 316912650057057350374175801344 := by decide
  rw [e] at h1
  rw [e2, e3]
  have hr : r = 0 ∨ r = 1 := by omega
  rcases hr with rfl | rfl <;> omega
theorem fn_num (F : Fun K "_law_number" "_law_number" (top 18) f fd) (T : Txt P K mg CN fN CP fP) (DD : Def P w K mg base CX0 1 "_law_draw" ["_law_state", "_law_limit"] spDraw) : FnOk P w K mg base CX0 3 f fd ["_law_state", "_law_most"] spNum := by
  refine F.ok scNum (fun vs H Q E h => ?_) (fun cdv A outer s H vs Q E hr h => ?_)
  · obtain ⟨S, C, ns, k, m, rfl, _⟩ := h
    rfl
  · obtain ⟨S, C, ns, k, m, rfl, hst, m0, m1, kk⟩ := h
    have hr1 : Room 1 _ := hr.mono (by decide)
    refine ⟨_, pss_cons (ps_if (pt_cmpR op_lt (pe_def DD hr1 pass0 (pa_cons (pv 0) (pa_cons pe_int pa_nil))) pe_int (nomark _))
        (pss_one (ps_ret (pe_op op_sub (pe_def DD hr1 pass0 (pa_cons (pv 0) (pa_cons (pe_op op_add (pe_op op_mul pe_int (pv 1)) pe_int) pa_nil))) (pv 1)))) pss_nil)
      (pss_cons (ps_set (i := 2) scNum.nd rfl (Or.inl rfl) pe_int)
      (pss_cons (ps_for PassesOwn.never rfl (pi_range1 rfl T.range (pa_cons pe_int pa_nil)) (pg_name (i := 3) scNum.nd rfl (Or.inl rfl))
        (pss_one (ps_set (i := 2) scNum.nd rfl (Or.inl rfl) (pe_op op_add (pe_op op_mul (pv 2) (pe_op op_pow pe_int pe_int)) (pe_def DD hr1 pass0 (pa_cons (pv 0) (pa_cons (pe_op op_pow pe_int pe_int) pa_nil)))))))
      (pss_one (ps_ret (pe_op op_mul (pe_op op_add (pv 2) (pe_op op_pow pe_int pe_int)) (pe_op op_sub pe_int (pe_op op_mul pe_int (pe_def DD hr1 pass0 (pa_cons (pv 0) (pa_cons pe_int pa_nil)))))))))), ?_⟩
    refine ⟨_, rfl, S, C, ns, k, 5, rfl, hst, by decide, by decide, fun H1 ns1 k1 r1 st1 b1 _ _ => ?_⟩
    refine ⟨_, _, rfl, rfl, _, rfl, ?_⟩
    refine ite2 (fun _ => ?_) (fun _ => ?_)
    · refine ⟨_, rfl, _, rfl, _, _, rfl, rfl, .inl ⟨by decide, by decide⟩, _, _, rfl, rfl, ?_⟩
      refine ⟨S, C, ns1, k1, 2 * m + 1, rfl, st1, by omega, by omega, fun H2 ns2 k2 r2 st2 b2 r20 r21 => ?_⟩
      refine ⟨_, rfl, _, _, rfl, rfl, kk _ ns2 k2 _ st2 (b1.trans b2) ?_⟩
      show (r2 - m).natAbs < 2 ^ 98
      have e3 : (2 : Nat) ^ 98 = 316912650057057350374175801344 := by decide
      omega
    · refine ⟨4, rfl, by decide, by decide, for_range (n := 4) (fun i σ H' => ∃ (v : Option V) (ns' : List Int) (k' h : Int), σ = [some (.ref S), some (.int m), some (.int h), v] ∧ StAt H' S C ns' k' ∧ But S C H H' ∧ 0 ≤ h ∧ h < 2 ^ (24 * i))
        ⟨none, ns1, k1, 0, rfl, st1, b1, Int.le_refl _, by decide⟩ ?_ ?_⟩
      · rintro i σ H' hi ⟨v, ns', k', h, rfl, st', b', h0, h1⟩
        refine ⟨_, rfl, _, _, rfl, rfl, ⟨by decide, by decide, by decide⟩, _, _, rfl, rfl, .inr ⟨by decide, by decide⟩, ?_⟩
        refine ⟨_, rfl, _, _, rfl, rfl, ⟨by decide, by decide, by decide⟩, ?_⟩
        refine ⟨S, C, ns', k', _, rfl, st', by decide, by decide, fun H2 ns2 k2 r2 st2 b2 r20 r21 => ?_⟩
        obtain ⟨p0, p1⟩ := num_step h0 h1 r20 r21 (by decide)
        exact ⟨_, _, rfl, rfl, _, ns2, k2, _, rfl, st2, b'.trans b2, p0, p1⟩
      · rintro σ H' ⟨v, ns', k', h, rfl, st', b', h0, h1⟩
        refine ⟨_, rfl, _, _, rfl, rfl, ⟨by decide, by decide, by decide⟩, _, _, rfl, rfl, _, rfl, ?_⟩
        refine ⟨S, C, ns', k', 2, rfl, st', by decide, by decide, fun H2 ns2 k2 r2 st2 b2 r20 r21 => ?_⟩
        refine ⟨_, _, rfl, rfl, .inl ⟨by decide, by decide⟩, _, _, rfl, rfl, _, _, rfl, rfl, .inr ⟨?_, ?_⟩, kk _ ns2 k2 _ st2 (b'.trans b2) (num_end h0 h1 r20 r21)⟩
        · show -(2 ^ 64 : Int) < 1 - 2 * r2
          have : (2 : Int) ^ 64 = 18446744073709551616 := by decide
          omega
        · show 1 - 2 * r2 < (2 ^ 64 : Int)
          have : (2 : Int) ^ 64 = 18446744073709551616 := by decide
          omega
/-! ### _law_divisor -/
def spDiv : Sp := fun vs H Q _ => ∃ (a b : Int), vs = [.int a, .int b] ∧ Bd a ∧ Bd b ∧ Q (.int (Int.gcd a b)) H
theorem scDiv : FnScope ["_law_one", "_law_other", "_law_turn"] ["_law_one", "_law_other"] (defScope (top 19)) := ⟨rfl, rfl, rfl, by decide +kernel, rfl, by decide +kernel, by decide +kernel⟩
theorem fn_div (F : Fun K "_law_divisor" "_law_divisor" (top 19) f fd) (T : Txt P K mg CN fN CP fP) : FnOk P w K mg base CX0 1 f fd ["_law_one", "_law_other"] spDiv := by
  refine F.ok scDiv (fun vs H Q E h => ?_) (fun cdv A outer s H vs Q E hr h => ?_)
  · obtain ⟨a, b, rfl, _⟩ := h
    rfl
  · obtain ⟨a, b, rfl, ba, bb, kq⟩ := h
    refine ⟨_, pss_cons (ps_par (i := 0) (j := 1) rfl scDiv.nd rfl rfl (by decide) rfl rfl (pa_cons (pe_callB call_abs (by rfl) T.abs PyProof.Rows.boot_abs (pa_cons (pv 0) pa_nil)) (pa_cons (pe_callB call_abs (by rfl) T.abs PyProof.Rows.boot_abs (pa_cons (pv 1) pa_nil)) pa_nil)) (by rfl))
      (pss_cons (ps_for PassesOwn.never rfl (pi_range1 rfl T.range (pa_cons pe_int pa_nil)) (pg_name (i := 2) scDiv.nd rfl (Or.inl rfl))
        (pss_cons (ps_if (pt_cmpR op_eq (pv 1) pe_int (nomark _)) (pss_one ps_break) pss_nil)
        (pss_one (ps_par (i := 0) (j := 1) rfl scDiv.nd rfl rfl (by decide) rfl rfl (pa_cons (pv 1) (pa_cons (pe_op op_mod (pe_callTy call_int1 (by rfl) T.int PyProof.Rows.boot_int (pa_cons (pv 0) pa_nil)) (pv 1)) pa_nil)) (by rfl)))))
      (pss_one (ps_ret (pv 0)))), ?_⟩
    refine ⟨_, rfl, a, rfl, _, rfl, b, rfl, _, _, rfl, ?_⟩
    rw [abs_if, abs_if]
    have fin : ∀ (m : Nat) (v : V), m = Nat.gcd a.natAbs b.natAbs → Q (.int (m : Int)) H := fun m _ e => by
      have := kq
      rw [Int.gcd, ← e] at this
      exact this
    refine ⟨400, rfl, by decide, by decide, for_range (n := 400) (fun i σ H' => ∃ (m n : Nat) (v : Option V), σ = [some (.int (m : Int)), some (.int (n : Int)), v] ∧ H' = H ∧ K07.Eu a.natAbs b.natAbs i m n)
      ⟨_, _, none, rfl, rfl, K07.Eu.start _ _⟩ ?_ ?_⟩
    · rintro i σ H' hi ⟨m, n, v, rfl, rfl, e⟩
      refine ⟨_, rfl, rfl, _, rfl, ?_⟩
      by_cases hn : n = 0
      · subst hn
        exact iteT ⟨_, rfl, fin m .non e.done⟩
      · rw [show decide (V.int (n : Int) = V.int 0) = false from decide_eq_false (fun z => hn (by have := V.int.inj z; omega))]
        refine iteF ⟨_, rfl, _, rfl, .inl ⟨_, rfl, _, rfl, _, _, rfl, rfl, (by show (0 : Int) < n; omega), _, _, rfl, ?_⟩⟩
        refine ⟨n, m % n, some (.int (0 + (i : Int))), ?_, rfl, e.turn hn⟩
        show [some (V.int (n : Int)), some (V.int ((m : Int) % (n : Int))), some (V.int (0 + (i : Int)))] = _
        rw [K07.cast_mod]
    · rintro σ H' ⟨m, n, v, rfl, rfl, e⟩
      have hn := e.end ba bb
      subst hn
      exact ⟨_, rfl, fin m .non e.done⟩
end
end K7
set_option Elab.async false
set_option linter.all false
set_option maxRecDepth 100000
set_option maxHeartbeats 2000000
namespace K7
open PySem PySem.Spec PyProof.Rows L2
theorem iteDT {c : Prop} [Decidable c] {A B : Prop} (hc : c) (h : A) : if decide c = true then A else B := by
  rw [decide_eq_true hc]
  exact iteT h
theorem same_bl {x y : Int} (h : x = 0 ↔ y = 0) : V.bl (decide (V.int x = V.int 0)) = V.bl (decide (V.int y = V.int 0)) := by
  congr 1
  by_cases hx : x = 0
  · rw [hx, h.mp hx]
  · rw [decide_eq_false (fun z => hx (V.int.inj z)), decide_eq_false (fun z => hx (h.mpr (V.int.inj z)))]
section
variable {P : Program} {w : World} {K : PySem.W.Frag} {mg : Str → Option Value} {base : Heap} {CN fN CP fP f : Addr} {fd : FuncData}
/-! ### _law_line_right -/
def spLine : Sp := fun vs H Q _ => ∃ (a b r p : Int), vs = [.int a, .int b, .int r, .int p] ∧ Bd a ∧ Bd b ∧ Bd r ∧ Bd p ∧ 1 ≤ p ∧ ∀ H', Same H H' → Q (.bl true) H'
theorem scLine : FnScope ["_law_a", "_law_b", "_law_r", "_law_p", "_law_told", "_law_divisor_here", "_law_i"] ["_law_a", "_law_b", "_law_r", "_law_p"] (defScope (top 20)) := ⟨rfl, rfl, rfl, by decide +kernel, rfl, by decide +kernel, by decide +kernel⟩
theorem fn_line (F : Fun K "_law_line_right" "_law_line_right" (top 20) f fd) (T : Txt P K mg CN fN CP fP) (DR : Def P w K mg base (L2.CX P w) 7 "remainder_of" ["a", "b", "r", "p"] (spRO CN))
    (DV : Def P w K mg base CX0 1 "_law_divisor" ["_law_one", "_law_other"] spDiv) : FnOk P w K mg base CX0 9 f fd ["_law_a", "_law_b", "_law_r", "_law_p"] spLine := by
  refine F.ok scLine (fun vs H Q E h => ?_) (fun cdv A outer s H vs Q E hr h => ?_)
  · obtain ⟨a, b, r, p, rfl, _⟩ := h
    rfl
  · obtain ⟨a, b, r, p, rfl, ba, bb, br, bp, p1, kk⟩ := h
    have hr1 : Room 7 _ := hr.mono (by decide)
    refine ⟨_, pss_cons (ps_set (i := 4) scLine.nd rfl (Or.inl rfl) (pe_def DR hr1 passL (pa_cons (pv 0) (pa_cons (pv 1) (pa_cons (pv 2) (pa_cons (pv 3) pa_nil))))))
      (pss_cons (ps_set (i := 5) scLine.nd rfl (Or.inl rfl) (pe_def DV (hr.mono (by decide)) pass0 (pa_cons (pv 1) (pa_cons (pv 3) pa_nil))))
      (pss_cons (ps_if (pt_cmpR op_ne (pe_op op_mod (pe_callTy call_int1 (by rfl) T.int PyProof.Rows.boot_int (pa_cons (pe_op op_sub (pv 2) (pv 0)) pa_nil)) (pv 5)) pe_int (nomark _)) (pss_one (ps_ret (pe_cmp (pc_isN (pv 4))))) pss_nil)
      (pss_cons (ps_if (PW.pt (pw_or (pt_not (pt_val (pe_callB call_isi (by rfl) T.isinstance PyProof.Rows.boot_isinstance (pa_cons (pv 4) (pa_cons (pe_bltn (v := .ty "tuple") (by rfl) T.tuple PyProof.Rows.boot_tuple rfl) pa_nil)))))
          (pw_or (pt_cmpR op_ne (pe_callB call_len_seq (by rfl) T.len PySem.boot_len (pa_cons (pv 4) pa_nil)) pe_int (nomark _))
          (pw_or (pt_cmpR op_ne (pe_ix ix_tup (pv 4) pe_int (fun _ _ => rfl)) (pe_op op_fdivW (pv 3) (pv 5)) (nomark _))
          (pw_or1 (pt_not (pt_chain op_le op_lt pe_int (pe_ix ix_tup (pv 4) pe_int (fun _ _ => rfl)) (pe_ix ix_tup (pv 4) pe_int (fun _ _ => rfl)))))))))
        (pss_one (ps_ret pe_bl)) pss_nil)
      (pss_cons (ps_if (pt_cmpR op_ne (pe_op op_mod (pe_callTy call_int1 (by rfl) T.int PyProof.Rows.boot_int (pa_cons (pe_op op_sub (pe_op op_add (pv 0) (pe_op op_mulW (pv 1) (pe_ix ix_tup (pv 4) pe_int (fun _ _ => rfl)))) (pv 2)) pa_nil)) (pv 3)) pe_int (nomark _)) (pss_one (ps_ret pe_bl)) pss_nil)
      (pss_cons (ps_if (pt_cmpR op_gt (pv 3) pe_int (nomark _)) (pss_one (ps_ret pe_bl)) pss_nil)
      (pss_cons (ps_for PassesOwn.never rfl (pi_range1 rfl T.range (pa_cons (pv 3) pa_nil)) (pg_name (i := 6) scLine.nd rfl (Or.inl rfl))
        (pss_one (ps_if (pt_cmpR op_ne
            (pe_cmpR op_eq (pe_op op_mod (pe_callTy call_int1 (by rfl) T.int PyProof.Rows.boot_int (pa_cons (pe_op op_sub (pe_op op_add (pv 0) (pe_op op_mul (pv 1) (pv 6))) (pv 2)) pa_nil)) (pv 3)) pe_int (nomark _))
            (pe_cmpR op_eq (pe_op op_mod (pe_callTy call_int1 (by rfl) T.int PyProof.Rows.boot_int (pa_cons (pe_op op_sub (pv 6) (pe_ix ix_tup (pv 4) pe_int (fun _ _ => rfl))) pa_nil)) (pe_ix ix_tup (pv 4) pe_int (fun _ _ => rfl))) pe_int (nomark _)) (nomark _))
          (pss_one (ps_ret pe_bl)) pss_nil)))
      (pss_one (ps_ret pe_bl)))))))), ?_⟩
    have hp0 : 0 < p := by omega
    have g0 := K07.gpos (b := b) hp0
    have gb := gcd_bd bb bp
    have hq0 := K07.qpos (b := b) hp0
    refine ⟨_, rfl, _, rfl, _, rfl, _, rfl, ?_⟩
    unfold tNil
    refine spRO_ints p1 ⟨ba, bb, br, bp, fun hd => ?_, fun hd H1 t s sm nt ht told => ?_⟩
    · -- there is none
      refine ⟨_, rfl, _, rfl, b, p, rfl, bb, bp, ?_⟩
      refine ⟨_, rfl, _, rfl, _, _, rfl, rfl, .inl ⟨_, rfl, _, rfl, _, _, rfl, rfl, g0, rfl, _, rfl, ?_⟩⟩
      have hz : ¬ (r - a) % (Int.gcd b p : Int) = 0 := fun z => hd (Int.dvd_of_emod_eq_zero z)
      rw [show (!decide (V.int ((r - a) % (Int.gcd b p : Int)) = V.int 0)) = true by rw [decide_eq_false (fun z => hz (V.int.inj z))]; rfl]
      exact iteT ⟨_, rfl, kk _ (Same.refl _)⟩
    · have tt := SqT.of (K := K) ht
      have s0 := told.lo
      have s1 := told.hi
      generalize hq : p / (Int.gcd b p : Int) = q at *
      refine ⟨_, rfl, _, rfl, b, p, rfl, bb, bp, ?_⟩
      refine ⟨_, rfl, _, rfl, _, _, rfl, rfl, .inl ⟨_, rfl, _, rfl, _, _, rfl, rfl, g0, rfl, _, rfl, ?_⟩⟩
      have hz : (r - a) % (Int.gcd b p : Int) = 0 := Int.emod_eq_zero_of_dvd hd
      refine iteNS (by show V.int ((r - a) % (Int.gcd b p : Int)) = V.int 0; rw [hz]) ?_
      refine ⟨_, rfl, _, _, _, _, _, rfl, .ty "tuple", .base (.tup ht), kit_ty (r := true) (by decide +kernel), _, rfl, iteF ?_⟩
      refine ⟨_, rfl, t, _, rfl, .inr tt, rfl, _, rfl, iteF ?_⟩
      refine ⟨_, rfl, t, _, _, _, rfl, rfl, tt, atI_nat (j := 1) rfl, _, rfl, _, rfl, _, _, rfl, rfl, wide_div g0 gb (by decide) (by decide), rfl, _, rfl, ?_⟩
      refine iteNS (by show V.int q = V.int (p / (Int.gcd b p : Int)); rw [hq]) ?_
      refine ⟨_, rfl, t, _, _, _, rfl, rfl, tt, atI_nat (j := 0) rfl, _, _, rfl, rfl, _, rfl, iteDT s0 ?_⟩
      refine ⟨_, rfl, t, _, _, _, rfl, rfl, tt, atI_nat (j := 1) rfl, _, _, rfl, rfl, _, rfl, iteNS s1 ?_⟩
      have hqb : q.natAbs < 2 ^ 190 := by rw [← hq]; exact Nat.lt_of_le_of_lt (natAbs_div_le p _ g0 (Int.gcd_dvd_right ..)) bp
      have hsb : s.natAbs < 2 ^ 190 := Nat.lt_of_le_of_lt (by omega) hqb
      refine ⟨_, rfl, _, rfl, _, rfl, t, _, _, _, rfl, rfl, tt, atI_nat (j := 0) rfl, _, _, rfl, rfl, wide_mul bb hsb (by decide) (by decide) (by decide), _, _, rfl, rfl, _, rfl, _, _, rfl, rfl, .inl ⟨_, rfl, _, rfl, _, _, rfl, rfl, hp0, rfl, _, rfl, ?_⟩⟩
      have hat : (a + b * s - r) % p = 0 := Int.emod_eq_zero_of_dvd told.at_
      refine iteNS (by show V.int ((a + b * s - r) % p) = V.int 0; rw [hat]) ?_
      refine ⟨_, rfl, _, _, rfl, rfl, _, rfl, ite2 (fun _ => kk _ sm) (fun hle => ?_)⟩
      have hle' : p ≤ 60 := Int.not_lt.mp fun z => hle (decide_eq_true z)
      have e62 : (2 : Int) ^ 62 = 4611686018427387904 := by decide
      have e64 : (2 : Int) ^ 64 = 18446744073709551616 := by decide
      refine ⟨_, rfl, p, rfl, by omega, by omega, for_range (n := p.toNat) (fun i σ H' => ∃ v : Option V, σ = [some (.int a), some (.int b), some (.int r), some (.int p), some (.ref t), some (.int (Int.gcd b p)), v] ∧ H' = H1) ⟨none, rfl, rfl⟩ ?_ ?_⟩
      · rintro i σ H' hi ⟨v, rfl, rfl⟩
        have hi' : (i : Int) < 60 := by omega
        refine ⟨_, rfl, _, rfl, _, rfl, _, _, rfl, rfl, .inr ⟨by omega, by omega⟩, _, _, rfl, rfl, _, rfl, _, _, rfl, rfl, .inl ⟨_, rfl, _, rfl, _, _, rfl, rfl, hp0, rfl, ?_⟩⟩
        refine ⟨_, rfl, _, rfl, t, _, _, _, rfl, rfl, tt, atI_nat (j := 0) rfl, _, _, rfl, rfl, .inl ⟨_, rfl, _, rfl, t, _, _, _, rfl, rfl, tt, atI_nat (j := 1) rfl, _, _, rfl, rfl, hq0, rfl, rfl, _, rfl, ?_⟩⟩
        refine iteNS (same_bl ?_) ⟨_, rfl, rfl⟩
        have := told.just (0 + (i : Int))
        rw [K07.dvd_iff_emod, K07.dvd_iff_emod] at this
        exact this
      · rintro σ H' ⟨v, rfl, rfl⟩
        exact kk _ sm
end
end K7
set_option Elab.async false
set_option linter.all false
set_option maxRecDepth 100000
set_option maxHeartbeats 2000000
namespace K7
open PySem PySem.Spec PyProof.Rows L2
section
variable {P : Program} {w : World} {K : PySem.W.Frag} {mg : Str → Option Value} {base : Heap} {CN fN CP fP f : Addr} {fd : FuncData}
/-! ### _law_both_right -/
def spBoth : Sp := fun vs H Q _ => ∃ (o c : Addr) (r p s q : Int), vs = [.ref o, .ref c] ∧ H o = some (.tup [.int r, .int p]) ∧ H c = some (.tup [.int s, .int q]) ∧ Bd r ∧ Bd p ∧ Bd s ∧ Bd q ∧ 1 ≤ p ∧ 1 ≤ q ∧ ∀ H', Same H H' → Q (.bl true) H'
theorem scBoth : FnScope ["_law_one", "_law_other", "_law_told", "_law_divisor_here"] ["_law_one", "_law_other"] (defScope (top 21)) := ⟨rfl, rfl, rfl, by decide +kernel, rfl, by decide +kernel, by decide +kernel⟩
theorem fn_both (F : Fun K "_law_both_right" "_law_both_right" (top 21) f fd) (T : Txt P K mg CN fN CP fP) (DB : Def P w K mg base (L2.CX P w) 9 "both_remainders" ["one", "other"] (spBR CP))
    (DV : Def P w K mg base CX0 1 "_law_divisor" ["_law_one", "_law_other"] spDiv) : FnOk P w K mg base CX0 11 f fd ["_law_one", "_law_other"] spBoth := by
  refine F.ok scBoth (fun vs H Q E h => ?_) (fun cdv A outer s0 H vs Q E hr h => ?_)
  · obtain ⟨o, c, r, p, s, q, rfl, _⟩ := h
    rfl
  · obtain ⟨o, c, r, p, s, q, rfl, ho, hc, br, bp, bs, bq, p1, q1, kk⟩ := h
    refine ⟨_, pss_cons (ps_set (i := 2) scBoth.nd rfl (Or.inl rfl) (pe_def DB (hr.mono (by decide)) passL (pa_cons (pv 0) (pa_cons (pv 1) pa_nil))))
      (pss_cons (ps_set (i := 3) scBoth.nd rfl (Or.inl rfl) (pe_def DV (hr.mono (by decide)) pass0 (pa_cons (pe_ix ix_tup (pv 0) pe_int (fun _ _ => rfl)) (pa_cons (pe_ix ix_tup (pv 1) pe_int (fun _ _ => rfl)) pa_nil))))
      (pss_cons (ps_if (pt_cmpR op_ne (pe_op op_mod (pe_callTy call_int1 (by rfl) T.int PyProof.Rows.boot_int (pa_cons (pe_op op_sub (pe_ix ix_tup (pv 0) pe_int (fun _ _ => rfl)) (pe_ix ix_tup (pv 1) pe_int (fun _ _ => rfl))) pa_nil)) (pv 3)) pe_int (nomark _)) (pss_one (ps_ret (pe_cmp (pc_isN (pv 2))))) pss_nil)
      (pss_cons (ps_if (PW.pt (pw_or (pt_not (pt_val (pe_callB call_isi (by rfl) T.isinstance PyProof.Rows.boot_isinstance (pa_cons (pv 2) (pa_cons (pe_bltn (v := .ty "tuple") (by rfl) T.tuple PyProof.Rows.boot_tuple rfl) pa_nil)))))
          (pw_or (pt_cmpR op_ne (pe_ix ix_tup (pv 2) pe_int (fun _ _ => rfl)) (pe_op op_mulW (pe_op op_fdivW (pe_ix ix_tup (pv 0) pe_int (fun _ _ => rfl)) (pv 3)) (pe_ix ix_tup (pv 1) pe_int (fun _ _ => rfl))) (nomark _))
          (pw_or1 (pt_not (pt_chain op_le op_lt pe_int (pe_ix ix_tup (pv 2) pe_int (fun _ _ => rfl)) (pe_ix ix_tup (pv 2) pe_int (fun _ _ => rfl))))))))
        (pss_one (ps_ret pe_bl)) pss_nil)
      (pss_one (ps_ret (pe_and
        (pe_cmpR op_eq (pe_op op_mod (pe_callTy call_int1 (by rfl) T.int PyProof.Rows.boot_int (pa_cons (pe_op op_sub (pe_ix ix_tup (pv 2) pe_int (fun _ _ => rfl)) (pe_ix ix_tup (pv 0) pe_int (fun _ _ => rfl))) pa_nil)) (pe_ix ix_tup (pv 0) pe_int (fun _ _ => rfl))) pe_int (nomark _))
        (pe_one (pe_cmpR op_eq (pe_op op_mod (pe_callTy call_int1 (by rfl) T.int PyProof.Rows.boot_int (pa_cons (pe_op op_sub (pe_ix ix_tup (pv 2) pe_int (fun _ _ => rfl)) (pe_ix ix_tup (pv 1) pe_int (fun _ _ => rfl))) pa_nil)) (pe_ix ix_tup (pv 1) pe_int (fun _ _ => rfl))) pe_int (nomark _))))))))), ?_⟩
    have hp0 : 0 < p := by omega
    have hq0 : 0 < q := by omega
    have g0 := K07.gpos (b := p) hq0
    have gb := gcd_bd bp bq
    have bv : ∀ {y : Int}, 1 ≤ y → (isI (V.int r) && isI (V.int y) && ge1 (V.int y)) = true := fun {y} hy => by show decide (1 ≤ y) = true; exact decide_eq_true hy
    have neg : (Int.gcd p q : Int) ∣ r - s ↔ (Int.gcd p q : Int) ∣ s - r := by rw [← Int.dvd_neg, Int.neg_sub]
    refine ⟨_, rfl, _, rfl, ?_⟩
    refine ⟨.ref o, .ref c, _, _, rfl, .pair ho trivial trivial, .pair hc trivial trivial, fun z => ?_, fun _ _ => ⟨o, c, r, p, s, q, rfl, ho, rfl, hc, p1, q1, br, bp, bs, bq, fun hd H1 sm => ?_, fun hd H1 t z m sm nt ht em z0 z1 z2 z3 => ?_⟩⟩
    · rcases z with z | z
      · rw [bv p1] at z; cases z
      · have : (isI (V.int s) && isI (V.int q) && ge1 (V.int q)) = true := by show decide (1 ≤ q) = true; exact decide_eq_true q1
        rw [this] at z; cases z
    · have to := SqT.of (K := K) (sm _ _ ho)
      have tc := SqT.of (K := K) (sm _ _ hc)
      refine ⟨_, rfl, o, _, _, _, rfl, rfl, to, atI_nat (j := 1) rfl, _, rfl, c, _, _, _, rfl, rfl, tc, atI_nat (j := 1) rfl, p, q, rfl, bp, bq, ?_⟩
      refine ⟨_, rfl, o, _, _, _, rfl, rfl, to, atI_nat (j := 0) rfl, _, rfl, c, _, _, _, rfl, rfl, tc, atI_nat (j := 0) rfl, _, _, rfl, rfl, .inl ⟨_, rfl, _, rfl, _, _, rfl, rfl, g0, rfl, _, rfl, ?_⟩⟩
      have hz : ¬ (r - s) % (Int.gcd p q : Int) = 0 := fun z => hd (neg.mp (Int.dvd_of_emod_eq_zero z))
      rw [show (!decide (V.int ((r - s) % (Int.gcd p q : Int)) = V.int 0)) = true by rw [decide_eq_false (fun z => hz (V.int.inj z))]; rfl]
      exact iteT ⟨_, rfl, kk _ sm⟩
    · have to := SqT.of (K := K) (sm _ _ ho)
      have tc := SqT.of (K := K) (sm _ _ hc)
      have tt := SqT.of (K := K) ht
      refine ⟨_, rfl, o, _, _, _, rfl, rfl, to, atI_nat (j := 1) rfl, _, rfl, c, _, _, _, rfl, rfl, tc, atI_nat (j := 1) rfl, p, q, rfl, bp, bq, ?_⟩
      refine ⟨_, rfl, o, _, _, _, rfl, rfl, to, atI_nat (j := 0) rfl, _, rfl, c, _, _, _, rfl, rfl, tc, atI_nat (j := 0) rfl, _, _, rfl, rfl, .inl ⟨_, rfl, _, rfl, _, _, rfl, rfl, g0, rfl, _, rfl, ?_⟩⟩
      have hz : (r - s) % (Int.gcd p q : Int) = 0 := Int.emod_eq_zero_of_dvd (neg.mpr hd)
      refine iteNS (by show V.int ((r - s) % (Int.gcd p q : Int)) = V.int 0; rw [hz]) ?_
      refine ⟨_, rfl, _, _, _, _, _, rfl, .ty "tuple", .base (.tup ht), kit_ty (r := true) (by decide +kernel), _, rfl, iteF ?_⟩
      have hpb : (p / (Int.gcd p q : Int)).natAbs < 2 ^ 190 := Nat.lt_of_le_of_lt (natAbs_div_le p _ g0 (Int.gcd_dvd_left ..)) bp
      refine ⟨_, rfl, t, _, _, _, rfl, rfl, tt, atI_nat (j := 1) rfl, _, rfl, o, _, _, _, rfl, rfl, to, atI_nat (j := 1) rfl, _, rfl, _, _, rfl, rfl, wide_div g0 gb (by decide) (by decide), _, rfl, c, _, _, _, rfl, rfl, tc, atI_nat (j := 1) rfl, _, _, rfl, rfl, wide_mul hpb bq (by decide) (by decide) (by decide), rfl, _, rfl, ?_⟩
      refine iteNS (by show V.int m = V.int (p / (Int.gcd p q : Int) * q); rw [em, K07.lcm_two]) ?_
      refine ⟨_, rfl, t, _, _, _, rfl, rfl, tt, atI_nat (j := 0) rfl, _, _, rfl, rfl, _, rfl, iteDT z0 ?_⟩
      refine ⟨_, rfl, t, _, _, _, rfl, rfl, tt, atI_nat (j := 1) rfl, _, _, rfl, rfl, _, rfl, iteNS z1 ?_⟩
      refine ⟨_, rfl, t, _, _, _, rfl, rfl, tt, atI_nat (j := 0) rfl, _, rfl, o, _, _, _, rfl, rfl, to, atI_nat (j := 0) rfl, _, _, rfl, rfl, .inl ⟨_, rfl, _, rfl, o, _, _, _, rfl, rfl, to, atI_nat (j := 1) rfl, _, _, rfl, rfl, hp0, rfl, _, rfl, ?_⟩⟩
      refine iteDT (by show V.int ((z - r) % p) = V.int 0; rw [Int.emod_eq_zero_of_dvd z2]) ?_
      refine ⟨_, rfl, t, _, _, _, rfl, rfl, tt, atI_nat (j := 0) rfl, _, rfl, c, _, _, _, rfl, rfl, tc, atI_nat (j := 0) rfl, _, _, rfl, rfl, .inl ⟨_, rfl, _, rfl, c, _, _, _, rfl, rfl, tc, atI_nat (j := 1) rfl, _, _, rfl, rfl, hq0, rfl, ?_⟩⟩
      have e3 : decide (V.int ((z - s) % q) = V.int 0) = true := decide_eq_true (by rw [Int.emod_eq_zero_of_dvd z3])
      show Q (.bl (decide (V.int ((z - s) % q) = V.int 0))) _
      rw [e3]
      exact kk _ sm
end
end K7
set_option Elab.async false
set_option linter.all false
set_option maxRecDepth 100000
set_option maxHeartbeats 2000000
namespace K7
open PySem PySem.Spec PyProof.Rows L2
/-- the errors' classes, as isinstance and the except clause ask them -/
structure Err (K : PySem.W.Frag) (mg : Str → Option Value) (CN CP C0 : Addr) : Prop where
  g0 : mg "PlaneError" = some (.ref C0)
  eN : PySem.W.exmOne K (.ref CN) (.ref C0) = some true
  eP : PySem.W.exmOne K (.ref CP) (.ref C0) = some true
  cN : ExcC K CN
  cP : ExcC K CP
  nn : PySem.W.kitOne K (.ref CN) (.ref CN) = some true
  pn : PySem.W.kitOne K (.ref CP) (.ref CN) = some false
  pp : PySem.W.kitOne K (.ref CP) (.ref CP) = some true
/-- what _law_heard makes of an error -/
def Ech (CN CP : Addr) (Q : VK) : XK := fun cls d H' =>
  (cls = .ref CN ∧ ∃ dd v, d = some dd ∧ H' dd = some (.xd [("number", v)]) ∧ ReprOk v ∧ ∀ t, H' t = none → Q (.ref t) (upd H' t (.tup [.str "number", .str (reprV v)]))) ∨
  (cls = .ref CP ∧ ∃ dd v, d = some dd ∧ H' dd = some (.xd [("part", v)]) ∧ ∀ t, H' t = none → Q (.ref t) (upd H' t (.tup [.str "part", v])))
def TTh (CN CP : Addr) : (XK → Hp → VK → Prop) → Hp → VK → Prop := fun tl H Q => tl (Ech CN CP Q) H (fun _ H1 => Q .non H1)
/-- some reading of the suite, by the exception's class and dict -/
def tSome (X : Cx) (suite : List Stmt) (a : Addr) (cls : Value) (d : Option Addr) : TS := fun D σ H => σ.length = X.N.length → ∃ t : TS, (∀ (oe : Obj) (pn : List (Addr × Obj)), Zc cls d oe → (∃ vs, oe.data = .fields vs) → PSs (X.suite a ((a, oe) :: pn)) suite t) ∧ t D σ H
theorem pss_some {X : Cx} {suite : List Stmt} {a : Addr} {cls : Value} {d : Option Addr} {oe : Obj} {pn : List (Addr × Obj)} (hz : Zc cls d oe) (hf : ∃ vs, oe.data = .fields vs) : PSs (X.suite a ((a, oe) :: pn)) suite (tSome X suite a cls d) :=
  ⟨fun pins s σ H D I h => by
    obtain ⟨t, ht, h⟩ := h I.len
    exact (ht oe pn hz hf).run pins s σ H D I h⟩
theorem scHeard : FnScope ["_law_call", "e"] ["_law_call"] (defScope (top 22)) := ⟨rfl, rfl, rfl, by decide +kernel, rfl, by decide +kernel, by decide +kernel⟩
section
variable {X : Cx} {CN fN CP fP C0 g : Addr} {cdg : Value} {q : Str}
theorem heard_gives (T : Txt X.prog X.K X.mg CN fN CP fP) (R : Err X.K X.mg CN CP C0) : LamX.GivesTo X ["_law_call", "e"] "_law_heard" (defScope (top 22)) g cdg (defBody (top 22)) "_law_call" q (TTh CN CP) := by
  intro f c' s H Q tl act hc h
  refine ⟨_, pss_cons (ps_try_as (X := (cxOf C8.CX0 X.prog X.w X.K X.mg X.base ["_law_call", "e"] "_law_heard" (defScope (top 22)) g cdg X.A X.stack s H C8.E0).nox) (c := .ref C0) (i := 1)
      (tb := fun W D σ H => ∃ Ec : XK, (∀ cls d σ' H', Ec cls d H' → W cls d σ' H') ∧ σ[0]? = some (some (.ref f)) ∧ H c' = some (LamX.CodeO c' q) ∧ tl Ec H (fun _ H1 => D.nx σ H1))
      (Wout := fun _ _ _ _ => False) rfl rfl scHeard.nd rfl rfl ⟨rfl, by decide, .inl R.g0⟩ takes0 (fun W pn xe tk _ => ?_) (fun a oe cls d pn hz hf => pss_some hz hf)) (pss_one (ps_ret pe_non)), ?_⟩
  · refine ⟨fun pins s' σ H' D I h' => ?_⟩
    obtain ⟨Ec, hW, h1, h2, h3⟩ := h'
    exact (pss_one (ps_expr (act W pn xe Ec _ _ tk hW))).run pins s' σ H' D I ⟨h1, h2, h3⟩
  · refine ⟨Ech CN CP Q, fun cls d σ' H' hE => ?_, rfl, hc, h⟩
    rcases hE with ⟨rfl, dd, v, rfl, hd, hv, k⟩ | ⟨rfl, dd, v, rfl, hd, k⟩
    · refine ⟨true, R.eN, fun _ a ha => ?_, fun z => Bool.noConfusion z⟩
      intro hl
      have e1 : (σ'.set 1 (some (V.ref a)))[1]? = some (some (V.ref a)) := List.getElem?_set_self (by rw [List.length_set] at hl; rw [hl]; exact (by decide : 1 < 2))
      have xf : XfC X.K CN := ⟨T.n.ga, T.n.gg, T.n.exC, T.n.hdC⟩
      refine ⟨_, fun oe pn hz hf => pss_cons (ps_if (pt_val (pe_callB (call_isD R.cN hz hf) (by rfl) T.isinstance PyProof.Rows.boot_isinstance (pa_cons (pv 1) (pa_cons (pe_glob (v := .ref CN) rfl T.n.gC rfl) pa_nil))))
        (pss_one (ps_ret (pe_tup (pa_cons pe_str (pa_cons (pe_callB call_repr (by rfl) T.repr PyProof.Rows.boot_repr (pa_cons (pe_xf xf T.n.noN hz hf (pv 1)) pa_nil)) pa_nil))))) pss_nil) pss_never, ?_⟩
      refine ⟨_, e1, _, _, _, _, rfl, hd, fun u r => r, R.nn, _, rfl, iteT ?_⟩
      refine ⟨_, e1, rfl, rfl, dd, _, v, rfl, hd, rfl, v, rfl, hv, (by show 2 ≤ sizeLine; decide), fun t ht => ?_⟩
      exact k t ht
    · refine ⟨true, R.eP, fun _ a ha => ?_, fun z => Bool.noConfusion z⟩
      intro hl
      have e1 : (σ'.set 1 (some (V.ref a)))[1]? = some (some (V.ref a)) := List.getElem?_set_self (by rw [List.length_set] at hl; rw [hl]; exact (by decide : 1 < 2))
      have xf : XfC X.K CP := ⟨T.p.ga, T.p.gg, T.p.exC, T.p.hdC⟩
      refine ⟨_, fun oe pn hz hf => pss_cons (ps_if (pt_val (pe_callB (call_isD R.cP hz hf) (by rfl) T.isinstance PyProof.Rows.boot_isinstance (pa_cons (pv 1) (pa_cons (pe_glob (v := .ref CN) rfl T.n.gC rfl) pa_nil))))
        pss_never pss_nil) (pss_one (ps_if (pt_val (pe_callB (call_isD R.cP hz hf) (by rfl) T.isinstance PyProof.Rows.boot_isinstance (pa_cons (pv 1) (pa_cons (pe_glob (v := .ref CP) rfl T.p.gC rfl) pa_nil))))
        (pss_one (ps_ret (pe_tup (pa_cons pe_str (pa_cons (pe_xf xf T.p.noN hz hf (pv 1)) pa_nil))))) pss_nil)), ?_⟩
      refine ⟨_, e1, _, _, _, _, rfl, hd, fun u r => r, R.pn, _, rfl, iteF ?_⟩
      refine ⟨_, e1, _, _, _, _, rfl, hd, fun u r => r, R.pp, _, rfl, iteT ?_⟩
      refine ⟨_, e1, rfl, rfl, dd, _, v, rfl, hd, rfl, (by show 2 ≤ sizeLine; decide), fun t ht => ?_⟩
      exact k t ht
end
end K7
set_option Elab.async false
set_option linter.all false
set_option maxRecDepth 100000
set_option maxHeartbeats 4000000
namespace K7
open PySem PySem.Spec PyProof.Rows L2
section
variable {X : Cx} {CN fN CP fP C0 g c P : Addr} {fd : FuncData} {k : Nat}
/-- _law_heard(lambda: body) -/
theorem pe_heard {params : Arguments} {body : Expr} {scope : Scope} {t : XK → TE} {p lpos pos : Pos} (T : Txt X.prog X.K X.mg CN fN CP fP) (R : Err X.K X.mg CN CP C0) (F : Fun X.K "_law_heard" "_law_heard" (top 22) g fd) (b : L2.Binds X.K fd ["_law_call"] [])
    (hm : X.mg "_law_heard" = some (.ref g)) (TB : LamX.TabB X.base X.mg c P) (hcode : X.env.code = .ref c) (hr : Room (k + 2) X.A) (L : LamX.LamS X.env.scope scope)
    (hbody : ∀ (A : Around) (outer : List Env) (s : Shared) (H : Hp) (E : XK) (f c' : Addr), Room k (A.deeper (LamX.lamEnv X scope s.heap.objs.size f c')) → PE (LamX.lamCx X A outer s H E scope f c') body (t E))
    (hg : Gl X "_law_heard" := by rfl) (hdef : defaultsOf params X.env = ([], []) := by rfl) (hbind : ∀ (q : Str) (cl : List (Str × Addr)) (pm cv ctv : Value), bindArgs (PySem.W.kla_fn "<lambda>" q params body scope cl pm cv ctv) ⟨[], []⟩ = pure [] := by exact fun _ _ _ _ _ => rfl) :
    PE X (.Call (.Name "_law_heard" p) [.Lambda params body scope lpos] [] pos) (LamX.tLam [(P, X.env.qual ++ "<lambda>")] (TTh CN CP) t) := by
  obtain ⟨oc, od, kV, doc, pm, an, cdv, ct, osl, e, lk, hcd⟩ := F.ex
  subst e
  exact LamX.pe_lamcall (T := [(P, X.env.qual ++ "<lambda>")]) hg hm F.kp lk hcd b scHeard rfl (.inl rfl) (heard_gives T R) TB hcode List.mem_cons_self (fun q hq _ => by rw [List.mem_singleton] at hq; rw [hq]) hr L hdef hbind hbody
end
/-! ### heaps behind a heard call -/
open LamX in
theorem bad_n {T : List (Addr × Str)} {CN CP : Addr} {H H1 : Hp} {Q : VK} {v : V} (k : ∀ H2 t, ExtN H H2 → Tabs T H2 → H2 t = some (.tup [.str "number", .str (reprV v)]) → Q (.ref t) H2) (e : ExtN H H1) (hT : Tabs T H1) (hv : ReprOk v) :
    Bad CN "number" v H1 (Ech CN CP Q) := fun H' d sm nd => .inl ⟨rfl, d, v, rfl, upd_same, hv, fun t nt => by
  have s2 := (sm.trans (Same.new (o := .xd [("number", v)]) nd)).trans (Same.new (o := .tup [.str "number", .str (reprV v)]) nt)
  exact k _ t (e.trans (ExtN.of s2)) (hT.ext s2) upd_same⟩
open LamX in
theorem bad_p {T : List (Addr × Str)} {CN CP : Addr} {H H1 : Hp} {Q : VK} {v : V} (k : ∀ H2 t, ExtN H H2 → Tabs T H2 → H2 t = some (.tup [.str "part", v]) → Q (.ref t) H2) (e : ExtN H H1) (hT : Tabs T H1) :
    Bad CP "part" v H1 (Ech CN CP Q) := fun H' d sm nd => .inr ⟨rfl, d, v, rfl, upd_same, fun t nt => by
  have s2 := (sm.trans (Same.new (o := .xd [("part", v)]) nd)).trans (Same.new (o := .tup [.str "part", v]) nt)
  exact k _ t (e.trans (ExtN.of s2)) (hT.ext s2) upd_same⟩
open LamX in
theorem tab_upd {T : List (Addr × Str)} {H : Hp} {L : Addr} {xs ys : List V} (h : Tabs T H) (e : H L = some (.lst xs)) : Tabs T (upd H L (.lst ys)) := fun p hp => by
  obtain ⟨ps, h1, h2, h3⟩ := h p hp
  refine ⟨ps, by rw [upd_ne (ne_of h1 e (fun z => nomatch z))]; exact h1, h2, fun pos cv hc => ?_⟩
  obtain ⟨c, e1, e2⟩ := h3 pos cv hc
  exact ⟨c, e1, by rw [upd_ne (ne_of e2 e (fun z => by unfold CodeO at z; cases z))]; exact e2⟩
open LamX in
theorem RemV.ext {H H' : Hp} {v : V} {b : Bool} (h : RemV H v b) (s : ExtN H H') : RemV H' v b := by
  cases h with
  | non => exact .non
  | lst e => exact .lst (s _ _ e (fun _ z => nomatch z))
  | tup e h => exact .tup (s _ _ e (fun _ z => nomatch z)) h
  | pair e px py => exact .pair (s _ _ e (fun _ z => nomatch z)) px py
/-- the list of what was heard, at L; all are due's equals; the tables -/
structure OddI (T : List (Addr × Str)) (H : Hp) (due L : Addr) (v : V) (n : Nat) : Prop where
  tabs : LamX.Tabs T H
  du : H due = some (.tup [.str "number", .str (reprV v)])
  told : ∃ acc, H L = some (.lst acc) ∧ acc.length = n ∧ ∀ x ∈ acc, ∃ t, x = .ref t ∧ H t = some (.tup [.str "number", .str (reprV v)])
open LamX in
theorem OddI.ext {T : List (Addr × Str)} {H H' : Hp} {due L : Addr} {v : V} {n : Nat} (h : OddI T H due L v n) (s : ExtN H H') (t : Tabs T H') : OddI T H' due L v n := by
  obtain ⟨acc, h1, h2, h3⟩ := h.told
  refine ⟨t, s _ _ h.du (fun _ z => nomatch z), acc, s _ _ h1 (fun _ z => nomatch z), h2, fun x hx => ?_⟩
  obtain ⟨u, e, hu⟩ := h3 x hx
  exact ⟨u, e, s _ _ hu (fun _ z => nomatch z)⟩
theorem OddI.app {T : List (Addr × Str)} {H : Hp} {due L t : Addr} {v : V} {n : Nat} (h : OddI T H due L v n) (ht : H t = some (.tup [.str "number", .str (reprV v)])) :
    ∃ acc, H L = some (.lst acc) ∧ acc.length = n ∧ OddI T (upd H L (.lst (acc ++ [.ref t]))) due L v (n + 1) := by
  obtain ⟨acc, h1, h2, h3⟩ := h.told
  have nt : ∀ {u : Addr}, H u = some (.tup [.str "number", .str (reprV v)]) → u ≠ L := fun e => ne_of e h1 (fun z => nomatch z)
  refine ⟨acc, h1, h2, tab_upd h.tabs h1, by rw [upd_ne (nt h.du)]; exact h.du, _, upd_same, by rw [List.length_append, h2]; rfl, fun x hx => ?_⟩
  rcases List.mem_append.mp hx with hx | hx
  · obtain ⟨u, e, hu⟩ := h3 x hx
    exact ⟨u, e, by rw [upd_ne (nt hu)]; exact hu⟩
  · exact ⟨t, List.mem_singleton.mp hx, by rw [upd_ne (nt ht)]; exact ht⟩
/-- what the law draws as odd, as low -/
def Odd (v : V) : Prop := v = .non ∨ v = .bl true ∨ v = .str "1"
def Low (v : V) : Prop := v = .int 0 ∨ v = .int (-4)
theorem Odd.plain {v : V} (h : Odd v) : Plain v := by rcases h with rfl | rfl | rfl <;> trivial
theorem Odd.no {v : V} (h : Odd v) : isI v = false := by rcases h with rfl | rfl | rfl <;> rfl
theorem Odd.noP {v : V} (h : Odd v) : ¬ ∃ p, v = .int p ∧ 1 ≤ p := fun ⟨p, e, _⟩ => by
  have := h.no
  rw [isI_int e] at this
  cases this
theorem Odd.repr {v : V} (h : Odd v) : ReprOk v := by
  rcases h with rfl | rfl | rfl
  · trivial
  · trivial
  · show (PySem.reprText "1").length ≤ sizeLine
    exact Nat.le_trans (by decide +kernel : (PySem.reprText "1").length ≤ 1000) (by decide)
theorem Low.plain {v : V} (h : Low v) : Plain v := by rcases h with rfl | rfl <;> trivial
theorem Low.noP {v : V} (h : Low v) : ¬ ∃ p, v = .int p ∧ 1 ≤ p := fun ⟨p, e, hp⟩ => by
  rcases h with rfl | rfl <;> (cases e; omega)
theorem Low.repr {v : V} (h : Low v) : ReprOk v := by
  rcases h with rfl | rfl
  · show (0 : Int).natAbs.log2 < 1920; decide
  · show (-4 : Int).natAbs.log2 < 1920; decide
end K7
set_option Elab.async false
set_option linter.all false
set_option maxRecDepth 100000
set_option maxHeartbeats 8000000
namespace K7
open PySem PySem.Spec PyProof.Rows L2
abbrev nsOdd : List Str := ["_law_state", "_law_odd", "_law_low", "_law_due", "_law_told", "_law_one", "_law_bad"]
/-- the name of the lambdas -/
abbrev qL : Str := ((("_law_odd_right" : Str) ++ ".<locals>.") ++ "<lambda>")
def spOdd (Pt : Addr) : Sp := fun vs H Q _ => ∃ (S C : Addr) (ns : List Int) (k : Int), vs = [.ref S] ∧ StAt H S C ns k ∧ LamX.TabS H Pt qL ∧ ∀ H', Q (.bl true) H'
theorem scOdd : FnScope nsOdd ["_law_state"] (defScope (top 23)) := ⟨rfl, rfl, rfl, by decide +kernel, rfl, by decide +kernel, by decide +kernel⟩
/-- what was heard, as data -/
def dN (v : V) : PyData := .tuple [.str "number", .str (reprV v)]
def dP : PyData := .tuple [.str "part", .str "remainder"]
theorem dN_dp {K : PySem.W.Frag} {H : Hp} {t : Addr} {v : V} (h : H t = some (.tup [.str "number", .str (reprV v)])) : Dp K H (.ref t) (dN v) := .tup (SqT.of h) (.cons (.str _) (.cons (.str _) .nil))
theorem dP_dp {K : PySem.W.Frag} {H : Hp} {t : Addr} (h : H t = some (.tup [.str "part", .str "remainder"])) : Dp K H (.ref t) dP := .tup (SqT.of h) (.cons (.str _) (.cons (.str _) .nil))
theorem dN_odd {v : V} (h : Odd v) : SeqAt.shaped (dN v) = true := by rcases h with rfl | rfl | rfl <;> decide +kernel
theorem dN_low {v : V} (h : Low v) : SeqAt.shaped (dN v) = true := by rcases h with rfl | rfl <;> decide +kernel
theorem dP_sh : SeqAt.shaped dP = true := by decide +kernel
theorem dN_eq (v : V) : PyData.eqv (dN v) (dN v) = true := PySem.SeqAt.eqv_refl_plain _ rfl
theorem dP_eq : PyData.eqv dP dP = true := PySem.SeqAt.eqv_refl_plain _ rfl
theorem Odd.noT {v : V} (h : Odd v) (z : isI v = true) : False := by rw [h.no] at z; cases z
theorem tt_ff {p : Prop} (z : true = false) : p := Bool.noConfusion z
open LamX in
theorem tab_but {T : List (Addr × Str)} {H H' : Hp} {S C : Addr} {ns : List Int} {k : Int} (st : StAt H S C ns k) (b : But S C H H') (h : Tabs T H) : Tabs T H' := fun p hp => by
  obtain ⟨ps, h1, h2, h3⟩ := h p hp
  refine ⟨ps, st.other b h1 (fun _ z => nomatch z), h2, fun pos cv hc => ?_⟩
  obtain ⟨c, e1, e2⟩ := h3 pos cv hc
  exact ⟨c, e1, st.other b e2 (fun _ z => by unfold CodeO at z; cases z)⟩
open LamX in
theorem StAt.ext {H H' : Hp} {S C : Addr} {ns : List Int} {k : Int} (h : StAt H S C ns k) (s : ExtN H H') : StAt H' S C ns k := ⟨h.ne, s _ _ h.st (fun _ z => nomatch z), s _ _ h.ce (fun _ z => nomatch z), h.few⟩
/-- all that the walk carries between two heard calls -/
structure OS (T : List (Addr × Str)) (H : Hp) (S C due L : Addr) (v : V) (n : Nat) : Prop where
  oi : OddI T H due L v n
  st : ∃ ns k, StAt H S C ns k
  nS : L ≠ S
  nC : L ≠ C
open LamX in
theorem OS.ext {T : List (Addr × Str)} {H H' : Hp} {S C due L : Addr} {v : V} {n : Nat} (h : OS T H S C due L v n) (s : ExtN H H') (t : Tabs T H') : OS T H' S C due L v n :=
  ⟨h.oi.ext s t, let ⟨ns, k, q⟩ := h.st; ⟨ns, k, q.ext s⟩, h.nS, h.nC⟩
theorem OS.app {T : List (Addr × Str)} {H : Hp} {S C due L t : Addr} {v : V} {n : Nat} (h : OS T H S C due L v n) (ht : H t = some (.tup [.str "number", .str (reprV v)])) :
    ∃ acc, H L = some (.lst acc) ∧ acc.length = n ∧ OS T (upd H L (.lst (acc ++ [.ref t]))) S C due L v (n + 1) := by
  obtain ⟨acc, h1, h2, h3⟩ := h.oi.app ht
  obtain ⟨ns, k, q⟩ := h.st
  exact ⟨acc, h1, h2, h3, ⟨ns, k, q.ne, by rw [upd_ne h.nS.symm]; exact q.st, by rw [upd_ne h.nC.symm]; exact q.ce, q.few⟩, h.nS, h.nC⟩
theorem OS.at {T : List (Addr × Str)} {H : Hp} {S C due L : Addr} {v : V} {n : Nat} (h : OS T H S C due L v n) : ∃ acc, H L = some (.lst acc) := let ⟨acc, h1, _⟩ := h.oi.told; ⟨acc, h1⟩
section
variable {P : Program} {w : World} {K : PySem.W.Frag} {mg : Str → Option Value} {base : Heap} {CN fN CP fP C0 f g c Pt : Addr} {fd : FuncData} {oc kV doc pm ct : Value} {od an : Option Addr} {osl : Array (Option Value)}
theorem fn_odd (lk : K.lookup f = some ⟨oc, od, .func (PySem.W.fnOf "_law_odd_right" "_law_odd_right" (defArgs (top 23)) (defBody (top 23)) (defScope (top 23)) .none kV doc pm an (.ref c) ct), osl⟩) (hcd : PySem.W.codeIn K (.ref c) "_law_odd_right" = true)
    (T : Txt P K mg CN fN CP fP) (R : Err K mg CN CP C0) (TB : LamX.TabB base mg c Pt) (FH : Fun K "_law_heard" "_law_heard" (top 22) g fd) (bH : L2.Binds K fd ["_law_call"] []) (mH : mg "_law_heard" = some (.ref g))
    (DD : Def P w K mg base CX0 1 "_law_draw" ["_law_state", "_law_limit"] spDraw) (DG : Def P w K mg base (L2.CX P w) 5 "greatest_divisor" ["one", "other"] (spG CN)) (DM : Def P w K mg base (L2.CX P w) 7 "least_multiple" ["one", "other"] (spLM CN))
    (DR : Def P w K mg base (L2.CX P w) 7 "remainder_of" ["a", "b", "r", "p"] (spRO CN)) (DB : Def P w K mg base (L2.CX P w) 9 "both_remainders" ["one", "other"] (spBR CP)) :
    FnOk P w K mg base CX0 12 f (PySem.W.fnOf "_law_odd_right" "_law_odd_right" (defArgs (top 23)) (defBody (top 23)) (defScope (top 23)) .none kV doc pm an (.ref c) ct) ["_law_state"] (spOdd Pt) := by
  refine fn_of lk hcd scOdd (fun vs H Q E h => ?_) (fun A outer s H vs Q E hr h => ?_)
  · obtain ⟨S, C, ns, k, rfl, _⟩ := h
    rfl
  · obtain ⟨S, C, ns, k, rfl, hst, hT, kk⟩ := h
    have hr9 : Room (9 + 2) _ := hr
    have hu := hr.units
    refine ⟨_, pss_cons (ps_asg (pe_tup (pa_cons (pe_ix ix_tup (pe_tup (pa_cons pe_non (pa_cons pe_bl (pa_cons pe_str pa_nil)))) (pe_def DD (hr.mono (by decide)) pass0 (pa_cons (pv 0) (pa_cons pe_int pa_nil))) (fun _ _ => rfl)) (pa_cons (pe_ix ix_tup (pe_tup (pa_cons pe_int (pa_cons (pe_un un_neg pe_int) pa_nil))) (pe_def DD (hr.mono (by decide)) pass0 (pa_cons (pv 0) (pa_cons pe_int pa_nil))) (fun _ _ => rfl)) pa_nil))) (pg_tup rfl (pgs_cons (pg_name (i := 1) scOdd.nd rfl (Or.inr rfl)) (pgs_cons (pg_name (i := 2) scOdd.nd rfl (Or.inr rfl)) pgs_nil))))
      (pss_cons (ps_set (i := 3) scOdd.nd rfl (Or.inr rfl) (pe_tup (pa_cons pe_str (pa_cons (pe_callB call_repr (by rfl) T.repr PyProof.Rows.boot_repr (pa_cons (pv 1) pa_nil)) pa_nil))))
      (pss_cons (ps_set (i := 4) scOdd.nd rfl (Or.inl rfl) (pe_lst (pa_cons (pe_heard T R FH bH mH TB rfl hr9 (LamX.lamS_by (show LamX.lamSB (defScope (top 23)) _ = true by decide +kernel)) (fun A outer s H E f c' hr' => pe_def DG (hr'.mono (by decide)) (passes_call (E := E) (takes_of rfl rfl rfl rfl) (fun _ _ _ _ z => z)) (pa_cons (pv 1) (pa_cons pe_non pa_nil)))) pa_nil)))
      (pss_cons (ps_expr (pe_bm PySem.F.plainAttrs_list PySem.F.slot_list_append PySem.F.type_list_append mt_append (pv 4) (pa_cons (pe_heard T R FH bH mH TB rfl hr9 (LamX.lamS_by (show LamX.lamSB (defScope (top 23)) _ = true by decide +kernel)) (fun A outer s H E f c' hr' => pe_def DG (hr'.mono (by decide)) (passes_call (E := E) (takes_of rfl rfl rfl rfl) (fun _ _ _ _ z => z)) (pa_cons pe_int (pa_cons (pv 1) pa_nil)))) pa_nil)))
      (pss_cons (ps_expr (pe_bm PySem.F.plainAttrs_list PySem.F.slot_list_append PySem.F.type_list_append mt_append (pv 4) (pa_cons (pe_heard T R FH bH mH TB rfl hr9 (LamX.lamS_by (show LamX.lamSB (defScope (top 23)) _ = true by decide +kernel)) (fun A outer s H E f c' hr' => pe_def DM (hr'.mono (by decide)) (passes_call (E := E) (takes_of rfl rfl rfl rfl) (fun _ _ _ _ z => z)) (pa_cons pe_int (pa_cons (pv 1) pa_nil)))) pa_nil)))
      (pss_cons (ps_expr (pe_bm PySem.F.plainAttrs_list PySem.F.slot_list_append PySem.F.type_list_append mt_append (pv 4) (pa_cons (pe_heard T R FH bH mH TB rfl hr9 (LamX.lamS_by (show LamX.lamSB (defScope (top 23)) _ = true by decide +kernel)) (fun A outer s H E f c' hr' => pe_def DR (hr'.mono (by decide)) (passes_call (E := E) (takes_of rfl rfl rfl rfl) (fun _ _ _ _ z => z)) (pa_cons (pv 1) (pa_cons pe_non (pa_cons pe_non (pa_cons pe_int pa_nil)))))) pa_nil)))
      (pss_cons (ps_expr (pe_bm PySem.F.plainAttrs_list PySem.F.slot_list_append PySem.F.type_list_append mt_append (pv 4) (pa_cons (pe_heard T R FH bH mH TB rfl hr9 (LamX.lamS_by (show LamX.lamSB (defScope (top 23)) _ = true by decide +kernel)) (fun A outer s H E f c' hr' => pe_def DR (hr'.mono (by decide)) (passes_call (E := E) (takes_of rfl rfl rfl rfl) (fun _ _ _ _ z => z)) (pa_cons pe_int (pa_cons (pv 1) (pa_cons pe_non (pa_cons pe_int pa_nil)))))) pa_nil)))
      (pss_cons (ps_expr (pe_bm PySem.F.plainAttrs_list PySem.F.slot_list_append PySem.F.type_list_append mt_append (pv 4) (pa_cons (pe_heard T R FH bH mH TB rfl hr9 (LamX.lamS_by (show LamX.lamSB (defScope (top 23)) _ = true by decide +kernel)) (fun A outer s H E f c' hr' => pe_def DR (hr'.mono (by decide)) (passes_call (E := E) (takes_of rfl rfl rfl rfl) (fun _ _ _ _ z => z)) (pa_cons pe_int (pa_cons pe_int (pa_cons (pv 1) (pa_cons pe_int pa_nil)))))) pa_nil)))
      (pss_cons (ps_expr (pe_bm PySem.F.plainAttrs_list PySem.F.slot_list_append PySem.F.type_list_append mt_append (pv 4) (pa_cons (pe_heard T R FH bH mH TB rfl hr9 (LamX.lamS_by (show LamX.lamSB (defScope (top 23)) _ = true by decide +kernel)) (fun A outer s H E f c' hr' => pe_def DR (hr'.mono (by decide)) (passes_call (E := E) (takes_of rfl rfl rfl rfl) (fun _ _ _ _ z => z)) (pa_cons pe_int (pa_cons pe_int (pa_cons pe_int (pa_cons (pv 1) pa_nil)))))) pa_nil)))
      (pss_cons (ps_if (pt_cmpR (op_neD hu) (pe_lc (own := [("_law_one", 5)]) (g := gName 5) rfl scOdd.nd (pi_list (pv 4)) (blkOk_by (N := nsOdd) (sc := defScope (top 23)) (by decide +kernel)) (fun _ _ _ _ _ => pg_name (i := 5) scOdd.nd rfl (Or.inl rfl)) (fun _ _ _ _ _ => pts_one (pt_cmpR (show OpR _ (compareOp .NotEq) (rNeD K) from op_neD hu) (pv 5) (pv 3) (nomark _))) (fun _ _ _ _ _ => pv 5)) (pe_lst pa_nil) (nomark _)) (pss_one (ps_ret pe_bl)) pss_nil)
      (pss_cons (ps_if (pt_cmpR (op_neD hu) (pe_heard T R FH bH mH TB rfl hr9 (LamX.lamS_by (show LamX.lamSB (defScope (top 23)) _ = true by decide +kernel)) (fun A outer s H E f c' hr' => pe_def DR (hr'.mono (by decide)) (passes_call (E := E) (takes_of rfl rfl rfl rfl) (fun _ _ _ _ z => z)) (pa_cons pe_int (pa_cons pe_int (pa_cons pe_int (pa_cons (pv 2) pa_nil)))))) (pe_tup (pa_cons pe_str (pa_cons (pe_callB call_repr (by rfl) T.repr PyProof.Rows.boot_repr (pa_cons (pv 2) pa_nil)) pa_nil))) (nomark _)) (pss_one (ps_ret pe_bl)) pss_nil)
      (pss_cons (ps_if (pt_cmpR (op_neD hu) (pe_heard T R FH bH mH TB rfl hr9 (LamX.lamS_by (show LamX.lamSB (defScope (top 23)) _ = true by decide +kernel)) (fun A outer s H E f c' hr' => pe_def DM (hr'.mono (by decide)) (passes_call (E := E) (takes_of rfl rfl rfl rfl) (fun _ _ _ _ z => z)) (pa_cons (pv 2) (pa_cons (pv 1) pa_nil)))) (pe_tup (pa_cons pe_str (pa_cons (pe_callB call_repr (by rfl) T.repr PyProof.Rows.boot_repr (pa_cons (pv 2) pa_nil)) pa_nil))) (nomark _)) (pss_one (ps_ret pe_bl)) pss_nil)
      (pss_cons (ps_set (i := 6) scOdd.nd rfl (Or.inr rfl) (pe_ix ix_tup (pe_tup (pa_cons pe_non (pa_cons (pe_lst (pa_cons pe_int (pa_cons pe_int pa_nil))) (pa_cons (pe_tup (pa_cons pe_int pa_nil)) (pa_cons (pe_tup (pa_cons pe_int (pa_cons pe_int pa_nil))) (pa_cons (pe_tup (pa_cons pe_bl (pa_cons pe_int pa_nil))) (pa_cons (pe_tup (pa_cons pe_int (pa_cons (pe_un un_neg pe_int) pa_nil))) pa_nil))))))) (pe_def DD (hr.mono (by decide)) pass0 (pa_cons (pv 0) (pa_cons pe_int pa_nil))) (fun _ _ => rfl)))
      (pss_cons (ps_if (pt_cmpR (op_neD hu) (pe_heard T R FH bH mH TB rfl hr9 (LamX.lamS_by (show LamX.lamSB (defScope (top 23)) _ = true by decide +kernel)) (fun A outer s H E f c' hr' => pe_def DB (hr'.mono (by decide)) (passes_call (E := E) (takes_of rfl rfl rfl rfl) (fun _ _ _ _ z => z)) (pa_cons (pv 6) (pa_cons (pe_tup (pa_cons pe_int (pa_cons pe_int pa_nil))) pa_nil)))) (pe_tup (pa_cons pe_str (pa_cons pe_str pa_nil))) (nomark _)) (pss_one (ps_ret pe_bl)) pss_nil)
      (pss_one (ps_ret (pe_cmpR (op_eqD hu) (pe_heard T R FH bH mH TB rfl hr9 (LamX.lamS_by (show LamX.lamSB (defScope (top 23)) _ = true by decide +kernel)) (fun A outer s H E f c' hr' => pe_def DB (hr'.mono (by decide)) (passes_call (E := E) (takes_of rfl rfl rfl rfl) (fun _ _ _ _ z => z)) (pa_cons (pe_tup (pa_cons pe_int (pa_cons pe_int pa_nil))) (pa_cons (pv 6) pa_nil)))) (pe_tup (pa_cons pe_str (pa_cons pe_str pa_nil))) (nomark _))))))))))))))))), ?_⟩
    let T0 : List (Addr × Str) := [(Pt, qL)]
    have hT0 : LamX.Tabs T0 H := fun p hp => by rw [List.mem_singleton.mp hp]; exact hT
    -- odd, low
    refine ⟨(by show 3 ≤ sizeLine; decide), fun t1 n1 => ?_⟩
    have q1 := hst.same (Same.new (o := .tup [.non, .bl true, .str "1"]) n1)
    refine ⟨_, rfl, S, C, ns, k, 3, rfl, q1, by decide, by decide, fun H1 ns1 k1 r1 st1 b1 r10 r11 => ?_⟩
    have e1 : H1 t1 = some (.tup [.non, .bl true, .str "1"]) := q1.other b1 upd_same (fun _ z => nomatch z)
    have T1 : LamX.Tabs T0 H1 := tab_but q1 b1 (hT0.ext (Same.new n1))
    obtain ⟨v, hv, ho⟩ : ∃ v, atI [V.non, V.bl true, V.str "1"] r1 = some v ∧ Odd v := by
      have : r1 = 0 ∨ r1 = 1 ∨ r1 = 2 := by omega
      rcases this with rfl | rfl | rfl
      · exact ⟨_, atI_nat (j := 0) rfl, .inl rfl⟩
      · exact ⟨_, atI_nat (j := 1) rfl, .inr (.inl rfl)⟩
      · exact ⟨_, atI_nat (j := 2) rfl, .inr (.inr rfl)⟩
    refine ⟨t1, _, r1, v, rfl, rfl, SqT.of e1, hv, ?_⟩
    refine ⟨_, rfl, (by show 2 ≤ sizeLine; decide), fun t2 n2 => ?_⟩
    have q2 := st1.same (Same.new (o := .tup [.int 0, .int (-4)]) n2)
    refine ⟨_, rfl, S, C, ns1, k1, 2, rfl, q2, by decide, by decide, fun H2 ns2 k2 r2 st2 b2 r20 r21 => ?_⟩
    have e2 : H2 t2 = some (.tup [.int 0, .int (-4)]) := q2.other b2 upd_same (fun _ z => nomatch z)
    have T2 : LamX.Tabs T0 H2 := tab_but q2 b2 (T1.ext (Same.new n2))
    obtain ⟨l, hl, hlow⟩ : ∃ l, atI [V.int 0, V.int (-4)] r2 = some l ∧ Low l := by
      have : r2 = 0 ∨ r2 = 1 := by omega
      rcases this with rfl | rfl
      · exact ⟨_, atI_nat (j := 0) rfl, .inl rfl⟩
      · exact ⟨_, atI_nat (j := 1) rfl, .inr rfl⟩
    refine ⟨t2, _, r2, l, rfl, rfl, SqT.of e2, hl, ?_⟩
    refine ⟨(by show 2 ≤ sizeLine; decide), fun t3 n3 => ?_⟩
    refine ⟨t3, _, rfl, SqT.of upd_same, rfl, _, _, rfl, _, _, rfl, rfl, ?_⟩
    -- due
    refine ⟨_, rfl, v, rfl, ho.repr, (by show 2 ≤ sizeLine; decide), fun due nd => ?_⟩
    have sD : Same H2 (upd (upd H2 t3 (.tup [v, l])) due (.tup [.str "number", .str (reprV v)])) := (Same.new n3).trans (Same.new nd)
    have TD := T2.ext sD
    have stD := st2.same sD
    have eD : upd (upd H2 t3 (.tup [v, l])) due (.tup [.str "number", .str (reprV v)]) due = some (.tup [.str "number", .str (reprV v)]) := upd_same
    -- the first one
    refine ⟨TD, fun H5 x5 T5 => ?_⟩
    refine ⟨_, rfl, v, .non, rfl, ho.plain, trivial, fun _ => bad_n (T := T0) (fun H6 u x6 T6 hu6 => ?_) x5 T5 ho.repr, fun z => (ho.noT z).elim, fun a b ea => (ho.noT (isI_int ea)).elim⟩
    refine ⟨(by show 1 ≤ sizeLine; decide), fun L nL => ?_⟩
    have s7 : Same H6 (upd H6 L (.lst [.ref u])) := Same.new nL
    have st6 := stD.ext x6
    have O1 : OS T0 (upd H6 L (.lst [.ref u])) S C due L v 1 :=
      ⟨⟨T6.ext s7, s7 _ _ (x6 _ _ eD (fun _ z => nomatch z)), [.ref u], upd_same, rfl, fun x hx => ⟨u, List.mem_singleton.mp hx, s7 _ _ hu6⟩⟩, ⟨_, _, st6.same s7⟩, (ne_of_none st6.st nL).symm, (ne_of_none st6.ce nL).symm⟩
    -- append 1
    obtain ⟨acc, hacc⟩ := O1.at
    refine ⟨_, rfl, .inl ⟨rfl, _, SqL.of hacc⟩, O1.oi.tabs, fun H5 x5 T5 => ?_⟩
    clear hacc
    refine ⟨_, rfl, .int 3, v, rfl, trivial, ho.plain, fun z => tt_ff (show true = false from z), fun _ _ => bad_n (T := T0) (fun H6 u x6 T6 hu6 => ?_) x5 T5 ho.repr, fun a b _ eb => (ho.noT (isI_int eb)).elim⟩
    obtain ⟨acc, h6, hlen, O2⟩ := (O1.ext x6 T6).app hu6
    refine ⟨L, _, _, rfl, rfl, h6, small1000 (by omega), ?_⟩
    -- append 2
    obtain ⟨acc, hacc⟩ := O2.at
    refine ⟨_, rfl, .inl ⟨rfl, _, SqL.of hacc⟩, O2.oi.tabs, fun H5 x5 T5 => ?_⟩
    clear hacc
    refine ⟨_, rfl, .int 2, v, rfl, trivial, ho.plain, fun z => absurd ⟨2, rfl, by decide⟩ z, fun _ _ => bad_n (T := T0) (fun H6 u x6 T6 hu6 => ?_) x5 T5 ho.repr, fun a b _ eb => (ho.noT (isI_int eb)).elim⟩
    obtain ⟨acc, h6, hlen, O3⟩ := (O2.ext x6 T6).app hu6
    refine ⟨L, _, _, rfl, rfl, h6, small1000 (by omega), ?_⟩
    -- append 3
    obtain ⟨acc, hacc⟩ := O3.at
    refine ⟨_, rfl, .inl ⟨rfl, _, SqL.of hacc⟩, O3.oi.tabs, fun H5 x5 T5 => ?_⟩
    clear hacc
    refine ⟨_, rfl, v, .non, .non, .int 0, rfl, ho.plain, trivial, trivial, trivial, fun _ => bad_n (T := T0) (fun H6 u x6 T6 hu6 => ?_) x5 T5 ho.repr, fun z => (ho.noT z).elim, fun z => (ho.noT z).elim, fun z => (ho.noT z).elim, fun A B R q ea => (ho.noT (isI_int ea)).elim⟩
    obtain ⟨acc, h6, hlen, O4⟩ := (O3.ext x6 T6).app hu6
    refine ⟨L, _, _, rfl, rfl, h6, small1000 (by omega), ?_⟩
    -- append 4
    obtain ⟨acc, hacc⟩ := O4.at
    refine ⟨_, rfl, .inl ⟨rfl, _, SqL.of hacc⟩, O4.oi.tabs, fun H5 x5 T5 => ?_⟩
    clear hacc
    refine ⟨_, rfl, .int 1, v, .non, .int 0, rfl, trivial, ho.plain, trivial, trivial, fun z => tt_ff (show true = false from z), fun _ _ => bad_n (T := T0) (fun H6 u x6 T6 hu6 => ?_) x5 T5 ho.repr, fun _ z => (ho.noT z).elim, fun _ z => (ho.noT z).elim, fun A B R q _ eb => (ho.noT (isI_int eb)).elim⟩
    obtain ⟨acc, h6, hlen, O5⟩ := (O4.ext x6 T6).app hu6
    refine ⟨L, _, _, rfl, rfl, h6, small1000 (by omega), ?_⟩
    -- append 5
    obtain ⟨acc, hacc⟩ := O5.at
    refine ⟨_, rfl, .inl ⟨rfl, _, SqL.of hacc⟩, O5.oi.tabs, fun H5 x5 T5 => ?_⟩
    clear hacc
    refine ⟨_, rfl, .int 1, .int 2, v, .int 0, rfl, trivial, trivial, ho.plain, trivial, fun z => tt_ff (show true = false from z), fun _ z => tt_ff (show true = false from z), fun _ _ _ => bad_n (T := T0) (fun H6 u x6 T6 hu6 => ?_) x5 T5 ho.repr, fun _ _ z => (ho.noT z).elim, fun A B R q _ _ er => (ho.noT (isI_int er)).elim⟩
    obtain ⟨acc, h6, hlen, O6⟩ := (O5.ext x6 T6).app hu6
    refine ⟨L, _, _, rfl, rfl, h6, small1000 (by omega), ?_⟩
    -- append 6
    obtain ⟨acc, hacc⟩ := O6.at
    refine ⟨_, rfl, .inl ⟨rfl, _, SqL.of hacc⟩, O6.oi.tabs, fun H5 x5 T5 => ?_⟩
    clear hacc
    refine ⟨_, rfl, .int 1, .int 2, .int 3, v, rfl, trivial, trivial, trivial, ho.plain, fun z => tt_ff (show true = false from z), fun _ z => tt_ff (show true = false from z), fun _ _ z => tt_ff (show true = false from z), fun _ _ _ _ => bad_n (T := T0) (fun H6 u x6 T6 hu6 => ?_) x5 T5 ho.repr, fun A B R q _ _ _ ep hq => absurd ⟨q, ep, hq⟩ ho.noP⟩
    obtain ⟨acc, h6, hlen, O7⟩ := (O6.ext x6 T6).app hu6
    refine ⟨L, _, _, rfl, rfl, h6, small1000 (by omega), ?_⟩
    -- what was heard is due
    have shv := dN_odd ho
    have shl := dN_low hlow
    obtain ⟨acc, hacc, hlen, hall⟩ := O7.oi.told
    refine ⟨_, rfl, L, rfl, ⟨_, SqL.of hacc⟩, fun D hD => ?_⟩
    refine lc_list (K := K) (a := L) (xs := acc) (fun i H' => H' D = some (.lst []) ∧ LamX.ExtN _ H' ∧ LamX.Tabs T0 H') ⟨upd_same, LamX.ExtN.of (Same.new hD), O7.oi.tabs.ext (Same.new hD)⟩ (fun i H' _ ⟨_, x, _⟩ => SqL.of (x _ _ hacc (fun _ z => nomatch z))) ?_ ?_
    · rintro i y H' hi ⟨hd, x, tt⟩
      obtain ⟨t, rfl, ht⟩ := hall y (List.mem_of_getElem? hi)
      refine ⟨rfl, ?_⟩
      refine ⟨_, rfl, _, rfl, dN v, dN v, dN_dp (x _ _ ht (fun _ z => nomatch z)), dN_dp (x _ _ O7.oi.du (fun _ z => nomatch z)), shv, shv, _, rfl, ?_⟩
      rw [dN_eq]
      exact iteF ⟨hd, x, tt⟩
    rintro H8 ⟨hd8, x8, T8⟩
    refine ⟨Nat.zero_le _, fun m nm => ?_⟩
    have s8 : Same H8 (upd H8 m (.lst [])) := Same.new nm
    have O8 := (O7.ext x8 T8).ext (LamX.ExtN.of s8) (T8.ext s8)
    refine ⟨.list [], .list [], .lst (SqL.of (s8 _ _ hd8)) .nil, .lst (SqL.of upd_same) .nil, by decide +kernel, by decide +kernel, _, rfl, ?_⟩
    rw [PySem.SeqAt.eqv_refl_plain (.list []) rfl]
    refine iteF ?_
    -- remainder_of of low
    refine ⟨O8.oi.tabs, fun H5 x5 T5 => ?_⟩
    refine ⟨_, rfl, .int 1, .int 2, .int 3, l, rfl, trivial, trivial, trivial, hlow.plain, fun z => tt_ff (show true = false from z), fun _ z => tt_ff (show true = false from z), fun _ _ z => tt_ff (show true = false from z), fun _ _ _ _ => bad_n (T := T0) (fun H6 u x6 T6 hu6 => ?_) x5 T5 hlow.repr, fun A B R q _ _ _ ep hq => absurd ⟨q, ep, hq⟩ hlow.noP⟩
    refine ⟨_, rfl, l, rfl, hlow.repr, (by show 2 ≤ sizeLine; decide), fun m nm => ?_⟩
    have s9 : Same H6 (upd H6 m (.tup [.str "number", .str (reprV l)])) := Same.new nm
    refine ⟨dN l, dN l, dN_dp (s9 _ _ hu6), dN_dp upd_same, shl, shl, _, rfl, ?_⟩
    rw [dN_eq]
    refine iteF ?_
    replace O8 := (O8.ext x6 T6).ext (LamX.ExtN.of s9) (T6.ext s9)
    -- least_multiple of low
    refine ⟨O8.oi.tabs, fun H5 x5 T5 => ?_⟩
    refine ⟨_, rfl, _, rfl, l, v, rfl, hlow.plain, ho.plain, fun _ => bad_n (T := T0) (fun H6 u x6 T6 hu6 => ?_) x5 T5 hlow.repr, fun z => absurd z hlow.noP, fun a b ea _ h1 => absurd ⟨a, ea, h1⟩ hlow.noP⟩
    refine ⟨_, rfl, l, rfl, hlow.repr, (by show 2 ≤ sizeLine; decide), fun m nm => ?_⟩
    have s9 : Same H6 (upd H6 m (.tup [.str "number", .str (reprV l)])) := Same.new nm
    refine ⟨dN l, dN l, dN_dp (s9 _ _ hu6), dN_dp upd_same, shl, shl, _, rfl, ?_⟩
    rw [dN_eq]
    refine iteF ?_
    replace O8 := (O8.ext x6 T6).ext (LamX.ExtN.of s9) (T6.ext s9)
    -- bad
    obtain ⟨ns8, k8, st8⟩ := O8.st
    refine ⟨(by show 2 ≤ sizeLine; decide), fun a1 n1 => ?_⟩
    refine ⟨(by show 1 ≤ sizeLine; decide), fun a2 n2 => ?_⟩
    refine ⟨(by show 2 ≤ sizeLine; decide), fun a3 n3 => ?_⟩
    refine ⟨(by show 2 ≤ sizeLine; decide), fun a4 n4 => ?_⟩
    refine ⟨_, rfl, (by show 2 ≤ sizeLine; decide), fun a5 n5 => ?_⟩
    refine ⟨(by show 6 ≤ sizeLine; decide), fun a6 n6 => ?_⟩
    have g1 := Same.new (o := .lst [.int 1, .int 2]) n1
    have g2 := Same.new (o := .tup [.int 1]) n2
    have g3 := Same.new (o := .tup [.int 1, .int 0]) n3
    have g4 := Same.new (o := .tup [.bl true, .int 2]) n4
    have g5 := Same.new (o := .tup [.int 1, .int (-2)]) n5
    have g6 := Same.new (o := .tup [.non, .ref a1, .ref a2, .ref a3, .ref a4, .ref a5]) n6
    have q8 := st8.same (g1.trans (g2.trans (g3.trans (g4.trans (g5.trans g6)))))
    refine ⟨_, rfl, S, C, ns8, k8, 6, rfl, q8, by decide, by decide, fun H9 ns9 k9 r9 st9 b9 r90 r91 => ?_⟩
    have T9 : LamX.Tabs T0 H9 := tab_but q8 b9 (O8.oi.tabs.ext (g1.trans (g2.trans (g3.trans (g4.trans (g5.trans g6))))))
    have f1 : H9 a1 = some (.lst [.int 1, .int 2]) := by
      rw [b9 a1 (ne_of_none st8.st n1).symm (ne_of_none st8.ce n1).symm]
      exact (g2.trans (g3.trans (g4.trans (g5.trans g6)))) _ _ upd_same
    have f2 : H9 a2 = some (.tup [.int 1]) := q8.other b9 ((g3.trans (g4.trans (g5.trans g6))) _ _ upd_same) (fun _ z => nomatch z)
    have f3 : H9 a3 = some (.tup [.int 1, .int 0]) := q8.other b9 ((g4.trans (g5.trans g6)) _ _ upd_same) (fun _ z => nomatch z)
    have f4 : H9 a4 = some (.tup [.bl true, .int 2]) := q8.other b9 ((g5.trans g6) _ _ upd_same) (fun _ z => nomatch z)
    have f5 : H9 a5 = some (.tup [.int 1, .int (-2)]) := q8.other b9 (g6 _ _ upd_same) (fun _ z => nomatch z)
    have f6 : H9 a6 = some (.tup [.non, .ref a1, .ref a2, .ref a3, .ref a4, .ref a5]) := q8.other b9 upd_same (fun _ z => nomatch z)
    obtain ⟨b, hb, hrem⟩ : ∃ b, atI [V.non, V.ref a1, V.ref a2, V.ref a3, V.ref a4, V.ref a5] r9 = some b ∧ RemV H9 b false := by
      have : r9 = 0 ∨ r9 = 1 ∨ r9 = 2 ∨ r9 = 3 ∨ r9 = 4 ∨ r9 = 5 := by omega
      rcases this with rfl | rfl | rfl | rfl | rfl | rfl
      · exact ⟨_, atI_nat (j := 0) rfl, .non⟩
      · exact ⟨_, atI_nat (j := 1) rfl, .lst f1⟩
      · exact ⟨_, atI_nat (j := 2) rfl, .tup f2 (by decide)⟩
      · exact ⟨_, atI_nat (j := 3) rfl, .pair f3 trivial trivial⟩
      · exact ⟨_, atI_nat (j := 4) rfl, .pair f4 trivial trivial⟩
      · exact ⟨_, atI_nat (j := 5) rfl, .pair f5 trivial trivial⟩
    refine ⟨a6, _, r9, b, rfl, rfl, SqT.of f6, hb, ?_⟩
    clear f1 f2 f3 f4 f5 f6 g1 g2 g3 g4 g5 g6
    -- both_remainders(bad, (0, 1))
    refine ⟨T9, fun H5 x5 T5 => ?_⟩
    refine ⟨_, rfl, (by show 2 ≤ sizeLine; decide), fun tp np => ⟨b, .ref tp, false, _, rfl, (hrem.ext x5).same (Same.new np), .pair upd_same trivial trivial, fun _ => bad_p (T := T0) (fun H6 u x6 T6 hu6 => ?_) (x5.trans (LamX.ExtN.of (Same.new np))) (T5.ext (Same.new np)), fun z => tt_ff z.symm⟩⟩
    refine ⟨(by show 2 ≤ sizeLine; decide), fun m nm => ?_⟩
    have s9 : Same H6 (upd H6 m (.tup [.str "part", .str "remainder"])) := Same.new nm
    refine ⟨dP, dP, dP_dp (s9 _ _ hu6), dP_dp upd_same, dP_sh, dP_sh, _, rfl, ?_⟩
    rw [dP_eq]
    refine iteF ?_
    replace hrem := (hrem.ext x6).same s9
    replace T9 := T6.ext s9
    clear x5 T5
    -- both_remainders((0, 1), bad)
    refine ⟨T9, fun H5 x5 T5 => ?_⟩
    refine ⟨(by show 2 ≤ sizeLine; decide), fun tp np => ⟨_, rfl, .ref tp, b, _, false, rfl, .pair upd_same trivial trivial, (hrem.ext x5).same (Same.new np), fun _ => bad_p (T := T0) (fun H6 u x6 T6 hu6 => ?_) (x5.trans (LamX.ExtN.of (Same.new np))) (T5.ext (Same.new np)), fun _ z => tt_ff z.symm⟩⟩
    refine ⟨(by show 2 ≤ sizeLine; decide), fun m' nm' => ?_⟩
    have s9' : Same H6 (upd H6 m' (.tup [.str "part", .str "remainder"])) := Same.new nm'
    refine ⟨dP, dP, dP_dp (s9' _ _ hu6), dP_dp upd_same, dP_sh, dP_sh, ?_⟩
    rw [dP_eq]
    exact kk _
end
end K7
set_option Elab.async false
set_option linter.all false
set_option maxRecDepth 100000
set_option maxHeartbeats 8000000
namespace K7
open PySem PySem.Spec PyProof.Rows L2
theorem spLM_ints {CN : Addr} {a b : Int} {H : Hp} {Q : VK} {E : XK} (ha : 1 ≤ a) (hb : 1 ≤ b) (ba : a.natAbs < 2 ^ 200) (bb : b.natAbs < 2 ^ 200) (k : ∀ H', Same H H' → Q (.int (a * b / (Int.gcd a b : Int))) H') : spLM CN [.int a, .int b] H Q E :=
  ⟨_, _, rfl, trivial, trivial, fun z => absurd ⟨a, rfl, ha⟩ z, fun _ z => absurd ⟨b, rfl, hb⟩ z, fun a' b' ea eb _ _ => by cases ea; cases eb; exact ⟨ba, bb, k⟩⟩
/-- what the law carries: its state, the tables -/
structure LI (Pt : Addr) (H : Hp) (S C : Addr) : Prop where
  st : ∃ ns k, StAt H S C ns k
  tab : LamX.Tabs [(Pt, qL)] H
theorem LI.same {Pt : Addr} {H H' : Hp} {S C : Addr} (h : LI Pt H S C) (s : Same H H') : LI Pt H' S C := ⟨let ⟨ns, k, q⟩ := h.st; ⟨ns, k, q.same s⟩, h.tab.ext s⟩
/-- behind a draw -/
theorem LI.draw {Pt : Addr} {H H' : Hp} {S C : Addr} {ns ns' : List Int} {k k' : Int} (h : LI Pt H S C) (q : StAt H S C ns k) (q' : StAt H' S C ns' k') (b : But S C H H') : LI Pt H' S C := ⟨⟨ns', k', q'⟩, tab_but q b h.tab⟩
theorem mul_bd {n s : Int} (hn : n.natAbs < 2 ^ 98) (s0 : 0 ≤ s) (s1 : s < 9) : Bd (n * s) := by
  have h1 : (n * s).natAbs < 2 ^ 98 * 2 ^ 4 := by
    rw [Int.natAbs_mul]
    exact Nat.mul_lt_mul'' hn (by have : (2 : Nat) ^ 4 = 16 := by decide
                                  omega)
  rw [← Nat.pow_add] at h1
  exact Nat.lt_trans h1 (Nat.pow_lt_pow_right (by decide) (by decide))
theorem small_bd {n : Int} {j : Nat} (h : n.natAbs < 2 ^ j) (hj : j ≤ 190) : Bd n := Nat.lt_of_lt_of_le h (Nat.pow_le_pow_right (by decide) hj)
theorem far_bd {r p n : Int} (hr : r.natAbs < 2 ^ 98) (hp : p.natAbs < 2 ^ 72) (hn : n.natAbs < 2 ^ 98) : Bd (r + p * n) := by
  have h1 : (p * n).natAbs < 2 ^ 72 * 2 ^ 98 := by
    rw [Int.natAbs_mul]
    exact Nat.mul_lt_mul'' hp hn
  rw [← Nat.pow_add] at h1
  have h2 : (r + p * n).natAbs ≤ r.natAbs + (p * n).natAbs := Int.natAbs_add_le r (p * n)
  have e1 : (2 : Nat) ^ 98 ≤ 2 ^ (72 + 98) := Nat.pow_le_pow_right (by decide) (by decide)
  have e2 : (2 : Nat) ^ (72 + 98) + 2 ^ (72 + 98) = 2 ^ 171 := by rw [← Nat.mul_two, ← Nat.pow_succ]
  have e3 : (2 : Nat) ^ 171 ≤ 2 ^ 190 := Nat.pow_le_pow_right (by decide) (by decide)
  show (r + p * n).natAbs < 2 ^ 190
  omega
abbrev nsLaw : List Str := ["_law_script", "_law_state", "_law_turn", "_law_one", "_law_other", "_law_share", "_law_p", "_law_q", "_law_a", "_law_b", "_law_r"]
theorem scLaw : FnScope nsLaw ["_law_script"] (defScope (top 24)) := ⟨rfl, rfl, rfl, by decide +kernel, rfl, by decide +kernel, by decide +kernel⟩
def spLaw (K : PySem.W.Frag) (Pt : Addr) : Sp := fun vs H Q _ => ∃ (a : Addr) (ns : List Int), vs = [.ref a] ∧ SqL K H a (ns.map V.int) ∧ ns.length ≤ 63 ∧ H Pt = some (.tbl #[]) ∧ ∀ H', Q (.bl true) H'
section
variable {P : Program} {w : World} {K : PySem.W.Frag} {mg : Str → Option Value} {base : Heap} {CN fN CP fP C0 f Pt : Addr} {fd : FuncData}
theorem fn_law (F : Fun K "law" "law" (top 24) f fd) (T : Txt P K mg CN fN CP fP) (DD : Def P w K mg base CX0 1 "_law_draw" ["_law_state", "_law_limit"] spDraw) (DN : Def P w K mg base CX0 3 "_law_number" ["_law_state", "_law_most"] spNum)
    (DV : Def P w K mg base CX0 1 "_law_divisor" ["_law_one", "_law_other"] spDiv) (DG : Def P w K mg base (L2.CX P w) 5 "greatest_divisor" ["one", "other"] (spG CN)) (DM : Def P w K mg base (L2.CX P w) 7 "least_multiple" ["one", "other"] (spLM CN))
    (DL : Def P w K mg base CX0 9 "_law_line_right" ["_law_a", "_law_b", "_law_r", "_law_p"] spLine) (DB : Def P w K mg base CX0 11 "_law_both_right" ["_law_one", "_law_other"] spBoth) (DO : Def P w K mg base CX0 12 "_law_odd_right" ["_law_state"] (spOdd Pt)) :
    FnOk P w K mg base CX0 14 f fd ["_law_script"] (spLaw K Pt) := by
  refine F.ok scLaw (fun vs H Q E h => ?_) (fun cdv A outer s H vs Q E hr h => ?_)
  · obtain ⟨a, ns, rfl, _⟩ := h
    rfl
  · obtain ⟨a, ns, rfl, hS, hlen, hPt, kk⟩ := h
    have hr1 : Room 1 _ := hr.mono (by decide)
    have hr3 : Room 3 _ := hr.mono (by decide)
    have hr5 : Room 5 _ := hr.mono (by decide)
    have hr7 : Room 7 _ := hr.mono (by decide)
    have hr9 : Room 9 _ := hr.mono (by decide)
    have hr11 : Room 11 _ := hr.mono (by decide)
    have hr12 : Room 12 _ := hr.mono (by decide)
    refine ⟨_, pss_cons (ps_set (i := 1) scLaw.nd rfl (Or.inl rfl) (pe_lst (pa_cons (pe_callTy call_list_of (by rfl) T.list PyProof.Rows.boot_list (pa_cons (pv 0) pa_nil)) (pa_cons pe_int pa_nil))))
      (pss_cons (ps_for PassesOwn.never rfl (pi_range1 rfl T.range (pa_cons pe_int pa_nil)) (pg_name (i := 2) scLaw.nd rfl (Or.inl rfl))
        (pss_cons (ps_par (i := 3) (j := 4) rfl scLaw.nd rfl rfl (by decide) rfl rfl (pa_cons (pe_def DN hr3 pass0 (pa_cons (pv 1) (pa_cons pe_int pa_nil))) (pa_cons (pe_def DN hr3 pass0 (pa_cons (pv 1) (pa_cons pe_int pa_nil))) pa_nil)) (by rfl))
        (pss_cons (ps_set (i := 5) scLaw.nd rfl (Or.inl rfl) (pe_def DD hr1 pass0 (pa_cons (pv 1) (pa_cons pe_int pa_nil))))
        (pss_cons (ps_par (i := 3) (j := 4) rfl scLaw.nd rfl rfl (by decide) rfl rfl (pa_cons (pe_op op_mul (pv 3) (pv 5)) (pa_cons (pe_op op_mul (pv 4) (pv 5)) pa_nil)) (by rfl))
        (pss_cons (ps_if (pt_cmpR op_ne (pe_def DG hr5 passL (pa_cons (pv 3) (pa_cons (pv 4) pa_nil))) (pe_def DV hr1 pass0 (pa_cons (pv 3) (pa_cons (pv 4) pa_nil))) (nomark _)) (pss_one (ps_ret pe_bl)) pss_nil)
        (C8.pss_cut (ps_if (PW.pt (pw_and (pt_cmpR op_ne (pv 3) pe_int (nomark _)) (pw_and1 (pt_cmpR op_ne (pv 4) pe_int (nomark _)))))
          (pss_one (ps_if (pt_cmpR op_ne (pe_def DM hr7 passL (pa_cons (pe_callB call_abs (by rfl) T.abs PyProof.Rows.boot_abs (pa_cons (pv 3) pa_nil)) (pa_cons (pe_callB call_abs (by rfl) T.abs PyProof.Rows.boot_abs (pa_cons (pv 4) pa_nil)) pa_nil)))
            (pe_op op_fdivW (pe_callB call_abs (by rfl) T.abs PyProof.Rows.boot_abs (pa_cons (pe_op op_mulW (pv 3) (pv 4)) pa_nil)) (pe_def DV hr1 pass0 (pa_cons (pv 3) (pa_cons (pv 4) pa_nil)))) (nomark _)) (pss_one (ps_ret pe_bl)) pss_nil)) pss_nil)
        (pss_cons (ps_par (i := 6) (j := 7) rfl scLaw.nd rfl rfl (by decide) rfl rfl (pa_cons (pe_op op_add pe_int (pe_def DD hr1 pass0 (pa_cons (pv 1) (pa_cons pe_int pa_nil)))) (pa_cons (pe_op op_add pe_int (pe_def DD hr1 pass0 (pa_cons (pv 1) (pa_cons pe_int pa_nil)))) pa_nil)) (by rfl))
        (C8.pss_cut (ps_if (pt_cmpR op_eq (pe_def DD hr1 pass0 (pa_cons (pv 1) (pa_cons pe_int pa_nil))) pe_int (nomark _))
          (pss_one (ps_set (i := 6) scLaw.nd rfl (Or.inl rfl) (pe_op op_mul (pv 6) (pe_op op_add (pe_op op_pow pe_int pe_int) (pe_def DD hr1 pass0 (pa_cons (pv 1) (pa_cons pe_int pa_nil))))))) pss_nil)
        (pss_cons (ps_par3 (i := 8) (j := 9) (l := 10) rfl scLaw.nd rfl rfl rfl (by decide) (by decide) (by decide) rfl rfl rfl (pa_cons (pe_def DN hr3 pass0 (pa_cons (pv 1) (pa_cons pe_int pa_nil))) (pa_cons (pe_def DN hr3 pass0 (pa_cons (pv 1) (pa_cons pe_int pa_nil))) (pa_cons (pe_def DN hr3 pass0 (pa_cons (pv 1) (pa_cons pe_int pa_nil))) pa_nil))) (by rfl))
        (pss_cons (ps_if (PW.pt (pw_or (pt_not (pt_val (pe_def DL hr9 pass0 (pa_cons (pv 8) (pa_cons (pv 9) (pa_cons (pv 10) (pa_cons (pv 6) pa_nil)))))))
            (pw_or1 (pt_not (pt_val (pe_def DB hr11 pass0 (pa_cons (pe_tup (pa_cons (pv 10) (pa_cons (pv 6) pa_nil))) (pa_cons (pe_tup (pa_cons (pe_def DN hr3 pass0 (pa_cons (pv 1) (pa_cons pe_int pa_nil))) (pa_cons (pv 7) pa_nil))) pa_nil))))))))
          (pss_one (ps_ret pe_bl)) pss_nil)
        (pss_one (ps_if (pt_not (pt_val (pe_def DB hr11 pass0 (pa_cons (pe_tup (pa_cons (pv 10) (pa_cons (pv 6) pa_nil))) (pa_cons (pe_tup (pa_cons (pe_op op_add (pv 10) (pe_op op_mulW (pv 6) (pe_def DN hr3 pass0 (pa_cons (pv 1) (pa_cons pe_int pa_nil))))) (pa_cons (pv 7) pa_nil))) pa_nil)))))
          (pss_one (ps_ret pe_bl)) pss_nil))))))))))))
      (pss_one (ps_ret (pe_and (pe_cmpR op_eq (pe_def DG hr5 passL (pa_cons pe_int (pa_cons pe_int pa_nil))) pe_int (nomark _)) (pe_one (pe_def DO hr12 pass0 (pa_cons (pv 1) pa_nil))))))), ?_⟩
    refine ⟨_, rfl, a, _, rfl, .inl hS, fun C nC => ?_⟩
    refine ⟨(by show 2 ≤ sizeLine; decide), fun S nS => ?_⟩
    have sC : Same H (upd H C (.lst (ns.map V.int))) := Same.new nC
    have sS : Same (upd H C (.lst (ns.map V.int))) (upd (upd H C (.lst (ns.map V.int))) S (.lst [.ref C, .int 0])) := Same.new nS
    have hSC : S ≠ C := (ne_of_none upd_same nS).symm
    have L0 : LI Pt (upd (upd H C (.lst (ns.map V.int))) S (.lst [.ref C, .int 0])) S C :=
      ⟨⟨ns, 0, hSC, upd_same, sS _ _ upd_same, hlen⟩, fun p hp => by rw [List.mem_singleton.mp hp]; exact LamX.TabS.nil ((sC.trans sS) _ _ hPt)⟩
    have e64 : (2 : Int) ^ 64 = 18446744073709551616 := by decide
    refine ⟨4, rfl, by decide, by decide, for_range (n := 4) (fun i σ H' => ∃ v2 v3 v4 v5 v6 v7 v8 v9 v10 : Option V, σ = [some (.ref a), some (.ref S), v2, v3, v4, v5, v6, v7, v8, v9, v10] ∧ LI Pt H' S C)
      ⟨none, none, none, none, none, none, none, none, none, rfl, L0⟩ ?_ ?_⟩
    · rintro i σ H1 hi ⟨v2, v3, v4, v5, v6, v7, v8, v9, v10, rfl, L1⟩
      obtain ⟨ns1, k1, st1⟩ := L1.st
      refine ⟨_, rfl, S, C, ns1, k1, 30, rfl, st1, by decide, by decide, fun H2 ns2 k2 x st2 b2 bx => ?_⟩
      have L2 := L1.draw st1 st2 b2
      refine ⟨_, rfl, S, C, ns2, k2, 30, rfl, st2, by decide, by decide, fun H3 ns3 k3 y st3 b3 by_ => ?_⟩
      have L3 := L2.draw st2 st3 b3
      refine ⟨_, _, rfl, ?_⟩
      refine ⟨_, rfl, S, C, ns3, k3, 9, rfl, st3, by decide, by decide, fun H4 ns4 k4 z st4 b4 z0 z1 => ?_⟩
      have L4 := L3.draw st3 st4 b4
      refine ⟨_, rfl, _, rfl, _, _, rfl, rfl, .inr ⟨by omega, by omega⟩, _, rfl, _, rfl, _, _, rfl, rfl, .inr ⟨by omega, by omega⟩, _, _, rfl, ?_⟩
      have bX : Bd (x * z) := mul_bd bx z0 z1
      have bY : Bd (y * z) := mul_bd by_ z0 z1
      refine ⟨_, rfl, _, rfl, ?_⟩
      unfold tNil
      refine spG_ints ?_
      refine ⟨_, rfl, _, rfl, x * z, y * z, rfl, bX, bY, rfl, _, rfl, iteNS rfl ?_⟩
      refine ⟨fun σ' H' => σ' = [some (.ref a), some (.ref S), some (.int (0 + (i : Int))), some (.int (x * z)), some (.int (y * z)), some (.int z), v6, v7, v8, v9, v10] ∧ LI Pt H' S C, ?_, ?_⟩
      · -- least_multiple
        refine ⟨_, rfl, rfl, _, rfl, ?_⟩
        by_cases hX : x * z = 0
        · rw [show (!decide (V.int (x * z) = V.int 0)) = false by rw [hX]; rfl]
          exact iteF ⟨rfl, L4⟩
        · rw [show (!decide (V.int (x * z) = V.int 0)) = true by rw [decide_eq_false (fun q => hX (V.int.inj q))]; rfl]
          refine iteT ⟨_, rfl, rfl, _, rfl, ?_⟩
          by_cases hY : y * z = 0
          · rw [show (!decide (V.int (y * z) = V.int 0)) = false by rw [hY]; rfl]
            exact iteF ⟨rfl, L4⟩
          · rw [show (!decide (V.int (y * z) = V.int 0)) = true by rw [decide_eq_false (fun q => hY (V.int.inj q))]; rfl]
            refine iteT ⟨_, rfl, _, rfl, _, rfl, _, rfl, ?_⟩
            have g0 : 0 < Int.gcd (x * z) (y * z) := Int.gcd_pos_of_ne_zero_left _ hX
            refine spLM_ints (by rw [abs_if]; omega) (by rw [abs_if]; omega) (by rw [abs_if, Int.natAbs_natCast]; exact bX.up (by decide)) (by rw [abs_if, Int.natAbs_natCast]; exact bY.up (by decide)) fun H5 s5 => ?_
            refine ⟨_, rfl, _, rfl, _, _, rfl, rfl, wide_mul bX bY (by decide) (by decide) (by decide), _, rfl, _, rfl, _, rfl, x * z, y * z, rfl, bX, bY, _, _, rfl, rfl, wide_div (by omega) (gcd_bd bX bY) (by decide) (by decide), rfl, _, rfl, ?_⟩
            refine iteNS ?_ ⟨rfl, L4.same s5⟩
            show V.int ((if x * z < 0 then -(x * z) else x * z) * (if y * z < 0 then -(y * z) else y * z) / (Int.gcd (if x * z < 0 then -(x * z) else x * z) (if y * z < 0 then -(y * z) else y * z) : Int)) = V.int ((if x * z * (y * z) < 0 then -(x * z * (y * z)) else x * z * (y * z)) / (Int.gcd (x * z) (y * z) : Int))
            rw [abs_if, abs_if, abs_if, Int.natAbs_mul (x * z) (y * z), Int.natCast_mul]
            rfl
      rintro σ5 H5 ⟨rfl, L5⟩
      obtain ⟨ns5, k5, st5⟩ := L5.st
      -- p, q
      refine ⟨_, rfl, S, C, ns5, k5, 24, rfl, st5, by decide, by decide, fun H6 ns6 k6 p0 st6 b6 p00 p01 => ?_⟩
      have L6 := L5.draw st5 st6 b6
      refine ⟨_, _, rfl, rfl, _, rfl, S, C, ns6, k6, 24, rfl, st6, by decide, by decide, fun H7 ns7 k7 q0 st7 b7 q00 q01 => ?_⟩
      have L7 := L6.draw st6 st7 b7
      refine ⟨_, _, rfl, rfl, _, _, rfl, ?_⟩
      -- p made great
      have e72 : (2 : Nat) ^ 72 = 4722366482869645213696 := by decide
      have e20 : (10 : Int) ^ ((20 : Int).toNat) = 100000000000000000000 := by decide
      refine ⟨fun σ' H' => ∃ p : Int, 1 ≤ p ∧ p.natAbs < 2 ^ 72 ∧ σ' = [some (.ref a), some (.ref S), some (.int (0 + (i : Int))), some (.int (x * z)), some (.int (y * z)), some (.int z), some (.int p), some (.int (1 + q0)), v8, v9, v10] ∧ LI Pt H' S C, ?_, ?_⟩
      · refine ⟨_, rfl, S, C, ns7, k7, 4, rfl, st7, by decide, by decide, fun H8 ns8 k8 d st8 b8 d0 d1 => ?_⟩
        have L8 := L7.draw st7 st8 b8
        refine ⟨rfl, _, rfl, ite2 (fun _ => ?_) (fun _ => ?_)⟩
        · refine ⟨_, rfl, _, _, rfl, rfl, ⟨by decide, by decide, by decide⟩, _, rfl, S, C, ns8, k8, 3, rfl, st8, by decide, by decide, fun H9 ns9 k9 u st9 b9 u0 u1 => ?_⟩
          refine ⟨_, _, rfl, rfl, _, _, rfl, rfl, .inl ⟨by omega, by omega⟩, (1 + p0) * ((10 : Int) ^ ((20 : Int).toNat) + u), ?_, ?_, rfl, L8.draw st8 st9 b9⟩
          · have : (1 : Int) * 1 ≤ (1 + p0) * ((10 : Int) ^ ((20 : Int).toNat) + u) := Int.mul_le_mul (by omega) (by omega) (by decide) (by omega)
            omega
          · have h1 : (1 + p0) * ((10 : Int) ^ ((20 : Int).toNat) + u) ≤ 24 * 100000000000000000002 := Int.mul_le_mul (by omega) (by omega) (by omega) (by decide)
            have h2 : (1 : Int) * 1 ≤ (1 + p0) * ((10 : Int) ^ ((20 : Int).toNat) + u) := Int.mul_le_mul (by omega) (by omega) (by decide) (by omega)
            rw [e72]
            omega
        · exact ⟨1 + p0, by omega, by rw [e72]; omega, rfl, L8⟩
      rintro σ8 H8 ⟨p, p1, pb, rfl, L8⟩
      obtain ⟨ns8, k8, st8⟩ := L8.st
      have bP : Bd p := small_bd pb (by decide)
      have bQ : Bd (1 + q0) := by
        have e5 : (2 : Nat) ^ 5 = 32 := by decide
        exact small_bd (j := 5) (by rw [e5]; omega) (by decide)
      have q1 : 1 ≤ 1 + q0 := by omega
      -- a, b, r
      refine ⟨_, rfl, S, C, ns8, k8, 30, rfl, st8, by decide, by decide, fun H9 ns9 k9 A st9 b9 bA => ?_⟩
      have L9 := L8.draw st8 st9 b9
      refine ⟨_, rfl, S, C, ns9, k9, 30, rfl, st9, by decide, by decide, fun H10 ns10 k10 B st10 b10 bB => ?_⟩
      have L10 := L9.draw st9 st10 b10
      refine ⟨_, rfl, S, C, ns10, k10, 30, rfl, st10, by decide, by decide, fun H11 ns11 k11 R st11 b11 bR => ?_⟩
      have L11 := L10.draw st10 st11 b11
      refine ⟨_, _, _, rfl, ?_⟩
      have bR' : Bd R := small_bd bR (by decide)
      -- the line
      refine ⟨_, rfl, _, rfl, _, rfl, _, rfl, A, B, R, p, rfl, small_bd bA (by decide), small_bd bB (by decide), bR', bP, p1, fun H12 s12 => ⟨true, rfl, iteF ?_⟩⟩
      have L12 := L11.same s12
      -- both, drawn
      refine ⟨_, rfl, _, rfl, (by show 2 ≤ sizeLine; decide), fun o no => ?_⟩
      have s13 : Same H12 (upd H12 o (.tup [.int R, .int p])) := Same.new no
      have L13 := L12.same s13
      obtain ⟨ns13, k13, st13⟩ := L13.st
      refine ⟨_, rfl, S, C, ns13, k13, 30, rfl, st13, by decide, by decide, fun H14 ns14 k14 n st14 b14 bn => ?_⟩
      have L14 := L13.draw st13 st14 b14
      have o14 : H14 o = some (.tup [.int R, .int p]) := st13.other b14 upd_same (fun _ z => nomatch z)
      refine ⟨_, rfl, (by show 2 ≤ sizeLine; decide), fun c nc => ?_⟩
      have s15 : Same H14 (upd H14 c (.tup [.int n, .int (1 + q0)])) := Same.new nc
      refine ⟨o, c, R, p, n, 1 + q0, rfl, s15 _ _ o14, upd_same, bR', bP, small_bd bn (by decide), bQ, p1, q1, fun H16 s16 => ⟨true, rfl, iteF ?_⟩⟩
      have L16 := L14.same (s15.trans s16)
      -- both, that meet
      refine ⟨_, rfl, _, rfl, (by show 2 ≤ sizeLine; decide), fun o' no' => ?_⟩
      have s17 : Same H16 (upd H16 o' (.tup [.int R, .int p])) := Same.new no'
      have L17 := L16.same s17
      obtain ⟨ns17, k17, st17⟩ := L17.st
      refine ⟨_, rfl, _, rfl, _, rfl, S, C, ns17, k17, 9, rfl, st17, by decide, by decide, fun H18 ns18 k18 m st18 b18 bm => ?_⟩
      have L18 := L17.draw st17 st18 b18
      have o18 : H18 o' = some (.tup [.int R, .int p]) := st17.other b18 upd_same (fun _ z => nomatch z)
      refine ⟨_, _, rfl, rfl, wide_mul pb bm (by decide) (by decide) (by decide), _, _, rfl, rfl, _, rfl, (by show 2 ≤ sizeLine; decide), fun c' nc' => ?_⟩
      have s19 : Same H18 (upd H18 c' (.tup [.int (R + p * m), .int (1 + q0)])) := Same.new nc'
      refine ⟨o', c', R, p, R + p * m, 1 + q0, rfl, s19 _ _ o18, upd_same, bR', bP, far_bd bR pb bm, bQ, p1, q1, fun H20 s20 => ⟨true, rfl, iteF ?_⟩⟩
      exact ⟨_, _, _, _, _, _, _, _, _, rfl, L18.same (s19.trans s20)⟩
    · rintro σ H1 ⟨v2, v3, v4, v5, v6, v7, v8, v9, v10, rfl, L1⟩
      refine ⟨.int 0, .int 0, rfl, trivial, trivial, fun z => tt_ff (show true = false from z), fun _ z => tt_ff (show true = false from z), fun a' b' ea eb => ?_⟩
      cases ea
      cases eb
      refine ⟨rfl, _, rfl, iteT ?_⟩
      obtain ⟨ns1, k1, st1⟩ := L1.st
      exact ⟨_, rfl, S, C, ns1, k1, rfl, st1, L1.tab _ List.mem_cons_self, fun H' => kk H'⟩
end
end K7
set_option Elab.async false
set_option linter.all false
set_option maxRecDepth 100000
set_option maxHeartbeats 8000000
namespace K7
open PySem PySem.Spec PyProof.Rows L2
theorem kit_self {K : PySem.W.Frag} {C : Addr} : PySem.W.kitOne K (.ref C) (.ref C) = some true := by
  unfold PySem.W.kitOne
  rw [if_pos (by simp)]
theorem kit_other {K : PySem.W.Frag} {C D : Addr} {b : Bool} (ne : (Value.ref D == Value.ref C) = false) (i : PySem.W.isClsIn K C = true) (t : PySem.W.typeIn K (.ref C) = some (.type "type")) (s : PySem.W.subIn K (.ref D) (.ref C) = some b) : PySem.W.kitOne K (.ref D) (.ref C) = some b := by
  unfold PySem.W.kitOne
  rw [ne, if_neg Bool.false_ne_true]
  have i' : (PySem.W.clsIn K C).isSome = true := i
  show (if ((PySem.W.clsIn K C).isSome && PySem.W.typeIn K (.ref C) == some (.type "type")) = true then PySem.W.subIn K (.ref D) (.ref C) else none) = some b
  rw [i', t, if_pos (by rfl)]
  exact s
theorem ve_mro (C0 : Addr) : PySem.HandSPX.refsVE [.ref C0, .type "ValueError", .type "Exception", .type "BaseException", .type "object"] = true := (show PySem.HandSPX.refsVE [.type "ValueError", .type "Exception", .type "BaseException", .type "object"] = true by decide +kernel)

theorem all_mk {l : PySem.W.OpenLaw} {w : World} {K : PySem.W.Frag} {h : Heap} {mg : Str → Option Value} {fa : Addr} {f1 : Addr} {od1 an1 : Option Addr} {sl1 : Array (Option Value)} {oc1 kV1 dc1 pm1 ct1 : Value} {cd1 : Value} {f7 : Addr} {od7 an7 : Option Addr} {sl7 : Array (Option Value)} {oc7 kV7 dc7 pm7 ct7 : Value} {cd7 : Value} {f8 : Addr} {od8 an8 : Option Addr} {sl8 : Array (Option Value)} {oc8 kV8 dc8 pm8 ct8 : Value} {cd8 : Value} {f10 : Addr} {od10 an10 : Option Addr} {sl10 : Array (Option Value)} {oc10 kV10 dc10 pm10 ct10 : Value} {cd10 : Value} {f11 : Addr} {od11 an11 : Option Addr} {sl11 : Array (Option Value)} {oc11 kV11 dc11 pm11 ct11 : Value} {cd11 : Value} {f12 : Addr} {od12 an12 : Option Addr} {sl12 : Array (Option Value)} {oc12 kV12 dc12 pm12 ct12 : Value} {cd12 : Value} {f13 : Addr} {od13 an13 : Option Addr} {sl13 : Array (Option Value)} {oc13 kV13 dc13 pm13 ct13 : Value} {cd13 : Value} {f14 : Addr} {od14 an14 : Option Addr} {sl14 : Array (Option Value)} {oc14 kV14 dc14 pm14 ct14 : Value} {cd14 : Value} {f15 : Addr} {od15 an15 : Option Addr} {sl15 : Array (Option Value)} {oc15 kV15 dc15 pm15 ct15 : Value} {cd15 : Value} {f17 : Addr} {od17 an17 : Option Addr} {sl17 : Array (Option Value)} {oc17 kV17 dc17 pm17 ct17 : Value} {cd17 : Value} {f18 : Addr} {od18 an18 : Option Addr} {sl18 : Array (Option Value)} {oc18 kV18 dc18 pm18 ct18 : Value} {cd18 : Value} {f19 : Addr} {od19 an19 : Option Addr} {sl19 : Array (Option Value)} {oc19 kV19 dc19 pm19 ct19 : Value} {cd19 : Value} {f20 : Addr} {od20 an20 : Option Addr} {sl20 : Array (Option Value)} {oc20 kV20 dc20 pm20 ct20 : Value} {cd20 : Value} {f21 : Addr} {od21 an21 : Option Addr} {sl21 : Array (Option Value)} {oc21 kV21 dc21 pm21 ct21 : Value} {cd21 : Value} {f22 : Addr} {od22 an22 : Option Addr} {sl22 : Array (Option Value)} {oc22 kV22 dc22 pm22 ct22 : Value} {cd22 : Value} {f23 : Addr} {od23 an23 : Option Addr} {sl23 : Array (Option Value)} {oc23 kV23 dc23 pm23 ct23 : Value} {f24 : Addr} {od24 an24 : Option Addr} {sl24 : Array (Option Value)} {oc24 kV24 dc24 pm24 ct24 : Value} {cd24 : Value} {cO Pt C0 : Addr} {CN fN NN cdN ccN : Addr} {nmN qN : Str} {bsN : List Value} {snN : List Str} {subN : List Value} {abN : Bool} {colN : Option Bool} {ddN : Option Addr} {m0N m1N m2N m3N m5N : Option Value} {ocN : Value} {odN : Option Addr} {dcN pmN : Value} {anN : Option Addr} {ctN : Value} {slN : Array (Option Value)} {cclN : Value} {cddN : Option Addr} {vsN : Array Value} {ccsN : Array (Option Value)} {fileN : Str} {tfN : Tok} {clN : Value} {cldN : Option Addr} {cslN : Array (Option Value)} {CP fP NP cdP ccP : Addr} {nmP qP : Str} {bsP : List Value} {snP : List Str} {subP : List Value} {abP : Bool} {colP : Option Bool} {ddP : Option Addr} {m0P m1P m2P m3P m5P : Option Value} {ocP : Value} {odP : Option Addr} {dcP pmP : Value} {anP : Option Addr} {ctP : Value} {slP : Array (Option Value)} {cclP : Value} {cddP : Option Addr} {vsP : Array Value} {ccsP : Array (Option Value)} {fileP : Str} {tfP : Tok} {clP : Value} {cldP : Option Addr} {cslP : Array (Option Value)}
    (X : K.In h) (G : h.Ns mainGlobals mg) (hfa : mg "law" = some (.ref fa))
    (a1 : PySem.W.nsIn K mainGlobals "is_integer" = some (some (.ref f1)))
    (l1 : K.lookup f1 = some ⟨oc1, od1, .func (PySem.W.fnOf "is_integer" "is_integer" (defArgs (top 1)) (defBody (top 1)) (defScope (top 1)) .none kV1 dc1 pm1 an1 (cd1) ct1), sl1⟩)
    (c1 : PySem.W.codeIn K (cd1) "is_integer" = true)
    (k1 : PySem.W.keepIn K (.ref f1) = true)
    (a7 : PySem.W.nsIn K mainGlobals "check_integer" = some (some (.ref f7)))
    (l7 : K.lookup f7 = some ⟨oc7, od7, .func (PySem.W.fnOf "check_integer" "check_integer" (defArgs (top 7)) (defBody (top 7)) (defScope (top 7)) .none kV7 dc7 pm7 an7 (cd7) ct7), sl7⟩)
    (c7 : PySem.W.codeIn K (cd7) "check_integer" = true)
    (k7 : PySem.W.keepIn K (.ref f7) = true)
    (a8 : PySem.W.nsIn K mainGlobals "check_remainder" = some (some (.ref f8)))
    (l8 : K.lookup f8 = some ⟨oc8, od8, .func (PySem.W.fnOf "check_remainder" "check_remainder" (defArgs (top 8)) (defBody (top 8)) (defScope (top 8)) .none kV8 dc8 pm8 an8 (cd8) ct8), sl8⟩)
    (c8 : PySem.W.codeIn K (cd8) "check_remainder" = true)
    (k8 : PySem.W.keepIn K (.ref f8) = true)
    (a10 : PySem.W.nsIn K mainGlobals "greatest_divisor" = some (some (.ref f10)))
    (l10 : K.lookup f10 = some ⟨oc10, od10, .func (PySem.W.fnOf "greatest_divisor" "greatest_divisor" (defArgs (top 10)) (defBody (top 10)) (defScope (top 10)) .none kV10 dc10 pm10 an10 (cd10) ct10), sl10⟩)
    (c10 : PySem.W.codeIn K (cd10) "greatest_divisor" = true)
    (k10 : PySem.W.keepIn K (.ref f10) = true)
    (a11 : PySem.W.nsIn K mainGlobals "least_multiple" = some (some (.ref f11)))
    (l11 : K.lookup f11 = some ⟨oc11, od11, .func (PySem.W.fnOf "least_multiple" "least_multiple" (defArgs (top 11)) (defBody (top 11)) (defScope (top 11)) .none kV11 dc11 pm11 an11 (cd11) ct11), sl11⟩)
    (c11 : PySem.W.codeIn K (cd11) "least_multiple" = true)
    (k11 : PySem.W.keepIn K (.ref f11) = true)
    (a12 : PySem.W.nsIn K mainGlobals "inverse" = some (some (.ref f12)))
    (l12 : K.lookup f12 = some ⟨oc12, od12, .func (PySem.W.fnOf "inverse" "inverse" (defArgs (top 12)) (defBody (top 12)) (defScope (top 12)) .none kV12 dc12 pm12 an12 (cd12) ct12), sl12⟩)
    (c12 : PySem.W.codeIn K (cd12) "inverse" = true)
    (k12 : PySem.W.keepIn K (.ref f12) = true)
    (a13 : PySem.W.nsIn K mainGlobals "remainder_of" = some (some (.ref f13)))
    (l13 : K.lookup f13 = some ⟨oc13, od13, .func (PySem.W.fnOf "remainder_of" "remainder_of" (defArgs (top 13)) (defBody (top 13)) (defScope (top 13)) .none kV13 dc13 pm13 an13 (cd13) ct13), sl13⟩)
    (c13 : PySem.W.codeIn K (cd13) "remainder_of" = true)
    (k13 : PySem.W.keepIn K (.ref f13) = true)
    (a14 : PySem.W.nsIn K mainGlobals "is_remainder" = some (some (.ref f14)))
    (l14 : K.lookup f14 = some ⟨oc14, od14, .func (PySem.W.fnOf "is_remainder" "is_remainder" (defArgs (top 14)) (defBody (top 14)) (defScope (top 14)) .none kV14 dc14 pm14 an14 (cd14) ct14), sl14⟩)
    (c14 : PySem.W.codeIn K (cd14) "is_remainder" = true)
    (k14 : PySem.W.keepIn K (.ref f14) = true)
    (a15 : PySem.W.nsIn K mainGlobals "both_remainders" = some (some (.ref f15)))
    (l15 : K.lookup f15 = some ⟨oc15, od15, .func (PySem.W.fnOf "both_remainders" "both_remainders" (defArgs (top 15)) (defBody (top 15)) (defScope (top 15)) .none kV15 dc15 pm15 an15 (cd15) ct15), sl15⟩)
    (c15 : PySem.W.codeIn K (cd15) "both_remainders" = true)
    (k15 : PySem.W.keepIn K (.ref f15) = true)
    (a17 : PySem.W.nsIn K mainGlobals "_law_draw" = some (some (.ref f17)))
    (l17 : K.lookup f17 = some ⟨oc17, od17, .func (PySem.W.fnOf "_law_draw" "_law_draw" (defArgs (top 17)) (defBody (top 17)) (defScope (top 17)) .none kV17 dc17 pm17 an17 (cd17) ct17), sl17⟩)
    (c17 : PySem.W.codeIn K (cd17) "_law_draw" = true)
    (k17 : PySem.W.keepIn K (.ref f17) = true)
    (a18 : PySem.W.nsIn K mainGlobals "_law_number" = some (some (.ref f18)))
    (l18 : K.lookup f18 = some ⟨oc18, od18, .func (PySem.W.fnOf "_law_number" "_law_number" (defArgs (top 18)) (defBody (top 18)) (defScope (top 18)) .none kV18 dc18 pm18 an18 (cd18) ct18), sl18⟩)
    (c18 : PySem.W.codeIn K (cd18) "_law_number" = true)
    (k18 : PySem.W.keepIn K (.ref f18) = true)
    (a19 : PySem.W.nsIn K mainGlobals "_law_divisor" = some (some (.ref f19)))
    (l19 : K.lookup f19 = some ⟨oc19, od19, .func (PySem.W.fnOf "_law_divisor" "_law_divisor" (defArgs (top 19)) (defBody (top 19)) (defScope (top 19)) .none kV19 dc19 pm19 an19 (cd19) ct19), sl19⟩)
    (c19 : PySem.W.codeIn K (cd19) "_law_divisor" = true)
    (k19 : PySem.W.keepIn K (.ref f19) = true)
    (a20 : PySem.W.nsIn K mainGlobals "_law_line_right" = some (some (.ref f20)))
    (l20 : K.lookup f20 = some ⟨oc20, od20, .func (PySem.W.fnOf "_law_line_right" "_law_line_right" (defArgs (top 20)) (defBody (top 20)) (defScope (top 20)) .none kV20 dc20 pm20 an20 (cd20) ct20), sl20⟩)
    (c20 : PySem.W.codeIn K (cd20) "_law_line_right" = true)
    (k20 : PySem.W.keepIn K (.ref f20) = true)
    (a21 : PySem.W.nsIn K mainGlobals "_law_both_right" = some (some (.ref f21)))
    (l21 : K.lookup f21 = some ⟨oc21, od21, .func (PySem.W.fnOf "_law_both_right" "_law_both_right" (defArgs (top 21)) (defBody (top 21)) (defScope (top 21)) .none kV21 dc21 pm21 an21 (cd21) ct21), sl21⟩)
    (c21 : PySem.W.codeIn K (cd21) "_law_both_right" = true)
    (k21 : PySem.W.keepIn K (.ref f21) = true)
    (a22 : PySem.W.nsIn K mainGlobals "_law_heard" = some (some (.ref f22)))
    (l22 : K.lookup f22 = some ⟨oc22, od22, .func (PySem.W.fnOf "_law_heard" "_law_heard" (defArgs (top 22)) (defBody (top 22)) (defScope (top 22)) .none kV22 dc22 pm22 an22 (cd22) ct22), sl22⟩)
    (c22 : PySem.W.codeIn K (cd22) "_law_heard" = true)
    (k22 : PySem.W.keepIn K (.ref f22) = true)
    (a23 : PySem.W.nsIn K mainGlobals "_law_odd_right" = some (some (.ref f23)))
    (l23 : K.lookup f23 = some ⟨oc23, od23, .func (PySem.W.fnOf "_law_odd_right" "_law_odd_right" (defArgs (top 23)) (defBody (top 23)) (defScope (top 23)) .none kV23 dc23 pm23 an23 (.ref cO) ct23), sl23⟩)
    (c23 : PySem.W.codeIn K (.ref cO) "_law_odd_right" = true)
    (k23 : PySem.W.keepIn K (.ref f23) = true)
    (a24 : PySem.W.nsIn K mainGlobals "law" = some (some (.ref f24)))
    (l24 : K.lookup f24 = some ⟨oc24, od24, .func (PySem.W.fnOf "law" "law" (defArgs (top 24)) (defBody (top 24)) (defScope (top 24)) .none kV24 dc24 pm24 an24 (cd24) ct24), sl24⟩)
    (c24 : PySem.W.codeIn K (cd24) "law" = true)
    (k24 : PySem.W.keepIn K (.ref f24) = true)
    (aC0 : PySem.W.nsIn K mainGlobals "PlaneError" = some (some (.ref C0)))
    (e0 : PySem.W.subIn K (.ref C0) (.type "BaseException") = some true)
    (h0 : PySem.W.hasDictIn K C0 = true)
    (t0 : PySem.W.typeIn K (.ref C0) = some (.type "type"))
    (aN : PySem.W.nsIn K mainGlobals "BadNumber" = some (some (.ref CN)))
    (xN : K.lookup CN = some (excClassObj nmN qN CN NN bsN [.ref C0, .type "ValueError", .type "Exception", .type "BaseException", .type "object"] true snN subN abN colN ddN m0N m1N m2N m3N m5N "ValueError.__new__"))
    (saN : PySem.W.findIn K (.ref CN) "__setattr__" = some (some (.builtin "object.__setattr__")))
    (gaN : PySem.W.findIn K (.ref CN) "__getattribute__" = some (some (.builtin "BaseException.__getattribute__")))
    (ggN : PySem.W.findIn K (.ref CN) "__getattr__" = some none)
    (nbN : PySem.W.findIn K (.ref CN) "number" = some none)
    (iN : PySem.W.findIn K (.ref CN) "__init__" = some (some (.ref fN)))
    (tN : PySem.W.typeIn K (.ref fN) = some (.type "function"))
    (kcN : PySem.W.keepIn K (.ref CN) = true)
    (ecN : PySem.W.subIn K (.ref CN) (.type "BaseException") = some true)
    (tyN : PySem.W.typeIn K (.ref CN) = some (.type "type"))
    (hdN : PySem.W.hasDictIn K CN = true)
    (mrN : PySem.W.mroIn K CN (.ref CN) = some true)
    (veN : PySem.W.subIn K (.ref CN) (.type "ValueError") = some true)
    (suN : PySem.W.ks_superIn K CN CN "__init__" = some (some (.builtin "ValueError.__init__")))
    (lN : K.lookup fN = some ⟨ocN, odN, .func (PySem.W.ksFn "__init__" "BadNumber.__init__" PySem.EXN.iA PySem.EXN.iB PySem.EXN.iS .none .none dcN pmN anN (.ref cdN) ctN ccN), slN⟩)
    (cN : PySem.W.codeIn K (.ref cdN) "BadNumber.__init__" = true)
    (lcN : K.lookup cdN = some ⟨cclN, cddN, .fields vsN, ccsN⟩)
    (fiN : vsN[2]? = some (.str fileN tfN))
    (feN : ((l.prog.main.file : Str) == fileN) = true)
    (ceN : K.lookup ccN = some ⟨clN, cldN, .cell (some (.ref CN)), cslN⟩)
    (s0N : PySem.W.subIn K (.ref CN) (.ref C0) = some true)
    (clN : PySem.W.findIn K (.ref CN) "__class__" = some (some (.builtin "object.__class__")))
    (moN : PySem.W.mroIn K CN (.type "object") = some true)
    (aP : PySem.W.nsIn K mainGlobals "BadPart" = some (some (.ref CP)))
    (xP : K.lookup CP = some (excClassObj nmP qP CP NP bsP [.ref C0, .type "ValueError", .type "Exception", .type "BaseException", .type "object"] true snP subP abP colP ddP m0P m1P m2P m3P m5P "ValueError.__new__"))
    (saP : PySem.W.findIn K (.ref CP) "__setattr__" = some (some (.builtin "object.__setattr__")))
    (gaP : PySem.W.findIn K (.ref CP) "__getattribute__" = some (some (.builtin "BaseException.__getattribute__")))
    (ggP : PySem.W.findIn K (.ref CP) "__getattr__" = some none)
    (nbP : PySem.W.findIn K (.ref CP) "part" = some none)
    (iP : PySem.W.findIn K (.ref CP) "__init__" = some (some (.ref fP)))
    (tP : PySem.W.typeIn K (.ref fP) = some (.type "function"))
    (kcP : PySem.W.keepIn K (.ref CP) = true)
    (ecP : PySem.W.subIn K (.ref CP) (.type "BaseException") = some true)
    (tyP : PySem.W.typeIn K (.ref CP) = some (.type "type"))
    (hdP : PySem.W.hasDictIn K CP = true)
    (mrP : PySem.W.mroIn K CP (.ref CP) = some true)
    (veP : PySem.W.subIn K (.ref CP) (.type "ValueError") = some true)
    (suP : PySem.W.ks_superIn K CP CP "__init__" = some (some (.builtin "ValueError.__init__")))
    (lP : K.lookup fP = some ⟨ocP, odP, .func (PySem.W.ksFn "__init__" "BadPart.__init__" PySem.EXP.iA PySem.EXP.iB PySem.EXP.iS .none .none dcP pmP anP (.ref cdP) ctP ccP), slP⟩)
    (cP : PySem.W.codeIn K (.ref cdP) "BadPart.__init__" = true)
    (lcP : K.lookup cdP = some ⟨cclP, cddP, .fields vsP, ccsP⟩)
    (fiP : vsP[2]? = some (.str fileP tfP))
    (feP : ((l.prog.main.file : Str) == fileP) = true)
    (ceP : K.lookup ccP = some ⟨clP, cldP, .cell (some (.ref CP)), cslP⟩)
    (s0P : PySem.W.subIn K (.ref CP) (.ref C0) = some true)
    (clP : PySem.W.findIn K (.ref CP) "__class__" = some (some (.builtin "object.__class__")))
    (moP : PySem.W.mroIn K CP (.type "object") = some true)
    (sp : PySem.W.specialIn K (.builtin "object.__class__") "__get__" = some (some (.builtin "getset_descriptor.__get__")))
    (tk : PySem.W.takesIn K (.builtin "object.__class__") = some true)
    (ne : (Value.ref CP == Value.ref CN) = false)
    (sPN : PySem.W.subIn K (.ref CP) (.ref CN) = some false)
    (isN : PySem.W.isClsIn K CN = true)
    (isP : PySem.W.isClsIn K CP = true)
    (nt : PySem.W.nsIn K PySem.cStatics "thirdparty.any" = some none)
    (tp : (l.prog.main.scope.names.lookup ("super" : Str)).isSome = false)
    (z_super : PySem.W.nsIn K mainGlobals "super" = some none)
    (z_isinstance : PySem.W.nsIn K mainGlobals "isinstance" = some none)
    (z_int : PySem.W.nsIn K mainGlobals "int" = some none)
    (z_bool : PySem.W.nsIn K mainGlobals "bool" = some none)
    (z_tuple : PySem.W.nsIn K mainGlobals "tuple" = some none)
    (z_len : PySem.W.nsIn K mainGlobals "len" = some none)
    (z_all : PySem.W.nsIn K mainGlobals "all" = some none)
    (z_abs : PySem.W.nsIn K mainGlobals "abs" = some none)
    (z_range : PySem.W.nsIn K mainGlobals "range" = some none)
    (z_repr : PySem.W.nsIn K mainGlobals "repr" = some none)
    (z_list : PySem.W.nsIn K mainGlobals "list" = some none)
    (hcode : PySem.W.codeHdIn K cO Pt = true)
    (nP : K.lookup Pt = none)
    (hT : h.get? Pt = some { cls := .none, data := .fields #[] }) : LamX.LawAtS l w K CX0 14 63 "_law_script" mg fa h := by
  have e := hfa.symm.trans (PySem.W.mg_of X G a24)
  cases e
  have TN : PySem.EXN.BadTxt l.prog K mg CN fN := { gC := PySem.W.mg_of X G aN, gS := PySem.W.mg_none_of X G z_super, cls := ⟨_, _, _, _, _, _, _, _, _, _, _, _, _, _, _, xN, ve_mro C0⟩, sa := saN, ga := gaN, gg := ggN, noN := nbN, iC := iN, tC := tN, kC := kcN, exC := ecN, tyC := tyN, hdC := hdN, mro := mrN, veC := veN, sup := suN, nt := nt, top := tp, fn := ⟨_, _, _, _, _, _, _, _, _, _, _, _, _, _, _, _, _, _, lN, cN, lcN, fiN, feN, ceN⟩ }
  have XN : ExcC K CN := ⟨gaN, ggN, ecN, hdN, clN, sp, tk, moN⟩
  have TP : PySem.EXP.BadTxt l.prog K mg CP fP := { gC := PySem.W.mg_of X G aP, gS := PySem.W.mg_none_of X G z_super, cls := ⟨_, _, _, _, _, _, _, _, _, _, _, _, _, _, _, xP, ve_mro C0⟩, sa := saP, ga := gaP, gg := ggP, noN := nbP, iC := iP, tC := tP, kC := kcP, exC := ecP, tyC := tyP, hdC := hdP, mro := mrP, veC := veP, sup := suP, nt := nt, top := tp, fn := ⟨_, _, _, _, _, _, _, _, _, _, _, _, _, _, _, _, _, _, lP, cP, lcP, fiP, feP, ceP⟩ }
  have XP : ExcC K CP := ⟨gaP, ggP, ecP, hdP, clP, sp, tk, moP⟩
  have T : Txt l.prog K mg CN fN CP fP := { n := TN, p := TP, isinstance := PySem.W.mg_none_of X G z_isinstance, int := PySem.W.mg_none_of X G z_int, bool := PySem.W.mg_none_of X G z_bool, tuple := PySem.W.mg_none_of X G z_tuple, len := PySem.W.mg_none_of X G z_len, all := PySem.W.mg_none_of X G z_all, abs := PySem.W.mg_none_of X G z_abs, range := PySem.W.mg_none_of X G z_range, repr := PySem.W.mg_none_of X G z_repr, list := PySem.W.mg_none_of X G z_list }
  have R : Err K mg CN CP C0 := { g0 := PySem.W.mg_of X G aC0, eN := PySem.W.exm_ref e0 h0 t0 s0N, eP := PySem.W.exm_ref e0 h0 t0 s0P, cN := XN, cP := XP, nn := kit_self, pn := kit_other ne isN tyN sPN, pp := kit_self }
  have F1 := fun_mk (st := top 1) l1 c1 k1
  have b1 := F1.binds (ps := ["value"]) fun _ _ _ _ _ _ us hl => match us, hl with | [_], _ => rfl
  have m1 := PySem.W.mg_of X G a1
  have F7 := fun_mk (st := top 7) l7 c7 k7
  have b7 := F7.binds (ps := ["number"]) fun _ _ _ _ _ _ us hl => match us, hl with | [_], _ => rfl
  have m7 := PySem.W.mg_of X G a7
  have F8 := fun_mk (st := top 8) l8 c8 k8
  have b8 := F8.binds (ps := ["r", "p"]) fun _ _ _ _ _ _ us hl => match us, hl with | [_, _], _ => rfl
  have m8 := PySem.W.mg_of X G a8
  have F10 := fun_mk (st := top 10) l10 c10 k10
  have b10 := F10.binds (ps := ["one", "other"]) fun _ _ _ _ _ _ us hl => match us, hl with | [_, _], _ => rfl
  have m10 := PySem.W.mg_of X G a10
  have F11 := fun_mk (st := top 11) l11 c11 k11
  have b11 := F11.binds (ps := ["one", "other"]) fun _ _ _ _ _ _ us hl => match us, hl with | [_, _], _ => rfl
  have m11 := PySem.W.mg_of X G a11
  have F12 := fun_mk (st := top 12) l12 c12 k12
  have b12 := F12.binds (ps := ["number", "modulus"]) fun _ _ _ _ _ _ us hl => match us, hl with | [_, _], _ => rfl
  have m12 := PySem.W.mg_of X G a12
  have F13 := fun_mk (st := top 13) l13 c13 k13
  have b13 := F13.binds (ps := ["a", "b", "r", "p"]) fun _ _ _ _ _ _ us hl => match us, hl with | [_, _, _, _], _ => rfl
  have m13 := PySem.W.mg_of X G a13
  have F14 := fun_mk (st := top 14) l14 c14 k14
  have b14 := F14.binds (ps := ["value"]) fun _ _ _ _ _ _ us hl => match us, hl with | [_], _ => rfl
  have m14 := PySem.W.mg_of X G a14
  have F15 := fun_mk (st := top 15) l15 c15 k15
  have b15 := F15.binds (ps := ["one", "other"]) fun _ _ _ _ _ _ us hl => match us, hl with | [_, _], _ => rfl
  have m15 := PySem.W.mg_of X G a15
  have F17 := fun_mk (st := top 17) l17 c17 k17
  have b17 := F17.binds (ps := ["_law_state", "_law_limit"]) fun _ _ _ _ _ _ us hl => match us, hl with | [_, _], _ => rfl
  have m17 := PySem.W.mg_of X G a17
  have F18 := fun_mk (st := top 18) l18 c18 k18
  have b18 := F18.binds (ps := ["_law_state", "_law_most"]) fun _ _ _ _ _ _ us hl => match us, hl with | [_, _], _ => rfl
  have m18 := PySem.W.mg_of X G a18
  have F19 := fun_mk (st := top 19) l19 c19 k19
  have b19 := F19.binds (ps := ["_law_one", "_law_other"]) fun _ _ _ _ _ _ us hl => match us, hl with | [_, _], _ => rfl
  have m19 := PySem.W.mg_of X G a19
  have F20 := fun_mk (st := top 20) l20 c20 k20
  have b20 := F20.binds (ps := ["_law_a", "_law_b", "_law_r", "_law_p"]) fun _ _ _ _ _ _ us hl => match us, hl with | [_, _, _, _], _ => rfl
  have m20 := PySem.W.mg_of X G a20
  have F21 := fun_mk (st := top 21) l21 c21 k21
  have b21 := F21.binds (ps := ["_law_one", "_law_other"]) fun _ _ _ _ _ _ us hl => match us, hl with | [_, _], _ => rfl
  have m21 := PySem.W.mg_of X G a21
  have F22 := fun_mk (st := top 22) l22 c22 k22
  have b22 := F22.binds (ps := ["_law_call"]) fun _ _ _ _ _ _ us hl => match us, hl with | [_], _ => rfl
  have m22 := PySem.W.mg_of X G a22
  have F23 := fun_mk (st := top 23) l23 c23 k23
  have b23 := F23.binds (ps := ["_law_state"]) fun _ _ _ _ _ _ us hl => match us, hl with | [_], _ => rfl
  have m23 := PySem.W.mg_of X G a23
  have F24 := fun_mk (st := top 24) l24 c24 k24
  have b24 := F24.binds (ps := ["_law_script"]) fun _ _ _ _ _ _ us hl => match us, hl with | [_], _ => rfl
  have m24 := PySem.W.mg_of X G a24
  refine ⟨PySem.W.fnOf "law" "law" (defArgs (top 24)) (defBody (top 24)) (defScope (top 24)) .none kV24 dc24 pm24 an24 cd24 ct24, [(cO, Pt)], spLaw K Pt, fun p hp => ?_, fun p hp => ?_, fun p hp => ?_, fun s u => .of_eq rfl, fun H a ns hlen _ hp hS => ⟨a, ns, rfl, hS, hlen, hp _ List.mem_cons_self, fun _ => rfl⟩, fun base hK hG hTB => ?_⟩
  · rw [List.mem_singleton.mp hp]; exact hT
  · rw [List.mem_singleton.mp hp]; exact nP
  · rw [List.mem_singleton.mp hp]; exact PySem.W.codeHd_of_K X hcode
  have TB := hTB _ List.mem_cons_self
  have D1 : Def l.prog w K mg base CX0 1 "is_integer" ["value"] spInt := ⟨f1, _, fn_int F1 T, m1, k1, b1⟩
  have D7 : Def l.prog w K mg base (L2.CX l.prog w) 3 "check_integer" ["number"] (spCI CN) := ⟨f7, _, fn_ci F7 T D1, m7, k7, b7⟩
  have D8 : Def l.prog w K mg base (L2.CX l.prog w) 5 "check_remainder" ["r", "p"] (spCR CN) := ⟨f8, _, fn_cr F8 T D1 D7, m8, k8, b8⟩
  have D10 : Def l.prog w K mg base (L2.CX l.prog w) 5 "greatest_divisor" ["one", "other"] (spG CN) := ⟨f10, _, fn_g F10 T D7, m10, k10, b10⟩
  have D11 : Def l.prog w K mg base (L2.CX l.prog w) 7 "least_multiple" ["one", "other"] (spLM CN) := ⟨f11, _, fn_lm F11 T D1 D10, m11, k11, b11⟩
  have D12 : Def l.prog w K mg base CX0 1 "inverse" ["number", "modulus"] spInv := ⟨f12, _, fn_inv F12 T, m12, k12, b12⟩
  have D13 : Def l.prog w K mg base (L2.CX l.prog w) 7 "remainder_of" ["a", "b", "r", "p"] (spRO CN) := ⟨f13, _, fn_ro F13 T D7 D8 D10 D12, m13, k13, b13⟩
  have D14 : Def l.prog w K mg base CX0 3 "is_remainder" ["value"] spIR := ⟨f14, _, fn_ir F14 T D1, m14, k14, b14⟩
  have D15 : Def l.prog w K mg base (L2.CX l.prog w) 9 "both_remainders" ["one", "other"] (spBR CP) := ⟨f15, _, fn_br F15 T D14 D13, m15, k15, b15⟩
  have D17 : Def l.prog w K mg base CX0 1 "_law_draw" ["_law_state", "_law_limit"] spDraw := ⟨f17, _, fn_draw F17 T, m17, k17, b17⟩
  have D18 : Def l.prog w K mg base CX0 3 "_law_number" ["_law_state", "_law_most"] spNum := ⟨f18, _, fn_num F18 T D17, m18, k18, b18⟩
  have D19 : Def l.prog w K mg base CX0 1 "_law_divisor" ["_law_one", "_law_other"] spDiv := ⟨f19, _, fn_div F19 T, m19, k19, b19⟩
  have D20 : Def l.prog w K mg base CX0 9 "_law_line_right" ["_law_a", "_law_b", "_law_r", "_law_p"] spLine := ⟨f20, _, fn_line F20 T D13 D19, m20, k20, b20⟩
  have D21 : Def l.prog w K mg base CX0 11 "_law_both_right" ["_law_one", "_law_other"] spBoth := ⟨f21, _, fn_both F21 T D15 D19, m21, k21, b21⟩
  have D23 : Def l.prog w K mg base CX0 12 "_law_odd_right" ["_law_state"] (spOdd Pt) := ⟨f23, _, fn_odd l23 c23 T R TB F22 b22 m22 D17 D10 D11 D13 D15, m23, k23, b23⟩
  exact fn_law F24 T D17 D18 D19 D10 D11 D20 D21 D23
end K7
open PySem PySem.W PyProof.Rows
set_option Elab.async false
set_option maxRecDepth 100000 in
set_option maxHeartbeats 0 in
theorem PySem.Challenge.cw_endlessplane_k07_whole_remainders_met_holds : PySem.Challenge.rw_endlessplane_k07_whole_remainders_met.Holds := by
  w_on; o_law; k_head; (case hw => w_witness2)
  k_fill
  refine LamX.walk_ofTs (l := PySem.Challenge.rw_endlessplane_k07_whole_remainders_met) (n := 63) (k := 14) (x := "_law_script") (CX := fun _ => L2.CX0) rfl (by decide) rfl ⟨rfl, by decide, by decide⟩ (fun w h Y => PySem.W.km_in_of Y) ?F (fun _ _ _ _ _ z => z)
  case F =>
    intro w mg fa h Y KX G hmg
    refine' K7.all_mk KX G hmg ?a1 ?l1 ?c1 ?k1 ?a7 ?l7 ?c7 ?k7 ?a8 ?l8 ?c8 ?k8 ?a10 ?l10 ?c10 ?k10 ?a11 ?l11 ?c11 ?k11 ?a12 ?l12 ?c12 ?k12 ?a13 ?l13 ?c13 ?k13 ?a14 ?l14 ?c14 ?k14 ?a15 ?l15 ?c15 ?k15 ?a17 ?l17 ?c17 ?k17 ?a18 ?l18 ?c18 ?k18 ?a19 ?l19 ?c19 ?k19 ?a20 ?l20 ?c20 ?k20 ?a21 ?l21 ?c21 ?k21 ?a22 ?l22 ?c22 ?k22 ?a23 ?l23 ?c23 ?k23 ?a24 ?l24 ?c24 ?k24 ?aC0 ?e0 ?h0 ?t0 ?aN ?xN ?saN ?gaN ?ggN ?nbN ?iN ?tN ?kcN ?ecN ?tyN ?hdN ?mrN ?veN ?suN ?lN ?cN ?lcN ?fiN ?feN ?ceN ?s0N ?clN ?moN ?aP ?xP ?saP ?gaP ?ggP ?nbP ?iP ?tP ?kcP ?ecP ?tyP ?hdP ?mrP ?veP ?suP ?lP ?cP ?lcP ?fiP ?feP ?ceP ?s0P ?clP ?moP ?sp ?tk ?ne ?sPN ?isN ?isP ?nt ?tp ?z_super ?z_isinstance ?z_int ?z_bool ?z_tuple ?z_len ?z_all ?z_abs ?z_range ?z_repr ?z_list ?hcode ?nP ?hT
    (case a1 => k_is)
    (case l1 => k_is)
    (case c1 => k_is)
    (case k1 => k_is)
    (case a7 => k_is)
    (case l7 => k_is)
    (case c7 => k_is)
    (case k7 => k_is)
    (case a8 => k_is)
    (case l8 => k_is)
    (case c8 => k_is)
    (case k8 => k_is)
    (case a10 => k_is)
    (case l10 => k_is)
    (case c10 => k_is)
    (case k10 => k_is)
    (case a11 => k_is)
    (case l11 => k_is)
    (case c11 => k_is)
    (case k11 => k_is)
    (case a12 => k_is)
    (case l12 => k_is)
    (case c12 => k_is)
    (case k12 => k_is)
    (case a13 => k_is)
    (case l13 => k_is)
    (case c13 => k_is)
    (case k13 => k_is)
    (case a14 => k_is)
    (case l14 => k_is)
    (case c14 => k_is)
    (case k14 => k_is)
    (case a15 => k_is)
    (case l15 => k_is)
    (case c15 => k_is)
    (case k15 => k_is)
    (case a17 => k_is)
    (case l17 => k_is)
    (case c17 => k_is)
    (case k17 => k_is)
    (case a18 => k_is)
    (case l18 => k_is)
    (case c18 => k_is)
    (case k18 => k_is)
    (case a19 => k_is)
    (case l19 => k_is)
    (case c19 => k_is)
    (case k19 => k_is)
    (case a20 => k_is)
    (case l20 => k_is)
    (case c20 => k_is)
    (case k20 => k_is)
    (case a21 => k_is)
    (case l21 => k_is)
    (case c21 => k_is)
    (case k21 => k_is)
    (case a22 => k_is)
    (case l22 => k_is)
    (case c22 => k_is)
    (case k22 => k_is)
    (case a23 => k_is)
    (case l23 => k_is)
    (case c23 => k_is)
    (case k23 => k_is)
    (case a24 => k_is)
    (case l24 => k_is)
    (case c24 => k_is)
    (case k24 => k_is)
    (case aC0 => k_is)
    (case e0 => k_is)
    (case h0 => k_is)
    (case t0 => k_is)
    (case aN => k_is)
    (case xN => k_is)
    (case saN => k_is)
    (case gaN => k_is)
    (case ggN => k_is)
    (case nbN => k_is)
    (case iN => k_is)
    (case tN => k_is)
    (case kcN => k_is)
    (case ecN => k_is)
    (case tyN => k_is)
    (case hdN => k_is)
    (case mrN => k_is)
    (case veN => k_is)
    (case suN => ks_is)
    (case lN => k_is)
    (case cN => k_is)
    (case lcN => k_is)
    (case fiN => rfl)
    (case feN => first | rfl | decide +kernel)
    (case ceN => k_is)
    (case s0N => k_is)
    (case clN => k_is)
    (case moN => k_is)
    (case aP => k_is)
    (case xP => k_is)
    (case saP => k_is)
    (case gaP => k_is)
    (case ggP => k_is)
    (case nbP => k_is)
    (case iP => k_is)
    (case tP => k_is)
    (case kcP => k_is)
    (case ecP => k_is)
    (case tyP => k_is)
    (case hdP => k_is)
    (case mrP => k_is)
    (case veP => k_is)
    (case suP => ks_is)
    (case lP => k_is)
    (case cP => k_is)
    (case lcP => k_is)
    (case fiP => rfl)
    (case feP => first | rfl | decide +kernel)
    (case ceP => k_is)
    (case s0P => k_is)
    (case clP => k_is)
    (case moP => k_is)
    (case sp => k_is)
    (case tk => k_is)
    (case ne => first | rfl | decide)
    (case sPN => k_is)
    (case isN => k_is)
    (case isP => k_is)
    (case nt => k_is)
    (case tp => first | rfl | decide +kernel)
    (case z_super => k_is)
    (case z_isinstance => k_is)
    (case z_int => k_is)
    (case z_bool => k_is)
    (case z_tuple => k_is)
    (case z_len => k_is)
    (case z_all => k_is)
    (case z_abs => k_is)
    (case z_range => k_is)
    (case z_repr => k_is)
    (case z_list => k_is)
    (case hcode => first | rfl | kernel_rfl | decide +kernel)
    (case nP => first | rfl | kernel_rfl | decide +kernel)
    (case hT => exact PySem.W.km_tabs_of Y _ List.mem_cons_self)
#print axioms PySem.Challenge.cw_endlessplane_k07_whole_remainders_met_holds
