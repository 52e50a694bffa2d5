/- What an envelope's bytes are read as, and the bytes of what was read: plain lists. No condition. -/
import Derived.Test.YtpjjledbmfmbiaaC12j
namespace Go.PBYtpjjledbmfmbiaa
open Go Go.RowKit
set_option linter.unusedVariables false
set_option linter.unusedSimpArgs false

def enR (X : EnvD) : Bool := rightEB X.f X.t X.p X.q X.body.length
/-- an envelope's bytes, none if it may not be -/
def enB (X : EnvD) : List UInt8 := if enR X then envB X.f.toNat X.t.toNat X.cm X.pub X.p.toNat X.q.toNat X.body else []
def enK (X : EnvD) : Nat := if enR X then 0 else 1
theorem rd_take (l : List UInt8) : rdP (l.take 40) = rdP l ∧ rdM (l.take 40) = rdM l ∧ rdN (l.take 40) = rdN l := by
  refine ⟨?_, ?_, ?_⟩
  · unfold rdP; rw [List.take_take]; rfl
  · unfold rdM; rw [List.drop_take, List.take_take]; rfl
  · unfold rdN; rw [List.drop_take, List.take_take]; rfl
theorem ofHigh_one (n : Nat) (h : n < 256) : ofHigh [UInt8.ofNat n] = n := by
  show (0 * 256 + (UInt8.ofNat n).toNat) = n
  rw [UInt8.toNat_ofNat_of_lt' (by show n < 256; exact h)]
  omega
section
variable {f t x y : Nat} {cm pub body rest : List UInt8}
/-- bytes that begin as an envelope's -/
theorem env_parts (hc : cm.length = 32) (hp : pub.length = 32) (hr : rightEB f t x y body.length = true) :
    reF (envB f t cm pub x y body ++ rest) = f ∧ reT (envB f t cm pub x y body ++ rest) = t ∧ reC (envB f t cm pub x y body ++ rest) = cm ∧ rdP ((envB f t cm pub x y body ++ rest).drop 34) = pub ∧
    rdM ((envB f t cm pub x y body ++ rest).drop 34) = x ∧ rdN ((envB f t cm pub x y body ++ rest).drop 34) = y ∧ reN (envB f t cm pub x y body ++ rest) = body.length ∧ (envB f t cm pub x y body ++ rest).drop 76 = body ++ rest := by
  obtain ⟨h1, h2, h3⟩ := rightEB_iff.1 hr
  have h4 := rightB_iff.1 h2
  have lh := headB_length hp x y
  have l2 := highB_length body.length 2
  have e : envB f t cm pub x y body ++ rest = [UInt8.ofNat f, UInt8.ofNat t] ++ (cm ++ (headB pub x y ++ (highB body.length 2 ++ (body ++ rest)))) := by simp [envB, List.append_assoc]
  rw [e]
  have d2 : ([UInt8.ofNat f, UInt8.ofNat t] ++ (cm ++ (headB pub x y ++ (highB body.length 2 ++ (body ++ rest))))).drop 2 = cm ++ (headB pub x y ++ (highB body.length 2 ++ (body ++ rest))) := rfl
  have d34 : ([UInt8.ofNat f, UInt8.ofNat t] ++ (cm ++ (headB pub x y ++ (highB body.length 2 ++ (body ++ rest))))).drop 34 = headB pub x y ++ (highB body.length 2 ++ (body ++ rest)) := by
    rw [show (34 : Nat) = 2 + 32 from rfl, ← List.drop_drop, d2, List.drop_left' hc]
  have d74 : ([UInt8.ofNat f, UInt8.ofNat t] ++ (cm ++ (headB pub x y ++ (highB body.length 2 ++ (body ++ rest))))).drop 74 = highB body.length 2 ++ (body ++ rest) := by
    rw [show (74 : Nat) = 34 + 40 from rfl, ← List.drop_drop, d34, List.drop_left' lh]
  have d76 : ([UInt8.ofNat f, UInt8.ofNat t] ++ (cm ++ (headB pub x y ++ (highB body.length 2 ++ (body ++ rest))))).drop 76 = body ++ rest := by
    rw [show (76 : Nat) = 74 + 2 from rfl, ← List.drop_drop, d74, List.drop_left' l2]
  have t40 : (headB pub x y ++ (highB body.length 2 ++ (body ++ rest))).take 40 = headB pub x y := List.take_left' lh
  obtain ⟨r1, r2, r3⟩ := rd_take (headB pub x y ++ (highB body.length 2 ++ (body ++ rest)))
  rw [t40] at r1 r2 r3
  refine ⟨?_, ?_, ?_, ?_, ?_, ?_, ?_, d76⟩
  · show ofHigh [UInt8.ofNat f] = f
    exact ofHigh_one f (by omega)
  · show ofHigh [UInt8.ofNat t] = t
    exact ofHigh_one t (by omega)
  · unfold reC; rw [d2, List.take_left' hc]
  · rw [d34, ← r1]; exact rdP_headB hp x y
  · rw [d34, ← r2]; exact rdM_headB hp (by omega)
  · rw [d34, ← r3]; exact rdN_headB hp (by omega)
  · unfold reN; rw [d74, List.take_left' l2, ofHigh_highB]; omega
end
theorem enR_nat {X : EnvD} (h : enR X = true) : ∃ f t p q : Nat, X.f = (f : Int) ∧ X.t = (t : Int) ∧ X.p = (p : Int) ∧ X.q = (q : Int) := by
  obtain ⟨h1, h2, h3⟩ := rightEB_iff.1 h
  have h4 := rightB_iff.1 h2
  exact ⟨X.f.toNat, X.t.toNat, X.p.toNat, X.q.toNat, by omega, by omega, by omega, by omega⟩
/-- what was written is read -/
theorem re_en {X : EnvD} (hc : X.cm.length = 32) (hp : X.pub.length = 32) (h : enR X = true) : reE (enB X) = 0 ∧ reX (enB X) = X := by
  have hB : enB X = envB X.f.toNat X.t.toNat X.cm X.pub X.p.toNat X.q.toNat X.body := if_pos h
  rw [hB]
  obtain ⟨f, t, p, q, e1, e2, e3, e4⟩ := enR_nat h
  have h0 := h
  unfold enR at h0
  rw [e1, e2, e3, e4] at h0
  obtain ⟨X1, X2, cm, pub, X3, X4, body⟩ := X
  simp only at *
  subst e1 e2 e3 e4
  simp only [Int.toNat_natCast]
  have hL := envB_length (f := f) (t := t) (x := p) (y := q) (body := body) hc hp
  have P := env_parts (rest := []) hc hp h0
  rw [List.append_nil, List.append_nil] at P
  obtain ⟨p1, p2, p3, p4, p5, p6, p7, p8⟩ := P
  have hE : reE (envB f t cm pub p q body) = 0 := by
    unfold reE
    rw [if_neg (by omega), if_neg (by omega), if_pos]
    unfold reOk reR
    rw [p1, p2, p5, p6, p7, h0, hL, decide_eq_true rfl]
    rfl
  refine ⟨hE, ?_⟩
  unfold reX
  rw [if_pos hE]
  unfold reX1
  rw [p1, p2, p3, p4, p5, p6, p7, p8, List.take_length]
theorem highB_of {l : List UInt8} {n k : Nat} (hn : ofHigh l = n) (hk : l.length = k) : highB n k = l := by subst hn hk; exact highB_ofHigh l
theorem ofHigh1' {l : List UInt8} (h : l.length = 1) : [UInt8.ofNat (ofHigh l)] = l := by
  match l, h with
  | [a], _ => simp [ofHigh]
/-- the bytes of what was read -/
theorem en_re {b : List UInt8} (h : reE b = 0) : enK (reX b) = 0 ∧ enB (reX b) = b := by
  have hX : reX b = reX1 b := if_pos h
  have h0 := h
  unfold reE at h
  by_cases h1 : b.length < 76
  · rw [if_pos h1] at h; cases h
  rw [if_neg h1] at h
  by_cases h2 : b.length < 76 + reN b
  · rw [if_pos h2] at h; cases h
  rw [if_neg h2] at h
  cases ho : reOk b with
  | false => rw [ho, if_neg (by decide)] at h; cases h
  | true =>
    unfold reOk at ho
    rw [Bool.and_eq_true, decide_eq_true_iff] at ho
    have hbl : ((b.drop 76).take (reN b)).length = reN b := by simp; omega
    have hR : enR (reX b) = true := by
      rw [hX]
      show rightEB (reF b) (reT b) (rdM (b.drop 34)) (rdN (b.drop 34)) ((b.drop 76).take (reN b)).length = true
      rw [hbl]; exact ho.1
    refine ⟨if_pos hR, ?_⟩
    unfold enB
    rw [if_pos hR, hX]
    show envB (reF b : Int).toNat (reT b : Int).toNat (reC b) (rdP (b.drop 34)) (rdM (b.drop 34) : Int).toNat (rdN (b.drop 34) : Int).toNat ((b.drop 76).take (reN b)) = b
    simp only [Int.toNat_natCast]
    unfold envB headB
    rw [hbl]
    have a1 : highB (rdM (b.drop 34)) 4 = ((b.drop 34).drop 32).take 4 := highB_of rfl (by simp; omega)
    have a2 : highB (rdN (b.drop 34)) 4 = ((b.drop 34).drop 36).take 4 := highB_of rfl (by simp; omega)
    have a3 : highB (reN b) 2 = (b.drop 74).take 2 := highB_of rfl (by simp; omega)
    have a4 : [UInt8.ofNat (reF b)] = b.take 1 := ofHigh1' (by simp; omega)
    have a5 : [UInt8.ofNat (reT b)] = (b.drop 1).take 1 := ofHigh1' (by simp; omega)
    have a6 : (b.drop 76).take (reN b) = b.drop 76 := List.take_of_length_le (by simp; omega)
    have a7 : [UInt8.ofNat (reF b), UInt8.ofNat (reT b)] = [UInt8.ofNat (reF b)] ++ [UInt8.ofNat (reT b)] := rfl
    rw [a7, a1, a2, a3, a4, a5, a6]
    unfold reC rdP
    simp only [List.append_assoc, List.drop_drop]
    have k : ∀ i j, (b.drop i).take j ++ b.drop (i + j) = b.drop i := by
      intro i j
      rw [← List.drop_drop]
      exact List.take_append_drop j (b.drop i)
    rw [k 74 2, k 70 4, k 66 4, k 34 32, k 2 32, k 1 1]
    exact List.take_append_drop 1 b
/-- a beginning of an envelope's bytes -/
theorem re_cut {X : EnvD} (hc : X.cm.length = 32) (hp : X.pub.length = 32) (h : enR X = true) {k : Nat} (hk : k < (enB X).length) : reE ((enB X).take k) = 3 := by
  have hB : enB X = envB X.f.toNat X.t.toNat X.cm X.pub X.p.toNat X.q.toNat X.body := if_pos h
  rw [hB] at hk ⊢
  obtain ⟨f, t, p, q, e1, e2, e3, e4⟩ := enR_nat h
  have h0 := h
  unfold enR at h0
  rw [e1, e2, e3, e4] at h0
  obtain ⟨X1, X2, cm, pub, X3, X4, body⟩ := X
  simp only at *
  subst e1 e2 e3 e4
  simp only [Int.toNat_natCast] at hk ⊢
  have hL := envB_length (f := f) (t := t) (x := p) (y := q) (body := body) hc hp
  have P := env_parts (rest := []) hc hp h0
  rw [List.append_nil, List.append_nil] at P
  obtain ⟨p1, p2, p3, p4, p5, p6, p7, p8⟩ := P
  obtain ⟨u, hu⟩ : ∃ u, envB f t cm pub p q body = u := ⟨_, rfl⟩
  rw [hu] at hL p7 hk ⊢
  have hl : (u.take k).length = k := by simp; omega
  unfold reE
  by_cases h1 : k < 76
  · rw [if_pos (by omega)]
  · rw [if_neg (by omega)]
    have : reN (u.take k) = reN u := by
      unfold reN
      rw [List.drop_take, List.take_take, Nat.min_eq_left (by omega)]
    rw [this, p7, if_pos (by omega)]
/-- with a byte behind -/
theorem re_more {X : EnvD} (hc : X.cm.length = 32) (hp : X.pub.length = 32) (h : enR X = true) (z : UInt8) : reE (enB X ++ [z]) = 2 := by
  have hB : enB X = envB X.f.toNat X.t.toNat X.cm X.pub X.p.toNat X.q.toNat X.body := if_pos h
  rw [hB]
  obtain ⟨f, t, p, q, e1, e2, e3, e4⟩ := enR_nat h
  have h0 := h
  unfold enR at h0
  rw [e1, e2, e3, e4] at h0
  obtain ⟨X1, X2, cm, pub, X3, X4, body⟩ := X
  simp only at *
  subst e1 e2 e3 e4
  simp only [Int.toNat_natCast]
  have hL := envB_length (f := f) (t := t) (x := p) (y := q) (body := body) hc hp
  obtain ⟨p1, p2, p3, p4, p5, p6, p7, p8⟩ := env_parts (rest := [z]) hc hp h0
  have hl : (envB f t cm pub p q body ++ [z]).length = 76 + body.length + 1 := by rw [List.length_append, hL]; rfl
  unfold reE
  rw [if_neg (by omega), if_neg (by omega), if_neg]
  unfold reOk
  rw [p7, hl, decide_eq_false (by omega), Bool.and_false]
  decide
end Go.PBYtpjjledbmfmbiaa
