/- Chapter 12: envelopes as arguments, with bounds; their bytes. No condition. -/
import Derived.Test.YtpjjledbmfmbiaaC12k
import Derived.Test.YtpjjledbmfmbiaaS12e
namespace Go.PBYtpjjledbmfmbiaa
open Go Go.RowKit
abbrev kHead : List IntKind := List.replicate 32 .u8 ++ [.i64, .i64]
def EnvW (w : World) (v : Value) (x : EnvD) : Prop := EnvV w v x ∧ Fits (headC x.pub x.p x.q) kHead
end Go.PBYtpjjledbmfmbiaa
namespace Go.Proofs.Ytpjjledbmfmbiaa
open Go.RowKit Go.PBYtpjjledbmfmbiaa
set_option linter.unusedVariables false
set_option linter.unusedSimpArgs false
set_option maxRecDepth 100000
theorem open_envW {H : Type} {enc : TypeId × Value → H} {w : World} {r : Reach} {b0 : Nat} {v : Value} {d : DataW H} {p : List MemPlace} (hv : Value.okWide Try.prog w r b0 35 v) (h : DataW.Trod enc Try.prog w 0 (fun _ => true) true 35 v d p) : ∃ x, EnvW w v x := by
  obtain ⟨cs, rfl⟩ := okWide_agg Try.underlying35 hv
  obtain ⟨fuel, h⟩ := h
  obtain ⟨hl, m, hf⟩ := trod_field Try.underlying35 h
  have hl : cs.toList.length = 69 := by rw [show cs.toList = (Value.agg cs).cells.toList from rfl, hl]; kernel_rfl
  obtain ⟨y0, h0⟩ : ∃ y, DataW.trod enc Try.prog w 0 (fun _ => true) true m 3 ((cs.toList.drop 0).take 1) = some y := hf _ List.mem_cons_self
  obtain ⟨y1, h1⟩ : ∃ y, DataW.trod enc Try.prog w 0 (fun _ => true) true m 3 ((cs.toList.drop 1).take 1) = some y := hf _ ((List.mem_cons_of_mem _ List.mem_cons_self))
  obtain ⟨y2, h2⟩ : ∃ y, DataW.trod enc Try.prog w 0 (fun _ => true) true m 23 ((cs.toList.drop 2).take 32) = some y := hf _ ((List.mem_cons_of_mem _ (List.mem_cons_of_mem _ List.mem_cons_self)))
  obtain ⟨y3, h3⟩ : ∃ y, DataW.trod enc Try.prog w 0 (fun _ => true) true m 25 ((cs.toList.drop 34).take 34) = some y := hf _ ((List.mem_cons_of_mem _ (List.mem_cons_of_mem _ (List.mem_cons_of_mem _ List.mem_cons_self))))
  obtain ⟨y4, h4⟩ : ∃ y, DataW.trod enc Try.prog w 0 (fun _ => true) true m 26 ((cs.toList.drop 68).take 1) = some y := hf _ ((List.mem_cons_of_mem _ (List.mem_cons_of_mem _ (List.mem_cons_of_mem _ (List.mem_cons_of_mem _ List.mem_cons_self)))))
  have hp := parts5 cs.toList hl
  obtain ⟨f, e0, _⟩ := (trod_int1 Try.underlying3 h0).one
  obtain ⟨t, e1, _⟩ := (trod_int1 Try.underlying3 h1).one
  obtain ⟨cm, hcm, e2⟩ := (trod_fits (P := Try.prog) 6 23 (List.replicate 32 .u8) (by kernel_rfl) _ _ _ h2).bytes
  have hff := trod_fits (P := Try.prog) 6 25 (List.replicate 32 .u8 ++ [.i64, .i64]) (by kernel_rfl) _ _ _ h3
  obtain ⟨⟨pub, p, q⟩, e3, hpub⟩ := open_head hff
  obtain ⟨body, B, n, c, e4, hn, hnc, hc, hB⟩ := open_cell Try.underlying26 Try.underlying5 (by kernel_rfl) h4
  have e3' : (cs.toList.drop 34).take 34 = headC pub p q := by simpa using e3
  rw [e0, e1, e2, e3', e4] at hp
  refine ⟨⟨f, t, cm, pub, p, q, body⟩, ⟨B, n, c, ?_, hcm, hpub, hn, hnc, hc, hB⟩, e3' ▸ hff⟩
  show Value.agg cs = _
  congr 1
  apply Array.ext'
  rw [hp]
  simp [envC]

def enCalls (F : FuncId) (X : EnvD) (A : Option Addr) (c : Nat) (w : World) : Prop :=
  Calls Try.prog F #[.agg (envOf X (A, c)).toArray] w fun e w' => ∃ x : Option Addr × Nat, e = .returned (.tuple #[.slice x.1 (enB X).length x.2, vN (enK X)]) ∧ St [] w [bodyR 5 (enB X) x] w'
theorem enCalls_of {F : FuncId} {X : EnvD} {A : Option Addr} {c : Nat} {w : World} (hc : X.cm.length = 32) (hp : X.pub.length = 32)
    (hbad : rightEB X.f X.t X.p X.q X.body.length = false → Calls Try.prog F #[.agg (envC X.f X.t X.cm X.pub X.p X.q (.slice A X.body.length c)).toArray] w fun e w' => e = .returned (.tuple #[.slice none 0 0, vN 1]) ∧ Kept [] w w')
    (hok : ∀ (f t x y : Nat), X.f = (f : Int) → X.t = (t : Int) → X.p = (x : Int) → X.q = (y : Int) → rightEB f t x y X.body.length = true → Calls Try.prog F #[.agg (envC f t X.cm X.pub x y (.slice A X.body.length c)).toArray] w fun e w' => ∃ v, e = .returned (.tuple #[v, vN 0]) ∧ St [] w [.row 5 1 v (76 + X.body.length) (bys (envB f t X.cm X.pub x y X.body))] w') : enCalls F X A c w := by
  cases h : enR X with
  | false =>
    have e1 : enB X = [] := if_neg (by rw [h]; decide)
    have e2 : enK X = 1 := if_neg (by rw [h]; decide)
    unfold enCalls
    rw [e1, e2]
    exact (hbad h).mono fun e w' ⟨h1, h2⟩ => ⟨(none, 0), h1, ((St.refl w).keep h2).addNil _ _⟩
  | true =>
    obtain ⟨f, t, p, q, g1, g2, g3, g4⟩ := enR_nat h
    have e1 : enB X = envB f t X.cm X.pub p q X.body := by unfold enB; rw [if_pos h, g1, g2, g3, g4]; simp only [Int.toNat_natCast]
    have e2 : enK X = 0 := if_pos h
    have hL := envB_length (f := f) (t := t) (x := p) (y := q) (body := X.body) hc hp
    have h0 := h
    unfold enR at h0
    rw [g1, g2, g3, g4] at h0
    have hk := hok f t p q g1 g2 g3 g4 h0
    rw [← hL] at hk
    unfold enCalls
    rw [e1, e2]
    unfold envOf
    rw [g1, g2, g3, g4]
    refine hk.mono ?_
    rintro e w' ⟨v, rfl, H⟩
    obtain ⟨B, k, rfl, _, _, _⟩ := row_sl H 0 rfl
    exact ⟨(B, k), rfl, H⟩
theorem henv_calls (X : EnvD) (A : Option Addr) (c : Nat) (hc : X.cm.length = 32) (hp : X.pub.length = 32) (w : World) (hA : SlAt w A (bys X.body)) : enCalls 13 X A c w :=
  enCalls_of hc hp (fun h => henv_bad _ _ _ _ _ _ _ _ _ hc hp h w) (fun f t x y _ _ _ _ h => henv_ok f t X.cm X.pub x y X.body _ _ _ rfl hc hp h w hA)
theorem renv_calls (X : EnvD) (A : Option Addr) (c : Nat) (hc : X.cm.length = 32) (hp : X.pub.length = 32) (w : World) (hA : SlAt w A (bys X.body)) : enCalls 14 X A c w :=
  enCalls_of hc hp (fun h => renv_bad _ _ _ _ _ _ _ _ _ hc hp h w) (fun f t x y _ _ _ _ h => renv_ok f t X.cm X.pub x y X.body _ _ _ rfl hc hp h w hA)
theorem reX_fits (l : List UInt8) : Fits (headC (reX l).pub (reX l).p (reX l).q) kHead := by
  have h32 := reX_pub l
  unfold reX at h32 ⊢
  split
  · rename_i h
    rw [if_pos h] at h32
    exact headC_fits h32 (wf_small _ (rdM_lt _)) (wf_small _ (rdN_lt _))
  · exact headC_fits (by show (List.replicate 32 (0 : UInt8)).length = 32; simp) (by decide) (by decide)
theorem zAllE : zEnvC.length = 69 ∧ ∀ u ∈ zEnvC, u.oneCell' = true := ⟨zEnvC_length, zEnvC_one⟩
/-- a head's bytes, none if it may not be -/
def hdB (X : EnvD) : List UInt8 := if rightB X.p X.q then headB X.pub X.p.toNat X.q.toNat else []
def hdK (X : EnvD) : Nat := if rightB X.p X.q then 0 else 1
theorem hbytes_calls (X : EnvD) (hp : X.pub.length = 32) (w : World) :
    Calls Try.prog 9 #[.agg (headC X.pub X.p X.q).toArray] w fun e w' => ∃ x : Option Addr × Nat, e = .returned (.tuple #[.slice x.1 (hdB X).length x.2, vN (hdK X)]) ∧ St [] w [bodyR 5 (hdB X) x] w' := by
  cases h : rightB X.p X.q with
  | false =>
    have e1 : hdB X = [] := if_neg (by rw [h]; decide)
    have e2 : hdK X = 1 := if_neg (by rw [h]; decide)
    rw [e1, e2]
    exact (hbytes_bad X.pub X.p X.q hp h w).mono fun e w' ⟨h1, h2⟩ => ⟨(none, 0), h1, ((St.refl w).keep h2).addNil _ _⟩
  | true =>
    obtain ⟨a, b, g1, g2, l1, l2⟩ := rightB_nat h
    have e1 : hdB X = headB X.pub a b := by unfold hdB; rw [if_pos h, g1, g2]; simp only [Int.toNat_natCast]
    have e2 : hdK X = 0 := if_pos h
    have hL := headB_length hp a b
    have hk := hbytes_ok X.pub a b hp l1 l2 w
    rw [← hL] at hk
    rw [e1, e2, g1, g2]
    refine hk.mono ?_
    rintro e w' ⟨v, rfl, H⟩
    obtain ⟨B, k, rfl, _, _, _⟩ := row_sl H 0 rfl
    exact ⟨(B, k), rfl, H⟩
theorem hd_rd {X : EnvD} (hp : X.pub.length = 32) (h : hdK X = 0) : rdE (hdB X) = 0 ∧ rdC (hdB X) = headC X.pub X.p X.q := by
  unfold hdK at h
  cases hr : rightB X.p X.q with
  | false => rw [hr] at h; cases h
  | true =>
    obtain ⟨a, b, g1, g2, l1, l2⟩ := rightB_nat hr
    unfold hdB
    rw [if_pos hr, g1, g2]
    rw [g1, g2] at hr
    simp only [Int.toNat_natCast]
    exact ⟨rdE_headB hp hr, rdC_headB hp hr⟩
end Go.Proofs.Ytpjjledbmfmbiaa
