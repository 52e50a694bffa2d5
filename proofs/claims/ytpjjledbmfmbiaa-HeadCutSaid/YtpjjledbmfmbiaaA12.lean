/- Chapter 12: heads and envelopes as arguments; a head and an envelope come. No condition. -/
import Derived.Test.YtpjjledbmfmbiaaC12h
import Derived.Test.YtpjjledbmfmbiaaS12c
namespace Go.PBYtpjjledbmfmbiaa
open Go Go.RowKit Go.ChangeShapes Go.WideShapes Go.ChangeAt
set_option linter.unusedVariables false
set_option linter.unusedSimpArgs false
section
variable {H : Type} {enc : TypeId × Value → H} {P : Program} {w : World} {r : Reach} {b0 base : Nat} {spare : Nat → Bool} {held : Bool}
/-- a struct's fields, each looked at by itself -/
theorem trod_field {t : TypeId} {fs : Array Field} {fuel : Nat} {cs : List Value} {x : DataW H × List MemPlace} (hu : P.underlying t = some (.struct fs)) (h : DataW.trod enc P w base spare held fuel t cs = some x) :
    cs.length = P.cellsOf t ∧ ∃ m, ∀ f ∈ fs.toList, ∃ y, DataW.trod enc P w base spare held m f.type ((cs.drop f.offset).take (P.cellsOf f.type)) = some y := by
  cases fuel with
  | zero => simp [DataW.trod] at h
  | succ fuel =>
    unfold DataW.trod at h
    rw [hu] at h
    simp only at h
    split at h
    · rename_i hl
      refine ⟨hl, fuel, ?_⟩
      cases hm : (fs.toList.mapM fun f => DataW.trod enc P w base spare held fuel f.type ((cs.drop f.offset).take (P.cellsOf f.type))) with
      | none => rw [hm] at h; simp at h
      | some y =>
        have key : ∀ (l : List Field) (y : List (DataW H × List MemPlace)), (l.mapM fun f => DataW.trod enc P w base spare held fuel f.type ((cs.drop f.offset).take (P.cellsOf f.type))) = some y → ∀ f ∈ l, ∃ y, DataW.trod enc P w base spare held fuel f.type ((cs.drop f.offset).take (P.cellsOf f.type)) = some y := by
          intro l
          induction l with
          | nil => intro y _ f hf; cases hf
          | cons a l ih =>
            intro y hy f hf
            rw [List.mapM_cons] at hy
            cases ha : DataW.trod enc P w base spare held fuel a.type ((cs.drop a.offset).take (P.cellsOf a.type)) with
            | none => rw [ha] at hy; simp at hy
            | some z =>
              rw [ha] at hy
              simp only [Option.pure_def, Option.bind_eq_bind, Option.bind_some] at hy
              cases hr : (l.mapM fun f => DataW.trod enc P w base spare held fuel f.type ((cs.drop f.offset).take (P.cellsOf f.type))) with
              | none => rw [hr] at hy; simp at hy
              | some z' =>
                rcases List.mem_cons.1 hf with rfl | hf
                · exact ⟨z, ha⟩
                · exact ih z' hr f hf
        exact key _ _ hm
    · cases h
theorem okWide_agg {t : TypeId} {v : Value} {fs : Array Field} (hs : P.underlying t = some (.struct fs)) (hv : Value.okWide P w r b0 t v) : ∃ cs : Array Value, v = .agg cs := by
  unfold Value.okWide at hv
  rw [hs] at hv
  obtain ⟨cs, h1, _⟩ := hv
  exact ⟨cs, h1⟩
/-- a slice of bytes in a cell -/
theorem open_cell {t e : TypeId} {cs : List Value} {fuel : Nat} {x : DataW H × List MemPlace} (ht : P.underlying t = some (.slice e)) (he : P.underlying e = some (.int .u8)) (hc : P.cellsOf e = 1)
    (hf : DataW.trod enc P w 0 (fun _ => true) true fuel t cs = some x) : ∃ (l : List UInt8) (A : Option Addr) (n c : Nat), cs = [.slice A n c] ∧ n = l.length ∧ n ≤ c ∧ c ≤ 9223372036854775807 ∧ SlAt w A (bys l) := by
  rcases open_ints ht he hc hf with ⟨hcs, _⟩ | ⟨a, l, c, zs, hcs, _, hl, hm, hz, _, hcell, hwz⟩
  · exact ⟨[], none, 0, 0, hcs, rfl, Nat.le_refl _, by omega, SlAt.nil _ _⟩
  · simp only [if_true] at hz
    have e : (toB (zs.take l)).length = l := by rw [toB_length, List.length_take]; omega
    exact ⟨toB (zs.take l), some a, l, c, hcs, e.symm, hl, by simpa [maxLen] using hm, sl_ints hcell hwz l⟩
end
def HeadV (v : Value) (x : List UInt8 × Int × Int) : Prop := v = .agg (headC x.1 x.2.1 x.2.2).toArray ∧ x.1.length = 32
theorem open_head {cs : List Value} (h : Fits cs (List.replicate 32 .u8 ++ [.i64, .i64])) : ∃ x, HeadV (.agg cs.toArray) x := by
  obtain ⟨a, b, rfl, fa, fb⟩ := h.split
  obtain ⟨l, hl, rfl⟩ := fa.bytes
  obtain ⟨u, v, rfl, fu, fv⟩ := Fits.split (k := [.i64]) (l := [.i64]) fb
  obtain ⟨p, rfl, _⟩ := fu.one
  obtain ⟨q, rfl, _⟩ := fv.one
  exact ⟨(l, p, q), rfl, hl⟩
structure EnvD where
  f : Int
  t : Int
  cm : List UInt8
  pub : List UInt8
  p : Int
  q : Int
  body : List UInt8
def EnvV (w : World) (v : Value) (x : EnvD) : Prop := ∃ (B : Option Addr) (n c : Nat), v = .agg (envC x.f x.t x.cm x.pub x.p x.q (.slice B n c)).toArray ∧ x.cm.length = 32 ∧ x.pub.length = 32 ∧ n = x.body.length ∧ n ≤ c ∧ c ≤ 9223372036854775807 ∧ SlAt w B (bys x.body)
theorem parts5 (cs : List Value) (h : cs.length = 69) : cs = (cs.drop 0).take 1 ++ ((cs.drop 1).take 1 ++ ((cs.drop 2).take 32 ++ ((cs.drop 34).take 34 ++ (cs.drop 68).take 1))) := by
  have e4 : (cs.drop 68).take 1 = cs.drop 68 := List.take_of_length_le (by simp; omega)
  have e3 : (cs.drop 34).take 34 ++ cs.drop 68 = cs.drop 34 := by rw [show cs.drop 68 = (cs.drop 34).drop 34 by rw [List.drop_drop]]; exact List.take_append_drop _ _
  have e2 : (cs.drop 2).take 32 ++ cs.drop 34 = cs.drop 2 := by rw [show cs.drop 34 = (cs.drop 2).drop 32 by rw [List.drop_drop]]; exact List.take_append_drop _ _
  have e1 : (cs.drop 1).take 1 ++ cs.drop 2 = cs.drop 1 := by rw [show cs.drop 2 = (cs.drop 1).drop 1 by rw [List.drop_drop]]; exact List.take_append_drop _ _
  rw [e4, e3, e2, e1, List.drop_zero]
  exact (List.take_append_drop 1 cs).symm
end Go.PBYtpjjledbmfmbiaa
namespace Go.Proofs.Ytpjjledbmfmbiaa
open Go.RowKit Go.PBYtpjjledbmfmbiaa
set_option linter.unusedVariables false
set_option linter.unusedSimpArgs false
set_option maxRecDepth 100000
theorem laid12 : laidOutB Try.prog = true := by kernel_rfl
theorem flatHead : Flat Try.prog 25 (List.replicate 32 .u8 ++ [.i64, .i64]) :=
  flat_of (m := 6) laid12 (by omega) (of_decide_eq_true (by kernel_rfl)) (by kernel_rfl) (by kernel_rfl) (by kernel_rfl) (by kernel_rfl) (by kernel_rfl) (by kernel_rfl)
theorem flat32 : Flat Try.prog 23 (List.replicate 32 .u8) :=
  flat_of (m := 3) laid12 (by omega) (of_decide_eq_true (by kernel_rfl)) (by kernel_rfl) (by kernel_rfl) (by kernel_rfl) (by kernel_rfl) (by kernel_rfl) (by kernel_rfl)
theorem open_env {H : Type} {enc : TypeId × Value → H} {w : World} {r : Reach} {b0 : Nat} {v : Value} {d : DataW H} {p : List MemPlace} (hv : Value.okWide Try.prog w r b0 35 v) (h : DataW.Trod enc Try.prog w 0 (fun _ => true) true 35 v d p) : ∃ x, EnvV w v x := by
  obtain ⟨cs, rfl⟩ := okWide_agg Try.underlying35 hv
  obtain ⟨fuel, h⟩ := h
  obtain ⟨hl, m, hf⟩ := trod_field Try.underlying35 h
  have hl : cs.toList.length = 69 := by rw [show cs.toList = (Value.agg cs).cells.toList from rfl, hl]; kernel_rfl
  obtain ⟨y0, h0⟩ : ∃ y, DataW.trod enc Try.prog w 0 (fun _ => true) true m 3 ((cs.toList.drop 0).take 1) = some y := hf _ List.mem_cons_self
  obtain ⟨y1, h1⟩ : ∃ y, DataW.trod enc Try.prog w 0 (fun _ => true) true m 3 ((cs.toList.drop 1).take 1) = some y := hf _ ((List.mem_cons_of_mem _ List.mem_cons_self))
  obtain ⟨y2, h2⟩ : ∃ y, DataW.trod enc Try.prog w 0 (fun _ => true) true m 23 ((cs.toList.drop 2).take 32) = some y := hf _ ((List.mem_cons_of_mem _ (List.mem_cons_of_mem _ List.mem_cons_self)))
  obtain ⟨y3, h3⟩ : ∃ y, DataW.trod enc Try.prog w 0 (fun _ => true) true m 25 ((cs.toList.drop 34).take 34) = some y := hf _ ((List.mem_cons_of_mem _ (List.mem_cons_of_mem _ (List.mem_cons_of_mem _ List.mem_cons_self))))
  obtain ⟨y4, h4⟩ : ∃ y, DataW.trod enc Try.prog w 0 (fun _ => true) true m 26 ((cs.toList.drop 68).take 1) = some y := hf _ ((List.mem_cons_of_mem _ (List.mem_cons_of_mem _ (List.mem_cons_of_mem _ (List.mem_cons_of_mem _ List.mem_cons_self)))))
  have hp := parts5 cs.toList hl
  obtain ⟨f, e0, _⟩ := (trod_int1 Try.underlying3 h0).one
  obtain ⟨t, e1, _⟩ := (trod_int1 Try.underlying3 h1).one
  obtain ⟨cm, hcm, e2⟩ := (trod_fits (P := Try.prog) 6 23 (List.replicate 32 .u8) (by kernel_rfl) _ _ _ h2).bytes
  obtain ⟨⟨pub, p, q⟩, e3, hpub⟩ := open_head (trod_fits (P := Try.prog) 6 25 (List.replicate 32 .u8 ++ [.i64, .i64]) (by kernel_rfl) _ _ _ h3)
  obtain ⟨body, B, n, c, e4, hn, hnc, hc, hB⟩ := open_cell Try.underlying26 Try.underlying5 (by kernel_rfl) h4
  have e3' : (cs.toList.drop 34).take 34 = headC pub p q := by simpa using e3
  rw [e0, e1, e2, e3', e4] at hp
  refine ⟨⟨f, t, cm, pub, p, q, body⟩, B, n, c, ?_, hcm, hpub, hn, hnc, hc, hB⟩
  show Value.agg cs = _
  congr 1
  apply Array.ext'
  rw [hp]
  simp [envC]
end Go.Proofs.Ytpjjledbmfmbiaa
