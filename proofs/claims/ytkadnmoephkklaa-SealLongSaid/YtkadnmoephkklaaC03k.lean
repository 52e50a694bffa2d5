/- The document's own blake: the tag of bytes. Conditions: lengths. -/
import Derived.Test.YtkadnmoephkklaaC03j
namespace Go.RowKit
open Go Go.PBYtkadnmoephkklaa
set_option linter.unusedVariables false
section
variable {P : Program} {n : Nat} {S : List Nat} {w0 : World} {Q : QE} {env : Env} {L : List Res}
/-- a row that is not empty, as the block that it is, and the way back -/
theorem VC_rowBlkM {c : Code} {T : TypeId} {size m : Nat} {A : Option Addr} {cap : Nat} {xs : List Value} (hm : 0 < m) (h : ∀ b more, A = some ⟨b, 0, none⟩ → (∀ ys : List Value, ys.length = xs.length → ∀ w, Res.ok w (.blk b T (ys ++ more)) → Res.ok w (.row T size (.slice (some ⟨b, 0, none⟩) m cap) m ys)) → VC P n S w0 c Q env (.blk b T (xs ++ more) :: L)) : VC P n S w0 c Q env (.row T size (.slice A m cap) m xs :: L) :=
  ⟨fun a w hmo H => by
    obtain ⟨hl, hh⟩ := H.get (k := 0) rfl
    rcases hh with ⟨e, h0⟩ | ⟨b, cap', more, e, h1, h2, h3, h4⟩
    · omega
    · cases e
      exact (h b more rfl (fun ys hy w' H' => ⟨by rw [hy]; exact hl, .inr ⟨b, _, more, rfl, h1, h2, by rw [List.length_append, hy, ← List.length_append]; exact h3, H'⟩⟩)).run a w hmo (H.as (k := 0) (r' := .blk b T (xs ++ more)) rfl h4 rfl)⟩
theorem VC_blkRowM {c : Code} {T : TypeId} {size m b : Nat} {cap : Nat} {ys more : List Value} (hr : ∀ w, Res.ok w (.blk b T (ys ++ more)) → Res.ok w (.row T size (.slice (some ⟨b, 0, none⟩) m cap) m ys)) (h : VC P n S w0 c Q env (.row T size (.slice (some ⟨b, 0, none⟩) m cap) m ys :: L)) : VC P n S w0 c Q env (.blk b T (ys ++ more) :: L) :=
  ⟨fun a w hmo H => h.run a w hmo (H.as (k := 0) (r' := .row T size (.slice (some ⟨b, 0, none⟩) m cap) m ys) rfl (hr w (H.get (k := 0) rfl)) rfl)⟩
end
end Go.RowKit
namespace Go.Proofs.Ytkadnmoephkklaa
open Go.RowKit Go.PBYtkadnmoephkklaa
set_option linter.unusedVariables false
set_option linter.unusedSimpArgs false
set_option maxRecDepth 10000

theorem slPart {w : World} {A : Option Addr} {l : List UInt8} (hA : SlAt w A (bys l)) (o m k : Nat) (hm : l.length ≤ m) : SlAt w (PBYtkadnmoephkklaa.adv A o m 1) (bys ((l.drop o).take k)) := by
  have := (hA.adv (l := o) (m := m) (sz := 1) (by rw [bys_length, Nat.mul_one]; exact hm)).take k
  rwa [Nat.mul_one, bys_drop, bys_take] at this
theorem slRest {w : World} {A : Option Addr} {l : List UInt8} (hA : SlAt w A (bys l)) (o m : Nat) (hm : l.length ≤ m) : SlAt w (PBYtkadnmoephkklaa.adv A o m 1) (bys (l.drop o)) := by
  have := hA.adv (l := o) (m := m) (sz := 1) (by rw [bys_length, Nat.mul_one]; exact hm)
  rwa [Nat.mul_one, bys_drop] at this
theorem hKey_ref (n : Nat) : iv.set 0 (iv.getD 0 0 ^^^ UInt32.ofNat 16842784 ^^^ UInt32.ofNat n * UInt32.ofNat 256) = hKey n := by
  have e : UInt32.ofNat n * UInt32.ofNat 256 = UInt32.ofNat ((UInt32.ofNat n).toNat * 2 ^ (min 8 32)) := by
    apply UInt32.toNat_inj.1
    simp only [UInt32.toNat_mul, UInt32.toNat_ofNat']
    rfl
  rw [hKey, e, UInt32.xor_assoc]
theorem hOut_step (h : List UInt32) (z : Nat) : hOut h (z + 1) = (hOut h z).set z (UInt8.ofNat (UInt32.ofNat ((h.getD (z / 4) 0).toNat / 2 ^ min (8 * (z % 4)) 32)).toNat) := by rw [hOut, Nat.mul_comm]
theorem rinto_falseL (h : List UInt32) (blk : List UInt8) (n : Nat) (Ah Ab : Option Addr) (ch cb lb : Nat) (hlb : lb = 64) (hh : h.length = 8) (hb : blk.length = 64) (hch : 8 ≤ ch) (hcb : 64 ≤ cb) (hn : n < 9223372036854775808) (w : World) (hA : SlAt w Ah (u32s h)) (hB : SlAt w Ab (bys blk)) :
    Calls Try.prog 61 #[.slice Ah 8 ch, .slice Ab lb cb, vN n, .bool false] w fun e w' => ∃ v, e = .returned v ∧ St [] w [.row 56 1 v 8 (u32s (into h blk (UInt64.ofNat n) false))] w' := by
  subst hlb
  exact rinto_false h blk n Ah Ab ch cb hh hb hch hcb hn w hA hB
set_option maxHeartbeats 2000000 in
theorem rmac_calls (key b : List UInt8) (A B : Option Addr) (ca cb ka : Nat) (hka : ka = key.length) (h0 : 0 < key.length) (hk : key.length ≤ 32) (hb : b.length ≤ 1000000) (w : World) (hA : SlAt w A (bys key)) (hB : SlAt w B (bys b)) (hca : key.length ≤ ca) (hcb : b.length ≤ cb) :
    Calls Try.prog 51 #[.slice A ka ca, .slice B b.length cb] w fun e w' => e = .returned (.tuple #[.agg (bys (macB key b)).toArray, .int .i64 0]) ∧ Kept [] w w' := by
  subst hka
  have hN := allK_length b h0 hk
  have hpk := padB_length (l := key) (by omega)
  obtain ⟨al, hal⟩ : ∃ al, al = allK key b := ⟨_, rfl⟩
  rw [← hal] at hN
  have hal' := hal
  rw [allK_eq b h0] at hal'
  refine enter (n := 76) (R := fun e L => e = .returned (.tuple #[.agg (bys (macB key b)).toArray, .int .i64 0])) [.slice A key.length ca, .slice B b.length cb] Try.func51 rfl rfl rfl (St.refl w) ?_ (fun e w' L' h H => ⟨h, H.kept⟩)
  refine VC_seq ?_
  refine VC_region ?_
  refine l_allocA zr23 rfl ?_
  intro b4
  refine vl_v (q_assign rfl) rfl ?_
  refine vl_nil ?_
  refine (th_n ?_)
  refine VC_seq ?_
  refine VC_seq ?_
  refine VC_region ?_
  refine vl_v (q_move rfl) rfl ?_
  refine vl_v (q_lenS Try.underlying24 rfl) rfl ?_
  first | (refine vl_v (q_gtr_n (q := 32) Try.underlying3 rfl rfl) rfl ?_) | (refine vl_v (q_gtr_k Try.underlying3 rfl rfl) rfl ?_)
  refine vl_nil ?_
  refine (th_n ?_)
  refine VC_cond rfl (fun ht13 => ?_) (fun ht13 => ?_)
  · skip
    have ht13 := of_decide_eq_true ht13
    exfalso; omega
  · skip
    have ht13 := of_decide_eq_false ht13
    refine VC_skip ?_
    refine (th_n ?_)
    refine VC_seq ?_
    refine VC_region ?_
    refine l_callR Try.func59 rfl rfl rfl (fun w1 H1 => rfirst_calls w1) rfl ?_
    intro A15 c15 hc15 hm15
    refine vl_v (q_assign rfl) rfl ?_
    refine vl_nil ?_
    refine (th_n ?_)
    refine VC_seq ?_
    refine VC_rowBlkM (by omega) ?_
    intro bW more eW hback
    have hiv8 : iv.length = 8 := rfl
    subst eW
    refine VC_region ?_
    refine vl_v (q_move rfl) rfl ?_
    refine vl_v (q_move rfl) rfl ?_
    refine vl_v (q_idxS0 (m := 0) Try.underlying82 sz56 rfl rfl (by omega) (by rw [Nat.mul_one, Nat.zero_add])) rfl ?_
    first | (refine vl_v (q_load 0 Try.underlying56 rfl rfl rfl (u32s_atA (by first | omega | with_reducible assumption | (simp only [zb, zu, zw, zi, za]; omega) | (simp only [zs, zr, zm, za, zb, zu, zw, zi, zt, zd, zc, zn, *] <;> first | done | omega) | rfl))) rfl ?_) | (refine vl_v (q_load 0 Try.underlying56 rfl rfl rfl rfl) rfl ?_)
    refine vl_v (q_xor_u32 (q := UInt32.ofNat 16842784) rfl rfl) rfl ?_
    refine vl_v (q_move rfl) rfl ?_
    refine vl_v (q_lenS Try.underlying24 rfl) rfl ?_
    refine vl_v (q_as (v := vU32 (UInt32.ofNat key.length)) (q_conv_k (r := ((UInt32.ofNat key.length).toNat : Int)) Try.underlying3 Try.underlying56 rfl (by rw [IntKind.wrap_u32, UInt32.toNat_ofNat']; omega)) rfl) rfl ?_
    refine vl_v (q_as (v := vU32 (UInt32.ofNat key.length * UInt32.ofNat 256)) (q_mul_u32 rfl rfl) rfl) rfl ?_
    refine vl_v (q_xor_u32 rfl rfl) rfl ?_
    refine vl_v (q_idxS0 (m := 0) Try.underlying82 sz56 rfl rfl (by omega) (by rw [Nat.mul_one, Nat.zero_add])) rfl ?_
    first | (refine l_stU32A 0 rfl rfl rfl sz56 (by first | omega | with_reducible assumption | (simp only [zb, zu, zw, zi, za]; omega) | (simp only [zs, zr, zm, za, zb, zu, zw, zi, zt, zd, zc, zn, *] <;> first | done | omega) | rfl) ?_) | (refine l_store1 0 rfl rfl rfl sz56 rfl (by first | decide | simp) ?_)
    simp only [List.set_cons_zero, List.set_cons_succ]
    refine vl_nil ?_
    refine (th_n ?_)
    refine VC_seq ?_
    rw [hKey_ref]
    refine VC_blkRowM (hback _ (by rw [u32s_length, u32s_length, hKey_length]; rfl)) ?_
    refine VC_region ?_
    refine vl_v (q_assign rfl) rfl ?_
    refine vl_nil ?_
    refine (th_n ?_)
    refine VC_seq ?_
    refine VC_seq ?_
    refine VC_region ?_
    refine vl_v (q_move rfl) rfl ?_
    refine vl_v (q_lenS Try.underlying24 rfl) rfl ?_
    first | (refine vl_v (q_gtr_n (q := 0) Try.underlying3 rfl rfl) rfl ?_) | (refine vl_v (q_gtr_k Try.underlying3 rfl rfl) rfl ?_)
    refine vl_nil ?_
    refine (th_n ?_)
    refine VC_cond rfl (fun ht29 => ?_) (fun ht29 => ?_)
    · skip
      have ht29 := of_decide_eq_true ht29
      refine VC_region ?_
      refine vl_v (q_move rfl) rfl ?_
      refine l_callR Try.func60 rfl rfl rfl (fun w1 H1 => filled_calls key _ _ _ rfl (by omega) w1 (H1.sl0 hA)) rfl ?_
      intro A31 c31 hc31 hm31
      refine vl_v (q_assign rfl) rfl ?_
      refine vl_nil ?_
      refine (th_n ?_)
      refine VC_seq ?_
      refine VC_region ?_
      refine vl_v (q_move rfl) rfl ?_
      refine vl_v (q_move rfl) rfl ?_
      refine l_append 0 rfl rfl rfl Try.underlying24 Try.underlying24 in5 rfl (by decide) (Reads.old hB) (by first | omega | with_reducible assumption | (simp only [zb, zu, zw, zi, za]; omega) | (simp only [zs, zr, zm, za, zb, zu, zw, zi, zt, zd, zc, zn, *] <;> first | done | omega) | rfl) (by first | (with_reducible first | exact bys_one _ | exact u32s_one _ | exact u64s_one _ | exact i64s_one _ | exact n64s_one _ | assumption) | exact bys_one _ | exact u32s_one _ | exact u64s_one _ | exact i64s_one _ | exact one_all rfl | (refine app_one ?_ ?_ <;> first | exact bys_one _ | (simp; done))) (by first | omega | with_reducible assumption | (simp only [zb, zu, zw, zi, za]; omega) | (simp only [zs, zr, zm, za, zb, zu, zw, zi, zt, zd, zc, zn, *] <;> first | done | omega) | rfl) (by first | omega | with_reducible assumption | (simp only [zb, zu, zw, zi, za]; omega) | (simp only [zs, zr, zm, za, zb, zu, zw, zi, zt, zd, zc, zn, *] <;> first | done | omega) | rfl) rfl ?_
      intro A34 c34 hc34
      simp only [List.set_cons_zero, List.set_cons_succ, ← bys_append, ← u32s_append, ← u64s_append, ← i64s_append, List.nil_append, Nat.zero_add]
      rw [← hal']
      refine vl_v (q_assign rfl) rfl ?_
      refine vl_nil ?_
      refine (th_n ?_)
      refine VC_seq ?_
      refine VC_region ?_
      refine vl_v (q_assign rfl) rfl ?_
      refine vl_nil ?_
      refine (th_n ?_)
      refine VC_seq ?_
      refine VC_block ?_
      refine VC_loop (ι := Nat × Option Addr × Nat) (fun q => 64 * q.1 < al.length ∧ 8 ≤ q.2.2) (fun q => [(4, vP b4 0), (5, .int .i64 0), (6, .slice q.2.1 8 q.2.2), (7, .slice A34 (64 + b.length) c34), (8, vN (64 * q.1))]) (fun q => [.row 56 1 (.slice q.2.1 8 q.2.2) 8 (u32s (hs (hKey key.length) al q.1)), .row 5 1 (.slice A34 (64 + b.length) c34) (64 + b.length) (bys al), .blk b4 23 (bys (List.replicate 32 0))]) (fun q => al.length - 64 * q.1) (0, some ⟨bW, 0, none⟩, c15) (⟨by simp only; omega, hc15⟩) (Sub.cons (s := 4) rfl (Sub.cons (s := 5) rfl (Sub.cons (s := 6) rfl (Sub.cons (s := 7) rfl (Sub.cons (s := 8) rfl (Sub.nil _)))))) (fun w' H => H.pick (ks := [1, 0, 2]) (by decide) rfl) ?_
      rintro ⟨j, X, e⟩ hp
      obtain ⟨hp1, hp2⟩ := hp
      simp only at hp1 hp2
      have hhl := (hs_length (hKey key.length) al j).trans (hKey_length key.length)
      refine VC_seq ?_
      refine VC_seq ?_
      refine VC_region ?_
      refine vl_v (q_move rfl) rfl ?_
      refine vl_v (q_lenS Try.underlying24 rfl) rfl ?_
      refine vl_v (q_move rfl) rfl ?_
      first | (refine vl_v (q_sub_n rfl rfl (by omega) (by omega)) rfl ?_) | (refine vl_v (q_sub_i rfl rfl (by omega) (by omega)) rfl ?_)
      first | (refine vl_v (q_gtr_n (q := 64) Try.underlying3 rfl rfl) rfl ?_) | (refine vl_v (q_gtr_k Try.underlying3 rfl rfl) rfl ?_)
      refine vl_nil ?_
      refine (th_n ?_)
      refine VC_cond rfl (fun ht39 => ?_) (fun ht39 => ?_)
      · skip
        have ht39 := of_decide_eq_true ht39
        simp only at ht39
        refine VC_skip ?_
        refine (th_n ?_)
        refine VC_block ?_
        refine VC_seq ?_
        refine VC_region ?_
        refine vl_v (q_move rfl) rfl ?_
        refine vl_v (q_move rfl) rfl ?_
        refine vl_v (q_move rfl) rfl ?_
        refine vl_v (q_move rfl) rfl ?_
        first | (refine vl_v (q_add_n (q := 64) rfl rfl (by omega)) rfl ?_) | (refine vl_v (q_add_i rfl rfl (by omega) (by omega)) rfl ?_)
        refine vl_v (q_slcS Try.underlying24 sz5 rfl ⟨_, rfl⟩ ⟨_, rfl⟩ rfl (.inl rfl) (by omega) (by omega) (by omega)) rfl ?_
        refine vl_v (q_move rfl) rfl ?_
        first | (refine vl_v (q_add_n (q := 64) rfl rfl (by omega)) rfl ?_) | (refine vl_v (q_add_i rfl rfl (by omega) (by omega)) rfl ?_)
        refine l_callR Try.func61 rfl rfl rfl (fun w1 H1 => rinto_falseL (hs (hKey key.length) al j) ((al.drop (64 * j)).take 64) (64 * j + 64) X _ e _ _ (by omega) hhl (by rw [List.length_take, List.length_drop]; omega) hp2 (by omega) (by omega) w1 (Row.sl (H1.get (k := 0) rfl)) (slPart (Row.sl (H1.get (k := 1) rfl)) (64 * j) c34 64 (by omega))) rfl ?_
        intro A48 c48 hc48 hm48
        refine vl_v (q_assign rfl) rfl ?_
        refine vl_nil ?_
        refine (th_n ?_)
        refine VC_region ?_
        refine vl_v (q_move rfl) rfl ?_
        first | (refine vl_v (q_add_n (q := 64) rfl rfl (by omega)) rfl ?_) | (refine vl_v (q_add_i rfl rfl (by omega) (by omega)) rfl ?_)
        refine vl_v (q_assign rfl) rfl ?_
        refine vl_nil ?_
        refine (bl_n (th_n ?_))
        refine ⟨(j + 1, A48, c48), ⟨by simp only; omega, hc48⟩, by simp only; omega, (Sub.cons (s := 4) rfl (Sub.cons (s := 5) rfl (Sub.cons (s := 6) rfl (Sub.cons (s := 7) rfl (Sub.cons (s := 8) rfl (Sub.nil _)))))), fun w' H => H.pick (ks := [0, 2, 3]) (by decide) rfl⟩
      · skip
        have ht39 := of_decide_eq_false ht39
        simp only at ht39
        have hj : j = (al.length - 1) / 64 := by omega
        have hdl : (al.drop (64 * j)).length = 64 + b.length - 64 * j := by rw [List.length_drop]; omega
        refine VC_exit ?_
        refine (th_x (th_x (bl_xs (th_n ?_))))
        refine VC_seq ?_
        refine VC_region ?_
        refine vl_v (q_move rfl) rfl ?_
        refine vl_v (q_move rfl) rfl ?_
        refine vl_v (q_move rfl) rfl ?_
        refine vl_v (q_slcS Try.underlying24 sz5 rfl ⟨_, rfl⟩ rfl rfl (.inl rfl) (by omega) (by omega) (by omega)) rfl ?_
        refine l_callR Try.func60 rfl rfl rfl (fun w1 H1 => filled_calls (al.drop (64 * j)) _ _ _ hdl.symm (by omega) w1 (slRest (Row.sl (H1.get (k := 1) rfl)) (64 * j) c34 (by omega))) rfl ?_
        intro A55 c55 hc55 hm55
        refine vl_v (q_move rfl) rfl ?_
        refine vl_v (q_lenS Try.underlying24 rfl) rfl ?_
        refine l_callR Try.func61 rfl rfl rfl (fun w1 H1 => rinto_true (hs (hKey key.length) al j) (padB (al.drop (64 * j))) (64 + b.length) X A55 e c55 hhl (padB_length (by omega)) hp2 hc55 (by omega) w1 (Row.sl (H1.get (k := 1) rfl)) (Row.sl (H1.get (k := 0) rfl))) rfl ?_
        intro A58 c58 hc58 hm58
        refine vl_v (q_assign rfl) rfl ?_
        refine vl_nil ?_
        refine (th_n ?_)
        refine VC_seq ?_
        refine VC_region ?_
        rw [show into (hs (hKey key.length) al j) (padB (al.drop (64 * j))) (UInt64.ofNat (64 + b.length)) true = hEnd (hKey key.length) al by rw [hEnd, ← hj, hN]]
        have hel := (hEnd_length (hKey key.length) al).trans (hKey_length key.length)
        refine l_allocA zr23 rfl ?_
        intro b9
        refine vl_nil ?_
        refine (th_n ?_)
        refine VC_seq ?_
        refine VC_seq ?_
        refine VC_region ?_
        refine vl_v (q_assign rfl) rfl ?_
        refine vl_nil ?_
        refine (th_n ?_)
        refine VC_block ?_
        refine VC_loop (ι := Nat) (fun z => z ≤ 32) (fun z => [(4, vP b4 0), (6, .slice A58 8 c58), (9, vP b9 0), (10, vN z)]) (fun z => [.blk b9 23 (bys (hOut (hEnd (hKey key.length) al) z)), .row 56 1 (.slice A58 8 c58) 8 (u32s (hEnd (hKey key.length) al)), .blk b4 23 (bys (List.replicate 32 0))]) (fun z => 32 - z) 0 (by omega) (Sub.cons (s := 4) rfl (Sub.cons (s := 6) rfl (Sub.cons (s := 9) rfl (Sub.cons (s := 10) rfl (Sub.nil _))))) (fun w' H => H.pick (ks := [0, 1, 5]) (by decide) rfl) ?_
        rintro z hp
        have hol := hOut_length (hEnd (hKey key.length) al) z
        refine VC_seq ?_
        refine VC_seq ?_
        refine VC_region ?_
        refine vl_v (q_move rfl) rfl ?_
        first | (refine vl_v (q_lss_n (q := 32) Try.underlying3 rfl rfl) rfl ?_) | (refine vl_v (q_lss_k Try.underlying3 rfl rfl) rfl ?_)
        refine vl_nil ?_
        refine (th_n ?_)
        refine VC_cond rfl (fun ht60 => ?_) (fun ht60 => ?_)
        · skip
          have ht60 := of_decide_eq_true ht60
          refine VC_skip ?_
          refine (th_n ?_)
          refine VC_seq ?_
          refine VC_block ?_
          refine VC_region ?_
          refine vl_v (q_move rfl) rfl ?_
          refine vl_v (q_move rfl) rfl ?_
          refine vl_v (q_move rfl) rfl ?_
          refine vl_v (q_quo_n (q := 4) rfl rfl (by omega) (by omega)) rfl ?_
          refine vl_v (q_idxRd Try.underlying82 sz56 rfl rfl (by first | omega | with_reducible assumption | (simp only [zb, zu, zw, zi, za]; omega) | (simp only [zs, zr, zm, za, zb, zu, zw, zi, zt, zd, zc, zn, *] <;> first | done | omega) | rfl) (Reads.row 1 rfl) (by first | omega | with_reducible assumption | (simp only [zb, zu, zw, zi, za]; omega) | (simp only [zs, zr, zm, za, zb, zu, zw, zi, zt, zd, zc, zn, *] <;> first | done | omega) | rfl)) rfl ?_
          refine vl_v (q_loadRd Try.underlying56 rfl rfl (Reads.row 1 rfl) (u32s_at (by first | omega | with_reducible assumption | (simp only [zb, zu, zw, zi, za]; omega) | (simp only [zs, zr, zm, za, zb, zu, zw, zi, zt, zd, zc, zn, *] <;> first | done | omega) | rfl))) rfl ?_
          refine vl_v (q_move rfl) rfl ?_
          refine vl_v (q_rem_n (q := 4) rfl rfl (by omega)) rfl ?_
          first | (refine vl_v (q_mul_n (p := 8) rfl rfl (by omega)) rfl ?_) | (refine vl_v (q_mul_i rfl rfl (by omega) (by omega)) rfl ?_)
          refine vl_v (q_shr_u32 rfl rfl) rfl ?_
          refine vl_v (q_conv_nu8 Try.underlying56 Try.underlying5 rfl) rfl ?_
          first | (refine vl_v (q_idxA Try.underlying23 sz5 rfl rfl (by omega) (r := _) (by rw [Nat.mul_one, Nat.zero_add])) rfl ?_) | (refine vl_v (q_idxA Try.underlying23 sz5 rfl rfl (by omega) rfl) rfl ?_)
          first | (refine l_stB 0 rfl rfl rfl sz5 (by first | omega | with_reducible assumption | (simp only [zb, zu, zw, zi, za]; omega) | (simp only [zs, zr, zm, za, zb, zu, zw, zi, zt, zd, zc, zn, *] <;> first | done | omega) | rfl) ?_) | (refine l_store1 0 rfl rfl rfl sz5 rfl (by first | decide | simp) ?_)
          simp only [List.set_cons_zero, List.set_cons_succ]
          refine vl_nil ?_
          refine (bl_n (th_n ?_))
          refine VC_region ?_
          refine vl_v (q_move rfl) rfl ?_
          first | (refine vl_v (q_add_n (q := 1) rfl rfl (by omega)) rfl ?_) | (refine vl_v (q_add_i rfl rfl (by omega) (by omega)) rfl ?_)
          refine vl_v (q_assign rfl) rfl ?_
          refine vl_nil ?_
          refine (th_n ?_)
          refine ⟨z + 1, by omega, by omega, (Sub.cons (s := 4) rfl (Sub.cons (s := 6) rfl (Sub.cons (s := 9) rfl (Sub.cons (s := 10) rfl (Sub.nil _))))), fun w' H => by rw [hOut_step]; exact H⟩
        · skip
          have ht60 := of_decide_eq_false ht60
          obtain rfl : z = 32 := by omega
          rw [show hOut (hEnd (hKey key.length) al) 32 = macB key b by rw [macB, ← hal]]
          have hml := macB_length key b
          refine VC_exit ?_
          refine (th_x (th_x (bl_xs (th_n ?_))))
          refine VC_seq ?_
          refine VC_region ?_
          first | (refine vl_v (q_loads 0 Try.underlying23 rfl rfl rfl sz23 (by first | omega | with_reducible assumption | (simp only [zb, zu, zw, zi, za]; omega) | (simp only [zs, zr, zm, za, zb, zu, zw, zi, zt, zd, zc, zn, *] <;> first | done | omega) | rfl)) rfl ?_) | (refine vl_v (q_loadsAt 0 Try.underlying23 rfl rfl rfl sz23 (by rfl) (by first | omega | with_reducible assumption | (simp only [zb, zu, zw, zi, za]; omega) | (simp only [zs, zr, zm, za, zb, zu, zw, zi, zt, zd, zc, zn, *] <;> first | done | omega) | rfl)) rfl ?_)
          refine l_storeA 2 rfl rfl rfl sz23 (by first | omega | with_reducible assumption | (simp only [zb, zu, zw, zi, za]; omega) | (simp only [zs, zr, zm, za, zb, zu, zw, zi, zt, zd, zc, zn, *] <;> first | done | omega) | rfl) (by first | (with_reducible first | exact bys_one _ | exact u32s_one _ | exact u64s_one _ | exact i64s_one _ | exact n64s_one _ | assumption) | exact bys_one _ | exact u32s_one _ | exact u64s_one _ | exact i64s_one _ | exact one_all rfl | (refine app_one ?_ ?_ <;> first | exact bys_one _ | (simp; done))) (by first | omega | with_reducible assumption | (simp only [zb, zu, zw, zi, za]; omega) | (simp only [zs, zr, zm, za, zb, zu, zw, zi, zt, zd, zc, zn, *] <;> first | done | omega) | rfl) ?_
          simp only [List.set_cons_zero, List.set_cons_succ]
          refine vl_v (q_assign rfl) rfl ?_
          refine vl_nil ?_
          refine (th_n ?_)
          refine VC_ret ?_
          refine ⟨_, resC2 2 rfl Try.underlying23 rfl rfl rfl sz23 (by first | omega | with_reducible assumption | (simp only [zb, zu, zw, zi, za]; omega) | (simp only [zs, zr, zm, za, zb, zu, zw, zi, zt, zd, zc, zn, *] <;> first | done | omega) | rfl) rfl, ?_⟩
          exact rfl
    · skip
      have ht29 := of_decide_eq_false ht29
      exfalso; omega
end Go.Proofs.Ytkadnmoephkklaa
