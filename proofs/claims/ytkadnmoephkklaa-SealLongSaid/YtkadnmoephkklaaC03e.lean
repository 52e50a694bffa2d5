/- What the functions of package kdf do: a key that is drawn, bytes that are spread. Conditions: lengths. -/
import Derived.Test.YtkadnmoephkklaaC03d
import Derived.Test.YtkadnmoephkklaaS03b
import Derived.Test.YtkadnmoephkklaaVQ
namespace Go.Proofs.Ytkadnmoephkklaa
open Go.RowKit Go.PBYtkadnmoephkklaa
set_option linter.unusedVariables false
set_option linter.unusedSimpArgs false
set_option maxRecDepth 10000

set_option maxHeartbeats 2000000 in
theorem draw_calls (k b : List UInt8) (B : Option Addr) (lb cb : Nat) (hk : k.length = 32) (hlb : lb = b.length) (hb : b.length ≤ 1000000) (w : World) (hB : SlAt w B (bys b)) (hcb : b.length ≤ cb) :
    Calls Try.prog 20 #[.agg (bys k).toArray, .slice B lb cb] w fun e w' => e = .returned (.agg (bys (macB k b)).toArray) ∧ Kept [] w w' := by
  subst hlb
  have hml := macB_length k b
  refine enter (n := 14) (R := fun e L => e = .returned (.agg (bys (macB k b)).toArray)) [.agg (bys k).toArray, .slice B b.length cb] Try.func20 rfl rfl rfl (St.refl w) ?_ (fun e w' L' h H => ⟨h, H.kept⟩)
  refine VC_seq ?_
  refine VC_region ?_
  refine l_boxA rfl rfl ?_
  intro b2
  refine l_allocA zr23 rfl ?_
  intro b4
  refine vl_nil ?_
  refine (th_n ?_)
  refine VC_seq ?_
  refine VC_region ?_
  refine vl_v (q_slcA Try.underlying23 sz5 rfl rfl rfl rfl (.inl rfl) (by omega) (by omega) (by omega) (by omega) (by (try simp only [Nat.mul_one, Nat.zero_add, Nat.zero_mul, Nat.mul_zero, Nat.add_zero]) <;> rfl)) rfl ?_
  refine vl_v (q_move rfl) rfl ?_
  refine vl_v (q_callV Try.func24 rfl rfl rfl (fun w1 H1 => mac_calls k b _ _ 32 cb 32 hk.symm (by omega) (by omega) hb w1 (Reads.blk 1 rfl w1 H1) (Reads.old hB w1 H1) (by omega) hcb)) rfl ?_
  refine vl_v (q_move rfl) rfl ?_
  refine vl_v (q_ext rfl rfl) rfl ?_
  refine vl_v (q_ext rfl rfl) rfl ?_
  refine l_allocA zr23 rfl ?_
  intro b5
  refine l_storeA 0 rfl rfl rfl sz23 (by first | omega | with_reducible assumption | (simp only [zb, zu, zw, zi, za]; omega) | (simp only [zs, zr, zm, za, zb, zu, zw, zi, zt, zd, zc, zn, *] <;> first | done | omega) | rfl) (by first | (with_reducible first | exact bys_one _ | exact u32s_one _ | exact u64s_one _ | exact i64s_one _ | exact n64s_one _ | assumption) | exact bys_one _ | exact u32s_one _ | exact u64s_one _ | exact i64s_one _ | exact one_all rfl | (refine app_one ?_ ?_ <;> first | exact bys_one _ | (simp; done))) (by first | omega | with_reducible assumption | (simp only [zb, zu, zw, zi, za]; omega) | (simp only [zs, zr, zm, za, zb, zu, zw, zi, zt, zd, zc, zn, *] <;> first | done | omega) | rfl) ?_
  simp only [List.set_cons_zero, List.set_cons_succ]
  refine vl_v (q_assign rfl) rfl ?_
  refine vl_nil ?_
  refine (th_n ?_)
  refine VC_seq ?_
  refine VC_region ?_
  first | (refine vl_v (q_loads 0 Try.underlying23 rfl rfl rfl sz23 (by first | omega | with_reducible assumption | (simp only [zb, zu, zw, zi, za]; omega) | (simp only [zs, zr, zm, za, zb, zu, zw, zi, zt, zd, zc, zn, *] <;> first | done | omega) | rfl)) rfl ?_) | (refine vl_v (q_loadsAt 0 Try.underlying23 rfl rfl rfl sz23 (by rfl) (by first | omega | with_reducible assumption | (simp only [zb, zu, zw, zi, za]; omega) | (simp only [zs, zr, zm, za, zb, zu, zw, zi, zt, zd, zc, zn, *] <;> first | done | omega) | rfl)) rfl ?_)
  refine l_storeA 1 rfl rfl rfl sz23 (by first | omega | with_reducible assumption | (simp only [zb, zu, zw, zi, za]; omega) | (simp only [zs, zr, zm, za, zb, zu, zw, zi, zt, zd, zc, zn, *] <;> first | done | omega) | rfl) (by first | (with_reducible first | exact bys_one _ | exact u32s_one _ | exact u64s_one _ | exact i64s_one _ | exact n64s_one _ | assumption) | exact bys_one _ | exact u32s_one _ | exact u64s_one _ | exact i64s_one _ | exact one_all rfl | (refine app_one ?_ ?_ <;> first | exact bys_one _ | (simp; done))) (by first | omega | with_reducible assumption | (simp only [zb, zu, zw, zi, za]; omega) | (simp only [zs, zr, zm, za, zb, zu, zw, zi, zt, zd, zc, zn, *] <;> first | done | omega) | rfl) ?_
  simp only [List.set_cons_zero, List.set_cons_succ]
  refine vl_nil ?_
  refine (th_n ?_)
  refine VC_ret ?_
  refine ⟨_, resC1 1 rfl Try.underlying23 rfl rfl rfl sz23 (by first | omega | with_reducible assumption | (simp only [zb, zu, zw, zi, za]; omega) | (simp only [zs, zr, zm, za, zb, zu, zw, zi, zt, zd, zc, zn, *] <;> first | done | omega) | rfl), ?_⟩
  exact rfl

def sprEnd (b10 b9 b4 b3 b8 : Nat) (k p last out : List UInt8) (nb : UInt8) (b5 : Nat) (A8 : Option Addr) (l8 c8 : Nat) : List Res :=
  [.blk b10 5 [vU8 nb], .blk b9 24 [.slice (some ⟨b5, 0, none⟩) 32 32], .row 23 1 (.slice (some ⟨b5, 0, none⟩) 32 32) 32 (bys last), .blk b4 9 [.string ⟨p.toArray⟩], .blk b3 23 (bys k), .blk b8 24 [.slice A8 l8 c8], .row 5 1 (.slice A8 l8 c8) l8 (bys out)]

set_option maxHeartbeats 2000000 in
theorem spr1_some {S : List Nat} {w0 : World} (k p last out mc : List UInt8) (nb : UInt8) (hmc : mc = macB k (last ++ p ++ [nb + 1])) (b10 b9 b4 b3 b8 : Nat) (A9 A8 : Option Addr) (l9 l8 c8 : Nat) (T9 : TypeId) (hk : k.length = 32) (hp : 0 < p.length) (hp2 : p.length ≤ 1000) (hl9 : l9 = last.length) (hla : last.length ≤ 32) (hl8 : l8 = out.length) (ho : out.length ≤ 3000) (w : World)
    (H : St S w0 [.blk b10 5 [vU8 nb], .blk b9 24 [.slice A9 l9 l9], .row T9 1 (.slice A9 l9 l9) l9 (bys last), .blk b4 9 [.string ⟨p.toArray⟩], .blk b3 23 (bys k), .blk b8 24 [.slice A8 l8 c8], .row 5 1 (.slice A8 l8 c8) l8 (bys out)] w) :
    Calls Try.prog 39 #[vP b10 0, vP b9 0, vP b4 0, vP b3 0, vP b8 0] w fun e w' => e = .returned (.tuple #[]) ∧ ∃ b5 A8' c8', St S w0 (sprEnd b10 b9 b4 b3 b8 k p mc (out ++ mc) (nb + 1) b5 A8' (l8 + 32) c8') w' := by
  subst hl9
  subst hl8
  have hml : mc.length = 32 := by rw [hmc]; exact macB_length ..
  refine enter (n := 21) (R := fun e L => e = .returned (.tuple #[]) ∧ ∃ b5 A8' c8', ∀ w', St S w0 L w' → St S w0 (sprEnd b10 b9 b4 b3 b8 k p mc (out ++ mc) (nb + 1) b5 A8' (out.length + 32) c8') w') [vP b10 0, vP b9 0, vP b4 0, vP b3 0, vP b8 0] Try.func39 rfl rfl rfl H ?_ (fun e w' L' h H => by obtain ⟨h1, b5, A, c, h2⟩ := h; exact ⟨h1, b5, A, c, h2 w' H⟩)
  refine VC_seq ?_
  refine VC_region ?_
  first | (refine vl_v (q_load 0 Try.underlying5 rfl rfl rfl (bys_at (by first | omega | with_reducible assumption | (simp only [zb, zu, zw, zi, za]; omega) | (simp only [zs, zr, zm, za, zb, zu, zw, zi, zt, zd, zc, zn, *] <;> first | done | omega) | rfl))) rfl ?_) | (refine vl_v (q_load 0 Try.underlying5 rfl rfl rfl rfl) rfl ?_)
  refine vl_v (q_add_u8 (q := UInt8.ofNat 1) rfl rfl) rfl ?_
  first | (refine l_stB 0 rfl rfl rfl sz5 (by first | omega | with_reducible assumption | (simp only [zb, zu, zw, zi, za]; omega) | (simp only [zs, zr, zm, za, zb, zu, zw, zi, zt, zd, zc, zn, *] <;> first | done | omega) | rfl) ?_) | (refine l_store1 0 rfl rfl rfl sz5 rfl (by first | decide | simp) ?_)
  simp only [List.set_cons_zero, List.set_cons_succ]
  refine vl_nil ?_
  refine (th_n ?_)
  refine VC_seq ?_
  refine VC_drawM 5 [[], [], [0, 1], [], [3], [2, 4], [5, 0, 1, 2, 3, 4]] [[], [], [0, 1], [], [3], [0, 1, 2, 3, 4], [0, 1, 2, 3, 4, 5]] rfl (by kernel_rfl) ?_
  refine qm_v (fun xs hx => q_load 1 Try.underlying24 rfl rfl rfl rfl) ?_
  refine qm_v (fun xs hx => q_load 3 Try.underlying9 rfl rfl rfl rfl) ?_
  refine qm_a (fun xs hx => q_appendSN 2 rfl rfl rfl Try.underlying24 Try.underlying9 in5 rfl (by decide) (by omega) (by omega) hp) ?_
  first | (refine qm_v (fun xs hx => q_load 0 Try.underlying5 rfl rfl rfl (bys_at (by first | omega | with_reducible assumption | (simp only [zb, zu, zw, zi, za]; omega) | (simp only [zs, zr, zm, za, zb, zu, zw, zi, zt, zd, zc, zn, *] <;> first | done | omega) | rfl))) ?_) | (refine qm_v (fun xs hx => q_load 0 Try.underlying5 rfl rfl rfl rfl) ?_)
  refine qm_a (fun xs hx => q_litA (cs := bys [_]) Try.underlying24 in5 (by decide) rfl rfl rfl rfl (by first | (with_reducible first | exact bys_one _ | exact u32s_one _ | exact u64s_one _ | exact i64s_one _ | exact n64s_one _ | assumption) | exact bys_one _ | exact u32s_one _ | exact u64s_one _ | exact i64s_one _ | exact one_all rfl | (refine app_one ?_ ?_ <;> first | exact bys_one _ | (simp; done))) rfl) ?_
  refine qm_end ?_
  intro xs hx
  obtain ⟨⟨A10, c10, e10, hc10, hm10⟩, ⟨b12, e12⟩, _⟩ := hx
  simp only [e10]
  simp only [e12]
  simp only [resT, nRow, nBlk, nRowT, tupAt_0, List.append_assoc, List.nil_append, List.append_nil, List.cons_append, List.singleton_append, e10, e12]
  refine VL.keep (Sub.cons (s := 0) rfl (Sub.cons (s := 1) rfl (Sub.cons (s := 2) rfl (Sub.cons (s := 3) rfl (Sub.cons (s := 4) rfl (Sub.cons (s := 10) rfl (Sub.cons (s := 12) rfl (Sub.nil _)))))))) ?_
  refine l_append 0 rfl rfl rfl Try.underlying24 Try.underlying24 in5 rfl (by decide) (Reads.row 1 rfl) (by first | omega | with_reducible assumption | (simp only [zb, zu, zw, zi, za]; omega) | (simp only [zs, zr, zm, za, zb, zu, zw, zi, zt, zd, zc, zn, *] <;> first | done | omega) | rfl) (by first | (with_reducible first | exact bys_one _ | exact u32s_one _ | exact u64s_one _ | exact i64s_one _ | exact n64s_one _ | assumption) | exact bys_one _ | exact u32s_one _ | exact u64s_one _ | exact i64s_one _ | exact one_all rfl | (refine app_one ?_ ?_ <;> first | exact bys_one _ | (simp; done))) (by first | omega | with_reducible assumption | (simp only [zb, zu, zw, zi, za]; omega) | (simp only [zs, zr, zm, za, zb, zu, zw, zi, zt, zd, zc, zn, *] <;> first | done | omega) | rfl) (by first | omega | with_reducible assumption | (simp only [zb, zu, zw, zi, za]; omega) | (simp only [zs, zr, zm, za, zb, zu, zw, zi, zt, zd, zc, zn, *] <;> first | done | omega) | rfl) rfl ?_
  intro A13 c13 hc13
  simp only [List.set_cons_zero, List.set_cons_succ, ← bys_append, ← u32s_append, ← u64s_append, ← i64s_append, List.nil_append, Nat.zero_add]
  refine l_store1 3 rfl rfl rfl sz24 rfl (by first | decide | simp) ?_
  simp only [List.set_cons_zero, List.set_cons_succ]
  refine vl_nil ?_
  refine (qn_n (th_n ?_))
  refine VC_seq ?_
  refine VC_region ?_
  first | (refine vl_v (q_loads 6 Try.underlying23 rfl rfl rfl sz23 (by first | omega | with_reducible assumption | (simp only [zb, zu, zw, zi, za]; omega) | (simp only [zs, zr, zm, za, zb, zu, zw, zi, zt, zd, zc, zn, *] <;> first | done | omega) | rfl)) rfl ?_) | (refine vl_v (q_loadsAt 6 Try.underlying23 rfl rfl rfl sz23 (by rfl) (by first | omega | with_reducible assumption | (simp only [zb, zu, zw, zi, za]; omega) | (simp only [zs, zr, zm, za, zb, zu, zw, zi, zt, zd, zc, zn, *] <;> first | done | omega) | rfl)) rfl ?_)
  refine vl_v (q_load 3 Try.underlying24 rfl rfl rfl rfl) rfl ?_
  refine vl_v (q_callV Try.func20 rfl rfl rfl (fun w1 H1 => hmc ▸ draw_calls k (last ++ p ++ [nb + 1]) _ _ _ hk (by simp <;> omega) (by simp <;> omega) w1 (Reads.row 0 rfl w1 H1) (by simp <;> omega))) rfl ?_
  refine l_allocA zr23 rfl ?_
  intro b5
  refine l_storeA 0 rfl rfl rfl sz23 (by first | omega | with_reducible assumption | (simp only [zb, zu, zw, zi, za]; omega) | (simp only [zs, zr, zm, za, zb, zu, zw, zi, zt, zd, zc, zn, *] <;> first | done | omega) | rfl) (by first | (with_reducible first | exact bys_one _ | exact u32s_one _ | exact u64s_one _ | exact i64s_one _ | exact n64s_one _ | assumption) | exact bys_one _ | exact u32s_one _ | exact u64s_one _ | exact i64s_one _ | exact one_all rfl | (refine app_one ?_ ?_ <;> first | exact bys_one _ | (simp; done))) (by first | omega | with_reducible assumption | (simp only [zb, zu, zw, zi, za]; omega) | (simp only [zs, zr, zm, za, zb, zu, zw, zi, zt, zd, zc, zn, *] <;> first | done | omega) | rfl) ?_
  simp only [List.set_cons_zero, List.set_cons_succ]
  refine vl_nil ?_
  refine (th_n ?_)
  refine VC_seq ?_
  refine VC_region ?_
  refine vl_v (q_slcA Try.underlying23 sz5 rfl rfl rfl rfl (.inl rfl) (by omega) (by omega) (by omega) (by omega) (by (try simp only [Nat.mul_one, Nat.zero_add, Nat.zero_mul, Nat.mul_zero, Nat.add_zero]) <;> rfl)) rfl ?_
  refine l_store1 4 rfl rfl rfl sz24 rfl (by first | decide | simp) ?_
  simp only [List.set_cons_zero, List.set_cons_succ]
  refine vl_nil ?_
  refine (th_n ?_)
  refine VC_region ?_
  refine vl_v (q_load 8 Try.underlying24 rfl rfl rfl rfl) rfl ?_
  refine vl_v (q_load 4 Try.underlying24 rfl rfl rfl rfl) rfl ?_
  refine l_append 9 rfl rfl rfl Try.underlying24 Try.underlying24 in5 rfl (by decide) (Reads.blk 0 rfl) (by first | omega | with_reducible assumption | (simp only [zb, zu, zw, zi, za]; omega) | (simp only [zs, zr, zm, za, zb, zu, zw, zi, zt, zd, zc, zn, *] <;> first | done | omega) | rfl) (by first | (with_reducible first | exact bys_one _ | exact u32s_one _ | exact u64s_one _ | exact i64s_one _ | exact n64s_one _ | assumption) | exact bys_one _ | exact u32s_one _ | exact u64s_one _ | exact i64s_one _ | exact one_all rfl | (refine app_one ?_ ?_ <;> first | exact bys_one _ | (simp; done))) (by first | omega | with_reducible assumption | (simp only [zb, zu, zw, zi, za]; omega) | (simp only [zs, zr, zm, za, zb, zu, zw, zi, zt, zd, zc, zn, *] <;> first | done | omega) | rfl) (by first | omega | with_reducible assumption | (simp only [zb, zu, zw, zi, za]; omega) | (simp only [zs, zr, zm, za, zb, zu, zw, zi, zt, zd, zc, zn, *] <;> first | done | omega) | rfl) rfl ?_
  intro A20 c20 hc20
  simp only [List.set_cons_zero, List.set_cons_succ, ← bys_append, ← u32s_append, ← u64s_append, ← i64s_append, List.nil_append, Nat.zero_add]
  refine l_store1 8 rfl rfl rfl sz24 rfl (by first | decide | simp) ?_
  simp only [List.set_cons_zero, List.set_cons_succ]
  refine vl_nil ?_
  refine ⟨_, res0 rfl, ?_⟩
  exact ⟨rfl, b5, A20, c20, fun w' H => St.pick (H.toRow (k := 0) (size := 1) (n := 32) rfl (by rw [bys_length, hml]) (by unfold maxLen; omega)) (ks := [3, 4, 0, 6, 7, 8, 9]) (by decide) rfl⟩
set_option maxHeartbeats 2000000 in
theorem spr1_none {S : List Nat} {w0 : World} (k p last out mc : List UInt8) (nb : UInt8) (hmc : mc = macB k (last ++ p ++ [nb + 1])) (b10 b9 b4 b3 b8 : Nat) (A9 A8 : Option Addr) (l9 l8 c8 : Nat) (T9 : TypeId) (hk : k.length = 32) (hp : p = []) (hl9 : l9 = last.length) (hla : last.length ≤ 32) (hl8 : l8 = out.length) (ho : out.length ≤ 3000) (w : World)
    (H : St S w0 [.blk b10 5 [vU8 nb], .blk b9 24 [.slice A9 l9 l9], .row T9 1 (.slice A9 l9 l9) l9 (bys last), .blk b4 9 [.string ⟨p.toArray⟩], .blk b3 23 (bys k), .blk b8 24 [.slice A8 l8 c8], .row 5 1 (.slice A8 l8 c8) l8 (bys out)] w) :
    Calls Try.prog 39 #[vP b10 0, vP b9 0, vP b4 0, vP b3 0, vP b8 0] w fun e w' => e = .returned (.tuple #[]) ∧ ∃ b5 A8' c8', St S w0 (sprEnd b10 b9 b4 b3 b8 k p mc (out ++ mc) (nb + 1) b5 A8' (l8 + 32) c8') w' := by
  subst hp
  subst hl9
  rw [List.append_nil] at hmc
  subst hl8
  have hml : mc.length = 32 := by rw [hmc]; exact macB_length ..
  refine enter (n := 21) (R := fun e L => e = .returned (.tuple #[]) ∧ ∃ b5 A8' c8', ∀ w', St S w0 L w' → St S w0 (sprEnd b10 b9 b4 b3 b8 k [] mc (out ++ mc) (nb + 1) b5 A8' (out.length + 32) c8') w') [vP b10 0, vP b9 0, vP b4 0, vP b3 0, vP b8 0] Try.func39 rfl rfl rfl H ?_ (fun e w' L' h H => by obtain ⟨h1, b5, A, c, h2⟩ := h; exact ⟨h1, b5, A, c, h2 w' H⟩)
  refine VC_seq ?_
  refine VC_region ?_
  first | (refine vl_v (q_load 0 Try.underlying5 rfl rfl rfl (bys_at (by first | omega | with_reducible assumption | (simp only [zb, zu, zw, zi, za]; omega) | (simp only [zs, zr, zm, za, zb, zu, zw, zi, zt, zd, zc, zn, *] <;> first | done | omega) | rfl))) rfl ?_) | (refine vl_v (q_load 0 Try.underlying5 rfl rfl rfl rfl) rfl ?_)
  refine vl_v (q_add_u8 (q := UInt8.ofNat 1) rfl rfl) rfl ?_
  first | (refine l_stB 0 rfl rfl rfl sz5 (by first | omega | with_reducible assumption | (simp only [zb, zu, zw, zi, za]; omega) | (simp only [zs, zr, zm, za, zb, zu, zw, zi, zt, zd, zc, zn, *] <;> first | done | omega) | rfl) ?_) | (refine l_store1 0 rfl rfl rfl sz5 rfl (by first | decide | simp) ?_)
  simp only [List.set_cons_zero, List.set_cons_succ]
  refine vl_nil ?_
  refine (th_n ?_)
  refine VC_seq ?_
  refine VC_drawM 5 [[], [], [0, 1], [], [3], [2, 4], [5, 0, 1, 2, 3, 4]] [[], [], [0, 1], [], [3], [0, 1, 2, 3, 4], [0, 1, 2, 3, 4, 5]] rfl (by kernel_rfl) ?_
  refine qm_v (fun xs hx => q_load 1 Try.underlying24 rfl rfl rfl rfl) ?_
  refine qm_v (fun xs hx => q_load 3 Try.underlying9 rfl rfl rfl rfl) ?_
  refine qm_v (fun xs hx => q_appendS0 2 rfl rfl rfl Try.underlying24 Try.underlying9 in5 (by omega)) ?_
  first | (refine qm_v (fun xs hx => q_load 0 Try.underlying5 rfl rfl rfl (bys_at (by first | omega | with_reducible assumption | (simp only [zb, zu, zw, zi, za]; omega) | (simp only [zs, zr, zm, za, zb, zu, zw, zi, zt, zd, zc, zn, *] <;> first | done | omega) | rfl))) ?_) | (refine qm_v (fun xs hx => q_load 0 Try.underlying5 rfl rfl rfl rfl) ?_)
  refine qm_a (fun xs hx => q_litA (cs := bys [_]) Try.underlying24 in5 (by decide) rfl rfl rfl rfl (by first | (with_reducible first | exact bys_one _ | exact u32s_one _ | exact u64s_one _ | exact i64s_one _ | exact n64s_one _ | assumption) | exact bys_one _ | exact u32s_one _ | exact u64s_one _ | exact i64s_one _ | exact one_all rfl | (refine app_one ?_ ?_ <;> first | exact bys_one _ | (simp; done))) rfl) ?_
  refine qm_end ?_
  intro xs hx
  obtain ⟨⟨b12, e12⟩, _⟩ := hx
  simp only [e12]
  simp only [resT, nRow, nBlk, nRowT, tupAt_0, List.append_assoc, List.nil_append, List.append_nil, List.cons_append, List.singleton_append, e12]
  refine VL.keep (Sub.cons (s := 0) rfl (Sub.cons (s := 1) rfl (Sub.cons (s := 2) rfl (Sub.cons (s := 3) rfl (Sub.cons (s := 4) rfl (Sub.cons (s := 10) rfl (Sub.cons (s := 12) rfl (Sub.nil _)))))))) ?_
  refine l_appendT 3 rfl rfl rfl Try.underlying24 Try.underlying24 in5 rfl (by decide) (Reads.row 0 rfl) (by first | omega | with_reducible assumption | (simp only [zb, zu, zw, zi, za]; omega) | (simp only [zs, zr, zm, za, zb, zu, zw, zi, zt, zd, zc, zn, *] <;> first | done | omega) | rfl) (by first | (with_reducible first | exact bys_one _ | exact u32s_one _ | exact u64s_one _ | exact i64s_one _ | exact n64s_one _ | assumption) | exact bys_one _ | exact u32s_one _ | exact u64s_one _ | exact i64s_one _ | exact one_all rfl | (refine app_one ?_ ?_ <;> first | exact bys_one _ | (simp; done))) (by first | omega | with_reducible assumption | (simp only [zb, zu, zw, zi, za]; omega) | (simp only [zs, zr, zm, za, zb, zu, zw, zi, zt, zd, zc, zn, *] <;> first | done | omega) | rfl) (by first | omega | with_reducible assumption | (simp only [zb, zu, zw, zi, za]; omega) | (simp only [zs, zr, zm, za, zb, zu, zw, zi, zt, zd, zc, zn, *] <;> first | done | omega) | rfl) rfl ?_
  intro A13 c13 T13 hc13 hm13
  simp only [List.set_cons_zero, List.set_cons_succ, ← bys_append, ← u32s_append, ← u64s_append, ← i64s_append, List.nil_append, Nat.zero_add]
  refine l_store1 2 rfl rfl rfl sz24 rfl (by first | decide | simp) ?_
  simp only [List.set_cons_zero, List.set_cons_succ]
  refine vl_nil ?_
  refine (qn_n (th_n ?_))
  refine VC_seq ?_
  refine VC_region ?_
  first | (refine vl_v (q_loads 5 Try.underlying23 rfl rfl rfl sz23 (by first | omega | with_reducible assumption | (simp only [zb, zu, zw, zi, za]; omega) | (simp only [zs, zr, zm, za, zb, zu, zw, zi, zt, zd, zc, zn, *] <;> first | done | omega) | rfl)) rfl ?_) | (refine vl_v (q_loadsAt 5 Try.underlying23 rfl rfl rfl sz23 (by rfl) (by first | omega | with_reducible assumption | (simp only [zb, zu, zw, zi, za]; omega) | (simp only [zs, zr, zm, za, zb, zu, zw, zi, zt, zd, zc, zn, *] <;> first | done | omega) | rfl)) rfl ?_)
  refine vl_v (q_load 2 Try.underlying24 rfl rfl rfl rfl) rfl ?_
  refine vl_v (q_callV Try.func20 rfl rfl rfl (fun w1 H1 => hmc ▸ draw_calls k (last ++ [nb + 1]) _ _ _ hk (by simp <;> omega) (by simp <;> omega) w1 (Reads.row 3 rfl w1 H1) (by simp <;> omega))) rfl ?_
  refine l_allocA zr23 rfl ?_
  intro b5
  refine l_storeA 0 rfl rfl rfl sz23 (by first | omega | with_reducible assumption | (simp only [zb, zu, zw, zi, za]; omega) | (simp only [zs, zr, zm, za, zb, zu, zw, zi, zt, zd, zc, zn, *] <;> first | done | omega) | rfl) (by first | (with_reducible first | exact bys_one _ | exact u32s_one _ | exact u64s_one _ | exact i64s_one _ | exact n64s_one _ | assumption) | exact bys_one _ | exact u32s_one _ | exact u64s_one _ | exact i64s_one _ | exact one_all rfl | (refine app_one ?_ ?_ <;> first | exact bys_one _ | (simp; done))) (by first | omega | with_reducible assumption | (simp only [zb, zu, zw, zi, za]; omega) | (simp only [zs, zr, zm, za, zb, zu, zw, zi, zt, zd, zc, zn, *] <;> first | done | omega) | rfl) ?_
  simp only [List.set_cons_zero, List.set_cons_succ]
  refine vl_nil ?_
  refine (th_n ?_)
  refine VC_seq ?_
  refine VC_region ?_
  refine vl_v (q_slcA Try.underlying23 sz5 rfl rfl rfl rfl (.inl rfl) (by omega) (by omega) (by omega) (by omega) (by (try simp only [Nat.mul_one, Nat.zero_add, Nat.zero_mul, Nat.mul_zero, Nat.add_zero]) <;> rfl)) rfl ?_
  refine l_store1 3 rfl rfl rfl sz24 rfl (by first | decide | simp) ?_
  simp only [List.set_cons_zero, List.set_cons_succ]
  refine vl_nil ?_
  refine (th_n ?_)
  refine VC_region ?_
  refine vl_v (q_load 7 Try.underlying24 rfl rfl rfl rfl) rfl ?_
  refine vl_v (q_load 3 Try.underlying24 rfl rfl rfl rfl) rfl ?_
  refine l_append 8 rfl rfl rfl Try.underlying24 Try.underlying24 in5 rfl (by decide) (Reads.blk 0 rfl) (by first | omega | with_reducible assumption | (simp only [zb, zu, zw, zi, za]; omega) | (simp only [zs, zr, zm, za, zb, zu, zw, zi, zt, zd, zc, zn, *] <;> first | done | omega) | rfl) (by first | (with_reducible first | exact bys_one _ | exact u32s_one _ | exact u64s_one _ | exact i64s_one _ | exact n64s_one _ | assumption) | exact bys_one _ | exact u32s_one _ | exact u64s_one _ | exact i64s_one _ | exact one_all rfl | (refine app_one ?_ ?_ <;> first | exact bys_one _ | (simp; done))) (by first | omega | with_reducible assumption | (simp only [zb, zu, zw, zi, za]; omega) | (simp only [zs, zr, zm, za, zb, zu, zw, zi, zt, zd, zc, zn, *] <;> first | done | omega) | rfl) (by first | omega | with_reducible assumption | (simp only [zb, zu, zw, zi, za]; omega) | (simp only [zs, zr, zm, za, zb, zu, zw, zi, zt, zd, zc, zn, *] <;> first | done | omega) | rfl) rfl ?_
  intro A20 c20 hc20
  simp only [List.set_cons_zero, List.set_cons_succ, ← bys_append, ← u32s_append, ← u64s_append, ← i64s_append, List.nil_append, Nat.zero_add]
  refine l_store1 7 rfl rfl rfl sz24 rfl (by first | decide | simp) ?_
  simp only [List.set_cons_zero, List.set_cons_succ]
  refine vl_nil ?_
  refine ⟨_, res0 rfl, ?_⟩
  exact ⟨rfl, b5, A20, c20, fun w' H => St.pick (H.toRow (k := 0) (size := 1) (n := 32) rfl (by rw [bys_length, hml]) (by unfold maxLen; omega)) (ks := [2, 3, 0, 5, 6, 7, 8]) (by decide) rfl⟩

theorem spr1_calls {S : List Nat} {w0 : World} (k p last out mc : List UInt8) (nb : UInt8) (hmc : mc = macB k (last ++ p ++ [nb + 1])) (b10 b9 b4 b3 b8 : Nat) (A9 A8 : Option Addr) (l9 l8 c8 : Nat) (T9 : TypeId) (hk : k.length = 32) (hp2 : p.length ≤ 1000) (hl9 : l9 = last.length) (hla : last.length ≤ 32) (hl8 : l8 = out.length) (ho : out.length ≤ 3000) (w : World)
    (H : St S w0 [.blk b10 5 [vU8 nb], .blk b9 24 [.slice A9 l9 l9], .row T9 1 (.slice A9 l9 l9) l9 (bys last), .blk b4 9 [.string ⟨p.toArray⟩], .blk b3 23 (bys k), .blk b8 24 [.slice A8 l8 c8], .row 5 1 (.slice A8 l8 c8) l8 (bys out)] w) :
    Calls Try.prog 39 #[vP b10 0, vP b9 0, vP b4 0, vP b3 0, vP b8 0] w fun e w' => e = .returned (.tuple #[]) ∧ ∃ b5 A8' c8', St S w0 (sprEnd b10 b9 b4 b3 b8 k p mc (out ++ mc) (nb + 1) b5 A8' (l8 + 32) c8') w' := by
  by_cases hp : p = []
  · exact spr1_none k p last out mc nb hmc b10 b9 b4 b3 b8 A9 A8 l9 l8 c8 T9 hk hp hl9 hla hl8 ho w H
  · exact spr1_some k p last out mc nb hmc b10 b9 b4 b3 b8 A9 A8 l9 l8 c8 T9 hk (List.length_pos_iff.2 hp) hp2 hl9 hla hl8 ho w H

def sprSt (b10 b9 b4 b3 b8 : Nat) (k p : List UInt8) (x : Nat × Option Addr × Option Addr × Nat × TypeId) : List Res :=
  [.blk b10 5 [vU8 (UInt8.ofNat x.1)], .blk b9 24 [.slice x.2.1 (sprLast k p x.1).length (sprLast k p x.1).length], .row x.2.2.2.2 1 (.slice x.2.1 (sprLast k p x.1).length (sprLast k p x.1).length) (sprLast k p x.1).length (bys (sprLast k p x.1)), .blk b4 9 [.string ⟨p.toArray⟩], .blk b3 23 (bys k), .blk b8 24 [.slice x.2.2.1 (32 * x.1) x.2.2.2.1], .row 5 1 (.slice x.2.2.1 (32 * x.1) x.2.2.2.1) (32 * x.1) (bys (sprOut k p x.1))]
theorem spr_next (b10 b9 b4 b3 b8 : Nat) (k p : List UInt8) (j b5 : Nat) (A : Option Addr) (c : Nat) :
    sprEnd b10 b9 b4 b3 b8 k p (sprLast k p (j + 1)) (sprOut k p j ++ sprLast k p (j + 1)) (UInt8.ofNat j + 1) b5 A (32 * j + 32) c = sprSt b10 b9 b4 b3 b8 k p (j + 1, some ⟨b5, 0, none⟩, A, c, 23) := by
  unfold sprEnd sprSt
  have h : (sprLast k p (j + 1)).length = 32 := by rw [sprLast_length, if_neg (by omega)]
  simp only [h, ofNat8_succ, show 32 * (j + 1) = 32 * j + 32 from by omega]
  rfl

set_option maxHeartbeats 2000000 in
theorem spread_calls (k p : List UInt8) (m : Nat) (hk : k.length = 32) (hp : p.length ≤ 1000) (hm : m ≤ 2000) (w : World) :
    Calls Try.prog 18 #[.agg (bys k).toArray, .string ⟨p.toArray⟩, vN m] w fun e w' => ∃ A c, e = .returned (.tuple #[.slice A m m, .int .i64 0]) ∧ St [] w [.row 5 1 (.slice A (32 * ((m + 31) / 32)) c) (32 * ((m + 31) / 32)) (bys (sprOut k p ((m + 31) / 32)))] w' := by
  refine enter (n := 29) (R := fun e L => ∃ A c, e = .returned (.tuple #[.slice A m m, .int .i64 0]) ∧ ∀ w', St [] w L w' → St [] w [.row 5 1 (.slice A (32 * ((m + 31) / 32)) c) (32 * ((m + 31) / 32)) (bys (sprOut k p ((m + 31) / 32)))] w') [.agg (bys k).toArray, .string ⟨p.toArray⟩, vN m] Try.func18 rfl rfl rfl (St.refl w) ?_ (fun e w' L' h H => by obtain ⟨A, c, h1, h2⟩ := h; exact ⟨A, c, h1, h2 w' H⟩)
  refine VC_seq ?_
  refine VC_region ?_
  refine l_boxA rfl rfl ?_
  intro b3
  refine l_box1 rfl rfl rfl ?_
  intro b4
  refine vl_v (q_assign rfl) rfl ?_
  refine vl_v (q_assign rfl) rfl ?_
  refine vl_nil ?_
  refine (th_n ?_)
  refine VC_seq ?_
  refine VC_seq ?_
  refine VC_region ?_
  refine vl_v (q_move rfl) rfl ?_
  refine vl_v (q_as (v := .bool false) (q_lss_n (q := 0) Try.underlying3 rfl rfl) (by simp)) rfl ?_
  refine vl_v (q_move rfl) rfl ?_
  refine vl_vg rfl (q_move rfl) rfl ?_
  refine vl_vg rfl (q_as (v := .bool false) (q_gtr_n (q := 2000) Try.underlying3 rfl rfl) (by simp <;> omega)) rfl ?_
  first | (refine vl_v (q_pickT rfl rfl) rfl ?_) | (refine vl_v (q_pickF rfl rfl) rfl ?_)
  refine vl_nil ?_
  refine (th_n ?_)
  refine VC_no (rfl) ?_
  refine VC_skip ?_
  refine (th_n ?_)
  refine VC_seq ?_
  refine VC_region ?_
  refine l_alloc1 zr24 rfl rfl ?_
  intro b8
  refine l_alloc1 zr24 rfl rfl ?_
  intro b9
  refine vl_nil ?_
  refine (th_n ?_)
  refine VC_seq ?_
  refine VC_region ?_
  refine l_alloc1 zr5 rfl rfl ?_
  intro b10
  first | (refine l_stB (v := UInt8.ofNat 0) 0 rfl rfl rfl sz5 (by first | omega | with_reducible assumption | (simp only [zb, zu, zw, zi, za]; omega) | (simp only [zs, zr, zm, za, zb, zu, zw, zi, zt, zd, zc, zn, *] <;> first | done | omega) | rfl) ?_) | (refine l_store1 0 rfl rfl rfl sz5 rfl (by first | decide | simp) ?_)
  simp only [List.set_cons_zero, List.set_cons_succ]
  refine vl_nil ?_
  refine (th_n ?_)
  refine VC_seq ?_
  refine VC_nilRow 5 1 ?_
  refine VC_nilRow 5 1 ?_
  refine VC_region ?_
  refine vl_v (q_makeFunc rfl) rfl ?_
  refine vl_v (q_assign rfl) rfl ?_
  refine vl_nil ?_
  refine (th_n ?_)
  refine VC_seq ?_
  refine VC_block ?_
  refine VC_loop (ι := Nat × Option Addr × Option Addr × Nat × TypeId) (fun x => 32 * x.1 < m + 32 ∧ 32 * x.1 ≤ x.2.2.2.1) (fun x => [(2, vN m), (8, vP b8 0), (11, .func (.func 39) #[] #[vP b10 0, vP b9 0, vP b4 0, vP b3 0, vP b8 0])]) (fun x => sprSt b10 b9 b4 b3 b8 k p x) (fun x => m + 32 - 32 * x.1) (0, none, none, 0, 5) (⟨by show 32 * 0 < m + 32; omega, by show 32 * 0 ≤ 0; omega⟩) (Sub.cons (s := 2) rfl (Sub.cons (s := 8) rfl (Sub.cons (s := 11) rfl (Sub.nil _)))) (fun w H => St.pick H (ks := [2, 3, 1, 5, 6, 4, 0]) (by decide) rfl) ?_
  rintro ⟨j, A9, A8, c8, T9⟩ hp
  obtain ⟨hp1, hp2⟩ := hp
  have hp1 : 32 * j < m + 32 := hp1
  have hp2 : 32 * j ≤ c8 := hp2
  have hll := sprLast_le k p j
  have hol := sprOut_length k p j
  refine VC_seq ?_
  refine VC_seq ?_
  refine VC_region ?_
  refine vl_v (q_load 5 Try.underlying24 rfl rfl rfl rfl) rfl ?_
  refine vl_v (q_as (v := vN (32 * j)) (q_lenS Try.underlying24 rfl) rfl) rfl ?_
  refine vl_v (q_move rfl) rfl ?_
  first | (refine vl_v (q_lss_n Try.underlying3 rfl rfl) rfl ?_) | (refine vl_v (q_lss_k Try.underlying3 rfl rfl) rfl ?_)
  refine vl_nil ?_
  refine (th_n ?_)
  refine VC_cond rfl (fun ht22 => ?_) (fun ht22 => ?_)
  · skip
    have ht22 := of_decide_eq_true ht22
    refine VC_skip ?_
    refine (th_n ?_)
    refine VC_block ?_
    refine VC_region ?_
    refine vl_v (q_move rfl) rfl ?_
    refine l_clo (F := fun v L' => v = .tuple #[] ∧ ∃ b5 A c, 32 * (j + 1) ≤ c ∧ L' = sprEnd b10 b9 b4 b3 b8 k p (sprLast k p (j + 1)) (sprOut k p j ++ sprLast k p (j + 1)) (UInt8.ofNat j + 1) b5 A (32 * j + 32) c) rfl Try.func39 rfl rfl rfl (fun w1 H1 => (spr1_calls k p (sprLast k p j) (sprOut k p j) (sprLast k p (j + 1)) (UInt8.ofNat j) (by rw [ofNat8_succ]; rfl) b10 b9 b4 b3 b8 A9 A8 _ _ c8 T9 hk hp rfl hll hol.symm (by omega) w1 H1).mono fun e w' h => by obtain ⟨h1, b5, A, c, h2⟩ := h; exact ⟨_, _, h1, ⟨rfl, b5, A, c, by have hr : Res.ok w' (.row 5 1 (.slice A (32 * j + 32) c) (32 * j + 32) _) := h2.get (k := 6) rfl; obtain ⟨_, c', e', hc', _⟩ := Row.slice hr; cases e'; omega, rfl⟩, h2⟩) rfl ?_
    rintro v L' ⟨rfl, b5, A8', c8', hc8', rfl⟩
    refine vl_nil ?_
    refine (bl_n (th_n ?_))
    refine ⟨(j + 1, some ⟨b5, 0, none⟩, A8', c8', 23), ⟨by show 32 * (j + 1) < m + 32; omega, hc8'⟩, by show m + 32 - 32 * (j + 1) < m + 32 - 32 * j; omega, (Sub.cons (s := 2) rfl (Sub.cons (s := 8) rfl (Sub.cons (s := 11) rfl (Sub.nil _)))), fun w' H' => spr_next b10 b9 b4 b3 b8 k p j b5 A8' c8' ▸ H'⟩
  · skip
    have ht22 := of_decide_eq_false ht22
    obtain rfl : j = (m + 31) / 32 := by omega
    refine VC_exit ?_
    refine (th_x (th_x (bl_xs (th_n ?_))))
    refine VC_seq ?_
    refine VC_region ?_
    refine vl_v (q_load 5 Try.underlying24 rfl rfl rfl rfl) rfl ?_
    refine vl_v (q_move rfl) rfl ?_
    refine vl_v (q_move rfl) rfl ?_
    refine vl_v (q_slcS0 Try.underlying24 sz5 rfl ⟨_, rfl⟩ ⟨_, rfl⟩ (.inr rfl) (by omega) (by omega)) rfl ?_
    refine vl_v (q_assign rfl) rfl ?_
    refine vl_v (q_assign rfl) rfl ?_
    refine vl_nil ?_
    refine (th_n ?_)
    refine VC_ret ?_
    refine ⟨_, res2 rfl rfl rfl, ?_⟩
    exact ⟨A8, c8, rfl, fun w' H' => St.pick H' (ks := [6]) (by decide) rfl⟩
end Go.Proofs.Ytkadnmoephkklaa
