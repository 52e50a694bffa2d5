/- What is owned is parted: some of it is worked on, the rest stands by. No condition. -/
import Derived.Test.YtngdppffcdhhlaaVQ
import Derived.Test.YtngdppffcdhhlaaVS
namespace Go.PBYtngdppffcdhhlaa
open Go Go.RowKit
set_option linter.unusedVariables false
set_option linter.unusedSimpArgs false
/-- the blocks of resources -/
def ats (X : List Res) : List Nat := X.filterMap Res.at
/-- what is owned among other things, alone -/
theorem St.own {S : List Nat} {w0 w : World} {X R : List Res} (H : St S w0 (X ++ R) w) : St (ats X) w X w :=
  ⟨Kept.refl _ _, fun r hr => H.ok r (List.mem_append_left _ hr), fun r hr b hb => .inr (List.mem_filterMap.2 ⟨r, hr, hb⟩), H.apart.sublist (List.sublist_append_left _ _)⟩
/-- and back among the others -/
theorem St.swap {S : List Nat} {w0 w w' : World} {X R X' : List Res} (H : St S w0 (X ++ R) w) (H' : St (ats X) w X' w') : St S w0 (X' ++ R) w' := by
  have hT : ∀ b, b ∈ ats X → ∃ r ∈ X, r.at = some b := fun b hb => by
    obtain ⟨r, hr, h⟩ := List.mem_filterMap.1 hb
    exact ⟨r, hr, h⟩
  have hX : ∀ r ∈ X, r ∈ X ++ R := fun r hr => List.mem_append_left _ hr
  have hR : ∀ r ∈ R, r ∈ X ++ R := fun r hr => List.mem_append_right _ hr
  have hap := List.pairwise_append.1 H.apart
  have hstay : ∀ s ∈ R, s.ok w' := fun s hs => Res.of_eq (H.ok s (hR s hs)) fun b hb => H'.kept.block b (Res.lt (H.ok s (hR s hs)) hb) fun hm => by
    obtain ⟨r, hr, h⟩ := hT b hm
    exact hap.2.2 r hr s hs b h hb
  refine ⟨⟨H'.kept.os.trans H.kept.os, H'.kept.tape.trans H.kept.tape, H'.kept.output.trans H.kept.output, Nat.le_trans H.kept.size H'.kept.size, fun k hk hn => ?_⟩, ?_, ?_, ?_⟩
  · rw [H'.kept.block k (Nat.lt_of_lt_of_le hk H.kept.size) fun hm => ?_]
    · exact H.kept.block k hk hn
    · obtain ⟨r, hr, h⟩ := hT k hm
      rcases H.new r (hX r hr) k h with h | h
      · omega
      · exact hn h
  · intro s hs
    rcases List.mem_append.1 hs with h | h
    · exact H'.ok s h
    · exact hstay s h
  · intro s hs b hb
    rcases List.mem_append.1 hs with h | h
    · rcases H'.new s h b hb with h' | h'
      · exact .inl (Nat.le_trans H.kept.size h')
      · obtain ⟨r, hr, h2⟩ := hT b h'
        exact H.new r (hX r hr) b h2
    · exact H.new s (hR s h) b hb
  · refine List.pairwise_append.2 ⟨H'.apart, hap.2.1, ?_⟩
    intro s hs t ht b hb htb
    rcases H'.new s hs b hb with h' | h'
    · have := Res.lt (H.ok t (hR t ht)) htb
      omega
    · obtain ⟨r, hr, h2⟩ := hT b h'
      exact hap.2.2 r hr t ht b h2 htb
section
variable {P : Program} {n : Nat} {S : List Nat} {w0 : World} {Q : QE} {env : Env} {X F : List Res} {c : Code}
/-- code that works on some of what is owned -/
theorem VC_frame (h : ∀ w, St S w0 (X ++ F) w → VC P n (ats X) w c (fun e env X' => Q e env (X' ++ F)) env X) : VC P n S w0 c Q env (X ++ F) :=
  ⟨fun a w hm H => wp_mono ((h w H).run a w hm H.own) fun e a' w' ⟨env', X', h1, h2, h3⟩ => ⟨env', X' ++ F, h1, H.swap h2, h3⟩⟩
/-- what lay there before any of it -/
theorem Reads.own {w w0 : World} {L : List Res} {A : Option Addr} {vs : List Value} (hA : SlAt w0 A vs) (H : St [] w0 (X ++ F) w) : Reads (ats X) w L A vs := by
  have h1 : SlAt w A vs := H.sl0 hA
  intro w' H' j v hj
  obtain ⟨a, e, hc⟩ := h1 j v hj
  refine ⟨a, e, H'.kept.cell hc ?_⟩
  intro hm
  obtain ⟨r, hr, hb⟩ := List.mem_filterMap.1 hm
  obtain ⟨a0, e0, hc0⟩ := hA j v hj
  rw [e] at e0
  cases e0
  have hl := World.block_lt_of_cell? w0 _ hc0
  rcases H.new r (List.mem_append_left _ hr) _ hb with h | h
  · omega
  · simp at h
/-- what of the rest is read -/
theorem Reads.rest {w w0 : World} {L : List Res} {A : Option Addr} {vs : List Value} (r : Res) (hr : r ∈ F) (hA : ∀ w', r.ok w' → SlAt w' A vs) (H : St S w0 (X ++ F) w) : Reads (ats X) w L A vs := by
  intro w' H'
  refine hA w' (Res.of_eq (H.ok r (List.mem_append_right _ hr)) fun b hb => H'.kept.block b (Res.lt (H.ok r (List.mem_append_right _ hr)) hb) fun hm => ?_)
  obtain ⟨x, hx, h⟩ := List.mem_filterMap.1 hm
  exact (List.pairwise_append.1 H.apart).2.2 x hx r hr b h hb
end
section
variable {P : Program} {n : Nat} {S : List Nat} {w0 : World} {env : Env} {L : List Res}
variable {d : Tmp} {ty : TypeId} {pos : String} {af : Array Edge} {g : Option (Nat × Bool)}
/-- a field, by an address that is read -/
theorem q_fldRd {s : TypeId} {x : Operand} {f off sz m r : Nat} {A : Option Addr} (hf : fieldOff P s f = some (off, sz)) (hz : sz ≠ 0) (hx : evalE env x = some (ptrOf A m)) (hr : m + off = r) :
    QT P n S w0 { dst := some d, op := .fieldAddr s x f, type := ty, pos, after := af, guard := g } env L (.val (ptrOf A r)) := by
  have h := q_fldAd (n := n) (S := S) (w0 := w0) (L := L) (d := d) (ty := ty) (pos := pos) (af := af) (g := g) hf hz hx
  rw [Addr.add_add' _ _ _ (.inr (.inr trivial)), hr] at h
  exact h
end
end Go.PBYtngdppffcdhhlaa
