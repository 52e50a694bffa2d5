/- What the functions of package skips do: a new store, how many are kept, a key is taken. Conditions: at most so many are kept as memory bears. -/
import Derived.Test.YtngdppffcdhhlaaV11
namespace Go.Proofs.Ytngdppffcdhhlaa
open Go.RowKit Go.PBYtngdppffcdhhlaa
set_option linter.unusedVariables false
set_option linter.unusedSimpArgs false
set_option maxRecDepth 10000

def SkR (b m : Nat) (o : Obj) (A : Option Addr) (c : Nat) (L : List Ent) : List Res :=
  [.blk b 49 [.map (some m), .slice A L.length c], .obj m o, .row 51 33 (.slice A L.length c) L.length (ordC L)]
/-- a store in which these are kept, among other things -/
def SkC (S : List Nat) (w0 : World) (b m : Nat) (L : List Ent) (R : List Res) (w' : World) : Prop := ∃ o A c, MapOf o (mapE L) ∧ St S w0 (SkR b m o A c L ++ R) w'
set_option maxHeartbeats 1000000 in
theorem new_calls (w : World) : Calls Try.prog 9 #[] w fun e w' => ∃ b m, e = .returned (vP b 0) ∧ SkC [] w b m [] [] w' := by
  refine enter (n := 4) (R := fun e L => ∃ b m, e = .returned (vP b 0) ∧ ∀ w', St [] w L w' → SkC [] w b m [] [] w') [] Try.func9 rfl rfl rfl (St.refl w) ?_ (fun e w' L' h H => by obtain ⟨b, m, h1, h2⟩ := h; exact ⟨b, m, h1, h2 w' H⟩)
  refine VC_seq ?_
  refine VC_region ?_
  refine vl_v (q_assign rfl) rfl ?_
  refine vl_nil ?_
  refine (th_n ?_)
  refine VC_seq ?_
  refine VC_region ?_
  refine l_makeMap rfl ?_
  intro bM oM hE
  refine vl_v (q_build (c' := [.map (some bM), .slice none 0 0]) rfl rfl) rfl ?_
  refine l_boxA rfl rfl ?_
  intro b3
  refine vl_v (q_assign rfl) rfl ?_
  refine vl_nil ?_
  refine (th_n ?_)
  refine VC_ret ?_
  refine ⟨_, res1 rfl rfl, ?_⟩
  exact ⟨_, bM, rfl, fun w' H' => ⟨oM, none, 0, hE, St.addNil H' 51 33⟩⟩
set_option maxHeartbeats 1000000 in
theorem len_calls (b n c : Nat) (x : Value) (A : Option Addr) (w : World) (hA : SlAt w (some ⟨b, 0, none⟩) [x, .slice A n c]) :
    Calls Try.prog 11 #[vP b 0] w fun e w' => e = .returned (vN n) ∧ Kept [] w w' := by
  refine enter (n := 8) (R := fun e L => e = .returned (vN n)) [vP b 0] Try.func11 rfl rfl rfl (St.refl w) ?_ (fun e w' L' h H => ⟨h, H.kept⟩)
  refine VC_seq ?_
  refine VC_region ?_
  refine vl_v (q_assign rfl) rfl ?_
  refine vl_nil ?_
  refine (th_n ?_)
  refine VC_seq ?_
  refine VC_region ?_
  refine vl_v (q_move rfl) rfl ?_
  refine vl_v (q_nilck rfl) rfl ?_
  refine vl_v (q_fldA fo49_1 (by decide) rfl rfl) rfl ?_
  refine vl_v (q_loadR (ad := ⟨b, 0, none⟩) (j := 1) Try.underlying47 rfl rfl (Reads.old hA) rfl) rfl ?_
  refine vl_v (q_lenS Try.underlying47 rfl) rfl ?_
  refine vl_v (q_assign rfl) rfl ?_
  refine vl_nil ?_
  refine (th_n ?_)
  refine VC_ret ?_
  refine ⟨_, res1 rfl rfl, ?_⟩
  exact rfl
end Go.Proofs.Ytngdppffcdhhlaa
