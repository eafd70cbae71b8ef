/- Solutions of games of parity, by parts. Plain law, no program in sight. -/
import Derived.Test.YtndiklipffipcaaParT
set_option linter.unusedVariables false
set_option linter.unusedSimpArgs false
namespace Go.Proofs.Ytndiklipffipcaa.Par
open Classical
variable {G : Gm} {X Y : Int → Prop} {p : Bool} {S S' A A2 W W2 D : Int → Prop}

theorem IsAttr.congrS (h : IsAttr G X p S A) (e : ∀ v, X v → (S v ↔ S' v)) : IsAttr G X p S' A := by
  obtain ⟨r, hr⟩ := h.rank
  refine ⟨h.sub, fun v hx hs => h.base v hx ((e v hx).2 hs), ⟨r, fun v hv => ?_⟩, h.mine, h.yours⟩
  rcases hr v hv with k | k
  · exact .inl ((e v (h.sub v hv)).1 k)
  · exact .inr k
/-- Y is X without what the other player has been shown to win -/
structure Red (G : Gm) (X Y : Int → Prop) (p : Bool) : Prop where
  sub : ∀ v, Y v → X v
  mine : ∀ D, Dom G Y p D → Dom G X p D
  yours : ∀ D, Dom G Y (!p) D → Dom G X (!p) (fun v => Mn X Y v ∨ D v)
theorem Red.refl : Red G X X p := ⟨fun _ h => h, fun _ h => h, fun D h => h.congr fun v => ⟨.inr, fun h => h.resolve_left fun h => h.2 h.1⟩⟩
theorem Red.step (h : Red G X Y p) (hA : IsAttr G Y p S A) (hW : Sol G (Mn Y A) p W) (h2 : IsAttr G Y (!p) (Mn (Mn Y A) W) A2) : Red G X (Mn Y A2) p := by
  have hL : Dom G Y (!p) (Mn (Mn Y A) W) := Dom.lift hA hW.yours
  refine ⟨fun v hv => h.sub v hv.1, fun D hD => h.mine D ?_, fun D hD => (h.yours _ (Dom.grow hL h2 hD)).congr fun v => ?_⟩
  · have := Dom.lift (p := !p) (D := D) h2 (by rwa [Bool.not_not])
    rwa [Bool.not_not] at this
  · constructor
    · rintro (⟨k1, k2⟩ | k | k)
      · exact .inl ⟨k1, fun k => k2 k.1⟩
      · exact .inl ⟨h.sub v (h2.sub v k), fun k' => k'.2 k⟩
      · exact .inr k
    · rintro (⟨k1, k2⟩ | k)
      · by_cases hy : Y v
        · by_cases ha : A2 v
          · exact .inr (.inl ha)
          · exact absurd ⟨hy, ha⟩ k2
        · exact .inl ⟨k1, hy⟩
      · exact .inr (.inr k)
theorem Red.sol (h : Red G X Y p) (hY : Sol G Y p W) : Sol G X p W := ⟨fun v hv => h.sub v (hY.sub v hv), h.mine W hY.mine, (h.yours _ hY.yours).congr fun v => by
    constructor
    · rintro (⟨k1, k2⟩ | k)
      · exact ⟨k1, fun k => k2 (hY.sub v k)⟩
      · exact ⟨h.sub v k.1, k.2⟩
    · rintro ⟨k1, k2⟩
      by_cases hy : Y v
      · exact .inr ⟨hy, k2⟩
      · exact .inl ⟨k1, hy⟩⟩
theorem Sol.all (h : Dom G Y p Y) : Sol G Y p Y := ⟨fun _ h => h, h, Dom.empty.congr fun v => ⟨fun h => h.elim, fun h => h.2 h.1⟩⟩
theorem Sol.none (h : ∀ v, ¬ X v) : Sol G X p W → ∀ v, ¬ W v := fun hs v hv => h v (hs.sub v hv)
theorem Sol.void (h : ∀ v, ¬ X v) : Sol G X p X := Sol.all (Dom.empty.congr fun v => ⟨fun h => h.elim, fun hx => h v hx⟩)
/-- where the other player wins nothing beside the attractor of the top -/
theorem Sol.top {d : Int} (hN : NoDead G X) (hd : ∀ v, X v → G.pri v ≤ d) (hp : oddP d = p) (hA : IsAttr G X p (fun v => G.pri v = d) A) (hW : Sol G (Mn X A) p W) (hE : ∀ v, Mn X A v → W v) : Sol G X p X :=
  Sol.all (Dom.top hN hd hp hA (hW.mine.congr fun v => ⟨hW.sub v, hE v⟩))
theorem Sol.asP {q : Bool} (h : Sol G X q W) (p : Bool) : Sol G X p (fun v => X v ∧ (W v ↔ p = q)) := by
  by_cases e : p = q
  · subst e
    exact h.congr fun v => ⟨fun hv => ⟨h.sub v hv, ⟨fun _ => rfl, fun _ => hv⟩⟩, fun hv => hv.2.2 rfl⟩
  · have : p = !q := by revert e; cases p <;> cases q <;> simp
    subst this
    exact h.flip.congr fun v => ⟨fun hv => ⟨hv.1, ⟨fun hw => absurd hw hv.2, fun e' => absurd e' e⟩⟩, fun hv => ⟨hv.1, fun hw => e (hv.2.1 hw)⟩⟩
end Go.Proofs.Ytndiklipffipcaa.Par
