import Derived.Test.YtmmaondenopnpaaF0
import Derived.Test.YtmmaondenopnpaaF63
import Derived.Test.YtmmaondenopnpaaQBase
namespace Go.Proofs.Ytmmaondenopnpaa.Print
open Go.RowKit Go.Proofs.YtmmaondenopnpaaV.PrintWords Go.Proofs.YtmmaondenopnpaaV.PrintLast Go.Proofs.YtmmaondenopnpaaV.PrintMore
set_option linter.unusedVariables false
set_option linter.unusedSimpArgs false
theorem markText_l0 : ∀ (n : Nat) (x : Int) (acc : ByteArray), 0 ≤ x → x.toNat = n → acc.size + n < 4611686018427387904 → ∃ s, Ev (fun k => laws_markText.l0 k x acc) s := by
  intro n
  induction n using Nat.strongRecOn with
  | _ n ih =>
    intro x acc h0 hx hs
    by_cases c : x > 0
    · have e : wrap64 (Int.tdiv x 10) = x / 10 := by rw [Int.tdiv_eq_ediv_of_nonneg h0]; exact wrap_id (by omega) (by omega)
      have hz : (strOfNums [(wrap64 (48 + (Int.tmod x 10))) % 256]).size = 1 := by rw [strOfNums_size]; rfl
      have hsz : ((strOfNums [(wrap64 (48 + (Int.tmod x 10))) % 256]) ++ acc).size = 1 + acc.size := by rw [ByteArray.size_append, hz]
      obtain ⟨s, g⟩ := ih (x / 10).toNat (by omega) (x / 10) ((strOfNums [(wrap64 (48 + (Int.tmod x 10))) % 256]) ++ acc) (by omega) rfl (by rw [hsz]; omega)
      refine ⟨s, Ev.step (fun k => ?_) g⟩
      simp only [laws_markText.l0]
      rw [if_pos c, Option.bind_some, if_pos (by rw [hz]; omega), e]
    · refine ⟨(⟨#[109]⟩ : ByteArray) ++ acc, Ev.step (f := fun _ => some ((⟨#[109]⟩ : ByteArray) ++ acc)) (fun k => ?_) (Ev.now _)⟩
      simp only [laws_markText.l0]
      rw [if_neg c, if_pos (by omega)]
theorem markText_some (x : Int) (h0 : 0 ≤ x) (h1 : x < 4611686018427387904) : ∃ s, Ev (fun k => laws_markText.f k x) s := by
  by_cases c : x ≤ 0
  · exact ⟨⟨#[109, 48]⟩, 0, fun k _ => by show laws_markText.f k x = _; unfold laws_markText.f; exact if_pos c⟩
  · obtain ⟨s, g⟩ := markText_l0 x.toNat x ⟨#[]⟩ h0 rfl (by have : (⟨#[]⟩ : ByteArray).size = 0 := rfl; omega)
    exact ⟨s, Ev.congr (fun k => by show laws_markText.f k x = laws_markText.l0 k x ⟨#[]⟩; unfold laws_markText.f; exact if_neg c) g⟩
open Classical in
noncomputable def mkText (x : Int) : ByteArray := if h : ∃ s, Ev (fun k => laws_markText.f k x) s then h.choose else ⟨#[]⟩
theorem markText_ev (x : Int) (h0 : 0 ≤ x) (h1 : x < 4611686018427387904) : Ev (fun k => laws_markText.f k x) (mkText x) := by
  have h := markText_some x h0 h1
  unfold mkText
  rw [dif_pos h]
  exact h.choose_spec

end Go.Proofs.Ytmmaondenopnpaa.Print
