/- Plain functions that answer what the program's functions answer. Conditions: none; definitions alone. -/
import Derived.Test.YteglmkbkjaeijaaSimPw
namespace Go.Pw
open Go.Sim (min2 max2)
set_option linter.unusedVariables false

structure S_Finding where
  Kind : Int
  Who : ByteArray
  What : ByteArray

noncomputable def laws_szFinding (a_0 : S_Finding) (left_1 : Int) : Option Int :=
  if (w64 (left_1 - (a_0.Who.size : Int))) < 0 then
    (some (-1))
    else (if (w64 ((w64 (left_1 - (a_0.Who.size : Int))) - (a_0.What.size : Int))) < 0 then
    (some (-1))
    else (some (w64 ((w64 (left_1 - (a_0.Who.size : Int))) - (a_0.What.size : Int)))))
noncomputable def laws_toFinding (a_0 : S_Finding) : Option S_Finding :=
  some a_0
noncomputable def spec_l00In (n_0 : Int) (low_1 : Int) (high_2 : Int) : Option Bool :=
  some ((decide (n_0 ≥ low_1)) && (decide (n_0 ≤ high_2)))
noncomputable def spec_l31Kind (kind_0 : Int) : Option Bool :=
  (spec_l00In kind_0 1 5).bind fun x4 =>
    some x4
noncomputable def spec_l31Names  : Option (List ByteArray) :=
  some ([(⟨#[]⟩ : ByteArray), (⟨#[99, 111, 118, 101, 114]⟩ : ByteArray), (⟨#[110, 101, 115, 116]⟩ : ByteArray), (⟨#[98, 101, 118, 101, 108]⟩ : ByteArray), (⟨#[111, 114, 100, 101, 114]⟩ : ByteArray), (⟨#[112, 97, 116, 104]⟩ : ByteArray)] : List ByteArray)
noncomputable def spec_FindingText (f_0 : S_Finding) : Option ByteArray :=
  (spec_l31Kind f_0.Kind).bind fun x5 =>
    if x5 = true then
    ((spec_l31Names).bind fun x7 =>
    (rd x7 f_0.Kind).bind fun x10 =>
    (cat x10 (⟨#[32]⟩ : ByteArray)).bind fun x12 =>
    (cat x12 f_0.Who).bind fun x15 =>
    (cat x15 (⟨#[32]⟩ : ByteArray)).bind fun x16 =>
    (cat x16 f_0.What).bind fun x19 =>
    some x19)
    else (some (⟨#[]⟩ : ByteArray))
noncomputable def impl_FindingName (kind_0 : Int) : Option ByteArray :=
  if kind_0 = 1 then
    (some (⟨#[99, 111, 118, 101, 114]⟩ : ByteArray))
    else (if kind_0 = 2 then
    (some (⟨#[110, 101, 115, 116]⟩ : ByteArray))
    else (if kind_0 = 3 then
    (some (⟨#[98, 101, 118, 101, 108]⟩ : ByteArray))
    else (if kind_0 = 4 then
    (some (⟨#[111, 114, 100, 101, 114]⟩ : ByteArray))
    else (if kind_0 = 5 then
    (some (⟨#[112, 97, 116, 104]⟩ : ByteArray))
    else (some (⟨#[]⟩ : ByteArray))))))
noncomputable def impl_FindingText (f_0 : S_Finding) : Option ByteArray :=
  (impl_FindingName f_0.Kind).bind fun x6 =>
    if x6 = (⟨#[]⟩ : ByteArray) then
    (some (⟨#[]⟩ : ByteArray))
    else ((cat x6 (⟨#[32]⟩ : ByteArray)).bind fun x10 =>
    (cat x10 f_0.Who).bind fun x13 =>
    (cat x13 (⟨#[32]⟩ : ByteArray)).bind fun x14 =>
    (cat x14 f_0.What).bind fun x17 =>
    some x17)
noncomputable def laws_FnExactFindingText (aF_0 : S_Finding) : Option Bool :=
  (laws_szFinding aF_0 1048576).bind fun x8 =>
    if x8 < 0 then
    (some true)
    else ((laws_toFinding aF_0).bind fun x12 =>
    (spec_FindingText x12).bind fun x13 =>
    (laws_toFinding aF_0).bind fun x15 =>
    (impl_FindingText x15).bind fun x16 =>
    if ¬ (x16 = x13) then
    (some false)
    else (some true))

end Go.Pw
