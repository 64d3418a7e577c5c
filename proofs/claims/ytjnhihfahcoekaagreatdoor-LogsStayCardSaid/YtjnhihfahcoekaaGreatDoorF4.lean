/- The functions of the program as Lean functions, each shown to be what the code computes, part 4. No condition: lemmas for the claim. -/
import Derived.Test.YtjnhihfahcoekaaGreatDoorF0
import Derived.Test.YtjnhihfahcoekaaGreatDoorFSh
import Derived.Test.YtjnhihfahcoekaaGreatDoorF1
import Derived.Test.YtjnhihfahcoekaaGreatDoorF2
import Derived.Test.YtjnhihfahcoekaaGreatDoorF3
set_option linter.unusedVariables false
set_option maxRecDepth 100000
namespace Go.Am
open Go Go.Proofs
abbrev T_z20z : Type 1 := G_Stream → List G_Contact → {R : Type} → (List G_Change → G_Stream → Option R) → Option R
structure C_z20z where
 N : Nat
 z64z : T_z64z
 z58z : T_z58z
 z48z : T_z48z
 z50z : T_z50z
 z53z : T_z53z
 Stream_Odd : T_Stream_Odd
def z20z_L3 (g : C_z20z) : Nat → List G_Contact → Int → Int → G_Stream → List G_Change → {R : Type} → (G_Stream → List G_Change → Option R) → Option R
 | 0, _, _, _, _, _, _, _ => none
 | n + 1, v5, v6, v7, v8, v9, _, e0 => (bif (decide (v7 < v6)) then (g.z64z v8 1 2 (fun r127 r128 => (g.z58z r128 [1, 2, 3] (fun r129 r130 => (g.z64z r130 0 100 (fun r131 r132 => (g.z48z r132 r131 (fun r133 r134 => (g.z64z r134 0 100 (fun r135 r136 => (g.z48z r136 r135 (fun r137 r138 => (bif (decide ((v5.length : Int) > 0)) then (g.z50z r138 6 (fun r139 r140 => (bif (!r139) then (g.z53z r140 (v5.length : Int) (fun r141 r142 => (get_ v5 r141 fun x143 => (g.z50z r142 3 (fun r144 r145 => (bif r144 then (g.z53z r145 (v5.length : Int) (fun r146 r147 => (get_ v5 r146 fun x148 => (bif (r129 == 1) then (g.z50z r147 50 (fun r149 r150 => (bif r149 then (g.Stream_Odd r150 1 9 (fun r151 r152 => (g.Stream_Odd r152 1 3 (fun r153 r154 => (bif (decide ((v9.length + [(⟨r151, r153, (⟨0, 0, [], [], 0, 0, [], []⟩ : G_Contact), (⟨x148.f_At, x148.f_Mode, x148.f_Band, x148.f_Call, x148.f_Sent, (w64 (x148.f_Heard + 1)), x148.f_Gave, x148.f_Got⟩ : G_Contact)⟩ : G_Change)].length) * 208 ≤ roomBytes')) then z20z_L3 g n v5 v6 (w64 (v7 + 1)) r154 (v9 ++ [(⟨r151, r153, (⟨0, 0, [], [], 0, 0, [], []⟩ : G_Contact), (⟨x148.f_At, x148.f_Mode, x148.f_Band, x148.f_Call, x148.f_Sent, (w64 (x148.f_Heard + 1)), x148.f_Gave, x148.f_Got⟩ : G_Contact)⟩ : G_Change)]) e0 else none))))) else (bif (decide ((v9.length + [(⟨(w64 ((w64 (2 * v7)) + r127)), r129, (⟨0, 0, [], [], 0, 0, [], []⟩ : G_Contact), (⟨x148.f_At, x148.f_Mode, x148.f_Band, x148.f_Call, x148.f_Sent, (w64 (x148.f_Heard + 1)), x148.f_Gave, x148.f_Got⟩ : G_Contact)⟩ : G_Change)].length) * 208 ≤ roomBytes')) then z20z_L3 g n v5 v6 (w64 (v7 + 1)) r150 (v9 ++ [(⟨(w64 ((w64 (2 * v7)) + r127)), r129, (⟨0, 0, [], [], 0, 0, [], []⟩ : G_Contact), (⟨x148.f_At, x148.f_Mode, x148.f_Band, x148.f_Call, x148.f_Sent, (w64 (x148.f_Heard + 1)), x148.f_Gave, x148.f_Got⟩ : G_Contact)⟩ : G_Change)]) e0 else none)))) else (bif (r129 == 2) then (g.z50z r147 50 (fun r155 r156 => (bif r155 then (g.Stream_Odd r156 1 9 (fun r157 r158 => (g.Stream_Odd r158 1 3 (fun r159 r160 => (bif (decide ((v9.length + [(⟨r157, r159, x143, (⟨0, 0, [], [], 0, 0, [], []⟩ : G_Contact)⟩ : G_Change)].length) * 208 ≤ roomBytes')) then z20z_L3 g n v5 v6 (w64 (v7 + 1)) r160 (v9 ++ [(⟨r157, r159, x143, (⟨0, 0, [], [], 0, 0, [], []⟩ : G_Contact)⟩ : G_Change)]) e0 else none))))) else (bif (decide ((v9.length + [(⟨(w64 ((w64 (2 * v7)) + r127)), r129, x143, (⟨0, 0, [], [], 0, 0, [], []⟩ : G_Contact)⟩ : G_Change)].length) * 208 ≤ roomBytes')) then z20z_L3 g n v5 v6 (w64 (v7 + 1)) r156 (v9 ++ [(⟨(w64 ((w64 (2 * v7)) + r127)), r129, x143, (⟨0, 0, [], [], 0, 0, [], []⟩ : G_Contact)⟩ : G_Change)]) e0 else none)))) else (g.z50z r147 50 (fun r161 r162 => (bif r161 then (g.Stream_Odd r162 1 9 (fun r163 r164 => (g.Stream_Odd r164 1 3 (fun r165 r166 => (bif (decide ((v9.length + [(⟨r163, r165, x143, (⟨x148.f_At, x148.f_Mode, x148.f_Band, x148.f_Call, x148.f_Sent, (w64 (x148.f_Heard + 1)), x148.f_Gave, x148.f_Got⟩ : G_Contact)⟩ : G_Change)].length) * 208 ≤ roomBytes')) then z20z_L3 g n v5 v6 (w64 (v7 + 1)) r166 (v9 ++ [(⟨r163, r165, x143, (⟨x148.f_At, x148.f_Mode, x148.f_Band, x148.f_Call, x148.f_Sent, (w64 (x148.f_Heard + 1)), x148.f_Gave, x148.f_Got⟩ : G_Contact)⟩ : G_Change)]) e0 else none))))) else (bif (decide ((v9.length + [(⟨(w64 ((w64 (2 * v7)) + r127)), r129, x143, (⟨x148.f_At, x148.f_Mode, x148.f_Band, x148.f_Call, x148.f_Sent, (w64 (x148.f_Heard + 1)), x148.f_Gave, x148.f_Got⟩ : G_Contact)⟩ : G_Change)].length) * 208 ≤ roomBytes')) then z20z_L3 g n v5 v6 (w64 (v7 + 1)) r162 (v9 ++ [(⟨(w64 ((w64 (2 * v7)) + r127)), r129, x143, (⟨x148.f_At, x148.f_Mode, x148.f_Band, x148.f_Call, x148.f_Sent, (w64 (x148.f_Heard + 1)), x148.f_Gave, x148.f_Got⟩ : G_Contact)⟩ : G_Change)]) e0 else none))))))))) else (bif (r129 == 1) then (g.z50z r145 50 (fun r167 r168 => (bif r167 then (g.Stream_Odd r168 1 9 (fun r169 r170 => (g.Stream_Odd r170 1 3 (fun r171 r172 => (bif (decide ((v9.length + [(⟨r169, r171, (⟨0, 0, [], [], 0, 0, [], []⟩ : G_Contact), r137⟩ : G_Change)].length) * 208 ≤ roomBytes')) then z20z_L3 g n v5 v6 (w64 (v7 + 1)) r172 (v9 ++ [(⟨r169, r171, (⟨0, 0, [], [], 0, 0, [], []⟩ : G_Contact), r137⟩ : G_Change)]) e0 else none))))) else (bif (decide ((v9.length + [(⟨(w64 ((w64 (2 * v7)) + r127)), r129, (⟨0, 0, [], [], 0, 0, [], []⟩ : G_Contact), r137⟩ : G_Change)].length) * 208 ≤ roomBytes')) then z20z_L3 g n v5 v6 (w64 (v7 + 1)) r168 (v9 ++ [(⟨(w64 ((w64 (2 * v7)) + r127)), r129, (⟨0, 0, [], [], 0, 0, [], []⟩ : G_Contact), r137⟩ : G_Change)]) e0 else none)))) else (bif (r129 == 2) then (g.z50z r145 50 (fun r173 r174 => (bif r173 then (g.Stream_Odd r174 1 9 (fun r175 r176 => (g.Stream_Odd r176 1 3 (fun r177 r178 => (bif (decide ((v9.length + [(⟨r175, r177, x143, (⟨0, 0, [], [], 0, 0, [], []⟩ : G_Contact)⟩ : G_Change)].length) * 208 ≤ roomBytes')) then z20z_L3 g n v5 v6 (w64 (v7 + 1)) r178 (v9 ++ [(⟨r175, r177, x143, (⟨0, 0, [], [], 0, 0, [], []⟩ : G_Contact)⟩ : G_Change)]) e0 else none))))) else (bif (decide ((v9.length + [(⟨(w64 ((w64 (2 * v7)) + r127)), r129, x143, (⟨0, 0, [], [], 0, 0, [], []⟩ : G_Contact)⟩ : G_Change)].length) * 208 ≤ roomBytes')) then z20z_L3 g n v5 v6 (w64 (v7 + 1)) r174 (v9 ++ [(⟨(w64 ((w64 (2 * v7)) + r127)), r129, x143, (⟨0, 0, [], [], 0, 0, [], []⟩ : G_Contact)⟩ : G_Change)]) e0 else none)))) else (g.z50z r145 50 (fun r179 r180 => (bif r179 then (g.Stream_Odd r180 1 9 (fun r181 r182 => (g.Stream_Odd r182 1 3 (fun r183 r184 => (bif (decide ((v9.length + [(⟨r181, r183, x143, r137⟩ : G_Change)].length) * 208 ≤ roomBytes')) then z20z_L3 g n v5 v6 (w64 (v7 + 1)) r184 (v9 ++ [(⟨r181, r183, x143, r137⟩ : G_Change)]) e0 else none))))) else (bif (decide ((v9.length + [(⟨(w64 ((w64 (2 * v7)) + r127)), r129, x143, r137⟩ : G_Change)].length) * 208 ≤ roomBytes')) then z20z_L3 g n v5 v6 (w64 (v7 + 1)) r180 (v9 ++ [(⟨(w64 ((w64 (2 * v7)) + r127)), r129, x143, r137⟩ : G_Change)]) e0 else none)))))))))))) else (g.z50z r140 3 (fun r185 r186 => (bif r185 then (g.z53z r186 (v5.length : Int) (fun r187 r188 => (get_ v5 r187 fun x189 => (bif (r129 == 1) then (g.z50z r188 50 (fun r190 r191 => (bif r190 then (g.Stream_Odd r191 1 9 (fun r192 r193 => (g.Stream_Odd r193 1 3 (fun r194 r195 => (bif (decide ((v9.length + [(⟨r192, r194, (⟨0, 0, [], [], 0, 0, [], []⟩ : G_Contact), (⟨x189.f_At, x189.f_Mode, x189.f_Band, x189.f_Call, x189.f_Sent, (w64 (x189.f_Heard + 1)), x189.f_Gave, x189.f_Got⟩ : G_Contact)⟩ : G_Change)].length) * 208 ≤ roomBytes')) then z20z_L3 g n v5 v6 (w64 (v7 + 1)) r195 (v9 ++ [(⟨r192, r194, (⟨0, 0, [], [], 0, 0, [], []⟩ : G_Contact), (⟨x189.f_At, x189.f_Mode, x189.f_Band, x189.f_Call, x189.f_Sent, (w64 (x189.f_Heard + 1)), x189.f_Gave, x189.f_Got⟩ : G_Contact)⟩ : G_Change)]) e0 else none))))) else (bif (decide ((v9.length + [(⟨(w64 ((w64 (2 * v7)) + r127)), r129, (⟨0, 0, [], [], 0, 0, [], []⟩ : G_Contact), (⟨x189.f_At, x189.f_Mode, x189.f_Band, x189.f_Call, x189.f_Sent, (w64 (x189.f_Heard + 1)), x189.f_Gave, x189.f_Got⟩ : G_Contact)⟩ : G_Change)].length) * 208 ≤ roomBytes')) then z20z_L3 g n v5 v6 (w64 (v7 + 1)) r191 (v9 ++ [(⟨(w64 ((w64 (2 * v7)) + r127)), r129, (⟨0, 0, [], [], 0, 0, [], []⟩ : G_Contact), (⟨x189.f_At, x189.f_Mode, x189.f_Band, x189.f_Call, x189.f_Sent, (w64 (x189.f_Heard + 1)), x189.f_Gave, x189.f_Got⟩ : G_Contact)⟩ : G_Change)]) e0 else none)))) else (bif (r129 == 2) then (g.z50z r188 50 (fun r196 r197 => (bif r196 then (g.Stream_Odd r197 1 9 (fun r198 r199 => (g.Stream_Odd r199 1 3 (fun r200 r201 => (bif (decide ((v9.length + [(⟨r198, r200, r133, (⟨0, 0, [], [], 0, 0, [], []⟩ : G_Contact)⟩ : G_Change)].length) * 208 ≤ roomBytes')) then z20z_L3 g n v5 v6 (w64 (v7 + 1)) r201 (v9 ++ [(⟨r198, r200, r133, (⟨0, 0, [], [], 0, 0, [], []⟩ : G_Contact)⟩ : G_Change)]) e0 else none))))) else (bif (decide ((v9.length + [(⟨(w64 ((w64 (2 * v7)) + r127)), r129, r133, (⟨0, 0, [], [], 0, 0, [], []⟩ : G_Contact)⟩ : G_Change)].length) * 208 ≤ roomBytes')) then z20z_L3 g n v5 v6 (w64 (v7 + 1)) r197 (v9 ++ [(⟨(w64 ((w64 (2 * v7)) + r127)), r129, r133, (⟨0, 0, [], [], 0, 0, [], []⟩ : G_Contact)⟩ : G_Change)]) e0 else none)))) else (g.z50z r188 50 (fun r202 r203 => (bif r202 then (g.Stream_Odd r203 1 9 (fun r204 r205 => (g.Stream_Odd r205 1 3 (fun r206 r207 => (bif (decide ((v9.length + [(⟨r204, r206, r133, (⟨x189.f_At, x189.f_Mode, x189.f_Band, x189.f_Call, x189.f_Sent, (w64 (x189.f_Heard + 1)), x189.f_Gave, x189.f_Got⟩ : G_Contact)⟩ : G_Change)].length) * 208 ≤ roomBytes')) then z20z_L3 g n v5 v6 (w64 (v7 + 1)) r207 (v9 ++ [(⟨r204, r206, r133, (⟨x189.f_At, x189.f_Mode, x189.f_Band, x189.f_Call, x189.f_Sent, (w64 (x189.f_Heard + 1)), x189.f_Gave, x189.f_Got⟩ : G_Contact)⟩ : G_Change)]) e0 else none))))) else (bif (decide ((v9.length + [(⟨(w64 ((w64 (2 * v7)) + r127)), r129, r133, (⟨x189.f_At, x189.f_Mode, x189.f_Band, x189.f_Call, x189.f_Sent, (w64 (x189.f_Heard + 1)), x189.f_Gave, x189.f_Got⟩ : G_Contact)⟩ : G_Change)].length) * 208 ≤ roomBytes')) then z20z_L3 g n v5 v6 (w64 (v7 + 1)) r203 (v9 ++ [(⟨(w64 ((w64 (2 * v7)) + r127)), r129, r133, (⟨x189.f_At, x189.f_Mode, x189.f_Band, x189.f_Call, x189.f_Sent, (w64 (x189.f_Heard + 1)), x189.f_Gave, x189.f_Got⟩ : G_Contact)⟩ : G_Change)]) e0 else none))))))))) else (bif (r129 == 1) then (g.z50z r186 50 (fun r208 r209 => (bif r208 then (g.Stream_Odd r209 1 9 (fun r210 r211 => (g.Stream_Odd r211 1 3 (fun r212 r213 => (bif (decide ((v9.length + [(⟨r210, r212, (⟨0, 0, [], [], 0, 0, [], []⟩ : G_Contact), r137⟩ : G_Change)].length) * 208 ≤ roomBytes')) then z20z_L3 g n v5 v6 (w64 (v7 + 1)) r213 (v9 ++ [(⟨r210, r212, (⟨0, 0, [], [], 0, 0, [], []⟩ : G_Contact), r137⟩ : G_Change)]) e0 else none))))) else (bif (decide ((v9.length + [(⟨(w64 ((w64 (2 * v7)) + r127)), r129, (⟨0, 0, [], [], 0, 0, [], []⟩ : G_Contact), r137⟩ : G_Change)].length) * 208 ≤ roomBytes')) then z20z_L3 g n v5 v6 (w64 (v7 + 1)) r209 (v9 ++ [(⟨(w64 ((w64 (2 * v7)) + r127)), r129, (⟨0, 0, [], [], 0, 0, [], []⟩ : G_Contact), r137⟩ : G_Change)]) e0 else none)))) else (bif (r129 == 2) then (g.z50z r186 50 (fun r214 r215 => (bif r214 then (g.Stream_Odd r215 1 9 (fun r216 r217 => (g.Stream_Odd r217 1 3 (fun r218 r219 => (bif (decide ((v9.length + [(⟨r216, r218, r133, (⟨0, 0, [], [], 0, 0, [], []⟩ : G_Contact)⟩ : G_Change)].length) * 208 ≤ roomBytes')) then z20z_L3 g n v5 v6 (w64 (v7 + 1)) r219 (v9 ++ [(⟨r216, r218, r133, (⟨0, 0, [], [], 0, 0, [], []⟩ : G_Contact)⟩ : G_Change)]) e0 else none))))) else (bif (decide ((v9.length + [(⟨(w64 ((w64 (2 * v7)) + r127)), r129, r133, (⟨0, 0, [], [], 0, 0, [], []⟩ : G_Contact)⟩ : G_Change)].length) * 208 ≤ roomBytes')) then z20z_L3 g n v5 v6 (w64 (v7 + 1)) r215 (v9 ++ [(⟨(w64 ((w64 (2 * v7)) + r127)), r129, r133, (⟨0, 0, [], [], 0, 0, [], []⟩ : G_Contact)⟩ : G_Change)]) e0 else none)))) else (g.z50z r186 50 (fun r220 r221 => (bif r220 then (g.Stream_Odd r221 1 9 (fun r222 r223 => (g.Stream_Odd r223 1 3 (fun r224 r225 => (bif (decide ((v9.length + [(⟨r222, r224, r133, r137⟩ : G_Change)].length) * 208 ≤ roomBytes')) then z20z_L3 g n v5 v6 (w64 (v7 + 1)) r225 (v9 ++ [(⟨r222, r224, r133, r137⟩ : G_Change)]) e0 else none))))) else (bif (decide ((v9.length + [(⟨(w64 ((w64 (2 * v7)) + r127)), r129, r133, r137⟩ : G_Change)].length) * 208 ≤ roomBytes')) then z20z_L3 g n v5 v6 (w64 (v7 + 1)) r221 (v9 ++ [(⟨(w64 ((w64 (2 * v7)) + r127)), r129, r133, r137⟩ : G_Change)]) e0 else none)))))))))))) else (bif (r129 == 1) then (g.z50z r138 50 (fun r226 r227 => (bif r226 then (g.Stream_Odd r227 1 9 (fun r228 r229 => (g.Stream_Odd r229 1 3 (fun r230 r231 => (bif (decide ((v9.length + [(⟨r228, r230, (⟨0, 0, [], [], 0, 0, [], []⟩ : G_Contact), r137⟩ : G_Change)].length) * 208 ≤ roomBytes')) then z20z_L3 g n v5 v6 (w64 (v7 + 1)) r231 (v9 ++ [(⟨r228, r230, (⟨0, 0, [], [], 0, 0, [], []⟩ : G_Contact), r137⟩ : G_Change)]) e0 else none))))) else (bif (decide ((v9.length + [(⟨(w64 ((w64 (2 * v7)) + r127)), r129, (⟨0, 0, [], [], 0, 0, [], []⟩ : G_Contact), r137⟩ : G_Change)].length) * 208 ≤ roomBytes')) then z20z_L3 g n v5 v6 (w64 (v7 + 1)) r227 (v9 ++ [(⟨(w64 ((w64 (2 * v7)) + r127)), r129, (⟨0, 0, [], [], 0, 0, [], []⟩ : G_Contact), r137⟩ : G_Change)]) e0 else none)))) else (bif (r129 == 2) then (g.z50z r138 50 (fun r232 r233 => (bif r232 then (g.Stream_Odd r233 1 9 (fun r234 r235 => (g.Stream_Odd r235 1 3 (fun r236 r237 => (bif (decide ((v9.length + [(⟨r234, r236, r133, (⟨0, 0, [], [], 0, 0, [], []⟩ : G_Contact)⟩ : G_Change)].length) * 208 ≤ roomBytes')) then z20z_L3 g n v5 v6 (w64 (v7 + 1)) r237 (v9 ++ [(⟨r234, r236, r133, (⟨0, 0, [], [], 0, 0, [], []⟩ : G_Contact)⟩ : G_Change)]) e0 else none))))) else (bif (decide ((v9.length + [(⟨(w64 ((w64 (2 * v7)) + r127)), r129, r133, (⟨0, 0, [], [], 0, 0, [], []⟩ : G_Contact)⟩ : G_Change)].length) * 208 ≤ roomBytes')) then z20z_L3 g n v5 v6 (w64 (v7 + 1)) r233 (v9 ++ [(⟨(w64 ((w64 (2 * v7)) + r127)), r129, r133, (⟨0, 0, [], [], 0, 0, [], []⟩ : G_Contact)⟩ : G_Change)]) e0 else none)))) else (g.z50z r138 50 (fun r238 r239 => (bif r238 then (g.Stream_Odd r239 1 9 (fun r240 r241 => (g.Stream_Odd r241 1 3 (fun r242 r243 => (bif (decide ((v9.length + [(⟨r240, r242, r133, r137⟩ : G_Change)].length) * 208 ≤ roomBytes')) then z20z_L3 g n v5 v6 (w64 (v7 + 1)) r243 (v9 ++ [(⟨r240, r242, r133, r137⟩ : G_Change)]) e0 else none))))) else (bif (decide ((v9.length + [(⟨(w64 ((w64 (2 * v7)) + r127)), r129, r133, r137⟩ : G_Change)].length) * 208 ≤ roomBytes')) then z20z_L3 g n v5 v6 (w64 (v7 + 1)) r239 (v9 ++ [(⟨(w64 ((w64 (2 * v7)) + r127)), r129, r133, r137⟩ : G_Change)]) e0 else none))))))))))))))))))) else e0 v8 v9)
def z20z_ (g : C_z20z) (a1 : G_Stream) (a2 : List G_Contact) {R : Type} (k0 : List G_Change → G_Stream → Option R) : Option R :=
 (g.z64z a1 0 6 (fun r3 r4 => (z20z_L3 g g.N a2 r3 0 r4 [] (fun e244 e245 => k0 e245 e244))))
noncomputable def I_z20z [Fuel] : C_z20z := ⟨NN, @z64z _, @z58z _, @z48z _, @z50z _, @z53z _, @Stream_Odd _⟩
noncomputable def z20z [Fuel] : T_z20z := @z20z_ I_z20z
def SS_z20z (g : T_z20z) : Spec A := fun args => match args with | [.box [.d (.sl 3 a1), .d (.int .i64 a2)], .d (.sl 35 a3)] => fun k => g ⟨a1, a2⟩ a3 (fun z0 z1 => k (.arr 42 z0) [.box [.d (.sl 3 z1.f_L), .d (.int .i64 z1.f_at)], .undef]) | _ => fun _ => none
def sh_z20z_L3 : SSt := mkSh 84 6 [(0, .ptr 0 0), (1, .sl 35), (5, .own 42 1), (9, .int .i64), (10, .int .i64)] [(0, .box [.sl 3, .int .i64]), (1, .row 42)]
def LP_z20z_L3 (g : C_z20z) (n : Nat) : LPT A := fun ps => match ps with | [.d (.sl 35 p1), .d (.int .i64 p2), .d (.int .i64 p3), .d (.sl 3 p4), .d (.int .i64 p5), .d (.sl 42 p6)] => fun K => z20z_L3 g n p1 p2 p3 ⟨p4, p5⟩ p6 (fun z0 z1 => K (.exit 0) (mkSt 84 6 [(0, .ptr 0 0), (5, .own 42 1)] [(0, some (.box [.d (.sl 3 z0.f_L), .d (.int .i64 z0.f_at)])), (1, some (.row 42 z1))])) | _ => fun _ => none
noncomputable def code_5 : Code := (Tryz.f5.body).getD .skip
noncomputable def E_z20z (g : C_z20z) : Env A := mkE [(16, SS_z64z g.z64z), (17, SS_z58z g.z58z), (18, SS_z48z g.z48z), (19, SS_z50z g.z50z), (20, SS_z53z g.z53z), (21, SS_Stream_Odd g.Stream_Odd)] [(7, [3]), (19, [2]), (80, [4]), (81, [5])] [(3, ⟨[0, 1, 5, 9, 10], [(5, 42, 1)], [0], [], [], []⟩)] [(3, ⟨[0, 5], [], [0, 1], [], [], []⟩)] [(3, pieceOf sh_z20z_L3 (LP_z20z_L3 g g.N))] [] [] [] [] [0]
theorem ct_z20z [Fuel] : NatTab (E_z20z I_z20z).C := ct_of (P := Tryz.prog) (T := T) (.cons ok_z64z (.cons ok_z58z (.cons ok_z48z (.cons ok_z50z (.cons ok_z53z (.cons ok_Stream_Odd .nil)))))) (by kernel_rfl)
noncomputable def cb_z20z_L3 : Code := sub [1, 1, 0, 1, 0, 0] code_5
theorem s_z20z_L3 (g : C_z20z) (n : Nat) : StepOk (E_z20z g) g.N cb_z20z_L3 sh_z20z_L3 (LP_z20z_L3 g) n := by intro ps; unfold LP_z20z_L3; split; exact .inr fun R K => (by kernel_rfl); exact .inl fun R K => rfl
theorem lf_z20z_L3 [Fuel] : LoopFine (E_z20z I_z20z) NN cb_z20z_L3 := fine_loop sh_z20z_L3 (LP_z20z_L3 I_z20z) (by kernel_rfl) ct_z20z (cuts0 (fun _ => rfl) (by kernel_rfl)) (fun ps R K => by unfold LP_z20z_L3; split <;> (try unfold z20z_L3) <;> rfl) (s_z20z_L3 I_z20z)
theorem sm_z20z (g : C_z20z) : Same (SS_z20z (@z20z_ g)) (abody (E_z20z g) Tryz.f5 code_5 6 [0] [.arr 42] g.N) := by intro args; unfold SS_z20z; split; exact .inr fun R k => (by kernel_rfl); exact .inl fun R k => rfl
theorem ok_z20z [Fuel] : Ok 5 (SS_z20z (@z20z _)) := okF_of std (.cons ok_z64z (.cons ok_z58z (.cons ok_z48z (.cons ok_z50z (.cons ok_z53z (.cons ok_Stream_Odd .nil)))))) ⟨rfl, rfl, by kernel_rfl, rfl, rfl, rfl⟩ (sm_z20z I_z20z) (cutsL (fun _ => rfl) (.cons lf_z20z_L3 .nil) (by kernel_rfl)) Tryz.func5 (by kernel_rfl) (by kernel_rfl)
abbrev T_z45z : Type 1 := Int → Int → Int → {R : Type} → (Bool → Option R) → Option R
def z45z_ (g : Nat) (a1 a2 a3 : Int) {R : Type} (k0 : Bool → Option R) : Option R :=
 (bif (decide (a1 < a2)) then k0 true else k0 (decide (a1 > a3)))
noncomputable def z45z [Fuel] : T_z45z := @z45z_ NN
def SS_z45z (g : T_z45z) : Spec A := fun args => match args with | [.d (.int .i64 a1), .d (.int .i64 a2), .d (.int .i64 a3)] => fun k => g a1 a2 a3 (fun z0 => k (.d (.bool z0)) [.undef, .undef, .undef]) | _ => fun _ => none
noncomputable def code_28 : Code := (Tryz.f28.body).getD .skip
noncomputable def E_z45z (g : Nat) : Env A := mkE [] [] [] [] [] [] [] [] [] []
theorem sm_z45z (g : Nat) : Same (SS_z45z (@z45z_ g)) (abody (E_z45z g) Tryz.f28 code_28 0 [] [.asis] g) := by intro args; unfold SS_z45z; split; exact .inr fun R k => (by kernel_rfl); exact .inl fun R k => rfl
theorem ok_z45z [Fuel] : Ok 28 (SS_z45z (@z45z _)) := okF_of std .nil ⟨rfl, rfl, by kernel_rfl, rfl, rfl, rfl⟩ (sm_z45z NN) (cuts0 (fun _ => rfl) (by kernel_rfl)) Tryz.func28 (by kernel_rfl) (by kernel_rfl)
abbrev T_z62z : Type 1 := Int → {R : Type} → (Bool → Option R) → Option R
structure C_z62z where
 N : Nat
 z45z : T_z45z
def z62z_ (g : C_z62z) (a1 : Int) {R : Type} (k0 : Bool → Option R) : Option R :=
 (g.z45z a1 0 345686399999 (fun r2 => k0 (!r2)))
noncomputable def I_z62z [Fuel] : C_z62z := ⟨NN, @z45z _⟩
noncomputable def z62z [Fuel] : T_z62z := @z62z_ I_z62z
def SS_z62z (g : T_z62z) : Spec A := fun args => match args with | [.d (.int .i64 a1)] => fun k => g a1 (fun z0 => k (.d (.bool z0)) [.undef]) | _ => fun _ => none
noncomputable def code_60 : Code := (Tryz.f60.body).getD .skip
noncomputable def E_z62z (g : C_z62z) : Env A := mkE [(28, SS_z45z g.z45z)] [] [] [] [] [] [] [] [] []
theorem sm_z62z (g : C_z62z) : Same (SS_z62z (@z62z_ g)) (abody (E_z62z g) Tryz.f60 code_60 0 [] [.asis] g.N) := by intro args; unfold SS_z62z; split; exact .inr fun R k => (by kernel_rfl); exact .inl fun R k => rfl
theorem ok_z62z [Fuel] : Ok 60 (SS_z62z (@z62z _)) := okF_of std (.cons ok_z45z .nil) ⟨rfl, rfl, by kernel_rfl, rfl, rfl, rfl⟩ (sm_z62z I_z62z) (cuts0 (fun _ => rfl) (by kernel_rfl)) Tryz.func60 (by kernel_rfl) (by kernel_rfl)
abbrev T_kit_IsMode : Type 1 := Int → {R : Type} → (Bool → Option R) → Option R
structure C_kit_IsMode where
 N : Nat
 z45z : T_z45z
def kit_IsMode_ (g : C_kit_IsMode) (a1 : Int) {R : Type} (k0 : Bool → Option R) : Option R :=
 (g.z45z a1 1 3 (fun r2 => k0 (!r2)))
noncomputable def I_kit_IsMode [Fuel] : C_kit_IsMode := ⟨NN, @z45z _⟩
noncomputable def kit_IsMode [Fuel] : T_kit_IsMode := @kit_IsMode_ I_kit_IsMode
def SS_kit_IsMode (g : T_kit_IsMode) : Spec A := fun args => match args with | [.d (.int .i64 a1)] => fun k => g a1 (fun z0 => k (.d (.bool z0)) [.undef]) | _ => fun _ => none
noncomputable def code_59 : Code := (Tryz.f59.body).getD .skip
noncomputable def E_kit_IsMode (g : C_kit_IsMode) : Env A := mkE [(28, SS_z45z g.z45z)] [] [] [] [] [] [] [] [] []
theorem sm_kit_IsMode (g : C_kit_IsMode) : Same (SS_kit_IsMode (@kit_IsMode_ g)) (abody (E_kit_IsMode g) Tryz.f59 code_59 0 [] [.asis] g.N) := by intro args; unfold SS_kit_IsMode; split; exact .inr fun R k => (by kernel_rfl); exact .inl fun R k => rfl
theorem ok_kit_IsMode [Fuel] : Ok 59 (SS_kit_IsMode (@kit_IsMode _)) := okF_of std (.cons ok_z45z .nil) ⟨rfl, rfl, by kernel_rfl, rfl, rfl, rfl⟩ (sm_kit_IsMode I_kit_IsMode) (cuts0 (fun _ => rfl) (by kernel_rfl)) Tryz.func59 (by kernel_rfl) (by kernel_rfl)
abbrev T_kit_IsKey : Type 1 := List UInt8 → {R : Type} → (Bool → Option R) → Option R
structure C_kit_IsKey where
 N : Nat
 strings_IndexByte : T_strings_IndexByte
 strings_Trim : T_strings_Trim
def kit_IsKey_ (g : C_kit_IsKey) (a1 : List UInt8) {R : Type} (k0 : Bool → Option R) : Option R :=
 (bif (!(a1 == [])) then (bif (decide ((a1.length : Int) ≤ 40)) then (at_ a1 0 fun x2 => (g.strings_IndexByte [97, 98, 99, 100, 101, 102, 103, 104, 105, 106, 107, 108, 109, 110, 111, 112, 113, 114, 115, 116, 117, 118, 119, 120, 121, 122] (x2.toNat : Int) (fun r3 => (bif (decide (r3 ≥ 0)) then (g.strings_Trim a1 [97, 98, 99, 100, 101, 102, 103, 104, 105, 106, 107, 108, 109, 110, 111, 112, 113, 114, 115, 116, 117, 118, 119, 120, 121, 122, 48, 49, 50, 51, 52, 53, 54, 55, 56, 57, 45, 95] (fun r4 => k0 (r4 == []))) else k0 false)))) else k0 false) else k0 false)
noncomputable def I_kit_IsKey [Fuel] : C_kit_IsKey := ⟨NN, @strings_IndexByte _, @strings_Trim _⟩
noncomputable def kit_IsKey [Fuel] : T_kit_IsKey := @kit_IsKey_ I_kit_IsKey
def SS_kit_IsKey (g : T_kit_IsKey) : Spec A := fun args => match args with | [.d (.str a1)] => fun k => g a1 (fun z0 => k (.d (.bool z0)) [.undef]) | _ => fun _ => none
noncomputable def code_58 : Code := (Tryz.f58.body).getD .skip
noncomputable def E_kit_IsKey (g : C_kit_IsKey) : Env A := mkE [(93, SS_strings_IndexByte g.strings_IndexByte), (94, SS_strings_Trim g.strings_Trim)] [] [] [] [] [] [] [] [] []
theorem sm_kit_IsKey (g : C_kit_IsKey) : Same (SS_kit_IsKey (@kit_IsKey_ g)) (abody (E_kit_IsKey g) Tryz.f58 code_58 0 [] [.asis] g.N) := by intro args; unfold SS_kit_IsKey; split; exact .inr fun R k => (by kernel_rfl); exact .inl fun R k => rfl
theorem ok_kit_IsKey [Fuel] : Ok 58 (SS_kit_IsKey (@kit_IsKey _)) := okF_of std (.cons ok_strings_IndexByte (.cons ok_strings_Trim .nil)) ⟨rfl, rfl, by kernel_rfl, rfl, rfl, rfl⟩ (sm_kit_IsKey I_kit_IsKey) (cuts0 (fun _ => rfl) (by kernel_rfl)) Tryz.func58 (by kernel_rfl) (by kernel_rfl)
abbrev T_z92z : Type 1 := Int → {R : Type} → (Bool → Option R) → Option R
def z92z_ (g : Nat) (a1 : Int) {R : Type} (k0 : Bool → Option R) : Option R :=
 (bif (decide (a1 ≥ 97)) then k0 (decide (a1 ≤ 122)) else k0 false)
noncomputable def z92z [Fuel] : T_z92z := @z92z_ NN
def SS_z92z (g : T_z92z) : Spec A := fun args => match args with | [.d (.int .u8 a1)] => fun k => g a1 (fun z0 => k (.d (.bool z0)) [.undef]) | _ => fun _ => none
noncomputable def code_189 : Code := (Tryz.f189.body).getD .skip
noncomputable def E_z92z (g : Nat) : Env A := mkE [] [] [] [] [] [] [] [] [] []
theorem sm_z92z (g : Nat) : Same (SS_z92z (@z92z_ g)) (abody (E_z92z g) Tryz.f189 code_189 0 [] [.asis] g) := by intro args; unfold SS_z92z; split; exact .inr fun R k => (by kernel_rfl); exact .inl fun R k => rfl
theorem ok_z92z [Fuel] : Ok 189 (SS_z92z (@z92z _)) := okF_of std .nil ⟨rfl, rfl, by kernel_rfl, rfl, rfl, rfl⟩ (sm_z92z NN) (cuts0 (fun _ => rfl) (by kernel_rfl)) Tryz.func189 (by kernel_rfl) (by kernel_rfl)
abbrev T_z88z : Type 1 := Int → {R : Type} → (Bool → Option R) → Option R
def z88z_ (g : Nat) (a1 : Int) {R : Type} (k0 : Bool → Option R) : Option R :=
 (bif (decide (a1 ≥ 48)) then k0 (decide (a1 ≤ 57)) else k0 false)
noncomputable def z88z [Fuel] : T_z88z := @z88z_ NN
def SS_z88z (g : T_z88z) : Spec A := fun args => match args with | [.d (.int .u8 a1)] => fun k => g a1 (fun z0 => k (.d (.bool z0)) [.undef]) | _ => fun _ => none
noncomputable def code_168 : Code := (Tryz.f168.body).getD .skip
noncomputable def E_z88z (g : Nat) : Env A := mkE [] [] [] [] [] [] [] [] [] []
theorem sm_z88z (g : Nat) : Same (SS_z88z (@z88z_ g)) (abody (E_z88z g) Tryz.f168 code_168 0 [] [.asis] g) := by intro args; unfold SS_z88z; split; exact .inr fun R k => (by kernel_rfl); exact .inl fun R k => rfl
theorem ok_z88z [Fuel] : Ok 168 (SS_z88z (@z88z _)) := okF_of std .nil ⟨rfl, rfl, by kernel_rfl, rfl, rfl, rfl⟩ (sm_z88z NN) (cuts0 (fun _ => rfl) (by kernel_rfl)) Tryz.func168 (by kernel_rfl) (by kernel_rfl)
abbrev T_z57z : Type 1 := List UInt8 → {R : Type} → (Int → Bool → Option R) → Option R
structure C_z57z where
 N : Nat
 z88z : T_z88z
 z92z : T_z92z
def z57z_L2 (g : C_z57z) : Nat → List UInt8 → Int → Int → Int → {R : Type} → (Int → Bool → Option R) → (Int → Option R) → Option R
 | 0, _, _, _, _, _, _, _ => none
 | n + 1, v2, v3, v4, v5, _, e0, e1 => (bif (decide (v5 < v4)) then (get_ v2 v5 fun x10 => (g.z92z (x10.toNat : Int) (fun r11 => (bif r11 then z57z_L2 g n v2 (w64 (v3 + 1)) v4 (w64 (v5 + 1)) e0 e1 else (get_ v2 v5 fun x12 => (g.z88z (x12.toNat : Int) (fun r13 => (bif (!r13) then e0 0 false else z57z_L2 g n v2 v3 v4 (w64 (v5 + 1)) e0 e1)))))))) else e1 v3)
def z57z_ (g : C_z57z) (a1 : List UInt8) {R : Type} (k0 : Int → Bool → Option R) : Option R :=
 (z57z_L2 g g.N a1 0 (a1.length : Int) 0 (fun e14 e15 => k0 e14 e15) (fun e16 => k0 e16 true))
noncomputable def I_z57z [Fuel] : C_z57z := ⟨NN, @z88z _, @z92z _⟩
noncomputable def z57z [Fuel] : T_z57z := @z57z_ I_z57z
def SS_z57z (g : T_z57z) : Spec A := fun args => match args with | [.d (.str a1)] => fun k => g a1 (fun z0 z1 => k (.tup [.d (.int .i64 z0), .d (.bool z1)]) [.undef]) | _ => fun _ => none
def sh_z57z_L2 : SSt := mkSh 25 0 [(0, .str), (2, .int .i64), (6, .int .i64), (7, .int .i64)] []
def LP_z57z_L2 (g : C_z57z) (n : Nat) : LPT A := fun ps => match ps with | [.d (.str p1), .d (.int .i64 p2), .d (.int .i64 p3), .d (.int .i64 p4)] => fun K => z57z_L2 g n p1 p2 p3 p4 (fun z0 z1 => K .ret (mkSt 25 0 [(2, .d (.int .i64 z0)), (3, .d (.bool z1))] [])) (fun z0 => K (.exit 0) (mkSt 25 0 [(2, .d (.int .i64 z0))] [])) | _ => fun _ => none
noncomputable def code_167 : Code := (Tryz.f167.body).getD .skip
noncomputable def E_z57z (g : C_z57z) : Env A := mkE [(168, SS_z88z g.z88z), (189, SS_z92z g.z92z)] [] [(2, ⟨[0, 2, 6, 7], [], [], [], [], []⟩)] [(2, ⟨[2, 3], [], [], [], [], []⟩)] [(2, pieceOf sh_z57z_L2 (LP_z57z_L2 g g.N))] [] [] [] [] []
theorem ct_z57z [Fuel] : NatTab (E_z57z I_z57z).C := ct_of (P := Tryz.prog) (T := T) (.cons ok_z88z (.cons ok_z92z .nil)) (by kernel_rfl)
noncomputable def cb_z57z_L2 : Code := sub [1, 0, 1, 0, 0] code_167
theorem s_z57z_L2 (g : C_z57z) (n : Nat) : StepOk (E_z57z g) g.N cb_z57z_L2 sh_z57z_L2 (LP_z57z_L2 g) n := by intro ps; unfold LP_z57z_L2; split; exact .inr fun R K => (by kernel_rfl); exact .inl fun R K => rfl
theorem lf_z57z_L2 [Fuel] : LoopFine (E_z57z I_z57z) NN cb_z57z_L2 := fine_loop sh_z57z_L2 (LP_z57z_L2 I_z57z) (by kernel_rfl) ct_z57z (cuts0 (fun _ => rfl) (by kernel_rfl)) (fun ps R K => by unfold LP_z57z_L2; split <;> (try unfold z57z_L2) <;> rfl) (s_z57z_L2 I_z57z)
theorem sm_z57z (g : C_z57z) : Same (SS_z57z (@z57z_ g)) (abody (E_z57z g) Tryz.f167 code_167 0 [] [.asis, .asis] g.N) := by intro args; unfold SS_z57z; split; exact .inr fun R k => (by kernel_rfl); exact .inl fun R k => rfl
theorem ok_z57z [Fuel] : Ok 167 (SS_z57z (@z57z _)) := okF_of std (.cons ok_z88z (.cons ok_z92z .nil)) ⟨rfl, rfl, by kernel_rfl, rfl, rfl, rfl⟩ (sm_z57z I_z57z) (cutsL (fun _ => rfl) (.cons lf_z57z_L2 .nil) (by kernel_rfl)) Tryz.func167 (by kernel_rfl) (by kernel_rfl)
abbrev T_call_split : Type 1 := List UInt8 → {R : Type} → (Int → Bool → Option R) → Option R
structure C_call_split where
 N : Nat
 z15z : T_z15z
 z57z : T_z57z
def call_split_ (g : C_call_split) (a1 : List UInt8) {R : Type} (k0 : Int → Bool → Option R) : Option R :=
 (g.z57z a1 (fun r2 r3 => (bif (!r3) then k0 0 false else (bif (decide ((a1.length : Int) > 10)) then k0 0 false else (g.z15z a1 [48, 49, 50, 51, 52, 53, 54, 55, 56, 57] (fun r4 => (bif (decide (r4 < 1)) then k0 0 false else (bif (decide (r4 > 3)) then k0 0 false else (bif (decide ((w64 ((w64 ((a1.length : Int) - r4)) - 1)) < 1)) then k0 0 false else (bif (decide ((w64 ((w64 ((a1.length : Int) - r4)) - 1)) > 4)) then k0 0 false else (bif (decide (0 ≤ r4) && decide (r4 ≤ (a1.length : Int))) then (g.z57z (a1.take (r4 : Int).toNat) (fun r5 r6 => k0 r4 (decide (r5 > 0)))) else none)))))))))))
noncomputable def I_call_split [Fuel] : C_call_split := ⟨NN, @z15z _, @z57z _⟩
noncomputable def call_split [Fuel] : T_call_split := @call_split_ I_call_split
def SS_call_split (g : T_call_split) : Spec A := fun args => match args with | [.d (.str a1)] => fun k => g a1 (fun z0 z1 => k (.tup [.d (.int .i64 z0), .d (.bool z1)]) [.undef]) | _ => fun _ => none
noncomputable def code_166 : Code := (Tryz.f166.body).getD .skip
noncomputable def E_call_split (g : C_call_split) : Env A := mkE [(161, SS_z15z g.z15z), (167, SS_z57z g.z57z)] [] [] [] [] [] [] [] [] []
theorem sm_call_split (g : C_call_split) : Same (SS_call_split (@call_split_ g)) (abody (E_call_split g) Tryz.f166 code_166 0 [] [.asis, .asis] g.N) := by intro args; unfold SS_call_split; split; exact .inr fun R k => (by kernel_rfl); exact .inl fun R k => rfl
theorem ok_call_split [Fuel] : Ok 166 (SS_call_split (@call_split _)) := okF_of std (.cons ok_z15z (.cons ok_z57z .nil)) ⟨rfl, rfl, by kernel_rfl, rfl, rfl, rfl⟩ (sm_call_split I_call_split) (cuts0 (fun _ => rfl) (by kernel_rfl)) Tryz.func166 (by kernel_rfl) (by kernel_rfl)
abbrev T_call_based : Type 1 := List UInt8 → {R : Type} → (G_Parts → Bool → Option R) → Option R
structure C_call_based where
 N : Nat
 call_split : T_call_split
def call_based_ (g : C_call_based) (a1 : List UInt8) {R : Type} (k0 : G_Parts → Bool → Option R) : Option R :=
 (g.call_split a1 (fun r2 r3 => (bif (!r3) then k0 (⟨[], [], [], 0, []⟩ : G_Parts) false else (bif (decide (0 ≤ (w64 (r2 + 1))) && decide ((w64 (r2 + 1)) ≤ (a1.length : Int))) then (bif (decide (0 ≤ (w64 (r2 + 1))) && decide ((w64 (r2 + 1)) ≤ (a1.length : Int))) then k0 (⟨a1, (a1.take ((w64 (r2 + 1)) : Int).toNat), (a1.drop ((w64 (r2 + 1)) : Int).toNat), 0, []⟩ : G_Parts) true else none) else none))))
noncomputable def I_call_based [Fuel] : C_call_based := ⟨NN, @call_split _⟩
noncomputable def call_based [Fuel] : T_call_based := @call_based_ I_call_based
def SS_call_based (g : T_call_based) : Spec A := fun args => match args with | [.d (.str a1)] => fun k => g a1 (fun z0 z1 => k (.tup [.agg [.d (.str z0.f_Base), .d (.str z0.f_Prefix), .d (.str z0.f_Suffix), .d (.int .i64 z0.f_Kind), .d (.str z0.f_Added)], .d (.bool z1)]) [.undef]) | _ => fun _ => none
noncomputable def code_138 : Code := (Tryz.f138.body).getD .skip
noncomputable def E_call_based (g : C_call_based) : Env A := mkE [(166, SS_call_split g.call_split)] [(2, [0])] [] [] [] [] [] [] [] []
theorem sm_call_based (g : C_call_based) : Same (SS_call_based (@call_based_ g)) (abody (E_call_based g) Tryz.f138 code_138 1 [] [.asis, .asis] g.N) := by intro args; unfold SS_call_based; split; exact .inr fun R k => (by kernel_rfl); exact .inl fun R k => rfl
theorem ok_call_based [Fuel] : Ok 138 (SS_call_based (@call_based _)) := okF_of std (.cons ok_call_split .nil) ⟨rfl, rfl, by kernel_rfl, rfl, rfl, rfl⟩ (sm_call_based I_call_based) (cuts0 (fun _ => rfl) (by kernel_rfl)) Tryz.func138 (by kernel_rfl) (by kernel_rfl)
abbrev T_z79z : Type 1 := List UInt8 → {R : Type} → (Bool → Option R) → Option R
structure C_z79z where
 N : Nat
 z57z : T_z57z
def z79z_ (g : C_z79z) (a1 : List UInt8) {R : Type} (k0 : Bool → Option R) : Option R :=
 (g.z57z a1 (fun r2 r3 => (bif r3 then (bif (decide (r2 > 0)) then k0 (decide ((a1.length : Int) ≤ 4)) else k0 false) else k0 false)))
noncomputable def I_z79z [Fuel] : C_z79z := ⟨NN, @z57z _⟩
noncomputable def z79z [Fuel] : T_z79z := @z79z_ I_z79z
def SS_z79z (g : T_z79z) : Spec A := fun args => match args with | [.d (.str a1)] => fun k => g a1 (fun z0 => k (.d (.bool z0)) [.undef]) | _ => fun _ => none
noncomputable def code_139 : Code := (Tryz.f139.body).getD .skip
noncomputable def E_z79z (g : C_z79z) : Env A := mkE [(167, SS_z57z g.z57z)] [] [] [] [] [] [] [] [] []
theorem sm_z79z (g : C_z79z) : Same (SS_z79z (@z79z_ g)) (abody (E_z79z g) Tryz.f139 code_139 0 [] [.asis] g.N) := by intro args; unfold SS_z79z; split; exact .inr fun R k => (by kernel_rfl); exact .inl fun R k => rfl
theorem ok_z79z [Fuel] : Ok 139 (SS_z79z (@z79z _)) := okF_of std (.cons ok_z57z .nil) ⟨rfl, rfl, by kernel_rfl, rfl, rfl, rfl⟩ (sm_z79z I_z79z) (cuts0 (fun _ => rfl) (by kernel_rfl)) Tryz.func139 (by kernel_rfl) (by kernel_rfl)
abbrev T_call_tail : Type 1 := List UInt8 → {R : Type} → (Int → List UInt8 → Bool → Option R) → Option R
structure C_call_tail where
 N : Nat
 z79z : T_z79z
 z88z : T_z88z
def call_tail_ (g : C_call_tail) (a1 : List UInt8) {R : Type} (k0 : Int → List UInt8 → Bool → Option R) : Option R :=
 (bif (a1 == [112]) then k0 3 [] true else (bif (a1 == [109]) then k0 4 [] true else (bif (a1 == [109, 109]) then k0 5 [] true else (bif (a1 == [97, 109]) then k0 6 [] true else (bif ((a1.length : Int) == 1) then (at_ a1 0 fun x2 => (g.z88z (x2.toNat : Int) (fun r3 => (bif r3 then k0 2 a1 true else (g.z79z a1 (fun r4 => k0 1 a1 r4)))))) else (g.z79z a1 (fun r5 => k0 1 a1 r5)))))))
noncomputable def I_call_tail [Fuel] : C_call_tail := ⟨NN, @z79z _, @z88z _⟩
noncomputable def call_tail [Fuel] : T_call_tail := @call_tail_ I_call_tail
def SS_call_tail (g : T_call_tail) : Spec A := fun args => match args with | [.d (.str a1)] => fun k => g a1 (fun z0 z1 z2 => k (.tup [.d (.int .i64 z0), .d (.str z1), .d (.bool z2)]) [.undef]) | _ => fun _ => none
noncomputable def code_140 : Code := (Tryz.f140.body).getD .skip
noncomputable def E_call_tail (g : C_call_tail) : Env A := mkE [(139, SS_z79z g.z79z), (168, SS_z88z g.z88z)] [] [] [] [] [] [] [] [] []
theorem sm_call_tail (g : C_call_tail) : Same (SS_call_tail (@call_tail_ g)) (abody (E_call_tail g) Tryz.f140 code_140 0 [] [.asis, .asis, .asis] g.N) := by intro args; unfold SS_call_tail; split; exact .inr fun R k => (by kernel_rfl); exact .inl fun R k => rfl
theorem ok_call_tail [Fuel] : Ok 140 (SS_call_tail (@call_tail _)) := okF_of std (.cons ok_z79z (.cons ok_z88z .nil)) ⟨rfl, rfl, by kernel_rfl, rfl, rfl, rfl⟩ (sm_call_tail I_call_tail) (cuts0 (fun _ => rfl) (by kernel_rfl)) Tryz.func140 (by kernel_rfl) (by kernel_rfl)
abbrev T_call_Parts : Type 1 := List UInt8 → {R : Type} → (G_Parts → Bool → Option R) → Option R
structure C_call_Parts where
 N : Nat
 z84z : T_z84z
 call_based : T_call_based
 z79z : T_z79z
 call_tail : T_call_tail
def call_Parts_ (g : C_call_Parts) (a1 : List UInt8) {R : Type} (k0 : G_Parts → Bool → Option R) : Option R :=
 (bif (decide ((a1.length : Int) > 14)) then k0 (⟨[], [], [], 0, []⟩ : G_Parts) false else (g.call_based a1 (fun r2 r3 => (bif r3 then k0 r2 true else (g.z84z a1 [47] (fun r4 r5 r6 => (bif (!r6) then k0 (⟨[], [], [], 0, []⟩ : G_Parts) false else (g.call_based r5 (fun r7 r8 => (bif r8 then (g.z79z r4 (fun r9 => (bif r9 then k0 (⟨r7.f_Base, r7.f_Prefix, r7.f_Suffix, 1, r4⟩ : G_Parts) true else (g.call_based r4 (fun r10 r11 => (g.call_tail r5 (fun r12 r13 r14 => (bif (!r11) then k0 (⟨[], [], [], 0, []⟩ : G_Parts) false else (bif (!r14) then k0 (⟨[], [], [], 0, []⟩ : G_Parts) false else k0 (⟨r10.f_Base, r10.f_Prefix, r10.f_Suffix, r12, r13⟩ : G_Parts) true))))))))) else (g.call_based r4 (fun r15 r16 => (g.call_tail r5 (fun r17 r18 r19 => (bif (!r16) then k0 (⟨[], [], [], 0, []⟩ : G_Parts) false else (bif (!r19) then k0 (⟨[], [], [], 0, []⟩ : G_Parts) false else k0 (⟨r15.f_Base, r15.f_Prefix, r15.f_Suffix, r17, r18⟩ : G_Parts) true))))))))))))))))
noncomputable def I_call_Parts [Fuel] : C_call_Parts := ⟨NN, @z84z _, @call_based _, @z79z _, @call_tail _⟩
noncomputable def call_Parts [Fuel] : T_call_Parts := @call_Parts_ I_call_Parts
def SS_call_Parts (g : T_call_Parts) : Spec A := fun args => match args with | [.d (.str a1)] => fun k => g a1 (fun z0 z1 => k (.tup [.agg [.d (.str z0.f_Base), .d (.str z0.f_Prefix), .d (.str z0.f_Suffix), .d (.int .i64 z0.f_Kind), .d (.str z0.f_Added)], .d (.bool z1)]) [.undef]) | _ => fun _ => none
noncomputable def code_110 : Code := (Tryz.f110.body).getD .skip
noncomputable def E_call_Parts (g : C_call_Parts) : Env A := mkE [(132, SS_z84z g.z84z), (138, SS_call_based g.call_based), (139, SS_z79z g.z79z), (140, SS_call_tail g.call_tail)] [(2, [0]), (4, [1]), (9, [2]), (11, [3])] [] [] [] [] [] [] [] []
theorem sm_call_Parts (g : C_call_Parts) : Same (SS_call_Parts (@call_Parts_ g)) (abody (E_call_Parts g) Tryz.f110 code_110 4 [] [.asis, .asis] g.N) := by intro args; unfold SS_call_Parts; split; exact .inr fun R k => (by kernel_rfl); exact .inl fun R k => rfl
theorem ok_call_Parts [Fuel] : Ok 110 (SS_call_Parts (@call_Parts _)) := okF_of std (.cons ok_z84z (.cons ok_call_based (.cons ok_z79z (.cons ok_call_tail .nil)))) ⟨rfl, rfl, by kernel_rfl, rfl, rfl, rfl⟩ (sm_call_Parts I_call_Parts) (cuts0 (fun _ => rfl) (by kernel_rfl)) Tryz.func110 (by kernel_rfl) (by kernel_rfl)
abbrev T_call_Is : Type 1 := List UInt8 → {R : Type} → (Bool → Option R) → Option R
structure C_call_Is where
 N : Nat
 call_Parts : T_call_Parts
def call_Is_ (g : C_call_Is) (a1 : List UInt8) {R : Type} (k0 : Bool → Option R) : Option R :=
 (g.call_Parts a1 (fun r2 r3 => k0 r3))
noncomputable def I_call_Is [Fuel] : C_call_Is := ⟨NN, @call_Parts _⟩
noncomputable def call_Is [Fuel] : T_call_Is := @call_Is_ I_call_Is
def SS_call_Is (g : T_call_Is) : Spec A := fun args => match args with | [.d (.str a1)] => fun k => g a1 (fun z0 => k (.d (.bool z0)) [.undef]) | _ => fun _ => none
noncomputable def code_78 : Code := (Tryz.f78.body).getD .skip
noncomputable def E_call_Is (g : C_call_Is) : Env A := mkE [(110, SS_call_Parts g.call_Parts)] [(3, [0])] [] [] [] [] [] [] [] []
theorem sm_call_Is (g : C_call_Is) : Same (SS_call_Is (@call_Is_ g)) (abody (E_call_Is g) Tryz.f78 code_78 1 [] [.asis] g.N) := by intro args; unfold SS_call_Is; split; exact .inr fun R k => (by kernel_rfl); exact .inl fun R k => rfl
theorem ok_call_Is [Fuel] : Ok 78 (SS_call_Is (@call_Is _)) := okF_of std (.cons ok_call_Parts .nil) ⟨rfl, rfl, by kernel_rfl, rfl, rfl, rfl⟩ (sm_call_Is I_call_Is) (cuts0 (fun _ => rfl) (by kernel_rfl)) Tryz.func78 (by kernel_rfl) (by kernel_rfl)
abbrev T_kit_IsName : Type 1 := List UInt8 → {R : Type} → (Bool → Option R) → Option R
structure C_kit_IsName where
 N : Nat
 kit_IsKey : T_kit_IsKey
def kit_IsName_ (g : C_kit_IsName) (a1 : List UInt8) {R : Type} (k0 : Bool → Option R) : Option R :=
 (bif (a1 == []) then k0 true else (g.kit_IsKey a1 (fun r2 => k0 r2)))
noncomputable def I_kit_IsName [Fuel] : C_kit_IsName := ⟨NN, @kit_IsKey _⟩
noncomputable def kit_IsName [Fuel] : T_kit_IsName := @kit_IsName_ I_kit_IsName
def SS_kit_IsName (g : T_kit_IsName) : Spec A := fun args => match args with | [.d (.str a1)] => fun k => g a1 (fun z0 => k (.d (.bool z0)) [.undef]) | _ => fun _ => none
noncomputable def code_79 : Code := (Tryz.f79.body).getD .skip
noncomputable def E_kit_IsName (g : C_kit_IsName) : Env A := mkE [(58, SS_kit_IsKey g.kit_IsKey)] [] [] [] [] [] [] [] [] []
theorem sm_kit_IsName (g : C_kit_IsName) : Same (SS_kit_IsName (@kit_IsName_ g)) (abody (E_kit_IsName g) Tryz.f79 code_79 0 [] [.asis] g.N) := by intro args; unfold SS_kit_IsName; split; exact .inr fun R k => (by kernel_rfl); exact .inl fun R k => rfl
theorem ok_kit_IsName [Fuel] : Ok 79 (SS_kit_IsName (@kit_IsName _)) := okF_of std (.cons ok_kit_IsKey .nil) ⟨rfl, rfl, by kernel_rfl, rfl, rfl, rfl⟩ (sm_kit_IsName I_kit_IsName) (cuts0 (fun _ => rfl) (by kernel_rfl)) Tryz.func79 (by kernel_rfl) (by kernel_rfl)
end Go.Am
