/- The 92 names and the 75 prefixes, looked at one by one. -/
import Derived.Test.YtpchdjdochkjpaaGreatDoorMv
import Derived.Test.YtpchdjdochkjpaaGreatDoorPxLUnitNames
import Derived.Sort.KeysCollected
set_option linter.unusedVariables false
set_option linter.unusedSimpArgs false
namespace Go.Proofs.YtpchdjdochkjpaaGreatDoor.Lib
open Go.RowKit Go.Proofs.YtpchdjdochkjpaaGreatDoor.P Go.Proofs.YtpchdjdochkjpaaGreatDoorW.PrintWords Go.Proofs.YtpchdjdochkjpaaGreatDoorW.PrintMore
theorem ite_some {α : Type} {c : Prop} [Decidable c] {a : Option α} {r : α} (h : (if c then a else none) = some r) : c ∧ a = some r := by
  by_cases hc : c
  · rw [if_pos hc] at h; exact ⟨hc, h⟩
  · rw [if_neg hc] at h; cases h
def chk (k : Nat) (l : Tab) (b : ByteArray) : Option Bool := (unit_Table_Of.f k (some l) b).bind fun u => ((unit_Table_Parse.f k (some u.1) b).bind fun v => (if b.size + 2 ≤ 9223372036854775807 then ((unit_Table_Parse.f k (some v.1) (b ++ (⟨#[94, 50]⟩ : ByteArray))).bind fun w => ((rat_Mul.f k u.2.1.g u.2.1.m u.2.1.b u.2.1.g u.2.1.m u.2.1.b).bind fun s => ((dim_Pow.f u.2.1.d 2).bind fun d => (if u.2.2 = true then (if v.2.2.1 = 0 then ((steelyardkeep_Unit.f k u.2.1 v.2.1).bind fun c1 => (if c1 = true then (if w.2.2.1 = 0 then (if s.2.2.2 = 0 then (if d.2 = 0 then ((steelyardkeep_Rat.f k w.2.1.g w.2.1.m w.2.1.b s.1 s.2.1 s.2.2.1).bind fun c2 => (if c2 = true then (if ((decide (w.2.1.d.d0 = d.1.d0) && (decide (w.2.1.d.d1 = d.1.d1) && (decide (w.2.1.d.d2 = d.1.d2) && (decide (w.2.1.d.d3 = d.1.d3) && (decide (w.2.1.d.d4 = d.1.d4) && (decide (w.2.1.d.d5 = d.1.d5) && (decide (w.2.1.d.d6 = d.1.d6))))))))) = true then ((unit_Table_Has.f k (some w.1) b).bind fun h => (if h.2 = true then (some true) else (none))) else (none)) else (none))) else (none)) else (none)) else (none)) else (none))) else (none)) else (none))))) else (none)))
theorem r_of {k : Nat} {n q : Int} {l : Tab} {m : List ByteArray} {b : ByteArray} {i : Int} (hi : Int.tmod (wrap64 n) (m.length : Int) = i) (h0 : 0 ≤ i) (hb : m[i.toNat]? = some b) (hm : ¬ (m.length : Int) = 0) (H : chk k l b = some true) : steelyardlaw12_UnitNames.r k n q l m = steelyardlaw12_UnitNames.p k n q l := by
  unfold steelyardlaw12_UnitNames.r
  rw [if_neg hm, hi, if_pos h0, hb, Option.bind_some]
  unfold chk at H
  obtain ⟨u, hu, H⟩ := bind_some H
  rw [hu, Option.bind_some]
  obtain ⟨v, hv, H⟩ := bind_some H
  rw [hv, Option.bind_some]
  obtain ⟨c, H⟩ := ite_some H
  rw [if_pos c]
  obtain ⟨w, hw, H⟩ := bind_some H
  rw [hw, Option.bind_some]
  obtain ⟨s, hs, H⟩ := bind_some H
  rw [hs, Option.bind_some]
  obtain ⟨d, hd, H⟩ := bind_some H
  rw [hd, Option.bind_some]
  obtain ⟨c, H⟩ := ite_some H
  rw [if_pos c]
  obtain ⟨c, H⟩ := ite_some H
  rw [if_pos c]
  obtain ⟨c1, hc1, H⟩ := bind_some H
  rw [hc1, Option.bind_some]
  obtain ⟨c, H⟩ := ite_some H
  rw [if_pos c]
  obtain ⟨c, H⟩ := ite_some H
  rw [if_pos c]
  obtain ⟨c, H⟩ := ite_some H
  rw [if_pos c]
  obtain ⟨c, H⟩ := ite_some H
  rw [if_pos c]
  obtain ⟨c2, hc2, H⟩ := bind_some H
  rw [hc2, Option.bind_some]
  obtain ⟨c, H⟩ := ite_some H
  rw [if_pos c]
  obtain ⟨c, H⟩ := ite_some H
  rw [if_pos c]
  obtain ⟨h, hh, H⟩ := bind_some H
  rw [hh, Option.bind_some]
  obtain ⟨c, H⟩ := ite_some H
  rw [if_pos c]
  rw [(Has_tab hh).trans ((Parse_tab hw).trans ((Parse_tab hv).trans (Of_tab hu)))]
def chkp (k : Nat) (l : Tab) (b : ByteArray) (j : Int) : Option Bool := (rat_Whole.f k 1000).bind fun r0 => ((rat_Whole.f k 1000000).bind fun r1 => ((steelyardlaw07_By.f k 1 1000).bind fun r2 => ((steelyardlaw07_By.f k 1 1000000).bind fun r3 => ((steelyardlaw07_By.f k 1 100).bind fun r4 => (if 0 ≤ j then (if j < ((5 : Nat) : Int) then ((([r0, r1, r2, r3, r4] : List (Bool × List Int × List Int))[j.toNat]?).bind fun y => ((unit_Table_Of.f k (some l) b).bind fun x => (if j ≤ wrap64 (j + 1) then (if wrap64 (j + 1) ≤ ((5 : Nat) : Int) then (if ((⟨#[107, 77, 109, 117, 99]⟩ : ByteArray).extract j.toNat (wrap64 (j + 1)).toNat).size + b.size ≤ 9223372036854775807 then ((unit_Table_Of.f k (some x.1) ((⟨#[107, 77, 109, 117, 99]⟩ : ByteArray).extract j.toNat (wrap64 (j + 1)).toNat ++ b)).bind fun w => ((rat_Mul.f k x.2.1.g x.2.1.m x.2.1.b y.1 y.2.1 y.2.2).bind fun z => (if x.2.2 = true then (if w.2.2 = true then (if z.2.2.2 = 0 then ((steelyardkeep_Rat.f k w.2.1.g w.2.1.m w.2.1.b z.1 z.2.1 z.2.2.1).bind fun c => (if c = true then (if ((decide (x.2.1.d.d0 = w.2.1.d.d0) && (decide (x.2.1.d.d1 = w.2.1.d.d1) && (decide (x.2.1.d.d2 = w.2.1.d.d2) && (decide (x.2.1.d.d3 = w.2.1.d.d3) && (decide (x.2.1.d.d4 = w.2.1.d.d4) && (decide (x.2.1.d.d5 = w.2.1.d.d5) && (decide (x.2.1.d.d6 = w.2.1.d.d6))))))))) = true then (some true) else (none)) else (none))) else (none)) else (none)) else (none)))) else (none)) else (none)) else (none)))) else (none)) else (none))))))
theorem p_of {k : Nat} {n q : Int} {l : Tab} {b : ByteArray} {i j : Int} {v : Bool} (hi : Int.tmod (wrap64 n) 15 = i) (hj : Int.tmod (wrap64 q) 5 = j) (h0 : 0 ≤ i) (h1 : i < ((15 : Nat) : Int)) (hb : ([⟨#[109]⟩, ⟨#[115]⟩, ⟨#[65]⟩, ⟨#[75]⟩, ⟨#[109, 111, 108]⟩, ⟨#[99, 100]⟩, ⟨#[103]⟩, ⟨#[72, 122]⟩, ⟨#[78]⟩, ⟨#[80, 97]⟩, ⟨#[74]⟩, ⟨#[87]⟩, ⟨#[67]⟩, ⟨#[86]⟩, ⟨#[76]⟩] : List ByteArray)[i.toNat]? = some b) (H : chkp k l b j = some true) (hv : steelyardlaw12_wakes.f k = some v) : steelyardlaw12_UnitNames.p k n q l = some v := by
  unfold steelyardlaw12_UnitNames.p
  rw [hi, hj, if_pos h0, if_pos h1, hb, Option.bind_some]
  unfold chkp at H
  obtain ⟨r0, hr0, H⟩ := bind_some H
  rw [hr0, Option.bind_some]
  obtain ⟨r1, hr1, H⟩ := bind_some H
  rw [hr1, Option.bind_some]
  obtain ⟨r2, hr2, H⟩ := bind_some H
  rw [hr2, Option.bind_some]
  obtain ⟨r3, hr3, H⟩ := bind_some H
  rw [hr3, Option.bind_some]
  obtain ⟨r4, hr4, H⟩ := bind_some H
  rw [hr4, Option.bind_some]
  obtain ⟨c, H⟩ := ite_some H
  rw [if_pos c]
  obtain ⟨c, H⟩ := ite_some H
  rw [if_pos c]
  obtain ⟨y, hy, H⟩ := bind_some H
  rw [hy, Option.bind_some]
  obtain ⟨x, hx, H⟩ := bind_some H
  rw [hx, Option.bind_some]
  obtain ⟨c, H⟩ := ite_some H
  rw [if_pos c]
  obtain ⟨c, H⟩ := ite_some H
  rw [if_pos c]
  obtain ⟨c, H⟩ := ite_some H
  rw [if_pos c]
  obtain ⟨w, hw, H⟩ := bind_some H
  rw [hw, Option.bind_some]
  obtain ⟨z, hz, H⟩ := bind_some H
  rw [hz, Option.bind_some]
  obtain ⟨c, H⟩ := ite_some H
  rw [if_pos c]
  obtain ⟨c, H⟩ := ite_some H
  rw [if_pos c]
  obtain ⟨c, H⟩ := ite_some H
  rw [if_pos c]
  obtain ⟨c, hc, H⟩ := bind_some H
  rw [hc, Option.bind_some]
  obtain ⟨c, H⟩ := ite_some H
  rw [if_pos c]
  obtain ⟨c, H⟩ := ite_some H
  rw [if_pos c]
  rw [hv, Option.bind_some]
def bases : List ByteArray := ([⟨#[109]⟩, ⟨#[115]⟩, ⟨#[65]⟩, ⟨#[75]⟩, ⟨#[109, 111, 108]⟩, ⟨#[99, 100]⟩, ⟨#[103]⟩, ⟨#[72, 122]⟩, ⟨#[78]⟩, ⟨#[80, 97]⟩, ⟨#[74]⟩, ⟨#[87]⟩, ⟨#[67]⟩, ⟨#[86]⟩, ⟨#[76]⟩] : List ByteArray)
theorem all_cut {α : Type} {P : α → Bool} {l : List α} (n : Nat) (h : (l.take n).all P = true) (k : (l.drop n).all P = true) : l.all P = true := by rw [← List.take_append_drop n l, List.all_append, h, k]; rfl
set_option maxRecDepth 100000 in
theorem chk_0 : ((SN92.take 12).all fun b => chk 200 T92 b == some true) = true := by decide +kernel
set_option maxRecDepth 100000 in
theorem chk_1 : (((SN92.drop 12).take 12).all fun b => chk 200 T92 b == some true) = true := by decide +kernel
set_option maxRecDepth 100000 in
theorem chk_2 : ((((SN92.drop 12).drop 12).take 12).all fun b => chk 200 T92 b == some true) = true := by decide +kernel
set_option maxRecDepth 100000 in
theorem chk_3 : (((((SN92.drop 12).drop 12).drop 12).take 12).all fun b => chk 200 T92 b == some true) = true := by decide +kernel
set_option maxRecDepth 100000 in
theorem chk_4 : ((((((SN92.drop 12).drop 12).drop 12).drop 12).take 12).all fun b => chk 200 T92 b == some true) = true := by decide +kernel
set_option maxRecDepth 100000 in
theorem chk_5 : (((((((SN92.drop 12).drop 12).drop 12).drop 12).drop 12).take 12).all fun b => chk 200 T92 b == some true) = true := by decide +kernel
set_option maxRecDepth 100000 in
theorem chk_6 : ((((((((SN92.drop 12).drop 12).drop 12).drop 12).drop 12).drop 12).take 12).all fun b => chk 200 T92 b == some true) = true := by decide +kernel
set_option maxRecDepth 100000 in
theorem chk_7 : ((((((((SN92.drop 12).drop 12).drop 12).drop 12).drop 12).drop 12).drop 12).all fun b => chk 200 T92 b == some true) = true := by decide +kernel
theorem chk_all : (SN92.all fun b => chk 200 T92 b == some true) = true := all_cut 12 chk_0 <| all_cut 12 chk_1 <| all_cut 12 chk_2 <| all_cut 12 chk_3 <| all_cut 12 chk_4 <| all_cut 12 chk_5 <| all_cut 12 chk_6 <| chk_7
set_option maxRecDepth 100000 in
theorem chkp_all : (bases.all fun b => [(0 : Int), 1, 2, 3, 4].all fun j => chkp 200 T92 b j == some true) = true := by decide +kernel
set_option maxRecDepth 100000 in
theorem rise_all : ((List.range 91).all fun i => match SN92[i + 1]?, SN92[i]? with | some x, some y => !(Go.Op.bytesLess x.toList y.toList || decide (x.toList = y.toList)) | _, _ => false) = true := by decide +kernel
abbrev nms (l : Tab) : List (List UInt8) := l.map fun p => p.1.data.toList
set_option maxRecDepth 100000 in
theorem perm_all : (nms T92).isPerm (SN92.map fun x => x.data.toList) = true := by decide +kernel
set_option maxRecDepth 100000 in
theorem pair_all : (SN92.map fun x => x.data.toList).Pairwise (fun x y => decide (x ≤ y) = true) := by decide +kernel
theorem sort_all : sortN T92 = SN92 := by
  have h1 : ((nms T92).mergeSort fun x y => decide (x ≤ y)) = SN92.map fun x => x.data.toList :=
    (Go.mergeSort_of_perm (List.isPerm_iff.1 perm_all)).trans (List.mergeSort_of_pairwise pair_all)
  unfold sortN
  rw [h1, List.map_map]
  exact (List.map_congr_left (fun x _ => rfl)).trans (List.map_id _)
theorem rise {i : Nat} (hi : i < 91) : ∃ x y, SN92[i + 1]? = some x ∧ SN92[i]? = some y ∧ ¬ (Go.Op.bytesLess x.toList y.toList || decide (x.toList = y.toList)) = true := by
  have h := List.all_eq_true.1 rise_all i (List.mem_range.2 hi)
  split at h
  · rename_i x y h1 h2
    exact ⟨x, y, h1, h2, by simpa using h⟩
  · cases h
theorem len92 : SN92.length = 92 := by decide +kernel
theorem loop {K : Nat} {n q : Int} {v : Bool} (hr : steelyardlaw12_UnitNames.r K n q T92 SN92 = some v) : ∀ (d i : Nat), i + d = 92 → 1 ≤ i → steelyardlaw12_UnitNames.l0 (K + d + 1) n q T92 SN92 (i : Int) = some v
  | 0, i, hd, h1 => by
    simp only [steelyardlaw12_UnitNames.l0, Nat.add_zero]
    rw [if_neg (by rw [len92]; omega)]
    exact hr
  | d + 1, i, hd, h1 => by
    obtain ⟨x, y, hx, hy, hxy⟩ := rise (i := i - 1) (by omega)
    rw [show i - 1 + 1 = i by omega] at hx
    rw [show K + (d + 1) + 1 = (K + d + 1) + 1 by omega]
    simp only [steelyardlaw12_UnitNames.l0]
    have e1 : wrap64 ((i : Int) - 1) = ((i - 1 : Nat) : Int) := by unfold wrap64; omega
    have e2 : wrap64 ((i : Int) + 1) = ((i + 1 : Nat) : Int) := by unfold wrap64; omega
    rw [if_pos (by rw [len92]; omega), if_pos (by omega), Int.toNat_natCast, hx, Option.bind_some, e1, if_pos (by omega), Int.toNat_natCast, hy, Option.bind_some, if_neg hxy, e2]
    exact loop hr d (i + 1) (by omega) (by omega)
theorem tmod_nat {n : Int} (hn : 0 ≤ n ∧ n < 65536) (m : Nat) : Int.tmod (wrap64 n) (m : Int) = ((n.toNat % m : Nat) : Int) := by
  obtain ⟨a, rfl⟩ := Int.eq_ofNat_of_zero_le hn.1
  have e : wrap64 (a : Int) = (a : Int) := by unfold wrap64; omega
  rw [e, Int.toNat_natCast]
  rfl
end Go.Proofs.YtpchdjdochkjpaaGreatDoor.Lib
