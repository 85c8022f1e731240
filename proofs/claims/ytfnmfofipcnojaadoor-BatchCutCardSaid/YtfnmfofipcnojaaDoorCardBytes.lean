/-
  A slice of bytes among the arguments: opened into what the walks read.
-/
import Derived.Test.YtfnmfofipcnojaaDoorCardRaw
import Derived.Test.YtfnmfofipcnojaaDoorSx
set_option linter.unusedVariables false
namespace Go.Proofs.YtfnmfofipcnojaaDoor
open Go.ChangeShapes Go.WideShapes Go.ChangeAt Go.RowKit Go.Lib Go.Sx Go.Proofs

theorem open_bytes {H : Type} {enc : TypeId × Value → H} {P : Program} {W : World} {spare : Nat → Bool} {t e : TypeId} {ad : Option Addr} {len cap : Nat} {d : DataW H} {p : List MemPlace}
    (ht : P.underlying t = some (.slice e)) (he : P.underlying e = some (.int .u8)) (hc : P.cellsOf e = 1) (h : DataW.Trod enc P W 0 spare true t (.slice ad len cap) d p) :
    ∃ l : List UInt8, RdB W (.slice ad len cap) l := by
  obtain ⟨fuel, hf⟩ := h
  have hlt := DataW.trod_lt _ _ _ _ hf
  rcases open_ints ht he hc hf with ⟨hcs, -⟩ | ⟨a, len', cap', zs, hcs, -, hl, hm, hz, hx, hcell, hwz⟩
  · simp [Value.cells] at hcs
    obtain ⟨rfl, rfl, rfl⟩ := hcs
    exact ⟨[], Rd.nil W 1 0 (by omega)⟩
  · simp [Value.cells] at hcs
    obtain ⟨rfl, rfl, rfl⟩ := hcs
    have hlz : len ≤ zs.length := by rw [hz]; split <;> omega
    have hlen : (zs.take len).length = len := by rw [List.length_take]; omega
    have hm' : cap ≤ 9223372036854775807 := by have : (maxLen : Nat) ≤ 9223372036854775807 := by decide
                                               omega
    refine ⟨(zs.take len).map fun z => UInt8.ofNat z.toNat, ?_⟩
    have hL : ((zs.take len).map fun z => UInt8.ofNat z.toNat).length = len := by rw [List.length_map, hlen]
    unfold RdB
    refine ⟨by simp, some a, cap, by rw [hL], by omega, hm', ?_⟩
    rw [hL]
    rcases Nat.eq_zero_or_pos len with h0 | h0
    · exact .inl h0
    · right
      obtain ⟨b, off, spot⟩ := a
      have hspot : spot = none := by simpa [Addr.add] using World.cell?_spot (hcell 0 (by omega))
      subst hspot
      refine ⟨b, off, rfl, ?_, fun j x hj => ?_⟩
      · have hx2 := congrArg Prod.snd hx
        simp only at hx2
        subst hx2
        have := hlt (.cell b off) (MemPlace.mem_row.2 ⟨0, by omega, rfl⟩)
        exact this
      · simp only [bys, List.map_map] at hj
        obtain ⟨z, hz1, rfl⟩ := List.getElem?_map .. |>.symm.trans hj |> Option.map_eq_some_iff.1
        obtain ⟨hj1, hj2⟩ := List.getElem?_eq_some_iff.1 hz1
        have hjl : j < len := by omega
        have e1 : zs[j]? = some z := by rw [List.getElem?_take, if_pos hjl] at hz1; exact hz1
        have hb := bounds_u8 (hwz z (List.mem_of_getElem? e1))
        rw [← add_plain, hcell j (by omega)]
        simp only [List.getD, e1, Option.getD_some, Function.comp]
        congr 2
        simp
        omega
end Go.Proofs.YtfnmfofipcnojaaDoor
