/- From contracts in worlds with tables to rows. -/
import Derived.Test.YtemgclhenkbikaaDoorAwTb
import Derived.Test.YtemgclhenkbikaaDoorAwZm
set_option linter.unusedVariables false
set_option linter.unusedSimpArgs false
namespace Go.Proofs.YtemgclhenkbikaaDoor.Aw
open Go.RowKit

section
variable {H : Type} {enc : TypeId × Value → H} {P : Program}
/-- From a contract to what a row asks. -/
theorem law_trueG {Γ : List (Nat × Array Value)} {f : FuncId} {fn : Func} {s : ChangeSpec} {apart fresh handsOn : Bool} {W : World} {args : Array Value} {ds gs : List (DataW H)} {before : List MemPlace} {tb : TypeId} {avs : List AV}
    (hl : laidOutB P = true) (hr : (fn.params.toList.all fun t => P.readableRec t && Nat.blt t P.types.size) = true) (htb : P.underlying tb = some .bool) (hres : fn.resultTypes = #[tb]) (hvars : s.vars = [])
    (hs : (s.fn H (ds ++ gs)).results = [.lit (.bool true)] ∧ (s.fn H (ds ++ gs)).args = ds ∧ (s.fn H (ds ++ gs)).vars = [])
    (hW : DataW.Whole enc P fn.params.toList s.vars apart W args.toList ds gs before)
    (hgo : GOk Γ W) (hsp : SpecG Γ P f [] avs (Gives (· = .val (.bool true)))) (hav : RcList W (fun b => b < W.heap.size) avs args.toList) :
    Calls P f args W fun e W' => ∃ v, e = .returned v ∧ s.post enc P fn apart fresh handsOn false W args v W' := by
  refine (hsp W (fun _ => none) (fun b => b < W.heap.size) args hgo (fun _ _ _ _ h => by cases h) (Mem.none fun _ h => h) (RList_of_Rc _ _ hav)).mono ?_
  rintro e W' ⟨rg, x, v, ρ', ok', rfl, ⟨_, rfl⟩, hm, hx, _, _, hK, _⟩
  obtain rfl := R_val hx
  have hb : Below W.heap.size W W' := ⟨hK.os, hK.tape, hK.output, hK.size, fun k hk => hK.block k hk fun ⟨r0, p0, h, _⟩ => by cases h⟩
  obtain ⟨p, q, hA, hV, hbf, hfz, hnd⟩ := id hW
  obtain ⟨h1, h2, h3⟩ := hs
  refine ⟨_, rfl, ds, gs, before, [], p, [], hW, ?_, ?_, ?_, hb.frame _, fun h => by cases h⟩
  · rw [h1, hres]
    exact Go.ChangeShapes.trodAll_mk1 ⟨1, by simp [DataW.trod, Value.cells, htb]⟩
  · rw [h2]
    exact trodAll_stays hl hb hr hA
  · rw [h3, hvars]; exact rfl
end
/-- A table among the variables that a row lists. -/
theorem laid_tab {P : Program} {W : World} {name : String} {k : IntKind} {zs : List Int} {g : Nat} {t e : TypeId} {n : Nat}
    (hg : P.globalNamed name = some g) (hty : (P.globals[g]?).map (·.type) = some t) (ht : P.underlying t = some (.array n e)) (he : P.underlying e = some (.int k)) (hce : P.cellsOf e = 1) (hct : P.cellsOf t = n) :
    ∀ {laid : List (String × DataW Unit)} {ps : List MemPlace}, DataW.LaidVars P W laid ps → (name, Lib.tabData k zs) ∈ laid → Lib.TabIs P W name k zs
  | [], _, _, hm => by cases hm
  | (n', d) :: r, ps, h, hm => by
    obtain ⟨g', t', cs, fuel, p, q, hg', ht', hvar, hd, hr, _⟩ := h
    rcases List.mem_cons.1 hm with heq | hm
    · obtain ⟨rfl, rfl⟩ := Prod.mk.inj heq
      obtain rfl := Option.some.inj (hg.symm.trans hg')
      obtain rfl := Option.some.inj (hty.symm.trans ht')
      unfold Lib.TabIs
      rw [hvar, ← Lib.cells_of_tab ht he hce hct hd]
    · exact laid_tab hg hty ht he hce hct hr hm
end Go.Proofs.YtemgclhenkbikaaDoor.Aw
