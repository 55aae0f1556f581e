/- Part 5 of a proof: For every input, the function of the statement ReachWidths hands back true: the bits of the reaches are those of the reference, or the error is. -/
import Derived.Test.YtfhiejgoemcelaaGreatPd
set_option linter.unusedVariables false
set_option linter.unusedSimpArgs false
set_option linter.unusedSectionVars false
namespace Go.Proofs.YtfhiejgoemcelaaGreat
open Go Tw
theorem c_copiedNNN {L n : Nat} (hn : 1 ≤ n) (hL : 30000 ≤ L) (h : List HB)     (hapc : appendT Tryz.prog #[22, 22] (onH (h ++ [HB.cells .own []])) (.slc h.length 0 0 0 3 true) (.nil .slc) = some (.slc h.length 0 0 0 3 true, onH (h ++ [HB.cells .own []]), rdKs [])) (hapo : appendT Tryz.prog #[23, 23] (onH (h ++ [HB.cells .own []] ++ [HB.cells .own []])) (.slc ((h ++ [HB.cells .own []]).length) 0 0 0 5 true) (.nil .slc) = some (.slc ((h ++ [HB.cells .own []]).length) 0 0 0 5 true, onH (h ++ [HB.cells .own []] ++ [HB.cells .own []]), rdKs [])) (hapr : appendT Tryz.prog #[24, 24] (onH (h ++ [HB.cells .own []] ++ [HB.cells .own []] ++ [HB.cells .own []])) (.slc ((h ++ [HB.cells .own []] ++ [HB.cells .own []]).length) 0 0 0 1 true) (.nil .slc) = some (.slc ((h ++ [HB.cells .own []] ++ [HB.cells .own []]).length) 0 0 0 1 true, onH (h ++ [HB.cells .own []] ++ [HB.cells .own []] ++ [HB.cells .own []]), rdKs [])) : AP L n (.fn 20 [] []) [.agg [.nil .slc, .nil .slc, .nil .slc]] h = some (.agg [.slc h.length 0 0 0 3 true, .slc ((h ++ [HB.cells .own []]).length) 0 0 0 5 true, .slc ((h ++ [HB.cells .own []] ++ [HB.cells .own []]).length) 0 0 0 1 true], h ++ [HB.cells .own []] ++ [HB.cells .own []] ++ [HB.cells .own []], []) :=
  ap_t (by omega) (by kernel_rfl) (.g hapc (rfl : addKs h.length [] [] = []) <| .g hapo (rfl : addKs h.length [] [] = []) <| .g hapr (rfl : addKs h.length [] [] = []) <| .n)
theorem c_copiedNNE {L n : Nat} (hn : 1 ≤ n) (hL : 30000 ≤ L) (h : List HB) (br fr kr : Nat) (er : Bool)     (hapc : appendT Tryz.prog #[22, 22] (onH (h ++ [HB.cells .own []])) (.slc h.length 0 0 0 3 true) (.nil .slc) = some (.slc h.length 0 0 0 3 true, onH (h ++ [HB.cells .own []]), rdKs [])) (hapo : appendT Tryz.prog #[23, 23] (onH (h ++ [HB.cells .own []] ++ [HB.cells .own []])) (.slc ((h ++ [HB.cells .own []]).length) 0 0 0 5 true) (.nil .slc) = some (.slc ((h ++ [HB.cells .own []]).length) 0 0 0 5 true, onH (h ++ [HB.cells .own []] ++ [HB.cells .own []]), rdKs [])) (hapr : appendT Tryz.prog #[24, 24] (onH (h ++ [HB.cells .own []] ++ [HB.cells .own []] ++ [HB.cells .own []])) (.slc ((h ++ [HB.cells .own []] ++ [HB.cells .own []]).length) 0 0 0 1 true) (.slc br fr 0 kr 1 er) = some (.slc ((h ++ [HB.cells .own []] ++ [HB.cells .own []]).length) 0 0 0 1 true, onH (h ++ [HB.cells .own []] ++ [HB.cells .own []] ++ [HB.cells .own []]), rdKs [.h br])) : AP L n (.fn 20 [] []) [.agg [.nil .slc, .nil .slc, .slc br fr 0 kr 1 er]] h = some (.agg [.slc h.length 0 0 0 3 true, .slc ((h ++ [HB.cells .own []]).length) 0 0 0 5 true, .slc ((h ++ [HB.cells .own []] ++ [HB.cells .own []]).length) 0 0 0 1 true], h ++ [HB.cells .own []] ++ [HB.cells .own []] ++ [HB.cells .own []], []) :=
  ap_t (by omega) (by kernel_rfl) (.g hapc (rfl : addKs h.length [] [] = []) <| .g hapo (rfl : addKs h.length [] [] = []) <| .g hapr (rfl : addKs h.length [] [] = []) <| .n)
theorem c_copiedNNS {L n : Nat} (hn : 1 ≤ n) (hL : 30000 ≤ L) (h : List HB) (br fr kr : Nat) (er : Bool) (nr : Nat) (gr : List TV)     (hapc : appendT Tryz.prog #[22, 22] (onH (h ++ [HB.cells .own []])) (.slc h.length 0 0 0 3 true) (.nil .slc) = some (.slc h.length 0 0 0 3 true, onH (h ++ [HB.cells .own []]), rdKs [])) (hapo : appendT Tryz.prog #[23, 23] (onH (h ++ [HB.cells .own []] ++ [HB.cells .own []])) (.slc ((h ++ [HB.cells .own []]).length) 0 0 0 5 true) (.nil .slc) = some (.slc ((h ++ [HB.cells .own []]).length) 0 0 0 5 true, onH (h ++ [HB.cells .own []] ++ [HB.cells .own []]), rdKs [])) (hapr : appendT Tryz.prog #[24, 24] (onH (h ++ [HB.cells .own []] ++ [HB.cells .own []] ++ [HB.cells .own []])) (.slc ((h ++ [HB.cells .own []] ++ [HB.cells .own []]).length) 0 0 0 1 true) (.slc br fr nr kr 1 er) = some (.slc ((h ++ [HB.cells .own []] ++ [HB.cells .own []] ++ [HB.cells .own []]).length) 0 nr nr 1 false, onH (h ++ [HB.cells .own []] ++ [HB.cells .own []] ++ [HB.cells .own []] ++ [HB.cells .own gr]), rdKs [.h ((h ++ [HB.cells .own []] ++ [HB.cells .own []]).length), .h br])) : AP L n (.fn 20 [] []) [.agg [.nil .slc, .nil .slc, .slc br fr nr kr 1 er]] h = some (.agg [.slc h.length 0 0 0 3 true, .slc ((h ++ [HB.cells .own []]).length) 0 0 0 5 true, .slc ((h ++ [HB.cells .own []] ++ [HB.cells .own []] ++ [HB.cells .own []]).length) 0 nr nr 1 false], h ++ [HB.cells .own []] ++ [HB.cells .own []] ++ [HB.cells .own []] ++ [HB.cells .own gr], []) :=
  ap_t (by omega) (by kernel_rfl) (.g hapc (rfl : addKs h.length [] [] = []) <| .g hapo (rfl : addKs h.length [] [] = []) <| .g hapr (rfl : addKs h.length [] [] = []) <| .n)
theorem c_copiedNEN {L n : Nat} (hn : 1 ≤ n) (hL : 30000 ≤ L) (h : List HB) (bo fo ko : Nat) (eo : Bool)     (hapc : appendT Tryz.prog #[22, 22] (onH (h ++ [HB.cells .own []])) (.slc h.length 0 0 0 3 true) (.nil .slc) = some (.slc h.length 0 0 0 3 true, onH (h ++ [HB.cells .own []]), rdKs [])) (hapo : appendT Tryz.prog #[23, 23] (onH (h ++ [HB.cells .own []] ++ [HB.cells .own []])) (.slc ((h ++ [HB.cells .own []]).length) 0 0 0 5 true) (.slc bo fo 0 ko 5 eo) = some (.slc ((h ++ [HB.cells .own []]).length) 0 0 0 5 true, onH (h ++ [HB.cells .own []] ++ [HB.cells .own []]), rdKs [.h bo])) (hapr : appendT Tryz.prog #[24, 24] (onH (h ++ [HB.cells .own []] ++ [HB.cells .own []] ++ [HB.cells .own []])) (.slc ((h ++ [HB.cells .own []] ++ [HB.cells .own []]).length) 0 0 0 1 true) (.nil .slc) = some (.slc ((h ++ [HB.cells .own []] ++ [HB.cells .own []]).length) 0 0 0 1 true, onH (h ++ [HB.cells .own []] ++ [HB.cells .own []] ++ [HB.cells .own []]), rdKs [])) : AP L n (.fn 20 [] []) [.agg [.nil .slc, .slc bo fo 0 ko 5 eo, .nil .slc]] h = some (.agg [.slc h.length 0 0 0 3 true, .slc ((h ++ [HB.cells .own []]).length) 0 0 0 5 true, .slc ((h ++ [HB.cells .own []] ++ [HB.cells .own []]).length) 0 0 0 1 true], h ++ [HB.cells .own []] ++ [HB.cells .own []] ++ [HB.cells .own []], []) :=
  ap_t (by omega) (by kernel_rfl) (.g hapc (rfl : addKs h.length [] [] = []) <| .g hapo (rfl : addKs h.length [] [] = []) <| .g hapr (rfl : addKs h.length [] [] = []) <| .n)
theorem c_copiedNEE {L n : Nat} (hn : 1 ≤ n) (hL : 30000 ≤ L) (h : List HB) (bo fo ko : Nat) (eo : Bool) (br fr kr : Nat) (er : Bool)     (hapc : appendT Tryz.prog #[22, 22] (onH (h ++ [HB.cells .own []])) (.slc h.length 0 0 0 3 true) (.nil .slc) = some (.slc h.length 0 0 0 3 true, onH (h ++ [HB.cells .own []]), rdKs [])) (hapo : appendT Tryz.prog #[23, 23] (onH (h ++ [HB.cells .own []] ++ [HB.cells .own []])) (.slc ((h ++ [HB.cells .own []]).length) 0 0 0 5 true) (.slc bo fo 0 ko 5 eo) = some (.slc ((h ++ [HB.cells .own []]).length) 0 0 0 5 true, onH (h ++ [HB.cells .own []] ++ [HB.cells .own []]), rdKs [.h bo])) (hapr : appendT Tryz.prog #[24, 24] (onH (h ++ [HB.cells .own []] ++ [HB.cells .own []] ++ [HB.cells .own []])) (.slc ((h ++ [HB.cells .own []] ++ [HB.cells .own []]).length) 0 0 0 1 true) (.slc br fr 0 kr 1 er) = some (.slc ((h ++ [HB.cells .own []] ++ [HB.cells .own []]).length) 0 0 0 1 true, onH (h ++ [HB.cells .own []] ++ [HB.cells .own []] ++ [HB.cells .own []]), rdKs [.h br])) : AP L n (.fn 20 [] []) [.agg [.nil .slc, .slc bo fo 0 ko 5 eo, .slc br fr 0 kr 1 er]] h = some (.agg [.slc h.length 0 0 0 3 true, .slc ((h ++ [HB.cells .own []]).length) 0 0 0 5 true, .slc ((h ++ [HB.cells .own []] ++ [HB.cells .own []]).length) 0 0 0 1 true], h ++ [HB.cells .own []] ++ [HB.cells .own []] ++ [HB.cells .own []], []) :=
  ap_t (by omega) (by kernel_rfl) (.g hapc (rfl : addKs h.length [] [] = []) <| .g hapo (rfl : addKs h.length [] [] = []) <| .g hapr (rfl : addKs h.length [] [] = []) <| .n)
theorem c_copiedNES {L n : Nat} (hn : 1 ≤ n) (hL : 30000 ≤ L) (h : List HB) (bo fo ko : Nat) (eo : Bool) (br fr kr : Nat) (er : Bool) (nr : Nat) (gr : List TV)     (hapc : appendT Tryz.prog #[22, 22] (onH (h ++ [HB.cells .own []])) (.slc h.length 0 0 0 3 true) (.nil .slc) = some (.slc h.length 0 0 0 3 true, onH (h ++ [HB.cells .own []]), rdKs [])) (hapo : appendT Tryz.prog #[23, 23] (onH (h ++ [HB.cells .own []] ++ [HB.cells .own []])) (.slc ((h ++ [HB.cells .own []]).length) 0 0 0 5 true) (.slc bo fo 0 ko 5 eo) = some (.slc ((h ++ [HB.cells .own []]).length) 0 0 0 5 true, onH (h ++ [HB.cells .own []] ++ [HB.cells .own []]), rdKs [.h bo])) (hapr : appendT Tryz.prog #[24, 24] (onH (h ++ [HB.cells .own []] ++ [HB.cells .own []] ++ [HB.cells .own []])) (.slc ((h ++ [HB.cells .own []] ++ [HB.cells .own []]).length) 0 0 0 1 true) (.slc br fr nr kr 1 er) = some (.slc ((h ++ [HB.cells .own []] ++ [HB.cells .own []] ++ [HB.cells .own []]).length) 0 nr nr 1 false, onH (h ++ [HB.cells .own []] ++ [HB.cells .own []] ++ [HB.cells .own []] ++ [HB.cells .own gr]), rdKs [.h ((h ++ [HB.cells .own []] ++ [HB.cells .own []]).length), .h br])) : AP L n (.fn 20 [] []) [.agg [.nil .slc, .slc bo fo 0 ko 5 eo, .slc br fr nr kr 1 er]] h = some (.agg [.slc h.length 0 0 0 3 true, .slc ((h ++ [HB.cells .own []]).length) 0 0 0 5 true, .slc ((h ++ [HB.cells .own []] ++ [HB.cells .own []] ++ [HB.cells .own []]).length) 0 nr nr 1 false], h ++ [HB.cells .own []] ++ [HB.cells .own []] ++ [HB.cells .own []] ++ [HB.cells .own gr], []) :=
  ap_t (by omega) (by kernel_rfl) (.g hapc (rfl : addKs h.length [] [] = []) <| .g hapo (rfl : addKs h.length [] [] = []) <| .g hapr (rfl : addKs h.length [] [] = []) <| .n)
theorem c_copiedNSN {L n : Nat} (hn : 1 ≤ n) (hL : 30000 ≤ L) (h : List HB) (bo fo ko : Nat) (eo : Bool) (no : Nat) (go : List TV)     (hapc : appendT Tryz.prog #[22, 22] (onH (h ++ [HB.cells .own []])) (.slc h.length 0 0 0 3 true) (.nil .slc) = some (.slc h.length 0 0 0 3 true, onH (h ++ [HB.cells .own []]), rdKs [])) (hapo : appendT Tryz.prog #[23, 23] (onH (h ++ [HB.cells .own []] ++ [HB.cells .own []])) (.slc ((h ++ [HB.cells .own []]).length) 0 0 0 5 true) (.slc bo fo no ko 5 eo) = some (.slc ((h ++ [HB.cells .own []] ++ [HB.cells .own []]).length) 0 no no 5 false, onH (h ++ [HB.cells .own []] ++ [HB.cells .own []] ++ [HB.cells .own go]), rdKs [.h ((h ++ [HB.cells .own []]).length), .h bo])) (hapr : appendT Tryz.prog #[24, 24] (onH (h ++ [HB.cells .own []] ++ [HB.cells .own []] ++ [HB.cells .own go] ++ [HB.cells .own []])) (.slc ((h ++ [HB.cells .own []] ++ [HB.cells .own []] ++ [HB.cells .own go]).length) 0 0 0 1 true) (.nil .slc) = some (.slc ((h ++ [HB.cells .own []] ++ [HB.cells .own []] ++ [HB.cells .own go]).length) 0 0 0 1 true, onH (h ++ [HB.cells .own []] ++ [HB.cells .own []] ++ [HB.cells .own go] ++ [HB.cells .own []]), rdKs [])) : AP L n (.fn 20 [] []) [.agg [.nil .slc, .slc bo fo no ko 5 eo, .nil .slc]] h = some (.agg [.slc h.length 0 0 0 3 true, .slc ((h ++ [HB.cells .own []] ++ [HB.cells .own []]).length) 0 no no 5 false, .slc ((h ++ [HB.cells .own []] ++ [HB.cells .own []] ++ [HB.cells .own go]).length) 0 0 0 1 true], h ++ [HB.cells .own []] ++ [HB.cells .own []] ++ [HB.cells .own go] ++ [HB.cells .own []], []) :=
  ap_t (by omega) (by kernel_rfl) (.g hapc (rfl : addKs h.length [] [] = []) <| .g hapo (rfl : addKs h.length [] [] = []) <| .g hapr (rfl : addKs h.length [] [] = []) <| .n)
theorem c_copiedNSE {L n : Nat} (hn : 1 ≤ n) (hL : 30000 ≤ L) (h : List HB) (bo fo ko : Nat) (eo : Bool) (no : Nat) (go : List TV) (br fr kr : Nat) (er : Bool)     (hapc : appendT Tryz.prog #[22, 22] (onH (h ++ [HB.cells .own []])) (.slc h.length 0 0 0 3 true) (.nil .slc) = some (.slc h.length 0 0 0 3 true, onH (h ++ [HB.cells .own []]), rdKs [])) (hapo : appendT Tryz.prog #[23, 23] (onH (h ++ [HB.cells .own []] ++ [HB.cells .own []])) (.slc ((h ++ [HB.cells .own []]).length) 0 0 0 5 true) (.slc bo fo no ko 5 eo) = some (.slc ((h ++ [HB.cells .own []] ++ [HB.cells .own []]).length) 0 no no 5 false, onH (h ++ [HB.cells .own []] ++ [HB.cells .own []] ++ [HB.cells .own go]), rdKs [.h ((h ++ [HB.cells .own []]).length), .h bo])) (hapr : appendT Tryz.prog #[24, 24] (onH (h ++ [HB.cells .own []] ++ [HB.cells .own []] ++ [HB.cells .own go] ++ [HB.cells .own []])) (.slc ((h ++ [HB.cells .own []] ++ [HB.cells .own []] ++ [HB.cells .own go]).length) 0 0 0 1 true) (.slc br fr 0 kr 1 er) = some (.slc ((h ++ [HB.cells .own []] ++ [HB.cells .own []] ++ [HB.cells .own go]).length) 0 0 0 1 true, onH (h ++ [HB.cells .own []] ++ [HB.cells .own []] ++ [HB.cells .own go] ++ [HB.cells .own []]), rdKs [.h br])) : AP L n (.fn 20 [] []) [.agg [.nil .slc, .slc bo fo no ko 5 eo, .slc br fr 0 kr 1 er]] h = some (.agg [.slc h.length 0 0 0 3 true, .slc ((h ++ [HB.cells .own []] ++ [HB.cells .own []]).length) 0 no no 5 false, .slc ((h ++ [HB.cells .own []] ++ [HB.cells .own []] ++ [HB.cells .own go]).length) 0 0 0 1 true], h ++ [HB.cells .own []] ++ [HB.cells .own []] ++ [HB.cells .own go] ++ [HB.cells .own []], []) :=
  ap_t (by omega) (by kernel_rfl) (.g hapc (rfl : addKs h.length [] [] = []) <| .g hapo (rfl : addKs h.length [] [] = []) <| .g hapr (rfl : addKs h.length [] [] = []) <| .n)
theorem c_copiedNSS {L n : Nat} (hn : 1 ≤ n) (hL : 30000 ≤ L) (h : List HB) (bo fo ko : Nat) (eo : Bool) (no : Nat) (go : List TV) (br fr kr : Nat) (er : Bool) (nr : Nat) (gr : List TV)     (hapc : appendT Tryz.prog #[22, 22] (onH (h ++ [HB.cells .own []])) (.slc h.length 0 0 0 3 true) (.nil .slc) = some (.slc h.length 0 0 0 3 true, onH (h ++ [HB.cells .own []]), rdKs [])) (hapo : appendT Tryz.prog #[23, 23] (onH (h ++ [HB.cells .own []] ++ [HB.cells .own []])) (.slc ((h ++ [HB.cells .own []]).length) 0 0 0 5 true) (.slc bo fo no ko 5 eo) = some (.slc ((h ++ [HB.cells .own []] ++ [HB.cells .own []]).length) 0 no no 5 false, onH (h ++ [HB.cells .own []] ++ [HB.cells .own []] ++ [HB.cells .own go]), rdKs [.h ((h ++ [HB.cells .own []]).length), .h bo])) (hapr : appendT Tryz.prog #[24, 24] (onH (h ++ [HB.cells .own []] ++ [HB.cells .own []] ++ [HB.cells .own go] ++ [HB.cells .own []])) (.slc ((h ++ [HB.cells .own []] ++ [HB.cells .own []] ++ [HB.cells .own go]).length) 0 0 0 1 true) (.slc br fr nr kr 1 er) = some (.slc ((h ++ [HB.cells .own []] ++ [HB.cells .own []] ++ [HB.cells .own go] ++ [HB.cells .own []]).length) 0 nr nr 1 false, onH (h ++ [HB.cells .own []] ++ [HB.cells .own []] ++ [HB.cells .own go] ++ [HB.cells .own []] ++ [HB.cells .own gr]), rdKs [.h ((h ++ [HB.cells .own []] ++ [HB.cells .own []] ++ [HB.cells .own go]).length), .h br])) : AP L n (.fn 20 [] []) [.agg [.nil .slc, .slc bo fo no ko 5 eo, .slc br fr nr kr 1 er]] h = some (.agg [.slc h.length 0 0 0 3 true, .slc ((h ++ [HB.cells .own []] ++ [HB.cells .own []]).length) 0 no no 5 false, .slc ((h ++ [HB.cells .own []] ++ [HB.cells .own []] ++ [HB.cells .own go] ++ [HB.cells .own []]).length) 0 nr nr 1 false], h ++ [HB.cells .own []] ++ [HB.cells .own []] ++ [HB.cells .own go] ++ [HB.cells .own []] ++ [HB.cells .own gr], []) :=
  ap_t (by omega) (by kernel_rfl) (.g hapc (rfl : addKs h.length [] [] = []) <| .g hapo (rfl : addKs h.length [] [] = []) <| .g hapr (rfl : addKs h.length [] [] = []) <| .n)
theorem c_copiedENN {L n : Nat} (hn : 1 ≤ n) (hL : 30000 ≤ L) (h : List HB) (bc fc kc : Nat) (ec : Bool)     (hapc : appendT Tryz.prog #[22, 22] (onH (h ++ [HB.cells .own []])) (.slc h.length 0 0 0 3 true) (.slc bc fc 0 kc 3 ec) = some (.slc h.length 0 0 0 3 true, onH (h ++ [HB.cells .own []]), rdKs [.h bc])) (hapo : appendT Tryz.prog #[23, 23] (onH (h ++ [HB.cells .own []] ++ [HB.cells .own []])) (.slc ((h ++ [HB.cells .own []]).length) 0 0 0 5 true) (.nil .slc) = some (.slc ((h ++ [HB.cells .own []]).length) 0 0 0 5 true, onH (h ++ [HB.cells .own []] ++ [HB.cells .own []]), rdKs [])) (hapr : appendT Tryz.prog #[24, 24] (onH (h ++ [HB.cells .own []] ++ [HB.cells .own []] ++ [HB.cells .own []])) (.slc ((h ++ [HB.cells .own []] ++ [HB.cells .own []]).length) 0 0 0 1 true) (.nil .slc) = some (.slc ((h ++ [HB.cells .own []] ++ [HB.cells .own []]).length) 0 0 0 1 true, onH (h ++ [HB.cells .own []] ++ [HB.cells .own []] ++ [HB.cells .own []]), rdKs [])) : AP L n (.fn 20 [] []) [.agg [.slc bc fc 0 kc 3 ec, .nil .slc, .nil .slc]] h = some (.agg [.slc h.length 0 0 0 3 true, .slc ((h ++ [HB.cells .own []]).length) 0 0 0 5 true, .slc ((h ++ [HB.cells .own []] ++ [HB.cells .own []]).length) 0 0 0 1 true], h ++ [HB.cells .own []] ++ [HB.cells .own []] ++ [HB.cells .own []], []) :=
  ap_t (by omega) (by kernel_rfl) (.g hapc (rfl : addKs h.length [] [] = []) <| .g hapo (rfl : addKs h.length [] [] = []) <| .g hapr (rfl : addKs h.length [] [] = []) <| .n)
theorem c_copiedENE {L n : Nat} (hn : 1 ≤ n) (hL : 30000 ≤ L) (h : List HB) (bc fc kc : Nat) (ec : Bool) (br fr kr : Nat) (er : Bool)     (hapc : appendT Tryz.prog #[22, 22] (onH (h ++ [HB.cells .own []])) (.slc h.length 0 0 0 3 true) (.slc bc fc 0 kc 3 ec) = some (.slc h.length 0 0 0 3 true, onH (h ++ [HB.cells .own []]), rdKs [.h bc])) (hapo : appendT Tryz.prog #[23, 23] (onH (h ++ [HB.cells .own []] ++ [HB.cells .own []])) (.slc ((h ++ [HB.cells .own []]).length) 0 0 0 5 true) (.nil .slc) = some (.slc ((h ++ [HB.cells .own []]).length) 0 0 0 5 true, onH (h ++ [HB.cells .own []] ++ [HB.cells .own []]), rdKs [])) (hapr : appendT Tryz.prog #[24, 24] (onH (h ++ [HB.cells .own []] ++ [HB.cells .own []] ++ [HB.cells .own []])) (.slc ((h ++ [HB.cells .own []] ++ [HB.cells .own []]).length) 0 0 0 1 true) (.slc br fr 0 kr 1 er) = some (.slc ((h ++ [HB.cells .own []] ++ [HB.cells .own []]).length) 0 0 0 1 true, onH (h ++ [HB.cells .own []] ++ [HB.cells .own []] ++ [HB.cells .own []]), rdKs [.h br])) : AP L n (.fn 20 [] []) [.agg [.slc bc fc 0 kc 3 ec, .nil .slc, .slc br fr 0 kr 1 er]] h = some (.agg [.slc h.length 0 0 0 3 true, .slc ((h ++ [HB.cells .own []]).length) 0 0 0 5 true, .slc ((h ++ [HB.cells .own []] ++ [HB.cells .own []]).length) 0 0 0 1 true], h ++ [HB.cells .own []] ++ [HB.cells .own []] ++ [HB.cells .own []], []) :=
  ap_t (by omega) (by kernel_rfl) (.g hapc (rfl : addKs h.length [] [] = []) <| .g hapo (rfl : addKs h.length [] [] = []) <| .g hapr (rfl : addKs h.length [] [] = []) <| .n)
theorem c_copiedENS {L n : Nat} (hn : 1 ≤ n) (hL : 30000 ≤ L) (h : List HB) (bc fc kc : Nat) (ec : Bool) (br fr kr : Nat) (er : Bool) (nr : Nat) (gr : List TV)     (hapc : appendT Tryz.prog #[22, 22] (onH (h ++ [HB.cells .own []])) (.slc h.length 0 0 0 3 true) (.slc bc fc 0 kc 3 ec) = some (.slc h.length 0 0 0 3 true, onH (h ++ [HB.cells .own []]), rdKs [.h bc])) (hapo : appendT Tryz.prog #[23, 23] (onH (h ++ [HB.cells .own []] ++ [HB.cells .own []])) (.slc ((h ++ [HB.cells .own []]).length) 0 0 0 5 true) (.nil .slc) = some (.slc ((h ++ [HB.cells .own []]).length) 0 0 0 5 true, onH (h ++ [HB.cells .own []] ++ [HB.cells .own []]), rdKs [])) (hapr : appendT Tryz.prog #[24, 24] (onH (h ++ [HB.cells .own []] ++ [HB.cells .own []] ++ [HB.cells .own []])) (.slc ((h ++ [HB.cells .own []] ++ [HB.cells .own []]).length) 0 0 0 1 true) (.slc br fr nr kr 1 er) = some (.slc ((h ++ [HB.cells .own []] ++ [HB.cells .own []] ++ [HB.cells .own []]).length) 0 nr nr 1 false, onH (h ++ [HB.cells .own []] ++ [HB.cells .own []] ++ [HB.cells .own []] ++ [HB.cells .own gr]), rdKs [.h ((h ++ [HB.cells .own []] ++ [HB.cells .own []]).length), .h br])) : AP L n (.fn 20 [] []) [.agg [.slc bc fc 0 kc 3 ec, .nil .slc, .slc br fr nr kr 1 er]] h = some (.agg [.slc h.length 0 0 0 3 true, .slc ((h ++ [HB.cells .own []]).length) 0 0 0 5 true, .slc ((h ++ [HB.cells .own []] ++ [HB.cells .own []] ++ [HB.cells .own []]).length) 0 nr nr 1 false], h ++ [HB.cells .own []] ++ [HB.cells .own []] ++ [HB.cells .own []] ++ [HB.cells .own gr], []) :=
  ap_t (by omega) (by kernel_rfl) (.g hapc (rfl : addKs h.length [] [] = []) <| .g hapo (rfl : addKs h.length [] [] = []) <| .g hapr (rfl : addKs h.length [] [] = []) <| .n)
theorem c_copiedEEN {L n : Nat} (hn : 1 ≤ n) (hL : 30000 ≤ L) (h : List HB) (bc fc kc : Nat) (ec : Bool) (bo fo ko : Nat) (eo : Bool)     (hapc : appendT Tryz.prog #[22, 22] (onH (h ++ [HB.cells .own []])) (.slc h.length 0 0 0 3 true) (.slc bc fc 0 kc 3 ec) = some (.slc h.length 0 0 0 3 true, onH (h ++ [HB.cells .own []]), rdKs [.h bc])) (hapo : appendT Tryz.prog #[23, 23] (onH (h ++ [HB.cells .own []] ++ [HB.cells .own []])) (.slc ((h ++ [HB.cells .own []]).length) 0 0 0 5 true) (.slc bo fo 0 ko 5 eo) = some (.slc ((h ++ [HB.cells .own []]).length) 0 0 0 5 true, onH (h ++ [HB.cells .own []] ++ [HB.cells .own []]), rdKs [.h bo])) (hapr : appendT Tryz.prog #[24, 24] (onH (h ++ [HB.cells .own []] ++ [HB.cells .own []] ++ [HB.cells .own []])) (.slc ((h ++ [HB.cells .own []] ++ [HB.cells .own []]).length) 0 0 0 1 true) (.nil .slc) = some (.slc ((h ++ [HB.cells .own []] ++ [HB.cells .own []]).length) 0 0 0 1 true, onH (h ++ [HB.cells .own []] ++ [HB.cells .own []] ++ [HB.cells .own []]), rdKs [])) : AP L n (.fn 20 [] []) [.agg [.slc bc fc 0 kc 3 ec, .slc bo fo 0 ko 5 eo, .nil .slc]] h = some (.agg [.slc h.length 0 0 0 3 true, .slc ((h ++ [HB.cells .own []]).length) 0 0 0 5 true, .slc ((h ++ [HB.cells .own []] ++ [HB.cells .own []]).length) 0 0 0 1 true], h ++ [HB.cells .own []] ++ [HB.cells .own []] ++ [HB.cells .own []], []) :=
  ap_t (by omega) (by kernel_rfl) (.g hapc (rfl : addKs h.length [] [] = []) <| .g hapo (rfl : addKs h.length [] [] = []) <| .g hapr (rfl : addKs h.length [] [] = []) <| .n)
theorem c_copiedEEE {L n : Nat} (hn : 1 ≤ n) (hL : 30000 ≤ L) (h : List HB) (bc fc kc : Nat) (ec : Bool) (bo fo ko : Nat) (eo : Bool) (br fr kr : Nat) (er : Bool)     (hapc : appendT Tryz.prog #[22, 22] (onH (h ++ [HB.cells .own []])) (.slc h.length 0 0 0 3 true) (.slc bc fc 0 kc 3 ec) = some (.slc h.length 0 0 0 3 true, onH (h ++ [HB.cells .own []]), rdKs [.h bc])) (hapo : appendT Tryz.prog #[23, 23] (onH (h ++ [HB.cells .own []] ++ [HB.cells .own []])) (.slc ((h ++ [HB.cells .own []]).length) 0 0 0 5 true) (.slc bo fo 0 ko 5 eo) = some (.slc ((h ++ [HB.cells .own []]).length) 0 0 0 5 true, onH (h ++ [HB.cells .own []] ++ [HB.cells .own []]), rdKs [.h bo])) (hapr : appendT Tryz.prog #[24, 24] (onH (h ++ [HB.cells .own []] ++ [HB.cells .own []] ++ [HB.cells .own []])) (.slc ((h ++ [HB.cells .own []] ++ [HB.cells .own []]).length) 0 0 0 1 true) (.slc br fr 0 kr 1 er) = some (.slc ((h ++ [HB.cells .own []] ++ [HB.cells .own []]).length) 0 0 0 1 true, onH (h ++ [HB.cells .own []] ++ [HB.cells .own []] ++ [HB.cells .own []]), rdKs [.h br])) : AP L n (.fn 20 [] []) [.agg [.slc bc fc 0 kc 3 ec, .slc bo fo 0 ko 5 eo, .slc br fr 0 kr 1 er]] h = some (.agg [.slc h.length 0 0 0 3 true, .slc ((h ++ [HB.cells .own []]).length) 0 0 0 5 true, .slc ((h ++ [HB.cells .own []] ++ [HB.cells .own []]).length) 0 0 0 1 true], h ++ [HB.cells .own []] ++ [HB.cells .own []] ++ [HB.cells .own []], []) :=
  ap_t (by omega) (by kernel_rfl) (.g hapc (rfl : addKs h.length [] [] = []) <| .g hapo (rfl : addKs h.length [] [] = []) <| .g hapr (rfl : addKs h.length [] [] = []) <| .n)
theorem c_copiedEES {L n : Nat} (hn : 1 ≤ n) (hL : 30000 ≤ L) (h : List HB) (bc fc kc : Nat) (ec : Bool) (bo fo ko : Nat) (eo : Bool) (br fr kr : Nat) (er : Bool) (nr : Nat) (gr : List TV)     (hapc : appendT Tryz.prog #[22, 22] (onH (h ++ [HB.cells .own []])) (.slc h.length 0 0 0 3 true) (.slc bc fc 0 kc 3 ec) = some (.slc h.length 0 0 0 3 true, onH (h ++ [HB.cells .own []]), rdKs [.h bc])) (hapo : appendT Tryz.prog #[23, 23] (onH (h ++ [HB.cells .own []] ++ [HB.cells .own []])) (.slc ((h ++ [HB.cells .own []]).length) 0 0 0 5 true) (.slc bo fo 0 ko 5 eo) = some (.slc ((h ++ [HB.cells .own []]).length) 0 0 0 5 true, onH (h ++ [HB.cells .own []] ++ [HB.cells .own []]), rdKs [.h bo])) (hapr : appendT Tryz.prog #[24, 24] (onH (h ++ [HB.cells .own []] ++ [HB.cells .own []] ++ [HB.cells .own []])) (.slc ((h ++ [HB.cells .own []] ++ [HB.cells .own []]).length) 0 0 0 1 true) (.slc br fr nr kr 1 er) = some (.slc ((h ++ [HB.cells .own []] ++ [HB.cells .own []] ++ [HB.cells .own []]).length) 0 nr nr 1 false, onH (h ++ [HB.cells .own []] ++ [HB.cells .own []] ++ [HB.cells .own []] ++ [HB.cells .own gr]), rdKs [.h ((h ++ [HB.cells .own []] ++ [HB.cells .own []]).length), .h br])) : AP L n (.fn 20 [] []) [.agg [.slc bc fc 0 kc 3 ec, .slc bo fo 0 ko 5 eo, .slc br fr nr kr 1 er]] h = some (.agg [.slc h.length 0 0 0 3 true, .slc ((h ++ [HB.cells .own []]).length) 0 0 0 5 true, .slc ((h ++ [HB.cells .own []] ++ [HB.cells .own []] ++ [HB.cells .own []]).length) 0 nr nr 1 false], h ++ [HB.cells .own []] ++ [HB.cells .own []] ++ [HB.cells .own []] ++ [HB.cells .own gr], []) :=
  ap_t (by omega) (by kernel_rfl) (.g hapc (rfl : addKs h.length [] [] = []) <| .g hapo (rfl : addKs h.length [] [] = []) <| .g hapr (rfl : addKs h.length [] [] = []) <| .n)
theorem c_copiedESN {L n : Nat} (hn : 1 ≤ n) (hL : 30000 ≤ L) (h : List HB) (bc fc kc : Nat) (ec : Bool) (bo fo ko : Nat) (eo : Bool) (no : Nat) (go : List TV)     (hapc : appendT Tryz.prog #[22, 22] (onH (h ++ [HB.cells .own []])) (.slc h.length 0 0 0 3 true) (.slc bc fc 0 kc 3 ec) = some (.slc h.length 0 0 0 3 true, onH (h ++ [HB.cells .own []]), rdKs [.h bc])) (hapo : appendT Tryz.prog #[23, 23] (onH (h ++ [HB.cells .own []] ++ [HB.cells .own []])) (.slc ((h ++ [HB.cells .own []]).length) 0 0 0 5 true) (.slc bo fo no ko 5 eo) = some (.slc ((h ++ [HB.cells .own []] ++ [HB.cells .own []]).length) 0 no no 5 false, onH (h ++ [HB.cells .own []] ++ [HB.cells .own []] ++ [HB.cells .own go]), rdKs [.h ((h ++ [HB.cells .own []]).length), .h bo])) (hapr : appendT Tryz.prog #[24, 24] (onH (h ++ [HB.cells .own []] ++ [HB.cells .own []] ++ [HB.cells .own go] ++ [HB.cells .own []])) (.slc ((h ++ [HB.cells .own []] ++ [HB.cells .own []] ++ [HB.cells .own go]).length) 0 0 0 1 true) (.nil .slc) = some (.slc ((h ++ [HB.cells .own []] ++ [HB.cells .own []] ++ [HB.cells .own go]).length) 0 0 0 1 true, onH (h ++ [HB.cells .own []] ++ [HB.cells .own []] ++ [HB.cells .own go] ++ [HB.cells .own []]), rdKs [])) : AP L n (.fn 20 [] []) [.agg [.slc bc fc 0 kc 3 ec, .slc bo fo no ko 5 eo, .nil .slc]] h = some (.agg [.slc h.length 0 0 0 3 true, .slc ((h ++ [HB.cells .own []] ++ [HB.cells .own []]).length) 0 no no 5 false, .slc ((h ++ [HB.cells .own []] ++ [HB.cells .own []] ++ [HB.cells .own go]).length) 0 0 0 1 true], h ++ [HB.cells .own []] ++ [HB.cells .own []] ++ [HB.cells .own go] ++ [HB.cells .own []], []) :=
  ap_t (by omega) (by kernel_rfl) (.g hapc (rfl : addKs h.length [] [] = []) <| .g hapo (rfl : addKs h.length [] [] = []) <| .g hapr (rfl : addKs h.length [] [] = []) <| .n)
theorem c_copiedESE {L n : Nat} (hn : 1 ≤ n) (hL : 30000 ≤ L) (h : List HB) (bc fc kc : Nat) (ec : Bool) (bo fo ko : Nat) (eo : Bool) (no : Nat) (go : List TV) (br fr kr : Nat) (er : Bool)     (hapc : appendT Tryz.prog #[22, 22] (onH (h ++ [HB.cells .own []])) (.slc h.length 0 0 0 3 true) (.slc bc fc 0 kc 3 ec) = some (.slc h.length 0 0 0 3 true, onH (h ++ [HB.cells .own []]), rdKs [.h bc])) (hapo : appendT Tryz.prog #[23, 23] (onH (h ++ [HB.cells .own []] ++ [HB.cells .own []])) (.slc ((h ++ [HB.cells .own []]).length) 0 0 0 5 true) (.slc bo fo no ko 5 eo) = some (.slc ((h ++ [HB.cells .own []] ++ [HB.cells .own []]).length) 0 no no 5 false, onH (h ++ [HB.cells .own []] ++ [HB.cells .own []] ++ [HB.cells .own go]), rdKs [.h ((h ++ [HB.cells .own []]).length), .h bo])) (hapr : appendT Tryz.prog #[24, 24] (onH (h ++ [HB.cells .own []] ++ [HB.cells .own []] ++ [HB.cells .own go] ++ [HB.cells .own []])) (.slc ((h ++ [HB.cells .own []] ++ [HB.cells .own []] ++ [HB.cells .own go]).length) 0 0 0 1 true) (.slc br fr 0 kr 1 er) = some (.slc ((h ++ [HB.cells .own []] ++ [HB.cells .own []] ++ [HB.cells .own go]).length) 0 0 0 1 true, onH (h ++ [HB.cells .own []] ++ [HB.cells .own []] ++ [HB.cells .own go] ++ [HB.cells .own []]), rdKs [.h br])) : AP L n (.fn 20 [] []) [.agg [.slc bc fc 0 kc 3 ec, .slc bo fo no ko 5 eo, .slc br fr 0 kr 1 er]] h = some (.agg [.slc h.length 0 0 0 3 true, .slc ((h ++ [HB.cells .own []] ++ [HB.cells .own []]).length) 0 no no 5 false, .slc ((h ++ [HB.cells .own []] ++ [HB.cells .own []] ++ [HB.cells .own go]).length) 0 0 0 1 true], h ++ [HB.cells .own []] ++ [HB.cells .own []] ++ [HB.cells .own go] ++ [HB.cells .own []], []) :=
  ap_t (by omega) (by kernel_rfl) (.g hapc (rfl : addKs h.length [] [] = []) <| .g hapo (rfl : addKs h.length [] [] = []) <| .g hapr (rfl : addKs h.length [] [] = []) <| .n)
theorem c_copiedESS {L n : Nat} (hn : 1 ≤ n) (hL : 30000 ≤ L) (h : List HB) (bc fc kc : Nat) (ec : Bool) (bo fo ko : Nat) (eo : Bool) (no : Nat) (go : List TV) (br fr kr : Nat) (er : Bool) (nr : Nat) (gr : List TV)     (hapc : appendT Tryz.prog #[22, 22] (onH (h ++ [HB.cells .own []])) (.slc h.length 0 0 0 3 true) (.slc bc fc 0 kc 3 ec) = some (.slc h.length 0 0 0 3 true, onH (h ++ [HB.cells .own []]), rdKs [.h bc])) (hapo : appendT Tryz.prog #[23, 23] (onH (h ++ [HB.cells .own []] ++ [HB.cells .own []])) (.slc ((h ++ [HB.cells .own []]).length) 0 0 0 5 true) (.slc bo fo no ko 5 eo) = some (.slc ((h ++ [HB.cells .own []] ++ [HB.cells .own []]).length) 0 no no 5 false, onH (h ++ [HB.cells .own []] ++ [HB.cells .own []] ++ [HB.cells .own go]), rdKs [.h ((h ++ [HB.cells .own []]).length), .h bo])) (hapr : appendT Tryz.prog #[24, 24] (onH (h ++ [HB.cells .own []] ++ [HB.cells .own []] ++ [HB.cells .own go] ++ [HB.cells .own []])) (.slc ((h ++ [HB.cells .own []] ++ [HB.cells .own []] ++ [HB.cells .own go]).length) 0 0 0 1 true) (.slc br fr nr kr 1 er) = some (.slc ((h ++ [HB.cells .own []] ++ [HB.cells .own []] ++ [HB.cells .own go] ++ [HB.cells .own []]).length) 0 nr nr 1 false, onH (h ++ [HB.cells .own []] ++ [HB.cells .own []] ++ [HB.cells .own go] ++ [HB.cells .own []] ++ [HB.cells .own gr]), rdKs [.h ((h ++ [HB.cells .own []] ++ [HB.cells .own []] ++ [HB.cells .own go]).length), .h br])) : AP L n (.fn 20 [] []) [.agg [.slc bc fc 0 kc 3 ec, .slc bo fo no ko 5 eo, .slc br fr nr kr 1 er]] h = some (.agg [.slc h.length 0 0 0 3 true, .slc ((h ++ [HB.cells .own []] ++ [HB.cells .own []]).length) 0 no no 5 false, .slc ((h ++ [HB.cells .own []] ++ [HB.cells .own []] ++ [HB.cells .own go] ++ [HB.cells .own []]).length) 0 nr nr 1 false], h ++ [HB.cells .own []] ++ [HB.cells .own []] ++ [HB.cells .own go] ++ [HB.cells .own []] ++ [HB.cells .own gr], []) :=
  ap_t (by omega) (by kernel_rfl) (.g hapc (rfl : addKs h.length [] [] = []) <| .g hapo (rfl : addKs h.length [] [] = []) <| .g hapr (rfl : addKs h.length [] [] = []) <| .n)
theorem c_copiedSNN {L n : Nat} (hn : 1 ≤ n) (hL : 30000 ≤ L) (h : List HB) (bc fc kc : Nat) (ec : Bool) (nc : Nat) (gc : List TV)     (hapc : appendT Tryz.prog #[22, 22] (onH (h ++ [HB.cells .own []])) (.slc h.length 0 0 0 3 true) (.slc bc fc nc kc 3 ec) = some (.slc ((h ++ [HB.cells .own []]).length) 0 nc nc 3 false, onH (h ++ [HB.cells .own []] ++ [HB.cells .own gc]), rdKs [.h h.length, .h bc])) (hapo : appendT Tryz.prog #[23, 23] (onH (h ++ [HB.cells .own []] ++ [HB.cells .own gc] ++ [HB.cells .own []])) (.slc ((h ++ [HB.cells .own []] ++ [HB.cells .own gc]).length) 0 0 0 5 true) (.nil .slc) = some (.slc ((h ++ [HB.cells .own []] ++ [HB.cells .own gc]).length) 0 0 0 5 true, onH (h ++ [HB.cells .own []] ++ [HB.cells .own gc] ++ [HB.cells .own []]), rdKs [])) (hapr : appendT Tryz.prog #[24, 24] (onH (h ++ [HB.cells .own []] ++ [HB.cells .own gc] ++ [HB.cells .own []] ++ [HB.cells .own []])) (.slc ((h ++ [HB.cells .own []] ++ [HB.cells .own gc] ++ [HB.cells .own []]).length) 0 0 0 1 true) (.nil .slc) = some (.slc ((h ++ [HB.cells .own []] ++ [HB.cells .own gc] ++ [HB.cells .own []]).length) 0 0 0 1 true, onH (h ++ [HB.cells .own []] ++ [HB.cells .own gc] ++ [HB.cells .own []] ++ [HB.cells .own []]), rdKs [])) : AP L n (.fn 20 [] []) [.agg [.slc bc fc nc kc 3 ec, .nil .slc, .nil .slc]] h = some (.agg [.slc ((h ++ [HB.cells .own []]).length) 0 nc nc 3 false, .slc ((h ++ [HB.cells .own []] ++ [HB.cells .own gc]).length) 0 0 0 5 true, .slc ((h ++ [HB.cells .own []] ++ [HB.cells .own gc] ++ [HB.cells .own []]).length) 0 0 0 1 true], h ++ [HB.cells .own []] ++ [HB.cells .own gc] ++ [HB.cells .own []] ++ [HB.cells .own []], []) :=
  ap_t (by omega) (by kernel_rfl) (.g hapc (rfl : addKs h.length [] [] = []) <| .g hapo (rfl : addKs h.length [] [] = []) <| .g hapr (rfl : addKs h.length [] [] = []) <| .n)
theorem c_copiedSNE {L n : Nat} (hn : 1 ≤ n) (hL : 30000 ≤ L) (h : List HB) (bc fc kc : Nat) (ec : Bool) (nc : Nat) (gc : List TV) (br fr kr : Nat) (er : Bool)     (hapc : appendT Tryz.prog #[22, 22] (onH (h ++ [HB.cells .own []])) (.slc h.length 0 0 0 3 true) (.slc bc fc nc kc 3 ec) = some (.slc ((h ++ [HB.cells .own []]).length) 0 nc nc 3 false, onH (h ++ [HB.cells .own []] ++ [HB.cells .own gc]), rdKs [.h h.length, .h bc])) (hapo : appendT Tryz.prog #[23, 23] (onH (h ++ [HB.cells .own []] ++ [HB.cells .own gc] ++ [HB.cells .own []])) (.slc ((h ++ [HB.cells .own []] ++ [HB.cells .own gc]).length) 0 0 0 5 true) (.nil .slc) = some (.slc ((h ++ [HB.cells .own []] ++ [HB.cells .own gc]).length) 0 0 0 5 true, onH (h ++ [HB.cells .own []] ++ [HB.cells .own gc] ++ [HB.cells .own []]), rdKs [])) (hapr : appendT Tryz.prog #[24, 24] (onH (h ++ [HB.cells .own []] ++ [HB.cells .own gc] ++ [HB.cells .own []] ++ [HB.cells .own []])) (.slc ((h ++ [HB.cells .own []] ++ [HB.cells .own gc] ++ [HB.cells .own []]).length) 0 0 0 1 true) (.slc br fr 0 kr 1 er) = some (.slc ((h ++ [HB.cells .own []] ++ [HB.cells .own gc] ++ [HB.cells .own []]).length) 0 0 0 1 true, onH (h ++ [HB.cells .own []] ++ [HB.cells .own gc] ++ [HB.cells .own []] ++ [HB.cells .own []]), rdKs [.h br])) : AP L n (.fn 20 [] []) [.agg [.slc bc fc nc kc 3 ec, .nil .slc, .slc br fr 0 kr 1 er]] h = some (.agg [.slc ((h ++ [HB.cells .own []]).length) 0 nc nc 3 false, .slc ((h ++ [HB.cells .own []] ++ [HB.cells .own gc]).length) 0 0 0 5 true, .slc ((h ++ [HB.cells .own []] ++ [HB.cells .own gc] ++ [HB.cells .own []]).length) 0 0 0 1 true], h ++ [HB.cells .own []] ++ [HB.cells .own gc] ++ [HB.cells .own []] ++ [HB.cells .own []], []) :=
  ap_t (by omega) (by kernel_rfl) (.g hapc (rfl : addKs h.length [] [] = []) <| .g hapo (rfl : addKs h.length [] [] = []) <| .g hapr (rfl : addKs h.length [] [] = []) <| .n)
theorem c_copiedSNS {L n : Nat} (hn : 1 ≤ n) (hL : 30000 ≤ L) (h : List HB) (bc fc kc : Nat) (ec : Bool) (nc : Nat) (gc : List TV) (br fr kr : Nat) (er : Bool) (nr : Nat) (gr : List TV)     (hapc : appendT Tryz.prog #[22, 22] (onH (h ++ [HB.cells .own []])) (.slc h.length 0 0 0 3 true) (.slc bc fc nc kc 3 ec) = some (.slc ((h ++ [HB.cells .own []]).length) 0 nc nc 3 false, onH (h ++ [HB.cells .own []] ++ [HB.cells .own gc]), rdKs [.h h.length, .h bc])) (hapo : appendT Tryz.prog #[23, 23] (onH (h ++ [HB.cells .own []] ++ [HB.cells .own gc] ++ [HB.cells .own []])) (.slc ((h ++ [HB.cells .own []] ++ [HB.cells .own gc]).length) 0 0 0 5 true) (.nil .slc) = some (.slc ((h ++ [HB.cells .own []] ++ [HB.cells .own gc]).length) 0 0 0 5 true, onH (h ++ [HB.cells .own []] ++ [HB.cells .own gc] ++ [HB.cells .own []]), rdKs [])) (hapr : appendT Tryz.prog #[24, 24] (onH (h ++ [HB.cells .own []] ++ [HB.cells .own gc] ++ [HB.cells .own []] ++ [HB.cells .own []])) (.slc ((h ++ [HB.cells .own []] ++ [HB.cells .own gc] ++ [HB.cells .own []]).length) 0 0 0 1 true) (.slc br fr nr kr 1 er) = some (.slc ((h ++ [HB.cells .own []] ++ [HB.cells .own gc] ++ [HB.cells .own []] ++ [HB.cells .own []]).length) 0 nr nr 1 false, onH (h ++ [HB.cells .own []] ++ [HB.cells .own gc] ++ [HB.cells .own []] ++ [HB.cells .own []] ++ [HB.cells .own gr]), rdKs [.h ((h ++ [HB.cells .own []] ++ [HB.cells .own gc] ++ [HB.cells .own []]).length), .h br])) : AP L n (.fn 20 [] []) [.agg [.slc bc fc nc kc 3 ec, .nil .slc, .slc br fr nr kr 1 er]] h = some (.agg [.slc ((h ++ [HB.cells .own []]).length) 0 nc nc 3 false, .slc ((h ++ [HB.cells .own []] ++ [HB.cells .own gc]).length) 0 0 0 5 true, .slc ((h ++ [HB.cells .own []] ++ [HB.cells .own gc] ++ [HB.cells .own []] ++ [HB.cells .own []]).length) 0 nr nr 1 false], h ++ [HB.cells .own []] ++ [HB.cells .own gc] ++ [HB.cells .own []] ++ [HB.cells .own []] ++ [HB.cells .own gr], []) :=
  ap_t (by omega) (by kernel_rfl) (.g hapc (rfl : addKs h.length [] [] = []) <| .g hapo (rfl : addKs h.length [] [] = []) <| .g hapr (rfl : addKs h.length [] [] = []) <| .n)
theorem c_copiedSEN {L n : Nat} (hn : 1 ≤ n) (hL : 30000 ≤ L) (h : List HB) (bc fc kc : Nat) (ec : Bool) (nc : Nat) (gc : List TV) (bo fo ko : Nat) (eo : Bool)     (hapc : appendT Tryz.prog #[22, 22] (onH (h ++ [HB.cells .own []])) (.slc h.length 0 0 0 3 true) (.slc bc fc nc kc 3 ec) = some (.slc ((h ++ [HB.cells .own []]).length) 0 nc nc 3 false, onH (h ++ [HB.cells .own []] ++ [HB.cells .own gc]), rdKs [.h h.length, .h bc])) (hapo : appendT Tryz.prog #[23, 23] (onH (h ++ [HB.cells .own []] ++ [HB.cells .own gc] ++ [HB.cells .own []])) (.slc ((h ++ [HB.cells .own []] ++ [HB.cells .own gc]).length) 0 0 0 5 true) (.slc bo fo 0 ko 5 eo) = some (.slc ((h ++ [HB.cells .own []] ++ [HB.cells .own gc]).length) 0 0 0 5 true, onH (h ++ [HB.cells .own []] ++ [HB.cells .own gc] ++ [HB.cells .own []]), rdKs [.h bo])) (hapr : appendT Tryz.prog #[24, 24] (onH (h ++ [HB.cells .own []] ++ [HB.cells .own gc] ++ [HB.cells .own []] ++ [HB.cells .own []])) (.slc ((h ++ [HB.cells .own []] ++ [HB.cells .own gc] ++ [HB.cells .own []]).length) 0 0 0 1 true) (.nil .slc) = some (.slc ((h ++ [HB.cells .own []] ++ [HB.cells .own gc] ++ [HB.cells .own []]).length) 0 0 0 1 true, onH (h ++ [HB.cells .own []] ++ [HB.cells .own gc] ++ [HB.cells .own []] ++ [HB.cells .own []]), rdKs [])) : AP L n (.fn 20 [] []) [.agg [.slc bc fc nc kc 3 ec, .slc bo fo 0 ko 5 eo, .nil .slc]] h = some (.agg [.slc ((h ++ [HB.cells .own []]).length) 0 nc nc 3 false, .slc ((h ++ [HB.cells .own []] ++ [HB.cells .own gc]).length) 0 0 0 5 true, .slc ((h ++ [HB.cells .own []] ++ [HB.cells .own gc] ++ [HB.cells .own []]).length) 0 0 0 1 true], h ++ [HB.cells .own []] ++ [HB.cells .own gc] ++ [HB.cells .own []] ++ [HB.cells .own []], []) :=
  ap_t (by omega) (by kernel_rfl) (.g hapc (rfl : addKs h.length [] [] = []) <| .g hapo (rfl : addKs h.length [] [] = []) <| .g hapr (rfl : addKs h.length [] [] = []) <| .n)
theorem c_copiedSEE {L n : Nat} (hn : 1 ≤ n) (hL : 30000 ≤ L) (h : List HB) (bc fc kc : Nat) (ec : Bool) (nc : Nat) (gc : List TV) (bo fo ko : Nat) (eo : Bool) (br fr kr : Nat) (er : Bool)     (hapc : appendT Tryz.prog #[22, 22] (onH (h ++ [HB.cells .own []])) (.slc h.length 0 0 0 3 true) (.slc bc fc nc kc 3 ec) = some (.slc ((h ++ [HB.cells .own []]).length) 0 nc nc 3 false, onH (h ++ [HB.cells .own []] ++ [HB.cells .own gc]), rdKs [.h h.length, .h bc])) (hapo : appendT Tryz.prog #[23, 23] (onH (h ++ [HB.cells .own []] ++ [HB.cells .own gc] ++ [HB.cells .own []])) (.slc ((h ++ [HB.cells .own []] ++ [HB.cells .own gc]).length) 0 0 0 5 true) (.slc bo fo 0 ko 5 eo) = some (.slc ((h ++ [HB.cells .own []] ++ [HB.cells .own gc]).length) 0 0 0 5 true, onH (h ++ [HB.cells .own []] ++ [HB.cells .own gc] ++ [HB.cells .own []]), rdKs [.h bo])) (hapr : appendT Tryz.prog #[24, 24] (onH (h ++ [HB.cells .own []] ++ [HB.cells .own gc] ++ [HB.cells .own []] ++ [HB.cells .own []])) (.slc ((h ++ [HB.cells .own []] ++ [HB.cells .own gc] ++ [HB.cells .own []]).length) 0 0 0 1 true) (.slc br fr 0 kr 1 er) = some (.slc ((h ++ [HB.cells .own []] ++ [HB.cells .own gc] ++ [HB.cells .own []]).length) 0 0 0 1 true, onH (h ++ [HB.cells .own []] ++ [HB.cells .own gc] ++ [HB.cells .own []] ++ [HB.cells .own []]), rdKs [.h br])) : AP L n (.fn 20 [] []) [.agg [.slc bc fc nc kc 3 ec, .slc bo fo 0 ko 5 eo, .slc br fr 0 kr 1 er]] h = some (.agg [.slc ((h ++ [HB.cells .own []]).length) 0 nc nc 3 false, .slc ((h ++ [HB.cells .own []] ++ [HB.cells .own gc]).length) 0 0 0 5 true, .slc ((h ++ [HB.cells .own []] ++ [HB.cells .own gc] ++ [HB.cells .own []]).length) 0 0 0 1 true], h ++ [HB.cells .own []] ++ [HB.cells .own gc] ++ [HB.cells .own []] ++ [HB.cells .own []], []) :=
  ap_t (by omega) (by kernel_rfl) (.g hapc (rfl : addKs h.length [] [] = []) <| .g hapo (rfl : addKs h.length [] [] = []) <| .g hapr (rfl : addKs h.length [] [] = []) <| .n)
theorem c_copiedSES {L n : Nat} (hn : 1 ≤ n) (hL : 30000 ≤ L) (h : List HB) (bc fc kc : Nat) (ec : Bool) (nc : Nat) (gc : List TV) (bo fo ko : Nat) (eo : Bool) (br fr kr : Nat) (er : Bool) (nr : Nat) (gr : List TV)     (hapc : appendT Tryz.prog #[22, 22] (onH (h ++ [HB.cells .own []])) (.slc h.length 0 0 0 3 true) (.slc bc fc nc kc 3 ec) = some (.slc ((h ++ [HB.cells .own []]).length) 0 nc nc 3 false, onH (h ++ [HB.cells .own []] ++ [HB.cells .own gc]), rdKs [.h h.length, .h bc])) (hapo : appendT Tryz.prog #[23, 23] (onH (h ++ [HB.cells .own []] ++ [HB.cells .own gc] ++ [HB.cells .own []])) (.slc ((h ++ [HB.cells .own []] ++ [HB.cells .own gc]).length) 0 0 0 5 true) (.slc bo fo 0 ko 5 eo) = some (.slc ((h ++ [HB.cells .own []] ++ [HB.cells .own gc]).length) 0 0 0 5 true, onH (h ++ [HB.cells .own []] ++ [HB.cells .own gc] ++ [HB.cells .own []]), rdKs [.h bo])) (hapr : appendT Tryz.prog #[24, 24] (onH (h ++ [HB.cells .own []] ++ [HB.cells .own gc] ++ [HB.cells .own []] ++ [HB.cells .own []])) (.slc ((h ++ [HB.cells .own []] ++ [HB.cells .own gc] ++ [HB.cells .own []]).length) 0 0 0 1 true) (.slc br fr nr kr 1 er) = some (.slc ((h ++ [HB.cells .own []] ++ [HB.cells .own gc] ++ [HB.cells .own []] ++ [HB.cells .own []]).length) 0 nr nr 1 false, onH (h ++ [HB.cells .own []] ++ [HB.cells .own gc] ++ [HB.cells .own []] ++ [HB.cells .own []] ++ [HB.cells .own gr]), rdKs [.h ((h ++ [HB.cells .own []] ++ [HB.cells .own gc] ++ [HB.cells .own []]).length), .h br])) : AP L n (.fn 20 [] []) [.agg [.slc bc fc nc kc 3 ec, .slc bo fo 0 ko 5 eo, .slc br fr nr kr 1 er]] h = some (.agg [.slc ((h ++ [HB.cells .own []]).length) 0 nc nc 3 false, .slc ((h ++ [HB.cells .own []] ++ [HB.cells .own gc]).length) 0 0 0 5 true, .slc ((h ++ [HB.cells .own []] ++ [HB.cells .own gc] ++ [HB.cells .own []] ++ [HB.cells .own []]).length) 0 nr nr 1 false], h ++ [HB.cells .own []] ++ [HB.cells .own gc] ++ [HB.cells .own []] ++ [HB.cells .own []] ++ [HB.cells .own gr], []) :=
  ap_t (by omega) (by kernel_rfl) (.g hapc (rfl : addKs h.length [] [] = []) <| .g hapo (rfl : addKs h.length [] [] = []) <| .g hapr (rfl : addKs h.length [] [] = []) <| .n)
theorem c_copiedSSN {L n : Nat} (hn : 1 ≤ n) (hL : 30000 ≤ L) (h : List HB) (bc fc kc : Nat) (ec : Bool) (nc : Nat) (gc : List TV) (bo fo ko : Nat) (eo : Bool) (no : Nat) (go : List TV)     (hapc : appendT Tryz.prog #[22, 22] (onH (h ++ [HB.cells .own []])) (.slc h.length 0 0 0 3 true) (.slc bc fc nc kc 3 ec) = some (.slc ((h ++ [HB.cells .own []]).length) 0 nc nc 3 false, onH (h ++ [HB.cells .own []] ++ [HB.cells .own gc]), rdKs [.h h.length, .h bc])) (hapo : appendT Tryz.prog #[23, 23] (onH (h ++ [HB.cells .own []] ++ [HB.cells .own gc] ++ [HB.cells .own []])) (.slc ((h ++ [HB.cells .own []] ++ [HB.cells .own gc]).length) 0 0 0 5 true) (.slc bo fo no ko 5 eo) = some (.slc ((h ++ [HB.cells .own []] ++ [HB.cells .own gc] ++ [HB.cells .own []]).length) 0 no no 5 false, onH (h ++ [HB.cells .own []] ++ [HB.cells .own gc] ++ [HB.cells .own []] ++ [HB.cells .own go]), rdKs [.h ((h ++ [HB.cells .own []] ++ [HB.cells .own gc]).length), .h bo])) (hapr : appendT Tryz.prog #[24, 24] (onH (h ++ [HB.cells .own []] ++ [HB.cells .own gc] ++ [HB.cells .own []] ++ [HB.cells .own go] ++ [HB.cells .own []])) (.slc ((h ++ [HB.cells .own []] ++ [HB.cells .own gc] ++ [HB.cells .own []] ++ [HB.cells .own go]).length) 0 0 0 1 true) (.nil .slc) = some (.slc ((h ++ [HB.cells .own []] ++ [HB.cells .own gc] ++ [HB.cells .own []] ++ [HB.cells .own go]).length) 0 0 0 1 true, onH (h ++ [HB.cells .own []] ++ [HB.cells .own gc] ++ [HB.cells .own []] ++ [HB.cells .own go] ++ [HB.cells .own []]), rdKs [])) : AP L n (.fn 20 [] []) [.agg [.slc bc fc nc kc 3 ec, .slc bo fo no ko 5 eo, .nil .slc]] h = some (.agg [.slc ((h ++ [HB.cells .own []]).length) 0 nc nc 3 false, .slc ((h ++ [HB.cells .own []] ++ [HB.cells .own gc] ++ [HB.cells .own []]).length) 0 no no 5 false, .slc ((h ++ [HB.cells .own []] ++ [HB.cells .own gc] ++ [HB.cells .own []] ++ [HB.cells .own go]).length) 0 0 0 1 true], h ++ [HB.cells .own []] ++ [HB.cells .own gc] ++ [HB.cells .own []] ++ [HB.cells .own go] ++ [HB.cells .own []], []) :=
  ap_t (by omega) (by kernel_rfl) (.g hapc (rfl : addKs h.length [] [] = []) <| .g hapo (rfl : addKs h.length [] [] = []) <| .g hapr (rfl : addKs h.length [] [] = []) <| .n)
theorem c_copiedSSE {L n : Nat} (hn : 1 ≤ n) (hL : 30000 ≤ L) (h : List HB) (bc fc kc : Nat) (ec : Bool) (nc : Nat) (gc : List TV) (bo fo ko : Nat) (eo : Bool) (no : Nat) (go : List TV) (br fr kr : Nat) (er : Bool)     (hapc : appendT Tryz.prog #[22, 22] (onH (h ++ [HB.cells .own []])) (.slc h.length 0 0 0 3 true) (.slc bc fc nc kc 3 ec) = some (.slc ((h ++ [HB.cells .own []]).length) 0 nc nc 3 false, onH (h ++ [HB.cells .own []] ++ [HB.cells .own gc]), rdKs [.h h.length, .h bc])) (hapo : appendT Tryz.prog #[23, 23] (onH (h ++ [HB.cells .own []] ++ [HB.cells .own gc] ++ [HB.cells .own []])) (.slc ((h ++ [HB.cells .own []] ++ [HB.cells .own gc]).length) 0 0 0 5 true) (.slc bo fo no ko 5 eo) = some (.slc ((h ++ [HB.cells .own []] ++ [HB.cells .own gc] ++ [HB.cells .own []]).length) 0 no no 5 false, onH (h ++ [HB.cells .own []] ++ [HB.cells .own gc] ++ [HB.cells .own []] ++ [HB.cells .own go]), rdKs [.h ((h ++ [HB.cells .own []] ++ [HB.cells .own gc]).length), .h bo])) (hapr : appendT Tryz.prog #[24, 24] (onH (h ++ [HB.cells .own []] ++ [HB.cells .own gc] ++ [HB.cells .own []] ++ [HB.cells .own go] ++ [HB.cells .own []])) (.slc ((h ++ [HB.cells .own []] ++ [HB.cells .own gc] ++ [HB.cells .own []] ++ [HB.cells .own go]).length) 0 0 0 1 true) (.slc br fr 0 kr 1 er) = some (.slc ((h ++ [HB.cells .own []] ++ [HB.cells .own gc] ++ [HB.cells .own []] ++ [HB.cells .own go]).length) 0 0 0 1 true, onH (h ++ [HB.cells .own []] ++ [HB.cells .own gc] ++ [HB.cells .own []] ++ [HB.cells .own go] ++ [HB.cells .own []]), rdKs [.h br])) : AP L n (.fn 20 [] []) [.agg [.slc bc fc nc kc 3 ec, .slc bo fo no ko 5 eo, .slc br fr 0 kr 1 er]] h = some (.agg [.slc ((h ++ [HB.cells .own []]).length) 0 nc nc 3 false, .slc ((h ++ [HB.cells .own []] ++ [HB.cells .own gc] ++ [HB.cells .own []]).length) 0 no no 5 false, .slc ((h ++ [HB.cells .own []] ++ [HB.cells .own gc] ++ [HB.cells .own []] ++ [HB.cells .own go]).length) 0 0 0 1 true], h ++ [HB.cells .own []] ++ [HB.cells .own gc] ++ [HB.cells .own []] ++ [HB.cells .own go] ++ [HB.cells .own []], []) :=
  ap_t (by omega) (by kernel_rfl) (.g hapc (rfl : addKs h.length [] [] = []) <| .g hapo (rfl : addKs h.length [] [] = []) <| .g hapr (rfl : addKs h.length [] [] = []) <| .n)
theorem c_copiedSSS {L n : Nat} (hn : 1 ≤ n) (hL : 30000 ≤ L) (h : List HB) (bc fc kc : Nat) (ec : Bool) (nc : Nat) (gc : List TV) (bo fo ko : Nat) (eo : Bool) (no : Nat) (go : List TV) (br fr kr : Nat) (er : Bool) (nr : Nat) (gr : List TV)     (hapc : appendT Tryz.prog #[22, 22] (onH (h ++ [HB.cells .own []])) (.slc h.length 0 0 0 3 true) (.slc bc fc nc kc 3 ec) = some (.slc ((h ++ [HB.cells .own []]).length) 0 nc nc 3 false, onH (h ++ [HB.cells .own []] ++ [HB.cells .own gc]), rdKs [.h h.length, .h bc])) (hapo : appendT Tryz.prog #[23, 23] (onH (h ++ [HB.cells .own []] ++ [HB.cells .own gc] ++ [HB.cells .own []])) (.slc ((h ++ [HB.cells .own []] ++ [HB.cells .own gc]).length) 0 0 0 5 true) (.slc bo fo no ko 5 eo) = some (.slc ((h ++ [HB.cells .own []] ++ [HB.cells .own gc] ++ [HB.cells .own []]).length) 0 no no 5 false, onH (h ++ [HB.cells .own []] ++ [HB.cells .own gc] ++ [HB.cells .own []] ++ [HB.cells .own go]), rdKs [.h ((h ++ [HB.cells .own []] ++ [HB.cells .own gc]).length), .h bo])) (hapr : appendT Tryz.prog #[24, 24] (onH (h ++ [HB.cells .own []] ++ [HB.cells .own gc] ++ [HB.cells .own []] ++ [HB.cells .own go] ++ [HB.cells .own []])) (.slc ((h ++ [HB.cells .own []] ++ [HB.cells .own gc] ++ [HB.cells .own []] ++ [HB.cells .own go]).length) 0 0 0 1 true) (.slc br fr nr kr 1 er) = some (.slc ((h ++ [HB.cells .own []] ++ [HB.cells .own gc] ++ [HB.cells .own []] ++ [HB.cells .own go] ++ [HB.cells .own []]).length) 0 nr nr 1 false, onH (h ++ [HB.cells .own []] ++ [HB.cells .own gc] ++ [HB.cells .own []] ++ [HB.cells .own go] ++ [HB.cells .own []] ++ [HB.cells .own gr]), rdKs [.h ((h ++ [HB.cells .own []] ++ [HB.cells .own gc] ++ [HB.cells .own []] ++ [HB.cells .own go]).length), .h br])) : AP L n (.fn 20 [] []) [.agg [.slc bc fc nc kc 3 ec, .slc bo fo no ko 5 eo, .slc br fr nr kr 1 er]] h = some (.agg [.slc ((h ++ [HB.cells .own []]).length) 0 nc nc 3 false, .slc ((h ++ [HB.cells .own []] ++ [HB.cells .own gc] ++ [HB.cells .own []]).length) 0 no no 5 false, .slc ((h ++ [HB.cells .own []] ++ [HB.cells .own gc] ++ [HB.cells .own []] ++ [HB.cells .own go] ++ [HB.cells .own []]).length) 0 nr nr 1 false], h ++ [HB.cells .own []] ++ [HB.cells .own gc] ++ [HB.cells .own []] ++ [HB.cells .own go] ++ [HB.cells .own []] ++ [HB.cells .own gr], []) :=
  ap_t (by omega) (by kernel_rfl) (.g hapc (rfl : addKs h.length [] [] = []) <| .g hapo (rfl : addKs h.length [] [] = []) <| .g hapr (rfl : addKs h.length [] [] = []) <| .n)
end Go.Proofs.YtfhiejgoemcelaaGreat
namespace Go.Proofs.YtfhiejgoemcelaaGreat
open Go Tw
theorem s22 : sliceElem Tryz.prog 22 = some (62, 3) := by kernel_rfl
theorem i22 : (isIntT Tryz.prog 22 || (Tryz.prog.underlying 22).isNone) = false := by kernel_rfl
theorem g62 : bigRoom Tryz.prog 62 5000 = true := by kernel_rfl
theorem s23 : sliceElem Tryz.prog 23 = some (60, 5) := by kernel_rfl
theorem i23 : (isIntT Tryz.prog 23 || (Tryz.prog.underlying 23).isNone) = false := by kernel_rfl
theorem g60 : bigRoom Tryz.prog 60 5000 = true := by kernel_rfl
theorem k_copied {L n : Nat} (hn : 1 ≤ n) (hL : 30000 ≤ L) (h : List HB) (xc xo xr : TV) (c : C) (hc : SV h xc 3 K.tvs c.cs) (ho : SV h xo 5 O.tvs c.os) (hr : SV h xr 1 I.tvs c.rs) (lc : c.cs.length ≤ 5000) (lo : c.os.length ≤ 5000) (lr : c.rs.length ≤ 5000) :
    ∃ xc' xo' xr' H', AP L n (.fn 20 [] []) [.agg [xc, xo, xr]] h = some (.agg [xc', xo', xr'], H', []) ∧ Onto h H' ∧ SV H' xc' 3 K.tvs c.cs ∧ SV H' xo' 5 O.tvs c.os ∧ SV H' xr' 1 I.tvs c.rs := by
  rcases hc.three (fun _ => rfl) with ⟨rfl, ec⟩ | ⟨bc, fc, kc, xc, rfl, ec, qc, pc, rc⟩ | ⟨bc, fc, kc, xc, rfl, ec, pc⟩
  · rcases ho.three (fun _ => rfl) with ⟨rfl, eo⟩ | ⟨bo, fo, ko, xo, rfl, eo, qo, po, ro⟩ | ⟨bo, fo, ko, xo, rfl, eo, po⟩
    · rcases hr.three (fun _ => rfl) with ⟨rfl, er⟩ | ⟨br, fr, kr, xr, rfl, er, qr, pr, rr⟩ | ⟨br, fr, kr, xr, rfl, er, pr⟩
      · exact ⟨_, _, _, _, c_copiedNNN hn hL h  (copy_nil s22 i22) (copy_nil s23 i23) (copy_nil s24 i24), (Onto.app (Onto.app (Onto.app Onto.refl _) _) _), (by rw [ec]; exact (((SV.new (k := .own) (cap := 0) (ex := true) (sz := 3) (enc := K.tvs) ([] : List K) (by simp) rfl).app _).app _)), (by rw [eo]; exact ((SV.new (k := .own) (cap := 0) (ex := true) (sz := 5) (enc := O.tvs) ([] : List O) (by simp) rfl).app _)), (by rw [er]; exact (SV.new (k := .own) (cap := 0) (ex := true) (sz := 1) (enc := I.tvs) ([] : List Int) (by simp) rfl))⟩
      · exact ⟨_, _, _, _, c_copiedNNE hn hL h br fr kr xr (copy_nil s22 i22) (copy_nil s23 i23) (copy_empty s24 i24 (blkCells_app (blkCells_app (blkCells_app pr))) rr), (Onto.app (Onto.app (Onto.app Onto.refl _) _) _), (by rw [ec]; exact (((SV.new (k := .own) (cap := 0) (ex := true) (sz := 3) (enc := K.tvs) ([] : List K) (by simp) rfl).app _).app _)), (by rw [eo]; exact ((SV.new (k := .own) (cap := 0) (ex := true) (sz := 5) (enc := O.tvs) ([] : List O) (by simp) rfl).app _)), (by rw [er]; exact (SV.new (k := .own) (cap := 0) (ex := true) (sz := 1) (enc := I.tvs) ([] : List Int) (by simp) rfl))⟩
      · exact ⟨_, _, _, _, c_copiedNNS hn hL h br fr kr xr c.rs.length (c.rs.map I.tvs).flatten (copy_nil s22 i22) (copy_nil s23 i23) (copy_rows s24 i24 (fun _ => rfl) blkCells_new (srcCells_app (srcCells_app (srcCells_app pr _) _) _) er g3 lr), (Onto.app (Onto.app (Onto.app (Onto.app Onto.refl _) _) _) _), (by rw [ec]; exact ((((SV.new (k := .own) (cap := 0) (ex := true) (sz := 3) (enc := K.tvs) ([] : List K) (by simp) rfl).app _).app _).app _)), (by rw [eo]; exact (((SV.new (k := .own) (cap := 0) (ex := true) (sz := 5) (enc := O.tvs) ([] : List O) (by simp) rfl).app _).app _)), (SV.new (k := .own) (cap := c.rs.length) (ex := false) (sz := 1) (enc := I.tvs) c.rs (fun _ _ => rfl) rfl)⟩
    · rcases hr.three (fun _ => rfl) with ⟨rfl, er⟩ | ⟨br, fr, kr, xr, rfl, er, qr, pr, rr⟩ | ⟨br, fr, kr, xr, rfl, er, pr⟩
      · exact ⟨_, _, _, _, c_copiedNEN hn hL h bo fo ko xo (copy_nil s22 i22) (copy_empty s23 i23 (blkCells_app (blkCells_app po)) ro) (copy_nil s24 i24), (Onto.app (Onto.app (Onto.app Onto.refl _) _) _), (by rw [ec]; exact (((SV.new (k := .own) (cap := 0) (ex := true) (sz := 3) (enc := K.tvs) ([] : List K) (by simp) rfl).app _).app _)), (by rw [eo]; exact ((SV.new (k := .own) (cap := 0) (ex := true) (sz := 5) (enc := O.tvs) ([] : List O) (by simp) rfl).app _)), (by rw [er]; exact (SV.new (k := .own) (cap := 0) (ex := true) (sz := 1) (enc := I.tvs) ([] : List Int) (by simp) rfl))⟩
      · exact ⟨_, _, _, _, c_copiedNEE hn hL h bo fo ko xo br fr kr xr (copy_nil s22 i22) (copy_empty s23 i23 (blkCells_app (blkCells_app po)) ro) (copy_empty s24 i24 (blkCells_app (blkCells_app (blkCells_app pr))) rr), (Onto.app (Onto.app (Onto.app Onto.refl _) _) _), (by rw [ec]; exact (((SV.new (k := .own) (cap := 0) (ex := true) (sz := 3) (enc := K.tvs) ([] : List K) (by simp) rfl).app _).app _)), (by rw [eo]; exact ((SV.new (k := .own) (cap := 0) (ex := true) (sz := 5) (enc := O.tvs) ([] : List O) (by simp) rfl).app _)), (by rw [er]; exact (SV.new (k := .own) (cap := 0) (ex := true) (sz := 1) (enc := I.tvs) ([] : List Int) (by simp) rfl))⟩
      · exact ⟨_, _, _, _, c_copiedNES hn hL h bo fo ko xo br fr kr xr c.rs.length (c.rs.map I.tvs).flatten (copy_nil s22 i22) (copy_empty s23 i23 (blkCells_app (blkCells_app po)) ro) (copy_rows s24 i24 (fun _ => rfl) blkCells_new (srcCells_app (srcCells_app (srcCells_app pr _) _) _) er g3 lr), (Onto.app (Onto.app (Onto.app (Onto.app Onto.refl _) _) _) _), (by rw [ec]; exact ((((SV.new (k := .own) (cap := 0) (ex := true) (sz := 3) (enc := K.tvs) ([] : List K) (by simp) rfl).app _).app _).app _)), (by rw [eo]; exact (((SV.new (k := .own) (cap := 0) (ex := true) (sz := 5) (enc := O.tvs) ([] : List O) (by simp) rfl).app _).app _)), (SV.new (k := .own) (cap := c.rs.length) (ex := false) (sz := 1) (enc := I.tvs) c.rs (fun _ _ => rfl) rfl)⟩
    · rcases hr.three (fun _ => rfl) with ⟨rfl, er⟩ | ⟨br, fr, kr, xr, rfl, er, qr, pr, rr⟩ | ⟨br, fr, kr, xr, rfl, er, pr⟩
      · exact ⟨_, _, _, _, c_copiedNSN hn hL h bo fo ko xo c.os.length (c.os.map O.tvs).flatten (copy_nil s22 i22) (copy_rows s23 i23 (fun _ => rfl) blkCells_new (srcCells_app (srcCells_app po _) _) eo g60 lo) (copy_nil s24 i24), (Onto.app (Onto.app (Onto.app (Onto.app Onto.refl _) _) _) _), (by rw [ec]; exact ((((SV.new (k := .own) (cap := 0) (ex := true) (sz := 3) (enc := K.tvs) ([] : List K) (by simp) rfl).app _).app _).app _)), ((SV.new (k := .own) (cap := c.os.length) (ex := false) (sz := 5) (enc := O.tvs) c.os (fun _ _ => rfl) rfl).app _), (by rw [er]; exact (SV.new (k := .own) (cap := 0) (ex := true) (sz := 1) (enc := I.tvs) ([] : List Int) (by simp) rfl))⟩
      · exact ⟨_, _, _, _, c_copiedNSE hn hL h bo fo ko xo c.os.length (c.os.map O.tvs).flatten br fr kr xr (copy_nil s22 i22) (copy_rows s23 i23 (fun _ => rfl) blkCells_new (srcCells_app (srcCells_app po _) _) eo g60 lo) (copy_empty s24 i24 (blkCells_app (blkCells_app (blkCells_app (blkCells_app pr)))) rr), (Onto.app (Onto.app (Onto.app (Onto.app Onto.refl _) _) _) _), (by rw [ec]; exact ((((SV.new (k := .own) (cap := 0) (ex := true) (sz := 3) (enc := K.tvs) ([] : List K) (by simp) rfl).app _).app _).app _)), ((SV.new (k := .own) (cap := c.os.length) (ex := false) (sz := 5) (enc := O.tvs) c.os (fun _ _ => rfl) rfl).app _), (by rw [er]; exact (SV.new (k := .own) (cap := 0) (ex := true) (sz := 1) (enc := I.tvs) ([] : List Int) (by simp) rfl))⟩
      · exact ⟨_, _, _, _, c_copiedNSS hn hL h bo fo ko xo c.os.length (c.os.map O.tvs).flatten br fr kr xr c.rs.length (c.rs.map I.tvs).flatten (copy_nil s22 i22) (copy_rows s23 i23 (fun _ => rfl) blkCells_new (srcCells_app (srcCells_app po _) _) eo g60 lo) (copy_rows s24 i24 (fun _ => rfl) blkCells_new (srcCells_app (srcCells_app (srcCells_app (srcCells_app pr _) _) _) _) er g3 lr), (Onto.app (Onto.app (Onto.app (Onto.app (Onto.app Onto.refl _) _) _) _) _), (by rw [ec]; exact (((((SV.new (k := .own) (cap := 0) (ex := true) (sz := 3) (enc := K.tvs) ([] : List K) (by simp) rfl).app _).app _).app _).app _)), (((SV.new (k := .own) (cap := c.os.length) (ex := false) (sz := 5) (enc := O.tvs) c.os (fun _ _ => rfl) rfl).app _).app _), (SV.new (k := .own) (cap := c.rs.length) (ex := false) (sz := 1) (enc := I.tvs) c.rs (fun _ _ => rfl) rfl)⟩
  · rcases ho.three (fun _ => rfl) with ⟨rfl, eo⟩ | ⟨bo, fo, ko, xo, rfl, eo, qo, po, ro⟩ | ⟨bo, fo, ko, xo, rfl, eo, po⟩
    · rcases hr.three (fun _ => rfl) with ⟨rfl, er⟩ | ⟨br, fr, kr, xr, rfl, er, qr, pr, rr⟩ | ⟨br, fr, kr, xr, rfl, er, pr⟩
      · exact ⟨_, _, _, _, c_copiedENN hn hL h bc fc kc xc (copy_empty s22 i22 (blkCells_app pc) rc) (copy_nil s23 i23) (copy_nil s24 i24), (Onto.app (Onto.app (Onto.app Onto.refl _) _) _), (by rw [ec]; exact (((SV.new (k := .own) (cap := 0) (ex := true) (sz := 3) (enc := K.tvs) ([] : List K) (by simp) rfl).app _).app _)), (by rw [eo]; exact ((SV.new (k := .own) (cap := 0) (ex := true) (sz := 5) (enc := O.tvs) ([] : List O) (by simp) rfl).app _)), (by rw [er]; exact (SV.new (k := .own) (cap := 0) (ex := true) (sz := 1) (enc := I.tvs) ([] : List Int) (by simp) rfl))⟩
      · exact ⟨_, _, _, _, c_copiedENE hn hL h bc fc kc xc br fr kr xr (copy_empty s22 i22 (blkCells_app pc) rc) (copy_nil s23 i23) (copy_empty s24 i24 (blkCells_app (blkCells_app (blkCells_app pr))) rr), (Onto.app (Onto.app (Onto.app Onto.refl _) _) _), (by rw [ec]; exact (((SV.new (k := .own) (cap := 0) (ex := true) (sz := 3) (enc := K.tvs) ([] : List K) (by simp) rfl).app _).app _)), (by rw [eo]; exact ((SV.new (k := .own) (cap := 0) (ex := true) (sz := 5) (enc := O.tvs) ([] : List O) (by simp) rfl).app _)), (by rw [er]; exact (SV.new (k := .own) (cap := 0) (ex := true) (sz := 1) (enc := I.tvs) ([] : List Int) (by simp) rfl))⟩
      · exact ⟨_, _, _, _, c_copiedENS hn hL h bc fc kc xc br fr kr xr c.rs.length (c.rs.map I.tvs).flatten (copy_empty s22 i22 (blkCells_app pc) rc) (copy_nil s23 i23) (copy_rows s24 i24 (fun _ => rfl) blkCells_new (srcCells_app (srcCells_app (srcCells_app pr _) _) _) er g3 lr), (Onto.app (Onto.app (Onto.app (Onto.app Onto.refl _) _) _) _), (by rw [ec]; exact ((((SV.new (k := .own) (cap := 0) (ex := true) (sz := 3) (enc := K.tvs) ([] : List K) (by simp) rfl).app _).app _).app _)), (by rw [eo]; exact (((SV.new (k := .own) (cap := 0) (ex := true) (sz := 5) (enc := O.tvs) ([] : List O) (by simp) rfl).app _).app _)), (SV.new (k := .own) (cap := c.rs.length) (ex := false) (sz := 1) (enc := I.tvs) c.rs (fun _ _ => rfl) rfl)⟩
    · rcases hr.three (fun _ => rfl) with ⟨rfl, er⟩ | ⟨br, fr, kr, xr, rfl, er, qr, pr, rr⟩ | ⟨br, fr, kr, xr, rfl, er, pr⟩
      · exact ⟨_, _, _, _, c_copiedEEN hn hL h bc fc kc xc bo fo ko xo (copy_empty s22 i22 (blkCells_app pc) rc) (copy_empty s23 i23 (blkCells_app (blkCells_app po)) ro) (copy_nil s24 i24), (Onto.app (Onto.app (Onto.app Onto.refl _) _) _), (by rw [ec]; exact (((SV.new (k := .own) (cap := 0) (ex := true) (sz := 3) (enc := K.tvs) ([] : List K) (by simp) rfl).app _).app _)), (by rw [eo]; exact ((SV.new (k := .own) (cap := 0) (ex := true) (sz := 5) (enc := O.tvs) ([] : List O) (by simp) rfl).app _)), (by rw [er]; exact (SV.new (k := .own) (cap := 0) (ex := true) (sz := 1) (enc := I.tvs) ([] : List Int) (by simp) rfl))⟩
      · exact ⟨_, _, _, _, c_copiedEEE hn hL h bc fc kc xc bo fo ko xo br fr kr xr (copy_empty s22 i22 (blkCells_app pc) rc) (copy_empty s23 i23 (blkCells_app (blkCells_app po)) ro) (copy_empty s24 i24 (blkCells_app (blkCells_app (blkCells_app pr))) rr), (Onto.app (Onto.app (Onto.app Onto.refl _) _) _), (by rw [ec]; exact (((SV.new (k := .own) (cap := 0) (ex := true) (sz := 3) (enc := K.tvs) ([] : List K) (by simp) rfl).app _).app _)), (by rw [eo]; exact ((SV.new (k := .own) (cap := 0) (ex := true) (sz := 5) (enc := O.tvs) ([] : List O) (by simp) rfl).app _)), (by rw [er]; exact (SV.new (k := .own) (cap := 0) (ex := true) (sz := 1) (enc := I.tvs) ([] : List Int) (by simp) rfl))⟩
      · exact ⟨_, _, _, _, c_copiedEES hn hL h bc fc kc xc bo fo ko xo br fr kr xr c.rs.length (c.rs.map I.tvs).flatten (copy_empty s22 i22 (blkCells_app pc) rc) (copy_empty s23 i23 (blkCells_app (blkCells_app po)) ro) (copy_rows s24 i24 (fun _ => rfl) blkCells_new (srcCells_app (srcCells_app (srcCells_app pr _) _) _) er g3 lr), (Onto.app (Onto.app (Onto.app (Onto.app Onto.refl _) _) _) _), (by rw [ec]; exact ((((SV.new (k := .own) (cap := 0) (ex := true) (sz := 3) (enc := K.tvs) ([] : List K) (by simp) rfl).app _).app _).app _)), (by rw [eo]; exact (((SV.new (k := .own) (cap := 0) (ex := true) (sz := 5) (enc := O.tvs) ([] : List O) (by simp) rfl).app _).app _)), (SV.new (k := .own) (cap := c.rs.length) (ex := false) (sz := 1) (enc := I.tvs) c.rs (fun _ _ => rfl) rfl)⟩
    · rcases hr.three (fun _ => rfl) with ⟨rfl, er⟩ | ⟨br, fr, kr, xr, rfl, er, qr, pr, rr⟩ | ⟨br, fr, kr, xr, rfl, er, pr⟩
      · exact ⟨_, _, _, _, c_copiedESN hn hL h bc fc kc xc bo fo ko xo c.os.length (c.os.map O.tvs).flatten (copy_empty s22 i22 (blkCells_app pc) rc) (copy_rows s23 i23 (fun _ => rfl) blkCells_new (srcCells_app (srcCells_app po _) _) eo g60 lo) (copy_nil s24 i24), (Onto.app (Onto.app (Onto.app (Onto.app Onto.refl _) _) _) _), (by rw [ec]; exact ((((SV.new (k := .own) (cap := 0) (ex := true) (sz := 3) (enc := K.tvs) ([] : List K) (by simp) rfl).app _).app _).app _)), ((SV.new (k := .own) (cap := c.os.length) (ex := false) (sz := 5) (enc := O.tvs) c.os (fun _ _ => rfl) rfl).app _), (by rw [er]; exact (SV.new (k := .own) (cap := 0) (ex := true) (sz := 1) (enc := I.tvs) ([] : List Int) (by simp) rfl))⟩
      · exact ⟨_, _, _, _, c_copiedESE hn hL h bc fc kc xc bo fo ko xo c.os.length (c.os.map O.tvs).flatten br fr kr xr (copy_empty s22 i22 (blkCells_app pc) rc) (copy_rows s23 i23 (fun _ => rfl) blkCells_new (srcCells_app (srcCells_app po _) _) eo g60 lo) (copy_empty s24 i24 (blkCells_app (blkCells_app (blkCells_app (blkCells_app pr)))) rr), (Onto.app (Onto.app (Onto.app (Onto.app Onto.refl _) _) _) _), (by rw [ec]; exact ((((SV.new (k := .own) (cap := 0) (ex := true) (sz := 3) (enc := K.tvs) ([] : List K) (by simp) rfl).app _).app _).app _)), ((SV.new (k := .own) (cap := c.os.length) (ex := false) (sz := 5) (enc := O.tvs) c.os (fun _ _ => rfl) rfl).app _), (by rw [er]; exact (SV.new (k := .own) (cap := 0) (ex := true) (sz := 1) (enc := I.tvs) ([] : List Int) (by simp) rfl))⟩
      · exact ⟨_, _, _, _, c_copiedESS hn hL h bc fc kc xc bo fo ko xo c.os.length (c.os.map O.tvs).flatten br fr kr xr c.rs.length (c.rs.map I.tvs).flatten (copy_empty s22 i22 (blkCells_app pc) rc) (copy_rows s23 i23 (fun _ => rfl) blkCells_new (srcCells_app (srcCells_app po _) _) eo g60 lo) (copy_rows s24 i24 (fun _ => rfl) blkCells_new (srcCells_app (srcCells_app (srcCells_app (srcCells_app pr _) _) _) _) er g3 lr), (Onto.app (Onto.app (Onto.app (Onto.app (Onto.app Onto.refl _) _) _) _) _), (by rw [ec]; exact (((((SV.new (k := .own) (cap := 0) (ex := true) (sz := 3) (enc := K.tvs) ([] : List K) (by simp) rfl).app _).app _).app _).app _)), (((SV.new (k := .own) (cap := c.os.length) (ex := false) (sz := 5) (enc := O.tvs) c.os (fun _ _ => rfl) rfl).app _).app _), (SV.new (k := .own) (cap := c.rs.length) (ex := false) (sz := 1) (enc := I.tvs) c.rs (fun _ _ => rfl) rfl)⟩
  · rcases ho.three (fun _ => rfl) with ⟨rfl, eo⟩ | ⟨bo, fo, ko, xo, rfl, eo, qo, po, ro⟩ | ⟨bo, fo, ko, xo, rfl, eo, po⟩
    · rcases hr.three (fun _ => rfl) with ⟨rfl, er⟩ | ⟨br, fr, kr, xr, rfl, er, qr, pr, rr⟩ | ⟨br, fr, kr, xr, rfl, er, pr⟩
      · exact ⟨_, _, _, _, c_copiedSNN hn hL h bc fc kc xc c.cs.length (c.cs.map K.tvs).flatten (copy_rows s22 i22 (fun _ => rfl) blkCells_new (srcCells_app pc _) ec g62 lc) (copy_nil s23 i23) (copy_nil s24 i24), (Onto.app (Onto.app (Onto.app (Onto.app Onto.refl _) _) _) _), (((SV.new (k := .own) (cap := c.cs.length) (ex := false) (sz := 3) (enc := K.tvs) c.cs (fun _ _ => rfl) rfl).app _).app _), (by rw [eo]; exact ((SV.new (k := .own) (cap := 0) (ex := true) (sz := 5) (enc := O.tvs) ([] : List O) (by simp) rfl).app _)), (by rw [er]; exact (SV.new (k := .own) (cap := 0) (ex := true) (sz := 1) (enc := I.tvs) ([] : List Int) (by simp) rfl))⟩
      · exact ⟨_, _, _, _, c_copiedSNE hn hL h bc fc kc xc c.cs.length (c.cs.map K.tvs).flatten br fr kr xr (copy_rows s22 i22 (fun _ => rfl) blkCells_new (srcCells_app pc _) ec g62 lc) (copy_nil s23 i23) (copy_empty s24 i24 (blkCells_app (blkCells_app (blkCells_app (blkCells_app pr)))) rr), (Onto.app (Onto.app (Onto.app (Onto.app Onto.refl _) _) _) _), (((SV.new (k := .own) (cap := c.cs.length) (ex := false) (sz := 3) (enc := K.tvs) c.cs (fun _ _ => rfl) rfl).app _).app _), (by rw [eo]; exact ((SV.new (k := .own) (cap := 0) (ex := true) (sz := 5) (enc := O.tvs) ([] : List O) (by simp) rfl).app _)), (by rw [er]; exact (SV.new (k := .own) (cap := 0) (ex := true) (sz := 1) (enc := I.tvs) ([] : List Int) (by simp) rfl))⟩
      · exact ⟨_, _, _, _, c_copiedSNS hn hL h bc fc kc xc c.cs.length (c.cs.map K.tvs).flatten br fr kr xr c.rs.length (c.rs.map I.tvs).flatten (copy_rows s22 i22 (fun _ => rfl) blkCells_new (srcCells_app pc _) ec g62 lc) (copy_nil s23 i23) (copy_rows s24 i24 (fun _ => rfl) blkCells_new (srcCells_app (srcCells_app (srcCells_app (srcCells_app pr _) _) _) _) er g3 lr), (Onto.app (Onto.app (Onto.app (Onto.app (Onto.app Onto.refl _) _) _) _) _), ((((SV.new (k := .own) (cap := c.cs.length) (ex := false) (sz := 3) (enc := K.tvs) c.cs (fun _ _ => rfl) rfl).app _).app _).app _), (by rw [eo]; exact (((SV.new (k := .own) (cap := 0) (ex := true) (sz := 5) (enc := O.tvs) ([] : List O) (by simp) rfl).app _).app _)), (SV.new (k := .own) (cap := c.rs.length) (ex := false) (sz := 1) (enc := I.tvs) c.rs (fun _ _ => rfl) rfl)⟩
    · rcases hr.three (fun _ => rfl) with ⟨rfl, er⟩ | ⟨br, fr, kr, xr, rfl, er, qr, pr, rr⟩ | ⟨br, fr, kr, xr, rfl, er, pr⟩
      · exact ⟨_, _, _, _, c_copiedSEN hn hL h bc fc kc xc c.cs.length (c.cs.map K.tvs).flatten bo fo ko xo (copy_rows s22 i22 (fun _ => rfl) blkCells_new (srcCells_app pc _) ec g62 lc) (copy_empty s23 i23 (blkCells_app (blkCells_app (blkCells_app po))) ro) (copy_nil s24 i24), (Onto.app (Onto.app (Onto.app (Onto.app Onto.refl _) _) _) _), (((SV.new (k := .own) (cap := c.cs.length) (ex := false) (sz := 3) (enc := K.tvs) c.cs (fun _ _ => rfl) rfl).app _).app _), (by rw [eo]; exact ((SV.new (k := .own) (cap := 0) (ex := true) (sz := 5) (enc := O.tvs) ([] : List O) (by simp) rfl).app _)), (by rw [er]; exact (SV.new (k := .own) (cap := 0) (ex := true) (sz := 1) (enc := I.tvs) ([] : List Int) (by simp) rfl))⟩
      · exact ⟨_, _, _, _, c_copiedSEE hn hL h bc fc kc xc c.cs.length (c.cs.map K.tvs).flatten bo fo ko xo br fr kr xr (copy_rows s22 i22 (fun _ => rfl) blkCells_new (srcCells_app pc _) ec g62 lc) (copy_empty s23 i23 (blkCells_app (blkCells_app (blkCells_app po))) ro) (copy_empty s24 i24 (blkCells_app (blkCells_app (blkCells_app (blkCells_app pr)))) rr), (Onto.app (Onto.app (Onto.app (Onto.app Onto.refl _) _) _) _), (((SV.new (k := .own) (cap := c.cs.length) (ex := false) (sz := 3) (enc := K.tvs) c.cs (fun _ _ => rfl) rfl).app _).app _), (by rw [eo]; exact ((SV.new (k := .own) (cap := 0) (ex := true) (sz := 5) (enc := O.tvs) ([] : List O) (by simp) rfl).app _)), (by rw [er]; exact (SV.new (k := .own) (cap := 0) (ex := true) (sz := 1) (enc := I.tvs) ([] : List Int) (by simp) rfl))⟩
      · exact ⟨_, _, _, _, c_copiedSES hn hL h bc fc kc xc c.cs.length (c.cs.map K.tvs).flatten bo fo ko xo br fr kr xr c.rs.length (c.rs.map I.tvs).flatten (copy_rows s22 i22 (fun _ => rfl) blkCells_new (srcCells_app pc _) ec g62 lc) (copy_empty s23 i23 (blkCells_app (blkCells_app (blkCells_app po))) ro) (copy_rows s24 i24 (fun _ => rfl) blkCells_new (srcCells_app (srcCells_app (srcCells_app (srcCells_app pr _) _) _) _) er g3 lr), (Onto.app (Onto.app (Onto.app (Onto.app (Onto.app Onto.refl _) _) _) _) _), ((((SV.new (k := .own) (cap := c.cs.length) (ex := false) (sz := 3) (enc := K.tvs) c.cs (fun _ _ => rfl) rfl).app _).app _).app _), (by rw [eo]; exact (((SV.new (k := .own) (cap := 0) (ex := true) (sz := 5) (enc := O.tvs) ([] : List O) (by simp) rfl).app _).app _)), (SV.new (k := .own) (cap := c.rs.length) (ex := false) (sz := 1) (enc := I.tvs) c.rs (fun _ _ => rfl) rfl)⟩
    · rcases hr.three (fun _ => rfl) with ⟨rfl, er⟩ | ⟨br, fr, kr, xr, rfl, er, qr, pr, rr⟩ | ⟨br, fr, kr, xr, rfl, er, pr⟩
      · exact ⟨_, _, _, _, c_copiedSSN hn hL h bc fc kc xc c.cs.length (c.cs.map K.tvs).flatten bo fo ko xo c.os.length (c.os.map O.tvs).flatten (copy_rows s22 i22 (fun _ => rfl) blkCells_new (srcCells_app pc _) ec g62 lc) (copy_rows s23 i23 (fun _ => rfl) blkCells_new (srcCells_app (srcCells_app (srcCells_app po _) _) _) eo g60 lo) (copy_nil s24 i24), (Onto.app (Onto.app (Onto.app (Onto.app (Onto.app Onto.refl _) _) _) _) _), ((((SV.new (k := .own) (cap := c.cs.length) (ex := false) (sz := 3) (enc := K.tvs) c.cs (fun _ _ => rfl) rfl).app _).app _).app _), ((SV.new (k := .own) (cap := c.os.length) (ex := false) (sz := 5) (enc := O.tvs) c.os (fun _ _ => rfl) rfl).app _), (by rw [er]; exact (SV.new (k := .own) (cap := 0) (ex := true) (sz := 1) (enc := I.tvs) ([] : List Int) (by simp) rfl))⟩
      · exact ⟨_, _, _, _, c_copiedSSE hn hL h bc fc kc xc c.cs.length (c.cs.map K.tvs).flatten bo fo ko xo c.os.length (c.os.map O.tvs).flatten br fr kr xr (copy_rows s22 i22 (fun _ => rfl) blkCells_new (srcCells_app pc _) ec g62 lc) (copy_rows s23 i23 (fun _ => rfl) blkCells_new (srcCells_app (srcCells_app (srcCells_app po _) _) _) eo g60 lo) (copy_empty s24 i24 (blkCells_app (blkCells_app (blkCells_app (blkCells_app (blkCells_app pr))))) rr), (Onto.app (Onto.app (Onto.app (Onto.app (Onto.app Onto.refl _) _) _) _) _), ((((SV.new (k := .own) (cap := c.cs.length) (ex := false) (sz := 3) (enc := K.tvs) c.cs (fun _ _ => rfl) rfl).app _).app _).app _), ((SV.new (k := .own) (cap := c.os.length) (ex := false) (sz := 5) (enc := O.tvs) c.os (fun _ _ => rfl) rfl).app _), (by rw [er]; exact (SV.new (k := .own) (cap := 0) (ex := true) (sz := 1) (enc := I.tvs) ([] : List Int) (by simp) rfl))⟩
      · exact ⟨_, _, _, _, c_copiedSSS hn hL h bc fc kc xc c.cs.length (c.cs.map K.tvs).flatten bo fo ko xo c.os.length (c.os.map O.tvs).flatten br fr kr xr c.rs.length (c.rs.map I.tvs).flatten (copy_rows s22 i22 (fun _ => rfl) blkCells_new (srcCells_app pc _) ec g62 lc) (copy_rows s23 i23 (fun _ => rfl) blkCells_new (srcCells_app (srcCells_app (srcCells_app po _) _) _) eo g60 lo) (copy_rows s24 i24 (fun _ => rfl) blkCells_new (srcCells_app (srcCells_app (srcCells_app (srcCells_app (srcCells_app pr _) _) _) _) _) er g3 lr), (Onto.app (Onto.app (Onto.app (Onto.app (Onto.app (Onto.app Onto.refl _) _) _) _) _) _), (((((SV.new (k := .own) (cap := c.cs.length) (ex := false) (sz := 3) (enc := K.tvs) c.cs (fun _ _ => rfl) rfl).app _).app _).app _).app _), (((SV.new (k := .own) (cap := c.os.length) (ex := false) (sz := 5) (enc := O.tvs) c.os (fun _ _ => rfl) rfl).app _).app _), (SV.new (k := .own) (cap := c.rs.length) (ex := false) (sz := 1) (enc := I.tvs) c.rs (fun _ _ => rfl) rfl)⟩
end Go.Proofs.YtfhiejgoemcelaaGreat
namespace Tw
open Go
section
variable {P : Program} {T : Tab} {L : Nat}
theorem exec_range {call : CallT} {f fl nt : Nat} {g : Operand} {ps : Array Nat} {assign body : Code} {s : St} {f1 : FuncId} {a1 b1 : List TV} {v : TV} {h : List HB} {ws : List Nat} {env2 : List (Nat × EV)}
    (hg : tvO s.env g = some (.fn f1 a1 b1)) (hv : s.env.all isVal = true)
    (hc : call (.fn f1 a1 b1) [.yld (s.heap.length + 1)] (s.heap ++ [.mark, .loop true f nt s.env ps.toList assign body none]) = some (v, h, ws))
    (hl : h[s.heap.length + 1]? = some (.loop true f nt env2 ps.toList assign body none)) :
    exec P T call L f false fl nt (.rangeFunc g ps assign body) s = some (.norm, { s with heap := h.set (s.heap.length + 1) (.loop false f nt env2 ps.toList assign body (some .skip)), ws := addKs fl (ws.map .h) s.ws }) := by
  simp only [exec, hg, hv, hc, hl, jumpT, Bool.not_false, Bool.and_true, if_true]
end
end Tw
namespace Tw
open Go
def rangeIn : Code → Option (Code × Code)
  | .seq a b => match rangeIn a with
    | some r => some r
    | none => rangeIn b
  | .cond _ a b => match rangeIn a with
    | some r => some r
    | none => rangeIn b
  | .block _ b => rangeIn b
  | .rangeFunc _ _ a b => some (a, b)
  | _ => none
def rfAssign (P : Program) (f : Nat) : Code :=
  match fnT P f with
  | some t => match rangeIn t.body with
    | some (a, _) => a
    | none => .skip
  | none => .skip
def rfBody (P : Program) (f : Nat) : Code :=
  match fnT P f with
  | some t => match rangeIn t.body with
    | some (_, b) => b
    | none => .skip
  | none => .skip
section
variable (P : Program) (T : Tab) (call : CallT) (L f k : Nat) (fl : Nat)
def roundsT (m : Nat) (s : St) : Option (Ex × St) :=
  iter (fun s => exec P T call L f true fl (ntOf P f) (bodyAt P f k) (headOf P T f k s)) m s
end
section
variable {P : Program} {T : Tab} {call : CallT} {L f k : Nat} {fl : Nat}
theorem roundT_on {m : Nat} {s s1 : St} {an : List Ans} {p : List Prop} {r : Option (Ex × St)} (h : execO P T call L f true fl (ntOf P f) (bodyAt P f k) (headOf P T f k s) an = some (.norm, s1, [], p)) (hp : Fs call fl an p)
    (hr : roundsT P T call L f k fl m s1 = r) : roundsT P T call L f k fl (m + 1) s = r := by
  rw [← hr]
  unfold roundsT
  conv => lhs; unfold iter
  rw [execO_ok h hp.all]
theorem roundT_out {m : Nat} {s s1 : St} {e : Ex} {an : List Ans} {p : List Prop} (h : execO P T call L f true fl (ntOf P f) (bodyAt P f k) (headOf P T f k s) an = some (e, s1, [], p)) (hp : Fs call fl an p) (he : isNorm e = false) :
    roundsT P T call L f k fl (m + 1) s = some (e, s1) := by
  unfold roundsT
  conv => lhs; unfold iter
  rw [execO_ok h hp.all]
  cases e with
  | norm => cases he
  | _ => rfl
theorem roundsT_congr {m : Nat} {s s' : St} (h : headOf P T f k s = headOf P T f k s') : roundsT P T call L f k fl m s = roundsT P T call L f k fl m s' := by
  cases m with
  | zero => rfl
  | succ m =>
    unfold roundsT
    unfold iter
    simp only [h]
end
end Tw
namespace Tw
open Go
theorem exec_of {P : Program} {T : Tab} {call : CallT} {L f : Nat} {rnd : Bool} {fl nt : Nat} {c : Code} {s s' : St} {an : List Ans} {e : Ex} {p : List Prop} (h : execO P T call L f rnd fl nt c s an = some (e, s', [], p)) (hp : Fs call fl an p) :
    exec P T call L f rnd fl nt c s = some (e, s') := execO_ok h hp.all
theorem ap_yld {P : Program} {T : Tab} {L : Nat} {n l f nt : Nat} {env : List (Nat × EV)} {ps : List Nat} {assign body : Code} {pend pend1 : Option Code} {args : List TV} {h : List HB} {s1 s2 : St} {e : Ex} (hn : 0 < n)
    (hl : h[l]? = some (.loop true f nt env ps assign body pend)) (ha : args.length = ps.length ∧ ps.all (fun p => decide (p < nt)) = true)
    (e1 : exec P T (ap P T L (n - 1)) L f true h.length nt assign ⟨putAll env ps args, [], h, []⟩ = some (.norm, s1))
    (hl1 : s1.heap[l]? = some (.loop true f nt env ps assign body pend1))
    (e2 : exec P T (ap P T L (n - 1)) L f true h.length nt body { s1 with heap := s1.heap.set l (.loop false f nt env ps assign body none), ws := addW h.length l s1.ws } = some (e, s2))
    (hl2 : s2.heap[l]? = some (.loop false f nt env ps assign body none)) :
    ap P T L n (.yld l) args h = some (.bool (isNorm e), s2.heap.set l (.loop (isNorm e) f nt env ps assign body (jumpOf e)), addW h.length l s2.ws) := by
  obtain ⟨m, rfl⟩ : ∃ m, n = m + 1 := ⟨n - 1, by omega⟩
  simp only [ap, roundT, hl]
  rw [if_pos ha]
  simp only [Nat.add_sub_cancel] at e1 e2
  rw [e1]
  simp only [hl1]
  rw [e2]
  simp only [hl2]
end Tw
namespace Tw
open Go
def findRg (id : Nat) : Code → Option (List Oper)
  | .region i ops _ => if i = id then some ops.toList else none
  | .seq a b => (findRg id a).or (findRg id b)
  | .cond _ a b => (findRg id a).or (findRg id b)
  | .block _ b => findRg id b
  | .loop b => findRg id b
  | .rangeFunc _ _ a b => (findRg id a).or (findRg id b)
  | _ => none
def regOps (P : Program) (f id : Nat) : List Oper :=
  match fnT P f with
  | some t => (findRg id t.body).getD []
  | none => []
end Tw
namespace Tw
open Go
def rangeOf : Code → Option Code
  | .seq a b => match rangeOf a with
    | some r => some r
    | none => rangeOf b
  | .cond _ a b => match rangeOf a with
    | some r => some r
    | none => rangeOf b
  | .block _ b => rangeOf b
  | .rangeFunc g ps a b => some (.rangeFunc g ps a b)
  | _ => none
def rfCode (P : Program) (f : Nat) : Code :=
  match fnT P f with
  | some t => (rangeOf t.body).getD .skip
  | none => .skip
end Tw
namespace Go.Proofs.YtfhiejgoemcelaaGreat
open Go Tw
abbrev W_tcells (b8 : Nat) (bo : Nat) (ko : Nat) (eo : Bool) (xv : TV) (len : Nat) (i : Int) (h : List HB) (ws : List Nat) : St := ⟨[(8, .val (.ptr b8 0 1)), (58, .val (xv)), (59, .val (.int .i64 ((len : Nat) : Int))), (60, .val (.int .i64 (i)))], [], h, ws⟩
theorem r_tcells_0 {L n m fl : Nat} (hn : 3 ≤ n) (hL : 30000 ≤ L) (b8 : Nat) (bo : Nat) (ko : Nat) (eo : Bool) (xv : TV) (len : Nat) (i : Int) (h : List HB) (ws : List Nat) (x : V) (b_x : Nat) (o_x : Nat) (j : Nat) (ob : B) (h' : List HB) (ws1 : List Nat) (hb8 : rdAt false 1 h b8 0 1 = some (.slc bo 0 ko ko 3 eo)) (hfl : fl ≤ h.length)  (h0 : (decide ((i) < ((len : Nat) : Int))) = true) (h1 : (decide ((x.f) > 0)) = true) (hi_x : indexAddrT Tryz.prog 65 (.val xv) (.int .i64 (i)) = some (.val (.ptr b_x o_x (o_x + 2)))) (hj : idx ko (.int .i64 (i)) = some j) (hob : rdAt true 3 h bo (0 + j * 3) (0 + j * 3 + 3) = some (B.tv ob)) (hset : setH (h ++ [HB.cells .own [.int .u8 (x.f), .int .i64 (x.n)]] ++ [HB.cells .own [.int .i64 ((S_with ((⟨1, 0, 0⟩ : B)) [S_bit x.f]).lo), .int .i64 ((S_with ((⟨1, 0, 0⟩ : B)) [S_bit x.f]).hi), .int .u8 ((S_with ((⟨1, 0, 0⟩ : B)) [S_bit x.f]).f)]] ++ [HB.cells .own [.int .u8 (S_bit x.f)]]) bo (0 + j * 3) [.int .i64 ((S_hull ob (S_with ((⟨1, 0, 0⟩ : B)) [S_bit x.f]) true).lo), .int .i64 ((S_hull ob (S_with ((⟨1, 0, 0⟩ : B)) [S_bit x.f]) true).hi), .int .u8 ((S_hull ob (S_with ((⟨1, 0, 0⟩ : B)) [S_bit x.f]) true).f)] = some h') (hws : addW fl bo ws = ws1) (hr_x : Rw h b_x o_x (V.tvs x)) : roundsT Tryz.prog T (AP L (n - 1)) L 29 1 fl (m + 1) (W_tcells b8 bo ko eo xv len i h ws) = roundsT Tryz.prog T (AP L (n - 1)) L 29 1 fl m (W_tcells b8 bo ko eo xv len (IntKind.i64.wrap ((i) + 1)) h' ws1) :=
  roundT_on (s1 := ⟨[(8, .val (.ptr b8 0 1)), (58, .val (xv)), (59, .val (.int .i64 ((len : Nat) : Int))), (60, .val (.int .i64 (IntKind.i64.wrap ((i) + 1))))], [], h', ws1⟩) (by kernel_rfl) (.b h0 <| .p hi_x <| .l (hr_x.agg rfl (Nat.le_refl _) : rdAt true 2 h b_x o_x (o_x + 2) = some (V.tv x)) <| .a (.st (h ++ [HB.cells .own [.int .u8 (x.f), .int .i64 (x.n)]]) ws) <| .o (by simp [setH, over] : setH (h ++ [HB.cells .own [.int .u8 0, .int .i64 0]]) h.length 0 [.int .u8 (x.f), .int .i64 (x.n)] = some (h ++ [HB.cells .own [.int .u8 (x.f), .int .i64 (x.n)]])) <| .o (by omega : 0 + 2 ≤ 2) <| .o (by unfold addW; rw [if_neg (by first | omega | (simp only [List.length_append, List.length_cons, List.length_nil]; omega))] : addW fl h.length ws = ws) <| .f (by omega : 0 + 1 ≤ 2) <| .l (by simp [rdAt, blkCells, sub] : rdAt false 1 (h ++ [HB.cells .own [.int .u8 (x.f), .int .i64 (x.n)]]) h.length 1 2 = some (.int .i64 (x.n))) <| .f (by omega : 0 + 1 ≤ 2) <| .l (by simp [rdAt, blkCells, sub] : rdAt false 1 (h ++ [HB.cells .own [.int .u8 (x.f), .int .i64 (x.n)]]) h.length 1 2 = some (.int .i64 (x.n))) <| .a (.call (.agg [.int .i64 (x.n), .int .i64 (x.n), .int .u8 0]) (h ++ [HB.cells .own [.int .u8 (x.f), .int .i64 (x.n)]]) [] ws) <| .o (c_from (by omega) hL (h ++ [HB.cells .own [.int .u8 (x.f), .int .i64 (x.n)]]) x.n x.n : AP L (n - 1) (.fn 70 [] []) [.int .i64 (x.n), .int .i64 (x.n)] (h ++ [HB.cells .own [.int .u8 (x.f), .int .i64 (x.n)]]) = some (.agg [.int .i64 (x.n), .int .i64 (x.n), .int .u8 0], h ++ [HB.cells .own [.int .u8 (x.f), .int .i64 (x.n)]], [])) <| .o (rfl : addKs fl [] ws = ws) <| .a (.st (h ++ [HB.cells .own [.int .u8 (x.f), .int .i64 (x.n)]] ++ [HB.cells .own [.int .i64 (x.n), .int .i64 (x.n), .int .u8 0]]) ws) <| .o (by simp [setH, over] : setH (h ++ [HB.cells .own [.int .u8 (x.f), .int .i64 (x.n)]] ++ [HB.cells .own [.int .i64 0, .int .i64 0, .int .u8 0]]) ((h ++ [HB.cells .own [.int .u8 (x.f), .int .i64 (x.n)]]).length) 0 [.int .i64 (x.n), .int .i64 (x.n), .int .u8 0] = some (h ++ [HB.cells .own [.int .u8 (x.f), .int .i64 (x.n)]] ++ [HB.cells .own [.int .i64 (x.n), .int .i64 (x.n), .int .u8 0]])) <| .o (by omega : 0 + 3 ≤ 3) <| .o (by unfold addW; rw [if_neg (by first | omega | (simp only [List.length_append, List.length_cons, List.length_nil]; omega))] : addW fl ((h ++ [HB.cells .own [.int .u8 (x.f), .int .i64 (x.n)]]).length) ws = ws) <| .f (by omega : 0 + 0 ≤ 2) <| .l (by simp [rdAt, blkCells, sub] : rdAt false 1 (h ++ [HB.cells .own [.int .u8 (x.f), .int .i64 (x.n)]] ++ [HB.cells .own [.int .i64 (x.n), .int .i64 (x.n), .int .u8 0]]) h.length 0 2 = some (.int .u8 (x.f))) <| .b h1 <| .a (.call (.agg [.int .i64 1, .int .i64 0, .int .u8 0]) (h ++ [HB.cells .own [.int .u8 (x.f), .int .i64 (x.n)]] ++ [HB.cells .own [.int .i64 (x.n), .int .i64 (x.n), .int .u8 0]]) [] ws) <| .o (c_nothing (by omega) hL (h ++ [HB.cells .own [.int .u8 (x.f), .int .i64 (x.n)]] ++ [HB.cells .own [.int .i64 (x.n), .int .i64 (x.n), .int .u8 0]]) : AP L (n - 1) (.fn 67 [] []) [] (h ++ [HB.cells .own [.int .u8 (x.f), .int .i64 (x.n)]] ++ [HB.cells .own [.int .i64 (x.n), .int .i64 (x.n), .int .u8 0]]) = some (.agg [.int .i64 1, .int .i64 0, .int .u8 0], h ++ [HB.cells .own [.int .u8 (x.f), .int .i64 (x.n)]] ++ [HB.cells .own [.int .i64 (x.n), .int .i64 (x.n), .int .u8 0]], [])) <| .o (rfl : addKs fl [] ws = ws) <| .f (by omega : 0 + 0 ≤ 2) <| .l (by simp [rdAt, blkCells, sub] : rdAt false 1 (h ++ [HB.cells .own [.int .u8 (x.f), .int .i64 (x.n)]] ++ [HB.cells .own [.int .i64 (x.n), .int .i64 (x.n), .int .u8 0]]) h.length 0 2 = some (.int .u8 (x.f))) <| .a (.call (.int .u8 (S_bit x.f)) (h ++ [HB.cells .own [.int .u8 (x.f), .int .i64 (x.n)]] ++ [HB.cells .own [.int .i64 (x.n), .int .i64 (x.n), .int .u8 0]]) [] ws) <| .o (c_bit (by omega) hL (h ++ [HB.cells .own [.int .u8 (x.f), .int .i64 (x.n)]] ++ [HB.cells .own [.int .i64 (x.n), .int .i64 (x.n), .int .u8 0]]) x.f : AP L (n - 1) (.fn 72 [] []) [.int .u8 (x.f)] (h ++ [HB.cells .own [.int .u8 (x.f), .int .i64 (x.n)]] ++ [HB.cells .own [.int .i64 (x.n), .int .i64 (x.n), .int .u8 0]]) = some (.int .u8 (S_bit x.f), h ++ [HB.cells .own [.int .u8 (x.f), .int .i64 (x.n)]] ++ [HB.cells .own [.int .i64 (x.n), .int .i64 (x.n), .int .u8 0]], [])) <| .o (rfl : addKs fl [] ws = ws) <| .a (.call (B.tv ((S_with ((⟨1, 0, 0⟩ : B)) [S_bit x.f]))) (h ++ [HB.cells .own [.int .u8 (x.f), .int .i64 (x.n)]] ++ [HB.cells .own [.int .i64 (x.n), .int .i64 (x.n), .int .u8 0]] ++ [HB.cells .own [.int .u8 (S_bit x.f)]]) [] ws) <| .o (c_with (by omega) hL _ ((⟨1, 0, 0⟩ : B)) [S_bit x.f] _ 0 1 true (RwS_new [[.int .u8 (S_bit x.f)]] (by simp)) rfl (by simp) : AP L (n - 1) (.fn 71 [] []) [.agg [.int .i64 1, .int .i64 0, .int .u8 0], .slc ((h ++ [HB.cells .own [.int .u8 (x.f), .int .i64 (x.n)]] ++ [HB.cells .own [.int .i64 (x.n), .int .i64 (x.n), .int .u8 0]]).length) 0 1 1 1 true] (h ++ [HB.cells .own [.int .u8 (x.f), .int .i64 (x.n)]] ++ [HB.cells .own [.int .i64 (x.n), .int .i64 (x.n), .int .u8 0]] ++ [HB.cells .own [.int .u8 (S_bit x.f)]]) = some (B.tv ((S_with ((⟨1, 0, 0⟩ : B)) [S_bit x.f])), h ++ [HB.cells .own [.int .u8 (x.f), .int .i64 (x.n)]] ++ [HB.cells .own [.int .i64 (x.n), .int .i64 (x.n), .int .u8 0]] ++ [HB.cells .own [.int .u8 (S_bit x.f)]], [])) <| .o (rfl : addKs fl [] ws = ws) <| .a (.st (h ++ [HB.cells .own [.int .u8 (x.f), .int .i64 (x.n)]] ++ [HB.cells .own [.int .i64 ((S_with ((⟨1, 0, 0⟩ : B)) [S_bit x.f]).lo), .int .i64 ((S_with ((⟨1, 0, 0⟩ : B)) [S_bit x.f]).hi), .int .u8 ((S_with ((⟨1, 0, 0⟩ : B)) [S_bit x.f]).f)]] ++ [HB.cells .own [.int .u8 (S_bit x.f)]]) ws) <| .o (by simp [setH, over] : setH (h ++ [HB.cells .own [.int .u8 (x.f), .int .i64 (x.n)]] ++ [HB.cells .own [.int .i64 (x.n), .int .i64 (x.n), .int .u8 0]] ++ [HB.cells .own [.int .u8 (S_bit x.f)]]) ((h ++ [HB.cells .own [.int .u8 (x.f), .int .i64 (x.n)]]).length) 0 [.int .i64 ((S_with ((⟨1, 0, 0⟩ : B)) [S_bit x.f]).lo), .int .i64 ((S_with ((⟨1, 0, 0⟩ : B)) [S_bit x.f]).hi), .int .u8 ((S_with ((⟨1, 0, 0⟩ : B)) [S_bit x.f]).f)] = some (h ++ [HB.cells .own [.int .u8 (x.f), .int .i64 (x.n)]] ++ [HB.cells .own [.int .i64 ((S_with ((⟨1, 0, 0⟩ : B)) [S_bit x.f]).lo), .int .i64 ((S_with ((⟨1, 0, 0⟩ : B)) [S_bit x.f]).hi), .int .u8 ((S_with ((⟨1, 0, 0⟩ : B)) [S_bit x.f]).f)]] ++ [HB.cells .own [.int .u8 (S_bit x.f)]])) <| .o (by omega : 0 + 3 ≤ 3) <| .o (by unfold addW; rw [if_neg (by first | omega | (simp only [List.length_append, List.length_cons, List.length_nil]; omega))] : addW fl ((h ++ [HB.cells .own [.int .u8 (x.f), .int .i64 (x.n)]]).length) ws = ws) <| .l ((rdAt_app (rdAt_app (rdAt_app hb8 _) _) _) : rdAt false 1 (h ++ [HB.cells .own [.int .u8 (x.f), .int .i64 (x.n)]] ++ [HB.cells .own [.int .i64 ((S_with ((⟨1, 0, 0⟩ : B)) [S_bit x.f]).lo), .int .i64 ((S_with ((⟨1, 0, 0⟩ : B)) [S_bit x.f]).hi), .int .u8 ((S_with ((⟨1, 0, 0⟩ : B)) [S_bit x.f]).f)]] ++ [HB.cells .own [.int .u8 (S_bit x.f)]]) b8 0 1 = some (.slc bo 0 ko ko 3 eo)) <| .l ((rdAt_app (rdAt_app (rdAt_app hb8 _) _) _) : rdAt false 1 (h ++ [HB.cells .own [.int .u8 (x.f), .int .i64 (x.n)]] ++ [HB.cells .own [.int .i64 ((S_with ((⟨1, 0, 0⟩ : B)) [S_bit x.f]).lo), .int .i64 ((S_with ((⟨1, 0, 0⟩ : B)) [S_bit x.f]).hi), .int .u8 ((S_with ((⟨1, 0, 0⟩ : B)) [S_bit x.f]).f)]] ++ [HB.cells .own [.int .u8 (S_bit x.f)]]) b8 0 1 = some (.slc bo 0 ko ko 3 eo)) <| .i (hj : idx ko (.int .i64 (i)) = some j) <| .l ((rdAt_app (rdAt_app (rdAt_app hob _) _) _) : rdAt true 3 (h ++ [HB.cells .own [.int .u8 (x.f), .int .i64 (x.n)]] ++ [HB.cells .own [.int .i64 ((S_with ((⟨1, 0, 0⟩ : B)) [S_bit x.f]).lo), .int .i64 ((S_with ((⟨1, 0, 0⟩ : B)) [S_bit x.f]).hi), .int .u8 ((S_with ((⟨1, 0, 0⟩ : B)) [S_bit x.f]).f)]] ++ [HB.cells .own [.int .u8 (S_bit x.f)]]) bo (0 + j * 3) (0 + j * 3 + 3) = some (B.tv ob)) <| .l (by simp [rdAt, blkCells, sub] : rdAt true 3 (h ++ [HB.cells .own [.int .u8 (x.f), .int .i64 (x.n)]] ++ [HB.cells .own [.int .i64 ((S_with ((⟨1, 0, 0⟩ : B)) [S_bit x.f]).lo), .int .i64 ((S_with ((⟨1, 0, 0⟩ : B)) [S_bit x.f]).hi), .int .u8 ((S_with ((⟨1, 0, 0⟩ : B)) [S_bit x.f]).f)]] ++ [HB.cells .own [.int .u8 (S_bit x.f)]]) ((h ++ [HB.cells .own [.int .u8 (x.f), .int .i64 (x.n)]]).length) 0 3 = some (B.tv ((S_with ((⟨1, 0, 0⟩ : B)) [S_bit x.f])))) <| .a (.call (B.tv ((S_hull ob (S_with ((⟨1, 0, 0⟩ : B)) [S_bit x.f]) true))) (h ++ [HB.cells .own [.int .u8 (x.f), .int .i64 (x.n)]] ++ [HB.cells .own [.int .i64 ((S_with ((⟨1, 0, 0⟩ : B)) [S_bit x.f]).lo), .int .i64 ((S_with ((⟨1, 0, 0⟩ : B)) [S_bit x.f]).hi), .int .u8 ((S_with ((⟨1, 0, 0⟩ : B)) [S_bit x.f]).f)]] ++ [HB.cells .own [.int .u8 (S_bit x.f)]]) [] ws) <| .o (c_hull (by omega) hL (h ++ [HB.cells .own [.int .u8 (x.f), .int .i64 (x.n)]] ++ [HB.cells .own [.int .i64 ((S_with ((⟨1, 0, 0⟩ : B)) [S_bit x.f]).lo), .int .i64 ((S_with ((⟨1, 0, 0⟩ : B)) [S_bit x.f]).hi), .int .u8 ((S_with ((⟨1, 0, 0⟩ : B)) [S_bit x.f]).f)]] ++ [HB.cells .own [.int .u8 (S_bit x.f)]]) ob (S_with ((⟨1, 0, 0⟩ : B)) [S_bit x.f]) true : AP L (n - 1) (.fn 73 [] []) [B.tv ob, B.tv ((S_with ((⟨1, 0, 0⟩ : B)) [S_bit x.f])), .bool true] (h ++ [HB.cells .own [.int .u8 (x.f), .int .i64 (x.n)]] ++ [HB.cells .own [.int .i64 ((S_with ((⟨1, 0, 0⟩ : B)) [S_bit x.f]).lo), .int .i64 ((S_with ((⟨1, 0, 0⟩ : B)) [S_bit x.f]).hi), .int .u8 ((S_with ((⟨1, 0, 0⟩ : B)) [S_bit x.f]).f)]] ++ [HB.cells .own [.int .u8 (S_bit x.f)]]) = some (B.tv ((S_hull ob (S_with ((⟨1, 0, 0⟩ : B)) [S_bit x.f]) true)), h ++ [HB.cells .own [.int .u8 (x.f), .int .i64 (x.n)]] ++ [HB.cells .own [.int .i64 ((S_with ((⟨1, 0, 0⟩ : B)) [S_bit x.f]).lo), .int .i64 ((S_with ((⟨1, 0, 0⟩ : B)) [S_bit x.f]).hi), .int .u8 ((S_with ((⟨1, 0, 0⟩ : B)) [S_bit x.f]).f)]] ++ [HB.cells .own [.int .u8 (S_bit x.f)]], [])) <| .o (rfl : addKs fl [] ws = ws) <| .i (hj : idx ko (.int .i64 (i)) = some j) <| .a (.st h' ws1) <| .o (hset : setH (h ++ [HB.cells .own [.int .u8 (x.f), .int .i64 (x.n)]] ++ [HB.cells .own [.int .i64 ((S_with ((⟨1, 0, 0⟩ : B)) [S_bit x.f]).lo), .int .i64 ((S_with ((⟨1, 0, 0⟩ : B)) [S_bit x.f]).hi), .int .u8 ((S_with ((⟨1, 0, 0⟩ : B)) [S_bit x.f]).f)]] ++ [HB.cells .own [.int .u8 (S_bit x.f)]]) bo (0 + j * 3) [.int .i64 ((S_hull ob (S_with ((⟨1, 0, 0⟩ : B)) [S_bit x.f]) true).lo), .int .i64 ((S_hull ob (S_with ((⟨1, 0, 0⟩ : B)) [S_bit x.f]) true).hi), .int .u8 ((S_hull ob (S_with ((⟨1, 0, 0⟩ : B)) [S_bit x.f]) true).f)] = some h') <| .o (by omega : 0 + j * 3 + 3 ≤ 0 + j * 3 + 3) <| .o (hws : addW fl bo ws = ws1) <| .n) (roundsT_congr (by kernel_rfl))
theorem r_tcells_1 {L n m fl : Nat} (hn : 3 ≤ n) (hL : 30000 ≤ L) (b8 : Nat) (bo : Nat) (ko : Nat) (eo : Bool) (xv : TV) (len : Nat) (i : Int) (h : List HB) (ws : List Nat) (x : V) (b_x : Nat) (o_x : Nat) (j : Nat) (ob : B) (h' : List HB) (ws1 : List Nat) (hb8 : rdAt false 1 h b8 0 1 = some (.slc bo 0 ko ko 3 eo)) (hfl : fl ≤ h.length)  (h0 : (decide ((i) < ((len : Nat) : Int))) = true) (h1 : (decide ((x.f) > 0)) = false) (hi_x : indexAddrT Tryz.prog 65 (.val xv) (.int .i64 (i)) = some (.val (.ptr b_x o_x (o_x + 2)))) (hj : idx ko (.int .i64 (i)) = some j) (hob : rdAt true 3 h bo (0 + j * 3) (0 + j * 3 + 3) = some (B.tv ob)) (hset : setH (h ++ [HB.cells .own [.int .u8 (x.f), .int .i64 (x.n)]] ++ [HB.cells .own [.int .i64 (x.n), .int .i64 (x.n), .int .u8 0]]) bo (0 + j * 3) [.int .i64 ((S_hull ob ((⟨x.n, x.n, 0⟩ : B)) true).lo), .int .i64 ((S_hull ob ((⟨x.n, x.n, 0⟩ : B)) true).hi), .int .u8 ((S_hull ob ((⟨x.n, x.n, 0⟩ : B)) true).f)] = some h') (hws : addW fl bo ws = ws1) (hr_x : Rw h b_x o_x (V.tvs x)) : roundsT Tryz.prog T (AP L (n - 1)) L 29 1 fl (m + 1) (W_tcells b8 bo ko eo xv len i h ws) = roundsT Tryz.prog T (AP L (n - 1)) L 29 1 fl m (W_tcells b8 bo ko eo xv len (IntKind.i64.wrap ((i) + 1)) h' ws1) :=
  roundT_on (s1 := ⟨[(8, .val (.ptr b8 0 1)), (58, .val (xv)), (59, .val (.int .i64 ((len : Nat) : Int))), (60, .val (.int .i64 (IntKind.i64.wrap ((i) + 1))))], [], h', ws1⟩) (by kernel_rfl) (.b h0 <| .p hi_x <| .l (hr_x.agg rfl (Nat.le_refl _) : rdAt true 2 h b_x o_x (o_x + 2) = some (V.tv x)) <| .a (.st (h ++ [HB.cells .own [.int .u8 (x.f), .int .i64 (x.n)]]) ws) <| .o (by simp [setH, over] : setH (h ++ [HB.cells .own [.int .u8 0, .int .i64 0]]) h.length 0 [.int .u8 (x.f), .int .i64 (x.n)] = some (h ++ [HB.cells .own [.int .u8 (x.f), .int .i64 (x.n)]])) <| .o (by omega : 0 + 2 ≤ 2) <| .o (by unfold addW; rw [if_neg (by first | omega | (simp only [List.length_append, List.length_cons, List.length_nil]; omega))] : addW fl h.length ws = ws) <| .f (by omega : 0 + 1 ≤ 2) <| .l (by simp [rdAt, blkCells, sub] : rdAt false 1 (h ++ [HB.cells .own [.int .u8 (x.f), .int .i64 (x.n)]]) h.length 1 2 = some (.int .i64 (x.n))) <| .f (by omega : 0 + 1 ≤ 2) <| .l (by simp [rdAt, blkCells, sub] : rdAt false 1 (h ++ [HB.cells .own [.int .u8 (x.f), .int .i64 (x.n)]]) h.length 1 2 = some (.int .i64 (x.n))) <| .a (.call (.agg [.int .i64 (x.n), .int .i64 (x.n), .int .u8 0]) (h ++ [HB.cells .own [.int .u8 (x.f), .int .i64 (x.n)]]) [] ws) <| .o (c_from (by omega) hL (h ++ [HB.cells .own [.int .u8 (x.f), .int .i64 (x.n)]]) x.n x.n : AP L (n - 1) (.fn 70 [] []) [.int .i64 (x.n), .int .i64 (x.n)] (h ++ [HB.cells .own [.int .u8 (x.f), .int .i64 (x.n)]]) = some (.agg [.int .i64 (x.n), .int .i64 (x.n), .int .u8 0], h ++ [HB.cells .own [.int .u8 (x.f), .int .i64 (x.n)]], [])) <| .o (rfl : addKs fl [] ws = ws) <| .a (.st (h ++ [HB.cells .own [.int .u8 (x.f), .int .i64 (x.n)]] ++ [HB.cells .own [.int .i64 (x.n), .int .i64 (x.n), .int .u8 0]]) ws) <| .o (by simp [setH, over] : setH (h ++ [HB.cells .own [.int .u8 (x.f), .int .i64 (x.n)]] ++ [HB.cells .own [.int .i64 0, .int .i64 0, .int .u8 0]]) ((h ++ [HB.cells .own [.int .u8 (x.f), .int .i64 (x.n)]]).length) 0 [.int .i64 (x.n), .int .i64 (x.n), .int .u8 0] = some (h ++ [HB.cells .own [.int .u8 (x.f), .int .i64 (x.n)]] ++ [HB.cells .own [.int .i64 (x.n), .int .i64 (x.n), .int .u8 0]])) <| .o (by omega : 0 + 3 ≤ 3) <| .o (by unfold addW; rw [if_neg (by first | omega | (simp only [List.length_append, List.length_cons, List.length_nil]; omega))] : addW fl ((h ++ [HB.cells .own [.int .u8 (x.f), .int .i64 (x.n)]]).length) ws = ws) <| .f (by omega : 0 + 0 ≤ 2) <| .l (by simp [rdAt, blkCells, sub] : rdAt false 1 (h ++ [HB.cells .own [.int .u8 (x.f), .int .i64 (x.n)]] ++ [HB.cells .own [.int .i64 (x.n), .int .i64 (x.n), .int .u8 0]]) h.length 0 2 = some (.int .u8 (x.f))) <| .b h1 <| .l ((rdAt_app (rdAt_app hb8 _) _) : rdAt false 1 (h ++ [HB.cells .own [.int .u8 (x.f), .int .i64 (x.n)]] ++ [HB.cells .own [.int .i64 (x.n), .int .i64 (x.n), .int .u8 0]]) b8 0 1 = some (.slc bo 0 ko ko 3 eo)) <| .l ((rdAt_app (rdAt_app hb8 _) _) : rdAt false 1 (h ++ [HB.cells .own [.int .u8 (x.f), .int .i64 (x.n)]] ++ [HB.cells .own [.int .i64 (x.n), .int .i64 (x.n), .int .u8 0]]) b8 0 1 = some (.slc bo 0 ko ko 3 eo)) <| .i (hj : idx ko (.int .i64 (i)) = some j) <| .l ((rdAt_app (rdAt_app hob _) _) : rdAt true 3 (h ++ [HB.cells .own [.int .u8 (x.f), .int .i64 (x.n)]] ++ [HB.cells .own [.int .i64 (x.n), .int .i64 (x.n), .int .u8 0]]) bo (0 + j * 3) (0 + j * 3 + 3) = some (B.tv ob)) <| .l (by simp [rdAt, blkCells, sub] : rdAt true 3 (h ++ [HB.cells .own [.int .u8 (x.f), .int .i64 (x.n)]] ++ [HB.cells .own [.int .i64 (x.n), .int .i64 (x.n), .int .u8 0]]) ((h ++ [HB.cells .own [.int .u8 (x.f), .int .i64 (x.n)]]).length) 0 3 = some (.agg [.int .i64 (x.n), .int .i64 (x.n), .int .u8 0])) <| .a (.call (B.tv ((S_hull ob ((⟨x.n, x.n, 0⟩ : B)) true))) (h ++ [HB.cells .own [.int .u8 (x.f), .int .i64 (x.n)]] ++ [HB.cells .own [.int .i64 (x.n), .int .i64 (x.n), .int .u8 0]]) [] ws) <| .o (c_hull (by omega) hL (h ++ [HB.cells .own [.int .u8 (x.f), .int .i64 (x.n)]] ++ [HB.cells .own [.int .i64 (x.n), .int .i64 (x.n), .int .u8 0]]) ob ((⟨x.n, x.n, 0⟩ : B)) true : AP L (n - 1) (.fn 73 [] []) [B.tv ob, .agg [.int .i64 (x.n), .int .i64 (x.n), .int .u8 0], .bool true] (h ++ [HB.cells .own [.int .u8 (x.f), .int .i64 (x.n)]] ++ [HB.cells .own [.int .i64 (x.n), .int .i64 (x.n), .int .u8 0]]) = some (B.tv ((S_hull ob ((⟨x.n, x.n, 0⟩ : B)) true)), h ++ [HB.cells .own [.int .u8 (x.f), .int .i64 (x.n)]] ++ [HB.cells .own [.int .i64 (x.n), .int .i64 (x.n), .int .u8 0]], [])) <| .o (rfl : addKs fl [] ws = ws) <| .i (hj : idx ko (.int .i64 (i)) = some j) <| .a (.st h' ws1) <| .o (hset : setH (h ++ [HB.cells .own [.int .u8 (x.f), .int .i64 (x.n)]] ++ [HB.cells .own [.int .i64 (x.n), .int .i64 (x.n), .int .u8 0]]) bo (0 + j * 3) [.int .i64 ((S_hull ob ((⟨x.n, x.n, 0⟩ : B)) true).lo), .int .i64 ((S_hull ob ((⟨x.n, x.n, 0⟩ : B)) true).hi), .int .u8 ((S_hull ob ((⟨x.n, x.n, 0⟩ : B)) true).f)] = some h') <| .o (by omega : 0 + j * 3 + 3 ≤ 0 + j * 3 + 3) <| .o (hws : addW fl bo ws = ws1) <| .n) (roundsT_congr (by kernel_rfl))
abbrev X_tcells_2 (b8 : Nat) (bo : Nat) (ko : Nat) (eo : Bool) (xv : TV) (len : Nat) (i : Int) (h : List HB) (ws : List Nat)  : St := ⟨[(8, .val (.ptr b8 0 1)), (58, .val (xv)), (59, .val (.int .i64 ((len : Nat) : Int))), (60, .val (.int .i64 (i))), (61, .val (.bool (decide ((i) < ((len : Nat) : Int)))))], [], h, ws⟩
theorem r_tcells_2 {L n m fl : Nat} (hn : 3 ≤ n) (hL : 30000 ≤ L) (b8 : Nat) (bo : Nat) (ko : Nat) (eo : Bool) (xv : TV) (len : Nat) (i : Int) (h : List HB) (ws : List Nat)  (hb8 : rdAt false 1 h b8 0 1 = some (.slc bo 0 ko ko 3 eo)) (hfl : fl ≤ h.length)  (h0 : (decide ((i) < ((len : Nat) : Int))) = false) : roundsT Tryz.prog T (AP L (n - 1)) L 29 1 fl (m + 1) (W_tcells b8 bo ko eo xv len i h ws) = some ((.exit 4), X_tcells_2 b8 bo ko eo xv len i h ws ) :=
  roundT_out (s1 := X_tcells_2 b8 bo ko eo xv len i h ws ) (by kernel_rfl) (.b h0 <| .n) rfl
theorem b_round_0 {L n fl : Nat} (hn : 15 ≤ n) (hL : 30000 ≤ L) (h : List HB) (ws : List Nat) (bc b2 b3 b8 bo ko : Nat) (eo : Bool) (xc xo xr xw : TV) (hbc : rdAt true 3 h bc 0 3 = some (.agg [xc, xo, xr])) (v1 : TV) (H1 : List HB) (e1 : Int) (l1 : List V) (H2 : List HB) (ws2 : List Nat) (hE1 : Onto h H1) (hs1 : SV H1 v1 2 V.tvs l1) (h0 : ((e1) != 0) = false) (hcall : AP L (n - 1) (.fn 69 [] []) [.agg [xc, xo, xr], xw] h = some (.tup [v1, .int .i64 (e1)], H1, [])) (hloop : roundsT Tryz.prog T (AP L (n - 1)) L 29 1 fl L (W_tcells b8 bo ko eo v1 l1.length 0 H1 ws) = some (.exit 4, X_tcells_2 b8 bo ko eo v1 l1.length l1.length H2 ws2)) : exec Tryz.prog T (AP L (n - 1)) L 29 true fl (ntOf Tryz.prog 29) (rfBody Tryz.prog 29) ⟨[(1, .val (.ptr bc 0 3)), (2, .val (.ptr b2 0 1)), (3, .val (.ptr b3 0 1)), (8, .val (.ptr b8 0 1)), (9, .val (xw))], [], h, ws⟩ = some (.norm, ⟨[(8, .val (.ptr b8 0 1)), (58, .val (v1)), (59, .val (.int .i64 ((l1.length : Nat) : Int))), (60, .val (.int .i64 (((l1.length : Int))))), (61, .val (.bool (decide ((((l1.length : Int))) < ((l1.length : Nat) : Int)))))], [], H2, ws2⟩) :=
  exec_of (by kernel_rfl) (.l hbc <| .a (.call (.tup [v1, .int .i64 (e1)]) H1 [] ws) <| .o (hcall : AP L (n - 1) (.fn 69 [] []) [.agg [xc, xo, xr], xw] h = some (.tup [v1, .int .i64 (e1)], H1, [])) <| .o (rfl : addKs fl [] ws = ws) <| .b h0 <| .k (hs1.len u65) <| .v ((roundsT_congr (by kernel_rfl)).trans hloop : roundsT Tryz.prog T (AP L (n - 1)) L 29 1 fl L ⟨[(8, .val (.ptr b8 0 1)), (58, .val (v1)), (59, .val (.int .i64 ((l1.length : Nat) : Int))), (60, .val (.int .i64 0))], [], H1, ws⟩ = some ((.exit 4), ⟨[(8, .val (.ptr b8 0 1)), (58, .val (v1)), (59, .val (.int .i64 ((l1.length : Nat) : Int))), (60, .val (.int .i64 (((l1.length : Int))))), (61, .val (.bool (decide ((((l1.length : Int))) < ((l1.length : Nat) : Int)))))], [], H2, ws2⟩)) <| .n)
end Go.Proofs.YtfhiejgoemcelaaGreat
namespace Go.Proofs.YtfhiejgoemcelaaGreat
open Go Tw
theorem c_CloneN {L n : Nat} (hn : 1 ≤ n) (hL : 30000 ≤ L) (h : List HB)     : AP L n (.fn 110 [] []) [.nil .slc] h = some (.nil .slc, h, []) :=
  ap_t (by omega) (by kernel_rfl) (.b (rfl : true = true) <| .n)
theorem c_CloneS {L n : Nat} (hn : 1 ≤ n) (hL : 30000 ≤ L) (h : List HB) (b1 k0 cap0 : Nat) (g : List TV) (ex0 : Bool)    (hap : appendT Tryz.prog #[24, 24] (onH (h ++ [HB.cells .own []])) (.slc h.length 0 0 0 1 true) (.slc b1 0 k0 cap0 1 ex0) = some (.slc ((h ++ [HB.cells .own []]).length) 0 k0 k0 1 false, onH (h ++ [HB.cells .own []] ++ [HB.cells .own g]), rdKs [.h h.length, .h b1])) : AP L n (.fn 110 [] []) [.slc b1 0 k0 cap0 1 ex0] h = some (.slc ((h ++ [HB.cells .own []]).length) 0 k0 k0 1 false, h ++ [HB.cells .own []] ++ [HB.cells .own g], []) :=
  ap_t (by omega) (by kernel_rfl) (.b (rfl : false = false) <| .g hap (rfl : addKs h.length [] [] = []) <| .n)
theorem c_worldsN {L n : Nat} (hn : 1 ≤ n) (hL : 30000 ≤ L) (h : List HB)     : AP L n (.fn 68 [] []) [.nil .slc] h = some (.fn 108 [] [.ptr h.length 0 1], h ++ [HB.cells .own [.nil .slc]], []) :=
  ap_t (by omega) (by kernel_rfl) .n
theorem c_worldsS {L n : Nat} (hn : 1 ≤ n) (hL : 30000 ≤ L) (h : List HB) (bs fs ns ks : Nat) (es : Bool)    : AP L n (.fn 68 [] []) [.slc bs fs ns ks 3 es] h = some (.fn 108 [] [.ptr h.length 0 1], h ++ [HB.cells .own [.slc bs fs ns ks 3 es]], []) :=
  ap_t (by omega) (by kernel_rfl) .n
theorem one_yld {l : Nat} : oneT (.yld l) = true := rfl
theorem c_worlds1 {L n : Nat} (hn : 2 ≤ n) (hL : 30000 ≤ L) (h : List HB) (l b1 : Nat) (H' : List HB) (wsc : List Nat) (w0 : Nat) (wr : List Nat) (rv : Bool)   (hext : AP L (n - 1) (.fn 109 [] [.ptr b1 0 1, .ptr h.length 0 1, .ptr ((h ++ [HB.cells .own [(.yld l)]]).length) 0 1]) [.nil .slc] (h ++ [HB.cells .own [(.yld l)]] ++ [HB.cells .own [.fn 109 [] [.ptr b1 0 1, .ptr h.length 0 1, .ptr ((h ++ [HB.cells .own [(.yld l)]]).length) 0 1]]]) = some (.bool rv, H', wsc)) (hwc : addKs h.length (wsc.map .h) [] = (w0 :: wr)) : AP L n (.fn 108 [] [.ptr b1 0 1]) [(.yld l)] h = some (.tup [], H', (w0 :: wr)) :=
  ap_t (by omega) (by kernel_rfl) (.x (by simp only [TV.cells, List.all_cons, List.all_nil, one_map, one_int, one_bool, one_str, one_nil, one_ptr, one_slc, one_fn, Bool.and_true, one_yld] : ((.yld l) : TV).cells.all oneT = true) <| .a (.st (h ++ [HB.cells .own [(.yld l)]] ++ [HB.cells .own [.fn 109 [] [.ptr b1 0 1, .ptr h.length 0 1, .ptr ((h ++ [HB.cells .own [(.yld l)]]).length) 0 1]]]) []) <| .o (by simp [setH, over] : setH (h ++ [HB.cells .own [(.yld l)]] ++ [HB.cells .own [.nil .fn]]) ((h ++ [HB.cells .own [(.yld l)]]).length) 0 [.fn 109 [] [.ptr b1 0 1, .ptr h.length 0 1, .ptr ((h ++ [HB.cells .own [(.yld l)]]).length) 0 1]] = some (h ++ [HB.cells .own [(.yld l)]] ++ [HB.cells .own [.fn 109 [] [.ptr b1 0 1, .ptr h.length 0 1, .ptr ((h ++ [HB.cells .own [(.yld l)]]).length) 0 1]]])) <| .o (by omega : 0 + 1 ≤ 1) <| .o (by unfold addW; rw [if_neg (by first | omega | (simp only [List.length_append, List.length_cons, List.length_nil]; omega))] : addW h.length ((h ++ [HB.cells .own [(.yld l)]]).length) [] = []) <| .l (by simp [rdAt, blkCells, sub] : rdAt false 1 (h ++ [HB.cells .own [(.yld l)]] ++ [HB.cells .own [.fn 109 [] [.ptr b1 0 1, .ptr h.length 0 1, .ptr ((h ++ [HB.cells .own [(.yld l)]]).length) 0 1]]]) ((h ++ [HB.cells .own [(.yld l)]]).length) 0 1 = some (.fn 109 [] [.ptr b1 0 1, .ptr h.length 0 1, .ptr ((h ++ [HB.cells .own [(.yld l)]]).length) 0 1])) <| .a (.call (.bool rv) H' wsc (w0 :: wr)) <| .o (hext : AP L (n - 1) (.fn 109 [] [.ptr b1 0 1, .ptr h.length 0 1, .ptr ((h ++ [HB.cells .own [(.yld l)]]).length) 0 1]) [.nil .slc] (h ++ [HB.cells .own [(.yld l)]] ++ [HB.cells .own [.fn 109 [] [.ptr b1 0 1, .ptr h.length 0 1, .ptr ((h ++ [HB.cells .own [(.yld l)]]).length) 0 1]]]) = some (.bool rv, H', wsc)) <| .o (hwc : addKs h.length (wsc.map .h) [] = (w0 :: wr)) <| .n)
abbrev W_extend (xw : TV) (p3 : Nat) (ch : K) (k : Int) (h : List HB) (ws : List Nat) : St := ⟨[(0, .val (xw)), (3, .val (.ptr p3 0 1)), (6, .loc 0 0), (7, .val (.int .i64 (k)))], [[.str ch.name, .int .i64 (ch.lo), .int .i64 (ch.hi)]], h, ws⟩
theorem r_extend_1 {L n m fl : Nat} (hn : 2 ≤ n) (hL : 30000 ≤ L) (xw : TV) (p3 : Nat) (ch : K) (k : Int) (h : List HB) (ws : List Nat) (cv : TV) (H1 : List HB) (x' : TV) (h' : List HB) (ii : Inf) (rv : Bool) (H3 : List HB) (wsc : List Nat) (ws1 : List Nat) (ev : TV) (hp3 : rdAt false 1 h p3 0 1 = some ev)  (h0 : (decide ((k) ≤ (ch.hi))) = true) (h1 : (!rv) = false) (hclone : AP L (n - 1) (.fn 110 [] []) [xw] h = some (cv, H1, [])) (hap : appendT Tryz.prog #[24, 24] (onH (H1 ++ [HB.cells .own [.int .i64 (k)]])) (cv) (.slc H1.length 0 1 1 1 true) = some (x', onH h', ii)) (hii : addKs fl ii.ws ws = ws) (hrec : AP L (n - 1) (ev) [x'] h' = some (.bool rv, H3, wsc)) (hwc : addKs fl (wsc.map .h) ws = ws1) (hdyn7 : dynOk [rdK (.h p3), noInf, ⟨true, [], []⟩, noInf, noInf, ii, ⟨true, [], wsc.map .h⟩, noInf] (hotPairs (regOps Tryz.prog 109 7)) = true) : rounds Tryz.prog T (AP L (n - 1)) L 109 0 fl (m + 1) (W_extend xw p3 ch k h ws) = rounds Tryz.prog T (AP L (n - 1)) L 109 0 fl m (W_extend xw p3 ch (IntKind.i64.wrap ((k) + 1)) H3 ws1) :=
  round_on (s1 := ⟨[(0, .val (xw)), (3, .val (.ptr p3 0 1)), (6, .loc 0 0), (7, .val (.int .i64 (IntKind.i64.wrap ((k) + 1))))], [[.str ch.name, .int .i64 (ch.lo), .int .i64 (ch.hi)]], H3, ws1⟩) (by kernel_rfl) (.b h0 <| .l hp3 <| .a (.call (cv) H1 [] ws) <| .o (hclone : AP L (n - 1) (.fn 110 [] []) [xw] h = some (cv, H1, [])) <| .o (rfl : addKs fl [] ws = ws) <| .g hap hii <| .a (.call (.bool rv) H3 wsc ws1) <| .o (hrec : AP L (n - 1) (ev) [x'] h' = some (.bool rv, H3, wsc)) <| .o (hwc : addKs fl (wsc.map .h) ws = ws1) <| .d (hdyn7 : dynOk [rdK (.h p3), noInf, ⟨true, [], []⟩, noInf, noInf, ii, ⟨true, [], wsc.map .h⟩, noInf] (hotPairs (regOps Tryz.prog 109 7)) = true) <| .b h1 <| .n) (rounds_congr (by kernel_rfl))
abbrev X_extend_2 (xw : TV) (p3 : Nat) (ch : K) (k : Int) (h : List HB) (ws : List Nat)  : St := ⟨[(0, .val (xw)), (3, .val (.ptr p3 0 1)), (6, .loc 0 0), (7, .val (.int .i64 (k))), (26, .val (.bool (decide ((k) ≤ (ch.hi)))))], [[.str ch.name, .int .i64 (ch.lo), .int .i64 (ch.hi)]], h, ws⟩
theorem r_extend_2 {L n m fl : Nat} (hn : 2 ≤ n) (hL : 30000 ≤ L) (xw : TV) (p3 : Nat) (ch : K) (k : Int) (h : List HB) (ws : List Nat)  (ev : TV) (hp3 : rdAt false 1 h p3 0 1 = some ev)  (h0 : (decide ((k) ≤ (ch.hi))) = false) : rounds Tryz.prog T (AP L (n - 1)) L 109 0 fl (m + 1) (W_extend xw p3 ch k h ws) = some ((.exit 0), X_extend_2 xw p3 ch k h ws ) :=
  round_out (s1 := X_extend_2 xw p3 ch k h ws ) (by kernel_rfl) (.b h0 <| .n) rfl
theorem q_extend_0 {L n : Nat} (hn : 2 ≤ n) (hL : 30000 ≤ L) (h : List HB) (l p1 p2 p3 : Nat) (xw xc : TV) (w : List Int) (cs : List K) (hw : SV h xw 1 I.tvs w) (hc : SV h xc 3 K.tvs cs) (hlt : w.length ≤ cs.length) (hp1 : rdAt false 1 h p1 0 1 = some xc) (hp2 : rdAt false 1 h p2 0 1 = some (.yld l)) (H' : List HB) (wsc : List Nat) (w0 : Nat) (wr : List Nat) (rv : Bool)  (h0 : (((w.length : Nat) : Int) == ((cs.length : Nat) : Int)) = true) (hyld : AP L (n - 1) ((.yld l)) [xw] h = some (.bool rv, H', wsc)) (hwc : addKs h.length (wsc.map .h) [] = (w0 :: wr)) : AP L n (.fn 109 [] [.ptr p1 0 1, .ptr p2 0 1, .ptr p3 0 1]) [xw] h = some (.bool rv, H', (w0 :: wr)) :=
  ap_t (by omega) (by kernel_rfl) (.k (hw.len u24) <| .l hp1 <| .k (hc.len u22) <| .b h0 <| .l hp2 <| .a (.call (.bool rv) H' wsc (w0 :: wr)) <| .o (hyld : AP L (n - 1) ((.yld l)) [xw] h = some (.bool rv, H', wsc)) <| .o (hwc : addKs h.length (wsc.map .h) [] = (w0 :: wr)) <| .n)
theorem q_extend_1 {L n : Nat} (hn : 2 ≤ n) (hL : 30000 ≤ L) (h : List HB) (l p1 p2 p3 : Nat) (xw xc : TV) (w : List Int) (cs : List K) (hw : SV h xw 1 I.tvs w) (hc : SV h xc 3 K.tvs cs) (hlt : w.length ≤ cs.length) (hp1 : rdAt false 1 h p1 0 1 = some xc) (hp2 : rdAt false 1 h p2 0 1 = some (.yld l)) (H' : List HB) (w0 : Nat) (wr : List Nat) (kf : Int)  (h0 : (((w.length : Nat) : Int) == ((cs.length : Nat) : Int)) = false) (hloop : rounds Tryz.prog T (AP L (n - 1)) L 109 0 h.length L (W_extend xw p3 (cs.getD ((w.length : Nat) : Int).toNat K0) (cs.getD ((w.length : Nat) : Int).toNat K0).lo h []) = some (.exit 0, X_extend_2 xw p3 (cs.getD ((w.length : Nat) : Int).toNat K0) kf H' (w0 :: wr))) : AP L n (.fn 109 [] [.ptr p1 0 1, .ptr p2 0 1, .ptr p3 0 1]) [xw] h = some (.bool true, H', (w0 :: wr)) :=
  ap_t (by omega) (by kernel_rfl) (.k (hw.len u24) <| .l hp1 <| .k (hc.len u22) <| .b h0 <| .l hp1 <| .k (hw.len u24) <| .p (hc.ix u22 z62 (by first | omega | (simp only [decide_eq_false_iff_not, decide_eq_true_eq] at *; omega) | (simp only [beq_eq_false_iff_ne, ne_eq] at *; omega)) (by first | omega | (simp only [decide_eq_false_iff_not, decide_eq_true_eq] at *; omega) | (simp only [beq_eq_false_iff_ne, ne_eq] at *; omega)) : indexAddrT Tryz.prog 22 (.val xc) (.int .i64 ((w.length : Nat) : Int)) = some (.val (.ptr (eb xc) (eo xc ((w.length : Nat) : Int)) (eo xc ((w.length : Nat) : Int) + 3)))) <| .l (hc.agg (by first | omega | (simp only [decide_eq_false_iff_not, decide_eq_true_eq] at *; omega) | (simp only [beq_eq_false_iff_ne, ne_eq] at *; omega)) (by first | omega | (simp only [decide_eq_false_iff_not, decide_eq_true_eq] at *; omega) | (simp only [beq_eq_false_iff_ne, ne_eq] at *; omega)) _ rfl : rdAt true 3 h (eb xc) (eo xc ((w.length : Nat) : Int)) (eo xc ((w.length : Nat) : Int) + 3) = some (K.tv (((cs.getD ((w.length : Nat) : Int).toNat K0))))) <| .w ((rounds_congr (by kernel_rfl)).trans hloop : rounds Tryz.prog T (AP L (n - 1)) L 109 0 h.length L ⟨[(0, .val (xw)), (3, .val (.ptr p3 0 1)), (6, .loc 0 0), (7, .val (.int .i64 (((cs.getD ((w.length : Nat) : Int).toNat K0)).lo)))], [[.str (((cs.getD ((w.length : Nat) : Int).toNat K0)).name), .int .i64 (((cs.getD ((w.length : Nat) : Int).toNat K0)).lo), .int .i64 (((cs.getD ((w.length : Nat) : Int).toNat K0)).hi)]], h, []⟩ = some ((.exit 0), ⟨[(0, .val (xw)), (3, .val (.ptr p3 0 1)), (6, .loc 0 0), (7, .val (.int .i64 (kf))), (26, .val (.bool (decide ((kf) ≤ (((cs.getD ((w.length : Nat) : Int).toNat K0)).hi)))))], [[.str (((cs.getD ((w.length : Nat) : Int).toNat K0)).name), .int .i64 (((cs.getD ((w.length : Nat) : Int).toNat K0)).lo), .int .i64 (((cs.getD ((w.length : Nat) : Int).toNat K0)).hi)]], H', (w0 :: wr)⟩)) <| .n)
end Go.Proofs.YtfhiejgoemcelaaGreat
namespace Go.Proofs.YtfhiejgoemcelaaGreat
open Go Tw
def KX (bo l : Nat) (H H' : List HB) : Prop := H.length ≤ H'.length ∧ ∀ b, b < H.length → b ≠ bo → b ≠ l → H'[b]? = H[b]?
theorem KX.refl {bo l : Nat} {H : List HB} : KX bo l H H := ⟨Nat.le_refl _, fun _ _ _ _ => rfl⟩
theorem KX.trans {bo l : Nat} {A B C : List HB} (h : KX bo l A B) (g : KX bo l B C) : KX bo l A C :=
  ⟨Nat.le_trans h.1 g.1, fun b hb h1 h2 => (g.2 b (Nat.lt_of_lt_of_le hb h.1) h1 h2).trans (h.2 b hb h1 h2)⟩
theorem KX.onto {bo l : Nat} {A B : List HB} (h : Onto A B) : KX bo l A B := by
  obtain ⟨e, rfl⟩ := h
  exact ⟨by simp, fun b hb _ _ => List.getElem?_append_left hb⟩
theorem KX.rd {bo l : Nat} {A B : List HB} (h : KX bo l A B) {agg : Bool} {n b off lim : Nat} {v : TV} (hr : rdAt agg n A b off lim = some v) (h1 : b ≠ bo) (h2 : b ≠ l) : rdAt agg n B b off lim = some v := by
  have hb : b < A.length := by
    rcases Nat.lt_or_ge b A.length with h | h
    · exact h
    · simp [rdAt, blkCells, List.getElem?_eq_none h] at hr
  simpa [rdAt, blkCells, h.2 b hb h1 h2] using hr
theorem Ilen (w : List Int) : (w.map I.tvs).flatten.length = w.length := by
  have := flat_len (enc := I.tvs) (sz := 1) (fun _ => rfl) w
  omega
def Wd (bo l : Nat) (H : List HB) (x : TV) (w : List Int) : Prop :=
  (x = .nil .slc ∧ w = []) ∨ ∃ b ex k, x = .slc b 0 w.length w.length 1 ex ∧ w ≠ [] ∧ b ≠ bo ∧ b ≠ l ∧ H[b]? = some (.cells k (w.map I.tvs).flatten)
theorem Wd.sv {bo l : Nat} {H : List HB} {x : TV} {w : List Int} (h : Wd bo l H x w) : SV H x 1 I.tvs w := by
  rcases h with h | ⟨b, ex, k, rfl, _, _, _, h4⟩
  · exact .inl h
  · refine .inr ⟨b, 0, _, _, rfl, by simp, (w.map I.tvs).flatten, by simp [blkCells, h4], ?_⟩
    unfold sub
    rw [List.length_map, if_pos (by rw [Ilen]; omega), List.drop_zero, List.take_of_length_le (by rw [Ilen]; omega)]
theorem Wd.kx {bo l : Nat} {H H' : List HB} {x : TV} {w : List Int} (h : Wd bo l H x w) (hk : KX bo l H H') : Wd bo l H' x w := by
  rcases h with h | ⟨b, ex, k, h0, h1, h2, h3, h4⟩
  · exact .inl h
  · have hb : b < H.length := by
      rcases Nat.lt_or_ge b H.length with h | h
      · exact h
      · rw [List.getElem?_eq_none h] at h4; cases h4
    exact .inr ⟨b, ex, k, h0, h1, h2, h3, (hk.2 b hb h2 h3).trans h4⟩
theorem Wd.app {bo l : Nat} {h0 H : List HB} {x : TV} {w : List Int} (h : App h0 H x 1 I.tvs w) (h1 : bo < h0.length) (h2 : l < h0.length) : Wd bo l H x w := by
  obtain ⟨_, h | ⟨b, k, h3, h4, h5, h6, h7⟩⟩ := h
  · exact .inl h
  · exact .inr ⟨b, false, k, h3, h5, by omega, by omega, h7⟩
theorem k_Clone {L n : Nat} (hn : 1 ≤ n) (hL : 30000 ≤ L) {bo l : Nat} (H : List HB) (x : TV) (w : List Int) (h : Wd bo l H x w) (hw : w.length ≤ 5000) : ∃ cv H1, AP L n (.fn 110 [] []) [x] H = some (cv, H1, []) ∧ App H H1 cv 1 I.tvs w := by
  rcases h with ⟨rfl, rfl⟩ | ⟨b, ex, k, rfl, h1, h2, h3, h4⟩
  · exact ⟨_, _, c_CloneN hn hL H, Onto.refl, .inl ⟨rfl, rfl⟩⟩
  · have hs : srcCells 1 H (.slc b 0 w.length w.length 1 ex) = some (w.length, (w.map I.tvs).flatten) := by
      simp only [srcCells, if_true, blkCells, h4, sub, Nat.mul_one]
      rw [if_pos (by rw [Ilen]; omega), List.drop_zero, List.take_of_length_le (by rw [Ilen]; omega)]
      rfl
    refine ⟨_, _, c_CloneS hn hL H b w.length w.length (w.map I.tvs).flatten ex (copy_rows s24 i24 (fun _ => rfl) blkCells_new (srcCells_app hs _) h1 g3 hw), Onto.app (Onto.app Onto.refl _) _, .inr ⟨_, .own, rfl, by simp, h1, by simp, by simp⟩⟩
theorem addKs_mem {fl : Nat} : ∀ {wsc ws : List Nat} {b : Nat}, b ∈ addKs fl (wsc.map .h) ws ↔ b ∈ ws ∨ (b ∈ wsc ∧ b < fl)
  | [], ws, b => by simp [addKs]
  | c :: wsc, ws, b => by
    simp only [List.map_cons, addKs]
    rw [addKs_mem]
    simp only [addW]
    by_cases h : c < fl
    · rw [if_pos h]
      by_cases h2 : ws.contains c = true
      · rw [if_pos h2]
        have : c ∈ ws := by simpa using h2
        constructor
        · rintro (h | h)
          · exact .inl h
          · exact .inr ⟨List.mem_cons_of_mem _ h.1, h.2⟩
        · rintro (h3 | ⟨h3, h4⟩)
          · exact .inl h3
          · rcases List.mem_cons.mp h3 with rfl | h3
            · exact .inl this
            · exact .inr ⟨h3, h4⟩
      · rw [if_neg h2]
        constructor
        · rintro (h3 | h3)
          · rcases List.mem_cons.mp h3 with rfl | h3
            · exact .inr ⟨List.mem_cons_self .., h⟩
            · exact .inl h3
          · exact .inr ⟨List.mem_cons_of_mem _ h3.1, h3.2⟩
        · rintro (h3 | ⟨h3, h4⟩)
          · exact .inl (List.mem_cons_of_mem _ h3)
          · rcases List.mem_cons.mp h3 with rfl | h3
            · exact .inl (List.mem_cons_self ..)
            · exact .inr ⟨h3, h4⟩
    · rw [if_neg h]
      constructor
      · rintro (h3 | h3)
        · exact .inl h3
        · exact .inr ⟨List.mem_cons_of_mem _ h3.1, h3.2⟩
      · rintro (h3 | ⟨h3, h4⟩)
        · exact .inl h3
        · rcases List.mem_cons.mp h3 with rfl | h3
          · exact (h h4).elim
          · exact .inr ⟨h3, h4⟩
theorem addKs_keep {fl : Nat} : ∀ {ks : List Key} {ws : List Nat}, (∀ b ∈ ws, b ∈ addKs fl ks ws)
  | [], ws => fun b h => h
  | .h c :: ks, ws => fun b h => by
    simp only [addKs]
    apply addKs_keep
    simp only [addW]
    split
    · split
      · exact h
      · exact List.mem_cons_of_mem _ h
    · exact h
  | .l c :: ks, ws => fun b h => by
    simp only [addKs]
    exact addKs_keep b h
theorem addKs_not {fl : Nat} {b : Nat} (hb : b < fl) : ∀ {ks : List Key} {ws : List Nat}, .h b ∈ ks → b ∈ addKs fl ks ws
  | .h c :: ks, ws, h => by
    simp only [addKs]
    rcases List.mem_cons.mp h with h | h
    · cases h
      apply addKs_keep
      simp only [addW]
      rw [if_pos hb]
      split
      · rename_i h; simpa using h
      · exact List.mem_cons_self ..
    · exact addKs_not hb h
  | .l c :: ks, ws, h => by
    simp only [addKs]
    rcases List.mem_cons.mp h with h | h
    · cases h
    · exact addKs_not hb h
theorem hot109 : hotPairs (regOps Tryz.prog 109 7) = [(0, 2), (0, 5)] := by kernel_rfl
theorem dyn109 {p3 : Nat} {ii : Inf} {wsc : List Nat} (h : Key.h p3 ∉ ii.ws) : dynOk [rdK (.h p3), noInf, ⟨true, [], []⟩, noInf, noInf, ii, ⟨true, [], wsc.map .h⟩, noInf] (hotPairs (regOps Tryz.prog 109 7)) = true := by
  rw [hot109]
  simp only [dynOk, List.getElem?_cons_zero, List.getElem?_cons_succ, calm, calm1, rdK, List.all_nil, Bool.and_true, Bool.true_and, List.all_eq_true, Bool.false_and, Bool.not_false, List.contains_nil]
  intro k hk
  have : k ≠ .h p3 := fun e => h (e ▸ hk)
  simp [this]
def wFr {σ : Type} (f : Int → σ → σ) : Int → Nat → σ → σ
  | _, 0, s => s
  | k, m + 1, s => wFr f (k + 1) m (f k s)
def wF {σ : Type} (Y : σ → List Int → σ) : List K → List Int → σ → σ
  | [], w, s => Y s w
  | k :: ks, w, s => wFr (fun x s => wF Y ks (w ++ [x]) s) k.lo (k.hi - k.lo + 1).toNat s
def okW (cs : List K) (w : List Int) : Prop := ∀ (i : Nat) (x : Int) (k : K), w[i]? = some x → cs[i]? = some k → k.lo ≤ x ∧ x ≤ k.hi
end Go.Proofs.YtfhiejgoemcelaaGreat
namespace Go.Proofs.YtfhiejgoemcelaaGreat
open Go Tw
section
variable {L : Nat} {σ : Type} (bo l p1 p2 p3 : Nat) (Hb : List HB) (Rep : σ → List HB → Prop) (Y : σ → List Int → σ) (xc : TV) (cs : List K) (c0 : Nat)
def YldOk (L : Nat) : Prop := ∀ (n : Nat) (s : σ) (H : List HB) (xw : TV) (w : List Int), c0 ≤ n → Rep s H → KX bo l Hb H → Wd bo l H xw w → w.length = cs.length → okW cs w →
  ∃ H' wsc, AP L n (.yld l) [xw] H = some (.bool true, H', wsc) ∧ Rep (Y s w) H' ∧ KX bo l H H' ∧ (∀ b ∈ wsc, b = bo ∨ b = l) ∧ l ∈ wsc
abbrev evOf (p1 p2 p3 : Nat) : TV := .fn 109 [] [.ptr p1 0 1, .ptr p2 0 1, .ptr p3 0 1]
def ExtOk (L n : Nat) (ks : List K) : Prop := ∀ (w : List Int) (s : σ) (xw : TV) (H : List HB), cs.drop w.length = ks → w.length ≤ cs.length → Rep s H → KX bo l Hb H → Wd bo l H xw w → okW cs w →
  ∃ H' wsc, AP L n (evOf p1 p2 p3) [xw] H = some (.bool true, H', wsc) ∧ Rep (wF Y ks w s) H' ∧ KX bo l H H' ∧ (∀ b ∈ wsc, b = bo ∨ b = l) ∧ l ∈ wsc
variable {bo l p1 p2 p3 Hb Rep Y xc cs c0}
theorem cons_of {ws : List Nat} {l : Nat} (h : l ∈ ws) : ∃ w0 wr, ws = w0 :: wr := by
  cases ws with
  | nil => cases h
  | cons a t => exact ⟨a, t, rfl⟩
theorem ext_loop {n : Nat} (hn : 2 ≤ n) (hL : 30000 ≤ L) (hbo : bo < Hb.length) (hl : l < Hb.length) (hp3 : p3 ≠ bo ∧ p3 ≠ l ∧ rdAt false 1 Hb p3 0 1 = some (evOf p1 p2 p3)) (hcs : cs.length ≤ 3000) (hrep : ∀ s H H', Rep s H → Onto H H' → Rep s H')
    {ks : List K} {ch : K} {w : List Int} (hd : cs.drop w.length = ch :: ks) (hch0 : -10000 ≤ ch.lo) (hch1 : ch.hi ≤ 10000) (hext : ExtOk bo l p1 p2 p3 Hb Rep Y cs L (n - 1) ks) {xw : TV} {fl : Nat} (hw : okW cs w) :
    ∀ (m : Nat) (k : Int) (s : σ) (H : List HB) (ws : List Nat) (M : Nat), (ch.hi - k + 1).toNat = m → ch.lo ≤ k → k ≤ ch.hi + 1 → m < M → Rep s H → KX bo l Hb H → Wd bo l H xw w → fl ≤ H.length → l < fl → bo < fl → (∀ b ∈ ws, b = bo ∨ b = l) →
      ∃ H' ws' kf, rounds Tryz.prog T (AP L (n - 1)) L 109 0 fl M (W_extend xw p3 ch k H ws) = some (.exit 0, X_extend_2 xw p3 ch kf H' ws') ∧ Rep (wFr (fun x s => wF Y ks (w ++ [x]) s) k m s) H' ∧ KX bo l H H' ∧ (∀ b ∈ ws', b = bo ∨ b = l) ∧ ((0 < m ∨ l ∈ ws) → l ∈ ws')
  | 0, k, s, H, ws, M, hm, hk0, hk1, hM, hR, hK, hW, hfl, hlf, hbf, hws => by
    obtain ⟨M, rfl⟩ : ∃ k, M = k + 1 := ⟨M - 1, by omega⟩
    refine ⟨H, ws, k, ?_, hR, KX.refl, hws, ?_⟩
    · exact r_extend_2 (by omega) hL xw p3 ch k H ws (evOf p1 p2 p3) (hK.rd hp3.2.2 hp3.1 hp3.2.1) (by simp; omega)
    · rintro (h | h)
      · omega
      · exact h
  | m + 1, k, s, H, ws, M, hm, hk0, hk1, hM, hR, hK, hW, hfl, hlf, hbf, hws => by
    obtain ⟨M, rfl⟩ : ∃ k, M = k + 1 := ⟨M - 1, by omega⟩
    have hwlen : w.length < cs.length := by
      have := congrArg List.length hd
      simp only [List.length_drop, List.length_cons] at this
      omega
    have hchi : cs[w.length]? = some ch := by
      have := congrArg (·[0]?) hd
      simpa using this
    have hd' : cs.drop (w ++ [k]).length = ks := by
      have := congrArg List.tail hd
      simpa using this
    have hp3H : p3 < H.length := by
      have h1 := hK.rd hp3.2.2 hp3.1 hp3.2.1
      rcases Nat.lt_or_ge p3 H.length with h | h
      · exact h
      · simp [rdAt, blkCells, List.getElem?_eq_none h] at h1
    obtain ⟨cv, H1, hcl, hA⟩ := k_Clone (n := n - 1) (by omega) hL H xw w hW (by omega)
    obtain ⟨x', h', ii, hap, hA2, hii⟩ := hA.push (fun _ => rfl) (by omega) s24 i24 g3 (by omega) k
    have hO : Onto H h' := hA2.onto
    have hok : okW cs (w ++ [k]) := by
      intro i x kk hi hkk
      rcases Nat.lt_or_ge i w.length with hlt | hge
      · rw [List.getElem?_append_left hlt] at hi
        exact hw i x kk hi hkk
      · have hie : i = w.length := by
          have : i < (w ++ [k]).length := by
            rcases Nat.lt_or_ge i (w ++ [k]).length with h | h
            · exact h
            · rw [List.getElem?_eq_none h] at hi; cases hi
          simp only [List.length_append, List.length_cons, List.length_nil] at this
          omega
        subst hie
        rw [hchi] at hkk
        cases hkk
        simp at hi
        omega
    have hWd : Wd bo l h' x' (w ++ [k]) := Wd.app hA2 (Nat.lt_of_lt_of_le hbo hK.1) (Nat.lt_of_lt_of_le hl hK.1)
    obtain ⟨H3, wsc, hc, hR3, hK3, hwsc, hlw⟩ := hext (w ++ [k]) s x' h' hd' (by simp only [List.length_append, List.length_cons, List.length_nil]; omega) (hrep s H h' hR hO) (hK.trans (KX.onto hO)) hWd hok
    have hKn : KX bo l H H3 := (KX.onto hO).trans hK3
    have hnot : Key.h p3 ∉ ii.ws := by
      intro hmem
      have h1 := addKs_not (fl := H.length) hp3H (ws := []) hmem
      rw [hii H.length [] (Nat.le_refl _)] at h1
      cases h1
    have hstep := r_extend_1 (m := M) (fl := fl) hn hL xw p3 ch k H ws cv H1 x' h' ii true H3 wsc _ (evOf p1 p2 p3) (hK.rd hp3.2.2 hp3.1 hp3.2.1) (by simp; omega) rfl hcl hap (hii fl ws hfl) hc rfl (dyn109 hnot)
    rw [hstep, wrap_small (by omega) (by omega)]
    have hws1 : ∀ b ∈ addKs fl (wsc.map .h) ws, b = bo ∨ b = l := by
      intro b hb
      rcases addKs_mem.mp hb with h | h
      · exact hws b h
      · exact hwsc b h.1
    have hl1 : l ∈ addKs fl (wsc.map .h) ws := addKs_mem.mpr (.inr ⟨hlw, hlf⟩)
    obtain ⟨H', ws', kf, h1, h2, h3, h4, h5⟩ := ext_loop hn hL hbo hl hp3 hcs hrep hd hch0 hch1 hext hw m (k + 1) _ H3 _ M (by omega) (by omega) (by omega) (by omega) hR3 (hK.trans hKn) (hW.kx hKn) (Nat.le_trans hfl hKn.1) hlf hbf hws1
    exact ⟨H', ws', kf, h1, h2, hKn.trans h3, h4, fun _ => h5 (.inr hl1)⟩
theorem k_extend (hL : 30000 ≤ L) (hbo : bo < Hb.length) (hl : l < Hb.length) (hp1 : p1 ≠ bo ∧ p1 ≠ l ∧ rdAt false 1 Hb p1 0 1 = some xc) (hp2 : p2 ≠ bo ∧ p2 ≠ l ∧ rdAt false 1 Hb p2 0 1 = some (.yld l)) (hp3 : p3 ≠ bo ∧ p3 ≠ l ∧ rdAt false 1 Hb p3 0 1 = some (evOf p1 p2 p3))
    (hcs : cs.length ≤ 3000) (hc : ∀ H, KX bo l Hb H → SV H xc 3 K.tvs cs) (hrep : ∀ s H H', Rep s H → Onto H H' → Rep s H') (hy : YldOk bo l Hb Rep Y cs c0 L) (hr : ∀ k ∈ cs, -10000 ≤ k.lo ∧ k.lo ≤ k.hi ∧ k.hi ≤ 10000) :
    ∀ (ks : List K) (n : Nat), c0 + 2 + ks.length ≤ n → ExtOk bo l p1 p2 p3 Hb Rep Y cs L n ks
  | [], n, hn => by
    intro w s xw H hd hwl hR hK hW hok
    have hlen : w.length = cs.length := by
      have := congrArg List.length hd
      simp only [List.length_drop, List.length_nil] at this
      omega
    obtain ⟨H', wsc, h1, h2, h3, h4, h5⟩ := hy (n - 1) s H xw w (by simp only [List.length_nil] at hn; omega) hR hK hW hlen hok
    have hlH : l < H.length := Nat.lt_of_lt_of_le hl hK.1
    have hlm : l ∈ addKs H.length (wsc.map .h) [] := addKs_mem.mpr (.inr ⟨h5, hlH⟩)
    obtain ⟨w0, wr, hw⟩ := cons_of hlm
    refine ⟨H', w0 :: wr, ?_, h2, h3, ?_, hw ▸ hlm⟩
    · exact q_extend_0 (by omega) hL H l p1 p2 p3 xw xc w cs hW.sv (hc H hK) hwl (hK.rd hp1.2.2 hp1.1 hp1.2.1) (hK.rd hp2.2.2 hp2.1 hp2.2.1) H' wsc w0 wr true (by simp; omega) h1 hw
    · intro b hb
      rw [← hw] at hb
      rcases addKs_mem.mp hb with h | h
      · cases h
      · exact h4 b h.1
  | ch :: ks, n, hn => by
    intro w s xw H hd hwl hR hK hW hok
    have hwlen : w.length < cs.length := by
      have := congrArg List.length hd
      simp only [List.length_drop, List.length_cons] at this
      omega
    have hchi : cs[w.length]? = some ch := by
      have := congrArg (·[0]?) hd
      simpa using this
    have hchr := hr ch (List.mem_of_getElem? hchi)
    simp only [List.length_cons] at hn
    have hext := k_extend hL hbo hl hp1 hp2 hp3 hcs hc hrep hy hr ks (n - 1) (by omega)
    have hlH : l < H.length := Nat.lt_of_lt_of_le hl hK.1
    have hbH : bo < H.length := Nat.lt_of_lt_of_le hbo hK.1
    obtain ⟨H', ws', kf, h1, h2, h3, h4, h5⟩ := ext_loop (n := n) (fl := H.length) (by omega) hL hbo hl hp3 hcs hrep hd hchr.1 hchr.2.2 hext hok (ch.hi - ch.lo + 1).toNat ch.lo s H [] L rfl (Int.le_refl _) (by omega) (by omega) hR hK hW (Nat.le_refl _) hlH hbH (by simp)
    have hlm := h5 (.inl (by omega))
    obtain ⟨w0, wr, hw⟩ := cons_of hlm
    subst hw
    refine ⟨H', w0 :: wr, ?_, h2, h3, h4, hlm⟩
    have hget : cs.getD ((w.length : Nat) : Int).toNat K0 = ch := by simp [List.getD, hchi]
    refine q_extend_1 (by omega) hL H l p1 p2 p3 xw xc w cs hW.sv (hc H hK) hwl (hK.rd hp1.2.2 hp1.1 hp1.2.1) (hK.rd hp2.2.2 hp2.1 hp2.2.1) H' w0 wr kf (by simp; omega) ?_
    rw [hget]
    exact h1
end
end Go.Proofs.YtfhiejgoemcelaaGreat
namespace Go.Proofs.YtfhiejgoemcelaaGreat
open Go Tw
def met (x : V) (ob : B) : B := if decide (x.f > 0) = true then S_hull ob (S_with ⟨1, 0, 0⟩ [S_bit x.f]) true else S_hull ob ⟨x.n, x.n, 0⟩ true
def metStep (s : List B) (i : Nat) (x : V) : List B := s.set i (met x (s.getD i B0))
def metAll (s : List B) (vs : List V) : List B := (vs.foldl (fun (p : List B × Nat) a => (metStep p.1 p.2 a, p.2 + 1)) (s, 0)).1
theorem metFold_len : ∀ (vs : List V) (s : List B) (i : Nat), (vs.foldl (fun (p : List B × Nat) a => (metStep p.1 p.2 a, p.2 + 1)) (s, i)).1.length = s.length
  | [], _, _ => rfl
  | v :: vs, s, i => by
    simp only [List.foldl_cons]
    rw [metFold_len vs]
    simp [metStep]
theorem metAll_len {s : List B} {vs : List V} : (metAll s vs).length = s.length := metFold_len vs s 0
theorem KB_app {bo : Nat} {H : List HB} (e : List HB) : KX bo bo H (H ++ e) := KX.onto ⟨e, rfl⟩
theorem KB_set {bo : Nat} {H : List HB} {x : HB} : KX bo bo H (H.set bo x) := ⟨by simp, fun b _ h1 _ => by rw [List.getElem?_set_ne (fun e => h1 e.symm)]⟩
theorem KB_kx {bo l : Nat} {H H' : List HB} (h : KX bo bo H H') : KX bo l H H' := ⟨h.1, fun b hb h1 _ => h.2 b hb h1 h1⟩
theorem l_tcells {L n fl : Nat} (hn : 3 ≤ n) (hL : 30000 ≤ L) (b8 bo ko : Nat) (eo : Bool) (xv : TV) (vs : List V) (H0 : List HB) (s : List B) (ws : List Nat) (hb8 : rdAt false 1 H0 b8 0 1 = some (.slc bo 0 ko ko 3 eo)) (hne : b8 ≠ bo) (hxb : eb xv ≠ bo) (hs : SV H0 xv 2 V.tvs vs)
    (hvs : vs.length = ko) (hko : s.length = ko) (hk : ko < 4000) (hbo : H0[bo]? = some (.cells .own (s.map B.tvs).flatten)) (hfl : fl ≤ H0.length) (hws : ∀ b ∈ ws, b < fl) :
    ∃ H2 ws2, roundsT Tryz.prog T (AP L (n - 1)) L 29 1 fl L (W_tcells b8 bo ko eo xv vs.length 0 H0 ws) = some (.exit 4, X_tcells_2 b8 bo ko eo xv vs.length vs.length H2 ws2)
      ∧ KX bo bo H0 H2 ∧ H2[bo]? = some (.cells .own ((metAll s vs).map B.tvs).flatten) ∧ (∀ b ∈ ws2, b ∈ ws ∨ b = bo) ∧ (∀ b ∈ ws, b ∈ ws2) := by
  have hbl : bo < H0.length := by
    rcases Nat.lt_or_ge bo H0.length with h | h
    · exact h
    · rw [List.getElem?_eq_none h] at hbo; cases hbo
  obtain ⟨⟨H2, ws2⟩, h1, h2⟩ := factLoopG (R := fun m s => roundsT Tryz.prog T (AP L (n - 1)) L 29 1 fl m s) (W := fun (t : List HB × List Nat) i => W_tcells b8 bo ko eo xv vs.length i t.1 t.2) (X := fun (t : List HB × List Nat) i => X_tcells_2 b8 bo ko eo xv vs.length i t.1 t.2) (e := .exit 4) (all := vs)
    metStep (fun i t s => KX bo bo H0 t.1 ∧ t.1[bo]? = some (.cells .own (s.map B.tvs).flatten) ∧ s.length = ko ∧ (∀ b ∈ t.2, b ∈ ws ∨ b = bo) ∧ ∀ b ∈ ws, b ∈ t.2)
    (fun i x s t m ha hA => by
      obtain ⟨hK, hB, hlen, hw1, hw2⟩ := hA
      have hi : i < vs.length := by
        rcases Nat.lt_or_ge i vs.length with h | h
        · exact h
        · rw [List.getElem?_eq_none h] at ha; cases ha
      have hsH : SV t.1 xv 2 V.tvs vs := by
        rcases hs with h | ⟨b, off, cap, ex, rfl, hr, all, g1, g2⟩
        · exact .inl h
        · have hb : b < H0.length := by
            rcases Nat.lt_or_ge b H0.length with h | h
            · exact h
            · simp [blkCells, List.getElem?_eq_none h] at g1
          exact .inr ⟨b, off, cap, ex, rfl, hr, all, by simpa [blkCells, hK.2 b hb hxb hxb] using g1, g2⟩
      have h8 : rdAt false 1 t.1 b8 0 1 = some (.slc bo 0 ko ko 3 eo) := hK.rd hb8 hne hne
      obtain ⟨g1, g2⟩ := hsH.at ha
      have h0 : decide ((i : Int) < ((vs.length : Nat) : Int)) = true := by simp only [decide_eq_true_eq]; exact g1
      have hix := hsH.ix u65 z78 (i := (i : Int)) (by omega) g1
      have hj : idx ko (.int .i64 (i : Int)) = some i := idx_nat (by omega)
      have hil : i < s.length := by omega
      have hsi : s[i]? = some (s.getD i B0) := by simp [List.getD, List.getElem?_eq_getElem hil]
      have hfg := flat_get (sz := 3) (rows := s.map B.tvs) (by simp) (j := i) (r := B.tvs (s.getD i B0)) (by rw [List.getElem?_map, hsi]; rfl)
      have hob : rdAt true 3 t.1 bo (0 + i * 3) (0 + i * 3 + 3) = some (B.tv (s.getD i B0)) := by
        simp only [rdAt, blkCells, hB, Nat.zero_add, Nat.le_refl, if_true, hfg.1, Option.map_some]
      have hbt : bo < t.1.length := Nat.lt_of_lt_of_le hbl hK.1
      have hset : ∀ (e : List HB) (y : B), setH (t.1 ++ e) bo (0 + i * 3) (B.tvs y) = some ((t.1 ++ e).set bo (.cells .own ((s.set i y).map B.tvs).flatten)) := by
        intro e y
        have : (t.1 ++ e)[bo]? = some (.cells .own (s.map B.tvs).flatten) := by rw [List.getElem?_append_left hbt]; exact hB
        simp only [setH, this, Nat.zero_add]
        rw [over_row (sz := 3) (enc := B.tvs) (fun _ => rfl) s i y hil]
        rfl
      have hK2 : ∀ (e : List HB) (y : HB), KX bo bo H0 ((t.1 ++ e).set bo y) := fun e y => hK.trans ((KB_app e).trans KB_set)
      have hB2 : ∀ (e : List HB) (y : HB), ((t.1 ++ e).set bo y)[bo]? = some y := by
        intro e y
        rw [List.getElem?_set_self (by simp only [List.length_append]; omega)]
      have hww : (∀ b ∈ addW fl bo t.2, b ∈ ws ∨ b = bo) ∧ ∀ b ∈ ws, b ∈ addW fl bo t.2 := by
        unfold addW
        split
        · split
          · exact ⟨hw1, hw2⟩
          · exact ⟨fun b hb => by
              rcases List.mem_cons.mp hb with h | h
              · exact .inr h
              · exact hw1 b h, fun b hb => List.mem_cons_of_mem _ (hw2 b hb)⟩
        · exact ⟨hw1, hw2⟩
      by_cases hf : decide (x.f > 0) = true
      · refine ⟨(_, addW fl bo t.2), ⟨?_, ?_, ?_, hww.1, hww.2⟩, r_tcells_0 (m := m) (fl := fl) hn hL b8 bo ko eo xv vs.length (i : Int) t.1 t.2 x _ _ i (s.getD i B0) _ _ h8 (Nat.le_trans hfl hK.1) h0 hf hix hj hob (by rw [List.append_assoc, List.append_assoc]; exact hset _ _) rfl g2⟩
        · exact hK2 _ _
        · simp only [metStep, met, hf, if_true]; exact hB2 _ _
        · simp only [metStep, List.length_set]; exact hlen
      · refine ⟨(_, addW fl bo t.2), ⟨?_, ?_, ?_, hww.1, hww.2⟩, r_tcells_1 (m := m) (fl := fl) hn hL b8 bo ko eo xv vs.length (i : Int) t.1 t.2 x _ _ i (s.getD i B0) _ _ h8 (Nat.le_trans hfl hK.1) h0 (by simpa using hf) hix hj hob (by rw [List.append_assoc]; exact hset _ _) rfl g2⟩
        · exact hK2 _ _
        · simp only [metStep, met, hf, if_false]; exact hB2 _ _
        · simp only [metStep, List.length_set]; exact hlen)
    (fun s t m hA => r_tcells_2 (m := m) (fl := fl) hn hL b8 bo ko eo xv vs.length _ t.1 t.2 (hA.1.rd hb8 hne hne) (Nat.le_trans hfl hA.1.1) (by simp)) (by omega) vs 0 s (H0, ws) L rfl (Nat.zero_le _)
    ⟨KX.refl, hbo, hko, fun b hb => .inl hb, fun b hb => hb⟩ (by omega)
  exact ⟨H2, ws2, h1, h2.1, h2.2.1, h2.2.2.2.1, h2.2.2.2.2⟩
end Go.Proofs.YtfhiejgoemcelaaGreat
namespace Go.Proofs.YtfhiejgoemcelaaGreat
open Go Tw
noncomputable def lrec (bc b2 b3 b8 bw : Nat) (rdy : Bool) (pend : Option Code) : HB :=
  .loop rdy 29 (ntOf Tryz.prog 29) [(1, .val (.ptr bc 0 3)), (2, .val (.ptr b2 0 1)), (3, .val (.ptr b3 0 1)), (8, .val (.ptr b8 0 1)), (47, .val (.fn 108 [] [.ptr bw 0 1]))] [48] (rfAssign Tryz.prog 29) (rfBody Tryz.prog 29) pend
theorem a_round {L n fl : Nat} (h : List HB) (bc b2 b3 b8 bw : Nat) (xw : TV) :
    exec Tryz.prog T (AP L (n - 1)) L 29 true fl (ntOf Tryz.prog 29) (rfAssign Tryz.prog 29) ⟨putAll [(1, .val (.ptr bc 0 3)), (2, .val (.ptr b2 0 1)), (3, .val (.ptr b3 0 1)), (8, .val (.ptr b8 0 1)), (47, .val (.fn 108 [] [.ptr bw 0 1]))] [48] [xw], [], h, []⟩
      = some (.norm, ⟨[(1, .val (.ptr bc 0 3)), (2, .val (.ptr b2 0 1)), (3, .val (.ptr b3 0 1)), (8, .val (.ptr b8 0 1)), (9, .val (xw))], [], h, []⟩) :=
  exec_of (by kernel_rfl) .n
theorem nt29 : decide (48 < ntOf Tryz.prog 29) = true := by kernel_rfl
theorem addW_mem {fl l b : Nat} {ws : List Nat} : b ∈ addW fl l ws ↔ b ∈ ws ∨ (b = l ∧ l < fl) := by
  unfold addW
  split
  · rename_i h1
    split
    · rename_i h2
      have : l ∈ ws := by simpa using h2
      constructor
      · exact fun h => .inl h
      · rintro (h | ⟨rfl, _⟩)
        · exact h
        · exact this
    · constructor
      · intro h
        rcases List.mem_cons.mp h with rfl | h
        · exact .inr ⟨rfl, h1⟩
        · exact .inl h
      · rintro (h | ⟨rfl, _⟩)
        · exact List.mem_cons_of_mem _ h
        · exact List.mem_cons_self ..
  · rename_i h1
    constructor
    · exact fun h => .inl h
    · rintro (h | h)
      · exact h
      · exact (h1 h.2).elim
def RepT (l bo : Nat) (R : HB) (ko : Nat) (s : List B) (H : List HB) : Prop := H[l]? = some R ∧ H[bo]? = some (.cells .own (s.map B.tvs).flatten) ∧ s.length = ko
theorem RepT.onto {l bo ko : Nat} {R : HB} {s : List B} {H H' : List HB} (h : RepT l bo R ko s H) (ho : Onto H H') : RepT l bo R ko s H' := by
  obtain ⟨e, rfl⟩ := ho
  obtain ⟨h1, h2, h3⟩ := h
  have g : ∀ {b : Nat} {x : HB}, H[b]? = some x → (H ++ e)[b]? = some x := by
    intro b x hx
    rcases Nat.lt_or_ge b H.length with h | h
    · rw [List.getElem?_append_left h]; exact hx
    · rw [List.getElem?_eq_none h] at hx; cases hx
  exact ⟨g h1, g h2, h3⟩
theorem isWorld_ok {c : C} {w : List Int} (hl : w.length = c.cs.length) (hw : okW c.cs w) : S_isWorld c w = true := by
  unfold S_isWorld S_EqualFunc
  rw [if_neg (by simp [hl])]
  have key : ∀ (t : List K) (i : Nat), c.cs.drop i = t → isL (runL (F_isWorld w) t i ()) = true := by
    intro t
    induction t with
    | nil => intro i _; rfl
    | cons k t ih =>
      intro i hd
      have hk : c.cs[i]? = some k := by
        have := congrArg (·[0]?) hd
        simpa using this
      have hd' : c.cs.drop (i + 1) = t := by
        have := congrArg List.tail hd
        simpa using this
      have hi : i < w.length := by
        rcases Nat.lt_or_ge i c.cs.length with h | h
        · omega
        · rw [List.getElem?_eq_none h] at hk; cases hk
      have hx : w[i]? = some (w.getD i 0) := by simp [List.getD, List.getElem?_eq_getElem hi]
      obtain ⟨h1, h2⟩ := hw i _ k hx hk
      have hin : S_isWorld1 k (w.getD i 0) = true := by
        unfold S_isWorld1
        rw [within_iff]
        intro y hy
        simp only [List.mem_singleton] at hy
        subst hy
        exact ⟨h1, h2⟩
      simp only [runL, F_isWorld, Int.toNat_natCast]
      rw [if_neg (by rw [hin]; simp)]
      exact ih (i + 1) hd'
  rw [key c.cs 0 rfl]
  rfl
theorem yldOk {L : Nat} (hL : 30000 ≤ L) (bo l : Nat) (bc b2 b3 b8 bw : Nat) (ko : Nat) (eo : Bool) (Hb : List HB) (xc xo xr : TV) (c : C) (hbl : bo ≠ l) (hbo : bo < Hb.length) (hl : l < Hb.length) (hb0 : 0 < bo)
    (hbc : bc ≠ bo ∧ bc ≠ l ∧ rdAt true 3 Hb bc 0 3 = some (.agg [xc, xo, xr])) (hb8 : b8 ≠ bo ∧ b8 ≠ l ∧ rdAt false 1 Hb b8 0 1 = some (.slc bo 0 ko ko 3 eo))
    (hc : ∀ H, KX bo l Hb H → SV H xc 3 K.tvs c.cs ∧ SV H xo 5 O.tvs c.os ∧ SV H xr 1 I.tvs c.rs) (hko : ko = c.os.length) (hok : ((S_check c) != 0) = false) :
    YldOk bo l Hb (RepT l bo (lrec bc b2 b3 b8 bw true none) ko) (fun s w => metAll s (S_AllL c w)) c.cs 15 L := by
  intro n s H xw w hn hR hK hW hwl hokw
  obtain ⟨hRl, hRb, hRs⟩ := hR
  have hchk := check_ok hok
  have hlH : l < H.length := Nat.lt_of_lt_of_le hl hK.1
  have hboH : bo < H.length := Nat.lt_of_lt_of_le hbo hK.1
  have hKs : KX bo l H (H.set l (lrec bc b2 b3 b8 bw false none)) := ⟨by simp, fun b _ _ h2 => by rw [List.getElem?_set_ne (fun e => h2 e.symm)]⟩
  have hKs' := hK.trans hKs
  obtain ⟨g1, g2, g3⟩ := hc _ hKs'
  obtain ⟨v1, H1, hcall, hE1, hs1, hfr⟩ := k_All2 (n := n - 1) (by omega) hL (H.set l (lrec bc b2 b3 b8 bw false none)) xc xo xr xw c w g1 g2 g3 (hW.kx hKs).sv
  have hall : S_All c w = (S_AllL c w, 0) := by
    unfold S_All
    rw [if_neg (by rw [hchk.1]; simp), if_neg ?_, if_neg (by rw [isWorld_ok hwl hokw]; simp)]
    intro h
    rw [List.any_eq_true] at h
    obtain ⟨o, ho1, ho2⟩ := h
    obtain ⟨i, hi⟩ := List.getElem?_of_mem ho1
    have := ((hchk.2.1 i o hi).1).no
    simp [S_isParam] at ho2
    exact this ho2
  rw [hall] at hcall hs1
  simp only at hcall hs1
  have hlen1 : (S_AllL c w).length = c.os.length := by
    unfold S_AllL
    rw [bld_len (fun _ _ _ => rfl)]; simp
  have hHs : (H.set l (lrec bc b2 b3 b8 bw false none)).length = H.length := by simp
  have hK1 : KX bo l H H1 := hKs.trans (KX.onto hE1)
  have hb81 : rdAt false 1 H1 b8 0 1 = some (.slc bo 0 ko ko 3 eo) := (hK.trans hK1).rd hb8.2.2 hb8.1 hb8.2.1
  have hbo1 : H1[bo]? = some (.cells .own (s.map B.tvs).flatten) := by
    obtain ⟨e, rfl⟩ := hE1
    rw [List.getElem?_append_left (by rw [hHs]; exact hboH), List.getElem?_set_ne (fun e => hbl e.symm)]
    exact hRb
  have hl1 : H1[l]? = some (lrec bc b2 b3 b8 bw false none) := by
    obtain ⟨e, rfl⟩ := hE1
    rw [List.getElem?_append_left (by rw [hHs]; exact hlH), List.getElem?_set_self hlH]
  have heb : eb v1 ≠ bo := by
    rcases hfr with rfl | h
    · simp only [eb]; omega
    · rw [hHs] at h; omega
  have hlen1' : H.length ≤ H1.length := hK1.1
  obtain ⟨H2, ws2, hloop, hKB, hB2, hw1, hw2⟩ := l_tcells (n := n) (fl := H.length) (by omega) hL b8 bo ko eo v1 (S_AllL c w) H1 s [l] hb81 hb8.1 heb hs1 (by omega) hRs (by omega) hbo1 hlen1' (by simp; exact hlH)
  have hbody := b_round_0 (n := n) (fl := H.length) (by omega) hL (H.set l (lrec bc b2 b3 b8 bw false none)) [l] bc b2 b3 b8 bo ko eo xc xo xr xw (hKs'.rd hbc.2.2 hbc.1 hbc.2.1) v1 H1 0 (S_AllL c w) H2 ws2 hE1 hs1 rfl hcall hloop
  have hl2 : H2[l]? = some (lrec bc b2 b3 b8 bw false none) := by
    rw [hKB.2 l (Nat.lt_of_lt_of_le hlH hlen1') (fun e => hbl e.symm) (fun e => hbl e.symm)]; exact hl1
  have haddw : addW H.length l [] = [l] := by simp [addW, hlH]
  have hyld := ap_yld (P := Tryz.prog) (T := T) (L := L) (n := n) (l := l) (args := [xw]) (by omega) hRl ⟨rfl, by simp [nt29]⟩ (a_round (n := n) (fl := H.length) H bc b2 b3 b8 bw xw) hRl (by rw [haddw]; exact hbody) hl2
  have hl2len : l < H2.length := Nat.lt_of_lt_of_le (Nat.lt_of_lt_of_le hlH hlen1') hKB.1
  refine ⟨_, _, hyld, ⟨?_, ?_, ?_⟩, ?_, ?_, ?_⟩
  · rw [List.getElem?_set_self hl2len]; rfl
  · rw [List.getElem?_set_ne (fun e => hbl e.symm)]; exact hB2
  · rw [metAll_len]; exact hRs
  · exact hK1.trans ((KB_kx hKB).trans ⟨by simp, fun b _ _ h2 => by rw [List.getElem?_set_ne (fun e => h2 e.symm)]⟩)
  · intro b hb
    have hb : b ∈ addW H.length l ws2 := hb
    rcases addW_mem.mp hb with h | h
    · rcases hw1 b h with h | h
      · right; simpa using h
      · exact .inl h
    · exact .inr h.1
  · show l ∈ addW H.length l ws2
    exact addW_mem.mpr (.inl (hw2 l (by simp)))
end Go.Proofs.YtfhiejgoemcelaaGreat
namespace Go.Proofs.YtfhiejgoemcelaaGreat
open Go Tw
def S_Mul64 (x : Int) (y : Int) : Int × Int :=
  (IntKind.u64.wrap ((IntKind.u64.wrap ((IntKind.u64.wrap ((shrI .u64 (x) 32) * (shrI .u64 (y) 32))) + (shrI .u64 (IntKind.u64.wrap ((IntKind.u64.wrap ((shrI .u64 (x) 32) * (andI .u64 (y) 4294967295))) + (shrI .u64 (IntKind.u64.wrap ((andI .u64 (x) 4294967295) * (andI .u64 (y) 4294967295))) 32))) 32))) + (shrI .u64 (IntKind.u64.wrap ((andI .u64 (IntKind.u64.wrap ((IntKind.u64.wrap ((shrI .u64 (x) 32) * (andI .u64 (y) 4294967295))) + (shrI .u64 (IntKind.u64.wrap ((andI .u64 (x) 4294967295) * (andI .u64 (y) 4294967295))) 32))) 4294967295) + (IntKind.u64.wrap ((andI .u64 (x) 4294967295) * (shrI .u64 (y) 32))))) 32)), IntKind.u64.wrap ((x) * (y)))
theorem c_Mul64 {L n : Nat} (hn : 1 ≤ n) (hL : 30000 ≤ L) (h : List HB) (x : Int) (y : Int)  : AP L n (.fn 137 [] []) [.int .u64 (x), .int .u64 (y)] h = some (.tup [.int .u64 ((S_Mul64 x y).1), .int .u64 ((S_Mul64 x y).2)], h, []) :=
  (ap_t (by omega) (by kernel_rfl) (.r (binT_shr (by decide) : binT Tryz.prog .shr 154 ((.tmp 16)) ((.const (.int .u64 32))) (.int .u64 (x)) (.int .u64 32) = some (.int .u64 (shrI .u64 (x) 32))) <| .r (binT_shr (by decide) : binT Tryz.prog .shr 154 ((.tmp 20)) ((.const (.int .u64 32))) (.int .u64 (y)) (.int .u64 32) = some (.int .u64 (shrI .u64 (y) 32))) <| .r (binT_shr (by decide) : binT Tryz.prog .shr 154 ((.tmp 28)) ((.const (.int .u64 32))) (.int .u64 (IntKind.u64.wrap ((andI .u64 (x) 4294967295) * (andI .u64 (y) 4294967295)))) (.int .u64 32) = some (.int .u64 (shrI .u64 (IntKind.u64.wrap ((andI .u64 (x) 4294967295) * (andI .u64 (y) 4294967295))) 32))) <| .r (binT_shr (by decide) : binT Tryz.prog .shr 154 ((.tmp 33)) ((.const (.int .u64 32))) (.int .u64 (IntKind.u64.wrap ((IntKind.u64.wrap ((shrI .u64 (x) 32) * (andI .u64 (y) 4294967295))) + (shrI .u64 (IntKind.u64.wrap ((andI .u64 (x) 4294967295) * (andI .u64 (y) 4294967295))) 32)))) (.int .u64 32) = some (.int .u64 (shrI .u64 (IntKind.u64.wrap ((IntKind.u64.wrap ((shrI .u64 (x) 32) * (andI .u64 (y) 4294967295))) + (shrI .u64 (IntKind.u64.wrap ((andI .u64 (x) 4294967295) * (andI .u64 (y) 4294967295))) 32))) 32))) <| .r (binT_shr (by decide) : binT Tryz.prog .shr 154 ((.tmp 45)) ((.const (.int .u64 32))) (.int .u64 (IntKind.u64.wrap ((andI .u64 (IntKind.u64.wrap ((IntKind.u64.wrap ((shrI .u64 (x) 32) * (andI .u64 (y) 4294967295))) + (shrI .u64 (IntKind.u64.wrap ((andI .u64 (x) 4294967295) * (andI .u64 (y) 4294967295))) 32))) 4294967295) + (IntKind.u64.wrap ((andI .u64 (x) 4294967295) * (shrI .u64 (y) 32)))))) (.int .u64 32) = some (.int .u64 (shrI .u64 (IntKind.u64.wrap ((andI .u64 (IntKind.u64.wrap ((IntKind.u64.wrap ((shrI .u64 (x) 32) * (andI .u64 (y) 4294967295))) + (shrI .u64 (IntKind.u64.wrap ((andI .u64 (x) 4294967295) * (andI .u64 (y) 4294967295))) 32))) 4294967295) + (IntKind.u64.wrap ((andI .u64 (x) 4294967295) * (shrI .u64 (y) 32))))) 32))) <| .n))
def S_Mul (x : Int) (y : Int) : Int × Int :=
  ((S_Mul64 x y).1, (S_Mul64 x y).2)
theorem c_Mul {L n : Nat} (hn : 2 ≤ n) (hL : 30000 ≤ L) (h : List HB) (x : Int) (y : Int)  : AP L n (.fn 107 [] []) [.int .u64 (x), .int .u64 (y)] h = some (.tup [.int .u64 ((S_Mul x y).1), .int .u64 ((S_Mul x y).2)], h, []) :=
  (ap_t (by omega) (by kernel_rfl) (.b (rfl : false = false) <| .c (c_Mul64 (by omega) hL h x y) <| .n))
abbrev W_Repeat (bo : Nat) (kk : Nat) (k : Int) (h : List HB) : St := ⟨[(7, .val (.slc bo 0 kk kk 3 true)), (8, .val (.int .i64 (k)))], [], h, []⟩
theorem r_Repeat_0 {L n m fl : Nat} (hn : 1 ≤ n) (hL : 30000 ≤ L) (bo : Nat) (kk : Nat) (k : Int) (h : List HB) (sao san sak : Nat) (sbo sbn sbk : Nat) (cn : Int) (h' : List HB) (ii : Inf)  (h0 : (decide ((k) < ((kk : Nat) : Int))) = true) (hsa : sliceT Tryz.prog 29 (.slc bo 0 kk kk 3 true) (some (.int .i64 (k))) none none = some (.slc bo sao san sak 3 true)) (hsb : sliceT Tryz.prog 29 (.slc bo 0 kk kk 3 true) none (some (.int .i64 (k))) none = some (.slc bo sbo sbn sbk 3 true)) (hcp : copyT Tryz.prog #[29, 29] (onH h) (.slc bo sao san sak 3 true) (.slc bo sbo sbn sbk 3 true) = some (.int .i64 cn, onH h', ii)) (hii : addKs fl ii.ws [] = []) (hdyn9 : dynOk [noInf, noInf, noInf, noInf, noInf, noInf, noInf, ii, noInf, noInf] (hotPairs (regOps Tryz.prog 66 9)) = true) : rounds Tryz.prog T (AP L (n - 1)) L 66 0 fl (m + 1) (W_Repeat bo kk k h) = rounds Tryz.prog T (AP L (n - 1)) L 66 0 fl m (W_Repeat bo kk (IntKind.i64.wrap ((k) + (cn))) h') :=
  round_on (s1 := ⟨[(7, .val (.slc bo 0 kk kk 3 true)), (8, .val (.int .i64 (IntKind.i64.wrap ((k) + (cn)))))], [], h', []⟩) (by kernel_rfl) (.k (by kernel_rfl : lenT Tryz.prog #[29] h (.slc bo 0 kk kk 3 true) = some (.int .i64 ((kk : Nat) : Int), noInf)) <| .b h0 <| .r hsa <| .r hsb <| .a (.hp (.int .i64 cn) h' ii []) <| .o (hcp : copyT Tryz.prog #[29, 29] (onH h) (.slc bo sao san sak 3 true) (.slc bo sbo sbn sbk 3 true) = some (.int .i64 cn, onH h', ii)) <| .o (hii : addKs fl ii.ws [] = []) <| .d (hdyn9 : dynOk [noInf, noInf, noInf, noInf, noInf, noInf, noInf, ii, noInf, noInf] (hotPairs (regOps Tryz.prog 66 9)) = true) <| .n) (rounds_congr (by kernel_rfl))
abbrev X_Repeat_1 (bo : Nat) (kk : Nat) (k : Int) (h : List HB)  : St := ⟨[(7, .val (.slc bo 0 kk kk 3 true)), (8, .val (.int .i64 (k))), (37, .val (.bool (decide ((k) < ((kk : Nat) : Int)))))], [], h, []⟩
theorem r_Repeat_1 {L n m fl : Nat} (hn : 1 ≤ n) (hL : 30000 ≤ L) (bo : Nat) (kk : Nat) (k : Int) (h : List HB)   (h0 : (decide ((k) < ((kk : Nat) : Int))) = false) : rounds Tryz.prog T (AP L (n - 1)) L 66 0 fl (m + 1) (W_Repeat bo kk k h) = some ((.exit 0), X_Repeat_1 bo kk k h ) :=
  round_out (s1 := X_Repeat_1 bo kk k h ) (by kernel_rfl) (.k (by kernel_rfl : lenT Tryz.prog #[29] h (.slc bo 0 kk kk 3 true) = some (.int .i64 ((kk : Nat) : Int), noInf)) <| .b h0 <| .n) rfl
theorem c_Repeat {L n : Nat} (hn : 3 ≤ n) (hL : 30000 ≤ L) (h : List HB) (b1 : Nat) (q : Int) (kk : Nat) (zs : List TV) (cn : Int) (h' : List HB) (ii : Inf) (H2 : List HB) (kf : Int)  (h0 : (decide ((q) < 0)) = false) (h1 : (decide ((q) > 9223372036854775807)) = false) (hmul : AP L (n - 1) (.fn 107 [] []) [.int .u64 1, .int .u64 (IntKind.u64.wrap (q))] h = some (.tup [.int .u64 0, .int .u64 (q)], h, [])) (hmk : makeSliceT Tryz.prog 29 (onH h) (.int .i64 (IntKind.i64.wrap (q))) (.int .i64 (IntKind.i64.wrap (q))) = some (.slc h.length 0 kk kk 3 true, onH (h ++ [HB.cells .own zs]))) (hcp : copyT Tryz.prog #[29, 29] (onH (h ++ [HB.cells .own zs])) (.slc h.length 0 kk kk 3 true) (.slc b1 0 1 1 3 true) = some (.int .i64 cn, onH h', ii)) (hii : addKs h.length ii.ws [] = []) (hloop : rounds Tryz.prog T (AP L (n - 1)) L 66 0 h.length L (W_Repeat (h.length) kk cn h') = some (.exit 0, X_Repeat_1 (h.length) kk kf H2)) : AP L n (.fn 66 [] []) [.slc b1 0 1 1 3 true, .int .i64 (q)] h = some (.slc h.length 0 kk kk 3 true, H2, []) :=
  ap_t (by omega) (by kernel_rfl) (.b h0 <| .k (by kernel_rfl : lenT Tryz.prog #[29] h (.slc b1 0 1 1 3 true) = some (.int .i64 1, noInf)) <| .c hmul <| .b3 (rfl : false = false) <| .b h1 <| .a (.hp (.slc h.length 0 kk kk 3 true) (h ++ [HB.cells .own zs]) noInf []) <| .o (hmk : makeSliceT Tryz.prog 29 (onH h) (.int .i64 (IntKind.i64.wrap (q))) (.int .i64 (IntKind.i64.wrap (q))) = some (.slc h.length 0 kk kk 3 true, onH (h ++ [HB.cells .own zs]))) <| .o (rfl : ([] : List Nat) = []) <| .a (.hp (.int .i64 cn) h' ii []) <| .o (hcp : copyT Tryz.prog #[29, 29] (onH (h ++ [HB.cells .own zs])) (.slc h.length 0 kk kk 3 true) (.slc b1 0 1 1 3 true) = some (.int .i64 cn, onH h', ii)) <| .o (hii : addKs h.length ii.ws [] = []) <| .w ((rounds_congr (by kernel_rfl)).trans hloop : rounds Tryz.prog T (AP L (n - 1)) L 66 0 h.length L ⟨[(7, .val (.slc h.length 0 kk kk 3 true)), (8, .val (.int .i64 (cn)))], [], h', []⟩ = some ((.exit 0), ⟨[(7, .val (.slc h.length 0 kk kk 3 true)), (8, .val (.int .i64 (kf))), (37, .val (.bool (decide ((kf) < ((kk : Nat) : Int)))))], [], H2, []⟩)) <| .n)
end Go.Proofs.YtfhiejgoemcelaaGreat
namespace Go.Proofs.YtfhiejgoemcelaaGreat
open Go Tw
theorem take_flat {α : Type} {sz : Nat} {enc : α → List TV} (hz : ∀ a, (enc a).length = sz) : ∀ (l : List α) (i : Nat), (l.map enc).flatten.take (i * sz) = ((l.take i).map enc).flatten
  | [], i => by simp
  | a :: l, 0 => by simp
  | a :: l, i + 1 => by
    simp only [List.map_cons, List.flatten_cons, List.take_succ_cons]
    rw [show (i + 1) * sz = (enc a).length + i * sz by rw [hz, Nat.add_mul]; omega, List.take_append, Nat.add_sub_cancel_left, take_flat hz l i, List.take_of_length_le (by omega)]
theorem drop_flat {α : Type} {sz : Nat} {enc : α → List TV} (hz : ∀ a, (enc a).length = sz) : ∀ (l : List α) (i : Nat), (l.map enc).flatten.drop (i * sz) = ((l.drop i).map enc).flatten
  | [], i => by simp
  | a :: l, 0 => by simp
  | a :: l, i + 1 => by
    simp only [List.map_cons, List.flatten_cons, List.drop_succ_cons]
    rw [show (i + 1) * sz = (enc a).length + i * sz by rw [hz, Nat.add_mul]; omega, List.drop_append, Nat.add_sub_cancel_left, drop_flat hz l i, List.drop_of_length_le (by omega), List.nil_append]
def rep (r : B) (k n : Nat) : List B := List.replicate k r ++ List.replicate (n - k) B0
def repC (r : B) (k n : Nat) : List TV := ((rep r k n).map B.tvs).flatten
theorem rep_len {r : B} {k n : Nat} (h : k ≤ n) : (rep r k n).length = n := by simp [rep]; omega
theorem repC_len {r : B} {k n : Nat} (h : k ≤ n) : (repC r k n).length = n * 3 := by
  unfold repC
  rw [flat_len (enc := B.tvs) (sz := 3) (fun _ => rfl), rep_len h]
theorem over_rep {r : B} {k m n : Nat} (h : k + m ≤ n) : over (repC r k n) (k * 3) ((List.replicate m r).map B.tvs).flatten = some (repC r (k + m) n) := by
  have hl : ((List.replicate m r).map B.tvs).flatten.length = m * 3 := by
    rw [flat_len (enc := B.tvs) (sz := 3) (fun _ => rfl)]; simp
  unfold over
  rw [hl, repC_len (by omega), if_pos (by omega)]
  simp only [Option.some.injEq]
  unfold repC
  rw [show k * 3 + m * 3 = (k + m) * 3 by omega, take_flat (enc := B.tvs) (fun _ => rfl), drop_flat (enc := B.tvs) (fun _ => rfl)]
  have e1 : (rep r k n).take k = List.replicate k r := by
    unfold rep
    rw [List.take_append_of_le_length (by simp), List.take_of_length_le (by simp)]
  have e2 : (rep r k n).drop (k + m) = List.replicate (n - (k + m)) B0 := by
    unfold rep
    rw [List.drop_append, List.drop_of_length_le (by simp)]
    simp only [List.length_replicate, Nat.add_sub_cancel_left, List.nil_append, List.drop_replicate]
    congr 1
    omega
  rw [e1, e2]
  unfold rep
  rw [← List.replicate_append_replicate]
  simp only [List.map_append, List.flatten_append]
theorem times_rep (n : Nat) : times [.int .i64 0, .int .i64 0, .int .u8 0] n = repC ⟨1, 0, 0⟩ 0 n := by
  have : ∀ n, times [.int .i64 0, .int .i64 0, .int .u8 0] n = ((List.replicate n B0).map B.tvs).flatten := by
    intro n
    induction n with
    | zero => rfl
    | succ n ih => simp only [times, ih, List.replicate_succ, List.map_cons, List.flatten_cons]
  rw [this]
  simp [repC, rep]
theorem sl29 : Tryz.prog.underlying 29 = some (.slice 38) := u29
theorem dyn66 {ii : Inf} : dynOk [noInf, noInf, noInf, noInf, noInf, noInf, noInf, ii, noInf, noInf] (hotPairs (regOps Tryz.prog 66 9)) = true := by kernel_rfl
theorem copyT_rows {H : List HB} {bo d dn dk : Nat} {de : Bool} {src : TV} {m : Nat} {new : List TV} {cs cs' : List TV} (hs : srcCells 3 H src = some (m, new)) (hnew : new.length = m * 3) (hstr : isStr src = false) (hm : min m dn ≠ 0) (hb : H[bo]? = some (.cells .own cs)) (ho : over cs d (new.take (min m dn * 3)) = some cs') :
    copyT Tryz.prog #[29, 29] (onH H) (.slc bo d dn dk 3 de) src = some (.int .i64 ((min m dn : Nat) : Int), onH (H.set bo (.cells .own cs')), ⟨false, .h bo :: srcKeys src, [.h bo]⟩) := by
  simp only [copyT, show (#[29, 29] : Array TypeId)[0]? = some 29 from rfl, s29, hs, hnew, hstr, and_self, if_true, hm, if_false, setH, hb, ho, Option.map_some]
theorem l_Repeat {L n fl : Nat} (hn : 1 ≤ n) (hL : 30000 ≤ L) (bo kk : Nat) (r : B) (hfl : fl ≤ bo) : ∀ (m k : Nat) (H : List HB) (M : Nat), kk - k ≤ m → k ≤ kk → (k = 0 → kk = 0) → m < M → kk < 2 ^ 60 → H[bo]? = some (.cells .own (repC r k kk)) →
    ∃ H2 kf, rounds Tryz.prog T (AP L (n - 1)) L 66 0 fl M (W_Repeat bo kk k H) = some (.exit 0, X_Repeat_1 bo kk kf H2) ∧ H2 = H.set bo (.cells .own (repC r kk kk)) := by
  intro m
  induction m with
  | zero =>
    intro k H M hm hk h0 hM hkk hB
    obtain ⟨M, rfl⟩ : ∃ k, M = k + 1 := ⟨M - 1, by omega⟩
    have : k = kk := by omega
    subst this
    refine ⟨H, k, r_Repeat_1 hn hL bo k k H (by simp), ?_⟩
    have hlt : bo < H.length := by
      rcases Nat.lt_or_ge bo H.length with h | h
      · exact h
      · rw [List.getElem?_eq_none h] at hB; cases hB
    apply List.ext_getElem?
    intro i
    by_cases hi : bo = i
    · subst hi; rw [List.getElem?_set_self hlt]; exact hB
    · rw [List.getElem?_set_ne hi]
  | succ m ih =>
    intro k H M hm hk h0 hM hkk hB
    obtain ⟨M, rfl⟩ : ∃ k, M = k + 1 := ⟨M - 1, by omega⟩
    by_cases hke : k = kk
    · exact ih k H (M + 1) (by omega) hk h0 (by omega) hkk hB
    · have hk0 : 0 < k := by
        rcases Nat.eq_zero_or_pos k with h | h
        · have := h0 h; omega
        · exact h
      have hlt : bo < H.length := by
        rcases Nat.lt_or_ge bo H.length with h | h
        · exact h
        · rw [List.getElem?_eq_none h] at hB; cases hB
      have hsa : sliceT Tryz.prog 29 (.slc bo 0 kk kk 3 true) (some (.int .i64 (k : Int))) none none = some (.slc bo (0 + k * 3) (kk - k) (kk - k) 3 true) := by
        simp only [sliceT, sl29, z38, optB, boundT, if_true]
        rw [if_pos (by omega)]; simp
      have hsb : sliceT Tryz.prog 29 (.slc bo 0 kk kk 3 true) none (some (.int .i64 (k : Int))) none = some (.slc bo (0 + 0 * 3) (k - 0) (kk - 0) 3 true) := by
        simp only [sliceT, sl29, z38, optB, boundT, if_true]
        rw [if_pos (by omega)]; simp
      have hsrc : srcCells 3 H (.slc bo (0 + 0 * 3) (k - 0) (kk - 0) 3 true) = some (k, ((List.replicate k r).map B.tvs).flatten) := by
        simp only [srcCells, if_true, blkCells, hB, sub, Nat.zero_mul, Nat.add_zero, Nat.sub_zero, Nat.zero_add, List.drop_zero]
        rw [if_pos (by rw [repC_len hk]; omega)]
        unfold repC
        rw [take_flat (enc := B.tvs) (fun _ => rfl)]
        simp [rep]
      have hmin : min k (kk - k) ≠ 0 := by omega
      have hov := over_rep (r := r) (k := k) (m := min k (kk - k)) (n := kk) (by omega)
      have htk : (((List.replicate k r).map B.tvs).flatten).take (min k (kk - k) * 3) = ((List.replicate (min k (kk - k)) r).map B.tvs).flatten := by
        rw [take_flat (enc := B.tvs) (fun _ => rfl)]
        simp
      have hcp := copyT_rows (bo := bo) (d := 0 + k * 3) (dn := kk - k) (dk := kk - k) (de := true) hsrc (by rw [flat_len (enc := B.tvs) (sz := 3) (fun _ => rfl)]; simp) rfl hmin hB (by rw [htk, Nat.zero_add]; exact hov)
      have hstep := r_Repeat_0 (m := M) (fl := fl) hn hL bo kk k H _ _ _ _ _ _ _ _ _ (by simp; omega) hsa hsb hcp (addKs_one hfl) dyn66
      rw [hstep, show ((k : Int) + ((min k (kk - k) : Nat) : Int)) = ((k + min k (kk - k) : Nat) : Int) by omega, wrap_small (by omega) (by omega)]
      obtain ⟨H2, kf, h1, h2⟩ := ih (k + min k (kk - k)) (H.set bo (.cells .own (repC r (k + min k (kk - k)) kk))) M (by omega) (by omega) (by omega) (by omega) hkk (by rw [List.getElem?_set_self hlt])
      exact ⟨H2, kf, h1, by rw [h2, List.set_set]⟩
end Go.Proofs.YtfhiejgoemcelaaGreat
namespace Go.Proofs.YtfhiejgoemcelaaGreat
open Go Tw
theorem wrapu_small {z : Int} (h0 : 0 ≤ z) (h1 : z < 2 ^ 63) : IntKind.u64.wrap z = z := by
  simp only [IntKind.wrap, IntKind.bits, IntKind.signed]
  have : z % (2 ^ 64 : Int) = z := Int.emod_eq_of_lt h0 (by omega)
  simp only [this]
  simp
theorem and_small {z : Int} (h0 : 0 ≤ z) (h1 : z < 2 ^ 32) : andI .u64 z 4294967295 = z := by
  have e : (BitVec.ofInt 64 z &&& BitVec.ofInt 64 4294967295).toNat = z.toNat := by
    rw [BitVec.toNat_and, BitVec.toNat_ofInt, BitVec.toNat_ofInt]
    have h2 : (z % ((2 ^ 64 : Nat) : Int)).toNat = z.toNat := by rw [Int.emod_eq_of_lt h0 (by omega)]
    have h3 : ((4294967295 : Int) % ((2 ^ 64 : Nat) : Int)).toNat = 2 ^ 32 - 1 := by decide
    rw [h2, h3, Nat.and_two_pow_sub_one_eq_mod]
    exact Nat.mod_eq_of_lt (by omega)
  show IntKind.u64.wrap ((BitVec.ofInt 64 z &&& BitVec.ofInt 64 4294967295).toNat : Nat) = z
  rw [e, wrapu_small (by omega) (by omega)]
  omega
theorem shr_small {z : Int} (h0 : 0 ≤ z) (h1 : z < 2 ^ 32) : shrI .u64 z 32 = 0 := by
  show z.fdiv (2 ^ (min (32 : Int).toNat 64)) = 0
  rw [show min (32 : Int).toNat 64 = 32 from rfl, Int.fdiv_eq_ediv_of_nonneg _ (by decide)]
  exact Int.ediv_eq_zero_of_lt h0 h1
theorem Mul_one {q : Int} (h0 : 0 ≤ q) (h1 : q ≤ 5000) : S_Mul 1 q = (0, q) := by
  unfold S_Mul S_Mul64
  simp only [and_small h0 (show q < 2 ^ 32 by omega), shr_small h0 (show q < 2 ^ 32 by omega), show shrI .u64 1 32 = 0 from rfl, show andI .u64 1 4294967295 = 1 from rfl, Int.zero_mul, Int.mul_zero, Int.one_mul, wrapu_small h0 (show q < 2 ^ 63 by omega), show IntKind.u64.wrap 0 = 0 from rfl, Int.add_zero, Int.zero_add, show andI .u64 0 4294967295 = 0 from rfl, show shrI .u64 0 32 = 0 from rfl]
theorem makeSlice29 {H : List HB} {n : Nat} (hn : n ≤ 5000) : makeSliceT Tryz.prog 29 (onH H) (.int .i64 (n : Int)) (.int .i64 (n : Int)) = some (.slc H.length 0 n n 3 true, onH (H ++ [HB.cells .own (times [.int .i64 0, .int .i64 0, .int .u8 0] n)])) := by
  have h1 : natT (.int .i64 (n : Int)) = some n := by
    simp only [natT]
    rw [if_pos (by omega)]; simp
  have hz : zeroT Tryz.prog 38 = some [.int .i64 0, .int .i64 0, .int .u8 0] := by kernel_rfl
  simp only [makeSliceT, s29, h1, Nat.le_refl, bigRoom_le g38 hn, and_self, if_true, hz]
  rfl
theorem k_Repeat {L n : Nat} (hn : 3 ≤ n) (hL : 30000 ≤ L) (h : List HB) (b1 : Nat) (r : B) (kk : Nat) (hk : kk ≤ 5000) (hb : h[b1]? = some (.cells .own (B.tvs r))) :
    AP L n (.fn 66 [] []) [.slc b1 0 1 1 3 true, .int .i64 (kk : Int)] h = some (.slc h.length 0 kk kk 3 true, h ++ [HB.cells .own (repC r kk kk)], []) := by
  have hlt : b1 < h.length := by
    rcases Nat.lt_or_ge b1 h.length with h | h
    · exact h
    · rw [List.getElem?_eq_none h] at hb; cases hb
  have hmul := c_Mul (n := n - 1) (by omega) hL h 1 (IntKind.u64.wrap (kk : Int))
  rw [wrapu_small (by omega) (by omega), Mul_one (by omega) (by omega)] at hmul
  have hmk := makeSlice29 (H := h) hk
  have hz0 : repC r 0 kk = times [.int .i64 0, .int .i64 0, .int .u8 0] kk := by
    rw [times_rep]; simp [repC, rep]
  rw [← hz0] at hmk
  have hsrc : srcCells 3 (h ++ [HB.cells .own (repC r 0 kk)]) (.slc b1 0 1 1 3 true) = some (1, B.tvs r) := by
    simp only [srcCells, if_true, blkCells, List.getElem?_append_left hlt, hb, sub]
    rfl
  have hnew : (h ++ [HB.cells .own (repC r 0 kk)])[h.length]? = some (.cells .own (repC r 0 kk)) := by simp
  have hset2 : ∀ x y : HB, (h ++ [x]).set h.length y = h ++ [y] := by
    intro x y
    rw [List.set_append_right _ _ (Nat.le_refl _)]
    simp
  have hset : ∀ x : HB, (h ++ [HB.cells .own (repC r 0 kk)]).set h.length x = h ++ [x] := by
    intro x
    rw [List.set_append_right _ _ (Nat.le_refl _)]
    simp
  rcases Nat.eq_zero_or_pos kk with h0 | h0
  · subst h0
    have hcp : copyT Tryz.prog #[29, 29] (onH (h ++ [HB.cells .own (repC r 0 0)])) (.slc h.length 0 0 0 3 true) (.slc b1 0 1 1 3 true) = some (.int .i64 0, onH (h ++ [HB.cells .own (repC r 0 0)]), rdKs [.h b1]) := by
      simp only [copyT, show (#[29, 29] : Array TypeId)[0]? = some 29 from rfl, s29, hsrc]
      rfl
    obtain ⟨H2, kf, h1, h2⟩ := l_Repeat (L := L) (n := n) (fl := h.length) (by omega) hL h.length 0 r (Nat.le_refl _) 0 0 _ L (by omega) (by omega) (by omega) (by omega) (by omega) hnew
    have := c_Repeat hn hL h b1 ((0 : Nat) : Int) 0 _ 0 _ _ H2 kf (by simp) (by simp) (by rw [wrapu_small (by omega) (by omega)]; exact hmul) (by rw [wrap_small (by omega) (by omega)]; exact hmk) hcp rfl h1
    rw [this, h2, hset]
  · have hmin : min 1 kk = 1 := by omega
    have hov : over (repC r 0 kk) 0 ((B.tvs r).take (min 1 kk * 3)) = some (repC r 1 kk) := by
      have := over_rep (r := r) (k := 0) (m := 1) (n := kk) (by omega)
      rw [hmin]
      simpa using this
    have hcp := copyT_rows (bo := h.length) (d := 0) (dn := kk) (dk := kk) (de := true) hsrc rfl rfl (by omega) hnew hov
    rw [hmin, hset] at hcp
    obtain ⟨H2, kf, h1, h2⟩ := l_Repeat (L := L) (n := n) (fl := h.length) (by omega) hL h.length kk r (Nat.le_refl _) kk 1 (h ++ [HB.cells .own (repC r 1 kk)]) L (by omega) (by omega) (by omega) (by omega) (by omega) (by simp)
    have := c_Repeat hn hL h b1 (kk : Int) kk _ ((1 : Nat) : Int) _ _ H2 kf (by simp) (by simp; omega) (by rw [wrapu_small (by omega) (by omega)]; exact hmul) (by rw [wrap_small (by omega) (by omega)]; exact hmk) hcp (addKs_one (Nat.le_refl _)) h1
    rw [this, h2, hset2]
end Go.Proofs.YtfhiejgoemcelaaGreat
namespace Go.Proofs.YtfhiejgoemcelaaGreat
open Go Tw
abbrev W_tmany (bc : Nat) (b2 : Nat) (b3 : Nat) (m0 : Int) (xc : TV) (len : Nat) (i : Int) (h : List HB) : St := ⟨[(1, .val (.ptr bc 0 3)), (2, .val (.ptr b2 0 1)), (3, .val (.ptr b3 0 1)), (5, .val (.int .i64 (m0))), (21, .val (xc)), (22, .val (.int .i64 ((len : Nat) : Int))), (23, .val (.int .i64 (i)))], [], h, []⟩
theorem r_tmany_0 {L n m fl : Nat} (hn : 1 ≤ n) (hL : 30000 ≤ L) (bc : Nat) (b2 : Nat) (b3 : Nat) (m0 : Int) (xc : TV) (len : Nat) (i : Int) (h : List HB) (x : K) (b_x : Nat) (o_x : Nat) (hfl : fl ≤ h.length)  (h0 : (decide ((i) < ((len : Nat) : Int))) = true) (hi_x : indexAddrT Tryz.prog 22 (.val xc) (.int .i64 (i)) = some (.val (.ptr b_x o_x (o_x + 3)))) (hr_x : Rw h b_x o_x (K.tvs x)) : rounds Tryz.prog T (AP L (n - 1)) L 29 0 fl (m + 1) (W_tmany bc b2 b3 m0 xc len i h) = rounds Tryz.prog T (AP L (n - 1)) L 29 0 fl m (W_tmany bc b2 b3 (IntKind.i64.wrap ((m0) * (IntKind.i64.wrap ((IntKind.i64.wrap ((x.hi) - (x.lo))) + 1)))) xc len (IntKind.i64.wrap ((i) + 1)) (h ++ [HB.cells .own [.str x.name, .int .i64 (x.lo), .int .i64 (x.hi)]])) :=
  round_on (s1 := ⟨[(1, .val (.ptr bc 0 3)), (2, .val (.ptr b2 0 1)), (3, .val (.ptr b3 0 1)), (5, .val (.int .i64 (IntKind.i64.wrap ((m0) * (IntKind.i64.wrap ((IntKind.i64.wrap ((x.hi) - (x.lo))) + 1)))))), (21, .val (xc)), (22, .val (.int .i64 ((len : Nat) : Int))), (23, .val (.int .i64 (IntKind.i64.wrap ((i) + 1))))], [], h ++ [HB.cells .own [.str x.name, .int .i64 (x.lo), .int .i64 (x.hi)]], []⟩) (by kernel_rfl) (.b h0 <| .p hi_x <| .l (hr_x.agg rfl (Nat.le_refl _) : rdAt true 3 h b_x o_x (o_x + 3) = some (K.tv x)) <| .a (.st (h ++ [HB.cells .own [.str x.name, .int .i64 (x.lo), .int .i64 (x.hi)]]) []) <| .o (by simp [setH, over] : setH (h ++ [HB.cells .own [.str ByteArray.empty, .int .i64 0, .int .i64 0]]) h.length 0 [.str x.name, .int .i64 (x.lo), .int .i64 (x.hi)] = some (h ++ [HB.cells .own [.str x.name, .int .i64 (x.lo), .int .i64 (x.hi)]])) <| .o (by omega : 0 + 3 ≤ 3) <| .o (by unfold addW; rw [if_neg (by first | omega | (simp only [List.length_append, List.length_cons, List.length_nil]; omega))] : addW fl h.length [] = []) <| .f (by omega : 0 + 2 ≤ 3) <| .l (by simp [rdAt, blkCells, sub] : rdAt false 1 (h ++ [HB.cells .own [.str x.name, .int .i64 (x.lo), .int .i64 (x.hi)]]) h.length 2 3 = some (.int .i64 (x.hi))) <| .f (by omega : 0 + 1 ≤ 3) <| .l (by simp [rdAt, blkCells, sub] : rdAt false 1 (h ++ [HB.cells .own [.str x.name, .int .i64 (x.lo), .int .i64 (x.hi)]]) h.length 1 3 = some (.int .i64 (x.lo))) <| .n) (rounds_congr (by kernel_rfl))
abbrev X_tmany_1 (bc : Nat) (b2 : Nat) (b3 : Nat) (m0 : Int) (xc : TV) (len : Nat) (i : Int) (h : List HB)  : St := ⟨[(1, .val (.ptr bc 0 3)), (2, .val (.ptr b2 0 1)), (3, .val (.ptr b3 0 1)), (5, .val (.int .i64 (m0))), (21, .val (xc)), (22, .val (.int .i64 ((len : Nat) : Int))), (23, .val (.int .i64 (i))), (24, .val (.bool (decide ((i) < ((len : Nat) : Int)))))], [], h, []⟩
theorem r_tmany_1 {L n m fl : Nat} (hn : 1 ≤ n) (hL : 30000 ≤ L) (bc : Nat) (b2 : Nat) (b3 : Nat) (m0 : Int) (xc : TV) (len : Nat) (i : Int) (h : List HB)  (hfl : fl ≤ h.length)  (h0 : (decide ((i) < ((len : Nat) : Int))) = false) : rounds Tryz.prog T (AP L (n - 1)) L 29 0 fl (m + 1) (W_tmany bc b2 b3 m0 xc len i h) = some ((.exit 0), X_tmany_1 bc b2 b3 m0 xc len i h ) :=
  round_out (s1 := X_tmany_1 bc b2 b3 m0 xc len i h ) (by kernel_rfl) (.b h0 <| .n) rfl
theorem q_Tight_0 {L n : Nat} (hn : 10 ≤ n) (hL : 30000 ≤ L) (h : List HB) (xc xo xr : TV) (c : C) (hc : SV h xc 3 K.tvs c.cs) (ho : SV h xo 5 O.tvs c.os) (hr : SV h xr 1 I.tvs c.rs)    (h0 : ((S_check c) != 0) = true) : AP L n (.fn 29 [] []) [.agg [xc, xo, xr]] h = some (.tup [.nil .slc, .int .i64 (S_check c)], h, []) :=
  ap_t (by omega) (by kernel_rfl) (.x (one3 hc.one ho.one hr.one) <| .l (by simp [rdAt, blkCells, sub] : rdAt true 3 (h ++ [HB.cells .own [xc, xo, xr]] ++ [HB.cells .own [.nil .slc]] ++ [HB.cells .own [.int .i64 0]]) h.length 0 3 = some (.agg [xc, xo, xr])) <| .c (c_check (by omega) hL (h ++ [HB.cells .own [xc, xo, xr]] ++ [HB.cells .own [.nil .slc]] ++ [HB.cells .own [.int .i64 0]])  xc xo xr c (((hc.app _).app _).app _) (((ho.app _).app _).app _) (((hr.app _).app _).app _)) <| .b h0 <| .a (.st (h ++ [HB.cells .own [xc, xo, xr]] ++ [HB.cells .own [.nil .slc]] ++ [HB.cells .own [.int .i64 0]]) []) <| .o (by simp [setH, over] : setH (h ++ [HB.cells .own [xc, xo, xr]] ++ [HB.cells .own [.nil .slc]] ++ [HB.cells .own [.int .i64 0]]) ((h ++ [HB.cells .own [xc, xo, xr]]).length) 0 [.nil .slc] = some (h ++ [HB.cells .own [xc, xo, xr]] ++ [HB.cells .own [.nil .slc]] ++ [HB.cells .own [.int .i64 0]])) <| .o (by omega : 0 + 1 ≤ 1) <| .o (by unfold addW; rw [if_neg (by first | omega | (simp only [List.length_append, List.length_cons, List.length_nil]; omega))] : addW h.length ((h ++ [HB.cells .own [xc, xo, xr]]).length) [] = []) <| .a (.st (h ++ [HB.cells .own [xc, xo, xr]] ++ [HB.cells .own [.nil .slc]] ++ [HB.cells .own [.int .i64 (S_check c)]]) []) <| .o (by simp [setH, over] : setH (h ++ [HB.cells .own [xc, xo, xr]] ++ [HB.cells .own [.nil .slc]] ++ [HB.cells .own [.int .i64 0]]) ((h ++ [HB.cells .own [xc, xo, xr]] ++ [HB.cells .own [.nil .slc]]).length) 0 [.int .i64 (S_check c)] = some (h ++ [HB.cells .own [xc, xo, xr]] ++ [HB.cells .own [.nil .slc]] ++ [HB.cells .own [.int .i64 (S_check c)]])) <| .o (by omega : 0 + 1 ≤ 1) <| .o (by unfold addW; rw [if_neg (by first | omega | (simp only [List.length_append, List.length_cons, List.length_nil]; omega))] : addW h.length ((h ++ [HB.cells .own [xc, xo, xr]] ++ [HB.cells .own [.nil .slc]]).length) [] = []) <| .l (by simp [rdAt, blkCells, sub] : rdAt false 1 (h ++ [HB.cells .own [xc, xo, xr]] ++ [HB.cells .own [.nil .slc]] ++ [HB.cells .own [.int .i64 (S_check c)]]) ((h ++ [HB.cells .own [xc, xo, xr]]).length) 0 1 = some (.nil .slc)) <| .l (by simp [rdAt, blkCells, sub] : rdAt false 1 (h ++ [HB.cells .own [xc, xo, xr]] ++ [HB.cells .own [.nil .slc]] ++ [HB.cells .own [.int .i64 (S_check c)]]) ((h ++ [HB.cells .own [xc, xo, xr]] ++ [HB.cells .own [.nil .slc]]).length) 0 1 = some (.int .i64 (S_check c))) <| .n)
theorem q_Tight_1 {L n : Nat} (hn : 10 ≤ n) (hL : 30000 ≤ L) (h : List HB) (xc xo xr : TV) (c : C) (hc : SV h xc 3 K.tvs c.cs) (ho : SV h xo 5 O.tvs c.os) (hr : SV h xr 1 I.tvs c.rs)  (H1 : List HB) (many : Int) (S0 : List HB) (S1 : List HB) (hE1 : Onto (h ++ [HB.cells .own [xc, xo, xr]] ++ [HB.cells .own [.nil .slc]] ++ [HB.cells .own [.int .i64 0]]) H1) (hH1 : h.length + 3 ≤ H1.length) (h0 : ((S_check c) != 0) = false) (h1 : (decide ((many) > 2000)) = true) (hmany : rounds Tryz.prog T (AP L (n - 1)) L 29 0 h.length L (W_tmany (h.length) ((h ++ [HB.cells .own [xc, xo, xr]]).length) ((h ++ [HB.cells .own [xc, xo, xr]] ++ [HB.cells .own [.nil .slc]]).length) 1 xc c.cs.length 0 (h ++ [HB.cells .own [xc, xo, xr]] ++ [HB.cells .own [.nil .slc]] ++ [HB.cells .own [.int .i64 0]])) = some (.exit 0, X_tmany_1 (h.length) ((h ++ [HB.cells .own [xc, xo, xr]]).length) ((h ++ [HB.cells .own [xc, xo, xr]] ++ [HB.cells .own [.nil .slc]]).length) many xc c.cs.length c.cs.length H1)) (hset0 : setH H1 (((h ++ [HB.cells .own [xc, xo, xr]]).length)) 0 [.nil .slc] = some S0) (hset1 : setH S0 (((h ++ [HB.cells .own [xc, xo, xr]] ++ [HB.cells .own [.nil .slc]]).length)) 0 [.int .i64 5] = some S1) (hld0 : rdAt false 1 S1 (((h ++ [HB.cells .own [xc, xo, xr]]).length)) 0 1 = some (.nil .slc)) (hld1 : rdAt false 1 S1 (((h ++ [HB.cells .own [xc, xo, xr]] ++ [HB.cells .own [.nil .slc]]).length)) 0 1 = some (.int .i64 5)) : AP L n (.fn 29 [] []) [.agg [xc, xo, xr]] h = some (.tup [.nil .slc, .int .i64 5], h, []) :=
  ap_t (by omega) (by kernel_rfl) (.x (one3 hc.one ho.one hr.one) <| .l (by simp [rdAt, blkCells, sub] : rdAt true 3 (h ++ [HB.cells .own [xc, xo, xr]] ++ [HB.cells .own [.nil .slc]] ++ [HB.cells .own [.int .i64 0]]) h.length 0 3 = some (.agg [xc, xo, xr])) <| .c (c_check (by omega) hL (h ++ [HB.cells .own [xc, xo, xr]] ++ [HB.cells .own [.nil .slc]] ++ [HB.cells .own [.int .i64 0]])  xc xo xr c (((hc.app _).app _).app _) (((ho.app _).app _).app _) (((hr.app _).app _).app _)) <| .b h0 <| .f (by omega : 0 + 0 ≤ 3) <| .l (by simp [rdAt, blkCells, sub] : rdAt false 1 (h ++ [HB.cells .own [xc, xo, xr]] ++ [HB.cells .own [.nil .slc]] ++ [HB.cells .own [.int .i64 0]]) h.length 0 3 = some (xc)) <| .k ((((hc.app _).app _).app _).len u22 : lenT Tryz.prog #[22] (h ++ [HB.cells .own [xc, xo, xr]] ++ [HB.cells .own [.nil .slc]] ++ [HB.cells .own [.int .i64 0]]) (xc) = some (.int .i64 ((c.cs.length : Nat) : Int), noInf)) <| .w hmany <| .b h1 <| .a (.st S0 []) <| .o (hset0 : setH H1 (((h ++ [HB.cells .own [xc, xo, xr]]).length)) 0 [.nil .slc] = some S0) <| .o (by omega : 0 + 1 ≤ 1) <| .o (by unfold addW; rw [if_neg (by first | omega | (simp only [List.length_append, List.length_cons, List.length_nil]; omega))] : addW h.length (((h ++ [HB.cells .own [xc, xo, xr]]).length)) [] = []) <| .a (.st S1 []) <| .o (hset1 : setH S0 (((h ++ [HB.cells .own [xc, xo, xr]] ++ [HB.cells .own [.nil .slc]]).length)) 0 [.int .i64 5] = some S1) <| .o (by omega : 0 + 1 ≤ 1) <| .o (by unfold addW; rw [if_neg (by first | omega | (simp only [List.length_append, List.length_cons, List.length_nil]; omega))] : addW h.length (((h ++ [HB.cells .own [xc, xo, xr]] ++ [HB.cells .own [.nil .slc]]).length)) [] = []) <| .l hld0 <| .l hld1 <| .n)
theorem q_Tight_2 {L n : Nat} (hn : 10 ≤ n) (hL : 30000 ≤ L) (h : List HB) (xc xo xr : TV) (c : C) (hc : SV h xc 3 K.tvs c.cs) (ho : SV h xo 5 O.tvs c.os) (hr : SV h xr 1 I.tvs c.rs)  (H1 : List HB) (many : Int) (S0 : List HB) (H2 : List HB) (S1 : List HB) (S2 : List HB) (hE1 : Onto (h ++ [HB.cells .own [xc, xo, xr]] ++ [HB.cells .own [.nil .slc]] ++ [HB.cells .own [.int .i64 0]]) H1) (hH1 : h.length + 3 ≤ H1.length) (h0 : ((S_check c) != 0) = false) (h1 : (decide ((many) > 2000)) = false) (hmany : rounds Tryz.prog T (AP L (n - 1)) L 29 0 h.length L (W_tmany (h.length) ((h ++ [HB.cells .own [xc, xo, xr]]).length) ((h ++ [HB.cells .own [xc, xo, xr]] ++ [HB.cells .own [.nil .slc]]).length) 1 xc c.cs.length 0 (h ++ [HB.cells .own [xc, xo, xr]] ++ [HB.cells .own [.nil .slc]] ++ [HB.cells .own [.int .i64 0]])) = some (.exit 0, X_tmany_1 (h.length) ((h ++ [HB.cells .own [xc, xo, xr]]).length) ((h ++ [HB.cells .own [xc, xo, xr]] ++ [HB.cells .own [.nil .slc]]).length) many xc c.cs.length c.cs.length H1)) (hld0 : rdAt false 1 (H1 ++ [HB.cells .own [.int .i64 1, .int .i64 0, .int .u8 0]]) h.length 1 3 = some (xo)) (hset0 : setH (H1 ++ [HB.cells .own [.int .i64 1, .int .i64 0, .int .u8 0]] ++ [HB.cells .own (repC ⟨1, 0, 0⟩ c.os.length c.os.length)] ++ [HB.cells .own [.nil .slc]]) ((H1 ++ [HB.cells .own [.int .i64 1, .int .i64 0, .int .u8 0]] ++ [HB.cells .own (repC ⟨1, 0, 0⟩ c.os.length c.os.length)]).length) 0 [.slc ((H1 ++ [HB.cells .own [.int .i64 1, .int .i64 0, .int .u8 0]]).length) 0 c.os.length c.os.length 3 true] = some S0) (hld1 : rdAt false 1 S0 h.length 0 3 = some (xc)) (hworlds : AP L (n - 1) (.fn 68 [] []) [xc] S0 = some (.fn 108 [] [.ptr S0.length 0 1], S0 ++ [HB.cells .own [xc]], [])) (hrange : exec Tryz.prog T (AP L (n - 1)) L 29 false h.length (ntOf Tryz.prog 29) (rfCode Tryz.prog 29) ⟨[(1, .val (.ptr h.length 0 3)), (2, .val (.ptr (((h ++ [HB.cells .own [xc, xo, xr]]).length)) 0 1)), (3, .val (.ptr (((h ++ [HB.cells .own [xc, xo, xr]] ++ [HB.cells .own [.nil .slc]]).length)) 0 1)), (8, .val (.ptr ((H1 ++ [HB.cells .own [.int .i64 1, .int .i64 0, .int .u8 0]] ++ [HB.cells .own (repC ⟨1, 0, 0⟩ c.os.length c.os.length)]).length) 0 1)), (47, .val (.fn 108 [] [.ptr S0.length 0 1]))], [], S0 ++ [HB.cells .own [xc]], []⟩ = some (.norm, ⟨[(1, .val (.ptr h.length 0 3)), (2, .val (.ptr (((h ++ [HB.cells .own [xc, xo, xr]]).length)) 0 1)), (3, .val (.ptr (((h ++ [HB.cells .own [xc, xo, xr]] ++ [HB.cells .own [.nil .slc]]).length)) 0 1)), (8, .val (.ptr ((H1 ++ [HB.cells .own [.int .i64 1, .int .i64 0, .int .u8 0]] ++ [HB.cells .own (repC ⟨1, 0, 0⟩ c.os.length c.os.length)]).length) 0 1)), (47, .val (.fn 108 [] [.ptr S0.length 0 1]))], [], H2, []⟩)) (hld2 : rdAt false 1 H2 ((H1 ++ [HB.cells .own [.int .i64 1, .int .i64 0, .int .u8 0]] ++ [HB.cells .own (repC ⟨1, 0, 0⟩ c.os.length c.os.length)]).length) 0 1 = some (.slc ((H1 ++ [HB.cells .own [.int .i64 1, .int .i64 0, .int .u8 0]]).length) 0 c.os.length c.os.length 3 true)) (hset1 : setH H2 (((h ++ [HB.cells .own [xc, xo, xr]]).length)) 0 [.slc ((H1 ++ [HB.cells .own [.int .i64 1, .int .i64 0, .int .u8 0]]).length) 0 c.os.length c.os.length 3 true] = some S1) (hset2 : setH S1 (((h ++ [HB.cells .own [xc, xo, xr]] ++ [HB.cells .own [.nil .slc]]).length)) 0 [.int .i64 0] = some S2) (hld3 : rdAt false 1 S2 (((h ++ [HB.cells .own [xc, xo, xr]]).length)) 0 1 = some (.slc ((H1 ++ [HB.cells .own [.int .i64 1, .int .i64 0, .int .u8 0]]).length) 0 c.os.length c.os.length 3 true)) (hld4 : rdAt false 1 S2 (((h ++ [HB.cells .own [xc, xo, xr]] ++ [HB.cells .own [.nil .slc]]).length)) 0 1 = some (.int .i64 0)) : AP L n (.fn 29 [] []) [.agg [xc, xo, xr]] h = some (.tup [.slc ((H1 ++ [HB.cells .own [.int .i64 1, .int .i64 0, .int .u8 0]]).length) 0 c.os.length c.os.length 3 true, .int .i64 0], S2, []) :=
  ap_t (by omega) (by kernel_rfl) (.x (one3 hc.one ho.one hr.one) <| .l (by simp [rdAt, blkCells, sub] : rdAt true 3 (h ++ [HB.cells .own [xc, xo, xr]] ++ [HB.cells .own [.nil .slc]] ++ [HB.cells .own [.int .i64 0]]) h.length 0 3 = some (.agg [xc, xo, xr])) <| .c (c_check (by omega) hL (h ++ [HB.cells .own [xc, xo, xr]] ++ [HB.cells .own [.nil .slc]] ++ [HB.cells .own [.int .i64 0]])  xc xo xr c (((hc.app _).app _).app _) (((ho.app _).app _).app _) (((hr.app _).app _).app _)) <| .b h0 <| .f (by omega : 0 + 0 ≤ 3) <| .l (by simp [rdAt, blkCells, sub] : rdAt false 1 (h ++ [HB.cells .own [xc, xo, xr]] ++ [HB.cells .own [.nil .slc]] ++ [HB.cells .own [.int .i64 0]]) h.length 0 3 = some (xc)) <| .k ((((hc.app _).app _).app _).len u22 : lenT Tryz.prog #[22] (h ++ [HB.cells .own [xc, xo, xr]] ++ [HB.cells .own [.nil .slc]] ++ [HB.cells .own [.int .i64 0]]) (xc) = some (.int .i64 ((c.cs.length : Nat) : Int), noInf)) <| .w hmany <| .b h1 <| .c (c_nothing (by omega) hL H1) <| .f (by omega : 0 + 1 ≤ 3) <| .l hld0 <| .k (((ho.onto ((Onto.app (Onto.app (Onto.app Onto.refl _) _) _).trans hE1)).app _).len u23 : lenT Tryz.prog #[23] (H1 ++ [HB.cells .own [.int .i64 1, .int .i64 0, .int .u8 0]]) (xo) = some (.int .i64 ((c.os.length : Nat) : Int), noInf)) <| .c (k_Repeat (by omega) hL (H1 ++ [HB.cells .own [.int .i64 1, .int .i64 0, .int .u8 0]]) H1.length ⟨1, 0, 0⟩ c.os.length (by have := (check_ok (c := c) h0).2.2; omega) (by rw [List.getElem?_append_right (Nat.le_refl _), Nat.sub_self]; rfl)) <| .a (.st S0 []) <| .o (hset0 : setH (H1 ++ [HB.cells .own [.int .i64 1, .int .i64 0, .int .u8 0]] ++ [HB.cells .own (repC ⟨1, 0, 0⟩ c.os.length c.os.length)] ++ [HB.cells .own [.nil .slc]]) ((H1 ++ [HB.cells .own [.int .i64 1, .int .i64 0, .int .u8 0]] ++ [HB.cells .own (repC ⟨1, 0, 0⟩ c.os.length c.os.length)]).length) 0 [.slc ((H1 ++ [HB.cells .own [.int .i64 1, .int .i64 0, .int .u8 0]]).length) 0 c.os.length c.os.length 3 true] = some S0) <| .o (by omega : 0 + 1 ≤ 1) <| .o (by unfold addW; rw [if_neg (by first | omega | (simp only [List.length_append, List.length_cons, List.length_nil]; omega))] : addW h.length ((H1 ++ [HB.cells .own [.int .i64 1, .int .i64 0, .int .u8 0]] ++ [HB.cells .own (repC ⟨1, 0, 0⟩ c.os.length c.os.length)]).length) [] = []) <| .f (by omega : 0 + 0 ≤ 3) <| .l hld1 <| .c hworlds <| .v hrange <| .l hld2 <| .a (.st S1 []) <| .o (hset1 : setH H2 (((h ++ [HB.cells .own [xc, xo, xr]]).length)) 0 [.slc ((H1 ++ [HB.cells .own [.int .i64 1, .int .i64 0, .int .u8 0]]).length) 0 c.os.length c.os.length 3 true] = some S1) <| .o (by omega : 0 + 1 ≤ 1) <| .o (by unfold addW; rw [if_neg (by first | omega | (simp only [List.length_append, List.length_cons, List.length_nil]; omega))] : addW h.length (((h ++ [HB.cells .own [xc, xo, xr]]).length)) [] = []) <| .a (.st S2 []) <| .o (hset2 : setH S1 (((h ++ [HB.cells .own [xc, xo, xr]] ++ [HB.cells .own [.nil .slc]]).length)) 0 [.int .i64 0] = some S2) <| .o (by omega : 0 + 1 ≤ 1) <| .o (by unfold addW; rw [if_neg (by first | omega | (simp only [List.length_append, List.length_cons, List.length_nil]; omega))] : addW h.length (((h ++ [HB.cells .own [xc, xo, xr]] ++ [HB.cells .own [.nil .slc]]).length)) [] = []) <| .l hld3 <| .l hld4 <| .n)
end Go.Proofs.YtfhiejgoemcelaaGreat
namespace Go.Proofs.YtfhiejgoemcelaaGreat
open Go Tw
theorem rf29 : rfCode Tryz.prog 29 = .rangeFunc (.tmp 47) #[48] (rfAssign Tryz.prog 29) (rfBody Tryz.prog 29) := by kernel_rfl
theorem onto_of {h S : List HB} (hl : h.length ≤ S.length) (hb : ∀ b, b < h.length → S[b]? = h[b]?) : Onto h S := by
  refine ⟨S.drop h.length, ?_⟩
  apply List.ext_getElem?
  intro i
  rcases Nat.lt_or_ge i h.length with hi | hi
  · rw [List.getElem?_append_left hi]; exact hb i hi
  · rw [List.getElem?_append_right hi, List.getElem?_drop]; congr 1; omega
theorem onto_kx {bo l : Nat} {h A B : List HB} (ho : Onto h A) (hk : KX bo l A B) (h1 : h.length ≤ bo) (h2 : h.length ≤ l) : Onto h B := by
  obtain ⟨e, rfl⟩ := ho
  refine onto_of (Nat.le_trans (by simp) hk.1) fun b hb => ?_
  rw [hk.2 b (by simp; omega) (by omega) (by omega), List.getElem?_append_left hb]
theorem addKs_old {fl : Nat} : ∀ {wsc ws : List Nat}, (∀ b ∈ wsc, fl ≤ b) → addKs fl (wsc.map .h) ws = ws
  | [], ws, _ => rfl
  | b :: wsc, ws, h => by
    simp only [List.map_cons, addKs, addW]
    rw [if_neg (by have := h b (List.mem_cons_self ..); omega)]
    exact addKs_old fun b hb => h b (List.mem_cons_of_mem _ hb)
def manyStep (m : Int) (x : K) : Int := IntKind.i64.wrap (m * (IntKind.i64.wrap ((IntKind.i64.wrap (x.hi - x.lo)) + 1)))
def S_many (cs : List K) : Int := cs.foldl manyStep 1
theorem foldl_pair {α σ : Type} (f : σ → α → σ) : ∀ (l : List α) (s : σ) (i : Nat), (l.foldl (fun (p : σ × Nat) a => (f p.1 a, p.2 + 1)) (s, i)).1 = l.foldl f s
  | [], _, _ => rfl
  | a :: l, s, i => by simp only [List.foldl_cons]; exact foldl_pair f l _ _
theorem l_tmany {L n fl : Nat} (hn : 1 ≤ n) (hL : 30000 ≤ L) (bc b2 b3 : Nat) (xc : TV) (cs : List K) (A : List HB) (hs : SV A xc 3 K.tvs cs) (hlen : cs.length < 4000) (hfl : fl ≤ A.length) :
    ∃ H1, rounds Tryz.prog T (AP L (n - 1)) L 29 0 fl L (W_tmany bc b2 b3 1 xc cs.length 0 A) = some (.exit 0, X_tmany_1 bc b2 b3 (S_many cs) xc cs.length cs.length H1) ∧ Onto A H1 := by
  obtain ⟨⟨m1, H1⟩, h1, h2, h3⟩ := factLoopG (R := fun m s => rounds Tryz.prog T (AP L (n - 1)) L 29 0 fl m s) (W := fun (t : Int × List HB) i => W_tmany bc b2 b3 t.1 xc cs.length i t.2) (X := fun (t : Int × List HB) i => X_tmany_1 bc b2 b3 t.1 xc cs.length i t.2) (e := .exit 0) (all := cs)
    (fun s _ x => manyStep s x) (fun _ t s => t.1 = s ∧ Onto A t.2)
    (fun i x s t m ha hA => by
      obtain ⟨h1, h2⟩ := hA
      have hsH := hs.onto h2
      obtain ⟨g1, g2⟩ := hsH.at ha
      have hal : A.length ≤ t.2.length := by obtain ⟨e, he⟩ := h2; rw [he]; simp
      exact ⟨(manyStep s x, _), ⟨rfl, h2.app _⟩, by
        have := r_tmany_0 (m := m) (fl := fl) hn hL bc b2 b3 t.1 xc cs.length (i : Int) t.2 x _ _ (Nat.le_trans hfl hal) (by simp only [decide_eq_true_eq]; exact g1) (hsH.ix u22 z62 (by omega) g1) g2
        rw [this, h1]; rfl⟩)
    (fun s t m hA => r_tmany_1 (m := m) (fl := fl) hn hL bc b2 b3 t.1 xc cs.length _ t.2 (by obtain ⟨e, he⟩ := hA.2; rw [he]; simp; omega) (by simp)) (by omega) cs 0 1 (1, A) L rfl (Nat.zero_le _) ⟨rfl, Onto.refl⟩ (by omega)
  rw [foldl_pair manyStep] at h2
  simp only at h2 h3
  subst h2
  exact ⟨H1, h1, h3⟩
theorem Check_cs {c : C} (h : ((S_Check c) != 0) = false) : ∀ k ∈ c.cs, -9999 ≤ k.lo ∧ k.lo ≤ k.hi ∧ k.hi ≤ 9999 ∧ k.hi - k.lo + 1 ≤ 12 := by
  have hany : (c.cs.any (fun x => S_isNoChoice x)) = false := by
    unfold S_Check at h
    split at h
    · simp at h
    · split at h
      · simp at h
      · split at h
        · simp at h
        · split at h
          · simp at h
          · rename_i hx; simpa using hx
  intro k hk
  have := List.any_eq_false.mp hany k hk
  unfold S_isNoChoice at this
  split at this
  · simp at this
  · rename_i h1
    simp only [Bool.not_eq_true, Bool.not_eq_false'] at h1 this
    rw [within_iff] at h1 this
    have a := h1 k.lo (by simp)
    have b := h1 k.hi (by simp)
    have d := this _ (List.mem_singleton_self _)
    rw [wrap_small (z := k.hi - k.lo) (by omega) (by omega), wrap_small (by omega) (by omega)] at d
    omega
def none0 (n : Nat) : List B := List.replicate n ⟨1, 0, 0⟩
def S_TightL (c : C) : List B := wF (fun s w => metAll s (S_AllL c w)) c.cs [] (none0 c.os.length)
def S_Tight (c : C) : List B × Int :=
  if ((S_check c) != 0) = true then ([], S_check c) else if (decide (S_many c.cs > 2000)) = true then ([], 5) else (S_TightL c, 0)
end Go.Proofs.YtfhiejgoemcelaaGreat
namespace Go.Proofs.YtfhiejgoemcelaaGreat
open Go Tw
theorem k_worlds {L n : Nat} (hn : 1 ≤ n) (hL : 30000 ≤ L) (H : List HB) {h : List HB} {x : TV} {cs : List K} (hs : SV h x 3 K.tvs cs) : AP L n (.fn 68 [] []) [x] H = some (.fn 108 [] [.ptr H.length 0 1], H ++ [HB.cells .own [x]], []) := by
  rcases hs with ⟨rfl, _⟩ | ⟨b, off, cap, ex, rfl, _⟩
  · exact c_worldsN hn hL H
  · exact c_worldsS hn hL H b off cs.length cap ex
theorem k_range {L n : Nat} (hn : 30 ≤ n) (hL : 30000 ≤ L) {h Z1 : List HB} (xc xo xr : TV) (c : C) (hc : SV h xc 3 K.tvs c.cs) (ho : SV h xo 5 O.tvs c.os) (hr : SV h xr 1 I.tvs c.rs) (hok : ((S_check c) != 0) = false)
    (b2 b3 : Nat) (hO : Onto h Z1) (h1 : rdAt true 3 Z1 h.length 0 3 = some (.agg [xc, xo, xr])) (hlt : h.length < Z1.length) (s0 : List B) (hs0 : s0.length = c.os.length) :
    ∃ H2, exec Tryz.prog T (AP L (n - 1)) L 29 false h.length (ntOf Tryz.prog 29) (rfCode Tryz.prog 29)
        ⟨[(1, .val (.ptr h.length 0 3)), (2, .val (.ptr b2 0 1)), (3, .val (.ptr b3 0 1)), (8, .val (.ptr (Z1.length + 1) 0 1)), (47, .val (.fn 108 [] [.ptr (Z1.length + 2) 0 1]))], [],
          Z1 ++ [HB.cells .own (s0.map B.tvs).flatten, HB.cells .own [.slc Z1.length 0 c.os.length c.os.length 3 true], HB.cells .own [xc]], []⟩
      = some (.norm, ⟨[(1, .val (.ptr h.length 0 3)), (2, .val (.ptr b2 0 1)), (3, .val (.ptr b3 0 1)), (8, .val (.ptr (Z1.length + 1) 0 1)), (47, .val (.fn 108 [] [.ptr (Z1.length + 2) 0 1]))], [], H2, []⟩)
      ∧ (∀ b, b < Z1.length → H2[b]? = Z1[b]?) ∧ Z1.length + 3 ≤ H2.length ∧ H2[Z1.length]? = some (.cells .own ((wF (fun s w => metAll s (S_AllL c w)) c.cs [] s0).map B.tvs).flatten)
      ∧ H2[Z1.length + 1]? = some (.cells .own [.slc Z1.length 0 c.os.length c.os.length 3 true]) := by
  obtain ⟨hchk, hops, hl1, hl2, hl3⟩ := check_ok hok
  let q := Z1.length
  let bo := q
  let l := q + 4
  let R := lrec h.length b2 b3 (q + 1) (q + 2) true none
  let Hd := Z1 ++ [HB.cells .own (s0.map B.tvs).flatten, HB.cells .own [.slc q 0 c.os.length c.os.length 3 true], HB.cells .own [xc]]
  let Hb0 := Hd ++ [HB.mark, R]
  let ev : TV := evOf (q + 2) (q + 5) (q + 6)
  let Hb := Hb0 ++ [HB.cells .own [.yld l]] ++ [HB.cells .own [ev]]
  have hHd : Hd.length = q + 3 := by simp [Hd, q]
  have hHb0 : Hb0.length = q + 5 := by simp [Hb0, hHd]
  have hHbl : Hb.length = q + 7 := by simp [Hb, hHb0]
  have hbig : Hb = Z1 ++ [HB.cells .own (s0.map B.tvs).flatten, HB.cells .own [.slc q 0 c.os.length c.os.length 3 true], HB.cells .own [xc], HB.mark, R, HB.cells .own [.yld l], HB.cells .own [ev]] := by
    simp [Hb, Hb0, Hd]
  have hget : ∀ k x, ([HB.cells .own (s0.map B.tvs).flatten, HB.cells .own [.slc q 0 c.os.length c.os.length 3 true], HB.cells .own [xc], HB.mark, R, HB.cells .own [.yld l], HB.cells .own [ev]] : List HB)[k]? = some x → Hb[q + k]? = some x := by
    intro k x hx
    rw [hbig, List.getElem?_append_right (by omega), Nat.add_sub_cancel_left]; exact hx
  have hg0 : Hb[bo]? = some (.cells .own (s0.map B.tvs).flatten) := hget 0 _ rfl
  have hg1 : Hb[q + 1]? = some (.cells .own [.slc q 0 c.os.length c.os.length 3 true]) := hget 1 _ rfl
  have hg2 : Hb[q + 2]? = some (.cells .own [xc]) := hget 2 _ rfl
  have hg4 : Hb[l]? = some R := hget 4 _ rfl
  have hg5 : Hb[q + 5]? = some (.cells .own [.yld l]) := hget 5 _ rfl
  have hg6 : Hb[q + 6]? = some (.cells .own [ev]) := hget 6 _ rfl
  have rd1 : ∀ {b : Nat} {v : TV}, Hb[b]? = some (.cells .own [v]) → rdAt false 1 Hb b 0 1 = some v := by
    intro b v hb
    simp [rdAt, blkCells, hb]
  have hOb : Onto h Hb := hO.trans ⟨_, hbig⟩
  have hZb : ∀ b, b < q → Hb[b]? = Z1[b]? := fun b hb => by rw [hbig, List.getElem?_append_left hb]
  have hcore : rdAt true 3 Hb h.length 0 3 = some (.agg [xc, xo, xr]) := rdAt_onto ⟨_, hbig⟩ h1
  have hall : ∀ H, KX bo l Hb H → SV H xc 3 K.tvs c.cs ∧ SV H xo 5 O.tvs c.os ∧ SV H xr 1 I.tvs c.rs := by
    intro H hk
    have := onto_kx hOb hk (by omega) (by omega)
    exact ⟨hc.onto this, ho.onto this, hr.onto this⟩
  have hy := yldOk (L := L) hL bo l h.length b2 b3 (q + 1) (q + 2) c.os.length true Hb xc xo xr c (by omega) (by omega) (by omega) (by omega) ⟨by omega, by omega, hcore⟩ ⟨by omega, by omega, rd1 hg1⟩ hall rfl hok
  have hrange : ∀ k ∈ c.cs, -10000 ≤ k.lo ∧ k.lo ≤ k.hi ∧ k.hi ≤ 10000 := by
    intro k hk
    have := Check_cs hchk k hk
    omega
  have hext := k_extend (L := L) (bo := bo) (l := l) (p1 := q + 2) (p2 := q + 5) (p3 := q + 6) (Hb := Hb) (Rep := RepT l bo R c.os.length) (Y := fun s w => metAll s (S_AllL c w)) (xc := xc) (cs := c.cs) (c0 := 15) hL (by omega) (by omega) ⟨by omega, by omega, rd1 hg2⟩ ⟨by omega, by omega, rd1 hg5⟩ ⟨by omega, by omega, rd1 hg6⟩
    (by omega) (fun H hk => (hall H hk).1) (fun s H H' hR hoo => RepT.onto hR hoo) hy hrange c.cs (n - 1 - 1) (by omega)
  obtain ⟨H', wsc, hcl, ⟨hR1, hR2, hR3⟩, hK, hws, hlw⟩ := hext [] s0 (.nil .slc) Hb rfl (Nat.zero_le _) ⟨hg4, hg0, hs0⟩ KX.refl (.inl ⟨rfl, rfl⟩) (by intro i x k hi; simp at hi)
  have hlm : l ∈ addKs Hb0.length (wsc.map .h) [] := addKs_mem.mpr (.inr ⟨hlw, by omega⟩)
  obtain ⟨w0, wr, hw⟩ := cons_of hlm
  have hw1 := c_worlds1 (n := n - 1) (by omega) hL Hb0 l (q + 2) H' wsc w0 wr true (by
    rw [show (Hb0 ++ [HB.cells .own [(.yld l)]]).length = q + 6 by simp [hHb0], hHb0]
    exact hcl) hw
  have hOldw : ∀ b ∈ w0 :: wr, h.length ≤ b := by
    intro b hb
    rw [← hw] at hb
    rcases addKs_mem.mp hb with hb | hb
    · cases hb
    · rcases hws b hb.1 with rfl | rfl <;> omega
  have hx := exec_range (P := Tryz.prog) (T := T) (call := AP L (n - 1)) (L := L) (f := 29) (fl := h.length) (nt := ntOf Tryz.prog 29) (g := .tmp 47) (ps := #[48]) (assign := rfAssign Tryz.prog 29) (body := rfBody Tryz.prog 29)
    (s := ⟨[(1, .val (.ptr h.length 0 3)), (2, .val (.ptr b2 0 1)), (3, .val (.ptr b3 0 1)), (8, .val (.ptr (q + 1) 0 1)), (47, .val (.fn 108 [] [.ptr (q + 2) 0 1]))], [], Hd, []⟩)
    (f1 := 108) (a1 := []) (b1 := [.ptr (q + 2) 0 1]) rfl rfl (by
      show AP L (n - 1) (.fn 108 [] [.ptr (q + 2) 0 1]) [.yld (Hd.length + 1)] (Hd ++ [HB.mark, R]) = _
      rw [hHd]
      exact hw1) (by
      show H'[Hd.length + 1]? = _
      rw [hHd]; exact hR1)
  rw [rf29]
  have hH'l : q + 7 ≤ H'.length := by have := hK.1; omega
  have hset : ∀ b, b ≠ Hd.length + 1 → (H'.set (Hd.length + 1) (.loop false 29 (ntOf Tryz.prog 29) [(1, .val (.ptr h.length 0 3)), (2, .val (.ptr b2 0 1)), (3, .val (.ptr b3 0 1)), (8, .val (.ptr (q + 1) 0 1)), (47, .val (.fn 108 [] [.ptr (q + 2) 0 1]))] [48] (rfAssign Tryz.prog 29) (rfBody Tryz.prog 29) (some .skip)))[b]? = H'[b]? := fun b hb => List.getElem?_set_ne (fun e => hb e.symm)
  refine ⟨_, hx.trans (by rw [addKs_old hOldw]), ?_, ?_, ?_, ?_⟩
  · intro b hb
    refine (hset b (by omega)).trans ?_
    rw [hK.2 b (by omega) (by omega) (by omega), hZb b hb]
  · simp only [List.length_set]; omega
  · exact (hset _ (by omega)).trans hR2
  · refine (hset _ (by omega)).trans ?_
    rw [hK.2 (q + 1) (by omega) (by omega) (by omega)]; exact hg1
end Go.Proofs.YtfhiejgoemcelaaGreat
namespace Go.Proofs.YtfhiejgoemcelaaGreat
open Go Tw
theorem setH_one {H : List HB} {b : Nat} {x y : TV} (h : H[b]? = some (.cells .own [x])) : setH H b 0 [y] = some (H.set b (.cells .own [y])) := by
  simp [setH, h, over]
theorem rd_one {H : List HB} {b : Nat} {x : TV} (h : H[b]? = some (.cells .own [x])) : rdAt false 1 H b 0 1 = some x := by
  simp [rdAt, blkCells, h]
theorem k_Tight {L n : Nat} (hn : 30 ≤ n) (hL : 30000 ≤ L) (h : List HB) (xc xo xr : TV) (c : C) (hc : SV h xc 3 K.tvs c.cs) (ho : SV h xo 5 O.tvs c.os) (hr : SV h xr 1 I.tvs c.rs) :
    RetE h (AP L n (.fn 29 [] []) [.agg [xc, xo, xr]] h) 3 B.tvs (S_Tight c).1 (S_Tight c).2 := by
  unfold S_Tight
  by_cases a0 : ((S_check c) != 0) = true
  · rw [if_pos a0]; exact ⟨_, _, q_Tight_0 (by omega) hL h xc xo xr c hc ho hr a0, Onto.refl, SV.nil⟩
  rw [if_neg a0]; simp only [Bool.not_eq_true] at a0
  have hl := (check_ok a0).2.2
  obtain ⟨H1, hm1, hE1⟩ := l_tmany (n := n) (fl := h.length) (by omega) hL h.length (h ++ [HB.cells .own [xc, xo, xr]]).length (h ++ [HB.cells .own [xc, xo, xr]] ++ [HB.cells .own [.nil .slc]]).length xc c.cs
    (h ++ [HB.cells .own [xc, xo, xr]] ++ [HB.cells .own [.nil .slc]] ++ [HB.cells .own [.int .i64 0]]) (((hc.app _).app _).app _) (by omega) (by simp)
  have hH1 : h.length + 3 ≤ H1.length := by obtain ⟨e, rfl⟩ := hE1; simp
  have e2 : (h ++ [HB.cells .own [xc, xo, xr]]).length = h.length + 1 := by simp
  have e3 : (h ++ [HB.cells .own [xc, xo, xr]] ++ [HB.cells .own [.nil .slc]]).length = h.length + 2 := by simp
  have hO1 : Onto h H1 := (Onto.app (Onto.app (Onto.app Onto.refl _) _) _).trans hE1
  have g0 : H1[h.length]? = some (.cells .own [xc, xo, xr]) := by
    obtain ⟨e, rfl⟩ := hE1
    simp
  have g1 : H1[h.length + 1]? = some (.cells .own [.nil .slc]) := by
    obtain ⟨e, rfl⟩ := hE1
    simp
  have g2 : H1[h.length + 2]? = some (.cells .own [.int .i64 0]) := by
    obtain ⟨e, rfl⟩ := hE1
    simp
  by_cases a1 : (decide (S_many c.cs > 2000)) = true
  · rw [if_pos a1]
    refine ⟨_, _, q_Tight_1 (by omega) hL h xc xo xr c hc ho hr H1 (S_many c.cs) (H1.set (h.length + 1) (.cells .own [.nil .slc])) ((H1.set (h.length + 1) (.cells .own [.nil .slc])).set (h.length + 2) (.cells .own [.int .i64 5])) hE1 hH1 a0 a1 hm1 ?_ ?_ ?_ ?_, Onto.refl, SV.nil⟩
    · rw [e2]; exact setH_one g1
    · rw [e3]; exact setH_one (by rw [List.getElem?_set_ne (by omega)]; exact g2)
    · rw [e2]; exact rd_one (by rw [List.getElem?_set_ne (by omega), List.getElem?_set_self (by omega)])
    · rw [e3]; exact rd_one (by rw [List.getElem?_set_self (by simp; omega)])
  rw [if_neg a1]; simp only [Bool.not_eq_true] at a1
  have hr1 : rdAt true 3 H1 h.length 0 3 = some (.agg [xc, xo, xr]) := by simp [rdAt, blkCells, g0, sub]
  have hrc : rdAt false 1 H1 h.length 0 3 = some xc := by simp [rdAt, blkCells, g0]
  have hro : rdAt false 1 H1 h.length 1 3 = some xo := by simp [rdAt, blkCells, g0]
  let Z1 := H1 ++ [HB.cells .own [.int .i64 1, .int .i64 0, .int .u8 0]]
  have hZ1 : Z1.length = H1.length + 1 := by simp [Z1]
  obtain ⟨H2, hx, hp, hlen, hb0, hb1⟩ := k_range (n := n) (by omega) hL (h := h) (Z1 := Z1) xc xo xr c hc ho hr a0 (h.length + 1) (h.length + 2) (hO1.app _) (rdAt_app hr1 _) (by omega) (none0 c.os.length) (by simp [none0])
  have hrep : (none0 c.os.length).map B.tvs = (rep ⟨1, 0, 0⟩ c.os.length c.os.length).map B.tvs := by simp [none0, rep]
  have hrepC : ((none0 c.os.length).map B.tvs).flatten = repC ⟨1, 0, 0⟩ c.os.length c.os.length := by rw [hrep]; rfl
  rw [hrepC] at hx
  let S0 := Z1 ++ [HB.cells .own (repC ⟨1, 0, 0⟩ c.os.length c.os.length)] ++ [HB.cells .own [.slc Z1.length 0 c.os.length c.os.length 3 true]]
  have hS0 : S0 ++ [HB.cells .own [xc]] = Z1 ++ [HB.cells .own (repC ⟨1, 0, 0⟩ c.os.length c.os.length), HB.cells .own [.slc Z1.length 0 c.os.length c.os.length 3 true], HB.cells .own [xc]] := by simp [S0]
  have hS0l : S0.length = Z1.length + 2 := by simp [S0]
  have q1 : H2[h.length + 1]? = some (.cells .own [.nil .slc]) := by
    rw [hp _ (by omega), List.getElem?_append_left (by omega)]; exact g1
  have q2 : H2[h.length + 2]? = some (.cells .own [.int .i64 0]) := by
    rw [hp _ (by omega), List.getElem?_append_left (by omega)]; exact g2
  let v : TV := .slc Z1.length 0 c.os.length c.os.length 3 true
  let S1 := H2.set (h.length + 1) (.cells .own [v])
  let S2 := S1.set (h.length + 2) (.cells .own [.int .i64 0])
  have hS2 : ∀ b, b ≠ h.length + 1 → b ≠ h.length + 2 → S2[b]? = H2[b]? := by
    intro b h1 h2
    simp only [S2, S1]
    rw [List.getElem?_set_ne (fun e => h2 e.symm), List.getElem?_set_ne (fun e => h1 e.symm)]
  have hOf : Onto h S2 := by
    refine onto_of (by simp only [S2, S1, List.length_set]; omega) fun b hb => ?_
    rw [hS2 b (by omega) (by omega), hp b (by omega)]
    obtain ⟨e, rfl⟩ := hO1
    simp only [Z1, List.append_assoc]
    rw [List.getElem?_append_left hb]
  have hsv : SV S2 v 3 B.tvs (S_TightL c) := by
    have hlenT : (S_TightL c).length = c.os.length := by
      unfold S_TightL
      have hwf : ∀ (ks : List K) (w : List Int) (s : List B), (wF (fun s w => metAll s (S_AllL c w)) ks w s).length = s.length := by
        intro ks
        induction ks with
        | nil => intro w s; exact metAll_len
        | cons k ks ih =>
          intro w s
          simp only [wF]
          have : ∀ (m : Nat) (x : Int) (s : List B), (wFr (fun x s => wF (fun s w => metAll s (S_AllL c w)) ks (w ++ [x]) s) x m s).length = s.length := by
            intro m
            induction m with
            | zero => intro x s; rfl
            | succ m ihm => intro x s; simp only [wFr]; rw [ihm, ih]
          exact this _ _ _
      rw [hwf]; simp [none0]
    refine .inr ⟨Z1.length, 0, c.os.length, true, by rw [hlenT], by simp, ((S_TightL c).map B.tvs).flatten, ?_, ?_⟩
    · simp only [blkCells]
      rw [hS2 _ (by omega) (by omega), hb0]; rfl
    · unfold sub
      rw [List.length_map, if_pos (by rw [flat_len (enc := B.tvs) (sz := 3) (fun _ => rfl)]; omega), List.drop_zero, List.take_of_length_le (by rw [flat_len (enc := B.tvs) (sz := 3) (fun _ => rfl)]; omega)]
  refine ⟨v, S2, ?_, hOf, hsv⟩
  have hw := k_worlds (n := n - 1) (by omega) hL S0 hc
  rw [hS0l] at hw
  have eZ2 : (H1 ++ [HB.cells .own [.int .i64 1, .int .i64 0, .int .u8 0]] ++ [HB.cells .own (repC ⟨1, 0, 0⟩ c.os.length c.os.length)]).length = Z1.length + 1 := by simp [Z1]
  refine q_Tight_2 (by omega) hL h xc xo xr c hc ho hr H1 (S_many c.cs) S0 H2 S1 S2 hE1 hH1 a0 a1 hm1 (rdAt_app hro _) ?_ ?_ ?_ ?_ ?_ ?_ ?_ ?_ ?_
  · rw [setH_one (x := .nil .slc) (by simp)]
    simp [S0, Z1]
  · exact rdAt_app (rdAt_app (rdAt_app hrc _) _) _
  · rw [hS0l]; exact hw
  · rw [e2, e3, eZ2, hS0l, hS0]; exact hx
  · rw [eZ2]; exact rd_one hb1
  · rw [e2]; exact setH_one q1
  · rw [e3]; exact setH_one (by simp only [S1]; rw [List.getElem?_set_ne (by omega)]; exact q2)
  · rw [e2]; exact rd_one (by simp only [S2, S1]; rw [List.getElem?_set_ne (by omega), List.getElem?_set_self (by omega)])
  · rw [e3]; exact rd_one (by simp only [S2, S1]; rw [List.getElem?_set_self (by simp; omega)])
end Go.Proofs.YtfhiejgoemcelaaGreat
namespace Tw
open Go
def trip (ops : Array Oper) (o : Oper) : Option Nat × List Nat × List Nat :=
  (o.dst, Oper.looksAt ops o, (o.after.toList.filter (Region.binds .any)).map (·.on))
def farD (d : Option Nat) (l : List Nat) : Bool := match d with | some d => !l.contains d | none => true
def farT (a b : Option Nat × List Nat × List Nat) : Bool :=
  farD a.1 b.2.1 && farD b.1 a.2.1 && (match a.1 with | some d => b.1 != some d | none => true)
def pairT (j : Nat) (b : Option Nat × List Nat × List Nat) : Nat → List (Option Nat × List Nat × List Nat) → Bool
  | _, [] => true
  | i, a :: l => if Nat.blt i j then (b.2.2.contains i || farT a b) && pairT j b (i + 1) l else true
def quickT (all : List (Option Nat × List Nat × List Nat)) : Nat → List (Option Nat × List Nat × List Nat) → Bool
  | _, [] => true
  | j, b :: l => b.2.2.all (fun k => Nat.blt k j) && (pairT j b 0 all && quickT all (j + 1) l)
theorem pairT_at {j : Nat} {b : Option Nat × List Nat × List Nat} : ∀ {l : List (Option Nat × List Nat × List Nat)} {i : Nat}, pairT j b i l = true → ∀ k a, l[k]? = some a → i + k < j →
    b.2.2.contains (i + k) = true ∨ farT a b = true
  | [], i, _, k, a, hk, _ => by simp at hk
  | c :: l, i, h, k, a, hk, hj => by
    simp only [pairT] at h
    rw [if_pos (by simp only [Nat.blt_eq]; omega)] at h
    simp only [Bool.and_eq_true, Bool.or_eq_true] at h
    cases k with
    | zero => simp only [List.getElem?_cons_zero, Option.some.injEq] at hk; subst hk; exact h.1
    | succ k =>
      simp only [List.getElem?_cons_succ] at hk
      have := pairT_at h.2 k a hk (by omega)
      rwa [show i + 1 + k = i + (k + 1) by omega] at this
theorem quickT_at {all : List (Option Nat × List Nat × List Nat)} : ∀ {l : List (Option Nat × List Nat × List Nat)} {j : Nat}, quickT all j l = true → ∀ k b, l[k]? = some b →
    (∀ x ∈ b.2.2, x < j + k) ∧ pairT (j + k) b 0 all = true
  | [], _, _, k, b, hk => by simp at hk
  | c :: l, j, h, k, b, hk => by
    simp only [quickT, Bool.and_eq_true, List.all_eq_true, Nat.blt_eq] at h
    cases k with
    | zero => simp only [List.getElem?_cons_zero, Option.some.injEq] at hk; subst hk; exact ⟨fun x hx => h.1 x hx, h.2.1⟩
    | succ k =>
      simp only [List.getElem?_cons_succ] at hk
      have := quickT_at h.2.2 k b hk
      rwa [show j + 1 + k = j + (k + 1) by omega] at this
theorem addNew_mem : ∀ {l acc : List Nat} {x : Nat}, (x ∈ l ∨ x ∈ acc) → x ∈ addNew l acc
  | [], acc, x, h => by simpa [addNew] using h
  | y :: l, acc, x, h => by
    simp only [addNew]
    apply addNew_mem
    rcases h with h | h
    · rcases List.mem_cons.mp h with rfl | h
      · right; split
        · rename_i hc; simpa using hc
        · exact List.mem_cons_self ..
      · exact .inl h
    · right; split
      · exact h
      · exact List.mem_cons_of_mem _ h
theorem foldl_pred {acc : List (List Nat)} : ∀ {es : List Edge} {l : List Nat} {x : Nat}, (x ∈ l ∨ ∃ e ∈ es, Region.binds .any e = true ∧ e.on = x) →
    x ∈ es.foldl (fun l e => if Region.binds .any e then addNew (e.on :: acc.getD e.on []) l else l) l
  | [], l, x, h => by
    rcases h with h | ⟨e, he, _⟩
    · exact h
    · cases he
  | e :: es, l, x, h => by
    simp only [List.foldl_cons]
    apply foldl_pred
    rcases h with h | ⟨e', he, hb, rfl⟩
    · left; split
      · exact addNew_mem (.inr h)
      · exact h
    · rcases List.mem_cons.mp he with rfl | he
      · left; rw [if_pos hb]; exact addNew_mem (.inl (List.mem_cons_self ..))
      · exact .inr ⟨e', he, hb, rfl⟩
theorem far_apart {ops : Array Oper} {a b : Oper} (h : farT (trip ops a) (trip ops b) = true) : a.apart ops b = true ∧ b.apart ops a = true := by
  simp only [farT, trip, Bool.and_eq_true] at h
  obtain ⟨⟨h1, h2⟩, h3⟩ := h
  simp only [farD] at h1 h2
  refine ⟨?_, ?_⟩
  · simp only [Oper.apart]
    cases ha : a.dst with
    | none => cases hb : b.dst with
      | none => rfl
      | some e => simp only [hb] at h2; simpa using h2
    | some d => cases hb : b.dst with
      | none => simp only [ha] at h1; simpa using h1
      | some e => simp only [ha, hb] at h1 h2 h3; simp_all
  · simp only [Oper.apart]
    cases ha : a.dst with
    | none => cases hb : b.dst with
      | none => rfl
      | some e => simp only [hb] at h2; simpa using h2
    | some d => cases hb : b.dst with
      | none => simp only [ha] at h1; simpa using h1
      | some e =>
        simp only [ha, hb] at h1 h2 h3
        simp_all only [Bool.not_eq_true', bne_iff_ne, ne_eq, Option.some.injEq, Bool.and_eq_true, Bool.not_eq_eq_eq_not, Bool.not_true, and_true, true_and]
        exact fun x => h3 x.symm
theorem static_of {ops : List Oper} (L : List (Option Nat × List Nat × List Nat)) (h1 : ops.map (trip ops.toArray) = L) (h2 : quickT L 0 L = true) : staticOk ops = true := by
  subst h1
  have hat : ∀ k b, ops[k]? = some b → (∀ x ∈ (trip ops.toArray b).2.2, x < k) ∧ pairT k (trip ops.toArray b) 0 (ops.map (trip ops.toArray)) = true := by
    intro k b hk
    have := quickT_at h2 k (trip ops.toArray b) (by rw [List.getElem?_map, hk]; rfl)
    simpa using this
  simp only [staticOk, Bool.and_eq_true, List.all_eq_true]
  refine ⟨?_, ?_⟩
  · rintro ⟨o, i⟩ hm
    rw [Array.all_eq_true_iff_forall_mem]
    intro e he
    have hk := List.mem_zipIdx_iff_getElem?.mp hm
    simp only at hk
    cases hb : Region.binds .any e with
    | false => rfl
    | true =>
      have := (hat i o hk).1 e.on (by
        simp only [trip, List.mem_map, List.mem_filter]
        exact ⟨e, ⟨Array.mem_toList_iff.mpr he, hb⟩, rfl⟩)
      simp [this]
  · rintro ⟨i, j⟩ hm
    simp only [openPairs, List.mem_flatMap, List.mem_map, List.mem_filter, List.mem_range, Prod.mk.injEq] at hm
    obtain ⟨j, hj, i, ⟨hi, hn⟩, rfl, rfl⟩ := hm
    have hb : ops[j]? = some (ops[j]'hj) := List.getElem?_eq_getElem hj
    have hil : i < ops.length := by omega
    have ha : ops[i]? = some (ops[i]'hil) := List.getElem?_eq_getElem hil
    simp only [ha, hb, Bool.and_eq_true]
    apply far_apart
    have := pairT_at (hat j _ hb).2 i (trip ops.toArray (ops[i]'hil)) (by rw [List.getElem?_map, ha]; rfl) (by omega)
    rcases this with h | h
    · exfalso
      simp only [Nat.zero_add, trip, List.contains_iff_mem, List.mem_map, List.mem_filter] at h
      obtain ⟨e, ⟨he, hbn⟩, hon⟩ := h
      have hg := preds_get ops [] j _ hb
      simp only [List.length_nil, Nat.zero_add] at hg
      have : i ∈ (preds ops []).getD j [] := by
        rw [List.getD_eq_getElem?_getD, hg]
        simp only [Option.getD_some]
        exact foldl_pred (.inr ⟨e, he, hbn, hon⟩)
      rw [List.contains_iff_mem.mpr this] at hn; cases hn
    · exact h
end Tw
namespace Go.Proofs.YtfhiejgoemcelaaGreat
open Go Tw
theorem st_18_7 : staticOk (regOps Tryz.prog 18 7) = true :=
  static_of [(some 45, [2], []), (some 46, [45], [0]), (some 47, [46], [1]), (some 48, [1, 47], [2]), (some 49, [47], [2, 2]), (some 50, [48, 49, 47], [3, 4, 4, 2]), (some 51, [47, 50], [2, 5]), (some 52, [51], [6, 5]), (some 53, [4, 52], [7]), (some 54, [53, 52], [8, 7]), (some 55, [52, 54], [7, 9]), (some 56, [55], [10, 7]), (some 57, [56], [11, 11]), (some 58, [56], [12, 11]), (some 59, [57, 58, 56], [12, 13, 13, 11]), (some 60, [56, 59], [11, 14]), (some 61, [60], [15, 14]), (some 62, [6, 61], [16]), (some 63, [62, 61], [17, 16]), (some 64, [61, 63], [16, 18]), (some 65, [64], [19, 16]), (some 66, [5, 65], [20]), (some 67, [66, 65], [21, 20]), (some 68, [67, 65], [22, 20]), (some 69, [65, 68], [20, 23]), (some 70, [69], [24, 20]), (some 71, [5, 70], [25]), (some 72, [71, 70], [26, 25]), (some 73, [72, 70], [27, 25]), (some 74, [70], [25, 25]), (some 75, [73, 74, 70], [28, 29, 25]), (some 76, [70, 75], [25, 30]), (some 77, [76], [31, 29]), (some 78, [5, 77], [32]), (some 79, [78, 77], [33, 32]), (some 80, [79, 77], [34, 32]), (some 81, [77], [32, 32]), (some 82, [80, 81, 77], [35, 36, 32]), (some 83, [77, 82], [32, 37]), (some 84, [83], [38, 36]), (some 85, [5, 84], [39]), (some 86, [85, 84], [40, 39]), (some 87, [86, 84], [41, 39]), (some 88, [84], [39, 39]), (some 89, [87, 88, 84], [42, 43, 39]), (some 90, [84, 89], [39, 44]), (some 91, [90], [45, 43]), (some 92, [8, 91], [46]), (some 93, [92, 91], [47, 46]), (some 94, [91, 93], [46, 48]), (some 95, [94], [49, 46]), (some 96, [7, 95], [50]), (some 97, [96, 95], [51, 50]), (some 98, [95, 97], [50, 52]), (some 99, [98], [53, 50]), (some 100, [10, 99], [54]), (some 101, [100, 99], [55, 54]), (some 102, [99, 101], [54, 56]), (some 103, [102], [57, 54]), (some 104, [9, 103], [58]), (some 105, [104, 103], [59, 58]), (some 106, [105, 103], [60, 58]), (some 107, [103, 106], [58, 61]), (some 108, [107], [62, 58]), (some 109, [9, 108], [63]), (some 110, [109, 108], [64, 63]), (some 111, [110, 108], [65, 63]), (some 112, [108], [63, 63]), (some 113, [111, 112, 108], [66, 67, 63]), (some 114, [108, 113], [63, 68]), (some 115, [114], [69, 67]), (some 116, [9, 115], [70]), (some 117, [116, 115], [71, 70]), (some 118, [117, 115], [72, 70]), (some 119, [115], [70, 70]), (some 120, [118, 119, 115], [73, 74, 70]), (some 121, [115, 120], [70, 75]), (some 122, [121], [76, 74]), (some 123, [9, 122], [77]), (some 124, [123, 122], [78, 77]), (some 125, [124, 122], [79, 77]), (some 126, [122], [77, 77]), (some 127, [125, 126, 122], [80, 81, 77]), (some 128, [122, 127], [77, 82]), (some 129, [128], [83, 81]), (some 130, [12, 129], [84]), (some 131, [130, 129], [85, 84]), (some 132, [129, 131], [84, 86]), (some 133, [132], [87, 84]), (some 134, [11, 133], [88]), (some 135, [134, 133], [89, 88]), (some 136, [135, 133], [90, 88]), (some 137, [133, 136], [88, 91]), (some 138, [137], [92, 88]), (some 139, [11, 138], [93]), (some 140, [139, 138], [94, 93]), (some 141, [140, 138], [95, 93]), (some 142, [141, 138], [96, 93]), (some 143, [138, 142], [93, 97]), (some 144, [143], [98, 93]), (some 145, [11, 144], [99]), (some 146, [145, 144], [100, 99]), (some 147, [146, 144], [101, 99]), (some 148, [147, 144], [102, 99]), (some 149, [144, 148], [99, 103]), (some 0, [149], [104, 99, 0, 1, 2, 3, 4, 5, 6, 7, 8, 9, 10, 11, 12, 13, 14, 15, 16, 17, 18, 19, 20, 21, 22, 23, 24, 25, 26, 27, 28, 29, 30, 31, 32, 33, 34, 35, 36, 37, 38, 39, 40, 41, 42, 43, 44, 45, 46, 47, 48, 49, 50, 51, 52, 53, 54, 55, 56, 57, 58, 59, 60, 61, 62, 63, 64, 65, 66, 67, 68, 69, 70, 71, 72, 73, 74, 75, 76, 77, 78, 79, 80, 81, 82, 83, 84, 85, 86, 87, 88, 89, 90, 91, 92, 93, 94, 95, 96, 97, 98, 99, 100, 101, 102, 103, 104])] (by kernel_rfl) (by kernel_rfl)
end Go.Proofs.YtfhiejgoemcelaaGreat
namespace Go.Proofs.YtfhiejgoemcelaaGreat
open Go Tw
def exC : C := ⟨[⟨(⟨#[120]⟩ : ByteArray), (-2), 3⟩, ⟨(⟨#[121]⟩ : ByteArray), 0, 2⟩], [⟨3, 0, 0, 0, 0⟩, ⟨3, 0, 0, 0, 1⟩, ⟨7, 0, 1, 0, 0⟩, ⟨9, 0, 1, 0, 0⟩, ⟨10, 0, 1, 0, 0⟩, ⟨11, 0, 1, 0, 0⟩, ⟨13, 0, 1, 0, 0⟩, ⟨17, 6, 2, 3, 0⟩, ⟨1, 0, 0, 0, 9000⟩, ⟨9, 8, 2, 0, 0⟩, ⟨15, 6, 4, 0, 0⟩], [7, 9, 10]⟩
def knL : List B := [⟨(-2), 3, 0⟩, ⟨0, 2, 0⟩, ⟨(-2), 5, 0⟩, ⟨(-4), 6, 0⟩, ⟨(-2), 3, 1⟩, ⟨0, 1, 1⟩, ⟨0, 1, 0⟩, ⟨(-4), 6, 0⟩, ⟨9000, 9000, 0⟩, ⟨(-9999), 9999, 2⟩, ⟨(-2), 3, 1⟩]
def exA : HB := HB.cells .own [.int .u8 3, .int .i64 0, .int .i64 0, .int .i64 0, .int .i64 0, .int .u8 3, .int .i64 0, .int .i64 0, .int .i64 0, .int .i64 1, .int .u8 7, .int .i64 0, .int .i64 1, .int .i64 0, .int .i64 0, .int .u8 9, .int .i64 0, .int .i64 1, .int .i64 0, .int .i64 0, .int .u8 10, .int .i64 0, .int .i64 1, .int .i64 0, .int .i64 0, .int .u8 11, .int .i64 0, .int .i64 1, .int .i64 0, .int .i64 0, .int .u8 13, .int .i64 0, .int .i64 1, .int .i64 0, .int .i64 0, .int .u8 17, .int .i64 6, .int .i64 2, .int .i64 3, .int .i64 0, .int .u8 1, .int .i64 0, .int .i64 0, .int .i64 0, .int .i64 9000, .int .u8 9, .int .i64 8, .int .i64 2, .int .i64 0, .int .i64 0, .int .u8 15, .int .i64 6, .int .i64 4, .int .i64 0, .int .i64 0]
def exB : HB := HB.cells .own [.str ((⟨#[120]⟩ : ByteArray)), .int .i64 (-2), .int .i64 3, .str ((⟨#[121]⟩ : ByteArray)), .int .i64 0, .int .i64 2]
def exD : HB := HB.cells .own [.int .i64 7, .int .i64 9, .int .i64 10]
def knA : HB := HB.cells .own [.int .i64 (-2), .int .i64 3, .int .u8 0, .int .i64 0, .int .i64 2, .int .u8 0, .int .i64 (-2), .int .i64 5, .int .u8 0, .int .i64 (-4), .int .i64 6, .int .u8 0, .int .i64 (-2), .int .i64 3, .int .u8 1, .int .i64 0, .int .i64 1, .int .u8 1, .int .i64 0, .int .i64 1, .int .u8 0, .int .i64 (-4), .int .i64 6, .int .u8 0, .int .i64 9000, .int .i64 9000, .int .u8 0, .int .i64 (-9999), .int .i64 9999, .int .u8 2, .int .i64 (-2), .int .i64 3, .int .u8 1]
def tiL : List B := [⟨-2, 3, 0⟩, ⟨0, 2, 0⟩, ⟨-2, 5, 0⟩, ⟨-4, 6, 0⟩, ⟨-2, 3, 1⟩, ⟨0, 1, 1⟩, ⟨0, 1, 0⟩, ⟨-2, 6, 0⟩, ⟨9000, 9000, 0⟩, ⟨-9000, 9000, 2⟩, ⟨-2, 0, 1⟩]
def clL : List B := [⟨-2, 3, 0⟩, ⟨0, 2, 0⟩, ⟨-2, 5, 0⟩, ⟨-4, 6, 0⟩, ⟨-2, 3, 1⟩, ⟨0, 1, 1⟩, ⟨1, 1, 0⟩, ⟨-2, 5, 0⟩, ⟨9000, 9000, 0⟩, ⟨-9999, 9999, 2⟩, ⟨-2, 3, 1⟩]
def wiL : List Int := [3, 3, 4, 4, 3, 2, 2, 4, 15, 15, 3]
theorem c_awake {L n : Nat} (hn : 31 ≤ n) (hL : 30000 ≤ L) (h : List HB) (vH1 : TV) (H1 : List HB) (vH3 : TV) (H3 : List HB) (vH5 : TV) (H5 : List HB) (vH6 : TV) (H6 : List HB) (sH1 : SV H1 vH1 3 B.tvs knL) (sH3 : SV H3 vH3 3 B.tvs tiL) (sH5 : SV H5 vH5 3 B.tvs clL) (k1 : Onto H1 H6) (k3 : Onto H3 H6) (k5 : Onto H5 H6) (sH6 : SV H6 vH6 1 I.tvs wiL)  (hof : AP L (n - 1) (.fn 19 [] []) [.agg [.slc ((h ++ [exA]).length) 0 2 2 3 true, .slc h.length 0 11 11 5 true, .slc ((h ++ [exA] ++ [exB]).length) 0 3 3 1 true]] (h ++ [exA] ++ [exB] ++ [exD]) = some (.tup [vH1, .int .i64 0], H1, [])) (hweak0 : AP L (n - 1) (.fn 24 [] []) [.agg [.slc ((H1 ++ [exA]).length) 0 2 2 3 true, .slc H1.length 0 11 11 5 true, .slc ((H1 ++ [exA] ++ [exB]).length) 0 3 3 1 true], .slc ((H1 ++ [exA] ++ [exB] ++ [exD]).length) 0 11 11 3 true] (H1 ++ [exA] ++ [exB] ++ [exD] ++ [knA]) = some (.tup [.int .i64 0, .int .i64 7], H1 ++ [exA] ++ [exB] ++ [exD] ++ [knA], [])) (htight : AP L (n - 1) (.fn 29 [] []) [.agg [.slc ((H1 ++ [exA] ++ [exB] ++ [exD] ++ [knA] ++ [exA]).length) 0 2 2 3 true, .slc ((H1 ++ [exA] ++ [exB] ++ [exD] ++ [knA]).length) 0 11 11 5 true, .slc ((H1 ++ [exA] ++ [exB] ++ [exD] ++ [knA] ++ [exA] ++ [exB]).length) 0 3 3 1 true]] (H1 ++ [exA] ++ [exB] ++ [exD] ++ [knA] ++ [exA] ++ [exB] ++ [exD]) = some (.tup [vH3, .int .i64 0], H3, [])) (hnever0 : AP L (n - 1) (.fn 31 [] []) [.agg [.slc ((H3 ++ [exA]).length) 0 2 2 3 true, .slc H3.length 0 11 11 5 true, .slc ((H3 ++ [exA] ++ [exB]).length) 0 3 3 1 true], .int .i64 9] (H3 ++ [exA] ++ [exB] ++ [exD]) = some (.tup [.int .u8 13, .int .i64 0], H3 ++ [exA] ++ [exB] ++ [exD], [])) (hclip : AP L (n - 1) (.fn 32 [] []) [.agg [.slc ((H3 ++ [exA] ++ [exB] ++ [exD] ++ [exA]).length) 0 2 2 3 true, .slc ((H3 ++ [exA] ++ [exB] ++ [exD]).length) 0 11 11 5 true, .slc ((H3 ++ [exA] ++ [exB] ++ [exD] ++ [exA] ++ [exB]).length) 0 3 3 1 true], .int .i64 6, .agg [.int .i64 1, .int .i64 1, .int .u8 0]] (H3 ++ [exA] ++ [exB] ++ [exD] ++ [exA] ++ [exB] ++ [exD]) = some (.tup [vH5, .int .i64 0], H5, [])) (hwidths : AP L (n - 1) (.fn 35 [] []) [.agg [.slc ((H5 ++ [exA]).length) 0 2 2 3 true, .slc H5.length 0 11 11 5 true, .slc ((H5 ++ [exA] ++ [exB]).length) 0 3 3 1 true]] (H5 ++ [exA] ++ [exB] ++ [exD]) = some (.tup [vH6, .int .i64 0], H6, [])) (hsame0 : AP L (n - 1) (.fn 22 [] []) [vH1, .slc H6.length 0 11 11 3 true] (H6 ++ [knA]) = some (.bool true, H6 ++ [knA], [])) (hprove0 : AP L (n - 1) (.fn 26 [] []) [.agg [.slc ((H6 ++ [knA] ++ [exA]).length) 0 2 2 3 true, .slc ((H6 ++ [knA]).length) 0 11 11 5 true, .slc ((H6 ++ [knA] ++ [exA] ++ [exB]).length) 0 3 3 1 true], .slc ((H6 ++ [knA] ++ [exA] ++ [exB] ++ [exD]).length) 0 11 11 3 true] (H6 ++ [knA] ++ [exA] ++ [exB] ++ [exD] ++ [knA]) = some (.bool true, H6 ++ [knA] ++ [exA] ++ [exB] ++ [exD] ++ [knA], [])) : AP L n (.fn 18 [] []) [] h = some (.bool true, h, []) :=
  ap_t (by omega) (by kernel_rfl) (.c (c_example (by omega) hL h) <| .c hof <| .c (c_example (by omega) hL H1) <| .c (c_known (by omega) hL (H1 ++ [exA] ++ [exB] ++ [exD])) <| .c hweak0 <| .c (c_example (by omega) hL (H1 ++ [exA] ++ [exB] ++ [exD] ++ [knA])) <| .c htight <| .c (c_example (by omega) hL H3) <| .c hnever0 <| .c (c_example (by omega) hL (H3 ++ [exA] ++ [exB] ++ [exD])) <| .c (c_to (by omega) hL (H3 ++ [exA] ++ [exB] ++ [exD] ++ [exA] ++ [exB] ++ [exD]) 1 1 0) <| .c hclip <| .c (c_example (by omega) hL H5) <| .c hwidths <| .b2 (rfl : true = true) <| .c (c_known (by omega) hL H6) <| .b (rfl : true = true) <| .c hsame0 <| .b4 (rfl : true = true) <| .b (rfl : true = true) <| .c (c_example (by omega) hL (H6 ++ [knA])) <| .b (rfl : true = true) <| .c (c_known (by omega) hL (H6 ++ [knA] ++ [exA] ++ [exB] ++ [exD])) <| .b (rfl : true = true) <| .c hprove0 <| .b4 (rfl : true = true) <| .b2 (rfl : true = true) <| .k (((((((sH3.onto k3).app _).app _).app _).app _).app _).len u29 : lenT Tryz.prog #[29] (H6 ++ [knA] ++ [exA] ++ [exB] ++ [exD] ++ [knA]) (vH3) = some (.int .i64 11, noInf)) <| .b4 (rfl : true = true) <| .p (sH3.ix u29 z38 (by decide) (by decide) : indexAddrT Tryz.prog 29 (.val vH3) (.int .i64 7) = some (.val (.ptr (eb vH3) (eo vH3 7) (eo vH3 7 + 3)))) <| .b (rfl : true = true) <| .l (((((((sH3.onto k3).app _).app _).app _).app _).app _).agg (i := 7) (by decide) (by decide) B0 rfl : rdAt true 3 (H6 ++ [knA] ++ [exA] ++ [exB] ++ [exD] ++ [knA]) (eb vH3) (eo vH3 7) (eo vH3 7 + 3) = some (.agg [.int .i64 (-2), .int .i64 6, .int .u8 0])) <| .b (rfl : true = true) <| .c (c_to (by omega) hL (H6 ++ [knA] ++ [exA] ++ [exB] ++ [exD] ++ [knA]) (-2) 6 0) <| .b (rfl : true = true) <| .r (eq_B38 _ _ ((⟨-2, 6, 0⟩ : B)) ((⟨-2, 6, 0⟩ : B)) : binT Tryz.prog .eql 38 (.tmp 73) (.tmp 74) (.agg [.int .i64 (-2), .int .i64 6, .int .u8 0]) (.agg [.int .i64 (-2), .int .i64 6, .int .u8 0]) = some (.bool true)) <| .b3 (rfl : true = true) <| .p (sH3.ix u29 z38 (by decide) (by decide) : indexAddrT Tryz.prog 29 (.val vH3) (.int .i64 9) = some (.val (.ptr (eb vH3) (eo vH3 9) (eo vH3 9 + 3)))) <| .b (rfl : true = true) <| .l (((((((sH3.onto k3).app _).app _).app _).app _).app _).agg (i := 9) (by decide) (by decide) B0 rfl : rdAt true 3 (H6 ++ [knA] ++ [exA] ++ [exB] ++ [exD] ++ [knA]) (eb vH3) (eo vH3 9) (eo vH3 9 + 3) = some (.agg [.int .i64 (-9000), .int .i64 9000, .int .u8 2])) <| .b (rfl : true = true) <| .c (c_to (by omega) hL (H6 ++ [knA] ++ [exA] ++ [exB] ++ [exD] ++ [knA]) (-9000) 9000 2) <| .b (rfl : true = true) <| .r (eq_B38 _ _ ((⟨-9000, 9000, 2⟩ : B)) ((⟨-9000, 9000, 2⟩ : B)) : binT Tryz.prog .eql 38 (.tmp 80) (.tmp 81) (.agg [.int .i64 (-9000), .int .i64 9000, .int .u8 2]) (.agg [.int .i64 (-9000), .int .i64 9000, .int .u8 2]) = some (.bool true)) <| .b3 (rfl : true = true) <| .p (sH3.ix u29 z38 (by decide) (by decide) : indexAddrT Tryz.prog 29 (.val vH3) (.int .i64 10) = some (.val (.ptr (eb vH3) (eo vH3 10) (eo vH3 10 + 3)))) <| .b (rfl : true = true) <| .l (((((((sH3.onto k3).app _).app _).app _).app _).app _).agg (i := 10) (by decide) (by decide) B0 rfl : rdAt true 3 (H6 ++ [knA] ++ [exA] ++ [exB] ++ [exD] ++ [knA]) (eb vH3) (eo vH3 10) (eo vH3 10 + 3) = some (.agg [.int .i64 (-2), .int .i64 0, .int .u8 1])) <| .b (rfl : true = true) <| .c (c_to (by omega) hL (H6 ++ [knA] ++ [exA] ++ [exB] ++ [exD] ++ [knA]) (-2) 0 1) <| .b (rfl : true = true) <| .r (eq_B38 _ _ ((⟨-2, 0, 1⟩ : B)) ((⟨-2, 0, 1⟩ : B)) : binT Tryz.prog .eql 38 (.tmp 87) (.tmp 88) (.agg [.int .i64 (-2), .int .i64 0, .int .u8 1]) (.agg [.int .i64 (-2), .int .i64 0, .int .u8 1]) = some (.bool true)) <| .b4 (rfl : true = true) <| .b4 (rfl : true = true) <| .b4 (rfl : true = true) <| .k (((((((sH5.onto k5).app _).app _).app _).app _).app _).len u29 : lenT Tryz.prog #[29] (H6 ++ [knA] ++ [exA] ++ [exB] ++ [exD] ++ [knA]) (vH5) = some (.int .i64 11, noInf)) <| .b4 (rfl : true = true) <| .p (sH5.ix u29 z38 (by decide) (by decide) : indexAddrT Tryz.prog 29 (.val vH5) (.int .i64 6) = some (.val (.ptr (eb vH5) (eo vH5 6) (eo vH5 6 + 3)))) <| .b (rfl : true = true) <| .l (((((((sH5.onto k5).app _).app _).app _).app _).app _).agg (i := 6) (by decide) (by decide) B0 rfl : rdAt true 3 (H6 ++ [knA] ++ [exA] ++ [exB] ++ [exD] ++ [knA]) (eb vH5) (eo vH5 6) (eo vH5 6 + 3) = some (.agg [.int .i64 1, .int .i64 1, .int .u8 0])) <| .b (rfl : true = true) <| .c (c_to (by omega) hL (H6 ++ [knA] ++ [exA] ++ [exB] ++ [exD] ++ [knA]) 1 1 0) <| .b (rfl : true = true) <| .r (eq_B38 _ _ ((⟨1, 1, 0⟩ : B)) ((⟨1, 1, 0⟩ : B)) : binT Tryz.prog .eql 38 (.tmp 111) (.tmp 112) (.agg [.int .i64 1, .int .i64 1, .int .u8 0]) (.agg [.int .i64 1, .int .i64 1, .int .u8 0]) = some (.bool true)) <| .b3 (rfl : true = true) <| .p (sH5.ix u29 z38 (by decide) (by decide) : indexAddrT Tryz.prog 29 (.val vH5) (.int .i64 7) = some (.val (.ptr (eb vH5) (eo vH5 7) (eo vH5 7 + 3)))) <| .b (rfl : true = true) <| .l (((((((sH5.onto k5).app _).app _).app _).app _).app _).agg (i := 7) (by decide) (by decide) B0 rfl : rdAt true 3 (H6 ++ [knA] ++ [exA] ++ [exB] ++ [exD] ++ [knA]) (eb vH5) (eo vH5 7) (eo vH5 7 + 3) = some (.agg [.int .i64 (-2), .int .i64 5, .int .u8 0])) <| .b (rfl : true = true) <| .c (c_to (by omega) hL (H6 ++ [knA] ++ [exA] ++ [exB] ++ [exD] ++ [knA]) (-2) 5 0) <| .b (rfl : true = true) <| .r (eq_B38 _ _ ((⟨-2, 5, 0⟩ : B)) ((⟨-2, 5, 0⟩ : B)) : binT Tryz.prog .eql 38 (.tmp 118) (.tmp 119) (.agg [.int .i64 (-2), .int .i64 5, .int .u8 0]) (.agg [.int .i64 (-2), .int .i64 5, .int .u8 0]) = some (.bool true)) <| .b3 (rfl : true = true) <| .p (sH5.ix u29 z38 (by decide) (by decide) : indexAddrT Tryz.prog 29 (.val vH5) (.int .i64 10) = some (.val (.ptr (eb vH5) (eo vH5 10) (eo vH5 10 + 3)))) <| .b (rfl : true = true) <| .l (((((((sH5.onto k5).app _).app _).app _).app _).app _).agg (i := 10) (by decide) (by decide) B0 rfl : rdAt true 3 (H6 ++ [knA] ++ [exA] ++ [exB] ++ [exD] ++ [knA]) (eb vH5) (eo vH5 10) (eo vH5 10 + 3) = some (.agg [.int .i64 (-2), .int .i64 3, .int .u8 1])) <| .b (rfl : true = true) <| .c (c_to (by omega) hL (H6 ++ [knA] ++ [exA] ++ [exB] ++ [exD] ++ [knA]) (-2) 3 1) <| .b (rfl : true = true) <| .r (eq_B38 _ _ ((⟨-2, 3, 1⟩ : B)) ((⟨-2, 3, 1⟩ : B)) : binT Tryz.prog .eql 38 (.tmp 125) (.tmp 126) (.agg [.int .i64 (-2), .int .i64 3, .int .u8 1]) (.agg [.int .i64 (-2), .int .i64 3, .int .u8 1]) = some (.bool true)) <| .b4 (rfl : true = true) <| .b2 (rfl : true = true) <| .k ((((((sH6.app _).app _).app _).app _).app _).len u24 : lenT Tryz.prog #[24] (H6 ++ [knA] ++ [exA] ++ [exB] ++ [exD] ++ [knA]) (vH6) = some (.int .i64 11, noInf)) <| .b4 (rfl : true = true) <| .p (sH6.ix u24 z3 (by decide) (by decide) : indexAddrT Tryz.prog 24 (.val vH6) (.int .i64 2) = some (.val (.ptr (eb vH6) (eo vH6 2) (eo vH6 2 + 1)))) <| .b (rfl : true = true) <| .l ((((((sH6.app _).app _).app _).app _).app _).fld0 (i := 2) (by decide) (by decide) 0 (by decide) rfl : rdAt false 1 (H6 ++ [knA] ++ [exA] ++ [exB] ++ [exD] ++ [knA]) (eb vH6) (eo vH6 2) (eo vH6 2 + 1) = some (.int .i64 4)) <| .b4 (rfl : true = true) <| .p (sH6.ix u24 z3 (by decide) (by decide) : indexAddrT Tryz.prog 24 (.val vH6) (.int .i64 9) = some (.val (.ptr (eb vH6) (eo vH6 9) (eo vH6 9 + 1)))) <| .b (rfl : true = true) <| .l ((((((sH6.app _).app _).app _).app _).app _).fld0 (i := 9) (by decide) (by decide) 0 (by decide) rfl : rdAt false 1 (H6 ++ [knA] ++ [exA] ++ [exB] ++ [exD] ++ [knA]) (eb vH6) (eo vH6 9) (eo vH6 9 + 1) = some (.int .i64 15)) <| .b2 (rfl : true = true) <| .m (st_18_7 : staticOk (regOps Tryz.prog 18 7) = true) <| .n)
end Go.Proofs.YtfhiejgoemcelaaGreat
namespace Go.Proofs.YtfhiejgoemcelaaGreat
open Go Tw
theorem of_ex : S_Of exC = (knL, 0) := by kernel_rfl
theorem weak_ex : S_Weak exC knL = (0, 7) := by kernel_rfl
theorem prove_ex : S_Prove exC knL = true := by kernel_rfl
theorem tight_ex : S_Tight exC = (tiL, 0) := by kernel_rfl
theorem never_ex : M_Never exC 9 = (13, 0) := by kernel_rfl
theorem clip_ex : S_Clip exC 6 ⟨1, 1, 0⟩ = (clL, 0) := by kernel_rfl
theorem widths_ex : S_Widths exC = (wiL, 0) := by kernel_rfl
theorem width_some_ex : ∀ r ∈ (S_Of exC).1, (widthF 64 r 0 1).isSome = true := by rw [of_ex]; decide
theorem same_ex : S_same knL knL = true := by kernel_rfl
theorem ex_cs (H : List HB) : SV (H ++ [exA] ++ [exB] ++ [exD]) (.slc ((H ++ [exA]).length) 0 2 2 3 true) 3 K.tvs exC.cs :=
  (SV.new exC.cs (by intro a _; rfl) rfl).app [exD]
theorem ex_os (H : List HB) : SV (H ++ [exA] ++ [exB] ++ [exD]) (.slc H.length 0 11 11 5 true) 5 O.tvs exC.os :=
  ((SV.new exC.os (by intro a _; rfl) rfl).app [exB]).app [exD]
theorem ex_rs (H : List HB) : SV (H ++ [exA] ++ [exB] ++ [exD]) (.slc ((H ++ [exA] ++ [exB]).length) 0 3 3 1 true) 1 I.tvs exC.rs :=
  SV.new exC.rs (by intro a _; rfl) rfl
theorem kn_sv (H : List HB) : SV (H ++ [knA]) (.slc H.length 0 11 11 3 true) 3 B.tvs knL :=
  SV.new knL (by intro a _; rfl) rfl
theorem k_awake {L n : Nat} (hn : 31 ≤ n) (hL : 30000 ≤ L) (h : List HB) : AP L n (.fn 18 [] []) [] h = some (.bool true, h, []) := by
  obtain ⟨v1, H1, a1, o1, s1⟩ := k_Of (n := n - 1) (by omega) hL _ _ _ _ exC (ex_cs h) (ex_os h) (ex_rs h)
  rw [of_ex] at a1 s1
  have a2 := c_Weak (n := n - 1) (by omega) hL _ _ _ _ _ exC ((ex_cs H1).app [knA]) ((ex_os H1).app [knA]) ((ex_rs H1).app [knA]) knL (kn_sv _) (by decide)
  rw [weak_ex] at a2
  obtain ⟨v3, H3, a3, o3, s3⟩ := k_Tight (n := n - 1) (by omega) hL _ _ _ _ exC (ex_cs (H1 ++ [exA] ++ [exB] ++ [exD] ++ [knA])) (ex_os _) (ex_rs _)
  rw [tight_ex] at a3 s3
  have a4 := k_Never (n := n - 1) (by omega) hL _ 9 _ _ _ exC (ex_cs H3) (ex_os _) (ex_rs _)
  rw [never_ex] at a4
  obtain ⟨v5, H5, a5, o5, s5⟩ := k_Clip (n := n - 1) (by omega) hL _ 6 ⟨1, 1, 0⟩ _ _ _ exC (ex_cs (H3 ++ [exA] ++ [exB] ++ [exD])) (ex_os _) (ex_rs _)
  rw [clip_ex] at a5 s5
  obtain ⟨v6, H6, a6, o6, s6⟩ := k_Widths (n := n - 1) (by omega) hL _ _ _ _ exC (ex_cs H5) (ex_os _) (ex_rs _) width_some_ex
  rw [widths_ex] at a6 s6
  have k5 : Onto H5 H6 := (Onto.app (Onto.app (Onto.app Onto.refl [exA]) [exB]) [exD]).trans o6
  have k35 : Onto H3 H5 := (Onto.app (Onto.app (Onto.app (Onto.app (Onto.app (Onto.app Onto.refl [exA]) [exB]) [exD]) [exA]) [exB]) [exD]).trans o5
  have k13 : Onto H1 H3 := (Onto.app (Onto.app (Onto.app (Onto.app (Onto.app (Onto.app (Onto.app Onto.refl [exA]) [exB]) [exD]) [knA]) [exA]) [exB]) [exD]).trans o3
  have a7 := c_same (n := n - 1) (by omega) hL (H6 ++ [knA]) v1 (.slc H6.length 0 11 11 3 true) knL knL (((s1.onto k13).onto (k35.trans k5)).app [knA]) (kn_sv _) (by decide)
  rw [same_ex] at a7
  have a8 := c_Prove (n := n - 1) (by omega) hL _ _ _ _ _ exC ((ex_cs (H6 ++ [knA])).app [knA]) ((ex_os _).app [knA]) ((ex_rs _).app [knA]) knL (kn_sv _) (by decide)
  rw [prove_ex] at a8
  exact c_awake hn hL h v1 H1 v3 H3 v5 H5 v6 H6 s1 s3 s5 (k13.trans (k35.trans k5)) (k35.trans k5) k5 s6 a1 a2 a3 a4 a5 a6 a7 a8
end Go.Proofs.YtfhiejgoemcelaaGreat
namespace Go.Proofs.YtfhiejgoemcelaaGreat
open Go Tw
def bv (x : Int) : BitVec 8 := BitVec.ofInt 8 x
theorem bv_nat (v : BitVec 8) : bv ((v.toNat : Nat) : Int) = v := by
  unfold bv
  rw [BitVec.ofInt_natCast]
  exact BitVec.ofNat_toNat 8 v ▸ by simp
theorem wrap_bv (v : BitVec 8) : IntKind.u8.wrap ((v.toNat : Nat) : Int) = ((v.toNat : Nat) : Int) := by
  have := v.isLt
  simp only [IntKind.wrap, IntKind.signed, IntKind.bits, Bool.false_and, Bool.false_eq_true, if_false]
  omega
theorem or8_bv (x y : Int) : orI .u8 x y = (((bv x ||| bv y).toNat : Nat) : Int) := wrap_bv _
theorem bv_good {f : Int} (h0 : 0 ≤ f) (h1 : f ≤ 255) : f = (((bv f).toNat : Nat) : Int) := by
  unfold bv
  simp only [BitVec.toNat_ofInt]
  omega
theorem or8_0 {f : Int} (h0 : 0 ≤ f) (h1 : f ≤ 255) : orI .u8 0 f = f := by
  rw [or8_bv, show bv 0 = 0#8 from rfl, BitVec.zero_or]; exact (bv_good h0 h1).symm
theorem or8_0' {f : Int} (h0 : 0 ≤ f) (h1 : f ≤ 255) : orI .u8 f 0 = f := by
  rw [or8_bv, show bv 0 = 0#8 from rfl, BitVec.or_zero]; exact (bv_good h0 h1).symm
theorem or8_comm (x y : Int) : orI .u8 x y = orI .u8 y x := by rw [or8_bv, or8_bv, BitVec.or_comm]
theorem or8_assoc (x y z : Int) : orI .u8 (orI .u8 x y) z = orI .u8 x (orI .u8 y z) := by
  simp only [or8_bv, bv_nat, BitVec.or_assoc]
theorem or8_00 (x y : Int) : orI .u8 (orI .u8 0 x) y = orI .u8 x y := by
  simp only [or8_bv, bv_nat, show bv 0 = 0#8 from rfl, BitVec.zero_or]
theorem or8_range (x y : Int) : 0 ≤ orI .u8 x y ∧ orI .u8 x y ≤ 255 := by
  rw [or8_bv]; have := (bv x ||| bv y).isLt; omega
theorem bv_15 {f : Int} (h0 : 0 ≤ f) (h1 : f ≤ 15) : (bv f).toNat < 2 ^ 4 := by
  have := bv_good h0 (by omega); omega
theorem or8_15 {x y : Int} (h0 : 0 ≤ x) (h1 : x ≤ 15) (h2 : 0 ≤ y) (h3 : y ≤ 15) : 0 ≤ orI .u8 x y ∧ orI .u8 x y ≤ 15 := by
  rw [or8_bv, BitVec.toNat_or]
  have := Nat.or_lt_two_pow (bv_15 h0 h1) (bv_15 h2 h3)
  omega
def Can (r : B) : Prop := r.lo ≤ r.hi ∨ r.lo = 1 ∧ r.hi = 0
structure Good (r : B) : Prop where
  num : -9999 ≤ r.lo ∧ r.lo ≤ r.hi ∧ r.hi ≤ 9999 ∨ r.lo = 1 ∧ r.hi = 0
  f0 : 0 ≤ r.f
  f1 : r.f ≤ 15
theorem Good.can {r : B} (h : Good r) : Can r := by rcases h.num with h | h; exact .inl h.2.1; exact .inr h
theorem hull_eq {b x : B} (hb : Can b) (hx : Can x) : S_hull b x true = S_rHull b x := by
  obtain ⟨bl, bh, bf⟩ := b
  obtain ⟨xl, xh, xf⟩ := x
  simp only [Can] at hb hx
  simp only [S_hull, S_rHull, S_with, ors, Bool.not_true, Bool.false_eq_true, if_false, Bool.not_eq_true', decide_eq_false_iff_not, or8_00]
  split
  · rename_i h
    split
    · simp only [B.mk.injEq, and_true]; omega
    · rfl
  · split
    · rw [or8_comm]
    · rfl
theorem hull_no (b x : B) : S_hull b x false = b := rfl
theorem Can.none {f : Int} : Can ⟨1, 0, f⟩ := .inr ⟨rfl, rfl⟩
theorem Can.pt {k f : Int} : Can ⟨k, k, f⟩ := .inl (Int.le_refl k)
theorem Can.hull {b x : B} (hb : Can b) (hx : Can x) : Can (S_rHull b x) := by
  obtain ⟨bl, bh, bf⟩ := b
  obtain ⟨xl, xh, xf⟩ := x
  simp only [Can] at hb hx ⊢
  simp only [S_rHull, Bool.not_eq_true', decide_eq_false_iff_not, minI, maxI]
  split
  · exact hx
  · split
    · exact hb
    · left; simp only; repeat' split
      all_goals omega
theorem Can.with {b : B} (hb : Can b) (k : Int) : Can (S_rWith b k) := hb.hull .pt
theorem hull_with {b : B} (hb : Can b) (k : Int) : S_hull b ⟨k, k, 0⟩ true = S_rWith b k := hull_eq hb .pt
theorem hull_f {a b : B} : (S_rHull a b).f = orI .u8 a.f b.f := by
  unfold S_rHull; split
  · rfl
  · split <;> rfl
theorem with_f {b : B} {k : Int} (h0 : 0 ≤ b.f) (h1 : b.f ≤ 255) : (S_rWith b k).f = b.f := by
  rw [S_rWith, hull_f]; exact or8_0' h0 h1
theorem mayBe0_eq (r : B) : S_mayBe0 r = S_rMayBe0 r := rfl
theorem mayBeOther_eq (r : B) : S_mayBeOther r = S_rMayBeOther r := rfl
theorem fault_eq (k : Int) : S_bit k = S_rFault k := rfl
theorem bit_1 : S_bit 1 = 1 := by decide
theorem bit_2 : S_bit 2 = 2 := by decide
end Go.Proofs.YtfhiejgoemcelaaGreat
namespace Go.Proofs.YtfhiejgoemcelaaGreat
open Go Tw
def ptsB (b : B) (l : List Int) : B := l.foldl S_rWith b
def IsHull (r : B) (l : List Int) : Prop := r.f = 0 ∧ ((l = [] ∧ r.lo = 1 ∧ r.hi = 0) ∨ (r.lo ∈ l ∧ r.hi ∈ l ∧ ∀ x ∈ l, r.lo ≤ x ∧ x ≤ r.hi))
theorem IsHull.le {r : B} {l : List Int} (h : IsHull r l) (hl : l ≠ []) : r.lo ≤ r.hi := by
  rcases h.2 with h | h
  · exact absurd h.1 hl
  · exact (h.2.2 _ h.1).2
theorem isHull_with {r : B} {l : List Int} (h : IsHull r l) (k : Int) : IsHull (S_rWith r k) (l ++ [k]) := by
  obtain ⟨h0, h⟩ := h
  refine ⟨by rw [with_f (by omega) (by omega), h0], .inr ?_⟩
  obtain ⟨rl, rh, rf⟩ := r
  simp only at h0 h
  rcases h with ⟨rfl, rfl, rfl⟩ | ⟨h1, h2, h3⟩
  · simp [S_rWith, S_rHull]
  · have hle := (h3 _ h1).2
    simp only [S_rWith, S_rHull, minI, maxI, Bool.not_eq_true', decide_eq_false_iff_not, hle, not_true_eq_false, if_false, Int.le_refl]
    refine ⟨?_, ?_, ?_⟩
    · split <;> simp [h1]
    · split <;> simp [h2]
    · intro x hx
      rcases List.mem_append.mp hx with hx | hx
      · have := h3 x hx
        constructor <;> split <;> omega
      · simp only [List.mem_singleton] at hx; subst hx
        constructor <;> split <;> omega
theorem isHull_pts : ∀ (l l0 : List Int) {r : B}, IsHull r l0 → IsHull (ptsB r l) (l0 ++ l)
  | [], l0, r, h => by simpa [ptsB] using h
  | x :: l, l0, r, h => by
    have := isHull_pts l (l0 ++ [x]) (isHull_with h x)
    simpa [ptsB] using this
theorem isHull_nil : IsHull ⟨1, 0, 0⟩ [] := ⟨rfl, .inl ⟨rfl, rfl, rfl⟩⟩
theorem isHull_eq {r s : B} {l m : List Int} (hr : IsHull r l) (hs : IsHull s m) (h : ∀ x, x ∈ l ↔ x ∈ m) : r = s := by
  obtain ⟨rl, rh, rf⟩ := r
  obtain ⟨sl, sh, sf⟩ := s
  obtain ⟨h0, hr⟩ := hr
  obtain ⟨g0, hs⟩ := hs
  simp only at h0 g0 hr hs
  subst h0; subst g0
  rcases hr with ⟨rfl, rfl, rfl⟩ | ⟨a1, a2, a3⟩
  · rcases hs with ⟨rfl, rfl, rfl⟩ | ⟨b1, b2, b3⟩
    · rfl
    · exact absurd ((h _).mpr b1) (by simp)
  · rcases hs with ⟨rfl, rfl, rfl⟩ | ⟨b1, b2, b3⟩
    · exact absurd ((h _).mp a1) (by simp)
    · have c1 := b3 _ ((h _).mp a1)
      have c2 := b3 _ ((h _).mp a2)
      have c3 := a3 _ ((h _).mpr b1)
      have c4 := a3 _ ((h _).mpr b2)
      simp only [B.mk.injEq, and_true]
      omega
def cornB (g : Int → Int → Int) (a b : B) : B := ptsB ⟨1, 0, 0⟩ [g a.lo b.lo, g a.lo b.hi, g a.hi b.lo, g a.hi b.hi]
theorem cornB_hull (g : Int → Int → Int) (a b : B) :
    S_hull (S_hull (S_hull (S_hull ((⟨1, 0, 0⟩ : B)) ((⟨g (a.lo) (b.lo), g (a.lo) (b.lo), 0⟩ : B)) true) ((⟨g (a.lo) (b.hi), g (a.lo) (b.hi), 0⟩ : B)) true) ((⟨g (a.hi) (b.lo), g (a.hi) (b.lo), 0⟩ : B)) true) ((⟨g (a.hi) (b.hi), g (a.hi) (b.hi), 0⟩ : B)) true = cornB g a b := by
  rw [hull_with .none, hull_with (Can.none.with _), hull_with ((Can.none.with _).with _), hull_with (((Can.none.with _).with _).with _)]
  rfl
theorem cut_eq {m : B} (hf : m.f = 0) (hle : m.lo ≤ m.hi) : (if S_inside m ⟨-9999, 9999, 0⟩ = true then m else S_with (S_common m ⟨-9999, 9999, 0⟩) [S_bit 2]) = S_rCut m := by
  obtain ⟨l, h, f⟩ := m
  simp only at hf hle
  subst hf
  simp only [S_inside, S_rCut, S_common, S_with, ors, bit_2, show S_rFault 2 = 2 from by decide, Bool.not_eq_true', decide_eq_false_iff_not, hle, not_true_eq_false, if_false, if_true, decide_true, Bool.not_true, Bool.false_eq_true,
    show (andnI .u8 0 0 == 0) = true from by decide, show orI .u8 0 2 = 2 from by decide, show andI .u8 0 0 = 0 from by decide, show orI .u8 0 0 = 0 from by decide, show ((-9999 : Int) ≤ 9999) from by decide, decide_eq_true_eq]
  by_cases h1 : l < -9999
  · have hx : maxI l (-9999) = -9999 := by unfold maxI; rw [if_pos h1]
    have n1 : ¬ -9999 ≤ l := by omega
    by_cases h2 : h < -9999
    · have hm : minI h 9999 = h := by unfold minI; rw [if_neg (by omega)]
      have n2 : ¬ -9999 ≤ h := by omega
      simp [hx, hm, h1, n1, h2, n2, show orI .u8 0 2 = 2 from by decide]
    · have n2 : -9999 ≤ h := by omega
      by_cases h3 : 9999 < h
      · have hm : minI h 9999 = 9999 := by unfold minI; rw [if_pos h3]
        simp [hx, hm, h1, n1, show orI .u8 0 2 = 2 from by decide]
      · have hm : minI h 9999 = h := by unfold minI; rw [if_neg h3]
        simp [hx, hm, h1, n1, h2, n2, show orI .u8 0 2 = 2 from by decide]
  · have n1 : -9999 ≤ l := by omega
    have hx : maxI l (-9999) = l := by unfold maxI; rw [if_neg h1]
    by_cases h3 : 9999 < h
    · have hm : minI h 9999 = 9999 := by unfold minI; rw [if_pos h3]
      have n3 : ¬ h ≤ 9999 := by omega
      by_cases h4 : 9999 < l
      · have n4 : ¬ l ≤ 9999 := by omega
        simp [hx, hm, h1, n1, h3, n3, h4, n4, show orI .u8 0 2 = 2 from by decide]
      · have n4 : l ≤ 9999 := by omega
        simp [hx, hm, h1, n1, h3, n3, h4, n4, show orI .u8 0 2 = 2 from by decide]
    · have n3 : h ≤ 9999 := by omega
      have hm : minI h 9999 = h := by unfold minI; rw [if_neg h3]
      have n5 : ¬ h < l := by omega
      simp [hx, hm, h1, n1, h3, n3, n5]
theorem corners_eq (g : Int → Int → Int) (a b : B) : S_corners g a b = S_rCut (cornB g a b) := by
  unfold S_corners
  rw [cornB_hull]
  have h := isHull_pts [g a.lo b.lo, g a.lo b.hi, g a.hi b.lo, g a.hi b.hi] [] isHull_nil
  exact cut_eq h.1 (h.le (by simp))
theorem run_counted {z code : Int} : ∀ (l : List Int) (i : Nat) (s : B), getE (runL (F_rCounted z code) l i s) = ptsB s (l.map (S_rResult code z))
  | [], _, _ => rfl
  | x :: l, i, s => by
    simp only [runL, F_rCounted, List.map_cons]
    exact run_counted l (i + 1) _
theorem pts_app (b : B) (l m : List Int) : ptsB (ptsB b l) m = ptsB b (l ++ m) := (List.foldl_append ..).symm
theorem counted_eq {code : Int} (hc : code ≠ 10) (a b : B) : S_rCounted code a b = S_rCut (cornB (S_rResult code) a b) := by
  unfold S_rCounted
  rw [if_neg (by simpa using hc)]
  simp only [run_counted, pts_app]
  rfl
theorem run_div {b y : B} : ∀ (l : List Int) (i : Nat) {s : B}, Can s → getE (runL (F_div b y) l i s) = ptsB s ((l.filter (isDiv y)).flatMap fun x => [S_quotient b.lo x, S_quotient b.hi x])
  | [], _, _, _ => rfl
  | x :: l, i, s, hs => by
    simp only [runL, F_div]
    by_cases h0 : (x == 0) = true
    · have : isDiv y x = false := by simp only [isDiv, bne, h0, Bool.not_true, Bool.false_and]
      rw [if_pos h0, List.filter_cons_of_neg (by simp [this])]
      exact run_div l _ hs
    · rw [if_neg h0]
      by_cases h1 : S_has y x = true
      · have : isDiv y x = true := by
          simp only [isDiv, bne, Bool.not_eq_true] at h0 ⊢
          simp only [S_has] at h1
          simp only [h0, Bool.not_false, Bool.true_and]
          split at h1
          · rename_i h2; simp only [h2, h1, Bool.and_self]
          · cases h1
        rw [if_neg (by simp [h1]), List.filter_cons_of_pos this, hull_with hs, hull_with (hs.with _)]
        simp only [List.flatMap_cons]
        rw [run_div l _ ((hs.with _).with _), ← pts_app]
        rfl
      · have : isDiv y x = false := by
          simp only [isDiv, bne, Bool.not_eq_true] at h0 ⊢
          simp only [S_has] at h1
          simp only [h0, Bool.not_false, Bool.true_and]
          split at h1
          · rename_i h2; simp only [h2, Bool.true_and]; simpa using h1
          · rename_i h2; simp only [Bool.not_eq_true] at h2; simp only [h2, Bool.false_and]
        rw [if_pos (by simp [h1]), List.filter_cons_of_neg (by simp [this])]
        exact run_div l _ hs
theorem quot_bound {a b : Int} (h0 : -9999 ≤ a) (h1 : a ≤ 9999) (hb : b ≠ 0) (hb0 : -9999 ≤ b) (hb1 : b ≤ 9999) : -9999 ≤ S_quotient a b ∧ S_quotient a b ≤ 9999 := by
  have hw : ∀ z : Int, -100000 ≤ z → z ≤ 100000 → IntKind.i64.wrap z = z := by
    intro z h1 h2
    exact wrap_small (by omega) (by omega)
  have hna : (a.tdiv b).natAbs ≤ a.natAbs := by
    rw [Int.natAbs_tdiv]; exact Nat.div_le_self _ _
  have hq : quoI .i64 a b = a.tdiv b := hw _ (by omega) (by omega)
  have hm := Int.mul_tdiv_add_tmod a b
  unfold S_quotient
  rw [hq]
  split
  · rename_i hr
    split
    · rename_i hs
      rw [hw _ (by omega) (by omega)]
      refine ⟨?_, by omega⟩
      by_cases hb1 : b.natAbs = 1
      · exfalso
        have : b = 1 ∨ b = -1 := by omega
        rcases this with rfl | rfl <;> simp [remI] at hr
      · have : (a.tdiv b).natAbs ≤ a.natAbs / 2 := by
          rw [Int.natAbs_tdiv]; exact Nat.div_le_div_left (by omega) (by omega)
        omega
    · omega
  · omega
theorem floor_eq (z x : Int) : S_rResult 10 z x = S_quotient z x := by
  unfold S_rResult
  rw [if_neg (by decide), if_neg (by decide), if_neg (by decide)]
  rfl
theorem cut_in {m : B} (hf : m.f = 0) (h : (m.lo = 1 ∧ m.hi = 0) ∨ (-9999 ≤ m.lo ∧ m.lo ≤ m.hi ∧ m.hi ≤ 9999)) : S_rCut m = m := by
  obtain ⟨l, h', f⟩ := m
  simp only at hf h
  subst hf
  rcases h with ⟨rfl, rfl⟩ | ⟨h1, h2, h3⟩
  · rfl
  · simp only [S_rCut, Bool.not_eq_true', decide_eq_false_iff_not, h2, not_true_eq_false, if_false, minI, maxI]
    rw [if_neg (by simp; omega), if_neg (by simp; omega), if_neg (by simp; omega)]
    simp only [B.mk.injEq, and_true]; omega
theorem div_pts {b y : B} (hb : -9999 ≤ b.lo ∧ b.lo ≤ b.hi ∧ b.hi ≤ 9999) (hy : -9999 ≤ y.lo ∧ y.lo ≤ y.hi ∧ y.hi ≤ 9999) :
    S_rCounted 10 b y = getE (runL (F_div b y) (([y.lo, y.hi, -1, 1] : List Int)) 0 ((⟨1, 0, 0⟩ : B))) ∧ Good (S_rCounted 10 b y) ∧ (S_rCounted 10 b y).f = 0 := by
  rw [run_div _ _ .none]
  have e1 : S_rCounted 10 b y = S_rCut (ptsB ⟨1, 0, 0⟩ ((S_rDivisors y).map (S_quotient b.lo) ++ (S_rDivisors y).map (S_quotient b.hi))) := by
    unfold S_rCounted
    rw [if_pos (by decide)]
    simp only [run_counted, pts_app]
    rw [show S_rResult 10 b.lo = S_quotient b.lo from funext fun x => floor_eq _ x, show S_rResult 10 b.hi = S_quotient b.hi from funext fun x => floor_eq _ x]
  have hA := isHull_pts ((S_rDivisors y).map (S_quotient b.lo) ++ (S_rDivisors y).map (S_quotient b.hi)) [] isHull_nil
  have hB := isHull_pts (((([y.lo, y.hi, -1, 1] : List Int)).filter (isDiv y)).flatMap fun x => [S_quotient b.lo x, S_quotient b.hi x]) [] isHull_nil
  simp only [List.nil_append] at hA hB
  have hbd : ∀ x ∈ S_rDivisors y, ∀ z, (z = b.lo ∨ z = b.hi) → -9999 ≤ S_quotient z x ∧ S_quotient z x ≤ 9999 := by
    intro x hx z hz
    simp only [S_rDivisors, List.mem_filter, isDiv, Bool.and_eq_true, bne_iff_ne, ne_eq, decide_eq_true_eq] at hx
    exact quot_bound (by rcases hz with rfl | rfl <;> omega) (by rcases hz with rfl | rfl <;> omega) hx.2.1 (by omega) (by omega)
  have hin : ((ptsB ⟨1, 0, 0⟩ ((S_rDivisors y).map (S_quotient b.lo) ++ (S_rDivisors y).map (S_quotient b.hi))).lo = 1 ∧ (ptsB ⟨1, 0, 0⟩ ((S_rDivisors y).map (S_quotient b.lo) ++ (S_rDivisors y).map (S_quotient b.hi))).hi = 0) ∨
      (-9999 ≤ (ptsB ⟨1, 0, 0⟩ ((S_rDivisors y).map (S_quotient b.lo) ++ (S_rDivisors y).map (S_quotient b.hi))).lo ∧ (ptsB ⟨1, 0, 0⟩ ((S_rDivisors y).map (S_quotient b.lo) ++ (S_rDivisors y).map (S_quotient b.hi))).lo ≤ (ptsB ⟨1, 0, 0⟩ ((S_rDivisors y).map (S_quotient b.lo) ++ (S_rDivisors y).map (S_quotient b.hi))).hi ∧ (ptsB ⟨1, 0, 0⟩ ((S_rDivisors y).map (S_quotient b.lo) ++ (S_rDivisors y).map (S_quotient b.hi))).hi ≤ 9999) := by
    rcases hA.2 with h | h
    · exact .inl h.2
    · right
      have hm : ∀ z ∈ (S_rDivisors y).map (S_quotient b.lo) ++ (S_rDivisors y).map (S_quotient b.hi), -9999 ≤ z ∧ z ≤ 9999 := by
        intro z hz
        rcases List.mem_append.mp hz with hz | hz <;> obtain ⟨x, hx, rfl⟩ := List.mem_map.mp hz
        · exact hbd x hx _ (.inl rfl)
        · exact hbd x hx _ (.inr rfl)
      exact ⟨(hm _ h.1).1, (h.2.2 _ h.1).2, (hm _ h.2.1).2⟩
  rw [e1, cut_in hA.1 hin]
  refine ⟨isHull_eq hA hB fun x => ?_, ⟨?_, by rw [hA.1]; decide, by rw [hA.1]; decide⟩, hA.1⟩
  · simp only [S_rDivisors, List.mem_append, List.mem_map, List.mem_flatMap, List.mem_cons, List.not_mem_nil, or_false]
    constructor
    · rintro (⟨d, hd, rfl⟩ | ⟨d, hd, rfl⟩)
      · exact ⟨d, hd, .inl rfl⟩
      · exact ⟨d, hd, .inr rfl⟩
    · rintro ⟨d, hd, rfl | rfl⟩
      · exact .inl ⟨d, hd, rfl⟩
      · exact .inr ⟨d, hd, rfl⟩
  · rcases hin with h | h
    · exact .inr h
    · exact .inl h
end Go.Proofs.YtfhiejgoemcelaaGreat
namespace Go.Proofs.YtfhiejgoemcelaaGreat
open Go Tw
theorem or_0 {f : Int} (h0 : 0 ≤ f) (h1 : f ≤ 15) : orI .u8 0 f = f := or8_0 h0 (by omega)
theorem S_with2 (m : B) (x y : Int) : S_with m [x, y] = ⟨m.lo, m.hi, orI .u8 m.f (orI .u8 x y)⟩ := by
  simp only [S_with, ors, or8_assoc]
theorem rest_eq (a b : B) : S_mod a b = S_with (S_rRest a b) [S_by0 b] := by
  unfold S_mod S_rRest
  rw [mayBeOther_eq]
  repeat' split
  all_goals rfl
theorem truth_eq (a b : Bool) : S_verdict a b = S_rTruth a b := rfl
theorem eq_eq (a b : B) : S_eq a b = (if ((a.lo) == (a.hi)) = true then if ((b.lo) == (b.hi)) = true then if (decide ((a.hi) < (b.lo))) = true then S_rTruth ((a.lo) == (b.lo)) true else S_rTruth ((a.lo) == (b.lo)) (decide ((b.hi) < (a.lo))) else if (decide ((a.hi) < (b.lo))) = true then S_rTruth false true else S_rTruth false (decide ((b.hi) < (a.lo))) else if (decide ((a.hi) < (b.lo))) = true then S_rTruth false true else S_rTruth false (decide ((b.hi) < (a.lo)))) := rfl
theorem by0_1 (b : B) : S_by0 b = if S_rMayBe0 b = true then 1 else 0 := by
  unfold S_by0; rw [mayBe0_eq, bit_1]
def pairM (code : Int) (a b : B) : B :=
  if code = 11 then S_rRest a b else if code = 12 then S_eq a b else if code = 13 then S_lt a b else if code = 14 then S_le a b else S_rCounted code a b
theorem rPair_eq {code : Int} (a b : B) : S_rPair code a b =
    if a.f = a.f ∧ ¬ (b.lo ≤ b.hi) then ⟨1, 0, orI .u8 a.f b.f⟩ else
    if (code = 10 ∨ code = 11) ∧ S_rMayBe0 b = true then ⟨(pairM code a b).lo, (pairM code a b).hi, orI .u8 (orI .u8 (pairM code a b).f 1) (orI .u8 a.f b.f)⟩
    else ⟨(pairM code a b).lo, (pairM code a b).hi, orI .u8 (pairM code a b).f (orI .u8 a.f b.f)⟩ := by
  unfold S_rPair
  simp only [true_and, show S_rFault 1 = 1 from by decide]
  by_cases hb : b.lo ≤ b.hi
  · simp only [hb, decide_true, Bool.not_true, Bool.false_eq_true, if_false, not_true_eq_false, beq_iff_eq]
    by_cases h11 : code = 11
    · subst h11
      simp only [if_true, pairM, show ¬ (11 : Int) = 10 from by decide, if_false, or_true, true_and]
    · by_cases h12 : code = 12
      · subst h12
        simp only [if_true, pairM, eq_eq, beq_iff_eq, show ¬ (12 : Int) = 10 from by decide, show ¬ (12 : Int) = 11 from by decide, if_false, or_false, false_and]
        repeat' split
        all_goals rfl
      · by_cases h13 : code = 13
        · subst h13
          simp only [if_true, pairM, S_lt, truth_eq, show ¬ (13 : Int) = 10 from by decide, show ¬ (13 : Int) = 11 from by decide, show ¬ (13 : Int) = 12 from by decide, if_false, or_false, false_and]
        · by_cases h14 : code = 14
          · subst h14
            simp only [if_true, pairM, S_le, truth_eq, show ¬ (14 : Int) = 10 from by decide, show ¬ (14 : Int) = 11 from by decide, show ¬ (14 : Int) = 12 from by decide, show ¬ (14 : Int) = 13 from by decide, if_false, or_false, false_and]
          · by_cases h10 : code = 10
            · subst h10
              simp only [if_true, pairM, show ¬ (10 : Int) = 11 from by decide, show ¬ (10 : Int) = 12 from by decide, show ¬ (10 : Int) = 13 from by decide, show ¬ (10 : Int) = 14 from by decide, if_false, or_false, true_and]
            · simp only [h11, h12, h13, h14, h10, if_false, pairM, or_false, false_and]
  · simp only [hb, decide_false, Bool.not_false, if_true, not_false_eq_true]
theorem both1_eq {code : Int} {g : B → B → B} {a b : B} (hb : Good b) (hg : b.lo ≤ b.hi → g a b = if (code = 10 ∨ code = 11) ∧ S_rMayBe0 b = true then ⟨(pairM code a b).lo, (pairM code a b).hi, orI .u8 (pairM code a b).f 1⟩ else pairM code a b) :
    S_both1 g a b ⟨0, 0, 0⟩ = S_rPair code a b := by
  rw [rPair_eq]
  unfold S_both1
  simp only [true_and, decide_eq_true_eq]
  by_cases h : b.lo ≤ b.hi
  · simp only [h, if_true, not_true_eq_false, if_false]
    rw [hg h, S_with2]
    split
    · rfl
    · rfl
  · simp only [h, if_false, not_false_eq_true, if_true]
    rw [S_with2]
    simp only [or8_0 (or8_range a.f b.f).1 (or8_range a.f b.f).2]
theorem cut_f15 {m : B} (hf : m.f = 0) : (S_rCut m).f = 0 ∨ (S_rCut m).f = 2 := by
  obtain ⟨l, h, f⟩ := m
  simp only at hf; subst hf
  unfold S_rCut
  simp only [show orI .u8 0 (S_rFault 2) = 2 from by decide]
  repeat' split
  all_goals first | exact .inl rfl | exact .inr rfl
theorem cut_num {m : B} (hc : Can m) : (-9999 ≤ (S_rCut m).lo ∧ (S_rCut m).lo ≤ (S_rCut m).hi ∧ (S_rCut m).hi ≤ 9999) ∨ ((S_rCut m).lo = 1 ∧ (S_rCut m).hi = 0) := by
  obtain ⟨l, h, f⟩ := m
  simp only [Can] at hc
  unfold S_rCut
  simp only [Bool.not_eq_true', decide_eq_false_iff_not, decide_eq_true_eq, minI, maxI]
  by_cases hle : l ≤ h
  · simp only [hle, not_true_eq_false, if_false]
    repeat' split
    all_goals first | exact .inr ⟨rfl, rfl⟩ | (left; simp only; omega)
  · simp only [hle, not_false_eq_true, if_true]; omega
theorem cut_good {m : B} (hf : m.f = 0) (hc : Can m) : Good (S_rCut m) :=
  ⟨cut_num hc, by rcases cut_f15 hf with h | h <;> rw [h] <;> decide, by rcases cut_f15 hf with h | h <;> rw [h] <;> decide⟩
theorem corn_can (g : Int → Int → Int) (a b : B) : Can (cornB g a b) ∧ (cornB g a b).f = 0 := by
  have h := isHull_pts [g a.lo b.lo, g a.lo b.hi, g a.hi b.lo, g a.hi b.hi] [] isHull_nil
  exact ⟨.inl (h.le (by simp)), h.1⟩
theorem truth_good (a b : Bool) : Good (S_rTruth a b) := by
  unfold S_rTruth
  split
  · exact ⟨.inl (by decide), by decide, by decide⟩
  · split <;> exact ⟨.inl (by decide), by decide, by decide⟩
theorem rest_good {a b : B} (ha : -9999 ≤ a.lo ∧ a.lo ≤ a.hi ∧ a.hi ≤ 9999) (hb : -9999 ≤ b.lo ∧ b.lo ≤ b.hi ∧ b.hi ≤ 9999) : Good (S_rRest a b) ∧ (S_rRest a b).f = 0 := by
  have w1 : ∀ z : Int, -100000 ≤ z → z ≤ 100000 → IntKind.i64.wrap z = z := fun z h1 h2 => wrap_small (by omega) (by omega)
  have e1 := w1 (b.lo + 1) (by omega) (by omega)
  have e2 := w1 (b.hi - 1) (by omega) (by omega)
  have hm : S_rMayBeOther b = true → b.lo ≠ 0 ∨ b.hi ≠ 0 := by
    unfold S_rMayBeOther
    intro h
    split at h
    · split at h
      · rename_i h2; left; simpa using h2
      · right; simpa using h
    · cases h
  unfold S_rRest
  simp only [e1, e2, Bool.not_eq_true', decide_eq_true_eq, minI]
  split
  · exact ⟨⟨.inr ⟨rfl, rfl⟩, by decide, by decide⟩, rfl⟩
  · rename_i ho
    have ho := hm (by simpa using ho)
    repeat' split
    all_goals (refine ⟨⟨.inl ?_, Int.le_refl _, (by decide : (0 : Int) ≤ 15)⟩, rfl⟩; simp only; omega)
theorem pairM_good {code : Int} {a b : B} (ha : -9999 ≤ a.lo ∧ a.lo ≤ a.hi ∧ a.hi ≤ 9999) (hb : -9999 ≤ b.lo ∧ b.lo ≤ b.hi ∧ b.hi ≤ 9999) : Good (pairM code a b) := by
  unfold pairM
  split
  · exact (rest_good ha hb).1
  · split
    · rw [eq_eq]; repeat' split
      all_goals exact truth_good _ _
    · split
      · exact truth_good _ _
      · split
        · exact truth_good _ _
        · by_cases h : code = 10
          · subst h; exact (div_pts ha hb).2.1
          · rw [counted_eq h]
            exact cut_good (corn_can _ a b).2 (corn_can _ a b).1
theorem rPair_good {code : Int} {a b : B} (ha : -9999 ≤ a.lo ∧ a.lo ≤ a.hi ∧ a.hi ≤ 9999) (fa : 0 ≤ a.f ∧ a.f ≤ 15) (hb : Good b) : Good (S_rPair code a b) := by
  rw [rPair_eq]
  have ho := or8_15 fa.1 fa.2 hb.f0 hb.f1
  simp only [true_and]
  split
  · exact ⟨.inr ⟨rfl, rfl⟩, ho.1, ho.2⟩
  · rename_i h
    have hb' : -9999 ≤ b.lo ∧ b.lo ≤ b.hi ∧ b.hi ≤ 9999 := by rcases hb.num with h1 | h1 <;> omega
    have hp := pairM_good (code := code) ha hb'
    have h1 := or8_15 hp.f0 hp.f1 (show (0 : Int) ≤ 1 by decide) (show (1 : Int) ≤ 15 by decide)
    split
    · have h2 := or8_15 h1.1 h1.2 ho.1 ho.2
      exact ⟨hp.num, h2.1, h2.2⟩
    · have h2 := or8_15 hp.f0 hp.f1 ho.1 ho.2
      exact ⟨hp.num, h2.1, h2.2⟩
theorem apply_7 (a b z : B) : S_apply 7 a b z = S_both1 S_sums a b ⟨0, 0, 0⟩ := by
  unfold S_apply
  rw [if_neg (by decide)]; rw [if_neg (by decide)]; rw [if_pos rfl]
theorem apply_8 (a b z : B) : S_apply 8 a b z = S_both1 S_differences a b ⟨0, 0, 0⟩ := by
  unfold S_apply
  rw [if_neg (by decide)]; rw [if_neg (by decide)]; rw [if_neg (by decide)]; rw [if_pos rfl]
theorem apply_9 (a b z : B) : S_apply 9 a b z = S_both1 S_products a b ⟨0, 0, 0⟩ := by
  unfold S_apply
  rw [if_neg (by decide)]; rw [if_neg (by decide)]; rw [if_neg (by decide)]; rw [if_neg (by decide)]; rw [if_pos rfl]
theorem apply_10 (a b z : B) : S_apply 10 a b z = S_both1 S_div a b ⟨0, 0, 0⟩ := by
  unfold S_apply
  rw [if_neg (by decide)]; rw [if_neg (by decide)]; rw [if_neg (by decide)]; rw [if_neg (by decide)]; rw [if_neg (by decide)]; rw [if_pos rfl]
theorem apply_11 (a b z : B) : S_apply 11 a b z = S_both1 S_mod a b ⟨0, 0, 0⟩ := by
  unfold S_apply
  rw [if_neg (by decide)]; rw [if_neg (by decide)]; rw [if_neg (by decide)]; rw [if_neg (by decide)]; rw [if_neg (by decide)]; rw [if_neg (by decide)]; rw [if_pos rfl]
theorem apply_12 (a b z : B) : S_apply 12 a b z = S_both1 S_eq a b ⟨0, 0, 0⟩ := by
  unfold S_apply
  rw [if_neg (by decide)]; rw [if_neg (by decide)]; rw [if_neg (by decide)]; rw [if_neg (by decide)]; rw [if_neg (by decide)]; rw [if_neg (by decide)]; rw [if_neg (by decide)]; rw [if_pos rfl]
theorem apply_13 (a b z : B) : S_apply 13 a b z = S_both1 S_lt a b ⟨0, 0, 0⟩ := by
  unfold S_apply
  rw [if_neg (by decide)]; rw [if_neg (by decide)]; rw [if_neg (by decide)]; rw [if_neg (by decide)]; rw [if_neg (by decide)]; rw [if_neg (by decide)]; rw [if_neg (by decide)]; rw [if_neg (by decide)]; rw [if_pos rfl]
theorem apply_14 (a b z : B) : S_apply 14 a b z = S_both1 S_le a b ⟨0, 0, 0⟩ := by
  unfold S_apply
  rw [if_neg (by decide)]; rw [if_neg (by decide)]; rw [if_neg (by decide)]; rw [if_neg (by decide)]; rw [if_neg (by decide)]; rw [if_neg (by decide)]; rw [if_neg (by decide)]; rw [if_neg (by decide)]; rw [if_neg (by decide)]; rw [if_pos rfl]
theorem pairM_c {code : Int} (h1 : code ≠ 11) (h2 : code ≠ 12) (h3 : code ≠ 13) (h4 : code ≠ 14) (a b : B) : pairM code a b = S_rCounted code a b := by
  unfold pairM; rw [if_neg h1, if_neg h2, if_neg h3, if_neg h4]
theorem res_7 : S_rResult 7 = S_sums1 := by
  funext x y
  unfold S_rResult S_sums1
  rw [if_pos (by decide)]
theorem res_8 : S_rResult 8 = S_differences1 := by
  funext x y
  unfold S_rResult S_differences1
  rw [if_neg (by decide)]; rw [if_pos (by decide)]
theorem res_9 : S_rResult 9 = S_products1 := by
  funext x y
  unfold S_rResult S_products1
  rw [if_neg (by decide)]; rw [if_neg (by decide)]; rw [if_pos (by decide)]
theorem pair_7 {a b : B} (ha : -9999 ≤ a.lo ∧ a.lo ≤ a.hi ∧ a.hi ≤ 9999) (hb : Good b) (z : B) : S_apply 7 a b z = S_rPair 7 a b := by
  have hbn : b.lo ≤ b.hi → -9999 ≤ b.lo ∧ b.lo ≤ b.hi ∧ b.hi ≤ 9999 := fun h => by rcases hb.num with h1 | h1 <;> omega
  rw [apply_7]
  refine both1_eq (code := 7) (g := S_sums) hb fun _ => ?_
  rw [if_neg (fun h => absurd h.1 (by decide)), S_sums, corners_eq]
  rw [pairM_c (by decide) (by decide) (by decide) (by decide), counted_eq (by decide), res_7]
theorem pair_8 {a b : B} (ha : -9999 ≤ a.lo ∧ a.lo ≤ a.hi ∧ a.hi ≤ 9999) (hb : Good b) (z : B) : S_apply 8 a b z = S_rPair 8 a b := by
  have hbn : b.lo ≤ b.hi → -9999 ≤ b.lo ∧ b.lo ≤ b.hi ∧ b.hi ≤ 9999 := fun h => by rcases hb.num with h1 | h1 <;> omega
  rw [apply_8]
  refine both1_eq (code := 8) (g := S_differences) hb fun _ => ?_
  rw [if_neg (fun h => absurd h.1 (by decide)), S_differences, corners_eq]
  rw [pairM_c (by decide) (by decide) (by decide) (by decide), counted_eq (by decide), res_8]
theorem pair_9 {a b : B} (ha : -9999 ≤ a.lo ∧ a.lo ≤ a.hi ∧ a.hi ≤ 9999) (hb : Good b) (z : B) : S_apply 9 a b z = S_rPair 9 a b := by
  have hbn : b.lo ≤ b.hi → -9999 ≤ b.lo ∧ b.lo ≤ b.hi ∧ b.hi ≤ 9999 := fun h => by rcases hb.num with h1 | h1 <;> omega
  rw [apply_9]
  refine both1_eq (code := 9) (g := S_products) hb fun _ => ?_
  rw [if_neg (fun h => absurd h.1 (by decide)), S_products, corners_eq]
  rw [pairM_c (by decide) (by decide) (by decide) (by decide), counted_eq (by decide), res_9]
theorem pair_10 {a b : B} (ha : -9999 ≤ a.lo ∧ a.lo ≤ a.hi ∧ a.hi ≤ 9999) (hb : Good b) (z : B) : S_apply 10 a b z = S_rPair 10 a b := by
  have hbn : b.lo ≤ b.hi → -9999 ≤ b.lo ∧ b.lo ≤ b.hi ∧ b.hi ≤ 9999 := fun h => by rcases hb.num with h1 | h1 <;> omega
  rw [apply_10]
  refine both1_eq (code := 10) (g := S_div) hb fun h => ?_
  have hd := div_pts ha (hbn h)
  simp only [true_or, true_and, show pairM 10 a b = S_rCounted 10 a b from rfl]
  unfold S_div
  rw [← hd.1, by0_1]
  split
  · rfl
  · simp only [S_with, ors]
    rw [or8_0' hd.2.1.f0 (by have := hd.2.1.f1; omega)]
theorem pair_11 {a b : B} (ha : -9999 ≤ a.lo ∧ a.lo ≤ a.hi ∧ a.hi ≤ 9999) (hb : Good b) (z : B) : S_apply 11 a b z = S_rPair 11 a b := by
  have hbn : b.lo ≤ b.hi → -9999 ≤ b.lo ∧ b.lo ≤ b.hi ∧ b.hi ≤ 9999 := fun h => by rcases hb.num with h1 | h1 <;> omega
  rw [apply_11]
  refine both1_eq (code := 11) (g := S_mod) hb fun h => ?_
  have hd := rest_good ha (hbn h)
  simp only [or_true, true_and, show pairM 11 a b = S_rRest a b from rfl]
  rw [rest_eq, by0_1]
  split
  · rfl
  · simp only [S_with, ors]
    rw [or8_0' hd.1.f0 (by have := hd.1.f1; omega)]
theorem pair_12 {a b : B} (ha : -9999 ≤ a.lo ∧ a.lo ≤ a.hi ∧ a.hi ≤ 9999) (hb : Good b) (z : B) : S_apply 12 a b z = S_rPair 12 a b := by
  have hbn : b.lo ≤ b.hi → -9999 ≤ b.lo ∧ b.lo ≤ b.hi ∧ b.hi ≤ 9999 := fun h => by rcases hb.num with h1 | h1 <;> omega
  rw [apply_12]
  exact both1_eq (code := 12) (g := S_eq) hb fun _ => by rw [if_neg (fun h => absurd h.1 (by decide))]; rfl
theorem pair_13 {a b : B} (ha : -9999 ≤ a.lo ∧ a.lo ≤ a.hi ∧ a.hi ≤ 9999) (hb : Good b) (z : B) : S_apply 13 a b z = S_rPair 13 a b := by
  have hbn : b.lo ≤ b.hi → -9999 ≤ b.lo ∧ b.lo ≤ b.hi ∧ b.hi ≤ 9999 := fun h => by rcases hb.num with h1 | h1 <;> omega
  rw [apply_13]
  exact both1_eq (code := 13) (g := S_lt) hb fun _ => by rw [if_neg (fun h => absurd h.1 (by decide))]; rfl
theorem pair_14 {a b : B} (ha : -9999 ≤ a.lo ∧ a.lo ≤ a.hi ∧ a.hi ≤ 9999) (hb : Good b) (z : B) : S_apply 14 a b z = S_rPair 14 a b := by
  have hbn : b.lo ≤ b.hi → -9999 ≤ b.lo ∧ b.lo ≤ b.hi ∧ b.hi ≤ 9999 := fun h => by rcases hb.num with h1 | h1 <;> omega
  rw [apply_14]
  exact both1_eq (code := 14) (g := S_le) hb fun _ => by rw [if_neg (fun h => absurd h.1 (by decide))]; rfl
theorem pair_cases {code : Int} (h7 : 7 ≤ code) (h14 : code ≤ 14) {a b : B} (ha : -9999 ≤ a.lo ∧ a.lo ≤ a.hi ∧ a.hi ≤ 9999) (hb : Good b) (z : B) : S_apply code a b z = S_rPair code a b := by
  have : code = 7 ∨ code = 8 ∨ code = 9 ∨ code = 10 ∨ code = 11 ∨ code = 12 ∨ code = 13 ∨ code = 14 := by omega
  rcases this with rfl | rfl | rfl | rfl | rfl | rfl | rfl | rfl
  · exact pair_7 ha hb z
  · exact pair_8 ha hb z
  · exact pair_9 ha hb z
  · exact pair_10 ha hb z
  · exact pair_11 ha hb z
  · exact pair_12 ha hb z
  · exact pair_13 ha hb z
  · exact pair_14 ha hb z
end Go.Proofs.YtfhiejgoemcelaaGreat
namespace Go.Proofs.YtfhiejgoemcelaaGreat
open Go Tw
theorem with_hull {r x : B} (hr : Can r) (f : Int) : S_with (S_rHull r x) [f] = S_rHull (S_with r [f]) x := by
  obtain ⟨rl, rh, rf⟩ := r
  obtain ⟨xl, xh, xf⟩ := x
  have e : orI .u8 (orI .u8 rf xf) f = orI .u8 (orI .u8 rf f) xf := by rw [or8_assoc, or8_comm xf, ← or8_assoc]
  simp only [S_with, ors, S_rHull]
  by_cases h1 : rl ≤ rh <;> by_cases h2 : xl ≤ xh <;> simp [h1, h2, e]
theorem hull_swap {f : Int} {p q : B} (hp : Can p) (hq : Can q) : S_rHull (S_rHull ⟨1, 0, f⟩ p) q = S_rHull (S_rHull ⟨1, 0, f⟩ q) p := by
  obtain ⟨pl, ph, pf⟩ := p
  obtain ⟨ql, qh, qf⟩ := q
  have e : orI .u8 (orI .u8 f pf) qf = orI .u8 (orI .u8 f qf) pf := by rw [or8_assoc, or8_comm pf, ← or8_assoc]
  simp only [Can] at hp hq
  have n : ¬ (1 : Int) ≤ 0 := by decide
  simp only [S_rHull, n, decide_false, Bool.not_false, if_true, Bool.not_eq_true', decide_eq_false_iff_not]
  by_cases h1 : pl ≤ ph <;> by_cases h2 : ql ≤ qh
  · simp only [h1, h2, not_true_eq_false, if_false, e, minI, maxI, B.mk.injEq, and_true]
    constructor <;> split <;> split <;> omega
  · simp only [h1, h2, not_true_eq_false, if_false, not_false_eq_true, if_true, e]
  · simp only [h1, h2, not_true_eq_false, if_false, not_false_eq_true, if_true, e]
  · simp only [h1, h2, not_false_eq_true, if_true, e, B.mk.injEq, and_true]
    omega
theorem pick_eq {f : Int} (h0 : 0 ≤ f) (h1 : f ≤ 15) {p q : B} (hp : Can p) (hq : Can q) (c1 c2 : Bool) :
    S_with (S_hull (S_hull ⟨1, 0, 0⟩ p c1) q c2) [f] = (if c2 = true then if c1 = true then S_rHull (S_rHull ⟨1, 0, f⟩ p) q else S_rHull ⟨1, 0, f⟩ q else if c1 = true then S_rHull ⟨1, 0, f⟩ p else ⟨1, 0, f⟩) := by
  have e : S_with (⟨1, 0, 0⟩ : B) [f] = ⟨1, 0, f⟩ := by simp only [S_with, ors, or_0 h0 h1]
  cases c1 <;> cases c2
  · simp only [hull_no, e, Bool.false_eq_true, if_false]
  · simp only [hull_no, hull_eq .none hq, with_hull .none, e, Bool.false_eq_true, if_false, if_true]
  · simp only [hull_no, hull_eq .none hp, with_hull .none, e, Bool.false_eq_true, if_false, if_true]
  · simp only [hull_eq .none hp, hull_eq (Can.none.hull hp) hq, with_hull (Can.none.hull hp), with_hull .none, e, if_true]
theorem good_getD {l : List B} (hl : ∀ b ∈ l, Good b) (k : Nat) : Good (l.getD k B0) := by
  rw [List.getD_eq_getElem?_getD]
  cases h : l[k]? with
  | none => exact ⟨.inl (by decide), by decide, by decide⟩
  | some b => exact hl b (List.mem_of_getElem? h)
theorem good_num {b : B} (h : Good b) (hn : b.lo ≤ b.hi) : -9999 ≤ b.lo ∧ b.lo ≤ b.hi ∧ b.hi ≤ 9999 := by rcases h.num with h1 | h1 <;> omega
theorem good_hull {a b : B} (ha : Good a) (hb : Good b) : Good (S_rHull a b) := by
  have hf := or8_15 ha.f0 ha.f1 hb.f0 hb.f1
  refine ⟨?_, by rw [hull_f]; exact hf.1, by rw [hull_f]; exact hf.2⟩
  have h1 := ha.num
  have h2 := hb.num
  unfold S_rHull
  simp only [Bool.not_eq_true', decide_eq_false_iff_not, minI, maxI]
  split
  · exact h2
  · split
    · exact h1
    · simp only
      rcases h1 with h1 | h1 <;> rcases h2 with h2 | h2
      · left; constructor
        · split <;> omega
        · constructor <;> split <;> (try split) <;> omega
      · omega
      · omega
      · omega
theorem good_e {f : Int} (h0 : 0 ≤ f) (h1 : f ≤ 15) : Good ⟨1, 0, f⟩ := ⟨.inr ⟨rfl, rfl⟩, h0, h1⟩
theorem good_0 : Good ⟨0, 0, 0⟩ := ⟨.inl (by decide), by decide, by decide⟩
theorem good_1 : Good ⟨1, 1, 0⟩ := ⟨.inl (by decide), by decide, by decide⟩
def KGood (k : K) : Prop := -9999 ≤ k.lo ∧ k.lo ≤ k.hi ∧ k.hi ≤ 9999
structure OGood (o : O) (nc : Nat) : Prop where
  one : o.code = 1 → -9999 ≤ o.n ∧ o.n ≤ 9999
  two : o.code = 2 → 1 ≤ o.n ∧ o.n ≤ 4
  three : o.code = 3 → 0 ≤ o.n ∧ o.n < nc
theorem bit_range {n : Int} (h0 : 1 ≤ n) (h1 : n ≤ 4) : 0 ≤ S_bit (IntKind.u8.wrap n) ∧ S_bit (IntKind.u8.wrap n) ≤ 15 := by
  have : n = 1 ∨ n = 2 ∨ n = 3 ∨ n = 4 := by omega
  rcases this with rfl | rfl | rfl | rfl <;> decide
theorem not_eq {a : B} (ha : Good a) : S_not a ⟨0, 0, 0⟩ ⟨0, 0, 0⟩ = (if (S_rMayBeOther a) = true then if (S_rMayBe0 a) = true then S_rHull (S_rHull ((⟨1, 0, a.f⟩ : B)) ((⟨0, 0, 0⟩ : B))) ((⟨1, 1, 0⟩ : B)) else S_rHull ((⟨1, 0, a.f⟩ : B)) ((⟨0, 0, 0⟩ : B)) else if (S_rMayBe0 a) = true then S_rHull ((⟨1, 0, a.f⟩ : B)) ((⟨1, 1, 0⟩ : B)) else (⟨1, 0, a.f⟩ : B)) := by
  unfold S_not
  rw [pick_eq ha.f0 ha.f1 .pt .pt, mayBe0_eq, mayBeOther_eq, hull_swap .pt .pt]
theorem and_eq {a b z : B} (ha : Good a) (hb : Good b) : S_and a b z = (if (S_rMayBeOther a) = true then if (S_rMayBe0 a) = true then S_rHull (S_rHull ((⟨1, 0, a.f⟩ : B)) b) ((⟨0, 0, 0⟩ : B)) else S_rHull ((⟨1, 0, a.f⟩ : B)) b else if (S_rMayBe0 a) = true then S_rHull ((⟨1, 0, a.f⟩ : B)) ((⟨0, 0, 0⟩ : B)) else (⟨1, 0, a.f⟩ : B)) := by
  unfold S_and
  rw [pick_eq ha.f0 ha.f1 .pt hb.can, mayBe0_eq, mayBeOther_eq, hull_swap .pt hb.can]
theorem or_eq {a b z : B} (ha : Good a) (hb : Good b) : S_or a b z = (if (S_rMayBeOther a) = true then if (S_rMayBe0 a) = true then S_rHull (S_rHull ((⟨1, 0, a.f⟩ : B)) ((⟨1, 1, 0⟩ : B))) b else S_rHull ((⟨1, 0, a.f⟩ : B)) ((⟨1, 1, 0⟩ : B)) else if (S_rMayBe0 a) = true then S_rHull ((⟨1, 0, a.f⟩ : B)) b else (⟨1, 0, a.f⟩ : B)) := by
  unfold S_or
  rw [pick_eq ha.f0 ha.f1 hb.can .pt, mayBe0_eq, mayBeOther_eq, hull_swap hb.can .pt]
theorem choose_eq {a b c : B} (ha : Good a) (hb : Good b) (hc : Good c) : S_choose a b c = (if (S_rMayBeOther a) = true then if (S_rMayBe0 a) = true then S_rHull (S_rHull ((⟨1, 0, a.f⟩ : B)) b) c else S_rHull ((⟨1, 0, a.f⟩ : B)) b else if (S_rMayBe0 a) = true then S_rHull ((⟨1, 0, a.f⟩ : B)) c else (⟨1, 0, a.f⟩ : B)) := by
  unfold S_choose
  rw [pick_eq ha.f0 ha.f1 hb.can hc.can, mayBe0_eq, mayBeOther_eq]
  cases S_rMayBeOther a <;> cases S_rMayBe0 a <;> rfl
theorem rRule_pair {c : C} {l : List B} {o : O} (h7 : 7 ≤ o.code) (h14 : o.code ≤ 14) : S_rRule c l o = if (!(decide ((l.getD o.a.toNat B0).lo ≤ (l.getD o.a.toNat B0).hi))) = true then ⟨1, 0, (l.getD o.a.toNat B0).f⟩ else S_rPair o.code (l.getD o.a.toNat B0) (l.getD o.b.toNat B0) := by
  have n1 : ¬ o.code = 1 := by omega
  have n2 : ¬ o.code = 2 := by omega
  have n3 : ¬ o.code = 3 := by omega
  have n5 : o.code ≥ 7 := by omega
  unfold S_rRule
  simp only [beq_iff_eq, n1, n2, n3, n5, h14, decide_true, if_true, if_false]
theorem rule_eq {c : C} {l : List B} {o : O} (hk : RuleOk o l.length c.cs.length) (hl : ∀ b ∈ l, Good b) (hc : ∀ k ∈ c.cs, KGood k) (ho : OGood o c.cs.length) :
    S_rule c.cs l o = S_rRule c l o ∧ Good (S_rRule c l o) := by
  have ga := good_getD hl o.a.toNat
  have gb := good_getD hl o.b.toNat
  have gc := good_getD hl o.c.toNat
  have k1 := hk.lo
  have k2 := hk.hi
  have k3 := hk.no
  by_cases h1 : o.code = 1
  · have := ho.one h1
    unfold S_rule S_rRule
    rw [if_pos h1, if_pos (by simpa using h1)]
    exact ⟨rfl, .inl (by simp only; omega), Int.le_refl _, (by decide : (0 : Int) ≤ 15)⟩
  by_cases h2 : o.code = 2
  · have := ho.two h2
    have hb := bit_range this.1 this.2
    unfold S_rule S_rRule
    simp only [beq_iff_eq, h1, h2, if_true, if_false, show ¬ (2 : Int) = 1 from by decide]
    rw [← fault_eq]
    exact ⟨by simp only [S_with, ors, or_0 hb.1 hb.2], .inr ⟨rfl, rfl⟩, hb.1, hb.2⟩
  by_cases h3 : o.code = 3
  · have hn := ho.three h3
    have hg : KGood (c.cs.getD o.n.toNat K0) := by
      rw [List.getD_eq_getElem?_getD]
      have : o.n.toNat < c.cs.length := by omega
      rw [List.getElem?_eq_getElem this]
      exact hc _ (List.getElem_mem _)
    unfold S_rule S_rRule
    simp only [beq_iff_eq, h1, h2, h3, if_true, if_false, show ¬ (3 : Int) = 1 from by decide, show ¬ (3 : Int) = 2 from by decide]
    exact ⟨trivial, .inl hg, Int.le_refl _, (by decide : (0 : Int) ≤ 15)⟩
  have hs : S_rule c.cs l o = if (!(decide ((l.getD o.a.toNat B0).lo ≤ (l.getD o.a.toNat B0).hi))) = true then ⟨1, 0, (l.getD o.a.toNat B0).f⟩ else S_apply o.code (l.getD o.a.toNat B0) (l.getD o.b.toNat B0) (l.getD o.c.toNat B0) := by
    unfold S_rule
    simp only [h1, h2, h3, if_false, S_with, ors, or_0 ga.f0 ga.f1]
  rw [hs]
  by_cases h14 : 7 ≤ o.code ∧ o.code ≤ 14
  · rw [rRule_pair h14.1 h14.2]
    by_cases hn : (l.getD o.a.toNat B0).lo ≤ (l.getD o.a.toNat B0).hi
    · rw [if_neg (by simp only [hn, decide_true, decide_false, Bool.not_true, Bool.not_false, Bool.false_eq_true, not_false_eq_true]), if_neg (by simp only [hn, decide_true, decide_false, Bool.not_true, Bool.not_false, Bool.false_eq_true, not_false_eq_true])]
      exact ⟨pair_cases h14.1 h14.2 (good_num ga hn) gb _, rPair_good (good_num ga hn) ⟨ga.f0, ga.f1⟩ gb⟩
    · rw [if_pos (by simp only [hn, decide_true, decide_false, Bool.not_true, Bool.not_false, Bool.false_eq_true, not_false_eq_true]), if_pos (by simp only [hn, decide_true, decide_false, Bool.not_true, Bool.not_false, Bool.false_eq_true, not_false_eq_true])]
      exact ⟨rfl, good_e ga.f0 ga.f1⟩
  have hcode : o.code = 5 ∨ o.code = 6 ∨ o.code = 15 ∨ o.code = 16 ∨ o.code = 17 := by omega
  by_cases hn : (l.getD o.a.toNat B0).lo ≤ (l.getD o.a.toNat B0).hi
  · rw [if_neg (by simp only [hn, decide_true, decide_false, Bool.not_true, Bool.not_false, Bool.false_eq_true, not_false_eq_true])]
    have hna := good_num ga hn
    rcases hcode with h | h | h | h | h
    · have e1 : IntKind.i64.wrap (0 - (l.getD o.a.toNat B0).hi) = 0 - (l.getD o.a.toNat B0).hi := wrap_small (by omega) (by omega)
      have e2 : IntKind.i64.wrap (0 - (l.getD o.a.toNat B0).lo) = 0 - (l.getD o.a.toNat B0).lo := wrap_small (by omega) (by omega)
      have er : S_rRule c l o = ⟨IntKind.i64.wrap (0 - (l.getD o.a.toNat B0).hi), IntKind.i64.wrap (0 - (l.getD o.a.toNat B0).lo), (l.getD o.a.toNat B0).f⟩ := by
        unfold S_rRule
        simp only [beq_iff_eq, h, hn, show ¬ (5 : Int) = 1 from by decide, show ¬ (5 : Int) = 2 from by decide, show ¬ (5 : Int) = 3 from by decide, show ¬ (5 : Int) ≥ 7 from by decide, decide_true, decide_false, Bool.not_true, Bool.false_eq_true, if_true, if_false]
      rw [er, h]
      refine ⟨?_, ?_⟩
      · unfold S_apply
        rw [if_pos rfl]
        simp only [S_neg, S_with, ors, or_0 ga.f0 ga.f1]
      · rw [e1, e2]; exact ⟨.inl (by simp only; omega), ga.f0, ga.f1⟩
    · have er : S_rRule c l o = S_not (l.getD o.a.toNat B0) ⟨0, 0, 0⟩ ⟨0, 0, 0⟩ := by
        rw [not_eq ga]
        unfold S_rRule
        simp only [beq_iff_eq, h, hn, show ¬ (6 : Int) = 1 from by decide, show ¬ (6 : Int) = 2 from by decide, show ¬ (6 : Int) = 3 from by decide, show ¬ (6 : Int) = 5 from by decide, show ¬ (6 : Int) ≥ 7 from by decide, decide_true, decide_false, Bool.not_true, Bool.false_eq_true, if_true, if_false]
      rw [er, h]
      refine ⟨?_, ?_⟩
      · unfold S_apply
        rw [if_neg (by decide), if_pos rfl]
      · rw [not_eq ga]
        cases S_rMayBeOther (l.getD o.a.toNat B0) <;> cases S_rMayBe0 (l.getD o.a.toNat B0) <;> first | exact good_e ga.f0 ga.f1 | exact good_hull (good_e ga.f0 ga.f1) good_0 | exact good_hull (good_e ga.f0 ga.f1) good_1 | exact good_hull (good_hull (good_e ga.f0 ga.f1) good_0) good_1
    · have er : S_rRule c l o = S_and (l.getD o.a.toNat B0) (l.getD o.b.toNat B0) (l.getD o.c.toNat B0) := by
        rw [and_eq ga gb]
        unfold S_rRule
        simp only [beq_iff_eq, h, hn, show ¬ (15 : Int) = 1 from by decide, show ¬ (15 : Int) = 2 from by decide, show ¬ (15 : Int) = 3 from by decide, show ¬ (15 : Int) = 5 from by decide, show ¬ (15 : Int) = 6 from by decide, show (15 : Int) ≥ 7 from by decide, show ¬ (15 : Int) ≤ 14 from by decide, decide_true, decide_false, Bool.not_true, Bool.false_eq_true, if_true, if_false]
      rw [er, h]
      refine ⟨?_, ?_⟩
      · unfold S_apply
        iterate 10 rw [if_neg (by decide)]
        rw [if_pos rfl]; rfl
      · rw [and_eq ga gb]
        cases S_rMayBeOther (l.getD o.a.toNat B0) <;> cases S_rMayBe0 (l.getD o.a.toNat B0) <;> first | exact good_e ga.f0 ga.f1 | exact good_hull (good_e ga.f0 ga.f1) good_0 | exact good_hull (good_e ga.f0 ga.f1) gb | exact good_hull (good_hull (good_e ga.f0 ga.f1) gb) good_0
    · have er : S_rRule c l o = S_or (l.getD o.a.toNat B0) (l.getD o.b.toNat B0) (l.getD o.c.toNat B0) := by
        rw [or_eq ga gb]
        unfold S_rRule
        simp only [beq_iff_eq, h, hn, show ¬ (16 : Int) = 1 from by decide, show ¬ (16 : Int) = 2 from by decide, show ¬ (16 : Int) = 3 from by decide, show ¬ (16 : Int) = 5 from by decide, show ¬ (16 : Int) = 6 from by decide, show ¬ (16 : Int) = 15 from by decide, show (16 : Int) ≥ 7 from by decide, show ¬ (16 : Int) ≤ 14 from by decide, decide_true, decide_false, Bool.not_true, Bool.false_eq_true, if_true, if_false]
      rw [er, h]
      refine ⟨?_, ?_⟩
      · unfold S_apply
        iterate 11 rw [if_neg (by decide)]
        rw [if_pos rfl]; rfl
      · rw [or_eq ga gb]
        cases S_rMayBeOther (l.getD o.a.toNat B0) <;> cases S_rMayBe0 (l.getD o.a.toNat B0) <;> first | exact good_e ga.f0 ga.f1 | exact good_hull (good_e ga.f0 ga.f1) good_1 | exact good_hull (good_e ga.f0 ga.f1) gb | exact good_hull (good_hull (good_e ga.f0 ga.f1) good_1) gb
    · have er : S_rRule c l o = S_choose (l.getD o.a.toNat B0) (l.getD o.b.toNat B0) (l.getD o.c.toNat B0) := by
        rw [choose_eq ga gb gc]
        unfold S_rRule
        simp only [beq_iff_eq, h, hn, show ¬ (17 : Int) = 1 from by decide, show ¬ (17 : Int) = 2 from by decide, show ¬ (17 : Int) = 3 from by decide, show ¬ (17 : Int) = 5 from by decide, show ¬ (17 : Int) = 6 from by decide, show ¬ (17 : Int) = 15 from by decide, show ¬ (17 : Int) = 16 from by decide, show (17 : Int) ≥ 7 from by decide, show ¬ (17 : Int) ≤ 14 from by decide, decide_true, decide_false, Bool.not_true, Bool.false_eq_true, if_true, if_false]
      rw [er, h]
      refine ⟨?_, ?_⟩
      · unfold S_apply
        iterate 12 rw [if_neg (by decide)]
      · rw [choose_eq ga gb gc]
        cases S_rMayBeOther (l.getD o.a.toNat B0) <;> cases S_rMayBe0 (l.getD o.a.toNat B0) <;> first | exact good_e ga.f0 ga.f1 | exact good_hull (good_e ga.f0 ga.f1) gc | exact good_hull (good_e ga.f0 ga.f1) gb | exact good_hull (good_hull (good_e ga.f0 ga.f1) gb) gc
  · rw [if_pos (by simp only [hn, decide_true, decide_false, Bool.not_true, Bool.not_false, Bool.false_eq_true, not_false_eq_true])]
    have : S_rRule c l o = ⟨1, 0, (l.getD o.a.toNat B0).f⟩ := by
      unfold S_rRule
      simp only [beq_iff_eq, h1, h2, h3, if_false, hn, decide_false, Bool.not_false, if_true]
    rw [this]
    exact ⟨rfl, good_e ga.f0 ga.f1⟩
end Go.Proofs.YtfhiejgoemcelaaGreat
