/- Part 4 of the texts under the proof: an abstract interpreter, the summaries of functions, plain laws. -/
import Derived.Test.YteikclocoolghaaGreatDoorQ3
import Derived.Shelf.Spec.SlicesGrow
import Derived.Shelf.SlicesE.Clone
import Derived.Shelf.SlicesQ.IndexFunc
set_option linter.unusedSectionVars false
set_option linter.unusedVariables false
set_option linter.unusedSimpArgs false
set_option linter.unnecessarySimpa false
section
namespace Kz
open Go Go.RowKit Go.Proofs
set_option maxRecDepth 100000
set_option maxHeartbeats 4000000
noncomputable def K111 : List (Nat × List (Nat × List Nat)) := [(111, [(0, (0 :: 4 :: 5 :: (rn 7 57 (68 :: 69 :: (rn 74 7 []))))), (1, (0 :: 4 :: 5 :: 7 :: (rn 10 54 (68 :: 69 :: (rn 74 7 []))))), (2, (0 :: 4 :: 5 :: 7 :: (rn 9 17 (rn 27 37 (68 :: 69 :: (rn 74 7 [])))))), (3, (rn 0 6 (rn 8 73 []))), (4, (0 :: 2 :: 4 :: 5 :: 7 :: 9 :: (rn 11 53 (68 :: 69 :: (rn 74 7 []))))), (5, (0 :: 2 :: 4 :: 5 :: 7 :: 9 :: 10 :: (rn 13 51 (68 :: 69 :: (rn 74 7 []))))), (6, (0 :: 2 :: 4 :: 5 :: 7 :: 9 :: 10 :: (rn 14 50 (68 :: 69 :: (rn 74 7 []))))), (7, (0 :: 2 :: 4 :: 5 :: 7 :: 9 :: 10 :: (rn 14 50 (68 :: 69 :: (rn 74 7 []))))), (8, (0 :: 2 :: 4 :: 5 :: 7 :: 9 :: 10 :: (rn 15 49 (68 :: 69 :: (rn 74 7 []))))), (9, (0 :: 2 :: 4 :: 5 :: 7 :: 9 :: 10 :: 14 :: (rn 16 48 (68 :: 69 :: (rn 74 7 []))))), (10, (0 :: 2 :: 4 :: 5 :: 7 :: 9 :: 10 :: 14 :: (rn 17 47 (68 :: 69 :: (rn 74 7 []))))), (11, (0 :: (rn 2 4 (7 :: 9 :: 10 :: 13 :: 14 :: 16 :: (rn 18 46 (68 :: 69 :: (rn 74 7 []))))))), (12, (0 :: (rn 2 4 (7 :: (rn 10 71 []))))), (13, (rn 0 6 (rn 8 73 [])))]), (148, [(0, [1, 2, 3]), (1, [1, 2, 3])]), (161, [(0, (rn 2 8 [])), (1, (0 :: 1 :: 2 :: (rn 4 6 [])))]), (162, [(0, (rn 4 6 [15, 16, 24])), (1, (rn 0 5 (rn 6 19 [])))]), (163, [(0, (2 :: 3 :: 4 :: (rn 7 9 []))), (1, (rn 0 5 (7 :: 8 :: 9 :: (rn 11 5 [])))), (2, (rn 0 5 (rn 8 8 []))), (3, (rn 0 6 (rn 7 8 []))), (4, (rn 0 16 [])), (5, (rn 0 6 (rn 7 9 [])))]), (194, [(0, [0, 1, 4, 5]), (1, [0, 1, 2, 3, 5])]), (209, [(0, (3 :: (rn 5 14 []))), (1, (3 :: (rn 5 7 (rn 13 6 [])))), (2, (3 :: (rn 5 14 []))), (3, (3 :: (rn 5 13 [])))])]
noncomputable def B111_1 : Base := baseOf Pz (fun f i => lkK f i K111) [(52, G52), (59, G59), (62, G62), (105, G105), (110, G110), (160, G160)] [] []
theorem hB111_1 : BOk B111_1 := base_ok named_z ⟨s52, s59, s62, s105, s110, s160, trivial⟩ trivial trivial
noncomputable def S111_1 (p1 : Pos) (p2 : (List Int)) (p3 : Pos) (p4 : (BitVec 64)) (p5 : (BitVec 64)) (p6 : Int) (p7 : Int) (x : (Int)) : St := St.mk (AV.yield 0 :: AV.ptr 8 0 :: AV.ptr 9 0 :: AV.any :: AV.int .i64 x :: (an 14 [])) (Hp.mk [(pc p1 []), [AV.int .i8 0, AV.int .i8 0, AV.int .u8 0, AV.int .u8 0, AV.bool false], [AV.ints .i64 2 p2], (pc p3 []), [AV.u64 p4], [AV.u64 p5], [AV.func 161 [] [AV.ptr 4 0]], [AV.bool false], [AV.int .i64 p6], [AV.int .i64 p7]] [] [LRec.mk 0 none 163 (an 5 (AV.ptr 6 0 :: AV.ptr 7 0 :: (an 3 (AV.func 209 [] [AV.ptr 8 0, AV.ptr 9 0] :: (an 5 []))))) [11] (rfA Pz 163 3) (rfB Pz 163 3)] 0 0 0)
noncomputable def O111_1 (p1 : Pos) (p2 : (List Int)) (p3 : Pos) (p4 : (BitVec 64)) (p5 : (BitVec 64)) (p6 : Int) (p7 : Int) : (Int) ⊕ (Int × Bool) → Out
  | (.inl (y)) => .ret (St.mk (AV.yield 0 :: AV.ptr 8 0 :: AV.ptr 9 0 :: AV.any :: AV.int .i64 y :: (an 13 [AV.cbool true])) (Hp.mk [(pc p1 []), [AV.int .i8 0, AV.int .i8 0, AV.int .u8 0, AV.int .u8 0, AV.bool false], [AV.ints .i64 2 p2], (pc p3 []), [AV.u64 p4], [AV.u64 p5], [AV.func 161 [] [AV.ptr 4 0]], [AV.cbool false], [AV.int .i64 p6], [AV.int .i64 p7]] [] [LRec.mk 2 (some Code.ret) 163 (an 5 (AV.ptr 6 0 :: AV.ptr 7 0 :: (an 3 (AV.func 209 [] [AV.ptr 8 0, AV.ptr 9 0] :: (an 5 []))))) [11] (rfA Pz 163 3) (rfB Pz 163 3)] 0 0 0))
  | (.inr (y)) => .exit 0 (St.mk (AV.yield 0 :: AV.ptr 8 0 :: AV.ptr 9 0 :: AV.any :: AV.int .i64 y.fst :: (an 7 (AV.bool y.snd :: (an 6 [])))) (Hp.mk [(pc p1 []), [AV.int .i8 0, AV.int .i8 0, AV.int .u8 0, AV.int .u8 0, AV.bool false], [AV.ints .i64 2 p2], (pc p3 []), [AV.u64 p4], [AV.u64 p5], [AV.func 161 [] [AV.ptr 4 0]], [AV.bool false], [AV.int .i64 p6], [AV.int .i64 p7]] [] [LRec.mk 0 none 163 (an 5 (AV.ptr 6 0 :: AV.ptr 7 0 :: (an 3 (AV.func 209 [] [AV.ptr 8 0, AV.ptr 9 0] :: (an 5 []))))) [11] (rfA Pz 163 3) (rfB Pz 163 3)] 0 0 0))
noncomputable def st111_1 (p1 : Pos) (p2 : (List Int)) (p3 : Pos) (p4 : (BitVec 64)) (p5 : (BitVec 64)) (p6 : Int) (p7 : Int) (x : (Int)) : Stp (Int) ((Int) ⊕ (Int × Bool)) := (bif decide (x ≤ if p7 > p6 then p7 else p6) then (bif !p4 >>> (BitVec.ofInt 64 x).toNat &&& 1#64 == 0#64 then (Stp.out (.inl ((x)))) else (Stp.go (wr .i64 (x + 1)))) else (Stp.out (.inr ((x, decide (x ≤ if p7 > p6 then p7 else p6))))))
noncomputable def okL111_1 (p1 : Pos) (p2 : (List Int)) (p3 : Pos) (p4 : (BitVec 64)) (p5 : (BitVec 64)) (p6 : Int) (p7 : Int) (x : (Int)) : Bool := true
noncomputable def lp111_1 (p1 : Pos) (p2 : (List Int)) (p3 : Pos) (p4 : (BitVec 64)) (p5 : (BitVec 64)) (p6 : Int) (p7 : Int) (x : (Int)) : Option ((Int) ⊕ (Int × Bool)) := itl (fun x => bif okL111_1 p1 p2 p3 p4 p5 p6 p7 x then st111_1 p1 p2 p3 p4 p5 p6 p7 x else .bad) many x
theorem E111_1 (p1 : Pos) (p2 : (List Int)) (p3 : Pos) (p4 : (BitVec 64)) (p5 : (BitVec 64)) (p6 : Int) (p7 : Int) (x : (Int)) : evCd B111_1 12 209 (bodL Pz 209 1) (S111_1 p1 p2 p3 p4 p5 p6 p7 x) = (let z1 := (Hp.mk [(pc p1 []), [AV.int .i8 0, AV.int .i8 0, AV.int .u8 0, AV.int .u8 0, AV.bool false], [AV.ints .i64 2 p2], (pc p3 []), [AV.u64 p4], [AV.u64 p5], [AV.func 161 [] [AV.ptr 4 0]], [AV.bool false], [AV.int .i64 p6], [AV.int .i64 p7]] [] [LRec.mk 0 none 163 (an 5 (AV.ptr 6 0 :: AV.ptr 7 0 :: (an 3 (AV.func 209 [] [AV.ptr 8 0, AV.ptr 9 0] :: (an 5 []))))) [11] (rfA Pz 163 3) (rfB Pz 163 3)] 0 0 0); Tr.br (decide (x ≤ if p7 > p6 then p7 else p6)) (Tr.br (!p4 >>> (BitVec.ofInt 64 x).toNat &&& 1#64 == 0#64) (Tr.ret (Out.ret (St.mk (AV.yield 0 :: AV.ptr 8 0 :: AV.ptr 9 0 :: AV.any :: AV.int .i64 x :: (an 13 [AV.cbool true])) (Hp.mk [(pc p1 []), [AV.int .i8 0, AV.int .i8 0, AV.int .u8 0, AV.int .u8 0, AV.bool false], [AV.ints .i64 2 p2], (pc p3 []), [AV.u64 p4], [AV.u64 p5], [AV.func 161 [] [AV.ptr 4 0]], [AV.cbool false], [AV.int .i64 p6], [AV.int .i64 p7]] [] [LRec.mk 2 (some Code.ret) 163 (an 5 (AV.ptr 6 0 :: AV.ptr 7 0 :: (an 3 (AV.func 209 [] [AV.ptr 8 0, AV.ptr 9 0] :: (an 5 []))))) [11] (rfA Pz 163 3) (rfB Pz 163 3)] 0 0 0)))) (Tr.ret (Out.norm (St.mk (AV.yield 0 :: AV.ptr 8 0 :: AV.ptr 9 0 :: AV.any :: AV.int .i64 (wr .i64 (x + 1)) :: (an 14 [])) z1)))) (Tr.ret (Out.exit 0 (St.mk (AV.yield 0 :: AV.ptr 8 0 :: AV.ptr 9 0 :: AV.any :: AV.int .i64 x :: (an 7 (AV.bool (decide (x ≤ if p7 > p6 then p7 else p6)) :: (an 6 [])))) z1)))) := by kernel_rfl
theorem L111_1 (p1 : Pos) (p2 : (List Int)) (p3 : Pos) (p4 : (BitVec 64)) (p5 : (BitVec 64)) (p6 : Int) (p7 : Int) (x : (Int)) (r : (Int) ⊕ (Int × Bool)) (h : lp111_1 p1 p2 p3 p4 p5 p6 p7 x = some r) : LSpec Pz (bodL Pz 209 1) (S111_1 p1 p2 p3 p4 p5 p6 p7 x) (O111_1 p1 p2 p3 p4 p5 p6 p7 r) := LSpec.itd (S := S111_1 p1 p2 p3 p4 p5 p6 p7) (O := O111_1 p1 p2 p3 p4 p5 p6 p7) (ok := okL111_1 p1 p2 p3 p4 p5 p6 p7) (st := st111_1 p1 p2 p3 p4 p5 p6 p7) hB111_1 (fun x => gr_eq (E111_1 p1 p2 p3 p4 p5 p6 p7 x) (gr_br2 (gr_br2 (gr_ret (rl_ret rfl (wk_nrm (ks := (3 :: (rn 5 13 []))) (gs := []) (b := false) rfl (by kernel_rfl)))) (gr_ret (rl_go (wk_nrm (ks := (3 :: (rn 5 14 []))) (gs := [4]) (b := true) rfl (by kernel_rfl))))) (gr_ret (rl_exit rfl (wk_nrm (ks := (3 :: (rn 5 7 (rn 13 6 [])))) (gs := []) (b := false) rfl (by kernel_rfl)))))) many x r h
noncomputable def F111_1 : Code → St → Tr Out := fun b s => .br (isL ((lp111_1 (Kz.Pos.mk (tI (tH s 0 0)) (tN (tH s 0 1)) (tU (tH s 0 2)) (tN (tH s 0 3)) (tI (tH s 0 4)) (tN (tH s 0 5)) (tI (tH s 0 6)) (tN (tH s 0 7)) (tI (tH s 0 8)) (tI (tH s 0 9))) (tN (tH s 2 0)) (Kz.Pos.mk (tI (tH s 3 0)) (tN (tH s 3 1)) (tU (tH s 3 2)) (tN (tH s 3 3)) (tI (tH s 3 4)) (tN (tH s 3 5)) (tI (tH s 3 6)) (tN (tH s 3 7)) (tI (tH s 3 8)) (tI (tH s 3 9))) (tU (tH s 4 0)) (tU (tH s 5 0)) (tI (tH s 8 0)) (tI (tH s 9 0)) ((tI (tT s 4)))).getD default)) (sureL Pz (fun s => O111_1 (Kz.Pos.mk (tI (tH s 0 0)) (tN (tH s 0 1)) (tU (tH s 0 2)) (tN (tH s 0 3)) (tI (tH s 0 4)) (tN (tH s 0 5)) (tI (tH s 0 6)) (tN (tH s 0 7)) (tI (tH s 0 8)) (tI (tH s 0 9))) (tN (tH s 2 0)) (Kz.Pos.mk (tI (tH s 3 0)) (tN (tH s 3 1)) (tU (tH s 3 2)) (tN (tH s 3 3)) (tI (tH s 3 4)) (tN (tH s 3 5)) (tI (tH s 3 6)) (tN (tH s 3 7)) (tI (tH s 3 8)) (tI (tH s 3 9))) (tU (tH s 4 0)) (tU (tH s 5 0)) (tI (tH s 8 0)) (tI (tH s 9 0)) (.inl (gl ((lp111_1 (Kz.Pos.mk (tI (tH s 0 0)) (tN (tH s 0 1)) (tU (tH s 0 2)) (tN (tH s 0 3)) (tI (tH s 0 4)) (tN (tH s 0 5)) (tI (tH s 0 6)) (tN (tH s 0 7)) (tI (tH s 0 8)) (tI (tH s 0 9))) (tN (tH s 2 0)) (Kz.Pos.mk (tI (tH s 3 0)) (tN (tH s 3 1)) (tU (tH s 3 2)) (tN (tH s 3 3)) (tI (tH s 3 4)) (tN (tH s 3 5)) (tI (tH s 3 6)) (tN (tH s 3 7)) (tI (tH s 3 8)) (tI (tH s 3 9))) (tU (tH s 4 0)) (tU (tH s 5 0)) (tI (tH s 8 0)) (tI (tH s 9 0)) ((tI (tT s 4)))).getD default)))) b s) (sureL Pz (fun s => O111_1 (Kz.Pos.mk (tI (tH s 0 0)) (tN (tH s 0 1)) (tU (tH s 0 2)) (tN (tH s 0 3)) (tI (tH s 0 4)) (tN (tH s 0 5)) (tI (tH s 0 6)) (tN (tH s 0 7)) (tI (tH s 0 8)) (tI (tH s 0 9))) (tN (tH s 2 0)) (Kz.Pos.mk (tI (tH s 3 0)) (tN (tH s 3 1)) (tU (tH s 3 2)) (tN (tH s 3 3)) (tI (tH s 3 4)) (tN (tH s 3 5)) (tI (tH s 3 6)) (tN (tH s 3 7)) (tI (tH s 3 8)) (tI (tH s 3 9))) (tU (tH s 4 0)) (tU (tH s 5 0)) (tI (tH s 8 0)) (tI (tH s 9 0)) (.inr (gr ((lp111_1 (Kz.Pos.mk (tI (tH s 0 0)) (tN (tH s 0 1)) (tU (tH s 0 2)) (tN (tH s 0 3)) (tI (tH s 0 4)) (tN (tH s 0 5)) (tI (tH s 0 6)) (tN (tH s 0 7)) (tI (tH s 0 8)) (tI (tH s 0 9))) (tN (tH s 2 0)) (Kz.Pos.mk (tI (tH s 3 0)) (tN (tH s 3 1)) (tU (tH s 3 2)) (tN (tH s 3 3)) (tI (tH s 3 4)) (tN (tH s 3 5)) (tI (tH s 3 6)) (tN (tH s 3 7)) (tI (tH s 3 8)) (tI (tH s 3 9))) (tU (tH s 4 0)) (tU (tH s 5 0)) (tI (tH s 8 0)) (tI (tH s 9 0)) ((tI (tT s 4)))).getD default)))) b s)
theorem sF111_1 : ∀ b, LSound Pz b (F111_1 b) := brL_sound (c := fun s => isL ((lp111_1 (Kz.Pos.mk (tI (tH s 0 0)) (tN (tH s 0 1)) (tU (tH s 0 2)) (tN (tH s 0 3)) (tI (tH s 0 4)) (tN (tH s 0 5)) (tI (tH s 0 6)) (tN (tH s 0 7)) (tI (tH s 0 8)) (tI (tH s 0 9))) (tN (tH s 2 0)) (Kz.Pos.mk (tI (tH s 3 0)) (tN (tH s 3 1)) (tU (tH s 3 2)) (tN (tH s 3 3)) (tI (tH s 3 4)) (tN (tH s 3 5)) (tI (tH s 3 6)) (tN (tH s 3 7)) (tI (tH s 3 8)) (tI (tH s 3 9))) (tU (tH s 4 0)) (tU (tH s 5 0)) (tI (tH s 8 0)) (tI (tH s 9 0)) ((tI (tT s 4)))).getD default)) sureL_sound sureL_sound
noncomputable def B111_2 : Base := baseOf Pz (fun f i => lkK f i K111) [(52, G52), (59, G59), (62, G62), (105, G105), (110, G110), (160, G160)] [(209, 1, F111_1)] []
theorem hB111_2 : BOk B111_2 := base_ok named_z ⟨s52, s59, s62, s105, s110, s160, trivial⟩ ⟨sF111_1, trivial⟩ trivial
noncomputable def S111_2 (p1 : Pos) (p2 : (List Int)) (p3 : Pos) (p4 : (BitVec 64)) (p5 : (BitVec 64)) (p6 : Int) (p7 : Int) (p8 : Int) (p9 : Int) (x : (Int)) : St := St.mk (AV.yield 1 :: AV.ptr 12 0 :: AV.ptr 13 0 :: AV.any :: AV.int .i64 x :: (an 14 [])) (Hp.mk [(pc p1 []), [AV.int .i8 0, AV.int .i8 0, AV.int .u8 0, AV.int .u8 0, AV.bool false], [AV.ints .i64 2 p2], (pc p3 []), [AV.u64 p4], [AV.u64 p5], [AV.func 161 [] [AV.ptr 4 0]], [AV.bool true], [AV.int .i64 p6], [AV.int .i64 p7], [AV.func 161 [] [AV.ptr 4 0]], [AV.bool false], [AV.int .i64 p8], [AV.int .i64 p9]] [] [LRec.mk 3 none 163 (an 5 (AV.ptr 6 0 :: AV.ptr 7 0 :: (an 3 (AV.func 209 [] [AV.ptr 8 0, AV.ptr 9 0] :: (an 5 []))))) [11] (rfA Pz 163 3) (rfB Pz 163 3), LRec.mk 0 none 163 (an 5 (AV.ptr 10 0 :: AV.ptr 11 0 :: (an 3 (AV.func 209 [] [AV.ptr 12 0, AV.ptr 13 0] :: (an 5 []))))) [11] (rfA Pz 163 3) (rfB Pz 163 3)] 0 0 0)
noncomputable def O111_2 (p1 : Pos) (p2 : (List Int)) (p3 : Pos) (p4 : (BitVec 64)) (p5 : (BitVec 64)) (p6 : Int) (p7 : Int) (p8 : Int) (p9 : Int) : (Int) ⊕ (Int × Bool) → Out
  | (.inl (y)) => .ret (St.mk (AV.yield 1 :: AV.ptr 12 0 :: AV.ptr 13 0 :: AV.any :: AV.int .i64 y :: (an 13 [AV.cbool true])) (Hp.mk [(pc p1 []), [AV.int .i8 0, AV.int .i8 0, AV.int .u8 0, AV.int .u8 0, AV.bool false], [AV.ints .i64 2 p2], (pc p3 []), [AV.u64 p4], [AV.u64 p5], [AV.func 161 [] [AV.ptr 4 0]], [AV.bool true], [AV.int .i64 p6], [AV.int .i64 p7], [AV.func 161 [] [AV.ptr 4 0]], [AV.cbool false], [AV.int .i64 p8], [AV.int .i64 p9]] [] [LRec.mk 3 none 163 (an 5 (AV.ptr 6 0 :: AV.ptr 7 0 :: (an 3 (AV.func 209 [] [AV.ptr 8 0, AV.ptr 9 0] :: (an 5 []))))) [11] (rfA Pz 163 3) (rfB Pz 163 3), LRec.mk 2 (some Code.ret) 163 (an 5 (AV.ptr 10 0 :: AV.ptr 11 0 :: (an 3 (AV.func 209 [] [AV.ptr 12 0, AV.ptr 13 0] :: (an 5 []))))) [11] (rfA Pz 163 3) (rfB Pz 163 3)] 0 0 0))
  | (.inr (y)) => .exit 0 (St.mk (AV.yield 1 :: AV.ptr 12 0 :: AV.ptr 13 0 :: AV.any :: AV.int .i64 y.fst :: (an 7 (AV.bool y.snd :: (an 6 [])))) (Hp.mk [(pc p1 []), [AV.int .i8 0, AV.int .i8 0, AV.int .u8 0, AV.int .u8 0, AV.bool false], [AV.ints .i64 2 p2], (pc p3 []), [AV.u64 p4], [AV.u64 p5], [AV.func 161 [] [AV.ptr 4 0]], [AV.bool true], [AV.int .i64 p6], [AV.int .i64 p7], [AV.func 161 [] [AV.ptr 4 0]], [AV.bool false], [AV.int .i64 p8], [AV.int .i64 p9]] [] [LRec.mk 3 none 163 (an 5 (AV.ptr 6 0 :: AV.ptr 7 0 :: (an 3 (AV.func 209 [] [AV.ptr 8 0, AV.ptr 9 0] :: (an 5 []))))) [11] (rfA Pz 163 3) (rfB Pz 163 3), LRec.mk 0 none 163 (an 5 (AV.ptr 10 0 :: AV.ptr 11 0 :: (an 3 (AV.func 209 [] [AV.ptr 12 0, AV.ptr 13 0] :: (an 5 []))))) [11] (rfA Pz 163 3) (rfB Pz 163 3)] 0 0 0))
noncomputable def st111_2 (p1 : Pos) (p2 : (List Int)) (p3 : Pos) (p4 : (BitVec 64)) (p5 : (BitVec 64)) (p6 : Int) (p7 : Int) (p8 : Int) (p9 : Int) (x : (Int)) : Stp (Int) ((Int) ⊕ (Int × Bool)) := (bif decide (x ≤ if p9 > p8 then p9 else p8) then (bif !p4 >>> (BitVec.ofInt 64 x).toNat &&& 1#64 == 0#64 then (Stp.out (.inl ((x)))) else (Stp.go (wr .i64 (x + 1)))) else (Stp.out (.inr ((x, decide (x ≤ if p9 > p8 then p9 else p8))))))
noncomputable def okL111_2 (p1 : Pos) (p2 : (List Int)) (p3 : Pos) (p4 : (BitVec 64)) (p5 : (BitVec 64)) (p6 : Int) (p7 : Int) (p8 : Int) (p9 : Int) (x : (Int)) : Bool := true
noncomputable def lp111_2 (p1 : Pos) (p2 : (List Int)) (p3 : Pos) (p4 : (BitVec 64)) (p5 : (BitVec 64)) (p6 : Int) (p7 : Int) (p8 : Int) (p9 : Int) (x : (Int)) : Option ((Int) ⊕ (Int × Bool)) := itl (fun x => bif okL111_2 p1 p2 p3 p4 p5 p6 p7 p8 p9 x then st111_2 p1 p2 p3 p4 p5 p6 p7 p8 p9 x else .bad) many x
theorem E111_2 (p1 : Pos) (p2 : (List Int)) (p3 : Pos) (p4 : (BitVec 64)) (p5 : (BitVec 64)) (p6 : Int) (p7 : Int) (p8 : Int) (p9 : Int) (x : (Int)) : evCd B111_2 12 209 (bodL Pz 209 1) (S111_2 p1 p2 p3 p4 p5 p6 p7 p8 p9 x) = (let z1 := (Hp.mk [(pc p1 []), [AV.int .i8 0, AV.int .i8 0, AV.int .u8 0, AV.int .u8 0, AV.bool false], [AV.ints .i64 2 p2], (pc p3 []), [AV.u64 p4], [AV.u64 p5], [AV.func 161 [] [AV.ptr 4 0]], [AV.bool true], [AV.int .i64 p6], [AV.int .i64 p7], [AV.func 161 [] [AV.ptr 4 0]], [AV.bool false], [AV.int .i64 p8], [AV.int .i64 p9]] [] [LRec.mk 3 none 163 (an 5 (AV.ptr 6 0 :: AV.ptr 7 0 :: (an 3 (AV.func 209 [] [AV.ptr 8 0, AV.ptr 9 0] :: (an 5 []))))) [11] (rfA Pz 163 3) (rfB Pz 163 3), LRec.mk 0 none 163 (an 5 (AV.ptr 10 0 :: AV.ptr 11 0 :: (an 3 (AV.func 209 [] [AV.ptr 12 0, AV.ptr 13 0] :: (an 5 []))))) [11] (rfA Pz 163 3) (rfB Pz 163 3)] 0 0 0); Tr.br (decide (x ≤ if p9 > p8 then p9 else p8)) (Tr.br (!p4 >>> (BitVec.ofInt 64 x).toNat &&& 1#64 == 0#64) (Tr.ret (Out.ret (St.mk (AV.yield 1 :: AV.ptr 12 0 :: AV.ptr 13 0 :: AV.any :: AV.int .i64 x :: (an 13 [AV.cbool true])) (Hp.mk [(pc p1 []), [AV.int .i8 0, AV.int .i8 0, AV.int .u8 0, AV.int .u8 0, AV.bool false], [AV.ints .i64 2 p2], (pc p3 []), [AV.u64 p4], [AV.u64 p5], [AV.func 161 [] [AV.ptr 4 0]], [AV.bool true], [AV.int .i64 p6], [AV.int .i64 p7], [AV.func 161 [] [AV.ptr 4 0]], [AV.cbool false], [AV.int .i64 p8], [AV.int .i64 p9]] [] [LRec.mk 3 none 163 (an 5 (AV.ptr 6 0 :: AV.ptr 7 0 :: (an 3 (AV.func 209 [] [AV.ptr 8 0, AV.ptr 9 0] :: (an 5 []))))) [11] (rfA Pz 163 3) (rfB Pz 163 3), LRec.mk 2 (some Code.ret) 163 (an 5 (AV.ptr 10 0 :: AV.ptr 11 0 :: (an 3 (AV.func 209 [] [AV.ptr 12 0, AV.ptr 13 0] :: (an 5 []))))) [11] (rfA Pz 163 3) (rfB Pz 163 3)] 0 0 0)))) (Tr.ret (Out.norm (St.mk (AV.yield 1 :: AV.ptr 12 0 :: AV.ptr 13 0 :: AV.any :: AV.int .i64 (wr .i64 (x + 1)) :: (an 14 [])) z1)))) (Tr.ret (Out.exit 0 (St.mk (AV.yield 1 :: AV.ptr 12 0 :: AV.ptr 13 0 :: AV.any :: AV.int .i64 x :: (an 7 (AV.bool (decide (x ≤ if p9 > p8 then p9 else p8)) :: (an 6 [])))) z1)))) := by kernel_rfl
theorem L111_2 (p1 : Pos) (p2 : (List Int)) (p3 : Pos) (p4 : (BitVec 64)) (p5 : (BitVec 64)) (p6 : Int) (p7 : Int) (p8 : Int) (p9 : Int) (x : (Int)) (r : (Int) ⊕ (Int × Bool)) (h : lp111_2 p1 p2 p3 p4 p5 p6 p7 p8 p9 x = some r) : LSpec Pz (bodL Pz 209 1) (S111_2 p1 p2 p3 p4 p5 p6 p7 p8 p9 x) (O111_2 p1 p2 p3 p4 p5 p6 p7 p8 p9 r) := LSpec.itd (S := S111_2 p1 p2 p3 p4 p5 p6 p7 p8 p9) (O := O111_2 p1 p2 p3 p4 p5 p6 p7 p8 p9) (ok := okL111_2 p1 p2 p3 p4 p5 p6 p7 p8 p9) (st := st111_2 p1 p2 p3 p4 p5 p6 p7 p8 p9) hB111_2 (fun x => gr_eq (E111_2 p1 p2 p3 p4 p5 p6 p7 p8 p9 x) (gr_br2 (gr_br2 (gr_ret (rl_ret rfl (wk_nrm (ks := (3 :: (rn 5 13 []))) (gs := []) (b := false) rfl (by kernel_rfl)))) (gr_ret (rl_go (wk_nrm (ks := (3 :: (rn 5 14 []))) (gs := [4]) (b := true) rfl (by kernel_rfl))))) (gr_ret (rl_exit rfl (wk_nrm (ks := (3 :: (rn 5 7 (rn 13 6 [])))) (gs := []) (b := false) rfl (by kernel_rfl)))))) many x r h
noncomputable def F111_2 : Code → St → Tr Out := fun b s => .br (isL ((lp111_2 (Kz.Pos.mk (tI (tH s 0 0)) (tN (tH s 0 1)) (tU (tH s 0 2)) (tN (tH s 0 3)) (tI (tH s 0 4)) (tN (tH s 0 5)) (tI (tH s 0 6)) (tN (tH s 0 7)) (tI (tH s 0 8)) (tI (tH s 0 9))) (tN (tH s 2 0)) (Kz.Pos.mk (tI (tH s 3 0)) (tN (tH s 3 1)) (tU (tH s 3 2)) (tN (tH s 3 3)) (tI (tH s 3 4)) (tN (tH s 3 5)) (tI (tH s 3 6)) (tN (tH s 3 7)) (tI (tH s 3 8)) (tI (tH s 3 9))) (tU (tH s 4 0)) (tU (tH s 5 0)) (tI (tH s 8 0)) (tI (tH s 9 0)) (tI (tH s 12 0)) (tI (tH s 13 0)) ((tI (tT s 4)))).getD default)) (sureL Pz (fun s => O111_2 (Kz.Pos.mk (tI (tH s 0 0)) (tN (tH s 0 1)) (tU (tH s 0 2)) (tN (tH s 0 3)) (tI (tH s 0 4)) (tN (tH s 0 5)) (tI (tH s 0 6)) (tN (tH s 0 7)) (tI (tH s 0 8)) (tI (tH s 0 9))) (tN (tH s 2 0)) (Kz.Pos.mk (tI (tH s 3 0)) (tN (tH s 3 1)) (tU (tH s 3 2)) (tN (tH s 3 3)) (tI (tH s 3 4)) (tN (tH s 3 5)) (tI (tH s 3 6)) (tN (tH s 3 7)) (tI (tH s 3 8)) (tI (tH s 3 9))) (tU (tH s 4 0)) (tU (tH s 5 0)) (tI (tH s 8 0)) (tI (tH s 9 0)) (tI (tH s 12 0)) (tI (tH s 13 0)) (.inl (gl ((lp111_2 (Kz.Pos.mk (tI (tH s 0 0)) (tN (tH s 0 1)) (tU (tH s 0 2)) (tN (tH s 0 3)) (tI (tH s 0 4)) (tN (tH s 0 5)) (tI (tH s 0 6)) (tN (tH s 0 7)) (tI (tH s 0 8)) (tI (tH s 0 9))) (tN (tH s 2 0)) (Kz.Pos.mk (tI (tH s 3 0)) (tN (tH s 3 1)) (tU (tH s 3 2)) (tN (tH s 3 3)) (tI (tH s 3 4)) (tN (tH s 3 5)) (tI (tH s 3 6)) (tN (tH s 3 7)) (tI (tH s 3 8)) (tI (tH s 3 9))) (tU (tH s 4 0)) (tU (tH s 5 0)) (tI (tH s 8 0)) (tI (tH s 9 0)) (tI (tH s 12 0)) (tI (tH s 13 0)) ((tI (tT s 4)))).getD default)))) b s) (sureL Pz (fun s => O111_2 (Kz.Pos.mk (tI (tH s 0 0)) (tN (tH s 0 1)) (tU (tH s 0 2)) (tN (tH s 0 3)) (tI (tH s 0 4)) (tN (tH s 0 5)) (tI (tH s 0 6)) (tN (tH s 0 7)) (tI (tH s 0 8)) (tI (tH s 0 9))) (tN (tH s 2 0)) (Kz.Pos.mk (tI (tH s 3 0)) (tN (tH s 3 1)) (tU (tH s 3 2)) (tN (tH s 3 3)) (tI (tH s 3 4)) (tN (tH s 3 5)) (tI (tH s 3 6)) (tN (tH s 3 7)) (tI (tH s 3 8)) (tI (tH s 3 9))) (tU (tH s 4 0)) (tU (tH s 5 0)) (tI (tH s 8 0)) (tI (tH s 9 0)) (tI (tH s 12 0)) (tI (tH s 13 0)) (.inr (gr ((lp111_2 (Kz.Pos.mk (tI (tH s 0 0)) (tN (tH s 0 1)) (tU (tH s 0 2)) (tN (tH s 0 3)) (tI (tH s 0 4)) (tN (tH s 0 5)) (tI (tH s 0 6)) (tN (tH s 0 7)) (tI (tH s 0 8)) (tI (tH s 0 9))) (tN (tH s 2 0)) (Kz.Pos.mk (tI (tH s 3 0)) (tN (tH s 3 1)) (tU (tH s 3 2)) (tN (tH s 3 3)) (tI (tH s 3 4)) (tN (tH s 3 5)) (tI (tH s 3 6)) (tN (tH s 3 7)) (tI (tH s 3 8)) (tI (tH s 3 9))) (tU (tH s 4 0)) (tU (tH s 5 0)) (tI (tH s 8 0)) (tI (tH s 9 0)) (tI (tH s 12 0)) (tI (tH s 13 0)) ((tI (tT s 4)))).getD default)))) b s)
theorem sF111_2 : ∀ b, LSound Pz b (F111_2 b) := brL_sound (c := fun s => isL ((lp111_2 (Kz.Pos.mk (tI (tH s 0 0)) (tN (tH s 0 1)) (tU (tH s 0 2)) (tN (tH s 0 3)) (tI (tH s 0 4)) (tN (tH s 0 5)) (tI (tH s 0 6)) (tN (tH s 0 7)) (tI (tH s 0 8)) (tI (tH s 0 9))) (tN (tH s 2 0)) (Kz.Pos.mk (tI (tH s 3 0)) (tN (tH s 3 1)) (tU (tH s 3 2)) (tN (tH s 3 3)) (tI (tH s 3 4)) (tN (tH s 3 5)) (tI (tH s 3 6)) (tN (tH s 3 7)) (tI (tH s 3 8)) (tI (tH s 3 9))) (tU (tH s 4 0)) (tU (tH s 5 0)) (tI (tH s 8 0)) (tI (tH s 9 0)) (tI (tH s 12 0)) (tI (tH s 13 0)) ((tI (tT s 4)))).getD default)) sureL_sound sureL_sound
noncomputable def B111_3 : Base := baseOf Pz (fun f i => lkK f i K111) [(52, G52), (59, G59), (62, G62), (105, G105), (110, G110), (160, G160)] [(209, 1, fun b s => (bif Kz.shp [0, 1, 2, 4] s == [50, 228, 244, 3, 10, 3, 7, 4, 7, 3, 7, 3, 7, 3, 3, 5, 3, 3, 3, 3, 2, 1, 7, 10, 3, 7, 4, 7, 3, 7, 3, 7, 3, 3, 1, 4, 1, 4, 1, 1161, 1, 2, 1, 3, 1, 3, 163] then F111_1 b s else (bif Kz.shp [0, 1, 2, 4] s == [51, 292, 308, 3, 10, 3, 7, 4, 7, 3, 7, 3, 7, 3, 3, 5, 3, 3, 3, 3, 2, 1, 7, 10, 3, 7, 4, 7, 3, 7, 3, 7, 3, 3, 1, 4, 1, 4, 1, 1161, 1, 2, 1, 3, 1, 3, 1, 1161, 1, 2, 1, 3, 1, 3, 163, 163] then F111_2 b s else .fail)))] []
theorem hB111_3 : BOk B111_3 := base_ok named_z ⟨s52, s59, s62, s105, s110, s160, trivial⟩ ⟨(cnd_sound (c := fun s => Kz.shp [0, 1, 2, 4] s == [50, 228, 244, 3, 10, 3, 7, 4, 7, 3, 7, 3, 7, 3, 3, 5, 3, 3, 3, 3, 2, 1, 7, 10, 3, 7, 4, 7, 3, 7, 3, 7, 3, 3, 1, 4, 1, 4, 1, 1161, 1, 2, 1, 3, 1, 3, 163]) sF111_1 (cnd_sound (c := fun s => Kz.shp [0, 1, 2, 4] s == [51, 292, 308, 3, 10, 3, 7, 4, 7, 3, 7, 3, 7, 3, 3, 5, 3, 3, 3, 3, 2, 1, 7, 10, 3, 7, 4, 7, 3, 7, 3, 7, 3, 3, 1, 4, 1, 4, 1, 1161, 1, 2, 1, 3, 1, 3, 1, 1161, 1, 2, 1, 3, 1, 3, 163, 163]) sF111_2 fail_sound)), trivial⟩ trivial
noncomputable def S111_3 (p1 : Pos) (p2 : (List Int)) (p3 : Pos) (p4 : (BitVec 64)) (p5 : (BitVec 64)) (p6 : Int) (p7 : Int) (p8 : Int) (p9 : Int) (p10 : Int) (p11 : Int) (x : (Int)) : St := St.mk (AV.yield 2 :: AV.ptr 16 0 :: AV.ptr 17 0 :: AV.any :: AV.int .i64 x :: (an 14 [])) (Hp.mk [(pc p1 []), [AV.int .i8 0, AV.int .i8 0, AV.int .u8 0, AV.int .u8 0, AV.bool false], [AV.ints .i64 2 p2], (pc p3 []), [AV.u64 p4], [AV.u64 p5], [AV.func 161 [] [AV.ptr 4 0]], [AV.bool true], [AV.int .i64 p6], [AV.int .i64 p7], [AV.func 161 [] [AV.ptr 4 0]], [AV.bool true], [AV.int .i64 p8], [AV.int .i64 p9], [AV.func 162 [] [AV.ptr 0 0, AV.ptr 5 0, AV.ptr 3 0]], [AV.bool false], [AV.int .i64 p10], [AV.int .i64 p11]] [] [LRec.mk 3 none 163 (an 5 (AV.ptr 6 0 :: AV.ptr 7 0 :: (an 3 (AV.func 209 [] [AV.ptr 8 0, AV.ptr 9 0] :: (an 5 []))))) [11] (rfA Pz 163 3) (rfB Pz 163 3), LRec.mk 3 none 163 (an 5 (AV.ptr 10 0 :: AV.ptr 11 0 :: (an 3 (AV.func 209 [] [AV.ptr 12 0, AV.ptr 13 0] :: (an 5 []))))) [11] (rfA Pz 163 3) (rfB Pz 163 3), LRec.mk 0 none 163 (an 5 (AV.ptr 14 0 :: AV.ptr 15 0 :: (an 3 (AV.func 209 [] [AV.ptr 16 0, AV.ptr 17 0] :: (an 5 []))))) [11] (rfA Pz 163 3) (rfB Pz 163 3)] 0 0 0)
noncomputable def O111_3 (p1 : Pos) (p2 : (List Int)) (p3 : Pos) (p4 : (BitVec 64)) (p5 : (BitVec 64)) (p6 : Int) (p7 : Int) (p8 : Int) (p9 : Int) (p10 : Int) (p11 : Int) : (Int) ⊕ (Int × Bool) → Out
  | (.inl (y)) => .ret (St.mk (AV.yield 2 :: AV.ptr 16 0 :: AV.ptr 17 0 :: AV.any :: AV.int .i64 y :: (an 13 [AV.cbool true])) (Hp.mk [(pc p1 []), [AV.int .i8 0, AV.int .i8 0, AV.int .u8 0, AV.int .u8 0, AV.bool false], [AV.ints .i64 2 p2], (pc p3 []), [AV.u64 p4], [AV.u64 p5], [AV.func 161 [] [AV.ptr 4 0]], [AV.bool true], [AV.int .i64 p6], [AV.int .i64 p7], [AV.func 161 [] [AV.ptr 4 0]], [AV.bool true], [AV.int .i64 p8], [AV.int .i64 p9], [AV.func 162 [] [AV.ptr 0 0, AV.ptr 5 0, AV.ptr 3 0]], [AV.bool false], [AV.int .i64 p10], [AV.int .i64 p11]] [] [LRec.mk 3 none 163 (an 5 (AV.ptr 6 0 :: AV.ptr 7 0 :: (an 3 (AV.func 209 [] [AV.ptr 8 0, AV.ptr 9 0] :: (an 5 []))))) [11] (rfA Pz 163 3) (rfB Pz 163 3), LRec.mk 3 none 163 (an 5 (AV.ptr 10 0 :: AV.ptr 11 0 :: (an 3 (AV.func 209 [] [AV.ptr 12 0, AV.ptr 13 0] :: (an 5 []))))) [11] (rfA Pz 163 3) (rfB Pz 163 3), LRec.mk 2 (some Code.ret) 163 (an 5 (AV.ptr 14 0 :: AV.ptr 15 0 :: (an 3 (AV.func 209 [] [AV.ptr 16 0, AV.ptr 17 0] :: (an 5 []))))) [11] (rfA Pz 163 3) (rfB Pz 163 3)] 0 0 0))
  | (.inr (y)) => .exit 0 (St.mk (AV.yield 2 :: AV.ptr 16 0 :: AV.ptr 17 0 :: AV.any :: AV.int .i64 y.fst :: (an 7 (AV.bool y.snd :: (an 6 [])))) (Hp.mk [(pc p1 []), [AV.int .i8 0, AV.int .i8 0, AV.int .u8 0, AV.int .u8 0, AV.bool false], [AV.ints .i64 2 p2], (pc p3 []), [AV.u64 p4], [AV.u64 p5], [AV.func 161 [] [AV.ptr 4 0]], [AV.bool true], [AV.int .i64 p6], [AV.int .i64 p7], [AV.func 161 [] [AV.ptr 4 0]], [AV.bool true], [AV.int .i64 p8], [AV.int .i64 p9], [AV.func 162 [] [AV.ptr 0 0, AV.ptr 5 0, AV.ptr 3 0]], [AV.bool false], [AV.int .i64 p10], [AV.int .i64 p11]] [] [LRec.mk 3 none 163 (an 5 (AV.ptr 6 0 :: AV.ptr 7 0 :: (an 3 (AV.func 209 [] [AV.ptr 8 0, AV.ptr 9 0] :: (an 5 []))))) [11] (rfA Pz 163 3) (rfB Pz 163 3), LRec.mk 3 none 163 (an 5 (AV.ptr 10 0 :: AV.ptr 11 0 :: (an 3 (AV.func 209 [] [AV.ptr 12 0, AV.ptr 13 0] :: (an 5 []))))) [11] (rfA Pz 163 3) (rfB Pz 163 3), LRec.mk 0 none 163 (an 5 (AV.ptr 14 0 :: AV.ptr 15 0 :: (an 3 (AV.func 209 [] [AV.ptr 16 0, AV.ptr 17 0] :: (an 5 []))))) [11] (rfA Pz 163 3) (rfB Pz 163 3)] 0 0 0))
noncomputable def st111_3 (p1 : Pos) (p2 : (List Int)) (p3 : Pos) (p4 : (BitVec 64)) (p5 : (BitVec 64)) (p6 : Int) (p7 : Int) (p8 : Int) (p9 : Int) (p10 : Int) (p11 : Int) (x : (Int)) : Stp (Int) ((Int) ⊕ (Int × Bool)) := (bif decide (x ≤ if p11 > p10 then p11 else p10) then (bif p1.variant == 3 then (bif N105 x &&& p5 != 0#64 then (Stp.go (wr .i64 (x + 1))) else (bif !!N52 p3 x (wr .u8 (1 - p1.turn)) then (Stp.out (.inl ((x)))) else (Stp.go (wr .i64 (x + 1))))) else (bif !!N52 p3 x (wr .u8 (1 - p1.turn)) then (Stp.out (.inl ((x)))) else (Stp.go (wr .i64 (x + 1))))) else (Stp.out (.inr ((x, decide (x ≤ if p11 > p10 then p11 else p10))))))
noncomputable def okL111_3 (p1 : Pos) (p2 : (List Int)) (p3 : Pos) (p4 : (BitVec 64)) (p5 : (BitVec 64)) (p6 : Int) (p7 : Int) (p8 : Int) (p9 : Int) (p10 : Int) (p11 : Int) (x : (Int)) : Bool := (bif decide (x ≤ if p11 > p10 then p11 else p10) then (bif p1.variant == 3 then (ok105 (x) && (bif N105 x &&& p5 != 0#64 then true else (ok52 (p3) (x) (wr .u8 (1 - p1.turn)) && true))) else (ok52 (p3) (x) (wr .u8 (1 - p1.turn)) && true)) else true)
noncomputable def lp111_3 (p1 : Pos) (p2 : (List Int)) (p3 : Pos) (p4 : (BitVec 64)) (p5 : (BitVec 64)) (p6 : Int) (p7 : Int) (p8 : Int) (p9 : Int) (p10 : Int) (p11 : Int) (x : (Int)) : Option ((Int) ⊕ (Int × Bool)) := itl (fun x => bif okL111_3 p1 p2 p3 p4 p5 p6 p7 p8 p9 p10 p11 x then st111_3 p1 p2 p3 p4 p5 p6 p7 p8 p9 p10 p11 x else .bad) many x
theorem E111_3 (p1 : Pos) (p2 : (List Int)) (p3 : Pos) (p4 : (BitVec 64)) (p5 : (BitVec 64)) (p6 : Int) (p7 : Int) (p8 : Int) (p9 : Int) (p10 : Int) (p11 : Int) (x : (Int)) : evCd B111_3 12 209 (bodL Pz 209 1) (S111_3 p1 p2 p3 p4 p5 p6 p7 p8 p9 p10 p11 x) = (let z1 := (Hp.mk [(pc p1 []), [AV.int .i8 0, AV.int .i8 0, AV.int .u8 0, AV.int .u8 0, AV.bool false], [AV.ints .i64 2 p2], (pc p3 []), [AV.u64 p4], [AV.u64 p5], [AV.func 161 [] [AV.ptr 4 0]], [AV.bool true], [AV.int .i64 p6], [AV.int .i64 p7], [AV.func 161 [] [AV.ptr 4 0]], [AV.bool true], [AV.int .i64 p8], [AV.int .i64 p9], [AV.func 162 [] [AV.ptr 0 0, AV.ptr 5 0, AV.ptr 3 0]], [AV.bool false], [AV.int .i64 p10], [AV.int .i64 p11]] [] [LRec.mk 3 none 163 (an 5 (AV.ptr 6 0 :: AV.ptr 7 0 :: (an 3 (AV.func 209 [] [AV.ptr 8 0, AV.ptr 9 0] :: (an 5 []))))) [11] (rfA Pz 163 3) (rfB Pz 163 3), LRec.mk 3 none 163 (an 5 (AV.ptr 10 0 :: AV.ptr 11 0 :: (an 3 (AV.func 209 [] [AV.ptr 12 0, AV.ptr 13 0] :: (an 5 []))))) [11] (rfA Pz 163 3) (rfB Pz 163 3), LRec.mk 0 none 163 (an 5 (AV.ptr 14 0 :: AV.ptr 15 0 :: (an 3 (AV.func 209 [] [AV.ptr 16 0, AV.ptr 17 0] :: (an 5 []))))) [11] (rfA Pz 163 3) (rfB Pz 163 3)] 0 0 0); let z2 := (Tr.br (isPS Pz 52 [p3.av, AV.int .i64 x, AV.int .u8 (wr .u8 (1 - p1.turn))] (dB.res (N52 p3 x (wr .u8 (1 - p1.turn))))) (Tr.br (!!N52 p3 x (wr .u8 (1 - p1.turn))) (Tr.ret (Out.ret (St.mk (AV.yield 2 :: AV.ptr 16 0 :: AV.ptr 17 0 :: AV.any :: AV.int .i64 x :: (an 13 [AV.cbool true])) (Hp.mk [(pc p1 []), [AV.int .i8 0, AV.int .i8 0, AV.int .u8 0, AV.int .u8 0, AV.bool false], [AV.ints .i64 2 p2], (pc p3 []), [AV.u64 p4], [AV.u64 p5], [AV.func 161 [] [AV.ptr 4 0]], [AV.bool true], [AV.int .i64 p6], [AV.int .i64 p7], [AV.func 161 [] [AV.ptr 4 0]], [AV.bool true], [AV.int .i64 p8], [AV.int .i64 p9], [AV.func 162 [] [AV.ptr 0 0, AV.ptr 5 0, AV.ptr 3 0]], [AV.cbool false], [AV.int .i64 p10], [AV.int .i64 p11]] [] [LRec.mk 3 none 163 (an 5 (AV.ptr 6 0 :: AV.ptr 7 0 :: (an 3 (AV.func 209 [] [AV.ptr 8 0, AV.ptr 9 0] :: (an 5 []))))) [11] (rfA Pz 163 3) (rfB Pz 163 3), LRec.mk 3 none 163 (an 5 (AV.ptr 10 0 :: AV.ptr 11 0 :: (an 3 (AV.func 209 [] [AV.ptr 12 0, AV.ptr 13 0] :: (an 5 []))))) [11] (rfA Pz 163 3) (rfB Pz 163 3), LRec.mk 2 (some Code.ret) 163 (an 5 (AV.ptr 14 0 :: AV.ptr 15 0 :: (an 3 (AV.func 209 [] [AV.ptr 16 0, AV.ptr 17 0] :: (an 5 []))))) [11] (rfA Pz 163 3) (rfB Pz 163 3)] 0 0 0)))) (Tr.ret (Out.norm (St.mk (AV.yield 2 :: AV.ptr 16 0 :: AV.ptr 17 0 :: AV.any :: AV.int .i64 (wr .i64 (x + 1)) :: (an 14 [])) z1)))) Tr.fail); Tr.br (decide (x ≤ if p11 > p10 then p11 else p10)) (Tr.br (p1.variant == 3) (Tr.br (isPS Pz 105 [AV.int .i64 x] (dU.res (N105 x))) (Tr.br (N105 x &&& p5 != 0#64) (Tr.ret (Out.norm (St.mk (AV.yield 2 :: AV.ptr 16 0 :: AV.ptr 17 0 :: AV.any :: AV.int .i64 (wr .i64 (x + 1)) :: (an 14 [])) z1))) z2) Tr.fail) z2) (Tr.ret (Out.exit 0 (St.mk (AV.yield 2 :: AV.ptr 16 0 :: AV.ptr 17 0 :: AV.any :: AV.int .i64 x :: (an 7 (AV.bool (decide (x ≤ if p11 > p10 then p11 else p10)) :: (an 6 [])))) z1)))) := by kernel_rfl
theorem L111_3 (p1 : Pos) (p2 : (List Int)) (p3 : Pos) (p4 : (BitVec 64)) (p5 : (BitVec 64)) (p6 : Int) (p7 : Int) (p8 : Int) (p9 : Int) (p10 : Int) (p11 : Int) (x : (Int)) (r : (Int) ⊕ (Int × Bool)) (h : lp111_3 p1 p2 p3 p4 p5 p6 p7 p8 p9 p10 p11 x = some r) : LSpec Pz (bodL Pz 209 1) (S111_3 p1 p2 p3 p4 p5 p6 p7 p8 p9 p10 p11 x) (O111_3 p1 p2 p3 p4 p5 p6 p7 p8 p9 p10 p11 r) := LSpec.itd (S := S111_3 p1 p2 p3 p4 p5 p6 p7 p8 p9 p10 p11) (O := O111_3 p1 p2 p3 p4 p5 p6 p7 p8 p9 p10 p11) (ok := okL111_3 p1 p2 p3 p4 p5 p6 p7 p8 p9 p10 p11) (st := st111_3 p1 p2 p3 p4 p5 p6 p7 p8 p9 p10 p11) hB111_3 (fun x => gr_eq (E111_3 p1 p2 p3 p4 p5 p6 p7 p8 p9 p10 p11 x) (gr_br (gr_br (gr_call (P105 (x)) (gr_br (gr_ret (rl_go (wk_nrm (ks := (3 :: (rn 5 14 []))) (gs := [4]) (b := true) rfl (by kernel_rfl)))) (gr_call (P52 (p3) (x) (wr .u8 (1 - p1.turn))) (gr_br2 (gr_ret (rl_ret rfl (wk_nrm (ks := (3 :: (rn 5 13 []))) (gs := [4]) (b := true) rfl (by kernel_rfl)))) (gr_ret (rl_go (wk_nrm (ks := (3 :: (rn 5 14 []))) (gs := [4]) (b := true) rfl (by kernel_rfl)))))))) (gr_call (P52 (p3) (x) (wr .u8 (1 - p1.turn))) (gr_br2 (gr_ret (rl_ret rfl (wk_nrm (ks := (3 :: (rn 5 13 []))) (gs := [4]) (b := true) rfl (by kernel_rfl)))) (gr_ret (rl_go (wk_nrm (ks := (3 :: (rn 5 14 []))) (gs := [4]) (b := true) rfl (by kernel_rfl))))))) (gr_ret (rl_exit rfl (wk_nrm (ks := (3 :: (rn 5 7 (rn 13 6 [])))) (gs := []) (b := false) rfl (by kernel_rfl)))))) many x r h
noncomputable def F111_3 : Code → St → Tr Out := fun b s => .br (isL ((lp111_3 (Kz.Pos.mk (tI (tH s 0 0)) (tN (tH s 0 1)) (tU (tH s 0 2)) (tN (tH s 0 3)) (tI (tH s 0 4)) (tN (tH s 0 5)) (tI (tH s 0 6)) (tN (tH s 0 7)) (tI (tH s 0 8)) (tI (tH s 0 9))) (tN (tH s 2 0)) (Kz.Pos.mk (tI (tH s 3 0)) (tN (tH s 3 1)) (tU (tH s 3 2)) (tN (tH s 3 3)) (tI (tH s 3 4)) (tN (tH s 3 5)) (tI (tH s 3 6)) (tN (tH s 3 7)) (tI (tH s 3 8)) (tI (tH s 3 9))) (tU (tH s 4 0)) (tU (tH s 5 0)) (tI (tH s 8 0)) (tI (tH s 9 0)) (tI (tH s 12 0)) (tI (tH s 13 0)) (tI (tH s 16 0)) (tI (tH s 17 0)) ((tI (tT s 4)))).getD default)) (sureL Pz (fun s => O111_3 (Kz.Pos.mk (tI (tH s 0 0)) (tN (tH s 0 1)) (tU (tH s 0 2)) (tN (tH s 0 3)) (tI (tH s 0 4)) (tN (tH s 0 5)) (tI (tH s 0 6)) (tN (tH s 0 7)) (tI (tH s 0 8)) (tI (tH s 0 9))) (tN (tH s 2 0)) (Kz.Pos.mk (tI (tH s 3 0)) (tN (tH s 3 1)) (tU (tH s 3 2)) (tN (tH s 3 3)) (tI (tH s 3 4)) (tN (tH s 3 5)) (tI (tH s 3 6)) (tN (tH s 3 7)) (tI (tH s 3 8)) (tI (tH s 3 9))) (tU (tH s 4 0)) (tU (tH s 5 0)) (tI (tH s 8 0)) (tI (tH s 9 0)) (tI (tH s 12 0)) (tI (tH s 13 0)) (tI (tH s 16 0)) (tI (tH s 17 0)) (.inl (gl ((lp111_3 (Kz.Pos.mk (tI (tH s 0 0)) (tN (tH s 0 1)) (tU (tH s 0 2)) (tN (tH s 0 3)) (tI (tH s 0 4)) (tN (tH s 0 5)) (tI (tH s 0 6)) (tN (tH s 0 7)) (tI (tH s 0 8)) (tI (tH s 0 9))) (tN (tH s 2 0)) (Kz.Pos.mk (tI (tH s 3 0)) (tN (tH s 3 1)) (tU (tH s 3 2)) (tN (tH s 3 3)) (tI (tH s 3 4)) (tN (tH s 3 5)) (tI (tH s 3 6)) (tN (tH s 3 7)) (tI (tH s 3 8)) (tI (tH s 3 9))) (tU (tH s 4 0)) (tU (tH s 5 0)) (tI (tH s 8 0)) (tI (tH s 9 0)) (tI (tH s 12 0)) (tI (tH s 13 0)) (tI (tH s 16 0)) (tI (tH s 17 0)) ((tI (tT s 4)))).getD default)))) b s) (sureL Pz (fun s => O111_3 (Kz.Pos.mk (tI (tH s 0 0)) (tN (tH s 0 1)) (tU (tH s 0 2)) (tN (tH s 0 3)) (tI (tH s 0 4)) (tN (tH s 0 5)) (tI (tH s 0 6)) (tN (tH s 0 7)) (tI (tH s 0 8)) (tI (tH s 0 9))) (tN (tH s 2 0)) (Kz.Pos.mk (tI (tH s 3 0)) (tN (tH s 3 1)) (tU (tH s 3 2)) (tN (tH s 3 3)) (tI (tH s 3 4)) (tN (tH s 3 5)) (tI (tH s 3 6)) (tN (tH s 3 7)) (tI (tH s 3 8)) (tI (tH s 3 9))) (tU (tH s 4 0)) (tU (tH s 5 0)) (tI (tH s 8 0)) (tI (tH s 9 0)) (tI (tH s 12 0)) (tI (tH s 13 0)) (tI (tH s 16 0)) (tI (tH s 17 0)) (.inr (gr ((lp111_3 (Kz.Pos.mk (tI (tH s 0 0)) (tN (tH s 0 1)) (tU (tH s 0 2)) (tN (tH s 0 3)) (tI (tH s 0 4)) (tN (tH s 0 5)) (tI (tH s 0 6)) (tN (tH s 0 7)) (tI (tH s 0 8)) (tI (tH s 0 9))) (tN (tH s 2 0)) (Kz.Pos.mk (tI (tH s 3 0)) (tN (tH s 3 1)) (tU (tH s 3 2)) (tN (tH s 3 3)) (tI (tH s 3 4)) (tN (tH s 3 5)) (tI (tH s 3 6)) (tN (tH s 3 7)) (tI (tH s 3 8)) (tI (tH s 3 9))) (tU (tH s 4 0)) (tU (tH s 5 0)) (tI (tH s 8 0)) (tI (tH s 9 0)) (tI (tH s 12 0)) (tI (tH s 13 0)) (tI (tH s 16 0)) (tI (tH s 17 0)) ((tI (tT s 4)))).getD default)))) b s)
theorem sF111_3 : ∀ b, LSound Pz b (F111_3 b) := brL_sound (c := fun s => isL ((lp111_3 (Kz.Pos.mk (tI (tH s 0 0)) (tN (tH s 0 1)) (tU (tH s 0 2)) (tN (tH s 0 3)) (tI (tH s 0 4)) (tN (tH s 0 5)) (tI (tH s 0 6)) (tN (tH s 0 7)) (tI (tH s 0 8)) (tI (tH s 0 9))) (tN (tH s 2 0)) (Kz.Pos.mk (tI (tH s 3 0)) (tN (tH s 3 1)) (tU (tH s 3 2)) (tN (tH s 3 3)) (tI (tH s 3 4)) (tN (tH s 3 5)) (tI (tH s 3 6)) (tN (tH s 3 7)) (tI (tH s 3 8)) (tI (tH s 3 9))) (tU (tH s 4 0)) (tU (tH s 5 0)) (tI (tH s 8 0)) (tI (tH s 9 0)) (tI (tH s 12 0)) (tI (tH s 13 0)) (tI (tH s 16 0)) (tI (tH s 17 0)) ((tI (tT s 4)))).getD default)) sureL_sound sureL_sound
noncomputable def B111 : Base := baseOf Pz (fun f i => lkK f i K111) [(52, G52), (59, G59), (62, G62), (105, G105), (110, G110), (160, G160)] [(209, 1, fun b s => (bif Kz.shp [0, 1, 2, 4] s == [50, 228, 244, 3, 10, 3, 7, 4, 7, 3, 7, 3, 7, 3, 3, 5, 3, 3, 3, 3, 2, 1, 7, 10, 3, 7, 4, 7, 3, 7, 3, 7, 3, 3, 1, 4, 1, 4, 1, 1161, 1, 2, 1, 3, 1, 3, 163] then F111_1 b s else (bif Kz.shp [0, 1, 2, 4] s == [51, 292, 308, 3, 10, 3, 7, 4, 7, 3, 7, 3, 7, 3, 3, 5, 3, 3, 3, 3, 2, 1, 7, 10, 3, 7, 4, 7, 3, 7, 3, 7, 3, 3, 1, 4, 1, 4, 1, 1161, 1, 2, 1, 3, 1, 3, 1, 1161, 1, 2, 1, 3, 1, 3, 163, 163] then F111_2 b s else (bif Kz.shp [0, 1, 2, 4] s == [52, 356, 372, 3, 10, 3, 7, 4, 7, 3, 7, 3, 7, 3, 3, 5, 3, 3, 3, 3, 2, 1, 7, 10, 3, 7, 4, 7, 3, 7, 3, 7, 3, 3, 1, 4, 1, 4, 1, 1161, 1, 2, 1, 3, 1, 3, 1, 1161, 1, 2, 1, 3, 1, 3, 1, 1162, 1, 2, 1, 3, 1, 3, 163, 163, 163] then F111_3 b s else .fail))))] []
theorem hB111 : BOk B111 := base_ok named_z ⟨s52, s59, s62, s105, s110, s160, trivial⟩ ⟨(cnd_sound (c := fun s => Kz.shp [0, 1, 2, 4] s == [50, 228, 244, 3, 10, 3, 7, 4, 7, 3, 7, 3, 7, 3, 3, 5, 3, 3, 3, 3, 2, 1, 7, 10, 3, 7, 4, 7, 3, 7, 3, 7, 3, 3, 1, 4, 1, 4, 1, 1161, 1, 2, 1, 3, 1, 3, 163]) sF111_1 (cnd_sound (c := fun s => Kz.shp [0, 1, 2, 4] s == [51, 292, 308, 3, 10, 3, 7, 4, 7, 3, 7, 3, 7, 3, 3, 5, 3, 3, 3, 3, 2, 1, 7, 10, 3, 7, 4, 7, 3, 7, 3, 7, 3, 3, 1, 4, 1, 4, 1, 1161, 1, 2, 1, 3, 1, 3, 1, 1161, 1, 2, 1, 3, 1, 3, 163, 163]) sF111_2 (cnd_sound (c := fun s => Kz.shp [0, 1, 2, 4] s == [52, 356, 372, 3, 10, 3, 7, 4, 7, 3, 7, 3, 7, 3, 3, 5, 3, 3, 3, 3, 2, 1, 7, 10, 3, 7, 4, 7, 3, 7, 3, 7, 3, 3, 1, 4, 1, 4, 1, 1161, 1, 2, 1, 3, 1, 3, 1, 1161, 1, 2, 1, 3, 1, 3, 1, 1162, 1, 2, 1, 3, 1, 3, 163, 163, 163]) sF111_3 fail_sound))), trivial⟩ trivial
noncomputable def N111 (a : Pos) (b : Int) (c : Int) : (Mv × Bool) := (bif !(N160 a b c).snd then (⟨(0), (0), (0), (0), (false)⟩, (false)) else (bif isL ((lp111_1 a (List.take 2 (List.drop (c.toNat * 2) (li [6, 5, 2, 3]))) (Pos.mk a.variant ((a.board.set (scale 1 b).toNat 0).set (scale 1 (N160 a b c).fst).toNat 0) a.promoted a.pockets a.turn a.rooks a.passing a.checks a.half a.full) (N59 (Pos.mk a.variant ((a.board.set (scale 1 b).toNat 0).set (scale 1 (N160 a b c).fst).toNat 0) a.promoted a.pockets a.turn a.rooks a.passing a.checks a.half a.full)) (N62 a (wr .u8 (1 - a.turn)) 6) b (wr .i64 (N110 a.turn + (List.take 2 (List.drop (c.toNat * 2) (li [6, 5, 2, 3]))).getD 0 0)) (if wr .i64 (N110 a.turn + (List.take 2 (List.drop (c.toNat * 2) (li [6, 5, 2, 3]))).getD 0 0) < b then wr .i64 (N110 a.turn + (List.take 2 (List.drop (c.toNat * 2) (li [6, 5, 2, 3]))).getD 0 0) else b)).getD default) then (⟨(wr .i8 b), (wr .i8 (N160 a b c).fst), (0), (0), (true)⟩, (false)) else (bif isL ((lp111_2 a (List.take 2 (List.drop (c.toNat * 2) (li [6, 5, 2, 3]))) (Pos.mk a.variant ((a.board.set (scale 1 b).toNat 0).set (scale 1 (N160 a b c).fst).toNat 0) a.promoted a.pockets a.turn a.rooks a.passing a.checks a.half a.full) (N59 (Pos.mk a.variant ((a.board.set (scale 1 b).toNat 0).set (scale 1 (N160 a b c).fst).toNat 0) a.promoted a.pockets a.turn a.rooks a.passing a.checks a.half a.full)) (N62 a (wr .u8 (1 - a.turn)) 6) b (wr .i64 (N110 a.turn + (List.take 2 (List.drop (c.toNat * 2) (li [6, 5, 2, 3]))).getD 0 0)) (N160 a b c).fst (wr .i64 (N110 a.turn + (List.take 2 (List.drop (c.toNat * 2) (li [6, 5, 2, 3]))).getD 1 0)) (if wr .i64 (N110 a.turn + (List.take 2 (List.drop (c.toNat * 2) (li [6, 5, 2, 3]))).getD 1 0) < (N160 a b c).fst then wr .i64 (N110 a.turn + (List.take 2 (List.drop (c.toNat * 2) (li [6, 5, 2, 3]))).getD 1 0) else (N160 a b c).fst)).getD default) then (⟨(wr .i8 b), (wr .i8 (N160 a b c).fst), (0), (0), (true)⟩, (false)) else (bif isL ((lp111_3 a (List.take 2 (List.drop (c.toNat * 2) (li [6, 5, 2, 3]))) (Pos.mk a.variant ((a.board.set (scale 1 b).toNat 0).set (scale 1 (N160 a b c).fst).toNat 0) a.promoted a.pockets a.turn a.rooks a.passing a.checks a.half a.full) (N59 (Pos.mk a.variant ((a.board.set (scale 1 b).toNat 0).set (scale 1 (N160 a b c).fst).toNat 0) a.promoted a.pockets a.turn a.rooks a.passing a.checks a.half a.full)) (N62 a (wr .u8 (1 - a.turn)) 6) b (wr .i64 (N110 a.turn + (List.take 2 (List.drop (c.toNat * 2) (li [6, 5, 2, 3]))).getD 0 0)) (N160 a b c).fst (wr .i64 (N110 a.turn + (List.take 2 (List.drop (c.toNat * 2) (li [6, 5, 2, 3]))).getD 1 0)) b (wr .i64 (N110 a.turn + (List.take 2 (List.drop (c.toNat * 2) (li [6, 5, 2, 3]))).getD 0 0)) (if wr .i64 (N110 a.turn + (List.take 2 (List.drop (c.toNat * 2) (li [6, 5, 2, 3]))).getD 0 0) < b then wr .i64 (N110 a.turn + (List.take 2 (List.drop (c.toNat * 2) (li [6, 5, 2, 3]))).getD 0 0) else b)).getD default) then (⟨(wr .i8 b), (wr .i8 (N160 a b c).fst), (0), (0), (true)⟩, (false)) else (⟨(wr .i8 b), (wr .i8 (N160 a b c).fst), (0), (0), (true)⟩, (true))))))
noncomputable def ok111 (a : Pos) (b : Int) (c : Int) : Bool := (ok160 (a) (b) (c) && (bif !(N160 a b c).snd then true else (decide (0 ≤ c) && decide (c < Int.ofNat 2) && (decide (0 ≤ b) && decide (b < Int.ofNat 64) && (decide (0 ≤ (N160 a b c).fst) && decide ((N160 a b c).fst < Int.ofNat 64) && (ok59 (Pos.mk a.variant ((a.board.set (scale 1 b).toNat 0).set (scale 1 (N160 a b c).fst).toNat 0) a.promoted a.pockets a.turn a.rooks a.passing a.checks a.half a.full) && (ok62 (a) (wr .u8 (1 - a.turn)) (6) && ((lp111_1 a (List.take 2 (List.drop (c.toNat * 2) (li [6, 5, 2, 3]))) (Pos.mk a.variant ((a.board.set (scale 1 b).toNat 0).set (scale 1 (N160 a b c).fst).toNat 0) a.promoted a.pockets a.turn a.rooks a.passing a.checks a.half a.full) (N59 (Pos.mk a.variant ((a.board.set (scale 1 b).toNat 0).set (scale 1 (N160 a b c).fst).toNat 0) a.promoted a.pockets a.turn a.rooks a.passing a.checks a.half a.full)) (N62 a (wr .u8 (1 - a.turn)) 6) b (wr .i64 (N110 a.turn + (List.take 2 (List.drop (c.toNat * 2) (li [6, 5, 2, 3]))).getD 0 0)) (if wr .i64 (N110 a.turn + (List.take 2 (List.drop (c.toNat * 2) (li [6, 5, 2, 3]))).getD 0 0) < b then wr .i64 (N110 a.turn + (List.take 2 (List.drop (c.toNat * 2) (li [6, 5, 2, 3]))).getD 0 0) else b)).isSome && bif isL ((lp111_1 a (List.take 2 (List.drop (c.toNat * 2) (li [6, 5, 2, 3]))) (Pos.mk a.variant ((a.board.set (scale 1 b).toNat 0).set (scale 1 (N160 a b c).fst).toNat 0) a.promoted a.pockets a.turn a.rooks a.passing a.checks a.half a.full) (N59 (Pos.mk a.variant ((a.board.set (scale 1 b).toNat 0).set (scale 1 (N160 a b c).fst).toNat 0) a.promoted a.pockets a.turn a.rooks a.passing a.checks a.half a.full)) (N62 a (wr .u8 (1 - a.turn)) 6) b (wr .i64 (N110 a.turn + (List.take 2 (List.drop (c.toNat * 2) (li [6, 5, 2, 3]))).getD 0 0)) (if wr .i64 (N110 a.turn + (List.take 2 (List.drop (c.toNat * 2) (li [6, 5, 2, 3]))).getD 0 0) < b then wr .i64 (N110 a.turn + (List.take 2 (List.drop (c.toNat * 2) (li [6, 5, 2, 3]))).getD 0 0) else b)).getD default) then true else ((lp111_2 a (List.take 2 (List.drop (c.toNat * 2) (li [6, 5, 2, 3]))) (Pos.mk a.variant ((a.board.set (scale 1 b).toNat 0).set (scale 1 (N160 a b c).fst).toNat 0) a.promoted a.pockets a.turn a.rooks a.passing a.checks a.half a.full) (N59 (Pos.mk a.variant ((a.board.set (scale 1 b).toNat 0).set (scale 1 (N160 a b c).fst).toNat 0) a.promoted a.pockets a.turn a.rooks a.passing a.checks a.half a.full)) (N62 a (wr .u8 (1 - a.turn)) 6) b (wr .i64 (N110 a.turn + (List.take 2 (List.drop (c.toNat * 2) (li [6, 5, 2, 3]))).getD 0 0)) (N160 a b c).fst (wr .i64 (N110 a.turn + (List.take 2 (List.drop (c.toNat * 2) (li [6, 5, 2, 3]))).getD 1 0)) (if wr .i64 (N110 a.turn + (List.take 2 (List.drop (c.toNat * 2) (li [6, 5, 2, 3]))).getD 1 0) < (N160 a b c).fst then wr .i64 (N110 a.turn + (List.take 2 (List.drop (c.toNat * 2) (li [6, 5, 2, 3]))).getD 1 0) else (N160 a b c).fst)).isSome && bif isL ((lp111_2 a (List.take 2 (List.drop (c.toNat * 2) (li [6, 5, 2, 3]))) (Pos.mk a.variant ((a.board.set (scale 1 b).toNat 0).set (scale 1 (N160 a b c).fst).toNat 0) a.promoted a.pockets a.turn a.rooks a.passing a.checks a.half a.full) (N59 (Pos.mk a.variant ((a.board.set (scale 1 b).toNat 0).set (scale 1 (N160 a b c).fst).toNat 0) a.promoted a.pockets a.turn a.rooks a.passing a.checks a.half a.full)) (N62 a (wr .u8 (1 - a.turn)) 6) b (wr .i64 (N110 a.turn + (List.take 2 (List.drop (c.toNat * 2) (li [6, 5, 2, 3]))).getD 0 0)) (N160 a b c).fst (wr .i64 (N110 a.turn + (List.take 2 (List.drop (c.toNat * 2) (li [6, 5, 2, 3]))).getD 1 0)) (if wr .i64 (N110 a.turn + (List.take 2 (List.drop (c.toNat * 2) (li [6, 5, 2, 3]))).getD 1 0) < (N160 a b c).fst then wr .i64 (N110 a.turn + (List.take 2 (List.drop (c.toNat * 2) (li [6, 5, 2, 3]))).getD 1 0) else (N160 a b c).fst)).getD default) then true else ((lp111_3 a (List.take 2 (List.drop (c.toNat * 2) (li [6, 5, 2, 3]))) (Pos.mk a.variant ((a.board.set (scale 1 b).toNat 0).set (scale 1 (N160 a b c).fst).toNat 0) a.promoted a.pockets a.turn a.rooks a.passing a.checks a.half a.full) (N59 (Pos.mk a.variant ((a.board.set (scale 1 b).toNat 0).set (scale 1 (N160 a b c).fst).toNat 0) a.promoted a.pockets a.turn a.rooks a.passing a.checks a.half a.full)) (N62 a (wr .u8 (1 - a.turn)) 6) b (wr .i64 (N110 a.turn + (List.take 2 (List.drop (c.toNat * 2) (li [6, 5, 2, 3]))).getD 0 0)) (N160 a b c).fst (wr .i64 (N110 a.turn + (List.take 2 (List.drop (c.toNat * 2) (li [6, 5, 2, 3]))).getD 1 0)) b (wr .i64 (N110 a.turn + (List.take 2 (List.drop (c.toNat * 2) (li [6, 5, 2, 3]))).getD 0 0)) (if wr .i64 (N110 a.turn + (List.take 2 (List.drop (c.toNat * 2) (li [6, 5, 2, 3]))).getD 0 0) < b then wr .i64 (N110 a.turn + (List.take 2 (List.drop (c.toNat * 2) (li [6, 5, 2, 3]))).getD 0 0) else b)).isSome && bif isL ((lp111_3 a (List.take 2 (List.drop (c.toNat * 2) (li [6, 5, 2, 3]))) (Pos.mk a.variant ((a.board.set (scale 1 b).toNat 0).set (scale 1 (N160 a b c).fst).toNat 0) a.promoted a.pockets a.turn a.rooks a.passing a.checks a.half a.full) (N59 (Pos.mk a.variant ((a.board.set (scale 1 b).toNat 0).set (scale 1 (N160 a b c).fst).toNat 0) a.promoted a.pockets a.turn a.rooks a.passing a.checks a.half a.full)) (N62 a (wr .u8 (1 - a.turn)) 6) b (wr .i64 (N110 a.turn + (List.take 2 (List.drop (c.toNat * 2) (li [6, 5, 2, 3]))).getD 0 0)) (N160 a b c).fst (wr .i64 (N110 a.turn + (List.take 2 (List.drop (c.toNat * 2) (li [6, 5, 2, 3]))).getD 1 0)) b (wr .i64 (N110 a.turn + (List.take 2 (List.drop (c.toNat * 2) (li [6, 5, 2, 3]))).getD 0 0)) (if wr .i64 (N110 a.turn + (List.take 2 (List.drop (c.toNat * 2) (li [6, 5, 2, 3]))).getD 0 0) < b then wr .i64 (N110 a.turn + (List.take 2 (List.drop (c.toNat * 2) (li [6, 5, 2, 3]))).getD 0 0) else b)).getD default) then true else true))))))))))
theorem E111 (a : Pos) (b : Int) (c : Int) : evPure B111 14 111 [Pos.av a, .int .i64 b, .int .i64 c] = (let z1 := (Pos.mk a.variant ((a.board.set (scale 1 b).toNat 0).set (scale 1 (N160 a b c).fst).toNat 0) a.promoted a.pockets a.turn a.rooks a.passing a.checks a.half a.full); let z2 := (List.take 2 (List.drop (c.toNat * 2) (li [6, 5, 2, 3]))); let z6 := (N110 a.turn + z2.getD 0 0); let z9 := [AV.int .i8 (wr .i8 b), AV.int .i8 (wr .i8 (N160 a b c).fst), AV.cint .u8 0, AV.cint .u8 0, AV.cbool true]; let z11 := (N62 a (wr .u8 (1 - a.turn)) 6); let z5 := (St.mk (AV.yield 0 :: AV.ptr 8 0 :: AV.ptr 9 0 :: AV.any :: AV.int .i64 (if wr .i64 z6 < b then wr .i64 z6 else b) :: (an 14 [])) (Hp.mk [(pc a []), [AV.cint .i8 0, AV.cint .i8 0, AV.cint .u8 0, AV.cint .u8 0, AV.cbool false], [AV.ints .i64 2 z2], [AV.int .u8 a.variant, AV.ints .u8 64 ((a.board.set (scale 1 b).toNat 0).set (scale 1 (N160 a b c).fst).toNat 0), AV.u64 a.promoted, AV.ints .u8 12 a.pockets, AV.int .u8 a.turn, AV.ints .i8 4 a.rooks, AV.int .i8 a.passing, AV.ints .u8 2 a.checks, AV.int .i64 a.half, AV.int .i64 a.full], [AV.u64 (N59 z1)], [AV.u64 z11], [AV.func 161 [] [AV.ptr 4 0]], [AV.cbool false], [AV.int .i64 b], [AV.int .i64 (wr .i64 z6)]] [] [LRec.mk 0 none 163 (an 5 (AV.ptr 6 0 :: AV.ptr 7 0 :: (an 3 (AV.func 209 [] [AV.ptr 8 0, AV.ptr 9 0] :: (an 5 []))))) [11] (rfA Pz 163 3) (rfB Pz 163 3)] 0 0 0)); let z10 := ((lp111_1 a z2 z1 (N59 z1) z11 b (wr .i64 z6) (if wr .i64 z6 < b then wr .i64 z6 else b)).getD default); let z12 := (wr .i64 (N110 a.turn + z2.getD 1 0)); let z3 := (St.mk (AV.yield 2 :: AV.ptr 16 0 :: AV.ptr 17 0 :: AV.any :: AV.int .i64 (if wr .i64 z6 < b then wr .i64 z6 else b) :: (an 14 [])) (Hp.mk [(pc a []), [AV.int .i8 0, AV.int .i8 0, AV.int .u8 0, AV.int .u8 0, AV.bool false], [AV.ints .i64 2 z2], [AV.int .u8 a.variant, AV.ints .u8 64 ((a.board.set (scale 1 b).toNat 0).set (scale 1 (N160 a b c).fst).toNat 0), AV.u64 a.promoted, AV.ints .u8 12 a.pockets, AV.int .u8 a.turn, AV.ints .i8 4 a.rooks, AV.int .i8 a.passing, AV.ints .u8 2 a.checks, AV.int .i64 a.half, AV.int .i64 a.full], [AV.u64 (N59 z1)], [AV.u64 z11], [AV.func 161 [] [AV.ptr 4 0]], [AV.bool true], [AV.int .i64 b], [AV.int .i64 (wr .i64 z6)], [AV.func 161 [] [AV.ptr 4 0]], [AV.cbool true], [AV.int .i64 (N160 a b c).fst], [AV.int .i64 z12], [AV.func 162 [] [AV.ptr 0 0, AV.ptr 5 0, AV.ptr 3 0]], [AV.cbool false], [AV.int .i64 b], [AV.int .i64 (wr .i64 z6)]] [] [LRec.mk 3 none 163 (an 5 (AV.ptr 6 0 :: AV.ptr 7 0 :: (an 3 (AV.func 209 [] [AV.ptr 8 0, AV.ptr 9 0] :: (an 5 []))))) [11] (rfA Pz 163 3) (rfB Pz 163 3), LRec.mk 3 none 163 (an 5 (AV.ptr 10 0 :: AV.ptr 11 0 :: (an 3 (AV.func 209 [] [AV.ptr 12 0, AV.ptr 13 0] :: (an 5 []))))) [11] (rfA Pz 163 3) (rfB Pz 163 3), LRec.mk 0 none 163 (an 5 (AV.ptr 14 0 :: AV.ptr 15 0 :: (an 3 (AV.func 209 [] [AV.ptr 16 0, AV.ptr 17 0] :: (an 5 []))))) [11] (rfA Pz 163 3) (rfB Pz 163 3)] 0 0 0)); let z4 := (St.mk (AV.yield 1 :: AV.ptr 12 0 :: AV.ptr 13 0 :: AV.any :: AV.int .i64 (if wr .i64 (N110 a.turn + z2.getD 1 0) < (N160 a b c).fst then wr .i64 (N110 a.turn + z2.getD 1 0) else (N160 a b c).fst) :: (an 14 [])) (Hp.mk [(pc a []), [AV.int .i8 0, AV.int .i8 0, AV.int .u8 0, AV.int .u8 0, AV.bool false], [AV.ints .i64 2 z2], [AV.int .u8 a.variant, AV.ints .u8 64 ((a.board.set (scale 1 b).toNat 0).set (scale 1 (N160 a b c).fst).toNat 0), AV.u64 a.promoted, AV.ints .u8 12 a.pockets, AV.int .u8 a.turn, AV.ints .i8 4 a.rooks, AV.int .i8 a.passing, AV.ints .u8 2 a.checks, AV.int .i64 a.half, AV.int .i64 a.full], [AV.u64 (N59 z1)], [AV.u64 z11], [AV.func 161 [] [AV.ptr 4 0]], [AV.cbool true], [AV.int .i64 b], [AV.int .i64 (wr .i64 z6)], [AV.func 161 [] [AV.ptr 4 0]], [AV.cbool false], [AV.int .i64 (N160 a b c).fst], [AV.int .i64 z12]] [] [LRec.mk 3 none 163 (an 5 (AV.ptr 6 0 :: AV.ptr 7 0 :: (an 3 (AV.func 209 [] [AV.ptr 8 0, AV.ptr 9 0] :: (an 5 []))))) [11] (rfA Pz 163 3) (rfB Pz 163 3), LRec.mk 0 none 163 (an 5 (AV.ptr 10 0 :: AV.ptr 11 0 :: (an 3 (AV.func 209 [] [AV.ptr 12 0, AV.ptr 13 0] :: (an 5 []))))) [11] (rfA Pz 163 3) (rfB Pz 163 3)] 0 0 0)); let z7 := ((lp111_2 a z2 z1 (N59 z1) z11 b (wr .i64 z6) (N160 a b c).fst z12 (if wr .i64 (N110 a.turn + z2.getD 1 0) < (N160 a b c).fst then wr .i64 (N110 a.turn + z2.getD 1 0) else (N160 a b c).fst)).getD default); let z8 := ((lp111_3 a z2 z1 (N59 z1) z11 b (wr .i64 z6) (N160 a b c).fst z12 b (wr .i64 z6) (if wr .i64 z6 < b then wr .i64 z6 else b)).getD default); let z13 := (isPS Pz 110 [AV.int .u8 a.turn] ((dI .i64).res (N110 a.turn))); let z14 := (bodL Pz 209 1); Tr.br (isPS Pz 160 [a.av, AV.int .i64 b, AV.int .i64 c] ((d2 (dI .i64) dB).res (N160 a b c))) (Tr.br (!(N160 a b c).snd) (Tr.ret (AV.tuple [AV.agg [AV.cint .i8 0, AV.cint .i8 0, AV.cint .u8 0, AV.cint .u8 0, AV.cbool false], AV.cbool false])) (Tr.br (decide (0 ≤ c) && decide (c < Int.ofNat 2)) (Tr.br z13 (Tr.br z13 (Tr.br (decide (0 ≤ b) && decide (b < Int.ofNat 64)) (Tr.br (decide (0 ≤ (N160 a b c).fst) && decide ((N160 a b c).fst < Int.ofNat 64)) (Tr.br (isPS Pz 59 [z1.av] (dU.res (N59 z1))) (Tr.br (isPS Pz 62 [a.av, AV.int .u8 (wr .u8 (1 - a.turn)), AV.int .u8 6] (dU.res z11)) (Tr.br (isL z10) (Tr.br (isLS Pz z14 z5 (O111_1 a z2 z1 (N59 z1) z11 b (wr .i64 z6) (Sum.inl (gl z10)))) (Tr.ret (AV.tuple [AV.agg z9, AV.cbool false])) Tr.fail) (Tr.br (isLS Pz z14 z5 (O111_1 a z2 z1 (N59 z1) z11 b (wr .i64 z6) (Sum.inr (gr z10)))) (Tr.br (isL z7) (Tr.br (isLS Pz z14 z4 (O111_2 a z2 z1 (N59 z1) z11 b (wr .i64 z6) (N160 a b c).fst z12 (Sum.inl (gl z7)))) (Tr.ret (AV.tuple [AV.agg z9, AV.cbool false])) Tr.fail) (Tr.br (isLS Pz z14 z4 (O111_2 a z2 z1 (N59 z1) z11 b (wr .i64 z6) (N160 a b c).fst z12 (Sum.inr (gr z7)))) (Tr.br (isL z8) (Tr.br (isLS Pz z14 z3 (O111_3 a z2 z1 (N59 z1) z11 b (wr .i64 z6) (N160 a b c).fst z12 b (wr .i64 z6) (Sum.inl (gl z8)))) (Tr.ret (AV.tuple [AV.agg z9, AV.bool false])) Tr.fail) (Tr.br (isLS Pz z14 z3 (O111_3 a z2 z1 (N59 z1) z11 b (wr .i64 z6) (N160 a b c).fst z12 b (wr .i64 z6) (Sum.inr (gr z8)))) (Tr.ret (AV.tuple [AV.agg z9, AV.cbool true])) Tr.fail)) Tr.fail)) Tr.fail)) Tr.fail) Tr.fail) Tr.fail) Tr.fail) Tr.fail) Tr.fail) Tr.fail)) Tr.fail) := by kernel_rfl
theorem P111 (a : Pos) (b : Int) (c : Int) (h : ok111 a b c = true) : PS Pz 111 [Pos.av a, .int .i64 b, .int .i64 c] ((d2 dMv dB).res (N111 a b c)) := ps_gotR hB111 (E111 a b c) (gr_call (P160 (a) (b) (c)) (gr_br (gr_ret rfl) (gr_guard (gr_callT (P110 (a.turn) rfl) (gr_callT (P110 (a.turn) rfl) (gr_guard (gr_guard (gr_call (P59 (Pos.mk a.variant ((a.board.set (scale 1 b).toNat 0).set (scale 1 (N160 a b c).fst).toNat 0) a.promoted a.pockets a.turn a.rooks a.passing a.checks a.half a.full)) (gr_call (P62 (a) (wr .u8 (1 - a.turn)) (6)) (gr_loop2 (fun h => L111_1 (a) (List.take 2 (List.drop (c.toNat * 2) (li [6, 5, 2, 3]))) (Pos.mk a.variant ((a.board.set (scale 1 b).toNat 0).set (scale 1 (N160 a b c).fst).toNat 0) a.promoted a.pockets a.turn a.rooks a.passing a.checks a.half a.full) (N59 (Pos.mk a.variant ((a.board.set (scale 1 b).toNat 0).set (scale 1 (N160 a b c).fst).toNat 0) a.promoted a.pockets a.turn a.rooks a.passing a.checks a.half a.full)) (N62 a (wr .u8 (1 - a.turn)) 6) (b) (wr .i64 (N110 a.turn + (List.take 2 (List.drop (c.toNat * 2) (li [6, 5, 2, 3]))).getD 0 0)) (if wr .i64 (N110 a.turn + (List.take 2 (List.drop (c.toNat * 2) (li [6, 5, 2, 3]))).getD 0 0) < b then wr .i64 (N110 a.turn + (List.take 2 (List.drop (c.toNat * 2) (li [6, 5, 2, 3]))).getD 0 0) else b) _ (some_getD h)) (wk_nrm (ks := (3 :: (rn 5 14 []))) (gs := [4]) (b := true) rfl (by kernel_rfl)) (gr_ret rfl) (gr_loop2 (fun h => L111_2 (a) (List.take 2 (List.drop (c.toNat * 2) (li [6, 5, 2, 3]))) (Pos.mk a.variant ((a.board.set (scale 1 b).toNat 0).set (scale 1 (N160 a b c).fst).toNat 0) a.promoted a.pockets a.turn a.rooks a.passing a.checks a.half a.full) (N59 (Pos.mk a.variant ((a.board.set (scale 1 b).toNat 0).set (scale 1 (N160 a b c).fst).toNat 0) a.promoted a.pockets a.turn a.rooks a.passing a.checks a.half a.full)) (N62 a (wr .u8 (1 - a.turn)) 6) (b) (wr .i64 (N110 a.turn + (List.take 2 (List.drop (c.toNat * 2) (li [6, 5, 2, 3]))).getD 0 0)) ((N160 a b c).fst) (wr .i64 (N110 a.turn + (List.take 2 (List.drop (c.toNat * 2) (li [6, 5, 2, 3]))).getD 1 0)) (if wr .i64 (N110 a.turn + (List.take 2 (List.drop (c.toNat * 2) (li [6, 5, 2, 3]))).getD 1 0) < (N160 a b c).fst then wr .i64 (N110 a.turn + (List.take 2 (List.drop (c.toNat * 2) (li [6, 5, 2, 3]))).getD 1 0) else (N160 a b c).fst) _ (some_getD h)) (wk_nrm (ks := (3 :: (rn 5 14 []))) (gs := [4]) (b := true) rfl (by kernel_rfl)) (gr_ret rfl) (gr_loop2 (fun h => L111_3 (a) (List.take 2 (List.drop (c.toNat * 2) (li [6, 5, 2, 3]))) (Pos.mk a.variant ((a.board.set (scale 1 b).toNat 0).set (scale 1 (N160 a b c).fst).toNat 0) a.promoted a.pockets a.turn a.rooks a.passing a.checks a.half a.full) (N59 (Pos.mk a.variant ((a.board.set (scale 1 b).toNat 0).set (scale 1 (N160 a b c).fst).toNat 0) a.promoted a.pockets a.turn a.rooks a.passing a.checks a.half a.full)) (N62 a (wr .u8 (1 - a.turn)) 6) (b) (wr .i64 (N110 a.turn + (List.take 2 (List.drop (c.toNat * 2) (li [6, 5, 2, 3]))).getD 0 0)) ((N160 a b c).fst) (wr .i64 (N110 a.turn + (List.take 2 (List.drop (c.toNat * 2) (li [6, 5, 2, 3]))).getD 1 0)) (b) (wr .i64 (N110 a.turn + (List.take 2 (List.drop (c.toNat * 2) (li [6, 5, 2, 3]))).getD 0 0)) (if wr .i64 (N110 a.turn + (List.take 2 (List.drop (c.toNat * 2) (li [6, 5, 2, 3]))).getD 0 0) < b then wr .i64 (N110 a.turn + (List.take 2 (List.drop (c.toNat * 2) (li [6, 5, 2, 3]))).getD 0 0) else b) _ (some_getD h)) (wk_nrm (ks := (3 :: (rn 5 14 []))) (gs := [4]) (b := true) rfl (by kernel_rfl)) (gr_ret rfl) (gr_ret rfl))))))))))))) h
noncomputable def G111 : List AV → Tr AV := g3 dPos (dI .i64) (dI .i64) (fun a b c => sure Pz 111 [Pos.av a, .int .i64 b, .int .i64 c] ((d2 dMv dB).res (N111 a b c)))
theorem s111 : Sound Pz 111 G111 := sound3 (fun _ _ _ => at_sure)
end Kz
end
section
namespace Kz
open Go Go.RowKit Go.Proofs
set_option maxRecDepth 100000
set_option maxHeartbeats 4000000
noncomputable def K55 : List (Nat × List (Nat × List Nat)) := [(55, [(0, (0 :: (rn 2 11 (rn 17 8 (rn 32 21 []))))), (1, (0 :: (rn 2 15 (rn 18 7 (rn 32 21 []))))), (2, (0 :: 1 :: (rn 3 50 []))), (3, (0 :: 2 :: (rn 4 21 (rn 32 21 [])))), (4, (0 :: 2 :: (rn 4 28 (rn 33 20 [])))), (5, (0 :: 1 :: (rn 3 50 []))), (6, (0 :: 2 :: (rn 5 48 []))), (7, (0 :: 2 :: (rn 5 28 (rn 36 17 [])))), (8, (0 :: 2 :: (rn 5 28 (rn 37 16 [])))), (9, (0 :: 2 :: 5 :: (rn 7 26 (rn 36 17 [])))), (10, (0 :: 2 :: 5 :: 6 :: (rn 9 24 (rn 36 17 [])))), (11, (0 :: 2 :: 5 :: 6 :: (rn 8 25 (rn 36 10 (rn 47 6 []))))), (12, (0 :: 2 :: (rn 5 28 (rn 36 17 [])))), (13, (0 :: 2 :: (rn 5 28 (rn 36 17 [])))), (14, (0 :: 1 :: (rn 3 50 [])))])]
noncomputable def B55 : Base := baseOf Pz (fun f i => lkK f i K55) [(101, G101), (109, G109), (110, G110), (111, G111)] [] []
theorem hB55 : BOk B55 := base_ok named_z ⟨s101, s109, s110, s111, trivial⟩ trivial trivial
noncomputable def N55 (a : Pos) : List Mv := (bif decide (a.turn > 1) then ([]) else (bif !N109 a.variant then ([]) else (bif decide (N101 a a.turn 6 < 0) then ([]) else (bif wr .i64 ((N101 a a.turn 6).tdiv 8) != wr .i64 ((N110 a.turn).tdiv 8) then ([]) else (bif (N111 a (N101 a a.turn 6) 1).snd then (bif (N111 a (N101 a a.turn 6) 0).snd then ([] ++ [(N111 a (N101 a a.turn 6) 1).fst] ++ [(N111 a (N101 a a.turn 6) 0).fst]) else ([] ++ [(N111 a (N101 a a.turn 6) 1).fst])) else (bif (N111 a (N101 a a.turn 6) 0).snd then ([] ++ [(N111 a (N101 a a.turn 6) 0).fst]) else ([])))))))
noncomputable def ok55 (a : Pos) : Bool := (bif decide (a.turn > 1) then true else (ok109 (a.variant) && (bif !N109 a.variant then true else (ok101 (a) (a.turn) (6) && (bif decide (N101 a a.turn 6 < 0) then true else (bif wr .i64 ((N101 a a.turn 6).tdiv 8) != wr .i64 ((N110 a.turn).tdiv 8) then true else (ok111 (a) (N101 a a.turn 6) (1) && (bif (N111 a (N101 a a.turn 6) 1).snd then (0 == 0 && decide (1 ≤ 1073741824) && (ok111 (a) (N101 a a.turn 6) (0) && (bif (N111 a (N101 a a.turn 6) 0).snd then (1 == 1 && decide (2 ≤ 1073741824) && true) else true))) else (ok111 (a) (N101 a a.turn 6) (0) && (bif (N111 a (N101 a a.turn 6) 0).snd then (0 == 0 && decide (1 ≤ 1073741824) && true) else true))))))))))
theorem E55 (a : Pos) : evPure B55 14 55 [Pos.av a] = (let z1 := (N101 a a.turn 6); let z2 := (Tr.ret (AV.list ET.mv [] Tk.fresh)); let z3 := (isPS Pz 111 [a.av, AV.int .i64 z1, AV.int .i64 0] ((d2 dMv dB).res (N111 a z1 0))); Tr.br (decide (a.turn > 1)) z2 (Tr.br (isPS Pz 109 [AV.int .u8 a.variant] (dB.res (N109 a.variant))) (Tr.br (!N109 a.variant) z2 (Tr.br (isPS Pz 101 [a.av, AV.int .u8 a.turn, AV.int .u8 6] ((dI .i64).res z1)) (Tr.br (decide (N101 a a.turn 6 < 0)) z2 (Tr.br (isPS Pz 110 [AV.int .u8 a.turn] ((dI .i64).res (N110 a.turn))) (Tr.br (wr .i64 (z1.tdiv 8) != wr .i64 ((N110 a.turn).tdiv 8)) z2 (Tr.br (isPS Pz 111 [a.av, AV.int .i64 z1, AV.int .i64 1] ((d2 dMv dB).res (N111 a z1 1))) (Tr.br (N111 a z1 1).snd (Tr.br (0 == 0 && decide (1 ≤ 1073741824)) (Tr.br z3 (Tr.br (N111 a z1 0).snd (Tr.br (1 == 1 && decide (2 ≤ 1073741824)) (Tr.ret (AV.list ET.mv ([] ++ [(N111 a z1 1).fst] ++ [(N111 a z1 0).fst]) Tk.fresh)) Tr.fail) (Tr.ret (AV.list ET.mv ([] ++ [(N111 a z1 1).fst]) Tk.fresh))) Tr.fail) Tr.fail) (Tr.br z3 (Tr.br (N111 a z1 0).snd (Tr.br (0 == 0 && decide (1 ≤ 1073741824)) (Tr.ret (AV.list ET.mv ([] ++ [(N111 a z1 0).fst]) Tk.fresh)) Tr.fail) z2) Tr.fail)) Tr.fail)) Tr.fail)) Tr.fail)) Tr.fail)) := by kernel_rfl
theorem P55 (a : Pos) (h : ok55 a = true) : PS Pz 55 [Pos.av a] ((dL .mv).res (N55 a)) := ps_gotR hB55 (E55 a) (gr_br (gr_ret rfl) (gr_call (P109 (a.variant)) (gr_br (gr_ret rfl) (gr_call (P101 (a) (a.turn) (6)) (gr_br (gr_ret rfl) (gr_callT (P110 (a.turn) rfl) (gr_br (gr_ret rfl) (gr_call (P111 (a) (N101 a a.turn 6) (1)) (gr_br (gr_guard (gr_call (P111 (a) (N101 a a.turn 6) (0)) (gr_br (gr_guard (gr_ret rfl)) (gr_ret rfl)))) (gr_call (P111 (a) (N101 a a.turn 6) (0)) (gr_br (gr_guard (gr_ret rfl)) (gr_ret rfl)))))))))))) h
noncomputable def G55 : List AV → Tr AV := g1 dPos (fun a => sure Pz 55 [Pos.av a] ((dL .mv).res (N55 a)))
theorem s55 : Sound Pz 55 G55 := sound1 (fun _ => at_sure)
end Kz
end
section
namespace Kz
open Go Go.RowKit Go.Proofs
set_option maxRecDepth 100000
set_option maxHeartbeats 4000000
noncomputable def K112 : List (Nat × List (Nat × List Nat)) := [(50, [(0, (1 :: (rn 3 6 []))), (1, (1 :: 3 :: (rn 5 4 []))), (2, (0 :: 1 :: (rn 3 6 []))), (3, (0 :: 1 :: (rn 3 6 [])))]), (104, [(0, (rn 1 21 [])), (1, (rn 2 20 [])), (2, (rn 1 21 []))]), (112, [(0, [1, 2, 3, 4, 5]), (1, [0, 1, 3, 4, 5])])]
noncomputable def B112 : Base := baseOf Pz (fun f i => lkK f i K112) [] [] []
theorem hB112 : BOk B112 := base_ok named_z trivial trivial trivial
noncomputable def N112 (a : Int) : Bool := (bif decide (a ≥ 9) then (false) else (bif a == ↑0 then (false) else (bif a == ↑1 then (false) else (bif a == ↑2 then (true) else (bif a == ↑3 then (false) else (bif a == ↑4 then (false) else (bif a == ↑5 then (false) else (bif a == ↑6 then (false) else (bif a == ↑7 then (false) else (false))))))))))
noncomputable def ok112 (a : Int) : Bool := (bif decide (a ≥ 9) then true else (decide (0 ≤ a) && decide (a < ↑9) && (bif a == ↑0 then true else (bif a == ↑1 then true else (bif a == ↑2 then true else (bif a == ↑3 then true else (bif a == ↑4 then true else (bif a == ↑5 then true else (bif a == ↑6 then true else (bif a == ↑7 then true else (a == ↑8 && true)))))))))))
theorem E112 (a : Int) : evPure B112 14 112 [.int .u8 a] = Tr.br (decide (a ≥ 9)) (Tr.ret (AV.cbool false)) (Tr.br (decide (0 ≤ a) && decide (a < ↑9)) (Tr.br (a == ↑0) (Tr.ret (AV.cbool false)) (Tr.br (a == ↑1) (Tr.ret (AV.cbool false)) (Tr.br (a == ↑2) (Tr.ret (AV.cbool true)) (Tr.br (a == ↑3) (Tr.ret (AV.cbool false)) (Tr.br (a == ↑4) (Tr.ret (AV.cbool false)) (Tr.br (a == ↑5) (Tr.ret (AV.cbool false)) (Tr.br (a == ↑6) (Tr.ret (AV.cbool false)) (Tr.br (a == ↑7) (Tr.ret (AV.cbool false)) (Tr.br (a == ↑8) (Tr.ret (AV.cbool false)) Tr.fail))))))))) Tr.fail) := by kernel_rfl
theorem P112 (a : Int) (h : ok112 a = true) : PS Pz 112 [.int .u8 a] (dB.res (N112 a)) := ps_gotR hB112 (E112 a) (gr_br (gr_ret rfl) (gr_guard (gr_br (gr_ret rfl) (gr_br (gr_ret rfl) (gr_br (gr_ret rfl) (gr_br (gr_ret rfl) (gr_br (gr_ret rfl) (gr_br (gr_ret rfl) (gr_br (gr_ret rfl) (gr_br (gr_ret rfl) (gr_guard (gr_ret rfl)))))))))))) h
noncomputable def G112 : List AV → Tr AV := g1 (dI .u8) (fun a => sure Pz 112 [.int .u8 a] (dB.res (N112 a)))
theorem s112 : Sound Pz 112 G112 := sound1 (fun _ => at_sure)
end Kz
end
section
namespace Kz
open Go Go.RowKit Go.Proofs
set_option maxRecDepth 100000
set_option maxHeartbeats 4000000
noncomputable def K56 : List (Nat × List (Nat × List Nat)) := [(56, [(0, (0 :: (rn 2 11 (rn 17 41 [])))), (1, (0 :: (rn 2 15 (rn 18 40 [])))), (2, (0 :: 1 :: (rn 3 55 []))), (3, (0 :: 2 :: (rn 4 54 []))), (4, (0 :: 2 :: (rn 4 14 (rn 19 39 [])))), (5, (0 :: 2 :: (rn 4 14 (rn 20 38 [])))), (6, (0 :: 2 :: (rn 5 13 (rn 19 39 [])))), (7, (0 :: 2 :: 4 :: (rn 6 12 (rn 19 39 [])))), (8, (0 :: 2 :: 4 :: (rn 6 12 (rn 19 12 (rn 32 26 []))))), (9, (0 :: 2 :: 4 :: (rn 7 11 (rn 19 39 [])))), (10, (0 :: 2 :: 4 :: (rn 7 11 (rn 19 17 (rn 37 21 []))))), (11, (0 :: 2 :: 4 :: (rn 7 11 (rn 19 39 [])))), (12, (0 :: 2 :: 4 :: (rn 6 12 (rn 19 21 (rn 43 15 []))))), (13, (0 :: 2 :: 4 :: (rn 6 12 (rn 19 21 (rn 44 14 []))))), (14, (0 :: 2 :: 4 :: 6 :: 7 :: (rn 9 9 (rn 19 21 (rn 43 15 []))))), (15, (0 :: 2 :: 4 :: (rn 6 12 (rn 19 21 (rn 43 15 []))))), (16, (0 :: 2 :: 4 :: (rn 6 12 (rn 19 21 (rn 43 15 []))))), (17, (0 :: 2 :: (rn 4 14 (rn 19 39 [])))), (18, (0 :: 1 :: (rn 3 55 [])))])]
noncomputable def B56_2 : Base := baseOf Pz (fun f i => lkK f i K56) [(59, G59), (98, G98), (112, G112)] [] []
theorem hB56_2 : BOk B56_2 := base_ok named_z ⟨s59, s98, s112, trivial⟩ trivial trivial
noncomputable def S56_2 (p1 : Int) (p2 : Int) (p3 : (List Int)) (p4 : Int) (p5 : Pos) (p6 : Nat) (x : ((List Mv) × Int)) : St := St.mk (AV.any :: AV.ptr 0 0 :: AV.any :: AV.list ET.mv x.fst (Tk.own 1) :: AV.any :: AV.int .u8 p1 :: (an 12 (AV.int .i64 p2 :: (an 21 (AV.list (ET.i .i64) p3 Tk.fresh :: AV.int .i64 p4 :: AV.int .i64 x.snd :: (an 15 [])))))) (Hp.mk [(pc p5 [])] [p6, x.fst.length] [] 0 0 0)
noncomputable def O56_2 (p1 : Int) (p2 : Int) (p3 : (List Int)) (p4 : Int) (p5 : Pos) (p6 : Nat) : ((List Mv) × Int × Bool) → Out := fun y => .exit 2 (St.mk (AV.any :: AV.ptr 0 0 :: AV.any :: AV.list ET.mv y.fst (Tk.own 1) :: AV.any :: AV.int .u8 p1 :: (an 12 (AV.int .i64 p2 :: (an 21 (AV.list (ET.i .i64) p3 Tk.fresh :: AV.int .i64 p4 :: AV.int .i64 y.snd.fst :: AV.bool y.snd.snd :: (an 14 [])))))) (Hp.mk [(pc p5 [])] [p6, y.fst.length] [] 0 0 0))
noncomputable def st56_2 (p1 : Int) (p2 : Int) (p3 : (List Int)) (p4 : Int) (p5 : Pos) (p6 : Nat) (x : ((List Mv) × Int)) : Stp ((List Mv) × Int) (((List Mv) × Int × Bool)) := (bif decide (x.snd < p4) then (Stp.go (x.fst ++ [Mv.mk (wr .i8 (p3.getD x.snd.toNat default)) (wr .i8 (p3.getD x.snd.toNat default)) 0 p1 false], wr .i64 (x.snd + 1))) else (Stp.out ((x.fst, x.snd, decide (x.snd < p4)))))
noncomputable def okL56_2 (p1 : Int) (p2 : Int) (p3 : (List Int)) (p4 : Int) (p5 : Pos) (p6 : Nat) (x : ((List Mv) × Int)) : Bool := (bif decide (x.snd < p4) then (decide (0 ≤ x.snd) && decide (x.snd < Int.ofNat p3.length) && (x.fst.length == x.fst.length && decide (x.fst.length + 1 ≤ 1073741824) && true)) else true)
noncomputable def lp56_2 (p1 : Int) (p2 : Int) (p3 : (List Int)) (p4 : Int) (p5 : Pos) (p6 : Nat) (x : ((List Mv) × Int)) : Option (((List Mv) × Int × Bool)) := itl (fun x => bif okL56_2 p1 p2 p3 p4 p5 p6 x then st56_2 p1 p2 p3 p4 p5 p6 x else .bad) many x
theorem E56_2 (p1 : Int) (p2 : Int) (p3 : (List Int)) (p4 : Int) (p5 : Pos) (p6 : Nat) (x : ((List Mv) × Int)) : evCd B56_2 12 56 (bodL Pz 56 13) (S56_2 p1 p2 p3 p4 p5 p6 x) = Tr.br (decide (x.snd < p4)) (Tr.br (decide (0 ≤ x.snd) && decide (x.snd < Int.ofNat p3.length)) (Tr.br (x.fst.length == x.fst.length && decide (x.fst.length + 1 ≤ 1073741824)) (Tr.ret (Out.norm (St.mk (AV.any :: AV.ptr 0 0 :: AV.any :: AV.list ET.mv (x.fst ++ [Mv.mk (wr .i8 (p3.getD x.snd.toNat default)) (wr .i8 (p3.getD x.snd.toNat default)) 0 p1 false]) (Tk.own 1) :: AV.any :: AV.int .u8 p1 :: (an 12 (AV.int .i64 p2 :: (an 21 (AV.list (ET.i .i64) p3 Tk.fresh :: AV.int .i64 p4 :: AV.int .i64 (wr .i64 (x.snd + 1)) :: (an 15 [])))))) (Hp.mk [(pc p5 [])] [p6, (x.fst ++ [Mv.mk (wr .i8 (p3.getD x.snd.toNat default)) (wr .i8 (p3.getD x.snd.toNat default)) 0 p1 false]).length] [] 0 0 0)))) Tr.fail) Tr.fail) (Tr.ret (Out.exit 2 (St.mk (AV.any :: AV.ptr 0 0 :: AV.any :: AV.list ET.mv x.fst (Tk.own 1) :: AV.any :: AV.int .u8 p1 :: (an 12 (AV.int .i64 p2 :: (an 21 (AV.list (ET.i .i64) p3 Tk.fresh :: AV.int .i64 p4 :: AV.int .i64 x.snd :: AV.bool (decide (x.snd < p4)) :: (an 14 [])))))) (Hp.mk [(pc p5 [])] [p6, x.fst.length] [] 0 0 0)))) := by kernel_rfl
theorem L56_2 (p1 : Int) (p2 : Int) (p3 : (List Int)) (p4 : Int) (p5 : Pos) (p6 : Nat) (x : ((List Mv) × Int)) (r : ((List Mv) × Int × Bool)) (h : lp56_2 p1 p2 p3 p4 p5 p6 x = some r) : LSpec Pz (bodL Pz 56 13) (S56_2 p1 p2 p3 p4 p5 p6 x) (O56_2 p1 p2 p3 p4 p5 p6 r) := LSpec.itd (S := S56_2 p1 p2 p3 p4 p5 p6) (O := O56_2 p1 p2 p3 p4 p5 p6) (ok := okL56_2 p1 p2 p3 p4 p5 p6) (st := st56_2 p1 p2 p3 p4 p5 p6) hB56_2 (fun x => gr_eq (E56_2 p1 p2 p3 p4 p5 p6 x) (gr_br (gr_guard (gr_guard (gr_ret (rl_go (wk_nrm (ks := (0 :: 2 :: 4 :: (rn 6 12 (rn 19 21 (rn 43 15 []))))) (gs := [3, 5, 18, 40, 41, 42]) (b := true) rfl (by kernel_rfl)))))) (gr_ret (rl_exit rfl (wk_nrm (ks := (0 :: 2 :: 4 :: (rn 6 12 (rn 19 21 (rn 44 14 []))))) (gs := [3, 5, 18, 40, 41, 42, 43]) (b := true) rfl (by kernel_rfl)))))) many x r h
noncomputable def F56_2 : Code → St → Tr Out := sureL Pz (fun s => O56_2 (tI (tT s 5)) (tI (tT s 18)) (tL (ET.i .i64) (tT s 40)) (tI (tT s 41)) (Kz.Pos.mk (tI (tH s 0 0)) (tN (tH s 0 1)) (tU (tH s 0 2)) (tN (tH s 0 3)) (tI (tH s 0 4)) (tN (tH s 0 5)) (tI (tH s 0 6)) (tN (tH s 0 7)) (tI (tH s 0 8)) (tI (tH s 0 9))) (tK s 0) ((lp56_2 (tI (tT s 5)) (tI (tT s 18)) (tL (ET.i .i64) (tT s 40)) (tI (tT s 41)) (Kz.Pos.mk (tI (tH s 0 0)) (tN (tH s 0 1)) (tU (tH s 0 2)) (tN (tH s 0 3)) (tI (tH s 0 4)) (tN (tH s 0 5)) (tI (tH s 0 6)) (tN (tH s 0 7)) (tI (tH s 0 8)) (tI (tH s 0 9))) (tK s 0) ((tL (ET.mv) (tT s 3)), (tI (tT s 42)))).getD default))
theorem sF56_2 : ∀ b, LSound Pz b (F56_2 b) := sureL_sound
noncomputable def B56_3 : Base := baseOf Pz (fun f i => lkK f i K56) [(59, G59), (98, G98), (112, G112)] [(56, 13, F56_2)] []
theorem hB56_3 : BOk B56_3 := base_ok named_z ⟨s59, s98, s112, trivial⟩ ⟨sF56_2, trivial⟩ trivial
noncomputable def S56_3 (p1 : Pos) (p2 : Nat) (x : ((List Mv) × Int)) : St := St.mk (AV.any :: AV.ptr 0 0 :: AV.any :: AV.list ET.mv x.fst (Tk.own 1) :: (an 14 (AV.int .i64 x.snd :: (an 39 [])))) (Hp.mk [(pc p1 [])] [p2, x.fst.length] [] 0 0 0)
noncomputable def O56_3 (p1 : Pos) (p2 : Nat) : ((List Mv) × Int × Bool) → Out := fun y => .exit 0 (St.mk (AV.any :: AV.ptr 0 0 :: AV.any :: AV.list ET.mv y.fst (Tk.own 1) :: (an 14 (AV.int .i64 y.snd.fst :: AV.bool y.snd.snd :: (an 38 [])))) (Hp.mk [(pc p1 [])] [p2, y.fst.length] [] 0 0 0))
noncomputable def st56_3 (p1 : Pos) (p2 : Nat) (x : ((List Mv) × Int)) : Stp ((List Mv) × Int) (((List Mv) × Int × Bool)) := (bif decide (x.snd < 5) then (bif p1.pockets.getD (scale 6 p1.turn + scale 1 (wr .u8 (wr .i64 (x.snd + 1)))).toNat 0 == 0 then (Stp.go (x.fst, wr .i64 (x.snd + 1))) else (bif wr .u8 (wr .i64 (x.snd + 1)) == 1 then (Stp.go (((lp56_2 (wr .u8 (wr .i64 (x.snd + 1))) x.snd (N98 (~~~N59 p1 &&& 72057594037927680#64)) (Int.ofNat (N98 (~~~N59 p1 &&& 72057594037927680#64)).length) p1 p2 (x.fst, 0)).getD default).fst, wr .i64 (x.snd + 1))) else (Stp.go (((lp56_2 (wr .u8 (wr .i64 (x.snd + 1))) x.snd (N98 (~~~N59 p1)) (Int.ofNat (N98 (~~~N59 p1)).length) p1 p2 (x.fst, 0)).getD default).fst, wr .i64 (x.snd + 1))))) else (Stp.out ((x.fst, x.snd, decide (x.snd < 5)))))
noncomputable def okL56_3 (p1 : Pos) (p2 : Nat) (x : ((List Mv) × Int)) : Bool := (bif decide (x.snd < 5) then (decide (0 ≤ p1.turn) && decide (p1.turn < Int.ofNat 2) && (decide (0 ≤ wr .u8 (wr .i64 (x.snd + 1))) && decide (wr .u8 (wr .i64 (x.snd + 1)) < Int.ofNat 6) && (bif p1.pockets.getD (scale 6 p1.turn + scale 1 (wr .u8 (wr .i64 (x.snd + 1)))).toNat 0 == 0 then true else (ok59 (p1) && (bif wr .u8 (wr .i64 (x.snd + 1)) == 1 then (ok98 (~~~N59 p1 &&& 72057594037927680#64) && ((lp56_2 (wr .u8 (wr .i64 (x.snd + 1))) x.snd (N98 (~~~N59 p1 &&& 72057594037927680#64)) (Int.ofNat (N98 (~~~N59 p1 &&& 72057594037927680#64)).length) p1 p2 (x.fst, 0)).isSome && true)) else (ok98 (~~~N59 p1) && ((lp56_2 (wr .u8 (wr .i64 (x.snd + 1))) x.snd (N98 (~~~N59 p1)) (Int.ofNat (N98 (~~~N59 p1)).length) p1 p2 (x.fst, 0)).isSome && true))))))) else true)
noncomputable def lp56_3 (p1 : Pos) (p2 : Nat) (x : ((List Mv) × Int)) : Option (((List Mv) × Int × Bool)) := itl (fun x => bif okL56_3 p1 p2 x then st56_3 p1 p2 x else .bad) many x
theorem E56_3 (p1 : Pos) (p2 : Nat) (x : ((List Mv) × Int)) : evCd B56_3 12 56 (bodL Pz 56 5) (S56_3 p1 p2 x) = (let z1 := (N98 (~~~N59 p1 &&& 72057594037927680#64)); let z2 := (wr .i64 (x.snd + 1)); let z4 := ((lp56_2 (wr .u8 z2) x.snd z1 (Int.ofNat z1.length) p1 p2 (x.fst, 0)).getD default); let z5 := (Hp.mk [(pc p1 [])] [p2, x.fst.length] [] 0 0 0); let z6 := (an 14 (AV.int .i64 z2 :: (an 39 []))); let z7 := (N98 (~~~N59 p1)); let z3 := ((lp56_2 (wr .u8 z2) x.snd z7 (Int.ofNat z7.length) p1 p2 (x.fst, 0)).getD default); Tr.br (decide (x.snd < 5)) (Tr.br (decide (0 ≤ p1.turn) && decide (p1.turn < Int.ofNat 2)) (Tr.br (decide (0 ≤ wr .u8 z2) && decide (wr .u8 z2 < Int.ofNat 6)) (Tr.br (p1.pockets.getD (scale 6 p1.turn + scale 1 (wr .u8 z2)).toNat 0 == 0) (Tr.ret (Out.norm (St.mk (AV.any :: AV.ptr 0 0 :: AV.any :: AV.list ET.mv x.fst (Tk.own 1) :: z6) z5))) (Tr.br (isPS Pz 59 [p1.av] (dU.res (N59 p1))) (Tr.br (wr .u8 z2 == 1) (Tr.br (isPS Pz 98 [AV.u64 (~~~N59 p1 &&& 72057594037927680#64)] ((dL (ET.i .i64)).res z1)) (Tr.br (isLS Pz (bodL Pz 56 13) (St.mk (AV.any :: AV.ptr 0 0 :: AV.any :: AV.list ET.mv x.fst (Tk.own 1) :: AV.any :: AV.int .u8 (wr .u8 z2) :: (an 12 (AV.int .i64 x.snd :: (an 21 ((AV.list (ET.i .i64) z1 Tk.fresh) :: (AV.int .i64 (Int.ofNat z1.length)) :: AV.cint .i64 0 :: (an 15 [])))))) z5) (O56_2 (wr .u8 z2) x.snd z1 (Int.ofNat z1.length) p1 p2 z4)) (Tr.ret (Out.norm (St.mk (AV.any :: AV.ptr 0 0 :: AV.any :: (AV.list ET.mv z4.fst (Tk.own 1)) :: z6) (Hp.mk [(pc p1 [])] [p2, z4.fst.length] [] 0 0 0)))) Tr.fail) Tr.fail) (Tr.br (isPS Pz 98 [AV.u64 (~~~N59 p1)] ((dL (ET.i .i64)).res z7)) (Tr.br (isLS Pz (bodL Pz 56 13) (St.mk (AV.any :: AV.ptr 0 0 :: AV.any :: AV.list ET.mv x.fst (Tk.own 1) :: AV.any :: AV.int .u8 (wr .u8 z2) :: (an 12 (AV.int .i64 x.snd :: (an 21 ((AV.list (ET.i .i64) z7 Tk.fresh) :: (AV.int .i64 (Int.ofNat z7.length)) :: AV.cint .i64 0 :: (an 15 [])))))) z5) (O56_2 (wr .u8 z2) x.snd z7 (Int.ofNat z7.length) p1 p2 z3)) (Tr.ret (Out.norm (St.mk (AV.any :: AV.ptr 0 0 :: AV.any :: (AV.list ET.mv z3.fst (Tk.own 1)) :: z6) (Hp.mk [(pc p1 [])] [p2, z3.fst.length] [] 0 0 0)))) Tr.fail) Tr.fail)) Tr.fail)) Tr.fail) Tr.fail) (Tr.ret (Out.exit 0 (St.mk (AV.any :: AV.ptr 0 0 :: AV.any :: AV.list ET.mv x.fst (Tk.own 1) :: (an 14 (AV.int .i64 x.snd :: AV.bool (decide (x.snd < 5)) :: (an 38 [])))) z5)))) := by kernel_rfl
theorem L56_3 (p1 : Pos) (p2 : Nat) (x : ((List Mv) × Int)) (r : ((List Mv) × Int × Bool)) (h : lp56_3 p1 p2 x = some r) : LSpec Pz (bodL Pz 56 5) (S56_3 p1 p2 x) (O56_3 p1 p2 r) := LSpec.itd (S := S56_3 p1 p2) (O := O56_3 p1 p2) (ok := okL56_3 p1 p2) (st := st56_3 p1 p2) hB56_3 (fun x => gr_eq (E56_3 p1 p2 x) (gr_br (gr_guard (gr_guard (gr_br (gr_ret (rl_go (wk_nrm (ks := (0 :: 2 :: (rn 4 14 (rn 19 39 [])))) (gs := [3, 18]) (b := true) rfl (by kernel_rfl)))) (gr_call (P59 (p1)) (gr_br (gr_call (P98 (~~~N59 p1 &&& 72057594037927680#64)) (gr_loop (fun h => L56_2 (wr .u8 (wr .i64 (x.snd + 1))) (x.snd) (N98 (~~~N59 p1 &&& 72057594037927680#64)) (Int.ofNat (N98 (~~~N59 p1 &&& 72057594037927680#64)).length) (p1) (p2) ((x.fst, 0)) _ (some_getD h)) (wk_nrm (ks := (0 :: 2 :: 4 :: (rn 6 12 (rn 19 21 (rn 43 15 []))))) (gs := [3, 5, 18, 40, 41, 42]) (b := true) rfl (by kernel_rfl)) (gr_ret (rl_go (wk_nrm (ks := (0 :: 2 :: (rn 4 14 (rn 19 39 [])))) (gs := [3, 18]) (b := true) rfl (by kernel_rfl)))))) (gr_call (P98 (~~~N59 p1)) (gr_loop (fun h => L56_2 (wr .u8 (wr .i64 (x.snd + 1))) (x.snd) (N98 (~~~N59 p1)) (Int.ofNat (N98 (~~~N59 p1)).length) (p1) (p2) ((x.fst, 0)) _ (some_getD h)) (wk_nrm (ks := (0 :: 2 :: 4 :: (rn 6 12 (rn 19 21 (rn 43 15 []))))) (gs := [3, 5, 18, 40, 41, 42]) (b := true) rfl (by kernel_rfl)) (gr_ret (rl_go (wk_nrm (ks := (0 :: 2 :: (rn 4 14 (rn 19 39 [])))) (gs := [3, 18]) (b := true) rfl (by kernel_rfl))))))))))) (gr_ret (rl_exit rfl (wk_nrm (ks := (0 :: 2 :: (rn 4 14 (rn 20 38 [])))) (gs := [3, 18, 19]) (b := true) rfl (by kernel_rfl)))))) many x r h
noncomputable def F56_3 : Code → St → Tr Out := sureL Pz (fun s => O56_3 (Kz.Pos.mk (tI (tH s 0 0)) (tN (tH s 0 1)) (tU (tH s 0 2)) (tN (tH s 0 3)) (tI (tH s 0 4)) (tN (tH s 0 5)) (tI (tH s 0 6)) (tN (tH s 0 7)) (tI (tH s 0 8)) (tI (tH s 0 9))) (tK s 0) ((lp56_3 (Kz.Pos.mk (tI (tH s 0 0)) (tN (tH s 0 1)) (tU (tH s 0 2)) (tN (tH s 0 3)) (tI (tH s 0 4)) (tN (tH s 0 5)) (tI (tH s 0 6)) (tN (tH s 0 7)) (tI (tH s 0 8)) (tI (tH s 0 9))) (tK s 0) ((tL (ET.mv) (tT s 3)), (tI (tT s 18)))).getD default))
theorem sF56_3 : ∀ b, LSound Pz b (F56_3 b) := sureL_sound
noncomputable def B56 : Base := baseOf Pz (fun f i => lkK f i K56) [(59, G59), (98, G98), (112, G112)] [(56, 13, F56_2), (56, 5, F56_3)] []
theorem hB56 : BOk B56 := base_ok named_z ⟨s59, s98, s112, trivial⟩ ⟨sF56_2, sF56_3, trivial⟩ trivial
noncomputable def N56 (a : Pos) : List Mv := (bif decide (a.turn > 1) then ([]) else (bif !N112 a.variant then ([]) else (((lp56_3 a 0 ([], 0)).getD default).fst)))
noncomputable def ok56 (a : Pos) : Bool := (bif decide (a.turn > 1) then true else (ok112 (a.variant) && (bif !N112 a.variant then true else ((lp56_3 a 0 ([], 0)).isSome && true))))
theorem E56 (a : Pos) : evPure B56 14 56 [Pos.av a] = Tr.br (decide (a.turn > 1)) (Tr.ret (AV.list ET.mv [] Tk.fresh)) (Tr.br (isPS Pz 112 [AV.int .u8 a.variant] (dB.res (N112 a.variant))) (Tr.br (!N112 a.variant) (Tr.ret (AV.list ET.mv [] Tk.fresh)) (Tr.br (isLS Pz (bodL Pz 56 5) (St.mk (AV.any :: AV.ptr 0 0 :: AV.any :: AV.list ET.mv [] (Tk.own 1) :: (an 14 (AV.cint .i64 0 :: (an 39 [])))) (Hp.mk [(pc a [])] [0, 0] [] 0 0 0)) (O56_3 a 0 ((lp56_3 a 0 ([], 0)).getD default))) (Tr.ret (AV.list ET.mv ((lp56_3 a 0 ([], 0)).getD default).fst Tk.fresh)) Tr.fail)) Tr.fail) := by kernel_rfl
theorem P56 (a : Pos) (h : ok56 a = true) : PS Pz 56 [Pos.av a] ((dL .mv).res (N56 a)) := ps_gotR hB56 (E56 a) (gr_br (gr_ret rfl) (gr_call (P112 (a.variant)) (gr_br (gr_ret rfl) (gr_loop (fun h => L56_3 (a) (0) (([], 0)) _ (some_getD h)) (wk_nrm (ks := (0 :: 2 :: (rn 4 14 (rn 19 39 [])))) (gs := [3, 18]) (b := true) rfl (by kernel_rfl)) (gr_ret rfl))))) h
noncomputable def G56 : List AV → Tr AV := g1 dPos (fun a => sure Pz 56 [Pos.av a] ((dL .mv).res (N56 a)))
theorem s56 : Sound Pz 56 G56 := sound1 (fun _ => at_sure)
end Kz
end
section
namespace Go.Proofs
open Go.Shelf
def Tryz.grow_ren : Go.Shelf.Ren := ⟨fun | 4 => 107 | n => n, fun | 22 => 33 | 25 => 40 | 3 => 3 | 4 => 4 | 9 => 9 | 20 => 20 | 0 => 0 | n => n, fun | n => n⟩
theorem Tryz.grow : Go.Proofs.Lays8.n4 Tryz.prog Tryz.grow_ren := {
  mixed := by kernel_rfl
  f4 := ⟨Tryz.f107.name, by decide, Tryz.func107.trans (congrArg some (by kernel_rfl))⟩
  t0 := Tryz.underlying0
  a0 := Tryz.isAgg0
  z0 := Tryz.sizeOf0
  v0 := Tryz.zeroValue0
  t3 := Tryz.underlying3
  a3 := Tryz.isAgg3
  z3 := Tryz.sizeOf3
  v3 := Tryz.zeroValue3
  t4 := Tryz.underlying4
  a4 := Tryz.isAgg4
  z4 := Tryz.sizeOf4
  v4 := Tryz.zeroValue4
  t9 := Tryz.underlying9
  a9 := Tryz.isAgg9
  z9 := Tryz.sizeOf9
  v9 := Tryz.zeroValue9
  t20 := Tryz.underlying20
  a20 := Tryz.isAgg20
  z20 := Tryz.sizeOf20
  v20 := Tryz.zeroValue20
  t22 := Tryz.underlying33
  a22 := Tryz.isAgg33
  z22 := Tryz.sizeOf33
  v22 := Tryz.zeroValue33 }
def Tryz.cloneM_ren : Go.Shelf.Ren := ⟨fun | 41 => 70 | n => n, fun | 22 => 33 | 23 => 40 | 4 => 4 | n => n, fun | n => n⟩
theorem Tryz.cloneM : Go.Proofs.SlLaysE0.n41 Tryz.prog Tryz.cloneM_ren := {
  mixed := by kernel_rfl
  f41 := ⟨Tryz.f70.name, by decide, Tryz.func70.trans (congrArg some (by kernel_rfl))⟩
  t4 := Tryz.underlying4
  a4 := Tryz.isAgg4
  z4 := Tryz.sizeOf4
  v4 := Tryz.zeroValue4
  t22 := Tryz.underlying33
  a22 := Tryz.isAgg33
  z22 := Tryz.sizeOf33
  v22 := Tryz.zeroValue33 }
def Tryz.idxM_ren : Go.Shelf.Ren := ⟨fun | 6 => 128 | n => n, fun | 22 => 33 | 23 => 40 | 25 => 85 | 3 => 3 | 0 => 0 | 4 => 4 | n => n, fun | n => n⟩
theorem Tryz.idxM : Go.Proofs.SlLaysH0.n6 Tryz.prog Tryz.idxM_ren := {
  mixed := by kernel_rfl
  f6 := ⟨Tryz.f128.name, by decide, Tryz.func128.trans (congrArg some (by kernel_rfl))⟩
  t0 := Tryz.underlying0
  a0 := Tryz.isAgg0
  z0 := Tryz.sizeOf0
  v0 := Tryz.zeroValue0
  t3 := Tryz.underlying3
  a3 := Tryz.isAgg3
  z3 := Tryz.sizeOf3
  v3 := Tryz.zeroValue3
  t4 := Tryz.underlying4
  a4 := Tryz.isAgg4
  z4 := Tryz.sizeOf4
  v4 := Tryz.zeroValue4
  t22 := Tryz.underlying33
  a22 := Tryz.isAgg33
  z22 := Tryz.sizeOf33
  v22 := Tryz.zeroValue33
  t25 := Tryz.underlying85
  a25 := Tryz.isAgg85
  z25 := Tryz.sizeOf85
  v25 := Tryz.zeroValue85 }
end Go.Proofs
end
section
namespace Kz
open Go Go.RowKit Go.Proofs
theorem info40 : ∃ i0 z, Pz.info? 40 = some i0 ∧ i0.zero = some z ∧ i0.size = 5 ∧ z.cells.size = 5 ∧ i0.bytes ≤ 131072 := by
  have h : (match Pz.info? 40 with
    | some i => (match i.zero with
      | some z => i.size == 5 && z.cells.size == 5 && decide (i.bytes ≤ 131072)
      | none => false)
    | none => false) = true := by kernel_rfl
  split at h
  · rename_i i hi
    split at h
    · rename_i z hz
      simp only [Bool.and_eq_true, beq_iff_eq, decide_eq_true_eq] at h
      exact ⟨i, z, hi, hz, h.1.1, h.1.2, h.2⟩
    · cases h
  · cases h
theorem zc_size (z : Array Value) (n : Nat) : (Builtin.zeroCells z n).size = n * z.size := by simp [Builtin.zeroCells]
theorem grow107 (n : Int) (h0 : 0 ≤ n) (hn : n ≤ lim) (h : Hp) : FSpec Pz 107 [.nilsl, .int .i64 n] h (.ret (.list .mv [] (.own h.toks.length)) { h with toks := h.toks ++ [0] }) ∧ ∃ fn, Pz.funcs[107]? = some fn ∧ fn.body.isSome = true := by
  refine ⟨?_, ?_⟩
  · intro g w vals m hr
    obtain ⟨vals⟩ := vals
    cases hr with
    | cons q1 r1 =>
      cases r1 with
      | cons q2 r2 =>
        cases r2
        cases q1
        cases q2
        obtain ⟨k, rfl⟩ := Int.eq_ofNat_of_zero_le h0
        refine callsIn_wide.2 ?_
        have hk : k ≤ 1073741824 := by unfold lim at hn; omega
        by_cases hk0 : k = 0
        · subst hk0
          refine (Any8.slices_Grow_room Tryz.grow none 0 0 0 w (Nat.le_refl _) (by omega) (by omega) (by omega)).mono ?_
          rintro e w' ⟨rfl, rfl⟩
          obtain ⟨m1, l1⟩ := m.newTok
          exact ⟨_, _, rfl, ⟨m1, l1, ⟨rfl, rfl, rfl, fun _ _ _ x => x, fun i x _ hx => by
            show (h.toks ++ [0])[i]? = _
            rw [List.getElem?_append_left (List.getElem?_eq_some_iff.1 hx).1]; exact hx, fun _ _ _ x => x⟩⟩,
            .list (cs := []) rfl .nil (.inl rfl) (fun k ek => by cases ek; exact ⟨0, by simp, Nat.le_refl _, fun _ => ⟨none, by simp [m.tlen], rfl, rfl, rfl⟩⟩) (Nat.le_refl _)⟩
        · obtain ⟨i0, z, a1, a2, a3, a4, a5⟩ := info40
          refine (Any8.slices_Grow_grow Tryz.grow i0 z a1 a2 (by omega) none 0 0 k [] w (Nat.le_refl _) (by omega) ?_ (by omega) (by simp) (fun _ => rfl) (fun a e => by cases e)).mono ?_
          · have : (0 + k) * i0.bytes ≤ (0 + k) * 131072 := Nat.mul_le_mul_left _ a5
            omega
          rintro e w' ⟨rfl, rfl⟩
          have hG := grownCap_le_maxLen w (0 + k) 0 (Tryz.grow_ren.t 25) (by unfold maxLen; omega)
          have hge : 0 + k ≤ grownCap w (0 + k) 0 (Tryz.grow_ren.t 25) := grownCap_ge w _ _ _
          generalize grownCap w (0 + k) 0 (Tryz.grow_ren.t 25) = G at hG hge ⊢
          obtain ⟨m1, l1⟩ := m.newRoom (cap := G) (z := 5) hG (cells := (([] : List Value).toArray ++ Builtin.zeroCells z.cells (0 + k - 0) ++ Builtin.zeroCells z.cells (G - (0 + k)))) (ty := Tryz.grow_ren.t 25) (by
            simp only [Array.size_append, zc_size, a4, List.size_toArray, List.length_nil]; omega) w.drew (.inr rfl)
          exact ⟨_, _, rfl, ⟨m1, l1, ⟨rfl, rfl, rfl, fun _ _ _ x => x, fun i x _ hx => by
            show (h.toks ++ [0])[i]? = _
            rw [List.getElem?_append_left (List.getElem?_eq_some_iff.1 hx).1]; exact hx, fun _ _ _ x => x⟩⟩,
            .list (cs := []) rfl .nil (.inl rfl) (fun k ek => by cases ek; exact ⟨0, by simp, Nat.le_refl _, fun _ => ⟨some (w.heap.size, G, 5), by simp [m.tlen], rfl, rfl, rfl⟩⟩) (Nat.zero_le _)⟩
  · have h : (match Pz.funcs[107]? with
      | some fn => fn.body.isSome
      | none => false) = true := by kernel_rfl
    split at h
    · rename_i fn hf
      exact ⟨fn, hf, h⟩
    · cases h
noncomputable def F107 : List AV → Hp → Tr FRes := fun l h => match l with
  | [.nilsl, .int .i64 n] => .guard (decide (0 ≤ n) && decide (n ≤ lim)) (.ret (.ret (.list .mv [] (.own h.toks.length)) { h with toks := h.toks ++ [0] }))
  | _ => .fail
theorem sF107 : FSound Pz 107 F107 := by
  intro l h res he
  unfold F107 at he
  split at he
  · rename_i n
    simp only [get_guard, get_ret, Option.some.injEq, Bool.and_eq_true, decide_eq_true_eq] at he
    obtain ⟨⟨h1, h2⟩, rfl⟩ := he
    exact grow107 n h1 h2 h
  · simp at he
end Kz
end
section
namespace Kz
open Go Go.RowKit Go.Proofs
set_option maxRecDepth 100000
set_option maxHeartbeats 4000000
noncomputable def K22 : List (Nat × List (Nat × List Nat)) := [(22, [(0, (0 :: (rn 2 9 []))), (1, (0 :: 1 :: (rn 3 8 [])))]), (53, [(0, (rn 1 35 [])), (1, (1 :: 2 :: (rn 4 32 []))), (2, (1 :: 2 :: (rn 4 5 (rn 12 24 [])))), (3, (1 :: 2 :: (rn 4 5 (rn 13 23 [])))), (4, (1 :: 2 :: 4 :: 6 :: 7 :: 8 :: (rn 12 24 []))), (5, (1 :: 2 :: (rn 4 5 (rn 12 24 [])))), (6, (1 :: 2 :: (rn 4 5 (rn 12 8 (rn 21 15 []))))), (7, (1 :: 2 :: (rn 4 5 (rn 12 24 [])))), (8, (1 :: 2 :: (rn 4 5 (rn 12 24 [])))), (9, (rn 1 5 (rn 7 29 []))), (10, (rn 0 6 (rn 7 18 (rn 28 8 [])))), (11, (rn 0 6 (rn 7 18 (rn 29 7 [])))), (12, (rn 0 6 (7 :: (rn 9 16 (rn 28 8 []))))), (13, (rn 0 6 (rn 7 18 (rn 28 8 [])))), (14, (rn 0 6 (rn 7 18 (rn 28 8 [])))), (15, (0 :: 1 :: (rn 3 33 [])))]), (107, [(0, (rn 2 25 [])), (1, (rn 2 4 (rn 7 20 []))), (2, (rn 2 25 [])), (3, (rn 2 25 [])), (4, (rn 2 14 (rn 17 10 []))), (5, (rn 1 26 [])), (6, (rn 0 4 (rn 5 22 [])))])]
noncomputable def B22 : Base := baseOf Pz (fun f i => lkK f i K22) [(54, G54), (55, G55), (56, G56)] [] [(107, F107)]
theorem hB22 : BOk B22 := base_ok named_z ⟨s54, s55, s56, trivial⟩ trivial ⟨sF107, trivial⟩
noncomputable def N22 (a : Pos) : List Mv := ([] ++ N54 a ++ N55 a ++ N56 a)
noncomputable def ok22 (a : Pos) : Bool := (ok54 (a) && (ok55 (a) && (ok56 (a) && (!(decide (wr .i64 (0 + Int.ofNat (N54 a).length) < 0)) && (!(decide (wr .i64 (wr .i64 (0 + Int.ofNat (N54 a).length) + Int.ofNat (N55 a).length) < 0)) && (!(decide (wr .i64 (wr .i64 (wr .i64 (0 + Int.ofNat (N54 a).length) + Int.ofNat (N55 a).length) + Int.ofNat (N56 a).length) < 0)) && (decide (0 ≤ wr .i64 (wr .i64 (wr .i64 (0 + Int.ofNat (N54 a).length) + Int.ofNat (N55 a).length) + Int.ofNat (N56 a).length)) && decide (wr .i64 (wr .i64 (wr .i64 (0 + Int.ofNat (N54 a).length) + Int.ofNat (N55 a).length) + Int.ofNat (N56 a).length) ≤ Int.ofNat 1073741824) && (0 == 0 && decide (0 + (N54 a).length ≤ 1073741824) && (([] ++ N54 a).length == ([] ++ N54 a).length && decide (([] ++ N54 a).length + (N55 a).length ≤ 1073741824) && (([] ++ N54 a ++ N55 a).length == ([] ++ N54 a ++ N55 a).length && decide (([] ++ N54 a ++ N55 a).length + (N56 a).length ≤ 1073741824) && true))))))))))
theorem E22 (a : Pos) : evPure B22 14 22 [Pos.av a] = Tr.br (isPS Pz 54 [a.av] ((dL ET.mv).res (N54 a))) (Tr.br (isPS Pz 55 [a.av] ((dL ET.mv).res (N55 a))) (Tr.br (isPS Pz 56 [a.av] ((dL ET.mv).res (N56 a))) (Tr.br (decide (wr .i64 (0 + Int.ofNat (N54 a).length) < 0)) Tr.fail (Tr.br (decide (wr .i64 (wr .i64 (0 + Int.ofNat (N54 a).length) + Int.ofNat (N55 a).length) < 0)) Tr.fail (Tr.br (decide (wr .i64 (wr .i64 (wr .i64 (0 + Int.ofNat (N54 a).length) + Int.ofNat (N55 a).length) + Int.ofNat (N56 a).length) < 0)) Tr.fail (Tr.br (decide (0 ≤ wr .i64 (wr .i64 (wr .i64 (0 + Int.ofNat (N54 a).length) + Int.ofNat (N55 a).length) + Int.ofNat (N56 a).length)) && decide (wr .i64 (wr .i64 (wr .i64 (0 + Int.ofNat (N54 a).length) + Int.ofNat (N55 a).length) + Int.ofNat (N56 a).length) ≤ Int.ofNat 1073741824)) (Tr.br (0 == 0 && decide (0 + (N54 a).length ≤ 1073741824)) (Tr.br (([] ++ N54 a).length == ([] ++ N54 a).length && decide (([] ++ N54 a).length + (N55 a).length ≤ 1073741824)) (Tr.br (([] ++ N54 a ++ N55 a).length == ([] ++ N54 a ++ N55 a).length && decide (([] ++ N54 a ++ N55 a).length + (N56 a).length ≤ 1073741824)) (Tr.ret (AV.list ET.mv ([] ++ N54 a ++ N55 a ++ N56 a) Tk.fresh)) Tr.fail) Tr.fail) Tr.fail) Tr.fail)))) Tr.fail) Tr.fail) Tr.fail := by kernel_rfl
theorem P22 (a : Pos) (h : ok22 a = true) : PS Pz 22 [Pos.av a] ((dL .mv).res (N22 a)) := ps_gotR hB22 (E22 a) (gr_call (P54 (a)) (gr_call (P55 (a)) (gr_call (P56 (a)) (gr_nguard (gr_nguard (gr_nguard (gr_guard (gr_guard (gr_guard (gr_guard (gr_ret rfl))))))))))) h
noncomputable def G22 : List AV → Tr AV := g1 dPos (fun a => sure Pz 22 [Pos.av a] ((dL .mv).res (N22 a)))
theorem s22 : Sound Pz 22 G22 := sound1 (fun _ => at_sure)
end Kz
end
section
namespace Kz
open Go Go.RowKit Go.Proofs
set_option maxRecDepth 100000
set_option maxHeartbeats 4000000
noncomputable def K89 : List (Nat × List (Nat × List Nat)) := [(89, [(0, (1 :: 2 :: (rn 4 15 []))), (1, (1 :: 2 :: 4 :: 5 :: 6 :: (rn 9 10 []))), (2, (1 :: 2 :: 4 :: 5 :: 6 :: (rn 10 9 []))), (3, (1 :: 2 :: 4 :: 6 :: (rn 9 10 []))), (4, (1 :: 2 :: 4 :: 6 :: (rn 9 7 [17, 18]))), (5, (rn 0 4 (rn 5 14 []))), (6, (1 :: 2 :: 4 :: 5 :: 6 :: (rn 9 10 []))), (7, (rn 0 4 (rn 5 14 [])))])]
noncomputable def B89_1 : Base := baseOf Pz (fun f i => lkK f i K89) [] [] []
theorem hB89_1 : BOk B89_1 := base_ok named_z trivial trivial trivial
noncomputable def S89_1 (p1 : (List Mv)) (p2 : Int) (p3 : Mv) (x : (Int)) : St := St.mk (AV.list ET.mv p1 Tk.arg :: AV.any :: AV.any :: AV.ptr 0 0 :: (an 3 (AV.int .i64 p2 :: AV.int .i64 x :: (an 10 [])))) (Hp.mk [[AV.int .i8 p3.frm, AV.int .i8 p3.to, AV.int .u8 p3.pro, AV.int .u8 p3.drp, AV.bool p3.cas]] [] [] 0 0 0)
noncomputable def O89_1 (p1 : (List Mv)) (p2 : Int) (p3 : Mv) : (Int) ⊕ (Int × Bool) → Out
  | (.inl (y)) => .ret (St.mk (an 4 (AV.int .i64 y :: (an 14 []))) (Hp.mk [[AV.int .i8 p3.frm, AV.int .i8 p3.to, AV.int .u8 p3.pro, AV.int .u8 p3.drp, AV.bool p3.cas]] [] [] 0 0 0))
  | (.inr (y)) => .exit 0 (St.mk (AV.list ET.mv p1 Tk.arg :: AV.any :: AV.any :: AV.ptr 0 0 :: (an 3 (AV.int .i64 p2 :: AV.int .i64 y.fst :: AV.bool y.snd :: (an 9 [])))) (Hp.mk [[AV.int .i8 p3.frm, AV.int .i8 p3.to, AV.int .u8 p3.pro, AV.int .u8 p3.drp, AV.bool p3.cas]] [] [] 0 0 0))
noncomputable def st89_1 (p1 : (List Mv)) (p2 : Int) (p3 : Mv) (x : (Int)) : Stp (Int) ((Int) ⊕ (Int × Bool)) := (bif decide (x < p2) then (bif eqOut BinOp.eql (p3.frm == (p1.getD x.toNat default).frm && (p3.to == (p1.getD x.toNat default).to && (p3.pro == (p1.getD x.toNat default).pro && (p3.drp == (p1.getD x.toNat default).drp && (p3.cas == (p1.getD x.toNat default).cas && true))))) then (Stp.out (.inl ((x)))) else (Stp.go (wr .i64 (x + 1)))) else (Stp.out (.inr ((x, decide (x < p2))))))
noncomputable def okL89_1 (p1 : (List Mv)) (p2 : Int) (p3 : Mv) (x : (Int)) : Bool := (bif decide (x < p2) then (decide (0 ≤ x) && decide (x < ↑p1.length) && true) else true)
noncomputable def lp89_1 (p1 : (List Mv)) (p2 : Int) (p3 : Mv) (x : (Int)) : Option ((Int) ⊕ (Int × Bool)) := itl (fun x => bif okL89_1 p1 p2 p3 x then st89_1 p1 p2 p3 x else .bad) many x
theorem E89_1 (p1 : (List Mv)) (p2 : Int) (p3 : Mv) (x : (Int)) : evC (envAt B89_1 12) (evL B89_1 12) 89 (bodL Pz 89 2) (S89_1 p1 p2 p3 x) = Tr.br (decide (x < p2)) (Tr.br (decide (0 ≤ x) && decide (x < ↑p1.length)) (Tr.br (eqOut BinOp.eql (p3.frm == (p1.getD x.toNat default).frm && (p3.to == (p1.getD x.toNat default).to && (p3.pro == (p1.getD x.toNat default).pro && (p3.drp == (p1.getD x.toNat default).drp && (p3.cas == (p1.getD x.toNat default).cas && true)))))) (Tr.ret (Out.ret (St.mk (an 4 (AV.int .i64 x :: (an 14 []))) (Hp.mk [[AV.int .i8 p3.frm, AV.int .i8 p3.to, AV.int .u8 p3.pro, AV.int .u8 p3.drp, AV.bool p3.cas]] [] [] 0 0 0)))) (Tr.ret (Out.norm (St.mk (AV.list ET.mv p1 Tk.arg :: AV.any :: AV.any :: AV.ptr 0 0 :: (an 3 (AV.int .i64 p2 :: AV.int .i64 (wr .i64 (x + 1)) :: (an 10 [])))) (Hp.mk [[AV.int .i8 p3.frm, AV.int .i8 p3.to, AV.int .u8 p3.pro, AV.int .u8 p3.drp, AV.bool p3.cas]] [] [] 0 0 0))))) Tr.fail) (Tr.ret (Out.exit 0 (St.mk (AV.list ET.mv p1 Tk.arg :: AV.any :: AV.any :: AV.ptr 0 0 :: (an 3 (AV.int .i64 p2 :: AV.int .i64 x :: AV.bool (decide (x < p2)) :: (an 9 [])))) (Hp.mk [[AV.int .i8 p3.frm, AV.int .i8 p3.to, AV.int .u8 p3.pro, AV.int .u8 p3.drp, AV.bool p3.cas]] [] [] 0 0 0)))) := by kernel_rfl
theorem L89_1 (p1 : (List Mv)) (p2 : Int) (p3 : Mv) (x : (Int)) (r : (Int) ⊕ (Int × Bool)) (h : lp89_1 p1 p2 p3 x = some r) : LSpec Pz (bodL Pz 89 2) (S89_1 p1 p2 p3 x) (O89_1 p1 p2 p3 r) := LSpec.itl (S := S89_1 p1 p2 p3) (O := O89_1 p1 p2 p3) (ok := okL89_1 p1 p2 p3) (st := st89_1 p1 p2 p3) hB89_1 (fun x => gr_eq (E89_1 p1 p2 p3 x) (gr_br (gr_guard (gr_br2 (gr_ret (rl_ret rfl (wk_nrm (ks := (rn 0 4 (rn 5 14 []))) (gs := [4]) (b := true) rfl (by kernel_rfl)))) (gr_ret (rl_go (wk_nrm (ks := (1 :: 2 :: 4 :: 5 :: 6 :: (rn 9 10 []))) (gs := [0, 7, 8]) (b := true) rfl (by kernel_rfl)))))) (gr_ret (rl_exit rfl (wk_nrm (ks := (1 :: 2 :: 4 :: 5 :: 6 :: (rn 10 9 []))) (gs := [0, 7, 8, 9]) (b := true) rfl (by kernel_rfl)))))) many x r h
noncomputable def F89_1 : Code → St → Tr Out := fun b s => .br (isL ((lp89_1 (tL (ET.mv) (tT s 0)) (tI (tT s 7)) (Kz.Mv.mk (tI (tH s 0 0)) (tI (tH s 0 1)) (tI (tH s 0 2)) (tI (tH s 0 3)) (tB (tH s 0 4))) ((tI (tT s 8)))).getD default)) (sureL Pz (fun s => O89_1 (tL (ET.mv) (tT s 0)) (tI (tT s 7)) (Kz.Mv.mk (tI (tH s 0 0)) (tI (tH s 0 1)) (tI (tH s 0 2)) (tI (tH s 0 3)) (tB (tH s 0 4))) (.inl (gl ((lp89_1 (tL (ET.mv) (tT s 0)) (tI (tT s 7)) (Kz.Mv.mk (tI (tH s 0 0)) (tI (tH s 0 1)) (tI (tH s 0 2)) (tI (tH s 0 3)) (tB (tH s 0 4))) ((tI (tT s 8)))).getD default)))) b s) (sureL Pz (fun s => O89_1 (tL (ET.mv) (tT s 0)) (tI (tT s 7)) (Kz.Mv.mk (tI (tH s 0 0)) (tI (tH s 0 1)) (tI (tH s 0 2)) (tI (tH s 0 3)) (tB (tH s 0 4))) (.inr (gr ((lp89_1 (tL (ET.mv) (tT s 0)) (tI (tT s 7)) (Kz.Mv.mk (tI (tH s 0 0)) (tI (tH s 0 1)) (tI (tH s 0 2)) (tI (tH s 0 3)) (tB (tH s 0 4))) ((tI (tT s 8)))).getD default)))) b s)
theorem sF89_1 : ∀ b, LSound Pz b (F89_1 b) := brL_sound (c := fun s => isL ((lp89_1 (tL (ET.mv) (tT s 0)) (tI (tT s 7)) (Kz.Mv.mk (tI (tH s 0 0)) (tI (tH s 0 1)) (tI (tH s 0 2)) (tI (tH s 0 3)) (tB (tH s 0 4))) ((tI (tT s 8)))).getD default)) sureL_sound sureL_sound
noncomputable def B89 : Base := baseOf Pz (fun f i => lkK f i K89) [] [(89, 2, F89_1)] []
theorem hB89 : BOk B89 := base_ok named_z trivial ⟨sF89_1, trivial⟩ trivial
noncomputable def N89 (a : List Mv) (b : Mv) : Int := (bif isL ((lp89_1 a (↑a.length) (Mv.mk b.frm b.to b.pro b.drp b.cas) 0).getD default) then (gl ((lp89_1 a (↑a.length) (Mv.mk b.frm b.to b.pro b.drp b.cas) 0).getD default)) else (-1))
noncomputable def ok89 (a : List Mv) (b : Mv) : Bool := ((lp89_1 a (↑a.length) (Mv.mk b.frm b.to b.pro b.drp b.cas) 0).isSome && bif isL ((lp89_1 a (↑a.length) (Mv.mk b.frm b.to b.pro b.drp b.cas) 0).getD default) then true else true)
theorem E89 (a : List Mv) (b : Mv) : evPure B89 14 89 [.list .mv a .arg, Mv.av b] = Tr.br (isL ((lp89_1 a (↑a.length) (Mv.mk b.frm b.to b.pro b.drp b.cas) 0).getD default)) (Tr.br (isLS Pz (bodL Pz 89 2) (St.mk (AV.list ET.mv a Tk.arg :: AV.any :: AV.any :: AV.ptr 0 0 :: (an 3 (AV.int .i64 ↑a.length :: AV.cint .i64 0 :: (an 10 [])))) (Hp.mk [[AV.int .i8 b.frm, AV.int .i8 b.to, AV.int .u8 b.pro, AV.int .u8 b.drp, AV.bool b.cas]] [] [] 0 0 0)) (O89_1 a (↑a.length) (Mv.mk b.frm b.to b.pro b.drp b.cas) (Sum.inl (gl ((lp89_1 a (↑a.length) (Mv.mk b.frm b.to b.pro b.drp b.cas) 0).getD default))))) (Tr.ret (AV.int .i64 (gl ((lp89_1 a (↑a.length) (Mv.mk b.frm b.to b.pro b.drp b.cas) 0).getD default)))) Tr.fail) (Tr.br (isLS Pz (bodL Pz 89 2) (St.mk (AV.list ET.mv a Tk.arg :: AV.any :: AV.any :: AV.ptr 0 0 :: (an 3 (AV.int .i64 ↑a.length :: AV.cint .i64 0 :: (an 10 [])))) (Hp.mk [[AV.int .i8 b.frm, AV.int .i8 b.to, AV.int .u8 b.pro, AV.int .u8 b.drp, AV.bool b.cas]] [] [] 0 0 0)) (O89_1 a (↑a.length) (Mv.mk b.frm b.to b.pro b.drp b.cas) (Sum.inr (gr ((lp89_1 a (↑a.length) (Mv.mk b.frm b.to b.pro b.drp b.cas) 0).getD default))))) (Tr.ret (AV.cint .i64 (-1))) Tr.fail) := by kernel_rfl
theorem P89 (a : List Mv) (b : Mv) (h : ok89 a b = true) : PS Pz 89 [.list .mv a .arg, Mv.av b] ((dI .i64).res (N89 a b)) := ps_gotR hB89 (E89 a b) (gr_loop2 (fun h => L89_1 (a) (↑a.length) (Mv.mk b.frm b.to b.pro b.drp b.cas) (0) _ (some_getD h)) (wk_nrm (ks := (1 :: 2 :: 4 :: 5 :: 6 :: (rn 9 10 []))) (gs := [0, 7, 8]) (b := true) rfl (by kernel_rfl)) (gr_ret rfl) (gr_ret rfl)) h
noncomputable def G89 : List AV → Tr AV := g2 (dL .mv) dMv (fun a b => sure Pz 89 [.list .mv a .arg, Mv.av b] ((dI .i64).res (N89 a b)))
theorem s89 : Sound Pz 89 G89 := sound2 (fun _ _ => at_sure)
end Kz
end
section
namespace Kz
open Go Go.RowKit Go.Proofs
set_option maxRecDepth 100000
set_option maxHeartbeats 4000000
noncomputable def K41 : List (Nat × List (Nat × List Nat)) := [(41, [(0, (1 :: 2 :: (rn 4 5 []))), (1, (rn 0 4 (rn 5 4 [])))])]
noncomputable def B41 : Base := baseOf Pz (fun f i => lkK f i K41) [(89, G89)] [] []
theorem hB41 : BOk B41 := base_ok named_z ⟨s89, trivial⟩ trivial trivial
noncomputable def N41 (a : List Mv) (b : Mv) : Bool := (decide (N89 a b ≥ 0))
noncomputable def ok41 (a : List Mv) (b : Mv) : Bool := (ok89 (a) (b) && true)
theorem E41 (a : List Mv) (b : Mv) : evPure B41 14 41 [.list .mv a .arg, Mv.av b] = Tr.br (isPS Pz 89 [AV.list ET.mv a Tk.arg, b.av] ((dI .i64).res (N89 a b))) (Tr.ret (AV.bool (decide (N89 a b ≥ 0)))) Tr.fail := by kernel_rfl
theorem P41 (a : List Mv) (b : Mv) (h : ok41 a b = true) : PS Pz 41 [.list .mv a .arg, Mv.av b] (dB.res (N41 a b)) := ps_gotR hB41 (E41 a b) (gr_call (P89 (a) (b)) (gr_ret rfl)) h
noncomputable def G41 : List AV → Tr AV := g2 (dL .mv) dMv (fun a b => sure Pz 41 [.list .mv a .arg, Mv.av b] (dB.res (N41 a b)))
theorem s41 : Sound Pz 41 G41 := sound2 (fun _ _ => at_sure)
end Kz
end
section
namespace Kz
open Go Go.RowKit Go.Proofs
set_option maxRecDepth 100000
set_option maxHeartbeats 4000000
noncomputable def K42 : List (Nat × List (Nat × List Nat)) := [(42, [(0, (0 :: 1 :: (rn 4 12 (rn 21 23 (rn 51 8 []))))), (1, (0 :: 1 :: 4 :: (rn 7 9 (rn 21 23 (rn 51 8 []))))), (2, (0 :: 1 :: 4 :: (rn 6 15 (rn 22 22 (rn 51 8 []))))), (3, (rn 0 4 (rn 5 54 []))), (4, (0 :: 1 :: 4 :: 6 :: (rn 8 36 (rn 51 8 [])))), (5, (0 :: 1 :: (rn 4 22 (rn 27 17 (rn 51 8 []))))), (6, (rn 0 4 (rn 5 54 []))), (7, (0 :: 1 :: (rn 4 31 (rn 36 23 [])))), (8, (rn 0 4 (rn 5 54 []))), (9, (rn 0 4 (rn 5 54 [])))])]
noncomputable def B42 : Base := baseOf Pz (fun f i => lkK f i K42) [(41, G41), (54, G54), (90, G90), (91, G91), (92, G92)] [] []
theorem hB42 : BOk B42 := base_ok named_z ⟨s41, s54, s90, s91, s92, trivial⟩ trivial trivial
noncomputable def N42 (a : Pos) (b : Mv) : Int := (bif !(N90 a).snd then (-1) else (bif !N41 (N54 a) b then (-1) else (bif (N90 a).fst.snd.snd &&& 1#64 <<< (BitVec.ofInt 64 b.to).toNat != 0#64 then (wr .i64 b.to) else (bif N91 (a.board.getD (scale 1 b.frm).toNat 0) == 1 then (bif b.frm.tmod 8 != b.to.tmod 8 then (N92 (wr .u8 (1 - a.turn)) (wr .i64 b.to)) else (-1)) else (-1)))))
noncomputable def ok42 (a : Pos) (b : Mv) : Bool := (ok90 (a) && (bif !(N90 a).snd then true else (ok54 (a) && (ok41 (N54 a) (b) && (bif !N41 (N54 a) b then true else (bif (N90 a).fst.snd.snd &&& 1#64 <<< (BitVec.ofInt 64 b.to).toNat != 0#64 then true else (decide (0 ≤ b.frm) && decide (b.frm < Int.ofNat 64) && true)))))))
theorem E42 (a : Pos) (b : Mv) : evPure B42 14 42 [Pos.av a, Mv.av b] = Tr.br (isPS Pz 90 [a.av] ((d2 dSide dB).res (N90 a))) (Tr.br (!(N90 a).snd) (Tr.ret (AV.cint .i64 (-1))) (Tr.br (isPS Pz 54 [a.av] ((dL ET.mv).res (N54 a))) (Tr.br (isPS Pz 41 [AV.list ET.mv (N54 a) Tk.arg, b.av] (dB.res (N41 (N54 a) b))) (Tr.br (!N41 (N54 a) b) (Tr.ret (AV.cint .i64 (-1))) (Tr.br ((N90 a).fst.snd.snd &&& 1#64 <<< (BitVec.ofInt 64 b.to).toNat != 0#64) (Tr.ret (AV.int .i64 (wr .i64 b.to))) (Tr.br (decide (0 ≤ b.frm) && decide (b.frm < Int.ofNat 64)) (Tr.br (isPS Pz 91 [AV.int .u8 (a.board.getD (scale 1 b.frm).toNat 0)] ((dI .u8).res (N91 (a.board.getD (scale 1 b.frm).toNat 0)))) (Tr.br (N91 (a.board.getD (scale 1 b.frm).toNat 0) == 1) (Tr.br (b.frm.tmod 8 != b.to.tmod 8) (Tr.br (isPS Pz 92 [AV.int .u8 (wr .u8 (1 - a.turn)), AV.int .i64 (wr .i64 b.to)] ((dI .i64).res (N92 (wr .u8 (1 - a.turn)) (wr .i64 b.to)))) (Tr.ret (AV.int .i64 (N92 (wr .u8 (1 - a.turn)) (wr .i64 b.to)))) Tr.fail) (Tr.ret (AV.cint .i64 (-1)))) (Tr.ret (AV.cint .i64 (-1)))) Tr.fail) Tr.fail))) Tr.fail) Tr.fail)) Tr.fail := by kernel_rfl
theorem P42 (a : Pos) (b : Mv) (h : ok42 a b = true) : PS Pz 42 [Pos.av a, Mv.av b] ((dI .i64).res (N42 a b)) := ps_gotR hB42 (E42 a b) (gr_call (P90 (a)) (gr_br (gr_ret rfl) (gr_call (P54 (a)) (gr_call (P41 (N54 a) (b)) (gr_br (gr_ret rfl) (gr_br (gr_ret rfl) (gr_guard (gr_callT (P91 (a.board.getD (scale 1 b.frm).toNat 0) rfl) (gr_br2 (gr_br2 (gr_callT (P92 (wr .u8 (1 - a.turn)) (wr .i64 b.to) rfl) (gr_ret rfl)) (gr_ret rfl)) (gr_ret rfl)))))))))) h
noncomputable def G42 : List AV → Tr AV := g2 dPos dMv (fun a b => sure Pz 42 [Pos.av a, Mv.av b] ((dI .i64).res (N42 a b)))
theorem s42 : Sound Pz 42 G42 := sound2 (fun _ _ => at_sure)
end Kz
end
section
namespace Kz
open Go Go.RowKit Go.Proofs
set_option maxRecDepth 100000
set_option maxHeartbeats 4000000
noncomputable def K24 : List (Nat × List (Nat × List Nat)) := [(24, [(0, (0 :: 1 :: (rn 4 5 []))), (1, (rn 0 4 (rn 5 4 [])))])]
noncomputable def B24 : Base := baseOf Pz (fun f i => lkK f i K24) [(42, G42)] [] []
theorem hB24 : BOk B24 := base_ok named_z ⟨s42, trivial⟩ trivial trivial
noncomputable def N24 (a : Pos) (b : Mv) : Bool := (decide (N42 a b ≥ 0))
noncomputable def ok24 (a : Pos) (b : Mv) : Bool := (ok42 (a) (b) && true)
theorem E24 (a : Pos) (b : Mv) : evPure B24 14 24 [Pos.av a, Mv.av b] = Tr.br (isPS Pz 42 [a.av, b.av] ((dI .i64).res (N42 a b))) (Tr.ret (AV.bool (decide (N42 a b ≥ 0)))) Tr.fail := by kernel_rfl
theorem P24 (a : Pos) (b : Mv) (h : ok24 a b = true) : PS Pz 24 [Pos.av a, Mv.av b] (dB.res (N24 a b)) := ps_gotR hB24 (E24 a b) (gr_call (P42 (a) (b)) (gr_ret rfl)) h
noncomputable def G24 : List AV → Tr AV := g2 dPos dMv (fun a b => sure Pz 24 [Pos.av a, Mv.av b] (dB.res (N24 a b)))
theorem s24 : Sound Pz 24 G24 := sound2 (fun _ _ => at_sure)
end Kz
end
section
namespace Kz
open Go
set_option maxRecDepth 100000
theorem mv_eq_iff (a b : Mv) : (a.frm == b.frm && (a.to == b.to && (a.pro == b.pro && (a.drp == b.drp && (a.cas == b.cas && true))))) = decide (a = b) := by
  rw [Bool.eq_iff_iff]
  cases a; cases b
  simp
theorem lp89 (l : List Mv) (b : Mv) (hl : l.length ≤ 1000000) : ∃ r, lp89_1 l (l.length : Int) b 0 = some r ∧
    match r with
    | .inl i => 0 ≤ i ∧ i < l.length ∧ b ∈ l
    | .inr _ => b ∉ l := by
  refine lp_many (I := fun x => 0 ≤ x ∧ x ≤ (l.length : Int) ∧ b ∉ l.take x.toNat) (μ := fun x => ((l.length : Int) - x).toNat) ?_ _ ⟨by simp, by simp, by simp⟩ (by simp; omega)
  rintro n ⟨h0, h1, h2⟩
  by_cases hc : n < l.length
  · have hlt : n.toNat < l.length := by omega
    refine ⟨c_true (fun _ => a_true (by simp [h0]; exact hc) fun _ => rfl) fun _ => rfl, c_ind (fun _ => ?_) fun h => absurd h (by simpa using hc)⟩
    have he : eqOut BinOp.eql (b.frm == (l.getD n.toNat default).frm && (b.to == (l.getD n.toNat default).to && (b.pro == (l.getD n.toNat default).pro && (b.drp == (l.getD n.toNat default).drp && (b.cas == (l.getD n.toNat default).cas && true))))) = decide (b = l.getD n.toNat default) := mv_eq_iff b _
    rw [he]
    refine c_ind (fun h => ?_) fun h => ?_
    · have h : b = l.getD n.toNat default := by simpa using h
      exact ⟨h0, hc, by rw [h]; exact getD_mem hlt⟩
    · have h : ¬ b = l.getD n.toNat default := by simpa using h
      have hw : wr .i64 (n + 1) = n + 1 := wi64 (by omega) (by omega)
      rw [hw]
      refine ⟨⟨by omega, by omega, ?_⟩, by dsimp only; omega⟩
      rw [show (n + 1).toNat = n.toNat + 1 by omega, List.take_succ_eq_append_getElem hlt]
      rw [List.getD_eq_getElem?_getD, List.getElem?_eq_getElem hlt] at h
      simp only [List.mem_append, List.mem_singleton, not_or]
      exact ⟨h2, h⟩
  · refine ⟨c_true (fun h => absurd h (by simpa using hc)) fun _ => rfl, c_ind (fun h => absurd h (by simpa using hc)) fun _ => ?_⟩
    show b ∉ l
    rw [List.take_of_length_le (by omega)] at h2
    exact h2
theorem t89 {l : List Mv} {b : Mv} (hl : l.length ≤ 1000000) : ok89 l b = true := by
  refine a_true (of_some (lp89 l b hl)).1 fun _ => ?_
  refine c_true (fun _ => rfl) fun _ => rfl
theorem t41 {l : List Mv} {b : Mv} (hl : l.length ≤ 1000000) : ok41 l b = true := a_true (t89 hl) fun _ => rfl
theorem N41_eq {l : List Mv} {b : Mv} (hl : l.length ≤ 1000000) : N41 l b = decide (b ∈ l) := by
  have h := (of_some (lp89 l b hl)).2
  unfold N41 N89
  revert h
  show (match (lp89_1 l (l.length : Int) b 0).getD default with | .inl i => 0 ≤ i ∧ i < (l.length : Int) ∧ b ∈ l | .inr _ => b ∉ l) → decide ((bif isL ((lp89_1 l (l.length : Int) b 0).getD default) then gl ((lp89_1 l (l.length : Int) b 0).getD default) else -1) ≥ 0) = decide (b ∈ l)
  generalize (lp89_1 l (l.length : Int) b 0).getD default = r
  intro h
  cases r with
  | inl i =>
    have h' : 0 ≤ i ∧ i < (l.length : Int) ∧ b ∈ l := h
    have h3 := h'.2.2
    simp [isL, gl, h'.1, h3]
  | inr y =>
    have h' : b ∉ l := h
    simp [isL, h']
theorem t42 {p : Pos} (hv : 0 ≤ p.variant) (m : Mv) : ok42 p m = true := by
  have hl := N54_len hv
  unfold ok42
  refine a_true (t90 p) fun _ => c_true (fun _ => rfl) fun _ => a_true (t54 hv) fun _ => a_true (t41 (by omega)) fun _ => c_true (fun _ => rfl) fun h => c_true (fun _ => rfl) fun _ => a_true ?_ fun _ => rfl
  rw [N41_eq (by omega)] at h
  have hm : m ∈ N54 p := by simpa using h
  obtain ⟨_, f, t, h1, h2, h3, _⟩ := N54_mem hv hm
  rw [h3]
  simp
  omega
theorem t24 {p : Pos} (hv : 0 ≤ p.variant) (m : Mv) : ok24 p m = true := a_true (t42 hv m) fun _ => rfl
theorem t112 {a : Int} (ha : 0 ≤ a) : ok112 a = true := by
  unfold ok112
  refine c_true (fun _ => rfl) fun h => ?_
  have h : a < 9 := by simpa using h
  have : a = 0 ∨ a = 1 ∨ a = 2 ∨ a = 3 ∨ a = 4 ∨ a = 5 ∨ a = 6 ∨ a = 7 ∨ a = 8 := by omega
  rcases this with rfl | rfl | rfl | rfl | rfl | rfl | rfl | rfl | rfl <;> rfl
theorem t109 {a : Int} (ha : 0 ≤ a) : ok109 a = true := by
  unfold ok109
  refine c_true (fun _ => rfl) fun h => ?_
  have h : a < 9 := by simpa using h
  have : a = 0 ∨ a = 1 ∨ a = 2 ∨ a = 3 ∨ a = 4 ∨ a = 5 ∨ a = 6 ∨ a = 7 ∨ a = 8 := by omega
  rcases this with rfl | rfl | rfl | rfl | rfl | rfl | rfl | rfl | rfl <;> rfl
theorem N110_eq {t : Int} (h0 : 0 ≤ t) (h1 : t ≤ 1) : N110 t = 56 * t := by
  unfold N110
  rw [wi64 (n := t) (by omega) (by omega), wi64 (by omega) (by omega)]
theorem lp111a (p1 : Pos) (p2 : List Int) (p3 : Pos) (p4 p5 : BitVec 64) (p6 p7 x : Int) (hx : -200 ≤ x) (hx2 : x ≤ 201) (h6 : p6 ≤ 200) (h7 : p7 ≤ 200) : (lp111_1 p1 p2 p3 p4 p5 p6 p7 x).isSome = true := by
  refine (of_some (Q := fun _ => True) (lp_many (I := fun x => -200 ≤ x ∧ x ≤ 201) (μ := fun x => (201 - x).toNat) ?_ x ⟨hx, hx2⟩ (by omega))).1
  rintro n ⟨h0, h1⟩
  refine ⟨rfl, c_ind (fun hc => c_ind (fun _ => trivial) fun _ => ?_) fun hc => trivial⟩
  have hc : n ≤ if p7 > p6 then p7 else p6 := by simpa using hc
  have hn : n ≤ 200 := by split at hc <;> omega
  rw [wi64 (n := n + 1) (by omega) (by omega)]
  exact ⟨⟨by omega, by omega⟩, by dsimp only; omega⟩
theorem lp111b (p1 : Pos) (p2 : List Int) (p3 : Pos) (p4 p5 : BitVec 64) (p6 p7 p8 p9 x : Int) (hx : -200 ≤ x) (hx2 : x ≤ 201) (h6 : p8 ≤ 200) (h7 : p9 ≤ 200) : (lp111_2 p1 p2 p3 p4 p5 p6 p7 p8 p9 x).isSome = true := by
  refine (of_some (Q := fun _ => True) (lp_many (I := fun x => -200 ≤ x ∧ x ≤ 201) (μ := fun x => (201 - x).toNat) ?_ x ⟨hx, hx2⟩ (by omega))).1
  rintro n ⟨h0, h1⟩
  refine ⟨rfl, c_ind (fun hc => c_ind (fun _ => trivial) fun _ => ?_) fun hc => trivial⟩
  have hc : n ≤ if p9 > p8 then p9 else p8 := by simpa using hc
  have hn : n ≤ 200 := by split at hc <;> omega
  rw [wi64 (n := n + 1) (by omega) (by omega)]
  exact ⟨⟨by omega, by omega⟩, by dsimp only; omega⟩
theorem lp111c (p1 : Pos) (p2 : List Int) (p3 : Pos) (p4 p5 : BitVec 64) (p6 p7 p8 p9 p10 p11 x : Int) (hx : -200 ≤ x) (hx2 : x ≤ 201) (h6 : p10 ≤ 200) (h7 : p11 ≤ 200) : (lp111_3 p1 p2 p3 p4 p5 p6 p7 p8 p9 p10 p11 x).isSome = true := by
  refine (of_some (Q := fun _ => True) (lp_many (I := fun x => -200 ≤ x ∧ x ≤ 201) (μ := fun x => (201 - x).toNat) ?_ x ⟨hx, hx2⟩ (by omega))).1
  rintro n ⟨h0, h1⟩
  refine ⟨?_, c_ind (fun hc => ?_) fun hc => trivial⟩
  · unfold okL111_3
    repeat' (first | with_reducible rfl | with_reducible exact t105 _ | with_reducible exact t52 _ _ _ | refine a_true ?_ (fun _ => ?_) | refine c_true (fun _ => ?_) (fun _ => ?_))
  · have hc : n ≤ if p11 > p10 then p11 else p10 := by simpa using hc
    have hn : n ≤ 200 := by split at hc <;> omega
    rw [wi64 (n := n + 1) (by omega) (by omega)]
    have go : Nxt (fun x : Int => -200 ≤ x ∧ x ≤ 201) (fun _ : Int ⊕ (Int × Bool) => True) (fun x => (201 - x).toNat) (201 - n).toNat (.go (n + 1)) := ⟨⟨by omega, by omega⟩, by dsimp only; omega⟩
    exact c_ind (fun _ => c_ind (fun _ => go) fun _ => c_ind (fun _ => trivial) fun _ => go) fun _ => c_ind (fun _ => trivial) fun _ => go
theorem getD_in {l : List Int} {a b d : Int} (h : ∀ x ∈ l, a ≤ x ∧ x ≤ b) (hd : a ≤ d ∧ d ≤ b) (i : Nat) : a ≤ l.getD i d ∧ l.getD i d ≤ b := by
  by_cases hi : i < l.length
  · exact h _ (getD_mem hi)
  · rw [List.getD_eq_getElem?_getD, List.getElem?_eq_none (by omega)]
    exact hd
section
variable {p : Pos} (hp : PosIn p) (ht : p.turn ≤ 1)
include hp ht
theorem N160_in {b c : Int} : 0 ≤ (N160 p b c).1 ∧ (N160 p b c).1 < 64 := by
  have hr := getD_in hp.r0 (d := 0) (by omega) (scale 2 p.turn + scale 1 c).toNat
  have h0 := hp.t0
  unfold N160
  rw [N110_eq h0 ht]
  generalize p.rooks.getD (scale 2 p.turn + scale 1 c).toNat 0 = r at hr
  rw [wi64 (n := r) (by omega) (by omega)]
  refine c_ind (P := fun x : Int × Bool => 0 ≤ x.1 ∧ x.1 < 64) (fun _ => by simp) fun h1 => c_ind (P := fun x : Int × Bool => 0 ≤ x.1 ∧ x.1 < 64) (fun _ => by simp) fun h2 => ?_
  have h1 : 0 ≤ r := by simpa using h1
  have h2 : r ≤ 7 := by simpa using h2
  rw [wi64 (n := 56 * p.turn + r) (by omega) (by omega)]
  have : 0 ≤ 56 * p.turn + r ∧ 56 * p.turn + r < 64 := by omega
  exact c_ind (P := fun x : Int × Bool => 0 ≤ x.1 ∧ x.1 < 64) (fun _ => c_ind (P := fun x : Int × Bool => 0 ≤ x.1 ∧ x.1 < 64) (fun _ => this) fun _ => this) fun _ => this
theorem t160 {b c : Int} (hc : c = 0 ∨ c = 1) : ok160 p b c = true := by
  have hr := getD_in hp.r0 (d := 0) (by omega) (scale 2 p.turn + scale 1 c).toNat
  have h0 := hp.t0
  unfold ok160
  rw [N110_eq h0 ht]
  generalize p.rooks.getD (scale 2 p.turn + scale 1 c).toNat 0 = r at hr
  rw [wi64 (n := r) (by omega) (by omega)]
  refine a_true (by simp; omega) fun _ => a_true (by simp; omega) fun _ => c_true (fun _ => rfl) fun h1 => c_true (fun _ => rfl) fun h2 => a_true ?_ fun _ => rfl
  have h1 : 0 ≤ r := by simpa using h1
  have h2 : r ≤ 7 := by simpa using h2
  rw [wi64 (n := 56 * p.turn + r) (by omega) (by omega)]
  simp
  omega
theorem t111 {b c : Int} (hb0 : 0 ≤ b) (hb1 : b < 64) (hc : c = 0 ∨ c = 1) : ok111 p b c = true := by
  have h0 := hp.t0
  have hr := N160_in hp ht (b := b) (c := c)
  have g0 : 0 ≤ (List.take 2 (List.drop (c.toNat * 2) (li [6, 5, 2, 3]))).getD 0 0 ∧ (List.take 2 (List.drop (c.toNat * 2) (li [6, 5, 2, 3]))).getD 0 0 ≤ 6 := by rcases hc with rfl | rfl <;> decide
  have g1 : 0 ≤ (List.take 2 (List.drop (c.toNat * 2) (li [6, 5, 2, 3]))).getD 1 0 ∧ (List.take 2 (List.drop (c.toNat * 2) (li [6, 5, 2, 3]))).getD 1 0 ≤ 6 := by rcases hc with rfl | rfl <;> decide
  unfold ok111
  rw [N110_eq h0 ht]
  generalize (List.take 2 (List.drop (c.toNat * 2) (li [6, 5, 2, 3]))).getD 0 0 = x0 at g0
  generalize (List.take 2 (List.drop (c.toNat * 2) (li [6, 5, 2, 3]))).getD 1 0 = x1 at g1
  have w0 : wr .i64 (56 * p.turn + x0) = 56 * p.turn + x0 := wi64 (by omega) (by omega)
  have w1 : wr .i64 (56 * p.turn + x1) = 56 * p.turn + x1 := wi64 (by omega) (by omega)
  rw [w0, w1]
  refine a_true (t160 hp ht hc) fun _ => c_true (fun _ => rfl) fun _ => a_true (by rcases hc with rfl | rfl <;> decide) fun _ => a_true (by simp; omega) fun _ => a_true (by simp; omega) fun _ => a_true (t59 _) fun _ => a_true (t62 _ _ _) fun _ =>
    a_true (lp111a _ _ _ _ _ _ _ _ ?_ ?_ ?_ ?_) fun _ => c_true (fun _ => rfl) fun _ => a_true (lp111b _ _ _ _ _ _ _ _ _ _ ?_ ?_ ?_ ?_) fun _ => c_true (fun _ => rfl) fun _ => a_true (lp111c _ _ _ _ _ _ _ _ _ _ _ _ ?_ ?_ ?_ ?_) fun _ => c_true (fun _ => rfl) fun _ => rfl
  all_goals (try split) <;> omega
omit ht in
theorem t55 : ok55 p = true := by
  unfold ok55
  refine c_true (fun _ => rfl) fun h => ?_
  have ht : p.turn ≤ 1 := by simpa using h
  have hk := N101_lo p p.turn 6
  refine a_true (t109 hp.v0) fun _ => c_true (fun _ => rfl) fun _ => a_true (t101 _ _ _) fun _ => c_true (fun _ => rfl) fun hk0 => c_true (fun _ => rfl) fun _ => ?_
  have hk0 : 0 ≤ N101 p p.turn 6 := by simpa using hk0
  have a1 : ok111 p (N101 p p.turn 6) 1 = true := t111 hp ht hk0 hk.2 (.inr rfl)
  have a0 : ok111 p (N101 p p.turn 6) 0 = true := t111 hp ht hk0 hk.2 (.inl rfl)
  repeat' (first | with_reducible rfl | with_reducible exact a1 | with_reducible exact a0 | refine a_true ?_ (fun _ => ?_) | refine c_true (fun _ => ?_) (fun _ => ?_) | decide)
end
end Kz
end
section
namespace Kz
open Go
set_option maxRecDepth 100000
section
variable {p : Pos} (hp : PosIn p)
include hp
theorem N111_mem (ht : p.turn ≤ 1) {b c : Int} (hb0 : 0 ≤ b) (hb1 : b < 64) : (N111 p b c).2 = true → (N111 p b c).1.frm = b ∧ 0 ≤ (N111 p b c).1.to ∧ (N111 p b c).1.to < 64 ∧ (N111 p b c).1.cas = true ∧ (N111 p b c).1.drp = 0 ∧ (N111 p b c).1.pro = 0 ∧ (N111 p b c).1.to = (N160 p b c).1 ∧ (N160 p b c).2 = true := by
  have hr := N160_in hp ht (b := b) (c := c)
  have wb : wr .i8 b = b := wi8 (by omega) (by omega)
  have wr' : wr .i8 (N160 p b c).1 = (N160 p b c).1 := wi8 (by omega) (by omega)
  have ci := fun {d : Bool} {x y : Mv × Bool} => @c_ind (Mv × Bool) (fun x => x.2 = true → x.1.frm = b ∧ 0 ≤ x.1.to ∧ x.1.to < 64 ∧ x.1.cas = true ∧ x.1.drp = 0 ∧ x.1.pro = 0 ∧ x.1.to = (N160 p b c).1 ∧ (N160 p b c).2 = true) d x y
  show (fun x : Mv × Bool => x.2 = true → x.1.frm = b ∧ 0 ≤ x.1.to ∧ x.1.to < 64 ∧ x.1.cas = true ∧ x.1.drp = 0 ∧ x.1.pro = 0 ∧ x.1.to = (N160 p b c).1 ∧ (N160 p b c).2 = true) (N111 p b c)
  unfold N111
  rw [wb, wr']
  refine ci (fun _ h => by cases h) fun h1 => ci (fun _ h => by cases h) fun _ => ci (fun _ h => by cases h) fun _ => ci (fun _ h => by cases h) fun _ _ => ?_
  exact ⟨rfl, hr.1, hr.2, rfl, rfl, rfl, rfl, by simpa using h1⟩
theorem N55_len : (N55 p).length ≤ 2 := by
  unfold N55
  repeat' (first | exact Nat.zero_le _ | (simp; done) | refine c_ind (P := fun l : List Mv => l.length ≤ 2) (fun _ => ?_) (fun _ => ?_))
theorem N55_mem {m : Mv} (h : m ∈ N55 p) : p.turn ≤ 1 ∧ 0 ≤ m.frm ∧ m.frm < 64 ∧ 0 ≤ m.to ∧ m.to < 64 ∧ m.cas = true ∧ m.drp = 0 ∧ m.pro = 0 := by
  revert h
  unfold N55
  have hk := N101_lo p p.turn 6
  refine c_ind (P := fun l : List Mv => m ∈ l → _) (fun _ h => by cases h) fun h => ?_
  have ht : p.turn ≤ 1 := by simpa using h
  refine c_ind (P := fun l : List Mv => m ∈ l → _) (fun _ h => by cases h) fun _ => c_ind (P := fun l : List Mv => m ∈ l → _) (fun _ h => by cases h) fun hk0 => c_ind (P := fun l : List Mv => m ∈ l → _) (fun _ h => by cases h) fun _ => ?_
  have hk0 : 0 ≤ N101 p p.turn 6 := by simpa using hk0
  have key : ∀ c, (N111 p (N101 p p.turn 6) c).2 = true → m = (N111 p (N101 p p.turn 6) c).1 → p.turn ≤ 1 ∧ 0 ≤ m.frm ∧ m.frm < 64 ∧ 0 ≤ m.to ∧ m.to < 64 ∧ m.cas = true ∧ m.drp = 0 ∧ m.pro = 0 := by
    intro c h1 h2
    obtain ⟨a1, a2, a3, a4, a5, a6, _⟩ := N111_mem hp ht hk0 hk.2 h1
    rw [h2]
    exact ⟨ht, by omega, by omega, a2, a3, a4, a5, a6⟩
  refine c_ind (P := fun l : List Mv => m ∈ l → _) (fun h1 => c_ind (P := fun l : List Mv => m ∈ l → _) (fun h2 h => ?_) fun _ h => ?_) fun _ => c_ind (P := fun l : List Mv => m ∈ l → _) (fun h2 h => ?_) fun _ h => by cases h
  · simp only [List.nil_append, List.mem_append, List.mem_singleton] at h
    rcases h with h | h
    · exact key _ h1 h
    · exact key _ h2 h
  · simp only [List.nil_append, List.mem_singleton] at h
    exact key _ h1 h
  · simp only [List.nil_append, List.mem_singleton] at h
    exact key _ h2 h
end
theorem lp56a (k p2 : Int) (l : List Int) (p5 : Pos) (p6 : Nat) (out : List Mv) (hl : l.length ≤ 64) (hin : ∀ s ∈ l, 0 ≤ s ∧ s < 64) (ho : out.length ≤ 1000000) :
    ∃ r, lp56_2 k p2 l (Int.ofNat l.length) p5 p6 (out, 0) = some r ∧ r.1 = out ++ l.flatMap fun s => [⟨s, s, 0, k, false⟩] := by
  refine lp_many (I := fun x => 0 ≤ x.2 ∧ x.2 ≤ (l.length : Int) ∧ x.1 = out ++ (l.take x.2.toNat).flatMap (fun s => [⟨s, s, 0, k, false⟩])) (μ := fun x => ((l.length : Int) - x.2).toNat) ?_ _ ⟨by simp, by simp, by simp⟩ (by simp; omega)
  rintro ⟨o, n⟩ ⟨h0, h1, h2⟩
  simp only at h0 h1 h2
  have hlen : o.length ≤ out.length + 64 := by
    have := flat_le (l.take n.toNat) (fun s => [(⟨s, s, 0, k, false⟩ : Mv)]) 1 fun _ _ => by simp
    have h5 : (l.take n.toNat).length ≤ 64 := by rw [List.length_take]; omega
    rw [h2, List.length_append]
    omega
  by_cases hc : n < l.length
  · have hf := hin _ (getD_mem (d := default) (show n.toNat < l.length by omega))
    refine ⟨c_true (fun _ => a_true (by simp [h0]; omega) fun _ => a_true (by simp; omega) fun _ => rfl) fun _ => rfl, c_ind (fun _ => ?_) fun h => absurd h (by simpa using hc)⟩
    have hw : wr .i64 (n + 1) = n + 1 := wi64 (by omega) (by omega)
    rw [hw, wi8 (n := l.getD n.toNat default) (by omega) (by omega)]
    refine ⟨⟨by simp; omega, by simp; omega, ?_⟩, by simp; omega⟩
    simp only
    rw [show (n + 1).toNat = n.toNat + 1 by omega, take_next default _ (by omega), h2, List.append_assoc]
  · refine ⟨c_true (fun h => absurd h (by simpa using hc)) fun _ => rfl, c_ind (fun h => absurd h (by simpa using hc)) fun _ => ?_⟩
    show o = _
    rw [h2, List.take_of_length_le (by omega)]
noncomputable def drops (p : Pos) (k : Int) : List Mv :=
  bif p.pockets.getD (scale 6 p.turn + scale 1 k).toNat 0 == 0 then [] else bif k == 1 then (sqs (~~~N59 p &&& 72057594037927680#64) 64).flatMap fun s => [⟨s, s, 0, k, false⟩] else (sqs (~~~N59 p) 64).flatMap fun s => [⟨s, s, 0, k, false⟩]
theorem drops_len (p : Pos) (k : Int) : (drops p k).length ≤ 64 := by
  unfold drops
  refine c_ind (P := fun l : List Mv => l.length ≤ 64) (fun _ => by simp) fun _ => c_ind (P := fun l : List Mv => l.length ≤ 64) (fun _ => ?_) fun _ => ?_
  · have := sqs_len (~~~N59 p &&& 72057594037927680#64) 64
    have h2 := flat_le (sqs (~~~N59 p &&& 72057594037927680#64) 64) (fun s => [(⟨s, s, 0, k, false⟩ : Mv)]) 1 fun _ _ => by simp
    omega
  · have := sqs_len (~~~N59 p) 64
    have h2 := flat_le (sqs (~~~N59 p) 64) (fun s => [(⟨s, s, 0, k, false⟩ : Mv)]) 1 fun _ _ => by simp
    omega
theorem lp56b {p : Pos} (h0 : 0 ≤ p.turn) (h1 : p.turn ≤ 1) : ∃ r, lp56_3 p 0 ([], 0) = some r ∧ r.1 = [1, 2, 3, 4, 5].flatMap (drops p) := by
  refine lp_many (I := fun x => 0 ≤ x.2 ∧ x.2 ≤ 5 ∧ x.1 = (([1, 2, 3, 4, 5] : List Int).take x.2.toNat).flatMap (drops p) ∧ (x.1.length : Int) ≤ 64 * x.2) (μ := fun x => (5 - x.2).toNat) ?_ _ ⟨by simp, by simp, by simp, by simp⟩ (by simp)
  rintro ⟨o, n⟩ ⟨g0, g1, g2, g3⟩
  simp only at g0 g1 g2 g3
  by_cases hc : n < 5
  · have hw : wr .i64 (n + 1) = n + 1 := wi64 (by omega) (by omega)
    have hw8 : wr .u8 (n + 1) = n + 1 := wu8 (by omega) (by omega)
    have s1 := sqs_len (~~~N59 p &&& 72057594037927680#64) 64
    have s2 := sqs_len (~~~N59 p) 64
    have d1 := of_some (lp56a (n + 1) n (sqs (~~~N59 p &&& 72057594037927680#64) 64) p 0 o s1 (fun _ h => sqs_in h) (by omega))
    have d2 := of_some (lp56a (n + 1) n (sqs (~~~N59 p) 64) p 0 o s2 (fun _ h => sqs_in h) (by omega))
    have e : ([1, 2, 3, 4, 5] : List Int).getD n.toNat 0 = n + 1 := by
      have : n = 0 ∨ n = 1 ∨ n = 2 ∨ n = 3 ∨ n = 4 := by omega
      rcases this with rfl | rfl | rfl | rfl | rfl <;> rfl
    have hs : Nxt (fun x : List Mv × Int => 0 ≤ x.2 ∧ x.2 ≤ 5 ∧ x.1 = (([1, 2, 3, 4, 5] : List Int).take x.2.toNat).flatMap (drops p) ∧ x.1.length ≤ 64 * x.2) (fun r : List Mv × Int × Bool => r.1 = [1, 2, 3, 4, 5].flatMap (drops p)) (fun x => (5 - x.2).toNat) (5 - n).toNat (.go (o ++ drops p (n + 1), n + 1)) := by
      have hq := drops_len p (n + 1)
      refine ⟨⟨by simp; omega, by simp; omega, ?_, ?_⟩, by simp; omega⟩
      · simp only
        rw [show (n + 1).toNat = n.toNat + 1 by omega, take_next 0 _ (by simp; omega), g2, e]
      · simp only [List.length_append]
        omega
    refine ⟨c_true (fun _ => ?_) fun _ => rfl, c_ind (fun _ => ?_) fun h => absurd h (by simpa using hc)⟩
    · rw [hw, hw8, N98_eq, N98_eq]
      refine a_true (by simp; omega) fun _ => a_true (by simp; omega) fun _ => c_true (fun _ => rfl) fun _ => a_true (t59 _) fun _ => c_true (fun _ => a_true (t98 _) fun _ => a_true d1.1 fun _ => rfl) fun _ => a_true (t98 _) fun _ => a_true d2.1 fun _ => rfl
    · rw [hw, hw8, N98_eq, N98_eq]
      refine c_ind (fun h => ?_) fun h => c_ind (fun h' => ?_) fun h' => ?_
      · have e : drops p (n + 1) = [] := by unfold drops; rw [h]; rfl
        rw [e, List.append_nil] at hs; exact hs
      · have e : drops p (n + 1) = (sqs (~~~N59 p &&& 72057594037927680#64) 64).flatMap fun s => [⟨s, s, 0, n + 1, false⟩] := by unfold drops; rw [h, h']; rfl
        rw [e] at hs; rw [d1.2]; exact hs
      · have e : drops p (n + 1) = (sqs (~~~N59 p) 64).flatMap fun s => [⟨s, s, 0, n + 1, false⟩] := by unfold drops; rw [h, h']; rfl
        rw [e] at hs; rw [d2.2]; exact hs
  · refine ⟨c_true (fun h => absurd h (by simpa using hc)) fun _ => rfl, c_ind (fun h => absurd h (by simpa using hc)) fun _ => ?_⟩
    have : n = 5 := by omega
    subst this
    exact g2
theorem t56 {p : Pos} (hv : 0 ≤ p.variant) (h0 : 0 ≤ p.turn) : ok56 p = true := by
  unfold ok56
  refine c_true (fun _ => rfl) fun h => a_true (t112 hv) fun _ => c_true (fun _ => rfl) fun _ => a_true ?_ fun _ => rfl
  exact (of_some (lp56b h0 (by simpa using h))).1
theorem N56_eq {p : Pos} (h0 : 0 ≤ p.turn) : N56 p = bif decide (p.turn > 1) then [] else bif !N112 p.variant then [] else [1, 2, 3, 4, 5].flatMap (drops p) := by
  unfold N56
  by_cases h : p.turn ≤ 1
  · rw [(of_some (lp56b h0 h)).2]
  · rw [show decide (p.turn > 1) = true by simp; omega]; rfl
theorem N56_len {p : Pos} (h0 : 0 ≤ p.turn) : (N56 p).length ≤ 320 := by
  rw [N56_eq h0]
  refine c_ind (P := fun l : List Mv => l.length ≤ 320) (fun _ => by simp) fun _ => c_ind (P := fun l : List Mv => l.length ≤ 320) (fun _ => by simp) fun _ => ?_
  have := flat_le [1, 2, 3, 4, 5] (drops p) 64 fun k _ => drops_len p k
  simpa using this
theorem N56_mem {p : Pos} (h0 : 0 ≤ p.turn) {m : Mv} (h : m ∈ N56 p) : p.turn ≤ 1 ∧ N112 p.variant = true ∧ m.frm = m.to ∧ 0 ≤ m.to ∧ m.to < 64 ∧ m.cas = false ∧ 1 ≤ m.drp ∧ m.drp ≤ 5 ∧ m.pro = 0 := by
  rw [N56_eq h0] at h
  revert h
  refine c_ind (P := fun l : List Mv => m ∈ l → _) (fun _ h => by cases h) fun h1 => c_ind (P := fun l : List Mv => m ∈ l → _) (fun _ h => by cases h) fun h2 h => ?_
  obtain ⟨k, hk, hm⟩ := List.mem_flatMap.1 h
  have hk' : 1 ≤ k ∧ k ≤ 5 := by simp at hk; omega
  have key : ∀ b : BitVec 64, m ∈ (sqs b 64).flatMap (fun s => [(⟨s, s, 0, k, false⟩ : Mv)]) → m.frm = m.to ∧ 0 ≤ m.to ∧ m.to < 64 ∧ m.cas = false ∧ 1 ≤ m.drp ∧ m.drp ≤ 5 ∧ m.pro = 0 := by
    intro b hb
    obtain ⟨s, hs, hm⟩ := List.mem_flatMap.1 hb
    have := sqs_in hs
    rw [List.mem_singleton.1 hm]
    exact ⟨rfl, this.1, this.2, rfl, hk'.1, hk'.2, rfl⟩
  refine ⟨by simpa using h1, by simpa using h2, ?_⟩
  revert hm
  unfold drops
  exact c_ind (P := fun l : List Mv => m ∈ l → _) (fun _ h => by cases h) fun _ => c_ind (P := fun l : List Mv => m ∈ l → _) (fun _ => key _) fun _ => key _
theorem N22_eq (p : Pos) : N22 p = N54 p ++ N55 p ++ N56 p := by unfold N22; rw [List.nil_append]
theorem N22_len {p : Pos} (hp : PosIn p) : (N22 p).length ≤ 20802 := by
  have a := N54_len hp.v0
  have b := N55_len hp
  have c := N56_len hp.t0
  rw [N22_eq, List.length_append, List.length_append]
  omega
theorem t22 {p : Pos} (hp : PosIn p) : ok22 p = true := by
  have a := N54_len hp.v0
  have b := N55_len hp
  have c := N56_len hp.t0
  unfold ok22
  rw [wi64 (n := 0 + Int.ofNat (N54 p).length) (by first | omega | (simp; done) | (simp; omega)) (by first | omega | (simp; done) | (simp; omega))]
  rw [wi64 (n := 0 + Int.ofNat (N54 p).length + Int.ofNat (N55 p).length) (by first | omega | (simp; done) | (simp; omega)) (by first | omega | (simp; done) | (simp; omega))]
  rw [wi64 (n := 0 + Int.ofNat (N54 p).length + Int.ofNat (N55 p).length + Int.ofNat (N56 p).length) (by first | omega | (simp; done) | (simp; omega)) (by first | omega | (simp; done) | (simp; omega))]
  refine a_true (t54 hp.v0) fun _ => a_true (t55 hp) fun _ => a_true (t56 hp.v0 hp.t0) fun _ => ?_
  simp
  omega
end Kz
end
section
namespace Kz
open Go Go.RowKit Go.Proofs
set_option maxRecDepth 100000
set_option maxHeartbeats 4000000
noncomputable def K147 : List (Nat × List (Nat × List Nat)) := [(147, [(0, (0 :: 1 :: (rn 4 8 (15 :: 16 :: (rn 22 20 (rn 44 7 [])))))), (1, (0 :: 1 :: (rn 4 18 (rn 23 19 (rn 44 7 []))))), (2, (rn 0 4 (rn 5 46 []))), (3, (0 :: 1 :: (rn 4 23 (rn 30 12 (rn 44 7 []))))), (4, (0 :: 1 :: (rn 4 23 (rn 31 11 (rn 44 7 []))))), (5, (0 :: 1 :: 4 :: 5 :: (rn 7 20 (rn 30 12 (rn 44 7 []))))), (6, (0 :: 1 :: 4 :: 5 :: 6 :: (rn 8 19 (rn 30 12 (rn 44 7 []))))), (7, (0 :: 1 :: (rn 4 23 (rn 30 12 (rn 45 6 []))))), (8, (rn 0 4 (rn 5 46 []))), (9, (0 :: 1 :: (rn 4 23 (rn 30 12 (rn 44 7 []))))), (10, (rn 0 50 [])), (11, (rn 0 4 (rn 5 46 []))), (12, (rn 0 4 (rn 5 46 [])))])]
noncomputable def B147 : Base := baseOf Pz (fun f i => lkK f i K147) [(110, G110)] [] []
theorem hB147 : BOk B147 := base_ok named_z ⟨s110, trivial⟩ trivial trivial
noncomputable def N147 (a : Pos) (b : Mv) : Int := (bif decide (a.turn > 1) then (-1) else (bif !b.cas then (-1) else (bif b.frm == b.to then (-1) else (bif decide (wr .i64 (wr .i64 b.frm - N110 a.turn) < 0) then (-1) else (bif decide (wr .i64 (wr .i64 b.frm - N110 a.turn) > 7) then (-1) else (bif decide (wr .i64 (wr .i64 b.to - N110 a.turn) < 0) then (-1) else (bif decide (wr .i64 (wr .i64 b.to - N110 a.turn) > 7) then (-1) else (bif decide (b.to > b.frm) then (0) else (1)))))))))
noncomputable def ok147 (a : Pos) (b : Mv) : Bool := true
theorem E147 (a : Pos) (b : Mv) : evPure B147 14 147 [Pos.av a, Mv.av b] = Tr.br (decide (a.turn > 1)) (Tr.ret (AV.cint .i64 (-1))) (Tr.br (!b.cas) (Tr.ret (AV.cint .i64 (-1))) (Tr.br (b.frm == b.to) (Tr.ret (AV.cint .i64 (-1))) (Tr.br (isPS Pz 110 [AV.int .u8 a.turn] ((dI .i64).res (N110 a.turn))) (Tr.br (decide (wr .i64 (wr .i64 b.frm - N110 a.turn) < 0)) (Tr.ret (AV.cint .i64 (-1))) (Tr.br (decide (wr .i64 (wr .i64 b.frm - N110 a.turn) > 7)) (Tr.ret (AV.cint .i64 (-1))) (Tr.br (isPS Pz 110 [AV.int .u8 a.turn] ((dI .i64).res (N110 a.turn))) (Tr.br (decide (wr .i64 (wr .i64 b.to - N110 a.turn) < 0)) (Tr.ret (AV.cint .i64 (-1))) (Tr.br (decide (wr .i64 (wr .i64 b.to - N110 a.turn) > 7)) (Tr.ret (AV.cint .i64 (-1))) (Tr.br (decide (b.to > b.frm)) (Tr.ret (AV.cint .i64 0)) (Tr.ret (AV.cint .i64 1))))) Tr.fail))) Tr.fail))) := by kernel_rfl
theorem P147 (a : Pos) (b : Mv) (h : ok147 a b = true) : PS Pz 147 [Pos.av a, Mv.av b] ((dI .i64).res (N147 a b)) := ps_gotR hB147 (E147 a b) (gr_br2 (gr_ret rfl) (gr_br2 (gr_ret rfl) (gr_br2 (gr_ret rfl) (gr_callT (P110 (a.turn) rfl) (gr_br2 (gr_ret rfl) (gr_br2 (gr_ret rfl) (gr_callT (P110 (a.turn) rfl) (gr_br2 (gr_ret rfl) (gr_br2 (gr_ret rfl) (gr_br2 (gr_ret rfl) (gr_ret rfl))))))))))) h
noncomputable def G147 : List AV → Tr AV := g2 dPos dMv (fun a b => sure Pz 147 [Pos.av a, Mv.av b] ((dI .i64).res (N147 a b)))
theorem s147 : Sound Pz 147 G147 := sound2 (fun _ _ => at_sure)
end Kz
end
section
namespace Kz
open Go Go.RowKit Go.Proofs
set_option maxRecDepth 100000
set_option maxHeartbeats 4000000
noncomputable def K93 : List (Nat × List (Nat × List Nat)) := [(93, [(0, (0 :: 1 :: (rn 4 25 []))), (1, (0 :: 1 :: (rn 3 4 (rn 8 21 [])))), (2, (0 :: 1 :: (rn 3 4 (rn 8 5 (rn 14 15 []))))), (3, (rn 0 4 (rn 7 22 []))), (4, (0 :: 1 :: (rn 3 5 (rn 9 20 [])))), (5, (rn 0 4 (rn 7 22 [])))]), (148, [(0, [1, 2, 3]), (1, [1, 2, 3])])]
noncomputable def B93 : Base := baseOf Pz (fun f i => lkK f i K93) [(110, G110), (147, G147)] [] []
theorem hB93 : BOk B93 := base_ok named_z ⟨s110, s147, trivial⟩ trivial trivial
noncomputable def N93 (a : Pos) (b : Mv) : (Int × Int × Bool) := (bif decide (N147 (Pos.mk a.variant a.board a.promoted a.pockets a.turn a.rooks a.passing a.checks a.half a.full) (Mv.mk b.frm b.to b.pro b.drp b.cas) < 0) then ((0), (0), (false)) else ((wr .i64 (N110 a.turn + (if 2 = 2 then List.take 2 (List.drop ((N147 (Pos.mk a.variant a.board a.promoted a.pockets a.turn a.rooks a.passing a.checks a.half a.full) (Mv.mk b.frm b.to b.pro b.drp b.cas)).toNat * 2) (if 4 = 4 then if 2 = 4 then ((List.replicate 2 0).set 0 2).set 1 3 else List.take 2 (if 2 = 4 then ((List.replicate 2 0).set 0 6).set 1 5 else List.take 0 (List.replicate 4 0) ++ ((List.replicate 2 0).set 0 6).set 1 5 ++ List.drop 2 (List.replicate 4 0)) ++ ((List.replicate 2 0).set 0 2).set 1 3 ++ List.drop 4 (if 2 = 4 then ((List.replicate 2 0).set 0 6).set 1 5 else List.take 0 (List.replicate 4 0) ++ ((List.replicate 2 0).set 0 6).set 1 5 ++ List.drop 2 (List.replicate 4 0)) else (List.take 0 (List.replicate 4 0) ++ if 2 = 4 then ((List.replicate 2 0).set 0 2).set 1 3 else List.take 2 (if 2 = 4 then ((List.replicate 2 0).set 0 6).set 1 5 else List.take 0 (List.replicate 4 0) ++ ((List.replicate 2 0).set 0 6).set 1 5 ++ List.drop 2 (List.replicate 4 0)) ++ ((List.replicate 2 0).set 0 2).set 1 3 ++ List.drop 4 (if 2 = 4 then ((List.replicate 2 0).set 0 6).set 1 5 else List.take 0 (List.replicate 4 0) ++ ((List.replicate 2 0).set 0 6).set 1 5 ++ List.drop 2 (List.replicate 4 0))) ++ List.drop 4 (List.replicate 4 0))) else List.take 0 (List.replicate 2 0) ++ List.take 2 (List.drop ((N147 (Pos.mk a.variant a.board a.promoted a.pockets a.turn a.rooks a.passing a.checks a.half a.full) (Mv.mk b.frm b.to b.pro b.drp b.cas)).toNat * 2) (if 4 = 4 then if 2 = 4 then ((List.replicate 2 0).set 0 2).set 1 3 else List.take 2 (if 2 = 4 then ((List.replicate 2 0).set 0 6).set 1 5 else List.take 0 (List.replicate 4 0) ++ ((List.replicate 2 0).set 0 6).set 1 5 ++ List.drop 2 (List.replicate 4 0)) ++ ((List.replicate 2 0).set 0 2).set 1 3 ++ List.drop 4 (if 2 = 4 then ((List.replicate 2 0).set 0 6).set 1 5 else List.take 0 (List.replicate 4 0) ++ ((List.replicate 2 0).set 0 6).set 1 5 ++ List.drop 2 (List.replicate 4 0)) else (List.take 0 (List.replicate 4 0) ++ if 2 = 4 then ((List.replicate 2 0).set 0 2).set 1 3 else List.take 2 (if 2 = 4 then ((List.replicate 2 0).set 0 6).set 1 5 else List.take 0 (List.replicate 4 0) ++ ((List.replicate 2 0).set 0 6).set 1 5 ++ List.drop 2 (List.replicate 4 0)) ++ ((List.replicate 2 0).set 0 2).set 1 3 ++ List.drop 4 (if 2 = 4 then ((List.replicate 2 0).set 0 6).set 1 5 else List.take 0 (List.replicate 4 0) ++ ((List.replicate 2 0).set 0 6).set 1 5 ++ List.drop 2 (List.replicate 4 0))) ++ List.drop 4 (List.replicate 4 0))) ++ List.drop 2 (List.replicate 2 0)).getD 0 0)), (wr .i64 (N110 a.turn + (if 2 = 2 then List.take 2 (List.drop ((N147 (Pos.mk a.variant a.board a.promoted a.pockets a.turn a.rooks a.passing a.checks a.half a.full) (Mv.mk b.frm b.to b.pro b.drp b.cas)).toNat * 2) (if 4 = 4 then if 2 = 4 then ((List.replicate 2 0).set 0 2).set 1 3 else List.take 2 (if 2 = 4 then ((List.replicate 2 0).set 0 6).set 1 5 else List.take 0 (List.replicate 4 0) ++ ((List.replicate 2 0).set 0 6).set 1 5 ++ List.drop 2 (List.replicate 4 0)) ++ ((List.replicate 2 0).set 0 2).set 1 3 ++ List.drop 4 (if 2 = 4 then ((List.replicate 2 0).set 0 6).set 1 5 else List.take 0 (List.replicate 4 0) ++ ((List.replicate 2 0).set 0 6).set 1 5 ++ List.drop 2 (List.replicate 4 0)) else (List.take 0 (List.replicate 4 0) ++ if 2 = 4 then ((List.replicate 2 0).set 0 2).set 1 3 else List.take 2 (if 2 = 4 then ((List.replicate 2 0).set 0 6).set 1 5 else List.take 0 (List.replicate 4 0) ++ ((List.replicate 2 0).set 0 6).set 1 5 ++ List.drop 2 (List.replicate 4 0)) ++ ((List.replicate 2 0).set 0 2).set 1 3 ++ List.drop 4 (if 2 = 4 then ((List.replicate 2 0).set 0 6).set 1 5 else List.take 0 (List.replicate 4 0) ++ ((List.replicate 2 0).set 0 6).set 1 5 ++ List.drop 2 (List.replicate 4 0))) ++ List.drop 4 (List.replicate 4 0))) else List.take 0 (List.replicate 2 0) ++ List.take 2 (List.drop ((N147 (Pos.mk a.variant a.board a.promoted a.pockets a.turn a.rooks a.passing a.checks a.half a.full) (Mv.mk b.frm b.to b.pro b.drp b.cas)).toNat * 2) (if 4 = 4 then if 2 = 4 then ((List.replicate 2 0).set 0 2).set 1 3 else List.take 2 (if 2 = 4 then ((List.replicate 2 0).set 0 6).set 1 5 else List.take 0 (List.replicate 4 0) ++ ((List.replicate 2 0).set 0 6).set 1 5 ++ List.drop 2 (List.replicate 4 0)) ++ ((List.replicate 2 0).set 0 2).set 1 3 ++ List.drop 4 (if 2 = 4 then ((List.replicate 2 0).set 0 6).set 1 5 else List.take 0 (List.replicate 4 0) ++ ((List.replicate 2 0).set 0 6).set 1 5 ++ List.drop 2 (List.replicate 4 0)) else (List.take 0 (List.replicate 4 0) ++ if 2 = 4 then ((List.replicate 2 0).set 0 2).set 1 3 else List.take 2 (if 2 = 4 then ((List.replicate 2 0).set 0 6).set 1 5 else List.take 0 (List.replicate 4 0) ++ ((List.replicate 2 0).set 0 6).set 1 5 ++ List.drop 2 (List.replicate 4 0)) ++ ((List.replicate 2 0).set 0 2).set 1 3 ++ List.drop 4 (if 2 = 4 then ((List.replicate 2 0).set 0 6).set 1 5 else List.take 0 (List.replicate 4 0) ++ ((List.replicate 2 0).set 0 6).set 1 5 ++ List.drop 2 (List.replicate 4 0))) ++ List.drop 4 (List.replicate 4 0))) ++ List.drop 2 (List.replicate 2 0)).getD 1 0)), (true)))
noncomputable def ok93 (a : Pos) (b : Mv) : Bool := (bif decide (N147 (Pos.mk a.variant a.board a.promoted a.pockets a.turn a.rooks a.passing a.checks a.half a.full) (Mv.mk b.frm b.to b.pro b.drp b.cas) < 0) then true else (decide (0 ≤ N147 (Pos.mk a.variant a.board a.promoted a.pockets a.turn a.rooks a.passing a.checks a.half a.full) (Mv.mk b.frm b.to b.pro b.drp b.cas)) && decide (N147 (Pos.mk a.variant a.board a.promoted a.pockets a.turn a.rooks a.passing a.checks a.half a.full) (Mv.mk b.frm b.to b.pro b.drp b.cas) < ↑2) && true))
theorem E93 (a : Pos) (b : Mv) : evPure B93 14 93 [Pos.av a, Mv.av b] = (let z2 := (Pos.mk a.variant a.board a.promoted a.pockets a.turn a.rooks a.passing a.checks a.half a.full); let z3 := (Mv.mk b.frm b.to b.pro b.drp b.cas); let z1 := (List.drop ((N147 z2 z3).toNat * 2) (if 4 = 4 then if 2 = 4 then ((List.replicate 2 0).set 0 2).set 1 3 else List.take 2 (if 2 = 4 then ((List.replicate 2 0).set 0 6).set 1 5 else List.take 0 (List.replicate 4 0) ++ ((List.replicate 2 0).set 0 6).set 1 5 ++ List.drop 2 (List.replicate 4 0)) ++ ((List.replicate 2 0).set 0 2).set 1 3 ++ List.drop 4 (if 2 = 4 then ((List.replicate 2 0).set 0 6).set 1 5 else List.take 0 (List.replicate 4 0) ++ ((List.replicate 2 0).set 0 6).set 1 5 ++ List.drop 2 (List.replicate 4 0)) else (List.take 0 (List.replicate 4 0) ++ if 2 = 4 then ((List.replicate 2 0).set 0 2).set 1 3 else List.take 2 (if 2 = 4 then ((List.replicate 2 0).set 0 6).set 1 5 else List.take 0 (List.replicate 4 0) ++ ((List.replicate 2 0).set 0 6).set 1 5 ++ List.drop 2 (List.replicate 4 0)) ++ ((List.replicate 2 0).set 0 2).set 1 3 ++ List.drop 4 (if 2 = 4 then ((List.replicate 2 0).set 0 6).set 1 5 else List.take 0 (List.replicate 4 0) ++ ((List.replicate 2 0).set 0 6).set 1 5 ++ List.drop 2 (List.replicate 4 0))) ++ List.drop 4 (List.replicate 4 0))); let z4 := (if 2 = 2 then List.take 2 z1 else List.take 0 (List.replicate 2 0) ++ List.take 2 z1 ++ List.drop 2 (List.replicate 2 0)); let z5 := (isPS Pz 110 [AV.int .u8 a.turn] ((dI .i64).res (N110 a.turn))); Tr.br (isPS Pz 147 [z2.av, z3.av] ((dI .i64).res (N147 z2 z3))) (Tr.br (decide (N147 z2 z3 < 0)) (Tr.ret (AV.tuple [AV.cint .i64 0, AV.cint .i64 0, AV.cbool false])) (Tr.br (decide (0 ≤ N147 z2 z3) && decide (N147 z2 z3 < ↑2)) (Tr.br z5 (Tr.br z5 (Tr.ret (AV.tuple [AV.int .i64 (wr .i64 (N110 a.turn + z4.getD 0 0)), AV.int .i64 (wr .i64 (N110 a.turn + z4.getD 1 0)), AV.cbool true])) Tr.fail) Tr.fail) Tr.fail)) Tr.fail) := by kernel_rfl
theorem P93 (a : Pos) (b : Mv) (h : ok93 a b = true) : PS Pz 93 [Pos.av a, Mv.av b] ((d3 (dI .i64) (dI .i64) dB).res (N93 a b)) := ps_gotR hB93 (E93 a b) (gr_callT (P147 (Pos.mk a.variant a.board a.promoted a.pockets a.turn a.rooks a.passing a.checks a.half a.full) (Mv.mk b.frm b.to b.pro b.drp b.cas) rfl) (gr_br (gr_ret rfl) (gr_guard (gr_callT (P110 (a.turn) rfl) (gr_callT (P110 (a.turn) rfl) (gr_ret rfl)))))) h
noncomputable def G93 : List AV → Tr AV := g2 dPos dMv (fun a b => sure Pz 93 [Pos.av a, Mv.av b] ((d3 (dI .i64) (dI .i64) dB).res (N93 a b)))
theorem s93 : Sound Pz 93 G93 := sound2 (fun _ _ => at_sure)
end Kz
end
section
namespace Kz
open Go Go.RowKit Go.Proofs
set_option maxRecDepth 100000
set_option maxHeartbeats 4000000
noncomputable def K149 : List (Nat × List (Nat × List Nat)) := [(149, [(0, (rn 2 6 [10, 11, 14])), (1, (rn 0 4 (rn 5 10 [])))])]
noncomputable def B149 : Base := baseOf Pz (fun f i => lkK f i K149) [] [] []
theorem hB149 : BOk B149 := base_ok named_z trivial trivial trivial
noncomputable def N149 (a : Int) (b : Int) : Bool := (bif decide (a ≤ 1) then (bif decide (b ≥ 1) then (decide (b ≤ 5)) else (false)) else (false))
noncomputable def ok149 (a : Int) (b : Int) : Bool := true
theorem E149 (a : Int) (b : Int) : evPure B149 14 149 [.int .u8 a, .int .u8 b] = Tr.br (decide (a ≤ 1)) (Tr.br (decide (b ≥ 1)) (Tr.ret (AV.bool (decide (b ≤ 5)))) (Tr.ret (AV.cbool false))) (Tr.ret (AV.cbool false)) := by kernel_rfl
theorem P149 (a : Int) (b : Int) (h : ok149 a b = true) : PS Pz 149 [.int .u8 a, .int .u8 b] (dB.res (N149 a b)) := ps_gotR hB149 (E149 a b) (gr_br2 (gr_br2 (gr_ret rfl) (gr_ret rfl)) (gr_ret rfl)) h
noncomputable def G149 : List AV → Tr AV := g2 (dI .u8) (dI .u8) (fun a b => sure Pz 149 [.int .u8 a, .int .u8 b] (dB.res (N149 a b)))
theorem s149 : Sound Pz 149 G149 := sound2 (fun _ _ => at_sure)
end Kz
end
section
namespace Kz
open Go Go.RowKit Go.Proofs
set_option maxRecDepth 100000
set_option maxHeartbeats 4000000
noncomputable def K94 : List (Nat × List (Nat × List Nat)) := [(94, [(0, (0 :: 4 :: 5 :: (rn 7 6 (rn 20 13 [])))), (1, (0 :: 4 :: 5 :: (rn 7 13 (rn 21 12 [])))), (2, (rn 0 6 (rn 8 25 []))), (3, (0 :: 1 :: 2 :: 4 :: 5 :: (rn 7 26 []))), (4, (rn 0 6 (rn 8 25 [])))])]
noncomputable def B94 : Base := baseOf Pz (fun f i => lkK f i K94) [(149, G149)] [] []
theorem hB94 : BOk B94 := base_ok named_z ⟨s149, trivial⟩ trivial trivial
noncomputable def N94 (a : Pos) (b : Int) (c : Int) : (Pos × Bool) := (bif !N149 b c then (⟨(a.variant), (if 64 = 64 then a.board else List.take 0 (List.replicate 64 0) ++ a.board ++ List.drop 64 (List.replicate 64 0)), (a.promoted), (if 12 = 12 then a.pockets else List.take 0 (List.replicate 12 0) ++ a.pockets ++ List.drop 12 (List.replicate 12 0)), (a.turn), (if 4 = 4 then a.rooks else List.take 0 (List.replicate 4 0) ++ a.rooks ++ List.drop 4 (List.replicate 4 0)), (a.passing), (if 2 = 2 then a.checks else List.take 0 (List.replicate 2 0) ++ a.checks ++ List.drop 2 (List.replicate 2 0)), (a.half), (a.full)⟩, (false)) else (bif a.pockets.getD (scale 6 b + scale 1 c).toNat 0 == 0 then (⟨(a.variant), (if 64 = 64 then a.board else List.take 0 (List.replicate 64 0) ++ a.board ++ List.drop 64 (List.replicate 64 0)), (a.promoted), (if 12 = 12 then a.pockets else List.take 0 (List.replicate 12 0) ++ a.pockets ++ List.drop 12 (List.replicate 12 0)), (a.turn), (if 4 = 4 then a.rooks else List.take 0 (List.replicate 4 0) ++ a.rooks ++ List.drop 4 (List.replicate 4 0)), (a.passing), (if 2 = 2 then a.checks else List.take 0 (List.replicate 2 0) ++ a.checks ++ List.drop 2 (List.replicate 2 0)), (a.half), (a.full)⟩, (false)) else (⟨(a.variant), (if 64 = 64 then a.board else List.take 0 (List.replicate 64 0) ++ a.board ++ List.drop 64 (List.replicate 64 0)), (a.promoted), (if 12 = 12 then a.pockets.set (scale 6 b + scale 1 c).toNat (wr .u8 (a.pockets.getD (scale 6 b + scale 1 c).toNat 0 - 1)) else List.take 0 (List.replicate 12 0) ++ a.pockets.set (scale 6 b + scale 1 c).toNat (wr .u8 (a.pockets.getD (scale 6 b + scale 1 c).toNat 0 - 1)) ++ List.drop 12 (List.replicate 12 0)), (a.turn), (if 4 = 4 then a.rooks else List.take 0 (List.replicate 4 0) ++ a.rooks ++ List.drop 4 (List.replicate 4 0)), (a.passing), (if 2 = 2 then a.checks else List.take 0 (List.replicate 2 0) ++ a.checks ++ List.drop 2 (List.replicate 2 0)), (a.half), (a.full)⟩, (true))))
noncomputable def ok94 (a : Pos) (b : Int) (c : Int) : Bool := (bif !N149 b c then true else (decide (0 ≤ b) && decide (b < ↑2) && (decide (0 ≤ c) && decide (c < ↑6) && (bif a.pockets.getD (scale 6 b + scale 1 c).toNat 0 == 0 then true else (decide (0 ≤ b) && decide (b < ↑2) && (decide (0 ≤ c) && decide (c < ↑6) && (decide (0 ≤ b) && decide (b < ↑2) && (decide (0 ≤ c) && decide (c < ↑6) && true))))))))
theorem E94 (a : Pos) (b : Int) (c : Int) : evPure B94 14 94 [Pos.av a, .int .u8 b, .int .u8 c] = (let z1 := (Tr.ret (AV.tuple [AV.agg [AV.int .u8 a.variant, AV.ints .u8 64 (if 64 = 64 then a.board else List.take 0 (List.replicate 64 0) ++ a.board ++ List.drop 64 (List.replicate 64 0)), AV.u64 a.promoted, AV.ints .u8 12 (if 12 = 12 then a.pockets else List.take 0 (List.replicate 12 0) ++ a.pockets ++ List.drop 12 (List.replicate 12 0)), AV.int .u8 a.turn, AV.ints .i8 4 (if 4 = 4 then a.rooks else List.take 0 (List.replicate 4 0) ++ a.rooks ++ List.drop 4 (List.replicate 4 0)), AV.int .i8 a.passing, AV.ints .u8 2 (if 2 = 2 then a.checks else List.take 0 (List.replicate 2 0) ++ a.checks ++ List.drop 2 (List.replicate 2 0)), AV.int .i64 a.half, AV.int .i64 a.full], AV.cbool false])); let z2 := (scale 6 b + scale 1 c); Tr.br (isPS Pz 149 [AV.int .u8 b, AV.int .u8 c] (dB.res (N149 b c))) (Tr.br (!N149 b c) z1 (Tr.br (decide (0 ≤ b) && decide (b < ↑2)) (Tr.br (decide (0 ≤ c) && decide (c < ↑6)) (Tr.br (a.pockets.getD z2.toNat 0 == 0) z1 (Tr.br (decide (0 ≤ b) && decide (b < ↑2)) (Tr.br (decide (0 ≤ c) && decide (c < ↑6)) (Tr.br (decide (0 ≤ b) && decide (b < ↑2)) (Tr.br (decide (0 ≤ c) && decide (c < ↑6)) (Tr.ret (AV.tuple [AV.agg [AV.int .u8 a.variant, AV.ints .u8 64 (if 64 = 64 then a.board else List.take 0 (List.replicate 64 0) ++ a.board ++ List.drop 64 (List.replicate 64 0)), AV.u64 a.promoted, AV.ints .u8 12 (if 12 = 12 then a.pockets.set z2.toNat (wr .u8 (a.pockets.getD z2.toNat 0 - 1)) else List.take 0 (List.replicate 12 0) ++ a.pockets.set z2.toNat (wr .u8 (a.pockets.getD z2.toNat 0 - 1)) ++ List.drop 12 (List.replicate 12 0)), AV.int .u8 a.turn, AV.ints .i8 4 (if 4 = 4 then a.rooks else List.take 0 (List.replicate 4 0) ++ a.rooks ++ List.drop 4 (List.replicate 4 0)), AV.int .i8 a.passing, AV.ints .u8 2 (if 2 = 2 then a.checks else List.take 0 (List.replicate 2 0) ++ a.checks ++ List.drop 2 (List.replicate 2 0)), AV.int .i64 a.half, AV.int .i64 a.full], AV.cbool true])) Tr.fail) Tr.fail) Tr.fail) Tr.fail)) Tr.fail) Tr.fail)) Tr.fail) := by kernel_rfl
theorem P94 (a : Pos) (b : Int) (c : Int) (h : ok94 a b c = true) : PS Pz 94 [Pos.av a, .int .u8 b, .int .u8 c] ((d2 dPos dB).res (N94 a b c)) := ps_gotR hB94 (E94 a b c) (gr_callT (P149 (b) (c) rfl) (gr_br (gr_ret rfl) (gr_guard (gr_guard (gr_br (gr_ret rfl) (gr_guard (gr_guard (gr_guard (gr_guard (gr_ret rfl)))))))))) h
noncomputable def G94 : List AV → Tr AV := g3 dPos (dI .u8) (dI .u8) (fun a b c => sure Pz 94 [Pos.av a, .int .u8 b, .int .u8 c] ((d2 dPos dB).res (N94 a b c)))
theorem s94 : Sound Pz 94 G94 := sound3 (fun _ _ _ => at_sure)
end Kz
end
section
namespace Kz
open Go Go.RowKit Go.Proofs
set_option maxRecDepth 100000
set_option maxHeartbeats 4000000
noncomputable def K97 : List (Nat × List (Nat × List Nat)) := [(97, [(0, (0 :: 4 :: 5 :: (rn 7 4 (rn 18 12 [])))), (1, (0 :: 4 :: 5 :: (rn 7 11 (rn 19 11 [])))), (2, (0 :: 1 :: 2 :: 4 :: 5 :: (rn 7 23 []))), (3, (rn 0 6 (rn 7 23 [])))])]
noncomputable def B97 : Base := baseOf Pz (fun f i => lkK f i K97) [(149, G149)] [] []
theorem hB97 : BOk B97 := base_ok named_z ⟨s149, trivial⟩ trivial trivial
noncomputable def N97 (a : Pos) (b : Int) (c : Int) : Pos := (bif N149 b c then (bif decide (a.pockets.getD (scale 6 b + scale 1 c).toNat 0 < 255) then ⟨(a.variant), (if 64 = 64 then a.board else List.take 0 (List.replicate 64 0) ++ a.board ++ List.drop 64 (List.replicate 64 0)), (a.promoted), (if 12 = 12 then a.pockets.set (scale 6 b + scale 1 c).toNat (wr .u8 (a.pockets.getD (scale 6 b + scale 1 c).toNat 0 + 1)) else List.take 0 (List.replicate 12 0) ++ a.pockets.set (scale 6 b + scale 1 c).toNat (wr .u8 (a.pockets.getD (scale 6 b + scale 1 c).toNat 0 + 1)) ++ List.drop 12 (List.replicate 12 0)), (a.turn), (if 4 = 4 then a.rooks else List.take 0 (List.replicate 4 0) ++ a.rooks ++ List.drop 4 (List.replicate 4 0)), (a.passing), (if 2 = 2 then a.checks else List.take 0 (List.replicate 2 0) ++ a.checks ++ List.drop 2 (List.replicate 2 0)), (a.half), (a.full)⟩ else ⟨(a.variant), (if 64 = 64 then a.board else List.take 0 (List.replicate 64 0) ++ a.board ++ List.drop 64 (List.replicate 64 0)), (a.promoted), (if 12 = 12 then a.pockets else List.take 0 (List.replicate 12 0) ++ a.pockets ++ List.drop 12 (List.replicate 12 0)), (a.turn), (if 4 = 4 then a.rooks else List.take 0 (List.replicate 4 0) ++ a.rooks ++ List.drop 4 (List.replicate 4 0)), (a.passing), (if 2 = 2 then a.checks else List.take 0 (List.replicate 2 0) ++ a.checks ++ List.drop 2 (List.replicate 2 0)), (a.half), (a.full)⟩) else ⟨(a.variant), (if 64 = 64 then a.board else List.take 0 (List.replicate 64 0) ++ a.board ++ List.drop 64 (List.replicate 64 0)), (a.promoted), (if 12 = 12 then a.pockets else List.take 0 (List.replicate 12 0) ++ a.pockets ++ List.drop 12 (List.replicate 12 0)), (a.turn), (if 4 = 4 then a.rooks else List.take 0 (List.replicate 4 0) ++ a.rooks ++ List.drop 4 (List.replicate 4 0)), (a.passing), (if 2 = 2 then a.checks else List.take 0 (List.replicate 2 0) ++ a.checks ++ List.drop 2 (List.replicate 2 0)), (a.half), (a.full)⟩)
noncomputable def ok97 (a : Pos) (b : Int) (c : Int) : Bool := (bif N149 b c then (decide (0 ≤ b) && decide (b < ↑2) && (decide (0 ≤ c) && decide (c < ↑6) && (bif decide (a.pockets.getD (scale 6 b + scale 1 c).toNat 0 < 255) then (decide (0 ≤ b) && decide (b < ↑2) && (decide (0 ≤ c) && decide (c < ↑6) && (decide (0 ≤ b) && decide (b < ↑2) && (decide (0 ≤ c) && decide (c < ↑6) && true)))) else true))) else true)
theorem E97 (a : Pos) (b : Int) (c : Int) : evPure B97 14 97 [Pos.av a, .int .u8 b, .int .u8 c] = (let z1 := (Tr.ret (AV.agg [AV.int .u8 a.variant, AV.ints .u8 64 (if 64 = 64 then a.board else List.take 0 (List.replicate 64 0) ++ a.board ++ List.drop 64 (List.replicate 64 0)), AV.u64 a.promoted, AV.ints .u8 12 (if 12 = 12 then a.pockets else List.take 0 (List.replicate 12 0) ++ a.pockets ++ List.drop 12 (List.replicate 12 0)), AV.int .u8 a.turn, AV.ints .i8 4 (if 4 = 4 then a.rooks else List.take 0 (List.replicate 4 0) ++ a.rooks ++ List.drop 4 (List.replicate 4 0)), AV.int .i8 a.passing, AV.ints .u8 2 (if 2 = 2 then a.checks else List.take 0 (List.replicate 2 0) ++ a.checks ++ List.drop 2 (List.replicate 2 0)), AV.int .i64 a.half, AV.int .i64 a.full])); let z2 := (scale 6 b + scale 1 c); Tr.br (isPS Pz 149 [AV.int .u8 b, AV.int .u8 c] (dB.res (N149 b c))) (Tr.br (N149 b c) (Tr.br (decide (0 ≤ b) && decide (b < ↑2)) (Tr.br (decide (0 ≤ c) && decide (c < ↑6)) (Tr.br (decide (a.pockets.getD z2.toNat 0 < 255)) (Tr.br (decide (0 ≤ b) && decide (b < ↑2)) (Tr.br (decide (0 ≤ c) && decide (c < ↑6)) (Tr.br (decide (0 ≤ b) && decide (b < ↑2)) (Tr.br (decide (0 ≤ c) && decide (c < ↑6)) (Tr.ret (AV.agg [AV.int .u8 a.variant, AV.ints .u8 64 (if 64 = 64 then a.board else List.take 0 (List.replicate 64 0) ++ a.board ++ List.drop 64 (List.replicate 64 0)), AV.u64 a.promoted, AV.ints .u8 12 (if 12 = 12 then a.pockets.set z2.toNat (wr .u8 (a.pockets.getD z2.toNat 0 + 1)) else List.take 0 (List.replicate 12 0) ++ a.pockets.set z2.toNat (wr .u8 (a.pockets.getD z2.toNat 0 + 1)) ++ List.drop 12 (List.replicate 12 0)), AV.int .u8 a.turn, AV.ints .i8 4 (if 4 = 4 then a.rooks else List.take 0 (List.replicate 4 0) ++ a.rooks ++ List.drop 4 (List.replicate 4 0)), AV.int .i8 a.passing, AV.ints .u8 2 (if 2 = 2 then a.checks else List.take 0 (List.replicate 2 0) ++ a.checks ++ List.drop 2 (List.replicate 2 0)), AV.int .i64 a.half, AV.int .i64 a.full])) Tr.fail) Tr.fail) Tr.fail) Tr.fail) z1) Tr.fail) Tr.fail) z1) Tr.fail) := by kernel_rfl
theorem P97 (a : Pos) (b : Int) (c : Int) (h : ok97 a b c = true) : PS Pz 97 [Pos.av a, .int .u8 b, .int .u8 c] (dPos.res (N97 a b c)) := ps_gotR hB97 (E97 a b c) (gr_callT (P149 (b) (c) rfl) (gr_br (gr_guard (gr_guard (gr_br (gr_guard (gr_guard (gr_guard (gr_guard (gr_ret rfl))))) (gr_ret rfl)))) (gr_ret rfl))) h
noncomputable def G97 : List AV → Tr AV := g3 dPos (dI .u8) (dI .u8) (fun a b c => sure Pz 97 [Pos.av a, .int .u8 b, .int .u8 c] (dPos.res (N97 a b c)))
theorem s97 : Sound Pz 97 G97 := sound3 (fun _ _ _ => at_sure)
end Kz
end
section
namespace Kz
open Go Go.RowKit Go.Proofs
set_option maxRecDepth 100000
set_option maxHeartbeats 4000000
noncomputable def K99 : List (Nat × List (Nat × List Nat)) := [(99, [(0, (0 :: (rn 3 7 (rn 12 20 [])))), (1, (0 :: (rn 3 9 (rn 13 19 [])))), (2, (rn 0 4 (rn 5 27 []))), (3, (0 :: 3 :: 4 :: (rn 6 26 []))), (4, (0 :: 3 :: 4 :: (rn 7 25 []))), (5, (0 :: 3 :: 4 :: (rn 7 12 (rn 20 12 [])))), (6, (0 :: 3 :: 4 :: (rn 7 25 []))), (7, (0 :: 3 :: 4 :: (rn 7 25 []))), (8, (rn 0 4 (rn 5 27 [])))])]
noncomputable def B99 : Base := baseOf Pz (fun f i => lkK f i K99) [(59, G59), (62, G62), (105, G105)] [] []
theorem hB99 : BOk B99 := base_ok named_z ⟨s59, s62, s105, trivial⟩ trivial trivial
noncomputable def N99 (a : Pos) (b : Int) : BitVec 64 := (bif decide (b < 0) then (0#64) else (bif decide (b ≥ 64) then (0#64) else (N105 b &&& N59 (Pos.mk a.variant a.board a.promoted a.pockets a.turn a.rooks a.passing a.checks a.half a.full) &&& ~~~N62 (Pos.mk a.variant a.board a.promoted a.pockets a.turn a.rooks a.passing a.checks a.half a.full) 0 1 &&& ~~~N62 (Pos.mk a.variant a.board a.promoted a.pockets a.turn a.rooks a.passing a.checks a.half a.full) (wr .u8 (0 + 1)) 1 ||| 1#64 <<< (BitVec.ofInt 64 b).toNat)))
noncomputable def ok99 (a : Pos) (b : Int) : Bool := (bif decide (b < 0) then true else (bif decide (b ≥ 64) then true else (ok105 (b) && (ok59 (Pos.mk a.variant a.board a.promoted a.pockets a.turn a.rooks a.passing a.checks a.half a.full) && (ok62 (Pos.mk a.variant a.board a.promoted a.pockets a.turn a.rooks a.passing a.checks a.half a.full) (0) (1) && (ok62 (Pos.mk a.variant a.board a.promoted a.pockets a.turn a.rooks a.passing a.checks a.half a.full) (wr .u8 (0 + 1)) (1) && true))))))
theorem E99 (a : Pos) (b : Int) : evPure B99 14 99 [Pos.av a, .int .i64 b] = Tr.br (decide (b < 0)) (Tr.ret (AV.u64 0#64)) (Tr.br (decide (b ≥ 64)) (Tr.ret (AV.u64 0#64)) (Tr.br (isPS Pz 105 [AV.int .i64 b] (dU.res (N105 b))) (Tr.br (isPS Pz 59 [(Pos.mk a.variant a.board a.promoted a.pockets a.turn a.rooks a.passing a.checks a.half a.full).av] (dU.res (N59 (Pos.mk a.variant a.board a.promoted a.pockets a.turn a.rooks a.passing a.checks a.half a.full)))) (Tr.br (isPS Pz 62 [(Pos.mk a.variant a.board a.promoted a.pockets a.turn a.rooks a.passing a.checks a.half a.full).av, AV.int .u8 0, AV.int .u8 1] (dU.res (N62 (Pos.mk a.variant a.board a.promoted a.pockets a.turn a.rooks a.passing a.checks a.half a.full) 0 1))) (Tr.br (isPS Pz 62 [(Pos.mk a.variant a.board a.promoted a.pockets a.turn a.rooks a.passing a.checks a.half a.full).av, AV.int .u8 (wr .u8 (0 + 1)), AV.int .u8 1] (dU.res (N62 (Pos.mk a.variant a.board a.promoted a.pockets a.turn a.rooks a.passing a.checks a.half a.full) (wr .u8 (0 + 1)) 1))) (Tr.ret (AV.u64 (N105 b &&& N59 (Pos.mk a.variant a.board a.promoted a.pockets a.turn a.rooks a.passing a.checks a.half a.full) &&& ~~~N62 (Pos.mk a.variant a.board a.promoted a.pockets a.turn a.rooks a.passing a.checks a.half a.full) 0 1 &&& ~~~N62 (Pos.mk a.variant a.board a.promoted a.pockets a.turn a.rooks a.passing a.checks a.half a.full) (wr .u8 (0 + 1)) 1 ||| 1#64 <<< (BitVec.ofInt 64 b).toNat))) Tr.fail) Tr.fail) Tr.fail) Tr.fail)) := by kernel_rfl
theorem P99 (a : Pos) (b : Int) (h : ok99 a b = true) : PS Pz 99 [Pos.av a, .int .i64 b] (dU.res (N99 a b)) := ps_gotR hB99 (E99 a b) (gr_br (gr_ret rfl) (gr_br (gr_ret rfl) (gr_call (P105 (b)) (gr_call (P59 (Pos.mk a.variant a.board a.promoted a.pockets a.turn a.rooks a.passing a.checks a.half a.full)) (gr_call (P62 (Pos.mk a.variant a.board a.promoted a.pockets a.turn a.rooks a.passing a.checks a.half a.full) (0) (1)) (gr_call (P62 (Pos.mk a.variant a.board a.promoted a.pockets a.turn a.rooks a.passing a.checks a.half a.full) (wr .u8 (0 + 1)) (1)) (gr_ret rfl))))))) h
noncomputable def G99 : List AV → Tr AV := g2 dPos (dI .i64) (fun a b => sure Pz 99 [Pos.av a, .int .i64 b] (dU.res (N99 a b)))
theorem s99 : Sound Pz 99 G99 := sound2 (fun _ _ => at_sure)
end Kz
end
section
namespace Kz
open Go
set_option maxRecDepth 100000
theorem pawn_up : ∀ f t : Fin 64, (N102 0 f.val).getLsbD t.val = true → 8 ≤ t.val := by decide +kernel
theorem pawn_dn : ∀ f t : Fin 64, (N102 1 f.val).getLsbD t.val = true → t.val < 56 := by decide +kernel
theorem one_bit {x : Nat} {i : Nat} (hi : i < 64) : (1#64 <<< x).getLsbD i = decide (i = x) := by
  rw [BitVec.getLsbD_shiftLeft, BitVec.getLsbD_one]
  rcases Nat.lt_trichotomy i x with h | rfl | h
  · have : ¬ i = x := by omega
    simp [h, this]
  · simp [hi]
  · have h1 : ¬ i = x := by omega
    have h2 : ¬ i - x = 0 := by omega
    simp [h1, h2]
theorem ofInt_nat {n : Int} (h0 : 0 ≤ n) (h1 : n < 18446744073709551616) : (BitVec.ofInt 64 n).toNat = n.toNat := by
  rw [BitVec.toNat_ofInt]
  omega
theorem tOf_kind {c k v : Int} (h : tOf c k v = true) : k = 0 ∨ N91 v = k := by
  unfold tOf at h
  simp only [Bool.and_eq_true, Bool.or_eq_true, beq_iff_eq] at h
  exact h.2
theorem pawn_side {p : Pos} (hp : PosIn p) (ht : p.turn ≤ 1) {x : Pos × BitVec 64 × BitVec 64} (hx : x.1 = p) {f t : Nat} (hf : f < 64) (h1 : t < 64) (hm : (f : Int).tmod 8 ≠ (t : Int).tmod 8) (hb : (N187 x f).getLsbD t = true) : (N102 p.turn f).getLsbD t = true := by
  have h0 := hp.t0
  have hne : f % 8 ≠ t % 8 := by
    intro e
    apply hm
    rw [Int.tmod_eq_emod_of_nonneg (by omega), Int.tmod_eq_emod_of_nonneg (by omega)]
    omega
  have a1 : ∀ n : Int, (n = f + 8 ∨ n = f - 8 ∨ n = f + 16 ∨ n = f - 16) → (1#64 <<< (BitVec.ofInt 64 n).toNat).getLsbD t = false := by
    intro n hn
    rw [one_bit h1]
    simp only [decide_eq_false_iff_not]
    rw [BitVec.toNat_ofInt]
    omega
  have w : ∀ s : Int, -100 ≤ s → s ≤ 100 → (N92 p.turn s = s + 8 ∨ N92 p.turn s = s - 8) := by
    intro s g0 g1
    unfold N92
    rw [wi64 (n := s - 8) (by omega) (by omega), wi64 (n := s + 8) (by omega) (by omega)]
    exact c_ind (P := fun x : Int => x = s + 8 ∨ x = s - 8) (fun _ => .inr rfl) fun _ => .inl rfl
  have b1 := w f (by omega) (by omega)
  have b2 := w (N92 p.turn f) (by omega) (by omega)
  have c1 := a1 (N92 p.turn f) (by omega)
  have c2 : (1#64 <<< (BitVec.ofInt 64 (N92 p.turn (N92 p.turn f))).toNat).getLsbD t = false := by
    by_cases e : N92 p.turn (N92 p.turn f) = f
    · rw [e, one_bit h1]
      simp only [decide_eq_false_iff_not]
      rw [BitVec.toNat_ofInt]
      omega
    · exact a1 _ (by omega)
  revert hb
  unfold N187
  rw [hx]
  have k1 : ∀ y : BitVec 64, (N102 p.turn f &&& y).getLsbD t = true → (N102 p.turn f).getLsbD t = true := fun y h => by
    rw [BitVec.getLsbD_and] at h
    exact (Bool.and_eq_true _ _ ▸ h).1
  have k2 : ∀ y : BitVec 64, (N102 p.turn f &&& y ||| 1#64 <<< (BitVec.ofInt 64 (N92 p.turn f)).toNat).getLsbD t = true → (N102 p.turn f).getLsbD t = true := fun y h => by
    rw [BitVec.getLsbD_or, c1, Bool.or_false] at h
    exact k1 y h
  have k3 : ∀ y z : BitVec 64, (N102 p.turn f &&& y ||| 1#64 <<< (BitVec.ofInt 64 (N92 p.turn f)).toNat ||| 1#64 <<< (BitVec.ofInt 64 (N92 p.turn (N92 p.turn f))).toNat &&& z).getLsbD t = true → (N102 p.turn f).getLsbD t = true := fun y z h => by
    rw [BitVec.getLsbD_or, BitVec.getLsbD_and, c2, Bool.false_and, Bool.or_false] at h
    exact k2 y h
  repeat' (first | with_reducible exact k1 _ | with_reducible exact k2 _ | with_reducible exact k3 _ _ | refine c_ind (P := fun y : BitVec 64 => y.getLsbD t = true → (N102 p.turn f).getLsbD t = true) (fun _ => ?_) (fun _ => ?_))
theorem N42_in {p : Pos} (hp : PosIn p) (m : Mv) : -1 ≤ N42 p m ∧ N42 p m < 64 := by
  have hl := N54_len hp.v0
  unfold N42
  refine c_ind (P := fun x : Int => -1 ≤ x ∧ x < 64) (fun _ => by simp) fun hthere => c_ind (P := fun x : Int => -1 ≤ x ∧ x < 64) (fun _ => by simp) fun h => ?_
  rw [N41_eq (by omega)] at h
  have hm : m ∈ N54 p := by simpa using h
  obtain ⟨th, f, t, h1, h2, h3, h4, h5, h6, h7, h8, h9, h10⟩ := N54_mem hp.v0 hm
  rw [h3, h4]
  rw [wi64 (n := (t : Int)) (by omega) (by omega)]
  refine c_ind (P := fun x : Int => -1 ≤ x ∧ x < 64) (fun _ => by omega) fun _ => c_ind (P := fun x : Int => -1 ≤ x ∧ x < 64) (fun hk => c_ind (P := fun x : Int => -1 ≤ x ∧ x < 64) (fun hd => ?_) fun _ => by simp) fun _ => by simp
  have hd : (f : Int).tmod 8 ≠ (t : Int).tmod 8 := by simpa using hd
  have hto : (N187 (p, own p, oth p) f).getLsbD t = true := by
    unfold N158 at h10
    rw [hk, cond_true, BitVec.getLsbD_and] at h10
    exact (Bool.and_eq_true _ _ ▸ h10).1
  have hat := pawn_side hp th.1 rfl h1 h2 hd hto
  have h0 := hp.t0
  have ht := th.1
  have : p.turn = 0 ∨ p.turn = 1 := by omega
  rcases this with e | e
  · rw [e] at hat
    have := pawn_up ⟨f, h1⟩ ⟨t, h2⟩ hat
    simp only at this
    rw [e]
    unfold N92
    rw [show wr .u8 (1 - 0) = 1 from by decide, wi64 (n := (t : Int) - 8) (by omega) (by omega)]
    show -1 ≤ (t : Int) - 8 ∧ (t : Int) - 8 < 64
    omega
  · rw [e] at hat
    have := pawn_dn ⟨f, h1⟩ ⟨t, h2⟩ hat
    simp only at this
    rw [e]
    unfold N92
    rw [show wr .u8 (1 - 1) = 0 from by decide, wi64 (n := (t : Int) + 8) (by omega) (by omega)]
    show -1 ≤ (t : Int) + 8 ∧ (t : Int) + 8 < 64
    omega
theorem N147_in (p : Pos) (m : Mv) : -1 ≤ N147 p m ∧ N147 p m ≤ 1 := by
  unfold N147
  repeat' (first | (constructor <;> decide) | refine c_ind (P := fun x : Int => -1 ≤ x ∧ x ≤ 1) (fun _ => ?_) (fun _ => ?_))
theorem t93 (p : Pos) (m : Mv) : ok93 p m = true := by
  unfold ok93
  refine c_true (fun _ => rfl) fun h => a_true ?_ fun _ => rfl
  have h1 := N147_in p m
  have h : ¬ N147 p m < 0 := by simpa using h
  show (decide (0 ≤ N147 p m) && decide (N147 p m < 2)) = true
  simp
  omega
theorem N93_in {p : Pos} (h0 : 0 ≤ p.turn) (ht : p.turn ≤ 1) (m : Mv) : 0 ≤ (N93 p m).1 ∧ (N93 p m).1 < 64 ∧ 0 ≤ (N93 p m).2.1 ∧ (N93 p m).2.1 < 64 := by
  have h1 := N147_in p m
  unfold N93
  refine c_ind (P := fun x : Int × Int × Bool => 0 ≤ x.1 ∧ x.1 < 64 ∧ 0 ≤ x.2.1 ∧ x.2.1 < 64) (fun _ => by simp) fun h => ?_
  have h : ¬ N147 p m < 0 := by simpa using h
  rw [N110_eq h0 ht]
  show 0 ≤ wr .i64 (56 * p.turn + _) ∧ _
  have e : N147 p m = 0 ∨ N147 p m = 1 := by omega
  have e' : N147 ⟨p.variant, p.board, p.promoted, p.pockets, p.turn, p.rooks, p.passing, p.checks, p.half, p.full⟩ ⟨m.frm, m.to, m.pro, m.drp, m.cas⟩ = N147 p m := rfl
  rw [e']
  have e2 : p.turn = 0 ∨ p.turn = 1 := by omega
  rcases e with e | e <;> rcases e2 with e2 | e2 <;> rw [e, e2] <;> decide
theorem t94 {p : Pos} {b c : Int} (hb : 0 ≤ b) (hc : 0 ≤ c) : ok94 p b c = true := by
  unfold ok94
  refine c_true (fun _ => rfl) fun h => ?_
  have h : N149 b c = true := by simpa using h
  have hin : b ≤ 1 ∧ 1 ≤ c ∧ c ≤ 5 := by
    revert h
    unfold N149
    refine c_ind (P := fun x : Bool => x = true → _) (fun h1 => c_ind (P := fun x : Bool => x = true → _) (fun h2 h3 => ?_) fun _ h => by cases h) fun _ h => by cases h
    simp only [decide_eq_true_eq] at h1 h2 h3
    omega
  have a1 : (decide (0 ≤ b) && decide (b < 2)) = true := by simp; omega
  have a2 : (decide (0 ≤ c) && decide (c < 6)) = true := by simp; omega
  repeat' (first | with_reducible rfl | with_reducible exact a1 | with_reducible exact a2 | refine a_true ?_ (fun _ => ?_) | refine c_true (fun _ => ?_) (fun _ => ?_))
theorem t97 {p : Pos} {b c : Int} (hb : 0 ≤ b) (hc : 0 ≤ c) : ok97 p b c = true := by
  unfold ok97
  refine c_true (fun h => ?_) fun _ => rfl
  have hin : b ≤ 1 ∧ 1 ≤ c ∧ c ≤ 5 := by
    revert h
    unfold N149
    refine c_ind (P := fun x : Bool => x = true → _) (fun h1 => c_ind (P := fun x : Bool => x = true → _) (fun h2 h3 => ?_) fun _ h => by cases h) fun _ h => by cases h
    simp only [decide_eq_true_eq] at h1 h2 h3
    omega
  have a1 : (decide (0 ≤ b) && decide (b < 2)) = true := by simp; omega
  have a2 : (decide (0 ≤ c) && decide (c < 6)) = true := by simp; omega
  repeat' (first | with_reducible rfl | with_reducible exact a1 | with_reducible exact a2 | refine a_true ?_ (fun _ => ?_) | refine c_true (fun _ => ?_) (fun _ => ?_))
theorem t99 (p : Pos) (s : Int) : ok99 p s = true := by
  unfold ok99
  repeat' (first | with_reducible rfl | with_reducible exact t105 _ | with_reducible exact t59 _ | with_reducible exact t62 _ _ _ | refine a_true ?_ (fun _ => ?_) | refine c_true (fun _ => ?_) (fun _ => ?_))
theorem N91_in {v : Int} (h : 0 ≤ v) : 0 ≤ N91 v := by
  unfold N91
  exact c_ind (P := fun x : Int => 0 ≤ x) (fun _ => by simp) fun _ => Int.tmod_nonneg _ h
end Kz
end
section
namespace Kz
open Go Go.RowKit Go.Proofs
set_option maxRecDepth 100000
set_option maxHeartbeats 4000000
noncomputable def K103 : List (Nat × List (Nat × List Nat)) := [(103, [(0, (rn 1 7 [])), (1, [1, 2, 3, 5, 6, 7]), (2, (0 :: 1 :: (rn 3 5 []))), (3, (0 :: 1 :: (rn 3 5 [])))])]
noncomputable def B103 : Base := baseOf Pz (fun f i => lkK f i K103) [] [] []
theorem hB103 : BOk B103 := base_ok named_z trivial trivial trivial
noncomputable def N103 (a : Int) : Int := (bif decide (a ≥ 10000) then (a) else (wr .i64 (a + 1)))
noncomputable def ok103 (a : Int) : Bool := true
theorem E103 (a : Int) : evPure B103 14 103 [.int .i64 a] = Tr.br (decide (a ≥ 10000)) (Tr.ret (AV.int .i64 a)) (Tr.ret (AV.int .i64 (wr .i64 (a + 1)))) := by kernel_rfl
theorem P103 (a : Int) (h : ok103 a = true) : PS Pz 103 [.int .i64 a] ((dI .i64).res (N103 a)) := ps_gotR hB103 (E103 a) (gr_br2 (gr_ret rfl) (gr_ret rfl)) h
noncomputable def G103 : List AV → Tr AV := g1 (dI .i64) (fun a => sure Pz 103 [.int .i64 a] ((dI .i64).res (N103 a)))
theorem s103 : Sound Pz 103 G103 := sound1 (fun _ => at_sure)
end Kz
end
