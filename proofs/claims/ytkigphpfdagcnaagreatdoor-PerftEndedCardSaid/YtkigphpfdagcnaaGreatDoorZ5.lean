/- Part 5 of the texts under the proof: an abstract interpreter, the summaries of functions, plain laws. -/
import Derived.Test.YtkigphpfdagcnaaGreatDoorZ4
import Derived.Shelf.Spec.SlicesGrow
import Derived.Shelf.SlicesE.Clone
import Derived.Shelf.SlicesQ.IndexFunc
set_option linter.unusedSectionVars false
set_option linter.unusedVariables false
set_option linter.unusedSimpArgs false
set_option linter.unnecessarySimpa false
section
namespace Kz
open Go Go.RowKit Go.Proofs
set_option maxRecDepth 100000
set_option maxHeartbeats 4000000
noncomputable def K141 : List (Nat × List (Nat × List Nat)) := [(141, [(0, (0 :: 4 :: 5 :: (rn 7 57 (68 :: 69 :: (rn 74 7 []))))), (1, (0 :: 4 :: 5 :: 7 :: (rn 10 54 (68 :: 69 :: (rn 74 7 []))))), (2, (0 :: 4 :: 5 :: 7 :: (rn 9 17 (rn 27 37 (68 :: 69 :: (rn 74 7 [])))))), (3, (rn 0 6 (rn 8 73 []))), (4, (0 :: 2 :: 4 :: 5 :: 7 :: 9 :: (rn 11 53 (68 :: 69 :: (rn 74 7 []))))), (5, (0 :: 2 :: 4 :: 5 :: 7 :: 9 :: 10 :: (rn 13 51 (68 :: 69 :: (rn 74 7 []))))), (6, (0 :: 2 :: 4 :: 5 :: 7 :: 9 :: 10 :: (rn 14 50 (68 :: 69 :: (rn 74 7 []))))), (7, (0 :: 2 :: 4 :: 5 :: 7 :: 9 :: 10 :: (rn 14 50 (68 :: 69 :: (rn 74 7 []))))), (8, (0 :: 2 :: 4 :: 5 :: 7 :: 9 :: 10 :: (rn 15 49 (68 :: 69 :: (rn 74 7 []))))), (9, (0 :: 2 :: 4 :: 5 :: 7 :: 9 :: 10 :: 14 :: (rn 16 48 (68 :: 69 :: (rn 74 7 []))))), (10, (0 :: 2 :: 4 :: 5 :: 7 :: 9 :: 10 :: 14 :: (rn 17 47 (68 :: 69 :: (rn 74 7 []))))), (11, (0 :: (rn 2 4 (7 :: 9 :: 10 :: 13 :: 14 :: 16 :: (rn 18 46 (68 :: 69 :: (rn 74 7 []))))))), (12, (0 :: (rn 2 4 (7 :: (rn 10 71 []))))), (13, (rn 0 6 (rn 8 73 [])))]), (146, [(0, [1, 2, 3]), (1, [1, 2, 3])]), (180, [(0, (rn 2 8 [])), (1, (0 :: 1 :: 2 :: (rn 4 6 [])))]), (181, [(0, (rn 4 6 [15, 16, 24])), (1, (rn 0 5 (rn 6 19 [])))]), (182, [(0, (2 :: 3 :: 4 :: (rn 7 9 []))), (1, (rn 0 5 (7 :: 8 :: 9 :: (rn 11 5 [])))), (2, (rn 0 5 (rn 8 8 []))), (3, (rn 0 6 (rn 7 8 []))), (4, (rn 0 16 [])), (5, (rn 0 6 (rn 7 9 [])))]), (204, [(0, [0, 1, 4, 5]), (1, [0, 1, 2, 3, 5])]), (213, [(0, (3 :: (rn 5 14 []))), (1, (3 :: (rn 5 7 (rn 13 6 [])))), (2, (3 :: (rn 5 14 []))), (3, (3 :: (rn 5 13 [])))])]
noncomputable def B141_1 : Base := baseOf Pz (fun f i => lkK f i K141) [(101, G101), (140, G140), (143, G143), (149, G149), (156, G156), (179, G179)] [] []
theorem hB141_1 : BOk B141_1 := base_ok named_z ⟨s101, s140, s143, s149, s156, s179, trivial⟩ trivial trivial
noncomputable def S141_1 (p1 : Pos) (p2 : (List Int)) (p3 : Pos) (p4 : (BitVec 64)) (p5 : (BitVec 64)) (p6 : Int) (p7 : Int) (x : (Int)) : St := St.mk (AV.yield 0 :: AV.ptr 8 0 :: AV.ptr 9 0 :: AV.any :: AV.int .i64 x :: (an 14 [])) (Hp.mk [(pc p1 []), [AV.int .i8 0, AV.int .i8 0, AV.int .u8 0, AV.int .u8 0, AV.bool false], [AV.ints .i64 2 p2], (pc p3 []), [AV.u64 p4], [AV.u64 p5], [AV.func 180 [] [AV.ptr 4 0]], [AV.bool false], [AV.int .i64 p6], [AV.int .i64 p7]] [] [LRec.mk 0 none 182 (an 5 (AV.ptr 6 0 :: AV.ptr 7 0 :: (an 3 (AV.func 213 [] [AV.ptr 8 0, AV.ptr 9 0] :: (an 5 []))))) [11] (rfA Pz 182 3) (rfB Pz 182 3)] 0 0 0)
noncomputable def O141_1 (p1 : Pos) (p2 : (List Int)) (p3 : Pos) (p4 : (BitVec 64)) (p5 : (BitVec 64)) (p6 : Int) (p7 : Int) : (Int) ⊕ (Int × Bool) → Out
  | (.inl (y)) => .ret (St.mk (AV.yield 0 :: AV.ptr 8 0 :: AV.ptr 9 0 :: AV.any :: AV.int .i64 y :: (an 13 [AV.cbool true])) (Hp.mk [(pc p1 []), [AV.int .i8 0, AV.int .i8 0, AV.int .u8 0, AV.int .u8 0, AV.bool false], [AV.ints .i64 2 p2], (pc p3 []), [AV.u64 p4], [AV.u64 p5], [AV.func 180 [] [AV.ptr 4 0]], [AV.cbool false], [AV.int .i64 p6], [AV.int .i64 p7]] [] [LRec.mk 2 (some Code.ret) 182 (an 5 (AV.ptr 6 0 :: AV.ptr 7 0 :: (an 3 (AV.func 213 [] [AV.ptr 8 0, AV.ptr 9 0] :: (an 5 []))))) [11] (rfA Pz 182 3) (rfB Pz 182 3)] 0 0 0))
  | (.inr (y)) => .exit 0 (St.mk (AV.yield 0 :: AV.ptr 8 0 :: AV.ptr 9 0 :: AV.any :: AV.int .i64 y.fst :: (an 7 (AV.bool y.snd :: (an 6 [])))) (Hp.mk [(pc p1 []), [AV.int .i8 0, AV.int .i8 0, AV.int .u8 0, AV.int .u8 0, AV.bool false], [AV.ints .i64 2 p2], (pc p3 []), [AV.u64 p4], [AV.u64 p5], [AV.func 180 [] [AV.ptr 4 0]], [AV.bool false], [AV.int .i64 p6], [AV.int .i64 p7]] [] [LRec.mk 0 none 182 (an 5 (AV.ptr 6 0 :: AV.ptr 7 0 :: (an 3 (AV.func 213 [] [AV.ptr 8 0, AV.ptr 9 0] :: (an 5 []))))) [11] (rfA Pz 182 3) (rfB Pz 182 3)] 0 0 0))
noncomputable def st141_1 (p1 : Pos) (p2 : (List Int)) (p3 : Pos) (p4 : (BitVec 64)) (p5 : (BitVec 64)) (p6 : Int) (p7 : Int) (x : (Int)) : Stp (Int) ((Int) ⊕ (Int × Bool)) := (bif decide (x ≤ if p7 > p6 then p7 else p6) then (bif !p4 >>> (BitVec.ofInt 64 x).toNat &&& 1#64 == 0#64 then (Stp.out (.inl ((x)))) else (Stp.go (wr .i64 (x + 1)))) else (Stp.out (.inr ((x, decide (x ≤ if p7 > p6 then p7 else p6))))))
noncomputable def okL141_1 (p1 : Pos) (p2 : (List Int)) (p3 : Pos) (p4 : (BitVec 64)) (p5 : (BitVec 64)) (p6 : Int) (p7 : Int) (x : (Int)) : Bool := true
noncomputable def lp141_1 (p1 : Pos) (p2 : (List Int)) (p3 : Pos) (p4 : (BitVec 64)) (p5 : (BitVec 64)) (p6 : Int) (p7 : Int) (x : (Int)) : Option ((Int) ⊕ (Int × Bool)) := itl (fun x => bif okL141_1 p1 p2 p3 p4 p5 p6 p7 x then st141_1 p1 p2 p3 p4 p5 p6 p7 x else .bad) many x
theorem E141_1 (p1 : Pos) (p2 : (List Int)) (p3 : Pos) (p4 : (BitVec 64)) (p5 : (BitVec 64)) (p6 : Int) (p7 : Int) (x : (Int)) : evCd B141_1 12 213 (bodL Pz 213 1) (S141_1 p1 p2 p3 p4 p5 p6 p7 x) = (let z1 := (Hp.mk [(pc p1 []), [AV.int .i8 0, AV.int .i8 0, AV.int .u8 0, AV.int .u8 0, AV.bool false], [AV.ints .i64 2 p2], (pc p3 []), [AV.u64 p4], [AV.u64 p5], [AV.func 180 [] [AV.ptr 4 0]], [AV.bool false], [AV.int .i64 p6], [AV.int .i64 p7]] [] [LRec.mk 0 none 182 (an 5 (AV.ptr 6 0 :: AV.ptr 7 0 :: (an 3 (AV.func 213 [] [AV.ptr 8 0, AV.ptr 9 0] :: (an 5 []))))) [11] (rfA Pz 182 3) (rfB Pz 182 3)] 0 0 0); Tr.br (decide (x ≤ if p7 > p6 then p7 else p6)) (Tr.br (!p4 >>> (BitVec.ofInt 64 x).toNat &&& 1#64 == 0#64) (Tr.ret (Out.ret (St.mk (AV.yield 0 :: AV.ptr 8 0 :: AV.ptr 9 0 :: AV.any :: AV.int .i64 x :: (an 13 [AV.cbool true])) (Hp.mk [(pc p1 []), [AV.int .i8 0, AV.int .i8 0, AV.int .u8 0, AV.int .u8 0, AV.bool false], [AV.ints .i64 2 p2], (pc p3 []), [AV.u64 p4], [AV.u64 p5], [AV.func 180 [] [AV.ptr 4 0]], [AV.cbool false], [AV.int .i64 p6], [AV.int .i64 p7]] [] [LRec.mk 2 (some Code.ret) 182 (an 5 (AV.ptr 6 0 :: AV.ptr 7 0 :: (an 3 (AV.func 213 [] [AV.ptr 8 0, AV.ptr 9 0] :: (an 5 []))))) [11] (rfA Pz 182 3) (rfB Pz 182 3)] 0 0 0)))) (Tr.ret (Out.norm (St.mk (AV.yield 0 :: AV.ptr 8 0 :: AV.ptr 9 0 :: AV.any :: AV.int .i64 (wr .i64 (x + 1)) :: (an 14 [])) z1)))) (Tr.ret (Out.exit 0 (St.mk (AV.yield 0 :: AV.ptr 8 0 :: AV.ptr 9 0 :: AV.any :: AV.int .i64 x :: (an 7 (AV.bool (decide (x ≤ if p7 > p6 then p7 else p6)) :: (an 6 [])))) z1)))) := by kernel_rfl
theorem L141_1 (p1 : Pos) (p2 : (List Int)) (p3 : Pos) (p4 : (BitVec 64)) (p5 : (BitVec 64)) (p6 : Int) (p7 : Int) (x : (Int)) (r : (Int) ⊕ (Int × Bool)) (h : lp141_1 p1 p2 p3 p4 p5 p6 p7 x = some r) : LSpec Pz (bodL Pz 213 1) (S141_1 p1 p2 p3 p4 p5 p6 p7 x) (O141_1 p1 p2 p3 p4 p5 p6 p7 r) := LSpec.itd (S := S141_1 p1 p2 p3 p4 p5 p6 p7) (O := O141_1 p1 p2 p3 p4 p5 p6 p7) (ok := okL141_1 p1 p2 p3 p4 p5 p6 p7) (st := st141_1 p1 p2 p3 p4 p5 p6 p7) hB141_1 (fun x => gr_eq (E141_1 p1 p2 p3 p4 p5 p6 p7 x) (gr_br2 (gr_br2 (gr_ret (rl_ret rfl (wk_nrm (ks := (3 :: (rn 5 13 []))) (gs := []) (b := false) rfl (by kernel_rfl)))) (gr_ret (rl_go (wk_nrm (ks := (3 :: (rn 5 14 []))) (gs := [4]) (b := true) rfl (by kernel_rfl))))) (gr_ret (rl_exit rfl (wk_nrm (ks := (3 :: (rn 5 7 (rn 13 6 [])))) (gs := []) (b := false) rfl (by kernel_rfl)))))) many x r h
noncomputable def F141_1 : Code → St → Tr Out := fun b s => .br (isL ((lp141_1 (Kz.Pos.mk (tI (tH s 0 0)) (tN (tH s 0 1)) (tU (tH s 0 2)) (tN (tH s 0 3)) (tI (tH s 0 4)) (tN (tH s 0 5)) (tI (tH s 0 6)) (tN (tH s 0 7)) (tI (tH s 0 8)) (tI (tH s 0 9))) (tN (tH s 2 0)) (Kz.Pos.mk (tI (tH s 3 0)) (tN (tH s 3 1)) (tU (tH s 3 2)) (tN (tH s 3 3)) (tI (tH s 3 4)) (tN (tH s 3 5)) (tI (tH s 3 6)) (tN (tH s 3 7)) (tI (tH s 3 8)) (tI (tH s 3 9))) (tU (tH s 4 0)) (tU (tH s 5 0)) (tI (tH s 8 0)) (tI (tH s 9 0)) ((tI (tT s 4)))).getD default)) (sureL Pz (fun s => O141_1 (Kz.Pos.mk (tI (tH s 0 0)) (tN (tH s 0 1)) (tU (tH s 0 2)) (tN (tH s 0 3)) (tI (tH s 0 4)) (tN (tH s 0 5)) (tI (tH s 0 6)) (tN (tH s 0 7)) (tI (tH s 0 8)) (tI (tH s 0 9))) (tN (tH s 2 0)) (Kz.Pos.mk (tI (tH s 3 0)) (tN (tH s 3 1)) (tU (tH s 3 2)) (tN (tH s 3 3)) (tI (tH s 3 4)) (tN (tH s 3 5)) (tI (tH s 3 6)) (tN (tH s 3 7)) (tI (tH s 3 8)) (tI (tH s 3 9))) (tU (tH s 4 0)) (tU (tH s 5 0)) (tI (tH s 8 0)) (tI (tH s 9 0)) (.inl (gl ((lp141_1 (Kz.Pos.mk (tI (tH s 0 0)) (tN (tH s 0 1)) (tU (tH s 0 2)) (tN (tH s 0 3)) (tI (tH s 0 4)) (tN (tH s 0 5)) (tI (tH s 0 6)) (tN (tH s 0 7)) (tI (tH s 0 8)) (tI (tH s 0 9))) (tN (tH s 2 0)) (Kz.Pos.mk (tI (tH s 3 0)) (tN (tH s 3 1)) (tU (tH s 3 2)) (tN (tH s 3 3)) (tI (tH s 3 4)) (tN (tH s 3 5)) (tI (tH s 3 6)) (tN (tH s 3 7)) (tI (tH s 3 8)) (tI (tH s 3 9))) (tU (tH s 4 0)) (tU (tH s 5 0)) (tI (tH s 8 0)) (tI (tH s 9 0)) ((tI (tT s 4)))).getD default)))) b s) (sureL Pz (fun s => O141_1 (Kz.Pos.mk (tI (tH s 0 0)) (tN (tH s 0 1)) (tU (tH s 0 2)) (tN (tH s 0 3)) (tI (tH s 0 4)) (tN (tH s 0 5)) (tI (tH s 0 6)) (tN (tH s 0 7)) (tI (tH s 0 8)) (tI (tH s 0 9))) (tN (tH s 2 0)) (Kz.Pos.mk (tI (tH s 3 0)) (tN (tH s 3 1)) (tU (tH s 3 2)) (tN (tH s 3 3)) (tI (tH s 3 4)) (tN (tH s 3 5)) (tI (tH s 3 6)) (tN (tH s 3 7)) (tI (tH s 3 8)) (tI (tH s 3 9))) (tU (tH s 4 0)) (tU (tH s 5 0)) (tI (tH s 8 0)) (tI (tH s 9 0)) (.inr (gr ((lp141_1 (Kz.Pos.mk (tI (tH s 0 0)) (tN (tH s 0 1)) (tU (tH s 0 2)) (tN (tH s 0 3)) (tI (tH s 0 4)) (tN (tH s 0 5)) (tI (tH s 0 6)) (tN (tH s 0 7)) (tI (tH s 0 8)) (tI (tH s 0 9))) (tN (tH s 2 0)) (Kz.Pos.mk (tI (tH s 3 0)) (tN (tH s 3 1)) (tU (tH s 3 2)) (tN (tH s 3 3)) (tI (tH s 3 4)) (tN (tH s 3 5)) (tI (tH s 3 6)) (tN (tH s 3 7)) (tI (tH s 3 8)) (tI (tH s 3 9))) (tU (tH s 4 0)) (tU (tH s 5 0)) (tI (tH s 8 0)) (tI (tH s 9 0)) ((tI (tT s 4)))).getD default)))) b s)
theorem sF141_1 : ∀ b, LSound Pz b (F141_1 b) := brL_sound (c := fun s => isL ((lp141_1 (Kz.Pos.mk (tI (tH s 0 0)) (tN (tH s 0 1)) (tU (tH s 0 2)) (tN (tH s 0 3)) (tI (tH s 0 4)) (tN (tH s 0 5)) (tI (tH s 0 6)) (tN (tH s 0 7)) (tI (tH s 0 8)) (tI (tH s 0 9))) (tN (tH s 2 0)) (Kz.Pos.mk (tI (tH s 3 0)) (tN (tH s 3 1)) (tU (tH s 3 2)) (tN (tH s 3 3)) (tI (tH s 3 4)) (tN (tH s 3 5)) (tI (tH s 3 6)) (tN (tH s 3 7)) (tI (tH s 3 8)) (tI (tH s 3 9))) (tU (tH s 4 0)) (tU (tH s 5 0)) (tI (tH s 8 0)) (tI (tH s 9 0)) ((tI (tT s 4)))).getD default)) sureL_sound sureL_sound
noncomputable def B141_2 : Base := baseOf Pz (fun f i => lkK f i K141) [(101, G101), (140, G140), (143, G143), (149, G149), (156, G156), (179, G179)] [(213, 1, F141_1)] []
theorem hB141_2 : BOk B141_2 := base_ok named_z ⟨s101, s140, s143, s149, s156, s179, trivial⟩ ⟨sF141_1, trivial⟩ trivial
noncomputable def S141_2 (p1 : Pos) (p2 : (List Int)) (p3 : Pos) (p4 : (BitVec 64)) (p5 : (BitVec 64)) (p6 : Int) (p7 : Int) (p8 : Int) (p9 : Int) (x : (Int)) : St := St.mk (AV.yield 1 :: AV.ptr 12 0 :: AV.ptr 13 0 :: AV.any :: AV.int .i64 x :: (an 14 [])) (Hp.mk [(pc p1 []), [AV.int .i8 0, AV.int .i8 0, AV.int .u8 0, AV.int .u8 0, AV.bool false], [AV.ints .i64 2 p2], (pc p3 []), [AV.u64 p4], [AV.u64 p5], [AV.func 180 [] [AV.ptr 4 0]], [AV.bool true], [AV.int .i64 p6], [AV.int .i64 p7], [AV.func 180 [] [AV.ptr 4 0]], [AV.bool false], [AV.int .i64 p8], [AV.int .i64 p9]] [] [LRec.mk 3 none 182 (an 5 (AV.ptr 6 0 :: AV.ptr 7 0 :: (an 3 (AV.func 213 [] [AV.ptr 8 0, AV.ptr 9 0] :: (an 5 []))))) [11] (rfA Pz 182 3) (rfB Pz 182 3), LRec.mk 0 none 182 (an 5 (AV.ptr 10 0 :: AV.ptr 11 0 :: (an 3 (AV.func 213 [] [AV.ptr 12 0, AV.ptr 13 0] :: (an 5 []))))) [11] (rfA Pz 182 3) (rfB Pz 182 3)] 0 0 0)
noncomputable def O141_2 (p1 : Pos) (p2 : (List Int)) (p3 : Pos) (p4 : (BitVec 64)) (p5 : (BitVec 64)) (p6 : Int) (p7 : Int) (p8 : Int) (p9 : Int) : (Int) ⊕ (Int × Bool) → Out
  | (.inl (y)) => .ret (St.mk (AV.yield 1 :: AV.ptr 12 0 :: AV.ptr 13 0 :: AV.any :: AV.int .i64 y :: (an 13 [AV.cbool true])) (Hp.mk [(pc p1 []), [AV.int .i8 0, AV.int .i8 0, AV.int .u8 0, AV.int .u8 0, AV.bool false], [AV.ints .i64 2 p2], (pc p3 []), [AV.u64 p4], [AV.u64 p5], [AV.func 180 [] [AV.ptr 4 0]], [AV.bool true], [AV.int .i64 p6], [AV.int .i64 p7], [AV.func 180 [] [AV.ptr 4 0]], [AV.cbool false], [AV.int .i64 p8], [AV.int .i64 p9]] [] [LRec.mk 3 none 182 (an 5 (AV.ptr 6 0 :: AV.ptr 7 0 :: (an 3 (AV.func 213 [] [AV.ptr 8 0, AV.ptr 9 0] :: (an 5 []))))) [11] (rfA Pz 182 3) (rfB Pz 182 3), LRec.mk 2 (some Code.ret) 182 (an 5 (AV.ptr 10 0 :: AV.ptr 11 0 :: (an 3 (AV.func 213 [] [AV.ptr 12 0, AV.ptr 13 0] :: (an 5 []))))) [11] (rfA Pz 182 3) (rfB Pz 182 3)] 0 0 0))
  | (.inr (y)) => .exit 0 (St.mk (AV.yield 1 :: AV.ptr 12 0 :: AV.ptr 13 0 :: AV.any :: AV.int .i64 y.fst :: (an 7 (AV.bool y.snd :: (an 6 [])))) (Hp.mk [(pc p1 []), [AV.int .i8 0, AV.int .i8 0, AV.int .u8 0, AV.int .u8 0, AV.bool false], [AV.ints .i64 2 p2], (pc p3 []), [AV.u64 p4], [AV.u64 p5], [AV.func 180 [] [AV.ptr 4 0]], [AV.bool true], [AV.int .i64 p6], [AV.int .i64 p7], [AV.func 180 [] [AV.ptr 4 0]], [AV.bool false], [AV.int .i64 p8], [AV.int .i64 p9]] [] [LRec.mk 3 none 182 (an 5 (AV.ptr 6 0 :: AV.ptr 7 0 :: (an 3 (AV.func 213 [] [AV.ptr 8 0, AV.ptr 9 0] :: (an 5 []))))) [11] (rfA Pz 182 3) (rfB Pz 182 3), LRec.mk 0 none 182 (an 5 (AV.ptr 10 0 :: AV.ptr 11 0 :: (an 3 (AV.func 213 [] [AV.ptr 12 0, AV.ptr 13 0] :: (an 5 []))))) [11] (rfA Pz 182 3) (rfB Pz 182 3)] 0 0 0))
noncomputable def st141_2 (p1 : Pos) (p2 : (List Int)) (p3 : Pos) (p4 : (BitVec 64)) (p5 : (BitVec 64)) (p6 : Int) (p7 : Int) (p8 : Int) (p9 : Int) (x : (Int)) : Stp (Int) ((Int) ⊕ (Int × Bool)) := (bif decide (x ≤ if p9 > p8 then p9 else p8) then (bif !p4 >>> (BitVec.ofInt 64 x).toNat &&& 1#64 == 0#64 then (Stp.out (.inl ((x)))) else (Stp.go (wr .i64 (x + 1)))) else (Stp.out (.inr ((x, decide (x ≤ if p9 > p8 then p9 else p8))))))
noncomputable def okL141_2 (p1 : Pos) (p2 : (List Int)) (p3 : Pos) (p4 : (BitVec 64)) (p5 : (BitVec 64)) (p6 : Int) (p7 : Int) (p8 : Int) (p9 : Int) (x : (Int)) : Bool := true
noncomputable def lp141_2 (p1 : Pos) (p2 : (List Int)) (p3 : Pos) (p4 : (BitVec 64)) (p5 : (BitVec 64)) (p6 : Int) (p7 : Int) (p8 : Int) (p9 : Int) (x : (Int)) : Option ((Int) ⊕ (Int × Bool)) := itl (fun x => bif okL141_2 p1 p2 p3 p4 p5 p6 p7 p8 p9 x then st141_2 p1 p2 p3 p4 p5 p6 p7 p8 p9 x else .bad) many x
theorem E141_2 (p1 : Pos) (p2 : (List Int)) (p3 : Pos) (p4 : (BitVec 64)) (p5 : (BitVec 64)) (p6 : Int) (p7 : Int) (p8 : Int) (p9 : Int) (x : (Int)) : evCd B141_2 12 213 (bodL Pz 213 1) (S141_2 p1 p2 p3 p4 p5 p6 p7 p8 p9 x) = (let z1 := (Hp.mk [(pc p1 []), [AV.int .i8 0, AV.int .i8 0, AV.int .u8 0, AV.int .u8 0, AV.bool false], [AV.ints .i64 2 p2], (pc p3 []), [AV.u64 p4], [AV.u64 p5], [AV.func 180 [] [AV.ptr 4 0]], [AV.bool true], [AV.int .i64 p6], [AV.int .i64 p7], [AV.func 180 [] [AV.ptr 4 0]], [AV.bool false], [AV.int .i64 p8], [AV.int .i64 p9]] [] [LRec.mk 3 none 182 (an 5 (AV.ptr 6 0 :: AV.ptr 7 0 :: (an 3 (AV.func 213 [] [AV.ptr 8 0, AV.ptr 9 0] :: (an 5 []))))) [11] (rfA Pz 182 3) (rfB Pz 182 3), LRec.mk 0 none 182 (an 5 (AV.ptr 10 0 :: AV.ptr 11 0 :: (an 3 (AV.func 213 [] [AV.ptr 12 0, AV.ptr 13 0] :: (an 5 []))))) [11] (rfA Pz 182 3) (rfB Pz 182 3)] 0 0 0); Tr.br (decide (x ≤ if p9 > p8 then p9 else p8)) (Tr.br (!p4 >>> (BitVec.ofInt 64 x).toNat &&& 1#64 == 0#64) (Tr.ret (Out.ret (St.mk (AV.yield 1 :: AV.ptr 12 0 :: AV.ptr 13 0 :: AV.any :: AV.int .i64 x :: (an 13 [AV.cbool true])) (Hp.mk [(pc p1 []), [AV.int .i8 0, AV.int .i8 0, AV.int .u8 0, AV.int .u8 0, AV.bool false], [AV.ints .i64 2 p2], (pc p3 []), [AV.u64 p4], [AV.u64 p5], [AV.func 180 [] [AV.ptr 4 0]], [AV.bool true], [AV.int .i64 p6], [AV.int .i64 p7], [AV.func 180 [] [AV.ptr 4 0]], [AV.cbool false], [AV.int .i64 p8], [AV.int .i64 p9]] [] [LRec.mk 3 none 182 (an 5 (AV.ptr 6 0 :: AV.ptr 7 0 :: (an 3 (AV.func 213 [] [AV.ptr 8 0, AV.ptr 9 0] :: (an 5 []))))) [11] (rfA Pz 182 3) (rfB Pz 182 3), LRec.mk 2 (some Code.ret) 182 (an 5 (AV.ptr 10 0 :: AV.ptr 11 0 :: (an 3 (AV.func 213 [] [AV.ptr 12 0, AV.ptr 13 0] :: (an 5 []))))) [11] (rfA Pz 182 3) (rfB Pz 182 3)] 0 0 0)))) (Tr.ret (Out.norm (St.mk (AV.yield 1 :: AV.ptr 12 0 :: AV.ptr 13 0 :: AV.any :: AV.int .i64 (wr .i64 (x + 1)) :: (an 14 [])) z1)))) (Tr.ret (Out.exit 0 (St.mk (AV.yield 1 :: AV.ptr 12 0 :: AV.ptr 13 0 :: AV.any :: AV.int .i64 x :: (an 7 (AV.bool (decide (x ≤ if p9 > p8 then p9 else p8)) :: (an 6 [])))) z1)))) := by kernel_rfl
theorem L141_2 (p1 : Pos) (p2 : (List Int)) (p3 : Pos) (p4 : (BitVec 64)) (p5 : (BitVec 64)) (p6 : Int) (p7 : Int) (p8 : Int) (p9 : Int) (x : (Int)) (r : (Int) ⊕ (Int × Bool)) (h : lp141_2 p1 p2 p3 p4 p5 p6 p7 p8 p9 x = some r) : LSpec Pz (bodL Pz 213 1) (S141_2 p1 p2 p3 p4 p5 p6 p7 p8 p9 x) (O141_2 p1 p2 p3 p4 p5 p6 p7 p8 p9 r) := LSpec.itd (S := S141_2 p1 p2 p3 p4 p5 p6 p7 p8 p9) (O := O141_2 p1 p2 p3 p4 p5 p6 p7 p8 p9) (ok := okL141_2 p1 p2 p3 p4 p5 p6 p7 p8 p9) (st := st141_2 p1 p2 p3 p4 p5 p6 p7 p8 p9) hB141_2 (fun x => gr_eq (E141_2 p1 p2 p3 p4 p5 p6 p7 p8 p9 x) (gr_br2 (gr_br2 (gr_ret (rl_ret rfl (wk_nrm (ks := (3 :: (rn 5 13 []))) (gs := []) (b := false) rfl (by kernel_rfl)))) (gr_ret (rl_go (wk_nrm (ks := (3 :: (rn 5 14 []))) (gs := [4]) (b := true) rfl (by kernel_rfl))))) (gr_ret (rl_exit rfl (wk_nrm (ks := (3 :: (rn 5 7 (rn 13 6 [])))) (gs := []) (b := false) rfl (by kernel_rfl)))))) many x r h
noncomputable def F141_2 : Code → St → Tr Out := fun b s => .br (isL ((lp141_2 (Kz.Pos.mk (tI (tH s 0 0)) (tN (tH s 0 1)) (tU (tH s 0 2)) (tN (tH s 0 3)) (tI (tH s 0 4)) (tN (tH s 0 5)) (tI (tH s 0 6)) (tN (tH s 0 7)) (tI (tH s 0 8)) (tI (tH s 0 9))) (tN (tH s 2 0)) (Kz.Pos.mk (tI (tH s 3 0)) (tN (tH s 3 1)) (tU (tH s 3 2)) (tN (tH s 3 3)) (tI (tH s 3 4)) (tN (tH s 3 5)) (tI (tH s 3 6)) (tN (tH s 3 7)) (tI (tH s 3 8)) (tI (tH s 3 9))) (tU (tH s 4 0)) (tU (tH s 5 0)) (tI (tH s 8 0)) (tI (tH s 9 0)) (tI (tH s 12 0)) (tI (tH s 13 0)) ((tI (tT s 4)))).getD default)) (sureL Pz (fun s => O141_2 (Kz.Pos.mk (tI (tH s 0 0)) (tN (tH s 0 1)) (tU (tH s 0 2)) (tN (tH s 0 3)) (tI (tH s 0 4)) (tN (tH s 0 5)) (tI (tH s 0 6)) (tN (tH s 0 7)) (tI (tH s 0 8)) (tI (tH s 0 9))) (tN (tH s 2 0)) (Kz.Pos.mk (tI (tH s 3 0)) (tN (tH s 3 1)) (tU (tH s 3 2)) (tN (tH s 3 3)) (tI (tH s 3 4)) (tN (tH s 3 5)) (tI (tH s 3 6)) (tN (tH s 3 7)) (tI (tH s 3 8)) (tI (tH s 3 9))) (tU (tH s 4 0)) (tU (tH s 5 0)) (tI (tH s 8 0)) (tI (tH s 9 0)) (tI (tH s 12 0)) (tI (tH s 13 0)) (.inl (gl ((lp141_2 (Kz.Pos.mk (tI (tH s 0 0)) (tN (tH s 0 1)) (tU (tH s 0 2)) (tN (tH s 0 3)) (tI (tH s 0 4)) (tN (tH s 0 5)) (tI (tH s 0 6)) (tN (tH s 0 7)) (tI (tH s 0 8)) (tI (tH s 0 9))) (tN (tH s 2 0)) (Kz.Pos.mk (tI (tH s 3 0)) (tN (tH s 3 1)) (tU (tH s 3 2)) (tN (tH s 3 3)) (tI (tH s 3 4)) (tN (tH s 3 5)) (tI (tH s 3 6)) (tN (tH s 3 7)) (tI (tH s 3 8)) (tI (tH s 3 9))) (tU (tH s 4 0)) (tU (tH s 5 0)) (tI (tH s 8 0)) (tI (tH s 9 0)) (tI (tH s 12 0)) (tI (tH s 13 0)) ((tI (tT s 4)))).getD default)))) b s) (sureL Pz (fun s => O141_2 (Kz.Pos.mk (tI (tH s 0 0)) (tN (tH s 0 1)) (tU (tH s 0 2)) (tN (tH s 0 3)) (tI (tH s 0 4)) (tN (tH s 0 5)) (tI (tH s 0 6)) (tN (tH s 0 7)) (tI (tH s 0 8)) (tI (tH s 0 9))) (tN (tH s 2 0)) (Kz.Pos.mk (tI (tH s 3 0)) (tN (tH s 3 1)) (tU (tH s 3 2)) (tN (tH s 3 3)) (tI (tH s 3 4)) (tN (tH s 3 5)) (tI (tH s 3 6)) (tN (tH s 3 7)) (tI (tH s 3 8)) (tI (tH s 3 9))) (tU (tH s 4 0)) (tU (tH s 5 0)) (tI (tH s 8 0)) (tI (tH s 9 0)) (tI (tH s 12 0)) (tI (tH s 13 0)) (.inr (gr ((lp141_2 (Kz.Pos.mk (tI (tH s 0 0)) (tN (tH s 0 1)) (tU (tH s 0 2)) (tN (tH s 0 3)) (tI (tH s 0 4)) (tN (tH s 0 5)) (tI (tH s 0 6)) (tN (tH s 0 7)) (tI (tH s 0 8)) (tI (tH s 0 9))) (tN (tH s 2 0)) (Kz.Pos.mk (tI (tH s 3 0)) (tN (tH s 3 1)) (tU (tH s 3 2)) (tN (tH s 3 3)) (tI (tH s 3 4)) (tN (tH s 3 5)) (tI (tH s 3 6)) (tN (tH s 3 7)) (tI (tH s 3 8)) (tI (tH s 3 9))) (tU (tH s 4 0)) (tU (tH s 5 0)) (tI (tH s 8 0)) (tI (tH s 9 0)) (tI (tH s 12 0)) (tI (tH s 13 0)) ((tI (tT s 4)))).getD default)))) b s)
theorem sF141_2 : ∀ b, LSound Pz b (F141_2 b) := brL_sound (c := fun s => isL ((lp141_2 (Kz.Pos.mk (tI (tH s 0 0)) (tN (tH s 0 1)) (tU (tH s 0 2)) (tN (tH s 0 3)) (tI (tH s 0 4)) (tN (tH s 0 5)) (tI (tH s 0 6)) (tN (tH s 0 7)) (tI (tH s 0 8)) (tI (tH s 0 9))) (tN (tH s 2 0)) (Kz.Pos.mk (tI (tH s 3 0)) (tN (tH s 3 1)) (tU (tH s 3 2)) (tN (tH s 3 3)) (tI (tH s 3 4)) (tN (tH s 3 5)) (tI (tH s 3 6)) (tN (tH s 3 7)) (tI (tH s 3 8)) (tI (tH s 3 9))) (tU (tH s 4 0)) (tU (tH s 5 0)) (tI (tH s 8 0)) (tI (tH s 9 0)) (tI (tH s 12 0)) (tI (tH s 13 0)) ((tI (tT s 4)))).getD default)) sureL_sound sureL_sound
noncomputable def B141_3 : Base := baseOf Pz (fun f i => lkK f i K141) [(101, G101), (140, G140), (143, G143), (149, G149), (156, G156), (179, G179)] [(213, 1, fun b s => (bif Kz.shp [0, 1, 2, 4] s == [50, 228, 244, 3, 10, 3, 7, 4, 7, 3, 7, 3, 7, 3, 3, 5, 3, 3, 3, 3, 2, 1, 7, 10, 3, 7, 4, 7, 3, 7, 3, 7, 3, 3, 1, 4, 1, 4, 1, 1180, 1, 2, 1, 3, 1, 3, 182] then F141_1 b s else (bif Kz.shp [0, 1, 2, 4] s == [51, 292, 308, 3, 10, 3, 7, 4, 7, 3, 7, 3, 7, 3, 3, 5, 3, 3, 3, 3, 2, 1, 7, 10, 3, 7, 4, 7, 3, 7, 3, 7, 3, 3, 1, 4, 1, 4, 1, 1180, 1, 2, 1, 3, 1, 3, 1, 1180, 1, 2, 1, 3, 1, 3, 182, 182] then F141_2 b s else .fail)))] []
theorem hB141_3 : BOk B141_3 := base_ok named_z ⟨s101, s140, s143, s149, s156, s179, trivial⟩ ⟨(cnd_sound (c := fun s => Kz.shp [0, 1, 2, 4] s == [50, 228, 244, 3, 10, 3, 7, 4, 7, 3, 7, 3, 7, 3, 3, 5, 3, 3, 3, 3, 2, 1, 7, 10, 3, 7, 4, 7, 3, 7, 3, 7, 3, 3, 1, 4, 1, 4, 1, 1180, 1, 2, 1, 3, 1, 3, 182]) sF141_1 (cnd_sound (c := fun s => Kz.shp [0, 1, 2, 4] s == [51, 292, 308, 3, 10, 3, 7, 4, 7, 3, 7, 3, 7, 3, 3, 5, 3, 3, 3, 3, 2, 1, 7, 10, 3, 7, 4, 7, 3, 7, 3, 7, 3, 3, 1, 4, 1, 4, 1, 1180, 1, 2, 1, 3, 1, 3, 1, 1180, 1, 2, 1, 3, 1, 3, 182, 182]) sF141_2 fail_sound)), trivial⟩ trivial
noncomputable def S141_3 (p1 : Pos) (p2 : (List Int)) (p3 : Pos) (p4 : (BitVec 64)) (p5 : (BitVec 64)) (p6 : Int) (p7 : Int) (p8 : Int) (p9 : Int) (p10 : Int) (p11 : Int) (x : (Int)) : St := St.mk (AV.yield 2 :: AV.ptr 16 0 :: AV.ptr 17 0 :: AV.any :: AV.int .i64 x :: (an 14 [])) (Hp.mk [(pc p1 []), [AV.int .i8 0, AV.int .i8 0, AV.int .u8 0, AV.int .u8 0, AV.bool false], [AV.ints .i64 2 p2], (pc p3 []), [AV.u64 p4], [AV.u64 p5], [AV.func 180 [] [AV.ptr 4 0]], [AV.bool true], [AV.int .i64 p6], [AV.int .i64 p7], [AV.func 180 [] [AV.ptr 4 0]], [AV.bool true], [AV.int .i64 p8], [AV.int .i64 p9], [AV.func 181 [] [AV.ptr 0 0, AV.ptr 5 0, AV.ptr 3 0]], [AV.bool false], [AV.int .i64 p10], [AV.int .i64 p11]] [] [LRec.mk 3 none 182 (an 5 (AV.ptr 6 0 :: AV.ptr 7 0 :: (an 3 (AV.func 213 [] [AV.ptr 8 0, AV.ptr 9 0] :: (an 5 []))))) [11] (rfA Pz 182 3) (rfB Pz 182 3), LRec.mk 3 none 182 (an 5 (AV.ptr 10 0 :: AV.ptr 11 0 :: (an 3 (AV.func 213 [] [AV.ptr 12 0, AV.ptr 13 0] :: (an 5 []))))) [11] (rfA Pz 182 3) (rfB Pz 182 3), LRec.mk 0 none 182 (an 5 (AV.ptr 14 0 :: AV.ptr 15 0 :: (an 3 (AV.func 213 [] [AV.ptr 16 0, AV.ptr 17 0] :: (an 5 []))))) [11] (rfA Pz 182 3) (rfB Pz 182 3)] 0 0 0)
noncomputable def O141_3 (p1 : Pos) (p2 : (List Int)) (p3 : Pos) (p4 : (BitVec 64)) (p5 : (BitVec 64)) (p6 : Int) (p7 : Int) (p8 : Int) (p9 : Int) (p10 : Int) (p11 : Int) : (Int) ⊕ (Int × Bool) → Out
  | (.inl (y)) => .ret (St.mk (AV.yield 2 :: AV.ptr 16 0 :: AV.ptr 17 0 :: AV.any :: AV.int .i64 y :: (an 13 [AV.cbool true])) (Hp.mk [(pc p1 []), [AV.int .i8 0, AV.int .i8 0, AV.int .u8 0, AV.int .u8 0, AV.bool false], [AV.ints .i64 2 p2], (pc p3 []), [AV.u64 p4], [AV.u64 p5], [AV.func 180 [] [AV.ptr 4 0]], [AV.bool true], [AV.int .i64 p6], [AV.int .i64 p7], [AV.func 180 [] [AV.ptr 4 0]], [AV.bool true], [AV.int .i64 p8], [AV.int .i64 p9], [AV.func 181 [] [AV.ptr 0 0, AV.ptr 5 0, AV.ptr 3 0]], [AV.bool false], [AV.int .i64 p10], [AV.int .i64 p11]] [] [LRec.mk 3 none 182 (an 5 (AV.ptr 6 0 :: AV.ptr 7 0 :: (an 3 (AV.func 213 [] [AV.ptr 8 0, AV.ptr 9 0] :: (an 5 []))))) [11] (rfA Pz 182 3) (rfB Pz 182 3), LRec.mk 3 none 182 (an 5 (AV.ptr 10 0 :: AV.ptr 11 0 :: (an 3 (AV.func 213 [] [AV.ptr 12 0, AV.ptr 13 0] :: (an 5 []))))) [11] (rfA Pz 182 3) (rfB Pz 182 3), LRec.mk 2 (some Code.ret) 182 (an 5 (AV.ptr 14 0 :: AV.ptr 15 0 :: (an 3 (AV.func 213 [] [AV.ptr 16 0, AV.ptr 17 0] :: (an 5 []))))) [11] (rfA Pz 182 3) (rfB Pz 182 3)] 0 0 0))
  | (.inr (y)) => .exit 0 (St.mk (AV.yield 2 :: AV.ptr 16 0 :: AV.ptr 17 0 :: AV.any :: AV.int .i64 y.fst :: (an 7 (AV.bool y.snd :: (an 6 [])))) (Hp.mk [(pc p1 []), [AV.int .i8 0, AV.int .i8 0, AV.int .u8 0, AV.int .u8 0, AV.bool false], [AV.ints .i64 2 p2], (pc p3 []), [AV.u64 p4], [AV.u64 p5], [AV.func 180 [] [AV.ptr 4 0]], [AV.bool true], [AV.int .i64 p6], [AV.int .i64 p7], [AV.func 180 [] [AV.ptr 4 0]], [AV.bool true], [AV.int .i64 p8], [AV.int .i64 p9], [AV.func 181 [] [AV.ptr 0 0, AV.ptr 5 0, AV.ptr 3 0]], [AV.bool false], [AV.int .i64 p10], [AV.int .i64 p11]] [] [LRec.mk 3 none 182 (an 5 (AV.ptr 6 0 :: AV.ptr 7 0 :: (an 3 (AV.func 213 [] [AV.ptr 8 0, AV.ptr 9 0] :: (an 5 []))))) [11] (rfA Pz 182 3) (rfB Pz 182 3), LRec.mk 3 none 182 (an 5 (AV.ptr 10 0 :: AV.ptr 11 0 :: (an 3 (AV.func 213 [] [AV.ptr 12 0, AV.ptr 13 0] :: (an 5 []))))) [11] (rfA Pz 182 3) (rfB Pz 182 3), LRec.mk 0 none 182 (an 5 (AV.ptr 14 0 :: AV.ptr 15 0 :: (an 3 (AV.func 213 [] [AV.ptr 16 0, AV.ptr 17 0] :: (an 5 []))))) [11] (rfA Pz 182 3) (rfB Pz 182 3)] 0 0 0))
noncomputable def st141_3 (p1 : Pos) (p2 : (List Int)) (p3 : Pos) (p4 : (BitVec 64)) (p5 : (BitVec 64)) (p6 : Int) (p7 : Int) (p8 : Int) (p9 : Int) (p10 : Int) (p11 : Int) (x : (Int)) : Stp (Int) ((Int) ⊕ (Int × Bool)) := (bif decide (x ≤ if p11 > p10 then p11 else p10) then (bif p1.variant == 3 then (bif N149 x &&& p5 != 0#64 then (Stp.go (wr .i64 (x + 1))) else (bif !!N156 p3 x (wr .u8 (1 - p1.turn)) then (Stp.out (.inl ((x)))) else (Stp.go (wr .i64 (x + 1))))) else (bif !!N156 p3 x (wr .u8 (1 - p1.turn)) then (Stp.out (.inl ((x)))) else (Stp.go (wr .i64 (x + 1))))) else (Stp.out (.inr ((x, decide (x ≤ if p11 > p10 then p11 else p10))))))
noncomputable def okL141_3 (p1 : Pos) (p2 : (List Int)) (p3 : Pos) (p4 : (BitVec 64)) (p5 : (BitVec 64)) (p6 : Int) (p7 : Int) (p8 : Int) (p9 : Int) (p10 : Int) (p11 : Int) (x : (Int)) : Bool := (bif decide (x ≤ if p11 > p10 then p11 else p10) then (bif p1.variant == 3 then (ok149 (x) && (bif N149 x &&& p5 != 0#64 then true else (ok156 (p3) (x) (wr .u8 (1 - p1.turn)) && true))) else (ok156 (p3) (x) (wr .u8 (1 - p1.turn)) && true)) else true)
noncomputable def lp141_3 (p1 : Pos) (p2 : (List Int)) (p3 : Pos) (p4 : (BitVec 64)) (p5 : (BitVec 64)) (p6 : Int) (p7 : Int) (p8 : Int) (p9 : Int) (p10 : Int) (p11 : Int) (x : (Int)) : Option ((Int) ⊕ (Int × Bool)) := itl (fun x => bif okL141_3 p1 p2 p3 p4 p5 p6 p7 p8 p9 p10 p11 x then st141_3 p1 p2 p3 p4 p5 p6 p7 p8 p9 p10 p11 x else .bad) many x
theorem E141_3 (p1 : Pos) (p2 : (List Int)) (p3 : Pos) (p4 : (BitVec 64)) (p5 : (BitVec 64)) (p6 : Int) (p7 : Int) (p8 : Int) (p9 : Int) (p10 : Int) (p11 : Int) (x : (Int)) : evCd B141_3 12 213 (bodL Pz 213 1) (S141_3 p1 p2 p3 p4 p5 p6 p7 p8 p9 p10 p11 x) = (let z1 := (Hp.mk [(pc p1 []), [AV.int .i8 0, AV.int .i8 0, AV.int .u8 0, AV.int .u8 0, AV.bool false], [AV.ints .i64 2 p2], (pc p3 []), [AV.u64 p4], [AV.u64 p5], [AV.func 180 [] [AV.ptr 4 0]], [AV.bool true], [AV.int .i64 p6], [AV.int .i64 p7], [AV.func 180 [] [AV.ptr 4 0]], [AV.bool true], [AV.int .i64 p8], [AV.int .i64 p9], [AV.func 181 [] [AV.ptr 0 0, AV.ptr 5 0, AV.ptr 3 0]], [AV.bool false], [AV.int .i64 p10], [AV.int .i64 p11]] [] [LRec.mk 3 none 182 (an 5 (AV.ptr 6 0 :: AV.ptr 7 0 :: (an 3 (AV.func 213 [] [AV.ptr 8 0, AV.ptr 9 0] :: (an 5 []))))) [11] (rfA Pz 182 3) (rfB Pz 182 3), LRec.mk 3 none 182 (an 5 (AV.ptr 10 0 :: AV.ptr 11 0 :: (an 3 (AV.func 213 [] [AV.ptr 12 0, AV.ptr 13 0] :: (an 5 []))))) [11] (rfA Pz 182 3) (rfB Pz 182 3), LRec.mk 0 none 182 (an 5 (AV.ptr 14 0 :: AV.ptr 15 0 :: (an 3 (AV.func 213 [] [AV.ptr 16 0, AV.ptr 17 0] :: (an 5 []))))) [11] (rfA Pz 182 3) (rfB Pz 182 3)] 0 0 0); let z2 := (Tr.br (isPS Pz 156 [p3.av, AV.int .i64 x, AV.int .u8 (wr .u8 (1 - p1.turn))] (dB.res (N156 p3 x (wr .u8 (1 - p1.turn))))) (Tr.br (!!N156 p3 x (wr .u8 (1 - p1.turn))) (Tr.ret (Out.ret (St.mk (AV.yield 2 :: AV.ptr 16 0 :: AV.ptr 17 0 :: AV.any :: AV.int .i64 x :: (an 13 [AV.cbool true])) (Hp.mk [(pc p1 []), [AV.int .i8 0, AV.int .i8 0, AV.int .u8 0, AV.int .u8 0, AV.bool false], [AV.ints .i64 2 p2], (pc p3 []), [AV.u64 p4], [AV.u64 p5], [AV.func 180 [] [AV.ptr 4 0]], [AV.bool true], [AV.int .i64 p6], [AV.int .i64 p7], [AV.func 180 [] [AV.ptr 4 0]], [AV.bool true], [AV.int .i64 p8], [AV.int .i64 p9], [AV.func 181 [] [AV.ptr 0 0, AV.ptr 5 0, AV.ptr 3 0]], [AV.cbool false], [AV.int .i64 p10], [AV.int .i64 p11]] [] [LRec.mk 3 none 182 (an 5 (AV.ptr 6 0 :: AV.ptr 7 0 :: (an 3 (AV.func 213 [] [AV.ptr 8 0, AV.ptr 9 0] :: (an 5 []))))) [11] (rfA Pz 182 3) (rfB Pz 182 3), LRec.mk 3 none 182 (an 5 (AV.ptr 10 0 :: AV.ptr 11 0 :: (an 3 (AV.func 213 [] [AV.ptr 12 0, AV.ptr 13 0] :: (an 5 []))))) [11] (rfA Pz 182 3) (rfB Pz 182 3), LRec.mk 2 (some Code.ret) 182 (an 5 (AV.ptr 14 0 :: AV.ptr 15 0 :: (an 3 (AV.func 213 [] [AV.ptr 16 0, AV.ptr 17 0] :: (an 5 []))))) [11] (rfA Pz 182 3) (rfB Pz 182 3)] 0 0 0)))) (Tr.ret (Out.norm (St.mk (AV.yield 2 :: AV.ptr 16 0 :: AV.ptr 17 0 :: AV.any :: AV.int .i64 (wr .i64 (x + 1)) :: (an 14 [])) z1)))) Tr.fail); Tr.br (decide (x ≤ if p11 > p10 then p11 else p10)) (Tr.br (p1.variant == 3) (Tr.br (isPS Pz 149 [AV.int .i64 x] (dU.res (N149 x))) (Tr.br (N149 x &&& p5 != 0#64) (Tr.ret (Out.norm (St.mk (AV.yield 2 :: AV.ptr 16 0 :: AV.ptr 17 0 :: AV.any :: AV.int .i64 (wr .i64 (x + 1)) :: (an 14 [])) z1))) z2) Tr.fail) z2) (Tr.ret (Out.exit 0 (St.mk (AV.yield 2 :: AV.ptr 16 0 :: AV.ptr 17 0 :: AV.any :: AV.int .i64 x :: (an 7 (AV.bool (decide (x ≤ if p11 > p10 then p11 else p10)) :: (an 6 [])))) z1)))) := by kernel_rfl
theorem L141_3 (p1 : Pos) (p2 : (List Int)) (p3 : Pos) (p4 : (BitVec 64)) (p5 : (BitVec 64)) (p6 : Int) (p7 : Int) (p8 : Int) (p9 : Int) (p10 : Int) (p11 : Int) (x : (Int)) (r : (Int) ⊕ (Int × Bool)) (h : lp141_3 p1 p2 p3 p4 p5 p6 p7 p8 p9 p10 p11 x = some r) : LSpec Pz (bodL Pz 213 1) (S141_3 p1 p2 p3 p4 p5 p6 p7 p8 p9 p10 p11 x) (O141_3 p1 p2 p3 p4 p5 p6 p7 p8 p9 p10 p11 r) := LSpec.itd (S := S141_3 p1 p2 p3 p4 p5 p6 p7 p8 p9 p10 p11) (O := O141_3 p1 p2 p3 p4 p5 p6 p7 p8 p9 p10 p11) (ok := okL141_3 p1 p2 p3 p4 p5 p6 p7 p8 p9 p10 p11) (st := st141_3 p1 p2 p3 p4 p5 p6 p7 p8 p9 p10 p11) hB141_3 (fun x => gr_eq (E141_3 p1 p2 p3 p4 p5 p6 p7 p8 p9 p10 p11 x) (gr_br (gr_br (gr_call (P149 (x)) (gr_br (gr_ret (rl_go (wk_nrm (ks := (3 :: (rn 5 14 []))) (gs := [4]) (b := true) rfl (by kernel_rfl)))) (gr_call (P156 (p3) (x) (wr .u8 (1 - p1.turn))) (gr_br2 (gr_ret (rl_ret rfl (wk_nrm (ks := (3 :: (rn 5 13 []))) (gs := [4]) (b := true) rfl (by kernel_rfl)))) (gr_ret (rl_go (wk_nrm (ks := (3 :: (rn 5 14 []))) (gs := [4]) (b := true) rfl (by kernel_rfl)))))))) (gr_call (P156 (p3) (x) (wr .u8 (1 - p1.turn))) (gr_br2 (gr_ret (rl_ret rfl (wk_nrm (ks := (3 :: (rn 5 13 []))) (gs := [4]) (b := true) rfl (by kernel_rfl)))) (gr_ret (rl_go (wk_nrm (ks := (3 :: (rn 5 14 []))) (gs := [4]) (b := true) rfl (by kernel_rfl))))))) (gr_ret (rl_exit rfl (wk_nrm (ks := (3 :: (rn 5 7 (rn 13 6 [])))) (gs := []) (b := false) rfl (by kernel_rfl)))))) many x r h
noncomputable def F141_3 : Code → St → Tr Out := fun b s => .br (isL ((lp141_3 (Kz.Pos.mk (tI (tH s 0 0)) (tN (tH s 0 1)) (tU (tH s 0 2)) (tN (tH s 0 3)) (tI (tH s 0 4)) (tN (tH s 0 5)) (tI (tH s 0 6)) (tN (tH s 0 7)) (tI (tH s 0 8)) (tI (tH s 0 9))) (tN (tH s 2 0)) (Kz.Pos.mk (tI (tH s 3 0)) (tN (tH s 3 1)) (tU (tH s 3 2)) (tN (tH s 3 3)) (tI (tH s 3 4)) (tN (tH s 3 5)) (tI (tH s 3 6)) (tN (tH s 3 7)) (tI (tH s 3 8)) (tI (tH s 3 9))) (tU (tH s 4 0)) (tU (tH s 5 0)) (tI (tH s 8 0)) (tI (tH s 9 0)) (tI (tH s 12 0)) (tI (tH s 13 0)) (tI (tH s 16 0)) (tI (tH s 17 0)) ((tI (tT s 4)))).getD default)) (sureL Pz (fun s => O141_3 (Kz.Pos.mk (tI (tH s 0 0)) (tN (tH s 0 1)) (tU (tH s 0 2)) (tN (tH s 0 3)) (tI (tH s 0 4)) (tN (tH s 0 5)) (tI (tH s 0 6)) (tN (tH s 0 7)) (tI (tH s 0 8)) (tI (tH s 0 9))) (tN (tH s 2 0)) (Kz.Pos.mk (tI (tH s 3 0)) (tN (tH s 3 1)) (tU (tH s 3 2)) (tN (tH s 3 3)) (tI (tH s 3 4)) (tN (tH s 3 5)) (tI (tH s 3 6)) (tN (tH s 3 7)) (tI (tH s 3 8)) (tI (tH s 3 9))) (tU (tH s 4 0)) (tU (tH s 5 0)) (tI (tH s 8 0)) (tI (tH s 9 0)) (tI (tH s 12 0)) (tI (tH s 13 0)) (tI (tH s 16 0)) (tI (tH s 17 0)) (.inl (gl ((lp141_3 (Kz.Pos.mk (tI (tH s 0 0)) (tN (tH s 0 1)) (tU (tH s 0 2)) (tN (tH s 0 3)) (tI (tH s 0 4)) (tN (tH s 0 5)) (tI (tH s 0 6)) (tN (tH s 0 7)) (tI (tH s 0 8)) (tI (tH s 0 9))) (tN (tH s 2 0)) (Kz.Pos.mk (tI (tH s 3 0)) (tN (tH s 3 1)) (tU (tH s 3 2)) (tN (tH s 3 3)) (tI (tH s 3 4)) (tN (tH s 3 5)) (tI (tH s 3 6)) (tN (tH s 3 7)) (tI (tH s 3 8)) (tI (tH s 3 9))) (tU (tH s 4 0)) (tU (tH s 5 0)) (tI (tH s 8 0)) (tI (tH s 9 0)) (tI (tH s 12 0)) (tI (tH s 13 0)) (tI (tH s 16 0)) (tI (tH s 17 0)) ((tI (tT s 4)))).getD default)))) b s) (sureL Pz (fun s => O141_3 (Kz.Pos.mk (tI (tH s 0 0)) (tN (tH s 0 1)) (tU (tH s 0 2)) (tN (tH s 0 3)) (tI (tH s 0 4)) (tN (tH s 0 5)) (tI (tH s 0 6)) (tN (tH s 0 7)) (tI (tH s 0 8)) (tI (tH s 0 9))) (tN (tH s 2 0)) (Kz.Pos.mk (tI (tH s 3 0)) (tN (tH s 3 1)) (tU (tH s 3 2)) (tN (tH s 3 3)) (tI (tH s 3 4)) (tN (tH s 3 5)) (tI (tH s 3 6)) (tN (tH s 3 7)) (tI (tH s 3 8)) (tI (tH s 3 9))) (tU (tH s 4 0)) (tU (tH s 5 0)) (tI (tH s 8 0)) (tI (tH s 9 0)) (tI (tH s 12 0)) (tI (tH s 13 0)) (tI (tH s 16 0)) (tI (tH s 17 0)) (.inr (gr ((lp141_3 (Kz.Pos.mk (tI (tH s 0 0)) (tN (tH s 0 1)) (tU (tH s 0 2)) (tN (tH s 0 3)) (tI (tH s 0 4)) (tN (tH s 0 5)) (tI (tH s 0 6)) (tN (tH s 0 7)) (tI (tH s 0 8)) (tI (tH s 0 9))) (tN (tH s 2 0)) (Kz.Pos.mk (tI (tH s 3 0)) (tN (tH s 3 1)) (tU (tH s 3 2)) (tN (tH s 3 3)) (tI (tH s 3 4)) (tN (tH s 3 5)) (tI (tH s 3 6)) (tN (tH s 3 7)) (tI (tH s 3 8)) (tI (tH s 3 9))) (tU (tH s 4 0)) (tU (tH s 5 0)) (tI (tH s 8 0)) (tI (tH s 9 0)) (tI (tH s 12 0)) (tI (tH s 13 0)) (tI (tH s 16 0)) (tI (tH s 17 0)) ((tI (tT s 4)))).getD default)))) b s)
theorem sF141_3 : ∀ b, LSound Pz b (F141_3 b) := brL_sound (c := fun s => isL ((lp141_3 (Kz.Pos.mk (tI (tH s 0 0)) (tN (tH s 0 1)) (tU (tH s 0 2)) (tN (tH s 0 3)) (tI (tH s 0 4)) (tN (tH s 0 5)) (tI (tH s 0 6)) (tN (tH s 0 7)) (tI (tH s 0 8)) (tI (tH s 0 9))) (tN (tH s 2 0)) (Kz.Pos.mk (tI (tH s 3 0)) (tN (tH s 3 1)) (tU (tH s 3 2)) (tN (tH s 3 3)) (tI (tH s 3 4)) (tN (tH s 3 5)) (tI (tH s 3 6)) (tN (tH s 3 7)) (tI (tH s 3 8)) (tI (tH s 3 9))) (tU (tH s 4 0)) (tU (tH s 5 0)) (tI (tH s 8 0)) (tI (tH s 9 0)) (tI (tH s 12 0)) (tI (tH s 13 0)) (tI (tH s 16 0)) (tI (tH s 17 0)) ((tI (tT s 4)))).getD default)) sureL_sound sureL_sound
noncomputable def B141 : Base := baseOf Pz (fun f i => lkK f i K141) [(101, G101), (140, G140), (143, G143), (149, G149), (156, G156), (179, G179)] [(213, 1, fun b s => (bif Kz.shp [0, 1, 2, 4] s == [50, 228, 244, 3, 10, 3, 7, 4, 7, 3, 7, 3, 7, 3, 3, 5, 3, 3, 3, 3, 2, 1, 7, 10, 3, 7, 4, 7, 3, 7, 3, 7, 3, 3, 1, 4, 1, 4, 1, 1180, 1, 2, 1, 3, 1, 3, 182] then F141_1 b s else (bif Kz.shp [0, 1, 2, 4] s == [51, 292, 308, 3, 10, 3, 7, 4, 7, 3, 7, 3, 7, 3, 3, 5, 3, 3, 3, 3, 2, 1, 7, 10, 3, 7, 4, 7, 3, 7, 3, 7, 3, 3, 1, 4, 1, 4, 1, 1180, 1, 2, 1, 3, 1, 3, 1, 1180, 1, 2, 1, 3, 1, 3, 182, 182] then F141_2 b s else (bif Kz.shp [0, 1, 2, 4] s == [52, 356, 372, 3, 10, 3, 7, 4, 7, 3, 7, 3, 7, 3, 3, 5, 3, 3, 3, 3, 2, 1, 7, 10, 3, 7, 4, 7, 3, 7, 3, 7, 3, 3, 1, 4, 1, 4, 1, 1180, 1, 2, 1, 3, 1, 3, 1, 1180, 1, 2, 1, 3, 1, 3, 1, 1181, 1, 2, 1, 3, 1, 3, 182, 182, 182] then F141_3 b s else .fail))))] []
theorem hB141 : BOk B141 := base_ok named_z ⟨s101, s140, s143, s149, s156, s179, trivial⟩ ⟨(cnd_sound (c := fun s => Kz.shp [0, 1, 2, 4] s == [50, 228, 244, 3, 10, 3, 7, 4, 7, 3, 7, 3, 7, 3, 3, 5, 3, 3, 3, 3, 2, 1, 7, 10, 3, 7, 4, 7, 3, 7, 3, 7, 3, 3, 1, 4, 1, 4, 1, 1180, 1, 2, 1, 3, 1, 3, 182]) sF141_1 (cnd_sound (c := fun s => Kz.shp [0, 1, 2, 4] s == [51, 292, 308, 3, 10, 3, 7, 4, 7, 3, 7, 3, 7, 3, 3, 5, 3, 3, 3, 3, 2, 1, 7, 10, 3, 7, 4, 7, 3, 7, 3, 7, 3, 3, 1, 4, 1, 4, 1, 1180, 1, 2, 1, 3, 1, 3, 1, 1180, 1, 2, 1, 3, 1, 3, 182, 182]) sF141_2 (cnd_sound (c := fun s => Kz.shp [0, 1, 2, 4] s == [52, 356, 372, 3, 10, 3, 7, 4, 7, 3, 7, 3, 7, 3, 3, 5, 3, 3, 3, 3, 2, 1, 7, 10, 3, 7, 4, 7, 3, 7, 3, 7, 3, 3, 1, 4, 1, 4, 1, 1180, 1, 2, 1, 3, 1, 3, 1, 1180, 1, 2, 1, 3, 1, 3, 1, 1181, 1, 2, 1, 3, 1, 3, 182, 182, 182]) sF141_3 fail_sound))), trivial⟩ trivial
noncomputable def N141 (a : Pos) (b : Int) (c : Int) : (Mv × Bool) := (bif !(N179 a b c).snd then (⟨(0), (0), (0), (0), (false)⟩, (false)) else (bif isL ((lp141_1 a (List.take 2 (List.drop (c.toNat * 2) (li [6, 5, 2, 3]))) (Pos.mk a.variant ((a.board.set (scale 1 b).toNat 0).set (scale 1 (N179 a b c).fst).toNat 0) a.promoted a.pockets a.turn a.rooks a.passing a.checks a.half a.full) (N143 (Pos.mk a.variant ((a.board.set (scale 1 b).toNat 0).set (scale 1 (N179 a b c).fst).toNat 0) a.promoted a.pockets a.turn a.rooks a.passing a.checks a.half a.full)) (N101 a (wr .u8 (1 - a.turn)) 6) b (wr .i64 (N140 a.turn + (List.take 2 (List.drop (c.toNat * 2) (li [6, 5, 2, 3]))).getD 0 0)) (if wr .i64 (N140 a.turn + (List.take 2 (List.drop (c.toNat * 2) (li [6, 5, 2, 3]))).getD 0 0) < b then wr .i64 (N140 a.turn + (List.take 2 (List.drop (c.toNat * 2) (li [6, 5, 2, 3]))).getD 0 0) else b)).getD default) then (⟨(wr .i8 b), (wr .i8 (N179 a b c).fst), (0), (0), (true)⟩, (false)) else (bif isL ((lp141_2 a (List.take 2 (List.drop (c.toNat * 2) (li [6, 5, 2, 3]))) (Pos.mk a.variant ((a.board.set (scale 1 b).toNat 0).set (scale 1 (N179 a b c).fst).toNat 0) a.promoted a.pockets a.turn a.rooks a.passing a.checks a.half a.full) (N143 (Pos.mk a.variant ((a.board.set (scale 1 b).toNat 0).set (scale 1 (N179 a b c).fst).toNat 0) a.promoted a.pockets a.turn a.rooks a.passing a.checks a.half a.full)) (N101 a (wr .u8 (1 - a.turn)) 6) b (wr .i64 (N140 a.turn + (List.take 2 (List.drop (c.toNat * 2) (li [6, 5, 2, 3]))).getD 0 0)) (N179 a b c).fst (wr .i64 (N140 a.turn + (List.take 2 (List.drop (c.toNat * 2) (li [6, 5, 2, 3]))).getD 1 0)) (if wr .i64 (N140 a.turn + (List.take 2 (List.drop (c.toNat * 2) (li [6, 5, 2, 3]))).getD 1 0) < (N179 a b c).fst then wr .i64 (N140 a.turn + (List.take 2 (List.drop (c.toNat * 2) (li [6, 5, 2, 3]))).getD 1 0) else (N179 a b c).fst)).getD default) then (⟨(wr .i8 b), (wr .i8 (N179 a b c).fst), (0), (0), (true)⟩, (false)) else (bif isL ((lp141_3 a (List.take 2 (List.drop (c.toNat * 2) (li [6, 5, 2, 3]))) (Pos.mk a.variant ((a.board.set (scale 1 b).toNat 0).set (scale 1 (N179 a b c).fst).toNat 0) a.promoted a.pockets a.turn a.rooks a.passing a.checks a.half a.full) (N143 (Pos.mk a.variant ((a.board.set (scale 1 b).toNat 0).set (scale 1 (N179 a b c).fst).toNat 0) a.promoted a.pockets a.turn a.rooks a.passing a.checks a.half a.full)) (N101 a (wr .u8 (1 - a.turn)) 6) b (wr .i64 (N140 a.turn + (List.take 2 (List.drop (c.toNat * 2) (li [6, 5, 2, 3]))).getD 0 0)) (N179 a b c).fst (wr .i64 (N140 a.turn + (List.take 2 (List.drop (c.toNat * 2) (li [6, 5, 2, 3]))).getD 1 0)) b (wr .i64 (N140 a.turn + (List.take 2 (List.drop (c.toNat * 2) (li [6, 5, 2, 3]))).getD 0 0)) (if wr .i64 (N140 a.turn + (List.take 2 (List.drop (c.toNat * 2) (li [6, 5, 2, 3]))).getD 0 0) < b then wr .i64 (N140 a.turn + (List.take 2 (List.drop (c.toNat * 2) (li [6, 5, 2, 3]))).getD 0 0) else b)).getD default) then (⟨(wr .i8 b), (wr .i8 (N179 a b c).fst), (0), (0), (true)⟩, (false)) else (⟨(wr .i8 b), (wr .i8 (N179 a b c).fst), (0), (0), (true)⟩, (true))))))
noncomputable def ok141 (a : Pos) (b : Int) (c : Int) : Bool := (ok179 (a) (b) (c) && (bif !(N179 a b c).snd then true else (decide (0 ≤ c) && decide (c < Int.ofNat 2) && (decide (0 ≤ b) && decide (b < Int.ofNat 64) && (decide (0 ≤ (N179 a b c).fst) && decide ((N179 a b c).fst < Int.ofNat 64) && (ok143 (Pos.mk a.variant ((a.board.set (scale 1 b).toNat 0).set (scale 1 (N179 a b c).fst).toNat 0) a.promoted a.pockets a.turn a.rooks a.passing a.checks a.half a.full) && (ok101 (a) (wr .u8 (1 - a.turn)) (6) && ((lp141_1 a (List.take 2 (List.drop (c.toNat * 2) (li [6, 5, 2, 3]))) (Pos.mk a.variant ((a.board.set (scale 1 b).toNat 0).set (scale 1 (N179 a b c).fst).toNat 0) a.promoted a.pockets a.turn a.rooks a.passing a.checks a.half a.full) (N143 (Pos.mk a.variant ((a.board.set (scale 1 b).toNat 0).set (scale 1 (N179 a b c).fst).toNat 0) a.promoted a.pockets a.turn a.rooks a.passing a.checks a.half a.full)) (N101 a (wr .u8 (1 - a.turn)) 6) b (wr .i64 (N140 a.turn + (List.take 2 (List.drop (c.toNat * 2) (li [6, 5, 2, 3]))).getD 0 0)) (if wr .i64 (N140 a.turn + (List.take 2 (List.drop (c.toNat * 2) (li [6, 5, 2, 3]))).getD 0 0) < b then wr .i64 (N140 a.turn + (List.take 2 (List.drop (c.toNat * 2) (li [6, 5, 2, 3]))).getD 0 0) else b)).isSome && bif isL ((lp141_1 a (List.take 2 (List.drop (c.toNat * 2) (li [6, 5, 2, 3]))) (Pos.mk a.variant ((a.board.set (scale 1 b).toNat 0).set (scale 1 (N179 a b c).fst).toNat 0) a.promoted a.pockets a.turn a.rooks a.passing a.checks a.half a.full) (N143 (Pos.mk a.variant ((a.board.set (scale 1 b).toNat 0).set (scale 1 (N179 a b c).fst).toNat 0) a.promoted a.pockets a.turn a.rooks a.passing a.checks a.half a.full)) (N101 a (wr .u8 (1 - a.turn)) 6) b (wr .i64 (N140 a.turn + (List.take 2 (List.drop (c.toNat * 2) (li [6, 5, 2, 3]))).getD 0 0)) (if wr .i64 (N140 a.turn + (List.take 2 (List.drop (c.toNat * 2) (li [6, 5, 2, 3]))).getD 0 0) < b then wr .i64 (N140 a.turn + (List.take 2 (List.drop (c.toNat * 2) (li [6, 5, 2, 3]))).getD 0 0) else b)).getD default) then true else ((lp141_2 a (List.take 2 (List.drop (c.toNat * 2) (li [6, 5, 2, 3]))) (Pos.mk a.variant ((a.board.set (scale 1 b).toNat 0).set (scale 1 (N179 a b c).fst).toNat 0) a.promoted a.pockets a.turn a.rooks a.passing a.checks a.half a.full) (N143 (Pos.mk a.variant ((a.board.set (scale 1 b).toNat 0).set (scale 1 (N179 a b c).fst).toNat 0) a.promoted a.pockets a.turn a.rooks a.passing a.checks a.half a.full)) (N101 a (wr .u8 (1 - a.turn)) 6) b (wr .i64 (N140 a.turn + (List.take 2 (List.drop (c.toNat * 2) (li [6, 5, 2, 3]))).getD 0 0)) (N179 a b c).fst (wr .i64 (N140 a.turn + (List.take 2 (List.drop (c.toNat * 2) (li [6, 5, 2, 3]))).getD 1 0)) (if wr .i64 (N140 a.turn + (List.take 2 (List.drop (c.toNat * 2) (li [6, 5, 2, 3]))).getD 1 0) < (N179 a b c).fst then wr .i64 (N140 a.turn + (List.take 2 (List.drop (c.toNat * 2) (li [6, 5, 2, 3]))).getD 1 0) else (N179 a b c).fst)).isSome && bif isL ((lp141_2 a (List.take 2 (List.drop (c.toNat * 2) (li [6, 5, 2, 3]))) (Pos.mk a.variant ((a.board.set (scale 1 b).toNat 0).set (scale 1 (N179 a b c).fst).toNat 0) a.promoted a.pockets a.turn a.rooks a.passing a.checks a.half a.full) (N143 (Pos.mk a.variant ((a.board.set (scale 1 b).toNat 0).set (scale 1 (N179 a b c).fst).toNat 0) a.promoted a.pockets a.turn a.rooks a.passing a.checks a.half a.full)) (N101 a (wr .u8 (1 - a.turn)) 6) b (wr .i64 (N140 a.turn + (List.take 2 (List.drop (c.toNat * 2) (li [6, 5, 2, 3]))).getD 0 0)) (N179 a b c).fst (wr .i64 (N140 a.turn + (List.take 2 (List.drop (c.toNat * 2) (li [6, 5, 2, 3]))).getD 1 0)) (if wr .i64 (N140 a.turn + (List.take 2 (List.drop (c.toNat * 2) (li [6, 5, 2, 3]))).getD 1 0) < (N179 a b c).fst then wr .i64 (N140 a.turn + (List.take 2 (List.drop (c.toNat * 2) (li [6, 5, 2, 3]))).getD 1 0) else (N179 a b c).fst)).getD default) then true else ((lp141_3 a (List.take 2 (List.drop (c.toNat * 2) (li [6, 5, 2, 3]))) (Pos.mk a.variant ((a.board.set (scale 1 b).toNat 0).set (scale 1 (N179 a b c).fst).toNat 0) a.promoted a.pockets a.turn a.rooks a.passing a.checks a.half a.full) (N143 (Pos.mk a.variant ((a.board.set (scale 1 b).toNat 0).set (scale 1 (N179 a b c).fst).toNat 0) a.promoted a.pockets a.turn a.rooks a.passing a.checks a.half a.full)) (N101 a (wr .u8 (1 - a.turn)) 6) b (wr .i64 (N140 a.turn + (List.take 2 (List.drop (c.toNat * 2) (li [6, 5, 2, 3]))).getD 0 0)) (N179 a b c).fst (wr .i64 (N140 a.turn + (List.take 2 (List.drop (c.toNat * 2) (li [6, 5, 2, 3]))).getD 1 0)) b (wr .i64 (N140 a.turn + (List.take 2 (List.drop (c.toNat * 2) (li [6, 5, 2, 3]))).getD 0 0)) (if wr .i64 (N140 a.turn + (List.take 2 (List.drop (c.toNat * 2) (li [6, 5, 2, 3]))).getD 0 0) < b then wr .i64 (N140 a.turn + (List.take 2 (List.drop (c.toNat * 2) (li [6, 5, 2, 3]))).getD 0 0) else b)).isSome && bif isL ((lp141_3 a (List.take 2 (List.drop (c.toNat * 2) (li [6, 5, 2, 3]))) (Pos.mk a.variant ((a.board.set (scale 1 b).toNat 0).set (scale 1 (N179 a b c).fst).toNat 0) a.promoted a.pockets a.turn a.rooks a.passing a.checks a.half a.full) (N143 (Pos.mk a.variant ((a.board.set (scale 1 b).toNat 0).set (scale 1 (N179 a b c).fst).toNat 0) a.promoted a.pockets a.turn a.rooks a.passing a.checks a.half a.full)) (N101 a (wr .u8 (1 - a.turn)) 6) b (wr .i64 (N140 a.turn + (List.take 2 (List.drop (c.toNat * 2) (li [6, 5, 2, 3]))).getD 0 0)) (N179 a b c).fst (wr .i64 (N140 a.turn + (List.take 2 (List.drop (c.toNat * 2) (li [6, 5, 2, 3]))).getD 1 0)) b (wr .i64 (N140 a.turn + (List.take 2 (List.drop (c.toNat * 2) (li [6, 5, 2, 3]))).getD 0 0)) (if wr .i64 (N140 a.turn + (List.take 2 (List.drop (c.toNat * 2) (li [6, 5, 2, 3]))).getD 0 0) < b then wr .i64 (N140 a.turn + (List.take 2 (List.drop (c.toNat * 2) (li [6, 5, 2, 3]))).getD 0 0) else b)).getD default) then true else true))))))))))
theorem E141 (a : Pos) (b : Int) (c : Int) : evPure B141 14 141 [Pos.av a, .int .i64 b, .int .i64 c] = (let z1 := (Pos.mk a.variant ((a.board.set (scale 1 b).toNat 0).set (scale 1 (N179 a b c).fst).toNat 0) a.promoted a.pockets a.turn a.rooks a.passing a.checks a.half a.full); let z2 := (List.take 2 (List.drop (c.toNat * 2) (li [6, 5, 2, 3]))); let z6 := (N140 a.turn + z2.getD 0 0); let z9 := [AV.int .i8 (wr .i8 b), AV.int .i8 (wr .i8 (N179 a b c).fst), AV.cint .u8 0, AV.cint .u8 0, AV.cbool true]; let z10 := (N101 a (wr .u8 (1 - a.turn)) 6); let z5 := (St.mk (AV.yield 0 :: AV.ptr 8 0 :: AV.ptr 9 0 :: AV.any :: AV.int .i64 (if wr .i64 z6 < b then wr .i64 z6 else b) :: (an 14 [])) (Hp.mk [(pc a []), [AV.cint .i8 0, AV.cint .i8 0, AV.cint .u8 0, AV.cint .u8 0, AV.cbool false], [AV.ints .i64 2 z2], [AV.int .u8 a.variant, AV.ints .u8 64 ((a.board.set (scale 1 b).toNat 0).set (scale 1 (N179 a b c).fst).toNat 0), AV.u64 a.promoted, AV.ints .u8 12 a.pockets, AV.int .u8 a.turn, AV.ints .i8 4 a.rooks, AV.int .i8 a.passing, AV.ints .u8 2 a.checks, AV.int .i64 a.half, AV.int .i64 a.full], [AV.u64 (N143 z1)], [AV.u64 z10], [AV.func 180 [] [AV.ptr 4 0]], [AV.cbool false], [AV.int .i64 b], [AV.int .i64 (wr .i64 z6)]] [] [LRec.mk 0 none 182 (an 5 (AV.ptr 6 0 :: AV.ptr 7 0 :: (an 3 (AV.func 213 [] [AV.ptr 8 0, AV.ptr 9 0] :: (an 5 []))))) [11] (rfA Pz 182 3) (rfB Pz 182 3)] 0 0 0)); let z11 := ((lp141_1 a z2 z1 (N143 z1) z10 b (wr .i64 z6) (if wr .i64 z6 < b then wr .i64 z6 else b)).getD default); let z12 := (wr .i64 (N140 a.turn + z2.getD 1 0)); let z3 := (St.mk (AV.yield 2 :: AV.ptr 16 0 :: AV.ptr 17 0 :: AV.any :: AV.int .i64 (if wr .i64 z6 < b then wr .i64 z6 else b) :: (an 14 [])) (Hp.mk [(pc a []), [AV.int .i8 0, AV.int .i8 0, AV.int .u8 0, AV.int .u8 0, AV.bool false], [AV.ints .i64 2 z2], [AV.int .u8 a.variant, AV.ints .u8 64 ((a.board.set (scale 1 b).toNat 0).set (scale 1 (N179 a b c).fst).toNat 0), AV.u64 a.promoted, AV.ints .u8 12 a.pockets, AV.int .u8 a.turn, AV.ints .i8 4 a.rooks, AV.int .i8 a.passing, AV.ints .u8 2 a.checks, AV.int .i64 a.half, AV.int .i64 a.full], [AV.u64 (N143 z1)], [AV.u64 z10], [AV.func 180 [] [AV.ptr 4 0]], [AV.bool true], [AV.int .i64 b], [AV.int .i64 (wr .i64 z6)], [AV.func 180 [] [AV.ptr 4 0]], [AV.cbool true], [AV.int .i64 (N179 a b c).fst], [AV.int .i64 z12], [AV.func 181 [] [AV.ptr 0 0, AV.ptr 5 0, AV.ptr 3 0]], [AV.cbool false], [AV.int .i64 b], [AV.int .i64 (wr .i64 z6)]] [] [LRec.mk 3 none 182 (an 5 (AV.ptr 6 0 :: AV.ptr 7 0 :: (an 3 (AV.func 213 [] [AV.ptr 8 0, AV.ptr 9 0] :: (an 5 []))))) [11] (rfA Pz 182 3) (rfB Pz 182 3), LRec.mk 3 none 182 (an 5 (AV.ptr 10 0 :: AV.ptr 11 0 :: (an 3 (AV.func 213 [] [AV.ptr 12 0, AV.ptr 13 0] :: (an 5 []))))) [11] (rfA Pz 182 3) (rfB Pz 182 3), LRec.mk 0 none 182 (an 5 (AV.ptr 14 0 :: AV.ptr 15 0 :: (an 3 (AV.func 213 [] [AV.ptr 16 0, AV.ptr 17 0] :: (an 5 []))))) [11] (rfA Pz 182 3) (rfB Pz 182 3)] 0 0 0)); let z4 := (St.mk (AV.yield 1 :: AV.ptr 12 0 :: AV.ptr 13 0 :: AV.any :: AV.int .i64 (if wr .i64 (N140 a.turn + z2.getD 1 0) < (N179 a b c).fst then wr .i64 (N140 a.turn + z2.getD 1 0) else (N179 a b c).fst) :: (an 14 [])) (Hp.mk [(pc a []), [AV.int .i8 0, AV.int .i8 0, AV.int .u8 0, AV.int .u8 0, AV.bool false], [AV.ints .i64 2 z2], [AV.int .u8 a.variant, AV.ints .u8 64 ((a.board.set (scale 1 b).toNat 0).set (scale 1 (N179 a b c).fst).toNat 0), AV.u64 a.promoted, AV.ints .u8 12 a.pockets, AV.int .u8 a.turn, AV.ints .i8 4 a.rooks, AV.int .i8 a.passing, AV.ints .u8 2 a.checks, AV.int .i64 a.half, AV.int .i64 a.full], [AV.u64 (N143 z1)], [AV.u64 z10], [AV.func 180 [] [AV.ptr 4 0]], [AV.cbool true], [AV.int .i64 b], [AV.int .i64 (wr .i64 z6)], [AV.func 180 [] [AV.ptr 4 0]], [AV.cbool false], [AV.int .i64 (N179 a b c).fst], [AV.int .i64 z12]] [] [LRec.mk 3 none 182 (an 5 (AV.ptr 6 0 :: AV.ptr 7 0 :: (an 3 (AV.func 213 [] [AV.ptr 8 0, AV.ptr 9 0] :: (an 5 []))))) [11] (rfA Pz 182 3) (rfB Pz 182 3), LRec.mk 0 none 182 (an 5 (AV.ptr 10 0 :: AV.ptr 11 0 :: (an 3 (AV.func 213 [] [AV.ptr 12 0, AV.ptr 13 0] :: (an 5 []))))) [11] (rfA Pz 182 3) (rfB Pz 182 3)] 0 0 0)); let z7 := ((lp141_2 a z2 z1 (N143 z1) z10 b (wr .i64 z6) (N179 a b c).fst z12 (if wr .i64 (N140 a.turn + z2.getD 1 0) < (N179 a b c).fst then wr .i64 (N140 a.turn + z2.getD 1 0) else (N179 a b c).fst)).getD default); let z8 := ((lp141_3 a z2 z1 (N143 z1) z10 b (wr .i64 z6) (N179 a b c).fst z12 b (wr .i64 z6) (if wr .i64 z6 < b then wr .i64 z6 else b)).getD default); let z13 := (isPS Pz 140 [AV.int .u8 a.turn] ((dI .i64).res (N140 a.turn))); let z14 := (bodL Pz 213 1); Tr.br (isPS Pz 179 [a.av, AV.int .i64 b, AV.int .i64 c] ((d2 (dI .i64) dB).res (N179 a b c))) (Tr.br (!(N179 a b c).snd) (Tr.ret (AV.tuple [AV.agg [AV.cint .i8 0, AV.cint .i8 0, AV.cint .u8 0, AV.cint .u8 0, AV.cbool false], AV.cbool false])) (Tr.br (decide (0 ≤ c) && decide (c < Int.ofNat 2)) (Tr.br z13 (Tr.br z13 (Tr.br (decide (0 ≤ b) && decide (b < Int.ofNat 64)) (Tr.br (decide (0 ≤ (N179 a b c).fst) && decide ((N179 a b c).fst < Int.ofNat 64)) (Tr.br (isPS Pz 143 [z1.av] (dU.res (N143 z1))) (Tr.br (isPS Pz 101 [a.av, AV.int .u8 (wr .u8 (1 - a.turn)), AV.int .u8 6] (dU.res z10)) (Tr.br (isL z11) (Tr.br (isLS Pz z14 z5 (O141_1 a z2 z1 (N143 z1) z10 b (wr .i64 z6) (Sum.inl (gl z11)))) (Tr.ret (AV.tuple [AV.agg z9, AV.cbool false])) Tr.fail) (Tr.br (isLS Pz z14 z5 (O141_1 a z2 z1 (N143 z1) z10 b (wr .i64 z6) (Sum.inr (gr z11)))) (Tr.br (isL z7) (Tr.br (isLS Pz z14 z4 (O141_2 a z2 z1 (N143 z1) z10 b (wr .i64 z6) (N179 a b c).fst z12 (Sum.inl (gl z7)))) (Tr.ret (AV.tuple [AV.agg z9, AV.cbool false])) Tr.fail) (Tr.br (isLS Pz z14 z4 (O141_2 a z2 z1 (N143 z1) z10 b (wr .i64 z6) (N179 a b c).fst z12 (Sum.inr (gr z7)))) (Tr.br (isL z8) (Tr.br (isLS Pz z14 z3 (O141_3 a z2 z1 (N143 z1) z10 b (wr .i64 z6) (N179 a b c).fst z12 b (wr .i64 z6) (Sum.inl (gl z8)))) (Tr.ret (AV.tuple [AV.agg z9, AV.bool false])) Tr.fail) (Tr.br (isLS Pz z14 z3 (O141_3 a z2 z1 (N143 z1) z10 b (wr .i64 z6) (N179 a b c).fst z12 b (wr .i64 z6) (Sum.inr (gr z8)))) (Tr.ret (AV.tuple [AV.agg z9, AV.cbool true])) Tr.fail)) Tr.fail)) Tr.fail)) Tr.fail) Tr.fail) Tr.fail) Tr.fail) Tr.fail) Tr.fail) Tr.fail)) Tr.fail) := by kernel_rfl
theorem P141 (a : Pos) (b : Int) (c : Int) (h : ok141 a b c = true) : PS Pz 141 [Pos.av a, .int .i64 b, .int .i64 c] ((d2 dMv dB).res (N141 a b c)) := ps_gotR hB141 (E141 a b c) (gr_call (P179 (a) (b) (c)) (gr_br (gr_ret rfl) (gr_guard (gr_callT (P140 (a.turn) rfl) (gr_callT (P140 (a.turn) rfl) (gr_guard (gr_guard (gr_call (P143 (Pos.mk a.variant ((a.board.set (scale 1 b).toNat 0).set (scale 1 (N179 a b c).fst).toNat 0) a.promoted a.pockets a.turn a.rooks a.passing a.checks a.half a.full)) (gr_call (P101 (a) (wr .u8 (1 - a.turn)) (6)) (gr_loop2 (fun h => L141_1 (a) (List.take 2 (List.drop (c.toNat * 2) (li [6, 5, 2, 3]))) (Pos.mk a.variant ((a.board.set (scale 1 b).toNat 0).set (scale 1 (N179 a b c).fst).toNat 0) a.promoted a.pockets a.turn a.rooks a.passing a.checks a.half a.full) (N143 (Pos.mk a.variant ((a.board.set (scale 1 b).toNat 0).set (scale 1 (N179 a b c).fst).toNat 0) a.promoted a.pockets a.turn a.rooks a.passing a.checks a.half a.full)) (N101 a (wr .u8 (1 - a.turn)) 6) (b) (wr .i64 (N140 a.turn + (List.take 2 (List.drop (c.toNat * 2) (li [6, 5, 2, 3]))).getD 0 0)) (if wr .i64 (N140 a.turn + (List.take 2 (List.drop (c.toNat * 2) (li [6, 5, 2, 3]))).getD 0 0) < b then wr .i64 (N140 a.turn + (List.take 2 (List.drop (c.toNat * 2) (li [6, 5, 2, 3]))).getD 0 0) else b) _ (some_getD h)) (wk_nrm (ks := (3 :: (rn 5 14 []))) (gs := [4]) (b := true) rfl (by kernel_rfl)) (gr_ret rfl) (gr_loop2 (fun h => L141_2 (a) (List.take 2 (List.drop (c.toNat * 2) (li [6, 5, 2, 3]))) (Pos.mk a.variant ((a.board.set (scale 1 b).toNat 0).set (scale 1 (N179 a b c).fst).toNat 0) a.promoted a.pockets a.turn a.rooks a.passing a.checks a.half a.full) (N143 (Pos.mk a.variant ((a.board.set (scale 1 b).toNat 0).set (scale 1 (N179 a b c).fst).toNat 0) a.promoted a.pockets a.turn a.rooks a.passing a.checks a.half a.full)) (N101 a (wr .u8 (1 - a.turn)) 6) (b) (wr .i64 (N140 a.turn + (List.take 2 (List.drop (c.toNat * 2) (li [6, 5, 2, 3]))).getD 0 0)) ((N179 a b c).fst) (wr .i64 (N140 a.turn + (List.take 2 (List.drop (c.toNat * 2) (li [6, 5, 2, 3]))).getD 1 0)) (if wr .i64 (N140 a.turn + (List.take 2 (List.drop (c.toNat * 2) (li [6, 5, 2, 3]))).getD 1 0) < (N179 a b c).fst then wr .i64 (N140 a.turn + (List.take 2 (List.drop (c.toNat * 2) (li [6, 5, 2, 3]))).getD 1 0) else (N179 a b c).fst) _ (some_getD h)) (wk_nrm (ks := (3 :: (rn 5 14 []))) (gs := [4]) (b := true) rfl (by kernel_rfl)) (gr_ret rfl) (gr_loop2 (fun h => L141_3 (a) (List.take 2 (List.drop (c.toNat * 2) (li [6, 5, 2, 3]))) (Pos.mk a.variant ((a.board.set (scale 1 b).toNat 0).set (scale 1 (N179 a b c).fst).toNat 0) a.promoted a.pockets a.turn a.rooks a.passing a.checks a.half a.full) (N143 (Pos.mk a.variant ((a.board.set (scale 1 b).toNat 0).set (scale 1 (N179 a b c).fst).toNat 0) a.promoted a.pockets a.turn a.rooks a.passing a.checks a.half a.full)) (N101 a (wr .u8 (1 - a.turn)) 6) (b) (wr .i64 (N140 a.turn + (List.take 2 (List.drop (c.toNat * 2) (li [6, 5, 2, 3]))).getD 0 0)) ((N179 a b c).fst) (wr .i64 (N140 a.turn + (List.take 2 (List.drop (c.toNat * 2) (li [6, 5, 2, 3]))).getD 1 0)) (b) (wr .i64 (N140 a.turn + (List.take 2 (List.drop (c.toNat * 2) (li [6, 5, 2, 3]))).getD 0 0)) (if wr .i64 (N140 a.turn + (List.take 2 (List.drop (c.toNat * 2) (li [6, 5, 2, 3]))).getD 0 0) < b then wr .i64 (N140 a.turn + (List.take 2 (List.drop (c.toNat * 2) (li [6, 5, 2, 3]))).getD 0 0) else b) _ (some_getD h)) (wk_nrm (ks := (3 :: (rn 5 14 []))) (gs := [4]) (b := true) rfl (by kernel_rfl)) (gr_ret rfl) (gr_ret rfl))))))))))))) h
noncomputable def G141 : List AV → Tr AV := g3 dPos (dI .i64) (dI .i64) (fun a b c => sure Pz 141 [Pos.av a, .int .i64 b, .int .i64 c] ((d2 dMv dB).res (N141 a b c)))
theorem s141 : Sound Pz 141 G141 := sound3 (fun _ _ _ => at_sure)
end Kz
end
section
namespace Kz
open Go Go.RowKit Go.Proofs
set_option maxRecDepth 100000
set_option maxHeartbeats 4000000
noncomputable def K86 : List (Nat × List (Nat × List Nat)) := [(86, [(0, (0 :: (rn 2 11 (rn 17 8 (rn 32 21 []))))), (1, (0 :: (rn 2 15 (rn 18 7 (rn 32 21 []))))), (2, (0 :: 1 :: (rn 3 50 []))), (3, (0 :: 2 :: (rn 4 21 (rn 32 21 [])))), (4, (0 :: 2 :: (rn 4 28 (rn 33 20 [])))), (5, (0 :: 1 :: (rn 3 50 []))), (6, (0 :: 2 :: (rn 5 48 []))), (7, (0 :: 2 :: (rn 5 28 (rn 36 17 [])))), (8, (0 :: 2 :: (rn 5 28 (rn 37 16 [])))), (9, (0 :: 2 :: 5 :: (rn 7 26 (rn 36 17 [])))), (10, (0 :: 2 :: 5 :: 6 :: (rn 9 24 (rn 36 17 [])))), (11, (0 :: 2 :: 5 :: 6 :: (rn 8 25 (rn 36 10 (rn 47 6 []))))), (12, (0 :: 2 :: (rn 5 28 (rn 36 17 [])))), (13, (0 :: 2 :: (rn 5 28 (rn 36 17 [])))), (14, (0 :: 1 :: (rn 3 50 [])))])]
noncomputable def B86 : Base := baseOf Pz (fun f i => lkK f i K86) [(99, G99), (110, G110), (140, G140), (141, G141)] [] []
theorem hB86 : BOk B86 := base_ok named_z ⟨s99, s110, s140, s141, trivial⟩ trivial trivial
noncomputable def N86 (a : Pos) : List Mv := (bif decide (a.turn > 1) then ([]) else (bif !N110 a.variant then ([]) else (bif decide (N99 a a.turn 6 < 0) then ([]) else (bif wr .i64 ((N99 a a.turn 6).tdiv 8) != wr .i64 ((N140 a.turn).tdiv 8) then ([]) else (bif (N141 a (N99 a a.turn 6) 1).snd then (bif (N141 a (N99 a a.turn 6) 0).snd then ([] ++ [(N141 a (N99 a a.turn 6) 1).fst] ++ [(N141 a (N99 a a.turn 6) 0).fst]) else ([] ++ [(N141 a (N99 a a.turn 6) 1).fst])) else (bif (N141 a (N99 a a.turn 6) 0).snd then ([] ++ [(N141 a (N99 a a.turn 6) 0).fst]) else ([])))))))
noncomputable def ok86 (a : Pos) : Bool := (bif decide (a.turn > 1) then true else (ok110 (a.variant) && (bif !N110 a.variant then true else (ok99 (a) (a.turn) (6) && (bif decide (N99 a a.turn 6 < 0) then true else (bif wr .i64 ((N99 a a.turn 6).tdiv 8) != wr .i64 ((N140 a.turn).tdiv 8) then true else (ok141 (a) (N99 a a.turn 6) (1) && (bif (N141 a (N99 a a.turn 6) 1).snd then (0 == 0 && decide (1 ≤ 1073741824) && (ok141 (a) (N99 a a.turn 6) (0) && (bif (N141 a (N99 a a.turn 6) 0).snd then (1 == 1 && decide (2 ≤ 1073741824) && true) else true))) else (ok141 (a) (N99 a a.turn 6) (0) && (bif (N141 a (N99 a a.turn 6) 0).snd then (0 == 0 && decide (1 ≤ 1073741824) && true) else true))))))))))
theorem E86 (a : Pos) : evPure B86 14 86 [Pos.av a] = (let z1 := (N99 a a.turn 6); let z2 := (Tr.ret (AV.list ET.mv [] Tk.fresh)); let z3 := (isPS Pz 141 [a.av, AV.int .i64 z1, AV.int .i64 0] ((d2 dMv dB).res (N141 a z1 0))); Tr.br (decide (a.turn > 1)) z2 (Tr.br (isPS Pz 110 [AV.int .u8 a.variant] (dB.res (N110 a.variant))) (Tr.br (!N110 a.variant) z2 (Tr.br (isPS Pz 99 [a.av, AV.int .u8 a.turn, AV.int .u8 6] ((dI .i64).res z1)) (Tr.br (decide (N99 a a.turn 6 < 0)) z2 (Tr.br (isPS Pz 140 [AV.int .u8 a.turn] ((dI .i64).res (N140 a.turn))) (Tr.br (wr .i64 (z1.tdiv 8) != wr .i64 ((N140 a.turn).tdiv 8)) z2 (Tr.br (isPS Pz 141 [a.av, AV.int .i64 z1, AV.int .i64 1] ((d2 dMv dB).res (N141 a z1 1))) (Tr.br (N141 a z1 1).snd (Tr.br (0 == 0 && decide (1 ≤ 1073741824)) (Tr.br z3 (Tr.br (N141 a z1 0).snd (Tr.br (1 == 1 && decide (2 ≤ 1073741824)) (Tr.ret (AV.list ET.mv ([] ++ [(N141 a z1 1).fst] ++ [(N141 a z1 0).fst]) Tk.fresh)) Tr.fail) (Tr.ret (AV.list ET.mv ([] ++ [(N141 a z1 1).fst]) Tk.fresh))) Tr.fail) Tr.fail) (Tr.br z3 (Tr.br (N141 a z1 0).snd (Tr.br (0 == 0 && decide (1 ≤ 1073741824)) (Tr.ret (AV.list ET.mv ([] ++ [(N141 a z1 0).fst]) Tk.fresh)) Tr.fail) z2) Tr.fail)) Tr.fail)) Tr.fail)) Tr.fail)) Tr.fail)) := by kernel_rfl
theorem P86 (a : Pos) (h : ok86 a = true) : PS Pz 86 [Pos.av a] ((dL .mv).res (N86 a)) := ps_gotR hB86 (E86 a) (gr_br (gr_ret rfl) (gr_call (P110 (a.variant)) (gr_br (gr_ret rfl) (gr_call (P99 (a) (a.turn) (6)) (gr_br (gr_ret rfl) (gr_callT (P140 (a.turn) rfl) (gr_br (gr_ret rfl) (gr_call (P141 (a) (N99 a a.turn 6) (1)) (gr_br (gr_guard (gr_call (P141 (a) (N99 a a.turn 6) (0)) (gr_br (gr_guard (gr_ret rfl)) (gr_ret rfl)))) (gr_call (P141 (a) (N99 a a.turn 6) (0)) (gr_br (gr_guard (gr_ret rfl)) (gr_ret rfl)))))))))))) h
noncomputable def G86 : List AV → Tr AV := g1 dPos (fun a => sure Pz 86 [Pos.av a] ((dL .mv).res (N86 a)))
theorem s86 : Sound Pz 86 G86 := sound1 (fun _ => at_sure)
end Kz
end
section
namespace Kz
open Go Go.RowKit Go.Proofs
set_option maxRecDepth 100000
set_option maxHeartbeats 4000000
noncomputable def K142 : List (Nat × List (Nat × List Nat)) := [(129, [(0, (1 :: (rn 3 6 []))), (1, (1 :: 3 :: (rn 5 4 []))), (2, (0 :: 1 :: (rn 3 6 []))), (3, (0 :: 1 :: (rn 3 6 [])))]), (172, [(0, (rn 1 21 [])), (1, (rn 2 20 [])), (2, (rn 1 21 []))]), (142, [(0, [1, 2, 3, 4, 5]), (1, [0, 1, 3, 4, 5])])]
noncomputable def B142 : Base := baseOf Pz (fun f i => lkK f i K142) [] [] []
theorem hB142 : BOk B142 := base_ok named_z trivial trivial trivial
noncomputable def N142 (a : Int) : Bool := (bif decide (a ≥ 9) then (false) else (bif a == ↑0 then (false) else (bif a == ↑1 then (false) else (bif a == ↑2 then (true) else (bif a == ↑3 then (false) else (bif a == ↑4 then (false) else (bif a == ↑5 then (false) else (bif a == ↑6 then (false) else (bif a == ↑7 then (false) else (false))))))))))
noncomputable def ok142 (a : Int) : Bool := (bif decide (a ≥ 9) then true else (decide (0 ≤ a) && decide (a < ↑9) && (bif a == ↑0 then true else (bif a == ↑1 then true else (bif a == ↑2 then true else (bif a == ↑3 then true else (bif a == ↑4 then true else (bif a == ↑5 then true else (bif a == ↑6 then true else (bif a == ↑7 then true else (a == ↑8 && true)))))))))))
theorem E142 (a : Int) : evPure B142 14 142 [.int .u8 a] = Tr.br (decide (a ≥ 9)) (Tr.ret (AV.cbool false)) (Tr.br (decide (0 ≤ a) && decide (a < ↑9)) (Tr.br (a == ↑0) (Tr.ret (AV.cbool false)) (Tr.br (a == ↑1) (Tr.ret (AV.cbool false)) (Tr.br (a == ↑2) (Tr.ret (AV.cbool true)) (Tr.br (a == ↑3) (Tr.ret (AV.cbool false)) (Tr.br (a == ↑4) (Tr.ret (AV.cbool false)) (Tr.br (a == ↑5) (Tr.ret (AV.cbool false)) (Tr.br (a == ↑6) (Tr.ret (AV.cbool false)) (Tr.br (a == ↑7) (Tr.ret (AV.cbool false)) (Tr.br (a == ↑8) (Tr.ret (AV.cbool false)) Tr.fail))))))))) Tr.fail) := by kernel_rfl
theorem P142 (a : Int) (h : ok142 a = true) : PS Pz 142 [.int .u8 a] (dB.res (N142 a)) := ps_gotR hB142 (E142 a) (gr_br (gr_ret rfl) (gr_guard (gr_br (gr_ret rfl) (gr_br (gr_ret rfl) (gr_br (gr_ret rfl) (gr_br (gr_ret rfl) (gr_br (gr_ret rfl) (gr_br (gr_ret rfl) (gr_br (gr_ret rfl) (gr_br (gr_ret rfl) (gr_guard (gr_ret rfl)))))))))))) h
noncomputable def G142 : List AV → Tr AV := g1 (dI .u8) (fun a => sure Pz 142 [.int .u8 a] (dB.res (N142 a)))
theorem s142 : Sound Pz 142 G142 := sound1 (fun _ => at_sure)
end Kz
end
section
namespace Kz
open Go Go.RowKit Go.Proofs
set_option maxRecDepth 100000
set_option maxHeartbeats 4000000
noncomputable def K87 : List (Nat × List (Nat × List Nat)) := [(87, [(0, (0 :: (rn 2 11 (rn 17 41 [])))), (1, (0 :: (rn 2 15 (rn 18 40 [])))), (2, (0 :: 1 :: (rn 3 55 []))), (3, (0 :: 2 :: (rn 4 54 []))), (4, (0 :: 2 :: (rn 4 14 (rn 19 39 [])))), (5, (0 :: 2 :: (rn 4 14 (rn 20 38 [])))), (6, (0 :: 2 :: (rn 5 13 (rn 19 39 [])))), (7, (0 :: 2 :: 4 :: (rn 6 12 (rn 19 39 [])))), (8, (0 :: 2 :: 4 :: (rn 6 12 (rn 19 12 (rn 32 26 []))))), (9, (0 :: 2 :: 4 :: (rn 7 11 (rn 19 39 [])))), (10, (0 :: 2 :: 4 :: (rn 7 11 (rn 19 17 (rn 37 21 []))))), (11, (0 :: 2 :: 4 :: (rn 7 11 (rn 19 39 [])))), (12, (0 :: 2 :: 4 :: (rn 6 12 (rn 19 21 (rn 43 15 []))))), (13, (0 :: 2 :: 4 :: (rn 6 12 (rn 19 21 (rn 44 14 []))))), (14, (0 :: 2 :: 4 :: 6 :: 7 :: (rn 9 9 (rn 19 21 (rn 43 15 []))))), (15, (0 :: 2 :: 4 :: (rn 6 12 (rn 19 21 (rn 43 15 []))))), (16, (0 :: 2 :: 4 :: (rn 6 12 (rn 19 21 (rn 43 15 []))))), (17, (0 :: 2 :: (rn 4 14 (rn 19 39 [])))), (18, (0 :: 1 :: (rn 3 55 [])))])]
noncomputable def B87_2 : Base := baseOf Pz (fun f i => lkK f i K87) [(143, G143), (96, G96), (142, G142)] [] []
theorem hB87_2 : BOk B87_2 := base_ok named_z ⟨s143, s96, s142, trivial⟩ trivial trivial
noncomputable def S87_2 (p1 : Int) (p2 : Int) (p3 : (List Int)) (p4 : Int) (p5 : Pos) (p6 : Nat) (x : ((List Mv) × Int)) : St := St.mk (AV.any :: AV.ptr 0 0 :: AV.any :: AV.list ET.mv x.fst (Tk.own 1) :: AV.any :: AV.int .u8 p1 :: (an 12 (AV.int .i64 p2 :: (an 21 (AV.list (ET.i .i64) p3 Tk.fresh :: AV.int .i64 p4 :: AV.int .i64 x.snd :: (an 15 [])))))) (Hp.mk [(pc p5 [])] [p6, x.fst.length] [] 0 0 0)
noncomputable def O87_2 (p1 : Int) (p2 : Int) (p3 : (List Int)) (p4 : Int) (p5 : Pos) (p6 : Nat) : ((List Mv) × Int × Bool) → Out := fun y => .exit 2 (St.mk (AV.any :: AV.ptr 0 0 :: AV.any :: AV.list ET.mv y.fst (Tk.own 1) :: AV.any :: AV.int .u8 p1 :: (an 12 (AV.int .i64 p2 :: (an 21 (AV.list (ET.i .i64) p3 Tk.fresh :: AV.int .i64 p4 :: AV.int .i64 y.snd.fst :: AV.bool y.snd.snd :: (an 14 [])))))) (Hp.mk [(pc p5 [])] [p6, y.fst.length] [] 0 0 0))
noncomputable def st87_2 (p1 : Int) (p2 : Int) (p3 : (List Int)) (p4 : Int) (p5 : Pos) (p6 : Nat) (x : ((List Mv) × Int)) : Stp ((List Mv) × Int) (((List Mv) × Int × Bool)) := (bif decide (x.snd < p4) then (Stp.go (x.fst ++ [Mv.mk (wr .i8 (p3.getD x.snd.toNat default)) (wr .i8 (p3.getD x.snd.toNat default)) 0 p1 false], wr .i64 (x.snd + 1))) else (Stp.out ((x.fst, x.snd, decide (x.snd < p4)))))
noncomputable def okL87_2 (p1 : Int) (p2 : Int) (p3 : (List Int)) (p4 : Int) (p5 : Pos) (p6 : Nat) (x : ((List Mv) × Int)) : Bool := (bif decide (x.snd < p4) then (decide (0 ≤ x.snd) && decide (x.snd < Int.ofNat p3.length) && (x.fst.length == x.fst.length && decide (x.fst.length + 1 ≤ 1073741824) && true)) else true)
noncomputable def lp87_2 (p1 : Int) (p2 : Int) (p3 : (List Int)) (p4 : Int) (p5 : Pos) (p6 : Nat) (x : ((List Mv) × Int)) : Option (((List Mv) × Int × Bool)) := itl (fun x => bif okL87_2 p1 p2 p3 p4 p5 p6 x then st87_2 p1 p2 p3 p4 p5 p6 x else .bad) many x
theorem E87_2 (p1 : Int) (p2 : Int) (p3 : (List Int)) (p4 : Int) (p5 : Pos) (p6 : Nat) (x : ((List Mv) × Int)) : evCd B87_2 12 87 (bodL Pz 87 13) (S87_2 p1 p2 p3 p4 p5 p6 x) = Tr.br (decide (x.snd < p4)) (Tr.br (decide (0 ≤ x.snd) && decide (x.snd < Int.ofNat p3.length)) (Tr.br (x.fst.length == x.fst.length && decide (x.fst.length + 1 ≤ 1073741824)) (Tr.ret (Out.norm (St.mk (AV.any :: AV.ptr 0 0 :: AV.any :: AV.list ET.mv (x.fst ++ [Mv.mk (wr .i8 (p3.getD x.snd.toNat default)) (wr .i8 (p3.getD x.snd.toNat default)) 0 p1 false]) (Tk.own 1) :: AV.any :: AV.int .u8 p1 :: (an 12 (AV.int .i64 p2 :: (an 21 (AV.list (ET.i .i64) p3 Tk.fresh :: AV.int .i64 p4 :: AV.int .i64 (wr .i64 (x.snd + 1)) :: (an 15 [])))))) (Hp.mk [(pc p5 [])] [p6, (x.fst ++ [Mv.mk (wr .i8 (p3.getD x.snd.toNat default)) (wr .i8 (p3.getD x.snd.toNat default)) 0 p1 false]).length] [] 0 0 0)))) Tr.fail) Tr.fail) (Tr.ret (Out.exit 2 (St.mk (AV.any :: AV.ptr 0 0 :: AV.any :: AV.list ET.mv x.fst (Tk.own 1) :: AV.any :: AV.int .u8 p1 :: (an 12 (AV.int .i64 p2 :: (an 21 (AV.list (ET.i .i64) p3 Tk.fresh :: AV.int .i64 p4 :: AV.int .i64 x.snd :: AV.bool (decide (x.snd < p4)) :: (an 14 [])))))) (Hp.mk [(pc p5 [])] [p6, x.fst.length] [] 0 0 0)))) := by kernel_rfl
theorem L87_2 (p1 : Int) (p2 : Int) (p3 : (List Int)) (p4 : Int) (p5 : Pos) (p6 : Nat) (x : ((List Mv) × Int)) (r : ((List Mv) × Int × Bool)) (h : lp87_2 p1 p2 p3 p4 p5 p6 x = some r) : LSpec Pz (bodL Pz 87 13) (S87_2 p1 p2 p3 p4 p5 p6 x) (O87_2 p1 p2 p3 p4 p5 p6 r) := LSpec.itd (S := S87_2 p1 p2 p3 p4 p5 p6) (O := O87_2 p1 p2 p3 p4 p5 p6) (ok := okL87_2 p1 p2 p3 p4 p5 p6) (st := st87_2 p1 p2 p3 p4 p5 p6) hB87_2 (fun x => gr_eq (E87_2 p1 p2 p3 p4 p5 p6 x) (gr_br (gr_guard (gr_guard (gr_ret (rl_go (wk_nrm (ks := (0 :: 2 :: 4 :: (rn 6 12 (rn 19 21 (rn 43 15 []))))) (gs := [3, 5, 18, 40, 41, 42]) (b := true) rfl (by kernel_rfl)))))) (gr_ret (rl_exit rfl (wk_nrm (ks := (0 :: 2 :: 4 :: (rn 6 12 (rn 19 21 (rn 44 14 []))))) (gs := [3, 5, 18, 40, 41, 42, 43]) (b := true) rfl (by kernel_rfl)))))) many x r h
noncomputable def F87_2 : Code → St → Tr Out := sureL Pz (fun s => O87_2 (tI (tT s 5)) (tI (tT s 18)) (tL (ET.i .i64) (tT s 40)) (tI (tT s 41)) (Kz.Pos.mk (tI (tH s 0 0)) (tN (tH s 0 1)) (tU (tH s 0 2)) (tN (tH s 0 3)) (tI (tH s 0 4)) (tN (tH s 0 5)) (tI (tH s 0 6)) (tN (tH s 0 7)) (tI (tH s 0 8)) (tI (tH s 0 9))) (tK s 0) ((lp87_2 (tI (tT s 5)) (tI (tT s 18)) (tL (ET.i .i64) (tT s 40)) (tI (tT s 41)) (Kz.Pos.mk (tI (tH s 0 0)) (tN (tH s 0 1)) (tU (tH s 0 2)) (tN (tH s 0 3)) (tI (tH s 0 4)) (tN (tH s 0 5)) (tI (tH s 0 6)) (tN (tH s 0 7)) (tI (tH s 0 8)) (tI (tH s 0 9))) (tK s 0) ((tL (ET.mv) (tT s 3)), (tI (tT s 42)))).getD default))
theorem sF87_2 : ∀ b, LSound Pz b (F87_2 b) := sureL_sound
noncomputable def B87_3 : Base := baseOf Pz (fun f i => lkK f i K87) [(143, G143), (96, G96), (142, G142)] [(87, 13, F87_2)] []
theorem hB87_3 : BOk B87_3 := base_ok named_z ⟨s143, s96, s142, trivial⟩ ⟨sF87_2, trivial⟩ trivial
noncomputable def S87_3 (p1 : Pos) (p2 : Nat) (x : ((List Mv) × Int)) : St := St.mk (AV.any :: AV.ptr 0 0 :: AV.any :: AV.list ET.mv x.fst (Tk.own 1) :: (an 14 (AV.int .i64 x.snd :: (an 39 [])))) (Hp.mk [(pc p1 [])] [p2, x.fst.length] [] 0 0 0)
noncomputable def O87_3 (p1 : Pos) (p2 : Nat) : ((List Mv) × Int × Bool) → Out := fun y => .exit 0 (St.mk (AV.any :: AV.ptr 0 0 :: AV.any :: AV.list ET.mv y.fst (Tk.own 1) :: (an 14 (AV.int .i64 y.snd.fst :: AV.bool y.snd.snd :: (an 38 [])))) (Hp.mk [(pc p1 [])] [p2, y.fst.length] [] 0 0 0))
noncomputable def st87_3 (p1 : Pos) (p2 : Nat) (x : ((List Mv) × Int)) : Stp ((List Mv) × Int) (((List Mv) × Int × Bool)) := (bif decide (x.snd < 5) then (bif p1.pockets.getD (scale 6 p1.turn + scale 1 (wr .u8 (wr .i64 (x.snd + 1)))).toNat 0 == 0 then (Stp.go (x.fst, wr .i64 (x.snd + 1))) else (bif wr .u8 (wr .i64 (x.snd + 1)) == 1 then (Stp.go (((lp87_2 (wr .u8 (wr .i64 (x.snd + 1))) x.snd (N96 (~~~N143 p1 &&& 72057594037927680#64)) (Int.ofNat (N96 (~~~N143 p1 &&& 72057594037927680#64)).length) p1 p2 (x.fst, 0)).getD default).fst, wr .i64 (x.snd + 1))) else (Stp.go (((lp87_2 (wr .u8 (wr .i64 (x.snd + 1))) x.snd (N96 (~~~N143 p1)) (Int.ofNat (N96 (~~~N143 p1)).length) p1 p2 (x.fst, 0)).getD default).fst, wr .i64 (x.snd + 1))))) else (Stp.out ((x.fst, x.snd, decide (x.snd < 5)))))
noncomputable def okL87_3 (p1 : Pos) (p2 : Nat) (x : ((List Mv) × Int)) : Bool := (bif decide (x.snd < 5) then (decide (0 ≤ p1.turn) && decide (p1.turn < Int.ofNat 2) && (decide (0 ≤ wr .u8 (wr .i64 (x.snd + 1))) && decide (wr .u8 (wr .i64 (x.snd + 1)) < Int.ofNat 6) && (bif p1.pockets.getD (scale 6 p1.turn + scale 1 (wr .u8 (wr .i64 (x.snd + 1)))).toNat 0 == 0 then true else (ok143 (p1) && (bif wr .u8 (wr .i64 (x.snd + 1)) == 1 then (ok96 (~~~N143 p1 &&& 72057594037927680#64) && ((lp87_2 (wr .u8 (wr .i64 (x.snd + 1))) x.snd (N96 (~~~N143 p1 &&& 72057594037927680#64)) (Int.ofNat (N96 (~~~N143 p1 &&& 72057594037927680#64)).length) p1 p2 (x.fst, 0)).isSome && true)) else (ok96 (~~~N143 p1) && ((lp87_2 (wr .u8 (wr .i64 (x.snd + 1))) x.snd (N96 (~~~N143 p1)) (Int.ofNat (N96 (~~~N143 p1)).length) p1 p2 (x.fst, 0)).isSome && true))))))) else true)
noncomputable def lp87_3 (p1 : Pos) (p2 : Nat) (x : ((List Mv) × Int)) : Option (((List Mv) × Int × Bool)) := itl (fun x => bif okL87_3 p1 p2 x then st87_3 p1 p2 x else .bad) many x
theorem E87_3 (p1 : Pos) (p2 : Nat) (x : ((List Mv) × Int)) : evCd B87_3 12 87 (bodL Pz 87 5) (S87_3 p1 p2 x) = (let z1 := (N96 (~~~N143 p1 &&& 72057594037927680#64)); let z2 := (wr .i64 (x.snd + 1)); let z4 := ((lp87_2 (wr .u8 z2) x.snd z1 (Int.ofNat z1.length) p1 p2 (x.fst, 0)).getD default); let z5 := (Hp.mk [(pc p1 [])] [p2, x.fst.length] [] 0 0 0); let z6 := (an 14 (AV.int .i64 z2 :: (an 39 []))); let z7 := (N96 (~~~N143 p1)); let z3 := ((lp87_2 (wr .u8 z2) x.snd z7 (Int.ofNat z7.length) p1 p2 (x.fst, 0)).getD default); Tr.br (decide (x.snd < 5)) (Tr.br (decide (0 ≤ p1.turn) && decide (p1.turn < Int.ofNat 2)) (Tr.br (decide (0 ≤ wr .u8 z2) && decide (wr .u8 z2 < Int.ofNat 6)) (Tr.br (p1.pockets.getD (scale 6 p1.turn + scale 1 (wr .u8 z2)).toNat 0 == 0) (Tr.ret (Out.norm (St.mk (AV.any :: AV.ptr 0 0 :: AV.any :: AV.list ET.mv x.fst (Tk.own 1) :: z6) z5))) (Tr.br (isPS Pz 143 [p1.av] (dU.res (N143 p1))) (Tr.br (wr .u8 z2 == 1) (Tr.br (isPS Pz 96 [AV.u64 (~~~N143 p1 &&& 72057594037927680#64)] ((dL (ET.i .i64)).res z1)) (Tr.br (isLS Pz (bodL Pz 87 13) (St.mk (AV.any :: AV.ptr 0 0 :: AV.any :: AV.list ET.mv x.fst (Tk.own 1) :: AV.any :: AV.int .u8 (wr .u8 z2) :: (an 12 (AV.int .i64 x.snd :: (an 21 ((AV.list (ET.i .i64) z1 Tk.fresh) :: (AV.int .i64 (Int.ofNat z1.length)) :: AV.cint .i64 0 :: (an 15 [])))))) z5) (O87_2 (wr .u8 z2) x.snd z1 (Int.ofNat z1.length) p1 p2 z4)) (Tr.ret (Out.norm (St.mk (AV.any :: AV.ptr 0 0 :: AV.any :: (AV.list ET.mv z4.fst (Tk.own 1)) :: z6) (Hp.mk [(pc p1 [])] [p2, z4.fst.length] [] 0 0 0)))) Tr.fail) Tr.fail) (Tr.br (isPS Pz 96 [AV.u64 (~~~N143 p1)] ((dL (ET.i .i64)).res z7)) (Tr.br (isLS Pz (bodL Pz 87 13) (St.mk (AV.any :: AV.ptr 0 0 :: AV.any :: AV.list ET.mv x.fst (Tk.own 1) :: AV.any :: AV.int .u8 (wr .u8 z2) :: (an 12 (AV.int .i64 x.snd :: (an 21 ((AV.list (ET.i .i64) z7 Tk.fresh) :: (AV.int .i64 (Int.ofNat z7.length)) :: AV.cint .i64 0 :: (an 15 [])))))) z5) (O87_2 (wr .u8 z2) x.snd z7 (Int.ofNat z7.length) p1 p2 z3)) (Tr.ret (Out.norm (St.mk (AV.any :: AV.ptr 0 0 :: AV.any :: (AV.list ET.mv z3.fst (Tk.own 1)) :: z6) (Hp.mk [(pc p1 [])] [p2, z3.fst.length] [] 0 0 0)))) Tr.fail) Tr.fail)) Tr.fail)) Tr.fail) Tr.fail) (Tr.ret (Out.exit 0 (St.mk (AV.any :: AV.ptr 0 0 :: AV.any :: AV.list ET.mv x.fst (Tk.own 1) :: (an 14 (AV.int .i64 x.snd :: AV.bool (decide (x.snd < 5)) :: (an 38 [])))) z5)))) := by kernel_rfl
theorem L87_3 (p1 : Pos) (p2 : Nat) (x : ((List Mv) × Int)) (r : ((List Mv) × Int × Bool)) (h : lp87_3 p1 p2 x = some r) : LSpec Pz (bodL Pz 87 5) (S87_3 p1 p2 x) (O87_3 p1 p2 r) := LSpec.itd (S := S87_3 p1 p2) (O := O87_3 p1 p2) (ok := okL87_3 p1 p2) (st := st87_3 p1 p2) hB87_3 (fun x => gr_eq (E87_3 p1 p2 x) (gr_br (gr_guard (gr_guard (gr_br (gr_ret (rl_go (wk_nrm (ks := (0 :: 2 :: (rn 4 14 (rn 19 39 [])))) (gs := [3, 18]) (b := true) rfl (by kernel_rfl)))) (gr_call (P143 (p1)) (gr_br (gr_call (P96 (~~~N143 p1 &&& 72057594037927680#64)) (gr_loop (fun h => L87_2 (wr .u8 (wr .i64 (x.snd + 1))) (x.snd) (N96 (~~~N143 p1 &&& 72057594037927680#64)) (Int.ofNat (N96 (~~~N143 p1 &&& 72057594037927680#64)).length) (p1) (p2) ((x.fst, 0)) _ (some_getD h)) (wk_nrm (ks := (0 :: 2 :: 4 :: (rn 6 12 (rn 19 21 (rn 43 15 []))))) (gs := [3, 5, 18, 40, 41, 42]) (b := true) rfl (by kernel_rfl)) (gr_ret (rl_go (wk_nrm (ks := (0 :: 2 :: (rn 4 14 (rn 19 39 [])))) (gs := [3, 18]) (b := true) rfl (by kernel_rfl)))))) (gr_call (P96 (~~~N143 p1)) (gr_loop (fun h => L87_2 (wr .u8 (wr .i64 (x.snd + 1))) (x.snd) (N96 (~~~N143 p1)) (Int.ofNat (N96 (~~~N143 p1)).length) (p1) (p2) ((x.fst, 0)) _ (some_getD h)) (wk_nrm (ks := (0 :: 2 :: 4 :: (rn 6 12 (rn 19 21 (rn 43 15 []))))) (gs := [3, 5, 18, 40, 41, 42]) (b := true) rfl (by kernel_rfl)) (gr_ret (rl_go (wk_nrm (ks := (0 :: 2 :: (rn 4 14 (rn 19 39 [])))) (gs := [3, 18]) (b := true) rfl (by kernel_rfl))))))))))) (gr_ret (rl_exit rfl (wk_nrm (ks := (0 :: 2 :: (rn 4 14 (rn 20 38 [])))) (gs := [3, 18, 19]) (b := true) rfl (by kernel_rfl)))))) many x r h
noncomputable def F87_3 : Code → St → Tr Out := sureL Pz (fun s => O87_3 (Kz.Pos.mk (tI (tH s 0 0)) (tN (tH s 0 1)) (tU (tH s 0 2)) (tN (tH s 0 3)) (tI (tH s 0 4)) (tN (tH s 0 5)) (tI (tH s 0 6)) (tN (tH s 0 7)) (tI (tH s 0 8)) (tI (tH s 0 9))) (tK s 0) ((lp87_3 (Kz.Pos.mk (tI (tH s 0 0)) (tN (tH s 0 1)) (tU (tH s 0 2)) (tN (tH s 0 3)) (tI (tH s 0 4)) (tN (tH s 0 5)) (tI (tH s 0 6)) (tN (tH s 0 7)) (tI (tH s 0 8)) (tI (tH s 0 9))) (tK s 0) ((tL (ET.mv) (tT s 3)), (tI (tT s 18)))).getD default))
theorem sF87_3 : ∀ b, LSound Pz b (F87_3 b) := sureL_sound
noncomputable def B87 : Base := baseOf Pz (fun f i => lkK f i K87) [(143, G143), (96, G96), (142, G142)] [(87, 13, F87_2), (87, 5, F87_3)] []
theorem hB87 : BOk B87 := base_ok named_z ⟨s143, s96, s142, trivial⟩ ⟨sF87_2, sF87_3, trivial⟩ trivial
noncomputable def N87 (a : Pos) : List Mv := (bif decide (a.turn > 1) then ([]) else (bif !N142 a.variant then ([]) else (((lp87_3 a 0 ([], 0)).getD default).fst)))
noncomputable def ok87 (a : Pos) : Bool := (bif decide (a.turn > 1) then true else (ok142 (a.variant) && (bif !N142 a.variant then true else ((lp87_3 a 0 ([], 0)).isSome && true))))
theorem E87 (a : Pos) : evPure B87 14 87 [Pos.av a] = Tr.br (decide (a.turn > 1)) (Tr.ret (AV.list ET.mv [] Tk.fresh)) (Tr.br (isPS Pz 142 [AV.int .u8 a.variant] (dB.res (N142 a.variant))) (Tr.br (!N142 a.variant) (Tr.ret (AV.list ET.mv [] Tk.fresh)) (Tr.br (isLS Pz (bodL Pz 87 5) (St.mk (AV.any :: AV.ptr 0 0 :: AV.any :: AV.list ET.mv [] (Tk.own 1) :: (an 14 (AV.cint .i64 0 :: (an 39 [])))) (Hp.mk [(pc a [])] [0, 0] [] 0 0 0)) (O87_3 a 0 ((lp87_3 a 0 ([], 0)).getD default))) (Tr.ret (AV.list ET.mv ((lp87_3 a 0 ([], 0)).getD default).fst Tk.fresh)) Tr.fail)) Tr.fail) := by kernel_rfl
theorem P87 (a : Pos) (h : ok87 a = true) : PS Pz 87 [Pos.av a] ((dL .mv).res (N87 a)) := ps_gotR hB87 (E87 a) (gr_br (gr_ret rfl) (gr_call (P142 (a.variant)) (gr_br (gr_ret rfl) (gr_loop (fun h => L87_3 (a) (0) (([], 0)) _ (some_getD h)) (wk_nrm (ks := (0 :: 2 :: (rn 4 14 (rn 19 39 [])))) (gs := [3, 18]) (b := true) rfl (by kernel_rfl)) (gr_ret rfl))))) h
noncomputable def G87 : List AV → Tr AV := g1 dPos (fun a => sure Pz 87 [Pos.av a] ((dL .mv).res (N87 a)))
theorem s87 : Sound Pz 87 G87 := sound1 (fun _ => at_sure)
end Kz
end
section
namespace Go.Proofs
open Go.Shelf
def Tryz.grow_ren : Go.Shelf.Ren := ⟨fun | 4 => 138 | n => n, fun | 22 => 33 | 25 => 44 | 3 => 3 | 4 => 4 | 9 => 9 | 20 => 20 | 0 => 0 | n => n, fun | n => n⟩
theorem Tryz.grow : Go.Proofs.Lays8.n4 Tryz.prog Tryz.grow_ren := {
  mixed := by kernel_rfl
  f4 := ⟨Tryz.f138.name, by decide, Tryz.func138.trans (congrArg some (by kernel_rfl))⟩
  t0 := Tryz.underlying0
  a0 := Tryz.isAgg0
  z0 := Tryz.sizeOf0
  v0 := Tryz.zeroValue0
  t3 := Tryz.underlying3
  a3 := Tryz.isAgg3
  z3 := Tryz.sizeOf3
  v3 := Tryz.zeroValue3
  t4 := Tryz.underlying4
  a4 := Tryz.isAgg4
  z4 := Tryz.sizeOf4
  v4 := Tryz.zeroValue4
  t9 := Tryz.underlying9
  a9 := Tryz.isAgg9
  z9 := Tryz.sizeOf9
  v9 := Tryz.zeroValue9
  t20 := Tryz.underlying20
  a20 := Tryz.isAgg20
  z20 := Tryz.sizeOf20
  v20 := Tryz.zeroValue20
  t22 := Tryz.underlying33
  a22 := Tryz.isAgg33
  z22 := Tryz.sizeOf33
  v22 := Tryz.zeroValue33 }
def Tryz.cloneM_ren : Go.Shelf.Ren := ⟨fun | 41 => 65 | n => n, fun | 22 => 33 | 23 => 44 | 4 => 4 | n => n, fun | n => n⟩
theorem Tryz.cloneM : Go.Proofs.SlLaysE0.n41 Tryz.prog Tryz.cloneM_ren := {
  mixed := by kernel_rfl
  f41 := ⟨Tryz.f65.name, by decide, Tryz.func65.trans (congrArg some (by kernel_rfl))⟩
  t4 := Tryz.underlying4
  a4 := Tryz.isAgg4
  z4 := Tryz.sizeOf4
  v4 := Tryz.zeroValue4
  t22 := Tryz.underlying33
  a22 := Tryz.isAgg33
  z22 := Tryz.sizeOf33
  v22 := Tryz.zeroValue33 }
def Tryz.idxM_ren : Go.Shelf.Ren := ⟨fun | 6 => 130 | n => n, fun | 22 => 33 | 23 => 44 | 25 => 85 | 3 => 3 | 0 => 0 | 4 => 4 | n => n, fun | n => n⟩
theorem Tryz.idxM : Go.Proofs.SlLaysH0.n6 Tryz.prog Tryz.idxM_ren := {
  mixed := by kernel_rfl
  f6 := ⟨Tryz.f130.name, by decide, Tryz.func130.trans (congrArg some (by kernel_rfl))⟩
  t0 := Tryz.underlying0
  a0 := Tryz.isAgg0
  z0 := Tryz.sizeOf0
  v0 := Tryz.zeroValue0
  t3 := Tryz.underlying3
  a3 := Tryz.isAgg3
  z3 := Tryz.sizeOf3
  v3 := Tryz.zeroValue3
  t4 := Tryz.underlying4
  a4 := Tryz.isAgg4
  z4 := Tryz.sizeOf4
  v4 := Tryz.zeroValue4
  t22 := Tryz.underlying33
  a22 := Tryz.isAgg33
  z22 := Tryz.sizeOf33
  v22 := Tryz.zeroValue33
  t25 := Tryz.underlying85
  a25 := Tryz.isAgg85
  z25 := Tryz.sizeOf85
  v25 := Tryz.zeroValue85 }
end Go.Proofs
end
section
namespace Kz
open Go Go.RowKit Go.Proofs
theorem info44 : ∃ i0 z, Pz.info? 44 = some i0 ∧ i0.zero = some z ∧ i0.size = 5 ∧ z.cells.size = 5 ∧ i0.bytes ≤ 131072 := by
  have h : (match Pz.info? 44 with
    | some i => (match i.zero with
      | some z => i.size == 5 && z.cells.size == 5 && decide (i.bytes ≤ 131072)
      | none => false)
    | none => false) = true := by kernel_rfl
  split at h
  · rename_i i hi
    split at h
    · rename_i z hz
      simp only [Bool.and_eq_true, beq_iff_eq, decide_eq_true_eq] at h
      exact ⟨i, z, hi, hz, h.1.1, h.1.2, h.2⟩
    · cases h
  · cases h
theorem zc_size (z : Array Value) (n : Nat) : (Builtin.zeroCells z n).size = n * z.size := by simp [Builtin.zeroCells]
theorem grow138 (n : Int) (h0 : 0 ≤ n) (hn : n ≤ lim) (h : Hp) : FSpec Pz 138 [.nilsl, .int .i64 n] h (.ret (.list .mv [] (.own h.toks.length)) { h with toks := h.toks ++ [0] }) ∧ ∃ fn, Pz.funcs[138]? = some fn ∧ fn.body.isSome = true := by
  refine ⟨?_, ?_⟩
  · intro g w vals m hr
    obtain ⟨vals⟩ := vals
    cases hr with
    | cons q1 r1 =>
      cases r1 with
      | cons q2 r2 =>
        cases r2
        cases q1
        cases q2
        obtain ⟨k, rfl⟩ := Int.eq_ofNat_of_zero_le h0
        refine callsIn_wide.2 ?_
        have hk : k ≤ 1073741824 := by unfold lim at hn; omega
        by_cases hk0 : k = 0
        · subst hk0
          refine (Any8.slices_Grow_room Tryz.grow none 0 0 0 w (Nat.le_refl _) (by omega) (by omega) (by omega)).mono ?_
          rintro e w' ⟨rfl, rfl⟩
          obtain ⟨m1, l1⟩ := m.newTok
          exact ⟨_, _, rfl, ⟨m1, l1, ⟨rfl, rfl, rfl, fun _ _ _ x => x, fun i x _ hx => by
            show (h.toks ++ [0])[i]? = _
            rw [List.getElem?_append_left (List.getElem?_eq_some_iff.1 hx).1]; exact hx, fun _ _ _ x => x⟩⟩,
            .list (cs := []) rfl .nil (.inl rfl) (fun k ek => by cases ek; exact ⟨0, by simp, Nat.le_refl _, fun _ => ⟨none, by simp [m.tlen], rfl, rfl, rfl⟩⟩) (Nat.le_refl _)⟩
        · obtain ⟨i0, z, a1, a2, a3, a4, a5⟩ := info44
          refine (Any8.slices_Grow_grow Tryz.grow i0 z a1 a2 (by omega) none 0 0 k [] w (Nat.le_refl _) (by omega) ?_ (by omega) (by simp) (fun _ => rfl) (fun a e => by cases e)).mono ?_
          · have : (0 + k) * i0.bytes ≤ (0 + k) * 131072 := Nat.mul_le_mul_left _ a5
            omega
          rintro e w' ⟨rfl, rfl⟩
          have hG := grownCap_le_maxLen w (0 + k) 0 (Tryz.grow_ren.t 25) (by unfold maxLen; omega)
          have hge : 0 + k ≤ grownCap w (0 + k) 0 (Tryz.grow_ren.t 25) := grownCap_ge w _ _ _
          generalize grownCap w (0 + k) 0 (Tryz.grow_ren.t 25) = G at hG hge ⊢
          obtain ⟨m1, l1⟩ := m.newRoom (cap := G) (z := 5) hG (cells := (([] : List Value).toArray ++ Builtin.zeroCells z.cells (0 + k - 0) ++ Builtin.zeroCells z.cells (G - (0 + k)))) (ty := Tryz.grow_ren.t 25) (by
            simp only [Array.size_append, zc_size, a4, List.size_toArray, List.length_nil]; omega) w.drew (.inr rfl)
          exact ⟨_, _, rfl, ⟨m1, l1, ⟨rfl, rfl, rfl, fun _ _ _ x => x, fun i x _ hx => by
            show (h.toks ++ [0])[i]? = _
            rw [List.getElem?_append_left (List.getElem?_eq_some_iff.1 hx).1]; exact hx, fun _ _ _ x => x⟩⟩,
            .list (cs := []) rfl .nil (.inl rfl) (fun k ek => by cases ek; exact ⟨0, by simp, Nat.le_refl _, fun _ => ⟨some (w.heap.size, G, 5), by simp [m.tlen], rfl, rfl, rfl⟩⟩) (Nat.zero_le _)⟩
  · have h : (match Pz.funcs[138]? with
      | some fn => fn.body.isSome
      | none => false) = true := by kernel_rfl
    split at h
    · rename_i fn hf
      exact ⟨fn, hf, h⟩
    · cases h
noncomputable def F138 : List AV → Hp → Tr FRes := fun l h => match l with
  | [.nilsl, .int .i64 n] => .guard (decide (0 ≤ n) && decide (n ≤ lim)) (.ret (.ret (.list .mv [] (.own h.toks.length)) { h with toks := h.toks ++ [0] }))
  | _ => .fail
theorem sF138 : FSound Pz 138 F138 := by
  intro l h res he
  unfold F138 at he
  split at he
  · rename_i n
    simp only [get_guard, get_ret, Option.some.injEq, Bool.and_eq_true, decide_eq_true_eq] at he
    obtain ⟨⟨h1, h2⟩, rfl⟩ := he
    exact grow138 n h1 h2 h
  · simp at he
end Kz
end
section
namespace Kz
open Go Go.RowKit Go.Proofs
set_option maxRecDepth 100000
set_option maxHeartbeats 4000000
noncomputable def K38 : List (Nat × List (Nat × List Nat)) := [(38, [(0, (0 :: (rn 2 9 []))), (1, (0 :: 1 :: (rn 3 8 [])))]), (84, [(0, (rn 1 35 [])), (1, (1 :: 2 :: (rn 4 32 []))), (2, (1 :: 2 :: (rn 4 5 (rn 12 24 [])))), (3, (1 :: 2 :: (rn 4 5 (rn 13 23 [])))), (4, (1 :: 2 :: 4 :: 6 :: 7 :: 8 :: (rn 12 24 []))), (5, (1 :: 2 :: (rn 4 5 (rn 12 24 [])))), (6, (1 :: 2 :: (rn 4 5 (rn 12 8 (rn 21 15 []))))), (7, (1 :: 2 :: (rn 4 5 (rn 12 24 [])))), (8, (1 :: 2 :: (rn 4 5 (rn 12 24 [])))), (9, (rn 1 5 (rn 7 29 []))), (10, (rn 0 6 (rn 7 18 (rn 28 8 [])))), (11, (rn 0 6 (rn 7 18 (rn 29 7 [])))), (12, (rn 0 6 (7 :: (rn 9 16 (rn 28 8 []))))), (13, (rn 0 6 (rn 7 18 (rn 28 8 [])))), (14, (rn 0 6 (rn 7 18 (rn 28 8 [])))), (15, (0 :: 1 :: (rn 3 33 [])))]), (138, [(0, (rn 2 25 [])), (1, (rn 2 4 (rn 7 20 []))), (2, (rn 2 25 [])), (3, (rn 2 25 [])), (4, (rn 2 14 (rn 17 10 []))), (5, (rn 1 26 [])), (6, (rn 0 4 (rn 5 22 [])))])]
noncomputable def B38 : Base := baseOf Pz (fun f i => lkK f i K38) [(85, G85), (86, G86), (87, G87)] [] [(138, F138)]
theorem hB38 : BOk B38 := base_ok named_z ⟨s85, s86, s87, trivial⟩ trivial ⟨sF138, trivial⟩
noncomputable def N38 (a : Pos) : List Mv := ([] ++ N85 a ++ N86 a ++ N87 a)
noncomputable def ok38 (a : Pos) : Bool := (ok85 (a) && (ok86 (a) && (ok87 (a) && (!(decide (wr .i64 (0 + Int.ofNat (N85 a).length) < 0)) && (!(decide (wr .i64 (wr .i64 (0 + Int.ofNat (N85 a).length) + Int.ofNat (N86 a).length) < 0)) && (!(decide (wr .i64 (wr .i64 (wr .i64 (0 + Int.ofNat (N85 a).length) + Int.ofNat (N86 a).length) + Int.ofNat (N87 a).length) < 0)) && (decide (0 ≤ wr .i64 (wr .i64 (wr .i64 (0 + Int.ofNat (N85 a).length) + Int.ofNat (N86 a).length) + Int.ofNat (N87 a).length)) && decide (wr .i64 (wr .i64 (wr .i64 (0 + Int.ofNat (N85 a).length) + Int.ofNat (N86 a).length) + Int.ofNat (N87 a).length) ≤ Int.ofNat 1073741824) && (0 == 0 && decide (0 + (N85 a).length ≤ 1073741824) && (([] ++ N85 a).length == ([] ++ N85 a).length && decide (([] ++ N85 a).length + (N86 a).length ≤ 1073741824) && (([] ++ N85 a ++ N86 a).length == ([] ++ N85 a ++ N86 a).length && decide (([] ++ N85 a ++ N86 a).length + (N87 a).length ≤ 1073741824) && true))))))))))
theorem E38 (a : Pos) : evPure B38 14 38 [Pos.av a] = Tr.br (isPS Pz 85 [a.av] ((dL ET.mv).res (N85 a))) (Tr.br (isPS Pz 86 [a.av] ((dL ET.mv).res (N86 a))) (Tr.br (isPS Pz 87 [a.av] ((dL ET.mv).res (N87 a))) (Tr.br (decide (wr .i64 (0 + Int.ofNat (N85 a).length) < 0)) Tr.fail (Tr.br (decide (wr .i64 (wr .i64 (0 + Int.ofNat (N85 a).length) + Int.ofNat (N86 a).length) < 0)) Tr.fail (Tr.br (decide (wr .i64 (wr .i64 (wr .i64 (0 + Int.ofNat (N85 a).length) + Int.ofNat (N86 a).length) + Int.ofNat (N87 a).length) < 0)) Tr.fail (Tr.br (decide (0 ≤ wr .i64 (wr .i64 (wr .i64 (0 + Int.ofNat (N85 a).length) + Int.ofNat (N86 a).length) + Int.ofNat (N87 a).length)) && decide (wr .i64 (wr .i64 (wr .i64 (0 + Int.ofNat (N85 a).length) + Int.ofNat (N86 a).length) + Int.ofNat (N87 a).length) ≤ Int.ofNat 1073741824)) (Tr.br (0 == 0 && decide (0 + (N85 a).length ≤ 1073741824)) (Tr.br (([] ++ N85 a).length == ([] ++ N85 a).length && decide (([] ++ N85 a).length + (N86 a).length ≤ 1073741824)) (Tr.br (([] ++ N85 a ++ N86 a).length == ([] ++ N85 a ++ N86 a).length && decide (([] ++ N85 a ++ N86 a).length + (N87 a).length ≤ 1073741824)) (Tr.ret (AV.list ET.mv ([] ++ N85 a ++ N86 a ++ N87 a) Tk.fresh)) Tr.fail) Tr.fail) Tr.fail) Tr.fail)))) Tr.fail) Tr.fail) Tr.fail := by kernel_rfl
theorem P38 (a : Pos) (h : ok38 a = true) : PS Pz 38 [Pos.av a] ((dL .mv).res (N38 a)) := ps_gotR hB38 (E38 a) (gr_call (P85 (a)) (gr_call (P86 (a)) (gr_call (P87 (a)) (gr_nguard (gr_nguard (gr_nguard (gr_guard (gr_guard (gr_guard (gr_guard (gr_ret rfl))))))))))) h
noncomputable def G38 : List AV → Tr AV := g1 dPos (fun a => sure Pz 38 [Pos.av a] ((dL .mv).res (N38 a)))
theorem s38 : Sound Pz 38 G38 := sound1 (fun _ => at_sure)
end Kz
end
section
namespace Kz
open Go Go.RowKit Go.Proofs
set_option maxRecDepth 100000
set_option maxHeartbeats 4000000
noncomputable def K83 : List (Nat × List (Nat × List Nat)) := [(83, [(0, (1 :: 2 :: (rn 4 15 []))), (1, (1 :: 2 :: 4 :: 5 :: 6 :: (rn 9 10 []))), (2, (1 :: 2 :: 4 :: 5 :: 6 :: (rn 10 9 []))), (3, (1 :: 2 :: 4 :: 6 :: (rn 9 10 []))), (4, (1 :: 2 :: 4 :: 6 :: (rn 9 7 [17, 18]))), (5, (rn 0 4 (rn 5 14 []))), (6, (1 :: 2 :: 4 :: 5 :: 6 :: (rn 9 10 []))), (7, (rn 0 4 (rn 5 14 [])))])]
noncomputable def B83_1 : Base := baseOf Pz (fun f i => lkK f i K83) [] [] []
theorem hB83_1 : BOk B83_1 := base_ok named_z trivial trivial trivial
noncomputable def S83_1 (p1 : (List Mv)) (p2 : Int) (p3 : Mv) (x : (Int)) : St := St.mk (AV.list ET.mv p1 Tk.arg :: AV.any :: AV.any :: AV.ptr 0 0 :: (an 3 (AV.int .i64 p2 :: AV.int .i64 x :: (an 10 [])))) (Hp.mk [[AV.int .i8 p3.frm, AV.int .i8 p3.to, AV.int .u8 p3.pro, AV.int .u8 p3.drp, AV.bool p3.cas]] [] [] 0 0 0)
noncomputable def O83_1 (p1 : (List Mv)) (p2 : Int) (p3 : Mv) : (Int) ⊕ (Int × Bool) → Out
  | (.inl (y)) => .ret (St.mk (an 4 (AV.int .i64 y :: (an 14 []))) (Hp.mk [[AV.int .i8 p3.frm, AV.int .i8 p3.to, AV.int .u8 p3.pro, AV.int .u8 p3.drp, AV.bool p3.cas]] [] [] 0 0 0))
  | (.inr (y)) => .exit 0 (St.mk (AV.list ET.mv p1 Tk.arg :: AV.any :: AV.any :: AV.ptr 0 0 :: (an 3 (AV.int .i64 p2 :: AV.int .i64 y.fst :: AV.bool y.snd :: (an 9 [])))) (Hp.mk [[AV.int .i8 p3.frm, AV.int .i8 p3.to, AV.int .u8 p3.pro, AV.int .u8 p3.drp, AV.bool p3.cas]] [] [] 0 0 0))
noncomputable def st83_1 (p1 : (List Mv)) (p2 : Int) (p3 : Mv) (x : (Int)) : Stp (Int) ((Int) ⊕ (Int × Bool)) := (bif decide (x < p2) then (bif eqOut BinOp.eql (p3.frm == (p1.getD x.toNat default).frm && (p3.to == (p1.getD x.toNat default).to && (p3.pro == (p1.getD x.toNat default).pro && (p3.drp == (p1.getD x.toNat default).drp && (p3.cas == (p1.getD x.toNat default).cas && true))))) then (Stp.out (.inl ((x)))) else (Stp.go (wr .i64 (x + 1)))) else (Stp.out (.inr ((x, decide (x < p2))))))
noncomputable def okL83_1 (p1 : (List Mv)) (p2 : Int) (p3 : Mv) (x : (Int)) : Bool := (bif decide (x < p2) then (decide (0 ≤ x) && decide (x < ↑p1.length) && true) else true)
noncomputable def lp83_1 (p1 : (List Mv)) (p2 : Int) (p3 : Mv) (x : (Int)) : Option ((Int) ⊕ (Int × Bool)) := itl (fun x => bif okL83_1 p1 p2 p3 x then st83_1 p1 p2 p3 x else .bad) many x
theorem E83_1 (p1 : (List Mv)) (p2 : Int) (p3 : Mv) (x : (Int)) : evC (envAt B83_1 12) (evL B83_1 12) 83 (bodL Pz 83 2) (S83_1 p1 p2 p3 x) = Tr.br (decide (x < p2)) (Tr.br (decide (0 ≤ x) && decide (x < ↑p1.length)) (Tr.br (eqOut BinOp.eql (p3.frm == (p1.getD x.toNat default).frm && (p3.to == (p1.getD x.toNat default).to && (p3.pro == (p1.getD x.toNat default).pro && (p3.drp == (p1.getD x.toNat default).drp && (p3.cas == (p1.getD x.toNat default).cas && true)))))) (Tr.ret (Out.ret (St.mk (an 4 (AV.int .i64 x :: (an 14 []))) (Hp.mk [[AV.int .i8 p3.frm, AV.int .i8 p3.to, AV.int .u8 p3.pro, AV.int .u8 p3.drp, AV.bool p3.cas]] [] [] 0 0 0)))) (Tr.ret (Out.norm (St.mk (AV.list ET.mv p1 Tk.arg :: AV.any :: AV.any :: AV.ptr 0 0 :: (an 3 (AV.int .i64 p2 :: AV.int .i64 (wr .i64 (x + 1)) :: (an 10 [])))) (Hp.mk [[AV.int .i8 p3.frm, AV.int .i8 p3.to, AV.int .u8 p3.pro, AV.int .u8 p3.drp, AV.bool p3.cas]] [] [] 0 0 0))))) Tr.fail) (Tr.ret (Out.exit 0 (St.mk (AV.list ET.mv p1 Tk.arg :: AV.any :: AV.any :: AV.ptr 0 0 :: (an 3 (AV.int .i64 p2 :: AV.int .i64 x :: AV.bool (decide (x < p2)) :: (an 9 [])))) (Hp.mk [[AV.int .i8 p3.frm, AV.int .i8 p3.to, AV.int .u8 p3.pro, AV.int .u8 p3.drp, AV.bool p3.cas]] [] [] 0 0 0)))) := by kernel_rfl
theorem L83_1 (p1 : (List Mv)) (p2 : Int) (p3 : Mv) (x : (Int)) (r : (Int) ⊕ (Int × Bool)) (h : lp83_1 p1 p2 p3 x = some r) : LSpec Pz (bodL Pz 83 2) (S83_1 p1 p2 p3 x) (O83_1 p1 p2 p3 r) := LSpec.itl (S := S83_1 p1 p2 p3) (O := O83_1 p1 p2 p3) (ok := okL83_1 p1 p2 p3) (st := st83_1 p1 p2 p3) hB83_1 (fun x => gr_eq (E83_1 p1 p2 p3 x) (gr_br (gr_guard (gr_br2 (gr_ret (rl_ret rfl (wk_nrm (ks := (rn 0 4 (rn 5 14 []))) (gs := [4]) (b := true) rfl (by kernel_rfl)))) (gr_ret (rl_go (wk_nrm (ks := (1 :: 2 :: 4 :: 5 :: 6 :: (rn 9 10 []))) (gs := [0, 7, 8]) (b := true) rfl (by kernel_rfl)))))) (gr_ret (rl_exit rfl (wk_nrm (ks := (1 :: 2 :: 4 :: 5 :: 6 :: (rn 10 9 []))) (gs := [0, 7, 8, 9]) (b := true) rfl (by kernel_rfl)))))) many x r h
noncomputable def F83_1 : Code → St → Tr Out := fun b s => .br (isL ((lp83_1 (tL (ET.mv) (tT s 0)) (tI (tT s 7)) (Kz.Mv.mk (tI (tH s 0 0)) (tI (tH s 0 1)) (tI (tH s 0 2)) (tI (tH s 0 3)) (tB (tH s 0 4))) ((tI (tT s 8)))).getD default)) (sureL Pz (fun s => O83_1 (tL (ET.mv) (tT s 0)) (tI (tT s 7)) (Kz.Mv.mk (tI (tH s 0 0)) (tI (tH s 0 1)) (tI (tH s 0 2)) (tI (tH s 0 3)) (tB (tH s 0 4))) (.inl (gl ((lp83_1 (tL (ET.mv) (tT s 0)) (tI (tT s 7)) (Kz.Mv.mk (tI (tH s 0 0)) (tI (tH s 0 1)) (tI (tH s 0 2)) (tI (tH s 0 3)) (tB (tH s 0 4))) ((tI (tT s 8)))).getD default)))) b s) (sureL Pz (fun s => O83_1 (tL (ET.mv) (tT s 0)) (tI (tT s 7)) (Kz.Mv.mk (tI (tH s 0 0)) (tI (tH s 0 1)) (tI (tH s 0 2)) (tI (tH s 0 3)) (tB (tH s 0 4))) (.inr (gr ((lp83_1 (tL (ET.mv) (tT s 0)) (tI (tT s 7)) (Kz.Mv.mk (tI (tH s 0 0)) (tI (tH s 0 1)) (tI (tH s 0 2)) (tI (tH s 0 3)) (tB (tH s 0 4))) ((tI (tT s 8)))).getD default)))) b s)
theorem sF83_1 : ∀ b, LSound Pz b (F83_1 b) := brL_sound (c := fun s => isL ((lp83_1 (tL (ET.mv) (tT s 0)) (tI (tT s 7)) (Kz.Mv.mk (tI (tH s 0 0)) (tI (tH s 0 1)) (tI (tH s 0 2)) (tI (tH s 0 3)) (tB (tH s 0 4))) ((tI (tT s 8)))).getD default)) sureL_sound sureL_sound
noncomputable def B83 : Base := baseOf Pz (fun f i => lkK f i K83) [] [(83, 2, F83_1)] []
theorem hB83 : BOk B83 := base_ok named_z trivial ⟨sF83_1, trivial⟩ trivial
noncomputable def N83 (a : List Mv) (b : Mv) : Int := (bif isL ((lp83_1 a (↑a.length) (Mv.mk b.frm b.to b.pro b.drp b.cas) 0).getD default) then (gl ((lp83_1 a (↑a.length) (Mv.mk b.frm b.to b.pro b.drp b.cas) 0).getD default)) else (-1))
noncomputable def ok83 (a : List Mv) (b : Mv) : Bool := ((lp83_1 a (↑a.length) (Mv.mk b.frm b.to b.pro b.drp b.cas) 0).isSome && bif isL ((lp83_1 a (↑a.length) (Mv.mk b.frm b.to b.pro b.drp b.cas) 0).getD default) then true else true)
theorem E83 (a : List Mv) (b : Mv) : evPure B83 14 83 [.list .mv a .arg, Mv.av b] = Tr.br (isL ((lp83_1 a (↑a.length) (Mv.mk b.frm b.to b.pro b.drp b.cas) 0).getD default)) (Tr.br (isLS Pz (bodL Pz 83 2) (St.mk (AV.list ET.mv a Tk.arg :: AV.any :: AV.any :: AV.ptr 0 0 :: (an 3 (AV.int .i64 ↑a.length :: AV.cint .i64 0 :: (an 10 [])))) (Hp.mk [[AV.int .i8 b.frm, AV.int .i8 b.to, AV.int .u8 b.pro, AV.int .u8 b.drp, AV.bool b.cas]] [] [] 0 0 0)) (O83_1 a (↑a.length) (Mv.mk b.frm b.to b.pro b.drp b.cas) (Sum.inl (gl ((lp83_1 a (↑a.length) (Mv.mk b.frm b.to b.pro b.drp b.cas) 0).getD default))))) (Tr.ret (AV.int .i64 (gl ((lp83_1 a (↑a.length) (Mv.mk b.frm b.to b.pro b.drp b.cas) 0).getD default)))) Tr.fail) (Tr.br (isLS Pz (bodL Pz 83 2) (St.mk (AV.list ET.mv a Tk.arg :: AV.any :: AV.any :: AV.ptr 0 0 :: (an 3 (AV.int .i64 ↑a.length :: AV.cint .i64 0 :: (an 10 [])))) (Hp.mk [[AV.int .i8 b.frm, AV.int .i8 b.to, AV.int .u8 b.pro, AV.int .u8 b.drp, AV.bool b.cas]] [] [] 0 0 0)) (O83_1 a (↑a.length) (Mv.mk b.frm b.to b.pro b.drp b.cas) (Sum.inr (gr ((lp83_1 a (↑a.length) (Mv.mk b.frm b.to b.pro b.drp b.cas) 0).getD default))))) (Tr.ret (AV.cint .i64 (-1))) Tr.fail) := by kernel_rfl
theorem P83 (a : List Mv) (b : Mv) (h : ok83 a b = true) : PS Pz 83 [.list .mv a .arg, Mv.av b] ((dI .i64).res (N83 a b)) := ps_gotR hB83 (E83 a b) (gr_loop2 (fun h => L83_1 (a) (↑a.length) (Mv.mk b.frm b.to b.pro b.drp b.cas) (0) _ (some_getD h)) (wk_nrm (ks := (1 :: 2 :: 4 :: 5 :: 6 :: (rn 9 10 []))) (gs := [0, 7, 8]) (b := true) rfl (by kernel_rfl)) (gr_ret rfl) (gr_ret rfl)) h
noncomputable def G83 : List AV → Tr AV := g2 (dL .mv) dMv (fun a b => sure Pz 83 [.list .mv a .arg, Mv.av b] ((dI .i64).res (N83 a b)))
theorem s83 : Sound Pz 83 G83 := sound2 (fun _ _ => at_sure)
end Kz
end
section
namespace Kz
open Go Go.RowKit Go.Proofs
set_option maxRecDepth 100000
set_option maxHeartbeats 4000000
noncomputable def K37 : List (Nat × List (Nat × List Nat)) := [(37, [(0, (1 :: 2 :: (rn 4 5 []))), (1, (rn 0 4 (rn 5 4 [])))])]
noncomputable def B37 : Base := baseOf Pz (fun f i => lkK f i K37) [(83, G83)] [] []
theorem hB37 : BOk B37 := base_ok named_z ⟨s83, trivial⟩ trivial trivial
noncomputable def N37 (a : List Mv) (b : Mv) : Bool := (decide (N83 a b ≥ 0))
noncomputable def ok37 (a : List Mv) (b : Mv) : Bool := (ok83 (a) (b) && true)
theorem E37 (a : List Mv) (b : Mv) : evPure B37 14 37 [.list .mv a .arg, Mv.av b] = Tr.br (isPS Pz 83 [AV.list ET.mv a Tk.arg, b.av] ((dI .i64).res (N83 a b))) (Tr.ret (AV.bool (decide (N83 a b ≥ 0)))) Tr.fail := by kernel_rfl
theorem P37 (a : List Mv) (b : Mv) (h : ok37 a b = true) : PS Pz 37 [.list .mv a .arg, Mv.av b] (dB.res (N37 a b)) := ps_gotR hB37 (E37 a b) (gr_call (P83 (a) (b)) (gr_ret rfl)) h
noncomputable def G37 : List AV → Tr AV := g2 (dL .mv) dMv (fun a b => sure Pz 37 [.list .mv a .arg, Mv.av b] (dB.res (N37 a b)))
theorem s37 : Sound Pz 37 G37 := sound2 (fun _ _ => at_sure)
end Kz
end
section
namespace Kz
open Go Go.RowKit Go.Proofs
set_option maxRecDepth 100000
set_option maxHeartbeats 4000000
noncomputable def K39 : List (Nat × List (Nat × List Nat)) := [(39, [(0, (0 :: 1 :: (rn 4 12 (rn 21 23 (rn 51 8 []))))), (1, (0 :: 1 :: 4 :: (rn 7 9 (rn 21 23 (rn 51 8 []))))), (2, (0 :: 1 :: 4 :: (rn 6 15 (rn 22 22 (rn 51 8 []))))), (3, (rn 0 4 (rn 5 54 []))), (4, (0 :: 1 :: 4 :: 6 :: (rn 8 36 (rn 51 8 [])))), (5, (0 :: 1 :: (rn 4 22 (rn 27 17 (rn 51 8 []))))), (6, (rn 0 4 (rn 5 54 []))), (7, (0 :: 1 :: (rn 4 31 (rn 36 23 [])))), (8, (rn 0 4 (rn 5 54 []))), (9, (rn 0 4 (rn 5 54 [])))])]
noncomputable def B39 : Base := baseOf Pz (fun f i => lkK f i K39) [(37, G37), (85, G85), (88, G88), (89, G89), (90, G90)] [] []
theorem hB39 : BOk B39 := base_ok named_z ⟨s37, s85, s88, s89, s90, trivial⟩ trivial trivial
noncomputable def N39 (a : Pos) (b : Mv) : Int := (bif !(N88 a).snd then (-1) else (bif !N37 (N85 a) b then (-1) else (bif (N88 a).fst.snd.snd &&& 1#64 <<< (BitVec.ofInt 64 b.to).toNat != 0#64 then (wr .i64 b.to) else (bif N89 (a.board.getD (scale 1 b.frm).toNat 0) == 1 then (bif b.frm.tmod 8 != b.to.tmod 8 then (N90 (wr .u8 (1 - a.turn)) (wr .i64 b.to)) else (-1)) else (-1)))))
noncomputable def ok39 (a : Pos) (b : Mv) : Bool := (ok88 (a) && (bif !(N88 a).snd then true else (ok85 (a) && (ok37 (N85 a) (b) && (bif !N37 (N85 a) b then true else (bif (N88 a).fst.snd.snd &&& 1#64 <<< (BitVec.ofInt 64 b.to).toNat != 0#64 then true else (decide (0 ≤ b.frm) && decide (b.frm < Int.ofNat 64) && true)))))))
theorem E39 (a : Pos) (b : Mv) : evPure B39 14 39 [Pos.av a, Mv.av b] = Tr.br (isPS Pz 88 [a.av] ((d2 dSide dB).res (N88 a))) (Tr.br (!(N88 a).snd) (Tr.ret (AV.cint .i64 (-1))) (Tr.br (isPS Pz 85 [a.av] ((dL ET.mv).res (N85 a))) (Tr.br (isPS Pz 37 [AV.list ET.mv (N85 a) Tk.arg, b.av] (dB.res (N37 (N85 a) b))) (Tr.br (!N37 (N85 a) b) (Tr.ret (AV.cint .i64 (-1))) (Tr.br ((N88 a).fst.snd.snd &&& 1#64 <<< (BitVec.ofInt 64 b.to).toNat != 0#64) (Tr.ret (AV.int .i64 (wr .i64 b.to))) (Tr.br (decide (0 ≤ b.frm) && decide (b.frm < Int.ofNat 64)) (Tr.br (isPS Pz 89 [AV.int .u8 (a.board.getD (scale 1 b.frm).toNat 0)] ((dI .u8).res (N89 (a.board.getD (scale 1 b.frm).toNat 0)))) (Tr.br (N89 (a.board.getD (scale 1 b.frm).toNat 0) == 1) (Tr.br (b.frm.tmod 8 != b.to.tmod 8) (Tr.br (isPS Pz 90 [AV.int .u8 (wr .u8 (1 - a.turn)), AV.int .i64 (wr .i64 b.to)] ((dI .i64).res (N90 (wr .u8 (1 - a.turn)) (wr .i64 b.to)))) (Tr.ret (AV.int .i64 (N90 (wr .u8 (1 - a.turn)) (wr .i64 b.to)))) Tr.fail) (Tr.ret (AV.cint .i64 (-1)))) (Tr.ret (AV.cint .i64 (-1)))) Tr.fail) Tr.fail))) Tr.fail) Tr.fail)) Tr.fail := by kernel_rfl
theorem P39 (a : Pos) (b : Mv) (h : ok39 a b = true) : PS Pz 39 [Pos.av a, Mv.av b] ((dI .i64).res (N39 a b)) := ps_gotR hB39 (E39 a b) (gr_call (P88 (a)) (gr_br (gr_ret rfl) (gr_call (P85 (a)) (gr_call (P37 (N85 a) (b)) (gr_br (gr_ret rfl) (gr_br (gr_ret rfl) (gr_guard (gr_callT (P89 (a.board.getD (scale 1 b.frm).toNat 0) rfl) (gr_br2 (gr_br2 (gr_callT (P90 (wr .u8 (1 - a.turn)) (wr .i64 b.to) rfl) (gr_ret rfl)) (gr_ret rfl)) (gr_ret rfl)))))))))) h
noncomputable def G39 : List AV → Tr AV := g2 dPos dMv (fun a b => sure Pz 39 [Pos.av a, Mv.av b] ((dI .i64).res (N39 a b)))
theorem s39 : Sound Pz 39 G39 := sound2 (fun _ _ => at_sure)
end Kz
end
section
namespace Kz
open Go Go.RowKit Go.Proofs
set_option maxRecDepth 100000
set_option maxHeartbeats 4000000
noncomputable def K70 : List (Nat × List (Nat × List Nat)) := [(70, [(0, (0 :: 1 :: (rn 4 5 []))), (1, (rn 0 4 (rn 5 4 [])))])]
noncomputable def B70 : Base := baseOf Pz (fun f i => lkK f i K70) [(39, G39)] [] []
theorem hB70 : BOk B70 := base_ok named_z ⟨s39, trivial⟩ trivial trivial
noncomputable def N70 (a : Pos) (b : Mv) : Bool := (decide (N39 a b ≥ 0))
noncomputable def ok70 (a : Pos) (b : Mv) : Bool := (ok39 (a) (b) && true)
theorem E70 (a : Pos) (b : Mv) : evPure B70 14 70 [Pos.av a, Mv.av b] = Tr.br (isPS Pz 39 [a.av, b.av] ((dI .i64).res (N39 a b))) (Tr.ret (AV.bool (decide (N39 a b ≥ 0)))) Tr.fail := by kernel_rfl
theorem P70 (a : Pos) (b : Mv) (h : ok70 a b = true) : PS Pz 70 [Pos.av a, Mv.av b] (dB.res (N70 a b)) := ps_gotR hB70 (E70 a b) (gr_call (P39 (a) (b)) (gr_ret rfl)) h
noncomputable def G70 : List AV → Tr AV := g2 dPos dMv (fun a b => sure Pz 70 [Pos.av a, Mv.av b] (dB.res (N70 a b)))
theorem s70 : Sound Pz 70 G70 := sound2 (fun _ _ => at_sure)
end Kz
end
section
namespace Kz
open Go
set_option maxRecDepth 100000
theorem mv_eq_iff (a b : Mv) : (a.frm == b.frm && (a.to == b.to && (a.pro == b.pro && (a.drp == b.drp && (a.cas == b.cas && true))))) = decide (a = b) := by
  rw [Bool.eq_iff_iff]
  cases a; cases b
  simp
theorem lp83 (l : List Mv) (b : Mv) (hl : l.length ≤ 1000000) : ∃ r, lp83_1 l (l.length : Int) b 0 = some r ∧
    match r with
    | .inl i => 0 ≤ i ∧ i < l.length ∧ b ∈ l
    | .inr _ => b ∉ l := by
  refine lp_many (I := fun x => 0 ≤ x ∧ x ≤ (l.length : Int) ∧ b ∉ l.take x.toNat) (μ := fun x => ((l.length : Int) - x).toNat) ?_ _ ⟨by simp, by simp, by simp⟩ (by simp; omega)
  rintro n ⟨h0, h1, h2⟩
  by_cases hc : n < l.length
  · have hlt : n.toNat < l.length := by omega
    refine ⟨c_true (fun _ => a_true (by simp [h0]; exact hc) fun _ => rfl) fun _ => rfl, c_ind (fun _ => ?_) fun h => absurd h (by simpa using hc)⟩
    have he : eqOut BinOp.eql (b.frm == (l.getD n.toNat default).frm && (b.to == (l.getD n.toNat default).to && (b.pro == (l.getD n.toNat default).pro && (b.drp == (l.getD n.toNat default).drp && (b.cas == (l.getD n.toNat default).cas && true))))) = decide (b = l.getD n.toNat default) := mv_eq_iff b _
    rw [he]
    refine c_ind (fun h => ?_) fun h => ?_
    · have h : b = l.getD n.toNat default := by simpa using h
      exact ⟨h0, hc, by rw [h]; exact getD_mem hlt⟩
    · have h : ¬ b = l.getD n.toNat default := by simpa using h
      have hw : wr .i64 (n + 1) = n + 1 := wi64 (by omega) (by omega)
      rw [hw]
      refine ⟨⟨by omega, by omega, ?_⟩, by dsimp only; omega⟩
      rw [show (n + 1).toNat = n.toNat + 1 by omega, List.take_succ_eq_append_getElem hlt]
      rw [List.getD_eq_getElem?_getD, List.getElem?_eq_getElem hlt] at h
      simp only [List.mem_append, List.mem_singleton, not_or]
      exact ⟨h2, h⟩
  · refine ⟨c_true (fun h => absurd h (by simpa using hc)) fun _ => rfl, c_ind (fun h => absurd h (by simpa using hc)) fun _ => ?_⟩
    show b ∉ l
    rw [List.take_of_length_le (by omega)] at h2
    exact h2
theorem t83 {l : List Mv} {b : Mv} (hl : l.length ≤ 1000000) : ok83 l b = true := by
  refine a_true (of_some (lp83 l b hl)).1 fun _ => ?_
  refine c_true (fun _ => rfl) fun _ => rfl
theorem t37 {l : List Mv} {b : Mv} (hl : l.length ≤ 1000000) : ok37 l b = true := a_true (t83 hl) fun _ => rfl
theorem N37_eq {l : List Mv} {b : Mv} (hl : l.length ≤ 1000000) : N37 l b = decide (b ∈ l) := by
  have h := (of_some (lp83 l b hl)).2
  unfold N37 N83
  revert h
  show (match (lp83_1 l (l.length : Int) b 0).getD default with | .inl i => 0 ≤ i ∧ i < (l.length : Int) ∧ b ∈ l | .inr _ => b ∉ l) → decide ((bif isL ((lp83_1 l (l.length : Int) b 0).getD default) then gl ((lp83_1 l (l.length : Int) b 0).getD default) else -1) ≥ 0) = decide (b ∈ l)
  generalize (lp83_1 l (l.length : Int) b 0).getD default = r
  intro h
  cases r with
  | inl i =>
    have h' : 0 ≤ i ∧ i < (l.length : Int) ∧ b ∈ l := h
    have h3 := h'.2.2
    simp [isL, gl, h'.1, h3]
  | inr y =>
    have h' : b ∉ l := h
    simp [isL, h']
theorem t39 {p : Pos} (hv : 0 ≤ p.variant) (m : Mv) : ok39 p m = true := by
  have hl := N85_len hv
  unfold ok39
  refine a_true (t88 p) fun _ => c_true (fun _ => rfl) fun _ => a_true (t85 hv) fun _ => a_true (t37 (by omega)) fun _ => c_true (fun _ => rfl) fun h => c_true (fun _ => rfl) fun _ => a_true ?_ fun _ => rfl
  rw [N37_eq (by omega)] at h
  have hm : m ∈ N85 p := by simpa using h
  obtain ⟨_, f, t, h1, h2, h3, _⟩ := N85_mem hv hm
  rw [h3]
  simp
  omega
theorem t70 {p : Pos} (hv : 0 ≤ p.variant) (m : Mv) : ok70 p m = true := a_true (t39 hv m) fun _ => rfl
theorem t142 {a : Int} (ha : 0 ≤ a) : ok142 a = true := by
  unfold ok142
  refine c_true (fun _ => rfl) fun h => ?_
  have h : a < 9 := by simpa using h
  have : a = 0 ∨ a = 1 ∨ a = 2 ∨ a = 3 ∨ a = 4 ∨ a = 5 ∨ a = 6 ∨ a = 7 ∨ a = 8 := by omega
  rcases this with rfl | rfl | rfl | rfl | rfl | rfl | rfl | rfl | rfl <;> rfl
theorem t110 {a : Int} (ha : 0 ≤ a) : ok110 a = true := by
  unfold ok110
  refine c_true (fun _ => rfl) fun h => ?_
  have h : a < 9 := by simpa using h
  have : a = 0 ∨ a = 1 ∨ a = 2 ∨ a = 3 ∨ a = 4 ∨ a = 5 ∨ a = 6 ∨ a = 7 ∨ a = 8 := by omega
  rcases this with rfl | rfl | rfl | rfl | rfl | rfl | rfl | rfl | rfl <;> rfl
theorem N140_eq {t : Int} (h0 : 0 ≤ t) (h1 : t ≤ 1) : N140 t = 56 * t := by
  unfold N140
  rw [wi64 (n := t) (by omega) (by omega), wi64 (by omega) (by omega)]
theorem lp141a (p1 : Pos) (p2 : List Int) (p3 : Pos) (p4 p5 : BitVec 64) (p6 p7 x : Int) (hx : -200 ≤ x) (hx2 : x ≤ 201) (h6 : p6 ≤ 200) (h7 : p7 ≤ 200) : (lp141_1 p1 p2 p3 p4 p5 p6 p7 x).isSome = true := by
  refine (of_some (Q := fun _ => True) (lp_many (I := fun x => -200 ≤ x ∧ x ≤ 201) (μ := fun x => (201 - x).toNat) ?_ x ⟨hx, hx2⟩ (by omega))).1
  rintro n ⟨h0, h1⟩
  refine ⟨rfl, c_ind (fun hc => c_ind (fun _ => trivial) fun _ => ?_) fun hc => trivial⟩
  have hc : n ≤ if p7 > p6 then p7 else p6 := by simpa using hc
  have hn : n ≤ 200 := by split at hc <;> omega
  rw [wi64 (n := n + 1) (by omega) (by omega)]
  exact ⟨⟨by omega, by omega⟩, by dsimp only; omega⟩
theorem lp141b (p1 : Pos) (p2 : List Int) (p3 : Pos) (p4 p5 : BitVec 64) (p6 p7 p8 p9 x : Int) (hx : -200 ≤ x) (hx2 : x ≤ 201) (h6 : p8 ≤ 200) (h7 : p9 ≤ 200) : (lp141_2 p1 p2 p3 p4 p5 p6 p7 p8 p9 x).isSome = true := by
  refine (of_some (Q := fun _ => True) (lp_many (I := fun x => -200 ≤ x ∧ x ≤ 201) (μ := fun x => (201 - x).toNat) ?_ x ⟨hx, hx2⟩ (by omega))).1
  rintro n ⟨h0, h1⟩
  refine ⟨rfl, c_ind (fun hc => c_ind (fun _ => trivial) fun _ => ?_) fun hc => trivial⟩
  have hc : n ≤ if p9 > p8 then p9 else p8 := by simpa using hc
  have hn : n ≤ 200 := by split at hc <;> omega
  rw [wi64 (n := n + 1) (by omega) (by omega)]
  exact ⟨⟨by omega, by omega⟩, by dsimp only; omega⟩
theorem lp141c (p1 : Pos) (p2 : List Int) (p3 : Pos) (p4 p5 : BitVec 64) (p6 p7 p8 p9 p10 p11 x : Int) (hx : -200 ≤ x) (hx2 : x ≤ 201) (h6 : p10 ≤ 200) (h7 : p11 ≤ 200) : (lp141_3 p1 p2 p3 p4 p5 p6 p7 p8 p9 p10 p11 x).isSome = true := by
  refine (of_some (Q := fun _ => True) (lp_many (I := fun x => -200 ≤ x ∧ x ≤ 201) (μ := fun x => (201 - x).toNat) ?_ x ⟨hx, hx2⟩ (by omega))).1
  rintro n ⟨h0, h1⟩
  refine ⟨?_, c_ind (fun hc => ?_) fun hc => trivial⟩
  · unfold okL141_3
    repeat' (first | with_reducible rfl | with_reducible exact t149 _ | with_reducible exact t156 _ _ _ | refine a_true ?_ (fun _ => ?_) | refine c_true (fun _ => ?_) (fun _ => ?_))
  · have hc : n ≤ if p11 > p10 then p11 else p10 := by simpa using hc
    have hn : n ≤ 200 := by split at hc <;> omega
    rw [wi64 (n := n + 1) (by omega) (by omega)]
    have go : Nxt (fun x : Int => -200 ≤ x ∧ x ≤ 201) (fun _ : Int ⊕ (Int × Bool) => True) (fun x => (201 - x).toNat) (201 - n).toNat (.go (n + 1)) := ⟨⟨by omega, by omega⟩, by dsimp only; omega⟩
    exact c_ind (fun _ => c_ind (fun _ => go) fun _ => c_ind (fun _ => trivial) fun _ => go) fun _ => c_ind (fun _ => trivial) fun _ => go
theorem getD_in {l : List Int} {a b d : Int} (h : ∀ x ∈ l, a ≤ x ∧ x ≤ b) (hd : a ≤ d ∧ d ≤ b) (i : Nat) : a ≤ l.getD i d ∧ l.getD i d ≤ b := by
  by_cases hi : i < l.length
  · exact h _ (getD_mem hi)
  · rw [List.getD_eq_getElem?_getD, List.getElem?_eq_none (by omega)]
    exact hd
section
variable {p : Pos} (hp : PosIn p) (ht : p.turn ≤ 1)
include hp ht
theorem N179_in {b c : Int} : 0 ≤ (N179 p b c).1 ∧ (N179 p b c).1 < 64 := by
  have hr := getD_in hp.r0 (d := 0) (by omega) (scale 2 p.turn + scale 1 c).toNat
  have h0 := hp.t0
  unfold N179
  rw [N140_eq h0 ht]
  generalize p.rooks.getD (scale 2 p.turn + scale 1 c).toNat 0 = r at hr
  rw [wi64 (n := r) (by omega) (by omega)]
  refine c_ind (P := fun x : Int × Bool => 0 ≤ x.1 ∧ x.1 < 64) (fun _ => by simp) fun h1 => c_ind (P := fun x : Int × Bool => 0 ≤ x.1 ∧ x.1 < 64) (fun _ => by simp) fun h2 => ?_
  have h1 : 0 ≤ r := by simpa using h1
  have h2 : r ≤ 7 := by simpa using h2
  rw [wi64 (n := 56 * p.turn + r) (by omega) (by omega)]
  have : 0 ≤ 56 * p.turn + r ∧ 56 * p.turn + r < 64 := by omega
  exact c_ind (P := fun x : Int × Bool => 0 ≤ x.1 ∧ x.1 < 64) (fun _ => c_ind (P := fun x : Int × Bool => 0 ≤ x.1 ∧ x.1 < 64) (fun _ => this) fun _ => this) fun _ => this
theorem t179 {b c : Int} (hc : c = 0 ∨ c = 1) : ok179 p b c = true := by
  have hr := getD_in hp.r0 (d := 0) (by omega) (scale 2 p.turn + scale 1 c).toNat
  have h0 := hp.t0
  unfold ok179
  rw [N140_eq h0 ht]
  generalize p.rooks.getD (scale 2 p.turn + scale 1 c).toNat 0 = r at hr
  rw [wi64 (n := r) (by omega) (by omega)]
  refine a_true (by simp; omega) fun _ => a_true (by simp; omega) fun _ => c_true (fun _ => rfl) fun h1 => c_true (fun _ => rfl) fun h2 => a_true ?_ fun _ => rfl
  have h1 : 0 ≤ r := by simpa using h1
  have h2 : r ≤ 7 := by simpa using h2
  rw [wi64 (n := 56 * p.turn + r) (by omega) (by omega)]
  simp
  omega
theorem t141 {b c : Int} (hb0 : 0 ≤ b) (hb1 : b < 64) (hc : c = 0 ∨ c = 1) : ok141 p b c = true := by
  have h0 := hp.t0
  have hr := N179_in hp ht (b := b) (c := c)
  have g0 : 0 ≤ (List.take 2 (List.drop (c.toNat * 2) (li [6, 5, 2, 3]))).getD 0 0 ∧ (List.take 2 (List.drop (c.toNat * 2) (li [6, 5, 2, 3]))).getD 0 0 ≤ 6 := by rcases hc with rfl | rfl <;> decide
  have g1 : 0 ≤ (List.take 2 (List.drop (c.toNat * 2) (li [6, 5, 2, 3]))).getD 1 0 ∧ (List.take 2 (List.drop (c.toNat * 2) (li [6, 5, 2, 3]))).getD 1 0 ≤ 6 := by rcases hc with rfl | rfl <;> decide
  unfold ok141
  rw [N140_eq h0 ht]
  generalize (List.take 2 (List.drop (c.toNat * 2) (li [6, 5, 2, 3]))).getD 0 0 = x0 at g0
  generalize (List.take 2 (List.drop (c.toNat * 2) (li [6, 5, 2, 3]))).getD 1 0 = x1 at g1
  have w0 : wr .i64 (56 * p.turn + x0) = 56 * p.turn + x0 := wi64 (by omega) (by omega)
  have w1 : wr .i64 (56 * p.turn + x1) = 56 * p.turn + x1 := wi64 (by omega) (by omega)
  rw [w0, w1]
  refine a_true (t179 hp ht hc) fun _ => c_true (fun _ => rfl) fun _ => a_true (by rcases hc with rfl | rfl <;> decide) fun _ => a_true (by simp; omega) fun _ => a_true (by simp; omega) fun _ => a_true (t143 _) fun _ => a_true (t101 _ _ _) fun _ =>
    a_true (lp141a _ _ _ _ _ _ _ _ ?_ ?_ ?_ ?_) fun _ => c_true (fun _ => rfl) fun _ => a_true (lp141b _ _ _ _ _ _ _ _ _ _ ?_ ?_ ?_ ?_) fun _ => c_true (fun _ => rfl) fun _ => a_true (lp141c _ _ _ _ _ _ _ _ _ _ _ _ ?_ ?_ ?_ ?_) fun _ => c_true (fun _ => rfl) fun _ => rfl
  all_goals (try split) <;> omega
omit ht in
theorem t86 : ok86 p = true := by
  unfold ok86
  refine c_true (fun _ => rfl) fun h => ?_
  have ht : p.turn ≤ 1 := by simpa using h
  have hk := N99_lo p p.turn 6
  refine a_true (t110 hp.v0) fun _ => c_true (fun _ => rfl) fun _ => a_true (t99 _ _ _) fun _ => c_true (fun _ => rfl) fun hk0 => c_true (fun _ => rfl) fun _ => ?_
  have hk0 : 0 ≤ N99 p p.turn 6 := by simpa using hk0
  have a1 : ok141 p (N99 p p.turn 6) 1 = true := t141 hp ht hk0 hk.2 (.inr rfl)
  have a0 : ok141 p (N99 p p.turn 6) 0 = true := t141 hp ht hk0 hk.2 (.inl rfl)
  repeat' (first | with_reducible rfl | with_reducible exact a1 | with_reducible exact a0 | refine a_true ?_ (fun _ => ?_) | refine c_true (fun _ => ?_) (fun _ => ?_) | decide)
end
end Kz
end
section
namespace Kz
open Go
set_option maxRecDepth 100000
section
variable {p : Pos} (hp : PosIn p)
include hp
theorem N141_mem (ht : p.turn ≤ 1) {b c : Int} (hb0 : 0 ≤ b) (hb1 : b < 64) : (N141 p b c).2 = true → (N141 p b c).1.frm = b ∧ 0 ≤ (N141 p b c).1.to ∧ (N141 p b c).1.to < 64 ∧ (N141 p b c).1.cas = true ∧ (N141 p b c).1.drp = 0 ∧ (N141 p b c).1.pro = 0 ∧ (N141 p b c).1.to = (N179 p b c).1 ∧ (N179 p b c).2 = true := by
  have hr := N179_in hp ht (b := b) (c := c)
  have wb : wr .i8 b = b := wi8 (by omega) (by omega)
  have wr' : wr .i8 (N179 p b c).1 = (N179 p b c).1 := wi8 (by omega) (by omega)
  have ci := fun {d : Bool} {x y : Mv × Bool} => @c_ind (Mv × Bool) (fun x => x.2 = true → x.1.frm = b ∧ 0 ≤ x.1.to ∧ x.1.to < 64 ∧ x.1.cas = true ∧ x.1.drp = 0 ∧ x.1.pro = 0 ∧ x.1.to = (N179 p b c).1 ∧ (N179 p b c).2 = true) d x y
  show (fun x : Mv × Bool => x.2 = true → x.1.frm = b ∧ 0 ≤ x.1.to ∧ x.1.to < 64 ∧ x.1.cas = true ∧ x.1.drp = 0 ∧ x.1.pro = 0 ∧ x.1.to = (N179 p b c).1 ∧ (N179 p b c).2 = true) (N141 p b c)
  unfold N141
  rw [wb, wr']
  refine ci (fun _ h => by cases h) fun h1 => ci (fun _ h => by cases h) fun _ => ci (fun _ h => by cases h) fun _ => ci (fun _ h => by cases h) fun _ _ => ?_
  exact ⟨rfl, hr.1, hr.2, rfl, rfl, rfl, rfl, by simpa using h1⟩
theorem N86_len : (N86 p).length ≤ 2 := by
  unfold N86
  repeat' (first | exact Nat.zero_le _ | (simp; done) | refine c_ind (P := fun l : List Mv => l.length ≤ 2) (fun _ => ?_) (fun _ => ?_))
theorem N86_mem {m : Mv} (h : m ∈ N86 p) : p.turn ≤ 1 ∧ 0 ≤ m.frm ∧ m.frm < 64 ∧ 0 ≤ m.to ∧ m.to < 64 ∧ m.cas = true ∧ m.drp = 0 ∧ m.pro = 0 := by
  revert h
  unfold N86
  have hk := N99_lo p p.turn 6
  refine c_ind (P := fun l : List Mv => m ∈ l → _) (fun _ h => by cases h) fun h => ?_
  have ht : p.turn ≤ 1 := by simpa using h
  refine c_ind (P := fun l : List Mv => m ∈ l → _) (fun _ h => by cases h) fun _ => c_ind (P := fun l : List Mv => m ∈ l → _) (fun _ h => by cases h) fun hk0 => c_ind (P := fun l : List Mv => m ∈ l → _) (fun _ h => by cases h) fun _ => ?_
  have hk0 : 0 ≤ N99 p p.turn 6 := by simpa using hk0
  have key : ∀ c, (N141 p (N99 p p.turn 6) c).2 = true → m = (N141 p (N99 p p.turn 6) c).1 → p.turn ≤ 1 ∧ 0 ≤ m.frm ∧ m.frm < 64 ∧ 0 ≤ m.to ∧ m.to < 64 ∧ m.cas = true ∧ m.drp = 0 ∧ m.pro = 0 := by
    intro c h1 h2
    obtain ⟨a1, a2, a3, a4, a5, a6, _⟩ := N141_mem hp ht hk0 hk.2 h1
    rw [h2]
    exact ⟨ht, by omega, by omega, a2, a3, a4, a5, a6⟩
  refine c_ind (P := fun l : List Mv => m ∈ l → _) (fun h1 => c_ind (P := fun l : List Mv => m ∈ l → _) (fun h2 h => ?_) fun _ h => ?_) fun _ => c_ind (P := fun l : List Mv => m ∈ l → _) (fun h2 h => ?_) fun _ h => by cases h
  · simp only [List.nil_append, List.mem_append, List.mem_singleton] at h
    rcases h with h | h
    · exact key _ h1 h
    · exact key _ h2 h
  · simp only [List.nil_append, List.mem_singleton] at h
    exact key _ h1 h
  · simp only [List.nil_append, List.mem_singleton] at h
    exact key _ h2 h
end
theorem lp87a (k p2 : Int) (l : List Int) (p5 : Pos) (p6 : Nat) (out : List Mv) (hl : l.length ≤ 64) (hin : ∀ s ∈ l, 0 ≤ s ∧ s < 64) (ho : out.length ≤ 1000000) :
    ∃ r, lp87_2 k p2 l (Int.ofNat l.length) p5 p6 (out, 0) = some r ∧ r.1 = out ++ l.flatMap fun s => [⟨s, s, 0, k, false⟩] := by
  refine lp_many (I := fun x => 0 ≤ x.2 ∧ x.2 ≤ (l.length : Int) ∧ x.1 = out ++ (l.take x.2.toNat).flatMap (fun s => [⟨s, s, 0, k, false⟩])) (μ := fun x => ((l.length : Int) - x.2).toNat) ?_ _ ⟨by simp, by simp, by simp⟩ (by simp; omega)
  rintro ⟨o, n⟩ ⟨h0, h1, h2⟩
  simp only at h0 h1 h2
  have hlen : o.length ≤ out.length + 64 := by
    have := flat_le (l.take n.toNat) (fun s => [(⟨s, s, 0, k, false⟩ : Mv)]) 1 fun _ _ => by simp
    have h5 : (l.take n.toNat).length ≤ 64 := by rw [List.length_take]; omega
    rw [h2, List.length_append]
    omega
  by_cases hc : n < l.length
  · have hf := hin _ (getD_mem (d := default) (show n.toNat < l.length by omega))
    refine ⟨c_true (fun _ => a_true (by simp [h0]; omega) fun _ => a_true (by simp; omega) fun _ => rfl) fun _ => rfl, c_ind (fun _ => ?_) fun h => absurd h (by simpa using hc)⟩
    have hw : wr .i64 (n + 1) = n + 1 := wi64 (by omega) (by omega)
    rw [hw, wi8 (n := l.getD n.toNat default) (by omega) (by omega)]
    refine ⟨⟨by simp; omega, by simp; omega, ?_⟩, by simp; omega⟩
    simp only
    rw [show (n + 1).toNat = n.toNat + 1 by omega, take_next default _ (by omega), h2, List.append_assoc]
  · refine ⟨c_true (fun h => absurd h (by simpa using hc)) fun _ => rfl, c_ind (fun h => absurd h (by simpa using hc)) fun _ => ?_⟩
    show o = _
    rw [h2, List.take_of_length_le (by omega)]
noncomputable def drops (p : Pos) (k : Int) : List Mv :=
  bif p.pockets.getD (scale 6 p.turn + scale 1 k).toNat 0 == 0 then [] else bif k == 1 then (sqs (~~~N143 p &&& 72057594037927680#64) 64).flatMap fun s => [⟨s, s, 0, k, false⟩] else (sqs (~~~N143 p) 64).flatMap fun s => [⟨s, s, 0, k, false⟩]
theorem drops_len (p : Pos) (k : Int) : (drops p k).length ≤ 64 := by
  unfold drops
  refine c_ind (P := fun l : List Mv => l.length ≤ 64) (fun _ => by simp) fun _ => c_ind (P := fun l : List Mv => l.length ≤ 64) (fun _ => ?_) fun _ => ?_
  · have := sqs_len (~~~N143 p &&& 72057594037927680#64) 64
    have h2 := flat_le (sqs (~~~N143 p &&& 72057594037927680#64) 64) (fun s => [(⟨s, s, 0, k, false⟩ : Mv)]) 1 fun _ _ => by simp
    omega
  · have := sqs_len (~~~N143 p) 64
    have h2 := flat_le (sqs (~~~N143 p) 64) (fun s => [(⟨s, s, 0, k, false⟩ : Mv)]) 1 fun _ _ => by simp
    omega
theorem lp87b {p : Pos} (h0 : 0 ≤ p.turn) (h1 : p.turn ≤ 1) : ∃ r, lp87_3 p 0 ([], 0) = some r ∧ r.1 = [1, 2, 3, 4, 5].flatMap (drops p) := by
  refine lp_many (I := fun x => 0 ≤ x.2 ∧ x.2 ≤ 5 ∧ x.1 = (([1, 2, 3, 4, 5] : List Int).take x.2.toNat).flatMap (drops p) ∧ (x.1.length : Int) ≤ 64 * x.2) (μ := fun x => (5 - x.2).toNat) ?_ _ ⟨by simp, by simp, by simp, by simp⟩ (by simp)
  rintro ⟨o, n⟩ ⟨g0, g1, g2, g3⟩
  simp only at g0 g1 g2 g3
  by_cases hc : n < 5
  · have hw : wr .i64 (n + 1) = n + 1 := wi64 (by omega) (by omega)
    have hw8 : wr .u8 (n + 1) = n + 1 := wu8 (by omega) (by omega)
    have s1 := sqs_len (~~~N143 p &&& 72057594037927680#64) 64
    have s2 := sqs_len (~~~N143 p) 64
    have d1 := of_some (lp87a (n + 1) n (sqs (~~~N143 p &&& 72057594037927680#64) 64) p 0 o s1 (fun _ h => sqs_in h) (by omega))
    have d2 := of_some (lp87a (n + 1) n (sqs (~~~N143 p) 64) p 0 o s2 (fun _ h => sqs_in h) (by omega))
    have e : ([1, 2, 3, 4, 5] : List Int).getD n.toNat 0 = n + 1 := by
      have : n = 0 ∨ n = 1 ∨ n = 2 ∨ n = 3 ∨ n = 4 := by omega
      rcases this with rfl | rfl | rfl | rfl | rfl <;> rfl
    have hs : Nxt (fun x : List Mv × Int => 0 ≤ x.2 ∧ x.2 ≤ 5 ∧ x.1 = (([1, 2, 3, 4, 5] : List Int).take x.2.toNat).flatMap (drops p) ∧ x.1.length ≤ 64 * x.2) (fun r : List Mv × Int × Bool => r.1 = [1, 2, 3, 4, 5].flatMap (drops p)) (fun x => (5 - x.2).toNat) (5 - n).toNat (.go (o ++ drops p (n + 1), n + 1)) := by
      have hq := drops_len p (n + 1)
      refine ⟨⟨by simp; omega, by simp; omega, ?_, ?_⟩, by simp; omega⟩
      · simp only
        rw [show (n + 1).toNat = n.toNat + 1 by omega, take_next 0 _ (by simp; omega), g2, e]
      · simp only [List.length_append]
        omega
    refine ⟨c_true (fun _ => ?_) fun _ => rfl, c_ind (fun _ => ?_) fun h => absurd h (by simpa using hc)⟩
    · rw [hw, hw8, N96_eq, N96_eq]
      refine a_true (by simp; omega) fun _ => a_true (by simp; omega) fun _ => c_true (fun _ => rfl) fun _ => a_true (t143 _) fun _ => c_true (fun _ => a_true (t96 _) fun _ => a_true d1.1 fun _ => rfl) fun _ => a_true (t96 _) fun _ => a_true d2.1 fun _ => rfl
    · rw [hw, hw8, N96_eq, N96_eq]
      refine c_ind (fun h => ?_) fun h => c_ind (fun h' => ?_) fun h' => ?_
      · have e : drops p (n + 1) = [] := by unfold drops; rw [h]; rfl
        rw [e, List.append_nil] at hs; exact hs
      · have e : drops p (n + 1) = (sqs (~~~N143 p &&& 72057594037927680#64) 64).flatMap fun s => [⟨s, s, 0, n + 1, false⟩] := by unfold drops; rw [h, h']; rfl
        rw [e] at hs; rw [d1.2]; exact hs
      · have e : drops p (n + 1) = (sqs (~~~N143 p) 64).flatMap fun s => [⟨s, s, 0, n + 1, false⟩] := by unfold drops; rw [h, h']; rfl
        rw [e] at hs; rw [d2.2]; exact hs
  · refine ⟨c_true (fun h => absurd h (by simpa using hc)) fun _ => rfl, c_ind (fun h => absurd h (by simpa using hc)) fun _ => ?_⟩
    have : n = 5 := by omega
    subst this
    exact g2
theorem t87 {p : Pos} (hv : 0 ≤ p.variant) (h0 : 0 ≤ p.turn) : ok87 p = true := by
  unfold ok87
  refine c_true (fun _ => rfl) fun h => a_true (t142 hv) fun _ => c_true (fun _ => rfl) fun _ => a_true ?_ fun _ => rfl
  exact (of_some (lp87b h0 (by simpa using h))).1
theorem N87_eq {p : Pos} (h0 : 0 ≤ p.turn) : N87 p = bif decide (p.turn > 1) then [] else bif !N142 p.variant then [] else [1, 2, 3, 4, 5].flatMap (drops p) := by
  unfold N87
  by_cases h : p.turn ≤ 1
  · rw [(of_some (lp87b h0 h)).2]
  · rw [show decide (p.turn > 1) = true by simp; omega]; rfl
theorem N87_len {p : Pos} (h0 : 0 ≤ p.turn) : (N87 p).length ≤ 320 := by
  rw [N87_eq h0]
  refine c_ind (P := fun l : List Mv => l.length ≤ 320) (fun _ => by simp) fun _ => c_ind (P := fun l : List Mv => l.length ≤ 320) (fun _ => by simp) fun _ => ?_
  have := flat_le [1, 2, 3, 4, 5] (drops p) 64 fun k _ => drops_len p k
  simpa using this
theorem N87_mem {p : Pos} (h0 : 0 ≤ p.turn) {m : Mv} (h : m ∈ N87 p) : p.turn ≤ 1 ∧ N142 p.variant = true ∧ m.frm = m.to ∧ 0 ≤ m.to ∧ m.to < 64 ∧ m.cas = false ∧ 1 ≤ m.drp ∧ m.drp ≤ 5 ∧ m.pro = 0 := by
  rw [N87_eq h0] at h
  revert h
  refine c_ind (P := fun l : List Mv => m ∈ l → _) (fun _ h => by cases h) fun h1 => c_ind (P := fun l : List Mv => m ∈ l → _) (fun _ h => by cases h) fun h2 h => ?_
  obtain ⟨k, hk, hm⟩ := List.mem_flatMap.1 h
  have hk' : 1 ≤ k ∧ k ≤ 5 := by simp at hk; omega
  have key : ∀ b : BitVec 64, m ∈ (sqs b 64).flatMap (fun s => [(⟨s, s, 0, k, false⟩ : Mv)]) → m.frm = m.to ∧ 0 ≤ m.to ∧ m.to < 64 ∧ m.cas = false ∧ 1 ≤ m.drp ∧ m.drp ≤ 5 ∧ m.pro = 0 := by
    intro b hb
    obtain ⟨s, hs, hm⟩ := List.mem_flatMap.1 hb
    have := sqs_in hs
    rw [List.mem_singleton.1 hm]
    exact ⟨rfl, this.1, this.2, rfl, hk'.1, hk'.2, rfl⟩
  refine ⟨by simpa using h1, by simpa using h2, ?_⟩
  revert hm
  unfold drops
  exact c_ind (P := fun l : List Mv => m ∈ l → _) (fun _ h => by cases h) fun _ => c_ind (P := fun l : List Mv => m ∈ l → _) (fun _ => key _) fun _ => key _
theorem N38_eq (p : Pos) : N38 p = N85 p ++ N86 p ++ N87 p := by unfold N38; rw [List.nil_append]
theorem N38_len {p : Pos} (hp : PosIn p) : (N38 p).length ≤ 20802 := by
  have a := N85_len hp.v0
  have b := N86_len hp
  have c := N87_len hp.t0
  rw [N38_eq, List.length_append, List.length_append]
  omega
theorem t38 {p : Pos} (hp : PosIn p) : ok38 p = true := by
  have a := N85_len hp.v0
  have b := N86_len hp
  have c := N87_len hp.t0
  unfold ok38
  rw [wi64 (n := 0 + Int.ofNat (N85 p).length) (by first | omega | (simp; done) | (simp; omega)) (by first | omega | (simp; done) | (simp; omega))]
  rw [wi64 (n := 0 + Int.ofNat (N85 p).length + Int.ofNat (N86 p).length) (by first | omega | (simp; done) | (simp; omega)) (by first | omega | (simp; done) | (simp; omega))]
  rw [wi64 (n := 0 + Int.ofNat (N85 p).length + Int.ofNat (N86 p).length + Int.ofNat (N87 p).length) (by first | omega | (simp; done) | (simp; omega)) (by first | omega | (simp; done) | (simp; omega))]
  refine a_true (t85 hp.v0) fun _ => a_true (t86 hp) fun _ => a_true (t87 hp.v0 hp.t0) fun _ => ?_
  simp
  omega
end Kz
end
section
namespace Kz
open Go Go.RowKit Go.Proofs
set_option maxRecDepth 100000
set_option maxHeartbeats 4000000
noncomputable def K145 : List (Nat × List (Nat × List Nat)) := [(145, [(0, (0 :: 1 :: (rn 4 8 (15 :: 16 :: (rn 22 20 (rn 44 7 [])))))), (1, (0 :: 1 :: (rn 4 18 (rn 23 19 (rn 44 7 []))))), (2, (rn 0 4 (rn 5 46 []))), (3, (0 :: 1 :: (rn 4 23 (rn 30 12 (rn 44 7 []))))), (4, (0 :: 1 :: (rn 4 23 (rn 31 11 (rn 44 7 []))))), (5, (0 :: 1 :: 4 :: 5 :: (rn 7 20 (rn 30 12 (rn 44 7 []))))), (6, (0 :: 1 :: 4 :: 5 :: 6 :: (rn 8 19 (rn 30 12 (rn 44 7 []))))), (7, (0 :: 1 :: (rn 4 23 (rn 30 12 (rn 45 6 []))))), (8, (rn 0 4 (rn 5 46 []))), (9, (0 :: 1 :: (rn 4 23 (rn 30 12 (rn 44 7 []))))), (10, (rn 0 50 [])), (11, (rn 0 4 (rn 5 46 []))), (12, (rn 0 4 (rn 5 46 [])))])]
noncomputable def B145 : Base := baseOf Pz (fun f i => lkK f i K145) [(140, G140)] [] []
theorem hB145 : BOk B145 := base_ok named_z ⟨s140, trivial⟩ trivial trivial
noncomputable def N145 (a : Pos) (b : Mv) : Int := (bif decide (a.turn > 1) then (-1) else (bif !b.cas then (-1) else (bif b.frm == b.to then (-1) else (bif decide (wr .i64 (wr .i64 b.frm - N140 a.turn) < 0) then (-1) else (bif decide (wr .i64 (wr .i64 b.frm - N140 a.turn) > 7) then (-1) else (bif decide (wr .i64 (wr .i64 b.to - N140 a.turn) < 0) then (-1) else (bif decide (wr .i64 (wr .i64 b.to - N140 a.turn) > 7) then (-1) else (bif decide (b.to > b.frm) then (0) else (1)))))))))
noncomputable def ok145 (a : Pos) (b : Mv) : Bool := true
theorem E145 (a : Pos) (b : Mv) : evPure B145 14 145 [Pos.av a, Mv.av b] = Tr.br (decide (a.turn > 1)) (Tr.ret (AV.cint .i64 (-1))) (Tr.br (!b.cas) (Tr.ret (AV.cint .i64 (-1))) (Tr.br (b.frm == b.to) (Tr.ret (AV.cint .i64 (-1))) (Tr.br (isPS Pz 140 [AV.int .u8 a.turn] ((dI .i64).res (N140 a.turn))) (Tr.br (decide (wr .i64 (wr .i64 b.frm - N140 a.turn) < 0)) (Tr.ret (AV.cint .i64 (-1))) (Tr.br (decide (wr .i64 (wr .i64 b.frm - N140 a.turn) > 7)) (Tr.ret (AV.cint .i64 (-1))) (Tr.br (isPS Pz 140 [AV.int .u8 a.turn] ((dI .i64).res (N140 a.turn))) (Tr.br (decide (wr .i64 (wr .i64 b.to - N140 a.turn) < 0)) (Tr.ret (AV.cint .i64 (-1))) (Tr.br (decide (wr .i64 (wr .i64 b.to - N140 a.turn) > 7)) (Tr.ret (AV.cint .i64 (-1))) (Tr.br (decide (b.to > b.frm)) (Tr.ret (AV.cint .i64 0)) (Tr.ret (AV.cint .i64 1))))) Tr.fail))) Tr.fail))) := by kernel_rfl
theorem P145 (a : Pos) (b : Mv) (h : ok145 a b = true) : PS Pz 145 [Pos.av a, Mv.av b] ((dI .i64).res (N145 a b)) := ps_gotR hB145 (E145 a b) (gr_br2 (gr_ret rfl) (gr_br2 (gr_ret rfl) (gr_br2 (gr_ret rfl) (gr_callT (P140 (a.turn) rfl) (gr_br2 (gr_ret rfl) (gr_br2 (gr_ret rfl) (gr_callT (P140 (a.turn) rfl) (gr_br2 (gr_ret rfl) (gr_br2 (gr_ret rfl) (gr_br2 (gr_ret rfl) (gr_ret rfl))))))))))) h
noncomputable def G145 : List AV → Tr AV := g2 dPos dMv (fun a b => sure Pz 145 [Pos.av a, Mv.av b] ((dI .i64).res (N145 a b)))
theorem s145 : Sound Pz 145 G145 := sound2 (fun _ _ => at_sure)
end Kz
end
section
namespace Kz
open Go Go.RowKit Go.Proofs
set_option maxRecDepth 100000
set_option maxHeartbeats 4000000
noncomputable def K91 : List (Nat × List (Nat × List Nat)) := [(91, [(0, (0 :: 1 :: (rn 4 25 []))), (1, (0 :: 1 :: (rn 3 4 (rn 8 21 [])))), (2, (0 :: 1 :: (rn 3 4 (rn 8 5 (rn 14 15 []))))), (3, (rn 0 4 (rn 7 22 []))), (4, (0 :: 1 :: (rn 3 5 (rn 9 20 [])))), (5, (rn 0 4 (rn 7 22 [])))]), (146, [(0, [1, 2, 3]), (1, [1, 2, 3])])]
noncomputable def B91 : Base := baseOf Pz (fun f i => lkK f i K91) [(140, G140), (145, G145)] [] []
theorem hB91 : BOk B91 := base_ok named_z ⟨s140, s145, trivial⟩ trivial trivial
noncomputable def N91 (a : Pos) (b : Mv) : (Int × Int × Bool) := (bif decide (N145 (Pos.mk a.variant a.board a.promoted a.pockets a.turn a.rooks a.passing a.checks a.half a.full) (Mv.mk b.frm b.to b.pro b.drp b.cas) < 0) then ((0), (0), (false)) else ((wr .i64 (N140 a.turn + (if 2 = 2 then List.take 2 (List.drop ((N145 (Pos.mk a.variant a.board a.promoted a.pockets a.turn a.rooks a.passing a.checks a.half a.full) (Mv.mk b.frm b.to b.pro b.drp b.cas)).toNat * 2) (if 4 = 4 then if 2 = 4 then ((List.replicate 2 0).set 0 2).set 1 3 else List.take 2 (if 2 = 4 then ((List.replicate 2 0).set 0 6).set 1 5 else List.take 0 (List.replicate 4 0) ++ ((List.replicate 2 0).set 0 6).set 1 5 ++ List.drop 2 (List.replicate 4 0)) ++ ((List.replicate 2 0).set 0 2).set 1 3 ++ List.drop 4 (if 2 = 4 then ((List.replicate 2 0).set 0 6).set 1 5 else List.take 0 (List.replicate 4 0) ++ ((List.replicate 2 0).set 0 6).set 1 5 ++ List.drop 2 (List.replicate 4 0)) else (List.take 0 (List.replicate 4 0) ++ if 2 = 4 then ((List.replicate 2 0).set 0 2).set 1 3 else List.take 2 (if 2 = 4 then ((List.replicate 2 0).set 0 6).set 1 5 else List.take 0 (List.replicate 4 0) ++ ((List.replicate 2 0).set 0 6).set 1 5 ++ List.drop 2 (List.replicate 4 0)) ++ ((List.replicate 2 0).set 0 2).set 1 3 ++ List.drop 4 (if 2 = 4 then ((List.replicate 2 0).set 0 6).set 1 5 else List.take 0 (List.replicate 4 0) ++ ((List.replicate 2 0).set 0 6).set 1 5 ++ List.drop 2 (List.replicate 4 0))) ++ List.drop 4 (List.replicate 4 0))) else List.take 0 (List.replicate 2 0) ++ List.take 2 (List.drop ((N145 (Pos.mk a.variant a.board a.promoted a.pockets a.turn a.rooks a.passing a.checks a.half a.full) (Mv.mk b.frm b.to b.pro b.drp b.cas)).toNat * 2) (if 4 = 4 then if 2 = 4 then ((List.replicate 2 0).set 0 2).set 1 3 else List.take 2 (if 2 = 4 then ((List.replicate 2 0).set 0 6).set 1 5 else List.take 0 (List.replicate 4 0) ++ ((List.replicate 2 0).set 0 6).set 1 5 ++ List.drop 2 (List.replicate 4 0)) ++ ((List.replicate 2 0).set 0 2).set 1 3 ++ List.drop 4 (if 2 = 4 then ((List.replicate 2 0).set 0 6).set 1 5 else List.take 0 (List.replicate 4 0) ++ ((List.replicate 2 0).set 0 6).set 1 5 ++ List.drop 2 (List.replicate 4 0)) else (List.take 0 (List.replicate 4 0) ++ if 2 = 4 then ((List.replicate 2 0).set 0 2).set 1 3 else List.take 2 (if 2 = 4 then ((List.replicate 2 0).set 0 6).set 1 5 else List.take 0 (List.replicate 4 0) ++ ((List.replicate 2 0).set 0 6).set 1 5 ++ List.drop 2 (List.replicate 4 0)) ++ ((List.replicate 2 0).set 0 2).set 1 3 ++ List.drop 4 (if 2 = 4 then ((List.replicate 2 0).set 0 6).set 1 5 else List.take 0 (List.replicate 4 0) ++ ((List.replicate 2 0).set 0 6).set 1 5 ++ List.drop 2 (List.replicate 4 0))) ++ List.drop 4 (List.replicate 4 0))) ++ List.drop 2 (List.replicate 2 0)).getD 0 0)), (wr .i64 (N140 a.turn + (if 2 = 2 then List.take 2 (List.drop ((N145 (Pos.mk a.variant a.board a.promoted a.pockets a.turn a.rooks a.passing a.checks a.half a.full) (Mv.mk b.frm b.to b.pro b.drp b.cas)).toNat * 2) (if 4 = 4 then if 2 = 4 then ((List.replicate 2 0).set 0 2).set 1 3 else List.take 2 (if 2 = 4 then ((List.replicate 2 0).set 0 6).set 1 5 else List.take 0 (List.replicate 4 0) ++ ((List.replicate 2 0).set 0 6).set 1 5 ++ List.drop 2 (List.replicate 4 0)) ++ ((List.replicate 2 0).set 0 2).set 1 3 ++ List.drop 4 (if 2 = 4 then ((List.replicate 2 0).set 0 6).set 1 5 else List.take 0 (List.replicate 4 0) ++ ((List.replicate 2 0).set 0 6).set 1 5 ++ List.drop 2 (List.replicate 4 0)) else (List.take 0 (List.replicate 4 0) ++ if 2 = 4 then ((List.replicate 2 0).set 0 2).set 1 3 else List.take 2 (if 2 = 4 then ((List.replicate 2 0).set 0 6).set 1 5 else List.take 0 (List.replicate 4 0) ++ ((List.replicate 2 0).set 0 6).set 1 5 ++ List.drop 2 (List.replicate 4 0)) ++ ((List.replicate 2 0).set 0 2).set 1 3 ++ List.drop 4 (if 2 = 4 then ((List.replicate 2 0).set 0 6).set 1 5 else List.take 0 (List.replicate 4 0) ++ ((List.replicate 2 0).set 0 6).set 1 5 ++ List.drop 2 (List.replicate 4 0))) ++ List.drop 4 (List.replicate 4 0))) else List.take 0 (List.replicate 2 0) ++ List.take 2 (List.drop ((N145 (Pos.mk a.variant a.board a.promoted a.pockets a.turn a.rooks a.passing a.checks a.half a.full) (Mv.mk b.frm b.to b.pro b.drp b.cas)).toNat * 2) (if 4 = 4 then if 2 = 4 then ((List.replicate 2 0).set 0 2).set 1 3 else List.take 2 (if 2 = 4 then ((List.replicate 2 0).set 0 6).set 1 5 else List.take 0 (List.replicate 4 0) ++ ((List.replicate 2 0).set 0 6).set 1 5 ++ List.drop 2 (List.replicate 4 0)) ++ ((List.replicate 2 0).set 0 2).set 1 3 ++ List.drop 4 (if 2 = 4 then ((List.replicate 2 0).set 0 6).set 1 5 else List.take 0 (List.replicate 4 0) ++ ((List.replicate 2 0).set 0 6).set 1 5 ++ List.drop 2 (List.replicate 4 0)) else (List.take 0 (List.replicate 4 0) ++ if 2 = 4 then ((List.replicate 2 0).set 0 2).set 1 3 else List.take 2 (if 2 = 4 then ((List.replicate 2 0).set 0 6).set 1 5 else List.take 0 (List.replicate 4 0) ++ ((List.replicate 2 0).set 0 6).set 1 5 ++ List.drop 2 (List.replicate 4 0)) ++ ((List.replicate 2 0).set 0 2).set 1 3 ++ List.drop 4 (if 2 = 4 then ((List.replicate 2 0).set 0 6).set 1 5 else List.take 0 (List.replicate 4 0) ++ ((List.replicate 2 0).set 0 6).set 1 5 ++ List.drop 2 (List.replicate 4 0))) ++ List.drop 4 (List.replicate 4 0))) ++ List.drop 2 (List.replicate 2 0)).getD 1 0)), (true)))
noncomputable def ok91 (a : Pos) (b : Mv) : Bool := (bif decide (N145 (Pos.mk a.variant a.board a.promoted a.pockets a.turn a.rooks a.passing a.checks a.half a.full) (Mv.mk b.frm b.to b.pro b.drp b.cas) < 0) then true else (decide (0 ≤ N145 (Pos.mk a.variant a.board a.promoted a.pockets a.turn a.rooks a.passing a.checks a.half a.full) (Mv.mk b.frm b.to b.pro b.drp b.cas)) && decide (N145 (Pos.mk a.variant a.board a.promoted a.pockets a.turn a.rooks a.passing a.checks a.half a.full) (Mv.mk b.frm b.to b.pro b.drp b.cas) < ↑2) && true))
theorem E91 (a : Pos) (b : Mv) : evPure B91 14 91 [Pos.av a, Mv.av b] = (let z2 := (Pos.mk a.variant a.board a.promoted a.pockets a.turn a.rooks a.passing a.checks a.half a.full); let z3 := (Mv.mk b.frm b.to b.pro b.drp b.cas); let z1 := (List.drop ((N145 z2 z3).toNat * 2) (if 4 = 4 then if 2 = 4 then ((List.replicate 2 0).set 0 2).set 1 3 else List.take 2 (if 2 = 4 then ((List.replicate 2 0).set 0 6).set 1 5 else List.take 0 (List.replicate 4 0) ++ ((List.replicate 2 0).set 0 6).set 1 5 ++ List.drop 2 (List.replicate 4 0)) ++ ((List.replicate 2 0).set 0 2).set 1 3 ++ List.drop 4 (if 2 = 4 then ((List.replicate 2 0).set 0 6).set 1 5 else List.take 0 (List.replicate 4 0) ++ ((List.replicate 2 0).set 0 6).set 1 5 ++ List.drop 2 (List.replicate 4 0)) else (List.take 0 (List.replicate 4 0) ++ if 2 = 4 then ((List.replicate 2 0).set 0 2).set 1 3 else List.take 2 (if 2 = 4 then ((List.replicate 2 0).set 0 6).set 1 5 else List.take 0 (List.replicate 4 0) ++ ((List.replicate 2 0).set 0 6).set 1 5 ++ List.drop 2 (List.replicate 4 0)) ++ ((List.replicate 2 0).set 0 2).set 1 3 ++ List.drop 4 (if 2 = 4 then ((List.replicate 2 0).set 0 6).set 1 5 else List.take 0 (List.replicate 4 0) ++ ((List.replicate 2 0).set 0 6).set 1 5 ++ List.drop 2 (List.replicate 4 0))) ++ List.drop 4 (List.replicate 4 0))); let z4 := (if 2 = 2 then List.take 2 z1 else List.take 0 (List.replicate 2 0) ++ List.take 2 z1 ++ List.drop 2 (List.replicate 2 0)); let z5 := (isPS Pz 140 [AV.int .u8 a.turn] ((dI .i64).res (N140 a.turn))); Tr.br (isPS Pz 145 [z2.av, z3.av] ((dI .i64).res (N145 z2 z3))) (Tr.br (decide (N145 z2 z3 < 0)) (Tr.ret (AV.tuple [AV.cint .i64 0, AV.cint .i64 0, AV.cbool false])) (Tr.br (decide (0 ≤ N145 z2 z3) && decide (N145 z2 z3 < ↑2)) (Tr.br z5 (Tr.br z5 (Tr.ret (AV.tuple [AV.int .i64 (wr .i64 (N140 a.turn + z4.getD 0 0)), AV.int .i64 (wr .i64 (N140 a.turn + z4.getD 1 0)), AV.cbool true])) Tr.fail) Tr.fail) Tr.fail)) Tr.fail) := by kernel_rfl
theorem P91 (a : Pos) (b : Mv) (h : ok91 a b = true) : PS Pz 91 [Pos.av a, Mv.av b] ((d3 (dI .i64) (dI .i64) dB).res (N91 a b)) := ps_gotR hB91 (E91 a b) (gr_callT (P145 (Pos.mk a.variant a.board a.promoted a.pockets a.turn a.rooks a.passing a.checks a.half a.full) (Mv.mk b.frm b.to b.pro b.drp b.cas) rfl) (gr_br (gr_ret rfl) (gr_guard (gr_callT (P140 (a.turn) rfl) (gr_callT (P140 (a.turn) rfl) (gr_ret rfl)))))) h
noncomputable def G91 : List AV → Tr AV := g2 dPos dMv (fun a b => sure Pz 91 [Pos.av a, Mv.av b] ((d3 (dI .i64) (dI .i64) dB).res (N91 a b)))
theorem s91 : Sound Pz 91 G91 := sound2 (fun _ _ => at_sure)
end Kz
end
section
namespace Kz
open Go Go.RowKit Go.Proofs
set_option maxRecDepth 100000
set_option maxHeartbeats 4000000
noncomputable def K147 : List (Nat × List (Nat × List Nat)) := [(147, [(0, (rn 2 6 [10, 11, 14])), (1, (rn 0 4 (rn 5 10 [])))])]
noncomputable def B147 : Base := baseOf Pz (fun f i => lkK f i K147) [] [] []
theorem hB147 : BOk B147 := base_ok named_z trivial trivial trivial
noncomputable def N147 (a : Int) (b : Int) : Bool := (bif decide (a ≤ 1) then (bif decide (b ≥ 1) then (decide (b ≤ 5)) else (false)) else (false))
noncomputable def ok147 (a : Int) (b : Int) : Bool := true
theorem E147 (a : Int) (b : Int) : evPure B147 14 147 [.int .u8 a, .int .u8 b] = Tr.br (decide (a ≤ 1)) (Tr.br (decide (b ≥ 1)) (Tr.ret (AV.bool (decide (b ≤ 5)))) (Tr.ret (AV.cbool false))) (Tr.ret (AV.cbool false)) := by kernel_rfl
theorem P147 (a : Int) (b : Int) (h : ok147 a b = true) : PS Pz 147 [.int .u8 a, .int .u8 b] (dB.res (N147 a b)) := ps_gotR hB147 (E147 a b) (gr_br2 (gr_br2 (gr_ret rfl) (gr_ret rfl)) (gr_ret rfl)) h
noncomputable def G147 : List AV → Tr AV := g2 (dI .u8) (dI .u8) (fun a b => sure Pz 147 [.int .u8 a, .int .u8 b] (dB.res (N147 a b)))
theorem s147 : Sound Pz 147 G147 := sound2 (fun _ _ => at_sure)
end Kz
end
section
namespace Kz
open Go Go.RowKit Go.Proofs
set_option maxRecDepth 100000
set_option maxHeartbeats 4000000
noncomputable def K92 : List (Nat × List (Nat × List Nat)) := [(92, [(0, (0 :: 4 :: 5 :: (rn 7 6 (rn 20 13 [])))), (1, (0 :: 4 :: 5 :: (rn 7 13 (rn 21 12 [])))), (2, (rn 0 6 (rn 8 25 []))), (3, (0 :: 1 :: 2 :: 4 :: 5 :: (rn 7 26 []))), (4, (rn 0 6 (rn 8 25 [])))])]
noncomputable def B92 : Base := baseOf Pz (fun f i => lkK f i K92) [(147, G147)] [] []
theorem hB92 : BOk B92 := base_ok named_z ⟨s147, trivial⟩ trivial trivial
noncomputable def N92 (a : Pos) (b : Int) (c : Int) : (Pos × Bool) := (bif !N147 b c then (⟨(a.variant), (if 64 = 64 then a.board else List.take 0 (List.replicate 64 0) ++ a.board ++ List.drop 64 (List.replicate 64 0)), (a.promoted), (if 12 = 12 then a.pockets else List.take 0 (List.replicate 12 0) ++ a.pockets ++ List.drop 12 (List.replicate 12 0)), (a.turn), (if 4 = 4 then a.rooks else List.take 0 (List.replicate 4 0) ++ a.rooks ++ List.drop 4 (List.replicate 4 0)), (a.passing), (if 2 = 2 then a.checks else List.take 0 (List.replicate 2 0) ++ a.checks ++ List.drop 2 (List.replicate 2 0)), (a.half), (a.full)⟩, (false)) else (bif a.pockets.getD (scale 6 b + scale 1 c).toNat 0 == 0 then (⟨(a.variant), (if 64 = 64 then a.board else List.take 0 (List.replicate 64 0) ++ a.board ++ List.drop 64 (List.replicate 64 0)), (a.promoted), (if 12 = 12 then a.pockets else List.take 0 (List.replicate 12 0) ++ a.pockets ++ List.drop 12 (List.replicate 12 0)), (a.turn), (if 4 = 4 then a.rooks else List.take 0 (List.replicate 4 0) ++ a.rooks ++ List.drop 4 (List.replicate 4 0)), (a.passing), (if 2 = 2 then a.checks else List.take 0 (List.replicate 2 0) ++ a.checks ++ List.drop 2 (List.replicate 2 0)), (a.half), (a.full)⟩, (false)) else (⟨(a.variant), (if 64 = 64 then a.board else List.take 0 (List.replicate 64 0) ++ a.board ++ List.drop 64 (List.replicate 64 0)), (a.promoted), (if 12 = 12 then a.pockets.set (scale 6 b + scale 1 c).toNat (wr .u8 (a.pockets.getD (scale 6 b + scale 1 c).toNat 0 - 1)) else List.take 0 (List.replicate 12 0) ++ a.pockets.set (scale 6 b + scale 1 c).toNat (wr .u8 (a.pockets.getD (scale 6 b + scale 1 c).toNat 0 - 1)) ++ List.drop 12 (List.replicate 12 0)), (a.turn), (if 4 = 4 then a.rooks else List.take 0 (List.replicate 4 0) ++ a.rooks ++ List.drop 4 (List.replicate 4 0)), (a.passing), (if 2 = 2 then a.checks else List.take 0 (List.replicate 2 0) ++ a.checks ++ List.drop 2 (List.replicate 2 0)), (a.half), (a.full)⟩, (true))))
noncomputable def ok92 (a : Pos) (b : Int) (c : Int) : Bool := (bif !N147 b c then true else (decide (0 ≤ b) && decide (b < ↑2) && (decide (0 ≤ c) && decide (c < ↑6) && (bif a.pockets.getD (scale 6 b + scale 1 c).toNat 0 == 0 then true else (decide (0 ≤ b) && decide (b < ↑2) && (decide (0 ≤ c) && decide (c < ↑6) && (decide (0 ≤ b) && decide (b < ↑2) && (decide (0 ≤ c) && decide (c < ↑6) && true))))))))
theorem E92 (a : Pos) (b : Int) (c : Int) : evPure B92 14 92 [Pos.av a, .int .u8 b, .int .u8 c] = (let z1 := (Tr.ret (AV.tuple [AV.agg [AV.int .u8 a.variant, AV.ints .u8 64 (if 64 = 64 then a.board else List.take 0 (List.replicate 64 0) ++ a.board ++ List.drop 64 (List.replicate 64 0)), AV.u64 a.promoted, AV.ints .u8 12 (if 12 = 12 then a.pockets else List.take 0 (List.replicate 12 0) ++ a.pockets ++ List.drop 12 (List.replicate 12 0)), AV.int .u8 a.turn, AV.ints .i8 4 (if 4 = 4 then a.rooks else List.take 0 (List.replicate 4 0) ++ a.rooks ++ List.drop 4 (List.replicate 4 0)), AV.int .i8 a.passing, AV.ints .u8 2 (if 2 = 2 then a.checks else List.take 0 (List.replicate 2 0) ++ a.checks ++ List.drop 2 (List.replicate 2 0)), AV.int .i64 a.half, AV.int .i64 a.full], AV.cbool false])); let z2 := (scale 6 b + scale 1 c); Tr.br (isPS Pz 147 [AV.int .u8 b, AV.int .u8 c] (dB.res (N147 b c))) (Tr.br (!N147 b c) z1 (Tr.br (decide (0 ≤ b) && decide (b < ↑2)) (Tr.br (decide (0 ≤ c) && decide (c < ↑6)) (Tr.br (a.pockets.getD z2.toNat 0 == 0) z1 (Tr.br (decide (0 ≤ b) && decide (b < ↑2)) (Tr.br (decide (0 ≤ c) && decide (c < ↑6)) (Tr.br (decide (0 ≤ b) && decide (b < ↑2)) (Tr.br (decide (0 ≤ c) && decide (c < ↑6)) (Tr.ret (AV.tuple [AV.agg [AV.int .u8 a.variant, AV.ints .u8 64 (if 64 = 64 then a.board else List.take 0 (List.replicate 64 0) ++ a.board ++ List.drop 64 (List.replicate 64 0)), AV.u64 a.promoted, AV.ints .u8 12 (if 12 = 12 then a.pockets.set z2.toNat (wr .u8 (a.pockets.getD z2.toNat 0 - 1)) else List.take 0 (List.replicate 12 0) ++ a.pockets.set z2.toNat (wr .u8 (a.pockets.getD z2.toNat 0 - 1)) ++ List.drop 12 (List.replicate 12 0)), AV.int .u8 a.turn, AV.ints .i8 4 (if 4 = 4 then a.rooks else List.take 0 (List.replicate 4 0) ++ a.rooks ++ List.drop 4 (List.replicate 4 0)), AV.int .i8 a.passing, AV.ints .u8 2 (if 2 = 2 then a.checks else List.take 0 (List.replicate 2 0) ++ a.checks ++ List.drop 2 (List.replicate 2 0)), AV.int .i64 a.half, AV.int .i64 a.full], AV.cbool true])) Tr.fail) Tr.fail) Tr.fail) Tr.fail)) Tr.fail) Tr.fail)) Tr.fail) := by kernel_rfl
theorem P92 (a : Pos) (b : Int) (c : Int) (h : ok92 a b c = true) : PS Pz 92 [Pos.av a, .int .u8 b, .int .u8 c] ((d2 dPos dB).res (N92 a b c)) := ps_gotR hB92 (E92 a b c) (gr_callT (P147 (b) (c) rfl) (gr_br (gr_ret rfl) (gr_guard (gr_guard (gr_br (gr_ret rfl) (gr_guard (gr_guard (gr_guard (gr_guard (gr_ret rfl)))))))))) h
noncomputable def G92 : List AV → Tr AV := g3 dPos (dI .u8) (dI .u8) (fun a b c => sure Pz 92 [Pos.av a, .int .u8 b, .int .u8 c] ((d2 dPos dB).res (N92 a b c)))
theorem s92 : Sound Pz 92 G92 := sound3 (fun _ _ _ => at_sure)
end Kz
end
section
namespace Kz
open Go Go.RowKit Go.Proofs
set_option maxRecDepth 100000
set_option maxHeartbeats 4000000
noncomputable def K95 : List (Nat × List (Nat × List Nat)) := [(95, [(0, (0 :: 4 :: 5 :: (rn 7 4 (rn 18 12 [])))), (1, (0 :: 4 :: 5 :: (rn 7 11 (rn 19 11 [])))), (2, (0 :: 1 :: 2 :: 4 :: 5 :: (rn 7 23 []))), (3, (rn 0 6 (rn 7 23 [])))])]
noncomputable def B95 : Base := baseOf Pz (fun f i => lkK f i K95) [(147, G147)] [] []
theorem hB95 : BOk B95 := base_ok named_z ⟨s147, trivial⟩ trivial trivial
noncomputable def N95 (a : Pos) (b : Int) (c : Int) : Pos := (bif N147 b c then (bif decide (a.pockets.getD (scale 6 b + scale 1 c).toNat 0 < 255) then ⟨(a.variant), (if 64 = 64 then a.board else List.take 0 (List.replicate 64 0) ++ a.board ++ List.drop 64 (List.replicate 64 0)), (a.promoted), (if 12 = 12 then a.pockets.set (scale 6 b + scale 1 c).toNat (wr .u8 (a.pockets.getD (scale 6 b + scale 1 c).toNat 0 + 1)) else List.take 0 (List.replicate 12 0) ++ a.pockets.set (scale 6 b + scale 1 c).toNat (wr .u8 (a.pockets.getD (scale 6 b + scale 1 c).toNat 0 + 1)) ++ List.drop 12 (List.replicate 12 0)), (a.turn), (if 4 = 4 then a.rooks else List.take 0 (List.replicate 4 0) ++ a.rooks ++ List.drop 4 (List.replicate 4 0)), (a.passing), (if 2 = 2 then a.checks else List.take 0 (List.replicate 2 0) ++ a.checks ++ List.drop 2 (List.replicate 2 0)), (a.half), (a.full)⟩ else ⟨(a.variant), (if 64 = 64 then a.board else List.take 0 (List.replicate 64 0) ++ a.board ++ List.drop 64 (List.replicate 64 0)), (a.promoted), (if 12 = 12 then a.pockets else List.take 0 (List.replicate 12 0) ++ a.pockets ++ List.drop 12 (List.replicate 12 0)), (a.turn), (if 4 = 4 then a.rooks else List.take 0 (List.replicate 4 0) ++ a.rooks ++ List.drop 4 (List.replicate 4 0)), (a.passing), (if 2 = 2 then a.checks else List.take 0 (List.replicate 2 0) ++ a.checks ++ List.drop 2 (List.replicate 2 0)), (a.half), (a.full)⟩) else ⟨(a.variant), (if 64 = 64 then a.board else List.take 0 (List.replicate 64 0) ++ a.board ++ List.drop 64 (List.replicate 64 0)), (a.promoted), (if 12 = 12 then a.pockets else List.take 0 (List.replicate 12 0) ++ a.pockets ++ List.drop 12 (List.replicate 12 0)), (a.turn), (if 4 = 4 then a.rooks else List.take 0 (List.replicate 4 0) ++ a.rooks ++ List.drop 4 (List.replicate 4 0)), (a.passing), (if 2 = 2 then a.checks else List.take 0 (List.replicate 2 0) ++ a.checks ++ List.drop 2 (List.replicate 2 0)), (a.half), (a.full)⟩)
noncomputable def ok95 (a : Pos) (b : Int) (c : Int) : Bool := (bif N147 b c then (decide (0 ≤ b) && decide (b < ↑2) && (decide (0 ≤ c) && decide (c < ↑6) && (bif decide (a.pockets.getD (scale 6 b + scale 1 c).toNat 0 < 255) then (decide (0 ≤ b) && decide (b < ↑2) && (decide (0 ≤ c) && decide (c < ↑6) && (decide (0 ≤ b) && decide (b < ↑2) && (decide (0 ≤ c) && decide (c < ↑6) && true)))) else true))) else true)
theorem E95 (a : Pos) (b : Int) (c : Int) : evPure B95 14 95 [Pos.av a, .int .u8 b, .int .u8 c] = (let z1 := (Tr.ret (AV.agg [AV.int .u8 a.variant, AV.ints .u8 64 (if 64 = 64 then a.board else List.take 0 (List.replicate 64 0) ++ a.board ++ List.drop 64 (List.replicate 64 0)), AV.u64 a.promoted, AV.ints .u8 12 (if 12 = 12 then a.pockets else List.take 0 (List.replicate 12 0) ++ a.pockets ++ List.drop 12 (List.replicate 12 0)), AV.int .u8 a.turn, AV.ints .i8 4 (if 4 = 4 then a.rooks else List.take 0 (List.replicate 4 0) ++ a.rooks ++ List.drop 4 (List.replicate 4 0)), AV.int .i8 a.passing, AV.ints .u8 2 (if 2 = 2 then a.checks else List.take 0 (List.replicate 2 0) ++ a.checks ++ List.drop 2 (List.replicate 2 0)), AV.int .i64 a.half, AV.int .i64 a.full])); let z2 := (scale 6 b + scale 1 c); Tr.br (isPS Pz 147 [AV.int .u8 b, AV.int .u8 c] (dB.res (N147 b c))) (Tr.br (N147 b c) (Tr.br (decide (0 ≤ b) && decide (b < ↑2)) (Tr.br (decide (0 ≤ c) && decide (c < ↑6)) (Tr.br (decide (a.pockets.getD z2.toNat 0 < 255)) (Tr.br (decide (0 ≤ b) && decide (b < ↑2)) (Tr.br (decide (0 ≤ c) && decide (c < ↑6)) (Tr.br (decide (0 ≤ b) && decide (b < ↑2)) (Tr.br (decide (0 ≤ c) && decide (c < ↑6)) (Tr.ret (AV.agg [AV.int .u8 a.variant, AV.ints .u8 64 (if 64 = 64 then a.board else List.take 0 (List.replicate 64 0) ++ a.board ++ List.drop 64 (List.replicate 64 0)), AV.u64 a.promoted, AV.ints .u8 12 (if 12 = 12 then a.pockets.set z2.toNat (wr .u8 (a.pockets.getD z2.toNat 0 + 1)) else List.take 0 (List.replicate 12 0) ++ a.pockets.set z2.toNat (wr .u8 (a.pockets.getD z2.toNat 0 + 1)) ++ List.drop 12 (List.replicate 12 0)), AV.int .u8 a.turn, AV.ints .i8 4 (if 4 = 4 then a.rooks else List.take 0 (List.replicate 4 0) ++ a.rooks ++ List.drop 4 (List.replicate 4 0)), AV.int .i8 a.passing, AV.ints .u8 2 (if 2 = 2 then a.checks else List.take 0 (List.replicate 2 0) ++ a.checks ++ List.drop 2 (List.replicate 2 0)), AV.int .i64 a.half, AV.int .i64 a.full])) Tr.fail) Tr.fail) Tr.fail) Tr.fail) z1) Tr.fail) Tr.fail) z1) Tr.fail) := by kernel_rfl
theorem P95 (a : Pos) (b : Int) (c : Int) (h : ok95 a b c = true) : PS Pz 95 [Pos.av a, .int .u8 b, .int .u8 c] (dPos.res (N95 a b c)) := ps_gotR hB95 (E95 a b c) (gr_callT (P147 (b) (c) rfl) (gr_br (gr_guard (gr_guard (gr_br (gr_guard (gr_guard (gr_guard (gr_guard (gr_ret rfl))))) (gr_ret rfl)))) (gr_ret rfl))) h
noncomputable def G95 : List AV → Tr AV := g3 dPos (dI .u8) (dI .u8) (fun a b c => sure Pz 95 [Pos.av a, .int .u8 b, .int .u8 c] (dPos.res (N95 a b c)))
theorem s95 : Sound Pz 95 G95 := sound3 (fun _ _ _ => at_sure)
end Kz
end
section
namespace Kz
open Go Go.RowKit Go.Proofs
set_option maxRecDepth 100000
set_option maxHeartbeats 4000000
noncomputable def K97 : List (Nat × List (Nat × List Nat)) := [(97, [(0, (0 :: (rn 3 7 (rn 12 20 [])))), (1, (0 :: (rn 3 9 (rn 13 19 [])))), (2, (rn 0 4 (rn 5 27 []))), (3, (0 :: 3 :: 4 :: (rn 6 26 []))), (4, (0 :: 3 :: 4 :: (rn 7 25 []))), (5, (0 :: 3 :: 4 :: (rn 7 12 (rn 20 12 [])))), (6, (0 :: 3 :: 4 :: (rn 7 25 []))), (7, (0 :: 3 :: 4 :: (rn 7 25 []))), (8, (rn 0 4 (rn 5 27 [])))])]
noncomputable def B97 : Base := baseOf Pz (fun f i => lkK f i K97) [(143, G143), (101, G101), (149, G149)] [] []
theorem hB97 : BOk B97 := base_ok named_z ⟨s143, s101, s149, trivial⟩ trivial trivial
noncomputable def N97 (a : Pos) (b : Int) : BitVec 64 := (bif decide (b < 0) then (0#64) else (bif decide (b ≥ 64) then (0#64) else (N149 b &&& N143 (Pos.mk a.variant a.board a.promoted a.pockets a.turn a.rooks a.passing a.checks a.half a.full) &&& ~~~N101 (Pos.mk a.variant a.board a.promoted a.pockets a.turn a.rooks a.passing a.checks a.half a.full) 0 1 &&& ~~~N101 (Pos.mk a.variant a.board a.promoted a.pockets a.turn a.rooks a.passing a.checks a.half a.full) (wr .u8 (0 + 1)) 1 ||| 1#64 <<< (BitVec.ofInt 64 b).toNat)))
noncomputable def ok97 (a : Pos) (b : Int) : Bool := (bif decide (b < 0) then true else (bif decide (b ≥ 64) then true else (ok149 (b) && (ok143 (Pos.mk a.variant a.board a.promoted a.pockets a.turn a.rooks a.passing a.checks a.half a.full) && (ok101 (Pos.mk a.variant a.board a.promoted a.pockets a.turn a.rooks a.passing a.checks a.half a.full) (0) (1) && (ok101 (Pos.mk a.variant a.board a.promoted a.pockets a.turn a.rooks a.passing a.checks a.half a.full) (wr .u8 (0 + 1)) (1) && true))))))
theorem E97 (a : Pos) (b : Int) : evPure B97 14 97 [Pos.av a, .int .i64 b] = Tr.br (decide (b < 0)) (Tr.ret (AV.u64 0#64)) (Tr.br (decide (b ≥ 64)) (Tr.ret (AV.u64 0#64)) (Tr.br (isPS Pz 149 [AV.int .i64 b] (dU.res (N149 b))) (Tr.br (isPS Pz 143 [(Pos.mk a.variant a.board a.promoted a.pockets a.turn a.rooks a.passing a.checks a.half a.full).av] (dU.res (N143 (Pos.mk a.variant a.board a.promoted a.pockets a.turn a.rooks a.passing a.checks a.half a.full)))) (Tr.br (isPS Pz 101 [(Pos.mk a.variant a.board a.promoted a.pockets a.turn a.rooks a.passing a.checks a.half a.full).av, AV.int .u8 0, AV.int .u8 1] (dU.res (N101 (Pos.mk a.variant a.board a.promoted a.pockets a.turn a.rooks a.passing a.checks a.half a.full) 0 1))) (Tr.br (isPS Pz 101 [(Pos.mk a.variant a.board a.promoted a.pockets a.turn a.rooks a.passing a.checks a.half a.full).av, AV.int .u8 (wr .u8 (0 + 1)), AV.int .u8 1] (dU.res (N101 (Pos.mk a.variant a.board a.promoted a.pockets a.turn a.rooks a.passing a.checks a.half a.full) (wr .u8 (0 + 1)) 1))) (Tr.ret (AV.u64 (N149 b &&& N143 (Pos.mk a.variant a.board a.promoted a.pockets a.turn a.rooks a.passing a.checks a.half a.full) &&& ~~~N101 (Pos.mk a.variant a.board a.promoted a.pockets a.turn a.rooks a.passing a.checks a.half a.full) 0 1 &&& ~~~N101 (Pos.mk a.variant a.board a.promoted a.pockets a.turn a.rooks a.passing a.checks a.half a.full) (wr .u8 (0 + 1)) 1 ||| 1#64 <<< (BitVec.ofInt 64 b).toNat))) Tr.fail) Tr.fail) Tr.fail) Tr.fail)) := by kernel_rfl
theorem P97 (a : Pos) (b : Int) (h : ok97 a b = true) : PS Pz 97 [Pos.av a, .int .i64 b] (dU.res (N97 a b)) := ps_gotR hB97 (E97 a b) (gr_br (gr_ret rfl) (gr_br (gr_ret rfl) (gr_call (P149 (b)) (gr_call (P143 (Pos.mk a.variant a.board a.promoted a.pockets a.turn a.rooks a.passing a.checks a.half a.full)) (gr_call (P101 (Pos.mk a.variant a.board a.promoted a.pockets a.turn a.rooks a.passing a.checks a.half a.full) (0) (1)) (gr_call (P101 (Pos.mk a.variant a.board a.promoted a.pockets a.turn a.rooks a.passing a.checks a.half a.full) (wr .u8 (0 + 1)) (1)) (gr_ret rfl))))))) h
noncomputable def G97 : List AV → Tr AV := g2 dPos (dI .i64) (fun a b => sure Pz 97 [Pos.av a, .int .i64 b] (dU.res (N97 a b)))
theorem s97 : Sound Pz 97 G97 := sound2 (fun _ _ => at_sure)
end Kz
end
section
namespace Kz
open Go
set_option maxRecDepth 100000
theorem pawn_up : ∀ f t : Fin 64, (N100 0 f.val).getLsbD t.val = true → 8 ≤ t.val := by decide +kernel
theorem pawn_dn : ∀ f t : Fin 64, (N100 1 f.val).getLsbD t.val = true → t.val < 56 := by decide +kernel
theorem one_bit {x : Nat} {i : Nat} (hi : i < 64) : (1#64 <<< x).getLsbD i = decide (i = x) := by
  rw [BitVec.getLsbD_shiftLeft, BitVec.getLsbD_one]
  rcases Nat.lt_trichotomy i x with h | rfl | h
  · have : ¬ i = x := by omega
    simp [h, this]
  · simp [hi]
  · have h1 : ¬ i = x := by omega
    have h2 : ¬ i - x = 0 := by omega
    simp [h1, h2]
theorem ofInt_nat {n : Int} (h0 : 0 ≤ n) (h1 : n < 18446744073709551616) : (BitVec.ofInt 64 n).toNat = n.toNat := by
  rw [BitVec.toNat_ofInt]
  omega
theorem tOf_kind {c k v : Int} (h : tOf c k v = true) : k = 0 ∨ N89 v = k := by
  unfold tOf at h
  simp only [Bool.and_eq_true, Bool.or_eq_true, beq_iff_eq] at h
  exact h.2
theorem pawn_side {p : Pos} (hp : PosIn p) (ht : p.turn ≤ 1) {x : Pos × BitVec 64 × BitVec 64} (hx : x.1 = p) {f t : Nat} (hf : f < 64) (h1 : t < 64) (hm : (f : Int).tmod 8 ≠ (t : Int).tmod 8) (hb : (N197 x f).getLsbD t = true) : (N100 p.turn f).getLsbD t = true := by
  have h0 := hp.t0
  have hne : f % 8 ≠ t % 8 := by
    intro e
    apply hm
    rw [Int.tmod_eq_emod_of_nonneg (by omega), Int.tmod_eq_emod_of_nonneg (by omega)]
    omega
  have a1 : ∀ n : Int, (n = f + 8 ∨ n = f - 8 ∨ n = f + 16 ∨ n = f - 16) → (1#64 <<< (BitVec.ofInt 64 n).toNat).getLsbD t = false := by
    intro n hn
    rw [one_bit h1]
    simp only [decide_eq_false_iff_not]
    rw [BitVec.toNat_ofInt]
    omega
  have w : ∀ s : Int, -100 ≤ s → s ≤ 100 → (N90 p.turn s = s + 8 ∨ N90 p.turn s = s - 8) := by
    intro s g0 g1
    unfold N90
    rw [wi64 (n := s - 8) (by omega) (by omega), wi64 (n := s + 8) (by omega) (by omega)]
    exact c_ind (P := fun x : Int => x = s + 8 ∨ x = s - 8) (fun _ => .inr rfl) fun _ => .inl rfl
  have b1 := w f (by omega) (by omega)
  have b2 := w (N90 p.turn f) (by omega) (by omega)
  have c1 := a1 (N90 p.turn f) (by omega)
  have c2 : (1#64 <<< (BitVec.ofInt 64 (N90 p.turn (N90 p.turn f))).toNat).getLsbD t = false := by
    by_cases e : N90 p.turn (N90 p.turn f) = f
    · rw [e, one_bit h1]
      simp only [decide_eq_false_iff_not]
      rw [BitVec.toNat_ofInt]
      omega
    · exact a1 _ (by omega)
  revert hb
  unfold N197
  rw [hx]
  have k1 : ∀ y : BitVec 64, (N100 p.turn f &&& y).getLsbD t = true → (N100 p.turn f).getLsbD t = true := fun y h => by
    rw [BitVec.getLsbD_and] at h
    exact (Bool.and_eq_true _ _ ▸ h).1
  have k2 : ∀ y : BitVec 64, (N100 p.turn f &&& y ||| 1#64 <<< (BitVec.ofInt 64 (N90 p.turn f)).toNat).getLsbD t = true → (N100 p.turn f).getLsbD t = true := fun y h => by
    rw [BitVec.getLsbD_or, c1, Bool.or_false] at h
    exact k1 y h
  have k3 : ∀ y z : BitVec 64, (N100 p.turn f &&& y ||| 1#64 <<< (BitVec.ofInt 64 (N90 p.turn f)).toNat ||| 1#64 <<< (BitVec.ofInt 64 (N90 p.turn (N90 p.turn f))).toNat &&& z).getLsbD t = true → (N100 p.turn f).getLsbD t = true := fun y z h => by
    rw [BitVec.getLsbD_or, BitVec.getLsbD_and, c2, Bool.false_and, Bool.or_false] at h
    exact k2 y h
  repeat' (first | with_reducible exact k1 _ | with_reducible exact k2 _ | with_reducible exact k3 _ _ | refine c_ind (P := fun y : BitVec 64 => y.getLsbD t = true → (N100 p.turn f).getLsbD t = true) (fun _ => ?_) (fun _ => ?_))
theorem N39_in {p : Pos} (hp : PosIn p) (m : Mv) : -1 ≤ N39 p m ∧ N39 p m < 64 := by
  have hl := N85_len hp.v0
  unfold N39
  refine c_ind (P := fun x : Int => -1 ≤ x ∧ x < 64) (fun _ => by simp) fun hthere => c_ind (P := fun x : Int => -1 ≤ x ∧ x < 64) (fun _ => by simp) fun h => ?_
  rw [N37_eq (by omega)] at h
  have hm : m ∈ N85 p := by simpa using h
  obtain ⟨th, f, t, h1, h2, h3, h4, h5, h6, h7, h8, h9, h10⟩ := N85_mem hp.v0 hm
  rw [h3, h4]
  rw [wi64 (n := (t : Int)) (by omega) (by omega)]
  refine c_ind (P := fun x : Int => -1 ≤ x ∧ x < 64) (fun _ => by omega) fun _ => c_ind (P := fun x : Int => -1 ≤ x ∧ x < 64) (fun hk => c_ind (P := fun x : Int => -1 ≤ x ∧ x < 64) (fun hd => ?_) fun _ => by simp) fun _ => by simp
  have hd : (f : Int).tmod 8 ≠ (t : Int).tmod 8 := by simpa using hd
  have hto : (N197 (p, own p, oth p) f).getLsbD t = true := by
    unfold N177 at h10
    rw [hk, cond_true, BitVec.getLsbD_and] at h10
    exact (Bool.and_eq_true _ _ ▸ h10).1
  have hat := pawn_side hp th.1 rfl h1 h2 hd hto
  have h0 := hp.t0
  have ht := th.1
  have : p.turn = 0 ∨ p.turn = 1 := by omega
  rcases this with e | e
  · rw [e] at hat
    have := pawn_up ⟨f, h1⟩ ⟨t, h2⟩ hat
    simp only at this
    rw [e]
    unfold N90
    rw [show wr .u8 (1 - 0) = 1 from by decide, wi64 (n := (t : Int) - 8) (by omega) (by omega)]
    show -1 ≤ (t : Int) - 8 ∧ (t : Int) - 8 < 64
    omega
  · rw [e] at hat
    have := pawn_dn ⟨f, h1⟩ ⟨t, h2⟩ hat
    simp only at this
    rw [e]
    unfold N90
    rw [show wr .u8 (1 - 1) = 0 from by decide, wi64 (n := (t : Int) + 8) (by omega) (by omega)]
    show -1 ≤ (t : Int) + 8 ∧ (t : Int) + 8 < 64
    omega
theorem N145_in (p : Pos) (m : Mv) : -1 ≤ N145 p m ∧ N145 p m ≤ 1 := by
  unfold N145
  repeat' (first | (constructor <;> decide) | refine c_ind (P := fun x : Int => -1 ≤ x ∧ x ≤ 1) (fun _ => ?_) (fun _ => ?_))
theorem t91 (p : Pos) (m : Mv) : ok91 p m = true := by
  unfold ok91
  refine c_true (fun _ => rfl) fun h => a_true ?_ fun _ => rfl
  have h1 := N145_in p m
  have h : ¬ N145 p m < 0 := by simpa using h
  show (decide (0 ≤ N145 p m) && decide (N145 p m < 2)) = true
  simp
  omega
theorem N91_in {p : Pos} (h0 : 0 ≤ p.turn) (ht : p.turn ≤ 1) (m : Mv) : 0 ≤ (N91 p m).1 ∧ (N91 p m).1 < 64 ∧ 0 ≤ (N91 p m).2.1 ∧ (N91 p m).2.1 < 64 := by
  have h1 := N145_in p m
  unfold N91
  refine c_ind (P := fun x : Int × Int × Bool => 0 ≤ x.1 ∧ x.1 < 64 ∧ 0 ≤ x.2.1 ∧ x.2.1 < 64) (fun _ => by simp) fun h => ?_
  have h : ¬ N145 p m < 0 := by simpa using h
  rw [N140_eq h0 ht]
  show 0 ≤ wr .i64 (56 * p.turn + _) ∧ _
  have e : N145 p m = 0 ∨ N145 p m = 1 := by omega
  have e' : N145 ⟨p.variant, p.board, p.promoted, p.pockets, p.turn, p.rooks, p.passing, p.checks, p.half, p.full⟩ ⟨m.frm, m.to, m.pro, m.drp, m.cas⟩ = N145 p m := rfl
  rw [e']
  have e2 : p.turn = 0 ∨ p.turn = 1 := by omega
  rcases e with e | e <;> rcases e2 with e2 | e2 <;> rw [e, e2] <;> decide
theorem t92 {p : Pos} {b c : Int} (hb : 0 ≤ b) (hc : 0 ≤ c) : ok92 p b c = true := by
  unfold ok92
  refine c_true (fun _ => rfl) fun h => ?_
  have h : N147 b c = true := by simpa using h
  have hin : b ≤ 1 ∧ 1 ≤ c ∧ c ≤ 5 := by
    revert h
    unfold N147
    refine c_ind (P := fun x : Bool => x = true → _) (fun h1 => c_ind (P := fun x : Bool => x = true → _) (fun h2 h3 => ?_) fun _ h => by cases h) fun _ h => by cases h
    simp only [decide_eq_true_eq] at h1 h2 h3
    omega
  have a1 : (decide (0 ≤ b) && decide (b < 2)) = true := by simp; omega
  have a2 : (decide (0 ≤ c) && decide (c < 6)) = true := by simp; omega
  repeat' (first | with_reducible rfl | with_reducible exact a1 | with_reducible exact a2 | refine a_true ?_ (fun _ => ?_) | refine c_true (fun _ => ?_) (fun _ => ?_))
theorem t95 {p : Pos} {b c : Int} (hb : 0 ≤ b) (hc : 0 ≤ c) : ok95 p b c = true := by
  unfold ok95
  refine c_true (fun h => ?_) fun _ => rfl
  have hin : b ≤ 1 ∧ 1 ≤ c ∧ c ≤ 5 := by
    revert h
    unfold N147
    refine c_ind (P := fun x : Bool => x = true → _) (fun h1 => c_ind (P := fun x : Bool => x = true → _) (fun h2 h3 => ?_) fun _ h => by cases h) fun _ h => by cases h
    simp only [decide_eq_true_eq] at h1 h2 h3
    omega
  have a1 : (decide (0 ≤ b) && decide (b < 2)) = true := by simp; omega
  have a2 : (decide (0 ≤ c) && decide (c < 6)) = true := by simp; omega
  repeat' (first | with_reducible rfl | with_reducible exact a1 | with_reducible exact a2 | refine a_true ?_ (fun _ => ?_) | refine c_true (fun _ => ?_) (fun _ => ?_))
theorem t97 (p : Pos) (s : Int) : ok97 p s = true := by
  unfold ok97
  repeat' (first | with_reducible rfl | with_reducible exact t149 _ | with_reducible exact t143 _ | with_reducible exact t101 _ _ _ | refine a_true ?_ (fun _ => ?_) | refine c_true (fun _ => ?_) (fun _ => ?_))
theorem N89_in {v : Int} (h : 0 ≤ v) : 0 ≤ N89 v := by
  unfold N89
  exact c_ind (P := fun x : Int => 0 ≤ x) (fun _ => by simp) fun _ => Int.tmod_nonneg _ h
end Kz
end
section
namespace Kz
open Go Go.RowKit Go.Proofs
set_option maxRecDepth 100000
set_option maxHeartbeats 4000000
noncomputable def K102 : List (Nat × List (Nat × List Nat)) := [(102, [(0, (rn 1 7 [])), (1, [1, 2, 3, 5, 6, 7]), (2, (0 :: 1 :: (rn 3 5 []))), (3, (0 :: 1 :: (rn 3 5 [])))])]
noncomputable def B102 : Base := baseOf Pz (fun f i => lkK f i K102) [] [] []
theorem hB102 : BOk B102 := base_ok named_z trivial trivial trivial
noncomputable def N102 (a : Int) : Int := (bif decide (a ≥ 10000) then (a) else (wr .i64 (a + 1)))
noncomputable def ok102 (a : Int) : Bool := true
theorem E102 (a : Int) : evPure B102 14 102 [.int .i64 a] = Tr.br (decide (a ≥ 10000)) (Tr.ret (AV.int .i64 a)) (Tr.ret (AV.int .i64 (wr .i64 (a + 1)))) := by kernel_rfl
theorem P102 (a : Int) (h : ok102 a = true) : PS Pz 102 [.int .i64 a] ((dI .i64).res (N102 a)) := ps_gotR hB102 (E102 a) (gr_br2 (gr_ret rfl) (gr_ret rfl)) h
noncomputable def G102 : List AV → Tr AV := g1 (dI .i64) (fun a => sure Pz 102 [.int .i64 a] ((dI .i64).res (N102 a)))
theorem s102 : Sound Pz 102 G102 := sound1 (fun _ => at_sure)
end Kz
end
