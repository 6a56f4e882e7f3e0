/- Part 6 of the texts under the proof: an abstract interpreter, the summaries of functions, plain laws. -/
import Derived.Test.YteikclocoolghaaGreatDoorQ5
set_option linter.unusedSectionVars false
set_option linter.unusedVariables false
set_option linter.unusedSimpArgs false
set_option linter.unnecessarySimpa false
section
namespace Kz
open Go Go.RowKit Go.Proofs
set_option maxRecDepth 100000
set_option maxHeartbeats 4000000
noncomputable def K87 : List (Nat × List (Nat × List Nat)) := [(87, [(0, (1 :: 2 :: (rn 5 33 (rn 40 20 [])))), (1, (1 :: 2 :: (rn 6 32 (rn 40 20 [])))), (2, (1 :: 2 :: 3 :: (rn 6 5 (rn 13 25 (rn 40 20 []))))), (3, (1 :: 2 :: 3 :: (rn 6 5 (rn 14 24 (rn 40 20 []))))), (4, (1 :: 2 :: 3 :: 8 :: 9 :: 10 :: (rn 13 25 (rn 40 20 [])))), (5, (1 :: 2 :: 3 :: 8 :: 9 :: 10 :: (rn 13 25 (rn 40 20 [])))), (6, (1 :: 2 :: 3 :: 8 :: 9 :: 10 :: (rn 13 25 (rn 40 20 [])))), (7, (1 :: 2 :: 3 :: (rn 7 4 (rn 13 25 (rn 41 19 []))))), (8, (1 :: 2 :: 3 :: 7 :: 9 :: 10 :: (rn 13 25 (rn 40 20 [])))), (9, (1 :: 2 :: 3 :: 7 :: 9 :: 10 :: (rn 13 25 (rn 40 5 (rn 46 14 []))))), (10, (1 :: 2 :: 3 :: 7 :: 9 :: 10 :: (rn 13 25 (rn 40 20 [])))), (11, (1 :: 2 :: 3 :: (rn 6 5 (rn 13 25 (rn 40 20 []))))), (12, (1 :: 2 :: 3 :: (rn 6 5 (rn 13 25 (rn 40 20 []))))), (13, (rn 0 4 (rn 5 55 [])))])]
noncomputable def B87_1 : Base := baseOf Pz (fun f i => lkK f i K87) [(109, G109), (144, G144), (145, G145)] [] []
theorem hB87_1 : BOk B87_1 := base_ok named_z ⟨s109, s144, s145, trivial⟩ trivial trivial
noncomputable def S87_1 (p1 : Int) (p2 : (List Int)) (x : (Int × Pos)) : St := St.mk (AV.int .u8 p1 :: (an 3 (AV.ptr 1 0 :: AV.ptr 2 0 :: (an 5 (AV.agg [AV.ints .u8 8 p2] :: AV.int .i64 x.fst :: (an 47 [])))))) (Hp.mk [[AV.ints .u8 8 p2], [AV.int .u8 0, AV.ints .u8 64 (List.replicate 64 0), AV.u64 0, AV.ints .u8 12 (List.replicate 12 0), AV.int .u8 0, AV.ints .i8 4 (List.replicate 4 0), AV.int .i8 0, AV.ints .u8 2 (List.replicate 2 0), AV.int .i64 0, AV.int .i64 0], (pc x.snd [])] [] [] 0 0 0)
noncomputable def O87_1 (p1 : Int) (p2 : (List Int)) : (Int × Bool × Pos) → Out := fun y => .exit 0 (St.mk (AV.int .u8 p1 :: (an 3 (AV.ptr 1 0 :: AV.ptr 2 0 :: (an 5 (AV.agg [AV.ints .u8 8 p2] :: AV.int .i64 y.fst :: AV.bool y.snd.fst :: (an 46 [])))))) (Hp.mk [[AV.ints .u8 8 p2], [AV.int .u8 0, AV.ints .u8 64 (List.replicate 64 0), AV.u64 0, AV.ints .u8 12 (List.replicate 12 0), AV.int .u8 0, AV.ints .i8 4 (List.replicate 4 0), AV.int .i8 0, AV.ints .u8 2 (List.replicate 2 0), AV.int .i64 0, AV.int .i64 0], (pc y.snd.snd [])] [] [] 0 0 0))
noncomputable def st87_1 (p1 : Int) (p2 : (List Int)) (x : (Int × Pos)) : Stp (Int × Pos) ((Int × Bool × Pos)) := (bif decide (x.fst < 8) then (bif N109 p1 then (bif p2.getD x.fst.toNat 0 == 4 then (bif decide (x.snd.rooks.getD 1 0 < 0) then (Stp.go (wr .i64 (x.fst + 1), Pos.mk x.snd.variant ((((x.snd.board.set (scale 1 x.fst).toNat (p2.getD x.fst.toNat 0)).set (scale 1 (wr .i64 (8 + x.fst))).toNat 1).set (scale 1 (wr .i64 (56 + x.fst))).toNat (N145 (p2.getD x.fst.toNat 0))).set (scale 1 (wr .i64 (48 + x.fst))).toNat (N145 1)) x.snd.promoted x.snd.pockets x.snd.turn ((x.snd.rooks.set 1 (wr .i8 x.fst)).set 3 (wr .i8 x.fst)) x.snd.passing x.snd.checks x.snd.half x.snd.full)) else (Stp.go (wr .i64 (x.fst + 1), Pos.mk x.snd.variant ((((x.snd.board.set (scale 1 x.fst).toNat (p2.getD x.fst.toNat 0)).set (scale 1 (wr .i64 (8 + x.fst))).toNat 1).set (scale 1 (wr .i64 (56 + x.fst))).toNat (N145 (p2.getD x.fst.toNat 0))).set (scale 1 (wr .i64 (48 + x.fst))).toNat (N145 1)) x.snd.promoted x.snd.pockets x.snd.turn ((x.snd.rooks.set 0 (wr .i8 x.fst)).set 2 (wr .i8 x.fst)) x.snd.passing x.snd.checks x.snd.half x.snd.full))) else (Stp.go (wr .i64 (x.fst + 1), Pos.mk x.snd.variant ((((x.snd.board.set (scale 1 x.fst).toNat (p2.getD x.fst.toNat 0)).set (scale 1 (wr .i64 (8 + x.fst))).toNat 1).set (scale 1 (wr .i64 (56 + x.fst))).toNat (N145 (p2.getD x.fst.toNat 0))).set (scale 1 (wr .i64 (48 + x.fst))).toNat (N145 1)) x.snd.promoted x.snd.pockets x.snd.turn x.snd.rooks x.snd.passing x.snd.checks x.snd.half x.snd.full))) else (Stp.go (wr .i64 (x.fst + 1), Pos.mk x.snd.variant ((((x.snd.board.set (scale 1 x.fst).toNat (p2.getD x.fst.toNat 0)).set (scale 1 (wr .i64 (8 + x.fst))).toNat 1).set (scale 1 (wr .i64 (56 + x.fst))).toNat (N145 (p2.getD x.fst.toNat 0))).set (scale 1 (wr .i64 (48 + x.fst))).toNat (N145 1)) x.snd.promoted x.snd.pockets x.snd.turn x.snd.rooks x.snd.passing x.snd.checks x.snd.half x.snd.full))) else (Stp.out ((x.fst, decide (x.fst < 8), x.snd))))
noncomputable def okL87_1 (p1 : Int) (p2 : (List Int)) (x : (Int × Pos)) : Bool := (bif decide (x.fst < 8) then (decide (0 ≤ x.fst) && decide (x.fst < Int.ofNat 8) && (decide (0 ≤ x.fst) && decide (x.fst < Int.ofNat 64) && (decide (0 ≤ wr .i64 (8 + x.fst)) && decide (wr .i64 (8 + x.fst) < Int.ofNat 64) && (decide (0 ≤ wr .i64 (56 + x.fst)) && decide (wr .i64 (56 + x.fst) < Int.ofNat 64) && (decide (0 ≤ wr .i64 (48 + x.fst)) && decide (wr .i64 (48 + x.fst) < Int.ofNat 64) && (ok109 (p1) && true)))))) else true)
noncomputable def lp87_1 (p1 : Int) (p2 : (List Int)) (x : (Int × Pos)) : Option ((Int × Bool × Pos)) := itl (fun x => bif okL87_1 p1 p2 x then st87_1 p1 p2 x else .bad) many x
theorem E87_1 (p1 : Int) (p2 : (List Int)) (x : (Int × Pos)) : evC (envAt B87_1 12) (evL B87_1 12) 87 (bodL Pz 87 3) (S87_1 p1 p2 x) = (let z1 := [AV.int .u8 0, AV.ints .u8 64 (List.replicate 64 0), AV.u64 0, AV.ints .u8 12 (List.replicate 12 0), AV.int .u8 0, AV.ints .i8 4 (List.replicate 4 0), AV.int .i8 0, AV.ints .u8 2 (List.replicate 2 0), AV.int .i64 0, AV.int .i64 0]; let z2 := ((((x.snd.board.set (scale 1 x.fst).toNat (p2.getD x.fst.toNat 0)).set (scale 1 (wr .i64 (8 + x.fst))).toNat 1).set (scale 1 (wr .i64 (56 + x.fst))).toNat (N145 (p2.getD x.fst.toNat 0))).set (scale 1 (wr .i64 (48 + x.fst))).toNat (N145 1)); let z5 := [AV.ints .u8 8 p2]; let z3 := (AV.int .u8 p1 :: (an 3 (AV.ptr 1 0 :: AV.ptr 2 0 :: (an 5 (AV.agg z5 :: AV.int .i64 (wr .i64 (x.fst + 1)) :: (an 25 (AV.int .u8 (p2.getD x.fst.toNat 0) :: AV.bool (p2.getD x.fst.toNat 0 == 4) :: (an 20 [])))))))); let z4 := (Hp.mk [z5, z1, [AV.int .u8 x.snd.variant, AV.ints .u8 64 z2, AV.u64 x.snd.promoted, AV.ints .u8 12 x.snd.pockets, AV.int .u8 x.snd.turn, AV.ints .i8 4 x.snd.rooks, AV.int .i8 x.snd.passing, AV.ints .u8 2 x.snd.checks, AV.int .i64 x.snd.half, AV.int .i64 x.snd.full]] [] [] 0 0 0); Tr.br (decide (x.fst < 8)) (Tr.br (decide (0 ≤ x.fst) && decide (x.fst < Int.ofNat 8)) (Tr.br (decide (0 ≤ x.fst) && decide (x.fst < Int.ofNat 64)) (Tr.br (decide (0 ≤ wr .i64 (8 + x.fst)) && decide (wr .i64 (8 + x.fst) < Int.ofNat 64)) (Tr.br (isPS Pz 145 [AV.int .u8 (p2.getD x.fst.toNat 0)] ((dI .u8).res (N145 (p2.getD x.fst.toNat 0)))) (Tr.br (isPS Pz 145 [AV.int .u8 1] ((dI .u8).res (N145 1))) (Tr.br (decide (0 ≤ wr .i64 (56 + x.fst)) && decide (wr .i64 (56 + x.fst) < Int.ofNat 64)) (Tr.br (decide (0 ≤ wr .i64 (48 + x.fst)) && decide (wr .i64 (48 + x.fst) < Int.ofNat 64)) (Tr.br (isPS Pz 109 [AV.int .u8 p1] (dB.res (N109 p1))) (Tr.br (N109 p1) (Tr.br (p2.getD x.fst.toNat 0 == 4) (Tr.br (decide (x.snd.rooks.getD 1 0 < 0)) (Tr.ret (Out.norm (St.mk z3 (Hp.mk [z5, z1, [AV.int .u8 x.snd.variant, AV.ints .u8 64 z2, AV.u64 x.snd.promoted, AV.ints .u8 12 x.snd.pockets, AV.int .u8 x.snd.turn, AV.ints .i8 4 ((x.snd.rooks.set 1 (wr .i8 x.fst)).set 3 (wr .i8 x.fst)), AV.int .i8 x.snd.passing, AV.ints .u8 2 x.snd.checks, AV.int .i64 x.snd.half, AV.int .i64 x.snd.full]] [] [] 0 0 0)))) (Tr.ret (Out.norm (St.mk z3 (Hp.mk [z5, z1, [AV.int .u8 x.snd.variant, AV.ints .u8 64 z2, AV.u64 x.snd.promoted, AV.ints .u8 12 x.snd.pockets, AV.int .u8 x.snd.turn, AV.ints .i8 4 ((x.snd.rooks.set 0 (wr .i8 x.fst)).set 2 (wr .i8 x.fst)), AV.int .i8 x.snd.passing, AV.ints .u8 2 x.snd.checks, AV.int .i64 x.snd.half, AV.int .i64 x.snd.full]] [] [] 0 0 0))))) (Tr.ret (Out.norm (St.mk z3 z4)))) (Tr.ret (Out.norm (St.mk (AV.int .u8 p1 :: (an 3 (AV.ptr 1 0 :: AV.ptr 2 0 :: (an 5 (AV.agg z5 :: AV.int .i64 (wr .i64 (x.fst + 1)) :: (an 25 (AV.undef :: AV.undef :: (an 20 [])))))))) z4)))) Tr.fail) Tr.fail) Tr.fail) Tr.fail) Tr.fail) Tr.fail) Tr.fail) Tr.fail) (Tr.ret (Out.exit 0 (St.mk (AV.int .u8 p1 :: (an 3 (AV.ptr 1 0 :: AV.ptr 2 0 :: (an 5 (AV.agg z5 :: AV.int .i64 x.fst :: AV.bool (decide (x.fst < 8)) :: (an 46 [])))))) (Hp.mk [z5, z1, (pc x.snd [])] [] [] 0 0 0))))) := by kernel_rfl
theorem L87_1 (p1 : Int) (p2 : (List Int)) (x : (Int × Pos)) (r : (Int × Bool × Pos)) (h : lp87_1 p1 p2 x = some r) : LSpec Pz (bodL Pz 87 3) (S87_1 p1 p2 x) (O87_1 p1 p2 r) := LSpec.itl (S := S87_1 p1 p2) (O := O87_1 p1 p2) (ok := okL87_1 p1 p2) (st := st87_1 p1 p2) hB87_1 (fun x => gr_eq (E87_1 p1 p2 x) (gr_br (gr_guard (gr_guard (gr_guard (gr_callT (P145 (p2.getD x.fst.toNat 0) rfl) (gr_callT (P145 (1) rfl) (gr_guard (gr_guard (gr_call (P109 (p1)) (gr_br2 (gr_br2 (gr_br2 (gr_ret (rl_go (wk_nrm (ks := (1 :: 2 :: 3 :: (rn 6 5 (rn 13 47 [])))) (gs := [0, 11, 12]) (b := true) rfl (by kernel_rfl)))) (gr_ret (rl_go (wk_nrm (ks := (1 :: 2 :: 3 :: (rn 6 5 (rn 13 47 [])))) (gs := [0, 11, 12]) (b := true) rfl (by kernel_rfl))))) (gr_ret (rl_go (wk_nrm (ks := (1 :: 2 :: 3 :: (rn 6 5 (rn 13 47 [])))) (gs := [0, 11, 12]) (b := true) rfl (by kernel_rfl))))) (gr_ret (rl_go (wk_nrm (ks := (1 :: 2 :: 3 :: (rn 6 5 (rn 13 47 [])))) (gs := [0, 11, 12]) (b := true) rfl (by kernel_rfl))))))))))))) (gr_ret (rl_exit rfl (wk_nrm (ks := (1 :: 2 :: 3 :: (rn 6 5 (rn 14 46 [])))) (gs := [0, 11, 12, 13]) (b := true) rfl (by kernel_rfl)))))) many x r h
noncomputable def F87_1 : Code → St → Tr Out := sureL Pz (fun s => O87_1 (tI (tT s 0)) (tN (tX (tA (tT s 11)) 0)) ((lp87_1 (tI (tT s 0)) (tN (tX (tA (tT s 11)) 0)) ((tI (tT s 12)), (Kz.Pos.mk (tI (tH s 2 0)) (tN (tH s 2 1)) (tU (tH s 2 2)) (tN (tH s 2 3)) (tI (tH s 2 4)) (tN (tH s 2 5)) (tI (tH s 2 6)) (tN (tH s 2 7)) (tI (tH s 2 8)) (tI (tH s 2 9))))).getD default))
theorem sF87_1 : ∀ b, LSound Pz b (F87_1 b) := sureL_sound
noncomputable def B87 : Base := baseOf Pz (fun f i => lkK f i K87) [(109, G109), (144, G144), (145, G145)] [(87, 3, F87_1)] []
theorem hB87 : BOk B87 := base_ok named_z ⟨s109, s144, s145, trivial⟩ ⟨sF87_1, trivial⟩ trivial
noncomputable def N87 (a : Int) (b : List Int) : Pos := ⟨(((lp87_1 a b (0, N144 a)).getD default).snd.snd.variant), (((lp87_1 a b (0, N144 a)).getD default).snd.snd.board), (((lp87_1 a b (0, N144 a)).getD default).snd.snd.promoted), (((lp87_1 a b (0, N144 a)).getD default).snd.snd.pockets), (((lp87_1 a b (0, N144 a)).getD default).snd.snd.turn), (((lp87_1 a b (0, N144 a)).getD default).snd.snd.rooks), (((lp87_1 a b (0, N144 a)).getD default).snd.snd.passing), (((lp87_1 a b (0, N144 a)).getD default).snd.snd.checks), (((lp87_1 a b (0, N144 a)).getD default).snd.snd.half), (((lp87_1 a b (0, N144 a)).getD default).snd.snd.full)⟩
noncomputable def ok87 (a : Int) (b : List Int) : Bool := ((lp87_1 a b (0, N144 a)).isSome && true)
theorem E87 (a : Int) (b : List Int) : evPure B87 14 87 [.int .u8 a, .agg [.ints .u8 8 b]] = Tr.br (isPS Pz 144 [AV.int .u8 a] (dPos.res (N144 a))) (Tr.br (isLS Pz (bodL Pz 87 3) (St.mk (AV.int .u8 a :: (an 3 (AV.ptr 1 0 :: AV.ptr 2 0 :: (an 5 (AV.agg [AV.ints .u8 8 b] :: AV.cint .i64 0 :: (an 25 (AV.undef :: AV.undef :: (an 20 [])))))))) (Hp.mk [[AV.ints .u8 8 b], [AV.cint .u8 0, AV.ints .u8 64 (List.replicate 64 0), AV.u64 0, AV.ints .u8 12 (List.replicate 12 0), AV.cint .u8 0, AV.ints .i8 4 (List.replicate 4 0), AV.cint .i8 0, AV.ints .u8 2 (List.replicate 2 0), AV.cint .i64 0, AV.cint .i64 0], (pc (N144 a) [])] [] [] 0 0 0)) (O87_1 a b ((lp87_1 a b (0, N144 a)).getD default))) (Tr.ret (AV.agg (pc ((lp87_1 a b (0, N144 a)).getD default).snd.snd []))) Tr.fail) Tr.fail := by kernel_rfl
theorem P87 (a : Int) (b : List Int) (h : ok87 a b = true) : PS Pz 87 [.int .u8 a, .agg [.ints .u8 8 b]] (dPos.res (N87 a b)) := ps_gotR hB87 (E87 a b) (gr_callT (P144 (a) rfl) (gr_loop (fun h => L87_1 (a) (b) ((0, N144 a)) _ (some_getD h)) (wk_nrm (ks := (1 :: 2 :: 3 :: (rn 6 5 (rn 13 47 [])))) (gs := [0, 11, 12]) (b := true) rfl (by kernel_rfl)) (gr_ret rfl))) h
noncomputable def G87 : List AV → Tr AV := g2 (dI .u8) (dArr .u8 8) (fun a b => sure Pz 87 [.int .u8 a, .agg [.ints .u8 8 b]] (dPos.res (N87 a b)))
theorem s87 : Sound Pz 87 G87 := sound2 (fun _ _ => at_sure)
end Kz
end
section
namespace Kz
open Go Go.RowKit Go.Proofs
set_option maxRecDepth 100000
set_option maxHeartbeats 4000000
noncomputable def K88 : List (Nat × List (Nat × List Nat)) := [(88, [(0, [1]), (1, [1])])]
noncomputable def B88 : Base := baseOf Pz (fun f i => lkK f i K88) [] [] []
theorem hB88 : BOk B88 := base_ok named_z trivial trivial trivial
noncomputable def N88  : List Int := (if 8 = 8 then ((((((((List.replicate 8 0).set 0 4).set 1 2).set 2 3).set 3 5).set 4 6).set 5 3).set 6 2).set 7 4 else List.take 0 (List.replicate 8 0) ++ ((((((((List.replicate 8 0).set 0 4).set 1 2).set 2 3).set 3 5).set 4 6).set 5 3).set 6 2).set 7 4 ++ List.drop 8 (List.replicate 8 0))
noncomputable def ok88  : Bool := true
theorem E88  : evPure B88 14 88 [] = Tr.ret (AV.agg [AV.ints .u8 8 (if 8 = 8 then ((((((((List.replicate 8 0).set 0 4).set 1 2).set 2 3).set 3 5).set 4 6).set 5 3).set 6 2).set 7 4 else List.take 0 (List.replicate 8 0) ++ ((((((((List.replicate 8 0).set 0 4).set 1 2).set 2 3).set 3 5).set 4 6).set 5 3).set 6 2).set 7 4 ++ List.drop 8 (List.replicate 8 0))]) := by kernel_rfl
theorem P88  (h : ok88  = true) : PS Pz 88 [] ((dArr .u8 8).res (N88 )) := ps_gotR hB88 (E88 ) (gr_ret rfl) h
noncomputable def G88 : List AV → Tr AV := g0  (sure Pz 88 [] ((dArr .u8 8).res (N88 )))
theorem s88 : Sound Pz 88 G88 := sound0 (at_sure)
end Kz
end
section
namespace Kz
open Go Go.RowKit Go.Proofs
set_option maxRecDepth 100000
set_option maxHeartbeats 4000000
noncomputable def K85 : List (Nat × List (Nat × List Nat)) := [(85, [(0, (rn 1 27 [])), (1, (rn 2 26 [])), (2, (rn 2 26 [])), (3, (rn 2 8 (rn 11 17 []))), (4, (rn 2 8 (rn 12 16 []))), (5, (rn 3 7 (rn 11 17 []))), (6, (rn 2 8 (rn 11 17 []))), (7, (rn 2 8 (rn 11 17 []))), (8, (rn 2 15 (rn 20 8 []))), (9, (rn 2 15 (rn 21 7 []))), (10, (2 :: 3 :: (rn 5 12 (rn 20 8 [])))), (11, (rn 2 15 (rn 20 8 []))), (12, (rn 2 15 (rn 20 8 []))), (13, (rn 1 27 []))])]
noncomputable def B85_1 : Base := baseOf Pz (fun f i => lkK f i K85) [(87, G87), (88, G88)] [] []
theorem hB85_1 : BOk B85_1 := base_ok named_z ⟨s87, s88, trivial⟩ trivial trivial
noncomputable def S85_1  (x : (Int × Pos)) : St := St.mk (AV.ptr 0 0 :: AV.ptr 1 0 :: (an 8 (AV.int .i64 x.fst :: (an 17 [])))) (Hp.mk [[AV.int .u8 0, AV.ints .u8 64 (List.replicate 64 0), AV.u64 0, AV.ints .u8 12 (List.replicate 12 0), AV.int .u8 0, AV.ints .i8 4 (List.replicate 4 0), AV.int .i8 0, AV.ints .u8 2 (List.replicate 2 0), AV.int .i64 0, AV.int .i64 0], (pc x.snd [])] [] [] 0 0 0)
noncomputable def O85_1  : (Int × Bool × Pos) → Out := fun y => .exit 0 (St.mk (AV.ptr 0 0 :: AV.ptr 1 0 :: (an 8 (AV.int .i64 y.fst :: AV.bool y.snd.fst :: (an 16 [])))) (Hp.mk [[AV.int .u8 0, AV.ints .u8 64 (List.replicate 64 0), AV.u64 0, AV.ints .u8 12 (List.replicate 12 0), AV.int .u8 0, AV.ints .i8 4 (List.replicate 4 0), AV.int .i8 0, AV.ints .u8 2 (List.replicate 2 0), AV.int .i64 0, AV.int .i64 0], (pc y.snd.snd [])] [] [] 0 0 0))
noncomputable def st85_1  (x : (Int × Pos)) : Stp (Int × Pos) ((Int × Bool × Pos)) := (bif decide (x.fst < 32) then (Stp.go (wr .i64 (x.fst + 1), Pos.mk x.snd.variant (x.snd.board.set (scale 1 x.fst).toNat 1) x.snd.promoted x.snd.pockets x.snd.turn x.snd.rooks x.snd.passing x.snd.checks x.snd.half x.snd.full)) else (Stp.out ((x.fst, decide (x.fst < 32), x.snd))))
noncomputable def okL85_1  (x : (Int × Pos)) : Bool := (bif decide (x.fst < 32) then (decide (0 ≤ x.fst) && decide (x.fst < Int.ofNat 64) && true) else true)
noncomputable def lp85_1  (x : (Int × Pos)) : Option ((Int × Bool × Pos)) := itl (fun x => bif okL85_1  x then st85_1  x else .bad) many x
theorem E85_1  (x : (Int × Pos)) : evC (envAt B85_1 12) (evL B85_1 12) 85 (bodL Pz 85 4) (S85_1  x) = Tr.br (decide (x.fst < 32)) (Tr.br (decide (0 ≤ x.fst) && decide (x.fst < Int.ofNat 64)) (Tr.ret (Out.norm (St.mk (AV.ptr 0 0 :: AV.ptr 1 0 :: (an 8 (AV.int .i64 (wr .i64 (x.fst + 1)) :: (an 17 [])))) (Hp.mk [[AV.int .u8 0, AV.ints .u8 64 (List.replicate 64 0), AV.u64 0, AV.ints .u8 12 (List.replicate 12 0), AV.int .u8 0, AV.ints .i8 4 (List.replicate 4 0), AV.int .i8 0, AV.ints .u8 2 (List.replicate 2 0), AV.int .i64 0, AV.int .i64 0], [AV.int .u8 x.snd.variant, AV.ints .u8 64 (x.snd.board.set (scale 1 x.fst).toNat 1), AV.u64 x.snd.promoted, AV.ints .u8 12 x.snd.pockets, AV.int .u8 x.snd.turn, AV.ints .i8 4 x.snd.rooks, AV.int .i8 x.snd.passing, AV.ints .u8 2 x.snd.checks, AV.int .i64 x.snd.half, AV.int .i64 x.snd.full]] [] [] 0 0 0)))) Tr.fail) (Tr.ret (Out.exit 0 (St.mk (AV.ptr 0 0 :: AV.ptr 1 0 :: (an 8 (AV.int .i64 x.fst :: AV.bool (decide (x.fst < 32)) :: (an 16 [])))) (Hp.mk [[AV.int .u8 0, AV.ints .u8 64 (List.replicate 64 0), AV.u64 0, AV.ints .u8 12 (List.replicate 12 0), AV.int .u8 0, AV.ints .i8 4 (List.replicate 4 0), AV.int .i8 0, AV.ints .u8 2 (List.replicate 2 0), AV.int .i64 0, AV.int .i64 0], (pc x.snd [])] [] [] 0 0 0)))) := by kernel_rfl
theorem L85_1  (x : (Int × Pos)) (r : (Int × Bool × Pos)) (h : lp85_1  x = some r) : LSpec Pz (bodL Pz 85 4) (S85_1  x) (O85_1  r) := LSpec.itl (S := S85_1 ) (O := O85_1 ) (ok := okL85_1 ) (st := st85_1 ) hB85_1 (fun x => gr_eq (E85_1  x) (gr_br (gr_guard (gr_ret (rl_go (wk_nrm (ks := (rn 2 8 (rn 11 17 []))) (gs := [10]) (b := true) rfl (by kernel_rfl))))) (gr_ret (rl_exit rfl (wk_nrm (ks := (rn 2 8 (rn 12 16 []))) (gs := [10, 11]) (b := true) rfl (by kernel_rfl)))))) many x r h
noncomputable def F85_1 : Code → St → Tr Out := sureL Pz (fun s => O85_1  ((lp85_1  ((tI (tT s 10)), (Kz.Pos.mk (tI (tH s 1 0)) (tN (tH s 1 1)) (tU (tH s 1 2)) (tN (tH s 1 3)) (tI (tH s 1 4)) (tN (tH s 1 5)) (tI (tH s 1 6)) (tN (tH s 1 7)) (tI (tH s 1 8)) (tI (tH s 1 9))))).getD default))
theorem sF85_1 : ∀ b, LSound Pz b (F85_1 b) := sureL_sound
noncomputable def B85_2 : Base := baseOf Pz (fun f i => lkK f i K85) [(87, G87), (88, G88)] [(85, 4, F85_1)] []
theorem hB85_2 : BOk B85_2 := base_ok named_z ⟨s87, s88, trivial⟩ ⟨sF85_1, trivial⟩ trivial
noncomputable def S85_2  (x : (Int × Pos)) : St := St.mk (AV.ptr 0 0 :: AV.ptr 1 0 :: (an 15 (AV.vlist true [AV.cint .i64 33, AV.cint .i64 34, AV.cint .i64 37, AV.cint .i64 38] :: AV.cint .i64 (Int.ofNat 4) :: AV.int .i64 x.fst :: (an 8 [])))) (Hp.mk [[AV.int .u8 0, AV.ints .u8 64 (List.replicate 64 0), AV.u64 0, AV.ints .u8 12 (List.replicate 12 0), AV.int .u8 0, AV.ints .i8 4 (List.replicate 4 0), AV.int .i8 0, AV.ints .u8 2 (List.replicate 2 0), AV.int .i64 0, AV.int .i64 0], (pc x.snd [])] [] [] 0 0 0)
noncomputable def O85_2  : (Int × Bool × Pos) → Out := fun y => .exit 2 (St.mk (AV.ptr 0 0 :: AV.ptr 1 0 :: (an 15 (AV.vlist true [AV.cint .i64 33, AV.cint .i64 34, AV.cint .i64 37, AV.cint .i64 38] :: AV.cint .i64 (Int.ofNat 4) :: AV.int .i64 y.fst :: AV.bool y.snd.fst :: (an 7 [])))) (Hp.mk [[AV.int .u8 0, AV.ints .u8 64 (List.replicate 64 0), AV.u64 0, AV.ints .u8 12 (List.replicate 12 0), AV.int .u8 0, AV.ints .i8 4 (List.replicate 4 0), AV.int .i8 0, AV.ints .u8 2 (List.replicate 2 0), AV.int .i64 0, AV.int .i64 0], (pc y.snd.snd [])] [] [] 0 0 0))
noncomputable def st85_2  (x : (Int × Pos)) : Stp (Int × Pos) ((Int × Bool × Pos)) := (bif decide (x.fst < Int.ofNat 4) then (bif x.fst == Int.ofNat 0 then (Stp.go (wr .i64 (x.fst + 1), Pos.mk x.snd.variant (x.snd.board.set 33 1) x.snd.promoted x.snd.pockets x.snd.turn x.snd.rooks x.snd.passing x.snd.checks x.snd.half x.snd.full)) else (bif x.fst == Int.ofNat 1 then (Stp.go (wr .i64 (x.fst + 1), Pos.mk x.snd.variant (x.snd.board.set 34 1) x.snd.promoted x.snd.pockets x.snd.turn x.snd.rooks x.snd.passing x.snd.checks x.snd.half x.snd.full)) else (bif x.fst == Int.ofNat 2 then (Stp.go (wr .i64 (x.fst + 1), Pos.mk x.snd.variant (x.snd.board.set 37 1) x.snd.promoted x.snd.pockets x.snd.turn x.snd.rooks x.snd.passing x.snd.checks x.snd.half x.snd.full)) else (Stp.go (wr .i64 (x.fst + 1), Pos.mk x.snd.variant (x.snd.board.set 38 1) x.snd.promoted x.snd.pockets x.snd.turn x.snd.rooks x.snd.passing x.snd.checks x.snd.half x.snd.full))))) else (Stp.out ((x.fst, decide (x.fst < Int.ofNat 4), x.snd))))
noncomputable def okL85_2  (x : (Int × Pos)) : Bool := (bif decide (x.fst < Int.ofNat 4) then (decide (0 ≤ x.fst) && decide (x.fst < Int.ofNat 4) && (bif x.fst == Int.ofNat 0 then true else (bif x.fst == Int.ofNat 1 then true else (bif x.fst == Int.ofNat 2 then true else (x.fst == Int.ofNat 3 && true))))) else true)
noncomputable def lp85_2  (x : (Int × Pos)) : Option ((Int × Bool × Pos)) := itl (fun x => bif okL85_2  x then st85_2  x else .bad) many x
theorem E85_2  (x : (Int × Pos)) : evC (envAt B85_2 12) (evL B85_2 12) 85 (bodL Pz 85 9) (S85_2  x) = (let z1 := [AV.int .u8 0, AV.ints .u8 64 (List.replicate 64 0), AV.u64 0, AV.ints .u8 12 (List.replicate 12 0), AV.int .u8 0, AV.ints .i8 4 (List.replicate 4 0), AV.int .i8 0, AV.ints .u8 2 (List.replicate 2 0), AV.int .i64 0, AV.int .i64 0]; let z2 := (AV.ptr 0 0 :: AV.ptr 1 0 :: (an 15 (AV.vlist true [AV.cint .i64 33, AV.cint .i64 34, AV.cint .i64 37, AV.cint .i64 38] :: AV.cint .i64 (Int.ofNat 4) :: AV.int .i64 (wr .i64 (x.fst + 1)) :: (an 8 [])))); Tr.br (decide (x.fst < Int.ofNat 4)) (Tr.br (decide (0 ≤ x.fst) && decide (x.fst < Int.ofNat 4)) (Tr.br (x.fst == Int.ofNat 0) (Tr.ret (Out.norm (St.mk z2 (Hp.mk [z1, [AV.int .u8 x.snd.variant, AV.ints .u8 64 (x.snd.board.set 33 1), AV.u64 x.snd.promoted, AV.ints .u8 12 x.snd.pockets, AV.int .u8 x.snd.turn, AV.ints .i8 4 x.snd.rooks, AV.int .i8 x.snd.passing, AV.ints .u8 2 x.snd.checks, AV.int .i64 x.snd.half, AV.int .i64 x.snd.full]] [] [] 0 0 0)))) (Tr.br (x.fst == Int.ofNat 1) (Tr.ret (Out.norm (St.mk z2 (Hp.mk [z1, [AV.int .u8 x.snd.variant, AV.ints .u8 64 (x.snd.board.set 34 1), AV.u64 x.snd.promoted, AV.ints .u8 12 x.snd.pockets, AV.int .u8 x.snd.turn, AV.ints .i8 4 x.snd.rooks, AV.int .i8 x.snd.passing, AV.ints .u8 2 x.snd.checks, AV.int .i64 x.snd.half, AV.int .i64 x.snd.full]] [] [] 0 0 0)))) (Tr.br (x.fst == Int.ofNat 2) (Tr.ret (Out.norm (St.mk z2 (Hp.mk [z1, [AV.int .u8 x.snd.variant, AV.ints .u8 64 (x.snd.board.set 37 1), AV.u64 x.snd.promoted, AV.ints .u8 12 x.snd.pockets, AV.int .u8 x.snd.turn, AV.ints .i8 4 x.snd.rooks, AV.int .i8 x.snd.passing, AV.ints .u8 2 x.snd.checks, AV.int .i64 x.snd.half, AV.int .i64 x.snd.full]] [] [] 0 0 0)))) (Tr.br (x.fst == Int.ofNat 3) (Tr.ret (Out.norm (St.mk z2 (Hp.mk [z1, [AV.int .u8 x.snd.variant, AV.ints .u8 64 (x.snd.board.set 38 1), AV.u64 x.snd.promoted, AV.ints .u8 12 x.snd.pockets, AV.int .u8 x.snd.turn, AV.ints .i8 4 x.snd.rooks, AV.int .i8 x.snd.passing, AV.ints .u8 2 x.snd.checks, AV.int .i64 x.snd.half, AV.int .i64 x.snd.full]] [] [] 0 0 0)))) Tr.fail)))) Tr.fail) (Tr.ret (Out.exit 2 (St.mk (AV.ptr 0 0 :: AV.ptr 1 0 :: (an 15 (AV.vlist true [AV.cint .i64 33, AV.cint .i64 34, AV.cint .i64 37, AV.cint .i64 38] :: AV.cint .i64 (Int.ofNat 4) :: AV.int .i64 x.fst :: AV.bool (decide (x.fst < Int.ofNat 4)) :: (an 7 [])))) (Hp.mk [z1, (pc x.snd [])] [] [] 0 0 0))))) := by kernel_rfl
theorem L85_2  (x : (Int × Pos)) (r : (Int × Bool × Pos)) (h : lp85_2  x = some r) : LSpec Pz (bodL Pz 85 9) (S85_2  x) (O85_2  r) := LSpec.itl (S := S85_2 ) (O := O85_2 ) (ok := okL85_2 ) (st := st85_2 ) hB85_2 (fun x => gr_eq (E85_2  x) (gr_br (gr_guard (gr_br (gr_ret (rl_go (wk_nrm (ks := (rn 2 15 (rn 20 8 []))) (gs := [19]) (b := true) rfl (by kernel_rfl)))) (gr_br (gr_ret (rl_go (wk_nrm (ks := (rn 2 15 (rn 20 8 []))) (gs := [19]) (b := true) rfl (by kernel_rfl)))) (gr_br (gr_ret (rl_go (wk_nrm (ks := (rn 2 15 (rn 20 8 []))) (gs := [19]) (b := true) rfl (by kernel_rfl)))) (gr_guard (gr_ret (rl_go (wk_nrm (ks := (rn 2 15 (rn 20 8 []))) (gs := [19]) (b := true) rfl (by kernel_rfl))))))))) (gr_ret (rl_exit rfl (wk_nrm (ks := (rn 2 15 (rn 21 7 []))) (gs := [19, 20]) (b := true) rfl (by kernel_rfl)))))) many x r h
noncomputable def F85_2 : Code → St → Tr Out := sureL Pz (fun s => O85_2  ((lp85_2  ((tI (tT s 19)), (Kz.Pos.mk (tI (tH s 1 0)) (tN (tH s 1 1)) (tU (tH s 1 2)) (tN (tH s 1 3)) (tI (tH s 1 4)) (tN (tH s 1 5)) (tI (tH s 1 6)) (tN (tH s 1 7)) (tI (tH s 1 8)) (tI (tH s 1 9))))).getD default))
theorem sF85_2 : ∀ b, LSound Pz b (F85_2 b) := sureL_sound
noncomputable def B85 : Base := baseOf Pz (fun f i => lkK f i K85) [(87, G87), (88, G88)] [(85, 4, F85_1), (85, 9, F85_2)] []
theorem hB85 : BOk B85 := base_ok named_z ⟨s87, s88, trivial⟩ ⟨sF85_1, sF85_2, trivial⟩ trivial
noncomputable def N85  : Pos := ⟨(((lp85_2 (0, ((lp85_1 (0, Pos.mk (N87 7 N88).variant (N87 7 N88).board (N87 7 N88).promoted (N87 7 N88).pockets (N87 7 N88).turn (List.take 0 (N87 7 N88).rooks ++ ((List.replicate 2 0).set 0 (-1)).set 1 (-1) ++ List.drop 2 (N87 7 N88).rooks) (N87 7 N88).passing (N87 7 N88).checks (N87 7 N88).half (N87 7 N88).full)).getD default).snd.snd)).getD default).snd.snd.variant), (((lp85_2 (0, ((lp85_1 (0, Pos.mk (N87 7 N88).variant (N87 7 N88).board (N87 7 N88).promoted (N87 7 N88).pockets (N87 7 N88).turn (List.take 0 (N87 7 N88).rooks ++ ((List.replicate 2 0).set 0 (-1)).set 1 (-1) ++ List.drop 2 (N87 7 N88).rooks) (N87 7 N88).passing (N87 7 N88).checks (N87 7 N88).half (N87 7 N88).full)).getD default).snd.snd)).getD default).snd.snd.board), (((lp85_2 (0, ((lp85_1 (0, Pos.mk (N87 7 N88).variant (N87 7 N88).board (N87 7 N88).promoted (N87 7 N88).pockets (N87 7 N88).turn (List.take 0 (N87 7 N88).rooks ++ ((List.replicate 2 0).set 0 (-1)).set 1 (-1) ++ List.drop 2 (N87 7 N88).rooks) (N87 7 N88).passing (N87 7 N88).checks (N87 7 N88).half (N87 7 N88).full)).getD default).snd.snd)).getD default).snd.snd.promoted), (((lp85_2 (0, ((lp85_1 (0, Pos.mk (N87 7 N88).variant (N87 7 N88).board (N87 7 N88).promoted (N87 7 N88).pockets (N87 7 N88).turn (List.take 0 (N87 7 N88).rooks ++ ((List.replicate 2 0).set 0 (-1)).set 1 (-1) ++ List.drop 2 (N87 7 N88).rooks) (N87 7 N88).passing (N87 7 N88).checks (N87 7 N88).half (N87 7 N88).full)).getD default).snd.snd)).getD default).snd.snd.pockets), (((lp85_2 (0, ((lp85_1 (0, Pos.mk (N87 7 N88).variant (N87 7 N88).board (N87 7 N88).promoted (N87 7 N88).pockets (N87 7 N88).turn (List.take 0 (N87 7 N88).rooks ++ ((List.replicate 2 0).set 0 (-1)).set 1 (-1) ++ List.drop 2 (N87 7 N88).rooks) (N87 7 N88).passing (N87 7 N88).checks (N87 7 N88).half (N87 7 N88).full)).getD default).snd.snd)).getD default).snd.snd.turn), (((lp85_2 (0, ((lp85_1 (0, Pos.mk (N87 7 N88).variant (N87 7 N88).board (N87 7 N88).promoted (N87 7 N88).pockets (N87 7 N88).turn (List.take 0 (N87 7 N88).rooks ++ ((List.replicate 2 0).set 0 (-1)).set 1 (-1) ++ List.drop 2 (N87 7 N88).rooks) (N87 7 N88).passing (N87 7 N88).checks (N87 7 N88).half (N87 7 N88).full)).getD default).snd.snd)).getD default).snd.snd.rooks), (((lp85_2 (0, ((lp85_1 (0, Pos.mk (N87 7 N88).variant (N87 7 N88).board (N87 7 N88).promoted (N87 7 N88).pockets (N87 7 N88).turn (List.take 0 (N87 7 N88).rooks ++ ((List.replicate 2 0).set 0 (-1)).set 1 (-1) ++ List.drop 2 (N87 7 N88).rooks) (N87 7 N88).passing (N87 7 N88).checks (N87 7 N88).half (N87 7 N88).full)).getD default).snd.snd)).getD default).snd.snd.passing), (((lp85_2 (0, ((lp85_1 (0, Pos.mk (N87 7 N88).variant (N87 7 N88).board (N87 7 N88).promoted (N87 7 N88).pockets (N87 7 N88).turn (List.take 0 (N87 7 N88).rooks ++ ((List.replicate 2 0).set 0 (-1)).set 1 (-1) ++ List.drop 2 (N87 7 N88).rooks) (N87 7 N88).passing (N87 7 N88).checks (N87 7 N88).half (N87 7 N88).full)).getD default).snd.snd)).getD default).snd.snd.checks), (((lp85_2 (0, ((lp85_1 (0, Pos.mk (N87 7 N88).variant (N87 7 N88).board (N87 7 N88).promoted (N87 7 N88).pockets (N87 7 N88).turn (List.take 0 (N87 7 N88).rooks ++ ((List.replicate 2 0).set 0 (-1)).set 1 (-1) ++ List.drop 2 (N87 7 N88).rooks) (N87 7 N88).passing (N87 7 N88).checks (N87 7 N88).half (N87 7 N88).full)).getD default).snd.snd)).getD default).snd.snd.half), (((lp85_2 (0, ((lp85_1 (0, Pos.mk (N87 7 N88).variant (N87 7 N88).board (N87 7 N88).promoted (N87 7 N88).pockets (N87 7 N88).turn (List.take 0 (N87 7 N88).rooks ++ ((List.replicate 2 0).set 0 (-1)).set 1 (-1) ++ List.drop 2 (N87 7 N88).rooks) (N87 7 N88).passing (N87 7 N88).checks (N87 7 N88).half (N87 7 N88).full)).getD default).snd.snd)).getD default).snd.snd.full)⟩
noncomputable def ok85  : Bool := (ok87 (7) (N88) && ((lp85_1 (0, Pos.mk (N87 7 N88).variant (N87 7 N88).board (N87 7 N88).promoted (N87 7 N88).pockets (N87 7 N88).turn (List.take 0 (N87 7 N88).rooks ++ ((List.replicate 2 0).set 0 (-1)).set 1 (-1) ++ List.drop 2 (N87 7 N88).rooks) (N87 7 N88).passing (N87 7 N88).checks (N87 7 N88).half (N87 7 N88).full)).isSome && ((lp85_2 (0, ((lp85_1 (0, Pos.mk (N87 7 N88).variant (N87 7 N88).board (N87 7 N88).promoted (N87 7 N88).pockets (N87 7 N88).turn (List.take 0 (N87 7 N88).rooks ++ ((List.replicate 2 0).set 0 (-1)).set 1 (-1) ++ List.drop 2 (N87 7 N88).rooks) (N87 7 N88).passing (N87 7 N88).checks (N87 7 N88).half (N87 7 N88).full)).getD default).snd.snd)).isSome && true)))
theorem E85  : evPure B85 14 85 [] = (let z1 := ((lp85_1 (0, Pos.mk (N87 7 N88).variant (N87 7 N88).board (N87 7 N88).promoted (N87 7 N88).pockets (N87 7 N88).turn (List.take 0 (N87 7 N88).rooks ++ ((List.replicate 2 0).set 0 (-1)).set 1 (-1) ++ List.drop 2 (N87 7 N88).rooks) (N87 7 N88).passing (N87 7 N88).checks (N87 7 N88).half (N87 7 N88).full)).getD default); Tr.br (isPS Pz 88 [] ((dArr .u8 8).res N88)) (Tr.br (isPS Pz 87 [AV.int .u8 7, AV.agg [AV.ints .u8 8 N88]] (dPos.res (N87 7 N88))) (Tr.br (isLS Pz (bodL Pz 85 4) (St.mk (AV.ptr 0 0 :: AV.ptr 1 0 :: (an 8 (AV.cint .i64 0 :: (an 17 [])))) (Hp.mk [[AV.cint .u8 0, AV.ints .u8 64 (List.replicate 64 0), AV.u64 0, AV.ints .u8 12 (List.replicate 12 0), AV.cint .u8 0, AV.ints .i8 4 (List.replicate 4 0), AV.cint .i8 0, AV.ints .u8 2 (List.replicate 2 0), AV.cint .i64 0, AV.cint .i64 0], [AV.int .u8 (N87 7 N88).variant, AV.ints .u8 64 (N87 7 N88).board, AV.u64 (N87 7 N88).promoted, AV.ints .u8 12 (N87 7 N88).pockets, AV.int .u8 (N87 7 N88).turn, AV.ints .i8 4 (List.take 0 (N87 7 N88).rooks ++ ((List.replicate 2 0).set 0 (-1)).set 1 (-1) ++ List.drop 2 (N87 7 N88).rooks), AV.int .i8 (N87 7 N88).passing, AV.ints .u8 2 (N87 7 N88).checks, AV.int .i64 (N87 7 N88).half, AV.int .i64 (N87 7 N88).full]] [] [] 0 0 0)) (O85_1 z1)) (Tr.br (isLS Pz (bodL Pz 85 9) (St.mk (AV.ptr 0 0 :: AV.ptr 1 0 :: (an 15 (AV.vlist true [AV.cint .i64 33, AV.cint .i64 34, AV.cint .i64 37, AV.cint .i64 38] :: AV.cint .i64 (Int.ofNat 4) :: AV.cint .i64 0 :: (an 8 [])))) (Hp.mk [[AV.int .u8 0, AV.ints .u8 64 (List.replicate 64 0), AV.u64 0, AV.ints .u8 12 (List.replicate 12 0), AV.int .u8 0, AV.ints .i8 4 (List.replicate 4 0), AV.int .i8 0, AV.ints .u8 2 (List.replicate 2 0), AV.int .i64 0, AV.int .i64 0], (pc z1.snd.snd [])] [] [] 0 0 0)) (O85_2 ((lp85_2 (0, z1.snd.snd)).getD default))) (Tr.ret (AV.agg (pc ((lp85_2 (0, z1.snd.snd)).getD default).snd.snd []))) Tr.fail) Tr.fail) Tr.fail) Tr.fail) := by kernel_rfl
theorem P85  (h : ok85  = true) : PS Pz 85 [] (dPos.res (N85 )) := ps_gotR hB85 (E85 ) (gr_callT (P88  rfl) (gr_call (P87 (7) (N88)) (gr_loop (fun h => L85_1 ((0, Pos.mk (N87 7 N88).variant (N87 7 N88).board (N87 7 N88).promoted (N87 7 N88).pockets (N87 7 N88).turn (List.take 0 (N87 7 N88).rooks ++ ((List.replicate 2 0).set 0 (-1)).set 1 (-1) ++ List.drop 2 (N87 7 N88).rooks) (N87 7 N88).passing (N87 7 N88).checks (N87 7 N88).half (N87 7 N88).full)) _ (some_getD h)) (wk_nrm (ks := (rn 2 8 (rn 11 17 []))) (gs := [10]) (b := true) rfl (by kernel_rfl)) (gr_loop (fun h => L85_2 ((0, ((lp85_1 (0, Pos.mk (N87 7 N88).variant (N87 7 N88).board (N87 7 N88).promoted (N87 7 N88).pockets (N87 7 N88).turn (List.take 0 (N87 7 N88).rooks ++ ((List.replicate 2 0).set 0 (-1)).set 1 (-1) ++ List.drop 2 (N87 7 N88).rooks) (N87 7 N88).passing (N87 7 N88).checks (N87 7 N88).half (N87 7 N88).full)).getD default).snd.snd)) _ (some_getD h)) (wk_nrm (ks := (rn 2 15 (rn 20 8 []))) (gs := [19]) (b := true) rfl (by kernel_rfl)) (gr_ret rfl))))) h
noncomputable def G85 : List AV → Tr AV := g0  (sure Pz 85 [] (dPos.res (N85 )))
theorem s85 : Sound Pz 85 G85 := sound0 (at_sure)
end Kz
end
section
namespace Kz
open Go Go.RowKit Go.Proofs
set_option maxRecDepth 100000
set_option maxHeartbeats 4000000
noncomputable def K86 : List (Nat × List (Nat × List Nat)) := [(86, [(0, (rn 1 41 [])), (1, (rn 2 40 [])), (2, (rn 2 7 (rn 12 30 []))), (3, (rn 2 7 (rn 13 29 []))), (4, (rn 4 5 (rn 12 30 []))), (5, (rn 3 6 (rn 12 4 (rn 19 23 [])))), (6, (rn 3 6 (rn 12 4 (rn 20 22 [])))), (7, (3 :: 6 :: 7 :: 8 :: (rn 12 4 (rn 19 23 [])))), (8, (rn 3 6 (rn 12 4 (rn 19 23 [])))), (9, (rn 3 6 (rn 12 4 (rn 19 23 [])))), (10, (rn 2 7 (rn 12 30 []))), (11, (rn 1 41 []))])]
noncomputable def B86 : Base := baseOf Pz (fun f i => lkK f i K86) [(144, G144), (145, G145)] [] []
theorem hB86 : BOk B86 := base_ok named_z ⟨s144, s145, trivial⟩ trivial trivial
noncomputable def N86  : Pos := ⟨((N144 8).variant), (((((((((((((((((N144 8).board.set 0 (N145 5)).set 7 5).set 1 (N145 4)).set 6 4).set 2 (N145 3)).set 5 3).set 3 (N145 2)).set 4 2).set 8 (N145 6)).set 15 6).set 9 (N145 4)).set 14 4).set 10 (N145 3)).set 13 3).set 11 (N145 2)).set 12 2), ((N144 8).promoted), ((N144 8).pockets), ((N144 8).turn), ((N144 8).rooks), ((N144 8).passing), ((N144 8).checks), ((N144 8).half), ((N144 8).full)⟩
noncomputable def ok86  : Bool := true
theorem E86  : evPure B86 14 86 [] = Tr.br (isPS Pz 144 [AV.int .u8 8] (dPos.res (N144 8))) (Tr.br (isPS Pz 145 [AV.int .u8 5] ((dI .u8).res (N145 5))) (Tr.br (isPS Pz 145 [AV.int .u8 4] ((dI .u8).res (N145 4))) (Tr.br (isPS Pz 145 [AV.int .u8 3] ((dI .u8).res (N145 3))) (Tr.br (isPS Pz 145 [AV.int .u8 2] ((dI .u8).res (N145 2))) (Tr.br (isPS Pz 145 [AV.int .u8 6] ((dI .u8).res (N145 6))) (Tr.br (isPS Pz 145 [AV.int .u8 4] ((dI .u8).res (N145 4))) (Tr.br (isPS Pz 145 [AV.int .u8 3] ((dI .u8).res (N145 3))) (Tr.br (isPS Pz 145 [AV.int .u8 2] ((dI .u8).res (N145 2))) (Tr.ret (AV.agg [AV.int .u8 (N144 8).variant, AV.ints .u8 64 (((((((((((((((((N144 8).board.set 0 (N145 5)).set 7 5).set 1 (N145 4)).set 6 4).set 2 (N145 3)).set 5 3).set 3 (N145 2)).set 4 2).set 8 (N145 6)).set 15 6).set 9 (N145 4)).set 14 4).set 10 (N145 3)).set 13 3).set 11 (N145 2)).set 12 2), AV.u64 (N144 8).promoted, AV.ints .u8 12 (N144 8).pockets, AV.int .u8 (N144 8).turn, AV.ints .i8 4 (N144 8).rooks, AV.int .i8 (N144 8).passing, AV.ints .u8 2 (N144 8).checks, AV.int .i64 (N144 8).half, AV.int .i64 (N144 8).full])) Tr.fail) Tr.fail) Tr.fail) Tr.fail) Tr.fail) Tr.fail) Tr.fail) Tr.fail) Tr.fail := by kernel_rfl
theorem P86  (h : ok86  = true) : PS Pz 86 [] (dPos.res (N86 )) := ps_gotR hB86 (E86 ) (gr_callT (P144 (8) rfl) (gr_callT (P145 (5) rfl) (gr_callT (P145 (4) rfl) (gr_callT (P145 (3) rfl) (gr_callT (P145 (2) rfl) (gr_callT (P145 (6) rfl) (gr_callT (P145 (4) rfl) (gr_callT (P145 (3) rfl) (gr_callT (P145 (2) rfl) (gr_ret rfl)))))))))) h
noncomputable def G86 : List AV → Tr AV := g0  (sure Pz 86 [] (dPos.res (N86 )))
theorem s86 : Sound Pz 86 G86 := sound0 (at_sure)
end Kz
end
section
namespace Kz
open Go Go.RowKit Go.Proofs
set_option maxRecDepth 100000
set_option maxHeartbeats 4000000
noncomputable def K40 : List (Nat × List (Nat × List Nat)) := [(40, [(0, (1 :: (rn 3 16 []))), (1, (1 :: 3 :: (rn 5 14 []))), (2, (0 :: 1 :: (rn 4 15 []))), (3, (1 :: (rn 3 5 (rn 9 10 [])))), (4, (0 :: 1 :: (rn 4 15 []))), (5, (1 :: (rn 3 9 (rn 13 6 [])))), (6, (0 :: 1 :: (rn 4 15 []))), (7, (0 :: 1 :: (rn 4 15 [])))])]
noncomputable def B40 : Base := baseOf Pz (fun f i => lkK f i K40) [(85, G85), (86, G86), (87, G87), (88, G88)] [] []
theorem hB40 : BOk B40 := base_ok named_z ⟨s85, s86, s87, s88, trivial⟩ trivial trivial
noncomputable def N40 (a : Int) : (Pos × Bool) := (bif decide (a ≥ 9) then (⟨(0), (List.replicate 64 0), (0), (List.replicate 12 0), (0), (List.replicate 4 0), (0), (List.replicate 2 0), (0), (0)⟩, (false)) else (bif a == 7 then (⟨(N85.variant), (N85.board), (N85.promoted), (N85.pockets), (N85.turn), (N85.rooks), (N85.passing), (N85.checks), (N85.half), (N85.full)⟩, (true)) else (bif a == 8 then (⟨(N86.variant), (N86.board), (N86.promoted), (N86.pockets), (N86.turn), (N86.rooks), (N86.passing), (N86.checks), (N86.half), (N86.full)⟩, (true)) else (⟨((N87 a N88).variant), ((N87 a N88).board), ((N87 a N88).promoted), ((N87 a N88).pockets), ((N87 a N88).turn), ((N87 a N88).rooks), ((N87 a N88).passing), ((N87 a N88).checks), ((N87 a N88).half), ((N87 a N88).full)⟩, (true)))))
noncomputable def ok40 (a : Int) : Bool := (bif decide (a ≥ 9) then true else (bif a == 7 then (ok85  && true) else (bif a == 8 then true else (ok87 (a) (N88) && true))))
theorem E40 (a : Int) : evPure B40 14 40 [.int .u8 a] = Tr.br (decide (a ≥ 9)) (Tr.ret (AV.tuple [AV.agg [AV.cint .u8 0, AV.ints .u8 64 (List.replicate 64 0), AV.u64 0, AV.ints .u8 12 (List.replicate 12 0), AV.cint .u8 0, AV.ints .i8 4 (List.replicate 4 0), AV.cint .i8 0, AV.ints .u8 2 (List.replicate 2 0), AV.cint .i64 0, AV.cint .i64 0], AV.cbool false])) (Tr.br (a == 7) (Tr.br (isPS Pz 85 [] (dPos.res N85)) (Tr.ret (AV.tuple [AV.agg (pc N85 []), AV.cbool true])) Tr.fail) (Tr.br (a == 8) (Tr.br (isPS Pz 86 [] (dPos.res N86)) (Tr.ret (AV.tuple [AV.agg (pc N86 []), AV.cbool true])) Tr.fail) (Tr.br (isPS Pz 88 [] ((dArr .u8 8).res N88)) (Tr.br (isPS Pz 87 [AV.int .u8 a, AV.agg [AV.ints .u8 8 N88]] (dPos.res (N87 a N88))) (Tr.ret (AV.tuple [AV.agg (pc (N87 a N88) []), AV.cbool true])) Tr.fail) Tr.fail))) := by kernel_rfl
theorem P40 (a : Int) (h : ok40 a = true) : PS Pz 40 [.int .u8 a] ((d2 dPos dB).res (N40 a)) := ps_gotR hB40 (E40 a) (gr_br (gr_ret rfl) (gr_br (gr_call (P85 ) (gr_ret rfl)) (gr_br (gr_callT (P86  rfl) (gr_ret rfl)) (gr_callT (P88  rfl) (gr_call (P87 (a) (N88)) (gr_ret rfl)))))) h
noncomputable def G40 : List AV → Tr AV := g1 (dI .u8) (fun a => sure Pz 40 [.int .u8 a] ((d2 dPos dB).res (N40 a)))
theorem s40 : Sound Pz 40 G40 := sound1 (fun _ => at_sure)
end Kz
end
section
namespace Kz
open Go Go.RowKit Go.Proofs
set_option maxRecDepth 100000
set_option maxHeartbeats 4000000
noncomputable def K17 : List (Nat × List (Nat × List Nat)) := [(17, [(0, (rn 0 41 [45, 46, 50, 51, 57, 58, 64, 65, 70, 71, 76])), (1, (0 :: (rn 2 39 [45, 46, 50, 51, 57, 58, 64, 65, 70, 71, 76]))), (2, (0 :: 2 :: (rn 4 37 [45, 46, 50, 51, 57, 58, 64, 65, 70, 71, 76]))), (3, (0 :: 2 :: (rn 4 37 [45, 46, 50, 51, 57, 58, 64, 65, 70, 71, 76]))), (4, (0 :: 2 :: (rn 4 37 [45, 46, 50, 51, 57, 58, 64, 65, 70, 71, 76]))), (5, (0 :: 2 :: (rn 4 37 [45, 46, 50, 51, 57, 58, 64, 65, 70, 71, 76]))), (6, (0 :: 2 :: (rn 4 37 [45, 46, 50, 51, 57, 58, 64, 65, 70, 71, 76]))), (7, (0 :: 2 :: (rn 5 36 [45, 46, 50, 51, 57, 58, 64, 65, 70, 71, 76]))), (8, (0 :: 2 :: (rn 5 36 [45, 46, 50, 51, 57, 58, 64, 65, 70, 71, 76]))), (9, (0 :: 2 :: (rn 5 36 [45, 46, 50, 51, 57, 58, 64, 65, 70, 71, 76]))), (10, (0 :: 2 :: (rn 5 36 [45, 46, 50, 51, 57, 58, 64, 65, 70, 71, 76]))), (11, (0 :: 2 :: (rn 5 36 [45, 46, 50, 51, 57, 58, 64, 65, 70, 71, 76]))), (12, (0 :: 2 :: (rn 6 35 [45, 46, 50, 51, 57, 58, 64, 65, 70, 71, 76]))), (13, (0 :: 2 :: (rn 6 35 [45, 46, 50, 51, 57, 58, 64, 65, 70, 71, 76]))), (14, (0 :: 2 :: (rn 6 35 [45, 46, 50, 51, 57, 58, 64, 65, 70, 71, 76]))), (15, (0 :: 2 :: 4 :: (rn 7 34 [45, 46, 50, 51, 57, 58, 64, 65, 70, 71, 76]))), (16, (rn 1 76 []))])]
noncomputable def B17 : Base := baseOf Pz (fun f i => lkK f i K17) [(15, G15), (23, G23), (40, G40)] [] []
theorem hB17 : BOk B17 := base_ok named_z ⟨s15, s23, s40, trivial⟩ trivial trivial
noncomputable def N17  : Bool := (bif Int.ofNat 20 == 20 then (bif Int.ofNat 10 == 10 then (bif Int.ofNat 2 == 2 then (bif ((N15 (Pos.mk 4 (li [0, 0, 0, 0, 0, 0, 0, 0, 0, 0, 0, 0, 0, 0, 0, 0, 0, 0, 0, 0, 0, 0, 0, 0, 0, 0, 0, 0, 1, 0, 0, 0, 0, 0, 0, 9, 0, 9, 0, 0, 0, 0, 0, 0, 0, 0, 0, 0, 0, 0, 0, 0, 0, 0, 9, 0, 0, 0, 0, 0, 0, 0, 0, 0]) 0 (li [0, 0, 0, 0, 0, 0, 0, 0, 0, 0, 0, 0]) 0 (li [0, 0, 0, 0]) (-1) (li [0, 0]) 0 1)).getD 0 default).to == 35 then (bif ((N15 (Pos.mk 4 (li [0, 0, 0, 0, 0, 0, 0, 0, 0, 0, 0, 0, 0, 0, 0, 0, 0, 0, 0, 0, 0, 0, 0, 0, 0, 0, 0, 0, 1, 0, 0, 0, 0, 0, 0, 9, 0, 9, 0, 0, 0, 0, 0, 0, 0, 0, 0, 0, 0, 0, 0, 0, 0, 0, 9, 0, 0, 0, 0, 0, 0, 0, 0, 0]) 0 (li [0, 0, 0, 0, 0, 0, 0, 0, 0, 0, 0, 0]) 0 (li [0, 0, 0, 0]) (-1) (li [0, 0]) 0 1)).getD 1 default).to == 37 then (bif Int.ofNat 0 == 0 then (eqOut BinOp.eql ((N23 (Pos.mk 6 (li [0, 0, 0, 0, 6, 0, 0, 0, 0, 0, 0, 0, 0, 0, 0, 0, 0, 0, 0, 0, 0, 0, 0, 0, 0, 0, 0, 0, 0, 0, 0, 0, 0, 0, 0, 0, 14, 0, 0, 0, 0, 0, 0, 0, 0, 0, 0, 0, 0, 0, 0, 0, 0, 0, 0, 0, 0, 0, 0, 0, 0, 0, 0, 0]) 0 (li [0, 0, 0, 0, 0, 0, 0, 0, 0, 0, 0, 0]) 0 (li [0, 0, 0, 0]) (-1) (li [0, 0]) 0 1)).fst == 2 && ((N23 (Pos.mk 6 (li [0, 0, 0, 0, 6, 0, 0, 0, 0, 0, 0, 0, 0, 0, 0, 0, 0, 0, 0, 0, 0, 0, 0, 0, 0, 0, 0, 0, 0, 0, 0, 0, 0, 0, 0, 0, 14, 0, 0, 0, 0, 0, 0, 0, 0, 0, 0, 0, 0, 0, 0, 0, 0, 0, 0, 0, 0, 0, 0, 0, 0, 0, 0, 0]) 0 (li [0, 0, 0, 0, 0, 0, 0, 0, 0, 0, 0, 0]) 0 (li [0, 0, 0, 0]) (-1) (li [0, 0]) 0 1)).snd == 6 && true))) else (false)) else (false)) else (false)) else (false)) else (false)) else (false))
noncomputable def ok17  : Bool := (ok40 (0) && (ok15 (Pos.mk 4 (li [0, 0, 0, 0, 0, 0, 0, 0, 0, 0, 0, 0, 0, 0, 0, 0, 0, 0, 0, 0, 0, 0, 0, 0, 0, 0, 0, 0, 1, 0, 0, 0, 0, 0, 0, 9, 0, 9, 0, 0, 0, 0, 0, 0, 0, 0, 0, 0, 0, 0, 0, 0, 0, 0, 9, 0, 0, 0, 0, 0, 0, 0, 0, 0]) 0 (li [0, 0, 0, 0, 0, 0, 0, 0, 0, 0, 0, 0]) 0 (li [0, 0, 0, 0]) (-1) (li [0, 0]) 0 1) && (ok15 (Pos.mk (N40 0).fst.variant (li [4, 2, 3, 5, 6, 3, 2, 4, 1, 1, 1, 1, 1, 1, 1, 1, 0, 0, 0, 0, 0, 0, 0, 0, 0, 0, 0, 0, 0, 0, 0, 0, 0, 0, 0, 0, 0, 0, 0, 0, 0, 0, 0, 0, 0, 0, 0, 0, 9, 9, 9, 9, 9, 9, 9, 9, 12, 10, 11, 13, 14, 11, 10, 12]) (N40 0).fst.promoted (li [0, 0, 0, 0, 0, 0, 0, 0, 0, 0, 0, 0]) (N40 0).fst.turn (li [7, 0, 7, 0]) (N40 0).fst.passing (li [0, 0]) (N40 0).fst.half (N40 0).fst.full) && (bif Int.ofNat 20 == 20 then (ok15 (Pos.mk 0 (li [0, 0, 0, 0, 6, 0, 0, 0, 0, 0, 0, 0, 4, 0, 0, 0, 0, 0, 0, 0, 0, 0, 0, 0, 0, 0, 0, 0, 0, 0, 0, 0, 0, 0, 0, 0, 0, 0, 0, 0, 0, 0, 0, 0, 0, 0, 0, 0, 0, 0, 0, 0, 0, 0, 0, 0, 14, 0, 0, 0, 12, 0, 0, 0]) 0 (li [0, 0, 0, 0, 0, 0, 0, 0, 0, 0, 0, 0]) 0 (li [0, 0, 0, 0]) (-1) (li [0, 0]) 0 1) && (bif Int.ofNat 10 == 10 then (bif Int.ofNat 2 == 2 then (decide (0 ≤ 0) && decide (0 < Int.ofNat 2) && (bif ((N15 (Pos.mk 4 (li [0, 0, 0, 0, 0, 0, 0, 0, 0, 0, 0, 0, 0, 0, 0, 0, 0, 0, 0, 0, 0, 0, 0, 0, 0, 0, 0, 0, 1, 0, 0, 0, 0, 0, 0, 9, 0, 9, 0, 0, 0, 0, 0, 0, 0, 0, 0, 0, 0, 0, 0, 0, 0, 0, 9, 0, 0, 0, 0, 0, 0, 0, 0, 0]) 0 (li [0, 0, 0, 0, 0, 0, 0, 0, 0, 0, 0, 0]) 0 (li [0, 0, 0, 0]) (-1) (li [0, 0]) 0 1)).getD 0 default).to == 35 then (decide (0 ≤ 1) && decide (1 < Int.ofNat 2) && (bif ((N15 (Pos.mk 4 (li [0, 0, 0, 0, 0, 0, 0, 0, 0, 0, 0, 0, 0, 0, 0, 0, 0, 0, 0, 0, 0, 0, 0, 0, 0, 0, 0, 0, 1, 0, 0, 0, 0, 0, 0, 9, 0, 9, 0, 0, 0, 0, 0, 0, 0, 0, 0, 0, 0, 0, 0, 0, 0, 0, 9, 0, 0, 0, 0, 0, 0, 0, 0, 0]) 0 (li [0, 0, 0, 0, 0, 0, 0, 0, 0, 0, 0, 0]) 0 (li [0, 0, 0, 0]) (-1) (li [0, 0]) 0 1)).getD 1 default).to == 37 then (ok15 (Pos.mk 6 (li [0, 0, 0, 0, 6, 0, 0, 0, 0, 0, 0, 0, 0, 0, 0, 0, 0, 0, 0, 0, 0, 0, 0, 0, 0, 0, 0, 0, 0, 0, 0, 0, 0, 0, 0, 0, 14, 0, 0, 0, 0, 0, 0, 0, 0, 0, 0, 0, 0, 0, 0, 0, 0, 0, 0, 0, 0, 0, 0, 0, 0, 0, 0, 0]) 0 (li [0, 0, 0, 0, 0, 0, 0, 0, 0, 0, 0, 0]) 0 (li [0, 0, 0, 0]) (-1) (li [0, 0]) 0 1) && (bif Int.ofNat 0 == 0 then (ok23 (Pos.mk 6 (li [0, 0, 0, 0, 6, 0, 0, 0, 0, 0, 0, 0, 0, 0, 0, 0, 0, 0, 0, 0, 0, 0, 0, 0, 0, 0, 0, 0, 0, 0, 0, 0, 0, 0, 0, 0, 14, 0, 0, 0, 0, 0, 0, 0, 0, 0, 0, 0, 0, 0, 0, 0, 0, 0, 0, 0, 0, 0, 0, 0, 0, 0, 0, 0]) 0 (li [0, 0, 0, 0, 0, 0, 0, 0, 0, 0, 0, 0]) 0 (li [0, 0, 0, 0]) (-1) (li [0, 0]) 0 1) && true) else true)) else true)) else true)) else true) else true)) else true))))
theorem E17  : evPure B17 14 17 [] = (let z1 := (Pos.mk 6 (li [0, 0, 0, 0, 6, 0, 0, 0, 0, 0, 0, 0, 0, 0, 0, 0, 0, 0, 0, 0, 0, 0, 0, 0, 0, 0, 0, 0, 0, 0, 0, 0, 0, 0, 0, 0, 14, 0, 0, 0, 0, 0, 0, 0, 0, 0, 0, 0, 0, 0, 0, 0, 0, 0, 0, 0, 0, 0, 0, 0, 0, 0, 0, 0]) 0 (li [0, 0, 0, 0, 0, 0, 0, 0, 0, 0, 0, 0]) 0 (li [0, 0, 0, 0]) (-1) (li [0, 0]) 0 1); let z2 := (Pos.mk 4 (li [0, 0, 0, 0, 0, 0, 0, 0, 0, 0, 0, 0, 0, 0, 0, 0, 0, 0, 0, 0, 0, 0, 0, 0, 0, 0, 0, 0, 1, 0, 0, 0, 0, 0, 0, 9, 0, 9, 0, 0, 0, 0, 0, 0, 0, 0, 0, 0, 0, 0, 0, 0, 0, 0, 9, 0, 0, 0, 0, 0, 0, 0, 0, 0]) 0 (li [0, 0, 0, 0, 0, 0, 0, 0, 0, 0, 0, 0]) 0 (li [0, 0, 0, 0]) (-1) (li [0, 0]) 0 1); let z3 := (Pos.mk (N40 0).fst.variant (li [4, 2, 3, 5, 6, 3, 2, 4, 1, 1, 1, 1, 1, 1, 1, 1, 0, 0, 0, 0, 0, 0, 0, 0, 0, 0, 0, 0, 0, 0, 0, 0, 0, 0, 0, 0, 0, 0, 0, 0, 0, 0, 0, 0, 0, 0, 0, 0, 9, 9, 9, 9, 9, 9, 9, 9, 12, 10, 11, 13, 14, 11, 10, 12]) (N40 0).fst.promoted (li [0, 0, 0, 0, 0, 0, 0, 0, 0, 0, 0, 0]) (N40 0).fst.turn (li [7, 0, 7, 0]) (N40 0).fst.passing (li [0, 0]) (N40 0).fst.half (N40 0).fst.full); let z4 := (Pos.mk 0 (li [0, 0, 0, 0, 6, 0, 0, 0, 0, 0, 0, 0, 4, 0, 0, 0, 0, 0, 0, 0, 0, 0, 0, 0, 0, 0, 0, 0, 0, 0, 0, 0, 0, 0, 0, 0, 0, 0, 0, 0, 0, 0, 0, 0, 0, 0, 0, 0, 0, 0, 0, 0, 0, 0, 0, 0, 14, 0, 0, 0, 12, 0, 0, 0]) 0 (li [0, 0, 0, 0, 0, 0, 0, 0, 0, 0, 0, 0]) 0 (li [0, 0, 0, 0]) (-1) (li [0, 0]) 0 1); let z5 := (Tr.ret (AV.cbool false)); Tr.br (isPS Pz 40 [AV.int .u8 0] ((d2 dPos dB).res (N40 0))) (Tr.br (isPS Pz 15 [z2.av] ((dL ET.mv).res (N15 z2))) (Tr.br (isPS Pz 15 [z3.av] ((dL ET.mv).res (N15 z3))) (Tr.br (Int.ofNat 20 == 20) (Tr.br (isPS Pz 15 [z4.av] ((dL ET.mv).res (N15 z4))) (Tr.br (Int.ofNat 10 == 10) (Tr.br (Int.ofNat 2 == 2) (Tr.br (decide (0 ≤ 0) && decide (0 < Int.ofNat 2)) (Tr.br (((N15 z2).getD 0 default).to == 35) (Tr.br (decide (0 ≤ 1) && decide (1 < Int.ofNat 2)) (Tr.br (((N15 z2).getD 1 default).to == 37) (Tr.br (isPS Pz 15 [z1.av] ((dL ET.mv).res (N15 z1))) (Tr.br (Int.ofNat 0 == 0) (Tr.br (isPS Pz 23 [z1.av] ((dR .u8 .u8).res (N23 z1))) (Tr.ret (AV.bool (eqOut BinOp.eql ((N23 z1).fst == 2 && ((N23 z1).snd == 6 && true))))) Tr.fail) z5) Tr.fail) z5) Tr.fail) z5) Tr.fail) z5) z5) Tr.fail) z5) Tr.fail) Tr.fail) Tr.fail) := by kernel_rfl
theorem P17  (h : ok17  = true) : PS Pz 17 [] (dB.res (N17 )) := ps_gotR hB17 (E17 ) (gr_call (P40 (0)) (gr_call (P15 (Pos.mk 4 (li [0, 0, 0, 0, 0, 0, 0, 0, 0, 0, 0, 0, 0, 0, 0, 0, 0, 0, 0, 0, 0, 0, 0, 0, 0, 0, 0, 0, 1, 0, 0, 0, 0, 0, 0, 9, 0, 9, 0, 0, 0, 0, 0, 0, 0, 0, 0, 0, 0, 0, 0, 0, 0, 0, 9, 0, 0, 0, 0, 0, 0, 0, 0, 0]) 0 (li [0, 0, 0, 0, 0, 0, 0, 0, 0, 0, 0, 0]) 0 (li [0, 0, 0, 0]) (-1) (li [0, 0]) 0 1)) (gr_call (P15 (Pos.mk (N40 0).fst.variant (li [4, 2, 3, 5, 6, 3, 2, 4, 1, 1, 1, 1, 1, 1, 1, 1, 0, 0, 0, 0, 0, 0, 0, 0, 0, 0, 0, 0, 0, 0, 0, 0, 0, 0, 0, 0, 0, 0, 0, 0, 0, 0, 0, 0, 0, 0, 0, 0, 9, 9, 9, 9, 9, 9, 9, 9, 12, 10, 11, 13, 14, 11, 10, 12]) (N40 0).fst.promoted (li [0, 0, 0, 0, 0, 0, 0, 0, 0, 0, 0, 0]) (N40 0).fst.turn (li [7, 0, 7, 0]) (N40 0).fst.passing (li [0, 0]) (N40 0).fst.half (N40 0).fst.full)) (gr_br (gr_call (P15 (Pos.mk 0 (li [0, 0, 0, 0, 6, 0, 0, 0, 0, 0, 0, 0, 4, 0, 0, 0, 0, 0, 0, 0, 0, 0, 0, 0, 0, 0, 0, 0, 0, 0, 0, 0, 0, 0, 0, 0, 0, 0, 0, 0, 0, 0, 0, 0, 0, 0, 0, 0, 0, 0, 0, 0, 0, 0, 0, 0, 14, 0, 0, 0, 12, 0, 0, 0]) 0 (li [0, 0, 0, 0, 0, 0, 0, 0, 0, 0, 0, 0]) 0 (li [0, 0, 0, 0]) (-1) (li [0, 0]) 0 1)) (gr_br (gr_br (gr_guard (gr_br (gr_guard (gr_br (gr_call (P15 (Pos.mk 6 (li [0, 0, 0, 0, 6, 0, 0, 0, 0, 0, 0, 0, 0, 0, 0, 0, 0, 0, 0, 0, 0, 0, 0, 0, 0, 0, 0, 0, 0, 0, 0, 0, 0, 0, 0, 0, 14, 0, 0, 0, 0, 0, 0, 0, 0, 0, 0, 0, 0, 0, 0, 0, 0, 0, 0, 0, 0, 0, 0, 0, 0, 0, 0, 0]) 0 (li [0, 0, 0, 0, 0, 0, 0, 0, 0, 0, 0, 0]) 0 (li [0, 0, 0, 0]) (-1) (li [0, 0]) 0 1)) (gr_br (gr_call (P23 (Pos.mk 6 (li [0, 0, 0, 0, 6, 0, 0, 0, 0, 0, 0, 0, 0, 0, 0, 0, 0, 0, 0, 0, 0, 0, 0, 0, 0, 0, 0, 0, 0, 0, 0, 0, 0, 0, 0, 0, 14, 0, 0, 0, 0, 0, 0, 0, 0, 0, 0, 0, 0, 0, 0, 0, 0, 0, 0, 0, 0, 0, 0, 0, 0, 0, 0, 0]) 0 (li [0, 0, 0, 0, 0, 0, 0, 0, 0, 0, 0, 0]) 0 (li [0, 0, 0, 0]) (-1) (li [0, 0]) 0 1)) (gr_ret rfl)) (gr_ret rfl))) (gr_ret rfl))) (gr_ret rfl))) (gr_ret rfl)) (gr_ret rfl))) (gr_ret rfl))))) h
noncomputable def G17 : List AV → Tr AV := g0  (sure Pz 17 [] (dB.res (N17 )))
theorem s17 : Sound Pz 17 G17 := sound0 (at_sure)
end Kz
end
section
namespace Kz
open Go
set_option maxRecDepth 100000
set_option maxHeartbeats 4000000
def inB (a b x : Int) : Bool := decide (a ≤ x) && decide (x ≤ b)
theorem inB_iff {a b x : Int} : inB a b x = true ↔ a ≤ x ∧ x ≤ b := by unfold inB; simp
def posInB (p : Pos) : Bool :=
  inB 0 255 p.variant && (p.board.length == 64 && p.board.all (inB 0 255)) && (p.pockets.length == 12 && p.pockets.all (inB 0 255)) && inB 0 255 p.turn && (p.rooks.length == 4 && p.rooks.all (inB (-128) 127)) && inB (-128) 127 p.passing && (p.checks.length == 2 && p.checks.all (inB 0 255)) && inB (-9223372036854775808) 9223372036854775807 p.half && inB (-9223372036854775808) 9223372036854775807 p.full
theorem posIn_of {p : Pos} (h : posInB p = true) : PosIn p := by
  unfold posInB at h
  simp only [Bool.and_eq_true, beq_iff_eq, List.all_eq_true, inB_iff] at h
  obtain ⟨⟨⟨⟨⟨⟨⟨⟨a, b⟩, c⟩, d⟩, e⟩, f⟩, g⟩, i⟩, j⟩ := h
  exact ⟨a.1, a.2, b.1, b.2, c.1, c.2, d.1, d.2, e.1, e.2, f.1, f.2, g.1, g.2, i, j⟩
theorem ok17_true : ok17 = true := by
  unfold ok17
  refine a_true (by decide +kernel) fun _ => ?_
  repeat' (first | with_reducible rfl | refine a_true (t15 (posIn_of (by decide +kernel))) (fun _ => ?_) | refine a_true (t23 (posIn_of (by decide +kernel))) (fun _ => ?_) | refine a_true (by decide +kernel) (fun _ => ?_) | refine c_true (fun _ => ?_) (fun _ => ?_))
theorem N17_true : N17 = true := by decide +kernel
end Kz
end
section
namespace Kz
open Go Go.RowKit Go.Proofs
set_option maxRecDepth 100000
set_option maxHeartbeats 4000000
noncomputable def K18 : List (Nat × List (Nat × List Nat)) := [(18, [(0, (0 :: (rn 2 15 (rn 29 14 [46, 47, 51, 52, 56, 57, 71])))), (1, (0 :: 2 :: (rn 4 13 (rn 29 14 [46, 47, 51, 52, 56, 57, 71])))), (2, (0 :: 2 :: (rn 5 12 (rn 29 14 [46, 47, 51, 52, 56, 57, 71])))), (3, (0 :: 2 :: 5 :: 6 :: (rn 8 9 (rn 29 14 [46, 47, 51, 52, 56, 57, 71])))), (4, (0 :: 2 :: (rn 5 12 (rn 29 14 [46, 47, 51, 52, 56, 57, 71])))), (5, (0 :: 2 :: (rn 6 11 (rn 29 14 [46, 47, 51, 52, 56, 57, 71])))), (6, (0 :: 2 :: (rn 6 11 (rn 30 13 [46, 47, 51, 52, 56, 57, 71])))), (7, (0 :: 1 :: (rn 3 69 []))), (8, (0 :: 2 :: (rn 6 11 (29 :: 30 :: 31 :: (rn 33 10 [46, 47, 51, 52, 56, 57, 71]))))), (9, (0 :: 2 :: (rn 5 12 (rn 29 14 [46, 47, 51, 52, 56, 57, 71])))), (10, (0 :: 1 :: (rn 3 69 [])))])]
noncomputable def B18_1 : Base := baseOf Pz (fun f i => lkK f i K18) [] [] []
theorem hB18_1 : BOk B18_1 := base_ok named_z trivial trivial trivial
noncomputable def S18_1 (p1 : Pos) (x : (Int × (List Int))) : St := St.mk (AV.any :: AV.ptr 0 0 :: AV.any :: AV.ptr 1 0 :: AV.int .i64 x.fst :: (an 38 [AV.undef, AV.undef, AV.undef, AV.any, AV.any, AV.undef, AV.undef, AV.undef, AV.any, AV.any, AV.undef, AV.undef, AV.undef, AV.any, AV.any, AV.undef, AV.undef, AV.undef, AV.undef, AV.undef, AV.undef, AV.undef, AV.undef, AV.undef, AV.undef, AV.undef, AV.undef, AV.undef, AV.any])) (Hp.mk [(pc p1 []), [AV.ints .i64 2 x.snd]] [] [] 0 0 0)
noncomputable def O18_1 (p1 : Pos) : ((List Int)) ⊕ (Int × Bool × (List Int)) → Out
  | (.inl (y)) => .ret (St.mk (AV.any :: AV.any :: AV.cbool false :: (an 69 [])) (Hp.mk [(pc p1 []), [AV.ints .i64 2 y]] [] [] 0 0 0))
  | (.inr (y)) => .exit 0 (St.mk (AV.any :: AV.ptr 0 0 :: AV.any :: AV.ptr 1 0 :: AV.int .i64 y.fst :: AV.any :: AV.any :: AV.bool y.snd.fst :: (an 35 [AV.undef, AV.undef, AV.undef, AV.any, AV.any, AV.undef, AV.undef, AV.undef, AV.any, AV.any, AV.undef, AV.undef, AV.undef, AV.any, AV.any, AV.undef, AV.undef, AV.undef, AV.undef, AV.undef, AV.undef, AV.undef, AV.undef, AV.undef, AV.undef, AV.undef, AV.undef, AV.undef, AV.any])) (Hp.mk [(pc p1 []), [AV.ints .i64 2 y.snd.snd]] [] [] 0 0 0))
noncomputable def st18_1 (p1 : Pos) (x : (Int × (List Int))) : Stp (Int × (List Int)) (((List Int)) ⊕ (Int × Bool × (List Int))) := (bif decide (x.fst < 64) then (bif p1.board.getD (scale 1 x.fst).toNat 0 != 0 then (bif decide (p1.board.getD (scale 1 x.fst).toNat 0 > 15) then (Stp.out (.inl (x.snd))) else (bif decide ((p1.board.getD (scale 1 x.fst).toNat 0).tmod 8 < 1) then (Stp.out (.inl (x.snd))) else (bif decide ((p1.board.getD (scale 1 x.fst).toNat 0).tmod 8 > 6) then (Stp.out (.inl (x.snd))) else (bif (p1.board.getD (scale 1 x.fst).toNat 0).tmod 8 == 6 then (Stp.go (wr .i64 (x.fst + 1), x.snd.set (scale 1 (wr .u8 ((p1.board.getD (scale 1 x.fst).toNat 0).tdiv 8))).toNat (wr .i64 (x.snd.getD (scale 1 (wr .u8 ((p1.board.getD (scale 1 x.fst).toNat 0).tdiv 8))).toNat 0 + 1)))) else (Stp.go (wr .i64 (x.fst + 1), x.snd)))))) else (bif (p1.board.getD (scale 1 x.fst).toNat 0).tmod 8 == 6 then (Stp.go (wr .i64 (x.fst + 1), x.snd.set (scale 1 (wr .u8 ((p1.board.getD (scale 1 x.fst).toNat 0).tdiv 8))).toNat (wr .i64 (x.snd.getD (scale 1 (wr .u8 ((p1.board.getD (scale 1 x.fst).toNat 0).tdiv 8))).toNat 0 + 1)))) else (Stp.go (wr .i64 (x.fst + 1), x.snd)))) else (Stp.out (.inr ((x.fst, decide (x.fst < 64), x.snd)))))
noncomputable def okL18_1 (p1 : Pos) (x : (Int × (List Int))) : Bool := (bif decide (x.fst < 64) then (decide (0 ≤ x.fst) && decide (x.fst < ↑64) && (bif p1.board.getD (scale 1 x.fst).toNat 0 != 0 then (bif decide (p1.board.getD (scale 1 x.fst).toNat 0 > 15) then true else (bif decide ((p1.board.getD (scale 1 x.fst).toNat 0).tmod 8 < 1) then true else (bif decide ((p1.board.getD (scale 1 x.fst).toNat 0).tmod 8 > 6) then true else (bif (p1.board.getD (scale 1 x.fst).toNat 0).tmod 8 == 6 then (decide (0 ≤ wr .u8 ((p1.board.getD (scale 1 x.fst).toNat 0).tdiv 8)) && decide (wr .u8 ((p1.board.getD (scale 1 x.fst).toNat 0).tdiv 8) < ↑2) && (decide (0 ≤ wr .u8 ((p1.board.getD (scale 1 x.fst).toNat 0).tdiv 8)) && decide (wr .u8 ((p1.board.getD (scale 1 x.fst).toNat 0).tdiv 8) < ↑2) && true)) else true)))) else (bif (p1.board.getD (scale 1 x.fst).toNat 0).tmod 8 == 6 then (decide (0 ≤ wr .u8 ((p1.board.getD (scale 1 x.fst).toNat 0).tdiv 8)) && decide (wr .u8 ((p1.board.getD (scale 1 x.fst).toNat 0).tdiv 8) < ↑2) && (decide (0 ≤ wr .u8 ((p1.board.getD (scale 1 x.fst).toNat 0).tdiv 8)) && decide (wr .u8 ((p1.board.getD (scale 1 x.fst).toNat 0).tdiv 8) < ↑2) && true)) else true))) else true)
noncomputable def lp18_1 (p1 : Pos) (x : (Int × (List Int))) : Option (((List Int)) ⊕ (Int × Bool × (List Int))) := itl (fun x => bif okL18_1 p1 x then st18_1 p1 x else .bad) many x
theorem E18_1 (p1 : Pos) (x : (Int × (List Int))) : evC (envAt B18_1 12) (evL B18_1 12) 18 (bodL Pz 18 3) (S18_1 p1 x) = (let z1 := (p1.board.getD (scale 1 x.fst).toNat 0); let z2 := [AV.undef, AV.undef, AV.undef, AV.any, AV.any, AV.undef, AV.undef, AV.undef, AV.any, AV.any, AV.undef, AV.undef, AV.undef, AV.any, AV.any, AV.undef, AV.undef, AV.undef, AV.undef, AV.undef, AV.undef, AV.undef, AV.undef, AV.undef, AV.undef, AV.undef, AV.undef, AV.undef, AV.any]; let z3 := (AV.any :: AV.ptr 0 0 :: AV.any :: AV.ptr 1 0 :: AV.int .i64 (wr .i64 (x.fst + 1)) :: (an 12 (AV.int .u8 z1 :: AV.bool (decide (p1.board.getD (scale 1 x.fst).toNat 0 > 15)) :: AV.bool (decide (p1.board.getD (scale 1 x.fst).toNat 0 > 15)) :: AV.int .u8 z1 :: AV.int .u8 (z1.tmod 8) :: AV.bool (decide (z1.tmod 8 < 1)) :: AV.bool (decide (z1.tmod 8 < 1)) :: AV.bool (decide (z1.tmod 8 < 1)) :: AV.int .u8 z1 :: AV.int .u8 (z1.tmod 8) :: AV.bool (decide (z1.tmod 8 > 6)) :: AV.bool (decide (z1.tmod 8 > 6)) :: (an 14 z2)))); let z4 := (Hp.mk [(pc p1 []), [AV.ints .i64 2 x.snd]] [] [] 0 0 0); let z5 := (AV.any :: AV.ptr 0 0 :: AV.any :: AV.ptr 1 0 :: AV.int .i64 (wr .i64 (x.fst + 1)) :: (an 12 (AV.undef :: AV.undef :: AV.undef :: AV.undef :: AV.undef :: AV.undef :: AV.undef :: AV.undef :: AV.undef :: AV.undef :: AV.undef :: AV.undef :: (an 14 z2)))); let z6 := (Hp.mk [(pc p1 []), [AV.ints .i64 2 (x.snd.set (scale 1 (wr .u8 (z1.tdiv 8))).toNat (wr .i64 (x.snd.getD (scale 1 (wr .u8 (z1.tdiv 8))).toNat 0 + 1)))]] [] [] 0 0 0); let z7 := (Tr.ret (Out.ret (St.mk (AV.any :: AV.any :: AV.cbool false :: (an 69 [])) z4))); let z8 := (0 ≤ wr .u8 (z1.tdiv 8)); Tr.br (decide (x.fst < 64)) (Tr.br (decide (0 ≤ x.fst) && decide (x.fst < ↑64)) (Tr.br (p1.board.getD (scale 1 x.fst).toNat 0 != 0) (Tr.br (decide (p1.board.getD (scale 1 x.fst).toNat 0 > 15)) z7 (Tr.br (decide (z1.tmod 8 < 1)) z7 (Tr.br (decide (z1.tmod 8 > 6)) z7 (Tr.br (z1.tmod 8 == 6) (Tr.br (decide z8 && decide (wr .u8 (z1.tdiv 8) < ↑2)) (Tr.br (decide z8 && decide (wr .u8 (z1.tdiv 8) < ↑2)) (Tr.ret (Out.norm (St.mk z3 z6))) Tr.fail) Tr.fail) (Tr.ret (Out.norm (St.mk z3 z4))))))) (Tr.br (z1.tmod 8 == 6) (Tr.br (decide z8 && decide (wr .u8 (z1.tdiv 8) < ↑2)) (Tr.br (decide z8 && decide (wr .u8 (z1.tdiv 8) < ↑2)) (Tr.ret (Out.norm (St.mk z5 z6))) Tr.fail) Tr.fail) (Tr.ret (Out.norm (St.mk z5 z4))))) Tr.fail) (Tr.ret (Out.exit 0 (St.mk (AV.any :: AV.ptr 0 0 :: AV.any :: AV.ptr 1 0 :: AV.int .i64 x.fst :: AV.any :: AV.any :: AV.bool (decide (x.fst < 64)) :: (an 35 z2)) z4)))) := by kernel_rfl
theorem L18_1 (p1 : Pos) (x : (Int × (List Int))) (r : ((List Int)) ⊕ (Int × Bool × (List Int))) (h : lp18_1 p1 x = some r) : LSpec Pz (bodL Pz 18 3) (S18_1 p1 x) (O18_1 p1 r) := LSpec.itl (S := S18_1 p1) (O := O18_1 p1) (ok := okL18_1 p1) (st := st18_1 p1) hB18_1 (fun x => gr_eq (E18_1 p1 x) (gr_br (gr_guard (gr_br (gr_br (gr_ret (rl_ret rfl (wk_nrm (ks := (0 :: 1 :: (rn 3 69 []))) (gs := []) (b := true) rfl (by kernel_rfl)))) (gr_br (gr_ret (rl_ret rfl (wk_nrm (ks := (0 :: 1 :: (rn 3 69 []))) (gs := []) (b := true) rfl (by kernel_rfl)))) (gr_br (gr_ret (rl_ret rfl (wk_nrm (ks := (0 :: 1 :: (rn 3 69 []))) (gs := []) (b := true) rfl (by kernel_rfl)))) (gr_br (gr_guard (gr_guard (gr_ret (rl_go (wk_nrm (ks := (0 :: 2 :: (rn 5 38 [46, 47, 51, 52, 56, 57, 71]))) (gs := [4]) (b := true) rfl (by kernel_rfl)))))) (gr_ret (rl_go (wk_nrm (ks := (0 :: 2 :: (rn 5 38 [46, 47, 51, 52, 56, 57, 71]))) (gs := [4]) (b := true) rfl (by kernel_rfl)))))))) (gr_br (gr_guard (gr_guard (gr_ret (rl_go (wk_nrm (ks := (0 :: 2 :: (rn 5 38 [46, 47, 51, 52, 56, 57, 71]))) (gs := [4]) (b := true) rfl (by kernel_rfl)))))) (gr_ret (rl_go (wk_nrm (ks := (0 :: 2 :: (rn 5 38 [46, 47, 51, 52, 56, 57, 71]))) (gs := [4]) (b := true) rfl (by kernel_rfl))))))) (gr_ret (rl_exit rfl (wk_nrm (ks := (0 :: 2 :: 5 :: 6 :: (rn 8 35 [46, 47, 51, 52, 56, 57, 71]))) (gs := [4, 7]) (b := true) rfl (by kernel_rfl)))))) many x r h
noncomputable def F18_1 : Code → St → Tr Out := fun b s => .br (isL ((lp18_1 (Kz.Pos.mk (tI (tH s 0 0)) (tN (tH s 0 1)) (tU (tH s 0 2)) (tN (tH s 0 3)) (tI (tH s 0 4)) (tN (tH s 0 5)) (tI (tH s 0 6)) (tN (tH s 0 7)) (tI (tH s 0 8)) (tI (tH s 0 9))) ((tI (tT s 4)), (tN (tH s 1 0)))).getD default)) (sureL Pz (fun s => O18_1 (Kz.Pos.mk (tI (tH s 0 0)) (tN (tH s 0 1)) (tU (tH s 0 2)) (tN (tH s 0 3)) (tI (tH s 0 4)) (tN (tH s 0 5)) (tI (tH s 0 6)) (tN (tH s 0 7)) (tI (tH s 0 8)) (tI (tH s 0 9))) (.inl (gl ((lp18_1 (Kz.Pos.mk (tI (tH s 0 0)) (tN (tH s 0 1)) (tU (tH s 0 2)) (tN (tH s 0 3)) (tI (tH s 0 4)) (tN (tH s 0 5)) (tI (tH s 0 6)) (tN (tH s 0 7)) (tI (tH s 0 8)) (tI (tH s 0 9))) ((tI (tT s 4)), (tN (tH s 1 0)))).getD default)))) b s) (sureL Pz (fun s => O18_1 (Kz.Pos.mk (tI (tH s 0 0)) (tN (tH s 0 1)) (tU (tH s 0 2)) (tN (tH s 0 3)) (tI (tH s 0 4)) (tN (tH s 0 5)) (tI (tH s 0 6)) (tN (tH s 0 7)) (tI (tH s 0 8)) (tI (tH s 0 9))) (.inr (gr ((lp18_1 (Kz.Pos.mk (tI (tH s 0 0)) (tN (tH s 0 1)) (tU (tH s 0 2)) (tN (tH s 0 3)) (tI (tH s 0 4)) (tN (tH s 0 5)) (tI (tH s 0 6)) (tN (tH s 0 7)) (tI (tH s 0 8)) (tI (tH s 0 9))) ((tI (tT s 4)), (tN (tH s 1 0)))).getD default)))) b s)
theorem sF18_1 : ∀ b, LSound Pz b (F18_1 b) := brL_sound (c := fun s => isL ((lp18_1 (Kz.Pos.mk (tI (tH s 0 0)) (tN (tH s 0 1)) (tU (tH s 0 2)) (tN (tH s 0 3)) (tI (tH s 0 4)) (tN (tH s 0 5)) (tI (tH s 0 6)) (tN (tH s 0 7)) (tI (tH s 0 8)) (tI (tH s 0 9))) ((tI (tT s 4)), (tN (tH s 1 0)))).getD default)) sureL_sound sureL_sound
noncomputable def B18 : Base := baseOf Pz (fun f i => lkK f i K18) [] [(18, 3, F18_1)] []
theorem hB18 : BOk B18 := base_ok named_z trivial ⟨sF18_1, trivial⟩ trivial
noncomputable def N18 (a : Pos) : Bool := (bif isL ((lp18_1 (Pos.mk a.variant a.board a.promoted a.pockets a.turn a.rooks a.passing a.checks a.half a.full) (0, List.replicate 2 0)).getD default) then (false) else (bif decide ((Pos.mk a.variant a.board a.promoted a.pockets a.turn a.rooks a.passing a.checks a.half a.full).turn < 2) then (bif decide ((Pos.mk a.variant a.board a.promoted a.pockets a.turn a.rooks a.passing a.checks a.half a.full).variant < 9) then (bif decide ((Pos.mk a.variant a.board a.promoted a.pockets a.turn a.rooks a.passing a.checks a.half a.full).passing ≥ -1) then (bif decide ((Pos.mk a.variant a.board a.promoted a.pockets a.turn a.rooks a.passing a.checks a.half a.full).passing < 64) then (bif (Pos.mk a.variant a.board a.promoted a.pockets a.turn a.rooks a.passing a.checks a.half a.full).variant == 4 then (true) else (bif decide ((gr ((lp18_1 (Pos.mk a.variant a.board a.promoted a.pockets a.turn a.rooks a.passing a.checks a.half a.full) (0, List.replicate 2 0)).getD default)).snd.snd.getD 0 0 < 2) then (decide ((gr ((lp18_1 (Pos.mk a.variant a.board a.promoted a.pockets a.turn a.rooks a.passing a.checks a.half a.full) (0, List.replicate 2 0)).getD default)).snd.snd.getD 1 0 < 2)) else (false))) else (false)) else (false)) else (false)) else (false)))
noncomputable def ok18 (a : Pos) : Bool := ((lp18_1 (Pos.mk a.variant a.board a.promoted a.pockets a.turn a.rooks a.passing a.checks a.half a.full) (0, List.replicate 2 0)).isSome && bif isL ((lp18_1 (Pos.mk a.variant a.board a.promoted a.pockets a.turn a.rooks a.passing a.checks a.half a.full) (0, List.replicate 2 0)).getD default) then true else true)
theorem E18 (a : Pos) : evPure B18 14 18 [Pos.av a] = (let z1 := (Pos.mk a.variant a.board a.promoted a.pockets a.turn a.rooks a.passing a.checks a.half a.full); let z2 := (St.mk (AV.any :: AV.ptr 0 0 :: AV.any :: AV.ptr 1 0 :: AV.cint .i64 0 :: (an 12 (AV.undef :: AV.undef :: AV.undef :: AV.undef :: AV.undef :: AV.undef :: AV.undef :: AV.undef :: AV.undef :: AV.undef :: AV.undef :: AV.undef :: (an 14 [AV.undef, AV.undef, AV.undef, AV.any, AV.any, AV.undef, AV.undef, AV.undef, AV.any, AV.any, AV.undef, AV.undef, AV.undef, AV.any, AV.any, AV.undef, AV.undef, AV.undef, AV.undef, AV.undef, AV.undef, AV.undef, AV.undef, AV.undef, AV.undef, AV.undef, AV.undef, AV.undef, AV.any])))) (Hp.mk [(pc a []), [AV.ints .i64 2 (List.replicate 2 0)]] [] [] 0 0 0)); let z3 := ((lp18_1 z1 (0, List.replicate 2 0)).getD default); let z4 := (Tr.ret (AV.cbool false)); Tr.br (isL z3) (Tr.br (isLS Pz (bodL Pz 18 3) z2 (O18_1 z1 (Sum.inl (gl z3)))) z4 Tr.fail) (Tr.br (isLS Pz (bodL Pz 18 3) z2 (O18_1 z1 (Sum.inr (gr z3)))) (Tr.br (decide (z1.turn < 2)) (Tr.br (decide (z1.variant < 9)) (Tr.br (decide (z1.passing ≥ -1)) (Tr.br (decide (z1.passing < 64)) (Tr.br (z1.variant == 4) (Tr.ret (AV.cbool true)) (Tr.br (decide ((gr z3).snd.snd.getD 0 0 < 2)) (Tr.ret (AV.bool (decide ((gr z3).snd.snd.getD 1 0 < 2)))) z4)) z4) z4) z4) z4) Tr.fail)) := by kernel_rfl
theorem P18 (a : Pos) (h : ok18 a = true) : PS Pz 18 [Pos.av a] (dB.res (N18 a)) := ps_gotR hB18 (E18 a) (gr_loop2 (fun h => L18_1 (Pos.mk a.variant a.board a.promoted a.pockets a.turn a.rooks a.passing a.checks a.half a.full) ((0, List.replicate 2 0)) _ (some_getD h)) (wk_nrm (ks := (0 :: 2 :: (rn 5 38 [46, 47, 51, 52, 56, 57, 71]))) (gs := [4]) (b := true) rfl (by kernel_rfl)) (gr_ret rfl) (gr_br2 (gr_br2 (gr_br2 (gr_br2 (gr_br2 (gr_ret rfl) (gr_br2 (gr_ret rfl) (gr_ret rfl))) (gr_ret rfl)) (gr_ret rfl)) (gr_ret rfl)) (gr_ret rfl))) h
noncomputable def G18 : List AV → Tr AV := g1 dPos (fun a => sure Pz 18 [Pos.av a] (dB.res (N18 a)))
theorem s18 : Sound Pz 18 G18 := sound1 (fun _ => at_sure)
end Kz
end
section
namespace Kz
open Go Go.RowKit Go.Proofs
set_option maxRecDepth 100000
set_option maxHeartbeats 4000000
noncomputable def K7 : List (Nat × List (Nat × List Nat)) := [(7, [(0, (0 :: (rn 2 16 (rn 19 5 (27 :: 28 :: (rn 32 4 [44, 45, 59, 60, 65, 66, 68])))))), (1, (0 :: (rn 2 5 (rn 8 10 (rn 19 5 (27 :: 28 :: (rn 32 4 [44, 45, 59, 60, 65, 66, 68]))))))), (2, (0 :: 1 :: (rn 3 66 []))), (3, (0 :: 2 :: (rn 4 14 (rn 19 5 (27 :: 28 :: (rn 32 4 [44, 45, 59, 60, 65, 66, 68])))))), (4, (0 :: 2 :: (rn 4 9 (rn 14 4 (rn 19 5 (27 :: 28 :: (rn 32 4 [44, 45, 59, 60, 65, 66, 68]))))))), (5, (0 :: 1 :: (rn 3 66 []))), (6, (0 :: 2 :: (rn 5 31 [44, 45, 59, 60, 65, 66, 68]))), (7, (0 :: 1 :: (rn 3 66 [])))])]
noncomputable def B7 : Base := baseOf Pz (fun f i => lkK f i K7) [(15, G15), (17, G17), (18, G18), (23, G23)] [] []
theorem hB7 : BOk B7 := base_ok named_z ⟨s15, s17, s18, s23, trivial⟩ trivial trivial
noncomputable def N7 (a : Pos) : Bool := (bif !N18 a then (N17) else (bif (N23 a).fst == 0 then (bif (N23 a).snd == 0 then (N17) else (false)) else (bif a.variant == 0 then (false) else (bif a.variant == 1 then (false) else (bif !a.variant == 2 then (bif (N23 a).fst != 3 then (bif (N23 a).snd == 6 then (bif Int.ofNat (N15 a).length == 0 then (N17) else (false)) else (bif (N23 a).snd == 7 then (bif Int.ofNat (N15 a).length == 0 then (N17) else (false)) else (bif (N23 a).snd == 8 then (bif Int.ofNat (N15 a).length == 0 then (N17) else (false)) else (false)))) else (bif a.variant == 8 then (bif (N23 a).snd == 6 then (bif Int.ofNat (N15 a).length == 0 then (N17) else (false)) else (bif (N23 a).snd == 7 then (bif Int.ofNat (N15 a).length == 0 then (N17) else (false)) else (bif (N23 a).snd == 8 then (bif Int.ofNat (N15 a).length == 0 then (N17) else (false)) else (false)))) else (false))) else (false))))))
noncomputable def ok7 (a : Pos) : Bool := (ok18 (a) && (bif !N18 a then (ok17  && true) else (ok23 (a) && (bif (N23 a).fst == 0 then (bif (N23 a).snd == 0 then (ok17  && true) else true) else (bif a.variant == 0 then true else (bif a.variant == 1 then true else (bif !a.variant == 2 then (bif (N23 a).fst != 3 then (bif (N23 a).snd == 6 then (ok15 (a) && (bif Int.ofNat (N15 a).length == 0 then (ok17  && true) else true)) else (bif (N23 a).snd == 7 then (ok15 (a) && (bif Int.ofNat (N15 a).length == 0 then (ok17  && true) else true)) else (bif (N23 a).snd == 8 then (ok15 (a) && (bif Int.ofNat (N15 a).length == 0 then (ok17  && true) else true)) else true))) else (bif a.variant == 8 then (bif (N23 a).snd == 6 then (ok15 (a) && (bif Int.ofNat (N15 a).length == 0 then (ok17  && true) else true)) else (bif (N23 a).snd == 7 then (ok15 (a) && (bif Int.ofNat (N15 a).length == 0 then (ok17  && true) else true)) else (bif (N23 a).snd == 8 then (ok15 (a) && (bif Int.ofNat (N15 a).length == 0 then (ok17  && true) else true)) else true))) else true)) else true)))))))
theorem E7 (a : Pos) : evPure B7 14 7 [Pos.av a] = (let z2 := (Tr.ret (AV.cbool false)); let z4 := (Tr.br (isPS Pz 17 [] (dB.res N17)) (Tr.ret (AV.bool N17)) Tr.fail); let z1 := (Tr.br (isPS Pz 15 [a.av] ((dL ET.mv).res (N15 a))) (Tr.br (Int.ofNat (N15 a).length == 0) z4 z2) Tr.fail); let z3 := (Tr.br ((N23 a).snd == 6) z1 (Tr.br ((N23 a).snd == 7) z1 (Tr.br ((N23 a).snd == 8) z1 z2))); Tr.br (isPS Pz 18 [a.av] (dB.res (N18 a))) (Tr.br (!N18 a) z4 (Tr.br (isPS Pz 23 [a.av] ((dR .u8 .u8).res (N23 a))) (Tr.br ((N23 a).fst == 0) (Tr.br ((N23 a).snd == 0) z4 z2) (Tr.br (a.variant == 0) z2 (Tr.br (a.variant == 1) z2 (Tr.br (!a.variant == 2) (Tr.br ((N23 a).fst != 3) z3 (Tr.br (a.variant == 8) z3 z2)) z2)))) Tr.fail)) Tr.fail) := by kernel_rfl
theorem P7 (a : Pos) (h : ok7 a = true) : PS Pz 7 [Pos.av a] (dB.res (N7 a)) := ps_gotR hB7 (E7 a) (gr_call (P18 (a)) (gr_br (gr_call (P17 ) (gr_ret rfl)) (gr_call (P23 (a)) (gr_br (gr_br (gr_call (P17 ) (gr_ret rfl)) (gr_ret rfl)) (gr_br (gr_ret rfl) (gr_br (gr_ret rfl) (gr_br (gr_br (gr_br (gr_call (P15 (a)) (gr_br (gr_call (P17 ) (gr_ret rfl)) (gr_ret rfl))) (gr_br (gr_call (P15 (a)) (gr_br (gr_call (P17 ) (gr_ret rfl)) (gr_ret rfl))) (gr_br (gr_call (P15 (a)) (gr_br (gr_call (P17 ) (gr_ret rfl)) (gr_ret rfl))) (gr_ret rfl)))) (gr_br (gr_br (gr_call (P15 (a)) (gr_br (gr_call (P17 ) (gr_ret rfl)) (gr_ret rfl))) (gr_br (gr_call (P15 (a)) (gr_br (gr_call (P17 ) (gr_ret rfl)) (gr_ret rfl))) (gr_br (gr_call (P15 (a)) (gr_br (gr_call (P17 ) (gr_ret rfl)) (gr_ret rfl))) (gr_ret rfl)))) (gr_ret rfl))) (gr_ret rfl)))))))) h
noncomputable def G7 : List AV → Tr AV := g1 dPos (fun a => sure Pz 7 [Pos.av a] (dB.res (N7 a)))
theorem s7 : Sound Pz 7 G7 := sound1 (fun _ => at_sure)
end Kz
end
section
namespace Kz
open Go Go.RowKit
set_option maxRecDepth 100000
set_option maxHeartbeats 4000000
set_option linter.unusedSectionVars false
theorem lp18 {p : Pos} (hp : PosIn p) : ∃ r, lp18_1 p (0, List.replicate 2 0) = some r ∧ True := by
  refine lp_many (I := fun x => 0 ≤ x.1 ∧ x.1 ≤ 64 ∧ x.2.length = 2) (μ := fun x => (64 - x.1).toNat) ?_ _ ⟨by simp, by simp, by simp⟩ (by simp)
  rintro ⟨n, ks⟩ ⟨h0, h1, h2⟩
  have h0 : 0 ≤ n := h0
  have h1 : n ≤ 64 := h1
  obtain ⟨b0, b1⟩ := bd_in hp (scale 1 n).toNat
  unfold okL18_1 st18_1
  dsimp only
  generalize p.board.getD (scale 1 n).toNat 0 = v at b0 b1
  have e8 : v.tdiv 8 = v / 8 := Int.tdiv_eq_ediv_of_nonneg b0
  have m8 : v.tmod 8 = v % 8 := Int.tmod_eq_emod_of_nonneg b0
  have w8 : wr .u8 (v.tdiv 8) = v / 8 := by rw [e8]; exact wu8 (by omega) (by omega)
  by_cases hc : n < 64
  · rw [wi64 (n := n + 1) (by omega) (by omega)]
    have go : ∀ l : List Int, l.length = 2 → Nxt (fun x : Int × List Int => 0 ≤ x.1 ∧ x.1 ≤ 64 ∧ x.2.length = 2) (fun _ : List Int ⊕ (Int × Bool × List Int) => True) (fun x => (64 - x.1).toNat) (64 - n).toNat (.go (n + 1, l)) := fun l hl => ⟨⟨by show 0 ≤ n + 1; omega, by show n + 1 ≤ 64; omega, hl⟩, by show (64 - (n + 1)).toNat < (64 - n).toNat; omega⟩
    have hs : ∀ (i : Nat) (y : Int), (ks.set i y).length = 2 := fun i y => by rw [List.length_set]; exact h2
    have ix : ∀ d : Bool, (v.tmod 8 == 6) = true → v ≤ 15 → (decide (0 ≤ wr .u8 (v.tdiv 8)) && decide (wr .u8 (v.tdiv 8) < ↑(2 : Nat)) && (decide (0 ≤ wr .u8 (v.tdiv 8)) && decide (wr .u8 (v.tdiv 8) < ↑(2 : Nat)) && true)) = true := by
      intro _ _ hv
      rw [w8]
      simp
      omega
    refine ⟨c_true (fun _ => a_true (by simp; omega) fun _ => c_true (fun _ => c_true (fun _ => rfl) fun h15 => c_true (fun _ => rfl) fun _ => c_true (fun _ => rfl) fun _ => c_true (fun h6 => ?_) fun _ => rfl) fun hz => c_true (fun h6 => ?_) fun _ => rfl) fun _ => rfl, ?_⟩
    · exact ix true h6 (by simpa using h15)
    · exact ix true h6 (by have : v = 0 := by simpa using hz
                           omega)
    · refine c_ind (fun _ => c_ind (fun _ => c_ind (fun _ => trivial) fun _ => c_ind (fun _ => trivial) fun _ => c_ind (fun _ => trivial) fun _ => c_ind (fun _ => go _ (hs _ _)) fun _ => go _ h2) fun _ => c_ind (fun _ => go _ (hs _ _)) fun _ => go _ h2) fun _ => trivial
  · exact ⟨c_true (fun h => absurd h (by simpa using hc)) fun _ => rfl, c_ind (fun h => absurd h (by simpa using hc)) fun _ => trivial⟩
theorem t18 {p : Pos} (hp : PosIn p) : ok18 p = true := by
  unfold ok18
  exact a_true (of_some (lp18 hp)).1 fun _ => c_true (fun _ => rfl) fun _ => rfl
theorem N7_true {p : Pos} (hp : PosIn p) : ok7 p = true ∧ N7 p = true := by
  have k17 := ok17_true
  have k18 := t18 hp
  have k15 := t15 hp
  have k23 := t23 hp
  constructor
  · unfold ok7
    repeat' (first | with_reducible rfl | with_reducible exact k15 | with_reducible exact k17 | with_reducible exact k18 | with_reducible exact k23 | refine a_true ?_ (fun _ => ?_) | refine c_true (fun _ => ?_) (fun _ => ?_))
  · obtain ⟨w1, w2, w3⟩ := N23_win hp
    have e17 := N17_true
    have e15 : (N23 p).1 ≠ 0 → N15 p = [] := fun h => by
      rw [N15_eq hp, show ((N23 p).1 != 0) = true from by simpa using h]
      rfl
    unfold N7
    refine c_true (fun _ => e17) fun _ => c_true (fun h => c_true (fun _ => e17) fun h2 => ?_) fun h => ?_
    · exfalso
      have h : (N23 p).1 = 0 := by simpa using h
      have h2 : (N23 p).2 ≠ 0 := by simpa using h2
      rcases w1 with w | ⟨w, _⟩ | w
      · rw [w] at h2; exact h2 rfl
      · omega
      · rw [w] at h; cases h
    · have h : (N23 p).1 ≠ 0 := by simpa using h
      obtain ⟨g1, g2, g3⟩ := w3 h
      have e0 : (Int.ofNat (N15 p).length == 0) = true := by rw [e15 h]; rfl
      have hw : (N23 p).2 = 6 ∨ (N23 p).2 = 7 ∨ (N23 p).2 = 8 := by
        rcases w1 with w | ⟨_, w⟩ | w
        · rw [w] at h; exact absurd rfl h
        · exact w
        · rw [w]; exact .inl rfl
      rw [e0]
      have tail : (bif (N23 p).snd == 6 then (bif true then N17 else false) else (bif (N23 p).snd == 7 then (bif true then N17 else false) else (bif (N23 p).snd == 8 then (bif true then N17 else false) else false))) = true := by
        rcases hw with e | e | e <;> simp [e, e17]
      refine c_true (fun g => ?_) fun _ => c_true (fun g => ?_) fun _ => c_true (fun g => c_true (fun _ => tail) fun n3 => c_true (fun _ => tail) fun n8 => ?_) fun g => ?_
      · have : p.variant = 0 := by simpa using g
        omega
      · have : p.variant = 1 := by simpa using g
        omega
      · exfalso
        have n3 : (N23 p).1 = 3 := by simpa using n3
        have n8 : p.variant ≠ 8 := by simpa using n8
        rcases w2 (.inl n3) with e | e
        · exact h e
        · exact n8 e
      · have : p.variant = 2 := by simpa using g
        omega
end Kz
end
section
namespace Kz
open Go Go.RowKit
set_option maxRecDepth 100000
set_option maxHeartbeats 4000000
def cl (h f : Int) (p : Pos) : Pos := ⟨p.variant, p.board, p.promoted, p.pockets, p.turn, p.rooks, p.passing, p.checks, h, f⟩
theorem cl_c (h f : Int) (c : Bool) (x y : Pos) : cl h f (bif c then x else y) = bif c then cl h f x else cl h f y := by cases c <;> rfl
def Stp.map {X X' R R' : Type} (φ : X → X') (ψ : R → R') : Stp X R → Stp X' R'
  | .go x => .go (φ x)
  | .out r => .out (ψ r)
  | .bad => .bad
theorem Stp.map_c {X X' R R' : Type} (φ : X → X') (ψ : R → R') (c : Bool) (x y : Stp X R) : Stp.map φ ψ (bif c then x else y) = bif c then Stp.map φ ψ x else Stp.map φ ψ y := by cases c <;> rfl
theorem itl_map {X X' R R' : Type} {φ : X → X'} {ψ : R → R'} {st : X → Stp X R} {st' : X' → Stp X' R'} (h : ∀ x, st' (φ x) = Stp.map φ ψ (st x)) : ∀ (n : Nat) (x : X), itl st' n (φ x) = (itl st n x).map ψ
  | 0, _ => rfl
  | n + 1, x => by
    rw [itl, itl, h x]
    cases st x with
    | go y => exact itl_map h n y
    | out r => rfl
    | bad => rfl
section
variable (h f : Int) (p : Pos)
theorem cl58 (c : Int) : N58 (cl h f p) c = N58 p c := by kernel_rfl
theorem cl21 (c : Int) : N21 (cl h f p) c = N21 p c := by kernel_rfl
theorem cl62 (a b : Int) : N62 (cl h f p) a b = N62 p a b := by kernel_rfl
theorem cl101 (a b : Int) : N101 (cl h f p) a b = N101 p a b := by kernel_rfl
theorem cl99 (b : Int) : N99 (cl h f p) b = N99 p b := by kernel_rfl
theorem cl93 (m : Mv) : N93 (cl h f p) m = N93 p m := by kernel_rfl
theorem cl_own : own (cl h f p) = own p := by kernel_rfl
theorem cl_oth : oth (cl h f p) = oth p := by kernel_rfl
theorem cl158 (o t : BitVec 64) (x : Int) : N158 (cl h f p, o, t) x = N158 (p, o, t) x := by kernel_rfl
theorem cl_mvs (x t : Int) : mvs (cl h f p) x t = mvs p x t := by kernel_rfl
theorem cl_drops (k : Int) : drops (cl h f p) k = drops p k := by kernel_rfl
theorem cl111 (b c : Int) : N111 (cl h f p) b c = N111 p b c := by kernel_rfl
theorem cl55 : N55 (cl h f p) = N55 p := by
  unfold N55
  simp only [cl101, cl111]
  rfl
theorem cl54 (hv : 0 ≤ p.variant) : N54 (cl h f p) = N54 p := by
  by_cases ht : there p
  · rw [N54_there hv ht, N54_there (p := cl h f p) hv ht, cl_own, cl_oth]
    have e : froms (cl h f p) (cl h f p, own p, oth p) = froms p (p, own p, oth p) := by
      funext x
      unfold froms
      rw [cl158, show mvs (cl h f p) x = mvs p x from funext fun t => cl_mvs h f p x t]
    rw [e]
  · rw [N54_not ht, N54_not (p := cl h f p) ht]
theorem cl56 (h0 : 0 ≤ p.turn) : N56 (cl h f p) = N56 p := by
  rw [N56_eq h0, N56_eq (p := cl h f p) h0, show drops (cl h f p) = drops p from funext fun k => cl_drops h f p k]
  rfl
theorem cl22 (hv : 0 ≤ p.variant) (h0 : 0 ≤ p.turn) : N22 (cl h f p) = N22 p := by
  rw [N22_eq, N22_eq, cl54 h f p hv, cl55, cl56 h f p h0]
theorem cl90a : (N90 (cl h f p)).2 = (N90 p).2 := by
  unfold N90
  show (bif decide (p.turn > 1) then _ else bif decide (p.variant ≥ 9) then _ else _ : (Pos × BitVec 64 × BitVec 64) × Bool).2 = (bif decide (p.turn > 1) then _ else bif decide (p.variant ≥ 9) then _ else _ : (Pos × BitVec 64 × BitVec 64) × Bool).2
  cases decide (p.turn > 1) <;> cases decide (p.variant ≥ 9) <;> rfl
theorem cl90b : (N90 (cl h f p)).1.2.2 = (N90 p).1.2.2 := by
  unfold N90
  show (bif decide (p.turn > 1) then _ else bif decide (p.variant ≥ 9) then _ else (((_ : Pos), _, N62 (cl h f p) (wr IntKind.u8 (1 - p.turn)) 0), _) : (Pos × BitVec 64 × BitVec 64) × Bool).1.2.2 = (bif decide (p.turn > 1) then _ else bif decide (p.variant ≥ 9) then _ else _ : (Pos × BitVec 64 × BitVec 64) × Bool).1.2.2
  rw [cl62]
  cases decide (p.turn > 1) <;> cases decide (p.variant ≥ 9) <;> rfl
theorem cl42 (hv : 0 ≤ p.variant) (m : Mv) : N42 (cl h f p) m = N42 p m := by
  unfold N42
  rw [cl90a, cl90b, cl54 h f p hv]
  rfl
theorem cl24 (hv : 0 ≤ p.variant) (m : Mv) : N24 (cl h f p) m = N24 p m := by
  unfold N24
  rw [cl42 h f p hv]
theorem cl94 (a b : Int) : (N94 (cl h f p) a b).1 = cl h f (N94 p a b).1 := by
  unfold N94
  show (bif !N149 a b then _ else bif p.pockets.getD (scale 6 a + scale 1 b).toNat 0 == 0 then _ else _ : Pos × Bool).1 = cl h f (bif !N149 a b then _ else bif p.pockets.getD (scale 6 a + scale 1 b).toNat 0 == 0 then _ else _ : Pos × Bool).1
  cases N149 a b <;> cases (p.pockets.getD (scale 6 a + scale 1 b).toNat 0 == 0) <;> rfl
theorem cl97 (a b : Int) : N97 (cl h f p) a b = cl h f (N97 p a b) := by
  unfold N97
  show (bif N149 a b then bif decide (p.pockets.getD (scale 6 a + scale 1 b).toNat 0 < 255) then _ else _ else _ : Pos) = cl h f (bif N149 a b then bif decide (p.pockets.getD (scale 6 a + scale 1 b).toNat 0 < 255) then _ else _ else _ : Pos)
  cases N149 a b <;> cases decide (p.pockets.getD (scale 6 a + scale 1 b).toNat 0 < 255) <;> rfl
end
section
variable (h f h2 f2 h3 f3 : Int) (a q p : Pos) (b m : Mv) (c : Int)
theorem clv1 : vF19_1 (cl h3 f3 a) b (cl h f q) (cl h2 f2 p) m c = cl h f (vF19_1 a b q p m c) := by
  unfold vF19_1
  simp only [cl_c, cl93, show (cl h f q).turn = q.turn from rfl, cl94]
  kernel_rfl
theorem clv2 : vF19_2 (cl h3 f3 a) b (cl h f q) (cl h2 f2 p) m c = cl h f (vF19_2 a b q p m c) := by
  unfold vF19_2
  simp only [cl_c, cl93, show (cl h f q).turn = q.turn from rfl, cl97]
  kernel_rfl
def clr (h f : Int) (r : Int × Bool × Pos) : Int × Bool × Pos := (r.1, r.2.1, cl h f r.2.2)
theorem clr_getD {r : Option (Int × Bool × Pos)} (hr : r.isSome = true) : ((r.map (clr h f)).getD default).2.2 = cl h f (r.getD default).2.2 := by
  cases r with
  | none => cases hr
  | some r => rfl
theorem cllp3 (l : List Int) (n : Int) (x : Int × Pos) : lp19_3 l n (cl h3 f3 a) b (cl h2 f2 p) m c (x.1, cl h f x.2) = (lp19_3 l n a b p m c x).map (clr h f) := by
  refine itl_map (φ := fun x : Int × Pos => (x.1, cl h f x.2)) (fun x => ?_) many x
  unfold okL19_3 st19_3
  simp only [Stp.map_c]
  kernel_rfl
theorem cllp6 (u v : Int) (l : List Int) (x : Int × Pos) : lp19_6 u v l (cl h3 f3 a) b (cl h2 f2 p) m c (x.1, cl h f x.2) = (lp19_6 u v l a b p m c x).map (clr h f) := by
  refine itl_map (φ := fun x : Int × Pos => (x.1, cl h f x.2)) (fun x => ?_) many x
  unfold okL19_6 st19_6
  simp only [Stp.map_c]
  kernel_rfl
theorem cllp7 (x : Int × Pos) : lp19_7 (cl h3 f3 a) b (cl h2 f2 p) m c (x.1, cl h f x.2) = (lp19_7 a b p m c x).map (clr h f) := by
  refine itl_map (φ := fun x : Int × Pos => (x.1, cl h f x.2)) (fun x => ?_) many x
  have e := cllp6 h f h2 f2 h3 f3 a p b m c x.1 (N101 x.2 x.1 6) (List.take 2 (List.drop (scale 2 x.1).toNat x.2.rooks)) (0, x.2)
  unfold okL19_7 st19_7
  dsimp only at e ⊢
  rw [cl101, show (cl h f x.2).rooks = x.2.rooks from rfl, e, t101, t101]
  generalize lp19_6 x.1 (N101 x.2 x.1 6) (List.take 2 (List.drop (scale 2 x.1).toNat x.2.rooks)) a b p m c (0, x.2) = o
  cases o with
  | none =>
    cases decide (x.1 ≤ 1)
    · rfl
    · simp [Stp.map]
  | some r =>
    cases decide (x.1 ≤ 1)
    · rfl
    · cases decide (0 ≤ x.1) <;> cases decide (x.1 < Int.ofNat 2) <;> rfl
theorem clv4 {p : Pos} (h1 : ∃ r, lp19_3 (N98 (N99 q (wr IntKind.i64 m.to))) (Int.ofNat (N98 (N99 q (wr IntKind.i64 m.to))).length) a b p m c (0, q) = some r) : vF19_4 (cl h3 f3 a) b (cl h f q) (cl h2 f2 p) m c = cl h f (vF19_4 a b q p m c) := by
  obtain ⟨r, h1⟩ := h1
  have e := cllp3 h f h2 f2 h3 f3 a p b m c (N98 (N99 q (wr IntKind.i64 m.to))) (Int.ofNat (N98 (N99 q (wr IntKind.i64 m.to))).length) (0, q)
  unfold vF19_4
  simp only [cl_c, cl99]
  dsimp only at e
  rw [e, h1]
  rfl
theorem clv8 {p : Pos} (h1 : ∀ r0, (r0 = q.rooks ∨ r0 = List.take (scale 2 q.turn).toNat q.rooks ++ li [-1, -1] ++ List.drop ((scale 2 q.turn).toNat + 2) q.rooks) → ∃ r, lp19_7 a b p m c (0, ⟨q.variant, q.board, q.promoted, q.pockets, q.turn, r0, q.passing, q.checks, q.half, q.full⟩) = some r) : vF19_8 (cl h3 f3 a) b (cl h f q) (cl h2 f2 p) m c = cl h f (vF19_8 a b q p m c) := by
  have e := fun r0 : List Int => cllp7 h f h2 f2 h3 f3 a p b m c (0, ⟨q.variant, q.board, q.promoted, q.pockets, q.turn, r0, q.passing, q.checks, q.half, q.full⟩)
  have k : ∀ r0, (r0 = q.rooks ∨ r0 = List.take (scale 2 q.turn).toNat q.rooks ++ li [-1, -1] ++ List.drop ((scale 2 q.turn).toNat + 2) q.rooks) → ((lp19_7 (cl h3 f3 a) b (cl h2 f2 p) m c (0, ⟨q.variant, q.board, q.promoted, q.pockets, q.turn, r0, q.passing, q.checks, h, f⟩)).getD default).2.2 = cl h f ((lp19_7 a b p m c (0, ⟨q.variant, q.board, q.promoted, q.pockets, q.turn, r0, q.passing, q.checks, q.half, q.full⟩)).getD default).2.2 := fun r0 hr => by
    obtain ⟨r, h1⟩ := h1 r0 hr
    have e := e r0
    dsimp only [cl] at e
    rw [h1] at e ⊢
    show ((lp19_7 (cl h3 f3 a) b (cl h2 f2 p) m c _).getD default).2.2 = _
    rw [show lp19_7 (cl h3 f3 a) b (cl h2 f2 p) m c (0, ⟨q.variant, q.board, q.promoted, q.pockets, q.turn, r0, q.passing, q.checks, h, f⟩) = _ from e]
    rfl
  have k0 := k q.rooks (.inl rfl)
  have k1 := k _ (.inr rfl)
  unfold vF19_8
  simp only [cl_c]
  rw [show cl h f q = ⟨q.variant, q.board, q.promoted, q.pockets, q.turn, q.rooks, q.passing, q.checks, h, f⟩ from rfl]
  dsimp only
  rw [k1, k0]
  rfl
theorem clv9 : vF19_9 (cl h3 f3 a) b (cl h f q) (cl h2 f2 p) m c = cl h f (vF19_9 a b q p m c) := by
  unfold vF19_9
  simp only [cl_c]
  kernel_rfl
theorem clv10 : ∃ h' f', vF19_10 (cl h3 f3 a) b (cl h f q) (cl h2 f2 p) m c = cl h' f' (vF19_10 a b q p m c) := by
  have kc : ∀ {c : Bool} {x y x' y' : Pos}, (∃ h' f', x' = cl h' f' x) → (∃ h' f', y' = cl h' f' y) → ∃ h' f', (bif c then x' else y') = cl h' f' (bif c then x else y) := fun {c x y x' y'} h1 h2 => by
    cases c
    · exact h2
    · exact h1
  unfold vF19_10
  repeat' (first | exact ⟨_, _, rfl⟩ | refine kc ?_ ?_)
theorem clv11 : vF19_11 (cl h3 f3 a) b (cl h f q) (cl h2 f2 p) m c = cl h f (vF19_11 a b q p m c) := by
  unfold vF19_11
  simp only [cl_c]
  kernel_rfl
end
noncomputable def mvd (p : Pos) (m : Mv) : Pos := vF19_11 p m (vF19_10 p m (vF19_9 p m (vF19_8 p m (vF19_4 p m (vF19_2 p m (vF19_1 p m p p m (N42 p m)) p m (N42 p m)) p m (N42 p m)) p m (N42 p m)) p m (N42 p m)) p m (N42 p m)) p m (N42 p m)
theorem N19_mvd (p : Pos) (m : Mv) : N19 p m = bif !N41 (N22 p) m then (p, false) else (mvd p m, true) := rfl
section
variable {p : Pos} (hp : PosIn p)
include hp
theorem mvd_cl (h f : Int) {m : Mv} (hm : m ∈ N22 p) : ∃ h' f', mvd (cl h f p) m = cl h' f' (mvd p m) := by
  obtain ⟨th, f0, f1, _⟩ := N22_mem hp hm
  have hmf : m.drp = 0 → 0 ≤ m.frm ∧ m.frm < 64 := fun _ => ⟨f0, f1⟩
  unfold mvd
  rw [cl42 h f p hp.v0]
  generalize N42 p m = k
  have h1 := vF1_kin hp m p m k
  have h2 := vF2_kin m h1 p m k
  have h4 := vF4_kin m h2 p m k
  have h8 := vF8_kin hp m th.1 h4.2 hmf p m k
  rw [clv1 h f h f h f p p p m m k, clv2 h f h f h f p _ p m m k]
  generalize vF19_1 p m p p m k = q1 at h1 h2 h4 h8 ⊢
  generalize vF19_2 p m q1 p m k = q2 at h2 h4 h8 ⊢
  rw [clv4 h f h f h f p q2 m m k (p := p) (by
    obtain ⟨r, e, _⟩ := lp19_3_kin (p := p) (sqs (N99 q2 (wr .i64 m.to)) 64) (sqs_len _ _) (fun _ h => sqs_in h) h2 p p m m k
    exact ⟨r, by rw [N98_eq]; exact e⟩)]
  have h4 := h4.2
  generalize vF19_4 p m q2 p m k = q4 at h4 h8 ⊢
  rw [clv8 h f h f h f p q4 m m k (p := p) (by
    have hR : Kin p ⟨q4.variant, q4.board, q4.promoted, q4.pockets, q4.turn, List.take (scale 2 q4.turn).toNat q4.rooks ++ li [-1, -1] ++ List.drop ((scale 2 q4.turn).toNat + 2) q4.rooks, q4.passing, q4.checks, q4.half, q4.full⟩ := by
      have t0 := hp.t0
      have t1 := th.1
      refine h4.rooks ?_ ?_
      · have hr := h4.pin.rl
        have : (scale 2 q4.turn).toNat ≤ 2 := by rw [h4.t]; unfold scale; simp; omega
        simp [li, hr]
        omega
      · intro x hx
        simp only [List.mem_append, li] at hx
        rcases hx with (hx | hx) | hx
        · exact h4.pin.r0 x (List.mem_of_mem_take hx)
        · simp at hx; omega
        · exact h4.pin.r0 x (List.mem_of_mem_drop hx)
    rintro r0 (rfl | rfl)
    · obtain ⟨r, e, _⟩ := lp19_7_kin h4 p p m m k
      exact ⟨r, e⟩
    · obtain ⟨r, e, _⟩ := lp19_7_kin hR p p m m k
      exact ⟨r, e⟩)]
  generalize vF19_8 p m q4 p m k = q8
  rw [clv9 h f h f h f p q8 p m m k]
  generalize vF19_9 p m q8 p m k = q9
  obtain ⟨h', f', e⟩ := clv10 h f h f h f p q9 p m m k
  rw [e, clv11 h' f' h f h f]
  exact ⟨h', f', rfl⟩
theorem N19_cl (h f : Int) (m : Mv) : ∃ h' f', N19 (cl h f p) m = (cl h' f' (N19 p m).1, (N19 p m).2) := by
  rw [N19_mvd, N19_mvd, cl22 h f p hp.v0 hp.t0, N41_eq (by have := N22_len hp; omega)]
  by_cases hm : m ∈ N22 p
  · obtain ⟨h', f', e⟩ := mvd_cl hp h f hm
    refine ⟨h', f', ?_⟩
    rw [e]
    simp [hm]
  · refine ⟨h, f, ?_⟩
    simp [hm]
theorem cl25 (h f : Int) (m : Mv) : N25 (cl h f p) m = N25 p m := by
  obtain ⟨h', f', e⟩ := N19_cl hp h f m
  unfold N25
  rw [e]
  simp only [cl58, cl21]
  rfl
theorem cl_wouldL (h f : Int) : wouldL (cl h f p) = wouldL p := by
  unfold wouldL
  rw [cl22 h f p hp.v0 hp.t0, show N25 (cl h f p) = N25 p from funext (cl25 hp h f), show N24 (cl h f p) = N24 p from funext (cl24 h f p hp.v0)]
  rfl
omit hp in
theorem posIn_cl (hp : PosIn p) {h f : Int} (hh : -9223372036854775808 ≤ h ∧ h ≤ 9223372036854775807) (hf : -9223372036854775808 ≤ f ∧ f ≤ 9223372036854775807) : PosIn (cl h f p) :=
  ⟨hp.v0, hp.v1, hp.bl, hp.b0, hp.kl, hp.k0, hp.t0, hp.t1, hp.rl, hp.r0, hp.p0, hp.p1, hp.cl, hp.c0, hh, hf⟩
variable {h f : Int} (hq : PosIn (cl h f p))
include hq
theorem cl37 : N37 (cl h f p) = N37 p := by
  rw [N37_eq hp, N37_eq hq, cl_wouldL hp, cl58]
  rfl
omit hp hq in
theorem cl113 (h f : Int) (p : Pos) : N113 (cl h f p) = N113 p := by kernel_rfl
omit hp hq in
theorem cl114 (h f : Int) (p : Pos) : N114 (cl h f p) = N114 p := by kernel_rfl
omit hp hq in
theorem cl115 (h f : Int) (p : Pos) : N115 (cl h f p) = N115 p := by kernel_rfl
omit hp hq in
theorem cl116 (h f : Int) (p : Pos) : N116 (cl h f p) = N116 p := by kernel_rfl
omit hp hq in
theorem cl117 (h f : Int) (p : Pos) : N117 (cl h f p) = N117 p := by kernel_rfl
omit hp hq in
theorem cllp118 (h f : Int) (p : Pos) (l : List Mv) (n k : Int) : lp118_1 l n (cl h f p) k 0 = lp118_1 l n p k 0 := by kernel_rfl
theorem cl118 : N118 (cl h f p) = N118 p := by
  unfold N118
  rw [cl37 hp hq]
  simp only [cl101, cllp118]
  rfl
theorem cl23 : N23 (cl h f p) = N23 p := by
  unfold N23
  rw [cl113, cl114, cl115, cl116, cl117, cl118 hp hq]
  rfl
theorem cl15 : N15 (cl h f p) = N15 p := by
  unfold N15
  rw [cl23 hp hq, cl37 hp hq]
end
end Kz
end
section
namespace Kz
open Go Go.RowKit Go.Proofs
set_option maxRecDepth 100000
set_option maxHeartbeats 4000000
noncomputable def K6 : List (Nat × List (Nat × List Nat)) := [(6, [(0, (0 :: (rn 4 26 (rn 35 17 [])))), (1, (0 :: (rn 4 9 (rn 14 16 (rn 35 17 []))))), (2, (rn 0 6 (rn 7 45 []))), (3, (0 :: 4 :: 5 :: 6 :: (rn 8 22 (rn 35 17 [])))), (4, (0 :: 1 :: 4 :: 5 :: 6 :: (rn 8 22 (rn 35 17 [])))), (5, (0 :: 1 :: 2 :: 4 :: 5 :: 6 :: (rn 8 22 (rn 35 17 [])))), (6, (0 :: 1 :: 2 :: 4 :: 5 :: 6 :: (rn 10 20 (rn 35 17 [])))), (7, (rn 0 8 (rn 10 25 (rn 36 16 [])))), (8, (rn 0 6 (rn 7 45 []))), (9, (rn 0 8 (rn 11 41 []))), (10, (rn 0 8 (rn 11 28 (rn 40 12 [])))), (11, (rn 0 8 (rn 11 41 []))), (12, (rn 0 8 (rn 11 39 [51]))), (13, (rn 0 6 (rn 7 45 []))), (14, (rn 0 6 (rn 7 45 [])))])]
noncomputable def B6_1 : Base := baseOf Pz (fun f i => lkK f i K6) [(15, G15), (17, G17), (18, G18), (23, G23)] [] []
theorem hB6_1 : BOk B6_1 := base_ok named_z ⟨s15, s17, s18, s23, trivial⟩ trivial trivial
noncomputable def S6_1 (p1 : (List Mv)) (p2 : (List Mv)) (p3 : Pos) (p4 : Pos) (x : (Int)) : St := St.mk (an 8 (AV.list ET.mv p1 Tk.fresh :: AV.list ET.mv p2 Tk.fresh :: AV.int .i64 x :: (an 41 []))) (Hp.mk [(pc p3 []), (pc p4 [])] [] [] 0 0 0)
noncomputable def O6_1 (p1 : (List Mv)) (p2 : (List Mv)) (p3 : Pos) (p4 : Pos) : Unit ⊕ (Int × Bool) → Out
  | (.inl (y)) => .ret (St.mk (an 6 (AV.cbool false :: (an 45 []))) (Hp.mk [(pc p3 []), (pc p4 [])] [] [] 0 0 0))
  | (.inr (y)) => .exit 0 (St.mk (an 8 (AV.list ET.mv p1 Tk.fresh :: AV.list ET.mv p2 Tk.fresh :: AV.int .i64 y.fst :: (an 28 (AV.bool y.snd :: (an 12 []))))) (Hp.mk [(pc p3 []), (pc p4 [])] [] [] 0 0 0))
noncomputable def st6_1 (p1 : (List Mv)) (p2 : (List Mv)) (p3 : Pos) (p4 : Pos) (x : (Int)) : Stp (Int) (Unit ⊕ (Int × Bool)) := (bif decide (x < Int.ofNat p1.length) then (bif eqOut BinOp.neq ((p1.getD x.toNat default).frm == (p2.getD x.toNat default).frm && ((p1.getD x.toNat default).to == (p2.getD x.toNat default).to && ((p1.getD x.toNat default).pro == (p2.getD x.toNat default).pro && ((p1.getD x.toNat default).drp == (p2.getD x.toNat default).drp && ((p1.getD x.toNat default).cas == (p2.getD x.toNat default).cas && true))))) then (Stp.out (.inl (()))) else (Stp.go (wr .i64 (x + 1)))) else (Stp.out (.inr ((x, decide (x < Int.ofNat p1.length))))))
noncomputable def okL6_1 (p1 : (List Mv)) (p2 : (List Mv)) (p3 : Pos) (p4 : Pos) (x : (Int)) : Bool := (bif decide (x < Int.ofNat p1.length) then (decide (0 ≤ x) && decide (x < Int.ofNat p1.length) && (decide (0 ≤ x) && decide (x < Int.ofNat p2.length) && true)) else true)
noncomputable def lp6_1 (p1 : (List Mv)) (p2 : (List Mv)) (p3 : Pos) (p4 : Pos) (x : (Int)) : Option (Unit ⊕ (Int × Bool)) := itl (fun x => bif okL6_1 p1 p2 p3 p4 x then st6_1 p1 p2 p3 p4 x else .bad) many x
theorem E6_1 (p1 : (List Mv)) (p2 : (List Mv)) (p3 : Pos) (p4 : Pos) (x : (Int)) : evCd B6_1 12 6 (bodL Pz 6 10) (S6_1 p1 p2 p3 p4 x) = Tr.br (decide (x < Int.ofNat p1.length)) (Tr.br (decide (0 ≤ x) && decide (x < Int.ofNat p1.length)) (Tr.br (decide (0 ≤ x) && decide (x < Int.ofNat p2.length)) (Tr.br (eqOut BinOp.neq ((p1.getD x.toNat default).frm == (p2.getD x.toNat default).frm && ((p1.getD x.toNat default).to == (p2.getD x.toNat default).to && ((p1.getD x.toNat default).pro == (p2.getD x.toNat default).pro && ((p1.getD x.toNat default).drp == (p2.getD x.toNat default).drp && ((p1.getD x.toNat default).cas == (p2.getD x.toNat default).cas && true)))))) (Tr.ret (Out.ret (St.mk (an 6 (AV.cbool false :: (an 45 []))) (Hp.mk [(pc p3 []), (pc p4 [])] [] [] 0 0 0)))) (Tr.ret (Out.norm (St.mk (an 8 (AV.list ET.mv p1 Tk.fresh :: AV.list ET.mv p2 Tk.fresh :: AV.int .i64 (wr .i64 (x + 1)) :: (an 41 []))) (Hp.mk [(pc p3 []), (pc p4 [])] [] [] 0 0 0))))) Tr.fail) Tr.fail) (Tr.ret (Out.exit 0 (St.mk (an 8 (AV.list ET.mv p1 Tk.fresh :: AV.list ET.mv p2 Tk.fresh :: AV.int .i64 x :: (an 28 (AV.bool (decide (x < Int.ofNat p1.length)) :: (an 12 []))))) (Hp.mk [(pc p3 []), (pc p4 [])] [] [] 0 0 0)))) := by kernel_rfl
theorem L6_1 (p1 : (List Mv)) (p2 : (List Mv)) (p3 : Pos) (p4 : Pos) (x : (Int)) (r : Unit ⊕ (Int × Bool)) (h : lp6_1 p1 p2 p3 p4 x = some r) : LSpec Pz (bodL Pz 6 10) (S6_1 p1 p2 p3 p4 x) (O6_1 p1 p2 p3 p4 r) := LSpec.itd (S := S6_1 p1 p2 p3 p4) (O := O6_1 p1 p2 p3 p4) (ok := okL6_1 p1 p2 p3 p4) (st := st6_1 p1 p2 p3 p4) hB6_1 (fun x => gr_eq (E6_1 p1 p2 p3 p4 x) (gr_br (gr_guard (gr_guard (gr_br2 (gr_ret (rl_ret rfl (wk_nrm (ks := (rn 0 6 (rn 7 45 []))) (gs := []) (b := false) rfl (by kernel_rfl)))) (gr_ret (rl_go (wk_nrm (ks := (rn 0 8 (rn 11 41 []))) (gs := [8, 9, 10]) (b := true) rfl (by kernel_rfl))))))) (gr_ret (rl_exit rfl (wk_nrm (ks := (rn 0 8 (rn 11 28 (rn 40 12 [])))) (gs := []) (b := false) rfl (by kernel_rfl)))))) many x r h
noncomputable def F6_1 : Code → St → Tr Out := fun b s => .br (isL ((lp6_1 (tL (ET.mv) (tT s 8)) (tL (ET.mv) (tT s 9)) (Kz.Pos.mk (tI (tH s 0 0)) (tN (tH s 0 1)) (tU (tH s 0 2)) (tN (tH s 0 3)) (tI (tH s 0 4)) (tN (tH s 0 5)) (tI (tH s 0 6)) (tN (tH s 0 7)) (tI (tH s 0 8)) (tI (tH s 0 9))) (Kz.Pos.mk (tI (tH s 1 0)) (tN (tH s 1 1)) (tU (tH s 1 2)) (tN (tH s 1 3)) (tI (tH s 1 4)) (tN (tH s 1 5)) (tI (tH s 1 6)) (tN (tH s 1 7)) (tI (tH s 1 8)) (tI (tH s 1 9))) ((tI (tT s 10)))).getD default)) (sureL Pz (fun s => O6_1 (tL (ET.mv) (tT s 8)) (tL (ET.mv) (tT s 9)) (Kz.Pos.mk (tI (tH s 0 0)) (tN (tH s 0 1)) (tU (tH s 0 2)) (tN (tH s 0 3)) (tI (tH s 0 4)) (tN (tH s 0 5)) (tI (tH s 0 6)) (tN (tH s 0 7)) (tI (tH s 0 8)) (tI (tH s 0 9))) (Kz.Pos.mk (tI (tH s 1 0)) (tN (tH s 1 1)) (tU (tH s 1 2)) (tN (tH s 1 3)) (tI (tH s 1 4)) (tN (tH s 1 5)) (tI (tH s 1 6)) (tN (tH s 1 7)) (tI (tH s 1 8)) (tI (tH s 1 9))) (.inl (gl ((lp6_1 (tL (ET.mv) (tT s 8)) (tL (ET.mv) (tT s 9)) (Kz.Pos.mk (tI (tH s 0 0)) (tN (tH s 0 1)) (tU (tH s 0 2)) (tN (tH s 0 3)) (tI (tH s 0 4)) (tN (tH s 0 5)) (tI (tH s 0 6)) (tN (tH s 0 7)) (tI (tH s 0 8)) (tI (tH s 0 9))) (Kz.Pos.mk (tI (tH s 1 0)) (tN (tH s 1 1)) (tU (tH s 1 2)) (tN (tH s 1 3)) (tI (tH s 1 4)) (tN (tH s 1 5)) (tI (tH s 1 6)) (tN (tH s 1 7)) (tI (tH s 1 8)) (tI (tH s 1 9))) ((tI (tT s 10)))).getD default)))) b s) (sureL Pz (fun s => O6_1 (tL (ET.mv) (tT s 8)) (tL (ET.mv) (tT s 9)) (Kz.Pos.mk (tI (tH s 0 0)) (tN (tH s 0 1)) (tU (tH s 0 2)) (tN (tH s 0 3)) (tI (tH s 0 4)) (tN (tH s 0 5)) (tI (tH s 0 6)) (tN (tH s 0 7)) (tI (tH s 0 8)) (tI (tH s 0 9))) (Kz.Pos.mk (tI (tH s 1 0)) (tN (tH s 1 1)) (tU (tH s 1 2)) (tN (tH s 1 3)) (tI (tH s 1 4)) (tN (tH s 1 5)) (tI (tH s 1 6)) (tN (tH s 1 7)) (tI (tH s 1 8)) (tI (tH s 1 9))) (.inr (gr ((lp6_1 (tL (ET.mv) (tT s 8)) (tL (ET.mv) (tT s 9)) (Kz.Pos.mk (tI (tH s 0 0)) (tN (tH s 0 1)) (tU (tH s 0 2)) (tN (tH s 0 3)) (tI (tH s 0 4)) (tN (tH s 0 5)) (tI (tH s 0 6)) (tN (tH s 0 7)) (tI (tH s 0 8)) (tI (tH s 0 9))) (Kz.Pos.mk (tI (tH s 1 0)) (tN (tH s 1 1)) (tU (tH s 1 2)) (tN (tH s 1 3)) (tI (tH s 1 4)) (tN (tH s 1 5)) (tI (tH s 1 6)) (tN (tH s 1 7)) (tI (tH s 1 8)) (tI (tH s 1 9))) ((tI (tT s 10)))).getD default)))) b s)
theorem sF6_1 : ∀ b, LSound Pz b (F6_1 b) := brL_sound (c := fun s => isL ((lp6_1 (tL (ET.mv) (tT s 8)) (tL (ET.mv) (tT s 9)) (Kz.Pos.mk (tI (tH s 0 0)) (tN (tH s 0 1)) (tU (tH s 0 2)) (tN (tH s 0 3)) (tI (tH s 0 4)) (tN (tH s 0 5)) (tI (tH s 0 6)) (tN (tH s 0 7)) (tI (tH s 0 8)) (tI (tH s 0 9))) (Kz.Pos.mk (tI (tH s 1 0)) (tN (tH s 1 1)) (tU (tH s 1 2)) (tN (tH s 1 3)) (tI (tH s 1 4)) (tN (tH s 1 5)) (tI (tH s 1 6)) (tN (tH s 1 7)) (tI (tH s 1 8)) (tI (tH s 1 9))) ((tI (tT s 10)))).getD default)) sureL_sound sureL_sound
noncomputable def B6 : Base := baseOf Pz (fun f i => lkK f i K6) [(15, G15), (17, G17), (18, G18), (23, G23)] [(6, 10, F6_1)] []
theorem hB6 : BOk B6 := base_ok named_z ⟨s15, s17, s18, s23, trivial⟩ ⟨sF6_1, trivial⟩ trivial
noncomputable def N6 (a : Pos) (b : Int) (c : Int) : Bool := (bif !N18 a then (N17) else (bif eqOut BinOp.neq ((N23 a).fst == (N23 (Pos.mk a.variant a.board a.promoted a.pockets a.turn a.rooks a.passing a.checks b c)).fst && ((N23 a).snd == (N23 (Pos.mk a.variant a.board a.promoted a.pockets a.turn a.rooks a.passing a.checks b c)).snd && true)) then (false) else (bif Int.ofNat (N15 a).length != Int.ofNat (N15 (Pos.mk a.variant a.board a.promoted a.pockets a.turn a.rooks a.passing a.checks b c)).length then (false) else (bif isL ((lp6_1 (N15 a) (N15 (Pos.mk a.variant a.board a.promoted a.pockets a.turn a.rooks a.passing a.checks b c)) a (Pos.mk a.variant a.board a.promoted a.pockets a.turn a.rooks a.passing a.checks b c) 0).getD default) then (false) else (N17)))))
noncomputable def ok6 (a : Pos) (b : Int) (c : Int) : Bool := (ok18 (a) && (bif !N18 a then (ok17  && true) else (ok15 (a) && (ok15 (Pos.mk a.variant a.board a.promoted a.pockets a.turn a.rooks a.passing a.checks b c) && (ok23 (a) && (ok23 (Pos.mk a.variant a.board a.promoted a.pockets a.turn a.rooks a.passing a.checks b c) && (bif eqOut BinOp.neq ((N23 a).fst == (N23 (Pos.mk a.variant a.board a.promoted a.pockets a.turn a.rooks a.passing a.checks b c)).fst && ((N23 a).snd == (N23 (Pos.mk a.variant a.board a.promoted a.pockets a.turn a.rooks a.passing a.checks b c)).snd && true)) then true else (bif Int.ofNat (N15 a).length != Int.ofNat (N15 (Pos.mk a.variant a.board a.promoted a.pockets a.turn a.rooks a.passing a.checks b c)).length then true else ((lp6_1 (N15 a) (N15 (Pos.mk a.variant a.board a.promoted a.pockets a.turn a.rooks a.passing a.checks b c)) a (Pos.mk a.variant a.board a.promoted a.pockets a.turn a.rooks a.passing a.checks b c) 0).isSome && bif isL ((lp6_1 (N15 a) (N15 (Pos.mk a.variant a.board a.promoted a.pockets a.turn a.rooks a.passing a.checks b c)) a (Pos.mk a.variant a.board a.promoted a.pockets a.turn a.rooks a.passing a.checks b c) 0).getD default) then true else (ok17  && true))))))))))
theorem E6 (a : Pos) (b : Int) (c : Int) : evPure B6 14 6 [Pos.av a, .int .i64 b, .int .i64 c] = (let z1 := (Pos.mk a.variant a.board a.promoted a.pockets a.turn a.rooks a.passing a.checks b c); let z2 := (St.mk (an 8 (AV.list ET.mv (N15 a) Tk.fresh :: AV.list ET.mv (N15 z1) Tk.fresh :: AV.cint .i64 0 :: (an 41 []))) (Hp.mk [(pc a []), [AV.int .u8 a.variant, AV.ints .u8 64 a.board, AV.u64 a.promoted, AV.ints .u8 12 a.pockets, AV.int .u8 a.turn, AV.ints .i8 4 a.rooks, AV.int .i8 a.passing, AV.ints .u8 2 a.checks, AV.int .i64 b, AV.int .i64 c]] [] [] 0 0 0)); let z3 := ((lp6_1 (N15 a) (N15 z1) a z1 0).getD default); let z4 := (Tr.br (isPS Pz 17 [] (dB.res N17)) (Tr.ret (AV.bool N17)) Tr.fail); Tr.br (isPS Pz 18 [a.av] (dB.res (N18 a))) (Tr.br (!N18 a) z4 (Tr.br (isPS Pz 15 [a.av] ((dL ET.mv).res (N15 a))) (Tr.br (isPS Pz 15 [z1.av] ((dL ET.mv).res (N15 z1))) (Tr.br (isPS Pz 23 [a.av] ((dR .u8 .u8).res (N23 a))) (Tr.br (isPS Pz 23 [z1.av] ((dR .u8 .u8).res (N23 z1))) (Tr.br (eqOut BinOp.neq ((N23 a).fst == (N23 z1).fst && ((N23 a).snd == (N23 z1).snd && true))) (Tr.ret (AV.cbool false)) (Tr.br (Int.ofNat (N15 a).length != Int.ofNat (N15 z1).length) (Tr.ret (AV.cbool false)) (Tr.br (isL z3) (Tr.br (isLS Pz (bodL Pz 6 10) z2 (O6_1 (N15 a) (N15 z1) a z1 (Sum.inl (gl z3)))) (Tr.ret (AV.cbool false)) Tr.fail) (Tr.br (isLS Pz (bodL Pz 6 10) z2 (O6_1 (N15 a) (N15 z1) a z1 (Sum.inr (gr z3)))) z4 Tr.fail)))) Tr.fail) Tr.fail) Tr.fail) Tr.fail)) Tr.fail) := by kernel_rfl
theorem P6 (a : Pos) (b : Int) (c : Int) (h : ok6 a b c = true) : PS Pz 6 [Pos.av a, .int .i64 b, .int .i64 c] (dB.res (N6 a b c)) := ps_gotR hB6 (E6 a b c) (gr_call (P18 (a)) (gr_br (gr_call (P17 ) (gr_ret rfl)) (gr_call (P15 (a)) (gr_call (P15 (Pos.mk a.variant a.board a.promoted a.pockets a.turn a.rooks a.passing a.checks b c)) (gr_call (P23 (a)) (gr_call (P23 (Pos.mk a.variant a.board a.promoted a.pockets a.turn a.rooks a.passing a.checks b c)) (gr_br (gr_ret rfl) (gr_br (gr_ret rfl) (gr_loop2 (fun h => L6_1 (N15 a) (N15 (Pos.mk a.variant a.board a.promoted a.pockets a.turn a.rooks a.passing a.checks b c)) (a) (Pos.mk a.variant a.board a.promoted a.pockets a.turn a.rooks a.passing a.checks b c) (0) _ (some_getD h)) (wk_nrm (ks := (rn 0 8 (rn 11 41 []))) (gs := [8, 9, 10]) (b := true) rfl (by kernel_rfl)) (gr_ret rfl) (gr_call (P17 ) (gr_ret rfl))))))))))) h
noncomputable def G6 : List AV → Tr AV := g3 dPos (dI .i64) (dI .i64) (fun a b c => sure Pz 6 [Pos.av a, .int .i64 b, .int .i64 c] (dB.res (N6 a b c)))
theorem s6 : Sound Pz 6 G6 := sound3 (fun _ _ _ => at_sure)
end Kz
end
section
namespace Kz
open Go Go.RowKit
set_option maxRecDepth 100000
set_option maxHeartbeats 4000000
theorem lp6 (l : List Mv) (a b : Pos) (hl : l.length ≤ 1000000) : ∃ r, lp6_1 l l a b 0 = some r ∧ isL r = false := by
  refine lp_many (I := fun x => 0 ≤ x ∧ x ≤ (l.length : Int)) (μ := fun x => ((l.length : Int) - x).toNat) ?_ _ ⟨by simp, by simp⟩ (by simp; omega)
  rintro n ⟨h0, h1⟩
  by_cases hc : n < l.length
  · refine ⟨c_true (fun _ => a_true (by simp [h0]; exact hc) fun _ => a_true (by simp [h0]; exact hc) fun _ => rfl) fun _ => rfl, c_ind (fun _ => c_ind (fun h => ?_) fun _ => ?_) fun h => absurd h (by simpa using hc)⟩
    · rw [mv_eq_iff] at h
      simp [eqOut] at h
    · rw [wi64 (n := n + 1) (by omega) (by omega)]
      exact ⟨⟨by omega, by omega⟩, by dsimp only; omega⟩
  · exact ⟨c_true (fun h => absurd h (by simpa using hc)) fun _ => rfl, c_ind (fun h => absurd h (by simpa using hc)) fun _ => rfl⟩
theorem N6_true {p : Pos} (hp : PosIn p) {b c : Int} (hb : -9223372036854775808 ≤ b ∧ b ≤ 9223372036854775807) (hc : -9223372036854775808 ≤ c ∧ c ≤ 9223372036854775807) : ok6 p b c = true ∧ N6 p b c = true := by
  have hq : PosIn (cl b c p) := posIn_cl hp hb hc
  have k17 := ok17_true
  have e17 := N17_true
  have k18 := t18 hp
  have k15 := t15 hp
  have k23 := t23 hp
  have j15 := t15 hq
  have j23 := t23 hq
  have e15 := cl15 hp hq
  have e23 := cl23 hp hq
  have hl := of_some (lp6 (N15 p) p (cl b c p) (by have := N15_len hp; omega))
  have eq0 : eqOut BinOp.neq ((N23 p).fst == (N23 p).fst && ((N23 p).snd == (N23 p).snd && true)) = false := by simp [eqOut]
  constructor
  · unfold ok6
    rw [show (Pos.mk p.variant p.board p.promoted p.pockets p.turn p.rooks p.passing p.checks b c) = cl b c p from rfl, e15, e23, k18, k17, k15, j15, k23, j23, eq0, hl.1, hl.2]
    simp
  · unfold N6
    rw [show (Pos.mk p.variant p.board p.promoted p.pockets p.turn p.rooks p.passing p.checks b c) = cl b c p from rfl, e15, e23, eq0, hl.2, e17]
    simp
end Kz
end
section
namespace Kz
open Go Go.RowKit Go.Proofs
set_option maxRecDepth 100000
set_option maxHeartbeats 4000000
noncomputable def K26 : List (Nat × List (Nat × List Nat)) := [(26, [(0, (0 :: (rn 2 15 []))), (1, (0 :: 2 :: (rn 4 13 []))), (2, (0 :: 2 :: 4 :: (rn 6 11 []))), (3, (0 :: 2 :: (rn 4 13 []))), (4, (0 :: 2 :: (rn 4 12 []))), (5, (0 :: 1 :: (rn 3 14 []))), (6, (0 :: 1 :: (rn 3 14 [])))])]
noncomputable def B26_1 : Base := baseOf Pz (fun f i => lkK f i K26) [] [] []
theorem hB26_1 : BOk B26_1 := base_ok named_z trivial trivial trivial
noncomputable def S26_1 (p1 : Pos) (x : (Int)) : St := St.mk (AV.any :: AV.ptr 0 0 :: AV.any :: AV.int .i64 x :: (an 13 [])) (Hp.mk [(pc p1 [])] [] [] 0 0 0)
noncomputable def O26_1 (p1 : Pos) : Unit ⊕ (Int × Bool) → Out
  | (.inl (y)) => .ret (St.mk (AV.any :: AV.any :: AV.cbool true :: (an 14 [])) (Hp.mk [(pc p1 [])] [] [] 0 0 0))
  | (.inr (y)) => .exit 0 (St.mk (AV.any :: AV.ptr 0 0 :: AV.any :: AV.int .i64 y.fst :: AV.any :: AV.bool y.snd :: (an 11 [])) (Hp.mk [(pc p1 [])] [] [] 0 0 0))
noncomputable def st26_1 (p1 : Pos) (x : (Int)) : Stp (Int) (Unit ⊕ (Int × Bool)) := (bif decide (x < 64) then (bif p1.board.getD (scale 1 x).toNat 0 == wr .u8 (wr .u8 (8 * p1.turn) + 6) then (Stp.out (.inl (()))) else (Stp.go (wr .i64 (x + 1)))) else (Stp.out (.inr ((x, decide (x < 64))))))
noncomputable def okL26_1 (p1 : Pos) (x : (Int)) : Bool := (bif decide (x < 64) then (decide (0 ≤ x) && decide (x < ↑64) && true) else true)
noncomputable def lp26_1 (p1 : Pos) (x : (Int)) : Option (Unit ⊕ (Int × Bool)) := itl (fun x => bif okL26_1 p1 x then st26_1 p1 x else .bad) many x
theorem E26_1 (p1 : Pos) (x : (Int)) : evC (envAt B26_1 12) (evL B26_1 12) 26 (bodL Pz 26 2) (S26_1 p1 x) = Tr.br (decide (x < 64)) (Tr.br (decide (0 ≤ x) && decide (x < ↑64)) (Tr.br (p1.board.getD (scale 1 x).toNat 0 == wr .u8 (wr .u8 (8 * p1.turn) + 6)) (Tr.ret (Out.ret (St.mk (AV.any :: AV.any :: AV.cbool true :: (an 14 [])) (Hp.mk [(pc p1 [])] [] [] 0 0 0)))) (Tr.ret (Out.norm (St.mk (AV.any :: AV.ptr 0 0 :: AV.any :: AV.int .i64 (wr .i64 (x + 1)) :: (an 13 [])) (Hp.mk [(pc p1 [])] [] [] 0 0 0))))) Tr.fail) (Tr.ret (Out.exit 0 (St.mk (AV.any :: AV.ptr 0 0 :: AV.any :: AV.int .i64 x :: AV.any :: AV.bool (decide (x < 64)) :: (an 11 [])) (Hp.mk [(pc p1 [])] [] [] 0 0 0)))) := by kernel_rfl
theorem L26_1 (p1 : Pos) (x : (Int)) (r : Unit ⊕ (Int × Bool)) (h : lp26_1 p1 x = some r) : LSpec Pz (bodL Pz 26 2) (S26_1 p1 x) (O26_1 p1 r) := LSpec.itl (S := S26_1 p1) (O := O26_1 p1) (ok := okL26_1 p1) (st := st26_1 p1) hB26_1 (fun x => gr_eq (E26_1 p1 x) (gr_br (gr_guard (gr_br2 (gr_ret (rl_ret rfl (wk_nrm (ks := (0 :: 1 :: (rn 3 14 []))) (gs := []) (b := true) rfl (by kernel_rfl)))) (gr_ret (rl_go (wk_nrm (ks := (0 :: 2 :: (rn 4 13 []))) (gs := [3]) (b := true) rfl (by kernel_rfl)))))) (gr_ret (rl_exit rfl (wk_nrm (ks := (0 :: 2 :: 4 :: (rn 6 11 []))) (gs := [3, 5]) (b := true) rfl (by kernel_rfl)))))) many x r h
noncomputable def F26_1 : Code → St → Tr Out := fun b s => .br (isL ((lp26_1 (Kz.Pos.mk (tI (tH s 0 0)) (tN (tH s 0 1)) (tU (tH s 0 2)) (tN (tH s 0 3)) (tI (tH s 0 4)) (tN (tH s 0 5)) (tI (tH s 0 6)) (tN (tH s 0 7)) (tI (tH s 0 8)) (tI (tH s 0 9))) ((tI (tT s 3)))).getD default)) (sureL Pz (fun s => O26_1 (Kz.Pos.mk (tI (tH s 0 0)) (tN (tH s 0 1)) (tU (tH s 0 2)) (tN (tH s 0 3)) (tI (tH s 0 4)) (tN (tH s 0 5)) (tI (tH s 0 6)) (tN (tH s 0 7)) (tI (tH s 0 8)) (tI (tH s 0 9))) (.inl (gl ((lp26_1 (Kz.Pos.mk (tI (tH s 0 0)) (tN (tH s 0 1)) (tU (tH s 0 2)) (tN (tH s 0 3)) (tI (tH s 0 4)) (tN (tH s 0 5)) (tI (tH s 0 6)) (tN (tH s 0 7)) (tI (tH s 0 8)) (tI (tH s 0 9))) ((tI (tT s 3)))).getD default)))) b s) (sureL Pz (fun s => O26_1 (Kz.Pos.mk (tI (tH s 0 0)) (tN (tH s 0 1)) (tU (tH s 0 2)) (tN (tH s 0 3)) (tI (tH s 0 4)) (tN (tH s 0 5)) (tI (tH s 0 6)) (tN (tH s 0 7)) (tI (tH s 0 8)) (tI (tH s 0 9))) (.inr (gr ((lp26_1 (Kz.Pos.mk (tI (tH s 0 0)) (tN (tH s 0 1)) (tU (tH s 0 2)) (tN (tH s 0 3)) (tI (tH s 0 4)) (tN (tH s 0 5)) (tI (tH s 0 6)) (tN (tH s 0 7)) (tI (tH s 0 8)) (tI (tH s 0 9))) ((tI (tT s 3)))).getD default)))) b s)
theorem sF26_1 : ∀ b, LSound Pz b (F26_1 b) := brL_sound (c := fun s => isL ((lp26_1 (Kz.Pos.mk (tI (tH s 0 0)) (tN (tH s 0 1)) (tU (tH s 0 2)) (tN (tH s 0 3)) (tI (tH s 0 4)) (tN (tH s 0 5)) (tI (tH s 0 6)) (tN (tH s 0 7)) (tI (tH s 0 8)) (tI (tH s 0 9))) ((tI (tT s 3)))).getD default)) sureL_sound sureL_sound
noncomputable def B26 : Base := baseOf Pz (fun f i => lkK f i K26) [] [(26, 2, F26_1)] []
theorem hB26 : BOk B26 := base_ok named_z trivial ⟨sF26_1, trivial⟩ trivial
noncomputable def N26 (a : Pos) : Bool := (bif isL ((lp26_1 (Pos.mk a.variant a.board a.promoted a.pockets a.turn a.rooks a.passing a.checks a.half a.full) 0).getD default) then (true) else (false))
noncomputable def ok26 (a : Pos) : Bool := ((lp26_1 (Pos.mk a.variant a.board a.promoted a.pockets a.turn a.rooks a.passing a.checks a.half a.full) 0).isSome && bif isL ((lp26_1 (Pos.mk a.variant a.board a.promoted a.pockets a.turn a.rooks a.passing a.checks a.half a.full) 0).getD default) then true else true)
theorem E26 (a : Pos) : evPure B26 14 26 [Pos.av a] = Tr.br (isL ((lp26_1 (Pos.mk a.variant a.board a.promoted a.pockets a.turn a.rooks a.passing a.checks a.half a.full) 0).getD default)) (Tr.br (isLS Pz (bodL Pz 26 2) (St.mk (AV.any :: AV.ptr 0 0 :: AV.any :: AV.cint .i64 0 :: (an 13 [])) (Hp.mk [(pc a [])] [] [] 0 0 0)) (O26_1 (Pos.mk a.variant a.board a.promoted a.pockets a.turn a.rooks a.passing a.checks a.half a.full) (Sum.inl (gl ((lp26_1 (Pos.mk a.variant a.board a.promoted a.pockets a.turn a.rooks a.passing a.checks a.half a.full) 0).getD default))))) (Tr.ret (AV.cbool true)) Tr.fail) (Tr.br (isLS Pz (bodL Pz 26 2) (St.mk (AV.any :: AV.ptr 0 0 :: AV.any :: AV.cint .i64 0 :: (an 13 [])) (Hp.mk [(pc a [])] [] [] 0 0 0)) (O26_1 (Pos.mk a.variant a.board a.promoted a.pockets a.turn a.rooks a.passing a.checks a.half a.full) (Sum.inr (gr ((lp26_1 (Pos.mk a.variant a.board a.promoted a.pockets a.turn a.rooks a.passing a.checks a.half a.full) 0).getD default))))) (Tr.ret (AV.cbool false)) Tr.fail) := by kernel_rfl
theorem P26 (a : Pos) (h : ok26 a = true) : PS Pz 26 [Pos.av a] (dB.res (N26 a)) := ps_gotR hB26 (E26 a) (gr_loop2 (fun h => L26_1 (Pos.mk a.variant a.board a.promoted a.pockets a.turn a.rooks a.passing a.checks a.half a.full) (0) _ (some_getD h)) (wk_nrm (ks := (0 :: 2 :: (rn 4 13 []))) (gs := [3]) (b := true) rfl (by kernel_rfl)) (gr_ret rfl) (gr_ret rfl)) h
noncomputable def G26 : List AV → Tr AV := g1 dPos (fun a => sure Pz 26 [Pos.av a] (dB.res (N26 a)))
theorem s26 : Sound Pz 26 G26 := sound1 (fun _ => at_sure)
end Kz
end
section
namespace Kz
open Go Go.RowKit
set_option maxRecDepth 100000
set_option maxHeartbeats 4000000
theorem tOf_king : ∀ (c : Fin 2) (v : Fin 256), tOf c.val 6 v.val = decide (v.val = 8 * c.val + 6) := by decide +kernel
theorem tOf_king' {c v : Int} (hc : c = 0 ∨ c = 1) (h0 : 0 ≤ v) (h1 : v ≤ 255) : tOf c 6 v = decide (v = 8 * c + 6) := by
  obtain ⟨n, rfl⟩ := Int.eq_ofNat_of_zero_le h0
  have hn : n < 256 := by omega
  rcases hc with rfl | rfl
  · have := tOf_king 0 ⟨n, hn⟩
    simp only [Fin.isValue, Fin.val_zero, Int.natCast_zero] at this
    rw [this]
    apply decide_eq_decide.2; omega
  · have := tOf_king 1 ⟨n, hn⟩
    simp only [Fin.isValue, Fin.val_one, Int.natCast_one] at this
    rw [this]
    apply decide_eq_decide.2; omega
theorem has_iff {p : Pos} (hp : PosIn p) {c : Int} (hc : c = 0 ∨ c = 1) : N58 p c = true ↔ ∃ i : Nat, i < 64 ∧ p.board.getD i 0 = 8 * c + 6 := by
  have hb := fun i => bd_in hp i
  unfold N58
  simp only [decide_eq_true_eq, ge_iff_le]
  rcases N101_cases p c 6 with ⟨h1, h2⟩ | ⟨j, h1, h2, h3, _⟩
  · rw [h1]
    constructor
    · intro h; omega
    · rintro ⟨i, hi, he⟩
      have := h2 i hi
      rw [tOf_king' hc (hb i).1 (hb i).2, he] at this
      simp at this
  · rw [h2]
    constructor
    · intro _
      refine ⟨j, h1, ?_⟩
      rw [tOf_king' hc (hb j).1 (hb j).2] at h3
      simpa using h3
    · intro _; omega
theorem lp26 {p : Pos} (ht : p.turn = 0 ∨ p.turn = 1) : ∃ r, lp26_1 p 0 = some r ∧ (isL r = true ↔ ∃ i : Nat, i < 64 ∧ p.board.getD i 0 = 8 * p.turn + 6) := by
  refine lp_many (I := fun x => 0 ≤ x ∧ x ≤ 64 ∧ ∀ i : Nat, (i : Int) < x → p.board.getD i 0 ≠ 8 * p.turn + 6) (μ := fun x => (64 - x).toNat) ?_ _ ⟨by simp, by simp, fun i hi => by omega⟩ (by simp)
  rintro n ⟨h0, h1, h2⟩
  have hk : wr IntKind.u8 (wr IntKind.u8 (8 * p.turn) + 6) = 8 * p.turn + 6 := by
    rcases ht with h | h <;> rw [h] <;> decide
  by_cases hc : n < 64
  · refine ⟨c_true (fun _ => a_true (by simp; omega) fun _ => rfl) fun _ => rfl, c_ind (fun _ => c_ind (fun h => ?_) fun h => ?_) fun h => absurd h (by simpa using hc)⟩
    · rw [hk, scale1] at h
      have h : p.board.getD n.toNat 0 = 8 * p.turn + 6 := by simpa using h
      exact ⟨fun _ => ⟨n.toNat, by omega, h⟩, fun _ => rfl⟩
    · rw [hk, scale1] at h
      have h : p.board.getD n.toNat 0 ≠ 8 * p.turn + 6 := by simpa using h
      rw [wi64 (n := n + 1) (by omega) (by omega)]
      refine ⟨⟨by omega, by omega, fun i hi => ?_⟩, by dsimp only; omega⟩
      by_cases e : (i : Int) = n
      · rw [show i = n.toNat by omega]; exact h
      · exact h2 i (by omega)
  · refine ⟨c_true (fun h => absurd h (by simpa using hc)) fun _ => rfl, c_ind (fun h => absurd h (by simpa using hc)) fun _ => ?_⟩
    exact ⟨fun h => by simp [isL] at h, fun ⟨i, hi, h⟩ => absurd h (h2 i (by omega))⟩
theorem N26_has {p : Pos} (hp : PosIn p) (ht : p.turn = 0 ∨ p.turn = 1) : ok26 p = true ∧ N26 p = N58 p p.turn := by
  have h := of_some (lp26 ht)
  constructor
  · exact a_true h.1 fun _ => c_true (fun _ => rfl) fun _ => rfl
  · have e : N26 p = isL ((lp26_1 p 0).getD default) := by
      unfold N26
      rw [show (Pos.mk p.variant p.board p.promoted p.pockets p.turn p.rooks p.passing p.checks p.half p.full) = p from rfl]
      cases isL ((lp26_1 p 0).getD default) <;> rfl
    rw [e, Bool.eq_iff_iff, h.2, has_iff hp ht]
end Kz
end
section
namespace Kz
open Go Go.RowKit Go.Proofs
set_option maxRecDepth 100000
set_option maxHeartbeats 4000000
noncomputable def K5 : List (Nat × List (Nat × List Nat)) := [(5, [(0, (0 :: (rn 2 24 (29 :: 30 :: (rn 36 12 (rn 57 9 (rn 76 9 (rn 88 8 (98 :: 99 :: 102 :: 103 :: (rn 114 6 [126, 127, 129])))))))))), (1, (0 :: (rn 2 10 (rn 13 13 (29 :: 30 :: (rn 36 12 (rn 57 9 (rn 76 9 (rn 88 8 (98 :: 99 :: 102 :: 103 :: (rn 114 6 [126, 127, 129]))))))))))), (2, (0 :: 1 :: (rn 3 127 []))), (3, (0 :: 2 :: (rn 4 22 (29 :: 30 :: (rn 36 12 (rn 57 9 (rn 76 9 (rn 88 8 (98 :: 99 :: 102 :: 103 :: (rn 114 6 [126, 127, 129])))))))))), (4, (0 :: 2 :: (rn 5 21 (29 :: 30 :: (rn 36 12 (rn 57 9 (rn 76 9 (rn 88 8 (98 :: 99 :: 102 :: 103 :: (rn 114 6 [126, 127, 129])))))))))), (5, (0 :: 2 :: (rn 6 20 (29 :: 30 :: (rn 36 12 (rn 57 9 (rn 76 9 (rn 88 8 (98 :: 99 :: 102 :: 103 :: (rn 114 6 [126, 127, 129])))))))))), (6, (0 :: 2 :: (rn 7 41 (rn 57 9 (rn 76 9 (rn 88 8 (98 :: 99 :: 102 :: 103 :: (rn 114 6 [126, 127, 129])))))))), (7, (0 :: 2 :: (rn 8 40 (rn 57 9 (rn 76 9 (rn 88 8 (98 :: 99 :: 102 :: 103 :: (rn 114 6 [126, 127, 129])))))))), (8, (0 :: 2 :: (rn 9 39 (rn 57 9 (rn 76 9 (rn 88 8 (98 :: 99 :: 102 :: 103 :: (rn 114 6 [126, 127, 129])))))))), (9, (0 :: 2 :: (rn 9 31 (rn 41 7 (rn 57 9 (rn 76 9 (rn 88 8 (98 :: 99 :: 102 :: 103 :: (rn 114 6 [126, 127, 129]))))))))), (10, (0 :: 2 :: (rn 9 39 (rn 57 9 (rn 76 9 (rn 88 8 (98 :: 99 :: 102 :: 103 :: (rn 114 6 [126, 127, 129])))))))), (11, (0 :: 2 :: (rn 9 39 (rn 58 8 (rn 76 9 (rn 88 8 (98 :: 99 :: 102 :: 103 :: (rn 114 6 [126, 127, 129])))))))), (12, (0 :: 2 :: (rn 9 39 (rn 57 9 (rn 77 8 (rn 88 8 (98 :: 99 :: 102 :: 103 :: (rn 114 6 [126, 127, 129])))))))), (13, (0 :: 1 :: (rn 3 127 []))), (14, (0 :: 2 :: (rn 9 39 (rn 57 9 (rn 76 9 (rn 88 8 (98 :: 99 :: 102 :: 103 :: (rn 114 6 [126, 127, 129])))))))), (15, (0 :: 2 :: (rn 10 38 (rn 57 9 (rn 76 9 (rn 88 8 (98 :: 99 :: 102 :: 103 :: (rn 114 6 [126, 127, 129])))))))), (16, (0 :: 2 :: (rn 9 39 (rn 57 9 (rn 76 9 (rn 88 8 (98 :: 99 :: 102 :: 103 :: (rn 115 5 [126, 127, 129])))))))), (17, (0 :: 1 :: (rn 3 127 []))), (18, (0 :: 1 :: (rn 3 127 [])))])]
noncomputable def B5_1 : Base := baseOf Pz (fun f i => lkK f i K5) [(15, G15), (17, G17), (18, G18), (20, G20), (22, G22), (23, G23), (24, G24), (25, G25), (26, G26)] [] []
theorem hB5_1 : BOk B5_1 := base_ok named_z ⟨s15, s17, s18, s20, s22, s23, s24, s25, s26, trivial⟩ trivial trivial
noncomputable def S5_1 (p1 : (List Mv)) (p2 : (List Mv)) (p3 : Bool) (p4 : Bool) (p5 : Pos) (x : (Int × Int)) : St := St.mk (AV.any :: AV.ptr 0 0 :: AV.any :: AV.list ET.mv p1 Tk.fresh :: AV.list ET.mv p2 Tk.fresh :: AV.bool p3 :: AV.bool p4 :: AV.int .i64 x.fst :: AV.int .i64 x.snd :: (an 111 [AV.undef, AV.undef, AV.undef, AV.undef, AV.undef, AV.undef, AV.any, AV.any, AV.undef, AV.any])) (Hp.mk [(pc p5 [])] [] [] 0 0 0)
noncomputable def O5_1 (p1 : (List Mv)) (p2 : (List Mv)) (p3 : Bool) (p4 : Bool) (p5 : Pos) : Unit ⊕ (Int × Int × Bool) → Out
  | (.inl (y)) => .ret (St.mk (AV.any :: AV.any :: AV.cbool false :: (an 127 [])) (Hp.mk [(pc p5 [])] [] [] 0 0 0))
  | (.inr (y)) => .exit 0 (St.mk (AV.any :: AV.ptr 0 0 :: AV.any :: AV.list ET.mv p1 Tk.fresh :: AV.list ET.mv p2 Tk.fresh :: AV.bool p3 :: AV.bool p4 :: AV.int .i64 y.fst :: AV.int .i64 y.snd.fst :: (an 31 (AV.bool y.snd.snd :: (an 79 [AV.undef, AV.undef, AV.undef, AV.undef, AV.undef, AV.undef, AV.any, AV.any, AV.undef, AV.any])))) (Hp.mk [(pc p5 [])] [] [] 0 0 0))
noncomputable def st5_1 (p1 : (List Mv)) (p2 : (List Mv)) (p3 : Bool) (p4 : Bool) (p5 : Pos) (x : (Int × Int)) : Stp (Int × Int) (Unit ⊕ (Int × Int × Bool)) := (bif decide (x.snd < Int.ofNat p2.length) then (bif decide (x.fst < Int.ofNat p1.length) then (bif eqOut BinOp.eql ((p1.getD x.fst.toNat default).frm == (p2.getD x.snd.toNat default).frm && ((p1.getD x.fst.toNat default).to == (p2.getD x.snd.toNat default).to && ((p1.getD x.fst.toNat default).pro == (p2.getD x.snd.toNat default).pro && ((p1.getD x.fst.toNat default).drp == (p2.getD x.snd.toNat default).drp && ((p1.getD x.fst.toNat default).cas == (p2.getD x.snd.toNat default).cas && true))))) then (bif !N25 p5 (p2.getD x.snd.toNat default) then (Stp.out (.inl (()))) else (bif p4 then (bif !N24 p5 (p2.getD x.snd.toNat default) then (Stp.out (.inl (()))) else (Stp.go (wr .i64 (x.fst + 1), wr .i64 (x.snd + 1)))) else (Stp.go (wr .i64 (x.fst + 1), wr .i64 (x.snd + 1))))) else (bif N20 p5.variant p5.turn then (bif N25 p5 (p2.getD x.snd.toNat default) then (bif !p3 then (bif !!N26 p5 then (bif !p4 then (Stp.out (.inl (()))) else (bif N24 p5 (p2.getD x.snd.toNat default) then (Stp.out (.inl (()))) else (Stp.go (x.fst, wr .i64 (x.snd + 1))))) else (Stp.go (x.fst, wr .i64 (x.snd + 1)))) else (Stp.go (x.fst, wr .i64 (x.snd + 1)))) else (Stp.go (x.fst, wr .i64 (x.snd + 1)))) else (bif N25 p5 (p2.getD x.snd.toNat default) then (bif !p3 then (bif !p4 then (Stp.out (.inl (()))) else (bif N24 p5 (p2.getD x.snd.toNat default) then (Stp.out (.inl (()))) else (Stp.go (x.fst, wr .i64 (x.snd + 1))))) else (Stp.go (x.fst, wr .i64 (x.snd + 1)))) else (Stp.go (x.fst, wr .i64 (x.snd + 1)))))) else (bif N20 p5.variant p5.turn then (bif N25 p5 (p2.getD x.snd.toNat default) then (bif !p3 then (bif !!N26 p5 then (bif !p4 then (Stp.out (.inl (()))) else (bif N24 p5 (p2.getD x.snd.toNat default) then (Stp.out (.inl (()))) else (Stp.go (x.fst, wr .i64 (x.snd + 1))))) else (Stp.go (x.fst, wr .i64 (x.snd + 1)))) else (Stp.go (x.fst, wr .i64 (x.snd + 1)))) else (Stp.go (x.fst, wr .i64 (x.snd + 1)))) else (bif N25 p5 (p2.getD x.snd.toNat default) then (bif !p3 then (bif !p4 then (Stp.out (.inl (()))) else (bif N24 p5 (p2.getD x.snd.toNat default) then (Stp.out (.inl (()))) else (Stp.go (x.fst, wr .i64 (x.snd + 1))))) else (Stp.go (x.fst, wr .i64 (x.snd + 1)))) else (Stp.go (x.fst, wr .i64 (x.snd + 1)))))) else (Stp.out (.inr ((x.fst, x.snd, decide (x.snd < Int.ofNat p2.length))))))
noncomputable def okL5_1 (p1 : (List Mv)) (p2 : (List Mv)) (p3 : Bool) (p4 : Bool) (p5 : Pos) (x : (Int × Int)) : Bool := (bif decide (x.snd < Int.ofNat p2.length) then (bif decide (x.fst < Int.ofNat p1.length) then (decide (0 ≤ x.fst) && decide (x.fst < Int.ofNat p1.length) && (decide (0 ≤ x.snd) && decide (x.snd < Int.ofNat p2.length) && (bif eqOut BinOp.eql ((p1.getD x.fst.toNat default).frm == (p2.getD x.snd.toNat default).frm && ((p1.getD x.fst.toNat default).to == (p2.getD x.snd.toNat default).to && ((p1.getD x.fst.toNat default).pro == (p2.getD x.snd.toNat default).pro && ((p1.getD x.fst.toNat default).drp == (p2.getD x.snd.toNat default).drp && ((p1.getD x.fst.toNat default).cas == (p2.getD x.snd.toNat default).cas && true))))) then (decide (0 ≤ x.snd) && decide (x.snd < Int.ofNat p2.length) && (ok25 (p5) (p2.getD x.snd.toNat default) && (bif !N25 p5 (p2.getD x.snd.toNat default) then true else (bif p4 then (decide (0 ≤ x.snd) && decide (x.snd < Int.ofNat p2.length) && (ok24 (p5) (p2.getD x.snd.toNat default) && true)) else true)))) else (ok20 (p5.variant) (p5.turn) && (bif N20 p5.variant p5.turn then (ok26 (p5) && (decide (0 ≤ x.snd) && decide (x.snd < Int.ofNat p2.length) && (ok25 (p5) (p2.getD x.snd.toNat default) && (bif N25 p5 (p2.getD x.snd.toNat default) then (bif !p3 then (bif !!N26 p5 then (bif !p4 then true else (decide (0 ≤ x.snd) && decide (x.snd < Int.ofNat p2.length) && (ok24 (p5) (p2.getD x.snd.toNat default) && true))) else true) else true) else true)))) else (decide (0 ≤ x.snd) && decide (x.snd < Int.ofNat p2.length) && (ok25 (p5) (p2.getD x.snd.toNat default) && (bif N25 p5 (p2.getD x.snd.toNat default) then (bif !p3 then (bif !p4 then true else (decide (0 ≤ x.snd) && decide (x.snd < Int.ofNat p2.length) && (ok24 (p5) (p2.getD x.snd.toNat default) && true))) else true) else true)))))))) else (ok20 (p5.variant) (p5.turn) && (bif N20 p5.variant p5.turn then (ok26 (p5) && (decide (0 ≤ x.snd) && decide (x.snd < Int.ofNat p2.length) && (ok25 (p5) (p2.getD x.snd.toNat default) && (bif N25 p5 (p2.getD x.snd.toNat default) then (bif !p3 then (bif !!N26 p5 then (bif !p4 then true else (decide (0 ≤ x.snd) && decide (x.snd < Int.ofNat p2.length) && (ok24 (p5) (p2.getD x.snd.toNat default) && true))) else true) else true) else true)))) else (decide (0 ≤ x.snd) && decide (x.snd < Int.ofNat p2.length) && (ok25 (p5) (p2.getD x.snd.toNat default) && (bif N25 p5 (p2.getD x.snd.toNat default) then (bif !p3 then (bif !p4 then true else (decide (0 ≤ x.snd) && decide (x.snd < Int.ofNat p2.length) && (ok24 (p5) (p2.getD x.snd.toNat default) && true))) else true) else true)))))) else true)
noncomputable def lp5_1 (p1 : (List Mv)) (p2 : (List Mv)) (p3 : Bool) (p4 : Bool) (p5 : Pos) (x : (Int × Int)) : Option (Unit ⊕ (Int × Int × Bool)) := itl (fun x => bif okL5_1 p1 p2 p3 p4 p5 x then st5_1 p1 p2 p3 p4 p5 x else .bad) many x
theorem E5_1 (p1 : (List Mv)) (p2 : (List Mv)) (p3 : Bool) (p4 : Bool) (p5 : Pos) (x : (Int × Int)) : evCd B5_1 12 5 (bodL Pz 5 9) (S5_1 p1 p2 p3 p4 p5 x) = (let z2 := (p2.getD x.snd.toNat default); let z3 := [AV.undef, AV.undef, AV.undef, AV.undef, AV.undef, AV.undef, AV.any, AV.any, AV.undef, AV.any]; let z5 := (an 8 (AV.bool p3 :: (AV.bool !p3) :: AV.any :: AV.any :: AV.undef :: AV.undef :: AV.any :: AV.any :: AV.undef :: AV.undef :: AV.undef :: AV.undef :: AV.undef :: AV.undef :: AV.undef :: AV.undef :: AV.undef :: AV.undef :: (an 6 z3))); let z6 := (an 8 (AV.undef :: AV.undef :: AV.any :: AV.any :: AV.undef :: AV.undef :: AV.any :: AV.any :: AV.undef :: AV.undef :: AV.undef :: AV.undef :: AV.undef :: AV.undef :: AV.undef :: AV.undef :: AV.undef :: AV.undef :: (an 6 z3))); let z7 := (decide (0 ≤ x.snd) && decide (x.snd < Int.ofNat p2.length)); let z8 := (Hp.mk [(pc p5 [])] [] [] 0 0 0); let z4 := (Tr.ret (Out.ret (St.mk (AV.any :: AV.any :: AV.cbool false :: (an 127 [])) z8))); let z9 := (p1.getD x.fst.toNat default); let z1 := (eqOut BinOp.eql (z9.frm == z2.frm && (z9.to == z2.to && (z9.pro == z2.pro && (z9.drp == z2.drp && (z9.cas == z2.cas && true)))))); let z10 := (an 28 (AV.agg (pc p5 []) :: AV.bool (N26 p5) :: (AV.bool !N26 p5) :: (an 8 (AV.bool p3 :: (AV.bool !p3) :: AV.any :: AV.any :: (AV.bool !N26 p5) :: (AV.bool !!N26 p5) :: AV.any :: AV.any :: AV.bool p4 :: (AV.bool !p4) :: (AV.bool !p4) :: AV.agg (pc p5 []) :: AV.list ET.mv p2 Tk.fresh :: AV.int .i64 x.snd :: (Mv.av z2).ptrf :: Mv.av z2 :: AV.bool (N24 p5 z2) :: AV.bool (N24 p5 z2) :: (an 6 z3))))); let z11 := (an 28 (AV.undef :: AV.undef :: AV.undef :: (an 8 (AV.bool p3 :: (AV.bool !p3) :: AV.any :: AV.any :: AV.cbool false :: AV.cbool true :: AV.any :: AV.any :: AV.bool p4 :: (AV.bool !p4) :: (AV.bool !p4) :: AV.agg (pc p5 []) :: AV.list ET.mv p2 Tk.fresh :: AV.int .i64 x.snd :: (Mv.av z2).ptrf :: Mv.av z2 :: AV.bool (N24 p5 z2) :: AV.bool (N24 p5 z2) :: (an 6 z3))))); let z12 := (an 28 (AV.agg (pc p5 []) :: AV.bool (N26 p5) :: (AV.bool !N26 p5) :: (an 8 (AV.bool p3 :: (AV.bool !p3) :: AV.any :: AV.any :: (AV.bool !N26 p5) :: (AV.bool !!N26 p5) :: AV.any :: AV.any :: AV.undef :: AV.undef :: AV.undef :: AV.undef :: AV.undef :: AV.undef :: AV.undef :: AV.undef :: AV.undef :: AV.undef :: (an 6 z3))))); let z13 := (wr .i64 (x.snd + 1)); let z14 := (isPS Pz 25 [p5.av, Mv.av z2] (dB.res (N25 p5 z2))); let z15 := (isPS Pz 24 [p5.av, Mv.av z2] (dB.res (N24 p5 z2))); let z16 := (isPS Pz 20 [AV.int .u8 p5.variant, AV.int .u8 p5.turn] (dB.res (N20 p5.variant p5.turn))); let z17 := (an 28 (AV.agg (pc p5 []) :: AV.bool (N26 p5) :: (AV.bool !N26 p5) :: z5)); let z18 := (an 28 (AV.agg (pc p5 []) :: AV.bool (N26 p5) :: (AV.bool !N26 p5) :: z6)); Tr.br (decide (x.snd < Int.ofNat p2.length)) (Tr.br (decide (x.fst < Int.ofNat p1.length)) (Tr.br (decide (0 ≤ x.fst) && decide (x.fst < Int.ofNat p1.length)) (Tr.br z7 (Tr.br z1 (Tr.br z7 (Tr.br z14 (Tr.br (!N25 p5 z2) z4 (Tr.br p4 (Tr.br z7 (Tr.br z15 (Tr.br (!N24 p5 z2) z4 (Tr.ret (Out.norm (St.mk (AV.any :: AV.ptr 0 0 :: AV.any :: AV.list ET.mv p1 Tk.fresh :: AV.list ET.mv p2 Tk.fresh :: AV.bool p3 :: AV.bool p4 :: AV.int .i64 (wr .i64 (x.fst + 1)) :: AV.int .i64 z13 :: (an 39 (AV.list ET.mv p1 Tk.fresh :: AV.int .i64 x.fst :: (Mv.av z9).ptrf :: Mv.av z9 :: AV.list ET.mv p2 Tk.fresh :: AV.int .i64 x.snd :: (Mv.av z2).ptrf :: Mv.av z2 :: AV.bool z1 :: (an 9 (AV.bool p4 :: AV.bool p4 :: AV.agg (pc p5 []) :: AV.list ET.mv p2 Tk.fresh :: AV.int .i64 x.snd :: (Mv.av z2).ptrf :: Mv.av z2 :: AV.bool (N24 p5 z2) :: (AV.bool !N24 p5 z2) :: (AV.bool !N24 p5 z2) :: (an 44 z3)))))) z8)))) Tr.fail) Tr.fail) (Tr.ret (Out.norm (St.mk (AV.any :: AV.ptr 0 0 :: AV.any :: AV.list ET.mv p1 Tk.fresh :: AV.list ET.mv p2 Tk.fresh :: AV.bool p3 :: AV.bool p4 :: AV.int .i64 (wr .i64 (x.fst + 1)) :: AV.int .i64 z13 :: (an 39 (AV.list ET.mv p1 Tk.fresh :: AV.int .i64 x.fst :: (Mv.av z9).ptrf :: Mv.av z9 :: AV.list ET.mv p2 Tk.fresh :: AV.int .i64 x.snd :: (Mv.av z2).ptrf :: Mv.av z2 :: AV.bool z1 :: (an 9 (AV.bool p4 :: AV.bool p4 :: AV.undef :: AV.undef :: AV.undef :: AV.undef :: AV.undef :: AV.undef :: AV.undef :: AV.cbool false :: (an 44 z3)))))) z8))))) Tr.fail) Tr.fail) (Tr.br z16 (Tr.br (N20 p5.variant p5.turn) (Tr.br (isPS Pz 26 [p5.av] (dB.res (N26 p5))) (Tr.br z7 (Tr.br z14 (Tr.br (N25 p5 z2) (Tr.br (!p3) (Tr.br (!!N26 p5) (Tr.br (!p4) z4 (Tr.br z7 (Tr.br z15 (Tr.br (N24 p5 z2) z4 (Tr.ret (Out.norm (St.mk (AV.any :: AV.ptr 0 0 :: AV.any :: AV.list ET.mv p1 Tk.fresh :: AV.list ET.mv p2 Tk.fresh :: AV.bool p3 :: AV.bool p4 :: AV.int .i64 x.fst :: AV.int .i64 z13 :: (an 39 (AV.list ET.mv p1 Tk.fresh :: AV.int .i64 x.fst :: (Mv.av z9).ptrf :: Mv.av z9 :: AV.list ET.mv p2 Tk.fresh :: AV.int .i64 x.snd :: (Mv.av z2).ptrf :: Mv.av z2 :: AV.bool z1 :: z10))) z8)))) Tr.fail) Tr.fail)) (Tr.ret (Out.norm (St.mk (AV.any :: AV.ptr 0 0 :: AV.any :: AV.list ET.mv p1 Tk.fresh :: AV.list ET.mv p2 Tk.fresh :: AV.bool p3 :: AV.bool p4 :: AV.int .i64 x.fst :: AV.int .i64 z13 :: (an 39 (AV.list ET.mv p1 Tk.fresh :: AV.int .i64 x.fst :: (Mv.av z9).ptrf :: Mv.av z9 :: AV.list ET.mv p2 Tk.fresh :: AV.int .i64 x.snd :: (Mv.av z2).ptrf :: Mv.av z2 :: AV.bool z1 :: z12))) z8)))) (Tr.ret (Out.norm (St.mk (AV.any :: AV.ptr 0 0 :: AV.any :: AV.list ET.mv p1 Tk.fresh :: AV.list ET.mv p2 Tk.fresh :: AV.bool p3 :: AV.bool p4 :: AV.int .i64 x.fst :: AV.int .i64 z13 :: (an 39 (AV.list ET.mv p1 Tk.fresh :: AV.int .i64 x.fst :: (Mv.av z9).ptrf :: Mv.av z9 :: AV.list ET.mv p2 Tk.fresh :: AV.int .i64 x.snd :: (Mv.av z2).ptrf :: Mv.av z2 :: AV.bool z1 :: z17))) z8)))) (Tr.ret (Out.norm (St.mk (AV.any :: AV.ptr 0 0 :: AV.any :: AV.list ET.mv p1 Tk.fresh :: AV.list ET.mv p2 Tk.fresh :: AV.bool p3 :: AV.bool p4 :: AV.int .i64 x.fst :: AV.int .i64 z13 :: (an 39 (AV.list ET.mv p1 Tk.fresh :: AV.int .i64 x.fst :: (Mv.av z9).ptrf :: Mv.av z9 :: AV.list ET.mv p2 Tk.fresh :: AV.int .i64 x.snd :: (Mv.av z2).ptrf :: Mv.av z2 :: AV.bool z1 :: z18))) z8)))) Tr.fail) Tr.fail) Tr.fail) (Tr.br z7 (Tr.br z14 (Tr.br (N25 p5 z2) (Tr.br (!p3) (Tr.br (!p4) z4 (Tr.br z7 (Tr.br z15 (Tr.br (N24 p5 z2) z4 (Tr.ret (Out.norm (St.mk (AV.any :: AV.ptr 0 0 :: AV.any :: AV.list ET.mv p1 Tk.fresh :: AV.list ET.mv p2 Tk.fresh :: AV.bool p3 :: AV.bool p4 :: AV.int .i64 x.fst :: AV.int .i64 z13 :: (an 39 (AV.list ET.mv p1 Tk.fresh :: AV.int .i64 x.fst :: (Mv.av z9).ptrf :: Mv.av z9 :: AV.list ET.mv p2 Tk.fresh :: AV.int .i64 x.snd :: (Mv.av z2).ptrf :: Mv.av z2 :: AV.bool z1 :: z11))) z8)))) Tr.fail) Tr.fail)) (Tr.ret (Out.norm (St.mk (AV.any :: AV.ptr 0 0 :: AV.any :: AV.list ET.mv p1 Tk.fresh :: AV.list ET.mv p2 Tk.fresh :: AV.bool p3 :: AV.bool p4 :: AV.int .i64 x.fst :: AV.int .i64 z13 :: (an 39 (AV.list ET.mv p1 Tk.fresh :: AV.int .i64 x.fst :: (Mv.av z9).ptrf :: Mv.av z9 :: AV.list ET.mv p2 Tk.fresh :: AV.int .i64 x.snd :: (Mv.av z2).ptrf :: Mv.av z2 :: AV.bool z1 :: (an 28 (AV.undef :: AV.undef :: AV.undef :: z5))))) z8)))) (Tr.ret (Out.norm (St.mk (AV.any :: AV.ptr 0 0 :: AV.any :: AV.list ET.mv p1 Tk.fresh :: AV.list ET.mv p2 Tk.fresh :: AV.bool p3 :: AV.bool p4 :: AV.int .i64 x.fst :: AV.int .i64 z13 :: (an 39 (AV.list ET.mv p1 Tk.fresh :: AV.int .i64 x.fst :: (Mv.av z9).ptrf :: Mv.av z9 :: AV.list ET.mv p2 Tk.fresh :: AV.int .i64 x.snd :: (Mv.av z2).ptrf :: Mv.av z2 :: AV.bool z1 :: (an 28 (AV.undef :: AV.undef :: AV.undef :: z6))))) z8)))) Tr.fail) Tr.fail)) Tr.fail)) Tr.fail) Tr.fail) (Tr.br z16 (Tr.br (N20 p5.variant p5.turn) (Tr.br (isPS Pz 26 [p5.av] (dB.res (N26 p5))) (Tr.br z7 (Tr.br z14 (Tr.br (N25 p5 z2) (Tr.br (!p3) (Tr.br (!!N26 p5) (Tr.br (!p4) z4 (Tr.br z7 (Tr.br z15 (Tr.br (N24 p5 z2) z4 (Tr.ret (Out.norm (St.mk (AV.any :: AV.ptr 0 0 :: AV.any :: AV.list ET.mv p1 Tk.fresh :: AV.list ET.mv p2 Tk.fresh :: AV.bool p3 :: AV.bool p4 :: AV.int .i64 x.fst :: AV.int .i64 z13 :: (an 39 (AV.undef :: AV.undef :: AV.undef :: AV.undef :: AV.undef :: AV.undef :: AV.undef :: AV.undef :: AV.undef :: z10))) z8)))) Tr.fail) Tr.fail)) (Tr.ret (Out.norm (St.mk (AV.any :: AV.ptr 0 0 :: AV.any :: AV.list ET.mv p1 Tk.fresh :: AV.list ET.mv p2 Tk.fresh :: AV.bool p3 :: AV.bool p4 :: AV.int .i64 x.fst :: AV.int .i64 z13 :: (an 39 (AV.undef :: AV.undef :: AV.undef :: AV.undef :: AV.undef :: AV.undef :: AV.undef :: AV.undef :: AV.undef :: z12))) z8)))) (Tr.ret (Out.norm (St.mk (AV.any :: AV.ptr 0 0 :: AV.any :: AV.list ET.mv p1 Tk.fresh :: AV.list ET.mv p2 Tk.fresh :: AV.bool p3 :: AV.bool p4 :: AV.int .i64 x.fst :: AV.int .i64 z13 :: (an 39 (AV.undef :: AV.undef :: AV.undef :: AV.undef :: AV.undef :: AV.undef :: AV.undef :: AV.undef :: AV.undef :: z17))) z8)))) (Tr.ret (Out.norm (St.mk (AV.any :: AV.ptr 0 0 :: AV.any :: AV.list ET.mv p1 Tk.fresh :: AV.list ET.mv p2 Tk.fresh :: AV.bool p3 :: AV.bool p4 :: AV.int .i64 x.fst :: AV.int .i64 z13 :: (an 39 (AV.undef :: AV.undef :: AV.undef :: AV.undef :: AV.undef :: AV.undef :: AV.undef :: AV.undef :: AV.undef :: z18))) z8)))) Tr.fail) Tr.fail) Tr.fail) (Tr.br z7 (Tr.br z14 (Tr.br (N25 p5 z2) (Tr.br (!p3) (Tr.br (!p4) z4 (Tr.br z7 (Tr.br z15 (Tr.br (N24 p5 z2) z4 (Tr.ret (Out.norm (St.mk (AV.any :: AV.ptr 0 0 :: AV.any :: AV.list ET.mv p1 Tk.fresh :: AV.list ET.mv p2 Tk.fresh :: AV.bool p3 :: AV.bool p4 :: AV.int .i64 x.fst :: AV.int .i64 z13 :: (an 39 (AV.undef :: AV.undef :: AV.undef :: AV.undef :: AV.undef :: AV.undef :: AV.undef :: AV.undef :: AV.undef :: z11))) z8)))) Tr.fail) Tr.fail)) (Tr.ret (Out.norm (St.mk (AV.any :: AV.ptr 0 0 :: AV.any :: AV.list ET.mv p1 Tk.fresh :: AV.list ET.mv p2 Tk.fresh :: AV.bool p3 :: AV.bool p4 :: AV.int .i64 x.fst :: AV.int .i64 z13 :: (an 39 (AV.undef :: AV.undef :: AV.undef :: AV.undef :: AV.undef :: AV.undef :: AV.undef :: AV.undef :: AV.undef :: (an 28 (AV.undef :: AV.undef :: AV.undef :: z5))))) z8)))) (Tr.ret (Out.norm (St.mk (AV.any :: AV.ptr 0 0 :: AV.any :: AV.list ET.mv p1 Tk.fresh :: AV.list ET.mv p2 Tk.fresh :: AV.bool p3 :: AV.bool p4 :: AV.int .i64 x.fst :: AV.int .i64 z13 :: (an 39 (AV.undef :: AV.undef :: AV.undef :: AV.undef :: AV.undef :: AV.undef :: AV.undef :: AV.undef :: AV.undef :: (an 28 (AV.undef :: AV.undef :: AV.undef :: z6))))) z8)))) Tr.fail) Tr.fail)) Tr.fail)) (Tr.ret (Out.exit 0 (St.mk (AV.any :: AV.ptr 0 0 :: AV.any :: AV.list ET.mv p1 Tk.fresh :: AV.list ET.mv p2 Tk.fresh :: AV.bool p3 :: AV.bool p4 :: AV.int .i64 x.fst :: AV.int .i64 x.snd :: (an 31 (AV.bool (decide (x.snd < Int.ofNat p2.length)) :: (an 79 z3)))) z8)))) := by kernel_rfl
theorem L5_1 (p1 : (List Mv)) (p2 : (List Mv)) (p3 : Bool) (p4 : Bool) (p5 : Pos) (x : (Int × Int)) (r : Unit ⊕ (Int × Int × Bool)) (h : lp5_1 p1 p2 p3 p4 p5 x = some r) : LSpec Pz (bodL Pz 5 9) (S5_1 p1 p2 p3 p4 p5 x) (O5_1 p1 p2 p3 p4 p5 r) := LSpec.itd (S := S5_1 p1 p2 p3 p4 p5) (O := O5_1 p1 p2 p3 p4 p5) (ok := okL5_1 p1 p2 p3 p4 p5) (st := st5_1 p1 p2 p3 p4 p5) hB5_1 (fun x => gr_eq (E5_1 p1 p2 p3 p4 p5 x) (gr_br (gr_br (gr_guard (gr_guard (gr_br (gr_guard (gr_call (P25 (p5) (p2.getD x.snd.toNat default)) (gr_br (gr_ret (rl_ret rfl (wk_nrm (ks := (0 :: 1 :: (rn 3 127 []))) (gs := []) (b := true) rfl (by kernel_rfl)))) (gr_br (gr_guard (gr_call (P24 (p5) (p2.getD x.snd.toNat default)) (gr_br2 (gr_ret (rl_ret rfl (wk_nrm (ks := (0 :: 1 :: (rn 3 127 []))) (gs := []) (b := true) rfl (by kernel_rfl)))) (gr_ret (rl_go (wk_nrm (ks := (0 :: 2 :: (rn 9 111 [126, 127, 129]))) (gs := [3, 4, 5, 6, 7, 8]) (b := true) rfl (by kernel_rfl))))))) (gr_ret (rl_go (wk_nrm (ks := (0 :: 2 :: (rn 9 111 [126, 127, 129]))) (gs := [3, 4, 5, 6, 7, 8]) (b := true) rfl (by kernel_rfl)))))))) (gr_call (P20 (p5.variant) (p5.turn)) (gr_br (gr_call (P26 (p5)) (gr_guard (gr_call (P25 (p5) (p2.getD x.snd.toNat default)) (gr_br (gr_br (gr_br (gr_br (gr_ret (rl_ret rfl (wk_nrm (ks := (0 :: 1 :: (rn 3 127 []))) (gs := []) (b := true) rfl (by kernel_rfl)))) (gr_guard (gr_call (P24 (p5) (p2.getD x.snd.toNat default)) (gr_br2 (gr_ret (rl_ret rfl (wk_nrm (ks := (0 :: 1 :: (rn 3 127 []))) (gs := []) (b := true) rfl (by kernel_rfl)))) (gr_ret (rl_go (wk_nrm (ks := (0 :: 2 :: (rn 9 111 [126, 127, 129]))) (gs := [3, 4, 5, 6, 7, 8]) (b := true) rfl (by kernel_rfl)))))))) (gr_ret (rl_go (wk_nrm (ks := (0 :: 2 :: (rn 9 111 [126, 127, 129]))) (gs := [3, 4, 5, 6, 7, 8]) (b := true) rfl (by kernel_rfl))))) (gr_ret (rl_go (wk_nrm (ks := (0 :: 2 :: (rn 9 111 [126, 127, 129]))) (gs := [3, 4, 5, 6, 7, 8]) (b := true) rfl (by kernel_rfl))))) (gr_ret (rl_go (wk_nrm (ks := (0 :: 2 :: (rn 9 111 [126, 127, 129]))) (gs := [3, 4, 5, 6, 7, 8]) (b := true) rfl (by kernel_rfl)))))))) (gr_guard (gr_call (P25 (p5) (p2.getD x.snd.toNat default)) (gr_br (gr_br (gr_br (gr_ret (rl_ret rfl (wk_nrm (ks := (0 :: 1 :: (rn 3 127 []))) (gs := []) (b := true) rfl (by kernel_rfl)))) (gr_guard (gr_call (P24 (p5) (p2.getD x.snd.toNat default)) (gr_br2 (gr_ret (rl_ret rfl (wk_nrm (ks := (0 :: 1 :: (rn 3 127 []))) (gs := []) (b := true) rfl (by kernel_rfl)))) (gr_ret (rl_go (wk_nrm (ks := (0 :: 2 :: (rn 9 111 [126, 127, 129]))) (gs := [3, 4, 5, 6, 7, 8]) (b := true) rfl (by kernel_rfl)))))))) (gr_ret (rl_go (wk_nrm (ks := (0 :: 2 :: (rn 9 111 [126, 127, 129]))) (gs := [3, 4, 5, 6, 7, 8]) (b := true) rfl (by kernel_rfl))))) (gr_ret (rl_go (wk_nrm (ks := (0 :: 2 :: (rn 9 111 [126, 127, 129]))) (gs := [3, 4, 5, 6, 7, 8]) (b := true) rfl (by kernel_rfl)))))))))))) (gr_call (P20 (p5.variant) (p5.turn)) (gr_br (gr_call (P26 (p5)) (gr_guard (gr_call (P25 (p5) (p2.getD x.snd.toNat default)) (gr_br (gr_br (gr_br (gr_br (gr_ret (rl_ret rfl (wk_nrm (ks := (0 :: 1 :: (rn 3 127 []))) (gs := []) (b := true) rfl (by kernel_rfl)))) (gr_guard (gr_call (P24 (p5) (p2.getD x.snd.toNat default)) (gr_br2 (gr_ret (rl_ret rfl (wk_nrm (ks := (0 :: 1 :: (rn 3 127 []))) (gs := []) (b := true) rfl (by kernel_rfl)))) (gr_ret (rl_go (wk_nrm (ks := (0 :: 2 :: (rn 9 111 [126, 127, 129]))) (gs := [3, 4, 5, 6, 7, 8]) (b := true) rfl (by kernel_rfl)))))))) (gr_ret (rl_go (wk_nrm (ks := (0 :: 2 :: (rn 9 111 [126, 127, 129]))) (gs := [3, 4, 5, 6, 7, 8]) (b := true) rfl (by kernel_rfl))))) (gr_ret (rl_go (wk_nrm (ks := (0 :: 2 :: (rn 9 111 [126, 127, 129]))) (gs := [3, 4, 5, 6, 7, 8]) (b := true) rfl (by kernel_rfl))))) (gr_ret (rl_go (wk_nrm (ks := (0 :: 2 :: (rn 9 111 [126, 127, 129]))) (gs := [3, 4, 5, 6, 7, 8]) (b := true) rfl (by kernel_rfl)))))))) (gr_guard (gr_call (P25 (p5) (p2.getD x.snd.toNat default)) (gr_br (gr_br (gr_br (gr_ret (rl_ret rfl (wk_nrm (ks := (0 :: 1 :: (rn 3 127 []))) (gs := []) (b := true) rfl (by kernel_rfl)))) (gr_guard (gr_call (P24 (p5) (p2.getD x.snd.toNat default)) (gr_br2 (gr_ret (rl_ret rfl (wk_nrm (ks := (0 :: 1 :: (rn 3 127 []))) (gs := []) (b := true) rfl (by kernel_rfl)))) (gr_ret (rl_go (wk_nrm (ks := (0 :: 2 :: (rn 9 111 [126, 127, 129]))) (gs := [3, 4, 5, 6, 7, 8]) (b := true) rfl (by kernel_rfl)))))))) (gr_ret (rl_go (wk_nrm (ks := (0 :: 2 :: (rn 9 111 [126, 127, 129]))) (gs := [3, 4, 5, 6, 7, 8]) (b := true) rfl (by kernel_rfl))))) (gr_ret (rl_go (wk_nrm (ks := (0 :: 2 :: (rn 9 111 [126, 127, 129]))) (gs := [3, 4, 5, 6, 7, 8]) (b := true) rfl (by kernel_rfl)))))))))) (gr_ret (rl_exit rfl (wk_nrm (ks := (0 :: 2 :: (rn 9 31 (rn 41 79 [126, 127, 129])))) (gs := []) (b := false) rfl (by kernel_rfl)))))) many x r h
noncomputable def F5_1 : Code → St → Tr Out := fun b s => .br (isL ((lp5_1 (tL (ET.mv) (tT s 3)) (tL (ET.mv) (tT s 4)) (tB (tT s 5)) (tB (tT s 6)) (Kz.Pos.mk (tI (tH s 0 0)) (tN (tH s 0 1)) (tU (tH s 0 2)) (tN (tH s 0 3)) (tI (tH s 0 4)) (tN (tH s 0 5)) (tI (tH s 0 6)) (tN (tH s 0 7)) (tI (tH s 0 8)) (tI (tH s 0 9))) ((tI (tT s 7)), (tI (tT s 8)))).getD default)) (sureL Pz (fun s => O5_1 (tL (ET.mv) (tT s 3)) (tL (ET.mv) (tT s 4)) (tB (tT s 5)) (tB (tT s 6)) (Kz.Pos.mk (tI (tH s 0 0)) (tN (tH s 0 1)) (tU (tH s 0 2)) (tN (tH s 0 3)) (tI (tH s 0 4)) (tN (tH s 0 5)) (tI (tH s 0 6)) (tN (tH s 0 7)) (tI (tH s 0 8)) (tI (tH s 0 9))) (.inl (gl ((lp5_1 (tL (ET.mv) (tT s 3)) (tL (ET.mv) (tT s 4)) (tB (tT s 5)) (tB (tT s 6)) (Kz.Pos.mk (tI (tH s 0 0)) (tN (tH s 0 1)) (tU (tH s 0 2)) (tN (tH s 0 3)) (tI (tH s 0 4)) (tN (tH s 0 5)) (tI (tH s 0 6)) (tN (tH s 0 7)) (tI (tH s 0 8)) (tI (tH s 0 9))) ((tI (tT s 7)), (tI (tT s 8)))).getD default)))) b s) (sureL Pz (fun s => O5_1 (tL (ET.mv) (tT s 3)) (tL (ET.mv) (tT s 4)) (tB (tT s 5)) (tB (tT s 6)) (Kz.Pos.mk (tI (tH s 0 0)) (tN (tH s 0 1)) (tU (tH s 0 2)) (tN (tH s 0 3)) (tI (tH s 0 4)) (tN (tH s 0 5)) (tI (tH s 0 6)) (tN (tH s 0 7)) (tI (tH s 0 8)) (tI (tH s 0 9))) (.inr (gr ((lp5_1 (tL (ET.mv) (tT s 3)) (tL (ET.mv) (tT s 4)) (tB (tT s 5)) (tB (tT s 6)) (Kz.Pos.mk (tI (tH s 0 0)) (tN (tH s 0 1)) (tU (tH s 0 2)) (tN (tH s 0 3)) (tI (tH s 0 4)) (tN (tH s 0 5)) (tI (tH s 0 6)) (tN (tH s 0 7)) (tI (tH s 0 8)) (tI (tH s 0 9))) ((tI (tT s 7)), (tI (tT s 8)))).getD default)))) b s)
theorem sF5_1 : ∀ b, LSound Pz b (F5_1 b) := brL_sound (c := fun s => isL ((lp5_1 (tL (ET.mv) (tT s 3)) (tL (ET.mv) (tT s 4)) (tB (tT s 5)) (tB (tT s 6)) (Kz.Pos.mk (tI (tH s 0 0)) (tN (tH s 0 1)) (tU (tH s 0 2)) (tN (tH s 0 3)) (tI (tH s 0 4)) (tN (tH s 0 5)) (tI (tH s 0 6)) (tN (tH s 0 7)) (tI (tH s 0 8)) (tI (tH s 0 9))) ((tI (tT s 7)), (tI (tT s 8)))).getD default)) sureL_sound sureL_sound
noncomputable def B5 : Base := baseOf Pz (fun f i => lkK f i K5) [(15, G15), (17, G17), (18, G18), (20, G20), (22, G22), (23, G23), (24, G24), (25, G25), (26, G26)] [(5, 9, F5_1)] []
theorem hB5 : BOk B5 := base_ok named_z ⟨s15, s17, s18, s20, s22, s23, s24, s25, s26, trivial⟩ ⟨sF5_1, trivial⟩ trivial
noncomputable def N5 (a : Pos) : Bool := (bif !N18 a then (N17) else (bif a.variant == 4 then (bif decide (Int.ofNat (N15 a).length > 0) then (bif isL ((lp5_1 (N15 a) (N22 a) ((N23 a).fst != 0) (N24 a ((N15 a).getD 0 default)) a (0, 0)).getD default) then (false) else (bif (gr ((lp5_1 (N15 a) (N22 a) ((N23 a).fst != 0) (N24 a ((N15 a).getD 0 default)) a (0, 0)).getD default)).fst == Int.ofNat (N15 a).length then (bif !(N23 a).fst != 0 then (N17) else (bif (gr ((lp5_1 (N15 a) (N22 a) ((N23 a).fst != 0) (N24 a ((N15 a).getD 0 default)) a (0, 0)).getD default)).fst == 0 then (N17) else (false))) else (false))) else (bif isL ((lp5_1 (N15 a) (N22 a) ((N23 a).fst != 0) false a (0, 0)).getD default) then (false) else (bif (gr ((lp5_1 (N15 a) (N22 a) ((N23 a).fst != 0) false a (0, 0)).getD default)).fst == Int.ofNat (N15 a).length then (bif !(N23 a).fst != 0 then (N17) else (bif (gr ((lp5_1 (N15 a) (N22 a) ((N23 a).fst != 0) false a (0, 0)).getD default)).fst == 0 then (N17) else (false))) else (false)))) else (bif isL ((lp5_1 (N15 a) (N22 a) ((N23 a).fst != 0) false a (0, 0)).getD default) then (false) else (bif (gr ((lp5_1 (N15 a) (N22 a) ((N23 a).fst != 0) false a (0, 0)).getD default)).fst == Int.ofNat (N15 a).length then (bif !(N23 a).fst != 0 then (N17) else (bif (gr ((lp5_1 (N15 a) (N22 a) ((N23 a).fst != 0) false a (0, 0)).getD default)).fst == 0 then (N17) else (false))) else (false)))))
noncomputable def ok5 (a : Pos) : Bool := (ok18 (a) && (bif !N18 a then (ok17  && true) else (ok15 (a) && (ok22 (a) && (ok23 (a) && (bif a.variant == 4 then (bif decide (Int.ofNat (N15 a).length > 0) then (decide (0 ≤ 0) && decide (0 < Int.ofNat (N15 a).length) && (ok24 (a) ((N15 a).getD 0 default) && ((lp5_1 (N15 a) (N22 a) ((N23 a).fst != 0) (N24 a ((N15 a).getD 0 default)) a (0, 0)).isSome && bif isL ((lp5_1 (N15 a) (N22 a) ((N23 a).fst != 0) (N24 a ((N15 a).getD 0 default)) a (0, 0)).getD default) then true else (bif (gr ((lp5_1 (N15 a) (N22 a) ((N23 a).fst != 0) (N24 a ((N15 a).getD 0 default)) a (0, 0)).getD default)).fst == Int.ofNat (N15 a).length then (bif !(N23 a).fst != 0 then (ok17  && true) else (bif (gr ((lp5_1 (N15 a) (N22 a) ((N23 a).fst != 0) (N24 a ((N15 a).getD 0 default)) a (0, 0)).getD default)).fst == 0 then (ok17  && true) else true)) else true)))) else ((lp5_1 (N15 a) (N22 a) ((N23 a).fst != 0) false a (0, 0)).isSome && bif isL ((lp5_1 (N15 a) (N22 a) ((N23 a).fst != 0) false a (0, 0)).getD default) then true else (bif (gr ((lp5_1 (N15 a) (N22 a) ((N23 a).fst != 0) false a (0, 0)).getD default)).fst == Int.ofNat (N15 a).length then (bif !(N23 a).fst != 0 then (ok17  && true) else (bif (gr ((lp5_1 (N15 a) (N22 a) ((N23 a).fst != 0) false a (0, 0)).getD default)).fst == 0 then (ok17  && true) else true)) else true))) else ((lp5_1 (N15 a) (N22 a) ((N23 a).fst != 0) false a (0, 0)).isSome && bif isL ((lp5_1 (N15 a) (N22 a) ((N23 a).fst != 0) false a (0, 0)).getD default) then true else (bif (gr ((lp5_1 (N15 a) (N22 a) ((N23 a).fst != 0) false a (0, 0)).getD default)).fst == Int.ofNat (N15 a).length then (bif !(N23 a).fst != 0 then (ok17  && true) else (bif (gr ((lp5_1 (N15 a) (N22 a) ((N23 a).fst != 0) false a (0, 0)).getD default)).fst == 0 then (ok17  && true) else true)) else true))))))))
theorem E5 (a : Pos) : evPure B5 14 5 [Pos.av a] = (let z1 := (an 39 (AV.undef :: AV.undef :: AV.undef :: AV.undef :: AV.undef :: AV.undef :: AV.undef :: AV.undef :: AV.undef :: (an 9 (AV.undef :: AV.undef :: AV.undef :: AV.undef :: AV.undef :: AV.undef :: AV.undef :: AV.undef :: AV.undef :: AV.undef :: (an 9 (AV.undef :: AV.undef :: AV.undef :: (an 8 (AV.undef :: AV.undef :: AV.any :: AV.any :: AV.undef :: AV.undef :: AV.any :: AV.any :: AV.undef :: AV.undef :: AV.undef :: AV.undef :: AV.undef :: AV.undef :: AV.undef :: AV.undef :: AV.undef :: AV.undef :: (an 6 [AV.undef, AV.undef, AV.undef, AV.undef, AV.undef, AV.undef, AV.any, AV.any, AV.undef, AV.any]))))))))); let z5 := (Tr.br (isPS Pz 17 [] (dB.res N17)) (Tr.ret (AV.bool N17)) Tr.fail); let z2 := (Tr.br (isL ((lp5_1 (N15 a) (N22 a) ((N23 a).fst != 0) false a (0, 0)).getD default)) (Tr.br (isLS Pz (bodL Pz 5 9) (St.mk (AV.any :: AV.ptr 0 0 :: AV.any :: AV.list ET.mv (N15 a) Tk.fresh :: AV.list ET.mv (N22 a) Tk.fresh :: (AV.bool ((N23 a).fst != 0)) :: AV.cbool false :: AV.cint .i64 0 :: AV.cint .i64 0 :: z1) (Hp.mk [(pc a [])] [] [] 0 0 0)) (O5_1 (N15 a) (N22 a) ((N23 a).fst != 0) false a (Sum.inl (gl ((lp5_1 (N15 a) (N22 a) ((N23 a).fst != 0) false a (0, 0)).getD default))))) (Tr.ret (AV.cbool false)) Tr.fail) (Tr.br (isLS Pz (bodL Pz 5 9) (St.mk (AV.any :: AV.ptr 0 0 :: AV.any :: AV.list ET.mv (N15 a) Tk.fresh :: AV.list ET.mv (N22 a) Tk.fresh :: (AV.bool ((N23 a).fst != 0)) :: AV.cbool false :: AV.cint .i64 0 :: AV.cint .i64 0 :: z1) (Hp.mk [(pc a [])] [] [] 0 0 0)) (O5_1 (N15 a) (N22 a) ((N23 a).fst != 0) false a (Sum.inr (gr ((lp5_1 (N15 a) (N22 a) ((N23 a).fst != 0) false a (0, 0)).getD default))))) (Tr.br ((gr ((lp5_1 (N15 a) (N22 a) ((N23 a).fst != 0) false a (0, 0)).getD default)).fst == Int.ofNat (N15 a).length) (Tr.br (!(N23 a).fst != 0) z5 (Tr.br ((gr ((lp5_1 (N15 a) (N22 a) ((N23 a).fst != 0) false a (0, 0)).getD default)).fst == 0) z5 (Tr.ret (AV.cbool false)))) (Tr.ret (AV.cbool false))) Tr.fail)); let z6 := ((N15 a).getD 0 default); let z3 := ((lp5_1 (N15 a) (N22 a) ((N23 a).fst != 0) (N24 a z6) a (0, 0)).getD default); let z4 := (St.mk (AV.any :: AV.ptr 0 0 :: AV.any :: AV.list ET.mv (N15 a) Tk.fresh :: AV.list ET.mv (N22 a) Tk.fresh :: (AV.bool ((N23 a).fst != 0)) :: AV.bool (N24 a z6) :: AV.cint .i64 0 :: AV.cint .i64 0 :: z1) (Hp.mk [(pc a [])] [] [] 0 0 0)); Tr.br (isPS Pz 18 [a.av] (dB.res (N18 a))) (Tr.br (!N18 a) z5 (Tr.br (isPS Pz 15 [a.av] ((dL ET.mv).res (N15 a))) (Tr.br (isPS Pz 22 [a.av] ((dL ET.mv).res (N22 a))) (Tr.br (isPS Pz 23 [a.av] ((dR .u8 .u8).res (N23 a))) (Tr.br (a.variant == 4) (Tr.br (decide (Int.ofNat (N15 a).length > 0)) (Tr.br (decide (0 ≤ 0) && decide (0 < Int.ofNat (N15 a).length)) (Tr.br (isPS Pz 24 [a.av, Mv.av z6] (dB.res (N24 a z6))) (Tr.br (isL z3) (Tr.br (isLS Pz (bodL Pz 5 9) z4 (O5_1 (N15 a) (N22 a) ((N23 a).fst != 0) (N24 a z6) a (Sum.inl (gl z3)))) (Tr.ret (AV.cbool false)) Tr.fail) (Tr.br (isLS Pz (bodL Pz 5 9) z4 (O5_1 (N15 a) (N22 a) ((N23 a).fst != 0) (N24 a z6) a (Sum.inr (gr z3)))) (Tr.br ((gr z3).fst == Int.ofNat (N15 a).length) (Tr.br (!(N23 a).fst != 0) z5 (Tr.br ((gr z3).fst == 0) z5 (Tr.ret (AV.cbool false)))) (Tr.ret (AV.cbool false))) Tr.fail)) Tr.fail) Tr.fail) z2) z2) Tr.fail) Tr.fail) Tr.fail)) Tr.fail) := by kernel_rfl
theorem P5 (a : Pos) (h : ok5 a = true) : PS Pz 5 [Pos.av a] (dB.res (N5 a)) := ps_gotR hB5 (E5 a) (gr_call (P18 (a)) (gr_br (gr_call (P17 ) (gr_ret rfl)) (gr_call (P15 (a)) (gr_call (P22 (a)) (gr_call (P23 (a)) (gr_br (gr_br (gr_guard (gr_call (P24 (a) ((N15 a).getD 0 default)) (gr_loop2 (fun h => L5_1 (N15 a) (N22 a) ((N23 a).fst != 0) (N24 a ((N15 a).getD 0 default)) (a) ((0, 0)) _ (some_getD h)) (wk_nrm (ks := (0 :: 2 :: (rn 9 111 [126, 127, 129]))) (gs := [3, 4, 5, 6, 7, 8]) (b := true) rfl (by kernel_rfl)) (gr_ret rfl) (gr_br (gr_br (gr_call (P17 ) (gr_ret rfl)) (gr_br (gr_call (P17 ) (gr_ret rfl)) (gr_ret rfl))) (gr_ret rfl))))) (gr_loop2 (fun h => L5_1 (N15 a) (N22 a) ((N23 a).fst != 0) (false) (a) ((0, 0)) _ (some_getD h)) (wk_nrm (ks := (0 :: 2 :: (rn 9 111 [126, 127, 129]))) (gs := [3, 4, 5, 6, 7, 8]) (b := true) rfl (by kernel_rfl)) (gr_ret rfl) (gr_br (gr_br (gr_call (P17 ) (gr_ret rfl)) (gr_br (gr_call (P17 ) (gr_ret rfl)) (gr_ret rfl))) (gr_ret rfl)))) (gr_loop2 (fun h => L5_1 (N15 a) (N22 a) ((N23 a).fst != 0) (false) (a) ((0, 0)) _ (some_getD h)) (wk_nrm (ks := (0 :: 2 :: (rn 9 111 [126, 127, 129]))) (gs := [3, 4, 5, 6, 7, 8]) (b := true) rfl (by kernel_rfl)) (gr_ret rfl) (gr_br (gr_br (gr_call (P17 ) (gr_ret rfl)) (gr_br (gr_call (P17 ) (gr_ret rfl)) (gr_ret rfl))) (gr_ret rfl))))))))) h
noncomputable def G5 : List AV → Tr AV := g1 dPos (fun a => sure Pz 5 [Pos.av a] (dB.res (N5 a)))
theorem s5 : Sound Pz 5 G5 := sound1 (fun _ => at_sure)
end Kz
end
section
namespace Kz
open Go Go.RowKit
set_option maxRecDepth 100000
set_option maxHeartbeats 4000000
theorem mv_beq (a b : Mv) : eqOut BinOp.eql (a.frm == b.frm && (a.to == b.to && (a.pro == b.pro && (a.drp == b.drp && (a.cas == b.cas && true))))) = decide (a = b) := mv_eq_iff a b
theorem lp5 {p : Pos} (hp : PosIn p) (ht : p.turn = 0 ∨ p.turn = 1) {l all : List Mv} {w p4 : Bool} {F : Mv → Bool} (hl : l = all.filter F) (hn : all.length ≤ 100000)
    (A : ∀ m, F m = true → N25 p m = true ∧ (p4 = true → N24 p m = true))
    (B : ∀ m, m ∈ all → F m = false → N25 p m = true → w = false → (N20 p.variant p.turn = true → N26 p = true) → p4 = true ∧ N24 p m = false) :
    ∃ r, lp5_1 l all w p4 p (0, 0) = some r ∧ (isL r = false ∧ (gr r).1 = l.length) := by
  have hll : l.length ≤ all.length := by rw [hl]; exact List.length_filter_le _ _
  refine lp_many (I := fun x => 0 ≤ x.1 ∧ x.1 ≤ (l.length : Int) ∧ 0 ≤ x.2 ∧ x.2 ≤ (all.length : Int) ∧ l.drop x.1.toNat = (all.drop x.2.toNat).filter F) (μ := fun x => ((all.length : Int) - x.2).toNat) ?_ _ ⟨by simp, by simp, by simp, by simp, by simpa using hl⟩ (by simp; omega)
  rintro ⟨n, i⟩ ⟨h0, h1, h2, h3, h4⟩
  simp only at h0 h1 h2 h3 h4
  have k25 := fun m => t25 hp m
  have k24 := fun m => t24 hp.v0 m
  have k26 := (N26_has hp ht).1
  have k20 : ok20 p.variant p.turn = true := t20 hp.v0 hp.t0
  by_cases hc : i < all.length
  · have hi : i.toNat < all.length := by omega
    have hw := wi64 (n := i + 1) (by omega) (by omega)
    have hw2 := wi64 (n := n + 1) (by omega) (by omega)
    have ki : (decide (0 ≤ i) && decide (i < Int.ofNat all.length)) = true := by simp [h2]; exact hc
    have kn : n < l.length → (decide (0 ≤ n) && decide (n < Int.ofNat l.length)) = true := fun h => by simp [h0]; exact h
    have hm : all.getD i.toNat default = all[i.toNat] := by rw [List.getD_eq_getElem?_getD, List.getElem?_eq_getElem hi]; rfl
    have hmem : all[i.toNat] ∈ all := List.getElem_mem hi
    have hd : all.drop i.toNat = all[i.toNat] :: all.drop (i.toNat + 1) := List.drop_eq_getElem_cons hi
    have hs : (i + 1).toNat = i.toNat + 1 := by omega
    have hs2 : (n + 1).toNat = n.toNat + 1 := by omega
    rw [hd] at h4
    unfold okL5_1 st5_1
    dsimp only
    rw [hm]
    generalize all[i.toNat] = m at h4 hmem
    have k25 := k25 m
    have k24 := k24 m
    constructor
    · refine c_true (fun _ => ?_) fun _ => rfl
      have rest : (ok20 p.variant p.turn && bif N20 p.variant p.turn then ok26 p && (decide (0 ≤ i) && decide (i < Int.ofNat all.length) && (ok25 p m && bif N25 p m then bif !w then bif !!N26 p then bif !p4 then true else decide (0 ≤ i) && decide (i < Int.ofNat all.length) && (ok24 p m && true) else true else true else true)) else decide (0 ≤ i) && decide (i < Int.ofNat all.length) && (ok25 p m && bif N25 p m then bif !w then bif !p4 then true else decide (0 ≤ i) && decide (i < Int.ofNat all.length) && (ok24 p m && true) else true else true)) = true := by
        repeat' (first | with_reducible rfl | with_reducible exact k20 | with_reducible exact k25 | with_reducible exact k24 | with_reducible exact k26 | with_reducible exact ki | refine a_true ?_ (fun _ => ?_) | refine c_true (fun _ => ?_) (fun _ => ?_))
      refine c_true (fun hn => ?_) fun _ => rest
      have kn := kn (by simpa using hn)
      refine a_true kn fun _ => a_true ki fun _ => c_true (fun _ => ?_) fun _ => rest
      repeat' (first | with_reducible rfl | with_reducible exact k25 | with_reducible exact k24 | with_reducible exact ki | refine a_true ?_ (fun _ => ?_) | refine c_true (fun _ => ?_) (fun _ => ?_))
    · rw [hw, hw2]
      refine c_ind (fun _ => ?_) fun h => absurd h (by simpa using hc)
      cases hF : F m with
      | true =>
        rw [List.filter_cons_of_pos hF] at h4
        obtain ⟨A1, A2⟩ := A m hF
        have hlt : n.toNat < l.length := by
          refine Classical.byContradiction fun hge => ?_
          rw [List.drop_eq_nil_of_le (by omega)] at h4
          cases h4
        have hd2 := List.drop_eq_getElem_cons hlt
        rw [hd2] at h4
        obtain ⟨e1, e2⟩ := List.cons.inj h4
        have hg : l.getD n.toNat default = m := by rw [List.getD_eq_getElem?_getD, List.getElem?_eq_getElem hlt]; exact e1
        rw [hg, show decide (n < Int.ofNat l.length) = true by simp; omega, mv_beq, A1]
        simp only [decide_true, cond_true, Bool.not_true, cond_false]
        have fin : Nxt (fun x : Int × Int => 0 ≤ x.1 ∧ x.1 ≤ (l.length : Int) ∧ 0 ≤ x.2 ∧ x.2 ≤ (all.length : Int) ∧ l.drop x.1.toNat = (all.drop x.2.toNat).filter F) (fun r : Unit ⊕ (Int × Int × Bool) => isL r = false ∧ (gr r).1 = l.length) (fun x => ((all.length : Int) - x.2).toNat) ((all.length : Int) - i).toNat (.go (n + 1, i + 1)) :=
          ⟨⟨by show 0 ≤ n + 1; omega, by show n + 1 ≤ _; omega, by show 0 ≤ i + 1; omega, by show i + 1 ≤ _; omega, by show l.drop (n + 1).toNat = _; rw [hs2, hs]; exact e2⟩, by show (_ - (i + 1)).toNat < _; omega⟩
        refine c_ind (fun h4 => ?_) fun _ => fin
        rw [A2 h4]
        exact fin
      | false =>
        rw [List.filter_cons_of_neg (by simp [hF])] at h4
        have B := B m hmem hF
        have fin : Nxt (fun x : Int × Int => 0 ≤ x.1 ∧ x.1 ≤ (l.length : Int) ∧ 0 ≤ x.2 ∧ x.2 ≤ (all.length : Int) ∧ l.drop x.1.toNat = (all.drop x.2.toNat).filter F) (fun r : Unit ⊕ (Int × Int × Bool) => isL r = false ∧ (gr r).1 = l.length) (fun x => ((all.length : Int) - x.2).toNat) ((all.length : Int) - i).toNat (.go (n, i + 1)) :=
          ⟨⟨h0, h1, by show 0 ≤ i + 1; omega, by show i + 1 ≤ _; omega, by show l.drop n.toNat = _; rw [hs]; exact h4⟩, by show (_ - (i + 1)).toNat < _; omega⟩
        have rest : ∀ P : Stp (Int × Int) (Unit ⊕ (Int × Int × Bool)) → Prop, P (.go (n, i + 1)) → P (bif N20 p.variant p.turn then bif N25 p m then bif !w then bif !!N26 p then bif !p4 then .out (.inl ()) else bif N24 p m then .out (.inl ()) else .go (n, i + 1) else .go (n, i + 1) else .go (n, i + 1) else .go (n, i + 1) else bif N25 p m then bif !w then bif !p4 then .out (.inl ()) else bif N24 p m then .out (.inl ()) else .go (n, i + 1) else .go (n, i + 1) else .go (n, i + 1)) := by
          intro P hP
          refine c_ind (fun hr => c_ind (fun h25 => c_ind (fun hw => c_ind (fun h26 => ?_) fun _ => hP) fun _ => hP) fun _ => hP) fun hr => c_ind (fun h25 => c_ind (fun hw => ?_) fun _ => hP) fun _ => hP
          · obtain ⟨b1, b2⟩ := B h25 (by simpa using hw) (fun _ => by simpa using h26)
            rw [b1, b2]; exact hP
          · obtain ⟨b1, b2⟩ := B h25 (by simpa using hw) (fun h => by rw [hr] at h; cases h)
            rw [b1, b2]; exact hP
        refine c_ind (fun hn => ?_) fun _ => rest _ fin
        have hn : n < l.length := by simpa using hn
        have hne : l.getD n.toNat default ≠ m := by
          intro e
          have := getD_mem (l := l) (d := default) (show n.toNat < l.length by omega)
          rw [e, hl, List.mem_filter, hF] at this
          cases this.2
        rw [mv_beq, show decide (l.getD n.toNat default = m) = false by simpa using hne]
        exact rest _ fin
  · unfold okL5_1 st5_1
    dsimp only
    refine ⟨c_true (fun h => absurd h (by simpa using hc)) fun _ => rfl, c_ind (fun h => absurd h (by simpa using hc)) fun _ => ?_⟩
    refine ⟨rfl, ?_⟩
    show n = l.length
    rw [List.drop_eq_nil_of_le (show all.length ≤ i.toNat by omega)] at h4
    have := List.drop_eq_nil_iff.1 h4
    omega
noncomputable def anyT (p : Pos) : Bool := ((N22 p).filter (N25 p)).any (N24 p)
noncomputable def mayF (p : Pos) (m : Mv) : Bool := !((N23 p).1 != 0) && !(N20 p.variant p.turn && !N58 p p.turn) && N25 p m && (!(p.variant == 4 && anyT p) || N24 p m)
theorem N15_may {p : Pos} (hp : PosIn p) : N15 p = (N22 p).filter (mayF p) := by
  rw [N15_eq hp, N37_eq hp]
  have none : ∀ b : Bool, b = false → (N22 p).filter (fun m => b && N25 p m && (!(p.variant == 4 && anyT p) || N24 p m)) = [] := fun b hb => by
    rw [hb]; simp
  unfold mayF
  cases hw : (N23 p).1 != 0 with
  | true => simp
  | false =>
    cases hr : (N20 p.variant p.turn && !N58 p p.turn) with
    | true =>
      simp only [Bool.and_eq_true, Bool.not_eq_true'] at hr
      rw [hr.1, hr.2]
      simp
    | false =>
      have e : (bif N20 p.variant p.turn then bif !N58 p p.turn then [] else wouldL p else wouldL p) = wouldL p := by
        revert hr
        cases N20 p.variant p.turn <;> cases N58 p p.turn <;> simp
      rw [e]
      unfold wouldL anyT
      cases hv : (p.variant == 4) with
      | false => simp
      | true =>
        cases ha : ((N22 p).filter (N25 p)).any (N24 p) with
        | false => simp [hv, ha]
        | true =>
          simp only [cond_true, cond_false, Bool.not_false, Bool.true_and, Bool.and_true, Bool.not_true, Bool.false_or, List.filter_filter]
          congr 1
          funext m
          exact Bool.and_comm _ _
theorem N5_true {p : Pos} (hp : PosIn p) : ok5 p = true ∧ N5 p = true := by
  have k17 := ok17_true
  have e17 := N17_true
  have k18 := t18 hp
  have k15 := t15 hp
  have k22 := t22 hp
  have k23 := t23 hp
  cases hlaw : N18 p with
  | false =>
    constructor
    · unfold ok5; rw [hlaw, k18, k17]; rfl
    · unfold N5; rw [hlaw]; exact e17
  | true =>
    have ht : p.turn = 0 ∨ p.turn = 1 := by
      have t0 := hp.t0
      have : p.turn < 2 := by
        unfold N18 at hlaw
        rw [show (Pos.mk p.variant p.board p.promoted p.pockets p.turn p.rooks p.passing p.checks p.half p.full) = p from rfl] at hlaw
        revert hlaw
        refine c_ind (P := fun b : Bool => b = true → p.turn < 2) (fun _ h => by cases h) fun _ => c_ind (P := fun b : Bool => b = true → p.turn < 2) (fun h _ => by simpa using h) fun _ h => by cases h
      omega
    have h26 := (N26_has hp ht).2
    have hl := N15_may hp
    have hn : (N22 p).length ≤ 100000 := by have := N22_len hp; omega
    have k24 := fun m => t24 hp.v0 m
    have head : (N15 p).length > 0 → mayF p ((N15 p).getD 0 default) = true ∧ (N15 p).getD 0 default ∈ N22 p := fun h => by
      have := getD_mem (l := N15 p) (d := default) h
      rw [show (List.getD (N15 p) 0 default) = (N15 p).getD 0 default from rfl] at this
      generalize (N15 p).getD 0 default = m at this
      rw [hl, List.mem_filter] at this
      exact ⟨this.2, this.1⟩
    have may25 : ∀ m, mayF p m = true → N25 p m = true ∧ ((p.variant == 4 && anyT p) = true → N24 p m = true) := fun m h => by
      unfold mayF at h
      simp only [Bool.and_eq_true] at h
      refine ⟨h.1.2, fun ha => ?_⟩
      have := h.2
      rw [ha] at this
      simpa using this
    have walk : ∀ p4 : Bool, (p4 = true → (p.variant == 4 && anyT p) = true) → ((p.variant == 4) = true → (N15 p).length > 0 → p4 = N24 p ((N15 p).getD 0 default)) → ∃ r, lp5_1 (N15 p) (N22 p) ((N23 p).1 != 0) p4 p (0, 0) = some r ∧ (isL r = false ∧ (gr r).1 = (N15 p).length) := by
      intro p4 h1 h2
      refine lp5 hp ht hl hn (fun m hm => ⟨(may25 m hm).1, fun h => (may25 m hm).2 (h1 h)⟩) ?_
      intro m hm hF h25 hw h58
      unfold mayF at hF
      have hk : (N20 p.variant p.turn && !N58 p p.turn) = false := by
        cases hr : N20 p.variant p.turn with
        | false => rfl
        | true => rw [← h26, h58 hr]; rfl
      rw [hw, hk, h25] at hF
      simp only [Bool.not_false, Bool.true_and, Bool.or_eq_false_iff, Bool.not_eq_false'] at hF
      refine ⟨?_, hF.2⟩
      have hv : (p.variant == 4) = true := by
        have := hF.1
        simp only [Bool.and_eq_true] at this
        exact this.1
      have ha : anyT p = true := by
        have := hF.1
        simp only [Bool.and_eq_true] at this
        exact this.2
      have hex : ∃ m', m' ∈ N15 p := by
        unfold anyT at ha
        obtain ⟨m', hm', h24⟩ := List.any_eq_true.1 ha
        rw [List.mem_filter] at hm'
        refine ⟨m', ?_⟩
        rw [hl, List.mem_filter]
        refine ⟨hm'.1, ?_⟩
        unfold mayF
        rw [hw, hk, hm'.2, h24]
        simp
      have hpos : (N15 p).length > 0 := by
        obtain ⟨m', hm'⟩ := hex
        exact List.length_pos_of_mem hm'
      rw [h2 hv hpos]
      exact (may25 _ (head hpos).1).2 hF.1
    have won : ((N23 p).1 != 0) = true → (N15 p).length = 0 := fun h => by
      rw [N15_eq hp, h]; rfl
    have tail : ∀ n : Int, n = (N15 p).length → (bif n == Int.ofNat (N15 p).length then (bif !(N23 p).1 != 0 then N17 else (bif n == 0 then N17 else false)) else false) = true := by
      intro n hn'
      rw [hn', show ((((N15 p).length : Nat) : Int) == Int.ofNat (N15 p).length) = true by simp, cond_true]
      refine c_true (fun _ => e17) fun h => ?_
      have h : ((N23 p).1 != 0) = true := by simpa using h
      rw [won h]
      exact e17
    have tailk : ∀ n : Int, (bif n == Int.ofNat (N15 p).length then (bif !(N23 p).1 != 0 then (ok17 && true) else (bif n == 0 then (ok17 && true) else true)) else true) = true := by
      intro n
      refine c_true (fun _ => c_true (fun _ => a_true k17 fun _ => rfl) fun _ => c_true (fun _ => a_true k17 fun _ => rfl) fun _ => rfl) fun _ => rfl
    have wf : (p.variant == 4) = false ∨ ¬ (N15 p).length > 0 → ∃ r, lp5_1 (N15 p) (N22 p) ((N23 p).1 != 0) false p (0, 0) = some r ∧ (isL r = false ∧ (gr r).1 = (N15 p).length) := fun h => walk false (fun h => by cases h) fun h1 h2 => by
      rcases h with h | h
      · rw [h1] at h; cases h
      · exact absurd h2 h
    have wt : (p.variant == 4) = true → (N15 p).length > 0 → ∃ r, lp5_1 (N15 p) (N22 p) ((N23 p).1 != 0) (N24 p ((N15 p).getD 0 default)) p (0, 0) = some r ∧ (isL r = false ∧ (gr r).1 = (N15 p).length) := fun hv hpos => walk _ (fun h => by
      rw [hv, Bool.true_and]
      obtain ⟨h1, h2⟩ := head hpos
      unfold anyT
      exact List.any_eq_true.2 ⟨_, List.mem_filter.2 ⟨h2, (may25 _ h1).1⟩, h⟩) fun _ _ => rfl
    constructor
    · unfold ok5
      rw [hlaw]
      refine a_true k18 fun _ => c_true (fun h => by cases h) fun _ => a_true k15 fun _ => a_true k22 fun _ => a_true k23 fun _ => c_true (fun hv => c_true (fun hpos => ?_) fun hz => ?_) fun hv => ?_
      · have hpos : (N15 p).length > 0 := by simpa using hpos
        have w := of_some (wt hv hpos)
        refine a_true (by simp; omega) fun _ => a_true (k24 _) fun _ => a_true w.1 fun _ => c_true (fun _ => rfl) fun _ => tailk _
      · have w := of_some (wf (.inr (by simpa using hz)))
        exact a_true w.1 fun _ => c_true (fun _ => rfl) fun _ => tailk _
      · have w := of_some (wf (.inl hv))
        exact a_true w.1 fun _ => c_true (fun _ => rfl) fun _ => tailk _
    · unfold N5
      rw [hlaw]
      refine c_true (fun h => by cases h) fun _ => c_true (fun hv => c_true (fun hpos => ?_) fun hz => ?_) fun hv => ?_
      · have hpos : (N15 p).length > 0 := by simpa using hpos
        obtain ⟨_, w1, w2⟩ := of_some (wt hv hpos)
        rw [w1]
        exact tail _ w2
      · obtain ⟨_, w1, w2⟩ := of_some (wf (.inr (by simpa using hz)))
        rw [w1]
        exact tail _ w2
      · obtain ⟨_, w1, w2⟩ := of_some (wf (.inl hv))
        rw [w1]
        exact tail _ w2
end Kz
end
section
namespace Kz
open Go Go.RowKit Go.Proofs
set_option maxRecDepth 100000
set_option maxHeartbeats 4000000
noncomputable def K4 : List (Nat × List (Nat × List Nat)) := [(4, [(0, (0 :: (rn 2 35 (46 :: 47 :: 48 :: (rn 59 4 (rn 86 5 [97, 98])))))), (1, (0 :: (rn 2 10 (rn 13 24 (46 :: 47 :: 48 :: (rn 59 4 (rn 86 5 [97, 98]))))))), (2, (0 :: 1 :: (rn 3 96 []))), (3, (0 :: 2 :: (rn 4 33 (46 :: 47 :: 48 :: (rn 59 4 (rn 86 5 [97, 98])))))), (4, (0 :: 2 :: (rn 5 32 (46 :: 47 :: 48 :: (rn 59 4 (rn 86 5 [97, 98])))))), (5, (0 :: 2 :: (rn 5 14 (rn 20 17 (46 :: 47 :: 48 :: (rn 59 4 (rn 86 5 [97, 98]))))))), (6, (0 :: 2 :: (rn 5 32 (46 :: 47 :: 48 :: (rn 59 4 (rn 86 5 [97, 98])))))), (7, (0 :: 2 :: (rn 7 30 (46 :: 47 :: 48 :: (rn 59 4 (rn 86 5 [97, 98])))))), (8, (0 :: 2 :: (rn 9 28 (46 :: 47 :: 48 :: (rn 59 4 (rn 86 5 [97, 98])))))), (9, (0 :: 2 :: (rn 10 27 (46 :: 47 :: 48 :: (rn 59 4 (rn 86 5 [97, 98])))))), (10, (0 :: 2 :: (rn 10 22 (rn 33 4 (46 :: 47 :: 48 :: (rn 59 4 (rn 86 5 [97, 98]))))))), (11, (0 :: 2 :: (rn 10 27 (46 :: 47 :: 48 :: (rn 59 4 (rn 86 5 [97, 98])))))), (12, (0 :: 2 :: (rn 10 27 (46 :: 47 :: 48 :: (rn 59 4 (rn 86 5 [97, 98])))))), (13, (0 :: 2 :: (rn 10 27 (46 :: 47 :: 48 :: (rn 59 4 (rn 86 5 [97, 98])))))), (14, (0 :: 2 :: (rn 6 31 (46 :: 47 :: 48 :: (rn 59 4 (rn 87 4 [97, 98])))))), (15, (0 :: 1 :: (rn 3 96 []))), (16, (0 :: 2 :: (rn 5 32 (46 :: 47 :: 48 :: (rn 59 4 (rn 86 5 [98])))))), (17, (0 :: 1 :: (rn 3 96 []))), (18, (0 :: 1 :: (rn 3 96 [])))])]
noncomputable def B4_2 : Base := baseOf Pz (fun f i => lkK f i K4) [(15, G15), (17, G17), (18, G18), (19, G19), (20, G20), (21, G21)] [] []
theorem hB4_2 : BOk B4_2 := base_ok named_z ⟨s15, s17, s18, s19, s20, s21, trivial⟩ trivial trivial
noncomputable def S4_2 (p1 : (List Mv)) (p2 : Int) (p3 : Bool) (p4 : Pos) (p5 : Pos) (x : (Bool × Bool × Int)) : St := St.mk (AV.any :: AV.ptr 0 0 :: AV.any :: AV.list ET.mv p1 Tk.fresh :: AV.int .i64 p2 :: AV.ptr 1 0 :: AV.bool p3 :: AV.bool x.fst :: AV.bool x.snd.fst :: AV.int .i64 x.snd.snd :: (an 89 [])) (Hp.mk [(pc p4 []), (pc p5 [])] [] [] 0 0 0)
noncomputable def O4_2 (p1 : (List Mv)) (p2 : Int) (p3 : Bool) (p4 : Pos) (p5 : Pos) : (Bool × Bool × Int × Bool) → Out := fun y => .exit 2 (St.mk (AV.any :: AV.ptr 0 0 :: AV.any :: AV.list ET.mv p1 Tk.fresh :: AV.int .i64 p2 :: AV.ptr 1 0 :: AV.bool p3 :: AV.bool y.fst :: AV.bool y.snd.fst :: AV.int .i64 y.snd.snd.fst :: (an 22 (AV.bool y.snd.snd.snd :: (an 66 [])))) (Hp.mk [(pc p4 []), (pc p5 [])] [] [] 0 0 0))
noncomputable def st4_2 (p1 : (List Mv)) (p2 : Int) (p3 : Bool) (p4 : Pos) (p5 : Pos) (x : (Bool × Bool × Int)) : Stp (Bool × Bool × Int) ((Bool × Bool × Int × Bool)) := (bif decide (x.snd.snd < 64) then (bif x.fst then (bif x.snd.fst then (Stp.go (true, true, wr .i64 (x.snd.snd + 1))) else (Stp.go (true, p5.board.getD (scale 1 x.snd.snd).toNat 0 == wr .u8 (wr .u8 (8 * wr .u8 (1 - p4.turn)) + 6), wr .i64 (x.snd.snd + 1)))) else (bif x.snd.fst then (Stp.go (p5.board.getD (scale 1 x.snd.snd).toNat 0 == wr .u8 (wr .u8 (8 * p4.turn) + 6), true, wr .i64 (x.snd.snd + 1))) else (Stp.go (p5.board.getD (scale 1 x.snd.snd).toNat 0 == wr .u8 (wr .u8 (8 * p4.turn) + 6), p5.board.getD (scale 1 x.snd.snd).toNat 0 == wr .u8 (wr .u8 (8 * wr .u8 (1 - p4.turn)) + 6), wr .i64 (x.snd.snd + 1))))) else (Stp.out ((x.fst, x.snd.fst, x.snd.snd, decide (x.snd.snd < 64)))))
noncomputable def okL4_2 (p1 : (List Mv)) (p2 : Int) (p3 : Bool) (p4 : Pos) (p5 : Pos) (x : (Bool × Bool × Int)) : Bool := (bif decide (x.snd.snd < 64) then (bif x.fst then (bif x.snd.fst then true else (decide (0 ≤ x.snd.snd) && decide (x.snd.snd < Int.ofNat 64) && true)) else (decide (0 ≤ x.snd.snd) && decide (x.snd.snd < Int.ofNat 64) && (bif x.snd.fst then true else (decide (0 ≤ x.snd.snd) && decide (x.snd.snd < Int.ofNat 64) && true)))) else true)
noncomputable def lp4_2 (p1 : (List Mv)) (p2 : Int) (p3 : Bool) (p4 : Pos) (p5 : Pos) (x : (Bool × Bool × Int)) : Option ((Bool × Bool × Int × Bool)) := itl (fun x => bif okL4_2 p1 p2 p3 p4 p5 x then st4_2 p1 p2 p3 p4 p5 x else .bad) many x
theorem E4_2 (p1 : (List Mv)) (p2 : Int) (p3 : Bool) (p4 : Pos) (p5 : Pos) (x : (Bool × Bool × Int)) : evCd B4_2 12 4 (bodL Pz 4 10) (S4_2 p1 p2 p3 p4 p5 x) = (let z3 := (Hp.mk [(pc p4 []), (pc p5 [])] [] [] 0 0 0); let z4 := (an 3 (AV.undef :: AV.undef :: AV.undef :: AV.undef :: AV.undef :: AV.undef :: AV.undef :: AV.undef :: AV.undef :: AV.undef :: (an 40 []))); let z5 := (decide (0 ≤ x.snd.snd) && decide (x.snd.snd < Int.ofNat 64)); let z7 := (wr .i64 (x.snd.snd + 1)); let z8 := (scale 1 x.snd.snd); let z2 := (p5.board.getD z8.toNat 0 == wr .u8 (wr .u8 (8 * p4.turn) + 6)); let z6 := (p5.board.getD z8.toNat 0 == wr .u8 (wr .u8 (8 * wr .u8 (1 - p4.turn)) + 6)); let z1 := (an 3 (AV.int .i64 x.snd.snd :: AV.ptr 1 1 :: AV.ptri 1 1 64 z8 1 :: AV.int .u8 (p5.board.getD z8.toNat 0) :: AV.ptr 0 78 :: AV.int .u8 p4.turn :: AV.int .u8 (wr .u8 (1 - p4.turn)) :: AV.int .u8 (wr .u8 (8 * wr .u8 (1 - p4.turn))) :: AV.int .u8 (wr .u8 (wr .u8 (8 * wr .u8 (1 - p4.turn)) + 6)) :: AV.bool z6 :: (an 40 []))); Tr.br (decide (x.snd.snd < 64)) (Tr.br x.fst (Tr.br x.snd.fst (Tr.ret (Out.norm (St.mk (AV.any :: AV.ptr 0 0 :: AV.any :: AV.list ET.mv p1 Tk.fresh :: AV.int .i64 p2 :: AV.ptr 1 0 :: AV.bool p3 :: AV.cbool true :: AV.cbool true :: AV.int .i64 z7 :: (an 27 (AV.undef :: AV.undef :: AV.undef :: AV.undef :: AV.undef :: AV.undef :: AV.undef :: AV.undef :: AV.undef :: z4))) z3))) (Tr.br z5 (Tr.ret (Out.norm (St.mk (AV.any :: AV.ptr 0 0 :: AV.any :: AV.list ET.mv p1 Tk.fresh :: AV.int .i64 p2 :: AV.ptr 1 0 :: AV.bool p3 :: AV.cbool true :: AV.bool z6 :: AV.int .i64 z7 :: (an 27 (AV.undef :: AV.undef :: AV.undef :: AV.undef :: AV.undef :: AV.undef :: AV.undef :: AV.undef :: AV.undef :: z1))) z3))) Tr.fail)) (Tr.br z5 (Tr.br x.snd.fst (Tr.ret (Out.norm (St.mk (AV.any :: AV.ptr 0 0 :: AV.any :: AV.list ET.mv p1 Tk.fresh :: AV.int .i64 p2 :: AV.ptr 1 0 :: AV.bool p3 :: AV.bool z2 :: AV.cbool true :: AV.int .i64 z7 :: (an 27 (AV.int .i64 x.snd.snd :: AV.ptr 1 1 :: AV.ptri 1 1 64 z8 1 :: AV.int .u8 (p5.board.getD z8.toNat 0) :: AV.ptr 0 78 :: AV.int .u8 p4.turn :: AV.int .u8 (wr .u8 (8 * p4.turn)) :: AV.int .u8 (wr .u8 (wr .u8 (8 * p4.turn) + 6)) :: AV.bool z2 :: z4))) z3))) (Tr.br z5 (Tr.ret (Out.norm (St.mk (AV.any :: AV.ptr 0 0 :: AV.any :: AV.list ET.mv p1 Tk.fresh :: AV.int .i64 p2 :: AV.ptr 1 0 :: AV.bool p3 :: AV.bool z2 :: AV.bool z6 :: AV.int .i64 z7 :: (an 27 (AV.int .i64 x.snd.snd :: AV.ptr 1 1 :: AV.ptri 1 1 64 z8 1 :: AV.int .u8 (p5.board.getD z8.toNat 0) :: AV.ptr 0 78 :: AV.int .u8 p4.turn :: AV.int .u8 (wr .u8 (8 * p4.turn)) :: AV.int .u8 (wr .u8 (wr .u8 (8 * p4.turn) + 6)) :: AV.bool z2 :: z1))) z3))) Tr.fail)) Tr.fail)) (Tr.ret (Out.exit 2 (St.mk (AV.any :: AV.ptr 0 0 :: AV.any :: AV.list ET.mv p1 Tk.fresh :: AV.int .i64 p2 :: AV.ptr 1 0 :: AV.bool p3 :: AV.bool x.fst :: AV.bool x.snd.fst :: AV.int .i64 x.snd.snd :: (an 22 (AV.bool (decide (x.snd.snd < 64)) :: (an 66 [])))) z3)))) := by kernel_rfl
theorem L4_2 (p1 : (List Mv)) (p2 : Int) (p3 : Bool) (p4 : Pos) (p5 : Pos) (x : (Bool × Bool × Int)) (r : (Bool × Bool × Int × Bool)) (h : lp4_2 p1 p2 p3 p4 p5 x = some r) : LSpec Pz (bodL Pz 4 10) (S4_2 p1 p2 p3 p4 p5 x) (O4_2 p1 p2 p3 p4 p5 r) := LSpec.itd (S := S4_2 p1 p2 p3 p4 p5) (O := O4_2 p1 p2 p3 p4 p5) (ok := okL4_2 p1 p2 p3 p4 p5) (st := st4_2 p1 p2 p3 p4 p5) hB4_2 (fun x => gr_eq (E4_2 p1 p2 p3 p4 p5 x) (gr_br (gr_br (gr_br (gr_ret (rl_go (wk_nrm (ks := (0 :: 2 :: (rn 10 89 []))) (gs := [3, 4, 6, 7, 8, 9]) (b := true) rfl (by kernel_rfl)))) (gr_guard (gr_ret (rl_go (wk_nrm (ks := (0 :: 2 :: (rn 10 89 []))) (gs := [3, 4, 6, 7, 8, 9]) (b := true) rfl (by kernel_rfl)))))) (gr_guard (gr_br (gr_ret (rl_go (wk_nrm (ks := (0 :: 2 :: (rn 10 89 []))) (gs := [3, 4, 6, 7, 8, 9]) (b := true) rfl (by kernel_rfl)))) (gr_guard (gr_ret (rl_go (wk_nrm (ks := (0 :: 2 :: (rn 10 89 []))) (gs := [3, 4, 6, 7, 8, 9]) (b := true) rfl (by kernel_rfl)))))))) (gr_ret (rl_exit rfl (wk_nrm (ks := (0 :: 2 :: (rn 10 22 (rn 33 66 [])))) (gs := []) (b := false) rfl (by kernel_rfl)))))) many x r h
noncomputable def F4_2 : Code → St → Tr Out := sureL Pz (fun s => O4_2 (tL (ET.mv) (tT s 3)) (tI (tT s 4)) (tB (tT s 6)) (Kz.Pos.mk (tI (tH s 0 0)) (tN (tH s 0 1)) (tU (tH s 0 2)) (tN (tH s 0 3)) (tI (tH s 0 4)) (tN (tH s 0 5)) (tI (tH s 0 6)) (tN (tH s 0 7)) (tI (tH s 0 8)) (tI (tH s 0 9))) (Kz.Pos.mk (tI (tH s 1 0)) (tN (tH s 1 1)) (tU (tH s 1 2)) (tN (tH s 1 3)) (tI (tH s 1 4)) (tN (tH s 1 5)) (tI (tH s 1 6)) (tN (tH s 1 7)) (tI (tH s 1 8)) (tI (tH s 1 9))) ((lp4_2 (tL (ET.mv) (tT s 3)) (tI (tT s 4)) (tB (tT s 6)) (Kz.Pos.mk (tI (tH s 0 0)) (tN (tH s 0 1)) (tU (tH s 0 2)) (tN (tH s 0 3)) (tI (tH s 0 4)) (tN (tH s 0 5)) (tI (tH s 0 6)) (tN (tH s 0 7)) (tI (tH s 0 8)) (tI (tH s 0 9))) (Kz.Pos.mk (tI (tH s 1 0)) (tN (tH s 1 1)) (tU (tH s 1 2)) (tN (tH s 1 3)) (tI (tH s 1 4)) (tN (tH s 1 5)) (tI (tH s 1 6)) (tN (tH s 1 7)) (tI (tH s 1 8)) (tI (tH s 1 9))) ((tB (tT s 7)), (tB (tT s 8)), (tI (tT s 9)))).getD default))
theorem sF4_2 : ∀ b, LSound Pz b (F4_2 b) := sureL_sound
noncomputable def B4_3 : Base := baseOf Pz (fun f i => lkK f i K4) [(15, G15), (17, G17), (18, G18), (19, G19), (20, G20), (21, G21)] [(4, 10, F4_2)] []
theorem hB4_3 : BOk B4_3 := base_ok named_z ⟨s15, s17, s18, s19, s20, s21, trivial⟩ ⟨sF4_2, trivial⟩ trivial
noncomputable def S4_3 (p1 : (List Mv)) (p2 : Pos) (x : (Int)) : St := St.mk (AV.any :: AV.ptr 0 0 :: AV.any :: AV.list ET.mv p1 Tk.fresh :: AV.int .i64 x :: (an 94 [])) (Hp.mk [(pc p2 [])] [] [] 0 0 0)
noncomputable def O4_3 (p1 : (List Mv)) (p2 : Pos) : Unit ⊕ (Int × Bool) → Out
  | (.inl (y)) => .ret (St.mk (AV.any :: AV.any :: AV.cbool false :: (an 96 [])) (Hp.mk [(pc p2 [])] [] [] 0 0 0))
  | (.inr (y)) => .exit 0 (St.mk (AV.any :: AV.ptr 0 0 :: AV.any :: AV.list ET.mv p1 Tk.fresh :: AV.int .i64 y.fst :: (an 14 (AV.bool y.snd :: (an 79 [])))) (Hp.mk [(pc p2 [])] [] [] 0 0 0))
noncomputable def st4_3 (p1 : (List Mv)) (p2 : Pos) (x : (Int)) : Stp (Int) (Unit ⊕ (Int × Bool)) := (bif decide (x < Int.ofNat p1.length) then (bif !(N19 p2 (p1.getD x.toNat default)).snd then (Stp.out (.inl (()))) else (bif N20 p2.variant p2.turn then (bif !((lp4_2 p1 x (N19 p2 (p1.getD x.toNat default)).snd p2 (N19 p2 (p1.getD x.toNat default)).fst (false, false, 0)).getD default).fst then (Stp.out (.inl (()))) else (bif N21 (N19 p2 (p1.getD x.toNat default)).fst p2.turn then (bif p2.variant != 3 then (Stp.out (.inl (()))) else (bif ((lp4_2 p1 x (N19 p2 (p1.getD x.toNat default)).snd p2 (N19 p2 (p1.getD x.toNat default)).fst (false, false, 0)).getD default).snd.fst then (Stp.out (.inl (()))) else (bif p2.variant == 8 then (bif N21 (N19 p2 (p1.getD x.toNat default)).fst 0 then (Stp.out (.inl (()))) else (bif N21 (N19 p2 (p1.getD x.toNat default)).fst 1 then (Stp.out (.inl (()))) else (Stp.go (wr .i64 (x + 1))))) else (Stp.go (wr .i64 (x + 1)))))) else (bif p2.variant == 8 then (bif N21 (N19 p2 (p1.getD x.toNat default)).fst 0 then (Stp.out (.inl (()))) else (bif N21 (N19 p2 (p1.getD x.toNat default)).fst 1 then (Stp.out (.inl (()))) else (Stp.go (wr .i64 (x + 1))))) else (Stp.go (wr .i64 (x + 1)))))) else (bif p2.variant == 8 then (bif N21 (N19 p2 (p1.getD x.toNat default)).fst 0 then (Stp.out (.inl (()))) else (bif N21 (N19 p2 (p1.getD x.toNat default)).fst 1 then (Stp.out (.inl (()))) else (Stp.go (wr .i64 (x + 1))))) else (Stp.go (wr .i64 (x + 1)))))) else (Stp.out (.inr ((x, decide (x < Int.ofNat p1.length))))))
noncomputable def okL4_3 (p1 : (List Mv)) (p2 : Pos) (x : (Int)) : Bool := (bif decide (x < Int.ofNat p1.length) then (decide (0 ≤ x) && decide (x < Int.ofNat p1.length) && (ok19 (p2) (p1.getD x.toNat default) && ((lp4_2 p1 x (N19 p2 (p1.getD x.toNat default)).snd p2 (N19 p2 (p1.getD x.toNat default)).fst (false, false, 0)).isSome && (bif !(N19 p2 (p1.getD x.toNat default)).snd then true else (ok20 (p2.variant) (p2.turn) && (bif N20 p2.variant p2.turn then (bif !((lp4_2 p1 x (N19 p2 (p1.getD x.toNat default)).snd p2 (N19 p2 (p1.getD x.toNat default)).fst (false, false, 0)).getD default).fst then true else (ok21 ((N19 p2 (p1.getD x.toNat default)).fst) (p2.turn) && (bif N21 (N19 p2 (p1.getD x.toNat default)).fst p2.turn then (bif p2.variant != 3 then true else (bif ((lp4_2 p1 x (N19 p2 (p1.getD x.toNat default)).snd p2 (N19 p2 (p1.getD x.toNat default)).fst (false, false, 0)).getD default).snd.fst then true else (bif p2.variant == 8 then (ok21 ((N19 p2 (p1.getD x.toNat default)).fst) (0) && (bif N21 (N19 p2 (p1.getD x.toNat default)).fst 0 then true else (ok21 ((N19 p2 (p1.getD x.toNat default)).fst) (1) && true))) else true))) else (bif p2.variant == 8 then (ok21 ((N19 p2 (p1.getD x.toNat default)).fst) (0) && (bif N21 (N19 p2 (p1.getD x.toNat default)).fst 0 then true else (ok21 ((N19 p2 (p1.getD x.toNat default)).fst) (1) && true))) else true)))) else (bif p2.variant == 8 then (ok21 ((N19 p2 (p1.getD x.toNat default)).fst) (0) && (bif N21 (N19 p2 (p1.getD x.toNat default)).fst 0 then true else (ok21 ((N19 p2 (p1.getD x.toNat default)).fst) (1) && true))) else true))))))) else true)
noncomputable def lp4_3 (p1 : (List Mv)) (p2 : Pos) (x : (Int)) : Option (Unit ⊕ (Int × Bool)) := itl (fun x => bif okL4_3 p1 p2 x then st4_3 p1 p2 x else .bad) many x
theorem E4_3 (p1 : (List Mv)) (p2 : Pos) (x : (Int)) : evCd B4_3 12 4 (bodL Pz 4 5) (S4_3 p1 p2 x) = (let z1 := (N19 p2 (p1.getD x.toNat default)); let z2 := ((lp4_2 p1 x z1.snd p2 z1.fst (false, false, 0)).getD default); let z4 := (an 5 [AV.agg (pc z1.fst []), AV.bool (N21 z1.fst 0), AV.bool (N21 z1.fst 0), AV.agg (pc z1.fst []), AV.bool (N21 z1.fst 1), AV.bool (N21 z1.fst 1), AV.any, AV.any]); let z5 := (N20 p2.variant p2.turn); let z6 := (Hp.mk [(pc p2 [])] [] [] 0 0 0); let z3 := (Tr.ret (Out.ret (St.mk (AV.any :: AV.any :: AV.cbool false :: (an 96 [])) z6))); let z7 := (an 5 [AV.undef, AV.undef, AV.undef, AV.undef, AV.undef, AV.undef, AV.any, AV.any]); let z8 := (N21 z1.fst p2.turn); let z9 := (isPS Pz 21 [z1.fst.av, AV.int .u8 0] (dB.res (N21 z1.fst 0))); let z10 := (isPS Pz 21 [z1.fst.av, AV.int .u8 1] (dB.res (N21 z1.fst 1))); let z11 := (AV.bool !z2.fst); let z12 := (AV.bool (p2.variant != 3)); let z13 := (wr .i64 (x + 1)); Tr.br (decide (x < Int.ofNat p1.length)) (Tr.br (decide (0 ≤ x) && decide (x < Int.ofNat p1.length)) (Tr.br (isPS Pz 19 [p2.av, Mv.av (p1.getD x.toNat default)] ((d2 dPos dB).res z1)) (Tr.br (isLS Pz (bodL Pz 4 10) (St.mk (AV.any :: AV.ptr 0 0 :: AV.any :: AV.list ET.mv p1 Tk.fresh :: AV.int .i64 x :: AV.ptr 1 0 :: AV.bool z1.snd :: AV.cbool false :: AV.cbool false :: AV.cint .i64 0 :: (an 89 [])) (Hp.mk [(pc p2 []), (pc z1.fst [])] [] [] 0 0 0)) (O4_2 p1 x z1.snd p2 z1.fst z2)) (Tr.br (!z1.snd) z3 (Tr.br (isPS Pz 20 [AV.int .u8 p2.variant, AV.int .u8 p2.turn] (dB.res z5)) (Tr.br z5 (Tr.br (!z2.fst) z3 (Tr.br (isPS Pz 21 [z1.fst.av, AV.int .u8 p2.turn] (dB.res z8)) (Tr.br z8 (Tr.br (p2.variant != 3) z3 (Tr.br z2.snd.fst z3 (Tr.br (p2.variant == 8) (Tr.br z9 (Tr.br (N21 z1.fst 0) z3 (Tr.br z10 (Tr.br (N21 z1.fst 1) z3 (Tr.ret (Out.norm (St.mk (AV.any :: AV.ptr 0 0 :: AV.any :: AV.list ET.mv p1 Tk.fresh :: AV.int .i64 z13 :: (an 58 (AV.ptr 0 0 :: AV.int .u8 p2.variant :: AV.ptr 0 78 :: AV.int .u8 p2.turn :: AV.bool z5 :: AV.bool z5 :: AV.bool z2.fst :: z11 :: z11 :: AV.agg (pc z1.fst []) :: AV.ptr 0 78 :: AV.int .u8 p2.turn :: AV.bool z8 :: AV.bool z8 :: AV.ptr 0 0 :: AV.int .u8 p2.variant :: z12 :: z12 :: AV.bool z2.snd.fst :: AV.bool z2.snd.fst :: AV.bool z2.snd.fst :: AV.bool z2.snd.fst :: AV.bool z2.snd.fst :: z4))) z6)))) Tr.fail)) Tr.fail) (Tr.ret (Out.norm (St.mk (AV.any :: AV.ptr 0 0 :: AV.any :: AV.list ET.mv p1 Tk.fresh :: AV.int .i64 z13 :: (an 58 (AV.ptr 0 0 :: AV.int .u8 p2.variant :: AV.ptr 0 78 :: AV.int .u8 p2.turn :: AV.bool z5 :: AV.bool z5 :: AV.bool z2.fst :: z11 :: z11 :: AV.agg (pc z1.fst []) :: AV.ptr 0 78 :: AV.int .u8 p2.turn :: AV.bool z8 :: AV.bool z8 :: AV.ptr 0 0 :: AV.int .u8 p2.variant :: z12 :: z12 :: AV.bool z2.snd.fst :: AV.bool z2.snd.fst :: AV.bool z2.snd.fst :: AV.bool z2.snd.fst :: AV.bool z2.snd.fst :: z7))) z6)))))) (Tr.br (p2.variant == 8) (Tr.br z9 (Tr.br (N21 z1.fst 0) z3 (Tr.br z10 (Tr.br (N21 z1.fst 1) z3 (Tr.ret (Out.norm (St.mk (AV.any :: AV.ptr 0 0 :: AV.any :: AV.list ET.mv p1 Tk.fresh :: AV.int .i64 z13 :: (an 58 (AV.ptr 0 0 :: AV.int .u8 p2.variant :: AV.ptr 0 78 :: AV.int .u8 p2.turn :: AV.bool z5 :: AV.bool z5 :: AV.bool z2.fst :: z11 :: z11 :: AV.agg (pc z1.fst []) :: AV.ptr 0 78 :: AV.int .u8 p2.turn :: AV.bool z8 :: AV.bool z8 :: AV.undef :: AV.undef :: AV.undef :: AV.undef :: AV.undef :: AV.undef :: AV.cbool false :: AV.cbool false :: AV.cbool false :: z4))) z6)))) Tr.fail)) Tr.fail) (Tr.ret (Out.norm (St.mk (AV.any :: AV.ptr 0 0 :: AV.any :: AV.list ET.mv p1 Tk.fresh :: AV.int .i64 z13 :: (an 58 (AV.ptr 0 0 :: AV.int .u8 p2.variant :: AV.ptr 0 78 :: AV.int .u8 p2.turn :: AV.bool z5 :: AV.bool z5 :: AV.bool z2.fst :: z11 :: z11 :: AV.agg (pc z1.fst []) :: AV.ptr 0 78 :: AV.int .u8 p2.turn :: AV.bool z8 :: AV.bool z8 :: AV.undef :: AV.undef :: AV.undef :: AV.undef :: AV.undef :: AV.undef :: AV.cbool false :: AV.cbool false :: AV.cbool false :: z7))) z6))))) Tr.fail)) (Tr.br (p2.variant == 8) (Tr.br z9 (Tr.br (N21 z1.fst 0) z3 (Tr.br z10 (Tr.br (N21 z1.fst 1) z3 (Tr.ret (Out.norm (St.mk (AV.any :: AV.ptr 0 0 :: AV.any :: AV.list ET.mv p1 Tk.fresh :: AV.int .i64 z13 :: (an 58 (AV.ptr 0 0 :: AV.int .u8 p2.variant :: AV.ptr 0 78 :: AV.int .u8 p2.turn :: AV.bool z5 :: AV.bool z5 :: AV.undef :: AV.undef :: AV.undef :: AV.undef :: AV.undef :: AV.undef :: AV.undef :: AV.undef :: AV.undef :: AV.undef :: AV.undef :: AV.undef :: AV.undef :: AV.undef :: AV.undef :: AV.undef :: AV.cbool false :: z4))) z6)))) Tr.fail)) Tr.fail) (Tr.ret (Out.norm (St.mk (AV.any :: AV.ptr 0 0 :: AV.any :: AV.list ET.mv p1 Tk.fresh :: AV.int .i64 z13 :: (an 58 (AV.ptr 0 0 :: AV.int .u8 p2.variant :: AV.ptr 0 78 :: AV.int .u8 p2.turn :: AV.bool z5 :: AV.bool z5 :: AV.undef :: AV.undef :: AV.undef :: AV.undef :: AV.undef :: AV.undef :: AV.undef :: AV.undef :: AV.undef :: AV.undef :: AV.undef :: AV.undef :: AV.undef :: AV.undef :: AV.undef :: AV.undef :: AV.cbool false :: z7))) z6))))) Tr.fail)) Tr.fail) Tr.fail) Tr.fail) (Tr.ret (Out.exit 0 (St.mk (AV.any :: AV.ptr 0 0 :: AV.any :: AV.list ET.mv p1 Tk.fresh :: AV.int .i64 x :: (an 14 (AV.bool (decide (x < Int.ofNat p1.length)) :: (an 79 [])))) z6)))) := by kernel_rfl
theorem L4_3 (p1 : (List Mv)) (p2 : Pos) (x : (Int)) (r : Unit ⊕ (Int × Bool)) (h : lp4_3 p1 p2 x = some r) : LSpec Pz (bodL Pz 4 5) (S4_3 p1 p2 x) (O4_3 p1 p2 r) := LSpec.itd (S := S4_3 p1 p2) (O := O4_3 p1 p2) (ok := okL4_3 p1 p2) (st := st4_3 p1 p2) hB4_3 (fun x => gr_eq (E4_3 p1 p2 x) (gr_br (gr_guard (gr_call (P19 (p2) (p1.getD x.toNat default)) (gr_loop (fun h => L4_2 (p1) (x) ((N19 p2 (p1.getD x.toNat default)).snd) (p2) ((N19 p2 (p1.getD x.toNat default)).fst) ((false, false, 0)) _ (some_getD h)) (wk_nrm (ks := (0 :: 2 :: (rn 10 89 []))) (gs := [3, 4, 6, 7, 8, 9]) (b := true) rfl (by kernel_rfl)) (gr_br (gr_ret (rl_ret rfl (wk_nrm (ks := (0 :: 1 :: (rn 3 96 []))) (gs := []) (b := true) rfl (by kernel_rfl)))) (gr_call (P20 (p2.variant) (p2.turn)) (gr_br (gr_br (gr_ret (rl_ret rfl (wk_nrm (ks := (0 :: 1 :: (rn 3 96 []))) (gs := []) (b := true) rfl (by kernel_rfl)))) (gr_call (P21 ((N19 p2 (p1.getD x.toNat default)).fst) (p2.turn)) (gr_br (gr_br (gr_ret (rl_ret rfl (wk_nrm (ks := (0 :: 1 :: (rn 3 96 []))) (gs := []) (b := true) rfl (by kernel_rfl)))) (gr_br (gr_ret (rl_ret rfl (wk_nrm (ks := (0 :: 1 :: (rn 3 96 []))) (gs := []) (b := true) rfl (by kernel_rfl)))) (gr_br (gr_call (P21 ((N19 p2 (p1.getD x.toNat default)).fst) (0)) (gr_br (gr_ret (rl_ret rfl (wk_nrm (ks := (0 :: 1 :: (rn 3 96 []))) (gs := []) (b := true) rfl (by kernel_rfl)))) (gr_call (P21 ((N19 p2 (p1.getD x.toNat default)).fst) (1)) (gr_br2 (gr_ret (rl_ret rfl (wk_nrm (ks := (0 :: 1 :: (rn 3 96 []))) (gs := []) (b := true) rfl (by kernel_rfl)))) (gr_ret (rl_go (wk_nrm (ks := (0 :: 2 :: (rn 5 94 []))) (gs := [3, 4]) (b := true) rfl (by kernel_rfl)))))))) (gr_ret (rl_go (wk_nrm (ks := (0 :: 2 :: (rn 5 94 []))) (gs := [3, 4]) (b := true) rfl (by kernel_rfl))))))) (gr_br (gr_call (P21 ((N19 p2 (p1.getD x.toNat default)).fst) (0)) (gr_br (gr_ret (rl_ret rfl (wk_nrm (ks := (0 :: 1 :: (rn 3 96 []))) (gs := []) (b := true) rfl (by kernel_rfl)))) (gr_call (P21 ((N19 p2 (p1.getD x.toNat default)).fst) (1)) (gr_br2 (gr_ret (rl_ret rfl (wk_nrm (ks := (0 :: 1 :: (rn 3 96 []))) (gs := []) (b := true) rfl (by kernel_rfl)))) (gr_ret (rl_go (wk_nrm (ks := (0 :: 2 :: (rn 5 94 []))) (gs := [3, 4]) (b := true) rfl (by kernel_rfl)))))))) (gr_ret (rl_go (wk_nrm (ks := (0 :: 2 :: (rn 5 94 []))) (gs := [3, 4]) (b := true) rfl (by kernel_rfl)))))))) (gr_br (gr_call (P21 ((N19 p2 (p1.getD x.toNat default)).fst) (0)) (gr_br (gr_ret (rl_ret rfl (wk_nrm (ks := (0 :: 1 :: (rn 3 96 []))) (gs := []) (b := true) rfl (by kernel_rfl)))) (gr_call (P21 ((N19 p2 (p1.getD x.toNat default)).fst) (1)) (gr_br2 (gr_ret (rl_ret rfl (wk_nrm (ks := (0 :: 1 :: (rn 3 96 []))) (gs := []) (b := true) rfl (by kernel_rfl)))) (gr_ret (rl_go (wk_nrm (ks := (0 :: 2 :: (rn 5 94 []))) (gs := [3, 4]) (b := true) rfl (by kernel_rfl)))))))) (gr_ret (rl_go (wk_nrm (ks := (0 :: 2 :: (rn 5 94 []))) (gs := [3, 4]) (b := true) rfl (by kernel_rfl))))))))))) (gr_ret (rl_exit rfl (wk_nrm (ks := (0 :: 2 :: (rn 5 14 (rn 20 79 [])))) (gs := []) (b := false) rfl (by kernel_rfl)))))) many x r h
noncomputable def F4_3 : Code → St → Tr Out := fun b s => .br (isL ((lp4_3 (tL (ET.mv) (tT s 3)) (Kz.Pos.mk (tI (tH s 0 0)) (tN (tH s 0 1)) (tU (tH s 0 2)) (tN (tH s 0 3)) (tI (tH s 0 4)) (tN (tH s 0 5)) (tI (tH s 0 6)) (tN (tH s 0 7)) (tI (tH s 0 8)) (tI (tH s 0 9))) ((tI (tT s 4)))).getD default)) (sureL Pz (fun s => O4_3 (tL (ET.mv) (tT s 3)) (Kz.Pos.mk (tI (tH s 0 0)) (tN (tH s 0 1)) (tU (tH s 0 2)) (tN (tH s 0 3)) (tI (tH s 0 4)) (tN (tH s 0 5)) (tI (tH s 0 6)) (tN (tH s 0 7)) (tI (tH s 0 8)) (tI (tH s 0 9))) (.inl (gl ((lp4_3 (tL (ET.mv) (tT s 3)) (Kz.Pos.mk (tI (tH s 0 0)) (tN (tH s 0 1)) (tU (tH s 0 2)) (tN (tH s 0 3)) (tI (tH s 0 4)) (tN (tH s 0 5)) (tI (tH s 0 6)) (tN (tH s 0 7)) (tI (tH s 0 8)) (tI (tH s 0 9))) ((tI (tT s 4)))).getD default)))) b s) (sureL Pz (fun s => O4_3 (tL (ET.mv) (tT s 3)) (Kz.Pos.mk (tI (tH s 0 0)) (tN (tH s 0 1)) (tU (tH s 0 2)) (tN (tH s 0 3)) (tI (tH s 0 4)) (tN (tH s 0 5)) (tI (tH s 0 6)) (tN (tH s 0 7)) (tI (tH s 0 8)) (tI (tH s 0 9))) (.inr (gr ((lp4_3 (tL (ET.mv) (tT s 3)) (Kz.Pos.mk (tI (tH s 0 0)) (tN (tH s 0 1)) (tU (tH s 0 2)) (tN (tH s 0 3)) (tI (tH s 0 4)) (tN (tH s 0 5)) (tI (tH s 0 6)) (tN (tH s 0 7)) (tI (tH s 0 8)) (tI (tH s 0 9))) ((tI (tT s 4)))).getD default)))) b s)
theorem sF4_3 : ∀ b, LSound Pz b (F4_3 b) := brL_sound (c := fun s => isL ((lp4_3 (tL (ET.mv) (tT s 3)) (Kz.Pos.mk (tI (tH s 0 0)) (tN (tH s 0 1)) (tU (tH s 0 2)) (tN (tH s 0 3)) (tI (tH s 0 4)) (tN (tH s 0 5)) (tI (tH s 0 6)) (tN (tH s 0 7)) (tI (tH s 0 8)) (tI (tH s 0 9))) ((tI (tT s 4)))).getD default)) sureL_sound sureL_sound
noncomputable def B4 : Base := baseOf Pz (fun f i => lkK f i K4) [(15, G15), (17, G17), (18, G18), (19, G19), (20, G20), (21, G21)] [(4, 10, F4_2), (4, 5, F4_3)] []
theorem hB4 : BOk B4 := base_ok named_z ⟨s15, s17, s18, s19, s20, s21, trivial⟩ ⟨sF4_2, sF4_3, trivial⟩ trivial
noncomputable def N4 (a : Pos) : Bool := (bif !N18 a then (N17) else (bif isL ((lp4_3 (N15 a) a 0).getD default) then (false) else (N17)))
noncomputable def ok4 (a : Pos) : Bool := (ok18 (a) && (bif !N18 a then (ok17  && true) else (ok15 (a) && ((lp4_3 (N15 a) a 0).isSome && bif isL ((lp4_3 (N15 a) a 0).getD default) then true else (ok17  && true)))))
theorem E4 (a : Pos) : evPure B4 14 4 [Pos.av a] = (let z1 := (St.mk (AV.any :: AV.ptr 0 0 :: AV.any :: AV.list ET.mv (N15 a) Tk.fresh :: AV.cint .i64 0 :: (an 32 (AV.undef :: AV.undef :: AV.undef :: AV.undef :: AV.undef :: AV.undef :: AV.undef :: AV.undef :: AV.undef :: (an 3 (AV.undef :: AV.undef :: AV.undef :: AV.undef :: AV.undef :: AV.undef :: AV.undef :: AV.undef :: AV.undef :: AV.undef :: (an 4 (AV.undef :: AV.undef :: AV.undef :: AV.undef :: AV.undef :: AV.undef :: AV.undef :: AV.undef :: AV.undef :: AV.undef :: AV.undef :: AV.undef :: AV.undef :: AV.undef :: AV.undef :: AV.undef :: AV.undef :: AV.undef :: AV.undef :: AV.undef :: AV.undef :: AV.undef :: AV.undef :: (an 5 [AV.undef, AV.undef, AV.undef, AV.undef, AV.undef, AV.undef, AV.any, AV.any])))))))) (Hp.mk [(pc a [])] [] [] 0 0 0)); let z2 := (Tr.br (isPS Pz 17 [] (dB.res N17)) (Tr.ret (AV.bool N17)) Tr.fail); let z3 := ((lp4_3 (N15 a) a 0).getD default); Tr.br (isPS Pz 18 [a.av] (dB.res (N18 a))) (Tr.br (!N18 a) z2 (Tr.br (isPS Pz 15 [a.av] ((dL ET.mv).res (N15 a))) (Tr.br (isL z3) (Tr.br (isLS Pz (bodL Pz 4 5) z1 (O4_3 (N15 a) a (Sum.inl (gl z3)))) (Tr.ret (AV.cbool false)) Tr.fail) (Tr.br (isLS Pz (bodL Pz 4 5) z1 (O4_3 (N15 a) a (Sum.inr (gr z3)))) z2 Tr.fail)) Tr.fail)) Tr.fail) := by kernel_rfl
theorem P4 (a : Pos) (h : ok4 a = true) : PS Pz 4 [Pos.av a] (dB.res (N4 a)) := ps_gotR hB4 (E4 a) (gr_call (P18 (a)) (gr_br (gr_call (P17 ) (gr_ret rfl)) (gr_call (P15 (a)) (gr_loop2 (fun h => L4_3 (N15 a) (a) (0) _ (some_getD h)) (wk_nrm (ks := (0 :: 2 :: (rn 5 94 []))) (gs := [3, 4]) (b := true) rfl (by kernel_rfl)) (gr_ret rfl) (gr_call (P17 ) (gr_ret rfl)))))) h
noncomputable def G4 : List AV → Tr AV := g1 dPos (fun a => sure Pz 4 [Pos.av a] (dB.res (N4 a)))
theorem s4 : Sound Pz 4 G4 := sound1 (fun _ => at_sure)
end Kz
end
section
namespace Kz
open Go Go.RowKit
set_option maxRecDepth 100000
set_option maxHeartbeats 4000000
def hasB (q : Pos) (c : Int) : Prop := ∃ i : Nat, i < 64 ∧ q.board.getD i 0 = 8 * c + 6
theorem king_u8 {c : Int} (hc : c = 0 ∨ c = 1) : wr IntKind.u8 (wr IntKind.u8 (8 * c) + 6) = 8 * c + 6 := by
  rcases hc with h | h <;> rw [h] <;> decide
theorem lp4b (l : List Mv) (n : Int) (b : Bool) {p : Pos} (ht : p.turn = 0 ∨ p.turn = 1) (q : Pos) : ∃ r, lp4_2 l n b p q (false, false, 0) = some r ∧ ((r.1 = true ↔ hasB q p.turn) ∧ (r.2.1 = true ↔ hasB q (1 - p.turn))) := by
  have w1 : wr IntKind.u8 (1 - p.turn) = 1 - p.turn := wu8 (by omega) (by omega)
  have k0 := king_u8 ht
  have k1 := king_u8 (c := 1 - p.turn) (by omega)
  refine lp_many (I := fun x => 0 ≤ x.2.2 ∧ x.2.2 ≤ 64 ∧ (x.1 = true ↔ ∃ i : Nat, (i : Int) < x.2.2 ∧ q.board.getD i 0 = 8 * p.turn + 6) ∧ (x.2.1 = true ↔ ∃ i : Nat, (i : Int) < x.2.2 ∧ q.board.getD i 0 = 8 * (1 - p.turn) + 6)) (μ := fun x => (64 - x.2.2).toNat) ?_ _ ⟨by simp, by simp, by simp; intro i hi; omega, by simp; intro i hi; omega⟩ (by simp)
  rintro ⟨a, c, n⟩ ⟨h0, h1, h2, h3⟩
  simp only at h0 h1 h2 h3
  unfold okL4_2 st4_2
  dsimp only
  rw [w1, k0, k1, scale1]
  have more : ∀ (v : Int), (∃ i : Nat, (i : Int) < n + 1 ∧ q.board.getD i 0 = v) ↔ ((∃ i : Nat, (i : Int) < n ∧ q.board.getD i 0 = v) ∨ q.board.getD n.toNat 0 = v) := by
    intro v
    constructor
    · rintro ⟨i, hi, e⟩
      by_cases hn : (i : Int) < n
      · exact .inl ⟨i, hn, e⟩
      · exact .inr (by rw [show n.toNat = i by omega]; exact e)
    · rintro (⟨i, hi, e⟩ | e)
      · exact ⟨i, by omega, e⟩
      · exact ⟨n.toNat, by omega, e⟩
  by_cases hc : n < 64
  · have ki : (decide (0 ≤ n) && decide (n < Int.ofNat 64)) = true := by simp; omega
    rw [wi64 (n := n + 1) (by omega) (by omega)]
    refine ⟨?_, ?_⟩
    · refine c_true (fun _ => c_true (fun _ => c_true (fun _ => rfl) fun _ => a_true ki fun _ => rfl) fun _ => a_true ki fun _ => c_true (fun _ => rfl) fun _ => a_true ki fun _ => rfl) fun _ => rfl
    · have go : ∀ x y : Bool, (x = true ↔ (a = true ∨ q.board.getD n.toNat 0 = 8 * p.turn + 6)) → (y = true ↔ (c = true ∨ q.board.getD n.toNat 0 = 8 * (1 - p.turn) + 6)) → Nxt (fun x : Bool × Bool × Int => 0 ≤ x.2.2 ∧ x.2.2 ≤ 64 ∧ (x.1 = true ↔ ∃ i : Nat, (i : Int) < x.2.2 ∧ q.board.getD i 0 = 8 * p.turn + 6) ∧ (x.2.1 = true ↔ ∃ i : Nat, (i : Int) < x.2.2 ∧ q.board.getD i 0 = 8 * (1 - p.turn) + 6)) (fun r : Bool × Bool × Int × Bool => (r.1 = true ↔ hasB q p.turn) ∧ (r.2.1 = true ↔ hasB q (1 - p.turn))) (fun x => (64 - x.2.2).toNat) (64 - n).toNat (.go (x, y, n + 1)) := by
        intro x y hx hy
        refine ⟨⟨by show 0 ≤ n + 1; omega, by show n + 1 ≤ 64; omega, ?_, ?_⟩, by show (64 - (n + 1)).toNat < _; omega⟩
        · show x = true ↔ _
          rw [more, hx, h2]
        · show y = true ↔ _
          rw [more, hy, h3]
      refine c_ind (fun _ => c_ind (fun ha => c_ind (fun hc => ?_) fun hc => ?_) fun ha => c_ind (fun hc => ?_) fun hc => ?_) fun h => absurd h (by simpa using hc)
      · exact go _ _ (by simp [ha]) (by simp [hc])
      · exact go _ _ (by simp [ha]) (by simp [hc])
      · exact go _ _ (by simp [ha]) (by simp [hc])
      · exact go _ _ (by simp [ha]) (by simp [hc])
  · refine ⟨c_true (fun h => absurd h (by simpa using hc)) fun _ => rfl, c_ind (fun h => absurd h (by simpa using hc)) fun _ => ?_⟩
    have e : n = 64 := by omega
    subst e
    refine ⟨?_, ?_⟩
    · show a = true ↔ _
      rw [h2]
      exact ⟨fun ⟨i, hi, e⟩ => ⟨i, by omega, e⟩, fun ⟨i, hi, e⟩ => ⟨i, by omega, e⟩⟩
    · show c = true ↔ _
      rw [h3]
      exact ⟨fun ⟨i, hi, e⟩ => ⟨i, by omega, e⟩, fun ⟨i, hi, e⟩ => ⟨i, by omega, e⟩⟩
theorem racing_royal : ∀ t : Fin 2, N20 8 t.val = true := by decide +kernel
theorem N25_well {p : Pos} (hp : PosIn p) (ht : p.turn = 0 ∨ p.turn = 1) {m : Mv} (h : N25 p m = true) :
    (N19 p m).2 = true ∧ (N20 p.variant p.turn = true → N58 (N19 p m).1 p.turn = true ∧ (N21 (N19 p m).1 p.turn = true → p.variant = 3 ∧ N58 (N19 p m).1 (1 - p.turn) = false)) ∧ (p.variant = 8 → N21 (N19 p m).1 (1 - p.turn) = false) := by
  have w1 : wr IntKind.u8 (1 - p.turn) = 1 - p.turn := wu8 (by omega) (by omega)
  revert h
  unfold N25
  rw [w1]
  have ci := fun {d x y : Bool} => @c_ind Bool (fun b : Bool => b = true → (N19 p m).2 = true ∧ (N20 p.variant p.turn = true → N58 (N19 p m).1 p.turn = true ∧ (N21 (N19 p m).1 p.turn = true → p.variant = 3 ∧ N58 (N19 p m).1 (1 - p.turn) = false)) ∧ (p.variant = 8 → N21 (N19 p m).1 (1 - p.turn) = false)) d x y
  refine ci (fun _ h => by cases h) fun h1 => ?_
  have h1 : (N19 p m).2 = true := by simpa using h1
  have last : ∀ {P : Prop}, P → (p.variant = 8 → N21 (N19 p m).1 (1 - p.turn) = false) → (N19 p m).2 = true ∧ P ∧ (p.variant = 8 → N21 (N19 p m).1 (1 - p.turn) = false) := fun h h' => ⟨h1, h, h'⟩
  refine ci (fun h2 => ci (fun _ h => by cases h) fun h3 => ci (fun h4 => ci (fun _ h => by cases h) fun h5 => ci (fun _ h => by cases h) fun h6 => ?_) fun h4 => ?_) fun h2 => ?_
  · have h3 : N58 (N19 p m).1 p.turn = true := by simpa using h3
    have h5 : p.variant = 3 := by simpa using h5
    exact fun _ => last (fun _ => ⟨h3, fun _ => ⟨h5, h6⟩⟩) fun h8 => by omega
  · have h3 : N58 (N19 p m).1 p.turn = true := by simpa using h3
    refine ci (fun h7 _ => last (fun _ => ⟨h3, fun h => by rw [h4] at h; cases h⟩) fun h8 => ?_) fun h7 h => last (fun _ => ⟨h3, fun h => by rw [h4] at h; cases h⟩) fun _ => by simpa using h
    have h7 : p.variant ≠ 8 := by simpa using h7
    exact absurd h8 h7
  · refine ci (fun h7 _ => last (fun h => by rw [h2] at h; cases h) fun h8 => ?_) fun h7 h => last (fun h => by rw [h2] at h; cases h) fun _ => by simpa using h
    have h7 : p.variant ≠ 8 := by simpa using h7
    exact absurd h8 h7
theorem lp4c {p : Pos} (hp : PosIn p) (ht : p.turn = 0 ∨ p.turn = 1) (l : List Mv) (hl : l.length ≤ 1000000) (hm : ∀ m ∈ l, m ∈ N22 p ∧ N25 p m = true) : ∃ r, lp4_3 l p 0 = some r ∧ isL r = false := by
  refine lp_many (I := fun x => 0 ≤ x ∧ x ≤ (l.length : Int)) (μ := fun x => ((l.length : Int) - x).toNat) ?_ _ ⟨by simp, by simp⟩ (by simp; omega)
  rintro n ⟨h0, h1⟩
  by_cases hc : n < l.length
  · have hmem := hm _ (getD_mem (l := l) (d := default) (show n.toNat < l.length by omega))
    unfold okL4_3 st4_3
    generalize l.getD n.toNat default = m at hmem
    obtain ⟨k19, hin, _⟩ := move_all hp m
    obtain ⟨e2, hq, hv, _⟩ := hin hmem.1
    obtain ⟨_, w2, w3⟩ := N25_well hp ht hmem.2
    have b2 := of_some (lp4b l n (N19 p m).2 ht (N19 p m).1)
    obtain ⟨b0, b1, b2⟩ := b2
    generalize lp4_2 l n (N19 p m).2 p (N19 p m).1 (false, false, 0) = o at b0 b1 b2
    generalize N19 p m = r at *
    have k20 : ok20 p.variant p.turn = true := t20 hp.v0 hp.t0
    have k21 : ∀ c : Int, 0 ≤ c → ok21 r.1 c = true := fun c h => t21 hq.v0 h
    have k210 := k21 0 (by decide)
    have k211 := k21 1 (by decide)
    have k21t := k21 p.turn hp.t0
    rw [wi64 (n := n + 1) (by omega) (by omega)]
    constructor
    · refine c_true (fun _ => a_true (by simp [h0]; exact hc) fun _ => a_true k19 fun _ => a_true b0 fun _ => ?_) fun _ => rfl
      repeat' (first | with_reducible rfl | with_reducible exact k20 | with_reducible exact k210 | with_reducible exact k211 | with_reducible exact k21t | refine a_true ?_ (fun _ => ?_) | refine c_true (fun _ => ?_) (fun _ => ?_))
    · have go : Nxt (fun x : Int => 0 ≤ x ∧ x ≤ (l.length : Int)) (fun r : Unit ⊕ (Int × Bool) => isL r = false) (fun x => ((l.length : Int) - x).toNat) ((l.length : Int) - n).toNat (.go (n + 1)) := ⟨⟨by omega, by omega⟩, by dsimp only; omega⟩
      have race : N20 p.variant p.turn = true → ∀ c : Int, c = 0 ∨ c = 1 → p.variant = 8 → N21 r.1 c = false := by
        intro hr c hc h8
        by_cases e : c = p.turn
        · rw [e]
          cases hk : N21 r.1 p.turn with
          | false => rfl
          | true => have := ((w2 hr).2 hk).1; omega
        · rw [show c = 1 - p.turn by omega]
          exact w3 h8
      have hr8 : p.variant = 8 → N20 p.variant p.turn = true := fun h8 => by
        rw [h8]
        rcases ht with h | h <;> rw [h]
        · exact racing_royal 0
        · exact racing_royal 1
      have tail : Nxt (fun x : Int => 0 ≤ x ∧ x ≤ (l.length : Int)) (fun r : Unit ⊕ (Int × Bool) => isL r = false) (fun x => ((l.length : Int) - x).toNat) ((l.length : Int) - n).toNat (bif p.variant == 8 then bif N21 r.1 0 then Stp.out (.inl ()) else bif N21 r.1 1 then Stp.out (.inl ()) else .go (n + 1) else .go (n + 1)) := by
        refine c_ind (fun h8 => ?_) fun _ => go
        have h8 : p.variant = 8 := by simpa using h8
        rw [race (hr8 h8) 0 (.inl rfl) h8, race (hr8 h8) 1 (.inr rfl) h8]
        exact go
      refine c_ind (fun _ => ?_) fun h => absurd h (by simpa using hc)
      rw [e2]
      refine c_ind (fun h => by cases h) fun _ => c_ind (fun hr => ?_) fun _ => tail
      obtain ⟨c1, c2⟩ := w2 hr
      have m1 := b1.2 ((has_iff hq ht).1 c1)
      rw [m1]
      refine c_ind (fun h => by cases h) fun _ => c_ind (fun hk => ?_) fun _ => tail
      obtain ⟨d1, d2⟩ := c2 hk
      rw [d1]
      have m2 : (o.getD default).2.1 = false := by
        cases hx : (o.getD default).2.1 with
        | false => rfl
        | true =>
          have := (has_iff hq (c := 1 - p.turn) (by omega)).2 (b2.1 hx)
          rw [d2] at this
          cases this
      rw [m2]
      exact go
  · unfold okL4_3 st4_3
    exact ⟨c_true (fun h => absurd h (by simpa using hc)) fun _ => rfl, c_ind (fun h => absurd h (by simpa using hc)) fun _ => rfl⟩
theorem N18_turn {p : Pos} (hp : PosIn p) (h : N18 p = true) : p.turn = 0 ∨ p.turn = 1 := by
  have t0 := hp.t0
  have : p.turn < 2 := by
    unfold N18 at h
    rw [show (Pos.mk p.variant p.board p.promoted p.pockets p.turn p.rooks p.passing p.checks p.half p.full) = p from rfl] at h
    revert h
    refine c_ind (P := fun b : Bool => b = true → p.turn < 2) (fun _ h => by cases h) fun _ => c_ind (P := fun b : Bool => b = true → p.turn < 2) (fun h _ => by simpa using h) fun _ h => by cases h
  omega
theorem N4_true {p : Pos} (hp : PosIn p) : ok4 p = true ∧ N4 p = true := by
  have k17 := ok17_true
  have e17 := N17_true
  have k18 := t18 hp
  have k15 := t15 hp
  cases hlaw : N18 p with
  | false =>
    constructor
    · unfold ok4; rw [hlaw, k18, k17]; rfl
    · unfold N4; rw [hlaw]; exact e17
  | true =>
    have ht := N18_turn hp hlaw
    have hl := of_some (lp4c hp ht (N15 p) (by have := N15_len hp; omega) fun m hm => by
      rw [N15_eq hp] at hm
      revert hm
      exact c_ind (P := fun l : List Mv => m ∈ l → m ∈ N22 p ∧ N25 p m = true) (fun _ h => by cases h) fun _ => N37_sub hp)
    constructor
    · unfold ok4
      rw [hlaw, k18, k15, hl.1, hl.2, k17]
      rfl
    · unfold N4
      rw [hlaw, hl.2]
      exact e17
end Kz
end
