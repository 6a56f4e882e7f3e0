/- Part 6 of the texts under the proof: an abstract interpreter, the summaries of functions, plain laws. -/
import Derived.Test.YteikclocoolghaaGreatDoorQ5
set_option linter.unusedSectionVars false
set_option linter.unusedVariables false
set_option linter.unusedSimpArgs false
set_option linter.unnecessarySimpa false
section
namespace Kz
open Go Go.RowKit Go.Proofs
set_option maxRecDepth 100000
set_option maxHeartbeats 4000000
noncomputable def K87 : List (Nat × List (Nat × List Nat)) := [(87, [(0, (1 :: 2 :: (rn 5 33 (rn 40 20 [])))), (1, (1 :: 2 :: (rn 6 32 (rn 40 20 [])))), (2, (1 :: 2 :: 3 :: (rn 6 5 (rn 13 25 (rn 40 20 []))))), (3, (1 :: 2 :: 3 :: (rn 6 5 (rn 14 24 (rn 40 20 []))))), (4, (1 :: 2 :: 3 :: 8 :: 9 :: 10 :: (rn 13 25 (rn 40 20 [])))), (5, (1 :: 2 :: 3 :: 8 :: 9 :: 10 :: (rn 13 25 (rn 40 20 [])))), (6, (1 :: 2 :: 3 :: 8 :: 9 :: 10 :: (rn 13 25 (rn 40 20 [])))), (7, (1 :: 2 :: 3 :: (rn 7 4 (rn 13 25 (rn 41 19 []))))), (8, (1 :: 2 :: 3 :: 7 :: 9 :: 10 :: (rn 13 25 (rn 40 20 [])))), (9, (1 :: 2 :: 3 :: 7 :: 9 :: 10 :: (rn 13 25 (rn 40 5 (rn 46 14 []))))), (10, (1 :: 2 :: 3 :: 7 :: 9 :: 10 :: (rn 13 25 (rn 40 20 [])))), (11, (1 :: 2 :: 3 :: (rn 6 5 (rn 13 25 (rn 40 20 []))))), (12, (1 :: 2 :: 3 :: (rn 6 5 (rn 13 25 (rn 40 20 []))))), (13, (rn 0 4 (rn 5 55 [])))])]
noncomputable def B87_1 : Base := baseOf Pz (fun f i => lkK f i K87) [(109, G109), (144, G144), (145, G145)] [] []
theorem hB87_1 : BOk B87_1 := base_ok named_z ⟨s109, s144, s145, trivial⟩ trivial trivial
noncomputable def S87_1 (p1 : Int) (p2 : (List Int)) (x : (Int × Pos)) : St := St.mk (AV.int .u8 p1 :: (an 3 (AV.ptr 1 0 :: AV.ptr 2 0 :: (an 5 (AV.agg [AV.ints .u8 8 p2] :: AV.int .i64 x.fst :: (an 47 [])))))) (Hp.mk [[AV.ints .u8 8 p2], [AV.int .u8 0, AV.ints .u8 64 (List.replicate 64 0), AV.u64 0, AV.ints .u8 12 (List.replicate 12 0), AV.int .u8 0, AV.ints .i8 4 (List.replicate 4 0), AV.int .i8 0, AV.ints .u8 2 (List.replicate 2 0), AV.int .i64 0, AV.int .i64 0], (pc x.snd [])] [] [] 0 0 0)
noncomputable def O87_1 (p1 : Int) (p2 : (List Int)) : (Int × Bool × Pos) → Out := fun y => .exit 0 (St.mk (AV.int .u8 p1 :: (an 3 (AV.ptr 1 0 :: AV.ptr 2 0 :: (an 5 (AV.agg [AV.ints .u8 8 p2] :: AV.int .i64 y.fst :: AV.bool y.snd.fst :: (an 46 [])))))) (Hp.mk [[AV.ints .u8 8 p2], [AV.int .u8 0, AV.ints .u8 64 (List.replicate 64 0), AV.u64 0, AV.ints .u8 12 (List.replicate 12 0), AV.int .u8 0, AV.ints .i8 4 (List.replicate 4 0), AV.int .i8 0, AV.ints .u8 2 (List.replicate 2 0), AV.int .i64 0, AV.int .i64 0], (pc y.snd.snd [])] [] [] 0 0 0))
noncomputable def st87_1 (p1 : Int) (p2 : (List Int)) (x : (Int × Pos)) : Stp (Int × Pos) ((Int × Bool × Pos)) := (bif decide (x.fst < 8) then (bif N109 p1 then (bif p2.getD x.fst.toNat 0 == 4 then (bif decide (x.snd.rooks.getD 1 0 < 0) then (Stp.go (wr .i64 (x.fst + 1), Pos.mk x.snd.variant ((((x.snd.board.set (scale 1 x.fst).toNat (p2.getD x.fst.toNat 0)).set (scale 1 (wr .i64 (8 + x.fst))).toNat 1).set (scale 1 (wr .i64 (56 + x.fst))).toNat (N145 (p2.getD x.fst.toNat 0))).set (scale 1 (wr .i64 (48 + x.fst))).toNat (N145 1)) x.snd.promoted x.snd.pockets x.snd.turn ((x.snd.rooks.set 1 (wr .i8 x.fst)).set 3 (wr .i8 x.fst)) x.snd.passing x.snd.checks x.snd.half x.snd.full)) else (Stp.go (wr .i64 (x.fst + 1), Pos.mk x.snd.variant ((((x.snd.board.set (scale 1 x.fst).toNat (p2.getD x.fst.toNat 0)).set (scale 1 (wr .i64 (8 + x.fst))).toNat 1).set (scale 1 (wr .i64 (56 + x.fst))).toNat (N145 (p2.getD x.fst.toNat 0))).set (scale 1 (wr .i64 (48 + x.fst))).toNat (N145 1)) x.snd.promoted x.snd.pockets x.snd.turn ((x.snd.rooks.set 0 (wr .i8 x.fst)).set 2 (wr .i8 x.fst)) x.snd.passing x.snd.checks x.snd.half x.snd.full))) else (Stp.go (wr .i64 (x.fst + 1), Pos.mk x.snd.variant ((((x.snd.board.set (scale 1 x.fst).toNat (p2.getD x.fst.toNat 0)).set (scale 1 (wr .i64 (8 + x.fst))).toNat 1).set (scale 1 (wr .i64 (56 + x.fst))).toNat (N145 (p2.getD x.fst.toNat 0))).set (scale 1 (wr .i64 (48 + x.fst))).toNat (N145 1)) x.snd.promoted x.snd.pockets x.snd.turn x.snd.rooks x.snd.passing x.snd.checks x.snd.half x.snd.full))) else (Stp.go (wr .i64 (x.fst + 1), Pos.mk x.snd.variant ((((x.snd.board.set (scale 1 x.fst).toNat (p2.getD x.fst.toNat 0)).set (scale 1 (wr .i64 (8 + x.fst))).toNat 1).set (scale 1 (wr .i64 (56 + x.fst))).toNat (N145 (p2.getD x.fst.toNat 0))).set (scale 1 (wr .i64 (48 + x.fst))).toNat (N145 1)) x.snd.promoted x.snd.pockets x.snd.turn x.snd.rooks x.snd.passing x.snd.checks x.snd.half x.snd.full))) else (Stp.out ((x.fst, decide (x.fst < 8), x.snd))))
noncomputable def okL87_1 (p1 : Int) (p2 : (List Int)) (x : (Int × Pos)) : Bool := (bif decide (x.fst < 8) then (decide (0 ≤ x.fst) && decide (x.fst < Int.ofNat 8) && (decide (0 ≤ x.fst) && decide (x.fst < Int.ofNat 64) && (decide (0 ≤ wr .i64 (8 + x.fst)) && decide (wr .i64 (8 + x.fst) < Int.ofNat 64) && (decide (0 ≤ wr .i64 (56 + x.fst)) && decide (wr .i64 (56 + x.fst) < Int.ofNat 64) && (decide (0 ≤ wr .i64 (48 + x.fst)) && decide (wr .i64 (48 + x.fst) < Int.ofNat 64) && (ok109 (p1) && true)))))) else true)
noncomputable def lp87_1 (p1 : Int) (p2 : (List Int)) (x : (Int × Pos)) : Option ((Int × Bool × Pos)) := itl (fun x => bif okL87_1 p1 p2 x then st87_1 p1 p2 x else .bad) many x
theorem E87_1 (p1 : Int) (p2 : (List Int)) (x : (Int × Pos)) : evC (envAt B87_1 12) (evL B87_1 12) 87 (bodL Pz 87 3) (S87_1 p1 p2 x) = (let z1 := [AV.int .u8 0, AV.ints .u8 64 (List.replicate 64 0), AV.u64 0, AV.ints .u8 12 (List.replicate 12 0), AV.int .u8 0, AV.ints .i8 4 (List.replicate 4 0), AV.int .i8 0, AV.ints .u8 2 (List.replicate 2 0), AV.int .i64 0, AV.int .i64 0]; let z2 := ((((x.snd.board.set (scale 1 x.fst).toNat (p2.getD x.fst.toNat 0)).set (scale 1 (wr .i64 (8 + x.fst))).toNat 1).set (scale 1 (wr .i64 (56 + x.fst))).toNat (N145 (p2.getD x.fst.toNat 0))).set (scale 1 (wr .i64 (48 + x.fst))).toNat (N145 1)); let z5 := [AV.ints .u8 8 p2]; let z3 := (AV.int .u8 p1 :: (an 3 (AV.ptr 1 0 :: AV.ptr 2 0 :: (an 5 (AV.agg z5 :: AV.int .i64 (wr .i64 (x.fst + 1)) :: (an 25 (AV.int .u8 (p2.getD x.fst.toNat 0) :: AV.bool (p2.getD x.fst.toNat 0 == 4) :: (an 20 [])))))))); let z4 := (Hp.mk [z5, z1, [AV.int .u8 x.snd.variant, AV.ints .u8 64 z2, AV.u64 x.snd.promoted, AV.ints .u8 12 x.snd.pockets, AV.int .u8 x.snd.turn, AV.ints .i8 4 x.snd.rooks, AV.int .i8 x.snd.passing, AV.ints .u8 2 x.snd.checks, AV.int .i64 x.snd.half, AV.int .i64 x.snd.full]] [] [] 0 0 0); Tr.br (decide (x.fst < 8)) (Tr.br (decide (0 ≤ x.fst) && decide (x.fst < Int.ofNat 8)) (Tr.br (decide (0 ≤ x.fst) && decide (x.fst < Int.ofNat 64)) (Tr.br (decide (0 ≤ wr .i64 (8 + x.fst)) && decide (wr .i64 (8 + x.fst) < Int.ofNat 64)) (Tr.br (isPS Pz 145 [AV.int .u8 (p2.getD x.fst.toNat 0)] ((dI .u8).res (N145 (p2.getD x.fst.toNat 0)))) (Tr.br (isPS Pz 145 [AV.int .u8 1] ((dI .u8).res (N145 1))) (Tr.br (decide (0 ≤ wr .i64 (56 + x.fst)) && decide (wr .i64 (56 + x.fst) < Int.ofNat 64)) (Tr.br (decide (0 ≤ wr .i64 (48 + x.fst)) && decide (wr .i64 (48 + x.fst) < Int.ofNat 64)) (Tr.br (isPS Pz 109 [AV.int .u8 p1] (dB.res (N109 p1))) (Tr.br (N109 p1) (Tr.br (p2.getD x.fst.toNat 0 == 4) (Tr.br (decide (x.snd.rooks.getD 1 0 < 0)) (Tr.ret (Out.norm (St.mk z3 (Hp.mk [z5, z1, [AV.int .u8 x.snd.variant, AV.ints .u8 64 z2, AV.u64 x.snd.promoted, AV.ints .u8 12 x.snd.pockets, AV.int .u8 x.snd.turn, AV.ints .i8 4 ((x.snd.rooks.set 1 (wr .i8 x.fst)).set 3 (wr .i8 x.fst)), AV.int .i8 x.snd.passing, AV.ints .u8 2 x.snd.checks, AV.int .i64 x.snd.half, AV.int .i64 x.snd.full]] [] [] 0 0 0)))) (Tr.ret (Out.norm (St.mk z3 (Hp.mk [z5, z1, [AV.int .u8 x.snd.variant, AV.ints .u8 64 z2, AV.u64 x.snd.promoted, AV.ints .u8 12 x.snd.pockets, AV.int .u8 x.snd.turn, AV.ints .i8 4 ((x.snd.rooks.set 0 (wr .i8 x.fst)).set 2 (wr .i8 x.fst)), AV.int .i8 x.snd.passing, AV.ints .u8 2 x.snd.checks, AV.int .i64 x.snd.half, AV.int .i64 x.snd.full]] [] [] 0 0 0))))) (Tr.ret (Out.norm (St.mk z3 z4)))) (Tr.ret (Out.norm (St.mk (AV.int .u8 p1 :: (an 3 (AV.ptr 1 0 :: AV.ptr 2 0 :: (an 5 (AV.agg z5 :: AV.int .i64 (wr .i64 (x.fst + 1)) :: (an 25 (AV.undef :: AV.undef :: (an 20 [])))))))) z4)))) Tr.fail) Tr.fail) Tr.fail) Tr.fail) Tr.fail) Tr.fail) Tr.fail) Tr.fail) (Tr.ret (Out.exit 0 (St.mk (AV.int .u8 p1 :: (an 3 (AV.ptr 1 0 :: AV.ptr 2 0 :: (an 5 (AV.agg z5 :: AV.int .i64 x.fst :: AV.bool (decide (x.fst < 8)) :: (an 46 [])))))) (Hp.mk [z5, z1, (pc x.snd [])] [] [] 0 0 0))))) := by kernel_rfl
theorem L87_1 (p1 : Int) (p2 : (List Int)) (x : (Int × Pos)) (r : (Int × Bool × Pos)) (h : lp87_1 p1 p2 x = some r) : LSpec Pz (bodL Pz 87 3) (S87_1 p1 p2 x) (O87_1 p1 p2 r) := LSpec.itl (S := S87_1 p1 p2) (O := O87_1 p1 p2) (ok := okL87_1 p1 p2) (st := st87_1 p1 p2) hB87_1 (fun x => gr_eq (E87_1 p1 p2 x) (gr_br (gr_guard (gr_guard (gr_guard (gr_callT (P145 (p2.getD x.fst.toNat 0) rfl) (gr_callT (P145 (1) rfl) (gr_guard (gr_guard (gr_call (P109 (p1)) (gr_br2 (gr_br2 (gr_br2 (gr_ret (rl_go (wk_nrm (ks := (1 :: 2 :: 3 :: (rn 6 5 (rn 13 47 [])))) (gs := [0, 11, 12]) (b := true) rfl (by kernel_rfl)))) (gr_ret (rl_go (wk_nrm (ks := (1 :: 2 :: 3 :: (rn 6 5 (rn 13 47 [])))) (gs := [0, 11, 12]) (b := true) rfl (by kernel_rfl))))) (gr_ret (rl_go (wk_nrm (ks := (1 :: 2 :: 3 :: (rn 6 5 (rn 13 47 [])))) (gs := [0, 11, 12]) (b := true) rfl (by kernel_rfl))))) (gr_ret (rl_go (wk_nrm (ks := (1 :: 2 :: 3 :: (rn 6 5 (rn 13 47 [])))) (gs := [0, 11, 12]) (b := true) rfl (by kernel_rfl))))))))))))) (gr_ret (rl_exit rfl (wk_nrm (ks := (1 :: 2 :: 3 :: (rn 6 5 (rn 14 46 [])))) (gs := [0, 11, 12, 13]) (b := true) rfl (by kernel_rfl)))))) many x r h
noncomputable def F87_1 : Code → St → Tr Out := sureL Pz (fun s => O87_1 (tI (tT s 0)) (tN (tX (tA (tT s 11)) 0)) ((lp87_1 (tI (tT s 0)) (tN (tX (tA (tT s 11)) 0)) ((tI (tT s 12)), (Kz.Pos.mk (tI (tH s 2 0)) (tN (tH s 2 1)) (tU (tH s 2 2)) (tN (tH s 2 3)) (tI (tH s 2 4)) (tN (tH s 2 5)) (tI (tH s 2 6)) (tN (tH s 2 7)) (tI (tH s 2 8)) (tI (tH s 2 9))))).getD default))
theorem sF87_1 : ∀ b, LSound Pz b (F87_1 b) := sureL_sound
noncomputable def B87 : Base := baseOf Pz (fun f i => lkK f i K87) [(109, G109), (144, G144), (145, G145)] [(87, 3, F87_1)] []
theorem hB87 : BOk B87 := base_ok named_z ⟨s109, s144, s145, trivial⟩ ⟨sF87_1, trivial⟩ trivial
noncomputable def N87 (a : Int) (b : List Int) : Pos := ⟨(((lp87_1 a b (0, N144 a)).getD default).snd.snd.variant), (((lp87_1 a b (0, N144 a)).getD default).snd.snd.board), (((lp87_1 a b (0, N144 a)).getD default).snd.snd.promoted), (((lp87_1 a b (0, N144 a)).getD default).snd.snd.pockets), (((lp87_1 a b (0, N144 a)).getD default).snd.snd.turn), (((lp87_1 a b (0, N144 a)).getD default).snd.snd.rooks), (((lp87_1 a b (0, N144 a)).getD default).snd.snd.passing), (((lp87_1 a b (0, N144 a)).getD default).snd.snd.checks), (((lp87_1 a b (0, N144 a)).getD default).snd.snd.half), (((lp87_1 a b (0, N144 a)).getD default).snd.snd.full)⟩
noncomputable def ok87 (a : Int) (b : List Int) : Bool := ((lp87_1 a b (0, N144 a)).isSome && true)
theorem E87 (a : Int) (b : List Int) : evPure B87 14 87 [.int .u8 a, .agg [.ints .u8 8 b]] = Tr.br (isPS Pz 144 [AV.int .u8 a] (dPos.res (N144 a))) (Tr.br (isLS Pz (bodL Pz 87 3) (St.mk (AV.int .u8 a :: (an 3 (AV.ptr 1 0 :: AV.ptr 2 0 :: (an 5 (AV.agg [AV.ints .u8 8 b] :: AV.cint .i64 0 :: (an 25 (AV.undef :: AV.undef :: (an 20 [])))))))) (Hp.mk [[AV.ints .u8 8 b], [AV.cint .u8 0, AV.ints .u8 64 (List.replicate 64 0), AV.u64 0, AV.ints .u8 12 (List.replicate 12 0), AV.cint .u8 0, AV.ints .i8 4 (List.replicate 4 0), AV.cint .i8 0, AV.ints .u8 2 (List.replicate 2 0), AV.cint .i64 0, AV.cint .i64 0], (pc (N144 a) [])] [] [] 0 0 0)) (O87_1 a b ((lp87_1 a b (0, N144 a)).getD default))) (Tr.ret (AV.agg (pc ((lp87_1 a b (0, N144 a)).getD default).snd.snd []))) Tr.fail) Tr.fail := by kernel_rfl
theorem P87 (a : Int) (b : List Int) (h : ok87 a b = true) : PS Pz 87 [.int .u8 a, .agg [.ints .u8 8 b]] (dPos.res (N87 a b)) := ps_gotR hB87 (E87 a b) (gr_callT (P144 (a) rfl) (gr_loop (fun h => L87_1 (a) (b) ((0, N144 a)) _ (some_getD h)) (wk_nrm (ks := (1 :: 2 :: 3 :: (rn 6 5 (rn 13 47 [])))) (gs := [0, 11, 12]) (b := true) rfl (by kernel_rfl)) (gr_ret rfl))) h
noncomputable def G87 : List AV → Tr AV := g2 (dI .u8) (dArr .u8 8) (fun a b => sure Pz 87 [.int .u8 a, .agg [.ints .u8 8 b]] (dPos.res (N87 a b)))
theorem s87 : Sound Pz 87 G87 := sound2 (fun _ _ => at_sure)
end Kz
end
section
namespace Kz
open Go Go.RowKit Go.Proofs
set_option maxRecDepth 100000
set_option maxHeartbeats 4000000
noncomputable def K88 : List (Nat × List (Nat × List Nat)) := [(88, [(0, [1]), (1, [1])])]
noncomputable def B88 : Base := baseOf Pz (fun f i => lkK f i K88) [] [] []
theorem hB88 : BOk B88 := base_ok named_z trivial trivial trivial
noncomputable def N88  : List Int := (if 8 = 8 then ((((((((List.replicate 8 0).set 0 4).set 1 2).set 2 3).set 3 5).set 4 6).set 5 3).set 6 2).set 7 4 else List.take 0 (List.replicate 8 0) ++ ((((((((List.replicate 8 0).set 0 4).set 1 2).set 2 3).set 3 5).set 4 6).set 5 3).set 6 2).set 7 4 ++ List.drop 8 (List.replicate 8 0))
noncomputable def ok88  : Bool := true
theorem E88  : evPure B88 14 88 [] = Tr.ret (AV.agg [AV.ints .u8 8 (if 8 = 8 then ((((((((List.replicate 8 0).set 0 4).set 1 2).set 2 3).set 3 5).set 4 6).set 5 3).set 6 2).set 7 4 else List.take 0 (List.replicate 8 0) ++ ((((((((List.replicate 8 0).set 0 4).set 1 2).set 2 3).set 3 5).set 4 6).set 5 3).set 6 2).set 7 4 ++ List.drop 8 (List.replicate 8 0))]) := by kernel_rfl
theorem P88  (h : ok88  = true) : PS Pz 88 [] ((dArr .u8 8).res (N88 )) := ps_gotR hB88 (E88 ) (gr_ret rfl) h
noncomputable def G88 : List AV → Tr AV := g0  (sure Pz 88 [] ((dArr .u8 8).res (N88 )))
theorem s88 : Sound Pz 88 G88 := sound0 (at_sure)
end Kz
end
section
namespace Kz
open Go Go.RowKit Go.Proofs
set_option maxRecDepth 100000
set_option maxHeartbeats 4000000
noncomputable def K85 : List (Nat × List (Nat × List Nat)) := [(85, [(0, (rn 1 27 [])), (1, (rn 2 26 [])), (2, (rn 2 26 [])), (3, (rn 2 8 (rn 11 17 []))), (4, (rn 2 8 (rn 12 16 []))), (5, (rn 3 7 (rn 11 17 []))), (6, (rn 2 8 (rn 11 17 []))), (7, (rn 2 8 (rn 11 17 []))), (8, (rn 2 15 (rn 20 8 []))), (9, (rn 2 15 (rn 21 7 []))), (10, (2 :: 3 :: (rn 5 12 (rn 20 8 [])))), (11, (rn 2 15 (rn 20 8 []))), (12, (rn 2 15 (rn 20 8 []))), (13, (rn 1 27 []))])]
noncomputable def B85_1 : Base := baseOf Pz (fun f i => lkK f i K85) [(87, G87), (88, G88)] [] []
theorem hB85_1 : BOk B85_1 := base_ok named_z ⟨s87, s88, trivial⟩ trivial trivial
noncomputable def S85_1  (x : (Int × Pos)) : St := St.mk (AV.ptr 0 0 :: AV.ptr 1 0 :: (an 8 (AV.int .i64 x.fst :: (an 17 [])))) (Hp.mk [[AV.int .u8 0, AV.ints .u8 64 (List.replicate 64 0), AV.u64 0, AV.ints .u8 12 (List.replicate 12 0), AV.int .u8 0, AV.ints .i8 4 (List.replicate 4 0), AV.int .i8 0, AV.ints .u8 2 (List.replicate 2 0), AV.int .i64 0, AV.int .i64 0], (pc x.snd [])] [] [] 0 0 0)
noncomputable def O85_1  : (Int × Bool × Pos) → Out := fun y => .exit 0 (St.mk (AV.ptr 0 0 :: AV.ptr 1 0 :: (an 8 (AV.int .i64 y.fst :: AV.bool y.snd.fst :: (an 16 [])))) (Hp.mk [[AV.int .u8 0, AV.ints .u8 64 (List.replicate 64 0), AV.u64 0, AV.ints .u8 12 (List.replicate 12 0), AV.int .u8 0, AV.ints .i8 4 (List.replicate 4 0), AV.int .i8 0, AV.ints .u8 2 (List.replicate 2 0), AV.int .i64 0, AV.int .i64 0], (pc y.snd.snd [])] [] [] 0 0 0))
noncomputable def st85_1  (x : (Int × Pos)) : Stp (Int × Pos) ((Int × Bool × Pos)) := (bif decide (x.fst < 32) then (Stp.go (wr .i64 (x.fst + 1), Pos.mk x.snd.variant (x.snd.board.set (scale 1 x.fst).toNat 1) x.snd.promoted x.snd.pockets x.snd.turn x.snd.rooks x.snd.passing x.snd.checks x.snd.half x.snd.full)) else (Stp.out ((x.fst, decide (x.fst < 32), x.snd))))
noncomputable def okL85_1  (x : (Int × Pos)) : Bool := (bif decide (x.fst < 32) then (decide (0 ≤ x.fst) && decide (x.fst < Int.ofNat 64) && true) else true)
noncomputable def lp85_1  (x : (Int × Pos)) : Option ((Int × Bool × Pos)) := itl (fun x => bif okL85_1  x then st85_1  x else .bad) many x
theorem E85_1  (x : (Int × Pos)) : evC (envAt B85_1 12) (evL B85_1 12) 85 (bodL Pz 85 4) (S85_1  x) = Tr.br (decide (x.fst < 32)) (Tr.br (decide (0 ≤ x.fst) && decide (x.fst < Int.ofNat 64)) (Tr.ret (Out.norm (St.mk (AV.ptr 0 0 :: AV.ptr 1 0 :: (an 8 (AV.int .i64 (wr .i64 (x.fst + 1)) :: (an 17 [])))) (Hp.mk [[AV.int .u8 0, AV.ints .u8 64 (List.replicate 64 0), AV.u64 0, AV.ints .u8 12 (List.replicate 12 0), AV.int .u8 0, AV.ints .i8 4 (List.replicate 4 0), AV.int .i8 0, AV.ints .u8 2 (List.replicate 2 0), AV.int .i64 0, AV.int .i64 0], [AV.int .u8 x.snd.variant, AV.ints .u8 64 (x.snd.board.set (scale 1 x.fst).toNat 1), AV.u64 x.snd.promoted, AV.ints .u8 12 x.snd.pockets, AV.int .u8 x.snd.turn, AV.ints .i8 4 x.snd.rooks, AV.int .i8 x.snd.passing, AV.ints .u8 2 x.snd.checks, AV.int .i64 x.snd.half, AV.int .i64 x.snd.full]] [] [] 0 0 0)))) Tr.fail) (Tr.ret (Out.exit 0 (St.mk (AV.ptr 0 0 :: AV.ptr 1 0 :: (an 8 (AV.int .i64 x.fst :: AV.bool (decide (x.fst < 32)) :: (an 16 [])))) (Hp.mk [[AV.int .u8 0, AV.ints .u8 64 (List.replicate 64 0), AV.u64 0, AV.ints .u8 12 (List.replicate 12 0), AV.int .u8 0, AV.ints .i8 4 (List.replicate 4 0), AV.int .i8 0, AV.ints .u8 2 (List.replicate 2 0), AV.int .i64 0, AV.int .i64 0], (pc x.snd [])] [] [] 0 0 0)))) := by kernel_rfl
theorem L85_1  (x : (Int × Pos)) (r : (Int × Bool × Pos)) (h : lp85_1  x = some r) : LSpec Pz (bodL Pz 85 4) (S85_1  x) (O85_1  r) := LSpec.itl (S := S85_1 ) (O := O85_1 ) (ok := okL85_1 ) (st := st85_1 ) hB85_1 (fun x => gr_eq (E85_1  x) (gr_br (gr_guard (gr_ret (rl_go (wk_nrm (ks := (rn 2 8 (rn 11 17 []))) (gs := [10]) (b := true) rfl (by kernel_rfl))))) (gr_ret (rl_exit rfl (wk_nrm (ks := (rn 2 8 (rn 12 16 []))) (gs := [10, 11]) (b := true) rfl (by kernel_rfl)))))) many x r h
noncomputable def F85_1 : Code → St → Tr Out := sureL Pz (fun s => O85_1  ((lp85_1  ((tI (tT s 10)), (Kz.Pos.mk (tI (tH s 1 0)) (tN (tH s 1 1)) (tU (tH s 1 2)) (tN (tH s 1 3)) (tI (tH s 1 4)) (tN (tH s 1 5)) (tI (tH s 1 6)) (tN (tH s 1 7)) (tI (tH s 1 8)) (tI (tH s 1 9))))).getD default))
theorem sF85_1 : ∀ b, LSound Pz b (F85_1 b) := sureL_sound
noncomputable def B85_2 : Base := baseOf Pz (fun f i => lkK f i K85) [(87, G87), (88, G88)] [(85, 4, F85_1)] []
theorem hB85_2 : BOk B85_2 := base_ok named_z ⟨s87, s88, trivial⟩ ⟨sF85_1, trivial⟩ trivial
noncomputable def S85_2  (x : (Int × Pos)) : St := St.mk (AV.ptr 0 0 :: AV.ptr 1 0 :: (an 15 (AV.vlist true [AV.cint .i64 33, AV.cint .i64 34, AV.cint .i64 37, AV.cint .i64 38] :: AV.cint .i64 (Int.ofNat 4) :: AV.int .i64 x.fst :: (an 8 [])))) (Hp.mk [[AV.int .u8 0, AV.ints .u8 64 (List.replicate 64 0), AV.u64 0, AV.ints .u8 12 (List.replicate 12 0), AV.int .u8 0, AV.ints .i8 4 (List.replicate 4 0), AV.int .i8 0, AV.ints .u8 2 (List.replicate 2 0), AV.int .i64 0, AV.int .i64 0], (pc x.snd [])] [] [] 0 0 0)
noncomputable def O85_2  : (Int × Bool × Pos) → Out := fun y => .exit 2 (St.mk (AV.ptr 0 0 :: AV.ptr 1 0 :: (an 15 (AV.vlist true [AV.cint .i64 33, AV.cint .i64 34, AV.cint .i64 37, AV.cint .i64 38] :: AV.cint .i64 (Int.ofNat 4) :: AV.int .i64 y.fst :: AV.bool y.snd.fst :: (an 7 [])))) (Hp.mk [[AV.int .u8 0, AV.ints .u8 64 (List.replicate 64 0), AV.u64 0, AV.ints .u8 12 (List.replicate 12 0), AV.int .u8 0, AV.ints .i8 4 (List.replicate 4 0), AV.int .i8 0, AV.ints .u8 2 (List.replicate 2 0), AV.int .i64 0, AV.int .i64 0], (pc y.snd.snd [])] [] [] 0 0 0))
noncomputable def st85_2  (x : (Int × Pos)) : Stp (Int × Pos) ((Int × Bool × Pos)) := (bif decide (x.fst < Int.ofNat 4) then (bif x.fst == Int.ofNat 0 then (Stp.go (wr .i64 (x.fst + 1), Pos.mk x.snd.variant (x.snd.board.set 33 1) x.snd.promoted x.snd.pockets x.snd.turn x.snd.rooks x.snd.passing x.snd.checks x.snd.half x.snd.full)) else (bif x.fst == Int.ofNat 1 then (Stp.go (wr .i64 (x.fst + 1), Pos.mk x.snd.variant (x.snd.board.set 34 1) x.snd.promoted x.snd.pockets x.snd.turn x.snd.rooks x.snd.passing x.snd.checks x.snd.half x.snd.full)) else (bif x.fst == Int.ofNat 2 then (Stp.go (wr .i64 (x.fst + 1), Pos.mk x.snd.variant (x.snd.board.set 37 1) x.snd.promoted x.snd.pockets x.snd.turn x.snd.rooks x.snd.passing x.snd.checks x.snd.half x.snd.full)) else (Stp.go (wr .i64 (x.fst + 1), Pos.mk x.snd.variant (x.snd.board.set 38 1) x.snd.promoted x.snd.pockets x.snd.turn x.snd.rooks x.snd.passing x.snd.checks x.snd.half x.snd.full))))) else (Stp.out ((x.fst, decide (x.fst < Int.ofNat 4), x.snd))))
noncomputable def okL85_2  (x : (Int × Pos)) : Bool := (bif decide (x.fst < Int.ofNat 4) then (decide (0 ≤ x.fst) && decide (x.fst < Int.ofNat 4) && (bif x.fst == Int.ofNat 0 then true else (bif x.fst == Int.ofNat 1 then true else (bif x.fst == Int.ofNat 2 then true else (x.fst == Int.ofNat 3 && true))))) else true)
noncomputable def lp85_2  (x : (Int × Pos)) : Option ((Int × Bool × Pos)) := itl (fun x => bif okL85_2  x then st85_2  x else .bad) many x
theorem E85_2  (x : (Int × Pos)) : evC (envAt B85_2 12) (evL B85_2 12) 85 (bodL Pz 85 9) (S85_2  x) = (let z1 := [AV.int .u8 0, AV.ints .u8 64 (List.replicate 64 0), AV.u64 0, AV.ints .u8 12 (List.replicate 12 0), AV.int .u8 0, AV.ints .i8 4 (List.replicate 4 0), AV.int .i8 0, AV.ints .u8 2 (List.replicate 2 0), AV.int .i64 0, AV.int .i64 0]; let z2 := (AV.ptr 0 0 :: AV.ptr 1 0 :: (an 15 (AV.vlist true [AV.cint .i64 33, AV.cint .i64 34, AV.cint .i64 37, AV.cint .i64 38] :: AV.cint .i64 (Int.ofNat 4) :: AV.int .i64 (wr .i64 (x.fst + 1)) :: (an 8 [])))); Tr.br (decide (x.fst < Int.ofNat 4)) (Tr.br (decide (0 ≤ x.fst) && decide (x.fst < Int.ofNat 4)) (Tr.br (x.fst == Int.ofNat 0) (Tr.ret (Out.norm (St.mk z2 (Hp.mk [z1, [AV.int .u8 x.snd.variant, AV.ints .u8 64 (x.snd.board.set 33 1), AV.u64 x.snd.promoted, AV.ints .u8 12 x.snd.pockets, AV.int .u8 x.snd.turn, AV.ints .i8 4 x.snd.rooks, AV.int .i8 x.snd.passing, AV.ints .u8 2 x.snd.checks, AV.int .i64 x.snd.half, AV.int .i64 x.snd.full]] [] [] 0 0 0)))) (Tr.br (x.fst == Int.ofNat 1) (Tr.ret (Out.norm (St.mk z2 (Hp.mk [z1, [AV.int .u8 x.snd.variant, AV.ints .u8 64 (x.snd.board.set 34 1), AV.u64 x.snd.promoted, AV.ints .u8 12 x.snd.pockets, AV.int .u8 x.snd.turn, AV.ints .i8 4 x.snd.rooks, AV.int .i8 x.snd.passing, AV.ints .u8 2 x.snd.checks, AV.int .i64 x.snd.half, AV.int .i64 x.snd.full]] [] [] 0 0 0)))) (Tr.br (x.fst == Int.ofNat 2) (Tr.ret (Out.norm (St.mk z2 (Hp.mk [z1, [AV.int .u8 x.snd.variant, AV.ints .u8 64 (x.snd.board.set 37 1), AV.u64 x.snd.promoted, AV.ints .u8 12 x.snd.pockets, AV.int .u8 x.snd.turn, AV.ints .i8 4 x.snd.rooks, AV.int .i8 x.snd.passing, AV.ints .u8 2 x.snd.checks, AV.int .i64 x.snd.half, AV.int .i64 x.snd.full]] [] [] 0 0 0)))) (Tr.br (x.fst == Int.ofNat 3) (Tr.ret (Out.norm (St.mk z2 (Hp.mk [z1, [AV.int .u8 x.snd.variant, AV.ints .u8 64 (x.snd.board.set 38 1), AV.u64 x.snd.promoted, AV.ints .u8 12 x.snd.pockets, AV.int .u8 x.snd.turn, AV.ints .i8 4 x.snd.rooks, AV.int .i8 x.snd.passing, AV.ints .u8 2 x.snd.checks, AV.int .i64 x.snd.half, AV.int .i64 x.snd.full]] [] [] 0 0 0)))) Tr.fail)))) Tr.fail) (Tr.ret (Out.exit 2 (St.mk (AV.ptr 0 0 :: AV.ptr 1 0 :: (an 15 (AV.vlist true [AV.cint .i64 33, AV.cint .i64 34, AV.cint .i64 37, AV.cint .i64 38] :: AV.cint .i64 (Int.ofNat 4) :: AV.int .i64 x.fst :: AV.bool (decide (x.fst < Int.ofNat 4)) :: (an 7 [])))) (Hp.mk [z1, (pc x.snd [])] [] [] 0 0 0))))) := by kernel_rfl
theorem L85_2  (x : (Int × Pos)) (r : (Int × Bool × Pos)) (h : lp85_2  x = some r) : LSpec Pz (bodL Pz 85 9) (S85_2  x) (O85_2  r) := LSpec.itl (S := S85_2 ) (O := O85_2 ) (ok := okL85_2 ) (st := st85_2 ) hB85_2 (fun x => gr_eq (E85_2  x) (gr_br (gr_guard (gr_br (gr_ret (rl_go (wk_nrm (ks := (rn 2 15 (rn 20 8 []))) (gs := [19]) (b := true) rfl (by kernel_rfl)))) (gr_br (gr_ret (rl_go (wk_nrm (ks := (rn 2 15 (rn 20 8 []))) (gs := [19]) (b := true) rfl (by kernel_rfl)))) (gr_br (gr_ret (rl_go (wk_nrm (ks := (rn 2 15 (rn 20 8 []))) (gs := [19]) (b := true) rfl (by kernel_rfl)))) (gr_guard (gr_ret (rl_go (wk_nrm (ks := (rn 2 15 (rn 20 8 []))) (gs := [19]) (b := true) rfl (by kernel_rfl))))))))) (gr_ret (rl_exit rfl (wk_nrm (ks := (rn 2 15 (rn 21 7 []))) (gs := [19, 20]) (b := true) rfl (by kernel_rfl)))))) many x r h
noncomputable def F85_2 : Code → St → Tr Out := sureL Pz (fun s => O85_2  ((lp85_2  ((tI (tT s 19)), (Kz.Pos.mk (tI (tH s 1 0)) (tN (tH s 1 1)) (tU (tH s 1 2)) (tN (tH s 1 3)) (tI (tH s 1 4)) (tN (tH s 1 5)) (tI (tH s 1 6)) (tN (tH s 1 7)) (tI (tH s 1 8)) (tI (tH s 1 9))))).getD default))
theorem sF85_2 : ∀ b, LSound Pz b (F85_2 b) := sureL_sound
noncomputable def B85 : Base := baseOf Pz (fun f i => lkK f i K85) [(87, G87), (88, G88)] [(85, 4, F85_1), (85, 9, F85_2)] []
theorem hB85 : BOk B85 := base_ok named_z ⟨s87, s88, trivial⟩ ⟨sF85_1, sF85_2, trivial⟩ trivial
noncomputable def N85  : Pos := ⟨(((lp85_2 (0, ((lp85_1 (0, Pos.mk (N87 7 N88).variant (N87 7 N88).board (N87 7 N88).promoted (N87 7 N88).pockets (N87 7 N88).turn (List.take 0 (N87 7 N88).rooks ++ ((List.replicate 2 0).set 0 (-1)).set 1 (-1) ++ List.drop 2 (N87 7 N88).rooks) (N87 7 N88).passing (N87 7 N88).checks (N87 7 N88).half (N87 7 N88).full)).getD default).snd.snd)).getD default).snd.snd.variant), (((lp85_2 (0, ((lp85_1 (0, Pos.mk (N87 7 N88).variant (N87 7 N88).board (N87 7 N88).promoted (N87 7 N88).pockets (N87 7 N88).turn (List.take 0 (N87 7 N88).rooks ++ ((List.replicate 2 0).set 0 (-1)).set 1 (-1) ++ List.drop 2 (N87 7 N88).rooks) (N87 7 N88).passing (N87 7 N88).checks (N87 7 N88).half (N87 7 N88).full)).getD default).snd.snd)).getD default).snd.snd.board), (((lp85_2 (0, ((lp85_1 (0, Pos.mk (N87 7 N88).variant (N87 7 N88).board (N87 7 N88).promoted (N87 7 N88).pockets (N87 7 N88).turn (List.take 0 (N87 7 N88).rooks ++ ((List.replicate 2 0).set 0 (-1)).set 1 (-1) ++ List.drop 2 (N87 7 N88).rooks) (N87 7 N88).passing (N87 7 N88).checks (N87 7 N88).half (N87 7 N88).full)).getD default).snd.snd)).getD default).snd.snd.promoted), (((lp85_2 (0, ((lp85_1 (0, Pos.mk (N87 7 N88).variant (N87 7 N88).board (N87 7 N88).promoted (N87 7 N88).pockets (N87 7 N88).turn (List.take 0 (N87 7 N88).rooks ++ ((List.replicate 2 0).set 0 (-1)).set 1 (-1) ++ List.drop 2 (N87 7 N88).rooks) (N87 7 N88).passing (N87 7 N88).checks (N87 7 N88).half (N87 7 N88).full)).getD default).snd.snd)).getD default).snd.snd.pockets), (((lp85_2 (0, ((lp85_1 (0, Pos.mk (N87 7 N88).variant (N87 7 N88).board (N87 7 N88).promoted (N87 7 N88).pockets (N87 7 N88).turn (List.take 0 (N87 7 N88).rooks ++ ((List.replicate 2 0).set 0 (-1)).set 1 (-1) ++ List.drop 2 (N87 7 N88).rooks) (N87 7 N88).passing (N87 7 N88).checks (N87 7 N88).half (N87 7 N88).full)).getD default).snd.snd)).getD default).snd.snd.turn), (((lp85_2 (0, ((lp85_1 (0, Pos.mk (N87 7 N88).variant (N87 7 N88).board (N87 7 N88).promoted (N87 7 N88).pockets (N87 7 N88).turn (List.take 0 (N87 7 N88).rooks ++ ((List.replicate 2 0).set 0 (-1)).set 1 (-1) ++ List.drop 2 (N87 7 N88).rooks) (N87 7 N88).passing (N87 7 N88).checks (N87 7 N88).half (N87 7 N88).full)).getD default).snd.snd)).getD default).snd.snd.rooks), (((lp85_2 (0, ((lp85_1 (0, Pos.mk (N87 7 N88).variant (N87 7 N88).board (N87 7 N88).promoted (N87 7 N88).pockets (N87 7 N88).turn (List.take 0 (N87 7 N88).rooks ++ ((List.replicate 2 0).set 0 (-1)).set 1 (-1) ++ List.drop 2 (N87 7 N88).rooks) (N87 7 N88).passing (N87 7 N88).checks (N87 7 N88).half (N87 7 N88).full)).getD default).snd.snd)).getD default).snd.snd.passing), (((lp85_2 (0, ((lp85_1 (0, Pos.mk (N87 7 N88).variant (N87 7 N88).board (N87 7 N88).promoted (N87 7 N88).pockets (N87 7 N88).turn (List.take 0 (N87 7 N88).rooks ++ ((List.replicate 2 0).set 0 (-1)).set 1 (-1) ++ List.drop 2 (N87 7 N88).rooks) (N87 7 N88).passing (N87 7 N88).checks (N87 7 N88).half (N87 7 N88).full)).getD default).snd.snd)).getD default).snd.snd.checks), (((lp85_2 (0, ((lp85_1 (0, Pos.mk (N87 7 N88).variant (N87 7 N88).board (N87 7 N88).promoted (N87 7 N88).pockets (N87 7 N88).turn (List.take 0 (N87 7 N88).rooks ++ ((List.replicate 2 0).set 0 (-1)).set 1 (-1) ++ List.drop 2 (N87 7 N88).rooks) (N87 7 N88).passing (N87 7 N88).checks (N87 7 N88).half (N87 7 N88).full)).getD default).snd.snd)).getD default).snd.snd.half), (((lp85_2 (0, ((lp85_1 (0, Pos.mk (N87 7 N88).variant (N87 7 N88).board (N87 7 N88).promoted (N87 7 N88).pockets (N87 7 N88).turn (List.take 0 (N87 7 N88).rooks ++ ((List.replicate 2 0).set 0 (-1)).set 1 (-1) ++ List.drop 2 (N87 7 N88).rooks) (N87 7 N88).passing (N87 7 N88).checks (N87 7 N88).half (N87 7 N88).full)).getD default).snd.snd)).getD default).snd.snd.full)⟩
noncomputable def ok85  : Bool := (ok87 (7) (N88) && ((lp85_1 (0, Pos.mk (N87 7 N88).variant (N87 7 N88).board (N87 7 N88).promoted (N87 7 N88).pockets (N87 7 N88).turn (List.take 0 (N87 7 N88).rooks ++ ((List.replicate 2 0).set 0 (-1)).set 1 (-1) ++ List.drop 2 (N87 7 N88).rooks) (N87 7 N88).passing (N87 7 N88).checks (N87 7 N88).half (N87 7 N88).full)).isSome && ((lp85_2 (0, ((lp85_1 (0, Pos.mk (N87 7 N88).variant (N87 7 N88).board (N87 7 N88).promoted (N87 7 N88).pockets (N87 7 N88).turn (List.take 0 (N87 7 N88).rooks ++ ((List.replicate 2 0).set 0 (-1)).set 1 (-1) ++ List.drop 2 (N87 7 N88).rooks) (N87 7 N88).passing (N87 7 N88).checks (N87 7 N88).half (N87 7 N88).full)).getD default).snd.snd)).isSome && true)))
theorem E85  : evPure B85 14 85 [] = (let z1 := ((lp85_1 (0, Pos.mk (N87 7 N88).variant (N87 7 N88).board (N87 7 N88).promoted (N87 7 N88).pockets (N87 7 N88).turn (List.take 0 (N87 7 N88).rooks ++ ((List.replicate 2 0).set 0 (-1)).set 1 (-1) ++ List.drop 2 (N87 7 N88).rooks) (N87 7 N88).passing (N87 7 N88).checks (N87 7 N88).half (N87 7 N88).full)).getD default); Tr.br (isPS Pz 88 [] ((dArr .u8 8).res N88)) (Tr.br (isPS Pz 87 [AV.int .u8 7, AV.agg [AV.ints .u8 8 N88]] (dPos.res (N87 7 N88))) (Tr.br (isLS Pz (bodL Pz 85 4) (St.mk (AV.ptr 0 0 :: AV.ptr 1 0 :: (an 8 (AV.cint .i64 0 :: (an 17 [])))) (Hp.mk [[AV.cint .u8 0, AV.ints .u8 64 (List.replicate 64 0), AV.u64 0, AV.ints .u8 12 (List.replicate 12 0), AV.cint .u8 0, AV.ints .i8 4 (List.replicate 4 0), AV.cint .i8 0, AV.ints .u8 2 (List.replicate 2 0), AV.cint .i64 0, AV.cint .i64 0], [AV.int .u8 (N87 7 N88).variant, AV.ints .u8 64 (N87 7 N88).board, AV.u64 (N87 7 N88).promoted, AV.ints .u8 12 (N87 7 N88).pockets, AV.int .u8 (N87 7 N88).turn, AV.ints .i8 4 (List.take 0 (N87 7 N88).rooks ++ ((List.replicate 2 0).set 0 (-1)).set 1 (-1) ++ List.drop 2 (N87 7 N88).rooks), AV.int .i8 (N87 7 N88).passing, AV.ints .u8 2 (N87 7 N88).checks, AV.int .i64 (N87 7 N88).half, AV.int .i64 (N87 7 N88).full]] [] [] 0 0 0)) (O85_1 z1)) (Tr.br (isLS Pz (bodL Pz 85 9) (St.mk (AV.ptr 0 0 :: AV.ptr 1 0 :: (an 15 (AV.vlist true [AV.cint .i64 33, AV.cint .i64 34, AV.cint .i64 37, AV.cint .i64 38] :: AV.cint .i64 (Int.ofNat 4) :: AV.cint .i64 0 :: (an 8 [])))) (Hp.mk [[AV.int .u8 0, AV.ints .u8 64 (List.replicate 64 0), AV.u64 0, AV.ints .u8 12 (List.replicate 12 0), AV.int .u8 0, AV.ints .i8 4 (List.replicate 4 0), AV.int .i8 0, AV.ints .u8 2 (List.replicate 2 0), AV.int .i64 0, AV.int .i64 0], (pc z1.snd.snd [])] [] [] 0 0 0)) (O85_2 ((lp85_2 (0, z1.snd.snd)).getD default))) (Tr.ret (AV.agg (pc ((lp85_2 (0, z1.snd.snd)).getD default).snd.snd []))) Tr.fail) Tr.fail) Tr.fail) Tr.fail) := by kernel_rfl
theorem P85  (h : ok85  = true) : PS Pz 85 [] (dPos.res (N85 )) := ps_gotR hB85 (E85 ) (gr_callT (P88  rfl) (gr_call (P87 (7) (N88)) (gr_loop (fun h => L85_1 ((0, Pos.mk (N87 7 N88).variant (N87 7 N88).board (N87 7 N88).promoted (N87 7 N88).pockets (N87 7 N88).turn (List.take 0 (N87 7 N88).rooks ++ ((List.replicate 2 0).set 0 (-1)).set 1 (-1) ++ List.drop 2 (N87 7 N88).rooks) (N87 7 N88).passing (N87 7 N88).checks (N87 7 N88).half (N87 7 N88).full)) _ (some_getD h)) (wk_nrm (ks := (rn 2 8 (rn 11 17 []))) (gs := [10]) (b := true) rfl (by kernel_rfl)) (gr_loop (fun h => L85_2 ((0, ((lp85_1 (0, Pos.mk (N87 7 N88).variant (N87 7 N88).board (N87 7 N88).promoted (N87 7 N88).pockets (N87 7 N88).turn (List.take 0 (N87 7 N88).rooks ++ ((List.replicate 2 0).set 0 (-1)).set 1 (-1) ++ List.drop 2 (N87 7 N88).rooks) (N87 7 N88).passing (N87 7 N88).checks (N87 7 N88).half (N87 7 N88).full)).getD default).snd.snd)) _ (some_getD h)) (wk_nrm (ks := (rn 2 15 (rn 20 8 []))) (gs := [19]) (b := true) rfl (by kernel_rfl)) (gr_ret rfl))))) h
noncomputable def G85 : List AV → Tr AV := g0  (sure Pz 85 [] (dPos.res (N85 )))
theorem s85 : Sound Pz 85 G85 := sound0 (at_sure)
end Kz
end
section
namespace Kz
open Go Go.RowKit Go.Proofs
set_option maxRecDepth 100000
set_option maxHeartbeats 4000000
noncomputable def K86 : List (Nat × List (Nat × List Nat)) := [(86, [(0, (rn 1 41 [])), (1, (rn 2 40 [])), (2, (rn 2 7 (rn 12 30 []))), (3, (rn 2 7 (rn 13 29 []))), (4, (rn 4 5 (rn 12 30 []))), (5, (rn 3 6 (rn 12 4 (rn 19 23 [])))), (6, (rn 3 6 (rn 12 4 (rn 20 22 [])))), (7, (3 :: 6 :: 7 :: 8 :: (rn 12 4 (rn 19 23 [])))), (8, (rn 3 6 (rn 12 4 (rn 19 23 [])))), (9, (rn 3 6 (rn 12 4 (rn 19 23 [])))), (10, (rn 2 7 (rn 12 30 []))), (11, (rn 1 41 []))])]
noncomputable def B86 : Base := baseOf Pz (fun f i => lkK f i K86) [(144, G144), (145, G145)] [] []
theorem hB86 : BOk B86 := base_ok named_z ⟨s144, s145, trivial⟩ trivial trivial
noncomputable def N86  : Pos := ⟨((N144 8).variant), (((((((((((((((((N144 8).board.set 0 (N145 5)).set 7 5).set 1 (N145 4)).set 6 4).set 2 (N145 3)).set 5 3).set 3 (N145 2)).set 4 2).set 8 (N145 6)).set 15 6).set 9 (N145 4)).set 14 4).set 10 (N145 3)).set 13 3).set 11 (N145 2)).set 12 2), ((N144 8).promoted), ((N144 8).pockets), ((N144 8).turn), ((N144 8).rooks), ((N144 8).passing), ((N144 8).checks), ((N144 8).half), ((N144 8).full)⟩
noncomputable def ok86  : Bool := true
theorem E86  : evPure B86 14 86 [] = Tr.br (isPS Pz 144 [AV.int .u8 8] (dPos.res (N144 8))) (Tr.br (isPS Pz 145 [AV.int .u8 5] ((dI .u8).res (N145 5))) (Tr.br (isPS Pz 145 [AV.int .u8 4] ((dI .u8).res (N145 4))) (Tr.br (isPS Pz 145 [AV.int .u8 3] ((dI .u8).res (N145 3))) (Tr.br (isPS Pz 145 [AV.int .u8 2] ((dI .u8).res (N145 2))) (Tr.br (isPS Pz 145 [AV.int .u8 6] ((dI .u8).res (N145 6))) (Tr.br (isPS Pz 145 [AV.int .u8 4] ((dI .u8).res (N145 4))) (Tr.br (isPS Pz 145 [AV.int .u8 3] ((dI .u8).res (N145 3))) (Tr.br (isPS Pz 145 [AV.int .u8 2] ((dI .u8).res (N145 2))) (Tr.ret (AV.agg [AV.int .u8 (N144 8).variant, AV.ints .u8 64 (((((((((((((((((N144 8).board.set 0 (N145 5)).set 7 5).set 1 (N145 4)).set 6 4).set 2 (N145 3)).set 5 3).set 3 (N145 2)).set 4 2).set 8 (N145 6)).set 15 6).set 9 (N145 4)).set 14 4).set 10 (N145 3)).set 13 3).set 11 (N145 2)).set 12 2), AV.u64 (N144 8).promoted, AV.ints .u8 12 (N144 8).pockets, AV.int .u8 (N144 8).turn, AV.ints .i8 4 (N144 8).rooks, AV.int .i8 (N144 8).passing, AV.ints .u8 2 (N144 8).checks, AV.int .i64 (N144 8).half, AV.int .i64 (N144 8).full])) Tr.fail) Tr.fail) Tr.fail) Tr.fail) Tr.fail) Tr.fail) Tr.fail) Tr.fail) Tr.fail := by kernel_rfl
theorem P86  (h : ok86  = true) : PS Pz 86 [] (dPos.res (N86 )) := ps_gotR hB86 (E86 ) (gr_callT (P144 (8) rfl) (gr_callT (P145 (5) rfl) (gr_callT (P145 (4) rfl) (gr_callT (P145 (3) rfl) (gr_callT (P145 (2) rfl) (gr_callT (P145 (6) rfl) (gr_callT (P145 (4) rfl) (gr_callT (P145 (3) rfl) (gr_callT (P145 (2) rfl) (gr_ret rfl)))))))))) h
noncomputable def G86 : List AV → Tr AV := g0  (sure Pz 86 [] (dPos.res (N86 )))
theorem s86 : Sound Pz 86 G86 := sound0 (at_sure)
end Kz
end
section
namespace Kz
open Go Go.RowKit Go.Proofs
set_option maxRecDepth 100000
set_option maxHeartbeats 4000000
noncomputable def K40 : List (Nat × List (Nat × List Nat)) := [(40, [(0, (1 :: (rn 3 16 []))), (1, (1 :: 3 :: (rn 5 14 []))), (2, (0 :: 1 :: (rn 4 15 []))), (3, (1 :: (rn 3 5 (rn 9 10 [])))), (4, (0 :: 1 :: (rn 4 15 []))), (5, (1 :: (rn 3 9 (rn 13 6 [])))), (6, (0 :: 1 :: (rn 4 15 []))), (7, (0 :: 1 :: (rn 4 15 [])))])]
noncomputable def B40 : Base := baseOf Pz (fun f i => lkK f i K40) [(85, G85), (86, G86), (87, G87), (88, G88)] [] []
theorem hB40 : BOk B40 := base_ok named_z ⟨s85, s86, s87, s88, trivial⟩ trivial trivial
noncomputable def N40 (a : Int) : (Pos × Bool) := (bif decide (a ≥ 9) then (⟨(0), (List.replicate 64 0), (0), (List.replicate 12 0), (0), (List.replicate 4 0), (0), (List.replicate 2 0), (0), (0)⟩, (false)) else (bif a == 7 then (⟨(N85.variant), (N85.board), (N85.promoted), (N85.pockets), (N85.turn), (N85.rooks), (N85.passing), (N85.checks), (N85.half), (N85.full)⟩, (true)) else (bif a == 8 then (⟨(N86.variant), (N86.board), (N86.promoted), (N86.pockets), (N86.turn), (N86.rooks), (N86.passing), (N86.checks), (N86.half), (N86.full)⟩, (true)) else (⟨((N87 a N88).variant), ((N87 a N88).board), ((N87 a N88).promoted), ((N87 a N88).pockets), ((N87 a N88).turn), ((N87 a N88).rooks), ((N87 a N88).passing), ((N87 a N88).checks), ((N87 a N88).half), ((N87 a N88).full)⟩, (true)))))
noncomputable def ok40 (a : Int) : Bool := (bif decide (a ≥ 9) then true else (bif a == 7 then (ok85  && true) else (bif a == 8 then true else (ok87 (a) (N88) && true))))
theorem E40 (a : Int) : evPure B40 14 40 [.int .u8 a] = Tr.br (decide (a ≥ 9)) (Tr.ret (AV.tuple [AV.agg [AV.cint .u8 0, AV.ints .u8 64 (List.replicate 64 0), AV.u64 0, AV.ints .u8 12 (List.replicate 12 0), AV.cint .u8 0, AV.ints .i8 4 (List.replicate 4 0), AV.cint .i8 0, AV.ints .u8 2 (List.replicate 2 0), AV.cint .i64 0, AV.cint .i64 0], AV.cbool false])) (Tr.br (a == 7) (Tr.br (isPS Pz 85 [] (dPos.res N85)) (Tr.ret (AV.tuple [AV.agg (pc N85 []), AV.cbool true])) Tr.fail) (Tr.br (a == 8) (Tr.br (isPS Pz 86 [] (dPos.res N86)) (Tr.ret (AV.tuple [AV.agg (pc N86 []), AV.cbool true])) Tr.fail) (Tr.br (isPS Pz 88 [] ((dArr .u8 8).res N88)) (Tr.br (isPS Pz 87 [AV.int .u8 a, AV.agg [AV.ints .u8 8 N88]] (dPos.res (N87 a N88))) (Tr.ret (AV.tuple [AV.agg (pc (N87 a N88) []), AV.cbool true])) Tr.fail) Tr.fail))) := by kernel_rfl
theorem P40 (a : Int) (h : ok40 a = true) : PS Pz 40 [.int .u8 a] ((d2 dPos dB).res (N40 a)) := ps_gotR hB40 (E40 a) (gr_br (gr_ret rfl) (gr_br (gr_call (P85 ) (gr_ret rfl)) (gr_br (gr_callT (P86  rfl) (gr_ret rfl)) (gr_callT (P88  rfl) (gr_call (P87 (a) (N88)) (gr_ret rfl)))))) h
noncomputable def G40 : List AV → Tr AV := g1 (dI .u8) (fun a => sure Pz 40 [.int .u8 a] ((d2 dPos dB).res (N40 a)))
theorem s40 : Sound Pz 40 G40 := sound1 (fun _ => at_sure)
end Kz
end
section
namespace Kz
open Go Go.RowKit Go.Proofs
set_option maxRecDepth 100000
set_option maxHeartbeats 4000000
noncomputable def K17 : List (Nat × List (Nat × List Nat)) := [(17, [(0, (rn 0 41 [45, 46, 50, 51, 57, 58, 64, 65, 70, 71, 76])), (1, (0 :: (rn 2 39 [45, 46, 50, 51, 57, 58, 64, 65, 70, 71, 76]))), (2, (0 :: 2 :: (rn 4 37 [45, 46, 50, 51, 57, 58, 64, 65, 70, 71, 76]))), (3, (0 :: 2 :: (rn 4 37 [45, 46, 50, 51, 57, 58, 64, 65, 70, 71, 76]))), (4, (0 :: 2 :: (rn 4 37 [45, 46, 50, 51, 57, 58, 64, 65, 70, 71, 76]))), (5, (0 :: 2 :: (rn 4 37 [45, 46, 50, 51, 57, 58, 64, 65, 70, 71, 76]))), (6, (0 :: 2 :: (rn 4 37 [45, 46, 50, 51, 57, 58, 64, 65, 70, 71, 76]))), (7, (0 :: 2 :: (rn 5 36 [45, 46, 50, 51, 57, 58, 64, 65, 70, 71, 76]))), (8, (0 :: 2 :: (rn 5 36 [45, 46, 50, 51, 57, 58, 64, 65, 70, 71, 76]))), (9, (0 :: 2 :: (rn 5 36 [45, 46, 50, 51, 57, 58, 64, 65, 70, 71, 76]))), (10, (0 :: 2 :: (rn 5 36 [45, 46, 50, 51, 57, 58, 64, 65, 70, 71, 76]))), (11, (0 :: 2 :: (rn 5 36 [45, 46, 50, 51, 57, 58, 64, 65, 70, 71, 76]))), (12, (0 :: 2 :: (rn 6 35 [45, 46, 50, 51, 57, 58, 64, 65, 70, 71, 76]))), (13, (0 :: 2 :: (rn 6 35 [45, 46, 50, 51, 57, 58, 64, 65, 70, 71, 76]))), (14, (0 :: 2 :: (rn 6 35 [45, 46, 50, 51, 57, 58, 64, 65, 70, 71, 76]))), (15, (0 :: 2 :: 4 :: (rn 7 34 [45, 46, 50, 51, 57, 58, 64, 65, 70, 71, 76]))), (16, (rn 1 76 []))])]
noncomputable def B17 : Base := baseOf Pz (fun f i => lkK f i K17) [(15, G15), (23, G23), (40, G40)] [] []
theorem hB17 : BOk B17 := base_ok named_z ⟨s15, s23, s40, trivial⟩ trivial trivial
noncomputable def N17  : Bool := (bif Int.ofNat 20 == 20 then (bif Int.ofNat 10 == 10 then (bif Int.ofNat 2 == 2 then (bif ((N15 (Pos.mk 4 (li [0, 0, 0, 0, 0, 0, 0, 0, 0, 0, 0, 0, 0, 0, 0, 0, 0, 0, 0, 0, 0, 0, 0, 0, 0, 0, 0, 0, 1, 0, 0, 0, 0, 0, 0, 9, 0, 9, 0, 0, 0, 0, 0, 0, 0, 0, 0, 0, 0, 0, 0, 0, 0, 0, 9, 0, 0, 0, 0, 0, 0, 0, 0, 0]) 0 (li [0, 0, 0, 0, 0, 0, 0, 0, 0, 0, 0, 0]) 0 (li [0, 0, 0, 0]) (-1) (li [0, 0]) 0 1)).getD 0 default).to == 35 then (bif ((N15 (Pos.mk 4 (li [0, 0, 0, 0, 0, 0, 0, 0, 0, 0, 0, 0, 0, 0, 0, 0, 0, 0, 0, 0, 0, 0, 0, 0, 0, 0, 0, 0, 1, 0, 0, 0, 0, 0, 0, 9, 0, 9, 0, 0, 0, 0, 0, 0, 0, 0, 0, 0, 0, 0, 0, 0, 0, 0, 9, 0, 0, 0, 0, 0, 0, 0, 0, 0]) 0 (li [0, 0, 0, 0, 0, 0, 0, 0, 0, 0, 0, 0]) 0 (li [0, 0, 0, 0]) (-1) (li [0, 0]) 0 1)).getD 1 default).to == 37 then (bif Int.ofNat 0 == 0 then (eqOut BinOp.eql ((N23 (Pos.mk 6 (li [0, 0, 0, 0, 6, 0, 0, 0, 0, 0, 0, 0, 0, 0, 0, 0, 0, 0, 0, 0, 0, 0, 0, 0, 0, 0, 0, 0, 0, 0, 0, 0, 0, 0, 0, 0, 14, 0, 0, 0, 0, 0, 0, 0, 0, 0, 0, 0, 0, 0, 0, 0, 0, 0, 0, 0, 0, 0, 0, 0, 0, 0, 0, 0]) 0 (li [0, 0, 0, 0, 0, 0, 0, 0, 0, 0, 0, 0]) 0 (li [0, 0, 0, 0]) (-1) (li [0, 0]) 0 1)).fst == 2 && ((N23 (Pos.mk 6 (li [0, 0, 0, 0, 6, 0, 0, 0, 0, 0, 0, 0, 0, 0, 0, 0, 0, 0, 0, 0, 0, 0, 0, 0, 0, 0, 0, 0, 0, 0, 0, 0, 0, 0, 0, 0, 14, 0, 0, 0, 0, 0, 0, 0, 0, 0, 0, 0, 0, 0, 0, 0, 0, 0, 0, 0, 0, 0, 0, 0, 0, 0, 0, 0]) 0 (li [0, 0, 0, 0, 0, 0, 0, 0, 0, 0, 0, 0]) 0 (li [0, 0, 0, 0]) (-1) (li [0, 0]) 0 1)).snd == 6 && true))) else (false)) else (false)) else (false)) else (false)) else (false)) else (false))
noncomputable def ok17  : Bool := (ok40 (0) && (ok15 (Pos.mk 4 (li [0, 0, 0, 0, 0, 0, 0, 0, 0, 0, 0, 0, 0, 0, 0, 0, 0, 0, 0, 0, 0, 0, 0, 0, 0, 0, 0, 0, 1, 0, 0, 0, 0, 0, 0, 9, 0, 9, 0, 0, 0, 0, 0, 0, 0, 0, 0, 0, 0, 0, 0, 0, 0, 0, 9, 0, 0, 0, 0, 0, 0, 0, 0, 0]) 0 (li [0, 0, 0, 0, 0, 0, 0, 0, 0, 0, 0, 0]) 0 (li [0, 0, 0, 0]) (-1) (li [0, 0]) 0 1) && (ok15 (Pos.mk (N40 0).fst.variant (li [4, 2, 3, 5, 6, 3, 2, 4, 1, 1, 1, 1, 1, 1, 1, 1, 0, 0, 0, 0, 0, 0, 0, 0, 0, 0, 0, 0, 0, 0, 0, 0, 0, 0, 0, 0, 0, 0, 0, 0, 0, 0, 0, 0, 0, 0, 0, 0, 9, 9, 9, 9, 9, 9, 9, 9, 12, 10, 11, 13, 14, 11, 10, 12]) (N40 0).fst.promoted (li [0, 0, 0, 0, 0, 0, 0, 0, 0, 0, 0, 0]) (N40 0).fst.turn (li [7, 0, 7, 0]) (N40 0).fst.passing (li [0, 0]) (N40 0).fst.half (N40 0).fst.full) && (bif Int.ofNat 20 == 20 then (ok15 (Pos.mk 0 (li [0, 0, 0, 0, 6, 0, 0, 0, 0, 0, 0, 0, 4, 0, 0, 0, 0, 0, 0, 0, 0, 0, 0, 0, 0, 0, 0, 0, 0, 0, 0, 0, 0, 0, 0, 0, 0, 0, 0, 0, 0, 0, 0, 0, 0, 0, 0, 0, 0, 0, 0, 0, 0, 0, 0, 0, 14, 0, 0, 0, 12, 0, 0, 0]) 0 (li [0, 0, 0, 0, 0, 0, 0, 0, 0, 0, 0, 0]) 0 (li [0, 0, 0, 0]) (-1) (li [0, 0]) 0 1) && (bif Int.ofNat 10 == 10 then (bif Int.ofNat 2 == 2 then (decide (0 ≤ 0) && decide (0 < Int.ofNat 2) && (bif ((N15 (Pos.mk 4 (li [0, 0, 0, 0, 0, 0, 0, 0, 0, 0, 0, 0, 0, 0, 0, 0, 0, 0, 0, 0, 0, 0, 0, 0, 0, 0, 0, 0, 1, 0, 0, 0, 0, 0, 0, 9, 0, 9, 0, 0, 0, 0, 0, 0, 0, 0, 0, 0, 0, 0, 0, 0, 0, 0, 9, 0, 0, 0, 0, 0, 0, 0, 0, 0]) 0 (li [0, 0, 0, 0, 0, 0, 0, 0, 0, 0, 0, 0]) 0 (li [0, 0, 0, 0]) (-1) (li [0, 0]) 0 1)).getD 0 default).to == 35 then (decide (0 ≤ 1) && decide (1 < Int.ofNat 2) && (bif ((N15 (Pos.mk 4 (li [0, 0, 0, 0, 0, 0, 0, 0, 0, 0, 0, 0, 0, 0, 0, 0, 0, 0, 0, 0, 0, 0, 0, 0, 0, 0, 0, 0, 1, 0, 0, 0, 0, 0, 0, 9, 0, 9, 0, 0, 0, 0, 0, 0, 0, 0, 0, 0, 0, 0, 0, 0, 0, 0, 9, 0, 0, 0, 0, 0, 0, 0, 0, 0]) 0 (li [0, 0, 0, 0, 0, 0, 0, 0, 0, 0, 0, 0]) 0 (li [0, 0, 0, 0]) (-1) (li [0, 0]) 0 1)).getD 1 default).to == 37 then (ok15 (Pos.mk 6 (li [0, 0, 0, 0, 6, 0, 0, 0, 0, 0, 0, 0, 0, 0, 0, 0, 0, 0, 0, 0, 0, 0, 0, 0, 0, 0, 0, 0, 0, 0, 0, 0, 0, 0, 0, 0, 14, 0, 0, 0, 0, 0, 0, 0, 0, 0, 0, 0, 0, 0, 0, 0, 0, 0, 0, 0, 0, 0, 0, 0, 0, 0, 0, 0]) 0 (li [0, 0, 0, 0, 0, 0, 0, 0, 0, 0, 0, 0]) 0 (li [0, 0, 0, 0]) (-1) (li [0, 0]) 0 1) && (bif Int.ofNat 0 == 0 then (ok23 (Pos.mk 6 (li [0, 0, 0, 0, 6, 0, 0, 0, 0, 0, 0, 0, 0, 0, 0, 0, 0, 0, 0, 0, 0, 0, 0, 0, 0, 0, 0, 0, 0, 0, 0, 0, 0, 0, 0, 0, 14, 0, 0, 0, 0, 0, 0, 0, 0, 0, 0, 0, 0, 0, 0, 0, 0, 0, 0, 0, 0, 0, 0, 0, 0, 0, 0, 0]) 0 (li [0, 0, 0, 0, 0, 0, 0, 0, 0, 0, 0, 0]) 0 (li [0, 0, 0, 0]) (-1) (li [0, 0]) 0 1) && true) else true)) else true)) else true)) else true) else true)) else true))))
theorem E17  : evPure B17 14 17 [] = (let z1 := (Pos.mk 6 (li [0, 0, 0, 0, 6, 0, 0, 0, 0, 0, 0, 0, 0, 0, 0, 0, 0, 0, 0, 0, 0, 0, 0, 0, 0, 0, 0, 0, 0, 0, 0, 0, 0, 0, 0, 0, 14, 0, 0, 0, 0, 0, 0, 0, 0, 0, 0, 0, 0, 0, 0, 0, 0, 0, 0, 0, 0, 0, 0, 0, 0, 0, 0, 0]) 0 (li [0, 0, 0, 0, 0, 0, 0, 0, 0, 0, 0, 0]) 0 (li [0, 0, 0, 0]) (-1) (li [0, 0]) 0 1); let z2 := (Pos.mk 4 (li [0, 0, 0, 0, 0, 0, 0, 0, 0, 0, 0, 0, 0, 0, 0, 0, 0, 0, 0, 0, 0, 0, 0, 0, 0, 0, 0, 0, 1, 0, 0, 0, 0, 0, 0, 9, 0, 9, 0, 0, 0, 0, 0, 0, 0, 0, 0, 0, 0, 0, 0, 0, 0, 0, 9, 0, 0, 0, 0, 0, 0, 0, 0, 0]) 0 (li [0, 0, 0, 0, 0, 0, 0, 0, 0, 0, 0, 0]) 0 (li [0, 0, 0, 0]) (-1) (li [0, 0]) 0 1); let z3 := (Pos.mk (N40 0).fst.variant (li [4, 2, 3, 5, 6, 3, 2, 4, 1, 1, 1, 1, 1, 1, 1, 1, 0, 0, 0, 0, 0, 0, 0, 0, 0, 0, 0, 0, 0, 0, 0, 0, 0, 0, 0, 0, 0, 0, 0, 0, 0, 0, 0, 0, 0, 0, 0, 0, 9, 9, 9, 9, 9, 9, 9, 9, 12, 10, 11, 13, 14, 11, 10, 12]) (N40 0).fst.promoted (li [0, 0, 0, 0, 0, 0, 0, 0, 0, 0, 0, 0]) (N40 0).fst.turn (li [7, 0, 7, 0]) (N40 0).fst.passing (li [0, 0]) (N40 0).fst.half (N40 0).fst.full); let z4 := (Pos.mk 0 (li [0, 0, 0, 0, 6, 0, 0, 0, 0, 0, 0, 0, 4, 0, 0, 0, 0, 0, 0, 0, 0, 0, 0, 0, 0, 0, 0, 0, 0, 0, 0, 0, 0, 0, 0, 0, 0, 0, 0, 0, 0, 0, 0, 0, 0, 0, 0, 0, 0, 0, 0, 0, 0, 0, 0, 0, 14, 0, 0, 0, 12, 0, 0, 0]) 0 (li [0, 0, 0, 0, 0, 0, 0, 0, 0, 0, 0, 0]) 0 (li [0, 0, 0, 0]) (-1) (li [0, 0]) 0 1); let z5 := (Tr.ret (AV.cbool false)); Tr.br (isPS Pz 40 [AV.int .u8 0] ((d2 dPos dB).res (N40 0))) (Tr.br (isPS Pz 15 [z2.av] ((dL ET.mv).res (N15 z2))) (Tr.br (isPS Pz 15 [z3.av] ((dL ET.mv).res (N15 z3))) (Tr.br (Int.ofNat 20 == 20) (Tr.br (isPS Pz 15 [z4.av] ((dL ET.mv).res (N15 z4))) (Tr.br (Int.ofNat 10 == 10) (Tr.br (Int.ofNat 2 == 2) (Tr.br (decide (0 ≤ 0) && decide (0 < Int.ofNat 2)) (Tr.br (((N15 z2).getD 0 default).to == 35) (Tr.br (decide (0 ≤ 1) && decide (1 < Int.ofNat 2)) (Tr.br (((N15 z2).getD 1 default).to == 37) (Tr.br (isPS Pz 15 [z1.av] ((dL ET.mv).res (N15 z1))) (Tr.br (Int.ofNat 0 == 0) (Tr.br (isPS Pz 23 [z1.av] ((dR .u8 .u8).res (N23 z1))) (Tr.ret (AV.bool (eqOut BinOp.eql ((N23 z1).fst == 2 && ((N23 z1).snd == 6 && true))))) Tr.fail) z5) Tr.fail) z5) Tr.fail) z5) Tr.fail) z5) z5) Tr.fail) z5) Tr.fail) Tr.fail) Tr.fail) := by kernel_rfl
theorem P17  (h : ok17  = true) : PS Pz 17 [] (dB.res (N17 )) := ps_gotR hB17 (E17 ) (gr_call (P40 (0)) (gr_call (P15 (Pos.mk 4 (li [0, 0, 0, 0, 0, 0, 0, 0, 0, 0, 0, 0, 0, 0, 0, 0, 0, 0, 0, 0, 0, 0, 0, 0, 0, 0, 0, 0, 1, 0, 0, 0, 0, 0, 0, 9, 0, 9, 0, 0, 0, 0, 0, 0, 0, 0, 0, 0, 0, 0, 0, 0, 0, 0, 9, 0, 0, 0, 0, 0, 0, 0, 0, 0]) 0 (li [0, 0, 0, 0, 0, 0, 0, 0, 0, 0, 0, 0]) 0 (li [0, 0, 0, 0]) (-1) (li [0, 0]) 0 1)) (gr_call (P15 (Pos.mk (N40 0).fst.variant (li [4, 2, 3, 5, 6, 3, 2, 4, 1, 1, 1, 1, 1, 1, 1, 1, 0, 0, 0, 0, 0, 0, 0, 0, 0, 0, 0, 0, 0, 0, 0, 0, 0, 0, 0, 0, 0, 0, 0, 0, 0, 0, 0, 0, 0, 0, 0, 0, 9, 9, 9, 9, 9, 9, 9, 9, 12, 10, 11, 13, 14, 11, 10, 12]) (N40 0).fst.promoted (li [0, 0, 0, 0, 0, 0, 0, 0, 0, 0, 0, 0]) (N40 0).fst.turn (li [7, 0, 7, 0]) (N40 0).fst.passing (li [0, 0]) (N40 0).fst.half (N40 0).fst.full)) (gr_br (gr_call (P15 (Pos.mk 0 (li [0, 0, 0, 0, 6, 0, 0, 0, 0, 0, 0, 0, 4, 0, 0, 0, 0, 0, 0, 0, 0, 0, 0, 0, 0, 0, 0, 0, 0, 0, 0, 0, 0, 0, 0, 0, 0, 0, 0, 0, 0, 0, 0, 0, 0, 0, 0, 0, 0, 0, 0, 0, 0, 0, 0, 0, 14, 0, 0, 0, 12, 0, 0, 0]) 0 (li [0, 0, 0, 0, 0, 0, 0, 0, 0, 0, 0, 0]) 0 (li [0, 0, 0, 0]) (-1) (li [0, 0]) 0 1)) (gr_br (gr_br (gr_guard (gr_br (gr_guard (gr_br (gr_call (P15 (Pos.mk 6 (li [0, 0, 0, 0, 6, 0, 0, 0, 0, 0, 0, 0, 0, 0, 0, 0, 0, 0, 0, 0, 0, 0, 0, 0, 0, 0, 0, 0, 0, 0, 0, 0, 0, 0, 0, 0, 14, 0, 0, 0, 0, 0, 0, 0, 0, 0, 0, 0, 0, 0, 0, 0, 0, 0, 0, 0, 0, 0, 0, 0, 0, 0, 0, 0]) 0 (li [0, 0, 0, 0, 0, 0, 0, 0, 0, 0, 0, 0]) 0 (li [0, 0, 0, 0]) (-1) (li [0, 0]) 0 1)) (gr_br (gr_call (P23 (Pos.mk 6 (li [0, 0, 0, 0, 6, 0, 0, 0, 0, 0, 0, 0, 0, 0, 0, 0, 0, 0, 0, 0, 0, 0, 0, 0, 0, 0, 0, 0, 0, 0, 0, 0, 0, 0, 0, 0, 14, 0, 0, 0, 0, 0, 0, 0, 0, 0, 0, 0, 0, 0, 0, 0, 0, 0, 0, 0, 0, 0, 0, 0, 0, 0, 0, 0]) 0 (li [0, 0, 0, 0, 0, 0, 0, 0, 0, 0, 0, 0]) 0 (li [0, 0, 0, 0]) (-1) (li [0, 0]) 0 1)) (gr_ret rfl)) (gr_ret rfl))) (gr_ret rfl))) (gr_ret rfl))) (gr_ret rfl)) (gr_ret rfl))) (gr_ret rfl))))) h
noncomputable def G17 : List AV → Tr AV := g0  (sure Pz 17 [] (dB.res (N17 )))
theorem s17 : Sound Pz 17 G17 := sound0 (at_sure)
end Kz
end
section
namespace Kz
open Go
set_option maxRecDepth 100000
set_option maxHeartbeats 4000000
def inB (a b x : Int) : Bool := decide (a ≤ x) && decide (x ≤ b)
theorem inB_iff {a b x : Int} : inB a b x = true ↔ a ≤ x ∧ x ≤ b := by unfold inB; simp
def posInB (p : Pos) : Bool :=
  inB 0 255 p.variant && (p.board.length == 64 && p.board.all (inB 0 255)) && (p.pockets.length == 12 && p.pockets.all (inB 0 255)) && inB 0 255 p.turn && (p.rooks.length == 4 && p.rooks.all (inB (-128) 127)) && inB (-128) 127 p.passing && (p.checks.length == 2 && p.checks.all (inB 0 255)) && inB (-9223372036854775808) 9223372036854775807 p.half && inB (-9223372036854775808) 9223372036854775807 p.full
theorem posIn_of {p : Pos} (h : posInB p = true) : PosIn p := by
  unfold posInB at h
  simp only [Bool.and_eq_true, beq_iff_eq, List.all_eq_true, inB_iff] at h
  obtain ⟨⟨⟨⟨⟨⟨⟨⟨a, b⟩, c⟩, d⟩, e⟩, f⟩, g⟩, i⟩, j⟩ := h
  exact ⟨a.1, a.2, b.1, b.2, c.1, c.2, d.1, d.2, e.1, e.2, f.1, f.2, g.1, g.2, i, j⟩
theorem ok17_true : ok17 = true := by
  unfold ok17
  refine a_true (by decide +kernel) fun _ => ?_
  repeat' (first | with_reducible rfl | refine a_true (t15 (posIn_of (by decide +kernel))) (fun _ => ?_) | refine a_true (t23 (posIn_of (by decide +kernel))) (fun _ => ?_) | refine a_true (by decide +kernel) (fun _ => ?_) | refine c_true (fun _ => ?_) (fun _ => ?_))
theorem N17_true : N17 = true := by decide +kernel
end Kz
end
section
namespace Kz
open Go Go.RowKit Go.Proofs
set_option maxRecDepth 100000
set_option maxHeartbeats 4000000
noncomputable def K18 : List (Nat × List (Nat × List Nat)) := [(18, [(0, (0 :: (rn 2 15 (rn 29 14 [46, 47, 51, 52, 56, 57, 71])))), (1, (0 :: 2 :: (rn 4 13 (rn 29 14 [46, 47, 51, 52, 56, 57, 71])))), (2, (0 :: 2 :: (rn 5 12 (rn 29 14 [46, 47, 51, 52, 56, 57, 71])))), (3, (0 :: 2 :: 5 :: 6 :: (rn 8 9 (rn 29 14 [46, 47, 51, 52, 56, 57, 71])))), (4, (0 :: 2 :: (rn 5 12 (rn 29 14 [46, 47, 51, 52, 56, 57, 71])))), (5, (0 :: 2 :: (rn 6 11 (rn 29 14 [46, 47, 51, 52, 56, 57, 71])))), (6, (0 :: 2 :: (rn 6 11 (rn 30 13 [46, 47, 51, 52, 56, 57, 71])))), (7, (0 :: 1 :: (rn 3 69 []))), (8, (0 :: 2 :: (rn 6 11 (29 :: 30 :: 31 :: (rn 33 10 [46, 47, 51, 52, 56, 57, 71]))))), (9, (0 :: 2 :: (rn 5 12 (rn 29 14 [46, 47, 51, 52, 56, 57, 71])))), (10, (0 :: 1 :: (rn 3 69 [])))])]
noncomputable def B18_1 : Base := baseOf Pz (fun f i => lkK f i K18) [] [] []
theorem hB18_1 : BOk B18_1 := base_ok named_z trivial trivial trivial
noncomputable def S18_1 (p1 : Pos) (x : (Int × (List Int))) : St := St.mk (AV.any :: AV.ptr 0 0 :: AV.any :: AV.ptr 1 0 :: AV.int .i64 x.fst :: (an 38 [AV.undef, AV.undef, AV.undef, AV.any, AV.any, AV.undef, AV.undef, AV.undef, AV.any, AV.any, AV.undef, AV.undef, AV.undef, AV.any, AV.any, AV.undef, AV.undef, AV.undef, AV.undef, AV.undef, AV.undef, AV.undef, AV.undef, AV.undef, AV.undef, AV.undef, AV.undef, AV.undef, AV.any])) (Hp.mk [(pc p1 []), [AV.ints .i64 2 x.snd]] [] [] 0 0 0)
noncomputable def O18_1 (p1 : Pos) : ((List Int)) ⊕ (Int × Bool × (List Int)) → Out
  | (.inl (y)) => .ret (St.mk (AV.any :: AV.any :: AV.cbool false :: (an 69 [])) (Hp.mk [(pc p1 []), [AV.ints .i64 2 y]] [] [] 0 0 0))
  | (.inr (y)) => .exit 0 (St.mk (AV.any :: AV.ptr 0 0 :: AV.any :: AV.ptr 1 0 :: AV.int .i64 y.fst :: AV.any :: AV.any :: AV.bool y.snd.fst :: (an 35 [AV.undef, AV.undef, AV.undef, AV.any, AV.any, AV.undef, AV.undef, AV.undef, AV.any, AV.any, AV.undef, AV.undef, AV.undef, AV.any, AV.any, AV.undef, AV.undef, AV.undef, AV.undef, AV.undef, AV.undef, AV.undef, AV.undef, AV.undef, AV.undef, AV.undef, AV.undef, AV.undef, AV.any])) (Hp.mk [(pc p1 []), [AV.ints .i64 2 y.snd.snd]] [] [] 0 0 0))
noncomputable def st18_1 (p1 : Pos) (x : (Int × (List Int))) : Stp (Int × (List Int)) (((List Int)) ⊕ (Int × Bool × (List Int))) := (bif decide (x.fst < 64) then (bif p1.board.getD (scale 1 x.fst).toNat 0 != 0 then (bif decide (p1.board.getD (scale 1 x.fst).toNat 0 > 15) then (Stp.out (.inl (x.snd))) else (bif decide ((p1.board.getD (scale 1 x.fst).toNat 0).tmod 8 < 1) then (Stp.out (.inl (x.snd))) else (bif decide ((p1.board.getD (scale 1 x.fst).toNat 0).tmod 8 > 6) then (Stp.out (.inl (x.snd))) else (bif (p1.board.getD (scale 1 x.fst).toNat 0).tmod 8 == 6 then (Stp.go (wr .i64 (x.fst + 1), x.snd.set (scale 1 (wr .u8 ((p1.board.getD (scale 1 x.fst).toNat 0).tdiv 8))).toNat (wr .i64 (x.snd.getD (scale 1 (wr .u8 ((p1.board.getD (scale 1 x.fst).toNat 0).tdiv 8))).toNat 0 + 1)))) else (Stp.go (wr .i64 (x.fst + 1), x.snd)))))) else (bif (p1.board.getD (scale 1 x.fst).toNat 0).tmod 8 == 6 then (Stp.go (wr .i64 (x.fst + 1), x.snd.set (scale 1 (wr .u8 ((p1.board.getD (scale 1 x.fst).toNat 0).tdiv 8))).toNat (wr .i64 (x.snd.getD (scale 1 (wr .u8 ((p1.board.getD (scale 1 x.fst).toNat 0).tdiv 8))).toNat 0 + 1)))) else (Stp.go (wr .i64 (x.fst + 1), x.snd)))) else (Stp.out (.inr ((x.fst, decide (x.fst < 64), x.snd)))))
noncomputable def okL18_1 (p1 : Pos) (x : (Int × (List Int))) : Bool := (bif decide (x.fst < 64) then (decide (0 ≤ x.fst) && decide (x.fst < ↑64) && (bif p1.board.getD (scale 1 x.fst).toNat 0 != 0 then (bif decide (p1.board.getD (scale 1 x.fst).toNat 0 > 15) then true else (bif decide ((p1.board.getD (scale 1 x.fst).toNat 0).tmod 8 < 1) then true else (bif decide ((p1.board.getD (scale 1 x.fst).toNat 0).tmod 8 > 6) then true else (bif (p1.board.getD (scale 1 x.fst).toNat 0).tmod 8 == 6 then (decide (0 ≤ wr .u8 ((p1.board.getD (scale 1 x.fst).toNat 0).tdiv 8)) && decide (wr .u8 ((p1.board.getD (scale 1 x.fst).toNat 0).tdiv 8) < ↑2) && (decide (0 ≤ wr .u8 ((p1.board.getD (scale 1 x.fst).toNat 0).tdiv 8)) && decide (wr .u8 ((p1.board.getD (scale 1 x.fst).toNat 0).tdiv 8) < ↑2) && true)) else true)))) else (bif (p1.board.getD (scale 1 x.fst).toNat 0).tmod 8 == 6 then (decide (0 ≤ wr .u8 ((p1.board.getD (scale 1 x.fst).toNat 0).tdiv 8)) && decide (wr .u8 ((p1.board.getD (scale 1 x.fst).toNat 0).tdiv 8) < ↑2) && (decide (0 ≤ wr .u8 ((p1.board.getD (scale 1 x.fst).toNat 0).tdiv 8)) && decide (wr .u8 ((p1.board.getD (scale 1 x.fst).toNat 0).tdiv 8) < ↑2) && true)) else true))) else true)
noncomputable def lp18_1 (p1 : Pos) (x : (Int × (List Int))) : Option (((List Int)) ⊕ (Int × Bool × (List Int))) := itl (fun x => bif okL18_1 p1 x then st18_1 p1 x else .bad) many x
theorem E18_1 (p1 : Pos) (x : (Int × (List Int))) : evC (envAt B18_1 12) (evL B18_1 12) 18 (bodL Pz 18 3) (S18_1 p1 x) = (let z1 := (p1.board.getD (scale 1 x.fst).toNat 0); let z2 := [AV.undef, AV.undef, AV.undef, AV.any, AV.any, AV.undef, AV.undef, AV.undef, AV.any, AV.any, AV.undef, AV.undef, AV.undef, AV.any, AV.any, AV.undef, AV.undef, AV.undef, AV.undef, AV.undef, AV.undef, AV.undef, AV.undef, AV.undef, AV.undef, AV.undef, AV.undef, AV.undef, AV.any]; let z3 := (AV.any :: AV.ptr 0 0 :: AV.any :: AV.ptr 1 0 :: AV.int .i64 (wr .i64 (x.fst + 1)) :: (an 12 (AV.int .u8 z1 :: AV.bool (decide (p1.board.getD (scale 1 x.fst).toNat 0 > 15)) :: AV.bool (decide (p1.board.getD (scale 1 x.fst).toNat 0 > 15)) :: AV.int .u8 z1 :: AV.int .u8 (z1.tmod 8) :: AV.bool (decide (z1.tmod 8 < 1)) :: AV.bool (decide (z1.tmod 8 < 1)) :: AV.bool (decide (z1.tmod 8 < 1)) :: AV.int .u8 z1 :: AV.int .u8 (z1.tmod 8) :: AV.bool (decide (z1.tmod 8 > 6)) :: AV.bool (decide (z1.tmod 8 > 6)) :: (an 14 z2)))); let z4 := (Hp.mk [(pc p1 []), [AV.ints .i64 2 x.snd]] [] [] 0 0 0); let z5 := (AV.any :: AV.ptr 0 0 :: AV.any :: AV.ptr 1 0 :: AV.int .i64 (wr .i64 (x.fst + 1)) :: (an 12 (AV.undef :: AV.undef :: AV.undef :: AV.undef :: AV.undef :: AV.undef :: AV.undef :: AV.undef :: AV.undef :: AV.undef :: AV.undef :: AV.undef :: (an 14 z2)))); let z6 := (Hp.mk [(pc p1 []), [AV.ints .i64 2 (x.snd.set (scale 1 (wr .u8 (z1.tdiv 8))).toNat (wr .i64 (x.snd.getD (scale 1 (wr .u8 (z1.tdiv 8))).toNat 0 + 1)))]] [] [] 0 0 0); let z7 := (Tr.ret (Out.ret (St.mk (AV.any :: AV.any :: AV.cbool false :: (an 69 [])) z4))); let z8 := (0 ≤ wr .u8 (z1.tdiv 8)); Tr.br (decide (x.fst < 64)) (Tr.br (decide (0 ≤ x.fst) && decide (x.fst < ↑64)) (Tr.br (p1.board.getD (scale 1 x.fst).toNat 0 != 0) (Tr.br (decide (p1.board.getD (scale 1 x.fst).toNat 0 > 15)) z7 (Tr.br (decide (z1.tmod 8 < 1)) z7 (Tr.br (decide (z1.tmod 8 > 6)) z7 (Tr.br (z1.tmod 8 == 6) (Tr.br (decide z8 && decide (wr .u8 (z1.tdiv 8) < ↑2)) (Tr.br (decide z8 && decide (wr .u8 (z1.tdiv 8) < ↑2)) (Tr.ret (Out.norm (St.mk z3 z6))) Tr.fail) Tr.fail) (Tr.ret (Out.norm (St.mk z3 z4))))))) (Tr.br (z1.tmod 8 == 6) (Tr.br (decide z8 && decide (wr .u8 (z1.tdiv 8) < ↑2)) (Tr.br (decide z8 && decide (wr .u8 (z1.tdiv 8) < ↑2)) (Tr.ret (Out.norm (St.mk z5 z6))) Tr.fail) Tr.fail) (Tr.ret (Out.norm (St.mk z5 z4))))) Tr.fail) (Tr.ret (Out.exit 0 (St.mk (AV.any :: AV.ptr 0 0 :: AV.any :: AV.ptr 1 0 :: AV.int .i64 x.fst :: AV.any :: AV.any :: AV.bool (decide (x.fst < 64)) :: (an 35 z2)) z4)))) := by kernel_rfl
theorem L18_1 (p1 : Pos) (x : (Int × (List Int))) (r : ((List Int)) ⊕ (Int × Bool × (List Int))) (h : lp18_1 p1 x = some r) : LSpec Pz (bodL Pz 18 3) (S18_1 p1 x) (O18_1 p1 r) := LSpec.itl (S := S18_1 p1) (O := O18_1 p1) (ok := okL18_1 p1) (st := st18_1 p1) hB18_1 (fun x => gr_eq (E18_1 p1 x) (gr_br (gr_guard (gr_br (gr_br (gr_ret (rl_ret rfl (wk_nrm (ks := (0 :: 1 :: (rn 3 69 []))) (gs := []) (b := true) rfl (by kernel_rfl)))) (gr_br (gr_ret (rl_ret rfl (wk_nrm (ks := (0 :: 1 :: (rn 3 69 []))) (gs := []) (b := true) rfl (by kernel_rfl)))) (gr_br (gr_ret (rl_ret rfl (wk_nrm (ks := (0 :: 1 :: (rn 3 69 []))) (gs := []) (b := true) rfl (by kernel_rfl)))) (gr_br (gr_guard (gr_guard (gr_ret (rl_go (wk_nrm (ks := (0 :: 2 :: (rn 5 38 [46, 47, 51, 52, 56, 57, 71]))) (gs := [4]) (b := true) rfl (by kernel_rfl)))))) (gr_ret (rl_go (wk_nrm (ks := (0 :: 2 :: (rn 5 38 [46, 47, 51, 52, 56, 57, 71]))) (gs := [4]) (b := true) rfl (by kernel_rfl)))))))) (gr_br (gr_guard (gr_guard (gr_ret (rl_go (wk_nrm (ks := (0 :: 2 :: (rn 5 38 [46, 47, 51, 52, 56, 57, 71]))) (gs := [4]) (b := true) rfl (by kernel_rfl)))))) (gr_ret (rl_go (wk_nrm (ks := (0 :: 2 :: (rn 5 38 [46, 47, 51, 52, 56, 57, 71]))) (gs := [4]) (b := true) rfl (by kernel_rfl))))))) (gr_ret (rl_exit rfl (wk_nrm (ks := (0 :: 2 :: 5 :: 6 :: (rn 8 35 [46, 47, 51, 52, 56, 57, 71]))) (gs := [4, 7]) (b := true) rfl (by kernel_rfl)))))) many x r h
noncomputable def F18_1 : Code → St → Tr Out := fun b s => .br (isL ((lp18_1 (Kz.Pos.mk (tI (tH s 0 0)) (tN (tH s 0 1)) (tU (tH s 0 2)) (tN (tH s 0 3)) (tI (tH s 0 4)) (tN (tH s 0 5)) (tI (tH s 0 6)) (tN (tH s 0 7)) (tI (tH s 0 8)) (tI (tH s 0 9))) ((tI (tT s 4)), (tN (tH s 1 0)))).getD default)) (sureL Pz (fun s => O18_1 (Kz.Pos.mk (tI (tH s 0 0)) (tN (tH s 0 1)) (tU (tH s 0 2)) (tN (tH s 0 3)) (tI (tH s 0 4)) (tN (tH s 0 5)) (tI (tH s 0 6)) (tN (tH s 0 7)) (tI (tH s 0 8)) (tI (tH s 0 9))) (.inl (gl ((lp18_1 (Kz.Pos.mk (tI (tH s 0 0)) (tN (tH s 0 1)) (tU (tH s 0 2)) (tN (tH s 0 3)) (tI (tH s 0 4)) (tN (tH s 0 5)) (tI (tH s 0 6)) (tN (tH s 0 7)) (tI (tH s 0 8)) (tI (tH s 0 9))) ((tI (tT s 4)), (tN (tH s 1 0)))).getD default)))) b s) (sureL Pz (fun s => O18_1 (Kz.Pos.mk (tI (tH s 0 0)) (tN (tH s 0 1)) (tU (tH s 0 2)) (tN (tH s 0 3)) (tI (tH s 0 4)) (tN (tH s 0 5)) (tI (tH s 0 6)) (tN (tH s 0 7)) (tI (tH s 0 8)) (tI (tH s 0 9))) (.inr (gr ((lp18_1 (Kz.Pos.mk (tI (tH s 0 0)) (tN (tH s 0 1)) (tU (tH s 0 2)) (tN (tH s 0 3)) (tI (tH s 0 4)) (tN (tH s 0 5)) (tI (tH s 0 6)) (tN (tH s 0 7)) (tI (tH s 0 8)) (tI (tH s 0 9))) ((tI (tT s 4)), (tN (tH s 1 0)))).getD default)))) b s)
theorem sF18_1 : ∀ b, LSound Pz b (F18_1 b) := brL_sound (c := fun s => isL ((lp18_1 (Kz.Pos.mk (tI (tH s 0 0)) (tN (tH s 0 1)) (tU (tH s 0 2)) (tN (tH s 0 3)) (tI (tH s 0 4)) (tN (tH s 0 5)) (tI (tH s 0 6)) (tN (tH s 0 7)) (tI (tH s 0 8)) (tI (tH s 0 9))) ((tI (tT s 4)), (tN (tH s 1 0)))).getD default)) sureL_sound sureL_sound
noncomputable def B18 : Base := baseOf Pz (fun f i => lkK f i K18) [] [(18, 3, F18_1)] []
theorem hB18 : BOk B18 := base_ok named_z trivial ⟨sF18_1, trivial⟩ trivial
noncomputable def N18 (a : Pos) : Bool := (bif isL ((lp18_1 (Pos.mk a.variant a.board a.promoted a.pockets a.turn a.rooks a.passing a.checks a.half a.full) (0, List.replicate 2 0)).getD default) then (false) else (bif decide ((Pos.mk a.variant a.board a.promoted a.pockets a.turn a.rooks a.passing a.checks a.half a.full).turn < 2) then (bif decide ((Pos.mk a.variant a.board a.promoted a.pockets a.turn a.rooks a.passing a.checks a.half a.full).variant < 9) then (bif decide ((Pos.mk a.variant a.board a.promoted a.pockets a.turn a.rooks a.passing a.checks a.half a.full).passing ≥ -1) then (bif decide ((Pos.mk a.variant a.board a.promoted a.pockets a.turn a.rooks a.passing a.checks a.half a.full).passing < 64) then (bif (Pos.mk a.variant a.board a.promoted a.pockets a.turn a.rooks a.passing a.checks a.half a.full).variant == 4 then (true) else (bif decide ((gr ((lp18_1 (Pos.mk a.variant a.board a.promoted a.pockets a.turn a.rooks a.passing a.checks a.half a.full) (0, List.replicate 2 0)).getD default)).snd.snd.getD 0 0 < 2) then (decide ((gr ((lp18_1 (Pos.mk a.variant a.board a.promoted a.pockets a.turn a.rooks a.passing a.checks a.half a.full) (0, List.replicate 2 0)).getD default)).snd.snd.getD 1 0 < 2)) else (false))) else (false)) else (false)) else (false)) else (false)))
noncomputable def ok18 (a : Pos) : Bool := ((lp18_1 (Pos.mk a.variant a.board a.promoted a.pockets a.turn a.rooks a.passing a.checks a.half a.full) (0, List.replicate 2 0)).isSome && bif isL ((lp18_1 (Pos.mk a.variant a.board a.promoted a.pockets a.turn a.rooks a.passing a.checks a.half a.full) (0, List.replicate 2 0)).getD default) then true else true)
theorem E18 (a : Pos) : evPure B18 14 18 [Pos.av a] = (let z1 := (Pos.mk a.variant a.board a.promoted a.pockets a.turn a.rooks a.passing a.checks a.half a.full); let z2 := (St.mk (AV.any :: AV.ptr 0 0 :: AV.any :: AV.ptr 1 0 :: AV.cint .i64 0 :: (an 12 (AV.undef :: AV.undef :: AV.undef :: AV.undef :: AV.undef :: AV.undef :: AV.undef :: AV.undef :: AV.undef :: AV.undef :: AV.undef :: AV.undef :: (an 14 [AV.undef, AV.undef, AV.undef, AV.any, AV.any, AV.undef, AV.undef, AV.undef, AV.any, AV.any, AV.undef, AV.undef, AV.undef, AV.any, AV.any, AV.undef, AV.undef, AV.undef, AV.undef, AV.undef, AV.undef, AV.undef, AV.undef, AV.undef, AV.undef, AV.undef, AV.undef, AV.undef, AV.any])))) (Hp.mk [(pc a []), [AV.ints .i64 2 (List.replicate 2 0)]] [] [] 0 0 0)); let z3 := ((lp18_1 z1 (0, List.replicate 2 0)).getD default); let z4 := (Tr.ret (AV.cbool false)); Tr.br (isL z3) (Tr.br (isLS Pz (bodL Pz 18 3) z2 (O18_1 z1 (Sum.inl (gl z3)))) z4 Tr.fail) (Tr.br (isLS Pz (bodL Pz 18 3) z2 (O18_1 z1 (Sum.inr (gr z3)))) (Tr.br (decide (z1.turn < 2)) (Tr.br (decide (z1.variant < 9)) (Tr.br (decide (z1.passing ≥ -1)) (Tr.br (decide (z1.passing < 64)) (Tr.br (z1.variant == 4) (Tr.ret (AV.cbool true)) (Tr.br (decide ((gr z3).snd.snd.getD 0 0 < 2)) (Tr.ret (AV.bool (decide ((gr z3).snd.snd.getD 1 0 < 2)))) z4)) z4) z4) z4) z4) Tr.fail)) := by kernel_rfl
theorem P18 (a : Pos) (h : ok18 a = true) : PS Pz 18 [Pos.av a] (dB.res (N18 a)) := ps_gotR hB18 (E18 a) (gr_loop2 (fun h => L18_1 (Pos.mk a.variant a.board a.promoted a.pockets a.turn a.rooks a.passing a.checks a.half a.full) ((0, List.replicate 2 0)) _ (some_getD h)) (wk_nrm (ks := (0 :: 2 :: (rn 5 38 [46, 47, 51, 52, 56, 57, 71]))) (gs := [4]) (b := true) rfl (by kernel_rfl)) (gr_ret rfl) (gr_br2 (gr_br2 (gr_br2 (gr_br2 (gr_br2 (gr_ret rfl) (gr_br2 (gr_ret rfl) (gr_ret rfl))) (gr_ret rfl)) (gr_ret rfl)) (gr_ret rfl)) (gr_ret rfl))) h
noncomputable def G18 : List AV → Tr AV := g1 dPos (fun a => sure Pz 18 [Pos.av a] (dB.res (N18 a)))
theorem s18 : Sound Pz 18 G18 := sound1 (fun _ => at_sure)
end Kz
end
section
namespace Kz
open Go Go.RowKit Go.Proofs
set_option maxRecDepth 100000
set_option maxHeartbeats 4000000
noncomputable def K7 : List (Nat × List (Nat × List Nat)) := [(7, [(0, (0 :: (rn 2 16 (rn 19 5 (27 :: 28 :: (rn 32 4 [44, 45, 59, 60, 65, 66, 68])))))), (1, (0 :: (rn 2 5 (rn 8 10 (rn 19 5 (27 :: 28 :: (rn 32 4 [44, 45, 59, 60, 65, 66, 68]))))))), (2, (0 :: 1 :: (rn 3 66 []))), (3, (0 :: 2 :: (rn 4 14 (rn 19 5 (27 :: 28 :: (rn 32 4 [44, 45, 59, 60, 65, 66, 68])))))), (4, (0 :: 2 :: (rn 4 9 (rn 14 4 (rn 19 5 (27 :: 28 :: (rn 32 4 [44, 45, 59, 60, 65, 66, 68]))))))), (5, (0 :: 1 :: (rn 3 66 []))), (6, (0 :: 2 :: (rn 5 31 [44, 45, 59, 60, 65, 66, 68]))), (7, (0 :: 1 :: (rn 3 66 [])))])]
noncomputable def B7 : Base := baseOf Pz (fun f i => lkK f i K7) [(15, G15), (17, G17), (18, G18), (23, G23)] [] []
theorem hB7 : BOk B7 := base_ok named_z ⟨s15, s17, s18, s23, trivial⟩ trivial trivial
noncomputable def N7 (a : Pos) : Bool := (bif !N18 a then (N17) else (bif (N23 a).fst == 0 then (bif (N23 a).snd == 0 then (N17) else (false)) else (bif a.variant == 0 then (false) else (bif a.variant == 1 then (false) else (bif !a.variant == 2 then (bif (N23 a).fst != 3 then (bif (N23 a).snd == 6 then (bif Int.ofNat (N15 a).length == 0 then (N17) else (false)) else (bif (N23 a).snd == 7 then (bif Int.ofNat (N15 a).length == 0 then (N17) else (false)) else (bif (N23 a).snd == 8 then (bif Int.ofNat (N15 a).length == 0 then (N17) else (false)) else (false)))) else (bif a.variant == 8 then (bif (N23 a).snd == 6 then (bif Int.ofNat (N15 a).length == 0 then (N17) else (false)) else (bif (N23 a).snd == 7 then (bif Int.ofNat (N15 a).length == 0 then (N17) else (false)) else (bif (N23 a).snd == 8 then (bif Int.ofNat (N15 a).length == 0 then (N17) else (false)) else (false)))) else (false))) else (false))))))
noncomputable def ok7 (a : Pos) : Bool := (ok18 (a) && (bif !N18 a then (ok17  && true) else (ok23 (a) && (bif (N23 a).fst == 0 then (bif (N23 a).snd == 0 then (ok17  && true) else true) else (bif a.variant == 0 then true else (bif a.variant == 1 then true else (bif !a.variant == 2 then (bif (N23 a).fst != 3 then (bif (N23 a).snd == 6 then (ok15 (a) && (bif Int.ofNat (N15 a).length == 0 then (ok17  && true) else true)) else (bif (N23 a).snd == 7 then (ok15 (a) && (bif Int.ofNat (N15 a).length == 0 then (ok17  && true) else true)) else (bif (N23 a).snd == 8 then (ok15 (a) && (bif Int.ofNat (N15 a).length == 0 then (ok17  && true) else true)) else true))) else (bif a.variant == 8 then (bif (N23 a).snd == 6 then (ok15 (a) && (bif Int.ofNat (N15 a).length == 0 then (ok17  && true) else true)) else (bif (N23 a).snd == 7 then (ok15 (a) && (bif Int.ofNat (N15 a).length == 0 then (ok17  && true) else true)) else (bif (N23 a).snd == 8 then (ok15 (a) && (bif Int.ofNat (N15 a).length == 0 then (ok17  && true) else true)) else true))) else true)) else true)))))))
theorem E7 (a : Pos) : evPure B7 14 7 [Pos.av a] = (let z2 := (Tr.ret (AV.cbool false)); let z4 := (Tr.br (isPS Pz 17 [] (dB.res N17)) (Tr.ret (AV.bool N17)) Tr.fail); let z1 := (Tr.br (isPS Pz 15 [a.av] ((dL ET.mv).res (N15 a))) (Tr.br (Int.ofNat (N15 a).length == 0) z4 z2) Tr.fail); let z3 := (Tr.br ((N23 a).snd == 6) z1 (Tr.br ((N23 a).snd == 7) z1 (Tr.br ((N23 a).snd == 8) z1 z2))); Tr.br (isPS Pz 18 [a.av] (dB.res (N18 a))) (Tr.br (!N18 a) z4 (Tr.br (isPS Pz 23 [a.av] ((dR .u8 .u8).res (N23 a))) (Tr.br ((N23 a).fst == 0) (Tr.br ((N23 a).snd == 0) z4 z2) (Tr.br (a.variant == 0) z2 (Tr.br (a.variant == 1) z2 (Tr.br (!a.variant == 2) (Tr.br ((N23 a).fst != 3) z3 (Tr.br (a.variant == 8) z3 z2)) z2)))) Tr.fail)) Tr.fail) := by kernel_rfl
theorem P7 (a : Pos) (h : ok7 a = true) : PS Pz 7 [Pos.av a] (dB.res (N7 a)) := ps_gotR hB7 (E7 a) (gr_call (P18 (a)) (gr_br (gr_call (P17 ) (gr_ret rfl)) (gr_call (P23 (a)) (gr_br (gr_br (gr_call (P17 ) (gr_ret rfl)) (gr_ret rfl)) (gr_br (gr_ret rfl) (gr_br (gr_ret rfl) (gr_br (gr_br (gr_br (gr_call (P15 (a)) (gr_br (gr_call (P17 ) (gr_ret rfl)) (gr_ret rfl))) (gr_br (gr_call (P15 (a)) (gr_br (gr_call (P17 ) (gr_ret rfl)) (gr_ret rfl))) (gr_br (gr_call (P15 (a)) (gr_br (gr_call (P17 ) (gr_ret rfl)) (gr_ret rfl))) (gr_ret rfl)))) (gr_br (gr_br (gr_call (P15 (a)) (gr_br (gr_call (P17 ) (gr_ret rfl)) (gr_ret rfl))) (gr_br (gr_call (P15 (a)) (gr_br (gr_call (P17 ) (gr_ret rfl)) (gr_ret rfl))) (gr_br (gr_call (P15 (a)) (gr_br (gr_call (P17 ) (gr_ret rfl)) (gr_ret rfl))) (gr_ret rfl)))) (gr_ret rfl))) (gr_ret rfl)))))))) h
noncomputable def G7 : List AV → Tr AV := g1 dPos (fun a => sure Pz 7 [Pos.av a] (dB.res (N7 a)))
theorem s7 : Sound Pz 7 G7 := sound1 (fun _ => at_sure)
end Kz
end
section
namespace Kz
open Go Go.RowKit
set_option maxRecDepth 100000
set_option maxHeartbeats 4000000
set_option linter.unusedSectionVars false
theorem lp18 {p : Pos} (hp : PosIn p) : ∃ r, lp18_1 p (0, List.replicate 2 0) = some r ∧ True := by
  refine lp_many (I := fun x => 0 ≤ x.1 ∧ x.1 ≤ 64 ∧ x.2.length = 2) (μ := fun x => (64 - x.1).toNat) ?_ _ ⟨by simp, by simp, by simp⟩ (by simp)
  rintro ⟨n, ks⟩ ⟨h0, h1, h2⟩
  have h0 : 0 ≤ n := h0
  have h1 : n ≤ 64 := h1
  obtain ⟨b0, b1⟩ := bd_in hp (scale 1 n).toNat
  unfold okL18_1 st18_1
  dsimp only
  generalize p.board.getD (scale 1 n).toNat 0 = v at b0 b1
  have e8 : v.tdiv 8 = v / 8 := Int.tdiv_eq_ediv_of_nonneg b0
  have m8 : v.tmod 8 = v % 8 := Int.tmod_eq_emod_of_nonneg b0
  have w8 : wr .u8 (v.tdiv 8) = v / 8 := by rw [e8]; exact wu8 (by omega) (by omega)
  by_cases hc : n < 64
  · rw [wi64 (n := n + 1) (by omega) (by omega)]
    have go : ∀ l : List Int, l.length = 2 → Nxt (fun x : Int × List Int => 0 ≤ x.1 ∧ x.1 ≤ 64 ∧ x.2.length = 2) (fun _ : List Int ⊕ (Int × Bool × List Int) => True) (fun x => (64 - x.1).toNat) (64 - n).toNat (.go (n + 1, l)) := fun l hl => ⟨⟨by show 0 ≤ n + 1; omega, by show n + 1 ≤ 64; omega, hl⟩, by show (64 - (n + 1)).toNat < (64 - n).toNat; omega⟩
    have hs : ∀ (i : Nat) (y : Int), (ks.set i y).length = 2 := fun i y => by rw [List.length_set]; exact h2
    have ix : ∀ d : Bool, (v.tmod 8 == 6) = true → v ≤ 15 → (decide (0 ≤ wr .u8 (v.tdiv 8)) && decide (wr .u8 (v.tdiv 8) < ↑(2 : Nat)) && (decide (0 ≤ wr .u8 (v.tdiv 8)) && decide (wr .u8 (v.tdiv 8) < ↑(2 : Nat)) && true)) = true := by
      intro _ _ hv
      rw [w8]
      simp
      omega
    refine ⟨c_true (fun _ => a_true (by simp; omega) fun _ => c_true (fun _ => c_true (fun _ => rfl) fun h15 => c_true (fun _ => rfl) fun _ => c_true (fun _ => rfl) fun _ => c_true (fun h6 => ?_) fun _ => rfl) fun hz => c_true (fun h6 => ?_) fun _ => rfl) fun _ => rfl, ?_⟩
    · exact ix true h6 (by simpa using h15)
    · exact ix true h6 (by have : v = 0 := by simpa using hz
                           omega)
    · refine c_ind (fun _ => c_ind (fun _ => c_ind (fun _ => trivial) fun _ => c_ind (fun _ => trivial) fun _ => c_ind (fun _ => trivial) fun _ => c_ind (fun _ => go _ (hs _ _)) fun _ => go _ h2) fun _ => c_ind (fun _ => go _ (hs _ _)) fun _ => go _ h2) fun _ => trivial
  · exact ⟨c_true (fun h => absurd h (by simpa using hc)) fun _ => rfl, c_ind (fun h => absurd h (by simpa using hc)) fun _ => trivial⟩
theorem t18 {p : Pos} (hp : PosIn p) : ok18 p = true := by
  unfold ok18
  exact a_true (of_some (lp18 hp)).1 fun _ => c_true (fun _ => rfl) fun _ => rfl
theorem N7_true {p : Pos} (hp : PosIn p) : ok7 p = true ∧ N7 p = true := by
  have k17 := ok17_true
  have k18 := t18 hp
  have k15 := t15 hp
  have k23 := t23 hp
  constructor
  · unfold ok7
    repeat' (first | with_reducible rfl | with_reducible exact k15 | with_reducible exact k17 | with_reducible exact k18 | with_reducible exact k23 | refine a_true ?_ (fun _ => ?_) | refine c_true (fun _ => ?_) (fun _ => ?_))
  · obtain ⟨w1, w2, w3⟩ := N23_win hp
    have e17 := N17_true
    have e15 : (N23 p).1 ≠ 0 → N15 p = [] := fun h => by
      rw [N15_eq hp, show ((N23 p).1 != 0) = true from by simpa using h]
      rfl
    unfold N7
    refine c_true (fun _ => e17) fun _ => c_true (fun h => c_true (fun _ => e17) fun h2 => ?_) fun h => ?_
    · exfalso
      have h : (N23 p).1 = 0 := by simpa using h
      have h2 : (N23 p).2 ≠ 0 := by simpa using h2
      rcases w1 with w | ⟨w, _⟩ | w
      · rw [w] at h2; exact h2 rfl
      · omega
      · rw [w] at h; cases h
    · have h : (N23 p).1 ≠ 0 := by simpa using h
      obtain ⟨g1, g2, g3⟩ := w3 h
      have e0 : (Int.ofNat (N15 p).length == 0) = true := by rw [e15 h]; rfl
      have hw : (N23 p).2 = 6 ∨ (N23 p).2 = 7 ∨ (N23 p).2 = 8 := by
        rcases w1 with w | ⟨_, w⟩ | w
        · rw [w] at h; exact absurd rfl h
        · exact w
        · rw [w]; exact .inl rfl
      rw [e0]
      have tail : (bif (N23 p).snd == 6 then (bif true then N17 else false) else (bif (N23 p).snd == 7 then (bif true then N17 else false) else (bif (N23 p).snd == 8 then (bif true then N17 else false) else false))) = true := by
        rcases hw with e | e | e <;> simp [e, e17]
      refine c_true (fun g => ?_) fun _ => c_true (fun g => ?_) fun _ => c_true (fun g => c_true (fun _ => tail) fun n3 => c_true (fun _ => tail) fun n8 => ?_) fun g => ?_
      · have : p.variant = 0 := by simpa using g
        omega
      · have : p.variant = 1 := by simpa using g
        omega
      · exfalso
        have n3 : (N23 p).1 = 3 := by simpa using n3
        have n8 : p.variant ≠ 8 := by simpa using n8
        rcases w2 (.inl n3) with e | e
        · exact h e
        · exact n8 e
      · have : p.variant = 2 := by simpa using g
        omega
end Kz
end
section
namespace Kz
open Go Go.RowKit
set_option maxRecDepth 100000
set_option maxHeartbeats 4000000
def cl (h f : Int) (p : Pos) : Pos := ⟨p.variant, p.board, p.promoted, p.pockets, p.turn, p.rooks, p.passing, p.checks, h, f⟩
theorem cl_c (h f : Int) (c : Bool) (x y : Pos) : cl h f (bif c then x else y) = bif c then cl h f x else cl h f y := by cases c <;> rfl
def Stp.map {X X' R R' : Type} (φ : X → X') (ψ : R → R') : Stp X R → Stp X' R'
  | .go x => .go (φ x)
  | .out r => .out (ψ r)
  | .bad => .bad
theorem Stp.map_c {X X' R R' : Type} (φ : X → X') (ψ : R → R') (c : Bool) (x y : Stp X R) : Stp.map φ ψ (bif c then x else y) = bif c then Stp.map φ ψ x else Stp.map φ ψ y := by cases c <;> rfl
theorem itl_map {X X' R R' : Type} {φ : X → X'} {ψ : R → R'} {st : X → Stp X R} {st' : X' → Stp X' R'} (h : ∀ x, st' (φ x) = Stp.map φ ψ (st x)) : ∀ (n : Nat) (x : X), itl st' n (φ x) = (itl st n x).map ψ
  | 0, _ => rfl
  | n + 1, x => by
    rw [itl, itl, h x]
    cases st x with
    | go y => exact itl_map h n y
    | out r => rfl
    | bad => rfl
section
variable (h f : Int) (p : Pos)
theorem cl58 (c : Int) : N58 (cl h f p) c = N58 p c := by kernel_rfl
theorem cl21 (c : Int) : N21 (cl h f p) c = N21 p c := by kernel_rfl
theorem cl62 (a b : Int) : N62 (cl h f p) a b = N62 p a b := by kernel_rfl
theorem cl101 (a b : Int) : N101 (cl h f p) a b = N101 p a b := by kernel_rfl
theorem cl99 (b : Int) : N99 (cl h f p) b = N99 p b := by kernel_rfl
theorem cl93 (m : Mv) : N93 (cl h f p) m = N93 p m := by kernel_rfl
theorem cl_own : own (cl h f p) = own p := by kernel_rfl
theorem cl_oth : oth (cl h f p) = oth p := by kernel_rfl
theorem cl158 (o t : BitVec 64) (x : Int) : N158 (cl h f p, o, t) x = N158 (p, o, t) x := by kernel_rfl
theorem cl_mvs (x t : Int) : mvs (cl h f p) x t = mvs p x t := by kernel_rfl
theorem cl_drops (k : Int) : drops (cl h f p) k = drops p k := by kernel_rfl
theorem cl111 (b c : Int) : N111 (cl h f p) b c = N111 p b c := by kernel_rfl
theorem cl55 : N55 (cl h f p) = N55 p := by
  unfold N55
  simp only [cl101, cl111]
  rfl
theorem cl54 (hv : 0 ≤ p.variant) : N54 (cl h f p) = N54 p := by
  by_cases ht : there p
  · rw [N54_there hv ht, N54_there (p := cl h f p) hv ht, cl_own, cl_oth]
    have e : froms (cl h f p) (cl h f p, own p, oth p) = froms p (p, own p, oth p) := by
      funext x
      unfold froms
      rw [cl158, show mvs (cl h f p) x = mvs p x from funext fun t => cl_mvs h f p x t]
    rw [e]
  · rw [N54_not ht, N54_not (p := cl h f p) ht]
theorem cl56 (h0 : 0 ≤ p.turn) : N56 (cl h f p) = N56 p := by
  rw [N56_eq h0, N56_eq (p := cl h f p) h0, show drops (cl h f p) = drops p from funext fun k => cl_drops h f p k]
  rfl
theorem cl22 (hv : 0 ≤ p.variant) (h0 : 0 ≤ p.turn) : N22 (cl h f p) = N22 p := by
  rw [N22_eq, N22_eq, cl54 h f p hv, cl55, cl56 h f p h0]
theorem cl90a : (N90 (cl h f p)).2 = (N90 p).2 := by
  unfold N90
  show (bif decide (p.turn > 1) then _ else bif decide (p.variant ≥ 9) then _ else _ : (Pos × BitVec 64 × BitVec 64) × Bool).2 = (bif decide (p.turn > 1) then _ else bif decide (p.variant ≥ 9) then _ else _ : (Pos × BitVec 64 × BitVec 64) × Bool).2
  cases decide (p.turn > 1) <;> cases decide (p.variant ≥ 9) <;> rfl
theorem cl90b : (N90 (cl h f p)).1.2.2 = (N90 p).1.2.2 := by
  unfold N90
  show (bif decide (p.turn > 1) then _ else bif decide (p.variant ≥ 9) then _ else (((_ : Pos), _, N62 (cl h f p) (wr IntKind.u8 (1 - p.turn)) 0), _) : (Pos × BitVec 64 × BitVec 64) × Bool).1.2.2 = (bif decide (p.turn > 1) then _ else bif decide (p.variant ≥ 9) then _ else _ : (Pos × BitVec 64 × BitVec 64) × Bool).1.2.2
  rw [cl62]
  cases decide (p.turn > 1) <;> cases decide (p.variant ≥ 9) <;> rfl
theorem cl42 (hv : 0 ≤ p.variant) (m : Mv) : N42 (cl h f p) m = N42 p m := by
  unfold N42
  rw [cl90a, cl90b, cl54 h f p hv]
  rfl
theorem cl24 (hv : 0 ≤ p.variant) (m : Mv) : N24 (cl h f p) m = N24 p m := by
  unfold N24
  rw [cl42 h f p hv]
theorem cl94 (a b : Int) : (N94 (cl h f p) a b).1 = cl h f (N94 p a b).1 := by
  unfold N94
  show (bif !N149 a b then _ else bif p.pockets.getD (scale 6 a + scale 1 b).toNat 0 == 0 then _ else _ : Pos × Bool).1 = cl h f (bif !N149 a b then _ else bif p.pockets.getD (scale 6 a + scale 1 b).toNat 0 == 0 then _ else _ : Pos × Bool).1
  cases N149 a b <;> cases (p.pockets.getD (scale 6 a + scale 1 b).toNat 0 == 0) <;> rfl
theorem cl97 (a b : Int) : N97 (cl h f p) a b = cl h f (N97 p a b) := by
  unfold N97
  show (bif N149 a b then bif decide (p.pockets.getD (scale 6 a + scale 1 b).toNat 0 < 255) then _ else _ else _ : Pos) = cl h f (bif N149 a b then bif decide (p.pockets.getD (scale 6 a + scale 1 b).toNat 0 < 255) then _ else _ else _ : Pos)
  cases N149 a b <;> cases decide (p.pockets.getD (scale 6 a + scale 1 b).toNat 0 < 255) <;> rfl
end
section
variable (h f h2 f2 h3 f3 : Int) (a q p : Pos) (b m : Mv) (c : Int)
theorem clv1 : vF19_1 (cl h3 f3 a) b (cl h f q) (cl h2 f2 p) m c = cl h f (vF19_1 a b q p m c) := by
  unfold vF19_1
  simp only [cl_c, cl93, show (cl h f q).turn = q.turn from rfl, cl94]
  kernel_rfl
theorem clv2 : vF19_2 (cl h3 f3 a) b (cl h f q) (cl h2 f2 p) m c = cl h f (vF19_2 a b q p m c) := by
  unfold vF19_2
  simp only [cl_c, cl93, show (cl h f q).turn = q.turn from rfl, cl97]
  kernel_rfl
def clr (h f : Int) (r : Int × Bool × Pos) : Int × Bool × Pos := (r.1, r.2.1, cl h f r.2.2)
theorem clr_getD {r : Option (Int × Bool × Pos)} (hr : r.isSome = true) : ((r.map (clr h f)).getD default).2.2 = cl h f (r.getD default).2.2 := by
  cases r with
  | none => cases hr
  | some r => rfl
theorem cllp3 (l : List Int) (n : Int) (x : Int × Pos) : lp19_3 l n (cl h3 f3 a) b (cl h2 f2 p) m c (x.1, cl h f x.2) = (lp19_3 l n a b p m c x).map (clr h f) := by
  refine itl_map (φ := fun x : Int × Pos => (x.1, cl h f x.2)) (fun x => ?_) many x
  unfold okL19_3 st19_3
  simp only [Stp.map_c]
  kernel_rfl
theorem cllp6 (u v : Int) (l : List Int) (x : Int × Pos) : lp19_6 u v l (cl h3 f3 a) b (cl h2 f2 p) m c (x.1, cl h f x.2) = (lp19_6 u v l a b p m c x).map (clr h f) := by
  refine itl_map (φ := fun x : Int × Pos => (x.1, cl h f x.2)) (fun x => ?_) many x
  unfold okL19_6 st19_6
  simp only [Stp.map_c]
  kernel_rfl
theorem cllp7 (x : Int × Pos) : lp19_7 (cl h3 f3 a) b (cl h2 f2 p) m c (x.1, cl h f x.2) = (lp19_7 a b p m c x).map (clr h f) := by
  refine itl_map (φ := fun x : Int × Pos => (x.1, cl h f x.2)) (fun x => ?_) many x
  have e := cllp6 h f h2 f2 h3 f3 a p b m c x.1 (N101 x.2 x.1 6) (List.take 2 (List.drop (scale 2 x.1).toNat x.2.rooks)) (0, x.2)
  unfold okL19_7 st19_7
  dsimp only at e ⊢
  rw [cl101, show (cl h f x.2).rooks = x.2.rooks from rfl, e, t101, t101]
  generalize lp19_6 x.1 (N101 x.2 x.1 6) (List.take 2 (List.drop (scale 2 x.1).toNat x.2.rooks)) a b p m c (0, x.2) = o
  cases o with
  | none =>
    cases decide (x.1 ≤ 1)
    · rfl
    · simp [Stp.map]
  | some r =>
    cases decide (x.1 ≤ 1)
    · rfl
    · cases decide (0 ≤ x.1) <;> cases decide (x.1 < Int.ofNat 2) <;> rfl
theorem clv4 {p : Pos} (h1 : ∃ r, lp19_3 (N98 (N99 q (wr IntKind.i64 m.to))) (Int.ofNat (N98 (N99 q (wr IntKind.i64 m.to))).length) a b p m c (0, q) = some r) : vF19_4 (cl h3 f3 a) b (cl h f q) (cl h2 f2 p) m c = cl h f (vF19_4 a b q p m c) := by
  obtain ⟨r, h1⟩ := h1
  have e := cllp3 h f h2 f2 h3 f3 a p b m c (N98 (N99 q (wr IntKind.i64 m.to))) (Int.ofNat (N98 (N99 q (wr IntKind.i64 m.to))).length) (0, q)
  unfold vF19_4
  simp only [cl_c, cl99]
  dsimp only at e
  rw [e, h1]
  rfl
theorem clv8 {p : Pos} (h1 : ∀ r0, (r0 = q.rooks ∨ r0 = List.take (scale 2 q.turn).toNat q.rooks ++ li [-1, -1] ++ List.drop ((scale 2 q.turn).toNat + 2) q.rooks) → ∃ r, lp19_7 a b p m c (0, ⟨q.variant, q.board, q.promoted, q.pockets, q.turn, r0, q.passing, q.checks, q.half, q.full⟩) = some r) : vF19_8 (cl h3 f3 a) b (cl h f q) (cl h2 f2 p) m c = cl h f (vF19_8 a b q p m c) := by
  have e := fun r0 : List Int => cllp7 h f h2 f2 h3 f3 a p b m c (0, ⟨q.variant, q.board, q.promoted, q.pockets, q.turn, r0, q.passing, q.checks, q.half, q.full⟩)
  have k : ∀ r0, (r0 = q.rooks ∨ r0 = List.take (scale 2 q.turn).toNat q.rooks ++ li [-1, -1] ++ List.drop ((scale 2 q.turn).toNat + 2) q.rooks) → ((lp19_7 (cl h3 f3 a) b (cl h2 f2 p) m c (0, ⟨q.variant, q.board, q.promoted, q.pockets, q.turn, r0, q.passing, q.checks, h, f⟩)).getD default).2.2 = cl h f ((lp19_7 a b p m c (0, ⟨q.variant, q.board, q.promoted, q.pockets, q.turn, r0, q.passing, q.checks, q.half, q.full⟩)).getD default).2.2 := fun r0 hr => by
    obtain ⟨r, h1⟩ := h1 r0 hr
    have e := e r0
    dsimp only [cl] at e
    rw [h1] at e ⊢
    show ((lp19_7 (cl h3 f3 a) b (cl h2 f2 p) m c _).getD default).2.2 = _
    rw [show lp19_7 (cl h3 f3 a) b (cl h2 f2 p) m c (0, ⟨q.variant, q.board, q.promoted, q.pockets, q.turn, r0, q.passing, q.checks, h, f⟩) = _ from e]
    rfl
  have k0 := k q.rooks (.inl rfl)
  have k1 := k _ (.inr rfl)
  unfold vF19_8
  simp only [cl_c]
  rw [show cl h f q = ⟨q.variant, q.board, q.promoted, q.pockets, q.turn, q.rooks, q.passing, q.checks, h, f⟩ from rfl]
  dsimp only
  rw [k1, k0]
  rfl
theorem clv9 : vF19_9 (cl h3 f3 a) b (cl h f q) (cl h2 f2 p) m c = cl h f (vF19_9 a b q p m c) := by
  unfold vF19_9
  simp only [cl_c]
  kernel_rfl
theorem clv10 : ∃ h' f', vF19_10 (cl h3 f3 a) b (cl h f q) (cl h2 f2 p) m c = cl h' f' (vF19_10 a b q p m c) := by
  have kc : ∀ {c : Bool} {x y x' y' : Pos}, (∃ h' f', x' = cl h' f' x) → (∃ h' f', y' = cl h' f' y) → ∃ h' f', (bif c then x' else y') = cl h' f' (bif c then x else y) := fun {c x y x' y'} h1 h2 => by
    cases c
    · exact h2
    · exact h1
  unfold vF19_10
  repeat' (first | exact ⟨_, _, rfl⟩ | refine kc ?_ ?_)
theorem clv11 : vF19_11 (cl h3 f3 a) b (cl h f q) (cl h2 f2 p) m c = cl h f (vF19_11 a b q p m c) := by
  unfold vF19_11
  simp only [cl_c]
  kernel_rfl
end
noncomputable def mvd (p : Pos) (m : Mv) : Pos := vF19_11 p m (vF19_10 p m (vF19_9 p m (vF19_8 p m (vF19_4 p m (vF19_2 p m (vF19_1 p m p p m (N42 p m)) p m (N42 p m)) p m (N42 p m)) p m (N42 p m)) p m (N42 p m)) p m (N42 p m)) p m (N42 p m)
theorem N19_mvd (p : Pos) (m : Mv) : N19 p m = bif !N41 (N22 p) m then (p, false) else (mvd p m, true) := rfl
section
variable {p : Pos} (hp : PosIn p)
include hp
theorem mvd_cl (h f : Int) {m : Mv} (hm : m ∈ N22 p) : ∃ h' f', mvd (cl h f p) m = cl h' f' (mvd p m) := by
  obtain ⟨th, f0, f1, _⟩ := N22_mem hp hm
  have hmf : m.drp = 0 → 0 ≤ m.frm ∧ m.frm < 64 := fun _ => ⟨f0, f1⟩
  unfold mvd
  rw [cl42 h f p hp.v0]
  generalize N42 p m = k
  have h1 := vF1_kin hp m p m k
  have h2 := vF2_kin m h1 p m k
  have h4 := vF4_kin m h2 p m k
  have h8 := vF8_kin hp m th.1 h4.2 hmf p m k
  rw [clv1 h f h f h f p p p m m k, clv2 h f h f h f p _ p m m k]
  generalize vF19_1 p m p p m k = q1 at h1 h2 h4 h8 ⊢
  generalize vF19_2 p m q1 p m k = q2 at h2 h4 h8 ⊢
  rw [clv4 h f h f h f p q2 m m k (p := p) (by
    obtain ⟨r, e, _⟩ := lp19_3_kin (p := p) (sqs (N99 q2 (wr .i64 m.to)) 64) (sqs_len _ _) (fun _ h => sqs_in h) h2 p p m m k
    exact ⟨r, by rw [N98_eq]; exact e⟩)]
  have h4 := h4.2
  generalize vF19_4 p m q2 p m k = q4 at h4 h8 ⊢
  rw [clv8 h f h f h f p q4 m m k (p := p) (by
    have hR : Kin p ⟨q4.variant, q4.board, q4.promoted, q4.pockets, q4.turn, List.take (scale 2 q4.turn).toNat q4.rooks ++ li [-1, -1] ++ List.drop ((scale 2 q4.turn).toNat + 2) q4.rooks, q4.passing, q4.checks, q4.half, q4.full⟩ := by
      have t0 := hp.t0
      have t1 := th.1
      refine h4.rooks ?_ ?_
      · have hr := h4.pin.rl
        have : (scale 2 q4.turn).toNat ≤ 2 := by rw [h4.t]; unfold scale; simp; omega
        simp [li, hr]
        omega
      · intro x hx
        simp only [List.mem_append, li] at hx
        rcases hx with (hx | hx) | hx
        · exact h4.pin.r0 x (List.mem_of_mem_take hx)
        · simp at hx; omega
        · exact h4.pin.r0 x (List.mem_of_mem_drop hx)
    rintro r0 (rfl | rfl)
    · obtain ⟨r, e, _⟩ := lp19_7_kin h4 p p m m k
      exact ⟨r, e⟩
    · obtain ⟨r, e, _⟩ := lp19_7_kin hR p p m m k
      exact ⟨r, e⟩)]
  generalize vF19_8 p m q4 p m k = q8
  rw [clv9 h f h f h f p q8 p m m k]
  generalize vF19_9 p m q8 p m k = q9
  obtain ⟨h', f', e⟩ := clv10 h f h f h f p q9 p m m k
  rw [e, clv11 h' f' h f h f]
  exact ⟨h', f', rfl⟩
theorem N19_cl (h f : Int) (m : Mv) : ∃ h' f', N19 (cl h f p) m = (cl h' f' (N19 p m).1, (N19 p m).2) := by
  rw [N19_mvd, N19_mvd, cl22 h f p hp.v0 hp.t0, N41_eq (by have := N22_len hp; omega)]
  by_cases hm : m ∈ N22 p
  · obtain ⟨h', f', e⟩ := mvd_cl hp h f hm
    refine ⟨h', f', ?_⟩
    rw [e]
    simp [hm]
  · refine ⟨h, f, ?_⟩
    simp [hm]
theorem cl25 (h f : Int) (m : Mv) : N25 (cl h f p) m = N25 p m := by
  obtain ⟨h', f', e⟩ := N19_cl hp h f m
  unfold N25
  rw [e]
  simp only [cl58, cl21]
  rfl
theorem cl_wouldL (h f : Int) : wouldL (cl h f p) = wouldL p := by
  unfold wouldL
  rw [cl22 h f p hp.v0 hp.t0, show N25 (cl h f p) = N25 p from funext (cl25 hp h f), show N24 (cl h f p) = N24 p from funext (cl24 h f p hp.v0)]
  rfl
omit hp in
theorem posIn_cl (hp : PosIn p) {h f : Int} (hh : -9223372036854775808 ≤ h ∧ h ≤ 9223372036854775807) (hf : -9223372036854775808 ≤ f ∧ f ≤ 9223372036854775807) : PosIn (cl h f p) :=
  ⟨hp.v0, hp.v1, hp.bl, hp.b0, hp.kl, hp.k0, hp.t0, hp.t1, hp.rl, hp.r0, hp.p0, hp.p1, hp.cl, hp.c0, hh, hf⟩
variable {h f : Int} (hq : PosIn (cl h f p))
include hq
theorem cl37 : N37 (cl h f p) = N37 p := by
  rw [N37_eq hp, N37_eq hq, cl_wouldL hp, cl58]
  rfl
omit hp hq in
theorem cl113 (h f : Int) (p : Pos) : N113 (cl h f p) = N113 p := by kernel_rfl
omit hp hq in
theorem cl114 (h f : Int) (p : Pos) : N114 (cl h f p) = N114 p := by kernel_rfl
omit hp hq in
theorem cl115 (h f : Int) (p : Pos) : N115 (cl h f p) = N115 p := by kernel_rfl
omit hp hq in
theorem cl116 (h f : Int) (p : Pos) : N116 (cl h f p) = N116 p := by kernel_rfl
omit hp hq in
theorem cl117 (h f : Int) (p : Pos) : N117 (cl h f p) = N117 p := by kernel_rfl
omit hp hq in
theorem cllp118 (h f : Int) (p : Pos) (l : List Mv) (n k : Int) : lp118_1 l n (cl h f p) k 0 = lp118_1 l n p k 0 := by kernel_rfl
theorem cl118 : N118 (cl h f p) = N118 p := by
  unfold N118
  rw [cl37 hp hq]
  simp only [cl101, cllp118]
  rfl
theorem cl23 : N23 (cl h f p) = N23 p := by
  unfold N23
  rw [cl113, cl114, cl115, cl116, cl117, cl118 hp hq]
  rfl
theorem cl15 : N15 (cl h f p) = N15 p := by
  unfold N15
  rw [cl23 hp hq, cl37 hp hq]
end
end Kz
end
section
namespace Kz
open Go Go.RowKit Go.Proofs
set_option maxRecDepth 100000
set_option maxHeartbeats 4000000
noncomputable def K66 : List (Nat × List (Nat × List Nat)) := []
noncomputable def B66 : Base := baseOf Pz (fun f i => lkK f i K66) [] [] []
theorem hB66 : BOk B66 := base_ok named_z trivial trivial trivial
noncomputable def V66 : AV := AV.agg [AV.func 23 [] [], AV.func 123 [] [], AV.func 124 [] [], AV.func 125 [] []]
noncomputable def ok66 : Bool := true
theorem E66 : evPure B66 14 66 [] = Tr.ret V66 := by kernel_rfl
theorem P66 (_ : ok66 = true) : PS Pz 66 [] V66 := evPure_ok hB66 (by rw [E66]; rfl)
noncomputable def G66 : List AV → Tr AV := g0 (sure Pz 66 [] V66)
theorem s66 : Sound Pz 66 G66 := sound0 at_sure
end Kz
end
section
namespace Kz
open Go Go.RowKit Go.Proofs
set_option maxRecDepth 100000
set_option maxHeartbeats 4000000
noncomputable def K171 : List (Nat × List (Nat × List Nat)) := [(171, [(0, [1, 3, 4]), (1, [0, 1, 3, 4])])]
noncomputable def B171 : Base := baseOf Pz (fun f i => lkK f i K171) [] [] []
theorem hB171 : BOk B171 := base_ok named_z trivial trivial trivial
noncomputable def N171 (a : Int) : (Int × Int) := ⟨(3), (a)⟩
noncomputable def ok171 (a : Int) : Bool := true
theorem E171 (a : Int) : evPure B171 14 171 [.int .u8 a] = Tr.ret (AV.agg [AV.cint .u8 3, AV.int .u8 a]) := by kernel_rfl
theorem P171 (a : Int) (h : ok171 a = true) : PS Pz 171 [.int .u8 a] ((dR .u8 .u8).res (N171 a)) := ps_gotR hB171 (E171 a) (gr_ret rfl) h
noncomputable def G171 : List AV → Tr AV := g1 (dI .u8) (fun a => sure Pz 171 [.int .u8 a] ((dR .u8 .u8).res (N171 a)))
theorem s171 : Sound Pz 171 G171 := sound1 (fun _ => at_sure)
end Kz
end
section
namespace Kz
open Go Go.RowKit Go.Proofs
set_option maxRecDepth 100000
set_option maxHeartbeats 4000000
noncomputable def K123 : List (Nat × List (Nat × List Nat)) := [(123, [(0, (0 :: (rn 3 23 []))), (1, (0 :: 3 :: 4 :: 5 :: (rn 7 19 []))), (2, (0 :: 1 :: (rn 3 23 []))), (3, (0 :: (rn 3 5 (rn 9 17 [])))), (4, (0 :: 1 :: (rn 3 23 []))), (5, (0 :: (rn 3 13 (rn 17 9 [])))), (6, (0 :: 1 :: (rn 3 23 []))), (7, (0 :: 1 :: (rn 3 23 [])))])]
noncomputable def B123 : Base := baseOf Pz (fun f i => lkK f i K123) [(15, G15), (21, G21), (171, G171)] [] []
theorem hB123 : BOk B123 := base_ok named_z ⟨s15, s21, s171, trivial⟩ trivial trivial
noncomputable def N123 (a : Pos) : (Int × Int) := (bif decide (Int.ofNat (N15 a).length > 0) then ⟨(0), (0)⟩ else (bif a.variant == 4 then ⟨(wr .u8 (1 + a.turn)), (8)⟩ else (bif N21 a a.turn then ⟨(wr .u8 (2 - a.turn)), (1)⟩ else ⟨((N171 2).fst), ((N171 2).snd)⟩)))
noncomputable def ok123 (a : Pos) : Bool := (ok15 (a) && (bif decide (Int.ofNat (N15 a).length > 0) then true else (bif a.variant == 4 then true else (ok21 (a) (a.turn) && true))))
theorem E123 (a : Pos) : evPure B123 14 123 [Pos.av a] = Tr.br (isPS Pz 15 [a.av] ((dL ET.mv).res (N15 a))) (Tr.br (decide (Int.ofNat (N15 a).length > 0)) (Tr.ret (AV.agg [AV.cint .u8 0, AV.cint .u8 0])) (Tr.br (a.variant == 4) (Tr.ret (AV.agg [AV.int .u8 (wr .u8 (1 + a.turn)), AV.cint .u8 8])) (Tr.br (isPS Pz 21 [a.av, AV.int .u8 a.turn] (dB.res (N21 a a.turn))) (Tr.br (N21 a a.turn) (Tr.ret (AV.agg [AV.int .u8 (wr .u8 (2 - a.turn)), AV.cint .u8 1])) (Tr.br (isPS Pz 171 [AV.int .u8 2] ((dR .u8 .u8).res (N171 2))) (Tr.ret (AV.agg [AV.int .u8 (N171 2).fst, AV.int .u8 (N171 2).snd])) Tr.fail)) Tr.fail))) Tr.fail := by kernel_rfl
theorem P123 (a : Pos) (h : ok123 a = true) : PS Pz 123 [Pos.av a] ((dR .u8 .u8).res (N123 a)) := ps_gotR hB123 (E123 a) (gr_call (P15 (a)) (gr_br (gr_ret rfl) (gr_br (gr_ret rfl) (gr_call (P21 (a) (a.turn)) (gr_br2 (gr_ret rfl) (gr_callT (P171 (2) rfl) (gr_ret rfl))))))) h
noncomputable def G123 : List AV → Tr AV := g1 dPos (fun a => sure Pz 123 [Pos.av a] ((dR .u8 .u8).res (N123 a)))
theorem s123 : Sound Pz 123 G123 := sound1 (fun _ => at_sure)
end Kz
end
section
namespace Kz
open Go Go.RowKit Go.Proofs
set_option maxRecDepth 100000
set_option maxHeartbeats 4000000
noncomputable def K60 : List (Nat × List (Nat × List Nat)) := [(60, [(0, (0 :: (rn 3 9 []))), (1, (rn 0 4 (rn 5 7 [])))])]
noncomputable def B60 : Base := baseOf Pz (fun f i => lkK f i K60) [(62, G62)] [] []
theorem hB60 : BOk B60 := base_ok named_z ⟨s62, trivial⟩ trivial trivial
noncomputable def N60 (a : Pos) (b : Int) : BitVec 64 := (N62 (Pos.mk a.variant a.board a.promoted a.pockets a.turn a.rooks a.passing a.checks a.half a.full) 0 b ||| N62 (Pos.mk a.variant a.board a.promoted a.pockets a.turn a.rooks a.passing a.checks a.half a.full) 1 b)
noncomputable def ok60 (a : Pos) (b : Int) : Bool := (ok62 (Pos.mk a.variant a.board a.promoted a.pockets a.turn a.rooks a.passing a.checks a.half a.full) (0) (b) && (ok62 (Pos.mk a.variant a.board a.promoted a.pockets a.turn a.rooks a.passing a.checks a.half a.full) (1) (b) && true))
theorem E60 (a : Pos) (b : Int) : evPure B60 14 60 [Pos.av a, .int .u8 b] = Tr.br (isPS Pz 62 [(Pos.mk a.variant a.board a.promoted a.pockets a.turn a.rooks a.passing a.checks a.half a.full).av, AV.int .u8 0, AV.int .u8 b] (dU.res (N62 (Pos.mk a.variant a.board a.promoted a.pockets a.turn a.rooks a.passing a.checks a.half a.full) 0 b))) (Tr.br (isPS Pz 62 [(Pos.mk a.variant a.board a.promoted a.pockets a.turn a.rooks a.passing a.checks a.half a.full).av, AV.int .u8 1, AV.int .u8 b] (dU.res (N62 (Pos.mk a.variant a.board a.promoted a.pockets a.turn a.rooks a.passing a.checks a.half a.full) 1 b))) (Tr.ret (AV.u64 (N62 (Pos.mk a.variant a.board a.promoted a.pockets a.turn a.rooks a.passing a.checks a.half a.full) 0 b ||| N62 (Pos.mk a.variant a.board a.promoted a.pockets a.turn a.rooks a.passing a.checks a.half a.full) 1 b))) Tr.fail) Tr.fail := by kernel_rfl
theorem P60 (a : Pos) (b : Int) (h : ok60 a b = true) : PS Pz 60 [Pos.av a, .int .u8 b] (dU.res (N60 a b)) := ps_gotR hB60 (E60 a b) (gr_call (P62 (Pos.mk a.variant a.board a.promoted a.pockets a.turn a.rooks a.passing a.checks a.half a.full) (0) (b)) (gr_call (P62 (Pos.mk a.variant a.board a.promoted a.pockets a.turn a.rooks a.passing a.checks a.half a.full) (1) (b)) (gr_ret rfl))) h
noncomputable def G60 : List AV → Tr AV := g2 dPos (dI .u8) (fun a b => sure Pz 60 [Pos.av a, .int .u8 b] (dU.res (N60 a b)))
theorem s60 : Sound Pz 60 G60 := sound2 (fun _ _ => at_sure)
end Kz
end
section
namespace Kz
open Go Go.RowKit Go.Proofs
set_option maxRecDepth 100000
set_option maxHeartbeats 4000000
noncomputable def K61 : List (Nat × List (Nat × List Nat)) := [(61, [(0, (rn 1 34 [])), (1, (rn 1 34 [])), (2, (rn 1 34 [])), (3, (rn 1 34 [])), (4, (rn 1 34 [])), (5, (rn 1 34 [])), (6, (rn 1 34 [])), (7, (0 :: 1 :: (rn 3 32 [])))])]
noncomputable def B61 : Base := baseOf Pz (fun f i => lkK f i K61) [] [] []
theorem hB61 : BOk B61 := base_ok named_z trivial trivial trivial
noncomputable def N61 (a : BitVec 64) : Int := (ibits BinOp.and .i64 (wr .i64 ↑((((((a >>> 1 &&& 6148914691236517205#64) + (a &&& 6148914691236517205#64)) >>> 2 &&& 3689348814741910323#64) + ((a >>> 1 &&& 6148914691236517205#64) + (a &&& 6148914691236517205#64) &&& 3689348814741910323#64)) >>> 4 + ((((a >>> 1 &&& 6148914691236517205#64) + (a &&& 6148914691236517205#64)) >>> 2 &&& 3689348814741910323#64) + ((a >>> 1 &&& 6148914691236517205#64) + (a &&& 6148914691236517205#64) &&& 3689348814741910323#64)) &&& 1085102592571150095#64) + (((((a >>> 1 &&& 6148914691236517205#64) + (a &&& 6148914691236517205#64)) >>> 2 &&& 3689348814741910323#64) + ((a >>> 1 &&& 6148914691236517205#64) + (a &&& 6148914691236517205#64) &&& 3689348814741910323#64)) >>> 4 + ((((a >>> 1 &&& 6148914691236517205#64) + (a &&& 6148914691236517205#64)) >>> 2 &&& 3689348814741910323#64) + ((a >>> 1 &&& 6148914691236517205#64) + (a &&& 6148914691236517205#64) &&& 3689348814741910323#64)) &&& 1085102592571150095#64) >>> 8 + ((((((a >>> 1 &&& 6148914691236517205#64) + (a &&& 6148914691236517205#64)) >>> 2 &&& 3689348814741910323#64) + ((a >>> 1 &&& 6148914691236517205#64) + (a &&& 6148914691236517205#64) &&& 3689348814741910323#64)) >>> 4 + ((((a >>> 1 &&& 6148914691236517205#64) + (a &&& 6148914691236517205#64)) >>> 2 &&& 3689348814741910323#64) + ((a >>> 1 &&& 6148914691236517205#64) + (a &&& 6148914691236517205#64) &&& 3689348814741910323#64)) &&& 1085102592571150095#64) + (((((a >>> 1 &&& 6148914691236517205#64) + (a &&& 6148914691236517205#64)) >>> 2 &&& 3689348814741910323#64) + ((a >>> 1 &&& 6148914691236517205#64) + (a &&& 6148914691236517205#64) &&& 3689348814741910323#64)) >>> 4 + ((((a >>> 1 &&& 6148914691236517205#64) + (a &&& 6148914691236517205#64)) >>> 2 &&& 3689348814741910323#64) + ((a >>> 1 &&& 6148914691236517205#64) + (a &&& 6148914691236517205#64) &&& 3689348814741910323#64)) &&& 1085102592571150095#64) >>> 8) >>> 16 + ((((((a >>> 1 &&& 6148914691236517205#64) + (a &&& 6148914691236517205#64)) >>> 2 &&& 3689348814741910323#64) + ((a >>> 1 &&& 6148914691236517205#64) + (a &&& 6148914691236517205#64) &&& 3689348814741910323#64)) >>> 4 + ((((a >>> 1 &&& 6148914691236517205#64) + (a &&& 6148914691236517205#64)) >>> 2 &&& 3689348814741910323#64) + ((a >>> 1 &&& 6148914691236517205#64) + (a &&& 6148914691236517205#64) &&& 3689348814741910323#64)) &&& 1085102592571150095#64) + (((((a >>> 1 &&& 6148914691236517205#64) + (a &&& 6148914691236517205#64)) >>> 2 &&& 3689348814741910323#64) + ((a >>> 1 &&& 6148914691236517205#64) + (a &&& 6148914691236517205#64) &&& 3689348814741910323#64)) >>> 4 + ((((a >>> 1 &&& 6148914691236517205#64) + (a &&& 6148914691236517205#64)) >>> 2 &&& 3689348814741910323#64) + ((a >>> 1 &&& 6148914691236517205#64) + (a &&& 6148914691236517205#64) &&& 3689348814741910323#64)) &&& 1085102592571150095#64) >>> 8 + ((((((a >>> 1 &&& 6148914691236517205#64) + (a &&& 6148914691236517205#64)) >>> 2 &&& 3689348814741910323#64) + ((a >>> 1 &&& 6148914691236517205#64) + (a &&& 6148914691236517205#64) &&& 3689348814741910323#64)) >>> 4 + ((((a >>> 1 &&& 6148914691236517205#64) + (a &&& 6148914691236517205#64)) >>> 2 &&& 3689348814741910323#64) + ((a >>> 1 &&& 6148914691236517205#64) + (a &&& 6148914691236517205#64) &&& 3689348814741910323#64)) &&& 1085102592571150095#64) + (((((a >>> 1 &&& 6148914691236517205#64) + (a &&& 6148914691236517205#64)) >>> 2 &&& 3689348814741910323#64) + ((a >>> 1 &&& 6148914691236517205#64) + (a &&& 6148914691236517205#64) &&& 3689348814741910323#64)) >>> 4 + ((((a >>> 1 &&& 6148914691236517205#64) + (a &&& 6148914691236517205#64)) >>> 2 &&& 3689348814741910323#64) + ((a >>> 1 &&& 6148914691236517205#64) + (a &&& 6148914691236517205#64) &&& 3689348814741910323#64)) &&& 1085102592571150095#64) >>> 8) >>> 16) >>> 32).toNat) 127)
noncomputable def ok61 (a : BitVec 64) : Bool := true
theorem E61 (a : BitVec 64) : evPure B61 14 61 [.u64 a] = (let z1 := (((((a >>> 1 &&& 6148914691236517205#64) + (a &&& 6148914691236517205#64)) >>> 2 &&& 3689348814741910323#64) + ((a >>> 1 &&& 6148914691236517205#64) + (a &&& 6148914691236517205#64) &&& 3689348814741910323#64)) >>> 4 + ((((a >>> 1 &&& 6148914691236517205#64) + (a &&& 6148914691236517205#64)) >>> 2 &&& 3689348814741910323#64) + ((a >>> 1 &&& 6148914691236517205#64) + (a &&& 6148914691236517205#64) &&& 3689348814741910323#64)) &&& 1085102592571150095#64); Tr.ret (AV.int .i64 (ibits BinOp.and .i64 (wr .i64 ↑(z1 + z1 >>> 8 + (z1 + z1 >>> 8) >>> 16 + (z1 + z1 >>> 8 + (z1 + z1 >>> 8) >>> 16) >>> 32).toNat) 127))) := by kernel_rfl
theorem P61 (a : BitVec 64) (h : ok61 a = true) : PS Pz 61 [.u64 a] ((dI .i64).res (N61 a)) := ps_gotR hB61 (E61 a) (gr_ret rfl) h
noncomputable def G61 : List AV → Tr AV := g1 dU (fun a => sure Pz 61 [.u64 a] ((dI .i64).res (N61 a)))
theorem s61 : Sound Pz 61 G61 := sound1 (fun _ => at_sure)
end Kz
end
section
namespace Kz
open Go Go.RowKit Go.Proofs
set_option maxRecDepth 100000
set_option maxHeartbeats 4000000
noncomputable def K27 : List (Nat × List (Nat × List Nat)) := [(27, [(0, (0 :: (rn 2 30 (rn 45 14 [62, 63, 67])))), (1, (0 :: 2 :: (rn 4 28 (rn 45 14 [62, 63, 67])))), (2, (0 :: 2 :: (rn 4 7 (rn 12 20 (rn 45 14 [62, 63, 67]))))), (3, (0 :: 2 :: (rn 4 7 (rn 13 19 (rn 45 14 [62, 63, 67]))))), (4, (0 :: 2 :: (rn 4 7 (rn 13 19 (rn 45 14 [62, 63, 67]))))), (5, (0 :: 2 :: 3 :: (rn 5 27 (rn 45 23 [])))), (6, (0 :: 2 :: 3 :: (rn 6 26 (rn 45 23 [])))), (7, (rn 0 4 (rn 6 21 (rn 28 4 (rn 45 23 []))))), (8, (0 :: 1 :: (rn 3 65 []))), (9, (0 :: 1 :: (rn 3 65 []))), (10, (0 :: 2 :: (rn 4 7 (rn 12 34 (rn 47 12 [62, 63, 67]))))), (11, (0 :: 2 :: (rn 4 42 (rn 47 12 [62, 63, 67])))), (12, (0 :: 1 :: 2 :: 4 :: 5 :: (rn 8 51 [62, 63, 67]))), (13, (0 :: 1 :: (rn 3 65 []))), (14, (0 :: 1 :: (rn 3 65 [])))])]
noncomputable def B27 : Base := baseOf Pz (fun f i => lkK f i K27) [(59, G59), (60, G60), (61, G61), (62, G62)] [] []
theorem hB27 : BOk B27 := base_ok named_z ⟨s59, s60, s61, s62, trivial⟩ trivial trivial
noncomputable def N27 (a : Pos) : Bool := (bif a.variant == 0 then (bif a.variant == 0 then (bif N59 (Pos.mk a.variant a.board a.promoted a.pockets a.turn a.rooks a.passing a.checks a.half a.full) &&& ~~~N60 (Pos.mk a.variant a.board a.promoted a.pockets a.turn a.rooks a.passing a.checks a.half a.full) 6 &&& ~~~N60 (Pos.mk a.variant a.board a.promoted a.pockets a.turn a.rooks a.passing a.checks a.half a.full) 3 &&& ~~~N60 (Pos.mk a.variant a.board a.promoted a.pockets a.turn a.rooks a.passing a.checks a.half a.full) 2 != 0#64 then (false) else (bif decide (N61 (N59 (Pos.mk a.variant a.board a.promoted a.pockets a.turn a.rooks a.passing a.checks a.half a.full) &&& ~~~N60 (Pos.mk a.variant a.board a.promoted a.pockets a.turn a.rooks a.passing a.checks a.half a.full) 6) ≤ 1) then (true) else (bif N59 (Pos.mk a.variant a.board a.promoted a.pockets a.turn a.rooks a.passing a.checks a.half a.full) &&& ~~~N60 (Pos.mk a.variant a.board a.promoted a.pockets a.turn a.rooks a.passing a.checks a.half a.full) 6 == N60 (Pos.mk a.variant a.board a.promoted a.pockets a.turn a.rooks a.passing a.checks a.half a.full) 3 then (bif N59 (Pos.mk a.variant a.board a.promoted a.pockets a.turn a.rooks a.passing a.checks a.half a.full) &&& ~~~N60 (Pos.mk a.variant a.board a.promoted a.pockets a.turn a.rooks a.passing a.checks a.half a.full) 6 &&& 6172840429334713770#64 == 0#64 then (true) else (N59 (Pos.mk a.variant a.board a.promoted a.pockets a.turn a.rooks a.passing a.checks a.half a.full) &&& ~~~N60 (Pos.mk a.variant a.board a.promoted a.pockets a.turn a.rooks a.passing a.checks a.half a.full) 6 &&& ~~~6172840429334713770#64 == 0#64)) else (false)))) else (bif a.variant == 3 then (bif a.variant == 3 then (bif N59 (Pos.mk a.variant a.board a.promoted a.pockets a.turn a.rooks a.passing a.checks a.half a.full) == N62 (Pos.mk a.variant a.board a.promoted a.pockets a.turn a.rooks a.passing a.checks a.half a.full) 0 6 ||| N62 (Pos.mk a.variant a.board a.promoted a.pockets a.turn a.rooks a.passing a.checks a.half a.full) 1 6 then (bif N61 (N62 (Pos.mk a.variant a.board a.promoted a.pockets a.turn a.rooks a.passing a.checks a.half a.full) 0 6) == 1 then (N61 (N62 (Pos.mk a.variant a.board a.promoted a.pockets a.turn a.rooks a.passing a.checks a.half a.full) 1 6) == 1) else (false)) else (false)) else (false)) else (bif a.variant == 5 then (bif N59 (Pos.mk a.variant a.board a.promoted a.pockets a.turn a.rooks a.passing a.checks a.half a.full) == N62 (Pos.mk a.variant a.board a.promoted a.pockets a.turn a.rooks a.passing a.checks a.half a.full) 0 6 ||| N62 (Pos.mk a.variant a.board a.promoted a.pockets a.turn a.rooks a.passing a.checks a.half a.full) 1 6 then (bif N61 (N62 (Pos.mk a.variant a.board a.promoted a.pockets a.turn a.rooks a.passing a.checks a.half a.full) 0 6) == 1 then (N61 (N62 (Pos.mk a.variant a.board a.promoted a.pockets a.turn a.rooks a.passing a.checks a.half a.full) 1 6) == 1) else (false)) else (false)) else (false)))) else (bif a.variant == 1 then (bif N59 (Pos.mk a.variant a.board a.promoted a.pockets a.turn a.rooks a.passing a.checks a.half a.full) &&& ~~~N60 (Pos.mk a.variant a.board a.promoted a.pockets a.turn a.rooks a.passing a.checks a.half a.full) 6 &&& ~~~N60 (Pos.mk a.variant a.board a.promoted a.pockets a.turn a.rooks a.passing a.checks a.half a.full) 3 &&& ~~~N60 (Pos.mk a.variant a.board a.promoted a.pockets a.turn a.rooks a.passing a.checks a.half a.full) 2 != 0#64 then (false) else (bif decide (N61 (N59 (Pos.mk a.variant a.board a.promoted a.pockets a.turn a.rooks a.passing a.checks a.half a.full) &&& ~~~N60 (Pos.mk a.variant a.board a.promoted a.pockets a.turn a.rooks a.passing a.checks a.half a.full) 6) ≤ 1) then (true) else (bif N59 (Pos.mk a.variant a.board a.promoted a.pockets a.turn a.rooks a.passing a.checks a.half a.full) &&& ~~~N60 (Pos.mk a.variant a.board a.promoted a.pockets a.turn a.rooks a.passing a.checks a.half a.full) 6 == N60 (Pos.mk a.variant a.board a.promoted a.pockets a.turn a.rooks a.passing a.checks a.half a.full) 3 then (bif N59 (Pos.mk a.variant a.board a.promoted a.pockets a.turn a.rooks a.passing a.checks a.half a.full) &&& ~~~N60 (Pos.mk a.variant a.board a.promoted a.pockets a.turn a.rooks a.passing a.checks a.half a.full) 6 &&& 6172840429334713770#64 == 0#64 then (true) else (N59 (Pos.mk a.variant a.board a.promoted a.pockets a.turn a.rooks a.passing a.checks a.half a.full) &&& ~~~N60 (Pos.mk a.variant a.board a.promoted a.pockets a.turn a.rooks a.passing a.checks a.half a.full) 6 &&& ~~~6172840429334713770#64 == 0#64)) else (false)))) else (bif a.variant == 3 then (bif a.variant == 3 then (bif N59 (Pos.mk a.variant a.board a.promoted a.pockets a.turn a.rooks a.passing a.checks a.half a.full) == N62 (Pos.mk a.variant a.board a.promoted a.pockets a.turn a.rooks a.passing a.checks a.half a.full) 0 6 ||| N62 (Pos.mk a.variant a.board a.promoted a.pockets a.turn a.rooks a.passing a.checks a.half a.full) 1 6 then (bif N61 (N62 (Pos.mk a.variant a.board a.promoted a.pockets a.turn a.rooks a.passing a.checks a.half a.full) 0 6) == 1 then (N61 (N62 (Pos.mk a.variant a.board a.promoted a.pockets a.turn a.rooks a.passing a.checks a.half a.full) 1 6) == 1) else (false)) else (false)) else (false)) else (bif a.variant == 5 then (bif N59 (Pos.mk a.variant a.board a.promoted a.pockets a.turn a.rooks a.passing a.checks a.half a.full) == N62 (Pos.mk a.variant a.board a.promoted a.pockets a.turn a.rooks a.passing a.checks a.half a.full) 0 6 ||| N62 (Pos.mk a.variant a.board a.promoted a.pockets a.turn a.rooks a.passing a.checks a.half a.full) 1 6 then (bif N61 (N62 (Pos.mk a.variant a.board a.promoted a.pockets a.turn a.rooks a.passing a.checks a.half a.full) 0 6) == 1 then (N61 (N62 (Pos.mk a.variant a.board a.promoted a.pockets a.turn a.rooks a.passing a.checks a.half a.full) 1 6) == 1) else (false)) else (false)) else (false)))))
noncomputable def ok27 (a : Pos) : Bool := (ok59 (Pos.mk a.variant a.board a.promoted a.pockets a.turn a.rooks a.passing a.checks a.half a.full) && (bif a.variant == 0 then (bif a.variant == 0 then (ok60 (Pos.mk a.variant a.board a.promoted a.pockets a.turn a.rooks a.passing a.checks a.half a.full) (6) && (ok60 (Pos.mk a.variant a.board a.promoted a.pockets a.turn a.rooks a.passing a.checks a.half a.full) (3) && (ok60 (Pos.mk a.variant a.board a.promoted a.pockets a.turn a.rooks a.passing a.checks a.half a.full) (2) && true))) else (bif a.variant == 3 then (bif a.variant == 3 then (ok62 (Pos.mk a.variant a.board a.promoted a.pockets a.turn a.rooks a.passing a.checks a.half a.full) (0) (6) && (ok62 (Pos.mk a.variant a.board a.promoted a.pockets a.turn a.rooks a.passing a.checks a.half a.full) (1) (6) && true)) else true) else (bif a.variant == 5 then (ok62 (Pos.mk a.variant a.board a.promoted a.pockets a.turn a.rooks a.passing a.checks a.half a.full) (0) (6) && (ok62 (Pos.mk a.variant a.board a.promoted a.pockets a.turn a.rooks a.passing a.checks a.half a.full) (1) (6) && true)) else true))) else (bif a.variant == 1 then (ok60 (Pos.mk a.variant a.board a.promoted a.pockets a.turn a.rooks a.passing a.checks a.half a.full) (6) && (ok60 (Pos.mk a.variant a.board a.promoted a.pockets a.turn a.rooks a.passing a.checks a.half a.full) (3) && (ok60 (Pos.mk a.variant a.board a.promoted a.pockets a.turn a.rooks a.passing a.checks a.half a.full) (2) && true))) else (bif a.variant == 3 then (bif a.variant == 3 then (ok62 (Pos.mk a.variant a.board a.promoted a.pockets a.turn a.rooks a.passing a.checks a.half a.full) (0) (6) && (ok62 (Pos.mk a.variant a.board a.promoted a.pockets a.turn a.rooks a.passing a.checks a.half a.full) (1) (6) && true)) else true) else (bif a.variant == 5 then (ok62 (Pos.mk a.variant a.board a.promoted a.pockets a.turn a.rooks a.passing a.checks a.half a.full) (0) (6) && (ok62 (Pos.mk a.variant a.board a.promoted a.pockets a.turn a.rooks a.passing a.checks a.half a.full) (1) (6) && true)) else true)))))
theorem E27 (a : Pos) : evPure B27 14 27 [Pos.av a] = (let z1 := (Pos.mk a.variant a.board a.promoted a.pockets a.turn a.rooks a.passing a.checks a.half a.full); let z2 := (Tr.br (isPS Pz 62 [z1.av, AV.int .u8 0, AV.int .u8 6] (dU.res (N62 z1 0 6))) (Tr.br (isPS Pz 62 [z1.av, AV.int .u8 1, AV.int .u8 6] (dU.res (N62 z1 1 6))) (Tr.br (N59 z1 == N62 z1 0 6 ||| N62 z1 1 6) (Tr.br (isPS Pz 61 [AV.u64 (N62 z1 0 6)] ((dI .i64).res (N61 (N62 z1 0 6)))) (Tr.br (N61 (N62 z1 0 6) == 1) (Tr.br (isPS Pz 61 [AV.u64 (N62 z1 1 6)] ((dI .i64).res (N61 (N62 z1 1 6)))) (Tr.ret (AV.bool (N61 (N62 z1 1 6) == 1))) Tr.fail) (Tr.ret (AV.cbool false))) Tr.fail) (Tr.ret (AV.cbool false))) Tr.fail) Tr.fail); let z3 := (Tr.br (isPS Pz 60 [z1.av, AV.int .u8 6] (dU.res (N60 z1 6))) (Tr.br (isPS Pz 60 [z1.av, AV.int .u8 3] (dU.res (N60 z1 3))) (Tr.br (isPS Pz 60 [z1.av, AV.int .u8 2] (dU.res (N60 z1 2))) (Tr.br (N59 z1 &&& ~~~N60 z1 6 &&& ~~~N60 z1 3 &&& ~~~N60 z1 2 != 0#64) (Tr.ret (AV.cbool false)) (Tr.br (isPS Pz 61 [AV.u64 (N59 z1 &&& ~~~N60 z1 6)] ((dI .i64).res (N61 (N59 z1 &&& ~~~N60 z1 6)))) (Tr.br (decide (N61 (N59 z1 &&& ~~~N60 z1 6) ≤ 1)) (Tr.ret (AV.cbool true)) (Tr.br (N59 z1 &&& ~~~N60 z1 6 == N60 z1 3) (Tr.br (N59 z1 &&& ~~~N60 z1 6 &&& 6172840429334713770#64 == 0#64) (Tr.ret (AV.cbool true)) (Tr.ret (AV.bool (N59 z1 &&& ~~~N60 z1 6 &&& ~~~6172840429334713770#64 == 0#64)))) (Tr.ret (AV.cbool false)))) Tr.fail)) Tr.fail) Tr.fail) Tr.fail); let z4 := (Tr.br (a.variant == 3) (Tr.br (a.variant == 3) z2 (Tr.ret (AV.cbool false))) (Tr.br (a.variant == 5) z2 (Tr.ret (AV.cbool false)))); Tr.br (isPS Pz 59 [z1.av] (dU.res (N59 z1))) (Tr.br (a.variant == 0) (Tr.br (a.variant == 0) z3 z4) (Tr.br (a.variant == 1) z3 z4)) Tr.fail) := by kernel_rfl
theorem P27 (a : Pos) (h : ok27 a = true) : PS Pz 27 [Pos.av a] (dB.res (N27 a)) := ps_gotR hB27 (E27 a) (gr_call (P59 (Pos.mk a.variant a.board a.promoted a.pockets a.turn a.rooks a.passing a.checks a.half a.full)) (gr_br (gr_br (gr_call (P60 (Pos.mk a.variant a.board a.promoted a.pockets a.turn a.rooks a.passing a.checks a.half a.full) (6)) (gr_call (P60 (Pos.mk a.variant a.board a.promoted a.pockets a.turn a.rooks a.passing a.checks a.half a.full) (3)) (gr_call (P60 (Pos.mk a.variant a.board a.promoted a.pockets a.turn a.rooks a.passing a.checks a.half a.full) (2)) (gr_br2 (gr_ret rfl) (gr_callT (P61 (N59 (Pos.mk a.variant a.board a.promoted a.pockets a.turn a.rooks a.passing a.checks a.half a.full) &&& ~~~N60 (Pos.mk a.variant a.board a.promoted a.pockets a.turn a.rooks a.passing a.checks a.half a.full) 6) rfl) (gr_br2 (gr_ret rfl) (gr_br2 (gr_br2 (gr_ret rfl) (gr_ret rfl)) (gr_ret rfl)))))))) (gr_br (gr_br (gr_call (P62 (Pos.mk a.variant a.board a.promoted a.pockets a.turn a.rooks a.passing a.checks a.half a.full) (0) (6)) (gr_call (P62 (Pos.mk a.variant a.board a.promoted a.pockets a.turn a.rooks a.passing a.checks a.half a.full) (1) (6)) (gr_br2 (gr_callT (P61 (N62 (Pos.mk a.variant a.board a.promoted a.pockets a.turn a.rooks a.passing a.checks a.half a.full) 0 6) rfl) (gr_br2 (gr_callT (P61 (N62 (Pos.mk a.variant a.board a.promoted a.pockets a.turn a.rooks a.passing a.checks a.half a.full) 1 6) rfl) (gr_ret rfl)) (gr_ret rfl))) (gr_ret rfl)))) (gr_ret rfl)) (gr_br (gr_call (P62 (Pos.mk a.variant a.board a.promoted a.pockets a.turn a.rooks a.passing a.checks a.half a.full) (0) (6)) (gr_call (P62 (Pos.mk a.variant a.board a.promoted a.pockets a.turn a.rooks a.passing a.checks a.half a.full) (1) (6)) (gr_br2 (gr_callT (P61 (N62 (Pos.mk a.variant a.board a.promoted a.pockets a.turn a.rooks a.passing a.checks a.half a.full) 0 6) rfl) (gr_br2 (gr_callT (P61 (N62 (Pos.mk a.variant a.board a.promoted a.pockets a.turn a.rooks a.passing a.checks a.half a.full) 1 6) rfl) (gr_ret rfl)) (gr_ret rfl))) (gr_ret rfl)))) (gr_ret rfl)))) (gr_br (gr_call (P60 (Pos.mk a.variant a.board a.promoted a.pockets a.turn a.rooks a.passing a.checks a.half a.full) (6)) (gr_call (P60 (Pos.mk a.variant a.board a.promoted a.pockets a.turn a.rooks a.passing a.checks a.half a.full) (3)) (gr_call (P60 (Pos.mk a.variant a.board a.promoted a.pockets a.turn a.rooks a.passing a.checks a.half a.full) (2)) (gr_br2 (gr_ret rfl) (gr_callT (P61 (N59 (Pos.mk a.variant a.board a.promoted a.pockets a.turn a.rooks a.passing a.checks a.half a.full) &&& ~~~N60 (Pos.mk a.variant a.board a.promoted a.pockets a.turn a.rooks a.passing a.checks a.half a.full) 6) rfl) (gr_br2 (gr_ret rfl) (gr_br2 (gr_br2 (gr_ret rfl) (gr_ret rfl)) (gr_ret rfl)))))))) (gr_br (gr_br (gr_call (P62 (Pos.mk a.variant a.board a.promoted a.pockets a.turn a.rooks a.passing a.checks a.half a.full) (0) (6)) (gr_call (P62 (Pos.mk a.variant a.board a.promoted a.pockets a.turn a.rooks a.passing a.checks a.half a.full) (1) (6)) (gr_br2 (gr_callT (P61 (N62 (Pos.mk a.variant a.board a.promoted a.pockets a.turn a.rooks a.passing a.checks a.half a.full) 0 6) rfl) (gr_br2 (gr_callT (P61 (N62 (Pos.mk a.variant a.board a.promoted a.pockets a.turn a.rooks a.passing a.checks a.half a.full) 1 6) rfl) (gr_ret rfl)) (gr_ret rfl))) (gr_ret rfl)))) (gr_ret rfl)) (gr_br (gr_call (P62 (Pos.mk a.variant a.board a.promoted a.pockets a.turn a.rooks a.passing a.checks a.half a.full) (0) (6)) (gr_call (P62 (Pos.mk a.variant a.board a.promoted a.pockets a.turn a.rooks a.passing a.checks a.half a.full) (1) (6)) (gr_br2 (gr_callT (P61 (N62 (Pos.mk a.variant a.board a.promoted a.pockets a.turn a.rooks a.passing a.checks a.half a.full) 0 6) rfl) (gr_br2 (gr_callT (P61 (N62 (Pos.mk a.variant a.board a.promoted a.pockets a.turn a.rooks a.passing a.checks a.half a.full) 1 6) rfl) (gr_ret rfl)) (gr_ret rfl))) (gr_ret rfl)))) (gr_ret rfl)))))) h
noncomputable def G27 : List AV → Tr AV := g1 dPos (fun a => sure Pz 27 [Pos.av a] (dB.res (N27 a)))
theorem s27 : Sound Pz 27 G27 := sound1 (fun _ => at_sure)
end Kz
end
section
namespace Kz
open Go Go.RowKit Go.Proofs
set_option maxRecDepth 100000
set_option maxHeartbeats 4000000
noncomputable def K124 : List (Nat × List (Nat × List Nat)) := [(124, [(0, [0, 3, 4, 5, 6]), (1, [0, 1, 3, 5, 6]), (2, (0 :: 1 :: (rn 3 4 []))), (3, (0 :: 1 :: (rn 3 4 [])))])]
noncomputable def B124 : Base := baseOf Pz (fun f i => lkK f i K124) [(27, G27), (171, G171)] [] []
theorem hB124 : BOk B124 := base_ok named_z ⟨s27, s171, trivial⟩ trivial trivial
noncomputable def N124 (a : Pos) : (Int × Int) := (bif N27 (Pos.mk a.variant a.board a.promoted a.pockets a.turn a.rooks a.passing a.checks a.half a.full) then ⟨((N171 3).fst), ((N171 3).snd)⟩ else ⟨(0), (0)⟩)
noncomputable def ok124 (a : Pos) : Bool := (ok27 (Pos.mk a.variant a.board a.promoted a.pockets a.turn a.rooks a.passing a.checks a.half a.full) && true)
theorem E124 (a : Pos) : evPure B124 14 124 [Pos.av a] = Tr.br (isPS Pz 27 [(Pos.mk a.variant a.board a.promoted a.pockets a.turn a.rooks a.passing a.checks a.half a.full).av] (dB.res (N27 (Pos.mk a.variant a.board a.promoted a.pockets a.turn a.rooks a.passing a.checks a.half a.full)))) (Tr.br (N27 (Pos.mk a.variant a.board a.promoted a.pockets a.turn a.rooks a.passing a.checks a.half a.full)) (Tr.br (isPS Pz 171 [AV.int .u8 3] ((dR .u8 .u8).res (N171 3))) (Tr.ret (AV.agg [AV.int .u8 (N171 3).fst, AV.int .u8 (N171 3).snd])) Tr.fail) (Tr.ret (AV.agg [AV.cint .u8 0, AV.cint .u8 0]))) Tr.fail := by kernel_rfl
theorem P124 (a : Pos) (h : ok124 a = true) : PS Pz 124 [Pos.av a] ((dR .u8 .u8).res (N124 a)) := ps_gotR hB124 (E124 a) (gr_call (P27 (Pos.mk a.variant a.board a.promoted a.pockets a.turn a.rooks a.passing a.checks a.half a.full)) (gr_br2 (gr_callT (P171 (3) rfl) (gr_ret rfl)) (gr_ret rfl))) h
noncomputable def G124 : List AV → Tr AV := g1 dPos (fun a => sure Pz 124 [Pos.av a] ((dR .u8 .u8).res (N124 a)))
theorem s124 : Sound Pz 124 G124 := sound1 (fun _ => at_sure)
end Kz
end
section
namespace Kz
open Go Go.RowKit Go.Proofs
set_option maxRecDepth 100000
set_option maxHeartbeats 4000000
noncomputable def K125 : List (Nat × List (Nat × List Nat)) := [(125, [(0, (0 :: (rn 3 5 []))), (1, [0, 1, 3, 4, 6, 7]), (2, (0 :: 1 :: (rn 3 5 []))), (3, (0 :: 1 :: (rn 3 5 [])))])]
noncomputable def B125 : Base := baseOf Pz (fun f i => lkK f i K125) [(171, G171)] [] []
theorem hB125 : BOk B125 := base_ok named_z ⟨s171, trivial⟩ trivial trivial
noncomputable def N125 (a : Pos) : (Int × Int) := (bif decide (a.half ≥ 150) then ⟨((N171 4).fst), ((N171 4).snd)⟩ else ⟨(0), (0)⟩)
noncomputable def ok125 (a : Pos) : Bool := true
theorem E125 (a : Pos) : evPure B125 14 125 [Pos.av a] = Tr.br (decide (a.half ≥ 150)) (Tr.br (isPS Pz 171 [AV.int .u8 4] ((dR .u8 .u8).res (N171 4))) (Tr.ret (AV.agg [AV.int .u8 (N171 4).fst, AV.int .u8 (N171 4).snd])) Tr.fail) (Tr.ret (AV.agg [AV.cint .u8 0, AV.cint .u8 0])) := by kernel_rfl
theorem P125 (a : Pos) (h : ok125 a = true) : PS Pz 125 [Pos.av a] ((dR .u8 .u8).res (N125 a)) := ps_gotR hB125 (E125 a) (gr_br2 (gr_callT (P171 (4) rfl) (gr_ret rfl)) (gr_ret rfl)) h
noncomputable def G125 : List AV → Tr AV := g1 dPos (fun a => sure Pz 125 [Pos.av a] ((dR .u8 .u8).res (N125 a)))
theorem s125 : Sound Pz 125 G125 := sound1 (fun _ => at_sure)
end Kz
end
section
namespace Kz
open Go Go.RowKit Go.Proofs
set_option maxRecDepth 100000
set_option maxHeartbeats 4000000
noncomputable def K32 : List (Nat × List (Nat × List Nat)) := [(32, [(0, (0 :: (rn 3 7 (rn 13 16 [])))), (1, (0 :: (rn 3 10 (rn 14 15 [])))), (2, (0 :: 1 :: (rn 3 26 []))), (3, (0 :: (rn 3 12 (rn 17 12 [])))), (4, (0 :: (rn 3 12 (rn 18 11 [])))), (5, (0 :: 3 :: (rn 5 10 (rn 17 12 [])))), (6, (0 :: 3 :: 4 :: (rn 6 9 (rn 17 12 [])))), (7, (0 :: 3 :: 4 :: (rn 6 9 (rn 17 8 [26, 27, 28])))), (8, (0 :: 1 :: (rn 3 26 []))), (9, (0 :: (rn 3 12 (rn 17 12 [])))), (10, (0 :: 1 :: (rn 3 26 [])))])]
noncomputable def B32 : Base := baseOf Pz (fun f i => lkK f i K32) [(23, G23), (66, G66), (123, G123), (124, G124), (125, G125)] [] []
theorem hB32 : BOk B32 := base_ok named_z ⟨s23, s66, s123, s124, s125, trivial⟩ trivial trivial
noncomputable def N32 (a : Pos) : (Int × Int) := (bif decide (a.variant ≥ 9) then ⟨(0), (0)⟩ else (bif decide (a.turn > 1) then ⟨(0), (0)⟩ else (bif (N23 a).fst != 0 then ⟨((N23 a).fst), ((N23 a).snd)⟩ else (bif (N123 a).fst != 0 then ⟨((N123 a).fst), ((N123 a).snd)⟩ else (bif (N124 a).fst != 0 then ⟨((N124 a).fst), ((N124 a).snd)⟩ else (bif (N125 a).fst != 0 then ⟨((N125 a).fst), ((N125 a).snd)⟩ else ⟨(0), (0)⟩))))))
noncomputable def ok32 (a : Pos) : Bool := (bif decide (a.variant ≥ 9) then true else (bif decide (a.turn > 1) then true else (ok23 (a) && (bif (N23 a).fst != 0 then true else (ok123 (a) && (bif (N123 a).fst != 0 then true else (ok124 (a) && true)))))))
theorem E32 (a : Pos) : evPure B32 14 32 [Pos.av a] = Tr.br (decide (a.variant ≥ 9)) (Tr.ret (AV.agg [AV.cint .u8 0, AV.cint .u8 0])) (Tr.br (decide (a.turn > 1)) (Tr.ret (AV.agg [AV.cint .u8 0, AV.cint .u8 0])) (Tr.br (isPS Pz 66 [] V66) (Tr.br (isPS Pz 23 [a.av] ((dR .u8 .u8).res (N23 a))) (Tr.br ((N23 a).fst != 0) (Tr.ret (AV.agg [AV.int .u8 (N23 a).fst, AV.int .u8 (N23 a).snd])) (Tr.br (isPS Pz 123 [a.av] ((dR .u8 .u8).res (N123 a))) (Tr.br ((N123 a).fst != 0) (Tr.ret (AV.agg [AV.int .u8 (N123 a).fst, AV.int .u8 (N123 a).snd])) (Tr.br (isPS Pz 124 [a.av] ((dR .u8 .u8).res (N124 a))) (Tr.br ((N124 a).fst != 0) (Tr.ret (AV.agg [AV.int .u8 (N124 a).fst, AV.int .u8 (N124 a).snd])) (Tr.br (isPS Pz 125 [a.av] ((dR .u8 .u8).res (N125 a))) (Tr.br ((N125 a).fst != 0) (Tr.ret (AV.agg [AV.int .u8 (N125 a).fst, AV.int .u8 (N125 a).snd])) (Tr.ret (AV.agg [AV.cint .u8 0, AV.cint .u8 0]))) Tr.fail)) Tr.fail)) Tr.fail)) Tr.fail) Tr.fail)) := by kernel_rfl
theorem P32 (a : Pos) (h : ok32 a = true) : PS Pz 32 [Pos.av a] ((dR .u8 .u8).res (N32 a)) := ps_gotR hB32 (E32 a) (gr_br (gr_ret rfl) (gr_br (gr_ret rfl) (gr_callT (P66 rfl) (gr_call (P23 (a)) (gr_br (gr_ret rfl) (gr_call (P123 (a)) (gr_br (gr_ret rfl) (gr_call (P124 (a)) (gr_br2 (gr_ret rfl) (gr_callT (P125 (a) rfl) (gr_br2 (gr_ret rfl) (gr_ret rfl)))))))))))) h
noncomputable def G32 : List AV → Tr AV := g1 dPos (fun a => sure Pz 32 [Pos.av a] ((dR .u8 .u8).res (N32 a)))
theorem s32 : Sound Pz 32 G32 := sound1 (fun _ => at_sure)
end Kz
end
section
namespace Kz
open Go Go.RowKit
set_option maxRecDepth 100000
set_option maxHeartbeats 4000000
theorem t60 (p : Pos) (b : Int) : ok60 p b = true := a_true (t62 _ _ _) fun _ => a_true (t62 _ _ _) fun _ => rfl
theorem t27 (p : Pos) : ok27 p = true := by
  unfold ok27
  rw [show (Pos.mk p.variant p.board p.promoted p.pockets p.turn p.rooks p.passing p.checks p.half p.full) = p from rfl]
  repeat' (first | with_reducible rfl | with_reducible exact t59 _ | with_reducible exact t60 _ _ | with_reducible exact t62 _ _ _ | refine a_true ?_ (fun _ => ?_) | refine c_true (fun _ => ?_) (fun _ => ?_))
theorem t124 (p : Pos) : ok124 p = true := a_true (t27 _) fun _ => rfl
theorem t123 {p : Pos} (hp : PosIn p) : ok123 p = true := a_true (t15 hp) fun _ => c_true (fun _ => rfl) fun _ => c_true (fun _ => rfl) fun _ => a_true (t21 hp.v0 hp.t0) fun _ => rfl
theorem t32 {p : Pos} (hp : PosIn p) : ok32 p = true := c_true (fun _ => rfl) fun _ => c_true (fun _ => rfl) fun _ => a_true (t23 hp) fun _ => c_true (fun _ => rfl) fun _ => a_true (t123 hp) fun _ => c_true (fun _ => rfl) fun _ => a_true (t124 p) fun _ => rfl
theorem N32_not {p : Pos} (h : ¬ there p) : N32 p = (0, 0) := by
  unfold there at h
  unfold N32
  refine c_ind (P := fun r : Int × Int => r = (0, 0)) (fun _ => rfl) fun h1 => c_ind (P := fun r : Int × Int => r = (0, 0)) (fun _ => rfl) fun h2 => ?_
  have h1 : p.variant < 9 := by simpa using h1
  have h2 : p.turn ≤ 1 := by simpa using h2
  exact absurd ⟨h2, h1⟩ h
theorem N32_there {p : Pos} (h : there p) : N32 p = bif (N23 p).1 != 0 then N23 p else bif (N123 p).1 != 0 then N123 p else bif (N124 p).1 != 0 then N124 p else bif (N125 p).1 != 0 then N125 p else (0, 0) := by
  obtain ⟨h1, h2⟩ := h
  unfold N32
  rw [show decide (p.variant ≥ 9) = false by simp; omega, show decide (p.turn > 1) = false by simp; omega]
  rfl
def Stands (p : Pos) (r : Int × Int) : Prop :=
  (r.1 ≠ 0 ∧ (r.2 = 6 ∨ r.2 = 7 ∨ r.2 = 8) ∧ (N15 p).length = 0) ∨ (r = (2 - p.turn, 1) ∧ (N15 p).length = 0 ∧ N21 p p.turn = true) ∨ (r = (3, 2) ∧ (N15 p).length = 0 ∧ N21 p p.turn = false) ∨ (r = (3, 3) ∧ 0 < (N15 p).length) ∨ (r = (3, 4) ∧ 0 < (N15 p).length ∧ 150 ≤ p.half) ∨ (r = (0, 0) ∧ 0 < (N15 p).length)
theorem N123_zero {p : Pos} (ht : there p) (hp : PosIn p) (h : (N123 p).1 = 0) : 0 < (N15 p).length := by
  have t0 := hp.t0
  have t1 := ht.1
  refine Classical.byContradiction fun hn => ?_
  revert h
  unfold N123
  rw [show decide (Int.ofNat (N15 p).length > 0) = false by simp; simpa using hn]
  rw [wu8 (n := 1 + p.turn) (by omega) (by omega), wu8 (n := 2 - p.turn) (by omega) (by omega)]
  refine c_ind (P := fun r : Int × Int => r.1 = 0 → False) (fun h => by cases h) fun _ => c_ind (P := fun r : Int × Int => r.1 = 0 → False) (fun _ h => by simp at h; omega) fun _ => c_ind (P := fun r : Int × Int => r.1 = 0 → False) (fun _ h => by simp at h; omega) fun _ h => by
    revert h
    show (N171 2).1 = 0 → False
    decide
theorem N171_eq {w : Int} : N171 w = (3, w) := rfl
theorem N124_is (p : Pos) : N124 p = (3, 3) ∨ N124 p = (0, 0) := by
  unfold N124
  exact c_ind (P := fun r : Int × Int => r = (3, 3) ∨ r = (0, 0)) (fun _ => .inl rfl) fun _ => .inr rfl
theorem N125_is (p : Pos) : (N125 p = (3, 4) ∧ 150 ≤ p.half) ∨ (N125 p = (0, 0) ∧ p.half < 150) := by
  unfold N125
  exact c_ind (P := fun r : Int × Int => (r = (3, 4) ∧ _) ∨ (r = (0, 0) ∧ _)) (fun h => .inl ⟨rfl, by simpa using h⟩) fun h => .inr ⟨rfl, by simpa using h⟩
theorem N123_is {p : Pos} (ht : there p) (hp : PosIn p) (h : (N123 p).1 ≠ 0) : (N15 p).length = 0 ∧ (N123 p = (1 + p.turn, 8) ∨ (N123 p = (2 - p.turn, 1) ∧ N21 p p.turn = true) ∨ (N123 p = (3, 2) ∧ N21 p p.turn = false)) := by
  have t0 := hp.t0
  have t1 := ht.1
  revert h
  unfold N123
  rw [wu8 (n := 1 + p.turn) (by omega) (by omega), wu8 (n := 2 - p.turn) (by omega) (by omega)]
  refine c_ind (P := fun r : Int × Int => r.1 ≠ 0 → (N15 p).length = 0 ∧ (r = (1 + p.turn, 8) ∨ (r = (2 - p.turn, 1) ∧ N21 p p.turn = true) ∨ (r = (3, 2) ∧ N21 p p.turn = false))) (fun _ h => absurd rfl h) fun hl => ?_
  have hl : (N15 p).length = 0 := by simpa using hl
  refine c_ind (P := fun r : Int × Int => r.1 ≠ 0 → (N15 p).length = 0 ∧ (r = (1 + p.turn, 8) ∨ (r = (2 - p.turn, 1) ∧ N21 p p.turn = true) ∨ (r = (3, 2) ∧ N21 p p.turn = false))) (fun _ _ => ⟨hl, .inl rfl⟩) fun _ => c_ind (P := fun r : Int × Int => r.1 ≠ 0 → (N15 p).length = 0 ∧ (r = (1 + p.turn, 8) ∨ (r = (2 - p.turn, 1) ∧ N21 p p.turn = true) ∨ (r = (3, 2) ∧ N21 p p.turn = false))) (fun hk _ => ⟨hl, .inr (.inl ⟨rfl, hk⟩)⟩) fun hk _ => ⟨hl, .inr (.inr ⟨rfl, hk⟩)⟩
theorem N32_stands {p : Pos} (hp : PosIn p) (ht : there p) : Stands p (N32 p) := by
  have t0 := hp.t0
  obtain ⟨t1, t2⟩ := ht
  rw [N32_there ⟨t1, t2⟩]
  obtain ⟨w1, _, _⟩ := N23_win hp
  unfold Stands
  have e15 : ((N23 p).1 != 0) = true → (N15 p).length = 0 := fun h => by
    rw [N15_eq hp, h]; rfl
  refine c_ind (P := Stands p) (fun h => ?_) fun _ => c_ind (P := Stands p) (fun h => ?_) fun h => ?_
  · have h0 : (N23 p).1 ≠ 0 := by simpa using h
    refine .inl ⟨h0, ?_, e15 h⟩
    rcases w1 with w | ⟨_, w⟩ | w
    · rw [w] at h0; exact absurd rfl h0
    · exact w
    · rw [w]; exact .inl rfl
  · have h0 : (N123 p).1 ≠ 0 := by simpa using h
    obtain ⟨hl, e | ⟨e, k⟩ | ⟨e, k⟩⟩ := N123_is ⟨t1, t2⟩ hp h0
    · rw [e]; exact .inl ⟨by show 1 + p.turn ≠ 0; omega, .inr (.inr rfl), hl⟩
    · rw [e]; exact .inr (.inl ⟨rfl, hl, k⟩)
    · rw [e]; exact .inr (.inr (.inl ⟨rfl, hl, k⟩))
  · have h0 : (N123 p).1 = 0 := by simpa using h
    have hl := N123_zero ⟨t1, t2⟩ hp h0
    rcases N124_is p with e | e
    · rw [e]; exact .inr (.inr (.inr (.inl ⟨rfl, hl⟩)))
    · rw [e]
      rcases N125_is p with ⟨e, k⟩ | ⟨e, k⟩
      · rw [e]; exact .inr (.inr (.inr (.inr (.inl ⟨rfl, hl, k⟩))))
      · rw [e]; exact .inr (.inr (.inr (.inr (.inr ⟨rfl, hl⟩))))
section
variable {p : Pos} (hp : PosIn p) {h f : Int} (hq : PosIn (cl h f p))
include hp hq
theorem cl123 : N123 (cl h f p) = N123 p := by
  unfold N123
  rw [cl15 hp hq, show (cl h f p).turn = p.turn from rfl, cl21]
  rfl
omit hp hq in
theorem cl27 (h f : Int) (p : Pos) : N27 (cl h f p) = N27 p := by kernel_rfl
omit hp hq in
theorem cl124 (h f : Int) (p : Pos) : N124 (cl h f p) = N124 p := by
  unfold N124
  rw [show (Pos.mk p.variant p.board p.promoted p.pockets p.turn p.rooks p.passing p.checks p.half p.full) = p from rfl]
  show (bif N27 (cl h f p) then _ else _ : Int × Int) = _
  rw [cl27]
theorem N32_cl : N32 (cl h f p) = N32 p ∨ ((N32 p = (3, 4) ∨ N32 p = (0, 0)) ∧ ((N32 (cl h f p) = (3, 4) ∧ 150 ≤ h) ∨ N32 (cl h f p) = (0, 0))) := by
  by_cases ht : there p
  · have e1 := N32_there ht
    have e2 := N32_there (p := cl h f p) ht
    rw [cl23 hp hq, cl123 hp hq, cl124] at e2
    rw [e1, e2]
    cases h1 : (N23 p).1 != 0
    · cases h2 : (N123 p).1 != 0
      · cases h3 : (N124 p).1 != 0
        · right
          simp only [cond_false]
          have b1 : (bif (N125 p).1 != 0 then N125 p else (0, 0)) = N125 p := by rcases N125_is p with ⟨e, _⟩ | ⟨e, _⟩ <;> rw [e] <;> rfl
          have b2 : (bif (N125 (cl h f p)).1 != 0 then N125 (cl h f p) else (0, 0)) = N125 (cl h f p) := by rcases N125_is (cl h f p) with ⟨e, _⟩ | ⟨e, _⟩ <;> rw [e] <;> rfl
          rw [b1, b2]
          refine ⟨?_, ?_⟩
          · rcases N125_is p with ⟨e, _⟩ | ⟨e, _⟩
            · exact .inl e
            · exact .inr e
          · rcases N125_is (cl h f p) with ⟨e, k⟩ | ⟨e, _⟩
            · exact .inl ⟨e, k⟩
            · exact .inr e
        · left; rfl
      · left; rfl
    · left; rfl
  · left
    rw [N32_not ht, N32_not (p := cl h f p) ht]
end
def U8 (r : Int × Int) : Prop := (0 ≤ r.1 ∧ r.1 ≤ 255) ∧ (0 ≤ r.2 ∧ r.2 ≤ 255)
theorem N32_u8 {p : Pos} (hp : PosIn p) : U8 (N32 p) := by
  have z : U8 (0, 0) := by unfold U8; simp
  by_cases ht : there p
  · rw [N32_there ht]
    have t0 := hp.t0
    have t1 := ht.1
    refine c_ind (P := U8) (fun _ => ?_) fun _ => c_ind (P := U8) (fun h => ?_) fun _ => c_ind (P := U8) (fun _ => ?_) fun _ => c_ind (P := U8) (fun _ => ?_) fun _ => z
    · rcases (N23_win hp).1 with w | ⟨w1, w2⟩ | w
      · rw [w]; exact z
      · unfold U8; omega
      · rw [w]; unfold U8; simp
    · have h0 : (N123 p).1 ≠ 0 := by simpa using h
      obtain ⟨_, e | ⟨e, _⟩ | ⟨e, _⟩⟩ := N123_is ht hp h0
      · rw [e]; unfold U8; simp; omega
      · rw [e]; unfold U8; simp; omega
      · rw [e]; unfold U8; simp
    · rcases N124_is p with e | e
      · rw [e]; unfold U8; simp
      · rw [e]; exact z
    · rcases N125_is p with ⟨e, _⟩ | ⟨e, _⟩
      · rw [e]; unfold U8; simp
      · rw [e]; exact z
  · rw [N32_not ht]; exact z
end Kz
end
section
namespace Kz
open Go Go.RowKit Go.Proofs
set_option maxRecDepth 100000
set_option maxHeartbeats 4000000
noncomputable def K30 : List (Nat × List (Nat × List Nat)) := [(30, [(0, (0 :: (rn 2 35 []))), (1, (0 :: 2 :: (rn 4 33 []))), (2, (0 :: 2 :: (rn 5 32 []))), (3, (0 :: 2 :: 5 :: 6 :: (rn 8 29 []))), (4, (0 :: 1 :: (rn 3 34 []))), (5, (0 :: 2 :: (rn 5 7 (rn 13 24 [])))), (6, (0 :: 1 :: (rn 3 34 []))), (7, (0 :: 2 :: (rn 5 13 (rn 19 18 [])))), (8, (0 :: 1 :: (rn 3 34 []))), (9, (0 :: 1 :: (rn 3 34 [])))])]
noncomputable def B30 : Base := baseOf Pz (fun f i => lkK f i K30) [] [] []
theorem hB30 : BOk B30 := base_ok named_z trivial trivial trivial
noncomputable def N30 (a : (Int × Int)) : List UInt8 := (bif decide (wr .i64 a.fst ≥ 4) then ((ByteArray.mk #[63]).data.toList) else (bif a.fst == 0 then ((ByteArray.mk #[42]).data.toList) else (bif decide (wr .i64 a.snd ≥ 9) then (bif a.fst == ↑0 then ((ByteArray.mk #[42]).data.toList ++ (ByteArray.mk #[63]).data.toList) else (bif a.fst == ↑1 then ((ByteArray.mk #[49, 45, 48, 32]).data.toList ++ (ByteArray.mk #[63]).data.toList) else (bif a.fst == ↑2 then ((ByteArray.mk #[48, 45, 49, 32]).data.toList ++ (ByteArray.mk #[63]).data.toList) else ((ByteArray.mk #[49, 47, 50, 32]).data.toList ++ (ByteArray.mk #[63]).data.toList)))) else (bif a.fst == ↑0 then (bif a.snd == ↑0 then ((ByteArray.mk #[42]).data.toList ++ (ByteArray.mk #[63]).data.toList) else (bif a.snd == ↑1 then ((ByteArray.mk #[42]).data.toList ++ (ByteArray.mk #[109, 97, 116, 101]).data.toList) else (bif a.snd == ↑2 then ((ByteArray.mk #[42]).data.toList ++ (ByteArray.mk #[115, 116, 97, 108, 101, 109, 97, 116, 101]).data.toList) else (bif a.snd == ↑3 then ((ByteArray.mk #[42]).data.toList ++ (ByteArray.mk #[109, 97, 116, 101, 114, 105, 97, 108]).data.toList) else (bif a.snd == ↑4 then ((ByteArray.mk #[42]).data.toList ++ (ByteArray.mk #[99, 108, 111, 99, 107]).data.toList) else (bif a.snd == ↑5 then ((ByteArray.mk #[42]).data.toList ++ (ByteArray.mk #[114, 101, 112, 101, 116, 105, 116, 105, 111, 110]).data.toList) else (bif a.snd == ↑6 then ((ByteArray.mk #[42]).data.toList ++ (ByteArray.mk #[107, 105, 110, 103]).data.toList) else (bif a.snd == ↑7 then ((ByteArray.mk #[42]).data.toList ++ (ByteArray.mk #[99, 104, 101, 99, 107, 115]).data.toList) else ((ByteArray.mk #[42]).data.toList ++ (ByteArray.mk #[108, 97, 115, 116]).data.toList))))))))) else (bif a.fst == ↑1 then (bif a.snd == ↑0 then ((ByteArray.mk #[49, 45, 48, 32]).data.toList ++ (ByteArray.mk #[63]).data.toList) else (bif a.snd == ↑1 then ((ByteArray.mk #[49, 45, 48, 32]).data.toList ++ (ByteArray.mk #[109, 97, 116, 101]).data.toList) else (bif a.snd == ↑2 then ((ByteArray.mk #[49, 45, 48, 32]).data.toList ++ (ByteArray.mk #[115, 116, 97, 108, 101, 109, 97, 116, 101]).data.toList) else (bif a.snd == ↑3 then ((ByteArray.mk #[49, 45, 48, 32]).data.toList ++ (ByteArray.mk #[109, 97, 116, 101, 114, 105, 97, 108]).data.toList) else (bif a.snd == ↑4 then ((ByteArray.mk #[49, 45, 48, 32]).data.toList ++ (ByteArray.mk #[99, 108, 111, 99, 107]).data.toList) else (bif a.snd == ↑5 then ((ByteArray.mk #[49, 45, 48, 32]).data.toList ++ (ByteArray.mk #[114, 101, 112, 101, 116, 105, 116, 105, 111, 110]).data.toList) else (bif a.snd == ↑6 then ((ByteArray.mk #[49, 45, 48, 32]).data.toList ++ (ByteArray.mk #[107, 105, 110, 103]).data.toList) else (bif a.snd == ↑7 then ((ByteArray.mk #[49, 45, 48, 32]).data.toList ++ (ByteArray.mk #[99, 104, 101, 99, 107, 115]).data.toList) else ((ByteArray.mk #[49, 45, 48, 32]).data.toList ++ (ByteArray.mk #[108, 97, 115, 116]).data.toList))))))))) else (bif a.fst == ↑2 then (bif a.snd == ↑0 then ((ByteArray.mk #[48, 45, 49, 32]).data.toList ++ (ByteArray.mk #[63]).data.toList) else (bif a.snd == ↑1 then ((ByteArray.mk #[48, 45, 49, 32]).data.toList ++ (ByteArray.mk #[109, 97, 116, 101]).data.toList) else (bif a.snd == ↑2 then ((ByteArray.mk #[48, 45, 49, 32]).data.toList ++ (ByteArray.mk #[115, 116, 97, 108, 101, 109, 97, 116, 101]).data.toList) else (bif a.snd == ↑3 then ((ByteArray.mk #[48, 45, 49, 32]).data.toList ++ (ByteArray.mk #[109, 97, 116, 101, 114, 105, 97, 108]).data.toList) else (bif a.snd == ↑4 then ((ByteArray.mk #[48, 45, 49, 32]).data.toList ++ (ByteArray.mk #[99, 108, 111, 99, 107]).data.toList) else (bif a.snd == ↑5 then ((ByteArray.mk #[48, 45, 49, 32]).data.toList ++ (ByteArray.mk #[114, 101, 112, 101, 116, 105, 116, 105, 111, 110]).data.toList) else (bif a.snd == ↑6 then ((ByteArray.mk #[48, 45, 49, 32]).data.toList ++ (ByteArray.mk #[107, 105, 110, 103]).data.toList) else (bif a.snd == ↑7 then ((ByteArray.mk #[48, 45, 49, 32]).data.toList ++ (ByteArray.mk #[99, 104, 101, 99, 107, 115]).data.toList) else ((ByteArray.mk #[48, 45, 49, 32]).data.toList ++ (ByteArray.mk #[108, 97, 115, 116]).data.toList))))))))) else (bif a.snd == ↑0 then ((ByteArray.mk #[49, 47, 50, 32]).data.toList ++ (ByteArray.mk #[63]).data.toList) else (bif a.snd == ↑1 then ((ByteArray.mk #[49, 47, 50, 32]).data.toList ++ (ByteArray.mk #[109, 97, 116, 101]).data.toList) else (bif a.snd == ↑2 then ((ByteArray.mk #[49, 47, 50, 32]).data.toList ++ (ByteArray.mk #[115, 116, 97, 108, 101, 109, 97, 116, 101]).data.toList) else (bif a.snd == ↑3 then ((ByteArray.mk #[49, 47, 50, 32]).data.toList ++ (ByteArray.mk #[109, 97, 116, 101, 114, 105, 97, 108]).data.toList) else (bif a.snd == ↑4 then ((ByteArray.mk #[49, 47, 50, 32]).data.toList ++ (ByteArray.mk #[99, 108, 111, 99, 107]).data.toList) else (bif a.snd == ↑5 then ((ByteArray.mk #[49, 47, 50, 32]).data.toList ++ (ByteArray.mk #[114, 101, 112, 101, 116, 105, 116, 105, 111, 110]).data.toList) else (bif a.snd == ↑6 then ((ByteArray.mk #[49, 47, 50, 32]).data.toList ++ (ByteArray.mk #[107, 105, 110, 103]).data.toList) else (bif a.snd == ↑7 then ((ByteArray.mk #[49, 47, 50, 32]).data.toList ++ (ByteArray.mk #[99, 104, 101, 99, 107, 115]).data.toList) else ((ByteArray.mk #[49, 47, 50, 32]).data.toList ++ (ByteArray.mk #[108, 97, 115, 116]).data.toList)))))))))))))))
noncomputable def ok30 (a : (Int × Int)) : Bool := (bif decide (wr .i64 a.fst ≥ 4) then true else (bif a.fst == 0 then true else (bif decide (wr .i64 a.snd ≥ 9) then (decide (0 ≤ a.fst) && decide (a.fst < ↑4) && (bif a.fst == ↑0 then (decide (2 ≤ 1073741824) && true) else (bif a.fst == ↑1 then (decide (5 ≤ 1073741824) && true) else (bif a.fst == ↑2 then (decide (5 ≤ 1073741824) && true) else (a.fst == ↑3 && (decide (5 ≤ 1073741824) && true)))))) else (decide (0 ≤ a.fst) && decide (a.fst < ↑4) && (bif a.fst == ↑0 then (decide (0 ≤ a.snd) && decide (a.snd < ↑9) && (bif a.snd == ↑0 then (decide (2 ≤ 1073741824) && true) else (bif a.snd == ↑1 then (decide (5 ≤ 1073741824) && true) else (bif a.snd == ↑2 then (decide (10 ≤ 1073741824) && true) else (bif a.snd == ↑3 then (decide (9 ≤ 1073741824) && true) else (bif a.snd == ↑4 then (decide (6 ≤ 1073741824) && true) else (bif a.snd == ↑5 then (decide (11 ≤ 1073741824) && true) else (bif a.snd == ↑6 then (decide (5 ≤ 1073741824) && true) else (bif a.snd == ↑7 then (decide (7 ≤ 1073741824) && true) else (a.snd == ↑8 && (decide (5 ≤ 1073741824) && true))))))))))) else (bif a.fst == ↑1 then (decide (0 ≤ a.snd) && decide (a.snd < ↑9) && (bif a.snd == ↑0 then (decide (5 ≤ 1073741824) && true) else (bif a.snd == ↑1 then (decide (8 ≤ 1073741824) && true) else (bif a.snd == ↑2 then (decide (13 ≤ 1073741824) && true) else (bif a.snd == ↑3 then (decide (12 ≤ 1073741824) && true) else (bif a.snd == ↑4 then (decide (9 ≤ 1073741824) && true) else (bif a.snd == ↑5 then (decide (14 ≤ 1073741824) && true) else (bif a.snd == ↑6 then (decide (8 ≤ 1073741824) && true) else (bif a.snd == ↑7 then (decide (10 ≤ 1073741824) && true) else (a.snd == ↑8 && (decide (8 ≤ 1073741824) && true))))))))))) else (bif a.fst == ↑2 then (decide (0 ≤ a.snd) && decide (a.snd < ↑9) && (bif a.snd == ↑0 then (decide (5 ≤ 1073741824) && true) else (bif a.snd == ↑1 then (decide (8 ≤ 1073741824) && true) else (bif a.snd == ↑2 then (decide (13 ≤ 1073741824) && true) else (bif a.snd == ↑3 then (decide (12 ≤ 1073741824) && true) else (bif a.snd == ↑4 then (decide (9 ≤ 1073741824) && true) else (bif a.snd == ↑5 then (decide (14 ≤ 1073741824) && true) else (bif a.snd == ↑6 then (decide (8 ≤ 1073741824) && true) else (bif a.snd == ↑7 then (decide (10 ≤ 1073741824) && true) else (a.snd == ↑8 && (decide (8 ≤ 1073741824) && true))))))))))) else (a.fst == ↑3 && (decide (0 ≤ a.snd) && decide (a.snd < ↑9) && (bif a.snd == ↑0 then (decide (5 ≤ 1073741824) && true) else (bif a.snd == ↑1 then (decide (8 ≤ 1073741824) && true) else (bif a.snd == ↑2 then (decide (13 ≤ 1073741824) && true) else (bif a.snd == ↑3 then (decide (12 ≤ 1073741824) && true) else (bif a.snd == ↑4 then (decide (9 ≤ 1073741824) && true) else (bif a.snd == ↑5 then (decide (14 ≤ 1073741824) && true) else (bif a.snd == ↑6 then (decide (8 ≤ 1073741824) && true) else (bif a.snd == ↑7 then (decide (10 ≤ 1073741824) && true) else (a.snd == ↑8 && (decide (8 ≤ 1073741824) && true)))))))))))))))))))
theorem E30 (a : (Int × Int)) : evPure B30 14 30 [(dR .u8 .u8).arg a] = (let z1 := (ByteArray.mk #[49, 45, 48, 32]); let z2 := (ByteArray.mk #[48, 45, 49, 32]); let z3 := (ByteArray.mk #[49, 47, 50, 32]); let z4 := (ByteArray.mk #[114, 101, 112, 101, 116, 105, 116, 105, 111, 110]); let z5 := (decide (5 ≤ 1073741824)); let z6 := (decide (8 ≤ 1073741824)); let z7 := (ByteArray.mk #[42]); let z8 := (ByteArray.mk #[115, 116, 97, 108, 101, 109, 97, 116, 101]); let z9 := (ByteArray.mk #[109, 97, 116, 101, 114, 105, 97, 108]); let z10 := (ByteArray.mk #[63]); let z11 := (ByteArray.mk #[99, 104, 101, 99, 107, 115]); let z12 := (ByteArray.mk #[99, 108, 111, 99, 107]); let z13 := (ByteArray.mk #[107, 105, 110, 103]); let z14 := (ByteArray.mk #[109, 97, 116, 101]); let z15 := (ByteArray.mk #[108, 97, 115, 116]); let z16 := (Tr.br (decide (2 ≤ 1073741824)) (Tr.ret (AV.str (z7.data.toList ++ z10.data.toList))) Tr.fail); let z17 := (Tr.br z5 (Tr.ret (AV.str (z1.data.toList ++ z10.data.toList))) Tr.fail); let z18 := (Tr.br z5 (Tr.ret (AV.str (z2.data.toList ++ z10.data.toList))) Tr.fail); let z19 := (Tr.br z5 (Tr.ret (AV.str (z3.data.toList ++ z10.data.toList))) Tr.fail); let z20 := (decide (10 ≤ 1073741824)); let z21 := (decide (9 ≤ 1073741824)); Tr.br (decide (wr .i64 a.fst ≥ 4)) (Tr.ret (AV.str z10.data.toList)) (Tr.br (a.fst == 0) (Tr.ret (AV.str z7.data.toList)) (Tr.br (decide (wr .i64 a.snd ≥ 9)) (Tr.br (decide (0 ≤ a.fst) && decide (a.fst < ↑4)) (Tr.br (a.fst == ↑0) z16 (Tr.br (a.fst == ↑1) z17 (Tr.br (a.fst == ↑2) z18 (Tr.br (a.fst == ↑3) z19 Tr.fail)))) Tr.fail) (Tr.br (decide (0 ≤ a.fst) && decide (a.fst < ↑4)) (Tr.br (a.fst == ↑0) (Tr.br (decide (0 ≤ a.snd) && decide (a.snd < ↑9)) (Tr.br (a.snd == ↑0) z16 (Tr.br (a.snd == ↑1) (Tr.br z5 (Tr.ret (AV.str (z7.data.toList ++ z14.data.toList))) Tr.fail) (Tr.br (a.snd == ↑2) (Tr.br z20 (Tr.ret (AV.str (z7.data.toList ++ z8.data.toList))) Tr.fail) (Tr.br (a.snd == ↑3) (Tr.br z21 (Tr.ret (AV.str (z7.data.toList ++ z9.data.toList))) Tr.fail) (Tr.br (a.snd == ↑4) (Tr.br (decide (6 ≤ 1073741824)) (Tr.ret (AV.str (z7.data.toList ++ z12.data.toList))) Tr.fail) (Tr.br (a.snd == ↑5) (Tr.br (decide (11 ≤ 1073741824)) (Tr.ret (AV.str (z7.data.toList ++ z4.data.toList))) Tr.fail) (Tr.br (a.snd == ↑6) (Tr.br z5 (Tr.ret (AV.str (z7.data.toList ++ z13.data.toList))) Tr.fail) (Tr.br (a.snd == ↑7) (Tr.br (decide (7 ≤ 1073741824)) (Tr.ret (AV.str (z7.data.toList ++ z11.data.toList))) Tr.fail) (Tr.br (a.snd == ↑8) (Tr.br z5 (Tr.ret (AV.str (z7.data.toList ++ z15.data.toList))) Tr.fail) Tr.fail))))))))) Tr.fail) (Tr.br (a.fst == ↑1) (Tr.br (decide (0 ≤ a.snd) && decide (a.snd < ↑9)) (Tr.br (a.snd == ↑0) z17 (Tr.br (a.snd == ↑1) (Tr.br z6 (Tr.ret (AV.str (z1.data.toList ++ z14.data.toList))) Tr.fail) (Tr.br (a.snd == ↑2) (Tr.br (decide (13 ≤ 1073741824)) (Tr.ret (AV.str (z1.data.toList ++ z8.data.toList))) Tr.fail) (Tr.br (a.snd == ↑3) (Tr.br (decide (12 ≤ 1073741824)) (Tr.ret (AV.str (z1.data.toList ++ z9.data.toList))) Tr.fail) (Tr.br (a.snd == ↑4) (Tr.br z21 (Tr.ret (AV.str (z1.data.toList ++ z12.data.toList))) Tr.fail) (Tr.br (a.snd == ↑5) (Tr.br (decide (14 ≤ 1073741824)) (Tr.ret (AV.str (z1.data.toList ++ z4.data.toList))) Tr.fail) (Tr.br (a.snd == ↑6) (Tr.br z6 (Tr.ret (AV.str (z1.data.toList ++ z13.data.toList))) Tr.fail) (Tr.br (a.snd == ↑7) (Tr.br z20 (Tr.ret (AV.str (z1.data.toList ++ z11.data.toList))) Tr.fail) (Tr.br (a.snd == ↑8) (Tr.br z6 (Tr.ret (AV.str (z1.data.toList ++ z15.data.toList))) Tr.fail) Tr.fail))))))))) Tr.fail) (Tr.br (a.fst == ↑2) (Tr.br (decide (0 ≤ a.snd) && decide (a.snd < ↑9)) (Tr.br (a.snd == ↑0) z18 (Tr.br (a.snd == ↑1) (Tr.br z6 (Tr.ret (AV.str (z2.data.toList ++ z14.data.toList))) Tr.fail) (Tr.br (a.snd == ↑2) (Tr.br (decide (13 ≤ 1073741824)) (Tr.ret (AV.str (z2.data.toList ++ z8.data.toList))) Tr.fail) (Tr.br (a.snd == ↑3) (Tr.br (decide (12 ≤ 1073741824)) (Tr.ret (AV.str (z2.data.toList ++ z9.data.toList))) Tr.fail) (Tr.br (a.snd == ↑4) (Tr.br z21 (Tr.ret (AV.str (z2.data.toList ++ z12.data.toList))) Tr.fail) (Tr.br (a.snd == ↑5) (Tr.br (decide (14 ≤ 1073741824)) (Tr.ret (AV.str (z2.data.toList ++ z4.data.toList))) Tr.fail) (Tr.br (a.snd == ↑6) (Tr.br z6 (Tr.ret (AV.str (z2.data.toList ++ z13.data.toList))) Tr.fail) (Tr.br (a.snd == ↑7) (Tr.br z20 (Tr.ret (AV.str (z2.data.toList ++ z11.data.toList))) Tr.fail) (Tr.br (a.snd == ↑8) (Tr.br z6 (Tr.ret (AV.str (z2.data.toList ++ z15.data.toList))) Tr.fail) Tr.fail))))))))) Tr.fail) (Tr.br (a.fst == ↑3) (Tr.br (decide (0 ≤ a.snd) && decide (a.snd < ↑9)) (Tr.br (a.snd == ↑0) z19 (Tr.br (a.snd == ↑1) (Tr.br z6 (Tr.ret (AV.str (z3.data.toList ++ z14.data.toList))) Tr.fail) (Tr.br (a.snd == ↑2) (Tr.br (decide (13 ≤ 1073741824)) (Tr.ret (AV.str (z3.data.toList ++ z8.data.toList))) Tr.fail) (Tr.br (a.snd == ↑3) (Tr.br (decide (12 ≤ 1073741824)) (Tr.ret (AV.str (z3.data.toList ++ z9.data.toList))) Tr.fail) (Tr.br (a.snd == ↑4) (Tr.br z21 (Tr.ret (AV.str (z3.data.toList ++ z12.data.toList))) Tr.fail) (Tr.br (a.snd == ↑5) (Tr.br (decide (14 ≤ 1073741824)) (Tr.ret (AV.str (z3.data.toList ++ z4.data.toList))) Tr.fail) (Tr.br (a.snd == ↑6) (Tr.br z6 (Tr.ret (AV.str (z3.data.toList ++ z13.data.toList))) Tr.fail) (Tr.br (a.snd == ↑7) (Tr.br z20 (Tr.ret (AV.str (z3.data.toList ++ z11.data.toList))) Tr.fail) (Tr.br (a.snd == ↑8) (Tr.br z6 (Tr.ret (AV.str (z3.data.toList ++ z15.data.toList))) Tr.fail) Tr.fail))))))))) Tr.fail) Tr.fail)))) Tr.fail)))) := by kernel_rfl
theorem P30 (a : (Int × Int)) (h : ok30 a = true) : PS Pz 30 [(dR .u8 .u8).arg a] (dS.res (N30 a)) := ps_gotR hB30 (E30 a) (gr_br (gr_ret rfl) (gr_br (gr_ret rfl) (gr_br (gr_guard (gr_br (gr_guard (gr_ret rfl)) (gr_br (gr_guard (gr_ret rfl)) (gr_br (gr_guard (gr_ret rfl)) (gr_guard (gr_guard (gr_ret rfl))))))) (gr_guard (gr_br (gr_guard (gr_br (gr_guard (gr_ret rfl)) (gr_br (gr_guard (gr_ret rfl)) (gr_br (gr_guard (gr_ret rfl)) (gr_br (gr_guard (gr_ret rfl)) (gr_br (gr_guard (gr_ret rfl)) (gr_br (gr_guard (gr_ret rfl)) (gr_br (gr_guard (gr_ret rfl)) (gr_br (gr_guard (gr_ret rfl)) (gr_guard (gr_guard (gr_ret rfl)))))))))))) (gr_br (gr_guard (gr_br (gr_guard (gr_ret rfl)) (gr_br (gr_guard (gr_ret rfl)) (gr_br (gr_guard (gr_ret rfl)) (gr_br (gr_guard (gr_ret rfl)) (gr_br (gr_guard (gr_ret rfl)) (gr_br (gr_guard (gr_ret rfl)) (gr_br (gr_guard (gr_ret rfl)) (gr_br (gr_guard (gr_ret rfl)) (gr_guard (gr_guard (gr_ret rfl)))))))))))) (gr_br (gr_guard (gr_br (gr_guard (gr_ret rfl)) (gr_br (gr_guard (gr_ret rfl)) (gr_br (gr_guard (gr_ret rfl)) (gr_br (gr_guard (gr_ret rfl)) (gr_br (gr_guard (gr_ret rfl)) (gr_br (gr_guard (gr_ret rfl)) (gr_br (gr_guard (gr_ret rfl)) (gr_br (gr_guard (gr_ret rfl)) (gr_guard (gr_guard (gr_ret rfl)))))))))))) (gr_guard (gr_guard (gr_br (gr_guard (gr_ret rfl)) (gr_br (gr_guard (gr_ret rfl)) (gr_br (gr_guard (gr_ret rfl)) (gr_br (gr_guard (gr_ret rfl)) (gr_br (gr_guard (gr_ret rfl)) (gr_br (gr_guard (gr_ret rfl)) (gr_br (gr_guard (gr_ret rfl)) (gr_br (gr_guard (gr_ret rfl)) (gr_guard (gr_guard (gr_ret rfl)))))))))))))))))))) h
noncomputable def G30 : List AV → Tr AV := g1 (dR .u8 .u8) (fun a => sure Pz 30 [(dR .u8 .u8).arg a] (dS.res (N30 a)))
theorem s30 : Sound Pz 30 G30 := sound1 (fun _ => at_sure)
end Kz
end
section
namespace Kz
open Go Go.RowKit Go.Proofs
set_option maxRecDepth 100000
set_option maxHeartbeats 4000000
noncomputable def K65 : List (Nat × List (Nat × List Nat)) := [(65, [(0, (3 :: 4 :: 5 :: (rn 7 25 []))), (1, (0 :: 1 :: 3 :: 4 :: 5 :: (rn 8 24 []))), (2, (0 :: 1 :: 3 :: 4 :: 5 :: (rn 9 23 []))), (3, (0 :: 1 :: 3 :: 4 :: 5 :: (rn 9 7 (rn 17 15 [])))), (4, (0 :: 1 :: 3 :: 4 :: 5 :: (rn 9 23 []))), (5, (0 :: 1 :: 3 :: 4 :: 5 :: (rn 9 23 []))), (6, (rn 0 6 (rn 7 25 [])))])]
noncomputable def B65_1 : Base := baseOf Pz (fun f i => lkK f i K65) [] [] []
theorem hB65_1 : BOk B65_1 := base_ok named_z trivial trivial trivial
noncomputable def S65_1 (p1 : (List Int)) (x : (Int × Pos)) : St := St.mk (AV.any :: AV.any :: AV.list (ET.i .i64) p1 Tk.arg :: (an 3 (AV.ptr 0 0 :: AV.ptr 1 0 :: AV.int .i64 x.fst :: (an 23 [])))) (Hp.mk [[AV.int .u8 0, AV.ints .u8 64 (li (List.replicate 64 0)), AV.u64 0, AV.ints .u8 12 (li [0, 0, 0, 0, 0, 0, 0, 0, 0, 0, 0, 0]), AV.int .u8 0, AV.ints .i8 4 (li [0, 0, 0, 0]), AV.int .i8 0, AV.ints .u8 2 (li [0, 0]), AV.int .i64 0, AV.int .i64 0], (pc x.snd [])] [] [] 0 0 0)
noncomputable def O65_1 (p1 : (List Int)) : (Int × Bool × Pos) → Out := fun y => .exit 0 (St.mk (AV.any :: AV.any :: AV.list (ET.i .i64) p1 Tk.arg :: (an 3 (AV.ptr 0 0 :: AV.ptr 1 0 :: AV.int .i64 y.fst :: (an 7 (AV.bool y.snd.fst :: (an 15 [])))))) (Hp.mk [[AV.int .u8 0, AV.ints .u8 64 (li (List.replicate 64 0)), AV.u64 0, AV.ints .u8 12 (li [0, 0, 0, 0, 0, 0, 0, 0, 0, 0, 0, 0]), AV.int .u8 0, AV.ints .i8 4 (li [0, 0, 0, 0]), AV.int .i8 0, AV.ints .u8 2 (li [0, 0]), AV.int .i64 0, AV.int .i64 0], (pc y.snd.snd [])] [] [] 0 0 0))
noncomputable def st65_1 (p1 : (List Int)) (x : (Int × Pos)) : Stp (Int × Pos) ((Int × Bool × Pos)) := (bif decide (wr .i64 (x.fst + 1) < Int.ofNat p1.length) then (Stp.go (wr .i64 (x.fst + 2), Pos.mk x.snd.variant (x.snd.board.set (scale 1 (p1.getD x.fst.toNat default)).toNat (wr .u8 (p1.getD (wr .i64 (x.fst + 1)).toNat default))) x.snd.promoted x.snd.pockets x.snd.turn x.snd.rooks x.snd.passing x.snd.checks x.snd.half x.snd.full)) else (Stp.out ((x.fst, decide (wr .i64 (x.fst + 1) < Int.ofNat p1.length), x.snd))))
noncomputable def okL65_1 (p1 : (List Int)) (x : (Int × Pos)) : Bool := (bif decide (wr .i64 (x.fst + 1) < Int.ofNat p1.length) then (decide (0 ≤ x.fst) && decide (x.fst < Int.ofNat p1.length) && (decide (0 ≤ wr .i64 (x.fst + 1)) && decide (wr .i64 (x.fst + 1) < Int.ofNat p1.length) && (decide (0 ≤ p1.getD x.fst.toNat default) && decide (p1.getD x.fst.toNat default < Int.ofNat 64) && true))) else true)
noncomputable def lp65_1 (p1 : (List Int)) (x : (Int × Pos)) : Option ((Int × Bool × Pos)) := itl (fun x => bif okL65_1 p1 x then st65_1 p1 x else .bad) many x
theorem E65_1 (p1 : (List Int)) (x : (Int × Pos)) : evCd B65_1 12 65 (bodL Pz 65 3) (S65_1 p1 x) = (let z1 := [AV.int .u8 0, AV.ints .u8 64 (li (List.replicate 64 0)), AV.u64 0, AV.ints .u8 12 (li [0, 0, 0, 0, 0, 0, 0, 0, 0, 0, 0, 0]), AV.int .u8 0, AV.ints .i8 4 (li [0, 0, 0, 0]), AV.int .i8 0, AV.ints .u8 2 (li [0, 0]), AV.int .i64 0, AV.int .i64 0]; let z2 := (wr .i64 (x.fst + 1) < Int.ofNat p1.length); Tr.br (decide z2) (Tr.br (decide (0 ≤ x.fst) && decide (x.fst < Int.ofNat p1.length)) (Tr.br (decide (0 ≤ wr .i64 (x.fst + 1)) && decide z2) (Tr.br (decide (0 ≤ p1.getD x.fst.toNat default) && decide (p1.getD x.fst.toNat default < Int.ofNat 64)) (Tr.ret (Out.norm (St.mk (AV.any :: AV.any :: AV.list (ET.i .i64) p1 Tk.arg :: (an 3 (AV.ptr 0 0 :: AV.ptr 1 0 :: AV.int .i64 (wr .i64 (x.fst + 2)) :: (an 23 [])))) (Hp.mk [z1, [AV.int .u8 x.snd.variant, AV.ints .u8 64 (x.snd.board.set (scale 1 (p1.getD x.fst.toNat default)).toNat (wr .u8 (p1.getD (wr .i64 (x.fst + 1)).toNat default))), AV.u64 x.snd.promoted, AV.ints .u8 12 x.snd.pockets, AV.int .u8 x.snd.turn, AV.ints .i8 4 x.snd.rooks, AV.int .i8 x.snd.passing, AV.ints .u8 2 x.snd.checks, AV.int .i64 x.snd.half, AV.int .i64 x.snd.full]] [] [] 0 0 0)))) Tr.fail) Tr.fail) Tr.fail) (Tr.ret (Out.exit 0 (St.mk (AV.any :: AV.any :: AV.list (ET.i .i64) p1 Tk.arg :: (an 3 (AV.ptr 0 0 :: AV.ptr 1 0 :: AV.int .i64 x.fst :: (an 7 (AV.bool (decide z2) :: (an 15 [])))))) (Hp.mk [z1, (pc x.snd [])] [] [] 0 0 0))))) := by kernel_rfl
theorem L65_1 (p1 : (List Int)) (x : (Int × Pos)) (r : (Int × Bool × Pos)) (h : lp65_1 p1 x = some r) : LSpec Pz (bodL Pz 65 3) (S65_1 p1 x) (O65_1 p1 r) := LSpec.itd (S := S65_1 p1) (O := O65_1 p1) (ok := okL65_1 p1) (st := st65_1 p1) hB65_1 (fun x => gr_eq (E65_1 p1 x) (gr_br (gr_guard (gr_guard (gr_guard (gr_ret (rl_go (wk_nrm (ks := (0 :: 1 :: 3 :: 4 :: 5 :: (rn 9 23 []))) (gs := [2, 8]) (b := true) rfl (by kernel_rfl))))))) (gr_ret (rl_exit rfl (wk_nrm (ks := (0 :: 1 :: 3 :: 4 :: 5 :: (rn 9 7 (rn 17 15 [])))) (gs := []) (b := false) rfl (by kernel_rfl)))))) many x r h
noncomputable def F65_1 : Code → St → Tr Out := sureL Pz (fun s => O65_1 (tL (ET.i .i64) (tT s 2)) ((lp65_1 (tL (ET.i .i64) (tT s 2)) ((tI (tT s 8)), (Kz.Pos.mk (tI (tH s 1 0)) (tN (tH s 1 1)) (tU (tH s 1 2)) (tN (tH s 1 3)) (tI (tH s 1 4)) (tN (tH s 1 5)) (tI (tH s 1 6)) (tN (tH s 1 7)) (tI (tH s 1 8)) (tI (tH s 1 9))))).getD default))
theorem sF65_1 : ∀ b, LSound Pz b (F65_1 b) := sureL_sound
noncomputable def B65 : Base := baseOf Pz (fun f i => lkK f i K65) [] [(65, 3, F65_1)] []
theorem hB65 : BOk B65 := base_ok named_z trivial ⟨sF65_1, trivial⟩ trivial
noncomputable def N65 (a : Int) (b : Int) (c : List Int) : Pos := ⟨(((lp65_1 c (0, Pos.mk 0 (li (List.replicate 64 0)) 0 (li [0, 0, 0, 0, 0, 0, 0, 0, 0, 0, 0, 0]) a (li [0, 0, 0, 0]) (-1) (li [0, 0]) b 1)).getD default).snd.snd.variant), (((lp65_1 c (0, Pos.mk 0 (li (List.replicate 64 0)) 0 (li [0, 0, 0, 0, 0, 0, 0, 0, 0, 0, 0, 0]) a (li [0, 0, 0, 0]) (-1) (li [0, 0]) b 1)).getD default).snd.snd.board), (((lp65_1 c (0, Pos.mk 0 (li (List.replicate 64 0)) 0 (li [0, 0, 0, 0, 0, 0, 0, 0, 0, 0, 0, 0]) a (li [0, 0, 0, 0]) (-1) (li [0, 0]) b 1)).getD default).snd.snd.promoted), (((lp65_1 c (0, Pos.mk 0 (li (List.replicate 64 0)) 0 (li [0, 0, 0, 0, 0, 0, 0, 0, 0, 0, 0, 0]) a (li [0, 0, 0, 0]) (-1) (li [0, 0]) b 1)).getD default).snd.snd.pockets), (((lp65_1 c (0, Pos.mk 0 (li (List.replicate 64 0)) 0 (li [0, 0, 0, 0, 0, 0, 0, 0, 0, 0, 0, 0]) a (li [0, 0, 0, 0]) (-1) (li [0, 0]) b 1)).getD default).snd.snd.turn), (((lp65_1 c (0, Pos.mk 0 (li (List.replicate 64 0)) 0 (li [0, 0, 0, 0, 0, 0, 0, 0, 0, 0, 0, 0]) a (li [0, 0, 0, 0]) (-1) (li [0, 0]) b 1)).getD default).snd.snd.rooks), (((lp65_1 c (0, Pos.mk 0 (li (List.replicate 64 0)) 0 (li [0, 0, 0, 0, 0, 0, 0, 0, 0, 0, 0, 0]) a (li [0, 0, 0, 0]) (-1) (li [0, 0]) b 1)).getD default).snd.snd.passing), (((lp65_1 c (0, Pos.mk 0 (li (List.replicate 64 0)) 0 (li [0, 0, 0, 0, 0, 0, 0, 0, 0, 0, 0, 0]) a (li [0, 0, 0, 0]) (-1) (li [0, 0]) b 1)).getD default).snd.snd.checks), (((lp65_1 c (0, Pos.mk 0 (li (List.replicate 64 0)) 0 (li [0, 0, 0, 0, 0, 0, 0, 0, 0, 0, 0, 0]) a (li [0, 0, 0, 0]) (-1) (li [0, 0]) b 1)).getD default).snd.snd.half), (((lp65_1 c (0, Pos.mk 0 (li (List.replicate 64 0)) 0 (li [0, 0, 0, 0, 0, 0, 0, 0, 0, 0, 0, 0]) a (li [0, 0, 0, 0]) (-1) (li [0, 0]) b 1)).getD default).snd.snd.full)⟩
noncomputable def ok65 (a : Int) (b : Int) (c : List Int) : Bool := ((lp65_1 c (0, Pos.mk 0 (li (List.replicate 64 0)) 0 (li [0, 0, 0, 0, 0, 0, 0, 0, 0, 0, 0, 0]) a (li [0, 0, 0, 0]) (-1) (li [0, 0]) b 1)).isSome && true)
theorem E65 (a : Int) (b : Int) (c : List Int) : evPure B65 14 65 [.int .u8 a, .int .i64 b, .list (.i .i64) c .arg] = Tr.br (isLS Pz (bodL Pz 65 3) (St.mk (AV.any :: AV.any :: AV.list (ET.i .i64) c Tk.arg :: (an 3 (AV.ptr 0 0 :: AV.ptr 1 0 :: AV.cint .i64 0 :: (an 23 [])))) (Hp.mk [[AV.cint .u8 0, AV.ints .u8 64 (li (List.replicate 64 0)), AV.u64 0, AV.ints .u8 12 (li [0, 0, 0, 0, 0, 0, 0, 0, 0, 0, 0, 0]), AV.cint .u8 0, AV.ints .i8 4 (li [0, 0, 0, 0]), AV.cint .i8 0, AV.ints .u8 2 (li [0, 0]), AV.cint .i64 0, AV.cint .i64 0], [AV.cint .u8 0, AV.ints .u8 64 (li (List.replicate 64 0)), AV.u64 0, AV.ints .u8 12 (li [0, 0, 0, 0, 0, 0, 0, 0, 0, 0, 0, 0]), AV.int .u8 a, AV.ints .i8 4 (li [0, 0, 0, 0]), AV.cint .i8 (-1), AV.ints .u8 2 (li [0, 0]), AV.int .i64 b, AV.cint .i64 1]] [] [] 0 0 0)) (O65_1 c ((lp65_1 c (0, Pos.mk 0 (li (List.replicate 64 0)) 0 (li [0, 0, 0, 0, 0, 0, 0, 0, 0, 0, 0, 0]) a (li [0, 0, 0, 0]) (-1) (li [0, 0]) b 1)).getD default))) (Tr.ret (AV.agg (pc ((lp65_1 c (0, Pos.mk 0 (li (List.replicate 64 0)) 0 (li [0, 0, 0, 0, 0, 0, 0, 0, 0, 0, 0, 0]) a (li [0, 0, 0, 0]) (-1) (li [0, 0]) b 1)).getD default).snd.snd []))) Tr.fail := by kernel_rfl
theorem P65 (a : Int) (b : Int) (c : List Int) (h : ok65 a b c = true) : PS Pz 65 [.int .u8 a, .int .i64 b, .list (.i .i64) c .arg] (dPos.res (N65 a b c)) := ps_gotR hB65 (E65 a b c) (gr_loop (fun h => L65_1 (c) ((0, Pos.mk 0 (li (List.replicate 64 0)) 0 (li [0, 0, 0, 0, 0, 0, 0, 0, 0, 0, 0, 0]) a (li [0, 0, 0, 0]) (-1) (li [0, 0]) b 1)) _ (some_getD h)) (wk_nrm (ks := (0 :: 1 :: 3 :: 4 :: 5 :: (rn 9 23 []))) (gs := [2, 8]) (b := true) rfl (by kernel_rfl)) (gr_ret rfl)) h
noncomputable def G65 : List AV → Tr AV := g3 (dI .u8) (dI .i64) (dL (.i .i64)) (fun a b c => sure Pz 65 [.int .u8 a, .int .i64 b, .list (.i .i64) c .arg] (dPos.res (N65 a b c)))
theorem s65 : Sound Pz 65 G65 := sound3 (fun _ _ _ => at_sure)
end Kz
end
section
namespace Kz
open Go Go.RowKit Go.Proofs
set_option maxRecDepth 100000
set_option maxHeartbeats 4000000
noncomputable def K29 : List (Nat × List (Nat × List Nat)) := [(29, [(0, (rn 0 29 [33, 34, 37, 38, 41, 42, 45, 46, 49])), (1, (0 :: (rn 3 26 [33, 34, 37, 38, 41, 42, 45, 46, 49]))), (2, (0 :: (rn 4 25 [33, 34, 37, 38, 41, 42, 45, 46, 49]))), (3, (0 :: (rn 5 24 [33, 34, 37, 38, 41, 42, 45, 46, 49]))), (4, (0 :: (rn 6 23 [33, 34, 37, 38, 41, 42, 45, 46, 49]))), (5, (0 :: (rn 7 22 [33, 34, 37, 38, 41, 42, 45, 46, 49]))), (6, (rn 1 49 []))])]
noncomputable def Bg29 (n32 : Pos → Int × Int) (n30 : Int × Int → List UInt8) : Base := baseOf Pz (fun f i => lkK f i K29) [(30, g1 (dR .u8 .u8) (fun a => sure Pz 30 [(dR .u8 .u8).arg a] (dS.res (n30 a)))), (32, g1 dPos (fun a => sure Pz 32 [Pos.av a] ((dR .u8 .u8).res (n32 a)))), (40, G40), (65, G65)] [] []
noncomputable def B29 : Base := Bg29 N32 N30
theorem hB29 : BOk B29 := base_ok named_z ⟨s30, s32, s40, s65, trivial⟩ trivial trivial
noncomputable def N29  : Bool := (bif (N40 0).snd then (bif N30 (N32 (Pos.mk (N40 0).fst.variant (li [4, 2, 3, 5, 6, 3, 2, 4, 1, 1, 1, 1, 1, 1, 1, 1, 0, 0, 0, 0, 0, 0, 0, 0, 0, 0, 0, 0, 0, 0, 0, 0, 0, 0, 0, 0, 0, 0, 0, 0, 0, 0, 0, 0, 0, 0, 0, 0, 9, 9, 9, 9, 9, 9, 9, 9, 12, 10, 11, 13, 14, 11, 10, 12]) (N40 0).fst.promoted (li [0, 0, 0, 0, 0, 0, 0, 0, 0, 0, 0, 0]) (N40 0).fst.turn (li [7, 0, 7, 0]) (N40 0).fst.passing (li [0, 0]) (N40 0).fst.half (N40 0).fst.full)) == (ByteArray.mk #[42]).data.toList then (bif N30 (N32 (Pos.mk (N65 1 0 [53, 6, 54, 5, 63, 14]).variant (li [0, 0, 0, 0, 0, 0, 0, 0, 0, 0, 0, 0, 0, 0, 0, 0, 0, 0, 0, 0, 0, 0, 0, 0, 0, 0, 0, 0, 0, 0, 0, 0, 0, 0, 0, 0, 0, 0, 0, 0, 0, 0, 0, 0, 0, 0, 0, 0, 0, 0, 0, 0, 0, 6, 5, 0, 0, 0, 0, 0, 0, 0, 0, 14]) (N65 1 0 [53, 6, 54, 5, 63, 14]).promoted (li [0, 0, 0, 0, 0, 0, 0, 0, 0, 0, 0, 0]) (N65 1 0 [53, 6, 54, 5, 63, 14]).turn (li [0, 0, 0, 0]) (N65 1 0 [53, 6, 54, 5, 63, 14]).passing (li [0, 0]) (N65 1 0 [53, 6, 54, 5, 63, 14]).half (N65 1 0 [53, 6, 54, 5, 63, 14]).full)) == (ByteArray.mk #[49, 45, 48, 32, 109, 97, 116, 101]).data.toList then (bif N30 (N32 (Pos.mk (N65 1 0 [53, 6, 46, 5, 63, 14]).variant (li [0, 0, 0, 0, 0, 0, 0, 0, 0, 0, 0, 0, 0, 0, 0, 0, 0, 0, 0, 0, 0, 0, 0, 0, 0, 0, 0, 0, 0, 0, 0, 0, 0, 0, 0, 0, 0, 0, 0, 0, 0, 0, 0, 0, 0, 0, 5, 0, 0, 0, 0, 0, 0, 6, 0, 0, 0, 0, 0, 0, 0, 0, 0, 14]) (N65 1 0 [53, 6, 46, 5, 63, 14]).promoted (li [0, 0, 0, 0, 0, 0, 0, 0, 0, 0, 0, 0]) (N65 1 0 [53, 6, 46, 5, 63, 14]).turn (li [0, 0, 0, 0]) (N65 1 0 [53, 6, 46, 5, 63, 14]).passing (li [0, 0]) (N65 1 0 [53, 6, 46, 5, 63, 14]).half (N65 1 0 [53, 6, 46, 5, 63, 14]).full)) == (ByteArray.mk #[49, 47, 50, 32, 115, 116, 97, 108, 101, 109, 97, 116, 101]).data.toList then (bif N30 (N32 (Pos.mk (N65 0 0 [0, 6, 2, 3, 56, 14, 61, 11]).variant (li [6, 0, 3, 0, 0, 0, 0, 0, 0, 0, 0, 0, 0, 0, 0, 0, 0, 0, 0, 0, 0, 0, 0, 0, 0, 0, 0, 0, 0, 0, 0, 0, 0, 0, 0, 0, 0, 0, 0, 0, 0, 0, 0, 0, 0, 0, 0, 0, 0, 0, 0, 0, 0, 0, 0, 0, 14, 0, 0, 0, 0, 11, 0, 0]) (N65 0 0 [0, 6, 2, 3, 56, 14, 61, 11]).promoted (li [0, 0, 0, 0, 0, 0, 0, 0, 0, 0, 0, 0]) (N65 0 0 [0, 6, 2, 3, 56, 14, 61, 11]).turn (li [0, 0, 0, 0]) (N65 0 0 [0, 6, 2, 3, 56, 14, 61, 11]).passing (li [0, 0]) (N65 0 0 [0, 6, 2, 3, 56, 14, 61, 11]).half (N65 0 0 [0, 6, 2, 3, 56, 14, 61, 11]).full)) == (ByteArray.mk #[49, 47, 50, 32, 109, 97, 116, 101, 114, 105, 97, 108]).data.toList then (N30 (N32 (Pos.mk (N65 0 150 [0, 6, 1, 4, 56, 14]).variant (li [6, 4, 0, 0, 0, 0, 0, 0, 0, 0, 0, 0, 0, 0, 0, 0, 0, 0, 0, 0, 0, 0, 0, 0, 0, 0, 0, 0, 0, 0, 0, 0, 0, 0, 0, 0, 0, 0, 0, 0, 0, 0, 0, 0, 0, 0, 0, 0, 0, 0, 0, 0, 0, 0, 0, 0, 14, 0, 0, 0, 0, 0, 0, 0]) (N65 0 150 [0, 6, 1, 4, 56, 14]).promoted (li [0, 0, 0, 0, 0, 0, 0, 0, 0, 0, 0, 0]) (N65 0 150 [0, 6, 1, 4, 56, 14]).turn (li [0, 0, 0, 0]) (N65 0 150 [0, 6, 1, 4, 56, 14]).passing (li [0, 0]) (N65 0 150 [0, 6, 1, 4, 56, 14]).half (N65 0 150 [0, 6, 1, 4, 56, 14]).full)) == (ByteArray.mk #[49, 47, 50, 32, 99, 108, 111, 99, 107]).data.toList) else (false)) else (false)) else (false)) else (false)) else (false))
noncomputable def ok29  : Bool := (ok40 (0) && (ok65 (1) (0) ([53, 6, 54, 5, 63, 14]) && (ok32 (Pos.mk (N65 1 0 [53, 6, 54, 5, 63, 14]).variant (li [0, 0, 0, 0, 0, 0, 0, 0, 0, 0, 0, 0, 0, 0, 0, 0, 0, 0, 0, 0, 0, 0, 0, 0, 0, 0, 0, 0, 0, 0, 0, 0, 0, 0, 0, 0, 0, 0, 0, 0, 0, 0, 0, 0, 0, 0, 0, 0, 0, 0, 0, 0, 0, 6, 5, 0, 0, 0, 0, 0, 0, 0, 0, 14]) (N65 1 0 [53, 6, 54, 5, 63, 14]).promoted (li [0, 0, 0, 0, 0, 0, 0, 0, 0, 0, 0, 0]) (N65 1 0 [53, 6, 54, 5, 63, 14]).turn (li [0, 0, 0, 0]) (N65 1 0 [53, 6, 54, 5, 63, 14]).passing (li [0, 0]) (N65 1 0 [53, 6, 54, 5, 63, 14]).half (N65 1 0 [53, 6, 54, 5, 63, 14]).full) && (ok30 (N32 (Pos.mk (N65 1 0 [53, 6, 54, 5, 63, 14]).variant (li [0, 0, 0, 0, 0, 0, 0, 0, 0, 0, 0, 0, 0, 0, 0, 0, 0, 0, 0, 0, 0, 0, 0, 0, 0, 0, 0, 0, 0, 0, 0, 0, 0, 0, 0, 0, 0, 0, 0, 0, 0, 0, 0, 0, 0, 0, 0, 0, 0, 0, 0, 0, 0, 6, 5, 0, 0, 0, 0, 0, 0, 0, 0, 14]) (N65 1 0 [53, 6, 54, 5, 63, 14]).promoted (li [0, 0, 0, 0, 0, 0, 0, 0, 0, 0, 0, 0]) (N65 1 0 [53, 6, 54, 5, 63, 14]).turn (li [0, 0, 0, 0]) (N65 1 0 [53, 6, 54, 5, 63, 14]).passing (li [0, 0]) (N65 1 0 [53, 6, 54, 5, 63, 14]).half (N65 1 0 [53, 6, 54, 5, 63, 14]).full)) && (ok65 (1) (0) ([53, 6, 46, 5, 63, 14]) && (ok32 (Pos.mk (N65 1 0 [53, 6, 46, 5, 63, 14]).variant (li [0, 0, 0, 0, 0, 0, 0, 0, 0, 0, 0, 0, 0, 0, 0, 0, 0, 0, 0, 0, 0, 0, 0, 0, 0, 0, 0, 0, 0, 0, 0, 0, 0, 0, 0, 0, 0, 0, 0, 0, 0, 0, 0, 0, 0, 0, 5, 0, 0, 0, 0, 0, 0, 6, 0, 0, 0, 0, 0, 0, 0, 0, 0, 14]) (N65 1 0 [53, 6, 46, 5, 63, 14]).promoted (li [0, 0, 0, 0, 0, 0, 0, 0, 0, 0, 0, 0]) (N65 1 0 [53, 6, 46, 5, 63, 14]).turn (li [0, 0, 0, 0]) (N65 1 0 [53, 6, 46, 5, 63, 14]).passing (li [0, 0]) (N65 1 0 [53, 6, 46, 5, 63, 14]).half (N65 1 0 [53, 6, 46, 5, 63, 14]).full) && (ok30 (N32 (Pos.mk (N65 1 0 [53, 6, 46, 5, 63, 14]).variant (li [0, 0, 0, 0, 0, 0, 0, 0, 0, 0, 0, 0, 0, 0, 0, 0, 0, 0, 0, 0, 0, 0, 0, 0, 0, 0, 0, 0, 0, 0, 0, 0, 0, 0, 0, 0, 0, 0, 0, 0, 0, 0, 0, 0, 0, 0, 5, 0, 0, 0, 0, 0, 0, 6, 0, 0, 0, 0, 0, 0, 0, 0, 0, 14]) (N65 1 0 [53, 6, 46, 5, 63, 14]).promoted (li [0, 0, 0, 0, 0, 0, 0, 0, 0, 0, 0, 0]) (N65 1 0 [53, 6, 46, 5, 63, 14]).turn (li [0, 0, 0, 0]) (N65 1 0 [53, 6, 46, 5, 63, 14]).passing (li [0, 0]) (N65 1 0 [53, 6, 46, 5, 63, 14]).half (N65 1 0 [53, 6, 46, 5, 63, 14]).full)) && (ok65 (0) (0) ([0, 6, 2, 3, 56, 14, 61, 11]) && (ok32 (Pos.mk (N65 0 0 [0, 6, 2, 3, 56, 14, 61, 11]).variant (li [6, 0, 3, 0, 0, 0, 0, 0, 0, 0, 0, 0, 0, 0, 0, 0, 0, 0, 0, 0, 0, 0, 0, 0, 0, 0, 0, 0, 0, 0, 0, 0, 0, 0, 0, 0, 0, 0, 0, 0, 0, 0, 0, 0, 0, 0, 0, 0, 0, 0, 0, 0, 0, 0, 0, 0, 14, 0, 0, 0, 0, 11, 0, 0]) (N65 0 0 [0, 6, 2, 3, 56, 14, 61, 11]).promoted (li [0, 0, 0, 0, 0, 0, 0, 0, 0, 0, 0, 0]) (N65 0 0 [0, 6, 2, 3, 56, 14, 61, 11]).turn (li [0, 0, 0, 0]) (N65 0 0 [0, 6, 2, 3, 56, 14, 61, 11]).passing (li [0, 0]) (N65 0 0 [0, 6, 2, 3, 56, 14, 61, 11]).half (N65 0 0 [0, 6, 2, 3, 56, 14, 61, 11]).full) && (ok30 (N32 (Pos.mk (N65 0 0 [0, 6, 2, 3, 56, 14, 61, 11]).variant (li [6, 0, 3, 0, 0, 0, 0, 0, 0, 0, 0, 0, 0, 0, 0, 0, 0, 0, 0, 0, 0, 0, 0, 0, 0, 0, 0, 0, 0, 0, 0, 0, 0, 0, 0, 0, 0, 0, 0, 0, 0, 0, 0, 0, 0, 0, 0, 0, 0, 0, 0, 0, 0, 0, 0, 0, 14, 0, 0, 0, 0, 11, 0, 0]) (N65 0 0 [0, 6, 2, 3, 56, 14, 61, 11]).promoted (li [0, 0, 0, 0, 0, 0, 0, 0, 0, 0, 0, 0]) (N65 0 0 [0, 6, 2, 3, 56, 14, 61, 11]).turn (li [0, 0, 0, 0]) (N65 0 0 [0, 6, 2, 3, 56, 14, 61, 11]).passing (li [0, 0]) (N65 0 0 [0, 6, 2, 3, 56, 14, 61, 11]).half (N65 0 0 [0, 6, 2, 3, 56, 14, 61, 11]).full)) && (ok65 (0) (150) ([0, 6, 1, 4, 56, 14]) && (ok32 (Pos.mk (N65 0 150 [0, 6, 1, 4, 56, 14]).variant (li [6, 4, 0, 0, 0, 0, 0, 0, 0, 0, 0, 0, 0, 0, 0, 0, 0, 0, 0, 0, 0, 0, 0, 0, 0, 0, 0, 0, 0, 0, 0, 0, 0, 0, 0, 0, 0, 0, 0, 0, 0, 0, 0, 0, 0, 0, 0, 0, 0, 0, 0, 0, 0, 0, 0, 0, 14, 0, 0, 0, 0, 0, 0, 0]) (N65 0 150 [0, 6, 1, 4, 56, 14]).promoted (li [0, 0, 0, 0, 0, 0, 0, 0, 0, 0, 0, 0]) (N65 0 150 [0, 6, 1, 4, 56, 14]).turn (li [0, 0, 0, 0]) (N65 0 150 [0, 6, 1, 4, 56, 14]).passing (li [0, 0]) (N65 0 150 [0, 6, 1, 4, 56, 14]).half (N65 0 150 [0, 6, 1, 4, 56, 14]).full) && (ok30 (N32 (Pos.mk (N65 0 150 [0, 6, 1, 4, 56, 14]).variant (li [6, 4, 0, 0, 0, 0, 0, 0, 0, 0, 0, 0, 0, 0, 0, 0, 0, 0, 0, 0, 0, 0, 0, 0, 0, 0, 0, 0, 0, 0, 0, 0, 0, 0, 0, 0, 0, 0, 0, 0, 0, 0, 0, 0, 0, 0, 0, 0, 0, 0, 0, 0, 0, 0, 0, 0, 14, 0, 0, 0, 0, 0, 0, 0]) (N65 0 150 [0, 6, 1, 4, 56, 14]).promoted (li [0, 0, 0, 0, 0, 0, 0, 0, 0, 0, 0, 0]) (N65 0 150 [0, 6, 1, 4, 56, 14]).turn (li [0, 0, 0, 0]) (N65 0 150 [0, 6, 1, 4, 56, 14]).passing (li [0, 0]) (N65 0 150 [0, 6, 1, 4, 56, 14]).half (N65 0 150 [0, 6, 1, 4, 56, 14]).full)) && (bif (N40 0).snd then (ok32 (Pos.mk (N40 0).fst.variant (li [4, 2, 3, 5, 6, 3, 2, 4, 1, 1, 1, 1, 1, 1, 1, 1, 0, 0, 0, 0, 0, 0, 0, 0, 0, 0, 0, 0, 0, 0, 0, 0, 0, 0, 0, 0, 0, 0, 0, 0, 0, 0, 0, 0, 0, 0, 0, 0, 9, 9, 9, 9, 9, 9, 9, 9, 12, 10, 11, 13, 14, 11, 10, 12]) (N40 0).fst.promoted (li [0, 0, 0, 0, 0, 0, 0, 0, 0, 0, 0, 0]) (N40 0).fst.turn (li [7, 0, 7, 0]) (N40 0).fst.passing (li [0, 0]) (N40 0).fst.half (N40 0).fst.full) && (ok30 (N32 (Pos.mk (N40 0).fst.variant (li [4, 2, 3, 5, 6, 3, 2, 4, 1, 1, 1, 1, 1, 1, 1, 1, 0, 0, 0, 0, 0, 0, 0, 0, 0, 0, 0, 0, 0, 0, 0, 0, 0, 0, 0, 0, 0, 0, 0, 0, 0, 0, 0, 0, 0, 0, 0, 0, 9, 9, 9, 9, 9, 9, 9, 9, 12, 10, 11, 13, 14, 11, 10, 12]) (N40 0).fst.promoted (li [0, 0, 0, 0, 0, 0, 0, 0, 0, 0, 0, 0]) (N40 0).fst.turn (li [7, 0, 7, 0]) (N40 0).fst.passing (li [0, 0]) (N40 0).fst.half (N40 0).fst.full)) && true)) else true))))))))))))))
theorem E29g (n32 : Pos → Int × Int) (n30 : Int × Int → List UInt8) : evPure (Bg29 n32 n30) 14 29 [] = (let z1 := (Pos.mk (N65 0 0 [0, 6, 2, 3, 56, 14, 61, 11]).variant (li [6, 0, 3, 0, 0, 0, 0, 0, 0, 0, 0, 0, 0, 0, 0, 0, 0, 0, 0, 0, 0, 0, 0, 0, 0, 0, 0, 0, 0, 0, 0, 0, 0, 0, 0, 0, 0, 0, 0, 0, 0, 0, 0, 0, 0, 0, 0, 0, 0, 0, 0, 0, 0, 0, 0, 0, 14, 0, 0, 0, 0, 11, 0, 0]) (N65 0 0 [0, 6, 2, 3, 56, 14, 61, 11]).promoted (li [0, 0, 0, 0, 0, 0, 0, 0, 0, 0, 0, 0]) (N65 0 0 [0, 6, 2, 3, 56, 14, 61, 11]).turn (li [0, 0, 0, 0]) (N65 0 0 [0, 6, 2, 3, 56, 14, 61, 11]).passing (li [0, 0]) (N65 0 0 [0, 6, 2, 3, 56, 14, 61, 11]).half (N65 0 0 [0, 6, 2, 3, 56, 14, 61, 11]).full); let z2 := (Pos.mk (N65 1 0 [53, 6, 54, 5, 63, 14]).variant (li [0, 0, 0, 0, 0, 0, 0, 0, 0, 0, 0, 0, 0, 0, 0, 0, 0, 0, 0, 0, 0, 0, 0, 0, 0, 0, 0, 0, 0, 0, 0, 0, 0, 0, 0, 0, 0, 0, 0, 0, 0, 0, 0, 0, 0, 0, 0, 0, 0, 0, 0, 0, 0, 6, 5, 0, 0, 0, 0, 0, 0, 0, 0, 14]) (N65 1 0 [53, 6, 54, 5, 63, 14]).promoted (li [0, 0, 0, 0, 0, 0, 0, 0, 0, 0, 0, 0]) (N65 1 0 [53, 6, 54, 5, 63, 14]).turn (li [0, 0, 0, 0]) (N65 1 0 [53, 6, 54, 5, 63, 14]).passing (li [0, 0]) (N65 1 0 [53, 6, 54, 5, 63, 14]).half (N65 1 0 [53, 6, 54, 5, 63, 14]).full); let z3 := (Pos.mk (N65 1 0 [53, 6, 46, 5, 63, 14]).variant (li [0, 0, 0, 0, 0, 0, 0, 0, 0, 0, 0, 0, 0, 0, 0, 0, 0, 0, 0, 0, 0, 0, 0, 0, 0, 0, 0, 0, 0, 0, 0, 0, 0, 0, 0, 0, 0, 0, 0, 0, 0, 0, 0, 0, 0, 0, 5, 0, 0, 0, 0, 0, 0, 6, 0, 0, 0, 0, 0, 0, 0, 0, 0, 14]) (N65 1 0 [53, 6, 46, 5, 63, 14]).promoted (li [0, 0, 0, 0, 0, 0, 0, 0, 0, 0, 0, 0]) (N65 1 0 [53, 6, 46, 5, 63, 14]).turn (li [0, 0, 0, 0]) (N65 1 0 [53, 6, 46, 5, 63, 14]).passing (li [0, 0]) (N65 1 0 [53, 6, 46, 5, 63, 14]).half (N65 1 0 [53, 6, 46, 5, 63, 14]).full); let z4 := (Pos.mk (N65 0 150 [0, 6, 1, 4, 56, 14]).variant (li [6, 4, 0, 0, 0, 0, 0, 0, 0, 0, 0, 0, 0, 0, 0, 0, 0, 0, 0, 0, 0, 0, 0, 0, 0, 0, 0, 0, 0, 0, 0, 0, 0, 0, 0, 0, 0, 0, 0, 0, 0, 0, 0, 0, 0, 0, 0, 0, 0, 0, 0, 0, 0, 0, 0, 0, 14, 0, 0, 0, 0, 0, 0, 0]) (N65 0 150 [0, 6, 1, 4, 56, 14]).promoted (li [0, 0, 0, 0, 0, 0, 0, 0, 0, 0, 0, 0]) (N65 0 150 [0, 6, 1, 4, 56, 14]).turn (li [0, 0, 0, 0]) (N65 0 150 [0, 6, 1, 4, 56, 14]).passing (li [0, 0]) (N65 0 150 [0, 6, 1, 4, 56, 14]).half (N65 0 150 [0, 6, 1, 4, 56, 14]).full); let z5 := (Pos.mk (N40 0).fst.variant (li [4, 2, 3, 5, 6, 3, 2, 4, 1, 1, 1, 1, 1, 1, 1, 1, 0, 0, 0, 0, 0, 0, 0, 0, 0, 0, 0, 0, 0, 0, 0, 0, 0, 0, 0, 0, 0, 0, 0, 0, 0, 0, 0, 0, 0, 0, 0, 0, 9, 9, 9, 9, 9, 9, 9, 9, 12, 10, 11, 13, 14, 11, 10, 12]) (N40 0).fst.promoted (li [0, 0, 0, 0, 0, 0, 0, 0, 0, 0, 0, 0]) (N40 0).fst.turn (li [7, 0, 7, 0]) (N40 0).fst.passing (li [0, 0]) (N40 0).fst.half (N40 0).fst.full); let z6 := (Tr.ret (AV.cbool false)); Tr.br (isPS Pz 40 [AV.int .u8 0] ((d2 dPos dB).res (N40 0))) (Tr.br (isPS Pz 65 [AV.int .u8 1, AV.int .i64 0, AV.list (ET.i .i64) [53, 6, 54, 5, 63, 14] Tk.arg] (dPos.res (N65 1 0 [53, 6, 54, 5, 63, 14]))) (Tr.br (isPS Pz 32 [z2.av] ((dR .u8 .u8).res (n32 z2))) (Tr.br (isPS Pz 30 [(dR .u8 .u8).arg (n32 z2)] (dS.res (n30 (n32 z2)))) (Tr.br (isPS Pz 65 [AV.int .u8 1, AV.int .i64 0, AV.list (ET.i .i64) [53, 6, 46, 5, 63, 14] Tk.arg] (dPos.res (N65 1 0 [53, 6, 46, 5, 63, 14]))) (Tr.br (isPS Pz 32 [z3.av] ((dR .u8 .u8).res (n32 z3))) (Tr.br (isPS Pz 30 [(dR .u8 .u8).arg (n32 z3)] (dS.res (n30 (n32 z3)))) (Tr.br (isPS Pz 65 [AV.int .u8 0, AV.int .i64 0, AV.list (ET.i .i64) [0, 6, 2, 3, 56, 14, 61, 11] Tk.arg] (dPos.res (N65 0 0 [0, 6, 2, 3, 56, 14, 61, 11]))) (Tr.br (isPS Pz 32 [z1.av] ((dR .u8 .u8).res (n32 z1))) (Tr.br (isPS Pz 30 [(dR .u8 .u8).arg (n32 z1)] (dS.res (n30 (n32 z1)))) (Tr.br (isPS Pz 65 [AV.int .u8 0, AV.int .i64 150, AV.list (ET.i .i64) [0, 6, 1, 4, 56, 14] Tk.arg] (dPos.res (N65 0 150 [0, 6, 1, 4, 56, 14]))) (Tr.br (isPS Pz 32 [z4.av] ((dR .u8 .u8).res (n32 z4))) (Tr.br (isPS Pz 30 [(dR .u8 .u8).arg (n32 z4)] (dS.res (n30 (n32 z4)))) (Tr.br (N40 0).snd (Tr.br (isPS Pz 32 [z5.av] ((dR .u8 .u8).res (n32 z5))) (Tr.br (isPS Pz 30 [(dR .u8 .u8).arg (n32 z5)] (dS.res (n30 (n32 z5)))) (Tr.br (n30 (n32 z5) == (ByteArray.mk #[42]).data.toList) (Tr.br (n30 (n32 z2) == (ByteArray.mk #[49, 45, 48, 32, 109, 97, 116, 101]).data.toList) (Tr.br (n30 (n32 z3) == (ByteArray.mk #[49, 47, 50, 32, 115, 116, 97, 108, 101, 109, 97, 116, 101]).data.toList) (Tr.br (n30 (n32 z1) == (ByteArray.mk #[49, 47, 50, 32, 109, 97, 116, 101, 114, 105, 97, 108]).data.toList) (Tr.ret (AV.bool (n30 (n32 z4) == (ByteArray.mk #[49, 47, 50, 32, 99, 108, 111, 99, 107]).data.toList))) z6) z6) z6) z6) Tr.fail) Tr.fail) z6) Tr.fail) Tr.fail) Tr.fail) Tr.fail) Tr.fail) Tr.fail) Tr.fail) Tr.fail) Tr.fail) Tr.fail) Tr.fail) Tr.fail) Tr.fail) := by kernel_rfl
theorem P29  (h : ok29  = true) : PS Pz 29 [] (dB.res (N29 )) := ps_gotR hB29 (E29g N32 N30) (gr_call (P40 (0)) (gr_call (P65 (1) (0) ([53, 6, 54, 5, 63, 14])) (gr_call (P32 (Pos.mk (N65 1 0 [53, 6, 54, 5, 63, 14]).variant (li [0, 0, 0, 0, 0, 0, 0, 0, 0, 0, 0, 0, 0, 0, 0, 0, 0, 0, 0, 0, 0, 0, 0, 0, 0, 0, 0, 0, 0, 0, 0, 0, 0, 0, 0, 0, 0, 0, 0, 0, 0, 0, 0, 0, 0, 0, 0, 0, 0, 0, 0, 0, 0, 6, 5, 0, 0, 0, 0, 0, 0, 0, 0, 14]) (N65 1 0 [53, 6, 54, 5, 63, 14]).promoted (li [0, 0, 0, 0, 0, 0, 0, 0, 0, 0, 0, 0]) (N65 1 0 [53, 6, 54, 5, 63, 14]).turn (li [0, 0, 0, 0]) (N65 1 0 [53, 6, 54, 5, 63, 14]).passing (li [0, 0]) (N65 1 0 [53, 6, 54, 5, 63, 14]).half (N65 1 0 [53, 6, 54, 5, 63, 14]).full)) (gr_call (P30 (N32 (Pos.mk (N65 1 0 [53, 6, 54, 5, 63, 14]).variant (li [0, 0, 0, 0, 0, 0, 0, 0, 0, 0, 0, 0, 0, 0, 0, 0, 0, 0, 0, 0, 0, 0, 0, 0, 0, 0, 0, 0, 0, 0, 0, 0, 0, 0, 0, 0, 0, 0, 0, 0, 0, 0, 0, 0, 0, 0, 0, 0, 0, 0, 0, 0, 0, 6, 5, 0, 0, 0, 0, 0, 0, 0, 0, 14]) (N65 1 0 [53, 6, 54, 5, 63, 14]).promoted (li [0, 0, 0, 0, 0, 0, 0, 0, 0, 0, 0, 0]) (N65 1 0 [53, 6, 54, 5, 63, 14]).turn (li [0, 0, 0, 0]) (N65 1 0 [53, 6, 54, 5, 63, 14]).passing (li [0, 0]) (N65 1 0 [53, 6, 54, 5, 63, 14]).half (N65 1 0 [53, 6, 54, 5, 63, 14]).full))) (gr_call (P65 (1) (0) ([53, 6, 46, 5, 63, 14])) (gr_call (P32 (Pos.mk (N65 1 0 [53, 6, 46, 5, 63, 14]).variant (li [0, 0, 0, 0, 0, 0, 0, 0, 0, 0, 0, 0, 0, 0, 0, 0, 0, 0, 0, 0, 0, 0, 0, 0, 0, 0, 0, 0, 0, 0, 0, 0, 0, 0, 0, 0, 0, 0, 0, 0, 0, 0, 0, 0, 0, 0, 5, 0, 0, 0, 0, 0, 0, 6, 0, 0, 0, 0, 0, 0, 0, 0, 0, 14]) (N65 1 0 [53, 6, 46, 5, 63, 14]).promoted (li [0, 0, 0, 0, 0, 0, 0, 0, 0, 0, 0, 0]) (N65 1 0 [53, 6, 46, 5, 63, 14]).turn (li [0, 0, 0, 0]) (N65 1 0 [53, 6, 46, 5, 63, 14]).passing (li [0, 0]) (N65 1 0 [53, 6, 46, 5, 63, 14]).half (N65 1 0 [53, 6, 46, 5, 63, 14]).full)) (gr_call (P30 (N32 (Pos.mk (N65 1 0 [53, 6, 46, 5, 63, 14]).variant (li [0, 0, 0, 0, 0, 0, 0, 0, 0, 0, 0, 0, 0, 0, 0, 0, 0, 0, 0, 0, 0, 0, 0, 0, 0, 0, 0, 0, 0, 0, 0, 0, 0, 0, 0, 0, 0, 0, 0, 0, 0, 0, 0, 0, 0, 0, 5, 0, 0, 0, 0, 0, 0, 6, 0, 0, 0, 0, 0, 0, 0, 0, 0, 14]) (N65 1 0 [53, 6, 46, 5, 63, 14]).promoted (li [0, 0, 0, 0, 0, 0, 0, 0, 0, 0, 0, 0]) (N65 1 0 [53, 6, 46, 5, 63, 14]).turn (li [0, 0, 0, 0]) (N65 1 0 [53, 6, 46, 5, 63, 14]).passing (li [0, 0]) (N65 1 0 [53, 6, 46, 5, 63, 14]).half (N65 1 0 [53, 6, 46, 5, 63, 14]).full))) (gr_call (P65 (0) (0) ([0, 6, 2, 3, 56, 14, 61, 11])) (gr_call (P32 (Pos.mk (N65 0 0 [0, 6, 2, 3, 56, 14, 61, 11]).variant (li [6, 0, 3, 0, 0, 0, 0, 0, 0, 0, 0, 0, 0, 0, 0, 0, 0, 0, 0, 0, 0, 0, 0, 0, 0, 0, 0, 0, 0, 0, 0, 0, 0, 0, 0, 0, 0, 0, 0, 0, 0, 0, 0, 0, 0, 0, 0, 0, 0, 0, 0, 0, 0, 0, 0, 0, 14, 0, 0, 0, 0, 11, 0, 0]) (N65 0 0 [0, 6, 2, 3, 56, 14, 61, 11]).promoted (li [0, 0, 0, 0, 0, 0, 0, 0, 0, 0, 0, 0]) (N65 0 0 [0, 6, 2, 3, 56, 14, 61, 11]).turn (li [0, 0, 0, 0]) (N65 0 0 [0, 6, 2, 3, 56, 14, 61, 11]).passing (li [0, 0]) (N65 0 0 [0, 6, 2, 3, 56, 14, 61, 11]).half (N65 0 0 [0, 6, 2, 3, 56, 14, 61, 11]).full)) (gr_call (P30 (N32 (Pos.mk (N65 0 0 [0, 6, 2, 3, 56, 14, 61, 11]).variant (li [6, 0, 3, 0, 0, 0, 0, 0, 0, 0, 0, 0, 0, 0, 0, 0, 0, 0, 0, 0, 0, 0, 0, 0, 0, 0, 0, 0, 0, 0, 0, 0, 0, 0, 0, 0, 0, 0, 0, 0, 0, 0, 0, 0, 0, 0, 0, 0, 0, 0, 0, 0, 0, 0, 0, 0, 14, 0, 0, 0, 0, 11, 0, 0]) (N65 0 0 [0, 6, 2, 3, 56, 14, 61, 11]).promoted (li [0, 0, 0, 0, 0, 0, 0, 0, 0, 0, 0, 0]) (N65 0 0 [0, 6, 2, 3, 56, 14, 61, 11]).turn (li [0, 0, 0, 0]) (N65 0 0 [0, 6, 2, 3, 56, 14, 61, 11]).passing (li [0, 0]) (N65 0 0 [0, 6, 2, 3, 56, 14, 61, 11]).half (N65 0 0 [0, 6, 2, 3, 56, 14, 61, 11]).full))) (gr_call (P65 (0) (150) ([0, 6, 1, 4, 56, 14])) (gr_call (P32 (Pos.mk (N65 0 150 [0, 6, 1, 4, 56, 14]).variant (li [6, 4, 0, 0, 0, 0, 0, 0, 0, 0, 0, 0, 0, 0, 0, 0, 0, 0, 0, 0, 0, 0, 0, 0, 0, 0, 0, 0, 0, 0, 0, 0, 0, 0, 0, 0, 0, 0, 0, 0, 0, 0, 0, 0, 0, 0, 0, 0, 0, 0, 0, 0, 0, 0, 0, 0, 14, 0, 0, 0, 0, 0, 0, 0]) (N65 0 150 [0, 6, 1, 4, 56, 14]).promoted (li [0, 0, 0, 0, 0, 0, 0, 0, 0, 0, 0, 0]) (N65 0 150 [0, 6, 1, 4, 56, 14]).turn (li [0, 0, 0, 0]) (N65 0 150 [0, 6, 1, 4, 56, 14]).passing (li [0, 0]) (N65 0 150 [0, 6, 1, 4, 56, 14]).half (N65 0 150 [0, 6, 1, 4, 56, 14]).full)) (gr_call (P30 (N32 (Pos.mk (N65 0 150 [0, 6, 1, 4, 56, 14]).variant (li [6, 4, 0, 0, 0, 0, 0, 0, 0, 0, 0, 0, 0, 0, 0, 0, 0, 0, 0, 0, 0, 0, 0, 0, 0, 0, 0, 0, 0, 0, 0, 0, 0, 0, 0, 0, 0, 0, 0, 0, 0, 0, 0, 0, 0, 0, 0, 0, 0, 0, 0, 0, 0, 0, 0, 0, 14, 0, 0, 0, 0, 0, 0, 0]) (N65 0 150 [0, 6, 1, 4, 56, 14]).promoted (li [0, 0, 0, 0, 0, 0, 0, 0, 0, 0, 0, 0]) (N65 0 150 [0, 6, 1, 4, 56, 14]).turn (li [0, 0, 0, 0]) (N65 0 150 [0, 6, 1, 4, 56, 14]).passing (li [0, 0]) (N65 0 150 [0, 6, 1, 4, 56, 14]).half (N65 0 150 [0, 6, 1, 4, 56, 14]).full))) (gr_br (gr_call (P32 (Pos.mk (N40 0).fst.variant (li [4, 2, 3, 5, 6, 3, 2, 4, 1, 1, 1, 1, 1, 1, 1, 1, 0, 0, 0, 0, 0, 0, 0, 0, 0, 0, 0, 0, 0, 0, 0, 0, 0, 0, 0, 0, 0, 0, 0, 0, 0, 0, 0, 0, 0, 0, 0, 0, 9, 9, 9, 9, 9, 9, 9, 9, 12, 10, 11, 13, 14, 11, 10, 12]) (N40 0).fst.promoted (li [0, 0, 0, 0, 0, 0, 0, 0, 0, 0, 0, 0]) (N40 0).fst.turn (li [7, 0, 7, 0]) (N40 0).fst.passing (li [0, 0]) (N40 0).fst.half (N40 0).fst.full)) (gr_call (P30 (N32 (Pos.mk (N40 0).fst.variant (li [4, 2, 3, 5, 6, 3, 2, 4, 1, 1, 1, 1, 1, 1, 1, 1, 0, 0, 0, 0, 0, 0, 0, 0, 0, 0, 0, 0, 0, 0, 0, 0, 0, 0, 0, 0, 0, 0, 0, 0, 0, 0, 0, 0, 0, 0, 0, 0, 9, 9, 9, 9, 9, 9, 9, 9, 12, 10, 11, 13, 14, 11, 10, 12]) (N40 0).fst.promoted (li [0, 0, 0, 0, 0, 0, 0, 0, 0, 0, 0, 0]) (N40 0).fst.turn (li [7, 0, 7, 0]) (N40 0).fst.passing (li [0, 0]) (N40 0).fst.half (N40 0).fst.full))) (gr_br2 (gr_br2 (gr_br2 (gr_br2 (gr_ret rfl) (gr_ret rfl)) (gr_ret rfl)) (gr_ret rfl)) (gr_ret rfl)))) (gr_ret rfl))))))))))))))) h
noncomputable def G29 : List AV → Tr AV := g0  (sure Pz 29 [] (dB.res (N29 )))
theorem s29 : Sound Pz 29 G29 := sound0 (at_sure)
end Kz
end
section
namespace Kz
open Go Go.RowKit Go.Proofs
set_option maxRecDepth 100000
set_option maxHeartbeats 4000000
noncomputable def K31 : List (Nat × List (Nat × List Nat)) := [(31, [(0, (0 :: (rn 2 29 []))), (1, (0 :: (rn 2 29 []))), (2, (0 :: (rn 2 4 (rn 7 24 [])))), (3, (0 :: 1 :: (rn 3 28 []))), (4, (0 :: (rn 2 4 (rn 8 23 [])))), (5, (0 :: 1 :: (rn 3 28 []))), (6, (0 :: (rn 2 4 (7 :: 8 :: (rn 10 21 []))))), (7, (0 :: 2 :: (rn 4 27 []))), (8, (0 :: (rn 2 4 (rn 7 4 (rn 12 19 []))))), (9, (0 :: 2 :: (rn 4 27 []))), (10, (0 :: (rn 2 11 (rn 14 17 [])))), (11, (0 :: 2 :: (rn 4 27 []))), (12, (0 :: 2 :: (rn 5 26 []))), (13, (0 :: 2 :: (rn 5 16 (rn 22 9 [])))), (14, (0 :: 1 :: (rn 3 28 []))), (15, (0 :: 1 :: (rn 3 28 [])))])]
noncomputable def B31 : Base := baseOf Pz (fun f i => lkK f i K31) [] [] []
theorem hB31 : BOk B31 := base_ok named_z trivial trivial trivial
noncomputable def N31 (a : (Int × Int)) : List UInt8 := (bif a.fst == 0 then ((ByteArray.mk #[42]).data.toList) else (bif a.fst == 1 then (bif decide (wr .i64 a.snd ≥ ↑9) then ((ByteArray.mk #[49, 45, 48, 32]).data.toList ++ (ByteArray.mk #[63]).data.toList) else (bif a.snd == ↑0 then ((ByteArray.mk #[49, 45, 48, 32]).data.toList ++ (ByteArray.mk #[63]).data.toList) else (bif a.snd == ↑1 then ((ByteArray.mk #[49, 45, 48, 32]).data.toList ++ (ByteArray.mk #[109, 97, 116, 101]).data.toList) else (bif a.snd == ↑2 then ((ByteArray.mk #[49, 45, 48, 32]).data.toList ++ (ByteArray.mk #[115, 116, 97, 108, 101, 109, 97, 116, 101]).data.toList) else (bif a.snd == ↑3 then ((ByteArray.mk #[49, 45, 48, 32]).data.toList ++ (ByteArray.mk #[109, 97, 116, 101, 114, 105, 97, 108]).data.toList) else (bif a.snd == ↑4 then ((ByteArray.mk #[49, 45, 48, 32]).data.toList ++ (ByteArray.mk #[99, 108, 111, 99, 107]).data.toList) else (bif a.snd == ↑5 then ((ByteArray.mk #[49, 45, 48, 32]).data.toList ++ (ByteArray.mk #[114, 101, 112, 101, 116, 105, 116, 105, 111, 110]).data.toList) else (bif a.snd == ↑6 then ((ByteArray.mk #[49, 45, 48, 32]).data.toList ++ (ByteArray.mk #[107, 105, 110, 103]).data.toList) else (bif a.snd == ↑7 then ((ByteArray.mk #[49, 45, 48, 32]).data.toList ++ (ByteArray.mk #[99, 104, 101, 99, 107, 115]).data.toList) else ((ByteArray.mk #[49, 45, 48, 32]).data.toList ++ (ByteArray.mk #[108, 97, 115, 116]).data.toList)))))))))) else (bif a.fst == 2 then (bif decide (wr .i64 a.snd ≥ ↑9) then ((ByteArray.mk #[48, 45, 49, 32]).data.toList ++ (ByteArray.mk #[63]).data.toList) else (bif a.snd == ↑0 then ((ByteArray.mk #[48, 45, 49, 32]).data.toList ++ (ByteArray.mk #[63]).data.toList) else (bif a.snd == ↑1 then ((ByteArray.mk #[48, 45, 49, 32]).data.toList ++ (ByteArray.mk #[109, 97, 116, 101]).data.toList) else (bif a.snd == ↑2 then ((ByteArray.mk #[48, 45, 49, 32]).data.toList ++ (ByteArray.mk #[115, 116, 97, 108, 101, 109, 97, 116, 101]).data.toList) else (bif a.snd == ↑3 then ((ByteArray.mk #[48, 45, 49, 32]).data.toList ++ (ByteArray.mk #[109, 97, 116, 101, 114, 105, 97, 108]).data.toList) else (bif a.snd == ↑4 then ((ByteArray.mk #[48, 45, 49, 32]).data.toList ++ (ByteArray.mk #[99, 108, 111, 99, 107]).data.toList) else (bif a.snd == ↑5 then ((ByteArray.mk #[48, 45, 49, 32]).data.toList ++ (ByteArray.mk #[114, 101, 112, 101, 116, 105, 116, 105, 111, 110]).data.toList) else (bif a.snd == ↑6 then ((ByteArray.mk #[48, 45, 49, 32]).data.toList ++ (ByteArray.mk #[107, 105, 110, 103]).data.toList) else (bif a.snd == ↑7 then ((ByteArray.mk #[48, 45, 49, 32]).data.toList ++ (ByteArray.mk #[99, 104, 101, 99, 107, 115]).data.toList) else ((ByteArray.mk #[48, 45, 49, 32]).data.toList ++ (ByteArray.mk #[108, 97, 115, 116]).data.toList)))))))))) else (bif a.fst == 3 then (bif decide (wr .i64 a.snd ≥ ↑9) then ((ByteArray.mk #[49, 47, 50, 32]).data.toList ++ (ByteArray.mk #[63]).data.toList) else (bif a.snd == ↑0 then ((ByteArray.mk #[49, 47, 50, 32]).data.toList ++ (ByteArray.mk #[63]).data.toList) else (bif a.snd == ↑1 then ((ByteArray.mk #[49, 47, 50, 32]).data.toList ++ (ByteArray.mk #[109, 97, 116, 101]).data.toList) else (bif a.snd == ↑2 then ((ByteArray.mk #[49, 47, 50, 32]).data.toList ++ (ByteArray.mk #[115, 116, 97, 108, 101, 109, 97, 116, 101]).data.toList) else (bif a.snd == ↑3 then ((ByteArray.mk #[49, 47, 50, 32]).data.toList ++ (ByteArray.mk #[109, 97, 116, 101, 114, 105, 97, 108]).data.toList) else (bif a.snd == ↑4 then ((ByteArray.mk #[49, 47, 50, 32]).data.toList ++ (ByteArray.mk #[99, 108, 111, 99, 107]).data.toList) else (bif a.snd == ↑5 then ((ByteArray.mk #[49, 47, 50, 32]).data.toList ++ (ByteArray.mk #[114, 101, 112, 101, 116, 105, 116, 105, 111, 110]).data.toList) else (bif a.snd == ↑6 then ((ByteArray.mk #[49, 47, 50, 32]).data.toList ++ (ByteArray.mk #[107, 105, 110, 103]).data.toList) else (bif a.snd == ↑7 then ((ByteArray.mk #[49, 47, 50, 32]).data.toList ++ (ByteArray.mk #[99, 104, 101, 99, 107, 115]).data.toList) else ((ByteArray.mk #[49, 47, 50, 32]).data.toList ++ (ByteArray.mk #[108, 97, 115, 116]).data.toList)))))))))) else ((ByteArray.mk #[63]).data.toList)))))
noncomputable def ok31 (a : (Int × Int)) : Bool := (bif a.fst == 0 then true else (bif a.fst == 1 then (bif decide (wr .i64 a.snd ≥ ↑9) then (decide (5 ≤ 1073741824) && true) else (decide (0 ≤ a.snd) && decide (a.snd < ↑9) && (bif a.snd == ↑0 then (decide (5 ≤ 1073741824) && true) else (bif a.snd == ↑1 then (decide (8 ≤ 1073741824) && true) else (bif a.snd == ↑2 then (decide (13 ≤ 1073741824) && true) else (bif a.snd == ↑3 then (decide (12 ≤ 1073741824) && true) else (bif a.snd == ↑4 then (decide (9 ≤ 1073741824) && true) else (bif a.snd == ↑5 then (decide (14 ≤ 1073741824) && true) else (bif a.snd == ↑6 then (decide (8 ≤ 1073741824) && true) else (bif a.snd == ↑7 then (decide (10 ≤ 1073741824) && true) else (a.snd == ↑8 && (decide (8 ≤ 1073741824) && true)))))))))))) else (bif a.fst == 2 then (bif decide (wr .i64 a.snd ≥ ↑9) then (decide (5 ≤ 1073741824) && true) else (decide (0 ≤ a.snd) && decide (a.snd < ↑9) && (bif a.snd == ↑0 then (decide (5 ≤ 1073741824) && true) else (bif a.snd == ↑1 then (decide (8 ≤ 1073741824) && true) else (bif a.snd == ↑2 then (decide (13 ≤ 1073741824) && true) else (bif a.snd == ↑3 then (decide (12 ≤ 1073741824) && true) else (bif a.snd == ↑4 then (decide (9 ≤ 1073741824) && true) else (bif a.snd == ↑5 then (decide (14 ≤ 1073741824) && true) else (bif a.snd == ↑6 then (decide (8 ≤ 1073741824) && true) else (bif a.snd == ↑7 then (decide (10 ≤ 1073741824) && true) else (a.snd == ↑8 && (decide (8 ≤ 1073741824) && true)))))))))))) else (bif a.fst == 3 then (bif decide (wr .i64 a.snd ≥ ↑9) then (decide (5 ≤ 1073741824) && true) else (decide (0 ≤ a.snd) && decide (a.snd < ↑9) && (bif a.snd == ↑0 then (decide (5 ≤ 1073741824) && true) else (bif a.snd == ↑1 then (decide (8 ≤ 1073741824) && true) else (bif a.snd == ↑2 then (decide (13 ≤ 1073741824) && true) else (bif a.snd == ↑3 then (decide (12 ≤ 1073741824) && true) else (bif a.snd == ↑4 then (decide (9 ≤ 1073741824) && true) else (bif a.snd == ↑5 then (decide (14 ≤ 1073741824) && true) else (bif a.snd == ↑6 then (decide (8 ≤ 1073741824) && true) else (bif a.snd == ↑7 then (decide (10 ≤ 1073741824) && true) else (a.snd == ↑8 && (decide (8 ≤ 1073741824) && true)))))))))))) else true))))
theorem E31 (a : (Int × Int)) : evPure B31 14 31 [(dR .u8 .u8).arg a] = (let z1 := (ByteArray.mk #[49, 45, 48, 32]); let z2 := (ByteArray.mk #[48, 45, 49, 32]); let z3 := (ByteArray.mk #[49, 47, 50, 32]); let z4 := (decide (8 ≤ 1073741824)); let z5 := (ByteArray.mk #[114, 101, 112, 101, 116, 105, 116, 105, 111, 110]); let z6 := (ByteArray.mk #[115, 116, 97, 108, 101, 109, 97, 116, 101]); let z7 := (decide (5 ≤ 1073741824)); let z8 := (ByteArray.mk #[63]); let z9 := (ByteArray.mk #[109, 97, 116, 101, 114, 105, 97, 108]); let z10 := (ByteArray.mk #[99, 104, 101, 99, 107, 115]); let z11 := (ByteArray.mk #[99, 108, 111, 99, 107]); let z12 := (Tr.br z7 (Tr.ret (AV.str (z1.data.toList ++ z8.data.toList))) Tr.fail); let z13 := (Tr.br z7 (Tr.ret (AV.str (z2.data.toList ++ z8.data.toList))) Tr.fail); let z14 := (Tr.br z7 (Tr.ret (AV.str (z3.data.toList ++ z8.data.toList))) Tr.fail); let z15 := (ByteArray.mk #[107, 105, 110, 103]); let z16 := (ByteArray.mk #[109, 97, 116, 101]); let z17 := (ByteArray.mk #[108, 97, 115, 116]); Tr.br (a.fst == 0) (Tr.ret (AV.str (ByteArray.mk #[42]).data.toList)) (Tr.br (a.fst == 1) (Tr.br (decide (wr .i64 a.snd ≥ ↑9)) z12 (Tr.br (decide (0 ≤ a.snd) && decide (a.snd < ↑9)) (Tr.br (a.snd == ↑0) z12 (Tr.br (a.snd == ↑1) (Tr.br z4 (Tr.ret (AV.str (z1.data.toList ++ z16.data.toList))) Tr.fail) (Tr.br (a.snd == ↑2) (Tr.br (decide (13 ≤ 1073741824)) (Tr.ret (AV.str (z1.data.toList ++ z6.data.toList))) Tr.fail) (Tr.br (a.snd == ↑3) (Tr.br (decide (12 ≤ 1073741824)) (Tr.ret (AV.str (z1.data.toList ++ z9.data.toList))) Tr.fail) (Tr.br (a.snd == ↑4) (Tr.br (decide (9 ≤ 1073741824)) (Tr.ret (AV.str (z1.data.toList ++ z11.data.toList))) Tr.fail) (Tr.br (a.snd == ↑5) (Tr.br (decide (14 ≤ 1073741824)) (Tr.ret (AV.str (z1.data.toList ++ z5.data.toList))) Tr.fail) (Tr.br (a.snd == ↑6) (Tr.br z4 (Tr.ret (AV.str (z1.data.toList ++ z15.data.toList))) Tr.fail) (Tr.br (a.snd == ↑7) (Tr.br (decide (10 ≤ 1073741824)) (Tr.ret (AV.str (z1.data.toList ++ z10.data.toList))) Tr.fail) (Tr.br (a.snd == ↑8) (Tr.br z4 (Tr.ret (AV.str (z1.data.toList ++ z17.data.toList))) Tr.fail) Tr.fail))))))))) Tr.fail)) (Tr.br (a.fst == 2) (Tr.br (decide (wr .i64 a.snd ≥ ↑9)) z13 (Tr.br (decide (0 ≤ a.snd) && decide (a.snd < ↑9)) (Tr.br (a.snd == ↑0) z13 (Tr.br (a.snd == ↑1) (Tr.br z4 (Tr.ret (AV.str (z2.data.toList ++ z16.data.toList))) Tr.fail) (Tr.br (a.snd == ↑2) (Tr.br (decide (13 ≤ 1073741824)) (Tr.ret (AV.str (z2.data.toList ++ z6.data.toList))) Tr.fail) (Tr.br (a.snd == ↑3) (Tr.br (decide (12 ≤ 1073741824)) (Tr.ret (AV.str (z2.data.toList ++ z9.data.toList))) Tr.fail) (Tr.br (a.snd == ↑4) (Tr.br (decide (9 ≤ 1073741824)) (Tr.ret (AV.str (z2.data.toList ++ z11.data.toList))) Tr.fail) (Tr.br (a.snd == ↑5) (Tr.br (decide (14 ≤ 1073741824)) (Tr.ret (AV.str (z2.data.toList ++ z5.data.toList))) Tr.fail) (Tr.br (a.snd == ↑6) (Tr.br z4 (Tr.ret (AV.str (z2.data.toList ++ z15.data.toList))) Tr.fail) (Tr.br (a.snd == ↑7) (Tr.br (decide (10 ≤ 1073741824)) (Tr.ret (AV.str (z2.data.toList ++ z10.data.toList))) Tr.fail) (Tr.br (a.snd == ↑8) (Tr.br z4 (Tr.ret (AV.str (z2.data.toList ++ z17.data.toList))) Tr.fail) Tr.fail))))))))) Tr.fail)) (Tr.br (a.fst == 3) (Tr.br (decide (wr .i64 a.snd ≥ ↑9)) z14 (Tr.br (decide (0 ≤ a.snd) && decide (a.snd < ↑9)) (Tr.br (a.snd == ↑0) z14 (Tr.br (a.snd == ↑1) (Tr.br z4 (Tr.ret (AV.str (z3.data.toList ++ z16.data.toList))) Tr.fail) (Tr.br (a.snd == ↑2) (Tr.br (decide (13 ≤ 1073741824)) (Tr.ret (AV.str (z3.data.toList ++ z6.data.toList))) Tr.fail) (Tr.br (a.snd == ↑3) (Tr.br (decide (12 ≤ 1073741824)) (Tr.ret (AV.str (z3.data.toList ++ z9.data.toList))) Tr.fail) (Tr.br (a.snd == ↑4) (Tr.br (decide (9 ≤ 1073741824)) (Tr.ret (AV.str (z3.data.toList ++ z11.data.toList))) Tr.fail) (Tr.br (a.snd == ↑5) (Tr.br (decide (14 ≤ 1073741824)) (Tr.ret (AV.str (z3.data.toList ++ z5.data.toList))) Tr.fail) (Tr.br (a.snd == ↑6) (Tr.br z4 (Tr.ret (AV.str (z3.data.toList ++ z15.data.toList))) Tr.fail) (Tr.br (a.snd == ↑7) (Tr.br (decide (10 ≤ 1073741824)) (Tr.ret (AV.str (z3.data.toList ++ z10.data.toList))) Tr.fail) (Tr.br (a.snd == ↑8) (Tr.br z4 (Tr.ret (AV.str (z3.data.toList ++ z17.data.toList))) Tr.fail) Tr.fail))))))))) Tr.fail)) (Tr.ret (AV.str z8.data.toList)))))) := by kernel_rfl
theorem P31 (a : (Int × Int)) (h : ok31 a = true) : PS Pz 31 [(dR .u8 .u8).arg a] (dS.res (N31 a)) := ps_gotR hB31 (E31 a) (gr_br (gr_ret rfl) (gr_br (gr_br (gr_guard (gr_ret rfl)) (gr_guard (gr_br (gr_guard (gr_ret rfl)) (gr_br (gr_guard (gr_ret rfl)) (gr_br (gr_guard (gr_ret rfl)) (gr_br (gr_guard (gr_ret rfl)) (gr_br (gr_guard (gr_ret rfl)) (gr_br (gr_guard (gr_ret rfl)) (gr_br (gr_guard (gr_ret rfl)) (gr_br (gr_guard (gr_ret rfl)) (gr_guard (gr_guard (gr_ret rfl))))))))))))) (gr_br (gr_br (gr_guard (gr_ret rfl)) (gr_guard (gr_br (gr_guard (gr_ret rfl)) (gr_br (gr_guard (gr_ret rfl)) (gr_br (gr_guard (gr_ret rfl)) (gr_br (gr_guard (gr_ret rfl)) (gr_br (gr_guard (gr_ret rfl)) (gr_br (gr_guard (gr_ret rfl)) (gr_br (gr_guard (gr_ret rfl)) (gr_br (gr_guard (gr_ret rfl)) (gr_guard (gr_guard (gr_ret rfl))))))))))))) (gr_br (gr_br (gr_guard (gr_ret rfl)) (gr_guard (gr_br (gr_guard (gr_ret rfl)) (gr_br (gr_guard (gr_ret rfl)) (gr_br (gr_guard (gr_ret rfl)) (gr_br (gr_guard (gr_ret rfl)) (gr_br (gr_guard (gr_ret rfl)) (gr_br (gr_guard (gr_ret rfl)) (gr_br (gr_guard (gr_ret rfl)) (gr_br (gr_guard (gr_ret rfl)) (gr_guard (gr_guard (gr_ret rfl))))))))))))) (gr_ret rfl))))) h
noncomputable def G31 : List AV → Tr AV := g1 (dR .u8 .u8) (fun a => sure Pz 31 [(dR .u8 .u8).arg a] (dS.res (N31 a)))
theorem s31 : Sound Pz 31 G31 := sound1 (fun _ => at_sure)
end Kz
end
section
namespace Kz
open Go Go.RowKit
set_option maxRecDepth 100000
set_option maxHeartbeats 4000000
theorem small {P : Int → Prop} (k : Nat) (h : ∀ i : Fin k, P i.val) {a : Int} (h0 : 0 ≤ a) (h1 : a < k) : P a := by
  obtain ⟨n, rfl⟩ := Int.eq_ofNat_of_zero_le h0
  exact h ⟨n, by omega⟩
theorem text_small : ∀ a : Fin 4, ∀ b : Fin 9, ok30 ((a.val : Int), (b.val : Int)) = true ∧ ok31 ((a.val : Int), (b.val : Int)) = true ∧ N30 ((a.val : Int), (b.val : Int)) = N31 ((a.val : Int), (b.val : Int)) := by decide +kernel
theorem text_same {a b : Int} (a0 : 0 ≤ a) (a1 : a ≤ 255) (b0 : 0 ≤ b) (b1 : b ≤ 255) : ok30 (a, b) = true ∧ ok31 (a, b) = true ∧ N30 (a, b) = N31 (a, b) := by
  have wa := wi64 (n := a) (by omega) (by omega)
  have wb := wi64 (n := b) (by omega) (by omega)
  by_cases ha : a < 4
  · by_cases hb : b < 9
    · exact small (P := fun a => ok30 (a, b) = true ∧ ok31 (a, b) = true ∧ N30 (a, b) = N31 (a, b)) 4 (fun i => small (P := fun b => ok30 ((i.val : Int), b) = true ∧ ok31 ((i.val : Int), b) = true ∧ N30 ((i.val : Int), b) = N31 ((i.val : Int), b)) 9 (text_small i) b0 hb) a0 ha
    · have h9 : decide (b ≥ 9) = true := by simp; omega
      have h9' : decide (b ≥ ((9 : Nat) : Int)) = true := by simp; omega
      have ha' : a = 0 ∨ a = 1 ∨ a = 2 ∨ a = 3 := by omega
      unfold ok30 ok31 N30 N31
      dsimp only
      rw [wb, h9]
      rcases ha' with rfl | rfl | rfl | rfl
      · exact ⟨rfl, rfl, rfl⟩
      · exact ⟨rfl, rfl, rfl⟩
      · exact ⟨rfl, rfl, rfl⟩
      · exact ⟨rfl, rfl, rfl⟩
  · have h4 : decide (a ≥ 4) = true := by simp; omega
    have e : ∀ n : Int, n < 4 → (a == n) = false := fun n hn => by simp; omega
    have e0 := e 0 (by decide)
    have e1 := e 1 (by decide)
    have e2 := e 2 (by decide)
    have e3 := e 3 (by decide)
    unfold ok30 ok31 N30 N31
    dsimp only
    rw [wa, h4, e0, e1, e2, e3]
    exact ⟨rfl, rfl, rfl⟩
theorem t30_N32 {p : Pos} (hp : PosIn p) : ok30 (N32 p) = true := (text_same (N32_u8 hp).1.1 (N32_u8 hp).1.2 (N32_u8 hp).2.1 (N32_u8 hp).2.2).1
theorem ok29_true : ok29 = true := by
  unfold ok29
  refine a_true (by decide +kernel) fun _ => ?_
  repeat' (first | with_reducible rfl | refine a_true (t32 (posIn_of (by decide +kernel))) (fun _ => ?_) | refine a_true (t30_N32 (posIn_of (by decide +kernel))) (fun _ => ?_) | refine a_true (by decide +kernel) (fun _ => ?_) | refine c_true (fun _ => ?_) (fun _ => ?_))
theorem N29_true : N29 = true := by decide +kernel
end Kz
end
section
namespace Kz
open Go Go.RowKit Go.Proofs
set_option maxRecDepth 100000
set_option maxHeartbeats 4000000
noncomputable def K9 : List (Nat × List (Nat × List Nat)) := [(9, [(0, (0 :: (rn 2 7 [10]))), (1, (0 :: 1 :: (rn 3 8 [])))])]
noncomputable def B9 : Base := baseOf Pz (fun f i => lkK f i K9) [(29, G29), (30, G30), (31, G31)] [] []
theorem hB9 : BOk B9 := base_ok named_z ⟨s29, s30, s31, trivial⟩ trivial trivial
noncomputable def N9 (a : (Int × Int)) : Bool := (bif N30 a == N31 a then (N29) else (false))
noncomputable def ok9 (a : (Int × Int)) : Bool := (ok30 (a) && (ok31 (a) && (bif N30 a == N31 a then (ok29  && true) else true)))
theorem E9 (a : (Int × Int)) : evPure B9 14 9 [(dR .u8 .u8).arg a] = Tr.br (isPS Pz 30 [(dR .u8 .u8).arg a] (dS.res (N30 a))) (Tr.br (isPS Pz 31 [(dR .u8 .u8).arg a] (dS.res (N31 a))) (Tr.br (N30 a == N31 a) (Tr.br (isPS Pz 29 [] (dB.res N29)) (Tr.ret (AV.bool N29)) Tr.fail) (Tr.ret (AV.cbool false))) Tr.fail) Tr.fail := by kernel_rfl
theorem P9 (a : (Int × Int)) (h : ok9 a = true) : PS Pz 9 [(dR .u8 .u8).arg a] (dB.res (N9 a)) := ps_gotR hB9 (E9 a) (gr_call (P30 (a)) (gr_call (P31 (a)) (gr_br (gr_call (P29 ) (gr_ret rfl)) (gr_ret rfl)))) h
noncomputable def G9 : List AV → Tr AV := g1 (dR .u8 .u8) (fun a => sure Pz 9 [(dR .u8 .u8).arg a] (dB.res (N9 a)))
theorem s9 : Sound Pz 9 G9 := sound1 (fun _ => at_sure)
end Kz
end
section
namespace Kz
open Go Go.RowKit Go.Proofs
set_option maxRecDepth 100000
set_option maxHeartbeats 4000000
noncomputable def K10 : List (Nat × List (Nat × List Nat)) := [(10, [(0, (0 :: (rn 2 9 (rn 14 6 (rn 21 21 (44 :: 45 :: (rn 47 8 (57 :: 58 :: 60 :: 61 :: (rn 63 7 (72 :: 73 :: 76 :: 77 :: (rn 79 8 (89 :: 90 :: (rn 92 9 [103, 104, 106]))))))))))))), (1, (0 :: (rn 2 12 (rn 15 5 (rn 21 21 (44 :: 45 :: (rn 47 8 (57 :: 58 :: 60 :: 61 :: (rn 63 7 (72 :: 73 :: 76 :: 77 :: (rn 79 8 (89 :: 90 :: (rn 92 9 [103, 104, 106]))))))))))))), (2, (0 :: 1 :: (rn 3 104 []))), (3, (0 :: 2 :: (rn 4 38 (44 :: 45 :: (rn 47 8 (57 :: 58 :: 60 :: 61 :: (rn 63 7 (72 :: 73 :: 76 :: 77 :: (rn 79 8 (89 :: 90 :: (rn 92 9 [103, 104, 106]))))))))))), (4, (0 :: 2 :: (rn 5 37 (44 :: 45 :: (rn 47 8 (57 :: 58 :: 60 :: 61 :: (rn 63 7 (72 :: 73 :: 76 :: 77 :: (rn 79 8 (89 :: 90 :: (rn 92 9 [103, 104, 106]))))))))))), (5, (0 :: 2 :: (rn 6 36 (44 :: 45 :: (rn 47 8 (57 :: 58 :: 60 :: 61 :: (rn 63 7 (72 :: 73 :: 76 :: 77 :: (rn 79 8 (89 :: 90 :: (rn 92 9 [103, 104, 106]))))))))))), (6, (0 :: 2 :: (rn 7 35 (44 :: 45 :: (rn 47 8 (57 :: 58 :: 60 :: 61 :: (rn 63 7 (72 :: 73 :: 76 :: 77 :: (rn 79 8 (89 :: 90 :: (rn 92 9 [103, 104, 106]))))))))))), (7, (0 :: 1 :: 2 :: (rn 7 26 (rn 34 8 (44 :: 45 :: (rn 47 8 (57 :: 58 :: 60 :: 61 :: (rn 63 7 (72 :: 73 :: 76 :: 77 :: (rn 79 8 (89 :: 90 :: (rn 92 9 [103, 104, 106])))))))))))), (8, (0 :: 1 :: 2 :: (rn 7 35 (44 :: 45 :: (rn 47 8 (57 :: 58 :: 60 :: 61 :: (rn 63 7 (72 :: 73 :: 76 :: 77 :: (rn 79 8 (89 :: 90 :: (rn 92 9 [103, 104, 106]))))))))))), (9, (0 :: 1 :: 2 :: (rn 7 28 (rn 36 6 (44 :: 45 :: (rn 47 8 (57 :: 58 :: 60 :: 61 :: (rn 63 7 (72 :: 73 :: 76 :: 77 :: (rn 79 8 (89 :: 90 :: (rn 92 9 [103, 104, 106])))))))))))), (10, (0 :: 1 :: 2 :: (rn 7 28 (rn 37 5 (44 :: 45 :: (rn 47 8 (57 :: 58 :: 60 :: 61 :: (rn 63 7 (72 :: 73 :: 76 :: 77 :: (rn 79 8 (89 :: 90 :: (rn 92 9 [103, 104, 106])))))))))))), (11, (0 :: 1 :: (rn 3 104 []))), (12, (0 :: 1 :: 2 :: (rn 7 28 (rn 36 12 (rn 49 6 (57 :: 58 :: 60 :: 61 :: (rn 63 7 (72 :: 73 :: 76 :: 77 :: (rn 79 8 (89 :: 90 :: (rn 92 9 [103, 104, 106]))))))))))), (13, (0 :: 1 :: (rn 3 104 []))), (14, (0 :: 1 :: 2 :: (rn 6 29 (rn 36 28 (rn 65 5 (72 :: 73 :: 76 :: 77 :: (rn 79 8 (89 :: 90 :: (rn 92 9 [103, 104, 106]))))))))), (15, (0 :: 1 :: (rn 3 104 []))), (16, (0 :: 1 :: 2 :: (rn 5 30 (rn 36 44 (rn 81 6 (89 :: 90 :: (rn 92 9 [103, 104, 106]))))))), (17, (0 :: 1 :: 2 :: (rn 5 30 (rn 36 44 (rn 81 6 (89 :: 90 :: (rn 92 9 [103, 104, 106]))))))), (18, (0 :: 1 :: (rn 3 104 []))), (19, (0 :: 1 :: 2 :: (rn 5 30 (rn 36 57 (rn 94 7 [103, 104, 106]))))), (20, (0 :: 1 :: 2 :: (rn 5 30 (rn 36 57 (rn 94 7 [103, 104, 106]))))), (21, (0 :: 1 :: 2 :: (rn 5 88 (rn 94 7 [103, 104, 106])))), (22, (0 :: 1 :: (rn 3 104 []))), (23, (0 :: 1 :: (rn 3 104 [])))])]
noncomputable def B10 : Base := baseOf Pz (fun f i => lkK f i K10) [(15, G15), (21, G21), (29, G29), (32, G32)] [] []
theorem hB10 : BOk B10 := base_ok named_z ⟨s15, s21, s29, s32, trivial⟩ trivial trivial
noncomputable def N10 (a : Pos) : Bool := (bif decide (a.turn > 1) then (bif eqOut BinOp.eql ((N32 a).fst == 0 && ((N32 a).snd == 0 && true)) then (N29) else (false)) else (bif decide (a.variant ≥ 9) then (bif eqOut BinOp.eql ((N32 a).fst == 0 && ((N32 a).snd == 0 && true)) then (N29) else (false)) else (bif a.turn == 1 then (bif (N32 a).snd == 0 then (bif (N32 a).fst == 0 then (bif decide (Int.ofNat (N15 a).length > 0) then (N29) else (false)) else (false)) else (bif (N32 a).snd == 1 then (bif (N32 a).fst == 1 then (bif Int.ofNat (N15 a).length == 0 then (bif N21 a a.turn then (N29) else (false)) else (false)) else (false)) else (bif (N32 a).snd == 2 then (bif (N32 a).fst == 3 then (bif Int.ofNat (N15 a).length == 0 then (bif !N21 a a.turn then (N29) else (false)) else (false)) else (false)) else (bif (N32 a).snd == 3 then (bif (N32 a).snd == 3 then (bif (N32 a).fst == 3 then (bif decide (Int.ofNat (N15 a).length > 0) then (N29) else (false)) else (false)) else (bif (N32 a).snd == 6 then (bif (N32 a).snd == 6 then (bif (N32 a).fst != 0 then (bif Int.ofNat (N15 a).length == 0 then (N29) else (false)) else (false)) else (false)) else (bif (N32 a).snd == 7 then (bif (N32 a).snd == 7 then (bif (N32 a).fst != 0 then (bif Int.ofNat (N15 a).length == 0 then (N29) else (false)) else (false)) else (false)) else (bif (N32 a).snd == 8 then (bif (N32 a).fst != 0 then (bif Int.ofNat (N15 a).length == 0 then (N29) else (false)) else (false)) else (false))))) else (bif (N32 a).snd == 4 then (bif (N32 a).fst == 3 then (bif decide (Int.ofNat (N15 a).length > 0) then (N29) else (false)) else (false)) else (bif (N32 a).snd == 6 then (bif (N32 a).snd == 6 then (bif (N32 a).fst != 0 then (bif Int.ofNat (N15 a).length == 0 then (N29) else (false)) else (false)) else (false)) else (bif (N32 a).snd == 7 then (bif (N32 a).snd == 7 then (bif (N32 a).fst != 0 then (bif Int.ofNat (N15 a).length == 0 then (N29) else (false)) else (false)) else (false)) else (bif (N32 a).snd == 8 then (bif (N32 a).fst != 0 then (bif Int.ofNat (N15 a).length == 0 then (N29) else (false)) else (false)) else (false))))))))) else (bif (N32 a).snd == 0 then (bif (N32 a).fst == 0 then (bif decide (Int.ofNat (N15 a).length > 0) then (N29) else (false)) else (false)) else (bif (N32 a).snd == 1 then (bif (N32 a).fst == 2 then (bif Int.ofNat (N15 a).length == 0 then (bif N21 a a.turn then (N29) else (false)) else (false)) else (false)) else (bif (N32 a).snd == 2 then (bif (N32 a).fst == 3 then (bif Int.ofNat (N15 a).length == 0 then (bif !N21 a a.turn then (N29) else (false)) else (false)) else (false)) else (bif (N32 a).snd == 3 then (bif (N32 a).snd == 3 then (bif (N32 a).fst == 3 then (bif decide (Int.ofNat (N15 a).length > 0) then (N29) else (false)) else (false)) else (bif (N32 a).snd == 6 then (bif (N32 a).snd == 6 then (bif (N32 a).fst != 0 then (bif Int.ofNat (N15 a).length == 0 then (N29) else (false)) else (false)) else (false)) else (bif (N32 a).snd == 7 then (bif (N32 a).snd == 7 then (bif (N32 a).fst != 0 then (bif Int.ofNat (N15 a).length == 0 then (N29) else (false)) else (false)) else (false)) else (bif (N32 a).snd == 8 then (bif (N32 a).fst != 0 then (bif Int.ofNat (N15 a).length == 0 then (N29) else (false)) else (false)) else (false))))) else (bif (N32 a).snd == 4 then (bif (N32 a).fst == 3 then (bif decide (Int.ofNat (N15 a).length > 0) then (N29) else (false)) else (false)) else (bif (N32 a).snd == 6 then (bif (N32 a).snd == 6 then (bif (N32 a).fst != 0 then (bif Int.ofNat (N15 a).length == 0 then (N29) else (false)) else (false)) else (false)) else (bif (N32 a).snd == 7 then (bif (N32 a).snd == 7 then (bif (N32 a).fst != 0 then (bif Int.ofNat (N15 a).length == 0 then (N29) else (false)) else (false)) else (false)) else (bif (N32 a).snd == 8 then (bif (N32 a).fst != 0 then (bif Int.ofNat (N15 a).length == 0 then (N29) else (false)) else (false)) else (false))))))))))))
noncomputable def ok10 (a : Pos) : Bool := (bif decide (a.turn > 1) then (ok32 (a) && (bif eqOut BinOp.eql ((N32 a).fst == 0 && ((N32 a).snd == 0 && true)) then (ok29  && true) else true)) else (bif decide (a.variant ≥ 9) then (ok32 (a) && (bif eqOut BinOp.eql ((N32 a).fst == 0 && ((N32 a).snd == 0 && true)) then (ok29  && true) else true)) else (ok32 (a) && (ok15 (a) && (ok21 (a) (a.turn) && (bif a.turn == 1 then (bif (N32 a).snd == 0 then (bif (N32 a).fst == 0 then (bif decide (Int.ofNat (N15 a).length > 0) then (ok29  && true) else true) else true) else (bif (N32 a).snd == 1 then (bif (N32 a).fst == 1 then (bif Int.ofNat (N15 a).length == 0 then (bif N21 a a.turn then (ok29  && true) else true) else true) else true) else (bif (N32 a).snd == 2 then (bif (N32 a).fst == 3 then (bif Int.ofNat (N15 a).length == 0 then (bif !N21 a a.turn then (ok29  && true) else true) else true) else true) else (bif (N32 a).snd == 3 then (bif (N32 a).snd == 3 then (bif (N32 a).fst == 3 then (bif decide (Int.ofNat (N15 a).length > 0) then (ok29  && true) else true) else true) else (bif (N32 a).snd == 6 then (bif (N32 a).snd == 6 then (bif (N32 a).fst != 0 then (bif Int.ofNat (N15 a).length == 0 then (ok29  && true) else true) else true) else true) else (bif (N32 a).snd == 7 then (bif (N32 a).snd == 7 then (bif (N32 a).fst != 0 then (bif Int.ofNat (N15 a).length == 0 then (ok29  && true) else true) else true) else true) else (bif (N32 a).snd == 8 then (bif (N32 a).fst != 0 then (bif Int.ofNat (N15 a).length == 0 then (ok29  && true) else true) else true) else true)))) else (bif (N32 a).snd == 4 then (bif (N32 a).fst == 3 then (bif decide (Int.ofNat (N15 a).length > 0) then (ok29  && true) else true) else true) else (bif (N32 a).snd == 6 then (bif (N32 a).snd == 6 then (bif (N32 a).fst != 0 then (bif Int.ofNat (N15 a).length == 0 then (ok29  && true) else true) else true) else true) else (bif (N32 a).snd == 7 then (bif (N32 a).snd == 7 then (bif (N32 a).fst != 0 then (bif Int.ofNat (N15 a).length == 0 then (ok29  && true) else true) else true) else true) else (bif (N32 a).snd == 8 then (bif (N32 a).fst != 0 then (bif Int.ofNat (N15 a).length == 0 then (ok29  && true) else true) else true) else true)))))))) else (bif (N32 a).snd == 0 then (bif (N32 a).fst == 0 then (bif decide (Int.ofNat (N15 a).length > 0) then (ok29  && true) else true) else true) else (bif (N32 a).snd == 1 then (bif (N32 a).fst == 2 then (bif Int.ofNat (N15 a).length == 0 then (bif N21 a a.turn then (ok29  && true) else true) else true) else true) else (bif (N32 a).snd == 2 then (bif (N32 a).fst == 3 then (bif Int.ofNat (N15 a).length == 0 then (bif !N21 a a.turn then (ok29  && true) else true) else true) else true) else (bif (N32 a).snd == 3 then (bif (N32 a).snd == 3 then (bif (N32 a).fst == 3 then (bif decide (Int.ofNat (N15 a).length > 0) then (ok29  && true) else true) else true) else (bif (N32 a).snd == 6 then (bif (N32 a).snd == 6 then (bif (N32 a).fst != 0 then (bif Int.ofNat (N15 a).length == 0 then (ok29  && true) else true) else true) else true) else (bif (N32 a).snd == 7 then (bif (N32 a).snd == 7 then (bif (N32 a).fst != 0 then (bif Int.ofNat (N15 a).length == 0 then (ok29  && true) else true) else true) else true) else (bif (N32 a).snd == 8 then (bif (N32 a).fst != 0 then (bif Int.ofNat (N15 a).length == 0 then (ok29  && true) else true) else true) else true)))) else (bif (N32 a).snd == 4 then (bif (N32 a).fst == 3 then (bif decide (Int.ofNat (N15 a).length > 0) then (ok29  && true) else true) else true) else (bif (N32 a).snd == 6 then (bif (N32 a).snd == 6 then (bif (N32 a).fst != 0 then (bif Int.ofNat (N15 a).length == 0 then (ok29  && true) else true) else true) else true) else (bif (N32 a).snd == 7 then (bif (N32 a).snd == 7 then (bif (N32 a).fst != 0 then (bif Int.ofNat (N15 a).length == 0 then (ok29  && true) else true) else true) else true) else (bif (N32 a).snd == 8 then (bif (N32 a).fst != 0 then (bif Int.ofNat (N15 a).length == 0 then (ok29  && true) else true) else true) else true))))))))))))))
theorem E10 (a : Pos) : evPure B10 14 10 [Pos.av a] = (let z3 := (Tr.br (isPS Pz 29 [] (dB.res N29)) (Tr.ret (AV.bool N29)) Tr.fail); let z4 := (Tr.ret (AV.cbool false)); let z1 := (Tr.br ((N32 a).snd == 6) (Tr.br ((N32 a).snd == 6) (Tr.br ((N32 a).fst != 0) (Tr.br (Int.ofNat (N15 a).length == 0) z3 z4) z4) z4) (Tr.br ((N32 a).snd == 7) (Tr.br ((N32 a).snd == 7) (Tr.br ((N32 a).fst != 0) (Tr.br (Int.ofNat (N15 a).length == 0) z3 z4) z4) z4) (Tr.br ((N32 a).snd == 8) (Tr.br ((N32 a).fst != 0) (Tr.br (Int.ofNat (N15 a).length == 0) z3 z4) z4) z4))); let z2 := (Tr.br ((N32 a).snd == 2) (Tr.br ((N32 a).fst == 3) (Tr.br (Int.ofNat (N15 a).length == 0) (Tr.br (!N21 a a.turn) z3 z4) z4) z4) (Tr.br ((N32 a).snd == 3) (Tr.br ((N32 a).snd == 3) (Tr.br ((N32 a).fst == 3) (Tr.br (decide (Int.ofNat (N15 a).length > 0)) z3 z4) z4) z1) (Tr.br ((N32 a).snd == 4) (Tr.br ((N32 a).fst == 3) (Tr.br (decide (Int.ofNat (N15 a).length > 0)) z3 z4) z4) z1))); let z5 := (Tr.br (isPS Pz 32 [a.av] ((dR .u8 .u8).res (N32 a))) (Tr.br (eqOut BinOp.eql ((N32 a).fst == 0 && ((N32 a).snd == 0 && true))) z3 z4) Tr.fail); let z6 := (Tr.br ((N32 a).fst == 0) (Tr.br (decide (Int.ofNat (N15 a).length > 0)) z3 z4) z4); let z7 := (Tr.br (Int.ofNat (N15 a).length == 0) (Tr.br (N21 a a.turn) z3 z4) z4); Tr.br (decide (a.turn > 1)) z5 (Tr.br (decide (a.variant ≥ 9)) z5 (Tr.br (isPS Pz 32 [a.av] ((dR .u8 .u8).res (N32 a))) (Tr.br (isPS Pz 15 [a.av] ((dL ET.mv).res (N15 a))) (Tr.br (isPS Pz 21 [a.av, AV.int .u8 a.turn] (dB.res (N21 a a.turn))) (Tr.br (a.turn == 1) (Tr.br ((N32 a).snd == 0) z6 (Tr.br ((N32 a).snd == 1) (Tr.br ((N32 a).fst == 1) z7 z4) z2)) (Tr.br ((N32 a).snd == 0) z6 (Tr.br ((N32 a).snd == 1) (Tr.br ((N32 a).fst == 2) z7 z4) z2))) Tr.fail) Tr.fail) Tr.fail))) := by kernel_rfl
theorem P10 (a : Pos) (h : ok10 a = true) : PS Pz 10 [Pos.av a] (dB.res (N10 a)) := ps_gotR hB10 (E10 a) (gr_br (gr_call (P32 (a)) (gr_br (gr_call (P29 ) (gr_ret rfl)) (gr_ret rfl))) (gr_br (gr_call (P32 (a)) (gr_br (gr_call (P29 ) (gr_ret rfl)) (gr_ret rfl))) (gr_call (P32 (a)) (gr_call (P15 (a)) (gr_call (P21 (a) (a.turn)) (gr_br (gr_br (gr_br (gr_br (gr_call (P29 ) (gr_ret rfl)) (gr_ret rfl)) (gr_ret rfl)) (gr_br (gr_br (gr_br (gr_br (gr_call (P29 ) (gr_ret rfl)) (gr_ret rfl)) (gr_ret rfl)) (gr_ret rfl)) (gr_br (gr_br (gr_br (gr_br (gr_call (P29 ) (gr_ret rfl)) (gr_ret rfl)) (gr_ret rfl)) (gr_ret rfl)) (gr_br (gr_br (gr_br (gr_br (gr_call (P29 ) (gr_ret rfl)) (gr_ret rfl)) (gr_ret rfl)) (gr_br (gr_br (gr_br (gr_br (gr_call (P29 ) (gr_ret rfl)) (gr_ret rfl)) (gr_ret rfl)) (gr_ret rfl)) (gr_br (gr_br (gr_br (gr_br (gr_call (P29 ) (gr_ret rfl)) (gr_ret rfl)) (gr_ret rfl)) (gr_ret rfl)) (gr_br (gr_br (gr_br (gr_call (P29 ) (gr_ret rfl)) (gr_ret rfl)) (gr_ret rfl)) (gr_ret rfl))))) (gr_br (gr_br (gr_br (gr_call (P29 ) (gr_ret rfl)) (gr_ret rfl)) (gr_ret rfl)) (gr_br (gr_br (gr_br (gr_br (gr_call (P29 ) (gr_ret rfl)) (gr_ret rfl)) (gr_ret rfl)) (gr_ret rfl)) (gr_br (gr_br (gr_br (gr_br (gr_call (P29 ) (gr_ret rfl)) (gr_ret rfl)) (gr_ret rfl)) (gr_ret rfl)) (gr_br (gr_br (gr_br (gr_call (P29 ) (gr_ret rfl)) (gr_ret rfl)) (gr_ret rfl)) (gr_ret rfl))))))))) (gr_br (gr_br (gr_br (gr_call (P29 ) (gr_ret rfl)) (gr_ret rfl)) (gr_ret rfl)) (gr_br (gr_br (gr_br (gr_br (gr_call (P29 ) (gr_ret rfl)) (gr_ret rfl)) (gr_ret rfl)) (gr_ret rfl)) (gr_br (gr_br (gr_br (gr_br (gr_call (P29 ) (gr_ret rfl)) (gr_ret rfl)) (gr_ret rfl)) (gr_ret rfl)) (gr_br (gr_br (gr_br (gr_br (gr_call (P29 ) (gr_ret rfl)) (gr_ret rfl)) (gr_ret rfl)) (gr_br (gr_br (gr_br (gr_br (gr_call (P29 ) (gr_ret rfl)) (gr_ret rfl)) (gr_ret rfl)) (gr_ret rfl)) (gr_br (gr_br (gr_br (gr_br (gr_call (P29 ) (gr_ret rfl)) (gr_ret rfl)) (gr_ret rfl)) (gr_ret rfl)) (gr_br (gr_br (gr_br (gr_call (P29 ) (gr_ret rfl)) (gr_ret rfl)) (gr_ret rfl)) (gr_ret rfl))))) (gr_br (gr_br (gr_br (gr_call (P29 ) (gr_ret rfl)) (gr_ret rfl)) (gr_ret rfl)) (gr_br (gr_br (gr_br (gr_br (gr_call (P29 ) (gr_ret rfl)) (gr_ret rfl)) (gr_ret rfl)) (gr_ret rfl)) (gr_br (gr_br (gr_br (gr_br (gr_call (P29 ) (gr_ret rfl)) (gr_ret rfl)) (gr_ret rfl)) (gr_ret rfl)) (gr_br (gr_br (gr_br (gr_call (P29 ) (gr_ret rfl)) (gr_ret rfl)) (gr_ret rfl)) (gr_ret rfl))))))))))))))) h
noncomputable def G10 : List AV → Tr AV := g1 dPos (fun a => sure Pz 10 [Pos.av a] (dB.res (N10 a)))
theorem s10 : Sound Pz 10 G10 := sound1 (fun _ => at_sure)
end Kz
end
section
namespace Kz
open Go Go.RowKit
set_option maxRecDepth 100000
set_option maxHeartbeats 4000000
theorem N9_true {r : Int × Int} (a0 : 0 ≤ r.1 ∧ r.1 ≤ 255) (b0 : 0 ≤ r.2 ∧ r.2 ≤ 255) : ok9 r = true ∧ N9 r = true := by
  obtain ⟨a, b⟩ := r
  obtain ⟨h1, h2, h3⟩ := text_same a0.1 a0.2 b0.1 b0.2
  have k29 := ok29_true
  have e29 := N29_true
  unfold ok9 N9
  rw [h1, h2, h3, k29, e29]
  simp
theorem N10_true {p : Pos} (hp : PosIn p) : ok10 p = true ∧ N10 p = true := by
  have k29 := ok29_true
  have e29 := N29_true
  have k32 := t32 hp
  have k15 := t15 hp
  have k21 : ok21 p p.turn = true := t21 hp.v0 hp.t0
  have t0 := hp.t0
  constructor
  · unfold ok10
    repeat' (first | with_reducible rfl | with_reducible exact k32 | with_reducible exact k15 | with_reducible exact k21 | with_reducible exact k29 | refine a_true ?_ (fun _ => ?_) | refine c_true (fun _ => ?_) (fun _ => ?_))
  · unfold N10
    by_cases ht : there p
    · obtain ⟨t1, t2⟩ := ht
      have st := N32_stands hp ⟨t1, t2⟩
      rw [show decide (p.turn > 1) = false by simp; omega, show decide (p.variant ≥ 9) = false by simp; omega]
      simp only [cond_false]
      have pos : 0 < (N15 p).length → decide (Int.ofNat (N15 p).length > 0) = true := fun h => by simp; omega
      have zer : (N15 p).length = 0 → (Int.ofNat (N15 p).length == 0) = true := fun h => by rw [h]; rfl
      have tt : p.turn = 0 ∨ p.turn = 1 := by omega
      rcases st with ⟨h1, h2, h3⟩ | ⟨h1, h2, h3⟩ | ⟨h1, h2, h3⟩ | ⟨h1, h2⟩ | ⟨h1, h2, _⟩ | ⟨h1, h2⟩
      · have h1 : ((N32 p).1 != 0) = true := by simpa using h1
        rw [h1, zer h3, e29]
        rcases h2 with h2 | h2 | h2 <;> rw [h2] <;> rcases tt with h | h <;> rw [h] <;> rfl
      · rw [h1, zer h2, h3, e29]
        rcases tt with h | h <;> rw [h] <;> rfl
      · rw [h1, zer h2, h3, e29]
        rcases tt with h | h <;> rw [h] <;> rfl
      · rw [h1, pos h2, e29]
        rcases tt with h | h <;> rw [h] <;> rfl
      · rw [h1, pos h2, e29]
        rcases tt with h | h <;> rw [h] <;> rfl
      · rw [h1, pos h2, e29]
        rcases tt with h | h <;> rw [h] <;> rfl
    · rw [N32_not ht, e29]
      unfold there at ht
      refine c_true (fun _ => rfl) fun h1 => c_true (fun _ => rfl) fun h2 => ?_
      have h1 : p.turn ≤ 1 := by simpa using h1
      have h2 : p.variant < 9 := by simpa using h2
      exact absurd ⟨h1, h2⟩ ht
end Kz
end
section
namespace Kz
open Go Go.RowKit
set_option maxRecDepth 100000
set_option maxHeartbeats 200000
def dV (B : Nat) : List Nat → Nat
  | [] => 0
  | a :: l => a + B * dV B l
def dM (B : Nat) (n : Nat) : Nat := dV (B * B) (List.replicate n (B - 1))
theorem tb_add {w a x : Nat} (ha : a < 2 ^ w) (j : Nat) : (a + 2 ^ w * x).testBit j = if j < w then a.testBit j else x.testBit (j - w) := by
  rw [Nat.add_comm]
  exact Nat.testBit_two_pow_mul_add x ha j
theorem and_lo {w a m x y : Nat} (ha : a < 2 ^ w) (hm : m < 2 ^ w) : (a + 2 ^ w * x) &&& (m + 2 ^ w * y) = (a &&& m) + 2 ^ w * (x &&& y) := by
  apply Nat.eq_of_testBit_eq
  intro j
  have h : a &&& m < 2 ^ w := Nat.lt_of_le_of_lt Nat.and_le_left ha
  rw [Nat.testBit_and, tb_add ha, tb_add hm, tb_add h]
  split <;> rw [Nat.testBit_and]
theorem and_ones {w a : Nat} (ha : a < 2 ^ w) (x : Nat) : (a + 2 ^ w * x) &&& (2 ^ w - 1) = a := by
  rw [Nat.and_two_pow_sub_one_eq_mod, Nat.add_mul_mod_self_left, Nat.mod_eq_of_lt ha]
theorem step_lo {w : Nat} : ∀ (n : Nat) (ps : List (Nat × Nat)), ps.length = n → (∀ q ∈ ps, q.1 < 2 ^ w ∧ q.2 < 2 ^ w) →
    (dV (2 ^ w * 2 ^ w) (ps.map fun q => q.1 + 2 ^ w * q.2) &&& dM (2 ^ w) n) = dV (2 ^ w * 2 ^ w) (ps.map (·.1))
  | 0, ps, h, _ => by
    obtain rfl := List.length_eq_zero_iff.1 h
    simp [dV]
  | n + 1, [], h, _ => by cases h
  | n + 1, q :: ps, h, hq => by
    obtain ⟨h1, h2⟩ := hq q (by simp)
    have ih := step_lo n ps (by simpa using h) fun q hm => hq q (by simp [hm])
    have hb : q.1 + 2 ^ w * q.2 < 2 ^ (w + w) := by
      rw [Nat.pow_add]
      have : 2 ^ w * q.2 ≤ 2 ^ w * (2 ^ w - 1) := Nat.mul_le_mul_left _ (by omega)
      rw [Nat.mul_sub_one] at this
      have := Nat.le_mul_self (2 ^ w)
      omega
    have hm : 2 ^ w - 1 < 2 ^ (w + w) := by
      have := Nat.pow_le_pow_right (n := 2) (by omega) (show w ≤ w + w by omega)
      have := Nat.two_pow_pos w
      omega
    simp only [List.map_cons, dM, List.replicate_succ, dV] at ih ⊢
    rw [← Nat.pow_add] at ih ⊢
    rw [and_lo hb hm, ih, and_ones h1]
theorem step_hi {w : Nat} : ∀ (n : Nat) (ps : List (Nat × Nat)), ps.length = n → (∀ q ∈ ps, q.1 < 2 ^ w ∧ q.2 < 2 ^ w) →
    (dV (2 ^ w * 2 ^ w) (ps.map fun q => q.1 + 2 ^ w * q.2) / 2 ^ w &&& dM (2 ^ w) n) = dV (2 ^ w * 2 ^ w) (ps.map (·.2))
  | 0, ps, h, _ => by
    obtain rfl := List.length_eq_zero_iff.1 h
    simp [dV]
  | n + 1, [], h, _ => by cases h
  | n + 1, q :: ps, h, hq => by
    obtain ⟨h1, h2⟩ := hq q (by simp)
    have ih := step_hi n ps (by simpa using h) fun q hm => hq q (by simp [hm])
    have hpos := Nat.two_pow_pos w
    have hm : 2 ^ w - 1 < 2 ^ (w + w) := by
      have := Nat.pow_le_pow_right (n := 2) (by omega) (show w ≤ w + w by omega)
      omega
    simp only [List.map_cons, dM, List.replicate_succ, dV] at ih ⊢
    generalize dV (2 ^ w * 2 ^ w) (ps.map fun q => q.1 + 2 ^ w * q.2) = R at ih ⊢
    have e : (q.1 + 2 ^ w * q.2 + 2 ^ w * 2 ^ w * R) / 2 ^ w = (q.2 + 2 ^ w * (R % 2 ^ w)) + 2 ^ (w + w) * (R / 2 ^ w) := by
      rw [show q.1 + 2 ^ w * q.2 + 2 ^ w * 2 ^ w * R = q.1 + 2 ^ w * (q.2 + 2 ^ w * R) by rw [Nat.mul_add, Nat.mul_assoc, Nat.add_assoc], Nat.add_mul_div_left _ _ hpos, Nat.div_eq_of_lt h1, Nat.zero_add, Nat.pow_add, Nat.mul_assoc, Nat.add_assoc, ← Nat.mul_add, Nat.mod_add_div]
    have hb : q.2 + 2 ^ w * (R % 2 ^ w) < 2 ^ (w + w) := by
      rw [Nat.pow_add]
      have hr := Nat.mod_lt R hpos
      have : 2 ^ w * (R % 2 ^ w) ≤ 2 ^ w * (2 ^ w - 1) := Nat.mul_le_mul_left _ (by omega)
      rw [Nat.mul_sub_one] at this
      have := Nat.le_mul_self (2 ^ w)
      omega
    rw [e]
    rw [← Nat.pow_add] at ih ⊢
    rw [and_lo hb hm, ih, and_ones h2]
theorem dV_add {K : Nat} {α : Type} (f g : α → Nat) : ∀ l : List α, dV K (l.map f) + dV K (l.map g) = dV K (l.map fun a => f a + g a)
  | [] => rfl
  | a :: l => by
    simp only [List.map_cons, dV]
    rw [← dV_add f g l, Nat.mul_add]
    omega
def Dig (B n D x t : Nat) : Prop := ∃ l : List Nat, l.length = n ∧ (∀ d ∈ l, d ≤ D) ∧ dV B l = x ∧ l.sum = t
theorem pairs_of : ∀ (n : Nat) (l : List Nat), l.length = 2 * n → ∃ ps : List (Nat × Nat), ps.length = n ∧ l = ps.flatMap fun q => [q.1, q.2]
  | 0, l, h => ⟨[], rfl, by simpa using h⟩
  | n + 1, [], h => by simp at h
  | n + 1, [a], h => by simp at h; omega
  | n + 1, a :: c :: l, h => by
    obtain ⟨ps, h1, rfl⟩ := pairs_of n l (by simp at h; omega)
    exact ⟨(a, c) :: ps, by simp [h1], rfl⟩
theorem dV_pairs {B : Nat} : ∀ ps : List (Nat × Nat), dV B (ps.flatMap fun q => [q.1, q.2]) = dV (B * B) (ps.map fun q => q.1 + B * q.2)
  | [] => rfl
  | q :: ps => by
    simp only [List.flatMap_cons, List.cons_append, List.nil_append, List.map_cons, dV]
    rw [dV_pairs ps, Nat.mul_add, Nat.mul_assoc, Nat.add_assoc]
theorem sum_pairs : ∀ ps : List (Nat × Nat), (ps.flatMap fun q => [q.1, q.2]).sum = (ps.map fun q => q.1 + q.2).sum
  | [] => rfl
  | q :: ps => by
    simp only [List.flatMap_cons, List.cons_append, List.nil_append, List.map_cons, List.sum_cons]
    rw [sum_pairs ps]; omega
theorem dig_step {w n D x t : Nat} (hD : D < 2 ^ w) (h : Dig (2 ^ w) (2 * n) D x t) : Dig (2 ^ w * 2 ^ w) n (2 * D) ((x / 2 ^ w &&& dM (2 ^ w) n) + (x &&& dM (2 ^ w) n)) t := by
  obtain ⟨l, h1, h2, rfl, rfl⟩ := h
  obtain ⟨ps, h3, rfl⟩ := pairs_of n l h1
  have hb : ∀ q ∈ ps, q.1 ≤ D ∧ q.2 ≤ D := fun q hq => ⟨h2 _ (List.mem_flatMap.2 ⟨q, hq, by simp⟩), h2 _ (List.mem_flatMap.2 ⟨q, hq, by simp⟩)⟩
  have hq : ∀ q ∈ ps, q.1 < 2 ^ w ∧ q.2 < 2 ^ w := fun q hm => by have := hb q hm; omega
  refine ⟨ps.map fun q => q.1 + q.2, by simp [h3], ?_, ?_, (sum_pairs ps).symm⟩
  · intro d hd
    obtain ⟨q, hm, rfl⟩ := List.mem_map.1 hd
    have := hb q hm
    omega
  · rw [dV_pairs, step_lo n ps h3 hq, step_hi n ps h3 hq, Nat.add_comm, dV_add]
theorem step_sum {w D : Nat} (hD : 2 * D < 2 ^ w) : ∀ (n : Nat) (ps : List (Nat × Nat)), ps.length = n → (∀ q ∈ ps, q.1 ≤ D ∧ q.2 ≤ D) →
    (dV (2 ^ w * 2 ^ w) (ps.map fun q => q.1 + 2 ^ w * q.2) / 2 ^ w + dV (2 ^ w * 2 ^ w) (ps.map fun q => q.1 + 2 ^ w * q.2) &&& dM (2 ^ w) n) = dV (2 ^ w * 2 ^ w) (ps.map fun q => q.1 + q.2)
  | 0, ps, h, _ => by
    obtain rfl := List.length_eq_zero_iff.1 h
    simp [dV]
  | n + 1, [], h, _ => by cases h
  | n + 1, q :: ps, h, hq => by
    obtain ⟨h1, h2⟩ := hq q (by simp)
    have ih := step_sum hD n ps (by simpa using h) fun q hm => hq q (by simp [hm])
    have hpos := Nat.two_pow_pos w
    have hlow : dV (2 ^ w * 2 ^ w) (ps.map fun q => q.1 + 2 ^ w * q.2) % 2 ^ w ≤ D := by
      cases ps with
      | nil => simp [dV]
      | cons r rs =>
        have hr := hq r (by simp)
        simp only [List.map_cons, dV]
        rw [Nat.mul_assoc, Nat.add_assoc, ← Nat.mul_add, Nat.add_mul_mod_self_left, Nat.mod_eq_of_lt (by omega)]
        exact hr.1
    have hm : 2 ^ w - 1 < 2 ^ (w + w) := by
      have := Nat.pow_le_pow_right (n := 2) (by omega) (show w ≤ w + w by omega)
      omega
    simp only [List.map_cons, dM, List.replicate_succ, dV] at ih ⊢
    generalize dV (2 ^ w * 2 ^ w) (ps.map fun q => q.1 + 2 ^ w * q.2) = R at ih hlow ⊢
    have e1 : (q.1 + 2 ^ w * q.2 + 2 ^ w * 2 ^ w * R) / 2 ^ w = q.2 + 2 ^ w * R := by
      rw [show q.1 + 2 ^ w * q.2 + 2 ^ w * 2 ^ w * R = q.1 + 2 ^ w * (q.2 + 2 ^ w * R) by rw [Nat.mul_add, Nat.mul_assoc, Nat.add_assoc], Nat.add_mul_div_left _ _ hpos, Nat.div_eq_of_lt (by omega), Nat.zero_add]
    have e2 : q.2 + 2 ^ w * R + (q.1 + 2 ^ w * q.2 + 2 ^ w * 2 ^ w * R) = (q.1 + q.2 + 2 ^ w * (q.2 + R % 2 ^ w)) + 2 ^ (w + w) * (R / 2 ^ w + R) := by
      have hR := Nat.mod_add_div R (2 ^ w)
      rw [Nat.pow_add]
      have : 2 ^ w * R = 2 ^ w * (R % 2 ^ w) + 2 ^ w * 2 ^ w * (R / 2 ^ w) := by
        rw [Nat.mul_assoc, ← Nat.mul_add, hR]
      rw [Nat.mul_add, Nat.mul_add]
      omega
    have hb : q.1 + q.2 + 2 ^ w * (q.2 + R % 2 ^ w) < 2 ^ (w + w) := by
      rw [Nat.pow_add]
      have : 2 ^ w * (q.2 + R % 2 ^ w) ≤ 2 ^ w * (2 ^ w - 1) := Nat.mul_le_mul_left _ (by omega)
      rw [Nat.mul_sub_one] at this
      have := Nat.le_mul_self (2 ^ w)
      omega
    rw [e1, e2]
    rw [← Nat.pow_add] at ih ⊢
    rw [and_lo hb hm, ih, and_ones (by omega)]
theorem dig_sum {w n D x t : Nat} (hD : 2 * D < 2 ^ w) (h : Dig (2 ^ w) (2 * n) D x t) : Dig (2 ^ w * 2 ^ w) n (2 * D) (x / 2 ^ w + x &&& dM (2 ^ w) n) t := by
  obtain ⟨l, h1, h2, rfl, rfl⟩ := h
  obtain ⟨ps, h3, rfl⟩ := pairs_of n l h1
  have hb : ∀ q ∈ ps, q.1 ≤ D ∧ q.2 ≤ D := fun q hq => ⟨h2 _ (List.mem_flatMap.2 ⟨q, hq, by simp⟩), h2 _ (List.mem_flatMap.2 ⟨q, hq, by simp⟩)⟩
  refine ⟨ps.map fun q => q.1 + q.2, by simp [h3], ?_, ?_, (sum_pairs ps).symm⟩
  · intro d hd
    obtain ⟨q, hm, rfl⟩ := List.mem_map.1 hd
    have := hb q hm
    omega
  · rw [dV_pairs, step_sum hD n ps h3 hb]
theorem dV_lt {K : Nat} : ∀ l : List Nat, (∀ d ∈ l, d < K) → dV K l < K ^ l.length
  | [], _ => by simp [dV]
  | a :: l, h => by
    have ih := dV_lt l fun d hd => h d (by simp [hd])
    have ha := h a (by simp)
    simp only [dV, List.length_cons, Nat.pow_succ]
    have : K * dV K l ≤ K * (K ^ l.length - 1) := Nat.mul_le_mul_left _ (by omega)
    rw [Nat.mul_sub_one] at this
    rw [Nat.mul_comm (K ^ l.length)]
    have hk : K ≤ K * K ^ l.length := Nat.le_mul_of_pos_right _ (Nat.pow_pos (by omega))
    omega
theorem Dig.lt {B n D x t : Nat} (h : Dig B n D x t) (hD : D < B) : x < B ^ n := by
  obtain ⟨l, rfl, h2, rfl, _⟩ := h
  exact dV_lt l fun d hd => by have := h2 d hd; omega
def bitsF (x : BitVec 64) : Nat → Nat → List Nat
  | _, 0 => []
  | i, n + 1 => (x.getLsbD i).toNat :: bitsF x (i + 1) n
def ones (x : BitVec 64) : Nat := (bitsF x 0 64).sum
theorem bitsF_len (x : BitVec 64) : ∀ n i, (bitsF x i n).length = n
  | 0, _ => rfl
  | n + 1, i => by simp [bitsF, bitsF_len x n]
theorem bitsF_le (x : BitVec 64) : ∀ n i, ∀ d ∈ bitsF x i n, d ≤ 1
  | 0, _, _, h => by cases h
  | n + 1, i, d, h => by
    simp only [bitsF, List.mem_cons] at h
    rcases h with rfl | h
    · cases x.getLsbD i <;> simp
    · exact bitsF_le x n _ d h
theorem bitsF_val (x : BitVec 64) : ∀ n i, dV 2 (bitsF x i n) = x.toNat / 2 ^ i % 2 ^ n
  | 0, _ => by simp [bitsF, dV, Nat.mod_one]
  | n + 1, i => by
    simp only [bitsF, dV]
    rw [bitsF_val x n (i + 1), show (2 : Nat) ^ (n + 1) = 2 * 2 ^ n from Nat.pow_succ', Nat.mod_mul, Nat.div_div_eq_div_mul, ← Nat.pow_succ]
    congr 1
    rw [BitVec.getLsbD, Nat.testBit_eq_decide_div_mod_eq]
    have := Nat.mod_two_eq_zero_or_one (x.toNat / 2 ^ i)
    rcases this with h | h <;> rw [h] <;> rfl
theorem pc_dig (x : BitVec 64) : Dig (2 ^ 1) (2 * 32) 1 x.toNat (ones x) := by
  refine ⟨bitsF x 0 64, bitsF_len x 64 0, bitsF_le x 64 0, ?_, rfl⟩
  have := bitsF_val x 64 0
  rw [show (2 : Nat) ^ 1 = 2 from rfl, this, Nat.pow_zero, Nat.div_one, Nat.mod_eq_of_lt x.isLt]
theorem pc_le (x : BitVec 64) : ones x ≤ 64 := by
  have : ∀ l : List Nat, (∀ d ∈ l, d ≤ 1) → l.sum ≤ l.length := by
    intro l
    induction l with
    | nil => intro _; simp
    | cons a l ih =>
      intro h
      have := ih fun d hd => h d (by simp [hd])
      have := h a (by simp)
      simp only [List.sum_cons, List.length_cons]
      omega
  have h := this _ (bitsF_le x 64 0)
  rw [bitsF_len] at h
  exact h
theorem pc_mono {x y : BitVec 64} (h : ∀ i, x.getLsbD i = true → y.getLsbD i = true) : ones x ≤ ones y := by
  have : ∀ n i, (bitsF x i n).sum ≤ (bitsF y i n).sum := by
    intro n
    induction n with
    | zero => intro i; simp [bitsF]
    | succ n ih =>
      intro i
      simp only [bitsF, List.sum_cons]
      have h1 := ih (i + 1)
      have h2 : (x.getLsbD i).toNat ≤ (y.getLsbD i).toNat := by
        have := h i
        revert this
        cases x.getLsbD i <;> cases y.getLsbD i <;> simp
      omega
  exact this 64 0
theorem N61_let (a : BitVec 64) : N61 a =
    let s1 := (a >>> 1 &&& 6148914691236517205#64) + (a &&& 6148914691236517205#64)
    let s2 := (s1 >>> 2 &&& 3689348814741910323#64) + (s1 &&& 3689348814741910323#64)
    let s3 := s2 >>> 4 + s2 &&& 1085102592571150095#64
    let s4 := s3 + s3 >>> 8
    let s5 := s4 + s4 >>> 16
    let s6 := s5 + s5 >>> 32
    ibits BinOp.and IntKind.i64 (wr IntKind.i64 ↑s6.toNat) 127 := by kernel_rfl
theorem divK {r q K : Nat} (h : r < K) : (r + K * q) / K = q := by
  rw [Nat.add_mul_div_left _ _ (by omega), Nat.div_eq_of_lt h, Nat.zero_add]
theorem e8a (a b c d e f g i : Nat) : a + 256 * b + 65536 * c + 16777216 * d + 4294967296 * e + 1099511627776 * f + 281474976710656 * g + 72057594037927936 * i = a + 256 * (b + 256 * c + 65536 * d + 16777216 * e + 4294967296 * f + 1099511627776 * g + 281474976710656 * i) := by omega
theorem e8b (a b c d e f g i : Nat) : a + 256 * b + 65536 * c + 16777216 * d + 4294967296 * e + 1099511627776 * f + 281474976710656 * g + 72057594037927936 * i + (b + 256 * c + 65536 * d + 16777216 * e + 4294967296 * f + 1099511627776 * g + 281474976710656 * i) = ((a + b) + 256 * (b + c)) + 65536 * ((c + d) + 256 * (d + e) + 65536 * (e + f) + 16777216 * (f + g) + 4294967296 * (g + i) + 1099511627776 * i) := by omega
theorem e8c (a b c d e f g i : Nat) : ((a + b) + 256 * (b + c)) + 65536 * ((c + d) + 256 * (d + e) + 65536 * (e + f) + 16777216 * (f + g) + 4294967296 * (g + i) + 1099511627776 * i) + ((c + d) + 256 * (d + e) + 65536 * (e + f) + 16777216 * (f + g) + 4294967296 * (g + i) + 1099511627776 * i) = ((a + b + c + d) + 256 * (b + c + d + e) + 65536 * (c + d + e + f) + 16777216 * (d + e + f + g)) + 4294967296 * ((e + f + g + i) + 256 * (f + g + i) + 65536 * (g + i) + 16777216 * i) := by omega
theorem e8d (a b c d e f g i : Nat) : ((a + b + c + d) + 256 * (b + c + d + e) + 65536 * (c + d + e + f) + 16777216 * (d + e + f + g)) + 4294967296 * ((e + f + g + i) + 256 * (f + g + i) + 65536 * (g + i) + 16777216 * i) + ((e + f + g + i) + 256 * (f + g + i) + 65536 * (g + i) + 16777216 * i) = (a + b + c + d + e + f + g + i) + 128 * (2 * (b + c + d + e) + 512 * (c + d + e + f) + 131072 * (d + e + f + g) + 33554432 * ((e + f + g + i) + 256 * (f + g + i) + 65536 * (g + i) + 16777216 * i) + 2 * (f + g + i) + 512 * (g + i) + 131072 * i) := by omega
theorem b8a {a b c d e f g i : Nat} (k1 : a ≤ 8) (k2 : b ≤ 8) (k3 : c ≤ 8) (k4 : d ≤ 8) (k5 : e ≤ 8) (k6 : f ≤ 8) (k7 : g ≤ 8) (k8 : i ≤ 8) : a + b + c + d + e + f + g + i < 128 := by omega
theorem b8b {a b c d e f g i : Nat} (k1 : a ≤ 8) (k2 : b ≤ 8) (k3 : c ≤ 8) (k4 : d ≤ 8) (k5 : e ≤ 8) (k6 : f ≤ 8) (k7 : g ≤ 8) (k8 : i ≤ 8) : (a + b + c + d) + 256 * (b + c + d + e) + 65536 * (c + d + e + f) + 16777216 * (d + e + f + g) < 4294967296 := by omega
theorem b8c {a b c : Nat} (k1 : a ≤ 8) (k2 : b ≤ 8) (k3 : c ≤ 8) : (a + b) + 256 * (b + c) < 65536 := by omega
theorem fin8 {a b c d e f g i x : Nat} (k1 : a ≤ 8) (k2 : b ≤ 8) (k3 : c ≤ 8) (k4 : d ≤ 8) (k5 : e ≤ 8) (k6 : f ≤ 8) (k7 : g ≤ 8) (k8 : i ≤ 8)
    (hx : x = a + 256 * b + 65536 * c + 16777216 * d + 4294967296 * e + 1099511627776 * f + 281474976710656 * g + 72057594037927936 * i) :
    ((x + x / 256) + (x + x / 256) / 65536 + ((x + x / 256) + (x + x / 256) / 65536) / 4294967296) % 128 = a + b + c + d + e + f + g + i ∧ x < 1152921504606846976 := by
  have hb : x < 1152921504606846976 := by omega
  have l1 : a < 256 := Nat.lt_of_le_of_lt k1 (by decide)
  have l2 := b8c k1 k2 k3
  have l3 := b8b k1 k2 k3 k4 k5 k6 k7 k8
  have l4 := b8a k1 k2 k3 k4 k5 k6 k7 k8
  have h1 : x / 256 = b + 256 * c + 65536 * d + 16777216 * e + 4294967296 * f + 1099511627776 * g + 281474976710656 * i := by
    rw [hx, e8a a b c d e f g i]; exact divK l1
  refine ⟨?_, hb⟩
  have y : x + x / 256 = ((a + b) + 256 * (b + c)) + 65536 * ((c + d) + 256 * (d + e) + 65536 * (e + f) + 16777216 * (f + g) + 4294967296 * (g + i) + 1099511627776 * i) := by rw [h1, hx]; exact e8b a b c d e f g i
  have y2 : (x + x / 256) / 65536 = (c + d) + 256 * (d + e) + 65536 * (e + f) + 16777216 * (f + g) + 4294967296 * (g + i) + 1099511627776 * i := by rw [y]; exact divK l2
  generalize x + x / 256 = Y at y y2 ⊢
  have z : Y + Y / 65536 = ((a + b + c + d) + 256 * (b + c + d + e) + 65536 * (c + d + e + f) + 16777216 * (d + e + f + g)) + 4294967296 * ((e + f + g + i) + 256 * (f + g + i) + 65536 * (g + i) + 16777216 * i) := by rw [y2, y]; exact e8c a b c d e f g i
  have z2 : (Y + Y / 65536) / 4294967296 = (e + f + g + i) + 256 * (f + g + i) + 65536 * (g + i) + 16777216 * i := by rw [z]; exact divK l3
  generalize Y + Y / 65536 = Z at z z2 ⊢
  rw [z2, z]
  refine (congrArg (· % 128) (e8d a b c d e f g i)).trans ?_
  show (_ + 128 * _) % 128 = _
  rw [Nat.add_mul_mod_self_left]
  exact Nat.mod_eq_of_lt l4
theorem len8 {l : List Nat} (h : l.length = 8) : ∃ a b c d e f g i, l = [a, b, c, d, e, f, g, i] := by
  rcases l with _ | ⟨a, _ | ⟨b, _ | ⟨c, _ | ⟨d, _ | ⟨e, _ | ⟨f, _ | ⟨g, _ | ⟨i, _ | ⟨j, l⟩⟩⟩⟩⟩⟩⟩⟩⟩
  all_goals first | exact ⟨_, _, _, _, _, _, _, _, rfl⟩ | (simp only [List.length_cons, List.length_nil] at h; omega)
theorem last8 {x t : Nat} (h : Dig 256 8 8 x t) : ((x + x / 256) + (x + x / 256) / 65536 + ((x + x / 256) + (x + x / 256) / 65536) / 4294967296) % 128 = t ∧ x < 1152921504606846976 := by
  obtain ⟨l, h1, h2, h3, h4⟩ := h
  obtain ⟨a, b, c, d, e, f, g, i, rfl⟩ := len8 h1
  have h5 : a + b + c + d + e + f + g + i = t := by
    rw [← h4]; simp only [List.sum_cons, List.sum_nil, Nat.add_zero, Nat.add_assoc]
  rw [← h5]
  refine fin8 (h2 a (by simp)) (h2 b (by simp)) (h2 c (by simp)) (h2 d (by simp)) (h2 e (by simp)) (h2 f (by simp)) (h2 g (by simp)) (h2 i (by simp)) ?_
  rw [← h3]
  simp only [dV, Nat.mul_add, ← Nat.mul_assoc, Nat.reduceMul, Nat.mul_zero, Nat.add_zero, Nat.add_assoc]
theorem dV_le {K D : Nat} (hK : 0 < K) : ∀ l : List Nat, (∀ d ∈ l, d ≤ D) → dV K l * (K - 1) ≤ D * (K ^ l.length - 1)
  | [], _ => by simp [dV]
  | a :: l, h => by
    have ih := dV_le hK l fun d hd => h d (by simp [hd])
    have ha := h a (by simp)
    simp only [dV, List.length_cons]
    have e : K ^ (l.length + 1) - 1 = (K - 1) + K * (K ^ l.length - 1) := by
      rw [Nat.pow_succ', Nat.mul_sub_one]
      have : K * 1 ≤ K * K ^ l.length := Nat.mul_le_mul_left _ (Nat.pow_pos hK)
      omega
    rw [e, Nat.add_mul, Nat.mul_add, Nat.mul_assoc]
    have h1 : a * (K - 1) ≤ D * (K - 1) := Nat.mul_le_mul_right _ ha
    have h2 : K * (dV K l * (K - 1)) ≤ K * (D * (K ^ l.length - 1)) := Nat.mul_le_mul_left _ ih
    have h3 : K * (D * (K ^ l.length - 1)) = D * (K * (K ^ l.length - 1)) := Nat.mul_left_comm _ _ _
    omega
theorem and127 {n : Nat} (h : n < 9223372036854775808) : ibits BinOp.and IntKind.i64 (wr IntKind.i64 ↑n) 127 = ((n % 128 : Nat) : Int) := by
  rw [wi64 (by omega) (by omega)]
  have e : (BitVec.ofInt 64 (n : Int) &&& BitVec.ofInt 64 127).toNat = n % 128 := by
    rw [BitVec.toNat_and, BitVec.ofInt_natCast, BitVec.toNat_ofNat, show (BitVec.ofInt 64 127).toNat = 2 ^ 7 - 1 from rfl, Nat.and_two_pow_sub_one_eq_mod]
    omega
  show IntKind.i64.wrap _ = _
  rw [show (BitVec.ofInt IntKind.i64.bits (n : Int) &&& BitVec.ofInt IntKind.i64.bits 127).toNat = n % 128 from e]
  exact wi64 (by omega) (by omega)
theorem N61_pc (a : BitVec 64) : N61 a = ones a := by
  rw [N61_let]
  have d1 := dig_step (w := 1) (n := 32) (D := 1) (by decide) (pc_dig a)
  have d2 := dig_step (w := 2) (n := 16) (D := 2) (by decide) (x := (a.toNat / 2 ^ 1 &&& dM (2 ^ 1) 32) + (a.toNat &&& dM (2 ^ 1) 32)) (t := ones a) d1
  have l1 := d1.lt (by decide)
  have l2 := d2.lt (by decide)
  have d3 := dig_sum (w := 4) (n := 8) (D := 4) (by decide) d2
  have l3 := d3.lt (by decide)
  have m1 : dM (2 ^ 1) 32 = 6148914691236517205 := by decide
  have m2 : dM (2 ^ 2) 16 = 3689348814741910323 := by decide
  have m3 : dM (2 ^ 4) 8 = 1085102592571150095 := by decide
  rw [m1] at d1 d2 l1 l2 d3 l3
  rw [m2] at d2 l2 d3 l3
  rw [m3] at d3 l3
  dsimp only
  have e1 : ((a >>> 1 &&& 6148914691236517205#64) + (a &&& 6148914691236517205#64)).toNat = (a.toNat / 2 ^ 1 &&& 6148914691236517205) + (a.toNat &&& 6148914691236517205) := by
    rw [BitVec.toNat_add, BitVec.toNat_and, BitVec.toNat_and, BitVec.toNat_ushiftRight, Nat.shiftRight_eq_div_pow]
    exact Nat.mod_eq_of_lt l1
  generalize (a >>> 1 &&& 6148914691236517205#64) + (a &&& 6148914691236517205#64) = s1 at e1 ⊢
  rw [← e1] at d2 l2 d3 l3
  have e2 : ((s1 >>> 2 &&& 3689348814741910323#64) + (s1 &&& 3689348814741910323#64)).toNat = (s1.toNat / 2 ^ 2 &&& 3689348814741910323) + (s1.toNat &&& 3689348814741910323) := by
    rw [BitVec.toNat_add, BitVec.toNat_and, BitVec.toNat_and, BitVec.toNat_ushiftRight, Nat.shiftRight_eq_div_pow]
    exact Nat.mod_eq_of_lt l2
  generalize (s1 >>> 2 &&& 3689348814741910323#64) + (s1 &&& 3689348814741910323#64) = s2 at e2 ⊢
  rw [← e2] at d3 l3 l2 d2
  have k2 : s2.toNat / 2 ^ 4 + s2.toNat < 2 ^ 64 := by
    obtain ⟨l, h1, h2, h3, _⟩ := d2
    have h5 := dV_le (K := 2 ^ 2 * 2 ^ 2) (D := 2 * 2) (by decide) l h2
    rw [h3, h1] at h5
    omega
  have e3 : (s2 >>> 4 + s2 &&& 1085102592571150095#64).toNat = (s2.toNat / 2 ^ 4 + s2.toNat &&& 1085102592571150095) := by
    rw [BitVec.toNat_and, BitVec.toNat_add, BitVec.toNat_ushiftRight, Nat.shiftRight_eq_div_pow, Nat.mod_eq_of_lt k2]
    rfl
  generalize (s2 >>> 4 + s2 &&& 1085102592571150095#64) = s3 at e3 ⊢
  rw [← e3] at d3 l3
  obtain ⟨f1, f2⟩ := last8 d3
  have e4 : (s3 + s3 >>> 8).toNat = s3.toNat + s3.toNat / 256 := by
    rw [BitVec.toNat_add, BitVec.toNat_ushiftRight, Nat.shiftRight_eq_div_pow]
    omega
  generalize s3 + s3 >>> 8 = s4 at e4 ⊢
  have e5 : (s4 + s4 >>> 16).toNat = s4.toNat + s4.toNat / 65536 := by
    rw [BitVec.toNat_add, BitVec.toNat_ushiftRight, Nat.shiftRight_eq_div_pow]
    omega
  generalize s4 + s4 >>> 16 = s5 at e5 ⊢
  have e6 : (s5 + s5 >>> 32).toNat = s5.toNat + s5.toNat / 4294967296 := by
    rw [BitVec.toNat_add, BitVec.toNat_ushiftRight, Nat.shiftRight_eq_div_pow]
    omega
  rw [and127 (by rw [e6]; omega), e6, e5, e4, f1]
end Kz
end
section
namespace Kz
open Go Go.RowKit Go.Proofs
set_option maxRecDepth 100000
set_option maxHeartbeats 4000000
noncomputable def K12 : List (Nat × List (Nat × List Nat)) := [(12, [(0, (0 :: (rn 4 26 (rn 32 7 [40, 41])))), (1, (0 :: (rn 4 26 (rn 32 7 [40, 41])))), (2, (0 :: 4 :: 5 :: 6 :: (rn 8 22 (rn 32 7 [40, 41])))), (3, (0 :: 2 :: 4 :: 5 :: 6 :: (rn 8 22 (rn 32 7 [40, 41])))), (4, (0 :: 2 :: 4 :: 5 :: 6 :: (rn 8 14 (rn 23 7 (rn 32 7 [40, 41]))))), (5, (rn 0 6 (rn 7 35 []))), (6, (0 :: (rn 2 5 (rn 8 24 (rn 33 6 [40, 41]))))), (7, (rn 0 7 (rn 8 31 [40, 41]))), (8, (rn 0 6 (rn 7 35 []))), (9, (rn 0 6 (rn 7 35 [])))])]
noncomputable def B12 : Base := baseOf Pz (fun f i => lkK f i K12) [(27, G27), (29, G29)] [] []
theorem hB12 : BOk B12 := base_ok named_z ⟨s27, s29, trivial⟩ trivial trivial
noncomputable def N12 (a : Pos) (b : Int) (c : Int) : Bool := (bif c.tmod 3 == Int.ofNat 0 then (bif N27 (Pos.mk a.variant (a.board.set (scale 1 (wr .i64 (Int.ofNat (BitVec.ofInt 64 b % 64#64).toNat))).toNat 1) a.promoted a.pockets a.turn a.rooks a.passing a.checks a.half a.full) then (false) else (bif (a.board.getD (scale 1 (wr .i64 (Int.ofNat (BitVec.ofInt 64 b % 64#64).toNat))).toNat 0).tmod 8 != 6 then (bif N27 a then (bif N27 (Pos.mk a.variant ((a.board.set (scale 1 (wr .i64 (Int.ofNat (BitVec.ofInt 64 b % 64#64).toNat))).toNat 1).set (scale 1 (wr .i64 (Int.ofNat (BitVec.ofInt 64 b % 64#64).toNat))).toNat 0) a.promoted a.pockets a.turn a.rooks a.passing a.checks a.half a.full) then (N29) else (false)) else (N29)) else (N29))) else (bif c.tmod 3 == Int.ofNat 1 then (bif N27 (Pos.mk a.variant (a.board.set (scale 1 (wr .i64 (Int.ofNat (BitVec.ofInt 64 b % 64#64).toNat))).toNat 4) a.promoted a.pockets a.turn a.rooks a.passing a.checks a.half a.full) then (false) else (bif (a.board.getD (scale 1 (wr .i64 (Int.ofNat (BitVec.ofInt 64 b % 64#64).toNat))).toNat 0).tmod 8 != 6 then (bif N27 a then (bif N27 (Pos.mk a.variant ((a.board.set (scale 1 (wr .i64 (Int.ofNat (BitVec.ofInt 64 b % 64#64).toNat))).toNat 4).set (scale 1 (wr .i64 (Int.ofNat (BitVec.ofInt 64 b % 64#64).toNat))).toNat 0) a.promoted a.pockets a.turn a.rooks a.passing a.checks a.half a.full) then (N29) else (false)) else (N29)) else (N29))) else (bif N27 (Pos.mk a.variant (a.board.set (scale 1 (wr .i64 (Int.ofNat (BitVec.ofInt 64 b % 64#64).toNat))).toNat 5) a.promoted a.pockets a.turn a.rooks a.passing a.checks a.half a.full) then (false) else (bif (a.board.getD (scale 1 (wr .i64 (Int.ofNat (BitVec.ofInt 64 b % 64#64).toNat))).toNat 0).tmod 8 != 6 then (bif N27 a then (bif N27 (Pos.mk a.variant ((a.board.set (scale 1 (wr .i64 (Int.ofNat (BitVec.ofInt 64 b % 64#64).toNat))).toNat 5).set (scale 1 (wr .i64 (Int.ofNat (BitVec.ofInt 64 b % 64#64).toNat))).toNat 0) a.promoted a.pockets a.turn a.rooks a.passing a.checks a.half a.full) then (N29) else (false)) else (N29)) else (N29)))))
noncomputable def ok12 (a : Pos) (b : Int) (c : Int) : Bool := (!64#64 == 0#64 && (decide (0 ≤ c.tmod 3) && decide (c.tmod 3 < Int.ofNat 3) && (bif c.tmod 3 == Int.ofNat 0 then (decide (0 ≤ wr .i64 (Int.ofNat (BitVec.ofInt 64 b % 64#64).toNat)) && decide (wr .i64 (Int.ofNat (BitVec.ofInt 64 b % 64#64).toNat) < Int.ofNat 64) && (ok27 (Pos.mk a.variant (a.board.set (scale 1 (wr .i64 (Int.ofNat (BitVec.ofInt 64 b % 64#64).toNat))).toNat 1) a.promoted a.pockets a.turn a.rooks a.passing a.checks a.half a.full) && (bif N27 (Pos.mk a.variant (a.board.set (scale 1 (wr .i64 (Int.ofNat (BitVec.ofInt 64 b % 64#64).toNat))).toNat 1) a.promoted a.pockets a.turn a.rooks a.passing a.checks a.half a.full) then true else (decide (0 ≤ wr .i64 (Int.ofNat (BitVec.ofInt 64 b % 64#64).toNat)) && decide (wr .i64 (Int.ofNat (BitVec.ofInt 64 b % 64#64).toNat) < Int.ofNat 64) && (bif (a.board.getD (scale 1 (wr .i64 (Int.ofNat (BitVec.ofInt 64 b % 64#64).toNat))).toNat 0).tmod 8 != 6 then (ok27 (a) && (bif N27 a then (decide (0 ≤ wr .i64 (Int.ofNat (BitVec.ofInt 64 b % 64#64).toNat)) && decide (wr .i64 (Int.ofNat (BitVec.ofInt 64 b % 64#64).toNat) < Int.ofNat 64) && (ok27 (Pos.mk a.variant ((a.board.set (scale 1 (wr .i64 (Int.ofNat (BitVec.ofInt 64 b % 64#64).toNat))).toNat 1).set (scale 1 (wr .i64 (Int.ofNat (BitVec.ofInt 64 b % 64#64).toNat))).toNat 0) a.promoted a.pockets a.turn a.rooks a.passing a.checks a.half a.full) && (bif N27 (Pos.mk a.variant ((a.board.set (scale 1 (wr .i64 (Int.ofNat (BitVec.ofInt 64 b % 64#64).toNat))).toNat 1).set (scale 1 (wr .i64 (Int.ofNat (BitVec.ofInt 64 b % 64#64).toNat))).toNat 0) a.promoted a.pockets a.turn a.rooks a.passing a.checks a.half a.full) then (ok29  && true) else true))) else (ok29  && true))) else (ok29  && true)))))) else (bif c.tmod 3 == Int.ofNat 1 then (decide (0 ≤ wr .i64 (Int.ofNat (BitVec.ofInt 64 b % 64#64).toNat)) && decide (wr .i64 (Int.ofNat (BitVec.ofInt 64 b % 64#64).toNat) < Int.ofNat 64) && (ok27 (Pos.mk a.variant (a.board.set (scale 1 (wr .i64 (Int.ofNat (BitVec.ofInt 64 b % 64#64).toNat))).toNat 4) a.promoted a.pockets a.turn a.rooks a.passing a.checks a.half a.full) && (bif N27 (Pos.mk a.variant (a.board.set (scale 1 (wr .i64 (Int.ofNat (BitVec.ofInt 64 b % 64#64).toNat))).toNat 4) a.promoted a.pockets a.turn a.rooks a.passing a.checks a.half a.full) then true else (decide (0 ≤ wr .i64 (Int.ofNat (BitVec.ofInt 64 b % 64#64).toNat)) && decide (wr .i64 (Int.ofNat (BitVec.ofInt 64 b % 64#64).toNat) < Int.ofNat 64) && (bif (a.board.getD (scale 1 (wr .i64 (Int.ofNat (BitVec.ofInt 64 b % 64#64).toNat))).toNat 0).tmod 8 != 6 then (ok27 (a) && (bif N27 a then (decide (0 ≤ wr .i64 (Int.ofNat (BitVec.ofInt 64 b % 64#64).toNat)) && decide (wr .i64 (Int.ofNat (BitVec.ofInt 64 b % 64#64).toNat) < Int.ofNat 64) && (ok27 (Pos.mk a.variant ((a.board.set (scale 1 (wr .i64 (Int.ofNat (BitVec.ofInt 64 b % 64#64).toNat))).toNat 4).set (scale 1 (wr .i64 (Int.ofNat (BitVec.ofInt 64 b % 64#64).toNat))).toNat 0) a.promoted a.pockets a.turn a.rooks a.passing a.checks a.half a.full) && (bif N27 (Pos.mk a.variant ((a.board.set (scale 1 (wr .i64 (Int.ofNat (BitVec.ofInt 64 b % 64#64).toNat))).toNat 4).set (scale 1 (wr .i64 (Int.ofNat (BitVec.ofInt 64 b % 64#64).toNat))).toNat 0) a.promoted a.pockets a.turn a.rooks a.passing a.checks a.half a.full) then (ok29  && true) else true))) else (ok29  && true))) else (ok29  && true)))))) else (c.tmod 3 == Int.ofNat 2 && (decide (0 ≤ wr .i64 (Int.ofNat (BitVec.ofInt 64 b % 64#64).toNat)) && decide (wr .i64 (Int.ofNat (BitVec.ofInt 64 b % 64#64).toNat) < Int.ofNat 64) && (ok27 (Pos.mk a.variant (a.board.set (scale 1 (wr .i64 (Int.ofNat (BitVec.ofInt 64 b % 64#64).toNat))).toNat 5) a.promoted a.pockets a.turn a.rooks a.passing a.checks a.half a.full) && (bif N27 (Pos.mk a.variant (a.board.set (scale 1 (wr .i64 (Int.ofNat (BitVec.ofInt 64 b % 64#64).toNat))).toNat 5) a.promoted a.pockets a.turn a.rooks a.passing a.checks a.half a.full) then true else (decide (0 ≤ wr .i64 (Int.ofNat (BitVec.ofInt 64 b % 64#64).toNat)) && decide (wr .i64 (Int.ofNat (BitVec.ofInt 64 b % 64#64).toNat) < Int.ofNat 64) && (bif (a.board.getD (scale 1 (wr .i64 (Int.ofNat (BitVec.ofInt 64 b % 64#64).toNat))).toNat 0).tmod 8 != 6 then (ok27 (a) && (bif N27 a then (decide (0 ≤ wr .i64 (Int.ofNat (BitVec.ofInt 64 b % 64#64).toNat)) && decide (wr .i64 (Int.ofNat (BitVec.ofInt 64 b % 64#64).toNat) < Int.ofNat 64) && (ok27 (Pos.mk a.variant ((a.board.set (scale 1 (wr .i64 (Int.ofNat (BitVec.ofInt 64 b % 64#64).toNat))).toNat 5).set (scale 1 (wr .i64 (Int.ofNat (BitVec.ofInt 64 b % 64#64).toNat))).toNat 0) a.promoted a.pockets a.turn a.rooks a.passing a.checks a.half a.full) && (bif N27 (Pos.mk a.variant ((a.board.set (scale 1 (wr .i64 (Int.ofNat (BitVec.ofInt 64 b % 64#64).toNat))).toNat 5).set (scale 1 (wr .i64 (Int.ofNat (BitVec.ofInt 64 b % 64#64).toNat))).toNat 0) a.promoted a.pockets a.turn a.rooks a.passing a.checks a.half a.full) then (ok29  && true) else true))) else (ok29  && true))) else (ok29  && true)))))))))))
theorem E12 (a : Pos) (b : Int) (c : Int) : evPure B12 14 12 [Pos.av a, .int .i64 b, .int .u8 c] = (let z1 := (Int.ofNat (BitVec.ofInt 64 b % 64#64).toNat); let z2 := (scale 1 (wr .i64 z1)); let z3 := (Tr.br (isPS Pz 29 [] (dB.res N29)) (Tr.ret (AV.bool N29)) Tr.fail); let z4 := (decide (0 ≤ wr .i64 z1) && decide (wr .i64 z1 < Int.ofNat 64)); let z5 := (Pos.mk a.variant ((a.board.set z2.toNat 1).set z2.toNat 0) a.promoted a.pockets a.turn a.rooks a.passing a.checks a.half a.full); let z6 := (Pos.mk a.variant ((a.board.set z2.toNat 4).set z2.toNat 0) a.promoted a.pockets a.turn a.rooks a.passing a.checks a.half a.full); let z7 := (Pos.mk a.variant ((a.board.set z2.toNat 5).set z2.toNat 0) a.promoted a.pockets a.turn a.rooks a.passing a.checks a.half a.full); let z8 := (Pos.mk a.variant (a.board.set z2.toNat 1) a.promoted a.pockets a.turn a.rooks a.passing a.checks a.half a.full); let z9 := (Pos.mk a.variant (a.board.set z2.toNat 4) a.promoted a.pockets a.turn a.rooks a.passing a.checks a.half a.full); let z10 := (Pos.mk a.variant (a.board.set z2.toNat 5) a.promoted a.pockets a.turn a.rooks a.passing a.checks a.half a.full); let z11 := (Tr.ret (AV.cbool false)); let z12 := ((a.board.getD z2.toNat 0).tmod 8 != 6); let z13 := (isPS Pz 27 [a.av] (dB.res (N27 a))); Tr.br (!64#64 == 0#64) (Tr.br (decide (0 ≤ c.tmod 3) && decide (c.tmod 3 < Int.ofNat 3)) (Tr.br (c.tmod 3 == Int.ofNat 0) (Tr.br z4 (Tr.br (isPS Pz 27 [z8.av] (dB.res (N27 z8))) (Tr.br (N27 z8) z11 (Tr.br z4 (Tr.br z12 (Tr.br z13 (Tr.br (N27 a) (Tr.br z4 (Tr.br (isPS Pz 27 [z5.av] (dB.res (N27 z5))) (Tr.br (N27 z5) z3 z11) Tr.fail) Tr.fail) z3) Tr.fail) z3) Tr.fail)) Tr.fail) Tr.fail) (Tr.br (c.tmod 3 == Int.ofNat 1) (Tr.br z4 (Tr.br (isPS Pz 27 [z9.av] (dB.res (N27 z9))) (Tr.br (N27 z9) z11 (Tr.br z4 (Tr.br z12 (Tr.br z13 (Tr.br (N27 a) (Tr.br z4 (Tr.br (isPS Pz 27 [z6.av] (dB.res (N27 z6))) (Tr.br (N27 z6) z3 z11) Tr.fail) Tr.fail) z3) Tr.fail) z3) Tr.fail)) Tr.fail) Tr.fail) (Tr.br (c.tmod 3 == Int.ofNat 2) (Tr.br z4 (Tr.br (isPS Pz 27 [z10.av] (dB.res (N27 z10))) (Tr.br (N27 z10) z11 (Tr.br z4 (Tr.br z12 (Tr.br z13 (Tr.br (N27 a) (Tr.br z4 (Tr.br (isPS Pz 27 [z7.av] (dB.res (N27 z7))) (Tr.br (N27 z7) z3 z11) Tr.fail) Tr.fail) z3) Tr.fail) z3) Tr.fail)) Tr.fail) Tr.fail) Tr.fail))) Tr.fail) Tr.fail) := by kernel_rfl
theorem P12 (a : Pos) (b : Int) (c : Int) (h : ok12 a b c = true) : PS Pz 12 [Pos.av a, .int .i64 b, .int .u8 c] (dB.res (N12 a b c)) := ps_gotR hB12 (E12 a b c) (gr_guard (gr_guard (gr_br (gr_guard (gr_call (P27 (Pos.mk a.variant (a.board.set (scale 1 (wr .i64 (Int.ofNat (BitVec.ofInt 64 b % 64#64).toNat))).toNat 1) a.promoted a.pockets a.turn a.rooks a.passing a.checks a.half a.full)) (gr_br (gr_ret rfl) (gr_guard (gr_br (gr_call (P27 (a)) (gr_br (gr_guard (gr_call (P27 (Pos.mk a.variant ((a.board.set (scale 1 (wr .i64 (Int.ofNat (BitVec.ofInt 64 b % 64#64).toNat))).toNat 1).set (scale 1 (wr .i64 (Int.ofNat (BitVec.ofInt 64 b % 64#64).toNat))).toNat 0) a.promoted a.pockets a.turn a.rooks a.passing a.checks a.half a.full)) (gr_br (gr_call (P29 ) (gr_ret rfl)) (gr_ret rfl)))) (gr_call (P29 ) (gr_ret rfl)))) (gr_call (P29 ) (gr_ret rfl))))))) (gr_br (gr_guard (gr_call (P27 (Pos.mk a.variant (a.board.set (scale 1 (wr .i64 (Int.ofNat (BitVec.ofInt 64 b % 64#64).toNat))).toNat 4) a.promoted a.pockets a.turn a.rooks a.passing a.checks a.half a.full)) (gr_br (gr_ret rfl) (gr_guard (gr_br (gr_call (P27 (a)) (gr_br (gr_guard (gr_call (P27 (Pos.mk a.variant ((a.board.set (scale 1 (wr .i64 (Int.ofNat (BitVec.ofInt 64 b % 64#64).toNat))).toNat 4).set (scale 1 (wr .i64 (Int.ofNat (BitVec.ofInt 64 b % 64#64).toNat))).toNat 0) a.promoted a.pockets a.turn a.rooks a.passing a.checks a.half a.full)) (gr_br (gr_call (P29 ) (gr_ret rfl)) (gr_ret rfl)))) (gr_call (P29 ) (gr_ret rfl)))) (gr_call (P29 ) (gr_ret rfl))))))) (gr_guard (gr_guard (gr_call (P27 (Pos.mk a.variant (a.board.set (scale 1 (wr .i64 (Int.ofNat (BitVec.ofInt 64 b % 64#64).toNat))).toNat 5) a.promoted a.pockets a.turn a.rooks a.passing a.checks a.half a.full)) (gr_br (gr_ret rfl) (gr_guard (gr_br (gr_call (P27 (a)) (gr_br (gr_guard (gr_call (P27 (Pos.mk a.variant ((a.board.set (scale 1 (wr .i64 (Int.ofNat (BitVec.ofInt 64 b % 64#64).toNat))).toNat 5).set (scale 1 (wr .i64 (Int.ofNat (BitVec.ofInt 64 b % 64#64).toNat))).toNat 0) a.promoted a.pockets a.turn a.rooks a.passing a.checks a.half a.full)) (gr_br (gr_call (P29 ) (gr_ret rfl)) (gr_ret rfl)))) (gr_call (P29 ) (gr_ret rfl)))) (gr_call (P29 ) (gr_ret rfl)))))))))))) h
noncomputable def G12 : List AV → Tr AV := g3 dPos (dI .i64) (dI .u8) (fun a b c => sure Pz 12 [Pos.av a, .int .i64 b, .int .u8 c] (dB.res (N12 a b c)))
theorem s12 : Sound Pz 12 G12 := sound3 (fun _ _ _ => at_sure)
end Kz
end
section
namespace Kz
open Go Go.RowKit
set_option maxRecDepth 100000
set_option maxHeartbeats 1000000
def lightB : BitVec 64 := 6172840429334713770#64
noncomputable def matA (A K B N : BitVec 64) : Bool := bif A &&& ~~~K &&& ~~~B &&& ~~~N != 0#64 then false else bif decide (N61 (A &&& ~~~K) ≤ 1) then true else bif A &&& ~~~K == B then (bif A &&& ~~~K &&& lightB == 0#64 then true else A &&& ~~~K &&& ~~~lightB == 0#64) else false
noncomputable def matB (A W X : BitVec 64) : Bool := bif A == W ||| X then (bif N61 W == 1 then N61 X == 1 else false) else false
theorem N27_eq (p : Pos) : N27 p = bif (p.variant == 0 || p.variant == 1) then matA (N59 p) (N60 p 6) (N60 p 3) (N60 p 2) else bif (p.variant == 3 || p.variant == 5) then matB (N59 p) (N62 p 0 6) (N62 p 1 6) else false := by
  unfold N27
  rw [show (Pos.mk p.variant p.board p.promoted p.pockets p.turn p.rooks p.passing p.checks p.half p.full) = p from rfl]
  cases p.variant == 0 <;> cases p.variant == 1 <;> cases p.variant == 3 <;> cases p.variant == 5 <;> rfl
noncomputable def kb (k v : Int) : Bool := tOf 0 k v || tOf 1 k v
theorem N60_bit (p : Pos) (k : Int) {i : Nat} (hi : i < 64) : (N60 p k).getLsbD i = kb k (p.board.getD i 0) := by
  unfold N60
  rw [show (Pos.mk p.variant p.board p.promoted p.pockets p.turn p.rooks p.passing p.checks p.half p.full) = p from rfl, BitVec.getLsbD_or, N62_bit _ _ _ hi, N62_bit _ _ _ hi]
  rfl
theorem heavy : ∀ v : Fin 6, (v.val = 1 ∨ v.val = 4 ∨ v.val = 5) → N146 v.val = true ∧ kb 6 v.val = false ∧ kb 3 v.val = false ∧ kb 2 v.val = false ∧ tOf 0 6 v.val = false ∧ tOf 1 6 v.val = false := by decide +kernel
theorem none0 : N146 0 = false ∧ kb 6 0 = false ∧ kb 3 0 = false ∧ kb 2 0 = false ∧ tOf 0 6 0 = false ∧ tOf 1 6 0 = false := by decide +kernel
theorem noking : ∀ v : Fin 256, v.val % 8 ≠ 6 → tOf 0 6 v.val = false ∧ tOf 1 6 v.val = false := by decide +kernel
theorem bishop : ∀ v : Fin 256, kb 3 v.val = true → N146 v.val = true ∧ kb 6 v.val = false := by decide +kernel
noncomputable def matM (M B N : BitVec 64) : Bool := bif M &&& ~~~B &&& ~~~N != 0#64 then false else bif decide (N61 M ≤ 1) then true else bif M == B then (bif M &&& lightB == 0#64 then true else M &&& ~~~lightB == 0#64) else false
theorem matA_eq (A K B N : BitVec 64) : matA A K B N = matM (A &&& ~~~K) B N := rfl
theorem sub_zero {x y : BitVec 64} (hxy : ∀ i, i < 64 → y.getLsbD i = true → x.getLsbD i = true) (hx : x = 0#64) : y = 0#64 := by
  apply BitVec.eq_of_getLsbD_eq
  intro i hi
  have := hxy i hi
  rw [hx] at this
  cases hy : y.getLsbD i with
  | false => simp
  | true => have := this hy; simp at this
theorem matM_true {M B N : BitVec 64} : matM M B N = true ↔ M &&& ~~~B &&& ~~~N = 0#64 ∧ ((ones M : Int) ≤ 1 ∨ (M = B ∧ (M &&& lightB = 0#64 ∨ M &&& ~~~lightB = 0#64))) := by
  unfold matM
  rw [N61_pc]
  generalize (ones M : Int) = o
  by_cases h1 : M &&& ~~~B &&& ~~~N = 0#64
  · rw [show (M &&& ~~~B &&& ~~~N != 0#64) = false by simpa using h1, cond_false]
    by_cases h2 : o ≤ 1
    · rw [decide_eq_true h2, cond_true]
      simp [h1, h2]
    · rw [decide_eq_false h2, cond_false]
      by_cases h3 : M = B
      · rw [show (M == B) = true by simpa using h3, cond_true]
        by_cases h4 : M &&& lightB = 0#64
        · rw [show (M &&& lightB == 0#64) = true by simpa using h4, cond_true]
          exact ⟨fun _ => ⟨h1, .inr ⟨h3, .inl h4⟩⟩, fun _ => rfl⟩
        · rw [show (M &&& lightB == 0#64) = false by simpa using h4, cond_false]
          constructor
          · intro h
            exact ⟨h1, .inr ⟨h3, .inr (by simpa using h)⟩⟩
          · rintro ⟨_, h | ⟨_, h | h⟩⟩
            · exact absurd h h2
            · exact absurd h h4
            · simpa using h
      · rw [show (M == B) = false by simpa using h3, cond_false]
        constructor
        · intro h; cases h
        · rintro ⟨_, h | ⟨h, _⟩⟩
          · exact absurd h h2
          · exact absurd h h3
  · rw [show (M &&& ~~~B &&& ~~~N != 0#64) = true by simpa using h1, cond_true]
    constructor
    · intro h; cases h
    · rintro ⟨h, _⟩; exact absurd h h1
theorem matM_less {M B N M2 B2 N2 : BitVec 64} {s : Nat} (m : ∀ i, i < 64 → M2.getLsbD i = (M.getLsbD i && decide (i ≠ s))) (b : ∀ i, i < 64 → B2.getLsbD i = (B.getLsbD i && decide (i ≠ s))) (n : ∀ i, i < 64 → N2.getLsbD i = (N.getLsbD i && decide (i ≠ s))) (h : matM M B N = true) : matM M2 B2 N2 = true := by
  rw [matM_true] at h ⊢
  obtain ⟨h1, h2⟩ := h
  refine ⟨sub_zero (fun i hi hy => ?_) h1, ?_⟩
  · simp only [BitVec.getLsbD_and, BitVec.getLsbD_not, m i hi, b i hi, n i hi, hi, decide_true, Bool.true_and] at hy ⊢
    revert hy
    cases decide (i ≠ s) <;> simp
  · rcases h2 with h2 | ⟨h2, h3⟩
    · left
      have mono : ones M2 ≤ ones M := pc_mono fun i hi => by
        by_cases h64 : i < 64
        · rw [m i h64] at hi
          simp only [Bool.and_eq_true] at hi
          exact hi.1
        · rw [BitVec.getLsbD_of_ge _ _ (by omega)] at hi; cases hi
      omega
    · right
      refine ⟨?_, ?_⟩
      · apply BitVec.eq_of_getLsbD_eq
        intro i hi
        rw [m i hi, b i hi, h2]
      · rcases h3 with h3 | h3
        · left
          refine sub_zero (fun i hi hy => ?_) h3
          rw [BitVec.getLsbD_and, m i hi] at hy
          rw [BitVec.getLsbD_and]
          revert hy
          cases M.getLsbD i <;> simp
        · right
          refine sub_zero (fun i hi hy => ?_) h3
          rw [BitVec.getLsbD_and, m i hi] at hy
          rw [BitVec.getLsbD_and]
          revert hy
          cases M.getLsbD i <;> simp
section
variable {p : Pos} (hp : PosIn p) {s : Nat} (hs : s < 64)
def put (p : Pos) (s : Nat) (v : Int) : Pos := ⟨p.variant, p.board.set s v, p.promoted, p.pockets, p.turn, p.rooks, p.passing, p.checks, p.half, p.full⟩
include hp hs
theorem put_at (v : Int) : (put p s v).board.getD s 0 = v := by
  have := hp.bl
  show (p.board.set s v).getD s 0 = v
  rw [List.getD_eq_getElem?_getD, List.getElem?_set_self (by omega)]
  rfl
omit hp hs in
theorem put_off (v : Int) {i : Nat} (hi : i ≠ s) : (put p s v).board.getD i 0 = p.board.getD i 0 := by
  show (p.board.set s v).getD i 0 = _
  rw [List.getD_eq_getElem?_getD, List.getElem?_set_ne (by omega), ← List.getD_eq_getElem?_getD]
theorem heavy_no {v : Int} (hv : v = 1 ∨ v = 4 ∨ v = 5) : N27 (put p s v) = false := by
  have hh : N146 v = true ∧ kb 6 v = false ∧ kb 3 v = false ∧ kb 2 v = false ∧ tOf 0 6 v = false ∧ tOf 1 6 v = false := by
    rcases hv with rfl | rfl | rfl
    · exact heavy 1 (by decide)
    · exact heavy 4 (by decide)
    · exact heavy 5 (by decide)
  obtain ⟨h1, h2, h3, h4, h5, h6⟩ := hh
  have bA : (N59 (put p s v)).getLsbD s = true := by rw [N59_bit _ hs, put_at hp hs, h1]
  rw [N27_eq]
  refine c_ind (P := fun b : Bool => b = false) (fun _ => ?_) fun _ => c_ind (P := fun b : Bool => b = false) (fun _ => ?_) fun _ => rfl
  · unfold matA
    have : (N59 (put p s v) &&& ~~~N60 (put p s v) 6 &&& ~~~N60 (put p s v) 3 &&& ~~~N60 (put p s v) 2 != 0#64) = true := by
      rw [bne_iff_ne]
      intro e
      have := congrArg (fun x : BitVec 64 => x.getLsbD s) e
      simp only [BitVec.getLsbD_and, BitVec.getLsbD_not, bA, N60_bit _ _ hs, put_at hp hs, h2, h3, h4, BitVec.getLsbD_zero] at this
      simp [hs] at this
    rw [this]
    rfl
  · unfold matB
    have : (N59 (put p s v) == N62 (put p s v) 0 6 ||| N62 (put p s v) 1 6) = false := by
      rw [beq_eq_false_iff_ne]
      intro e
      have := congrArg (fun x : BitVec 64 => x.getLsbD s) e
      simp only [BitVec.getLsbD_or, bA, N62_bit _ _ _ hs, put_at hp hs, h5, h6] at this
      simp at this
    rw [this]
    rfl
theorem fewer {v : Int} (hv : v = p.board.getD s 0) (hk : v % 8 ≠ 6) (h : N27 p = true) : N27 (put p s 0) = true := by
  obtain ⟨z1, z2, z3, z4, z5, z6⟩ := none0
  have hb := bd_in hp s
  rw [← hv] at hb
  have hn : tOf 0 6 v = false ∧ tOf 1 6 v = false := by
    obtain ⟨n, rfl⟩ := Int.eq_ofNat_of_zero_le hb.1
    exact noking ⟨n, by omega⟩ (by show n % 8 ≠ 6; omega)
  have at0 := put_at hp hs 0
  have off := fun {i : Nat} (hi : i ≠ s) => put_off (p := p) (s := s) 0 hi
  have aA : ∀ i, i < 64 → (N59 (put p s 0)).getLsbD i = ((N59 p).getLsbD i && decide (i ≠ s)) := fun i hi => by
    rw [N59_bit _ hi, N59_bit _ hi]
    by_cases e : i = s
    · subst e; rw [at0, z1]; simp
    · rw [off e]; simp [e]
  have aK : ∀ k, kb k 0 = false → ∀ i, i < 64 → (N60 (put p s 0) k).getLsbD i = ((N60 p k).getLsbD i && decide (i ≠ s)) := fun k h0 i hi => by
    rw [N60_bit _ _ hi, N60_bit _ _ hi]
    by_cases e : i = s
    · subst e; rw [at0, h0]; simp
    · rw [off e]; simp [e]
  have aW : ∀ c : Int, tOf c 6 0 = false → tOf c 6 v = false → N62 (put p s 0) c 6 = N62 p c 6 := fun c h0 h1 => by
    apply BitVec.eq_of_getLsbD_eq
    intro i hi
    rw [N62_bit _ _ _ hi, N62_bit _ _ _ hi]
    by_cases e : i = s
    · subst e; rw [at0, h0, ← hv, h1]
    · rw [off e]
  rw [N27_eq] at h ⊢
  show (bif p.variant == 0 || p.variant == 1 then _ else bif p.variant == 3 || p.variant == 5 then _ else false) = true
  revert h
  have k6 := aK 6 z2
  have k3 := aK 3 z3
  have k2 := aK 2 z4
  cases p.variant == 0 || p.variant == 1
  · cases p.variant == 3 || p.variant == 5
    · intro h
      simp at h
    · simp only [cond_false, cond_true]
      unfold matB
      rw [aW 0 z5 hn.1, aW 1 z6 hn.2]
      intro h
      have e : (N59 p == N62 p 0 6 ||| N62 p 1 6) = true := by
        revert h
        exact c_ind (P := fun b : Bool => b = true → _) (fun h _ => h) fun _ h => by cases h
      rw [e] at h
      have e2 : N59 p = N62 p 0 6 ||| N62 p 1 6 := by simpa using e
      have : N59 (put p s 0) = N59 p := by
        apply BitVec.eq_of_getLsbD_eq
        intro i hi
        rw [aA i hi]
        by_cases x : i = s
        · subst x
          rw [e2, BitVec.getLsbD_or, N62_bit _ _ _ hi, N62_bit _ _ _ hi, ← hv, hn.1, hn.2]
          rfl
        · simp [x]
      rw [this, e]
      exact h
  · simp only [cond_true]
    intro h
    have m : ∀ i, i < 64 → (N59 (put p s 0) &&& ~~~N60 (put p s 0) 6).getLsbD i = ((N59 p &&& ~~~N60 p 6).getLsbD i && decide (i ≠ s)) := fun i hi => by
      simp only [BitVec.getLsbD_and, BitVec.getLsbD_not, aA i hi, k6 i hi, hi, decide_true, Bool.true_and]
      cases (N59 p).getLsbD i <;> cases (N60 p 6).getLsbD i <;> cases decide (i ≠ s) <;> rfl
    rw [matA_eq] at h ⊢
    exact matM_less m k3 k2 h
end
end Kz
end
section
namespace Kz
open Go Go.RowKit
set_option maxRecDepth 100000
set_option maxHeartbeats 1000000
theorem sq64 (b : Int) : ∃ n : Nat, n < 64 ∧ wr IntKind.i64 (Int.ofNat (BitVec.ofInt 64 b % 64#64).toNat) = n := by
  have h : (BitVec.ofInt 64 b % 64#64).toNat < 64 := by
    rw [BitVec.toNat_umod]
    exact Nat.mod_lt _ (by decide)
  exact ⟨_, h, wi64 (by simp; omega) (by simp; omega)⟩
theorem N12_true {p : Pos} (hp : PosIn p) (b : Int) {c : Int} (c0 : 0 ≤ c) : ok12 p b c = true ∧ N12 p b c = true := by
  have k29 := ok29_true
  have e29 := N29_true
  obtain ⟨n, hn, hs⟩ := sq64 b
  have hsc : (scale 1 (n : Int)).toNat = n := by rw [scale1]; omega
  have kn : (decide (0 ≤ (n : Int)) && decide ((n : Int) < Int.ofNat 64)) = true := by simp; omega
  have k27 := fun q => t27 q
  have hc3 : c.tmod 3 = c % 3 := Int.tmod_eq_emod_of_nonneg c0
  have kc : (decide (0 ≤ c.tmod 3) && decide (c.tmod 3 < Int.ofNat 3)) = true := by rw [hc3]; simp; omega
  have k2 : (c.tmod 3 == Int.ofNat 0) = false → (c.tmod 3 == Int.ofNat 1) = false → (c.tmod 3 == Int.ofNat 2) = true := by
    rw [hc3]; simp; omega
  constructor
  · unfold ok12
    rw [hs]
    refine a_true (by decide) fun _ => a_true kc fun _ => ?_
    repeat' (first | with_reducible rfl | with_reducible exact kn | with_reducible exact k27 _ | with_reducible exact k29 | with_reducible exact k2 (by assumption) (by assumption) | refine a_true ?_ (fun _ => ?_) | refine c_true (fun _ => ?_) (fun _ => ?_))
  · unfold N12
    rw [hs, hsc]
    have hb := bd_in hp n
    have body : ∀ v : Int, (v = 1 ∨ v = 4 ∨ v = 5) → (bif N27 (put p n v) then false else (bif (p.board.getD n 0).tmod 8 != 6 then (bif N27 p then (bif N27 ⟨p.variant, (p.board.set n v).set n 0, p.promoted, p.pockets, p.turn, p.rooks, p.passing, p.checks, p.half, p.full⟩ then N29 else false) else N29) else N29)) = true := by
      intro v hv
      rw [heavy_no hp hn hv, cond_false, List.set_set, e29]
      refine c_true (fun hk => c_true (fun h => ?_) fun _ => rfl) fun _ => rfl
      have hk : (p.board.getD n 0).tmod 8 ≠ 6 := by simpa using hk
      rw [Int.tmod_eq_emod_of_nonneg hb.1] at hk
      have := fewer hp hn rfl hk h
      rw [show (⟨p.variant, p.board.set n 0, p.promoted, p.pockets, p.turn, p.rooks, p.passing, p.checks, p.half, p.full⟩ : Pos) = put p n 0 from rfl, this]
      rfl
    refine c_true (fun _ => ?_) fun _ => c_true (fun _ => ?_) fun _ => ?_
    · exact body 1 (.inl rfl)
    · exact body 4 (.inr (.inl rfl))
    · exact body 5 (.inr (.inr rfl))
end Kz
end
