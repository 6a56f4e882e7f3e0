/- Part 6 of the texts under the proof: an abstract interpreter,the summaries of functions,plain laws. -/
import Derived.Test.YtpkbiocmoklocaaGreatDoorB5
set_option linter.unusedSectionVars false
set_option linter.unusedVariables false
set_option linter.unusedSimpArgs false
set_option linter.unnecessarySimpa false
section
namespace Kz
open Go Go.RowKit Go.Proofs
set_option maxRecDepth 100000
set_option maxHeartbeats 4000000
noncomputable def K101:List (Nat×Nat×List (Nat×List Nat)):=[(101,60,[(0,[0,3,4]),(1,[0,3,4,5]),(2,[0,4,5,11,12]),(3,[0,4,5,11,12,13]),(4,(0::(rn 4 4 [11,12]))),(5,(0::(rn 4 4 [11,12]))),(6,(0::(rn 4 4 [11,12]))),(7,[0,4,5,6,11,12,40]),(8,[0,4,5,6,8,11,12]),(9,[0,4,5,6,8,11,12,45]),(10,[0,4,5,6,8,11,12]),(11,[0,4,5,11,12]),(12,[0,4,5,11,12]),(13,[4])])]
noncomputable def B101_1:Base:=baseOf Pz (fun f i=>lkC f i K101) [(123,G123),(124,G124),(125,G125)] [] []
theorem hB101_1:BOk B101_1:=base_ok named_z ⟨s123,s124,s125,trivial⟩ trivial trivial
noncomputable def S101_1 (p1:Int) (p2:(List Int)) (p3:(List Int)) (x:(Int×Pos)):St:=St.mk (AV.int .u8 p1::(an 3 (AV.ptr 1 0::AV.ptr 2 0::(an 5 (AV.agg [AV.ints .u8 8 p2]::AV.int .i64 x.fst::(an 47 [])))))) (Hp.mk [[AV.ints .u8 8 p3],[AV.int .u8 0,AV.ints .u8 64 (li (List.replicate 64 0)),AV.u64 0,AV.ints .u8 12 (li [0,0,0,0,0,0,0,0,0,0,0,0]),AV.int .u8 0,AV.ints .i8 4 (li [0,0,0,0]),AV.int .i8 0,AV.ints .u8 2 (li [0,0]),AV.int .i64 0,AV.int .i64 0],(pc x.snd [])] [] [] 0 0 0)
noncomputable def O101_1 (p1:Int) (p2:(List Int)) (p3:(List Int)):(Int×Bool×Pos)→Out:=fun y=>.exit 0 (St.mk (AV.int .u8 p1::(an 3 (AV.ptr 1 0::AV.ptr 2 0::(an 5 (AV.agg [AV.ints .u8 8 p2]::AV.int .i64 y.fst::AV.bool y.snd.fst::(an 46 [])))))) (Hp.mk [[AV.ints .u8 8 p3],[AV.int .u8 0,AV.ints .u8 64 (li (List.replicate 64 0)),AV.u64 0,AV.ints .u8 12 (li [0,0,0,0,0,0,0,0,0,0,0,0]),AV.int .u8 0,AV.ints .i8 4 (li [0,0,0,0]),AV.int .i8 0,AV.ints .u8 2 (li [0,0]),AV.int .i64 0,AV.int .i64 0],(pc y.snd.snd [])] [] [] 0 0 0))
noncomputable def st101_1 (p1:Int) (p2:(List Int)) (p3:(List Int)) (x:(Int×Pos)):Stp (Int×Pos) ((Int×Bool×Pos)):=(bif decide (x.fst < 8) then (bif N125 p1 then (bif p2.getD x.fst.toNat 0==4 then (bif decide (x.snd.rooks.getD 1 0 < 0) then (Stp.go (wr .i64 (x.fst+1),Pos.mk x.snd.variant ((((x.snd.board.set (scale 1 x.fst).toNat (p2.getD x.fst.toNat 0)).set (scale 1 (wr .i64 (8+x.fst))).toNat 1).set (scale 1 (wr .i64 (56+x.fst))).toNat (N124 (p2.getD x.fst.toNat 0))).set (scale 1 (wr .i64 (48+x.fst))).toNat (N124 1)) x.snd.promoted x.snd.pockets x.snd.turn ((x.snd.rooks.set 1 (wr .i8 x.fst)).set 3 (wr .i8 x.fst)) x.snd.passing x.snd.checks x.snd.half x.snd.full)) else (Stp.go (wr .i64 (x.fst+1),Pos.mk x.snd.variant ((((x.snd.board.set (scale 1 x.fst).toNat (p2.getD x.fst.toNat 0)).set (scale 1 (wr .i64 (8+x.fst))).toNat 1).set (scale 1 (wr .i64 (56+x.fst))).toNat (N124 (p2.getD x.fst.toNat 0))).set (scale 1 (wr .i64 (48+x.fst))).toNat (N124 1)) x.snd.promoted x.snd.pockets x.snd.turn ((x.snd.rooks.set 0 (wr .i8 x.fst)).set 2 (wr .i8 x.fst)) x.snd.passing x.snd.checks x.snd.half x.snd.full))) else (Stp.go (wr .i64 (x.fst+1),Pos.mk x.snd.variant ((((x.snd.board.set (scale 1 x.fst).toNat (p2.getD x.fst.toNat 0)).set (scale 1 (wr .i64 (8+x.fst))).toNat 1).set (scale 1 (wr .i64 (56+x.fst))).toNat (N124 (p2.getD x.fst.toNat 0))).set (scale 1 (wr .i64 (48+x.fst))).toNat (N124 1)) x.snd.promoted x.snd.pockets x.snd.turn x.snd.rooks x.snd.passing x.snd.checks x.snd.half x.snd.full))) else (Stp.go (wr .i64 (x.fst+1),Pos.mk x.snd.variant ((((x.snd.board.set (scale 1 x.fst).toNat (p2.getD x.fst.toNat 0)).set (scale 1 (wr .i64 (8+x.fst))).toNat 1).set (scale 1 (wr .i64 (56+x.fst))).toNat (N124 (p2.getD x.fst.toNat 0))).set (scale 1 (wr .i64 (48+x.fst))).toNat (N124 1)) x.snd.promoted x.snd.pockets x.snd.turn x.snd.rooks x.snd.passing x.snd.checks x.snd.half x.snd.full))) else (Stp.out ((x.fst,decide (x.fst < 8),x.snd))))
noncomputable def okL101_1 (p1:Int) (p2:(List Int)) (p3:(List Int)) (x:(Int×Pos)):Bool:=(bif decide (x.fst < 8) then (decide (0≤x.fst)&&decide (x.fst < Int.ofNat 8)&&(decide (0≤x.fst)&&decide (x.fst < Int.ofNat 64)&&(decide (0≤wr .i64 (8+x.fst))&&decide (wr .i64 (8+x.fst) < Int.ofNat 64)&&(ok124 (p2.getD x.fst.toNat 0)&&(ok124 1&&(decide (0≤wr .i64 (56+x.fst))&&decide (wr .i64 (56+x.fst) < Int.ofNat 64)&&(decide (0≤wr .i64 (48+x.fst))&&decide (wr .i64 (48+x.fst) < Int.ofNat 64)&&(ok125 p1&&true)))))))) else true)
noncomputable def lp101_1 (p1:Int) (p2:(List Int)) (p3:(List Int)) (x:(Int×Pos)):Option ((Int×Bool×Pos)):=itl (fun x=>bif okL101_1 p1 p2 p3 x then st101_1 p1 p2 p3 x else .bad) many x
abbrev D101_1 {α:Type} (k:Int→(List Int)→(List Int)→(Int×Pos)→α) (s:St):α:=wP s 2 fun q2=>k (tI (tT s 0)) (tN (tX (tA (tT s 11)) 0)) (tN (tH s 0 0)) ((tI (tT s 12)),q2)
theorem L101_1 (p1:Int) (p2:(List Int)) (p3:(List Int)) (x:(Int×Pos)) (r:(Int×Bool×Pos)) (h:lp101_1 p1 p2 p3 x=some r):LSpec Pz (bodL Pz 101 3) (S101_1 p1 p2 p3 x) (O101_1 p1 p2 p3 r):=LSpec.smd (m:=12) (fn:=101) hB101_1 (D101_1 fun _ _ _ x=>some x) (fun o=>match o with | .exit 0 s=>wP s 2 fun q2=>some ((tI (tT s 12)),(tB (tT s 13)),q2) | _=>none) (fun _=>rfl) (fun _=>by kernel_rfl) (fun _=>by kernel_rfl) (fun _=>by kernel_rfl) (fun _=>by kernel_rfl) many x r h
noncomputable def F101_1 (b:Code) (s:St):Tr Out:=D101_1 (fun p1 p2 p3 x=>lk1 b (bodL Pz 101 3) s (S101_1 p1 p2 p3 x) (lp101_1 p1 p2 p3 x) (O101_1 p1 p2 p3)) s
theorem sF101_1:∀ b,LSound Pz b (F101_1 b):=fun _ _ _ h=>lk1_ok (L101_1 _ _ _ _) h
noncomputable def B101:Base:=baseOf Pz (fun f i=>lkC f i K101) [(123,G123),(124,G124),(125,G125)] [(101,3,F101_1)] []
theorem hB101:BOk B101:=base_ok named_z ⟨s123,s124,s125,trivial⟩ ⟨sF101_1,trivial⟩ trivial
noncomputable def N101 (a:Int) (b:List Int):Pos:=⟨(((lp101_1 a b b (0,N123 a)).getD default).snd.snd.variant),(((lp101_1 a b b (0,N123 a)).getD default).snd.snd.board),(((lp101_1 a b b (0,N123 a)).getD default).snd.snd.promoted),(((lp101_1 a b b (0,N123 a)).getD default).snd.snd.pockets),(((lp101_1 a b b (0,N123 a)).getD default).snd.snd.turn),(((lp101_1 a b b (0,N123 a)).getD default).snd.snd.rooks),(((lp101_1 a b b (0,N123 a)).getD default).snd.snd.passing),(((lp101_1 a b b (0,N123 a)).getD default).snd.snd.checks),(((lp101_1 a b b (0,N123 a)).getD default).snd.snd.half),(((lp101_1 a b b (0,N123 a)).getD default).snd.snd.full)⟩
noncomputable def ok101 (a:Int) (b:List Int):Bool:=(ok123 a&&((lp101_1 a b b (0,N123 a)).isSome&&true))
theorem P101 (a:Int) (b:List Int) (h:ok101 a b=true):PS Pz 101 [.int .u8 a,.agg [.ints .u8 8 b]] (dPos.res (N101 a b)):=ps_sum (n:=14) hB101 (by kernel_rfl) (by kernel_rfl) (by kernel_rfl) h
noncomputable def G101:List AV→Tr AV:=g2 (dI .u8) (dArr .u8 8) (fun a b=>gdv (ok101 a b) (dPos.res (N101 a b)))
theorem s101:Sound Pz 101 G101:=sound2 fun a b=>at_gd (P101 a b)
noncomputable def K102:List (Nat×Nat×List (Nat×List Nat)):=[(102,2,[(0,[0]),(1,[0])])]
noncomputable def B102:Base:=baseOf Pz (fun f i=>lkC f i K102) [] [] []
theorem hB102:BOk B102:=base_ok named_z trivial trivial trivial
noncomputable def N102  : List Int:=(li [4,2,3,5,6,3,2,4])
noncomputable def ok102  : Bool:=true
theorem P102  (h:ok102 =true):PS Pz 102 [] ((dArr .u8 8).res (N102 )):=ps_sum (n:=14) hB102 (by kernel_rfl) (by kernel_rfl) (by kernel_rfl) h
noncomputable def G102:List AV→Tr AV:=g0  (.ret ((dArr .u8 8).res (N102 )))
theorem s102:Sound Pz 102 G102:=sound0 (at_rt (P102 rfl))
noncomputable def K99:List (Nat×Nat×List (Nat×List Nat)):=[(99,28,[(0,[0]),(1,[0,1]),(2,[0,1]),(3,[0,1,10]),(4,[0,1,10,11]),(5,[0,1,2,10]),(6,[0,1,10]),(7,[0,1,10]),(8,[0,1,17,18,19]),(9,(0::1::(rn 17 4 []))),(10,[0,1,4,17,18,19]),(11,[0,1,17,18,19]),(12,[0,1,17,18,19]),(13,[0])])]
noncomputable def B99_1:Base:=baseOf Pz (fun f i=>lkC f i K99) [(101,G101),(102,G102)] [] []
theorem hB99_1:BOk B99_1:=base_ok named_z ⟨s101,s102,trivial⟩ trivial trivial
noncomputable def S99_1  (x:(Int×Pos)):St:=St.mk (AV.ptr 0 0::AV.ptr 1 0::(an 8 (AV.int .i64 x.fst::(an 17 [])))) (Hp.mk [[AV.int .u8 0,AV.ints .u8 64 (li (List.replicate 64 0)),AV.u64 0,AV.ints .u8 12 (li [0,0,0,0,0,0,0,0,0,0,0,0]),AV.int .u8 0,AV.ints .i8 4 (li [0,0,0,0]),AV.int .i8 0,AV.ints .u8 2 (li [0,0]),AV.int .i64 0,AV.int .i64 0],(pc x.snd [])] [] [] 0 0 0)
noncomputable def O99_1  : (Int×Bool×Pos)→Out:=fun y=>.exit 0 (St.mk (AV.ptr 0 0::AV.ptr 1 0::(an 8 (AV.int .i64 y.fst::AV.bool y.snd.fst::(an 16 [])))) (Hp.mk [[AV.int .u8 0,AV.ints .u8 64 (li (List.replicate 64 0)),AV.u64 0,AV.ints .u8 12 (li [0,0,0,0,0,0,0,0,0,0,0,0]),AV.int .u8 0,AV.ints .i8 4 (li [0,0,0,0]),AV.int .i8 0,AV.ints .u8 2 (li [0,0]),AV.int .i64 0,AV.int .i64 0],(pc y.snd.snd [])] [] [] 0 0 0))
noncomputable def st99_1  (x:(Int×Pos)):Stp (Int×Pos) ((Int×Bool×Pos)):=(bif decide (x.fst < 32) then (Stp.go (wr .i64 (x.fst+1),Pos.mk x.snd.variant (x.snd.board.set (scale 1 x.fst).toNat 1) x.snd.promoted x.snd.pockets x.snd.turn x.snd.rooks x.snd.passing x.snd.checks x.snd.half x.snd.full)) else (Stp.out ((x.fst,decide (x.fst < 32),x.snd))))
noncomputable def okL99_1  (x:(Int×Pos)):Bool:=(bif decide (x.fst < 32) then (decide (0≤x.fst)&&decide (x.fst < Int.ofNat 64)&&true) else true)
noncomputable def lp99_1  (x:(Int×Pos)):Option ((Int×Bool×Pos)):=itl (fun x=>bif okL99_1  x then st99_1  x else .bad) many x
abbrev D99_1 {α:Type} (k:(Int×Pos)→α) (s:St):α:=wP s 1 fun q1=>k ((tI (tT s 10)),q1)
theorem L99_1  (x:(Int×Pos)) (r:(Int×Bool×Pos)) (h:lp99_1  x=some r):LSpec Pz (bodL Pz 99 4) (S99_1  x) (O99_1  r):=LSpec.smd (m:=12) (fn:=99) hB99_1 (D99_1 fun x=>some x) (fun o=>match o with | .exit 0 s=>wP s 1 fun q1=>some ((tI (tT s 10)),(tB (tT s 11)),q1) | _=>none) (fun _=>rfl) (fun _=>by kernel_rfl) (fun _=>by kernel_rfl) (fun _=>by kernel_rfl) (fun _=>by kernel_rfl) many x r h
noncomputable def F99_1 (b:Code) (s:St):Tr Out:=D99_1 (fun x=>lk1 b (bodL Pz 99 4) s (S99_1 x) (lp99_1 x) (O99_1 )) s
theorem sF99_1:∀ b,LSound Pz b (F99_1 b):=fun _ _ _ h=>lk1_ok (L99_1 _) h
noncomputable def B99_2:Base:=baseOf Pz (fun f i=>lkC f i K99) [(101,G101),(102,G102)] [(99,4,F99_1)] []
theorem hB99_2:BOk B99_2:=base_ok named_z ⟨s101,s102,trivial⟩ ⟨sF99_1,trivial⟩ trivial
noncomputable def S99_2  (x:(Int×Pos)):St:=St.mk (AV.ptr 0 0::AV.ptr 1 0::(an 15 (AV.vlist true [AV.cint .i64 33,AV.cint .i64 34,AV.cint .i64 37,AV.cint .i64 38]::AV.cint .i64 (Int.ofNat 4)::AV.int .i64 x.fst::(an 8 [])))) (Hp.mk [[AV.int .u8 0,AV.ints .u8 64 (li (List.replicate 64 0)),AV.u64 0,AV.ints .u8 12 (li [0,0,0,0,0,0,0,0,0,0,0,0]),AV.int .u8 0,AV.ints .i8 4 (li [0,0,0,0]),AV.int .i8 0,AV.ints .u8 2 (li [0,0]),AV.int .i64 0,AV.int .i64 0],(pc x.snd [])] [] [] 0 0 0)
noncomputable def O99_2  : (Int×Bool×Pos)→Out:=fun y=>.exit 2 (St.mk (AV.ptr 0 0::AV.ptr 1 0::(an 15 (AV.vlist true [AV.cint .i64 33,AV.cint .i64 34,AV.cint .i64 37,AV.cint .i64 38]::AV.cint .i64 (Int.ofNat 4)::AV.int .i64 y.fst::AV.bool y.snd.fst::(an 7 [])))) (Hp.mk [[AV.int .u8 0,AV.ints .u8 64 (li (List.replicate 64 0)),AV.u64 0,AV.ints .u8 12 (li [0,0,0,0,0,0,0,0,0,0,0,0]),AV.int .u8 0,AV.ints .i8 4 (li [0,0,0,0]),AV.int .i8 0,AV.ints .u8 2 (li [0,0]),AV.int .i64 0,AV.int .i64 0],(pc y.snd.snd [])] [] [] 0 0 0))
noncomputable def st99_2  (x:(Int×Pos)):Stp (Int×Pos) ((Int×Bool×Pos)):=(bif decide (x.fst < Int.ofNat 4) then (bif x.fst==Int.ofNat 0 then (Stp.go (wr .i64 (x.fst+1),Pos.mk x.snd.variant (x.snd.board.set 33 1) x.snd.promoted x.snd.pockets x.snd.turn x.snd.rooks x.snd.passing x.snd.checks x.snd.half x.snd.full)) else (bif x.fst==Int.ofNat 1 then (Stp.go (wr .i64 (x.fst+1),Pos.mk x.snd.variant (x.snd.board.set 34 1) x.snd.promoted x.snd.pockets x.snd.turn x.snd.rooks x.snd.passing x.snd.checks x.snd.half x.snd.full)) else (bif x.fst==Int.ofNat 2 then (Stp.go (wr .i64 (x.fst+1),Pos.mk x.snd.variant (x.snd.board.set 37 1) x.snd.promoted x.snd.pockets x.snd.turn x.snd.rooks x.snd.passing x.snd.checks x.snd.half x.snd.full)) else (Stp.go (wr .i64 (x.fst+1),Pos.mk x.snd.variant (x.snd.board.set 38 1) x.snd.promoted x.snd.pockets x.snd.turn x.snd.rooks x.snd.passing x.snd.checks x.snd.half x.snd.full))))) else (Stp.out ((x.fst,decide (x.fst < Int.ofNat 4),x.snd))))
noncomputable def okL99_2  (x:(Int×Pos)):Bool:=(bif decide (x.fst < Int.ofNat 4) then (decide (0≤x.fst)&&decide (x.fst < Int.ofNat 4)&&(bif x.fst==Int.ofNat 0 then true else (bif x.fst==Int.ofNat 1 then true else (bif x.fst==Int.ofNat 2 then true else (x.fst==Int.ofNat 3&&true))))) else true)
noncomputable def lp99_2  (x:(Int×Pos)):Option ((Int×Bool×Pos)):=itl (fun x=>bif okL99_2  x then st99_2  x else .bad) many x
abbrev D99_2 {α:Type} (k:(Int×Pos)→α) (s:St):α:=wP s 1 fun q1=>k ((tI (tT s 19)),q1)
theorem L99_2  (x:(Int×Pos)) (r:(Int×Bool×Pos)) (h:lp99_2  x=some r):LSpec Pz (bodL Pz 99 9) (S99_2  x) (O99_2  r):=LSpec.smd (m:=12) (fn:=99) hB99_2 (D99_2 fun x=>some x) (fun o=>match o with | .exit 2 s=>wP s 1 fun q1=>some ((tI (tT s 19)),(tB (tT s 20)),q1) | _=>none) (fun _=>rfl) (fun _=>by kernel_rfl) (fun _=>by kernel_rfl) (fun _=>by kernel_rfl) (fun _=>by kernel_rfl) many x r h
noncomputable def F99_2 (b:Code) (s:St):Tr Out:=D99_2 (fun x=>lk1 b (bodL Pz 99 9) s (S99_2 x) (lp99_2 x) (O99_2 )) s
theorem sF99_2:∀ b,LSound Pz b (F99_2 b):=fun _ _ _ h=>lk1_ok (L99_2 _) h
noncomputable def B99:Base:=baseOf Pz (fun f i=>lkC f i K99) [(101,G101),(102,G102)] [(99,4,F99_1),(99,9,F99_2)] []
theorem hB99:BOk B99:=base_ok named_z ⟨s101,s102,trivial⟩ ⟨sF99_1,sF99_2,trivial⟩ trivial
noncomputable def N99  : Pos:=⟨(((lp99_2 (0,Pos.mk ((lp99_1 (0,Pos.mk (N101 7 (li [4,2,3,5,6,3,2,4])).variant (li zbd) (N101 7 (li [4,2,3,5,6,3,2,4])).promoted (li [0,0,0,0,0,0,0,0,0,0,0,0]) (N101 7 (li [4,2,3,5,6,3,2,4])).turn (li [-1,-1,7,0]) (N101 7 (li [4,2,3,5,6,3,2,4])).passing (li [0,0]) (N101 7 (li [4,2,3,5,6,3,2,4])).half (N101 7 (li [4,2,3,5,6,3,2,4])).full)).getD default).snd.snd.variant (li [1,1,1,1,1,1,1,1,1,1,1,1,1,1,1,1,1,1,1,1,1,1,1,1,1,1,1,1,1,1,1,1,0,0,0,0,0,0,0,0,0,0,0,0,0,0,0,0,9,9,9,9,9,9,9,9,12,10,11,13,14,11,10,12]) ((lp99_1 (0,Pos.mk (N101 7 (li [4,2,3,5,6,3,2,4])).variant (li zbd) (N101 7 (li [4,2,3,5,6,3,2,4])).promoted (li [0,0,0,0,0,0,0,0,0,0,0,0]) (N101 7 (li [4,2,3,5,6,3,2,4])).turn (li [-1,-1,7,0]) (N101 7 (li [4,2,3,5,6,3,2,4])).passing (li [0,0]) (N101 7 (li [4,2,3,5,6,3,2,4])).half (N101 7 (li [4,2,3,5,6,3,2,4])).full)).getD default).snd.snd.promoted (li [0,0,0,0,0,0,0,0,0,0,0,0]) ((lp99_1 (0,Pos.mk (N101 7 (li [4,2,3,5,6,3,2,4])).variant (li zbd) (N101 7 (li [4,2,3,5,6,3,2,4])).promoted (li [0,0,0,0,0,0,0,0,0,0,0,0]) (N101 7 (li [4,2,3,5,6,3,2,4])).turn (li [-1,-1,7,0]) (N101 7 (li [4,2,3,5,6,3,2,4])).passing (li [0,0]) (N101 7 (li [4,2,3,5,6,3,2,4])).half (N101 7 (li [4,2,3,5,6,3,2,4])).full)).getD default).snd.snd.turn (li [-1,-1,7,0]) ((lp99_1 (0,Pos.mk (N101 7 (li [4,2,3,5,6,3,2,4])).variant (li zbd) (N101 7 (li [4,2,3,5,6,3,2,4])).promoted (li [0,0,0,0,0,0,0,0,0,0,0,0]) (N101 7 (li [4,2,3,5,6,3,2,4])).turn (li [-1,-1,7,0]) (N101 7 (li [4,2,3,5,6,3,2,4])).passing (li [0,0]) (N101 7 (li [4,2,3,5,6,3,2,4])).half (N101 7 (li [4,2,3,5,6,3,2,4])).full)).getD default).snd.snd.passing (li [0,0]) ((lp99_1 (0,Pos.mk (N101 7 (li [4,2,3,5,6,3,2,4])).variant (li zbd) (N101 7 (li [4,2,3,5,6,3,2,4])).promoted (li [0,0,0,0,0,0,0,0,0,0,0,0]) (N101 7 (li [4,2,3,5,6,3,2,4])).turn (li [-1,-1,7,0]) (N101 7 (li [4,2,3,5,6,3,2,4])).passing (li [0,0]) (N101 7 (li [4,2,3,5,6,3,2,4])).half (N101 7 (li [4,2,3,5,6,3,2,4])).full)).getD default).snd.snd.half ((lp99_1 (0,Pos.mk (N101 7 (li [4,2,3,5,6,3,2,4])).variant (li zbd) (N101 7 (li [4,2,3,5,6,3,2,4])).promoted (li [0,0,0,0,0,0,0,0,0,0,0,0]) (N101 7 (li [4,2,3,5,6,3,2,4])).turn (li [-1,-1,7,0]) (N101 7 (li [4,2,3,5,6,3,2,4])).passing (li [0,0]) (N101 7 (li [4,2,3,5,6,3,2,4])).half (N101 7 (li [4,2,3,5,6,3,2,4])).full)).getD default).snd.snd.full)).getD default).snd.snd.variant),(li [1,1,1,1,1,1,1,1,1,1,1,1,1,1,1,1,1,1,1,1,1,1,1,1,1,1,1,1,1,1,1,1,0,1,1,0,0,1,1,0,0,0,0,0,0,0,0,0,9,9,9,9,9,9,9,9,12,10,11,13,14,11,10,12]),(((lp99_2 (0,Pos.mk ((lp99_1 (0,Pos.mk (N101 7 (li [4,2,3,5,6,3,2,4])).variant (li zbd) (N101 7 (li [4,2,3,5,6,3,2,4])).promoted (li [0,0,0,0,0,0,0,0,0,0,0,0]) (N101 7 (li [4,2,3,5,6,3,2,4])).turn (li [-1,-1,7,0]) (N101 7 (li [4,2,3,5,6,3,2,4])).passing (li [0,0]) (N101 7 (li [4,2,3,5,6,3,2,4])).half (N101 7 (li [4,2,3,5,6,3,2,4])).full)).getD default).snd.snd.variant (li [1,1,1,1,1,1,1,1,1,1,1,1,1,1,1,1,1,1,1,1,1,1,1,1,1,1,1,1,1,1,1,1,0,0,0,0,0,0,0,0,0,0,0,0,0,0,0,0,9,9,9,9,9,9,9,9,12,10,11,13,14,11,10,12]) ((lp99_1 (0,Pos.mk (N101 7 (li [4,2,3,5,6,3,2,4])).variant (li zbd) (N101 7 (li [4,2,3,5,6,3,2,4])).promoted (li [0,0,0,0,0,0,0,0,0,0,0,0]) (N101 7 (li [4,2,3,5,6,3,2,4])).turn (li [-1,-1,7,0]) (N101 7 (li [4,2,3,5,6,3,2,4])).passing (li [0,0]) (N101 7 (li [4,2,3,5,6,3,2,4])).half (N101 7 (li [4,2,3,5,6,3,2,4])).full)).getD default).snd.snd.promoted (li [0,0,0,0,0,0,0,0,0,0,0,0]) ((lp99_1 (0,Pos.mk (N101 7 (li [4,2,3,5,6,3,2,4])).variant (li zbd) (N101 7 (li [4,2,3,5,6,3,2,4])).promoted (li [0,0,0,0,0,0,0,0,0,0,0,0]) (N101 7 (li [4,2,3,5,6,3,2,4])).turn (li [-1,-1,7,0]) (N101 7 (li [4,2,3,5,6,3,2,4])).passing (li [0,0]) (N101 7 (li [4,2,3,5,6,3,2,4])).half (N101 7 (li [4,2,3,5,6,3,2,4])).full)).getD default).snd.snd.turn (li [-1,-1,7,0]) ((lp99_1 (0,Pos.mk (N101 7 (li [4,2,3,5,6,3,2,4])).variant (li zbd) (N101 7 (li [4,2,3,5,6,3,2,4])).promoted (li [0,0,0,0,0,0,0,0,0,0,0,0]) (N101 7 (li [4,2,3,5,6,3,2,4])).turn (li [-1,-1,7,0]) (N101 7 (li [4,2,3,5,6,3,2,4])).passing (li [0,0]) (N101 7 (li [4,2,3,5,6,3,2,4])).half (N101 7 (li [4,2,3,5,6,3,2,4])).full)).getD default).snd.snd.passing (li [0,0]) ((lp99_1 (0,Pos.mk (N101 7 (li [4,2,3,5,6,3,2,4])).variant (li zbd) (N101 7 (li [4,2,3,5,6,3,2,4])).promoted (li [0,0,0,0,0,0,0,0,0,0,0,0]) (N101 7 (li [4,2,3,5,6,3,2,4])).turn (li [-1,-1,7,0]) (N101 7 (li [4,2,3,5,6,3,2,4])).passing (li [0,0]) (N101 7 (li [4,2,3,5,6,3,2,4])).half (N101 7 (li [4,2,3,5,6,3,2,4])).full)).getD default).snd.snd.half ((lp99_1 (0,Pos.mk (N101 7 (li [4,2,3,5,6,3,2,4])).variant (li zbd) (N101 7 (li [4,2,3,5,6,3,2,4])).promoted (li [0,0,0,0,0,0,0,0,0,0,0,0]) (N101 7 (li [4,2,3,5,6,3,2,4])).turn (li [-1,-1,7,0]) (N101 7 (li [4,2,3,5,6,3,2,4])).passing (li [0,0]) (N101 7 (li [4,2,3,5,6,3,2,4])).half (N101 7 (li [4,2,3,5,6,3,2,4])).full)).getD default).snd.snd.full)).getD default).snd.snd.promoted),(li [0,0,0,0,0,0,0,0,0,0,0,0]),(((lp99_2 (0,Pos.mk ((lp99_1 (0,Pos.mk (N101 7 (li [4,2,3,5,6,3,2,4])).variant (li zbd) (N101 7 (li [4,2,3,5,6,3,2,4])).promoted (li [0,0,0,0,0,0,0,0,0,0,0,0]) (N101 7 (li [4,2,3,5,6,3,2,4])).turn (li [-1,-1,7,0]) (N101 7 (li [4,2,3,5,6,3,2,4])).passing (li [0,0]) (N101 7 (li [4,2,3,5,6,3,2,4])).half (N101 7 (li [4,2,3,5,6,3,2,4])).full)).getD default).snd.snd.variant (li [1,1,1,1,1,1,1,1,1,1,1,1,1,1,1,1,1,1,1,1,1,1,1,1,1,1,1,1,1,1,1,1,0,0,0,0,0,0,0,0,0,0,0,0,0,0,0,0,9,9,9,9,9,9,9,9,12,10,11,13,14,11,10,12]) ((lp99_1 (0,Pos.mk (N101 7 (li [4,2,3,5,6,3,2,4])).variant (li zbd) (N101 7 (li [4,2,3,5,6,3,2,4])).promoted (li [0,0,0,0,0,0,0,0,0,0,0,0]) (N101 7 (li [4,2,3,5,6,3,2,4])).turn (li [-1,-1,7,0]) (N101 7 (li [4,2,3,5,6,3,2,4])).passing (li [0,0]) (N101 7 (li [4,2,3,5,6,3,2,4])).half (N101 7 (li [4,2,3,5,6,3,2,4])).full)).getD default).snd.snd.promoted (li [0,0,0,0,0,0,0,0,0,0,0,0]) ((lp99_1 (0,Pos.mk (N101 7 (li [4,2,3,5,6,3,2,4])).variant (li zbd) (N101 7 (li [4,2,3,5,6,3,2,4])).promoted (li [0,0,0,0,0,0,0,0,0,0,0,0]) (N101 7 (li [4,2,3,5,6,3,2,4])).turn (li [-1,-1,7,0]) (N101 7 (li [4,2,3,5,6,3,2,4])).passing (li [0,0]) (N101 7 (li [4,2,3,5,6,3,2,4])).half (N101 7 (li [4,2,3,5,6,3,2,4])).full)).getD default).snd.snd.turn (li [-1,-1,7,0]) ((lp99_1 (0,Pos.mk (N101 7 (li [4,2,3,5,6,3,2,4])).variant (li zbd) (N101 7 (li [4,2,3,5,6,3,2,4])).promoted (li [0,0,0,0,0,0,0,0,0,0,0,0]) (N101 7 (li [4,2,3,5,6,3,2,4])).turn (li [-1,-1,7,0]) (N101 7 (li [4,2,3,5,6,3,2,4])).passing (li [0,0]) (N101 7 (li [4,2,3,5,6,3,2,4])).half (N101 7 (li [4,2,3,5,6,3,2,4])).full)).getD default).snd.snd.passing (li [0,0]) ((lp99_1 (0,Pos.mk (N101 7 (li [4,2,3,5,6,3,2,4])).variant (li zbd) (N101 7 (li [4,2,3,5,6,3,2,4])).promoted (li [0,0,0,0,0,0,0,0,0,0,0,0]) (N101 7 (li [4,2,3,5,6,3,2,4])).turn (li [-1,-1,7,0]) (N101 7 (li [4,2,3,5,6,3,2,4])).passing (li [0,0]) (N101 7 (li [4,2,3,5,6,3,2,4])).half (N101 7 (li [4,2,3,5,6,3,2,4])).full)).getD default).snd.snd.half ((lp99_1 (0,Pos.mk (N101 7 (li [4,2,3,5,6,3,2,4])).variant (li zbd) (N101 7 (li [4,2,3,5,6,3,2,4])).promoted (li [0,0,0,0,0,0,0,0,0,0,0,0]) (N101 7 (li [4,2,3,5,6,3,2,4])).turn (li [-1,-1,7,0]) (N101 7 (li [4,2,3,5,6,3,2,4])).passing (li [0,0]) (N101 7 (li [4,2,3,5,6,3,2,4])).half (N101 7 (li [4,2,3,5,6,3,2,4])).full)).getD default).snd.snd.full)).getD default).snd.snd.turn),(li [-1,-1,7,0]),(((lp99_2 (0,Pos.mk ((lp99_1 (0,Pos.mk (N101 7 (li [4,2,3,5,6,3,2,4])).variant (li zbd) (N101 7 (li [4,2,3,5,6,3,2,4])).promoted (li [0,0,0,0,0,0,0,0,0,0,0,0]) (N101 7 (li [4,2,3,5,6,3,2,4])).turn (li [-1,-1,7,0]) (N101 7 (li [4,2,3,5,6,3,2,4])).passing (li [0,0]) (N101 7 (li [4,2,3,5,6,3,2,4])).half (N101 7 (li [4,2,3,5,6,3,2,4])).full)).getD default).snd.snd.variant (li [1,1,1,1,1,1,1,1,1,1,1,1,1,1,1,1,1,1,1,1,1,1,1,1,1,1,1,1,1,1,1,1,0,0,0,0,0,0,0,0,0,0,0,0,0,0,0,0,9,9,9,9,9,9,9,9,12,10,11,13,14,11,10,12]) ((lp99_1 (0,Pos.mk (N101 7 (li [4,2,3,5,6,3,2,4])).variant (li zbd) (N101 7 (li [4,2,3,5,6,3,2,4])).promoted (li [0,0,0,0,0,0,0,0,0,0,0,0]) (N101 7 (li [4,2,3,5,6,3,2,4])).turn (li [-1,-1,7,0]) (N101 7 (li [4,2,3,5,6,3,2,4])).passing (li [0,0]) (N101 7 (li [4,2,3,5,6,3,2,4])).half (N101 7 (li [4,2,3,5,6,3,2,4])).full)).getD default).snd.snd.promoted (li [0,0,0,0,0,0,0,0,0,0,0,0]) ((lp99_1 (0,Pos.mk (N101 7 (li [4,2,3,5,6,3,2,4])).variant (li zbd) (N101 7 (li [4,2,3,5,6,3,2,4])).promoted (li [0,0,0,0,0,0,0,0,0,0,0,0]) (N101 7 (li [4,2,3,5,6,3,2,4])).turn (li [-1,-1,7,0]) (N101 7 (li [4,2,3,5,6,3,2,4])).passing (li [0,0]) (N101 7 (li [4,2,3,5,6,3,2,4])).half (N101 7 (li [4,2,3,5,6,3,2,4])).full)).getD default).snd.snd.turn (li [-1,-1,7,0]) ((lp99_1 (0,Pos.mk (N101 7 (li [4,2,3,5,6,3,2,4])).variant (li zbd) (N101 7 (li [4,2,3,5,6,3,2,4])).promoted (li [0,0,0,0,0,0,0,0,0,0,0,0]) (N101 7 (li [4,2,3,5,6,3,2,4])).turn (li [-1,-1,7,0]) (N101 7 (li [4,2,3,5,6,3,2,4])).passing (li [0,0]) (N101 7 (li [4,2,3,5,6,3,2,4])).half (N101 7 (li [4,2,3,5,6,3,2,4])).full)).getD default).snd.snd.passing (li [0,0]) ((lp99_1 (0,Pos.mk (N101 7 (li [4,2,3,5,6,3,2,4])).variant (li zbd) (N101 7 (li [4,2,3,5,6,3,2,4])).promoted (li [0,0,0,0,0,0,0,0,0,0,0,0]) (N101 7 (li [4,2,3,5,6,3,2,4])).turn (li [-1,-1,7,0]) (N101 7 (li [4,2,3,5,6,3,2,4])).passing (li [0,0]) (N101 7 (li [4,2,3,5,6,3,2,4])).half (N101 7 (li [4,2,3,5,6,3,2,4])).full)).getD default).snd.snd.half ((lp99_1 (0,Pos.mk (N101 7 (li [4,2,3,5,6,3,2,4])).variant (li zbd) (N101 7 (li [4,2,3,5,6,3,2,4])).promoted (li [0,0,0,0,0,0,0,0,0,0,0,0]) (N101 7 (li [4,2,3,5,6,3,2,4])).turn (li [-1,-1,7,0]) (N101 7 (li [4,2,3,5,6,3,2,4])).passing (li [0,0]) (N101 7 (li [4,2,3,5,6,3,2,4])).half (N101 7 (li [4,2,3,5,6,3,2,4])).full)).getD default).snd.snd.full)).getD default).snd.snd.passing),(li [0,0]),(((lp99_2 (0,Pos.mk ((lp99_1 (0,Pos.mk (N101 7 (li [4,2,3,5,6,3,2,4])).variant (li zbd) (N101 7 (li [4,2,3,5,6,3,2,4])).promoted (li [0,0,0,0,0,0,0,0,0,0,0,0]) (N101 7 (li [4,2,3,5,6,3,2,4])).turn (li [-1,-1,7,0]) (N101 7 (li [4,2,3,5,6,3,2,4])).passing (li [0,0]) (N101 7 (li [4,2,3,5,6,3,2,4])).half (N101 7 (li [4,2,3,5,6,3,2,4])).full)).getD default).snd.snd.variant (li [1,1,1,1,1,1,1,1,1,1,1,1,1,1,1,1,1,1,1,1,1,1,1,1,1,1,1,1,1,1,1,1,0,0,0,0,0,0,0,0,0,0,0,0,0,0,0,0,9,9,9,9,9,9,9,9,12,10,11,13,14,11,10,12]) ((lp99_1 (0,Pos.mk (N101 7 (li [4,2,3,5,6,3,2,4])).variant (li zbd) (N101 7 (li [4,2,3,5,6,3,2,4])).promoted (li [0,0,0,0,0,0,0,0,0,0,0,0]) (N101 7 (li [4,2,3,5,6,3,2,4])).turn (li [-1,-1,7,0]) (N101 7 (li [4,2,3,5,6,3,2,4])).passing (li [0,0]) (N101 7 (li [4,2,3,5,6,3,2,4])).half (N101 7 (li [4,2,3,5,6,3,2,4])).full)).getD default).snd.snd.promoted (li [0,0,0,0,0,0,0,0,0,0,0,0]) ((lp99_1 (0,Pos.mk (N101 7 (li [4,2,3,5,6,3,2,4])).variant (li zbd) (N101 7 (li [4,2,3,5,6,3,2,4])).promoted (li [0,0,0,0,0,0,0,0,0,0,0,0]) (N101 7 (li [4,2,3,5,6,3,2,4])).turn (li [-1,-1,7,0]) (N101 7 (li [4,2,3,5,6,3,2,4])).passing (li [0,0]) (N101 7 (li [4,2,3,5,6,3,2,4])).half (N101 7 (li [4,2,3,5,6,3,2,4])).full)).getD default).snd.snd.turn (li [-1,-1,7,0]) ((lp99_1 (0,Pos.mk (N101 7 (li [4,2,3,5,6,3,2,4])).variant (li zbd) (N101 7 (li [4,2,3,5,6,3,2,4])).promoted (li [0,0,0,0,0,0,0,0,0,0,0,0]) (N101 7 (li [4,2,3,5,6,3,2,4])).turn (li [-1,-1,7,0]) (N101 7 (li [4,2,3,5,6,3,2,4])).passing (li [0,0]) (N101 7 (li [4,2,3,5,6,3,2,4])).half (N101 7 (li [4,2,3,5,6,3,2,4])).full)).getD default).snd.snd.passing (li [0,0]) ((lp99_1 (0,Pos.mk (N101 7 (li [4,2,3,5,6,3,2,4])).variant (li zbd) (N101 7 (li [4,2,3,5,6,3,2,4])).promoted (li [0,0,0,0,0,0,0,0,0,0,0,0]) (N101 7 (li [4,2,3,5,6,3,2,4])).turn (li [-1,-1,7,0]) (N101 7 (li [4,2,3,5,6,3,2,4])).passing (li [0,0]) (N101 7 (li [4,2,3,5,6,3,2,4])).half (N101 7 (li [4,2,3,5,6,3,2,4])).full)).getD default).snd.snd.half ((lp99_1 (0,Pos.mk (N101 7 (li [4,2,3,5,6,3,2,4])).variant (li zbd) (N101 7 (li [4,2,3,5,6,3,2,4])).promoted (li [0,0,0,0,0,0,0,0,0,0,0,0]) (N101 7 (li [4,2,3,5,6,3,2,4])).turn (li [-1,-1,7,0]) (N101 7 (li [4,2,3,5,6,3,2,4])).passing (li [0,0]) (N101 7 (li [4,2,3,5,6,3,2,4])).half (N101 7 (li [4,2,3,5,6,3,2,4])).full)).getD default).snd.snd.full)).getD default).snd.snd.half),(((lp99_2 (0,Pos.mk ((lp99_1 (0,Pos.mk (N101 7 (li [4,2,3,5,6,3,2,4])).variant (li zbd) (N101 7 (li [4,2,3,5,6,3,2,4])).promoted (li [0,0,0,0,0,0,0,0,0,0,0,0]) (N101 7 (li [4,2,3,5,6,3,2,4])).turn (li [-1,-1,7,0]) (N101 7 (li [4,2,3,5,6,3,2,4])).passing (li [0,0]) (N101 7 (li [4,2,3,5,6,3,2,4])).half (N101 7 (li [4,2,3,5,6,3,2,4])).full)).getD default).snd.snd.variant (li [1,1,1,1,1,1,1,1,1,1,1,1,1,1,1,1,1,1,1,1,1,1,1,1,1,1,1,1,1,1,1,1,0,0,0,0,0,0,0,0,0,0,0,0,0,0,0,0,9,9,9,9,9,9,9,9,12,10,11,13,14,11,10,12]) ((lp99_1 (0,Pos.mk (N101 7 (li [4,2,3,5,6,3,2,4])).variant (li zbd) (N101 7 (li [4,2,3,5,6,3,2,4])).promoted (li [0,0,0,0,0,0,0,0,0,0,0,0]) (N101 7 (li [4,2,3,5,6,3,2,4])).turn (li [-1,-1,7,0]) (N101 7 (li [4,2,3,5,6,3,2,4])).passing (li [0,0]) (N101 7 (li [4,2,3,5,6,3,2,4])).half (N101 7 (li [4,2,3,5,6,3,2,4])).full)).getD default).snd.snd.promoted (li [0,0,0,0,0,0,0,0,0,0,0,0]) ((lp99_1 (0,Pos.mk (N101 7 (li [4,2,3,5,6,3,2,4])).variant (li zbd) (N101 7 (li [4,2,3,5,6,3,2,4])).promoted (li [0,0,0,0,0,0,0,0,0,0,0,0]) (N101 7 (li [4,2,3,5,6,3,2,4])).turn (li [-1,-1,7,0]) (N101 7 (li [4,2,3,5,6,3,2,4])).passing (li [0,0]) (N101 7 (li [4,2,3,5,6,3,2,4])).half (N101 7 (li [4,2,3,5,6,3,2,4])).full)).getD default).snd.snd.turn (li [-1,-1,7,0]) ((lp99_1 (0,Pos.mk (N101 7 (li [4,2,3,5,6,3,2,4])).variant (li zbd) (N101 7 (li [4,2,3,5,6,3,2,4])).promoted (li [0,0,0,0,0,0,0,0,0,0,0,0]) (N101 7 (li [4,2,3,5,6,3,2,4])).turn (li [-1,-1,7,0]) (N101 7 (li [4,2,3,5,6,3,2,4])).passing (li [0,0]) (N101 7 (li [4,2,3,5,6,3,2,4])).half (N101 7 (li [4,2,3,5,6,3,2,4])).full)).getD default).snd.snd.passing (li [0,0]) ((lp99_1 (0,Pos.mk (N101 7 (li [4,2,3,5,6,3,2,4])).variant (li zbd) (N101 7 (li [4,2,3,5,6,3,2,4])).promoted (li [0,0,0,0,0,0,0,0,0,0,0,0]) (N101 7 (li [4,2,3,5,6,3,2,4])).turn (li [-1,-1,7,0]) (N101 7 (li [4,2,3,5,6,3,2,4])).passing (li [0,0]) (N101 7 (li [4,2,3,5,6,3,2,4])).half (N101 7 (li [4,2,3,5,6,3,2,4])).full)).getD default).snd.snd.half ((lp99_1 (0,Pos.mk (N101 7 (li [4,2,3,5,6,3,2,4])).variant (li zbd) (N101 7 (li [4,2,3,5,6,3,2,4])).promoted (li [0,0,0,0,0,0,0,0,0,0,0,0]) (N101 7 (li [4,2,3,5,6,3,2,4])).turn (li [-1,-1,7,0]) (N101 7 (li [4,2,3,5,6,3,2,4])).passing (li [0,0]) (N101 7 (li [4,2,3,5,6,3,2,4])).half (N101 7 (li [4,2,3,5,6,3,2,4])).full)).getD default).snd.snd.full)).getD default).snd.snd.full)⟩
noncomputable def ok99  : Bool:=(ok102&&(ok101 7 (li [4,2,3,5,6,3,2,4])&&((lp99_1 (0,Pos.mk (N101 7 (li [4,2,3,5,6,3,2,4])).variant (li zbd) (N101 7 (li [4,2,3,5,6,3,2,4])).promoted (li [0,0,0,0,0,0,0,0,0,0,0,0]) (N101 7 (li [4,2,3,5,6,3,2,4])).turn (li [-1,-1,7,0]) (N101 7 (li [4,2,3,5,6,3,2,4])).passing (li [0,0]) (N101 7 (li [4,2,3,5,6,3,2,4])).half (N101 7 (li [4,2,3,5,6,3,2,4])).full)).isSome&&((lp99_2 (0,Pos.mk ((lp99_1 (0,Pos.mk (N101 7 (li [4,2,3,5,6,3,2,4])).variant (li zbd) (N101 7 (li [4,2,3,5,6,3,2,4])).promoted (li [0,0,0,0,0,0,0,0,0,0,0,0]) (N101 7 (li [4,2,3,5,6,3,2,4])).turn (li [-1,-1,7,0]) (N101 7 (li [4,2,3,5,6,3,2,4])).passing (li [0,0]) (N101 7 (li [4,2,3,5,6,3,2,4])).half (N101 7 (li [4,2,3,5,6,3,2,4])).full)).getD default).snd.snd.variant (li [1,1,1,1,1,1,1,1,1,1,1,1,1,1,1,1,1,1,1,1,1,1,1,1,1,1,1,1,1,1,1,1,0,0,0,0,0,0,0,0,0,0,0,0,0,0,0,0,9,9,9,9,9,9,9,9,12,10,11,13,14,11,10,12]) ((lp99_1 (0,Pos.mk (N101 7 (li [4,2,3,5,6,3,2,4])).variant (li zbd) (N101 7 (li [4,2,3,5,6,3,2,4])).promoted (li [0,0,0,0,0,0,0,0,0,0,0,0]) (N101 7 (li [4,2,3,5,6,3,2,4])).turn (li [-1,-1,7,0]) (N101 7 (li [4,2,3,5,6,3,2,4])).passing (li [0,0]) (N101 7 (li [4,2,3,5,6,3,2,4])).half (N101 7 (li [4,2,3,5,6,3,2,4])).full)).getD default).snd.snd.promoted (li [0,0,0,0,0,0,0,0,0,0,0,0]) ((lp99_1 (0,Pos.mk (N101 7 (li [4,2,3,5,6,3,2,4])).variant (li zbd) (N101 7 (li [4,2,3,5,6,3,2,4])).promoted (li [0,0,0,0,0,0,0,0,0,0,0,0]) (N101 7 (li [4,2,3,5,6,3,2,4])).turn (li [-1,-1,7,0]) (N101 7 (li [4,2,3,5,6,3,2,4])).passing (li [0,0]) (N101 7 (li [4,2,3,5,6,3,2,4])).half (N101 7 (li [4,2,3,5,6,3,2,4])).full)).getD default).snd.snd.turn (li [-1,-1,7,0]) ((lp99_1 (0,Pos.mk (N101 7 (li [4,2,3,5,6,3,2,4])).variant (li zbd) (N101 7 (li [4,2,3,5,6,3,2,4])).promoted (li [0,0,0,0,0,0,0,0,0,0,0,0]) (N101 7 (li [4,2,3,5,6,3,2,4])).turn (li [-1,-1,7,0]) (N101 7 (li [4,2,3,5,6,3,2,4])).passing (li [0,0]) (N101 7 (li [4,2,3,5,6,3,2,4])).half (N101 7 (li [4,2,3,5,6,3,2,4])).full)).getD default).snd.snd.passing (li [0,0]) ((lp99_1 (0,Pos.mk (N101 7 (li [4,2,3,5,6,3,2,4])).variant (li zbd) (N101 7 (li [4,2,3,5,6,3,2,4])).promoted (li [0,0,0,0,0,0,0,0,0,0,0,0]) (N101 7 (li [4,2,3,5,6,3,2,4])).turn (li [-1,-1,7,0]) (N101 7 (li [4,2,3,5,6,3,2,4])).passing (li [0,0]) (N101 7 (li [4,2,3,5,6,3,2,4])).half (N101 7 (li [4,2,3,5,6,3,2,4])).full)).getD default).snd.snd.half ((lp99_1 (0,Pos.mk (N101 7 (li [4,2,3,5,6,3,2,4])).variant (li zbd) (N101 7 (li [4,2,3,5,6,3,2,4])).promoted (li [0,0,0,0,0,0,0,0,0,0,0,0]) (N101 7 (li [4,2,3,5,6,3,2,4])).turn (li [-1,-1,7,0]) (N101 7 (li [4,2,3,5,6,3,2,4])).passing (li [0,0]) (N101 7 (li [4,2,3,5,6,3,2,4])).half (N101 7 (li [4,2,3,5,6,3,2,4])).full)).getD default).snd.snd.full)).isSome&&true))))
theorem P99  (h:ok99 =true):PS Pz 99 [] (dPos.res (N99 )):=ps_sum (n:=14) hB99 (by kernel_rfl) (by kernel_rfl) (by kernel_rfl) h
noncomputable def G99:List AV→Tr AV:=g0  (gdv ok99 (dPos.res (N99)))
theorem s99:Sound Pz 99 G99:=sound0 (at_gd P99)
noncomputable def K100:List (Nat×Nat×List (Nat×List Nat)):=[(100,42,[(0,[0]),(1,[0,1]),(2,[0,1,9,10,11]),(3,(0::1::(rn 9 4 []))),(4,(rn 0 4 [9,10,11])),(5,[0,1,2,9,10,11,16,17,18]),(6,(0::1::2::9::10::11::(rn 16 4 []))),(7,[0,1,2,4,5,9,10,11,16,17,18]),(8,[0,1,2,9,10,11,16,17,18]),(9,[0,1,2,9,10,11,16,17,18]),(10,[0,1,9,10,11]),(11,[0])])]
noncomputable def B100:Base:=baseOf Pz (fun f i=>lkC f i K100) [(123,G123),(124,G124)] [] []
theorem hB100:BOk B100:=base_ok named_z ⟨s123,s124,trivial⟩ trivial trivial
noncomputable def N100  : Pos:=⟨((N123 8).variant),(li [13,12,11,10,2,3,4,5,14,12,11,10,2,3,4,6,0,0,0,0,0,0,0,0,0,0,0,0,0,0,0,0,0,0,0,0,0,0,0,0,0,0,0,0,0,0,0,0,0,0,0,0,0,0,0,0,0,0,0,0,0,0,0,0]),((N123 8).promoted),(li [0,0,0,0,0,0,0,0,0,0,0,0]),((N123 8).turn),(li [-1,-1,-1,-1]),((N123 8).passing),(li [0,0]),((N123 8).half),((N123 8).full)⟩
noncomputable def ok100  : Bool:=(ok123 8&&(ok124 5&&(ok124 4&&(ok124 3&&(ok124 2&&(ok124 6&&(ok124 4&&(ok124 3&&(ok124 2&&true)))))))))
theorem P100  (h:ok100 =true):PS Pz 100 [] (dPos.res (N100 )):=ps_sum (n:=14) hB100 (by kernel_rfl) (by kernel_rfl) (by kernel_rfl) h
noncomputable def G100:List AV→Tr AV:=g0  (gdv ok100 (dPos.res (N100)))
theorem s100:Sound Pz 100 G100:=sound0 (at_gd P100)
noncomputable def K64:List (Nat×Nat×List (Nat×List Nat)):=[(64,19,[(0,[0,2]),(1,[0,2,4]),(2,[2,3]),(3,[0,2,8]),(4,[2,3]),(5,[0,2,12]),(6,[2,3]),(7,[2,3])])]
noncomputable def B64:Base:=baseOf Pz (fun f i=>lkC f i K64) [(99,G99),(100,G100),(101,G101),(102,G102)] [] []
theorem hB64:BOk B64:=base_ok named_z ⟨s99,s100,s101,s102,trivial⟩ trivial trivial
noncomputable def N64 (a:Int):(Pos×Bool):=(bif decide (a ≥ 9) then (⟨(0),(li (List.replicate 64 0)),(0),(li [0,0,0,0,0,0,0,0,0,0,0,0]),(0),(li [0,0,0,0]),(0),(li [0,0]),(0),(0)⟩,(false)) else (bif a==7 then (⟨(N99.variant),(li [1,1,1,1,1,1,1,1,1,1,1,1,1,1,1,1,1,1,1,1,1,1,1,1,1,1,1,1,1,1,1,1,0,1,1,0,0,1,1,0,0,0,0,0,0,0,0,0,9,9,9,9,9,9,9,9,12,10,11,13,14,11,10,12]),(N99.promoted),(li [0,0,0,0,0,0,0,0,0,0,0,0]),(N99.turn),(li [-1,-1,7,0]),(N99.passing),(li [0,0]),(N99.half),(N99.full)⟩,(true)) else (bif a==8 then (⟨(N100.variant),(li [13,12,11,10,2,3,4,5,14,12,11,10,2,3,4,6,0,0,0,0,0,0,0,0,0,0,0,0,0,0,0,0,0,0,0,0,0,0,0,0,0,0,0,0,0,0,0,0,0,0,0,0,0,0,0,0,0,0,0,0,0,0,0,0]),(N100.promoted),(li [0,0,0,0,0,0,0,0,0,0,0,0]),(N100.turn),(li [-1,-1,-1,-1]),(N100.passing),(li [0,0]),(N100.half),(N100.full)⟩,(true)) else (⟨((N101 a (li [4,2,3,5,6,3,2,4])).variant),((N101 a (li [4,2,3,5,6,3,2,4])).board),((N101 a (li [4,2,3,5,6,3,2,4])).promoted),((N101 a (li [4,2,3,5,6,3,2,4])).pockets),((N101 a (li [4,2,3,5,6,3,2,4])).turn),((N101 a (li [4,2,3,5,6,3,2,4])).rooks),((N101 a (li [4,2,3,5,6,3,2,4])).passing),((N101 a (li [4,2,3,5,6,3,2,4])).checks),((N101 a (li [4,2,3,5,6,3,2,4])).half),((N101 a (li [4,2,3,5,6,3,2,4])).full)⟩,(true)))))
noncomputable def ok64 (a:Int):Bool:=(bif decide (a ≥ 9) then true else (bif a==7 then (ok99&&true) else (bif a==8 then (ok100&&true) else (ok101 a (li [4,2,3,5,6,3,2,4])&&true))))
theorem P64 (a:Int) (h:ok64 a=true):PS Pz 64 [.int .u8 a] ((d2 dPos dB).res (N64 a)):=ps_sum (n:=14) hB64 (by kernel_rfl) (by kernel_rfl) (by kernel_rfl) h
noncomputable def G64:List AV→Tr AV:=g1 (dI .u8) (fun a=>gdv (ok64 a) ((d2 dPos dB).res (N64 a)))
theorem s64:Sound Pz 64 G64:=sound1 fun a=>at_gd (P64 a)
noncomputable def K33:List (Nat×Nat×List (Nat×List Nat)):=[(33,14,[(0,[0]),(1,[3,4]),(2,[3,11]),(3,[2]),(4,[2])])]
noncomputable def B33:Base:=baseOf Pz (fun f i=>lkC f i K33) [(12,G12),(64,G64)] [] []
theorem hB33:BOk B33:=base_ok named_z ⟨s12,s64,trivial⟩ trivial trivial
noncomputable def N33 (a:Int):List UInt8:=(bif !(N64 a).snd then ((ByteArray.mk #[]).data.toList) else (N12 (N64 a).fst))
noncomputable def ok33 (a:Int):Bool:=(ok64 a&&(bif !(N64 a).snd then true else (ok12 (N64 a).fst&&true)))
theorem P33 (a:Int) (h:ok33 a=true):PS Pz 33 [.int .u8 a] (dS.res (N33 a)):=ps_sum (n:=14) hB33 (by kernel_rfl) (by kernel_rfl) (by kernel_rfl) h
end Kz
end
section
namespace Kz
open Go Go.RowKit Go.Proofs
set_option maxRecDepth 100000
def posInB (p:Pos):Bool :=
  decide (0≤p.variant)&&decide (p.variant≤255)&&(p.board.length==64)&&p.board.all (fun x=>decide (0≤x∧x≤255))&&(p.pockets.length==12)&&p.pockets.all (fun x=>decide (0≤x∧x≤255)) &&
  decide (0≤p.turn)&&decide (p.turn≤255)&&(p.rooks.length==4)&&p.rooks.all (fun x=>decide (-128≤x∧x≤127))&&decide (-128≤p.passing)&&decide (p.passing≤127)&&(p.checks.length==2)&&p.checks.all (fun x=>decide (0≤x∧x≤255)) &&
  decide (-9223372036854775808≤p.half)&&decide (p.half≤9223372036854775807)&&decide (-9223372036854775808≤p.full)&&decide (p.full≤9223372036854775807)
theorem posIn_of {p:Pos} (h:posInB p=true):PosIn p:=by
  unfold posInB at h
  simp only [Bool.and_eq_true,decide_eq_true_eq,beq_iff_eq,List.all_eq_true] at h
  obtain ⟨⟨⟨⟨⟨⟨⟨⟨⟨⟨⟨⟨⟨⟨⟨⟨⟨a,b⟩,c⟩,d⟩,e⟩,f⟩,g⟩,h⟩,i⟩,j⟩,k⟩,l⟩,m⟩,n⟩,o⟩,q⟩,r⟩,s⟩:=h
  exact ⟨a,b,c,d,e,f,g,h,i,j,k,l,m,n,⟨o,q⟩,⟨r,s⟩⟩
theorem st64:ok64 0=true∧ok64 2=true:=⟨by kernel_rfl,by kernel_rfl⟩
theorem in64:posInB (N64 0).1=true:=by kernel_rfl
theorem wr64:N59 (N64 0).1=true:=by kernel_rfl
theorem tx64 : fenT (N64 0).1 = "rnbqkbnr/pppppppp/8/8/8/8/PPPPPPPP/RNBQKBNR w KQkq - 0 1".toUTF8.data.toList := by kernel_rfl
theorem at_or {f:Nat} {xs:List AV} {b:Bool} {v:AV} {t:Tr AV} (h:b=true→PS Pz f xs v) (h2:At0 Pz f xs t):At0 Pz f xs (.br b (.ret v) t):=by
  intro u hu
  cases b with
  | true=>exact (Option.some.inj hu) ▸ h rfl
  | false=>exact h2 u hu
theorem at_no {f:Nat} {xs:List AV}:At0 Pz f xs .fail:=fun _ hu=>by cases hu
theorem q86_8:PS Pz 86 [.str [56]] (.tuple [.int .u8 0,.bool false]):=P86 [56] (by kernel_rfl)
theorem q86_4:PS Pz 86 [.str [52]] (.tuple [.int .u8 0,.bool false]):=P86 [52] (by kernel_rfl)
theorem inv2 {g:Gh} {tk:List Nat} {w:World} {a b:AV} {x:Value} (h:Rep g tk w (.tuple [a,b]) x):∃ y z,x=.tuple #[y,z]∧Rep g tk w a y∧Rep g tk w b z:=by
  generalize e:AV.tuple [a,b]=v at h
  cases h with
  | tuple q =>
    rename_i l vs
    cases e
    obtain ⟨vs⟩:=vs
    cases q with
    | cons q1 q2 =>
      cases q2 with
      | cons q2 q3 =>
        cases q3
        exact ⟨_,_,rfl,q1,q2⟩
  | _=>cases e
theorem to_c {f:Nat} {xs:List AV} (h:PS Pz f xs (.tuple [.int .u8 0,.bool false])):PS Pz f xs (.tuple [.cint .u8 0,.cbool false]) :=
  ⟨fun w vals hg hr=>(h.1 w vals hg hr).mono fun e w' ⟨x,e1,e2,e3⟩=>⟨x,e1,e2,by
    obtain ⟨y,z,rfl,q1,q2⟩:=inv2 e3
    cases q1
    cases q2
    exact .tuple (.cons (.cint _ _) (.cons (.cbool _) .nil))⟩,h.2⟩
noncomputable def T86:List AV→Tr AV:=g1 dS fun s=>.br (s==[56]) (.ret (.tuple [.cint .u8 0,.cbool false])) (.br (s==[52]) (.ret (.tuple [.cint .u8 0,.cbool false])) .fail)
theorem sT86:Sound Pz 86 T86:=sound1 fun s=>at_or (fun e=>by rw [beq_iff_eq] at e; subst e; exact to_c q86_8) (at_or (fun e=>by rw [beq_iff_eq] at e; subst e; exact to_c q86_4) at_no)
def li64 (k:Nat) (n:Int):List Int:=List.replicate k n
def pE (t h f:Int):Pos:=⟨0,li64 64 0,0#64,li64 12 0,t,li64 4 (-1),-1,li64 2 0,h,f⟩
def posE (p q:Pos):Bool:=p.variant==q.variant&&(p.board==q.board&&(p.promoted==q.promoted&&(p.pockets==q.pockets&&(p.turn==q.turn&&(p.rooks==q.rooks&&(p.passing==q.passing&&(p.checks==q.checks&&(p.half==q.half&&p.full==q.full))))))))
theorem posE_eq {p q:Pos} (h:posE p q=true):p=q:=by
  unfold posE at h
  simp only [Bool.and_eq_true,beq_iff_eq] at h
  obtain ⟨a,b,c,d,e,f,g,i,j,k⟩:=h
  cases p; cases q
  simp only at a b c d e f g i j k
  subst a; subst b; subst c; subst d; subst e; subst f; subst g; subst i; subst j; subst k
  rfl
def tE1 : List UInt8 := "8/8/8/8/8/8/8/8 w - - 0 1".toUTF8.data.toList
def tE2 : List UInt8 := "8/8/8/8/8/8/8/8 b - - 7 9".toUTF8.data.toList
theorem print_run {p:Pos} {t:List UInt8} (hi:posInB p=true) (hw:N59 p=true) (ht:fenT p=t) (hl:fin200 t=t):ok12 p=true∧N12 p=t:=by
  obtain ⟨a,b,_⟩:=print_at (posIn_of hi)
  refine ⟨a,?_⟩
  rw [b ((N13_iff (posIn_of hi)).1.1 hw),ht,hl]
theorem q12_1:PS Pz 12 [Pos.av (pE 0 0 1)] (.str tE1):=by
  obtain ⟨a,b⟩:=print_run (p:=pE 0 0 1) (t:=tE1) (by kernel_rfl) (by kernel_rfl) (by kernel_rfl) (by kernel_rfl)
  have:=P12 _ a
  rw [b] at this
  exact this
theorem q12_2:PS Pz 12 [Pos.av (pE 1 7 9)] (.str tE2):=by
  obtain ⟨a,b⟩:=print_run (p:=pE 1 7 9) (t:=tE2) (by kernel_rfl) (by kernel_rfl) (by kernel_rfl) (by kernel_rfl)
  have:=P12 _ a
  rw [b] at this
  exact this
noncomputable def T12:List AV→Tr AV:=g1 dPos fun p=>.br (posE p (pE 0 0 1)) (.ret (.str tE1)) (.br (posE p (pE 1 7 9)) (.ret (.str tE2)) .fail)
theorem sT12:Sound Pz 12 T12:=sound1 fun p=>at_or (fun e=>by rw [posE_eq e]; exact q12_1) (at_or (fun e=>by rw [posE_eq e]; exact q12_2) at_no)
noncomputable def Bq9:Base:=baseOf Pz (fun _ _=>[]) [(120,G120),(87,G87),(86,T86),(66,G66),(12,T12)] [] []
theorem hBq9:BOk Bq9:=base_ok named_z ⟨s120,s87,sT86,s66,sT12,trivial⟩ trivial trivial
def a1 : List UInt8 := "8/8 w - - 0 1".toUTF8.data.toList
def a2 : List UInt8 := "8/8/8/8/8/8/8/44 w - - 0 1".toUTF8.data.toList
def a3 : List UInt8 := "8/8/8/8/8/8/8/8 w K - 0 1".toUTF8.data.toList
def a4 : List UInt8 := "8/8/8/8/8/8/8/8 w - - 00 1".toUTF8.data.toList
def pZ:Pos:=⟨0,li64 64 0,0#64,li64 12 0,0,li64 4 0,0,li64 2 0,0,0⟩
def chkR (x:Pos×Int) (t:Tr AV):Bool:=match t.get with
  | some v=>match (d2 dPos (dI .i64)).dec v with
    | some y=>posE y.1 x.1&&y.2==x.2
    | none=>false
  | none=>false
theorem run_pos {n f:Nat} {xs:List AV} {x:Pos×Int} (h:chkR x (evPure Bq9 n f xs)=true):PS Pz f xs ((d2 dPos (dI .i64)).res x):=by
  unfold chkR at h
  split at h
  · rename_i v hv
    split at h
    · rename_i y hy
      simp only [Bool.and_eq_true,beq_iff_eq] at h
      have:y=x:=Prod.ext (posE_eq h.1) h.2
      subst this
      exact ps_of hBq9 hv (d2 dPos (dI .i64)) hy
    · cases h
  · cases h
theorem q9_1:PS Pz 9 [.int .u8 0,.str a1] ((d2 dPos (dI .i64)).res (pZ,5)):=run_pos (n:=60) (by kernel_rfl)
theorem q9_2:PS Pz 9 [.int .u8 0,.str a2] ((d2 dPos (dI .i64)).res (pZ,5)):=run_pos (n:=60) (by kernel_rfl)
theorem q9_3:PS Pz 9 [.int .u8 0,.str a3] ((d2 dPos (dI .i64)).res (pZ,5)):=run_pos (n:=60) (by kernel_rfl)
theorem q9_4:PS Pz 9 [.int .u8 0,.str a4] ((d2 dPos (dI .i64)).res (pZ,5)):=run_pos (n:=60) (by kernel_rfl)
theorem q9_5:PS Pz 9 [.int .u8 0,.str tE2] ((d2 dPos (dI .i64)).res (pE 1 7 9,0)):=run_pos (n:=60) (by kernel_rfl)
theorem first_run {v:Int} {t:List UInt8} (h64:ok64 v=true) (h2:(N64 v).2=true) (hi:posInB (N64 v).1=true) (hw:N59 (N64 v).1=true) (ht:fenT (N64 v).1=t) (hl:fin200 t=t):PS Pz 33 [.int .u8 v] (.str t):=by
  obtain ⟨a,b⟩:=print_run hi hw ht hl
  have:=P33 v (by unfold ok33; rw [h64,h2,a]; rfl)
  have e:N33 v=t:=by unfold N33; rw [h2,b]; rfl
  rw [e] at this
  exact this
def f0 : List UInt8 := "rnbqkbnr/pppppppp/8/8/8/8/PPPPPPPP/RNBQKBNR w KQkq - 0 1".toUTF8.data.toList
def f2 : List UInt8 := "rnbqkbnr/pppppppp/8/8/8/8/PPPPPPPP/RNBQKBNR[] w KQkq - 0 1".toUTF8.data.toList
def f5 : List UInt8 := "rnbqkbnr/pppppppp/8/8/8/8/PPPPPPPP/RNBQKBNR w KQkq - +0+0 0 1".toUTF8.data.toList
def f8 : List UInt8 := "8/8/8/8/8/8/krbnNBRK/qrbnNBRQ w - - 0 1".toUTF8.data.toList
theorem q33_0:PS Pz 33 [.int .u8 0] (.str f0):=first_run (by kernel_rfl) (by kernel_rfl) (by kernel_rfl) (by kernel_rfl) (by kernel_rfl) (by kernel_rfl)
theorem q33_2:PS Pz 33 [.int .u8 2] (.str f2):=first_run (by kernel_rfl) (by kernel_rfl) (by kernel_rfl) (by kernel_rfl) (by kernel_rfl) (by kernel_rfl)
theorem q33_5:PS Pz 33 [.int .u8 5] (.str f5):=first_run (by kernel_rfl) (by kernel_rfl) (by kernel_rfl) (by kernel_rfl) (by kernel_rfl) (by kernel_rfl)
theorem q33_8:PS Pz 33 [.int .u8 8] (.str f8):=first_run (by kernel_rfl) (by kernel_rfl) (by kernel_rfl) (by kernel_rfl) (by kernel_rfl) (by kernel_rfl)
noncomputable def T33:List AV→Tr AV:=g1 (dI .u8) fun v=>.br (v==0) (.ret (.str f0)) (.br (v==2) (.ret (.str f2)) (.br (v==5) (.ret (.str f5)) (.br (v==8) (.ret (.str f8)) .fail)))
theorem sT33:Sound Pz 33 T33:=sound1 fun v=>at_or (fun e=>by rw [beq_iff_eq] at e; subst e; exact q33_0) (at_or (fun e=>by rw [beq_iff_eq] at e; subst e; exact q33_2) (at_or (fun e=>by rw [beq_iff_eq] at e; subst e; exact q33_5) (at_or (fun e=>by rw [beq_iff_eq] at e; subst e; exact q33_8) at_no)))
def is9 (v:Int) (s t:List UInt8):Bool:=v==0&&s==t
theorem is9_eq {v:Int} {s t:List UInt8} (h:is9 v s t=true):v=0∧s=t:=by
  unfold is9 at h
  simp only [Bool.and_eq_true,beq_iff_eq] at h
  exact h
noncomputable def T9:List AV→Tr AV:=g2 (dI .u8) dS fun v s=>.br (is9 v s a1) (.ret ((d2 dPos (dI .i64)).res (pZ,5))) (.br (is9 v s a2) (.ret ((d2 dPos (dI .i64)).res (pZ,5))) (.br (is9 v s a3) (.ret ((d2 dPos (dI .i64)).res (pZ,5))) (.br (is9 v s a4) (.ret ((d2 dPos (dI .i64)).res (pZ,5))) (.br (is9 v s tE2) (.ret ((d2 dPos (dI .i64)).res (pE 1 7 9,0))) .fail))))
theorem sT9:Sound Pz 9 T9:=sound2 fun v s=>at_or (fun e=>by obtain ⟨rfl,rfl⟩:=is9_eq e; exact q9_1) (at_or (fun e=>by obtain ⟨rfl,rfl⟩:=is9_eq e; exact q9_2) (at_or (fun e=>by obtain ⟨rfl,rfl⟩:=is9_eq e; exact q9_3) (at_or (fun e=>by obtain ⟨rfl,rfl⟩:=is9_eq e; exact q9_4) (at_or (fun e=>by obtain ⟨rfl,rfl⟩:=is9_eq e; exact q9_5) at_no))))
noncomputable def Bq11:Base:=baseOf Pz (fun _ _=>[]) [(33,T33),(9,T9)] [] []
theorem hBq11:BOk Bq11:=base_ok named_z ⟨sT33,sT9,trivial⟩ trivial trivial
def chkB (t:Tr AV):Bool:=match t.get with
  | some v=>match dB.dec v with
    | some b=>b
    | none=>false
  | none=>false
theorem P11:PS Pz 11 [] (.bool true):=by
  have h:chkB (evPure Bq11 60 11 [])=true:=by kernel_rfl
  unfold chkB at h
  split at h
  · rename_i v hv
    split at h
    · rename_i b hb
      subst h
      exact ps_of hBq11 hv dB hb
    · cases h
  · cases h
noncomputable def G11:List AV→Tr AV:=g0 (.ret (.bool true))
theorem s11:Sound Pz 11 G11:=sound0 fun _ h=>(Option.some.inj h) ▸ P11
end Kz
end
section

end
section
namespace Kz
open Go Go.RowKit Go.Proofs
set_option maxRecDepth 100000
set_option maxHeartbeats 4000000
noncomputable def K6:List (Nat×Nat×List (Nat×List Nat)):=[(6,81,[(0,[1,2,3]),(1,[1,2,3,17]),(2,[6]),(3,[1,2,3,7]),(4,[1,2,3,7,9]),(5,[2,3,7,31]),(6,[6]),(7,[2,3,7,33]),(8,[6]),(9,[2,3,7,10]),(10,[2,3,7,10,12]),(11,[2,3,7,12,48]),(12,[6]),(13,[2,7,12,13,14]),(14,[7,12,13,14,15]),(15,[6])])]
noncomputable def B6:Base:=baseOf Pz (fun f i=>lkC f i K6) [(9,G9),(11,G11),(12,G12)] [] []
theorem hB6:BOk B6:=base_ok named_z ⟨s9,s11,s12,trivial⟩ trivial trivial
noncomputable def N6 (a:Pos) (b:Int) (c:Int):Bool:=(bif !true then (false) else (bif decide (b ≥ 9) then (bif (N9 b (N12 a)).snd != 2 then (false) else (bif N12 a==(ByteArray.mk #[]).data.toList then (true) else (bif decide (Int.ofNat (N12 a++List.map ub [c]).length > 200) then ((N9 a.variant (N12 a++List.map ub [c])).snd==3) else (bif decide (c ≥ 48) then (bif (N9 a.variant (N12 a++List.map ub [c])).snd==5 then (bif (N9 a.variant (List.drop 1 (List.take (N12 a).length (N12 a)))).snd==5 then (true) else (N12 (N9 a.variant (List.drop 1 (List.take (N12 a).length (N12 a)))).fst==List.drop 1 (List.take (N12 a).length (N12 a)))) else (bif decide (c≤57) then (bif (N9 a.variant (List.drop 1 (List.take (N12 a).length (N12 a)))).snd==5 then (true) else (N12 (N9 a.variant (List.drop 1 (List.take (N12 a).length (N12 a)))).fst==List.drop 1 (List.take (N12 a).length (N12 a)))) else (false))) else (bif (N9 a.variant (N12 a++List.map ub [c])).snd==5 then (bif (N9 a.variant (List.drop 1 (List.take (N12 a).length (N12 a)))).snd==5 then (true) else (N12 (N9 a.variant (List.drop 1 (List.take (N12 a).length (N12 a)))).fst==List.drop 1 (List.take (N12 a).length (N12 a)))) else (false)))))) else (bif N12 a==(ByteArray.mk #[]).data.toList then (true) else (bif decide (Int.ofNat (N12 a++List.map ub [c]).length > 200) then ((N9 a.variant (N12 a++List.map ub [c])).snd==3) else (bif decide (c ≥ 48) then (bif (N9 a.variant (N12 a++List.map ub [c])).snd==5 then (bif (N9 a.variant (List.drop 1 (List.take (N12 a).length (N12 a)))).snd==5 then (true) else (N12 (N9 a.variant (List.drop 1 (List.take (N12 a).length (N12 a)))).fst==List.drop 1 (List.take (N12 a).length (N12 a)))) else (bif decide (c≤57) then (bif (N9 a.variant (List.drop 1 (List.take (N12 a).length (N12 a)))).snd==5 then (true) else (N12 (N9 a.variant (List.drop 1 (List.take (N12 a).length (N12 a)))).fst==List.drop 1 (List.take (N12 a).length (N12 a)))) else (false))) else (bif (N9 a.variant (N12 a++List.map ub [c])).snd==5 then (bif (N9 a.variant (List.drop 1 (List.take (N12 a).length (N12 a)))).snd==5 then (true) else (N12 (N9 a.variant (List.drop 1 (List.take (N12 a).length (N12 a)))).fst==List.drop 1 (List.take (N12 a).length (N12 a)))) else (false)))))))
noncomputable def ok6 (a:Pos) (b:Int) (c:Int):Bool:=(bif !true then true else (ok12 a&&(ok9 b (N12 a)&&(bif decide (b ≥ 9) then (bif (N9 b (N12 a)).snd != 2 then true else (bif N12 a==(ByteArray.mk #[]).data.toList then true else (decide ((N12 a).length+1≤1073741824)&&(ok9 a.variant (N12 a++List.map ub [c])&&(bif decide (Int.ofNat (N12 a++List.map ub [c]).length > 200) then true else (decide (0≤1)&&decide (1≤Int.ofNat (N12 a).length)&&(ok9 a.variant (List.drop 1 (List.take (N12 a).length (N12 a)))&&(bif decide (c ≥ 48) then (bif (N9 a.variant (N12 a++List.map ub [c])).snd==5 then (bif (N9 a.variant (List.drop 1 (List.take (N12 a).length (N12 a)))).snd==5 then true else (ok12 (N9 a.variant (List.drop 1 (List.take (N12 a).length (N12 a)))).fst&&(decide (0≤1)&&decide (1≤Int.ofNat (N12 a).length)&&true))) else (bif decide (c≤57) then (bif (N9 a.variant (List.drop 1 (List.take (N12 a).length (N12 a)))).snd==5 then true else (ok12 (N9 a.variant (List.drop 1 (List.take (N12 a).length (N12 a)))).fst&&(decide (0≤1)&&decide (1≤Int.ofNat (N12 a).length)&&true))) else true)) else (bif (N9 a.variant (N12 a++List.map ub [c])).snd==5 then (bif (N9 a.variant (List.drop 1 (List.take (N12 a).length (N12 a)))).snd==5 then true else (ok12 (N9 a.variant (List.drop 1 (List.take (N12 a).length (N12 a)))).fst&&(decide (0≤1)&&decide (1≤Int.ofNat (N12 a).length)&&true))) else true))))))))) else (bif N12 a==(ByteArray.mk #[]).data.toList then true else (decide ((N12 a).length+1≤1073741824)&&(ok9 a.variant (N12 a++List.map ub [c])&&(bif decide (Int.ofNat (N12 a++List.map ub [c]).length > 200) then true else (decide (0≤1)&&decide (1≤Int.ofNat (N12 a).length)&&(ok9 a.variant (List.drop 1 (List.take (N12 a).length (N12 a)))&&(bif decide (c ≥ 48) then (bif (N9 a.variant (N12 a++List.map ub [c])).snd==5 then (bif (N9 a.variant (List.drop 1 (List.take (N12 a).length (N12 a)))).snd==5 then true else (ok12 (N9 a.variant (List.drop 1 (List.take (N12 a).length (N12 a)))).fst&&(decide (0≤1)&&decide (1≤Int.ofNat (N12 a).length)&&true))) else (bif decide (c≤57) then (bif (N9 a.variant (List.drop 1 (List.take (N12 a).length (N12 a)))).snd==5 then true else (ok12 (N9 a.variant (List.drop 1 (List.take (N12 a).length (N12 a)))).fst&&(decide (0≤1)&&decide (1≤Int.ofNat (N12 a).length)&&true))) else true)) else (bif (N9 a.variant (N12 a++List.map ub [c])).snd==5 then (bif (N9 a.variant (List.drop 1 (List.take (N12 a).length (N12 a)))).snd==5 then true else (ok12 (N9 a.variant (List.drop 1 (List.take (N12 a).length (N12 a)))).fst&&(decide (0≤1)&&decide (1≤Int.ofNat (N12 a).length)&&true))) else true))))))))))))
theorem P6 (a:Pos) (b:Int) (c:Int) (h:ok6 a b c=true):PS Pz 6 [Pos.av a,.int .u8 b,.int .u8 c] (dB.res (N6 a b c)):=ps_sum (n:=14) hB6 (by kernel_rfl) (by kernel_rfl) (by kernel_rfl) h
noncomputable def G6:List AV→Tr AV:=g3 dPos (dI .u8) (dI .u8) (fun a b c=>gdv (ok6 a b c) (dB.res (N6 a b c)))
theorem s6:Sound Pz 6 G6:=sound3 fun a b c=>at_gd (P6 a b c)
noncomputable def st13_1 (p1:(List UInt8)) (x:(Int×Int)):Stp (Int×Int) ((Int×Int×Bool)):=(bif decide (x.fst > 0) then (bif decide (x.snd > 0) then (bif Int.ofNat (p1[(wr .i64 (x.snd - 1)).toNat]?.getD 0).toNat==32 then (Stp.go (wr .i64 (x.fst - 1),wr .i64 (x.snd - 1))) else (Stp.go (x.fst,wr .i64 (x.snd - 1)))) else (Stp.out ((x.fst,x.snd,decide (x.snd > 0))))) else (Stp.out ((x.fst,x.snd,false))))
noncomputable def okL13_1 (p1:(List UInt8)) (x:(Int×Int)):Bool:=(bif decide (x.fst > 0) then (bif decide (x.snd > 0) then (decide (0≤wr .i64 (x.snd - 1))&&decide (wr .i64 (x.snd - 1) < Int.ofNat p1.length)&&true) else true) else true)
noncomputable def lp13_1 (p1:(List UInt8)) (x:(Int×Int)):Option ((Int×Int×Bool)):=itl (fun x=>bif okL13_1 p1 x then st13_1 p1 x else .bad) many x
noncomputable def N13 (a:List UInt8) (b:Int):List UInt8:=(bif ((lp13_1 a (b,Int.ofNat a.length)).getD default).snd.fst==0 then ((ByteArray.mk #[]).data.toList) else (List.drop 0 (List.take (wr .i64 (((lp13_1 a (b,Int.ofNat a.length)).getD default).snd.fst+1)).toNat a)))
noncomputable def ok13 (a:List UInt8) (b:Int):Bool:=((lp13_1 a (b,Int.ofNat a.length)).isSome&&(bif ((lp13_1 a (b,Int.ofNat a.length)).getD default).snd.fst==0 then true else (decide (0≤wr .i64 (((lp13_1 a (b,Int.ofNat a.length)).getD default).snd.fst+1))&&decide (wr .i64 (((lp13_1 a (b,Int.ofNat a.length)).getD default).snd.fst+1)≤Int.ofNat a.length)&&true)))
noncomputable def st14_1  (x:(Int×(List UInt8))):Stp (Int×(List UInt8)) ((Int×(List UInt8)×Bool)):=(bif x.snd==(ByteArray.mk #[]).data.toList then (Stp.go (wr .i64 (x.fst.tdiv 10),List.map ub [wr .u8 (wr .i64 (48+x.fst.tmod 10))]++x.snd)) else (bif decide (x.fst > 0) then (Stp.go (wr .i64 (x.fst.tdiv 10),List.map ub [wr .u8 (wr .i64 (48+x.fst.tmod 10))]++x.snd)) else (Stp.out ((x.fst,x.snd,decide (x.fst > 0))))))
noncomputable def okL14_1  (x:(Int×(List UInt8))):Bool:=(bif x.snd==(ByteArray.mk #[]).data.toList then (decide (1+x.snd.length≤1073741824)&&true) else (bif decide (x.fst > 0) then (decide (1+x.snd.length≤1073741824)&&true) else true))
noncomputable def lp14_1  (x:(Int×(List UInt8))):Option ((Int×(List UInt8)×Bool)):=itl (fun x=>bif okL14_1  x then st14_1  x else .bad) many x
noncomputable def N14 (a:Int):List UInt8:=(((lp14_1 (a,(ByteArray.mk #[]).data.toList)).getD default).snd.fst)
noncomputable def ok14 (a:Int):Bool:=((lp14_1 (a,(ByteArray.mk #[]).data.toList)).isSome&&true)
end Kz
end
section
namespace Kz
open Go Go.RowKit Go.Proofs
set_option maxRecDepth 100000
theorem digits_eq {n:Int} (h0:0≤n) (h1:n≤100000):N14 n=itoaL n∧ok14 n=true:=by
  have h:=N18_eq h0 h1
  exact h
theorem lp13_at (a:List UInt8) (p0 p1:Nat) (h0:a[p0]?=some 32) (h1:a[p1]?=some 32) (h01:p0 < p1) (hm:∀ j,p0 < j→j < p1→a[j]?≠some 32) (he:∀ j,p1 < j→a[j]?≠some 32) (hl:a.length≤1000000) :
    ∃ r,lp13_1 a (2,Int.ofNat a.length)=some r∧r.2.1=(p0:Int):=by
  have l0:p0 < a.length:=(List.getElem?_eq_some_iff.1 h0).1
  have l1:p1 < a.length:=(List.getElem?_eq_some_iff.1 h1).1
  refine lp_many (I:=fun x:Int×Int=>x.2≤(a.length:Int)∧((x.1=2∧(p1:Int) < x.2)∨(x.1=1∧(p0:Int) < x.2∧x.2≤(p1:Int))∨(x.1=0∧x.2=(p0:Int)))) (μ:=fun x=>x.2.toNat) ?_ _ ⟨Int.le_refl _,.inl ⟨rfl,by show (p1:Int) < (a.length:Int); omega⟩⟩ (by show a.length < _; omega)
  rintro ⟨n,e⟩ ⟨g0,g1⟩
  simp only at g0 g1
  have key:∀ (j:Nat),e - 1=j→(Int.ofNat (a[(e - 1).toNat]?.getD 0).toNat==32)=(a[j]?==some 32):=by
    intro j hj
    rw [hj,Int.toNat_natCast]
    have hjl:j < a.length:=by omega
    rw [List.getElem?_eq_getElem hjl,Option.getD_some]
    rw [Bool.eq_iff_iff,beq_iff_eq,beq_iff_eq,Option.some.injEq]
    constructor
    · intro h
      apply UInt8.toNat_inj.1
      have:((a[j].toNat:Nat):Int)=32:=h
      show a[j].toNat=32
      omega
    · intro h
      rw [h]; rfl
  unfold okL13_1 st13_1
  dsimp only
  by_cases hn:0 < n
  · have he1:0 < e:=by omega
    have w1:wr .i64 (e - 1)=e - 1:=wi64 (by omega) (by omega)
    have w2:wr .i64 (n - 1)=n - 1:=wi64 (by omega) (by omega)
    rw [w1,w2]
    refine ⟨c_true (fun _=>c_true (fun _=>a_true (a_true (decide_eq_true (by omega)) fun _=>decide_eq_true (by show e - 1 < (a.length:Int); omega)) fun _=>rfl) fun _=>rfl) fun _=>rfl,?_⟩
    refine c_ind (fun _=>c_ind (fun _ => ?_) fun h=>absurd h (by simpa using he1)) fun h=>absurd h (by simpa using hn)
    obtain ⟨j,hj⟩:=Int.eq_ofNat_of_zero_le (show 0≤e - 1 by omega)
    rw [key j hj]
    rcases g1 with ⟨rfl,g1⟩ | ⟨rfl,g1,g2⟩ | ⟨rfl,_⟩
    · by_cases hp:j=p1
      · subst hp
        rw [h1]
        exact ⟨⟨by dsimp only; omega,.inr (.inl ⟨rfl,by dsimp only; omega,by dsimp only; omega⟩)⟩,by dsimp only; omega⟩
      · have:(a[j]?==some 32)=false:=by simpa using he j (by omega)
        rw [this]
        exact ⟨⟨by dsimp only; omega,.inl ⟨rfl,by dsimp only; omega⟩⟩,by dsimp only; omega⟩
    · by_cases hp:j=p0
      · subst hp
        rw [h0]
        exact ⟨⟨by dsimp only; omega,.inr (.inr ⟨rfl,by dsimp only; omega⟩)⟩,by dsimp only; omega⟩
      · have:(a[j]?==some 32)=false:=by simpa using hm j (by omega) (by omega)
        rw [this]
        exact ⟨⟨by dsimp only; omega,.inr (.inl ⟨rfl,by dsimp only; omega,by dsimp only; omega⟩)⟩,by dsimp only; omega⟩
    · omega
  · have hz:n=0∧e=p0:=by omega
    refine ⟨c_true (fun h=>absurd h (by simpa using hn)) fun _=>rfl,c_ind (fun h=>absurd h (by simpa using hn)) fun _ => ?_⟩
    exact hz.2
theorem ahead_eq (A h f:List UInt8) (hA:A≠[]) (hh:(32:UInt8) ∉ h) (hf:(32:UInt8) ∉ f) (hl:(A++32::(h++32::f)).length≤1000000) :
    N13 (A++32::(h++32::f)) 2=A++[32]∧ok13 (A++32::(h++32::f)) 2=true:=by
  have hpos:0 < A.length:=List.length_pos_iff.2 hA
  have at0:(A++32::(h++32::f))[A.length]?=some 32:=by
    rw [List.getElem?_append_right (Nat.le_refl _),Nat.sub_self]; rfl
  have hafter:∀ j,A.length < j→(A++32::(h++32::f))[j]?=(h++32::f)[j - A.length - 1]? := by
    intro j hj
    rw [List.getElem?_append_right (by omega),show j - A.length=(j - A.length - 1)+1 by omega,List.getElem?_cons_succ]
    simp
  have at1:(A++32::(h++32::f))[A.length+1+h.length]?=some 32:=by
    rw [hafter _ (by omega),show A.length+1+h.length - A.length - 1=h.length by omega,List.getElem?_append_right (Nat.le_refl _),Nat.sub_self]; rfl
  obtain ⟨hs,hr⟩:=of_some (lp13_at _ A.length (A.length+1+h.length) at0 at1 (by omega) (fun j j0 j1 hj=>by
    rw [hafter _ j0,List.getElem?_append_left (by omega)] at hj
    exact hh (List.mem_of_getElem? hj)) (fun j j1 hj=>by
    rw [hafter _ (by omega),List.getElem?_append_right (by omega),show j - A.length - 1 - h.length=(j - A.length - 1 - h.length - 1)+1 by omega,List.getElem?_cons_succ] at hj
    exact hf (List.mem_of_getElem? hj)) hl)
  have len:A.length+1≤(A++32::(h++32::f)).length:=by simp
  unfold N13 ok13
  rw [hs,hr]
  have hz:((A.length:Int)==0)=false:=by
    rw [beq_eq_false_iff_ne]; omega
  have hw:wr .i64 ((A.length:Int)+1)=(A.length:Int)+1:=wi64 (by omega) (by omega)
  rw [hz,hw,cond_false,cond_false]
  refine ⟨?_,a_true rfl fun _=>a_true (a_true (decide_eq_true (by omega)) fun _=>decide_eq_true (by show (A.length:Int)+1≤((A++32::(h++32::f)).length:Int); omega)) fun _=>rfl⟩
  rw [show ((A.length:Int)+1).toNat=A.length+1 by omega,List.drop_zero,List.take_append,List.take_of_length_le (by omega),show A.length+1 - A.length=1 by omega]
  rfl
def withClocks (p:Pos) (h f:Int):Pos:={ p with half:=h,full:=f }
noncomputable def headT (p:Pos):List UInt8:=brdT p++32::(turnT p++32::(N37 (rkA p)++32::(passT p++(bif p.variant==5 then 32::43::(itoaL (p.checks.getD 0 0)++43::itoaL (p.checks.getD 1 0)) else []))))
theorem fenT_head (p:Pos):fenT p=headT p++32::(itoaL p.half++32::itoaL p.full):=by
  unfold fenT headT checkT
  cases (p.variant==5) <;> simp only [cond_true,cond_false,List.append_assoc,List.cons_append,List.nil_append,List.append_nil]
theorem headT_clocks (p:Pos) (h f:Int):headT (withClocks p h f)=headT p:=rfl
theorem headT_ne (p:Pos):headT p≠[]:=by
  unfold headT
  simp
theorem wr_clocks (p:Pos) (h f:Int) (hw:Wr13 p):Wr13 (withClocks p h f) ↔ 0≤h∧0≤f∧h≤10000∧f≤10000:=by
  obtain ⟨a,b,c,d,_,_,_,_,e⟩:=hw
  constructor
  · rintro ⟨_,_,_,_,i,j,k,l,_⟩
    exact ⟨i,j,k,l⟩
  · rintro ⟨i,j,k,l⟩
    exact ⟨a,b,c,d,i,j,k,l,e⟩
theorem in_clocks {p:Pos} (hp:PosIn p) {h f:Int} (h1 : -9223372036854775808≤h∧h≤9223372036854775807) (f1 : -9223372036854775808≤f∧f≤9223372036854775807):PosIn (withClocks p h f) :=
  { hp with h0:=h1,f0:=f1 }
theorem dec_no:∀ (k u:Nat),u < 10 ^ (k+1)→(32:UInt8) ∉ Lib.decDigits u:=by
  intro k
  induction k with
  | zero =>
    intro u hu hm
    rw [Lib.decDigits] at hm
    rw [dif_pos (show u < 10 by omega)] at hm
    have hu':u < 10:=by omega
    have:∀ v:Fin 10,(32:UInt8) ∉ [UInt8.ofNat (48+v.1)]:=by decide
    exact this ⟨u,hu'⟩ hm
  | succ k ih =>
    intro u hu hm
    rw [Lib.decDigits] at hm
    by_cases h10:u < 10
    · rw [dif_pos h10] at hm
      have:∀ v:Fin 10,(32:UInt8) ∉ [UInt8.ofNat (48+v.1)]:=by decide
      exact this ⟨u,h10⟩ hm
    · rw [dif_neg h10] at hm
      rcases List.mem_append.1 hm with hm | hm
      · exact ih (u / 10) (by rw [Nat.pow_succ] at hu; omega) hm
      · have:∀ v:Fin 10,(32:UInt8) ∉ [UInt8.ofNat (48+v.1)]:=by decide
        exact this ⟨u % 10,Nat.mod_lt _ (by omega)⟩ hm
theorem itoa_no {n:Int} (h0:0≤n) (h1:n≤10000):(32:UInt8) ∉ itoaL n∧(itoaL n).length≤5∧itoaL n≠[]:=by
  have e:itoaL n=Lib.decDigits n.toNat:=by
    rw [itoaL_eq (by omega) (by omega)]
    unfold Lib.itoa
    rw [if_neg (by omega)]
  rw [e]
  refine ⟨dec_no 4 _ (by omega),dec_len 4 _ (by omega),?_⟩
  rw [Lib.decDigits]
  split
  · simp
  · simp
theorem print_some {p:Pos} (hp:PosIn p) (h:N12 p≠[]):Wr13 p∧N12 p=fenT p∧(fenT p).length≤200:=by
  obtain ⟨_,a,b⟩:=print_at hp
  by_cases hw:Wr13 p
  · have e:=a hw
    rw [e] at h ⊢
    unfold fin200 at h ⊢
    by_cases hl:Int.ofNat (fenT p).length > 200
    · rw [decide_eq_true hl,cond_true] at h
      exact absurd rfl h
    · rw [decide_eq_false hl,cond_false]
      have:¬ ((fenT p).length:Int) > 200:=hl
      exact ⟨hw,rfl,by omega⟩
  · exact absurd (b hw) h
theorem fin_le {l:List UInt8} (h:l.length≤200):fin200 l=l:=by
  unfold fin200
  have:¬ Int.ofNat l.length > 200:=by
    show ¬ (l.length:Int) > 200
    omega
  rw [decide_eq_false this,cond_false]
theorem clocks_bad {p:Pos} (hp:PosIn p) {h f:Int} (h1 : -9223372036854775808≤h∧h≤9223372036854775807) (f1 : -9223372036854775808≤f∧f≤9223372036854775807) (hs:N12 p≠[]) (hb:¬ (0≤h∧0≤f∧h≤10000∧f≤10000)):N12 (withClocks p h f)=[]:=by
  obtain ⟨hw,_,_⟩:=print_some hp hs
  exact (print_at (in_clocks hp h1 f1)).2.2 fun hq=>hb ((wr_clocks p h f hw).1 hq)
theorem clocks_good {p:Pos} (hp:PosIn p) {h f:Int} (h0:0≤h) (f0:0≤f) (h1:h≤10000) (f1:f≤10000) (hs:N12 p≠[]) (hl:(N12 p).length+8≤200) :
    ok13 (N12 p) 2=true∧ok13 (N12 (withClocks p h f)) 2=true∧N13 (N12 p) 2=headT p++[32]∧N13 (N12 (withClocks p h f)) 2=headT p++[32]∧N12 (withClocks p h f)=headT p++[32]++N14 h++[32]++N14 f∧ok14 h=true∧ok14 f=true∧(N12 (withClocks p h f)).length≤200:=by
  obtain ⟨hw,e,hlen⟩:=print_some hp hs
  have hq:=in_clocks hp (h:=h) (f:=f) (by omega) (by omega)
  obtain ⟨_,_,_,_,ph0,pf0,ph1,pf1,_⟩:=hw
  obtain ⟨a1,a2,a3⟩:=itoa_no ph0 ph1
  obtain ⟨b1,b2,b3⟩:=itoa_no pf0 pf1
  obtain ⟨c1,c2,_⟩:=itoa_no h0 h1
  obtain ⟨d1,d2,_⟩:=itoa_no f0 f1
  have eh:=fenT_head p
  have et:fenT (withClocks p h f)=headT p++32::(itoaL h++32::itoaL f):=fenT_head (withClocks p h f)
  have la:0 < (itoaL p.half).length:=List.length_pos_iff.2 a3
  have lb:0 < (itoaL p.full).length:=List.length_pos_iff.2 b3
  rw [e] at hl ⊢
  have el:=congrArg List.length eh
  simp only [List.length_append,List.length_cons] at el
  have tl:=congrArg List.length et
  simp only [List.length_append,List.length_cons] at tl
  have t200:(fenT (withClocks p h f)).length≤200:=by omega
  have hprint:N12 (withClocks p h f)=fenT (withClocks p h f):=by
    rw [(print_at hq).2.1 ((wr_clocks p h f (print_some hp hs).1).2 ⟨h0,f0,h1,f1⟩),fin_le t200]
  rw [hprint]
  obtain ⟨g1,k1⟩:=digits_eq h0 (by omega)
  obtain ⟨g2,k2⟩:=digits_eq f0 (by omega)
  have w1:=ahead_eq (headT p) (itoaL p.half) (itoaL p.full) (headT_ne p) a1 b1 (by rw [← eh]; omega)
  have w2:=ahead_eq (headT p) (itoaL h) (itoaL f) (headT_ne p) c1 d1 (by rw [← et]; omega)
  rw [← eh] at w1
  rw [← et] at w2
  refine ⟨w1.2,w2.2,w1.1,w2.1,?_,k1,k2,t200⟩
  rw [et,g1,g2]
  simp only [List.append_assoc,List.cons_append,List.nil_append]
end Kz
end
section
namespace Kz
open Go Go.RowKit Go.Proofs
set_option maxRecDepth 100000
set_option maxHeartbeats 4000000
noncomputable def st17_1 (p1:(List UInt8)) (x:(Int)):Stp (Int) ((Int) ⊕ (Int×Bool)):=(bif decide (x < Int.ofNat p1.length) then (bif Int.ofNat (p1[x.toNat]?.getD 0).toNat==32 then (Stp.out (.inl ((x)))) else (Stp.go (wr .i64 (x+1)))) else (Stp.out (.inr ((x,decide (x < Int.ofNat p1.length))))))
noncomputable def okL17_1 (p1:(List UInt8)) (x:(Int)):Bool:=(bif decide (x < Int.ofNat p1.length) then (decide (0≤x)&&decide (x < Int.ofNat p1.length)&&true) else true)
noncomputable def lp17_1 (p1:(List UInt8)) (x:(Int)):Option ((Int) ⊕ (Int×Bool)):=itl (fun x=>bif okL17_1 p1 x then st17_1 p1 x else .bad) many x
noncomputable def N17 (a:List UInt8):Int:=(bif isL ((lp17_1 a 0).getD default) then (gl ((lp17_1 a 0).getD default)) else (Int.ofNat a.length))
noncomputable def ok17 (a:List UInt8):Bool:=((lp17_1 a 0).isSome&&bif isL ((lp17_1 a 0).getD default) then true else true)
end Kz
end
section
namespace Kz
open Go Go.RowKit Go.Proofs
set_option maxRecDepth 100000
def isLet (b:UInt8):Bool:=(decide (65≤b.toNat)&&decide (b.toNat≤90)) || (decide (97≤b.toNat)&&decide (b.toNat≤122))
def isDig (b:UInt8):Bool:=decide (48≤b.toNat)&&decide (b.toNat≤57)
def isRow (b:UInt8):Bool:=isLet b || (isDig b || b==126)
theorem dig_let {b:UInt8} (h:isDig b=true):isLet b=false:=by
  unfold isDig at h
  unfold isLet
  simp only [Bool.and_eq_true,decide_eq_true_eq] at h
  simp only [Bool.or_eq_false_iff,Bool.and_eq_false_iff,decide_eq_false_iff_not]
  omega
theorem row_no {b:UInt8} (h:isRow b=true):b≠32∧b≠47:=by
  refine ⟨?_,?_⟩ <;> rintro rfl <;> exact absurd h (by decide)
theorem tabL:(List.range 256).all (fun n=>bif N96 (n:Int) then ((N97 (n:Int)).length==1&&(N97 (n:Int)).all isLet) else true)=true:=by kernel_rfl
theorem let_of {x:Int} (h0:0≤x) (h1:x≤255) (h:N96 x=true):(N97 x).length=1∧∀ b ∈ N97 x,isLet b=true:=by
  have t:=tab_at tabL h0 (by omega)
  rw [Int.toNat_of_nonneg h0,h,cond_true] at t
  simp only [Bool.and_eq_true,beq_iff_eq,List.all_eq_true] at t
  exact t
theorem tabD:(List.range 9).all (fun n=>bif n==0 then true else ((itoaL (n:Int)).length==1&&(itoaL (n:Int)).all isDig))=true:=by kernel_rfl
theorem fl_of {e:Int} (h0:0≤e) (h8:e≤8):(fl e).length≤1∧(0 < e→(fl e).length=1)∧∀ b ∈ fl e,isDig b=true:=by
  unfold fl
  by_cases h:0 < e
  · have t:=tab_at tabD h0 (by omega)
    have hz:(e.toNat==0)=false:=by
      rw [beq_eq_false_iff_ne]; omega
    rw [Int.toNat_of_nonneg h0,hz,cond_false] at t
    simp only [Bool.and_eq_true,beq_iff_eq,List.all_eq_true] at t
    rw [decide_eq_true (show e > 0 from h),cond_true]
    exact ⟨by omega,fun _=>t.1,t.2⟩
  · rw [decide_eq_false (show ¬ e > 0 from h),cond_false]
    exact ⟨by simp,fun h'=>absurd h' h,fun b hb=>by cases hb⟩
def cntL (l:List UInt8):Nat:=l.countP isLet
theorem cntL_app (a b:List UInt8):cntL (a++b)=cntL a+cntL b:=List.countP_append
theorem cntL_no {l:List UInt8} (h:∀ b ∈ l,isLet b=false):cntL l=0:=List.countP_eq_zero.2 fun b hb=>by rw [h b hb]; decide
theorem cntL_all {l:List UInt8} (h:∀ b ∈ l,isLet b=true):cntL l=l.length:=List.countP_eq_length.2 h
theorem cnt_fl {e:Int} (h0:0≤e) (h8:e≤8):cntL (fl e)=0:=cntL_no fun b hb=>dig_let ((fl_of h0 h8).2.2 b hb)
def MenOk (p:Pos):Prop := ∀ s:Int,0≤s→s < 64→atS p s≠0→N96 (atS p s)=true
theorem piece_of {p:Pos} (hp:PosIn p) {s:Int} (h:N96 (atS p s)=true):cntL (pieceT p s)=1∧∀ b ∈ pieceT p s,isRow b=true:=by
  obtain ⟨a0,a1⟩:=at_in hp s
  obtain ⟨l1,l2⟩:=let_of a0 a1 h
  unfold pieceT
  rw [cntL_app,cntL_all l2,l1]
  refine ⟨?_,?_⟩
  · have:cntL (bif bitAt p.promoted s.toNat then [126] else [])=0:=by
      cases bitAt p.promoted s.toNat <;> rfl
    omega
  · intro b hb
    rcases List.mem_append.1 hb with hb | hb
    · unfold isRow; rw [l2 b hb]; rfl
    · revert hb
      cases bitAt p.promoted s.toNat with
      | true =>
        rw [cond_true,List.mem_singleton]
        rintro rfl
        rfl
      | false=>intro hb; cases hb
theorem row_of {p:Pos} (hp:PosIn p) (hm:MenOk p) {r:Int} (r0:0≤r) (r7:r≤7):∀ (k:Nat) (e:Int),k≤8→0≤e→e+k≤8→∀ b ∈ rowS p r k e,isRow b=true
  | 0,e,_,e0,e8=>fun b hb=>by
    rw [rowS] at hb
    unfold isRow
    rw [(fl_of e0 (by omega)).2.2 b hb]
    simp
  | k+1,e,k8,e0,e8=>fun b hb=>by
    rw [rowS] at hb
    by_cases h:atS p (8 * r+(7 - k))=0
    · rw [show (atS p (8 * r+(7 - (k:Int)))==0)=true by simpa using h,cond_true] at hb
      exact row_of hp hm r0 r7 k (e+1) (by omega) (by omega) (by omega) b hb
    · rw [show (atS p (8 * r+(7 - (k:Int)))==0)=false by simpa using h,cond_false] at hb
      rcases List.mem_append.1 hb with hb | hb
      · unfold isRow
        rw [(fl_of e0 (by omega)).2.2 b hb]
        simp
      · rcases List.mem_append.1 hb with hb | hb
        · exact (piece_of hp (hm _ (by omega) (by omega) h)).2 b hb
        · exact row_of hp hm r0 r7 k 0 (by omega) (by omega) (by omega) b hb
theorem row_cnt {p:Pos} {r:Int}:∀ (k:Nat) (e d:Int),0≤e→e+k≤8→0≤d→d+k≤8→cntL (rowS p r k e)=cntL (rowS p r k d)
  | 0,e,d,e0,e8,d0,d8=>by
    rw [rowS,rowS,cnt_fl e0 (by omega),cnt_fl d0 (by omega)]
  | k+1,e,d,e0,e8,d0,d8=>by
    rw [rowS,rowS]
    cases (atS p (8 * r+(7 - (k:Int)))==0) with
    | true=>exact row_cnt k (e+1) (d+1) (by omega) (by omega) (by omega) (by omega)
    | false=>simp only [cond_false,cntL_app,cnt_fl e0 (show e≤8 by omega),cnt_fl d0 (show d≤8 by omega)]
theorem row_mono {p:Pos} {r:Int}:∀ (k:Nat) (e d:Int),0≤e→e≤d→d+k≤8→(rowS p r k e).length≤(rowS p r k d).length:=by
  have fm:∀ e d:Int,0≤e→e≤d→d≤8→(fl e).length≤(fl d).length:=by
    intro e d e0 ed d8
    by_cases h:0 < d
    · rw [(fl_of (by omega) d8).2.1 h]
      exact (fl_of e0 (by omega)).1
    · obtain rfl:e=d:=by omega
      exact Nat.le_refl _
  intro k
  induction k with
  | zero =>
    intro e d e0 ed d8
    rw [rowS,rowS]
    exact fm e d e0 ed (by omega)
  | succ k ih =>
    intro e d e0 ed d8
    rw [rowS,rowS]
    cases (atS p (8 * r+(7 - (k:Int)))==0) with
    | true=>exact ih (e+1) (d+1) (by omega) (by omega) (by omega)
    | false =>
      simp only [cond_false,List.length_append]
      have:=fm e d e0 ed (by omega)
      omega
theorem lp17_at (a:List UInt8) (k:Nat) (h:a[k]?=some 32) (hm:∀ j,j < k→a[j]?≠some 32) (hl:a.length≤1000000):∃ r,lp17_1 a 0=some r∧r=.inl (k:Int):=by
  have lk:k < a.length:=(List.getElem?_eq_some_iff.1 h).1
  refine lp_many (I:=fun x:Int=>0≤x∧x≤(k:Int)) (μ:=fun x=>((k:Int) - x).toNat) ?_ _ ⟨Int.le_refl _,by omega⟩ (by first | omega | (dsimp only; omega))
  rintro e ⟨g0,g1⟩
  obtain ⟨j,rfl⟩:=Int.eq_ofNat_of_zero_le g0
  have hj:j < a.length:=by omega
  unfold okL17_1 st17_1
  rw [decide_eq_true (show (j:Int) < Int.ofNat a.length by show (j:Int) < (a.length:Int); omega),decide_eq_true g0]
  refine ⟨rfl,?_⟩
  rw [cond_true,Int.toNat_natCast,List.getElem?_eq_getElem hj,Option.getD_some]
  by_cases hjk:j=k
  · subst hjk
    have:a[j]=32:=by
      rw [List.getElem?_eq_getElem hj] at h
      exact Option.some.inj h
    rw [this]
    exact rfl
  · have:(Int.ofNat a[j].toNat==32)=false:=by
      rw [beq_eq_false_iff_ne]
      intro hc
      apply hm j (by omega)
      rw [List.getElem?_eq_getElem hj]
      congr 1
      apply UInt8.toNat_inj.1
      have:((a[j].toNat:Nat):Int)=32:=hc
      show a[j].toNat=32
      omega
    rw [this,cond_false,wi64 (by omega) (by omega)]
    exact ⟨⟨by omega,by omega⟩,by first | omega | (dsimp only; omega)⟩
theorem space_at {h t:List UInt8} (hn:∀ b ∈ h,b≠32) (hl:(h++32::t).length≤1000000):N17 (h++32::t)=h.length∧ok17 (h++32::t)=true:=by
  obtain ⟨r,e1,e2⟩:=lp17_at (h++32::t) h.length (by rw [List.getElem?_append_right (Nat.le_refl _),Nat.sub_self]; rfl) (fun j hj e=>by
    rw [List.getElem?_append_left hj] at e
    exact hn 32 (List.mem_of_getElem? e) rfl) hl
  subst e2
  unfold N17 ok17
  rw [e1]
  exact ⟨rfl,rfl⟩
variable {p:Pos} {v:Int}
noncomputable def badT (a:Pos) (c:Int):Bool:=(bif N12 a==(ByteArray.mk #[]).data.toList then (true) else (bif decide (Int.ofNat (N12 a++List.map ub [c]).length > 200) then ((N9 a.variant (N12 a++List.map ub [c])).snd==3) else (bif decide (c ≥ 48) then (bif (N9 a.variant (N12 a++List.map ub [c])).snd==5 then (bif (N9 a.variant (List.drop 1 (List.take (N12 a).length (N12 a)))).snd==5 then (true) else (N12 (N9 a.variant (List.drop 1 (List.take (N12 a).length (N12 a)))).fst==List.drop 1 (List.take (N12 a).length (N12 a)))) else (bif decide (c≤57) then (bif (N9 a.variant (List.drop 1 (List.take (N12 a).length (N12 a)))).snd==5 then (true) else (N12 (N9 a.variant (List.drop 1 (List.take (N12 a).length (N12 a)))).fst==List.drop 1 (List.take (N12 a).length (N12 a)))) else (false))) else (bif (N9 a.variant (N12 a++List.map ub [c])).snd==5 then (bif (N9 a.variant (List.drop 1 (List.take (N12 a).length (N12 a)))).snd==5 then (true) else (N12 (N9 a.variant (List.drop 1 (List.take (N12 a).length (N12 a)))).fst==List.drop 1 (List.take (N12 a).length (N12 a)))) else (false)))))
noncomputable def okBadT (a:Pos) (c:Int):Bool:=(bif N12 a==(ByteArray.mk #[]).data.toList then true else (decide ((N12 a).length+1≤1073741824)&&(ok9 a.variant (N12 a++List.map ub [c])&&(bif decide (Int.ofNat (N12 a++List.map ub [c]).length > 200) then true else (decide (0≤1)&&decide (1≤Int.ofNat (N12 a).length)&&(ok9 a.variant (List.drop 1 (List.take (N12 a).length (N12 a)))&&(bif decide (c ≥ 48) then (bif (N9 a.variant (N12 a++List.map ub [c])).snd==5 then (bif (N9 a.variant (List.drop 1 (List.take (N12 a).length (N12 a)))).snd==5 then true else (ok12 (N9 a.variant (List.drop 1 (List.take (N12 a).length (N12 a)))).fst&&(decide (0≤1)&&decide (1≤Int.ofNat (N12 a).length)&&true))) else (bif decide (c≤57) then (bif (N9 a.variant (List.drop 1 (List.take (N12 a).length (N12 a)))).snd==5 then true else (ok12 (N9 a.variant (List.drop 1 (List.take (N12 a).length (N12 a)))).fst&&(decide (0≤1)&&decide (1≤Int.ofNat (N12 a).length)&&true))) else true)) else (bif (N9 a.variant (N12 a++List.map ub [c])).snd==5 then (bif (N9 a.variant (List.drop 1 (List.take (N12 a).length (N12 a)))).snd==5 then true else (ok12 (N9 a.variant (List.drop 1 (List.take (N12 a).length (N12 a)))).fst&&(decide (0≤1)&&decide (1≤Int.ofNat (N12 a).length)&&true))) else true))))))))
theorem N6_as (a:Pos) (b c:Int):N6 a b c=(bif decide (b ≥ 9) then (bif (N9 b (N12 a)).snd != 2 then false else badT a c) else badT a c):=by
  unfold N6 badT
  simp only [Bool.not_true,cond_false]
theorem ok6_as (a:Pos) (b c:Int):ok6 a b c=(ok12 a&&(ok9 b (N12 a)&&(bif decide (b ≥ 9) then (bif (N9 b (N12 a)).snd != 2 then true else okBadT a c) else okBadT a c))):=by
  unfold ok6 okBadT
  simp only [Bool.not_true,cond_false]
theorem parse_t {v:Int} (h0:0≤v) (h1:v≤255) {s:List UInt8} (hs:s.length≤1000000):ok9 v s=true∧(v ≥ 9→(N9 v s).2=2)∧(v < 9→200 < s.length→(N9 v s).2=3)∧(v < 9→s.length≤200→(N9 v s).2=5∨((N9 v s).2=0∧N12 (N9 v s).1=s∧RP v (N9 v s).1)):=by
  obtain ⟨k21,hr⟩:=read_t h0 h1 hs
  unfold ok9 N9
  rw [k21]
  by_cases h9:v ≥ 9
  · rw [decide_eq_true h9]
    exact ⟨rfl,fun _=>rfl,fun h=>by omega,fun h=>by omega⟩
  rw [decide_eq_false h9]
  by_cases hl:Int.ofNat s.length > 200
  · have hl':(s.length:Int) > 200:=hl
    rw [decide_eq_true hl]
    exact ⟨rfl,fun h=>absurd h h9,fun _ _=>rfl,fun _ h=>by omega⟩
  have hl':¬ (s.length:Int) > 200:=hl
  rw [decide_eq_false hl]
  simp only [cond_false,Bool.true_and]
  rcases hr with ⟨e,hq⟩ | e
  · rw [show ((N21 v s).2 != 0)=false by rw [e]; rfl,(print_at hq.1).1]
    simp only [cond_false,Bool.true_and]
    refine ⟨trivial,fun h=>absurd h h9,fun _ h=>by omega,fun _ _ => ?_⟩
    by_cases hs2:N12 (N21 v s).1=s
    · rw [show (!N12 (N21 v s).1==s)=false by rw [hs2,beq_self_eq_true]; rfl]
      exact .inr ⟨rfl,hs2,hq⟩
    · rw [show (!N12 (N21 v s).1==s)=true by rw [Bool.not_eq_true',beq_eq_false_iff_ne]; exact hs2]
      exact .inl rfl
  · rw [show ((N21 v s).2 != 0)=true by rw [e]; rfl]
    exact ⟨rfl,fun h=>absurd h h9,fun _ h=>by omega,fun _ _=>.inl rfl⟩
theorem dec_dig:∀ (k u:Nat),u < 10 ^ (k+1)→∀ b ∈ Lib.decDigits u,isDig b=true:=by
  have ten:∀ w:Fin 10,∀ b ∈ [UInt8.ofNat (48+w.1)],isDig b=true:=by decide
  intro k
  induction k with
  | zero =>
    intro u hu b hb
    have hu':u < 10:=by omega
    rw [Lib.decDigits,dif_pos hu'] at hb
    exact ten ⟨u,hu'⟩ b hb
  | succ k ih =>
    intro u hu b hb
    rw [Lib.decDigits] at hb
    by_cases h10:u < 10
    · rw [dif_pos h10] at hb
      exact ten ⟨u,h10⟩ b hb
    · rw [dif_neg h10] at hb
      rcases List.mem_append.1 hb with hb | hb
      · exact ih (u / 10) (by rw [Nat.pow_succ] at hu; omega) b hb
      · exact ten ⟨u % 10,by omega⟩ b hb
theorem itoa_dig {n:Int} (h0:0≤n) (h1:n≤10000):∀ b ∈ itoaL n,isDig b=true:=by
  have e:itoaL n=Lib.decDigits n.toNat:=by
    rw [itoaL_eq (by omega) (by omega)]
    unfold Lib.itoa
    rw [if_neg (by omega)]
  rw [e]
  exact dec_dig 4 _ (by omega)
theorem last_dig {q:Pos} (hq:PosIn q) {t:List UInt8} {x:UInt8} (h:N12 q=t++[x]):isDig x=true:=by
  obtain ⟨hw,e,_⟩:=print_some hq (by rw [h]; simp)
  obtain ⟨_,_,_,_,_,f0,_,f1,_⟩:=hw
  obtain ⟨_,_,hne⟩:=itoa_no f0 f1
  have e2:fenT q=(headT q++32::(itoaL q.half++[32]))++itoaL q.full:=by
    rw [fenT_head]
    simp only [List.append_assoc,List.cons_append,List.nil_append]
  have e3:=List.dropLast_concat_getLast hne
  rw [e,e2,← e3,← List.append_assoc] at h
  have:=(List.append_inj' h rfl).2
  simp only [List.cons.injEq,and_true] at this
  rw [← this]
  exact itoa_dig f0 f1 _ (List.getLast_mem hne)
theorem print_len {q:Pos} (hq:PosIn q):(N12 q).length≤200:=by
  by_cases h:N12 q=[]
  · rw [h]; decide
  · obtain ⟨_,e,hl⟩:=print_some hq h
    rw [e]
    exact hl
theorem ub_dig {c:Int} (h0:0≤c) (h1:c≤255) (h:isDig (ub c)=true):48≤c∧c≤57:=by
  have t:(List.range 256).all (fun n=>bif isDig (ub (n:Int)) then decide (48≤n)&&decide (n≤57) else true)=true:=by kernel_rfl
  have:=tab_at t h0 (by omega)
  rw [Int.toNat_of_nonneg h0,h,cond_true] at this
  simp only [Bool.and_eq_true,decide_eq_true_eq] at this
  omega
theorem badT_true (hp:PosIn p) {c:Int} (c0:0≤c) (c1:c≤255):okBadT p c=true∧badT p c=true:=by
  have hl:=print_len hp
  unfold okBadT badT
  rw [show (ByteArray.mk #[]).data.toList=([]:List UInt8) from rfl]
  by_cases hs:N12 p=[]
  · rw [hs]
    exact ⟨rfl,rfl⟩
  rw [show (N12 p==[])=false by simpa using hs,List.take_length,show List.map ub [c]=[ub c] from rfl]
  simp only [cond_false]
  obtain ⟨hw,ep,_⟩:=print_some hp hs
  have hv:p.variant < 9:=by have:=hw.1; omega
  have hpos:0 < (N12 p).length:=List.length_pos_iff.2 hs
  obtain ⟨kt,_,t3,t5⟩:=parse_t hp.v0 hp.v1 (s:=N12 p++[ub c]) (by rw [List.length_append,List.length_cons,List.length_nil]; omega)
  obtain ⟨ks,_,_,s5⟩:=parse_t hp.v0 hp.v1 (s:=List.drop 1 (N12 p)) (by rw [List.length_drop]; omega)
  have s5:=s5 hv (by rw [List.length_drop]; omega)
  have t3:=t3 hv
  have t5:=t5 hv
  have digit:∀ q:Pos,PosIn q→N12 q=N12 p++[ub c]→48≤c∧c≤57:=fun q hq h=>ub_dig c0 c1 (last_dig hq h)
  have okL:decide ((N12 p).length+1≤1073741824)=true:=decide_eq_true (by omega)
  have ok1:decide (1≤Int.ofNat (N12 p).length)=true:=decide_eq_true (by show (1:Int)≤((N12 p).length:Int); omega)
  rw [okL,kt,ks,ok1]
  generalize hT:N12 p++[ub c]=T at t3 t5 digit
  generalize List.drop 1 (N12 p)=S at s5
  by_cases h200:Int.ofNat T.length > 200
  · have h200':(T.length:Int) > 200:=h200
    rw [decide_eq_true h200,t3 (by omega)]
    exact ⟨rfl,rfl⟩
  have h200':¬ (T.length:Int) > 200:=h200
  have t5:=t5 (by omega)
  rw [decide_eq_false h200]
  simp only [cond_false,Bool.true_and]
  have fin:∃ e1 e2:Bool,((N9 p.variant S).2==5)=e1∧(N12 (N9 p.variant S).1==S)=e2∧(e1=true∨(e2=true∧ok12 (N9 p.variant S).1=true)):=by
    rcases s5 with e | ⟨_,e,hq⟩
    · exact ⟨true,_,by rw [e]; rfl,rfl,.inl rfl⟩
    · exact ⟨_,true,rfl,by rw [e,beq_self_eq_true],.inr ⟨rfl,(print_at hq.1).1⟩⟩
  obtain ⟨e1,e2,q1,q2,q3⟩:=fin
  rw [q1,q2]
  have key:((N9 p.variant T).2==5)=true∨(((N9 p.variant T).2==5)=false∧48≤c∧c≤57):=by
    rcases t5 with e | ⟨e,e',hq⟩
    · exact .inl (by rw [e]; rfl)
    · exact .inr ⟨by rw [e]; rfl,digit _ hq.1 e'⟩
  rcases key with k | ⟨k,k1,k2⟩
  · rw [k]
    rcases q3 with rfl | ⟨rfl,q3⟩
    · cases decide (c ≥ 48) <;> exact ⟨rfl,rfl⟩
    · rw [q3]
      cases decide (c ≥ 48) <;> cases e1 <;> exact ⟨rfl,rfl⟩
  · rw [k,decide_eq_true (show c ≥ 48 from k1),decide_eq_true k2]
    rcases q3 with rfl | ⟨rfl,q3⟩
    · exact ⟨rfl,rfl⟩
    · rw [q3]
      cases e1 <;> exact ⟨rfl,rfl⟩
theorem N6_true (hp:PosIn p) {b c:Int} (b0:0≤b) (b1:b≤255) (c0:0≤c) (c1:c≤255):ok6 p b c=true∧N6 p b c=true:=by
  have hl:=print_len hp
  obtain ⟨kp,k2,_⟩:=parse_t b0 b1 (s:=N12 p) (by omega)
  obtain ⟨x,y⟩:=badT_true hp c0 c1
  rw [N6_as,ok6_as,(print_at hp).1,kp,x,y]
  by_cases h9:b ≥ 9
  · rw [decide_eq_true h9,k2 h9]
    exact ⟨rfl,rfl⟩
  · rw [decide_eq_false h9]
    exact ⟨rfl,rfl⟩
end Kz
end
