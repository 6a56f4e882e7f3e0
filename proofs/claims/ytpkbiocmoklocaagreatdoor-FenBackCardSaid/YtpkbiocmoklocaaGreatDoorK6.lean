/- Part 6 of the texts under the proof: an abstract interpreter,the summaries of functions,plain laws. -/
import Derived.Test.YtpkbiocmoklocaaGreatDoorK5
set_option linter.unusedSectionVars false
set_option linter.unusedVariables false
set_option linter.unusedSimpArgs false
set_option linter.unnecessarySimpa false
section
namespace Kz
open Go Go.RowKit Go.Proofs
set_option maxRecDepth 100000
set_option maxHeartbeats 4000000
noncomputable def K125:List (Nat×Nat×List (Nat×List Nat)):=[(125,6,[(0,[0]),(1,[2])])]
noncomputable def B125:Base:=baseOf Pz (fun f i=>lkC f i K125) [(103,G103)] [] []
theorem hB125:BOk B125:=base_ok named_z ⟨s103,trivial⟩ trivial trivial
noncomputable def N125 (a:Int):Bool:=((N103 a).snd.snd.snd.fst)
noncomputable def ok125 (a:Int):Bool:=(ok103 a&&true)
theorem P125 (a:Int) (h:ok125 a=true):PS Pz 125 [.int .u8 a] (dB.res (N125 a)):=ps_sum (n:=14) hB125 (by kernel_rfl) (by kernel_rfl) (by kernel_rfl) h
noncomputable def G125:List AV→Tr AV:=g1 (dI .u8) (fun a=>gdv (ok125 a) (dB.res (N125 a)))
theorem s125:Sound Pz 125 G125:=sound1 fun a=>at_gd (P125 a)
noncomputable def K101:List (Nat×Nat×List (Nat×List Nat)):=[(101,60,[(0,[0,3,4]),(1,[0,3,4,5]),(2,[0,4,5,11,12]),(3,[0,4,5,11,12,13]),(4,(0::(rn 4 4 [11,12]))),(5,(0::(rn 4 4 [11,12]))),(6,(0::(rn 4 4 [11,12]))),(7,[0,4,5,6,11,12,40]),(8,[0,4,5,6,8,11,12]),(9,[0,4,5,6,8,11,12,45]),(10,[0,4,5,6,8,11,12]),(11,[0,4,5,11,12]),(12,[0,4,5,11,12]),(13,[4])])]
noncomputable def B101_1:Base:=baseOf Pz (fun f i=>lkC f i K101) [(123,G123),(124,G124),(125,G125)] [] []
theorem hB101_1:BOk B101_1:=base_ok named_z ⟨s123,s124,s125,trivial⟩ trivial trivial
noncomputable def S101_1 (p1:Int) (p2:(List Int)) (p3:(List Int)) (x:(Int×Pos)):St:=St.mk (AV.int .u8 p1::(an 3 (AV.ptr 1 0::AV.ptr 2 0::(an 5 (AV.agg [AV.ints .u8 8 p2]::AV.int .i64 x.fst::(an 47 [])))))) (Hp.mk [[AV.ints .u8 8 p3],[AV.int .u8 0,AV.ints .u8 64 (li (List.replicate 64 0)),AV.u64 0,AV.ints .u8 12 (li [0,0,0,0,0,0,0,0,0,0,0,0]),AV.int .u8 0,AV.ints .i8 4 (li [0,0,0,0]),AV.int .i8 0,AV.ints .u8 2 (li [0,0]),AV.int .i64 0,AV.int .i64 0],(pc x.snd [])] [] [] 0 0 0)
noncomputable def O101_1 (p1:Int) (p2:(List Int)) (p3:(List Int)):(Int×Bool×Pos)→Out:=fun y=>.exit 0 (St.mk (AV.int .u8 p1::(an 3 (AV.ptr 1 0::AV.ptr 2 0::(an 5 (AV.agg [AV.ints .u8 8 p2]::AV.int .i64 y.fst::AV.bool y.snd.fst::(an 46 [])))))) (Hp.mk [[AV.ints .u8 8 p3],[AV.int .u8 0,AV.ints .u8 64 (li (List.replicate 64 0)),AV.u64 0,AV.ints .u8 12 (li [0,0,0,0,0,0,0,0,0,0,0,0]),AV.int .u8 0,AV.ints .i8 4 (li [0,0,0,0]),AV.int .i8 0,AV.ints .u8 2 (li [0,0]),AV.int .i64 0,AV.int .i64 0],(pc y.snd.snd [])] [] [] 0 0 0))
noncomputable def st101_1 (p1:Int) (p2:(List Int)) (p3:(List Int)) (x:(Int×Pos)):Stp (Int×Pos) ((Int×Bool×Pos)):=(bif decide (x.fst < 8) then (bif N125 p1 then (bif p2.getD x.fst.toNat 0==4 then (bif decide (x.snd.rooks.getD 1 0 < 0) then (Stp.go (wr .i64 (x.fst+1),Pos.mk x.snd.variant ((((x.snd.board.set (scale 1 x.fst).toNat (p2.getD x.fst.toNat 0)).set (scale 1 (wr .i64 (8+x.fst))).toNat 1).set (scale 1 (wr .i64 (56+x.fst))).toNat (N124 (p2.getD x.fst.toNat 0))).set (scale 1 (wr .i64 (48+x.fst))).toNat (N124 1)) x.snd.promoted x.snd.pockets x.snd.turn ((x.snd.rooks.set 1 (wr .i8 x.fst)).set 3 (wr .i8 x.fst)) x.snd.passing x.snd.checks x.snd.half x.snd.full)) else (Stp.go (wr .i64 (x.fst+1),Pos.mk x.snd.variant ((((x.snd.board.set (scale 1 x.fst).toNat (p2.getD x.fst.toNat 0)).set (scale 1 (wr .i64 (8+x.fst))).toNat 1).set (scale 1 (wr .i64 (56+x.fst))).toNat (N124 (p2.getD x.fst.toNat 0))).set (scale 1 (wr .i64 (48+x.fst))).toNat (N124 1)) x.snd.promoted x.snd.pockets x.snd.turn ((x.snd.rooks.set 0 (wr .i8 x.fst)).set 2 (wr .i8 x.fst)) x.snd.passing x.snd.checks x.snd.half x.snd.full))) else (Stp.go (wr .i64 (x.fst+1),Pos.mk x.snd.variant ((((x.snd.board.set (scale 1 x.fst).toNat (p2.getD x.fst.toNat 0)).set (scale 1 (wr .i64 (8+x.fst))).toNat 1).set (scale 1 (wr .i64 (56+x.fst))).toNat (N124 (p2.getD x.fst.toNat 0))).set (scale 1 (wr .i64 (48+x.fst))).toNat (N124 1)) x.snd.promoted x.snd.pockets x.snd.turn x.snd.rooks x.snd.passing x.snd.checks x.snd.half x.snd.full))) else (Stp.go (wr .i64 (x.fst+1),Pos.mk x.snd.variant ((((x.snd.board.set (scale 1 x.fst).toNat (p2.getD x.fst.toNat 0)).set (scale 1 (wr .i64 (8+x.fst))).toNat 1).set (scale 1 (wr .i64 (56+x.fst))).toNat (N124 (p2.getD x.fst.toNat 0))).set (scale 1 (wr .i64 (48+x.fst))).toNat (N124 1)) x.snd.promoted x.snd.pockets x.snd.turn x.snd.rooks x.snd.passing x.snd.checks x.snd.half x.snd.full))) else (Stp.out ((x.fst,decide (x.fst < 8),x.snd))))
noncomputable def okL101_1 (p1:Int) (p2:(List Int)) (p3:(List Int)) (x:(Int×Pos)):Bool:=(bif decide (x.fst < 8) then (decide (0≤x.fst)&&decide (x.fst < Int.ofNat 8)&&(decide (0≤x.fst)&&decide (x.fst < Int.ofNat 64)&&(decide (0≤wr .i64 (8+x.fst))&&decide (wr .i64 (8+x.fst) < Int.ofNat 64)&&(ok124 (p2.getD x.fst.toNat 0)&&(ok124 1&&(decide (0≤wr .i64 (56+x.fst))&&decide (wr .i64 (56+x.fst) < Int.ofNat 64)&&(decide (0≤wr .i64 (48+x.fst))&&decide (wr .i64 (48+x.fst) < Int.ofNat 64)&&(ok125 p1&&true)))))))) else true)
noncomputable def lp101_1 (p1:Int) (p2:(List Int)) (p3:(List Int)) (x:(Int×Pos)):Option ((Int×Bool×Pos)):=itl (fun x=>bif okL101_1 p1 p2 p3 x then st101_1 p1 p2 p3 x else .bad) many x
abbrev D101_1 {α:Type} (k:Int→(List Int)→(List Int)→(Int×Pos)→α) (s:St):α:=wP s 2 fun q2=>k (tI (tT s 0)) (tN (tX (tA (tT s 11)) 0)) (tN (tH s 0 0)) ((tI (tT s 12)),q2)
theorem L101_1 (p1:Int) (p2:(List Int)) (p3:(List Int)) (x:(Int×Pos)) (r:(Int×Bool×Pos)) (h:lp101_1 p1 p2 p3 x=some r):LSpec Pz (bodL Pz 101 3) (S101_1 p1 p2 p3 x) (O101_1 p1 p2 p3 r):=LSpec.smd (m:=12) (fn:=101) hB101_1 (D101_1 fun _ _ _ x=>some x) (fun o=>match o with | .exit 0 s=>wP s 2 fun q2=>some ((tI (tT s 12)),(tB (tT s 13)),q2) | _=>none) (fun _=>rfl) (fun _=>by kernel_rfl) (fun _=>by kernel_rfl) (fun _=>by kernel_rfl) (fun _=>by kernel_rfl) many x r h
noncomputable def F101_1 (b:Code) (s:St):Tr Out:=D101_1 (fun p1 p2 p3 x=>lk1 b (bodL Pz 101 3) s (S101_1 p1 p2 p3 x) (lp101_1 p1 p2 p3 x) (O101_1 p1 p2 p3)) s
theorem sF101_1:∀ b,LSound Pz b (F101_1 b):=fun _ _ _ h=>lk1_ok (L101_1 _ _ _ _) h
noncomputable def B101:Base:=baseOf Pz (fun f i=>lkC f i K101) [(123,G123),(124,G124),(125,G125)] [(101,3,F101_1)] []
theorem hB101:BOk B101:=base_ok named_z ⟨s123,s124,s125,trivial⟩ ⟨sF101_1,trivial⟩ trivial
noncomputable def N101 (a:Int) (b:List Int):Pos:=⟨(((lp101_1 a b b (0,N123 a)).getD default).snd.snd.variant),(((lp101_1 a b b (0,N123 a)).getD default).snd.snd.board),(((lp101_1 a b b (0,N123 a)).getD default).snd.snd.promoted),(((lp101_1 a b b (0,N123 a)).getD default).snd.snd.pockets),(((lp101_1 a b b (0,N123 a)).getD default).snd.snd.turn),(((lp101_1 a b b (0,N123 a)).getD default).snd.snd.rooks),(((lp101_1 a b b (0,N123 a)).getD default).snd.snd.passing),(((lp101_1 a b b (0,N123 a)).getD default).snd.snd.checks),(((lp101_1 a b b (0,N123 a)).getD default).snd.snd.half),(((lp101_1 a b b (0,N123 a)).getD default).snd.snd.full)⟩
noncomputable def ok101 (a:Int) (b:List Int):Bool:=(ok123 a&&((lp101_1 a b b (0,N123 a)).isSome&&true))
theorem P101 (a:Int) (b:List Int) (h:ok101 a b=true):PS Pz 101 [.int .u8 a,.agg [.ints .u8 8 b]] (dPos.res (N101 a b)):=ps_sum (n:=14) hB101 (by kernel_rfl) (by kernel_rfl) (by kernel_rfl) h
noncomputable def G101:List AV→Tr AV:=g2 (dI .u8) (dArr .u8 8) (fun a b=>gdv (ok101 a b) (dPos.res (N101 a b)))
theorem s101:Sound Pz 101 G101:=sound2 fun a b=>at_gd (P101 a b)
noncomputable def K102:List (Nat×Nat×List (Nat×List Nat)):=[(102,2,[(0,[0]),(1,[0])])]
noncomputable def B102:Base:=baseOf Pz (fun f i=>lkC f i K102) [] [] []
theorem hB102:BOk B102:=base_ok named_z trivial trivial trivial
noncomputable def N102  : List Int:=(li [4,2,3,5,6,3,2,4])
noncomputable def ok102  : Bool:=true
theorem P102  (h:ok102 =true):PS Pz 102 [] ((dArr .u8 8).res (N102 )):=ps_sum (n:=14) hB102 (by kernel_rfl) (by kernel_rfl) (by kernel_rfl) h
noncomputable def G102:List AV→Tr AV:=g0  (.ret ((dArr .u8 8).res (N102 )))
theorem s102:Sound Pz 102 G102:=sound0 (at_rt (P102 rfl))
noncomputable def K99:List (Nat×Nat×List (Nat×List Nat)):=[(99,28,[(0,[0]),(1,[0,1]),(2,[0,1]),(3,[0,1,10]),(4,[0,1,10,11]),(5,[0,1,2,10]),(6,[0,1,10]),(7,[0,1,10]),(8,[0,1,17,18,19]),(9,(0::1::(rn 17 4 []))),(10,[0,1,4,17,18,19]),(11,[0,1,17,18,19]),(12,[0,1,17,18,19]),(13,[0])])]
noncomputable def B99_1:Base:=baseOf Pz (fun f i=>lkC f i K99) [(101,G101),(102,G102)] [] []
theorem hB99_1:BOk B99_1:=base_ok named_z ⟨s101,s102,trivial⟩ trivial trivial
noncomputable def S99_1  (x:(Int×Pos)):St:=St.mk (AV.ptr 0 0::AV.ptr 1 0::(an 8 (AV.int .i64 x.fst::(an 17 [])))) (Hp.mk [[AV.int .u8 0,AV.ints .u8 64 (li (List.replicate 64 0)),AV.u64 0,AV.ints .u8 12 (li [0,0,0,0,0,0,0,0,0,0,0,0]),AV.int .u8 0,AV.ints .i8 4 (li [0,0,0,0]),AV.int .i8 0,AV.ints .u8 2 (li [0,0]),AV.int .i64 0,AV.int .i64 0],(pc x.snd [])] [] [] 0 0 0)
noncomputable def O99_1  : (Int×Bool×Pos)→Out:=fun y=>.exit 0 (St.mk (AV.ptr 0 0::AV.ptr 1 0::(an 8 (AV.int .i64 y.fst::AV.bool y.snd.fst::(an 16 [])))) (Hp.mk [[AV.int .u8 0,AV.ints .u8 64 (li (List.replicate 64 0)),AV.u64 0,AV.ints .u8 12 (li [0,0,0,0,0,0,0,0,0,0,0,0]),AV.int .u8 0,AV.ints .i8 4 (li [0,0,0,0]),AV.int .i8 0,AV.ints .u8 2 (li [0,0]),AV.int .i64 0,AV.int .i64 0],(pc y.snd.snd [])] [] [] 0 0 0))
noncomputable def st99_1  (x:(Int×Pos)):Stp (Int×Pos) ((Int×Bool×Pos)):=(bif decide (x.fst < 32) then (Stp.go (wr .i64 (x.fst+1),Pos.mk x.snd.variant (x.snd.board.set (scale 1 x.fst).toNat 1) x.snd.promoted x.snd.pockets x.snd.turn x.snd.rooks x.snd.passing x.snd.checks x.snd.half x.snd.full)) else (Stp.out ((x.fst,decide (x.fst < 32),x.snd))))
noncomputable def okL99_1  (x:(Int×Pos)):Bool:=(bif decide (x.fst < 32) then (decide (0≤x.fst)&&decide (x.fst < Int.ofNat 64)&&true) else true)
noncomputable def lp99_1  (x:(Int×Pos)):Option ((Int×Bool×Pos)):=itl (fun x=>bif okL99_1  x then st99_1  x else .bad) many x
abbrev D99_1 {α:Type} (k:(Int×Pos)→α) (s:St):α:=wP s 1 fun q1=>k ((tI (tT s 10)),q1)
theorem L99_1  (x:(Int×Pos)) (r:(Int×Bool×Pos)) (h:lp99_1  x=some r):LSpec Pz (bodL Pz 99 4) (S99_1  x) (O99_1  r):=LSpec.smd (m:=12) (fn:=99) hB99_1 (D99_1 fun x=>some x) (fun o=>match o with | .exit 0 s=>wP s 1 fun q1=>some ((tI (tT s 10)),(tB (tT s 11)),q1) | _=>none) (fun _=>rfl) (fun _=>by kernel_rfl) (fun _=>by kernel_rfl) (fun _=>by kernel_rfl) (fun _=>by kernel_rfl) many x r h
noncomputable def F99_1 (b:Code) (s:St):Tr Out:=D99_1 (fun x=>lk1 b (bodL Pz 99 4) s (S99_1 x) (lp99_1 x) (O99_1 )) s
theorem sF99_1:∀ b,LSound Pz b (F99_1 b):=fun _ _ _ h=>lk1_ok (L99_1 _) h
noncomputable def B99_2:Base:=baseOf Pz (fun f i=>lkC f i K99) [(101,G101),(102,G102)] [(99,4,F99_1)] []
theorem hB99_2:BOk B99_2:=base_ok named_z ⟨s101,s102,trivial⟩ ⟨sF99_1,trivial⟩ trivial
noncomputable def S99_2  (x:(Int×Pos)):St:=St.mk (AV.ptr 0 0::AV.ptr 1 0::(an 15 (AV.vlist true [AV.cint .i64 33,AV.cint .i64 34,AV.cint .i64 37,AV.cint .i64 38]::AV.cint .i64 (Int.ofNat 4)::AV.int .i64 x.fst::(an 8 [])))) (Hp.mk [[AV.int .u8 0,AV.ints .u8 64 (li (List.replicate 64 0)),AV.u64 0,AV.ints .u8 12 (li [0,0,0,0,0,0,0,0,0,0,0,0]),AV.int .u8 0,AV.ints .i8 4 (li [0,0,0,0]),AV.int .i8 0,AV.ints .u8 2 (li [0,0]),AV.int .i64 0,AV.int .i64 0],(pc x.snd [])] [] [] 0 0 0)
noncomputable def O99_2  : (Int×Bool×Pos)→Out:=fun y=>.exit 2 (St.mk (AV.ptr 0 0::AV.ptr 1 0::(an 15 (AV.vlist true [AV.cint .i64 33,AV.cint .i64 34,AV.cint .i64 37,AV.cint .i64 38]::AV.cint .i64 (Int.ofNat 4)::AV.int .i64 y.fst::AV.bool y.snd.fst::(an 7 [])))) (Hp.mk [[AV.int .u8 0,AV.ints .u8 64 (li (List.replicate 64 0)),AV.u64 0,AV.ints .u8 12 (li [0,0,0,0,0,0,0,0,0,0,0,0]),AV.int .u8 0,AV.ints .i8 4 (li [0,0,0,0]),AV.int .i8 0,AV.ints .u8 2 (li [0,0]),AV.int .i64 0,AV.int .i64 0],(pc y.snd.snd [])] [] [] 0 0 0))
noncomputable def st99_2  (x:(Int×Pos)):Stp (Int×Pos) ((Int×Bool×Pos)):=(bif decide (x.fst < Int.ofNat 4) then (bif x.fst==Int.ofNat 0 then (Stp.go (wr .i64 (x.fst+1),Pos.mk x.snd.variant (x.snd.board.set 33 1) x.snd.promoted x.snd.pockets x.snd.turn x.snd.rooks x.snd.passing x.snd.checks x.snd.half x.snd.full)) else (bif x.fst==Int.ofNat 1 then (Stp.go (wr .i64 (x.fst+1),Pos.mk x.snd.variant (x.snd.board.set 34 1) x.snd.promoted x.snd.pockets x.snd.turn x.snd.rooks x.snd.passing x.snd.checks x.snd.half x.snd.full)) else (bif x.fst==Int.ofNat 2 then (Stp.go (wr .i64 (x.fst+1),Pos.mk x.snd.variant (x.snd.board.set 37 1) x.snd.promoted x.snd.pockets x.snd.turn x.snd.rooks x.snd.passing x.snd.checks x.snd.half x.snd.full)) else (Stp.go (wr .i64 (x.fst+1),Pos.mk x.snd.variant (x.snd.board.set 38 1) x.snd.promoted x.snd.pockets x.snd.turn x.snd.rooks x.snd.passing x.snd.checks x.snd.half x.snd.full))))) else (Stp.out ((x.fst,decide (x.fst < Int.ofNat 4),x.snd))))
noncomputable def okL99_2  (x:(Int×Pos)):Bool:=(bif decide (x.fst < Int.ofNat 4) then (decide (0≤x.fst)&&decide (x.fst < Int.ofNat 4)&&(bif x.fst==Int.ofNat 0 then true else (bif x.fst==Int.ofNat 1 then true else (bif x.fst==Int.ofNat 2 then true else (x.fst==Int.ofNat 3&&true))))) else true)
noncomputable def lp99_2  (x:(Int×Pos)):Option ((Int×Bool×Pos)):=itl (fun x=>bif okL99_2  x then st99_2  x else .bad) many x
abbrev D99_2 {α:Type} (k:(Int×Pos)→α) (s:St):α:=wP s 1 fun q1=>k ((tI (tT s 19)),q1)
theorem L99_2  (x:(Int×Pos)) (r:(Int×Bool×Pos)) (h:lp99_2  x=some r):LSpec Pz (bodL Pz 99 9) (S99_2  x) (O99_2  r):=LSpec.smd (m:=12) (fn:=99) hB99_2 (D99_2 fun x=>some x) (fun o=>match o with | .exit 2 s=>wP s 1 fun q1=>some ((tI (tT s 19)),(tB (tT s 20)),q1) | _=>none) (fun _=>rfl) (fun _=>by kernel_rfl) (fun _=>by kernel_rfl) (fun _=>by kernel_rfl) (fun _=>by kernel_rfl) many x r h
noncomputable def F99_2 (b:Code) (s:St):Tr Out:=D99_2 (fun x=>lk1 b (bodL Pz 99 9) s (S99_2 x) (lp99_2 x) (O99_2 )) s
theorem sF99_2:∀ b,LSound Pz b (F99_2 b):=fun _ _ _ h=>lk1_ok (L99_2 _) h
noncomputable def B99:Base:=baseOf Pz (fun f i=>lkC f i K99) [(101,G101),(102,G102)] [(99,4,F99_1),(99,9,F99_2)] []
theorem hB99:BOk B99:=base_ok named_z ⟨s101,s102,trivial⟩ ⟨sF99_1,sF99_2,trivial⟩ trivial
noncomputable def N99  : Pos:=⟨(((lp99_2 (0,Pos.mk ((lp99_1 (0,Pos.mk (N101 7 (li [4,2,3,5,6,3,2,4])).variant (li zbd) (N101 7 (li [4,2,3,5,6,3,2,4])).promoted (li [0,0,0,0,0,0,0,0,0,0,0,0]) (N101 7 (li [4,2,3,5,6,3,2,4])).turn (li [-1,-1,7,0]) (N101 7 (li [4,2,3,5,6,3,2,4])).passing (li [0,0]) (N101 7 (li [4,2,3,5,6,3,2,4])).half (N101 7 (li [4,2,3,5,6,3,2,4])).full)).getD default).snd.snd.variant (li [1,1,1,1,1,1,1,1,1,1,1,1,1,1,1,1,1,1,1,1,1,1,1,1,1,1,1,1,1,1,1,1,0,0,0,0,0,0,0,0,0,0,0,0,0,0,0,0,9,9,9,9,9,9,9,9,12,10,11,13,14,11,10,12]) ((lp99_1 (0,Pos.mk (N101 7 (li [4,2,3,5,6,3,2,4])).variant (li zbd) (N101 7 (li [4,2,3,5,6,3,2,4])).promoted (li [0,0,0,0,0,0,0,0,0,0,0,0]) (N101 7 (li [4,2,3,5,6,3,2,4])).turn (li [-1,-1,7,0]) (N101 7 (li [4,2,3,5,6,3,2,4])).passing (li [0,0]) (N101 7 (li [4,2,3,5,6,3,2,4])).half (N101 7 (li [4,2,3,5,6,3,2,4])).full)).getD default).snd.snd.promoted (li [0,0,0,0,0,0,0,0,0,0,0,0]) ((lp99_1 (0,Pos.mk (N101 7 (li [4,2,3,5,6,3,2,4])).variant (li zbd) (N101 7 (li [4,2,3,5,6,3,2,4])).promoted (li [0,0,0,0,0,0,0,0,0,0,0,0]) (N101 7 (li [4,2,3,5,6,3,2,4])).turn (li [-1,-1,7,0]) (N101 7 (li [4,2,3,5,6,3,2,4])).passing (li [0,0]) (N101 7 (li [4,2,3,5,6,3,2,4])).half (N101 7 (li [4,2,3,5,6,3,2,4])).full)).getD default).snd.snd.turn (li [-1,-1,7,0]) ((lp99_1 (0,Pos.mk (N101 7 (li [4,2,3,5,6,3,2,4])).variant (li zbd) (N101 7 (li [4,2,3,5,6,3,2,4])).promoted (li [0,0,0,0,0,0,0,0,0,0,0,0]) (N101 7 (li [4,2,3,5,6,3,2,4])).turn (li [-1,-1,7,0]) (N101 7 (li [4,2,3,5,6,3,2,4])).passing (li [0,0]) (N101 7 (li [4,2,3,5,6,3,2,4])).half (N101 7 (li [4,2,3,5,6,3,2,4])).full)).getD default).snd.snd.passing (li [0,0]) ((lp99_1 (0,Pos.mk (N101 7 (li [4,2,3,5,6,3,2,4])).variant (li zbd) (N101 7 (li [4,2,3,5,6,3,2,4])).promoted (li [0,0,0,0,0,0,0,0,0,0,0,0]) (N101 7 (li [4,2,3,5,6,3,2,4])).turn (li [-1,-1,7,0]) (N101 7 (li [4,2,3,5,6,3,2,4])).passing (li [0,0]) (N101 7 (li [4,2,3,5,6,3,2,4])).half (N101 7 (li [4,2,3,5,6,3,2,4])).full)).getD default).snd.snd.half ((lp99_1 (0,Pos.mk (N101 7 (li [4,2,3,5,6,3,2,4])).variant (li zbd) (N101 7 (li [4,2,3,5,6,3,2,4])).promoted (li [0,0,0,0,0,0,0,0,0,0,0,0]) (N101 7 (li [4,2,3,5,6,3,2,4])).turn (li [-1,-1,7,0]) (N101 7 (li [4,2,3,5,6,3,2,4])).passing (li [0,0]) (N101 7 (li [4,2,3,5,6,3,2,4])).half (N101 7 (li [4,2,3,5,6,3,2,4])).full)).getD default).snd.snd.full)).getD default).snd.snd.variant),(li [1,1,1,1,1,1,1,1,1,1,1,1,1,1,1,1,1,1,1,1,1,1,1,1,1,1,1,1,1,1,1,1,0,1,1,0,0,1,1,0,0,0,0,0,0,0,0,0,9,9,9,9,9,9,9,9,12,10,11,13,14,11,10,12]),(((lp99_2 (0,Pos.mk ((lp99_1 (0,Pos.mk (N101 7 (li [4,2,3,5,6,3,2,4])).variant (li zbd) (N101 7 (li [4,2,3,5,6,3,2,4])).promoted (li [0,0,0,0,0,0,0,0,0,0,0,0]) (N101 7 (li [4,2,3,5,6,3,2,4])).turn (li [-1,-1,7,0]) (N101 7 (li [4,2,3,5,6,3,2,4])).passing (li [0,0]) (N101 7 (li [4,2,3,5,6,3,2,4])).half (N101 7 (li [4,2,3,5,6,3,2,4])).full)).getD default).snd.snd.variant (li [1,1,1,1,1,1,1,1,1,1,1,1,1,1,1,1,1,1,1,1,1,1,1,1,1,1,1,1,1,1,1,1,0,0,0,0,0,0,0,0,0,0,0,0,0,0,0,0,9,9,9,9,9,9,9,9,12,10,11,13,14,11,10,12]) ((lp99_1 (0,Pos.mk (N101 7 (li [4,2,3,5,6,3,2,4])).variant (li zbd) (N101 7 (li [4,2,3,5,6,3,2,4])).promoted (li [0,0,0,0,0,0,0,0,0,0,0,0]) (N101 7 (li [4,2,3,5,6,3,2,4])).turn (li [-1,-1,7,0]) (N101 7 (li [4,2,3,5,6,3,2,4])).passing (li [0,0]) (N101 7 (li [4,2,3,5,6,3,2,4])).half (N101 7 (li [4,2,3,5,6,3,2,4])).full)).getD default).snd.snd.promoted (li [0,0,0,0,0,0,0,0,0,0,0,0]) ((lp99_1 (0,Pos.mk (N101 7 (li [4,2,3,5,6,3,2,4])).variant (li zbd) (N101 7 (li [4,2,3,5,6,3,2,4])).promoted (li [0,0,0,0,0,0,0,0,0,0,0,0]) (N101 7 (li [4,2,3,5,6,3,2,4])).turn (li [-1,-1,7,0]) (N101 7 (li [4,2,3,5,6,3,2,4])).passing (li [0,0]) (N101 7 (li [4,2,3,5,6,3,2,4])).half (N101 7 (li [4,2,3,5,6,3,2,4])).full)).getD default).snd.snd.turn (li [-1,-1,7,0]) ((lp99_1 (0,Pos.mk (N101 7 (li [4,2,3,5,6,3,2,4])).variant (li zbd) (N101 7 (li [4,2,3,5,6,3,2,4])).promoted (li [0,0,0,0,0,0,0,0,0,0,0,0]) (N101 7 (li [4,2,3,5,6,3,2,4])).turn (li [-1,-1,7,0]) (N101 7 (li [4,2,3,5,6,3,2,4])).passing (li [0,0]) (N101 7 (li [4,2,3,5,6,3,2,4])).half (N101 7 (li [4,2,3,5,6,3,2,4])).full)).getD default).snd.snd.passing (li [0,0]) ((lp99_1 (0,Pos.mk (N101 7 (li [4,2,3,5,6,3,2,4])).variant (li zbd) (N101 7 (li [4,2,3,5,6,3,2,4])).promoted (li [0,0,0,0,0,0,0,0,0,0,0,0]) (N101 7 (li [4,2,3,5,6,3,2,4])).turn (li [-1,-1,7,0]) (N101 7 (li [4,2,3,5,6,3,2,4])).passing (li [0,0]) (N101 7 (li [4,2,3,5,6,3,2,4])).half (N101 7 (li [4,2,3,5,6,3,2,4])).full)).getD default).snd.snd.half ((lp99_1 (0,Pos.mk (N101 7 (li [4,2,3,5,6,3,2,4])).variant (li zbd) (N101 7 (li [4,2,3,5,6,3,2,4])).promoted (li [0,0,0,0,0,0,0,0,0,0,0,0]) (N101 7 (li [4,2,3,5,6,3,2,4])).turn (li [-1,-1,7,0]) (N101 7 (li [4,2,3,5,6,3,2,4])).passing (li [0,0]) (N101 7 (li [4,2,3,5,6,3,2,4])).half (N101 7 (li [4,2,3,5,6,3,2,4])).full)).getD default).snd.snd.full)).getD default).snd.snd.promoted),(li [0,0,0,0,0,0,0,0,0,0,0,0]),(((lp99_2 (0,Pos.mk ((lp99_1 (0,Pos.mk (N101 7 (li [4,2,3,5,6,3,2,4])).variant (li zbd) (N101 7 (li [4,2,3,5,6,3,2,4])).promoted (li [0,0,0,0,0,0,0,0,0,0,0,0]) (N101 7 (li [4,2,3,5,6,3,2,4])).turn (li [-1,-1,7,0]) (N101 7 (li [4,2,3,5,6,3,2,4])).passing (li [0,0]) (N101 7 (li [4,2,3,5,6,3,2,4])).half (N101 7 (li [4,2,3,5,6,3,2,4])).full)).getD default).snd.snd.variant (li [1,1,1,1,1,1,1,1,1,1,1,1,1,1,1,1,1,1,1,1,1,1,1,1,1,1,1,1,1,1,1,1,0,0,0,0,0,0,0,0,0,0,0,0,0,0,0,0,9,9,9,9,9,9,9,9,12,10,11,13,14,11,10,12]) ((lp99_1 (0,Pos.mk (N101 7 (li [4,2,3,5,6,3,2,4])).variant (li zbd) (N101 7 (li [4,2,3,5,6,3,2,4])).promoted (li [0,0,0,0,0,0,0,0,0,0,0,0]) (N101 7 (li [4,2,3,5,6,3,2,4])).turn (li [-1,-1,7,0]) (N101 7 (li [4,2,3,5,6,3,2,4])).passing (li [0,0]) (N101 7 (li [4,2,3,5,6,3,2,4])).half (N101 7 (li [4,2,3,5,6,3,2,4])).full)).getD default).snd.snd.promoted (li [0,0,0,0,0,0,0,0,0,0,0,0]) ((lp99_1 (0,Pos.mk (N101 7 (li [4,2,3,5,6,3,2,4])).variant (li zbd) (N101 7 (li [4,2,3,5,6,3,2,4])).promoted (li [0,0,0,0,0,0,0,0,0,0,0,0]) (N101 7 (li [4,2,3,5,6,3,2,4])).turn (li [-1,-1,7,0]) (N101 7 (li [4,2,3,5,6,3,2,4])).passing (li [0,0]) (N101 7 (li [4,2,3,5,6,3,2,4])).half (N101 7 (li [4,2,3,5,6,3,2,4])).full)).getD default).snd.snd.turn (li [-1,-1,7,0]) ((lp99_1 (0,Pos.mk (N101 7 (li [4,2,3,5,6,3,2,4])).variant (li zbd) (N101 7 (li [4,2,3,5,6,3,2,4])).promoted (li [0,0,0,0,0,0,0,0,0,0,0,0]) (N101 7 (li [4,2,3,5,6,3,2,4])).turn (li [-1,-1,7,0]) (N101 7 (li [4,2,3,5,6,3,2,4])).passing (li [0,0]) (N101 7 (li [4,2,3,5,6,3,2,4])).half (N101 7 (li [4,2,3,5,6,3,2,4])).full)).getD default).snd.snd.passing (li [0,0]) ((lp99_1 (0,Pos.mk (N101 7 (li [4,2,3,5,6,3,2,4])).variant (li zbd) (N101 7 (li [4,2,3,5,6,3,2,4])).promoted (li [0,0,0,0,0,0,0,0,0,0,0,0]) (N101 7 (li [4,2,3,5,6,3,2,4])).turn (li [-1,-1,7,0]) (N101 7 (li [4,2,3,5,6,3,2,4])).passing (li [0,0]) (N101 7 (li [4,2,3,5,6,3,2,4])).half (N101 7 (li [4,2,3,5,6,3,2,4])).full)).getD default).snd.snd.half ((lp99_1 (0,Pos.mk (N101 7 (li [4,2,3,5,6,3,2,4])).variant (li zbd) (N101 7 (li [4,2,3,5,6,3,2,4])).promoted (li [0,0,0,0,0,0,0,0,0,0,0,0]) (N101 7 (li [4,2,3,5,6,3,2,4])).turn (li [-1,-1,7,0]) (N101 7 (li [4,2,3,5,6,3,2,4])).passing (li [0,0]) (N101 7 (li [4,2,3,5,6,3,2,4])).half (N101 7 (li [4,2,3,5,6,3,2,4])).full)).getD default).snd.snd.full)).getD default).snd.snd.turn),(li [-1,-1,7,0]),(((lp99_2 (0,Pos.mk ((lp99_1 (0,Pos.mk (N101 7 (li [4,2,3,5,6,3,2,4])).variant (li zbd) (N101 7 (li [4,2,3,5,6,3,2,4])).promoted (li [0,0,0,0,0,0,0,0,0,0,0,0]) (N101 7 (li [4,2,3,5,6,3,2,4])).turn (li [-1,-1,7,0]) (N101 7 (li [4,2,3,5,6,3,2,4])).passing (li [0,0]) (N101 7 (li [4,2,3,5,6,3,2,4])).half (N101 7 (li [4,2,3,5,6,3,2,4])).full)).getD default).snd.snd.variant (li [1,1,1,1,1,1,1,1,1,1,1,1,1,1,1,1,1,1,1,1,1,1,1,1,1,1,1,1,1,1,1,1,0,0,0,0,0,0,0,0,0,0,0,0,0,0,0,0,9,9,9,9,9,9,9,9,12,10,11,13,14,11,10,12]) ((lp99_1 (0,Pos.mk (N101 7 (li [4,2,3,5,6,3,2,4])).variant (li zbd) (N101 7 (li [4,2,3,5,6,3,2,4])).promoted (li [0,0,0,0,0,0,0,0,0,0,0,0]) (N101 7 (li [4,2,3,5,6,3,2,4])).turn (li [-1,-1,7,0]) (N101 7 (li [4,2,3,5,6,3,2,4])).passing (li [0,0]) (N101 7 (li [4,2,3,5,6,3,2,4])).half (N101 7 (li [4,2,3,5,6,3,2,4])).full)).getD default).snd.snd.promoted (li [0,0,0,0,0,0,0,0,0,0,0,0]) ((lp99_1 (0,Pos.mk (N101 7 (li [4,2,3,5,6,3,2,4])).variant (li zbd) (N101 7 (li [4,2,3,5,6,3,2,4])).promoted (li [0,0,0,0,0,0,0,0,0,0,0,0]) (N101 7 (li [4,2,3,5,6,3,2,4])).turn (li [-1,-1,7,0]) (N101 7 (li [4,2,3,5,6,3,2,4])).passing (li [0,0]) (N101 7 (li [4,2,3,5,6,3,2,4])).half (N101 7 (li [4,2,3,5,6,3,2,4])).full)).getD default).snd.snd.turn (li [-1,-1,7,0]) ((lp99_1 (0,Pos.mk (N101 7 (li [4,2,3,5,6,3,2,4])).variant (li zbd) (N101 7 (li [4,2,3,5,6,3,2,4])).promoted (li [0,0,0,0,0,0,0,0,0,0,0,0]) (N101 7 (li [4,2,3,5,6,3,2,4])).turn (li [-1,-1,7,0]) (N101 7 (li [4,2,3,5,6,3,2,4])).passing (li [0,0]) (N101 7 (li [4,2,3,5,6,3,2,4])).half (N101 7 (li [4,2,3,5,6,3,2,4])).full)).getD default).snd.snd.passing (li [0,0]) ((lp99_1 (0,Pos.mk (N101 7 (li [4,2,3,5,6,3,2,4])).variant (li zbd) (N101 7 (li [4,2,3,5,6,3,2,4])).promoted (li [0,0,0,0,0,0,0,0,0,0,0,0]) (N101 7 (li [4,2,3,5,6,3,2,4])).turn (li [-1,-1,7,0]) (N101 7 (li [4,2,3,5,6,3,2,4])).passing (li [0,0]) (N101 7 (li [4,2,3,5,6,3,2,4])).half (N101 7 (li [4,2,3,5,6,3,2,4])).full)).getD default).snd.snd.half ((lp99_1 (0,Pos.mk (N101 7 (li [4,2,3,5,6,3,2,4])).variant (li zbd) (N101 7 (li [4,2,3,5,6,3,2,4])).promoted (li [0,0,0,0,0,0,0,0,0,0,0,0]) (N101 7 (li [4,2,3,5,6,3,2,4])).turn (li [-1,-1,7,0]) (N101 7 (li [4,2,3,5,6,3,2,4])).passing (li [0,0]) (N101 7 (li [4,2,3,5,6,3,2,4])).half (N101 7 (li [4,2,3,5,6,3,2,4])).full)).getD default).snd.snd.full)).getD default).snd.snd.passing),(li [0,0]),(((lp99_2 (0,Pos.mk ((lp99_1 (0,Pos.mk (N101 7 (li [4,2,3,5,6,3,2,4])).variant (li zbd) (N101 7 (li [4,2,3,5,6,3,2,4])).promoted (li [0,0,0,0,0,0,0,0,0,0,0,0]) (N101 7 (li [4,2,3,5,6,3,2,4])).turn (li [-1,-1,7,0]) (N101 7 (li [4,2,3,5,6,3,2,4])).passing (li [0,0]) (N101 7 (li [4,2,3,5,6,3,2,4])).half (N101 7 (li [4,2,3,5,6,3,2,4])).full)).getD default).snd.snd.variant (li [1,1,1,1,1,1,1,1,1,1,1,1,1,1,1,1,1,1,1,1,1,1,1,1,1,1,1,1,1,1,1,1,0,0,0,0,0,0,0,0,0,0,0,0,0,0,0,0,9,9,9,9,9,9,9,9,12,10,11,13,14,11,10,12]) ((lp99_1 (0,Pos.mk (N101 7 (li [4,2,3,5,6,3,2,4])).variant (li zbd) (N101 7 (li [4,2,3,5,6,3,2,4])).promoted (li [0,0,0,0,0,0,0,0,0,0,0,0]) (N101 7 (li [4,2,3,5,6,3,2,4])).turn (li [-1,-1,7,0]) (N101 7 (li [4,2,3,5,6,3,2,4])).passing (li [0,0]) (N101 7 (li [4,2,3,5,6,3,2,4])).half (N101 7 (li [4,2,3,5,6,3,2,4])).full)).getD default).snd.snd.promoted (li [0,0,0,0,0,0,0,0,0,0,0,0]) ((lp99_1 (0,Pos.mk (N101 7 (li [4,2,3,5,6,3,2,4])).variant (li zbd) (N101 7 (li [4,2,3,5,6,3,2,4])).promoted (li [0,0,0,0,0,0,0,0,0,0,0,0]) (N101 7 (li [4,2,3,5,6,3,2,4])).turn (li [-1,-1,7,0]) (N101 7 (li [4,2,3,5,6,3,2,4])).passing (li [0,0]) (N101 7 (li [4,2,3,5,6,3,2,4])).half (N101 7 (li [4,2,3,5,6,3,2,4])).full)).getD default).snd.snd.turn (li [-1,-1,7,0]) ((lp99_1 (0,Pos.mk (N101 7 (li [4,2,3,5,6,3,2,4])).variant (li zbd) (N101 7 (li [4,2,3,5,6,3,2,4])).promoted (li [0,0,0,0,0,0,0,0,0,0,0,0]) (N101 7 (li [4,2,3,5,6,3,2,4])).turn (li [-1,-1,7,0]) (N101 7 (li [4,2,3,5,6,3,2,4])).passing (li [0,0]) (N101 7 (li [4,2,3,5,6,3,2,4])).half (N101 7 (li [4,2,3,5,6,3,2,4])).full)).getD default).snd.snd.passing (li [0,0]) ((lp99_1 (0,Pos.mk (N101 7 (li [4,2,3,5,6,3,2,4])).variant (li zbd) (N101 7 (li [4,2,3,5,6,3,2,4])).promoted (li [0,0,0,0,0,0,0,0,0,0,0,0]) (N101 7 (li [4,2,3,5,6,3,2,4])).turn (li [-1,-1,7,0]) (N101 7 (li [4,2,3,5,6,3,2,4])).passing (li [0,0]) (N101 7 (li [4,2,3,5,6,3,2,4])).half (N101 7 (li [4,2,3,5,6,3,2,4])).full)).getD default).snd.snd.half ((lp99_1 (0,Pos.mk (N101 7 (li [4,2,3,5,6,3,2,4])).variant (li zbd) (N101 7 (li [4,2,3,5,6,3,2,4])).promoted (li [0,0,0,0,0,0,0,0,0,0,0,0]) (N101 7 (li [4,2,3,5,6,3,2,4])).turn (li [-1,-1,7,0]) (N101 7 (li [4,2,3,5,6,3,2,4])).passing (li [0,0]) (N101 7 (li [4,2,3,5,6,3,2,4])).half (N101 7 (li [4,2,3,5,6,3,2,4])).full)).getD default).snd.snd.full)).getD default).snd.snd.half),(((lp99_2 (0,Pos.mk ((lp99_1 (0,Pos.mk (N101 7 (li [4,2,3,5,6,3,2,4])).variant (li zbd) (N101 7 (li [4,2,3,5,6,3,2,4])).promoted (li [0,0,0,0,0,0,0,0,0,0,0,0]) (N101 7 (li [4,2,3,5,6,3,2,4])).turn (li [-1,-1,7,0]) (N101 7 (li [4,2,3,5,6,3,2,4])).passing (li [0,0]) (N101 7 (li [4,2,3,5,6,3,2,4])).half (N101 7 (li [4,2,3,5,6,3,2,4])).full)).getD default).snd.snd.variant (li [1,1,1,1,1,1,1,1,1,1,1,1,1,1,1,1,1,1,1,1,1,1,1,1,1,1,1,1,1,1,1,1,0,0,0,0,0,0,0,0,0,0,0,0,0,0,0,0,9,9,9,9,9,9,9,9,12,10,11,13,14,11,10,12]) ((lp99_1 (0,Pos.mk (N101 7 (li [4,2,3,5,6,3,2,4])).variant (li zbd) (N101 7 (li [4,2,3,5,6,3,2,4])).promoted (li [0,0,0,0,0,0,0,0,0,0,0,0]) (N101 7 (li [4,2,3,5,6,3,2,4])).turn (li [-1,-1,7,0]) (N101 7 (li [4,2,3,5,6,3,2,4])).passing (li [0,0]) (N101 7 (li [4,2,3,5,6,3,2,4])).half (N101 7 (li [4,2,3,5,6,3,2,4])).full)).getD default).snd.snd.promoted (li [0,0,0,0,0,0,0,0,0,0,0,0]) ((lp99_1 (0,Pos.mk (N101 7 (li [4,2,3,5,6,3,2,4])).variant (li zbd) (N101 7 (li [4,2,3,5,6,3,2,4])).promoted (li [0,0,0,0,0,0,0,0,0,0,0,0]) (N101 7 (li [4,2,3,5,6,3,2,4])).turn (li [-1,-1,7,0]) (N101 7 (li [4,2,3,5,6,3,2,4])).passing (li [0,0]) (N101 7 (li [4,2,3,5,6,3,2,4])).half (N101 7 (li [4,2,3,5,6,3,2,4])).full)).getD default).snd.snd.turn (li [-1,-1,7,0]) ((lp99_1 (0,Pos.mk (N101 7 (li [4,2,3,5,6,3,2,4])).variant (li zbd) (N101 7 (li [4,2,3,5,6,3,2,4])).promoted (li [0,0,0,0,0,0,0,0,0,0,0,0]) (N101 7 (li [4,2,3,5,6,3,2,4])).turn (li [-1,-1,7,0]) (N101 7 (li [4,2,3,5,6,3,2,4])).passing (li [0,0]) (N101 7 (li [4,2,3,5,6,3,2,4])).half (N101 7 (li [4,2,3,5,6,3,2,4])).full)).getD default).snd.snd.passing (li [0,0]) ((lp99_1 (0,Pos.mk (N101 7 (li [4,2,3,5,6,3,2,4])).variant (li zbd) (N101 7 (li [4,2,3,5,6,3,2,4])).promoted (li [0,0,0,0,0,0,0,0,0,0,0,0]) (N101 7 (li [4,2,3,5,6,3,2,4])).turn (li [-1,-1,7,0]) (N101 7 (li [4,2,3,5,6,3,2,4])).passing (li [0,0]) (N101 7 (li [4,2,3,5,6,3,2,4])).half (N101 7 (li [4,2,3,5,6,3,2,4])).full)).getD default).snd.snd.half ((lp99_1 (0,Pos.mk (N101 7 (li [4,2,3,5,6,3,2,4])).variant (li zbd) (N101 7 (li [4,2,3,5,6,3,2,4])).promoted (li [0,0,0,0,0,0,0,0,0,0,0,0]) (N101 7 (li [4,2,3,5,6,3,2,4])).turn (li [-1,-1,7,0]) (N101 7 (li [4,2,3,5,6,3,2,4])).passing (li [0,0]) (N101 7 (li [4,2,3,5,6,3,2,4])).half (N101 7 (li [4,2,3,5,6,3,2,4])).full)).getD default).snd.snd.full)).getD default).snd.snd.full)⟩
noncomputable def ok99  : Bool:=(ok102&&(ok101 7 (li [4,2,3,5,6,3,2,4])&&((lp99_1 (0,Pos.mk (N101 7 (li [4,2,3,5,6,3,2,4])).variant (li zbd) (N101 7 (li [4,2,3,5,6,3,2,4])).promoted (li [0,0,0,0,0,0,0,0,0,0,0,0]) (N101 7 (li [4,2,3,5,6,3,2,4])).turn (li [-1,-1,7,0]) (N101 7 (li [4,2,3,5,6,3,2,4])).passing (li [0,0]) (N101 7 (li [4,2,3,5,6,3,2,4])).half (N101 7 (li [4,2,3,5,6,3,2,4])).full)).isSome&&((lp99_2 (0,Pos.mk ((lp99_1 (0,Pos.mk (N101 7 (li [4,2,3,5,6,3,2,4])).variant (li zbd) (N101 7 (li [4,2,3,5,6,3,2,4])).promoted (li [0,0,0,0,0,0,0,0,0,0,0,0]) (N101 7 (li [4,2,3,5,6,3,2,4])).turn (li [-1,-1,7,0]) (N101 7 (li [4,2,3,5,6,3,2,4])).passing (li [0,0]) (N101 7 (li [4,2,3,5,6,3,2,4])).half (N101 7 (li [4,2,3,5,6,3,2,4])).full)).getD default).snd.snd.variant (li [1,1,1,1,1,1,1,1,1,1,1,1,1,1,1,1,1,1,1,1,1,1,1,1,1,1,1,1,1,1,1,1,0,0,0,0,0,0,0,0,0,0,0,0,0,0,0,0,9,9,9,9,9,9,9,9,12,10,11,13,14,11,10,12]) ((lp99_1 (0,Pos.mk (N101 7 (li [4,2,3,5,6,3,2,4])).variant (li zbd) (N101 7 (li [4,2,3,5,6,3,2,4])).promoted (li [0,0,0,0,0,0,0,0,0,0,0,0]) (N101 7 (li [4,2,3,5,6,3,2,4])).turn (li [-1,-1,7,0]) (N101 7 (li [4,2,3,5,6,3,2,4])).passing (li [0,0]) (N101 7 (li [4,2,3,5,6,3,2,4])).half (N101 7 (li [4,2,3,5,6,3,2,4])).full)).getD default).snd.snd.promoted (li [0,0,0,0,0,0,0,0,0,0,0,0]) ((lp99_1 (0,Pos.mk (N101 7 (li [4,2,3,5,6,3,2,4])).variant (li zbd) (N101 7 (li [4,2,3,5,6,3,2,4])).promoted (li [0,0,0,0,0,0,0,0,0,0,0,0]) (N101 7 (li [4,2,3,5,6,3,2,4])).turn (li [-1,-1,7,0]) (N101 7 (li [4,2,3,5,6,3,2,4])).passing (li [0,0]) (N101 7 (li [4,2,3,5,6,3,2,4])).half (N101 7 (li [4,2,3,5,6,3,2,4])).full)).getD default).snd.snd.turn (li [-1,-1,7,0]) ((lp99_1 (0,Pos.mk (N101 7 (li [4,2,3,5,6,3,2,4])).variant (li zbd) (N101 7 (li [4,2,3,5,6,3,2,4])).promoted (li [0,0,0,0,0,0,0,0,0,0,0,0]) (N101 7 (li [4,2,3,5,6,3,2,4])).turn (li [-1,-1,7,0]) (N101 7 (li [4,2,3,5,6,3,2,4])).passing (li [0,0]) (N101 7 (li [4,2,3,5,6,3,2,4])).half (N101 7 (li [4,2,3,5,6,3,2,4])).full)).getD default).snd.snd.passing (li [0,0]) ((lp99_1 (0,Pos.mk (N101 7 (li [4,2,3,5,6,3,2,4])).variant (li zbd) (N101 7 (li [4,2,3,5,6,3,2,4])).promoted (li [0,0,0,0,0,0,0,0,0,0,0,0]) (N101 7 (li [4,2,3,5,6,3,2,4])).turn (li [-1,-1,7,0]) (N101 7 (li [4,2,3,5,6,3,2,4])).passing (li [0,0]) (N101 7 (li [4,2,3,5,6,3,2,4])).half (N101 7 (li [4,2,3,5,6,3,2,4])).full)).getD default).snd.snd.half ((lp99_1 (0,Pos.mk (N101 7 (li [4,2,3,5,6,3,2,4])).variant (li zbd) (N101 7 (li [4,2,3,5,6,3,2,4])).promoted (li [0,0,0,0,0,0,0,0,0,0,0,0]) (N101 7 (li [4,2,3,5,6,3,2,4])).turn (li [-1,-1,7,0]) (N101 7 (li [4,2,3,5,6,3,2,4])).passing (li [0,0]) (N101 7 (li [4,2,3,5,6,3,2,4])).half (N101 7 (li [4,2,3,5,6,3,2,4])).full)).getD default).snd.snd.full)).isSome&&true))))
theorem P99  (h:ok99 =true):PS Pz 99 [] (dPos.res (N99 )):=ps_sum (n:=14) hB99 (by kernel_rfl) (by kernel_rfl) (by kernel_rfl) h
noncomputable def G99:List AV→Tr AV:=g0  (gdv ok99 (dPos.res (N99)))
theorem s99:Sound Pz 99 G99:=sound0 (at_gd P99)
noncomputable def K100:List (Nat×Nat×List (Nat×List Nat)):=[(100,42,[(0,[0]),(1,[0,1]),(2,[0,1,9,10,11]),(3,(0::1::(rn 9 4 []))),(4,(rn 0 4 [9,10,11])),(5,[0,1,2,9,10,11,16,17,18]),(6,(0::1::2::9::10::11::(rn 16 4 []))),(7,[0,1,2,4,5,9,10,11,16,17,18]),(8,[0,1,2,9,10,11,16,17,18]),(9,[0,1,2,9,10,11,16,17,18]),(10,[0,1,9,10,11]),(11,[0])])]
noncomputable def B100:Base:=baseOf Pz (fun f i=>lkC f i K100) [(123,G123),(124,G124)] [] []
theorem hB100:BOk B100:=base_ok named_z ⟨s123,s124,trivial⟩ trivial trivial
noncomputable def N100  : Pos:=⟨((N123 8).variant),(li [13,12,11,10,2,3,4,5,14,12,11,10,2,3,4,6,0,0,0,0,0,0,0,0,0,0,0,0,0,0,0,0,0,0,0,0,0,0,0,0,0,0,0,0,0,0,0,0,0,0,0,0,0,0,0,0,0,0,0,0,0,0,0,0]),((N123 8).promoted),(li [0,0,0,0,0,0,0,0,0,0,0,0]),((N123 8).turn),(li [-1,-1,-1,-1]),((N123 8).passing),(li [0,0]),((N123 8).half),((N123 8).full)⟩
noncomputable def ok100  : Bool:=(ok123 8&&(ok124 5&&(ok124 4&&(ok124 3&&(ok124 2&&(ok124 6&&(ok124 4&&(ok124 3&&(ok124 2&&true)))))))))
theorem P100  (h:ok100 =true):PS Pz 100 [] (dPos.res (N100 )):=ps_sum (n:=14) hB100 (by kernel_rfl) (by kernel_rfl) (by kernel_rfl) h
noncomputable def G100:List AV→Tr AV:=g0  (gdv ok100 (dPos.res (N100)))
theorem s100:Sound Pz 100 G100:=sound0 (at_gd P100)
noncomputable def K64:List (Nat×Nat×List (Nat×List Nat)):=[(64,19,[(0,[0,2]),(1,[0,2,4]),(2,[2,3]),(3,[0,2,8]),(4,[2,3]),(5,[0,2,12]),(6,[2,3]),(7,[2,3])])]
noncomputable def B64:Base:=baseOf Pz (fun f i=>lkC f i K64) [(99,G99),(100,G100),(101,G101),(102,G102)] [] []
theorem hB64:BOk B64:=base_ok named_z ⟨s99,s100,s101,s102,trivial⟩ trivial trivial
noncomputable def N64 (a:Int):(Pos×Bool):=(bif decide (a ≥ 9) then (⟨(0),(li (List.replicate 64 0)),(0),(li [0,0,0,0,0,0,0,0,0,0,0,0]),(0),(li [0,0,0,0]),(0),(li [0,0]),(0),(0)⟩,(false)) else (bif a==7 then (⟨(N99.variant),(li [1,1,1,1,1,1,1,1,1,1,1,1,1,1,1,1,1,1,1,1,1,1,1,1,1,1,1,1,1,1,1,1,0,1,1,0,0,1,1,0,0,0,0,0,0,0,0,0,9,9,9,9,9,9,9,9,12,10,11,13,14,11,10,12]),(N99.promoted),(li [0,0,0,0,0,0,0,0,0,0,0,0]),(N99.turn),(li [-1,-1,7,0]),(N99.passing),(li [0,0]),(N99.half),(N99.full)⟩,(true)) else (bif a==8 then (⟨(N100.variant),(li [13,12,11,10,2,3,4,5,14,12,11,10,2,3,4,6,0,0,0,0,0,0,0,0,0,0,0,0,0,0,0,0,0,0,0,0,0,0,0,0,0,0,0,0,0,0,0,0,0,0,0,0,0,0,0,0,0,0,0,0,0,0,0,0]),(N100.promoted),(li [0,0,0,0,0,0,0,0,0,0,0,0]),(N100.turn),(li [-1,-1,-1,-1]),(N100.passing),(li [0,0]),(N100.half),(N100.full)⟩,(true)) else (⟨((N101 a (li [4,2,3,5,6,3,2,4])).variant),((N101 a (li [4,2,3,5,6,3,2,4])).board),((N101 a (li [4,2,3,5,6,3,2,4])).promoted),((N101 a (li [4,2,3,5,6,3,2,4])).pockets),((N101 a (li [4,2,3,5,6,3,2,4])).turn),((N101 a (li [4,2,3,5,6,3,2,4])).rooks),((N101 a (li [4,2,3,5,6,3,2,4])).passing),((N101 a (li [4,2,3,5,6,3,2,4])).checks),((N101 a (li [4,2,3,5,6,3,2,4])).half),((N101 a (li [4,2,3,5,6,3,2,4])).full)⟩,(true)))))
noncomputable def ok64 (a:Int):Bool:=(bif decide (a ≥ 9) then true else (bif a==7 then (ok99&&true) else (bif a==8 then (ok100&&true) else (ok101 a (li [4,2,3,5,6,3,2,4])&&true))))
theorem P64 (a:Int) (h:ok64 a=true):PS Pz 64 [.int .u8 a] ((d2 dPos dB).res (N64 a)):=ps_sum (n:=14) hB64 (by kernel_rfl) (by kernel_rfl) (by kernel_rfl) h
noncomputable def G64:List AV→Tr AV:=g1 (dI .u8) (fun a=>gdv (ok64 a) ((d2 dPos dB).res (N64 a)))
theorem s64:Sound Pz 64 G64:=sound1 fun a=>at_gd (P64 a)
noncomputable def K33:List (Nat×Nat×List (Nat×List Nat)):=[(33,14,[(0,[0]),(1,[3,4]),(2,[3,11]),(3,[2]),(4,[2])])]
noncomputable def B33:Base:=baseOf Pz (fun f i=>lkC f i K33) [(12,G12),(64,G64)] [] []
theorem hB33:BOk B33:=base_ok named_z ⟨s12,s64,trivial⟩ trivial trivial
noncomputable def N33 (a:Int):List UInt8:=(bif !(N64 a).snd then ((ByteArray.mk #[]).data.toList) else (N12 (N64 a).fst))
noncomputable def ok33 (a:Int):Bool:=(ok64 a&&(bif !(N64 a).snd then true else (ok12 (N64 a).fst&&true)))
theorem P33 (a:Int) (h:ok33 a=true):PS Pz 33 [.int .u8 a] (dS.res (N33 a)):=ps_sum (n:=14) hB33 (by kernel_rfl) (by kernel_rfl) (by kernel_rfl) h
end Kz
end
section
namespace Kz
open Go Go.RowKit Go.Proofs
set_option maxRecDepth 100000
def posInB (p:Pos):Bool :=
  decide (0≤p.variant)&&decide (p.variant≤255)&&(p.board.length==64)&&p.board.all (fun x=>decide (0≤x∧x≤255))&&(p.pockets.length==12)&&p.pockets.all (fun x=>decide (0≤x∧x≤255)) &&
  decide (0≤p.turn)&&decide (p.turn≤255)&&(p.rooks.length==4)&&p.rooks.all (fun x=>decide (-128≤x∧x≤127))&&decide (-128≤p.passing)&&decide (p.passing≤127)&&(p.checks.length==2)&&p.checks.all (fun x=>decide (0≤x∧x≤255)) &&
  decide (-9223372036854775808≤p.half)&&decide (p.half≤9223372036854775807)&&decide (-9223372036854775808≤p.full)&&decide (p.full≤9223372036854775807)
theorem posIn_of {p:Pos} (h:posInB p=true):PosIn p:=by
  unfold posInB at h
  simp only [Bool.and_eq_true,decide_eq_true_eq,beq_iff_eq,List.all_eq_true] at h
  obtain ⟨⟨⟨⟨⟨⟨⟨⟨⟨⟨⟨⟨⟨⟨⟨⟨⟨a,b⟩,c⟩,d⟩,e⟩,f⟩,g⟩,h⟩,i⟩,j⟩,k⟩,l⟩,m⟩,n⟩,o⟩,q⟩,r⟩,s⟩:=h
  exact ⟨a,b,c,d,e,f,g,h,i,j,k,l,m,n,⟨o,q⟩,⟨r,s⟩⟩
theorem st64:ok64 0=true∧ok64 2=true:=⟨by kernel_rfl,by kernel_rfl⟩
theorem in64:posInB (N64 0).1=true:=by kernel_rfl
theorem wr64:N59 (N64 0).1=true:=by kernel_rfl
theorem tx64 : fenT (N64 0).1 = "rnbqkbnr/pppppppp/8/8/8/8/PPPPPPPP/RNBQKBNR w KQkq - 0 1".toUTF8.data.toList := by kernel_rfl
theorem at_or {f:Nat} {xs:List AV} {b:Bool} {v:AV} {t:Tr AV} (h:b=true→PS Pz f xs v) (h2:At0 Pz f xs t):At0 Pz f xs (.br b (.ret v) t):=by
  intro u hu
  cases b with
  | true=>exact (Option.some.inj hu) ▸ h rfl
  | false=>exact h2 u hu
theorem at_no {f:Nat} {xs:List AV}:At0 Pz f xs .fail:=fun _ hu=>by cases hu
theorem q86_8:PS Pz 86 [.str [56]] (.tuple [.int .u8 0,.bool false]):=P86 [56] (by kernel_rfl)
theorem q86_4:PS Pz 86 [.str [52]] (.tuple [.int .u8 0,.bool false]):=P86 [52] (by kernel_rfl)
theorem inv2 {g:Gh} {tk:List Nat} {w:World} {a b:AV} {x:Value} (h:Rep g tk w (.tuple [a,b]) x):∃ y z,x=.tuple #[y,z]∧Rep g tk w a y∧Rep g tk w b z:=by
  generalize e:AV.tuple [a,b]=v at h
  cases h with
  | tuple q =>
    rename_i l vs
    cases e
    obtain ⟨vs⟩:=vs
    cases q with
    | cons q1 q2 =>
      cases q2 with
      | cons q2 q3 =>
        cases q3
        exact ⟨_,_,rfl,q1,q2⟩
  | _=>cases e
theorem to_c {f:Nat} {xs:List AV} (h:PS Pz f xs (.tuple [.int .u8 0,.bool false])):PS Pz f xs (.tuple [.cint .u8 0,.cbool false]) :=
  ⟨fun w vals hg hr=>(h.1 w vals hg hr).mono fun e w' ⟨x,e1,e2,e3⟩=>⟨x,e1,e2,by
    obtain ⟨y,z,rfl,q1,q2⟩:=inv2 e3
    cases q1
    cases q2
    exact .tuple (.cons (.cint _ _) (.cons (.cbool _) .nil))⟩,h.2⟩
noncomputable def T86:List AV→Tr AV:=g1 dS fun s=>.br (s==[56]) (.ret (.tuple [.cint .u8 0,.cbool false])) (.br (s==[52]) (.ret (.tuple [.cint .u8 0,.cbool false])) .fail)
theorem sT86:Sound Pz 86 T86:=sound1 fun s=>at_or (fun e=>by rw [beq_iff_eq] at e; subst e; exact to_c q86_8) (at_or (fun e=>by rw [beq_iff_eq] at e; subst e; exact to_c q86_4) at_no)
def li64 (k:Nat) (n:Int):List Int:=List.replicate k n
def pE (t h f:Int):Pos:=⟨0,li64 64 0,0#64,li64 12 0,t,li64 4 (-1),-1,li64 2 0,h,f⟩
def posE (p q:Pos):Bool:=p.variant==q.variant&&(p.board==q.board&&(p.promoted==q.promoted&&(p.pockets==q.pockets&&(p.turn==q.turn&&(p.rooks==q.rooks&&(p.passing==q.passing&&(p.checks==q.checks&&(p.half==q.half&&p.full==q.full))))))))
theorem posE_eq {p q:Pos} (h:posE p q=true):p=q:=by
  unfold posE at h
  simp only [Bool.and_eq_true,beq_iff_eq] at h
  obtain ⟨a,b,c,d,e,f,g,i,j,k⟩:=h
  cases p; cases q
  simp only at a b c d e f g i j k
  subst a; subst b; subst c; subst d; subst e; subst f; subst g; subst i; subst j; subst k
  rfl
def tE1 : List UInt8 := "8/8/8/8/8/8/8/8 w - - 0 1".toUTF8.data.toList
def tE2 : List UInt8 := "8/8/8/8/8/8/8/8 b - - 7 9".toUTF8.data.toList
theorem print_run {p:Pos} {t:List UInt8} (hi:posInB p=true) (hw:N59 p=true) (ht:fenT p=t) (hl:fin200 t=t):ok12 p=true∧N12 p=t:=by
  obtain ⟨a,b,_⟩:=print_at (posIn_of hi)
  refine ⟨a,?_⟩
  rw [b ((N13_iff (posIn_of hi)).1.1 hw),ht,hl]
theorem q12_1:PS Pz 12 [Pos.av (pE 0 0 1)] (.str tE1):=by
  obtain ⟨a,b⟩:=print_run (p:=pE 0 0 1) (t:=tE1) (by kernel_rfl) (by kernel_rfl) (by kernel_rfl) (by kernel_rfl)
  have:=P12 _ a
  rw [b] at this
  exact this
theorem q12_2:PS Pz 12 [Pos.av (pE 1 7 9)] (.str tE2):=by
  obtain ⟨a,b⟩:=print_run (p:=pE 1 7 9) (t:=tE2) (by kernel_rfl) (by kernel_rfl) (by kernel_rfl) (by kernel_rfl)
  have:=P12 _ a
  rw [b] at this
  exact this
noncomputable def T12:List AV→Tr AV:=g1 dPos fun p=>.br (posE p (pE 0 0 1)) (.ret (.str tE1)) (.br (posE p (pE 1 7 9)) (.ret (.str tE2)) .fail)
theorem sT12:Sound Pz 12 T12:=sound1 fun p=>at_or (fun e=>by rw [posE_eq e]; exact q12_1) (at_or (fun e=>by rw [posE_eq e]; exact q12_2) at_no)
noncomputable def Bq9:Base:=baseOf Pz (fun _ _=>[]) [(120,G120),(87,G87),(86,T86),(66,G66),(12,T12)] [] []
theorem hBq9:BOk Bq9:=base_ok named_z ⟨s120,s87,sT86,s66,sT12,trivial⟩ trivial trivial
def a1 : List UInt8 := "8/8 w - - 0 1".toUTF8.data.toList
def a2 : List UInt8 := "8/8/8/8/8/8/8/44 w - - 0 1".toUTF8.data.toList
def a3 : List UInt8 := "8/8/8/8/8/8/8/8 w K - 0 1".toUTF8.data.toList
def a4 : List UInt8 := "8/8/8/8/8/8/8/8 w - - 00 1".toUTF8.data.toList
def pZ:Pos:=⟨0,li64 64 0,0#64,li64 12 0,0,li64 4 0,0,li64 2 0,0,0⟩
def chkR (x:Pos×Int) (t:Tr AV):Bool:=match t.get with
  | some v=>match (d2 dPos (dI .i64)).dec v with
    | some y=>posE y.1 x.1&&y.2==x.2
    | none=>false
  | none=>false
theorem run_pos {n f:Nat} {xs:List AV} {x:Pos×Int} (h:chkR x (evPure Bq9 n f xs)=true):PS Pz f xs ((d2 dPos (dI .i64)).res x):=by
  unfold chkR at h
  split at h
  · rename_i v hv
    split at h
    · rename_i y hy
      simp only [Bool.and_eq_true,beq_iff_eq] at h
      have:y=x:=Prod.ext (posE_eq h.1) h.2
      subst this
      exact ps_of hBq9 hv (d2 dPos (dI .i64)) hy
    · cases h
  · cases h
theorem q9_1:PS Pz 9 [.int .u8 0,.str a1] ((d2 dPos (dI .i64)).res (pZ,5)):=run_pos (n:=60) (by kernel_rfl)
theorem q9_2:PS Pz 9 [.int .u8 0,.str a2] ((d2 dPos (dI .i64)).res (pZ,5)):=run_pos (n:=60) (by kernel_rfl)
theorem q9_3:PS Pz 9 [.int .u8 0,.str a3] ((d2 dPos (dI .i64)).res (pZ,5)):=run_pos (n:=60) (by kernel_rfl)
theorem q9_4:PS Pz 9 [.int .u8 0,.str a4] ((d2 dPos (dI .i64)).res (pZ,5)):=run_pos (n:=60) (by kernel_rfl)
theorem q9_5:PS Pz 9 [.int .u8 0,.str tE2] ((d2 dPos (dI .i64)).res (pE 1 7 9,0)):=run_pos (n:=60) (by kernel_rfl)
theorem first_run {v:Int} {t:List UInt8} (h64:ok64 v=true) (h2:(N64 v).2=true) (hi:posInB (N64 v).1=true) (hw:N59 (N64 v).1=true) (ht:fenT (N64 v).1=t) (hl:fin200 t=t):PS Pz 33 [.int .u8 v] (.str t):=by
  obtain ⟨a,b⟩:=print_run hi hw ht hl
  have:=P33 v (by unfold ok33; rw [h64,h2,a]; rfl)
  have e:N33 v=t:=by unfold N33; rw [h2,b]; rfl
  rw [e] at this
  exact this
def f0 : List UInt8 := "rnbqkbnr/pppppppp/8/8/8/8/PPPPPPPP/RNBQKBNR w KQkq - 0 1".toUTF8.data.toList
def f2 : List UInt8 := "rnbqkbnr/pppppppp/8/8/8/8/PPPPPPPP/RNBQKBNR[] w KQkq - 0 1".toUTF8.data.toList
def f5 : List UInt8 := "rnbqkbnr/pppppppp/8/8/8/8/PPPPPPPP/RNBQKBNR w KQkq - +0+0 0 1".toUTF8.data.toList
def f8 : List UInt8 := "8/8/8/8/8/8/krbnNBRK/qrbnNBRQ w - - 0 1".toUTF8.data.toList
theorem q33_0:PS Pz 33 [.int .u8 0] (.str f0):=first_run (by kernel_rfl) (by kernel_rfl) (by kernel_rfl) (by kernel_rfl) (by kernel_rfl) (by kernel_rfl)
theorem q33_2:PS Pz 33 [.int .u8 2] (.str f2):=first_run (by kernel_rfl) (by kernel_rfl) (by kernel_rfl) (by kernel_rfl) (by kernel_rfl) (by kernel_rfl)
theorem q33_5:PS Pz 33 [.int .u8 5] (.str f5):=first_run (by kernel_rfl) (by kernel_rfl) (by kernel_rfl) (by kernel_rfl) (by kernel_rfl) (by kernel_rfl)
theorem q33_8:PS Pz 33 [.int .u8 8] (.str f8):=first_run (by kernel_rfl) (by kernel_rfl) (by kernel_rfl) (by kernel_rfl) (by kernel_rfl) (by kernel_rfl)
noncomputable def T33:List AV→Tr AV:=g1 (dI .u8) fun v=>.br (v==0) (.ret (.str f0)) (.br (v==2) (.ret (.str f2)) (.br (v==5) (.ret (.str f5)) (.br (v==8) (.ret (.str f8)) .fail)))
theorem sT33:Sound Pz 33 T33:=sound1 fun v=>at_or (fun e=>by rw [beq_iff_eq] at e; subst e; exact q33_0) (at_or (fun e=>by rw [beq_iff_eq] at e; subst e; exact q33_2) (at_or (fun e=>by rw [beq_iff_eq] at e; subst e; exact q33_5) (at_or (fun e=>by rw [beq_iff_eq] at e; subst e; exact q33_8) at_no)))
def is9 (v:Int) (s t:List UInt8):Bool:=v==0&&s==t
theorem is9_eq {v:Int} {s t:List UInt8} (h:is9 v s t=true):v=0∧s=t:=by
  unfold is9 at h
  simp only [Bool.and_eq_true,beq_iff_eq] at h
  exact h
noncomputable def T9:List AV→Tr AV:=g2 (dI .u8) dS fun v s=>.br (is9 v s a1) (.ret ((d2 dPos (dI .i64)).res (pZ,5))) (.br (is9 v s a2) (.ret ((d2 dPos (dI .i64)).res (pZ,5))) (.br (is9 v s a3) (.ret ((d2 dPos (dI .i64)).res (pZ,5))) (.br (is9 v s a4) (.ret ((d2 dPos (dI .i64)).res (pZ,5))) (.br (is9 v s tE2) (.ret ((d2 dPos (dI .i64)).res (pE 1 7 9,0))) .fail))))
theorem sT9:Sound Pz 9 T9:=sound2 fun v s=>at_or (fun e=>by obtain ⟨rfl,rfl⟩:=is9_eq e; exact q9_1) (at_or (fun e=>by obtain ⟨rfl,rfl⟩:=is9_eq e; exact q9_2) (at_or (fun e=>by obtain ⟨rfl,rfl⟩:=is9_eq e; exact q9_3) (at_or (fun e=>by obtain ⟨rfl,rfl⟩:=is9_eq e; exact q9_4) (at_or (fun e=>by obtain ⟨rfl,rfl⟩:=is9_eq e; exact q9_5) at_no))))
noncomputable def Bq11:Base:=baseOf Pz (fun _ _=>[]) [(33,T33),(9,T9)] [] []
theorem hBq11:BOk Bq11:=base_ok named_z ⟨sT33,sT9,trivial⟩ trivial trivial
def chkB (t:Tr AV):Bool:=match t.get with
  | some v=>match dB.dec v with
    | some b=>b
    | none=>false
  | none=>false
theorem P11:PS Pz 11 [] (.bool true):=by
  have h:chkB (evPure Bq11 60 11 [])=true:=by kernel_rfl
  unfold chkB at h
  split at h
  · rename_i v hv
    split at h
    · rename_i b hb
      subst h
      exact ps_of hBq11 hv dB hb
    · cases h
  · cases h
noncomputable def G11:List AV→Tr AV:=g0 (.ret (.bool true))
theorem s11:Sound Pz 11 G11:=sound0 fun _ h=>(Option.some.inj h) ▸ P11
end Kz
end
section

end
section
namespace Kz
open Go Go.RowKit Go.Proofs
set_option maxRecDepth 100000
set_option maxHeartbeats 4000000
noncomputable def K6:List (Nat×Nat×List (Nat×List Nat)):=[(6,81,[(0,[1,2,3]),(1,[1,2,3,17]),(2,[6]),(3,[1,2,3,7]),(4,[1,2,3,7,9]),(5,[2,3,7,31]),(6,[6]),(7,[2,3,7,33]),(8,[6]),(9,[2,3,7,10]),(10,[2,3,7,10,12]),(11,[2,3,7,12,48]),(12,[6]),(13,[2,7,12,13,14]),(14,[7,12,13,14,15]),(15,[6])])]
noncomputable def B6:Base:=baseOf Pz (fun f i=>lkC f i K6) [(9,G9),(11,G11),(12,G12)] [] []
theorem hB6:BOk B6:=base_ok named_z ⟨s9,s11,s12,trivial⟩ trivial trivial
noncomputable def N6 (a:Pos) (b:Int) (c:Int):Bool:=(bif !true then (false) else (bif decide (b ≥ 9) then (bif (N9 b (N12 a)).snd != 2 then (false) else (bif N12 a==(ByteArray.mk #[]).data.toList then (true) else (bif decide (Int.ofNat (N12 a++List.map ub [c]).length > 200) then ((N9 a.variant (N12 a++List.map ub [c])).snd==3) else (bif decide (c ≥ 48) then (bif (N9 a.variant (N12 a++List.map ub [c])).snd==5 then (bif (N9 a.variant (List.drop 1 (List.take (N12 a).length (N12 a)))).snd==5 then (true) else (N12 (N9 a.variant (List.drop 1 (List.take (N12 a).length (N12 a)))).fst==List.drop 1 (List.take (N12 a).length (N12 a)))) else (bif decide (c≤57) then (bif (N9 a.variant (List.drop 1 (List.take (N12 a).length (N12 a)))).snd==5 then (true) else (N12 (N9 a.variant (List.drop 1 (List.take (N12 a).length (N12 a)))).fst==List.drop 1 (List.take (N12 a).length (N12 a)))) else (false))) else (bif (N9 a.variant (N12 a++List.map ub [c])).snd==5 then (bif (N9 a.variant (List.drop 1 (List.take (N12 a).length (N12 a)))).snd==5 then (true) else (N12 (N9 a.variant (List.drop 1 (List.take (N12 a).length (N12 a)))).fst==List.drop 1 (List.take (N12 a).length (N12 a)))) else (false)))))) else (bif N12 a==(ByteArray.mk #[]).data.toList then (true) else (bif decide (Int.ofNat (N12 a++List.map ub [c]).length > 200) then ((N9 a.variant (N12 a++List.map ub [c])).snd==3) else (bif decide (c ≥ 48) then (bif (N9 a.variant (N12 a++List.map ub [c])).snd==5 then (bif (N9 a.variant (List.drop 1 (List.take (N12 a).length (N12 a)))).snd==5 then (true) else (N12 (N9 a.variant (List.drop 1 (List.take (N12 a).length (N12 a)))).fst==List.drop 1 (List.take (N12 a).length (N12 a)))) else (bif decide (c≤57) then (bif (N9 a.variant (List.drop 1 (List.take (N12 a).length (N12 a)))).snd==5 then (true) else (N12 (N9 a.variant (List.drop 1 (List.take (N12 a).length (N12 a)))).fst==List.drop 1 (List.take (N12 a).length (N12 a)))) else (false))) else (bif (N9 a.variant (N12 a++List.map ub [c])).snd==5 then (bif (N9 a.variant (List.drop 1 (List.take (N12 a).length (N12 a)))).snd==5 then (true) else (N12 (N9 a.variant (List.drop 1 (List.take (N12 a).length (N12 a)))).fst==List.drop 1 (List.take (N12 a).length (N12 a)))) else (false)))))))
noncomputable def ok6 (a:Pos) (b:Int) (c:Int):Bool:=(bif !true then true else (ok12 a&&(ok9 b (N12 a)&&(bif decide (b ≥ 9) then (bif (N9 b (N12 a)).snd != 2 then true else (bif N12 a==(ByteArray.mk #[]).data.toList then true else (decide ((N12 a).length+1≤1073741824)&&(ok9 a.variant (N12 a++List.map ub [c])&&(bif decide (Int.ofNat (N12 a++List.map ub [c]).length > 200) then true else (decide (0≤1)&&decide (1≤Int.ofNat (N12 a).length)&&(ok9 a.variant (List.drop 1 (List.take (N12 a).length (N12 a)))&&(bif decide (c ≥ 48) then (bif (N9 a.variant (N12 a++List.map ub [c])).snd==5 then (bif (N9 a.variant (List.drop 1 (List.take (N12 a).length (N12 a)))).snd==5 then true else (ok12 (N9 a.variant (List.drop 1 (List.take (N12 a).length (N12 a)))).fst&&(decide (0≤1)&&decide (1≤Int.ofNat (N12 a).length)&&true))) else (bif decide (c≤57) then (bif (N9 a.variant (List.drop 1 (List.take (N12 a).length (N12 a)))).snd==5 then true else (ok12 (N9 a.variant (List.drop 1 (List.take (N12 a).length (N12 a)))).fst&&(decide (0≤1)&&decide (1≤Int.ofNat (N12 a).length)&&true))) else true)) else (bif (N9 a.variant (N12 a++List.map ub [c])).snd==5 then (bif (N9 a.variant (List.drop 1 (List.take (N12 a).length (N12 a)))).snd==5 then true else (ok12 (N9 a.variant (List.drop 1 (List.take (N12 a).length (N12 a)))).fst&&(decide (0≤1)&&decide (1≤Int.ofNat (N12 a).length)&&true))) else true))))))))) else (bif N12 a==(ByteArray.mk #[]).data.toList then true else (decide ((N12 a).length+1≤1073741824)&&(ok9 a.variant (N12 a++List.map ub [c])&&(bif decide (Int.ofNat (N12 a++List.map ub [c]).length > 200) then true else (decide (0≤1)&&decide (1≤Int.ofNat (N12 a).length)&&(ok9 a.variant (List.drop 1 (List.take (N12 a).length (N12 a)))&&(bif decide (c ≥ 48) then (bif (N9 a.variant (N12 a++List.map ub [c])).snd==5 then (bif (N9 a.variant (List.drop 1 (List.take (N12 a).length (N12 a)))).snd==5 then true else (ok12 (N9 a.variant (List.drop 1 (List.take (N12 a).length (N12 a)))).fst&&(decide (0≤1)&&decide (1≤Int.ofNat (N12 a).length)&&true))) else (bif decide (c≤57) then (bif (N9 a.variant (List.drop 1 (List.take (N12 a).length (N12 a)))).snd==5 then true else (ok12 (N9 a.variant (List.drop 1 (List.take (N12 a).length (N12 a)))).fst&&(decide (0≤1)&&decide (1≤Int.ofNat (N12 a).length)&&true))) else true)) else (bif (N9 a.variant (N12 a++List.map ub [c])).snd==5 then (bif (N9 a.variant (List.drop 1 (List.take (N12 a).length (N12 a)))).snd==5 then true else (ok12 (N9 a.variant (List.drop 1 (List.take (N12 a).length (N12 a)))).fst&&(decide (0≤1)&&decide (1≤Int.ofNat (N12 a).length)&&true))) else true))))))))))))
theorem P6 (a:Pos) (b:Int) (c:Int) (h:ok6 a b c=true):PS Pz 6 [Pos.av a,.int .u8 b,.int .u8 c] (dB.res (N6 a b c)):=ps_sum (n:=14) hB6 (by kernel_rfl) (by kernel_rfl) (by kernel_rfl) h
noncomputable def G6:List AV→Tr AV:=g3 dPos (dI .u8) (dI .u8) (fun a b c=>gdv (ok6 a b c) (dB.res (N6 a b c)))
theorem s6:Sound Pz 6 G6:=sound3 fun a b c=>at_gd (P6 a b c)
noncomputable def st13_1 (p1:(List UInt8)) (x:(Int×Int)):Stp (Int×Int) ((Int×Int×Bool)):=(bif decide (x.fst > 0) then (bif decide (x.snd > 0) then (bif Int.ofNat (p1[(wr .i64 (x.snd - 1)).toNat]?.getD 0).toNat==32 then (Stp.go (wr .i64 (x.fst - 1),wr .i64 (x.snd - 1))) else (Stp.go (x.fst,wr .i64 (x.snd - 1)))) else (Stp.out ((x.fst,x.snd,decide (x.snd > 0))))) else (Stp.out ((x.fst,x.snd,false))))
noncomputable def okL13_1 (p1:(List UInt8)) (x:(Int×Int)):Bool:=(bif decide (x.fst > 0) then (bif decide (x.snd > 0) then (decide (0≤wr .i64 (x.snd - 1))&&decide (wr .i64 (x.snd - 1) < Int.ofNat p1.length)&&true) else true) else true)
noncomputable def lp13_1 (p1:(List UInt8)) (x:(Int×Int)):Option ((Int×Int×Bool)):=itl (fun x=>bif okL13_1 p1 x then st13_1 p1 x else .bad) many x
noncomputable def N13 (a:List UInt8) (b:Int):List UInt8:=(bif ((lp13_1 a (b,Int.ofNat a.length)).getD default).snd.fst==0 then ((ByteArray.mk #[]).data.toList) else (List.drop 0 (List.take (wr .i64 (((lp13_1 a (b,Int.ofNat a.length)).getD default).snd.fst+1)).toNat a)))
noncomputable def ok13 (a:List UInt8) (b:Int):Bool:=((lp13_1 a (b,Int.ofNat a.length)).isSome&&(bif ((lp13_1 a (b,Int.ofNat a.length)).getD default).snd.fst==0 then true else (decide (0≤wr .i64 (((lp13_1 a (b,Int.ofNat a.length)).getD default).snd.fst+1))&&decide (wr .i64 (((lp13_1 a (b,Int.ofNat a.length)).getD default).snd.fst+1)≤Int.ofNat a.length)&&true)))
noncomputable def st14_1  (x:(Int×(List UInt8))):Stp (Int×(List UInt8)) ((Int×(List UInt8)×Bool)):=(bif x.snd==(ByteArray.mk #[]).data.toList then (Stp.go (wr .i64 (x.fst.tdiv 10),List.map ub [wr .u8 (wr .i64 (48+x.fst.tmod 10))]++x.snd)) else (bif decide (x.fst > 0) then (Stp.go (wr .i64 (x.fst.tdiv 10),List.map ub [wr .u8 (wr .i64 (48+x.fst.tmod 10))]++x.snd)) else (Stp.out ((x.fst,x.snd,decide (x.fst > 0))))))
noncomputable def okL14_1  (x:(Int×(List UInt8))):Bool:=(bif x.snd==(ByteArray.mk #[]).data.toList then (decide (1+x.snd.length≤1073741824)&&true) else (bif decide (x.fst > 0) then (decide (1+x.snd.length≤1073741824)&&true) else true))
noncomputable def lp14_1  (x:(Int×(List UInt8))):Option ((Int×(List UInt8)×Bool)):=itl (fun x=>bif okL14_1  x then st14_1  x else .bad) many x
noncomputable def N14 (a:Int):List UInt8:=(((lp14_1 (a,(ByteArray.mk #[]).data.toList)).getD default).snd.fst)
noncomputable def ok14 (a:Int):Bool:=((lp14_1 (a,(ByteArray.mk #[]).data.toList)).isSome&&true)
end Kz
end
section
namespace Kz
open Go Go.RowKit Go.Proofs
set_option maxRecDepth 100000
theorem digits_eq {n:Int} (h0:0≤n) (h1:n≤100000):N14 n=itoaL n∧ok14 n=true:=by
  have h:=N18_eq h0 h1
  exact h
theorem lp13_at (a:List UInt8) (p0 p1:Nat) (h0:a[p0]?=some 32) (h1:a[p1]?=some 32) (h01:p0 < p1) (hm:∀ j,p0 < j→j < p1→a[j]?≠some 32) (he:∀ j,p1 < j→a[j]?≠some 32) (hl:a.length≤1000000) :
    ∃ r,lp13_1 a (2,Int.ofNat a.length)=some r∧r.2.1=(p0:Int):=by
  have l0:p0 < a.length:=(List.getElem?_eq_some_iff.1 h0).1
  have l1:p1 < a.length:=(List.getElem?_eq_some_iff.1 h1).1
  refine lp_many (I:=fun x:Int×Int=>x.2≤(a.length:Int)∧((x.1=2∧(p1:Int) < x.2)∨(x.1=1∧(p0:Int) < x.2∧x.2≤(p1:Int))∨(x.1=0∧x.2=(p0:Int)))) (μ:=fun x=>x.2.toNat) ?_ _ ⟨Int.le_refl _,.inl ⟨rfl,by show (p1:Int) < (a.length:Int); omega⟩⟩ (by show a.length < _; omega)
  rintro ⟨n,e⟩ ⟨g0,g1⟩
  simp only at g0 g1
  have key:∀ (j:Nat),e - 1=j→(Int.ofNat (a[(e - 1).toNat]?.getD 0).toNat==32)=(a[j]?==some 32):=by
    intro j hj
    rw [hj,Int.toNat_natCast]
    have hjl:j < a.length:=by omega
    rw [List.getElem?_eq_getElem hjl,Option.getD_some]
    rw [Bool.eq_iff_iff,beq_iff_eq,beq_iff_eq,Option.some.injEq]
    constructor
    · intro h
      apply UInt8.toNat_inj.1
      have:((a[j].toNat:Nat):Int)=32:=h
      show a[j].toNat=32
      omega
    · intro h
      rw [h]; rfl
  unfold okL13_1 st13_1
  dsimp only
  by_cases hn:0 < n
  · have he1:0 < e:=by omega
    have w1:wr .i64 (e - 1)=e - 1:=wi64 (by omega) (by omega)
    have w2:wr .i64 (n - 1)=n - 1:=wi64 (by omega) (by omega)
    rw [w1,w2]
    refine ⟨c_true (fun _=>c_true (fun _=>a_true (a_true (decide_eq_true (by omega)) fun _=>decide_eq_true (by show e - 1 < (a.length:Int); omega)) fun _=>rfl) fun _=>rfl) fun _=>rfl,?_⟩
    refine c_ind (fun _=>c_ind (fun _ => ?_) fun h=>absurd h (by simpa using he1)) fun h=>absurd h (by simpa using hn)
    obtain ⟨j,hj⟩:=Int.eq_ofNat_of_zero_le (show 0≤e - 1 by omega)
    rw [key j hj]
    rcases g1 with ⟨rfl,g1⟩ | ⟨rfl,g1,g2⟩ | ⟨rfl,_⟩
    · by_cases hp:j=p1
      · subst hp
        rw [h1]
        exact ⟨⟨by dsimp only; omega,.inr (.inl ⟨rfl,by dsimp only; omega,by dsimp only; omega⟩)⟩,by dsimp only; omega⟩
      · have:(a[j]?==some 32)=false:=by simpa using he j (by omega)
        rw [this]
        exact ⟨⟨by dsimp only; omega,.inl ⟨rfl,by dsimp only; omega⟩⟩,by dsimp only; omega⟩
    · by_cases hp:j=p0
      · subst hp
        rw [h0]
        exact ⟨⟨by dsimp only; omega,.inr (.inr ⟨rfl,by dsimp only; omega⟩)⟩,by dsimp only; omega⟩
      · have:(a[j]?==some 32)=false:=by simpa using hm j (by omega) (by omega)
        rw [this]
        exact ⟨⟨by dsimp only; omega,.inr (.inl ⟨rfl,by dsimp only; omega,by dsimp only; omega⟩)⟩,by dsimp only; omega⟩
    · omega
  · have hz:n=0∧e=p0:=by omega
    refine ⟨c_true (fun h=>absurd h (by simpa using hn)) fun _=>rfl,c_ind (fun h=>absurd h (by simpa using hn)) fun _ => ?_⟩
    exact hz.2
theorem ahead_eq (A h f:List UInt8) (hA:A≠[]) (hh:(32:UInt8) ∉ h) (hf:(32:UInt8) ∉ f) (hl:(A++32::(h++32::f)).length≤1000000) :
    N13 (A++32::(h++32::f)) 2=A++[32]∧ok13 (A++32::(h++32::f)) 2=true:=by
  have hpos:0 < A.length:=List.length_pos_iff.2 hA
  have at0:(A++32::(h++32::f))[A.length]?=some 32:=by
    rw [List.getElem?_append_right (Nat.le_refl _),Nat.sub_self]; rfl
  have hafter:∀ j,A.length < j→(A++32::(h++32::f))[j]?=(h++32::f)[j - A.length - 1]? := by
    intro j hj
    rw [List.getElem?_append_right (by omega),show j - A.length=(j - A.length - 1)+1 by omega,List.getElem?_cons_succ]
    simp
  have at1:(A++32::(h++32::f))[A.length+1+h.length]?=some 32:=by
    rw [hafter _ (by omega),show A.length+1+h.length - A.length - 1=h.length by omega,List.getElem?_append_right (Nat.le_refl _),Nat.sub_self]; rfl
  obtain ⟨hs,hr⟩:=of_some (lp13_at _ A.length (A.length+1+h.length) at0 at1 (by omega) (fun j j0 j1 hj=>by
    rw [hafter _ j0,List.getElem?_append_left (by omega)] at hj
    exact hh (List.mem_of_getElem? hj)) (fun j j1 hj=>by
    rw [hafter _ (by omega),List.getElem?_append_right (by omega),show j - A.length - 1 - h.length=(j - A.length - 1 - h.length - 1)+1 by omega,List.getElem?_cons_succ] at hj
    exact hf (List.mem_of_getElem? hj)) hl)
  have len:A.length+1≤(A++32::(h++32::f)).length:=by simp
  unfold N13 ok13
  rw [hs,hr]
  have hz:((A.length:Int)==0)=false:=by
    rw [beq_eq_false_iff_ne]; omega
  have hw:wr .i64 ((A.length:Int)+1)=(A.length:Int)+1:=wi64 (by omega) (by omega)
  rw [hz,hw,cond_false,cond_false]
  refine ⟨?_,a_true rfl fun _=>a_true (a_true (decide_eq_true (by omega)) fun _=>decide_eq_true (by show (A.length:Int)+1≤((A++32::(h++32::f)).length:Int); omega)) fun _=>rfl⟩
  rw [show ((A.length:Int)+1).toNat=A.length+1 by omega,List.drop_zero,List.take_append,List.take_of_length_le (by omega),show A.length+1 - A.length=1 by omega]
  rfl
def withClocks (p:Pos) (h f:Int):Pos:={ p with half:=h,full:=f }
noncomputable def headT (p:Pos):List UInt8:=brdT p++32::(turnT p++32::(N37 (rkA p)++32::(passT p++(bif p.variant==5 then 32::43::(itoaL (p.checks.getD 0 0)++43::itoaL (p.checks.getD 1 0)) else []))))
theorem fenT_head (p:Pos):fenT p=headT p++32::(itoaL p.half++32::itoaL p.full):=by
  unfold fenT headT checkT
  cases (p.variant==5) <;> simp only [cond_true,cond_false,List.append_assoc,List.cons_append,List.nil_append,List.append_nil]
theorem headT_clocks (p:Pos) (h f:Int):headT (withClocks p h f)=headT p:=rfl
theorem headT_ne (p:Pos):headT p≠[]:=by
  unfold headT
  simp
theorem wr_clocks (p:Pos) (h f:Int) (hw:Wr13 p):Wr13 (withClocks p h f) ↔ 0≤h∧0≤f∧h≤10000∧f≤10000:=by
  obtain ⟨a,b,c,d,_,_,_,_,e⟩:=hw
  constructor
  · rintro ⟨_,_,_,_,i,j,k,l,_⟩
    exact ⟨i,j,k,l⟩
  · rintro ⟨i,j,k,l⟩
    exact ⟨a,b,c,d,i,j,k,l,e⟩
theorem in_clocks {p:Pos} (hp:PosIn p) {h f:Int} (h1 : -9223372036854775808≤h∧h≤9223372036854775807) (f1 : -9223372036854775808≤f∧f≤9223372036854775807):PosIn (withClocks p h f) :=
  { hp with h0:=h1,f0:=f1 }
theorem dec_no:∀ (k u:Nat),u < 10 ^ (k+1)→(32:UInt8) ∉ Lib.decDigits u:=by
  intro k
  induction k with
  | zero =>
    intro u hu hm
    rw [Lib.decDigits] at hm
    rw [dif_pos (show u < 10 by omega)] at hm
    have hu':u < 10:=by omega
    have:∀ v:Fin 10,(32:UInt8) ∉ [UInt8.ofNat (48+v.1)]:=by decide
    exact this ⟨u,hu'⟩ hm
  | succ k ih =>
    intro u hu hm
    rw [Lib.decDigits] at hm
    by_cases h10:u < 10
    · rw [dif_pos h10] at hm
      have:∀ v:Fin 10,(32:UInt8) ∉ [UInt8.ofNat (48+v.1)]:=by decide
      exact this ⟨u,h10⟩ hm
    · rw [dif_neg h10] at hm
      rcases List.mem_append.1 hm with hm | hm
      · exact ih (u / 10) (by rw [Nat.pow_succ] at hu; omega) hm
      · have:∀ v:Fin 10,(32:UInt8) ∉ [UInt8.ofNat (48+v.1)]:=by decide
        exact this ⟨u % 10,Nat.mod_lt _ (by omega)⟩ hm
theorem itoa_no {n:Int} (h0:0≤n) (h1:n≤10000):(32:UInt8) ∉ itoaL n∧(itoaL n).length≤5∧itoaL n≠[]:=by
  have e:itoaL n=Lib.decDigits n.toNat:=by
    rw [itoaL_eq (by omega) (by omega)]
    unfold Lib.itoa
    rw [if_neg (by omega)]
  rw [e]
  refine ⟨dec_no 4 _ (by omega),dec_len 4 _ (by omega),?_⟩
  rw [Lib.decDigits]
  split
  · simp
  · simp
theorem print_some {p:Pos} (hp:PosIn p) (h:N12 p≠[]):Wr13 p∧N12 p=fenT p∧(fenT p).length≤200:=by
  obtain ⟨_,a,b⟩:=print_at hp
  by_cases hw:Wr13 p
  · have e:=a hw
    rw [e] at h ⊢
    unfold fin200 at h ⊢
    by_cases hl:Int.ofNat (fenT p).length > 200
    · rw [decide_eq_true hl,cond_true] at h
      exact absurd rfl h
    · rw [decide_eq_false hl,cond_false]
      have:¬ ((fenT p).length:Int) > 200:=hl
      exact ⟨hw,rfl,by omega⟩
  · exact absurd (b hw) h
theorem fin_le {l:List UInt8} (h:l.length≤200):fin200 l=l:=by
  unfold fin200
  have:¬ Int.ofNat l.length > 200:=by
    show ¬ (l.length:Int) > 200
    omega
  rw [decide_eq_false this,cond_false]
theorem clocks_bad {p:Pos} (hp:PosIn p) {h f:Int} (h1 : -9223372036854775808≤h∧h≤9223372036854775807) (f1 : -9223372036854775808≤f∧f≤9223372036854775807) (hs:N12 p≠[]) (hb:¬ (0≤h∧0≤f∧h≤10000∧f≤10000)):N12 (withClocks p h f)=[]:=by
  obtain ⟨hw,_,_⟩:=print_some hp hs
  exact (print_at (in_clocks hp h1 f1)).2.2 fun hq=>hb ((wr_clocks p h f hw).1 hq)
theorem clocks_good {p:Pos} (hp:PosIn p) {h f:Int} (h0:0≤h) (f0:0≤f) (h1:h≤10000) (f1:f≤10000) (hs:N12 p≠[]) (hl:(N12 p).length+8≤200) :
    ok13 (N12 p) 2=true∧ok13 (N12 (withClocks p h f)) 2=true∧N13 (N12 p) 2=headT p++[32]∧N13 (N12 (withClocks p h f)) 2=headT p++[32]∧N12 (withClocks p h f)=headT p++[32]++N14 h++[32]++N14 f∧ok14 h=true∧ok14 f=true∧(N12 (withClocks p h f)).length≤200:=by
  obtain ⟨hw,e,hlen⟩:=print_some hp hs
  have hq:=in_clocks hp (h:=h) (f:=f) (by omega) (by omega)
  obtain ⟨_,_,_,_,ph0,pf0,ph1,pf1,_⟩:=hw
  obtain ⟨a1,a2,a3⟩:=itoa_no ph0 ph1
  obtain ⟨b1,b2,b3⟩:=itoa_no pf0 pf1
  obtain ⟨c1,c2,_⟩:=itoa_no h0 h1
  obtain ⟨d1,d2,_⟩:=itoa_no f0 f1
  have eh:=fenT_head p
  have et:fenT (withClocks p h f)=headT p++32::(itoaL h++32::itoaL f):=fenT_head (withClocks p h f)
  have la:0 < (itoaL p.half).length:=List.length_pos_iff.2 a3
  have lb:0 < (itoaL p.full).length:=List.length_pos_iff.2 b3
  rw [e] at hl ⊢
  have el:=congrArg List.length eh
  simp only [List.length_append,List.length_cons] at el
  have tl:=congrArg List.length et
  simp only [List.length_append,List.length_cons] at tl
  have t200:(fenT (withClocks p h f)).length≤200:=by omega
  have hprint:N12 (withClocks p h f)=fenT (withClocks p h f):=by
    rw [(print_at hq).2.1 ((wr_clocks p h f (print_some hp hs).1).2 ⟨h0,f0,h1,f1⟩),fin_le t200]
  rw [hprint]
  obtain ⟨g1,k1⟩:=digits_eq h0 (by omega)
  obtain ⟨g2,k2⟩:=digits_eq f0 (by omega)
  have w1:=ahead_eq (headT p) (itoaL p.half) (itoaL p.full) (headT_ne p) a1 b1 (by rw [← eh]; omega)
  have w2:=ahead_eq (headT p) (itoaL h) (itoaL f) (headT_ne p) c1 d1 (by rw [← et]; omega)
  rw [← eh] at w1
  rw [← et] at w2
  refine ⟨w1.2,w2.2,w1.1,w2.1,?_,k1,k2,t200⟩
  rw [et,g1,g2]
  simp only [List.append_assoc,List.cons_append,List.nil_append]
end Kz
end
section
namespace Kz
open Go Go.RowKit Go.Proofs
set_option maxRecDepth 100000
set_option maxHeartbeats 4000000
noncomputable def K17:List (Nat×Nat×List (Nat×List Nat)):=[(17,17,[(0,[0]),(1,[0,3]),(2,[0,3,7]),(3,[0,3]),(4,[0,3,13]),(5,[2]),(6,[2])])]
noncomputable def B17_1:Base:=baseOf Pz (fun f i=>lkC f i K17) [] [] []
theorem hB17_1:BOk B17_1:=base_ok named_z trivial trivial trivial
noncomputable def S17_1 (p1:(List UInt8)) (x:(Int)):St:=St.mk (AV.str p1::AV.any::AV.any::AV.int .i64 x::(an 13 [])) (Hp.mk [] [] [] 0 0 0)
noncomputable def O17_1 (p1:(List UInt8)):(Int) ⊕ (Int×Bool)→Out
  | (.inl (y))=>.ret (St.mk (AV.any::AV.any::AV.int .i64 y::(an 14 [])) (Hp.mk [] [] [] 0 0 0))
  | (.inr (y))=>.exit 0 (St.mk (AV.str p1::AV.any::AV.any::AV.int .i64 y.fst::(an 3 (AV.bool y.snd::(an 9 [])))) (Hp.mk [] [] [] 0 0 0))
noncomputable def st17_1 (p1:(List UInt8)) (x:(Int)):Stp (Int) ((Int) ⊕ (Int×Bool)):=(bif decide (x < Int.ofNat p1.length) then (bif Int.ofNat (p1[x.toNat]?.getD 0).toNat==32 then (Stp.out (.inl ((x)))) else (Stp.go (wr .i64 (x+1)))) else (Stp.out (.inr ((x,decide (x < Int.ofNat p1.length))))))
noncomputable def okL17_1 (p1:(List UInt8)) (x:(Int)):Bool:=(bif decide (x < Int.ofNat p1.length) then (decide (0≤x)&&decide (x < Int.ofNat p1.length)&&true) else true)
noncomputable def lp17_1 (p1:(List UInt8)) (x:(Int)):Option ((Int) ⊕ (Int×Bool)):=itl (fun x=>bif okL17_1 p1 x then st17_1 p1 x else .bad) many x
abbrev D17_1 {α:Type} (k:(List UInt8)→(Int)→α) (s:St):α:=k (tS (tT s 0)) ((tI (tT s 3)))
theorem L17_1 (p1:(List UInt8)) (x:(Int)) (r:(Int) ⊕ (Int×Bool)) (h:lp17_1 p1 x=some r):LSpec Pz (bodL Pz 17 2) (S17_1 p1 x) (O17_1 p1 r):=LSpec.smd (m:=12) (fn:=17) hB17_1 (D17_1 fun _ x=>some x) (fun o=>match o with | .ret s=>some (.inl (tI (tT s 2))) | .exit 0 s=>some (.inr ((tI (tT s 3)),(tB (tT s 7)))) | _=>none) (fun r=>by cases r <;> rfl) (fun _=>by kernel_rfl) (fun _=>by kernel_rfl) (fun _=>by kernel_rfl) (fun _=>by kernel_rfl) many x r h
noncomputable def F17_1 (b:Code) (s:St):Tr Out:=D17_1 (fun p1 x=>lk2 b (bodL Pz 17 2) s (S17_1 p1 x) (lp17_1 p1 x) (O17_1 p1)) s
theorem sF17_1:∀ b,LSound Pz b (F17_1 b):=fun _ _ _ h=>lk2_ok (L17_1 _ _) h
noncomputable def B17:Base:=baseOf Pz (fun f i=>lkC f i K17) [] [(17,2,F17_1)] []
theorem hB17:BOk B17:=base_ok named_z trivial ⟨sF17_1,trivial⟩ trivial
noncomputable def N17 (a:List UInt8):Int:=(bif isL ((lp17_1 a 0).getD default) then (gl ((lp17_1 a 0).getD default)) else (Int.ofNat a.length))
noncomputable def ok17 (a:List UInt8):Bool:=((lp17_1 a 0).isSome&&bif isL ((lp17_1 a 0).getD default) then true else true)
theorem P17 (a:List UInt8) (h:ok17 a=true):PS Pz 17 [.str a] ((dI .i64).res (N17 a)):=ps_sum (n:=14) hB17 (by kernel_rfl) (by kernel_rfl) (by kernel_rfl) h
noncomputable def G17:List AV→Tr AV:=g1 dS (fun a=>gdv (ok17 a) ((dI .i64).res (N17 a)))
theorem s17:Sound Pz 17 G17:=sound1 fun a=>at_gd (P17 a)
end Kz
end
section
namespace Kz
open Go Go.RowKit Go.Proofs
set_option maxRecDepth 100000
def isLet (b:UInt8):Bool:=(decide (65≤b.toNat)&&decide (b.toNat≤90)) || (decide (97≤b.toNat)&&decide (b.toNat≤122))
def isDig (b:UInt8):Bool:=decide (48≤b.toNat)&&decide (b.toNat≤57)
def isRow (b:UInt8):Bool:=isLet b || (isDig b || b==126)
theorem dig_let {b:UInt8} (h:isDig b=true):isLet b=false:=by
  unfold isDig at h
  unfold isLet
  simp only [Bool.and_eq_true,decide_eq_true_eq] at h
  simp only [Bool.or_eq_false_iff,Bool.and_eq_false_iff,decide_eq_false_iff_not]
  omega
theorem row_no {b:UInt8} (h:isRow b=true):b≠32∧b≠47:=by
  refine ⟨?_,?_⟩ <;> rintro rfl <;> exact absurd h (by decide)
theorem tabL:(List.range 256).all (fun n=>bif N96 (n:Int) then ((N97 (n:Int)).length==1&&(N97 (n:Int)).all isLet) else true)=true:=by kernel_rfl
theorem let_of {x:Int} (h0:0≤x) (h1:x≤255) (h:N96 x=true):(N97 x).length=1∧∀ b ∈ N97 x,isLet b=true:=by
  have t:=tab_at tabL h0 (by omega)
  rw [Int.toNat_of_nonneg h0,h,cond_true] at t
  simp only [Bool.and_eq_true,beq_iff_eq,List.all_eq_true] at t
  exact t
theorem tabD:(List.range 9).all (fun n=>bif n==0 then true else ((itoaL (n:Int)).length==1&&(itoaL (n:Int)).all isDig))=true:=by kernel_rfl
theorem fl_of {e:Int} (h0:0≤e) (h8:e≤8):(fl e).length≤1∧(0 < e→(fl e).length=1)∧∀ b ∈ fl e,isDig b=true:=by
  unfold fl
  by_cases h:0 < e
  · have t:=tab_at tabD h0 (by omega)
    have hz:(e.toNat==0)=false:=by
      rw [beq_eq_false_iff_ne]; omega
    rw [Int.toNat_of_nonneg h0,hz,cond_false] at t
    simp only [Bool.and_eq_true,beq_iff_eq,List.all_eq_true] at t
    rw [decide_eq_true (show e > 0 from h),cond_true]
    exact ⟨by omega,fun _=>t.1,t.2⟩
  · rw [decide_eq_false (show ¬ e > 0 from h),cond_false]
    exact ⟨by simp,fun h'=>absurd h' h,fun b hb=>by cases hb⟩
def cntL (l:List UInt8):Nat:=l.countP isLet
theorem cntL_app (a b:List UInt8):cntL (a++b)=cntL a+cntL b:=List.countP_append
theorem cntL_no {l:List UInt8} (h:∀ b ∈ l,isLet b=false):cntL l=0:=List.countP_eq_zero.2 fun b hb=>by rw [h b hb]; decide
theorem cntL_all {l:List UInt8} (h:∀ b ∈ l,isLet b=true):cntL l=l.length:=List.countP_eq_length.2 h
theorem cnt_fl {e:Int} (h0:0≤e) (h8:e≤8):cntL (fl e)=0:=cntL_no fun b hb=>dig_let ((fl_of h0 h8).2.2 b hb)
def MenOk (p:Pos):Prop := ∀ s:Int,0≤s→s < 64→atS p s≠0→N96 (atS p s)=true
theorem piece_of {p:Pos} (hp:PosIn p) {s:Int} (h:N96 (atS p s)=true):cntL (pieceT p s)=1∧∀ b ∈ pieceT p s,isRow b=true:=by
  obtain ⟨a0,a1⟩:=at_in hp s
  obtain ⟨l1,l2⟩:=let_of a0 a1 h
  unfold pieceT
  rw [cntL_app,cntL_all l2,l1]
  refine ⟨?_,?_⟩
  · have:cntL (bif bitAt p.promoted s.toNat then [126] else [])=0:=by
      cases bitAt p.promoted s.toNat <;> rfl
    omega
  · intro b hb
    rcases List.mem_append.1 hb with hb | hb
    · unfold isRow; rw [l2 b hb]; rfl
    · revert hb
      cases bitAt p.promoted s.toNat with
      | true =>
        rw [cond_true,List.mem_singleton]
        rintro rfl
        rfl
      | false=>intro hb; cases hb
theorem row_of {p:Pos} (hp:PosIn p) (hm:MenOk p) {r:Int} (r0:0≤r) (r7:r≤7):∀ (k:Nat) (e:Int),k≤8→0≤e→e+k≤8→∀ b ∈ rowS p r k e,isRow b=true
  | 0,e,_,e0,e8=>fun b hb=>by
    rw [rowS] at hb
    unfold isRow
    rw [(fl_of e0 (by omega)).2.2 b hb]
    simp
  | k+1,e,k8,e0,e8=>fun b hb=>by
    rw [rowS] at hb
    by_cases h:atS p (8 * r+(7 - k))=0
    · rw [show (atS p (8 * r+(7 - (k:Int)))==0)=true by simpa using h,cond_true] at hb
      exact row_of hp hm r0 r7 k (e+1) (by omega) (by omega) (by omega) b hb
    · rw [show (atS p (8 * r+(7 - (k:Int)))==0)=false by simpa using h,cond_false] at hb
      rcases List.mem_append.1 hb with hb | hb
      · unfold isRow
        rw [(fl_of e0 (by omega)).2.2 b hb]
        simp
      · rcases List.mem_append.1 hb with hb | hb
        · exact (piece_of hp (hm _ (by omega) (by omega) h)).2 b hb
        · exact row_of hp hm r0 r7 k 0 (by omega) (by omega) (by omega) b hb
theorem row_cnt {p:Pos} {r:Int}:∀ (k:Nat) (e d:Int),0≤e→e+k≤8→0≤d→d+k≤8→cntL (rowS p r k e)=cntL (rowS p r k d)
  | 0,e,d,e0,e8,d0,d8=>by
    rw [rowS,rowS,cnt_fl e0 (by omega),cnt_fl d0 (by omega)]
  | k+1,e,d,e0,e8,d0,d8=>by
    rw [rowS,rowS]
    cases (atS p (8 * r+(7 - (k:Int)))==0) with
    | true=>exact row_cnt k (e+1) (d+1) (by omega) (by omega) (by omega) (by omega)
    | false=>simp only [cond_false,cntL_app,cnt_fl e0 (show e≤8 by omega),cnt_fl d0 (show d≤8 by omega)]
theorem row_mono {p:Pos} {r:Int}:∀ (k:Nat) (e d:Int),0≤e→e≤d→d+k≤8→(rowS p r k e).length≤(rowS p r k d).length:=by
  have fm:∀ e d:Int,0≤e→e≤d→d≤8→(fl e).length≤(fl d).length:=by
    intro e d e0 ed d8
    by_cases h:0 < d
    · rw [(fl_of (by omega) d8).2.1 h]
      exact (fl_of e0 (by omega)).1
    · obtain rfl:e=d:=by omega
      exact Nat.le_refl _
  intro k
  induction k with
  | zero =>
    intro e d e0 ed d8
    rw [rowS,rowS]
    exact fm e d e0 ed (by omega)
  | succ k ih =>
    intro e d e0 ed d8
    rw [rowS,rowS]
    cases (atS p (8 * r+(7 - (k:Int)))==0) with
    | true=>exact ih (e+1) (d+1) (by omega) (by omega) (by omega)
    | false =>
      simp only [cond_false,List.length_append]
      have:=fm e d e0 ed (by omega)
      omega
theorem lp17_at (a:List UInt8) (k:Nat) (h:a[k]?=some 32) (hm:∀ j,j < k→a[j]?≠some 32) (hl:a.length≤1000000):∃ r,lp17_1 a 0=some r∧r=.inl (k:Int):=by
  have lk:k < a.length:=(List.getElem?_eq_some_iff.1 h).1
  refine lp_many (I:=fun x:Int=>0≤x∧x≤(k:Int)) (μ:=fun x=>((k:Int) - x).toNat) ?_ _ ⟨Int.le_refl _,by omega⟩ (by first | omega | (dsimp only; omega))
  rintro e ⟨g0,g1⟩
  obtain ⟨j,rfl⟩:=Int.eq_ofNat_of_zero_le g0
  have hj:j < a.length:=by omega
  unfold okL17_1 st17_1
  rw [decide_eq_true (show (j:Int) < Int.ofNat a.length by show (j:Int) < (a.length:Int); omega),decide_eq_true g0]
  refine ⟨rfl,?_⟩
  rw [cond_true,Int.toNat_natCast,List.getElem?_eq_getElem hj,Option.getD_some]
  by_cases hjk:j=k
  · subst hjk
    have:a[j]=32:=by
      rw [List.getElem?_eq_getElem hj] at h
      exact Option.some.inj h
    rw [this]
    exact rfl
  · have:(Int.ofNat a[j].toNat==32)=false:=by
      rw [beq_eq_false_iff_ne]
      intro hc
      apply hm j (by omega)
      rw [List.getElem?_eq_getElem hj]
      congr 1
      apply UInt8.toNat_inj.1
      have:((a[j].toNat:Nat):Int)=32:=hc
      show a[j].toNat=32
      omega
    rw [this,cond_false,wi64 (by omega) (by omega)]
    exact ⟨⟨by omega,by omega⟩,by first | omega | (dsimp only; omega)⟩
theorem space_at {h t:List UInt8} (hn:∀ b ∈ h,b≠32) (hl:(h++32::t).length≤1000000):N17 (h++32::t)=h.length∧ok17 (h++32::t)=true:=by
  obtain ⟨r,e1,e2⟩:=lp17_at (h++32::t) h.length (by rw [List.getElem?_append_right (Nat.le_refl _),Nat.sub_self]; rfl) (fun j hj e=>by
    rw [List.getElem?_append_left hj] at e
    exact hn 32 (List.mem_of_getElem? e) rfl) hl
  subst e2
  unfold N17 ok17
  rw [e1]
  exact ⟨rfl,rfl⟩
variable {p:Pos} {v:Int}
noncomputable def badT (a:Pos) (c:Int):Bool:=(bif N12 a==(ByteArray.mk #[]).data.toList then (true) else (bif decide (Int.ofNat (N12 a++List.map ub [c]).length > 200) then ((N9 a.variant (N12 a++List.map ub [c])).snd==3) else (bif decide (c ≥ 48) then (bif (N9 a.variant (N12 a++List.map ub [c])).snd==5 then (bif (N9 a.variant (List.drop 1 (List.take (N12 a).length (N12 a)))).snd==5 then (true) else (N12 (N9 a.variant (List.drop 1 (List.take (N12 a).length (N12 a)))).fst==List.drop 1 (List.take (N12 a).length (N12 a)))) else (bif decide (c≤57) then (bif (N9 a.variant (List.drop 1 (List.take (N12 a).length (N12 a)))).snd==5 then (true) else (N12 (N9 a.variant (List.drop 1 (List.take (N12 a).length (N12 a)))).fst==List.drop 1 (List.take (N12 a).length (N12 a)))) else (false))) else (bif (N9 a.variant (N12 a++List.map ub [c])).snd==5 then (bif (N9 a.variant (List.drop 1 (List.take (N12 a).length (N12 a)))).snd==5 then (true) else (N12 (N9 a.variant (List.drop 1 (List.take (N12 a).length (N12 a)))).fst==List.drop 1 (List.take (N12 a).length (N12 a)))) else (false)))))
noncomputable def okBadT (a:Pos) (c:Int):Bool:=(bif N12 a==(ByteArray.mk #[]).data.toList then true else (decide ((N12 a).length+1≤1073741824)&&(ok9 a.variant (N12 a++List.map ub [c])&&(bif decide (Int.ofNat (N12 a++List.map ub [c]).length > 200) then true else (decide (0≤1)&&decide (1≤Int.ofNat (N12 a).length)&&(ok9 a.variant (List.drop 1 (List.take (N12 a).length (N12 a)))&&(bif decide (c ≥ 48) then (bif (N9 a.variant (N12 a++List.map ub [c])).snd==5 then (bif (N9 a.variant (List.drop 1 (List.take (N12 a).length (N12 a)))).snd==5 then true else (ok12 (N9 a.variant (List.drop 1 (List.take (N12 a).length (N12 a)))).fst&&(decide (0≤1)&&decide (1≤Int.ofNat (N12 a).length)&&true))) else (bif decide (c≤57) then (bif (N9 a.variant (List.drop 1 (List.take (N12 a).length (N12 a)))).snd==5 then true else (ok12 (N9 a.variant (List.drop 1 (List.take (N12 a).length (N12 a)))).fst&&(decide (0≤1)&&decide (1≤Int.ofNat (N12 a).length)&&true))) else true)) else (bif (N9 a.variant (N12 a++List.map ub [c])).snd==5 then (bif (N9 a.variant (List.drop 1 (List.take (N12 a).length (N12 a)))).snd==5 then true else (ok12 (N9 a.variant (List.drop 1 (List.take (N12 a).length (N12 a)))).fst&&(decide (0≤1)&&decide (1≤Int.ofNat (N12 a).length)&&true))) else true))))))))
theorem N6_as (a:Pos) (b c:Int):N6 a b c=(bif decide (b ≥ 9) then (bif (N9 b (N12 a)).snd != 2 then false else badT a c) else badT a c):=by
  unfold N6 badT
  simp only [Bool.not_true,cond_false]
theorem ok6_as (a:Pos) (b c:Int):ok6 a b c=(ok12 a&&(ok9 b (N12 a)&&(bif decide (b ≥ 9) then (bif (N9 b (N12 a)).snd != 2 then true else okBadT a c) else okBadT a c))):=by
  unfold ok6 okBadT
  simp only [Bool.not_true,cond_false]
theorem parse_t {v:Int} (h0:0≤v) (h1:v≤255) {s:List UInt8} (hs:s.length≤1000000):ok9 v s=true∧(v ≥ 9→(N9 v s).2=2)∧(v < 9→200 < s.length→(N9 v s).2=3)∧(v < 9→s.length≤200→(N9 v s).2=5∨((N9 v s).2=0∧N12 (N9 v s).1=s∧RP v (N9 v s).1)):=by
  obtain ⟨k21,hr⟩:=read_t h0 h1 hs
  unfold ok9 N9
  rw [k21]
  by_cases h9:v ≥ 9
  · rw [decide_eq_true h9]
    exact ⟨rfl,fun _=>rfl,fun h=>by omega,fun h=>by omega⟩
  rw [decide_eq_false h9]
  by_cases hl:Int.ofNat s.length > 200
  · have hl':(s.length:Int) > 200:=hl
    rw [decide_eq_true hl]
    exact ⟨rfl,fun h=>absurd h h9,fun _ _=>rfl,fun _ h=>by omega⟩
  have hl':¬ (s.length:Int) > 200:=hl
  rw [decide_eq_false hl]
  simp only [cond_false,Bool.true_and]
  rcases hr with ⟨e,hq⟩ | e
  · rw [show ((N21 v s).2 != 0)=false by rw [e]; rfl,(print_at hq.1).1]
    simp only [cond_false,Bool.true_and]
    refine ⟨trivial,fun h=>absurd h h9,fun _ h=>by omega,fun _ _ => ?_⟩
    by_cases hs2:N12 (N21 v s).1=s
    · rw [show (!N12 (N21 v s).1==s)=false by rw [hs2,beq_self_eq_true]; rfl]
      exact .inr ⟨rfl,hs2,hq⟩
    · rw [show (!N12 (N21 v s).1==s)=true by rw [Bool.not_eq_true',beq_eq_false_iff_ne]; exact hs2]
      exact .inl rfl
  · rw [show ((N21 v s).2 != 0)=true by rw [e]; rfl]
    exact ⟨rfl,fun h=>absurd h h9,fun _ h=>by omega,fun _ _=>.inl rfl⟩
theorem dec_dig:∀ (k u:Nat),u < 10 ^ (k+1)→∀ b ∈ Lib.decDigits u,isDig b=true:=by
  have ten:∀ w:Fin 10,∀ b ∈ [UInt8.ofNat (48+w.1)],isDig b=true:=by decide
  intro k
  induction k with
  | zero =>
    intro u hu b hb
    have hu':u < 10:=by omega
    rw [Lib.decDigits,dif_pos hu'] at hb
    exact ten ⟨u,hu'⟩ b hb
  | succ k ih =>
    intro u hu b hb
    rw [Lib.decDigits] at hb
    by_cases h10:u < 10
    · rw [dif_pos h10] at hb
      exact ten ⟨u,h10⟩ b hb
    · rw [dif_neg h10] at hb
      rcases List.mem_append.1 hb with hb | hb
      · exact ih (u / 10) (by rw [Nat.pow_succ] at hu; omega) b hb
      · exact ten ⟨u % 10,by omega⟩ b hb
theorem itoa_dig {n:Int} (h0:0≤n) (h1:n≤10000):∀ b ∈ itoaL n,isDig b=true:=by
  have e:itoaL n=Lib.decDigits n.toNat:=by
    rw [itoaL_eq (by omega) (by omega)]
    unfold Lib.itoa
    rw [if_neg (by omega)]
  rw [e]
  exact dec_dig 4 _ (by omega)
theorem last_dig {q:Pos} (hq:PosIn q) {t:List UInt8} {x:UInt8} (h:N12 q=t++[x]):isDig x=true:=by
  obtain ⟨hw,e,_⟩:=print_some hq (by rw [h]; simp)
  obtain ⟨_,_,_,_,_,f0,_,f1,_⟩:=hw
  obtain ⟨_,_,hne⟩:=itoa_no f0 f1
  have e2:fenT q=(headT q++32::(itoaL q.half++[32]))++itoaL q.full:=by
    rw [fenT_head]
    simp only [List.append_assoc,List.cons_append,List.nil_append]
  have e3:=List.dropLast_concat_getLast hne
  rw [e,e2,← e3,← List.append_assoc] at h
  have:=(List.append_inj' h rfl).2
  simp only [List.cons.injEq,and_true] at this
  rw [← this]
  exact itoa_dig f0 f1 _ (List.getLast_mem hne)
theorem print_len {q:Pos} (hq:PosIn q):(N12 q).length≤200:=by
  by_cases h:N12 q=[]
  · rw [h]; decide
  · obtain ⟨_,e,hl⟩:=print_some hq h
    rw [e]
    exact hl
theorem ub_dig {c:Int} (h0:0≤c) (h1:c≤255) (h:isDig (ub c)=true):48≤c∧c≤57:=by
  have t:(List.range 256).all (fun n=>bif isDig (ub (n:Int)) then decide (48≤n)&&decide (n≤57) else true)=true:=by kernel_rfl
  have:=tab_at t h0 (by omega)
  rw [Int.toNat_of_nonneg h0,h,cond_true] at this
  simp only [Bool.and_eq_true,decide_eq_true_eq] at this
  omega
theorem badT_true (hp:PosIn p) {c:Int} (c0:0≤c) (c1:c≤255):okBadT p c=true∧badT p c=true:=by
  have hl:=print_len hp
  unfold okBadT badT
  rw [show (ByteArray.mk #[]).data.toList=([]:List UInt8) from rfl]
  by_cases hs:N12 p=[]
  · rw [hs]
    exact ⟨rfl,rfl⟩
  rw [show (N12 p==[])=false by simpa using hs,List.take_length,show List.map ub [c]=[ub c] from rfl]
  simp only [cond_false]
  obtain ⟨hw,ep,_⟩:=print_some hp hs
  have hv:p.variant < 9:=by have:=hw.1; omega
  have hpos:0 < (N12 p).length:=List.length_pos_iff.2 hs
  obtain ⟨kt,_,t3,t5⟩:=parse_t hp.v0 hp.v1 (s:=N12 p++[ub c]) (by rw [List.length_append,List.length_cons,List.length_nil]; omega)
  obtain ⟨ks,_,_,s5⟩:=parse_t hp.v0 hp.v1 (s:=List.drop 1 (N12 p)) (by rw [List.length_drop]; omega)
  have s5:=s5 hv (by rw [List.length_drop]; omega)
  have t3:=t3 hv
  have t5:=t5 hv
  have digit:∀ q:Pos,PosIn q→N12 q=N12 p++[ub c]→48≤c∧c≤57:=fun q hq h=>ub_dig c0 c1 (last_dig hq h)
  have okL:decide ((N12 p).length+1≤1073741824)=true:=decide_eq_true (by omega)
  have ok1:decide (1≤Int.ofNat (N12 p).length)=true:=decide_eq_true (by show (1:Int)≤((N12 p).length:Int); omega)
  rw [okL,kt,ks,ok1]
  generalize hT:N12 p++[ub c]=T at t3 t5 digit
  generalize List.drop 1 (N12 p)=S at s5
  by_cases h200:Int.ofNat T.length > 200
  · have h200':(T.length:Int) > 200:=h200
    rw [decide_eq_true h200,t3 (by omega)]
    exact ⟨rfl,rfl⟩
  have h200':¬ (T.length:Int) > 200:=h200
  have t5:=t5 (by omega)
  rw [decide_eq_false h200]
  simp only [cond_false,Bool.true_and]
  have fin:∃ e1 e2:Bool,((N9 p.variant S).2==5)=e1∧(N12 (N9 p.variant S).1==S)=e2∧(e1=true∨(e2=true∧ok12 (N9 p.variant S).1=true)):=by
    rcases s5 with e | ⟨_,e,hq⟩
    · exact ⟨true,_,by rw [e]; rfl,rfl,.inl rfl⟩
    · exact ⟨_,true,rfl,by rw [e,beq_self_eq_true],.inr ⟨rfl,(print_at hq.1).1⟩⟩
  obtain ⟨e1,e2,q1,q2,q3⟩:=fin
  rw [q1,q2]
  have key:((N9 p.variant T).2==5)=true∨(((N9 p.variant T).2==5)=false∧48≤c∧c≤57):=by
    rcases t5 with e | ⟨e,e',hq⟩
    · exact .inl (by rw [e]; rfl)
    · exact .inr ⟨by rw [e]; rfl,digit _ hq.1 e'⟩
  rcases key with k | ⟨k,k1,k2⟩
  · rw [k]
    rcases q3 with rfl | ⟨rfl,q3⟩
    · cases decide (c ≥ 48) <;> exact ⟨rfl,rfl⟩
    · rw [q3]
      cases decide (c ≥ 48) <;> cases e1 <;> exact ⟨rfl,rfl⟩
  · rw [k,decide_eq_true (show c ≥ 48 from k1),decide_eq_true k2]
    rcases q3 with rfl | ⟨rfl,q3⟩
    · exact ⟨rfl,rfl⟩
    · rw [q3]
      cases e1 <;> exact ⟨rfl,rfl⟩
theorem N6_true (hp:PosIn p) {b c:Int} (b0:0≤b) (b1:b≤255) (c0:0≤c) (c1:c≤255):ok6 p b c=true∧N6 p b c=true:=by
  have hl:=print_len hp
  obtain ⟨kp,k2,_⟩:=parse_t b0 b1 (s:=N12 p) (by omega)
  obtain ⟨x,y⟩:=badT_true hp c0 c1
  rw [N6_as,ok6_as,(print_at hp).1,kp,x,y]
  by_cases h9:b ≥ 9
  · rw [decide_eq_true h9,k2 h9]
    exact ⟨rfl,rfl⟩
  · rw [decide_eq_false h9]
    exact ⟨rfl,rfl⟩
theorem ascii_at {s:List UInt8} {n:Nat} (hn:n < s.length) (hb:s[n].toNat < 128):runeAt s (n:Int)=(s[n].toNat:Int)∧widthAt s (n:Int)=1:=by
  have e:(ByteArray.get! ⟨s.toArray⟩ n)=s[n]:=by
    show s.toArray[n]! = s[n]
    rw [List.getElem!_toArray,getElem!_pos s n hn]
  have d:Utf8.decode ⟨s.toArray⟩ n=(s[n].toNat,1):=by
    unfold Utf8.decode
    dsimp only
    rw [if_pos (show (ByteArray.get! ⟨s.toArray⟩ (n+0)).toNat < 0x80 by rw [Nat.add_zero,e]; exact hb)]
    show ((ByteArray.get! ⟨s.toArray⟩ n).toNat,1)=_
    rw [e]
  unfold runeAt widthAt
  rw [Int.toNat_natCast,d]
  exact ⟨rfl,rfl⟩
theorem tabE:(List.range 128).all (fun n=>(Utf8.encode (n:Int)).data.toList==[UInt8.ofNat n])=true:=by kernel_rfl
theorem enc_at {b:UInt8} (hb:b.toNat < 128):(Utf8.encode (b.toNat:Int)).data.toList=[b]:=by
  have h:=List.all_eq_true.1 tabE b.toNat (List.mem_range.2 hb)
  rw [beq_iff_eq,UInt8.ofNat_toNat] at h
  exact h
theorem tabU:(List.range 15).all (fun n=>bif N96 (n:Int) then (match N97 (n:Int) with | [b]=>decide (b.toNat < 128)&&((N86 [b]).1==(n:Int))&&(N86 [b]).2&&b != 126&&!(isDig b) | _=>false) else true)=true:=by kernel_rfl
theorem tabV:(List.range 10).all (fun n => !(N86 [UInt8.ofNat (48+n)]).2)=true:=by kernel_rfl
theorem tilde_no:(N86 [126]).2=false:=by kernel_rfl
theorem man_top {x:Int} (h0:0≤x) (h1:x≤255) (h:N96 x=true):x≤14:=by
  have t:(List.range 256).all (fun n=>bif N96 (n:Int) then decide (n≤14) else true)=true:=by kernel_rfl
  have:=tab_at t h0 (by omega)
  rw [Int.toNat_of_nonneg h0,h,cond_true] at this
  have:=of_decide_eq_true this
  omega
theorem letter_read {x:Int} (h0:0≤x) (h1:x≤255) (h:N96 x=true):∃ b:UInt8,N97 x=[b]∧b.toNat < 128∧N86 [b]=(x,true)∧b≠126:=by
  have h14:=man_top h0 h1 h
  have t:=tab_at tabU h0 (by omega)
  rw [Int.toNat_of_nonneg h0,h,cond_true] at t
  split at t
  · rename_i b e
    simp only [Bool.and_eq_true,decide_eq_true_eq,beq_iff_eq,bne_iff_ne] at t
    obtain ⟨⟨⟨⟨a,c⟩,d⟩,f⟩,_⟩:=t
    exact ⟨b,e,a,Prod.ext c d,f⟩
  · cases t
theorem itl_go {X R:Type} {F:X→Stp X R} {n:Nat} {x y:X} {r:R} (h:F x=.go y) (hr:itl F n y=some r):itl F (n+1) x=some r:=by
  rw [itl,h]
  exact hr
theorem itl_out {X R:Type} {F:X→Stp X R} {x:X} {r:R} (h:F x=.out r):itl F 1 x=some r:=by
  rw [itl,h]
noncomputable def F4 (i:Int) (l:List (List UInt8)) (a b:Int) (t:List UInt8) (x:Int×Pos×Int):Stp (Int×Pos×Int) ((Pos×Int) ⊕ (Int×Pos×Int)):=bif okL21_4 i l a b t x then st21_4 i l a b t x else .bad
variable {i:Int} {l:List (List UInt8)} {a b:Int} {t:List UInt8} {q:Pos} {f:Int} {n:Nat}
theorem F4_end (h:n=t.length):F4 i l a b t (f,q,(n:Int))=.out (.inr (f,q,(n:Int))):=by
  unfold F4 okL21_4 st21_4
  dsimp only
  rw [decide_eq_false (show ¬ (n:Int) < Int.ofNat t.length by show ¬ (n:Int) < (t.length:Int); omega)]
  rfl
theorem F4_digit (hn:n < t.length) {e:Nat} (e1:1≤e) (e8:e≤8) (hb:t[n]=UInt8.ofNat (48+e)) (f0:0≤f) (f1:f≤100):F4 i l a b t (f,q,(n:Int))=.go (f+e,q,((n+1:Nat):Int)):=by
  have hv:t[n].toNat=48+e:=by
    rw [hb,UInt8.toNat_ofNat']
    exact Nat.mod_eq_of_lt (by omega)
  obtain ⟨ra,wa⟩:=ascii_at hn (by omega)
  have hz:=List.all_eq_true.1 tabV e (List.mem_range.2 (by omega))
  rw [← hb,Bool.not_eq_true'] at hz
  unfold F4 okL21_4 st21_4
  dsimp only
  rw [ra,wa,enc_at (by omega),(parse_man [t[n]]).1,hz,hv,decide_eq_true (show (n:Int) < Int.ofNat t.length by show (n:Int) < (t.length:Int); omega)]
  have c126:(((48+e:Nat):Int)==126)=false:=by
    rw [beq_eq_false_iff_ne]; omega
  rw [c126,decide_eq_true (show ((48+e:Nat):Int) ≥ 49 by omega),decide_eq_true (show ((48+e:Nat):Int)≤56 by omega)]
  have w:wr .i64 (f+wr .i64 (wr .i32 (((48+e:Nat):Int) - 48)))=f+e:=by
    rw [show wr .i32 (((48+e:Nat):Int) - 48)=((48+e:Nat):Int) - 48 from IntWalk.i32_in _ ⟨by omega,by omega⟩,wi64 (n:=((48+e:Nat):Int) - 48) (by omega) (by omega),wi64 (by omega) (by omega)]
    omega
  rw [w]
  rfl
theorem F4_man (i0:0≤i) (i7:i≤7) (hn:n < t.length) {x:Int} {c:UInt8} (hb:t[n]=c) (hc:c.toNat < 128) (hx:N86 [c]=(x,true)) (f0:0≤f) (f7:f≤7):F4 i l a b t (f,q,(n:Int))=.go (f+1,Pos.mk q.variant (q.board.set (8 * (7 - i)+f).toNat x) q.promoted q.pockets q.turn q.rooks q.passing q.checks q.half q.full,((n+1:Nat):Int)):=by
  subst hb
  obtain ⟨ra,wa⟩:=ascii_at hn hc
  unfold F4 okL21_4 st21_4
  dsimp only
  rw [ra,wa,enc_at hc,(parse_man [t[n]]).1,hx,decide_eq_true (show (n:Int) < Int.ofNat t.length by show (n:Int) < (t.length:Int); omega)]
  rw [show wr .i64 (7 - i)=7 - i from wi64 (by omega) (by omega),show wr .i64 (8 * (7 - i))=8 * (7 - i) from wi64 (by omega) (by omega),show wr .i64 (8 * (7 - i)+f)=8 * (7 - i)+f from wi64 (by omega) (by omega),show wr .i64 (f+1)=f+1 from wi64 (by omega) (by omega),decide_eq_true (show f < 8 by omega),decide_eq_true (show 0≤8 * (7 - i)+f by omega),decide_eq_true (show 8 * (7 - i)+f < Int.ofNat 64 by show 8 * (7 - i)+f < 64; omega),scale1]
  rfl
theorem F4_tilde (i0:0≤i) (i7:i≤7) (hn:n < t.length) (hb:t[n]=126) (f0:1≤f) (f8:f≤8):F4 i l a b t (f,q,(n:Int))=.go (f,Pos.mk q.variant q.board (q.promoted|||1#64 <<< (8 * (7 - i)+f - 1).toNat) q.pockets q.turn q.rooks q.passing q.checks q.half q.full,((n+1:Nat):Int)):=by
  have hv:t[n].toNat=126:=by rw [hb]; rfl
  obtain ⟨ra,wa⟩:=ascii_at hn (by omega)
  unfold F4 okL21_4 st21_4
  dsimp only
  rw [ra,wa,enc_at (by omega),(parse_man [t[n]]).1,hv,hb,tilde_no,decide_eq_true (show (n:Int) < Int.ofNat t.length by show (n:Int) < (t.length:Int); omega)]
  rw [show wr .i64 (7 - i)=7 - i from wi64 (by omega) (by omega),show wr .i64 (8 * (7 - i))=8 * (7 - i) from wi64 (by omega) (by omega),show wr .i64 (8 * (7 - i)+f)=8 * (7 - i)+f from wi64 (by omega) (by omega),show wr .i64 (8 * (7 - i)+f - 1)=8 * (7 - i)+f - 1 from wi64 (by omega) (by omega),decide_eq_true (show f > 0 by omega),decide_eq_true (show 0≤8 * (7 - i)+f - 1 by omega)]
  rfl
structure Rd (p q q':Pos) (lo hi:Int):Prop where
  same:q'.variant=q.variant∧q'.pockets=q.pockets∧q'.turn=q.turn∧q'.rooks=q.rooks∧q'.passing=q.passing∧q'.checks=q.checks∧q'.half=q.half∧q'.full=q.full
  len:q'.board.length=q.board.length
  board:∀ s:Int,0≤s→s < 64→atS q' s=if lo≤s∧s < hi∧atS p s≠0 then atS p s else atS q s
  bits:∀ s:Nat,s < 64→bitAt q'.promoted s=(bitAt q.promoted s || (decide (lo≤(s:Int)∧(s:Int) < hi)&&bitAt p.promoted s))
theorem Rd.refl (p q:Pos) {lo hi:Int} (h:hi≤lo):Rd p q q lo hi :=
  ⟨⟨rfl,rfl,rfl,rfl,rfl,rfl,rfl,rfl⟩,rfl,fun s _ _=>by rw [if_neg (by omega)],fun s _=>by rw [decide_eq_false (by omega),Bool.false_and,Bool.or_false]⟩
theorem Rd.trans {p q q1 q2:Pos} {lo mid hi:Int} (h1:Rd p q q1 lo mid) (h2:Rd p q1 q2 mid hi) (a:lo≤mid) (b:mid≤hi):Rd p q q2 lo hi:=by
  obtain ⟨x1,x2,x3,x4,x5,x6,x7,x8⟩:=h1.same
  obtain ⟨y1,y2,y3,y4,y5,y6,y7,y8⟩:=h2.same
  refine ⟨⟨y1.trans x1,y2.trans x2,y3.trans x3,y4.trans x4,y5.trans x5,y6.trans x6,y7.trans x7,y8.trans x8⟩,h2.len.trans h1.len,fun s s0 s1 => ?_,fun s s1 => ?_⟩
  · rw [h2.board s s0 s1,h1.board s s0 s1]
    by_cases c:atS p s≠0
    · by_cases c1:mid≤s∧s < hi
      · rw [if_pos ⟨c1.1,c1.2,c⟩,if_pos ⟨by omega,c1.2,c⟩]
      · rw [if_neg (fun h=>c1 ⟨h.1,h.2.1⟩)]
        by_cases c2:lo≤s∧s < mid
        · rw [if_pos ⟨c2.1,c2.2,c⟩,if_pos ⟨c2.1,by omega,c⟩]
        · rw [if_neg (fun h=>c2 ⟨h.1,h.2.1⟩),if_neg (fun h=>by have:=h.1; have:=h.2.1; omega)]
    · rw [if_neg (fun h=>c h.2.2),if_neg (fun h=>c h.2.2),if_neg (fun h=>c h.2.2)]
  · rw [h2.bits s s1,h1.bits s s1,Bool.or_assoc]
    congr 1
    cases bitAt p.promoted s with
    | false=>simp
    | true =>
      simp only [Bool.and_true]
      by_cases c1:lo≤(s:Int)∧(s:Int) < mid
      · rw [decide_eq_true c1,decide_eq_true (show lo≤(s:Int)∧(s:Int) < hi by omega),Bool.true_or]
      · rw [decide_eq_false c1,Bool.false_or]
        exact decide_eq_decide.2 (by omega)
theorem bit_or (x:BitVec 64) {s:Nat} (hs:s < 64) (j:Nat):bitAt (x|||1#64 <<< s) j=(bitAt x j || decide (j=s)):=by
  rw [bit_eq,bit_eq,BitVec.toNat_or,Nat.testBit_or]
  congr 1
  have e:(1#64 <<< s).toNat=2 ^ s:=by
    rw [BitVec.toNat_shiftLeft,Nat.shiftLeft_eq]
    have:2 ^ s < 2 ^ 64:=Nat.pow_lt_pow_right (by decide) hs
    show 1 * 2 ^ s % 2 ^ 64=2 ^ s
    rw [Nat.one_mul,Nat.mod_eq_of_lt this]
  rw [e,Nat.testBit_two_pow]
  exact decide_eq_decide.2 eq_comm
theorem Rd.man {p q:Pos} (hl:q.board.length=64) {s:Int} (s0:0≤s) (s1:s < 64) (hm:atS p s≠0) {b:BitVec 64} (hb:b=bif bitAt p.promoted s.toNat then q.promoted|||1#64 <<< s.toNat else q.promoted):Rd p q (Pos.mk q.variant (q.board.set s.toNat (atS p s)) b q.pockets q.turn q.rooks q.passing q.checks q.half q.full) s (s+1):=by
  refine ⟨⟨rfl,rfl,rfl,rfl,rfl,rfl,rfl,rfl⟩,List.length_set ..,fun j j0 j1 => ?_,fun j j1 => ?_⟩
  · unfold atS at hm ⊢
    dsimp only
    by_cases h:j=s
    · subst h
      rw [if_pos ⟨Int.le_refl _,by omega,hm⟩,List.getD_eq_getElem?_getD,List.getElem?_set_self (by omega)]
      rfl
    · rw [if_neg (by omega),List.getD_eq_getElem?_getD,List.getElem?_set_ne (by omega),← List.getD_eq_getElem?_getD]
  · dsimp only
    rw [hb]
    have e:decide (s≤(j:Int)∧(j:Int) < s+1)=decide (j=s.toNat):=decide_eq_decide.2 (by omega)
    rw [e]
    cases hbit:bitAt p.promoted s.toNat with
    | true =>
      rw [cond_true,bit_or _ (by omega)]
      by_cases h:j=s.toNat
      · subst h
        rw [hbit]
        simp
      · rw [decide_eq_false h]
        simp
    | false =>
      rw [cond_false]
      by_cases h:j=s.toNat
      · subst h
        rw [hbit]
        simp
      · rw [decide_eq_false h]
        simp
variable {i:Int} {l:List (List UInt8)} {a b:Int} {t:List UInt8} {p:Pos}
theorem tabW:(List.range 9).all (fun n=>bif n==0 then true else itoaL (n:Int)==[UInt8.ofNat (48+n)])=true:=by kernel_rfl
theorem fl_byte {e:Nat} (e8:e≤8):fl (e:Int)=if e=0 then [] else [UInt8.ofNat (48+e)]:=by
  unfold fl
  by_cases h:e=0
  · subst h
    rfl
  · have t:=List.all_eq_true.1 tabW e (List.mem_range.2 (by omega))
    rw [show (e==0)=false by simpa using h,cond_false,beq_iff_eq] at t
    rw [decide_eq_true (show (e:Int) > 0 by omega),cond_true,if_neg h,t]
theorem read_fl {e:Nat} (e8:e≤8) {pre rest:List UInt8} (ht:t=pre++(fl (e:Int)++rest)) {f:Int} (f0:0≤f) (f1:f≤8) {q:Pos} {r:(Pos×Int) ⊕ (Int×Pos×Int)} {m:Nat}
    (h:itl (F4 i l a b t) m (f+e,q,(((pre++fl (e:Int)).length:Nat):Int))=some r):∃ m',m'≤m+1∧itl (F4 i l a b t) m' (f,q,((pre.length:Nat):Int))=some r:=by
  rw [fl_byte e8] at ht h
  by_cases he:e=0
  · subst he
    rw [if_pos rfl,List.append_nil] at h
    exact ⟨m,by omega,by rw [show f=f+((0:Nat):Int) by omega]; exact h⟩
  · rw [if_neg he] at ht h
    rw [List.length_append,List.length_cons,List.length_nil] at h
    have hn:pre.length < t.length:=by rw [ht]; simp
    have hb:t[pre.length]=UInt8.ofNat (48+e):=by
      subst ht
      rw [List.getElem_append_right (Nat.le_refl _)]
      simp
    exact ⟨m+1,Nat.le_refl _,itl_go (F4_digit hn (by omega) e8 hb f0 (by omega)) h⟩
theorem rank_read (hp:PosIn p) (hm:MenOk p) (hbit:∀ s:Nat,s < 64→bitAt p.promoted s=true→atS p s≠0) (i0:0≤i) (i7:i≤7):∀ (k e:Nat) (pre:List UInt8) (q:Pos),q.board.length=64→k≤8→e+k≤8→t=pre++rowS p (7 - i) k e →
    ∃ m q',m≤4 * k+4∧itl (F4 i l a b t) m ((8:Int) - k - e,q,((pre.length:Nat):Int))=some (.inr (8,q',(t.length:Int)))∧Rd p q q' (8 * (7 - i)+(8 - k)) (8 * (7 - i)+8)
  | 0,e,pre,q,hl,_,he,ht=>by
    rw [rowS] at ht
    have ht':t=pre++(fl (e:Int)++[]):=by rw [List.append_nil]; exact ht
    have hend:=itl_out (F4_end (i:=i) (l:=l) (a:=a) (b:=b) (t:=t) (q:=q) (f:=8) (n:=(pre++fl (e:Int)).length) (by rw [ht]))
    obtain ⟨m',h1,h2⟩:=read_fl (i:=i) (l:=l) (a:=a) (b:=b) (f:=(8:Int) - ((0:Nat):Int) - e) (q:=q) (m:=1) (r := .inr (8,q,(t.length:Int))) (by omega) ht' (by omega) (by omega) (by
      rw [show (8:Int) - ((0:Nat):Int) - e+e=8 by omega,hend]
      rw [← ht])
    exact ⟨m',q,by omega,h2,Rd.refl p q (by omega)⟩
  | k+1,e,pre,q,hl,hk,he,ht=>by
    rw [rowS] at ht
    by_cases hz:atS p (8 * (7 - i)+(7 - (k:Int)))=0
    · rw [show (atS p (8 * (7 - i)+(7 - (k:Int)))==0)=true by rw [hz]; rfl,cond_true] at ht
      obtain ⟨m,q',h1,h2,h3⟩:=rank_read hp hm hbit i0 i7 k (e+1) pre q hl (by omega) (by omega) (by rw [ht]; congr 1)
      refine ⟨m,q',by omega,?_,?_⟩
      · rw [show (8:Int) - ((k+1:Nat):Int) - (e:Int)=8 - (k:Int) - ((e+1:Nat):Int) by omega]
        exact h2
      · refine ⟨h3.same,h3.len,fun s s0 s1 => ?_,fun s s1 => ?_⟩
        · rw [h3.board s s0 s1]
          by_cases hs:s=8 * (7 - i)+(7 - (k:Int))
          · subst hs
            rw [if_neg (fun h=>h.2.2 hz),if_neg (fun h=>h.2.2 hz)]
          · by_cases hc:8 * (7 - i)+(8 - (k:Int))≤s∧s < 8 * (7 - i)+8∧atS p s≠0
            · rw [if_pos hc,if_pos ⟨by omega,hc.2⟩]
            · rw [if_neg hc,if_neg (fun h=>hc ⟨by omega,h.2⟩)]
        · rw [h3.bits s s1]
          congr 1
          by_cases hs:(s:Int)=8 * (7 - i)+(7 - (k:Int))
          · have:bitAt p.promoted s=false:=by
              cases hb:bitAt p.promoted s with
              | false=>rfl
              | true =>
                have:=hbit s s1 hb
                rw [hs] at this
                exact absurd hz this
            rw [this,Bool.and_false,Bool.and_false]
          · congr 1
            exact decide_eq_decide.2 (by omega)
    · rw [show (atS p (8 * (7 - i)+(7 - (k:Int)))==0)=false by simpa using hz,cond_false] at ht
      have s0:0≤8 * (7 - i)+(7 - (k:Int)):=by omega
      have s1:8 * (7 - i)+(7 - (k:Int)) < 64:=by omega
      have hin:=at_in hp (8 * (7 - i)+(7 - (k:Int)))
      obtain ⟨c,l1,l2,l3,l4⟩:=letter_read hin.1 hin.2 (hm _ s0 s1 hz)
      unfold pieceT at ht
      rw [l1] at ht
      generalize hs:8 * (7 - i)+(7 - (k:Int))=s at *
      have key:∀ (pre2:List UInt8) (q2:Pos),q2.board.length=64→t=pre2++rowS p (7 - i) k 0→Rd p q q2 s (s+1)→∃ m q',m≤4 * k+4∧itl (F4 i l a b t) m ((8:Int) - k,q2,((pre2.length:Nat):Int))=some (.inr (8,q',(t.length:Int)))∧Rd p q q' s (8 * (7 - i)+8):=by
        intro pre2 q2 hl2 ht2 hR
        obtain ⟨m,q',h1,h2,h3⟩:=rank_read hp hm hbit i0 i7 k 0 pre2 q2 hl2 (by omega) (by omega) ht2
        refine ⟨m,q',h1,?_,?_⟩
        · rw [show (8:Int) - (k:Int)=8 - (k:Int) - ((0:Nat):Int) by omega]
          exact h2
        · rw [show 8 * (7 - i)+(8 - (k:Int))=s+1 by omega] at h3
          exact hR.trans h3 (by omega) (by omega)
      have fin:∃ m q',m≤4 * k+6∧itl (F4 i l a b t) m ((7:Int) - k,q,(((pre++fl (e:Int)).length:Nat):Int))=some (.inr (8,q',(t.length:Int)))∧Rd p q q' s (8 * (7 - i)+8):=by
        have hn:(pre++fl (e:Int)).length < t.length:=by
          rw [ht]
          simp only [List.length_append,List.length_cons]
          omega
        have hb:t[(pre++fl (e:Int)).length]=c:=by
          have:t=(pre++fl (e:Int))++(c::((bif bitAt p.promoted s.toNat then [126] else [])++rowS p (7 - i) k 0)):=by
            rw [ht]
            simp only [List.append_assoc,List.cons_append,List.nil_append]
          rw [List.getElem_of_eq this,List.getElem_append_right (Nat.le_refl _)]
          simp
        have st:=F4_man (l:=l) (a:=a) (b:=b) (q:=q) (f:=(7:Int) - k) i0 i7 hn hb l2 l3 (by omega) (by omega)
        rw [show 8 * (7 - i)+((7:Int) - k)=s by omega,show (7:Int) - (k:Int)+1=8 - k by omega] at st
        cases hbt:bitAt p.promoted s.toNat with
        | false =>
          rw [hbt,cond_false,List.append_nil] at ht
          obtain ⟨m,q',h1,h2,h3⟩:=key (pre++fl (e:Int)++[c]) _ (by rw [List.length_set]; exact hl) (by rw [ht]; simp only [List.append_assoc]) (Rd.man hl s0 s1 hz (b:=q.promoted) (by rw [hbt]; rfl))
          refine ⟨m+1,q',by omega,itl_go st ?_,h3⟩
          rw [List.length_append,List.length_cons,List.length_nil] at h2
          exact h2
        | true =>
          rw [hbt,cond_true] at ht
          obtain ⟨m,q',h1,h2,h3⟩:=key (pre++fl (e:Int)++[c]++[126]) _ (by rw [List.length_set]; exact hl) (by rw [ht]; simp only [List.append_assoc]) (Rd.man hl s0 s1 hz (b:=q.promoted|||1#64 <<< s.toNat) (by rw [hbt]; rfl))
          have hn2:(pre++fl (e:Int)).length+1 < t.length:=by
            rw [ht]
            simp only [List.length_append,List.length_cons]
            omega
          have hb2:t[(pre++fl (e:Int)).length+1]=126:=by
            have:t=(pre++fl (e:Int)++[c])++(126::rowS p (7 - i) k 0):=by
              rw [ht]
              simp only [List.append_assoc,List.cons_append,List.nil_append]
            have e2:(pre++fl (e:Int)).length+1=(pre++fl (e:Int)++[c]).length:=by
              simp only [List.length_append,List.length_cons,List.length_nil]
            have g:t[(pre++fl (e:Int)).length+1]?=some 126:=by
              rw [e2,this,List.getElem?_append_right (Nat.le_refl _),Nat.sub_self]
              rfl
            exact (List.getElem?_eq_some_iff.1 g).2
          have st2:=F4_tilde (l:=l) (a:=a) (b:=b) (q:=Pos.mk q.variant (q.board.set s.toNat (atS p s)) q.promoted q.pockets q.turn q.rooks q.passing q.checks q.half q.full) (f:=(8:Int) - k) i0 i7 hn2 hb2 (by omega) (by omega)
          rw [show 8 * (7 - i)+((8:Int) - k) - 1=s by omega] at st2
          refine ⟨m+2,q',by omega,itl_go st (itl_go st2 ?_),h3⟩
          rw [List.length_append,List.length_append,List.length_cons,List.length_nil,List.length_cons,List.length_nil] at h2
          exact h2
      obtain ⟨m,q',h1,h2,h3⟩:=fin
      obtain ⟨m',g1,g2⟩:=read_fl (i:=i) (l:=l) (a:=a) (b:=b) (f:=(8:Int) - ((k+1:Nat):Int) - e) (by omega) ht (by omega) (by omega) (by
        rw [show (8:Int) - ((k+1:Nat):Int) - e+e=7 - k by omega]
        exact h2)
      refine ⟨m',q',by omega,g2,?_⟩
      rw [show 8 * (7 - i)+((8:Int) - ((k+1:Nat):Int))=s by omega]
      exact h3
theorem lp21_24 (a:Int) (b:List (List UInt8)) (c:Int) (d:Int) (e:List UInt8) (f:Int) (t:List UInt8) (x:Int×Pos×Int):lp21_2 a b c d e f t x=lp21_4 a b c d t x:=rfl
theorem Rd.trans' {p q q1 q2:Pos} {lo mid hi:Int} (h1:Rd p q q1 mid hi) (h2:Rd p q1 q2 lo mid) (a:lo≤mid) (b:mid≤hi):Rd p q q2 lo hi:=by
  obtain ⟨x1,x2,x3,x4,x5,x6,x7,x8⟩:=h1.same
  obtain ⟨y1,y2,y3,y4,y5,y6,y7,y8⟩:=h2.same
  refine ⟨⟨y1.trans x1,y2.trans x2,y3.trans x3,y4.trans x4,y5.trans x5,y6.trans x6,y7.trans x7,y8.trans x8⟩,h2.len.trans h1.len,fun s s0 s1 => ?_,fun s s1 => ?_⟩
  · rw [h2.board s s0 s1,h1.board s s0 s1]
    by_cases c:atS p s≠0
    · by_cases c1:lo≤s∧s < mid
      · rw [if_pos ⟨c1.1,c1.2,c⟩,if_pos ⟨c1.1,by omega,c⟩]
      · rw [if_neg (fun h=>c1 ⟨h.1,h.2.1⟩)]
        by_cases c2:mid≤s∧s < hi
        · rw [if_pos ⟨c2.1,c2.2,c⟩,if_pos ⟨by omega,c2.2,c⟩]
        · rw [if_neg (fun h=>c2 ⟨h.1,h.2.1⟩),if_neg (fun h=>by have:=h.1; have:=h.2.1; omega)]
    · rw [if_neg (fun h=>c h.2.2),if_neg (fun h=>c h.2.2),if_neg (fun h=>c h.2.2)]
  · rw [h2.bits s s1,h1.bits s s1,Bool.or_assoc]
    congr 1
    cases bitAt p.promoted s with
    | false=>simp
    | true =>
      simp only [Bool.and_true]
      by_cases c1:mid≤(s:Int)∧(s:Int) < hi
      · rw [decide_eq_true c1,decide_eq_true (show lo≤(s:Int)∧(s:Int) < hi by omega),Bool.true_or]
      · rw [decide_eq_false c1,Bool.false_or]
        exact decide_eq_decide.2 (by omega)
theorem rank_lp {p:Pos} (hp:PosIn p) (hm:MenOk p) (hbit:∀ s:Nat,s < 64→bitAt p.promoted s=true→atS p s≠0) {i:Int} (i0:0≤i) (i7:i≤7) {q:Pos} (hl:q.board.length=64) (l:List (List UInt8)) (a b:Int) :
    ∃ q' n,lp21_4 i l a b (rowS p (7 - i) 8 0) (0,q,0)=some (.inr (8,q',n))∧Rd p q q' (8 * (7 - i)) (8 * (7 - i)+8):=by
  obtain ⟨m,q',h1,h2,h3⟩:=rank_read (l:=l) (a:=a) (b:=b) hp hm hbit i0 i7 8 0 [] q hl (by omega) (by omega) (t:=rowS p (7 - i) 8 0) rfl
  refine ⟨q',_,itl_mono (n:=m) (Nat.le_trans h1 (by unfold many; omega)) h2,?_⟩
  have e:8 * (7 - i)+((8:Int) - ((8:Nat):Int))=8 * (7 - i):=by omega
  rw [e] at h3
  exact h3
theorem ranks_go {p:Pos} (hp:PosIn p) (hm:MenOk p) (hbit:∀ s:Nat,s < 64→bitAt p.promoted s=true→atS p s≠0) {l:List (List UInt8)} (hl8:l.length=8) (hl:∀ j:Nat,j < 8→l.getD j default=rowS p (7 - (j:Int)) 8 0) {j:Nat} (hj:j < 8) {q:Pos} (hq:q.board.length=64) (s:List UInt8) (n:Int) :
    ∃ q',(bif okL21_5 l 8 ((j:Int),q) then st21_5 l 8 ((j:Int),q) else .bad)=.go (((j+1:Nat):Int),q')∧(bif okL21_3 l 8 s n ((j:Int),q) then st21_3 l 8 s n ((j:Int),q) else .bad)=.go (((j+1:Nat):Int),q')∧Rd p q q' (8 * (7 - (j:Int))) (8 * (7 - (j:Int))+8):=by
  obtain ⟨q',m,h1,h2⟩:=rank_lp hp hm hbit (i:=(j:Int)) (by omega) (by omega) hq l 8 (j:Int)
  have w:wr .i64 ((j:Int)+1)=((j+1:Nat):Int):=(wi64 (by omega) (by omega)).trans (by omega)
  have d1:decide ((j:Int) < 8)=true:=decide_eq_true (by omega)
  have d2:decide (0≤(j:Int))=true:=decide_eq_true (by omega)
  have d3:decide ((j:Int) < Int.ofNat l.length)=true:=decide_eq_true (by rw [hl8]; show (j:Int) < (8:Nat); omega)
  have e:l.getD (j:Int).toNat default=rowS p (7 - (j:Int)) 8 0:=hl j hj
  refine ⟨q',?_,?_,h2⟩
  · unfold okL21_5 st21_5
    dsimp only
    rw [e,h1,d1,d2,d3,w]
    rfl
  · unfold okL21_3 st21_3
    dsimp only
    simp only [lp21_24]
    rw [e,h1,d1,d2,d3,w]
    rfl
theorem ranks_end (l:List (List UInt8)) (s:List UInt8) (n:Int) (q:Pos):(bif okL21_5 l 8 (((8:Nat):Int),q) then st21_5 l 8 (((8:Nat):Int),q) else .bad)=.out (.inr (8,false,q))∧(bif okL21_3 l 8 s n (((8:Nat):Int),q) then st21_3 l 8 s n (((8:Nat):Int),q) else .bad)=.out (.inr (8,false,q)):=⟨rfl,rfl⟩
theorem ranks_all {p:Pos} (hp:PosIn p) (hm:MenOk p) (hbit:∀ s:Nat,s < 64→bitAt p.promoted s=true→atS p s≠0) {l:List (List UInt8)} (hl8:l.length=8) (hl:∀ j:Nat,j < 8→l.getD j default=rowS p (7 - (j:Int)) 8 0) (s:List UInt8) (n:Int):∀ (k j:Nat) (q:Pos),j+k=8→q.board.length=64 →
    ∃ q',itl (fun x=>bif okL21_5 l 8 x then st21_5 l 8 x else .bad) (k+1) ((j:Int),q)=some (.inr (8,false,q'))∧itl (fun x=>bif okL21_3 l 8 s n x then st21_3 l 8 s n x else .bad) (k+1) ((j:Int),q)=some (.inr (8,false,q'))∧Rd p q q' 0 (8 * (k:Int))
  | 0,j,q,hj,hq=>by
    obtain rfl:j=8:=by omega
    exact ⟨q,itl_out (ranks_end l s n q).1,itl_out (ranks_end l s n q).2,Rd.refl p q (by omega)⟩
  | k+1,j,q,hj,hq=>by
    obtain ⟨q1,h1,h2,h3⟩:=ranks_go hp hm hbit hl8 hl (j:=j) (by omega) hq s n
    obtain ⟨q',g1,g2,g3⟩:=ranks_all hp hm hbit hl8 hl s n k (j+1) q1 (by omega) (h3.len.trans hq)
    refine ⟨q',itl_go h1 g1,itl_go h2 g2,?_⟩
    have e:8 * (7 - (j:Int))=8 * (k:Int):=by omega
    rw [e] at h3
    rw [show 8 * ((k+1:Nat):Int)=8 * (k:Int)+8 by omega]
    exact h3.trans' g3 (by omega) (by omega)
theorem ranks_lp {p:Pos} (hp:PosIn p) (hm:MenOk p) (hbit:∀ s:Nat,s < 64→bitAt p.promoted s=true→atS p s≠0) {l:List (List UInt8)} (hl8:l.length=8) (hl:∀ j:Nat,j < 8→l.getD j default=rowS p (7 - (j:Int)) 8 0) (s:List UInt8) (n:Int) {q:Pos} (hq:q.board.length=64) :
    ∃ q',lp21_5 l 8 (0,q)=some (.inr (8,false,q'))∧lp21_3 l 8 s n (0,q)=some (.inr (8,false,q'))∧Rd p q q' 0 64:=by
  obtain ⟨q',h1,h2,h3⟩:=ranks_all hp hm hbit hl8 hl s n 8 0 q (by omega) hq
  exact ⟨q',itl_mono (n:=9) (by unfold many; omega) h1,itl_mono (n:=9) (by unfold many; omega) h2,h3⟩
end Kz
end
section
namespace Kz
open Go Go.RowKit Go.Proofs
set_option maxRecDepth 100000
set_option maxHeartbeats 4000000
noncomputable def K42:List (Nat×Nat×List (Nat×List Nat)):=[(42,9,[(0,[0]),(1,[2])])]
noncomputable def B42:Base:=baseOf Pz (fun f i=>lkC f i K42) [] [] []
theorem hB42:BOk B42:=base_ok named_z trivial trivial trivial
noncomputable def N42 (a:Int):Bool:=(bif decide (a ≥ 0) then (decide (a < 64)) else (false))
noncomputable def ok42 (a:Int):Bool:=true
theorem P42 (a:Int) (h:ok42 a=true):PS Pz 42 [.int .i64 a] (dB.res (N42 a)):=ps_sum (n:=14) hB42 (by kernel_rfl) (by kernel_rfl) (by kernel_rfl) h
noncomputable def G42:List AV→Tr AV:=g1 (dI .i64) (fun a=>.ret (dB.res (N42 a)))
theorem s42:Sound Pz 42 G42:=sound1 fun a=>at_rt (P42 a rfl)
noncomputable def K16:List (Nat×Nat×List (Nat×List Nat)):=[(16,22,[(0,[1,2,3,6]),(1,[1,2,3,6,16]),(2,[3,6]),(3,[6])])]
noncomputable def B16:Base:=baseOf Pz (fun f i=>lkC f i K16) [(15,G15),(42,G42)] [] []
theorem hB16:BOk B16:=base_ok named_z ⟨s15,s42,trivial⟩ trivial trivial
noncomputable def N16 (a:Pos) (b:Int) (c:Int):Pos:=(bif N42 b then (bif c==0 then ⟨(a.variant),(a.board.set (scale 1 b).toNat c),(a.promoted),(a.pockets),(a.turn),(a.rooks),(a.passing),(a.checks),(a.half),(a.full)⟩ else (bif N15 c then ⟨(a.variant),(a.board.set (scale 1 b).toNat c),(a.promoted),(a.pockets),(a.turn),(a.rooks),(a.passing),(a.checks),(a.half),(a.full)⟩ else ⟨(a.variant),(a.board),(a.promoted),(a.pockets),(a.turn),(a.rooks),(a.passing),(a.checks),(a.half),(a.full)⟩)) else ⟨(a.variant),(a.board),(a.promoted),(a.pockets),(a.turn),(a.rooks),(a.passing),(a.checks),(a.half),(a.full)⟩)
noncomputable def ok16 (a:Pos) (b:Int) (c:Int):Bool:=(ok42 b&&(bif N42 b then (bif c==0 then (decide (0≤b)&&decide (b < Int.ofNat 64)&&true) else (bif N15 c then (decide (0≤b)&&decide (b < Int.ofNat 64)&&true) else true)) else true))
theorem P16 (a:Pos) (b:Int) (c:Int) (h:ok16 a b c=true):PS Pz 16 [Pos.av a,.int .i64 b,.int .u8 c] (dPos.res (N16 a b c)):=ps_sum (n:=14) hB16 (by kernel_rfl) (by kernel_rfl) (by kernel_rfl) h
noncomputable def G16:List AV→Tr AV:=g3 dPos (dI .i64) (dI .u8) (fun a b c=>gdv (ok16 a b c) (dPos.res (N16 a b c)))
theorem s16:Sound Pz 16 G16:=sound3 fun a b c=>at_gd (P16 a b c)
noncomputable def K7:List (Nat×Nat×List (Nat×List Nat)):=[(7,77,[(0,[1,2,3]),(1,[1,2,3,10]),(2,[6]),(3,[1,2,3,36]),(4,[6]),(5,[7,8]),(6,[7,8,49]),(7,[6]),(8,[6])])]
noncomputable def B7:Base:=baseOf Pz (fun f i=>lkC f i K7) [(11,G11),(12,G12),(15,G15),(16,G16),(17,G17)] [] []
theorem hB7:BOk B7:=base_ok named_z ⟨s11,s12,s15,s16,s17,trivial⟩ trivial trivial
noncomputable def N7 (a:Pos) (b:Int) (c:Int):Bool:=(bif !true then (false) else (bif eqOut BinOp.neq (a.rooks==li [-1,-1,-1,-1]&&true) then (true) else (bif !N15 c then (true) else (bif decide (b < 0) then (true) else (bif decide (b > 63) then (true) else (bif a.board.getD (scale 1 b).toNat 0 != 0 then (true) else (bif N12 a==(ByteArray.mk #[]).data.toList then (bif N12 a==(ByteArray.mk #[]).data.toList then (true) else (decide (Int.ofNat (N12 a).length > 196))) else (bif N12 (N16 a b c)==(ByteArray.mk #[]).data.toList then (bif N12 a==(ByteArray.mk #[]).data.toList then (true) else (decide (Int.ofNat (N12 a).length > 196))) else (bif List.drop (N17 (N12 a)).toNat (List.take (N12 a).length (N12 a))==List.drop (N17 (N12 (N16 a b c))).toNat (List.take (N12 (N16 a b c)).length (N12 (N16 a b c))) then (!List.drop 0 (List.take (N17 (N12 a)).toNat (N12 a))==List.drop 0 (List.take (N17 (N12 (N16 a b c))).toNat (N12 (N16 a b c)))) else (false))))))))))
noncomputable def ok7 (a:Pos) (b:Int) (c:Int):Bool:=(bif !true then true else (bif eqOut BinOp.neq (a.rooks==li [-1,-1,-1,-1]&&true) then true else (bif !N15 c then true else (bif decide (b < 0) then true else (bif decide (b > 63) then true else (decide (0≤b)&&decide (b < Int.ofNat 64)&&(bif a.board.getD (scale 1 b).toNat 0 != 0 then true else (ok12 a&&(ok16 a b c&&(ok12 (N16 a b c)&&(bif N12 a==(ByteArray.mk #[]).data.toList then true else (bif N12 (N16 a b c)==(ByteArray.mk #[]).data.toList then true else (ok17 (N12 a)&&(decide (0≤N17 (N12 a))&&decide (N17 (N12 a)≤Int.ofNat (N12 a).length)&&(ok17 (N12 (N16 a b c))&&(decide (0≤N17 (N12 (N16 a b c)))&&decide (N17 (N12 (N16 a b c))≤Int.ofNat (N12 (N16 a b c)).length)&&(bif List.drop (N17 (N12 a)).toNat (List.take (N12 a).length (N12 a))==List.drop (N17 (N12 (N16 a b c))).toNat (List.take (N12 (N16 a b c)).length (N12 (N16 a b c))) then (ok17 (N12 a)&&(decide (0≤N17 (N12 a))&&decide (N17 (N12 a)≤Int.ofNat (N12 a).length)&&(ok17 (N12 (N16 a b c))&&(decide (0≤N17 (N12 (N16 a b c)))&&decide (N17 (N12 (N16 a b c))≤Int.ofNat (N12 (N16 a b c)).length)&&true)))) else true)))))))))))))))))
theorem P7 (a:Pos) (b:Int) (c:Int) (h:ok7 a b c=true):PS Pz 7 [Pos.av a,.int .i64 b,.int .u8 c] (dB.res (N7 a b c)):=ps_sum (n:=14) hB7 (by kernel_rfl) (by kernel_rfl) (by kernel_rfl) h
noncomputable def G7:List AV→Tr AV:=g3 dPos (dI .i64) (dI .u8) (fun a b c=>gdv (ok7 a b c) (dB.res (N7 a b c)))
theorem s7:Sound Pz 7 G7:=sound3 fun a b c=>at_gd (P7 a b c)
end Kz
end
section
namespace Kz
open Go Go.RowKit Go.Proofs
set_option maxRecDepth 100000
structure PutR (p q:Pos) (s0:Int):Prop where
  lo:0≤s0
  hi:s0 < 64
  pr:q.promoted=p.promoted
  e0:atS p s0=0
  man:N96 (atS q s0)=true
  ne:atS q s0≠0
  bit:bitAt p.promoted s0.toNat=false
  same:∀ s:Int,0≤s→s < 64→s≠s0→atS q s=atS p s
variable {p q:Pos} {s0:Int}
theorem row_same (h:PutR p q s0) {r:Int} (r0:0≤r) (r7:r≤7):∀ (k:Nat) (e:Int),k≤8→(s0 < 8 * r+(8 - k)∨8 * r+7 < s0)→rowS q r k e=rowS p r k e
  | 0,e,_,_=>rfl
  | k+1,e,k8,hs=>by
    have e1:atS q (8 * r+(7 - (k:Int)))=atS p (8 * r+(7 - (k:Int))):=h.same _ (by omega) (by omega) (by omega)
    rw [rowS,rowS,e1,row_same h r0 r7 k (e+1) (by omega) (by omega),row_same h r0 r7 k 0 (by omega) (by omega)]
    unfold pieceT
    rw [e1,h.pr]
theorem row_more (hq:PosIn q) (h:PutR p q s0) {r:Int} (r0:0≤r) (r7:r≤7):∀ (k:Nat) (e:Int),k≤8→0≤e→e+k≤8→8 * r+(8 - k)≤s0→s0≤8 * r+7→cntL (rowS q r k e)=cntL (rowS p r k e)+1∧(rowS q r k e).length≤(rowS p r k e).length+2
  | 0,e,_,_,_,h1,h2=>by omega
  | k+1,e,k8,e0,e8,h1,h2=>by
    by_cases hs:s0=8 * r+(7 - (k:Int))
    · have q0:(atS q (8 * r+(7 - (k:Int)))==0)=false:=by rw [← hs]; simpa using h.ne
      have p0:(atS p (8 * r+(7 - (k:Int)))==0)=true:=by rw [← hs]; simpa using h.e0
      rw [rowS,rowS,q0,p0,cond_true,cond_false,row_same h r0 r7 k 0 (by omega) (by omega),← hs]
      have l1:(pieceT q s0).length=1:=by
        unfold pieceT
        rw [h.pr,h.bit,cond_false,List.append_nil]
        exact (let_of (at_in hq s0).1 (at_in hq s0).2 h.man).1
      have c1:=(piece_of hq h.man).1
      have l2:=(fl_of e0 (show e≤8 by omega)).1
      have l3:=row_mono (p:=p) (r:=r) k 0 (e+1) (by omega) (by omega) (by omega)
      have c3:=row_cnt (p:=p) (r:=r) k (e+1) 0 (by omega) (by omega) (by omega) (by omega)
      simp only [cntL_app,List.length_append,cnt_fl e0 (show e≤8 by omega)]
      omega
    · have e1:atS q (8 * r+(7 - (k:Int)))=atS p (8 * r+(7 - (k:Int))):=h.same _ (by omega) (by omega) (by omega)
      have e2:pieceT q (8 * r+(7 - (k:Int)))=pieceT p (8 * r+(7 - (k:Int))):=by
        unfold pieceT
        rw [e1,h.pr]
      rw [rowS,rowS,e1,e2]
      cases (atS p (8 * r+(7 - (k:Int)))==0) with
      | true=>exact row_more hq h r0 r7 k (e+1) (by omega) (by omega) (by omega) (by omega) h2
      | false =>
        have ih:=row_more hq h r0 r7 k 0 (by omega) (by omega) (by omega) (by omega) h2
        simp only [cond_false,cntL_app,List.length_append]
        omega
theorem bd_same (h:PutR p q s0):∀ k:Nat,k≤8→8 * (k:Int)≤s0→bdS q k=bdS p k
  | 0,_,_=>rfl
  | k+1,k8,hs=>by
    rw [bdS,bdS,row_same h (r:=(k:Int)) (by omega) (by omega) 8 0 (by omega) (by omega),bd_same h k (by omega) (by omega)]
theorem bd_more (hq:PosIn q) (h:PutR p q s0):∀ k:Nat,k≤8→s0 < 8 * (k:Int)→cntL (bdS q k)=cntL (bdS p k)+1∧(bdS q k).length≤(bdS p k).length+2
  | 0,_,hs=>by have:=h.lo; omega
  | k+1,k8,hs=>by
    rw [bdS,bdS]
    by_cases hk:8 * (k:Int)≤s0
    · have hr:=row_more hq h (r:=(k:Int)) (by omega) (by omega) 8 0 (by omega) (by omega) (by omega) (by omega) (by omega)
      rw [bd_same h k (by omega) hk]
      simp only [cntL_app,List.length_append]
      omega
    · have hb:=bd_more hq h k (by omega) (by omega)
      rw [row_same h (r:=(k:Int)) (by omega) (by omega) 8 0 (by omega) (by omega)]
      simp only [cntL_app,List.length_append]
      omega
theorem brd_more (hq:PosIn q) (h:PutR p q s0) (hv:q.variant=p.variant) (hk:q.pockets=p.pockets):cntL (brdT q)=cntL (brdT p)+1∧(brdT q).length≤(brdT p).length+2:=by
  have hb:=bd_more hq h 8 (by omega) (by have:=h.hi; omega)
  have pk:∀ n:Nat,pkR q n=pkR p n:=by
    intro n
    induction n with
    | zero=>rfl
    | succ n ih =>
      rw [pkR,pkR,ih]
      unfold pkS
      rw [hk]
  unfold brdT
  rw [hv,pk]
  cases N65 p.variant with
  | true =>
    simp only [cond_true,cntL_app,List.length_append]
    omega
  | false =>
    simp only [cond_false]
    omega
theorem tabM:(List.range 12).all (fun n=>(N97 (N41 ((n / 6:Nat):Int) ((n % 6:Nat):Int))).all (fun b=>b != 32))=true:=by kernel_rfl
theorem rep_no {s:List UInt8} {P:UInt8→Prop} (h:∀ b ∈ s,P b):∀ n:Nat,∀ b ∈ Lib.repeatL s n,P b
  | 0,b,hb=>by cases hb
  | n+1,b,hb=>by
    rw [rep_succ] at hb
    rcases List.mem_append.1 hb with hb | hb
    · exact rep_no h n b hb
    · exact h b hb
theorem pk_no (p:Pos):∀ n:Nat,n≤12→∀ b ∈ pkR p n,b≠32
  | 0,_,b,hb=>by cases hb
  | n+1,hn,b,hb=>by
    rw [pkR] at hb
    rcases List.mem_append.1 hb with hb | hb
    · unfold pkS at hb
      refine rep_no (P:=fun b=>b≠32) (fun x hx => ?_) _ b hb
      have:=List.all_eq_true.1 tabM (11 - n) (List.mem_range.2 (by omega))
      simpa using List.all_eq_true.1 this x hx
    · exact pk_no p n (by omega) b hb
theorem bd_no (hp:PosIn p) (hm:MenOk p):∀ k:Nat,k≤8→∀ b ∈ bdS p k,b≠32
  | 0,_,b,hb=>by cases hb
  | k+1,k8,b,hb=>by
    rw [bdS] at hb
    rcases List.mem_append.1 hb with hb | hb
    · exact (row_no (row_of hp hm (r:=(k:Int)) (by omega) (by omega) 8 0 (by omega) (by omega) (by omega) b hb)).1
    · rcases List.mem_append.1 hb with hb | hb
      · revert hb
        cases decide (0 < k) with
        | true =>
          rw [cond_true,List.mem_singleton]
          rintro rfl
          decide
        | false=>intro hb; cases hb
      · exact bd_no hp hm k (by omega) b hb
theorem brd_no (hp:PosIn p) (hm:MenOk p):∀ b ∈ brdT p,b≠32:=by
  intro b hb
  unfold brdT at hb
  have h8:=bd_no hp hm 8 (by omega)
  revert hb
  cases N65 p.variant with
  | true =>
    rw [cond_true]
    intro hb
    rcases List.mem_append.1 hb with hb | hb
    · exact h8 b hb
    · rcases List.mem_cons.1 hb with rfl | hb
      · decide
      · rcases List.mem_append.1 hb with hb | hb
        · exact pk_no p 12 (by omega) b hb
        · rw [List.mem_singleton] at hb
          subst hb
          decide
  | false=>exact h8 b
noncomputable def tailT (p:Pos):List UInt8:=turnT p++32::(N37 (rkA p)++32::(passT p++32::(checkT p++(itoaL p.half++32::itoaL p.full))))
theorem fenT_tail (p:Pos):fenT p=brdT p++32::tailT p:=rfl
theorem men_of (h:Wr13 p):MenOk p:=by
  obtain ⟨_,_,_,_,_,_,_,_,h,_⟩:=h
  intro s s0 s1 hs
  obtain ⟨n,rfl⟩:=Int.eq_ofNat_of_zero_le s0
  exact (h n (by omega)).1 hs
noncomputable def putP (p:Pos) (b c:Int):Pos:={ p with board:=p.board.set b.toNat c }
theorem at_put (hp:PosIn p) {b c:Int} (b0:0≤b) (b1:b≤63) (s:Int) (s0:0≤s) (s1:s < 64):atS (putP p b c) s=if s=b then c else atS p s:=by
  unfold atS putP
  have hl:=hp.bl
  by_cases h:s=b
  · subst h
    rw [if_pos rfl,List.getD_eq_getElem?_getD,List.getElem?_set_self (by omega)]
    rfl
  · rw [if_neg h,List.getD_eq_getElem?_getD,List.getElem?_set_ne (by omega),List.getD_eq_getElem?_getD]
theorem in_put (hp:PosIn p) {b c:Int} (c0:0≤c) (c1:c≤255):PosIn (putP p b c) :=
  { hp with
    bl:=by unfold putP; rw [List.length_set]; exact hp.bl
    b0:=by
      intro x hx
      unfold putP at hx
      rcases List.mem_or_eq_of_mem_set hx with hx | rfl
      · exact hp.b0 x hx
      · exact ⟨c0,c1⟩ }
theorem N7_true (hp:PosIn p) {b c:Int} (hb : -9223372036854775808≤b∧b≤9223372036854775807) (hc:0≤c∧c≤255):ok7 p b c=true∧N7 p b c=true:=by
  unfold N7 ok7
  rw [show (ByteArray.mk #[]).data.toList=([]:List UInt8) from rfl]
  simp only [Bool.not_true,cond_false]
  cases hr:eqOut BinOp.neq (p.rooks==li [-1,-1,-1,-1]&&true) with
  | true=>exact ⟨rfl,rfl⟩
  | false =>
  simp only [cond_false]
  cases hi:N15 c with
  | false=>exact ⟨rfl,rfl⟩
  | true =>
  simp only [Bool.not_true,cond_false]
  by_cases b0:b < 0
  · rw [decide_eq_true b0]
    exact ⟨rfl,rfl⟩
  by_cases b1:b > 63
  · rw [decide_eq_false b0,decide_eq_true b1]
    exact ⟨rfl,rfl⟩
  rw [decide_eq_false b0,decide_eq_false b1,decide_eq_true (show 0≤b by omega),decide_eq_true (show b < Int.ofNat 64 by show b < 64; omega),scale1]
  simp only [cond_false,Bool.and_self,Bool.true_and]
  by_cases hz:atS p b=0
  case neg =>
    rw [show (p.board.getD b.toNat 0 != 0)=true from bne_iff_ne.2 hz]
    exact ⟨rfl,rfl⟩
  rw [show (p.board.getD b.toNat 0 != 0)=false from bne_eq_false_iff_eq.2 hz]
  simp only [cond_false]
  have hc0:c≠0:=by
    rintro rfl
    exact absurd hi (by decide)
  have h96:N96 c=true:=by
    have:=(letters hc.1 hc.2).2.2.2
    rw [← this,hi]
  have e42:N42 b=true:=by
    unfold N42
    rw [decide_eq_true (show b ≥ 0 by omega),cond_true]
    exact decide_eq_true (by omega)
  have e16:N16 p b c=putP p b c:=by
    unfold N16
    rw [e42,hi,show (c==0)=false by simpa using hc0]
    rfl
  have k16:ok16 p b c=true:=by
    unfold ok16
    rw [e42,hi,show (c==0)=false by simpa using hc0,decide_eq_true (show 0≤b by omega),decide_eq_true (show b < Int.ofNat 64 by show b < 64; omega)]
    rfl
  have hq:=in_put hp (b:=b) hc.1 hc.2
  have hok:=(print_at hp).1
  have hokq:=(print_at hq).1
  rw [e16,k16,hok,hokq]
  simp only [Bool.true_and]
  by_cases hs:N12 p=[]
  · rw [hs]
    exact ⟨rfl,rfl⟩
  rw [show (N12 p==[])=false by simpa using hs]
  simp only [cond_false]
  obtain ⟨hw,ep,hlp⟩:=print_some hp hs
  have R:PutR p (putP p b c) b:=by
    have ha:atS (putP p b c) b=c:=by rw [at_put hp (by omega) (by omega) b (by omega) (by omega),if_pos rfl]
    refine ⟨by omega,by omega,rfl,hz,by rw [ha]; exact h96,by rw [ha]; exact hc0,?_,fun s s0 s1 hne=>by rw [at_put hp (by omega) (by omega) s s0 s1,if_neg hne]⟩
    cases hbit:bitAt p.promoted b.toNat with
    | false=>rfl
    | true =>
      obtain ⟨_,_,_,_,_,_,_,_,h9,_⟩:=hw
      have:=((h9 b.toNat (by omega)).2 hbit).1
      rw [Int.toNat_of_nonneg (by omega)] at this
      exact absurd hz this
  have hwq:Wr13 (putP p b c):=by
    obtain ⟨w1,w2,w3,w4,w5,w6,w7,w8,w9,w10,w11⟩:=hw
    have rk:∀ i:Nat,i < 4→p.rooks.getD i 0 = -1:=by
      have e:p.rooks=[-1,-1,-1,-1]:=by
        have:(p.rooks==li [-1,-1,-1,-1]&&true)=true:=by
          revert hr
          unfold eqOut
          cases (p.rooks==li [-1,-1,-1,-1]&&true) <;> simp
        rw [Bool.and_true,beq_iff_eq] at this
        exact this
      rw [e]
      decide
    refine ⟨w1,w2,w3,w4,w5,w6,w7,w8,fun s hs64 => ?_,⟨w10.1,w10.2.1,w10.2.2.1,.inl ?_,.inl ?_⟩,⟨w11.1,w11.2.1,w11.2.2.1,.inl ?_,.inl ?_⟩⟩
    · by_cases e:(s:Int)=b
      · refine ⟨fun _=>by rw [e]; exact R.man,fun hbit => ?_⟩
        have:s=b.toNat:=by omega
        subst this
        exact absurd (R.bit.symm.trans hbit) (by decide)
      · have e1:atS (putP p b c) (s:Int)=atS p s:=R.same _ (by omega) (by omega) e
        have:=w9 s hs64
        unfold Sq13 at this ⊢
        rw [e1]
        exact this
    · exact rk 0 (by decide)
    · exact rk 1 (by decide)
    · exact rk 2 (by decide)
    · exact rk 3 (by decide)
  have eq1:=(print_at hq).2.1 hwq
  obtain ⟨m1,m2⟩:=brd_more hq R rfl rfl
  have et:tailT (putP p b c)=tailT p:=rfl
  have np:=brd_no hp (men_of hw)
  have nq:=brd_no hq (men_of hwq)
  have lp:=congrArg List.length (fenT_tail p)
  have lq:=congrArg List.length (fenT_tail (putP p b c))
  rw [et] at lq
  simp only [List.length_append,List.length_cons] at lp lq
  by_cases h200:(fenT (putP p b c)).length≤200
  · rw [fin_le h200] at eq1
    obtain ⟨sp,kp⟩:=space_at (t:=tailT p) np (by rw [← fenT_tail]; omega)
    obtain ⟨sq,kq⟩:=space_at (t:=tailT (putP p b c)) nq (by rw [← fenT_tail]; omega)
    rw [← fenT_tail] at sp kp sq kq
    have hne:fenT (putP p b c)≠[]:=by rw [fenT_tail]; simp
    rw [ep,eq1,show (fenT (putP p b c)==[])=false by simpa using hne,kp,kq,sp,sq]
    simp only [cond_false,Bool.true_and,Bool.and_true,List.take_length,Int.toNat_natCast,List.drop_zero]
    have d1:List.drop (brdT p).length (fenT p)=32::tailT p:=by rw [fenT_tail,List.drop_left]
    have d2:List.drop (brdT (putP p b c)).length (fenT (putP p b c))=32::tailT p:=by rw [fenT_tail,List.drop_left,et]
    have t1:List.take (brdT p).length (fenT p)=brdT p:=by rw [fenT_tail,List.take_left]
    have t2:List.take (brdT (putP p b c)).length (fenT (putP p b c))=brdT (putP p b c):=by rw [fenT_tail,List.take_left]
    rw [d1,d2,t1,t2,beq_self_eq_true]
    have hd:(brdT p==brdT (putP p b c))=false:=by
      rw [beq_eq_false_iff_ne]
      intro e
      rw [← e] at m1
      omega
    rw [hd]
    refine ⟨?_,rfl⟩
    have i1:decide (((brdT p).length:Int)≤Int.ofNat (fenT p).length)=true:=decide_eq_true (by show ((brdT p).length:Int)≤((fenT p).length:Int); omega)
    have i2:decide (((brdT (putP p b c)).length:Int)≤Int.ofNat (fenT (putP p b c)).length)=true:=decide_eq_true (by show ((brdT (putP p b c)).length:Int)≤((fenT (putP p b c)).length:Int); omega)
    have i3:decide ((0:Int)≤((brdT p).length:Int))=true:=decide_eq_true (by omega)
    have i4:decide ((0:Int)≤((brdT (putP p b c)).length:Int))=true:=decide_eq_true (by omega)
    rw [i1,i2,i3,i4]
    rfl
  · have e0:N12 (putP p b c)=[]:=by
      rw [eq1]
      unfold fin200
      rw [decide_eq_true (show Int.ofNat (fenT (putP p b c)).length > 200 by show ((fenT (putP p b c)).length:Int) > 200; omega),cond_true]
    rw [e0]
    refine ⟨rfl,?_⟩
    show decide (Int.ofNat (N12 p).length > 196)=true
    rw [ep]
    exact decide_eq_true (by show ((fenT p).length:Int) > 196; omega)
theorem sp1_end {c:UInt8}:∀ {a:List UInt8},(∀ b ∈ a,b≠c)→sp1 c a=[a]
  | [],_=>rfl
  | b::l,h=>by
    unfold sp1
    rw [if_neg (by simpa using h b (List.mem_cons_self ..)),sp1_end fun x hx=>h x (List.mem_cons_of_mem _ hx)]
theorem sp1_part {c:UInt8} (t:List UInt8):∀ {a:List UInt8},(∀ b ∈ a,b≠c)→sp1 c (a++c::t)=a::sp1 c t
  | [],_=>by
    show sp1 c (c::t)=_
    rw [sp1,if_pos (by simp)]
  | b::l,h=>by
    show sp1 c (b::(l++c::t))=_
    rw [sp1,if_neg (by simpa using h b (List.mem_cons_self ..)),sp1_part t fun x hx=>h x (List.mem_cons_of_mem _ hx)]
theorem bd_split {p:Pos} (hp:PosIn p) (hm:MenOk p):∀ k:Nat,k < 8→(sp1 47 (bdS p (k+1))).length=k+1∧∀ j:Nat,j < k+1→(sp1 47 (bdS p (k+1))).getD j default=rowS p ((k:Int) - j) 8 0
  | 0,_=>by
    have hno:∀ b ∈ rowS p ((0:Nat):Int) 8 0,b≠47:=fun b hb=>(row_no (row_of hp hm (by omega) (by omega) 8 0 (by omega) (by omega) (by omega) b hb)).2
    have e:bdS p (0+1)=rowS p ((0:Nat):Int) 8 0:=by
      rw [bdS,bdS]
      exact List.append_nil _
    rw [e,sp1_end hno]
    refine ⟨rfl,fun j hj => ?_⟩
    obtain rfl:j=0:=by omega
    rfl
  | k+1,hk=>by
    have hno:∀ b ∈ rowS p ((k+1:Nat):Int) 8 0,b≠47:=fun b hb=>(row_no (row_of hp hm (by omega) (by omega) 8 0 (by omega) (by omega) (by omega) b hb)).2
    have e:bdS p (k+1+1)=rowS p ((k+1:Nat):Int) 8 0++47::bdS p (k+1):=by
      rw [bdS,decide_eq_true (Nat.succ_pos k)]
      rfl
    obtain ⟨h1,h2⟩:=bd_split hp hm k (by omega)
    rw [e,sp1_part _ hno]
    refine ⟨by rw [List.length_cons,h1],fun j hj => ?_⟩
    match j with
    | 0=>simp
    | j+1 =>
      rw [List.getD_cons_succ,h2 j (by omega)]
      congr 1
      omega
theorem bd_parts {p:Pos} (hp:PosIn p) (hm:MenOk p):(splitV (bdS p 8) [47]).length=8∧∀ j:Nat,j < 8→(splitV (bdS p 8) [47]).getD j default=rowS p (7 - (j:Int)) 8 0 :=
  bd_split hp hm 7 (by omega)
theorem board_ext {p q:Pos} (hp:p.board.length=64) (hq:q.board.length=64) (h:∀ s:Int,0≤s→s < 64→atS q s=atS p s):q.board=p.board:=by
  refine List.ext_getElem (hq.trans hp.symm) fun n h1 h2 => ?_
  have:=h (n:Int) (by omega) (by omega)
  unfold atS at this
  rw [Int.toNat_natCast,List.getD_eq_getElem?_getD,List.getD_eq_getElem?_getD,List.getElem?_eq_getElem h1,List.getElem?_eq_getElem h2] at this
  exact this
theorem bits_ext {x y:BitVec 64} (h:∀ s:Nat,s < 64→bitAt x s=bitAt y s):x=y:=by
  refine BitVec.eq_of_getLsbD_eq fun i hi => ?_
  have:=h i hi
  rw [bit_eq,bit_eq] at this
  exact this
theorem Rd.whole {p q q':Pos} (hp:p.board.length=64) (hq:q.board=List.replicate 64 0) (h0:q.promoted=0) (h:Rd p q q' 0 64):q'=Pos.mk q.variant p.board p.promoted q.pockets q.turn q.rooks q.passing q.checks q.half q.full:=by
  obtain ⟨x1,x2,x3,x4,x5,x6,x7,x8⟩:=h.same
  have b:q'.board=p.board:=by
    refine board_ext hp (h.len.trans (by rw [hq]; rfl)) fun s s0 s1 => ?_
    rw [h.board s s0 s1]
    by_cases c:atS p s=0
    · rw [if_neg (fun h=>h.2.2 c),c]
      unfold atS
      rw [hq,List.getD_eq_getElem?_getD]
      cases hg:(List.replicate 64 (0:Int))[s.toNat]? with
      | none=>rfl
      | some x=>exact List.eq_of_mem_replicate (List.mem_of_getElem? hg)
    · rw [if_pos ⟨s0,s1,c⟩]
  have m:q'.promoted=p.promoted:=by
    refine bits_ext fun s s1 => ?_
    rw [h.bits s s1,decide_eq_true (by omega),Bool.true_and,h0]
    have:bitAt 0 s=false:=by
      rw [bit_eq]
      simp
    rw [this,Bool.false_or]
  cases q'
  dsimp only at *
  subst b m x1 x2 x3 x4 x5 x6 x7 x8
  rfl
theorem tabPk:(List.range 12).all (fun i=>bif i % 6==0 then true else (match N97 (N41 ((i / 6:Nat):Int) ((i % 6:Nat):Int)) with
  | [b]=>decide (b.toNat < 128)&&(N86 [b]).2&&(N82 (N86 [b]).1==((i % 6:Nat):Int))&&(N81 (N86 [b]).1==((i / 6:Nat):Int))&&ok82 (N86 [b]).1&&ok81 (N86 [b]).1&&(b != 91)&&(b != 93)
  | _=>false))=true:=by kernel_rfl
structure PkB (i:Nat) (b:UInt8):Prop where
  lt:b.toNat < 128
  ok:(N86 [b]).2=true
  kind:N82 (N86 [b]).1=((i % 6:Nat):Int)
  side:N81 (N86 [b]).1=((i / 6:Nat):Int)
  k82:ok82 (N86 [b]).1=true
  k81:ok81 (N86 [b]).1=true
  no:b≠91∧b≠93
theorem pk_letter {i:Nat} (h:i < 12) (h0:i % 6≠0):∃ b,N97 (N41 ((i / 6:Nat):Int) ((i % 6:Nat):Int))=[b]∧PkB i b:=by
  have t:=List.all_eq_true.1 tabPk i (List.mem_range.2 h)
  rw [show (i % 6==0)=false by simpa using h0,cond_false] at t
  revert t
  generalize N97 (N41 ((i / 6:Nat):Int) ((i % 6:Nat):Int))=l
  match l with
  | []=>intro t; cases t
  | [b] =>
    intro t
    simp only [Bool.and_eq_true,decide_eq_true_eq,beq_iff_eq,bne_iff_ne] at t
    obtain ⟨⟨⟨⟨⟨⟨⟨t1,t2⟩,t3⟩,t4⟩,t5⟩,t6⟩,t7⟩,t8⟩:=t
    exact ⟨b,rfl,t1,t2,t3,t4,t5,t6,t7,t8⟩
  | _::_::_=>intro t; cases t
noncomputable def F1 (s t:List UInt8) (x:Pos×Int):Stp (Pos×Int) ((Pos×Int) ⊕ (Pos×Int)):=bif okL21_1 s t x then st21_1 s t x else .bad
def pocW (q:Pos) (k:List Int):Pos:=Pos.mk q.variant q.board q.promoted k q.turn q.rooks q.passing q.checks q.half q.full
variable {s t:List UInt8} {q:Pos} {n:Nat}
theorem F1_end (h:n=t.length):F1 s t (q,(n:Int))=.out (.inr (q,(n:Int))):=by
  unfold F1 okL21_1 st21_1
  dsimp only
  have d:decide ((n:Int) < Int.ofNat t.length)=false:=decide_eq_false (by show ¬ (n:Int) < (t.length:Int); omega)
  simp only [d,cond_false,cond_true]
theorem F1_man {K:List Int} {i:Nat} (hi:i < 12) {b:UInt8} (hp:PkB i b) (hn:n < t.length) (hb:t[n]=b) (k0:0≤K.getD i 0) (k1:K.getD i 0+1≤255):F1 s t (pocW q K,(n:Int))=.go (pocW q (K.set i (K.getD i 0+1)),((n+1:Nat):Int)):=by
  obtain ⟨ra,wa⟩:=ascii_at hn (by rw [hb]; exact hp.lt)
  have hx:(scale 6 ((i / 6:Nat):Int)+scale 1 ((i % 6:Nat):Int)).toNat=i:=by
    rw [scale6,scale1]
    omega
  have w8:wr .u8 (K.getD i 0+1)=K.getD i 0+1:=IntWalk.u8_in _ ⟨by omega,by omega⟩
  unfold F1 okL21_1 st21_1
  dsimp only
  rw [ra,wa,enc_at (by rw [hb]; exact hp.lt),(parse_man [t[n]]).1,hb,hp.ok,hp.k82,hp.k81,hp.kind,hp.side,decide_eq_true (show (n:Int) < Int.ofNat t.length by show (n:Int) < (t.length:Int); omega),
    decide_eq_true (show ((i % 6:Nat):Int)≤5 by omega),decide_eq_true (show (0:Int)≤((i % 6:Nat):Int) by omega),decide_eq_true (show (0:Int)≤((i / 6:Nat):Int) by omega),decide_eq_true (show ((i / 6:Nat):Int) < Int.ofNat 2 by show ((i / 6:Nat):Int) < 2; omega),decide_eq_true (show ((i % 6:Nat):Int) < Int.ofNat 6 by show ((i % 6:Nat):Int) < 6; omega),hx]
  show Stp.go (pocW q (K.set i (wr .u8 (K.getD i 0+1))),(n:Int)+1)=_
  rw [w8]
  rfl
theorem pk_run {i:Nat} (hi:i < 12) {b:UInt8} (hp:PkB i b) {r:(Pos×Int) ⊕ (Pos×Int)} {N:Nat} {rest:List UInt8}:∀ (m:Nat) (pre:List UInt8) (K:List Int),K.length=12→t=pre++(Lib.repeatL [b] m++rest)→0≤K.getD i 0→K.getD i 0+m≤255 →
    itl (F1 s t) N (pocW q (K.set i (K.getD i 0+m)),(((pre++Lib.repeatL [b] m).length:Nat):Int))=some r→itl (F1 s t) (N+m) (pocW q K,((pre.length:Nat):Int))=some r
  | 0,pre,K,hK,ht,h0,h1,h=>by
    have e:K.set i (K.getD i 0+((0:Nat):Int))=K:=by
      rw [show K.getD i 0+((0:Nat):Int)=K[i]'(by omega) by rw [List.getD_eq_getElem?_getD,List.getElem?_eq_getElem (by omega)]; simp]
      exact List.set_getElem_self _
    rw [e] at h
    rw [show Lib.repeatL [b] 0=[] from rfl,List.append_nil] at h
    exact h
  | m+1,pre,K,hK,ht,h0,h1,h=>by
    have ht':t=(pre++[b])++(Lib.repeatL [b] m++rest):=by
      rw [ht]
      show pre++([b]++Lib.repeatL [b] m++rest)=_
      simp only [List.append_assoc]
    have hn:pre.length < t.length:=by rw [ht']; simp
    have hb:t[pre.length]=b:=by
      have g:t[pre.length]?=some b:=by
        rw [ht',List.append_assoc,List.getElem?_append_right (Nat.le_refl _),Nat.sub_self]
        rfl
      exact (List.getElem?_eq_some_iff.1 g).2
    have g1:(K.set i (K.getD i 0+1)).getD i 0=K.getD i 0+1:=by
      rw [List.getD_eq_getElem?_getD,List.getElem?_set_self (by omega)]
      rfl
    have st:=F1_man (s:=s) (q:=q) hi hp hn hb h0 (by omega)
    have ih:=pk_run hi hp (r:=r) (N:=N) (rest:=rest) m (pre++[b]) (K.set i (K.getD i 0+1)) (by rw [List.length_set]; exact hK) ht' (by rw [g1]; omega) (by rw [g1]; omega) (by
      rw [g1,List.set_set]
      rw [show K.getD i 0+1+(m:Int)=K.getD i 0+((m+1:Nat):Int) by omega]
      rw [show pre++[b]++Lib.repeatL [b] m=pre++Lib.repeatL [b] (m+1) by
        show _=pre++([b]++Lib.repeatL [b] m)
        rw [List.append_assoc]]
      exact h)
    rw [show N+(m+1)=N+m+1 by omega]
    refine itl_go st ?_
    rw [List.length_append] at ih
    exact ih
theorem pk_read {p:Pos} (hp:PosIn p) (h00:p.pockets.getD 0 0=0) (h06:p.pockets.getD 6 0=0):∀ (j:Nat) (pre:List UInt8) (K:List Int),j≤12→K.length=12→(∀ i:Nat,12 - j≤i→i < 12→K.getD i 0=0)→t=pre++pkR p j →
    ∃ N K',N≤256 * j+1∧itl (F1 s t) N (pocW q K,((pre.length:Nat):Int))=some (.inr (pocW q K',(t.length:Int)))∧K'.length=12∧∀ i:Nat,i < 12→K'.getD i 0=if 12 - j≤i then p.pockets.getD i 0 else K.getD i 0
  | 0,pre,K,hj,hK,hz,ht=>by
    rw [pkR,List.append_nil] at ht
    subst ht
    exact ⟨1,K,by omega,itl_out (F1_end rfl),hK,fun i hi=>by rw [if_neg (by omega)]⟩
  | j+1,pre,K,hj,hK,hz,ht=>by
    rw [pkR] at ht
    have hi:11 - j < 12:=by omega
    have hin:=pk_in hp (11 - j)
    have hzi:=hz (11 - j) (by omega) hi
    have ht':t=(pre++pkS p (11 - j))++pkR p j:=by rw [ht,List.append_assoc]
    by_cases h6:(11 - j) % 6=0
    · have hn0:p.pockets.getD (11 - j) 0=0:=by
        rcases (show 11 - j=0∨11 - j=6 by omega) with h | h
        · rw [h]; exact h00
        · rw [h]; exact h06
      have he:pkS p (11 - j)=[]:=by
        unfold pkS
        rw [hn0]
        rfl
      rw [he,List.append_nil] at ht'
      obtain ⟨N,K',g1,g2,g3,g4⟩:=pk_read hp h00 h06 j pre K (by omega) hK (fun i a b=>hz i (by omega) b) ht'
      refine ⟨N,K',by omega,g2,g3,fun i hi => ?_⟩
      rw [g4 i hi]
      by_cases c:12 - j≤i
      · rw [if_pos c,if_pos (by omega)]
      · rw [if_neg c]
        by_cases c2:12 - (j+1)≤i
        · obtain rfl:i=11 - j:=by omega
          rw [if_pos c2,hzi,hn0]
        · rw [if_neg c2]
    · obtain ⟨b,hb,hB⟩:=pk_letter hi h6
      have he:pkS p (11 - j)=Lib.repeatL [b] (p.pockets.getD (11 - j) 0).toNat:=by
        unfold pkS
        rw [hb]
      have hset:∀ i:Nat,i < 12→(K.set (11 - j) (K.getD (11 - j) 0+((p.pockets.getD (11 - j) 0).toNat:Int))).getD i 0=if i=11 - j then p.pockets.getD i 0 else K.getD i 0:=by
        intro i hi'
        by_cases c:i=11 - j
        · subst c
          rw [if_pos rfl,List.getD_eq_getElem?_getD,List.getElem?_set_self (by omega),hzi]
          show (0:Int)+_=_
          omega
        · rw [if_neg c,List.getD_eq_getElem?_getD,List.getElem?_set_ne (by omega),← List.getD_eq_getElem?_getD]
      obtain ⟨N,K',g1,g2,g3,g4⟩:=pk_read hp h00 h06 j (pre++pkS p (11 - j)) (K.set (11 - j) (K.getD (11 - j) 0+((p.pockets.getD (11 - j) 0).toNat:Int))) (by omega) (by rw [List.length_set]; exact hK) (fun i a b=>by
        rw [hset i b,if_neg (by omega)]
        exact hz i (by omega) b) ht'
      rw [he] at g2 ht
      refine ⟨N+(p.pockets.getD (11 - j) 0).toNat,K',by omega,pk_run hi hB _ pre K hK ht (by omega) (by omega) g2,g3,fun i hi' => ?_⟩
      rw [g4 i hi',hset i hi']
      by_cases c:12 - j≤i
      · rw [if_pos c,if_pos (by omega)]
      · rw [if_neg c]
        by_cases c2:12 - (j+1)≤i
        · rw [if_pos (by omega),if_pos c2]
        · rw [if_neg (by omega),if_neg c2]
theorem pk_lp {p:Pos} (hp:PosIn p) (h00:p.pockets.getD 0 0=0) (h06:p.pockets.getD 6 0=0) (hl:p.pockets.length=12) (hq:q.pockets=List.replicate 12 0) :
    lp21_1 s (pkR p 12) (q,0)=some (.inr (pocW q p.pockets,((pkR p 12).length:Int))):=by
  obtain ⟨N,K',g1,g2,g3,g4⟩:=pk_read (s:=s) (q:=q) hp h00 h06 12 [] (List.replicate 12 0) (by omega) rfl (fun i _ _=>by
    rw [List.getD_eq_getElem?_getD]
    cases hg:(List.replicate 12 (0:Int))[i]? with
    | none=>rfl
    | some x=>exact List.eq_of_mem_replicate (List.mem_of_getElem? hg)) (t:=pkR p 12) rfl
  have e:K'=p.pockets:=by
    refine List.ext_getElem (g3.trans hl.symm) fun n h1 h2 => ?_
    have:=g4 n (by omega)
    rw [if_pos (by omega),List.getD_eq_getElem?_getD,List.getD_eq_getElem?_getD,List.getElem?_eq_getElem h1,List.getElem?_eq_getElem h2] at this
    exact this
  subst e
  have eq0:pocW q (List.replicate 12 0)=q:=by
    unfold pocW
    rw [← hq]
  rw [eq0] at g2
  exact itl_mono (n:=N) (by unfold many; omega) g2
theorem idx_part {c:UInt8} (t:List UInt8):∀ {a:List UInt8},(∀ b ∈ a,b≠c)→Lib.index (a++c::t) [c]=(a.length:Int)
  | [],_=>by
    show Lib.index (c::t) [c]=0
    rw [Lib.index,if_pos (by simp)]
  | b::l,h=>by
    show Lib.index (b::(l++c::t)) [c]=_
    have hb:b≠c:=h b (List.mem_cons_self ..)
    rw [Lib.index,if_neg (by simpa using fun e:c=b=>hb e.symm),idx_part t fun x hx=>h x (List.mem_cons_of_mem _ hx),if_neg (by rw [beq_iff_eq]; omega),List.length_cons]
    omega
theorem cut_part {c:UInt8} {a:List UInt8} (t:List UInt8) (h:∀ b ∈ a,b≠c):Lib.cut (a++c::t) [c]=(a,t,true):=by
  unfold Lib.cut
  rw [idx_part t h,if_pos (by omega),Int.toNat_natCast,List.take_left' rfl]
  congr 2
  rw [show a++c::t=(a++[c])++t by simp,List.drop_left' (by simp)]
theorem trim_end {c:UInt8} {a:List UInt8} (h:(a++[c]).length≤1000000):N84 (a++[c]) [c]=a:=by
  have hl:(a++[c]).length=a.length+1:=by simp
  have w:wr .i64 (Int.ofNat (a++[c]).length - Int.ofNat [c].length)=(a.length:Int):=by
    rw [hl]
    show wr .i64 (((a.length+1:Nat):Int) - ((1:Nat):Int))=_
    rw [wi64 (by omega) (by omega)]
    omega
  have s:N143 (a++[c]) [c]=true:=by
    unfold N143
    rw [w,decide_eq_true (show Int.ofNat (a++[c]).length ≥ Int.ofNat [c].length by rw [hl]; show ((a.length+1:Nat):Int) ≥ ((1:Nat):Int); omega),cond_true,Int.toNat_natCast,List.take_length,List.drop_left' rfl,beq_self_eq_true]
  unfold N84 N116
  rw [s,cond_true,w,Int.toNat_natCast,List.take_left' rfl]
  rfl
theorem row_no91 {b:UInt8} (h:isRow b=true):b≠91:=by
  rintro rfl
  exact absurd h (by decide)
theorem bd_no91 {p:Pos} (hp:PosIn p) (hm:MenOk p):∀ k:Nat,k≤8→∀ b ∈ bdS p k,b≠91
  | 0,_,b,hb=>by cases hb
  | k+1,k8,b,hb=>by
    rw [bdS] at hb
    rcases List.mem_append.1 hb with hb | hb
    · exact row_no91 (row_of hp hm (r:=(k:Int)) (by omega) (by omega) 8 0 (by omega) (by omega) (by omega) b hb)
    · rcases List.mem_append.1 hb with hb | hb
      · revert hb
        cases decide (0 < k) with
        | true =>
          rw [cond_true,List.mem_singleton]
          rintro rfl
          decide
        | false=>intro hb; cases hb
      · exact bd_no91 hp hm k (by omega) b hb
theorem men_read {p q:Pos} (hp:PosIn p) (hm:MenOk p) (hbit:∀ s:Nat,s < 64→bitAt p.promoted s=true→atS p s≠0) (hl:p.board.length=64) (hk:p.pockets.length=12) (hz:p.variant≠2→p.pockets=List.replicate 12 0) (h00:p.pockets.getD 0 0=0) (h06:p.pockets.getD 6 0=0)
    (hN:N65 p.variant=(p.variant==2)) (hlen:(brdT p).length≤5000) (qv:q.variant=p.variant) (qb:q.board=List.replicate 64 0) (qm:q.promoted=0) (qk:q.pockets=List.replicate 12 0):vF21_6 (brdT p) q=.inl (Pos.mk p.variant p.board p.promoted p.pockets q.turn q.rooks q.passing q.checks q.half q.full):=by
  obtain ⟨b1,b2⟩:=bd_parts hp hm
  unfold vF21_6
  rw [show (ByteArray.mk #[93]).data.toList=([93]:List UInt8) from rfl,show (ByteArray.mk #[91]).data.toList=([91]:List UInt8) from rfl,show (ByteArray.mk #[47]).data.toList=([47]:List UInt8) from rfl,qv,hN]
  by_cases h2:p.variant=2
  · have e2:(p.variant==2)=true:=by rw [h2]; rfl
    have eb:brdT p=bdS p 8++91::(pkR p 12)++[93]:=by
      unfold brdT
      rw [hN,e2,cond_true]
      simp
    have ht:N84 (brdT p) [93]=bdS p 8++91::pkR p 12:=by
      rw [eb]
      exact trim_end (by rw [← eb]; omega)
    obtain ⟨q',r1,r2,r3⟩:=ranks_lp hp hm hbit b1 b2 (pkR p 12) ((pkR p 12).length:Int) (q:=pocW q p.pockets) (by show q.board.length=64; rw [qb]; rfl)
    have e8:Int.ofNat (splitV (bdS p 8) [47]).length=8:=by rw [b1]; rfl
    rw [e2,cond_true,ht,cut_part _ (bd_no91 hp hm 8 (by omega))]
    dsimp only
    rw [pk_lp (s:=bdS p 8) (q:=q) hp h00 h06 hk qk,e8]
    simp only [Option.getD_some]
    show (bif isL ((lp21_3 (splitV (bdS p 8) [47]) 8 (pkR p 12) ((pkR p 12).length:Int) (0,pocW q p.pockets)).getD default) then (.inr (gl ((lp21_3 (splitV (bdS p 8) [47]) 8 (pkR p 12) ((pkR p 12).length:Int) (0,pocW q p.pockets)).getD default))) else (.inl ((gr ((lp21_3 (splitV (bdS p 8) [47]) 8 (pkR p 12) ((pkR p 12).length:Int) (0,pocW q p.pockets)).getD default)).2.2)):Pos ⊕ Pos)=_
    rw [r2]
    show (Sum.inl q':Pos ⊕ Pos)=_
    rw [r3.whole (q:=pocW q p.pockets) hl qb qm]
    show (Sum.inl (Pos.mk q.variant p.board p.promoted p.pockets q.turn q.rooks q.passing q.checks q.half q.full):Pos ⊕ Pos)=_
    rw [qv]
  · have e2:(p.variant==2)=false:=by simpa using h2
    have eb:brdT p=bdS p 8:=by
      unfold brdT
      rw [hN,e2,cond_false]
    obtain ⟨q',r1,r2,r3⟩:=ranks_lp hp hm hbit b1 b2 [] 0 (q:=q) (by rw [qb]; rfl)
    have e8:Int.ofNat (splitV (bdS p 8) [47]).length=8:=by rw [b1]; rfl
    rw [e2,cond_false,eb,e8,r1]
    show (Sum.inl q':Pos ⊕ Pos)=_
    rw [r3.whole hl qb qm,qv,qk,hz h2]
theorem turn_read {p q:Pos} (t:p.turn=0∨p.turn=1) (h:q.turn=0):vF21_7 (turnT p) q=.inl (Pos.mk q.variant q.board q.promoted q.pockets p.turn q.rooks q.passing q.checks q.half q.full):=by
  unfold turnT
  rcases t with t | t
  · rw [t]
    cases q
    dsimp only at h
    subst h
    rfl
  · rw [t]
    rfl
theorem tabPass:(List.range 64).all (fun n=>(N58 (n:Int) != [45])&&(N88 (N58 (n:Int))==((n:Int),true)))=true:=by kernel_rfl
theorem pass_read {p q:Pos} (h0 : -1≤p.passing) (h1:p.passing≤63):vF21_10 (passT p) q=.inl (Pos.mk q.variant q.board q.promoted q.pockets q.turn q.rooks p.passing q.checks q.half q.full):=by
  unfold passT
  by_cases h:p.passing < 0
  · rw [decide_eq_true h,cond_true,show p.passing = -1 by omega]
    rfl
  · rw [decide_eq_false h,cond_false]
    have t:=tab_at tabPass (show 0≤p.passing by omega) (by omega)
    rw [Int.toNat_of_nonneg (by omega)] at t
    simp only [Bool.and_eq_true,beq_iff_eq,bne_iff_ne] at t
    obtain ⟨t1,t2⟩:=t
    unfold vF21_10
    rw [t2,show (N58 p.passing==(ByteArray.mk #[45]).data.toList)=false from beq_eq_false_iff_ne.2 t1]
    show (Sum.inl _:Pos ⊕ Pos)=_
    rw [show wr .i8 p.passing=p.passing from IntWalk.i8_in _ ⟨by omega,by omega⟩]
theorem check_read {q:Pos} {a b:Int} (a0:0≤a) (a3:a≤3) (b0:0≤b) (b3:b≤3) (h:q.checks=[0,0]):vF21_12 (43::(itoaL a++43::itoaL b)) q=.inl (Pos.mk q.variant q.board q.promoted q.pockets q.turn q.rooks q.passing [a,b] q.half q.full):=by
  have run:∀ x:List UInt8,∀ r,itl (fun x'=>bif okL21_11 x x' then st21_11 x x' else .bad) 3 (0,q)=some (.inr r)→x.length=4→vF21_12 x q=.inl r.2.2:=by
    intro x r hr hx
    have e:lp21_11 x (0,q)=some (.inr r):=itl_mono (n:=3) (by unfold many; omega) hr
    unfold vF21_12
    rw [e,hx]
    rfl
  cases q
  dsimp only at h
  subst h
  rcases (show a=0∨a=1∨a=2∨a=3 by omega) with rfl | rfl | rfl | rfl <;> rcases (show b=0∨b=1∨b=2∨b=3 by omega) with rfl | rfl | rfl | rfl <;> exact run _ (2,false,_) rfl rfl
theorem tabNum:(List.range 10001).all (fun n=>okAtoi (itoaL (n:Int))&&(atoiV (itoaL (n:Int))==(n:Int)))=true:=by kernel_rfl
theorem num_read {n:Int} (h0:0≤n) (h1:n≤10000):okAtoi (itoaL n)=true∧atoiV (itoaL n)=n:=by
  have t:=tab_at tabNum h0 (by omega)
  rw [Int.toNat_of_nonneg h0] at t
  simp only [Bool.and_eq_true,beq_iff_eq] at t
  exact t
theorem half_read {q:Pos} {n:Int} (h0:0≤n) (h1:n≤10000):vF21_13 (itoaL n) q=.inl (Pos.mk q.variant q.board q.promoted q.pockets q.turn q.rooks q.passing q.checks n q.full):=by
  obtain ⟨a,b⟩:=num_read h0 h1
  unfold vF21_13
  rw [a,b]
  rfl
theorem full_read {q:Pos} {n:Int} (h0:0≤n) (h1:n≤10000):vF21_14 (itoaL n) q=.inl (Pos.mk q.variant q.board q.promoted q.pockets q.turn q.rooks q.passing q.checks q.half n):=by
  obtain ⟨a,b⟩:=num_read h0 h1
  unfold vF21_14
  rw [a,b]
  rfl
theorem n66_of {p:Pos} (hp:PosIn p) {c d v:Int} (hc:c=0∨c=1) (hd:d=0∨d=1) (h:N57 p c d v=true):N66 p c v=(d,true)∧0≤v∧v≤7:=by
  have hk:N104 p c=N93 p c 6:=least_uniq (N44_least hp hc).1 (N58_least hp hc).1
  have hl:=(N58_least hp hc).1
  unfold N57 at h
  unfold N66 N105
  rw [hk]
  generalize N93 p c 6=k at h hl
  by_cases v0:v < 0
  · rw [decide_eq_true v0] at h; cases h
  rw [decide_eq_false v0,cond_false] at h
  by_cases v7:v > 7
  · rw [decide_eq_true v7] at h; cases h
  rw [decide_eq_false v7,cond_false] at h
  by_cases k0:k < 0
  · rw [decide_eq_true k0] at h; cases h
  rw [decide_eq_false k0,cond_false] at h
  have k63:k≤63:=by
    rcases hl with ⟨rfl,_⟩ | ⟨_,h2,_⟩
    · exact absurd (show (-1:Int) < 0 by decide) k0
    · exact h2
  have t:=tab_at tab33 (show 0≤k by omega) (by omega)
  rw [Int.toNat_of_nonneg (by omega)] at t
  simp only [Bool.and_eq_true,beq_iff_eq] at t
  obtain ⟨⟨⟨⟨⟨t1,t2⟩,_⟩,_⟩,_⟩,_⟩:=t
  rw [decide_eq_false k0,cond_false,t1,t2]
  refine ⟨?_,by omega,by omega⟩
  cases hr:(N94 k != wr .i64 (7 * wr .i64 c)) with
  | true=>rw [hr] at h; cases h
  | false =>
    rw [hr,cond_false] at h
    rw [cond_false]
    rcases hd with rfl | rfl
    · rw [show ((0:Int)==0)=true from rfl,cond_true,decide_eq_true_eq] at h
      rw [show (v==N95 k)=false by rw [beq_eq_false_iff_ne]; omega,cond_false,decide_eq_true (show v > N95 k by omega),cond_true]
    · rw [show ((1:Int)==0)=false from rfl,cond_false,decide_eq_true_eq] at h
      rw [show (v==N95 k)=false by rw [beq_eq_false_iff_ne]; omega,cond_false,decide_eq_false (show ¬ v > N95 k by omega),cond_false]
theorem n66_board {p q:Pos} (h:q.board=p.board) (c v:Int):N66 q c v=N66 p c v∧ok66 q c v=ok66 p c v:=by
  unfold N66 ok66 N104 ok104
  rw [h]
  exact ⟨rfl,rfl⟩
noncomputable def F8 (t:List UInt8) (x:Pos×Int):Stp (Pos×Int) ((Pos×Int) ⊕ (Pos×Int)):=bif okL21_8 t x then st21_8 t x else .bad
def rokW (q:Pos) (l:List Int):Pos:=Pos.mk q.variant q.board q.promoted q.pockets q.turn l q.passing q.checks q.half q.full
variable {t:List UInt8} {q:Pos} {n:Nat}
theorem F8_end (h:n=t.length):F8 t (q,(n:Int))=.out (.inr (q,(n:Int))):=by
  unfold F8 okL21_8 st21_8
  dsimp only
  have d:decide ((n:Int) < Int.ofNat t.length)=false:=decide_eq_false (by show ¬ (n:Int) < (t.length:Int); omega)
  simp only [d,cond_false,cond_true]
theorem letter_code {c d v:Int} (hc:c=0∨c=1) (hd:d=0∨d=1) (h0:0≤v) (h1:v≤7):∃ b:UInt8,rkT c d v=[b]∧b.toNat < 128∧b.toNat=(if d=0∧v=7 then 75 else if d=1∧v=0 then 81 else 65+v.toNat)+(if c=1 then 32 else 0):=by
  refine ⟨_,by unfold rkT; rw [if_neg (by omega)],?_,?_⟩ <;> rw [UInt8.toNat_ofNat'] <;> split <;> split <;> (try split) <;> (try omega)
theorem F8_rook {c d v:Int} (hc:c=0∨c=1) (hd:d=0∨d=1) (v0:0≤v) (v7:v≤7) {b:UInt8} (hb:rkT c d v=[b]) (b128:b.toNat < 128) (hn:n < t.length) (ht:t[n]=b) {r0 r1 r2 r3:Int} (h66:N66 (rokW q [r0,r1,r2,r3]) c v=(d,true)) (k66:ok66 (rokW q [r0,r1,r2,r3]) c v=true) :
    F8 t (rokW q [r0,r1,r2,r3],(n:Int))=.go (rokW q ([r0,r1,r2,r3].set (2 * c+d).toNat v),((n+1:Nat):Int)):=by
  obtain ⟨ra,wa⟩:=ascii_at hn (by rw [ht]; exact b128)
  have hl:decide ((n:Int) < Int.ofNat t.length)=true:=decide_eq_true (by show (n:Int) < (t.length:Int); omega)
  unfold F8 okL21_8 st21_8
  dsimp only
  rw [ra,wa,ht,hl,cond_true,cond_true]
  generalize hx:rokW q [r0,r1,r2,r3]=x at h66 k66 ⊢
  have xr:x.rooks=[r0,r1,r2,r3]:=by rw [← hx]; rfl
  have fin:x.variant=q.variant∧x.board=q.board∧x.promoted=q.promoted∧x.pockets=q.pockets∧x.turn=q.turn∧x.passing=q.passing∧x.checks=q.checks∧x.half=q.half∧x.full=q.full:=by rw [← hx]; exact ⟨rfl,rfl,rfl,rfl,rfl,rfl,rfl,rfl,rfl⟩
  obtain ⟨f1,f2,f3,f4,f5,f6,f7,f8,f9⟩:=fin
  rw [f1,f2,f3,f4,f5,f6,f7,f8,f9,xr]
  generalize N66 x=ro at h66 ⊢
  generalize ok66 x=ko at k66 ⊢
  have key:∀ o,(bif (ko c v&&(bif !(ro c v).2 then true else (decide (0≤(ro c v).1)&&decide ((ro c v).1 < Int.ofNat 2)&&true))) then (bif !(ro c v).2 then Stp.out o else Stp.go (rokW q (List.take (2 * c).toNat [r0,r1,r2,r3]++(List.take 2 (List.drop (2 * c).toNat [r0,r1,r2,r3])).set (scale 1 (ro c v).1).toNat v++List.drop (2 * c+2).toNat [r0,r1,r2,r3]),(n:Int)+1)) else .bad)=(Stp.go (rokW q ([r0,r1,r2,r3].set (2 * c+d).toNat v),((n+1:Nat):Int)):Stp (Pos×Int) ((Pos×Int) ⊕ (Pos×Int))):=by
    intro o
    rw [h66,k66]
    rcases hc with rfl | rfl <;> rcases hd with rfl | rfl <;> rfl
  clear h66 k66 xr f1 f2 f3 f4 f5 f6 f7 f8 f9 hx ht hl hn wa ra
  rcases hc with rfl | rfl <;> rcases hd with rfl | rfl <;> rcases (show v=0∨v=1∨v=2∨v=3∨v=4∨v=5∨v=6∨v=7 by omega) with rfl | rfl | rfl | rfl | rfl | rfl | rfl | rfl <;>
    (obtain rfl:_=b:=(List.cons.inj hb).1
     exact key _)
variable {t:List UInt8} {q:Pos}
theorem ok66_of {p:Pos} (hp:PosIn p) {c:Int} (hc:c=0∨c=1) (v:Int):ok66 p c v=true:=by
  obtain ⟨hl,hk⟩:=N44_least hp hc
  unfold ok66
  rw [hk,Bool.true_and]
  generalize N104 p c=k at hl
  by_cases k0:k < 0
  · rw [decide_eq_true k0]; rfl
  rw [decide_eq_false k0,cond_false]
  have k63:k≤63:=by
    rcases hl with ⟨rfl,_⟩ | ⟨_,h2,_⟩
    · exact absurd (show (-1:Int) < 0 by decide) k0
    · exact h2
  have t:=tab_at tab33 (show 0≤k by omega) (by omega)
  rw [Int.toNat_of_nonneg (by omega)] at t
  simp only [Bool.and_eq_true,beq_iff_eq] at t
  obtain ⟨⟨⟨⟨⟨t1,t2⟩,t3⟩,t4⟩,_⟩,_⟩:=t
  rw [t3,t4,show ok105 c=true by rcases hc with rfl | rfl <;> rfl]
  cases (N77 k != N105 c) <;> cases (v==N76 k) <;> rfl
theorem rk_step {p:Pos} (hp:PosIn p) {c d v:Int} (hc:c=0∨c=1) (hd:d=0∨d=1) (hv:v = -1∨N57 p c d v=true) (hq:q.board=p.board) {r0 r1 r2 r3:Int} (hl:[r0,r1,r2,r3].set (2 * c+d).toNat (-1)=[r0,r1,r2,r3]) {pre rest:List UInt8} (ht:t=pre++(rkT c d v++rest)) {N:Nat} {r:(Pos×Int) ⊕ (Pos×Int)}
    (h:itl (F8 t) N (rokW q ([r0,r1,r2,r3].set (2 * c+d).toNat v),(((pre++rkT c d v).length:Nat):Int))=some r):itl (F8 t) (N+1) (rokW q [r0,r1,r2,r3],((pre.length:Nat):Int))=some r:=by
  rcases hv with rfl | hv
  · rw [show rkT c d (-1)=[] from rfl,List.append_nil,hl] at h
    exact itl_mono (Nat.le_succ _) h
  · obtain ⟨h66,v0,v7⟩:=n66_of hp hc hd hv
    obtain ⟨b,hb,b128,_⟩:=letter_code hc hd v0 v7
    have hn:pre.length < t.length:=by rw [ht,hb]; simp
    have hg:t[pre.length]=b:=by
      have g:t[pre.length]?=some b:=by
        rw [ht,hb,List.getElem?_append_right (Nat.le_refl _),Nat.sub_self]
        rfl
      exact (List.getElem?_eq_some_iff.1 g).2
    obtain ⟨e1,e2⟩:=n66_board (p:=p) (q:=rokW q [r0,r1,r2,r3]) hq c v
    rw [hb,List.length_append] at h
    exact itl_go (F8_rook (q:=q) hc hd v0 v7 hb b128 hn hg (e1.trans h66) (e2.trans (ok66_of hp hc v))) h
theorem rkT_no {c d v:Int} (hc:c=0∨c=1) (hd:d=0∨d=1) (h:v = -1∨(0≤v∧v≤7)):∀ b ∈ rkT c d v,b≠45∧b≠32:=by
  intro b hb
  rcases h with rfl | ⟨v0,v7⟩
  · cases hb
  · obtain ⟨b',e,_,hc'⟩:=letter_code hc hd v0 v7
    rw [e,List.mem_singleton] at hb
    subst hb
    have:65≤b.toNat:=by rw [hc']; split <;> split <;> (try split) <;> omega
    exact ⟨fun e=>by rw [e] at this; exact absurd this (by decide),fun e=>by rw [e] at this; exact absurd this (by decide)⟩
theorem rooks_read {p:Pos} (hp:PosIn p) (h:∀ c d:Int,(c=0∨c=1)→(d=0∨d=1)→RkP p c d) (hq:q.board=p.board):vF21_9 (N37 (rkA p)) q=.inl (rokW q p.rooks):=by
  have hv:∀ c d:Int,(c=0∨c=1)→(d=0∨d=1)→∀ b ∈ rkT c d (p.rooks.getD (2 * c+d).toNat 0),b≠45∧b≠32:=by
    intro c d hc hd
    refine rkT_no hc hd ?_
    rcases h c d hc hd with h | h
    · exact .inl h
    · exact .inr (n66_of hp hc hd h).2
  have s00:=h 0 0 (.inl rfl) (.inl rfl)
  have s01:=h 0 1 (.inl rfl) (.inr rfl)
  have s10:=h 1 0 (.inr rfl) (.inl rfl)
  have s11:=h 1 1 (.inr rfl) (.inr rfl)
  have b00:=hv 0 0 (.inl rfl) (.inl rfl)
  have b01:=hv 0 1 (.inl rfl) (.inr rfl)
  have b10:=hv 1 0 (.inr rfl) (.inl rfl)
  have b11:=hv 1 1 (.inr rfl) (.inr rfl)
  have hl:=hp.rl
  have ea:rkA p=rkT 0 0 (p.rooks.getD 0 0)++(rkT 0 1 (p.rooks.getD 1 0)++(rkT 1 0 (p.rooks.getD 2 0)++rkT 1 1 (p.rooks.getD 3 0))):=by
    unfold rkA rkC
    rw [List.append_assoc]
    rfl
  have er:p.rooks=[p.rooks.getD 0 0,p.rooks.getD 1 0,p.rooks.getD 2 0,p.rooks.getD 3 0]:=by
    revert hl
    generalize p.rooks=l
    match l with
    | [a,b,c,d]=>intro _; rfl
    | [] | [_] | [_,_] | [_,_,_]=>intro h; cases h
    | _::_::_::_::_::_=>intro h; simp at h
  unfold RkP at s00 s01 s10 s11
  change p.rooks.getD 0 0 = -1∨N57 p 0 0 (p.rooks.getD 0 0)=true at s00
  change p.rooks.getD 1 0 = -1∨N57 p 0 1 (p.rooks.getD 1 0)=true at s01
  change p.rooks.getD 2 0 = -1∨N57 p 1 0 (p.rooks.getD 2 0)=true at s10
  change p.rooks.getD 3 0 = -1∨N57 p 1 1 (p.rooks.getD 3 0)=true at s11
  have run:lp21_8 (rkA p) (rokW q [-1,-1,-1,-1],0)=some (.inr (rokW q p.rooks,((rkA p).length:Int))):=by
    refine itl_mono (n:=1+1+1+1+1) (by unfold many; omega) ?_
    refine rk_step (c:=0) (d:=0) hp (.inl rfl) (.inl rfl) s00 hq rfl (pre:=[]) (t:=rkA p) ea ?_
    refine rk_step (c:=0) (d:=1) hp (.inl rfl) (.inr rfl) s01 hq rfl (pre:=[]++rkT 0 0 (p.rooks.getD 0 0)) (rest:=rkT 1 0 (p.rooks.getD 2 0)++rkT 1 1 (p.rooks.getD 3 0)) (by rw [ea,List.nil_append]) ?_
    refine rk_step (c:=1) (d:=0) hp (.inr rfl) (.inl rfl) s10 hq rfl (pre:=[]++rkT 0 0 (p.rooks.getD 0 0)++rkT 0 1 (p.rooks.getD 1 0)) (rest:=rkT 1 1 (p.rooks.getD 3 0)) (by rw [ea,List.nil_append,List.append_assoc]) ?_
    refine rk_step (c:=1) (d:=1) hp (.inr rfl) (.inr rfl) s11 hq rfl (pre:=[]++rkT 0 0 (p.rooks.getD 0 0)++rkT 0 1 (p.rooks.getD 1 0)++rkT 1 0 (p.rooks.getD 2 0)) (rest:=[]) (by rw [ea,List.nil_append,List.append_assoc,List.append_assoc,List.append_nil]) ?_
    have el:[]++rkT 0 0 (p.rooks.getD 0 0)++rkT 0 1 (p.rooks.getD 1 0)++rkT 1 0 (p.rooks.getD 2 0)++rkT 1 1 (p.rooks.getD 3 0)=rkA p:=by rw [ea,List.nil_append,List.append_assoc,List.append_assoc]
    rw [el]
    have:=itl_out (F8_end (t:=rkA p) (q:=rokW q p.rooks) (n:=(rkA p).length) rfl)
    rw [er] at this ⊢
    exact this
  by_cases h0:rkA p=[]
  · have:∀ x:Int,(x = -1∨(0≤x∧x≤7))→True:=fun _ _=>trivial
    rw [h0] at run
    have e2:=run
    unfold lp21_8 at e2
    have e3:=itl_mono (n:=1) (m:=many) (by unfold many; omega) (itl_out (F8_end (t:=[]) (q:=rokW q [-1,-1,-1,-1]) (n:=0) rfl))
    have e4:some (Sum.inr (rokW q [-1,-1,-1,-1],((0:Nat):Int)):(Pos×Int) ⊕ (Pos×Int))=some (.inr (rokW q p.rooks,(([]:List UInt8).length:Int))):=e3.symm.trans e2
    have e5:=(Prod.mk.inj (Sum.inr.inj (Option.some.inj e4))).1
    rw [h0]
    unfold vF21_9
    rw [← e5]
    rfl
  · have h45:(rkA p==(ByteArray.mk #[45]).data.toList)=false:=by
      rw [beq_eq_false_iff_ne]
      intro e
      have:(45:UInt8) ∈ rkA p:=by rw [e]; exact List.mem_singleton.2 rfl
      rw [ea] at this
      simp only [List.mem_append] at this
      rcases this with h | h | h | h
      · exact (b00 _ h).1 rfl
      · exact (b01 _ h).1 rfl
      · exact (b10 _ h).1 rfl
      · exact (b11 _ h).1 rfl
    have e37:N37 (rkA p)=rkA p:=by
      unfold N37
      rw [show (rkA p==(ByteArray.mk #[]).data.toList)=false from beq_eq_false_iff_ne.2 h0,cond_false]
    rw [e37]
    unfold vF21_9
    rw [h45,cond_false]
    show (bif isL ((lp21_8 (rkA p) (rokW q [-1,-1,-1,-1],0)).getD default) then (.inr ((gl ((lp21_8 (rkA p) (rokW q [-1,-1,-1,-1],0)).getD default)).fst)) else (.inl ((gr ((lp21_8 (rkA p) (rokW q [-1,-1,-1,-1],0)).getD default)).fst)):Pos ⊕ Pos)=_
    rw [run]
    rfl
theorem isL_inl {α β:Type} (a:α):isL (Sum.inl a:α ⊕ β)=true:=rfl
theorem gl_inl {α β:Type} [Inhabited α] (a:α):gl (Sum.inl a:α ⊕ β)=a:=rfl
theorem tabPN:(List.range 64).all (fun n=>(N58 (n:Int)).all (fun b=>b != 32))=true:=by kernel_rfl
theorem pass_no {p:Pos} (h0 : -1≤p.passing) (h1:p.passing≤63):∀ b ∈ passT p,b≠32:=by
  intro b hb
  unfold passT at hb
  by_cases h:p.passing < 0
  · rw [decide_eq_true h,cond_true,List.mem_singleton] at hb
    rw [hb]; decide
  · rw [decide_eq_false h,cond_false] at hb
    have t:=tab_at tabPN (show 0≤p.passing by omega) (by omega)
    rw [Int.toNat_of_nonneg (by omega)] at t
    simpa using List.all_eq_true.1 t b hb
theorem turn_no (p:Pos):∀ b ∈ turnT p,b≠32:=by
  intro b hb
  unfold turnT at hb
  cases h:(p.turn==0) with
  | true=>rw [h,cond_true,List.mem_singleton] at hb; rw [hb]; decide
  | false=>rw [h,cond_false,List.mem_singleton] at hb; rw [hb]; decide
theorem num_no {n:Int} (h0:0≤n) (h1:n≤10000):∀ b ∈ itoaL n,b≠32:=fun _ hb e=>(itoa_no h0 h1).1 (e ▸ hb)
theorem rook_no {p:Pos} (hp:PosIn p) (h:∀ c d:Int,(c=0∨c=1)→(d=0∨d=1)→RkP p c d):∀ b ∈ N37 (rkA p),b≠32:=by
  have hv:∀ c d:Int,(c=0∨c=1)→(d=0∨d=1)→∀ b ∈ rkT c d (p.rooks.getD (2 * c+d).toNat 0),b≠45∧b≠32:=by
    intro c d hc hd
    refine rkT_no hc hd ?_
    rcases h c d hc hd with h | h
    · exact .inl h
    · exact .inr (n66_of hp hc hd h).2
  intro b hb
  unfold N37 at hb
  cases he:(rkA p==(ByteArray.mk #[]).data.toList) with
  | true =>
    rw [he,cond_true] at hb
    rw [show b=45 from List.mem_singleton.1 hb]; decide
  | false =>
    rw [he,cond_false] at hb
    unfold rkA rkC at hb
    simp only [List.mem_append] at hb
    rcases hb with (hb | hb) | (hb | hb)
    · exact (hv 0 0 (.inl rfl) (.inl rfl) b hb).2
    · exact (hv 0 1 (.inl rfl) (.inr rfl) b hb).2
    · exact (hv 1 0 (.inr rfl) (.inl rfl) b hb).2
    · exact (hv 1 1 (.inr rfl) (.inr rfl) b hb).2
def blank (v:Int):Pos:=Pos.mk v (li (List.replicate 64 0)) 0 (li [0,0,0,0,0,0,0,0,0,0,0,0]) 0 (li [0,0,0,0]) 0 (li [0,0]) 0 0
theorem read_back {p:Pos} (hp:PosIn p) (h:Wr13 p):N21 p.variant (fenT p)=(p,0):=by
  have hm:=men_of h
  obtain ⟨v8,t1,pa0,pa1,h0,f0,h1,f1,sq,⟨k0,c0,c5,k00,k01⟩,⟨k1,d0,d5,k10,k11⟩⟩:=h
  have rk:∀ c d:Int,(c=0∨c=1)→(d=0∨d=1)→RkP p c d:=by
    rintro c d (rfl | rfl) (rfl | rfl)
    · exact k00
    · exact k01
    · exact k10
    · exact k11
  obtain ⟨o65,n65⟩:=pockets19 hp.v0 hp.v1
  have hcl:=hp.cl
  have ec:p.checks=[p.checks.getD 0 0,p.checks.getD 1 0]:=by
    revert hcl
    generalize p.checks=l
    match l with
    | [a,b]=>intro _; rfl
    | [] | [_]=>intro h; cases h
    | _::_::_::_=>intro h; simp at h
  have ci0:=ck_in hp 0
  have ci1:=ck_in hp 1
  have pz:∀ i:Nat,i < 12→(p.variant≠2∨i=0∨i=6)→p.pockets.getD i 0=0:=by
    intro i hi hh
    have g:=pk_in hp i
    by_cases hlt:i < 6
    · have:=k0 i hlt
      rw [show ((6:Int) * 0+(i:Int)).toNat=i by omega] at this
      rcases Int.lt_or_le 0 (p.pockets.getD i 0) with q | q
      · have:=this q; omega
      · omega
    · have:=k1 (i - 6) (by omega)
      rw [show ((6:Int) * 1+((i - 6:Nat):Int)).toNat=i by omega] at this
      rcases Int.lt_or_le 0 (p.pockets.getD i 0) with q | q
      · have:=this q; omega
      · omega
  have hz:p.variant≠2→p.pockets=List.replicate 12 0:=by
    intro hv
    refine List.ext_getElem (hp.kl.trans rfl) fun n a b => ?_
    have:=pz n (by rw [hp.kl] at a; exact a) (.inl hv)
    rw [List.getD_eq_getElem?_getD,List.getElem?_eq_getElem a] at this
    rw [List.getElem_replicate]
    exact this
  have e0:=men_read (q:=blank p.variant) hp hm (fun s hs hb=>((sq s hs).2 hb).1) hp.bl hp.kl hz (pz 0 (by omega) (.inr (.inl rfl))) (pz 6 (by omega) (.inr (.inr rfl))) n65 (N7_eq hp o65).2.2 rfl rfl rfl rfl
  have e1:=turn_read (p:=p) (q:=Pos.mk p.variant p.board p.promoted p.pockets 0 [0,0,0,0] 0 [0,0] 0 0) (by have:=hp.t0; omega) rfl
  have e2:=rooks_read (q:=Pos.mk p.variant p.board p.promoted p.pockets p.turn [0,0,0,0] 0 [0,0] 0 0) hp rk rfl
  have e3:=pass_read (p:=p) (q:=Pos.mk p.variant p.board p.promoted p.pockets p.turn p.rooks 0 [0,0] 0 0) pa0 pa1
  have n0:=brd_no hp hm
  have n1:=turn_no p
  have n2:=rook_no hp rk
  have n3:=pass_no pa0 pa1
  have n5:=num_no h0 h1
  have n6:=num_no f0 f1
  change vF21_6 (brdT p) (blank p.variant)=.inl (Pos.mk p.variant p.board p.promoted p.pockets 0 [0,0,0,0] 0 [0,0] 0 0) at e0
  change vF21_7 _ _=.inl (Pos.mk p.variant p.board p.promoted p.pockets p.turn [0,0,0,0] 0 [0,0] 0 0) at e1
  change vF21_9 _ _=.inl (Pos.mk p.variant p.board p.promoted p.pockets p.turn p.rooks 0 [0,0] 0 0) at e2
  change vF21_10 _ _=.inl (Pos.mk p.variant p.board p.promoted p.pockets p.turn p.rooks p.passing [0,0] 0 0) at e3
  by_cases hv:p.variant=5
  · have v5:(p.variant==5)=true:=by rw [hv]; rfl
    have e4:=check_read (q:=Pos.mk p.variant p.board p.promoted p.pockets p.turn p.rooks p.passing [0,0] 0 0) ci0.1 c0 ci1.1 d0 rfl
    change vF21_12 _ _=.inl (Pos.mk p.variant p.board p.promoted p.pockets p.turn p.rooks p.passing [p.checks.getD 0 0,p.checks.getD 1 0] 0 0) at e4
    rw [← ec] at e4
    have e5:=half_read (q:=Pos.mk p.variant p.board p.promoted p.pockets p.turn p.rooks p.passing p.checks 0 0) h0 h1
    have e6:=full_read (q:=Pos.mk p.variant p.board p.promoted p.pockets p.turn p.rooks p.passing p.checks p.half 0) f0 f1
    have n4:∀ b ∈ (43::(itoaL (p.checks.getD 0 0)++43::itoaL (p.checks.getD 1 0)):List UInt8),b≠32:=by
      intro b hb
      simp only [List.mem_cons,List.mem_append] at hb
      rcases hb with rfl | hb | rfl | hb
      · decide
      · exact num_no ci0.1 (by omega) b hb
      · decide
      · exact num_no ci1.1 (by omega) b hb
    have hs:splitV (fenT p) [32]=[brdT p,turnT p,N37 (rkA p),passT p,43::(itoaL (p.checks.getD 0 0)++43::itoaL (p.checks.getD 1 0)),itoaL p.half,itoaL p.full]:=by
      show sp1 32 (fenT p)=_
      have e:fenT p=brdT p++32::(turnT p++32::(N37 (rkA p)++32::(passT p++32::((43::(itoaL (p.checks.getD 0 0)++43::itoaL (p.checks.getD 1 0)))++32::(itoaL p.half++32::itoaL p.full))))):=by
        unfold fenT checkT
        rw [v5,cond_true]
        simp only [List.append_assoc,List.cons_append,List.nil_append]
      rw [e,sp1_part _ n0,sp1_part _ n1,sp1_part _ n2,sp1_part _ n3,sp1_part _ n4,sp1_part _ n5,sp1_end n6]
    have e15:vF21_15 (fenT p) (blank p.variant)=.inl p:=by
      unfold vF21_15
      rw [show (ByteArray.mk #[32]).data.toList=([32]:List UInt8) from rfl,hs]
      simp only [List.getD_cons_zero,List.getD_cons_succ,e0,isL_inl,gl_inl,e1,e2,e3,e4,e5,e6,cond_true]
      rfl
    unfold N21
    rw [v5,cond_true]
    change (bif isL (vF21_15 (fenT p) (blank p.variant)) then ((gl (vF21_15 (fenT p) (blank p.variant)),0):Pos×Int) else _)=_
    rw [e15]
    rfl
  · have v5:(p.variant==5)=false:=by simpa using hv
    have ek:p.checks=[0,0]:=by
      rw [ec]
      have a:p.checks.getD 0 0=0:=by
        rcases Int.lt_or_le 0 (p.checks.getD 0 0) with q | q
        · exact absurd (c5 q) hv
        · omega
      have b:p.checks.getD 1 0=0:=by
        rcases Int.lt_or_le 0 (p.checks.getD 1 0) with q | q
        · exact absurd (d5 q) hv
        · omega
      rw [a,b]
    have e5:=half_read (q:=Pos.mk p.variant p.board p.promoted p.pockets p.turn p.rooks p.passing [0,0] 0 0) h0 h1
    have e6:=full_read (q:=Pos.mk p.variant p.board p.promoted p.pockets p.turn p.rooks p.passing [0,0] p.half 0) f0 f1
    have hs:splitV (fenT p) [32]=[brdT p,turnT p,N37 (rkA p),passT p,itoaL p.half,itoaL p.full]:=by
      show sp1 32 (fenT p)=_
      have e:fenT p=brdT p++32::(turnT p++32::(N37 (rkA p)++32::(passT p++32::(itoaL p.half++32::itoaL p.full)))):=by
        unfold fenT checkT
        rw [v5,cond_false,List.nil_append]
      rw [e,sp1_part _ n0,sp1_part _ n1,sp1_part _ n2,sp1_part _ n3,sp1_part _ n5,sp1_end n6]
    have e16:vF21_16 (fenT p) (blank p.variant)=.inl p:=by
      unfold vF21_16
      rw [show (ByteArray.mk #[32]).data.toList=([32]:List UInt8) from rfl,hs]
      simp only [List.getD_cons_zero,List.getD_cons_succ,e0,isL_inl,gl_inl,e1,e2,e3,e5,e6,cond_true]
      rw [← ek]
      rfl
    unfold N21
    rw [v5,cond_false]
    change (bif isL (vF21_16 (fenT p) (blank p.variant)) then ((gl (vF21_16 (fenT p) (blank p.variant)),0):Pos×Int) else _)=_
    rw [e16]
    rfl
end Kz
end
section
namespace Kz
open Go Go.RowKit Go.Proofs
set_option maxRecDepth 100000
set_option maxHeartbeats 4000000
noncomputable def K4:List (Nat×Nat×List (Nat×List Nat)):=[(4,61,[(0,[1,2,3]),(1,[1,2,3,13]),(2,[6]),(3,[1,2,3,16]),(4,[6]),(5,[1,2,3,7]),(6,[1,2,3,7,20]),(7,[1,2,3,7,8,9]),(8,[1,2,39]),(9,[6]),(10,[1,2,10,11]),(11,[1,2,10,47]),(12,[6]),(13,[6])])]
noncomputable def B4:Base:=baseOf Pz (fun f i=>lkC f i K4) [(9,G9),(11,G11),(12,G12)] [] []
theorem hB4:BOk B4:=base_ok named_z ⟨s9,s11,s12,trivial⟩ trivial trivial
noncomputable def N4 (a:Pos) (b:Int) (c:List UInt8):Bool:=(bif !true then (false) else (bif decide (Int.ofNat c.length > 5000) then (true) else (bif !N12 a==(ByteArray.mk #[]).data.toList then (bif (N9 a.variant (N12 a)).snd != 0 then (false) else (bif eqOut BinOp.neq ((N9 a.variant (N12 a)).fst.variant==a.variant&&((N9 a.variant (N12 a)).fst.board==a.board&&((N9 a.variant (N12 a)).fst.promoted==a.promoted&&((N9 a.variant (N12 a)).fst.pockets==a.pockets&&((N9 a.variant (N12 a)).fst.turn==a.turn&&((N9 a.variant (N12 a)).fst.rooks==a.rooks&&((N9 a.variant (N12 a)).fst.passing==a.passing&&((N9 a.variant (N12 a)).fst.checks==a.checks&&((N9 a.variant (N12 a)).fst.half==a.half&&((N9 a.variant (N12 a)).fst.full==a.full&&true)))))))))) then (false) else (bif decide (Int.ofNat (N12 a).length > 200) then (false) else (bif (N9 b c).snd != 0 then (eqOut BinOp.eql ((N9 b c).fst.variant==0&&((N9 b c).fst.board==li (List.replicate 64 0)&&((N9 b c).fst.promoted==0&&((N9 b c).fst.pockets==li [0,0,0,0,0,0,0,0,0,0,0,0]&&((N9 b c).fst.turn==0&&((N9 b c).fst.rooks==li [0,0,0,0]&&((N9 b c).fst.passing==0&&((N9 b c).fst.checks==li [0,0]&&((N9 b c).fst.half==0&&((N9 b c).fst.full==0&&true))))))))))) else (bif (N9 b c).fst.variant==b then (N12 (N9 b c).fst==c) else (false)))))) else (bif (N9 b c).snd != 0 then (eqOut BinOp.eql ((N9 b c).fst.variant==0&&((N9 b c).fst.board==li (List.replicate 64 0)&&((N9 b c).fst.promoted==0&&((N9 b c).fst.pockets==li [0,0,0,0,0,0,0,0,0,0,0,0]&&((N9 b c).fst.turn==0&&((N9 b c).fst.rooks==li [0,0,0,0]&&((N9 b c).fst.passing==0&&((N9 b c).fst.checks==li [0,0]&&((N9 b c).fst.half==0&&((N9 b c).fst.full==0&&true))))))))))) else (bif (N9 b c).fst.variant==b then (N12 (N9 b c).fst==c) else (false))))))
noncomputable def ok4 (a:Pos) (b:Int) (c:List UInt8):Bool:=(bif !true then true else (bif decide (Int.ofNat c.length > 5000) then true else (ok12 a&&(bif !N12 a==(ByteArray.mk #[]).data.toList then (ok9 a.variant (N12 a)&&(bif (N9 a.variant (N12 a)).snd != 0 then true else (bif eqOut BinOp.neq ((N9 a.variant (N12 a)).fst.variant==a.variant&&((N9 a.variant (N12 a)).fst.board==a.board&&((N9 a.variant (N12 a)).fst.promoted==a.promoted&&((N9 a.variant (N12 a)).fst.pockets==a.pockets&&((N9 a.variant (N12 a)).fst.turn==a.turn&&((N9 a.variant (N12 a)).fst.rooks==a.rooks&&((N9 a.variant (N12 a)).fst.passing==a.passing&&((N9 a.variant (N12 a)).fst.checks==a.checks&&((N9 a.variant (N12 a)).fst.half==a.half&&((N9 a.variant (N12 a)).fst.full==a.full&&true)))))))))) then true else (bif decide (Int.ofNat (N12 a).length > 200) then true else (ok9 b c&&(bif (N9 b c).snd != 0 then true else (bif (N9 b c).fst.variant==b then (ok12 (N9 b c).fst&&true) else true))))))) else (ok9 b c&&(bif (N9 b c).snd != 0 then true else (bif (N9 b c).fst.variant==b then (ok12 (N9 b c).fst&&true) else true)))))))
theorem P4 (a:Pos) (b:Int) (c:List UInt8) (h:ok4 a b c=true):PS Pz 4 [Pos.av a,.int .u8 b,.str c] (dB.res (N4 a b c)):=ps_sum (n:=14) hB4 (by kernel_rfl) (by kernel_rfl) (by kernel_rfl) h
noncomputable def G4:List AV→Tr AV:=g3 dPos (dI .u8) dS (fun a b c=>gdv (ok4 a b c) (dB.res (N4 a b c)))
theorem s4:Sound Pz 4 G4:=sound3 fun a b c=>at_gd (P4 a b c)
end Kz
end
section
namespace Kz
open Go Go.RowKit Go.Proofs
set_option maxRecDepth 100000
theorem N9_zero {v:Int} {s:List UInt8} (h:(N9 v s).2≠0):(N9 v s).1=blank 0:=by
  revert h
  unfold N9
  generalize N21 v s=r
  cases decide (v ≥ 9) <;> cases decide (Int.ofNat s.length > 200) <;> cases (r.2 != 0) <;> cases (!N12 r.1==s) <;> first | exact fun _=>rfl | exact fun h=>absurd rfl h
theorem N9_read {p:Pos} (hp:PosIn p) (h:Wr13 p) (hl:(fenT p).length≤200):N9 p.variant (fenT p)=(p,0):=by
  have hr:=read_back hp h
  have h12:=(print_at hp).2.1 h
  have hf:fin200 (fenT p)=fenT p:=by
    unfold fin200
    rw [decide_eq_false (show ¬ Int.ofNat (fenT p).length > 200 by show ¬ ((fenT p).length:Int) > 200; omega),cond_false]
  have hv:decide (p.variant ≥ 9)=false:=decide_eq_false (by have:=h.1; omega)
  have h2:decide (Int.ofNat (fenT p).length > 200)=false:=decide_eq_false (by show ¬ ((fenT p).length:Int) > 200; omega)
  have he:(!N12 p==fenT p)=false:=by rw [h12,hf,beq_self_eq_true]; rfl
  unfold N9
  rw [hr,hv,h2]
  show (bif !N12 p==fenT p then _ else ((p,0):Pos×Int))=_
  rw [he]
  rfl
theorem tail_t {b:Int} (b0:0≤b) (b1:b≤255) {c:List UInt8} (hc:c.length≤5000):ok9 b c=true∧((N9 b c).2≠0∧(N9 b c).1=blank 0∨(N9 b c).2=0∧N12 (N9 b c).1=c∧(N9 b c).1.variant=b∧ok12 (N9 b c).1=true):=by
  obtain ⟨k,h1,h2,h3⟩:=parse_t b0 b1 (s:=c) (by omega)
  refine ⟨k,?_⟩
  by_cases h:(N9 b c).2=0
  · by_cases b9:b ≥ 9
    · rw [h1 b9] at h; exact absurd h (by decide)
    · by_cases hl:200 < c.length
      · rw [h2 (by omega) hl] at h; exact absurd h (by decide)
      · rcases h3 (by omega) (by omega) with e | ⟨e1,e2,e3⟩
        · rw [e] at h; exact absurd h (by decide)
        · exact .inr ⟨e1,e2,e3.2,(print_at e3.1).1⟩
  · exact .inl ⟨h,N9_zero h⟩
theorem N4_true {p:Pos} (hp:PosIn p) {b:Int} (b0:0≤b) (b1:b≤255) (c:List UInt8):ok4 p b c=true∧N4 p b c=true:=by
  unfold ok4 N4
  by_cases hc:Int.ofNat c.length > 5000
  · rw [decide_eq_true hc]; exact ⟨rfl,rfl⟩
  have hc':¬ (c.length:Int) > 5000:=hc
  rw [decide_eq_false hc]
  obtain ⟨o12,w1,w2⟩:=print_at hp
  obtain ⟨k9,ht⟩:=tail_t b0 b1 (c:=c) (by omega)
  rw [o12,k9]
  generalize N9 b c=z at ht
  obtain ⟨z1,z2⟩:=z
  dsimp only at ht
  have hw:N12 p=[]∨(N12 p≠[]∧N9 p.variant (N12 p)=(p,0)∧(N12 p).length≤200):=by
    by_cases h:Wr13 p
    · rw [w1 h]
      by_cases hl:(fenT p).length≤200
      · have hf:fin200 (fenT p)=fenT p:=by
          unfold fin200
          rw [decide_eq_false (show ¬ Int.ofNat (fenT p).length > 200 by show ¬ ((fenT p).length:Int) > 200; omega),cond_false]
        rw [hf]
        by_cases he:fenT p=[]
        · exact .inl he
        · exact .inr ⟨he,N9_read hp h hl,hl⟩
      · left
        unfold fin200
        rw [decide_eq_true (show Int.ofNat (fenT p).length > 200 by show ((fenT p).length:Int) > 200; omega),cond_true]
    · exact .inl (w2 h)
  have fin:(bif z2 != 0 then (eqOut BinOp.eql (z1.variant==0&&(z1.board==li (List.replicate 64 0)&&(z1.promoted==0&&(z1.pockets==li [0,0,0,0,0,0,0,0,0,0,0,0]&&(z1.turn==0&&(z1.rooks==li [0,0,0,0]&&(z1.passing==0&&(z1.checks==li [0,0]&&(z1.half==0&&(z1.full==0&&true))))))))))) else (bif z1.variant==b then (N12 z1==c) else (false)))=true∧(bif z2 != 0 then true else (bif z1.variant==b then (ok12 z1&&true) else true))=true:=by
    rcases ht with ⟨e,rfl⟩ | ⟨rfl,e2,e3,e4⟩
    · rw [show (z2 != 0)=true by simpa using e]
      exact ⟨by rfl,rfl⟩
    · rw [e2,e3,e4,beq_self_eq_true,beq_self_eq_true]
      exact ⟨rfl,rfl⟩
  obtain ⟨f1,f2⟩:=fin
  rcases hw with h | ⟨h,hr,hl⟩
  · rw [show (!N12 p==(ByteArray.mk #[]).data.toList)=false by rw [h]; rfl]
    exact ⟨f2,f1⟩
  · have hne:(!N12 p==(ByteArray.mk #[]).data.toList)=true:=by
      rw [Bool.not_eq_true',beq_eq_false_iff_ne]; exact h
    have hk:ok9 p.variant (N12 p)=true:=(parse_t hp.v0 hp.v1 (by omega)).1
    have h200:decide (Int.ofNat (N12 p).length > 200)=false:=decide_eq_false (by show ¬ ((N12 p).length:Int) > 200; omega)
    rw [hne,hr,hk,h200]
    simp only [beq_self_eq_true,Bool.true_and]
    exact ⟨f2,f1⟩
end Kz
end
