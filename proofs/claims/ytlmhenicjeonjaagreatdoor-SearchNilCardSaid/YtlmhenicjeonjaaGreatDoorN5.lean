/- Part 5 of the texts under the proof: an abstract interpreter,the summaries of functions,plain laws. -/
import Derived.Test.YtlmhenicjeonjaaGreatDoorN4
import Derived.Shelf.SlicesE.Clone
import Derived.Shelf.SlicesQ.IndexFunc
import Derived.Sort.WalkB12
import Derived.Shelf.SlicesQ.Load
import Derived.Lib.SliceRun
import Derived.Lib.SlKept
import Derived.Lib.Hide
import Derived.Shelf.SlicesE.DeleteFunc
import Derived.WideMake
set_option linter.unusedSectionVars false
set_option linter.unusedVariables false
set_option linter.unusedSimpArgs false
set_option linter.unnecessarySimpa false
section
namespace Kz
open Go Go.RowKit Go.Proofs
set_option maxRecDepth 100000
set_option maxHeartbeats 4000000
noncomputable def K15:List (Nat×Nat×List (Nat×List Nat)):=[(15,48,[(0,[2,3,4]),(1,[2,3,4,13]),(2,[4,5]),(3,[4,6]),(4,[4,6,37,38]),(5,[4,6,37,38,39]),(6,[4,6,8,37,38]),(7,[4,6,37,38]),(8,[4,6,37,38]),(9,[4,5])]),(30,156,[(0,[0,2]),(1,[0,2,14]),(2,[0,2]),(3,[0,2]),(4,[0,2,48]),(5,[]),(6,[0,2,64]),(7,[0,2,3,4]),(8,[0,2,3,4]),(9,[]),(10,[0,2,119]),(11,[0,2]),(12,[])]),(31,188,[(0,(1::(rn 14 6 (rn 99 11 (rn 163 8 []))))),(1,(1::20::(rn 99 11 (rn 163 8 [])))),(2,(1::2::(rn 99 11 (rn 163 8 [])))),(3,(1::2::26::(rn 99 11 (rn 163 8 [])))),(4,[1,2,4]),(5,[1,4,47]),(6,[1,4]),(7,[]),(8,(1::2::80::(rn 99 11 (rn 163 8 [])))),(9,(1::2::6::(rn 99 11 (rn 163 8 [])))),(10,(1::2::6::110::(rn 163 8 []))),(11,(1::2::6::(rn 163 8 []))),(12,(1::2::(rn 163 8 []))),(13,(1::2::(rn 163 8 []))),(14,(1::2::(rn 163 8 []))),(15,[1,171]),(16,[])]),(32,41,[(0,[0,16]),(1,[0,28,29,30]),(2,[0,28,29,30,31]),(3,[0,3,28,29,30]),(4,[0,28,29,30]),(5,[0,28,29,30])]),(33,121,[(0,(0::18::54::55::(rn 70 16 (89::90::(rn 93 6 (rn 101 10 [])))))),(1,(0::54::55::(rn 70 16 (89::90::(rn 93 6 (rn 101 10 [])))))),(2,(0::2::54::55::(rn 70 16 (89::90::(rn 93 6 (rn 101 10 [])))))),(3,(0::2::31::54::55::(rn 70 16 (89::90::(rn 93 6 (rn 101 10 [])))))),(4,(0::2::54::55::(rn 70 16 (89::90::(rn 93 6 (rn 101 10 [])))))),(5,(0::2::3::54::55::(rn 70 16 (89::90::(rn 93 6 (rn 101 10 [])))))),(6,(0::2::3::46::47::54::55::(rn 70 16 (89::90::(rn 93 6 (rn 101 10 [])))))),(7,(0::2::3::46::47::48::54::55::(rn 70 16 (89::90::(rn 93 6 (rn 101 10 [])))))),(8,(0::(rn 2 4 (46::47::54::55::(rn 70 16 (89::90::(rn 93 6 (rn 101 10 [])))))))),(9,(0::(rn 2 4 (46::47::54::55::56::(rn 70 16 (89::90::(rn 93 6 (rn 101 10 [])))))))),(10,(0::2::3::4::6::46::47::54::55::(rn 70 16 (89::90::(rn 93 6 (rn 101 10 [])))))),(11,(0::2::3::4::6::7::46::47::54::55::(rn 70 16 (89::90::(rn 93 6 (rn 101 10 [])))))),(12,(0::2::3::4::46::47::54::55::(rn 70 16 (89::90::(rn 93 6 (rn 101 11 [])))))),(13,(0::2::3::46::47::54::55::(rn 70 16 (89::90::(rn 93 6 (rn 101 10 [])))))),(14,(0::2::3::46::47::54::55::(rn 70 16 (89::90::(rn 93 6 (rn 101 10 []))))))]),(34,112,[(0,(0::(rn 12 6 (rn 20 26 (rn 64 9 []))))),(1,(0::46::(rn 64 9 []))),(2,(0::2::(rn 64 9 []))),(3,[0,73]),(4,[0,3]),(5,[0,3,106]),(6,[])]),(35,42,[(0,(0::(rn 16 5 []))),(1,[0,21]),(2,[0]),(3,[0,31]),(4,[])]),(36,59,[(0,(0::(rn 26 8 (rn 36 10 [])))),(1,(0::2::(rn 26 8 (rn 36 10 [])))),(2,[0,2,46]),(3,[])]),(73,14,[(0,[0,1]),(1,[3])]),(77,26,[(0,[0]),(1,[0,8]),(2,[2]),(3,[2])])]
noncomputable def B15_1:Base:=baseOf Pz (fun f i=>lkC f i K15) [(82,G82),(28,G28),(27,G27),(29,G29),(80,G80),(68,G68),(70,G70),(71,G71),(72,G72),(74,G74),(75,G75),(76,G76),(78,G78),(79,G79),(81,G81)] [] []
theorem hB15_1:BOk B15_1:=base_ok named_z ⟨s82,s28,s27,s29,s80,s68,s70,s71,s72,s74,s75,s76,s78,s79,s81,trivial⟩ trivial trivial
noncomputable def A15_1 (p1:Pos) (p2:Mv) (p3:Pos) (p4:Pos) (p5:Mv) (p6:Int):List AV:=[AV.ptr 3 0]
noncomputable def H15_1 (p1:Pos) (p2:Mv) (p3:Pos) (p4:Pos) (p5:Mv) (p6:Int):Hp:=Hp.mk [(pc p1 []),[AV.int .i8 p2.frm,AV.int .i8 p2.to,AV.int .u8 p2.pro,AV.int .u8 p2.drp,AV.bool p2.cas],[AV.int .u8 0,AV.ints .u8 64 (li (List.replicate 64 0)),AV.u64 0,AV.ints .u8 12 (li [0,0,0,0,0,0,0,0,0,0,0,0]),AV.int .u8 0,AV.ints .i8 4 (li [0,0,0,0]),AV.int .i8 0,AV.ints .u8 2 (li [0,0]),AV.int .i64 0,AV.int .i64 0],(pc p3 (pc p4 [AV.int .i8 p5.frm,AV.int .i8 p5.to,AV.int .u8 p5.pro,AV.int .u8 p5.drp,AV.bool p5.cas,AV.int .i64 p6]))] [] [] 0 0 0
noncomputable def O15_1 (p1:Pos) (p2:Mv) (p3:Pos) (p4:Pos) (p5:Mv) (p6:Int) (y:(Pos)):FRes := .ret (AV.tuple []) (Hp.mk [(pc p1 []),[AV.int .i8 p2.frm,AV.int .i8 p2.to,AV.int .u8 p2.pro,AV.int .u8 p2.drp,AV.bool p2.cas],[AV.int .u8 0,AV.ints .u8 64 (li (List.replicate 64 0)),AV.u64 0,AV.ints .u8 12 (li [0,0,0,0,0,0,0,0,0,0,0,0]),AV.int .u8 0,AV.ints .i8 4 (li [0,0,0,0]),AV.int .i8 0,AV.ints .u8 2 (li [0,0]),AV.int .i64 0,AV.int .i64 0],(pc y (pc p4 [AV.int .i8 p5.frm,AV.int .i8 p5.to,AV.int .u8 p5.pro,AV.int .u8 p5.drp,AV.bool p5.cas,AV.int .i64 p6]))] [] [] 0 0 0)
noncomputable def vF15_1 (p1:Pos) (p2:Mv) (p3:Pos) (p4:Pos) (p5:Mv) (p6:Int):(Pos):=(bif p5.cas then (Pos.mk p3.variant ((((p3.board.set (scale 1 p5.frm).toNat 0).set (scale 1 p5.to).toNat 0).set (scale 1 (N70 p4 p5).fst).toNat (p4.board.getD (scale 1 p5.frm).toNat 0)).set (scale 1 (N70 p4 p5).snd.fst).toNat (p4.board.getD (scale 1 p5.to).toNat 0)) p3.promoted p3.pockets p3.turn p3.rooks p3.passing p3.checks p3.half p3.full) else (bif p5.drp != 0 then (Pos.mk (N71 p3 p3.turn p5.drp).fst.variant ((N71 p3 p3.turn p5.drp).fst.board.set (scale 1 p5.to).toNat (N72 (N71 p3 p3.turn p5.drp).fst.turn p5.drp)) (N71 p3 p3.turn p5.drp).fst.promoted (N71 p3 p3.turn p5.drp).fst.pockets (N71 p3 p3.turn p5.drp).fst.turn (N71 p3 p3.turn p5.drp).fst.rooks (N71 p3 p3.turn p5.drp).fst.passing (N71 p3 p3.turn p5.drp).fst.checks (N71 p3 p3.turn p5.drp).fst.half (N71 p3 p3.turn p5.drp).fst.full) else (bif decide (p6 ≥ 0) then (bif p5.pro != 0 then (Pos.mk p3.variant ((((p3.board.set (scale 1 p6).toNat 0).set (scale 1 p5.frm).toNat 0).set (scale 1 p5.to).toNat (p4.board.getD (scale 1 p5.frm).toNat 0)).set (scale 1 p5.to).toNat (N72 p3.turn p5.pro)) p3.promoted p3.pockets p3.turn p3.rooks p3.passing p3.checks p3.half p3.full) else (Pos.mk p3.variant (((p3.board.set (scale 1 p6).toNat 0).set (scale 1 p5.frm).toNat 0).set (scale 1 p5.to).toNat (p4.board.getD (scale 1 p5.frm).toNat 0)) p3.promoted p3.pockets p3.turn p3.rooks p3.passing p3.checks p3.half p3.full)) else (bif p5.pro != 0 then (Pos.mk p3.variant (((p3.board.set (scale 1 p5.frm).toNat 0).set (scale 1 p5.to).toNat (p4.board.getD (scale 1 p5.frm).toNat 0)).set (scale 1 p5.to).toNat (N72 p3.turn p5.pro)) p3.promoted p3.pockets p3.turn p3.rooks p3.passing p3.checks p3.half p3.full) else (Pos.mk p3.variant ((p3.board.set (scale 1 p5.frm).toNat 0).set (scale 1 p5.to).toNat (p4.board.getD (scale 1 p5.frm).toNat 0)) p3.promoted p3.pockets p3.turn p3.rooks p3.passing p3.checks p3.half p3.full)))))
noncomputable def okF15_1 (p1:Pos) (p2:Mv) (p3:Pos) (p4:Pos) (p5:Mv) (p6:Int):Bool:=(bif p5.cas then (ok70 (p4) (p5)&&(decide (0≤p5.frm)&&decide (p5.frm < Int.ofNat 64)&&(decide (0≤p5.to)&&decide (p5.to < Int.ofNat 64)&&(decide (0≤p5.frm)&&decide (p5.frm < Int.ofNat 64)&&(decide (0≤p5.to)&&decide (p5.to < Int.ofNat 64)&&(decide (0≤(N70 p4 p5).fst)&&decide ((N70 p4 p5).fst < Int.ofNat 64)&&(decide (0≤(N70 p4 p5).snd.fst)&&decide ((N70 p4 p5).snd.fst < Int.ofNat 64)&&true))))))) else (bif p5.drp != 0 then (ok71 (p3) (p3.turn) (p5.drp)&&(decide (0≤p5.to)&&decide (p5.to < Int.ofNat 64)&&true)) else (bif decide (p6 ≥ 0) then (decide (0≤p6)&&decide (p6 < Int.ofNat 64)&&(decide (0≤p5.frm)&&decide (p5.frm < Int.ofNat 64)&&(decide (0≤p5.frm)&&decide (p5.frm < Int.ofNat 64)&&(decide (0≤p5.to)&&decide (p5.to < Int.ofNat 64)&&(bif p5.pro != 0 then (decide (0≤p5.to)&&decide (p5.to < Int.ofNat 64)&&true) else true))))) else (decide (0≤p5.frm)&&decide (p5.frm < Int.ofNat 64)&&(decide (0≤p5.frm)&&decide (p5.frm < Int.ofNat 64)&&(decide (0≤p5.to)&&decide (p5.to < Int.ofNat 64)&&(bif p5.pro != 0 then (decide (0≤p5.to)&&decide (p5.to < Int.ofNat 64)&&true) else true)))))))
abbrev DF15_1 {α:Type} (k:Pos→Mv→Pos→Pos→Mv→Int→α) (s:St):α:=wP s 0 fun q0=>wP s 3 fun q3=>wM s 1 fun q1=>k q0 q1 q3 (Kz.Pos.mk (tI (tH s 3 10)) (tN (tH s 3 11)) (tU (tH s 3 12)) (tN (tH s 3 13)) (tI (tH s 3 14)) (tN (tH s 3 15)) (tI (tH s 3 16)) (tN (tH s 3 17)) (tI (tH s 3 18)) (tI (tH s 3 19))) (Kz.Mv.mk (tI (tH s 3 20)) (tI (tH s 3 21)) (tI (tH s 3 22)) (tI (tH s 3 23)) (tB (tH s 3 24))) (tI (tH s 3 25))
theorem PF15_1 (p1:Pos) (p2:Mv) (p3:Pos) (p4:Pos) (p5:Mv) (p6:Int) (h:okF15_1 p1 p2 p3 p4 p5 p6=true):FSpec Pz 30 (A15_1 p1 p2 p3 p4 p5 p6) (H15_1 p1 p2 p3 p4 p5 p6) (O15_1 p1 p2 p3 p4 p5 p6 (vF15_1 p1 p2 p3 p4 p5 p6))∧∃ fn,Pz.funcs[30]?=some fn∧fn.body.isSome=true:=fs_sumd (n:=14) (O:=O15_1 p1 p2 p3 p4 p5 p6) hB15_1 (fun o=>match o with | .ret v h=>(let s:St:=⟨[v],h⟩; wP s 3 fun q3=>some q3) | _=>none) (fun _=>rfl) (by kernel_rfl) (by kernel_rfl) (by kernel_rfl) (by kernel_rfl) h
noncomputable def FF15_1 (xs:List AV) (h:Hp):Tr FRes:=DF15_1 (fun p1 p2 p3 p4 p5 p6=>fk xs h (A15_1 p1 p2 p3 p4 p5 p6) (H15_1 p1 p2 p3 p4 p5 p6) (okF15_1 p1 p2 p3 p4 p5 p6) (O15_1 p1 p2 p3 p4 p5 p6) (vF15_1 p1 p2 p3 p4 p5 p6)) ⟨xs,h⟩
theorem sFF15_1:FSound Pz 30 FF15_1:=fun _ _ _ h=>fk_ok (PF15_1 _ _ _ _ _ _) h
noncomputable def B15_2:Base:=baseOf Pz (fun f i=>lkC f i K15) [(82,G82),(28,G28),(27,G27),(29,G29),(80,G80),(68,G68),(70,G70),(71,G71),(72,G72),(74,G74),(75,G75),(76,G76),(78,G78),(79,G79),(81,G81)] [] [(30,FF15_1)]
theorem hB15_2:BOk B15_2:=base_ok named_z ⟨s82,s28,s27,s29,s80,s68,s70,s71,s72,s74,s75,s76,s78,s79,s81,trivial⟩ trivial ⟨sFF15_1,trivial⟩
noncomputable def A15_2 (p1:Pos) (p2:Mv) (p3:Pos) (p4:Pos) (p5:Mv) (p6:Int):List AV:=[AV.ptr 3 0]
noncomputable def H15_2 (p1:Pos) (p2:Mv) (p3:Pos) (p4:Pos) (p5:Mv) (p6:Int):Hp:=Hp.mk [(pc p1 []),[AV.int .i8 p2.frm,AV.int .i8 p2.to,AV.int .u8 p2.pro,AV.int .u8 p2.drp,AV.bool p2.cas],[AV.int .u8 0,AV.ints .u8 64 (li (List.replicate 64 0)),AV.u64 0,AV.ints .u8 12 (li [0,0,0,0,0,0,0,0,0,0,0,0]),AV.int .u8 0,AV.ints .i8 4 (li [0,0,0,0]),AV.int .i8 0,AV.ints .u8 2 (li [0,0]),AV.int .i64 0,AV.int .i64 0],(pc p3 (pc p4 [AV.int .i8 p5.frm,AV.int .i8 p5.to,AV.int .u8 p5.pro,AV.int .u8 p5.drp,AV.bool p5.cas,AV.int .i64 p6]))] [] [] 0 0 0
noncomputable def O15_2 (p1:Pos) (p2:Mv) (p3:Pos) (p4:Pos) (p5:Mv) (p6:Int) (y:(Pos)):FRes := .ret (AV.tuple []) (Hp.mk [(pc p1 []),[AV.int .i8 p2.frm,AV.int .i8 p2.to,AV.int .u8 p2.pro,AV.int .u8 p2.drp,AV.bool p2.cas],[AV.int .u8 0,AV.ints .u8 64 (li (List.replicate 64 0)),AV.u64 0,AV.ints .u8 12 (li [0,0,0,0,0,0,0,0,0,0,0,0]),AV.int .u8 0,AV.ints .i8 4 (li [0,0,0,0]),AV.int .i8 0,AV.ints .u8 2 (li [0,0]),AV.int .i64 0,AV.int .i64 0],(pc y (pc p4 [AV.int .i8 p5.frm,AV.int .i8 p5.to,AV.int .u8 p5.pro,AV.int .u8 p5.drp,AV.bool p5.cas,AV.int .i64 p6]))] [] [] 0 0 0)
noncomputable def vF15_2 (p1:Pos) (p2:Mv) (p3:Pos) (p4:Pos) (p5:Mv) (p6:Int):(Pos):=(bif p3.variant != 2 then (p3) else (bif p5.drp != 0 then (p3) else (bif p5.cas then (bif p4.promoted >>> (BitVec.ofInt 64 (wr .i64 p5.to)).toNat&&&1#64==1#64 then (Pos.mk p3.variant p3.board (p3.promoted &&& ~~~(1#64 <<< (BitVec.ofInt 64 p5.to).toNat)|||1#64 <<< (BitVec.ofInt 64 (N70 p4 p5).snd.fst).toNat) p3.pockets p3.turn p3.rooks p3.passing p3.checks p3.half p3.full) else (p3)) else (bif decide (p6 ≥ 0) then (bif p4.promoted >>> (BitVec.ofInt 64 p6).toNat&&&1#64==1#64 then (bif p4.board.getD (scale 1 p6).toNat 0 != 0 then (bif p5.pro != 0 then (Pos.mk (N74 p3 p3.turn 1).variant (N74 p3 p3.turn 1).board ((N74 p3 p3.turn 1).promoted &&& ~~~(1#64 <<< (BitVec.ofInt 64 p6).toNat) &&& ~~~(1#64 <<< (BitVec.ofInt 64 p5.frm).toNat)|||1#64 <<< (BitVec.ofInt 64 p5.to).toNat) (N74 p3 p3.turn 1).pockets (N74 p3 p3.turn 1).turn (N74 p3 p3.turn 1).rooks (N74 p3 p3.turn 1).passing (N74 p3 p3.turn 1).checks (N74 p3 p3.turn 1).half (N74 p3 p3.turn 1).full) else (bif p4.promoted >>> (BitVec.ofInt 64 (wr .i64 p5.frm)).toNat&&&1#64==1#64 then (Pos.mk (N74 p3 p3.turn 1).variant (N74 p3 p3.turn 1).board ((N74 p3 p3.turn 1).promoted &&& ~~~(1#64 <<< (BitVec.ofInt 64 p6).toNat) &&& ~~~(1#64 <<< (BitVec.ofInt 64 p5.frm).toNat)|||1#64 <<< (BitVec.ofInt 64 p5.to).toNat) (N74 p3 p3.turn 1).pockets (N74 p3 p3.turn 1).turn (N74 p3 p3.turn 1).rooks (N74 p3 p3.turn 1).passing (N74 p3 p3.turn 1).checks (N74 p3 p3.turn 1).half (N74 p3 p3.turn 1).full) else (Pos.mk (N74 p3 p3.turn 1).variant (N74 p3 p3.turn 1).board ((N74 p3 p3.turn 1).promoted &&& ~~~(1#64 <<< (BitVec.ofInt 64 p6).toNat) &&& ~~~(1#64 <<< (BitVec.ofInt 64 p5.frm).toNat)) (N74 p3 p3.turn 1).pockets (N74 p3 p3.turn 1).turn (N74 p3 p3.turn 1).rooks (N74 p3 p3.turn 1).passing (N74 p3 p3.turn 1).checks (N74 p3 p3.turn 1).half (N74 p3 p3.turn 1).full))) else (bif p5.pro != 0 then (Pos.mk (N74 p3 p3.turn (N68 (p4.board.getD (scale 1 p6).toNat 0))).variant (N74 p3 p3.turn (N68 (p4.board.getD (scale 1 p6).toNat 0))).board ((N74 p3 p3.turn (N68 (p4.board.getD (scale 1 p6).toNat 0))).promoted &&& ~~~(1#64 <<< (BitVec.ofInt 64 p6).toNat) &&& ~~~(1#64 <<< (BitVec.ofInt 64 p5.frm).toNat)|||1#64 <<< (BitVec.ofInt 64 p5.to).toNat) (N74 p3 p3.turn (N68 (p4.board.getD (scale 1 p6).toNat 0))).pockets (N74 p3 p3.turn (N68 (p4.board.getD (scale 1 p6).toNat 0))).turn (N74 p3 p3.turn (N68 (p4.board.getD (scale 1 p6).toNat 0))).rooks (N74 p3 p3.turn (N68 (p4.board.getD (scale 1 p6).toNat 0))).passing (N74 p3 p3.turn (N68 (p4.board.getD (scale 1 p6).toNat 0))).checks (N74 p3 p3.turn (N68 (p4.board.getD (scale 1 p6).toNat 0))).half (N74 p3 p3.turn (N68 (p4.board.getD (scale 1 p6).toNat 0))).full) else (bif p4.promoted >>> (BitVec.ofInt 64 (wr .i64 p5.frm)).toNat&&&1#64==1#64 then (Pos.mk (N74 p3 p3.turn (N68 (p4.board.getD (scale 1 p6).toNat 0))).variant (N74 p3 p3.turn (N68 (p4.board.getD (scale 1 p6).toNat 0))).board ((N74 p3 p3.turn (N68 (p4.board.getD (scale 1 p6).toNat 0))).promoted &&& ~~~(1#64 <<< (BitVec.ofInt 64 p6).toNat) &&& ~~~(1#64 <<< (BitVec.ofInt 64 p5.frm).toNat)|||1#64 <<< (BitVec.ofInt 64 p5.to).toNat) (N74 p3 p3.turn (N68 (p4.board.getD (scale 1 p6).toNat 0))).pockets (N74 p3 p3.turn (N68 (p4.board.getD (scale 1 p6).toNat 0))).turn (N74 p3 p3.turn (N68 (p4.board.getD (scale 1 p6).toNat 0))).rooks (N74 p3 p3.turn (N68 (p4.board.getD (scale 1 p6).toNat 0))).passing (N74 p3 p3.turn (N68 (p4.board.getD (scale 1 p6).toNat 0))).checks (N74 p3 p3.turn (N68 (p4.board.getD (scale 1 p6).toNat 0))).half (N74 p3 p3.turn (N68 (p4.board.getD (scale 1 p6).toNat 0))).full) else (Pos.mk (N74 p3 p3.turn (N68 (p4.board.getD (scale 1 p6).toNat 0))).variant (N74 p3 p3.turn (N68 (p4.board.getD (scale 1 p6).toNat 0))).board ((N74 p3 p3.turn (N68 (p4.board.getD (scale 1 p6).toNat 0))).promoted &&& ~~~(1#64 <<< (BitVec.ofInt 64 p6).toNat) &&& ~~~(1#64 <<< (BitVec.ofInt 64 p5.frm).toNat)) (N74 p3 p3.turn (N68 (p4.board.getD (scale 1 p6).toNat 0))).pockets (N74 p3 p3.turn (N68 (p4.board.getD (scale 1 p6).toNat 0))).turn (N74 p3 p3.turn (N68 (p4.board.getD (scale 1 p6).toNat 0))).rooks (N74 p3 p3.turn (N68 (p4.board.getD (scale 1 p6).toNat 0))).passing (N74 p3 p3.turn (N68 (p4.board.getD (scale 1 p6).toNat 0))).checks (N74 p3 p3.turn (N68 (p4.board.getD (scale 1 p6).toNat 0))).half (N74 p3 p3.turn (N68 (p4.board.getD (scale 1 p6).toNat 0))).full)))) else (bif p5.pro != 0 then (Pos.mk (N74 p3 p3.turn (N68 (p4.board.getD (scale 1 p6).toNat 0))).variant (N74 p3 p3.turn (N68 (p4.board.getD (scale 1 p6).toNat 0))).board ((N74 p3 p3.turn (N68 (p4.board.getD (scale 1 p6).toNat 0))).promoted &&& ~~~(1#64 <<< (BitVec.ofInt 64 p6).toNat) &&& ~~~(1#64 <<< (BitVec.ofInt 64 p5.frm).toNat)|||1#64 <<< (BitVec.ofInt 64 p5.to).toNat) (N74 p3 p3.turn (N68 (p4.board.getD (scale 1 p6).toNat 0))).pockets (N74 p3 p3.turn (N68 (p4.board.getD (scale 1 p6).toNat 0))).turn (N74 p3 p3.turn (N68 (p4.board.getD (scale 1 p6).toNat 0))).rooks (N74 p3 p3.turn (N68 (p4.board.getD (scale 1 p6).toNat 0))).passing (N74 p3 p3.turn (N68 (p4.board.getD (scale 1 p6).toNat 0))).checks (N74 p3 p3.turn (N68 (p4.board.getD (scale 1 p6).toNat 0))).half (N74 p3 p3.turn (N68 (p4.board.getD (scale 1 p6).toNat 0))).full) else (bif p4.promoted >>> (BitVec.ofInt 64 (wr .i64 p5.frm)).toNat&&&1#64==1#64 then (Pos.mk (N74 p3 p3.turn (N68 (p4.board.getD (scale 1 p6).toNat 0))).variant (N74 p3 p3.turn (N68 (p4.board.getD (scale 1 p6).toNat 0))).board ((N74 p3 p3.turn (N68 (p4.board.getD (scale 1 p6).toNat 0))).promoted &&& ~~~(1#64 <<< (BitVec.ofInt 64 p6).toNat) &&& ~~~(1#64 <<< (BitVec.ofInt 64 p5.frm).toNat)|||1#64 <<< (BitVec.ofInt 64 p5.to).toNat) (N74 p3 p3.turn (N68 (p4.board.getD (scale 1 p6).toNat 0))).pockets (N74 p3 p3.turn (N68 (p4.board.getD (scale 1 p6).toNat 0))).turn (N74 p3 p3.turn (N68 (p4.board.getD (scale 1 p6).toNat 0))).rooks (N74 p3 p3.turn (N68 (p4.board.getD (scale 1 p6).toNat 0))).passing (N74 p3 p3.turn (N68 (p4.board.getD (scale 1 p6).toNat 0))).checks (N74 p3 p3.turn (N68 (p4.board.getD (scale 1 p6).toNat 0))).half (N74 p3 p3.turn (N68 (p4.board.getD (scale 1 p6).toNat 0))).full) else (Pos.mk (N74 p3 p3.turn (N68 (p4.board.getD (scale 1 p6).toNat 0))).variant (N74 p3 p3.turn (N68 (p4.board.getD (scale 1 p6).toNat 0))).board ((N74 p3 p3.turn (N68 (p4.board.getD (scale 1 p6).toNat 0))).promoted &&& ~~~(1#64 <<< (BitVec.ofInt 64 p6).toNat) &&& ~~~(1#64 <<< (BitVec.ofInt 64 p5.frm).toNat)) (N74 p3 p3.turn (N68 (p4.board.getD (scale 1 p6).toNat 0))).pockets (N74 p3 p3.turn (N68 (p4.board.getD (scale 1 p6).toNat 0))).turn (N74 p3 p3.turn (N68 (p4.board.getD (scale 1 p6).toNat 0))).rooks (N74 p3 p3.turn (N68 (p4.board.getD (scale 1 p6).toNat 0))).passing (N74 p3 p3.turn (N68 (p4.board.getD (scale 1 p6).toNat 0))).checks (N74 p3 p3.turn (N68 (p4.board.getD (scale 1 p6).toNat 0))).half (N74 p3 p3.turn (N68 (p4.board.getD (scale 1 p6).toNat 0))).full)))) else (bif p5.pro != 0 then (Pos.mk p3.variant p3.board (p3.promoted &&& ~~~(1#64 <<< (BitVec.ofInt 64 p5.frm).toNat)|||1#64 <<< (BitVec.ofInt 64 p5.to).toNat) p3.pockets p3.turn p3.rooks p3.passing p3.checks p3.half p3.full) else (bif p4.promoted >>> (BitVec.ofInt 64 (wr .i64 p5.frm)).toNat&&&1#64==1#64 then (Pos.mk p3.variant p3.board (p3.promoted &&& ~~~(1#64 <<< (BitVec.ofInt 64 p5.frm).toNat)|||1#64 <<< (BitVec.ofInt 64 p5.to).toNat) p3.pockets p3.turn p3.rooks p3.passing p3.checks p3.half p3.full) else (Pos.mk p3.variant p3.board (p3.promoted &&& ~~~(1#64 <<< (BitVec.ofInt 64 p5.frm).toNat)) p3.pockets p3.turn p3.rooks p3.passing p3.checks p3.half p3.full)))))))
noncomputable def okF15_2 (p1:Pos) (p2:Mv) (p3:Pos) (p4:Pos) (p5:Mv) (p6:Int):Bool:=(bif p3.variant != 2 then true else (bif p5.drp != 0 then true else (bif p5.cas then (ok70 (p4) (p5)&&true) else (bif decide (p6 ≥ 0) then (decide (0≤p6)&&decide (p6 < Int.ofNat 64)&&(bif p4.promoted >>> (BitVec.ofInt 64 p6).toNat&&&1#64==1#64 then (decide (0≤p6)&&decide (p6 < Int.ofNat 64)&&(bif p4.board.getD (scale 1 p6).toNat 0 != 0 then (ok74 (p3) (p3.turn) (1)&&true) else (ok74 (p3) (p3.turn) (N68 (p4.board.getD (scale 1 p6).toNat 0))&&true))) else (ok74 (p3) (p3.turn) (N68 (p4.board.getD (scale 1 p6).toNat 0))&&true))) else true))))
abbrev DF15_2 {α:Type} (k:Pos→Mv→Pos→Pos→Mv→Int→α) (s:St):α:=wP s 0 fun q0=>wP s 3 fun q3=>wM s 1 fun q1=>k q0 q1 q3 (Kz.Pos.mk (tI (tH s 3 10)) (tN (tH s 3 11)) (tU (tH s 3 12)) (tN (tH s 3 13)) (tI (tH s 3 14)) (tN (tH s 3 15)) (tI (tH s 3 16)) (tN (tH s 3 17)) (tI (tH s 3 18)) (tI (tH s 3 19))) (Kz.Mv.mk (tI (tH s 3 20)) (tI (tH s 3 21)) (tI (tH s 3 22)) (tI (tH s 3 23)) (tB (tH s 3 24))) (tI (tH s 3 25))
theorem PF15_2 (p1:Pos) (p2:Mv) (p3:Pos) (p4:Pos) (p5:Mv) (p6:Int) (h:okF15_2 p1 p2 p3 p4 p5 p6=true):FSpec Pz 31 (A15_2 p1 p2 p3 p4 p5 p6) (H15_2 p1 p2 p3 p4 p5 p6) (O15_2 p1 p2 p3 p4 p5 p6 (vF15_2 p1 p2 p3 p4 p5 p6))∧∃ fn,Pz.funcs[31]?=some fn∧fn.body.isSome=true:=fs_sumd (n:=14) (O:=O15_2 p1 p2 p3 p4 p5 p6) hB15_2 (fun o=>match o with | .ret v h=>(let s:St:=⟨[v],h⟩; wP s 3 fun q3=>some q3) | _=>none) (fun _=>rfl) (by kernel_rfl) (by kernel_rfl) (by kernel_rfl) (by kernel_rfl) h
noncomputable def FF15_2 (xs:List AV) (h:Hp):Tr FRes:=DF15_2 (fun p1 p2 p3 p4 p5 p6=>fk xs h (A15_2 p1 p2 p3 p4 p5 p6) (H15_2 p1 p2 p3 p4 p5 p6) (okF15_2 p1 p2 p3 p4 p5 p6) (O15_2 p1 p2 p3 p4 p5 p6) (vF15_2 p1 p2 p3 p4 p5 p6)) ⟨xs,h⟩
theorem sFF15_2:FSound Pz 31 FF15_2:=fun _ _ _ h=>fk_ok (PF15_2 _ _ _ _ _ _) h
noncomputable def B15_3:Base:=baseOf Pz (fun f i=>lkC f i K15) [(82,G82),(28,G28),(27,G27),(29,G29),(80,G80),(68,G68),(70,G70),(71,G71),(72,G72),(74,G74),(75,G75),(76,G76),(78,G78),(79,G79),(81,G81)] [] [(30,FF15_1),(31,FF15_2)]
theorem hB15_3:BOk B15_3:=base_ok named_z ⟨s82,s28,s27,s29,s80,s68,s70,s71,s72,s74,s75,s76,s78,s79,s81,trivial⟩ trivial ⟨sFF15_1,sFF15_2,trivial⟩
noncomputable def S15_3 (p1:(List Int)) (p2:Int) (p3:Pos) (p4:Mv) (p5:Pos) (p6:Mv) (p7:Int) (x:(Int×Pos)):St:=St.mk (AV.ptr 3 0::(an 27 (AV.list (ET.i .i64) p1 Tk.fresh::AV.int .i64 p2::AV.int .i64 x.fst::(an 10 [])))) (Hp.mk [(pc p3 []),[AV.int .i8 p4.frm,AV.int .i8 p4.to,AV.int .u8 p4.pro,AV.int .u8 p4.drp,AV.bool p4.cas],[AV.int .u8 0,AV.ints .u8 64 (li (List.replicate 64 0)),AV.u64 0,AV.ints .u8 12 (li [0,0,0,0,0,0,0,0,0,0,0,0]),AV.int .u8 0,AV.ints .i8 4 (li [0,0,0,0]),AV.int .i8 0,AV.ints .u8 2 (li [0,0]),AV.int .i64 0,AV.int .i64 0],(pc x.snd (pc p5 [AV.int .i8 p6.frm,AV.int .i8 p6.to,AV.int .u8 p6.pro,AV.int .u8 p6.drp,AV.bool p6.cas,AV.int .i64 p7]))] [] [] 0 0 0)
noncomputable def O15_3 (p1:(List Int)) (p2:Int) (p3:Pos) (p4:Mv) (p5:Pos) (p6:Mv) (p7:Int):(Int×Bool×Pos)→Out:=fun y=>.exit 0 (St.mk (AV.ptr 3 0::(an 27 (AV.list (ET.i .i64) p1 Tk.fresh::AV.int .i64 p2::AV.int .i64 y.fst::AV.bool y.snd.fst::(an 9 [])))) (Hp.mk [(pc p3 []),[AV.int .i8 p4.frm,AV.int .i8 p4.to,AV.int .u8 p4.pro,AV.int .u8 p4.drp,AV.bool p4.cas],[AV.int .u8 0,AV.ints .u8 64 (li (List.replicate 64 0)),AV.u64 0,AV.ints .u8 12 (li [0,0,0,0,0,0,0,0,0,0,0,0]),AV.int .u8 0,AV.ints .i8 4 (li [0,0,0,0]),AV.int .i8 0,AV.ints .u8 2 (li [0,0]),AV.int .i64 0,AV.int .i64 0],(pc y.snd.snd (pc p5 [AV.int .i8 p6.frm,AV.int .i8 p6.to,AV.int .u8 p6.pro,AV.int .u8 p6.drp,AV.bool p6.cas,AV.int .i64 p7]))] [] [] 0 0 0))
noncomputable def st15_3 (p1:(List Int)) (p2:Int) (p3:Pos) (p4:Mv) (p5:Pos) (p6:Mv) (p7:Int) (x:(Int×Pos)):Stp (Int×Pos) ((Int×Bool×Pos)):=(bif decide (x.fst < p2) then (Stp.go (wr .i64 (x.fst+1),Pos.mk x.snd.variant (x.snd.board.set (scale 1 (p1.getD x.fst.toNat default)).toNat 0) x.snd.promoted x.snd.pockets x.snd.turn x.snd.rooks x.snd.passing x.snd.checks x.snd.half x.snd.full)) else (Stp.out ((x.fst,decide (x.fst < p2),x.snd))))
noncomputable def okL15_3 (p1:(List Int)) (p2:Int) (p3:Pos) (p4:Mv) (p5:Pos) (p6:Mv) (p7:Int) (x:(Int×Pos)):Bool:=(bif decide (x.fst < p2) then (decide (0≤x.fst)&&decide (x.fst < Int.ofNat p1.length)&&(decide (0≤p1.getD x.fst.toNat default)&&decide (p1.getD x.fst.toNat default < Int.ofNat 64)&&true)) else true)
noncomputable def lp15_3 (p1:(List Int)) (p2:Int) (p3:Pos) (p4:Mv) (p5:Pos) (p6:Mv) (p7:Int) (x:(Int×Pos)):Option ((Int×Bool×Pos)):=itl (fun x=>bif okL15_3 p1 p2 p3 p4 p5 p6 p7 x then st15_3 p1 p2 p3 p4 p5 p6 p7 x else .bad) many x
abbrev D15_3 {α:Type} (k:(List Int)→Int→Pos→Mv→Pos→Mv→Int→(Int×Pos)→α) (s:St):α:=wP s 0 fun q0=>wP s 3 fun q3=>wM s 1 fun q1=>k (tL (ET.i .i64) (tT s 28)) (tI (tT s 29)) q0 q1 (Kz.Pos.mk (tI (tH s 3 10)) (tN (tH s 3 11)) (tU (tH s 3 12)) (tN (tH s 3 13)) (tI (tH s 3 14)) (tN (tH s 3 15)) (tI (tH s 3 16)) (tN (tH s 3 17)) (tI (tH s 3 18)) (tI (tH s 3 19))) (Kz.Mv.mk (tI (tH s 3 20)) (tI (tH s 3 21)) (tI (tH s 3 22)) (tI (tH s 3 23)) (tB (tH s 3 24))) (tI (tH s 3 25)) ((tI (tT s 30)),q3)
theorem L15_3 (p1:(List Int)) (p2:Int) (p3:Pos) (p4:Mv) (p5:Pos) (p6:Mv) (p7:Int) (x:(Int×Pos)) (r:(Int×Bool×Pos)) (h:lp15_3 p1 p2 p3 p4 p5 p6 p7 x=some r):LSpec Pz (bodL Pz 32 2) (S15_3 p1 p2 p3 p4 p5 p6 p7 x) (O15_3 p1 p2 p3 p4 p5 p6 p7 r):=LSpec.smd (m:=12) (fn:=32) hB15_3 (D15_3 fun _ _ _ _ _ _ _ x=>some x) (fun o=>match o with | .exit 0 s=>wP s 3 fun q3=>some ((tI (tT s 30)),(tB (tT s 31)),q3) | _=>none) (fun _=>rfl) (fun _=>by kernel_rfl) (fun _=>by kernel_rfl) (fun _=>by kernel_rfl) (fun _=>by kernel_rfl) many x r h
noncomputable def F15_3 (b:Code) (s:St):Tr Out:=D15_3 (fun p1 p2 p3 p4 p5 p6 p7 x=>lk1 b (bodL Pz 32 2) s (S15_3 p1 p2 p3 p4 p5 p6 p7 x) (lp15_3 p1 p2 p3 p4 p5 p6 p7 x) (O15_3 p1 p2 p3 p4 p5 p6 p7)) s
theorem sF15_3:∀ b,LSound Pz b (F15_3 b):=fun _ _ _ h=>lk1_ok (L15_3 _ _ _ _ _ _ _ _) h
noncomputable def B15_4:Base:=baseOf Pz (fun f i=>lkC f i K15) [(82,G82),(28,G28),(27,G27),(29,G29),(80,G80),(68,G68),(70,G70),(71,G71),(72,G72),(74,G74),(75,G75),(76,G76),(78,G78),(79,G79),(81,G81)] [(32,2,F15_3)] [(30,FF15_1),(31,FF15_2)]
theorem hB15_4:BOk B15_4:=base_ok named_z ⟨s82,s28,s27,s29,s80,s68,s70,s71,s72,s74,s75,s76,s78,s79,s81,trivial⟩ ⟨sF15_3,trivial⟩ ⟨sFF15_1,sFF15_2,trivial⟩
noncomputable def A15_4 (p1:Pos) (p2:Mv) (p3:Pos) (p4:Pos) (p5:Mv) (p6:Int):List AV:=[AV.ptr 3 0]
noncomputable def H15_4 (p1:Pos) (p2:Mv) (p3:Pos) (p4:Pos) (p5:Mv) (p6:Int):Hp:=Hp.mk [(pc p1 []),[AV.int .i8 p2.frm,AV.int .i8 p2.to,AV.int .u8 p2.pro,AV.int .u8 p2.drp,AV.bool p2.cas],[AV.int .u8 0,AV.ints .u8 64 (li (List.replicate 64 0)),AV.u64 0,AV.ints .u8 12 (li [0,0,0,0,0,0,0,0,0,0,0,0]),AV.int .u8 0,AV.ints .i8 4 (li [0,0,0,0]),AV.int .i8 0,AV.ints .u8 2 (li [0,0]),AV.int .i64 0,AV.int .i64 0],(pc p3 (pc p4 [AV.int .i8 p5.frm,AV.int .i8 p5.to,AV.int .u8 p5.pro,AV.int .u8 p5.drp,AV.bool p5.cas,AV.int .i64 p6]))] [] [] 0 0 0
noncomputable def O15_4 (p1:Pos) (p2:Mv) (p3:Pos) (p4:Pos) (p5:Mv) (p6:Int) (y:(Pos)):FRes := .ret (AV.tuple []) (Hp.mk [(pc p1 []),[AV.int .i8 p2.frm,AV.int .i8 p2.to,AV.int .u8 p2.pro,AV.int .u8 p2.drp,AV.bool p2.cas],[AV.int .u8 0,AV.ints .u8 64 (li (List.replicate 64 0)),AV.u64 0,AV.ints .u8 12 (li [0,0,0,0,0,0,0,0,0,0,0,0]),AV.int .u8 0,AV.ints .i8 4 (li [0,0,0,0]),AV.int .i8 0,AV.ints .u8 2 (li [0,0]),AV.int .i64 0,AV.int .i64 0],(pc y (pc p4 [AV.int .i8 p5.frm,AV.int .i8 p5.to,AV.int .u8 p5.pro,AV.int .u8 p5.drp,AV.bool p5.cas,AV.int .i64 p6]))] [] [] 0 0 0)
noncomputable def vF15_4 (p1:Pos) (p2:Mv) (p3:Pos) (p4:Pos) (p5:Mv) (p6:Int):(Pos):=(bif p3.variant != 3 then (p3) else (bif decide (p6 < 0) then (p3) else (((lp15_3 (N75 (N76 p3 (wr .i64 p5.to))) (Int.ofNat (N75 (N76 p3 (wr .i64 p5.to))).length) p1 p2 p4 p5 p6 (0,p3)).getD default).snd.snd)))
noncomputable def okF15_4 (p1:Pos) (p2:Mv) (p3:Pos) (p4:Pos) (p5:Mv) (p6:Int):Bool:=(bif p3.variant != 3 then true else (bif decide (p6 < 0) then true else (ok76 (p3) (wr .i64 p5.to)&&(ok75 (N76 p3 (wr .i64 p5.to))&&((lp15_3 (N75 (N76 p3 (wr .i64 p5.to))) (Int.ofNat (N75 (N76 p3 (wr .i64 p5.to))).length) p1 p2 p4 p5 p6 (0,p3)).isSome&&true)))))
abbrev DF15_4 {α:Type} (k:Pos→Mv→Pos→Pos→Mv→Int→α) (s:St):α:=wP s 0 fun q0=>wP s 3 fun q3=>wM s 1 fun q1=>k q0 q1 q3 (Kz.Pos.mk (tI (tH s 3 10)) (tN (tH s 3 11)) (tU (tH s 3 12)) (tN (tH s 3 13)) (tI (tH s 3 14)) (tN (tH s 3 15)) (tI (tH s 3 16)) (tN (tH s 3 17)) (tI (tH s 3 18)) (tI (tH s 3 19))) (Kz.Mv.mk (tI (tH s 3 20)) (tI (tH s 3 21)) (tI (tH s 3 22)) (tI (tH s 3 23)) (tB (tH s 3 24))) (tI (tH s 3 25))
theorem PF15_4 (p1:Pos) (p2:Mv) (p3:Pos) (p4:Pos) (p5:Mv) (p6:Int) (h:okF15_4 p1 p2 p3 p4 p5 p6=true):FSpec Pz 32 (A15_4 p1 p2 p3 p4 p5 p6) (H15_4 p1 p2 p3 p4 p5 p6) (O15_4 p1 p2 p3 p4 p5 p6 (vF15_4 p1 p2 p3 p4 p5 p6))∧∃ fn,Pz.funcs[32]?=some fn∧fn.body.isSome=true:=fs_sumd (n:=14) (O:=O15_4 p1 p2 p3 p4 p5 p6) hB15_4 (fun o=>match o with | .ret v h=>(let s:St:=⟨[v],h⟩; wP s 3 fun q3=>some q3) | _=>none) (fun _=>rfl) (by kernel_rfl) (by kernel_rfl) (by kernel_rfl) (by kernel_rfl) h
noncomputable def FF15_4 (xs:List AV) (h:Hp):Tr FRes:=DF15_4 (fun p1 p2 p3 p4 p5 p6=>fk xs h (A15_4 p1 p2 p3 p4 p5 p6) (H15_4 p1 p2 p3 p4 p5 p6) (okF15_4 p1 p2 p3 p4 p5 p6) (O15_4 p1 p2 p3 p4 p5 p6) (vF15_4 p1 p2 p3 p4 p5 p6)) ⟨xs,h⟩
theorem sFF15_4:FSound Pz 32 FF15_4:=fun _ _ _ h=>fk_ok (PF15_4 _ _ _ _ _ _) h
noncomputable def B15_6:Base:=baseOf Pz (fun f i=>lkC f i K15) [(82,G82),(28,G28),(27,G27),(29,G29),(80,G80),(68,G68),(70,G70),(71,G71),(72,G72),(74,G74),(75,G75),(76,G76),(78,G78),(79,G79),(81,G81)] [(32,2,F15_3)] [(30,FF15_1),(31,FF15_2),(32,FF15_4)]
theorem hB15_6:BOk B15_6:=base_ok named_z ⟨s82,s28,s27,s29,s80,s68,s70,s71,s72,s74,s75,s76,s78,s79,s81,trivial⟩ ⟨sF15_3,trivial⟩ ⟨sFF15_1,sFF15_2,sFF15_4,trivial⟩
noncomputable def S15_6 (p1:Int) (p2:Int) (p3:(List Int)) (p4:Pos) (p5:Mv) (p6:Pos) (p7:Mv) (p8:Int) (x:(Int×Pos)):St:=St.mk (AV.ptr 3 0::AV.any::AV.int .u8 p1::AV.int .i64 p2::(an 42 (AV.agg [AV.ints .i8 2 p3]::AV.int .i64 x.fst::(an 73 [])))) (Hp.mk [(pc p4 []),[AV.int .i8 p5.frm,AV.int .i8 p5.to,AV.int .u8 p5.pro,AV.int .u8 p5.drp,AV.bool p5.cas],[AV.int .u8 0,AV.ints .u8 64 (li (List.replicate 64 0)),AV.u64 0,AV.ints .u8 12 (li [0,0,0,0,0,0,0,0,0,0,0,0]),AV.int .u8 0,AV.ints .i8 4 (li [0,0,0,0]),AV.int .i8 0,AV.ints .u8 2 (li [0,0]),AV.int .i64 0,AV.int .i64 0],(pc x.snd (pc p6 [AV.int .i8 p7.frm,AV.int .i8 p7.to,AV.int .u8 p7.pro,AV.int .u8 p7.drp,AV.bool p7.cas,AV.int .i64 p8]))] [] [] 0 0 0)
noncomputable def O15_6 (p1:Int) (p2:Int) (p3:(List Int)) (p4:Pos) (p5:Mv) (p6:Pos) (p7:Mv) (p8:Int):(Int×Bool×Pos)→Out:=fun y=>.exit 2 (St.mk (AV.ptr 3 0::AV.any::AV.int .u8 p1::AV.int .i64 p2::(an 42 (AV.agg [AV.ints .i8 2 p3]::AV.int .i64 y.fst::AV.bool y.snd.fst::(an 72 [])))) (Hp.mk [(pc p4 []),[AV.int .i8 p5.frm,AV.int .i8 p5.to,AV.int .u8 p5.pro,AV.int .u8 p5.drp,AV.bool p5.cas],[AV.int .u8 0,AV.ints .u8 64 (li (List.replicate 64 0)),AV.u64 0,AV.ints .u8 12 (li [0,0,0,0,0,0,0,0,0,0,0,0]),AV.int .u8 0,AV.ints .i8 4 (li [0,0,0,0]),AV.int .i8 0,AV.ints .u8 2 (li [0,0]),AV.int .i64 0,AV.int .i64 0],(pc y.snd.snd (pc p6 [AV.int .i8 p7.frm,AV.int .i8 p7.to,AV.int .u8 p7.pro,AV.int .u8 p7.drp,AV.bool p7.cas,AV.int .i64 p8]))] [] [] 0 0 0))
noncomputable def st15_6 (p1:Int) (p2:Int) (p3:(List Int)) (p4:Pos) (p5:Mv) (p6:Pos) (p7:Mv) (p8:Int) (x:(Int×Pos)):Stp (Int×Pos) ((Int×Bool×Pos)):=(bif decide (x.fst < 2) then (bif decide (p3.getD x.fst.toNat 0 < 0) then (Stp.go (wr .i64 (x.fst+1),x.snd)) else (bif decide (p3.getD x.fst.toNat 0 > 7) then (Stp.go (wr .i64 (x.fst+1),x.snd)) else (bif p8==wr .i64 (wr .i64 (56 * wr .i64 p1)+wr .i64 (p3.getD x.fst.toNat 0)) then (Stp.go (wr .i64 (x.fst+1),Pos.mk x.snd.variant x.snd.board x.snd.promoted x.snd.pockets x.snd.turn (x.snd.rooks.set (scale 2 p1+scale 1 x.fst).toNat (-1)) x.snd.passing x.snd.checks x.snd.half x.snd.full)) else (bif p7.drp==0 then (bif wr .i64 p7.frm==wr .i64 (wr .i64 (56 * wr .i64 p1)+wr .i64 (p3.getD x.fst.toNat 0)) then (Stp.go (wr .i64 (x.fst+1),Pos.mk x.snd.variant x.snd.board x.snd.promoted x.snd.pockets x.snd.turn (x.snd.rooks.set (scale 2 p1+scale 1 x.fst).toNat (-1)) x.snd.passing x.snd.checks x.snd.half x.snd.full)) else (bif decide (p2 < 0) then (Stp.go (wr .i64 (x.fst+1),Pos.mk x.snd.variant x.snd.board x.snd.promoted x.snd.pockets x.snd.turn (x.snd.rooks.set (scale 2 p1+scale 1 x.fst).toNat (-1)) x.snd.passing x.snd.checks x.snd.half x.snd.full)) else (bif wr .i64 (p2.tdiv 8) != wr .i64 (7 * wr .i64 p1) then (Stp.go (wr .i64 (x.fst+1),Pos.mk x.snd.variant x.snd.board x.snd.promoted x.snd.pockets x.snd.turn (x.snd.rooks.set (scale 2 p1+scale 1 x.fst).toNat (-1)) x.snd.passing x.snd.checks x.snd.half x.snd.full)) else (bif x.snd.board.getD (scale 1 (wr .i64 (wr .i64 (56 * wr .i64 p1)+wr .i64 (p3.getD x.fst.toNat 0)))).toNat 0 != N72 p1 4 then (Stp.go (wr .i64 (x.fst+1),Pos.mk x.snd.variant x.snd.board x.snd.promoted x.snd.pockets x.snd.turn (x.snd.rooks.set (scale 2 p1+scale 1 x.fst).toNat (-1)) x.snd.passing x.snd.checks x.snd.half x.snd.full)) else (Stp.go (wr .i64 (x.fst+1),x.snd)))))) else (bif decide (p2 < 0) then (Stp.go (wr .i64 (x.fst+1),Pos.mk x.snd.variant x.snd.board x.snd.promoted x.snd.pockets x.snd.turn (x.snd.rooks.set (scale 2 p1+scale 1 x.fst).toNat (-1)) x.snd.passing x.snd.checks x.snd.half x.snd.full)) else (bif wr .i64 (p2.tdiv 8) != wr .i64 (7 * wr .i64 p1) then (Stp.go (wr .i64 (x.fst+1),Pos.mk x.snd.variant x.snd.board x.snd.promoted x.snd.pockets x.snd.turn (x.snd.rooks.set (scale 2 p1+scale 1 x.fst).toNat (-1)) x.snd.passing x.snd.checks x.snd.half x.snd.full)) else (bif x.snd.board.getD (scale 1 (wr .i64 (wr .i64 (56 * wr .i64 p1)+wr .i64 (p3.getD x.fst.toNat 0)))).toNat 0 != N72 p1 4 then (Stp.go (wr .i64 (x.fst+1),Pos.mk x.snd.variant x.snd.board x.snd.promoted x.snd.pockets x.snd.turn (x.snd.rooks.set (scale 2 p1+scale 1 x.fst).toNat (-1)) x.snd.passing x.snd.checks x.snd.half x.snd.full)) else (Stp.go (wr .i64 (x.fst+1),x.snd))))))))) else (Stp.out ((x.fst,decide (x.fst < 2),x.snd))))
noncomputable def okL15_6 (p1:Int) (p2:Int) (p3:(List Int)) (p4:Pos) (p5:Mv) (p6:Pos) (p7:Mv) (p8:Int) (x:(Int×Pos)):Bool:=(bif decide (x.fst < 2) then (decide (0≤x.fst)&&decide (x.fst < Int.ofNat 2)&&(bif decide (p3.getD x.fst.toNat 0 < 0) then true else (bif decide (p3.getD x.fst.toNat 0 > 7) then true else (bif p8==wr .i64 (wr .i64 (56 * wr .i64 p1)+wr .i64 (p3.getD x.fst.toNat 0)) then (decide (0≤p1)&&decide (p1 < Int.ofNat 2)&&(decide (0≤x.fst)&&decide (x.fst < Int.ofNat 2)&&true)) else (bif p7.drp==0 then (bif wr .i64 p7.frm==wr .i64 (wr .i64 (56 * wr .i64 p1)+wr .i64 (p3.getD x.fst.toNat 0)) then (decide (0≤p1)&&decide (p1 < Int.ofNat 2)&&(decide (0≤x.fst)&&decide (x.fst < Int.ofNat 2)&&true)) else (bif decide (p2 < 0) then (decide (0≤p1)&&decide (p1 < Int.ofNat 2)&&(decide (0≤x.fst)&&decide (x.fst < Int.ofNat 2)&&true)) else (bif wr .i64 (p2.tdiv 8) != wr .i64 (7 * wr .i64 p1) then (decide (0≤p1)&&decide (p1 < Int.ofNat 2)&&(decide (0≤x.fst)&&decide (x.fst < Int.ofNat 2)&&true)) else (decide (0≤wr .i64 (wr .i64 (56 * wr .i64 p1)+wr .i64 (p3.getD x.fst.toNat 0)))&&decide (wr .i64 (wr .i64 (56 * wr .i64 p1)+wr .i64 (p3.getD x.fst.toNat 0)) < Int.ofNat 64)&&(bif x.snd.board.getD (scale 1 (wr .i64 (wr .i64 (56 * wr .i64 p1)+wr .i64 (p3.getD x.fst.toNat 0)))).toNat 0 != N72 p1 4 then (decide (0≤p1)&&decide (p1 < Int.ofNat 2)&&(decide (0≤x.fst)&&decide (x.fst < Int.ofNat 2)&&true)) else true))))) else (bif decide (p2 < 0) then (decide (0≤p1)&&decide (p1 < Int.ofNat 2)&&(decide (0≤x.fst)&&decide (x.fst < Int.ofNat 2)&&true)) else (bif wr .i64 (p2.tdiv 8) != wr .i64 (7 * wr .i64 p1) then (decide (0≤p1)&&decide (p1 < Int.ofNat 2)&&(decide (0≤x.fst)&&decide (x.fst < Int.ofNat 2)&&true)) else (decide (0≤wr .i64 (wr .i64 (56 * wr .i64 p1)+wr .i64 (p3.getD x.fst.toNat 0)))&&decide (wr .i64 (wr .i64 (56 * wr .i64 p1)+wr .i64 (p3.getD x.fst.toNat 0)) < Int.ofNat 64)&&(bif x.snd.board.getD (scale 1 (wr .i64 (wr .i64 (56 * wr .i64 p1)+wr .i64 (p3.getD x.fst.toNat 0)))).toNat 0 != N72 p1 4 then (decide (0≤p1)&&decide (p1 < Int.ofNat 2)&&(decide (0≤x.fst)&&decide (x.fst < Int.ofNat 2)&&true)) else true))))))))) else true)
noncomputable def lp15_6 (p1:Int) (p2:Int) (p3:(List Int)) (p4:Pos) (p5:Mv) (p6:Pos) (p7:Mv) (p8:Int) (x:(Int×Pos)):Option ((Int×Bool×Pos)):=itl (fun x=>bif okL15_6 p1 p2 p3 p4 p5 p6 p7 p8 x then st15_6 p1 p2 p3 p4 p5 p6 p7 p8 x else .bad) many x
abbrev D15_6 {α:Type} (k:Int→Int→(List Int)→Pos→Mv→Pos→Mv→Int→(Int×Pos)→α) (s:St):α:=wP s 0 fun q0=>wP s 3 fun q3=>wM s 1 fun q1=>k (tI (tT s 2)) (tI (tT s 3)) (tN (tX (tA (tT s 46)) 0)) q0 q1 (Kz.Pos.mk (tI (tH s 3 10)) (tN (tH s 3 11)) (tU (tH s 3 12)) (tN (tH s 3 13)) (tI (tH s 3 14)) (tN (tH s 3 15)) (tI (tH s 3 16)) (tN (tH s 3 17)) (tI (tH s 3 18)) (tI (tH s 3 19))) (Kz.Mv.mk (tI (tH s 3 20)) (tI (tH s 3 21)) (tI (tH s 3 22)) (tI (tH s 3 23)) (tB (tH s 3 24))) (tI (tH s 3 25)) ((tI (tT s 47)),q3)
theorem L15_6 (p1:Int) (p2:Int) (p3:(List Int)) (p4:Pos) (p5:Mv) (p6:Pos) (p7:Mv) (p8:Int) (x:(Int×Pos)) (r:(Int×Bool×Pos)) (h:lp15_6 p1 p2 p3 p4 p5 p6 p7 p8 x=some r):LSpec Pz (bodL Pz 33 7) (S15_6 p1 p2 p3 p4 p5 p6 p7 p8 x) (O15_6 p1 p2 p3 p4 p5 p6 p7 p8 r):=LSpec.smd (m:=12) (fn:=33) hB15_6 (D15_6 fun _ _ _ _ _ _ _ _ x=>some x) (fun o=>match o with | .exit 2 s=>wP s 3 fun q3=>some ((tI (tT s 47)),(tB (tT s 48)),q3) | _=>none) (fun _=>rfl) (fun _=>by kernel_rfl) (fun _=>by kernel_rfl) (fun _=>by kernel_rfl) (fun _=>by kernel_rfl) many x r h
noncomputable def F15_6 (b:Code) (s:St):Tr Out:=D15_6 (fun p1 p2 p3 p4 p5 p6 p7 p8 x=>lk1 b (bodL Pz 33 7) s (S15_6 p1 p2 p3 p4 p5 p6 p7 p8 x) (lp15_6 p1 p2 p3 p4 p5 p6 p7 p8 x) (O15_6 p1 p2 p3 p4 p5 p6 p7 p8)) s
theorem sF15_6:∀ b,LSound Pz b (F15_6 b):=fun _ _ _ h=>lk1_ok (L15_6 _ _ _ _ _ _ _ _ _) h
noncomputable def B15_7:Base:=baseOf Pz (fun f i=>lkC f i K15) [(82,G82),(28,G28),(27,G27),(29,G29),(80,G80),(68,G68),(70,G70),(71,G71),(72,G72),(74,G74),(75,G75),(76,G76),(78,G78),(79,G79),(81,G81)] [(32,2,F15_3),(33,7,F15_6)] [(30,FF15_1),(31,FF15_2),(32,FF15_4)]
theorem hB15_7:BOk B15_7:=base_ok named_z ⟨s82,s28,s27,s29,s80,s68,s70,s71,s72,s74,s75,s76,s78,s79,s81,trivial⟩ ⟨sF15_3,sF15_6,trivial⟩ ⟨sFF15_1,sFF15_2,sFF15_4,trivial⟩
noncomputable def S15_7 (p1:Pos) (p2:Mv) (p3:Pos) (p4:Mv) (p5:Int) (x:(Int×Pos)):St:=St.mk (AV.ptr 3 0::AV.any::AV.int .u8 x.fst::(an 118 [])) (Hp.mk [(pc p1 []),[AV.int .i8 p2.frm,AV.int .i8 p2.to,AV.int .u8 p2.pro,AV.int .u8 p2.drp,AV.bool p2.cas],[AV.int .u8 0,AV.ints .u8 64 (li (List.replicate 64 0)),AV.u64 0,AV.ints .u8 12 (li [0,0,0,0,0,0,0,0,0,0,0,0]),AV.int .u8 0,AV.ints .i8 4 (li [0,0,0,0]),AV.int .i8 0,AV.ints .u8 2 (li [0,0]),AV.int .i64 0,AV.int .i64 0],(pc x.snd (pc p3 [AV.int .i8 p4.frm,AV.int .i8 p4.to,AV.int .u8 p4.pro,AV.int .u8 p4.drp,AV.bool p4.cas,AV.int .i64 p5]))] [] [] 0 0 0)
noncomputable def O15_7 (p1:Pos) (p2:Mv) (p3:Pos) (p4:Mv) (p5:Int):(Int×Bool×Pos)→Out:=fun y=>.exit 0 (St.mk (AV.ptr 3 0::AV.any::AV.int .u8 y.fst::(an 28 (AV.bool y.snd.fst::(an 89 [])))) (Hp.mk [(pc p1 []),[AV.int .i8 p2.frm,AV.int .i8 p2.to,AV.int .u8 p2.pro,AV.int .u8 p2.drp,AV.bool p2.cas],[AV.int .u8 0,AV.ints .u8 64 (li (List.replicate 64 0)),AV.u64 0,AV.ints .u8 12 (li [0,0,0,0,0,0,0,0,0,0,0,0]),AV.int .u8 0,AV.ints .i8 4 (li [0,0,0,0]),AV.int .i8 0,AV.ints .u8 2 (li [0,0]),AV.int .i64 0,AV.int .i64 0],(pc y.snd.snd (pc p3 [AV.int .i8 p4.frm,AV.int .i8 p4.to,AV.int .u8 p4.pro,AV.int .u8 p4.drp,AV.bool p4.cas,AV.int .i64 p5]))] [] [] 0 0 0))
noncomputable def st15_7 (p1:Pos) (p2:Mv) (p3:Pos) (p4:Mv) (p5:Int) (x:(Int×Pos)):Stp (Int×Pos) ((Int×Bool×Pos)):=(bif decide (x.fst≤1) then (Stp.go (wr .u8 (x.fst+1),((lp15_6 x.fst (N78 x.snd x.fst 6) (List.take 2 (List.drop (scale 2 x.fst).toNat x.snd.rooks)) p1 p2 p3 p4 p5 (0,x.snd)).getD default).snd.snd)) else (Stp.out ((x.fst,decide (x.fst≤1),x.snd))))
noncomputable def okL15_7 (p1:Pos) (p2:Mv) (p3:Pos) (p4:Mv) (p5:Int) (x:(Int×Pos)):Bool:=(bif decide (x.fst≤1) then (ok78 (x.snd) (x.fst) (6)&&(decide (0≤x.fst)&&decide (x.fst < Int.ofNat 2)&&((lp15_6 x.fst (N78 x.snd x.fst 6) (List.take 2 (List.drop (scale 2 x.fst).toNat x.snd.rooks)) p1 p2 p3 p4 p5 (0,x.snd)).isSome&&true))) else true)
noncomputable def lp15_7 (p1:Pos) (p2:Mv) (p3:Pos) (p4:Mv) (p5:Int) (x:(Int×Pos)):Option ((Int×Bool×Pos)):=itl (fun x=>bif okL15_7 p1 p2 p3 p4 p5 x then st15_7 p1 p2 p3 p4 p5 x else .bad) many x
abbrev D15_7 {α:Type} (k:Pos→Mv→Pos→Mv→Int→(Int×Pos)→α) (s:St):α:=wP s 0 fun q0=>wP s 3 fun q3=>wM s 1 fun q1=>k q0 q1 (Kz.Pos.mk (tI (tH s 3 10)) (tN (tH s 3 11)) (tU (tH s 3 12)) (tN (tH s 3 13)) (tI (tH s 3 14)) (tN (tH s 3 15)) (tI (tH s 3 16)) (tN (tH s 3 17)) (tI (tH s 3 18)) (tI (tH s 3 19))) (Kz.Mv.mk (tI (tH s 3 20)) (tI (tH s 3 21)) (tI (tH s 3 22)) (tI (tH s 3 23)) (tB (tH s 3 24))) (tI (tH s 3 25)) ((tI (tT s 2)),q3)
theorem L15_7 (p1:Pos) (p2:Mv) (p3:Pos) (p4:Mv) (p5:Int) (x:(Int×Pos)) (r:(Int×Bool×Pos)) (h:lp15_7 p1 p2 p3 p4 p5 x=some r):LSpec Pz (bodL Pz 33 3) (S15_7 p1 p2 p3 p4 p5 x) (O15_7 p1 p2 p3 p4 p5 r):=LSpec.smd (m:=12) (fn:=33) hB15_7 (D15_7 fun _ _ _ _ _ x=>some x) (fun o=>match o with | .exit 0 s=>wP s 3 fun q3=>some ((tI (tT s 2)),(tB (tT s 31)),q3) | _=>none) (fun _=>rfl) (fun _=>by kernel_rfl) (fun _=>by kernel_rfl) (fun _=>by kernel_rfl) (fun _=>by kernel_rfl) many x r h
noncomputable def F15_7 (b:Code) (s:St):Tr Out:=D15_7 (fun p1 p2 p3 p4 p5 x=>lk1 b (bodL Pz 33 3) s (S15_7 p1 p2 p3 p4 p5 x) (lp15_7 p1 p2 p3 p4 p5 x) (O15_7 p1 p2 p3 p4 p5)) s
theorem sF15_7:∀ b,LSound Pz b (F15_7 b):=fun _ _ _ h=>lk1_ok (L15_7 _ _ _ _ _ _) h
noncomputable def B15_8:Base:=baseOf Pz (fun f i=>lkC f i K15) [(82,G82),(28,G28),(27,G27),(29,G29),(80,G80),(68,G68),(70,G70),(71,G71),(72,G72),(74,G74),(75,G75),(76,G76),(78,G78),(79,G79),(81,G81)] [(32,2,F15_3),(33,7,F15_6),(33,3,F15_7)] [(30,FF15_1),(31,FF15_2),(32,FF15_4)]
theorem hB15_8:BOk B15_8:=base_ok named_z ⟨s82,s28,s27,s29,s80,s68,s70,s71,s72,s74,s75,s76,s78,s79,s81,trivial⟩ ⟨sF15_3,sF15_6,sF15_7,trivial⟩ ⟨sFF15_1,sFF15_2,sFF15_4,trivial⟩
noncomputable def A15_8 (p1:Pos) (p2:Mv) (p3:Pos) (p4:Pos) (p5:Mv) (p6:Int):List AV:=[AV.ptr 3 0]
noncomputable def H15_8 (p1:Pos) (p2:Mv) (p3:Pos) (p4:Pos) (p5:Mv) (p6:Int):Hp:=Hp.mk [(pc p1 []),[AV.int .i8 p2.frm,AV.int .i8 p2.to,AV.int .u8 p2.pro,AV.int .u8 p2.drp,AV.bool p2.cas],[AV.int .u8 0,AV.ints .u8 64 (li (List.replicate 64 0)),AV.u64 0,AV.ints .u8 12 (li [0,0,0,0,0,0,0,0,0,0,0,0]),AV.int .u8 0,AV.ints .i8 4 (li [0,0,0,0]),AV.int .i8 0,AV.ints .u8 2 (li [0,0]),AV.int .i64 0,AV.int .i64 0],(pc p3 (pc p4 [AV.int .i8 p5.frm,AV.int .i8 p5.to,AV.int .u8 p5.pro,AV.int .u8 p5.drp,AV.bool p5.cas,AV.int .i64 p6]))] [] [] 0 0 0
noncomputable def O15_8 (p1:Pos) (p2:Mv) (p3:Pos) (p4:Pos) (p5:Mv) (p6:Int) (y:(Pos)):FRes := .ret (AV.tuple []) (Hp.mk [(pc p1 []),[AV.int .i8 p2.frm,AV.int .i8 p2.to,AV.int .u8 p2.pro,AV.int .u8 p2.drp,AV.bool p2.cas],[AV.int .u8 0,AV.ints .u8 64 (li (List.replicate 64 0)),AV.u64 0,AV.ints .u8 12 (li [0,0,0,0,0,0,0,0,0,0,0,0]),AV.int .u8 0,AV.ints .i8 4 (li [0,0,0,0]),AV.int .i8 0,AV.ints .u8 2 (li [0,0]),AV.int .i64 0,AV.int .i64 0],(pc y (pc p4 [AV.int .i8 p5.frm,AV.int .i8 p5.to,AV.int .u8 p5.pro,AV.int .u8 p5.drp,AV.bool p5.cas,AV.int .i64 p6]))] [] [] 0 0 0)
noncomputable def vF15_8 (p1:Pos) (p2:Mv) (p3:Pos) (p4:Pos) (p5:Mv) (p6:Int):(Pos):=(bif p5.drp != 0 then (bif p5.drp==6 then (bif p5.drp==0 then (((lp15_7 p1 p2 p4 p5 p6 (0,Pos.mk p3.variant p3.board p3.promoted p3.pockets p3.turn (List.take (scale 2 p3.turn).toNat p3.rooks++li [-1,-1]++List.drop ((scale 2 p3.turn).toNat+2) p3.rooks) p3.passing p3.checks p3.half p3.full)).getD default).snd.snd) else (((lp15_7 p1 p2 p4 p5 p6 (0,p3)).getD default).snd.snd)) else (((lp15_7 p1 p2 p4 p5 p6 (0,p3)).getD default).snd.snd)) else (bif N68 (p4.board.getD (scale 1 p5.frm).toNat 0)==6 then (bif p5.drp==0 then (((lp15_7 p1 p2 p4 p5 p6 (0,Pos.mk p3.variant p3.board p3.promoted p3.pockets p3.turn (List.take (scale 2 p3.turn).toNat p3.rooks++li [-1,-1]++List.drop ((scale 2 p3.turn).toNat+2) p3.rooks) p3.passing p3.checks p3.half p3.full)).getD default).snd.snd) else (((lp15_7 p1 p2 p4 p5 p6 (0,p3)).getD default).snd.snd)) else (((lp15_7 p1 p2 p4 p5 p6 (0,p3)).getD default).snd.snd)))
noncomputable def okF15_8 (p1:Pos) (p2:Mv) (p3:Pos) (p4:Pos) (p5:Mv) (p6:Int):Bool:=(bif p5.drp != 0 then (bif p5.drp==6 then (bif p5.drp==0 then (decide (0≤p3.turn)&&decide (p3.turn < Int.ofNat 2)&&((lp15_7 p1 p2 p4 p5 p6 (0,Pos.mk p3.variant p3.board p3.promoted p3.pockets p3.turn (List.take (scale 2 p3.turn).toNat p3.rooks++li [-1,-1]++List.drop ((scale 2 p3.turn).toNat+2) p3.rooks) p3.passing p3.checks p3.half p3.full)).isSome&&true)) else ((lp15_7 p1 p2 p4 p5 p6 (0,p3)).isSome&&true)) else ((lp15_7 p1 p2 p4 p5 p6 (0,p3)).isSome&&true)) else (decide (0≤p5.frm)&&decide (p5.frm < Int.ofNat 64)&&(bif N68 (p4.board.getD (scale 1 p5.frm).toNat 0)==6 then (bif p5.drp==0 then (decide (0≤p3.turn)&&decide (p3.turn < Int.ofNat 2)&&((lp15_7 p1 p2 p4 p5 p6 (0,Pos.mk p3.variant p3.board p3.promoted p3.pockets p3.turn (List.take (scale 2 p3.turn).toNat p3.rooks++li [-1,-1]++List.drop ((scale 2 p3.turn).toNat+2) p3.rooks) p3.passing p3.checks p3.half p3.full)).isSome&&true)) else ((lp15_7 p1 p2 p4 p5 p6 (0,p3)).isSome&&true)) else ((lp15_7 p1 p2 p4 p5 p6 (0,p3)).isSome&&true))))
abbrev DF15_8 {α:Type} (k:Pos→Mv→Pos→Pos→Mv→Int→α) (s:St):α:=wP s 0 fun q0=>wP s 3 fun q3=>wM s 1 fun q1=>k q0 q1 q3 (Kz.Pos.mk (tI (tH s 3 10)) (tN (tH s 3 11)) (tU (tH s 3 12)) (tN (tH s 3 13)) (tI (tH s 3 14)) (tN (tH s 3 15)) (tI (tH s 3 16)) (tN (tH s 3 17)) (tI (tH s 3 18)) (tI (tH s 3 19))) (Kz.Mv.mk (tI (tH s 3 20)) (tI (tH s 3 21)) (tI (tH s 3 22)) (tI (tH s 3 23)) (tB (tH s 3 24))) (tI (tH s 3 25))
theorem PF15_8 (p1:Pos) (p2:Mv) (p3:Pos) (p4:Pos) (p5:Mv) (p6:Int) (h:okF15_8 p1 p2 p3 p4 p5 p6=true):FSpec Pz 33 (A15_8 p1 p2 p3 p4 p5 p6) (H15_8 p1 p2 p3 p4 p5 p6) (O15_8 p1 p2 p3 p4 p5 p6 (vF15_8 p1 p2 p3 p4 p5 p6))∧∃ fn,Pz.funcs[33]?=some fn∧fn.body.isSome=true:=fs_sumd (n:=14) (O:=O15_8 p1 p2 p3 p4 p5 p6) hB15_8 (fun o=>match o with | .ret v h=>(let s:St:=⟨[v],h⟩; wP s 3 fun q3=>some q3) | _=>none) (fun _=>rfl) (by kernel_rfl) (by kernel_rfl) (by kernel_rfl) (by kernel_rfl) h
noncomputable def FF15_8 (xs:List AV) (h:Hp):Tr FRes:=DF15_8 (fun p1 p2 p3 p4 p5 p6=>fk xs h (A15_8 p1 p2 p3 p4 p5 p6) (H15_8 p1 p2 p3 p4 p5 p6) (okF15_8 p1 p2 p3 p4 p5 p6) (O15_8 p1 p2 p3 p4 p5 p6) (vF15_8 p1 p2 p3 p4 p5 p6)) ⟨xs,h⟩
theorem sFF15_8:FSound Pz 33 FF15_8:=fun _ _ _ h=>fk_ok (PF15_8 _ _ _ _ _ _) h
noncomputable def B15_9:Base:=baseOf Pz (fun f i=>lkC f i K15) [(82,G82),(28,G28),(27,G27),(29,G29),(80,G80),(68,G68),(70,G70),(71,G71),(72,G72),(74,G74),(75,G75),(76,G76),(78,G78),(79,G79),(81,G81)] [(32,2,F15_3),(33,7,F15_6),(33,3,F15_7)] [(30,FF15_1),(31,FF15_2),(32,FF15_4),(33,FF15_8)]
theorem hB15_9:BOk B15_9:=base_ok named_z ⟨s82,s28,s27,s29,s80,s68,s70,s71,s72,s74,s75,s76,s78,s79,s81,trivial⟩ ⟨sF15_3,sF15_6,sF15_7,trivial⟩ ⟨sFF15_1,sFF15_2,sFF15_4,sFF15_8,trivial⟩
noncomputable def A15_9 (p1:Pos) (p2:Mv) (p3:Pos) (p4:Pos) (p5:Mv) (p6:Int):List AV:=[AV.ptr 3 0]
noncomputable def H15_9 (p1:Pos) (p2:Mv) (p3:Pos) (p4:Pos) (p5:Mv) (p6:Int):Hp:=Hp.mk [(pc p1 []),[AV.int .i8 p2.frm,AV.int .i8 p2.to,AV.int .u8 p2.pro,AV.int .u8 p2.drp,AV.bool p2.cas],[AV.int .u8 0,AV.ints .u8 64 (li (List.replicate 64 0)),AV.u64 0,AV.ints .u8 12 (li [0,0,0,0,0,0,0,0,0,0,0,0]),AV.int .u8 0,AV.ints .i8 4 (li [0,0,0,0]),AV.int .i8 0,AV.ints .u8 2 (li [0,0]),AV.int .i64 0,AV.int .i64 0],(pc p3 (pc p4 [AV.int .i8 p5.frm,AV.int .i8 p5.to,AV.int .u8 p5.pro,AV.int .u8 p5.drp,AV.bool p5.cas,AV.int .i64 p6]))] [] [] 0 0 0
noncomputable def O15_9 (p1:Pos) (p2:Mv) (p3:Pos) (p4:Pos) (p5:Mv) (p6:Int) (y:(Pos)):FRes := .ret (AV.tuple []) (Hp.mk [(pc p1 []),[AV.int .i8 p2.frm,AV.int .i8 p2.to,AV.int .u8 p2.pro,AV.int .u8 p2.drp,AV.bool p2.cas],[AV.int .u8 0,AV.ints .u8 64 (li (List.replicate 64 0)),AV.u64 0,AV.ints .u8 12 (li [0,0,0,0,0,0,0,0,0,0,0,0]),AV.int .u8 0,AV.ints .i8 4 (li [0,0,0,0]),AV.int .i8 0,AV.ints .u8 2 (li [0,0]),AV.int .i64 0,AV.int .i64 0],(pc y (pc p4 [AV.int .i8 p5.frm,AV.int .i8 p5.to,AV.int .u8 p5.pro,AV.int .u8 p5.drp,AV.bool p5.cas,AV.int .i64 p6]))] [] [] 0 0 0)
noncomputable def vF15_9 (p1:Pos) (p2:Mv) (p3:Pos) (p4:Pos) (p5:Mv) (p6:Int):(Pos):=(bif p5.drp != 0 then (bif p5.drp != 1 then (Pos.mk p3.variant p3.board p3.promoted p3.pockets p3.turn p3.rooks (-1) p3.checks p3.half p3.full) else (bif p5.drp != 0 then (Pos.mk p3.variant p3.board p3.promoted p3.pockets p3.turn p3.rooks (-1) p3.checks p3.half p3.full) else (bif wr .i8 (p5.to - p5.frm) != 16 then (bif wr .i8 (p5.frm - p5.to) != 16 then (Pos.mk p3.variant p3.board p3.promoted p3.pockets p3.turn p3.rooks (-1) p3.checks p3.half p3.full) else (bif wr .i8 (p5.frm.tdiv 8) != wr .i8 (wr .i8 (7 * wr .i8 p3.turn)+1) then (bif wr .i8 (p5.frm.tdiv 8) != wr .i8 (wr .i8 (7 * wr .i8 p3.turn) - 1) then (Pos.mk p3.variant p3.board p3.promoted p3.pockets p3.turn p3.rooks (-1) p3.checks p3.half p3.full) else (bif N79 p3.turn (wr .i64 (wr .i8 ((wr .i8 (p5.frm+p5.to)).tdiv 2)))&&&N80 (Pos.mk p3.variant p3.board p3.promoted p3.pockets p3.turn p3.rooks (-1) p3.checks p3.half p3.full) (wr .u8 (1 - p3.turn)) 1 != 0#64 then (Pos.mk p3.variant p3.board p3.promoted p3.pockets p3.turn p3.rooks (wr .i8 ((wr .i8 (p5.frm+p5.to)).tdiv 2)) p3.checks p3.half p3.full) else (Pos.mk p3.variant p3.board p3.promoted p3.pockets p3.turn p3.rooks (-1) p3.checks p3.half p3.full))) else (bif N79 p3.turn (wr .i64 (wr .i8 ((wr .i8 (p5.frm+p5.to)).tdiv 2)))&&&N80 (Pos.mk p3.variant p3.board p3.promoted p3.pockets p3.turn p3.rooks (-1) p3.checks p3.half p3.full) (wr .u8 (1 - p3.turn)) 1 != 0#64 then (Pos.mk p3.variant p3.board p3.promoted p3.pockets p3.turn p3.rooks (wr .i8 ((wr .i8 (p5.frm+p5.to)).tdiv 2)) p3.checks p3.half p3.full) else (Pos.mk p3.variant p3.board p3.promoted p3.pockets p3.turn p3.rooks (-1) p3.checks p3.half p3.full)))) else (bif wr .i8 (p5.frm.tdiv 8) != wr .i8 (wr .i8 (7 * wr .i8 p3.turn)+1) then (bif wr .i8 (p5.frm.tdiv 8) != wr .i8 (wr .i8 (7 * wr .i8 p3.turn) - 1) then (Pos.mk p3.variant p3.board p3.promoted p3.pockets p3.turn p3.rooks (-1) p3.checks p3.half p3.full) else (bif N79 p3.turn (wr .i64 (wr .i8 ((wr .i8 (p5.frm+p5.to)).tdiv 2)))&&&N80 (Pos.mk p3.variant p3.board p3.promoted p3.pockets p3.turn p3.rooks (-1) p3.checks p3.half p3.full) (wr .u8 (1 - p3.turn)) 1 != 0#64 then (Pos.mk p3.variant p3.board p3.promoted p3.pockets p3.turn p3.rooks (wr .i8 ((wr .i8 (p5.frm+p5.to)).tdiv 2)) p3.checks p3.half p3.full) else (Pos.mk p3.variant p3.board p3.promoted p3.pockets p3.turn p3.rooks (-1) p3.checks p3.half p3.full))) else (bif N79 p3.turn (wr .i64 (wr .i8 ((wr .i8 (p5.frm+p5.to)).tdiv 2)))&&&N80 (Pos.mk p3.variant p3.board p3.promoted p3.pockets p3.turn p3.rooks (-1) p3.checks p3.half p3.full) (wr .u8 (1 - p3.turn)) 1 != 0#64 then (Pos.mk p3.variant p3.board p3.promoted p3.pockets p3.turn p3.rooks (wr .i8 ((wr .i8 (p5.frm+p5.to)).tdiv 2)) p3.checks p3.half p3.full) else (Pos.mk p3.variant p3.board p3.promoted p3.pockets p3.turn p3.rooks (-1) p3.checks p3.half p3.full)))))) else (bif N68 (p4.board.getD (scale 1 p5.frm).toNat 0) != 1 then (Pos.mk p3.variant p3.board p3.promoted p3.pockets p3.turn p3.rooks (-1) p3.checks p3.half p3.full) else (bif p5.drp != 0 then (Pos.mk p3.variant p3.board p3.promoted p3.pockets p3.turn p3.rooks (-1) p3.checks p3.half p3.full) else (bif wr .i8 (p5.to - p5.frm) != 16 then (bif wr .i8 (p5.frm - p5.to) != 16 then (Pos.mk p3.variant p3.board p3.promoted p3.pockets p3.turn p3.rooks (-1) p3.checks p3.half p3.full) else (bif wr .i8 (p5.frm.tdiv 8) != wr .i8 (wr .i8 (7 * wr .i8 p3.turn)+1) then (bif wr .i8 (p5.frm.tdiv 8) != wr .i8 (wr .i8 (7 * wr .i8 p3.turn) - 1) then (Pos.mk p3.variant p3.board p3.promoted p3.pockets p3.turn p3.rooks (-1) p3.checks p3.half p3.full) else (bif N79 p3.turn (wr .i64 (wr .i8 ((wr .i8 (p5.frm+p5.to)).tdiv 2)))&&&N80 (Pos.mk p3.variant p3.board p3.promoted p3.pockets p3.turn p3.rooks (-1) p3.checks p3.half p3.full) (wr .u8 (1 - p3.turn)) 1 != 0#64 then (Pos.mk p3.variant p3.board p3.promoted p3.pockets p3.turn p3.rooks (wr .i8 ((wr .i8 (p5.frm+p5.to)).tdiv 2)) p3.checks p3.half p3.full) else (Pos.mk p3.variant p3.board p3.promoted p3.pockets p3.turn p3.rooks (-1) p3.checks p3.half p3.full))) else (bif N79 p3.turn (wr .i64 (wr .i8 ((wr .i8 (p5.frm+p5.to)).tdiv 2)))&&&N80 (Pos.mk p3.variant p3.board p3.promoted p3.pockets p3.turn p3.rooks (-1) p3.checks p3.half p3.full) (wr .u8 (1 - p3.turn)) 1 != 0#64 then (Pos.mk p3.variant p3.board p3.promoted p3.pockets p3.turn p3.rooks (wr .i8 ((wr .i8 (p5.frm+p5.to)).tdiv 2)) p3.checks p3.half p3.full) else (Pos.mk p3.variant p3.board p3.promoted p3.pockets p3.turn p3.rooks (-1) p3.checks p3.half p3.full)))) else (bif wr .i8 (p5.frm.tdiv 8) != wr .i8 (wr .i8 (7 * wr .i8 p3.turn)+1) then (bif wr .i8 (p5.frm.tdiv 8) != wr .i8 (wr .i8 (7 * wr .i8 p3.turn) - 1) then (Pos.mk p3.variant p3.board p3.promoted p3.pockets p3.turn p3.rooks (-1) p3.checks p3.half p3.full) else (bif N79 p3.turn (wr .i64 (wr .i8 ((wr .i8 (p5.frm+p5.to)).tdiv 2)))&&&N80 (Pos.mk p3.variant p3.board p3.promoted p3.pockets p3.turn p3.rooks (-1) p3.checks p3.half p3.full) (wr .u8 (1 - p3.turn)) 1 != 0#64 then (Pos.mk p3.variant p3.board p3.promoted p3.pockets p3.turn p3.rooks (wr .i8 ((wr .i8 (p5.frm+p5.to)).tdiv 2)) p3.checks p3.half p3.full) else (Pos.mk p3.variant p3.board p3.promoted p3.pockets p3.turn p3.rooks (-1) p3.checks p3.half p3.full))) else (bif N79 p3.turn (wr .i64 (wr .i8 ((wr .i8 (p5.frm+p5.to)).tdiv 2)))&&&N80 (Pos.mk p3.variant p3.board p3.promoted p3.pockets p3.turn p3.rooks (-1) p3.checks p3.half p3.full) (wr .u8 (1 - p3.turn)) 1 != 0#64 then (Pos.mk p3.variant p3.board p3.promoted p3.pockets p3.turn p3.rooks (wr .i8 ((wr .i8 (p5.frm+p5.to)).tdiv 2)) p3.checks p3.half p3.full) else (Pos.mk p3.variant p3.board p3.promoted p3.pockets p3.turn p3.rooks (-1) p3.checks p3.half p3.full)))))))
noncomputable def okF15_9 (p1:Pos) (p2:Mv) (p3:Pos) (p4:Pos) (p5:Mv) (p6:Int):Bool:=(bif p5.drp != 0 then (bif p5.drp != 1 then true else (bif p5.drp != 0 then true else (bif wr .i8 (p5.to - p5.frm) != 16 then (bif wr .i8 (p5.frm - p5.to) != 16 then true else (bif wr .i8 (p5.frm.tdiv 8) != wr .i8 (wr .i8 (7 * wr .i8 p3.turn)+1) then (bif wr .i8 (p5.frm.tdiv 8) != wr .i8 (wr .i8 (7 * wr .i8 p3.turn) - 1) then true else (ok79 (p3.turn) (wr .i64 (wr .i8 ((wr .i8 (p5.frm+p5.to)).tdiv 2)))&&(ok80 (Pos.mk p3.variant p3.board p3.promoted p3.pockets p3.turn p3.rooks (-1) p3.checks p3.half p3.full) (wr .u8 (1 - p3.turn)) (1)&&true))) else (ok79 (p3.turn) (wr .i64 (wr .i8 ((wr .i8 (p5.frm+p5.to)).tdiv 2)))&&(ok80 (Pos.mk p3.variant p3.board p3.promoted p3.pockets p3.turn p3.rooks (-1) p3.checks p3.half p3.full) (wr .u8 (1 - p3.turn)) (1)&&true)))) else (bif wr .i8 (p5.frm.tdiv 8) != wr .i8 (wr .i8 (7 * wr .i8 p3.turn)+1) then (bif wr .i8 (p5.frm.tdiv 8) != wr .i8 (wr .i8 (7 * wr .i8 p3.turn) - 1) then true else (ok79 (p3.turn) (wr .i64 (wr .i8 ((wr .i8 (p5.frm+p5.to)).tdiv 2)))&&(ok80 (Pos.mk p3.variant p3.board p3.promoted p3.pockets p3.turn p3.rooks (-1) p3.checks p3.half p3.full) (wr .u8 (1 - p3.turn)) (1)&&true))) else (ok79 (p3.turn) (wr .i64 (wr .i8 ((wr .i8 (p5.frm+p5.to)).tdiv 2)))&&(ok80 (Pos.mk p3.variant p3.board p3.promoted p3.pockets p3.turn p3.rooks (-1) p3.checks p3.half p3.full) (wr .u8 (1 - p3.turn)) (1)&&true)))))) else (decide (0≤p5.frm)&&decide (p5.frm < Int.ofNat 64)&&(bif N68 (p4.board.getD (scale 1 p5.frm).toNat 0) != 1 then true else (bif p5.drp != 0 then true else (bif wr .i8 (p5.to - p5.frm) != 16 then (bif wr .i8 (p5.frm - p5.to) != 16 then true else (bif wr .i8 (p5.frm.tdiv 8) != wr .i8 (wr .i8 (7 * wr .i8 p3.turn)+1) then (bif wr .i8 (p5.frm.tdiv 8) != wr .i8 (wr .i8 (7 * wr .i8 p3.turn) - 1) then true else (ok79 (p3.turn) (wr .i64 (wr .i8 ((wr .i8 (p5.frm+p5.to)).tdiv 2)))&&(ok80 (Pos.mk p3.variant p3.board p3.promoted p3.pockets p3.turn p3.rooks (-1) p3.checks p3.half p3.full) (wr .u8 (1 - p3.turn)) (1)&&true))) else (ok79 (p3.turn) (wr .i64 (wr .i8 ((wr .i8 (p5.frm+p5.to)).tdiv 2)))&&(ok80 (Pos.mk p3.variant p3.board p3.promoted p3.pockets p3.turn p3.rooks (-1) p3.checks p3.half p3.full) (wr .u8 (1 - p3.turn)) (1)&&true)))) else (bif wr .i8 (p5.frm.tdiv 8) != wr .i8 (wr .i8 (7 * wr .i8 p3.turn)+1) then (bif wr .i8 (p5.frm.tdiv 8) != wr .i8 (wr .i8 (7 * wr .i8 p3.turn) - 1) then true else (ok79 (p3.turn) (wr .i64 (wr .i8 ((wr .i8 (p5.frm+p5.to)).tdiv 2)))&&(ok80 (Pos.mk p3.variant p3.board p3.promoted p3.pockets p3.turn p3.rooks (-1) p3.checks p3.half p3.full) (wr .u8 (1 - p3.turn)) (1)&&true))) else (ok79 (p3.turn) (wr .i64 (wr .i8 ((wr .i8 (p5.frm+p5.to)).tdiv 2)))&&(ok80 (Pos.mk p3.variant p3.board p3.promoted p3.pockets p3.turn p3.rooks (-1) p3.checks p3.half p3.full) (wr .u8 (1 - p3.turn)) (1)&&true))))))))
abbrev DF15_9 {α:Type} (k:Pos→Mv→Pos→Pos→Mv→Int→α) (s:St):α:=wP s 0 fun q0=>wP s 3 fun q3=>wM s 1 fun q1=>k q0 q1 q3 (Kz.Pos.mk (tI (tH s 3 10)) (tN (tH s 3 11)) (tU (tH s 3 12)) (tN (tH s 3 13)) (tI (tH s 3 14)) (tN (tH s 3 15)) (tI (tH s 3 16)) (tN (tH s 3 17)) (tI (tH s 3 18)) (tI (tH s 3 19))) (Kz.Mv.mk (tI (tH s 3 20)) (tI (tH s 3 21)) (tI (tH s 3 22)) (tI (tH s 3 23)) (tB (tH s 3 24))) (tI (tH s 3 25))
theorem PF15_9 (p1:Pos) (p2:Mv) (p3:Pos) (p4:Pos) (p5:Mv) (p6:Int) (h:okF15_9 p1 p2 p3 p4 p5 p6=true):FSpec Pz 34 (A15_9 p1 p2 p3 p4 p5 p6) (H15_9 p1 p2 p3 p4 p5 p6) (O15_9 p1 p2 p3 p4 p5 p6 (vF15_9 p1 p2 p3 p4 p5 p6))∧∃ fn,Pz.funcs[34]?=some fn∧fn.body.isSome=true:=fs_sumd (n:=14) (O:=O15_9 p1 p2 p3 p4 p5 p6) hB15_9 (fun o=>match o with | .ret v h=>(let s:St:=⟨[v],h⟩; wP s 3 fun q3=>some q3) | _=>none) (fun _=>rfl) (by kernel_rfl) (by kernel_rfl) (by kernel_rfl) (by kernel_rfl) h
noncomputable def FF15_9 (xs:List AV) (h:Hp):Tr FRes:=DF15_9 (fun p1 p2 p3 p4 p5 p6=>fk xs h (A15_9 p1 p2 p3 p4 p5 p6) (H15_9 p1 p2 p3 p4 p5 p6) (okF15_9 p1 p2 p3 p4 p5 p6) (O15_9 p1 p2 p3 p4 p5 p6) (vF15_9 p1 p2 p3 p4 p5 p6)) ⟨xs,h⟩
theorem sFF15_9:FSound Pz 34 FF15_9:=fun _ _ _ h=>fk_ok (PF15_9 _ _ _ _ _ _) h
noncomputable def B15_10:Base:=baseOf Pz (fun f i=>lkC f i K15) [(82,G82),(28,G28),(27,G27),(29,G29),(80,G80),(68,G68),(70,G70),(71,G71),(72,G72),(74,G74),(75,G75),(76,G76),(78,G78),(79,G79),(81,G81)] [(32,2,F15_3),(33,7,F15_6),(33,3,F15_7)] [(30,FF15_1),(31,FF15_2),(32,FF15_4),(33,FF15_8),(34,FF15_9)]
theorem hB15_10:BOk B15_10:=base_ok named_z ⟨s82,s28,s27,s29,s80,s68,s70,s71,s72,s74,s75,s76,s78,s79,s81,trivial⟩ ⟨sF15_3,sF15_6,sF15_7,trivial⟩ ⟨sFF15_1,sFF15_2,sFF15_4,sFF15_8,sFF15_9,trivial⟩
noncomputable def A15_10 (p1:Pos) (p2:Mv) (p3:Pos) (p4:Pos) (p5:Mv) (p6:Int):List AV:=[AV.ptr 3 0]
noncomputable def H15_10 (p1:Pos) (p2:Mv) (p3:Pos) (p4:Pos) (p5:Mv) (p6:Int):Hp:=Hp.mk [(pc p1 []),[AV.int .i8 p2.frm,AV.int .i8 p2.to,AV.int .u8 p2.pro,AV.int .u8 p2.drp,AV.bool p2.cas],[AV.int .u8 0,AV.ints .u8 64 (li (List.replicate 64 0)),AV.u64 0,AV.ints .u8 12 (li [0,0,0,0,0,0,0,0,0,0,0,0]),AV.int .u8 0,AV.ints .i8 4 (li [0,0,0,0]),AV.int .i8 0,AV.ints .u8 2 (li [0,0]),AV.int .i64 0,AV.int .i64 0],(pc p3 (pc p4 [AV.int .i8 p5.frm,AV.int .i8 p5.to,AV.int .u8 p5.pro,AV.int .u8 p5.drp,AV.bool p5.cas,AV.int .i64 p6]))] [] [] 0 0 0
noncomputable def O15_10 (p1:Pos) (p2:Mv) (p3:Pos) (p4:Pos) (p5:Mv) (p6:Int) (y:(Pos)):FRes := .ret (AV.tuple []) (Hp.mk [(pc p1 []),[AV.int .i8 p2.frm,AV.int .i8 p2.to,AV.int .u8 p2.pro,AV.int .u8 p2.drp,AV.bool p2.cas],[AV.int .u8 0,AV.ints .u8 64 (li (List.replicate 64 0)),AV.u64 0,AV.ints .u8 12 (li [0,0,0,0,0,0,0,0,0,0,0,0]),AV.int .u8 0,AV.ints .i8 4 (li [0,0,0,0]),AV.int .i8 0,AV.ints .u8 2 (li [0,0]),AV.int .i64 0,AV.int .i64 0],(pc y (pc p4 [AV.int .i8 p5.frm,AV.int .i8 p5.to,AV.int .u8 p5.pro,AV.int .u8 p5.drp,AV.bool p5.cas,AV.int .i64 p6]))] [] [] 0 0 0)
noncomputable def vF15_10 (p1:Pos) (p2:Mv) (p3:Pos) (p4:Pos) (p5:Mv) (p6:Int):(Pos):=(bif p5.drp != 0 then (bif p5.drp==1 then (bif p3.turn==1 then (Pos.mk p3.variant p3.board p3.promoted p3.pockets p3.turn p3.rooks p3.passing p3.checks 0 (N81 p3.full)) else (Pos.mk p3.variant p3.board p3.promoted p3.pockets p3.turn p3.rooks p3.passing p3.checks 0 p3.full)) else (bif decide (p6 ≥ 0) then (bif p3.turn==1 then (Pos.mk p3.variant p3.board p3.promoted p3.pockets p3.turn p3.rooks p3.passing p3.checks 0 (N81 p3.full)) else (Pos.mk p3.variant p3.board p3.promoted p3.pockets p3.turn p3.rooks p3.passing p3.checks 0 p3.full)) else (bif p3.turn==1 then (Pos.mk p3.variant p3.board p3.promoted p3.pockets p3.turn p3.rooks p3.passing p3.checks (N81 p3.half) (N81 p3.full)) else (Pos.mk p3.variant p3.board p3.promoted p3.pockets p3.turn p3.rooks p3.passing p3.checks (N81 p3.half) p3.full)))) else (bif N68 (p4.board.getD (scale 1 p5.frm).toNat 0)==1 then (bif p3.turn==1 then (Pos.mk p3.variant p3.board p3.promoted p3.pockets p3.turn p3.rooks p3.passing p3.checks 0 (N81 p3.full)) else (Pos.mk p3.variant p3.board p3.promoted p3.pockets p3.turn p3.rooks p3.passing p3.checks 0 p3.full)) else (bif decide (p6 ≥ 0) then (bif p3.turn==1 then (Pos.mk p3.variant p3.board p3.promoted p3.pockets p3.turn p3.rooks p3.passing p3.checks 0 (N81 p3.full)) else (Pos.mk p3.variant p3.board p3.promoted p3.pockets p3.turn p3.rooks p3.passing p3.checks 0 p3.full)) else (bif p3.turn==1 then (Pos.mk p3.variant p3.board p3.promoted p3.pockets p3.turn p3.rooks p3.passing p3.checks (N81 p3.half) (N81 p3.full)) else (Pos.mk p3.variant p3.board p3.promoted p3.pockets p3.turn p3.rooks p3.passing p3.checks (N81 p3.half) p3.full)))))
noncomputable def okF15_10 (p1:Pos) (p2:Mv) (p3:Pos) (p4:Pos) (p5:Mv) (p6:Int):Bool:=(bif p5.drp != 0 then true else (decide (0≤p5.frm)&&decide (p5.frm < Int.ofNat 64)&&true))
abbrev DF15_10 {α:Type} (k:Pos→Mv→Pos→Pos→Mv→Int→α) (s:St):α:=wP s 0 fun q0=>wP s 3 fun q3=>wM s 1 fun q1=>k q0 q1 q3 (Kz.Pos.mk (tI (tH s 3 10)) (tN (tH s 3 11)) (tU (tH s 3 12)) (tN (tH s 3 13)) (tI (tH s 3 14)) (tN (tH s 3 15)) (tI (tH s 3 16)) (tN (tH s 3 17)) (tI (tH s 3 18)) (tI (tH s 3 19))) (Kz.Mv.mk (tI (tH s 3 20)) (tI (tH s 3 21)) (tI (tH s 3 22)) (tI (tH s 3 23)) (tB (tH s 3 24))) (tI (tH s 3 25))
theorem PF15_10 (p1:Pos) (p2:Mv) (p3:Pos) (p4:Pos) (p5:Mv) (p6:Int) (h:okF15_10 p1 p2 p3 p4 p5 p6=true):FSpec Pz 35 (A15_10 p1 p2 p3 p4 p5 p6) (H15_10 p1 p2 p3 p4 p5 p6) (O15_10 p1 p2 p3 p4 p5 p6 (vF15_10 p1 p2 p3 p4 p5 p6))∧∃ fn,Pz.funcs[35]?=some fn∧fn.body.isSome=true:=fs_sumd (n:=14) (O:=O15_10 p1 p2 p3 p4 p5 p6) hB15_10 (fun o=>match o with | .ret v h=>(let s:St:=⟨[v],h⟩; wP s 3 fun q3=>some q3) | _=>none) (fun _=>rfl) (by kernel_rfl) (by kernel_rfl) (by kernel_rfl) (by kernel_rfl) h
noncomputable def FF15_10 (xs:List AV) (h:Hp):Tr FRes:=DF15_10 (fun p1 p2 p3 p4 p5 p6=>fk xs h (A15_10 p1 p2 p3 p4 p5 p6) (H15_10 p1 p2 p3 p4 p5 p6) (okF15_10 p1 p2 p3 p4 p5 p6) (O15_10 p1 p2 p3 p4 p5 p6) (vF15_10 p1 p2 p3 p4 p5 p6)) ⟨xs,h⟩
theorem sFF15_10:FSound Pz 35 FF15_10:=fun _ _ _ h=>fk_ok (PF15_10 _ _ _ _ _ _) h
noncomputable def B15_11:Base:=baseOf Pz (fun f i=>lkC f i K15) [(82,G82),(28,G28),(27,G27),(29,G29),(80,G80),(68,G68),(70,G70),(71,G71),(72,G72),(74,G74),(75,G75),(76,G76),(78,G78),(79,G79),(81,G81)] [(32,2,F15_3),(33,7,F15_6),(33,3,F15_7)] [(30,FF15_1),(31,FF15_2),(32,FF15_4),(33,FF15_8),(34,FF15_9),(35,FF15_10)]
theorem hB15_11:BOk B15_11:=base_ok named_z ⟨s82,s28,s27,s29,s80,s68,s70,s71,s72,s74,s75,s76,s78,s79,s81,trivial⟩ ⟨sF15_3,sF15_6,sF15_7,trivial⟩ ⟨sFF15_1,sFF15_2,sFF15_4,sFF15_8,sFF15_9,sFF15_10,trivial⟩
noncomputable def A15_11 (p1:Pos) (p2:Mv) (p3:Pos) (p4:Pos) (p5:Mv) (p6:Int):List AV:=[AV.ptr 3 0]
noncomputable def H15_11 (p1:Pos) (p2:Mv) (p3:Pos) (p4:Pos) (p5:Mv) (p6:Int):Hp:=Hp.mk [(pc p1 []),[AV.int .i8 p2.frm,AV.int .i8 p2.to,AV.int .u8 p2.pro,AV.int .u8 p2.drp,AV.bool p2.cas],[AV.int .u8 0,AV.ints .u8 64 (li (List.replicate 64 0)),AV.u64 0,AV.ints .u8 12 (li [0,0,0,0,0,0,0,0,0,0,0,0]),AV.int .u8 0,AV.ints .i8 4 (li [0,0,0,0]),AV.int .i8 0,AV.ints .u8 2 (li [0,0]),AV.int .i64 0,AV.int .i64 0],(pc p3 (pc p4 [AV.int .i8 p5.frm,AV.int .i8 p5.to,AV.int .u8 p5.pro,AV.int .u8 p5.drp,AV.bool p5.cas,AV.int .i64 p6]))] [] [] 0 0 0
noncomputable def O15_11 (p1:Pos) (p2:Mv) (p3:Pos) (p4:Pos) (p5:Mv) (p6:Int) (y:(Pos)):FRes := .ret (AV.tuple []) (Hp.mk [(pc p1 []),[AV.int .i8 p2.frm,AV.int .i8 p2.to,AV.int .u8 p2.pro,AV.int .u8 p2.drp,AV.bool p2.cas],[AV.int .u8 0,AV.ints .u8 64 (li (List.replicate 64 0)),AV.u64 0,AV.ints .u8 12 (li [0,0,0,0,0,0,0,0,0,0,0,0]),AV.int .u8 0,AV.ints .i8 4 (li [0,0,0,0]),AV.int .i8 0,AV.ints .u8 2 (li [0,0]),AV.int .i64 0,AV.int .i64 0],(pc y (pc p4 [AV.int .i8 p5.frm,AV.int .i8 p5.to,AV.int .u8 p5.pro,AV.int .u8 p5.drp,AV.bool p5.cas,AV.int .i64 p6]))] [] [] 0 0 0)
noncomputable def vF15_11 (p1:Pos) (p2:Mv) (p3:Pos) (p4:Pos) (p5:Mv) (p6:Int):(Pos):=(bif p3.variant==5 then (bif decide (p3.checks.getD (scale 1 (wr .u8 (1 - wr .u8 (1 - p3.turn)))).toNat 0 < 3) then (bif N82 (Pos.mk p3.variant p3.board p3.promoted p3.pockets (wr .u8 (1 - p3.turn)) p3.rooks p3.passing p3.checks p3.half p3.full) (wr .u8 (1 - p3.turn)) then (Pos.mk p3.variant p3.board p3.promoted p3.pockets (wr .u8 (1 - p3.turn)) p3.rooks p3.passing (p3.checks.set (scale 1 (wr .u8 (1 - wr .u8 (1 - p3.turn)))).toNat (wr .u8 (p3.checks.getD (scale 1 (wr .u8 (1 - wr .u8 (1 - p3.turn)))).toNat 0+1))) p3.half p3.full) else (Pos.mk p3.variant p3.board p3.promoted p3.pockets (wr .u8 (1 - p3.turn)) p3.rooks p3.passing p3.checks p3.half p3.full)) else (Pos.mk p3.variant p3.board p3.promoted p3.pockets (wr .u8 (1 - p3.turn)) p3.rooks p3.passing p3.checks p3.half p3.full)) else (Pos.mk p3.variant p3.board p3.promoted p3.pockets (wr .u8 (1 - p3.turn)) p3.rooks p3.passing p3.checks p3.half p3.full))
noncomputable def okF15_11 (p1:Pos) (p2:Mv) (p3:Pos) (p4:Pos) (p5:Mv) (p6:Int):Bool:=(bif p3.variant==5 then (decide (0≤wr .u8 (1 - wr .u8 (1 - p3.turn)))&&decide (wr .u8 (1 - wr .u8 (1 - p3.turn)) < Int.ofNat 2)&&(bif decide (p3.checks.getD (scale 1 (wr .u8 (1 - wr .u8 (1 - p3.turn)))).toNat 0 < 3) then (ok82 (Pos.mk p3.variant p3.board p3.promoted p3.pockets (wr .u8 (1 - p3.turn)) p3.rooks p3.passing p3.checks p3.half p3.full) (wr .u8 (1 - p3.turn))&&(bif N82 (Pos.mk p3.variant p3.board p3.promoted p3.pockets (wr .u8 (1 - p3.turn)) p3.rooks p3.passing p3.checks p3.half p3.full) (wr .u8 (1 - p3.turn)) then (decide (0≤wr .u8 (1 - wr .u8 (1 - p3.turn)))&&decide (wr .u8 (1 - wr .u8 (1 - p3.turn)) < Int.ofNat 2)&&(decide (0≤wr .u8 (1 - wr .u8 (1 - p3.turn)))&&decide (wr .u8 (1 - wr .u8 (1 - p3.turn)) < Int.ofNat 2)&&true)) else true)) else true)) else true)
abbrev DF15_11 {α:Type} (k:Pos→Mv→Pos→Pos→Mv→Int→α) (s:St):α:=wP s 0 fun q0=>wP s 3 fun q3=>wM s 1 fun q1=>k q0 q1 q3 (Kz.Pos.mk (tI (tH s 3 10)) (tN (tH s 3 11)) (tU (tH s 3 12)) (tN (tH s 3 13)) (tI (tH s 3 14)) (tN (tH s 3 15)) (tI (tH s 3 16)) (tN (tH s 3 17)) (tI (tH s 3 18)) (tI (tH s 3 19))) (Kz.Mv.mk (tI (tH s 3 20)) (tI (tH s 3 21)) (tI (tH s 3 22)) (tI (tH s 3 23)) (tB (tH s 3 24))) (tI (tH s 3 25))
theorem PF15_11 (p1:Pos) (p2:Mv) (p3:Pos) (p4:Pos) (p5:Mv) (p6:Int) (h:okF15_11 p1 p2 p3 p4 p5 p6=true):FSpec Pz 36 (A15_11 p1 p2 p3 p4 p5 p6) (H15_11 p1 p2 p3 p4 p5 p6) (O15_11 p1 p2 p3 p4 p5 p6 (vF15_11 p1 p2 p3 p4 p5 p6))∧∃ fn,Pz.funcs[36]?=some fn∧fn.body.isSome=true:=fs_sumd (n:=14) (O:=O15_11 p1 p2 p3 p4 p5 p6) hB15_11 (fun o=>match o with | .ret v h=>(let s:St:=⟨[v],h⟩; wP s 3 fun q3=>some q3) | _=>none) (fun _=>rfl) (by kernel_rfl) (by kernel_rfl) (by kernel_rfl) (by kernel_rfl) h
noncomputable def FF15_11 (xs:List AV) (h:Hp):Tr FRes:=DF15_11 (fun p1 p2 p3 p4 p5 p6=>fk xs h (A15_11 p1 p2 p3 p4 p5 p6) (H15_11 p1 p2 p3 p4 p5 p6) (okF15_11 p1 p2 p3 p4 p5 p6) (O15_11 p1 p2 p3 p4 p5 p6) (vF15_11 p1 p2 p3 p4 p5 p6)) ⟨xs,h⟩
theorem sFF15_11:FSound Pz 36 FF15_11:=fun _ _ _ h=>fk_ok (PF15_11 _ _ _ _ _ _) h
noncomputable def B15:Base:=baseOf Pz (fun f i=>lkC f i K15) [(82,G82),(28,G28),(27,G27),(29,G29),(80,G80),(68,G68),(70,G70),(71,G71),(72,G72),(74,G74),(75,G75),(76,G76),(78,G78),(79,G79),(81,G81)] [(32,2,F15_3),(33,7,F15_6),(33,3,F15_7)] [(30,FF15_1),(31,FF15_2),(32,FF15_4),(33,FF15_8),(34,FF15_9),(35,FF15_10),(36,FF15_11)]
theorem hB15:BOk B15:=base_ok named_z ⟨s82,s28,s27,s29,s80,s68,s70,s71,s72,s74,s75,s76,s78,s79,s81,trivial⟩ ⟨sF15_3,sF15_6,sF15_7,trivial⟩ ⟨sFF15_1,sFF15_2,sFF15_4,sFF15_8,sFF15_9,sFF15_10,sFF15_11,trivial⟩
noncomputable def N15 (a:Pos) (b:Mv):(Pos×Bool):=(bif !N27 (N28 a) b then (⟨(a.variant),(a.board),(a.promoted),(a.pockets),(a.turn),(a.rooks),(a.passing),(a.checks),(a.half),(a.full)⟩,(false)) else (⟨((vF15_11 a b (vF15_10 a b (vF15_9 a b (vF15_8 a b (vF15_4 a b (vF15_2 a b (vF15_1 a b a a b (N29 a b)) a b (N29 a b)) a b (N29 a b)) a b (N29 a b)) a b (N29 a b)) a b (N29 a b)) a b (N29 a b)).variant),((vF15_11 a b (vF15_10 a b (vF15_9 a b (vF15_8 a b (vF15_4 a b (vF15_2 a b (vF15_1 a b a a b (N29 a b)) a b (N29 a b)) a b (N29 a b)) a b (N29 a b)) a b (N29 a b)) a b (N29 a b)) a b (N29 a b)).board),((vF15_11 a b (vF15_10 a b (vF15_9 a b (vF15_8 a b (vF15_4 a b (vF15_2 a b (vF15_1 a b a a b (N29 a b)) a b (N29 a b)) a b (N29 a b)) a b (N29 a b)) a b (N29 a b)) a b (N29 a b)) a b (N29 a b)).promoted),((vF15_11 a b (vF15_10 a b (vF15_9 a b (vF15_8 a b (vF15_4 a b (vF15_2 a b (vF15_1 a b a a b (N29 a b)) a b (N29 a b)) a b (N29 a b)) a b (N29 a b)) a b (N29 a b)) a b (N29 a b)) a b (N29 a b)).pockets),((vF15_11 a b (vF15_10 a b (vF15_9 a b (vF15_8 a b (vF15_4 a b (vF15_2 a b (vF15_1 a b a a b (N29 a b)) a b (N29 a b)) a b (N29 a b)) a b (N29 a b)) a b (N29 a b)) a b (N29 a b)) a b (N29 a b)).turn),((vF15_11 a b (vF15_10 a b (vF15_9 a b (vF15_8 a b (vF15_4 a b (vF15_2 a b (vF15_1 a b a a b (N29 a b)) a b (N29 a b)) a b (N29 a b)) a b (N29 a b)) a b (N29 a b)) a b (N29 a b)) a b (N29 a b)).rooks),((vF15_11 a b (vF15_10 a b (vF15_9 a b (vF15_8 a b (vF15_4 a b (vF15_2 a b (vF15_1 a b a a b (N29 a b)) a b (N29 a b)) a b (N29 a b)) a b (N29 a b)) a b (N29 a b)) a b (N29 a b)) a b (N29 a b)).passing),((vF15_11 a b (vF15_10 a b (vF15_9 a b (vF15_8 a b (vF15_4 a b (vF15_2 a b (vF15_1 a b a a b (N29 a b)) a b (N29 a b)) a b (N29 a b)) a b (N29 a b)) a b (N29 a b)) a b (N29 a b)) a b (N29 a b)).checks),((vF15_11 a b (vF15_10 a b (vF15_9 a b (vF15_8 a b (vF15_4 a b (vF15_2 a b (vF15_1 a b a a b (N29 a b)) a b (N29 a b)) a b (N29 a b)) a b (N29 a b)) a b (N29 a b)) a b (N29 a b)) a b (N29 a b)).half),((vF15_11 a b (vF15_10 a b (vF15_9 a b (vF15_8 a b (vF15_4 a b (vF15_2 a b (vF15_1 a b a a b (N29 a b)) a b (N29 a b)) a b (N29 a b)) a b (N29 a b)) a b (N29 a b)) a b (N29 a b)) a b (N29 a b)).full)⟩,(true)))
noncomputable def ok15 (a:Pos) (b:Mv):Bool:=(ok28 (a)&&(ok27 (N28 a) (b)&&(bif !N27 (N28 a) b then true else (ok29 (a) (b)&&(okF15_1 (a) (b) (a) (a) (b) (N29 a b)&&(okF15_2 (a) (b) (vF15_1 a b a a b (N29 a b)) (a) (b) (N29 a b)&&(okF15_4 (a) (b) (vF15_2 a b (vF15_1 a b a a b (N29 a b)) a b (N29 a b)) (a) (b) (N29 a b)&&(okF15_8 (a) (b) (vF15_4 a b (vF15_2 a b (vF15_1 a b a a b (N29 a b)) a b (N29 a b)) a b (N29 a b)) (a) (b) (N29 a b)&&(okF15_9 (a) (b) (vF15_8 a b (vF15_4 a b (vF15_2 a b (vF15_1 a b a a b (N29 a b)) a b (N29 a b)) a b (N29 a b)) a b (N29 a b)) (a) (b) (N29 a b)&&(okF15_10 (a) (b) (vF15_9 a b (vF15_8 a b (vF15_4 a b (vF15_2 a b (vF15_1 a b a a b (N29 a b)) a b (N29 a b)) a b (N29 a b)) a b (N29 a b)) a b (N29 a b)) (a) (b) (N29 a b)&&(okF15_11 (a) (b) (vF15_10 a b (vF15_9 a b (vF15_8 a b (vF15_4 a b (vF15_2 a b (vF15_1 a b a a b (N29 a b)) a b (N29 a b)) a b (N29 a b)) a b (N29 a b)) a b (N29 a b)) a b (N29 a b)) (a) (b) (N29 a b)&&true)))))))))))
theorem P15 (a:Pos) (b:Mv) (h:ok15 a b=true):PS Pz 15 [Pos.av a,Mv.av b] ((d2 dPos dB).res (N15 a b)):=ps_sum (n:=14) hB15 (by kernel_rfl) (by kernel_rfl) (by kernel_rfl) h
noncomputable def G15:List AV→Tr AV:=g2 dPos dMv (fun a b=>gdv (ok15 a b) ((d2 dPos dB).res (N15 a b)))
theorem s15:Sound Pz 15 G15:=sound2 fun a b=>at_gd (P15 a b)
end Kz
end
section
namespace Kz
open Go
set_option maxRecDepth 100000
theorem ix64 {i:Int} (h0:0≤i) (h1:i < 64):(decide (0≤i)&&decide (i < Int.ofNat 64))=true:=by
  rw [Bool.and_eq_true,decide_eq_true_eq,decide_eq_true_eq]
  exact ⟨h0,h1⟩
theorem set_in {l:List Int} {a b v:Int} (h:∀ x ∈ l,a≤x∧x≤b) (hv:a≤v∧v≤b) (i:Nat):∀ x ∈ l.set i v,a≤x∧x≤b:=by
  intro x hx
  rcases List.mem_or_eq_of_mem_set hx with h1 | rfl
  · exact h x h1
  · exact hv
theorem N72_in (a b:Int):0≤N72 a b∧N72 a b≤255:=by
  unfold N72
  exact c_ind (P:=fun x:Int=>0≤x∧x≤255) (fun _=>by decide) fun _=>c_ind (P:=fun x:Int=>0≤x∧x≤255) (fun _=>by decide) fun _=>c_ind (P:=fun x:Int=>0≤x∧x≤255) (fun _=>by decide) fun _=>⟨wr_u8_lo _,wr_u8_hi _⟩
theorem N81_in {n:Int} (h : -9223372036854775808≤n∧n≤9223372036854775807) : -9223372036854775808≤N81 n∧N81 n≤9223372036854775807:=by
  unfold N81
  exact c_ind (P:=fun x:Int => -9223372036854775808≤x∧x≤9223372036854775807) (fun _=>h) fun _=>wr_i64_b _
structure Kin (p q:Pos):Prop where
  pin:PosIn q
  v:q.variant=p.variant
  t:q.turn=p.turn
section
variable {p q:Pos}
theorem Kin.board (h:Kin p q) {bd:List Int} (hl:bd.length=64) (hb:∀ x ∈ bd,0≤x∧x≤255) (pr:BitVec 64):Kin p ⟨q.variant,bd,pr,q.pockets,q.turn,q.rooks,q.passing,q.checks,q.half,q.full⟩ :=
  ⟨⟨h.pin.v0,h.pin.v1,hl,hb,h.pin.kl,h.pin.k0,h.pin.t0,h.pin.t1,h.pin.rl,h.pin.r0,h.pin.p0,h.pin.p1,h.pin.cl,h.pin.c0,h.pin.h0,h.pin.f0⟩,h.v,h.t⟩
theorem Kin.set (h:Kin p q) (i:Nat) {v:Int} (hv:0≤v∧v≤255):Kin p ⟨q.variant,q.board.set i v,q.promoted,q.pockets,q.turn,q.rooks,q.passing,q.checks,q.half,q.full⟩ :=
  h.board (by rw [List.length_set]; exact h.pin.bl) (set_in h.pin.b0 hv i) _
theorem Kin.promoted (h:Kin p q) (pr:BitVec 64):Kin p ⟨q.variant,q.board,pr,q.pockets,q.turn,q.rooks,q.passing,q.checks,q.half,q.full⟩:=h.board h.pin.bl h.pin.b0 pr
theorem Kin.pockets (h:Kin p q) (i:Nat) {v:Int} (hv:0≤v∧v≤255):Kin p ⟨q.variant,q.board,q.promoted,q.pockets.set i v,q.turn,q.rooks,q.passing,q.checks,q.half,q.full⟩ :=
  ⟨⟨h.pin.v0,h.pin.v1,h.pin.bl,h.pin.b0,by rw [List.length_set]; exact h.pin.kl,set_in h.pin.k0 hv i,h.pin.t0,h.pin.t1,h.pin.rl,h.pin.r0,h.pin.p0,h.pin.p1,h.pin.cl,h.pin.c0,h.pin.h0,h.pin.f0⟩,h.v,h.t⟩
theorem Kin.rooks (h:Kin p q) {rk:List Int} (hl:rk.length=4) (hr:∀ x ∈ rk,-128≤x∧x≤127):Kin p ⟨q.variant,q.board,q.promoted,q.pockets,q.turn,rk,q.passing,q.checks,q.half,q.full⟩ :=
  ⟨⟨h.pin.v0,h.pin.v1,h.pin.bl,h.pin.b0,h.pin.kl,h.pin.k0,h.pin.t0,h.pin.t1,hl,hr,h.pin.p0,h.pin.p1,h.pin.cl,h.pin.c0,h.pin.h0,h.pin.f0⟩,h.v,h.t⟩
theorem Kin.rook (h:Kin p q) (i:Nat):Kin p ⟨q.variant,q.board,q.promoted,q.pockets,q.turn,q.rooks.set i (-1),q.passing,q.checks,q.half,q.full⟩ :=
  h.rooks (by rw [List.length_set]; exact h.pin.rl) (set_in h.pin.r0 (by omega) i)
theorem Kin.passing (h:Kin p q) {s:Int} (hs : -128≤s∧s≤127):Kin p ⟨q.variant,q.board,q.promoted,q.pockets,q.turn,q.rooks,s,q.checks,q.half,q.full⟩ :=
  ⟨⟨h.pin.v0,h.pin.v1,h.pin.bl,h.pin.b0,h.pin.kl,h.pin.k0,h.pin.t0,h.pin.t1,h.pin.rl,h.pin.r0,hs.1,hs.2,h.pin.cl,h.pin.c0,h.pin.h0,h.pin.f0⟩,h.v,h.t⟩
theorem Kin.clocks (h:Kin p q) {a b:Int} (ha : -9223372036854775808≤a∧a≤9223372036854775807) (hb : -9223372036854775808≤b∧b≤9223372036854775807):Kin p ⟨q.variant,q.board,q.promoted,q.pockets,q.turn,q.rooks,q.passing,q.checks,a,b⟩ :=
  ⟨⟨h.pin.v0,h.pin.v1,h.pin.bl,h.pin.b0,h.pin.kl,h.pin.k0,h.pin.t0,h.pin.t1,h.pin.rl,h.pin.r0,h.pin.p0,h.pin.p1,h.pin.cl,h.pin.c0,ha,hb⟩,h.v,h.t⟩
theorem N71_kin (h:Kin p q) (b c:Int):Kin p (N71 q b c).1:=by
  unfold N71
  refine c_ind (P:=fun x:Pos×Bool=>Kin p x.1) (fun _=>h) fun _=>c_ind (P:=fun x:Pos×Bool=>Kin p x.1) (fun _=>h) fun _ => ?_
  exact h.pockets _ ⟨wr_u8_lo _,wr_u8_hi _⟩
theorem N74_kin (h:Kin p q) (b c:Int):Kin p (N74 q b c):=by
  unfold N74
  refine c_ind (P:=fun x:Pos=>Kin p x) (fun _=>c_ind (P:=fun x:Pos=>Kin p x) (fun _ => ?_) fun _=>h) fun _=>h
  exact h.pockets _ ⟨wr_u8_lo _,wr_u8_hi _⟩
end
section
variable {p:Pos} (hp:PosIn p) (m:Mv)
include hp
theorem bd_in (i:Nat):0≤p.board.getD i 0∧p.board.getD i 0≤255:=getD_in hp.b0 (by omega) i
theorem vF1_kin (a:Pos) (b:Mv) (c:Int):Kin p (vF15_1 a b p p m c):=by
  have h:Kin p p:=⟨hp,rfl,rfl⟩
  have z:(0:Int)≤0∧(0:Int)≤255:=by omega
  have bi:=bd_in hp
  unfold vF15_1
  refine c_ind (P:=fun x:Pos=>Kin p x) (fun _=>((((h.set _ z).set _ z).set _ (bi _)).set _ (bi _))) fun _=>c_ind (P:=fun x:Pos=>Kin p x) (fun _=>(N71_kin h _ _).set _ (N72_in _ _)) fun _=>c_ind (P:=fun x:Pos=>Kin p x) (fun _=>c_ind (P:=fun x:Pos=>Kin p x) (fun _=>(((h.set _ z).set _ z).set _ (bi _)).set _ (N72_in _ _)) fun _=>((h.set _ z).set _ z).set _ (bi _)) fun _=>c_ind (P:=fun x:Pos=>Kin p x) (fun _=>((h.set _ z).set _ (bi _)).set _ (N72_in _ _)) fun _=>(h.set _ z).set _ (bi _)
omit hp in
theorem vF2_kin {q:Pos} (h:Kin p q) (a:Pos) (b:Mv) (c:Int):Kin p (vF15_2 a b q p m c):=by
  unfold vF15_2
  repeat' (first | exact h | exact h.promoted _ | exact N74_kin h _ _ | exact (N74_kin h _ _).promoted _ | refine c_ind (P:=fun x:Pos=>Kin p x) (fun _ => ?_) (fun _ => ?_))
omit hp in
theorem lp15_3_kin (l:List Int) (hl:l.length≤64) (hin:∀ s ∈ l,0≤s∧s < 64) {q:Pos} (h:Kin p q) (a b:Pos) (c d:Mv) (e:Int):∃ r,lp15_3 l (Int.ofNat l.length) a c b d e (0,q)=some r∧Kin p r.2.2:=by
  refine lp_many (I:=fun x=>0≤x.1∧x.1≤(l.length:Int)∧Kin p x.2) (μ:=fun x=>((l.length:Int) - x.1).toNat) ?_ _ ⟨by simp,by simp,h⟩ (by simp; omega)
  rintro ⟨n,o⟩ ⟨h0,h1,h2⟩
  simp only at h0 h1 h2
  by_cases hc:n < l.length
  · have hf:=hin _ (getD_mem (d:=default) (show n.toNat < l.length by omega))
    refine ⟨c_true (fun _=>a_true (by simp [h0]; omega) fun _=>a_true (ix64 hf.1 hf.2) fun _=>rfl) fun _=>rfl,c_ind (fun _ => ?_) fun h=>absurd h (by simpa using hc)⟩
    rw [wi64 (n:=n+1) (by omega) (by omega)]
    exact ⟨⟨by simp; omega,by simp; omega,h2.set _ (by omega)⟩,by simp; omega⟩
  · exact ⟨c_true (fun h=>absurd h (by simpa using hc)) fun _=>rfl,c_ind (fun h=>absurd h (by simpa using hc)) fun _=>h2⟩
omit hp in
theorem vF4_kin {q:Pos} (h:Kin p q) (a:Pos) (b:Mv) (c:Int):okF15_4 a b q p m c=true∧Kin p (vF15_4 a b q p m c):=by
  have hl:=of_some (lp15_3_kin (p:=p) (sqs (N76 q (wr .i64 m.to)) 64) (sqs_len _ _) (fun _ h=>sqs_in h) h a p b m c)
  constructor
  · unfold okF15_4
    refine c_true (fun _=>rfl) fun _=>c_true (fun _=>rfl) fun _=>a_true (t76 _ _) fun _=>a_true (t75 _) fun _=>a_true ?_ fun _=>rfl
    rw [N75_eq]; exact hl.1
  · unfold vF15_4
    refine c_ind (P:=fun x:Pos=>Kin p x) (fun _=>h) fun _=>c_ind (P:=fun x:Pos=>Kin p x) (fun _=>h) fun _ => ?_
    rw [N75_eq]; exact hl.2
omit hp in
theorem lp15_6_kin {c k:Int} (hc0:0≤c) (hc1:c≤1) (l:List Int) (hl:∀ s ∈ l,-128≤s∧s≤127) {q:Pos} (h:Kin p q) (a b:Pos) (m1 m2:Mv) (e:Int):∃ r,lp15_6 c k l a m1 b m2 e (0,q)=some r∧Kin p r.2.2:=by
  refine lp_many (I:=fun x=>0≤x.1∧x.1≤2∧Kin p x.2) (μ:=fun x=>(2 - x.1).toNat) ?_ _ ⟨by simp,by simp,h⟩ (by simp)
  rintro ⟨n,o⟩ ⟨h0,h1,h2⟩
  simp only at h0 h1 h2
  by_cases hc:n < 2
  · have hs:=getD_in hl (d:=0) (by omega) n.toNat
    have go1:Nxt (fun x:Int×Pos=>0≤x.1∧x.1≤2∧Kin p x.2) (fun r:Int×Bool×Pos=>Kin p r.2.2) (fun x=>(2 - x.1).toNat) (2 - n).toNat (.go (wr .i64 (n+1),o)):=by
      rw [wi64 (n:=n+1) (by omega) (by omega)]
      exact ⟨⟨by simp; omega,by simp; omega,h2⟩,by simp; omega⟩
    have go2:∀ i,Nxt (fun x:Int×Pos=>0≤x.1∧x.1≤2∧Kin p x.2) (fun r:Int×Bool×Pos=>Kin p r.2.2) (fun x=>(2 - x.1).toNat) (2 - n).toNat (.go (wr .i64 (n+1),⟨o.variant,o.board,o.promoted,o.pockets,o.turn,o.rooks.set i (-1),o.passing,o.checks,o.half,o.full⟩)):=by
      intro i
      rw [wi64 (n:=n+1) (by omega) (by omega)]
      exact ⟨⟨by simp; omega,by simp; omega,h2.rook i⟩,by simp; omega⟩
    have w1:wr .i64 c=c:=wi64 (by omega) (by omega)
    have w2:wr .i64 (56 * c)=56 * c:=wi64 (by omega) (by omega)
    have w3:wr .i64 (l.getD n.toNat 0)=l.getD n.toNat 0:=wi64 (by omega) (by omega)
    have w4:wr .i64 (56 * c+l.getD n.toNat 0)=56 * c+l.getD n.toNat 0:=wi64 (by omega) (by omega)
    have k1:(decide (0≤c)&&decide (c < Int.ofNat 2))=true:=by simp; omega
    have k2:(decide (0≤n)&&decide (n < Int.ofNat 2))=true:=by simp; omega
    refine ⟨c_true (fun _=>a_true k2 fun _=>c_true (fun _=>rfl) fun g0=>c_true (fun _=>rfl) fun g1 => ?_) fun _=>rfl,c_ind (fun _ => ?_) fun h=>absurd h (by simpa using hc)⟩
    · rw [w1,w2,w3,w4]
      have g0:0≤l.getD n.toNat 0:=by simpa using g0
      have g1:l.getD n.toNat 0≤7:=by simpa using g1
      have k3:(decide (0≤56 * c+l.getD n.toNat 0)&&decide (56 * c+l.getD n.toNat 0 < Int.ofNat 64))=true:=ix64 (by omega) (by omega)
      repeat' (first | with_reducible rfl | with_reducible exact k1 | with_reducible exact k2 | with_reducible exact k3 | refine a_true ?_ (fun _ => ?_) | refine c_true (fun _ => ?_) (fun _ => ?_))
    · repeat' (first | exact go1 | exact go2 _ | refine c_ind (fun _ => ?_) (fun _ => ?_))
  · exact ⟨c_true (fun h=>absurd h (by simpa using hc)) fun _=>rfl,c_ind (fun h=>absurd h (by simpa using hc)) fun _=>h2⟩
omit hp in
theorem lp15_7_kin {q:Pos} (h:Kin p q) (a b:Pos) (m1 m2:Mv) (e:Int):∃ r,lp15_7 a m1 b m2 e (0,q)=some r∧Kin p r.2.2:=by
  refine lp_many (I:=fun x=>0≤x.1∧x.1≤2∧Kin p x.2) (μ:=fun x=>(2 - x.1).toNat) ?_ _ ⟨by simp,by simp,h⟩ (by simp)
  rintro ⟨n,o⟩ ⟨h0,h1,h2⟩
  simp only at h0 h1 h2
  by_cases hc:n≤1
  · have hr:∀ s ∈ List.take 2 (List.drop (scale 2 n).toNat o.rooks),-128≤s∧s≤127:=fun s hs=>h2.pin.r0 s (List.mem_of_mem_drop (List.mem_of_mem_take hs))
    have hl:=of_some (lp15_6_kin (p:=p) (k:=N78 o n 6) h0 hc _ hr h2 a b m1 m2 e)
    refine ⟨c_true (fun _=>a_true (t78 _ _ _) fun _=>a_true (by simp; omega) fun _=>a_true hl.1 fun _=>rfl) fun _=>rfl,c_ind (fun _ => ?_) fun h=>absurd h (by simpa using hc)⟩
    rw [wu8 (n:=n+1) (by omega) (by omega)]
    exact ⟨⟨by simp; omega,by simp; omega,hl.2⟩,by simp; omega⟩
  · exact ⟨c_true (fun h=>absurd h (by simpa using hc)) fun _=>rfl,c_ind (fun h=>absurd h (by simpa using hc)) fun _=>h2⟩
theorem vF8_kin (ht:p.turn≤1) {q:Pos} (h:Kin p q) (hm:m.drp=0→0≤m.frm∧m.frm < 64) (a:Pos) (b:Mv) (c:Int):okF15_8 a b q p m c=true∧Kin p (vF15_8 a b q p m c):=by
  have t0:=hp.t0
  have h2:Kin p ⟨q.variant,q.board,q.promoted,q.pockets,q.turn,List.take (scale 2 q.turn).toNat q.rooks++li [-1,-1]++List.drop ((scale 2 q.turn).toNat+2) q.rooks,q.passing,q.checks,q.half,q.full⟩:=by
    refine h.rooks ?_ ?_
    · have hr:=h.pin.rl
      have:(scale 2 q.turn).toNat≤2:=by rw [h.t]; unfold scale; simp; omega
      simp [li,hr]
      omega
    · intro x hx
      simp only [List.mem_append,li] at hx
      rcases hx with (hx | hx) | hx
      · exact h.pin.r0 x (List.mem_of_mem_take hx)
      · simp at hx; omega
      · exact h.pin.r0 x (List.mem_of_mem_drop hx)
  have a1:=of_some (lp15_7_kin h a p b m c)
  have a2:=of_some (lp15_7_kin h2 a p b m c)
  have k1:(decide (0≤q.turn)&&decide (q.turn < Int.ofNat 2))=true:=by rw [h.t]; simp; omega
  constructor
  · unfold okF15_8
    refine c_true (fun _ => ?_) fun hd=>a_true ?_ fun _ => ?_
    · repeat' (first | with_reducible rfl | with_reducible exact k1 | with_reducible exact a1.1 | with_reducible exact a2.1 | refine a_true ?_ (fun _ => ?_) | refine c_true (fun _ => ?_) (fun _ => ?_))
    · have:=hm (by simpa using hd)
      simp; omega
    · repeat' (first | with_reducible rfl | with_reducible exact k1 | with_reducible exact a1.1 | with_reducible exact a2.1 | refine a_true ?_ (fun _ => ?_) | refine c_true (fun _ => ?_) (fun _ => ?_))
  · unfold vF15_8
    repeat' (first | exact a1.2 | exact a2.2 | refine c_ind (P:=fun x:Pos=>Kin p x) (fun _ => ?_) (fun _ => ?_))
omit hp in
theorem vF9_kin {q:Pos} (h:Kin p q) (hm:m.drp=0→0≤m.frm∧m.frm < 64) (a:Pos) (b:Mv) (c:Int):okF15_9 a b q p m c=true∧Kin p (vF15_9 a b q p m c):=by
  constructor
  · unfold okF15_9
    refine c_true (fun _ => ?_) fun hd=>a_true ?_ fun _ => ?_
    · repeat' (first | with_reducible rfl | with_reducible exact t79 _ _ | with_reducible exact t80 _ _ _ | refine a_true ?_ (fun _ => ?_) | refine c_true (fun _ => ?_) (fun _ => ?_))
    · have:=hm (by simpa using hd)
      simp; omega
    · repeat' (first | with_reducible rfl | with_reducible exact t79 _ _ | with_reducible exact t80 _ _ _ | refine a_true ?_ (fun _ => ?_) | refine c_true (fun _ => ?_) (fun _ => ?_))
  · have n1:(-128:Int) ≤ -1∧(-1:Int)≤127:=by omega
    unfold vF15_9
    repeat' (first | exact h.passing n1 | exact h.passing (wr_i8_b _) | refine c_ind (P:=fun x:Pos=>Kin p x) (fun _ => ?_) (fun _ => ?_))
omit hp in
theorem vF910_kin {q:Pos} (h:Kin p q) (hm:m.drp=0→0≤m.frm∧m.frm < 64) (a:Pos) (b:Mv) (c:Int):okF15_10 a b q p m c=true∧Kin p (vF15_10 a b q p m c):=by
  constructor
  · unfold okF15_10
    refine c_true (fun _=>rfl) fun hd=>a_true ?_ fun _=>rfl
    have:=hm (by simpa using hd)
    simp; omega
  · have z:(-9223372036854775808:Int)≤0∧(0:Int)≤9223372036854775807:=by omega
    have f1:=h.pin.f0
    have f2:=N81_in h.pin.f0
    have f3:=N81_in h.pin.h0
    unfold vF15_10
    repeat' (first | exact h.clocks z f1 | exact h.clocks z f2 | exact h.clocks f3 f1 | exact h.clocks f3 f2 | refine c_ind (P:=fun x:Pos=>Kin p x) (fun _ => ?_) (fun _ => ?_))
theorem vF4_in (ht:p.turn≤1) {q:Pos} (h:Kin p q) (a:Pos) (b:Mv) (c:Int):okF15_11 a b q p m c=true∧PosIn (vF15_11 a b q p m c)∧(vF15_11 a b q p m c).variant=p.variant∧(vF15_11 a b q p m c).turn=1 - p.turn:=by
  have t0:=hp.t0
  have w1:wr .u8 (1 - p.turn)=1 - p.turn:=wu8 (by omega) (by omega)
  have w2:wr .u8 (1 - (1 - p.turn))=p.turn:=by rw [wu8 (by omega) (by omega)]; omega
  have k1:(decide (0≤p.turn)&&decide (p.turn < Int.ofNat 2))=true:=by simp; omega
  have hq:PosIn ⟨q.variant,q.board,q.promoted,q.pockets,1 - p.turn,q.rooks,q.passing,q.checks,q.half,q.full⟩ :=
    ⟨h.pin.v0,h.pin.v1,h.pin.bl,h.pin.b0,h.pin.kl,h.pin.k0,by show 0≤1 - p.turn; omega,by show 1 - p.turn≤255; omega,h.pin.rl,h.pin.r0,h.pin.p0,h.pin.p1,h.pin.cl,h.pin.c0,h.pin.h0,h.pin.f0⟩
  constructor
  · unfold okF15_11
    rw [h.t,w1,w2]
    refine c_true (fun _=>a_true k1 fun _=>c_true (fun _=>a_true (t82 h.pin.v0 (by omega)) fun _=>c_true (fun _=>a_true k1 fun _=>a_true k1 fun _=>rfl) fun _=>rfl) fun _=>rfl) fun _=>rfl
  · unfold vF15_11
    rw [h.t,w1,w2]
    have base:PosIn ⟨q.variant,q.board,q.promoted,q.pockets,1 - p.turn,q.rooks,q.passing,q.checks,q.half,q.full⟩∧q.variant=p.variant∧(1 - p.turn=1 - p.turn):=⟨hq,h.v,rfl⟩
    refine c_ind (P:=fun x:Pos=>PosIn x∧x.variant=p.variant∧x.turn=1 - p.turn) (fun _=>c_ind (P:=fun x:Pos=>PosIn x∧x.variant=p.variant∧x.turn=1 - p.turn) (fun _=>c_ind (P:=fun x:Pos=>PosIn x∧x.variant=p.variant∧x.turn=1 - p.turn) (fun _ => ?_) fun _=>base) fun _=>base) fun _=>base
    exact ⟨⟨hq.v0,hq.v1,hq.bl,hq.b0,hq.kl,hq.k0,hq.t0,hq.t1,hq.rl,hq.r0,hq.p0,hq.p1,by rw [List.length_set]; exact hq.cl,set_in hq.c0 ⟨wr_u8_lo _,wr_u8_hi _⟩ _,hq.h0,hq.f0⟩,h.v,rfl⟩
end
theorem N28_mem {p:Pos} (hp:PosIn p) {m:Mv} (h:m ∈ N28 p):there p∧0≤m.frm∧m.frm < 64∧0≤m.to∧m.to < 64∧0≤m.drp∧m.drp≤5∧0≤m.pro∧m.pro≤6:=by
  rw [N28_eq] at h
  have n110:∀ v:Int,9≤v→N97 v=false:=fun v hv=>by
    unfold N97
    rw [show decide (v ≥ 9)=true by simpa using hv]; rfl
  have n113:∀ v:Int,9≤v→N113 v=false:=fun v hv=>by
    unfold N113
    rw [show decide (v ≥ 9)=true by simpa using hv]; rfl
  simp only [List.mem_append] at h
  rcases h with (h | h) | h
  · obtain ⟨th,f,t,h1,h2,h3,h4,h5,h6,h7,h8,_⟩:=N64_mem hp.v0 h
    exact ⟨th,by omega,by omega,by omega,by omega,by omega,by omega,h7,h8⟩
  · obtain ⟨h1,h2,h3,h4,h5,h6,h7,h8⟩:=N65_mem hp h
    refine ⟨⟨h1,?_⟩,h2,h3,h4,h5,by omega,by omega,by omega,by omega⟩
    refine Classical.byContradiction fun hv => ?_
    unfold N65 at h
    rw [n110 _ (by omega)] at h
    rw [show decide (p.turn > 1)=false by simp; omega] at h
    cases h
  · obtain ⟨h1,h2,h3,h4,h5,h6,h7,h8,h9⟩:=N66_mem hp.t0 h
    refine ⟨⟨h1,?_⟩,by omega,by omega,h4,h5,by omega,h8,by omega,by omega⟩
    refine Classical.byContradiction fun hv => ?_
    rw [n113 _ (by omega)] at h2
    cases h2
theorem move_all {p:Pos} (hp:PosIn p) (m:Mv):ok15 p m=true∧(m ∈ N28 p→(N15 p m).2=true∧PosIn (N15 p m).1∧(N15 p m).1.variant=p.variant∧(N15 p m).1.turn=1 - p.turn)∧(m ∉ N28 p→N15 p m=(p,false)):=by
  have hlen:=N28_len hp
  have hc:N27 (N28 p) m=decide (m ∈ N28 p):=N27_eq (by omega)
  by_cases hm:m ∈ N28 p
  · obtain ⟨th,f0,f1,g0,g1,d0,d1,r0,r1⟩:=N28_mem hp hm
    have hmf:m.drp=0→0≤m.frm∧m.frm < 64:=fun _=>⟨f0,f1⟩
    have hn:=N29_in hp m
    have h1:=vF1_kin hp m p m (N29 p m)
    have h2:=vF2_kin m h1 p m (N29 p m)
    have h4:=vF4_kin m h2 p m (N29 p m)
    have h8:=vF8_kin hp m th.1 h4.2 hmf p m (N29 p m)
    have h9:=vF9_kin m h8.2 hmf p m (N29 p m)
    have h10:=vF910_kin m h9.2 hmf p m (N29 p m)
    have h11:=vF4_in hp m th.1 h10.2 p m (N29 p m)
    have kf:(decide (0≤m.frm)&&decide (m.frm < Int.ofNat 64))=true:=by simp; omega
    have kt:(decide (0≤m.to)&&decide (m.to < Int.ofNat 64))=true:=by simp; omega
    have kn:N29 p m ≥ 0→(decide (0≤N29 p m)&&decide (N29 p m < Int.ofNat 64))=true:=fun h=>by simp; omega
    have hg:=N70_in hp.t0 th.1 m
    have ok1:okF15_1 p m p p m (N29 p m)=true:=by
      unfold okF15_1
      have kg1:(decide (0≤(N70 p m).1)&&decide ((N70 p m).1 < Int.ofNat 64))=true:=by simp; omega
      have kg2:(decide (0≤(N70 p m).2.1)&&decide ((N70 p m).2.1 < Int.ofNat 64))=true:=by simp; omega
      refine c_true (fun _ => ?_) fun _=>c_true (fun _ => ?_) fun _=>c_true (fun hh => ?_) fun _ => ?_
      · repeat' (first | with_reducible rfl | with_reducible exact t70 _ _ | with_reducible exact kf | with_reducible exact kt | with_reducible exact kg1 | with_reducible exact kg2 | refine a_true ?_ (fun _ => ?_))
      · refine a_true (t71 hp.t0 d0) fun _=>a_true kt fun _=>rfl
      · have hh:N29 p m ≥ 0:=by simpa using hh
        have kn:=kn hh
        repeat' (first | with_reducible rfl | with_reducible exact kn | with_reducible exact kf | with_reducible exact kt | refine a_true ?_ (fun _ => ?_) | refine c_true (fun _ => ?_) (fun _ => ?_))
      · repeat' (first | with_reducible rfl | with_reducible exact kf | with_reducible exact kt | refine a_true ?_ (fun _ => ?_) | refine c_true (fun _ => ?_) (fun _ => ?_))
    have ok2:okF15_2 p m (vF15_1 p m p p m (N29 p m)) p m (N29 p m)=true:=by
      have e:0≤(vF15_1 p m p p m (N29 p m)).turn:=h1.pin.t0
      have bi:=fun i=>(bd_in hp i).1
      unfold okF15_2
      refine c_true (fun _=>rfl) fun _=>c_true (fun _=>rfl) fun _=>c_true (fun _=>a_true (t70 _ _) fun _=>rfl) fun _=>c_true (fun hh => ?_) fun _=>rfl
      have hh:N29 p m ≥ 0:=by simpa using hh
      have kn:=kn hh
      repeat' (first | with_reducible rfl | with_reducible exact kn | with_reducible exact t74 e (by decide) | with_reducible exact t74 e (N68_in (bi _)) | refine a_true ?_ (fun _ => ?_) | refine c_true (fun _ => ?_) (fun _ => ?_))
    refine ⟨?_,fun _ => ?_,fun h=>absurd hm h⟩
    · unfold ok15
      exact a_true (t28 hp) fun _=>a_true (t27 (by omega)) fun _=>c_true (fun _=>rfl) fun _=>a_true (t29 hp.v0 m) fun _=>a_true ok1 fun _=>a_true ok2 fun _=>a_true h4.1 fun _=>a_true h8.1 fun _=>a_true h9.1 fun _=>a_true h10.1 fun _=>a_true h11.1 fun _=>rfl
    · unfold N15
      rw [hc]
      simp only [hm,decide_true,Bool.not_true,cond_false]
      exact ⟨trivial,h11.2⟩
  · refine ⟨?_,fun h=>absurd h hm,fun _ => ?_⟩
    · unfold ok15
      refine a_true (t28 hp) fun _=>a_true (t27 (by omega)) fun _=>c_true (fun _=>rfl) fun h => ?_
      rw [hc] at h
      simp [hm] at h
    · unfold N15
      rw [hc]
      simp [hm]
end Kz
end
section
namespace Kz
open Go Go.RowKit Go.Proofs
set_option maxRecDepth 100000
set_option maxHeartbeats 4000000
noncomputable def K50:List (Nat×Nat×List (Nat×List Nat)):=[]
noncomputable def B50:Base:=baseOf Pz (fun f i=>lkC f i K50) [] [] []
theorem hB50:BOk B50:=base_ok named_z trivial trivial trivial
noncomputable def V57:AV:=AV.agg [AV.nilfunc,AV.nilfunc,AV.nilfunc,AV.func 101 [] [],AV.func 105 [] [],AV.func 102 [] [],AV.func 103 [] [],AV.func 104 [] [],AV.func 106 [] []]
noncomputable def ok50:Bool:=true
theorem E50:evPure B50 14 50 []=Tr.ret V57:=by kernel_rfl
theorem P50 (_:ok50=true):PS Pz 50 [] V57:=evPure_ok hB50 (by rw [E50]; rfl)
noncomputable def G50:List AV→Tr AV:=g0 (.ret V57)
theorem s50:Sound Pz 50 G50:=sound0 (at_rt (P50 rfl))
noncomputable def K52:List (Nat×Nat×List (Nat×List Nat)):=[(52,9,[(0,[1,2]),(1,[4])])]
noncomputable def B52:Base:=baseOf Pz (fun f i=>lkC f i K52) [(78,G78)] [] []
theorem hB52:BOk B52:=base_ok named_z ⟨s78,trivial⟩ trivial trivial
noncomputable def N52 (a:Pos) (b:Int):Bool:=(decide (N78 a b 6 ≥ 0))
noncomputable def ok52 (a:Pos) (b:Int):Bool:=(ok78 (a) (b) (6)&&true)
theorem P52 (a:Pos) (b:Int) (h:ok52 a b=true):PS Pz 52 [Pos.av a,.int .u8 b] (dB.res (N52 a b)):=ps_sum (n:=14) hB52 (by kernel_rfl) (by kernel_rfl) (by kernel_rfl) h
noncomputable def G52:List AV→Tr AV:=g2 dPos (dI .u8) (fun a b=>gdv (ok52 a b) (dB.res (N52 a b)))
theorem s52:Sound Pz 52 G52:=sound2 fun a b=>at_gd (P52 a b)
noncomputable def K140:List (Nat×Nat×List (Nat×List Nat)):=[(140,9,[(0,[0,1,4]),(1,[4])])]
noncomputable def B140:Base:=baseOf Pz (fun f i=>lkC f i K140) [] [] []
theorem hB140:BOk B140:=base_ok named_z trivial trivial trivial
noncomputable def N140 (a:Int) (b:Int):(Int×Int):=⟨(wr .u8 (1+a)),(b)⟩
noncomputable def ok140 (a:Int) (b:Int):Bool:=true
theorem P140 (a:Int) (b:Int) (h:ok140 a b=true):PS Pz 140 [.int .u8 a,.int .u8 b] ((dR .u8 .u8).res (N140 a b)):=ps_sum (n:=14) hB140 (by kernel_rfl) (by kernel_rfl) (by kernel_rfl) h
noncomputable def G140:List AV→Tr AV:=g2 (dI .u8) (dI .u8) (fun a b=>.ret ((dR .u8 .u8).res (N140 a b)))
theorem s140:Sound Pz 140 G140:=sound2 fun a b=>at_rt (P140 a b rfl)
noncomputable def K101:List (Nat×Nat×List (Nat×List Nat)):=[(101,13,[(0,[1,2]),(1,[1,2,7]),(2,[2]),(3,[2])])]
noncomputable def B101:Base:=baseOf Pz (fun f i=>lkC f i K101) [(52,G52),(140,G140)] [] []
theorem hB101:BOk B101:=base_ok named_z ⟨s52,s140,trivial⟩ trivial trivial
noncomputable def N101 (a:Pos):(Int×Int):=(bif !N52 a a.turn then ⟨((N140 (wr .u8 (1 - a.turn)) 6).fst),((N140 (wr .u8 (1 - a.turn)) 6).snd)⟩ else ⟨(0),(0)⟩)
noncomputable def ok101 (a:Pos):Bool:=(ok52 (a) (a.turn)&&true)
theorem P101 (a:Pos) (h:ok101 a=true):PS Pz 101 [Pos.av a] ((dR .u8 .u8).res (N101 a)):=ps_sum (n:=14) hB101 (by kernel_rfl) (by kernel_rfl) (by kernel_rfl) h
noncomputable def G101:List AV→Tr AV:=g1 dPos (fun a=>gdv (ok101 a) ((dR .u8 .u8).res (N101 a)))
theorem s101:Sound Pz 101 G101:=sound1 fun a=>at_gd (P101 a)
noncomputable def K102:List (Nat×Nat×List (Nat×List Nat)):=[(102,6,[(0,[1,2]),(1,[2])]),(141,28,[(0,[1,2,3,6]),(1,[1,2,6,14,15,16]),(2,(1::2::6::(rn 14 4 []))),(3,[1,2,6,8,14,15,16]),(4,[1,2,6,8,14,15,16,22]),(5,[6]),(6,[1,2,6,14,15,16]),(7,[6])]),(142,9,[(0,[0,1]),(1,[3])])]
noncomputable def B102:Base:=baseOf Pz (fun f i=>lkC f i K102) [(140,G140)] [] []
theorem hB102:BOk B102:=base_ok named_z ⟨s140,trivial⟩ trivial trivial
noncomputable def N102 (a:Pos):(Int×Int):=(bif decide (a.checks.getD (scale 1 (wr .u8 (1 - a.turn))).toNat 0 ≥ 3) then ⟨((N140 (wr .u8 (1 - a.turn)) 7).fst),((N140 (wr .u8 (1 - a.turn)) 7).snd)⟩ else (bif decide (a.checks.getD (scale 1 a.turn).toNat 0 ≥ 3) then ⟨((N140 a.turn 7).fst),((N140 a.turn 7).snd)⟩ else ⟨(0),(0)⟩))
noncomputable def ok102 (a:Pos):Bool:=(decide (0≤wr .u8 (1 - a.turn))&&decide (wr .u8 (1 - a.turn) < ↑2)&&(bif decide (a.checks.getD (scale 1 (wr .u8 (1 - a.turn))).toNat 0 ≥ 3) then true else (decide (0≤a.turn)&&decide (a.turn < ↑2)&&true)))
theorem P102 (a:Pos) (h:ok102 a=true):PS Pz 102 [Pos.av a] ((dR .u8 .u8).res (N102 a)):=ps_sum (n:=14) hB102 (by kernel_rfl) (by kernel_rfl) (by kernel_rfl) h
noncomputable def G102:List AV→Tr AV:=g1 dPos (fun a=>gdv (ok102 a) ((dR .u8 .u8).res (N102 a)))
theorem s102:Sound Pz 102 G102:=sound1 fun a=>at_gd (P102 a)
noncomputable def K103:List (Nat×Nat×List (Nat×List Nat)):=[(103,6,[(0,[1,2]),(1,[2])]),(141,28,[(0,[1,2,3,6]),(1,[1,2,6,14,15,16]),(2,(1::2::6::(rn 14 4 []))),(3,[1,2,6,8,14,15,16]),(4,[1,2,6,8,14,15,16,22]),(5,[6]),(6,[1,2,6,14,15,16]),(7,[6])]),(143,17,[(0,(0::1::(rn 11 5 []))),(1,(4::(rn 11 5 []))),(2,[3])])]
noncomputable def B103:Base:=baseOf Pz (fun f i=>lkC f i K103) [(78,G78),(140,G140)] [] []
theorem hB103:BOk B103:=base_ok named_z ⟨s78,s140,trivial⟩ trivial trivial
noncomputable def N103 (a:Pos):(Int×Int):=(bif decide (N78 a (wr .u8 (1 - a.turn)) 6 ≥ 0) then (bif ibits BinOp.and .i64 (Int.fdiv 103481868288 (2 ^ min (BitVec.ofInt 64 (N78 a (wr .u8 (1 - a.turn)) 6)).toNat 64)) 1==1 then ⟨((N140 (wr .u8 (1 - a.turn)) 6).fst),((N140 (wr .u8 (1 - a.turn)) 6).snd)⟩ else (bif decide (N78 a a.turn 6 ≥ 0) then (bif ibits BinOp.and .i64 (Int.fdiv 103481868288 (2 ^ min (BitVec.ofInt 64 (N78 a a.turn 6)).toNat 64)) 1==1 then ⟨((N140 a.turn 6).fst),((N140 a.turn 6).snd)⟩ else ⟨(0),(0)⟩) else ⟨(0),(0)⟩)) else (bif decide (N78 a a.turn 6 ≥ 0) then (bif ibits BinOp.and .i64 (Int.fdiv 103481868288 (2 ^ min (BitVec.ofInt 64 (N78 a a.turn 6)).toNat 64)) 1==1 then ⟨((N140 a.turn 6).fst),((N140 a.turn 6).snd)⟩ else ⟨(0),(0)⟩) else ⟨(0),(0)⟩))
noncomputable def ok103 (a:Pos):Bool:=(ok78 (a) (wr .u8 (1 - a.turn)) (6)&&(bif decide (N78 a (wr .u8 (1 - a.turn)) 6 ≥ 0) then (bif ibits BinOp.and .i64 (Int.fdiv 103481868288 (2 ^ min (BitVec.ofInt 64 (N78 a (wr .u8 (1 - a.turn)) 6)).toNat 64)) 1==1 then true else (ok78 (a) (a.turn) (6)&&true)) else (ok78 (a) (a.turn) (6)&&true)))
theorem P103 (a:Pos) (h:ok103 a=true):PS Pz 103 [Pos.av a] ((dR .u8 .u8).res (N103 a)):=ps_sum (n:=14) hB103 (by kernel_rfl) (by kernel_rfl) (by kernel_rfl) h
noncomputable def G103:List AV→Tr AV:=g1 dPos (fun a=>gdv (ok103 a) ((dR .u8 .u8).res (N103 a)))
theorem s103:Sound Pz 103 G103:=sound1 fun a=>at_gd (P103 a)
noncomputable def K104:List (Nat×Nat×List (Nat×List Nat)):=[(104,8,[(0,[1,2]),(1,[2,5]),(2,[2]),(3,[2])])]
noncomputable def B104:Base:=baseOf Pz (fun f i=>lkC f i K104) [(80,G80),(140,G140)] [] []
theorem hB104:BOk B104:=base_ok named_z ⟨s80,s140,trivial⟩ trivial trivial
noncomputable def N104 (a:Pos):(Int×Int):=(bif N80 (Pos.mk a.variant a.board a.promoted a.pockets a.turn a.rooks a.passing a.checks a.half a.full) 0 0==0#64 then ⟨((N140 1 8).fst),((N140 1 8).snd)⟩ else ⟨(0),(0)⟩)
noncomputable def ok104 (a:Pos):Bool:=(ok80 (Pos.mk a.variant a.board a.promoted a.pockets a.turn a.rooks a.passing a.checks a.half a.full) (0) (0)&&true)
theorem P104 (a:Pos) (h:ok104 a=true):PS Pz 104 [Pos.av a] ((dR .u8 .u8).res (N104 a)):=ps_sum (n:=14) hB104 (by kernel_rfl) (by kernel_rfl) (by kernel_rfl) h
noncomputable def G104:List AV→Tr AV:=g1 dPos (fun a=>gdv (ok104 a) ((dR .u8 .u8).res (N104 a)))
theorem s104:Sound Pz 104 G104:=sound1 fun a=>at_gd (P104 a)
noncomputable def K105:List (Nat×Nat×List (Nat×List Nat)):=[(105,24,[(0,[1,2]),(1,[1,2,10,11,12]),(2,(1::2::(rn 10 4 []))),(3,[1,2,4,10,11,12]),(4,[1,2,4,10,11,12,19]),(5,[2]),(6,[1,2,10,11,12]),(7,[2])])]
noncomputable def B105:Base:=baseOf Pz (fun f i=>lkC f i K105) [(80,G80),(140,G140)] [] []
theorem hB105:BOk B105:=base_ok named_z ⟨s80,s140,trivial⟩ trivial trivial
noncomputable def N105 (a:Pos):(Int×Int):=(bif N80 (Pos.mk a.variant a.board a.promoted a.pockets a.turn a.rooks a.passing a.checks a.half a.full) a.turn 0==0#64 then ⟨((N140 a.turn 8).fst),((N140 a.turn 8).snd)⟩ else (bif N80 (Pos.mk a.variant a.board a.promoted a.pockets a.turn a.rooks a.passing a.checks a.half a.full) (wr .u8 (1 - a.turn)) 0==0#64 then ⟨((N140 (wr .u8 (1 - a.turn)) 8).fst),((N140 (wr .u8 (1 - a.turn)) 8).snd)⟩ else ⟨(0),(0)⟩))
noncomputable def ok105 (a:Pos):Bool:=(ok80 (Pos.mk a.variant a.board a.promoted a.pockets a.turn a.rooks a.passing a.checks a.half a.full) (a.turn) (0)&&(bif N80 (Pos.mk a.variant a.board a.promoted a.pockets a.turn a.rooks a.passing a.checks a.half a.full) a.turn 0==0#64 then true else (ok80 (Pos.mk a.variant a.board a.promoted a.pockets a.turn a.rooks a.passing a.checks a.half a.full) (wr .u8 (1 - a.turn)) (0)&&true)))
theorem P105 (a:Pos) (h:ok105 a=true):PS Pz 105 [Pos.av a] ((dR .u8 .u8).res (N105 a)):=ps_sum (n:=14) hB105 (by kernel_rfl) (by kernel_rfl) (by kernel_rfl) h
noncomputable def G105:List AV→Tr AV:=g1 dPos (fun a=>gdv (ok105 a) ((dR .u8 .u8).res (N105 a)))
theorem s105:Sound Pz 105 G105:=sound1 fun a=>at_gd (P105 a)
noncomputable def K58:List (Nat×Nat×List (Nat×List Nat)):=[(58,52,[(0,(2::3::(rn 30 10 (rn 45 6 [])))),(1,(2::5::6::(rn 30 10 (rn 45 6 [])))),(2,(2::5::14::(rn 30 10 (rn 45 6 [])))),(3,[4]),(4,(2::5::19::(rn 30 10 (rn 45 6 [])))),(5,(2::5::24::(rn 30 10 (rn 45 6 [])))),(6,[4]),(7,(2::5::40::(rn 45 6 []))),(8,[4]),(9,[4])])]
noncomputable def B58:Base:=baseOf Pz (fun f i=>lkC f i K58) [(15,G15),(51,G51),(82,G82),(52,G52)] [] []
theorem hB58:BOk B58:=base_ok named_z ⟨s15,s51,s82,s52,trivial⟩ trivial trivial
noncomputable def N58 (a:Pos) (b:Mv):Bool:=(bif !(N15 a b).snd then (false) else (bif N51 a.variant a.turn then (bif !N52 (N15 a b).fst a.turn then (false) else (bif N82 (N15 a b).fst a.turn then (bif a.variant != 3 then (false) else (bif N52 (N15 a b).fst (wr .u8 (1 - a.turn)) then (false) else (bif a.variant != 8 then (true) else (!N82 (N15 a b).fst (wr .u8 (1 - a.turn)))))) else (bif a.variant != 8 then (true) else (!N82 (N15 a b).fst (wr .u8 (1 - a.turn)))))) else (bif a.variant != 8 then (true) else (!N82 (N15 a b).fst (wr .u8 (1 - a.turn))))))
noncomputable def ok58 (a:Pos) (b:Mv):Bool:=(ok15 (a) (b)&&(bif !(N15 a b).snd then true else (ok51 (a.variant) (a.turn)&&(bif N51 a.variant a.turn then (ok52 ((N15 a b).fst) (a.turn)&&(bif !N52 (N15 a b).fst a.turn then true else (ok82 ((N15 a b).fst) (a.turn)&&(bif N82 (N15 a b).fst a.turn then (bif a.variant != 3 then true else (ok52 ((N15 a b).fst) (wr .u8 (1 - a.turn))&&(bif N52 (N15 a b).fst (wr .u8 (1 - a.turn)) then true else (bif a.variant != 8 then true else (ok82 ((N15 a b).fst) (wr .u8 (1 - a.turn))&&true))))) else (bif a.variant != 8 then true else (ok82 ((N15 a b).fst) (wr .u8 (1 - a.turn))&&true)))))) else (bif a.variant != 8 then true else (ok82 ((N15 a b).fst) (wr .u8 (1 - a.turn))&&true))))))
theorem P58 (a:Pos) (b:Mv) (h:ok58 a b=true):PS Pz 58 [Pos.av a,Mv.av b] (dB.res (N58 a b)):=ps_sum (n:=14) hB58 (by kernel_rfl) (by kernel_rfl) (by kernel_rfl) h
noncomputable def G58:List AV→Tr AV:=g2 dPos dMv (fun a b=>gdv (ok58 a b) (dB.res (N58 a b)))
theorem s58:Sound Pz 58 G58:=sound2 fun a b=>at_gd (P58 a b)
end Kz
end
section
namespace Go.Proofs
open Go.Shelf Go.RowKit Go.Lib Go.Sort
def encM (m:Kz.Mv):List Value:=[.int .i8 m.frm,.int .i8 m.to,.int .u8 m.pro,.int .u8 m.drp,.bool m.cas]
theorem encM_len (m:Kz.Mv):(encM m).length=5:=rfl
structure RowW (w:World) (blk cap:Nat) (ty:TypeId) (dk:Array Kz.Mv) (W:World):Prop where
  os:W.os=w.os
  tape:W.tape=w.tape
  output:W.output=w.output
  size:w.heap.size≤W.heap.size
  other:∀ k,k < w.heap.size→k≠blk→W.heap[k]?=w.heap[k]?
  row:∃ cur,W.heap[blk]?=some (.cells cur ty (0,0))∧cur.size=cap * 5∧∀ j c,j < dk.size→c < 5→cur[j * 5+c]?=(encM dk[j]!)[c]?
theorem RowW.below {w W W':World} {blk cap:Nat} {ty:TypeId} {dk:Array Kz.Mv} (h:RowW w blk cap ty dk W) (hb:blk < w.heap.size) (b:Below W.heap.size W W'):RowW w blk cap ty dk W' :=
  ⟨b.os.trans h.os,b.tape.trans h.tape,b.output.trans h.output,Nat.le_trans h.size b.size,fun k hk hn=>by rw [b.block k (Nat.lt_of_lt_of_le hk h.size)]; exact h.other k hk hn,by
    obtain ⟨cur,h1,h2⟩:=h.row
    exact ⟨cur,by rw [b.block blk (Nat.lt_of_lt_of_le hb h.size)]; exact h1,h2⟩⟩
theorem RowW.setCells {w W:World} {blk cap:Nat} {ty:TypeId} {dk dk':Array Kz.Mv} (h:RowW w blk cap ty dk W) (vs:List Value) (o:Nat)
    (hd:∀ j c,j < dk'.size→c < 5→j < dk.size∧(if o≤j * 5+c∧j * 5+c < o+vs.length then vs[j * 5+c - o]? else (encM dk[j]!)[c]?)=(encM dk'[j]!)[c]?) (hlen:o+vs.length≤cap * 5):RowW w blk cap ty dk' (W.setCells blk o vs):=by
  obtain ⟨cur,h1,h2,h3⟩:=h.row
  have hb:=Kz.lt_of_some h1
  have key:∀ (vs:List Value) (o:Nat) (W:World) (cur:Array Value),W.heap[blk]?=some (.cells cur ty (0,0))→o+vs.length≤cur.size →
      ∃ cur',W.setCells blk o vs=Kz.putBlk W blk (.cells cur' ty (0,0))∧cur'.size=cur.size∧∀ t,t < cur.size→cur'[t]?=if o≤t∧t < o+vs.length then vs[t - o]? else cur[t]? := by
    intro vs
    induction vs with
    | nil =>
      intro o W cur hW _
      refine ⟨cur,?_,rfl,fun t _=>by rw [if_neg (by simp)]⟩
      rw [World.setCells]
      simp only [Kz.putBlk]
      have:W.heap.setIfInBounds blk (.cells cur ty (0,0))=W.heap:=by
        apply Array.ext_getElem?
        intro i
        rw [Array.getElem?_setIfInBounds]
        split
        · rename_i e; subst e; split
          · exact hW.symm
          · rename_i h'; simp [Array.getElem?_eq_none (by omega:W.heap.size≤blk)]
        · rfl
      rw [this]
    | cons v vs ih =>
      intro o W cur hW hl
      simp only [List.length_cons] at hl
      have e1:W.setCell ⟨blk,o,none⟩ v=Kz.putBlk W blk (.cells (cur.setIfInBounds o v) ty (0,0)):=Kz.setCell_eq_put hW v
      obtain ⟨cur',a1,a2,a3⟩:=ih (o+1) (Kz.putBlk W blk (.cells (cur.setIfInBounds o v) ty (0,0))) (cur.setIfInBounds o v) (Kz.putBlk_same hW) (by simp; omega)
      refine ⟨cur',?_,by rw [a2]; simp,fun t ht => ?_⟩
      · rw [World.setCells,e1,a1]
        simp [Kz.putBlk]
      · rw [a3 t (by simpa using ht)]
        by_cases h1:o+1≤t∧t < o+1+vs.length
        · rw [if_pos h1,if_pos ⟨by omega,by simp; omega⟩]
          obtain ⟨u,rfl⟩:∃ u,t=o+1+u:=⟨t - (o+1),by omega⟩
          rw [show o+1+u - (o+1)=u by omega,show o+1+u - o=u+1 by omega]
          simp
        · rw [if_neg h1,Array.getElem?_setIfInBounds]
          by_cases h2:o=t
          · subst h2
            rw [if_pos rfl,if_pos (by omega),if_pos ⟨Nat.le_refl _,by simp⟩]
            simp
          · rw [if_neg h2,if_neg (by simp; omega)]
  obtain ⟨cur',a1,a2,a3⟩:=key vs o W cur h1 (by omega)
  rw [a1]
  refine ⟨h.os,h.tape,h.output,by rw [Kz.putBlk_size]; exact h.size,fun k hk hn=>by rw [Kz.putBlk_other hn]; exact h.other k hk hn,cur',Kz.putBlk_same h1,by rw [a2,h2],fun j c hj hc => ?_⟩
  obtain ⟨hj',he⟩:=hd j c hj hc
  have hlt:j * 5+c < cur.size:=by
    rcases Nat.lt_or_ge (j * 5+c) cur.size with h' | h'
    · exact h'
    · have:=h3 j c hj' hc
      rw [Array.getElem?_eq_none h',List.getElem?_eq_getElem (by rw [encM_len]; exact hc)] at this
      cases this
  rw [a3 _ hlt,h3 j c hj' hc]
  exact he
theorem RowW.put {w W:World} {blk cap:Nat} {ty:TypeId} {dk:Array Kz.Mv} (h:RowW w blk cap ty dk W) {i:Nat} (hi:i < dk.size) (hc:dk.size≤cap) (u:Kz.Mv):RowW w blk cap ty (dk.setIfInBounds i u) (W.setCells blk (i * 5) (encM u)):=by
  refine h.setCells (encM u) (i * 5) (fun j c hj hc => ?_) (by rw [encM_len]; have:=Nat.mul_le_mul_right 5 (show i+1≤cap by omega); omega)
  have hj':j < dk.size:=by simpa using hj
  refine ⟨hj',?_⟩
  rw [encM_len]
  by_cases e:i=j
  · subst e
    rw [if_pos ⟨by omega,by omega⟩,show i * 5+c - i * 5=c by omega,getElem!_pos (dk.setIfInBounds i u) i hj]
    simp
  · rw [if_neg (by omega),getElem!_pos (dk.setIfInBounds i u) j hj,getElem!_pos dk j hj',Array.getElem_setIfInBounds_ne _ e]
theorem RowW.tail {w W:World} {blk cap:Nat} {ty:TypeId} {dk:Array Kz.Mv} (h:RowW w blk cap ty dk W) {i n:Nat} (hn:i+n≤cap) (hi:i≤dk.size) (vs:List Value) (hl:vs.length=n * 5):RowW w blk cap ty (dk.toList.take i).toArray (W.setCells blk (i * 5) vs):=by
  refine h.setCells vs (i * 5) (fun j c hj hc => ?_) (by rw [hl,← Nat.add_mul]; exact Nat.mul_le_mul_right 5 hn)
  have hj':j < i:=by simp at hj; omega
  refine ⟨by omega,?_⟩
  rw [if_neg (by omega)]
  congr 2
  rw [getElem!_pos dk j (show j < dk.size by omega),getElem!_pos (dk.toList.take i).toArray j hj]
  simp
theorem RowW.same {w W:World} {blk cap:Nat} {ty:TypeId} {dk:Array Kz.Mv} (h:RowW w blk cap ty dk W) {i:Nat} (hi:i≤dk.size):RowW w blk cap ty (dk.toList.take i).toArray W:=by
  obtain ⟨cur,h1,h2,h3⟩:=h.row
  refine ⟨h.os,h.tape,h.output,h.size,h.other,cur,h1,h2,fun j c hj hc => ?_⟩
  have hj':j < i:=by simp at hj; omega
  rw [h3 j c (by omega) hc]
  congr 2
  rw [getElem!_pos dk j (show j < dk.size by omega),getElem!_pos (dk.toList.take i).toArray j hj]
  simp
def zeroM:Array Value := #[Value.int IntKind.i8 0,Value.int IntKind.i8 0,Value.int IntKind.u8 0,Value.int IntKind.u8 0,Value.bool false]
theorem zeroM_one (n:Nat):∀ v ∈ (Builtin.zeroCells zeroM n).toList,v.oneCell'=true:=by
  intro v hv
  simp only [Builtin.zeroCells,Array.toList_map,List.mem_map] at hv
  obtain ⟨i,_,rfl⟩:=hv
  have:i % zeroM.size < 5:=Nat.mod_lt _ (by decide)
  generalize i % zeroM.size=t at this
  match t,this with
  | 0,_ | 1,_ | 2,_ | 3,_ | 4,_=>rfl
  | t+5,h=>omega
theorem zeroM_len (n:Nat):(Builtin.zeroCells zeroM n).toList.length=n * 5:=by simp [Builtin.zeroCells,zeroM]
theorem run_clear5 (W:World) (b o n c:Nat) (hn:0 < n) (hc:∀ t,t < n * 5→(W.cell? ⟨b,o+t,none⟩).isSome=true) (hf:∀ t,t < n * 5→W.frozen? ⟨b,o+t,none⟩=false) (ty:TypeId) :
    (Builtin.clear_ #[53] ty #[.slice (some ⟨b,o,none⟩) n c]).run Tryz.prog W=.ok (.tuple #[]) (W.setCells b o (Builtin.zeroCells zeroM n).toList):=by
  have hst:=run_storeCells_cells (P:=Tryz.prog) b o (Builtin.zeroCells zeroM n).toList 0 W (by rw [zeroM_len]; simpa using hc) (by rw [zeroM_len]; simpa using hf) (zeroM_one n)
  simp only [Nat.add_zero] at hst
  obtain ⟨m,rfl⟩:∃ m,n=m+1:=⟨n - 1,by omega⟩
  have hz:(Value.agg zeroM).cells=zeroM:=rfl
  have hv:∀ w,(zeroValue 40).run Tryz.prog w=.ok (.agg zeroM) w:=Tryz.zeroValue40
  simp only [zeroM] at hst hz hv
  simp [Builtin.clear_,run_underlying Tryz.underlying53,hv,hz,hst]
  rfl
theorem RowW.cell {w W:World} {blk cap:Nat} {ty:TypeId} {dk:Array Kz.Mv} (h:RowW w blk cap ty dk W) {j:Nat} (hj:j < dk.size) (c:Nat) (hc:c < 5):W.cell? ⟨blk,j * 5+c,none⟩=some ((encM dk[j]!)[c]'hc)∧W.frozen? ⟨blk,j * 5+c,none⟩=false:=by
  obtain ⟨cur,h1,h2,h3⟩:=h.row
  refine ⟨?_,Kz.frozen_of_blk h1⟩
  rw [Kz.cell_of_blk h1,h3 j c hj hc]
  exact List.getElem?_eq_getElem _
theorem RowW.load {w W:World} {blk cap:Nat} {ty:TypeId} {dk:Array Kz.Mv} (h:RowW w blk cap ty dk W) {j:Nat} (hj:j < dk.size):Sem.run Tryz.prog (loadCellsFrom ⟨blk,0+j * 5,none⟩ 0 5 #[]) W=.ok (encM dk[j]!).toArray W :=
  run_loadCellsFrom_list Tryz.prog _ _ (encM dk[j]!) 5 rfl (fun c v hc=>by
    have hc5:c < 5:=(List.getElem?_eq_some_iff.1 hc).1
    obtain ⟨cur,h1,h2,h3⟩:=h.row
    rw [Addr.add_lit]
    rw [Kz.cell_of_blk h1,Nat.zero_add,h3 j c hj hc5]
    exact hc)
set_option maxHeartbeats 1000000 in
set_option maxRecDepth 100000 in
theorem delM (p:Kz.Mv→Bool) (g:Nat) (lb:Array Value) (eg:∀ args w,(callFunc g args).run Tryz.prog w=.ok (.enter g args) w) (blk cap:Nat) (d:Array Kz.Mv) (w:World) (hb:blk < w.heap.size) (hH:RowW w blk cap 40 d w) (hcap:d.size≤cap) (hmax:cap≤maxLen)
    (hpo:∀ W dk x,RowW w blk cap 40 dk W→Calls Tryz.prog g (#[.agg (encM x).toArray]++lb) W fun e w'=>e=.returned (.bool (p x))∧RowKit.Below W.heap.size W w') :
    Calls Tryz.prog 54 #[.slice (some ⟨blk,0,none⟩) d.size cap,.func (.func g) #[] lb] w fun e w'=>e=.returned (.slice (some ⟨blk,0,none⟩) (d.toList.filter fun x => !p x).length cap)∧RowW w blk cap 40 (d.toList.filter fun x => !p x).toArray w':=by
  have hsz:d.size≤9223372036854775807:=by unfold maxLen at hmax; omega
  have e6:∀ args w,(callFunc 108 args).run Tryz.prog w=.ok (.enter 108 args) w:=fun args w=>by rfl
  have hp:PredBelow Tryz.prog g lb (fun x=>.agg (encM x).toArray) p w:=fun W x hB=>(hpo W d x (hH.below hb hB)).mono fun e w' ⟨h1,h2⟩=>⟨h1,hB.trans (h2.mono hB.size)⟩
  have hIF:=AnyQ.slices_IndexFunc Tryz.idxM 5 Tryz.isAgg40 Tryz.sizeOf40 encM encM_len p g lb eg blk 0 d.size cap d.toList w hp (by simp) hsz hb (fun j hj i v hi=>by
    have hi5:i < 5:=(List.getElem?_eq_some_iff.1 hi).1
    have hj':j < d.size:=by simpa using hj
    obtain ⟨cur,h1,h2,h3⟩:=hH.row
    rw [Kz.cell_of_blk h1,Nat.zero_add,h3 j i hj' hi5]
    rw [← hi,getElem!_pos d j hj',getElem!_pos d.toList j hj]
    simp)
  rw [show d.toList.take d.size=d.toList from List.take_of_length_le (by simp)] at hIF
  have tl:∀ j,j < d.size→d.toList[j]! = d[j]! := fun j hj=>by rw [getElem!_pos d j hj,getElem!_pos d.toList j (by simpa using hj)]; simp
  obtain ⟨kp,HK⟩:∃ kp:Nat→Bool,Hid (kp=fun j => !p d[j]!):=⟨_,rfl⟩
  have hfil:(d.toList.filter fun x => !p x)=keptUpTo kp d d.size:=by rw [HK.out]; exact (keptUpTo_filter (fun x => !p x) d).symm
  rw [hfil]
  rcases idxByFrom_spec (fun _ y=>p y) default d.toList 0 with ⟨e1,hall⟩ | ⟨k0,hk0,e1,ht,hall⟩
  ·
    have e2:Lib.idxBy (fun _ y=>p y) d.toList default = -1:=e1
    rw [e2] at hIF
    have hkeep:∀ j,j < d.size→kp j=true:=fun j hj=>by rw [HK.out]; show (!p d[j]!)=true; rw [← tl j hj,hall j (by simpa using hj)]; rfl
    have e3:keptUpTo kp d d.size=d.toList:=by rw [keptUpTo_all kp d _ hkeep,range_map_get]
    have HH:Aside (RowW w blk cap 40 d w):=hH
    have HB:Hid (blk < w.heap.size):=hb
    clear hH hpo hp hb
    go_enter Tryz.func54,Tryz.ntmps54
    go_wp2_with (go_at_fn 108; refine hIF.mono ?_; rintro e w' ⟨rfl,hbl⟩)
    go_ret
    rw [e3]
    exact ⟨by simp,by simpa using HH.out.below HB.out hbl⟩
  · have hk0':k0 < d.size:=by simpa using hk0
    have e2:Lib.idxBy (fun _ y=>p y) d.toList default=(k0:Int):=by unfold Lib.idxBy; rw [e1]; simp
    rw [e2] at hIF
    have hkeep:∀ j,j < k0→kp j=true:=fun j hj=>by rw [HK.out]; show (!p d[j]!)=true; rw [← tl j (by omega),hall j hj]; rfl
    have hdrop:kp k0=false:=by rw [HK.out]; show (!p d[k0]!)=false; rw [← tl k0 hk0']; rw [show p d.toList[k0]! = true from ht]; rfl
    have hne1:((k0:Int) == -1)=false:=beq_eq_false_iff_ne.2 (by omega)
    have HC:Aside _:=hpo
    have HH:Aside (RowW w blk cap 40 d w):=hH
    have HB:Hid (blk < w.heap.size):=hb
    clear hpo hp hH hb hall ht e1 e2 tl
    go_enter Tryz.func54,Tryz.ntmps54
    go_wp2_with (go_at_fn 108; refine hIF.mono ?_; rintro e w' ⟨rfl,hbl⟩)
    have HBL:=Lib.hid hbl
    clear hbl
    go_loopg [5,6,7] d.size (fun gg s5 s6 _ wr => ∃ (i j:Nat) (dk:Array Kz.Mv),s5=.int .i64 i∧s6=.int .i64 j∧j≤d.size∧d.size - j≤gg∧Aside (RowW w blk cap 40 dk wr)∧Aside (KeptInv kp d j i dk))
    case atStart=>exact ⟨k0,k0+1,d,rfl,by go_num,by omega,by omega,HH.out.below HB.out HBL.out,KeptInv.start hkeep hdrop⟩
    case round =>
      obtain ⟨i,j,dk,rfl,rfl,hjd,hgg,W2,I2⟩:=hrel
      have hI:=I2.out
      have hij:=hI.lt
      have hds:=hI.size
      by_cases hlt:j < d.size
      · have hltz:(j:Int) < (d.size:Int):=by omega
        have c0:=(W2.out.cell (j:=j) (by omega) 0 (by omega)).1
        have c1:=(W2.out.cell (j:=j) (by omega) 1 (by omega)).1
        have c2:=(W2.out.cell (j:=j) (by omega) 2 (by omega)).1
        have c3:=(W2.out.cell (j:=j) (by omega) 3 (by omega)).1
        have c4:=(W2.out.cell (j:=j) (by omega) 4 (by omega)).1
        simp only [hI.high j (by omega),encM,List.getElem_cons_succ,List.getElem_cons_zero,Nat.add_zero] at c0 c1 c2 c3 c4
        clear hI
        generalize hu:d[j]! = u at c0 c1 c2 c3 c4
        have C:Aside (d[j]! = u):=hu
        clear hu
        have hW1:RowW w blk cap 40 dk (wr.alloc (Obj.cells #[Value.int IntKind.i8 u.frm,Value.int IntKind.i8 u.to,Value.int IntKind.u8 u.pro,Value.int IntKind.u8 u.drp,Value.bool u.cas] 40)) :=
          W2.out.below HB.out ((Below.refl _ _).alloc (Nat.le_refl _) _)
        have hcall:Calls Tryz.prog g (#[Value.agg #[Value.int IntKind.i8 u.frm,Value.int IntKind.i8 u.to,Value.int IntKind.u8 u.pro,Value.int IntKind.u8 u.drp,Value.bool u.cas]]++lb) _ _:=HC.out _ dk u hW1
        have HW1:=Lib.hid hW1
        clear hW1
        cases hq:p u with
        | false =>
          rw [hq] at hcall
          have HCALL:=Lib.hid hcall
          clear hcall
          go_wp2_with fail
          refine HCALL.out.mono ?_
          rintro e w2 ⟨rfl,hb2⟩
          have hW2:=HW1.out.below HB.out hb2
          have r0:=hW2.cell (j:=i) (by omega) 0 (by omega)
          have r1:=hW2.cell (j:=i) (by omega) 1 (by omega)
          have r2:=hW2.cell (j:=i) (by omega) 2 (by omega)
          have r3:=hW2.cell (j:=i) (by omega) 3 (by omega)
          have r4:=hW2.cell (j:=i) (by omega) 4 (by omega)
          simp only [Nat.add_zero] at r0
          obtain ⟨r0,f0⟩:=r0
          obtain ⟨r1,f1⟩:=r1
          obtain ⟨r2,f2⟩:=r2
          obtain ⟨r3,f3⟩:=r3
          obtain ⟨r4,f4⟩:=r4
          have hcs:∀ c,w2.cell? ⟨wr.heap.size,c,none⟩=(#[Value.int IntKind.i8 u.frm,Value.int IntKind.i8 u.to,Value.int IntKind.u8 u.pro,Value.int IntKind.u8 u.drp,Value.bool u.cas]:Array Value)[c]? := fun c=>by
            rw [hb2.cell (p:=⟨wr.heap.size,c,none⟩) (by simp),Kz.cell_of_blk (heap_alloc_new wr _)]
          have b0:=hcs 0
          have b1:=hcs 1
          have b2:=hcs 2
          have b3:=hcs 3
          have b4:=hcs 4
          simp at b0 b1 b2 b3 b4
          have HW2:=Lib.hid hW2
          clear hcs hb2 hW2
          go_wp2_with fail
          go_roundg (d.size - (j+1))
          case measure=>omega
          case rel =>
            refine ⟨i+1,j+1,dk.setIfInBounds i u,by go_num,by go_num,by omega,Nat.le_refl _,HW2.out.put (i:=i) (by omega) (by omega) u,(show Aside _ from ?_)⟩
            have:=I2.out.keep hlt (by rw [HK.out]; show (!p d[j]!)=true; rw [C.out,hq]; rfl)
            rwa [C.out] at this
        | true =>
          rw [hq] at hcall
          have HCALL:=Lib.hid hcall
          clear hcall
          go_wp2_with fail
          refine HCALL.out.mono ?_
          rintro e w2 ⟨rfl,hb2⟩
          have HW2:=Lib.hid (HW1.out.below HB.out hb2)
          clear hb2
          go_wp2_with fail
          go_roundg (d.size - (j+1))
          case measure=>omega
          case rel=>exact ⟨i,j+1,dk,rfl,by go_num,by omega,Nat.le_refl _,HW2.out,I2.out.skip (by rw [HK.out]; show (!p d[j]!)=false; rw [C.out,hq]; rfl)⟩
      · obtain rfl:j=d.size:=by omega
        have hltz:¬ (d.size:Int) < (d.size:Int):=by omega
        have hcl:∀ ty,(Builtin.clear_ #[53] ty #[.slice (some ⟨blk,i * 5,none⟩) (d.size - i) (cap - i)]).run Tryz.prog wr=.ok (.tuple #[]) (wr.setCells blk (i * 5) (Builtin.zeroCells zeroM (d.size - i)).toList):=by
          obtain ⟨cur,h1,h2,h3⟩:=W2.out.row
          refine run_clear5 wr blk (i * 5) (d.size - i) (cap - i) (by omega) (fun t ht => ?_) (fun t ht=>Kz.frozen_of_blk h1)
          rw [Kz.cell_of_blk h1]
          have:d.size * 5≤cap * 5:=Nat.mul_le_mul_right 5 hcap
          have h5:(d.size - i) * 5=d.size * 5 - i * 5:=Nat.sub_mul _ _ _
          rw [Array.getElem?_eq_getElem (by omega)]
          rfl
        have hid:i≤d.size:=by omega
        clear hI
        go_wp2
        go_ret
        have hI:=I2.out
        refine ⟨by rw [hI.len]; rfl,?_⟩
        have:=W2.out.tail (i:=i) (n:=d.size - i) (by omega) (by omega) _ (zeroM_len (d.size - i))
        have e:keptUpTo kp d d.size=dk.toList.take i:=by
          have hsz':=hI.size
          apply List.ext_getElem?
          intro j
          by_cases hj:j < i
          · rw [hI.low j hj,List.getElem?_take_of_lt hj,getElem!_pos dk j (by omega),List.getElem?_eq_getElem (by simp; omega)]
            simp
          · rw [List.getElem?_eq_none (by rw [hI.len]; omega),List.getElem?_eq_none (by simp; omega)]
        rw [e]
        exact this
end Go.Proofs
end
section
namespace Go.Proofs
open Go.Shelf Go.RowKit Go.Lib Go.Sort Kz
theorem mv_cells {g:Gh} {tk:List Nat} {w:World} {m:Mv} {cs:List Value} (h:RepC g tk w (segs (Mv.av m)) cs):cs=encM m:=by
  change RepC g tk w [.int .i8 m.frm,.int .i8 m.to,.int .u8 m.pro,.int .u8 m.drp,.bool m.cas] cs at h
  obtain ⟨x1,r1,rfl,q1,h⟩:=h.inv_one rfl
  obtain ⟨x2,r2,rfl,q2,h⟩:=h.inv_one rfl
  obtain ⟨x3,r3,rfl,q3,h⟩:=h.inv_one rfl
  obtain ⟨x4,r4,rfl,q4,h⟩:=h.inv_one rfl
  obtain ⟨x5,r5,rfl,q5,h⟩:=h.inv_one rfl
  obtain rfl:=h.inv_nil
  cases q1; cases q2; cases q3; cases q4; cases q5
  rfl
theorem mv_rep (g:Gh) (tk:List Nat) (w:World) (m:Mv):RepC g tk w (segs (Mv.av m)) (encM m) :=
  .one rfl (.int _ _) (.one rfl (.int _ _) (.one rfl (.int _ _) (.one rfl (.int _ _) (.one rfl (.bool _) .nil))))
theorem mvs_cells {g:Gh} {tk:List Nat} {w:World}:∀ {l:List Mv} {cs:List Value},RepE g tk w (l.map (enc .mv)) cs→cs=l.flatMap encM
  | [],_,h=>by cases h; rfl
  | m::l,_,h=>by
    cases h with
    | cons hs hx h hr=>rw [hx,mv_cells h,mvs_cells hr]; rfl
theorem mvs_rep (g:Gh) (tk:List Nat) (w:World):∀ l:List Mv,RepE g tk w (l.map (enc .mv)) (l.flatMap encM)
  | []=>.nil
  | m::l=>.cons rfl rfl (mv_rep g tk w m) (mvs_rep g tk w l)
theorem flat_len (l:List Mv):(l.flatMap encM).length=l.length * 5:=by
  induction l with
  | nil=>rfl
  | cons m l ih=>simp only [List.flatMap_cons,List.length_append,encM_len,ih,List.length_cons]; omega
theorem flat_get:∀ (l:List Mv) (j c:Nat),j < l.length→c < 5→(l.flatMap encM)[j * 5+c]?=(encM l[j]!)[c]?
  | [],_,_,h,_=>absurd h (Nat.not_lt_zero _)
  | m::l,0,c,_,hc=>by
    simp only [List.flatMap_cons]
    rw [List.getElem?_append_left (by rw [encM_len]; omega)]
    simp
  | m::l,j+1,c,h,hc=>by
    simp only [List.flatMap_cons]
    rw [List.getElem?_append_right (by rw [encM_len]; omega),encM_len,show (j+1) * 5+c - 5=j * 5+c by omega,flat_get l j c (by simpa using h) hc]
    simp
theorem encM_one (m:Mv):∀ u ∈ encM m,u.oneCell'=true:=by
  intro u hu
  simp only [encM,List.mem_cons,List.not_mem_nil,or_false] at hu
  rcases hu with rfl | rfl | rfl | rfl | rfl <;> rfl
theorem flat_one (l:List Mv):∀ u ∈ l.flatMap encM,u.oneCell'=true:=by
  intro u hu
  obtain ⟨m,_,h⟩:=List.mem_flatMap.1 hu
  exact encM_one m u h
theorem pos_rep {g g':Gh} {tk tk':List Nat} {w w':World} {p:Pos} {cs:List Value} (h:RepC g tk w (segs (Pos.av p)) cs):RepC g' tk' w' (segs (Pos.av p)) cs:=by
  change RepC g tk w [.int .u8 p.variant,.ints .u8 64 p.board,.u64 p.promoted,.ints .u8 12 p.pockets,.int .u8 p.turn,.ints .i8 4 p.rooks,.int .i8 p.passing,.ints .u8 2 p.checks,.int .i64 p.half,.int .i64 p.full] cs at h
  obtain ⟨x1,r1,rfl,q1,h1⟩:=h.inv_one rfl
  obtain ⟨l2,r2,rfl,h2⟩:=h1.inv_ints
  obtain ⟨x3,r3,rfl,q3,h3⟩:=h2.inv_one rfl
  obtain ⟨l4,r4,rfl,h4⟩:=h3.inv_ints
  obtain ⟨x5,r5,rfl,q5,h5⟩:=h4.inv_one rfl
  obtain ⟨l6,r6,rfl,h6⟩:=h5.inv_ints
  obtain ⟨x7,r7,rfl,q7,h7⟩:=h6.inv_one rfl
  obtain ⟨l8,r8,rfl,h8⟩:=h7.inv_ints
  obtain ⟨x9,r9,rfl,q9,h9⟩:=h8.inv_one rfl
  obtain ⟨x10,r10,rfl,q10,h10⟩:=h9.inv_one rfl
  obtain rfl:=h10.inv_nil
  cases q1; cases q3; cases q5; cases q7; cases q9; cases q10
  exact .one rfl (.int _ _) (.ints l2 rfl (.one rfl (.u64 _) (.ints l4 rfl (.one rfl (.int _ _) (.ints l6 rfl (.one rfl (.int _ _) (.ints l8 rfl (.one rfl (.int _ _) (.one rfl (.int _ _) .nil)))))))))
set_option maxHeartbeats 1000000 in
set_option maxRecDepth 100000 in
theorem idx0 (a:Option Addr) (c:Nat) (fv:Value) (w:World):Calls Tryz.prog 108 #[.slice a 0 c,fv] w fun e w'=>e=.returned (.int .i64 (-1))∧w'=w:=by
  go_enter Tryz.func108,Tryz.ntmps108
  go_wp2
  go_loopg [5,8] 0 (fun _ _ s8 wr=>s8=.int .i64 0∧wr=w)
  case atStart=>exact ⟨rfl,rfl⟩
  case round =>
    obtain ⟨rfl,rfl⟩:=hrel
    go_wp2
    go_ret
    exact ⟨rfl,rfl⟩
set_option maxHeartbeats 1000000 in
set_option maxRecDepth 100000 in
theorem del0 (a:Option Addr) (c:Nat) (fv:Value) (w:World):Calls Tryz.prog 54 #[.slice a 0 c,fv] w fun e w'=>e=.returned (.slice a 0 c)∧w'=w:=by
  have h:=idx0 a c fv w
  go_enter Tryz.func54,Tryz.ntmps54
  go_wp2_with fail
  refine h.mono ?_
  rintro e w' ⟨rfl,rfl⟩
  go_wp2_with fail
  go_ret
  exact ⟨rfl,rfl⟩
set_option maxHeartbeats 2000000 in
set_option maxRecDepth 100000 in
theorem clone0 (ad:Addr) (c:Nat) (w:World):Calls Tryz.prog 55 #[.slice (some ad) 0 c] w fun e w' => ∃ v',e=.returned v'∧w'.ownsRow w.heap.size 40 5 v' 0 []∧v'≠.slice none 0 0∧RowKit.Below w.heap.size w w':=by
  obtain ⟨i0,z,a1,a2,a3,a4,a5⟩:=info44
  have q22:∀ (w:World) (a:Option Addr) (n c n' c':Nat),(binOp .eql 53 (.slice a n c) (.slice none n' c')).run Tryz.prog w=.ok (.bool a.isNone) w:=fun w a n c n' c'=>Lib.run_eql_slice_nil w _ _ a n c n' c' Tryz.underlying53
  have u22:∀ w,Sem.run Tryz.prog (underlying 53) w=.ok (TypeDesc.slice 40) w:=run_underlying Tryz.underlying53
  go_enter Tryz.func55,Tryz.ntmps55
  go_wp2_with (at_builtin; refine wpList_append_own _ rfl _ _ 53 rfl w.heap.size 40 i0 z 5 i0.bytes Tryz.underlying53 a1 a2 a3 rfl a4 (by omega) _ _ _ rfl (World.ownsRow_made w #[] 0 (Nat.le_refl _) (Nat.zero_le _) (by simp)) ad 0 c [] rfl ?qc1 ?qc2 ?qc3 ?qc4 ?qc5 ?qc6 ?_)
  case qc1=>rfl
  case qc2=>intro j u hj; simp at hj
  case qc3=>intro u hu; simp at hu
  case qc4=>simp
  case qc5=>simp
  case qc6=>simp
  intro v' w1 hown hgrow hnil
  go_wp2
  go_ret
  refine ⟨v',rfl,by simpa using hown,?_,?_⟩
  · exact hnil
  · exact ((Below.refl _ w).alloc (Nat.le_refl _) _).grown hgrow (by simp) (by intro k hk; simp [Value.ownBlock] at hk; omega)
set_option maxHeartbeats 2000000 in
set_option maxRecDepth 100000 in
theorem keepM (p:Pos) (f2:Nat) (q:Mv→Bool) (l:List Mv) (hll:l.length≤lim) (hq:∀ m,PureSpec Tryz.prog 56 [Mv.av m,.ptrf (.func f2 [] [.ptrf (Pos.av p)])] (.bool (!q m))):PureSpec Tryz.prog 53 [.list .mv l .arg,.func f2 [] [.ptrf (Pos.av p)]] (.list .mv (l.filter q) .fresh):=by
  intro w vals hg hr
  obtain ⟨vals⟩:=vals
  cases hr with
  | cons q1 r1 =>
  cases r1 with
  | cons q2 r2 =>
  cases r2
  cases q2 with
  | func ha hb =>
  rename_i x y
  obtain ⟨x⟩:=x
  obtain ⟨y⟩:=y
  cases ha
  cases hb with
  | cons q3 r3 =>
  cases r3
  cases q3 with
  | ptrf hpc hpa =>
  rename_i pc po pcs
  cases q1 with
  | list hn hE hS hT hC =>
  rename_i a n cap cs
  subst hn
  have hcs:=mvs_cells hE
  obtain ⟨fv,hfv⟩:∃ fv:Value,fv=.func (.func f2) (Array.mk []) (Array.mk [.pointer (some ⟨pc,po,none⟩)]):=⟨_,rfl⟩
  rw [← hfv]
  have hpred:∀ (W:World) (u:Mv),w.heap.size+1≤W.heap.size→(∀ k,k < w.heap.size+1→W.heap[k]?=(w.alloc (.cells #[fv] 101)).heap[k]?) →
      Calls Tryz.prog 56 (#[.agg (encM u).toArray]++#[.pointer (some ⟨w.heap.size,0,none⟩)]) W fun e w'=>e=.returned (.bool (!q u))∧RowKit.Below W.heap.size W w':=by
    intro W u hsz hsame
    have old:∀ k,k < w.heap.size→W.heap[k]?=w.heap[k]? := fun k hk=>by
      rw [hsame k (by omega)]
      exact ((Below.refl _ w).alloc (Nat.le_refl _) _).block k hk
    refine (callsIn_wide.1 (hq u W (#[.agg (encM u).toArray]++#[.pointer (some ⟨w.heap.size,0,none⟩)]) ?_ ?_)).mono ?_
    · intro pr hpr j x hj
      obtain ⟨h1,h2⟩:=hg pr hpr j x hj
      have hlt:pr.1 < w.heap.size:=h2
      exact ⟨by rw [cell_same (old _ hlt)]; exact h1,Nat.lt_of_lt_of_le hlt (by omega)⟩
    · refine .cons (.agg (mv_rep _ _ _ u)) (.cons (.ptrf (cs:=[fv]) (.one rfl ?_ .nil) ?_) .nil)
      · rw [hfv]
        refine .func .nil (.cons (.ptrf (pos_rep hpc) ?_) .nil)
        intro j x hj
        obtain ⟨h1,h2⟩:=hpa j x hj
        have hlt:pc < w.heap.size:=h2
        exact ⟨by rw [cell_same (old _ hlt)]; exact h1,Nat.lt_of_lt_of_le hlt (by omega)⟩
      · intro j x hj
        have hc:W.heap[w.heap.size]?=some (.cells #[fv] 101 (0,0)):=by
          rw [hsame _ (Nat.lt_succ_self _)]; exact heap_alloc_new w _
        refine ⟨?_,show w.heap.size < W.heap.size by omega⟩
        rw [cell_of_blk hc,Nat.zero_add]
        simpa using hj
    · rintro e w' ⟨v,rfl,hb,hv⟩
      cases hv
      exact ⟨rfl,hb⟩
  subst hfv
  clear hpc hpa
  refine callsIn_wide.2 ?_
  cases a with
  | none =>
    obtain rfl:l=[]:=by
      rcases hS with h | ⟨_,_,h,_⟩
      · have:=flat_len l
        rw [← hcs,h] at this
        exact List.eq_nil_of_length_eq_zero (by simp at this; omega)
      · cases h
    have hc:=fun w=>AnyE.slices_Clone_nil Tryz.cloneM 0 cap w
    have hd:=del0 none 0 (.func (.func 56) #[] #[.pointer (some ⟨w.heap.size,0,none⟩)])
    clear hpred hS hcs hE hT
    go_enter Tryz.func53,Tryz.ntmps53
    go_wp2_with fail
    refine (hc _).mono ?_
    rintro e w' ⟨rfl,rfl⟩
    go_wp2_with fail
    refine (hd _).mono ?_
    rintro e w' ⟨rfl,rfl⟩
    go_wp2_with fail
    go_ret
    exact ⟨_,rfl,(Below.refl _ w).alloc (Nat.le_refl _) _,.list (cs:=[]) rfl .nil (.inl rfl) (fun k e=>by cases e) (Nat.le_refl _)⟩
  | some ad =>
    have hclone:Calls Tryz.prog 55 #[.slice (some ad) l.length cap] (w.alloc (.cells #[(.func (.func f2) (Array.mk []) (Array.mk [.pointer (some ⟨pc,po,none⟩)]))] 101)) fun e w' => ∃ v',e=.returned v'∧w'.ownsRow (w.alloc (.cells #[(.func (.func f2) (Array.mk []) (Array.mk [.pointer (some ⟨pc,po,none⟩)]))] 101)).heap.size 40 5 v' l.length (l.flatMap encM)∧v'≠.slice none 0 0∧RowKit.Below (w.alloc (.cells #[(.func (.func f2) (Array.mk []) (Array.mk [.pointer (some ⟨pc,po,none⟩)]))] 101)).heap.size (w.alloc (.cells #[(.func (.func f2) (Array.mk []) (Array.mk [.pointer (some ⟨pc,po,none⟩)]))] 101)) w':=by
      by_cases hl:l=[]
      · subst hl
        exact clone0 ad cap _
      · obtain ⟨c,o,hadr,hat,_⟩:=hS.resolve_left (fun e0=>hl (by
          have:=flat_len l
          rw [← hcs,e0] at this
          exact List.eq_nil_of_length_eq_zero (by simp at this; omega)))
        simp only [Option.some.injEq] at hadr
        subst hadr
        obtain ⟨i0,z,a1,a2,a3,a4,a5⟩:=info44
        refine AnyE.slices_Clone Tryz.cloneM i0 z 5 i0.bytes a1 a2 a3 rfl a4 (by omega) Tryz.sizeOf40 c o l.length cap (l.flatMap encM) _ (flat_len l) ?_ ?_ ?_ (flat_one l)
        · unfold lim at hll; unfold maxLen; omega
        · have:l.length * i0.bytes≤l.length * 131072:=Nat.mul_le_mul_left _ a5
          unfold lim at hll
          omega
        · intro j u hj
          rw [← hcs] at hj
          obtain ⟨h1,h2⟩:=hat j u hj
          have hlt:c < w.heap.size:=h2
          rw [cell_same (((Below.refl _ w).alloc (Nat.le_refl _) _).block c hlt)]
          exact h1
    clear hS hcs hE hT
    have HP:=Lib.hid hpred
    clear hpred
    go_enter Tryz.func53,Tryz.ntmps53
    go_wp2_with fail
    refine hclone.mono ?_
    rintro e w2 ⟨v',rfl,hown,hne,hb⟩
    obtain ⟨hlen,⟨rfl,_⟩ | ⟨gb,cap',cur,rfl,hgb,hcur,hn',hmax,hsz,htake⟩⟩:=hown
    · exact absurd rfl hne
    have hrow:RowW w2 gb cap' 40 l.toArray w2:=⟨rfl,rfl,rfl,Nat.le_refl _,fun _ _ _=>rfl,cur,hcur,hsz,fun j c hj hc=>by
      have hj':j < l.length:=by simpa using hj
      have h1:j * 5+c < l.length * 5:=by have:=Nat.mul_le_mul_right 5 (show j+1≤l.length from hj'); omega
      rw [← Array.getElem?_toList,← List.getElem?_take_of_lt h1,htake,flat_get l j c hj' hc]
      congr 2
      rw [getElem!_pos l j hj',getElem!_pos l.toArray j hj]
      simp⟩
    have hdel:=delM (fun u => !q u) 56 #[.pointer (some ⟨w.heap.size,0,none⟩)] (fun _ _=>rfl) gb cap' l.toArray w2 (lt_of_some hcur) hrow (by simpa using hn') hmax (fun W dk u hW=>by
      have hs1:(w.alloc (.cells #[(.func (.func f2) (Array.mk []) (Array.mk [.pointer (some ⟨pc,po,none⟩)]))] 101)).heap.size=w.heap.size+1:=by simp
      refine HP.out W u (by have:=hb.size; have:=hW.size; omega) (fun k hk => ?_)
      rw [hW.other k (by have:=hb.size; omega) (by omega),hb.block k (by omega)])
    simp only [List.size_toArray,Bool.not_not] at hdel
    have HD:=Lib.hid hdel
    have HBW:=Lib.hid hb
    have HG:=Lib.hid hgb
    have HN:=Lib.hid hn'
    clear hdel HP hrow hb hgb hn' hcur hsz htake hlen hne hmax hclone
    go_wp2_with fail
    refine HD.out.mono ?_
    rintro e w3 ⟨rfl,hR⟩
    have HR:=Lib.hid hR
    clear hR
    go_wp2_with fail
    go_ret
    have hR:=HR.out
    have hb:=HBW.out
    have hgb:=HG.out
    have hs1:(w.alloc (.cells #[(.func (.func f2) (Array.mk []) (Array.mk [.pointer (some ⟨pc,po,none⟩)]))] 101)).heap.size=w.heap.size+1:=by simp
    have hw1:RowKit.Below w.heap.size w (w.alloc (.cells #[(.func (.func f2) (Array.mk []) (Array.mk [.pointer (some ⟨pc,po,none⟩)]))] 101)):=(Below.refl _ w).alloc (Nat.le_refl _) _
    have hbw:RowKit.Below w.heap.size w w3:=⟨hR.os.trans (hb.os.trans hw1.os),hR.tape.trans (hb.tape.trans hw1.tape),hR.output.trans (hb.output.trans hw1.output),by have:=hR.size; have:=hb.size; omega,fun k hk=>by
      rw [hR.other k (by have:=hb.size; omega) (by omega),hb.block k (by omega)]
      exact hw1.block k hk⟩
    refine ⟨_,rfl,hbw,?_⟩
    obtain ⟨cur,k1,k2,k3⟩:=hR.row
    have hfl:(l.filter q).length≤l.length:=List.length_filter_le _ _
    refine .list (cs:=(l.filter q).flatMap encM) (by simp) (mvs_rep _ _ _ _) (.inr ⟨gb,0,rfl,fun j x hj => ?_,fun _=>by show w.heap.size≤gb; omega⟩) (fun k e=>by cases e) (Nat.le_trans hfl HN.out)
    have hjl:j < (l.filter q).length * 5:=by rw [← flat_len]; exact (List.getElem?_eq_some_iff.1 hj).1
    have hdm:j=j / 5 * 5+j % 5:=by omega
    have hq5:j / 5 < (l.filter q).length:=by omega
    refine ⟨?_,show w.heap.size≤gb∧gb < w3.heap.size from ⟨by omega,lt_of_some k1⟩⟩
    rw [cell_of_blk k1,Nat.zero_add,hdm,k3 (j / 5) (j % 5) (by simpa using hq5) (Nat.mod_lt _ (by omega)),← hj]
    conv=>rhs; rw [hdm]
    rw [flat_get (l.filter q) (j / 5) (j % 5) hq5 (Nat.mod_lt _ (by omega))]
    congr 2
    rw [getElem!_pos (l.filter q) (j / 5) hq5,getElem!_pos (l.filter q).toArray (j / 5) (by simpa using hq5)]
    simp
end Go.Proofs
end
section
namespace Kz
open Go Go.RowKit Go.Proofs
def posAt (h:Hp) (b:Nat):Pos:=match h.heap.getD b [] with
  | [.int _ v,.ints _ _ bd,.u64 pr,.ints _ _ pk,.int _ tn,.ints _ _ rk,.int _ ps,.ints _ _ ck,.int _ hf,.int _ fl]=>⟨v,bd,pr,pk,tn,rk,ps,ck,hf,fl⟩
  | _=>default
def clo (vs:List AV):Option (Nat×Nat):=match vs with
  | [_,.func f [] [.ptr b 0]]=>some (f,b)
  | _=>none
theorem fs_keep {P:Program} {f:Nat} {l l':List Mv} {tk:Tk} {f2 b:Nat} {p:Pos} {h:Hp} (hb:h.heap[b]?=some (segs (Pos.av p))) (hs:PureSpec P f [.list .mv l .arg,.func f2 [] [.ptrf (Pos.av p)]] (.list .mv l' .fresh)) :
    FSpec P f [.list .mv l tk,.func f2 [] [.ptr b 0]] h (.ret (.list .mv l' .fresh) h):=by
  intro g w vals m hr
  have hr':RepL (gArg w) [] w [.list .mv l .arg,.func f2 [] [.ptrf (Pos.av p)]] vals.toList:=by
    obtain ⟨vals⟩:=vals
    cases hr with
    | cons q1 r1 =>
    cases r1 with
    | cons q2 r2 =>
    cases r2
    cases q1 with
    | list hn hE hS hT hC =>
    rename_i a n cap cs
    cases q2 with
    | func ha hb2 =>
    rename_i x y
    obtain ⟨x⟩:=x
    obtain ⟨y⟩:=y
    cases ha
    cases hb2 with
    | cons q3 r3 =>
    cases r3
    cases q3 with
    | ptr hv =>
    rename_i c
    obtain ⟨_,_,cells,ty,hc,hcells⟩:=m.var b c _ hv hb
    refine .cons (.list (cs:=cs) hn (by rw [mvs_cells hE]; exact mvs_rep _ _ _ _) (hS.imp id fun ⟨c',o',e1,e2,_⟩=>⟨c',o',e1,fun j x hj=>⟨(e2 j x hj).1,m.fzlt _ _ (e2 j x hj).2⟩,fun f=>absurd rfl f⟩) (fun k e=>by cases e) hC)
      (.cons (.func .nil (.cons (.ptrf (cs:=cells.toList) (pos_rep hcells) fun j x hj=>⟨by rw [cell_of_blk hc,Nat.zero_add]; simpa using hj,lt_of_some hc⟩) .nil)) .nil)
  refine (hs w vals m.globOk hr').mono ?_
  rintro e w' ⟨x,rfl,hbl,hx⟩
  obtain ⟨m1,l1⟩:=m.growFz hbl
  exact ⟨_,x,rfl,⟨m1,l1,Fl.refl _⟩,res_in m hx⟩
end Kz
end
section
namespace Kz
open Go Go.RowKit Go.Proofs
set_option maxRecDepth 100000
set_option maxHeartbeats 4000000
noncomputable def B56:Base:=baseOf Pz (fun _ _=>[]) [(60,G60),(58,G58)] [] []
theorem hB56:BOk B56:=base_ok named_z ⟨s60,s58,trivial⟩ trivial trivial
theorem E56a (p:Pos) (m:Mv):evPure B56 14 56 [Mv.av m,.ptrf (.func 57 [] [.ptrf (Pos.av p)])]=Tr.br (ok58 p m) (Tr.ret (AV.bool (!N58 p m))) Tr.fail:=by kernel_rfl
theorem E56b (p:Pos) (m:Mv):evPure B56 14 56 [Mv.av m,.ptrf (.func 59 [] [.ptrf (Pos.av p)])]=Tr.br (ok60 p m) (Tr.ret (AV.bool (!N60 p m))) Tr.fail:=by kernel_rfl
theorem P56a (p:Pos) (m:Mv) (h:ok58 p m=true):PureSpec Pz 56 [Mv.av m,.ptrf (.func 57 [] [.ptrf (Pos.av p)])] (.bool (!N58 p m)) :=
  (ps_gotR (d:=dB) hB56 (E56a p m) (gr_guard (gr_ret rfl)) (by rw [h]; rfl)).1
theorem P56b (p:Pos) (m:Mv) (h:ok60 p m=true):PureSpec Pz 56 [Mv.av m,.ptrf (.func 59 [] [.ptrf (Pos.av p)])] (.bool (!N60 p m)) :=
  (ps_gotR (d:=dB) hB56 (E56b p m) (gr_guard (gr_ret rfl)) (by rw [h]; rfl)).1
open Classical in
noncomputable def all58 (p:Pos):Bool:=shut (decide (∀ m,ok58 p m=true))
theorem all58_iff {p:Pos}:all58 p=true ↔ ∀ m,ok58 p m=true:=by
  unfold all58
  rw [shut_eq]
  simp
open Classical in
noncomputable def all60 (p:Pos):Bool:=shut (decide (∀ m,ok60 p m=true))
theorem all60_iff {p:Pos}:all60 p=true ↔ ∀ m,ok60 p m=true:=by
  unfold all60
  rw [shut_eq]
  simp
noncomputable def kept (f:Nat) (p:Pos) (l:List Mv):List Mv:=l.filter (bif f.beq 57 then N58 p else N60 p)
noncomputable def okKept (f:Nat) (p:Pos) (l:List Mv):Bool:=decide (l.length≤lim)&&bif f.beq 57 then all58 p else f.beq 59&&all60 p
noncomputable def FF53:List AV→Hp→Tr FRes:=fun xs h=>match xs with
  | [.list .mv l _,.func f [] [.ptr b 0]]=>match h.heap[b]? with
    | some [.int .u8 v,.ints .u8 64 bd,.u64 pr,.ints .u8 12 pk,.int .u8 tn,.ints .i8 4 rk,.int .i8 ps,.ints .u8 2 ck,.int .i64 hf,.int .i64 fl] =>
      .guard (okKept f ⟨v,bd,pr,pk,tn,rk,ps,ck,hf,fl⟩ l) (.ret (.ret (.list .mv (kept f ⟨v,bd,pr,pk,tn,rk,ps,ck,hf,fl⟩ l) .fresh) h))
    | _=>.fail
  | _=>.fail
theorem body53:∃ fn,Pz.funcs[53]?=some fn∧fn.body.isSome=true:=by
  have h:(match Pz.funcs[53]? with
    | some fn=>fn.body.isSome
    | none=>false)=true:=by kernel_rfl
  split at h
  · rename_i fn hf
    exact ⟨fn,hf,h⟩
  · cases h
theorem sFF53:FSound Pz 53 FF53:=by
  intro xs h res he
  unfold FF53 at he
  split at he
  · rename_i l tk f b
    split at he
    · rename_i v bd pr pk tn rk ps ck hf fl hb
      simp only [get_guard,get_ret,Option.some.injEq] at he
      obtain ⟨h1,rfl⟩:=he
      refine ⟨?_,body53⟩
      unfold okKept at h1
      simp only [Bool.and_eq_true,decide_eq_true_eq] at h1
      obtain ⟨hl,h1⟩:=h1
      unfold kept
      cases hf3:f.beq 57 with
      | true =>
        rw [hf3] at h1
        obtain rfl:=Nat.eq_of_beq_eq_true hf3
        exact fs_keep (p:=⟨v,bd,pr,pk,tn,rk,ps,ck,hf,fl⟩) hb (keepM _ _ _ l hl fun m=>P56a _ m (all58_iff.1 h1 m))
      | false =>
        rw [hf3] at h1
        simp only [cond_false,Bool.and_eq_true] at h1
        obtain rfl:=Nat.eq_of_beq_eq_true h1.1
        exact fs_keep (p:=⟨v,bd,pr,pk,tn,rk,ps,ck,hf,fl⟩) hb (keepM _ _ _ l hl fun m=>P56b _ m (all60_iff.1 h1.2 m))
    · simp at he
  · simp at he
noncomputable def K26:List (Nat×Nat×List (Nat×List Nat)):=[(26,37,[(0,(1::(rn 12 5 [28,29,30]))),(1,[1,17,28,29,30]),(2,[2]),(3,[1,3,28,29,30]),(4,[1,3,4,28,29,30]),(5,[1,3,4,5,28,29,30]),(6,[3,4,5,31]),(7,[4]),(8,[2])]),(53,9,[(0,[0,3]),(1,[4])]),(57,7,[(0,[1,2]),(1,[3])]),(59,7,[(0,[1,2]),(1,[3])]),(61,9,[(0,[0,1]),(1,[4])]),(108,19,[(0,[0,1]),(1,[0,1,7,8]),(2,[0,1,7,8,9]),(3,[0,1,5,7,8]),(4,[0,1,5,7,8,16]),(5,[4]),(6,[0,1,7,8]),(7,[4])])]
noncomputable def B26_1:Base:=baseOf Pz (fun f i=>lkC f i K26) [(51,G51),(28,G28),(60,G60),(58,G58),(52,G52)] [] [(53,FF53)]
theorem hB26_1:BOk B26_1:=base_ok named_z ⟨s51,s28,s60,s58,s52,trivial⟩ trivial ⟨sFF53,trivial⟩
noncomputable def S26_1 (p1:(List Mv)) (p2:Int) (p3:Pos) (x:(Int)):St:=St.mk (AV.list ET.mv p1 Tk.fresh::AV.func 59 [] [AV.ptr 0 0]::(an 5 (AV.int .i64 p2::AV.int .i64 x::(an 10 [])))) (Hp.mk [(pc p3 [])] [0] [] 0 0 0)
noncomputable def O26_1 (p1:(List Mv)) (p2:Int) (p3:Pos):(Int) ⊕ (Int×Bool)→Out
  | (.inl (y))=>.ret (St.mk (an 4 (AV.int .i64 y::(an 14 []))) (Hp.mk [(pc p3 [])] [0] [] 0 0 0))
  | (.inr (y))=>.exit 0 (St.mk (AV.list ET.mv p1 Tk.fresh::AV.func 59 [] [AV.ptr 0 0]::(an 5 (AV.int .i64 p2::AV.int .i64 y.fst::AV.bool y.snd::(an 9 [])))) (Hp.mk [(pc p3 [])] [0] [] 0 0 0))
noncomputable def st26_1 (p1:(List Mv)) (p2:Int) (p3:Pos) (x:(Int)):Stp (Int) ((Int) ⊕ (Int×Bool)):=(bif decide (x < p2) then (bif N60 p3 (p1.getD x.toNat default) then (Stp.out (.inl ((x)))) else (Stp.go (wr .i64 (x+1)))) else (Stp.out (.inr ((x,decide (x < p2))))))
noncomputable def okL26_1 (p1:(List Mv)) (p2:Int) (p3:Pos) (x:(Int)):Bool:=(bif decide (x < p2) then (decide (0≤x)&&decide (x < Int.ofNat p1.length)&&(ok60 (p3) (p1.getD x.toNat default)&&true)) else true)
noncomputable def lp26_1 (p1:(List Mv)) (p2:Int) (p3:Pos) (x:(Int)):Option ((Int) ⊕ (Int×Bool)):=itl (fun x=>bif okL26_1 p1 p2 p3 x then st26_1 p1 p2 p3 x else .bad) many x
abbrev D26_1 {α:Type} (k:(List Mv)→Int→Pos→(Int)→α) (s:St):α:=wP s 0 fun q0=>k (tL (ET.mv) (tT s 0)) (tI (tT s 7)) q0 ((tI (tT s 8)))
theorem L26_1 (p1:(List Mv)) (p2:Int) (p3:Pos) (x:(Int)) (r:(Int) ⊕ (Int×Bool)) (h:lp26_1 p1 p2 p3 x=some r):LSpec Pz (bodL Pz 108 2) (S26_1 p1 p2 p3 x) (O26_1 p1 p2 p3 r):=LSpec.smd (m:=12) (fn:=108) hB26_1 (D26_1 fun _ _ _ x=>some x) (fun o=>match o with | .ret s=>some (.inl (tI (tT s 4))) | .exit 0 s=>some (.inr ((tI (tT s 8)),(tB (tT s 9)))) | _=>none) (fun r=>by cases r <;> rfl) (fun _=>by kernel_rfl) (fun _=>by kernel_rfl) (fun _=>by kernel_rfl) (fun _=>by kernel_rfl) many x r h
noncomputable def F26_1 (b:Code) (s:St):Tr Out:=D26_1 (fun p1 p2 p3 x=>lk2 b (bodL Pz 108 2) s (S26_1 p1 p2 p3 x) (lp26_1 p1 p2 p3 x) (O26_1 p1 p2 p3)) s
theorem sF26_1:∀ b,LSound Pz b (F26_1 b):=fun _ _ _ h=>lk2_ok (L26_1 _ _ _ _) h
noncomputable def B26:Base:=baseOf Pz (fun f i=>lkC f i K26) [(51,G51),(28,G28),(60,G60),(58,G58),(52,G52)] [(108,2,F26_1)] [(53,FF53)]
theorem hB26:BOk B26:=base_ok named_z ⟨s51,s28,s60,s58,s52,trivial⟩ ⟨sF26_1,trivial⟩ ⟨sFF53,trivial⟩
noncomputable def N26 (a:Pos):List Mv:=(bif N51 a.variant a.turn then (bif !N52 a a.turn then ([]) else (bif a.variant==4 then (bif isL ((lp26_1 (kept 57 a (N28 a)) (Int.ofNat (kept 57 a (N28 a)).length) a 0).getD default) then (bif decide (gl ((lp26_1 (kept 57 a (N28 a)) (Int.ofNat (kept 57 a (N28 a)).length) a 0).getD default) ≥ 0) then (kept 59 a (kept 57 a (N28 a))) else (kept 57 a (N28 a))) else (kept 57 a (N28 a))) else (kept 57 a (N28 a)))) else (bif a.variant==4 then (bif isL ((lp26_1 (kept 57 a (N28 a)) (Int.ofNat (kept 57 a (N28 a)).length) a 0).getD default) then (bif decide (gl ((lp26_1 (kept 57 a (N28 a)) (Int.ofNat (kept 57 a (N28 a)).length) a 0).getD default) ≥ 0) then (kept 59 a (kept 57 a (N28 a))) else (kept 57 a (N28 a))) else (kept 57 a (N28 a))) else (kept 57 a (N28 a))))
noncomputable def ok26 (a:Pos):Bool:=(ok51 (a.variant) (a.turn)&&(bif N51 a.variant a.turn then (ok52 (a) (a.turn)&&(bif !N52 a a.turn then true else (ok28 (a)&&(okKept 57 a (N28 a)&&(bif a.variant==4 then ((lp26_1 (kept 57 a (N28 a)) (Int.ofNat (kept 57 a (N28 a)).length) a 0).isSome&&bif isL ((lp26_1 (kept 57 a (N28 a)) (Int.ofNat (kept 57 a (N28 a)).length) a 0).getD default) then (bif decide (gl ((lp26_1 (kept 57 a (N28 a)) (Int.ofNat (kept 57 a (N28 a)).length) a 0).getD default) ≥ 0) then (okKept 59 a (kept 57 a (N28 a))&&true) else true) else true) else true))))) else (ok28 (a)&&(okKept 57 a (N28 a)&&(bif a.variant==4 then ((lp26_1 (kept 57 a (N28 a)) (Int.ofNat (kept 57 a (N28 a)).length) a 0).isSome&&bif isL ((lp26_1 (kept 57 a (N28 a)) (Int.ofNat (kept 57 a (N28 a)).length) a 0).getD default) then (bif decide (gl ((lp26_1 (kept 57 a (N28 a)) (Int.ofNat (kept 57 a (N28 a)).length) a 0).getD default) ≥ 0) then (okKept 59 a (kept 57 a (N28 a))&&true) else true) else true) else true)))))
theorem P26 (a:Pos) (h:ok26 a=true):PS Pz 26 [Pos.av a] ((dL .mv).res (N26 a)):=ps_sum (n:=14) hB26 (by kernel_rfl) (by kernel_rfl) (by kernel_rfl) h
noncomputable def G26:List AV→Tr AV:=g1 dPos (fun a=>gdv (ok26 a) ((dL .mv).res (N26 a)))
theorem s26:Sound Pz 26 G26:=sound1 fun a=>at_gd (P26 a)
noncomputable def K106:List (Nat×Nat×List (Nat×List Nat)):=[(61,9,[(0,[0,1]),(1,[4])]),(106,40,[(0,[1,2,16]),(1,[1,2,3,16]),(2,[1,2,4,5,16]),(3,[1,2,4,5,13]),(4,[2]),(5,[1,2,4,19]),(6,[2]),(7,[1,2,22]),(8,[2]),(9,[1,2,26]),(10,[2]),(11,[1,2,6]),(12,[1,2,7]),(13,[2,37]),(14,[2]),(15,[2])]),(108,19,[(0,[0,1]),(1,[0,1,7,8]),(2,[0,1,7,8,9]),(3,[0,1,5,7,8]),(4,[0,1,5,7,8,16]),(5,[4]),(6,[0,1,7,8]),(7,[4])]),(144,8,[(0,[0,1]),(1,[3])]),(145,14,[(0,[1,2,10,11,12]),(1,[3])])]
noncomputable def B106_1:Base:=baseOf Pz (fun f i=>lkC f i K106) [(26,G26),(78,G78),(140,G140)] [] []
theorem hB106_1:BOk B106_1:=base_ok named_z ⟨s26,s78,s140,trivial⟩ trivial trivial
noncomputable def S106_1 (p1:(List Mv)) (p2:Int) (p3:Pos) (p4:Int) (x:(Int)):St:=St.mk (AV.list ET.mv p1 Tk.fresh::AV.func 145 [] [AV.ptr 2 0]::(an 5 (AV.int .i64 p2::AV.int .i64 x::(an 10 [])))) (Hp.mk [(pc p3 []),[AV.int .u8 0,AV.int .u8 0],[AV.int .i64 p4]] [] [] 0 0 0)
noncomputable def O106_1 (p1:(List Mv)) (p2:Int) (p3:Pos) (p4:Int):(Int) ⊕ (Int×Bool)→Out
  | (.inl (y))=>.ret (St.mk (an 4 (AV.int .i64 y::(an 14 []))) (Hp.mk [(pc p3 []),[AV.int .u8 0,AV.int .u8 0],[AV.int .i64 p4]] [] [] 0 0 0))
  | (.inr (y))=>.exit 0 (St.mk (AV.list ET.mv p1 Tk.fresh::AV.func 145 [] [AV.ptr 2 0]::(an 5 (AV.int .i64 p2::AV.int .i64 y.fst::AV.bool y.snd::(an 9 [])))) (Hp.mk [(pc p3 []),[AV.int .u8 0,AV.int .u8 0],[AV.int .i64 p4]] [] [] 0 0 0))
noncomputable def st106_1 (p1:(List Mv)) (p2:Int) (p3:Pos) (p4:Int) (x:(Int)):Stp (Int) ((Int) ⊕ (Int×Bool)):=(bif decide (x < p2) then (bif wr .i64 (p1.getD x.toNat default).frm==p4 then (bif decide ((p1.getD x.toNat default).to ≥ 56) then (Stp.out (.inl ((x)))) else (Stp.go (wr .i64 (x+1)))) else (Stp.go (wr .i64 (x+1)))) else (Stp.out (.inr ((x,decide (x < p2))))))
noncomputable def okL106_1 (p1:(List Mv)) (p2:Int) (p3:Pos) (p4:Int) (x:(Int)):Bool:=(bif decide (x < p2) then (decide (0≤x)&&decide (x < Int.ofNat p1.length)&&true) else true)
noncomputable def lp106_1 (p1:(List Mv)) (p2:Int) (p3:Pos) (p4:Int) (x:(Int)):Option ((Int) ⊕ (Int×Bool)):=itl (fun x=>bif okL106_1 p1 p2 p3 p4 x then st106_1 p1 p2 p3 p4 x else .bad) many x
abbrev D106_1 {α:Type} (k:(List Mv)→Int→Pos→Int→(Int)→α) (s:St):α:=wP s 0 fun q0=>k (tL (ET.mv) (tT s 0)) (tI (tT s 7)) q0 (tI (tH s 2 0)) ((tI (tT s 8)))
theorem L106_1 (p1:(List Mv)) (p2:Int) (p3:Pos) (p4:Int) (x:(Int)) (r:(Int) ⊕ (Int×Bool)) (h:lp106_1 p1 p2 p3 p4 x=some r):LSpec Pz (bodL Pz 108 2) (S106_1 p1 p2 p3 p4 x) (O106_1 p1 p2 p3 p4 r):=LSpec.smd (m:=12) (fn:=108) hB106_1 (D106_1 fun _ _ _ _ x=>some x) (fun o=>match o with | .ret s=>some (.inl (tI (tT s 4))) | .exit 0 s=>some (.inr ((tI (tT s 8)),(tB (tT s 9)))) | _=>none) (fun r=>by cases r <;> rfl) (fun _=>by kernel_rfl) (fun _=>by kernel_rfl) (fun _=>by kernel_rfl) (fun _=>by kernel_rfl) many x r h
noncomputable def F106_1 (b:Code) (s:St):Tr Out:=D106_1 (fun p1 p2 p3 p4 x=>lk2 b (bodL Pz 108 2) s (S106_1 p1 p2 p3 p4 x) (lp106_1 p1 p2 p3 p4 x) (O106_1 p1 p2 p3 p4)) s
theorem sF106_1:∀ b,LSound Pz b (F106_1 b):=fun _ _ _ h=>lk2_ok (L106_1 _ _ _ _ _) h
noncomputable def B106:Base:=baseOf Pz (fun f i=>lkC f i K106) [(26,G26),(78,G78),(140,G140)] [(108,2,F106_1)] []
theorem hB106:BOk B106:=base_ok named_z ⟨s26,s78,s140,trivial⟩ ⟨sF106_1,trivial⟩ trivial
noncomputable def N106 (a:Pos):(Int×Int):=(bif decide (N78 a 0 6 ≥ 56) then (bif decide (N78 a 1 6 ≥ 56) then ⟨(3),(6)⟩ else (bif decide (N78 a 1 6 ≥ 56) then ⟨((N140 1 6).fst),((N140 1 6).snd)⟩ else (bif !decide (N78 a 0 6 ≥ 56) then ⟨(0),(0)⟩ else (bif a.turn==0 then ⟨((N140 0 6).fst),((N140 0 6).snd)⟩ else (bif isL ((lp106_1 (N26 a) (Int.ofNat (N26 a).length) a (N78 a 1 6) 0).getD default) then (bif decide (gl ((lp106_1 (N26 a) (Int.ofNat (N26 a).length) a (N78 a 1 6) 0).getD default) ≥ 0) then ⟨(0),(0)⟩ else ⟨((N140 0 6).fst),((N140 0 6).snd)⟩) else ⟨((N140 0 6).fst),((N140 0 6).snd)⟩))))) else (bif decide (N78 a 1 6 ≥ 56) then ⟨((N140 1 6).fst),((N140 1 6).snd)⟩ else (bif !decide (N78 a 0 6 ≥ 56) then ⟨(0),(0)⟩ else (bif a.turn==0 then ⟨((N140 0 6).fst),((N140 0 6).snd)⟩ else (bif isL ((lp106_1 (N26 a) (Int.ofNat (N26 a).length) a (N78 a 1 6) 0).getD default) then (bif decide (gl ((lp106_1 (N26 a) (Int.ofNat (N26 a).length) a (N78 a 1 6) 0).getD default) ≥ 0) then ⟨(0),(0)⟩ else ⟨((N140 0 6).fst),((N140 0 6).snd)⟩) else ⟨((N140 0 6).fst),((N140 0 6).snd)⟩)))))
noncomputable def ok106 (a:Pos):Bool:=(ok78 (a) (0) (6)&&(ok78 (a) (1) (6)&&(bif decide (N78 a 0 6 ≥ 56) then (bif decide (N78 a 1 6 ≥ 56) then true else (bif decide (N78 a 1 6 ≥ 56) then true else (bif !decide (N78 a 0 6 ≥ 56) then true else (bif a.turn==0 then true else (ok78 (a) (1) (6)&&(ok26 (a)&&((lp106_1 (N26 a) (Int.ofNat (N26 a).length) a (N78 a 1 6) 0).isSome&&bif isL ((lp106_1 (N26 a) (Int.ofNat (N26 a).length) a (N78 a 1 6) 0).getD default) then true else true))))))) else (bif decide (N78 a 1 6 ≥ 56) then true else (bif !decide (N78 a 0 6 ≥ 56) then true else (bif a.turn==0 then true else (ok78 (a) (1) (6)&&(ok26 (a)&&((lp106_1 (N26 a) (Int.ofNat (N26 a).length) a (N78 a 1 6) 0).isSome&&bif isL ((lp106_1 (N26 a) (Int.ofNat (N26 a).length) a (N78 a 1 6) 0).getD default) then true else true)))))))))
theorem P106 (a:Pos) (h:ok106 a=true):PS Pz 106 [Pos.av a] ((dR .u8 .u8).res (N106 a)):=ps_sum (n:=14) hB106 (by kernel_rfl) (by kernel_rfl) (by kernel_rfl) h
noncomputable def G106:List AV→Tr AV:=g1 dPos (fun a=>gdv (ok106 a) ((dR .u8 .u8).res (N106 a)))
theorem s106:Sound Pz 106 G106:=sound1 fun a=>at_gd (P106 a)
noncomputable def K25:List (Nat×Nat×List (Nat×List Nat)):=[(25,25,[(0,[1,2,8,9,10]),(1,[1,2,11]),(2,[2]),(3,[1,2,3]),(4,[1,2,3,19]),(5,[2]),(6,[2])])]
noncomputable def B25:Base:=baseOf Pz (fun f i=>lkC f i K25) [(50,G50),(101,G101),(102,G102),(103,G103),(104,G104),(105,G105),(106,G106)] [] []
theorem hB25:BOk B25:=base_ok named_z ⟨s50,s101,s102,s103,s104,s105,s106,trivial⟩ trivial trivial
noncomputable def N25 (a:Pos):(Int×Int):=(bif decide (a.variant ≥ 9) then ⟨(0),(0)⟩ else (bif decide (a.turn > 1) then ⟨(0),(0)⟩ else (bif a.variant==Int.ofNat 0 then ⟨(0),(0)⟩ else (bif a.variant==Int.ofNat 1 then ⟨(0),(0)⟩ else (bif a.variant==Int.ofNat 2 then ⟨(0),(0)⟩ else (bif a.variant==Int.ofNat 3 then ⟨((N101 a).fst),((N101 a).snd)⟩ else (bif a.variant==Int.ofNat 4 then ⟨((N105 a).fst),((N105 a).snd)⟩ else (bif a.variant==Int.ofNat 5 then ⟨((N102 a).fst),((N102 a).snd)⟩ else (bif a.variant==Int.ofNat 6 then ⟨((N103 a).fst),((N103 a).snd)⟩ else (bif a.variant==Int.ofNat 7 then ⟨((N104 a).fst),((N104 a).snd)⟩ else ⟨((N106 a).fst),((N106 a).snd)⟩))))))))))
noncomputable def ok25 (a:Pos):Bool:=(bif decide (a.variant ≥ 9) then true else (bif decide (a.turn > 1) then true else (decide (0≤a.variant)&&decide (a.variant < Int.ofNat 9)&&(bif a.variant==Int.ofNat 0 then true else (bif a.variant==Int.ofNat 1 then true else (bif a.variant==Int.ofNat 2 then true else (bif a.variant==Int.ofNat 3 then (ok101 (a)&&true) else (bif a.variant==Int.ofNat 4 then (ok105 (a)&&true) else (bif a.variant==Int.ofNat 5 then (ok102 (a)&&true) else (bif a.variant==Int.ofNat 6 then (ok103 (a)&&true) else (bif a.variant==Int.ofNat 7 then (ok104 (a)&&true) else (a.variant==Int.ofNat 8&&(ok106 (a)&&true)))))))))))))
theorem P25 (a:Pos) (h:ok25 a=true):PS Pz 25 [Pos.av a] ((dR .u8 .u8).res (N25 a)):=ps_sum (n:=14) hB25 (by kernel_rfl) (by kernel_rfl) (by kernel_rfl) h
noncomputable def G25:List AV→Tr AV:=g1 dPos (fun a=>gdv (ok25 a) ((dR .u8 .u8).res (N25 a)))
theorem s25:Sound Pz 25 G25:=sound1 fun a=>at_gd (P25 a)
noncomputable def K14:List (Nat×Nat×List (Nat×List Nat)):=[(14,9,[(0,[1]),(1,[1,6]),(2,[2]),(3,[2])])]
noncomputable def B14:Base:=baseOf Pz (fun f i=>lkC f i K14) [(25,G25),(26,G26)] [] []
theorem hB14:BOk B14:=base_ok named_z ⟨s25,s26,trivial⟩ trivial trivial
noncomputable def N14 (a:Pos):List Mv:=(bif (N25 a).fst != 0 then ([]) else (N26 a))
noncomputable def ok14 (a:Pos):Bool:=(ok25 (a)&&(bif (N25 a).fst != 0 then true else (ok26 (a)&&true)))
theorem P14 (a:Pos) (h:ok14 a=true):PS Pz 14 [Pos.av a] ((dL .mv).res (N14 a)):=ps_sum (n:=14) hB14 (by kernel_rfl) (by kernel_rfl) (by kernel_rfl) h
noncomputable def G14:List AV→Tr AV:=g1 dPos (fun a=>gdv (ok14 a) ((dL .mv).res (N14 a)))
theorem s14:Sound Pz 14 G14:=sound1 fun a=>at_gd (P14 a)
end Kz
end
section
namespace Kz
open Go
set_option maxRecDepth 100000
theorem t52 (p:Pos) (b:Int):ok52 p b=true:=a_true (t78 _ _ _) fun _=>rfl
section
variable {p:Pos} (hp:PosIn p)
include hp
theorem move_var (m:Mv):0≤(N15 p m).1.variant:=by
  obtain ⟨_,h1,h2⟩:=move_all hp m
  by_cases hm:m ∈ N28 p
  · rw [(h1 hm).2.2.1]; exact hp.v0
  · rw [h2 hm]; exact hp.v0
theorem t58 (m:Mv):ok58 p m=true:=by
  have hv:=move_var hp m
  have t0:=hp.t0
  have b1:=wr_u8_lo (1 - p.turn)
  unfold ok58
  refine a_true (move_all hp m).1 fun _ => ?_
  have k1:ok51 p.variant p.turn=true:=t51 hp.v0 t0
  have k2:ok82 (N15 p m).1 p.turn=true:=t82 hv t0
  have k3:ok82 (N15 p m).1 (wr .u8 (1 - p.turn))=true:=t82 hv b1
  repeat' (first | with_reducible rfl | with_reducible exact k1 | with_reducible exact k2 | with_reducible exact k3 | with_reducible exact t52 _ _ | refine a_true ?_ (fun _ => ?_) | refine c_true (fun _ => ?_) (fun _ => ?_))
theorem okKept_72 {l:List Mv} (hl:l.length≤1000000):okKept 57 p l=true:=by
  unfold okKept
  rw [show (57:Nat).beq 57=true from rfl,cond_true]
  have h1:decide (l.length≤lim)=true:=by unfold lim; simp; omega
  rw [h1,Bool.true_and]
  exact all58_iff.2 (t58 hp)
theorem okKept_73 {l:List Mv} (hl:l.length≤1000000):okKept 59 p l=true:=by
  unfold okKept
  rw [show (59:Nat).beq 57=false from rfl,cond_false,show (59:Nat).beq 59=true from rfl,Bool.true_and]
  have h1:decide (l.length≤lim)=true:=by unfold lim; simp; omega
  rw [h1,Bool.true_and]
  exact all60_iff.2 (t60 hp.v0)
omit hp in
theorem kept_72 (l:List Mv):kept 57 p l=l.filter (N58 p):=by
  unfold kept
  rw [show (57:Nat).beq 57=true from rfl,cond_true]
omit hp in
theorem kept_73 (l:List Mv):kept 59 p l=l.filter (N60 p):=by
  unfold kept
  rw [show (59:Nat).beq 57=false from rfl,cond_false]
theorem lp26 (l:List Mv) (hl:l.length≤1000000):∃ r,lp26_1 l (Int.ofNat l.length) p 0=some r ∧
    match r with
    | .inl i=>0≤i∧∃ m,m ∈ l∧N60 p m=true
    | .inr _ => ∀ m,m ∈ l→N60 p m=false:=by
  refine lp_many (I:=fun x=>0≤x∧x≤(l.length:Int)∧∀ m,m ∈ l.take x.toNat→N60 p m=false) (μ:=fun x=>((l.length:Int) - x).toNat) ?_ _ ⟨by simp,by simp,by simp⟩ (by simp; omega)
  rintro n ⟨h0,h1,h2⟩
  by_cases hc:n < l.length
  · have hlt:n.toNat < l.length:=by omega
    refine ⟨c_true (fun _=>a_true (by simp [h0]; exact hc) fun _=>a_true (t60 hp.v0 _) fun _=>rfl) fun _=>rfl,c_ind (fun _ => ?_) fun h=>absurd h (by simpa using hc)⟩
    refine c_ind (fun h=>⟨h0,_,getD_mem hlt,h⟩) fun h => ?_
    rw [wi64 (n:=n+1) (by omega) (by omega)]
    refine ⟨⟨by omega,by omega,?_⟩,by dsimp only; omega⟩
    rw [show (n+1).toNat=n.toNat+1 by omega,List.take_succ_eq_append_getElem hlt]
    rw [List.getD_eq_getElem?_getD,List.getElem?_eq_getElem hlt] at h
    intro m hm
    simp only [List.mem_append,List.mem_singleton] at hm
    rcases hm with hm | rfl
    · exact h2 m hm
    · exact h
  · refine ⟨c_true (fun h=>absurd h (by simpa using hc)) fun _=>rfl,c_ind (fun h=>absurd h (by simpa using hc)) fun _ => ?_⟩
    show ∀ m,m ∈ l→N60 p m=false
    rw [List.take_of_length_le (by omega)] at h2
    exact h2
theorem lp26_any (l:List Mv) (hl:l.length≤1000000) {α:Type} (x y:α) :
    (bif isL ((lp26_1 l (Int.ofNat l.length) p 0).getD default) then bif decide (gl ((lp26_1 l (Int.ofNat l.length) p 0).getD default) ≥ 0) then x else y else y)=bif l.any (N60 p) then x else y:=by
  have h:=(of_some (lp26 hp l hl)).2
  generalize (lp26_1 l (Int.ofNat l.length) p 0).getD default=r at h ⊢
  cases r with
  | inl i =>
    obtain ⟨h1,m,h2,h3⟩:=h
    have:l.any (N60 p)=true:=List.any_eq_true.2 ⟨m,h2,h3⟩
    simp [isL,gl,h1,this]
  | inr z =>
    have:l.any (N60 p)=false:=by
      rw [List.any_eq_false]
      intro m hm
      rw [h m hm]; simp
    simp [isL,this]
theorem well_len:((N28 p).filter (N58 p)).length≤20802:=Nat.le_trans (List.length_filter_le _ _) (N28_len hp)
theorem t26:ok26 p=true:=by
  have h1:=N28_len hp
  have h2:=well_len hp
  have k1:ok51 p.variant p.turn=true:=t51 hp.v0 hp.t0
  have k2:ok28 p=true:=t28 hp
  have k3:okKept 57 p (N28 p)=true:=okKept_72 hp (by omega)
  have k4:okKept 59 p (kept 57 p (N28 p))=true:=okKept_73 hp (by rw [kept_72]; omega)
  have k5:(lp26_1 (kept 57 p (N28 p)) (Int.ofNat (kept 57 p (N28 p)).length) p 0).isSome=true:=(of_some (lp26 hp _ (by rw [kept_72]; omega))).1
  unfold ok26
  repeat' (first | with_reducible rfl | with_reducible exact k1 | with_reducible exact k2 | with_reducible exact k3 | with_reducible exact k4 | with_reducible exact k5 | with_reducible exact t52 _ _ | refine a_true ?_ (fun _ => ?_) | refine c_true (fun _ => ?_) (fun _ => ?_))
noncomputable def wouldL (p:Pos):List Mv:=bif p.variant==4 then bif ((N28 p).filter (N58 p)).any (N60 p) then ((N28 p).filter (N58 p)).filter (N60 p) else (N28 p).filter (N58 p) else (N28 p).filter (N58 p)
theorem N26_eq:N26 p=bif N51 p.variant p.turn then bif !N52 p p.turn then [] else wouldL p else wouldL p:=by
  have h2:=well_len hp
  unfold N26
  have e:=fun (x y:List Mv)=>lp26_any hp (kept 57 p (N28 p)) (by rw [kept_72]; omega) x y
  rw [e]
  unfold wouldL
  rw [kept_73,kept_72]
omit hp in
theorem wouldL_len' (hl:((N28 p).filter (N58 p)).length≤20802):(wouldL p).length≤20802:=by
  unfold wouldL
  refine c_ind (P:=fun l:List Mv=>l.length≤20802) (fun _=>c_ind (P:=fun l:List Mv=>l.length≤20802) (fun _=>Nat.le_trans (List.length_filter_le _ _) hl) fun _=>hl) fun _=>hl
theorem N26_len:(N26 p).length≤20802:=by
  have h:=wouldL_len' (well_len hp)
  rw [N26_eq hp]
  exact c_ind (P:=fun l:List Mv=>l.length≤20802) (fun _=>c_ind (P:=fun l:List Mv=>l.length≤20802) (fun _=>by simp) fun _=>h) fun _=>h
omit hp in
theorem lp106 (l:List Mv) (hl:l.length≤1000000) (q:Pos) (k:Int):(lp106_1 l (Int.ofNat l.length) q k 0).isSome=true:=by
  refine (of_some (Q:=fun _=>True) (lp_many (I:=fun x=>0≤x∧x≤(l.length:Int)) (μ:=fun x=>((l.length:Int) - x).toNat) ?_ _ ⟨by simp,by simp⟩ (by simp; omega))).1
  rintro n ⟨h0,h1⟩
  by_cases hc:n < l.length
  · refine ⟨c_true (fun _=>a_true (by simp [h0]; exact hc) fun _=>rfl) fun _=>rfl,c_ind (fun _ => ?_) fun h=>absurd h (by simpa using hc)⟩
    rw [wi64 (n:=n+1) (by omega) (by omega)]
    have go:Nxt (fun x:Int=>0≤x∧x≤(l.length:Int)) (fun _:Int ⊕ (Int×Bool)=>True) (fun x=>((l.length:Int) - x).toNat) ((l.length:Int) - n).toNat (.go (n+1)):=⟨⟨by omega,by omega⟩,by dsimp only; omega⟩
    exact c_ind (fun _=>c_ind (fun _=>trivial) fun _=>go) fun _=>go
  · exact ⟨c_true (fun h=>absurd h (by simpa using hc)) fun _=>rfl,c_ind (fun h=>absurd h (by simpa using hc)) fun _=>trivial⟩
theorem t106:ok106 p=true:=by
  have h:=N26_len hp
  have k1:ok26 p=true:=t26 hp
  have k2:(lp106_1 (N26 p) (Int.ofNat (N26 p).length) p (N78 p 1 6) 0).isSome=true:=lp106 _ (by omega) _ _
  unfold ok106
  repeat' (first | with_reducible rfl | with_reducible exact k1 | with_reducible exact k2 | with_reducible exact t78 _ _ _ | refine a_true ?_ (fun _ => ?_) | refine c_true (fun _ => ?_) (fun _ => ?_))
omit hp in
theorem t101:ok101 p=true:=a_true (t52 _ _) fun _=>rfl
theorem t102 (ht:p.turn≤1):ok102 p=true:=by
  have t0:=hp.t0
  unfold ok102
  rw [wu8 (n:=1 - p.turn) (by omega) (by omega)]
  refine a_true (by simp; omega) fun _=>c_true (fun _=>rfl) fun _=>a_true (by simp; omega) fun _=>rfl
omit hp in
theorem t103:ok103 p=true:=by
  unfold ok103
  repeat' (first | with_reducible rfl | with_reducible exact t78 _ _ _ | refine a_true ?_ (fun _ => ?_) | refine c_true (fun _ => ?_) (fun _ => ?_))
omit hp in
theorem t104:ok104 p=true:=a_true (t80 _ _ _) fun _=>rfl
omit hp in
theorem t105:ok105 p=true:=by
  unfold ok105
  repeat' (first | with_reducible rfl | with_reducible exact t80 _ _ _ | refine a_true ?_ (fun _ => ?_) | refine c_true (fun _ => ?_) (fun _ => ?_))
theorem t25:ok25 p=true:=by
  have v0:=hp.v0
  unfold ok25
  refine c_true (fun _=>rfl) fun h9=>c_true (fun _=>rfl) fun ht => ?_
  have h9:p.variant < 9:=by simpa using h9
  have ht:p.turn≤1:=by simpa using ht
  refine a_true (by simp; omega) fun _ => ?_
  have k3:=t101 (p:=p)
  have k4:=t105 (p:=p)
  have k5:=t102 hp ht
  have k6:=t103 (p:=p)
  have k7:=t104 (p:=p)
  have k8:=t106 hp
  refine c_true (fun _=>rfl) fun n0=>c_true (fun _=>rfl) fun n1=>c_true (fun _=>rfl) fun n2=>c_true (fun _=>a_true k3 fun _=>rfl) fun n3=>c_true (fun _=>a_true k4 fun _=>rfl) fun n4=>c_true (fun _=>a_true k5 fun _=>rfl) fun n5=>c_true (fun _=>a_true k6 fun _=>rfl) fun n6=>c_true (fun _=>a_true k7 fun _=>rfl) fun n7=>a_true ?_ fun _=>a_true k8 fun _=>rfl
  simp only [beq_eq_false_iff_ne,ne_eq,beq_iff_eq,Int.ofNat_eq_natCast] at *
  omega
theorem t14:ok14 p=true:=a_true (t25 hp) fun _=>c_true (fun _=>rfl) fun _=>a_true (t26 hp) fun _=>rfl
end
end Kz
end
section
namespace Kz
open Go Go.RowKit
set_option maxRecDepth 100000
set_option maxHeartbeats 4000000
def cl (h f:Int) (p:Pos):Pos:=⟨p.variant,p.board,p.promoted,p.pockets,p.turn,p.rooks,p.passing,p.checks,h,f⟩
def Stp.map {X X' R R':Type} (φ:X→X') (ψ:R→R'):Stp X R→Stp X' R'
  | .go x=>.go (φ x)
  | .out r=>.out (ψ r)
  | .bad=>.bad
section
variable (h f:Int) (p:Pos)
end
section
variable (h f h2 f2 h3 f3:Int) (a q p:Pos) (b m:Mv) (c:Int)
end
section
variable {p:Pos} (hp:PosIn p)
include hp
variable {h f:Int} (hq:PosIn (cl h f p))
include hq
end
end Kz
end
section
namespace Kz
open Go Go.RowKit Go.Proofs
set_option maxRecDepth 100000
set_option maxHeartbeats 4000000
noncomputable def K49:List (Nat×Nat×List (Nat×List Nat)):=[]
noncomputable def B49:Base:=baseOf Pz (fun f i=>lkC f i K49) [] [] []
theorem hB49:BOk B49:=base_ok named_z trivial trivial trivial
noncomputable def V66:AV:=AV.agg [AV.func 25 [] [],AV.func 98 [] [],AV.func 99 [] [],AV.func 100 [] []]
noncomputable def ok49:Bool:=true
theorem E49:evPure B49 14 49 []=Tr.ret V66:=by kernel_rfl
theorem P49 (_:ok49=true):PS Pz 49 [] V66:=evPure_ok hB49 (by rw [E49]; rfl)
noncomputable def G49:List AV→Tr AV:=g0 (.ret V66)
theorem s49:Sound Pz 49 G49:=sound0 (at_rt (P49 rfl))
noncomputable def K138:List (Nat×Nat×List (Nat×List Nat)):=[(138,5,[(0,[0,2]),(1,[2])])]
noncomputable def B138:Base:=baseOf Pz (fun f i=>lkC f i K138) [] [] []
theorem hB138:BOk B138:=base_ok named_z trivial trivial trivial
noncomputable def N138 (a:Int):(Int×Int):=⟨(3),(a)⟩
noncomputable def ok138 (a:Int):Bool:=true
theorem P138 (a:Int) (h:ok138 a=true):PS Pz 138 [.int .u8 a] ((dR .u8 .u8).res (N138 a)):=ps_sum (n:=14) hB138 (by kernel_rfl) (by kernel_rfl) (by kernel_rfl) h
noncomputable def G138:List AV→Tr AV:=g1 (dI .u8) (fun a=>.ret ((dR .u8 .u8).res (N138 a)))
theorem s138:Sound Pz 138 G138:=sound1 fun a=>at_rt (P138 a rfl)
noncomputable def K98:List (Nat×Nat×List (Nat×List Nat)):=[(98,26,[(0,[1,2]),(1,[1,2,6]),(2,[2]),(3,[1,2,8]),(4,[2]),(5,[1,2,16]),(6,[2]),(7,[2])])]
noncomputable def B98:Base:=baseOf Pz (fun f i=>lkC f i K98) [(14,G14),(82,G82),(138,G138)] [] []
theorem hB98:BOk B98:=base_ok named_z ⟨s14,s82,s138,trivial⟩ trivial trivial
noncomputable def N98 (a:Pos):(Int×Int):=(bif decide (Int.ofNat (N14 a).length > 0) then ⟨(0),(0)⟩ else (bif a.variant==4 then ⟨(wr .u8 (1+a.turn)),(8)⟩ else (bif N82 a a.turn then ⟨(wr .u8 (2 - a.turn)),(1)⟩ else ⟨((N138 2).fst),((N138 2).snd)⟩)))
noncomputable def ok98 (a:Pos):Bool:=(ok14 (a)&&(bif decide (Int.ofNat (N14 a).length > 0) then true else (bif a.variant==4 then true else (ok82 (a) (a.turn)&&true))))
theorem P98 (a:Pos) (h:ok98 a=true):PS Pz 98 [Pos.av a] ((dR .u8 .u8).res (N98 a)):=ps_sum (n:=14) hB98 (by kernel_rfl) (by kernel_rfl) (by kernel_rfl) h
noncomputable def G98:List AV→Tr AV:=g1 dPos (fun a=>gdv (ok98 a) ((dR .u8 .u8).res (N98 a)))
theorem s98:Sound Pz 98 G98:=sound1 fun a=>at_gd (P98 a)
noncomputable def K176:List (Nat×Nat×List (Nat×List Nat)):=[(176,12,[(0,[1,2]),(1,[4])])]
noncomputable def B176:Base:=baseOf Pz (fun f i=>lkC f i K176) [(80,G80)] [] []
theorem hB176:BOk B176:=base_ok named_z ⟨s80,trivial⟩ trivial trivial
noncomputable def N176 (a:Pos) (b:Int):BitVec 64:=(N80 (Pos.mk a.variant a.board a.promoted a.pockets a.turn a.rooks a.passing a.checks a.half a.full) 0 b|||N80 (Pos.mk a.variant a.board a.promoted a.pockets a.turn a.rooks a.passing a.checks a.half a.full) 1 b)
noncomputable def ok176 (a:Pos) (b:Int):Bool:=(ok80 (Pos.mk a.variant a.board a.promoted a.pockets a.turn a.rooks a.passing a.checks a.half a.full) (0) (b)&&(ok80 (Pos.mk a.variant a.board a.promoted a.pockets a.turn a.rooks a.passing a.checks a.half a.full) (1) (b)&&true))
theorem P176 (a:Pos) (b:Int) (h:ok176 a b=true):PS Pz 176 [Pos.av a,.int .u8 b] (dU.res (N176 a b)):=ps_sum (n:=14) hB176 (by kernel_rfl) (by kernel_rfl) (by kernel_rfl) h
noncomputable def G176:List AV→Tr AV:=g2 dPos (dI .u8) (fun a b=>gdv (ok176 a b) (dU.res (N176 a b)))
theorem s176:Sound Pz 176 G176:=sound2 fun a b=>at_gd (P176 a b)
noncomputable def K177:List (Nat×Nat×List (Nat×List Nat)):=[(177,35,[(0,[0]),(1,[0]),(2,[0]),(3,[0]),(4,[0]),(5,[0]),(6,[0]),(7,[2])])]
noncomputable def B177:Base:=baseOf Pz (fun f i=>lkC f i K177) [] [] []
theorem hB177:BOk B177:=base_ok named_z trivial trivial trivial
noncomputable def N177 (a:BitVec 64):Int:=(ibits BinOp.and .i64 (wr .i64 ↑((((((a >>> 1&&&6148914691236517205#64)+(a&&&6148914691236517205#64)) >>> 2&&&3689348814741910323#64)+((a >>> 1&&&6148914691236517205#64)+(a&&&6148914691236517205#64)&&&3689348814741910323#64)) >>> 4+((((a >>> 1&&&6148914691236517205#64)+(a&&&6148914691236517205#64)) >>> 2&&&3689348814741910323#64)+((a >>> 1&&&6148914691236517205#64)+(a&&&6148914691236517205#64)&&&3689348814741910323#64))&&&1085102592571150095#64)+(((((a >>> 1&&&6148914691236517205#64)+(a&&&6148914691236517205#64)) >>> 2&&&3689348814741910323#64)+((a >>> 1&&&6148914691236517205#64)+(a&&&6148914691236517205#64)&&&3689348814741910323#64)) >>> 4+((((a >>> 1&&&6148914691236517205#64)+(a&&&6148914691236517205#64)) >>> 2&&&3689348814741910323#64)+((a >>> 1&&&6148914691236517205#64)+(a&&&6148914691236517205#64)&&&3689348814741910323#64))&&&1085102592571150095#64) >>> 8+((((((a >>> 1&&&6148914691236517205#64)+(a&&&6148914691236517205#64)) >>> 2&&&3689348814741910323#64)+((a >>> 1&&&6148914691236517205#64)+(a&&&6148914691236517205#64)&&&3689348814741910323#64)) >>> 4+((((a >>> 1&&&6148914691236517205#64)+(a&&&6148914691236517205#64)) >>> 2&&&3689348814741910323#64)+((a >>> 1&&&6148914691236517205#64)+(a&&&6148914691236517205#64)&&&3689348814741910323#64))&&&1085102592571150095#64)+(((((a >>> 1&&&6148914691236517205#64)+(a&&&6148914691236517205#64)) >>> 2&&&3689348814741910323#64)+((a >>> 1&&&6148914691236517205#64)+(a&&&6148914691236517205#64)&&&3689348814741910323#64)) >>> 4+((((a >>> 1&&&6148914691236517205#64)+(a&&&6148914691236517205#64)) >>> 2&&&3689348814741910323#64)+((a >>> 1&&&6148914691236517205#64)+(a&&&6148914691236517205#64)&&&3689348814741910323#64))&&&1085102592571150095#64) >>> 8) >>> 16+((((((a >>> 1&&&6148914691236517205#64)+(a&&&6148914691236517205#64)) >>> 2&&&3689348814741910323#64)+((a >>> 1&&&6148914691236517205#64)+(a&&&6148914691236517205#64)&&&3689348814741910323#64)) >>> 4+((((a >>> 1&&&6148914691236517205#64)+(a&&&6148914691236517205#64)) >>> 2&&&3689348814741910323#64)+((a >>> 1&&&6148914691236517205#64)+(a&&&6148914691236517205#64)&&&3689348814741910323#64))&&&1085102592571150095#64)+(((((a >>> 1&&&6148914691236517205#64)+(a&&&6148914691236517205#64)) >>> 2&&&3689348814741910323#64)+((a >>> 1&&&6148914691236517205#64)+(a&&&6148914691236517205#64)&&&3689348814741910323#64)) >>> 4+((((a >>> 1&&&6148914691236517205#64)+(a&&&6148914691236517205#64)) >>> 2&&&3689348814741910323#64)+((a >>> 1&&&6148914691236517205#64)+(a&&&6148914691236517205#64)&&&3689348814741910323#64))&&&1085102592571150095#64) >>> 8+((((((a >>> 1&&&6148914691236517205#64)+(a&&&6148914691236517205#64)) >>> 2&&&3689348814741910323#64)+((a >>> 1&&&6148914691236517205#64)+(a&&&6148914691236517205#64)&&&3689348814741910323#64)) >>> 4+((((a >>> 1&&&6148914691236517205#64)+(a&&&6148914691236517205#64)) >>> 2&&&3689348814741910323#64)+((a >>> 1&&&6148914691236517205#64)+(a&&&6148914691236517205#64)&&&3689348814741910323#64))&&&1085102592571150095#64)+(((((a >>> 1&&&6148914691236517205#64)+(a&&&6148914691236517205#64)) >>> 2&&&3689348814741910323#64)+((a >>> 1&&&6148914691236517205#64)+(a&&&6148914691236517205#64)&&&3689348814741910323#64)) >>> 4+((((a >>> 1&&&6148914691236517205#64)+(a&&&6148914691236517205#64)) >>> 2&&&3689348814741910323#64)+((a >>> 1&&&6148914691236517205#64)+(a&&&6148914691236517205#64)&&&3689348814741910323#64))&&&1085102592571150095#64) >>> 8) >>> 16) >>> 32).toNat) 127)
noncomputable def ok177 (a:BitVec 64):Bool:=true
theorem P177 (a:BitVec 64) (h:ok177 a=true):PS Pz 177 [.u64 a] ((dI .i64).res (N177 a)):=ps_sum (n:=14) hB177 (by kernel_rfl) (by kernel_rfl) (by kernel_rfl) h
noncomputable def G177:List AV→Tr AV:=g1 dU (fun a=>.ret ((dI .i64).res (N177 a)))
theorem s177:Sound Pz 177 G177:=sound1 fun a=>at_rt (P177 a rfl)
noncomputable def K139:List (Nat×Nat×List (Nat×List Nat)):=[(139,68,[(0,(1::(rn 32 13 [59,60,61,64,65,66]))),(1,(1::3::(rn 32 13 [59,60,61,64,65,66]))),(2,(1::3::11::(rn 32 13 [59,60,61,64,65,66]))),(3,(1::3::11::12::(rn 32 13 [59,60,61,64,65,66]))),(4,(1::3::11::12::(rn 32 13 [59,60,61,64,65,66]))),(5,(1::4::(rn 32 13 []))),(6,(1::4::5::(rn 32 13 []))),(7,(4::5::27::(rn 32 13 []))),(8,[2]),(9,[2]),(10,[1,3,11,46,59,60,61,64,65,66]),(11,[1,3,46,59,60,61,64,65,66]),(12,[3,6,7,59,60,61,64,65,66]),(13,[2]),(14,[2])])]
noncomputable def B139:Base:=baseOf Pz (fun f i=>lkC f i K139) [(114,G114),(176,G176),(177,G177),(80,G80)] [] []
theorem hB139:BOk B139:=base_ok named_z ⟨s114,s176,s177,s80,trivial⟩ trivial trivial
noncomputable def N139 (a:Pos):Bool:=(bif a.variant==0 then (bif a.variant==0 then (bif N114 (Pos.mk a.variant a.board a.promoted a.pockets a.turn a.rooks a.passing a.checks a.half a.full) &&& ~~~N176 (Pos.mk a.variant a.board a.promoted a.pockets a.turn a.rooks a.passing a.checks a.half a.full) 6 &&& ~~~N176 (Pos.mk a.variant a.board a.promoted a.pockets a.turn a.rooks a.passing a.checks a.half a.full) 3 &&& ~~~N176 (Pos.mk a.variant a.board a.promoted a.pockets a.turn a.rooks a.passing a.checks a.half a.full) 2 != 0#64 then (false) else (bif decide (N177 (N114 (Pos.mk a.variant a.board a.promoted a.pockets a.turn a.rooks a.passing a.checks a.half a.full) &&& ~~~N176 (Pos.mk a.variant a.board a.promoted a.pockets a.turn a.rooks a.passing a.checks a.half a.full) 6)≤1) then (true) else (bif N114 (Pos.mk a.variant a.board a.promoted a.pockets a.turn a.rooks a.passing a.checks a.half a.full) &&& ~~~N176 (Pos.mk a.variant a.board a.promoted a.pockets a.turn a.rooks a.passing a.checks a.half a.full) 6==N176 (Pos.mk a.variant a.board a.promoted a.pockets a.turn a.rooks a.passing a.checks a.half a.full) 3 then (bif N114 (Pos.mk a.variant a.board a.promoted a.pockets a.turn a.rooks a.passing a.checks a.half a.full) &&& ~~~N176 (Pos.mk a.variant a.board a.promoted a.pockets a.turn a.rooks a.passing a.checks a.half a.full) 6&&&6172840429334713770#64==0#64 then (true) else (N114 (Pos.mk a.variant a.board a.promoted a.pockets a.turn a.rooks a.passing a.checks a.half a.full) &&& ~~~N176 (Pos.mk a.variant a.board a.promoted a.pockets a.turn a.rooks a.passing a.checks a.half a.full) 6 &&& ~~~6172840429334713770#64==0#64)) else (false)))) else (bif a.variant==3 then (bif a.variant==3 then (bif N114 (Pos.mk a.variant a.board a.promoted a.pockets a.turn a.rooks a.passing a.checks a.half a.full)==N80 (Pos.mk a.variant a.board a.promoted a.pockets a.turn a.rooks a.passing a.checks a.half a.full) 0 6|||N80 (Pos.mk a.variant a.board a.promoted a.pockets a.turn a.rooks a.passing a.checks a.half a.full) 1 6 then (bif N177 (N80 (Pos.mk a.variant a.board a.promoted a.pockets a.turn a.rooks a.passing a.checks a.half a.full) 0 6)==1 then (N177 (N80 (Pos.mk a.variant a.board a.promoted a.pockets a.turn a.rooks a.passing a.checks a.half a.full) 1 6)==1) else (false)) else (false)) else (false)) else (bif a.variant==5 then (bif N114 (Pos.mk a.variant a.board a.promoted a.pockets a.turn a.rooks a.passing a.checks a.half a.full)==N80 (Pos.mk a.variant a.board a.promoted a.pockets a.turn a.rooks a.passing a.checks a.half a.full) 0 6|||N80 (Pos.mk a.variant a.board a.promoted a.pockets a.turn a.rooks a.passing a.checks a.half a.full) 1 6 then (bif N177 (N80 (Pos.mk a.variant a.board a.promoted a.pockets a.turn a.rooks a.passing a.checks a.half a.full) 0 6)==1 then (N177 (N80 (Pos.mk a.variant a.board a.promoted a.pockets a.turn a.rooks a.passing a.checks a.half a.full) 1 6)==1) else (false)) else (false)) else (false)))) else (bif a.variant==1 then (bif N114 (Pos.mk a.variant a.board a.promoted a.pockets a.turn a.rooks a.passing a.checks a.half a.full) &&& ~~~N176 (Pos.mk a.variant a.board a.promoted a.pockets a.turn a.rooks a.passing a.checks a.half a.full) 6 &&& ~~~N176 (Pos.mk a.variant a.board a.promoted a.pockets a.turn a.rooks a.passing a.checks a.half a.full) 3 &&& ~~~N176 (Pos.mk a.variant a.board a.promoted a.pockets a.turn a.rooks a.passing a.checks a.half a.full) 2 != 0#64 then (false) else (bif decide (N177 (N114 (Pos.mk a.variant a.board a.promoted a.pockets a.turn a.rooks a.passing a.checks a.half a.full) &&& ~~~N176 (Pos.mk a.variant a.board a.promoted a.pockets a.turn a.rooks a.passing a.checks a.half a.full) 6)≤1) then (true) else (bif N114 (Pos.mk a.variant a.board a.promoted a.pockets a.turn a.rooks a.passing a.checks a.half a.full) &&& ~~~N176 (Pos.mk a.variant a.board a.promoted a.pockets a.turn a.rooks a.passing a.checks a.half a.full) 6==N176 (Pos.mk a.variant a.board a.promoted a.pockets a.turn a.rooks a.passing a.checks a.half a.full) 3 then (bif N114 (Pos.mk a.variant a.board a.promoted a.pockets a.turn a.rooks a.passing a.checks a.half a.full) &&& ~~~N176 (Pos.mk a.variant a.board a.promoted a.pockets a.turn a.rooks a.passing a.checks a.half a.full) 6&&&6172840429334713770#64==0#64 then (true) else (N114 (Pos.mk a.variant a.board a.promoted a.pockets a.turn a.rooks a.passing a.checks a.half a.full) &&& ~~~N176 (Pos.mk a.variant a.board a.promoted a.pockets a.turn a.rooks a.passing a.checks a.half a.full) 6 &&& ~~~6172840429334713770#64==0#64)) else (false)))) else (bif a.variant==3 then (bif a.variant==3 then (bif N114 (Pos.mk a.variant a.board a.promoted a.pockets a.turn a.rooks a.passing a.checks a.half a.full)==N80 (Pos.mk a.variant a.board a.promoted a.pockets a.turn a.rooks a.passing a.checks a.half a.full) 0 6|||N80 (Pos.mk a.variant a.board a.promoted a.pockets a.turn a.rooks a.passing a.checks a.half a.full) 1 6 then (bif N177 (N80 (Pos.mk a.variant a.board a.promoted a.pockets a.turn a.rooks a.passing a.checks a.half a.full) 0 6)==1 then (N177 (N80 (Pos.mk a.variant a.board a.promoted a.pockets a.turn a.rooks a.passing a.checks a.half a.full) 1 6)==1) else (false)) else (false)) else (false)) else (bif a.variant==5 then (bif N114 (Pos.mk a.variant a.board a.promoted a.pockets a.turn a.rooks a.passing a.checks a.half a.full)==N80 (Pos.mk a.variant a.board a.promoted a.pockets a.turn a.rooks a.passing a.checks a.half a.full) 0 6|||N80 (Pos.mk a.variant a.board a.promoted a.pockets a.turn a.rooks a.passing a.checks a.half a.full) 1 6 then (bif N177 (N80 (Pos.mk a.variant a.board a.promoted a.pockets a.turn a.rooks a.passing a.checks a.half a.full) 0 6)==1 then (N177 (N80 (Pos.mk a.variant a.board a.promoted a.pockets a.turn a.rooks a.passing a.checks a.half a.full) 1 6)==1) else (false)) else (false)) else (false)))))
noncomputable def ok139 (a:Pos):Bool:=(ok114 (Pos.mk a.variant a.board a.promoted a.pockets a.turn a.rooks a.passing a.checks a.half a.full)&&(bif a.variant==0 then (bif a.variant==0 then (ok176 (Pos.mk a.variant a.board a.promoted a.pockets a.turn a.rooks a.passing a.checks a.half a.full) (6)&&(ok176 (Pos.mk a.variant a.board a.promoted a.pockets a.turn a.rooks a.passing a.checks a.half a.full) (3)&&(ok176 (Pos.mk a.variant a.board a.promoted a.pockets a.turn a.rooks a.passing a.checks a.half a.full) (2)&&true))) else (bif a.variant==3 then (bif a.variant==3 then (ok80 (Pos.mk a.variant a.board a.promoted a.pockets a.turn a.rooks a.passing a.checks a.half a.full) (0) (6)&&(ok80 (Pos.mk a.variant a.board a.promoted a.pockets a.turn a.rooks a.passing a.checks a.half a.full) (1) (6)&&true)) else true) else (bif a.variant==5 then (ok80 (Pos.mk a.variant a.board a.promoted a.pockets a.turn a.rooks a.passing a.checks a.half a.full) (0) (6)&&(ok80 (Pos.mk a.variant a.board a.promoted a.pockets a.turn a.rooks a.passing a.checks a.half a.full) (1) (6)&&true)) else true))) else (bif a.variant==1 then (ok176 (Pos.mk a.variant a.board a.promoted a.pockets a.turn a.rooks a.passing a.checks a.half a.full) (6)&&(ok176 (Pos.mk a.variant a.board a.promoted a.pockets a.turn a.rooks a.passing a.checks a.half a.full) (3)&&(ok176 (Pos.mk a.variant a.board a.promoted a.pockets a.turn a.rooks a.passing a.checks a.half a.full) (2)&&true))) else (bif a.variant==3 then (bif a.variant==3 then (ok80 (Pos.mk a.variant a.board a.promoted a.pockets a.turn a.rooks a.passing a.checks a.half a.full) (0) (6)&&(ok80 (Pos.mk a.variant a.board a.promoted a.pockets a.turn a.rooks a.passing a.checks a.half a.full) (1) (6)&&true)) else true) else (bif a.variant==5 then (ok80 (Pos.mk a.variant a.board a.promoted a.pockets a.turn a.rooks a.passing a.checks a.half a.full) (0) (6)&&(ok80 (Pos.mk a.variant a.board a.promoted a.pockets a.turn a.rooks a.passing a.checks a.half a.full) (1) (6)&&true)) else true)))))
theorem P139 (a:Pos) (h:ok139 a=true):PS Pz 139 [Pos.av a] (dB.res (N139 a)):=ps_sum (n:=14) hB139 (by kernel_rfl) (by kernel_rfl) (by kernel_rfl) h
noncomputable def G139:List AV→Tr AV:=g1 dPos (fun a=>gdv (ok139 a) (dB.res (N139 a)))
theorem s139:Sound Pz 139 G139:=sound1 fun a=>at_gd (P139 a)
noncomputable def K99:List (Nat×Nat×List (Nat×List Nat)):=[(99,7,[(0,[1,2]),(1,[2,4]),(2,[2]),(3,[2])])]
noncomputable def B99:Base:=baseOf Pz (fun f i=>lkC f i K99) [(139,G139),(138,G138)] [] []
theorem hB99:BOk B99:=base_ok named_z ⟨s139,s138,trivial⟩ trivial trivial
noncomputable def N99 (a:Pos):(Int×Int):=(bif N139 (Pos.mk a.variant a.board a.promoted a.pockets a.turn a.rooks a.passing a.checks a.half a.full) then ⟨((N138 3).fst),((N138 3).snd)⟩ else ⟨(0),(0)⟩)
noncomputable def ok99 (a:Pos):Bool:=(ok139 (Pos.mk a.variant a.board a.promoted a.pockets a.turn a.rooks a.passing a.checks a.half a.full)&&true)
theorem P99 (a:Pos) (h:ok99 a=true):PS Pz 99 [Pos.av a] ((dR .u8 .u8).res (N99 a)):=ps_sum (n:=14) hB99 (by kernel_rfl) (by kernel_rfl) (by kernel_rfl) h
noncomputable def G99:List AV→Tr AV:=g1 dPos (fun a=>gdv (ok99 a) ((dR .u8 .u8).res (N99 a)))
theorem s99:Sound Pz 99 G99:=sound1 fun a=>at_gd (P99 a)
noncomputable def K100:List (Nat×Nat×List (Nat×List Nat)):=[(100,8,[(0,[1,2]),(1,[2,5]),(2,[2]),(3,[2])])]
noncomputable def B100:Base:=baseOf Pz (fun f i=>lkC f i K100) [(138,G138)] [] []
theorem hB100:BOk B100:=base_ok named_z ⟨s138,trivial⟩ trivial trivial
noncomputable def N100 (a:Pos):(Int×Int):=(bif decide (a.half ≥ 150) then ⟨((N138 4).fst),((N138 4).snd)⟩ else ⟨(0),(0)⟩)
noncomputable def ok100 (a:Pos):Bool:=true
theorem P100 (a:Pos) (h:ok100 a=true):PS Pz 100 [Pos.av a] ((dR .u8 .u8).res (N100 a)):=ps_sum (n:=14) hB100 (by kernel_rfl) (by kernel_rfl) (by kernel_rfl) h
noncomputable def G100:List AV→Tr AV:=g1 dPos (fun a=>.ret ((dR .u8 .u8).res (N100 a)))
theorem s100:Sound Pz 100 G100:=sound1 fun a=>at_rt (P100 a rfl)
noncomputable def K23:List (Nat×Nat×List (Nat×List Nat)):=[(23,29,[(0,[1,2,10,11,12]),(1,[1,2,13]),(2,[2]),(3,[1,2,15,16]),(4,[1,2,15,16,17]),(5,[1,2,4,15,16]),(6,[1,2,5,15,16]),(7,[1,2,5,15,16,25]),(8,[2]),(9,[1,2,15,16]),(10,[2])])]
noncomputable def B23:Base:=baseOf Pz (fun f i=>lkC f i K23) [(25,G25),(49,G49),(98,G98),(99,G99),(100,G100)] [] []
theorem hB23:BOk B23:=base_ok named_z ⟨s25,s49,s98,s99,s100,trivial⟩ trivial trivial
noncomputable def N23 (a:Pos):(Int×Int):=(bif decide (a.variant ≥ 9) then ⟨(0),(0)⟩ else (bif decide (a.turn > 1) then ⟨(0),(0)⟩ else (bif (N25 a).fst != 0 then ⟨((N25 a).fst),((N25 a).snd)⟩ else (bif (N98 a).fst != 0 then ⟨((N98 a).fst),((N98 a).snd)⟩ else (bif (N99 a).fst != 0 then ⟨((N99 a).fst),((N99 a).snd)⟩ else (bif (N100 a).fst != 0 then ⟨((N100 a).fst),((N100 a).snd)⟩ else ⟨(0),(0)⟩))))))
noncomputable def ok23 (a:Pos):Bool:=(bif decide (a.variant ≥ 9) then true else (bif decide (a.turn > 1) then true else (ok25 (a)&&(bif (N25 a).fst != 0 then true else (ok98 (a)&&(bif (N98 a).fst != 0 then true else (ok99 (a)&&true)))))))
theorem P23 (a:Pos) (h:ok23 a=true):PS Pz 23 [Pos.av a] ((dR .u8 .u8).res (N23 a)):=ps_sum (n:=14) hB23 (by kernel_rfl) (by kernel_rfl) (by kernel_rfl) h
end Kz
end
section
namespace Kz
open Go Go.RowKit
set_option maxRecDepth 100000
set_option maxHeartbeats 4000000
theorem t176 (p:Pos) (b:Int):ok176 p b=true:=a_true (t80 _ _ _) fun _=>a_true (t80 _ _ _) fun _=>rfl
theorem t139 (p:Pos):ok139 p=true:=by
  unfold ok139
  rw [show (Pos.mk p.variant p.board p.promoted p.pockets p.turn p.rooks p.passing p.checks p.half p.full)=p from rfl]
  repeat' (first | with_reducible rfl | with_reducible exact t114 _ | with_reducible exact t176 _ _ | with_reducible exact t80 _ _ _ | refine a_true ?_ (fun _ => ?_) | refine c_true (fun _ => ?_) (fun _ => ?_))
theorem t99 (p:Pos):ok99 p=true:=a_true (t139 _) fun _=>rfl
theorem t98 {p:Pos} (hp:PosIn p):ok98 p=true:=a_true (t14 hp) fun _=>c_true (fun _=>rfl) fun _=>c_true (fun _=>rfl) fun _=>a_true (t82 hp.v0 hp.t0) fun _=>rfl
theorem t23 {p:Pos} (hp:PosIn p):ok23 p=true:=c_true (fun _=>rfl) fun _=>c_true (fun _=>rfl) fun _=>a_true (t25 hp) fun _=>c_true (fun _=>rfl) fun _=>a_true (t98 hp) fun _=>c_true (fun _=>rfl) fun _=>a_true (t99 p) fun _=>rfl
section
variable {p:Pos} (hp:PosIn p) {h f:Int} (hq:PosIn (cl h f p))
include hp hq
end
def inC (a b x:Int):Bool:=decide (a≤x)&&decide (x≤b)
theorem inC_iff {a b x:Int}:inC a b x=true ↔ a≤x∧x≤b:=by unfold inC; simp
def posIB (p:Pos):Bool :=
  inC 0 255 p.variant&&(p.board.length==64&&p.board.all (inC 0 255))&&(p.pockets.length==12&&p.pockets.all (inC 0 255))&&inC 0 255 p.turn&&(p.rooks.length==4&&p.rooks.all (inC (-128) 127))&&inC (-128) 127 p.passing&&(p.checks.length==2&&p.checks.all (inC 0 255))&&inC (-9223372036854775808) 9223372036854775807 p.half&&inC (-9223372036854775808) 9223372036854775807 p.full
theorem posI_of {p:Pos} (h:posIB p=true):PosIn p:=by
  unfold posIB at h
  simp only [Bool.and_eq_true,beq_iff_eq,List.all_eq_true,inC_iff] at h
  obtain ⟨⟨⟨⟨⟨⟨⟨⟨a,b⟩,c⟩,d⟩,e⟩,f⟩,g⟩,i⟩,j⟩:=h
  exact ⟨a.1,a.2,b.1,b.2,c.1,c.2,d.1,d.2,e.1,e.2,f.1,f.2,g.1,g.2,i,j⟩
end Kz
end
section
namespace Kz
open Go Go.RowKit Go.Proofs
set_option maxRecDepth 100000
set_option maxHeartbeats 4000000
noncomputable def K128:List (Nat×Nat×List (Nat×List Nat)):=[(128,6,[(0,[0]),(1,[2])])]
noncomputable def B128:Base:=baseOf Pz (fun f i=>lkC f i K128) [(107,G107)] [] []
theorem hB128:BOk B128:=base_ok named_z ⟨s107,trivial⟩ trivial trivial
noncomputable def N128 (a:Int):List UInt8:=((N107 a).fst)
noncomputable def ok128 (a:Int):Bool:=(ok107 (a)&&true)
theorem P128 (a:Int) (h:ok128 a=true):PS Pz 128 [.int .u8 a] (dS.res (N128 a)):=ps_sum (n:=14) hB128 (by kernel_rfl) (by kernel_rfl) (by kernel_rfl) h
noncomputable def G128:List AV→Tr AV:=g1 (dI .u8) (fun a=>gdv (ok128 a) (dS.res (N128 a)))
theorem s128:Sound Pz 128 G128:=sound1 fun a=>at_gd (P128 a)
noncomputable def K83:List (Nat×Nat×List (Nat×List Nat)):=[(83,12,[(0,[0,1]),(1,[4])])]
noncomputable def B83:Base:=baseOf Pz (fun f i=>lkC f i K83) [(128,G128)] [] []
theorem hB83:BOk B83:=base_ok named_z ⟨s128,trivial⟩ trivial trivial
noncomputable def N83 (a:Int) (b:Int):Bool:=(bif !N128 a==(ByteArray.mk #[]).data.toList then (decide (b≤1)) else (false))
noncomputable def ok83 (a:Int) (b:Int):Bool:=(ok128 (a)&&true)
theorem P83 (a:Int) (b:Int) (h:ok83 a b=true):PS Pz 83 [.int .u8 a,.int .u8 b] (dB.res (N83 a b)):=ps_sum (n:=14) hB83 (by kernel_rfl) (by kernel_rfl) (by kernel_rfl) h
noncomputable def G83:List AV→Tr AV:=g2 (dI .u8) (dI .u8) (fun a b=>gdv (ok83 a b) (dB.res (N83 a b)))
theorem s83:Sound Pz 83 G83:=sound2 fun a b=>at_gd (P83 a b)
noncomputable def K162:List (Nat×Nat×List (Nat×List Nat)):=[(162,2,[(0,[0]),(1,[0])])]
noncomputable def B162:Base:=baseOf Pz (fun f i=>lkC f i K162) [] [] []
theorem hB162:BOk B162:=base_ok named_z trivial trivial trivial
noncomputable def N162  : List Int:=(li [0,100,320,330,500,900,0])
noncomputable def ok162  : Bool:=true
theorem P162  (h:ok162 =true):PS Pz 162 [] ((dArr .i64 7).res (N162 )):=ps_sum (n:=14) hB162 (by kernel_rfl) (by kernel_rfl) (by kernel_rfl) h
noncomputable def G162:List AV→Tr AV:=g0  (.ret ((dArr .i64 7).res (N162 )))
theorem s162:Sound Pz 162 G162:=sound0 (at_rt (P162 rfl))
noncomputable def K129:List (Nat×Nat×List (Nat×List Nat)):=[(129,8,[(0,[0]),(1,[0,4]),(2,[2]),(3,[2])])]
noncomputable def B129:Base:=baseOf Pz (fun f i=>lkC f i K129) [(162,G162)] [] []
theorem hB129:BOk B129:=base_ok named_z ⟨s162,trivial⟩ trivial trivial
noncomputable def N129 (a:Int):Int:=(bif decide (a > 6) then (0) else ((li [0,100,320,330,500,900,0]).getD a.toNat 0))
noncomputable def ok129 (a:Int):Bool:=(bif decide (a > 6) then true else (decide (0≤a)&&decide (a < Int.ofNat 7)&&true))
theorem P129 (a:Int) (h:ok129 a=true):PS Pz 129 [.int .u8 a] ((dI .i64).res (N129 a)):=ps_sum (n:=14) hB129 (by kernel_rfl) (by kernel_rfl) (by kernel_rfl) h
noncomputable def G129:List AV→Tr AV:=g1 (dI .u8) (fun a=>gdv (ok129 a) ((dI .i64).res (N129 a)))
theorem s129:Sound Pz 129 G129:=sound1 fun a=>at_gd (P129 a)
noncomputable def K163:List (Nat×Nat×List (Nat×List Nat)):=[(163,8,[(0,[0]),(1,[2])])]
noncomputable def B163:Base:=baseOf Pz (fun f i=>lkC f i K163) [] [] []
theorem hB163:BOk B163:=base_ok named_z trivial trivial trivial
noncomputable def N163 (a:Int):Int:=(if 0 > if wr .i64 (a - 4) > wr .i64 (3 - a) then wr .i64 (a - 4) else wr .i64 (3 - a) then 0 else if wr .i64 (a - 4) > wr .i64 (3 - a) then wr .i64 (a - 4) else wr .i64 (3 - a))
noncomputable def ok163 (a:Int):Bool:=true
theorem P163 (a:Int) (h:ok163 a=true):PS Pz 163 [.int .i64 a] ((dI .i64).res (N163 a)):=ps_sum (n:=14) hB163 (by kernel_rfl) (by kernel_rfl) (by kernel_rfl) h
noncomputable def G163:List AV→Tr AV:=g1 (dI .i64) (fun a=>.ret ((dI .i64).res (N163 a)))
theorem s163:Sound Pz 163 G163:=sound1 fun a=>at_rt (P163 a rfl)
noncomputable def K130:List (Nat×Nat×List (Nat×List Nat)):=[(130,16,[(0,[0]),(1,[0,8]),(2,[2]),(3,[2])])]
noncomputable def B130:Base:=baseOf Pz (fun f i=>lkC f i K130) [(163,G163)] [] []
theorem hB130:BOk B130:=base_ok named_z ⟨s163,trivial⟩ trivial trivial
noncomputable def N130 (a:Int):Int:=(bif decide (a < 0) then (-1) else (bif decide (a ≥ 64) then (-1) else (if N163 (wr .i64 (a.tdiv 8)) > N163 (a.tmod 8) then N163 (wr .i64 (a.tdiv 8)) else N163 (a.tmod 8))))
noncomputable def ok130 (a:Int):Bool:=true
theorem P130 (a:Int) (h:ok130 a=true):PS Pz 130 [.int .i64 a] ((dI .i64).res (N130 a)):=ps_sum (n:=14) hB130 (by kernel_rfl) (by kernel_rfl) (by kernel_rfl) h
noncomputable def G130:List AV→Tr AV:=g1 (dI .i64) (fun a=>.ret ((dI .i64).res (N130 a)))
theorem s130:Sound Pz 130 G130:=sound1 fun a=>at_rt (P130 a rfl)
noncomputable def K131:List (Nat×Nat×List (Nat×List Nat)):=[]
noncomputable def B131:Base:=baseOf Pz (fun f i=>lkC f i K131) [] [] []
theorem hB131:BOk B131:=base_ok named_z trivial trivial trivial
noncomputable def V169:AV:=AV.vlist true [AV.agg [AV.cint .u8 2,AV.func 164 [] []],AV.agg [AV.cint .u8 8,AV.func 165 [] []],AV.agg [AV.cint .u8 6,AV.func 168 [] []],AV.agg [AV.cint .u8 5,AV.func 170 [] []],AV.agg [AV.cint .u8 4,AV.func 171 [] []]]
noncomputable def ok131:Bool:=true
theorem E131:evPure B131 14 131 []=Tr.ret V169:=by kernel_rfl
theorem P131 (_:ok131=true):PS Pz 131 [] V169:=evPure_ok hB131 (by rw [E131]; rfl)
noncomputable def G131:List AV→Tr AV:=g0 (.ret V169)
theorem s131:Sound Pz 131 G131:=sound0 (at_rt (P131 rfl))
noncomputable def K164:List (Nat×Nat×List (Nat×List Nat)):=[(164,26,[(0,[1,2]),(1,[1,2,5]),(2,[5,11,12]),(3,[5,11,12,13]),(4,[5,6,7,11,12]),(5,[5,11,12]),(6,[5,11,12]),(7,[4])])]
noncomputable def B164_1:Base:=baseOf Pz (fun f i=>lkC f i K164) [(129,G129)] [] []
theorem hB164_1:BOk B164_1:=base_ok named_z ⟨s129,trivial⟩ trivial trivial
noncomputable def S164_1 (p1:(List Int)) (p2:Pos) (x:(Int×Int)):St:=St.mk (an 5 (AV.int .i64 x.fst::(an 5 (AV.agg [AV.ints .u8 6 p1]::AV.int .i64 x.snd::(an 13 []))))) (Hp.mk [(pc p2 [])] [] [] 0 0 0)
noncomputable def O164_1 (p1:(List Int)) (p2:Pos):(Int×Int×Bool)→Out:=fun y=>.exit 0 (St.mk (an 5 (AV.int .i64 y.fst::(an 5 (AV.agg [AV.ints .u8 6 p1]::AV.int .i64 y.snd.fst::AV.bool y.snd.snd::(an 12 []))))) (Hp.mk [(pc p2 [])] [] [] 0 0 0))
noncomputable def st164_1 (p1:(List Int)) (p2:Pos) (x:(Int×Int)):Stp (Int×Int) ((Int×Int×Bool)):=(bif decide (x.snd < 6) then (Stp.go (wr .i64 (x.fst+wr .i64 (N129 (wr .u8 x.snd) * wr .i64 (p1.getD x.snd.toNat 0))),wr .i64 (x.snd+1))) else (Stp.out ((x.fst,x.snd,decide (x.snd < 6)))))
noncomputable def okL164_1 (p1:(List Int)) (p2:Pos) (x:(Int×Int)):Bool:=(bif decide (x.snd < 6) then (decide (0≤x.snd)&&decide (x.snd < Int.ofNat 6)&&(ok129 (wr .u8 x.snd)&&true)) else true)
noncomputable def lp164_1 (p1:(List Int)) (p2:Pos) (x:(Int×Int)):Option ((Int×Int×Bool)):=itl (fun x=>bif okL164_1 p1 p2 x then st164_1 p1 p2 x else .bad) many x
abbrev D164_1 {α:Type} (k:(List Int)→Pos→(Int×Int)→α) (s:St):α:=wP s 0 fun q0=>k (tN (tX (tA (tT s 11)) 0)) q0 ((tI (tT s 5)),(tI (tT s 12)))
theorem L164_1 (p1:(List Int)) (p2:Pos) (x:(Int×Int)) (r:(Int×Int×Bool)) (h:lp164_1 p1 p2 x=some r):LSpec Pz (bodL Pz 164 3) (S164_1 p1 p2 x) (O164_1 p1 p2 r):=LSpec.smd (m:=12) (fn:=164) hB164_1 (D164_1 fun _ _ x=>some x) (fun o=>match o with | .exit 0 s=>some ((tI (tT s 5)),(tI (tT s 12)),(tB (tT s 13))) | _=>none) (fun _=>rfl) (fun _=>by kernel_rfl) (fun _=>by kernel_rfl) (fun _=>by kernel_rfl) (fun _=>by kernel_rfl) many x r h
noncomputable def F164_1 (b:Code) (s:St):Tr Out:=D164_1 (fun p1 p2 x=>lk1 b (bodL Pz 164 3) s (S164_1 p1 p2 x) (lp164_1 p1 p2 x) (O164_1 p1 p2)) s
theorem sF164_1:∀ b,LSound Pz b (F164_1 b):=fun _ _ _ h=>lk1_ok (L164_1 _ _ _) h
noncomputable def B164:Base:=baseOf Pz (fun f i=>lkC f i K164) [(129,G129)] [(164,3,F164_1)] []
theorem hB164:BOk B164:=base_ok named_z ⟨s129,trivial⟩ ⟨sF164_1,trivial⟩ trivial
noncomputable def N164 (a:Pos) (b:Int):Int:=(((lp164_1 (List.take 6 (List.drop (scale 6 b).toNat a.pockets)) a (0,0)).getD default).fst)
noncomputable def ok164 (a:Pos) (b:Int):Bool:=(decide (0≤b)&&decide (b < Int.ofNat 2)&&((lp164_1 (List.take 6 (List.drop (scale 6 b).toNat a.pockets)) a (0,0)).isSome&&true))
theorem P164 (a:Pos) (b:Int) (h:ok164 a b=true):PS Pz 164 [Pos.av a,.int .u8 b] ((dI .i64).res (N164 a b)):=ps_sum (n:=14) hB164 (by kernel_rfl) (by kernel_rfl) (by kernel_rfl) h
noncomputable def G164:List AV→Tr AV:=g2 dPos (dI .u8) (fun a b=>gdv (ok164 a b) ((dI .i64).res (N164 a b)))
theorem s164:Sound Pz 164 G164:=sound2 fun a b=>at_gd (P164 a b)
noncomputable def K167:List (Nat×Nat×List (Nat×List Nat)):=[(167,6,[(0,[0]),(1,[2])])]
noncomputable def B167:Base:=baseOf Pz (fun f i=>lkC f i K167) [] [] []
theorem hB167:BOk B167:=base_ok named_z trivial trivial trivial
noncomputable def N167 (a:Int):Int:=(wr .i64 (60 * wr .i64 (a.tdiv 8)))
noncomputable def ok167 (a:Int):Bool:=true
theorem P167 (a:Int) (h:ok167 a=true):PS Pz 167 [.int .i64 a] ((dI .i64).res (N167 a)):=ps_sum (n:=14) hB167 (by kernel_rfl) (by kernel_rfl) (by kernel_rfl) h
noncomputable def G167:List AV→Tr AV:=g1 (dI .i64) (fun a=>.ret ((dI .i64).res (N167 a)))
theorem s167:Sound Pz 167 G167:=sound1 fun a=>at_rt (P167 a rfl)
noncomputable def K165:List (Nat×Nat×List (Nat×List Nat)):=[(165,8,[(0,[1,2]),(1,[4])]),(166,16,[(0,[1,2,3]),(1,[2,7]),(2,[2,7,12]),(3,[6]),(4,[6])])]
noncomputable def B165:Base:=baseOf Pz (fun f i=>lkC f i K165) [(78,G78),(167,G167)] [] []
theorem hB165:BOk B165:=base_ok named_z ⟨s78,s167,trivial⟩ trivial trivial
noncomputable def N165 (a:Pos) (b:Int):Int:=(bif decide (N78 a b 6 < 0) then (0) else (N167 (N78 a b 6)))
noncomputable def ok165 (a:Pos) (b:Int):Bool:=(ok78 (a) (b) (6)&&true)
theorem P165 (a:Pos) (b:Int) (h:ok165 a b=true):PS Pz 165 [Pos.av a,.int .u8 b] ((dI .i64).res (N165 a b)):=ps_sum (n:=14) hB165 (by kernel_rfl) (by kernel_rfl) (by kernel_rfl) h
noncomputable def G165:List AV→Tr AV:=g2 dPos (dI .u8) (fun a b=>gdv (ok165 a b) ((dI .i64).res (N165 a b)))
theorem s165:Sound Pz 165 G165:=sound2 fun a b=>at_gd (P165 a b)
noncomputable def K169:List (Nat×Nat×List (Nat×List Nat)):=[(169,6,[(0,[0]),(1,[2])])]
noncomputable def B169:Base:=baseOf Pz (fun f i=>lkC f i K169) [(130,G130)] [] []
theorem hB169:BOk B169:=base_ok named_z ⟨s130,trivial⟩ trivial trivial
noncomputable def N169 (a:Int):Int:=(wr .i64 (-30 * N130 a))
noncomputable def ok169 (a:Int):Bool:=true
theorem P169 (a:Int) (h:ok169 a=true):PS Pz 169 [.int .i64 a] ((dI .i64).res (N169 a)):=ps_sum (n:=14) hB169 (by kernel_rfl) (by kernel_rfl) (by kernel_rfl) h
noncomputable def G169:List AV→Tr AV:=g1 (dI .i64) (fun a=>.ret ((dI .i64).res (N169 a)))
theorem s169:Sound Pz 169 G169:=sound1 fun a=>at_rt (P169 a rfl)
noncomputable def K168:List (Nat×Nat×List (Nat×List Nat)):=[(166,16,[(0,[1,2,3]),(1,[2,7]),(2,[2,7,12]),(3,[6]),(4,[6])]),(168,8,[(0,[1,2]),(1,[4])])]
noncomputable def B168:Base:=baseOf Pz (fun f i=>lkC f i K168) [(78,G78),(169,G169)] [] []
theorem hB168:BOk B168:=base_ok named_z ⟨s78,s169,trivial⟩ trivial trivial
noncomputable def N168 (a:Pos) (b:Int):Int:=(bif decide (N78 a b 6 < 0) then (0) else (N169 (N78 a b 6)))
noncomputable def ok168 (a:Pos) (b:Int):Bool:=(ok78 (a) (b) (6)&&true)
theorem P168 (a:Pos) (b:Int) (h:ok168 a b=true):PS Pz 168 [Pos.av a,.int .u8 b] ((dI .i64).res (N168 a b)):=ps_sum (n:=14) hB168 (by kernel_rfl) (by kernel_rfl) (by kernel_rfl) h
noncomputable def G168:List AV→Tr AV:=g2 dPos (dI .u8) (fun a b=>gdv (ok168 a b) ((dI .i64).res (N168 a b)))
theorem s168:Sound Pz 168 G168:=sound2 fun a b=>at_gd (P168 a b)
noncomputable def K170:List (Nat×Nat×List (Nat×List Nat)):=[(170,11,[(0,[1,2]),(1,[4])])]
noncomputable def B170:Base:=baseOf Pz (fun f i=>lkC f i K170) [] [] []
theorem hB170:BOk B170:=base_ok named_z trivial trivial trivial
noncomputable def N170 (a:Pos) (b:Int):Int:=(wr .i64 (150 * wr .i64 (a.checks.getD (scale 1 b).toNat 0)))
noncomputable def ok170 (a:Pos) (b:Int):Bool:=(decide (0≤b)&&decide (b < Int.ofNat 2)&&true)
theorem P170 (a:Pos) (b:Int) (h:ok170 a b=true):PS Pz 170 [Pos.av a,.int .u8 b] ((dI .i64).res (N170 a b)):=ps_sum (n:=14) hB170 (by kernel_rfl) (by kernel_rfl) (by kernel_rfl) h
noncomputable def G170:List AV→Tr AV:=g2 dPos (dI .u8) (fun a b=>gdv (ok170 a b) ((dI .i64).res (N170 a b)))
theorem s170:Sound Pz 170 G170:=sound2 fun a b=>at_gd (P170 a b)
noncomputable def K190:List (Nat×Nat×List (Nat×List Nat)):=[(190,5,[(0,[0]),(1,[2])])]
noncomputable def B190:Base:=baseOf Pz (fun f i=>lkC f i K190) [(177,G177)] [] []
theorem hB190:BOk B190:=base_ok named_z ⟨s177,trivial⟩ trivial trivial
noncomputable def N190 (a:BitVec 64):Int:=(N177 a)
noncomputable def ok190 (a:BitVec 64):Bool:=true
theorem P190 (a:BitVec 64) (h:ok190 a=true):PS Pz 190 [.u64 a] ((dI .i64).res (N190 a)):=ps_sum (n:=14) hB190 (by kernel_rfl) (by kernel_rfl) (by kernel_rfl) h
noncomputable def G190:List AV→Tr AV:=g1 dU (fun a=>.ret ((dI .i64).res (N190 a)))
theorem s190:Sound Pz 190 G190:=sound1 fun a=>at_rt (P190 a rfl)
noncomputable def K172:List (Nat×Nat×List (Nat×List Nat)):=[(172,12,[(0,[1,2,3]),(1,[6])])]
noncomputable def B172:Base:=baseOf Pz (fun f i=>lkC f i K172) [(80,G80),(190,G190)] [] []
theorem hB172:BOk B172:=base_ok named_z ⟨s80,s190,trivial⟩ trivial trivial
noncomputable def N172 (a:Pos) (b:Int) (c:Int):Int:=(N190 (N80 a b c))
noncomputable def ok172 (a:Pos) (b:Int) (c:Int):Bool:=(ok80 (a) (b) (c)&&true)
theorem P172 (a:Pos) (b:Int) (c:Int) (h:ok172 a b c=true):PS Pz 172 [Pos.av a,.int .u8 b,.int .u8 c] ((dI .i64).res (N172 a b c)):=ps_sum (n:=14) hB172 (by kernel_rfl) (by kernel_rfl) (by kernel_rfl) h
noncomputable def G172:List AV→Tr AV:=g3 dPos (dI .u8) (dI .u8) (fun a b c=>gdv (ok172 a b c) ((dI .i64).res (N172 a b c)))
theorem s172:Sound Pz 172 G172:=sound3 fun a b c=>at_gd (P172 a b c)
noncomputable def K171:List (Nat×Nat×List (Nat×List Nat)):=[(171,9,[(0,[1,2]),(1,[4])])]
noncomputable def B171:Base:=baseOf Pz (fun f i=>lkC f i K171) [(172,G172)] [] []
theorem hB171:BOk B171:=base_ok named_z ⟨s172,trivial⟩ trivial trivial
noncomputable def N171 (a:Pos) (b:Int):Int:=(wr .i64 (200 * N172 a b 6))
noncomputable def ok171 (a:Pos) (b:Int):Bool:=(ok172 (a) (b) (6)&&true)
theorem P171 (a:Pos) (b:Int) (h:ok171 a b=true):PS Pz 171 [Pos.av a,.int .u8 b] ((dI .i64).res (N171 a b)):=ps_sum (n:=14) hB171 (by kernel_rfl) (by kernel_rfl) (by kernel_rfl) h
noncomputable def G171:List AV→Tr AV:=g2 dPos (dI .u8) (fun a b=>gdv (ok171 a b) ((dI .i64).res (N171 a b)))
theorem s171:Sound Pz 171 G171:=sound2 fun a b=>at_gd (P171 a b)
noncomputable def K84:List (Nat×Nat×List (Nat×List Nat)):=[(84,77,[(0,[1,2]),(1,[1,2,15]),(2,[4]),(3,[1,2,5]),(4,[1,2,5,6]),(5,[1,2,5,6,17]),(6,[1,2,5,6]),(7,[1,2,5,6,24,25,26]),(8,(1::2::5::6::(rn 24 4 []))),(9,[1,2,5,6,8,24,25,26]),(10,[1,2,5,6,8,24,25,26]),(11,[1,2,5,6,8,24,25,26,39]),(12,[1,2,5,6,24,25,26]),(13,[1,2,5,6,24,25,26]),(14,[1,2,5,57,58,59]),(15,(1::2::5::(rn 57 4 []))),(16,[1,2,5,10,57,58,59]),(17,[1,2,5,10,57,58,59,67]),(18,[1,2,5,57,58,59]),(19,[1,2,5,57,58,59]),(20,[4])])]
noncomputable def B84_1:Base:=baseOf Pz (fun f i=>lkC f i K84) [(83,G83),(75,G75),(80,G80),(129,G129),(130,G130),(131,G131),(164,G164),(165,G165),(168,G168),(170,G170),(171,G171)] [] []
theorem hB84_1:BOk B84_1:=base_ok named_z ⟨s83,s75,s80,s129,s130,s131,s164,s165,s168,s170,s171,trivial⟩ trivial trivial
noncomputable def S84_1 (p1:Int) (p2:Int) (p3:(List Int)) (p4:Int) (p5:Pos) (x:(Int×Int)):St:=St.mk (AV.any::AV.int .u8 p1::AV.ptr 0 0::AV.any::AV.any::AV.int .i64 x.fst::AV.int .u8 p2::(an 17 (AV.list (ET.i .i64) p3 Tk.fresh::AV.int .i64 p4::AV.int .i64 x.snd::(an 50 [])))) (Hp.mk [(pc p5 [])] [] [] 0 0 0)
noncomputable def O84_1 (p1:Int) (p2:Int) (p3:(List Int)) (p4:Int) (p5:Pos):(Int×Int×Bool)→Out:=fun y=>.exit 2 (St.mk (AV.any::AV.int .u8 p1::AV.ptr 0 0::AV.any::AV.any::AV.int .i64 y.fst::AV.int .u8 p2::(an 17 (AV.list (ET.i .i64) p3 Tk.fresh::AV.int .i64 p4::AV.int .i64 y.snd.fst::AV.bool y.snd.snd::(an 49 [])))) (Hp.mk [(pc p5 [])] [] [] 0 0 0))
noncomputable def st84_1 (p1:Int) (p2:Int) (p3:(List Int)) (p4:Int) (p5:Pos) (x:(Int×Int)):Stp (Int×Int) ((Int×Int×Bool)):=(bif decide (x.snd < p4) then (bif p2==1 then (Stp.go (wr .i64 (wr .i64 (x.fst+wr .i64 (N129 p2 - wr .i64 (4 * N130 (p3.getD x.snd.toNat default))))+wr .i64 (6 * if wr .i64 (wr .i64 (7 * wr .i64 p1) - wr .i64 (Int.tdiv (p3.getD x.snd.toNat default) 8)) > wr .i64 (wr .i64 (Int.tdiv (p3.getD x.snd.toNat default) 8) - wr .i64 (7 * wr .i64 p1)) then wr .i64 (wr .i64 (7 * wr .i64 p1) - wr .i64 (Int.tdiv (p3.getD x.snd.toNat default) 8)) else wr .i64 (wr .i64 (Int.tdiv (p3.getD x.snd.toNat default) 8) - wr .i64 (7 * wr .i64 p1)))),wr .i64 (x.snd+1))) else (Stp.go (wr .i64 (x.fst+wr .i64 (N129 p2 - wr .i64 (4 * N130 (p3.getD x.snd.toNat default)))),wr .i64 (x.snd+1)))) else (Stp.out ((x.fst,x.snd,decide (x.snd < p4)))))
noncomputable def okL84_1 (p1:Int) (p2:Int) (p3:(List Int)) (p4:Int) (p5:Pos) (x:(Int×Int)):Bool:=(bif decide (x.snd < p4) then (decide (0≤x.snd)&&decide (x.snd < Int.ofNat p3.length)&&(ok129 (p2)&&true)) else true)
noncomputable def lp84_1 (p1:Int) (p2:Int) (p3:(List Int)) (p4:Int) (p5:Pos) (x:(Int×Int)):Option ((Int×Int×Bool)):=itl (fun x=>bif okL84_1 p1 p2 p3 p4 p5 x then st84_1 p1 p2 p3 p4 p5 x else .bad) many x
abbrev D84_1 {α:Type} (k:Int→Int→(List Int)→Int→Pos→(Int×Int)→α) (s:St):α:=wP s 0 fun q0=>k (tI (tT s 1)) (tI (tT s 6)) (tL (ET.i .i64) (tT s 24)) (tI (tT s 25)) q0 ((tI (tT s 5)),(tI (tT s 26)))
theorem L84_1 (p1:Int) (p2:Int) (p3:(List Int)) (p4:Int) (p5:Pos) (x:(Int×Int)) (r:(Int×Int×Bool)) (h:lp84_1 p1 p2 p3 p4 p5 x=some r):LSpec Pz (bodL Pz 84 8) (S84_1 p1 p2 p3 p4 p5 x) (O84_1 p1 p2 p3 p4 p5 r):=LSpec.smd (m:=12) (fn:=84) hB84_1 (D84_1 fun _ _ _ _ _ x=>some x) (fun o=>match o with | .exit 2 s=>some ((tI (tT s 5)),(tI (tT s 26)),(tB (tT s 27))) | _=>none) (fun _=>rfl) (fun _=>by kernel_rfl) (fun _=>by kernel_rfl) (fun _=>by kernel_rfl) (fun _=>by kernel_rfl) many x r h
noncomputable def F84_1 (b:Code) (s:St):Tr Out:=D84_1 (fun p1 p2 p3 p4 p5 x=>lk1 b (bodL Pz 84 8) s (S84_1 p1 p2 p3 p4 p5 x) (lp84_1 p1 p2 p3 p4 p5 x) (O84_1 p1 p2 p3 p4 p5)) s
theorem sF84_1:∀ b,LSound Pz b (F84_1 b):=fun _ _ _ h=>lk1_ok (L84_1 _ _ _ _ _ _) h
noncomputable def B84_2:Base:=baseOf Pz (fun f i=>lkC f i K84) [(83,G83),(75,G75),(80,G80),(129,G129),(130,G130),(131,G131),(164,G164),(165,G165),(168,G168),(170,G170),(171,G171)] [(84,8,F84_1)] []
theorem hB84_2:BOk B84_2:=base_ok named_z ⟨s83,s75,s80,s129,s130,s131,s164,s165,s168,s170,s171,trivial⟩ ⟨sF84_1,trivial⟩ trivial
noncomputable def S84_2 (p1:Int) (p2:Pos) (x:(Int×Int)):St:=St.mk (AV.any::AV.int .u8 p1::AV.ptr 0 0::AV.any::AV.any::AV.int .i64 x.fst::AV.int .u8 x.snd::(an 70 [])) (Hp.mk [(pc p2 [])] [] [] 0 0 0)
noncomputable def O84_2 (p1:Int) (p2:Pos):(Int×Int×Bool)→Out:=fun y=>.exit 0 (St.mk (AV.any::AV.int .u8 p1::AV.ptr 0 0::AV.any::AV.any::AV.int .i64 y.fst::AV.int .u8 y.snd.fst::(an 10 (AV.bool y.snd.snd::(an 59 [])))) (Hp.mk [(pc p2 [])] [] [] 0 0 0))
noncomputable def st84_2 (p1:Int) (p2:Pos) (x:(Int×Int)):Stp (Int×Int) ((Int×Int×Bool)):=(bif decide (x.snd≤6) then (Stp.go (((lp84_1 p1 x.snd (N75 (N80 p2 p1 x.snd)) (Int.ofNat (N75 (N80 p2 p1 x.snd)).length) p2 (x.fst,0)).getD default).fst,wr .u8 (x.snd+1))) else (Stp.out ((x.fst,x.snd,decide (x.snd≤6)))))
noncomputable def okL84_2 (p1:Int) (p2:Pos) (x:(Int×Int)):Bool:=(bif decide (x.snd≤6) then (ok80 (p2) (p1) (x.snd)&&(ok75 (N80 p2 p1 x.snd)&&((lp84_1 p1 x.snd (N75 (N80 p2 p1 x.snd)) (Int.ofNat (N75 (N80 p2 p1 x.snd)).length) p2 (x.fst,0)).isSome&&true))) else true)
noncomputable def lp84_2 (p1:Int) (p2:Pos) (x:(Int×Int)):Option ((Int×Int×Bool)):=itl (fun x=>bif okL84_2 p1 p2 x then st84_2 p1 p2 x else .bad) many x
abbrev D84_2 {α:Type} (k:Int→Pos→(Int×Int)→α) (s:St):α:=wP s 0 fun q0=>k (tI (tT s 1)) q0 ((tI (tT s 5)),(tI (tT s 6)))
theorem L84_2 (p1:Int) (p2:Pos) (x:(Int×Int)) (r:(Int×Int×Bool)) (h:lp84_2 p1 p2 x=some r):LSpec Pz (bodL Pz 84 5) (S84_2 p1 p2 x) (O84_2 p1 p2 r):=LSpec.smd (m:=12) (fn:=84) hB84_2 (D84_2 fun _ _ x=>some x) (fun o=>match o with | .exit 0 s=>some ((tI (tT s 5)),(tI (tT s 6)),(tB (tT s 17))) | _=>none) (fun _=>rfl) (fun _=>by kernel_rfl) (fun _=>by kernel_rfl) (fun _=>by kernel_rfl) (fun _=>by kernel_rfl) many x r h
noncomputable def F84_2 (b:Code) (s:St):Tr Out:=D84_2 (fun p1 p2 x=>lk1 b (bodL Pz 84 5) s (S84_2 p1 p2 x) (lp84_2 p1 p2 x) (O84_2 p1 p2)) s
theorem sF84_2:∀ b,LSound Pz b (F84_2 b):=fun _ _ _ h=>lk1_ok (L84_2 _ _ _) h
noncomputable def B84_3:Base:=baseOf Pz (fun f i=>lkC f i K84) [(83,G83),(75,G75),(80,G80),(129,G129),(130,G130),(131,G131),(164,G164),(165,G165),(168,G168),(170,G170),(171,G171)] [(84,8,F84_1),(84,5,F84_2)] []
theorem hB84_3:BOk B84_3:=base_ok named_z ⟨s83,s75,s80,s129,s130,s131,s164,s165,s168,s170,s171,trivial⟩ ⟨sF84_1,sF84_2,trivial⟩ trivial
noncomputable def S84_3 (p1:Int) (p2:Pos) (x:(Int×Int)):St:=St.mk (AV.any::AV.int .u8 p1::AV.ptr 0 0::AV.any::AV.any::AV.int .i64 x.fst::(an 51 (AV.vlist true [AV.agg [AV.cint .u8 2,AV.func 164 [] []],AV.agg [AV.cint .u8 8,AV.func 165 [] []],AV.agg [AV.cint .u8 6,AV.func 168 [] []],AV.agg [AV.cint .u8 5,AV.func 170 [] []],AV.agg [AV.cint .u8 4,AV.func 171 [] []]]::AV.cint .i64 (Int.ofNat 5)::AV.int .i64 x.snd::(an 17 [])))) (Hp.mk [(pc p2 [])] [] [] 0 0 0)
noncomputable def O84_3 (p1:Int) (p2:Pos):(Int×Int×Bool)→Out:=fun y=>.exit 4 (St.mk (AV.any::AV.int .u8 p1::AV.ptr 0 0::AV.any::AV.any::AV.int .i64 y.fst::(an 51 (AV.vlist true [AV.agg [AV.cint .u8 2,AV.func 164 [] []],AV.agg [AV.cint .u8 8,AV.func 165 [] []],AV.agg [AV.cint .u8 6,AV.func 168 [] []],AV.agg [AV.cint .u8 5,AV.func 170 [] []],AV.agg [AV.cint .u8 4,AV.func 171 [] []]]::AV.cint .i64 (Int.ofNat 5)::AV.int .i64 y.snd.fst::AV.bool y.snd.snd::(an 16 [])))) (Hp.mk [(pc p2 [])] [] [] 0 0 0))
noncomputable def st84_3 (p1:Int) (p2:Pos) (x:(Int×Int)):Stp (Int×Int) ((Int×Int×Bool)):=(bif decide (x.snd < Int.ofNat 5) then (bif x.snd==Int.ofNat 0 then (bif 2==p2.variant then (Stp.go (wr .i64 (x.fst+N164 p2 p1),wr .i64 (x.snd+1))) else (Stp.go (x.fst,wr .i64 (x.snd+1)))) else (bif x.snd==Int.ofNat 1 then (bif 8==p2.variant then (Stp.go (wr .i64 (x.fst+N165 p2 p1),wr .i64 (x.snd+1))) else (Stp.go (x.fst,wr .i64 (x.snd+1)))) else (bif x.snd==Int.ofNat 2 then (bif 6==p2.variant then (Stp.go (wr .i64 (x.fst+N168 p2 p1),wr .i64 (x.snd+1))) else (Stp.go (x.fst,wr .i64 (x.snd+1)))) else (bif x.snd==Int.ofNat 3 then (bif 5==p2.variant then (Stp.go (wr .i64 (x.fst+N170 p2 p1),wr .i64 (x.snd+1))) else (Stp.go (x.fst,wr .i64 (x.snd+1)))) else (bif 4==p2.variant then (Stp.go (wr .i64 (x.fst+N171 p2 p1),wr .i64 (x.snd+1))) else (Stp.go (x.fst,wr .i64 (x.snd+1)))))))) else (Stp.out ((x.fst,x.snd,decide (x.snd < Int.ofNat 5)))))
noncomputable def okL84_3 (p1:Int) (p2:Pos) (x:(Int×Int)):Bool:=(bif decide (x.snd < Int.ofNat 5) then (decide (0≤x.snd)&&decide (x.snd < Int.ofNat 5)&&(bif x.snd==Int.ofNat 0 then (bif 2==p2.variant then (ok164 (p2) (p1)&&true) else true) else (bif x.snd==Int.ofNat 1 then (bif 8==p2.variant then (ok165 (p2) (p1)&&true) else true) else (bif x.snd==Int.ofNat 2 then (bif 6==p2.variant then (ok168 (p2) (p1)&&true) else true) else (bif x.snd==Int.ofNat 3 then (bif 5==p2.variant then (ok170 (p2) (p1)&&true) else true) else (x.snd==Int.ofNat 4&&(bif 4==p2.variant then (ok171 (p2) (p1)&&true) else true))))))) else true)
noncomputable def lp84_3 (p1:Int) (p2:Pos) (x:(Int×Int)):Option ((Int×Int×Bool)):=itl (fun x=>bif okL84_3 p1 p2 x then st84_3 p1 p2 x else .bad) many x
abbrev D84_3 {α:Type} (k:Int→Pos→(Int×Int)→α) (s:St):α:=wP s 0 fun q0=>k (tI (tT s 1)) q0 ((tI (tT s 5)),(tI (tT s 59)))
theorem L84_3 (p1:Int) (p2:Pos) (x:(Int×Int)) (r:(Int×Int×Bool)) (h:lp84_3 p1 p2 x=some r):LSpec Pz (bodL Pz 84 15) (S84_3 p1 p2 x) (O84_3 p1 p2 r):=LSpec.smd (m:=12) (fn:=84) hB84_3 (D84_3 fun _ _ x=>some x) (fun o=>match o with | .exit 4 s=>some ((tI (tT s 5)),(tI (tT s 59)),(tB (tT s 60))) | _=>none) (fun _=>rfl) (fun _=>by kernel_rfl) (fun _=>by kernel_rfl) (fun _=>by kernel_rfl) (fun _=>by kernel_rfl) many x r h
noncomputable def F84_3 (b:Code) (s:St):Tr Out:=D84_3 (fun p1 p2 x=>lk1 b (bodL Pz 84 15) s (S84_3 p1 p2 x) (lp84_3 p1 p2 x) (O84_3 p1 p2)) s
theorem sF84_3:∀ b,LSound Pz b (F84_3 b):=fun _ _ _ h=>lk1_ok (L84_3 _ _ _) h
noncomputable def B84:Base:=baseOf Pz (fun f i=>lkC f i K84) [(83,G83),(75,G75),(80,G80),(129,G129),(130,G130),(131,G131),(164,G164),(165,G165),(168,G168),(170,G170),(171,G171)] [(84,8,F84_1),(84,5,F84_2),(84,15,F84_3)] []
theorem hB84:BOk B84:=base_ok named_z ⟨s83,s75,s80,s129,s130,s131,s164,s165,s168,s170,s171,trivial⟩ ⟨sF84_1,sF84_2,sF84_3,trivial⟩ trivial
noncomputable def N84 (a:Pos) (b:Int):Int:=(bif !N83 a.variant b then (0) else (((lp84_3 b a (((lp84_2 b a (0,1)).getD default).fst,0)).getD default).fst))
noncomputable def ok84 (a:Pos) (b:Int):Bool:=(ok83 (a.variant) (b)&&(bif !N83 a.variant b then true else ((lp84_2 b a (0,1)).isSome&&((lp84_3 b a (((lp84_2 b a (0,1)).getD default).fst,0)).isSome&&true))))
theorem P84 (a:Pos) (b:Int) (h:ok84 a b=true):PS Pz 84 [Pos.av a,.int .u8 b] ((dI .i64).res (N84 a b)):=ps_sum (n:=14) hB84 (by kernel_rfl) (by kernel_rfl) (by kernel_rfl) h
noncomputable def G84:List AV→Tr AV:=g2 dPos (dI .u8) (fun a b=>gdv (ok84 a b) ((dI .i64).res (N84 a b)))
theorem s84:Sound Pz 84 G84:=sound2 fun a b=>at_gd (P84 a b)
noncomputable def B38:Base:=baseOf Pz (fun _ _=>[]) [(83,G83),(84,G84)] [] []
theorem hB38:BOk B38:=base_ok named_z ⟨s83,s84,trivial⟩ trivial trivial
noncomputable def N38 (a:Pos):Int:=(evPure B38 14 38 [Pos.av a]).vt (dI .i64).dec
noncomputable def ok38 (a:Pos):Bool:=((evPure B38 14 38 [Pos.av a]).qt (dI .i64).dec).val
theorem P38a (a:Pos):(evPure B38 14 38 [Pos.av a]).obl.map ob1=(evPure B38 14 38 [Pos.av a]).obl.map ob2:=by kernel_rfl
theorem P38b (a:Pos):((evPure B38 14 38 [Pos.av a]).qt (dI .i64).dec).val=ok38 a:=by kernel_rfl
theorem P38c (a:Pos):(evPure B38 14 38 [Pos.av a]).vt (dI .i64).dec=N38 a:=by kernel_rfl
theorem P38 (a:Pos) (h:ok38 a=true):PS Pz 38 [Pos.av a] ((dI .i64).res (N38 a)) := @ps_sum B38 hB38 14 38 [Pos.av a] Int _ (dI .i64) (ok38 a) (N38 a) (P38b a) (P38c a) (P38a a) h
end Kz
end
section
namespace Go.Proofs
open Go.Shelf Go.RowKit Go.Lib Go.Sort
set_option maxRecDepth 100000
theorem new_some (n:Int) (h1:1≤n) (h2:n≤4096) (w:World):Calls Tryz.prog 44 #[.int .i64 n] w fun e w'=>e=.returned (.tuple #[.pointer (some ⟨w.heap.size+1,0,none⟩),.int .i64 0])∧w'=(w.alloc (.map #[] 0)).alloc (.cells #[.int .i64 n,.map (some w.heap.size)] 84):=by
  have hrun:=run_makeMap_plain (P:=Tryz.prog) (w:=w) 82
  have e1:¬ n < 1:=by omega
  have e2:¬ 4096 < n:=by omega
  go_enter Tryz.func44,Tryz.ntmps44
  go_wp2
  go_ret2
  exact ⟨rfl,rfl⟩
theorem new_none (n:Int) (h:n < 1∨4096 < n) (w:World):Calls Tryz.prog 44 #[.int .i64 n] w fun e w'=>e=.returned (.tuple #[.pointer none,.int .i64 2])∧w'=w:=by
  go_enter Tryz.func44,Tryz.ntmps44
  rcases h with h | h
  · go_wp2
    go_ret2
    exact ⟨rfl,rfl⟩
  · have e1:¬ n < 1:=by omega
    go_wp2
    go_ret2
    exact ⟨rfl,rfl⟩
end Go.Proofs
namespace Kz
open Go Go.RowKit Go.Proofs
set_option maxRecDepth 100000
def GNew (n:Int):Tr AV:=bif decide (1≤n)&&decide (n≤4096) then .ret (.tuple [.ptrf (.int .i64 n),.cint .i64 0]) else .ret (.tuple [.nilptr,.cint .i64 2])
theorem bodyNew:∃ fn,Pz.funcs[44]?=some fn∧fn.body.isSome=true:=by
  have h:(match Pz.funcs[44]? with
    | some fn=>fn.body.isSome
    | none=>false)=true:=by kernel_rfl
  split at h
  · rename_i fn hf
    exact ⟨fn,hf,h⟩
  · cases h
theorem atNew (n:Int):At0 Pz 44 [.int .i64 n] (GNew n):=by
  intro u hu
  unfold GNew at hu
  refine ⟨fun w vals _ hr => ?_,bodyNew⟩
  obtain ⟨vals⟩:=vals
  cases hr with
  | cons q1 r1 =>
  cases r1
  cases q1
  refine callsIn_wide.2 ?_
  cases hb:decide (1≤n)&&decide (n≤4096) with
  | true =>
    rw [hb] at hu
    simp only [cond_true,get_ret,Option.some.injEq] at hu
    subst hu
    simp only [Bool.and_eq_true,decide_eq_true_eq] at hb
    refine (new_some n hb.1 hb.2 w).mono ?_
    rintro e w' ⟨rfl,rfl⟩
    refine ⟨_,rfl,((Below.refl _ w).alloc (Nat.le_refl _) _).alloc (by simp) _,.tuple (.cons (.ptrf (cs:=[.int .i64 n]) (.one rfl (.int _ _) .nil) ?_) (.cons (.cint _ _) .nil))⟩
    intro j x hj
    cases j with
    | zero =>
      simp only [List.getElem?_cons_zero,Option.some.injEq] at hj
      subst hj
      refine ⟨?_,?_⟩
      · have e:∀ (a b:Obj),((w.alloc a).alloc b).heap[w.heap.size+1]?=some b:=fun a b=>by
          have h0:(w.alloc a).heap.size=w.heap.size+1:=by simp
          have h1:=Array.getElem?_push_size (xs:=(w.alloc a).heap) (x:=b)
          rw [h0] at h1
          exact h1
        simp only [World.cell?,e]
        rfl
      · show w.heap.size≤w.heap.size+1∧w.heap.size+1 < _
        simp
    | succ j=>simp at hj
  | false =>
    rw [hb] at hu
    simp only [cond_false,get_ret,Option.some.injEq] at hu
    subst hu
    have h:n < 1∨4096 < n:=by
      simp only [Bool.and_eq_false_iff,decide_eq_false_iff_not] at hb
      omega
    refine (new_none n h w).mono ?_
    rintro e w' ⟨rfl,rfl⟩
    exact ⟨_,rfl,Below.refl _ _,.tuple (.cons .nilptr (.cons (.cint _ _) .nil))⟩
end Kz
end
section
namespace Kz
open Go Go.RowKit Go.Proofs
set_option maxRecDepth 100000
def pS:Pos:=⟨0,[4,2,3,5,6,3,2,4]++List.replicate 8 1++List.replicate 32 0++List.replicate 8 9++[12,10,11,13,14,11,10,12],0,List.replicate 12 0,0,[7,0,7,0],-1,[0,0],0,1⟩
def pA:Pos:=⟨0,(((List.replicate 64 (0:Int)).set 45 6).set 48 5).set 63 14,0,List.replicate 12 0,0,List.replicate 4 0,-1,[0,0],0,1⟩
def LA:List Mv:=([(45,36),(45,37),(45,38),(45,44),(45,46),(45,52),(45,53),(48,0),(48,6),(48,8),(48,13),(48,16),(48,20),(48,24),(48,27),(48,32),(48,34),(48,40),(48,41),(48,49),(48,50),(48,51),(48,52),(48,53),(48,54),(48,55),(48,56),(48,57)]:List (Int×Int)).map fun x=>⟨x.1,x.2,0,0,false⟩
def RA:List (Int×Int):=List.replicate 23 (0,0)++[(3,2),(1,1),(0,0),(0,0),(0,0)]
def EA:List (Bool×Int):=([-900,-896,-892,-896,-892,-892,-892,-896,-896,-896,-900,-896,-904,-896,-908,-896,-904,-896,-900,-900,-900,-900,-900,-900,-900,-896,-896,-896]:List Int).map fun e=>(true,e)
def chL (m:Mv):Pos:=⟨0,(pA.board.set m.frm.toNat 0).set m.to.toNat (bif m.frm==45 then 6 else 5),0,List.replicate 12 0,1,List.replicate 4 (-1),-1,[0,0],1,1⟩
theorem LA_ok:N14 pA=LA:=by kernel_rfl
theorem p0A:N23 pA=(0,0):=by kernel_rfl
theorem p0S:N23 pS=(0,0):=by kernel_rfl
theorem e0S:(ok38 pS,N38 pS)=(true,0):=by kernel_rfl
theorem cut5 {α:Type} (l:List α) (h:l.length=28):l=(l.drop 0).take 6++((l.drop 6).take 6++((l.drop 12).take 5++((l.drop 17).take 6++(l.drop 23).take 5))):=by
  have e:∀ (a b:Nat),l.drop a=(l.drop a).take b++l.drop (a+b):=fun a b=>by rw [← List.drop_drop,List.take_append_drop]
  have k:(l.drop 23).take 5=l.drop 23:=List.take_of_length_le (by simp; omega)
  rw [k,← e 17 6,← e 12 5,← e 6 6,← e 0 6,List.drop_zero]
theorem by5 {α β:Type} (f:α→β) (l:List α) (r:List β) (hl:l.length=28) (hr:r.length=28) (h1:((l.drop 0).take 6).map f=(r.drop 0).take 6) (h2:((l.drop 6).take 6).map f=(r.drop 6).take 6) (h3:((l.drop 12).take 5).map f=(r.drop 12).take 5) (h4:((l.drop 17).take 6).map f=(r.drop 17).take 6) (h5:((l.drop 23).take 5).map f=(r.drop 23).take 5):l.map f=r:=by
  rw [cut5 l hl,cut5 r hr]
  simp only [List.map_append,h1,h2,h3,h4,h5]
theorem CA1:((LA.drop 0).take 6).map (fun m=>N15 pA m)=((LA.map fun m=>(chL m,true)).drop 0).take 6:=by kernel_rfl
theorem CA2:((LA.drop 6).take 6).map (fun m=>N15 pA m)=((LA.map fun m=>(chL m,true)).drop 6).take 6:=by kernel_rfl
theorem CA3:((LA.drop 12).take 5).map (fun m=>N15 pA m)=((LA.map fun m=>(chL m,true)).drop 12).take 5:=by kernel_rfl
theorem CA4:((LA.drop 17).take 6).map (fun m=>N15 pA m)=((LA.map fun m=>(chL m,true)).drop 17).take 6:=by kernel_rfl
theorem CA5:((LA.drop 23).take 5).map (fun m=>N15 pA m)=((LA.map fun m=>(chL m,true)).drop 23).take 5:=by kernel_rfl
theorem RA1:((LA.drop 0).take 6).map (fun m=>N23 (chL m))=(RA.drop 0).take 6:=by kernel_rfl
theorem RA2:((LA.drop 6).take 6).map (fun m=>N23 (chL m))=(RA.drop 6).take 6:=by kernel_rfl
theorem RA3:((LA.drop 12).take 5).map (fun m=>N23 (chL m))=(RA.drop 12).take 5:=by kernel_rfl
theorem RA4:((LA.drop 17).take 6).map (fun m=>N23 (chL m))=(RA.drop 17).take 6:=by kernel_rfl
theorem RA5:((LA.drop 23).take 5).map (fun m=>N23 (chL m))=(RA.drop 23).take 5:=by kernel_rfl
theorem EA1:((LA.drop 0).take 6).map (fun m=>(ok38 (chL m),N38 (chL m)))=(EA.drop 0).take 6:=by kernel_rfl
theorem EA2:((LA.drop 6).take 6).map (fun m=>(ok38 (chL m),N38 (chL m)))=(EA.drop 6).take 6:=by kernel_rfl
theorem EA3:((LA.drop 12).take 5).map (fun m=>(ok38 (chL m),N38 (chL m)))=(EA.drop 12).take 5:=by kernel_rfl
theorem EA4:((LA.drop 17).take 6).map (fun m=>(ok38 (chL m),N38 (chL m)))=(EA.drop 17).take 6:=by kernel_rfl
theorem EA5:((LA.drop 23).take 5).map (fun m=>(ok38 (chL m),N38 (chL m)))=(EA.drop 23).take 5:=by kernel_rfl
theorem CA_ok:LA.map (fun m=>N15 pA m)=LA.map fun m=>(chL m,true):=by5 _ _ _ rfl rfl CA1 CA2 CA3 CA4 CA5
theorem RA_ok:LA.map (fun m=>N23 (chL m))=RA:=by5 _ _ _ rfl rfl RA1 RA2 RA3 RA4 RA5
theorem EA_ok:LA.map (fun m=>(ok38 (chL m),N38 (chL m)))=EA:=by5 _ _ _ rfl rfl EA1 EA2 EA3 EA4 EA5
theorem zip_ok {β:Type} (f:Pos→β) (r:List β) (h:LA.map (fun m=>f (chL m))=r):∀ x ∈ (LA.map chL).zip r,f x.1=x.2:=by
  intro x hx
  obtain ⟨i,hi⟩:=List.mem_iff_getElem?.1 hx
  rw [List.getElem?_zip_eq_some] at hi
  have:=congrArg (fun l=>l[i]?) h
  simp only [List.getElem?_map,hi.2] at this hi
  cases hl:LA[i]? with
  | none=>rw [hl] at this; cases this
  | some m =>
    rw [hl] at this hi
    simp only [Option.map_some,Option.some.injEq] at this hi
    rw [← hi.1,this]
def TA:List (Pos×Int×Int):=(pA,0,0)::(pS,0,0)::(LA.map chL).zip RA
def TE:List (Pos×Bool×Int):=(pS,true,0)::(LA.map chL).zip EA
theorem TA_ok:∀ x ∈ TA,N23 x.1=x.2:=by
  intro x hx
  rcases List.mem_cons.1 hx with rfl | hx
  · exact p0A
  rcases List.mem_cons.1 hx with rfl | hx
  · exact p0S
  · exact zip_ok (fun p=>N23 p) RA RA_ok x hx
theorem TE_ok:∀ x ∈ TE,(ok38 x.1,N38 x.1)=x.2:=by
  intro x hx
  rcases List.mem_cons.1 hx with rfl | hx
  · exact e0S
  · exact zip_ok (fun p=>(ok38 p,N38 p)) EA EA_ok x hx
def eqP (p q:Pos):Bool:=p.board==q.board&&(p.turn==q.turn&&(p.passing==q.passing&&(p.half==q.half&&(p.full==q.full&&(p.variant==q.variant&&(p.promoted==q.promoted&&(p.pockets==q.pockets&&(p.rooks==q.rooks&&p.checks==q.checks))))))))
theorem eqP_eq {p q:Pos} (h:eqP p q=true):p=q:=by
  unfold eqP at h
  simp only [Bool.and_eq_true,beq_iff_eq] at h
  obtain ⟨h1,h2,h3,h4,h5,h6,h7,h8,h9,h0⟩:=h
  cases p; cases q
  simp only at *
  subst_vars
  rfl
def eqM (m b:Mv):Bool:=m.frm==b.frm&&(m.to==b.to&&(m.pro==b.pro&&(m.drp==b.drp&&m.cas==b.cas)))
theorem eqM_eq {p q:Mv} (h:eqM p q=true):p=q:=by
  unfold eqM at h
  simp only [Bool.and_eq_true,beq_iff_eq] at h
  obtain ⟨h1,h2,h3,h4,h5⟩:=h
  cases p; cases q
  simp only at *
  subst_vars
  rfl
def find {β:Type} (p:Pos):List (Pos×β)→Option β
  | []=>none
  | x::l=>match eqP x.1 p with
    | true=>some x.2
    | false=>find p l
theorem find_mem {β:Type} {p:Pos} {r:β}:∀ {l:List (Pos×β)},find p l=some r→(p,r) ∈ l
  | x::l,h=>by
    unfold find at h
    split at h
    · rename_i e
      cases h
      rw [← eqP_eq e]
      exact List.mem_cons_self
    · exact List.mem_cons_of_mem _ (find_mem h)
theorem pA_in:PosIn pA:=posI_of (show posIB pA=true by kernel_rfl)
noncomputable def G23A (a:Pos):Tr AV:=match find a TA with
  | some r=>gdv (posIB a) ((dR .u8 .u8).res r)
  | none=>.fail
noncomputable def G14A (a:Pos):Tr AV:=match eqP a pA with
  | true=>.ret ((dL .mv).res LA)
  | false=>.fail
noncomputable def G15A (a:Pos) (b:Mv):Tr AV:=match eqP a pA&&LA.any (fun m=>eqM m b) with
  | true=>.ret ((d2 dPos dB).res (chL b,true))
  | false=>.fail
noncomputable def G38A (a:Pos):Tr AV:=match find a TE with
  | some (true,e)=>.ret ((dI .i64).res e)
  | _=>.fail
theorem at23A (a:Pos):At0 Pz 23 [Pos.av a] (G23A a):=by
  unfold G23A
  split
  · rename_i r e
    have:=TA_ok _ (find_mem e)
    simp only at this
    rw [← this]
    exact at_gd fun h=>P23 a (t23 (posI_of h))
  · intro u hu; cases hu
theorem at14A (a:Pos):At0 Pz 14 [Pos.av a] (G14A a):=by
  unfold G14A
  split
  · rename_i e
    rw [← LA_ok,eqP_eq e]
    exact at_rt (P14 pA (t14 pA_in))
  · intro u hu; cases hu
theorem at15A (a:Pos) (b:Mv):At0 Pz 15 [Pos.av a,Mv.av b] (G15A a b):=by
  unfold G15A
  split
  · rename_i e
    simp only [Bool.and_eq_true,List.any_eq_true] at e
    obtain ⟨e1,m,e2,e3⟩:=e
    obtain rfl:=eqM_eq e3
    obtain rfl:=eqP_eq e1
    have:=map_inj CA_ok m e2
    rw [← this]
    exact at_rt (P15 pA m (move_all pA_in m).1)
  · intro u hu; cases hu
theorem at38A (a:Pos):At0 Pz 38 [Pos.av a] (G38A a):=by
  unfold G38A
  split
  · rename_i e1 e
    have:=TE_ok _ (find_mem e)
    simp only [Prod.mk.injEq] at this
    rw [← this.2]
    exact at_rt (P38 a this.1)
  · intro u hu; cases hu
noncomputable def B8:Base:=baseOf Pz (fun _ _=>[]) [(15,g2 dPos dMv G15A),(23,g1 dPos G23A),(14,g1 dPos G14A),(38,g1 dPos G38A),(44,g1 (dI .i64) GNew)] [] []
theorem hB8:BOk B8:=base_ok named_z ⟨sound2 at15A,sound1 at23A,sound1 at14A,sound1 at38A,sound1 atNew,trivial⟩ trivial trivial
def isTr:Option AV→Bool
  | some (.bool b) | some (.cbool b)=>b
  | _=>false
theorem isTr_dec {o:Option AV} (h:isTr o=true):∃ v,o=some v∧dB.dec v=some true:=by
  unfold isTr at h
  split at h
  · subst h; exact ⟨_,rfl,rfl⟩
  · subst h; exact ⟨_,rfl,rfl⟩
  · cases h
theorem Q8:isTr (evPure B8 80 8 []).get=true:=by kernel_rfl
theorem P8:PS Pz 8 [] (dB.res true):=by
  obtain ⟨v,h1,h2⟩:=isTr_dec Q8
  exact ps_of hB8 h1 dB h2
end Kz
end
