/- Part 5 of the texts under the proof: an abstract interpreter,the summaries of functions,plain laws. -/
import Derived.Test.YteikjjgonhlndaaGreatDoorB4
import Derived.Shelf.SlicesE.Clone
import Derived.Shelf.SlicesQ.IndexFunc
import Derived.Sort.WalkB12
import Derived.Shelf.SlicesQ.Load
import Derived.Lib.SliceRun
import Derived.Lib.SlKept
import Derived.Lib.Hide
import Derived.Shelf.SlicesE.DeleteFunc
set_option linter.unusedSectionVars false
set_option linter.unusedVariables false
set_option linter.unusedSimpArgs false
set_option linter.unnecessarySimpa false
section
namespace Kz
open Go Go.RowKit Go.Proofs
set_option maxRecDepth 100000
set_option maxHeartbeats 4000000
noncomputable def K22:List (Nat×Nat×List (Nat×List Nat)):=[(22,48,[(0,[2,3,4]),(1,[2,3,4,13]),(2,[4,5]),(3,[4,6]),(4,[4,6,37,38]),(5,[4,6,37,38,39]),(6,[4,6,8,37,38]),(7,[4,6,37,38]),(8,[4,6,37,38]),(9,[4,5])]),(46,156,[(0,[0,2]),(1,[0,2,14]),(2,[0,2]),(3,[0,2]),(4,[0,2,48]),(5,[]),(6,[0,2,64]),(7,[0,2,3,4]),(8,[0,2,3,4]),(9,[]),(10,[0,2,119]),(11,[0,2]),(12,[])]),(47,188,[(0,(1::(rn 14 6 (rn 99 11 (rn 163 8 []))))),(1,(1::20::(rn 99 11 (rn 163 8 [])))),(2,(1::2::(rn 99 11 (rn 163 8 [])))),(3,(1::2::26::(rn 99 11 (rn 163 8 [])))),(4,[1,2,4]),(5,[1,4,47]),(6,[1,4]),(7,[]),(8,(1::2::80::(rn 99 11 (rn 163 8 [])))),(9,(1::2::6::(rn 99 11 (rn 163 8 [])))),(10,(1::2::6::110::(rn 163 8 []))),(11,(1::2::6::(rn 163 8 []))),(12,(1::2::(rn 163 8 []))),(13,(1::2::(rn 163 8 []))),(14,(1::2::(rn 163 8 []))),(15,[1,171]),(16,[])]),(48,41,[(0,[0,16]),(1,[0,28,29,30]),(2,[0,28,29,30,31]),(3,[0,3,28,29,30]),(4,[0,28,29,30]),(5,[0,28,29,30])]),(49,121,[(0,(0::18::54::55::(rn 70 16 (89::90::(rn 93 6 (rn 101 10 [])))))),(1,(0::54::55::(rn 70 16 (89::90::(rn 93 6 (rn 101 10 [])))))),(2,(0::2::54::55::(rn 70 16 (89::90::(rn 93 6 (rn 101 10 [])))))),(3,(0::2::31::54::55::(rn 70 16 (89::90::(rn 93 6 (rn 101 10 [])))))),(4,(0::2::54::55::(rn 70 16 (89::90::(rn 93 6 (rn 101 10 [])))))),(5,(0::2::3::54::55::(rn 70 16 (89::90::(rn 93 6 (rn 101 10 [])))))),(6,(0::2::3::46::47::54::55::(rn 70 16 (89::90::(rn 93 6 (rn 101 10 [])))))),(7,(0::2::3::46::47::48::54::55::(rn 70 16 (89::90::(rn 93 6 (rn 101 10 [])))))),(8,(0::(rn 2 4 (46::47::54::55::(rn 70 16 (89::90::(rn 93 6 (rn 101 10 [])))))))),(9,(0::(rn 2 4 (46::47::54::55::56::(rn 70 16 (89::90::(rn 93 6 (rn 101 10 [])))))))),(10,(0::2::3::4::6::46::47::54::55::(rn 70 16 (89::90::(rn 93 6 (rn 101 10 [])))))),(11,(0::2::3::4::6::7::46::47::54::55::(rn 70 16 (89::90::(rn 93 6 (rn 101 10 [])))))),(12,(0::2::3::4::46::47::54::55::(rn 70 16 (89::90::(rn 93 6 (rn 101 11 [])))))),(13,(0::2::3::46::47::54::55::(rn 70 16 (89::90::(rn 93 6 (rn 101 10 [])))))),(14,(0::2::3::46::47::54::55::(rn 70 16 (89::90::(rn 93 6 (rn 101 10 []))))))]),(50,112,[(0,(0::(rn 12 6 (rn 20 26 (rn 64 9 []))))),(1,(0::46::(rn 64 9 []))),(2,(0::2::(rn 64 9 []))),(3,[0,73]),(4,[0,3]),(5,[0,3,106]),(6,[])]),(51,42,[(0,(0::(rn 16 5 []))),(1,[0,21]),(2,[0]),(3,[0,31]),(4,[])]),(52,59,[(0,(0::(rn 26 8 (rn 36 10 [])))),(1,(0::2::(rn 26 8 (rn 36 10 [])))),(2,[0,2,46]),(3,[])]),(102,14,[(0,[0,1]),(1,[3])]),(105,26,[(0,[0]),(1,[0,8]),(2,[2]),(3,[2])])]
noncomputable def B22_1:Base:=baseOf Pz (fun f i=>lkC f i K22) [(109,G109),(45,G45),(41,G41),(40,G40),(66,G66),(91,G91),(99,G99),(100,G100),(101,G101),(103,G103),(65,G65),(104,G104),(106,G106),(107,G107),(108,G108)] [] []
theorem hB22_1:BOk B22_1:=base_ok named_z ⟨s109,s45,s41,s40,s66,s91,s99,s100,s101,s103,s65,s104,s106,s107,s108,trivial⟩ trivial trivial
noncomputable def A22_1 (p1:Pos) (p2:Mv) (p3:Pos) (p4:Pos) (p5:Mv) (p6:Int):List AV:=[AV.ptr 3 0]
noncomputable def H22_1 (p1:Pos) (p2:Mv) (p3:Pos) (p4:Pos) (p5:Mv) (p6:Int):Hp:=Hp.mk [(pc p1 []),[AV.int .i8 p2.frm,AV.int .i8 p2.to,AV.int .u8 p2.pro,AV.int .u8 p2.drp,AV.bool p2.cas],[AV.int .u8 0,AV.ints .u8 64 (li (List.replicate 64 0)),AV.u64 0,AV.ints .u8 12 (li [0,0,0,0,0,0,0,0,0,0,0,0]),AV.int .u8 0,AV.ints .i8 4 (li [0,0,0,0]),AV.int .i8 0,AV.ints .u8 2 (li [0,0]),AV.int .i64 0,AV.int .i64 0],(pc p3 (pc p4 [AV.int .i8 p5.frm,AV.int .i8 p5.to,AV.int .u8 p5.pro,AV.int .u8 p5.drp,AV.bool p5.cas,AV.int .i64 p6]))] [] [] 0 0 0
noncomputable def O22_1 (p1:Pos) (p2:Mv) (p3:Pos) (p4:Pos) (p5:Mv) (p6:Int) (y:(Pos)):FRes := .ret (AV.tuple []) (Hp.mk [(pc p1 []),[AV.int .i8 p2.frm,AV.int .i8 p2.to,AV.int .u8 p2.pro,AV.int .u8 p2.drp,AV.bool p2.cas],[AV.int .u8 0,AV.ints .u8 64 (li (List.replicate 64 0)),AV.u64 0,AV.ints .u8 12 (li [0,0,0,0,0,0,0,0,0,0,0,0]),AV.int .u8 0,AV.ints .i8 4 (li [0,0,0,0]),AV.int .i8 0,AV.ints .u8 2 (li [0,0]),AV.int .i64 0,AV.int .i64 0],(pc y (pc p4 [AV.int .i8 p5.frm,AV.int .i8 p5.to,AV.int .u8 p5.pro,AV.int .u8 p5.drp,AV.bool p5.cas,AV.int .i64 p6]))] [] [] 0 0 0)
noncomputable def vF22_1 (p1:Pos) (p2:Mv) (p3:Pos) (p4:Pos) (p5:Mv) (p6:Int):(Pos):=(bif p5.cas then (Pos.mk p3.variant ((((p3.board.set (scale 1 p5.frm).toNat 0).set (scale 1 p5.to).toNat 0).set (scale 1 (N99 p4 p5).fst).toNat (p4.board.getD (scale 1 p5.frm).toNat 0)).set (scale 1 (N99 p4 p5).snd.fst).toNat (p4.board.getD (scale 1 p5.to).toNat 0)) p3.promoted p3.pockets p3.turn p3.rooks p3.passing p3.checks p3.half p3.full) else (bif p5.drp != 0 then (Pos.mk (N100 p3 p3.turn p5.drp).fst.variant ((N100 p3 p3.turn p5.drp).fst.board.set (scale 1 p5.to).toNat (N101 (N100 p3 p3.turn p5.drp).fst.turn p5.drp)) (N100 p3 p3.turn p5.drp).fst.promoted (N100 p3 p3.turn p5.drp).fst.pockets (N100 p3 p3.turn p5.drp).fst.turn (N100 p3 p3.turn p5.drp).fst.rooks (N100 p3 p3.turn p5.drp).fst.passing (N100 p3 p3.turn p5.drp).fst.checks (N100 p3 p3.turn p5.drp).fst.half (N100 p3 p3.turn p5.drp).fst.full) else (bif decide (p6 ≥ 0) then (bif p5.pro != 0 then (Pos.mk p3.variant ((((p3.board.set (scale 1 p6).toNat 0).set (scale 1 p5.frm).toNat 0).set (scale 1 p5.to).toNat (p4.board.getD (scale 1 p5.frm).toNat 0)).set (scale 1 p5.to).toNat (N101 p3.turn p5.pro)) p3.promoted p3.pockets p3.turn p3.rooks p3.passing p3.checks p3.half p3.full) else (Pos.mk p3.variant (((p3.board.set (scale 1 p6).toNat 0).set (scale 1 p5.frm).toNat 0).set (scale 1 p5.to).toNat (p4.board.getD (scale 1 p5.frm).toNat 0)) p3.promoted p3.pockets p3.turn p3.rooks p3.passing p3.checks p3.half p3.full)) else (bif p5.pro != 0 then (Pos.mk p3.variant (((p3.board.set (scale 1 p5.frm).toNat 0).set (scale 1 p5.to).toNat (p4.board.getD (scale 1 p5.frm).toNat 0)).set (scale 1 p5.to).toNat (N101 p3.turn p5.pro)) p3.promoted p3.pockets p3.turn p3.rooks p3.passing p3.checks p3.half p3.full) else (Pos.mk p3.variant ((p3.board.set (scale 1 p5.frm).toNat 0).set (scale 1 p5.to).toNat (p4.board.getD (scale 1 p5.frm).toNat 0)) p3.promoted p3.pockets p3.turn p3.rooks p3.passing p3.checks p3.half p3.full)))))
noncomputable def okF22_1 (p1:Pos) (p2:Mv) (p3:Pos) (p4:Pos) (p5:Mv) (p6:Int):Bool:=(bif p5.cas then (ok99 (p4) (p5)&&(decide (0≤p5.frm)&&decide (p5.frm < Int.ofNat 64)&&(decide (0≤p5.to)&&decide (p5.to < Int.ofNat 64)&&(decide (0≤p5.frm)&&decide (p5.frm < Int.ofNat 64)&&(decide (0≤p5.to)&&decide (p5.to < Int.ofNat 64)&&(decide (0≤(N99 p4 p5).fst)&&decide ((N99 p4 p5).fst < Int.ofNat 64)&&(decide (0≤(N99 p4 p5).snd.fst)&&decide ((N99 p4 p5).snd.fst < Int.ofNat 64)&&true))))))) else (bif p5.drp != 0 then (ok100 (p3) (p3.turn) (p5.drp)&&(decide (0≤p5.to)&&decide (p5.to < Int.ofNat 64)&&true)) else (bif decide (p6 ≥ 0) then (decide (0≤p6)&&decide (p6 < Int.ofNat 64)&&(decide (0≤p5.frm)&&decide (p5.frm < Int.ofNat 64)&&(decide (0≤p5.frm)&&decide (p5.frm < Int.ofNat 64)&&(decide (0≤p5.to)&&decide (p5.to < Int.ofNat 64)&&(bif p5.pro != 0 then (decide (0≤p5.to)&&decide (p5.to < Int.ofNat 64)&&true) else true))))) else (decide (0≤p5.frm)&&decide (p5.frm < Int.ofNat 64)&&(decide (0≤p5.frm)&&decide (p5.frm < Int.ofNat 64)&&(decide (0≤p5.to)&&decide (p5.to < Int.ofNat 64)&&(bif p5.pro != 0 then (decide (0≤p5.to)&&decide (p5.to < Int.ofNat 64)&&true) else true)))))))
abbrev DF22_1 {α:Type} (k:Pos→Mv→Pos→Pos→Mv→Int→α) (s:St):α:=wP s 0 fun q0=>wP s 3 fun q3=>wM s 1 fun q1=>k q0 q1 q3 (Kz.Pos.mk (tI (tH s 3 10)) (tN (tH s 3 11)) (tU (tH s 3 12)) (tN (tH s 3 13)) (tI (tH s 3 14)) (tN (tH s 3 15)) (tI (tH s 3 16)) (tN (tH s 3 17)) (tI (tH s 3 18)) (tI (tH s 3 19))) (Kz.Mv.mk (tI (tH s 3 20)) (tI (tH s 3 21)) (tI (tH s 3 22)) (tI (tH s 3 23)) (tB (tH s 3 24))) (tI (tH s 3 25))
theorem PF22_1 (p1:Pos) (p2:Mv) (p3:Pos) (p4:Pos) (p5:Mv) (p6:Int) (h:okF22_1 p1 p2 p3 p4 p5 p6=true):FSpec Pz 46 (A22_1 p1 p2 p3 p4 p5 p6) (H22_1 p1 p2 p3 p4 p5 p6) (O22_1 p1 p2 p3 p4 p5 p6 (vF22_1 p1 p2 p3 p4 p5 p6))∧∃ fn,Pz.funcs[46]?=some fn∧fn.body.isSome=true:=fs_sumd (n:=14) (O:=O22_1 p1 p2 p3 p4 p5 p6) hB22_1 (fun o=>match o with | .ret v h=>(let s:St:=⟨[v],h⟩; wP s 3 fun q3=>some q3) | _=>none) (fun _=>rfl) (by kernel_rfl) (by kernel_rfl) (by kernel_rfl) (by kernel_rfl) h
noncomputable def FF22_1 (xs:List AV) (h:Hp):Tr FRes:=DF22_1 (fun p1 p2 p3 p4 p5 p6=>fk xs h (A22_1 p1 p2 p3 p4 p5 p6) (H22_1 p1 p2 p3 p4 p5 p6) (okF22_1 p1 p2 p3 p4 p5 p6) (O22_1 p1 p2 p3 p4 p5 p6) (vF22_1 p1 p2 p3 p4 p5 p6)) ⟨xs,h⟩
theorem sFF22_1:FSound Pz 46 FF22_1:=fun _ _ _ h=>fk_ok (PF22_1 _ _ _ _ _ _) h
noncomputable def B22_2:Base:=baseOf Pz (fun f i=>lkC f i K22) [(109,G109),(45,G45),(41,G41),(40,G40),(66,G66),(91,G91),(99,G99),(100,G100),(101,G101),(103,G103),(65,G65),(104,G104),(106,G106),(107,G107),(108,G108)] [] [(46,FF22_1)]
theorem hB22_2:BOk B22_2:=base_ok named_z ⟨s109,s45,s41,s40,s66,s91,s99,s100,s101,s103,s65,s104,s106,s107,s108,trivial⟩ trivial ⟨sFF22_1,trivial⟩
noncomputable def A22_2 (p1:Pos) (p2:Mv) (p3:Pos) (p4:Pos) (p5:Mv) (p6:Int):List AV:=[AV.ptr 3 0]
noncomputable def H22_2 (p1:Pos) (p2:Mv) (p3:Pos) (p4:Pos) (p5:Mv) (p6:Int):Hp:=Hp.mk [(pc p1 []),[AV.int .i8 p2.frm,AV.int .i8 p2.to,AV.int .u8 p2.pro,AV.int .u8 p2.drp,AV.bool p2.cas],[AV.int .u8 0,AV.ints .u8 64 (li (List.replicate 64 0)),AV.u64 0,AV.ints .u8 12 (li [0,0,0,0,0,0,0,0,0,0,0,0]),AV.int .u8 0,AV.ints .i8 4 (li [0,0,0,0]),AV.int .i8 0,AV.ints .u8 2 (li [0,0]),AV.int .i64 0,AV.int .i64 0],(pc p3 (pc p4 [AV.int .i8 p5.frm,AV.int .i8 p5.to,AV.int .u8 p5.pro,AV.int .u8 p5.drp,AV.bool p5.cas,AV.int .i64 p6]))] [] [] 0 0 0
noncomputable def O22_2 (p1:Pos) (p2:Mv) (p3:Pos) (p4:Pos) (p5:Mv) (p6:Int) (y:(Pos)):FRes := .ret (AV.tuple []) (Hp.mk [(pc p1 []),[AV.int .i8 p2.frm,AV.int .i8 p2.to,AV.int .u8 p2.pro,AV.int .u8 p2.drp,AV.bool p2.cas],[AV.int .u8 0,AV.ints .u8 64 (li (List.replicate 64 0)),AV.u64 0,AV.ints .u8 12 (li [0,0,0,0,0,0,0,0,0,0,0,0]),AV.int .u8 0,AV.ints .i8 4 (li [0,0,0,0]),AV.int .i8 0,AV.ints .u8 2 (li [0,0]),AV.int .i64 0,AV.int .i64 0],(pc y (pc p4 [AV.int .i8 p5.frm,AV.int .i8 p5.to,AV.int .u8 p5.pro,AV.int .u8 p5.drp,AV.bool p5.cas,AV.int .i64 p6]))] [] [] 0 0 0)
noncomputable def vF22_2 (p1:Pos) (p2:Mv) (p3:Pos) (p4:Pos) (p5:Mv) (p6:Int):(Pos):=(bif p3.variant != 2 then (p3) else (bif p5.drp != 0 then (p3) else (bif p5.cas then (bif p4.promoted >>> (BitVec.ofInt 64 (wr .i64 p5.to)).toNat&&&1#64==1#64 then (Pos.mk p3.variant p3.board (p3.promoted &&& ~~~(1#64 <<< (BitVec.ofInt 64 p5.to).toNat)|||1#64 <<< (BitVec.ofInt 64 (N99 p4 p5).snd.fst).toNat) p3.pockets p3.turn p3.rooks p3.passing p3.checks p3.half p3.full) else (p3)) else (bif decide (p6 ≥ 0) then (bif p4.promoted >>> (BitVec.ofInt 64 p6).toNat&&&1#64==1#64 then (bif p4.board.getD (scale 1 p6).toNat 0 != 0 then (bif p5.pro != 0 then (Pos.mk (N103 p3 p3.turn 1).variant (N103 p3 p3.turn 1).board ((N103 p3 p3.turn 1).promoted &&& ~~~(1#64 <<< (BitVec.ofInt 64 p6).toNat) &&& ~~~(1#64 <<< (BitVec.ofInt 64 p5.frm).toNat)|||1#64 <<< (BitVec.ofInt 64 p5.to).toNat) (N103 p3 p3.turn 1).pockets (N103 p3 p3.turn 1).turn (N103 p3 p3.turn 1).rooks (N103 p3 p3.turn 1).passing (N103 p3 p3.turn 1).checks (N103 p3 p3.turn 1).half (N103 p3 p3.turn 1).full) else (bif p4.promoted >>> (BitVec.ofInt 64 (wr .i64 p5.frm)).toNat&&&1#64==1#64 then (Pos.mk (N103 p3 p3.turn 1).variant (N103 p3 p3.turn 1).board ((N103 p3 p3.turn 1).promoted &&& ~~~(1#64 <<< (BitVec.ofInt 64 p6).toNat) &&& ~~~(1#64 <<< (BitVec.ofInt 64 p5.frm).toNat)|||1#64 <<< (BitVec.ofInt 64 p5.to).toNat) (N103 p3 p3.turn 1).pockets (N103 p3 p3.turn 1).turn (N103 p3 p3.turn 1).rooks (N103 p3 p3.turn 1).passing (N103 p3 p3.turn 1).checks (N103 p3 p3.turn 1).half (N103 p3 p3.turn 1).full) else (Pos.mk (N103 p3 p3.turn 1).variant (N103 p3 p3.turn 1).board ((N103 p3 p3.turn 1).promoted &&& ~~~(1#64 <<< (BitVec.ofInt 64 p6).toNat) &&& ~~~(1#64 <<< (BitVec.ofInt 64 p5.frm).toNat)) (N103 p3 p3.turn 1).pockets (N103 p3 p3.turn 1).turn (N103 p3 p3.turn 1).rooks (N103 p3 p3.turn 1).passing (N103 p3 p3.turn 1).checks (N103 p3 p3.turn 1).half (N103 p3 p3.turn 1).full))) else (bif p5.pro != 0 then (Pos.mk (N103 p3 p3.turn (N91 (p4.board.getD (scale 1 p6).toNat 0))).variant (N103 p3 p3.turn (N91 (p4.board.getD (scale 1 p6).toNat 0))).board ((N103 p3 p3.turn (N91 (p4.board.getD (scale 1 p6).toNat 0))).promoted &&& ~~~(1#64 <<< (BitVec.ofInt 64 p6).toNat) &&& ~~~(1#64 <<< (BitVec.ofInt 64 p5.frm).toNat)|||1#64 <<< (BitVec.ofInt 64 p5.to).toNat) (N103 p3 p3.turn (N91 (p4.board.getD (scale 1 p6).toNat 0))).pockets (N103 p3 p3.turn (N91 (p4.board.getD (scale 1 p6).toNat 0))).turn (N103 p3 p3.turn (N91 (p4.board.getD (scale 1 p6).toNat 0))).rooks (N103 p3 p3.turn (N91 (p4.board.getD (scale 1 p6).toNat 0))).passing (N103 p3 p3.turn (N91 (p4.board.getD (scale 1 p6).toNat 0))).checks (N103 p3 p3.turn (N91 (p4.board.getD (scale 1 p6).toNat 0))).half (N103 p3 p3.turn (N91 (p4.board.getD (scale 1 p6).toNat 0))).full) else (bif p4.promoted >>> (BitVec.ofInt 64 (wr .i64 p5.frm)).toNat&&&1#64==1#64 then (Pos.mk (N103 p3 p3.turn (N91 (p4.board.getD (scale 1 p6).toNat 0))).variant (N103 p3 p3.turn (N91 (p4.board.getD (scale 1 p6).toNat 0))).board ((N103 p3 p3.turn (N91 (p4.board.getD (scale 1 p6).toNat 0))).promoted &&& ~~~(1#64 <<< (BitVec.ofInt 64 p6).toNat) &&& ~~~(1#64 <<< (BitVec.ofInt 64 p5.frm).toNat)|||1#64 <<< (BitVec.ofInt 64 p5.to).toNat) (N103 p3 p3.turn (N91 (p4.board.getD (scale 1 p6).toNat 0))).pockets (N103 p3 p3.turn (N91 (p4.board.getD (scale 1 p6).toNat 0))).turn (N103 p3 p3.turn (N91 (p4.board.getD (scale 1 p6).toNat 0))).rooks (N103 p3 p3.turn (N91 (p4.board.getD (scale 1 p6).toNat 0))).passing (N103 p3 p3.turn (N91 (p4.board.getD (scale 1 p6).toNat 0))).checks (N103 p3 p3.turn (N91 (p4.board.getD (scale 1 p6).toNat 0))).half (N103 p3 p3.turn (N91 (p4.board.getD (scale 1 p6).toNat 0))).full) else (Pos.mk (N103 p3 p3.turn (N91 (p4.board.getD (scale 1 p6).toNat 0))).variant (N103 p3 p3.turn (N91 (p4.board.getD (scale 1 p6).toNat 0))).board ((N103 p3 p3.turn (N91 (p4.board.getD (scale 1 p6).toNat 0))).promoted &&& ~~~(1#64 <<< (BitVec.ofInt 64 p6).toNat) &&& ~~~(1#64 <<< (BitVec.ofInt 64 p5.frm).toNat)) (N103 p3 p3.turn (N91 (p4.board.getD (scale 1 p6).toNat 0))).pockets (N103 p3 p3.turn (N91 (p4.board.getD (scale 1 p6).toNat 0))).turn (N103 p3 p3.turn (N91 (p4.board.getD (scale 1 p6).toNat 0))).rooks (N103 p3 p3.turn (N91 (p4.board.getD (scale 1 p6).toNat 0))).passing (N103 p3 p3.turn (N91 (p4.board.getD (scale 1 p6).toNat 0))).checks (N103 p3 p3.turn (N91 (p4.board.getD (scale 1 p6).toNat 0))).half (N103 p3 p3.turn (N91 (p4.board.getD (scale 1 p6).toNat 0))).full)))) else (bif p5.pro != 0 then (Pos.mk (N103 p3 p3.turn (N91 (p4.board.getD (scale 1 p6).toNat 0))).variant (N103 p3 p3.turn (N91 (p4.board.getD (scale 1 p6).toNat 0))).board ((N103 p3 p3.turn (N91 (p4.board.getD (scale 1 p6).toNat 0))).promoted &&& ~~~(1#64 <<< (BitVec.ofInt 64 p6).toNat) &&& ~~~(1#64 <<< (BitVec.ofInt 64 p5.frm).toNat)|||1#64 <<< (BitVec.ofInt 64 p5.to).toNat) (N103 p3 p3.turn (N91 (p4.board.getD (scale 1 p6).toNat 0))).pockets (N103 p3 p3.turn (N91 (p4.board.getD (scale 1 p6).toNat 0))).turn (N103 p3 p3.turn (N91 (p4.board.getD (scale 1 p6).toNat 0))).rooks (N103 p3 p3.turn (N91 (p4.board.getD (scale 1 p6).toNat 0))).passing (N103 p3 p3.turn (N91 (p4.board.getD (scale 1 p6).toNat 0))).checks (N103 p3 p3.turn (N91 (p4.board.getD (scale 1 p6).toNat 0))).half (N103 p3 p3.turn (N91 (p4.board.getD (scale 1 p6).toNat 0))).full) else (bif p4.promoted >>> (BitVec.ofInt 64 (wr .i64 p5.frm)).toNat&&&1#64==1#64 then (Pos.mk (N103 p3 p3.turn (N91 (p4.board.getD (scale 1 p6).toNat 0))).variant (N103 p3 p3.turn (N91 (p4.board.getD (scale 1 p6).toNat 0))).board ((N103 p3 p3.turn (N91 (p4.board.getD (scale 1 p6).toNat 0))).promoted &&& ~~~(1#64 <<< (BitVec.ofInt 64 p6).toNat) &&& ~~~(1#64 <<< (BitVec.ofInt 64 p5.frm).toNat)|||1#64 <<< (BitVec.ofInt 64 p5.to).toNat) (N103 p3 p3.turn (N91 (p4.board.getD (scale 1 p6).toNat 0))).pockets (N103 p3 p3.turn (N91 (p4.board.getD (scale 1 p6).toNat 0))).turn (N103 p3 p3.turn (N91 (p4.board.getD (scale 1 p6).toNat 0))).rooks (N103 p3 p3.turn (N91 (p4.board.getD (scale 1 p6).toNat 0))).passing (N103 p3 p3.turn (N91 (p4.board.getD (scale 1 p6).toNat 0))).checks (N103 p3 p3.turn (N91 (p4.board.getD (scale 1 p6).toNat 0))).half (N103 p3 p3.turn (N91 (p4.board.getD (scale 1 p6).toNat 0))).full) else (Pos.mk (N103 p3 p3.turn (N91 (p4.board.getD (scale 1 p6).toNat 0))).variant (N103 p3 p3.turn (N91 (p4.board.getD (scale 1 p6).toNat 0))).board ((N103 p3 p3.turn (N91 (p4.board.getD (scale 1 p6).toNat 0))).promoted &&& ~~~(1#64 <<< (BitVec.ofInt 64 p6).toNat) &&& ~~~(1#64 <<< (BitVec.ofInt 64 p5.frm).toNat)) (N103 p3 p3.turn (N91 (p4.board.getD (scale 1 p6).toNat 0))).pockets (N103 p3 p3.turn (N91 (p4.board.getD (scale 1 p6).toNat 0))).turn (N103 p3 p3.turn (N91 (p4.board.getD (scale 1 p6).toNat 0))).rooks (N103 p3 p3.turn (N91 (p4.board.getD (scale 1 p6).toNat 0))).passing (N103 p3 p3.turn (N91 (p4.board.getD (scale 1 p6).toNat 0))).checks (N103 p3 p3.turn (N91 (p4.board.getD (scale 1 p6).toNat 0))).half (N103 p3 p3.turn (N91 (p4.board.getD (scale 1 p6).toNat 0))).full)))) else (bif p5.pro != 0 then (Pos.mk p3.variant p3.board (p3.promoted &&& ~~~(1#64 <<< (BitVec.ofInt 64 p5.frm).toNat)|||1#64 <<< (BitVec.ofInt 64 p5.to).toNat) p3.pockets p3.turn p3.rooks p3.passing p3.checks p3.half p3.full) else (bif p4.promoted >>> (BitVec.ofInt 64 (wr .i64 p5.frm)).toNat&&&1#64==1#64 then (Pos.mk p3.variant p3.board (p3.promoted &&& ~~~(1#64 <<< (BitVec.ofInt 64 p5.frm).toNat)|||1#64 <<< (BitVec.ofInt 64 p5.to).toNat) p3.pockets p3.turn p3.rooks p3.passing p3.checks p3.half p3.full) else (Pos.mk p3.variant p3.board (p3.promoted &&& ~~~(1#64 <<< (BitVec.ofInt 64 p5.frm).toNat)) p3.pockets p3.turn p3.rooks p3.passing p3.checks p3.half p3.full)))))))
noncomputable def okF22_2 (p1:Pos) (p2:Mv) (p3:Pos) (p4:Pos) (p5:Mv) (p6:Int):Bool:=(bif p3.variant != 2 then true else (bif p5.drp != 0 then true else (bif p5.cas then (ok99 (p4) (p5)&&true) else (bif decide (p6 ≥ 0) then (decide (0≤p6)&&decide (p6 < Int.ofNat 64)&&(bif p4.promoted >>> (BitVec.ofInt 64 p6).toNat&&&1#64==1#64 then (decide (0≤p6)&&decide (p6 < Int.ofNat 64)&&(bif p4.board.getD (scale 1 p6).toNat 0 != 0 then (ok103 (p3) (p3.turn) (1)&&true) else (ok103 (p3) (p3.turn) (N91 (p4.board.getD (scale 1 p6).toNat 0))&&true))) else (ok103 (p3) (p3.turn) (N91 (p4.board.getD (scale 1 p6).toNat 0))&&true))) else true))))
abbrev DF22_2 {α:Type} (k:Pos→Mv→Pos→Pos→Mv→Int→α) (s:St):α:=wP s 0 fun q0=>wP s 3 fun q3=>wM s 1 fun q1=>k q0 q1 q3 (Kz.Pos.mk (tI (tH s 3 10)) (tN (tH s 3 11)) (tU (tH s 3 12)) (tN (tH s 3 13)) (tI (tH s 3 14)) (tN (tH s 3 15)) (tI (tH s 3 16)) (tN (tH s 3 17)) (tI (tH s 3 18)) (tI (tH s 3 19))) (Kz.Mv.mk (tI (tH s 3 20)) (tI (tH s 3 21)) (tI (tH s 3 22)) (tI (tH s 3 23)) (tB (tH s 3 24))) (tI (tH s 3 25))
theorem PF22_2 (p1:Pos) (p2:Mv) (p3:Pos) (p4:Pos) (p5:Mv) (p6:Int) (h:okF22_2 p1 p2 p3 p4 p5 p6=true):FSpec Pz 47 (A22_2 p1 p2 p3 p4 p5 p6) (H22_2 p1 p2 p3 p4 p5 p6) (O22_2 p1 p2 p3 p4 p5 p6 (vF22_2 p1 p2 p3 p4 p5 p6))∧∃ fn,Pz.funcs[47]?=some fn∧fn.body.isSome=true:=fs_sumd (n:=14) (O:=O22_2 p1 p2 p3 p4 p5 p6) hB22_2 (fun o=>match o with | .ret v h=>(let s:St:=⟨[v],h⟩; wP s 3 fun q3=>some q3) | _=>none) (fun _=>rfl) (by kernel_rfl) (by kernel_rfl) (by kernel_rfl) (by kernel_rfl) h
noncomputable def FF22_2 (xs:List AV) (h:Hp):Tr FRes:=DF22_2 (fun p1 p2 p3 p4 p5 p6=>fk xs h (A22_2 p1 p2 p3 p4 p5 p6) (H22_2 p1 p2 p3 p4 p5 p6) (okF22_2 p1 p2 p3 p4 p5 p6) (O22_2 p1 p2 p3 p4 p5 p6) (vF22_2 p1 p2 p3 p4 p5 p6)) ⟨xs,h⟩
theorem sFF22_2:FSound Pz 47 FF22_2:=fun _ _ _ h=>fk_ok (PF22_2 _ _ _ _ _ _) h
noncomputable def B22_3:Base:=baseOf Pz (fun f i=>lkC f i K22) [(109,G109),(45,G45),(41,G41),(40,G40),(66,G66),(91,G91),(99,G99),(100,G100),(101,G101),(103,G103),(65,G65),(104,G104),(106,G106),(107,G107),(108,G108)] [] [(46,FF22_1),(47,FF22_2)]
theorem hB22_3:BOk B22_3:=base_ok named_z ⟨s109,s45,s41,s40,s66,s91,s99,s100,s101,s103,s65,s104,s106,s107,s108,trivial⟩ trivial ⟨sFF22_1,sFF22_2,trivial⟩
noncomputable def S22_3 (p1:(List Int)) (p2:Int) (p3:Pos) (p4:Mv) (p5:Pos) (p6:Mv) (p7:Int) (x:(Int×Pos)):St:=St.mk (AV.ptr 3 0::(an 27 (AV.list (ET.i .i64) p1 Tk.fresh::AV.int .i64 p2::AV.int .i64 x.fst::(an 10 [])))) (Hp.mk [(pc p3 []),[AV.int .i8 p4.frm,AV.int .i8 p4.to,AV.int .u8 p4.pro,AV.int .u8 p4.drp,AV.bool p4.cas],[AV.int .u8 0,AV.ints .u8 64 (li (List.replicate 64 0)),AV.u64 0,AV.ints .u8 12 (li [0,0,0,0,0,0,0,0,0,0,0,0]),AV.int .u8 0,AV.ints .i8 4 (li [0,0,0,0]),AV.int .i8 0,AV.ints .u8 2 (li [0,0]),AV.int .i64 0,AV.int .i64 0],(pc x.snd (pc p5 [AV.int .i8 p6.frm,AV.int .i8 p6.to,AV.int .u8 p6.pro,AV.int .u8 p6.drp,AV.bool p6.cas,AV.int .i64 p7]))] [] [] 0 0 0)
noncomputable def O22_3 (p1:(List Int)) (p2:Int) (p3:Pos) (p4:Mv) (p5:Pos) (p6:Mv) (p7:Int):(Int×Bool×Pos)→Out:=fun y=>.exit 0 (St.mk (AV.ptr 3 0::(an 27 (AV.list (ET.i .i64) p1 Tk.fresh::AV.int .i64 p2::AV.int .i64 y.fst::AV.bool y.snd.fst::(an 9 [])))) (Hp.mk [(pc p3 []),[AV.int .i8 p4.frm,AV.int .i8 p4.to,AV.int .u8 p4.pro,AV.int .u8 p4.drp,AV.bool p4.cas],[AV.int .u8 0,AV.ints .u8 64 (li (List.replicate 64 0)),AV.u64 0,AV.ints .u8 12 (li [0,0,0,0,0,0,0,0,0,0,0,0]),AV.int .u8 0,AV.ints .i8 4 (li [0,0,0,0]),AV.int .i8 0,AV.ints .u8 2 (li [0,0]),AV.int .i64 0,AV.int .i64 0],(pc y.snd.snd (pc p5 [AV.int .i8 p6.frm,AV.int .i8 p6.to,AV.int .u8 p6.pro,AV.int .u8 p6.drp,AV.bool p6.cas,AV.int .i64 p7]))] [] [] 0 0 0))
noncomputable def st22_3 (p1:(List Int)) (p2:Int) (p3:Pos) (p4:Mv) (p5:Pos) (p6:Mv) (p7:Int) (x:(Int×Pos)):Stp (Int×Pos) ((Int×Bool×Pos)):=(bif decide (x.fst < p2) then (Stp.go (wr .i64 (x.fst+1),Pos.mk x.snd.variant (x.snd.board.set (scale 1 (p1.getD x.fst.toNat default)).toNat 0) x.snd.promoted x.snd.pockets x.snd.turn x.snd.rooks x.snd.passing x.snd.checks x.snd.half x.snd.full)) else (Stp.out ((x.fst,decide (x.fst < p2),x.snd))))
noncomputable def okL22_3 (p1:(List Int)) (p2:Int) (p3:Pos) (p4:Mv) (p5:Pos) (p6:Mv) (p7:Int) (x:(Int×Pos)):Bool:=(bif decide (x.fst < p2) then (decide (0≤x.fst)&&decide (x.fst < Int.ofNat p1.length)&&(decide (0≤p1.getD x.fst.toNat default)&&decide (p1.getD x.fst.toNat default < Int.ofNat 64)&&true)) else true)
noncomputable def lp22_3 (p1:(List Int)) (p2:Int) (p3:Pos) (p4:Mv) (p5:Pos) (p6:Mv) (p7:Int) (x:(Int×Pos)):Option ((Int×Bool×Pos)):=itl (fun x=>bif okL22_3 p1 p2 p3 p4 p5 p6 p7 x then st22_3 p1 p2 p3 p4 p5 p6 p7 x else .bad) many x
abbrev D22_3 {α:Type} (k:(List Int)→Int→Pos→Mv→Pos→Mv→Int→(Int×Pos)→α) (s:St):α:=wP s 0 fun q0=>wP s 3 fun q3=>wM s 1 fun q1=>k (tL (ET.i .i64) (tT s 28)) (tI (tT s 29)) q0 q1 (Kz.Pos.mk (tI (tH s 3 10)) (tN (tH s 3 11)) (tU (tH s 3 12)) (tN (tH s 3 13)) (tI (tH s 3 14)) (tN (tH s 3 15)) (tI (tH s 3 16)) (tN (tH s 3 17)) (tI (tH s 3 18)) (tI (tH s 3 19))) (Kz.Mv.mk (tI (tH s 3 20)) (tI (tH s 3 21)) (tI (tH s 3 22)) (tI (tH s 3 23)) (tB (tH s 3 24))) (tI (tH s 3 25)) ((tI (tT s 30)),q3)
theorem L22_3 (p1:(List Int)) (p2:Int) (p3:Pos) (p4:Mv) (p5:Pos) (p6:Mv) (p7:Int) (x:(Int×Pos)) (r:(Int×Bool×Pos)) (h:lp22_3 p1 p2 p3 p4 p5 p6 p7 x=some r):LSpec Pz (bodL Pz 48 2) (S22_3 p1 p2 p3 p4 p5 p6 p7 x) (O22_3 p1 p2 p3 p4 p5 p6 p7 r):=LSpec.smd (m:=12) (fn:=48) hB22_3 (D22_3 fun _ _ _ _ _ _ _ x=>some x) (fun o=>match o with | .exit 0 s=>wP s 3 fun q3=>some ((tI (tT s 30)),(tB (tT s 31)),q3) | _=>none) (fun _=>rfl) (fun _=>by kernel_rfl) (fun _=>by kernel_rfl) (fun _=>by kernel_rfl) (fun _=>by kernel_rfl) many x r h
noncomputable def F22_3 (b:Code) (s:St):Tr Out:=D22_3 (fun p1 p2 p3 p4 p5 p6 p7 x=>lk1 b (bodL Pz 48 2) s (S22_3 p1 p2 p3 p4 p5 p6 p7 x) (lp22_3 p1 p2 p3 p4 p5 p6 p7 x) (O22_3 p1 p2 p3 p4 p5 p6 p7)) s
theorem sF22_3:∀ b,LSound Pz b (F22_3 b):=fun _ _ _ h=>lk1_ok (L22_3 _ _ _ _ _ _ _ _) h
noncomputable def B22_4:Base:=baseOf Pz (fun f i=>lkC f i K22) [(109,G109),(45,G45),(41,G41),(40,G40),(66,G66),(91,G91),(99,G99),(100,G100),(101,G101),(103,G103),(65,G65),(104,G104),(106,G106),(107,G107),(108,G108)] [(48,2,F22_3)] [(46,FF22_1),(47,FF22_2)]
theorem hB22_4:BOk B22_4:=base_ok named_z ⟨s109,s45,s41,s40,s66,s91,s99,s100,s101,s103,s65,s104,s106,s107,s108,trivial⟩ ⟨sF22_3,trivial⟩ ⟨sFF22_1,sFF22_2,trivial⟩
noncomputable def A22_4 (p1:Pos) (p2:Mv) (p3:Pos) (p4:Pos) (p5:Mv) (p6:Int):List AV:=[AV.ptr 3 0]
noncomputable def H22_4 (p1:Pos) (p2:Mv) (p3:Pos) (p4:Pos) (p5:Mv) (p6:Int):Hp:=Hp.mk [(pc p1 []),[AV.int .i8 p2.frm,AV.int .i8 p2.to,AV.int .u8 p2.pro,AV.int .u8 p2.drp,AV.bool p2.cas],[AV.int .u8 0,AV.ints .u8 64 (li (List.replicate 64 0)),AV.u64 0,AV.ints .u8 12 (li [0,0,0,0,0,0,0,0,0,0,0,0]),AV.int .u8 0,AV.ints .i8 4 (li [0,0,0,0]),AV.int .i8 0,AV.ints .u8 2 (li [0,0]),AV.int .i64 0,AV.int .i64 0],(pc p3 (pc p4 [AV.int .i8 p5.frm,AV.int .i8 p5.to,AV.int .u8 p5.pro,AV.int .u8 p5.drp,AV.bool p5.cas,AV.int .i64 p6]))] [] [] 0 0 0
noncomputable def O22_4 (p1:Pos) (p2:Mv) (p3:Pos) (p4:Pos) (p5:Mv) (p6:Int) (y:(Pos)):FRes := .ret (AV.tuple []) (Hp.mk [(pc p1 []),[AV.int .i8 p2.frm,AV.int .i8 p2.to,AV.int .u8 p2.pro,AV.int .u8 p2.drp,AV.bool p2.cas],[AV.int .u8 0,AV.ints .u8 64 (li (List.replicate 64 0)),AV.u64 0,AV.ints .u8 12 (li [0,0,0,0,0,0,0,0,0,0,0,0]),AV.int .u8 0,AV.ints .i8 4 (li [0,0,0,0]),AV.int .i8 0,AV.ints .u8 2 (li [0,0]),AV.int .i64 0,AV.int .i64 0],(pc y (pc p4 [AV.int .i8 p5.frm,AV.int .i8 p5.to,AV.int .u8 p5.pro,AV.int .u8 p5.drp,AV.bool p5.cas,AV.int .i64 p6]))] [] [] 0 0 0)
noncomputable def vF22_4 (p1:Pos) (p2:Mv) (p3:Pos) (p4:Pos) (p5:Mv) (p6:Int):(Pos):=(bif p3.variant != 3 then (p3) else (bif decide (p6 < 0) then (p3) else (((lp22_3 (N65 (N104 p3 (wr .i64 p5.to))) (Int.ofNat (N65 (N104 p3 (wr .i64 p5.to))).length) p1 p2 p4 p5 p6 (0,p3)).getD default).snd.snd)))
noncomputable def okF22_4 (p1:Pos) (p2:Mv) (p3:Pos) (p4:Pos) (p5:Mv) (p6:Int):Bool:=(bif p3.variant != 3 then true else (bif decide (p6 < 0) then true else (ok104 (p3) (wr .i64 p5.to)&&(ok65 (N104 p3 (wr .i64 p5.to))&&((lp22_3 (N65 (N104 p3 (wr .i64 p5.to))) (Int.ofNat (N65 (N104 p3 (wr .i64 p5.to))).length) p1 p2 p4 p5 p6 (0,p3)).isSome&&true)))))
abbrev DF22_4 {α:Type} (k:Pos→Mv→Pos→Pos→Mv→Int→α) (s:St):α:=wP s 0 fun q0=>wP s 3 fun q3=>wM s 1 fun q1=>k q0 q1 q3 (Kz.Pos.mk (tI (tH s 3 10)) (tN (tH s 3 11)) (tU (tH s 3 12)) (tN (tH s 3 13)) (tI (tH s 3 14)) (tN (tH s 3 15)) (tI (tH s 3 16)) (tN (tH s 3 17)) (tI (tH s 3 18)) (tI (tH s 3 19))) (Kz.Mv.mk (tI (tH s 3 20)) (tI (tH s 3 21)) (tI (tH s 3 22)) (tI (tH s 3 23)) (tB (tH s 3 24))) (tI (tH s 3 25))
theorem PF22_4 (p1:Pos) (p2:Mv) (p3:Pos) (p4:Pos) (p5:Mv) (p6:Int) (h:okF22_4 p1 p2 p3 p4 p5 p6=true):FSpec Pz 48 (A22_4 p1 p2 p3 p4 p5 p6) (H22_4 p1 p2 p3 p4 p5 p6) (O22_4 p1 p2 p3 p4 p5 p6 (vF22_4 p1 p2 p3 p4 p5 p6))∧∃ fn,Pz.funcs[48]?=some fn∧fn.body.isSome=true:=fs_sumd (n:=14) (O:=O22_4 p1 p2 p3 p4 p5 p6) hB22_4 (fun o=>match o with | .ret v h=>(let s:St:=⟨[v],h⟩; wP s 3 fun q3=>some q3) | _=>none) (fun _=>rfl) (by kernel_rfl) (by kernel_rfl) (by kernel_rfl) (by kernel_rfl) h
noncomputable def FF22_4 (xs:List AV) (h:Hp):Tr FRes:=DF22_4 (fun p1 p2 p3 p4 p5 p6=>fk xs h (A22_4 p1 p2 p3 p4 p5 p6) (H22_4 p1 p2 p3 p4 p5 p6) (okF22_4 p1 p2 p3 p4 p5 p6) (O22_4 p1 p2 p3 p4 p5 p6) (vF22_4 p1 p2 p3 p4 p5 p6)) ⟨xs,h⟩
theorem sFF22_4:FSound Pz 48 FF22_4:=fun _ _ _ h=>fk_ok (PF22_4 _ _ _ _ _ _) h
noncomputable def B22_6:Base:=baseOf Pz (fun f i=>lkC f i K22) [(109,G109),(45,G45),(41,G41),(40,G40),(66,G66),(91,G91),(99,G99),(100,G100),(101,G101),(103,G103),(65,G65),(104,G104),(106,G106),(107,G107),(108,G108)] [(48,2,F22_3)] [(46,FF22_1),(47,FF22_2),(48,FF22_4)]
theorem hB22_6:BOk B22_6:=base_ok named_z ⟨s109,s45,s41,s40,s66,s91,s99,s100,s101,s103,s65,s104,s106,s107,s108,trivial⟩ ⟨sF22_3,trivial⟩ ⟨sFF22_1,sFF22_2,sFF22_4,trivial⟩
noncomputable def S22_6 (p1:Int) (p2:Int) (p3:(List Int)) (p4:Pos) (p5:Mv) (p6:Pos) (p7:Mv) (p8:Int) (x:(Int×Pos)):St:=St.mk (AV.ptr 3 0::AV.any::AV.int .u8 p1::AV.int .i64 p2::(an 42 (AV.agg [AV.ints .i8 2 p3]::AV.int .i64 x.fst::(an 73 [])))) (Hp.mk [(pc p4 []),[AV.int .i8 p5.frm,AV.int .i8 p5.to,AV.int .u8 p5.pro,AV.int .u8 p5.drp,AV.bool p5.cas],[AV.int .u8 0,AV.ints .u8 64 (li (List.replicate 64 0)),AV.u64 0,AV.ints .u8 12 (li [0,0,0,0,0,0,0,0,0,0,0,0]),AV.int .u8 0,AV.ints .i8 4 (li [0,0,0,0]),AV.int .i8 0,AV.ints .u8 2 (li [0,0]),AV.int .i64 0,AV.int .i64 0],(pc x.snd (pc p6 [AV.int .i8 p7.frm,AV.int .i8 p7.to,AV.int .u8 p7.pro,AV.int .u8 p7.drp,AV.bool p7.cas,AV.int .i64 p8]))] [] [] 0 0 0)
noncomputable def O22_6 (p1:Int) (p2:Int) (p3:(List Int)) (p4:Pos) (p5:Mv) (p6:Pos) (p7:Mv) (p8:Int):(Int×Bool×Pos)→Out:=fun y=>.exit 2 (St.mk (AV.ptr 3 0::AV.any::AV.int .u8 p1::AV.int .i64 p2::(an 42 (AV.agg [AV.ints .i8 2 p3]::AV.int .i64 y.fst::AV.bool y.snd.fst::(an 72 [])))) (Hp.mk [(pc p4 []),[AV.int .i8 p5.frm,AV.int .i8 p5.to,AV.int .u8 p5.pro,AV.int .u8 p5.drp,AV.bool p5.cas],[AV.int .u8 0,AV.ints .u8 64 (li (List.replicate 64 0)),AV.u64 0,AV.ints .u8 12 (li [0,0,0,0,0,0,0,0,0,0,0,0]),AV.int .u8 0,AV.ints .i8 4 (li [0,0,0,0]),AV.int .i8 0,AV.ints .u8 2 (li [0,0]),AV.int .i64 0,AV.int .i64 0],(pc y.snd.snd (pc p6 [AV.int .i8 p7.frm,AV.int .i8 p7.to,AV.int .u8 p7.pro,AV.int .u8 p7.drp,AV.bool p7.cas,AV.int .i64 p8]))] [] [] 0 0 0))
noncomputable def st22_6 (p1:Int) (p2:Int) (p3:(List Int)) (p4:Pos) (p5:Mv) (p6:Pos) (p7:Mv) (p8:Int) (x:(Int×Pos)):Stp (Int×Pos) ((Int×Bool×Pos)):=(bif decide (x.fst < 2) then (bif decide (p3.getD x.fst.toNat 0 < 0) then (Stp.go (wr .i64 (x.fst+1),x.snd)) else (bif decide (p3.getD x.fst.toNat 0 > 7) then (Stp.go (wr .i64 (x.fst+1),x.snd)) else (bif p8==wr .i64 (wr .i64 (56 * wr .i64 p1)+wr .i64 (p3.getD x.fst.toNat 0)) then (Stp.go (wr .i64 (x.fst+1),Pos.mk x.snd.variant x.snd.board x.snd.promoted x.snd.pockets x.snd.turn (x.snd.rooks.set (scale 2 p1+scale 1 x.fst).toNat (-1)) x.snd.passing x.snd.checks x.snd.half x.snd.full)) else (bif p7.drp==0 then (bif wr .i64 p7.frm==wr .i64 (wr .i64 (56 * wr .i64 p1)+wr .i64 (p3.getD x.fst.toNat 0)) then (Stp.go (wr .i64 (x.fst+1),Pos.mk x.snd.variant x.snd.board x.snd.promoted x.snd.pockets x.snd.turn (x.snd.rooks.set (scale 2 p1+scale 1 x.fst).toNat (-1)) x.snd.passing x.snd.checks x.snd.half x.snd.full)) else (bif decide (p2 < 0) then (Stp.go (wr .i64 (x.fst+1),Pos.mk x.snd.variant x.snd.board x.snd.promoted x.snd.pockets x.snd.turn (x.snd.rooks.set (scale 2 p1+scale 1 x.fst).toNat (-1)) x.snd.passing x.snd.checks x.snd.half x.snd.full)) else (bif wr .i64 (p2.tdiv 8) != wr .i64 (7 * wr .i64 p1) then (Stp.go (wr .i64 (x.fst+1),Pos.mk x.snd.variant x.snd.board x.snd.promoted x.snd.pockets x.snd.turn (x.snd.rooks.set (scale 2 p1+scale 1 x.fst).toNat (-1)) x.snd.passing x.snd.checks x.snd.half x.snd.full)) else (bif x.snd.board.getD (scale 1 (wr .i64 (wr .i64 (56 * wr .i64 p1)+wr .i64 (p3.getD x.fst.toNat 0)))).toNat 0 != N101 p1 4 then (Stp.go (wr .i64 (x.fst+1),Pos.mk x.snd.variant x.snd.board x.snd.promoted x.snd.pockets x.snd.turn (x.snd.rooks.set (scale 2 p1+scale 1 x.fst).toNat (-1)) x.snd.passing x.snd.checks x.snd.half x.snd.full)) else (Stp.go (wr .i64 (x.fst+1),x.snd)))))) else (bif decide (p2 < 0) then (Stp.go (wr .i64 (x.fst+1),Pos.mk x.snd.variant x.snd.board x.snd.promoted x.snd.pockets x.snd.turn (x.snd.rooks.set (scale 2 p1+scale 1 x.fst).toNat (-1)) x.snd.passing x.snd.checks x.snd.half x.snd.full)) else (bif wr .i64 (p2.tdiv 8) != wr .i64 (7 * wr .i64 p1) then (Stp.go (wr .i64 (x.fst+1),Pos.mk x.snd.variant x.snd.board x.snd.promoted x.snd.pockets x.snd.turn (x.snd.rooks.set (scale 2 p1+scale 1 x.fst).toNat (-1)) x.snd.passing x.snd.checks x.snd.half x.snd.full)) else (bif x.snd.board.getD (scale 1 (wr .i64 (wr .i64 (56 * wr .i64 p1)+wr .i64 (p3.getD x.fst.toNat 0)))).toNat 0 != N101 p1 4 then (Stp.go (wr .i64 (x.fst+1),Pos.mk x.snd.variant x.snd.board x.snd.promoted x.snd.pockets x.snd.turn (x.snd.rooks.set (scale 2 p1+scale 1 x.fst).toNat (-1)) x.snd.passing x.snd.checks x.snd.half x.snd.full)) else (Stp.go (wr .i64 (x.fst+1),x.snd))))))))) else (Stp.out ((x.fst,decide (x.fst < 2),x.snd))))
noncomputable def okL22_6 (p1:Int) (p2:Int) (p3:(List Int)) (p4:Pos) (p5:Mv) (p6:Pos) (p7:Mv) (p8:Int) (x:(Int×Pos)):Bool:=(bif decide (x.fst < 2) then (decide (0≤x.fst)&&decide (x.fst < Int.ofNat 2)&&(bif decide (p3.getD x.fst.toNat 0 < 0) then true else (bif decide (p3.getD x.fst.toNat 0 > 7) then true else (bif p8==wr .i64 (wr .i64 (56 * wr .i64 p1)+wr .i64 (p3.getD x.fst.toNat 0)) then (decide (0≤p1)&&decide (p1 < Int.ofNat 2)&&(decide (0≤x.fst)&&decide (x.fst < Int.ofNat 2)&&true)) else (bif p7.drp==0 then (bif wr .i64 p7.frm==wr .i64 (wr .i64 (56 * wr .i64 p1)+wr .i64 (p3.getD x.fst.toNat 0)) then (decide (0≤p1)&&decide (p1 < Int.ofNat 2)&&(decide (0≤x.fst)&&decide (x.fst < Int.ofNat 2)&&true)) else (bif decide (p2 < 0) then (decide (0≤p1)&&decide (p1 < Int.ofNat 2)&&(decide (0≤x.fst)&&decide (x.fst < Int.ofNat 2)&&true)) else (bif wr .i64 (p2.tdiv 8) != wr .i64 (7 * wr .i64 p1) then (decide (0≤p1)&&decide (p1 < Int.ofNat 2)&&(decide (0≤x.fst)&&decide (x.fst < Int.ofNat 2)&&true)) else (decide (0≤wr .i64 (wr .i64 (56 * wr .i64 p1)+wr .i64 (p3.getD x.fst.toNat 0)))&&decide (wr .i64 (wr .i64 (56 * wr .i64 p1)+wr .i64 (p3.getD x.fst.toNat 0)) < Int.ofNat 64)&&(bif x.snd.board.getD (scale 1 (wr .i64 (wr .i64 (56 * wr .i64 p1)+wr .i64 (p3.getD x.fst.toNat 0)))).toNat 0 != N101 p1 4 then (decide (0≤p1)&&decide (p1 < Int.ofNat 2)&&(decide (0≤x.fst)&&decide (x.fst < Int.ofNat 2)&&true)) else true))))) else (bif decide (p2 < 0) then (decide (0≤p1)&&decide (p1 < Int.ofNat 2)&&(decide (0≤x.fst)&&decide (x.fst < Int.ofNat 2)&&true)) else (bif wr .i64 (p2.tdiv 8) != wr .i64 (7 * wr .i64 p1) then (decide (0≤p1)&&decide (p1 < Int.ofNat 2)&&(decide (0≤x.fst)&&decide (x.fst < Int.ofNat 2)&&true)) else (decide (0≤wr .i64 (wr .i64 (56 * wr .i64 p1)+wr .i64 (p3.getD x.fst.toNat 0)))&&decide (wr .i64 (wr .i64 (56 * wr .i64 p1)+wr .i64 (p3.getD x.fst.toNat 0)) < Int.ofNat 64)&&(bif x.snd.board.getD (scale 1 (wr .i64 (wr .i64 (56 * wr .i64 p1)+wr .i64 (p3.getD x.fst.toNat 0)))).toNat 0 != N101 p1 4 then (decide (0≤p1)&&decide (p1 < Int.ofNat 2)&&(decide (0≤x.fst)&&decide (x.fst < Int.ofNat 2)&&true)) else true))))))))) else true)
noncomputable def lp22_6 (p1:Int) (p2:Int) (p3:(List Int)) (p4:Pos) (p5:Mv) (p6:Pos) (p7:Mv) (p8:Int) (x:(Int×Pos)):Option ((Int×Bool×Pos)):=itl (fun x=>bif okL22_6 p1 p2 p3 p4 p5 p6 p7 p8 x then st22_6 p1 p2 p3 p4 p5 p6 p7 p8 x else .bad) many x
abbrev D22_6 {α:Type} (k:Int→Int→(List Int)→Pos→Mv→Pos→Mv→Int→(Int×Pos)→α) (s:St):α:=wP s 0 fun q0=>wP s 3 fun q3=>wM s 1 fun q1=>k (tI (tT s 2)) (tI (tT s 3)) (tN (tX (tA (tT s 46)) 0)) q0 q1 (Kz.Pos.mk (tI (tH s 3 10)) (tN (tH s 3 11)) (tU (tH s 3 12)) (tN (tH s 3 13)) (tI (tH s 3 14)) (tN (tH s 3 15)) (tI (tH s 3 16)) (tN (tH s 3 17)) (tI (tH s 3 18)) (tI (tH s 3 19))) (Kz.Mv.mk (tI (tH s 3 20)) (tI (tH s 3 21)) (tI (tH s 3 22)) (tI (tH s 3 23)) (tB (tH s 3 24))) (tI (tH s 3 25)) ((tI (tT s 47)),q3)
theorem L22_6 (p1:Int) (p2:Int) (p3:(List Int)) (p4:Pos) (p5:Mv) (p6:Pos) (p7:Mv) (p8:Int) (x:(Int×Pos)) (r:(Int×Bool×Pos)) (h:lp22_6 p1 p2 p3 p4 p5 p6 p7 p8 x=some r):LSpec Pz (bodL Pz 49 7) (S22_6 p1 p2 p3 p4 p5 p6 p7 p8 x) (O22_6 p1 p2 p3 p4 p5 p6 p7 p8 r):=LSpec.smd (m:=12) (fn:=49) hB22_6 (D22_6 fun _ _ _ _ _ _ _ _ x=>some x) (fun o=>match o with | .exit 2 s=>wP s 3 fun q3=>some ((tI (tT s 47)),(tB (tT s 48)),q3) | _=>none) (fun _=>rfl) (fun _=>by kernel_rfl) (fun _=>by kernel_rfl) (fun _=>by kernel_rfl) (fun _=>by kernel_rfl) many x r h
noncomputable def F22_6 (b:Code) (s:St):Tr Out:=D22_6 (fun p1 p2 p3 p4 p5 p6 p7 p8 x=>lk1 b (bodL Pz 49 7) s (S22_6 p1 p2 p3 p4 p5 p6 p7 p8 x) (lp22_6 p1 p2 p3 p4 p5 p6 p7 p8 x) (O22_6 p1 p2 p3 p4 p5 p6 p7 p8)) s
theorem sF22_6:∀ b,LSound Pz b (F22_6 b):=fun _ _ _ h=>lk1_ok (L22_6 _ _ _ _ _ _ _ _ _) h
noncomputable def B22_7:Base:=baseOf Pz (fun f i=>lkC f i K22) [(109,G109),(45,G45),(41,G41),(40,G40),(66,G66),(91,G91),(99,G99),(100,G100),(101,G101),(103,G103),(65,G65),(104,G104),(106,G106),(107,G107),(108,G108)] [(48,2,F22_3),(49,7,F22_6)] [(46,FF22_1),(47,FF22_2),(48,FF22_4)]
theorem hB22_7:BOk B22_7:=base_ok named_z ⟨s109,s45,s41,s40,s66,s91,s99,s100,s101,s103,s65,s104,s106,s107,s108,trivial⟩ ⟨sF22_3,sF22_6,trivial⟩ ⟨sFF22_1,sFF22_2,sFF22_4,trivial⟩
noncomputable def S22_7 (p1:Pos) (p2:Mv) (p3:Pos) (p4:Mv) (p5:Int) (x:(Int×Pos)):St:=St.mk (AV.ptr 3 0::AV.any::AV.int .u8 x.fst::(an 118 [])) (Hp.mk [(pc p1 []),[AV.int .i8 p2.frm,AV.int .i8 p2.to,AV.int .u8 p2.pro,AV.int .u8 p2.drp,AV.bool p2.cas],[AV.int .u8 0,AV.ints .u8 64 (li (List.replicate 64 0)),AV.u64 0,AV.ints .u8 12 (li [0,0,0,0,0,0,0,0,0,0,0,0]),AV.int .u8 0,AV.ints .i8 4 (li [0,0,0,0]),AV.int .i8 0,AV.ints .u8 2 (li [0,0]),AV.int .i64 0,AV.int .i64 0],(pc x.snd (pc p3 [AV.int .i8 p4.frm,AV.int .i8 p4.to,AV.int .u8 p4.pro,AV.int .u8 p4.drp,AV.bool p4.cas,AV.int .i64 p5]))] [] [] 0 0 0)
noncomputable def O22_7 (p1:Pos) (p2:Mv) (p3:Pos) (p4:Mv) (p5:Int):(Int×Bool×Pos)→Out:=fun y=>.exit 0 (St.mk (AV.ptr 3 0::AV.any::AV.int .u8 y.fst::(an 28 (AV.bool y.snd.fst::(an 89 [])))) (Hp.mk [(pc p1 []),[AV.int .i8 p2.frm,AV.int .i8 p2.to,AV.int .u8 p2.pro,AV.int .u8 p2.drp,AV.bool p2.cas],[AV.int .u8 0,AV.ints .u8 64 (li (List.replicate 64 0)),AV.u64 0,AV.ints .u8 12 (li [0,0,0,0,0,0,0,0,0,0,0,0]),AV.int .u8 0,AV.ints .i8 4 (li [0,0,0,0]),AV.int .i8 0,AV.ints .u8 2 (li [0,0]),AV.int .i64 0,AV.int .i64 0],(pc y.snd.snd (pc p3 [AV.int .i8 p4.frm,AV.int .i8 p4.to,AV.int .u8 p4.pro,AV.int .u8 p4.drp,AV.bool p4.cas,AV.int .i64 p5]))] [] [] 0 0 0))
noncomputable def st22_7 (p1:Pos) (p2:Mv) (p3:Pos) (p4:Mv) (p5:Int) (x:(Int×Pos)):Stp (Int×Pos) ((Int×Bool×Pos)):=(bif decide (x.fst≤1) then (Stp.go (wr .u8 (x.fst+1),((lp22_6 x.fst (N106 x.snd x.fst 6) (List.take 2 (List.drop (scale 2 x.fst).toNat x.snd.rooks)) p1 p2 p3 p4 p5 (0,x.snd)).getD default).snd.snd)) else (Stp.out ((x.fst,decide (x.fst≤1),x.snd))))
noncomputable def okL22_7 (p1:Pos) (p2:Mv) (p3:Pos) (p4:Mv) (p5:Int) (x:(Int×Pos)):Bool:=(bif decide (x.fst≤1) then (ok106 (x.snd) (x.fst) (6)&&(decide (0≤x.fst)&&decide (x.fst < Int.ofNat 2)&&((lp22_6 x.fst (N106 x.snd x.fst 6) (List.take 2 (List.drop (scale 2 x.fst).toNat x.snd.rooks)) p1 p2 p3 p4 p5 (0,x.snd)).isSome&&true))) else true)
noncomputable def lp22_7 (p1:Pos) (p2:Mv) (p3:Pos) (p4:Mv) (p5:Int) (x:(Int×Pos)):Option ((Int×Bool×Pos)):=itl (fun x=>bif okL22_7 p1 p2 p3 p4 p5 x then st22_7 p1 p2 p3 p4 p5 x else .bad) many x
abbrev D22_7 {α:Type} (k:Pos→Mv→Pos→Mv→Int→(Int×Pos)→α) (s:St):α:=wP s 0 fun q0=>wP s 3 fun q3=>wM s 1 fun q1=>k q0 q1 (Kz.Pos.mk (tI (tH s 3 10)) (tN (tH s 3 11)) (tU (tH s 3 12)) (tN (tH s 3 13)) (tI (tH s 3 14)) (tN (tH s 3 15)) (tI (tH s 3 16)) (tN (tH s 3 17)) (tI (tH s 3 18)) (tI (tH s 3 19))) (Kz.Mv.mk (tI (tH s 3 20)) (tI (tH s 3 21)) (tI (tH s 3 22)) (tI (tH s 3 23)) (tB (tH s 3 24))) (tI (tH s 3 25)) ((tI (tT s 2)),q3)
theorem L22_7 (p1:Pos) (p2:Mv) (p3:Pos) (p4:Mv) (p5:Int) (x:(Int×Pos)) (r:(Int×Bool×Pos)) (h:lp22_7 p1 p2 p3 p4 p5 x=some r):LSpec Pz (bodL Pz 49 3) (S22_7 p1 p2 p3 p4 p5 x) (O22_7 p1 p2 p3 p4 p5 r):=LSpec.smd (m:=12) (fn:=49) hB22_7 (D22_7 fun _ _ _ _ _ x=>some x) (fun o=>match o with | .exit 0 s=>wP s 3 fun q3=>some ((tI (tT s 2)),(tB (tT s 31)),q3) | _=>none) (fun _=>rfl) (fun _=>by kernel_rfl) (fun _=>by kernel_rfl) (fun _=>by kernel_rfl) (fun _=>by kernel_rfl) many x r h
noncomputable def F22_7 (b:Code) (s:St):Tr Out:=D22_7 (fun p1 p2 p3 p4 p5 x=>lk1 b (bodL Pz 49 3) s (S22_7 p1 p2 p3 p4 p5 x) (lp22_7 p1 p2 p3 p4 p5 x) (O22_7 p1 p2 p3 p4 p5)) s
theorem sF22_7:∀ b,LSound Pz b (F22_7 b):=fun _ _ _ h=>lk1_ok (L22_7 _ _ _ _ _ _) h
noncomputable def B22_8:Base:=baseOf Pz (fun f i=>lkC f i K22) [(109,G109),(45,G45),(41,G41),(40,G40),(66,G66),(91,G91),(99,G99),(100,G100),(101,G101),(103,G103),(65,G65),(104,G104),(106,G106),(107,G107),(108,G108)] [(48,2,F22_3),(49,7,F22_6),(49,3,F22_7)] [(46,FF22_1),(47,FF22_2),(48,FF22_4)]
theorem hB22_8:BOk B22_8:=base_ok named_z ⟨s109,s45,s41,s40,s66,s91,s99,s100,s101,s103,s65,s104,s106,s107,s108,trivial⟩ ⟨sF22_3,sF22_6,sF22_7,trivial⟩ ⟨sFF22_1,sFF22_2,sFF22_4,trivial⟩
noncomputable def A22_8 (p1:Pos) (p2:Mv) (p3:Pos) (p4:Pos) (p5:Mv) (p6:Int):List AV:=[AV.ptr 3 0]
noncomputable def H22_8 (p1:Pos) (p2:Mv) (p3:Pos) (p4:Pos) (p5:Mv) (p6:Int):Hp:=Hp.mk [(pc p1 []),[AV.int .i8 p2.frm,AV.int .i8 p2.to,AV.int .u8 p2.pro,AV.int .u8 p2.drp,AV.bool p2.cas],[AV.int .u8 0,AV.ints .u8 64 (li (List.replicate 64 0)),AV.u64 0,AV.ints .u8 12 (li [0,0,0,0,0,0,0,0,0,0,0,0]),AV.int .u8 0,AV.ints .i8 4 (li [0,0,0,0]),AV.int .i8 0,AV.ints .u8 2 (li [0,0]),AV.int .i64 0,AV.int .i64 0],(pc p3 (pc p4 [AV.int .i8 p5.frm,AV.int .i8 p5.to,AV.int .u8 p5.pro,AV.int .u8 p5.drp,AV.bool p5.cas,AV.int .i64 p6]))] [] [] 0 0 0
noncomputable def O22_8 (p1:Pos) (p2:Mv) (p3:Pos) (p4:Pos) (p5:Mv) (p6:Int) (y:(Pos)):FRes := .ret (AV.tuple []) (Hp.mk [(pc p1 []),[AV.int .i8 p2.frm,AV.int .i8 p2.to,AV.int .u8 p2.pro,AV.int .u8 p2.drp,AV.bool p2.cas],[AV.int .u8 0,AV.ints .u8 64 (li (List.replicate 64 0)),AV.u64 0,AV.ints .u8 12 (li [0,0,0,0,0,0,0,0,0,0,0,0]),AV.int .u8 0,AV.ints .i8 4 (li [0,0,0,0]),AV.int .i8 0,AV.ints .u8 2 (li [0,0]),AV.int .i64 0,AV.int .i64 0],(pc y (pc p4 [AV.int .i8 p5.frm,AV.int .i8 p5.to,AV.int .u8 p5.pro,AV.int .u8 p5.drp,AV.bool p5.cas,AV.int .i64 p6]))] [] [] 0 0 0)
noncomputable def vF22_8 (p1:Pos) (p2:Mv) (p3:Pos) (p4:Pos) (p5:Mv) (p6:Int):(Pos):=(bif p5.drp != 0 then (bif p5.drp==6 then (bif p5.drp==0 then (((lp22_7 p1 p2 p4 p5 p6 (0,Pos.mk p3.variant p3.board p3.promoted p3.pockets p3.turn (List.take (scale 2 p3.turn).toNat p3.rooks++li [-1,-1]++List.drop ((scale 2 p3.turn).toNat+2) p3.rooks) p3.passing p3.checks p3.half p3.full)).getD default).snd.snd) else (((lp22_7 p1 p2 p4 p5 p6 (0,p3)).getD default).snd.snd)) else (((lp22_7 p1 p2 p4 p5 p6 (0,p3)).getD default).snd.snd)) else (bif N91 (p4.board.getD (scale 1 p5.frm).toNat 0)==6 then (bif p5.drp==0 then (((lp22_7 p1 p2 p4 p5 p6 (0,Pos.mk p3.variant p3.board p3.promoted p3.pockets p3.turn (List.take (scale 2 p3.turn).toNat p3.rooks++li [-1,-1]++List.drop ((scale 2 p3.turn).toNat+2) p3.rooks) p3.passing p3.checks p3.half p3.full)).getD default).snd.snd) else (((lp22_7 p1 p2 p4 p5 p6 (0,p3)).getD default).snd.snd)) else (((lp22_7 p1 p2 p4 p5 p6 (0,p3)).getD default).snd.snd)))
noncomputable def okF22_8 (p1:Pos) (p2:Mv) (p3:Pos) (p4:Pos) (p5:Mv) (p6:Int):Bool:=(bif p5.drp != 0 then (bif p5.drp==6 then (bif p5.drp==0 then (decide (0≤p3.turn)&&decide (p3.turn < Int.ofNat 2)&&((lp22_7 p1 p2 p4 p5 p6 (0,Pos.mk p3.variant p3.board p3.promoted p3.pockets p3.turn (List.take (scale 2 p3.turn).toNat p3.rooks++li [-1,-1]++List.drop ((scale 2 p3.turn).toNat+2) p3.rooks) p3.passing p3.checks p3.half p3.full)).isSome&&true)) else ((lp22_7 p1 p2 p4 p5 p6 (0,p3)).isSome&&true)) else ((lp22_7 p1 p2 p4 p5 p6 (0,p3)).isSome&&true)) else (decide (0≤p5.frm)&&decide (p5.frm < Int.ofNat 64)&&(bif N91 (p4.board.getD (scale 1 p5.frm).toNat 0)==6 then (bif p5.drp==0 then (decide (0≤p3.turn)&&decide (p3.turn < Int.ofNat 2)&&((lp22_7 p1 p2 p4 p5 p6 (0,Pos.mk p3.variant p3.board p3.promoted p3.pockets p3.turn (List.take (scale 2 p3.turn).toNat p3.rooks++li [-1,-1]++List.drop ((scale 2 p3.turn).toNat+2) p3.rooks) p3.passing p3.checks p3.half p3.full)).isSome&&true)) else ((lp22_7 p1 p2 p4 p5 p6 (0,p3)).isSome&&true)) else ((lp22_7 p1 p2 p4 p5 p6 (0,p3)).isSome&&true))))
abbrev DF22_8 {α:Type} (k:Pos→Mv→Pos→Pos→Mv→Int→α) (s:St):α:=wP s 0 fun q0=>wP s 3 fun q3=>wM s 1 fun q1=>k q0 q1 q3 (Kz.Pos.mk (tI (tH s 3 10)) (tN (tH s 3 11)) (tU (tH s 3 12)) (tN (tH s 3 13)) (tI (tH s 3 14)) (tN (tH s 3 15)) (tI (tH s 3 16)) (tN (tH s 3 17)) (tI (tH s 3 18)) (tI (tH s 3 19))) (Kz.Mv.mk (tI (tH s 3 20)) (tI (tH s 3 21)) (tI (tH s 3 22)) (tI (tH s 3 23)) (tB (tH s 3 24))) (tI (tH s 3 25))
theorem PF22_8 (p1:Pos) (p2:Mv) (p3:Pos) (p4:Pos) (p5:Mv) (p6:Int) (h:okF22_8 p1 p2 p3 p4 p5 p6=true):FSpec Pz 49 (A22_8 p1 p2 p3 p4 p5 p6) (H22_8 p1 p2 p3 p4 p5 p6) (O22_8 p1 p2 p3 p4 p5 p6 (vF22_8 p1 p2 p3 p4 p5 p6))∧∃ fn,Pz.funcs[49]?=some fn∧fn.body.isSome=true:=fs_sumd (n:=14) (O:=O22_8 p1 p2 p3 p4 p5 p6) hB22_8 (fun o=>match o with | .ret v h=>(let s:St:=⟨[v],h⟩; wP s 3 fun q3=>some q3) | _=>none) (fun _=>rfl) (by kernel_rfl) (by kernel_rfl) (by kernel_rfl) (by kernel_rfl) h
noncomputable def FF22_8 (xs:List AV) (h:Hp):Tr FRes:=DF22_8 (fun p1 p2 p3 p4 p5 p6=>fk xs h (A22_8 p1 p2 p3 p4 p5 p6) (H22_8 p1 p2 p3 p4 p5 p6) (okF22_8 p1 p2 p3 p4 p5 p6) (O22_8 p1 p2 p3 p4 p5 p6) (vF22_8 p1 p2 p3 p4 p5 p6)) ⟨xs,h⟩
theorem sFF22_8:FSound Pz 49 FF22_8:=fun _ _ _ h=>fk_ok (PF22_8 _ _ _ _ _ _) h
noncomputable def B22_9:Base:=baseOf Pz (fun f i=>lkC f i K22) [(109,G109),(45,G45),(41,G41),(40,G40),(66,G66),(91,G91),(99,G99),(100,G100),(101,G101),(103,G103),(65,G65),(104,G104),(106,G106),(107,G107),(108,G108)] [(48,2,F22_3),(49,7,F22_6),(49,3,F22_7)] [(46,FF22_1),(47,FF22_2),(48,FF22_4),(49,FF22_8)]
theorem hB22_9:BOk B22_9:=base_ok named_z ⟨s109,s45,s41,s40,s66,s91,s99,s100,s101,s103,s65,s104,s106,s107,s108,trivial⟩ ⟨sF22_3,sF22_6,sF22_7,trivial⟩ ⟨sFF22_1,sFF22_2,sFF22_4,sFF22_8,trivial⟩
noncomputable def A22_9 (p1:Pos) (p2:Mv) (p3:Pos) (p4:Pos) (p5:Mv) (p6:Int):List AV:=[AV.ptr 3 0]
noncomputable def H22_9 (p1:Pos) (p2:Mv) (p3:Pos) (p4:Pos) (p5:Mv) (p6:Int):Hp:=Hp.mk [(pc p1 []),[AV.int .i8 p2.frm,AV.int .i8 p2.to,AV.int .u8 p2.pro,AV.int .u8 p2.drp,AV.bool p2.cas],[AV.int .u8 0,AV.ints .u8 64 (li (List.replicate 64 0)),AV.u64 0,AV.ints .u8 12 (li [0,0,0,0,0,0,0,0,0,0,0,0]),AV.int .u8 0,AV.ints .i8 4 (li [0,0,0,0]),AV.int .i8 0,AV.ints .u8 2 (li [0,0]),AV.int .i64 0,AV.int .i64 0],(pc p3 (pc p4 [AV.int .i8 p5.frm,AV.int .i8 p5.to,AV.int .u8 p5.pro,AV.int .u8 p5.drp,AV.bool p5.cas,AV.int .i64 p6]))] [] [] 0 0 0
noncomputable def O22_9 (p1:Pos) (p2:Mv) (p3:Pos) (p4:Pos) (p5:Mv) (p6:Int) (y:(Pos)):FRes := .ret (AV.tuple []) (Hp.mk [(pc p1 []),[AV.int .i8 p2.frm,AV.int .i8 p2.to,AV.int .u8 p2.pro,AV.int .u8 p2.drp,AV.bool p2.cas],[AV.int .u8 0,AV.ints .u8 64 (li (List.replicate 64 0)),AV.u64 0,AV.ints .u8 12 (li [0,0,0,0,0,0,0,0,0,0,0,0]),AV.int .u8 0,AV.ints .i8 4 (li [0,0,0,0]),AV.int .i8 0,AV.ints .u8 2 (li [0,0]),AV.int .i64 0,AV.int .i64 0],(pc y (pc p4 [AV.int .i8 p5.frm,AV.int .i8 p5.to,AV.int .u8 p5.pro,AV.int .u8 p5.drp,AV.bool p5.cas,AV.int .i64 p6]))] [] [] 0 0 0)
noncomputable def vF22_9 (p1:Pos) (p2:Mv) (p3:Pos) (p4:Pos) (p5:Mv) (p6:Int):(Pos):=(bif p5.drp != 0 then (bif p5.drp != 1 then (Pos.mk p3.variant p3.board p3.promoted p3.pockets p3.turn p3.rooks (-1) p3.checks p3.half p3.full) else (bif p5.drp != 0 then (Pos.mk p3.variant p3.board p3.promoted p3.pockets p3.turn p3.rooks (-1) p3.checks p3.half p3.full) else (bif wr .i8 (p5.to - p5.frm) != 16 then (bif wr .i8 (p5.frm - p5.to) != 16 then (Pos.mk p3.variant p3.board p3.promoted p3.pockets p3.turn p3.rooks (-1) p3.checks p3.half p3.full) else (bif wr .i8 (p5.frm.tdiv 8) != wr .i8 (wr .i8 (7 * wr .i8 p3.turn)+1) then (bif wr .i8 (p5.frm.tdiv 8) != wr .i8 (wr .i8 (7 * wr .i8 p3.turn) - 1) then (Pos.mk p3.variant p3.board p3.promoted p3.pockets p3.turn p3.rooks (-1) p3.checks p3.half p3.full) else (bif N107 p3.turn (wr .i64 (wr .i8 ((wr .i8 (p5.frm+p5.to)).tdiv 2)))&&&N66 (Pos.mk p3.variant p3.board p3.promoted p3.pockets p3.turn p3.rooks (-1) p3.checks p3.half p3.full) (wr .u8 (1 - p3.turn)) 1 != 0#64 then (Pos.mk p3.variant p3.board p3.promoted p3.pockets p3.turn p3.rooks (wr .i8 ((wr .i8 (p5.frm+p5.to)).tdiv 2)) p3.checks p3.half p3.full) else (Pos.mk p3.variant p3.board p3.promoted p3.pockets p3.turn p3.rooks (-1) p3.checks p3.half p3.full))) else (bif N107 p3.turn (wr .i64 (wr .i8 ((wr .i8 (p5.frm+p5.to)).tdiv 2)))&&&N66 (Pos.mk p3.variant p3.board p3.promoted p3.pockets p3.turn p3.rooks (-1) p3.checks p3.half p3.full) (wr .u8 (1 - p3.turn)) 1 != 0#64 then (Pos.mk p3.variant p3.board p3.promoted p3.pockets p3.turn p3.rooks (wr .i8 ((wr .i8 (p5.frm+p5.to)).tdiv 2)) p3.checks p3.half p3.full) else (Pos.mk p3.variant p3.board p3.promoted p3.pockets p3.turn p3.rooks (-1) p3.checks p3.half p3.full)))) else (bif wr .i8 (p5.frm.tdiv 8) != wr .i8 (wr .i8 (7 * wr .i8 p3.turn)+1) then (bif wr .i8 (p5.frm.tdiv 8) != wr .i8 (wr .i8 (7 * wr .i8 p3.turn) - 1) then (Pos.mk p3.variant p3.board p3.promoted p3.pockets p3.turn p3.rooks (-1) p3.checks p3.half p3.full) else (bif N107 p3.turn (wr .i64 (wr .i8 ((wr .i8 (p5.frm+p5.to)).tdiv 2)))&&&N66 (Pos.mk p3.variant p3.board p3.promoted p3.pockets p3.turn p3.rooks (-1) p3.checks p3.half p3.full) (wr .u8 (1 - p3.turn)) 1 != 0#64 then (Pos.mk p3.variant p3.board p3.promoted p3.pockets p3.turn p3.rooks (wr .i8 ((wr .i8 (p5.frm+p5.to)).tdiv 2)) p3.checks p3.half p3.full) else (Pos.mk p3.variant p3.board p3.promoted p3.pockets p3.turn p3.rooks (-1) p3.checks p3.half p3.full))) else (bif N107 p3.turn (wr .i64 (wr .i8 ((wr .i8 (p5.frm+p5.to)).tdiv 2)))&&&N66 (Pos.mk p3.variant p3.board p3.promoted p3.pockets p3.turn p3.rooks (-1) p3.checks p3.half p3.full) (wr .u8 (1 - p3.turn)) 1 != 0#64 then (Pos.mk p3.variant p3.board p3.promoted p3.pockets p3.turn p3.rooks (wr .i8 ((wr .i8 (p5.frm+p5.to)).tdiv 2)) p3.checks p3.half p3.full) else (Pos.mk p3.variant p3.board p3.promoted p3.pockets p3.turn p3.rooks (-1) p3.checks p3.half p3.full)))))) else (bif N91 (p4.board.getD (scale 1 p5.frm).toNat 0) != 1 then (Pos.mk p3.variant p3.board p3.promoted p3.pockets p3.turn p3.rooks (-1) p3.checks p3.half p3.full) else (bif p5.drp != 0 then (Pos.mk p3.variant p3.board p3.promoted p3.pockets p3.turn p3.rooks (-1) p3.checks p3.half p3.full) else (bif wr .i8 (p5.to - p5.frm) != 16 then (bif wr .i8 (p5.frm - p5.to) != 16 then (Pos.mk p3.variant p3.board p3.promoted p3.pockets p3.turn p3.rooks (-1) p3.checks p3.half p3.full) else (bif wr .i8 (p5.frm.tdiv 8) != wr .i8 (wr .i8 (7 * wr .i8 p3.turn)+1) then (bif wr .i8 (p5.frm.tdiv 8) != wr .i8 (wr .i8 (7 * wr .i8 p3.turn) - 1) then (Pos.mk p3.variant p3.board p3.promoted p3.pockets p3.turn p3.rooks (-1) p3.checks p3.half p3.full) else (bif N107 p3.turn (wr .i64 (wr .i8 ((wr .i8 (p5.frm+p5.to)).tdiv 2)))&&&N66 (Pos.mk p3.variant p3.board p3.promoted p3.pockets p3.turn p3.rooks (-1) p3.checks p3.half p3.full) (wr .u8 (1 - p3.turn)) 1 != 0#64 then (Pos.mk p3.variant p3.board p3.promoted p3.pockets p3.turn p3.rooks (wr .i8 ((wr .i8 (p5.frm+p5.to)).tdiv 2)) p3.checks p3.half p3.full) else (Pos.mk p3.variant p3.board p3.promoted p3.pockets p3.turn p3.rooks (-1) p3.checks p3.half p3.full))) else (bif N107 p3.turn (wr .i64 (wr .i8 ((wr .i8 (p5.frm+p5.to)).tdiv 2)))&&&N66 (Pos.mk p3.variant p3.board p3.promoted p3.pockets p3.turn p3.rooks (-1) p3.checks p3.half p3.full) (wr .u8 (1 - p3.turn)) 1 != 0#64 then (Pos.mk p3.variant p3.board p3.promoted p3.pockets p3.turn p3.rooks (wr .i8 ((wr .i8 (p5.frm+p5.to)).tdiv 2)) p3.checks p3.half p3.full) else (Pos.mk p3.variant p3.board p3.promoted p3.pockets p3.turn p3.rooks (-1) p3.checks p3.half p3.full)))) else (bif wr .i8 (p5.frm.tdiv 8) != wr .i8 (wr .i8 (7 * wr .i8 p3.turn)+1) then (bif wr .i8 (p5.frm.tdiv 8) != wr .i8 (wr .i8 (7 * wr .i8 p3.turn) - 1) then (Pos.mk p3.variant p3.board p3.promoted p3.pockets p3.turn p3.rooks (-1) p3.checks p3.half p3.full) else (bif N107 p3.turn (wr .i64 (wr .i8 ((wr .i8 (p5.frm+p5.to)).tdiv 2)))&&&N66 (Pos.mk p3.variant p3.board p3.promoted p3.pockets p3.turn p3.rooks (-1) p3.checks p3.half p3.full) (wr .u8 (1 - p3.turn)) 1 != 0#64 then (Pos.mk p3.variant p3.board p3.promoted p3.pockets p3.turn p3.rooks (wr .i8 ((wr .i8 (p5.frm+p5.to)).tdiv 2)) p3.checks p3.half p3.full) else (Pos.mk p3.variant p3.board p3.promoted p3.pockets p3.turn p3.rooks (-1) p3.checks p3.half p3.full))) else (bif N107 p3.turn (wr .i64 (wr .i8 ((wr .i8 (p5.frm+p5.to)).tdiv 2)))&&&N66 (Pos.mk p3.variant p3.board p3.promoted p3.pockets p3.turn p3.rooks (-1) p3.checks p3.half p3.full) (wr .u8 (1 - p3.turn)) 1 != 0#64 then (Pos.mk p3.variant p3.board p3.promoted p3.pockets p3.turn p3.rooks (wr .i8 ((wr .i8 (p5.frm+p5.to)).tdiv 2)) p3.checks p3.half p3.full) else (Pos.mk p3.variant p3.board p3.promoted p3.pockets p3.turn p3.rooks (-1) p3.checks p3.half p3.full)))))))
noncomputable def okF22_9 (p1:Pos) (p2:Mv) (p3:Pos) (p4:Pos) (p5:Mv) (p6:Int):Bool:=(bif p5.drp != 0 then (bif p5.drp != 1 then true else (bif p5.drp != 0 then true else (bif wr .i8 (p5.to - p5.frm) != 16 then (bif wr .i8 (p5.frm - p5.to) != 16 then true else (bif wr .i8 (p5.frm.tdiv 8) != wr .i8 (wr .i8 (7 * wr .i8 p3.turn)+1) then (bif wr .i8 (p5.frm.tdiv 8) != wr .i8 (wr .i8 (7 * wr .i8 p3.turn) - 1) then true else (ok107 (p3.turn) (wr .i64 (wr .i8 ((wr .i8 (p5.frm+p5.to)).tdiv 2)))&&(ok66 (Pos.mk p3.variant p3.board p3.promoted p3.pockets p3.turn p3.rooks (-1) p3.checks p3.half p3.full) (wr .u8 (1 - p3.turn)) (1)&&true))) else (ok107 (p3.turn) (wr .i64 (wr .i8 ((wr .i8 (p5.frm+p5.to)).tdiv 2)))&&(ok66 (Pos.mk p3.variant p3.board p3.promoted p3.pockets p3.turn p3.rooks (-1) p3.checks p3.half p3.full) (wr .u8 (1 - p3.turn)) (1)&&true)))) else (bif wr .i8 (p5.frm.tdiv 8) != wr .i8 (wr .i8 (7 * wr .i8 p3.turn)+1) then (bif wr .i8 (p5.frm.tdiv 8) != wr .i8 (wr .i8 (7 * wr .i8 p3.turn) - 1) then true else (ok107 (p3.turn) (wr .i64 (wr .i8 ((wr .i8 (p5.frm+p5.to)).tdiv 2)))&&(ok66 (Pos.mk p3.variant p3.board p3.promoted p3.pockets p3.turn p3.rooks (-1) p3.checks p3.half p3.full) (wr .u8 (1 - p3.turn)) (1)&&true))) else (ok107 (p3.turn) (wr .i64 (wr .i8 ((wr .i8 (p5.frm+p5.to)).tdiv 2)))&&(ok66 (Pos.mk p3.variant p3.board p3.promoted p3.pockets p3.turn p3.rooks (-1) p3.checks p3.half p3.full) (wr .u8 (1 - p3.turn)) (1)&&true)))))) else (decide (0≤p5.frm)&&decide (p5.frm < Int.ofNat 64)&&(bif N91 (p4.board.getD (scale 1 p5.frm).toNat 0) != 1 then true else (bif p5.drp != 0 then true else (bif wr .i8 (p5.to - p5.frm) != 16 then (bif wr .i8 (p5.frm - p5.to) != 16 then true else (bif wr .i8 (p5.frm.tdiv 8) != wr .i8 (wr .i8 (7 * wr .i8 p3.turn)+1) then (bif wr .i8 (p5.frm.tdiv 8) != wr .i8 (wr .i8 (7 * wr .i8 p3.turn) - 1) then true else (ok107 (p3.turn) (wr .i64 (wr .i8 ((wr .i8 (p5.frm+p5.to)).tdiv 2)))&&(ok66 (Pos.mk p3.variant p3.board p3.promoted p3.pockets p3.turn p3.rooks (-1) p3.checks p3.half p3.full) (wr .u8 (1 - p3.turn)) (1)&&true))) else (ok107 (p3.turn) (wr .i64 (wr .i8 ((wr .i8 (p5.frm+p5.to)).tdiv 2)))&&(ok66 (Pos.mk p3.variant p3.board p3.promoted p3.pockets p3.turn p3.rooks (-1) p3.checks p3.half p3.full) (wr .u8 (1 - p3.turn)) (1)&&true)))) else (bif wr .i8 (p5.frm.tdiv 8) != wr .i8 (wr .i8 (7 * wr .i8 p3.turn)+1) then (bif wr .i8 (p5.frm.tdiv 8) != wr .i8 (wr .i8 (7 * wr .i8 p3.turn) - 1) then true else (ok107 (p3.turn) (wr .i64 (wr .i8 ((wr .i8 (p5.frm+p5.to)).tdiv 2)))&&(ok66 (Pos.mk p3.variant p3.board p3.promoted p3.pockets p3.turn p3.rooks (-1) p3.checks p3.half p3.full) (wr .u8 (1 - p3.turn)) (1)&&true))) else (ok107 (p3.turn) (wr .i64 (wr .i8 ((wr .i8 (p5.frm+p5.to)).tdiv 2)))&&(ok66 (Pos.mk p3.variant p3.board p3.promoted p3.pockets p3.turn p3.rooks (-1) p3.checks p3.half p3.full) (wr .u8 (1 - p3.turn)) (1)&&true))))))))
abbrev DF22_9 {α:Type} (k:Pos→Mv→Pos→Pos→Mv→Int→α) (s:St):α:=wP s 0 fun q0=>wP s 3 fun q3=>wM s 1 fun q1=>k q0 q1 q3 (Kz.Pos.mk (tI (tH s 3 10)) (tN (tH s 3 11)) (tU (tH s 3 12)) (tN (tH s 3 13)) (tI (tH s 3 14)) (tN (tH s 3 15)) (tI (tH s 3 16)) (tN (tH s 3 17)) (tI (tH s 3 18)) (tI (tH s 3 19))) (Kz.Mv.mk (tI (tH s 3 20)) (tI (tH s 3 21)) (tI (tH s 3 22)) (tI (tH s 3 23)) (tB (tH s 3 24))) (tI (tH s 3 25))
theorem PF22_9 (p1:Pos) (p2:Mv) (p3:Pos) (p4:Pos) (p5:Mv) (p6:Int) (h:okF22_9 p1 p2 p3 p4 p5 p6=true):FSpec Pz 50 (A22_9 p1 p2 p3 p4 p5 p6) (H22_9 p1 p2 p3 p4 p5 p6) (O22_9 p1 p2 p3 p4 p5 p6 (vF22_9 p1 p2 p3 p4 p5 p6))∧∃ fn,Pz.funcs[50]?=some fn∧fn.body.isSome=true:=fs_sumd (n:=14) (O:=O22_9 p1 p2 p3 p4 p5 p6) hB22_9 (fun o=>match o with | .ret v h=>(let s:St:=⟨[v],h⟩; wP s 3 fun q3=>some q3) | _=>none) (fun _=>rfl) (by kernel_rfl) (by kernel_rfl) (by kernel_rfl) (by kernel_rfl) h
noncomputable def FF22_9 (xs:List AV) (h:Hp):Tr FRes:=DF22_9 (fun p1 p2 p3 p4 p5 p6=>fk xs h (A22_9 p1 p2 p3 p4 p5 p6) (H22_9 p1 p2 p3 p4 p5 p6) (okF22_9 p1 p2 p3 p4 p5 p6) (O22_9 p1 p2 p3 p4 p5 p6) (vF22_9 p1 p2 p3 p4 p5 p6)) ⟨xs,h⟩
theorem sFF22_9:FSound Pz 50 FF22_9:=fun _ _ _ h=>fk_ok (PF22_9 _ _ _ _ _ _) h
noncomputable def B22_10:Base:=baseOf Pz (fun f i=>lkC f i K22) [(109,G109),(45,G45),(41,G41),(40,G40),(66,G66),(91,G91),(99,G99),(100,G100),(101,G101),(103,G103),(65,G65),(104,G104),(106,G106),(107,G107),(108,G108)] [(48,2,F22_3),(49,7,F22_6),(49,3,F22_7)] [(46,FF22_1),(47,FF22_2),(48,FF22_4),(49,FF22_8),(50,FF22_9)]
theorem hB22_10:BOk B22_10:=base_ok named_z ⟨s109,s45,s41,s40,s66,s91,s99,s100,s101,s103,s65,s104,s106,s107,s108,trivial⟩ ⟨sF22_3,sF22_6,sF22_7,trivial⟩ ⟨sFF22_1,sFF22_2,sFF22_4,sFF22_8,sFF22_9,trivial⟩
noncomputable def A22_10 (p1:Pos) (p2:Mv) (p3:Pos) (p4:Pos) (p5:Mv) (p6:Int):List AV:=[AV.ptr 3 0]
noncomputable def H22_10 (p1:Pos) (p2:Mv) (p3:Pos) (p4:Pos) (p5:Mv) (p6:Int):Hp:=Hp.mk [(pc p1 []),[AV.int .i8 p2.frm,AV.int .i8 p2.to,AV.int .u8 p2.pro,AV.int .u8 p2.drp,AV.bool p2.cas],[AV.int .u8 0,AV.ints .u8 64 (li (List.replicate 64 0)),AV.u64 0,AV.ints .u8 12 (li [0,0,0,0,0,0,0,0,0,0,0,0]),AV.int .u8 0,AV.ints .i8 4 (li [0,0,0,0]),AV.int .i8 0,AV.ints .u8 2 (li [0,0]),AV.int .i64 0,AV.int .i64 0],(pc p3 (pc p4 [AV.int .i8 p5.frm,AV.int .i8 p5.to,AV.int .u8 p5.pro,AV.int .u8 p5.drp,AV.bool p5.cas,AV.int .i64 p6]))] [] [] 0 0 0
noncomputable def O22_10 (p1:Pos) (p2:Mv) (p3:Pos) (p4:Pos) (p5:Mv) (p6:Int) (y:(Pos)):FRes := .ret (AV.tuple []) (Hp.mk [(pc p1 []),[AV.int .i8 p2.frm,AV.int .i8 p2.to,AV.int .u8 p2.pro,AV.int .u8 p2.drp,AV.bool p2.cas],[AV.int .u8 0,AV.ints .u8 64 (li (List.replicate 64 0)),AV.u64 0,AV.ints .u8 12 (li [0,0,0,0,0,0,0,0,0,0,0,0]),AV.int .u8 0,AV.ints .i8 4 (li [0,0,0,0]),AV.int .i8 0,AV.ints .u8 2 (li [0,0]),AV.int .i64 0,AV.int .i64 0],(pc y (pc p4 [AV.int .i8 p5.frm,AV.int .i8 p5.to,AV.int .u8 p5.pro,AV.int .u8 p5.drp,AV.bool p5.cas,AV.int .i64 p6]))] [] [] 0 0 0)
noncomputable def vF22_10 (p1:Pos) (p2:Mv) (p3:Pos) (p4:Pos) (p5:Mv) (p6:Int):(Pos):=(bif p5.drp != 0 then (bif p5.drp==1 then (bif p3.turn==1 then (Pos.mk p3.variant p3.board p3.promoted p3.pockets p3.turn p3.rooks p3.passing p3.checks 0 (N108 p3.full)) else (Pos.mk p3.variant p3.board p3.promoted p3.pockets p3.turn p3.rooks p3.passing p3.checks 0 p3.full)) else (bif decide (p6 ≥ 0) then (bif p3.turn==1 then (Pos.mk p3.variant p3.board p3.promoted p3.pockets p3.turn p3.rooks p3.passing p3.checks 0 (N108 p3.full)) else (Pos.mk p3.variant p3.board p3.promoted p3.pockets p3.turn p3.rooks p3.passing p3.checks 0 p3.full)) else (bif p3.turn==1 then (Pos.mk p3.variant p3.board p3.promoted p3.pockets p3.turn p3.rooks p3.passing p3.checks (N108 p3.half) (N108 p3.full)) else (Pos.mk p3.variant p3.board p3.promoted p3.pockets p3.turn p3.rooks p3.passing p3.checks (N108 p3.half) p3.full)))) else (bif N91 (p4.board.getD (scale 1 p5.frm).toNat 0)==1 then (bif p3.turn==1 then (Pos.mk p3.variant p3.board p3.promoted p3.pockets p3.turn p3.rooks p3.passing p3.checks 0 (N108 p3.full)) else (Pos.mk p3.variant p3.board p3.promoted p3.pockets p3.turn p3.rooks p3.passing p3.checks 0 p3.full)) else (bif decide (p6 ≥ 0) then (bif p3.turn==1 then (Pos.mk p3.variant p3.board p3.promoted p3.pockets p3.turn p3.rooks p3.passing p3.checks 0 (N108 p3.full)) else (Pos.mk p3.variant p3.board p3.promoted p3.pockets p3.turn p3.rooks p3.passing p3.checks 0 p3.full)) else (bif p3.turn==1 then (Pos.mk p3.variant p3.board p3.promoted p3.pockets p3.turn p3.rooks p3.passing p3.checks (N108 p3.half) (N108 p3.full)) else (Pos.mk p3.variant p3.board p3.promoted p3.pockets p3.turn p3.rooks p3.passing p3.checks (N108 p3.half) p3.full)))))
noncomputable def okF22_10 (p1:Pos) (p2:Mv) (p3:Pos) (p4:Pos) (p5:Mv) (p6:Int):Bool:=(bif p5.drp != 0 then true else (decide (0≤p5.frm)&&decide (p5.frm < Int.ofNat 64)&&true))
abbrev DF22_10 {α:Type} (k:Pos→Mv→Pos→Pos→Mv→Int→α) (s:St):α:=wP s 0 fun q0=>wP s 3 fun q3=>wM s 1 fun q1=>k q0 q1 q3 (Kz.Pos.mk (tI (tH s 3 10)) (tN (tH s 3 11)) (tU (tH s 3 12)) (tN (tH s 3 13)) (tI (tH s 3 14)) (tN (tH s 3 15)) (tI (tH s 3 16)) (tN (tH s 3 17)) (tI (tH s 3 18)) (tI (tH s 3 19))) (Kz.Mv.mk (tI (tH s 3 20)) (tI (tH s 3 21)) (tI (tH s 3 22)) (tI (tH s 3 23)) (tB (tH s 3 24))) (tI (tH s 3 25))
theorem PF22_10 (p1:Pos) (p2:Mv) (p3:Pos) (p4:Pos) (p5:Mv) (p6:Int) (h:okF22_10 p1 p2 p3 p4 p5 p6=true):FSpec Pz 51 (A22_10 p1 p2 p3 p4 p5 p6) (H22_10 p1 p2 p3 p4 p5 p6) (O22_10 p1 p2 p3 p4 p5 p6 (vF22_10 p1 p2 p3 p4 p5 p6))∧∃ fn,Pz.funcs[51]?=some fn∧fn.body.isSome=true:=fs_sumd (n:=14) (O:=O22_10 p1 p2 p3 p4 p5 p6) hB22_10 (fun o=>match o with | .ret v h=>(let s:St:=⟨[v],h⟩; wP s 3 fun q3=>some q3) | _=>none) (fun _=>rfl) (by kernel_rfl) (by kernel_rfl) (by kernel_rfl) (by kernel_rfl) h
noncomputable def FF22_10 (xs:List AV) (h:Hp):Tr FRes:=DF22_10 (fun p1 p2 p3 p4 p5 p6=>fk xs h (A22_10 p1 p2 p3 p4 p5 p6) (H22_10 p1 p2 p3 p4 p5 p6) (okF22_10 p1 p2 p3 p4 p5 p6) (O22_10 p1 p2 p3 p4 p5 p6) (vF22_10 p1 p2 p3 p4 p5 p6)) ⟨xs,h⟩
theorem sFF22_10:FSound Pz 51 FF22_10:=fun _ _ _ h=>fk_ok (PF22_10 _ _ _ _ _ _) h
noncomputable def B22_11:Base:=baseOf Pz (fun f i=>lkC f i K22) [(109,G109),(45,G45),(41,G41),(40,G40),(66,G66),(91,G91),(99,G99),(100,G100),(101,G101),(103,G103),(65,G65),(104,G104),(106,G106),(107,G107),(108,G108)] [(48,2,F22_3),(49,7,F22_6),(49,3,F22_7)] [(46,FF22_1),(47,FF22_2),(48,FF22_4),(49,FF22_8),(50,FF22_9),(51,FF22_10)]
theorem hB22_11:BOk B22_11:=base_ok named_z ⟨s109,s45,s41,s40,s66,s91,s99,s100,s101,s103,s65,s104,s106,s107,s108,trivial⟩ ⟨sF22_3,sF22_6,sF22_7,trivial⟩ ⟨sFF22_1,sFF22_2,sFF22_4,sFF22_8,sFF22_9,sFF22_10,trivial⟩
noncomputable def A22_11 (p1:Pos) (p2:Mv) (p3:Pos) (p4:Pos) (p5:Mv) (p6:Int):List AV:=[AV.ptr 3 0]
noncomputable def H22_11 (p1:Pos) (p2:Mv) (p3:Pos) (p4:Pos) (p5:Mv) (p6:Int):Hp:=Hp.mk [(pc p1 []),[AV.int .i8 p2.frm,AV.int .i8 p2.to,AV.int .u8 p2.pro,AV.int .u8 p2.drp,AV.bool p2.cas],[AV.int .u8 0,AV.ints .u8 64 (li (List.replicate 64 0)),AV.u64 0,AV.ints .u8 12 (li [0,0,0,0,0,0,0,0,0,0,0,0]),AV.int .u8 0,AV.ints .i8 4 (li [0,0,0,0]),AV.int .i8 0,AV.ints .u8 2 (li [0,0]),AV.int .i64 0,AV.int .i64 0],(pc p3 (pc p4 [AV.int .i8 p5.frm,AV.int .i8 p5.to,AV.int .u8 p5.pro,AV.int .u8 p5.drp,AV.bool p5.cas,AV.int .i64 p6]))] [] [] 0 0 0
noncomputable def O22_11 (p1:Pos) (p2:Mv) (p3:Pos) (p4:Pos) (p5:Mv) (p6:Int) (y:(Pos)):FRes := .ret (AV.tuple []) (Hp.mk [(pc p1 []),[AV.int .i8 p2.frm,AV.int .i8 p2.to,AV.int .u8 p2.pro,AV.int .u8 p2.drp,AV.bool p2.cas],[AV.int .u8 0,AV.ints .u8 64 (li (List.replicate 64 0)),AV.u64 0,AV.ints .u8 12 (li [0,0,0,0,0,0,0,0,0,0,0,0]),AV.int .u8 0,AV.ints .i8 4 (li [0,0,0,0]),AV.int .i8 0,AV.ints .u8 2 (li [0,0]),AV.int .i64 0,AV.int .i64 0],(pc y (pc p4 [AV.int .i8 p5.frm,AV.int .i8 p5.to,AV.int .u8 p5.pro,AV.int .u8 p5.drp,AV.bool p5.cas,AV.int .i64 p6]))] [] [] 0 0 0)
noncomputable def vF22_11 (p1:Pos) (p2:Mv) (p3:Pos) (p4:Pos) (p5:Mv) (p6:Int):(Pos):=(bif p3.variant==5 then (bif decide (p3.checks.getD (scale 1 (wr .u8 (1 - wr .u8 (1 - p3.turn)))).toNat 0 < 3) then (bif N109 (Pos.mk p3.variant p3.board p3.promoted p3.pockets (wr .u8 (1 - p3.turn)) p3.rooks p3.passing p3.checks p3.half p3.full) (wr .u8 (1 - p3.turn)) then (Pos.mk p3.variant p3.board p3.promoted p3.pockets (wr .u8 (1 - p3.turn)) p3.rooks p3.passing (p3.checks.set (scale 1 (wr .u8 (1 - wr .u8 (1 - p3.turn)))).toNat (wr .u8 (p3.checks.getD (scale 1 (wr .u8 (1 - wr .u8 (1 - p3.turn)))).toNat 0+1))) p3.half p3.full) else (Pos.mk p3.variant p3.board p3.promoted p3.pockets (wr .u8 (1 - p3.turn)) p3.rooks p3.passing p3.checks p3.half p3.full)) else (Pos.mk p3.variant p3.board p3.promoted p3.pockets (wr .u8 (1 - p3.turn)) p3.rooks p3.passing p3.checks p3.half p3.full)) else (Pos.mk p3.variant p3.board p3.promoted p3.pockets (wr .u8 (1 - p3.turn)) p3.rooks p3.passing p3.checks p3.half p3.full))
noncomputable def okF22_11 (p1:Pos) (p2:Mv) (p3:Pos) (p4:Pos) (p5:Mv) (p6:Int):Bool:=(bif p3.variant==5 then (decide (0≤wr .u8 (1 - wr .u8 (1 - p3.turn)))&&decide (wr .u8 (1 - wr .u8 (1 - p3.turn)) < Int.ofNat 2)&&(bif decide (p3.checks.getD (scale 1 (wr .u8 (1 - wr .u8 (1 - p3.turn)))).toNat 0 < 3) then (ok109 (Pos.mk p3.variant p3.board p3.promoted p3.pockets (wr .u8 (1 - p3.turn)) p3.rooks p3.passing p3.checks p3.half p3.full) (wr .u8 (1 - p3.turn))&&(bif N109 (Pos.mk p3.variant p3.board p3.promoted p3.pockets (wr .u8 (1 - p3.turn)) p3.rooks p3.passing p3.checks p3.half p3.full) (wr .u8 (1 - p3.turn)) then (decide (0≤wr .u8 (1 - wr .u8 (1 - p3.turn)))&&decide (wr .u8 (1 - wr .u8 (1 - p3.turn)) < Int.ofNat 2)&&(decide (0≤wr .u8 (1 - wr .u8 (1 - p3.turn)))&&decide (wr .u8 (1 - wr .u8 (1 - p3.turn)) < Int.ofNat 2)&&true)) else true)) else true)) else true)
abbrev DF22_11 {α:Type} (k:Pos→Mv→Pos→Pos→Mv→Int→α) (s:St):α:=wP s 0 fun q0=>wP s 3 fun q3=>wM s 1 fun q1=>k q0 q1 q3 (Kz.Pos.mk (tI (tH s 3 10)) (tN (tH s 3 11)) (tU (tH s 3 12)) (tN (tH s 3 13)) (tI (tH s 3 14)) (tN (tH s 3 15)) (tI (tH s 3 16)) (tN (tH s 3 17)) (tI (tH s 3 18)) (tI (tH s 3 19))) (Kz.Mv.mk (tI (tH s 3 20)) (tI (tH s 3 21)) (tI (tH s 3 22)) (tI (tH s 3 23)) (tB (tH s 3 24))) (tI (tH s 3 25))
theorem PF22_11 (p1:Pos) (p2:Mv) (p3:Pos) (p4:Pos) (p5:Mv) (p6:Int) (h:okF22_11 p1 p2 p3 p4 p5 p6=true):FSpec Pz 52 (A22_11 p1 p2 p3 p4 p5 p6) (H22_11 p1 p2 p3 p4 p5 p6) (O22_11 p1 p2 p3 p4 p5 p6 (vF22_11 p1 p2 p3 p4 p5 p6))∧∃ fn,Pz.funcs[52]?=some fn∧fn.body.isSome=true:=fs_sumd (n:=14) (O:=O22_11 p1 p2 p3 p4 p5 p6) hB22_11 (fun o=>match o with | .ret v h=>(let s:St:=⟨[v],h⟩; wP s 3 fun q3=>some q3) | _=>none) (fun _=>rfl) (by kernel_rfl) (by kernel_rfl) (by kernel_rfl) (by kernel_rfl) h
noncomputable def FF22_11 (xs:List AV) (h:Hp):Tr FRes:=DF22_11 (fun p1 p2 p3 p4 p5 p6=>fk xs h (A22_11 p1 p2 p3 p4 p5 p6) (H22_11 p1 p2 p3 p4 p5 p6) (okF22_11 p1 p2 p3 p4 p5 p6) (O22_11 p1 p2 p3 p4 p5 p6) (vF22_11 p1 p2 p3 p4 p5 p6)) ⟨xs,h⟩
theorem sFF22_11:FSound Pz 52 FF22_11:=fun _ _ _ h=>fk_ok (PF22_11 _ _ _ _ _ _) h
noncomputable def B22:Base:=baseOf Pz (fun f i=>lkC f i K22) [(109,G109),(45,G45),(41,G41),(40,G40),(66,G66),(91,G91),(99,G99),(100,G100),(101,G101),(103,G103),(65,G65),(104,G104),(106,G106),(107,G107),(108,G108)] [(48,2,F22_3),(49,7,F22_6),(49,3,F22_7)] [(46,FF22_1),(47,FF22_2),(48,FF22_4),(49,FF22_8),(50,FF22_9),(51,FF22_10),(52,FF22_11)]
theorem hB22:BOk B22:=base_ok named_z ⟨s109,s45,s41,s40,s66,s91,s99,s100,s101,s103,s65,s104,s106,s107,s108,trivial⟩ ⟨sF22_3,sF22_6,sF22_7,trivial⟩ ⟨sFF22_1,sFF22_2,sFF22_4,sFF22_8,sFF22_9,sFF22_10,sFF22_11,trivial⟩
noncomputable def N22 (a:Pos) (b:Mv):(Pos×Bool):=(bif !N41 (N45 a) b then (⟨(a.variant),(a.board),(a.promoted),(a.pockets),(a.turn),(a.rooks),(a.passing),(a.checks),(a.half),(a.full)⟩,(false)) else (⟨((vF22_11 a b (vF22_10 a b (vF22_9 a b (vF22_8 a b (vF22_4 a b (vF22_2 a b (vF22_1 a b a a b (N40 a b)) a b (N40 a b)) a b (N40 a b)) a b (N40 a b)) a b (N40 a b)) a b (N40 a b)) a b (N40 a b)).variant),((vF22_11 a b (vF22_10 a b (vF22_9 a b (vF22_8 a b (vF22_4 a b (vF22_2 a b (vF22_1 a b a a b (N40 a b)) a b (N40 a b)) a b (N40 a b)) a b (N40 a b)) a b (N40 a b)) a b (N40 a b)) a b (N40 a b)).board),((vF22_11 a b (vF22_10 a b (vF22_9 a b (vF22_8 a b (vF22_4 a b (vF22_2 a b (vF22_1 a b a a b (N40 a b)) a b (N40 a b)) a b (N40 a b)) a b (N40 a b)) a b (N40 a b)) a b (N40 a b)) a b (N40 a b)).promoted),((vF22_11 a b (vF22_10 a b (vF22_9 a b (vF22_8 a b (vF22_4 a b (vF22_2 a b (vF22_1 a b a a b (N40 a b)) a b (N40 a b)) a b (N40 a b)) a b (N40 a b)) a b (N40 a b)) a b (N40 a b)) a b (N40 a b)).pockets),((vF22_11 a b (vF22_10 a b (vF22_9 a b (vF22_8 a b (vF22_4 a b (vF22_2 a b (vF22_1 a b a a b (N40 a b)) a b (N40 a b)) a b (N40 a b)) a b (N40 a b)) a b (N40 a b)) a b (N40 a b)) a b (N40 a b)).turn),((vF22_11 a b (vF22_10 a b (vF22_9 a b (vF22_8 a b (vF22_4 a b (vF22_2 a b (vF22_1 a b a a b (N40 a b)) a b (N40 a b)) a b (N40 a b)) a b (N40 a b)) a b (N40 a b)) a b (N40 a b)) a b (N40 a b)).rooks),((vF22_11 a b (vF22_10 a b (vF22_9 a b (vF22_8 a b (vF22_4 a b (vF22_2 a b (vF22_1 a b a a b (N40 a b)) a b (N40 a b)) a b (N40 a b)) a b (N40 a b)) a b (N40 a b)) a b (N40 a b)) a b (N40 a b)).passing),((vF22_11 a b (vF22_10 a b (vF22_9 a b (vF22_8 a b (vF22_4 a b (vF22_2 a b (vF22_1 a b a a b (N40 a b)) a b (N40 a b)) a b (N40 a b)) a b (N40 a b)) a b (N40 a b)) a b (N40 a b)) a b (N40 a b)).checks),((vF22_11 a b (vF22_10 a b (vF22_9 a b (vF22_8 a b (vF22_4 a b (vF22_2 a b (vF22_1 a b a a b (N40 a b)) a b (N40 a b)) a b (N40 a b)) a b (N40 a b)) a b (N40 a b)) a b (N40 a b)) a b (N40 a b)).half),((vF22_11 a b (vF22_10 a b (vF22_9 a b (vF22_8 a b (vF22_4 a b (vF22_2 a b (vF22_1 a b a a b (N40 a b)) a b (N40 a b)) a b (N40 a b)) a b (N40 a b)) a b (N40 a b)) a b (N40 a b)) a b (N40 a b)).full)⟩,(true)))
noncomputable def ok22 (a:Pos) (b:Mv):Bool:=(ok45 (a)&&(ok41 (N45 a) (b)&&(bif !N41 (N45 a) b then true else (ok40 (a) (b)&&(okF22_1 (a) (b) (a) (a) (b) (N40 a b)&&(okF22_2 (a) (b) (vF22_1 a b a a b (N40 a b)) (a) (b) (N40 a b)&&(okF22_4 (a) (b) (vF22_2 a b (vF22_1 a b a a b (N40 a b)) a b (N40 a b)) (a) (b) (N40 a b)&&(okF22_8 (a) (b) (vF22_4 a b (vF22_2 a b (vF22_1 a b a a b (N40 a b)) a b (N40 a b)) a b (N40 a b)) (a) (b) (N40 a b)&&(okF22_9 (a) (b) (vF22_8 a b (vF22_4 a b (vF22_2 a b (vF22_1 a b a a b (N40 a b)) a b (N40 a b)) a b (N40 a b)) a b (N40 a b)) (a) (b) (N40 a b)&&(okF22_10 (a) (b) (vF22_9 a b (vF22_8 a b (vF22_4 a b (vF22_2 a b (vF22_1 a b a a b (N40 a b)) a b (N40 a b)) a b (N40 a b)) a b (N40 a b)) a b (N40 a b)) (a) (b) (N40 a b)&&(okF22_11 (a) (b) (vF22_10 a b (vF22_9 a b (vF22_8 a b (vF22_4 a b (vF22_2 a b (vF22_1 a b a a b (N40 a b)) a b (N40 a b)) a b (N40 a b)) a b (N40 a b)) a b (N40 a b)) a b (N40 a b)) (a) (b) (N40 a b)&&true)))))))))))
theorem P22 (a:Pos) (b:Mv) (h:ok22 a b=true):PS Pz 22 [Pos.av a,Mv.av b] ((d2 dPos dB).res (N22 a b)):=ps_sum (n:=14) hB22 (by kernel_rfl) (by kernel_rfl) (by kernel_rfl) h
noncomputable def G22:List AV→Tr AV:=g2 dPos dMv (fun a b=>gdv (ok22 a b) ((d2 dPos dB).res (N22 a b)))
theorem s22:Sound Pz 22 G22:=sound2 fun a b=>at_gd (P22 a b)
end Kz
end
section
namespace Kz
open Go
set_option maxRecDepth 100000
theorem ix64 {i:Int} (h0:0≤i) (h1:i < 64):(decide (0≤i)&&decide (i < Int.ofNat 64))=true:=by
  rw [Bool.and_eq_true,decide_eq_true_eq,decide_eq_true_eq]
  exact ⟨h0,h1⟩
theorem set_in {l:List Int} {a b v:Int} (h:∀ x ∈ l,a≤x∧x≤b) (hv:a≤v∧v≤b) (i:Nat):∀ x ∈ l.set i v,a≤x∧x≤b:=by
  intro x hx
  rcases List.mem_or_eq_of_mem_set hx with h1 | rfl
  · exact h x h1
  · exact hv
theorem N101_in (a b:Int):0≤N101 a b∧N101 a b≤255:=by
  unfold N101
  exact c_ind (P:=fun x:Int=>0≤x∧x≤255) (fun _=>by decide) fun _=>c_ind (P:=fun x:Int=>0≤x∧x≤255) (fun _=>by decide) fun _=>c_ind (P:=fun x:Int=>0≤x∧x≤255) (fun _=>by decide) fun _=>⟨wr_u8_lo _,wr_u8_hi _⟩
theorem N108_in {n:Int} (h : -9223372036854775808≤n∧n≤9223372036854775807) : -9223372036854775808≤N108 n∧N108 n≤9223372036854775807:=by
  unfold N108
  exact c_ind (P:=fun x:Int => -9223372036854775808≤x∧x≤9223372036854775807) (fun _=>h) fun _=>wr_i64_b _
structure Kin (p q:Pos):Prop where
  pin:PosIn q
  v:q.variant=p.variant
  t:q.turn=p.turn
section
variable {p q:Pos}
theorem Kin.board (h:Kin p q) {bd:List Int} (hl:bd.length=64) (hb:∀ x ∈ bd,0≤x∧x≤255) (pr:BitVec 64):Kin p ⟨q.variant,bd,pr,q.pockets,q.turn,q.rooks,q.passing,q.checks,q.half,q.full⟩ :=
  ⟨⟨h.pin.v0,h.pin.v1,hl,hb,h.pin.kl,h.pin.k0,h.pin.t0,h.pin.t1,h.pin.rl,h.pin.r0,h.pin.p0,h.pin.p1,h.pin.cl,h.pin.c0,h.pin.h0,h.pin.f0⟩,h.v,h.t⟩
theorem Kin.set (h:Kin p q) (i:Nat) {v:Int} (hv:0≤v∧v≤255):Kin p ⟨q.variant,q.board.set i v,q.promoted,q.pockets,q.turn,q.rooks,q.passing,q.checks,q.half,q.full⟩ :=
  h.board (by rw [List.length_set]; exact h.pin.bl) (set_in h.pin.b0 hv i) _
theorem Kin.promoted (h:Kin p q) (pr:BitVec 64):Kin p ⟨q.variant,q.board,pr,q.pockets,q.turn,q.rooks,q.passing,q.checks,q.half,q.full⟩:=h.board h.pin.bl h.pin.b0 pr
theorem Kin.pockets (h:Kin p q) (i:Nat) {v:Int} (hv:0≤v∧v≤255):Kin p ⟨q.variant,q.board,q.promoted,q.pockets.set i v,q.turn,q.rooks,q.passing,q.checks,q.half,q.full⟩ :=
  ⟨⟨h.pin.v0,h.pin.v1,h.pin.bl,h.pin.b0,by rw [List.length_set]; exact h.pin.kl,set_in h.pin.k0 hv i,h.pin.t0,h.pin.t1,h.pin.rl,h.pin.r0,h.pin.p0,h.pin.p1,h.pin.cl,h.pin.c0,h.pin.h0,h.pin.f0⟩,h.v,h.t⟩
theorem Kin.rooks (h:Kin p q) {rk:List Int} (hl:rk.length=4) (hr:∀ x ∈ rk,-128≤x∧x≤127):Kin p ⟨q.variant,q.board,q.promoted,q.pockets,q.turn,rk,q.passing,q.checks,q.half,q.full⟩ :=
  ⟨⟨h.pin.v0,h.pin.v1,h.pin.bl,h.pin.b0,h.pin.kl,h.pin.k0,h.pin.t0,h.pin.t1,hl,hr,h.pin.p0,h.pin.p1,h.pin.cl,h.pin.c0,h.pin.h0,h.pin.f0⟩,h.v,h.t⟩
theorem Kin.rook (h:Kin p q) (i:Nat):Kin p ⟨q.variant,q.board,q.promoted,q.pockets,q.turn,q.rooks.set i (-1),q.passing,q.checks,q.half,q.full⟩ :=
  h.rooks (by rw [List.length_set]; exact h.pin.rl) (set_in h.pin.r0 (by omega) i)
theorem Kin.passing (h:Kin p q) {s:Int} (hs : -128≤s∧s≤127):Kin p ⟨q.variant,q.board,q.promoted,q.pockets,q.turn,q.rooks,s,q.checks,q.half,q.full⟩ :=
  ⟨⟨h.pin.v0,h.pin.v1,h.pin.bl,h.pin.b0,h.pin.kl,h.pin.k0,h.pin.t0,h.pin.t1,h.pin.rl,h.pin.r0,hs.1,hs.2,h.pin.cl,h.pin.c0,h.pin.h0,h.pin.f0⟩,h.v,h.t⟩
theorem Kin.clocks (h:Kin p q) {a b:Int} (ha : -9223372036854775808≤a∧a≤9223372036854775807) (hb : -9223372036854775808≤b∧b≤9223372036854775807):Kin p ⟨q.variant,q.board,q.promoted,q.pockets,q.turn,q.rooks,q.passing,q.checks,a,b⟩ :=
  ⟨⟨h.pin.v0,h.pin.v1,h.pin.bl,h.pin.b0,h.pin.kl,h.pin.k0,h.pin.t0,h.pin.t1,h.pin.rl,h.pin.r0,h.pin.p0,h.pin.p1,h.pin.cl,h.pin.c0,ha,hb⟩,h.v,h.t⟩
theorem N100_kin (h:Kin p q) (b c:Int):Kin p (N100 q b c).1:=by
  unfold N100
  refine c_ind (P:=fun x:Pos×Bool=>Kin p x.1) (fun _=>h) fun _=>c_ind (P:=fun x:Pos×Bool=>Kin p x.1) (fun _=>h) fun _ => ?_
  exact h.pockets _ ⟨wr_u8_lo _,wr_u8_hi _⟩
theorem N103_kin (h:Kin p q) (b c:Int):Kin p (N103 q b c):=by
  unfold N103
  refine c_ind (P:=fun x:Pos=>Kin p x) (fun _=>c_ind (P:=fun x:Pos=>Kin p x) (fun _ => ?_) fun _=>h) fun _=>h
  exact h.pockets _ ⟨wr_u8_lo _,wr_u8_hi _⟩
end
section
variable {p:Pos} (hp:PosIn p) (m:Mv)
include hp
theorem bd_in (i:Nat):0≤p.board.getD i 0∧p.board.getD i 0≤255:=getD_in hp.b0 (by omega) i
theorem vF1_kin (a:Pos) (b:Mv) (c:Int):Kin p (vF22_1 a b p p m c):=by
  have h:Kin p p:=⟨hp,rfl,rfl⟩
  have z:(0:Int)≤0∧(0:Int)≤255:=by omega
  have bi:=bd_in hp
  unfold vF22_1
  refine c_ind (P:=fun x:Pos=>Kin p x) (fun _=>((((h.set _ z).set _ z).set _ (bi _)).set _ (bi _))) fun _=>c_ind (P:=fun x:Pos=>Kin p x) (fun _=>(N100_kin h _ _).set _ (N101_in _ _)) fun _=>c_ind (P:=fun x:Pos=>Kin p x) (fun _=>c_ind (P:=fun x:Pos=>Kin p x) (fun _=>(((h.set _ z).set _ z).set _ (bi _)).set _ (N101_in _ _)) fun _=>((h.set _ z).set _ z).set _ (bi _)) fun _=>c_ind (P:=fun x:Pos=>Kin p x) (fun _=>((h.set _ z).set _ (bi _)).set _ (N101_in _ _)) fun _=>(h.set _ z).set _ (bi _)
omit hp in
theorem vF2_kin {q:Pos} (h:Kin p q) (a:Pos) (b:Mv) (c:Int):Kin p (vF22_2 a b q p m c):=by
  unfold vF22_2
  repeat' (first | exact h | exact h.promoted _ | exact N103_kin h _ _ | exact (N103_kin h _ _).promoted _ | refine c_ind (P:=fun x:Pos=>Kin p x) (fun _ => ?_) (fun _ => ?_))
omit hp in
theorem lp22_3_kin (l:List Int) (hl:l.length≤64) (hin:∀ s ∈ l,0≤s∧s < 64) {q:Pos} (h:Kin p q) (a b:Pos) (c d:Mv) (e:Int):∃ r,lp22_3 l (Int.ofNat l.length) a c b d e (0,q)=some r∧Kin p r.2.2:=by
  refine lp_many (I:=fun x=>0≤x.1∧x.1≤(l.length:Int)∧Kin p x.2) (μ:=fun x=>((l.length:Int) - x.1).toNat) ?_ _ ⟨by simp,by simp,h⟩ (by simp; omega)
  rintro ⟨n,o⟩ ⟨h0,h1,h2⟩
  simp only at h0 h1 h2
  by_cases hc:n < l.length
  · have hf:=hin _ (getD_mem (d:=default) (show n.toNat < l.length by omega))
    refine ⟨c_true (fun _=>a_true (by simp [h0]; omega) fun _=>a_true (ix64 hf.1 hf.2) fun _=>rfl) fun _=>rfl,c_ind (fun _ => ?_) fun h=>absurd h (by simpa using hc)⟩
    rw [wi64 (n:=n+1) (by omega) (by omega)]
    exact ⟨⟨by simp; omega,by simp; omega,h2.set _ (by omega)⟩,by simp; omega⟩
  · exact ⟨c_true (fun h=>absurd h (by simpa using hc)) fun _=>rfl,c_ind (fun h=>absurd h (by simpa using hc)) fun _=>h2⟩
omit hp in
theorem vF4_kin {q:Pos} (h:Kin p q) (a:Pos) (b:Mv) (c:Int):okF22_4 a b q p m c=true∧Kin p (vF22_4 a b q p m c):=by
  have hl:=of_some (lp22_3_kin (p:=p) (sqs (N104 q (wr .i64 m.to)) 64) (sqs_len _ _) (fun _ h=>sqs_in h) h a p b m c)
  constructor
  · unfold okF22_4
    refine c_true (fun _=>rfl) fun _=>c_true (fun _=>rfl) fun _=>a_true (t104 _ _) fun _=>a_true (t65 _) fun _=>a_true ?_ fun _=>rfl
    rw [N65_eq]; exact hl.1
  · unfold vF22_4
    refine c_ind (P:=fun x:Pos=>Kin p x) (fun _=>h) fun _=>c_ind (P:=fun x:Pos=>Kin p x) (fun _=>h) fun _ => ?_
    rw [N65_eq]; exact hl.2
omit hp in
theorem lp22_6_kin {c k:Int} (hc0:0≤c) (hc1:c≤1) (l:List Int) (hl:∀ s ∈ l,-128≤s∧s≤127) {q:Pos} (h:Kin p q) (a b:Pos) (m1 m2:Mv) (e:Int):∃ r,lp22_6 c k l a m1 b m2 e (0,q)=some r∧Kin p r.2.2:=by
  refine lp_many (I:=fun x=>0≤x.1∧x.1≤2∧Kin p x.2) (μ:=fun x=>(2 - x.1).toNat) ?_ _ ⟨by simp,by simp,h⟩ (by simp)
  rintro ⟨n,o⟩ ⟨h0,h1,h2⟩
  simp only at h0 h1 h2
  by_cases hc:n < 2
  · have hs:=getD_in hl (d:=0) (by omega) n.toNat
    have go1:Nxt (fun x:Int×Pos=>0≤x.1∧x.1≤2∧Kin p x.2) (fun r:Int×Bool×Pos=>Kin p r.2.2) (fun x=>(2 - x.1).toNat) (2 - n).toNat (.go (wr .i64 (n+1),o)):=by
      rw [wi64 (n:=n+1) (by omega) (by omega)]
      exact ⟨⟨by simp; omega,by simp; omega,h2⟩,by simp; omega⟩
    have go2:∀ i,Nxt (fun x:Int×Pos=>0≤x.1∧x.1≤2∧Kin p x.2) (fun r:Int×Bool×Pos=>Kin p r.2.2) (fun x=>(2 - x.1).toNat) (2 - n).toNat (.go (wr .i64 (n+1),⟨o.variant,o.board,o.promoted,o.pockets,o.turn,o.rooks.set i (-1),o.passing,o.checks,o.half,o.full⟩)):=by
      intro i
      rw [wi64 (n:=n+1) (by omega) (by omega)]
      exact ⟨⟨by simp; omega,by simp; omega,h2.rook i⟩,by simp; omega⟩
    have w1:wr .i64 c=c:=wi64 (by omega) (by omega)
    have w2:wr .i64 (56 * c)=56 * c:=wi64 (by omega) (by omega)
    have w3:wr .i64 (l.getD n.toNat 0)=l.getD n.toNat 0:=wi64 (by omega) (by omega)
    have w4:wr .i64 (56 * c+l.getD n.toNat 0)=56 * c+l.getD n.toNat 0:=wi64 (by omega) (by omega)
    have k1:(decide (0≤c)&&decide (c < Int.ofNat 2))=true:=by simp; omega
    have k2:(decide (0≤n)&&decide (n < Int.ofNat 2))=true:=by simp; omega
    refine ⟨c_true (fun _=>a_true k2 fun _=>c_true (fun _=>rfl) fun g0=>c_true (fun _=>rfl) fun g1 => ?_) fun _=>rfl,c_ind (fun _ => ?_) fun h=>absurd h (by simpa using hc)⟩
    · rw [w1,w2,w3,w4]
      have g0:0≤l.getD n.toNat 0:=by simpa using g0
      have g1:l.getD n.toNat 0≤7:=by simpa using g1
      have k3:(decide (0≤56 * c+l.getD n.toNat 0)&&decide (56 * c+l.getD n.toNat 0 < Int.ofNat 64))=true:=ix64 (by omega) (by omega)
      repeat' (first | with_reducible rfl | with_reducible exact k1 | with_reducible exact k2 | with_reducible exact k3 | refine a_true ?_ (fun _ => ?_) | refine c_true (fun _ => ?_) (fun _ => ?_))
    · repeat' (first | exact go1 | exact go2 _ | refine c_ind (fun _ => ?_) (fun _ => ?_))
  · exact ⟨c_true (fun h=>absurd h (by simpa using hc)) fun _=>rfl,c_ind (fun h=>absurd h (by simpa using hc)) fun _=>h2⟩
omit hp in
theorem lp22_7_kin {q:Pos} (h:Kin p q) (a b:Pos) (m1 m2:Mv) (e:Int):∃ r,lp22_7 a m1 b m2 e (0,q)=some r∧Kin p r.2.2:=by
  refine lp_many (I:=fun x=>0≤x.1∧x.1≤2∧Kin p x.2) (μ:=fun x=>(2 - x.1).toNat) ?_ _ ⟨by simp,by simp,h⟩ (by simp)
  rintro ⟨n,o⟩ ⟨h0,h1,h2⟩
  simp only at h0 h1 h2
  by_cases hc:n≤1
  · have hr:∀ s ∈ List.take 2 (List.drop (scale 2 n).toNat o.rooks),-128≤s∧s≤127:=fun s hs=>h2.pin.r0 s (List.mem_of_mem_drop (List.mem_of_mem_take hs))
    have hl:=of_some (lp22_6_kin (p:=p) (k:=N106 o n 6) h0 hc _ hr h2 a b m1 m2 e)
    refine ⟨c_true (fun _=>a_true (t106 _ _ _) fun _=>a_true (by simp; omega) fun _=>a_true hl.1 fun _=>rfl) fun _=>rfl,c_ind (fun _ => ?_) fun h=>absurd h (by simpa using hc)⟩
    rw [wu8 (n:=n+1) (by omega) (by omega)]
    exact ⟨⟨by simp; omega,by simp; omega,hl.2⟩,by simp; omega⟩
  · exact ⟨c_true (fun h=>absurd h (by simpa using hc)) fun _=>rfl,c_ind (fun h=>absurd h (by simpa using hc)) fun _=>h2⟩
theorem vF8_kin (ht:p.turn≤1) {q:Pos} (h:Kin p q) (hm:m.drp=0→0≤m.frm∧m.frm < 64) (a:Pos) (b:Mv) (c:Int):okF22_8 a b q p m c=true∧Kin p (vF22_8 a b q p m c):=by
  have t0:=hp.t0
  have h2:Kin p ⟨q.variant,q.board,q.promoted,q.pockets,q.turn,List.take (scale 2 q.turn).toNat q.rooks++li [-1,-1]++List.drop ((scale 2 q.turn).toNat+2) q.rooks,q.passing,q.checks,q.half,q.full⟩:=by
    refine h.rooks ?_ ?_
    · have hr:=h.pin.rl
      have:(scale 2 q.turn).toNat≤2:=by rw [h.t]; unfold scale; simp; omega
      simp [li,hr]
      omega
    · intro x hx
      simp only [List.mem_append,li] at hx
      rcases hx with (hx | hx) | hx
      · exact h.pin.r0 x (List.mem_of_mem_take hx)
      · simp at hx; omega
      · exact h.pin.r0 x (List.mem_of_mem_drop hx)
  have a1:=of_some (lp22_7_kin h a p b m c)
  have a2:=of_some (lp22_7_kin h2 a p b m c)
  have k1:(decide (0≤q.turn)&&decide (q.turn < Int.ofNat 2))=true:=by rw [h.t]; simp; omega
  constructor
  · unfold okF22_8
    refine c_true (fun _ => ?_) fun hd=>a_true ?_ fun _ => ?_
    · repeat' (first | with_reducible rfl | with_reducible exact k1 | with_reducible exact a1.1 | with_reducible exact a2.1 | refine a_true ?_ (fun _ => ?_) | refine c_true (fun _ => ?_) (fun _ => ?_))
    · have:=hm (by simpa using hd)
      simp; omega
    · repeat' (first | with_reducible rfl | with_reducible exact k1 | with_reducible exact a1.1 | with_reducible exact a2.1 | refine a_true ?_ (fun _ => ?_) | refine c_true (fun _ => ?_) (fun _ => ?_))
  · unfold vF22_8
    repeat' (first | exact a1.2 | exact a2.2 | refine c_ind (P:=fun x:Pos=>Kin p x) (fun _ => ?_) (fun _ => ?_))
omit hp in
theorem vF9_kin {q:Pos} (h:Kin p q) (hm:m.drp=0→0≤m.frm∧m.frm < 64) (a:Pos) (b:Mv) (c:Int):okF22_9 a b q p m c=true∧Kin p (vF22_9 a b q p m c):=by
  constructor
  · unfold okF22_9
    refine c_true (fun _ => ?_) fun hd=>a_true ?_ fun _ => ?_
    · repeat' (first | with_reducible rfl | with_reducible exact t107 _ _ | with_reducible exact t66 _ _ _ | refine a_true ?_ (fun _ => ?_) | refine c_true (fun _ => ?_) (fun _ => ?_))
    · have:=hm (by simpa using hd)
      simp; omega
    · repeat' (first | with_reducible rfl | with_reducible exact t107 _ _ | with_reducible exact t66 _ _ _ | refine a_true ?_ (fun _ => ?_) | refine c_true (fun _ => ?_) (fun _ => ?_))
  · have n1:(-128:Int) ≤ -1∧(-1:Int)≤127:=by omega
    unfold vF22_9
    repeat' (first | exact h.passing n1 | exact h.passing (wr_i8_b _) | refine c_ind (P:=fun x:Pos=>Kin p x) (fun _ => ?_) (fun _ => ?_))
omit hp in
theorem vF910_kin {q:Pos} (h:Kin p q) (hm:m.drp=0→0≤m.frm∧m.frm < 64) (a:Pos) (b:Mv) (c:Int):okF22_10 a b q p m c=true∧Kin p (vF22_10 a b q p m c):=by
  constructor
  · unfold okF22_10
    refine c_true (fun _=>rfl) fun hd=>a_true ?_ fun _=>rfl
    have:=hm (by simpa using hd)
    simp; omega
  · have z:(-9223372036854775808:Int)≤0∧(0:Int)≤9223372036854775807:=by omega
    have f1:=h.pin.f0
    have f2:=N108_in h.pin.f0
    have f3:=N108_in h.pin.h0
    unfold vF22_10
    repeat' (first | exact h.clocks z f1 | exact h.clocks z f2 | exact h.clocks f3 f1 | exact h.clocks f3 f2 | refine c_ind (P:=fun x:Pos=>Kin p x) (fun _ => ?_) (fun _ => ?_))
theorem vF4_in (ht:p.turn≤1) {q:Pos} (h:Kin p q) (a:Pos) (b:Mv) (c:Int):okF22_11 a b q p m c=true∧PosIn (vF22_11 a b q p m c)∧(vF22_11 a b q p m c).variant=p.variant∧(vF22_11 a b q p m c).turn=1 - p.turn:=by
  have t0:=hp.t0
  have w1:wr .u8 (1 - p.turn)=1 - p.turn:=wu8 (by omega) (by omega)
  have w2:wr .u8 (1 - (1 - p.turn))=p.turn:=by rw [wu8 (by omega) (by omega)]; omega
  have k1:(decide (0≤p.turn)&&decide (p.turn < Int.ofNat 2))=true:=by simp; omega
  have hq:PosIn ⟨q.variant,q.board,q.promoted,q.pockets,1 - p.turn,q.rooks,q.passing,q.checks,q.half,q.full⟩ :=
    ⟨h.pin.v0,h.pin.v1,h.pin.bl,h.pin.b0,h.pin.kl,h.pin.k0,by show 0≤1 - p.turn; omega,by show 1 - p.turn≤255; omega,h.pin.rl,h.pin.r0,h.pin.p0,h.pin.p1,h.pin.cl,h.pin.c0,h.pin.h0,h.pin.f0⟩
  constructor
  · unfold okF22_11
    rw [h.t,w1,w2]
    refine c_true (fun _=>a_true k1 fun _=>c_true (fun _=>a_true (t109 h.pin.v0 (by omega)) fun _=>c_true (fun _=>a_true k1 fun _=>a_true k1 fun _=>rfl) fun _=>rfl) fun _=>rfl) fun _=>rfl
  · unfold vF22_11
    rw [h.t,w1,w2]
    have base:PosIn ⟨q.variant,q.board,q.promoted,q.pockets,1 - p.turn,q.rooks,q.passing,q.checks,q.half,q.full⟩∧q.variant=p.variant∧(1 - p.turn=1 - p.turn):=⟨hq,h.v,rfl⟩
    refine c_ind (P:=fun x:Pos=>PosIn x∧x.variant=p.variant∧x.turn=1 - p.turn) (fun _=>c_ind (P:=fun x:Pos=>PosIn x∧x.variant=p.variant∧x.turn=1 - p.turn) (fun _=>c_ind (P:=fun x:Pos=>PosIn x∧x.variant=p.variant∧x.turn=1 - p.turn) (fun _ => ?_) fun _=>base) fun _=>base) fun _=>base
    exact ⟨⟨hq.v0,hq.v1,hq.bl,hq.b0,hq.kl,hq.k0,hq.t0,hq.t1,hq.rl,hq.r0,hq.p0,hq.p1,by rw [List.length_set]; exact hq.cl,set_in hq.c0 ⟨wr_u8_lo _,wr_u8_hi _⟩ _,hq.h0,hq.f0⟩,h.v,rfl⟩
end
theorem N45_mem {p:Pos} (hp:PosIn p) {m:Mv} (h:m ∈ N45 p):there p∧0≤m.frm∧m.frm < 64∧0≤m.to∧m.to < 64∧0≤m.drp∧m.drp≤5∧0≤m.pro∧m.pro≤6:=by
  rw [N45_eq] at h
  have n110:∀ v:Int,9≤v→N147 v=false:=fun v hv=>by
    unfold N147
    rw [show decide (v ≥ 9)=true by simpa using hv]; rfl
  have n113:∀ v:Int,9≤v→N150 v=false:=fun v hv=>by
    unfold N150
    rw [show decide (v ≥ 9)=true by simpa using hv]; rfl
  simp only [List.mem_append] at h
  rcases h with (h | h) | h
  · obtain ⟨th,f,t,h1,h2,h3,h4,h5,h6,h7,h8,_⟩:=N90_mem hp.v0 h
    exact ⟨th,by omega,by omega,by omega,by omega,by omega,by omega,h7,h8⟩
  · obtain ⟨h1,h2,h3,h4,h5,h6,h7,h8⟩:=N97_mem hp h
    refine ⟨⟨h1,?_⟩,h2,h3,h4,h5,by omega,by omega,by omega,by omega⟩
    refine Classical.byContradiction fun hv => ?_
    unfold N97 at h
    rw [n110 _ (by omega)] at h
    rw [show decide (p.turn > 1)=false by simp; omega] at h
    cases h
  · obtain ⟨h1,h2,h3,h4,h5,h6,h7,h8,h9⟩:=N98_mem hp.t0 h
    refine ⟨⟨h1,?_⟩,by omega,by omega,h4,h5,by omega,h8,by omega,by omega⟩
    refine Classical.byContradiction fun hv => ?_
    rw [n113 _ (by omega)] at h2
    cases h2
theorem move_all {p:Pos} (hp:PosIn p) (m:Mv):ok22 p m=true∧(m ∈ N45 p→(N22 p m).2=true∧PosIn (N22 p m).1∧(N22 p m).1.variant=p.variant∧(N22 p m).1.turn=1 - p.turn)∧(m ∉ N45 p→N22 p m=(p,false)):=by
  have hlen:=N45_len hp
  have hc:N41 (N45 p) m=decide (m ∈ N45 p):=N41_eq (by omega)
  by_cases hm:m ∈ N45 p
  · obtain ⟨th,f0,f1,g0,g1,d0,d1,r0,r1⟩:=N45_mem hp hm
    have hmf:m.drp=0→0≤m.frm∧m.frm < 64:=fun _=>⟨f0,f1⟩
    have hn:=N40_in hp m
    have h1:=vF1_kin hp m p m (N40 p m)
    have h2:=vF2_kin m h1 p m (N40 p m)
    have h4:=vF4_kin m h2 p m (N40 p m)
    have h8:=vF8_kin hp m th.1 h4.2 hmf p m (N40 p m)
    have h9:=vF9_kin m h8.2 hmf p m (N40 p m)
    have h10:=vF910_kin m h9.2 hmf p m (N40 p m)
    have h11:=vF4_in hp m th.1 h10.2 p m (N40 p m)
    have kf:(decide (0≤m.frm)&&decide (m.frm < Int.ofNat 64))=true:=by simp; omega
    have kt:(decide (0≤m.to)&&decide (m.to < Int.ofNat 64))=true:=by simp; omega
    have kn:N40 p m ≥ 0→(decide (0≤N40 p m)&&decide (N40 p m < Int.ofNat 64))=true:=fun h=>by simp; omega
    have hg:=N99_in hp.t0 th.1 m
    have ok1:okF22_1 p m p p m (N40 p m)=true:=by
      unfold okF22_1
      have kg1:(decide (0≤(N99 p m).1)&&decide ((N99 p m).1 < Int.ofNat 64))=true:=by simp; omega
      have kg2:(decide (0≤(N99 p m).2.1)&&decide ((N99 p m).2.1 < Int.ofNat 64))=true:=by simp; omega
      refine c_true (fun _ => ?_) fun _=>c_true (fun _ => ?_) fun _=>c_true (fun hh => ?_) fun _ => ?_
      · repeat' (first | with_reducible rfl | with_reducible exact t99 _ _ | with_reducible exact kf | with_reducible exact kt | with_reducible exact kg1 | with_reducible exact kg2 | refine a_true ?_ (fun _ => ?_))
      · refine a_true (t100 hp.t0 d0) fun _=>a_true kt fun _=>rfl
      · have hh:N40 p m ≥ 0:=by simpa using hh
        have kn:=kn hh
        repeat' (first | with_reducible rfl | with_reducible exact kn | with_reducible exact kf | with_reducible exact kt | refine a_true ?_ (fun _ => ?_) | refine c_true (fun _ => ?_) (fun _ => ?_))
      · repeat' (first | with_reducible rfl | with_reducible exact kf | with_reducible exact kt | refine a_true ?_ (fun _ => ?_) | refine c_true (fun _ => ?_) (fun _ => ?_))
    have ok2:okF22_2 p m (vF22_1 p m p p m (N40 p m)) p m (N40 p m)=true:=by
      have e:0≤(vF22_1 p m p p m (N40 p m)).turn:=h1.pin.t0
      have bi:=fun i=>(bd_in hp i).1
      unfold okF22_2
      refine c_true (fun _=>rfl) fun _=>c_true (fun _=>rfl) fun _=>c_true (fun _=>a_true (t99 _ _) fun _=>rfl) fun _=>c_true (fun hh => ?_) fun _=>rfl
      have hh:N40 p m ≥ 0:=by simpa using hh
      have kn:=kn hh
      repeat' (first | with_reducible rfl | with_reducible exact kn | with_reducible exact t103 e (by decide) | with_reducible exact t103 e (N91_in (bi _)) | refine a_true ?_ (fun _ => ?_) | refine c_true (fun _ => ?_) (fun _ => ?_))
    refine ⟨?_,fun _ => ?_,fun h=>absurd hm h⟩
    · unfold ok22
      exact a_true (t45 hp) fun _=>a_true (t41 (by omega)) fun _=>c_true (fun _=>rfl) fun _=>a_true (t40 hp.v0 m) fun _=>a_true ok1 fun _=>a_true ok2 fun _=>a_true h4.1 fun _=>a_true h8.1 fun _=>a_true h9.1 fun _=>a_true h10.1 fun _=>a_true h11.1 fun _=>rfl
    · unfold N22
      rw [hc]
      simp only [hm,decide_true,Bool.not_true,cond_false]
      exact ⟨trivial,h11.2⟩
  · refine ⟨?_,fun h=>absurd h hm,fun _ => ?_⟩
    · unfold ok22
      refine a_true (t45 hp) fun _=>a_true (t41 (by omega)) fun _=>c_true (fun _=>rfl) fun h => ?_
      rw [hc] at h
      simp [hm] at h
    · unfold N22
      rw [hc]
      simp [hm]
end Kz
end
section
namespace Kz
open Go Go.RowKit Go.Proofs
set_option maxRecDepth 100000
set_option maxHeartbeats 4000000
noncomputable def K79:List (Nat×Nat×List (Nat×List Nat)):=[]
noncomputable def B79:Base:=baseOf Pz (fun f i=>lkC f i K79) [] [] []
theorem hB79:BOk B79:=base_ok named_z trivial trivial trivial
noncomputable def V57:AV:=AV.agg [AV.nilfunc,AV.nilfunc,AV.nilfunc,AV.func 138 [] [],AV.func 142 [] [],AV.func 139 [] [],AV.func 140 [] [],AV.func 141 [] [],AV.func 143 [] []]
noncomputable def ok79:Bool:=true
theorem E79:evPure B79 14 79 []=Tr.ret V57:=by kernel_rfl
theorem P79 (_:ok79=true):PS Pz 79 [] V57:=evPure_ok hB79 (by rw [E79]; rfl)
noncomputable def G79:List AV→Tr AV:=g0 (.ret V57)
theorem s79:Sound Pz 79 G79:=sound0 (at_rt (P79 rfl))
noncomputable def K81:List (Nat×Nat×List (Nat×List Nat)):=[(81,9,[(0,[1,2]),(1,[4])])]
noncomputable def B81:Base:=baseOf Pz (fun f i=>lkC f i K81) [(106,G106)] [] []
theorem hB81:BOk B81:=base_ok named_z ⟨s106,trivial⟩ trivial trivial
noncomputable def N81 (a:Pos) (b:Int):Bool:=(decide (N106 a b 6 ≥ 0))
noncomputable def ok81 (a:Pos) (b:Int):Bool:=(ok106 (a) (b) (6)&&true)
theorem P81 (a:Pos) (b:Int) (h:ok81 a b=true):PS Pz 81 [Pos.av a,.int .u8 b] (dB.res (N81 a b)):=ps_sum (n:=14) hB81 (by kernel_rfl) (by kernel_rfl) (by kernel_rfl) h
noncomputable def G81:List AV→Tr AV:=g2 dPos (dI .u8) (fun a b=>gdv (ok81 a b) (dB.res (N81 a b)))
theorem s81:Sound Pz 81 G81:=sound2 fun a b=>at_gd (P81 a b)
noncomputable def K172:List (Nat×Nat×List (Nat×List Nat)):=[(172,9,[(0,[0,1,4]),(1,[4])])]
noncomputable def B172:Base:=baseOf Pz (fun f i=>lkC f i K172) [] [] []
theorem hB172:BOk B172:=base_ok named_z trivial trivial trivial
noncomputable def N172 (a:Int) (b:Int):(Int×Int):=⟨(wr .u8 (1+a)),(b)⟩
noncomputable def ok172 (a:Int) (b:Int):Bool:=true
theorem P172 (a:Int) (b:Int) (h:ok172 a b=true):PS Pz 172 [.int .u8 a,.int .u8 b] ((dR .u8 .u8).res (N172 a b)):=ps_sum (n:=14) hB172 (by kernel_rfl) (by kernel_rfl) (by kernel_rfl) h
noncomputable def G172:List AV→Tr AV:=g2 (dI .u8) (dI .u8) (fun a b=>.ret ((dR .u8 .u8).res (N172 a b)))
theorem s172:Sound Pz 172 G172:=sound2 fun a b=>at_rt (P172 a b rfl)
noncomputable def K138:List (Nat×Nat×List (Nat×List Nat)):=[(138,13,[(0,[1,2]),(1,[1,2,7]),(2,[2]),(3,[2])])]
noncomputable def B138:Base:=baseOf Pz (fun f i=>lkC f i K138) [(81,G81),(172,G172)] [] []
theorem hB138:BOk B138:=base_ok named_z ⟨s81,s172,trivial⟩ trivial trivial
noncomputable def N138 (a:Pos):(Int×Int):=(bif !N81 a a.turn then ⟨((N172 (wr .u8 (1 - a.turn)) 6).fst),((N172 (wr .u8 (1 - a.turn)) 6).snd)⟩ else ⟨(0),(0)⟩)
noncomputable def ok138 (a:Pos):Bool:=(ok81 (a) (a.turn)&&true)
theorem P138 (a:Pos) (h:ok138 a=true):PS Pz 138 [Pos.av a] ((dR .u8 .u8).res (N138 a)):=ps_sum (n:=14) hB138 (by kernel_rfl) (by kernel_rfl) (by kernel_rfl) h
noncomputable def G138:List AV→Tr AV:=g1 dPos (fun a=>gdv (ok138 a) ((dR .u8 .u8).res (N138 a)))
theorem s138:Sound Pz 138 G138:=sound1 fun a=>at_gd (P138 a)
noncomputable def K139:List (Nat×Nat×List (Nat×List Nat)):=[(139,6,[(0,[1,2]),(1,[2])]),(173,28,[(0,[1,2,3,6]),(1,[1,2,6,14,15,16]),(2,(1::2::6::(rn 14 4 []))),(3,[1,2,6,8,14,15,16]),(4,[1,2,6,8,14,15,16,22]),(5,[6]),(6,[1,2,6,14,15,16]),(7,[6])]),(174,9,[(0,[0,1]),(1,[3])])]
noncomputable def B139:Base:=baseOf Pz (fun f i=>lkC f i K139) [(172,G172)] [] []
theorem hB139:BOk B139:=base_ok named_z ⟨s172,trivial⟩ trivial trivial
noncomputable def N139 (a:Pos):(Int×Int):=(bif decide (a.checks.getD (scale 1 (wr .u8 (1 - a.turn))).toNat 0 ≥ 3) then ⟨((N172 (wr .u8 (1 - a.turn)) 7).fst),((N172 (wr .u8 (1 - a.turn)) 7).snd)⟩ else (bif decide (a.checks.getD (scale 1 a.turn).toNat 0 ≥ 3) then ⟨((N172 a.turn 7).fst),((N172 a.turn 7).snd)⟩ else ⟨(0),(0)⟩))
noncomputable def ok139 (a:Pos):Bool:=(decide (0≤wr .u8 (1 - a.turn))&&decide (wr .u8 (1 - a.turn) < ↑2)&&(bif decide (a.checks.getD (scale 1 (wr .u8 (1 - a.turn))).toNat 0 ≥ 3) then true else (decide (0≤a.turn)&&decide (a.turn < ↑2)&&true)))
theorem P139 (a:Pos) (h:ok139 a=true):PS Pz 139 [Pos.av a] ((dR .u8 .u8).res (N139 a)):=ps_sum (n:=14) hB139 (by kernel_rfl) (by kernel_rfl) (by kernel_rfl) h
noncomputable def G139:List AV→Tr AV:=g1 dPos (fun a=>gdv (ok139 a) ((dR .u8 .u8).res (N139 a)))
theorem s139:Sound Pz 139 G139:=sound1 fun a=>at_gd (P139 a)
noncomputable def K140:List (Nat×Nat×List (Nat×List Nat)):=[(140,6,[(0,[1,2]),(1,[2])]),(173,28,[(0,[1,2,3,6]),(1,[1,2,6,14,15,16]),(2,(1::2::6::(rn 14 4 []))),(3,[1,2,6,8,14,15,16]),(4,[1,2,6,8,14,15,16,22]),(5,[6]),(6,[1,2,6,14,15,16]),(7,[6])]),(175,17,[(0,(0::1::(rn 11 5 []))),(1,(4::(rn 11 5 []))),(2,[3])])]
noncomputable def B140:Base:=baseOf Pz (fun f i=>lkC f i K140) [(106,G106),(172,G172)] [] []
theorem hB140:BOk B140:=base_ok named_z ⟨s106,s172,trivial⟩ trivial trivial
noncomputable def N140 (a:Pos):(Int×Int):=(bif decide (N106 a (wr .u8 (1 - a.turn)) 6 ≥ 0) then (bif ibits BinOp.and .i64 (Int.fdiv 103481868288 (2 ^ min (BitVec.ofInt 64 (N106 a (wr .u8 (1 - a.turn)) 6)).toNat 64)) 1==1 then ⟨((N172 (wr .u8 (1 - a.turn)) 6).fst),((N172 (wr .u8 (1 - a.turn)) 6).snd)⟩ else (bif decide (N106 a a.turn 6 ≥ 0) then (bif ibits BinOp.and .i64 (Int.fdiv 103481868288 (2 ^ min (BitVec.ofInt 64 (N106 a a.turn 6)).toNat 64)) 1==1 then ⟨((N172 a.turn 6).fst),((N172 a.turn 6).snd)⟩ else ⟨(0),(0)⟩) else ⟨(0),(0)⟩)) else (bif decide (N106 a a.turn 6 ≥ 0) then (bif ibits BinOp.and .i64 (Int.fdiv 103481868288 (2 ^ min (BitVec.ofInt 64 (N106 a a.turn 6)).toNat 64)) 1==1 then ⟨((N172 a.turn 6).fst),((N172 a.turn 6).snd)⟩ else ⟨(0),(0)⟩) else ⟨(0),(0)⟩))
noncomputable def ok140 (a:Pos):Bool:=(ok106 (a) (wr .u8 (1 - a.turn)) (6)&&(bif decide (N106 a (wr .u8 (1 - a.turn)) 6 ≥ 0) then (bif ibits BinOp.and .i64 (Int.fdiv 103481868288 (2 ^ min (BitVec.ofInt 64 (N106 a (wr .u8 (1 - a.turn)) 6)).toNat 64)) 1==1 then true else (ok106 (a) (a.turn) (6)&&true)) else (ok106 (a) (a.turn) (6)&&true)))
theorem P140 (a:Pos) (h:ok140 a=true):PS Pz 140 [Pos.av a] ((dR .u8 .u8).res (N140 a)):=ps_sum (n:=14) hB140 (by kernel_rfl) (by kernel_rfl) (by kernel_rfl) h
noncomputable def G140:List AV→Tr AV:=g1 dPos (fun a=>gdv (ok140 a) ((dR .u8 .u8).res (N140 a)))
theorem s140:Sound Pz 140 G140:=sound1 fun a=>at_gd (P140 a)
noncomputable def K141:List (Nat×Nat×List (Nat×List Nat)):=[(141,8,[(0,[1,2]),(1,[2,5]),(2,[2]),(3,[2])])]
noncomputable def B141:Base:=baseOf Pz (fun f i=>lkC f i K141) [(66,G66),(172,G172)] [] []
theorem hB141:BOk B141:=base_ok named_z ⟨s66,s172,trivial⟩ trivial trivial
noncomputable def N141 (a:Pos):(Int×Int):=(bif N66 (Pos.mk a.variant a.board a.promoted a.pockets a.turn a.rooks a.passing a.checks a.half a.full) 0 0==0#64 then ⟨((N172 1 8).fst),((N172 1 8).snd)⟩ else ⟨(0),(0)⟩)
noncomputable def ok141 (a:Pos):Bool:=(ok66 (Pos.mk a.variant a.board a.promoted a.pockets a.turn a.rooks a.passing a.checks a.half a.full) (0) (0)&&true)
theorem P141 (a:Pos) (h:ok141 a=true):PS Pz 141 [Pos.av a] ((dR .u8 .u8).res (N141 a)):=ps_sum (n:=14) hB141 (by kernel_rfl) (by kernel_rfl) (by kernel_rfl) h
noncomputable def G141:List AV→Tr AV:=g1 dPos (fun a=>gdv (ok141 a) ((dR .u8 .u8).res (N141 a)))
theorem s141:Sound Pz 141 G141:=sound1 fun a=>at_gd (P141 a)
noncomputable def K142:List (Nat×Nat×List (Nat×List Nat)):=[(142,24,[(0,[1,2]),(1,[1,2,10,11,12]),(2,(1::2::(rn 10 4 []))),(3,[1,2,4,10,11,12]),(4,[1,2,4,10,11,12,19]),(5,[2]),(6,[1,2,10,11,12]),(7,[2])])]
noncomputable def B142:Base:=baseOf Pz (fun f i=>lkC f i K142) [(66,G66),(172,G172)] [] []
theorem hB142:BOk B142:=base_ok named_z ⟨s66,s172,trivial⟩ trivial trivial
noncomputable def N142 (a:Pos):(Int×Int):=(bif N66 (Pos.mk a.variant a.board a.promoted a.pockets a.turn a.rooks a.passing a.checks a.half a.full) a.turn 0==0#64 then ⟨((N172 a.turn 8).fst),((N172 a.turn 8).snd)⟩ else (bif N66 (Pos.mk a.variant a.board a.promoted a.pockets a.turn a.rooks a.passing a.checks a.half a.full) (wr .u8 (1 - a.turn)) 0==0#64 then ⟨((N172 (wr .u8 (1 - a.turn)) 8).fst),((N172 (wr .u8 (1 - a.turn)) 8).snd)⟩ else ⟨(0),(0)⟩))
noncomputable def ok142 (a:Pos):Bool:=(ok66 (Pos.mk a.variant a.board a.promoted a.pockets a.turn a.rooks a.passing a.checks a.half a.full) (a.turn) (0)&&(bif N66 (Pos.mk a.variant a.board a.promoted a.pockets a.turn a.rooks a.passing a.checks a.half a.full) a.turn 0==0#64 then true else (ok66 (Pos.mk a.variant a.board a.promoted a.pockets a.turn a.rooks a.passing a.checks a.half a.full) (wr .u8 (1 - a.turn)) (0)&&true)))
theorem P142 (a:Pos) (h:ok142 a=true):PS Pz 142 [Pos.av a] ((dR .u8 .u8).res (N142 a)):=ps_sum (n:=14) hB142 (by kernel_rfl) (by kernel_rfl) (by kernel_rfl) h
noncomputable def G142:List AV→Tr AV:=g1 dPos (fun a=>gdv (ok142 a) ((dR .u8 .u8).res (N142 a)))
theorem s142:Sound Pz 142 G142:=sound1 fun a=>at_gd (P142 a)
noncomputable def K86:List (Nat×Nat×List (Nat×List Nat)):=[(86,52,[(0,(2::3::(rn 30 10 (rn 45 6 [])))),(1,(2::5::6::(rn 30 10 (rn 45 6 [])))),(2,(2::5::14::(rn 30 10 (rn 45 6 [])))),(3,[4]),(4,(2::5::19::(rn 30 10 (rn 45 6 [])))),(5,(2::5::24::(rn 30 10 (rn 45 6 [])))),(6,[4]),(7,(2::5::40::(rn 45 6 []))),(8,[4]),(9,[4])])]
noncomputable def B86:Base:=baseOf Pz (fun f i=>lkC f i K86) [(22,G22),(80,G80),(109,G109),(81,G81)] [] []
theorem hB86:BOk B86:=base_ok named_z ⟨s22,s80,s109,s81,trivial⟩ trivial trivial
noncomputable def N86 (a:Pos) (b:Mv):Bool:=(bif !(N22 a b).snd then (false) else (bif N80 a.variant a.turn then (bif !N81 (N22 a b).fst a.turn then (false) else (bif N109 (N22 a b).fst a.turn then (bif a.variant != 3 then (false) else (bif N81 (N22 a b).fst (wr .u8 (1 - a.turn)) then (false) else (bif a.variant != 8 then (true) else (!N109 (N22 a b).fst (wr .u8 (1 - a.turn)))))) else (bif a.variant != 8 then (true) else (!N109 (N22 a b).fst (wr .u8 (1 - a.turn)))))) else (bif a.variant != 8 then (true) else (!N109 (N22 a b).fst (wr .u8 (1 - a.turn))))))
noncomputable def ok86 (a:Pos) (b:Mv):Bool:=(ok22 (a) (b)&&(bif !(N22 a b).snd then true else (ok80 (a.variant) (a.turn)&&(bif N80 a.variant a.turn then (ok81 ((N22 a b).fst) (a.turn)&&(bif !N81 (N22 a b).fst a.turn then true else (ok109 ((N22 a b).fst) (a.turn)&&(bif N109 (N22 a b).fst a.turn then (bif a.variant != 3 then true else (ok81 ((N22 a b).fst) (wr .u8 (1 - a.turn))&&(bif N81 (N22 a b).fst (wr .u8 (1 - a.turn)) then true else (bif a.variant != 8 then true else (ok109 ((N22 a b).fst) (wr .u8 (1 - a.turn))&&true))))) else (bif a.variant != 8 then true else (ok109 ((N22 a b).fst) (wr .u8 (1 - a.turn))&&true)))))) else (bif a.variant != 8 then true else (ok109 ((N22 a b).fst) (wr .u8 (1 - a.turn))&&true))))))
theorem P86 (a:Pos) (b:Mv) (h:ok86 a b=true):PS Pz 86 [Pos.av a,Mv.av b] (dB.res (N86 a b)):=ps_sum (n:=14) hB86 (by kernel_rfl) (by kernel_rfl) (by kernel_rfl) h
noncomputable def G86:List AV→Tr AV:=g2 dPos dMv (fun a b=>gdv (ok86 a b) (dB.res (N86 a b)))
theorem s86:Sound Pz 86 G86:=sound2 fun a b=>at_gd (P86 a b)
end Kz
end
section
namespace Go.Proofs
open Go.Shelf Go.RowKit Go.Lib Go.Sort
def encM (m:Kz.Mv):List Value:=[.int .i8 m.frm,.int .i8 m.to,.int .u8 m.pro,.int .u8 m.drp,.bool m.cas]
theorem encM_len (m:Kz.Mv):(encM m).length=5:=rfl
structure RowW (w:World) (blk cap:Nat) (ty:TypeId) (dk:Array Kz.Mv) (W:World):Prop where
  os:W.os=w.os
  tape:W.tape=w.tape
  output:W.output=w.output
  size:w.heap.size≤W.heap.size
  other:∀ k,k < w.heap.size→k≠blk→W.heap[k]?=w.heap[k]?
  row:∃ cur,W.heap[blk]?=some (.cells cur ty (0,0))∧cur.size=cap * 5∧∀ j c,j < dk.size→c < 5→cur[j * 5+c]?=(encM dk[j]!)[c]?
theorem RowW.below {w W W':World} {blk cap:Nat} {ty:TypeId} {dk:Array Kz.Mv} (h:RowW w blk cap ty dk W) (hb:blk < w.heap.size) (b:Below W.heap.size W W'):RowW w blk cap ty dk W' :=
  ⟨b.os.trans h.os,b.tape.trans h.tape,b.output.trans h.output,Nat.le_trans h.size b.size,fun k hk hn=>by rw [b.block k (Nat.lt_of_lt_of_le hk h.size)]; exact h.other k hk hn,by
    obtain ⟨cur,h1,h2⟩:=h.row
    exact ⟨cur,by rw [b.block blk (Nat.lt_of_lt_of_le hb h.size)]; exact h1,h2⟩⟩
theorem RowW.setCells {w W:World} {blk cap:Nat} {ty:TypeId} {dk dk':Array Kz.Mv} (h:RowW w blk cap ty dk W) (vs:List Value) (o:Nat)
    (hd:∀ j c,j < dk'.size→c < 5→j < dk.size∧(if o≤j * 5+c∧j * 5+c < o+vs.length then vs[j * 5+c - o]? else (encM dk[j]!)[c]?)=(encM dk'[j]!)[c]?) (hlen:o+vs.length≤cap * 5):RowW w blk cap ty dk' (W.setCells blk o vs):=by
  obtain ⟨cur,h1,h2,h3⟩:=h.row
  have hb:=Kz.lt_of_some h1
  have key:∀ (vs:List Value) (o:Nat) (W:World) (cur:Array Value),W.heap[blk]?=some (.cells cur ty (0,0))→o+vs.length≤cur.size →
      ∃ cur',W.setCells blk o vs=Kz.putBlk W blk (.cells cur' ty (0,0))∧cur'.size=cur.size∧∀ t,t < cur.size→cur'[t]?=if o≤t∧t < o+vs.length then vs[t - o]? else cur[t]? := by
    intro vs
    induction vs with
    | nil =>
      intro o W cur hW _
      refine ⟨cur,?_,rfl,fun t _=>by rw [if_neg (by simp)]⟩
      rw [World.setCells]
      simp only [Kz.putBlk]
      have:W.heap.setIfInBounds blk (.cells cur ty (0,0))=W.heap:=by
        apply Array.ext_getElem?
        intro i
        rw [Array.getElem?_setIfInBounds]
        split
        · rename_i e; subst e; split
          · exact hW.symm
          · rename_i h'; simp [Array.getElem?_eq_none (by omega:W.heap.size≤blk)]
        · rfl
      rw [this]
    | cons v vs ih =>
      intro o W cur hW hl
      simp only [List.length_cons] at hl
      have e1:W.setCell ⟨blk,o,none⟩ v=Kz.putBlk W blk (.cells (cur.setIfInBounds o v) ty (0,0)):=Kz.setCell_eq_put hW v
      obtain ⟨cur',a1,a2,a3⟩:=ih (o+1) (Kz.putBlk W blk (.cells (cur.setIfInBounds o v) ty (0,0))) (cur.setIfInBounds o v) (Kz.putBlk_same hW) (by simp; omega)
      refine ⟨cur',?_,by rw [a2]; simp,fun t ht => ?_⟩
      · rw [World.setCells,e1,a1]
        simp [Kz.putBlk]
      · rw [a3 t (by simpa using ht)]
        by_cases h1:o+1≤t∧t < o+1+vs.length
        · rw [if_pos h1,if_pos ⟨by omega,by simp; omega⟩]
          obtain ⟨u,rfl⟩:∃ u,t=o+1+u:=⟨t - (o+1),by omega⟩
          rw [show o+1+u - (o+1)=u by omega,show o+1+u - o=u+1 by omega]
          simp
        · rw [if_neg h1,Array.getElem?_setIfInBounds]
          by_cases h2:o=t
          · subst h2
            rw [if_pos rfl,if_pos (by omega),if_pos ⟨Nat.le_refl _,by simp⟩]
            simp
          · rw [if_neg h2,if_neg (by simp; omega)]
  obtain ⟨cur',a1,a2,a3⟩:=key vs o W cur h1 (by omega)
  rw [a1]
  refine ⟨h.os,h.tape,h.output,by rw [Kz.putBlk_size]; exact h.size,fun k hk hn=>by rw [Kz.putBlk_other hn]; exact h.other k hk hn,cur',Kz.putBlk_same h1,by rw [a2,h2],fun j c hj hc => ?_⟩
  obtain ⟨hj',he⟩:=hd j c hj hc
  have hlt:j * 5+c < cur.size:=by
    rcases Nat.lt_or_ge (j * 5+c) cur.size with h' | h'
    · exact h'
    · have:=h3 j c hj' hc
      rw [Array.getElem?_eq_none h',List.getElem?_eq_getElem (by rw [encM_len]; exact hc)] at this
      cases this
  rw [a3 _ hlt,h3 j c hj' hc]
  exact he
theorem RowW.put {w W:World} {blk cap:Nat} {ty:TypeId} {dk:Array Kz.Mv} (h:RowW w blk cap ty dk W) {i:Nat} (hi:i < dk.size) (hc:dk.size≤cap) (u:Kz.Mv):RowW w blk cap ty (dk.setIfInBounds i u) (W.setCells blk (i * 5) (encM u)):=by
  refine h.setCells (encM u) (i * 5) (fun j c hj hc => ?_) (by rw [encM_len]; have:=Nat.mul_le_mul_right 5 (show i+1≤cap by omega); omega)
  have hj':j < dk.size:=by simpa using hj
  refine ⟨hj',?_⟩
  rw [encM_len]
  by_cases e:i=j
  · subst e
    rw [if_pos ⟨by omega,by omega⟩,show i * 5+c - i * 5=c by omega,getElem!_pos (dk.setIfInBounds i u) i hj]
    simp
  · rw [if_neg (by omega),getElem!_pos (dk.setIfInBounds i u) j hj,getElem!_pos dk j hj',Array.getElem_setIfInBounds_ne _ e]
theorem RowW.tail {w W:World} {blk cap:Nat} {ty:TypeId} {dk:Array Kz.Mv} (h:RowW w blk cap ty dk W) {i n:Nat} (hn:i+n≤cap) (hi:i≤dk.size) (vs:List Value) (hl:vs.length=n * 5):RowW w blk cap ty (dk.toList.take i).toArray (W.setCells blk (i * 5) vs):=by
  refine h.setCells vs (i * 5) (fun j c hj hc => ?_) (by rw [hl,← Nat.add_mul]; exact Nat.mul_le_mul_right 5 hn)
  have hj':j < i:=by simp at hj; omega
  refine ⟨by omega,?_⟩
  rw [if_neg (by omega)]
  congr 2
  rw [getElem!_pos dk j (show j < dk.size by omega),getElem!_pos (dk.toList.take i).toArray j hj]
  simp
theorem RowW.same {w W:World} {blk cap:Nat} {ty:TypeId} {dk:Array Kz.Mv} (h:RowW w blk cap ty dk W) {i:Nat} (hi:i≤dk.size):RowW w blk cap ty (dk.toList.take i).toArray W:=by
  obtain ⟨cur,h1,h2,h3⟩:=h.row
  refine ⟨h.os,h.tape,h.output,h.size,h.other,cur,h1,h2,fun j c hj hc => ?_⟩
  have hj':j < i:=by simp at hj; omega
  rw [h3 j c (by omega) hc]
  congr 2
  rw [getElem!_pos dk j (show j < dk.size by omega),getElem!_pos (dk.toList.take i).toArray j hj]
  simp
def zeroM:Array Value := #[Value.int IntKind.i8 0,Value.int IntKind.i8 0,Value.int IntKind.u8 0,Value.int IntKind.u8 0,Value.bool false]
theorem zeroM_one (n:Nat):∀ v ∈ (Builtin.zeroCells zeroM n).toList,v.oneCell'=true:=by
  intro v hv
  simp only [Builtin.zeroCells,Array.toList_map,List.mem_map] at hv
  obtain ⟨i,_,rfl⟩:=hv
  have:i % zeroM.size < 5:=Nat.mod_lt _ (by decide)
  generalize i % zeroM.size=t at this
  match t,this with
  | 0,_ | 1,_ | 2,_ | 3,_ | 4,_=>rfl
  | t+5,h=>omega
theorem zeroM_len (n:Nat):(Builtin.zeroCells zeroM n).toList.length=n * 5:=by simp [Builtin.zeroCells,zeroM]
theorem run_clear5 (W:World) (b o n c:Nat) (hn:0 < n) (hc:∀ t,t < n * 5→(W.cell? ⟨b,o+t,none⟩).isSome=true) (hf:∀ t,t < n * 5→W.frozen? ⟨b,o+t,none⟩=false) (ty:TypeId) :
    (Builtin.clear_ #[40] ty #[.slice (some ⟨b,o,none⟩) n c]).run Tryz.prog W=.ok (.tuple #[]) (W.setCells b o (Builtin.zeroCells zeroM n).toList):=by
  have hst:=run_storeCells_cells (P:=Tryz.prog) b o (Builtin.zeroCells zeroM n).toList 0 W (by rw [zeroM_len]; simpa using hc) (by rw [zeroM_len]; simpa using hf) (zeroM_one n)
  simp only [Nat.add_zero] at hst
  obtain ⟨m,rfl⟩:∃ m,n=m+1:=⟨n - 1,by omega⟩
  have hz:(Value.agg zeroM).cells=zeroM:=rfl
  have hv:∀ w,(zeroValue 44).run Tryz.prog w=.ok (.agg zeroM) w:=Tryz.zeroValue44
  simp only [zeroM] at hst hz hv
  simp [Builtin.clear_,run_underlying Tryz.underlying40,hv,hz,hst]
  rfl
theorem RowW.cell {w W:World} {blk cap:Nat} {ty:TypeId} {dk:Array Kz.Mv} (h:RowW w blk cap ty dk W) {j:Nat} (hj:j < dk.size) (c:Nat) (hc:c < 5):W.cell? ⟨blk,j * 5+c,none⟩=some ((encM dk[j]!)[c]'hc)∧W.frozen? ⟨blk,j * 5+c,none⟩=false:=by
  obtain ⟨cur,h1,h2,h3⟩:=h.row
  refine ⟨?_,Kz.frozen_of_blk h1⟩
  rw [Kz.cell_of_blk h1,h3 j c hj hc]
  exact List.getElem?_eq_getElem _
theorem RowW.load {w W:World} {blk cap:Nat} {ty:TypeId} {dk:Array Kz.Mv} (h:RowW w blk cap ty dk W) {j:Nat} (hj:j < dk.size):Sem.run Tryz.prog (loadCellsFrom ⟨blk,0+j * 5,none⟩ 0 5 #[]) W=.ok (encM dk[j]!).toArray W :=
  run_loadCellsFrom_list Tryz.prog _ _ (encM dk[j]!) 5 rfl (fun c v hc=>by
    have hc5:c < 5:=(List.getElem?_eq_some_iff.1 hc).1
    obtain ⟨cur,h1,h2,h3⟩:=h.row
    rw [Addr.add_lit]
    rw [Kz.cell_of_blk h1,Nat.zero_add,h3 j c hj hc5]
    exact hc)
set_option maxHeartbeats 1000000 in
set_option maxRecDepth 100000 in
theorem delM (p:Kz.Mv→Bool) (g:Nat) (lb:Array Value) (eg:∀ args w,(callFunc g args).run Tryz.prog w=.ok (.enter g args) w) (blk cap:Nat) (d:Array Kz.Mv) (w:World) (hb:blk < w.heap.size) (hH:RowW w blk cap 44 d w) (hcap:d.size≤cap) (hmax:cap≤maxLen)
    (hpo:∀ W dk x,RowW w blk cap 44 dk W→Calls Tryz.prog g (#[.agg (encM x).toArray]++lb) W fun e w'=>e=.returned (.bool (p x))∧RowKit.Below W.heap.size W w') :
    Calls Tryz.prog 35 #[.slice (some ⟨blk,0,none⟩) d.size cap,.func (.func g) #[] lb] w fun e w'=>e=.returned (.slice (some ⟨blk,0,none⟩) (d.toList.filter fun x => !p x).length cap)∧RowW w blk cap 44 (d.toList.filter fun x => !p x).toArray w':=by
  have hsz:d.size≤9223372036854775807:=by unfold maxLen at hmax; omega
  have e6:∀ args w,(callFunc 77 args).run Tryz.prog w=.ok (.enter 77 args) w:=fun args w=>by rfl
  have hp:PredBelow Tryz.prog g lb (fun x=>.agg (encM x).toArray) p w:=fun W x hB=>(hpo W d x (hH.below hb hB)).mono fun e w' ⟨h1,h2⟩=>⟨h1,hB.trans (h2.mono hB.size)⟩
  have hIF:=AnyQ.slices_IndexFunc Tryz.idxM 5 Tryz.isAgg44 Tryz.sizeOf44 encM encM_len p g lb eg blk 0 d.size cap d.toList w hp (by simp) hsz hb (fun j hj i v hi=>by
    have hi5:i < 5:=(List.getElem?_eq_some_iff.1 hi).1
    have hj':j < d.size:=by simpa using hj
    obtain ⟨cur,h1,h2,h3⟩:=hH.row
    rw [Kz.cell_of_blk h1,Nat.zero_add,h3 j i hj' hi5]
    rw [← hi,getElem!_pos d j hj',getElem!_pos d.toList j hj]
    simp)
  rw [show d.toList.take d.size=d.toList from List.take_of_length_le (by simp)] at hIF
  have tl:∀ j,j < d.size→d.toList[j]! = d[j]! := fun j hj=>by rw [getElem!_pos d j hj,getElem!_pos d.toList j (by simpa using hj)]; simp
  obtain ⟨kp,HK⟩:∃ kp:Nat→Bool,Hid (kp=fun j => !p d[j]!):=⟨_,rfl⟩
  have hfil:(d.toList.filter fun x => !p x)=keptUpTo kp d d.size:=by rw [HK.out]; exact (keptUpTo_filter (fun x => !p x) d).symm
  rw [hfil]
  rcases idxByFrom_spec (fun _ y=>p y) default d.toList 0 with ⟨e1,hall⟩ | ⟨k0,hk0,e1,ht,hall⟩
  ·
    have e2:Lib.idxBy (fun _ y=>p y) d.toList default = -1:=e1
    rw [e2] at hIF
    have hkeep:∀ j,j < d.size→kp j=true:=fun j hj=>by rw [HK.out]; show (!p d[j]!)=true; rw [← tl j hj,hall j (by simpa using hj)]; rfl
    have e3:keptUpTo kp d d.size=d.toList:=by rw [keptUpTo_all kp d _ hkeep,range_map_get]
    have HH:Aside (RowW w blk cap 44 d w):=hH
    have HB:Hid (blk < w.heap.size):=hb
    clear hH hpo hp hb
    go_enter Tryz.func35,Tryz.ntmps35
    go_wp2_with (go_at_fn 77; refine hIF.mono ?_; rintro e w' ⟨rfl,hbl⟩)
    go_ret
    rw [e3]
    exact ⟨by simp,by simpa using HH.out.below HB.out hbl⟩
  · have hk0':k0 < d.size:=by simpa using hk0
    have e2:Lib.idxBy (fun _ y=>p y) d.toList default=(k0:Int):=by unfold Lib.idxBy; rw [e1]; simp
    rw [e2] at hIF
    have hkeep:∀ j,j < k0→kp j=true:=fun j hj=>by rw [HK.out]; show (!p d[j]!)=true; rw [← tl j (by omega),hall j hj]; rfl
    have hdrop:kp k0=false:=by rw [HK.out]; show (!p d[k0]!)=false; rw [← tl k0 hk0']; rw [show p d.toList[k0]! = true from ht]; rfl
    have hne1:((k0:Int) == -1)=false:=beq_eq_false_iff_ne.2 (by omega)
    have HC:Aside _:=hpo
    have HH:Aside (RowW w blk cap 44 d w):=hH
    have HB:Hid (blk < w.heap.size):=hb
    clear hpo hp hH hb hall ht e1 e2 tl
    go_enter Tryz.func35,Tryz.ntmps35
    go_wp2_with (go_at_fn 77; refine hIF.mono ?_; rintro e w' ⟨rfl,hbl⟩)
    have HBL:=Lib.hid hbl
    clear hbl
    go_loopg [5,6,7] d.size (fun gg s5 s6 _ wr => ∃ (i j:Nat) (dk:Array Kz.Mv),s5=.int .i64 i∧s6=.int .i64 j∧j≤d.size∧d.size - j≤gg∧Aside (RowW w blk cap 44 dk wr)∧Aside (KeptInv kp d j i dk))
    case atStart=>exact ⟨k0,k0+1,d,rfl,by go_num,by omega,by omega,HH.out.below HB.out HBL.out,KeptInv.start hkeep hdrop⟩
    case round =>
      obtain ⟨i,j,dk,rfl,rfl,hjd,hgg,W2,I2⟩:=hrel
      have hI:=I2.out
      have hij:=hI.lt
      have hds:=hI.size
      by_cases hlt:j < d.size
      · have hltz:(j:Int) < (d.size:Int):=by omega
        have c0:=(W2.out.cell (j:=j) (by omega) 0 (by omega)).1
        have c1:=(W2.out.cell (j:=j) (by omega) 1 (by omega)).1
        have c2:=(W2.out.cell (j:=j) (by omega) 2 (by omega)).1
        have c3:=(W2.out.cell (j:=j) (by omega) 3 (by omega)).1
        have c4:=(W2.out.cell (j:=j) (by omega) 4 (by omega)).1
        simp only [hI.high j (by omega),encM,List.getElem_cons_succ,List.getElem_cons_zero,Nat.add_zero] at c0 c1 c2 c3 c4
        clear hI
        generalize hu:d[j]! = u at c0 c1 c2 c3 c4
        have C:Aside (d[j]! = u):=hu
        clear hu
        have hW1:RowW w blk cap 44 dk (wr.alloc (Obj.cells #[Value.int IntKind.i8 u.frm,Value.int IntKind.i8 u.to,Value.int IntKind.u8 u.pro,Value.int IntKind.u8 u.drp,Value.bool u.cas] 44)) :=
          W2.out.below HB.out ((Below.refl _ _).alloc (Nat.le_refl _) _)
        have hcall:Calls Tryz.prog g (#[Value.agg #[Value.int IntKind.i8 u.frm,Value.int IntKind.i8 u.to,Value.int IntKind.u8 u.pro,Value.int IntKind.u8 u.drp,Value.bool u.cas]]++lb) _ _:=HC.out _ dk u hW1
        have HW1:=Lib.hid hW1
        clear hW1
        cases hq:p u with
        | false =>
          rw [hq] at hcall
          have HCALL:=Lib.hid hcall
          clear hcall
          go_wp2_with fail
          refine HCALL.out.mono ?_
          rintro e w2 ⟨rfl,hb2⟩
          have hW2:=HW1.out.below HB.out hb2
          have r0:=hW2.cell (j:=i) (by omega) 0 (by omega)
          have r1:=hW2.cell (j:=i) (by omega) 1 (by omega)
          have r2:=hW2.cell (j:=i) (by omega) 2 (by omega)
          have r3:=hW2.cell (j:=i) (by omega) 3 (by omega)
          have r4:=hW2.cell (j:=i) (by omega) 4 (by omega)
          simp only [Nat.add_zero] at r0
          obtain ⟨r0,f0⟩:=r0
          obtain ⟨r1,f1⟩:=r1
          obtain ⟨r2,f2⟩:=r2
          obtain ⟨r3,f3⟩:=r3
          obtain ⟨r4,f4⟩:=r4
          have hcs:∀ c,w2.cell? ⟨wr.heap.size,c,none⟩=(#[Value.int IntKind.i8 u.frm,Value.int IntKind.i8 u.to,Value.int IntKind.u8 u.pro,Value.int IntKind.u8 u.drp,Value.bool u.cas]:Array Value)[c]? := fun c=>by
            rw [hb2.cell (p:=⟨wr.heap.size,c,none⟩) (by simp),Kz.cell_of_blk (heap_alloc_new wr _)]
          have b0:=hcs 0
          have b1:=hcs 1
          have b2:=hcs 2
          have b3:=hcs 3
          have b4:=hcs 4
          simp at b0 b1 b2 b3 b4
          have HW2:=Lib.hid hW2
          clear hcs hb2 hW2
          go_wp2_with fail
          go_roundg (d.size - (j+1))
          case measure=>omega
          case rel =>
            refine ⟨i+1,j+1,dk.setIfInBounds i u,by go_num,by go_num,by omega,Nat.le_refl _,HW2.out.put (i:=i) (by omega) (by omega) u,(show Aside _ from ?_)⟩
            have:=I2.out.keep hlt (by rw [HK.out]; show (!p d[j]!)=true; rw [C.out,hq]; rfl)
            rwa [C.out] at this
        | true =>
          rw [hq] at hcall
          have HCALL:=Lib.hid hcall
          clear hcall
          go_wp2_with fail
          refine HCALL.out.mono ?_
          rintro e w2 ⟨rfl,hb2⟩
          have HW2:=Lib.hid (HW1.out.below HB.out hb2)
          clear hb2
          go_wp2_with fail
          go_roundg (d.size - (j+1))
          case measure=>omega
          case rel=>exact ⟨i,j+1,dk,rfl,by go_num,by omega,Nat.le_refl _,HW2.out,I2.out.skip (by rw [HK.out]; show (!p d[j]!)=false; rw [C.out,hq]; rfl)⟩
      · obtain rfl:j=d.size:=by omega
        have hltz:¬ (d.size:Int) < (d.size:Int):=by omega
        have hcl:∀ ty,(Builtin.clear_ #[40] ty #[.slice (some ⟨blk,i * 5,none⟩) (d.size - i) (cap - i)]).run Tryz.prog wr=.ok (.tuple #[]) (wr.setCells blk (i * 5) (Builtin.zeroCells zeroM (d.size - i)).toList):=by
          obtain ⟨cur,h1,h2,h3⟩:=W2.out.row
          refine run_clear5 wr blk (i * 5) (d.size - i) (cap - i) (by omega) (fun t ht => ?_) (fun t ht=>Kz.frozen_of_blk h1)
          rw [Kz.cell_of_blk h1]
          have:d.size * 5≤cap * 5:=Nat.mul_le_mul_right 5 hcap
          have h5:(d.size - i) * 5=d.size * 5 - i * 5:=Nat.sub_mul _ _ _
          rw [Array.getElem?_eq_getElem (by omega)]
          rfl
        have hid:i≤d.size:=by omega
        clear hI
        go_wp2
        go_ret
        have hI:=I2.out
        refine ⟨by rw [hI.len]; rfl,?_⟩
        have:=W2.out.tail (i:=i) (n:=d.size - i) (by omega) (by omega) _ (zeroM_len (d.size - i))
        have e:keptUpTo kp d d.size=dk.toList.take i:=by
          have hsz':=hI.size
          apply List.ext_getElem?
          intro j
          by_cases hj:j < i
          · rw [hI.low j hj,List.getElem?_take_of_lt hj,getElem!_pos dk j (by omega),List.getElem?_eq_getElem (by simp; omega)]
            simp
          · rw [List.getElem?_eq_none (by rw [hI.len]; omega),List.getElem?_eq_none (by simp; omega)]
        rw [e]
        exact this
end Go.Proofs
end
section
namespace Go.Proofs
open Go.Shelf Go.RowKit Go.Lib Go.Sort Kz
theorem mv_cells {g:Gh} {tk:List Nat} {w:World} {m:Mv} {cs:List Value} (h:RepC g tk w (segs (Mv.av m)) cs):cs=encM m:=by
  change RepC g tk w [.int .i8 m.frm,.int .i8 m.to,.int .u8 m.pro,.int .u8 m.drp,.bool m.cas] cs at h
  obtain ⟨x1,r1,rfl,q1,h⟩:=h.inv_one rfl
  obtain ⟨x2,r2,rfl,q2,h⟩:=h.inv_one rfl
  obtain ⟨x3,r3,rfl,q3,h⟩:=h.inv_one rfl
  obtain ⟨x4,r4,rfl,q4,h⟩:=h.inv_one rfl
  obtain ⟨x5,r5,rfl,q5,h⟩:=h.inv_one rfl
  obtain rfl:=h.inv_nil
  cases q1; cases q2; cases q3; cases q4; cases q5
  rfl
theorem mv_rep (g:Gh) (tk:List Nat) (w:World) (m:Mv):RepC g tk w (segs (Mv.av m)) (encM m) :=
  .one rfl (.int _ _) (.one rfl (.int _ _) (.one rfl (.int _ _) (.one rfl (.int _ _) (.one rfl (.bool _) .nil))))
theorem mvs_cells {g:Gh} {tk:List Nat} {w:World}:∀ {l:List Mv} {cs:List Value},RepE g tk w (l.map (enc .mv)) cs→cs=l.flatMap encM
  | [],_,h=>by cases h; rfl
  | m::l,_,h=>by
    cases h with
    | cons hs hx h hr=>rw [hx,mv_cells h,mvs_cells hr]; rfl
theorem mvs_rep (g:Gh) (tk:List Nat) (w:World):∀ l:List Mv,RepE g tk w (l.map (enc .mv)) (l.flatMap encM)
  | []=>.nil
  | m::l=>.cons rfl rfl (mv_rep g tk w m) (mvs_rep g tk w l)
theorem flat_len (l:List Mv):(l.flatMap encM).length=l.length * 5:=by
  induction l with
  | nil=>rfl
  | cons m l ih=>simp only [List.flatMap_cons,List.length_append,encM_len,ih,List.length_cons]; omega
theorem flat_get:∀ (l:List Mv) (j c:Nat),j < l.length→c < 5→(l.flatMap encM)[j * 5+c]?=(encM l[j]!)[c]?
  | [],_,_,h,_=>absurd h (Nat.not_lt_zero _)
  | m::l,0,c,_,hc=>by
    simp only [List.flatMap_cons]
    rw [List.getElem?_append_left (by rw [encM_len]; omega)]
    simp
  | m::l,j+1,c,h,hc=>by
    simp only [List.flatMap_cons]
    rw [List.getElem?_append_right (by rw [encM_len]; omega),encM_len,show (j+1) * 5+c - 5=j * 5+c by omega,flat_get l j c (by simpa using h) hc]
    simp
theorem encM_one (m:Mv):∀ u ∈ encM m,u.oneCell'=true:=by
  intro u hu
  simp only [encM,List.mem_cons,List.not_mem_nil,or_false] at hu
  rcases hu with rfl | rfl | rfl | rfl | rfl <;> rfl
theorem flat_one (l:List Mv):∀ u ∈ l.flatMap encM,u.oneCell'=true:=by
  intro u hu
  obtain ⟨m,_,h⟩:=List.mem_flatMap.1 hu
  exact encM_one m u h
theorem pos_rep {g g':Gh} {tk tk':List Nat} {w w':World} {p:Pos} {cs:List Value} (h:RepC g tk w (segs (Pos.av p)) cs):RepC g' tk' w' (segs (Pos.av p)) cs:=by
  change RepC g tk w [.int .u8 p.variant,.ints .u8 64 p.board,.u64 p.promoted,.ints .u8 12 p.pockets,.int .u8 p.turn,.ints .i8 4 p.rooks,.int .i8 p.passing,.ints .u8 2 p.checks,.int .i64 p.half,.int .i64 p.full] cs at h
  obtain ⟨x1,r1,rfl,q1,h1⟩:=h.inv_one rfl
  obtain ⟨l2,r2,rfl,h2⟩:=h1.inv_ints
  obtain ⟨x3,r3,rfl,q3,h3⟩:=h2.inv_one rfl
  obtain ⟨l4,r4,rfl,h4⟩:=h3.inv_ints
  obtain ⟨x5,r5,rfl,q5,h5⟩:=h4.inv_one rfl
  obtain ⟨l6,r6,rfl,h6⟩:=h5.inv_ints
  obtain ⟨x7,r7,rfl,q7,h7⟩:=h6.inv_one rfl
  obtain ⟨l8,r8,rfl,h8⟩:=h7.inv_ints
  obtain ⟨x9,r9,rfl,q9,h9⟩:=h8.inv_one rfl
  obtain ⟨x10,r10,rfl,q10,h10⟩:=h9.inv_one rfl
  obtain rfl:=h10.inv_nil
  cases q1; cases q3; cases q5; cases q7; cases q9; cases q10
  exact .one rfl (.int _ _) (.ints l2 rfl (.one rfl (.u64 _) (.ints l4 rfl (.one rfl (.int _ _) (.ints l6 rfl (.one rfl (.int _ _) (.ints l8 rfl (.one rfl (.int _ _) (.one rfl (.int _ _) .nil)))))))))
set_option maxHeartbeats 1000000 in
set_option maxRecDepth 100000 in
theorem idx0 (a:Option Addr) (c:Nat) (fv:Value) (w:World):Calls Tryz.prog 77 #[.slice a 0 c,fv] w fun e w'=>e=.returned (.int .i64 (-1))∧w'=w:=by
  go_enter Tryz.func77,Tryz.ntmps77
  go_wp2
  go_loopg [5,8] 0 (fun _ _ s8 wr=>s8=.int .i64 0∧wr=w)
  case atStart=>exact ⟨rfl,rfl⟩
  case round =>
    obtain ⟨rfl,rfl⟩:=hrel
    go_wp2
    go_ret
    exact ⟨rfl,rfl⟩
set_option maxHeartbeats 1000000 in
set_option maxRecDepth 100000 in
theorem del0 (a:Option Addr) (c:Nat) (fv:Value) (w:World):Calls Tryz.prog 35 #[.slice a 0 c,fv] w fun e w'=>e=.returned (.slice a 0 c)∧w'=w:=by
  have h:=idx0 a c fv w
  go_enter Tryz.func35,Tryz.ntmps35
  go_wp2_with fail
  refine h.mono ?_
  rintro e w' ⟨rfl,rfl⟩
  go_wp2_with fail
  go_ret
  exact ⟨rfl,rfl⟩
set_option maxHeartbeats 2000000 in
set_option maxRecDepth 100000 in
theorem clone0 (ad:Addr) (c:Nat) (w:World):Calls Tryz.prog 83 #[.slice (some ad) 0 c] w fun e w' => ∃ v',e=.returned v'∧w'.ownsRow w.heap.size 44 5 v' 0 []∧v'≠.slice none 0 0∧RowKit.Below w.heap.size w w':=by
  obtain ⟨i0,z,a1,a2,a3,a4,a5⟩:=info44
  have q22:∀ (w:World) (a:Option Addr) (n c n' c':Nat),(binOp .eql 40 (.slice a n c) (.slice none n' c')).run Tryz.prog w=.ok (.bool a.isNone) w:=fun w a n c n' c'=>Lib.run_eql_slice_nil w _ _ a n c n' c' Tryz.underlying40
  have u22:∀ w,Sem.run Tryz.prog (underlying 40) w=.ok (TypeDesc.slice 44) w:=run_underlying Tryz.underlying40
  go_enter Tryz.func83,Tryz.ntmps83
  go_wp2_with (at_builtin; refine wpList_append_own _ rfl _ _ 40 rfl w.heap.size 44 i0 z 5 i0.bytes Tryz.underlying40 a1 a2 a3 rfl a4 (by omega) _ _ _ rfl (World.ownsRow_made w #[] 0 (Nat.le_refl _) (Nat.zero_le _) (by simp)) ad 0 c [] rfl ?qc1 ?qc2 ?qc3 ?qc4 ?qc5 ?qc6 ?_)
  case qc1=>rfl
  case qc2=>intro j u hj; simp at hj
  case qc3=>intro u hu; simp at hu
  case qc4=>simp
  case qc5=>simp
  case qc6=>simp
  intro v' w1 hown hgrow hnil
  go_wp2
  go_ret
  refine ⟨v',rfl,by simpa using hown,?_,?_⟩
  · exact hnil
  · exact ((Below.refl _ w).alloc (Nat.le_refl _) _).grown hgrow (by simp) (by intro k hk; simp [Value.ownBlock] at hk; omega)
set_option maxHeartbeats 2000000 in
set_option maxRecDepth 100000 in
theorem keepM (p:Pos) (f2:Nat) (q:Mv→Bool) (l:List Mv) (hll:l.length≤lim) (hq:∀ m,PureSpec Tryz.prog 84 [Mv.av m,.ptrf (.func f2 [] [.ptrf (Pos.av p)])] (.bool (!q m))):PureSpec Tryz.prog 82 [.list .mv l .arg,.func f2 [] [.ptrf (Pos.av p)]] (.list .mv (l.filter q) .fresh):=by
  intro w vals hg hr
  obtain ⟨vals⟩:=vals
  cases hr with
  | cons q1 r1 =>
  cases r1 with
  | cons q2 r2 =>
  cases r2
  cases q2 with
  | func ha hb =>
  rename_i x y
  obtain ⟨x⟩:=x
  obtain ⟨y⟩:=y
  cases ha
  cases hb with
  | cons q3 r3 =>
  cases r3
  cases q3 with
  | ptrf hpc hpa =>
  rename_i pc po pcs
  cases q1 with
  | list hn hE hS hT hC =>
  rename_i a n cap cs
  subst hn
  have hcs:=mvs_cells hE
  obtain ⟨fv,hfv⟩:∃ fv:Value,fv=.func (.func f2) (Array.mk []) (Array.mk [.pointer (some ⟨pc,po,none⟩)]):=⟨_,rfl⟩
  rw [← hfv]
  have hpred:∀ (W:World) (u:Mv),w.heap.size+1≤W.heap.size→(∀ k,k < w.heap.size+1→W.heap[k]?=(w.alloc (.cells #[fv] 61)).heap[k]?) →
      Calls Tryz.prog 84 (#[.agg (encM u).toArray]++#[.pointer (some ⟨w.heap.size,0,none⟩)]) W fun e w'=>e=.returned (.bool (!q u))∧RowKit.Below W.heap.size W w':=by
    intro W u hsz hsame
    have old:∀ k,k < w.heap.size→W.heap[k]?=w.heap[k]? := fun k hk=>by
      rw [hsame k (by omega)]
      exact ((Below.refl _ w).alloc (Nat.le_refl _) _).block k hk
    refine (callsIn_wide.1 (hq u W (#[.agg (encM u).toArray]++#[.pointer (some ⟨w.heap.size,0,none⟩)]) ?_ ?_)).mono ?_
    · intro pr hpr j x hj
      obtain ⟨h1,h2⟩:=hg pr hpr j x hj
      have hlt:pr.1 < w.heap.size:=h2
      exact ⟨by rw [cell_same (old _ hlt)]; exact h1,Nat.lt_of_lt_of_le hlt (by omega)⟩
    · refine .cons (.agg (mv_rep _ _ _ u)) (.cons (.ptrf (cs:=[fv]) (.one rfl ?_ .nil) ?_) .nil)
      · rw [hfv]
        refine .func .nil (.cons (.ptrf (pos_rep hpc) ?_) .nil)
        intro j x hj
        obtain ⟨h1,h2⟩:=hpa j x hj
        have hlt:pc < w.heap.size:=h2
        exact ⟨by rw [cell_same (old _ hlt)]; exact h1,Nat.lt_of_lt_of_le hlt (by omega)⟩
      · intro j x hj
        have hc:W.heap[w.heap.size]?=some (.cells #[fv] 61 (0,0)):=by
          rw [hsame _ (Nat.lt_succ_self _)]; exact heap_alloc_new w _
        refine ⟨?_,show w.heap.size < W.heap.size by omega⟩
        rw [cell_of_blk hc,Nat.zero_add]
        simpa using hj
    · rintro e w' ⟨v,rfl,hb,hv⟩
      cases hv
      exact ⟨rfl,hb⟩
  subst hfv
  clear hpc hpa
  refine callsIn_wide.2 ?_
  cases a with
  | none =>
    obtain rfl:l=[]:=by
      rcases hS with h | ⟨_,_,h,_⟩
      · have:=flat_len l
        rw [← hcs,h] at this
        exact List.eq_nil_of_length_eq_zero (by simp at this; omega)
      · cases h
    have hc:=fun w=>AnyE.slices_Clone_nil Tryz.cloneM 0 cap w
    have hd:=del0 none 0 (.func (.func 84) #[] #[.pointer (some ⟨w.heap.size,0,none⟩)])
    clear hpred hS hcs hE hT
    go_enter Tryz.func82,Tryz.ntmps82
    go_wp2_with fail
    refine (hc _).mono ?_
    rintro e w' ⟨rfl,rfl⟩
    go_wp2_with fail
    refine (hd _).mono ?_
    rintro e w' ⟨rfl,rfl⟩
    go_wp2_with fail
    go_ret
    exact ⟨_,rfl,(Below.refl _ w).alloc (Nat.le_refl _) _,.list (cs:=[]) rfl .nil (.inl rfl) (fun k e=>by cases e) (Nat.le_refl _)⟩
  | some ad =>
    have hclone:Calls Tryz.prog 83 #[.slice (some ad) l.length cap] (w.alloc (.cells #[(.func (.func f2) (Array.mk []) (Array.mk [.pointer (some ⟨pc,po,none⟩)]))] 61)) fun e w' => ∃ v',e=.returned v'∧w'.ownsRow (w.alloc (.cells #[(.func (.func f2) (Array.mk []) (Array.mk [.pointer (some ⟨pc,po,none⟩)]))] 61)).heap.size 44 5 v' l.length (l.flatMap encM)∧v'≠.slice none 0 0∧RowKit.Below (w.alloc (.cells #[(.func (.func f2) (Array.mk []) (Array.mk [.pointer (some ⟨pc,po,none⟩)]))] 61)).heap.size (w.alloc (.cells #[(.func (.func f2) (Array.mk []) (Array.mk [.pointer (some ⟨pc,po,none⟩)]))] 61)) w':=by
      by_cases hl:l=[]
      · subst hl
        exact clone0 ad cap _
      · obtain ⟨c,o,hadr,hat,_⟩:=hS.resolve_left (fun e0=>hl (by
          have:=flat_len l
          rw [← hcs,e0] at this
          exact List.eq_nil_of_length_eq_zero (by simp at this; omega)))
        simp only [Option.some.injEq] at hadr
        subst hadr
        obtain ⟨i0,z,a1,a2,a3,a4,a5⟩:=info44
        refine AnyE.slices_Clone Tryz.cloneM i0 z 5 i0.bytes a1 a2 a3 rfl a4 (by omega) Tryz.sizeOf44 c o l.length cap (l.flatMap encM) _ (flat_len l) ?_ ?_ ?_ (flat_one l)
        · unfold lim at hll; unfold maxLen; omega
        · have:l.length * i0.bytes≤l.length * 131072:=Nat.mul_le_mul_left _ a5
          unfold lim at hll
          omega
        · intro j u hj
          rw [← hcs] at hj
          obtain ⟨h1,h2⟩:=hat j u hj
          have hlt:c < w.heap.size:=h2
          rw [cell_same (((Below.refl _ w).alloc (Nat.le_refl _) _).block c hlt)]
          exact h1
    clear hS hcs hE hT
    have HP:=Lib.hid hpred
    clear hpred
    go_enter Tryz.func82,Tryz.ntmps82
    go_wp2_with fail
    refine hclone.mono ?_
    rintro e w2 ⟨v',rfl,hown,hne,hb⟩
    obtain ⟨hlen,⟨rfl,_⟩ | ⟨gb,cap',cur,rfl,hgb,hcur,hn',hmax,hsz,htake⟩⟩:=hown
    · exact absurd rfl hne
    have hrow:RowW w2 gb cap' 44 l.toArray w2:=⟨rfl,rfl,rfl,Nat.le_refl _,fun _ _ _=>rfl,cur,hcur,hsz,fun j c hj hc=>by
      have hj':j < l.length:=by simpa using hj
      have h1:j * 5+c < l.length * 5:=by have:=Nat.mul_le_mul_right 5 (show j+1≤l.length from hj'); omega
      rw [← Array.getElem?_toList,← List.getElem?_take_of_lt h1,htake,flat_get l j c hj' hc]
      congr 2
      rw [getElem!_pos l j hj',getElem!_pos l.toArray j hj]
      simp⟩
    have hdel:=delM (fun u => !q u) 84 #[.pointer (some ⟨w.heap.size,0,none⟩)] (fun _ _=>rfl) gb cap' l.toArray w2 (lt_of_some hcur) hrow (by simpa using hn') hmax (fun W dk u hW=>by
      have hs1:(w.alloc (.cells #[(.func (.func f2) (Array.mk []) (Array.mk [.pointer (some ⟨pc,po,none⟩)]))] 61)).heap.size=w.heap.size+1:=by simp
      refine HP.out W u (by have:=hb.size; have:=hW.size; omega) (fun k hk => ?_)
      rw [hW.other k (by have:=hb.size; omega) (by omega),hb.block k (by omega)])
    simp only [List.size_toArray,Bool.not_not] at hdel
    have HD:=Lib.hid hdel
    have HBW:=Lib.hid hb
    have HG:=Lib.hid hgb
    have HN:=Lib.hid hn'
    clear hdel HP hrow hb hgb hn' hcur hsz htake hlen hne hmax hclone
    go_wp2_with fail
    refine HD.out.mono ?_
    rintro e w3 ⟨rfl,hR⟩
    have HR:=Lib.hid hR
    clear hR
    go_wp2_with fail
    go_ret
    have hR:=HR.out
    have hb:=HBW.out
    have hgb:=HG.out
    have hs1:(w.alloc (.cells #[(.func (.func f2) (Array.mk []) (Array.mk [.pointer (some ⟨pc,po,none⟩)]))] 61)).heap.size=w.heap.size+1:=by simp
    have hw1:RowKit.Below w.heap.size w (w.alloc (.cells #[(.func (.func f2) (Array.mk []) (Array.mk [.pointer (some ⟨pc,po,none⟩)]))] 61)):=(Below.refl _ w).alloc (Nat.le_refl _) _
    have hbw:RowKit.Below w.heap.size w w3:=⟨hR.os.trans (hb.os.trans hw1.os),hR.tape.trans (hb.tape.trans hw1.tape),hR.output.trans (hb.output.trans hw1.output),by have:=hR.size; have:=hb.size; omega,fun k hk=>by
      rw [hR.other k (by have:=hb.size; omega) (by omega),hb.block k (by omega)]
      exact hw1.block k hk⟩
    refine ⟨_,rfl,hbw,?_⟩
    obtain ⟨cur,k1,k2,k3⟩:=hR.row
    have hfl:(l.filter q).length≤l.length:=List.length_filter_le _ _
    refine .list (cs:=(l.filter q).flatMap encM) (by simp) (mvs_rep _ _ _ _) (.inr ⟨gb,0,rfl,fun j x hj => ?_,fun _=>by show w.heap.size≤gb; omega⟩) (fun k e=>by cases e) (Nat.le_trans hfl HN.out)
    have hjl:j < (l.filter q).length * 5:=by rw [← flat_len]; exact (List.getElem?_eq_some_iff.1 hj).1
    have hdm:j=j / 5 * 5+j % 5:=by omega
    have hq5:j / 5 < (l.filter q).length:=by omega
    refine ⟨?_,show w.heap.size≤gb∧gb < w3.heap.size from ⟨by omega,lt_of_some k1⟩⟩
    rw [cell_of_blk k1,Nat.zero_add,hdm,k3 (j / 5) (j % 5) (by simpa using hq5) (Nat.mod_lt _ (by omega)),← hj]
    conv=>rhs; rw [hdm]
    rw [flat_get (l.filter q) (j / 5) (j % 5) hq5 (Nat.mod_lt _ (by omega))]
    congr 2
    rw [getElem!_pos (l.filter q) (j / 5) hq5,getElem!_pos (l.filter q).toArray (j / 5) (by simpa using hq5)]
    simp
end Go.Proofs
end
section
namespace Kz
open Go Go.RowKit Go.Proofs
def posAt (h:Hp) (b:Nat):Pos:=match h.heap.getD b [] with
  | [.int _ v,.ints _ _ bd,.u64 pr,.ints _ _ pk,.int _ tn,.ints _ _ rk,.int _ ps,.ints _ _ ck,.int _ hf,.int _ fl]=>⟨v,bd,pr,pk,tn,rk,ps,ck,hf,fl⟩
  | _=>default
def clo (vs:List AV):Option (Nat×Nat):=match vs with
  | [_,.func f [] [.ptr b 0]]=>some (f,b)
  | _=>none
theorem fs_keep {P:Program} {f:Nat} {l l':List Mv} {tk:Tk} {f2 b:Nat} {p:Pos} {h:Hp} (hb:h.heap[b]?=some (segs (Pos.av p))) (hs:PureSpec P f [.list .mv l .arg,.func f2 [] [.ptrf (Pos.av p)]] (.list .mv l' .fresh)) :
    FSpec P f [.list .mv l tk,.func f2 [] [.ptr b 0]] h (.ret (.list .mv l' .fresh) h):=by
  intro g w vals m hr
  have hr':RepL (gArg w) [] w [.list .mv l .arg,.func f2 [] [.ptrf (Pos.av p)]] vals.toList:=by
    obtain ⟨vals⟩:=vals
    cases hr with
    | cons q1 r1 =>
    cases r1 with
    | cons q2 r2 =>
    cases r2
    cases q1 with
    | list hn hE hS hT hC =>
    rename_i a n cap cs
    cases q2 with
    | func ha hb2 =>
    rename_i x y
    obtain ⟨x⟩:=x
    obtain ⟨y⟩:=y
    cases ha
    cases hb2 with
    | cons q3 r3 =>
    cases r3
    cases q3 with
    | ptr hv =>
    rename_i c
    obtain ⟨_,_,cells,ty,hc,hcells⟩:=m.var b c _ hv hb
    refine .cons (.list (cs:=cs) hn (by rw [mvs_cells hE]; exact mvs_rep _ _ _ _) (hS.imp id fun ⟨c',o',e1,e2,_⟩=>⟨c',o',e1,fun j x hj=>⟨(e2 j x hj).1,m.fzlt _ _ (e2 j x hj).2⟩,fun f=>absurd rfl f⟩) (fun k e=>by cases e) hC)
      (.cons (.func .nil (.cons (.ptrf (cs:=cells.toList) (pos_rep hcells) fun j x hj=>⟨by rw [cell_of_blk hc,Nat.zero_add]; simpa using hj,lt_of_some hc⟩) .nil)) .nil)
  refine (hs w vals m.globOk hr').mono ?_
  rintro e w' ⟨x,rfl,hbl,hx⟩
  obtain ⟨m1,l1⟩:=m.growFz hbl
  exact ⟨_,x,rfl,⟨m1,l1,Fl.refl _⟩,res_in m hx⟩
end Kz
end
section
namespace Kz
open Go Go.RowKit Go.Proofs
set_option maxRecDepth 100000
set_option maxHeartbeats 4000000
noncomputable def B84:Base:=baseOf Pz (fun _ _=>[]) [(19,G19),(86,G86)] [] []
theorem hB84:BOk B84:=base_ok named_z ⟨s19,s86,trivial⟩ trivial trivial
theorem E84a (p:Pos) (m:Mv):evPure B84 14 84 [Mv.av m,.ptrf (.func 85 [] [.ptrf (Pos.av p)])]=Tr.br (ok86 p m) (Tr.ret (AV.bool (!N86 p m))) Tr.fail:=by kernel_rfl
theorem E84b (p:Pos) (m:Mv):evPure B84 14 84 [Mv.av m,.ptrf (.func 87 [] [.ptrf (Pos.av p)])]=Tr.br (ok19 p m) (Tr.ret (AV.bool (!N19 p m))) Tr.fail:=by kernel_rfl
theorem P84a (p:Pos) (m:Mv) (h:ok86 p m=true):PureSpec Pz 84 [Mv.av m,.ptrf (.func 85 [] [.ptrf (Pos.av p)])] (.bool (!N86 p m)) :=
  (ps_gotR (d:=dB) hB84 (E84a p m) (gr_guard (gr_ret rfl)) (by rw [h]; rfl)).1
theorem P84b (p:Pos) (m:Mv) (h:ok19 p m=true):PureSpec Pz 84 [Mv.av m,.ptrf (.func 87 [] [.ptrf (Pos.av p)])] (.bool (!N19 p m)) :=
  (ps_gotR (d:=dB) hB84 (E84b p m) (gr_guard (gr_ret rfl)) (by rw [h]; rfl)).1
open Classical in
noncomputable def all86 (p:Pos):Bool:=shut (decide (∀ m,ok86 p m=true))
theorem all86_iff {p:Pos}:all86 p=true ↔ ∀ m,ok86 p m=true:=by
  unfold all86
  rw [shut_eq]
  simp
open Classical in
noncomputable def all19 (p:Pos):Bool:=shut (decide (∀ m,ok19 p m=true))
theorem all19_iff {p:Pos}:all19 p=true ↔ ∀ m,ok19 p m=true:=by
  unfold all19
  rw [shut_eq]
  simp
noncomputable def kept (f:Nat) (p:Pos) (l:List Mv):List Mv:=l.filter (bif f.beq 85 then N86 p else N19 p)
noncomputable def okKept (f:Nat) (p:Pos) (l:List Mv):Bool:=decide (l.length≤lim)&&bif f.beq 85 then all86 p else f.beq 87&&all19 p
noncomputable def FF82:List AV→Hp→Tr FRes:=fun xs h=>match xs with
  | [.list .mv l _,.func f [] [.ptr b 0]]=>match h.heap[b]? with
    | some [.int .u8 v,.ints .u8 64 bd,.u64 pr,.ints .u8 12 pk,.int .u8 tn,.ints .i8 4 rk,.int .i8 ps,.ints .u8 2 ck,.int .i64 hf,.int .i64 fl] =>
      .guard (okKept f ⟨v,bd,pr,pk,tn,rk,ps,ck,hf,fl⟩ l) (.ret (.ret (.list .mv (kept f ⟨v,bd,pr,pk,tn,rk,ps,ck,hf,fl⟩ l) .fresh) h))
    | _=>.fail
  | _=>.fail
theorem body82:∃ fn,Pz.funcs[82]?=some fn∧fn.body.isSome=true:=by
  have h:(match Pz.funcs[82]? with
    | some fn=>fn.body.isSome
    | none=>false)=true:=by kernel_rfl
  split at h
  · rename_i fn hf
    exact ⟨fn,hf,h⟩
  · cases h
theorem sFF82:FSound Pz 82 FF82:=by
  intro xs h res he
  unfold FF82 at he
  split at he
  · rename_i l tk f b
    split at he
    · rename_i v bd pr pk tn rk ps ck hf fl hb
      simp only [get_guard,get_ret,Option.some.injEq] at he
      obtain ⟨h1,rfl⟩:=he
      refine ⟨?_,body82⟩
      unfold okKept at h1
      simp only [Bool.and_eq_true,decide_eq_true_eq] at h1
      obtain ⟨hl,h1⟩:=h1
      unfold kept
      cases hf3:f.beq 85 with
      | true =>
        rw [hf3] at h1
        obtain rfl:=Nat.eq_of_beq_eq_true hf3
        exact fs_keep (p:=⟨v,bd,pr,pk,tn,rk,ps,ck,hf,fl⟩) hb (keepM _ _ _ l hl fun m=>P84a _ m (all86_iff.1 h1 m))
      | false =>
        rw [hf3] at h1
        simp only [cond_false,Bool.and_eq_true] at h1
        obtain rfl:=Nat.eq_of_beq_eq_true h1.1
        exact fs_keep (p:=⟨v,bd,pr,pk,tn,rk,ps,ck,hf,fl⟩) hb (keepM _ _ _ l hl fun m=>P84b _ m (all19_iff.1 h1.2 m))
    · simp at he
  · simp at he
noncomputable def K39:List (Nat×Nat×List (Nat×List Nat)):=[(39,37,[(0,(1::(rn 12 5 [28,29,30]))),(1,[1,17,28,29,30]),(2,[2]),(3,[1,3,28,29,30]),(4,[1,3,4,28,29,30]),(5,[1,3,4,5,28,29,30]),(6,[3,4,5,31]),(7,[4]),(8,[2])]),(82,9,[(0,[0,3]),(1,[4])]),(85,7,[(0,[1,2]),(1,[3])]),(87,7,[(0,[1,2]),(1,[3])]),(88,9,[(0,[0,1]),(1,[4])]),(77,19,[(0,[0,1]),(1,[0,1,7,8]),(2,[0,1,7,8,9]),(3,[0,1,5,7,8]),(4,[0,1,5,7,8,16]),(5,[4]),(6,[0,1,7,8]),(7,[4])])]
noncomputable def B39_1:Base:=baseOf Pz (fun f i=>lkC f i K39) [(80,G80),(45,G45),(19,G19),(86,G86),(81,G81)] [] [(82,FF82)]
theorem hB39_1:BOk B39_1:=base_ok named_z ⟨s80,s45,s19,s86,s81,trivial⟩ trivial ⟨sFF82,trivial⟩
noncomputable def S39_1 (p1:(List Mv)) (p2:Int) (p3:Pos) (x:(Int)):St:=St.mk (AV.list ET.mv p1 Tk.fresh::AV.func 87 [] [AV.ptr 0 0]::(an 5 (AV.int .i64 p2::AV.int .i64 x::(an 10 [])))) (Hp.mk [(pc p3 [])] [0] [] 0 0 0)
noncomputable def O39_1 (p1:(List Mv)) (p2:Int) (p3:Pos):(Int) ⊕ (Int×Bool)→Out
  | (.inl (y))=>.ret (St.mk (an 4 (AV.int .i64 y::(an 14 []))) (Hp.mk [(pc p3 [])] [0] [] 0 0 0))
  | (.inr (y))=>.exit 0 (St.mk (AV.list ET.mv p1 Tk.fresh::AV.func 87 [] [AV.ptr 0 0]::(an 5 (AV.int .i64 p2::AV.int .i64 y.fst::AV.bool y.snd::(an 9 [])))) (Hp.mk [(pc p3 [])] [0] [] 0 0 0))
noncomputable def st39_1 (p1:(List Mv)) (p2:Int) (p3:Pos) (x:(Int)):Stp (Int) ((Int) ⊕ (Int×Bool)):=(bif decide (x < p2) then (bif N19 p3 (p1.getD x.toNat default) then (Stp.out (.inl ((x)))) else (Stp.go (wr .i64 (x+1)))) else (Stp.out (.inr ((x,decide (x < p2))))))
noncomputable def okL39_1 (p1:(List Mv)) (p2:Int) (p3:Pos) (x:(Int)):Bool:=(bif decide (x < p2) then (decide (0≤x)&&decide (x < Int.ofNat p1.length)&&(ok19 (p3) (p1.getD x.toNat default)&&true)) else true)
noncomputable def lp39_1 (p1:(List Mv)) (p2:Int) (p3:Pos) (x:(Int)):Option ((Int) ⊕ (Int×Bool)):=itl (fun x=>bif okL39_1 p1 p2 p3 x then st39_1 p1 p2 p3 x else .bad) many x
abbrev D39_1 {α:Type} (k:(List Mv)→Int→Pos→(Int)→α) (s:St):α:=wP s 0 fun q0=>k (tL (ET.mv) (tT s 0)) (tI (tT s 7)) q0 ((tI (tT s 8)))
theorem L39_1 (p1:(List Mv)) (p2:Int) (p3:Pos) (x:(Int)) (r:(Int) ⊕ (Int×Bool)) (h:lp39_1 p1 p2 p3 x=some r):LSpec Pz (bodL Pz 77 2) (S39_1 p1 p2 p3 x) (O39_1 p1 p2 p3 r):=LSpec.smd (m:=12) (fn:=77) hB39_1 (D39_1 fun _ _ _ x=>some x) (fun o=>match o with | .ret s=>some (.inl (tI (tT s 4))) | .exit 0 s=>some (.inr ((tI (tT s 8)),(tB (tT s 9)))) | _=>none) (fun r=>by cases r <;> rfl) (fun _=>by kernel_rfl) (fun _=>by kernel_rfl) (fun _=>by kernel_rfl) (fun _=>by kernel_rfl) many x r h
noncomputable def F39_1 (b:Code) (s:St):Tr Out:=D39_1 (fun p1 p2 p3 x=>lk2 b (bodL Pz 77 2) s (S39_1 p1 p2 p3 x) (lp39_1 p1 p2 p3 x) (O39_1 p1 p2 p3)) s
theorem sF39_1:∀ b,LSound Pz b (F39_1 b):=fun _ _ _ h=>lk2_ok (L39_1 _ _ _ _) h
noncomputable def B39:Base:=baseOf Pz (fun f i=>lkC f i K39) [(80,G80),(45,G45),(19,G19),(86,G86),(81,G81)] [(77,2,F39_1)] [(82,FF82)]
theorem hB39:BOk B39:=base_ok named_z ⟨s80,s45,s19,s86,s81,trivial⟩ ⟨sF39_1,trivial⟩ ⟨sFF82,trivial⟩
noncomputable def N39 (a:Pos):List Mv:=(bif N80 a.variant a.turn then (bif !N81 a a.turn then ([]) else (bif a.variant==4 then (bif isL ((lp39_1 (kept 85 a (N45 a)) (Int.ofNat (kept 85 a (N45 a)).length) a 0).getD default) then (bif decide (gl ((lp39_1 (kept 85 a (N45 a)) (Int.ofNat (kept 85 a (N45 a)).length) a 0).getD default) ≥ 0) then (kept 87 a (kept 85 a (N45 a))) else (kept 85 a (N45 a))) else (kept 85 a (N45 a))) else (kept 85 a (N45 a)))) else (bif a.variant==4 then (bif isL ((lp39_1 (kept 85 a (N45 a)) (Int.ofNat (kept 85 a (N45 a)).length) a 0).getD default) then (bif decide (gl ((lp39_1 (kept 85 a (N45 a)) (Int.ofNat (kept 85 a (N45 a)).length) a 0).getD default) ≥ 0) then (kept 87 a (kept 85 a (N45 a))) else (kept 85 a (N45 a))) else (kept 85 a (N45 a))) else (kept 85 a (N45 a))))
noncomputable def ok39 (a:Pos):Bool:=(ok80 (a.variant) (a.turn)&&(bif N80 a.variant a.turn then (ok81 (a) (a.turn)&&(bif !N81 a a.turn then true else (ok45 (a)&&(okKept 85 a (N45 a)&&(bif a.variant==4 then ((lp39_1 (kept 85 a (N45 a)) (Int.ofNat (kept 85 a (N45 a)).length) a 0).isSome&&bif isL ((lp39_1 (kept 85 a (N45 a)) (Int.ofNat (kept 85 a (N45 a)).length) a 0).getD default) then (bif decide (gl ((lp39_1 (kept 85 a (N45 a)) (Int.ofNat (kept 85 a (N45 a)).length) a 0).getD default) ≥ 0) then (okKept 87 a (kept 85 a (N45 a))&&true) else true) else true) else true))))) else (ok45 (a)&&(okKept 85 a (N45 a)&&(bif a.variant==4 then ((lp39_1 (kept 85 a (N45 a)) (Int.ofNat (kept 85 a (N45 a)).length) a 0).isSome&&bif isL ((lp39_1 (kept 85 a (N45 a)) (Int.ofNat (kept 85 a (N45 a)).length) a 0).getD default) then (bif decide (gl ((lp39_1 (kept 85 a (N45 a)) (Int.ofNat (kept 85 a (N45 a)).length) a 0).getD default) ≥ 0) then (okKept 87 a (kept 85 a (N45 a))&&true) else true) else true) else true)))))
theorem P39 (a:Pos) (h:ok39 a=true):PS Pz 39 [Pos.av a] ((dL .mv).res (N39 a)):=ps_sum (n:=14) hB39 (by kernel_rfl) (by kernel_rfl) (by kernel_rfl) h
noncomputable def G39:List AV→Tr AV:=g1 dPos (fun a=>gdv (ok39 a) ((dL .mv).res (N39 a)))
theorem s39:Sound Pz 39 G39:=sound1 fun a=>at_gd (P39 a)
noncomputable def K143:List (Nat×Nat×List (Nat×List Nat)):=[(88,9,[(0,[0,1]),(1,[4])]),(143,40,[(0,[1,2,16]),(1,[1,2,3,16]),(2,[1,2,4,5,16]),(3,[1,2,4,5,13]),(4,[2]),(5,[1,2,4,19]),(6,[2]),(7,[1,2,22]),(8,[2]),(9,[1,2,26]),(10,[2]),(11,[1,2,6]),(12,[1,2,7]),(13,[2,37]),(14,[2]),(15,[2])]),(77,19,[(0,[0,1]),(1,[0,1,7,8]),(2,[0,1,7,8,9]),(3,[0,1,5,7,8]),(4,[0,1,5,7,8,16]),(5,[4]),(6,[0,1,7,8]),(7,[4])]),(176,8,[(0,[0,1]),(1,[3])]),(177,14,[(0,[1,2,10,11,12]),(1,[3])])]
noncomputable def B143_1:Base:=baseOf Pz (fun f i=>lkC f i K143) [(39,G39),(106,G106),(172,G172)] [] []
theorem hB143_1:BOk B143_1:=base_ok named_z ⟨s39,s106,s172,trivial⟩ trivial trivial
noncomputable def S143_1 (p1:(List Mv)) (p2:Int) (p3:Pos) (p4:Int) (x:(Int)):St:=St.mk (AV.list ET.mv p1 Tk.fresh::AV.func 177 [] [AV.ptr 2 0]::(an 5 (AV.int .i64 p2::AV.int .i64 x::(an 10 [])))) (Hp.mk [(pc p3 []),[AV.int .u8 0,AV.int .u8 0],[AV.int .i64 p4]] [] [] 0 0 0)
noncomputable def O143_1 (p1:(List Mv)) (p2:Int) (p3:Pos) (p4:Int):(Int) ⊕ (Int×Bool)→Out
  | (.inl (y))=>.ret (St.mk (an 4 (AV.int .i64 y::(an 14 []))) (Hp.mk [(pc p3 []),[AV.int .u8 0,AV.int .u8 0],[AV.int .i64 p4]] [] [] 0 0 0))
  | (.inr (y))=>.exit 0 (St.mk (AV.list ET.mv p1 Tk.fresh::AV.func 177 [] [AV.ptr 2 0]::(an 5 (AV.int .i64 p2::AV.int .i64 y.fst::AV.bool y.snd::(an 9 [])))) (Hp.mk [(pc p3 []),[AV.int .u8 0,AV.int .u8 0],[AV.int .i64 p4]] [] [] 0 0 0))
noncomputable def st143_1 (p1:(List Mv)) (p2:Int) (p3:Pos) (p4:Int) (x:(Int)):Stp (Int) ((Int) ⊕ (Int×Bool)):=(bif decide (x < p2) then (bif wr .i64 (p1.getD x.toNat default).frm==p4 then (bif decide ((p1.getD x.toNat default).to ≥ 56) then (Stp.out (.inl ((x)))) else (Stp.go (wr .i64 (x+1)))) else (Stp.go (wr .i64 (x+1)))) else (Stp.out (.inr ((x,decide (x < p2))))))
noncomputable def okL143_1 (p1:(List Mv)) (p2:Int) (p3:Pos) (p4:Int) (x:(Int)):Bool:=(bif decide (x < p2) then (decide (0≤x)&&decide (x < Int.ofNat p1.length)&&true) else true)
noncomputable def lp143_1 (p1:(List Mv)) (p2:Int) (p3:Pos) (p4:Int) (x:(Int)):Option ((Int) ⊕ (Int×Bool)):=itl (fun x=>bif okL143_1 p1 p2 p3 p4 x then st143_1 p1 p2 p3 p4 x else .bad) many x
abbrev D143_1 {α:Type} (k:(List Mv)→Int→Pos→Int→(Int)→α) (s:St):α:=wP s 0 fun q0=>k (tL (ET.mv) (tT s 0)) (tI (tT s 7)) q0 (tI (tH s 2 0)) ((tI (tT s 8)))
theorem L143_1 (p1:(List Mv)) (p2:Int) (p3:Pos) (p4:Int) (x:(Int)) (r:(Int) ⊕ (Int×Bool)) (h:lp143_1 p1 p2 p3 p4 x=some r):LSpec Pz (bodL Pz 77 2) (S143_1 p1 p2 p3 p4 x) (O143_1 p1 p2 p3 p4 r):=LSpec.smd (m:=12) (fn:=77) hB143_1 (D143_1 fun _ _ _ _ x=>some x) (fun o=>match o with | .ret s=>some (.inl (tI (tT s 4))) | .exit 0 s=>some (.inr ((tI (tT s 8)),(tB (tT s 9)))) | _=>none) (fun r=>by cases r <;> rfl) (fun _=>by kernel_rfl) (fun _=>by kernel_rfl) (fun _=>by kernel_rfl) (fun _=>by kernel_rfl) many x r h
noncomputable def F143_1 (b:Code) (s:St):Tr Out:=D143_1 (fun p1 p2 p3 p4 x=>lk2 b (bodL Pz 77 2) s (S143_1 p1 p2 p3 p4 x) (lp143_1 p1 p2 p3 p4 x) (O143_1 p1 p2 p3 p4)) s
theorem sF143_1:∀ b,LSound Pz b (F143_1 b):=fun _ _ _ h=>lk2_ok (L143_1 _ _ _ _ _) h
noncomputable def B143:Base:=baseOf Pz (fun f i=>lkC f i K143) [(39,G39),(106,G106),(172,G172)] [(77,2,F143_1)] []
theorem hB143:BOk B143:=base_ok named_z ⟨s39,s106,s172,trivial⟩ ⟨sF143_1,trivial⟩ trivial
noncomputable def N143 (a:Pos):(Int×Int):=(bif decide (N106 a 0 6 ≥ 56) then (bif decide (N106 a 1 6 ≥ 56) then ⟨(3),(6)⟩ else (bif decide (N106 a 1 6 ≥ 56) then ⟨((N172 1 6).fst),((N172 1 6).snd)⟩ else (bif !decide (N106 a 0 6 ≥ 56) then ⟨(0),(0)⟩ else (bif a.turn==0 then ⟨((N172 0 6).fst),((N172 0 6).snd)⟩ else (bif isL ((lp143_1 (N39 a) (Int.ofNat (N39 a).length) a (N106 a 1 6) 0).getD default) then (bif decide (gl ((lp143_1 (N39 a) (Int.ofNat (N39 a).length) a (N106 a 1 6) 0).getD default) ≥ 0) then ⟨(0),(0)⟩ else ⟨((N172 0 6).fst),((N172 0 6).snd)⟩) else ⟨((N172 0 6).fst),((N172 0 6).snd)⟩))))) else (bif decide (N106 a 1 6 ≥ 56) then ⟨((N172 1 6).fst),((N172 1 6).snd)⟩ else (bif !decide (N106 a 0 6 ≥ 56) then ⟨(0),(0)⟩ else (bif a.turn==0 then ⟨((N172 0 6).fst),((N172 0 6).snd)⟩ else (bif isL ((lp143_1 (N39 a) (Int.ofNat (N39 a).length) a (N106 a 1 6) 0).getD default) then (bif decide (gl ((lp143_1 (N39 a) (Int.ofNat (N39 a).length) a (N106 a 1 6) 0).getD default) ≥ 0) then ⟨(0),(0)⟩ else ⟨((N172 0 6).fst),((N172 0 6).snd)⟩) else ⟨((N172 0 6).fst),((N172 0 6).snd)⟩)))))
noncomputable def ok143 (a:Pos):Bool:=(ok106 (a) (0) (6)&&(ok106 (a) (1) (6)&&(bif decide (N106 a 0 6 ≥ 56) then (bif decide (N106 a 1 6 ≥ 56) then true else (bif decide (N106 a 1 6 ≥ 56) then true else (bif !decide (N106 a 0 6 ≥ 56) then true else (bif a.turn==0 then true else (ok106 (a) (1) (6)&&(ok39 (a)&&((lp143_1 (N39 a) (Int.ofNat (N39 a).length) a (N106 a 1 6) 0).isSome&&bif isL ((lp143_1 (N39 a) (Int.ofNat (N39 a).length) a (N106 a 1 6) 0).getD default) then true else true))))))) else (bif decide (N106 a 1 6 ≥ 56) then true else (bif !decide (N106 a 0 6 ≥ 56) then true else (bif a.turn==0 then true else (ok106 (a) (1) (6)&&(ok39 (a)&&((lp143_1 (N39 a) (Int.ofNat (N39 a).length) a (N106 a 1 6) 0).isSome&&bif isL ((lp143_1 (N39 a) (Int.ofNat (N39 a).length) a (N106 a 1 6) 0).getD default) then true else true)))))))))
theorem P143 (a:Pos) (h:ok143 a=true):PS Pz 143 [Pos.av a] ((dR .u8 .u8).res (N143 a)):=ps_sum (n:=14) hB143 (by kernel_rfl) (by kernel_rfl) (by kernel_rfl) h
noncomputable def G143:List AV→Tr AV:=g1 dPos (fun a=>gdv (ok143 a) ((dR .u8 .u8).res (N143 a)))
theorem s143:Sound Pz 143 G143:=sound1 fun a=>at_gd (P143 a)
noncomputable def K38:List (Nat×Nat×List (Nat×List Nat)):=[(38,25,[(0,[1,2,8,9,10]),(1,[1,2,11]),(2,[2]),(3,[1,2,3]),(4,[1,2,3,19]),(5,[2]),(6,[2])])]
noncomputable def B38:Base:=baseOf Pz (fun f i=>lkC f i K38) [(79,G79),(138,G138),(139,G139),(140,G140),(141,G141),(142,G142),(143,G143)] [] []
theorem hB38:BOk B38:=base_ok named_z ⟨s79,s138,s139,s140,s141,s142,s143,trivial⟩ trivial trivial
noncomputable def N38 (a:Pos):(Int×Int):=(bif decide (a.variant ≥ 9) then ⟨(0),(0)⟩ else (bif decide (a.turn > 1) then ⟨(0),(0)⟩ else (bif a.variant==Int.ofNat 0 then ⟨(0),(0)⟩ else (bif a.variant==Int.ofNat 1 then ⟨(0),(0)⟩ else (bif a.variant==Int.ofNat 2 then ⟨(0),(0)⟩ else (bif a.variant==Int.ofNat 3 then ⟨((N138 a).fst),((N138 a).snd)⟩ else (bif a.variant==Int.ofNat 4 then ⟨((N142 a).fst),((N142 a).snd)⟩ else (bif a.variant==Int.ofNat 5 then ⟨((N139 a).fst),((N139 a).snd)⟩ else (bif a.variant==Int.ofNat 6 then ⟨((N140 a).fst),((N140 a).snd)⟩ else (bif a.variant==Int.ofNat 7 then ⟨((N141 a).fst),((N141 a).snd)⟩ else ⟨((N143 a).fst),((N143 a).snd)⟩))))))))))
noncomputable def ok38 (a:Pos):Bool:=(bif decide (a.variant ≥ 9) then true else (bif decide (a.turn > 1) then true else (decide (0≤a.variant)&&decide (a.variant < Int.ofNat 9)&&(bif a.variant==Int.ofNat 0 then true else (bif a.variant==Int.ofNat 1 then true else (bif a.variant==Int.ofNat 2 then true else (bif a.variant==Int.ofNat 3 then (ok138 (a)&&true) else (bif a.variant==Int.ofNat 4 then (ok142 (a)&&true) else (bif a.variant==Int.ofNat 5 then (ok139 (a)&&true) else (bif a.variant==Int.ofNat 6 then (ok140 (a)&&true) else (bif a.variant==Int.ofNat 7 then (ok141 (a)&&true) else (a.variant==Int.ofNat 8&&(ok143 (a)&&true)))))))))))))
theorem P38 (a:Pos) (h:ok38 a=true):PS Pz 38 [Pos.av a] ((dR .u8 .u8).res (N38 a)):=ps_sum (n:=14) hB38 (by kernel_rfl) (by kernel_rfl) (by kernel_rfl) h
noncomputable def G38:List AV→Tr AV:=g1 dPos (fun a=>gdv (ok38 a) ((dR .u8 .u8).res (N38 a)))
theorem s38:Sound Pz 38 G38:=sound1 fun a=>at_gd (P38 a)
noncomputable def K18:List (Nat×Nat×List (Nat×List Nat)):=[(18,9,[(0,[1]),(1,[1,6]),(2,[2]),(3,[2])])]
noncomputable def B18:Base:=baseOf Pz (fun f i=>lkC f i K18) [(38,G38),(39,G39)] [] []
theorem hB18:BOk B18:=base_ok named_z ⟨s38,s39,trivial⟩ trivial trivial
noncomputable def N18 (a:Pos):List Mv:=(bif (N38 a).fst != 0 then ([]) else (N39 a))
noncomputable def ok18 (a:Pos):Bool:=(ok38 (a)&&(bif (N38 a).fst != 0 then true else (ok39 (a)&&true)))
theorem P18 (a:Pos) (h:ok18 a=true):PS Pz 18 [Pos.av a] ((dL .mv).res (N18 a)):=ps_sum (n:=14) hB18 (by kernel_rfl) (by kernel_rfl) (by kernel_rfl) h
noncomputable def G18:List AV→Tr AV:=g1 dPos (fun a=>gdv (ok18 a) ((dL .mv).res (N18 a)))
theorem s18:Sound Pz 18 G18:=sound1 fun a=>at_gd (P18 a)
end Kz
end
section
namespace Kz
open Go
set_option maxRecDepth 100000
theorem t81 (p:Pos) (b:Int):ok81 p b=true:=a_true (t106 _ _ _) fun _=>rfl
section
variable {p:Pos} (hp:PosIn p)
include hp
theorem move_var (m:Mv):0≤(N22 p m).1.variant:=by
  obtain ⟨_,h1,h2⟩:=move_all hp m
  by_cases hm:m ∈ N45 p
  · rw [(h1 hm).2.2.1]; exact hp.v0
  · rw [h2 hm]; exact hp.v0
theorem t86 (m:Mv):ok86 p m=true:=by
  have hv:=move_var hp m
  have t0:=hp.t0
  have b1:=wr_u8_lo (1 - p.turn)
  unfold ok86
  refine a_true (move_all hp m).1 fun _ => ?_
  have k1:ok80 p.variant p.turn=true:=t80 hp.v0 t0
  have k2:ok109 (N22 p m).1 p.turn=true:=t109 hv t0
  have k3:ok109 (N22 p m).1 (wr .u8 (1 - p.turn))=true:=t109 hv b1
  repeat' (first | with_reducible rfl | with_reducible exact k1 | with_reducible exact k2 | with_reducible exact k3 | with_reducible exact t81 _ _ | refine a_true ?_ (fun _ => ?_) | refine c_true (fun _ => ?_) (fun _ => ?_))
theorem okKept_72 {l:List Mv} (hl:l.length≤1000000):okKept 85 p l=true:=by
  unfold okKept
  rw [show (85:Nat).beq 85=true from rfl,cond_true]
  have h1:decide (l.length≤lim)=true:=by unfold lim; simp; omega
  rw [h1,Bool.true_and]
  exact all86_iff.2 (t86 hp)
theorem okKept_73 {l:List Mv} (hl:l.length≤1000000):okKept 87 p l=true:=by
  unfold okKept
  rw [show (87:Nat).beq 85=false from rfl,cond_false,show (87:Nat).beq 87=true from rfl,Bool.true_and]
  have h1:decide (l.length≤lim)=true:=by unfold lim; simp; omega
  rw [h1,Bool.true_and]
  exact all19_iff.2 (t19 hp.v0)
omit hp in
theorem kept_72 (l:List Mv):kept 85 p l=l.filter (N86 p):=by
  unfold kept
  rw [show (85:Nat).beq 85=true from rfl,cond_true]
omit hp in
theorem kept_73 (l:List Mv):kept 87 p l=l.filter (N19 p):=by
  unfold kept
  rw [show (87:Nat).beq 85=false from rfl,cond_false]
theorem lp39 (l:List Mv) (hl:l.length≤1000000):∃ r,lp39_1 l (Int.ofNat l.length) p 0=some r ∧
    match r with
    | .inl i=>0≤i∧∃ m,m ∈ l∧N19 p m=true
    | .inr _ => ∀ m,m ∈ l→N19 p m=false:=by
  refine lp_many (I:=fun x=>0≤x∧x≤(l.length:Int)∧∀ m,m ∈ l.take x.toNat→N19 p m=false) (μ:=fun x=>((l.length:Int) - x).toNat) ?_ _ ⟨by simp,by simp,by simp⟩ (by simp; omega)
  rintro n ⟨h0,h1,h2⟩
  by_cases hc:n < l.length
  · have hlt:n.toNat < l.length:=by omega
    refine ⟨c_true (fun _=>a_true (by simp [h0]; exact hc) fun _=>a_true (t19 hp.v0 _) fun _=>rfl) fun _=>rfl,c_ind (fun _ => ?_) fun h=>absurd h (by simpa using hc)⟩
    refine c_ind (fun h=>⟨h0,_,getD_mem hlt,h⟩) fun h => ?_
    rw [wi64 (n:=n+1) (by omega) (by omega)]
    refine ⟨⟨by omega,by omega,?_⟩,by dsimp only; omega⟩
    rw [show (n+1).toNat=n.toNat+1 by omega,List.take_succ_eq_append_getElem hlt]
    rw [List.getD_eq_getElem?_getD,List.getElem?_eq_getElem hlt] at h
    intro m hm
    simp only [List.mem_append,List.mem_singleton] at hm
    rcases hm with hm | rfl
    · exact h2 m hm
    · exact h
  · refine ⟨c_true (fun h=>absurd h (by simpa using hc)) fun _=>rfl,c_ind (fun h=>absurd h (by simpa using hc)) fun _ => ?_⟩
    show ∀ m,m ∈ l→N19 p m=false
    rw [List.take_of_length_le (by omega)] at h2
    exact h2
theorem lp39_any (l:List Mv) (hl:l.length≤1000000) {α:Type} (x y:α) :
    (bif isL ((lp39_1 l (Int.ofNat l.length) p 0).getD default) then bif decide (gl ((lp39_1 l (Int.ofNat l.length) p 0).getD default) ≥ 0) then x else y else y)=bif l.any (N19 p) then x else y:=by
  have h:=(of_some (lp39 hp l hl)).2
  generalize (lp39_1 l (Int.ofNat l.length) p 0).getD default=r at h ⊢
  cases r with
  | inl i =>
    obtain ⟨h1,m,h2,h3⟩:=h
    have:l.any (N19 p)=true:=List.any_eq_true.2 ⟨m,h2,h3⟩
    simp [isL,gl,h1,this]
  | inr z =>
    have:l.any (N19 p)=false:=by
      rw [List.any_eq_false]
      intro m hm
      rw [h m hm]; simp
    simp [isL,this]
theorem well_len:((N45 p).filter (N86 p)).length≤20802:=Nat.le_trans (List.length_filter_le _ _) (N45_len hp)
theorem t39:ok39 p=true:=by
  have h1:=N45_len hp
  have h2:=well_len hp
  have k1:ok80 p.variant p.turn=true:=t80 hp.v0 hp.t0
  have k2:ok45 p=true:=t45 hp
  have k3:okKept 85 p (N45 p)=true:=okKept_72 hp (by omega)
  have k4:okKept 87 p (kept 85 p (N45 p))=true:=okKept_73 hp (by rw [kept_72]; omega)
  have k5:(lp39_1 (kept 85 p (N45 p)) (Int.ofNat (kept 85 p (N45 p)).length) p 0).isSome=true:=(of_some (lp39 hp _ (by rw [kept_72]; omega))).1
  unfold ok39
  repeat' (first | with_reducible rfl | with_reducible exact k1 | with_reducible exact k2 | with_reducible exact k3 | with_reducible exact k4 | with_reducible exact k5 | with_reducible exact t81 _ _ | refine a_true ?_ (fun _ => ?_) | refine c_true (fun _ => ?_) (fun _ => ?_))
noncomputable def wouldL (p:Pos):List Mv:=bif p.variant==4 then bif ((N45 p).filter (N86 p)).any (N19 p) then ((N45 p).filter (N86 p)).filter (N19 p) else (N45 p).filter (N86 p) else (N45 p).filter (N86 p)
theorem N39_eq:N39 p=bif N80 p.variant p.turn then bif !N81 p p.turn then [] else wouldL p else wouldL p:=by
  have h2:=well_len hp
  unfold N39
  have e:=fun (x y:List Mv)=>lp39_any hp (kept 85 p (N45 p)) (by rw [kept_72]; omega) x y
  rw [e]
  unfold wouldL
  rw [kept_73,kept_72]
omit hp in
theorem wouldL_len' (hl:((N45 p).filter (N86 p)).length≤20802):(wouldL p).length≤20802:=by
  unfold wouldL
  refine c_ind (P:=fun l:List Mv=>l.length≤20802) (fun _=>c_ind (P:=fun l:List Mv=>l.length≤20802) (fun _=>Nat.le_trans (List.length_filter_le _ _) hl) fun _=>hl) fun _=>hl
theorem N39_len:(N39 p).length≤20802:=by
  have h:=wouldL_len' (well_len hp)
  rw [N39_eq hp]
  exact c_ind (P:=fun l:List Mv=>l.length≤20802) (fun _=>c_ind (P:=fun l:List Mv=>l.length≤20802) (fun _=>by simp) fun _=>h) fun _=>h
omit hp in
theorem lp143 (l:List Mv) (hl:l.length≤1000000) (q:Pos) (k:Int):(lp143_1 l (Int.ofNat l.length) q k 0).isSome=true:=by
  refine (of_some (Q:=fun _=>True) (lp_many (I:=fun x=>0≤x∧x≤(l.length:Int)) (μ:=fun x=>((l.length:Int) - x).toNat) ?_ _ ⟨by simp,by simp⟩ (by simp; omega))).1
  rintro n ⟨h0,h1⟩
  by_cases hc:n < l.length
  · refine ⟨c_true (fun _=>a_true (by simp [h0]; exact hc) fun _=>rfl) fun _=>rfl,c_ind (fun _ => ?_) fun h=>absurd h (by simpa using hc)⟩
    rw [wi64 (n:=n+1) (by omega) (by omega)]
    have go:Nxt (fun x:Int=>0≤x∧x≤(l.length:Int)) (fun _:Int ⊕ (Int×Bool)=>True) (fun x=>((l.length:Int) - x).toNat) ((l.length:Int) - n).toNat (.go (n+1)):=⟨⟨by omega,by omega⟩,by dsimp only; omega⟩
    exact c_ind (fun _=>c_ind (fun _=>trivial) fun _=>go) fun _=>go
  · exact ⟨c_true (fun h=>absurd h (by simpa using hc)) fun _=>rfl,c_ind (fun h=>absurd h (by simpa using hc)) fun _=>trivial⟩
theorem t143:ok143 p=true:=by
  have h:=N39_len hp
  have k1:ok39 p=true:=t39 hp
  have k2:(lp143_1 (N39 p) (Int.ofNat (N39 p).length) p (N106 p 1 6) 0).isSome=true:=lp143 _ (by omega) _ _
  unfold ok143
  repeat' (first | with_reducible rfl | with_reducible exact k1 | with_reducible exact k2 | with_reducible exact t106 _ _ _ | refine a_true ?_ (fun _ => ?_) | refine c_true (fun _ => ?_) (fun _ => ?_))
omit hp in
theorem t138:ok138 p=true:=a_true (t81 _ _) fun _=>rfl
theorem t139 (ht:p.turn≤1):ok139 p=true:=by
  have t0:=hp.t0
  unfold ok139
  rw [wu8 (n:=1 - p.turn) (by omega) (by omega)]
  refine a_true (by simp; omega) fun _=>c_true (fun _=>rfl) fun _=>a_true (by simp; omega) fun _=>rfl
omit hp in
theorem t140:ok140 p=true:=by
  unfold ok140
  repeat' (first | with_reducible rfl | with_reducible exact t106 _ _ _ | refine a_true ?_ (fun _ => ?_) | refine c_true (fun _ => ?_) (fun _ => ?_))
omit hp in
theorem t141:ok141 p=true:=a_true (t66 _ _ _) fun _=>rfl
omit hp in
theorem t142:ok142 p=true:=by
  unfold ok142
  repeat' (first | with_reducible rfl | with_reducible exact t66 _ _ _ | refine a_true ?_ (fun _ => ?_) | refine c_true (fun _ => ?_) (fun _ => ?_))
theorem t38:ok38 p=true:=by
  have v0:=hp.v0
  unfold ok38
  refine c_true (fun _=>rfl) fun h9=>c_true (fun _=>rfl) fun ht => ?_
  have h9:p.variant < 9:=by simpa using h9
  have ht:p.turn≤1:=by simpa using ht
  refine a_true (by simp; omega) fun _ => ?_
  have k3:=t138 (p:=p)
  have k4:=t142 (p:=p)
  have k5:=t139 hp ht
  have k6:=t140 (p:=p)
  have k7:=t141 (p:=p)
  have k8:=t143 hp
  refine c_true (fun _=>rfl) fun n0=>c_true (fun _=>rfl) fun n1=>c_true (fun _=>rfl) fun n2=>c_true (fun _=>a_true k3 fun _=>rfl) fun n3=>c_true (fun _=>a_true k4 fun _=>rfl) fun n4=>c_true (fun _=>a_true k5 fun _=>rfl) fun n5=>c_true (fun _=>a_true k6 fun _=>rfl) fun n6=>c_true (fun _=>a_true k7 fun _=>rfl) fun n7=>a_true ?_ fun _=>a_true k8 fun _=>rfl
  simp only [beq_eq_false_iff_ne,ne_eq,beq_iff_eq,Int.ofNat_eq_natCast] at *
  omega
theorem t18:ok18 p=true:=a_true (t38 hp) fun _=>c_true (fun _=>rfl) fun _=>a_true (t39 hp) fun _=>rfl
end
end Kz
end
section
namespace Kz
open Go Go.RowKit
set_option maxRecDepth 100000
set_option maxHeartbeats 4000000
def cl (h f:Int) (p:Pos):Pos:=⟨p.variant,p.board,p.promoted,p.pockets,p.turn,p.rooks,p.passing,p.checks,h,f⟩
def Stp.map {X X' R R':Type} (φ:X→X') (ψ:R→R'):Stp X R→Stp X' R'
  | .go x=>.go (φ x)
  | .out r=>.out (ψ r)
  | .bad=>.bad
section
variable (h f:Int) (p:Pos)
end
section
variable (h f h2 f2 h3 f3:Int) (a q p:Pos) (b m:Mv) (c:Int)
end
section
variable {p:Pos} (hp:PosIn p)
include hp
variable {h f:Int} (hq:PosIn (cl h f p))
include hq
end
end Kz
end
section
namespace Kz
open Go Go.RowKit Go.Proofs
set_option maxRecDepth 100000
set_option maxHeartbeats 4000000
noncomputable def K55:List (Nat×Nat×List (Nat×List Nat)):=[]
noncomputable def B55:Base:=baseOf Pz (fun f i=>lkC f i K55) [] [] []
theorem hB55:BOk B55:=base_ok named_z trivial trivial trivial
noncomputable def V66:AV:=AV.agg [AV.func 38 [] [],AV.func 111 [] [],AV.func 112 [] [],AV.func 113 [] []]
noncomputable def ok55:Bool:=true
theorem E55:evPure B55 14 55 []=Tr.ret V66:=by kernel_rfl
theorem P55 (_:ok55=true):PS Pz 55 [] V66:=evPure_ok hB55 (by rw [E55]; rfl)
noncomputable def G55:List AV→Tr AV:=g0 (.ret V66)
theorem s55:Sound Pz 55 G55:=sound0 (at_rt (P55 rfl))
noncomputable def K160:List (Nat×Nat×List (Nat×List Nat)):=[(160,5,[(0,[0,2]),(1,[2])])]
noncomputable def B160:Base:=baseOf Pz (fun f i=>lkC f i K160) [] [] []
theorem hB160:BOk B160:=base_ok named_z trivial trivial trivial
noncomputable def N160 (a:Int):(Int×Int):=⟨(3),(a)⟩
noncomputable def ok160 (a:Int):Bool:=true
theorem P160 (a:Int) (h:ok160 a=true):PS Pz 160 [.int .u8 a] ((dR .u8 .u8).res (N160 a)):=ps_sum (n:=14) hB160 (by kernel_rfl) (by kernel_rfl) (by kernel_rfl) h
noncomputable def G160:List AV→Tr AV:=g1 (dI .u8) (fun a=>.ret ((dR .u8 .u8).res (N160 a)))
theorem s160:Sound Pz 160 G160:=sound1 fun a=>at_rt (P160 a rfl)
noncomputable def K111:List (Nat×Nat×List (Nat×List Nat)):=[(111,26,[(0,[1,2]),(1,[1,2,6]),(2,[2]),(3,[1,2,8]),(4,[2]),(5,[1,2,16]),(6,[2]),(7,[2])])]
noncomputable def B111:Base:=baseOf Pz (fun f i=>lkC f i K111) [(18,G18),(109,G109),(160,G160)] [] []
theorem hB111:BOk B111:=base_ok named_z ⟨s18,s109,s160,trivial⟩ trivial trivial
noncomputable def N111 (a:Pos):(Int×Int):=(bif decide (Int.ofNat (N18 a).length > 0) then ⟨(0),(0)⟩ else (bif a.variant==4 then ⟨(wr .u8 (1+a.turn)),(8)⟩ else (bif N109 a a.turn then ⟨(wr .u8 (2 - a.turn)),(1)⟩ else ⟨((N160 2).fst),((N160 2).snd)⟩)))
noncomputable def ok111 (a:Pos):Bool:=(ok18 (a)&&(bif decide (Int.ofNat (N18 a).length > 0) then true else (bif a.variant==4 then true else (ok109 (a) (a.turn)&&true))))
theorem P111 (a:Pos) (h:ok111 a=true):PS Pz 111 [Pos.av a] ((dR .u8 .u8).res (N111 a)):=ps_sum (n:=14) hB111 (by kernel_rfl) (by kernel_rfl) (by kernel_rfl) h
noncomputable def G111:List AV→Tr AV:=g1 dPos (fun a=>gdv (ok111 a) ((dR .u8 .u8).res (N111 a)))
theorem s111:Sound Pz 111 G111:=sound1 fun a=>at_gd (P111 a)
noncomputable def K191:List (Nat×Nat×List (Nat×List Nat)):=[(191,12,[(0,[1,2]),(1,[4])])]
noncomputable def B191:Base:=baseOf Pz (fun f i=>lkC f i K191) [(66,G66)] [] []
theorem hB191:BOk B191:=base_ok named_z ⟨s66,trivial⟩ trivial trivial
noncomputable def N191 (a:Pos) (b:Int):BitVec 64:=(N66 (Pos.mk a.variant a.board a.promoted a.pockets a.turn a.rooks a.passing a.checks a.half a.full) 0 b|||N66 (Pos.mk a.variant a.board a.promoted a.pockets a.turn a.rooks a.passing a.checks a.half a.full) 1 b)
noncomputable def ok191 (a:Pos) (b:Int):Bool:=(ok66 (Pos.mk a.variant a.board a.promoted a.pockets a.turn a.rooks a.passing a.checks a.half a.full) (0) (b)&&(ok66 (Pos.mk a.variant a.board a.promoted a.pockets a.turn a.rooks a.passing a.checks a.half a.full) (1) (b)&&true))
theorem P191 (a:Pos) (b:Int) (h:ok191 a b=true):PS Pz 191 [Pos.av a,.int .u8 b] (dU.res (N191 a b)):=ps_sum (n:=14) hB191 (by kernel_rfl) (by kernel_rfl) (by kernel_rfl) h
noncomputable def G191:List AV→Tr AV:=g2 dPos (dI .u8) (fun a b=>gdv (ok191 a b) (dU.res (N191 a b)))
theorem s191:Sound Pz 191 G191:=sound2 fun a b=>at_gd (P191 a b)
noncomputable def K192:List (Nat×Nat×List (Nat×List Nat)):=[(192,35,[(0,[0]),(1,[0]),(2,[0]),(3,[0]),(4,[0]),(5,[0]),(6,[0]),(7,[2])])]
noncomputable def B192:Base:=baseOf Pz (fun f i=>lkC f i K192) [] [] []
theorem hB192:BOk B192:=base_ok named_z trivial trivial trivial
noncomputable def N192 (a:BitVec 64):Int:=(ibits BinOp.and .i64 (wr .i64 ↑((((((a >>> 1&&&6148914691236517205#64)+(a&&&6148914691236517205#64)) >>> 2&&&3689348814741910323#64)+((a >>> 1&&&6148914691236517205#64)+(a&&&6148914691236517205#64)&&&3689348814741910323#64)) >>> 4+((((a >>> 1&&&6148914691236517205#64)+(a&&&6148914691236517205#64)) >>> 2&&&3689348814741910323#64)+((a >>> 1&&&6148914691236517205#64)+(a&&&6148914691236517205#64)&&&3689348814741910323#64))&&&1085102592571150095#64)+(((((a >>> 1&&&6148914691236517205#64)+(a&&&6148914691236517205#64)) >>> 2&&&3689348814741910323#64)+((a >>> 1&&&6148914691236517205#64)+(a&&&6148914691236517205#64)&&&3689348814741910323#64)) >>> 4+((((a >>> 1&&&6148914691236517205#64)+(a&&&6148914691236517205#64)) >>> 2&&&3689348814741910323#64)+((a >>> 1&&&6148914691236517205#64)+(a&&&6148914691236517205#64)&&&3689348814741910323#64))&&&1085102592571150095#64) >>> 8+((((((a >>> 1&&&6148914691236517205#64)+(a&&&6148914691236517205#64)) >>> 2&&&3689348814741910323#64)+((a >>> 1&&&6148914691236517205#64)+(a&&&6148914691236517205#64)&&&3689348814741910323#64)) >>> 4+((((a >>> 1&&&6148914691236517205#64)+(a&&&6148914691236517205#64)) >>> 2&&&3689348814741910323#64)+((a >>> 1&&&6148914691236517205#64)+(a&&&6148914691236517205#64)&&&3689348814741910323#64))&&&1085102592571150095#64)+(((((a >>> 1&&&6148914691236517205#64)+(a&&&6148914691236517205#64)) >>> 2&&&3689348814741910323#64)+((a >>> 1&&&6148914691236517205#64)+(a&&&6148914691236517205#64)&&&3689348814741910323#64)) >>> 4+((((a >>> 1&&&6148914691236517205#64)+(a&&&6148914691236517205#64)) >>> 2&&&3689348814741910323#64)+((a >>> 1&&&6148914691236517205#64)+(a&&&6148914691236517205#64)&&&3689348814741910323#64))&&&1085102592571150095#64) >>> 8) >>> 16+((((((a >>> 1&&&6148914691236517205#64)+(a&&&6148914691236517205#64)) >>> 2&&&3689348814741910323#64)+((a >>> 1&&&6148914691236517205#64)+(a&&&6148914691236517205#64)&&&3689348814741910323#64)) >>> 4+((((a >>> 1&&&6148914691236517205#64)+(a&&&6148914691236517205#64)) >>> 2&&&3689348814741910323#64)+((a >>> 1&&&6148914691236517205#64)+(a&&&6148914691236517205#64)&&&3689348814741910323#64))&&&1085102592571150095#64)+(((((a >>> 1&&&6148914691236517205#64)+(a&&&6148914691236517205#64)) >>> 2&&&3689348814741910323#64)+((a >>> 1&&&6148914691236517205#64)+(a&&&6148914691236517205#64)&&&3689348814741910323#64)) >>> 4+((((a >>> 1&&&6148914691236517205#64)+(a&&&6148914691236517205#64)) >>> 2&&&3689348814741910323#64)+((a >>> 1&&&6148914691236517205#64)+(a&&&6148914691236517205#64)&&&3689348814741910323#64))&&&1085102592571150095#64) >>> 8+((((((a >>> 1&&&6148914691236517205#64)+(a&&&6148914691236517205#64)) >>> 2&&&3689348814741910323#64)+((a >>> 1&&&6148914691236517205#64)+(a&&&6148914691236517205#64)&&&3689348814741910323#64)) >>> 4+((((a >>> 1&&&6148914691236517205#64)+(a&&&6148914691236517205#64)) >>> 2&&&3689348814741910323#64)+((a >>> 1&&&6148914691236517205#64)+(a&&&6148914691236517205#64)&&&3689348814741910323#64))&&&1085102592571150095#64)+(((((a >>> 1&&&6148914691236517205#64)+(a&&&6148914691236517205#64)) >>> 2&&&3689348814741910323#64)+((a >>> 1&&&6148914691236517205#64)+(a&&&6148914691236517205#64)&&&3689348814741910323#64)) >>> 4+((((a >>> 1&&&6148914691236517205#64)+(a&&&6148914691236517205#64)) >>> 2&&&3689348814741910323#64)+((a >>> 1&&&6148914691236517205#64)+(a&&&6148914691236517205#64)&&&3689348814741910323#64))&&&1085102592571150095#64) >>> 8) >>> 16) >>> 32).toNat) 127)
noncomputable def ok192 (a:BitVec 64):Bool:=true
theorem P192 (a:BitVec 64) (h:ok192 a=true):PS Pz 192 [.u64 a] ((dI .i64).res (N192 a)):=ps_sum (n:=14) hB192 (by kernel_rfl) (by kernel_rfl) (by kernel_rfl) h
noncomputable def G192:List AV→Tr AV:=g1 dU (fun a=>.ret ((dI .i64).res (N192 a)))
theorem s192:Sound Pz 192 G192:=sound1 fun a=>at_rt (P192 a rfl)
noncomputable def K161:List (Nat×Nat×List (Nat×List Nat)):=[(161,68,[(0,(1::(rn 32 13 [59,60,61,64,65,66]))),(1,(1::3::(rn 32 13 [59,60,61,64,65,66]))),(2,(1::3::11::(rn 32 13 [59,60,61,64,65,66]))),(3,(1::3::11::12::(rn 32 13 [59,60,61,64,65,66]))),(4,(1::3::11::12::(rn 32 13 [59,60,61,64,65,66]))),(5,(1::4::(rn 32 13 []))),(6,(1::4::5::(rn 32 13 []))),(7,(4::5::27::(rn 32 13 []))),(8,[2]),(9,[2]),(10,[1,3,11,46,59,60,61,64,65,66]),(11,[1,3,46,59,60,61,64,65,66]),(12,[3,6,7,59,60,61,64,65,66]),(13,[2]),(14,[2])])]
noncomputable def B161:Base:=baseOf Pz (fun f i=>lkC f i K161) [(151,G151),(191,G191),(192,G192),(66,G66)] [] []
theorem hB161:BOk B161:=base_ok named_z ⟨s151,s191,s192,s66,trivial⟩ trivial trivial
noncomputable def N161 (a:Pos):Bool:=(bif a.variant==0 then (bif a.variant==0 then (bif N151 (Pos.mk a.variant a.board a.promoted a.pockets a.turn a.rooks a.passing a.checks a.half a.full) &&& ~~~N191 (Pos.mk a.variant a.board a.promoted a.pockets a.turn a.rooks a.passing a.checks a.half a.full) 6 &&& ~~~N191 (Pos.mk a.variant a.board a.promoted a.pockets a.turn a.rooks a.passing a.checks a.half a.full) 3 &&& ~~~N191 (Pos.mk a.variant a.board a.promoted a.pockets a.turn a.rooks a.passing a.checks a.half a.full) 2 != 0#64 then (false) else (bif decide (N192 (N151 (Pos.mk a.variant a.board a.promoted a.pockets a.turn a.rooks a.passing a.checks a.half a.full) &&& ~~~N191 (Pos.mk a.variant a.board a.promoted a.pockets a.turn a.rooks a.passing a.checks a.half a.full) 6)≤1) then (true) else (bif N151 (Pos.mk a.variant a.board a.promoted a.pockets a.turn a.rooks a.passing a.checks a.half a.full) &&& ~~~N191 (Pos.mk a.variant a.board a.promoted a.pockets a.turn a.rooks a.passing a.checks a.half a.full) 6==N191 (Pos.mk a.variant a.board a.promoted a.pockets a.turn a.rooks a.passing a.checks a.half a.full) 3 then (bif N151 (Pos.mk a.variant a.board a.promoted a.pockets a.turn a.rooks a.passing a.checks a.half a.full) &&& ~~~N191 (Pos.mk a.variant a.board a.promoted a.pockets a.turn a.rooks a.passing a.checks a.half a.full) 6&&&6172840429334713770#64==0#64 then (true) else (N151 (Pos.mk a.variant a.board a.promoted a.pockets a.turn a.rooks a.passing a.checks a.half a.full) &&& ~~~N191 (Pos.mk a.variant a.board a.promoted a.pockets a.turn a.rooks a.passing a.checks a.half a.full) 6 &&& ~~~6172840429334713770#64==0#64)) else (false)))) else (bif a.variant==3 then (bif a.variant==3 then (bif N151 (Pos.mk a.variant a.board a.promoted a.pockets a.turn a.rooks a.passing a.checks a.half a.full)==N66 (Pos.mk a.variant a.board a.promoted a.pockets a.turn a.rooks a.passing a.checks a.half a.full) 0 6|||N66 (Pos.mk a.variant a.board a.promoted a.pockets a.turn a.rooks a.passing a.checks a.half a.full) 1 6 then (bif N192 (N66 (Pos.mk a.variant a.board a.promoted a.pockets a.turn a.rooks a.passing a.checks a.half a.full) 0 6)==1 then (N192 (N66 (Pos.mk a.variant a.board a.promoted a.pockets a.turn a.rooks a.passing a.checks a.half a.full) 1 6)==1) else (false)) else (false)) else (false)) else (bif a.variant==5 then (bif N151 (Pos.mk a.variant a.board a.promoted a.pockets a.turn a.rooks a.passing a.checks a.half a.full)==N66 (Pos.mk a.variant a.board a.promoted a.pockets a.turn a.rooks a.passing a.checks a.half a.full) 0 6|||N66 (Pos.mk a.variant a.board a.promoted a.pockets a.turn a.rooks a.passing a.checks a.half a.full) 1 6 then (bif N192 (N66 (Pos.mk a.variant a.board a.promoted a.pockets a.turn a.rooks a.passing a.checks a.half a.full) 0 6)==1 then (N192 (N66 (Pos.mk a.variant a.board a.promoted a.pockets a.turn a.rooks a.passing a.checks a.half a.full) 1 6)==1) else (false)) else (false)) else (false)))) else (bif a.variant==1 then (bif N151 (Pos.mk a.variant a.board a.promoted a.pockets a.turn a.rooks a.passing a.checks a.half a.full) &&& ~~~N191 (Pos.mk a.variant a.board a.promoted a.pockets a.turn a.rooks a.passing a.checks a.half a.full) 6 &&& ~~~N191 (Pos.mk a.variant a.board a.promoted a.pockets a.turn a.rooks a.passing a.checks a.half a.full) 3 &&& ~~~N191 (Pos.mk a.variant a.board a.promoted a.pockets a.turn a.rooks a.passing a.checks a.half a.full) 2 != 0#64 then (false) else (bif decide (N192 (N151 (Pos.mk a.variant a.board a.promoted a.pockets a.turn a.rooks a.passing a.checks a.half a.full) &&& ~~~N191 (Pos.mk a.variant a.board a.promoted a.pockets a.turn a.rooks a.passing a.checks a.half a.full) 6)≤1) then (true) else (bif N151 (Pos.mk a.variant a.board a.promoted a.pockets a.turn a.rooks a.passing a.checks a.half a.full) &&& ~~~N191 (Pos.mk a.variant a.board a.promoted a.pockets a.turn a.rooks a.passing a.checks a.half a.full) 6==N191 (Pos.mk a.variant a.board a.promoted a.pockets a.turn a.rooks a.passing a.checks a.half a.full) 3 then (bif N151 (Pos.mk a.variant a.board a.promoted a.pockets a.turn a.rooks a.passing a.checks a.half a.full) &&& ~~~N191 (Pos.mk a.variant a.board a.promoted a.pockets a.turn a.rooks a.passing a.checks a.half a.full) 6&&&6172840429334713770#64==0#64 then (true) else (N151 (Pos.mk a.variant a.board a.promoted a.pockets a.turn a.rooks a.passing a.checks a.half a.full) &&& ~~~N191 (Pos.mk a.variant a.board a.promoted a.pockets a.turn a.rooks a.passing a.checks a.half a.full) 6 &&& ~~~6172840429334713770#64==0#64)) else (false)))) else (bif a.variant==3 then (bif a.variant==3 then (bif N151 (Pos.mk a.variant a.board a.promoted a.pockets a.turn a.rooks a.passing a.checks a.half a.full)==N66 (Pos.mk a.variant a.board a.promoted a.pockets a.turn a.rooks a.passing a.checks a.half a.full) 0 6|||N66 (Pos.mk a.variant a.board a.promoted a.pockets a.turn a.rooks a.passing a.checks a.half a.full) 1 6 then (bif N192 (N66 (Pos.mk a.variant a.board a.promoted a.pockets a.turn a.rooks a.passing a.checks a.half a.full) 0 6)==1 then (N192 (N66 (Pos.mk a.variant a.board a.promoted a.pockets a.turn a.rooks a.passing a.checks a.half a.full) 1 6)==1) else (false)) else (false)) else (false)) else (bif a.variant==5 then (bif N151 (Pos.mk a.variant a.board a.promoted a.pockets a.turn a.rooks a.passing a.checks a.half a.full)==N66 (Pos.mk a.variant a.board a.promoted a.pockets a.turn a.rooks a.passing a.checks a.half a.full) 0 6|||N66 (Pos.mk a.variant a.board a.promoted a.pockets a.turn a.rooks a.passing a.checks a.half a.full) 1 6 then (bif N192 (N66 (Pos.mk a.variant a.board a.promoted a.pockets a.turn a.rooks a.passing a.checks a.half a.full) 0 6)==1 then (N192 (N66 (Pos.mk a.variant a.board a.promoted a.pockets a.turn a.rooks a.passing a.checks a.half a.full) 1 6)==1) else (false)) else (false)) else (false)))))
noncomputable def ok161 (a:Pos):Bool:=(ok151 (Pos.mk a.variant a.board a.promoted a.pockets a.turn a.rooks a.passing a.checks a.half a.full)&&(bif a.variant==0 then (bif a.variant==0 then (ok191 (Pos.mk a.variant a.board a.promoted a.pockets a.turn a.rooks a.passing a.checks a.half a.full) (6)&&(ok191 (Pos.mk a.variant a.board a.promoted a.pockets a.turn a.rooks a.passing a.checks a.half a.full) (3)&&(ok191 (Pos.mk a.variant a.board a.promoted a.pockets a.turn a.rooks a.passing a.checks a.half a.full) (2)&&true))) else (bif a.variant==3 then (bif a.variant==3 then (ok66 (Pos.mk a.variant a.board a.promoted a.pockets a.turn a.rooks a.passing a.checks a.half a.full) (0) (6)&&(ok66 (Pos.mk a.variant a.board a.promoted a.pockets a.turn a.rooks a.passing a.checks a.half a.full) (1) (6)&&true)) else true) else (bif a.variant==5 then (ok66 (Pos.mk a.variant a.board a.promoted a.pockets a.turn a.rooks a.passing a.checks a.half a.full) (0) (6)&&(ok66 (Pos.mk a.variant a.board a.promoted a.pockets a.turn a.rooks a.passing a.checks a.half a.full) (1) (6)&&true)) else true))) else (bif a.variant==1 then (ok191 (Pos.mk a.variant a.board a.promoted a.pockets a.turn a.rooks a.passing a.checks a.half a.full) (6)&&(ok191 (Pos.mk a.variant a.board a.promoted a.pockets a.turn a.rooks a.passing a.checks a.half a.full) (3)&&(ok191 (Pos.mk a.variant a.board a.promoted a.pockets a.turn a.rooks a.passing a.checks a.half a.full) (2)&&true))) else (bif a.variant==3 then (bif a.variant==3 then (ok66 (Pos.mk a.variant a.board a.promoted a.pockets a.turn a.rooks a.passing a.checks a.half a.full) (0) (6)&&(ok66 (Pos.mk a.variant a.board a.promoted a.pockets a.turn a.rooks a.passing a.checks a.half a.full) (1) (6)&&true)) else true) else (bif a.variant==5 then (ok66 (Pos.mk a.variant a.board a.promoted a.pockets a.turn a.rooks a.passing a.checks a.half a.full) (0) (6)&&(ok66 (Pos.mk a.variant a.board a.promoted a.pockets a.turn a.rooks a.passing a.checks a.half a.full) (1) (6)&&true)) else true)))))
theorem P161 (a:Pos) (h:ok161 a=true):PS Pz 161 [Pos.av a] (dB.res (N161 a)):=ps_sum (n:=14) hB161 (by kernel_rfl) (by kernel_rfl) (by kernel_rfl) h
noncomputable def G161:List AV→Tr AV:=g1 dPos (fun a=>gdv (ok161 a) (dB.res (N161 a)))
theorem s161:Sound Pz 161 G161:=sound1 fun a=>at_gd (P161 a)
noncomputable def K112:List (Nat×Nat×List (Nat×List Nat)):=[(112,7,[(0,[1,2]),(1,[2,4]),(2,[2]),(3,[2])])]
noncomputable def B112:Base:=baseOf Pz (fun f i=>lkC f i K112) [(161,G161),(160,G160)] [] []
theorem hB112:BOk B112:=base_ok named_z ⟨s161,s160,trivial⟩ trivial trivial
noncomputable def N112 (a:Pos):(Int×Int):=(bif N161 (Pos.mk a.variant a.board a.promoted a.pockets a.turn a.rooks a.passing a.checks a.half a.full) then ⟨((N160 3).fst),((N160 3).snd)⟩ else ⟨(0),(0)⟩)
noncomputable def ok112 (a:Pos):Bool:=(ok161 (Pos.mk a.variant a.board a.promoted a.pockets a.turn a.rooks a.passing a.checks a.half a.full)&&true)
theorem P112 (a:Pos) (h:ok112 a=true):PS Pz 112 [Pos.av a] ((dR .u8 .u8).res (N112 a)):=ps_sum (n:=14) hB112 (by kernel_rfl) (by kernel_rfl) (by kernel_rfl) h
noncomputable def G112:List AV→Tr AV:=g1 dPos (fun a=>gdv (ok112 a) ((dR .u8 .u8).res (N112 a)))
theorem s112:Sound Pz 112 G112:=sound1 fun a=>at_gd (P112 a)
noncomputable def K113:List (Nat×Nat×List (Nat×List Nat)):=[(113,8,[(0,[1,2]),(1,[2,5]),(2,[2]),(3,[2])])]
noncomputable def B113:Base:=baseOf Pz (fun f i=>lkC f i K113) [(160,G160)] [] []
theorem hB113:BOk B113:=base_ok named_z ⟨s160,trivial⟩ trivial trivial
noncomputable def N113 (a:Pos):(Int×Int):=(bif decide (a.half ≥ 150) then ⟨((N160 4).fst),((N160 4).snd)⟩ else ⟨(0),(0)⟩)
noncomputable def ok113 (a:Pos):Bool:=true
theorem P113 (a:Pos) (h:ok113 a=true):PS Pz 113 [Pos.av a] ((dR .u8 .u8).res (N113 a)):=ps_sum (n:=14) hB113 (by kernel_rfl) (by kernel_rfl) (by kernel_rfl) h
noncomputable def G113:List AV→Tr AV:=g1 dPos (fun a=>.ret ((dR .u8 .u8).res (N113 a)))
theorem s113:Sound Pz 113 G113:=sound1 fun a=>at_rt (P113 a rfl)
noncomputable def K24:List (Nat×Nat×List (Nat×List Nat)):=[(24,29,[(0,[1,2,10,11,12]),(1,[1,2,13]),(2,[2]),(3,[1,2,15,16]),(4,[1,2,15,16,17]),(5,[1,2,4,15,16]),(6,[1,2,5,15,16]),(7,[1,2,5,15,16,25]),(8,[2]),(9,[1,2,15,16]),(10,[2])])]
noncomputable def B24:Base:=baseOf Pz (fun f i=>lkC f i K24) [(38,G38),(55,G55),(111,G111),(112,G112),(113,G113)] [] []
theorem hB24:BOk B24:=base_ok named_z ⟨s38,s55,s111,s112,s113,trivial⟩ trivial trivial
noncomputable def N24 (a:Pos):(Int×Int):=(bif decide (a.variant ≥ 9) then ⟨(0),(0)⟩ else (bif decide (a.turn > 1) then ⟨(0),(0)⟩ else (bif (N38 a).fst != 0 then ⟨((N38 a).fst),((N38 a).snd)⟩ else (bif (N111 a).fst != 0 then ⟨((N111 a).fst),((N111 a).snd)⟩ else (bif (N112 a).fst != 0 then ⟨((N112 a).fst),((N112 a).snd)⟩ else (bif (N113 a).fst != 0 then ⟨((N113 a).fst),((N113 a).snd)⟩ else ⟨(0),(0)⟩))))))
noncomputable def ok24 (a:Pos):Bool:=(bif decide (a.variant ≥ 9) then true else (bif decide (a.turn > 1) then true else (ok38 (a)&&(bif (N38 a).fst != 0 then true else (ok111 (a)&&(bif (N111 a).fst != 0 then true else (ok112 (a)&&true)))))))
theorem P24 (a:Pos) (h:ok24 a=true):PS Pz 24 [Pos.av a] ((dR .u8 .u8).res (N24 a)):=ps_sum (n:=14) hB24 (by kernel_rfl) (by kernel_rfl) (by kernel_rfl) h
end Kz
end
section
namespace Kz
open Go Go.RowKit
set_option maxRecDepth 100000
set_option maxHeartbeats 4000000
theorem t191 (p:Pos) (b:Int):ok191 p b=true:=a_true (t66 _ _ _) fun _=>a_true (t66 _ _ _) fun _=>rfl
theorem t161 (p:Pos):ok161 p=true:=by
  unfold ok161
  rw [show (Pos.mk p.variant p.board p.promoted p.pockets p.turn p.rooks p.passing p.checks p.half p.full)=p from rfl]
  repeat' (first | with_reducible rfl | with_reducible exact t151 _ | with_reducible exact t191 _ _ | with_reducible exact t66 _ _ _ | refine a_true ?_ (fun _ => ?_) | refine c_true (fun _ => ?_) (fun _ => ?_))
theorem t112 (p:Pos):ok112 p=true:=a_true (t161 _) fun _=>rfl
theorem t111 {p:Pos} (hp:PosIn p):ok111 p=true:=a_true (t18 hp) fun _=>c_true (fun _=>rfl) fun _=>c_true (fun _=>rfl) fun _=>a_true (t109 hp.v0 hp.t0) fun _=>rfl
theorem t24 {p:Pos} (hp:PosIn p):ok24 p=true:=c_true (fun _=>rfl) fun _=>c_true (fun _=>rfl) fun _=>a_true (t38 hp) fun _=>c_true (fun _=>rfl) fun _=>a_true (t111 hp) fun _=>c_true (fun _=>rfl) fun _=>a_true (t112 p) fun _=>rfl
section
variable {p:Pos} (hp:PosIn p) {h f:Int} (hq:PosIn (cl h f p))
include hp hq
end
def inC (a b x:Int):Bool:=decide (a≤x)&&decide (x≤b)
theorem inC_iff {a b x:Int}:inC a b x=true ↔ a≤x∧x≤b:=by unfold inC; simp
def posIB (p:Pos):Bool :=
  inC 0 255 p.variant&&(p.board.length==64&&p.board.all (inC 0 255))&&(p.pockets.length==12&&p.pockets.all (inC 0 255))&&inC 0 255 p.turn&&(p.rooks.length==4&&p.rooks.all (inC (-128) 127))&&inC (-128) 127 p.passing&&(p.checks.length==2&&p.checks.all (inC 0 255))&&inC (-9223372036854775808) 9223372036854775807 p.half&&inC (-9223372036854775808) 9223372036854775807 p.full
theorem posI_of {p:Pos} (h:posIB p=true):PosIn p:=by
  unfold posIB at h
  simp only [Bool.and_eq_true,beq_iff_eq,List.all_eq_true,inC_iff] at h
  obtain ⟨⟨⟨⟨⟨⟨⟨⟨a,b⟩,c⟩,d⟩,e⟩,f⟩,g⟩,i⟩,j⟩:=h
  exact ⟨a.1,a.2,b.1,b.2,c.1,c.2,d.1,d.2,e.1,e.2,f.1,f.2,g.1,g.2,i,j⟩
end Kz
end
section
namespace Kz
open Go Go.RowKit Go.Proofs
set_option maxRecDepth 100000
set_option maxHeartbeats 4000000
noncomputable def K64:List (Nat×Nat×List (Nat×List Nat)):=[(64,6,[(0,[0]),(1,[2])])]
noncomputable def B64:Base:=baseOf Pz (fun f i=>lkC f i K64) [(118,G118)] [] []
theorem hB64:BOk B64:=base_ok named_z ⟨s118,trivial⟩ trivial trivial
noncomputable def N64 (a:Int):List UInt8:=((N118 a).fst)
noncomputable def ok64 (a:Int):Bool:=(ok118 (a)&&true)
theorem P64 (a:Int) (h:ok64 a=true):PS Pz 64 [.int .u8 a] (dS.res (N64 a)):=ps_sum (n:=14) hB64 (by kernel_rfl) (by kernel_rfl) (by kernel_rfl) h
noncomputable def G64:List AV→Tr AV:=g1 (dI .u8) (fun a=>gdv (ok64 a) (dS.res (N64 a)))
theorem s64:Sound Pz 64 G64:=sound1 fun a=>at_gd (P64 a)
noncomputable def K31:List (Nat×Nat×List (Nat×List Nat)):=[(31,12,[(0,[0,1]),(1,[4])])]
noncomputable def B31:Base:=baseOf Pz (fun f i=>lkC f i K31) [(64,G64)] [] []
theorem hB31:BOk B31:=base_ok named_z ⟨s64,trivial⟩ trivial trivial
noncomputable def N31 (a:Int) (b:Int):Bool:=(bif !N64 a==(ByteArray.mk #[]).data.toList then (decide (b≤1)) else (false))
noncomputable def ok31 (a:Int) (b:Int):Bool:=(ok64 (a)&&true)
theorem P31 (a:Int) (b:Int) (h:ok31 a b=true):PS Pz 31 [.int .u8 a,.int .u8 b] (dB.res (N31 a b)):=ps_sum (n:=14) hB31 (by kernel_rfl) (by kernel_rfl) (by kernel_rfl) h
noncomputable def G31:List AV→Tr AV:=g2 (dI .u8) (dI .u8) (fun a b=>gdv (ok31 a b) (dB.res (N31 a b)))
theorem s31:Sound Pz 31 G31:=sound2 fun a b=>at_gd (P31 a b)
noncomputable def K123:List (Nat×Nat×List (Nat×List Nat)):=[(123,2,[(0,[0]),(1,[0])])]
noncomputable def B123:Base:=baseOf Pz (fun f i=>lkC f i K123) [] [] []
theorem hB123:BOk B123:=base_ok named_z trivial trivial trivial
noncomputable def N123  : List Int:=(li [0,100,320,330,500,900,0])
noncomputable def ok123  : Bool:=true
theorem P123  (h:ok123 =true):PS Pz 123 [] ((dArr .i64 7).res (N123 )):=ps_sum (n:=14) hB123 (by kernel_rfl) (by kernel_rfl) (by kernel_rfl) h
noncomputable def G123:List AV→Tr AV:=g0  (.ret ((dArr .i64 7).res (N123 )))
theorem s123:Sound Pz 123 G123:=sound0 (at_rt (P123 rfl))
noncomputable def K67:List (Nat×Nat×List (Nat×List Nat)):=[(67,8,[(0,[0]),(1,[0,4]),(2,[2]),(3,[2])])]
noncomputable def B67:Base:=baseOf Pz (fun f i=>lkC f i K67) [(123,G123)] [] []
theorem hB67:BOk B67:=base_ok named_z ⟨s123,trivial⟩ trivial trivial
noncomputable def N67 (a:Int):Int:=(bif decide (a > 6) then (0) else ((li [0,100,320,330,500,900,0]).getD a.toNat 0))
noncomputable def ok67 (a:Int):Bool:=(bif decide (a > 6) then true else (decide (0≤a)&&decide (a < Int.ofNat 7)&&true))
theorem P67 (a:Int) (h:ok67 a=true):PS Pz 67 [.int .u8 a] ((dI .i64).res (N67 a)):=ps_sum (n:=14) hB67 (by kernel_rfl) (by kernel_rfl) (by kernel_rfl) h
noncomputable def G67:List AV→Tr AV:=g1 (dI .u8) (fun a=>gdv (ok67 a) ((dI .i64).res (N67 a)))
theorem s67:Sound Pz 67 G67:=sound1 fun a=>at_gd (P67 a)
noncomputable def K124:List (Nat×Nat×List (Nat×List Nat)):=[(124,8,[(0,[0]),(1,[2])])]
noncomputable def B124:Base:=baseOf Pz (fun f i=>lkC f i K124) [] [] []
theorem hB124:BOk B124:=base_ok named_z trivial trivial trivial
noncomputable def N124 (a:Int):Int:=(if 0 > if wr .i64 (a - 4) > wr .i64 (3 - a) then wr .i64 (a - 4) else wr .i64 (3 - a) then 0 else if wr .i64 (a - 4) > wr .i64 (3 - a) then wr .i64 (a - 4) else wr .i64 (3 - a))
noncomputable def ok124 (a:Int):Bool:=true
theorem P124 (a:Int) (h:ok124 a=true):PS Pz 124 [.int .i64 a] ((dI .i64).res (N124 a)):=ps_sum (n:=14) hB124 (by kernel_rfl) (by kernel_rfl) (by kernel_rfl) h
noncomputable def G124:List AV→Tr AV:=g1 (dI .i64) (fun a=>.ret ((dI .i64).res (N124 a)))
theorem s124:Sound Pz 124 G124:=sound1 fun a=>at_rt (P124 a rfl)
noncomputable def K68:List (Nat×Nat×List (Nat×List Nat)):=[(68,16,[(0,[0]),(1,[0,8]),(2,[2]),(3,[2])])]
noncomputable def B68:Base:=baseOf Pz (fun f i=>lkC f i K68) [(124,G124)] [] []
theorem hB68:BOk B68:=base_ok named_z ⟨s124,trivial⟩ trivial trivial
noncomputable def N68 (a:Int):Int:=(bif decide (a < 0) then (-1) else (bif decide (a ≥ 64) then (-1) else (if N124 (wr .i64 (a.tdiv 8)) > N124 (a.tmod 8) then N124 (wr .i64 (a.tdiv 8)) else N124 (a.tmod 8))))
noncomputable def ok68 (a:Int):Bool:=true
theorem P68 (a:Int) (h:ok68 a=true):PS Pz 68 [.int .i64 a] ((dI .i64).res (N68 a)):=ps_sum (n:=14) hB68 (by kernel_rfl) (by kernel_rfl) (by kernel_rfl) h
noncomputable def G68:List AV→Tr AV:=g1 (dI .i64) (fun a=>.ret ((dI .i64).res (N68 a)))
theorem s68:Sound Pz 68 G68:=sound1 fun a=>at_rt (P68 a rfl)
noncomputable def K69:List (Nat×Nat×List (Nat×List Nat)):=[]
noncomputable def B69:Base:=baseOf Pz (fun f i=>lkC f i K69) [] [] []
theorem hB69:BOk B69:=base_ok named_z trivial trivial trivial
noncomputable def V169:AV:=AV.vlist true [AV.agg [AV.cint .u8 2,AV.func 125 [] []],AV.agg [AV.cint .u8 8,AV.func 126 [] []],AV.agg [AV.cint .u8 6,AV.func 129 [] []],AV.agg [AV.cint .u8 5,AV.func 131 [] []],AV.agg [AV.cint .u8 4,AV.func 132 [] []]]
noncomputable def ok69:Bool:=true
theorem E69:evPure B69 14 69 []=Tr.ret V169:=by kernel_rfl
theorem P69 (_:ok69=true):PS Pz 69 [] V169:=evPure_ok hB69 (by rw [E69]; rfl)
noncomputable def G69:List AV→Tr AV:=g0 (.ret V169)
theorem s69:Sound Pz 69 G69:=sound0 (at_rt (P69 rfl))
noncomputable def K125:List (Nat×Nat×List (Nat×List Nat)):=[(125,26,[(0,[1,2]),(1,[1,2,5]),(2,[5,11,12]),(3,[5,11,12,13]),(4,[5,6,7,11,12]),(5,[5,11,12]),(6,[5,11,12]),(7,[4])])]
noncomputable def B125_1:Base:=baseOf Pz (fun f i=>lkC f i K125) [(67,G67)] [] []
theorem hB125_1:BOk B125_1:=base_ok named_z ⟨s67,trivial⟩ trivial trivial
noncomputable def S125_1 (p1:(List Int)) (p2:Pos) (x:(Int×Int)):St:=St.mk (an 5 (AV.int .i64 x.fst::(an 5 (AV.agg [AV.ints .u8 6 p1]::AV.int .i64 x.snd::(an 13 []))))) (Hp.mk [(pc p2 [])] [] [] 0 0 0)
noncomputable def O125_1 (p1:(List Int)) (p2:Pos):(Int×Int×Bool)→Out:=fun y=>.exit 0 (St.mk (an 5 (AV.int .i64 y.fst::(an 5 (AV.agg [AV.ints .u8 6 p1]::AV.int .i64 y.snd.fst::AV.bool y.snd.snd::(an 12 []))))) (Hp.mk [(pc p2 [])] [] [] 0 0 0))
noncomputable def st125_1 (p1:(List Int)) (p2:Pos) (x:(Int×Int)):Stp (Int×Int) ((Int×Int×Bool)):=(bif decide (x.snd < 6) then (Stp.go (wr .i64 (x.fst+wr .i64 (N67 (wr .u8 x.snd) * wr .i64 (p1.getD x.snd.toNat 0))),wr .i64 (x.snd+1))) else (Stp.out ((x.fst,x.snd,decide (x.snd < 6)))))
noncomputable def okL125_1 (p1:(List Int)) (p2:Pos) (x:(Int×Int)):Bool:=(bif decide (x.snd < 6) then (decide (0≤x.snd)&&decide (x.snd < Int.ofNat 6)&&(ok67 (wr .u8 x.snd)&&true)) else true)
noncomputable def lp125_1 (p1:(List Int)) (p2:Pos) (x:(Int×Int)):Option ((Int×Int×Bool)):=itl (fun x=>bif okL125_1 p1 p2 x then st125_1 p1 p2 x else .bad) many x
abbrev D125_1 {α:Type} (k:(List Int)→Pos→(Int×Int)→α) (s:St):α:=wP s 0 fun q0=>k (tN (tX (tA (tT s 11)) 0)) q0 ((tI (tT s 5)),(tI (tT s 12)))
theorem L125_1 (p1:(List Int)) (p2:Pos) (x:(Int×Int)) (r:(Int×Int×Bool)) (h:lp125_1 p1 p2 x=some r):LSpec Pz (bodL Pz 125 3) (S125_1 p1 p2 x) (O125_1 p1 p2 r):=LSpec.smd (m:=12) (fn:=125) hB125_1 (D125_1 fun _ _ x=>some x) (fun o=>match o with | .exit 0 s=>some ((tI (tT s 5)),(tI (tT s 12)),(tB (tT s 13))) | _=>none) (fun _=>rfl) (fun _=>by kernel_rfl) (fun _=>by kernel_rfl) (fun _=>by kernel_rfl) (fun _=>by kernel_rfl) many x r h
noncomputable def F125_1 (b:Code) (s:St):Tr Out:=D125_1 (fun p1 p2 x=>lk1 b (bodL Pz 125 3) s (S125_1 p1 p2 x) (lp125_1 p1 p2 x) (O125_1 p1 p2)) s
theorem sF125_1:∀ b,LSound Pz b (F125_1 b):=fun _ _ _ h=>lk1_ok (L125_1 _ _ _) h
noncomputable def B125:Base:=baseOf Pz (fun f i=>lkC f i K125) [(67,G67)] [(125,3,F125_1)] []
theorem hB125:BOk B125:=base_ok named_z ⟨s67,trivial⟩ ⟨sF125_1,trivial⟩ trivial
noncomputable def N125 (a:Pos) (b:Int):Int:=(((lp125_1 (List.take 6 (List.drop (scale 6 b).toNat a.pockets)) a (0,0)).getD default).fst)
noncomputable def ok125 (a:Pos) (b:Int):Bool:=(decide (0≤b)&&decide (b < Int.ofNat 2)&&((lp125_1 (List.take 6 (List.drop (scale 6 b).toNat a.pockets)) a (0,0)).isSome&&true))
theorem P125 (a:Pos) (b:Int) (h:ok125 a b=true):PS Pz 125 [Pos.av a,.int .u8 b] ((dI .i64).res (N125 a b)):=ps_sum (n:=14) hB125 (by kernel_rfl) (by kernel_rfl) (by kernel_rfl) h
noncomputable def G125:List AV→Tr AV:=g2 dPos (dI .u8) (fun a b=>gdv (ok125 a b) ((dI .i64).res (N125 a b)))
theorem s125:Sound Pz 125 G125:=sound2 fun a b=>at_gd (P125 a b)
noncomputable def K128:List (Nat×Nat×List (Nat×List Nat)):=[(128,6,[(0,[0]),(1,[2])])]
noncomputable def B128:Base:=baseOf Pz (fun f i=>lkC f i K128) [] [] []
theorem hB128:BOk B128:=base_ok named_z trivial trivial trivial
noncomputable def N128 (a:Int):Int:=(wr .i64 (60 * wr .i64 (a.tdiv 8)))
noncomputable def ok128 (a:Int):Bool:=true
theorem P128 (a:Int) (h:ok128 a=true):PS Pz 128 [.int .i64 a] ((dI .i64).res (N128 a)):=ps_sum (n:=14) hB128 (by kernel_rfl) (by kernel_rfl) (by kernel_rfl) h
noncomputable def G128:List AV→Tr AV:=g1 (dI .i64) (fun a=>.ret ((dI .i64).res (N128 a)))
theorem s128:Sound Pz 128 G128:=sound1 fun a=>at_rt (P128 a rfl)
noncomputable def K126:List (Nat×Nat×List (Nat×List Nat)):=[(126,8,[(0,[1,2]),(1,[4])]),(127,16,[(0,[1,2,3]),(1,[2,7]),(2,[2,7,12]),(3,[6]),(4,[6])])]
noncomputable def B126:Base:=baseOf Pz (fun f i=>lkC f i K126) [(106,G106),(128,G128)] [] []
theorem hB126:BOk B126:=base_ok named_z ⟨s106,s128,trivial⟩ trivial trivial
noncomputable def N126 (a:Pos) (b:Int):Int:=(bif decide (N106 a b 6 < 0) then (0) else (N128 (N106 a b 6)))
noncomputable def ok126 (a:Pos) (b:Int):Bool:=(ok106 (a) (b) (6)&&true)
theorem P126 (a:Pos) (b:Int) (h:ok126 a b=true):PS Pz 126 [Pos.av a,.int .u8 b] ((dI .i64).res (N126 a b)):=ps_sum (n:=14) hB126 (by kernel_rfl) (by kernel_rfl) (by kernel_rfl) h
noncomputable def G126:List AV→Tr AV:=g2 dPos (dI .u8) (fun a b=>gdv (ok126 a b) ((dI .i64).res (N126 a b)))
theorem s126:Sound Pz 126 G126:=sound2 fun a b=>at_gd (P126 a b)
noncomputable def K130:List (Nat×Nat×List (Nat×List Nat)):=[(130,6,[(0,[0]),(1,[2])])]
noncomputable def B130:Base:=baseOf Pz (fun f i=>lkC f i K130) [(68,G68)] [] []
theorem hB130:BOk B130:=base_ok named_z ⟨s68,trivial⟩ trivial trivial
noncomputable def N130 (a:Int):Int:=(wr .i64 (-30 * N68 a))
noncomputable def ok130 (a:Int):Bool:=true
theorem P130 (a:Int) (h:ok130 a=true):PS Pz 130 [.int .i64 a] ((dI .i64).res (N130 a)):=ps_sum (n:=14) hB130 (by kernel_rfl) (by kernel_rfl) (by kernel_rfl) h
noncomputable def G130:List AV→Tr AV:=g1 (dI .i64) (fun a=>.ret ((dI .i64).res (N130 a)))
theorem s130:Sound Pz 130 G130:=sound1 fun a=>at_rt (P130 a rfl)
noncomputable def K129:List (Nat×Nat×List (Nat×List Nat)):=[(127,16,[(0,[1,2,3]),(1,[2,7]),(2,[2,7,12]),(3,[6]),(4,[6])]),(129,8,[(0,[1,2]),(1,[4])])]
noncomputable def B129:Base:=baseOf Pz (fun f i=>lkC f i K129) [(106,G106),(130,G130)] [] []
theorem hB129:BOk B129:=base_ok named_z ⟨s106,s130,trivial⟩ trivial trivial
noncomputable def N129 (a:Pos) (b:Int):Int:=(bif decide (N106 a b 6 < 0) then (0) else (N130 (N106 a b 6)))
noncomputable def ok129 (a:Pos) (b:Int):Bool:=(ok106 (a) (b) (6)&&true)
theorem P129 (a:Pos) (b:Int) (h:ok129 a b=true):PS Pz 129 [Pos.av a,.int .u8 b] ((dI .i64).res (N129 a b)):=ps_sum (n:=14) hB129 (by kernel_rfl) (by kernel_rfl) (by kernel_rfl) h
noncomputable def G129:List AV→Tr AV:=g2 dPos (dI .u8) (fun a b=>gdv (ok129 a b) ((dI .i64).res (N129 a b)))
theorem s129:Sound Pz 129 G129:=sound2 fun a b=>at_gd (P129 a b)
noncomputable def K131:List (Nat×Nat×List (Nat×List Nat)):=[(131,11,[(0,[1,2]),(1,[4])])]
noncomputable def B131:Base:=baseOf Pz (fun f i=>lkC f i K131) [] [] []
theorem hB131:BOk B131:=base_ok named_z trivial trivial trivial
noncomputable def N131 (a:Pos) (b:Int):Int:=(wr .i64 (150 * wr .i64 (a.checks.getD (scale 1 b).toNat 0)))
noncomputable def ok131 (a:Pos) (b:Int):Bool:=(decide (0≤b)&&decide (b < Int.ofNat 2)&&true)
theorem P131 (a:Pos) (b:Int) (h:ok131 a b=true):PS Pz 131 [Pos.av a,.int .u8 b] ((dI .i64).res (N131 a b)):=ps_sum (n:=14) hB131 (by kernel_rfl) (by kernel_rfl) (by kernel_rfl) h
noncomputable def G131:List AV→Tr AV:=g2 dPos (dI .u8) (fun a b=>gdv (ok131 a b) ((dI .i64).res (N131 a b)))
theorem s131:Sound Pz 131 G131:=sound2 fun a b=>at_gd (P131 a b)
noncomputable def K169:List (Nat×Nat×List (Nat×List Nat)):=[(169,5,[(0,[0]),(1,[2])])]
noncomputable def B169:Base:=baseOf Pz (fun f i=>lkC f i K169) [(192,G192)] [] []
theorem hB169:BOk B169:=base_ok named_z ⟨s192,trivial⟩ trivial trivial
noncomputable def N169 (a:BitVec 64):Int:=(N192 a)
noncomputable def ok169 (a:BitVec 64):Bool:=true
theorem P169 (a:BitVec 64) (h:ok169 a=true):PS Pz 169 [.u64 a] ((dI .i64).res (N169 a)):=ps_sum (n:=14) hB169 (by kernel_rfl) (by kernel_rfl) (by kernel_rfl) h
noncomputable def G169:List AV→Tr AV:=g1 dU (fun a=>.ret ((dI .i64).res (N169 a)))
theorem s169:Sound Pz 169 G169:=sound1 fun a=>at_rt (P169 a rfl)
noncomputable def K133:List (Nat×Nat×List (Nat×List Nat)):=[(133,12,[(0,[1,2,3]),(1,[6])])]
noncomputable def B133:Base:=baseOf Pz (fun f i=>lkC f i K133) [(66,G66),(169,G169)] [] []
theorem hB133:BOk B133:=base_ok named_z ⟨s66,s169,trivial⟩ trivial trivial
noncomputable def N133 (a:Pos) (b:Int) (c:Int):Int:=(N169 (N66 a b c))
noncomputable def ok133 (a:Pos) (b:Int) (c:Int):Bool:=(ok66 (a) (b) (c)&&true)
theorem P133 (a:Pos) (b:Int) (c:Int) (h:ok133 a b c=true):PS Pz 133 [Pos.av a,.int .u8 b,.int .u8 c] ((dI .i64).res (N133 a b c)):=ps_sum (n:=14) hB133 (by kernel_rfl) (by kernel_rfl) (by kernel_rfl) h
noncomputable def G133:List AV→Tr AV:=g3 dPos (dI .u8) (dI .u8) (fun a b c=>gdv (ok133 a b c) ((dI .i64).res (N133 a b c)))
theorem s133:Sound Pz 133 G133:=sound3 fun a b c=>at_gd (P133 a b c)
noncomputable def K132:List (Nat×Nat×List (Nat×List Nat)):=[(132,9,[(0,[1,2]),(1,[4])])]
noncomputable def B132:Base:=baseOf Pz (fun f i=>lkC f i K132) [(133,G133)] [] []
theorem hB132:BOk B132:=base_ok named_z ⟨s133,trivial⟩ trivial trivial
noncomputable def N132 (a:Pos) (b:Int):Int:=(wr .i64 (200 * N133 a b 6))
noncomputable def ok132 (a:Pos) (b:Int):Bool:=(ok133 (a) (b) (6)&&true)
theorem P132 (a:Pos) (b:Int) (h:ok132 a b=true):PS Pz 132 [Pos.av a,.int .u8 b] ((dI .i64).res (N132 a b)):=ps_sum (n:=14) hB132 (by kernel_rfl) (by kernel_rfl) (by kernel_rfl) h
noncomputable def G132:List AV→Tr AV:=g2 dPos (dI .u8) (fun a b=>gdv (ok132 a b) ((dI .i64).res (N132 a b)))
theorem s132:Sound Pz 132 G132:=sound2 fun a b=>at_gd (P132 a b)
noncomputable def K32:List (Nat×Nat×List (Nat×List Nat)):=[(32,77,[(0,[1,2]),(1,[1,2,15]),(2,[4]),(3,[1,2,5]),(4,[1,2,5,6]),(5,[1,2,5,6,17]),(6,[1,2,5,6]),(7,[1,2,5,6,24,25,26]),(8,(1::2::5::6::(rn 24 4 []))),(9,[1,2,5,6,8,24,25,26]),(10,[1,2,5,6,8,24,25,26]),(11,[1,2,5,6,8,24,25,26,39]),(12,[1,2,5,6,24,25,26]),(13,[1,2,5,6,24,25,26]),(14,[1,2,5,57,58,59]),(15,(1::2::5::(rn 57 4 []))),(16,[1,2,5,10,57,58,59]),(17,[1,2,5,10,57,58,59,67]),(18,[1,2,5,57,58,59]),(19,[1,2,5,57,58,59]),(20,[4])])]
noncomputable def B32_1:Base:=baseOf Pz (fun f i=>lkC f i K32) [(31,G31),(65,G65),(66,G66),(67,G67),(68,G68),(69,G69),(125,G125),(126,G126),(129,G129),(131,G131),(132,G132)] [] []
theorem hB32_1:BOk B32_1:=base_ok named_z ⟨s31,s65,s66,s67,s68,s69,s125,s126,s129,s131,s132,trivial⟩ trivial trivial
noncomputable def S32_1 (p1:Int) (p2:Int) (p3:(List Int)) (p4:Int) (p5:Pos) (x:(Int×Int)):St:=St.mk (AV.any::AV.int .u8 p1::AV.ptr 0 0::AV.any::AV.any::AV.int .i64 x.fst::AV.int .u8 p2::(an 17 (AV.list (ET.i .i64) p3 Tk.fresh::AV.int .i64 p4::AV.int .i64 x.snd::(an 50 [])))) (Hp.mk [(pc p5 [])] [] [] 0 0 0)
noncomputable def O32_1 (p1:Int) (p2:Int) (p3:(List Int)) (p4:Int) (p5:Pos):(Int×Int×Bool)→Out:=fun y=>.exit 2 (St.mk (AV.any::AV.int .u8 p1::AV.ptr 0 0::AV.any::AV.any::AV.int .i64 y.fst::AV.int .u8 p2::(an 17 (AV.list (ET.i .i64) p3 Tk.fresh::AV.int .i64 p4::AV.int .i64 y.snd.fst::AV.bool y.snd.snd::(an 49 [])))) (Hp.mk [(pc p5 [])] [] [] 0 0 0))
noncomputable def st32_1 (p1:Int) (p2:Int) (p3:(List Int)) (p4:Int) (p5:Pos) (x:(Int×Int)):Stp (Int×Int) ((Int×Int×Bool)):=(bif decide (x.snd < p4) then (bif p2==1 then (Stp.go (wr .i64 (wr .i64 (x.fst+wr .i64 (N67 p2 - wr .i64 (4 * N68 (p3.getD x.snd.toNat default))))+wr .i64 (6 * if wr .i64 (wr .i64 (7 * wr .i64 p1) - wr .i64 (Int.tdiv (p3.getD x.snd.toNat default) 8)) > wr .i64 (wr .i64 (Int.tdiv (p3.getD x.snd.toNat default) 8) - wr .i64 (7 * wr .i64 p1)) then wr .i64 (wr .i64 (7 * wr .i64 p1) - wr .i64 (Int.tdiv (p3.getD x.snd.toNat default) 8)) else wr .i64 (wr .i64 (Int.tdiv (p3.getD x.snd.toNat default) 8) - wr .i64 (7 * wr .i64 p1)))),wr .i64 (x.snd+1))) else (Stp.go (wr .i64 (x.fst+wr .i64 (N67 p2 - wr .i64 (4 * N68 (p3.getD x.snd.toNat default)))),wr .i64 (x.snd+1)))) else (Stp.out ((x.fst,x.snd,decide (x.snd < p4)))))
noncomputable def okL32_1 (p1:Int) (p2:Int) (p3:(List Int)) (p4:Int) (p5:Pos) (x:(Int×Int)):Bool:=(bif decide (x.snd < p4) then (decide (0≤x.snd)&&decide (x.snd < Int.ofNat p3.length)&&(ok67 (p2)&&true)) else true)
noncomputable def lp32_1 (p1:Int) (p2:Int) (p3:(List Int)) (p4:Int) (p5:Pos) (x:(Int×Int)):Option ((Int×Int×Bool)):=itl (fun x=>bif okL32_1 p1 p2 p3 p4 p5 x then st32_1 p1 p2 p3 p4 p5 x else .bad) many x
abbrev D32_1 {α:Type} (k:Int→Int→(List Int)→Int→Pos→(Int×Int)→α) (s:St):α:=wP s 0 fun q0=>k (tI (tT s 1)) (tI (tT s 6)) (tL (ET.i .i64) (tT s 24)) (tI (tT s 25)) q0 ((tI (tT s 5)),(tI (tT s 26)))
theorem L32_1 (p1:Int) (p2:Int) (p3:(List Int)) (p4:Int) (p5:Pos) (x:(Int×Int)) (r:(Int×Int×Bool)) (h:lp32_1 p1 p2 p3 p4 p5 x=some r):LSpec Pz (bodL Pz 32 8) (S32_1 p1 p2 p3 p4 p5 x) (O32_1 p1 p2 p3 p4 p5 r):=LSpec.smd (m:=12) (fn:=32) hB32_1 (D32_1 fun _ _ _ _ _ x=>some x) (fun o=>match o with | .exit 2 s=>some ((tI (tT s 5)),(tI (tT s 26)),(tB (tT s 27))) | _=>none) (fun _=>rfl) (fun _=>by kernel_rfl) (fun _=>by kernel_rfl) (fun _=>by kernel_rfl) (fun _=>by kernel_rfl) many x r h
noncomputable def F32_1 (b:Code) (s:St):Tr Out:=D32_1 (fun p1 p2 p3 p4 p5 x=>lk1 b (bodL Pz 32 8) s (S32_1 p1 p2 p3 p4 p5 x) (lp32_1 p1 p2 p3 p4 p5 x) (O32_1 p1 p2 p3 p4 p5)) s
theorem sF32_1:∀ b,LSound Pz b (F32_1 b):=fun _ _ _ h=>lk1_ok (L32_1 _ _ _ _ _ _) h
noncomputable def B32_2:Base:=baseOf Pz (fun f i=>lkC f i K32) [(31,G31),(65,G65),(66,G66),(67,G67),(68,G68),(69,G69),(125,G125),(126,G126),(129,G129),(131,G131),(132,G132)] [(32,8,F32_1)] []
theorem hB32_2:BOk B32_2:=base_ok named_z ⟨s31,s65,s66,s67,s68,s69,s125,s126,s129,s131,s132,trivial⟩ ⟨sF32_1,trivial⟩ trivial
noncomputable def S32_2 (p1:Int) (p2:Pos) (x:(Int×Int)):St:=St.mk (AV.any::AV.int .u8 p1::AV.ptr 0 0::AV.any::AV.any::AV.int .i64 x.fst::AV.int .u8 x.snd::(an 70 [])) (Hp.mk [(pc p2 [])] [] [] 0 0 0)
noncomputable def O32_2 (p1:Int) (p2:Pos):(Int×Int×Bool)→Out:=fun y=>.exit 0 (St.mk (AV.any::AV.int .u8 p1::AV.ptr 0 0::AV.any::AV.any::AV.int .i64 y.fst::AV.int .u8 y.snd.fst::(an 10 (AV.bool y.snd.snd::(an 59 [])))) (Hp.mk [(pc p2 [])] [] [] 0 0 0))
noncomputable def st32_2 (p1:Int) (p2:Pos) (x:(Int×Int)):Stp (Int×Int) ((Int×Int×Bool)):=(bif decide (x.snd≤6) then (Stp.go (((lp32_1 p1 x.snd (N65 (N66 p2 p1 x.snd)) (Int.ofNat (N65 (N66 p2 p1 x.snd)).length) p2 (x.fst,0)).getD default).fst,wr .u8 (x.snd+1))) else (Stp.out ((x.fst,x.snd,decide (x.snd≤6)))))
noncomputable def okL32_2 (p1:Int) (p2:Pos) (x:(Int×Int)):Bool:=(bif decide (x.snd≤6) then (ok66 (p2) (p1) (x.snd)&&(ok65 (N66 p2 p1 x.snd)&&((lp32_1 p1 x.snd (N65 (N66 p2 p1 x.snd)) (Int.ofNat (N65 (N66 p2 p1 x.snd)).length) p2 (x.fst,0)).isSome&&true))) else true)
noncomputable def lp32_2 (p1:Int) (p2:Pos) (x:(Int×Int)):Option ((Int×Int×Bool)):=itl (fun x=>bif okL32_2 p1 p2 x then st32_2 p1 p2 x else .bad) many x
abbrev D32_2 {α:Type} (k:Int→Pos→(Int×Int)→α) (s:St):α:=wP s 0 fun q0=>k (tI (tT s 1)) q0 ((tI (tT s 5)),(tI (tT s 6)))
theorem L32_2 (p1:Int) (p2:Pos) (x:(Int×Int)) (r:(Int×Int×Bool)) (h:lp32_2 p1 p2 x=some r):LSpec Pz (bodL Pz 32 5) (S32_2 p1 p2 x) (O32_2 p1 p2 r):=LSpec.smd (m:=12) (fn:=32) hB32_2 (D32_2 fun _ _ x=>some x) (fun o=>match o with | .exit 0 s=>some ((tI (tT s 5)),(tI (tT s 6)),(tB (tT s 17))) | _=>none) (fun _=>rfl) (fun _=>by kernel_rfl) (fun _=>by kernel_rfl) (fun _=>by kernel_rfl) (fun _=>by kernel_rfl) many x r h
noncomputable def F32_2 (b:Code) (s:St):Tr Out:=D32_2 (fun p1 p2 x=>lk1 b (bodL Pz 32 5) s (S32_2 p1 p2 x) (lp32_2 p1 p2 x) (O32_2 p1 p2)) s
theorem sF32_2:∀ b,LSound Pz b (F32_2 b):=fun _ _ _ h=>lk1_ok (L32_2 _ _ _) h
noncomputable def B32_3:Base:=baseOf Pz (fun f i=>lkC f i K32) [(31,G31),(65,G65),(66,G66),(67,G67),(68,G68),(69,G69),(125,G125),(126,G126),(129,G129),(131,G131),(132,G132)] [(32,8,F32_1),(32,5,F32_2)] []
theorem hB32_3:BOk B32_3:=base_ok named_z ⟨s31,s65,s66,s67,s68,s69,s125,s126,s129,s131,s132,trivial⟩ ⟨sF32_1,sF32_2,trivial⟩ trivial
noncomputable def S32_3 (p1:Int) (p2:Pos) (x:(Int×Int)):St:=St.mk (AV.any::AV.int .u8 p1::AV.ptr 0 0::AV.any::AV.any::AV.int .i64 x.fst::(an 51 (AV.vlist true [AV.agg [AV.cint .u8 2,AV.func 125 [] []],AV.agg [AV.cint .u8 8,AV.func 126 [] []],AV.agg [AV.cint .u8 6,AV.func 129 [] []],AV.agg [AV.cint .u8 5,AV.func 131 [] []],AV.agg [AV.cint .u8 4,AV.func 132 [] []]]::AV.cint .i64 (Int.ofNat 5)::AV.int .i64 x.snd::(an 17 [])))) (Hp.mk [(pc p2 [])] [] [] 0 0 0)
noncomputable def O32_3 (p1:Int) (p2:Pos):(Int×Int×Bool)→Out:=fun y=>.exit 4 (St.mk (AV.any::AV.int .u8 p1::AV.ptr 0 0::AV.any::AV.any::AV.int .i64 y.fst::(an 51 (AV.vlist true [AV.agg [AV.cint .u8 2,AV.func 125 [] []],AV.agg [AV.cint .u8 8,AV.func 126 [] []],AV.agg [AV.cint .u8 6,AV.func 129 [] []],AV.agg [AV.cint .u8 5,AV.func 131 [] []],AV.agg [AV.cint .u8 4,AV.func 132 [] []]]::AV.cint .i64 (Int.ofNat 5)::AV.int .i64 y.snd.fst::AV.bool y.snd.snd::(an 16 [])))) (Hp.mk [(pc p2 [])] [] [] 0 0 0))
noncomputable def st32_3 (p1:Int) (p2:Pos) (x:(Int×Int)):Stp (Int×Int) ((Int×Int×Bool)):=(bif decide (x.snd < Int.ofNat 5) then (bif x.snd==Int.ofNat 0 then (bif 2==p2.variant then (Stp.go (wr .i64 (x.fst+N125 p2 p1),wr .i64 (x.snd+1))) else (Stp.go (x.fst,wr .i64 (x.snd+1)))) else (bif x.snd==Int.ofNat 1 then (bif 8==p2.variant then (Stp.go (wr .i64 (x.fst+N126 p2 p1),wr .i64 (x.snd+1))) else (Stp.go (x.fst,wr .i64 (x.snd+1)))) else (bif x.snd==Int.ofNat 2 then (bif 6==p2.variant then (Stp.go (wr .i64 (x.fst+N129 p2 p1),wr .i64 (x.snd+1))) else (Stp.go (x.fst,wr .i64 (x.snd+1)))) else (bif x.snd==Int.ofNat 3 then (bif 5==p2.variant then (Stp.go (wr .i64 (x.fst+N131 p2 p1),wr .i64 (x.snd+1))) else (Stp.go (x.fst,wr .i64 (x.snd+1)))) else (bif 4==p2.variant then (Stp.go (wr .i64 (x.fst+N132 p2 p1),wr .i64 (x.snd+1))) else (Stp.go (x.fst,wr .i64 (x.snd+1)))))))) else (Stp.out ((x.fst,x.snd,decide (x.snd < Int.ofNat 5)))))
noncomputable def okL32_3 (p1:Int) (p2:Pos) (x:(Int×Int)):Bool:=(bif decide (x.snd < Int.ofNat 5) then (decide (0≤x.snd)&&decide (x.snd < Int.ofNat 5)&&(bif x.snd==Int.ofNat 0 then (bif 2==p2.variant then (ok125 (p2) (p1)&&true) else true) else (bif x.snd==Int.ofNat 1 then (bif 8==p2.variant then (ok126 (p2) (p1)&&true) else true) else (bif x.snd==Int.ofNat 2 then (bif 6==p2.variant then (ok129 (p2) (p1)&&true) else true) else (bif x.snd==Int.ofNat 3 then (bif 5==p2.variant then (ok131 (p2) (p1)&&true) else true) else (x.snd==Int.ofNat 4&&(bif 4==p2.variant then (ok132 (p2) (p1)&&true) else true))))))) else true)
noncomputable def lp32_3 (p1:Int) (p2:Pos) (x:(Int×Int)):Option ((Int×Int×Bool)):=itl (fun x=>bif okL32_3 p1 p2 x then st32_3 p1 p2 x else .bad) many x
abbrev D32_3 {α:Type} (k:Int→Pos→(Int×Int)→α) (s:St):α:=wP s 0 fun q0=>k (tI (tT s 1)) q0 ((tI (tT s 5)),(tI (tT s 59)))
theorem L32_3 (p1:Int) (p2:Pos) (x:(Int×Int)) (r:(Int×Int×Bool)) (h:lp32_3 p1 p2 x=some r):LSpec Pz (bodL Pz 32 15) (S32_3 p1 p2 x) (O32_3 p1 p2 r):=LSpec.smd (m:=12) (fn:=32) hB32_3 (D32_3 fun _ _ x=>some x) (fun o=>match o with | .exit 4 s=>some ((tI (tT s 5)),(tI (tT s 59)),(tB (tT s 60))) | _=>none) (fun _=>rfl) (fun _=>by kernel_rfl) (fun _=>by kernel_rfl) (fun _=>by kernel_rfl) (fun _=>by kernel_rfl) many x r h
noncomputable def F32_3 (b:Code) (s:St):Tr Out:=D32_3 (fun p1 p2 x=>lk1 b (bodL Pz 32 15) s (S32_3 p1 p2 x) (lp32_3 p1 p2 x) (O32_3 p1 p2)) s
theorem sF32_3:∀ b,LSound Pz b (F32_3 b):=fun _ _ _ h=>lk1_ok (L32_3 _ _ _) h
noncomputable def B32:Base:=baseOf Pz (fun f i=>lkC f i K32) [(31,G31),(65,G65),(66,G66),(67,G67),(68,G68),(69,G69),(125,G125),(126,G126),(129,G129),(131,G131),(132,G132)] [(32,8,F32_1),(32,5,F32_2),(32,15,F32_3)] []
theorem hB32:BOk B32:=base_ok named_z ⟨s31,s65,s66,s67,s68,s69,s125,s126,s129,s131,s132,trivial⟩ ⟨sF32_1,sF32_2,sF32_3,trivial⟩ trivial
noncomputable def N32 (a:Pos) (b:Int):Int:=(bif !N31 a.variant b then (0) else (((lp32_3 b a (((lp32_2 b a (0,1)).getD default).fst,0)).getD default).fst))
noncomputable def ok32 (a:Pos) (b:Int):Bool:=(ok31 (a.variant) (b)&&(bif !N31 a.variant b then true else ((lp32_2 b a (0,1)).isSome&&((lp32_3 b a (((lp32_2 b a (0,1)).getD default).fst,0)).isSome&&true))))
theorem P32 (a:Pos) (b:Int) (h:ok32 a b=true):PS Pz 32 [Pos.av a,.int .u8 b] ((dI .i64).res (N32 a b)):=ps_sum (n:=14) hB32 (by kernel_rfl) (by kernel_rfl) (by kernel_rfl) h
noncomputable def G32:List AV→Tr AV:=g2 dPos (dI .u8) (fun a b=>gdv (ok32 a b) ((dI .i64).res (N32 a b)))
theorem s32:Sound Pz 32 G32:=sound2 fun a b=>at_gd (P32 a b)
noncomputable def B15:Base:=baseOf Pz (fun _ _=>[]) [(31,G31),(32,G32)] [] []
theorem hB15:BOk B15:=base_ok named_z ⟨s31,s32,trivial⟩ trivial trivial
noncomputable def N15 (a:Pos):Int:=(evPure B15 14 15 [Pos.av a]).vt (dI .i64).dec
noncomputable def ok15 (a:Pos):Bool:=((evPure B15 14 15 [Pos.av a]).qt (dI .i64).dec).val
theorem P15a (a:Pos):(evPure B15 14 15 [Pos.av a]).obl.map ob1=(evPure B15 14 15 [Pos.av a]).obl.map ob2:=by kernel_rfl
theorem P15b (a:Pos):((evPure B15 14 15 [Pos.av a]).qt (dI .i64).dec).val=ok15 a:=by kernel_rfl
theorem P15c (a:Pos):(evPure B15 14 15 [Pos.av a]).vt (dI .i64).dec=N15 a:=by kernel_rfl
theorem P15 (a:Pos) (h:ok15 a=true):PS Pz 15 [Pos.av a] ((dI .i64).res (N15 a)) := @ps_sum B15 hB15 14 15 [Pos.av a] Int _ (dI .i64) (ok15 a) (N15 a) (P15b a) (P15c a) (P15a a) h
noncomputable def G15:List AV→Tr AV:=g1 dPos (fun a=>gdv (ok15 a) ((dI .i64).res (N15 a)))
theorem s15:Sound Pz 15 G15:=sound1 fun a=>at_gd (P15 a)
noncomputable def K7:List (Nat×Nat×List (Nat×List Nat)):=[(7,14,[(0,[0]),(1,[0,3]),(2,[2]),(3,[0,8]),(4,[2]),(5,[2])])]
noncomputable def B7:Base:=baseOf Pz (fun f i=>lkC f i K7) [] [] []
theorem hB7:BOk B7:=base_ok named_z trivial trivial trivial
noncomputable def N7 (a:Int):Int:=(bif decide (a > 20000) then (wr .i64 (a - 1)) else (bif decide (a < -20000) then (wr .i64 (a+1)) else (a)))
noncomputable def ok7 (a:Int):Bool:=true
theorem P7 (a:Int) (h:ok7 a=true):PS Pz 7 [.int .i64 a] ((dI .i64).res (N7 a)):=ps_sum (n:=14) hB7 (by kernel_rfl) (by kernel_rfl) (by kernel_rfl) h
noncomputable def G7:List AV→Tr AV:=g1 (dI .i64) (fun a=>.ret ((dI .i64).res (N7 a)))
theorem s7:Sound Pz 7 G7:=sound1 fun a=>at_rt (P7 a rfl)
noncomputable def K110:List (Nat×Nat×List (Nat×List Nat)):=[(110,14,[(0,[2,3]),(1,[2,6]),(2,[2,6,7]),(3,[4]),(4,[9]),(5,[4]),(6,[4])])]
noncomputable def B110:Base:=baseOf Pz (fun f i=>lkC f i K110) [] [] []
theorem hB110:BOk B110:=base_ok named_z trivial trivial trivial
noncomputable def N110 (a:Pos) (b:(Int×Int)):Int:=(bif b.fst==3 then (0) else (bif b.fst==wr .u8 (1+a.turn) then (30000) else (-30000)))
noncomputable def ok110 (a:Pos) (b:(Int×Int)):Bool:=true
theorem P110 (a:Pos) (b:(Int×Int)) (h:ok110 a b=true):PS Pz 110 [Pos.av a,(dR .u8 .u8).arg b] ((dI .i64).res (N110 a b)):=ps_sum (n:=14) hB110 (by kernel_rfl) (by kernel_rfl) (by kernel_rfl) h
noncomputable def G110:List AV→Tr AV:=g2 dPos (dR .u8 .u8) (fun a b=>.ret ((dI .i64).res (N110 a b)))
theorem s110:Sound Pz 110 G110:=sound2 fun a b=>at_rt (P110 a b rfl)
end Kz
end
section
namespace Kz
open Go Go.RowKit Go.Proofs
set_option maxRecDepth 100000
def pA:Pos:=⟨0,(((List.replicate 64 (0:Int)).set 45 6).set 48 5).set 63 14,0,List.replicate 12 0,0,List.replicate 4 0,-1,[0,0],0,1⟩
def LA:List Mv:=([(45,36),(45,37),(45,38),(45,44),(45,46),(45,52),(45,53),(48,0),(48,6),(48,8),(48,13),(48,16),(48,20),(48,24),(48,27),(48,32),(48,34),(48,40),(48,41),(48,49),(48,50),(48,51),(48,52),(48,53),(48,54),(48,55),(48,56),(48,57)]:List (Int×Int)).map fun x=>⟨x.1,x.2,0,0,false⟩
def RA:List (Int×Int):=List.replicate 23 (0,0)++[(3,2),(1,1),(0,0),(0,0),(0,0)]
noncomputable def chA (m:Mv):Pos:=(N22 pA m).1
theorem LA_ok:N18 pA=LA:=by kernel_rfl
theorem p0A:N24 pA=(0,0):=by kernel_rfl
theorem RA1:(((LA.drop 0).take 6).map fun m=>N24 (chA m))=((RA.drop 0).take 6):=by kernel_rfl
theorem RA2:(((LA.drop 6).take 6).map fun m=>N24 (chA m))=((RA.drop 6).take 6):=by kernel_rfl
theorem RA3:(((LA.drop 12).take 5).map fun m=>N24 (chA m))=((RA.drop 12).take 5):=by kernel_rfl
theorem RA4:(((LA.drop 17).take 6).map fun m=>N24 (chA m))=((RA.drop 17).take 6):=by kernel_rfl
theorem RA5:(((LA.drop 23).take 5).map fun m=>N24 (chA m))=((RA.drop 23).take 5):=by kernel_rfl
theorem cut5 {α:Type} (l:List α) (h:l.length=28):l=(l.drop 0).take 6++((l.drop 6).take 6++((l.drop 12).take 5++((l.drop 17).take 6++(l.drop 23).take 5))):=by
  have e:∀ (a b:Nat),l.drop a=(l.drop a).take b++l.drop (a+b):=fun a b=>by rw [← List.drop_drop,List.take_append_drop]
  have k:(l.drop 23).take 5=l.drop 23:=List.take_of_length_le (by simp; omega)
  rw [k,← e 17 6,← e 12 5,← e 6 6,← e 0 6,List.drop_zero]
theorem RA_ok:(LA.map fun m=>N24 (chA m))=RA:=by
  rw [cut5 LA rfl,cut5 RA rfl]
  simp only [List.map_append,RA1,RA2,RA3,RA4,RA5]
noncomputable def TA:List (Pos×Int×Int):=(pA,0,0)::(LA.map chA).zip RA
theorem TA_ok:∀ x ∈ TA,N24 x.1=x.2:=by
  intro x hx
  rcases List.mem_cons.1 hx with rfl | hx
  · exact p0A
  · obtain ⟨i,hi⟩:=List.mem_iff_getElem?.1 hx
    rw [List.getElem?_zip_eq_some] at hi
    have:=congrArg (fun l=>l[i]?) RA_ok
    simp only [List.getElem?_map,hi.2] at this hi
    cases hl:LA[i]? with
    | none=>rw [hl] at this; cases this
    | some m =>
      rw [hl] at this hi
      simp only [Option.map_some,Option.some.injEq] at this hi
      rw [← hi.1,this]
def eqP (p q:Pos):Bool:=p.board==q.board&&(p.turn==q.turn&&(p.passing==q.passing&&(p.half==q.half&&(p.full==q.full&&(p.variant==q.variant&&(p.promoted==q.promoted&&(p.pockets==q.pockets&&(p.rooks==q.rooks&&p.checks==q.checks))))))))
theorem eqP_eq {p q:Pos} (h:eqP p q=true):p=q:=by
  unfold eqP at h
  simp only [Bool.and_eq_true,beq_iff_eq] at h
  obtain ⟨h1,h2,h3,h4,h5,h6,h7,h8,h9,h0⟩:=h
  cases p; cases q
  simp only at *
  subst_vars
  rfl
noncomputable def find (p:Pos):List (Pos×Int×Int)→Option (Int×Int)
  | []=>none
  | x::l=>match eqP x.1 p with
    | true=>some x.2
    | false=>find p l
theorem find_mem {p:Pos} {r:Int×Int}:∀ {l:List (Pos×Int×Int)},find p l=some r→(p,r) ∈ l
  | x::l,h=>by
    unfold find at h
    split at h
    · rename_i e
      cases h
      rw [← eqP_eq e]
      exact List.mem_cons_self
    · exact List.mem_cons_of_mem _ (find_mem h)
noncomputable def G24A (a:Pos):Tr AV:=match find a TA with
  | some r=>gdv (posIB a) ((dR .u8 .u8).res r)
  | none=>.fail
noncomputable def G18A (a:Pos):Tr AV:=match eqP a pA with
  | true=>gdv (posIB a) ((dL .mv).res LA)
  | false=>.fail
theorem at24A (a:Pos):At0 Pz 24 [Pos.av a] (G24A a):=by
  unfold G24A
  split
  · rename_i r e
    have:=TA_ok _ (find_mem e)
    simp only at this
    rw [← this]
    exact at_gd fun h=>P24 a (t24 (posI_of h))
  · intro u hu; cases hu
theorem at18A (a:Pos):At0 Pz 18 [Pos.av a] (G18A a):=by
  unfold G18A
  split
  · rename_i e
    rw [← LA_ok,← eqP_eq e]
    exact at_gd fun h=>P18 a (t18 (posI_of h))
  · intro u hu; cases hu
noncomputable def B9:Base:=baseOf Pz (fun _ _=>[]) [(22,g2 dPos dMv fun a b=>gdv (posIB a) ((d2 dPos dB).res (N22 a b))),(24,g1 dPos G24A),(18,g1 dPos G18A),(15,G15),(7,G7),(110,G110)] [] []
theorem hB9:BOk B9:=base_ok named_z ⟨sound2 fun a b=>at_gd fun h=>P22 a b (move_all (posI_of h) b).1,sound1 at24A,sound1 at18A,s15,s7,s110,trivial⟩ trivial trivial
def isTr:Option AV→Bool
  | some (.bool b) | some (.cbool b)=>b
  | _=>false
theorem isTr_dec {o:Option AV} (h:isTr o=true):∃ v,o=some v∧dB.dec v=some true:=by
  unfold isTr at h
  split at h
  · subst h; exact ⟨_,rfl,rfl⟩
  · subst h; exact ⟨_,rfl,rfl⟩
  · cases h
theorem Q9:isTr (evPure B9 80 9 []).get=true:=by kernel_rfl
theorem P9:PS Pz 9 [] (dB.res true):=by
  obtain ⟨v,h1,h2⟩:=isTr_dec Q9
  exact ps_of hB9 h1 dB h2
end Kz
end
section
namespace Kz
open Go Go.RowKit Go.Proofs
set_option maxRecDepth 100000
set_option maxHeartbeats 4000000
noncomputable def K8:List (Nat×Nat×List (Nat×List Nat)):=[(8,12,[(0,[0]),(1,[0,4]),(2,[2]),(3,[0,8]),(4,[2]),(5,[2])])]
noncomputable def B8:Base:=baseOf Pz (fun f i=>lkC f i K8) [] [] []
theorem hB8:BOk B8:=base_ok named_z trivial trivial trivial
noncomputable def N8 (a:Int):Int:=(bif decide (a > 20000) then (wr .i64 (a - 1)) else (bif decide (a < -20000) then (wr .i64 (a+1)) else (a)))
noncomputable def ok8 (a:Int):Bool:=true
theorem P8 (a:Int) (h:ok8 a=true):PS Pz 8 [.int .i64 a] ((dI .i64).res (N8 a)):=ps_sum (n:=14) hB8 (by kernel_rfl) (by kernel_rfl) (by kernel_rfl) h
noncomputable def G8:List AV→Tr AV:=g1 (dI .i64) (fun a=>.ret ((dI .i64).res (N8 a)))
theorem s8:Sound Pz 8 G8:=sound1 fun a=>at_rt (P8 a rfl)
end Kz
end
