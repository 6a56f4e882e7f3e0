/- Part 5 of the texts under the proof: an abstract interpreter,the summaries of functions,plain laws. -/
import Derived.Test.YteikjjgonhlndaaGreatDoorP4
import Derived.Shelf.SlicesE.Clone
import Derived.Shelf.SlicesQ.IndexFunc
import Derived.Sort.WalkB12
import Derived.Shelf.SlicesQ.Load
import Derived.Lib.SliceRun
import Derived.Lib.SlKept
import Derived.Lib.Hide
import Derived.Shelf.SlicesE.DeleteFunc
import Derived.Sort.Lot0
import Derived.Test.YteikjjgonhlndaaGreatDoorProg
import Derived.Sort.Grow
import Derived.Sort.WalkB2
import Derived.Deep.LoopGhost
import Derived.Deep.QuietTactic
import Derived.Shelf.RegionOpenPlain
import Derived.Lib.SlicesMore
import Derived.Deep.Cut
set_option linter.unusedSectionVars false
set_option linter.unusedVariables false
set_option linter.unusedSimpArgs false
set_option linter.unnecessarySimpa false
section
namespace Kz
open Go Go.RowKit Go.Proofs
set_option maxRecDepth 100000
set_option maxHeartbeats 4000000
noncomputable def K22:List (Nat×Nat×List (Nat×List Nat)):=[(22,48,[(0,[2,3,4]),(1,[2,3,4,13]),(2,[4,5]),(3,[4,6]),(4,[4,6,37,38]),(5,[4,6,37,38,39]),(6,[4,6,8,37,38]),(7,[4,6,37,38]),(8,[4,6,37,38]),(9,[4,5])]),(46,156,[(0,[0,2]),(1,[0,2,14]),(2,[0,2]),(3,[0,2]),(4,[0,2,48]),(5,[]),(6,[0,2,64]),(7,[0,2,3,4]),(8,[0,2,3,4]),(9,[]),(10,[0,2,119]),(11,[0,2]),(12,[])]),(47,188,[(0,(1::(rn 14 6 (rn 99 11 (rn 163 8 []))))),(1,(1::20::(rn 99 11 (rn 163 8 [])))),(2,(1::2::(rn 99 11 (rn 163 8 [])))),(3,(1::2::26::(rn 99 11 (rn 163 8 [])))),(4,[1,2,4]),(5,[1,4,47]),(6,[1,4]),(7,[]),(8,(1::2::80::(rn 99 11 (rn 163 8 [])))),(9,(1::2::6::(rn 99 11 (rn 163 8 [])))),(10,(1::2::6::110::(rn 163 8 []))),(11,(1::2::6::(rn 163 8 []))),(12,(1::2::(rn 163 8 []))),(13,(1::2::(rn 163 8 []))),(14,(1::2::(rn 163 8 []))),(15,[1,171]),(16,[])]),(48,41,[(0,[0,16]),(1,[0,28,29,30]),(2,[0,28,29,30,31]),(3,[0,3,28,29,30]),(4,[0,28,29,30]),(5,[0,28,29,30])]),(49,121,[(0,(0::18::54::55::(rn 70 16 (89::90::(rn 93 6 (rn 101 10 [])))))),(1,(0::54::55::(rn 70 16 (89::90::(rn 93 6 (rn 101 10 [])))))),(2,(0::2::54::55::(rn 70 16 (89::90::(rn 93 6 (rn 101 10 [])))))),(3,(0::2::31::54::55::(rn 70 16 (89::90::(rn 93 6 (rn 101 10 [])))))),(4,(0::2::54::55::(rn 70 16 (89::90::(rn 93 6 (rn 101 10 [])))))),(5,(0::2::3::54::55::(rn 70 16 (89::90::(rn 93 6 (rn 101 10 [])))))),(6,(0::2::3::46::47::54::55::(rn 70 16 (89::90::(rn 93 6 (rn 101 10 [])))))),(7,(0::2::3::46::47::48::54::55::(rn 70 16 (89::90::(rn 93 6 (rn 101 10 [])))))),(8,(0::(rn 2 4 (46::47::54::55::(rn 70 16 (89::90::(rn 93 6 (rn 101 10 [])))))))),(9,(0::(rn 2 4 (46::47::54::55::56::(rn 70 16 (89::90::(rn 93 6 (rn 101 10 [])))))))),(10,(0::2::3::4::6::46::47::54::55::(rn 70 16 (89::90::(rn 93 6 (rn 101 10 [])))))),(11,(0::2::3::4::6::7::46::47::54::55::(rn 70 16 (89::90::(rn 93 6 (rn 101 10 [])))))),(12,(0::2::3::4::46::47::54::55::(rn 70 16 (89::90::(rn 93 6 (rn 101 11 [])))))),(13,(0::2::3::46::47::54::55::(rn 70 16 (89::90::(rn 93 6 (rn 101 10 [])))))),(14,(0::2::3::46::47::54::55::(rn 70 16 (89::90::(rn 93 6 (rn 101 10 []))))))]),(50,112,[(0,(0::(rn 12 6 (rn 20 26 (rn 64 9 []))))),(1,(0::46::(rn 64 9 []))),(2,(0::2::(rn 64 9 []))),(3,[0,73]),(4,[0,3]),(5,[0,3,106]),(6,[])]),(51,42,[(0,(0::(rn 16 5 []))),(1,[0,21]),(2,[0]),(3,[0,31]),(4,[])]),(52,59,[(0,(0::(rn 26 8 (rn 36 10 [])))),(1,(0::2::(rn 26 8 (rn 36 10 [])))),(2,[0,2,46]),(3,[])]),(102,14,[(0,[0,1]),(1,[3])]),(105,26,[(0,[0]),(1,[0,8]),(2,[2]),(3,[2])])]
noncomputable def B22_1:Base:=baseOf Pz (fun f i=>lkC f i K22) [(109,G109),(45,G45),(41,G41),(40,G40),(66,G66),(91,G91),(99,G99),(100,G100),(101,G101),(103,G103),(65,G65),(104,G104),(106,G106),(107,G107),(108,G108)] [] []
theorem hB22_1:BOk B22_1:=base_ok named_z ⟨s109,s45,s41,s40,s66,s91,s99,s100,s101,s103,s65,s104,s106,s107,s108,trivial⟩ trivial trivial
noncomputable def A22_1 (p1:Pos) (p2:Mv) (p3:Pos) (p4:Pos) (p5:Mv) (p6:Int):List AV:=[AV.ptr 3 0]
noncomputable def H22_1 (p1:Pos) (p2:Mv) (p3:Pos) (p4:Pos) (p5:Mv) (p6:Int):Hp:=Hp.mk [(pc p1 []),[AV.int .i8 p2.frm,AV.int .i8 p2.to,AV.int .u8 p2.pro,AV.int .u8 p2.drp,AV.bool p2.cas],[AV.int .u8 0,AV.ints .u8 64 (li (List.replicate 64 0)),AV.u64 0,AV.ints .u8 12 (li [0,0,0,0,0,0,0,0,0,0,0,0]),AV.int .u8 0,AV.ints .i8 4 (li [0,0,0,0]),AV.int .i8 0,AV.ints .u8 2 (li [0,0]),AV.int .i64 0,AV.int .i64 0],(pc p3 (pc p4 [AV.int .i8 p5.frm,AV.int .i8 p5.to,AV.int .u8 p5.pro,AV.int .u8 p5.drp,AV.bool p5.cas,AV.int .i64 p6]))] [] [] 0 0 0
noncomputable def O22_1 (p1:Pos) (p2:Mv) (p3:Pos) (p4:Pos) (p5:Mv) (p6:Int) (y:(Pos)):FRes := .ret (AV.tuple []) (Hp.mk [(pc p1 []),[AV.int .i8 p2.frm,AV.int .i8 p2.to,AV.int .u8 p2.pro,AV.int .u8 p2.drp,AV.bool p2.cas],[AV.int .u8 0,AV.ints .u8 64 (li (List.replicate 64 0)),AV.u64 0,AV.ints .u8 12 (li [0,0,0,0,0,0,0,0,0,0,0,0]),AV.int .u8 0,AV.ints .i8 4 (li [0,0,0,0]),AV.int .i8 0,AV.ints .u8 2 (li [0,0]),AV.int .i64 0,AV.int .i64 0],(pc y (pc p4 [AV.int .i8 p5.frm,AV.int .i8 p5.to,AV.int .u8 p5.pro,AV.int .u8 p5.drp,AV.bool p5.cas,AV.int .i64 p6]))] [] [] 0 0 0)
noncomputable def vF22_1 (p1:Pos) (p2:Mv) (p3:Pos) (p4:Pos) (p5:Mv) (p6:Int):(Pos):=(bif p5.cas then (Pos.mk p3.variant ((((p3.board.set (scale 1 p5.frm).toNat 0).set (scale 1 p5.to).toNat 0).set (scale 1 (N99 p4 p5).fst).toNat (p4.board.getD (scale 1 p5.frm).toNat 0)).set (scale 1 (N99 p4 p5).snd.fst).toNat (p4.board.getD (scale 1 p5.to).toNat 0)) p3.promoted p3.pockets p3.turn p3.rooks p3.passing p3.checks p3.half p3.full) else (bif p5.drp != 0 then (Pos.mk (N100 p3 p3.turn p5.drp).fst.variant ((N100 p3 p3.turn p5.drp).fst.board.set (scale 1 p5.to).toNat (N101 (N100 p3 p3.turn p5.drp).fst.turn p5.drp)) (N100 p3 p3.turn p5.drp).fst.promoted (N100 p3 p3.turn p5.drp).fst.pockets (N100 p3 p3.turn p5.drp).fst.turn (N100 p3 p3.turn p5.drp).fst.rooks (N100 p3 p3.turn p5.drp).fst.passing (N100 p3 p3.turn p5.drp).fst.checks (N100 p3 p3.turn p5.drp).fst.half (N100 p3 p3.turn p5.drp).fst.full) else (bif decide (p6 ≥ 0) then (bif p5.pro != 0 then (Pos.mk p3.variant ((((p3.board.set (scale 1 p6).toNat 0).set (scale 1 p5.frm).toNat 0).set (scale 1 p5.to).toNat (p4.board.getD (scale 1 p5.frm).toNat 0)).set (scale 1 p5.to).toNat (N101 p3.turn p5.pro)) p3.promoted p3.pockets p3.turn p3.rooks p3.passing p3.checks p3.half p3.full) else (Pos.mk p3.variant (((p3.board.set (scale 1 p6).toNat 0).set (scale 1 p5.frm).toNat 0).set (scale 1 p5.to).toNat (p4.board.getD (scale 1 p5.frm).toNat 0)) p3.promoted p3.pockets p3.turn p3.rooks p3.passing p3.checks p3.half p3.full)) else (bif p5.pro != 0 then (Pos.mk p3.variant (((p3.board.set (scale 1 p5.frm).toNat 0).set (scale 1 p5.to).toNat (p4.board.getD (scale 1 p5.frm).toNat 0)).set (scale 1 p5.to).toNat (N101 p3.turn p5.pro)) p3.promoted p3.pockets p3.turn p3.rooks p3.passing p3.checks p3.half p3.full) else (Pos.mk p3.variant ((p3.board.set (scale 1 p5.frm).toNat 0).set (scale 1 p5.to).toNat (p4.board.getD (scale 1 p5.frm).toNat 0)) p3.promoted p3.pockets p3.turn p3.rooks p3.passing p3.checks p3.half p3.full)))))
noncomputable def okF22_1 (p1:Pos) (p2:Mv) (p3:Pos) (p4:Pos) (p5:Mv) (p6:Int):Bool:=(bif p5.cas then (ok99 (p4) (p5)&&(decide (0≤p5.frm)&&decide (p5.frm < Int.ofNat 64)&&(decide (0≤p5.to)&&decide (p5.to < Int.ofNat 64)&&(decide (0≤p5.frm)&&decide (p5.frm < Int.ofNat 64)&&(decide (0≤p5.to)&&decide (p5.to < Int.ofNat 64)&&(decide (0≤(N99 p4 p5).fst)&&decide ((N99 p4 p5).fst < Int.ofNat 64)&&(decide (0≤(N99 p4 p5).snd.fst)&&decide ((N99 p4 p5).snd.fst < Int.ofNat 64)&&true))))))) else (bif p5.drp != 0 then (ok100 (p3) (p3.turn) (p5.drp)&&(decide (0≤p5.to)&&decide (p5.to < Int.ofNat 64)&&true)) else (bif decide (p6 ≥ 0) then (decide (0≤p6)&&decide (p6 < Int.ofNat 64)&&(decide (0≤p5.frm)&&decide (p5.frm < Int.ofNat 64)&&(decide (0≤p5.frm)&&decide (p5.frm < Int.ofNat 64)&&(decide (0≤p5.to)&&decide (p5.to < Int.ofNat 64)&&(bif p5.pro != 0 then (decide (0≤p5.to)&&decide (p5.to < Int.ofNat 64)&&true) else true))))) else (decide (0≤p5.frm)&&decide (p5.frm < Int.ofNat 64)&&(decide (0≤p5.frm)&&decide (p5.frm < Int.ofNat 64)&&(decide (0≤p5.to)&&decide (p5.to < Int.ofNat 64)&&(bif p5.pro != 0 then (decide (0≤p5.to)&&decide (p5.to < Int.ofNat 64)&&true) else true)))))))
abbrev DF22_1 {α:Type} (k:Pos→Mv→Pos→Pos→Mv→Int→α) (s:St):α:=wP s 0 fun q0=>wP s 3 fun q3=>wM s 1 fun q1=>k q0 q1 q3 (Kz.Pos.mk (tI (tH s 3 10)) (tN (tH s 3 11)) (tU (tH s 3 12)) (tN (tH s 3 13)) (tI (tH s 3 14)) (tN (tH s 3 15)) (tI (tH s 3 16)) (tN (tH s 3 17)) (tI (tH s 3 18)) (tI (tH s 3 19))) (Kz.Mv.mk (tI (tH s 3 20)) (tI (tH s 3 21)) (tI (tH s 3 22)) (tI (tH s 3 23)) (tB (tH s 3 24))) (tI (tH s 3 25))
theorem PF22_1 (p1:Pos) (p2:Mv) (p3:Pos) (p4:Pos) (p5:Mv) (p6:Int) (h:okF22_1 p1 p2 p3 p4 p5 p6=true):FSpec Pz 46 (A22_1 p1 p2 p3 p4 p5 p6) (H22_1 p1 p2 p3 p4 p5 p6) (O22_1 p1 p2 p3 p4 p5 p6 (vF22_1 p1 p2 p3 p4 p5 p6))∧∃ fn,Pz.funcs[46]?=some fn∧fn.body.isSome=true:=fs_sumd (n:=14) (O:=O22_1 p1 p2 p3 p4 p5 p6) hB22_1 (fun o=>match o with | .ret v h=>(let s:St:=⟨[v],h⟩; wP s 3 fun q3=>some q3) | _=>none) (fun _=>rfl) (by kernel_rfl) (by kernel_rfl) (by kernel_rfl) (by kernel_rfl) h
noncomputable def FF22_1 (xs:List AV) (h:Hp):Tr FRes:=DF22_1 (fun p1 p2 p3 p4 p5 p6=>fk xs h (A22_1 p1 p2 p3 p4 p5 p6) (H22_1 p1 p2 p3 p4 p5 p6) (okF22_1 p1 p2 p3 p4 p5 p6) (O22_1 p1 p2 p3 p4 p5 p6) (vF22_1 p1 p2 p3 p4 p5 p6)) ⟨xs,h⟩
theorem sFF22_1:FSound Pz 46 FF22_1:=fun _ _ _ h=>fk_ok (PF22_1 _ _ _ _ _ _) h
noncomputable def B22_2:Base:=baseOf Pz (fun f i=>lkC f i K22) [(109,G109),(45,G45),(41,G41),(40,G40),(66,G66),(91,G91),(99,G99),(100,G100),(101,G101),(103,G103),(65,G65),(104,G104),(106,G106),(107,G107),(108,G108)] [] [(46,FF22_1)]
theorem hB22_2:BOk B22_2:=base_ok named_z ⟨s109,s45,s41,s40,s66,s91,s99,s100,s101,s103,s65,s104,s106,s107,s108,trivial⟩ trivial ⟨sFF22_1,trivial⟩
noncomputable def A22_2 (p1:Pos) (p2:Mv) (p3:Pos) (p4:Pos) (p5:Mv) (p6:Int):List AV:=[AV.ptr 3 0]
noncomputable def H22_2 (p1:Pos) (p2:Mv) (p3:Pos) (p4:Pos) (p5:Mv) (p6:Int):Hp:=Hp.mk [(pc p1 []),[AV.int .i8 p2.frm,AV.int .i8 p2.to,AV.int .u8 p2.pro,AV.int .u8 p2.drp,AV.bool p2.cas],[AV.int .u8 0,AV.ints .u8 64 (li (List.replicate 64 0)),AV.u64 0,AV.ints .u8 12 (li [0,0,0,0,0,0,0,0,0,0,0,0]),AV.int .u8 0,AV.ints .i8 4 (li [0,0,0,0]),AV.int .i8 0,AV.ints .u8 2 (li [0,0]),AV.int .i64 0,AV.int .i64 0],(pc p3 (pc p4 [AV.int .i8 p5.frm,AV.int .i8 p5.to,AV.int .u8 p5.pro,AV.int .u8 p5.drp,AV.bool p5.cas,AV.int .i64 p6]))] [] [] 0 0 0
noncomputable def O22_2 (p1:Pos) (p2:Mv) (p3:Pos) (p4:Pos) (p5:Mv) (p6:Int) (y:(Pos)):FRes := .ret (AV.tuple []) (Hp.mk [(pc p1 []),[AV.int .i8 p2.frm,AV.int .i8 p2.to,AV.int .u8 p2.pro,AV.int .u8 p2.drp,AV.bool p2.cas],[AV.int .u8 0,AV.ints .u8 64 (li (List.replicate 64 0)),AV.u64 0,AV.ints .u8 12 (li [0,0,0,0,0,0,0,0,0,0,0,0]),AV.int .u8 0,AV.ints .i8 4 (li [0,0,0,0]),AV.int .i8 0,AV.ints .u8 2 (li [0,0]),AV.int .i64 0,AV.int .i64 0],(pc y (pc p4 [AV.int .i8 p5.frm,AV.int .i8 p5.to,AV.int .u8 p5.pro,AV.int .u8 p5.drp,AV.bool p5.cas,AV.int .i64 p6]))] [] [] 0 0 0)
noncomputable def vF22_2 (p1:Pos) (p2:Mv) (p3:Pos) (p4:Pos) (p5:Mv) (p6:Int):(Pos):=(bif p3.variant != 2 then (p3) else (bif p5.drp != 0 then (p3) else (bif p5.cas then (bif p4.promoted >>> (BitVec.ofInt 64 (wr .i64 p5.to)).toNat&&&1#64==1#64 then (Pos.mk p3.variant p3.board (p3.promoted &&& ~~~(1#64 <<< (BitVec.ofInt 64 p5.to).toNat)|||1#64 <<< (BitVec.ofInt 64 (N99 p4 p5).snd.fst).toNat) p3.pockets p3.turn p3.rooks p3.passing p3.checks p3.half p3.full) else (p3)) else (bif decide (p6 ≥ 0) then (bif p4.promoted >>> (BitVec.ofInt 64 p6).toNat&&&1#64==1#64 then (bif p4.board.getD (scale 1 p6).toNat 0 != 0 then (bif p5.pro != 0 then (Pos.mk (N103 p3 p3.turn 1).variant (N103 p3 p3.turn 1).board ((N103 p3 p3.turn 1).promoted &&& ~~~(1#64 <<< (BitVec.ofInt 64 p6).toNat) &&& ~~~(1#64 <<< (BitVec.ofInt 64 p5.frm).toNat)|||1#64 <<< (BitVec.ofInt 64 p5.to).toNat) (N103 p3 p3.turn 1).pockets (N103 p3 p3.turn 1).turn (N103 p3 p3.turn 1).rooks (N103 p3 p3.turn 1).passing (N103 p3 p3.turn 1).checks (N103 p3 p3.turn 1).half (N103 p3 p3.turn 1).full) else (bif p4.promoted >>> (BitVec.ofInt 64 (wr .i64 p5.frm)).toNat&&&1#64==1#64 then (Pos.mk (N103 p3 p3.turn 1).variant (N103 p3 p3.turn 1).board ((N103 p3 p3.turn 1).promoted &&& ~~~(1#64 <<< (BitVec.ofInt 64 p6).toNat) &&& ~~~(1#64 <<< (BitVec.ofInt 64 p5.frm).toNat)|||1#64 <<< (BitVec.ofInt 64 p5.to).toNat) (N103 p3 p3.turn 1).pockets (N103 p3 p3.turn 1).turn (N103 p3 p3.turn 1).rooks (N103 p3 p3.turn 1).passing (N103 p3 p3.turn 1).checks (N103 p3 p3.turn 1).half (N103 p3 p3.turn 1).full) else (Pos.mk (N103 p3 p3.turn 1).variant (N103 p3 p3.turn 1).board ((N103 p3 p3.turn 1).promoted &&& ~~~(1#64 <<< (BitVec.ofInt 64 p6).toNat) &&& ~~~(1#64 <<< (BitVec.ofInt 64 p5.frm).toNat)) (N103 p3 p3.turn 1).pockets (N103 p3 p3.turn 1).turn (N103 p3 p3.turn 1).rooks (N103 p3 p3.turn 1).passing (N103 p3 p3.turn 1).checks (N103 p3 p3.turn 1).half (N103 p3 p3.turn 1).full))) else (bif p5.pro != 0 then (Pos.mk (N103 p3 p3.turn (N91 (p4.board.getD (scale 1 p6).toNat 0))).variant (N103 p3 p3.turn (N91 (p4.board.getD (scale 1 p6).toNat 0))).board ((N103 p3 p3.turn (N91 (p4.board.getD (scale 1 p6).toNat 0))).promoted &&& ~~~(1#64 <<< (BitVec.ofInt 64 p6).toNat) &&& ~~~(1#64 <<< (BitVec.ofInt 64 p5.frm).toNat)|||1#64 <<< (BitVec.ofInt 64 p5.to).toNat) (N103 p3 p3.turn (N91 (p4.board.getD (scale 1 p6).toNat 0))).pockets (N103 p3 p3.turn (N91 (p4.board.getD (scale 1 p6).toNat 0))).turn (N103 p3 p3.turn (N91 (p4.board.getD (scale 1 p6).toNat 0))).rooks (N103 p3 p3.turn (N91 (p4.board.getD (scale 1 p6).toNat 0))).passing (N103 p3 p3.turn (N91 (p4.board.getD (scale 1 p6).toNat 0))).checks (N103 p3 p3.turn (N91 (p4.board.getD (scale 1 p6).toNat 0))).half (N103 p3 p3.turn (N91 (p4.board.getD (scale 1 p6).toNat 0))).full) else (bif p4.promoted >>> (BitVec.ofInt 64 (wr .i64 p5.frm)).toNat&&&1#64==1#64 then (Pos.mk (N103 p3 p3.turn (N91 (p4.board.getD (scale 1 p6).toNat 0))).variant (N103 p3 p3.turn (N91 (p4.board.getD (scale 1 p6).toNat 0))).board ((N103 p3 p3.turn (N91 (p4.board.getD (scale 1 p6).toNat 0))).promoted &&& ~~~(1#64 <<< (BitVec.ofInt 64 p6).toNat) &&& ~~~(1#64 <<< (BitVec.ofInt 64 p5.frm).toNat)|||1#64 <<< (BitVec.ofInt 64 p5.to).toNat) (N103 p3 p3.turn (N91 (p4.board.getD (scale 1 p6).toNat 0))).pockets (N103 p3 p3.turn (N91 (p4.board.getD (scale 1 p6).toNat 0))).turn (N103 p3 p3.turn (N91 (p4.board.getD (scale 1 p6).toNat 0))).rooks (N103 p3 p3.turn (N91 (p4.board.getD (scale 1 p6).toNat 0))).passing (N103 p3 p3.turn (N91 (p4.board.getD (scale 1 p6).toNat 0))).checks (N103 p3 p3.turn (N91 (p4.board.getD (scale 1 p6).toNat 0))).half (N103 p3 p3.turn (N91 (p4.board.getD (scale 1 p6).toNat 0))).full) else (Pos.mk (N103 p3 p3.turn (N91 (p4.board.getD (scale 1 p6).toNat 0))).variant (N103 p3 p3.turn (N91 (p4.board.getD (scale 1 p6).toNat 0))).board ((N103 p3 p3.turn (N91 (p4.board.getD (scale 1 p6).toNat 0))).promoted &&& ~~~(1#64 <<< (BitVec.ofInt 64 p6).toNat) &&& ~~~(1#64 <<< (BitVec.ofInt 64 p5.frm).toNat)) (N103 p3 p3.turn (N91 (p4.board.getD (scale 1 p6).toNat 0))).pockets (N103 p3 p3.turn (N91 (p4.board.getD (scale 1 p6).toNat 0))).turn (N103 p3 p3.turn (N91 (p4.board.getD (scale 1 p6).toNat 0))).rooks (N103 p3 p3.turn (N91 (p4.board.getD (scale 1 p6).toNat 0))).passing (N103 p3 p3.turn (N91 (p4.board.getD (scale 1 p6).toNat 0))).checks (N103 p3 p3.turn (N91 (p4.board.getD (scale 1 p6).toNat 0))).half (N103 p3 p3.turn (N91 (p4.board.getD (scale 1 p6).toNat 0))).full)))) else (bif p5.pro != 0 then (Pos.mk (N103 p3 p3.turn (N91 (p4.board.getD (scale 1 p6).toNat 0))).variant (N103 p3 p3.turn (N91 (p4.board.getD (scale 1 p6).toNat 0))).board ((N103 p3 p3.turn (N91 (p4.board.getD (scale 1 p6).toNat 0))).promoted &&& ~~~(1#64 <<< (BitVec.ofInt 64 p6).toNat) &&& ~~~(1#64 <<< (BitVec.ofInt 64 p5.frm).toNat)|||1#64 <<< (BitVec.ofInt 64 p5.to).toNat) (N103 p3 p3.turn (N91 (p4.board.getD (scale 1 p6).toNat 0))).pockets (N103 p3 p3.turn (N91 (p4.board.getD (scale 1 p6).toNat 0))).turn (N103 p3 p3.turn (N91 (p4.board.getD (scale 1 p6).toNat 0))).rooks (N103 p3 p3.turn (N91 (p4.board.getD (scale 1 p6).toNat 0))).passing (N103 p3 p3.turn (N91 (p4.board.getD (scale 1 p6).toNat 0))).checks (N103 p3 p3.turn (N91 (p4.board.getD (scale 1 p6).toNat 0))).half (N103 p3 p3.turn (N91 (p4.board.getD (scale 1 p6).toNat 0))).full) else (bif p4.promoted >>> (BitVec.ofInt 64 (wr .i64 p5.frm)).toNat&&&1#64==1#64 then (Pos.mk (N103 p3 p3.turn (N91 (p4.board.getD (scale 1 p6).toNat 0))).variant (N103 p3 p3.turn (N91 (p4.board.getD (scale 1 p6).toNat 0))).board ((N103 p3 p3.turn (N91 (p4.board.getD (scale 1 p6).toNat 0))).promoted &&& ~~~(1#64 <<< (BitVec.ofInt 64 p6).toNat) &&& ~~~(1#64 <<< (BitVec.ofInt 64 p5.frm).toNat)|||1#64 <<< (BitVec.ofInt 64 p5.to).toNat) (N103 p3 p3.turn (N91 (p4.board.getD (scale 1 p6).toNat 0))).pockets (N103 p3 p3.turn (N91 (p4.board.getD (scale 1 p6).toNat 0))).turn (N103 p3 p3.turn (N91 (p4.board.getD (scale 1 p6).toNat 0))).rooks (N103 p3 p3.turn (N91 (p4.board.getD (scale 1 p6).toNat 0))).passing (N103 p3 p3.turn (N91 (p4.board.getD (scale 1 p6).toNat 0))).checks (N103 p3 p3.turn (N91 (p4.board.getD (scale 1 p6).toNat 0))).half (N103 p3 p3.turn (N91 (p4.board.getD (scale 1 p6).toNat 0))).full) else (Pos.mk (N103 p3 p3.turn (N91 (p4.board.getD (scale 1 p6).toNat 0))).variant (N103 p3 p3.turn (N91 (p4.board.getD (scale 1 p6).toNat 0))).board ((N103 p3 p3.turn (N91 (p4.board.getD (scale 1 p6).toNat 0))).promoted &&& ~~~(1#64 <<< (BitVec.ofInt 64 p6).toNat) &&& ~~~(1#64 <<< (BitVec.ofInt 64 p5.frm).toNat)) (N103 p3 p3.turn (N91 (p4.board.getD (scale 1 p6).toNat 0))).pockets (N103 p3 p3.turn (N91 (p4.board.getD (scale 1 p6).toNat 0))).turn (N103 p3 p3.turn (N91 (p4.board.getD (scale 1 p6).toNat 0))).rooks (N103 p3 p3.turn (N91 (p4.board.getD (scale 1 p6).toNat 0))).passing (N103 p3 p3.turn (N91 (p4.board.getD (scale 1 p6).toNat 0))).checks (N103 p3 p3.turn (N91 (p4.board.getD (scale 1 p6).toNat 0))).half (N103 p3 p3.turn (N91 (p4.board.getD (scale 1 p6).toNat 0))).full)))) else (bif p5.pro != 0 then (Pos.mk p3.variant p3.board (p3.promoted &&& ~~~(1#64 <<< (BitVec.ofInt 64 p5.frm).toNat)|||1#64 <<< (BitVec.ofInt 64 p5.to).toNat) p3.pockets p3.turn p3.rooks p3.passing p3.checks p3.half p3.full) else (bif p4.promoted >>> (BitVec.ofInt 64 (wr .i64 p5.frm)).toNat&&&1#64==1#64 then (Pos.mk p3.variant p3.board (p3.promoted &&& ~~~(1#64 <<< (BitVec.ofInt 64 p5.frm).toNat)|||1#64 <<< (BitVec.ofInt 64 p5.to).toNat) p3.pockets p3.turn p3.rooks p3.passing p3.checks p3.half p3.full) else (Pos.mk p3.variant p3.board (p3.promoted &&& ~~~(1#64 <<< (BitVec.ofInt 64 p5.frm).toNat)) p3.pockets p3.turn p3.rooks p3.passing p3.checks p3.half p3.full)))))))
noncomputable def okF22_2 (p1:Pos) (p2:Mv) (p3:Pos) (p4:Pos) (p5:Mv) (p6:Int):Bool:=(bif p3.variant != 2 then true else (bif p5.drp != 0 then true else (bif p5.cas then (ok99 (p4) (p5)&&true) else (bif decide (p6 ≥ 0) then (decide (0≤p6)&&decide (p6 < Int.ofNat 64)&&(bif p4.promoted >>> (BitVec.ofInt 64 p6).toNat&&&1#64==1#64 then (decide (0≤p6)&&decide (p6 < Int.ofNat 64)&&(bif p4.board.getD (scale 1 p6).toNat 0 != 0 then (ok103 (p3) (p3.turn) (1)&&true) else (ok103 (p3) (p3.turn) (N91 (p4.board.getD (scale 1 p6).toNat 0))&&true))) else (ok103 (p3) (p3.turn) (N91 (p4.board.getD (scale 1 p6).toNat 0))&&true))) else true))))
abbrev DF22_2 {α:Type} (k:Pos→Mv→Pos→Pos→Mv→Int→α) (s:St):α:=wP s 0 fun q0=>wP s 3 fun q3=>wM s 1 fun q1=>k q0 q1 q3 (Kz.Pos.mk (tI (tH s 3 10)) (tN (tH s 3 11)) (tU (tH s 3 12)) (tN (tH s 3 13)) (tI (tH s 3 14)) (tN (tH s 3 15)) (tI (tH s 3 16)) (tN (tH s 3 17)) (tI (tH s 3 18)) (tI (tH s 3 19))) (Kz.Mv.mk (tI (tH s 3 20)) (tI (tH s 3 21)) (tI (tH s 3 22)) (tI (tH s 3 23)) (tB (tH s 3 24))) (tI (tH s 3 25))
theorem PF22_2 (p1:Pos) (p2:Mv) (p3:Pos) (p4:Pos) (p5:Mv) (p6:Int) (h:okF22_2 p1 p2 p3 p4 p5 p6=true):FSpec Pz 47 (A22_2 p1 p2 p3 p4 p5 p6) (H22_2 p1 p2 p3 p4 p5 p6) (O22_2 p1 p2 p3 p4 p5 p6 (vF22_2 p1 p2 p3 p4 p5 p6))∧∃ fn,Pz.funcs[47]?=some fn∧fn.body.isSome=true:=fs_sumd (n:=14) (O:=O22_2 p1 p2 p3 p4 p5 p6) hB22_2 (fun o=>match o with | .ret v h=>(let s:St:=⟨[v],h⟩; wP s 3 fun q3=>some q3) | _=>none) (fun _=>rfl) (by kernel_rfl) (by kernel_rfl) (by kernel_rfl) (by kernel_rfl) h
noncomputable def FF22_2 (xs:List AV) (h:Hp):Tr FRes:=DF22_2 (fun p1 p2 p3 p4 p5 p6=>fk xs h (A22_2 p1 p2 p3 p4 p5 p6) (H22_2 p1 p2 p3 p4 p5 p6) (okF22_2 p1 p2 p3 p4 p5 p6) (O22_2 p1 p2 p3 p4 p5 p6) (vF22_2 p1 p2 p3 p4 p5 p6)) ⟨xs,h⟩
theorem sFF22_2:FSound Pz 47 FF22_2:=fun _ _ _ h=>fk_ok (PF22_2 _ _ _ _ _ _) h
noncomputable def B22_3:Base:=baseOf Pz (fun f i=>lkC f i K22) [(109,G109),(45,G45),(41,G41),(40,G40),(66,G66),(91,G91),(99,G99),(100,G100),(101,G101),(103,G103),(65,G65),(104,G104),(106,G106),(107,G107),(108,G108)] [] [(46,FF22_1),(47,FF22_2)]
theorem hB22_3:BOk B22_3:=base_ok named_z ⟨s109,s45,s41,s40,s66,s91,s99,s100,s101,s103,s65,s104,s106,s107,s108,trivial⟩ trivial ⟨sFF22_1,sFF22_2,trivial⟩
noncomputable def S22_3 (p1:(List Int)) (p2:Int) (p3:Pos) (p4:Mv) (p5:Pos) (p6:Mv) (p7:Int) (x:(Int×Pos)):St:=St.mk (AV.ptr 3 0::(an 27 (AV.list (ET.i .i64) p1 Tk.fresh::AV.int .i64 p2::AV.int .i64 x.fst::(an 10 [])))) (Hp.mk [(pc p3 []),[AV.int .i8 p4.frm,AV.int .i8 p4.to,AV.int .u8 p4.pro,AV.int .u8 p4.drp,AV.bool p4.cas],[AV.int .u8 0,AV.ints .u8 64 (li (List.replicate 64 0)),AV.u64 0,AV.ints .u8 12 (li [0,0,0,0,0,0,0,0,0,0,0,0]),AV.int .u8 0,AV.ints .i8 4 (li [0,0,0,0]),AV.int .i8 0,AV.ints .u8 2 (li [0,0]),AV.int .i64 0,AV.int .i64 0],(pc x.snd (pc p5 [AV.int .i8 p6.frm,AV.int .i8 p6.to,AV.int .u8 p6.pro,AV.int .u8 p6.drp,AV.bool p6.cas,AV.int .i64 p7]))] [] [] 0 0 0)
noncomputable def O22_3 (p1:(List Int)) (p2:Int) (p3:Pos) (p4:Mv) (p5:Pos) (p6:Mv) (p7:Int):(Int×Bool×Pos)→Out:=fun y=>.exit 0 (St.mk (AV.ptr 3 0::(an 27 (AV.list (ET.i .i64) p1 Tk.fresh::AV.int .i64 p2::AV.int .i64 y.fst::AV.bool y.snd.fst::(an 9 [])))) (Hp.mk [(pc p3 []),[AV.int .i8 p4.frm,AV.int .i8 p4.to,AV.int .u8 p4.pro,AV.int .u8 p4.drp,AV.bool p4.cas],[AV.int .u8 0,AV.ints .u8 64 (li (List.replicate 64 0)),AV.u64 0,AV.ints .u8 12 (li [0,0,0,0,0,0,0,0,0,0,0,0]),AV.int .u8 0,AV.ints .i8 4 (li [0,0,0,0]),AV.int .i8 0,AV.ints .u8 2 (li [0,0]),AV.int .i64 0,AV.int .i64 0],(pc y.snd.snd (pc p5 [AV.int .i8 p6.frm,AV.int .i8 p6.to,AV.int .u8 p6.pro,AV.int .u8 p6.drp,AV.bool p6.cas,AV.int .i64 p7]))] [] [] 0 0 0))
noncomputable def st22_3 (p1:(List Int)) (p2:Int) (p3:Pos) (p4:Mv) (p5:Pos) (p6:Mv) (p7:Int) (x:(Int×Pos)):Stp (Int×Pos) ((Int×Bool×Pos)):=(bif decide (x.fst < p2) then (Stp.go (wr .i64 (x.fst+1),Pos.mk x.snd.variant (x.snd.board.set (scale 1 (p1.getD x.fst.toNat default)).toNat 0) x.snd.promoted x.snd.pockets x.snd.turn x.snd.rooks x.snd.passing x.snd.checks x.snd.half x.snd.full)) else (Stp.out ((x.fst,decide (x.fst < p2),x.snd))))
noncomputable def okL22_3 (p1:(List Int)) (p2:Int) (p3:Pos) (p4:Mv) (p5:Pos) (p6:Mv) (p7:Int) (x:(Int×Pos)):Bool:=(bif decide (x.fst < p2) then (decide (0≤x.fst)&&decide (x.fst < Int.ofNat p1.length)&&(decide (0≤p1.getD x.fst.toNat default)&&decide (p1.getD x.fst.toNat default < Int.ofNat 64)&&true)) else true)
noncomputable def lp22_3 (p1:(List Int)) (p2:Int) (p3:Pos) (p4:Mv) (p5:Pos) (p6:Mv) (p7:Int) (x:(Int×Pos)):Option ((Int×Bool×Pos)):=itl (fun x=>bif okL22_3 p1 p2 p3 p4 p5 p6 p7 x then st22_3 p1 p2 p3 p4 p5 p6 p7 x else .bad) many x
abbrev D22_3 {α:Type} (k:(List Int)→Int→Pos→Mv→Pos→Mv→Int→(Int×Pos)→α) (s:St):α:=wP s 0 fun q0=>wP s 3 fun q3=>wM s 1 fun q1=>k (tL (ET.i .i64) (tT s 28)) (tI (tT s 29)) q0 q1 (Kz.Pos.mk (tI (tH s 3 10)) (tN (tH s 3 11)) (tU (tH s 3 12)) (tN (tH s 3 13)) (tI (tH s 3 14)) (tN (tH s 3 15)) (tI (tH s 3 16)) (tN (tH s 3 17)) (tI (tH s 3 18)) (tI (tH s 3 19))) (Kz.Mv.mk (tI (tH s 3 20)) (tI (tH s 3 21)) (tI (tH s 3 22)) (tI (tH s 3 23)) (tB (tH s 3 24))) (tI (tH s 3 25)) ((tI (tT s 30)),q3)
theorem L22_3 (p1:(List Int)) (p2:Int) (p3:Pos) (p4:Mv) (p5:Pos) (p6:Mv) (p7:Int) (x:(Int×Pos)) (r:(Int×Bool×Pos)) (h:lp22_3 p1 p2 p3 p4 p5 p6 p7 x=some r):LSpec Pz (bodL Pz 48 2) (S22_3 p1 p2 p3 p4 p5 p6 p7 x) (O22_3 p1 p2 p3 p4 p5 p6 p7 r):=LSpec.smd (m:=12) (fn:=48) hB22_3 (D22_3 fun _ _ _ _ _ _ _ x=>some x) (fun o=>match o with | .exit 0 s=>wP s 3 fun q3=>some ((tI (tT s 30)),(tB (tT s 31)),q3) | _=>none) (fun _=>rfl) (fun _=>by kernel_rfl) (fun _=>by kernel_rfl) (fun _=>by kernel_rfl) (fun _=>by kernel_rfl) many x r h
noncomputable def F22_3 (b:Code) (s:St):Tr Out:=D22_3 (fun p1 p2 p3 p4 p5 p6 p7 x=>lk1 b (bodL Pz 48 2) s (S22_3 p1 p2 p3 p4 p5 p6 p7 x) (lp22_3 p1 p2 p3 p4 p5 p6 p7 x) (O22_3 p1 p2 p3 p4 p5 p6 p7)) s
theorem sF22_3:∀ b,LSound Pz b (F22_3 b):=fun _ _ _ h=>lk1_ok (L22_3 _ _ _ _ _ _ _ _) h
noncomputable def B22_4:Base:=baseOf Pz (fun f i=>lkC f i K22) [(109,G109),(45,G45),(41,G41),(40,G40),(66,G66),(91,G91),(99,G99),(100,G100),(101,G101),(103,G103),(65,G65),(104,G104),(106,G106),(107,G107),(108,G108)] [(48,2,F22_3)] [(46,FF22_1),(47,FF22_2)]
theorem hB22_4:BOk B22_4:=base_ok named_z ⟨s109,s45,s41,s40,s66,s91,s99,s100,s101,s103,s65,s104,s106,s107,s108,trivial⟩ ⟨sF22_3,trivial⟩ ⟨sFF22_1,sFF22_2,trivial⟩
noncomputable def A22_4 (p1:Pos) (p2:Mv) (p3:Pos) (p4:Pos) (p5:Mv) (p6:Int):List AV:=[AV.ptr 3 0]
noncomputable def H22_4 (p1:Pos) (p2:Mv) (p3:Pos) (p4:Pos) (p5:Mv) (p6:Int):Hp:=Hp.mk [(pc p1 []),[AV.int .i8 p2.frm,AV.int .i8 p2.to,AV.int .u8 p2.pro,AV.int .u8 p2.drp,AV.bool p2.cas],[AV.int .u8 0,AV.ints .u8 64 (li (List.replicate 64 0)),AV.u64 0,AV.ints .u8 12 (li [0,0,0,0,0,0,0,0,0,0,0,0]),AV.int .u8 0,AV.ints .i8 4 (li [0,0,0,0]),AV.int .i8 0,AV.ints .u8 2 (li [0,0]),AV.int .i64 0,AV.int .i64 0],(pc p3 (pc p4 [AV.int .i8 p5.frm,AV.int .i8 p5.to,AV.int .u8 p5.pro,AV.int .u8 p5.drp,AV.bool p5.cas,AV.int .i64 p6]))] [] [] 0 0 0
noncomputable def O22_4 (p1:Pos) (p2:Mv) (p3:Pos) (p4:Pos) (p5:Mv) (p6:Int) (y:(Pos)):FRes := .ret (AV.tuple []) (Hp.mk [(pc p1 []),[AV.int .i8 p2.frm,AV.int .i8 p2.to,AV.int .u8 p2.pro,AV.int .u8 p2.drp,AV.bool p2.cas],[AV.int .u8 0,AV.ints .u8 64 (li (List.replicate 64 0)),AV.u64 0,AV.ints .u8 12 (li [0,0,0,0,0,0,0,0,0,0,0,0]),AV.int .u8 0,AV.ints .i8 4 (li [0,0,0,0]),AV.int .i8 0,AV.ints .u8 2 (li [0,0]),AV.int .i64 0,AV.int .i64 0],(pc y (pc p4 [AV.int .i8 p5.frm,AV.int .i8 p5.to,AV.int .u8 p5.pro,AV.int .u8 p5.drp,AV.bool p5.cas,AV.int .i64 p6]))] [] [] 0 0 0)
noncomputable def vF22_4 (p1:Pos) (p2:Mv) (p3:Pos) (p4:Pos) (p5:Mv) (p6:Int):(Pos):=(bif p3.variant != 3 then (p3) else (bif decide (p6 < 0) then (p3) else (((lp22_3 (N65 (N104 p3 (wr .i64 p5.to))) (Int.ofNat (N65 (N104 p3 (wr .i64 p5.to))).length) p1 p2 p4 p5 p6 (0,p3)).getD default).snd.snd)))
noncomputable def okF22_4 (p1:Pos) (p2:Mv) (p3:Pos) (p4:Pos) (p5:Mv) (p6:Int):Bool:=(bif p3.variant != 3 then true else (bif decide (p6 < 0) then true else (ok104 (p3) (wr .i64 p5.to)&&(ok65 (N104 p3 (wr .i64 p5.to))&&((lp22_3 (N65 (N104 p3 (wr .i64 p5.to))) (Int.ofNat (N65 (N104 p3 (wr .i64 p5.to))).length) p1 p2 p4 p5 p6 (0,p3)).isSome&&true)))))
abbrev DF22_4 {α:Type} (k:Pos→Mv→Pos→Pos→Mv→Int→α) (s:St):α:=wP s 0 fun q0=>wP s 3 fun q3=>wM s 1 fun q1=>k q0 q1 q3 (Kz.Pos.mk (tI (tH s 3 10)) (tN (tH s 3 11)) (tU (tH s 3 12)) (tN (tH s 3 13)) (tI (tH s 3 14)) (tN (tH s 3 15)) (tI (tH s 3 16)) (tN (tH s 3 17)) (tI (tH s 3 18)) (tI (tH s 3 19))) (Kz.Mv.mk (tI (tH s 3 20)) (tI (tH s 3 21)) (tI (tH s 3 22)) (tI (tH s 3 23)) (tB (tH s 3 24))) (tI (tH s 3 25))
theorem PF22_4 (p1:Pos) (p2:Mv) (p3:Pos) (p4:Pos) (p5:Mv) (p6:Int) (h:okF22_4 p1 p2 p3 p4 p5 p6=true):FSpec Pz 48 (A22_4 p1 p2 p3 p4 p5 p6) (H22_4 p1 p2 p3 p4 p5 p6) (O22_4 p1 p2 p3 p4 p5 p6 (vF22_4 p1 p2 p3 p4 p5 p6))∧∃ fn,Pz.funcs[48]?=some fn∧fn.body.isSome=true:=fs_sumd (n:=14) (O:=O22_4 p1 p2 p3 p4 p5 p6) hB22_4 (fun o=>match o with | .ret v h=>(let s:St:=⟨[v],h⟩; wP s 3 fun q3=>some q3) | _=>none) (fun _=>rfl) (by kernel_rfl) (by kernel_rfl) (by kernel_rfl) (by kernel_rfl) h
noncomputable def FF22_4 (xs:List AV) (h:Hp):Tr FRes:=DF22_4 (fun p1 p2 p3 p4 p5 p6=>fk xs h (A22_4 p1 p2 p3 p4 p5 p6) (H22_4 p1 p2 p3 p4 p5 p6) (okF22_4 p1 p2 p3 p4 p5 p6) (O22_4 p1 p2 p3 p4 p5 p6) (vF22_4 p1 p2 p3 p4 p5 p6)) ⟨xs,h⟩
theorem sFF22_4:FSound Pz 48 FF22_4:=fun _ _ _ h=>fk_ok (PF22_4 _ _ _ _ _ _) h
noncomputable def B22_6:Base:=baseOf Pz (fun f i=>lkC f i K22) [(109,G109),(45,G45),(41,G41),(40,G40),(66,G66),(91,G91),(99,G99),(100,G100),(101,G101),(103,G103),(65,G65),(104,G104),(106,G106),(107,G107),(108,G108)] [(48,2,F22_3)] [(46,FF22_1),(47,FF22_2),(48,FF22_4)]
theorem hB22_6:BOk B22_6:=base_ok named_z ⟨s109,s45,s41,s40,s66,s91,s99,s100,s101,s103,s65,s104,s106,s107,s108,trivial⟩ ⟨sF22_3,trivial⟩ ⟨sFF22_1,sFF22_2,sFF22_4,trivial⟩
noncomputable def S22_6 (p1:Int) (p2:Int) (p3:(List Int)) (p4:Pos) (p5:Mv) (p6:Pos) (p7:Mv) (p8:Int) (x:(Int×Pos)):St:=St.mk (AV.ptr 3 0::AV.any::AV.int .u8 p1::AV.int .i64 p2::(an 42 (AV.agg [AV.ints .i8 2 p3]::AV.int .i64 x.fst::(an 73 [])))) (Hp.mk [(pc p4 []),[AV.int .i8 p5.frm,AV.int .i8 p5.to,AV.int .u8 p5.pro,AV.int .u8 p5.drp,AV.bool p5.cas],[AV.int .u8 0,AV.ints .u8 64 (li (List.replicate 64 0)),AV.u64 0,AV.ints .u8 12 (li [0,0,0,0,0,0,0,0,0,0,0,0]),AV.int .u8 0,AV.ints .i8 4 (li [0,0,0,0]),AV.int .i8 0,AV.ints .u8 2 (li [0,0]),AV.int .i64 0,AV.int .i64 0],(pc x.snd (pc p6 [AV.int .i8 p7.frm,AV.int .i8 p7.to,AV.int .u8 p7.pro,AV.int .u8 p7.drp,AV.bool p7.cas,AV.int .i64 p8]))] [] [] 0 0 0)
noncomputable def O22_6 (p1:Int) (p2:Int) (p3:(List Int)) (p4:Pos) (p5:Mv) (p6:Pos) (p7:Mv) (p8:Int):(Int×Bool×Pos)→Out:=fun y=>.exit 2 (St.mk (AV.ptr 3 0::AV.any::AV.int .u8 p1::AV.int .i64 p2::(an 42 (AV.agg [AV.ints .i8 2 p3]::AV.int .i64 y.fst::AV.bool y.snd.fst::(an 72 [])))) (Hp.mk [(pc p4 []),[AV.int .i8 p5.frm,AV.int .i8 p5.to,AV.int .u8 p5.pro,AV.int .u8 p5.drp,AV.bool p5.cas],[AV.int .u8 0,AV.ints .u8 64 (li (List.replicate 64 0)),AV.u64 0,AV.ints .u8 12 (li [0,0,0,0,0,0,0,0,0,0,0,0]),AV.int .u8 0,AV.ints .i8 4 (li [0,0,0,0]),AV.int .i8 0,AV.ints .u8 2 (li [0,0]),AV.int .i64 0,AV.int .i64 0],(pc y.snd.snd (pc p6 [AV.int .i8 p7.frm,AV.int .i8 p7.to,AV.int .u8 p7.pro,AV.int .u8 p7.drp,AV.bool p7.cas,AV.int .i64 p8]))] [] [] 0 0 0))
noncomputable def st22_6 (p1:Int) (p2:Int) (p3:(List Int)) (p4:Pos) (p5:Mv) (p6:Pos) (p7:Mv) (p8:Int) (x:(Int×Pos)):Stp (Int×Pos) ((Int×Bool×Pos)):=(bif decide (x.fst < 2) then (bif decide (p3.getD x.fst.toNat 0 < 0) then (Stp.go (wr .i64 (x.fst+1),x.snd)) else (bif decide (p3.getD x.fst.toNat 0 > 7) then (Stp.go (wr .i64 (x.fst+1),x.snd)) else (bif p8==wr .i64 (wr .i64 (56 * wr .i64 p1)+wr .i64 (p3.getD x.fst.toNat 0)) then (Stp.go (wr .i64 (x.fst+1),Pos.mk x.snd.variant x.snd.board x.snd.promoted x.snd.pockets x.snd.turn (x.snd.rooks.set (scale 2 p1+scale 1 x.fst).toNat (-1)) x.snd.passing x.snd.checks x.snd.half x.snd.full)) else (bif p7.drp==0 then (bif wr .i64 p7.frm==wr .i64 (wr .i64 (56 * wr .i64 p1)+wr .i64 (p3.getD x.fst.toNat 0)) then (Stp.go (wr .i64 (x.fst+1),Pos.mk x.snd.variant x.snd.board x.snd.promoted x.snd.pockets x.snd.turn (x.snd.rooks.set (scale 2 p1+scale 1 x.fst).toNat (-1)) x.snd.passing x.snd.checks x.snd.half x.snd.full)) else (bif decide (p2 < 0) then (Stp.go (wr .i64 (x.fst+1),Pos.mk x.snd.variant x.snd.board x.snd.promoted x.snd.pockets x.snd.turn (x.snd.rooks.set (scale 2 p1+scale 1 x.fst).toNat (-1)) x.snd.passing x.snd.checks x.snd.half x.snd.full)) else (bif wr .i64 (p2.tdiv 8) != wr .i64 (7 * wr .i64 p1) then (Stp.go (wr .i64 (x.fst+1),Pos.mk x.snd.variant x.snd.board x.snd.promoted x.snd.pockets x.snd.turn (x.snd.rooks.set (scale 2 p1+scale 1 x.fst).toNat (-1)) x.snd.passing x.snd.checks x.snd.half x.snd.full)) else (bif x.snd.board.getD (scale 1 (wr .i64 (wr .i64 (56 * wr .i64 p1)+wr .i64 (p3.getD x.fst.toNat 0)))).toNat 0 != N101 p1 4 then (Stp.go (wr .i64 (x.fst+1),Pos.mk x.snd.variant x.snd.board x.snd.promoted x.snd.pockets x.snd.turn (x.snd.rooks.set (scale 2 p1+scale 1 x.fst).toNat (-1)) x.snd.passing x.snd.checks x.snd.half x.snd.full)) else (Stp.go (wr .i64 (x.fst+1),x.snd)))))) else (bif decide (p2 < 0) then (Stp.go (wr .i64 (x.fst+1),Pos.mk x.snd.variant x.snd.board x.snd.promoted x.snd.pockets x.snd.turn (x.snd.rooks.set (scale 2 p1+scale 1 x.fst).toNat (-1)) x.snd.passing x.snd.checks x.snd.half x.snd.full)) else (bif wr .i64 (p2.tdiv 8) != wr .i64 (7 * wr .i64 p1) then (Stp.go (wr .i64 (x.fst+1),Pos.mk x.snd.variant x.snd.board x.snd.promoted x.snd.pockets x.snd.turn (x.snd.rooks.set (scale 2 p1+scale 1 x.fst).toNat (-1)) x.snd.passing x.snd.checks x.snd.half x.snd.full)) else (bif x.snd.board.getD (scale 1 (wr .i64 (wr .i64 (56 * wr .i64 p1)+wr .i64 (p3.getD x.fst.toNat 0)))).toNat 0 != N101 p1 4 then (Stp.go (wr .i64 (x.fst+1),Pos.mk x.snd.variant x.snd.board x.snd.promoted x.snd.pockets x.snd.turn (x.snd.rooks.set (scale 2 p1+scale 1 x.fst).toNat (-1)) x.snd.passing x.snd.checks x.snd.half x.snd.full)) else (Stp.go (wr .i64 (x.fst+1),x.snd))))))))) else (Stp.out ((x.fst,decide (x.fst < 2),x.snd))))
noncomputable def okL22_6 (p1:Int) (p2:Int) (p3:(List Int)) (p4:Pos) (p5:Mv) (p6:Pos) (p7:Mv) (p8:Int) (x:(Int×Pos)):Bool:=(bif decide (x.fst < 2) then (decide (0≤x.fst)&&decide (x.fst < Int.ofNat 2)&&(bif decide (p3.getD x.fst.toNat 0 < 0) then true else (bif decide (p3.getD x.fst.toNat 0 > 7) then true else (bif p8==wr .i64 (wr .i64 (56 * wr .i64 p1)+wr .i64 (p3.getD x.fst.toNat 0)) then (decide (0≤p1)&&decide (p1 < Int.ofNat 2)&&(decide (0≤x.fst)&&decide (x.fst < Int.ofNat 2)&&true)) else (bif p7.drp==0 then (bif wr .i64 p7.frm==wr .i64 (wr .i64 (56 * wr .i64 p1)+wr .i64 (p3.getD x.fst.toNat 0)) then (decide (0≤p1)&&decide (p1 < Int.ofNat 2)&&(decide (0≤x.fst)&&decide (x.fst < Int.ofNat 2)&&true)) else (bif decide (p2 < 0) then (decide (0≤p1)&&decide (p1 < Int.ofNat 2)&&(decide (0≤x.fst)&&decide (x.fst < Int.ofNat 2)&&true)) else (bif wr .i64 (p2.tdiv 8) != wr .i64 (7 * wr .i64 p1) then (decide (0≤p1)&&decide (p1 < Int.ofNat 2)&&(decide (0≤x.fst)&&decide (x.fst < Int.ofNat 2)&&true)) else (decide (0≤wr .i64 (wr .i64 (56 * wr .i64 p1)+wr .i64 (p3.getD x.fst.toNat 0)))&&decide (wr .i64 (wr .i64 (56 * wr .i64 p1)+wr .i64 (p3.getD x.fst.toNat 0)) < Int.ofNat 64)&&(bif x.snd.board.getD (scale 1 (wr .i64 (wr .i64 (56 * wr .i64 p1)+wr .i64 (p3.getD x.fst.toNat 0)))).toNat 0 != N101 p1 4 then (decide (0≤p1)&&decide (p1 < Int.ofNat 2)&&(decide (0≤x.fst)&&decide (x.fst < Int.ofNat 2)&&true)) else true))))) else (bif decide (p2 < 0) then (decide (0≤p1)&&decide (p1 < Int.ofNat 2)&&(decide (0≤x.fst)&&decide (x.fst < Int.ofNat 2)&&true)) else (bif wr .i64 (p2.tdiv 8) != wr .i64 (7 * wr .i64 p1) then (decide (0≤p1)&&decide (p1 < Int.ofNat 2)&&(decide (0≤x.fst)&&decide (x.fst < Int.ofNat 2)&&true)) else (decide (0≤wr .i64 (wr .i64 (56 * wr .i64 p1)+wr .i64 (p3.getD x.fst.toNat 0)))&&decide (wr .i64 (wr .i64 (56 * wr .i64 p1)+wr .i64 (p3.getD x.fst.toNat 0)) < Int.ofNat 64)&&(bif x.snd.board.getD (scale 1 (wr .i64 (wr .i64 (56 * wr .i64 p1)+wr .i64 (p3.getD x.fst.toNat 0)))).toNat 0 != N101 p1 4 then (decide (0≤p1)&&decide (p1 < Int.ofNat 2)&&(decide (0≤x.fst)&&decide (x.fst < Int.ofNat 2)&&true)) else true))))))))) else true)
noncomputable def lp22_6 (p1:Int) (p2:Int) (p3:(List Int)) (p4:Pos) (p5:Mv) (p6:Pos) (p7:Mv) (p8:Int) (x:(Int×Pos)):Option ((Int×Bool×Pos)):=itl (fun x=>bif okL22_6 p1 p2 p3 p4 p5 p6 p7 p8 x then st22_6 p1 p2 p3 p4 p5 p6 p7 p8 x else .bad) many x
abbrev D22_6 {α:Type} (k:Int→Int→(List Int)→Pos→Mv→Pos→Mv→Int→(Int×Pos)→α) (s:St):α:=wP s 0 fun q0=>wP s 3 fun q3=>wM s 1 fun q1=>k (tI (tT s 2)) (tI (tT s 3)) (tN (tX (tA (tT s 46)) 0)) q0 q1 (Kz.Pos.mk (tI (tH s 3 10)) (tN (tH s 3 11)) (tU (tH s 3 12)) (tN (tH s 3 13)) (tI (tH s 3 14)) (tN (tH s 3 15)) (tI (tH s 3 16)) (tN (tH s 3 17)) (tI (tH s 3 18)) (tI (tH s 3 19))) (Kz.Mv.mk (tI (tH s 3 20)) (tI (tH s 3 21)) (tI (tH s 3 22)) (tI (tH s 3 23)) (tB (tH s 3 24))) (tI (tH s 3 25)) ((tI (tT s 47)),q3)
theorem L22_6 (p1:Int) (p2:Int) (p3:(List Int)) (p4:Pos) (p5:Mv) (p6:Pos) (p7:Mv) (p8:Int) (x:(Int×Pos)) (r:(Int×Bool×Pos)) (h:lp22_6 p1 p2 p3 p4 p5 p6 p7 p8 x=some r):LSpec Pz (bodL Pz 49 7) (S22_6 p1 p2 p3 p4 p5 p6 p7 p8 x) (O22_6 p1 p2 p3 p4 p5 p6 p7 p8 r):=LSpec.smd (m:=12) (fn:=49) hB22_6 (D22_6 fun _ _ _ _ _ _ _ _ x=>some x) (fun o=>match o with | .exit 2 s=>wP s 3 fun q3=>some ((tI (tT s 47)),(tB (tT s 48)),q3) | _=>none) (fun _=>rfl) (fun _=>by kernel_rfl) (fun _=>by kernel_rfl) (fun _=>by kernel_rfl) (fun _=>by kernel_rfl) many x r h
noncomputable def F22_6 (b:Code) (s:St):Tr Out:=D22_6 (fun p1 p2 p3 p4 p5 p6 p7 p8 x=>lk1 b (bodL Pz 49 7) s (S22_6 p1 p2 p3 p4 p5 p6 p7 p8 x) (lp22_6 p1 p2 p3 p4 p5 p6 p7 p8 x) (O22_6 p1 p2 p3 p4 p5 p6 p7 p8)) s
theorem sF22_6:∀ b,LSound Pz b (F22_6 b):=fun _ _ _ h=>lk1_ok (L22_6 _ _ _ _ _ _ _ _ _) h
noncomputable def B22_7:Base:=baseOf Pz (fun f i=>lkC f i K22) [(109,G109),(45,G45),(41,G41),(40,G40),(66,G66),(91,G91),(99,G99),(100,G100),(101,G101),(103,G103),(65,G65),(104,G104),(106,G106),(107,G107),(108,G108)] [(48,2,F22_3),(49,7,F22_6)] [(46,FF22_1),(47,FF22_2),(48,FF22_4)]
theorem hB22_7:BOk B22_7:=base_ok named_z ⟨s109,s45,s41,s40,s66,s91,s99,s100,s101,s103,s65,s104,s106,s107,s108,trivial⟩ ⟨sF22_3,sF22_6,trivial⟩ ⟨sFF22_1,sFF22_2,sFF22_4,trivial⟩
noncomputable def S22_7 (p1:Pos) (p2:Mv) (p3:Pos) (p4:Mv) (p5:Int) (x:(Int×Pos)):St:=St.mk (AV.ptr 3 0::AV.any::AV.int .u8 x.fst::(an 118 [])) (Hp.mk [(pc p1 []),[AV.int .i8 p2.frm,AV.int .i8 p2.to,AV.int .u8 p2.pro,AV.int .u8 p2.drp,AV.bool p2.cas],[AV.int .u8 0,AV.ints .u8 64 (li (List.replicate 64 0)),AV.u64 0,AV.ints .u8 12 (li [0,0,0,0,0,0,0,0,0,0,0,0]),AV.int .u8 0,AV.ints .i8 4 (li [0,0,0,0]),AV.int .i8 0,AV.ints .u8 2 (li [0,0]),AV.int .i64 0,AV.int .i64 0],(pc x.snd (pc p3 [AV.int .i8 p4.frm,AV.int .i8 p4.to,AV.int .u8 p4.pro,AV.int .u8 p4.drp,AV.bool p4.cas,AV.int .i64 p5]))] [] [] 0 0 0)
noncomputable def O22_7 (p1:Pos) (p2:Mv) (p3:Pos) (p4:Mv) (p5:Int):(Int×Bool×Pos)→Out:=fun y=>.exit 0 (St.mk (AV.ptr 3 0::AV.any::AV.int .u8 y.fst::(an 28 (AV.bool y.snd.fst::(an 89 [])))) (Hp.mk [(pc p1 []),[AV.int .i8 p2.frm,AV.int .i8 p2.to,AV.int .u8 p2.pro,AV.int .u8 p2.drp,AV.bool p2.cas],[AV.int .u8 0,AV.ints .u8 64 (li (List.replicate 64 0)),AV.u64 0,AV.ints .u8 12 (li [0,0,0,0,0,0,0,0,0,0,0,0]),AV.int .u8 0,AV.ints .i8 4 (li [0,0,0,0]),AV.int .i8 0,AV.ints .u8 2 (li [0,0]),AV.int .i64 0,AV.int .i64 0],(pc y.snd.snd (pc p3 [AV.int .i8 p4.frm,AV.int .i8 p4.to,AV.int .u8 p4.pro,AV.int .u8 p4.drp,AV.bool p4.cas,AV.int .i64 p5]))] [] [] 0 0 0))
noncomputable def st22_7 (p1:Pos) (p2:Mv) (p3:Pos) (p4:Mv) (p5:Int) (x:(Int×Pos)):Stp (Int×Pos) ((Int×Bool×Pos)):=(bif decide (x.fst≤1) then (Stp.go (wr .u8 (x.fst+1),((lp22_6 x.fst (N106 x.snd x.fst 6) (List.take 2 (List.drop (scale 2 x.fst).toNat x.snd.rooks)) p1 p2 p3 p4 p5 (0,x.snd)).getD default).snd.snd)) else (Stp.out ((x.fst,decide (x.fst≤1),x.snd))))
noncomputable def okL22_7 (p1:Pos) (p2:Mv) (p3:Pos) (p4:Mv) (p5:Int) (x:(Int×Pos)):Bool:=(bif decide (x.fst≤1) then (ok106 (x.snd) (x.fst) (6)&&(decide (0≤x.fst)&&decide (x.fst < Int.ofNat 2)&&((lp22_6 x.fst (N106 x.snd x.fst 6) (List.take 2 (List.drop (scale 2 x.fst).toNat x.snd.rooks)) p1 p2 p3 p4 p5 (0,x.snd)).isSome&&true))) else true)
noncomputable def lp22_7 (p1:Pos) (p2:Mv) (p3:Pos) (p4:Mv) (p5:Int) (x:(Int×Pos)):Option ((Int×Bool×Pos)):=itl (fun x=>bif okL22_7 p1 p2 p3 p4 p5 x then st22_7 p1 p2 p3 p4 p5 x else .bad) many x
abbrev D22_7 {α:Type} (k:Pos→Mv→Pos→Mv→Int→(Int×Pos)→α) (s:St):α:=wP s 0 fun q0=>wP s 3 fun q3=>wM s 1 fun q1=>k q0 q1 (Kz.Pos.mk (tI (tH s 3 10)) (tN (tH s 3 11)) (tU (tH s 3 12)) (tN (tH s 3 13)) (tI (tH s 3 14)) (tN (tH s 3 15)) (tI (tH s 3 16)) (tN (tH s 3 17)) (tI (tH s 3 18)) (tI (tH s 3 19))) (Kz.Mv.mk (tI (tH s 3 20)) (tI (tH s 3 21)) (tI (tH s 3 22)) (tI (tH s 3 23)) (tB (tH s 3 24))) (tI (tH s 3 25)) ((tI (tT s 2)),q3)
theorem L22_7 (p1:Pos) (p2:Mv) (p3:Pos) (p4:Mv) (p5:Int) (x:(Int×Pos)) (r:(Int×Bool×Pos)) (h:lp22_7 p1 p2 p3 p4 p5 x=some r):LSpec Pz (bodL Pz 49 3) (S22_7 p1 p2 p3 p4 p5 x) (O22_7 p1 p2 p3 p4 p5 r):=LSpec.smd (m:=12) (fn:=49) hB22_7 (D22_7 fun _ _ _ _ _ x=>some x) (fun o=>match o with | .exit 0 s=>wP s 3 fun q3=>some ((tI (tT s 2)),(tB (tT s 31)),q3) | _=>none) (fun _=>rfl) (fun _=>by kernel_rfl) (fun _=>by kernel_rfl) (fun _=>by kernel_rfl) (fun _=>by kernel_rfl) many x r h
noncomputable def F22_7 (b:Code) (s:St):Tr Out:=D22_7 (fun p1 p2 p3 p4 p5 x=>lk1 b (bodL Pz 49 3) s (S22_7 p1 p2 p3 p4 p5 x) (lp22_7 p1 p2 p3 p4 p5 x) (O22_7 p1 p2 p3 p4 p5)) s
theorem sF22_7:∀ b,LSound Pz b (F22_7 b):=fun _ _ _ h=>lk1_ok (L22_7 _ _ _ _ _ _) h
noncomputable def B22_8:Base:=baseOf Pz (fun f i=>lkC f i K22) [(109,G109),(45,G45),(41,G41),(40,G40),(66,G66),(91,G91),(99,G99),(100,G100),(101,G101),(103,G103),(65,G65),(104,G104),(106,G106),(107,G107),(108,G108)] [(48,2,F22_3),(49,7,F22_6),(49,3,F22_7)] [(46,FF22_1),(47,FF22_2),(48,FF22_4)]
theorem hB22_8:BOk B22_8:=base_ok named_z ⟨s109,s45,s41,s40,s66,s91,s99,s100,s101,s103,s65,s104,s106,s107,s108,trivial⟩ ⟨sF22_3,sF22_6,sF22_7,trivial⟩ ⟨sFF22_1,sFF22_2,sFF22_4,trivial⟩
noncomputable def A22_8 (p1:Pos) (p2:Mv) (p3:Pos) (p4:Pos) (p5:Mv) (p6:Int):List AV:=[AV.ptr 3 0]
noncomputable def H22_8 (p1:Pos) (p2:Mv) (p3:Pos) (p4:Pos) (p5:Mv) (p6:Int):Hp:=Hp.mk [(pc p1 []),[AV.int .i8 p2.frm,AV.int .i8 p2.to,AV.int .u8 p2.pro,AV.int .u8 p2.drp,AV.bool p2.cas],[AV.int .u8 0,AV.ints .u8 64 (li (List.replicate 64 0)),AV.u64 0,AV.ints .u8 12 (li [0,0,0,0,0,0,0,0,0,0,0,0]),AV.int .u8 0,AV.ints .i8 4 (li [0,0,0,0]),AV.int .i8 0,AV.ints .u8 2 (li [0,0]),AV.int .i64 0,AV.int .i64 0],(pc p3 (pc p4 [AV.int .i8 p5.frm,AV.int .i8 p5.to,AV.int .u8 p5.pro,AV.int .u8 p5.drp,AV.bool p5.cas,AV.int .i64 p6]))] [] [] 0 0 0
noncomputable def O22_8 (p1:Pos) (p2:Mv) (p3:Pos) (p4:Pos) (p5:Mv) (p6:Int) (y:(Pos)):FRes := .ret (AV.tuple []) (Hp.mk [(pc p1 []),[AV.int .i8 p2.frm,AV.int .i8 p2.to,AV.int .u8 p2.pro,AV.int .u8 p2.drp,AV.bool p2.cas],[AV.int .u8 0,AV.ints .u8 64 (li (List.replicate 64 0)),AV.u64 0,AV.ints .u8 12 (li [0,0,0,0,0,0,0,0,0,0,0,0]),AV.int .u8 0,AV.ints .i8 4 (li [0,0,0,0]),AV.int .i8 0,AV.ints .u8 2 (li [0,0]),AV.int .i64 0,AV.int .i64 0],(pc y (pc p4 [AV.int .i8 p5.frm,AV.int .i8 p5.to,AV.int .u8 p5.pro,AV.int .u8 p5.drp,AV.bool p5.cas,AV.int .i64 p6]))] [] [] 0 0 0)
noncomputable def vF22_8 (p1:Pos) (p2:Mv) (p3:Pos) (p4:Pos) (p5:Mv) (p6:Int):(Pos):=(bif p5.drp != 0 then (bif p5.drp==6 then (bif p5.drp==0 then (((lp22_7 p1 p2 p4 p5 p6 (0,Pos.mk p3.variant p3.board p3.promoted p3.pockets p3.turn (List.take (scale 2 p3.turn).toNat p3.rooks++li [-1,-1]++List.drop ((scale 2 p3.turn).toNat+2) p3.rooks) p3.passing p3.checks p3.half p3.full)).getD default).snd.snd) else (((lp22_7 p1 p2 p4 p5 p6 (0,p3)).getD default).snd.snd)) else (((lp22_7 p1 p2 p4 p5 p6 (0,p3)).getD default).snd.snd)) else (bif N91 (p4.board.getD (scale 1 p5.frm).toNat 0)==6 then (bif p5.drp==0 then (((lp22_7 p1 p2 p4 p5 p6 (0,Pos.mk p3.variant p3.board p3.promoted p3.pockets p3.turn (List.take (scale 2 p3.turn).toNat p3.rooks++li [-1,-1]++List.drop ((scale 2 p3.turn).toNat+2) p3.rooks) p3.passing p3.checks p3.half p3.full)).getD default).snd.snd) else (((lp22_7 p1 p2 p4 p5 p6 (0,p3)).getD default).snd.snd)) else (((lp22_7 p1 p2 p4 p5 p6 (0,p3)).getD default).snd.snd)))
noncomputable def okF22_8 (p1:Pos) (p2:Mv) (p3:Pos) (p4:Pos) (p5:Mv) (p6:Int):Bool:=(bif p5.drp != 0 then (bif p5.drp==6 then (bif p5.drp==0 then (decide (0≤p3.turn)&&decide (p3.turn < Int.ofNat 2)&&((lp22_7 p1 p2 p4 p5 p6 (0,Pos.mk p3.variant p3.board p3.promoted p3.pockets p3.turn (List.take (scale 2 p3.turn).toNat p3.rooks++li [-1,-1]++List.drop ((scale 2 p3.turn).toNat+2) p3.rooks) p3.passing p3.checks p3.half p3.full)).isSome&&true)) else ((lp22_7 p1 p2 p4 p5 p6 (0,p3)).isSome&&true)) else ((lp22_7 p1 p2 p4 p5 p6 (0,p3)).isSome&&true)) else (decide (0≤p5.frm)&&decide (p5.frm < Int.ofNat 64)&&(bif N91 (p4.board.getD (scale 1 p5.frm).toNat 0)==6 then (bif p5.drp==0 then (decide (0≤p3.turn)&&decide (p3.turn < Int.ofNat 2)&&((lp22_7 p1 p2 p4 p5 p6 (0,Pos.mk p3.variant p3.board p3.promoted p3.pockets p3.turn (List.take (scale 2 p3.turn).toNat p3.rooks++li [-1,-1]++List.drop ((scale 2 p3.turn).toNat+2) p3.rooks) p3.passing p3.checks p3.half p3.full)).isSome&&true)) else ((lp22_7 p1 p2 p4 p5 p6 (0,p3)).isSome&&true)) else ((lp22_7 p1 p2 p4 p5 p6 (0,p3)).isSome&&true))))
abbrev DF22_8 {α:Type} (k:Pos→Mv→Pos→Pos→Mv→Int→α) (s:St):α:=wP s 0 fun q0=>wP s 3 fun q3=>wM s 1 fun q1=>k q0 q1 q3 (Kz.Pos.mk (tI (tH s 3 10)) (tN (tH s 3 11)) (tU (tH s 3 12)) (tN (tH s 3 13)) (tI (tH s 3 14)) (tN (tH s 3 15)) (tI (tH s 3 16)) (tN (tH s 3 17)) (tI (tH s 3 18)) (tI (tH s 3 19))) (Kz.Mv.mk (tI (tH s 3 20)) (tI (tH s 3 21)) (tI (tH s 3 22)) (tI (tH s 3 23)) (tB (tH s 3 24))) (tI (tH s 3 25))
theorem PF22_8 (p1:Pos) (p2:Mv) (p3:Pos) (p4:Pos) (p5:Mv) (p6:Int) (h:okF22_8 p1 p2 p3 p4 p5 p6=true):FSpec Pz 49 (A22_8 p1 p2 p3 p4 p5 p6) (H22_8 p1 p2 p3 p4 p5 p6) (O22_8 p1 p2 p3 p4 p5 p6 (vF22_8 p1 p2 p3 p4 p5 p6))∧∃ fn,Pz.funcs[49]?=some fn∧fn.body.isSome=true:=fs_sumd (n:=14) (O:=O22_8 p1 p2 p3 p4 p5 p6) hB22_8 (fun o=>match o with | .ret v h=>(let s:St:=⟨[v],h⟩; wP s 3 fun q3=>some q3) | _=>none) (fun _=>rfl) (by kernel_rfl) (by kernel_rfl) (by kernel_rfl) (by kernel_rfl) h
noncomputable def FF22_8 (xs:List AV) (h:Hp):Tr FRes:=DF22_8 (fun p1 p2 p3 p4 p5 p6=>fk xs h (A22_8 p1 p2 p3 p4 p5 p6) (H22_8 p1 p2 p3 p4 p5 p6) (okF22_8 p1 p2 p3 p4 p5 p6) (O22_8 p1 p2 p3 p4 p5 p6) (vF22_8 p1 p2 p3 p4 p5 p6)) ⟨xs,h⟩
theorem sFF22_8:FSound Pz 49 FF22_8:=fun _ _ _ h=>fk_ok (PF22_8 _ _ _ _ _ _) h
noncomputable def B22_9:Base:=baseOf Pz (fun f i=>lkC f i K22) [(109,G109),(45,G45),(41,G41),(40,G40),(66,G66),(91,G91),(99,G99),(100,G100),(101,G101),(103,G103),(65,G65),(104,G104),(106,G106),(107,G107),(108,G108)] [(48,2,F22_3),(49,7,F22_6),(49,3,F22_7)] [(46,FF22_1),(47,FF22_2),(48,FF22_4),(49,FF22_8)]
theorem hB22_9:BOk B22_9:=base_ok named_z ⟨s109,s45,s41,s40,s66,s91,s99,s100,s101,s103,s65,s104,s106,s107,s108,trivial⟩ ⟨sF22_3,sF22_6,sF22_7,trivial⟩ ⟨sFF22_1,sFF22_2,sFF22_4,sFF22_8,trivial⟩
noncomputable def A22_9 (p1:Pos) (p2:Mv) (p3:Pos) (p4:Pos) (p5:Mv) (p6:Int):List AV:=[AV.ptr 3 0]
noncomputable def H22_9 (p1:Pos) (p2:Mv) (p3:Pos) (p4:Pos) (p5:Mv) (p6:Int):Hp:=Hp.mk [(pc p1 []),[AV.int .i8 p2.frm,AV.int .i8 p2.to,AV.int .u8 p2.pro,AV.int .u8 p2.drp,AV.bool p2.cas],[AV.int .u8 0,AV.ints .u8 64 (li (List.replicate 64 0)),AV.u64 0,AV.ints .u8 12 (li [0,0,0,0,0,0,0,0,0,0,0,0]),AV.int .u8 0,AV.ints .i8 4 (li [0,0,0,0]),AV.int .i8 0,AV.ints .u8 2 (li [0,0]),AV.int .i64 0,AV.int .i64 0],(pc p3 (pc p4 [AV.int .i8 p5.frm,AV.int .i8 p5.to,AV.int .u8 p5.pro,AV.int .u8 p5.drp,AV.bool p5.cas,AV.int .i64 p6]))] [] [] 0 0 0
noncomputable def O22_9 (p1:Pos) (p2:Mv) (p3:Pos) (p4:Pos) (p5:Mv) (p6:Int) (y:(Pos)):FRes := .ret (AV.tuple []) (Hp.mk [(pc p1 []),[AV.int .i8 p2.frm,AV.int .i8 p2.to,AV.int .u8 p2.pro,AV.int .u8 p2.drp,AV.bool p2.cas],[AV.int .u8 0,AV.ints .u8 64 (li (List.replicate 64 0)),AV.u64 0,AV.ints .u8 12 (li [0,0,0,0,0,0,0,0,0,0,0,0]),AV.int .u8 0,AV.ints .i8 4 (li [0,0,0,0]),AV.int .i8 0,AV.ints .u8 2 (li [0,0]),AV.int .i64 0,AV.int .i64 0],(pc y (pc p4 [AV.int .i8 p5.frm,AV.int .i8 p5.to,AV.int .u8 p5.pro,AV.int .u8 p5.drp,AV.bool p5.cas,AV.int .i64 p6]))] [] [] 0 0 0)
noncomputable def vF22_9 (p1:Pos) (p2:Mv) (p3:Pos) (p4:Pos) (p5:Mv) (p6:Int):(Pos):=(bif p5.drp != 0 then (bif p5.drp != 1 then (Pos.mk p3.variant p3.board p3.promoted p3.pockets p3.turn p3.rooks (-1) p3.checks p3.half p3.full) else (bif p5.drp != 0 then (Pos.mk p3.variant p3.board p3.promoted p3.pockets p3.turn p3.rooks (-1) p3.checks p3.half p3.full) else (bif wr .i8 (p5.to - p5.frm) != 16 then (bif wr .i8 (p5.frm - p5.to) != 16 then (Pos.mk p3.variant p3.board p3.promoted p3.pockets p3.turn p3.rooks (-1) p3.checks p3.half p3.full) else (bif wr .i8 (p5.frm.tdiv 8) != wr .i8 (wr .i8 (7 * wr .i8 p3.turn)+1) then (bif wr .i8 (p5.frm.tdiv 8) != wr .i8 (wr .i8 (7 * wr .i8 p3.turn) - 1) then (Pos.mk p3.variant p3.board p3.promoted p3.pockets p3.turn p3.rooks (-1) p3.checks p3.half p3.full) else (bif N107 p3.turn (wr .i64 (wr .i8 ((wr .i8 (p5.frm+p5.to)).tdiv 2)))&&&N66 (Pos.mk p3.variant p3.board p3.promoted p3.pockets p3.turn p3.rooks (-1) p3.checks p3.half p3.full) (wr .u8 (1 - p3.turn)) 1 != 0#64 then (Pos.mk p3.variant p3.board p3.promoted p3.pockets p3.turn p3.rooks (wr .i8 ((wr .i8 (p5.frm+p5.to)).tdiv 2)) p3.checks p3.half p3.full) else (Pos.mk p3.variant p3.board p3.promoted p3.pockets p3.turn p3.rooks (-1) p3.checks p3.half p3.full))) else (bif N107 p3.turn (wr .i64 (wr .i8 ((wr .i8 (p5.frm+p5.to)).tdiv 2)))&&&N66 (Pos.mk p3.variant p3.board p3.promoted p3.pockets p3.turn p3.rooks (-1) p3.checks p3.half p3.full) (wr .u8 (1 - p3.turn)) 1 != 0#64 then (Pos.mk p3.variant p3.board p3.promoted p3.pockets p3.turn p3.rooks (wr .i8 ((wr .i8 (p5.frm+p5.to)).tdiv 2)) p3.checks p3.half p3.full) else (Pos.mk p3.variant p3.board p3.promoted p3.pockets p3.turn p3.rooks (-1) p3.checks p3.half p3.full)))) else (bif wr .i8 (p5.frm.tdiv 8) != wr .i8 (wr .i8 (7 * wr .i8 p3.turn)+1) then (bif wr .i8 (p5.frm.tdiv 8) != wr .i8 (wr .i8 (7 * wr .i8 p3.turn) - 1) then (Pos.mk p3.variant p3.board p3.promoted p3.pockets p3.turn p3.rooks (-1) p3.checks p3.half p3.full) else (bif N107 p3.turn (wr .i64 (wr .i8 ((wr .i8 (p5.frm+p5.to)).tdiv 2)))&&&N66 (Pos.mk p3.variant p3.board p3.promoted p3.pockets p3.turn p3.rooks (-1) p3.checks p3.half p3.full) (wr .u8 (1 - p3.turn)) 1 != 0#64 then (Pos.mk p3.variant p3.board p3.promoted p3.pockets p3.turn p3.rooks (wr .i8 ((wr .i8 (p5.frm+p5.to)).tdiv 2)) p3.checks p3.half p3.full) else (Pos.mk p3.variant p3.board p3.promoted p3.pockets p3.turn p3.rooks (-1) p3.checks p3.half p3.full))) else (bif N107 p3.turn (wr .i64 (wr .i8 ((wr .i8 (p5.frm+p5.to)).tdiv 2)))&&&N66 (Pos.mk p3.variant p3.board p3.promoted p3.pockets p3.turn p3.rooks (-1) p3.checks p3.half p3.full) (wr .u8 (1 - p3.turn)) 1 != 0#64 then (Pos.mk p3.variant p3.board p3.promoted p3.pockets p3.turn p3.rooks (wr .i8 ((wr .i8 (p5.frm+p5.to)).tdiv 2)) p3.checks p3.half p3.full) else (Pos.mk p3.variant p3.board p3.promoted p3.pockets p3.turn p3.rooks (-1) p3.checks p3.half p3.full)))))) else (bif N91 (p4.board.getD (scale 1 p5.frm).toNat 0) != 1 then (Pos.mk p3.variant p3.board p3.promoted p3.pockets p3.turn p3.rooks (-1) p3.checks p3.half p3.full) else (bif p5.drp != 0 then (Pos.mk p3.variant p3.board p3.promoted p3.pockets p3.turn p3.rooks (-1) p3.checks p3.half p3.full) else (bif wr .i8 (p5.to - p5.frm) != 16 then (bif wr .i8 (p5.frm - p5.to) != 16 then (Pos.mk p3.variant p3.board p3.promoted p3.pockets p3.turn p3.rooks (-1) p3.checks p3.half p3.full) else (bif wr .i8 (p5.frm.tdiv 8) != wr .i8 (wr .i8 (7 * wr .i8 p3.turn)+1) then (bif wr .i8 (p5.frm.tdiv 8) != wr .i8 (wr .i8 (7 * wr .i8 p3.turn) - 1) then (Pos.mk p3.variant p3.board p3.promoted p3.pockets p3.turn p3.rooks (-1) p3.checks p3.half p3.full) else (bif N107 p3.turn (wr .i64 (wr .i8 ((wr .i8 (p5.frm+p5.to)).tdiv 2)))&&&N66 (Pos.mk p3.variant p3.board p3.promoted p3.pockets p3.turn p3.rooks (-1) p3.checks p3.half p3.full) (wr .u8 (1 - p3.turn)) 1 != 0#64 then (Pos.mk p3.variant p3.board p3.promoted p3.pockets p3.turn p3.rooks (wr .i8 ((wr .i8 (p5.frm+p5.to)).tdiv 2)) p3.checks p3.half p3.full) else (Pos.mk p3.variant p3.board p3.promoted p3.pockets p3.turn p3.rooks (-1) p3.checks p3.half p3.full))) else (bif N107 p3.turn (wr .i64 (wr .i8 ((wr .i8 (p5.frm+p5.to)).tdiv 2)))&&&N66 (Pos.mk p3.variant p3.board p3.promoted p3.pockets p3.turn p3.rooks (-1) p3.checks p3.half p3.full) (wr .u8 (1 - p3.turn)) 1 != 0#64 then (Pos.mk p3.variant p3.board p3.promoted p3.pockets p3.turn p3.rooks (wr .i8 ((wr .i8 (p5.frm+p5.to)).tdiv 2)) p3.checks p3.half p3.full) else (Pos.mk p3.variant p3.board p3.promoted p3.pockets p3.turn p3.rooks (-1) p3.checks p3.half p3.full)))) else (bif wr .i8 (p5.frm.tdiv 8) != wr .i8 (wr .i8 (7 * wr .i8 p3.turn)+1) then (bif wr .i8 (p5.frm.tdiv 8) != wr .i8 (wr .i8 (7 * wr .i8 p3.turn) - 1) then (Pos.mk p3.variant p3.board p3.promoted p3.pockets p3.turn p3.rooks (-1) p3.checks p3.half p3.full) else (bif N107 p3.turn (wr .i64 (wr .i8 ((wr .i8 (p5.frm+p5.to)).tdiv 2)))&&&N66 (Pos.mk p3.variant p3.board p3.promoted p3.pockets p3.turn p3.rooks (-1) p3.checks p3.half p3.full) (wr .u8 (1 - p3.turn)) 1 != 0#64 then (Pos.mk p3.variant p3.board p3.promoted p3.pockets p3.turn p3.rooks (wr .i8 ((wr .i8 (p5.frm+p5.to)).tdiv 2)) p3.checks p3.half p3.full) else (Pos.mk p3.variant p3.board p3.promoted p3.pockets p3.turn p3.rooks (-1) p3.checks p3.half p3.full))) else (bif N107 p3.turn (wr .i64 (wr .i8 ((wr .i8 (p5.frm+p5.to)).tdiv 2)))&&&N66 (Pos.mk p3.variant p3.board p3.promoted p3.pockets p3.turn p3.rooks (-1) p3.checks p3.half p3.full) (wr .u8 (1 - p3.turn)) 1 != 0#64 then (Pos.mk p3.variant p3.board p3.promoted p3.pockets p3.turn p3.rooks (wr .i8 ((wr .i8 (p5.frm+p5.to)).tdiv 2)) p3.checks p3.half p3.full) else (Pos.mk p3.variant p3.board p3.promoted p3.pockets p3.turn p3.rooks (-1) p3.checks p3.half p3.full)))))))
noncomputable def okF22_9 (p1:Pos) (p2:Mv) (p3:Pos) (p4:Pos) (p5:Mv) (p6:Int):Bool:=(bif p5.drp != 0 then (bif p5.drp != 1 then true else (bif p5.drp != 0 then true else (bif wr .i8 (p5.to - p5.frm) != 16 then (bif wr .i8 (p5.frm - p5.to) != 16 then true else (bif wr .i8 (p5.frm.tdiv 8) != wr .i8 (wr .i8 (7 * wr .i8 p3.turn)+1) then (bif wr .i8 (p5.frm.tdiv 8) != wr .i8 (wr .i8 (7 * wr .i8 p3.turn) - 1) then true else (ok107 (p3.turn) (wr .i64 (wr .i8 ((wr .i8 (p5.frm+p5.to)).tdiv 2)))&&(ok66 (Pos.mk p3.variant p3.board p3.promoted p3.pockets p3.turn p3.rooks (-1) p3.checks p3.half p3.full) (wr .u8 (1 - p3.turn)) (1)&&true))) else (ok107 (p3.turn) (wr .i64 (wr .i8 ((wr .i8 (p5.frm+p5.to)).tdiv 2)))&&(ok66 (Pos.mk p3.variant p3.board p3.promoted p3.pockets p3.turn p3.rooks (-1) p3.checks p3.half p3.full) (wr .u8 (1 - p3.turn)) (1)&&true)))) else (bif wr .i8 (p5.frm.tdiv 8) != wr .i8 (wr .i8 (7 * wr .i8 p3.turn)+1) then (bif wr .i8 (p5.frm.tdiv 8) != wr .i8 (wr .i8 (7 * wr .i8 p3.turn) - 1) then true else (ok107 (p3.turn) (wr .i64 (wr .i8 ((wr .i8 (p5.frm+p5.to)).tdiv 2)))&&(ok66 (Pos.mk p3.variant p3.board p3.promoted p3.pockets p3.turn p3.rooks (-1) p3.checks p3.half p3.full) (wr .u8 (1 - p3.turn)) (1)&&true))) else (ok107 (p3.turn) (wr .i64 (wr .i8 ((wr .i8 (p5.frm+p5.to)).tdiv 2)))&&(ok66 (Pos.mk p3.variant p3.board p3.promoted p3.pockets p3.turn p3.rooks (-1) p3.checks p3.half p3.full) (wr .u8 (1 - p3.turn)) (1)&&true)))))) else (decide (0≤p5.frm)&&decide (p5.frm < Int.ofNat 64)&&(bif N91 (p4.board.getD (scale 1 p5.frm).toNat 0) != 1 then true else (bif p5.drp != 0 then true else (bif wr .i8 (p5.to - p5.frm) != 16 then (bif wr .i8 (p5.frm - p5.to) != 16 then true else (bif wr .i8 (p5.frm.tdiv 8) != wr .i8 (wr .i8 (7 * wr .i8 p3.turn)+1) then (bif wr .i8 (p5.frm.tdiv 8) != wr .i8 (wr .i8 (7 * wr .i8 p3.turn) - 1) then true else (ok107 (p3.turn) (wr .i64 (wr .i8 ((wr .i8 (p5.frm+p5.to)).tdiv 2)))&&(ok66 (Pos.mk p3.variant p3.board p3.promoted p3.pockets p3.turn p3.rooks (-1) p3.checks p3.half p3.full) (wr .u8 (1 - p3.turn)) (1)&&true))) else (ok107 (p3.turn) (wr .i64 (wr .i8 ((wr .i8 (p5.frm+p5.to)).tdiv 2)))&&(ok66 (Pos.mk p3.variant p3.board p3.promoted p3.pockets p3.turn p3.rooks (-1) p3.checks p3.half p3.full) (wr .u8 (1 - p3.turn)) (1)&&true)))) else (bif wr .i8 (p5.frm.tdiv 8) != wr .i8 (wr .i8 (7 * wr .i8 p3.turn)+1) then (bif wr .i8 (p5.frm.tdiv 8) != wr .i8 (wr .i8 (7 * wr .i8 p3.turn) - 1) then true else (ok107 (p3.turn) (wr .i64 (wr .i8 ((wr .i8 (p5.frm+p5.to)).tdiv 2)))&&(ok66 (Pos.mk p3.variant p3.board p3.promoted p3.pockets p3.turn p3.rooks (-1) p3.checks p3.half p3.full) (wr .u8 (1 - p3.turn)) (1)&&true))) else (ok107 (p3.turn) (wr .i64 (wr .i8 ((wr .i8 (p5.frm+p5.to)).tdiv 2)))&&(ok66 (Pos.mk p3.variant p3.board p3.promoted p3.pockets p3.turn p3.rooks (-1) p3.checks p3.half p3.full) (wr .u8 (1 - p3.turn)) (1)&&true))))))))
abbrev DF22_9 {α:Type} (k:Pos→Mv→Pos→Pos→Mv→Int→α) (s:St):α:=wP s 0 fun q0=>wP s 3 fun q3=>wM s 1 fun q1=>k q0 q1 q3 (Kz.Pos.mk (tI (tH s 3 10)) (tN (tH s 3 11)) (tU (tH s 3 12)) (tN (tH s 3 13)) (tI (tH s 3 14)) (tN (tH s 3 15)) (tI (tH s 3 16)) (tN (tH s 3 17)) (tI (tH s 3 18)) (tI (tH s 3 19))) (Kz.Mv.mk (tI (tH s 3 20)) (tI (tH s 3 21)) (tI (tH s 3 22)) (tI (tH s 3 23)) (tB (tH s 3 24))) (tI (tH s 3 25))
theorem PF22_9 (p1:Pos) (p2:Mv) (p3:Pos) (p4:Pos) (p5:Mv) (p6:Int) (h:okF22_9 p1 p2 p3 p4 p5 p6=true):FSpec Pz 50 (A22_9 p1 p2 p3 p4 p5 p6) (H22_9 p1 p2 p3 p4 p5 p6) (O22_9 p1 p2 p3 p4 p5 p6 (vF22_9 p1 p2 p3 p4 p5 p6))∧∃ fn,Pz.funcs[50]?=some fn∧fn.body.isSome=true:=fs_sumd (n:=14) (O:=O22_9 p1 p2 p3 p4 p5 p6) hB22_9 (fun o=>match o with | .ret v h=>(let s:St:=⟨[v],h⟩; wP s 3 fun q3=>some q3) | _=>none) (fun _=>rfl) (by kernel_rfl) (by kernel_rfl) (by kernel_rfl) (by kernel_rfl) h
noncomputable def FF22_9 (xs:List AV) (h:Hp):Tr FRes:=DF22_9 (fun p1 p2 p3 p4 p5 p6=>fk xs h (A22_9 p1 p2 p3 p4 p5 p6) (H22_9 p1 p2 p3 p4 p5 p6) (okF22_9 p1 p2 p3 p4 p5 p6) (O22_9 p1 p2 p3 p4 p5 p6) (vF22_9 p1 p2 p3 p4 p5 p6)) ⟨xs,h⟩
theorem sFF22_9:FSound Pz 50 FF22_9:=fun _ _ _ h=>fk_ok (PF22_9 _ _ _ _ _ _) h
noncomputable def B22_10:Base:=baseOf Pz (fun f i=>lkC f i K22) [(109,G109),(45,G45),(41,G41),(40,G40),(66,G66),(91,G91),(99,G99),(100,G100),(101,G101),(103,G103),(65,G65),(104,G104),(106,G106),(107,G107),(108,G108)] [(48,2,F22_3),(49,7,F22_6),(49,3,F22_7)] [(46,FF22_1),(47,FF22_2),(48,FF22_4),(49,FF22_8),(50,FF22_9)]
theorem hB22_10:BOk B22_10:=base_ok named_z ⟨s109,s45,s41,s40,s66,s91,s99,s100,s101,s103,s65,s104,s106,s107,s108,trivial⟩ ⟨sF22_3,sF22_6,sF22_7,trivial⟩ ⟨sFF22_1,sFF22_2,sFF22_4,sFF22_8,sFF22_9,trivial⟩
noncomputable def A22_10 (p1:Pos) (p2:Mv) (p3:Pos) (p4:Pos) (p5:Mv) (p6:Int):List AV:=[AV.ptr 3 0]
noncomputable def H22_10 (p1:Pos) (p2:Mv) (p3:Pos) (p4:Pos) (p5:Mv) (p6:Int):Hp:=Hp.mk [(pc p1 []),[AV.int .i8 p2.frm,AV.int .i8 p2.to,AV.int .u8 p2.pro,AV.int .u8 p2.drp,AV.bool p2.cas],[AV.int .u8 0,AV.ints .u8 64 (li (List.replicate 64 0)),AV.u64 0,AV.ints .u8 12 (li [0,0,0,0,0,0,0,0,0,0,0,0]),AV.int .u8 0,AV.ints .i8 4 (li [0,0,0,0]),AV.int .i8 0,AV.ints .u8 2 (li [0,0]),AV.int .i64 0,AV.int .i64 0],(pc p3 (pc p4 [AV.int .i8 p5.frm,AV.int .i8 p5.to,AV.int .u8 p5.pro,AV.int .u8 p5.drp,AV.bool p5.cas,AV.int .i64 p6]))] [] [] 0 0 0
noncomputable def O22_10 (p1:Pos) (p2:Mv) (p3:Pos) (p4:Pos) (p5:Mv) (p6:Int) (y:(Pos)):FRes := .ret (AV.tuple []) (Hp.mk [(pc p1 []),[AV.int .i8 p2.frm,AV.int .i8 p2.to,AV.int .u8 p2.pro,AV.int .u8 p2.drp,AV.bool p2.cas],[AV.int .u8 0,AV.ints .u8 64 (li (List.replicate 64 0)),AV.u64 0,AV.ints .u8 12 (li [0,0,0,0,0,0,0,0,0,0,0,0]),AV.int .u8 0,AV.ints .i8 4 (li [0,0,0,0]),AV.int .i8 0,AV.ints .u8 2 (li [0,0]),AV.int .i64 0,AV.int .i64 0],(pc y (pc p4 [AV.int .i8 p5.frm,AV.int .i8 p5.to,AV.int .u8 p5.pro,AV.int .u8 p5.drp,AV.bool p5.cas,AV.int .i64 p6]))] [] [] 0 0 0)
noncomputable def vF22_10 (p1:Pos) (p2:Mv) (p3:Pos) (p4:Pos) (p5:Mv) (p6:Int):(Pos):=(bif p5.drp != 0 then (bif p5.drp==1 then (bif p3.turn==1 then (Pos.mk p3.variant p3.board p3.promoted p3.pockets p3.turn p3.rooks p3.passing p3.checks 0 (N108 p3.full)) else (Pos.mk p3.variant p3.board p3.promoted p3.pockets p3.turn p3.rooks p3.passing p3.checks 0 p3.full)) else (bif decide (p6 ≥ 0) then (bif p3.turn==1 then (Pos.mk p3.variant p3.board p3.promoted p3.pockets p3.turn p3.rooks p3.passing p3.checks 0 (N108 p3.full)) else (Pos.mk p3.variant p3.board p3.promoted p3.pockets p3.turn p3.rooks p3.passing p3.checks 0 p3.full)) else (bif p3.turn==1 then (Pos.mk p3.variant p3.board p3.promoted p3.pockets p3.turn p3.rooks p3.passing p3.checks (N108 p3.half) (N108 p3.full)) else (Pos.mk p3.variant p3.board p3.promoted p3.pockets p3.turn p3.rooks p3.passing p3.checks (N108 p3.half) p3.full)))) else (bif N91 (p4.board.getD (scale 1 p5.frm).toNat 0)==1 then (bif p3.turn==1 then (Pos.mk p3.variant p3.board p3.promoted p3.pockets p3.turn p3.rooks p3.passing p3.checks 0 (N108 p3.full)) else (Pos.mk p3.variant p3.board p3.promoted p3.pockets p3.turn p3.rooks p3.passing p3.checks 0 p3.full)) else (bif decide (p6 ≥ 0) then (bif p3.turn==1 then (Pos.mk p3.variant p3.board p3.promoted p3.pockets p3.turn p3.rooks p3.passing p3.checks 0 (N108 p3.full)) else (Pos.mk p3.variant p3.board p3.promoted p3.pockets p3.turn p3.rooks p3.passing p3.checks 0 p3.full)) else (bif p3.turn==1 then (Pos.mk p3.variant p3.board p3.promoted p3.pockets p3.turn p3.rooks p3.passing p3.checks (N108 p3.half) (N108 p3.full)) else (Pos.mk p3.variant p3.board p3.promoted p3.pockets p3.turn p3.rooks p3.passing p3.checks (N108 p3.half) p3.full)))))
noncomputable def okF22_10 (p1:Pos) (p2:Mv) (p3:Pos) (p4:Pos) (p5:Mv) (p6:Int):Bool:=(bif p5.drp != 0 then true else (decide (0≤p5.frm)&&decide (p5.frm < Int.ofNat 64)&&true))
abbrev DF22_10 {α:Type} (k:Pos→Mv→Pos→Pos→Mv→Int→α) (s:St):α:=wP s 0 fun q0=>wP s 3 fun q3=>wM s 1 fun q1=>k q0 q1 q3 (Kz.Pos.mk (tI (tH s 3 10)) (tN (tH s 3 11)) (tU (tH s 3 12)) (tN (tH s 3 13)) (tI (tH s 3 14)) (tN (tH s 3 15)) (tI (tH s 3 16)) (tN (tH s 3 17)) (tI (tH s 3 18)) (tI (tH s 3 19))) (Kz.Mv.mk (tI (tH s 3 20)) (tI (tH s 3 21)) (tI (tH s 3 22)) (tI (tH s 3 23)) (tB (tH s 3 24))) (tI (tH s 3 25))
theorem PF22_10 (p1:Pos) (p2:Mv) (p3:Pos) (p4:Pos) (p5:Mv) (p6:Int) (h:okF22_10 p1 p2 p3 p4 p5 p6=true):FSpec Pz 51 (A22_10 p1 p2 p3 p4 p5 p6) (H22_10 p1 p2 p3 p4 p5 p6) (O22_10 p1 p2 p3 p4 p5 p6 (vF22_10 p1 p2 p3 p4 p5 p6))∧∃ fn,Pz.funcs[51]?=some fn∧fn.body.isSome=true:=fs_sumd (n:=14) (O:=O22_10 p1 p2 p3 p4 p5 p6) hB22_10 (fun o=>match o with | .ret v h=>(let s:St:=⟨[v],h⟩; wP s 3 fun q3=>some q3) | _=>none) (fun _=>rfl) (by kernel_rfl) (by kernel_rfl) (by kernel_rfl) (by kernel_rfl) h
noncomputable def FF22_10 (xs:List AV) (h:Hp):Tr FRes:=DF22_10 (fun p1 p2 p3 p4 p5 p6=>fk xs h (A22_10 p1 p2 p3 p4 p5 p6) (H22_10 p1 p2 p3 p4 p5 p6) (okF22_10 p1 p2 p3 p4 p5 p6) (O22_10 p1 p2 p3 p4 p5 p6) (vF22_10 p1 p2 p3 p4 p5 p6)) ⟨xs,h⟩
theorem sFF22_10:FSound Pz 51 FF22_10:=fun _ _ _ h=>fk_ok (PF22_10 _ _ _ _ _ _) h
noncomputable def B22_11:Base:=baseOf Pz (fun f i=>lkC f i K22) [(109,G109),(45,G45),(41,G41),(40,G40),(66,G66),(91,G91),(99,G99),(100,G100),(101,G101),(103,G103),(65,G65),(104,G104),(106,G106),(107,G107),(108,G108)] [(48,2,F22_3),(49,7,F22_6),(49,3,F22_7)] [(46,FF22_1),(47,FF22_2),(48,FF22_4),(49,FF22_8),(50,FF22_9),(51,FF22_10)]
theorem hB22_11:BOk B22_11:=base_ok named_z ⟨s109,s45,s41,s40,s66,s91,s99,s100,s101,s103,s65,s104,s106,s107,s108,trivial⟩ ⟨sF22_3,sF22_6,sF22_7,trivial⟩ ⟨sFF22_1,sFF22_2,sFF22_4,sFF22_8,sFF22_9,sFF22_10,trivial⟩
noncomputable def A22_11 (p1:Pos) (p2:Mv) (p3:Pos) (p4:Pos) (p5:Mv) (p6:Int):List AV:=[AV.ptr 3 0]
noncomputable def H22_11 (p1:Pos) (p2:Mv) (p3:Pos) (p4:Pos) (p5:Mv) (p6:Int):Hp:=Hp.mk [(pc p1 []),[AV.int .i8 p2.frm,AV.int .i8 p2.to,AV.int .u8 p2.pro,AV.int .u8 p2.drp,AV.bool p2.cas],[AV.int .u8 0,AV.ints .u8 64 (li (List.replicate 64 0)),AV.u64 0,AV.ints .u8 12 (li [0,0,0,0,0,0,0,0,0,0,0,0]),AV.int .u8 0,AV.ints .i8 4 (li [0,0,0,0]),AV.int .i8 0,AV.ints .u8 2 (li [0,0]),AV.int .i64 0,AV.int .i64 0],(pc p3 (pc p4 [AV.int .i8 p5.frm,AV.int .i8 p5.to,AV.int .u8 p5.pro,AV.int .u8 p5.drp,AV.bool p5.cas,AV.int .i64 p6]))] [] [] 0 0 0
noncomputable def O22_11 (p1:Pos) (p2:Mv) (p3:Pos) (p4:Pos) (p5:Mv) (p6:Int) (y:(Pos)):FRes := .ret (AV.tuple []) (Hp.mk [(pc p1 []),[AV.int .i8 p2.frm,AV.int .i8 p2.to,AV.int .u8 p2.pro,AV.int .u8 p2.drp,AV.bool p2.cas],[AV.int .u8 0,AV.ints .u8 64 (li (List.replicate 64 0)),AV.u64 0,AV.ints .u8 12 (li [0,0,0,0,0,0,0,0,0,0,0,0]),AV.int .u8 0,AV.ints .i8 4 (li [0,0,0,0]),AV.int .i8 0,AV.ints .u8 2 (li [0,0]),AV.int .i64 0,AV.int .i64 0],(pc y (pc p4 [AV.int .i8 p5.frm,AV.int .i8 p5.to,AV.int .u8 p5.pro,AV.int .u8 p5.drp,AV.bool p5.cas,AV.int .i64 p6]))] [] [] 0 0 0)
noncomputable def vF22_11 (p1:Pos) (p2:Mv) (p3:Pos) (p4:Pos) (p5:Mv) (p6:Int):(Pos):=(bif p3.variant==5 then (bif decide (p3.checks.getD (scale 1 (wr .u8 (1 - wr .u8 (1 - p3.turn)))).toNat 0 < 3) then (bif N109 (Pos.mk p3.variant p3.board p3.promoted p3.pockets (wr .u8 (1 - p3.turn)) p3.rooks p3.passing p3.checks p3.half p3.full) (wr .u8 (1 - p3.turn)) then (Pos.mk p3.variant p3.board p3.promoted p3.pockets (wr .u8 (1 - p3.turn)) p3.rooks p3.passing (p3.checks.set (scale 1 (wr .u8 (1 - wr .u8 (1 - p3.turn)))).toNat (wr .u8 (p3.checks.getD (scale 1 (wr .u8 (1 - wr .u8 (1 - p3.turn)))).toNat 0+1))) p3.half p3.full) else (Pos.mk p3.variant p3.board p3.promoted p3.pockets (wr .u8 (1 - p3.turn)) p3.rooks p3.passing p3.checks p3.half p3.full)) else (Pos.mk p3.variant p3.board p3.promoted p3.pockets (wr .u8 (1 - p3.turn)) p3.rooks p3.passing p3.checks p3.half p3.full)) else (Pos.mk p3.variant p3.board p3.promoted p3.pockets (wr .u8 (1 - p3.turn)) p3.rooks p3.passing p3.checks p3.half p3.full))
noncomputable def okF22_11 (p1:Pos) (p2:Mv) (p3:Pos) (p4:Pos) (p5:Mv) (p6:Int):Bool:=(bif p3.variant==5 then (decide (0≤wr .u8 (1 - wr .u8 (1 - p3.turn)))&&decide (wr .u8 (1 - wr .u8 (1 - p3.turn)) < Int.ofNat 2)&&(bif decide (p3.checks.getD (scale 1 (wr .u8 (1 - wr .u8 (1 - p3.turn)))).toNat 0 < 3) then (ok109 (Pos.mk p3.variant p3.board p3.promoted p3.pockets (wr .u8 (1 - p3.turn)) p3.rooks p3.passing p3.checks p3.half p3.full) (wr .u8 (1 - p3.turn))&&(bif N109 (Pos.mk p3.variant p3.board p3.promoted p3.pockets (wr .u8 (1 - p3.turn)) p3.rooks p3.passing p3.checks p3.half p3.full) (wr .u8 (1 - p3.turn)) then (decide (0≤wr .u8 (1 - wr .u8 (1 - p3.turn)))&&decide (wr .u8 (1 - wr .u8 (1 - p3.turn)) < Int.ofNat 2)&&(decide (0≤wr .u8 (1 - wr .u8 (1 - p3.turn)))&&decide (wr .u8 (1 - wr .u8 (1 - p3.turn)) < Int.ofNat 2)&&true)) else true)) else true)) else true)
abbrev DF22_11 {α:Type} (k:Pos→Mv→Pos→Pos→Mv→Int→α) (s:St):α:=wP s 0 fun q0=>wP s 3 fun q3=>wM s 1 fun q1=>k q0 q1 q3 (Kz.Pos.mk (tI (tH s 3 10)) (tN (tH s 3 11)) (tU (tH s 3 12)) (tN (tH s 3 13)) (tI (tH s 3 14)) (tN (tH s 3 15)) (tI (tH s 3 16)) (tN (tH s 3 17)) (tI (tH s 3 18)) (tI (tH s 3 19))) (Kz.Mv.mk (tI (tH s 3 20)) (tI (tH s 3 21)) (tI (tH s 3 22)) (tI (tH s 3 23)) (tB (tH s 3 24))) (tI (tH s 3 25))
theorem PF22_11 (p1:Pos) (p2:Mv) (p3:Pos) (p4:Pos) (p5:Mv) (p6:Int) (h:okF22_11 p1 p2 p3 p4 p5 p6=true):FSpec Pz 52 (A22_11 p1 p2 p3 p4 p5 p6) (H22_11 p1 p2 p3 p4 p5 p6) (O22_11 p1 p2 p3 p4 p5 p6 (vF22_11 p1 p2 p3 p4 p5 p6))∧∃ fn,Pz.funcs[52]?=some fn∧fn.body.isSome=true:=fs_sumd (n:=14) (O:=O22_11 p1 p2 p3 p4 p5 p6) hB22_11 (fun o=>match o with | .ret v h=>(let s:St:=⟨[v],h⟩; wP s 3 fun q3=>some q3) | _=>none) (fun _=>rfl) (by kernel_rfl) (by kernel_rfl) (by kernel_rfl) (by kernel_rfl) h
noncomputable def FF22_11 (xs:List AV) (h:Hp):Tr FRes:=DF22_11 (fun p1 p2 p3 p4 p5 p6=>fk xs h (A22_11 p1 p2 p3 p4 p5 p6) (H22_11 p1 p2 p3 p4 p5 p6) (okF22_11 p1 p2 p3 p4 p5 p6) (O22_11 p1 p2 p3 p4 p5 p6) (vF22_11 p1 p2 p3 p4 p5 p6)) ⟨xs,h⟩
theorem sFF22_11:FSound Pz 52 FF22_11:=fun _ _ _ h=>fk_ok (PF22_11 _ _ _ _ _ _) h
noncomputable def B22:Base:=baseOf Pz (fun f i=>lkC f i K22) [(109,G109),(45,G45),(41,G41),(40,G40),(66,G66),(91,G91),(99,G99),(100,G100),(101,G101),(103,G103),(65,G65),(104,G104),(106,G106),(107,G107),(108,G108)] [(48,2,F22_3),(49,7,F22_6),(49,3,F22_7)] [(46,FF22_1),(47,FF22_2),(48,FF22_4),(49,FF22_8),(50,FF22_9),(51,FF22_10),(52,FF22_11)]
theorem hB22:BOk B22:=base_ok named_z ⟨s109,s45,s41,s40,s66,s91,s99,s100,s101,s103,s65,s104,s106,s107,s108,trivial⟩ ⟨sF22_3,sF22_6,sF22_7,trivial⟩ ⟨sFF22_1,sFF22_2,sFF22_4,sFF22_8,sFF22_9,sFF22_10,sFF22_11,trivial⟩
noncomputable def N22 (a:Pos) (b:Mv):(Pos×Bool):=(bif !N41 (N45 a) b then (⟨(a.variant),(a.board),(a.promoted),(a.pockets),(a.turn),(a.rooks),(a.passing),(a.checks),(a.half),(a.full)⟩,(false)) else (⟨((vF22_11 a b (vF22_10 a b (vF22_9 a b (vF22_8 a b (vF22_4 a b (vF22_2 a b (vF22_1 a b a a b (N40 a b)) a b (N40 a b)) a b (N40 a b)) a b (N40 a b)) a b (N40 a b)) a b (N40 a b)) a b (N40 a b)).variant),((vF22_11 a b (vF22_10 a b (vF22_9 a b (vF22_8 a b (vF22_4 a b (vF22_2 a b (vF22_1 a b a a b (N40 a b)) a b (N40 a b)) a b (N40 a b)) a b (N40 a b)) a b (N40 a b)) a b (N40 a b)) a b (N40 a b)).board),((vF22_11 a b (vF22_10 a b (vF22_9 a b (vF22_8 a b (vF22_4 a b (vF22_2 a b (vF22_1 a b a a b (N40 a b)) a b (N40 a b)) a b (N40 a b)) a b (N40 a b)) a b (N40 a b)) a b (N40 a b)) a b (N40 a b)).promoted),((vF22_11 a b (vF22_10 a b (vF22_9 a b (vF22_8 a b (vF22_4 a b (vF22_2 a b (vF22_1 a b a a b (N40 a b)) a b (N40 a b)) a b (N40 a b)) a b (N40 a b)) a b (N40 a b)) a b (N40 a b)) a b (N40 a b)).pockets),((vF22_11 a b (vF22_10 a b (vF22_9 a b (vF22_8 a b (vF22_4 a b (vF22_2 a b (vF22_1 a b a a b (N40 a b)) a b (N40 a b)) a b (N40 a b)) a b (N40 a b)) a b (N40 a b)) a b (N40 a b)) a b (N40 a b)).turn),((vF22_11 a b (vF22_10 a b (vF22_9 a b (vF22_8 a b (vF22_4 a b (vF22_2 a b (vF22_1 a b a a b (N40 a b)) a b (N40 a b)) a b (N40 a b)) a b (N40 a b)) a b (N40 a b)) a b (N40 a b)) a b (N40 a b)).rooks),((vF22_11 a b (vF22_10 a b (vF22_9 a b (vF22_8 a b (vF22_4 a b (vF22_2 a b (vF22_1 a b a a b (N40 a b)) a b (N40 a b)) a b (N40 a b)) a b (N40 a b)) a b (N40 a b)) a b (N40 a b)) a b (N40 a b)).passing),((vF22_11 a b (vF22_10 a b (vF22_9 a b (vF22_8 a b (vF22_4 a b (vF22_2 a b (vF22_1 a b a a b (N40 a b)) a b (N40 a b)) a b (N40 a b)) a b (N40 a b)) a b (N40 a b)) a b (N40 a b)) a b (N40 a b)).checks),((vF22_11 a b (vF22_10 a b (vF22_9 a b (vF22_8 a b (vF22_4 a b (vF22_2 a b (vF22_1 a b a a b (N40 a b)) a b (N40 a b)) a b (N40 a b)) a b (N40 a b)) a b (N40 a b)) a b (N40 a b)) a b (N40 a b)).half),((vF22_11 a b (vF22_10 a b (vF22_9 a b (vF22_8 a b (vF22_4 a b (vF22_2 a b (vF22_1 a b a a b (N40 a b)) a b (N40 a b)) a b (N40 a b)) a b (N40 a b)) a b (N40 a b)) a b (N40 a b)) a b (N40 a b)).full)⟩,(true)))
noncomputable def ok22 (a:Pos) (b:Mv):Bool:=(ok45 (a)&&(ok41 (N45 a) (b)&&(bif !N41 (N45 a) b then true else (ok40 (a) (b)&&(okF22_1 (a) (b) (a) (a) (b) (N40 a b)&&(okF22_2 (a) (b) (vF22_1 a b a a b (N40 a b)) (a) (b) (N40 a b)&&(okF22_4 (a) (b) (vF22_2 a b (vF22_1 a b a a b (N40 a b)) a b (N40 a b)) (a) (b) (N40 a b)&&(okF22_8 (a) (b) (vF22_4 a b (vF22_2 a b (vF22_1 a b a a b (N40 a b)) a b (N40 a b)) a b (N40 a b)) (a) (b) (N40 a b)&&(okF22_9 (a) (b) (vF22_8 a b (vF22_4 a b (vF22_2 a b (vF22_1 a b a a b (N40 a b)) a b (N40 a b)) a b (N40 a b)) a b (N40 a b)) (a) (b) (N40 a b)&&(okF22_10 (a) (b) (vF22_9 a b (vF22_8 a b (vF22_4 a b (vF22_2 a b (vF22_1 a b a a b (N40 a b)) a b (N40 a b)) a b (N40 a b)) a b (N40 a b)) a b (N40 a b)) (a) (b) (N40 a b)&&(okF22_11 (a) (b) (vF22_10 a b (vF22_9 a b (vF22_8 a b (vF22_4 a b (vF22_2 a b (vF22_1 a b a a b (N40 a b)) a b (N40 a b)) a b (N40 a b)) a b (N40 a b)) a b (N40 a b)) a b (N40 a b)) (a) (b) (N40 a b)&&true)))))))))))
theorem P22 (a:Pos) (b:Mv) (h:ok22 a b=true):PS Pz 22 [Pos.av a,Mv.av b] ((d2 dPos dB).res (N22 a b)):=ps_sum (n:=14) hB22 (by kernel_rfl) (by kernel_rfl) (by kernel_rfl) h
noncomputable def G22:List AV→Tr AV:=g2 dPos dMv (fun a b=>gdv (ok22 a b) ((d2 dPos dB).res (N22 a b)))
theorem s22:Sound Pz 22 G22:=sound2 fun a b=>at_gd (P22 a b)
noncomputable def K86:List (Nat×Nat×List (Nat×List Nat)):=[(86,52,[(0,(2::3::(rn 30 10 (rn 45 6 [])))),(1,(2::5::6::(rn 30 10 (rn 45 6 [])))),(2,(2::5::14::(rn 30 10 (rn 45 6 [])))),(3,[4]),(4,(2::5::19::(rn 30 10 (rn 45 6 [])))),(5,(2::5::24::(rn 30 10 (rn 45 6 [])))),(6,[4]),(7,(2::5::40::(rn 45 6 []))),(8,[4]),(9,[4])])]
noncomputable def B86:Base:=baseOf Pz (fun f i=>lkC f i K86) [(22,G22),(80,G80),(109,G109),(81,G81)] [] []
theorem hB86:BOk B86:=base_ok named_z ⟨s22,s80,s109,s81,trivial⟩ trivial trivial
noncomputable def N86 (a:Pos) (b:Mv):Bool:=(bif !(N22 a b).snd then (false) else (bif N80 a.variant a.turn then (bif !N81 (N22 a b).fst a.turn then (false) else (bif N109 (N22 a b).fst a.turn then (bif a.variant != 3 then (false) else (bif N81 (N22 a b).fst (wr .u8 (1 - a.turn)) then (false) else (bif a.variant != 8 then (true) else (!N109 (N22 a b).fst (wr .u8 (1 - a.turn)))))) else (bif a.variant != 8 then (true) else (!N109 (N22 a b).fst (wr .u8 (1 - a.turn)))))) else (bif a.variant != 8 then (true) else (!N109 (N22 a b).fst (wr .u8 (1 - a.turn))))))
noncomputable def ok86 (a:Pos) (b:Mv):Bool:=(ok22 (a) (b)&&(bif !(N22 a b).snd then true else (ok80 (a.variant) (a.turn)&&(bif N80 a.variant a.turn then (ok81 ((N22 a b).fst) (a.turn)&&(bif !N81 (N22 a b).fst a.turn then true else (ok109 ((N22 a b).fst) (a.turn)&&(bif N109 (N22 a b).fst a.turn then (bif a.variant != 3 then true else (ok81 ((N22 a b).fst) (wr .u8 (1 - a.turn))&&(bif N81 (N22 a b).fst (wr .u8 (1 - a.turn)) then true else (bif a.variant != 8 then true else (ok109 ((N22 a b).fst) (wr .u8 (1 - a.turn))&&true))))) else (bif a.variant != 8 then true else (ok109 ((N22 a b).fst) (wr .u8 (1 - a.turn))&&true)))))) else (bif a.variant != 8 then true else (ok109 ((N22 a b).fst) (wr .u8 (1 - a.turn))&&true))))))
theorem P86 (a:Pos) (b:Mv) (h:ok86 a b=true):PS Pz 86 [Pos.av a,Mv.av b] (dB.res (N86 a b)):=ps_sum (n:=14) hB86 (by kernel_rfl) (by kernel_rfl) (by kernel_rfl) h
noncomputable def G86:List AV→Tr AV:=g2 dPos dMv (fun a b=>gdv (ok86 a b) (dB.res (N86 a b)))
theorem s86:Sound Pz 86 G86:=sound2 fun a b=>at_gd (P86 a b)
end Kz
end
section
namespace Go.Proofs
open Go.Shelf Go.RowKit Go.Lib Go.Sort
def encM (m:Kz.Mv):List Value:=[.int .i8 m.frm,.int .i8 m.to,.int .u8 m.pro,.int .u8 m.drp,.bool m.cas]
theorem encM_len (m:Kz.Mv):(encM m).length=5:=rfl
structure RowW (w:World) (blk cap:Nat) (ty:TypeId) (dk:Array Kz.Mv) (W:World):Prop where
  os:W.os=w.os
  tape:W.tape=w.tape
  output:W.output=w.output
  size:w.heap.size≤W.heap.size
  other:∀ k,k < w.heap.size→k≠blk→W.heap[k]?=w.heap[k]?
  row:∃ cur,W.heap[blk]?=some (.cells cur ty (0,0))∧cur.size=cap * 5∧∀ j c,j < dk.size→c < 5→cur[j * 5+c]?=(encM dk[j]!)[c]?
theorem RowW.below {w W W':World} {blk cap:Nat} {ty:TypeId} {dk:Array Kz.Mv} (h:RowW w blk cap ty dk W) (hb:blk < w.heap.size) (b:Below W.heap.size W W'):RowW w blk cap ty dk W' :=
  ⟨b.os.trans h.os,b.tape.trans h.tape,b.output.trans h.output,Nat.le_trans h.size b.size,fun k hk hn=>by rw [b.block k (Nat.lt_of_lt_of_le hk h.size)]; exact h.other k hk hn,by
    obtain ⟨cur,h1,h2⟩:=h.row
    exact ⟨cur,by rw [b.block blk (Nat.lt_of_lt_of_le hb h.size)]; exact h1,h2⟩⟩
theorem RowW.setCells {w W:World} {blk cap:Nat} {ty:TypeId} {dk dk':Array Kz.Mv} (h:RowW w blk cap ty dk W) (vs:List Value) (o:Nat)
    (hd:∀ j c,j < dk'.size→c < 5→j < dk.size∧(if o≤j * 5+c∧j * 5+c < o+vs.length then vs[j * 5+c - o]? else (encM dk[j]!)[c]?)=(encM dk'[j]!)[c]?) (hlen:o+vs.length≤cap * 5):RowW w blk cap ty dk' (W.setCells blk o vs):=by
  obtain ⟨cur,h1,h2,h3⟩:=h.row
  have hb:=Kz.lt_of_some h1
  have key:∀ (vs:List Value) (o:Nat) (W:World) (cur:Array Value),W.heap[blk]?=some (.cells cur ty (0,0))→o+vs.length≤cur.size →
      ∃ cur',W.setCells blk o vs=Kz.putBlk W blk (.cells cur' ty (0,0))∧cur'.size=cur.size∧∀ t,t < cur.size→cur'[t]?=if o≤t∧t < o+vs.length then vs[t - o]? else cur[t]? := by
    intro vs
    induction vs with
    | nil =>
      intro o W cur hW _
      refine ⟨cur,?_,rfl,fun t _=>by rw [if_neg (by simp)]⟩
      rw [World.setCells]
      simp only [Kz.putBlk]
      have:W.heap.setIfInBounds blk (.cells cur ty (0,0))=W.heap:=by
        apply Array.ext_getElem?
        intro i
        rw [Array.getElem?_setIfInBounds]
        split
        · rename_i e; subst e; split
          · exact hW.symm
          · rename_i h'; simp [Array.getElem?_eq_none (by omega:W.heap.size≤blk)]
        · rfl
      rw [this]
    | cons v vs ih =>
      intro o W cur hW hl
      simp only [List.length_cons] at hl
      have e1:W.setCell ⟨blk,o,none⟩ v=Kz.putBlk W blk (.cells (cur.setIfInBounds o v) ty (0,0)):=Kz.setCell_eq_put hW v
      obtain ⟨cur',a1,a2,a3⟩:=ih (o+1) (Kz.putBlk W blk (.cells (cur.setIfInBounds o v) ty (0,0))) (cur.setIfInBounds o v) (Kz.putBlk_same hW) (by simp; omega)
      refine ⟨cur',?_,by rw [a2]; simp,fun t ht => ?_⟩
      · rw [World.setCells,e1,a1]
        simp [Kz.putBlk]
      · rw [a3 t (by simpa using ht)]
        by_cases h1:o+1≤t∧t < o+1+vs.length
        · rw [if_pos h1,if_pos ⟨by omega,by simp; omega⟩]
          obtain ⟨u,rfl⟩:∃ u,t=o+1+u:=⟨t - (o+1),by omega⟩
          rw [show o+1+u - (o+1)=u by omega,show o+1+u - o=u+1 by omega]
          simp
        · rw [if_neg h1,Array.getElem?_setIfInBounds]
          by_cases h2:o=t
          · subst h2
            rw [if_pos rfl,if_pos (by omega),if_pos ⟨Nat.le_refl _,by simp⟩]
            simp
          · rw [if_neg h2,if_neg (by simp; omega)]
  obtain ⟨cur',a1,a2,a3⟩:=key vs o W cur h1 (by omega)
  rw [a1]
  refine ⟨h.os,h.tape,h.output,by rw [Kz.putBlk_size]; exact h.size,fun k hk hn=>by rw [Kz.putBlk_other hn]; exact h.other k hk hn,cur',Kz.putBlk_same h1,by rw [a2,h2],fun j c hj hc => ?_⟩
  obtain ⟨hj',he⟩:=hd j c hj hc
  have hlt:j * 5+c < cur.size:=by
    rcases Nat.lt_or_ge (j * 5+c) cur.size with h' | h'
    · exact h'
    · have:=h3 j c hj' hc
      rw [Array.getElem?_eq_none h',List.getElem?_eq_getElem (by rw [encM_len]; exact hc)] at this
      cases this
  rw [a3 _ hlt,h3 j c hj' hc]
  exact he
theorem RowW.put {w W:World} {blk cap:Nat} {ty:TypeId} {dk:Array Kz.Mv} (h:RowW w blk cap ty dk W) {i:Nat} (hi:i < dk.size) (hc:dk.size≤cap) (u:Kz.Mv):RowW w blk cap ty (dk.setIfInBounds i u) (W.setCells blk (i * 5) (encM u)):=by
  refine h.setCells (encM u) (i * 5) (fun j c hj hc => ?_) (by rw [encM_len]; have:=Nat.mul_le_mul_right 5 (show i+1≤cap by omega); omega)
  have hj':j < dk.size:=by simpa using hj
  refine ⟨hj',?_⟩
  rw [encM_len]
  by_cases e:i=j
  · subst e
    rw [if_pos ⟨by omega,by omega⟩,show i * 5+c - i * 5=c by omega,getElem!_pos (dk.setIfInBounds i u) i hj]
    simp
  · rw [if_neg (by omega),getElem!_pos (dk.setIfInBounds i u) j hj,getElem!_pos dk j hj',Array.getElem_setIfInBounds_ne _ e]
theorem RowW.tail {w W:World} {blk cap:Nat} {ty:TypeId} {dk:Array Kz.Mv} (h:RowW w blk cap ty dk W) {i n:Nat} (hn:i+n≤cap) (hi:i≤dk.size) (vs:List Value) (hl:vs.length=n * 5):RowW w blk cap ty (dk.toList.take i).toArray (W.setCells blk (i * 5) vs):=by
  refine h.setCells vs (i * 5) (fun j c hj hc => ?_) (by rw [hl,← Nat.add_mul]; exact Nat.mul_le_mul_right 5 hn)
  have hj':j < i:=by simp at hj; omega
  refine ⟨by omega,?_⟩
  rw [if_neg (by omega)]
  congr 2
  rw [getElem!_pos dk j (show j < dk.size by omega),getElem!_pos (dk.toList.take i).toArray j hj]
  simp
theorem RowW.same {w W:World} {blk cap:Nat} {ty:TypeId} {dk:Array Kz.Mv} (h:RowW w blk cap ty dk W) {i:Nat} (hi:i≤dk.size):RowW w blk cap ty (dk.toList.take i).toArray W:=by
  obtain ⟨cur,h1,h2,h3⟩:=h.row
  refine ⟨h.os,h.tape,h.output,h.size,h.other,cur,h1,h2,fun j c hj hc => ?_⟩
  have hj':j < i:=by simp at hj; omega
  rw [h3 j c (by omega) hc]
  congr 2
  rw [getElem!_pos dk j (show j < dk.size by omega),getElem!_pos (dk.toList.take i).toArray j hj]
  simp
def zeroM:Array Value := #[Value.int IntKind.i8 0,Value.int IntKind.i8 0,Value.int IntKind.u8 0,Value.int IntKind.u8 0,Value.bool false]
theorem zeroM_one (n:Nat):∀ v ∈ (Builtin.zeroCells zeroM n).toList,v.oneCell'=true:=by
  intro v hv
  simp only [Builtin.zeroCells,Array.toList_map,List.mem_map] at hv
  obtain ⟨i,_,rfl⟩:=hv
  have:i % zeroM.size < 5:=Nat.mod_lt _ (by decide)
  generalize i % zeroM.size=t at this
  match t,this with
  | 0,_ | 1,_ | 2,_ | 3,_ | 4,_=>rfl
  | t+5,h=>omega
theorem zeroM_len (n:Nat):(Builtin.zeroCells zeroM n).toList.length=n * 5:=by simp [Builtin.zeroCells,zeroM]
theorem run_clear5 (W:World) (b o n c:Nat) (hn:0 < n) (hc:∀ t,t < n * 5→(W.cell? ⟨b,o+t,none⟩).isSome=true) (hf:∀ t,t < n * 5→W.frozen? ⟨b,o+t,none⟩=false) (ty:TypeId) :
    (Builtin.clear_ #[40] ty #[.slice (some ⟨b,o,none⟩) n c]).run Tryz.prog W=.ok (.tuple #[]) (W.setCells b o (Builtin.zeroCells zeroM n).toList):=by
  have hst:=run_storeCells_cells (P:=Tryz.prog) b o (Builtin.zeroCells zeroM n).toList 0 W (by rw [zeroM_len]; simpa using hc) (by rw [zeroM_len]; simpa using hf) (zeroM_one n)
  simp only [Nat.add_zero] at hst
  obtain ⟨m,rfl⟩:∃ m,n=m+1:=⟨n - 1,by omega⟩
  have hz:(Value.agg zeroM).cells=zeroM:=rfl
  have hv:∀ w,(zeroValue 44).run Tryz.prog w=.ok (.agg zeroM) w:=Tryz.zeroValue44
  simp only [zeroM] at hst hz hv
  simp [Builtin.clear_,run_underlying Tryz.underlying40,hv,hz,hst]
  rfl
theorem RowW.cell {w W:World} {blk cap:Nat} {ty:TypeId} {dk:Array Kz.Mv} (h:RowW w blk cap ty dk W) {j:Nat} (hj:j < dk.size) (c:Nat) (hc:c < 5):W.cell? ⟨blk,j * 5+c,none⟩=some ((encM dk[j]!)[c]'hc)∧W.frozen? ⟨blk,j * 5+c,none⟩=false:=by
  obtain ⟨cur,h1,h2,h3⟩:=h.row
  refine ⟨?_,Kz.frozen_of_blk h1⟩
  rw [Kz.cell_of_blk h1,h3 j c hj hc]
  exact List.getElem?_eq_getElem _
theorem RowW.load {w W:World} {blk cap:Nat} {ty:TypeId} {dk:Array Kz.Mv} (h:RowW w blk cap ty dk W) {j:Nat} (hj:j < dk.size):Sem.run Tryz.prog (loadCellsFrom ⟨blk,0+j * 5,none⟩ 0 5 #[]) W=.ok (encM dk[j]!).toArray W :=
  run_loadCellsFrom_list Tryz.prog _ _ (encM dk[j]!) 5 rfl (fun c v hc=>by
    have hc5:c < 5:=(List.getElem?_eq_some_iff.1 hc).1
    obtain ⟨cur,h1,h2,h3⟩:=h.row
    rw [Addr.add_lit]
    rw [Kz.cell_of_blk h1,Nat.zero_add,h3 j c hj hc5]
    exact hc)
set_option maxHeartbeats 1000000 in
set_option maxRecDepth 100000 in
theorem delM (p:Kz.Mv→Bool) (g:Nat) (lb:Array Value) (eg:∀ args w,(callFunc g args).run Tryz.prog w=.ok (.enter g args) w) (blk cap:Nat) (d:Array Kz.Mv) (w:World) (hb:blk < w.heap.size) (hH:RowW w blk cap 44 d w) (hcap:d.size≤cap) (hmax:cap≤maxLen)
    (hpo:∀ W dk x,RowW w blk cap 44 dk W→Calls Tryz.prog g (#[.agg (encM x).toArray]++lb) W fun e w'=>e=.returned (.bool (p x))∧RowKit.Below W.heap.size W w') :
    Calls Tryz.prog 35 #[.slice (some ⟨blk,0,none⟩) d.size cap,.func (.func g) #[] lb] w fun e w'=>e=.returned (.slice (some ⟨blk,0,none⟩) (d.toList.filter fun x => !p x).length cap)∧RowW w blk cap 44 (d.toList.filter fun x => !p x).toArray w':=by
  have hsz:d.size≤9223372036854775807:=by unfold maxLen at hmax; omega
  have e6:∀ args w,(callFunc 77 args).run Tryz.prog w=.ok (.enter 77 args) w:=fun args w=>by rfl
  have hp:PredBelow Tryz.prog g lb (fun x=>.agg (encM x).toArray) p w:=fun W x hB=>(hpo W d x (hH.below hb hB)).mono fun e w' ⟨h1,h2⟩=>⟨h1,hB.trans (h2.mono hB.size)⟩
  have hIF:=AnyQ.slices_IndexFunc Tryz.idxM 5 Tryz.isAgg44 Tryz.sizeOf44 encM encM_len p g lb eg blk 0 d.size cap d.toList w hp (by simp) hsz hb (fun j hj i v hi=>by
    have hi5:i < 5:=(List.getElem?_eq_some_iff.1 hi).1
    have hj':j < d.size:=by simpa using hj
    obtain ⟨cur,h1,h2,h3⟩:=hH.row
    rw [Kz.cell_of_blk h1,Nat.zero_add,h3 j i hj' hi5]
    rw [← hi,getElem!_pos d j hj',getElem!_pos d.toList j hj]
    simp)
  rw [show d.toList.take d.size=d.toList from List.take_of_length_le (by simp)] at hIF
  have tl:∀ j,j < d.size→d.toList[j]! = d[j]! := fun j hj=>by rw [getElem!_pos d j hj,getElem!_pos d.toList j (by simpa using hj)]; simp
  obtain ⟨kp,HK⟩:∃ kp:Nat→Bool,Hid (kp=fun j => !p d[j]!):=⟨_,rfl⟩
  have hfil:(d.toList.filter fun x => !p x)=keptUpTo kp d d.size:=by rw [HK.out]; exact (keptUpTo_filter (fun x => !p x) d).symm
  rw [hfil]
  rcases idxByFrom_spec (fun _ y=>p y) default d.toList 0 with ⟨e1,hall⟩ | ⟨k0,hk0,e1,ht,hall⟩
  ·
    have e2:Lib.idxBy (fun _ y=>p y) d.toList default = -1:=e1
    rw [e2] at hIF
    have hkeep:∀ j,j < d.size→kp j=true:=fun j hj=>by rw [HK.out]; show (!p d[j]!)=true; rw [← tl j hj,hall j (by simpa using hj)]; rfl
    have e3:keptUpTo kp d d.size=d.toList:=by rw [keptUpTo_all kp d _ hkeep,range_map_get]
    have HH:Aside (RowW w blk cap 44 d w):=hH
    have HB:Hid (blk < w.heap.size):=hb
    clear hH hpo hp hb
    go_enter Tryz.func35,Tryz.ntmps35
    go_wp2_with (go_at_fn 77; refine hIF.mono ?_; rintro e w' ⟨rfl,hbl⟩)
    go_ret
    rw [e3]
    exact ⟨by simp,by simpa using HH.out.below HB.out hbl⟩
  · have hk0':k0 < d.size:=by simpa using hk0
    have e2:Lib.idxBy (fun _ y=>p y) d.toList default=(k0:Int):=by unfold Lib.idxBy; rw [e1]; simp
    rw [e2] at hIF
    have hkeep:∀ j,j < k0→kp j=true:=fun j hj=>by rw [HK.out]; show (!p d[j]!)=true; rw [← tl j (by omega),hall j hj]; rfl
    have hdrop:kp k0=false:=by rw [HK.out]; show (!p d[k0]!)=false; rw [← tl k0 hk0']; rw [show p d.toList[k0]! = true from ht]; rfl
    have hne1:((k0:Int) == -1)=false:=beq_eq_false_iff_ne.2 (by omega)
    have HC:Aside _:=hpo
    have HH:Aside (RowW w blk cap 44 d w):=hH
    have HB:Hid (blk < w.heap.size):=hb
    clear hpo hp hH hb hall ht e1 e2 tl
    go_enter Tryz.func35,Tryz.ntmps35
    go_wp2_with (go_at_fn 77; refine hIF.mono ?_; rintro e w' ⟨rfl,hbl⟩)
    have HBL:=Lib.hid hbl
    clear hbl
    go_loopg [5,6,7] d.size (fun gg s5 s6 _ wr => ∃ (i j:Nat) (dk:Array Kz.Mv),s5=.int .i64 i∧s6=.int .i64 j∧j≤d.size∧d.size - j≤gg∧Aside (RowW w blk cap 44 dk wr)∧Aside (KeptInv kp d j i dk))
    case atStart=>exact ⟨k0,k0+1,d,rfl,by go_num,by omega,by omega,HH.out.below HB.out HBL.out,KeptInv.start hkeep hdrop⟩
    case round =>
      obtain ⟨i,j,dk,rfl,rfl,hjd,hgg,W2,I2⟩:=hrel
      have hI:=I2.out
      have hij:=hI.lt
      have hds:=hI.size
      by_cases hlt:j < d.size
      · have hltz:(j:Int) < (d.size:Int):=by omega
        have c0:=(W2.out.cell (j:=j) (by omega) 0 (by omega)).1
        have c1:=(W2.out.cell (j:=j) (by omega) 1 (by omega)).1
        have c2:=(W2.out.cell (j:=j) (by omega) 2 (by omega)).1
        have c3:=(W2.out.cell (j:=j) (by omega) 3 (by omega)).1
        have c4:=(W2.out.cell (j:=j) (by omega) 4 (by omega)).1
        simp only [hI.high j (by omega),encM,List.getElem_cons_succ,List.getElem_cons_zero,Nat.add_zero] at c0 c1 c2 c3 c4
        clear hI
        generalize hu:d[j]! = u at c0 c1 c2 c3 c4
        have C:Aside (d[j]! = u):=hu
        clear hu
        have hW1:RowW w blk cap 44 dk (wr.alloc (Obj.cells #[Value.int IntKind.i8 u.frm,Value.int IntKind.i8 u.to,Value.int IntKind.u8 u.pro,Value.int IntKind.u8 u.drp,Value.bool u.cas] 44)) :=
          W2.out.below HB.out ((Below.refl _ _).alloc (Nat.le_refl _) _)
        have hcall:Calls Tryz.prog g (#[Value.agg #[Value.int IntKind.i8 u.frm,Value.int IntKind.i8 u.to,Value.int IntKind.u8 u.pro,Value.int IntKind.u8 u.drp,Value.bool u.cas]]++lb) _ _:=HC.out _ dk u hW1
        have HW1:=Lib.hid hW1
        clear hW1
        cases hq:p u with
        | false =>
          rw [hq] at hcall
          have HCALL:=Lib.hid hcall
          clear hcall
          go_wp2_with fail
          refine HCALL.out.mono ?_
          rintro e w2 ⟨rfl,hb2⟩
          have hW2:=HW1.out.below HB.out hb2
          have r0:=hW2.cell (j:=i) (by omega) 0 (by omega)
          have r1:=hW2.cell (j:=i) (by omega) 1 (by omega)
          have r2:=hW2.cell (j:=i) (by omega) 2 (by omega)
          have r3:=hW2.cell (j:=i) (by omega) 3 (by omega)
          have r4:=hW2.cell (j:=i) (by omega) 4 (by omega)
          simp only [Nat.add_zero] at r0
          obtain ⟨r0,f0⟩:=r0
          obtain ⟨r1,f1⟩:=r1
          obtain ⟨r2,f2⟩:=r2
          obtain ⟨r3,f3⟩:=r3
          obtain ⟨r4,f4⟩:=r4
          have hcs:∀ c,w2.cell? ⟨wr.heap.size,c,none⟩=(#[Value.int IntKind.i8 u.frm,Value.int IntKind.i8 u.to,Value.int IntKind.u8 u.pro,Value.int IntKind.u8 u.drp,Value.bool u.cas]:Array Value)[c]? := fun c=>by
            rw [hb2.cell (p:=⟨wr.heap.size,c,none⟩) (by simp),Kz.cell_of_blk (heap_alloc_new wr _)]
          have b0:=hcs 0
          have b1:=hcs 1
          have b2:=hcs 2
          have b3:=hcs 3
          have b4:=hcs 4
          simp at b0 b1 b2 b3 b4
          have HW2:=Lib.hid hW2
          clear hcs hb2 hW2
          go_wp2_with fail
          go_roundg (d.size - (j+1))
          case measure=>omega
          case rel =>
            refine ⟨i+1,j+1,dk.setIfInBounds i u,by go_num,by go_num,by omega,Nat.le_refl _,HW2.out.put (i:=i) (by omega) (by omega) u,(show Aside _ from ?_)⟩
            have:=I2.out.keep hlt (by rw [HK.out]; show (!p d[j]!)=true; rw [C.out,hq]; rfl)
            rwa [C.out] at this
        | true =>
          rw [hq] at hcall
          have HCALL:=Lib.hid hcall
          clear hcall
          go_wp2_with fail
          refine HCALL.out.mono ?_
          rintro e w2 ⟨rfl,hb2⟩
          have HW2:=Lib.hid (HW1.out.below HB.out hb2)
          clear hb2
          go_wp2_with fail
          go_roundg (d.size - (j+1))
          case measure=>omega
          case rel=>exact ⟨i,j+1,dk,rfl,by go_num,by omega,Nat.le_refl _,HW2.out,I2.out.skip (by rw [HK.out]; show (!p d[j]!)=false; rw [C.out,hq]; rfl)⟩
      · obtain rfl:j=d.size:=by omega
        have hltz:¬ (d.size:Int) < (d.size:Int):=by omega
        have hcl:∀ ty,(Builtin.clear_ #[40] ty #[.slice (some ⟨blk,i * 5,none⟩) (d.size - i) (cap - i)]).run Tryz.prog wr=.ok (.tuple #[]) (wr.setCells blk (i * 5) (Builtin.zeroCells zeroM (d.size - i)).toList):=by
          obtain ⟨cur,h1,h2,h3⟩:=W2.out.row
          refine run_clear5 wr blk (i * 5) (d.size - i) (cap - i) (by omega) (fun t ht => ?_) (fun t ht=>Kz.frozen_of_blk h1)
          rw [Kz.cell_of_blk h1]
          have:d.size * 5≤cap * 5:=Nat.mul_le_mul_right 5 hcap
          have h5:(d.size - i) * 5=d.size * 5 - i * 5:=Nat.sub_mul _ _ _
          rw [Array.getElem?_eq_getElem (by omega)]
          rfl
        have hid:i≤d.size:=by omega
        clear hI
        go_wp2
        go_ret
        have hI:=I2.out
        refine ⟨by rw [hI.len]; rfl,?_⟩
        have:=W2.out.tail (i:=i) (n:=d.size - i) (by omega) (by omega) _ (zeroM_len (d.size - i))
        have e:keptUpTo kp d d.size=dk.toList.take i:=by
          have hsz':=hI.size
          apply List.ext_getElem?
          intro j
          by_cases hj:j < i
          · rw [hI.low j hj,List.getElem?_take_of_lt hj,getElem!_pos dk j (by omega),List.getElem?_eq_getElem (by simp; omega)]
            simp
          · rw [List.getElem?_eq_none (by rw [hI.len]; omega),List.getElem?_eq_none (by simp; omega)]
        rw [e]
        exact this
end Go.Proofs
end
section
namespace Go.Proofs
open Go.Shelf Go.RowKit Go.Lib Go.Sort Kz
theorem mv_cells {g:Gh} {tk:List Nat} {w:World} {m:Mv} {cs:List Value} (h:RepC g tk w (segs (Mv.av m)) cs):cs=encM m:=by
  change RepC g tk w [.int .i8 m.frm,.int .i8 m.to,.int .u8 m.pro,.int .u8 m.drp,.bool m.cas] cs at h
  obtain ⟨x1,r1,rfl,q1,h⟩:=h.inv_one rfl
  obtain ⟨x2,r2,rfl,q2,h⟩:=h.inv_one rfl
  obtain ⟨x3,r3,rfl,q3,h⟩:=h.inv_one rfl
  obtain ⟨x4,r4,rfl,q4,h⟩:=h.inv_one rfl
  obtain ⟨x5,r5,rfl,q5,h⟩:=h.inv_one rfl
  obtain rfl:=h.inv_nil
  cases q1; cases q2; cases q3; cases q4; cases q5
  rfl
theorem mv_rep (g:Gh) (tk:List Nat) (w:World) (m:Mv):RepC g tk w (segs (Mv.av m)) (encM m) :=
  .one rfl (.int _ _) (.one rfl (.int _ _) (.one rfl (.int _ _) (.one rfl (.int _ _) (.one rfl (.bool _) .nil))))
theorem mvs_cells {g:Gh} {tk:List Nat} {w:World}:∀ {l:List Mv} {cs:List Value},RepE g tk w (l.map (enc .mv)) cs→cs=l.flatMap encM
  | [],_,h=>by cases h; rfl
  | m::l,_,h=>by
    cases h with
    | cons hs hx h hr=>rw [hx,mv_cells h,mvs_cells hr]; rfl
theorem mvs_rep (g:Gh) (tk:List Nat) (w:World):∀ l:List Mv,RepE g tk w (l.map (enc .mv)) (l.flatMap encM)
  | []=>.nil
  | m::l=>.cons rfl rfl (mv_rep g tk w m) (mvs_rep g tk w l)
theorem flat_len (l:List Mv):(l.flatMap encM).length=l.length * 5:=by
  induction l with
  | nil=>rfl
  | cons m l ih=>simp only [List.flatMap_cons,List.length_append,encM_len,ih,List.length_cons]; omega
theorem flat_get:∀ (l:List Mv) (j c:Nat),j < l.length→c < 5→(l.flatMap encM)[j * 5+c]?=(encM l[j]!)[c]?
  | [],_,_,h,_=>absurd h (Nat.not_lt_zero _)
  | m::l,0,c,_,hc=>by
    simp only [List.flatMap_cons]
    rw [List.getElem?_append_left (by rw [encM_len]; omega)]
    simp
  | m::l,j+1,c,h,hc=>by
    simp only [List.flatMap_cons]
    rw [List.getElem?_append_right (by rw [encM_len]; omega),encM_len,show (j+1) * 5+c - 5=j * 5+c by omega,flat_get l j c (by simpa using h) hc]
    simp
theorem encM_one (m:Mv):∀ u ∈ encM m,u.oneCell'=true:=by
  intro u hu
  simp only [encM,List.mem_cons,List.not_mem_nil,or_false] at hu
  rcases hu with rfl | rfl | rfl | rfl | rfl <;> rfl
theorem flat_one (l:List Mv):∀ u ∈ l.flatMap encM,u.oneCell'=true:=by
  intro u hu
  obtain ⟨m,_,h⟩:=List.mem_flatMap.1 hu
  exact encM_one m u h
theorem pos_rep {g g':Gh} {tk tk':List Nat} {w w':World} {p:Pos} {cs:List Value} (h:RepC g tk w (segs (Pos.av p)) cs):RepC g' tk' w' (segs (Pos.av p)) cs:=by
  change RepC g tk w [.int .u8 p.variant,.ints .u8 64 p.board,.u64 p.promoted,.ints .u8 12 p.pockets,.int .u8 p.turn,.ints .i8 4 p.rooks,.int .i8 p.passing,.ints .u8 2 p.checks,.int .i64 p.half,.int .i64 p.full] cs at h
  obtain ⟨x1,r1,rfl,q1,h1⟩:=h.inv_one rfl
  obtain ⟨l2,r2,rfl,h2⟩:=h1.inv_ints
  obtain ⟨x3,r3,rfl,q3,h3⟩:=h2.inv_one rfl
  obtain ⟨l4,r4,rfl,h4⟩:=h3.inv_ints
  obtain ⟨x5,r5,rfl,q5,h5⟩:=h4.inv_one rfl
  obtain ⟨l6,r6,rfl,h6⟩:=h5.inv_ints
  obtain ⟨x7,r7,rfl,q7,h7⟩:=h6.inv_one rfl
  obtain ⟨l8,r8,rfl,h8⟩:=h7.inv_ints
  obtain ⟨x9,r9,rfl,q9,h9⟩:=h8.inv_one rfl
  obtain ⟨x10,r10,rfl,q10,h10⟩:=h9.inv_one rfl
  obtain rfl:=h10.inv_nil
  cases q1; cases q3; cases q5; cases q7; cases q9; cases q10
  exact .one rfl (.int _ _) (.ints l2 rfl (.one rfl (.u64 _) (.ints l4 rfl (.one rfl (.int _ _) (.ints l6 rfl (.one rfl (.int _ _) (.ints l8 rfl (.one rfl (.int _ _) (.one rfl (.int _ _) .nil)))))))))
set_option maxHeartbeats 1000000 in
set_option maxRecDepth 100000 in
theorem idx0 (a:Option Addr) (c:Nat) (fv:Value) (w:World):Calls Tryz.prog 77 #[.slice a 0 c,fv] w fun e w'=>e=.returned (.int .i64 (-1))∧w'=w:=by
  go_enter Tryz.func77,Tryz.ntmps77
  go_wp2
  go_loopg [5,8] 0 (fun _ _ s8 wr=>s8=.int .i64 0∧wr=w)
  case atStart=>exact ⟨rfl,rfl⟩
  case round =>
    obtain ⟨rfl,rfl⟩:=hrel
    go_wp2
    go_ret
    exact ⟨rfl,rfl⟩
set_option maxHeartbeats 1000000 in
set_option maxRecDepth 100000 in
theorem del0 (a:Option Addr) (c:Nat) (fv:Value) (w:World):Calls Tryz.prog 35 #[.slice a 0 c,fv] w fun e w'=>e=.returned (.slice a 0 c)∧w'=w:=by
  have h:=idx0 a c fv w
  go_enter Tryz.func35,Tryz.ntmps35
  go_wp2_with fail
  refine h.mono ?_
  rintro e w' ⟨rfl,rfl⟩
  go_wp2_with fail
  go_ret
  exact ⟨rfl,rfl⟩
set_option maxHeartbeats 2000000 in
set_option maxRecDepth 100000 in
theorem clone0 (ad:Addr) (c:Nat) (w:World):Calls Tryz.prog 83 #[.slice (some ad) 0 c] w fun e w' => ∃ v',e=.returned v'∧w'.ownsRow w.heap.size 44 5 v' 0 []∧v'≠.slice none 0 0∧RowKit.Below w.heap.size w w':=by
  obtain ⟨i0,z,a1,a2,a3,a4,a5⟩:=info44
  have q22:∀ (w:World) (a:Option Addr) (n c n' c':Nat),(binOp .eql 40 (.slice a n c) (.slice none n' c')).run Tryz.prog w=.ok (.bool a.isNone) w:=fun w a n c n' c'=>Lib.run_eql_slice_nil w _ _ a n c n' c' Tryz.underlying40
  have u22:∀ w,Sem.run Tryz.prog (underlying 40) w=.ok (TypeDesc.slice 44) w:=run_underlying Tryz.underlying40
  go_enter Tryz.func83,Tryz.ntmps83
  go_wp2_with (at_builtin; refine wpList_append_own _ rfl _ _ 40 rfl w.heap.size 44 i0 z 5 i0.bytes Tryz.underlying40 a1 a2 a3 rfl a4 (by omega) _ _ _ rfl (World.ownsRow_made w #[] 0 (Nat.le_refl _) (Nat.zero_le _) (by simp)) ad 0 c [] rfl ?qc1 ?qc2 ?qc3 ?qc4 ?qc5 ?qc6 ?_)
  case qc1=>rfl
  case qc2=>intro j u hj; simp at hj
  case qc3=>intro u hu; simp at hu
  case qc4=>simp
  case qc5=>simp
  case qc6=>simp
  intro v' w1 hown hgrow hnil
  go_wp2
  go_ret
  refine ⟨v',rfl,by simpa using hown,?_,?_⟩
  · exact hnil
  · exact ((Below.refl _ w).alloc (Nat.le_refl _) _).grown hgrow (by simp) (by intro k hk; simp [Value.ownBlock] at hk; omega)
set_option maxHeartbeats 2000000 in
set_option maxRecDepth 100000 in
theorem keepM (p:Pos) (f2:Nat) (q:Mv→Bool) (l:List Mv) (hll:l.length≤lim) (hq:∀ m,PureSpec Tryz.prog 84 [Mv.av m,.ptrf (.func f2 [] [.ptrf (Pos.av p)])] (.bool (!q m))):PureSpec Tryz.prog 82 [.list .mv l .arg,.func f2 [] [.ptrf (Pos.av p)]] (.list .mv (l.filter q) .fresh):=by
  intro w vals hg hr
  obtain ⟨vals⟩:=vals
  cases hr with
  | cons q1 r1 =>
  cases r1 with
  | cons q2 r2 =>
  cases r2
  cases q2 with
  | func ha hb =>
  rename_i x y
  obtain ⟨x⟩:=x
  obtain ⟨y⟩:=y
  cases ha
  cases hb with
  | cons q3 r3 =>
  cases r3
  cases q3 with
  | ptrf hpc hpa =>
  rename_i pc po pcs
  cases q1 with
  | list hn hE hS hT hC =>
  rename_i a n cap cs
  subst hn
  have hcs:=mvs_cells hE
  obtain ⟨fv,hfv⟩:∃ fv:Value,fv=.func (.func f2) (Array.mk []) (Array.mk [.pointer (some ⟨pc,po,none⟩)]):=⟨_,rfl⟩
  rw [← hfv]
  have hpred:∀ (W:World) (u:Mv),w.heap.size+1≤W.heap.size→(∀ k,k < w.heap.size+1→W.heap[k]?=(w.alloc (.cells #[fv] 61)).heap[k]?) →
      Calls Tryz.prog 84 (#[.agg (encM u).toArray]++#[.pointer (some ⟨w.heap.size,0,none⟩)]) W fun e w'=>e=.returned (.bool (!q u))∧RowKit.Below W.heap.size W w':=by
    intro W u hsz hsame
    have old:∀ k,k < w.heap.size→W.heap[k]?=w.heap[k]? := fun k hk=>by
      rw [hsame k (by omega)]
      exact ((Below.refl _ w).alloc (Nat.le_refl _) _).block k hk
    refine (callsIn_wide.1 (hq u W (#[.agg (encM u).toArray]++#[.pointer (some ⟨w.heap.size,0,none⟩)]) ?_ ?_)).mono ?_
    · intro pr hpr j x hj
      obtain ⟨h1,h2⟩:=hg pr hpr j x hj
      have hlt:pr.1 < w.heap.size:=h2
      exact ⟨by rw [cell_same (old _ hlt)]; exact h1,Nat.lt_of_lt_of_le hlt (by omega)⟩
    · refine .cons (.agg (mv_rep _ _ _ u)) (.cons (.ptrf (cs:=[fv]) (.one rfl ?_ .nil) ?_) .nil)
      · rw [hfv]
        refine .func .nil (.cons (.ptrf (pos_rep hpc) ?_) .nil)
        intro j x hj
        obtain ⟨h1,h2⟩:=hpa j x hj
        have hlt:pc < w.heap.size:=h2
        exact ⟨by rw [cell_same (old _ hlt)]; exact h1,Nat.lt_of_lt_of_le hlt (by omega)⟩
      · intro j x hj
        have hc:W.heap[w.heap.size]?=some (.cells #[fv] 61 (0,0)):=by
          rw [hsame _ (Nat.lt_succ_self _)]; exact heap_alloc_new w _
        refine ⟨?_,show w.heap.size < W.heap.size by omega⟩
        rw [cell_of_blk hc,Nat.zero_add]
        simpa using hj
    · rintro e w' ⟨v,rfl,hb,hv⟩
      cases hv
      exact ⟨rfl,hb⟩
  subst hfv
  clear hpc hpa
  refine callsIn_wide.2 ?_
  cases a with
  | none =>
    obtain rfl:l=[]:=by
      rcases hS with h | ⟨_,_,h,_⟩
      · have:=flat_len l
        rw [← hcs,h] at this
        exact List.eq_nil_of_length_eq_zero (by simp at this; omega)
      · cases h
    have hc:=fun w=>AnyE.slices_Clone_nil Tryz.cloneM 0 cap w
    have hd:=del0 none 0 (.func (.func 84) #[] #[.pointer (some ⟨w.heap.size,0,none⟩)])
    clear hpred hS hcs hE hT
    go_enter Tryz.func82,Tryz.ntmps82
    go_wp2_with fail
    refine (hc _).mono ?_
    rintro e w' ⟨rfl,rfl⟩
    go_wp2_with fail
    refine (hd _).mono ?_
    rintro e w' ⟨rfl,rfl⟩
    go_wp2_with fail
    go_ret
    exact ⟨_,rfl,(Below.refl _ w).alloc (Nat.le_refl _) _,.list (cs:=[]) rfl .nil (.inl rfl) (fun k e=>by cases e) (Nat.le_refl _)⟩
  | some ad =>
    have hclone:Calls Tryz.prog 83 #[.slice (some ad) l.length cap] (w.alloc (.cells #[(.func (.func f2) (Array.mk []) (Array.mk [.pointer (some ⟨pc,po,none⟩)]))] 61)) fun e w' => ∃ v',e=.returned v'∧w'.ownsRow (w.alloc (.cells #[(.func (.func f2) (Array.mk []) (Array.mk [.pointer (some ⟨pc,po,none⟩)]))] 61)).heap.size 44 5 v' l.length (l.flatMap encM)∧v'≠.slice none 0 0∧RowKit.Below (w.alloc (.cells #[(.func (.func f2) (Array.mk []) (Array.mk [.pointer (some ⟨pc,po,none⟩)]))] 61)).heap.size (w.alloc (.cells #[(.func (.func f2) (Array.mk []) (Array.mk [.pointer (some ⟨pc,po,none⟩)]))] 61)) w':=by
      by_cases hl:l=[]
      · subst hl
        exact clone0 ad cap _
      · obtain ⟨c,o,hadr,hat,_⟩:=hS.resolve_left (fun e0=>hl (by
          have:=flat_len l
          rw [← hcs,e0] at this
          exact List.eq_nil_of_length_eq_zero (by simp at this; omega)))
        simp only [Option.some.injEq] at hadr
        subst hadr
        obtain ⟨i0,z,a1,a2,a3,a4,a5⟩:=info44
        refine AnyE.slices_Clone Tryz.cloneM i0 z 5 i0.bytes a1 a2 a3 rfl a4 (by omega) Tryz.sizeOf44 c o l.length cap (l.flatMap encM) _ (flat_len l) ?_ ?_ ?_ (flat_one l)
        · unfold lim at hll; unfold maxLen; omega
        · have:l.length * i0.bytes≤l.length * 131072:=Nat.mul_le_mul_left _ a5
          unfold lim at hll
          omega
        · intro j u hj
          rw [← hcs] at hj
          obtain ⟨h1,h2⟩:=hat j u hj
          have hlt:c < w.heap.size:=h2
          rw [cell_same (((Below.refl _ w).alloc (Nat.le_refl _) _).block c hlt)]
          exact h1
    clear hS hcs hE hT
    have HP:=Lib.hid hpred
    clear hpred
    go_enter Tryz.func82,Tryz.ntmps82
    go_wp2_with fail
    refine hclone.mono ?_
    rintro e w2 ⟨v',rfl,hown,hne,hb⟩
    obtain ⟨hlen,⟨rfl,_⟩ | ⟨gb,cap',cur,rfl,hgb,hcur,hn',hmax,hsz,htake⟩⟩:=hown
    · exact absurd rfl hne
    have hrow:RowW w2 gb cap' 44 l.toArray w2:=⟨rfl,rfl,rfl,Nat.le_refl _,fun _ _ _=>rfl,cur,hcur,hsz,fun j c hj hc=>by
      have hj':j < l.length:=by simpa using hj
      have h1:j * 5+c < l.length * 5:=by have:=Nat.mul_le_mul_right 5 (show j+1≤l.length from hj'); omega
      rw [← Array.getElem?_toList,← List.getElem?_take_of_lt h1,htake,flat_get l j c hj' hc]
      congr 2
      rw [getElem!_pos l j hj',getElem!_pos l.toArray j hj]
      simp⟩
    have hdel:=delM (fun u => !q u) 84 #[.pointer (some ⟨w.heap.size,0,none⟩)] (fun _ _=>rfl) gb cap' l.toArray w2 (lt_of_some hcur) hrow (by simpa using hn') hmax (fun W dk u hW=>by
      have hs1:(w.alloc (.cells #[(.func (.func f2) (Array.mk []) (Array.mk [.pointer (some ⟨pc,po,none⟩)]))] 61)).heap.size=w.heap.size+1:=by simp
      refine HP.out W u (by have:=hb.size; have:=hW.size; omega) (fun k hk => ?_)
      rw [hW.other k (by have:=hb.size; omega) (by omega),hb.block k (by omega)])
    simp only [List.size_toArray,Bool.not_not] at hdel
    have HD:=Lib.hid hdel
    have HBW:=Lib.hid hb
    have HG:=Lib.hid hgb
    have HN:=Lib.hid hn'
    clear hdel HP hrow hb hgb hn' hcur hsz htake hlen hne hmax hclone
    go_wp2_with fail
    refine HD.out.mono ?_
    rintro e w3 ⟨rfl,hR⟩
    have HR:=Lib.hid hR
    clear hR
    go_wp2_with fail
    go_ret
    have hR:=HR.out
    have hb:=HBW.out
    have hgb:=HG.out
    have hs1:(w.alloc (.cells #[(.func (.func f2) (Array.mk []) (Array.mk [.pointer (some ⟨pc,po,none⟩)]))] 61)).heap.size=w.heap.size+1:=by simp
    have hw1:RowKit.Below w.heap.size w (w.alloc (.cells #[(.func (.func f2) (Array.mk []) (Array.mk [.pointer (some ⟨pc,po,none⟩)]))] 61)):=(Below.refl _ w).alloc (Nat.le_refl _) _
    have hbw:RowKit.Below w.heap.size w w3:=⟨hR.os.trans (hb.os.trans hw1.os),hR.tape.trans (hb.tape.trans hw1.tape),hR.output.trans (hb.output.trans hw1.output),by have:=hR.size; have:=hb.size; omega,fun k hk=>by
      rw [hR.other k (by have:=hb.size; omega) (by omega),hb.block k (by omega)]
      exact hw1.block k hk⟩
    refine ⟨_,rfl,hbw,?_⟩
    obtain ⟨cur,k1,k2,k3⟩:=hR.row
    have hfl:(l.filter q).length≤l.length:=List.length_filter_le _ _
    refine .list (cs:=(l.filter q).flatMap encM) (by simp) (mvs_rep _ _ _ _) (.inr ⟨gb,0,rfl,fun j x hj => ?_,fun _=>by show w.heap.size≤gb; omega⟩) (fun k e=>by cases e) (Nat.le_trans hfl HN.out)
    have hjl:j < (l.filter q).length * 5:=by rw [← flat_len]; exact (List.getElem?_eq_some_iff.1 hj).1
    have hdm:j=j / 5 * 5+j % 5:=by omega
    have hq5:j / 5 < (l.filter q).length:=by omega
    refine ⟨?_,show w.heap.size≤gb∧gb < w3.heap.size from ⟨by omega,lt_of_some k1⟩⟩
    rw [cell_of_blk k1,Nat.zero_add,hdm,k3 (j / 5) (j % 5) (by simpa using hq5) (Nat.mod_lt _ (by omega)),← hj]
    conv=>rhs; rw [hdm]
    rw [flat_get (l.filter q) (j / 5) (j % 5) hq5 (Nat.mod_lt _ (by omega))]
    congr 2
    rw [getElem!_pos (l.filter q) (j / 5) hq5,getElem!_pos (l.filter q).toArray (j / 5) (by simpa using hq5)]
    simp
end Go.Proofs
end
section
namespace Kz
open Go Go.RowKit Go.Proofs
def posAt (h:Hp) (b:Nat):Pos:=match h.heap.getD b [] with
  | [.int _ v,.ints _ _ bd,.u64 pr,.ints _ _ pk,.int _ tn,.ints _ _ rk,.int _ ps,.ints _ _ ck,.int _ hf,.int _ fl]=>⟨v,bd,pr,pk,tn,rk,ps,ck,hf,fl⟩
  | _=>default
def clo (vs:List AV):Option (Nat×Nat):=match vs with
  | [_,.func f [] [.ptr b 0]]=>some (f,b)
  | _=>none
theorem fs_keep {P:Program} {f:Nat} {l l':List Mv} {tk:Tk} {f2 b:Nat} {p:Pos} {h:Hp} (hb:h.heap[b]?=some (segs (Pos.av p))) (hs:PureSpec P f [.list .mv l .arg,.func f2 [] [.ptrf (Pos.av p)]] (.list .mv l' .fresh)) :
    FSpec P f [.list .mv l tk,.func f2 [] [.ptr b 0]] h (.ret (.list .mv l' .fresh) h):=by
  intro g w vals m hr
  have hr':RepL (gArg w) [] w [.list .mv l .arg,.func f2 [] [.ptrf (Pos.av p)]] vals.toList:=by
    obtain ⟨vals⟩:=vals
    cases hr with
    | cons q1 r1 =>
    cases r1 with
    | cons q2 r2 =>
    cases r2
    cases q1 with
    | list hn hE hS hT hC =>
    rename_i a n cap cs
    cases q2 with
    | func ha hb2 =>
    rename_i x y
    obtain ⟨x⟩:=x
    obtain ⟨y⟩:=y
    cases ha
    cases hb2 with
    | cons q3 r3 =>
    cases r3
    cases q3 with
    | ptr hv =>
    rename_i c
    obtain ⟨_,_,cells,ty,hc,hcells⟩:=m.var b c _ hv hb
    refine .cons (.list (cs:=cs) hn (by rw [mvs_cells hE]; exact mvs_rep _ _ _ _) (hS.imp id fun ⟨c',o',e1,e2,_⟩=>⟨c',o',e1,fun j x hj=>⟨(e2 j x hj).1,m.fzlt _ _ (e2 j x hj).2⟩,fun f=>absurd rfl f⟩) (fun k e=>by cases e) hC)
      (.cons (.func .nil (.cons (.ptrf (cs:=cells.toList) (pos_rep hcells) fun j x hj=>⟨by rw [cell_of_blk hc,Nat.zero_add]; simpa using hj,lt_of_some hc⟩) .nil)) .nil)
  refine (hs w vals m.globOk hr').mono ?_
  rintro e w' ⟨x,rfl,hbl,hx⟩
  obtain ⟨m1,l1⟩:=m.growFz hbl
  exact ⟨_,x,rfl,⟨m1,l1,Fl.refl _⟩,res_in m hx⟩
end Kz
end
section
namespace Kz
open Go Go.RowKit Go.Proofs
set_option maxRecDepth 100000
set_option maxHeartbeats 4000000
noncomputable def B84:Base:=baseOf Pz (fun _ _=>[]) [(19,G19),(86,G86)] [] []
theorem hB84:BOk B84:=base_ok named_z ⟨s19,s86,trivial⟩ trivial trivial
theorem E84a (p:Pos) (m:Mv):evPure B84 14 84 [Mv.av m,.ptrf (.func 85 [] [.ptrf (Pos.av p)])]=Tr.br (ok86 p m) (Tr.ret (AV.bool (!N86 p m))) Tr.fail:=by kernel_rfl
theorem E84b (p:Pos) (m:Mv):evPure B84 14 84 [Mv.av m,.ptrf (.func 87 [] [.ptrf (Pos.av p)])]=Tr.br (ok19 p m) (Tr.ret (AV.bool (!N19 p m))) Tr.fail:=by kernel_rfl
theorem P84a (p:Pos) (m:Mv) (h:ok86 p m=true):PureSpec Pz 84 [Mv.av m,.ptrf (.func 85 [] [.ptrf (Pos.av p)])] (.bool (!N86 p m)) :=
  (ps_gotR (d:=dB) hB84 (E84a p m) (gr_guard (gr_ret rfl)) (by rw [h]; rfl)).1
theorem P84b (p:Pos) (m:Mv) (h:ok19 p m=true):PureSpec Pz 84 [Mv.av m,.ptrf (.func 87 [] [.ptrf (Pos.av p)])] (.bool (!N19 p m)) :=
  (ps_gotR (d:=dB) hB84 (E84b p m) (gr_guard (gr_ret rfl)) (by rw [h]; rfl)).1
open Classical in
noncomputable def all86 (p:Pos):Bool:=shut (decide (∀ m,ok86 p m=true))
theorem all86_iff {p:Pos}:all86 p=true ↔ ∀ m,ok86 p m=true:=by
  unfold all86
  rw [shut_eq]
  simp
open Classical in
noncomputable def all19 (p:Pos):Bool:=shut (decide (∀ m,ok19 p m=true))
theorem all19_iff {p:Pos}:all19 p=true ↔ ∀ m,ok19 p m=true:=by
  unfold all19
  rw [shut_eq]
  simp
noncomputable def kept (f:Nat) (p:Pos) (l:List Mv):List Mv:=l.filter (bif f.beq 85 then N86 p else N19 p)
noncomputable def okKept (f:Nat) (p:Pos) (l:List Mv):Bool:=decide (l.length≤lim)&&bif f.beq 85 then all86 p else f.beq 87&&all19 p
noncomputable def FF82:List AV→Hp→Tr FRes:=fun xs h=>match xs with
  | [.list .mv l _,.func f [] [.ptr b 0]]=>match h.heap[b]? with
    | some [.int .u8 v,.ints .u8 64 bd,.u64 pr,.ints .u8 12 pk,.int .u8 tn,.ints .i8 4 rk,.int .i8 ps,.ints .u8 2 ck,.int .i64 hf,.int .i64 fl] =>
      .guard (okKept f ⟨v,bd,pr,pk,tn,rk,ps,ck,hf,fl⟩ l) (.ret (.ret (.list .mv (kept f ⟨v,bd,pr,pk,tn,rk,ps,ck,hf,fl⟩ l) .fresh) h))
    | _=>.fail
  | _=>.fail
theorem body82:∃ fn,Pz.funcs[82]?=some fn∧fn.body.isSome=true:=by
  have h:(match Pz.funcs[82]? with
    | some fn=>fn.body.isSome
    | none=>false)=true:=by kernel_rfl
  split at h
  · rename_i fn hf
    exact ⟨fn,hf,h⟩
  · cases h
theorem sFF82:FSound Pz 82 FF82:=by
  intro xs h res he
  unfold FF82 at he
  split at he
  · rename_i l tk f b
    split at he
    · rename_i v bd pr pk tn rk ps ck hf fl hb
      simp only [get_guard,get_ret,Option.some.injEq] at he
      obtain ⟨h1,rfl⟩:=he
      refine ⟨?_,body82⟩
      unfold okKept at h1
      simp only [Bool.and_eq_true,decide_eq_true_eq] at h1
      obtain ⟨hl,h1⟩:=h1
      unfold kept
      cases hf3:f.beq 85 with
      | true =>
        rw [hf3] at h1
        obtain rfl:=Nat.eq_of_beq_eq_true hf3
        exact fs_keep (p:=⟨v,bd,pr,pk,tn,rk,ps,ck,hf,fl⟩) hb (keepM _ _ _ l hl fun m=>P84a _ m (all86_iff.1 h1 m))
      | false =>
        rw [hf3] at h1
        simp only [cond_false,Bool.and_eq_true] at h1
        obtain rfl:=Nat.eq_of_beq_eq_true h1.1
        exact fs_keep (p:=⟨v,bd,pr,pk,tn,rk,ps,ck,hf,fl⟩) hb (keepM _ _ _ l hl fun m=>P84b _ m (all19_iff.1 h1.2 m))
    · simp at he
  · simp at he
noncomputable def K39:List (Nat×Nat×List (Nat×List Nat)):=[(39,37,[(0,(1::(rn 12 5 [28,29,30]))),(1,[1,17,28,29,30]),(2,[2]),(3,[1,3,28,29,30]),(4,[1,3,4,28,29,30]),(5,[1,3,4,5,28,29,30]),(6,[3,4,5,31]),(7,[4]),(8,[2])]),(82,9,[(0,[0,3]),(1,[4])]),(85,7,[(0,[1,2]),(1,[3])]),(87,7,[(0,[1,2]),(1,[3])]),(88,9,[(0,[0,1]),(1,[4])]),(77,19,[(0,[0,1]),(1,[0,1,7,8]),(2,[0,1,7,8,9]),(3,[0,1,5,7,8]),(4,[0,1,5,7,8,16]),(5,[4]),(6,[0,1,7,8]),(7,[4])])]
noncomputable def B39_1:Base:=baseOf Pz (fun f i=>lkC f i K39) [(80,G80),(45,G45),(19,G19),(86,G86),(81,G81)] [] [(82,FF82)]
theorem hB39_1:BOk B39_1:=base_ok named_z ⟨s80,s45,s19,s86,s81,trivial⟩ trivial ⟨sFF82,trivial⟩
noncomputable def S39_1 (p1:(List Mv)) (p2:Int) (p3:Pos) (x:(Int)):St:=St.mk (AV.list ET.mv p1 Tk.fresh::AV.func 87 [] [AV.ptr 0 0]::(an 5 (AV.int .i64 p2::AV.int .i64 x::(an 10 [])))) (Hp.mk [(pc p3 [])] [0] [] 0 0 0)
noncomputable def O39_1 (p1:(List Mv)) (p2:Int) (p3:Pos):(Int) ⊕ (Int×Bool)→Out
  | (.inl (y))=>.ret (St.mk (an 4 (AV.int .i64 y::(an 14 []))) (Hp.mk [(pc p3 [])] [0] [] 0 0 0))
  | (.inr (y))=>.exit 0 (St.mk (AV.list ET.mv p1 Tk.fresh::AV.func 87 [] [AV.ptr 0 0]::(an 5 (AV.int .i64 p2::AV.int .i64 y.fst::AV.bool y.snd::(an 9 [])))) (Hp.mk [(pc p3 [])] [0] [] 0 0 0))
noncomputable def st39_1 (p1:(List Mv)) (p2:Int) (p3:Pos) (x:(Int)):Stp (Int) ((Int) ⊕ (Int×Bool)):=(bif decide (x < p2) then (bif N19 p3 (p1.getD x.toNat default) then (Stp.out (.inl ((x)))) else (Stp.go (wr .i64 (x+1)))) else (Stp.out (.inr ((x,decide (x < p2))))))
noncomputable def okL39_1 (p1:(List Mv)) (p2:Int) (p3:Pos) (x:(Int)):Bool:=(bif decide (x < p2) then (decide (0≤x)&&decide (x < Int.ofNat p1.length)&&(ok19 (p3) (p1.getD x.toNat default)&&true)) else true)
noncomputable def lp39_1 (p1:(List Mv)) (p2:Int) (p3:Pos) (x:(Int)):Option ((Int) ⊕ (Int×Bool)):=itl (fun x=>bif okL39_1 p1 p2 p3 x then st39_1 p1 p2 p3 x else .bad) many x
abbrev D39_1 {α:Type} (k:(List Mv)→Int→Pos→(Int)→α) (s:St):α:=wP s 0 fun q0=>k (tL (ET.mv) (tT s 0)) (tI (tT s 7)) q0 ((tI (tT s 8)))
theorem L39_1 (p1:(List Mv)) (p2:Int) (p3:Pos) (x:(Int)) (r:(Int) ⊕ (Int×Bool)) (h:lp39_1 p1 p2 p3 x=some r):LSpec Pz (bodL Pz 77 2) (S39_1 p1 p2 p3 x) (O39_1 p1 p2 p3 r):=LSpec.smd (m:=12) (fn:=77) hB39_1 (D39_1 fun _ _ _ x=>some x) (fun o=>match o with | .ret s=>some (.inl (tI (tT s 4))) | .exit 0 s=>some (.inr ((tI (tT s 8)),(tB (tT s 9)))) | _=>none) (fun r=>by cases r <;> rfl) (fun _=>by kernel_rfl) (fun _=>by kernel_rfl) (fun _=>by kernel_rfl) (fun _=>by kernel_rfl) many x r h
noncomputable def F39_1 (b:Code) (s:St):Tr Out:=D39_1 (fun p1 p2 p3 x=>lk2 b (bodL Pz 77 2) s (S39_1 p1 p2 p3 x) (lp39_1 p1 p2 p3 x) (O39_1 p1 p2 p3)) s
theorem sF39_1:∀ b,LSound Pz b (F39_1 b):=fun _ _ _ h=>lk2_ok (L39_1 _ _ _ _) h
noncomputable def B39:Base:=baseOf Pz (fun f i=>lkC f i K39) [(80,G80),(45,G45),(19,G19),(86,G86),(81,G81)] [(77,2,F39_1)] [(82,FF82)]
theorem hB39:BOk B39:=base_ok named_z ⟨s80,s45,s19,s86,s81,trivial⟩ ⟨sF39_1,trivial⟩ ⟨sFF82,trivial⟩
noncomputable def N39 (a:Pos):List Mv:=(bif N80 a.variant a.turn then (bif !N81 a a.turn then ([]) else (bif a.variant==4 then (bif isL ((lp39_1 (kept 85 a (N45 a)) (Int.ofNat (kept 85 a (N45 a)).length) a 0).getD default) then (bif decide (gl ((lp39_1 (kept 85 a (N45 a)) (Int.ofNat (kept 85 a (N45 a)).length) a 0).getD default) ≥ 0) then (kept 87 a (kept 85 a (N45 a))) else (kept 85 a (N45 a))) else (kept 85 a (N45 a))) else (kept 85 a (N45 a)))) else (bif a.variant==4 then (bif isL ((lp39_1 (kept 85 a (N45 a)) (Int.ofNat (kept 85 a (N45 a)).length) a 0).getD default) then (bif decide (gl ((lp39_1 (kept 85 a (N45 a)) (Int.ofNat (kept 85 a (N45 a)).length) a 0).getD default) ≥ 0) then (kept 87 a (kept 85 a (N45 a))) else (kept 85 a (N45 a))) else (kept 85 a (N45 a))) else (kept 85 a (N45 a))))
noncomputable def ok39 (a:Pos):Bool:=(ok80 (a.variant) (a.turn)&&(bif N80 a.variant a.turn then (ok81 (a) (a.turn)&&(bif !N81 a a.turn then true else (ok45 (a)&&(okKept 85 a (N45 a)&&(bif a.variant==4 then ((lp39_1 (kept 85 a (N45 a)) (Int.ofNat (kept 85 a (N45 a)).length) a 0).isSome&&bif isL ((lp39_1 (kept 85 a (N45 a)) (Int.ofNat (kept 85 a (N45 a)).length) a 0).getD default) then (bif decide (gl ((lp39_1 (kept 85 a (N45 a)) (Int.ofNat (kept 85 a (N45 a)).length) a 0).getD default) ≥ 0) then (okKept 87 a (kept 85 a (N45 a))&&true) else true) else true) else true))))) else (ok45 (a)&&(okKept 85 a (N45 a)&&(bif a.variant==4 then ((lp39_1 (kept 85 a (N45 a)) (Int.ofNat (kept 85 a (N45 a)).length) a 0).isSome&&bif isL ((lp39_1 (kept 85 a (N45 a)) (Int.ofNat (kept 85 a (N45 a)).length) a 0).getD default) then (bif decide (gl ((lp39_1 (kept 85 a (N45 a)) (Int.ofNat (kept 85 a (N45 a)).length) a 0).getD default) ≥ 0) then (okKept 87 a (kept 85 a (N45 a))&&true) else true) else true) else true)))))
theorem P39 (a:Pos) (h:ok39 a=true):PS Pz 39 [Pos.av a] ((dL .mv).res (N39 a)):=ps_sum (n:=14) hB39 (by kernel_rfl) (by kernel_rfl) (by kernel_rfl) h
noncomputable def G39:List AV→Tr AV:=g1 dPos (fun a=>gdv (ok39 a) ((dL .mv).res (N39 a)))
theorem s39:Sound Pz 39 G39:=sound1 fun a=>at_gd (P39 a)
noncomputable def K143:List (Nat×Nat×List (Nat×List Nat)):=[(88,9,[(0,[0,1]),(1,[4])]),(143,40,[(0,[1,2,16]),(1,[1,2,3,16]),(2,[1,2,4,5,16]),(3,[1,2,4,5,13]),(4,[2]),(5,[1,2,4,19]),(6,[2]),(7,[1,2,22]),(8,[2]),(9,[1,2,26]),(10,[2]),(11,[1,2,6]),(12,[1,2,7]),(13,[2,37]),(14,[2]),(15,[2])]),(77,19,[(0,[0,1]),(1,[0,1,7,8]),(2,[0,1,7,8,9]),(3,[0,1,5,7,8]),(4,[0,1,5,7,8,16]),(5,[4]),(6,[0,1,7,8]),(7,[4])]),(176,8,[(0,[0,1]),(1,[3])]),(177,14,[(0,[1,2,10,11,12]),(1,[3])])]
noncomputable def B143_1:Base:=baseOf Pz (fun f i=>lkC f i K143) [(39,G39),(106,G106),(172,G172)] [] []
theorem hB143_1:BOk B143_1:=base_ok named_z ⟨s39,s106,s172,trivial⟩ trivial trivial
noncomputable def S143_1 (p1:(List Mv)) (p2:Int) (p3:Pos) (p4:Int) (x:(Int)):St:=St.mk (AV.list ET.mv p1 Tk.fresh::AV.func 177 [] [AV.ptr 2 0]::(an 5 (AV.int .i64 p2::AV.int .i64 x::(an 10 [])))) (Hp.mk [(pc p3 []),[AV.int .u8 0,AV.int .u8 0],[AV.int .i64 p4]] [] [] 0 0 0)
noncomputable def O143_1 (p1:(List Mv)) (p2:Int) (p3:Pos) (p4:Int):(Int) ⊕ (Int×Bool)→Out
  | (.inl (y))=>.ret (St.mk (an 4 (AV.int .i64 y::(an 14 []))) (Hp.mk [(pc p3 []),[AV.int .u8 0,AV.int .u8 0],[AV.int .i64 p4]] [] [] 0 0 0))
  | (.inr (y))=>.exit 0 (St.mk (AV.list ET.mv p1 Tk.fresh::AV.func 177 [] [AV.ptr 2 0]::(an 5 (AV.int .i64 p2::AV.int .i64 y.fst::AV.bool y.snd::(an 9 [])))) (Hp.mk [(pc p3 []),[AV.int .u8 0,AV.int .u8 0],[AV.int .i64 p4]] [] [] 0 0 0))
noncomputable def st143_1 (p1:(List Mv)) (p2:Int) (p3:Pos) (p4:Int) (x:(Int)):Stp (Int) ((Int) ⊕ (Int×Bool)):=(bif decide (x < p2) then (bif wr .i64 (p1.getD x.toNat default).frm==p4 then (bif decide ((p1.getD x.toNat default).to ≥ 56) then (Stp.out (.inl ((x)))) else (Stp.go (wr .i64 (x+1)))) else (Stp.go (wr .i64 (x+1)))) else (Stp.out (.inr ((x,decide (x < p2))))))
noncomputable def okL143_1 (p1:(List Mv)) (p2:Int) (p3:Pos) (p4:Int) (x:(Int)):Bool:=(bif decide (x < p2) then (decide (0≤x)&&decide (x < Int.ofNat p1.length)&&true) else true)
noncomputable def lp143_1 (p1:(List Mv)) (p2:Int) (p3:Pos) (p4:Int) (x:(Int)):Option ((Int) ⊕ (Int×Bool)):=itl (fun x=>bif okL143_1 p1 p2 p3 p4 x then st143_1 p1 p2 p3 p4 x else .bad) many x
abbrev D143_1 {α:Type} (k:(List Mv)→Int→Pos→Int→(Int)→α) (s:St):α:=wP s 0 fun q0=>k (tL (ET.mv) (tT s 0)) (tI (tT s 7)) q0 (tI (tH s 2 0)) ((tI (tT s 8)))
theorem L143_1 (p1:(List Mv)) (p2:Int) (p3:Pos) (p4:Int) (x:(Int)) (r:(Int) ⊕ (Int×Bool)) (h:lp143_1 p1 p2 p3 p4 x=some r):LSpec Pz (bodL Pz 77 2) (S143_1 p1 p2 p3 p4 x) (O143_1 p1 p2 p3 p4 r):=LSpec.smd (m:=12) (fn:=77) hB143_1 (D143_1 fun _ _ _ _ x=>some x) (fun o=>match o with | .ret s=>some (.inl (tI (tT s 4))) | .exit 0 s=>some (.inr ((tI (tT s 8)),(tB (tT s 9)))) | _=>none) (fun r=>by cases r <;> rfl) (fun _=>by kernel_rfl) (fun _=>by kernel_rfl) (fun _=>by kernel_rfl) (fun _=>by kernel_rfl) many x r h
noncomputable def F143_1 (b:Code) (s:St):Tr Out:=D143_1 (fun p1 p2 p3 p4 x=>lk2 b (bodL Pz 77 2) s (S143_1 p1 p2 p3 p4 x) (lp143_1 p1 p2 p3 p4 x) (O143_1 p1 p2 p3 p4)) s
theorem sF143_1:∀ b,LSound Pz b (F143_1 b):=fun _ _ _ h=>lk2_ok (L143_1 _ _ _ _ _) h
noncomputable def B143:Base:=baseOf Pz (fun f i=>lkC f i K143) [(39,G39),(106,G106),(172,G172)] [(77,2,F143_1)] []
theorem hB143:BOk B143:=base_ok named_z ⟨s39,s106,s172,trivial⟩ ⟨sF143_1,trivial⟩ trivial
noncomputable def N143 (a:Pos):(Int×Int):=(bif decide (N106 a 0 6 ≥ 56) then (bif decide (N106 a 1 6 ≥ 56) then ⟨(3),(6)⟩ else (bif decide (N106 a 1 6 ≥ 56) then ⟨((N172 1 6).fst),((N172 1 6).snd)⟩ else (bif !decide (N106 a 0 6 ≥ 56) then ⟨(0),(0)⟩ else (bif a.turn==0 then ⟨((N172 0 6).fst),((N172 0 6).snd)⟩ else (bif isL ((lp143_1 (N39 a) (Int.ofNat (N39 a).length) a (N106 a 1 6) 0).getD default) then (bif decide (gl ((lp143_1 (N39 a) (Int.ofNat (N39 a).length) a (N106 a 1 6) 0).getD default) ≥ 0) then ⟨(0),(0)⟩ else ⟨((N172 0 6).fst),((N172 0 6).snd)⟩) else ⟨((N172 0 6).fst),((N172 0 6).snd)⟩))))) else (bif decide (N106 a 1 6 ≥ 56) then ⟨((N172 1 6).fst),((N172 1 6).snd)⟩ else (bif !decide (N106 a 0 6 ≥ 56) then ⟨(0),(0)⟩ else (bif a.turn==0 then ⟨((N172 0 6).fst),((N172 0 6).snd)⟩ else (bif isL ((lp143_1 (N39 a) (Int.ofNat (N39 a).length) a (N106 a 1 6) 0).getD default) then (bif decide (gl ((lp143_1 (N39 a) (Int.ofNat (N39 a).length) a (N106 a 1 6) 0).getD default) ≥ 0) then ⟨(0),(0)⟩ else ⟨((N172 0 6).fst),((N172 0 6).snd)⟩) else ⟨((N172 0 6).fst),((N172 0 6).snd)⟩)))))
noncomputable def ok143 (a:Pos):Bool:=(ok106 (a) (0) (6)&&(ok106 (a) (1) (6)&&(bif decide (N106 a 0 6 ≥ 56) then (bif decide (N106 a 1 6 ≥ 56) then true else (bif decide (N106 a 1 6 ≥ 56) then true else (bif !decide (N106 a 0 6 ≥ 56) then true else (bif a.turn==0 then true else (ok106 (a) (1) (6)&&(ok39 (a)&&((lp143_1 (N39 a) (Int.ofNat (N39 a).length) a (N106 a 1 6) 0).isSome&&bif isL ((lp143_1 (N39 a) (Int.ofNat (N39 a).length) a (N106 a 1 6) 0).getD default) then true else true))))))) else (bif decide (N106 a 1 6 ≥ 56) then true else (bif !decide (N106 a 0 6 ≥ 56) then true else (bif a.turn==0 then true else (ok106 (a) (1) (6)&&(ok39 (a)&&((lp143_1 (N39 a) (Int.ofNat (N39 a).length) a (N106 a 1 6) 0).isSome&&bif isL ((lp143_1 (N39 a) (Int.ofNat (N39 a).length) a (N106 a 1 6) 0).getD default) then true else true)))))))))
theorem P143 (a:Pos) (h:ok143 a=true):PS Pz 143 [Pos.av a] ((dR .u8 .u8).res (N143 a)):=ps_sum (n:=14) hB143 (by kernel_rfl) (by kernel_rfl) (by kernel_rfl) h
noncomputable def G143:List AV→Tr AV:=g1 dPos (fun a=>gdv (ok143 a) ((dR .u8 .u8).res (N143 a)))
theorem s143:Sound Pz 143 G143:=sound1 fun a=>at_gd (P143 a)
noncomputable def K38:List (Nat×Nat×List (Nat×List Nat)):=[(38,25,[(0,[1,2,8,9,10]),(1,[1,2,11]),(2,[2]),(3,[1,2,3]),(4,[1,2,3,19]),(5,[2]),(6,[2])])]
noncomputable def B38:Base:=baseOf Pz (fun f i=>lkC f i K38) [(79,G79),(138,G138),(139,G139),(140,G140),(141,G141),(142,G142),(143,G143)] [] []
theorem hB38:BOk B38:=base_ok named_z ⟨s79,s138,s139,s140,s141,s142,s143,trivial⟩ trivial trivial
noncomputable def N38 (a:Pos):(Int×Int):=(bif decide (a.variant ≥ 9) then ⟨(0),(0)⟩ else (bif decide (a.turn > 1) then ⟨(0),(0)⟩ else (bif a.variant==Int.ofNat 0 then ⟨(0),(0)⟩ else (bif a.variant==Int.ofNat 1 then ⟨(0),(0)⟩ else (bif a.variant==Int.ofNat 2 then ⟨(0),(0)⟩ else (bif a.variant==Int.ofNat 3 then ⟨((N138 a).fst),((N138 a).snd)⟩ else (bif a.variant==Int.ofNat 4 then ⟨((N142 a).fst),((N142 a).snd)⟩ else (bif a.variant==Int.ofNat 5 then ⟨((N139 a).fst),((N139 a).snd)⟩ else (bif a.variant==Int.ofNat 6 then ⟨((N140 a).fst),((N140 a).snd)⟩ else (bif a.variant==Int.ofNat 7 then ⟨((N141 a).fst),((N141 a).snd)⟩ else ⟨((N143 a).fst),((N143 a).snd)⟩))))))))))
noncomputable def ok38 (a:Pos):Bool:=(bif decide (a.variant ≥ 9) then true else (bif decide (a.turn > 1) then true else (decide (0≤a.variant)&&decide (a.variant < Int.ofNat 9)&&(bif a.variant==Int.ofNat 0 then true else (bif a.variant==Int.ofNat 1 then true else (bif a.variant==Int.ofNat 2 then true else (bif a.variant==Int.ofNat 3 then (ok138 (a)&&true) else (bif a.variant==Int.ofNat 4 then (ok142 (a)&&true) else (bif a.variant==Int.ofNat 5 then (ok139 (a)&&true) else (bif a.variant==Int.ofNat 6 then (ok140 (a)&&true) else (bif a.variant==Int.ofNat 7 then (ok141 (a)&&true) else (a.variant==Int.ofNat 8&&(ok143 (a)&&true)))))))))))))
theorem P38 (a:Pos) (h:ok38 a=true):PS Pz 38 [Pos.av a] ((dR .u8 .u8).res (N38 a)):=ps_sum (n:=14) hB38 (by kernel_rfl) (by kernel_rfl) (by kernel_rfl) h
noncomputable def G38:List AV→Tr AV:=g1 dPos (fun a=>gdv (ok38 a) ((dR .u8 .u8).res (N38 a)))
theorem s38:Sound Pz 38 G38:=sound1 fun a=>at_gd (P38 a)
noncomputable def K55:List (Nat×Nat×List (Nat×List Nat)):=[]
noncomputable def B55:Base:=baseOf Pz (fun f i=>lkC f i K55) [] [] []
theorem hB55:BOk B55:=base_ok named_z trivial trivial trivial
noncomputable def V66:AV:=AV.agg [AV.func 38 [] [],AV.func 111 [] [],AV.func 112 [] [],AV.func 113 [] []]
noncomputable def ok55:Bool:=true
theorem E55:evPure B55 14 55 []=Tr.ret V66:=by kernel_rfl
theorem P55 (_:ok55=true):PS Pz 55 [] V66:=evPure_ok hB55 (by rw [E55]; rfl)
noncomputable def G55:List AV→Tr AV:=g0 (.ret V66)
theorem s55:Sound Pz 55 G55:=sound0 (at_rt (P55 rfl))
noncomputable def K18:List (Nat×Nat×List (Nat×List Nat)):=[(18,9,[(0,[1]),(1,[1,6]),(2,[2]),(3,[2])])]
noncomputable def B18:Base:=baseOf Pz (fun f i=>lkC f i K18) [(38,G38),(39,G39)] [] []
theorem hB18:BOk B18:=base_ok named_z ⟨s38,s39,trivial⟩ trivial trivial
noncomputable def N18 (a:Pos):List Mv:=(bif (N38 a).fst != 0 then ([]) else (N39 a))
noncomputable def ok18 (a:Pos):Bool:=(ok38 (a)&&(bif (N38 a).fst != 0 then true else (ok39 (a)&&true)))
theorem P18 (a:Pos) (h:ok18 a=true):PS Pz 18 [Pos.av a] ((dL .mv).res (N18 a)):=ps_sum (n:=14) hB18 (by kernel_rfl) (by kernel_rfl) (by kernel_rfl) h
noncomputable def G18:List AV→Tr AV:=g1 dPos (fun a=>gdv (ok18 a) ((dL .mv).res (N18 a)))
theorem s18:Sound Pz 18 G18:=sound1 fun a=>at_gd (P18 a)
noncomputable def K160:List (Nat×Nat×List (Nat×List Nat)):=[(160,5,[(0,[0,2]),(1,[2])])]
noncomputable def B160:Base:=baseOf Pz (fun f i=>lkC f i K160) [] [] []
theorem hB160:BOk B160:=base_ok named_z trivial trivial trivial
noncomputable def N160 (a:Int):(Int×Int):=⟨(3),(a)⟩
noncomputable def ok160 (a:Int):Bool:=true
theorem P160 (a:Int) (h:ok160 a=true):PS Pz 160 [.int .u8 a] ((dR .u8 .u8).res (N160 a)):=ps_sum (n:=14) hB160 (by kernel_rfl) (by kernel_rfl) (by kernel_rfl) h
noncomputable def G160:List AV→Tr AV:=g1 (dI .u8) (fun a=>.ret ((dR .u8 .u8).res (N160 a)))
theorem s160:Sound Pz 160 G160:=sound1 fun a=>at_rt (P160 a rfl)
noncomputable def K111:List (Nat×Nat×List (Nat×List Nat)):=[(111,26,[(0,[1,2]),(1,[1,2,6]),(2,[2]),(3,[1,2,8]),(4,[2]),(5,[1,2,16]),(6,[2]),(7,[2])])]
noncomputable def B111:Base:=baseOf Pz (fun f i=>lkC f i K111) [(18,G18),(109,G109),(160,G160)] [] []
theorem hB111:BOk B111:=base_ok named_z ⟨s18,s109,s160,trivial⟩ trivial trivial
noncomputable def N111 (a:Pos):(Int×Int):=(bif decide (Int.ofNat (N18 a).length > 0) then ⟨(0),(0)⟩ else (bif a.variant==4 then ⟨(wr .u8 (1+a.turn)),(8)⟩ else (bif N109 a a.turn then ⟨(wr .u8 (2 - a.turn)),(1)⟩ else ⟨((N160 2).fst),((N160 2).snd)⟩)))
noncomputable def ok111 (a:Pos):Bool:=(ok18 (a)&&(bif decide (Int.ofNat (N18 a).length > 0) then true else (bif a.variant==4 then true else (ok109 (a) (a.turn)&&true))))
theorem P111 (a:Pos) (h:ok111 a=true):PS Pz 111 [Pos.av a] ((dR .u8 .u8).res (N111 a)):=ps_sum (n:=14) hB111 (by kernel_rfl) (by kernel_rfl) (by kernel_rfl) h
noncomputable def G111:List AV→Tr AV:=g1 dPos (fun a=>gdv (ok111 a) ((dR .u8 .u8).res (N111 a)))
theorem s111:Sound Pz 111 G111:=sound1 fun a=>at_gd (P111 a)
noncomputable def K191:List (Nat×Nat×List (Nat×List Nat)):=[(191,12,[(0,[1,2]),(1,[4])])]
noncomputable def B191:Base:=baseOf Pz (fun f i=>lkC f i K191) [(66,G66)] [] []
theorem hB191:BOk B191:=base_ok named_z ⟨s66,trivial⟩ trivial trivial
noncomputable def N191 (a:Pos) (b:Int):BitVec 64:=(N66 (Pos.mk a.variant a.board a.promoted a.pockets a.turn a.rooks a.passing a.checks a.half a.full) 0 b|||N66 (Pos.mk a.variant a.board a.promoted a.pockets a.turn a.rooks a.passing a.checks a.half a.full) 1 b)
noncomputable def ok191 (a:Pos) (b:Int):Bool:=(ok66 (Pos.mk a.variant a.board a.promoted a.pockets a.turn a.rooks a.passing a.checks a.half a.full) (0) (b)&&(ok66 (Pos.mk a.variant a.board a.promoted a.pockets a.turn a.rooks a.passing a.checks a.half a.full) (1) (b)&&true))
theorem P191 (a:Pos) (b:Int) (h:ok191 a b=true):PS Pz 191 [Pos.av a,.int .u8 b] (dU.res (N191 a b)):=ps_sum (n:=14) hB191 (by kernel_rfl) (by kernel_rfl) (by kernel_rfl) h
noncomputable def G191:List AV→Tr AV:=g2 dPos (dI .u8) (fun a b=>gdv (ok191 a b) (dU.res (N191 a b)))
theorem s191:Sound Pz 191 G191:=sound2 fun a b=>at_gd (P191 a b)
noncomputable def K192:List (Nat×Nat×List (Nat×List Nat)):=[(192,35,[(0,[0]),(1,[0]),(2,[0]),(3,[0]),(4,[0]),(5,[0]),(6,[0]),(7,[2])])]
noncomputable def B192:Base:=baseOf Pz (fun f i=>lkC f i K192) [] [] []
theorem hB192:BOk B192:=base_ok named_z trivial trivial trivial
noncomputable def N192 (a:BitVec 64):Int:=(ibits BinOp.and .i64 (wr .i64 ↑((((((a >>> 1&&&6148914691236517205#64)+(a&&&6148914691236517205#64)) >>> 2&&&3689348814741910323#64)+((a >>> 1&&&6148914691236517205#64)+(a&&&6148914691236517205#64)&&&3689348814741910323#64)) >>> 4+((((a >>> 1&&&6148914691236517205#64)+(a&&&6148914691236517205#64)) >>> 2&&&3689348814741910323#64)+((a >>> 1&&&6148914691236517205#64)+(a&&&6148914691236517205#64)&&&3689348814741910323#64))&&&1085102592571150095#64)+(((((a >>> 1&&&6148914691236517205#64)+(a&&&6148914691236517205#64)) >>> 2&&&3689348814741910323#64)+((a >>> 1&&&6148914691236517205#64)+(a&&&6148914691236517205#64)&&&3689348814741910323#64)) >>> 4+((((a >>> 1&&&6148914691236517205#64)+(a&&&6148914691236517205#64)) >>> 2&&&3689348814741910323#64)+((a >>> 1&&&6148914691236517205#64)+(a&&&6148914691236517205#64)&&&3689348814741910323#64))&&&1085102592571150095#64) >>> 8+((((((a >>> 1&&&6148914691236517205#64)+(a&&&6148914691236517205#64)) >>> 2&&&3689348814741910323#64)+((a >>> 1&&&6148914691236517205#64)+(a&&&6148914691236517205#64)&&&3689348814741910323#64)) >>> 4+((((a >>> 1&&&6148914691236517205#64)+(a&&&6148914691236517205#64)) >>> 2&&&3689348814741910323#64)+((a >>> 1&&&6148914691236517205#64)+(a&&&6148914691236517205#64)&&&3689348814741910323#64))&&&1085102592571150095#64)+(((((a >>> 1&&&6148914691236517205#64)+(a&&&6148914691236517205#64)) >>> 2&&&3689348814741910323#64)+((a >>> 1&&&6148914691236517205#64)+(a&&&6148914691236517205#64)&&&3689348814741910323#64)) >>> 4+((((a >>> 1&&&6148914691236517205#64)+(a&&&6148914691236517205#64)) >>> 2&&&3689348814741910323#64)+((a >>> 1&&&6148914691236517205#64)+(a&&&6148914691236517205#64)&&&3689348814741910323#64))&&&1085102592571150095#64) >>> 8) >>> 16+((((((a >>> 1&&&6148914691236517205#64)+(a&&&6148914691236517205#64)) >>> 2&&&3689348814741910323#64)+((a >>> 1&&&6148914691236517205#64)+(a&&&6148914691236517205#64)&&&3689348814741910323#64)) >>> 4+((((a >>> 1&&&6148914691236517205#64)+(a&&&6148914691236517205#64)) >>> 2&&&3689348814741910323#64)+((a >>> 1&&&6148914691236517205#64)+(a&&&6148914691236517205#64)&&&3689348814741910323#64))&&&1085102592571150095#64)+(((((a >>> 1&&&6148914691236517205#64)+(a&&&6148914691236517205#64)) >>> 2&&&3689348814741910323#64)+((a >>> 1&&&6148914691236517205#64)+(a&&&6148914691236517205#64)&&&3689348814741910323#64)) >>> 4+((((a >>> 1&&&6148914691236517205#64)+(a&&&6148914691236517205#64)) >>> 2&&&3689348814741910323#64)+((a >>> 1&&&6148914691236517205#64)+(a&&&6148914691236517205#64)&&&3689348814741910323#64))&&&1085102592571150095#64) >>> 8+((((((a >>> 1&&&6148914691236517205#64)+(a&&&6148914691236517205#64)) >>> 2&&&3689348814741910323#64)+((a >>> 1&&&6148914691236517205#64)+(a&&&6148914691236517205#64)&&&3689348814741910323#64)) >>> 4+((((a >>> 1&&&6148914691236517205#64)+(a&&&6148914691236517205#64)) >>> 2&&&3689348814741910323#64)+((a >>> 1&&&6148914691236517205#64)+(a&&&6148914691236517205#64)&&&3689348814741910323#64))&&&1085102592571150095#64)+(((((a >>> 1&&&6148914691236517205#64)+(a&&&6148914691236517205#64)) >>> 2&&&3689348814741910323#64)+((a >>> 1&&&6148914691236517205#64)+(a&&&6148914691236517205#64)&&&3689348814741910323#64)) >>> 4+((((a >>> 1&&&6148914691236517205#64)+(a&&&6148914691236517205#64)) >>> 2&&&3689348814741910323#64)+((a >>> 1&&&6148914691236517205#64)+(a&&&6148914691236517205#64)&&&3689348814741910323#64))&&&1085102592571150095#64) >>> 8) >>> 16) >>> 32).toNat) 127)
noncomputable def ok192 (a:BitVec 64):Bool:=true
theorem P192 (a:BitVec 64) (h:ok192 a=true):PS Pz 192 [.u64 a] ((dI .i64).res (N192 a)):=ps_sum (n:=14) hB192 (by kernel_rfl) (by kernel_rfl) (by kernel_rfl) h
noncomputable def G192:List AV→Tr AV:=g1 dU (fun a=>.ret ((dI .i64).res (N192 a)))
theorem s192:Sound Pz 192 G192:=sound1 fun a=>at_rt (P192 a rfl)
noncomputable def K161:List (Nat×Nat×List (Nat×List Nat)):=[(161,68,[(0,(1::(rn 32 13 [59,60,61,64,65,66]))),(1,(1::3::(rn 32 13 [59,60,61,64,65,66]))),(2,(1::3::11::(rn 32 13 [59,60,61,64,65,66]))),(3,(1::3::11::12::(rn 32 13 [59,60,61,64,65,66]))),(4,(1::3::11::12::(rn 32 13 [59,60,61,64,65,66]))),(5,(1::4::(rn 32 13 []))),(6,(1::4::5::(rn 32 13 []))),(7,(4::5::27::(rn 32 13 []))),(8,[2]),(9,[2]),(10,[1,3,11,46,59,60,61,64,65,66]),(11,[1,3,46,59,60,61,64,65,66]),(12,[3,6,7,59,60,61,64,65,66]),(13,[2]),(14,[2])])]
noncomputable def B161:Base:=baseOf Pz (fun f i=>lkC f i K161) [(151,G151),(191,G191),(192,G192),(66,G66)] [] []
theorem hB161:BOk B161:=base_ok named_z ⟨s151,s191,s192,s66,trivial⟩ trivial trivial
noncomputable def N161 (a:Pos):Bool:=(bif a.variant==0 then (bif a.variant==0 then (bif N151 (Pos.mk a.variant a.board a.promoted a.pockets a.turn a.rooks a.passing a.checks a.half a.full) &&& ~~~N191 (Pos.mk a.variant a.board a.promoted a.pockets a.turn a.rooks a.passing a.checks a.half a.full) 6 &&& ~~~N191 (Pos.mk a.variant a.board a.promoted a.pockets a.turn a.rooks a.passing a.checks a.half a.full) 3 &&& ~~~N191 (Pos.mk a.variant a.board a.promoted a.pockets a.turn a.rooks a.passing a.checks a.half a.full) 2 != 0#64 then (false) else (bif decide (N192 (N151 (Pos.mk a.variant a.board a.promoted a.pockets a.turn a.rooks a.passing a.checks a.half a.full) &&& ~~~N191 (Pos.mk a.variant a.board a.promoted a.pockets a.turn a.rooks a.passing a.checks a.half a.full) 6)≤1) then (true) else (bif N151 (Pos.mk a.variant a.board a.promoted a.pockets a.turn a.rooks a.passing a.checks a.half a.full) &&& ~~~N191 (Pos.mk a.variant a.board a.promoted a.pockets a.turn a.rooks a.passing a.checks a.half a.full) 6==N191 (Pos.mk a.variant a.board a.promoted a.pockets a.turn a.rooks a.passing a.checks a.half a.full) 3 then (bif N151 (Pos.mk a.variant a.board a.promoted a.pockets a.turn a.rooks a.passing a.checks a.half a.full) &&& ~~~N191 (Pos.mk a.variant a.board a.promoted a.pockets a.turn a.rooks a.passing a.checks a.half a.full) 6&&&6172840429334713770#64==0#64 then (true) else (N151 (Pos.mk a.variant a.board a.promoted a.pockets a.turn a.rooks a.passing a.checks a.half a.full) &&& ~~~N191 (Pos.mk a.variant a.board a.promoted a.pockets a.turn a.rooks a.passing a.checks a.half a.full) 6 &&& ~~~6172840429334713770#64==0#64)) else (false)))) else (bif a.variant==3 then (bif a.variant==3 then (bif N151 (Pos.mk a.variant a.board a.promoted a.pockets a.turn a.rooks a.passing a.checks a.half a.full)==N66 (Pos.mk a.variant a.board a.promoted a.pockets a.turn a.rooks a.passing a.checks a.half a.full) 0 6|||N66 (Pos.mk a.variant a.board a.promoted a.pockets a.turn a.rooks a.passing a.checks a.half a.full) 1 6 then (bif N192 (N66 (Pos.mk a.variant a.board a.promoted a.pockets a.turn a.rooks a.passing a.checks a.half a.full) 0 6)==1 then (N192 (N66 (Pos.mk a.variant a.board a.promoted a.pockets a.turn a.rooks a.passing a.checks a.half a.full) 1 6)==1) else (false)) else (false)) else (false)) else (bif a.variant==5 then (bif N151 (Pos.mk a.variant a.board a.promoted a.pockets a.turn a.rooks a.passing a.checks a.half a.full)==N66 (Pos.mk a.variant a.board a.promoted a.pockets a.turn a.rooks a.passing a.checks a.half a.full) 0 6|||N66 (Pos.mk a.variant a.board a.promoted a.pockets a.turn a.rooks a.passing a.checks a.half a.full) 1 6 then (bif N192 (N66 (Pos.mk a.variant a.board a.promoted a.pockets a.turn a.rooks a.passing a.checks a.half a.full) 0 6)==1 then (N192 (N66 (Pos.mk a.variant a.board a.promoted a.pockets a.turn a.rooks a.passing a.checks a.half a.full) 1 6)==1) else (false)) else (false)) else (false)))) else (bif a.variant==1 then (bif N151 (Pos.mk a.variant a.board a.promoted a.pockets a.turn a.rooks a.passing a.checks a.half a.full) &&& ~~~N191 (Pos.mk a.variant a.board a.promoted a.pockets a.turn a.rooks a.passing a.checks a.half a.full) 6 &&& ~~~N191 (Pos.mk a.variant a.board a.promoted a.pockets a.turn a.rooks a.passing a.checks a.half a.full) 3 &&& ~~~N191 (Pos.mk a.variant a.board a.promoted a.pockets a.turn a.rooks a.passing a.checks a.half a.full) 2 != 0#64 then (false) else (bif decide (N192 (N151 (Pos.mk a.variant a.board a.promoted a.pockets a.turn a.rooks a.passing a.checks a.half a.full) &&& ~~~N191 (Pos.mk a.variant a.board a.promoted a.pockets a.turn a.rooks a.passing a.checks a.half a.full) 6)≤1) then (true) else (bif N151 (Pos.mk a.variant a.board a.promoted a.pockets a.turn a.rooks a.passing a.checks a.half a.full) &&& ~~~N191 (Pos.mk a.variant a.board a.promoted a.pockets a.turn a.rooks a.passing a.checks a.half a.full) 6==N191 (Pos.mk a.variant a.board a.promoted a.pockets a.turn a.rooks a.passing a.checks a.half a.full) 3 then (bif N151 (Pos.mk a.variant a.board a.promoted a.pockets a.turn a.rooks a.passing a.checks a.half a.full) &&& ~~~N191 (Pos.mk a.variant a.board a.promoted a.pockets a.turn a.rooks a.passing a.checks a.half a.full) 6&&&6172840429334713770#64==0#64 then (true) else (N151 (Pos.mk a.variant a.board a.promoted a.pockets a.turn a.rooks a.passing a.checks a.half a.full) &&& ~~~N191 (Pos.mk a.variant a.board a.promoted a.pockets a.turn a.rooks a.passing a.checks a.half a.full) 6 &&& ~~~6172840429334713770#64==0#64)) else (false)))) else (bif a.variant==3 then (bif a.variant==3 then (bif N151 (Pos.mk a.variant a.board a.promoted a.pockets a.turn a.rooks a.passing a.checks a.half a.full)==N66 (Pos.mk a.variant a.board a.promoted a.pockets a.turn a.rooks a.passing a.checks a.half a.full) 0 6|||N66 (Pos.mk a.variant a.board a.promoted a.pockets a.turn a.rooks a.passing a.checks a.half a.full) 1 6 then (bif N192 (N66 (Pos.mk a.variant a.board a.promoted a.pockets a.turn a.rooks a.passing a.checks a.half a.full) 0 6)==1 then (N192 (N66 (Pos.mk a.variant a.board a.promoted a.pockets a.turn a.rooks a.passing a.checks a.half a.full) 1 6)==1) else (false)) else (false)) else (false)) else (bif a.variant==5 then (bif N151 (Pos.mk a.variant a.board a.promoted a.pockets a.turn a.rooks a.passing a.checks a.half a.full)==N66 (Pos.mk a.variant a.board a.promoted a.pockets a.turn a.rooks a.passing a.checks a.half a.full) 0 6|||N66 (Pos.mk a.variant a.board a.promoted a.pockets a.turn a.rooks a.passing a.checks a.half a.full) 1 6 then (bif N192 (N66 (Pos.mk a.variant a.board a.promoted a.pockets a.turn a.rooks a.passing a.checks a.half a.full) 0 6)==1 then (N192 (N66 (Pos.mk a.variant a.board a.promoted a.pockets a.turn a.rooks a.passing a.checks a.half a.full) 1 6)==1) else (false)) else (false)) else (false)))))
noncomputable def ok161 (a:Pos):Bool:=(ok151 (Pos.mk a.variant a.board a.promoted a.pockets a.turn a.rooks a.passing a.checks a.half a.full)&&(bif a.variant==0 then (bif a.variant==0 then (ok191 (Pos.mk a.variant a.board a.promoted a.pockets a.turn a.rooks a.passing a.checks a.half a.full) (6)&&(ok191 (Pos.mk a.variant a.board a.promoted a.pockets a.turn a.rooks a.passing a.checks a.half a.full) (3)&&(ok191 (Pos.mk a.variant a.board a.promoted a.pockets a.turn a.rooks a.passing a.checks a.half a.full) (2)&&true))) else (bif a.variant==3 then (bif a.variant==3 then (ok66 (Pos.mk a.variant a.board a.promoted a.pockets a.turn a.rooks a.passing a.checks a.half a.full) (0) (6)&&(ok66 (Pos.mk a.variant a.board a.promoted a.pockets a.turn a.rooks a.passing a.checks a.half a.full) (1) (6)&&true)) else true) else (bif a.variant==5 then (ok66 (Pos.mk a.variant a.board a.promoted a.pockets a.turn a.rooks a.passing a.checks a.half a.full) (0) (6)&&(ok66 (Pos.mk a.variant a.board a.promoted a.pockets a.turn a.rooks a.passing a.checks a.half a.full) (1) (6)&&true)) else true))) else (bif a.variant==1 then (ok191 (Pos.mk a.variant a.board a.promoted a.pockets a.turn a.rooks a.passing a.checks a.half a.full) (6)&&(ok191 (Pos.mk a.variant a.board a.promoted a.pockets a.turn a.rooks a.passing a.checks a.half a.full) (3)&&(ok191 (Pos.mk a.variant a.board a.promoted a.pockets a.turn a.rooks a.passing a.checks a.half a.full) (2)&&true))) else (bif a.variant==3 then (bif a.variant==3 then (ok66 (Pos.mk a.variant a.board a.promoted a.pockets a.turn a.rooks a.passing a.checks a.half a.full) (0) (6)&&(ok66 (Pos.mk a.variant a.board a.promoted a.pockets a.turn a.rooks a.passing a.checks a.half a.full) (1) (6)&&true)) else true) else (bif a.variant==5 then (ok66 (Pos.mk a.variant a.board a.promoted a.pockets a.turn a.rooks a.passing a.checks a.half a.full) (0) (6)&&(ok66 (Pos.mk a.variant a.board a.promoted a.pockets a.turn a.rooks a.passing a.checks a.half a.full) (1) (6)&&true)) else true)))))
theorem P161 (a:Pos) (h:ok161 a=true):PS Pz 161 [Pos.av a] (dB.res (N161 a)):=ps_sum (n:=14) hB161 (by kernel_rfl) (by kernel_rfl) (by kernel_rfl) h
noncomputable def G161:List AV→Tr AV:=g1 dPos (fun a=>gdv (ok161 a) (dB.res (N161 a)))
theorem s161:Sound Pz 161 G161:=sound1 fun a=>at_gd (P161 a)
noncomputable def K112:List (Nat×Nat×List (Nat×List Nat)):=[(112,7,[(0,[1,2]),(1,[2,4]),(2,[2]),(3,[2])])]
noncomputable def B112:Base:=baseOf Pz (fun f i=>lkC f i K112) [(161,G161),(160,G160)] [] []
theorem hB112:BOk B112:=base_ok named_z ⟨s161,s160,trivial⟩ trivial trivial
noncomputable def N112 (a:Pos):(Int×Int):=(bif N161 (Pos.mk a.variant a.board a.promoted a.pockets a.turn a.rooks a.passing a.checks a.half a.full) then ⟨((N160 3).fst),((N160 3).snd)⟩ else ⟨(0),(0)⟩)
noncomputable def ok112 (a:Pos):Bool:=(ok161 (Pos.mk a.variant a.board a.promoted a.pockets a.turn a.rooks a.passing a.checks a.half a.full)&&true)
theorem P112 (a:Pos) (h:ok112 a=true):PS Pz 112 [Pos.av a] ((dR .u8 .u8).res (N112 a)):=ps_sum (n:=14) hB112 (by kernel_rfl) (by kernel_rfl) (by kernel_rfl) h
noncomputable def G112:List AV→Tr AV:=g1 dPos (fun a=>gdv (ok112 a) ((dR .u8 .u8).res (N112 a)))
theorem s112:Sound Pz 112 G112:=sound1 fun a=>at_gd (P112 a)
noncomputable def K113:List (Nat×Nat×List (Nat×List Nat)):=[(113,8,[(0,[1,2]),(1,[2,5]),(2,[2]),(3,[2])])]
noncomputable def B113:Base:=baseOf Pz (fun f i=>lkC f i K113) [(160,G160)] [] []
theorem hB113:BOk B113:=base_ok named_z ⟨s160,trivial⟩ trivial trivial
noncomputable def N113 (a:Pos):(Int×Int):=(bif decide (a.half ≥ 150) then ⟨((N160 4).fst),((N160 4).snd)⟩ else ⟨(0),(0)⟩)
noncomputable def ok113 (a:Pos):Bool:=true
theorem P113 (a:Pos) (h:ok113 a=true):PS Pz 113 [Pos.av a] ((dR .u8 .u8).res (N113 a)):=ps_sum (n:=14) hB113 (by kernel_rfl) (by kernel_rfl) (by kernel_rfl) h
noncomputable def G113:List AV→Tr AV:=g1 dPos (fun a=>.ret ((dR .u8 .u8).res (N113 a)))
theorem s113:Sound Pz 113 G113:=sound1 fun a=>at_rt (P113 a rfl)
noncomputable def K24:List (Nat×Nat×List (Nat×List Nat)):=[(24,29,[(0,[1,2,10,11,12]),(1,[1,2,13]),(2,[2]),(3,[1,2,15,16]),(4,[1,2,15,16,17]),(5,[1,2,4,15,16]),(6,[1,2,5,15,16]),(7,[1,2,5,15,16,25]),(8,[2]),(9,[1,2,15,16]),(10,[2])])]
noncomputable def B24:Base:=baseOf Pz (fun f i=>lkC f i K24) [(38,G38),(55,G55),(111,G111),(112,G112),(113,G113)] [] []
theorem hB24:BOk B24:=base_ok named_z ⟨s38,s55,s111,s112,s113,trivial⟩ trivial trivial
noncomputable def N24 (a:Pos):(Int×Int):=(bif decide (a.variant ≥ 9) then ⟨(0),(0)⟩ else (bif decide (a.turn > 1) then ⟨(0),(0)⟩ else (bif (N38 a).fst != 0 then ⟨((N38 a).fst),((N38 a).snd)⟩ else (bif (N111 a).fst != 0 then ⟨((N111 a).fst),((N111 a).snd)⟩ else (bif (N112 a).fst != 0 then ⟨((N112 a).fst),((N112 a).snd)⟩ else (bif (N113 a).fst != 0 then ⟨((N113 a).fst),((N113 a).snd)⟩ else ⟨(0),(0)⟩))))))
noncomputable def ok24 (a:Pos):Bool:=(bif decide (a.variant ≥ 9) then true else (bif decide (a.turn > 1) then true else (ok38 (a)&&(bif (N38 a).fst != 0 then true else (ok111 (a)&&(bif (N111 a).fst != 0 then true else (ok112 (a)&&true)))))))
theorem P24 (a:Pos) (h:ok24 a=true):PS Pz 24 [Pos.av a] ((dR .u8 .u8).res (N24 a)):=ps_sum (n:=14) hB24 (by kernel_rfl) (by kernel_rfl) (by kernel_rfl) h
noncomputable def G24:List AV→Tr AV:=g1 dPos (fun a=>gdv (ok24 a) ((dR .u8 .u8).res (N24 a)))
theorem s24:Sound Pz 24 G24:=sound1 fun a=>at_gd (P24 a)
noncomputable def K11:List (Nat×Nat×List (Nat×List Nat)):=[(11,7,[(0,[1]),(1,[2])])]
noncomputable def B11:Base:=baseOf Pz (fun f i=>lkC f i K11) [(24,G24)] [] []
theorem hB11:BOk B11:=base_ok named_z ⟨s24,trivial⟩ trivial trivial
noncomputable def N11 (a:Pos):Bool:=((N24 a).fst != 0)
noncomputable def ok11 (a:Pos):Bool:=(ok24 (a)&&true)
theorem P11 (a:Pos) (h:ok11 a=true):PS Pz 11 [Pos.av a] (dB.res (N11 a)):=ps_sum (n:=14) hB11 (by kernel_rfl) (by kernel_rfl) (by kernel_rfl) h
noncomputable def G11:List AV→Tr AV:=g1 dPos (fun a=>gdv (ok11 a) (dB.res (N11 a)))
theorem s11:Sound Pz 11 G11:=sound1 fun a=>at_gd (P11 a)
noncomputable def K20:List (Nat×Nat×List (Nat×List Nat)):=[(20,9,[(0,[2,3]),(1,[4])])]
noncomputable def B20:Base:=baseOf Pz (fun f i=>lkC f i K20) [(18,G18),(41,G41)] [] []
theorem hB20:BOk B20:=base_ok named_z ⟨s18,s41,trivial⟩ trivial trivial
noncomputable def N20 (a:Pos) (b:Mv):Bool:=(N41 (N18 a) b)
noncomputable def ok20 (a:Pos) (b:Mv):Bool:=(ok18 a&&(ok41 (N18 a) b&&true))
theorem P20 (a:Pos) (b:Mv) (h:ok20 a b=true):PS Pz 20 [Pos.av a,Mv.av b] (dB.res (N20 a b)):=ps_sum (n:=14) hB20 (by kernel_rfl) (by kernel_rfl) (by kernel_rfl) h
noncomputable def G20:List AV→Tr AV:=g2 dPos dMv (fun a b=>gdv (ok20 a b) (dB.res (N20 a b)))
theorem s20:Sound Pz 20 G20:=sound2 fun a b=>at_gd (P20 a b)
end Kz
end
section
namespace Kz
open Go
def ltC (cf:Mv→Mv→Int) (x y:Mv):Bool:=decide (cf x y < 0)
section
variable (lt:Mv→Mv→Bool)
def sw (d:Array Mv) (i j:Nat):Array Mv:=if i < d.size∧j < d.size then Sort.swp d i j else d
theorem sw_in {d:Array Mv} {i j:Nat} (hi:i < d.size) (hj:j < d.size):sw d i j=Sort.swp d i j:=if_pos ⟨hi,hj⟩
def iin (a:Nat):Nat→Array Mv→Array Mv
  | 0,d=>d
  | j+1,d=>bif decide (a < j+1)&&lt d[j+1]! d[j]! then iin a j (sw d (j+1) j) else d
def iou (a:Nat):Nat→Nat→Array Mv→Array Mv
  | 0,_,d=>d
  | r+1,i,d=>iou a r (i+1) (iin lt a i d)
def ins (a b:Nat) (d:Array Mv):Array Mv:=iou lt a (b - (a+1)) (a+1) d
def swr:Nat→Nat→Nat→Array Mv→Array Mv
  | 0,_,_,d=>d
  | r+1,a,b,d=>swr r (a+1) (b+1) (sw d a b)
def rot (m:Nat):Nat→Nat→Nat→Array Mv→Array Mv
  | 0,_,_,d=>d
  | f+1,i,j,d=>if i=j then swr i (m - i) m d else if j < i then rot m f (i - j) j (swr j (m - i) m d) else rot m f i (j - i) (swr i (m - i) (m+j - i) d)
def bse (c:Nat→Bool):Nat→Nat→Nat→Nat
  | 0,i,_=>i
  | f+1,i,j=>if i < j then (bif c ((i+j) / 2) then bse c f ((i+j) / 2+1) j else bse c f i ((i+j) / 2)) else i
def upw:Nat→Nat→Array Mv→Array Mv
  | 0,_,d=>d
  | r+1,k,d=>upw r (k+1) (sw d k (k+1))
def dnw:Nat→Nat→Array Mv→Array Mv
  | 0,_,d=>d
  | r+1,k,d=>dnw r (k - 1) (sw d k (k - 1))
def mstart (a m b:Nat) (d:Array Mv):Nat :=
  let mid:=(a+b) / 2
  let p:=mid+m - 1
  if mid < m then bse (fun c => !lt d[p - c]! d[c]!) (mid - (mid+m - b)) (mid+m - b) mid
  else bse (fun c => !lt d[p - c]! d[c]!) (m - a) a m
def sym:Nat→Nat→Nat→Nat→Array Mv→Array Mv
  | 0,_,_,_,d=>d
  | f+1,a,m,b,d =>
    if m - a=1 then upw (bse (fun h=>lt d[h]! d[a]!) (b - m) m b - 1 - a) a d
    else if b - m=1 then dnw (m - bse (fun h => !lt d[m]! d[h]!) (m - a) a m) m d
    else
      let mid:=(a+b) / 2
      let s:=mstart lt a m b d
      let e:=mid+m - s
      let d1:=if s < m∧m < e then rot m (e - s) (m - s) (e - m) d else d
      let d2:=if a < s∧s < mid then sym f a s mid d1 else d1
      if mid < e∧e < b then sym f mid e b d2 else d2
def blk1 (n:Nat):Nat→Nat→Array Mv→Array Mv
  | 0,_,d=>d
  | f+1,a,d=>if a+20≤n then blk1 n f (a+20) (ins lt a (a+20) d) else ins lt a n d
def pass (n s:Nat):Nat→Nat→Array Mv→Array Mv
  | 0,_,d=>d
  | f+1,a,d=>if a+2 * s≤n then pass n s f (a+2 * s) (sym lt (n+1) a (a+s) (a+2 * s) d) else if a+s < n then sym lt (n+1) a (a+s) n d else d
def passes (n:Nat):Nat→Nat→Array Mv→Array Mv
  | 0,_,d=>d
  | f+1,s,d=>if s < n then passes n f (2 * s) (pass lt n s (n+1) 0 d) else d
def stab (d:Array Mv):Array Mv:=passes lt d.size (d.size+1) 20 (blk1 lt d.size (d.size+1) 0 d)
def Pm (d d':Array Mv):Prop:=d'.toList.Perm d.toList
theorem Pm.rfl' (d:Array Mv):Pm d d:=List.Perm.refl _
theorem Pm.trans {a b c:Array Mv} (h:Pm a b) (k:Pm b c):Pm a c:=List.Perm.trans k h
theorem Pm.size {a b:Array Mv} (h:Pm a b):b.size=a.size:=by have:=List.Perm.length_eq h; simpa using this
theorem sw_pm (d:Array Mv) (i j:Nat):Pm d (sw d i j):=by
  unfold sw
  split
  · rename_i h
    have e:Sort.swp d i j=d.swap i j h.1 h.2:=by
      unfold Sort.swp
      rw [getElem!_pos d j h.2,getElem!_pos d i h.1]
      apply Array.ext
      · simp
      · intro k h1 h2
        simp [Array.getElem_swap,Array.getElem_setIfInBounds]
        grind
    rw [e]
    exact (Array.swap_perm h.1 h.2).toList
  · exact Pm.rfl' d
theorem iin_pm (a:Nat):∀ (j:Nat) (d:Array Mv),Pm d (iin lt a j d)
  | 0,d=>Pm.rfl' d
  | j+1,d=>by
    unfold iin
    cases decide (a < j+1)&&lt d[j+1]! d[j]!
    · exact Pm.rfl' d
    · exact (sw_pm d _ _).trans (iin_pm a j _)
theorem iou_pm (a:Nat):∀ (r i:Nat) (d:Array Mv),Pm d (iou lt a r i d)
  | 0,_,d=>Pm.rfl' d
  | r+1,i,d=>(iin_pm lt a i d).trans (iou_pm a r _ _)
theorem ins_pm (a b:Nat) (d:Array Mv):Pm d (ins lt a b d):=iou_pm lt a _ _ d
theorem swr_pm:∀ (r a b:Nat) (d:Array Mv),Pm d (swr r a b d)
  | 0,_,_,d=>Pm.rfl' d
  | r+1,a,b,d=>(sw_pm d a b).trans (swr_pm r _ _ _)
theorem rot_pm (m:Nat):∀ (f i j:Nat) (d:Array Mv),Pm d (rot m f i j d)
  | 0,_,_,d=>Pm.rfl' d
  | f+1,i,j,d=>by
    unfold rot
    split
    · exact swr_pm _ _ _ _
    · split
      · exact (swr_pm _ _ _ d).trans (rot_pm m f _ _ _)
      · exact (swr_pm _ _ _ d).trans (rot_pm m f _ _ _)
theorem upw_pm:∀ (r k:Nat) (d:Array Mv),Pm d (upw r k d)
  | 0,_,d=>Pm.rfl' d
  | r+1,k,d=>(sw_pm d _ _).trans (upw_pm r _ _)
theorem dnw_pm:∀ (r k:Nat) (d:Array Mv),Pm d (dnw r k d)
  | 0,_,d=>Pm.rfl' d
  | r+1,k,d=>(sw_pm d _ _).trans (dnw_pm r _ _)
theorem ite_pm {c:Prop} [Decidable c] {d x y:Array Mv} (h1:Pm d x) (h2:Pm d y):Pm d (if c then x else y):=by split <;> assumption
theorem sym_pm:∀ (f a m b:Nat) (d:Array Mv),Pm d (sym lt f a m b d)
  | 0,_,_,_,d=>Pm.rfl' d
  | f+1,a,m,b,d=>by
    unfold sym
    refine ite_pm (upw_pm _ _ _) (ite_pm (dnw_pm _ _ _) ?_)
    have h1:Pm d (if mstart lt a m b d < m∧m < (a+b) / 2+m - mstart lt a m b d then rot m ((a+b) / 2+m - mstart lt a m b d - mstart lt a m b d) (m - mstart lt a m b d) ((a+b) / 2+m - mstart lt a m b d - m) d else d):=ite_pm (rot_pm _ _ _ _ _) (Pm.rfl' d)
    have h2:=h1.trans (ite_pm (c:=a < mstart lt a m b d∧mstart lt a m b d < (a+b) / 2) (sym_pm f a (mstart lt a m b d) ((a+b) / 2) _) (Pm.rfl' _))
    exact h2.trans (ite_pm (sym_pm f _ _ b _) (Pm.rfl' _))
theorem blk1_pm (n:Nat):∀ (f a:Nat) (d:Array Mv),Pm d (blk1 lt n f a d)
  | 0,_,d=>Pm.rfl' d
  | f+1,a,d=>by
    unfold blk1
    exact ite_pm ((ins_pm lt _ _ d).trans (blk1_pm n f _ _)) (ins_pm lt _ _ d)
theorem pass_pm (n s:Nat):∀ (f a:Nat) (d:Array Mv),Pm d (pass lt n s f a d)
  | 0,_,d=>Pm.rfl' d
  | f+1,a,d=>by
    unfold pass
    exact ite_pm ((sym_pm lt _ _ _ _ d).trans (pass_pm n s f _ _)) (ite_pm (sym_pm lt _ _ _ _ d) (Pm.rfl' d))
theorem passes_pm (n:Nat):∀ (f s:Nat) (d:Array Mv),Pm d (passes lt n f s d)
  | 0,_,d=>Pm.rfl' d
  | f+1,s,d=>by
    unfold passes
    exact ite_pm ((pass_pm lt _ _ _ _ d).trans (passes_pm n f _ _)) (Pm.rfl' d)
theorem stab_pm (d:Array Mv):Pm d (stab lt d):=(blk1_pm lt _ _ _ d).trans (passes_pm lt _ _ _ _)
end
end Kz
end
section
namespace Go.Proofs
open Go.Shelf Go.RowKit Go.Lib Go.Sort
open Kz (Mv ltC swr sw sw_in rot bse upw dnw mstart sym iin iou ins blk1 pass passes stab)
variable {α:Type} [Inhabited α]
structure RowL (g:Nat) (cb:Array Value) (cf:α→α→Int) (blk off k:Nat) (enc:α→List Value) (RW:Array α→World→Prop):Prop where
  hk:∀ x,(enc x).length=k
  load:∀ {d W},RW d W→∀ i,i < d.size→Sem.run Tryz.prog (loadCellsFrom ⟨blk,off+i * k,none⟩ 0 k #[]) W=.ok (enc d[i]!).toArray W
  drew:∀ {d W},RW d W→RW d W.drew
  st1:∀ {d W},RW d W→∀ i,i < d.size→∀ y,Sem.run Tryz.prog (storeCells ⟨blk,off+i * k,none⟩ (enc y) 0) W=.ok () (W.setCells blk (off+i * k) (enc y))
  st2:∀ {d W},RW d W→∀ i j,i < d.size→j < d.size→∀ y x,Sem.run Tryz.prog (storeCells ⟨blk,off+j * k,none⟩ (enc x) 0) (W.setCells blk (off+i * k) (enc y))=.ok () ((W.setCells blk (off+i * k) (enc y)).setCells blk (off+j * k) (enc x))
  swap:∀ {d W},RW d W→∀ i j,i < d.size→j < d.size→RW (swp d i j) ((W.setCells blk (off+i * k) (enc d[j]!)).setCells blk (off+j * k) (enc d[i]!))
  cmp:∀ {d W},RW d W→∀ x y,Calls Tryz.prog g (#[.agg (enc x).toArray,.agg (enc y).toArray]++cb) W fun e w'=>e=.returned (.int .i64 (cf x y))∧RW d w'
  eg:∀ args w,(callFunc g args).run Tryz.prog w=.ok (.enter g args) w
structure RWd (RW:Array α→World→Prop) (d:Array α) where
  W:World
  h:RW d W
set_option maxHeartbeats 4000000 in
set_option maxRecDepth 1000000 in
theorem swr_w {g:Nat} {cb:Array Value} {cf:Mv→Mv→Int} {blk off k:Nat} {enc:Mv→List Value} {RW:Array Mv→World→Prop} (L:RowL g cb cf blk off k enc RW) (aE:∀ w,(isAgg 44).run Tryz.prog w=.ok true w) (zE:∀ w,(Go.sizeOf 44).run Tryz.prog w=.ok k w)
    (cap a b n:Nat) (d:Array Mv) (w:World) (S:RW d w) (ha:a+n≤d.size) (hb:b+n≤d.size) (hsz:d.size < 4611686018427387904) :
    Calls Tryz.prog 207 #[.slice (some ⟨blk,off,none⟩) d.size cap,.int .i64 a,.int .i64 b,.int .i64 n,.func (.func g) #[] cb] w fun e w'=>e=.returned (.tuple #[])∧RW (swr n a b d) w':=by
  have mixed:Tryz.prog.follows .mixedOrders=true:=by kernel_rfl
  have S0:Aside (RW d w):=S
  have LL:Aside (RowL g cb cf blk off k enc RW):=L
  clear S L
  go_enter Tryz.func207,Tryz.ntmps207
  go_wp2
  go_loopg [10] n (fun kx s10 wr => ∃ (i:Nat) (dk:Array Mv),s10=.int .i64 i∧kx+i=n∧dk.size=d.size∧Aside (RW dk wr)∧Hid (swr kx (a+i) (b+i) dk=swr n a b d))
  case atStart=>exact ⟨0,d,rfl,rfl,rfl,S0,rfl⟩
  case round =>
    clear S0
    obtain ⟨i,dk,rfl,hi,hds,S1,HE⟩:=hrel
    cases gk with
    | zero =>
      have hlt:¬ (i:Int) < (n:Int):=by omega
      go_wp2
      go_end0
      refine ⟨rfl,?_⟩
      have:=HE.out
      rw [swr] at this
      rw [← this]
      exact S1.out
    | succ kx =>
      have hlt:(i:Int) < (n:Int):=by omega
      go_wp2_with fail
      have ea:((a:Int)+(i:Int)).toNat=a+i:=by omega
      have pa:(0:Int)≤(a:Int)+(i:Int):=by omega
      have ba:(a:Int)+(i:Int) < (d.size:Int):=by omega
      have ra:IntKind.i64.wrap ((a:Int)+(i:Int))=(a:Int)+(i:Int):=by rw [IntKind.wrap_i64]; omega
      have eb:((b:Int)+(i:Int)).toNat=b+i:=by omega
      have pb:(0:Int)≤(b:Int)+(i:Int):=by omega
      have bb:(b:Int)+(i:Int) < (d.size:Int):=by omega
      have rb:IntKind.i64.wrap ((b:Int)+(i:Int))=(b:Int)+(i:Int):=by rw [IntKind.wrap_i64]; omega
      have hA:a+i < dk.size:=by omega
      have hB:b+i < dk.size:=by omega
      have S2:Aside (RW (swp dk (a+i) (b+i)) ((wr.drew.setCells blk (off+(a+i) * k) (enc dk[b+i]!)).setCells blk (off+(b+i) * k) (enc dk[a+i]!))):=LL.out.swap (LL.out.drew S1.out) (a+i) (b+i) hA hB
      have la:=LL.out.load (LL.out.drew S1.out) (a+i) hA
      have lb:=LL.out.load (LL.out.drew S1.out) (b+i) hB
      have sa:=LL.out.st1 (LL.out.drew S1.out) (a+i) hA dk[b+i]!
      have sb:=LL.out.st2 (LL.out.drew S1.out) (a+i) (b+i) hA hB dk[b+i]! dk[a+i]!
      have na:(enc dk[a+i]!).length=k:=LL.out.hk _
      have nb:(enc dk[b+i]!).length=k:=LL.out.hk _
      generalize enc dk[a+i]! = cI at S2 la sb na
      generalize enc dk[b+i]! = cJ at S2 lb sa sb nb
      clear S1
      go_wp2_with fail
      go_big_region_o
      clear la lb sa sb
      generalize (wr.drew.setCells blk (off+(a+i) * k) cJ).setCells blk (off+(b+i) * k) cI=w2 at S2 ⊢
      go_wp2
      go_roundg kx
      case measure=>omega
      case rel =>
        refine ⟨i+1,swp dk (a+i) (b+i),by go_num,by omega,by rw [size_swp]; exact hds,S2,?_⟩
        show _=_
        rw [← HE.out,swr,sw_in hA hB]
        rfl
theorem wp_region_rw {β:Type} {RW:Array β→World→Prop} {d:Array β} {id:Nat} {Q:Exit→Act→World→Prop} {a:Act} {w:World} {l:List Oper} (hm:Tryz.prog.follows .mixedOrders=true) (hB:Region.lexB .any l.toArray=true) (hR:RW d w.drew)
    (h:wpQuiet Tryz.prog l.toArray (fun w' => ∃ p:RWd RW d,w'=p.W) (fun a' => ∀ w',(∃ p:RWd RW d,w'=p.W)→Q .normal a' w') l a):(Code.region id l.toArray true).wp Tryz.prog Q a w :=
  wp_region_quiet (C:=fun w' => ∃ p:RWd RW d,w'=p.W) hm hB ⟨⟨w.drew,hR⟩,rfl⟩ (by simpa using h)
set_option maxHeartbeats 4000000 in
set_option maxRecDepth 1000000 in
theorem ins_w {g:Nat} {cb:Array Value} {cf:Mv→Mv→Int} {blk off k:Nat} {enc:Mv→List Value} {RW:Array Mv→World→Prop} (L:RowL g cb cf blk off k enc RW) (aE:∀ w,(isAgg 44).run Tryz.prog w=.ok true w) (zE:∀ w,(Go.sizeOf 44).run Tryz.prog w=.ok k w)
    (cap a b:Nat) (d:Array Mv) (w:World) (S:RW d w) (hab:a≤b) (hb:b≤d.size) (hsz:d.size < 4611686018427387904) :
    Calls Tryz.prog 170 #[.slice (some ⟨blk,off,none⟩) d.size cap,.int .i64 a,.int .i64 b,.func (.func g) #[] cb] w fun e w'=>e=.returned (.tuple #[])∧RW (ins (ltC cf) a b d) w':=by
  have mixed:Tryz.prog.follows .mixedOrders=true:=by kernel_rfl
  have eg:=L.eg
  have S0:Aside (RW d w):=S
  have LL:Aside (RowL g cb cf blk off k enc RW):=L
  clear S L
  go_enter Tryz.func170,Tryz.ntmps170
  go_wp2
  go_loopg [8] (b - (a+1)+1) (fun g1 vi wr => ∃ (i r:Nat) (dk:Array Mv),vi=.int .i64 i∧a < i∧r=b - i∧g1=r+1∧dk.size=d.size∧Aside (RW dk wr)∧Hid (iou (ltC cf) a r i dk=ins (ltC cf) a b d))
  case atStart=>exact ⟨a+1,b - (a+1),d,by go_num,by omega,rfl,rfl,rfl,S0,rfl⟩
  case round =>
    clear S0
    obtain ⟨i,r,dk,rfl,hai,hr,rfl,hsk,S1,HO⟩:=hrel
    cases r with
    | zero =>
      have hltz:¬ (i:Int) < (b:Int):=by omega
      go_wp2
      go_end0
      refine ⟨rfl,?_⟩
      have:=HO.out
      rw [iou] at this
      rw [← this]
      exact S1.out
    | succ r =>
      have hltz:(i:Int) < (b:Int):=by omega
      have HO2:Hid (iou (ltC cf) a r (i+1) (iin (ltC cf) a i dk)=ins (ltC cf) a b d):=HO.out
      clear HO
      go_wp2
      go_loopg [9] (i+1) (fun g2 vj wr2 => ∃ (j:Nat) (dj:Array Mv),vj=.int .i64 j∧a≤j∧j≤i∧g2=j+1∧dj.size=d.size∧Aside (RW dj wr2)∧Hid (iou (ltC cf) a r (i+1) (iin (ltC cf) a j dj)=ins (ltC cf) a b d))
      case atStart=>exact ⟨i,dk,rfl,by omega,Nat.le_refl _,rfl,hsk,S1,HO2⟩
      case round =>
        clear S1 HO2
        obtain ⟨j,dj,rfl,haj,hji,rfl,hsj,S2,HI⟩:=hrel
        by_cases hja:a < j
        · obtain ⟨jp,rfl⟩:∃ jp,j=jp+1:=⟨j - 1,by omega⟩
          obtain ⟨xj,hxj⟩:∃ x,dj[jp+1]! = x:=⟨_,rfl⟩
          obtain ⟨xp,hxp⟩:∃ x,dj[jp]! = x:=⟨_,rfl⟩
          have hwp:IntKind.i64.wrap (jp:Int)=(jp:Int):=by rw [IntKind.wrap_i64]; omega
          have jz:(jp:Int)+1 < (d.size:Int):=by omega
          have jz1:(jp:Int) < (d.size:Int):=by omega
          have hjaz':(a:Int) < (jp:Int)+1:=by omega
          have p0:(0:Int)≤(jp:Int)+1:=by omega
          have e0:((jp:Int)+1).toNat=jp+1:=by omega
          have hA:jp+1 < dj.size:=by omega
          have hB:jp < dj.size:=by omega
          have lj:∀ p:RWd RW dj,Sem.run Tryz.prog (loadCellsFrom ⟨blk,off+(jp+1) * k,none⟩ 0 k #[]) p.W=.ok (enc xj).toArray p.W:=fun p=>by rw [← hxj]; exact LL.out.load p.h _ hA
          have lp:∀ p:RWd RW dj,Sem.run Tryz.prog (loadCellsFrom ⟨blk,off+jp * k,none⟩ 0 k #[]) p.W=.ok (enc xp).toArray p.W:=fun p=>by rw [← hxp]; exact LL.out.load p.h _ hB
          have hcg:∀ p:RWd RW dj,Calls Tryz.prog g (#[.agg (enc xj).toArray,.agg (enc xp).toArray]++cb) p.W fun e w'=>e=.returned (.int .i64 (cf xj xp))∧∃ p':RWd RW dj,w'=p'.W:=fun p=>(LL.out.cmp p.h xj xp).mono fun e w' ⟨h1,h2⟩=>⟨h1,⟨w',h2⟩,rfl⟩
          have hdr:RW dj wr.drew:=LL.out.drew S2.out
          clear S2
          by_cases hlv:cf xj xp < 0
          · have HI2:Hid (iou (ltC cf) a r (i+1) (iin (ltC cf) a jp (swp dj (jp+1) jp))=ins (ltC cf) a b d):=by
              have:=HI.out
              rw [iin,sw_in hA hB,hxj,hxp] at this
              simp only [hja,decide_true,ltC,hlv,Bool.and_self,cond_true] at this
              exact this
            go_wp2_with fail
            refine wp_region_rw mixed (by kernel_rfl) hdr ?_
            repeat (quiet_step (first | with_reducible rfl | (go_at_fn g; exact hcg _)))
            refine wpQuiet_nil ?_
            intro wq hw'
            obtain ⟨⟨wx,hq⟩,hw''⟩:=hw'
            subst hw''
            clear lj lp hcg hdr
            go_wp2_with fail
            have S3:Aside (RW (swp dj (jp+1) jp) ((wq.drew.setCells blk (off+(jp+1) * k) (enc dj[jp]!)).setCells blk (off+jp * k) (enc dj[jp+1]!))):=LL.out.swap (LL.out.drew hq) (jp+1) jp hA hB
            have la:=LL.out.load (LL.out.drew hq) (jp+1) hA
            have lb:=LL.out.load (LL.out.drew hq) jp hB
            have sa:=LL.out.st1 (LL.out.drew hq) (jp+1) hA dj[jp]!
            have sb:=LL.out.st2 (LL.out.drew hq) (jp+1) jp hA hB dj[jp]! dj[jp+1]!
            have na:(enc dj[jp+1]!).length=k:=LL.out.hk _
            have nb:(enc dj[jp]!).length=k:=LL.out.hk _
            clear hxj hxp
            generalize enc dj[jp+1]! = cI at S3 la sb na
            generalize enc dj[jp]! = cJ at S3 lb sa sb nb
            clear hq
            go_big_region_o
            clear la lb sa sb
            generalize (wq.drew.setCells blk (off+(jp+1) * k) cJ).setCells blk (off+jp * k) cI=w2 at S3 ⊢
            go_wp2
            go_roundg (jp+1)
            case measure=>omega
            case rel=>exact ⟨jp,swp dj (jp+1) jp,by first | rfl | go_num | (congr 1; omega),by omega,by omega,rfl,by rw [size_swp]; exact hsj,S3,HI2⟩
          · have HI2:Hid (iou (ltC cf) a r (i+1) dj=ins (ltC cf) a b d):=by
              have:=HI.out
              rw [iin,hxj,hxp] at this
              simp only [hja,decide_true,ltC,hlv,decide_false,Bool.and_false,cond_false] at this
              exact this
            go_wp2_with fail
            refine wp_region_rw mixed (by kernel_rfl) hdr ?_
            repeat (quiet_step (first | with_reducible rfl | (go_at_fn g; exact hcg _)))
            refine wpQuiet_nil ?_
            intro wq hw'
            obtain ⟨⟨wx,hq⟩,hw''⟩:=hw'
            subst hw''
            have S3:Aside (RW dj wq):=hq
            clear lj lp hcg hdr hq
            go_wp2
            go_roundg (r+1)
            case measure=>omega
            case rel=>exact ⟨i+1,r,dj,by go_num,by omega,by omega,rfl,hsj,S3,HI2⟩
        · have hjaz:decide ((j:Int) > (a:Int))=false:=decide_eq_false (by omega)
          have hjaz':¬ (a:Int) < (j:Int):=by omega
          have S3:Aside (RW dj wr.drew):=LL.out.drew S2.out
          have HI2:Hid (iou (ltC cf) a r (i+1) dj=ins (ltC cf) a b d):=by
            have:=HI.out
            cases j with
            | zero=>exact this
            | succ jp=>rw [iin] at this; simp only [hja,decide_false,Bool.false_and,cond_false] at this; exact this
          clear S2
          go_wp2_with fail
          go_big_region_o
          all_goals go_wp2
          go_roundg (r+1)
          case measure=>omega
          case rel=>exact ⟨i+1,r,dj,by go_num,by omega,by omega,rfl,hsj,S3,HI2⟩
theorem rw_size {f:Array Mv→Array Mv} {d:Array Mv} (h:Kz.Pm d (f d)):(f d).size=d.size:=h.size
set_option maxHeartbeats 4000000 in
set_option maxRecDepth 1000000 in
theorem rot_w {g:Nat} {cb:Array Value} {cf:Mv→Mv→Int} {blk off k:Nat} {enc:Mv→List Value} {RW:Array Mv→World→Prop} (L:RowL g cb cf blk off k enc RW) (aE:∀ w,(isAgg 44).run Tryz.prog w=.ok true w) (zE:∀ w,(Go.sizeOf 44).run Tryz.prog w=.ok k w)
    (cap a m b:Nat) (d:Array Mv) (w:World) (S:RW d w) (ham:a < m) (hmb:m < b) (hb:b≤d.size) (hsz:d.size < 4611686018427387904) :
    Calls Tryz.prog 195 #[.slice (some ⟨blk,off,none⟩) d.size cap,.int .i64 a,.int .i64 m,.int .i64 b,.func (.func g) #[] cb] w fun e w'=>e=.returned (.tuple #[])∧RW (rot m (b - a) (m - a) (b - m) d) w':=by
  have S0:Aside (RW d w):=S
  have LL:Aside (RowL g cb cf blk off k enc RW):=L
  clear S L
  have e1:(m:Int) - (a:Int)=((m - a:Nat):Int):=by omega
  have e2:(b:Int) - (m:Int)=((b - m:Nat):Int):=by omega
  have E1:=Lib.hid e1
  have E2:=Lib.hid e2
  clear e1 e2
  go_enter Tryz.func195,Tryz.ntmps195
  go_wp2
  go_loopg [10,11] (b - a) (fun kx s10 s11 wr => ∃ (i j:Nat) (dk:Array Mv),s10=.int .i64 i∧s11=.int .i64 j∧0 < i∧0 < j∧i≤m∧m+j≤d.size∧i+j≤kx∧dk.size=d.size∧Aside (RW dk wr)∧Hid (rot m kx i j dk=rot m (b - a) (m - a) (b - m) d))
  case atStart=>exact ⟨m - a,b - m,d,by rw [E1.out],by rw [E2.out],by omega,by omega,by omega,by omega,by omega,rfl,S0,rfl⟩
  case round =>
    clear S0
    obtain ⟨i,j,dk,rfl,rfl,hi,hj,him,hmj,hf,hds,S1,HE⟩:=hrel
    cases gk with
    | zero=>exfalso; omega
    | succ f =>
      by_cases hij:i=j
      · subst hij
        have hc:=swr_w LL.out aE zE cap (m - i) m i dk wr S1.out (by omega) (by omega) (by omega)
        rw [hds,show ((m - i:Nat):Int)=(m:Int) - (i:Int) by omega] at hc
        have HE2:=HE.out
        rw [rot,if_pos rfl] at HE2
        rw [HE2] at hc
        clear S1 HE2
        go_wp2_with fail
        refine hc.mono ?_
        rintro e w1 ⟨rfl,S3⟩
        go_wp2
        go_end0
        exact ⟨rfl,S3⟩
      · have hne:((i:Int)==(j:Int))=false:=beq_eq_false_iff_ne.2 (by omega)
        have hne':¬ (i:Int)=(j:Int):=by omega
        by_cases hji:j < i
        · have hjz:(j:Int) < (i:Int):=by omega
          have hc:=swr_w LL.out aE zE cap (m - i) m j dk wr S1.out (by omega) (by omega) (by omega)
          rw [hds,show ((m - i:Nat):Int)=(m:Int) - (i:Int) by omega] at hc
          have HE2:Hid (rot m f (i - j) j (swr j (m - i) m dk)=rot m (b - a) (m - a) (b - m) d):=by
            have:=HE.out
            rw [rot,if_neg hij,if_pos hji] at this
            exact this
          have hsz2:(swr j (m - i) m dk).size=d.size:=(Kz.swr_pm _ _ _ dk).size.trans hds
          clear S1 HE
          go_wp2_with fail
          refine hc.mono ?_
          rintro e w1 ⟨rfl,S3⟩
          go_wp2
          go_roundg f
          case measure=>omega
          case rel=>exact ⟨i - j,j,swr j (m - i) m dk,by congr 1; omega,rfl,by omega,hj,by omega,hmj,by omega,hsz2,S3,HE2⟩
        · have hjz:¬ (j:Int) < (i:Int):=by omega
          have hc:=swr_w LL.out aE zE cap (m - i) (m+j - i) i dk wr S1.out (by omega) (by omega) (by omega)
          rw [hds,show ((m - i:Nat):Int)=(m:Int) - (i:Int) by omega,show ((m+j - i:Nat):Int)=(m:Int)+(j:Int) - (i:Int) by omega] at hc
          have HE2:Hid (rot m f i (j - i) (swr i (m - i) (m+j - i) dk)=rot m (b - a) (m - a) (b - m) d):=by
            have:=HE.out
            rw [rot,if_neg hij,if_neg hji] at this
            exact this
          have hsz2:(swr i (m - i) (m+j - i) dk).size=d.size:=(Kz.swr_pm _ _ _ dk).size.trans hds
          clear S1 HE
          go_wp2_with fail
          refine hc.mono ?_
          rintro e w1 ⟨rfl,S3⟩
          go_wp2
          go_roundg f
          case measure=>omega
          case rel=>exact ⟨i,j - i,swr i (m - i) (m+j - i) dk,rfl,by congr 1; omega,hi,by omega,him,by omega,by omega,hsz2,S3,HE2⟩
theorem bse_le (c:Nat→Bool):∀ (f i j:Nat),i≤j→i≤bse c f i j∧bse c f i j≤j
  | 0,i,j,h=>⟨Nat.le_refl _,h⟩
  | f+1,i,j,h=>by
    rw [bse]
    split
    · cases c ((i+j) / 2)
      · have:=bse_le c f i ((i+j) / 2) (by omega)
        simp only [cond_false]
        omega
      · have:=bse_le c f ((i+j) / 2+1) j (by omega)
        simp only [cond_true]
        omega
    · omega
set_option maxHeartbeats 4000000 in
set_option maxRecDepth 1000000 in
theorem symA_w {g:Nat} {cb:Array Value} {cf:Mv→Mv→Int} {blk off k:Nat} {enc:Mv→List Value} {RW:Array Mv→World→Prop} (L:RowL g cb cf blk off k enc RW) (aE:∀ w,(isAgg 44).run Tryz.prog w=.ok true w) (zE:∀ w,(Go.sizeOf 44).run Tryz.prog w=.ok k w)
    (cap a m b:Nat) (d:Array Mv) (w:World) (S:RW d w) (hma:m - a=1) (hmb:m < b) (hb:b≤d.size) (hsz:d.size < 4611686018427387904) :
    Calls Tryz.prog 171 #[.slice (some ⟨blk,off,none⟩) d.size cap,.int .i64 a,.int .i64 m,.int .i64 b,.func (.func g) #[] cb] w fun e w'=>e=.returned (.tuple #[])∧RW (upw (bse (fun h=>ltC cf d[h]! d[a]!) (b - m) m b - 1 - a) a d) w':=by
  have mixed:Tryz.prog.follows .mixedOrders=true:=by kernel_rfl
  have eg:=L.eg
  have S0:Aside (RW d w):=S
  have LL:Aside (RowL g cb cf blk off k enc RW):=L
  clear S L
  have HM:Hid (m=a+1):=by show _=_; omega
  have eone:(m:Int) - (a:Int)=1:=by omega
  clear hma
  obtain ⟨r0,hr0⟩:∃ r0,r0=bse (fun h=>ltC cf d[h]! d[a]!) (b - m) m b:=⟨_,rfl⟩
  have hr1:m≤r0∧r0≤b:=by rw [hr0]; exact bse_le _ _ _ _ (by omega)
  rw [← hr0]
  have HR:=Lib.hid hr0
  clear hr0
  go_enter Tryz.func171,Tryz.ntmps171
  go_wp2
  go_loopg [10,11] (b - m+1) (fun kx s10 s11 wr => ∃ (i j f:Nat),s10=.int .i64 i∧s11=.int .i64 j∧i≤j∧m≤i∧j≤b∧j - i≤f∧kx=f+1∧Aside (RW d wr)∧Hid (bse (fun h=>ltC cf d[h]! d[a]!) f i j=r0))
  case atStart=>exact ⟨m,b,b - m,rfl,rfl,by omega,by omega,by omega,by omega,rfl,S0,HR.out.symm⟩
  case round =>
    clear S0
    obtain ⟨i,j,f,rfl,rfl,hij,hi,hj,hf,rfl,S1,HE⟩:=hrel
    by_cases hlt:i < j
    · have hltz:(i:Int) < (j:Int):=by omega
      obtain ⟨f,rfl⟩:∃ f',f=f'+1:=⟨f - 1,by omega⟩
      obtain ⟨h,hh⟩:∃ h,h=(i+j) / 2:=⟨_,rfl⟩
      have hhz:((i:Int)+(j:Int)) / 2=(h:Int):=by omega
      have HE2:=HE.out
      rw [bse,if_pos hlt,← hh] at HE2
      have hA:h < d.size:=by omega
      have hB:a < d.size:=by have:=HM.out; omega
      have hAz:(h:Int) < (d.size:Int):=by omega
      have hBz:(a:Int) < (d.size:Int):=by omega
      obtain ⟨xj,hxj⟩:∃ x,d[h]! = x:=⟨_,rfl⟩
      obtain ⟨xp,hxp⟩:∃ x,d[a]! = x:=⟨_,rfl⟩
      have lj:∀ p:RWd RW d,Sem.run Tryz.prog (loadCellsFrom ⟨blk,off+h * k,none⟩ 0 k #[]) p.W=.ok (enc xj).toArray p.W:=fun p=>by rw [← hxj]; exact LL.out.load p.h _ hA
      have lp:∀ p:RWd RW d,Sem.run Tryz.prog (loadCellsFrom ⟨blk,off+a * k,none⟩ 0 k #[]) p.W=.ok (enc xp).toArray p.W:=fun p=>by rw [← hxp]; exact LL.out.load p.h _ hB
      have hcg:∀ p:RWd RW d,Calls Tryz.prog g (#[.agg (enc xj).toArray,.agg (enc xp).toArray]++cb) p.W fun e w'=>e=.returned (.int .i64 (cf xj xp))∧∃ p':RWd RW d,w'=p'.W:=fun p=>(LL.out.cmp p.h xj xp).mono fun e w' ⟨h1,h2⟩=>⟨h1,⟨w',h2⟩,rfl⟩
      have hdr:RW d wr.drew:=LL.out.drew S1.out
      have HH:Hid (h=(i+j) / 2):=hh
      have hc0:ltC cf d[h]! d[a]! = decide (cf xj xp < 0):=by rw [hxj,hxp]; rfl
      rw [hc0] at HE2
      clear S1 hh HE hxj hxp hc0
      by_cases hlv:cf xj xp < 0
      · simp only [hlv,decide_true,cond_true] at HE2
        have HE3:Hid (bse (fun h=>ltC cf d[h]! d[a]!) f (h+1) j=r0):=HE2
        clear HE2
        go_wp2_with fail
        refine wp_region_rw mixed (by kernel_rfl) hdr ?_
        repeat (quiet_step (first | with_reducible rfl | (go_at_fn g; exact hcg _)))
        refine wpQuiet_nil ?_
        intro wq hw'
        obtain ⟨⟨wx,hq⟩,hw''⟩:=hw'
        subst hw''
        have S3:Aside (RW d wq):=hq
        clear lj lp hcg hdr hq
        go_wp2
        go_roundg (f+1)
        case measure=>omega
        case rel =>
          have:=HH.out
          exact ⟨h+1,j,f,by go_num,rfl,by omega,by omega,hj,by omega,rfl,S3,HE3.out⟩
      · simp only [hlv,decide_false,cond_false] at HE2
        have HE3:Hid (bse (fun h=>ltC cf d[h]! d[a]!) f i h=r0):=HE2
        clear HE2
        go_wp2_with fail
        refine wp_region_rw mixed (by kernel_rfl) hdr ?_
        repeat (quiet_step (first | with_reducible rfl | (go_at_fn g; exact hcg _)))
        refine wpQuiet_nil ?_
        intro wq hw'
        obtain ⟨⟨wx,hq⟩,hw''⟩:=hw'
        subst hw''
        have S3:Aside (RW d wq):=hq
        clear lj lp hcg hdr hq
        go_wp2
        go_roundg (f+1)
        case measure=>omega
        case rel =>
          have:=HH.out
          exact ⟨i,h,f,rfl,rfl,by omega,by omega,by omega,by omega,rfl,S3,HE3.out⟩
    · have hltz:¬ (i:Int) < (j:Int):=by omega
      have hir:i=r0:=by
        have:=HE.out
        cases f with
        | zero=>exact this
        | succ f=>rw [bse,if_neg hlt] at this; exact this
      subst hir
      clear HE
      go_wp2
      go_loopg [13] (i - 1 - a+1) (fun kx s13 wr2 => ∃ (q r:Nat) (dk:Array Mv),s13=.int .i64 q∧kx=r+1∧q+r=i - 1∧dk.size=d.size∧Aside (RW dk wr2)∧Hid (upw r q dk=upw (i - 1 - a) a d))
      case atStart=>exact ⟨a,i - 1 - a,d,rfl,rfl,by have:=HM.out; omega,rfl,S1,rfl⟩
      case round =>
        clear S1
        obtain ⟨q,r,dk,rfl,rfl,hqr,hds,S1,HE⟩:=hrel
        cases r with
        | zero =>
          have hz:¬ (q:Int) < (i:Int) - 1:=by omega
          go_wp2
          (try simp only [Exit.inBlock,Exit.then])
          refine bodyPost_ret (results_none rfl _ _ _) rfl ?_
          refine ⟨rfl,?_⟩
          have:=HE.out
          rw [upw] at this
          rw [← this]
          exact S1.out
        | succ r =>
          have hz:(q:Int) < (i:Int) - 1:=by omega
          have hA:q < dk.size:=by omega
          have hB:q+1 < dk.size:=by omega
          have HE2:Hid (upw r (q+1) (swp dk q (q+1))=upw (i - 1 - a) a d):=by
            have:=HE.out
            rw [upw,sw_in hA hB] at this
            exact this
          have pb:(0:Int)≤(q:Int)+1:=by omega
          have bb:(q:Int)+1 < (d.size:Int):=by omega
          have ba:(q:Int) < (d.size:Int):=by omega
          have eb:((q:Int)+1).toNat=q+1:=by omega
          have rb:IntKind.i64.wrap ((q:Int)+1)=(q:Int)+1:=by rw [IntKind.wrap_i64]; omega
          have S3:Aside (RW (swp dk q (q+1)) ((wr.drew.setCells blk (off+q * k) (enc dk[q+1]!)).setCells blk (off+(q+1) * k) (enc dk[q]!))):=LL.out.swap (LL.out.drew S1.out) q (q+1) hA hB
          have la:=LL.out.load (LL.out.drew S1.out) q hA
          have lb:=LL.out.load (LL.out.drew S1.out) (q+1) hB
          have sa:=LL.out.st1 (LL.out.drew S1.out) q hA dk[q+1]!
          have sb:=LL.out.st2 (LL.out.drew S1.out) q (q+1) hA hB dk[q+1]! dk[q]!
          have na:(enc dk[q]!).length=k:=LL.out.hk _
          have nb:(enc dk[q+1]!).length=k:=LL.out.hk _
          generalize enc dk[q]! = cI at S3 la sb na
          generalize enc dk[q+1]! = cJ at S3 lb sa sb nb
          clear S1 HE
          go_wp2_with fail
          go_big_region_o
          clear la lb sa sb
          generalize (wr.drew.setCells blk (off+q * k) cJ).setCells blk (off+(q+1) * k) cI=w2 at S3 ⊢
          go_wp2
          go_roundg (r+1)
          case measure=>omega
          case rel=>exact ⟨q+1,r,swp dk q (q+1),by go_num,rfl,by omega,by rw [size_swp]; exact hds,S3,HE2⟩
end Go.Proofs
end
section
namespace Go.Proofs
open Go.Shelf Go.RowKit Go.Lib Go.Sort
open Kz (Mv ltC swr sw sw_in rot bse upw dnw mstart sym iin iou ins blk1 pass passes stab)
set_option maxHeartbeats 4000000 in
set_option maxRecDepth 1000000 in
theorem symB_w {g:Nat} {cb:Array Value} {cf:Mv→Mv→Int} {blk off k:Nat} {enc:Mv→List Value} {RW:Array Mv→World→Prop} (L:RowL g cb cf blk off k enc RW) (aE:∀ w,(isAgg 44).run Tryz.prog w=.ok true w) (zE:∀ w,(Go.sizeOf 44).run Tryz.prog w=.ok k w)
    (cap a m b:Nat) (d:Array Mv) (w:World) (S:RW d w) (ham:a < m) (hma:¬ m - a=1) (hbm:b - m=1) (hb:b≤d.size) (hsz:d.size < 4611686018427387904) :
    Calls Tryz.prog 171 #[.slice (some ⟨blk,off,none⟩) d.size cap,.int .i64 a,.int .i64 m,.int .i64 b,.func (.func g) #[] cb] w fun e w'=>e=.returned (.tuple #[])∧RW (dnw (m - bse (fun h => !ltC cf d[m]! d[h]!) (m - a) a m) m d) w':=by
  have mixed:Tryz.prog.follows .mixedOrders=true:=by kernel_rfl
  have eg:=L.eg
  have S0:Aside (RW d w):=S
  have LL:Aside (RowL g cb cf blk off k enc RW):=L
  clear S L
  have HM:Hid (b=m+1):=by show _=_; omega
  have eone:((m:Int) - (a:Int)==1)=false:=beq_eq_false_iff_ne.2 (by omega)
  have eone':(b:Int) - (m:Int)=1:=by omega
  have hmd:m < d.size:=by omega
  clear hma hbm
  obtain ⟨r0,hr0⟩:∃ r0,r0=bse (fun h => !ltC cf d[m]! d[h]!) (m - a) a m:=⟨_,rfl⟩
  have hr1:a≤r0∧r0≤m:=by rw [hr0]; exact bse_le _ _ _ _ (by omega)
  rw [← hr0]
  have HR:=Lib.hid hr0
  clear hr0
  go_enter Tryz.func171,Tryz.ntmps171
  go_wp2
  go_loopg [14,15] (m - a+1) (fun kx s10 s11 wr => ∃ (i j f:Nat),s10=.int .i64 i∧s11=.int .i64 j∧i≤j∧a≤i∧j≤m∧j - i≤f∧kx=f+1∧Aside (RW d wr)∧Hid (bse (fun h => !ltC cf d[m]! d[h]!) f i j=r0))
  case atStart=>exact ⟨a,m,m - a,rfl,rfl,by omega,by omega,by omega,by omega,rfl,S0,HR.out.symm⟩
  case round =>
    clear S0
    obtain ⟨i,j,f,rfl,rfl,hij,hi,hj,hf,rfl,S1,HE⟩:=hrel
    by_cases hlt:i < j
    · have hltz:(i:Int) < (j:Int):=by omega
      obtain ⟨f,rfl⟩:∃ f',f=f'+1:=⟨f - 1,by omega⟩
      obtain ⟨h,hh⟩:∃ h,h=(i+j) / 2:=⟨_,rfl⟩
      have hhz:((i:Int)+(j:Int)) / 2=(h:Int):=by omega
      have HE2:=HE.out
      rw [bse,if_pos hlt,← hh] at HE2
      have hA:h < d.size:=by omega
      have hB:m < d.size:=hmd
      have hAz:(h:Int) < (d.size:Int):=by omega
      have hBz:(m:Int) < (d.size:Int):=by omega
      obtain ⟨xj,hxj⟩:∃ x,d[h]! = x:=⟨_,rfl⟩
      obtain ⟨xp,hxp⟩:∃ x,d[m]! = x:=⟨_,rfl⟩
      have lj:∀ p:RWd RW d,Sem.run Tryz.prog (loadCellsFrom ⟨blk,off+h * k,none⟩ 0 k #[]) p.W=.ok (enc xj).toArray p.W:=fun p=>by rw [← hxj]; exact LL.out.load p.h _ hA
      have lp:∀ p:RWd RW d,Sem.run Tryz.prog (loadCellsFrom ⟨blk,off+m * k,none⟩ 0 k #[]) p.W=.ok (enc xp).toArray p.W:=fun p=>by rw [← hxp]; exact LL.out.load p.h _ hB
      have hcg:∀ p:RWd RW d,Calls Tryz.prog g (#[.agg (enc xp).toArray,.agg (enc xj).toArray]++cb) p.W fun e w'=>e=.returned (.int .i64 (cf xp xj))∧∃ p':RWd RW d,w'=p'.W:=fun p=>(LL.out.cmp p.h xp xj).mono fun e w' ⟨h1,h2⟩=>⟨h1,⟨w',h2⟩,rfl⟩
      have hdr:RW d wr.drew:=LL.out.drew S1.out
      have HH:Hid (h=(i+j) / 2):=hh
      have hc0:ltC cf d[m]! d[h]! = decide (cf xp xj < 0):=by rw [hxj,hxp]; rfl
      rw [hc0] at HE2
      clear S1 hh HE hxj hxp hc0
      by_cases hlv:cf xp xj < 0
      · simp only [hlv,decide_true,Bool.not_true,cond_false] at HE2
        have HE3:Hid (bse (fun h => !ltC cf d[m]! d[h]!) f i h=r0):=HE2
        clear HE2
        go_wp2_with fail
        refine wp_region_rw mixed (by kernel_rfl) hdr ?_
        repeat (quiet_step (first | with_reducible rfl | (go_at_fn g; exact hcg _)))
        refine wpQuiet_nil ?_
        intro wq hw'
        obtain ⟨⟨wx,hq⟩,hw''⟩:=hw'
        subst hw''
        have S3:Aside (RW d wq):=hq
        clear lj lp hcg hdr hq
        go_wp2
        go_roundg (f+1)
        case measure=>omega
        case rel =>
          have:=HH.out
          exact ⟨i,h,f,rfl,rfl,by omega,by omega,by omega,by omega,rfl,S3,HE3.out⟩
      · simp only [hlv,decide_false,Bool.not_false,cond_true] at HE2
        have hlw:decide (cf xp xj < 0)=false:=decide_eq_false hlv
        have HE3:Hid (bse (fun h => !ltC cf d[m]! d[h]!) f (h+1) j=r0):=HE2
        clear HE2
        go_wp2_with fail
        refine wp_region_rw mixed (by kernel_rfl) hdr ?_
        repeat (quiet_step (first | with_reducible rfl | (go_at_fn g; exact hcg _)))
        refine wpQuiet_nil ?_
        intro wq hw'
        obtain ⟨⟨wx,hq⟩,hw''⟩:=hw'
        subst hw''
        have S3:Aside (RW d wq):=hq
        clear lj lp hcg hdr hq
        go_wp2
        go_roundg (f+1)
        case measure=>omega
        case rel =>
          have:=HH.out
          exact ⟨h+1,j,f,by go_num,rfl,by omega,by omega,hj,by omega,rfl,S3,HE3.out⟩
    · have hltz:¬ (i:Int) < (j:Int):=by omega
      have hir:i=r0:=by
        have:=HE.out
        cases f with
        | zero=>exact this
        | succ f=>rw [bse,if_neg hlt] at this; exact this
      subst hir
      clear HE
      go_wp2
      go_loopg [17] (m - i+1) (fun kx s17 wr2 => ∃ (q r:Nat) (dk:Array Mv),s17=.int .i64 q∧kx=r+1∧q=i+r∧q≤m∧dk.size=d.size∧Aside (RW dk wr2)∧Hid (dnw r q dk=dnw (m - i) m d))
      case atStart=>exact ⟨m,m - i,d,rfl,rfl,by omega,Nat.le_refl _,rfl,S1,rfl⟩
      case round =>
        clear S1
        obtain ⟨q,r,dk,rfl,rfl,hqr,hqm,hds,S1,HE⟩:=hrel
        cases r with
        | zero =>
          have hz:¬ (i:Int) < (q:Int):=by omega
          have HQ:=Lib.hid hqr
          clear hqr
          go_wp2
          (try simp only [Exit.inBlock,Exit.then])
          refine bodyPost_ret (results_none rfl _ _ _) rfl ?_
          refine ⟨rfl,?_⟩
          have:=HE.out
          rw [dnw] at this
          rw [← this]
          exact S1.out
        | succ r =>
          obtain ⟨jp,rfl⟩:∃ jp,q=jp+1:=⟨q - 1,by omega⟩
          have HQ:Hid (jp=i+r):=by show _=_; omega
          have hz:(i:Int) < (jp:Int)+1:=by omega
          have hA:jp+1 < dk.size:=by omega
          have hB:jp < dk.size:=by omega
          have HE2:Hid (dnw r jp (swp dk (jp+1) jp)=dnw (m - i) m d):=by
            have:=HE.out
            rw [dnw,Nat.add_sub_cancel,sw_in hA hB] at this
            exact this
          have hwp:IntKind.i64.wrap (jp:Int)=(jp:Int):=by rw [IntKind.wrap_i64]; omega
          have jz:(jp:Int)+1 < (d.size:Int):=by omega
          have jz1:(jp:Int) < (d.size:Int):=by omega
          have p0:(0:Int)≤(jp:Int)+1:=by omega
          have e0:((jp:Int)+1).toNat=jp+1:=by omega
          have S3:Aside (RW (swp dk (jp+1) jp) ((wr.drew.setCells blk (off+(jp+1) * k) (enc dk[jp]!)).setCells blk (off+jp * k) (enc dk[jp+1]!))):=LL.out.swap (LL.out.drew S1.out) (jp+1) jp hA hB
          have la:=LL.out.load (LL.out.drew S1.out) (jp+1) hA
          have lb:=LL.out.load (LL.out.drew S1.out) jp hB
          have sa:=LL.out.st1 (LL.out.drew S1.out) (jp+1) hA dk[jp]!
          have sb:=LL.out.st2 (LL.out.drew S1.out) (jp+1) jp hA hB dk[jp]! dk[jp+1]!
          have na:(enc dk[jp+1]!).length=k:=LL.out.hk _
          have nb:(enc dk[jp]!).length=k:=LL.out.hk _
          generalize enc dk[jp+1]! = cI at S3 la sb na
          generalize enc dk[jp]! = cJ at S3 lb sa sb nb
          clear S1 HE hqr
          go_wp2_with fail
          go_big_region_o
          clear la lb sa sb
          generalize (wr.drew.setCells blk (off+(jp+1) * k) cJ).setCells blk (off+jp * k) cI=w2 at S3 ⊢
          go_wp2
          go_roundg (r+1)
          case measure=>omega
          case rel =>
            have:=HQ.out
            exact ⟨jp,r,swp dk (jp+1) jp,by first | rfl | go_num | (congr 1; omega),rfl,this,by omega,by rw [size_swp]; exact hds,S3,HE2⟩
end Go.Proofs
end
section
namespace Go.Proofs
open Go.Shelf Go.RowKit Go.Lib Go.Sort
open Kz (Mv ltC swr sw sw_in rot bse upw dnw mstart sym iin iou ins blk1 pass passes stab)
theorem mstart_bse (lt:Mv→Mv→Bool) (a m b:Nat) (d:Array Mv) (mid lo hi:Nat) (hm:mid=(a+b) / 2) (h:(mid < m∧lo=mid+m - b∧hi=mid)∨(¬ mid < m∧lo=a∧hi=m)) :
    mstart lt a m b d=bse (fun c => !lt d[mid+m - 1 - c]! d[c]!) (hi - lo) lo hi:=by
  subst hm
  unfold mstart
  rcases h with ⟨h1,h2,h3⟩ | ⟨h1,h2,h3⟩
  · rw [if_pos h1,h2,h3]
  · rw [if_neg h1,h2,h3]
set_option maxHeartbeats 40000000 in
set_option maxRecDepth 1000000 in
theorem symC_w {g:Nat} {cb:Array Value} {cf:Mv→Mv→Int} {blk off k:Nat} {enc:Mv→List Value} {RW:Array Mv→World→Prop} (L:RowL g cb cf blk off k enc RW) (aE:∀ w,(isAgg 44).run Tryz.prog w=.ok true w) (zE:∀ w,(Go.sizeOf 44).run Tryz.prog w=.ok k w)
    (cap a m b f:Nat) (d:Array Mv) (w:World) (S:RW d w) (ham:a < m) (hmb:m < b) (hma:¬ m - a=1) (hbm:¬ b - m=1) (hb:b≤d.size) (hsz:d.size < 4611686018427387904)
    (ih:∀ (a' m' b':Nat) (d':Array Mv) (w':World),b' - a' < b - a→d'.size=d.size→RW d' w'→a' < m'→m' < b'→b'≤d.size →
      Calls Tryz.prog 171 #[.slice (some ⟨blk,off,none⟩) d.size cap,.int .i64 a',.int .i64 m',.int .i64 b',.func (.func g) #[] cb] w' fun e w''=>e=.returned (.tuple #[])∧RW (sym (ltC cf) f a' m' b' d') w'') :
    Calls Tryz.prog 171 #[.slice (some ⟨blk,off,none⟩) d.size cap,.int .i64 a,.int .i64 m,.int .i64 b,.func (.func g) #[] cb] w fun e w'=>e=.returned (.tuple #[])∧RW (sym (ltC cf) (f+1) a m b d) w':=by
  have mixed:Tryz.prog.follows .mixedOrders=true:=by kernel_rfl
  have eg:=L.eg
  have S0:Aside (RW d w):=S
  have LL:Aside (RowL g cb cf blk off k enc RW):=L
  have IH:Aside _:=ih
  obtain ⟨mid,hmid⟩:∃ mid,mid=(a+b) / 2:=⟨_,rfl⟩
  obtain ⟨lo,hi,hlh⟩:∃ lo hi,(mid < m∧lo=mid+m - b∧hi=mid)∨(¬ mid < m∧lo=a∧hi=m):=by
    by_cases h:mid < m
    · exact ⟨_,_,.inl ⟨h,rfl,rfl⟩⟩
    · exact ⟨_,_,.inr ⟨h,rfl,rfl⟩⟩
  have hms:=mstart_bse (ltC cf) a m b d mid lo hi hmid hlh
  obtain ⟨s,hs⟩:∃ s,s=mstart (ltC cf) a m b d:=⟨_,rfl⟩
  have hle:lo≤hi:=by omega
  have hsr:lo≤s∧s≤hi:=by rw [hs,hms]; exact bse_le _ _ _ _ hle
  obtain ⟨e,he⟩:∃ e,e=mid+m - s:=⟨_,rfl⟩
  have HSY:Hid (sym (ltC cf) (f+1) a m b d=if mid < e∧e < b then sym (ltC cf) f mid e b (if a < s∧s < mid then sym (ltC cf) f a s mid (if s < m∧m < e then rot m (e - s) (m - s) (e - m) d else d) else (if s < m∧m < e then rot m (e - s) (m - s) (e - m) d else d)) else (if a < s∧s < mid then sym (ltC cf) f a s mid (if s < m∧m < e then rot m (e - s) (m - s) (e - m) d else d) else (if s < m∧m < e then rot m (e - s) (m - s) (e - m) d else d))):=by
    show _=_
    rw [sym,if_neg hma,if_neg hbm]
    simp only [← hmid,← hs,← he]
  rw [hms] at hs
  have HS:=Lib.hid hs
  have HE:=Lib.hid he
  have HM:=Lib.hid hmid
  have HL:=Lib.hid hlh
  have eone:((m:Int) - (a:Int)==1)=false:=beq_eq_false_iff_ne.2 (by omega)
  have eone':((b:Int) - (m:Int)==1)=false:=beq_eq_false_iff_ne.2 (by omega)
  have hmidz:((a:Int)+(b:Int)) / 2=(mid:Int):=by omega
  have hez:(mid:Int)+(m:Int) - (s:Int)=(e:Int):=by omega
  have HSR:=Lib.hid hsr
  clear S L ih hmid hms hs he hma hbm hlh hsr
  go_enter Tryz.func171,Tryz.ntmps171
  go_upto_if 140 with fail
  go_cut [20,21] from 25 (fun s20 s21 wc=>s20=.int .i64 lo∧s21=.int .i64 hi∧Aside (RW d wc))
  case first =>
    by_cases hgt:mid < m
    · have hgz:(mid:Int) < (m:Int):=by omega
      have e1:lo=mid+m - b∧hi=mid:=by have:=HL.out; omega
      have e2:(mid:Int)+(m:Int) - (b:Int)=(lo:Int):=by have:=HM.out; omega
      have e3:mid=hi:=e1.2.symm
      have E2:=Lib.hid e2
      have E3:=Lib.hid e3
      clear e1 e2 e3
      go_wp2_with fail
      go_meet
      case rel=>exact ⟨by rw [E2.out],by rw [← E3.out],S0⟩
    · have hgz:¬ (mid:Int) < (m:Int):=by omega
      have e1:lo=a∧hi=m:=by have:=HL.out; omega
      have E1:=Lib.hid e1
      clear e1
      go_wp2_with fail
      go_meet
      case rel=>exact ⟨by rw [E1.out.1],by rw [E1.out.2],S0⟩
  case rest =>
    clear S0
    obtain ⟨rfl,rfl,S0⟩:=hcut
    go_wp2
    go_loopg [20,21] (hi - lo+1) (fun kx s20 s21 wr => ∃ (i j f':Nat),s20=.int .i64 i∧s21=.int .i64 j∧i≤j∧lo≤i∧j≤hi∧j - i≤f'∧kx=f'+1∧Aside (RW d wr)∧Hid (bse (fun c => !ltC cf d[mid+m - 1 - c]! d[c]!) f' i j=s))
    case atStart=>exact ⟨lo,hi,hi - lo,rfl,rfl,hle,Nat.le_refl _,Nat.le_refl _,Nat.le_refl _,rfl,S0,HS.out.symm⟩
    case round =>
      clear S0
      obtain ⟨i,j,f',rfl,rfl,hij,hi1,hj,hf,rfl,S1,HB⟩:=hrel
      by_cases hlt:i < j
      · have hltz:(i:Int) < (j:Int):=by omega
        obtain ⟨f',rfl⟩:∃ f2,f'=f2+1:=⟨f' - 1,by omega⟩
        obtain ⟨h,hh⟩:∃ h,h=(i+j) / 2:=⟨_,rfl⟩
        have hhz:((i:Int)+(j:Int)) / 2=(h:Int):=by omega
        obtain ⟨q,hq⟩:∃ q,q=mid+m - 1 - h:=⟨_,rfl⟩
        have hqr:(mid:Int)+(m:Int) - 1 - (h:Int)=(q:Int)∧q < b:=by have:=HL.out; have:=HM.out; omega
        have hqz:=hqr.1
        have HB2:=HB.out
        rw [bse,if_pos hlt,← hh,← hq] at HB2
        have hA:h < d.size:=by have:=HL.out; have:=HM.out; omega
        have hB:q < d.size:=by omega
        have hAz:(h:Int) < (d.size:Int):=by omega
        have hBz:(q:Int) < (d.size:Int):=by omega
        have hwq:IntKind.i64.wrap (q:Int)=(q:Int):=by rw [IntKind.wrap_i64]; omega
        obtain ⟨xj,hxj⟩:∃ x,d[h]! = x:=⟨_,rfl⟩
        obtain ⟨xp,hxp⟩:∃ x,d[q]! = x:=⟨_,rfl⟩
        have lj:∀ p:RWd RW d,Sem.run Tryz.prog (loadCellsFrom ⟨blk,off+h * k,none⟩ 0 k #[]) p.W=.ok (enc xj).toArray p.W:=fun p=>by rw [← hxj]; exact LL.out.load p.h _ hA
        have lp:∀ p:RWd RW d,Sem.run Tryz.prog (loadCellsFrom ⟨blk,off+q * k,none⟩ 0 k #[]) p.W=.ok (enc xp).toArray p.W:=fun p=>by rw [← hxp]; exact LL.out.load p.h _ hB
        have hcg:∀ p:RWd RW d,Calls Tryz.prog g (#[.agg (enc xp).toArray,.agg (enc xj).toArray]++cb) p.W fun e w'=>e=.returned (.int .i64 (cf xp xj))∧∃ p':RWd RW d,w'=p'.W:=fun p=>(LL.out.cmp p.h xp xj).mono fun e w' ⟨h1,h2⟩=>⟨h1,⟨w',h2⟩,rfl⟩
        have hdr:RW d wr.drew:=LL.out.drew S1.out
        have HH:Hid (h=(i+j) / 2):=hh
        have HQ:Hid (q=mid+m - 1 - h):=hq
        have hc0:ltC cf d[q]! d[h]! = decide (cf xp xj < 0):=by rw [hxj,hxp]; rfl
        rw [hc0] at HB2
        clear S1 hh hq hqr HB hxj hxp hc0
        by_cases hlv:cf xp xj < 0
        · simp only [hlv,decide_true,Bool.not_true,cond_false] at HB2
          have HB3:Hid (bse (fun c => !ltC cf d[mid+m - 1 - c]! d[c]!) f' i h=s):=HB2
          clear HB2
          go_wp2_with fail
          refine wp_region_rw mixed (by kernel_rfl) hdr ?_
          repeat (quiet_step (first | with_reducible rfl | (go_at_fn g; exact hcg _)))
          refine wpQuiet_nil ?_
          intro wq hw'
          obtain ⟨⟨wx,hq⟩,hw''⟩:=hw'
          subst hw''
          have S3:Aside (RW d wq):=hq
          clear lj lp hcg hdr hq
          go_wp2
          go_roundg (f'+1)
          case measure=>omega
          case rel =>
            have:=HH.out
            exact ⟨i,h,f',rfl,rfl,by omega,by omega,by omega,by omega,rfl,S3,HB3.out⟩
        · simp only [hlv,decide_false,Bool.not_false,cond_true] at HB2
          have hlw:decide (cf xp xj < 0)=false:=decide_eq_false hlv
          have HB3:Hid (bse (fun c => !ltC cf d[mid+m - 1 - c]! d[c]!) f' (h+1) j=s):=HB2
          clear HB2
          go_wp2_with fail
          refine wp_region_rw mixed (by kernel_rfl) hdr ?_
          repeat (quiet_step (first | with_reducible rfl | (go_at_fn g; exact hcg _)))
          refine wpQuiet_nil ?_
          intro wq hw'
          obtain ⟨⟨wx,hq⟩,hw''⟩:=hw'
          subst hw''
          have S3:Aside (RW d wq):=hq
          clear lj lp hcg hdr hq
          go_wp2
          go_roundg (f'+1)
          case measure=>omega
          case rel =>
            have:=HH.out
            exact ⟨h+1,j,f',by go_num,rfl,by omega,by omega,hj,by omega,rfl,S3,HB3.out⟩
      · have hltz:¬ (i:Int) < (j:Int):=by omega
        have hir:i=s:=by
          have:=HB.out
          cases f' with
          | zero=>exact this
          | succ f'=>rw [bse,if_neg hlt] at this; exact this
        subst hir
        clear HB
        have LLL:Hid (a≤i∧i≤m∧i≤mid∧mid+m≤b+i∧a < mid∧mid < b):=by have:=HL.out; have:=HM.out; have:=HSR.out; show _∧_; omega
        by_cases h1:i < m
        · by_cases h2:i < mid
          · by_cases h3:a < i
            · by_cases h4:e < b
              · have Z:=LLL.out
                have ZE:=HE.out
                have z1:(i:Int) < (m:Int):=by have:=HE.out; have:=LLL.out; omega
                have z2:(m:Int) < (e:Int):=by have:=HE.out; have:=LLL.out; omega
                have z3:(a:Int) < (i:Int):=by have:=HE.out; have:=LLL.out; omega
                have z4:(i:Int) < (mid:Int):=by have:=HE.out; have:=LLL.out; omega
                have z5:(mid:Int) < (e:Int):=by have:=HE.out; have:=LLL.out; omega
                have z6:(e:Int) < (b:Int):=by have:=HE.out; have:=LLL.out; omega
                have y1:(i < m∧m < e):=by omega
                have y2:(a < i∧i < mid):=by omega
                have y3:(mid < e∧e < b):=by omega
                have HSY2:=HSY.out
                rw [if_pos y3,if_pos y2,if_pos y1] at HSY2
                have HSY3:=Lib.hid HSY2
                clear HSY2
                have hc1:=rot_w LL.out aE zE cap i m e d wr S1.out (by omega) (by omega) (by omega) hsz
                have hz1:(rot m (e - i) (m - i) (e - m) d).size=d.size:=(Kz.rot_pm _ _ _ _ _).size.trans rfl
                have hc2:∀ W,Aside (RW (rot m (e - i) (m - i) (e - m) d) W)→_:=fun W HW=>IH.out a i mid (rot m (e - i) (m - i) (e - m) d) W (by omega) hz1 HW.out (by omega) (by omega) (by omega)
                have hz2:(sym (ltC cf) f a i mid (rot m (e - i) (m - i) (e - m) d)).size=d.size:=(Kz.sym_pm _ _ _ _ _ _).size.trans hz1
                have hc3:∀ W,Aside (RW (sym (ltC cf) f a i mid (rot m (e - i) (m - i) (e - m) d)) W)→_:=fun W HW=>IH.out mid e b (sym (ltC cf) f a i mid (rot m (e - i) (m - i) (e - m) d)) W (by omega) hz2 HW.out (by omega) (by omega) (by omega)
                have HC2:=Lib.hid hc2
                have HC3:=Lib.hid hc3
                clear Z ZE y1 y2 y3 S1 hc2 hc3 hz1 hz2
                go_wp2_with fail
                refine hc1.mono ?_
                rintro e1 w1 ⟨rfl,T1⟩
                have U1:Aside _:=T1
                clear T1 hc1
                go_wp2_with fail
                refine (HC2.out _ U1).mono ?_
                rintro e2 w2 ⟨rfl,T2⟩
                have U2:Aside _:=T2
                clear T2 U1
                go_wp2_with fail
                refine (HC3.out _ U2).mono ?_
                rintro e3 w3 ⟨rfl,T3⟩
                have U3:Aside _:=T3
                clear T3 U2
                go_wp2
                go_end0
                exact ⟨rfl,by rw [HSY3.out]; exact U3.out⟩
              · have Z:=LLL.out
                have ZE:=HE.out
                have z1:(i:Int) < (m:Int):=by have:=HE.out; have:=LLL.out; omega
                have z2:(m:Int) < (e:Int):=by have:=HE.out; have:=LLL.out; omega
                have z3:(a:Int) < (i:Int):=by have:=HE.out; have:=LLL.out; omega
                have z4:(i:Int) < (mid:Int):=by have:=HE.out; have:=LLL.out; omega
                have z5:(mid:Int) < (e:Int):=by have:=HE.out; have:=LLL.out; omega
                have z6:¬ (e:Int) < (b:Int):=by have:=HE.out; have:=LLL.out; omega
                have y1:(i < m∧m < e):=by omega
                have y2:(a < i∧i < mid):=by omega
                have y3:¬ (mid < e∧e < b):=by omega
                have HSY2:=HSY.out
                rw [if_neg y3,if_pos y2,if_pos y1] at HSY2
                have HSY3:=Lib.hid HSY2
                clear HSY2
                have hc1:=rot_w LL.out aE zE cap i m e d wr S1.out (by omega) (by omega) (by omega) hsz
                have hz1:(rot m (e - i) (m - i) (e - m) d).size=d.size:=(Kz.rot_pm _ _ _ _ _).size.trans rfl
                have hc2:∀ W,Aside (RW (rot m (e - i) (m - i) (e - m) d) W)→_:=fun W HW=>IH.out a i mid (rot m (e - i) (m - i) (e - m) d) W (by omega) hz1 HW.out (by omega) (by omega) (by omega)
                have HC2:=Lib.hid hc2
                clear Z ZE y1 y2 y3 S1 hc2 hz1
                go_wp2_with fail
                refine hc1.mono ?_
                rintro e1 w1 ⟨rfl,T1⟩
                have U1:Aside _:=T1
                clear T1 hc1
                go_wp2_with fail
                refine (HC2.out _ U1).mono ?_
                rintro e2 w2 ⟨rfl,T2⟩
                have U2:Aside _:=T2
                clear T2 U1
                go_wp2
                go_end0
                exact ⟨rfl,by rw [HSY3.out]; exact U2.out⟩
            · by_cases h4:e < b
              · have Z:=LLL.out
                have ZE:=HE.out
                have z1:(i:Int) < (m:Int):=by have:=HE.out; have:=LLL.out; omega
                have z2:(m:Int) < (e:Int):=by have:=HE.out; have:=LLL.out; omega
                have z3:¬ (a:Int) < (i:Int):=by have:=HE.out; have:=LLL.out; omega
                have z4:(i:Int) < (mid:Int):=by have:=HE.out; have:=LLL.out; omega
                have z5:(mid:Int) < (e:Int):=by have:=HE.out; have:=LLL.out; omega
                have z6:(e:Int) < (b:Int):=by have:=HE.out; have:=LLL.out; omega
                have y1:(i < m∧m < e):=by omega
                have y2:¬ (a < i∧i < mid):=by omega
                have y3:(mid < e∧e < b):=by omega
                have HSY2:=HSY.out
                rw [if_pos y3,if_neg y2,if_pos y1] at HSY2
                have HSY3:=Lib.hid HSY2
                clear HSY2
                have hc1:=rot_w LL.out aE zE cap i m e d wr S1.out (by omega) (by omega) (by omega) hsz
                have hz1:(rot m (e - i) (m - i) (e - m) d).size=d.size:=(Kz.rot_pm _ _ _ _ _).size.trans rfl
                have hc2:∀ W,Aside (RW (rot m (e - i) (m - i) (e - m) d) W)→_:=fun W HW=>IH.out mid e b (rot m (e - i) (m - i) (e - m) d) W (by omega) hz1 HW.out (by omega) (by omega) (by omega)
                have HC2:=Lib.hid hc2
                clear Z ZE y1 y2 y3 S1 hc2 hz1
                go_wp2_with fail
                refine hc1.mono ?_
                rintro e1 w1 ⟨rfl,T1⟩
                have U1:Aside _:=T1
                clear T1 hc1
                go_wp2_with fail
                refine (HC2.out _ U1).mono ?_
                rintro e2 w2 ⟨rfl,T2⟩
                have U2:Aside _:=T2
                clear T2 U1
                go_wp2
                go_end0
                exact ⟨rfl,by rw [HSY3.out]; exact U2.out⟩
              · have Z:=LLL.out
                have ZE:=HE.out
                have z1:(i:Int) < (m:Int):=by have:=HE.out; have:=LLL.out; omega
                have z2:(m:Int) < (e:Int):=by have:=HE.out; have:=LLL.out; omega
                have z3:¬ (a:Int) < (i:Int):=by have:=HE.out; have:=LLL.out; omega
                have z4:(i:Int) < (mid:Int):=by have:=HE.out; have:=LLL.out; omega
                have z5:(mid:Int) < (e:Int):=by have:=HE.out; have:=LLL.out; omega
                have z6:¬ (e:Int) < (b:Int):=by have:=HE.out; have:=LLL.out; omega
                have y1:(i < m∧m < e):=by omega
                have y2:¬ (a < i∧i < mid):=by omega
                have y3:¬ (mid < e∧e < b):=by omega
                have HSY2:=HSY.out
                rw [if_neg y3,if_neg y2,if_pos y1] at HSY2
                have HSY3:=Lib.hid HSY2
                clear HSY2
                have hc1:=rot_w LL.out aE zE cap i m e d wr S1.out (by omega) (by omega) (by omega) hsz
                clear Z ZE y1 y2 y3 S1
                go_wp2_with fail
                refine hc1.mono ?_
                rintro e1 w1 ⟨rfl,T1⟩
                have U1:Aside _:=T1
                clear T1 hc1
                go_wp2
                go_end0
                exact ⟨rfl,by rw [HSY3.out]; exact U1.out⟩
          · by_cases h3:a < i
            · by_cases h4:e < b
              · have Z:=LLL.out
                have ZE:=HE.out
                have z1:(i:Int) < (m:Int):=by have:=HE.out; have:=LLL.out; omega
                have z2:¬ (m:Int) < (e:Int):=by have:=HE.out; have:=LLL.out; omega
                have z3:(a:Int) < (i:Int):=by have:=HE.out; have:=LLL.out; omega
                have z4:¬ (i:Int) < (mid:Int):=by have:=HE.out; have:=LLL.out; omega
                have z5:(mid:Int) < (e:Int):=by have:=HE.out; have:=LLL.out; omega
                have z6:(e:Int) < (b:Int):=by have:=HE.out; have:=LLL.out; omega
                have y1:¬ (i < m∧m < e):=by omega
                have y2:¬ (a < i∧i < mid):=by omega
                have y3:(mid < e∧e < b):=by omega
                have HSY2:=HSY.out
                rw [if_pos y3,if_neg y2,if_neg y1] at HSY2
                have HSY3:=Lib.hid HSY2
                clear HSY2
                have hc1:=IH.out mid e b d wr (by omega) rfl S1.out (by omega) (by omega) (by omega)
                clear Z ZE y1 y2 y3 S1
                go_wp2_with fail
                refine hc1.mono ?_
                rintro e1 w1 ⟨rfl,T1⟩
                have U1:Aside _:=T1
                clear T1 hc1
                go_wp2
                go_end0
                exact ⟨rfl,by rw [HSY3.out]; exact U1.out⟩
              · exfalso; have:=LLL.out; have:=HE.out; have:=HM.out; omega
            · exfalso; have:=LLL.out; have:=HE.out; have:=HM.out; omega
        · by_cases h2:i < mid
          · by_cases h3:a < i
            · by_cases h4:e < b
              · have Z:=LLL.out
                have ZE:=HE.out
                have z1:¬ (i:Int) < (m:Int):=by have:=HE.out; have:=LLL.out; omega
                have z2:(m:Int) < (e:Int):=by have:=HE.out; have:=LLL.out; omega
                have z3:(a:Int) < (i:Int):=by have:=HE.out; have:=LLL.out; omega
                have z4:(i:Int) < (mid:Int):=by have:=HE.out; have:=LLL.out; omega
                have z5:¬ (mid:Int) < (e:Int):=by have:=HE.out; have:=LLL.out; omega
                have z6:(e:Int) < (b:Int):=by have:=HE.out; have:=LLL.out; omega
                have y1:¬ (i < m∧m < e):=by omega
                have y2:(a < i∧i < mid):=by omega
                have y3:¬ (mid < e∧e < b):=by omega
                have HSY2:=HSY.out
                rw [if_neg y3,if_pos y2,if_neg y1] at HSY2
                have HSY3:=Lib.hid HSY2
                clear HSY2
                have hc1:=IH.out a i mid d wr (by omega) rfl S1.out (by omega) (by omega) (by omega)
                clear Z ZE y1 y2 y3 S1
                go_wp2_with fail
                refine hc1.mono ?_
                rintro e1 w1 ⟨rfl,T1⟩
                have U1:Aside _:=T1
                clear T1 hc1
                go_wp2
                go_end0
                exact ⟨rfl,by rw [HSY3.out]; exact U1.out⟩
              · exfalso; have:=LLL.out; have:=HE.out; have:=HM.out; omega
            · exfalso; have:=LLL.out; have:=HE.out; have:=HM.out; omega
          · by_cases h3:a < i
            · by_cases h4:e < b
              · have Z:=LLL.out
                have ZE:=HE.out
                have z1:¬ (i:Int) < (m:Int):=by have:=HE.out; have:=LLL.out; omega
                have z2:¬ (m:Int) < (e:Int):=by have:=HE.out; have:=LLL.out; omega
                have z3:(a:Int) < (i:Int):=by have:=HE.out; have:=LLL.out; omega
                have z4:¬ (i:Int) < (mid:Int):=by have:=HE.out; have:=LLL.out; omega
                have z5:¬ (mid:Int) < (e:Int):=by have:=HE.out; have:=LLL.out; omega
                have z6:(e:Int) < (b:Int):=by have:=HE.out; have:=LLL.out; omega
                have y1:¬ (i < m∧m < e):=by omega
                have y2:¬ (a < i∧i < mid):=by omega
                have y3:¬ (mid < e∧e < b):=by omega
                have HSY2:=HSY.out
                rw [if_neg y3,if_neg y2,if_neg y1] at HSY2
                have HSY3:=Lib.hid HSY2
                clear HSY2
                clear Z ZE y1 y2 y3
                go_wp2
                go_end0
                exact ⟨rfl,by rw [HSY3.out]; exact S1.out⟩
              · exfalso; have:=LLL.out; have:=HE.out; have:=HM.out; omega
            · exfalso; have:=LLL.out; have:=HE.out; have:=HM.out; omega
theorem sym_w {g:Nat} {cb:Array Value} {cf:Mv→Mv→Int} {blk off k:Nat} {enc:Mv→List Value} {RW:Array Mv→World→Prop} (L:RowL g cb cf blk off k enc RW) (aE:∀ w,(isAgg 44).run Tryz.prog w=.ok true w) (zE:∀ w,(Go.sizeOf 44).run Tryz.prog w=.ok k w)
    (cap N:Nat) (hsz:N < 4611686018427387904):∀ (f a m b:Nat) (d:Array Mv) (w:World),b - a≤f→d.size=N→RW d w→a < m→m < b→b≤N →
    Calls Tryz.prog 171 #[.slice (some ⟨blk,off,none⟩) N cap,.int .i64 a,.int .i64 m,.int .i64 b,.func (.func g) #[] cb] w fun e w'=>e=.returned (.tuple #[])∧RW (sym (ltC cf) f a m b d) w'
  | 0,a,m,b,d,w,h,_,_,h1,h2,_=>by omega
  | f+1,a,m,b,d,w,h,hd,S,h1,h2,h3=>by
    subst hd
    by_cases c1:m - a=1
    · rw [sym,if_pos c1]
      exact symA_w L aE zE cap a m b d w S c1 h2 h3 hsz
    · by_cases c2:b - m=1
      · rw [sym,if_neg c1,if_pos c2]
        exact symB_w L aE zE cap a m b d w S h1 c1 c2 h3 hsz
      · exact symC_w L aE zE cap a m b f d w S h1 h2 c1 c2 h3 hsz (fun a' m' b' d' w' k1 k2 k3 k4 k5 k6=>sym_w L aE zE cap d.size hsz f a' m' b' d' w' (by omega) k2 k3 k4 k5 k6)
set_option maxHeartbeats 8000000 in
set_option maxRecDepth 1000000 in
theorem stab_w {g:Nat} {cb:Array Value} {cf:Mv→Mv→Int} {blk off k:Nat} {enc:Mv→List Value} {RW:Array Mv→World→Prop} (L:RowL g cb cf blk off k enc RW) (aE:∀ w,(isAgg 44).run Tryz.prog w=.ok true w) (zE:∀ w,(Go.sizeOf 44).run Tryz.prog w=.ok k w)
    (cap n:Nat) (d:Array Mv) (w:World) (hn:d.size=n) (S:RW d w) (hsz:n < 1152921504606846976) :
    Calls Tryz.prog 134 #[.slice (some ⟨blk,off,none⟩) n cap,.int .i64 n,.func (.func g) #[] cb] w fun e w'=>e=.returned (.tuple #[])∧RW (stab (ltC cf) d) w':=by
  have S0:Aside (RW d w):=S
  have LL:Aside (RowL g cb cf blk off k enc RW):=L
  have HST:Hid (stab (ltC cf) d=passes (ltC cf) n (n+1) 20 (blk1 (ltC cf) n (n+1) 0 d)):=by subst hn; rfl
  have HN:=Lib.hid hn
  clear S L hn
  go_enter Tryz.func134,Tryz.ntmps134
  go_wp2
  go_loopg [7,8] (n+1) (fun kx s7 s8 wr => ∃ (q:Nat) (dk:Array Mv),s7=.int .i64 q∧s8=.int .i64 ((q:Int)+20)∧q≤n∧n - q < kx∧Aside (dk.size=n)∧Aside (RW dk wr)∧Hid (blk1 (ltC cf) n kx q dk=blk1 (ltC cf) n (n+1) 0 d))
  case atStart=>exact ⟨0,d,rfl,rfl,by omega,by omega,HN.out,S0,rfl⟩
  case round =>
    clear S0
    obtain ⟨q,dk,rfl,rfl,hq,hk,hds,S1,HE⟩:=hrel
    obtain ⟨f,rfl⟩:∃ f,gk=f+1:=⟨gk - 1,by omega⟩
    by_cases c:q+20≤n
    · have cz:(q:Int)+20≤(n:Int):=by omega
      have hc:=ins_w LL.out aE zE cap q (q+20) dk wr S1.out (by omega) (by rw [hds.out]; exact c) (by rw [hds.out]; omega)
      rw [hds.out,show ((q+20:Nat):Int)=(q:Int)+20 by omega] at hc
      have HE2:Hid (blk1 (ltC cf) n f (q+20) (ins (ltC cf) q (q+20) dk)=blk1 (ltC cf) n (n+1) 0 d):=by
        have:=HE.out
        rw [blk1,if_pos c] at this
        exact this
      have hds2:Aside ((ins (ltC cf) q (q+20) dk).size=n):=(Kz.ins_pm _ _ _ dk).size.trans hds.out
      clear S1 HE
      go_wp2_with fail
      refine hc.mono ?_
      rintro e w1 ⟨rfl,S3⟩
      have S4:Aside _:=S3
      clear S3
      go_wp2
      go_roundg f
      case measure=>omega
      case rel=>exact ⟨q+20,ins (ltC cf) q (q+20) dk,by congr 1,by congr 1,by omega,by omega,hds2,S4,HE2⟩
    · have cz:¬ (q:Int)+20≤(n:Int):=by omega
      have hc:=ins_w LL.out aE zE cap q n dk wr S1.out hq (by rw [hds.out]; exact Nat.le_refl _) (by rw [hds.out]; omega)
      rw [hds.out] at hc
      have hds2:Aside ((ins (ltC cf) q n dk).size=n):=(Kz.ins_pm _ _ _ dk).size.trans hds.out
      have HE2:ins (ltC cf) q n dk=blk1 (ltC cf) n (n+1) 0 d:=by
        have:=HE.out
        rw [blk1,if_neg c] at this
        exact this
      rw [HE2] at hc hds2
      clear S1 HE HE2
      go_wp2_with fail
      refine hc.mono ?_
      rintro e w1 ⟨rfl,S3⟩
      have S4:Aside _:=S3
      clear S3 hc hds
      generalize hD1:blk1 (ltC cf) n (n+1) 0 d=D1 at S4 hds2
      have HST2:Hid (stab (ltC cf) d=passes (ltC cf) n (n+1) 20 D1):=by have:=HST.out; rw [hD1] at this; exact this
      clear HST hD1
      go_wp2
      go_loopg [6] (n+1) (fun kx s6 wr => ∃ (s:Nat) (dk:Array Mv),s6=.int .i64 s∧1≤s∧n < s+kx∧s≤2 * n+20∧Aside (dk.size=n)∧Aside (RW dk wr)∧Hid (stab (ltC cf) d=passes (ltC cf) n kx s dk))
      case atStart=>exact ⟨20,D1,rfl,by omega,by omega,by omega,hds2,S4,HST2⟩
      case round =>
        clear S4 hds2 HST2
        obtain ⟨s,dk,rfl,hs1,hk2,hs2,hds,S1,HE⟩:=hrel
        by_cases c2:s < n
        · have cz2:(s:Int) < (n:Int):=by omega
          obtain ⟨f2,rfl⟩:∃ f,gk=f+1:=⟨gk - 1,by omega⟩
          have HE2:Hid (stab (ltC cf) d=passes (ltC cf) n f2 (2 * s) (pass (ltC cf) n s (n+1) 0 dk)):=by
            have:=HE.out
            rw [passes,if_pos c2] at this
            exact this
          have hds3:Aside ((pass (ltC cf) n s (n+1) 0 dk).size=n):=(Kz.pass_pm _ _ _ _ _ dk).size.trans hds.out
          clear HE
          generalize hD2:pass (ltC cf) n s (n+1) 0 dk=D2 at HE2 hds3
          have HD2:Hid (pass (ltC cf) n s (n+1) 0 dk=D2):=hD2
          clear hD2
          go_wp2
          go_loopg [7,8] (n+1) (fun kx s7 s8 wr => ∃ (q:Nat) (dj:Array Mv),s7=.int .i64 q∧s8=.int .i64 ((q:Int)+2 * (s:Int))∧q≤n∧n - q < kx∧Aside (dj.size=n)∧Aside (RW dj wr)∧Hid (pass (ltC cf) n s kx q dj=D2))
          case atStart=>exact ⟨0,dk,rfl,by congr 1; omega,by omega,by omega,hds,S1,HD2⟩
          case round =>
            clear S1 HD2 hds
            obtain ⟨q,dj,rfl,rfl,hq,hk3,hds,S1,HE⟩:=hrel
            obtain ⟨f3,rfl⟩:∃ f,gk=f+1:=⟨gk - 1,by omega⟩
            by_cases c3:q+2 * s≤n
            · have cz3:(q:Int)+2 * (s:Int)≤(n:Int):=by omega
              have hc:=sym_w LL.out aE zE cap n (by omega) (n+1) q (q+s) (q+2 * s) dj wr (by omega) hds.out S1.out (by omega) (by omega) c3
              rw [show ((q+s:Nat):Int)=(q:Int)+(s:Int) by omega,show ((q+2 * s:Nat):Int)=(q:Int)+2 * (s:Int) by omega] at hc
              have HE3:Hid (pass (ltC cf) n s f3 (q+2 * s) (sym (ltC cf) (n+1) q (q+s) (q+2 * s) dj)=D2):=by
                have:=HE.out
                rw [pass,if_pos c3] at this
                exact this
              have hds4:Aside ((sym (ltC cf) (n+1) q (q+s) (q+2 * s) dj).size=n):=(Kz.sym_pm _ _ _ _ _ dj).size.trans hds.out
              clear S1 HE
              go_wp2_with fail
              refine hc.mono ?_
              rintro e w1 ⟨rfl,S3⟩
              have S4:Aside _:=S3
              clear S3
              go_wp2
              go_roundg f3
              case measure=>omega
              case rel=>exact ⟨q+2 * s,_,by congr 1,by congr 1,by omega,by omega,hds4,S4,HE3⟩
            · have cz3:¬ (q:Int)+2 * (s:Int)≤(n:Int):=by omega
              by_cases c4:q+s < n
              · have cz4:(q:Int)+(s:Int) < (n:Int):=by omega
                have hc:=sym_w LL.out aE zE cap n (by omega) (n+1) q (q+s) n dj wr (by omega) hds.out S1.out (by omega) (by omega) (by omega)
                rw [show ((q+s:Nat):Int)=(q:Int)+(s:Int) by omega] at hc
                have HE3:sym (ltC cf) (n+1) q (q+s) n dj=D2:=by
                  have:=HE.out
                  rw [pass,if_neg c3,if_pos c4] at this
                  exact this
                rw [HE3] at hc
                clear S1 HE HE3
                go_wp2_with fail
                refine hc.mono ?_
                rintro e w1 ⟨rfl,S3⟩
                have S4:Aside _:=S3
                clear S3
                go_wp2
                go_roundg f2
                case measure=>omega
                case rel=>exact ⟨2 * s,D2,by congr 1; omega,by omega,by omega,by omega,hds3,S4,HE2⟩
              · have cz4:¬ (q:Int)+(s:Int) < (n:Int):=by omega
                have HE3:dj=D2:=by
                  have:=HE.out
                  rw [pass,if_neg c3,if_neg c4] at this
                  exact this
                rw [HE3] at S1
                clear HE HE3
                go_wp2
                go_roundg f2
                case measure=>omega
                case rel=>exact ⟨2 * s,D2,by congr 1; omega,by omega,by omega,by omega,hds3,S1,HE2⟩
        · have cz2:¬ (s:Int) < (n:Int):=by omega
          go_wp2
          go_end0
          refine ⟨rfl,?_⟩
          rw [HE.out]
          cases gk with
          | zero=>rw [passes]; exact S1.out
          | succ f=>rw [passes,if_neg c2]; exact S1.out
set_option maxHeartbeats 4000000 in
set_option maxRecDepth 1000000 in
theorem sortStable_w {g:Nat} {cb:Array Value} {cf:Mv→Mv→Int} {blk off k:Nat} {enc:Mv→List Value} {RW:Array Mv→World→Prop} (L:RowL g cb cf blk off k enc RW) (aE:∀ w,(isAgg 44).run Tryz.prog w=.ok true w) (zE:∀ w,(Go.sizeOf 44).run Tryz.prog w=.ok k w)
    (cap n:Nat) (d:Array Mv) (w:World) (hn:d.size=n) (S:RW d w) (hsz:n < 1152921504606846976) :
    Calls Tryz.prog 71 #[.slice (some ⟨blk,off,none⟩) n cap,.func (.func g) #[] cb] w fun e w'=>e=.returned (.tuple #[])∧RW (stab (ltC cf) d) w':=by
  have hc:=stab_w L aE zE cap n d w hn S hsz
  have HC:=Lib.hid hc
  clear hc L S hn
  go_enter Tryz.func71,Tryz.ntmps71
  go_wp2_with fail
  refine HC.out.mono ?_
  rintro e w1 ⟨rfl,S3⟩
  go_wp2
  go_end0
  exact ⟨rfl,S3⟩
end Go.Proofs
end
section
namespace Kz
open Go Go.RowKit Go.Proofs
set_option maxRecDepth 100000
set_option maxHeartbeats 4000000
noncomputable def K135:List (Nat×Nat×List (Nat×List Nat)):=[(135,9,[(0,[0]),(1,[2])])]
noncomputable def B135:Base:=baseOf Pz (fun f i=>lkC f i K135) [] [] []
theorem hB135:BOk B135:=base_ok named_z trivial trivial trivial
noncomputable def N135 (a:Int):Bool:=(bif decide (a ≥ 0) then (decide (a < 64)) else (false))
noncomputable def ok135 (a:Int):Bool:=true
theorem P135 (a:Int) (h:ok135 a=true):PS Pz 135 [.int .i8 a] (dB.res (N135 a)):=ps_sum (n:=14) hB135 (by kernel_rfl) (by kernel_rfl) (by kernel_rfl) h
noncomputable def G135:List AV→Tr AV:=g1 (dI .i8) (fun a=>.ret (dB.res (N135 a)))
theorem s135:Sound Pz 135 G135:=sound1 fun a=>at_rt (P135 a rfl)
noncomputable def K136:List (Nat×Nat×List (Nat×List Nat)):=[(136,23,[(0,[1,2]),(1,[1,2,18]),(2,[4]),(3,[4])])]
noncomputable def B136:Base:=baseOf Pz (fun f i=>lkC f i K136) [(145,G145)] [] []
theorem hB136:BOk B136:=base_ok named_z ⟨s145,trivial⟩ trivial trivial
noncomputable def N136 (a:Pos) (b:Int):Int:=(bif decide (b < 0) then (0) else (bif decide (b ≥ 64) then (0) else (bif !N145 (a.board.getD (scale 1 b).toNat 0) then (0) else (a.board.getD (scale 1 b).toNat 0))))
noncomputable def ok136 (a:Pos) (b:Int):Bool:=(bif decide (b < 0) then true else (bif decide (b ≥ 64) then true else (decide (0≤b)&&decide (b < Int.ofNat 64)&&(bif !N145 (a.board.getD (scale 1 b).toNat 0) then true else (decide (0≤b)&&decide (b < Int.ofNat 64)&&true)))))
theorem P136 (a:Pos) (b:Int) (h:ok136 a b=true):PS Pz 136 [Pos.av a,.int .i8 b] ((dI .u8).res (N136 a b)):=ps_sum (n:=14) hB136 (by kernel_rfl) (by kernel_rfl) (by kernel_rfl) h
noncomputable def G136:List AV→Tr AV:=g2 dPos (dI .i8) (fun a b=>gdv (ok136 a b) ((dI .u8).res (N136 a b)))
theorem s136:Sound Pz 136 G136:=sound2 fun a b=>at_gd (P136 a b)
noncomputable def K73:List (Nat×Nat×List (Nat×List Nat)):=[(73,66,[(0,[2,3]),(1,[2,3,29]),(2,[4]),(3,[2,3,5]),(4,[2,3,5,39]),(5,[4]),(6,[65]),(7,[4]),(8,[4])])]
noncomputable def B73:Base:=baseOf Pz (fun f i=>lkC f i K73) [(91,G91),(101,G101),(122,G122),(135,G135),(136,G136)] [] []
theorem hB73:BOk B73:=base_ok named_z ⟨s91,s101,s122,s135,s136,trivial⟩ trivial trivial
noncomputable def N73 (a:Pos) (b:Mv):Int:=(bif b.drp != 0 then (0) else (bif b.cas then (0) else (bif !N135 b.frm then (0) else (bif !N135 b.to then (0) else (bif decide (a.turn > 1) then (0) else (bif N122 (N136 a b.to)==wr .u8 (1 - a.turn) then (N91 (N136 a b.to)) else (bif b.to==a.passing then (bif N136 a b.frm==N101 a.turn 1 then (bif b.frm.tmod 8 != b.to.tmod 8 then (1) else (0)) else (0)) else (0))))))))
noncomputable def ok73 (a:Pos) (b:Mv):Bool:=(bif b.drp != 0 then true else (bif b.cas then true else (bif !N135 b.frm then true else (bif !N135 b.to then true else (bif decide (a.turn > 1) then true else (ok136 (a) (b.to)&&(bif N122 (N136 a b.to)==wr .u8 (1 - a.turn) then true else (bif b.to==a.passing then (ok136 (a) (b.frm)&&true) else true))))))))
theorem P73 (a:Pos) (b:Mv) (h:ok73 a b=true):PS Pz 73 [Pos.av a,Mv.av b] ((dI .u8).res (N73 a b)):=ps_sum (n:=14) hB73 (by kernel_rfl) (by kernel_rfl) (by kernel_rfl) h
noncomputable def G73:List AV→Tr AV:=g2 dPos dMv (fun a b=>gdv (ok73 a b) ((dI .u8).res (N73 a b)))
theorem s73:Sound Pz 73 G73:=sound2 fun a b=>at_gd (P73 a b)
noncomputable def K137:List (Nat×Nat×List (Nat×List Nat)):=[(137,6,[(0,[0]),(1,[2])])]
noncomputable def B137:Base:=baseOf Pz (fun f i=>lkC f i K137) [] [] []
theorem hB137:BOk B137:=base_ok named_z trivial trivial trivial
noncomputable def N137 (a:Int):Bool:=(a != a)
noncomputable def ok137 (a:Int):Bool:=true
theorem P137 (a:Int) (h:ok137 a=true):PS Pz 137 [.int .u8 a] (dB.res (N137 a)):=ps_sum (n:=14) hB137 (by kernel_rfl) (by kernel_rfl) (by kernel_rfl) h
noncomputable def G137:List AV→Tr AV:=g1 (dI .u8) (fun a=>.ret (dB.res (N137 a)))
theorem s137:Sound Pz 137 G137:=sound1 fun a=>at_rt (P137 a rfl)
noncomputable def K75:List (Nat×Nat×List (Nat×List Nat)):=[(75,20,[(0,[0,1]),(1,[0,1,5]),(2,[0,1,5,6]),(3,[0,1,6,11]),(4,[12]),(5,[4]),(6,[4]),(7,[0,1,13]),(8,[4]),(9,[0,1,16]),(10,[4]),(11,[19]),(12,[4]),(13,[4])])]
noncomputable def B75:Base:=baseOf Pz (fun f i=>lkC f i K75) [(137,G137)] [] []
theorem hB75:BOk B75:=base_ok named_z ⟨s137,trivial⟩ trivial trivial
noncomputable def N75 (a:Int) (b:Int):Int:=(bif N137 a then (bif N137 b then (0) else (-1)) else (bif N137 b then (1) else (bif decide (a < b) then (-1) else (bif decide (a > b) then (1) else (0)))))
noncomputable def ok75 (a:Int) (b:Int):Bool:=true
theorem P75 (a:Int) (b:Int) (h:ok75 a b=true):PS Pz 75 [.int .u8 a,.int .u8 b] ((dI .i64).res (N75 a b)):=ps_sum (n:=14) hB75 (by kernel_rfl) (by kernel_rfl) (by kernel_rfl) h
noncomputable def G75:List AV→Tr AV:=g2 (dI .u8) (dI .u8) (fun a b=>.ret ((dI .i64).res (N75 a b)))
theorem s75:Sound Pz 75 G75:=sound2 fun a b=>at_rt (P75 a b rfl)
noncomputable def K76:List (Nat×Nat×List (Nat×List Nat)):=[(76,15,[(0,[2,3]),(1,[2,3,7]),(2,[4]),(3,[4])])]
noncomputable def B76:Base:=baseOf Pz (fun f i=>lkC f i K76) [(91,G91),(136,G136)] [] []
theorem hB76:BOk B76:=base_ok named_z ⟨s91,s136,trivial⟩ trivial trivial
noncomputable def N76 (a:Pos) (b:Mv):Int:=(bif b.drp != 0 then (b.drp) else (N91 (N136 a b.frm)))
noncomputable def ok76 (a:Pos) (b:Mv):Bool:=(bif b.drp != 0 then true else (ok136 (a) (b.frm)&&true))
theorem P76 (a:Pos) (b:Mv) (h:ok76 a b=true):PS Pz 76 [Pos.av a,Mv.av b] ((dI .u8).res (N76 a b)):=ps_sum (n:=14) hB76 (by kernel_rfl) (by kernel_rfl) (by kernel_rfl) h
noncomputable def G76:List AV→Tr AV:=g2 dPos dMv (fun a b=>gdv (ok76 a b) ((dI .u8).res (N76 a b)))
theorem s76:Sound Pz 76 G76:=sound2 fun a b=>at_gd (P76 a b)

noncomputable def B72:Base:=baseOf Pz (fun _ _=>[]) [(73,G73),(75,G75),(76,G76)] [] []
theorem hB72:BOk B72:=base_ok named_z ⟨s73,s75,s76,trivial⟩ trivial trivial
noncomputable def N72 (a:Mv) (b:Mv) (p:Pos):Int:=(bif N75 (N73 p b) (N73 p a) != 0 then (bif N75 (N73 p b) (N73 p a)==0 then (bif decide (N73 p a > 0) then (N75 (N76 p a) (N76 p b)) else (N75 (N73 p b) (N73 p a))) else (N75 (N73 p b) (N73 p a))) else (bif N75 b.pro a.pro != 0 then (bif N75 b.pro a.pro==0 then (bif decide (N73 p a > 0) then (N75 (N76 p a) (N76 p b)) else (N75 b.pro a.pro)) else (N75 b.pro a.pro)) else (bif decide (N73 p a > 0) then (N75 (N76 p a) (N76 p b)) else (0))))
noncomputable def ok72 (a:Mv) (b:Mv) (p:Pos):Bool:=(ok73 (p) (a)&&(ok73 (p) (b)&&(bif N75 (N73 p b) (N73 p a) != 0 then (bif N75 (N73 p b) (N73 p a)==0 then (bif decide (N73 p a > 0) then (ok76 (p) (a)&&(ok76 (p) (b)&&true)) else true) else true) else (bif N75 b.pro a.pro != 0 then (bif N75 b.pro a.pro==0 then (bif decide (N73 p a > 0) then (ok76 (p) (a)&&(ok76 (p) (b)&&true)) else true) else true) else (bif decide (N73 p a > 0) then (ok76 (p) (a)&&(ok76 (p) (b)&&true)) else true)))))
theorem P72 (a:Mv) (b:Mv) (p:Pos) (h:ok72 a b p=true):PS Pz 72 [Mv.av a,Mv.av b,.ptrf (Pos.av p)] ((dI .i64).res (N72 a b p)):=ps_sum (n:=14) hB72 (by kernel_rfl) (by kernel_rfl) (by kernel_rfl) h
theorem ok136_t (p:Pos) (b:Int):ok136 p b=true:=by
  unfold ok136
  by_cases h1:b < 0
  · rw [decide_eq_true h1]; rfl
  · by_cases h2:b ≥ 64
    · rw [decide_eq_false h1,decide_eq_true h2]; rfl
    · have h3:b < Int.ofNat 64:=by show b < 64; omega
      rw [decide_eq_false h1,decide_eq_false h2,decide_eq_true h3,decide_eq_true (show 0≤b by omega)]
      cases (!N145 (p.board.getD (scale 1 b).toNat 0)) <;> rfl
theorem ok73_t (p:Pos) (m:Mv):ok73 p m=true:=by
  unfold ok73
  rw [ok136_t,ok136_t]
  simp
theorem ok76_t (p:Pos) (m:Mv):ok76 p m=true:=by
  unfold ok76
  rw [ok136_t]
  simp
theorem ok72_t (a b:Mv) (p:Pos):ok72 a b p=true:=by
  unfold ok72
  rw [ok73_t,ok73_t,ok76_t,ok76_t]
  simp
theorem S72 (a b:Mv) (p:Pos):PureSpec Pz 72 [Mv.av a,Mv.av b,.ptrf (Pos.av p)] (.int .i64 (N72 a b p)):=(P72 a b p (ok72_t a b p)).1
def shOwn:FRes→Option (List Mv×Option Nat)
  | .ret (.list .mv m (.own k)) h=>some (m,h.toks[k]?)
  | _=>none
noncomputable def B70:Base:=baseOf Pz (fun _ _=>[]) [] [] [(146,F146)]
theorem hB70:BOk B70:=base_ok named_z trivial trivial ⟨sF146,trivial⟩
theorem E70 (l:List Mv):(evF B70 14 70 [.vlist false [.list .mv l .arg]] hp0).bind (fun r=>Tr.opt (shOwn r))=Tr.br (decide (wr IntKind.i64 (0+Int.ofNat l.length) < 0)) Tr.fail (Tr.br (decide (0≤wr IntKind.i64 (0+Int.ofNat l.length))&&decide (wr IntKind.i64 (0+Int.ofNat l.length)≤Int.ofNat 1073741824)) (Tr.br (0==0&&decide (0+l.length≤1073741824)) (Tr.ret ([]++l,some l.length)) Tr.fail) Tr.fail):=by kernel_rfl
theorem hp0_mr {w:World} (hglob:GlobOk w):MR (gArg w) hp0 w :=
  ⟨Nat.le_refl _,fun _ _ x=>x,rfl,fun _ _ _ x _=>by simp [gArg] at x,fun _ _ _ x=>by simp [gArg] at x,rfl,fun _ x=>by simp [gArg] at x,fun _ _ _ _ x=>by simp [gArg] at x,fun _ _ _ _ _ _ _ x=>by simp [gArg] at x,rfl,fun _ _ _ x=>by simp [gArg] at x,fun _ _ _ x=>by simp [gArg] at x,fun _ x=>by simp [gArg] at x,hglob⟩
theorem len_ok {n:Nat} (h:n≤lim):decide (wr IntKind.i64 (0+Int.ofNat n) < 0)=false∧(decide (0≤wr IntKind.i64 (0+Int.ofNat n))&&decide (wr IntKind.i64 (0+Int.ofNat n)≤Int.ofNat 1073741824))=true∧(0==0&&decide (0+n≤1073741824))=true:=by
  have hn:n≤1073741824:=h
  have e:wr IntKind.i64 (0+Int.ofNat n)=(n:Int):=by
    show wr IntKind.i64 (0+(n:Int))=_
    rw [Int.zero_add]
    exact IntKind.wrap_i64 _ |>.trans (by omega)
  rw [e]
  refine ⟨decide_eq_false (by omega),?_,?_⟩
  · rw [decide_eq_true (by omega),decide_eq_true (show (n:Int)≤Int.ofNat 1073741824 by show (n:Int)≤1073741824; omega)]; rfl
  · rw [decide_eq_true (by omega)]; rfl
theorem joinM (l:List Mv) (hl:l.length≤lim) (w:World) (hg:GlobOk w) (v:Value) (hv:Rep (gArg w) [] w (.vlist false [.list .mv l .arg]) v) :
    Calls Tryz.prog 70 #[v] w fun e w' => ∃ a cap,e=.returned (.slice a l.length cap)∧RowKit.Below w.heap.size w w' ∧
      ((a=none∧l=[])∨∃ b ty,a=some ⟨b,0,none⟩∧w.heap.size≤b∧b < w'.heap.size∧l.length≤cap∧RowW w' b cap ty l.toArray w'):=by
  obtain ⟨c1,c2,c3⟩:=len_ok hl
  have hget:((evF B70 14 70 [.vlist false [.list .mv l .arg]] hp0).bind (fun r=>Tr.opt (shOwn r))).get=some (l,some l.length):=by
    rw [E70]
    simp only [get_br,c1,c2,c3,cond_true,cond_false,get_ret,List.nil_append]
  simp only [get_bind,Option.bind_eq_some_iff,get_opt] at hget
  obtain ⟨r,h1,h2⟩:=hget
  obtain ⟨hspec,_⟩:=(ev_ok hB70 14).1 _ _ _ _ h1
  unfold shOwn at h2
  split at h2
  · rename_i m k h
    simp only [Option.some.injEq,Prod.mk.injEq] at h2
    obtain ⟨hml,hk⟩:=h2
    have hml':l=m:=hml.symm
    clear hml
    subst m
    refine (callsIn_wide.1 (hspec (gArg w) w #[v] (hp0_mr hg) (.cons hv .nil))).mono ?_
    rintro e w' ⟨g',x,rfl,nx,hx⟩
    have hbase:g'.base=w.heap.size:=nx.le.base
    cases hx with
    | list hn hE hS hT hC =>
    rename_i a n cap cs
    subst hn
    have hcs:=mvs_cells hE
    obtain ⟨n',hn1,hn2,hown⟩:=hT k rfl
    rw [hk] at hn1
    simp only [Option.some.injEq] at hn1
    obtain ⟨ow,how,hOI⟩:=hown hn1
    refine ⟨a,cap,rfl,nx.le.below,?_⟩
    cases ow with
    | none =>
      obtain ⟨ha,hlen,hcap⟩:=hOI
      exact .inl ⟨ha,List.eq_nil_of_length_eq_zero hlen⟩
    | some t =>
      obtain ⟨b,cap',z'⟩:=t
      obtain ⟨rfl,rfl,rfl⟩:=hOI
      obtain ⟨_,cells,ty,_,_,_,hb,hblk,hsz,_,_⟩:=nx.mr.tok k b cap (esz .mv) how
      refine .inr ⟨b,ty,rfl,by omega,lt_of_some hblk,hC,rfl,rfl,rfl,Nat.le_refl _,fun _ _ _=>rfl,cells,hblk,hsz,fun j c hj hc => ?_⟩
      have hj':j < l.length:=by simpa using hj
      have h1:j * 5+c < l.length * 5:=by have:=Nat.mul_le_mul_right 5 (show j+1≤l.length from hj'); omega
      have hfl:=flat_get l j c hj' hc
      have ea:l.toArray[j]! = l[j]:=by simp [hj']
      have eb:l[j]! = l[j]:=by simp [hj']
      rw [ea]
      rw [eb] at hfl
      rcases hS with h0 | ⟨c',o',ha,hat,_⟩
      · exfalso
        have:=flat_len l
        rw [← hcs,h0] at this
        simp at this
        omega
      · simp only [Option.some.injEq,Addr.mk.injEq,and_true] at ha
        obtain ⟨rfl,rfl⟩:=ha
        have hx:cs[j * 5+c]?=(encM l[j])[c]? := by rw [hcs]; exact hfl
        obtain ⟨u,hu⟩:∃ u,(encM l[j])[c]?=some u:=⟨_,List.getElem?_eq_getElem (show c < (encM l[j]).length from hc)⟩
        obtain ⟨k1,_⟩:=hat (j * 5+c) u (by rw [hx,hu])
        rw [cell_of_blk hblk,Nat.zero_add] at k1
        rw [k1]
        simp [hu]
  · cases h2
end Kz
end
section
namespace Go.Proofs
open Go.Shelf Go.RowKit Go.Lib Go.Sort Kz
def FreshRow (w w':World) (a:Option Addr) (cap:Nat) (l:List Mv):Prop :=
  (a=none∧l=[]∧cap=0)∨∃ b ty,a=some ⟨b,0,none⟩∧w.heap.size≤b∧b < w'.heap.size∧l.length≤cap∧cap≤maxLen∧RowW w' b cap ty l.toArray w'
set_option maxHeartbeats 2000000 in
set_option maxRecDepth 100000 in
theorem keepR (p:Pos) (f2:Nat) (q:Mv→Bool) (l:List Mv) (hll:l.length≤lim) (hq:∀ m,PureSpec Tryz.prog 84 [Mv.av m,.ptrf (.func f2 [] [.ptrf (Pos.av p)])] (.bool (!q m))) (w:World) (vals:Array Value) (hg:GlobOk w) (hr:RepL (gArg w) [] w [.list .mv l .arg,.func f2 [] [.ptrf (Pos.av p)]] vals.toList) :
    Calls Tryz.prog 82 vals w fun e w' => ∃ a cap,e=.returned (.slice a (l.filter q).length cap)∧RowKit.Below w.heap.size w w'∧FreshRow w w' a cap (l.filter q):=by
  obtain ⟨vals⟩:=vals
  cases hr with
  | cons q1 r1 =>
  cases r1 with
  | cons q2 r2 =>
  cases r2
  cases q2 with
  | func ha hb =>
  rename_i x y
  obtain ⟨x⟩:=x
  obtain ⟨y⟩:=y
  cases ha
  cases hb with
  | cons q3 r3 =>
  cases r3
  cases q3 with
  | ptrf hpc hpa =>
  rename_i pc po pcs
  cases q1 with
  | list hn hE hS hT hC =>
  rename_i a n cap cs
  subst hn
  have hcs:=mvs_cells hE
  obtain ⟨fv,hfv⟩:∃ fv:Value,fv=.func (.func f2) (Array.mk []) (Array.mk [.pointer (some ⟨pc,po,none⟩)]):=⟨_,rfl⟩
  rw [← hfv]
  have hpred:∀ (W:World) (u:Mv),w.heap.size+1≤W.heap.size→(∀ k,k < w.heap.size+1→W.heap[k]?=(w.alloc (.cells #[fv] 61)).heap[k]?) →
      Calls Tryz.prog 84 (#[.agg (encM u).toArray]++#[.pointer (some ⟨w.heap.size,0,none⟩)]) W fun e w'=>e=.returned (.bool (!q u))∧RowKit.Below W.heap.size W w':=by
    intro W u hsz hsame
    have old:∀ k,k < w.heap.size→W.heap[k]?=w.heap[k]? := fun k hk=>by
      rw [hsame k (by omega)]
      exact ((Below.refl _ w).alloc (Nat.le_refl _) _).block k hk
    refine (callsIn_wide.1 (hq u W (#[.agg (encM u).toArray]++#[.pointer (some ⟨w.heap.size,0,none⟩)]) ?_ ?_)).mono ?_
    · intro pr hpr j x hj
      obtain ⟨h1,h2⟩:=hg pr hpr j x hj
      have hlt:pr.1 < w.heap.size:=h2
      exact ⟨by rw [cell_same (old _ hlt)]; exact h1,Nat.lt_of_lt_of_le hlt (by omega)⟩
    · refine .cons (.agg (mv_rep _ _ _ u)) (.cons (.ptrf (cs:=[fv]) (.one rfl ?_ .nil) ?_) .nil)
      · rw [hfv]
        refine .func .nil (.cons (.ptrf (pos_rep hpc) ?_) .nil)
        intro j x hj
        obtain ⟨h1,h2⟩:=hpa j x hj
        have hlt:pc < w.heap.size:=h2
        exact ⟨by rw [cell_same (old _ hlt)]; exact h1,Nat.lt_of_lt_of_le hlt (by omega)⟩
      · intro j x hj
        have hc:W.heap[w.heap.size]?=some (.cells #[fv] 61 (0,0)):=by
          rw [hsame _ (Nat.lt_succ_self _)]; exact heap_alloc_new w _
        refine ⟨?_,show w.heap.size < W.heap.size by omega⟩
        rw [cell_of_blk hc,Nat.zero_add]
        simpa using hj
    · rintro e w' ⟨v,rfl,hb,hv⟩
      cases hv
      exact ⟨rfl,hb⟩
  subst hfv
  clear hpc hpa
  cases a with
  | none =>
    obtain rfl:l=[]:=by
      rcases hS with h | ⟨_,_,h,_⟩
      · have:=flat_len l
        rw [← hcs,h] at this
        exact List.eq_nil_of_length_eq_zero (by simp at this; omega)
      · cases h
    have hc:=fun w=>AnyE.slices_Clone_nil Tryz.cloneM 0 cap w
    have hd:=del0 none 0 (.func (.func 84) #[] #[.pointer (some ⟨w.heap.size,0,none⟩)])
    clear hpred hS hcs hE hT
    go_enter Tryz.func82,Tryz.ntmps82
    go_wp2_with fail
    refine (hc _).mono ?_
    rintro e w' ⟨rfl,rfl⟩
    go_wp2_with fail
    refine (hd _).mono ?_
    rintro e w' ⟨rfl,rfl⟩
    go_wp2_with fail
    go_ret
    exact ⟨_,_,rfl,(Below.refl _ w).alloc (Nat.le_refl _) _,.inl ⟨rfl,rfl,rfl⟩⟩
  | some ad =>
    have hclone:Calls Tryz.prog 83 #[.slice (some ad) l.length cap] (w.alloc (.cells #[(.func (.func f2) (Array.mk []) (Array.mk [.pointer (some ⟨pc,po,none⟩)]))] 61)) fun e w' => ∃ v',e=.returned v'∧w'.ownsRow (w.alloc (.cells #[(.func (.func f2) (Array.mk []) (Array.mk [.pointer (some ⟨pc,po,none⟩)]))] 61)).heap.size 44 5 v' l.length (l.flatMap encM)∧v'≠.slice none 0 0∧RowKit.Below (w.alloc (.cells #[(.func (.func f2) (Array.mk []) (Array.mk [.pointer (some ⟨pc,po,none⟩)]))] 61)).heap.size (w.alloc (.cells #[(.func (.func f2) (Array.mk []) (Array.mk [.pointer (some ⟨pc,po,none⟩)]))] 61)) w':=by
      by_cases hl:l=[]
      · subst hl
        exact clone0 ad cap _
      · obtain ⟨c,o,hadr,hat,_⟩:=hS.resolve_left (fun e0=>hl (by
          have:=flat_len l
          rw [← hcs,e0] at this
          exact List.eq_nil_of_length_eq_zero (by simp at this; omega)))
        simp only [Option.some.injEq] at hadr
        subst hadr
        obtain ⟨i0,z,a1,a2,a3,a4,a5⟩:=info44
        refine AnyE.slices_Clone Tryz.cloneM i0 z 5 i0.bytes a1 a2 a3 rfl a4 (by omega) Tryz.sizeOf44 c o l.length cap (l.flatMap encM) _ (flat_len l) ?_ ?_ ?_ (flat_one l)
        · unfold lim at hll; unfold maxLen; omega
        · have:l.length * i0.bytes≤l.length * 131072:=Nat.mul_le_mul_left _ a5
          unfold lim at hll
          omega
        · intro j u hj
          rw [← hcs] at hj
          obtain ⟨h1,h2⟩:=hat j u hj
          have hlt:c < w.heap.size:=h2
          rw [cell_same (((Below.refl _ w).alloc (Nat.le_refl _) _).block c hlt)]
          exact h1
    clear hS hcs hE hT
    have HP:=Lib.hid hpred
    clear hpred
    go_enter Tryz.func82,Tryz.ntmps82
    go_wp2_with fail
    refine hclone.mono ?_
    rintro e w2 ⟨v',rfl,hown,hne,hb⟩
    obtain ⟨hlen,⟨rfl,_⟩ | ⟨gb,cap',cur,rfl,hgb,hcur,hn',hmax,hsz,htake⟩⟩:=hown
    · exact absurd rfl hne
    have hrow:RowW w2 gb cap' 44 l.toArray w2:=⟨rfl,rfl,rfl,Nat.le_refl _,fun _ _ _=>rfl,cur,hcur,hsz,fun j c hj hc=>by
      have hj':j < l.length:=by simpa using hj
      have h1:j * 5+c < l.length * 5:=by have:=Nat.mul_le_mul_right 5 (show j+1≤l.length from hj'); omega
      rw [← Array.getElem?_toList,← List.getElem?_take_of_lt h1,htake,flat_get l j c hj' hc]
      congr 2
      rw [getElem!_pos l j hj',getElem!_pos l.toArray j hj]
      simp⟩
    have hdel:=delM (fun u => !q u) 84 #[.pointer (some ⟨w.heap.size,0,none⟩)] (fun _ _=>rfl) gb cap' l.toArray w2 (lt_of_some hcur) hrow (by simpa using hn') hmax (fun W dk u hW=>by
      have hs1:(w.alloc (.cells #[(.func (.func f2) (Array.mk []) (Array.mk [.pointer (some ⟨pc,po,none⟩)]))] 61)).heap.size=w.heap.size+1:=by simp
      refine HP.out W u (by have:=hb.size; have:=hW.size; omega) (fun k hk => ?_)
      rw [hW.other k (by have:=hb.size; omega) (by omega),hb.block k (by omega)])
    simp only [List.size_toArray,Bool.not_not] at hdel
    have HD:=Lib.hid hdel
    have HBW:=Lib.hid hb
    have HG:=Lib.hid hgb
    have HN:=Lib.hid hn'
    have HM:=Lib.hid hmax
    clear hdel HP hrow hb hgb hn' hcur hsz htake hlen hne hmax hclone
    go_wp2_with fail
    refine HD.out.mono ?_
    rintro e w3 ⟨rfl,hR⟩
    have HR:=Lib.hid hR
    clear hR
    go_wp2_with fail
    go_ret
    have hR:=HR.out
    have hb:=HBW.out
    have hgb:=HG.out
    have hs1:(w.alloc (.cells #[(.func (.func f2) (Array.mk []) (Array.mk [.pointer (some ⟨pc,po,none⟩)]))] 61)).heap.size=w.heap.size+1:=by simp
    have hw1:RowKit.Below w.heap.size w (w.alloc (.cells #[(.func (.func f2) (Array.mk []) (Array.mk [.pointer (some ⟨pc,po,none⟩)]))] 61)):=(Below.refl _ w).alloc (Nat.le_refl _) _
    have hbw:RowKit.Below w.heap.size w w3:=⟨hR.os.trans (hb.os.trans hw1.os),hR.tape.trans (hb.tape.trans hw1.tape),hR.output.trans (hb.output.trans hw1.output),by have:=hR.size; have:=hb.size; omega,fun k hk=>by
      rw [hR.other k (by have:=hb.size; omega) (by omega),hb.block k (by omega)]
      exact hw1.block k hk⟩
    have hfl:(l.filter q).length≤l.length:=List.length_filter_le _ _
    obtain ⟨cur,k1,k2,k3⟩:=hR.row
    exact ⟨_,_,rfl,hbw,.inr ⟨gb,44,rfl,by omega,lt_of_some k1,Nat.le_trans hfl HN.out,HM.out,rfl,rfl,rfl,Nat.le_refl _,fun _ _ _=>rfl,cur,k1,k2,k3⟩⟩
end Go.Proofs
namespace Kz
open Go Go.RowKit Go.Proofs
set_option maxRecDepth 100000
set_option maxHeartbeats 4000000
section
variable {g:Gh} {h:Hp} {w:World}
theorem MR.newRow (m:MR g h w) {w':World} {b cap z n:Nat} {cells:Array Value} {ty:TypeId} (hb:RowKit.Below w.heap.size w w') (h1:w.heap.size≤b) (h2:w'.heap[b]?=some (.cells cells ty (0,0))) (h3:cells.size=cap * z) (h4:n≤cap) (h5:cap≤maxLen) :
    MR { g with fz:=fun c o=>g.fz c o∨(c=b∧o < n * z),own:=g.own++[some (b,cap,z)] } { h with toks:=h.toks++[n] } w' ∧
      Le g h.toks w { g with fz:=fun c o=>g.fz c o∨(c=b∧o < n * z),own:=g.own++[some (b,cap,z)] } (h.toks++[n]) w':=by
  obtain ⟨m1,l1⟩:=m.grow hb
  have l2:Le g h.toks w' { g with fz:=fun c o=>g.fz c o∨(c=b∧o < n * z),own:=g.own++[some (b,cap,z)] } (h.toks++[n]) w' :=
    ⟨rfl,Below.refl _ _,fun _ _ x=>.inl x,fun _ _ _ _ x=>x,fun _ _ x=>x,fun _ _ x=>x,fun _ x=>x,fun k q x=>⟨q,by
      rw [List.getElem?_append_left (List.getElem?_eq_some_iff.1 x).1]; exact x,Nat.le_refl _,fun _=>by
      have:=(List.getElem?_eq_some_iff.1 x).1
      simp only
      rw [List.getElem?_append_left (by rw [m.tlen]; exact this)]⟩⟩
  have hle:=l1.trans l2
  have old:∀ {c:Nat} {o:Obj},w.heap[c]?=some o→c≠b:=fun x e=>by have:=lt_of_some x; omega
  have new:∀ (k:Nat) x,(g.own++[some (b,cap,z)])[k]?=some x→g.own[k]?=some x∨(k=g.own.length∧x=some (b,cap,z)):=by
    intro i c' x
    rcases Nat.lt_or_ge i g.own.length with h' | h'
    · rw [List.getElem?_append_left h'] at x; exact .inl x
    · rw [List.getElem?_append_right h'] at x
      obtain ⟨a,b⟩:=List.getElem?_eq_some_iff.1 x
      simp at a b
      exact .inr ⟨by omega,b.symm⟩
  have tokOld:∀ (k:Nat) x,h.toks[k]?=some x→(h.toks++[n])[k]?=some x:=fun k x hx=>by
    rw [List.getElem?_append_left (List.getElem?_eq_some_iff.1 hx).1]; exact hx
  refine ⟨⟨m1.base,fun c o x => ?_,m1.vlen,fun i c l k1 k2 => ?_,m1.vnd,by simp [m.tlen],fun k k1 => ?_,fun k b' cap' z' k1 => ?_,fun k k' b' c1 z1 c2 z2 k1 k2 => ?_,m1.llen,fun l c r k1 k2 => ?_,m1.lnd,m1.defs,fun p hp=>(m.glob p hp).mono hle⟩,hle⟩
  · rcases x with x | ⟨rfl,_⟩
    · exact m1.fzlt c o x
    · exact lt_of_some h2
  · obtain ⟨a,f,cs,t,d',e⟩:=m1.var i c l k1 k2
    obtain ⟨_,_,_,_,d0,_⟩:=m.var i c l k1 k2
    refine ⟨a,fun o x => ?_,cs,t,d',e.mono l2⟩
    rcases x with x | ⟨x,_⟩
    · exact f o x
    · exact old d0 x
  · rcases new k _ k1 with a | ⟨_,e⟩
    · exact tokOld _ _ (m.tok0 k a)
    · cases e
  · rcases new k _ k1 with a | ⟨e1,e2⟩
    · obtain ⟨q,cs,t,a1,a2,a3,a4,a5,a6,a7,a8⟩:=m1.tok k b' cap' z' a
      obtain ⟨_,_,_,_,_,_,_,d0,_⟩:=m.tok k b' cap' z' a
      refine ⟨q,cs,t,tokOld _ _ a1,a2,a3,a4,a5,a6,fun o x => ?_,a8⟩
      rcases x with x | ⟨x,_⟩
      · exact a7 o x
      · exact absurd x (old d0)
    · simp only [Option.some.injEq,Prod.mk.injEq] at e2
      obtain ⟨rfl,rfl,rfl⟩:=e2
      refine ⟨n,cells,ty,?_,h4,h5,Nat.le_trans m.base h1,h2,h3,fun o x => ?_,fun hv => ?_⟩
      · show (h.toks++[n])[k]?=_
        rw [e1,m.tlen]; simp
      · rcases x with x | ⟨_,x⟩
        · have:=m.fzlt _ _ x; omega
        · exact x
      · obtain ⟨i,hi⟩:=List.getElem?_of_mem hv
        have hi':=(List.getElem?_eq_some_iff.1 hi).1
        obtain ⟨_,_,_,_,d,_⟩:=m.var i _ _ hi (List.getElem?_eq_getElem (by rw [← m.vlen]; exact hi'))
        exact absurd rfl (old d)
  · have notown:∀ (j c z':Nat),g.own[j]?≠some (some (b,c,z')):=fun j c z' x=>by
      obtain ⟨_,_,_,_,_,_,_,d,_⟩:=m.tok j _ c z' x
      exact absurd rfl (old d)
    rcases new k _ k1 with a | ⟨e1,e2⟩ <;> rcases new k' _ k2 with b' | ⟨e3,e4⟩
    · exact m1.tnd k k' _ c1 z1 c2 z2 a b'
    · simp only [Option.some.injEq,Prod.mk.injEq] at e4
      obtain ⟨rfl,rfl,rfl⟩:=e4
      exact absurd a (notown k c1 z1)
    · simp only [Option.some.injEq,Prod.mk.injEq] at e2
      obtain ⟨rfl,rfl,rfl⟩:=e2
      exact absurd b' (notown k' c2 z2)
    · omega
  · obtain ⟨a,R,f,d'⟩:=m1.loop l c r k1 k2
    exact ⟨a,R,f,d'.mono l2⟩
theorem MR.newNone (m:MR g h w) {w':World} (hb:RowKit.Below w.heap.size w w') :
    MR { g with own:=g.own++[none] } { h with toks:=h.toks++[0] } w'∧Le g h.toks w { g with own:=g.own++[none] } (h.toks++[0]) w':=by
  obtain ⟨m1,l1⟩:=m.grow hb
  obtain ⟨m2,l2⟩:=m1.newTok
  exact ⟨m2,l1.trans l2⟩
end
theorem fs_keepR {f:Nat} {l l':List Mv} {tk:Tk} {f2 b:Nat} {p:Pos} {h:Hp} (hb:h.heap[b]?=some (segs (Pos.av p))) (hs:∀ (w:World) (vals:Array Value),GlobOk w→RepL (gArg w) [] w [.list .mv l .arg,.func f2 [] [.ptrf (Pos.av p)]] vals.toList→Calls Pz f vals w fun e w' => ∃ a cap,e=.returned (.slice a l'.length cap)∧RowKit.Below w.heap.size w w'∧FreshRow w w' a cap l') :
    FSpec Pz f [.list .mv l tk,.func f2 [] [.ptr b 0]] h (.ret (.list .mv l' (.own h.toks.length)) { h with toks:=h.toks++[l'.length] }):=by
  intro g w vals m hr
  have hr':RepL (gArg w) [] w [.list .mv l .arg,.func f2 [] [.ptrf (Pos.av p)]] vals.toList:=by
    obtain ⟨vals⟩:=vals
    cases hr with
    | cons q1 r1 =>
    cases r1 with
    | cons q2 r2 =>
    cases r2
    cases q1 with
    | list hn hE hS hT hC =>
    rename_i a n cap cs
    cases q2 with
    | func ha hb2 =>
    rename_i x y
    obtain ⟨x⟩:=x
    obtain ⟨y⟩:=y
    cases ha
    cases hb2 with
    | cons q3 r3 =>
    cases r3
    cases q3 with
    | ptr hv =>
    rename_i c
    obtain ⟨_,_,cells,ty,hc,hcells⟩:=m.var b c _ hv hb
    refine .cons (.list (cs:=cs) hn (by rw [mvs_cells hE]; exact mvs_rep _ _ _ _) (hS.imp id fun ⟨c',o',e1,e2,_⟩=>⟨c',o',e1,fun j x hj=>⟨(e2 j x hj).1,m.fzlt _ _ (e2 j x hj).2⟩,fun f=>absurd rfl f⟩) (fun k e=>by cases e) hC)
      (.cons (.func .nil (.cons (.ptrf (cs:=cells.toList) (pos_rep hcells) fun j x hj=>⟨by rw [cell_of_blk hc,Nat.zero_add]; simpa using hj,lt_of_some hc⟩) .nil)) .nil)
  refine callsIn_wide.2 ((hs w vals m.globOk hr').mono ?_)
  rintro e w' ⟨a,cap,rfl,hbl,hx⟩
  rcases hx with ⟨rfl,rfl,rfl⟩ | ⟨b',ty,rfl,k1,k2,k3,k4,hrow⟩
  · obtain ⟨m1,l1⟩:=m.newNone hbl
    exact ⟨_,_,rfl,⟨m1,l1,⟨rfl,rfl,rfl,fun _ _ _ x=>x,fun i x _ hx=>by
      show (h.toks++[0])[i]?=_
      rw [List.getElem?_append_left (List.getElem?_eq_some_iff.1 hx).1]; exact hx,fun _ _ _ x=>x⟩⟩,
      .list (cs:=[]) rfl .nil (.inl rfl) (fun k ek=>by cases ek; exact ⟨0,by simp,Nat.le_refl _,fun _=>⟨none,by simp [m.tlen],rfl,rfl,rfl⟩⟩) (Nat.le_refl _)⟩
  · obtain ⟨cur,c1,c2,c3⟩:=hrow.row
    obtain ⟨m1,l1⟩:=m.newRow hbl k1 c1 c2 k3 k4
    refine ⟨_,_,rfl,⟨m1,l1,⟨rfl,rfl,rfl,fun _ _ _ x=>x,fun i x _ hx=>by
      show (h.toks++[l'.length])[i]?=_
      rw [List.getElem?_append_left (List.getElem?_eq_some_iff.1 hx).1]; exact hx,fun _ _ _ x=>x⟩⟩,?_⟩
    refine .list (cs:=l'.flatMap encM) rfl (mvs_rep _ _ _ _) (.inr ⟨b',0,rfl,fun j x hj => ?_,fun _=>Nat.le_trans m.base k1⟩) (fun k ek=>by cases ek; exact ⟨l'.length,by simp,Nat.le_refl _,fun _=>⟨some (b',cap,5),by simp [m.tlen],rfl,rfl,rfl⟩⟩) k3
    have hjl:j < l'.length * 5:=by rw [← flat_len]; exact (List.getElem?_eq_some_iff.1 hj).1
    have hdm:j=j / 5 * 5+j % 5:=by omega
    have hq5:j / 5 < l'.length:=by omega
    have hfl:=flat_get l' (j / 5) (j % 5) hq5 (Nat.mod_lt _ (by omega))
    rw [← hdm,hj] at hfl
    refine ⟨?_,.inr ⟨rfl,by omega⟩⟩
    rw [cell_of_blk c1,Nat.zero_add]
    have h3:=c3 (j / 5) (j % 5) (by simpa using hq5) (Nat.mod_lt _ (by omega))
    rw [← hdm] at h3
    rw [h3,hfl]
    have ea:l'.toArray[j / 5]! = l'[j / 5]:=by simp [hq5]
    have eb:l'[j / 5]! = l'[j / 5]:=by simp [hq5]
    rw [ea,eb]
noncomputable def FK:List AV→Hp→Tr FRes:=fun xs h=>match xs with
  | [.list .mv l _,.func f [] [.ptr b 0]]=>match h.heap[b]? with
    | some [.int .u8 v,.ints .u8 64 bd,.u64 pr,.ints .u8 12 pk,.int .u8 tn,.ints .i8 4 rk,.int .i8 ps,.ints .u8 2 ck,.int .i64 hf,.int .i64 fl] =>
      .guard (okKept f ⟨v,bd,pr,pk,tn,rk,ps,ck,hf,fl⟩ l) (.ret (.ret (.list .mv (kept f ⟨v,bd,pr,pk,tn,rk,ps,ck,hf,fl⟩ l) (.own h.toks.length)) { h with toks:=h.toks++[(kept f ⟨v,bd,pr,pk,tn,rk,ps,ck,hf,fl⟩ l).length] }))
    | _=>.fail
  | _=>.fail
theorem sFK:FSound Pz 82 FK:=by
  intro xs h res he
  unfold FK at he
  split at he
  · rename_i l tk f b
    split at he
    · rename_i v bd pr pk tn rk ps ck hf fl hb
      simp only [get_guard,get_ret,Option.some.injEq] at he
      obtain ⟨h1,rfl⟩:=he
      refine ⟨?_,body82⟩
      unfold okKept at h1
      simp only [Bool.and_eq_true,decide_eq_true_eq] at h1
      obtain ⟨hl,h1⟩:=h1
      unfold kept
      cases hf3:f.beq 85 with
      | true =>
        rw [hf3] at h1
        obtain rfl:=Nat.eq_of_beq_eq_true hf3
        exact fs_keepR (p:=⟨v,bd,pr,pk,tn,rk,ps,ck,hf,fl⟩) hb (fun w vals hg hr=>keepR _ _ _ l hl (fun m=>P84a _ m (all86_iff.1 h1 m)) w vals hg hr)
      | false =>
        rw [hf3] at h1
        simp only [cond_false,Bool.and_eq_true] at h1
        obtain rfl:=Nat.eq_of_beq_eq_true h1.1
        exact fs_keepR (p:=⟨v,bd,pr,pk,tn,rk,ps,ck,hf,fl⟩) hb (fun w vals hg hr=>keepR _ _ _ l hl (fun m=>P84b _ m (all19_iff.1 h1.2 m)) w vals hg hr)
    · simp at he
  · simp at he
end Kz
end
section
namespace Kz
open Go
set_option maxRecDepth 100000
theorem mv_eq_iff (a b:Mv):(a.frm==b.frm&&(a.to==b.to&&(a.pro==b.pro&&(a.drp==b.drp&&(a.cas==b.cas&&true)))))=decide (a=b):=by
  rw [Bool.eq_iff_iff]
  cases a; cases b
  simp
theorem lp93 (l:List Mv) (b:Mv) (hl:l.length≤1000000):∃ r,lp93_1 l (l.length:Int) b 0=some r ∧
    match r with
    | .inl i=>0≤i∧i < l.length∧b ∈ l
    | .inr _=>b ∉ l:=by
  refine lp_many (I:=fun x=>0≤x∧x≤(l.length:Int)∧b ∉ l.take x.toNat) (μ:=fun x=>((l.length:Int) - x).toNat) ?_ _ ⟨by simp,by simp,by simp⟩ (by simp; omega)
  rintro n ⟨h0,h1,h2⟩
  by_cases hc:n < l.length
  · have hlt:n.toNat < l.length:=by omega
    refine ⟨c_true (fun _=>a_true (by simp [h0]; exact hc) fun _=>rfl) fun _=>rfl,c_ind (fun _ => ?_) fun h=>absurd h (by simpa using hc)⟩
    have he:eqOut BinOp.eql (b.frm==(l.getD n.toNat default).frm&&(b.to==(l.getD n.toNat default).to&&(b.pro==(l.getD n.toNat default).pro&&(b.drp==(l.getD n.toNat default).drp&&(b.cas==(l.getD n.toNat default).cas&&true)))))=decide (b=l.getD n.toNat default):=mv_eq_iff b _
    rw [he]
    refine c_ind (fun h => ?_) fun h => ?_
    · have h:b=l.getD n.toNat default:=by simpa using h
      exact ⟨h0,hc,by rw [h]; exact getD_mem hlt⟩
    · have h:¬ b=l.getD n.toNat default:=by simpa using h
      have hw:wr .i64 (n+1)=n+1:=wi64 (by omega) (by omega)
      rw [hw]
      refine ⟨⟨by omega,by omega,?_⟩,by dsimp only; omega⟩
      rw [show (n+1).toNat=n.toNat+1 by omega,List.take_succ_eq_append_getElem hlt]
      rw [List.getD_eq_getElem?_getD,List.getElem?_eq_getElem hlt] at h
      simp only [List.mem_append,List.mem_singleton,not_or]
      exact ⟨h2,h⟩
  · refine ⟨c_true (fun h=>absurd h (by simpa using hc)) fun _=>rfl,c_ind (fun h=>absurd h (by simpa using hc)) fun _ => ?_⟩
    show b ∉ l
    rw [List.take_of_length_le (by omega)] at h2
    exact h2
theorem t93 {l:List Mv} {b:Mv} (hl:l.length≤1000000):ok93 l b=true:=by
  refine a_true (of_some (lp93 l b hl)).1 fun _ => ?_
  refine c_true (fun _=>rfl) fun _=>rfl
theorem t41 {l:List Mv} {b:Mv} (hl:l.length≤1000000):ok41 l b=true:=a_true (t93 hl) fun _=>rfl
theorem N41_eq {l:List Mv} {b:Mv} (hl:l.length≤1000000):N41 l b=decide (b ∈ l):=by
  have h:=(of_some (lp93 l b hl)).2
  unfold N41 N93
  revert h
  show (match (lp93_1 l (l.length:Int) b 0).getD default with | .inl i=>0≤i∧i < (l.length:Int)∧b ∈ l | .inr _=>b ∉ l)→decide ((bif isL ((lp93_1 l (l.length:Int) b 0).getD default) then gl ((lp93_1 l (l.length:Int) b 0).getD default) else -1) ≥ 0)=decide (b ∈ l)
  generalize (lp93_1 l (l.length:Int) b 0).getD default=r
  intro h
  cases r with
  | inl i =>
    have h':0≤i∧i < (l.length:Int)∧b ∈ l:=h
    have h3:=h'.2.2
    simp [isL,gl,h'.1,h3]
  | inr y =>
    have h':b ∉ l:=h
    simp [isL,h']
theorem t40 {p:Pos} (hv:0≤p.variant) (m:Mv):ok40 p m=true:=by
  have hl:=N90_len hv
  unfold ok40
  refine a_true (t89 p) fun _=>c_true (fun _=>rfl) fun _=>a_true (t90 hv) fun _=>a_true (t41 (by omega)) fun _=>c_true (fun _=>rfl) fun h=>c_true (fun _=>rfl) fun _=>a_true ?_ fun _=>rfl
  rw [N41_eq (by omega)] at h
  have hm:m ∈ N90 p:=by simpa using h
  obtain ⟨_,f,t,h1,h2,h3,_⟩:=N90_mem hv hm
  rw [h3]
  simp
  omega
theorem t19 {p:Pos} (hv:0≤p.variant) (m:Mv):ok19 p m=true:=a_true (t40 hv m) fun _=>rfl
theorem t150 {a:Int} (ha:0≤a):ok150 a=true:=by
  unfold ok150
  refine c_true (fun _=>rfl) fun h => ?_
  have h:a < 9:=by simpa using h
  have:a=0∨a=1∨a=2∨a=3∨a=4∨a=5∨a=6∨a=7∨a=8:=by omega
  rcases this with rfl | rfl | rfl | rfl | rfl | rfl | rfl | rfl | rfl <;> rfl
theorem t147 {a:Int} (ha:0≤a):ok147 a=true:=by
  unfold ok147
  refine c_true (fun _=>rfl) fun h => ?_
  have h:a < 9:=by simpa using h
  have:a=0∨a=1∨a=2∨a=3∨a=4∨a=5∨a=6∨a=7∨a=8:=by omega
  rcases this with rfl | rfl | rfl | rfl | rfl | rfl | rfl | rfl | rfl <;> rfl
theorem N148_eq {t:Int} (h0:0≤t) (h1:t≤1):N148 t=56 * t:=by
  unfold N148
  rw [wi64 (n:=t) (by omega) (by omega),wi64 (by omega) (by omega)]
theorem lp149a (p1:Pos) (p2:List Int) (p3:Pos) (p4 p5:BitVec 64) (p6 p7 x:Int) (hx : -200≤x) (hx2:x≤201) (h6:p6≤200) (h7:p7≤200):(lp149_1 p1 p2 p3 p4 p5 p6 p7 x).isSome=true:=by
  refine (of_some (Q:=fun _=>True) (lp_many (I:=fun x => -200≤x∧x≤201) (μ:=fun x=>(201 - x).toNat) ?_ x ⟨hx,hx2⟩ (by omega))).1
  rintro n ⟨h0,h1⟩
  refine ⟨rfl,c_ind (fun hc=>c_ind (fun _=>trivial) fun _ => ?_) fun hc=>trivial⟩
  have hc:n≤if p7 > p6 then p7 else p6:=by simpa using hc
  have hn:n≤200:=by split at hc <;> omega
  rw [wi64 (n:=n+1) (by omega) (by omega)]
  exact ⟨⟨by omega,by omega⟩,by dsimp only; omega⟩
theorem lp149b (p1:Pos) (p2:List Int) (p3:Pos) (p4 p5:BitVec 64) (p6 p7 p8 p9 x:Int) (hx : -200≤x) (hx2:x≤201) (h6:p8≤200) (h7:p9≤200):(lp149_2 p1 p2 p3 p4 p5 p6 p7 p8 p9 x).isSome=true:=by
  refine (of_some (Q:=fun _=>True) (lp_many (I:=fun x => -200≤x∧x≤201) (μ:=fun x=>(201 - x).toNat) ?_ x ⟨hx,hx2⟩ (by omega))).1
  rintro n ⟨h0,h1⟩
  refine ⟨rfl,c_ind (fun hc=>c_ind (fun _=>trivial) fun _ => ?_) fun hc=>trivial⟩
  have hc:n≤if p9 > p8 then p9 else p8:=by simpa using hc
  have hn:n≤200:=by split at hc <;> omega
  rw [wi64 (n:=n+1) (by omega) (by omega)]
  exact ⟨⟨by omega,by omega⟩,by dsimp only; omega⟩
theorem lp149c (p1:Pos) (p2:List Int) (p3:Pos) (p4 p5:BitVec 64) (p6 p7 p8 p9 p10 p11 x:Int) (hx : -200≤x) (hx2:x≤201) (h6:p10≤200) (h7:p11≤200):(lp149_3 p1 p2 p3 p4 p5 p6 p7 p8 p9 p10 p11 x).isSome=true:=by
  refine (of_some (Q:=fun _=>True) (lp_many (I:=fun x => -200≤x∧x≤201) (μ:=fun x=>(201 - x).toNat) ?_ x ⟨hx,hx2⟩ (by omega))).1
  rintro n ⟨h0,h1⟩
  refine ⟨?_,c_ind (fun hc => ?_) fun hc=>trivial⟩
  · unfold okL149_3
    repeat' (first | with_reducible rfl | with_reducible exact t155 _ | with_reducible exact t159 _ _ _ | refine a_true ?_ (fun _ => ?_) | refine c_true (fun _ => ?_) (fun _ => ?_))
  · have hc:n≤if p11 > p10 then p11 else p10:=by simpa using hc
    have hn:n≤200:=by split at hc <;> omega
    rw [wi64 (n:=n+1) (by omega) (by omega)]
    have go:Nxt (fun x:Int => -200≤x∧x≤201) (fun _:Int ⊕ (Int×Bool)=>True) (fun x=>(201 - x).toNat) (201 - n).toNat (.go (n+1)):=⟨⟨by omega,by omega⟩,by dsimp only; omega⟩
    exact c_ind (fun _=>c_ind (fun _=>go) fun _=>c_ind (fun _=>trivial) fun _=>go) fun _=>c_ind (fun _=>trivial) fun _=>go
theorem getD_in {l:List Int} {a b d:Int} (h:∀ x ∈ l,a≤x∧x≤b) (hd:a≤d∧d≤b) (i:Nat):a≤l.getD i d∧l.getD i d≤b:=by
  by_cases hi:i < l.length
  · exact h _ (getD_mem hi)
  · rw [List.getD_eq_getElem?_getD,List.getElem?_eq_none (by omega)]
    exact hd
section
variable {p:Pos} (hp:PosIn p) (ht:p.turn≤1)
include hp ht
theorem N181_in {b c:Int}:0≤(N181 p b c).1∧(N181 p b c).1 < 64:=by
  have hr:=getD_in hp.r0 (d:=0) (by omega) (scale 2 p.turn+scale 1 c).toNat
  have h0:=hp.t0
  unfold N181
  rw [N148_eq h0 ht]
  generalize p.rooks.getD (scale 2 p.turn+scale 1 c).toNat 0=r at hr
  rw [wi64 (n:=r) (by omega) (by omega)]
  refine c_ind (P:=fun x:Int×Bool=>0≤x.1∧x.1 < 64) (fun _=>by simp) fun h1=>c_ind (P:=fun x:Int×Bool=>0≤x.1∧x.1 < 64) (fun _=>by simp) fun h2 => ?_
  have h1:0≤r:=by simpa using h1
  have h2:r≤7:=by simpa using h2
  rw [wi64 (n:=56 * p.turn+r) (by omega) (by omega)]
  have:0≤56 * p.turn+r∧56 * p.turn+r < 64:=by omega
  exact c_ind (P:=fun x:Int×Bool=>0≤x.1∧x.1 < 64) (fun _=>c_ind (P:=fun x:Int×Bool=>0≤x.1∧x.1 < 64) (fun _=>this) fun _=>this) fun _=>this
theorem t181 {b c:Int} (hc:c=0∨c=1):ok181 p b c=true:=by
  have hr:=getD_in hp.r0 (d:=0) (by omega) (scale 2 p.turn+scale 1 c).toNat
  have h0:=hp.t0
  unfold ok181
  rw [N148_eq h0 ht]
  generalize p.rooks.getD (scale 2 p.turn+scale 1 c).toNat 0=r at hr
  rw [wi64 (n:=r) (by omega) (by omega)]
  refine a_true (by simp; omega) fun _=>a_true (by simp; omega) fun _=>c_true (fun _=>rfl) fun h1=>c_true (fun _=>rfl) fun h2=>a_true ?_ fun _=>rfl
  have h1:0≤r:=by simpa using h1
  have h2:r≤7:=by simpa using h2
  rw [wi64 (n:=56 * p.turn+r) (by omega) (by omega)]
  simp
  omega
theorem t149 {b c:Int} (hb0:0≤b) (hb1:b < 64) (hc:c=0∨c=1):ok149 p b c=true:=by
  have h0:=hp.t0
  have hr:=N181_in hp ht (b:=b) (c:=c)
  have g0:0≤(List.take 2 (List.drop (c.toNat * 2) (li [6,5,2,3]))).getD 0 0∧(List.take 2 (List.drop (c.toNat * 2) (li [6,5,2,3]))).getD 0 0≤6:=by rcases hc with rfl | rfl <;> decide
  have g1:0≤(List.take 2 (List.drop (c.toNat * 2) (li [6,5,2,3]))).getD 1 0∧(List.take 2 (List.drop (c.toNat * 2) (li [6,5,2,3]))).getD 1 0≤6:=by rcases hc with rfl | rfl <;> decide
  unfold ok149
  rw [N148_eq h0 ht]
  generalize (List.take 2 (List.drop (c.toNat * 2) (li [6,5,2,3]))).getD 0 0=x0 at g0
  generalize (List.take 2 (List.drop (c.toNat * 2) (li [6,5,2,3]))).getD 1 0=x1 at g1
  have w0:wr .i64 (56 * p.turn+x0)=56 * p.turn+x0:=wi64 (by omega) (by omega)
  have w1:wr .i64 (56 * p.turn+x1)=56 * p.turn+x1:=wi64 (by omega) (by omega)
  rw [w0,w1]
  refine a_true (t181 hp ht hc) fun _=>c_true (fun _=>rfl) fun _=>a_true (by rcases hc with rfl | rfl <;> decide) fun _=>a_true (by simp; omega) fun _=>a_true (by simp; omega) fun _=>a_true (t151 _) fun _=>a_true (t66 _ _ _) fun _ =>
    a_true (lp149a _ _ _ _ _ _ _ _ ?_ ?_ ?_ ?_) fun _=>c_true (fun _=>rfl) fun _=>a_true (lp149b _ _ _ _ _ _ _ _ _ _ ?_ ?_ ?_ ?_) fun _=>c_true (fun _=>rfl) fun _=>a_true (lp149c _ _ _ _ _ _ _ _ _ _ _ _ ?_ ?_ ?_ ?_) fun _=>c_true (fun _=>rfl) fun _=>rfl
  all_goals (try split) <;> omega
omit ht in
theorem t97:ok97 p=true:=by
  unfold ok97
  refine c_true (fun _=>rfl) fun h => ?_
  have ht:p.turn≤1:=by simpa using h
  have hk:=N106_lo p p.turn 6
  refine a_true (t147 hp.v0) fun _=>c_true (fun _=>rfl) fun _=>a_true (t106 _ _ _) fun _=>c_true (fun _=>rfl) fun hk0=>c_true (fun _=>rfl) fun _ => ?_
  have hk0:0≤N106 p p.turn 6:=by simpa using hk0
  have a1:ok149 p (N106 p p.turn 6) 1=true:=t149 hp ht hk0 hk.2 (.inr rfl)
  have a0:ok149 p (N106 p p.turn 6) 0=true:=t149 hp ht hk0 hk.2 (.inl rfl)
  repeat' (first | with_reducible rfl | with_reducible exact a1 | with_reducible exact a0 | refine a_true ?_ (fun _ => ?_) | refine c_true (fun _ => ?_) (fun _ => ?_) | decide)
end
end Kz
end
