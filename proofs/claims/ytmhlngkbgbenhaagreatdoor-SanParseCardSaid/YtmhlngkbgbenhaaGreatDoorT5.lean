/- Part 5 of the texts under the proof: an abstract interpreter,the summaries of functions,plain laws. -/
import Derived.Test.YtmhlngkbgbenhaaGreatDoorT4
import Derived.Shelf.SlicesE.Clone
import Derived.Shelf.SlicesQ.IndexFunc
import Derived.Sort.WalkB12
import Derived.Shelf.SlicesQ.Load
import Derived.Lib.SliceRun
import Derived.Lib.SlKept
import Derived.Lib.Hide
import Derived.Shelf.SlicesE.DeleteFunc
set_option linter.unusedSectionVars false
set_option linter.unusedVariables false
set_option linter.unusedSimpArgs false
set_option linter.unnecessarySimpa false
noncomputable section
namespace Kz
open Go Go.RowKit Go.Proofs
set_option maxRecDepth 100000
set_option maxHeartbeats 4000000
def J3:KT:=[(59,48,[(0,[2,3,4]),(1,[2,3,4,13]),(2,[4,5]),(3,[4,6]),(4,[4,6,37,38]),(5,[4,6,37,38,39]),(6,[4,6,8,37,38]),(7,[4,6,37,38]),(8,[4,6,37,38]),(9,[4,5])]),(113,156,[(0,[0,2]),(1,[0,2,14]),(2,[0,2]),(3,[0,2]),(4,[0,2,48]),(5,[]),(6,[0,2,64]),(7,[0,2,3,4]),(8,[0,2,3,4]),(9,[]),(10,[0,2,119]),(11,[0,2]),(12,[])]),(114,188,[(0,(1::(rn 14 6 (rn 99 11 (rn 163 8 []))))),(1,(1::20::(rn 99 11 (rn 163 8 [])))),(2,(1::2::(rn 99 11 (rn 163 8 [])))),(3,(1::2::26::(rn 99 11 (rn 163 8 [])))),(4,[1,2,4]),(5,[1,4,47]),(6,[1,4]),(7,[]),(8,(1::2::80::(rn 99 11 (rn 163 8 [])))),(9,(1::2::6::(rn 99 11 (rn 163 8 [])))),(10,(1::2::6::110::(rn 163 8 []))),(11,(1::2::6::(rn 163 8 []))),(12,(1::2::(rn 163 8 []))),(13,(1::2::(rn 163 8 []))),(14,(1::2::(rn 163 8 []))),(15,[1,171]),(16,[])]),(115,41,[(0,[0,16]),(1,[0,28,29,30]),(2,[0,28,29,30,31]),(3,[0,3,28,29,30]),(4,[0,28,29,30]),(5,[0,28,29,30])]),(116,121,[(0,(0::18::54::55::(rn 70 16 (89::90::(rn 93 6 (rn 101 10 [])))))),(1,(0::54::55::(rn 70 16 (89::90::(rn 93 6 (rn 101 10 [])))))),(2,(0::2::54::55::(rn 70 16 (89::90::(rn 93 6 (rn 101 10 [])))))),(3,(0::2::31::54::55::(rn 70 16 (89::90::(rn 93 6 (rn 101 10 [])))))),(4,(0::2::54::55::(rn 70 16 (89::90::(rn 93 6 (rn 101 10 [])))))),(5,(0::2::3::54::55::(rn 70 16 (89::90::(rn 93 6 (rn 101 10 [])))))),(6,(0::2::3::46::47::54::55::(rn 70 16 (89::90::(rn 93 6 (rn 101 10 [])))))),(7,(0::2::3::46::47::48::54::55::(rn 70 16 (89::90::(rn 93 6 (rn 101 10 [])))))),(8,(0::(rn 2 4 (46::47::54::55::(rn 70 16 (89::90::(rn 93 6 (rn 101 10 [])))))))),(9,(0::(rn 2 4 (46::47::54::55::56::(rn 70 16 (89::90::(rn 93 6 (rn 101 10 [])))))))),(10,(0::2::3::4::6::46::47::54::55::(rn 70 16 (89::90::(rn 93 6 (rn 101 10 [])))))),(11,(0::2::3::4::6::7::46::47::54::55::(rn 70 16 (89::90::(rn 93 6 (rn 101 10 [])))))),(12,(0::2::3::4::46::47::54::55::(rn 70 16 (89::90::(rn 93 6 (rn 101 11 [])))))),(13,(0::2::3::46::47::54::55::(rn 70 16 (89::90::(rn 93 6 (rn 101 10 [])))))),(14,(0::2::3::46::47::54::55::(rn 70 16 (89::90::(rn 93 6 (rn 101 10 []))))))]),(117,112,[(0,(0::(rn 12 6 (rn 20 26 (rn 64 9 []))))),(1,(0::46::(rn 64 9 []))),(2,(0::2::(rn 64 9 []))),(3,[0,73]),(4,[0,3]),(5,[0,3,106]),(6,[])]),(118,42,[(0,(0::(rn 16 5 []))),(1,[0,21]),(2,[0]),(3,[0,31]),(4,[])]),(119,59,[(0,(0::(rn 26 8 (rn 36 10 [])))),(1,(0::2::(rn 26 8 (rn 36 10 [])))),(2,[0,2,46]),(3,[])]),(185,14,[(0,[0,1]),(1,[3])]),(189,26,[(0,[0]),(1,[0,8]),(2,[2]),(3,[2])])]
def ZG:ax:=bO Pz J3 [(61,BW),(76,Du),(31,Bx),(112,pF),(191,gL),(175,iI),(183,qI),(184,qQ),(178,nJ),(186,qE),(187,j6),(188,qN),(155,kJ),(190,nz),(192,qK)] [] []
theorem Sn:aV ZG:=ak aj ⟨Dx,E8,D5,qG,gR,jf,sv,tr,pD,sM,kH,sK,ll,pg,sN,trivial⟩ trivial trivial
def O8 (p1:Pos) (p2:Mv) (p3:Pos) (p4:Pos) (p5:Mv) (p6:Int):List AV:=[AV.ptr 3 0]
def PO (p1:Pos) (p2:Mv) (p3:Pos) (p4:Pos) (p5:Mv) (p6:Int):Hp:=Hp.mk [(pc p1 []),[AV.int .i8 p2.aw,AV.int .i8 p2.to,AV.int .u8 p2.aM,AV.int .u8 p2.aD,AV.bool p2.bq],zpB,(pc p3 (pc p4 [AV.int .i8 p5.aw,AV.int .i8 p5.to,AV.int .u8 p5.aM,AV.int .u8 p5.aD,AV.bool p5.bq,AV.int .i64 p6]))] [] [] 0 0 0
def HX (p1:Pos) (p2:Mv) (p3:Pos) (p4:Pos) (p5:Mv) (p6:Int) (y:(Pos)):bZ := .ret (.tuple []) (Hp.mk [(pc p1 []),[.int .i8 p2.aw,.int .i8 p2.to,.int .u8 p2.aM,.int .u8 p2.aD,.bool p2.bq],zpB,(pc y (pc p4 [.int .i8 p5.aw,.int .i8 p5.to,.int .u8 p5.aM,.int .u8 p5.aD,.bool p5.bq,.int .i64 p6]))] [] [] 0 0 0)
def bL (p1:Pos) (p2:Mv) (p3:Pos) (p4:Pos) (p5:Mv) (p6:Int):(Pos):=(bif p5.bq then (Pos.mk p3.variant ((((p3.ae.set (scale 1 p5.aw).toNat 0).set (scale 1 p5.to).toNat 0).set (scale 1 (fV p4 p5).1).toNat (p4.ae.getD (scale 1 p5.aw).toNat 0)).set (scale 1 (fV p4 p5).2.1).toNat (p4.ae.getD (scale 1 p5.to).toNat 0)) p3.ab p3.af p3.aa p3.ai p3.ah p3.ag p3.half p3.full) else (bif p5.aD != 0 then (Pos.mk (jj p3 p3.aa p5.aD).1.variant ((jj p3 p3.aa p5.aD).1.ae.set (scale 1 p5.to).toNat (jW (jj p3 p3.aa p5.aD).1.aa p5.aD)) (jj p3 p3.aa p5.aD).1.ab (jj p3 p3.aa p5.aD).1.af (jj p3 p3.aa p5.aD).1.aa (jj p3 p3.aa p5.aD).1.ai (jj p3 p3.aa p5.aD).1.ah (jj p3 p3.aa p5.aD).1.ag (jj p3 p3.aa p5.aD).1.half (jj p3 p3.aa p5.aD).1.full) else (bif decide (p6 ≥ 0) then (bif p5.aM != 0 then (Pos.mk p3.variant ((((p3.ae.set (scale 1 p6).toNat 0).set (scale 1 p5.aw).toNat 0).set (scale 1 p5.to).toNat (p4.ae.getD (scale 1 p5.aw).toNat 0)).set (scale 1 p5.to).toNat (jW p3.aa p5.aM)) p3.ab p3.af p3.aa p3.ai p3.ah p3.ag p3.half p3.full) else (Pos.mk p3.variant (((p3.ae.set (scale 1 p6).toNat 0).set (scale 1 p5.aw).toNat 0).set (scale 1 p5.to).toNat (p4.ae.getD (scale 1 p5.aw).toNat 0)) p3.ab p3.af p3.aa p3.ai p3.ah p3.ag p3.half p3.full)) else (bif p5.aM != 0 then (Pos.mk p3.variant (((p3.ae.set (scale 1 p5.aw).toNat 0).set (scale 1 p5.to).toNat (p4.ae.getD (scale 1 p5.aw).toNat 0)).set (scale 1 p5.to).toNat (jW p3.aa p5.aM)) p3.ab p3.af p3.aa p3.ai p3.ah p3.ag p3.half p3.full) else (Pos.mk p3.variant ((p3.ae.set (scale 1 p5.aw).toNat 0).set (scale 1 p5.to).toNat (p4.ae.getD (scale 1 p5.aw).toNat 0)) p3.ab p3.af p3.aa p3.ai p3.ah p3.ag p3.half p3.full)))))
def oc (p1:Pos) (p2:Mv) (p3:Pos) (p4:Pos) (p5:Mv) (p6:Int):Bool:=(bif p5.bq then (vS (p4) (p5)&&(decide (0≤p5.aw)&&decide (p5.aw < Int.ofNat 64)&&(decide (0≤p5.to)&&decide (p5.to < Int.ofNat 64)&&(decide (0≤p5.aw)&&decide (p5.aw < Int.ofNat 64)&&(decide (0≤p5.to)&&decide (p5.to < Int.ofNat 64)&&(decide (0≤(fV p4 p5).1)&&decide ((fV p4 p5).1 < Int.ofNat 64)&&(decide (0≤(fV p4 p5).2.1)&&decide ((fV p4 p5).2.1 < Int.ofNat 64)&&true))))))) else (bif p5.aD != 0 then (zu (p3) (p3.aa) (p5.aD)&&(decide (0≤p5.to)&&decide (p5.to < Int.ofNat 64)&&true)) else (bif decide (p6 ≥ 0) then (decide (0≤p6)&&decide (p6 < Int.ofNat 64)&&(decide (0≤p5.aw)&&decide (p5.aw < Int.ofNat 64)&&(decide (0≤p5.aw)&&decide (p5.aw < Int.ofNat 64)&&(decide (0≤p5.to)&&decide (p5.to < Int.ofNat 64)&&(bif p5.aM != 0 then (decide (0≤p5.to)&&decide (p5.to < Int.ofNat 64)&&true) else true))))) else (decide (0≤p5.aw)&&decide (p5.aw < Int.ofNat 64)&&(decide (0≤p5.aw)&&decide (p5.aw < Int.ofNat 64)&&(decide (0≤p5.to)&&decide (p5.to < Int.ofNat 64)&&(bif p5.aM != 0 then (decide (0≤p5.to)&&decide (p5.to < Int.ofNat 64)&&true) else true)))))))
abbrev Sb {α:Type} (k:Pos→Mv→Pos→Pos→Mv→Int→α) (s:St):α:=wP s 0 fun q0=>wP s 3 fun q3=>wM s 1 fun q1=>k q0 q1 q3 (Kz.Pos.mk (tI (tH s 3 10)) (tN (tH s 3 11)) (tU (tH s 3 12)) (tN (tH s 3 13)) (tI (tH s 3 14)) (tN (tH s 3 15)) (tI (tH s 3 16)) (tN (tH s 3 17)) (tI (tH s 3 18)) (tI (tH s 3 19))) (Kz.Mv.mk (tI (tH s 3 20)) (tI (tH s 3 21)) (tI (tH s 3 22)) (tI (tH s 3 23)) (tB (tH s 3 24))) (tI (tH s 3 25))
theorem U5 (p1:Pos) (p2:Mv) (p3:Pos) (p4:Pos) (p5:Mv) (p6:Int) (h:oc p1 p2 p3 p4 p5 p6=true):df Pz 113 (O8 p1 p2 p3 p4 p5 p6) (PO p1 p2 p3 p4 p5 p6) (HX p1 p2 p3 p4 p5 p6 (bL p1 p2 p3 p4 p5 p6))∧∃ fn,Pz.funcs[113]?=some fn∧fn.body.isSome=true:=jP (n:=14) (O:=HX p1 p2 p3 p4 p5 p6) Sn (fun o=>match o with | .ret v h=>(let s:St:=⟨[v],h⟩; wP s 3 fun q3=>some q3) | _=>none) (fun _=>rfl) (by kernel_rfl) (by kernel_rfl) (by kernel_rfl) (by kernel_rfl) h
def ij (xs:List AV) (h:Hp):Tr bZ:=Sb (fun p1 p2 p3 p4 p5 p6=>fk xs h (O8 p1 p2 p3 p4 p5 p6) (PO p1 p2 p3 p4 p5 p6) (oc p1 p2 p3 p4 p5 p6) (HX p1 p2 p3 p4 p5 p6) (bL p1 p2 p3 p4 p5 p6)) ⟨xs,h⟩
theorem gh:iC Pz 113 ij:=fun _ _ _ h=>sQ (U5 _ _ _ _ _ _) h
def VM:ax:=bO Pz J3 [(61,BW),(76,Du),(31,Bx),(112,pF),(191,gL),(175,iI),(183,qI),(184,qQ),(178,nJ),(186,qE),(187,j6),(188,qN),(155,kJ),(190,nz),(192,qK)] [] [(113,ij)]
theorem SD:aV VM:=ak aj ⟨Dx,E8,D5,qG,gR,jf,sv,tr,pD,sM,kH,sK,ll,pg,sN,trivial⟩ trivial ⟨gh,trivial⟩
def QO (p1:Pos) (p2:Mv) (p3:Pos) (p4:Pos) (p5:Mv) (p6:Int):List AV:=[AV.ptr 3 0]
def Q2 (p1:Pos) (p2:Mv) (p3:Pos) (p4:Pos) (p5:Mv) (p6:Int):Hp:=Hp.mk [(pc p1 []),[AV.int .i8 p2.aw,AV.int .i8 p2.to,AV.int .u8 p2.aM,AV.int .u8 p2.aD,AV.bool p2.bq],zpB,(pc p3 (pc p4 [AV.int .i8 p5.aw,AV.int .i8 p5.to,AV.int .u8 p5.aM,AV.int .u8 p5.aD,AV.bool p5.bq,AV.int .i64 p6]))] [] [] 0 0 0
def GU (p1:Pos) (p2:Mv) (p3:Pos) (p4:Pos) (p5:Mv) (p6:Int) (y:(Pos)):bZ := .ret (.tuple []) (Hp.mk [(pc p1 []),[.int .i8 p2.aw,.int .i8 p2.to,.int .u8 p2.aM,.int .u8 p2.aD,.bool p2.bq],zpB,(pc y (pc p4 [.int .i8 p5.aw,.int .i8 p5.to,.int .u8 p5.aM,.int .u8 p5.aD,.bool p5.bq,.int .i64 p6]))] [] [] 0 0 0)
def cf (p1:Pos) (p2:Mv) (p3:Pos) (p4:Pos) (p5:Mv) (p6:Int):(Pos):=(bif p3.variant != 2 then (p3) else (bif p5.aD != 0 then (p3) else (bif p5.bq then (bif p4.ab >>> (BitVec.ofInt 64 (wr .i64 p5.to)).toNat&&&1#64==1#64 then (Pos.mk p3.variant p3.ae (p3.ab &&& ~~~(1#64 <<< (BitVec.ofInt 64 p5.to).toNat)|||1#64 <<< (BitVec.ofInt 64 (fV p4 p5).2.1).toNat) p3.af p3.aa p3.ai p3.ah p3.ag p3.half p3.full) else (p3)) else (bif decide (p6 ≥ 0) then (bif p4.ab >>> (BitVec.ofInt 64 p6).toNat&&&1#64==1#64 then (bif p4.ae.getD (scale 1 p6).toNat 0 != 0 then (bif p5.aM != 0 then (Pos.mk (bp p3 p3.aa 1).variant (bp p3 p3.aa 1).ae ((bp p3 p3.aa 1).ab &&& ~~~(1#64 <<< (BitVec.ofInt 64 p6).toNat) &&& ~~~(1#64 <<< (BitVec.ofInt 64 p5.aw).toNat)|||1#64 <<< (BitVec.ofInt 64 p5.to).toNat) (bp p3 p3.aa 1).af (bp p3 p3.aa 1).aa (bp p3 p3.aa 1).ai (bp p3 p3.aa 1).ah (bp p3 p3.aa 1).ag (bp p3 p3.aa 1).half (bp p3 p3.aa 1).full) else (bif p4.ab >>> (BitVec.ofInt 64 (wr .i64 p5.aw)).toNat&&&1#64==1#64 then (Pos.mk (bp p3 p3.aa 1).variant (bp p3 p3.aa 1).ae ((bp p3 p3.aa 1).ab &&& ~~~(1#64 <<< (BitVec.ofInt 64 p6).toNat) &&& ~~~(1#64 <<< (BitVec.ofInt 64 p5.aw).toNat)|||1#64 <<< (BitVec.ofInt 64 p5.to).toNat) (bp p3 p3.aa 1).af (bp p3 p3.aa 1).aa (bp p3 p3.aa 1).ai (bp p3 p3.aa 1).ah (bp p3 p3.aa 1).ag (bp p3 p3.aa 1).half (bp p3 p3.aa 1).full) else (Pos.mk (bp p3 p3.aa 1).variant (bp p3 p3.aa 1).ae ((bp p3 p3.aa 1).ab &&& ~~~(1#64 <<< (BitVec.ofInt 64 p6).toNat) &&& ~~~(1#64 <<< (BitVec.ofInt 64 p5.aw).toNat)) (bp p3 p3.aa 1).af (bp p3 p3.aa 1).aa (bp p3 p3.aa 1).ai (bp p3 p3.aa 1).ah (bp p3 p3.aa 1).ag (bp p3 p3.aa 1).half (bp p3 p3.aa 1).full))) else (bif p5.aM != 0 then (Pos.mk (bp p3 p3.aa (bk (p4.ae.getD (scale 1 p6).toNat 0))).variant (bp p3 p3.aa (bk (p4.ae.getD (scale 1 p6).toNat 0))).ae ((bp p3 p3.aa (bk (p4.ae.getD (scale 1 p6).toNat 0))).ab &&& ~~~(1#64 <<< (BitVec.ofInt 64 p6).toNat) &&& ~~~(1#64 <<< (BitVec.ofInt 64 p5.aw).toNat)|||1#64 <<< (BitVec.ofInt 64 p5.to).toNat) (bp p3 p3.aa (bk (p4.ae.getD (scale 1 p6).toNat 0))).af (bp p3 p3.aa (bk (p4.ae.getD (scale 1 p6).toNat 0))).aa (bp p3 p3.aa (bk (p4.ae.getD (scale 1 p6).toNat 0))).ai (bp p3 p3.aa (bk (p4.ae.getD (scale 1 p6).toNat 0))).ah (bp p3 p3.aa (bk (p4.ae.getD (scale 1 p6).toNat 0))).ag (bp p3 p3.aa (bk (p4.ae.getD (scale 1 p6).toNat 0))).half (bp p3 p3.aa (bk (p4.ae.getD (scale 1 p6).toNat 0))).full) else (bif p4.ab >>> (BitVec.ofInt 64 (wr .i64 p5.aw)).toNat&&&1#64==1#64 then (Pos.mk (bp p3 p3.aa (bk (p4.ae.getD (scale 1 p6).toNat 0))).variant (bp p3 p3.aa (bk (p4.ae.getD (scale 1 p6).toNat 0))).ae ((bp p3 p3.aa (bk (p4.ae.getD (scale 1 p6).toNat 0))).ab &&& ~~~(1#64 <<< (BitVec.ofInt 64 p6).toNat) &&& ~~~(1#64 <<< (BitVec.ofInt 64 p5.aw).toNat)|||1#64 <<< (BitVec.ofInt 64 p5.to).toNat) (bp p3 p3.aa (bk (p4.ae.getD (scale 1 p6).toNat 0))).af (bp p3 p3.aa (bk (p4.ae.getD (scale 1 p6).toNat 0))).aa (bp p3 p3.aa (bk (p4.ae.getD (scale 1 p6).toNat 0))).ai (bp p3 p3.aa (bk (p4.ae.getD (scale 1 p6).toNat 0))).ah (bp p3 p3.aa (bk (p4.ae.getD (scale 1 p6).toNat 0))).ag (bp p3 p3.aa (bk (p4.ae.getD (scale 1 p6).toNat 0))).half (bp p3 p3.aa (bk (p4.ae.getD (scale 1 p6).toNat 0))).full) else (Pos.mk (bp p3 p3.aa (bk (p4.ae.getD (scale 1 p6).toNat 0))).variant (bp p3 p3.aa (bk (p4.ae.getD (scale 1 p6).toNat 0))).ae ((bp p3 p3.aa (bk (p4.ae.getD (scale 1 p6).toNat 0))).ab &&& ~~~(1#64 <<< (BitVec.ofInt 64 p6).toNat) &&& ~~~(1#64 <<< (BitVec.ofInt 64 p5.aw).toNat)) (bp p3 p3.aa (bk (p4.ae.getD (scale 1 p6).toNat 0))).af (bp p3 p3.aa (bk (p4.ae.getD (scale 1 p6).toNat 0))).aa (bp p3 p3.aa (bk (p4.ae.getD (scale 1 p6).toNat 0))).ai (bp p3 p3.aa (bk (p4.ae.getD (scale 1 p6).toNat 0))).ah (bp p3 p3.aa (bk (p4.ae.getD (scale 1 p6).toNat 0))).ag (bp p3 p3.aa (bk (p4.ae.getD (scale 1 p6).toNat 0))).half (bp p3 p3.aa (bk (p4.ae.getD (scale 1 p6).toNat 0))).full)))) else (bif p5.aM != 0 then (Pos.mk (bp p3 p3.aa (bk (p4.ae.getD (scale 1 p6).toNat 0))).variant (bp p3 p3.aa (bk (p4.ae.getD (scale 1 p6).toNat 0))).ae ((bp p3 p3.aa (bk (p4.ae.getD (scale 1 p6).toNat 0))).ab &&& ~~~(1#64 <<< (BitVec.ofInt 64 p6).toNat) &&& ~~~(1#64 <<< (BitVec.ofInt 64 p5.aw).toNat)|||1#64 <<< (BitVec.ofInt 64 p5.to).toNat) (bp p3 p3.aa (bk (p4.ae.getD (scale 1 p6).toNat 0))).af (bp p3 p3.aa (bk (p4.ae.getD (scale 1 p6).toNat 0))).aa (bp p3 p3.aa (bk (p4.ae.getD (scale 1 p6).toNat 0))).ai (bp p3 p3.aa (bk (p4.ae.getD (scale 1 p6).toNat 0))).ah (bp p3 p3.aa (bk (p4.ae.getD (scale 1 p6).toNat 0))).ag (bp p3 p3.aa (bk (p4.ae.getD (scale 1 p6).toNat 0))).half (bp p3 p3.aa (bk (p4.ae.getD (scale 1 p6).toNat 0))).full) else (bif p4.ab >>> (BitVec.ofInt 64 (wr .i64 p5.aw)).toNat&&&1#64==1#64 then (Pos.mk (bp p3 p3.aa (bk (p4.ae.getD (scale 1 p6).toNat 0))).variant (bp p3 p3.aa (bk (p4.ae.getD (scale 1 p6).toNat 0))).ae ((bp p3 p3.aa (bk (p4.ae.getD (scale 1 p6).toNat 0))).ab &&& ~~~(1#64 <<< (BitVec.ofInt 64 p6).toNat) &&& ~~~(1#64 <<< (BitVec.ofInt 64 p5.aw).toNat)|||1#64 <<< (BitVec.ofInt 64 p5.to).toNat) (bp p3 p3.aa (bk (p4.ae.getD (scale 1 p6).toNat 0))).af (bp p3 p3.aa (bk (p4.ae.getD (scale 1 p6).toNat 0))).aa (bp p3 p3.aa (bk (p4.ae.getD (scale 1 p6).toNat 0))).ai (bp p3 p3.aa (bk (p4.ae.getD (scale 1 p6).toNat 0))).ah (bp p3 p3.aa (bk (p4.ae.getD (scale 1 p6).toNat 0))).ag (bp p3 p3.aa (bk (p4.ae.getD (scale 1 p6).toNat 0))).half (bp p3 p3.aa (bk (p4.ae.getD (scale 1 p6).toNat 0))).full) else (Pos.mk (bp p3 p3.aa (bk (p4.ae.getD (scale 1 p6).toNat 0))).variant (bp p3 p3.aa (bk (p4.ae.getD (scale 1 p6).toNat 0))).ae ((bp p3 p3.aa (bk (p4.ae.getD (scale 1 p6).toNat 0))).ab &&& ~~~(1#64 <<< (BitVec.ofInt 64 p6).toNat) &&& ~~~(1#64 <<< (BitVec.ofInt 64 p5.aw).toNat)) (bp p3 p3.aa (bk (p4.ae.getD (scale 1 p6).toNat 0))).af (bp p3 p3.aa (bk (p4.ae.getD (scale 1 p6).toNat 0))).aa (bp p3 p3.aa (bk (p4.ae.getD (scale 1 p6).toNat 0))).ai (bp p3 p3.aa (bk (p4.ae.getD (scale 1 p6).toNat 0))).ah (bp p3 p3.aa (bk (p4.ae.getD (scale 1 p6).toNat 0))).ag (bp p3 p3.aa (bk (p4.ae.getD (scale 1 p6).toNat 0))).half (bp p3 p3.aa (bk (p4.ae.getD (scale 1 p6).toNat 0))).full)))) else (bif p5.aM != 0 then (Pos.mk p3.variant p3.ae (p3.ab &&& ~~~(1#64 <<< (BitVec.ofInt 64 p5.aw).toNat)|||1#64 <<< (BitVec.ofInt 64 p5.to).toNat) p3.af p3.aa p3.ai p3.ah p3.ag p3.half p3.full) else (bif p4.ab >>> (BitVec.ofInt 64 (wr .i64 p5.aw)).toNat&&&1#64==1#64 then (Pos.mk p3.variant p3.ae (p3.ab &&& ~~~(1#64 <<< (BitVec.ofInt 64 p5.aw).toNat)|||1#64 <<< (BitVec.ofInt 64 p5.to).toNat) p3.af p3.aa p3.ai p3.ah p3.ag p3.half p3.full) else (Pos.mk p3.variant p3.ae (p3.ab &&& ~~~(1#64 <<< (BitVec.ofInt 64 p5.aw).toNat)) p3.af p3.aa p3.ai p3.ah p3.ag p3.half p3.full)))))))
def nS (p1:Pos) (p2:Mv) (p3:Pos) (p4:Pos) (p5:Mv) (p6:Int):Bool:=(bif p3.variant != 2 then true else (bif p5.aD != 0 then true else (bif p5.bq then (vS (p4) (p5)&&true) else (bif decide (p6 ≥ 0) then (decide (0≤p6)&&decide (p6 < Int.ofNat 64)&&(bif p4.ab >>> (BitVec.ofInt 64 p6).toNat&&&1#64==1#64 then (decide (0≤p6)&&decide (p6 < Int.ofNat 64)&&(bif p4.ae.getD (scale 1 p6).toNat 0 != 0 then (sr (p3) (p3.aa) (1)&&true) else (sr (p3) (p3.aa) (bk (p4.ae.getD (scale 1 p6).toNat 0))&&true))) else (sr (p3) (p3.aa) (bk (p4.ae.getD (scale 1 p6).toNat 0))&&true))) else true))))
abbrev U8 {α:Type} (k:Pos→Mv→Pos→Pos→Mv→Int→α) (s:St):α:=wP s 0 fun q0=>wP s 3 fun q3=>wM s 1 fun q1=>k q0 q1 q3 (Kz.Pos.mk (tI (tH s 3 10)) (tN (tH s 3 11)) (tU (tH s 3 12)) (tN (tH s 3 13)) (tI (tH s 3 14)) (tN (tH s 3 15)) (tI (tH s 3 16)) (tN (tH s 3 17)) (tI (tH s 3 18)) (tI (tH s 3 19))) (Kz.Mv.mk (tI (tH s 3 20)) (tI (tH s 3 21)) (tI (tH s 3 22)) (tI (tH s 3 23)) (tB (tH s 3 24))) (tI (tH s 3 25))
theorem RT (p1:Pos) (p2:Mv) (p3:Pos) (p4:Pos) (p5:Mv) (p6:Int) (h:nS p1 p2 p3 p4 p5 p6=true):df Pz 114 (QO p1 p2 p3 p4 p5 p6) (Q2 p1 p2 p3 p4 p5 p6) (GU p1 p2 p3 p4 p5 p6 (cf p1 p2 p3 p4 p5 p6))∧∃ fn,Pz.funcs[114]?=some fn∧fn.body.isSome=true:=jP (n:=14) (O:=GU p1 p2 p3 p4 p5 p6) SD (fun o=>match o with | .ret v h=>(let s:St:=⟨[v],h⟩; wP s 3 fun q3=>some q3) | _=>none) (fun _=>rfl) (by kernel_rfl) (by kernel_rfl) (by kernel_rfl) (by kernel_rfl) h
def jb (xs:List AV) (h:Hp):Tr bZ:=U8 (fun p1 p2 p3 p4 p5 p6=>fk xs h (QO p1 p2 p3 p4 p5 p6) (Q2 p1 p2 p3 p4 p5 p6) (nS p1 p2 p3 p4 p5 p6) (GU p1 p2 p3 p4 p5 p6) (cf p1 p2 p3 p4 p5 p6)) ⟨xs,h⟩
theorem gT:iC Pz 114 jb:=fun _ _ _ h=>sQ (RT _ _ _ _ _ _) h
def Zx:ax:=bO Pz J3 [(61,BW),(76,Du),(31,Bx),(112,pF),(191,gL),(175,iI),(183,qI),(184,qQ),(178,nJ),(186,qE),(187,j6),(188,qN),(155,kJ),(190,nz),(192,qK)] [] [(113,ij),(114,jb)]
theorem SZ:aV Zx:=ak aj ⟨Dx,E8,D5,qG,gR,jf,sv,tr,pD,sM,kH,sK,ll,pg,sN,trivial⟩ trivial ⟨gh,gT,trivial⟩
def Rt (p1:(List Int)) (p2:Int) (p3:Pos) (p4:Mv) (p5:Pos) (p6:Mv) (p7:Int) (x:(Int×Pos)):St:=St.mk (.ptr 3 0::(an 27 (.list (ET.i .i64) p1 .fresh::.int .i64 p2::.int .i64 x.1::(an 10 [])))) (Hp.mk [(pc p3 []),[.int .i8 p4.aw,.int .i8 p4.to,.int .u8 p4.aM,.int .u8 p4.aD,.bool p4.bq],zpB,(pc x.2 (pc p5 [.int .i8 p6.aw,.int .i8 p6.to,.int .u8 p6.aM,.int .u8 p6.aD,.bool p6.bq,.int .i64 p7]))] [] [] 0 0 0)
def Pj (p1:(List Int)) (p2:Int) (p3:Pos) (p4:Mv) (p5:Pos) (p6:Mv) (p7:Int):(Int×Bool×Pos)→Out:=fun y=>.exit 0 (St.mk (.ptr 3 0::(an 27 (.list (ET.i .i64) p1 .fresh::.int .i64 p2::.int .i64 y.1::.bool y.2.1::(an 9 [])))) (Hp.mk [(pc p3 []),[.int .i8 p4.aw,.int .i8 p4.to,.int .u8 p4.aM,.int .u8 p4.aD,.bool p4.bq],zpB,(pc y.2.2 (pc p5 [.int .i8 p6.aw,.int .i8 p6.to,.int .u8 p6.aM,.int .u8 p6.aD,.bool p6.bq,.int .i64 p7]))] [] [] 0 0 0))
def K1 (p1:(List Int)) (p2:Int) (p3:Pos) (p4:Mv) (p5:Pos) (p6:Mv) (p7:Int) (x:(Int×Pos)):aF (Int×Pos) ((Int×Bool×Pos)):=(bif decide (x.1 < p2) then (aF.go (wr .i64 (x.1+1),Pos.mk x.2.variant (x.2.ae.set (scale 1 (p1.getD x.1.toNat default)).toNat 0) x.2.ab x.2.af x.2.aa x.2.ai x.2.ah x.2.ag x.2.half x.2.full)) else (aF.out ((x.1,decide (x.1 < p2),x.2))))
def CS (p1:(List Int)) (p2:Int) (p3:Pos) (p4:Mv) (p5:Pos) (p6:Mv) (p7:Int) (x:(Int×Pos)):Bool:=(bif decide (x.1 < p2) then (decide (0≤x.1)&&decide (x.1 < Int.ofNat p1.length)&&(decide (0≤p1.getD x.1.toNat default)&&decide (p1.getD x.1.toNat default < Int.ofNat 64)&&true)) else true)
def pb (p1:(List Int)) (p2:Int) (p3:Pos) (p4:Mv) (p5:Pos) (p6:Mv) (p7:Int) (x:(Int×Pos)):Option ((Int×Bool×Pos)):=cP (fun x=>bif CS p1 p2 p3 p4 p5 p6 p7 x then K1 p1 p2 p3 p4 p5 p6 p7 x else .bad) many x
abbrev Pu {α:Type} (k:(List Int)→Int→Pos→Mv→Pos→Mv→Int→(Int×Pos)→α) (s:St):α:=wP s 0 fun q0=>wP s 3 fun q3=>wM s 1 fun q1=>k (tL (ET.i .i64) (tT s 28)) (tI (tT s 29)) q0 q1 (Kz.Pos.mk (tI (tH s 3 10)) (tN (tH s 3 11)) (tU (tH s 3 12)) (tN (tH s 3 13)) (tI (tH s 3 14)) (tN (tH s 3 15)) (tI (tH s 3 16)) (tN (tH s 3 17)) (tI (tH s 3 18)) (tI (tH s 3 19))) (Kz.Mv.mk (tI (tH s 3 20)) (tI (tH s 3 21)) (tI (tH s 3 22)) (tI (tH s 3 23)) (tB (tH s 3 24))) (tI (tH s 3 25)) ((tI (tT s 30)),q3)
theorem VJ (p1:(List Int)) (p2:Int) (p3:Pos) (p4:Mv) (p5:Pos) (p6:Mv) (p7:Int) (x:(Int×Pos)) (r:(Int×Bool×Pos)) (h:pb p1 p2 p3 p4 p5 p6 p7 x=some r):aB Pz (bj Pz 115 2) (Rt p1 p2 p3 p4 p5 p6 p7 x) (Pj p1 p2 p3 p4 p5 p6 p7 r):=smq (m:=12) (fn:=115) SZ (Pu fun _ _ _ _ _ _ _ x=>some x) (fun o=>match o with | .exit 0 s=>wP s 3 fun q3=>some ((tI (tT s 30)),(tB (tT s 31)),q3) | _=>none) many x r h
def oF (b:Code) (s:St):Tr Out:=Pu (fun p1 p2 p3 p4 p5 p6 p7 x=>lO b (bj Pz 115 2) s (Rt p1 p2 p3 p4 p5 p6 p7 x) (pb p1 p2 p3 p4 p5 p6 p7 x) (Pj p1 p2 p3 p4 p5 p6 p7)) s
theorem lu:∀ b,aY Pz b (oF b):=fun _ _ _ h=>bS (VJ _ _ _ _ _ _ _ _) h
def XX:ax:=bO Pz J3 [(61,BW),(76,Du),(31,Bx),(112,pF),(191,gL),(175,iI),(183,qI),(184,qQ),(178,nJ),(186,qE),(187,j6),(188,qN),(155,kJ),(190,nz),(192,qK)] [(115,2,oF)] [(113,ij),(114,jb)]
theorem TF:aV XX:=ak aj ⟨Dx,E8,D5,qG,gR,jf,sv,tr,pD,sM,kH,sK,ll,pg,sN,trivial⟩ ⟨lu,trivial⟩ ⟨gh,gT,trivial⟩
def QS (p1:Pos) (p2:Mv) (p3:Pos) (p4:Pos) (p5:Mv) (p6:Int):List AV:=[AV.ptr 3 0]
def Rn (p1:Pos) (p2:Mv) (p3:Pos) (p4:Pos) (p5:Mv) (p6:Int):Hp:=Hp.mk [(pc p1 []),[AV.int .i8 p2.aw,AV.int .i8 p2.to,AV.int .u8 p2.aM,AV.int .u8 p2.aD,AV.bool p2.bq],zpB,(pc p3 (pc p4 [AV.int .i8 p5.aw,AV.int .i8 p5.to,AV.int .u8 p5.aM,AV.int .u8 p5.aD,AV.bool p5.bq,AV.int .i64 p6]))] [] [] 0 0 0
def Is (p1:Pos) (p2:Mv) (p3:Pos) (p4:Pos) (p5:Mv) (p6:Int) (y:(Pos)):bZ := .ret (.tuple []) (Hp.mk [(pc p1 []),[.int .i8 p2.aw,.int .i8 p2.to,.int .u8 p2.aM,.int .u8 p2.aD,.bool p2.bq],zpB,(pc y (pc p4 [.int .i8 p5.aw,.int .i8 p5.to,.int .u8 p5.aM,.int .u8 p5.aD,.bool p5.bq,.int .i64 p6]))] [] [] 0 0 0)
def cC (p1:Pos) (p2:Mv) (p3:Pos) (p4:Pos) (p5:Mv) (p6:Int):(Pos):=(bif p3.variant != 3 then (p3) else (bif decide (p6 < 0) then (p3) else (((pb (gK (pR p3 (wr .i64 p5.to))) (Int.ofNat (gK (pR p3 (wr .i64 p5.to))).length) p1 p2 p4 p5 p6 (0,p3)).getD default).2.2)))
def nU (p1:Pos) (p2:Mv) (p3:Pos) (p4:Pos) (p5:Mv) (p6:Int):Bool:=(bif p3.variant != 3 then true else (bif decide (p6 < 0) then true else (yx (p3) (wr .i64 p5.to)&&(qq (pR p3 (wr .i64 p5.to))&&((pb (gK (pR p3 (wr .i64 p5.to))) (Int.ofNat (gK (pR p3 (wr .i64 p5.to))).length) p1 p2 p4 p5 p6 (0,p3)).isSome&&true)))))
abbrev Tf {α:Type} (k:Pos→Mv→Pos→Pos→Mv→Int→α) (s:St):α:=wP s 0 fun q0=>wP s 3 fun q3=>wM s 1 fun q1=>k q0 q1 q3 (Kz.Pos.mk (tI (tH s 3 10)) (tN (tH s 3 11)) (tU (tH s 3 12)) (tN (tH s 3 13)) (tI (tH s 3 14)) (tN (tH s 3 15)) (tI (tH s 3 16)) (tN (tH s 3 17)) (tI (tH s 3 18)) (tI (tH s 3 19))) (Kz.Mv.mk (tI (tH s 3 20)) (tI (tH s 3 21)) (tI (tH s 3 22)) (tI (tH s 3 23)) (tB (tH s 3 24))) (tI (tH s 3 25))
theorem Uw (p1:Pos) (p2:Mv) (p3:Pos) (p4:Pos) (p5:Mv) (p6:Int) (h:nU p1 p2 p3 p4 p5 p6=true):df Pz 115 (QS p1 p2 p3 p4 p5 p6) (Rn p1 p2 p3 p4 p5 p6) (Is p1 p2 p3 p4 p5 p6 (cC p1 p2 p3 p4 p5 p6))∧∃ fn,Pz.funcs[115]?=some fn∧fn.body.isSome=true:=jP (n:=14) (O:=Is p1 p2 p3 p4 p5 p6) TF (fun o=>match o with | .ret v h=>(let s:St:=⟨[v],h⟩; wP s 3 fun q3=>some q3) | _=>none) (fun _=>rfl) (by kernel_rfl) (by kernel_rfl) (by kernel_rfl) (by kernel_rfl) h
def lC (xs:List AV) (h:Hp):Tr bZ:=Tf (fun p1 p2 p3 p4 p5 p6=>fk xs h (QS p1 p2 p3 p4 p5 p6) (Rn p1 p2 p3 p4 p5 p6) (nU p1 p2 p3 p4 p5 p6) (Is p1 p2 p3 p4 p5 p6) (cC p1 p2 p3 p4 p5 p6)) ⟨xs,h⟩
theorem kj:iC Pz 115 lC:=fun _ _ _ h=>sQ (Uw _ _ _ _ _ _) h
def Yo:ax:=bO Pz J3 [(61,BW),(76,Du),(31,Bx),(112,pF),(191,gL),(175,iI),(183,qI),(184,qQ),(178,nJ),(186,qE),(187,j6),(188,qN),(155,kJ),(190,nz),(192,qK)] [(115,2,oF)] [(113,ij),(114,jb),(115,lC)]
theorem Sg:aV Yo:=ak aj ⟨Dx,E8,D5,qG,gR,jf,sv,tr,pD,sM,kH,sK,ll,pg,sN,trivial⟩ ⟨lu,trivial⟩ ⟨gh,gT,kj,trivial⟩
def Rc (p1:Int) (p2:Int) (p3:(List Int)) (p4:Pos) (p5:Mv) (p6:Pos) (p7:Mv) (p8:Int) (x:(Int×Pos)):St:=St.mk (.ptr 3 0::.any::.int .u8 p1::.int .i64 p2::(an 42 (.agg [.ints .i8 2 p3]::.int .i64 x.1::(an 73 [])))) (Hp.mk [(pc p4 []),[.int .i8 p5.aw,.int .i8 p5.to,.int .u8 p5.aM,.int .u8 p5.aD,.bool p5.bq],zpB,(pc x.2 (pc p6 [.int .i8 p7.aw,.int .i8 p7.to,.int .u8 p7.aM,.int .u8 p7.aD,.bool p7.bq,.int .i64 p8]))] [] [] 0 0 0)
def Qv (p1:Int) (p2:Int) (p3:(List Int)) (p4:Pos) (p5:Mv) (p6:Pos) (p7:Mv) (p8:Int):(Int×Bool×Pos)→Out:=fun y=>.exit 2 (St.mk (.ptr 3 0::.any::.int .u8 p1::.int .i64 p2::(an 42 (.agg [.ints .i8 2 p3]::.int .i64 y.1::.bool y.2.1::(an 72 [])))) (Hp.mk [(pc p4 []),[.int .i8 p5.aw,.int .i8 p5.to,.int .u8 p5.aM,.int .u8 p5.aD,.bool p5.bq],zpB,(pc y.2.2 (pc p6 [.int .i8 p7.aw,.int .i8 p7.to,.int .u8 p7.aM,.int .u8 p7.aD,.bool p7.bq,.int .i64 p8]))] [] [] 0 0 0))
def wj (p1:Int) (p2:Int) (p3:(List Int)) (p4:Pos) (p5:Mv) (p6:Pos) (p7:Mv) (p8:Int) (x:(Int×Pos)):aF (Int×Pos) ((Int×Bool×Pos)):=(bif decide (x.1 < 2) then (bif decide (p3.getD x.1.toNat 0 < 0) then (aF.go (wr .i64 (x.1+1),x.2)) else (bif decide (p3.getD x.1.toNat 0 > 7) then (aF.go (wr .i64 (x.1+1),x.2)) else (bif p8==wr .i64 (wr .i64 (56 * wr .i64 p1)+wr .i64 (p3.getD x.1.toNat 0)) then (aF.go (wr .i64 (x.1+1),Pos.mk x.2.variant x.2.ae x.2.ab x.2.af x.2.aa (x.2.ai.set (scale 2 p1+scale 1 x.1).toNat (-1)) x.2.ah x.2.ag x.2.half x.2.full)) else (bif p7.aD==0 then (bif wr .i64 p7.aw==wr .i64 (wr .i64 (56 * wr .i64 p1)+wr .i64 (p3.getD x.1.toNat 0)) then (aF.go (wr .i64 (x.1+1),Pos.mk x.2.variant x.2.ae x.2.ab x.2.af x.2.aa (x.2.ai.set (scale 2 p1+scale 1 x.1).toNat (-1)) x.2.ah x.2.ag x.2.half x.2.full)) else (bif decide (p2 < 0) then (aF.go (wr .i64 (x.1+1),Pos.mk x.2.variant x.2.ae x.2.ab x.2.af x.2.aa (x.2.ai.set (scale 2 p1+scale 1 x.1).toNat (-1)) x.2.ah x.2.ag x.2.half x.2.full)) else (bif wr .i64 (p2.tdiv 8) != wr .i64 (7 * wr .i64 p1) then (aF.go (wr .i64 (x.1+1),Pos.mk x.2.variant x.2.ae x.2.ab x.2.af x.2.aa (x.2.ai.set (scale 2 p1+scale 1 x.1).toNat (-1)) x.2.ah x.2.ag x.2.half x.2.full)) else (bif x.2.ae.getD (scale 1 (wr .i64 (wr .i64 (56 * wr .i64 p1)+wr .i64 (p3.getD x.1.toNat 0)))).toNat 0 != jW p1 4 then (aF.go (wr .i64 (x.1+1),Pos.mk x.2.variant x.2.ae x.2.ab x.2.af x.2.aa (x.2.ai.set (scale 2 p1+scale 1 x.1).toNat (-1)) x.2.ah x.2.ag x.2.half x.2.full)) else (aF.go (wr .i64 (x.1+1),x.2)))))) else (bif decide (p2 < 0) then (aF.go (wr .i64 (x.1+1),Pos.mk x.2.variant x.2.ae x.2.ab x.2.af x.2.aa (x.2.ai.set (scale 2 p1+scale 1 x.1).toNat (-1)) x.2.ah x.2.ag x.2.half x.2.full)) else (bif wr .i64 (p2.tdiv 8) != wr .i64 (7 * wr .i64 p1) then (aF.go (wr .i64 (x.1+1),Pos.mk x.2.variant x.2.ae x.2.ab x.2.af x.2.aa (x.2.ai.set (scale 2 p1+scale 1 x.1).toNat (-1)) x.2.ah x.2.ag x.2.half x.2.full)) else (bif x.2.ae.getD (scale 1 (wr .i64 (wr .i64 (56 * wr .i64 p1)+wr .i64 (p3.getD x.1.toNat 0)))).toNat 0 != jW p1 4 then (aF.go (wr .i64 (x.1+1),Pos.mk x.2.variant x.2.ae x.2.ab x.2.af x.2.aa (x.2.ai.set (scale 2 p1+scale 1 x.1).toNat (-1)) x.2.ah x.2.ag x.2.half x.2.full)) else (aF.go (wr .i64 (x.1+1),x.2))))))))) else (aF.out ((x.1,decide (x.1 < 2),x.2))))
def wO (p1:Int) (p2:Int) (p3:(List Int)) (p4:Pos) (p5:Mv) (p6:Pos) (p7:Mv) (p8:Int) (x:(Int×Pos)):Bool:=(bif decide (x.1 < 2) then (decide (0≤x.1)&&decide (x.1 < Int.ofNat 2)&&(bif decide (p3.getD x.1.toNat 0 < 0) then true else (bif decide (p3.getD x.1.toNat 0 > 7) then true else (bif p8==wr .i64 (wr .i64 (56 * wr .i64 p1)+wr .i64 (p3.getD x.1.toNat 0)) then (decide (0≤p1)&&decide (p1 < Int.ofNat 2)&&(decide (0≤x.1)&&decide (x.1 < Int.ofNat 2)&&true)) else (bif p7.aD==0 then (bif wr .i64 p7.aw==wr .i64 (wr .i64 (56 * wr .i64 p1)+wr .i64 (p3.getD x.1.toNat 0)) then (decide (0≤p1)&&decide (p1 < Int.ofNat 2)&&(decide (0≤x.1)&&decide (x.1 < Int.ofNat 2)&&true)) else (bif decide (p2 < 0) then (decide (0≤p1)&&decide (p1 < Int.ofNat 2)&&(decide (0≤x.1)&&decide (x.1 < Int.ofNat 2)&&true)) else (bif wr .i64 (p2.tdiv 8) != wr .i64 (7 * wr .i64 p1) then (decide (0≤p1)&&decide (p1 < Int.ofNat 2)&&(decide (0≤x.1)&&decide (x.1 < Int.ofNat 2)&&true)) else (decide (0≤wr .i64 (wr .i64 (56 * wr .i64 p1)+wr .i64 (p3.getD x.1.toNat 0)))&&decide (wr .i64 (wr .i64 (56 * wr .i64 p1)+wr .i64 (p3.getD x.1.toNat 0)) < Int.ofNat 64)&&(bif x.2.ae.getD (scale 1 (wr .i64 (wr .i64 (56 * wr .i64 p1)+wr .i64 (p3.getD x.1.toNat 0)))).toNat 0 != jW p1 4 then (decide (0≤p1)&&decide (p1 < Int.ofNat 2)&&(decide (0≤x.1)&&decide (x.1 < Int.ofNat 2)&&true)) else true))))) else (bif decide (p2 < 0) then (decide (0≤p1)&&decide (p1 < Int.ofNat 2)&&(decide (0≤x.1)&&decide (x.1 < Int.ofNat 2)&&true)) else (bif wr .i64 (p2.tdiv 8) != wr .i64 (7 * wr .i64 p1) then (decide (0≤p1)&&decide (p1 < Int.ofNat 2)&&(decide (0≤x.1)&&decide (x.1 < Int.ofNat 2)&&true)) else (decide (0≤wr .i64 (wr .i64 (56 * wr .i64 p1)+wr .i64 (p3.getD x.1.toNat 0)))&&decide (wr .i64 (wr .i64 (56 * wr .i64 p1)+wr .i64 (p3.getD x.1.toNat 0)) < Int.ofNat 64)&&(bif x.2.ae.getD (scale 1 (wr .i64 (wr .i64 (56 * wr .i64 p1)+wr .i64 (p3.getD x.1.toNat 0)))).toNat 0 != jW p1 4 then (decide (0≤p1)&&decide (p1 < Int.ofNat 2)&&(decide (0≤x.1)&&decide (x.1 < Int.ofNat 2)&&true)) else true))))))))) else true)
def lS (p1:Int) (p2:Int) (p3:(List Int)) (p4:Pos) (p5:Mv) (p6:Pos) (p7:Mv) (p8:Int) (x:(Int×Pos)):Option ((Int×Bool×Pos)):=cP (fun x=>bif wO p1 p2 p3 p4 p5 p6 p7 p8 x then wj p1 p2 p3 p4 p5 p6 p7 p8 x else .bad) many x
abbrev QR {α:Type} (k:Int→Int→(List Int)→Pos→Mv→Pos→Mv→Int→(Int×Pos)→α) (s:St):α:=wP s 0 fun q0=>wP s 3 fun q3=>wM s 1 fun q1=>k (tI (tT s 2)) (tI (tT s 3)) (tN (tX (tA (tT s 46)) 0)) q0 q1 (Kz.Pos.mk (tI (tH s 3 10)) (tN (tH s 3 11)) (tU (tH s 3 12)) (tN (tH s 3 13)) (tI (tH s 3 14)) (tN (tH s 3 15)) (tI (tH s 3 16)) (tN (tH s 3 17)) (tI (tH s 3 18)) (tI (tH s 3 19))) (Kz.Mv.mk (tI (tH s 3 20)) (tI (tH s 3 21)) (tI (tH s 3 22)) (tI (tH s 3 23)) (tB (tH s 3 24))) (tI (tH s 3 25)) ((tI (tT s 47)),q3)
theorem Wa (p1:Int) (p2:Int) (p3:(List Int)) (p4:Pos) (p5:Mv) (p6:Pos) (p7:Mv) (p8:Int) (x:(Int×Pos)) (r:(Int×Bool×Pos)) (h:lS p1 p2 p3 p4 p5 p6 p7 p8 x=some r):aB Pz (bj Pz 116 7) (Rc p1 p2 p3 p4 p5 p6 p7 p8 x) (Qv p1 p2 p3 p4 p5 p6 p7 p8 r):=smq (m:=12) (fn:=116) Sg (QR fun _ _ _ _ _ _ _ _ x=>some x) (fun o=>match o with | .exit 2 s=>wP s 3 fun q3=>some ((tI (tT s 47)),(tB (tT s 48)),q3) | _=>none) many x r h
def rM (b:Code) (s:St):Tr Out:=QR (fun p1 p2 p3 p4 p5 p6 p7 p8 x=>lO b (bj Pz 116 7) s (Rc p1 p2 p3 p4 p5 p6 p7 p8 x) (lS p1 p2 p3 p4 p5 p6 p7 p8 x) (Qv p1 p2 p3 p4 p5 p6 p7 p8)) s
theorem pZ:∀ b,aY Pz b (rM b):=fun _ _ _ h=>bS (Wa _ _ _ _ _ _ _ _ _) h
def XD:ax:=bO Pz J3 [(61,BW),(76,Du),(31,Bx),(112,pF),(191,gL),(175,iI),(183,qI),(184,qQ),(178,nJ),(186,qE),(187,j6),(188,qN),(155,kJ),(190,nz),(192,qK)] [(115,2,oF),(116,7,rM)] [(113,ij),(114,jb),(115,lC)]
theorem Vg:aV XD:=ak aj ⟨Dx,E8,D5,qG,gR,jf,sv,tr,pD,sM,kH,sK,ll,pg,sN,trivial⟩ ⟨lu,pZ,trivial⟩ ⟨gh,gT,kj,trivial⟩
def Pv (p1:Pos) (p2:Mv) (p3:Pos) (p4:Mv) (p5:Int) (x:(Int×Pos)):St:=St.mk (.ptr 3 0::.any::.int .u8 x.1::(an 118 [])) (Hp.mk [(pc p1 []),[.int .i8 p2.aw,.int .i8 p2.to,.int .u8 p2.aM,.int .u8 p2.aD,.bool p2.bq],zpB,(pc x.2 (pc p3 [.int .i8 p4.aw,.int .i8 p4.to,.int .u8 p4.aM,.int .u8 p4.aD,.bool p4.bq,.int .i64 p5]))] [] [] 0 0 0)
def PC (p1:Pos) (p2:Mv) (p3:Pos) (p4:Mv) (p5:Int):(Int×Bool×Pos)→Out:=fun y=>.exit 0 (St.mk (.ptr 3 0::.any::.int .u8 y.1::(an 28 (.bool y.2.1::(an 89 [])))) (Hp.mk [(pc p1 []),[.int .i8 p2.aw,.int .i8 p2.to,.int .u8 p2.aM,.int .u8 p2.aD,.bool p2.bq],zpB,(pc y.2.2 (pc p3 [.int .i8 p4.aw,.int .i8 p4.to,.int .u8 p4.aM,.int .u8 p4.aD,.bool p4.bq,.int .i64 p5]))] [] [] 0 0 0))
def Cu (p1:Pos) (p2:Mv) (p3:Pos) (p4:Mv) (p5:Int) (x:(Int×Pos)):aF (Int×Pos) ((Int×Bool×Pos)):=(bif decide (x.1≤1) then (aF.go (wr .u8 (x.1+1),((lS x.1 (bb x.2 x.1 6) (List.take 2 (List.drop (scale 2 x.1).toNat x.2.ai)) p1 p2 p3 p4 p5 (0,x.2)).getD default).2.2)) else (aF.out ((x.1,decide (x.1≤1),x.2))))
def wV (p1:Pos) (p2:Mv) (p3:Pos) (p4:Mv) (p5:Int) (x:(Int×Pos)):Bool:=(bif decide (x.1≤1) then (iX (x.2) (x.1) (6)&&(decide (0≤x.1)&&decide (x.1 < Int.ofNat 2)&&((lS x.1 (bb x.2 x.1 6) (List.take 2 (List.drop (scale 2 x.1).toNat x.2.ai)) p1 p2 p3 p4 p5 (0,x.2)).isSome&&true))) else true)
def dC (p1:Pos) (p2:Mv) (p3:Pos) (p4:Mv) (p5:Int) (x:(Int×Pos)):Option ((Int×Bool×Pos)):=cP (fun x=>bif wV p1 p2 p3 p4 p5 x then Cu p1 p2 p3 p4 p5 x else .bad) many x
abbrev Qh {α:Type} (k:Pos→Mv→Pos→Mv→Int→(Int×Pos)→α) (s:St):α:=wP s 0 fun q0=>wP s 3 fun q3=>wM s 1 fun q1=>k q0 q1 (Kz.Pos.mk (tI (tH s 3 10)) (tN (tH s 3 11)) (tU (tH s 3 12)) (tN (tH s 3 13)) (tI (tH s 3 14)) (tN (tH s 3 15)) (tI (tH s 3 16)) (tN (tH s 3 17)) (tI (tH s 3 18)) (tI (tH s 3 19))) (Kz.Mv.mk (tI (tH s 3 20)) (tI (tH s 3 21)) (tI (tH s 3 22)) (tI (tH s 3 23)) (tB (tH s 3 24))) (tI (tH s 3 25)) ((tI (tT s 2)),q3)
theorem YM (p1:Pos) (p2:Mv) (p3:Pos) (p4:Mv) (p5:Int) (x:(Int×Pos)) (r:(Int×Bool×Pos)) (h:dC p1 p2 p3 p4 p5 x=some r):aB Pz (bj Pz 116 3) (Pv p1 p2 p3 p4 p5 x) (PC p1 p2 p3 p4 p5 r):=smq (m:=12) (fn:=116) Vg (Qh fun _ _ _ _ _ x=>some x) (fun o=>match o with | .exit 0 s=>wP s 3 fun q3=>some ((tI (tT s 2)),(tB (tT s 31)),q3) | _=>none) many x r h
def vi (b:Code) (s:St):Tr Out:=Qh (fun p1 p2 p3 p4 p5 x=>lO b (bj Pz 116 3) s (Pv p1 p2 p3 p4 p5 x) (dC p1 p2 p3 p4 p5 x) (PC p1 p2 p3 p4 p5)) s
theorem tQ:∀ b,aY Pz b (vi b):=fun _ _ _ h=>bS (YM _ _ _ _ _ _) h
def XU:ax:=bO Pz J3 [(61,BW),(76,Du),(31,Bx),(112,pF),(191,gL),(175,iI),(183,qI),(184,qQ),(178,nJ),(186,qE),(187,j6),(188,qN),(155,kJ),(190,nz),(192,qK)] [(115,2,oF),(116,7,rM),(116,3,vi)] [(113,ij),(114,jb),(115,lC)]
theorem S6:aV XU:=ak aj ⟨Dx,E8,D5,qG,gR,jf,sv,tr,pD,sM,kH,sK,ll,pg,sN,trivial⟩ ⟨lu,pZ,tQ,trivial⟩ ⟨gh,gT,kj,trivial⟩
def Rh (p1:Pos) (p2:Mv) (p3:Pos) (p4:Pos) (p5:Mv) (p6:Int):List AV:=[AV.ptr 3 0]
def QM (p1:Pos) (p2:Mv) (p3:Pos) (p4:Pos) (p5:Mv) (p6:Int):Hp:=Hp.mk [(pc p1 []),[AV.int .i8 p2.aw,AV.int .i8 p2.to,AV.int .u8 p2.aM,AV.int .u8 p2.aD,AV.bool p2.bq],zpB,(pc p3 (pc p4 [AV.int .i8 p5.aw,AV.int .i8 p5.to,AV.int .u8 p5.aM,AV.int .u8 p5.aD,AV.bool p5.bq,AV.int .i64 p6]))] [] [] 0 0 0
def IP (p1:Pos) (p2:Mv) (p3:Pos) (p4:Pos) (p5:Mv) (p6:Int) (y:(Pos)):bZ := .ret (.tuple []) (Hp.mk [(pc p1 []),[.int .i8 p2.aw,.int .i8 p2.to,.int .u8 p2.aM,.int .u8 p2.aD,.bool p2.bq],zpB,(pc y (pc p4 [.int .i8 p5.aw,.int .i8 p5.to,.int .u8 p5.aM,.int .u8 p5.aD,.bool p5.bq,.int .i64 p6]))] [] [] 0 0 0)
def cG (p1:Pos) (p2:Mv) (p3:Pos) (p4:Pos) (p5:Mv) (p6:Int):(Pos):=(bif p5.aD != 0 then (bif p5.aD==6 then (bif p5.aD==0 then (((dC p1 p2 p4 p5 p6 (0,Pos.mk p3.variant p3.ae p3.ab p3.af p3.aa (List.take (scale 2 p3.aa).toNat p3.ai++li [-1,-1]++List.drop ((scale 2 p3.aa).toNat+2) p3.ai) p3.ah p3.ag p3.half p3.full)).getD default).2.2) else (((dC p1 p2 p4 p5 p6 (0,p3)).getD default).2.2)) else (((dC p1 p2 p4 p5 p6 (0,p3)).getD default).2.2)) else (bif bk (p4.ae.getD (scale 1 p5.aw).toNat 0)==6 then (bif p5.aD==0 then (((dC p1 p2 p4 p5 p6 (0,Pos.mk p3.variant p3.ae p3.ab p3.af p3.aa (List.take (scale 2 p3.aa).toNat p3.ai++li [-1,-1]++List.drop ((scale 2 p3.aa).toNat+2) p3.ai) p3.ah p3.ag p3.half p3.full)).getD default).2.2) else (((dC p1 p2 p4 p5 p6 (0,p3)).getD default).2.2)) else (((dC p1 p2 p4 p5 p6 (0,p3)).getD default).2.2)))
def ny (p1:Pos) (p2:Mv) (p3:Pos) (p4:Pos) (p5:Mv) (p6:Int):Bool:=(bif p5.aD != 0 then (bif p5.aD==6 then (bif p5.aD==0 then (decide (0≤p3.aa)&&decide (p3.aa < Int.ofNat 2)&&((dC p1 p2 p4 p5 p6 (0,Pos.mk p3.variant p3.ae p3.ab p3.af p3.aa (List.take (scale 2 p3.aa).toNat p3.ai++li [-1,-1]++List.drop ((scale 2 p3.aa).toNat+2) p3.ai) p3.ah p3.ag p3.half p3.full)).isSome&&true)) else ((dC p1 p2 p4 p5 p6 (0,p3)).isSome&&true)) else ((dC p1 p2 p4 p5 p6 (0,p3)).isSome&&true)) else (decide (0≤p5.aw)&&decide (p5.aw < Int.ofNat 64)&&(bif bk (p4.ae.getD (scale 1 p5.aw).toNat 0)==6 then (bif p5.aD==0 then (decide (0≤p3.aa)&&decide (p3.aa < Int.ofNat 2)&&((dC p1 p2 p4 p5 p6 (0,Pos.mk p3.variant p3.ae p3.ab p3.af p3.aa (List.take (scale 2 p3.aa).toNat p3.ai++li [-1,-1]++List.drop ((scale 2 p3.aa).toNat+2) p3.ai) p3.ah p3.ag p3.half p3.full)).isSome&&true)) else ((dC p1 p2 p4 p5 p6 (0,p3)).isSome&&true)) else ((dC p1 p2 p4 p5 p6 (0,p3)).isSome&&true))))
abbrev TO {α:Type} (k:Pos→Mv→Pos→Pos→Mv→Int→α) (s:St):α:=wP s 0 fun q0=>wP s 3 fun q3=>wM s 1 fun q1=>k q0 q1 q3 (Kz.Pos.mk (tI (tH s 3 10)) (tN (tH s 3 11)) (tU (tH s 3 12)) (tN (tH s 3 13)) (tI (tH s 3 14)) (tN (tH s 3 15)) (tI (tH s 3 16)) (tN (tH s 3 17)) (tI (tH s 3 18)) (tI (tH s 3 19))) (Kz.Mv.mk (tI (tH s 3 20)) (tI (tH s 3 21)) (tI (tH s 3 22)) (tI (tH s 3 23)) (tB (tH s 3 24))) (tI (tH s 3 25))
theorem TM (p1:Pos) (p2:Mv) (p3:Pos) (p4:Pos) (p5:Mv) (p6:Int) (h:ny p1 p2 p3 p4 p5 p6=true):df Pz 116 (Rh p1 p2 p3 p4 p5 p6) (QM p1 p2 p3 p4 p5 p6) (IP p1 p2 p3 p4 p5 p6 (cG p1 p2 p3 p4 p5 p6))∧∃ fn,Pz.funcs[116]?=some fn∧fn.body.isSome=true:=jP (n:=14) (O:=IP p1 p2 p3 p4 p5 p6) S6 (fun o=>match o with | .ret v h=>(let s:St:=⟨[v],h⟩; wP s 3 fun q3=>some q3) | _=>none) (fun _=>rfl) (by kernel_rfl) (by kernel_rfl) (by kernel_rfl) (by kernel_rfl) h
def uj (xs:List AV) (h:Hp):Tr bZ:=TO (fun p1 p2 p3 p4 p5 p6=>fk xs h (Rh p1 p2 p3 p4 p5 p6) (QM p1 p2 p3 p4 p5 p6) (ny p1 p2 p3 p4 p5 p6) (IP p1 p2 p3 p4 p5 p6) (cG p1 p2 p3 p4 p5 p6)) ⟨xs,h⟩
theorem rz:iC Pz 116 uj:=fun _ _ _ h=>sQ (TM _ _ _ _ _ _) h
def ZM:ax:=bO Pz J3 [(61,BW),(76,Du),(31,Bx),(112,pF),(191,gL),(175,iI),(183,qI),(184,qQ),(178,nJ),(186,qE),(187,j6),(188,qN),(155,kJ),(190,nz),(192,qK)] [(115,2,oF),(116,7,rM),(116,3,vi)] [(113,ij),(114,jb),(115,lC),(116,uj)]
theorem Vd:aV ZM:=ak aj ⟨Dx,E8,D5,qG,gR,jf,sv,tr,pD,sM,kH,sK,ll,pg,sN,trivial⟩ ⟨lu,pZ,tQ,trivial⟩ ⟨gh,gT,kj,rz,trivial⟩
def QN (p1:Pos) (p2:Mv) (p3:Pos) (p4:Pos) (p5:Mv) (p6:Int):List AV:=[AV.ptr 3 0]
def Rj (p1:Pos) (p2:Mv) (p3:Pos) (p4:Pos) (p5:Mv) (p6:Int):Hp:=Hp.mk [(pc p1 []),[AV.int .i8 p2.aw,AV.int .i8 p2.to,AV.int .u8 p2.aM,AV.int .u8 p2.aD,AV.bool p2.bq],zpB,(pc p3 (pc p4 [AV.int .i8 p5.aw,AV.int .i8 p5.to,AV.int .u8 p5.aM,AV.int .u8 p5.aD,AV.bool p5.bq,AV.int .i64 p6]))] [] [] 0 0 0
def J5 (p1:Pos) (p2:Mv) (p3:Pos) (p4:Pos) (p5:Mv) (p6:Int) (y:(Pos)):bZ := .ret (.tuple []) (Hp.mk [(pc p1 []),[.int .i8 p2.aw,.int .i8 p2.to,.int .u8 p2.aM,.int .u8 p2.aD,.bool p2.bq],zpB,(pc y (pc p4 [.int .i8 p5.aw,.int .i8 p5.to,.int .u8 p5.aM,.int .u8 p5.aD,.bool p5.bq,.int .i64 p6]))] [] [] 0 0 0)
def dg (p1:Pos) (p2:Mv) (p3:Pos) (p4:Pos) (p5:Mv) (p6:Int):(Pos):=(bif p5.aD != 0 then (bif p5.aD != 1 then (Pos.mk p3.variant p3.ae p3.ab p3.af p3.aa p3.ai (-1) p3.ag p3.half p3.full) else (bif p5.aD != 0 then (Pos.mk p3.variant p3.ae p3.ab p3.af p3.aa p3.ai (-1) p3.ag p3.half p3.full) else (bif wr .i8 (p5.to - p5.aw) != 16 then (bif wr .i8 (p5.aw - p5.to) != 16 then (Pos.mk p3.variant p3.ae p3.ab p3.af p3.aa p3.ai (-1) p3.ag p3.half p3.full) else (bif wr .i8 (p5.aw.tdiv 8) != wr .i8 (wr .i8 (7 * wr .i8 p3.aa)+1) then (bif wr .i8 (p5.aw.tdiv 8) != wr .i8 (wr .i8 (7 * wr .i8 p3.aa) - 1) then (Pos.mk p3.variant p3.ae p3.ab p3.af p3.aa p3.ai (-1) p3.ag p3.half p3.full) else (bif cW p3.aa (wr .i64 (wr .i8 ((wr .i8 (p5.aw+p5.to)).tdiv 2)))&&&aR (Pos.mk p3.variant p3.ae p3.ab p3.af p3.aa p3.ai (-1) p3.ag p3.half p3.full) (wr .u8 (1 - p3.aa)) 1 != 0#64 then (Pos.mk p3.variant p3.ae p3.ab p3.af p3.aa p3.ai (wr .i8 ((wr .i8 (p5.aw+p5.to)).tdiv 2)) p3.ag p3.half p3.full) else (Pos.mk p3.variant p3.ae p3.ab p3.af p3.aa p3.ai (-1) p3.ag p3.half p3.full))) else (bif cW p3.aa (wr .i64 (wr .i8 ((wr .i8 (p5.aw+p5.to)).tdiv 2)))&&&aR (Pos.mk p3.variant p3.ae p3.ab p3.af p3.aa p3.ai (-1) p3.ag p3.half p3.full) (wr .u8 (1 - p3.aa)) 1 != 0#64 then (Pos.mk p3.variant p3.ae p3.ab p3.af p3.aa p3.ai (wr .i8 ((wr .i8 (p5.aw+p5.to)).tdiv 2)) p3.ag p3.half p3.full) else (Pos.mk p3.variant p3.ae p3.ab p3.af p3.aa p3.ai (-1) p3.ag p3.half p3.full)))) else (bif wr .i8 (p5.aw.tdiv 8) != wr .i8 (wr .i8 (7 * wr .i8 p3.aa)+1) then (bif wr .i8 (p5.aw.tdiv 8) != wr .i8 (wr .i8 (7 * wr .i8 p3.aa) - 1) then (Pos.mk p3.variant p3.ae p3.ab p3.af p3.aa p3.ai (-1) p3.ag p3.half p3.full) else (bif cW p3.aa (wr .i64 (wr .i8 ((wr .i8 (p5.aw+p5.to)).tdiv 2)))&&&aR (Pos.mk p3.variant p3.ae p3.ab p3.af p3.aa p3.ai (-1) p3.ag p3.half p3.full) (wr .u8 (1 - p3.aa)) 1 != 0#64 then (Pos.mk p3.variant p3.ae p3.ab p3.af p3.aa p3.ai (wr .i8 ((wr .i8 (p5.aw+p5.to)).tdiv 2)) p3.ag p3.half p3.full) else (Pos.mk p3.variant p3.ae p3.ab p3.af p3.aa p3.ai (-1) p3.ag p3.half p3.full))) else (bif cW p3.aa (wr .i64 (wr .i8 ((wr .i8 (p5.aw+p5.to)).tdiv 2)))&&&aR (Pos.mk p3.variant p3.ae p3.ab p3.af p3.aa p3.ai (-1) p3.ag p3.half p3.full) (wr .u8 (1 - p3.aa)) 1 != 0#64 then (Pos.mk p3.variant p3.ae p3.ab p3.af p3.aa p3.ai (wr .i8 ((wr .i8 (p5.aw+p5.to)).tdiv 2)) p3.ag p3.half p3.full) else (Pos.mk p3.variant p3.ae p3.ab p3.af p3.aa p3.ai (-1) p3.ag p3.half p3.full)))))) else (bif bk (p4.ae.getD (scale 1 p5.aw).toNat 0) != 1 then (Pos.mk p3.variant p3.ae p3.ab p3.af p3.aa p3.ai (-1) p3.ag p3.half p3.full) else (bif p5.aD != 0 then (Pos.mk p3.variant p3.ae p3.ab p3.af p3.aa p3.ai (-1) p3.ag p3.half p3.full) else (bif wr .i8 (p5.to - p5.aw) != 16 then (bif wr .i8 (p5.aw - p5.to) != 16 then (Pos.mk p3.variant p3.ae p3.ab p3.af p3.aa p3.ai (-1) p3.ag p3.half p3.full) else (bif wr .i8 (p5.aw.tdiv 8) != wr .i8 (wr .i8 (7 * wr .i8 p3.aa)+1) then (bif wr .i8 (p5.aw.tdiv 8) != wr .i8 (wr .i8 (7 * wr .i8 p3.aa) - 1) then (Pos.mk p3.variant p3.ae p3.ab p3.af p3.aa p3.ai (-1) p3.ag p3.half p3.full) else (bif cW p3.aa (wr .i64 (wr .i8 ((wr .i8 (p5.aw+p5.to)).tdiv 2)))&&&aR (Pos.mk p3.variant p3.ae p3.ab p3.af p3.aa p3.ai (-1) p3.ag p3.half p3.full) (wr .u8 (1 - p3.aa)) 1 != 0#64 then (Pos.mk p3.variant p3.ae p3.ab p3.af p3.aa p3.ai (wr .i8 ((wr .i8 (p5.aw+p5.to)).tdiv 2)) p3.ag p3.half p3.full) else (Pos.mk p3.variant p3.ae p3.ab p3.af p3.aa p3.ai (-1) p3.ag p3.half p3.full))) else (bif cW p3.aa (wr .i64 (wr .i8 ((wr .i8 (p5.aw+p5.to)).tdiv 2)))&&&aR (Pos.mk p3.variant p3.ae p3.ab p3.af p3.aa p3.ai (-1) p3.ag p3.half p3.full) (wr .u8 (1 - p3.aa)) 1 != 0#64 then (Pos.mk p3.variant p3.ae p3.ab p3.af p3.aa p3.ai (wr .i8 ((wr .i8 (p5.aw+p5.to)).tdiv 2)) p3.ag p3.half p3.full) else (Pos.mk p3.variant p3.ae p3.ab p3.af p3.aa p3.ai (-1) p3.ag p3.half p3.full)))) else (bif wr .i8 (p5.aw.tdiv 8) != wr .i8 (wr .i8 (7 * wr .i8 p3.aa)+1) then (bif wr .i8 (p5.aw.tdiv 8) != wr .i8 (wr .i8 (7 * wr .i8 p3.aa) - 1) then (Pos.mk p3.variant p3.ae p3.ab p3.af p3.aa p3.ai (-1) p3.ag p3.half p3.full) else (bif cW p3.aa (wr .i64 (wr .i8 ((wr .i8 (p5.aw+p5.to)).tdiv 2)))&&&aR (Pos.mk p3.variant p3.ae p3.ab p3.af p3.aa p3.ai (-1) p3.ag p3.half p3.full) (wr .u8 (1 - p3.aa)) 1 != 0#64 then (Pos.mk p3.variant p3.ae p3.ab p3.af p3.aa p3.ai (wr .i8 ((wr .i8 (p5.aw+p5.to)).tdiv 2)) p3.ag p3.half p3.full) else (Pos.mk p3.variant p3.ae p3.ab p3.af p3.aa p3.ai (-1) p3.ag p3.half p3.full))) else (bif cW p3.aa (wr .i64 (wr .i8 ((wr .i8 (p5.aw+p5.to)).tdiv 2)))&&&aR (Pos.mk p3.variant p3.ae p3.ab p3.af p3.aa p3.ai (-1) p3.ag p3.half p3.full) (wr .u8 (1 - p3.aa)) 1 != 0#64 then (Pos.mk p3.variant p3.ae p3.ab p3.af p3.aa p3.ai (wr .i8 ((wr .i8 (p5.aw+p5.to)).tdiv 2)) p3.ag p3.half p3.full) else (Pos.mk p3.variant p3.ae p3.ab p3.af p3.aa p3.ai (-1) p3.ag p3.half p3.full)))))))
def oh (p1:Pos) (p2:Mv) (p3:Pos) (p4:Pos) (p5:Mv) (p6:Int):Bool:=(bif p5.aD != 0 then (bif p5.aD != 1 then true else (bif p5.aD != 0 then true else (bif wr .i8 (p5.to - p5.aw) != 16 then (bif wr .i8 (p5.aw - p5.to) != 16 then true else (bif wr .i8 (p5.aw.tdiv 8) != wr .i8 (wr .i8 (7 * wr .i8 p3.aa)+1) then (bif wr .i8 (p5.aw.tdiv 8) != wr .i8 (wr .i8 (7 * wr .i8 p3.aa) - 1) then true else (iT (p3.aa) (wr .i64 (wr .i8 ((wr .i8 (p5.aw+p5.to)).tdiv 2)))&&(cz (Pos.mk p3.variant p3.ae p3.ab p3.af p3.aa p3.ai (-1) p3.ag p3.half p3.full) (wr .u8 (1 - p3.aa)) (1)&&true))) else (iT (p3.aa) (wr .i64 (wr .i8 ((wr .i8 (p5.aw+p5.to)).tdiv 2)))&&(cz (Pos.mk p3.variant p3.ae p3.ab p3.af p3.aa p3.ai (-1) p3.ag p3.half p3.full) (wr .u8 (1 - p3.aa)) (1)&&true)))) else (bif wr .i8 (p5.aw.tdiv 8) != wr .i8 (wr .i8 (7 * wr .i8 p3.aa)+1) then (bif wr .i8 (p5.aw.tdiv 8) != wr .i8 (wr .i8 (7 * wr .i8 p3.aa) - 1) then true else (iT (p3.aa) (wr .i64 (wr .i8 ((wr .i8 (p5.aw+p5.to)).tdiv 2)))&&(cz (Pos.mk p3.variant p3.ae p3.ab p3.af p3.aa p3.ai (-1) p3.ag p3.half p3.full) (wr .u8 (1 - p3.aa)) (1)&&true))) else (iT (p3.aa) (wr .i64 (wr .i8 ((wr .i8 (p5.aw+p5.to)).tdiv 2)))&&(cz (Pos.mk p3.variant p3.ae p3.ab p3.af p3.aa p3.ai (-1) p3.ag p3.half p3.full) (wr .u8 (1 - p3.aa)) (1)&&true)))))) else (decide (0≤p5.aw)&&decide (p5.aw < Int.ofNat 64)&&(bif bk (p4.ae.getD (scale 1 p5.aw).toNat 0) != 1 then true else (bif p5.aD != 0 then true else (bif wr .i8 (p5.to - p5.aw) != 16 then (bif wr .i8 (p5.aw - p5.to) != 16 then true else (bif wr .i8 (p5.aw.tdiv 8) != wr .i8 (wr .i8 (7 * wr .i8 p3.aa)+1) then (bif wr .i8 (p5.aw.tdiv 8) != wr .i8 (wr .i8 (7 * wr .i8 p3.aa) - 1) then true else (iT (p3.aa) (wr .i64 (wr .i8 ((wr .i8 (p5.aw+p5.to)).tdiv 2)))&&(cz (Pos.mk p3.variant p3.ae p3.ab p3.af p3.aa p3.ai (-1) p3.ag p3.half p3.full) (wr .u8 (1 - p3.aa)) (1)&&true))) else (iT (p3.aa) (wr .i64 (wr .i8 ((wr .i8 (p5.aw+p5.to)).tdiv 2)))&&(cz (Pos.mk p3.variant p3.ae p3.ab p3.af p3.aa p3.ai (-1) p3.ag p3.half p3.full) (wr .u8 (1 - p3.aa)) (1)&&true)))) else (bif wr .i8 (p5.aw.tdiv 8) != wr .i8 (wr .i8 (7 * wr .i8 p3.aa)+1) then (bif wr .i8 (p5.aw.tdiv 8) != wr .i8 (wr .i8 (7 * wr .i8 p3.aa) - 1) then true else (iT (p3.aa) (wr .i64 (wr .i8 ((wr .i8 (p5.aw+p5.to)).tdiv 2)))&&(cz (Pos.mk p3.variant p3.ae p3.ab p3.af p3.aa p3.ai (-1) p3.ag p3.half p3.full) (wr .u8 (1 - p3.aa)) (1)&&true))) else (iT (p3.aa) (wr .i64 (wr .i8 ((wr .i8 (p5.aw+p5.to)).tdiv 2)))&&(cz (Pos.mk p3.variant p3.ae p3.ab p3.af p3.aa p3.ai (-1) p3.ag p3.half p3.full) (wr .u8 (1 - p3.aa)) (1)&&true))))))))
abbrev Uj {α:Type} (k:Pos→Mv→Pos→Pos→Mv→Int→α) (s:St):α:=wP s 0 fun q0=>wP s 3 fun q3=>wM s 1 fun q1=>k q0 q1 q3 (Kz.Pos.mk (tI (tH s 3 10)) (tN (tH s 3 11)) (tU (tH s 3 12)) (tN (tH s 3 13)) (tI (tH s 3 14)) (tN (tH s 3 15)) (tI (tH s 3 16)) (tN (tH s 3 17)) (tI (tH s 3 18)) (tI (tH s 3 19))) (Kz.Mv.mk (tI (tH s 3 20)) (tI (tH s 3 21)) (tI (tH s 3 22)) (tI (tH s 3 23)) (tB (tH s 3 24))) (tI (tH s 3 25))
theorem Tc (p1:Pos) (p2:Mv) (p3:Pos) (p4:Pos) (p5:Mv) (p6:Int) (h:oh p1 p2 p3 p4 p5 p6=true):df Pz 117 (QN p1 p2 p3 p4 p5 p6) (Rj p1 p2 p3 p4 p5 p6) (J5 p1 p2 p3 p4 p5 p6 (dg p1 p2 p3 p4 p5 p6))∧∃ fn,Pz.funcs[117]?=some fn∧fn.body.isSome=true:=jP (n:=14) (O:=J5 p1 p2 p3 p4 p5 p6) Vd (fun o=>match o with | .ret v h=>(let s:St:=⟨[v],h⟩; wP s 3 fun q3=>some q3) | _=>none) (fun _=>rfl) (by kernel_rfl) (by kernel_rfl) (by kernel_rfl) (by kernel_rfl) h
def xU (xs:List AV) (h:Hp):Tr bZ:=Uj (fun p1 p2 p3 p4 p5 p6=>fk xs h (QN p1 p2 p3 p4 p5 p6) (Rj p1 p2 p3 p4 p5 p6) (oh p1 p2 p3 p4 p5 p6) (J5 p1 p2 p3 p4 p5 p6) (dg p1 p2 p3 p4 p5 p6)) ⟨xs,h⟩
theorem xO:iC Pz 117 xU:=fun _ _ _ h=>sQ (Tc _ _ _ _ _ _) h
def S0:ax:=bO Pz J3 [(61,BW),(76,Du),(31,Bx),(112,pF),(191,gL),(175,iI),(183,qI),(184,qQ),(178,nJ),(186,qE),(187,j6),(188,qN),(155,kJ),(190,nz),(192,qK)] [(115,2,oF),(116,7,rM),(116,3,vi)] [(113,ij),(114,jb),(115,lC),(116,uj),(117,xU)]
theorem Mr:aV S0:=ak aj ⟨Dx,E8,D5,qG,gR,jf,sv,tr,pD,sM,kH,sK,ll,pg,sN,trivial⟩ ⟨lu,pZ,tQ,trivial⟩ ⟨gh,gT,kj,rz,xO,trivial⟩
def LK (p1:Pos) (p2:Mv) (p3:Pos) (p4:Pos) (p5:Mv) (p6:Int):List AV:=[AV.ptr 3 0]
def ID (p1:Pos) (p2:Mv) (p3:Pos) (p4:Pos) (p5:Mv) (p6:Int):Hp:=Hp.mk [(pc p1 []),[AV.int .i8 p2.aw,AV.int .i8 p2.to,AV.int .u8 p2.aM,AV.int .u8 p2.aD,AV.bool p2.bq],zpB,(pc p3 (pc p4 [AV.int .i8 p5.aw,AV.int .i8 p5.to,AV.int .u8 p5.aM,AV.int .u8 p5.aD,AV.bool p5.bq,AV.int .i64 p6]))] [] [] 0 0 0
def Cf (p1:Pos) (p2:Mv) (p3:Pos) (p4:Pos) (p5:Mv) (p6:Int) (y:(Pos)):bZ := .ret (.tuple []) (Hp.mk [(pc p1 []),[.int .i8 p2.aw,.int .i8 p2.to,.int .u8 p2.aM,.int .u8 p2.aD,.bool p2.bq],zpB,(pc y (pc p4 [.int .i8 p5.aw,.int .i8 p5.to,.int .u8 p5.aM,.int .u8 p5.aD,.bool p5.bq,.int .i64 p6]))] [] [] 0 0 0)
def cK (p1:Pos) (p2:Mv) (p3:Pos) (p4:Pos) (p5:Mv) (p6:Int):(Pos):=(bif p5.aD != 0 then (bif p5.aD==1 then (bif p3.aa==1 then (Pos.mk p3.variant p3.ae p3.ab p3.af p3.aa p3.ai p3.ah p3.ag 0 (kQ p3.full)) else (Pos.mk p3.variant p3.ae p3.ab p3.af p3.aa p3.ai p3.ah p3.ag 0 p3.full)) else (bif decide (p6 ≥ 0) then (bif p3.aa==1 then (Pos.mk p3.variant p3.ae p3.ab p3.af p3.aa p3.ai p3.ah p3.ag 0 (kQ p3.full)) else (Pos.mk p3.variant p3.ae p3.ab p3.af p3.aa p3.ai p3.ah p3.ag 0 p3.full)) else (bif p3.aa==1 then (Pos.mk p3.variant p3.ae p3.ab p3.af p3.aa p3.ai p3.ah p3.ag (kQ p3.half) (kQ p3.full)) else (Pos.mk p3.variant p3.ae p3.ab p3.af p3.aa p3.ai p3.ah p3.ag (kQ p3.half) p3.full)))) else (bif bk (p4.ae.getD (scale 1 p5.aw).toNat 0)==1 then (bif p3.aa==1 then (Pos.mk p3.variant p3.ae p3.ab p3.af p3.aa p3.ai p3.ah p3.ag 0 (kQ p3.full)) else (Pos.mk p3.variant p3.ae p3.ab p3.af p3.aa p3.ai p3.ah p3.ag 0 p3.full)) else (bif decide (p6 ≥ 0) then (bif p3.aa==1 then (Pos.mk p3.variant p3.ae p3.ab p3.af p3.aa p3.ai p3.ah p3.ag 0 (kQ p3.full)) else (Pos.mk p3.variant p3.ae p3.ab p3.af p3.aa p3.ai p3.ah p3.ag 0 p3.full)) else (bif p3.aa==1 then (Pos.mk p3.variant p3.ae p3.ab p3.af p3.aa p3.ai p3.ah p3.ag (kQ p3.half) (kQ p3.full)) else (Pos.mk p3.variant p3.ae p3.ab p3.af p3.aa p3.ai p3.ah p3.ag (kQ p3.half) p3.full)))))
def lJ (p1:Pos) (p2:Mv) (p3:Pos) (p4:Pos) (p5:Mv) (p6:Int):Bool:=(bif p5.aD != 0 then true else (decide (0≤p5.aw)&&decide (p5.aw < Int.ofNat 64)&&true))
abbrev NQ {α:Type} (k:Pos→Mv→Pos→Pos→Mv→Int→α) (s:St):α:=wP s 0 fun q0=>wP s 3 fun q3=>wM s 1 fun q1=>k q0 q1 q3 (Kz.Pos.mk (tI (tH s 3 10)) (tN (tH s 3 11)) (tU (tH s 3 12)) (tN (tH s 3 13)) (tI (tH s 3 14)) (tN (tH s 3 15)) (tI (tH s 3 16)) (tN (tH s 3 17)) (tI (tH s 3 18)) (tI (tH s 3 19))) (Kz.Mv.mk (tI (tH s 3 20)) (tI (tH s 3 21)) (tI (tH s 3 22)) (tI (tH s 3 23)) (tB (tH s 3 24))) (tI (tH s 3 25))
theorem Ol (p1:Pos) (p2:Mv) (p3:Pos) (p4:Pos) (p5:Mv) (p6:Int) (h:lJ p1 p2 p3 p4 p5 p6=true):df Pz 118 (LK p1 p2 p3 p4 p5 p6) (ID p1 p2 p3 p4 p5 p6) (Cf p1 p2 p3 p4 p5 p6 (cK p1 p2 p3 p4 p5 p6))∧∃ fn,Pz.funcs[118]?=some fn∧fn.body.isSome=true:=jP (n:=14) (O:=Cf p1 p2 p3 p4 p5 p6) Mr (fun o=>match o with | .ret v h=>(let s:St:=⟨[v],h⟩; wP s 3 fun q3=>some q3) | _=>none) (fun _=>rfl) (by kernel_rfl) (by kernel_rfl) (by kernel_rfl) (by kernel_rfl) h
def w9 (xs:List AV) (h:Hp):Tr bZ:=NQ (fun p1 p2 p3 p4 p5 p6=>fk xs h (LK p1 p2 p3 p4 p5 p6) (ID p1 p2 p3 p4 p5 p6) (lJ p1 p2 p3 p4 p5 p6) (Cf p1 p2 p3 p4 p5 p6) (cK p1 p2 p3 p4 p5 p6)) ⟨xs,h⟩
theorem zp:iC Pz 118 w9:=fun _ _ _ h=>sQ (Ol _ _ _ _ _ _) h
def U9:ax:=bO Pz J3 [(61,BW),(76,Du),(31,Bx),(112,pF),(191,gL),(175,iI),(183,qI),(184,qQ),(178,nJ),(186,qE),(187,j6),(188,qN),(155,kJ),(190,nz),(192,qK)] [(115,2,oF),(116,7,rM),(116,3,vi)] [(113,ij),(114,jb),(115,lC),(116,uj),(117,xU),(118,w9)]
theorem N0:aV U9:=ak aj ⟨Dx,E8,D5,qG,gR,jf,sv,tr,pD,sM,kH,sK,ll,pg,sN,trivial⟩ ⟨lu,pZ,tQ,trivial⟩ ⟨gh,gT,kj,rz,xO,zp,trivial⟩
def IN (p1:Pos) (p2:Mv) (p3:Pos) (p4:Pos) (p5:Mv) (p6:Int):List AV:=[AV.ptr 3 0]
def Jx (p1:Pos) (p2:Mv) (p3:Pos) (p4:Pos) (p5:Mv) (p6:Int):Hp:=Hp.mk [(pc p1 []),[AV.int .i8 p2.aw,AV.int .i8 p2.to,AV.int .u8 p2.aM,AV.int .u8 p2.aD,AV.bool p2.bq],zpB,(pc p3 (pc p4 [AV.int .i8 p5.aw,AV.int .i8 p5.to,AV.int .u8 p5.aM,AV.int .u8 p5.aD,AV.bool p5.bq,AV.int .i64 p6]))] [] [] 0 0 0
def Ct (p1:Pos) (p2:Mv) (p3:Pos) (p4:Pos) (p5:Mv) (p6:Int) (y:(Pos)):bZ := .ret (.tuple []) (Hp.mk [(pc p1 []),[.int .i8 p2.aw,.int .i8 p2.to,.int .u8 p2.aM,.int .u8 p2.aD,.bool p2.bq],zpB,(pc y (pc p4 [.int .i8 p5.aw,.int .i8 p5.to,.int .u8 p5.aM,.int .u8 p5.aD,.bool p5.bq,.int .i64 p6]))] [] [] 0 0 0)
def cM (p1:Pos) (p2:Mv) (p3:Pos) (p4:Pos) (p5:Mv) (p6:Int):(Pos):=(bif p3.variant==5 then (bif decide (p3.ag.getD (scale 1 (wr .u8 (1 - wr .u8 (1 - p3.aa)))).toNat 0 < 3) then (bif yf (Pos.mk p3.variant p3.ae p3.ab p3.af (wr .u8 (1 - p3.aa)) p3.ai p3.ah p3.ag p3.half p3.full) (wr .u8 (1 - p3.aa)) then (Pos.mk p3.variant p3.ae p3.ab p3.af (wr .u8 (1 - p3.aa)) p3.ai p3.ah (p3.ag.set (scale 1 (wr .u8 (1 - wr .u8 (1 - p3.aa)))).toNat (wr .u8 (p3.ag.getD (scale 1 (wr .u8 (1 - wr .u8 (1 - p3.aa)))).toNat 0+1))) p3.half p3.full) else (Pos.mk p3.variant p3.ae p3.ab p3.af (wr .u8 (1 - p3.aa)) p3.ai p3.ah p3.ag p3.half p3.full)) else (Pos.mk p3.variant p3.ae p3.ab p3.af (wr .u8 (1 - p3.aa)) p3.ai p3.ah p3.ag p3.half p3.full)) else (Pos.mk p3.variant p3.ae p3.ab p3.af (wr .u8 (1 - p3.aa)) p3.ai p3.ah p3.ag p3.half p3.full))
def lL (p1:Pos) (p2:Mv) (p3:Pos) (p4:Pos) (p5:Mv) (p6:Int):Bool:=(bif p3.variant==5 then (decide (0≤wr .u8 (1 - wr .u8 (1 - p3.aa)))&&decide (wr .u8 (1 - wr .u8 (1 - p3.aa)) < Int.ofNat 2)&&(bif decide (p3.ag.getD (scale 1 (wr .u8 (1 - wr .u8 (1 - p3.aa)))).toNat 0 < 3) then (qO (Pos.mk p3.variant p3.ae p3.ab p3.af (wr .u8 (1 - p3.aa)) p3.ai p3.ah p3.ag p3.half p3.full) (wr .u8 (1 - p3.aa))&&(bif yf (Pos.mk p3.variant p3.ae p3.ab p3.af (wr .u8 (1 - p3.aa)) p3.ai p3.ah p3.ag p3.half p3.full) (wr .u8 (1 - p3.aa)) then (decide (0≤wr .u8 (1 - wr .u8 (1 - p3.aa)))&&decide (wr .u8 (1 - wr .u8 (1 - p3.aa)) < Int.ofNat 2)&&(decide (0≤wr .u8 (1 - wr .u8 (1 - p3.aa)))&&decide (wr .u8 (1 - wr .u8 (1 - p3.aa)) < Int.ofNat 2)&&true)) else true)) else true)) else true)
abbrev MD {α:Type} (k:Pos→Mv→Pos→Pos→Mv→Int→α) (s:St):α:=wP s 0 fun q0=>wP s 3 fun q3=>wM s 1 fun q1=>k q0 q1 q3 (Kz.Pos.mk (tI (tH s 3 10)) (tN (tH s 3 11)) (tU (tH s 3 12)) (tN (tH s 3 13)) (tI (tH s 3 14)) (tN (tH s 3 15)) (tI (tH s 3 16)) (tN (tH s 3 17)) (tI (tH s 3 18)) (tI (tH s 3 19))) (Kz.Mv.mk (tI (tH s 3 20)) (tI (tH s 3 21)) (tI (tH s 3 22)) (tI (tH s 3 23)) (tB (tH s 3 24))) (tI (tH s 3 25))
theorem Oo (p1:Pos) (p2:Mv) (p3:Pos) (p4:Pos) (p5:Mv) (p6:Int) (h:lL p1 p2 p3 p4 p5 p6=true):df Pz 119 (IN p1 p2 p3 p4 p5 p6) (Jx p1 p2 p3 p4 p5 p6) (Ct p1 p2 p3 p4 p5 p6 (cM p1 p2 p3 p4 p5 p6))∧∃ fn,Pz.funcs[119]?=some fn∧fn.body.isSome=true:=jP (n:=14) (O:=Ct p1 p2 p3 p4 p5 p6) N0 (fun o=>match o with | .ret v h=>(let s:St:=⟨[v],h⟩; wP s 3 fun q3=>some q3) | _=>none) (fun _=>rfl) (by kernel_rfl) (by kernel_rfl) (by kernel_rfl) (by kernel_rfl) h
def D9 (xs:List AV) (h:Hp):Tr bZ:=MD (fun p1 p2 p3 p4 p5 p6=>fk xs h (IN p1 p2 p3 p4 p5 p6) (Jx p1 p2 p3 p4 p5 p6) (lL p1 p2 p3 p4 p5 p6) (Ct p1 p2 p3 p4 p5 p6) (cM p1 p2 p3 p4 p5 p6)) ⟨xs,h⟩
theorem Gz:iC Pz 119 D9:=fun _ _ _ h=>sQ (Oo _ _ _ _ _ _) h
def B59:ax:=bO Pz J3 [(61,BW),(76,Du),(31,Bx),(112,pF),(191,gL),(175,iI),(183,qI),(184,qQ),(178,nJ),(186,qE),(187,j6),(188,qN),(155,kJ),(190,nz),(192,qK)] [(115,2,oF),(116,7,rM),(116,3,vi)] [(113,ij),(114,jb),(115,lC),(116,uj),(117,xU),(118,w9),(119,D9)]
theorem agb:aV B59:=ak aj ⟨Dx,E8,D5,qG,gR,jf,sv,tr,pD,sM,kH,sK,ll,pg,sN,trivial⟩ ⟨lu,pZ,tQ,trivial⟩ ⟨gh,gT,kj,rz,xO,zp,Gz,trivial⟩
def jg (a:Pos) (b:Mv):(Pos×Bool):=(bif !DC (cy a) b then (⟨(a.variant),(a.ae),(a.ab),(a.af),(a.aa),(a.ai),(a.ah),(a.ag),(a.half),(a.full)⟩,(false)) else (⟨((cM a b (cK a b (dg a b (cG a b (cC a b (cf a b (bL a b a a b (aA a b)) a b (aA a b)) a b (aA a b)) a b (aA a b)) a b (aA a b)) a b (aA a b)) a b (aA a b)).variant),((cM a b (cK a b (dg a b (cG a b (cC a b (cf a b (bL a b a a b (aA a b)) a b (aA a b)) a b (aA a b)) a b (aA a b)) a b (aA a b)) a b (aA a b)) a b (aA a b)).ae),((cM a b (cK a b (dg a b (cG a b (cC a b (cf a b (bL a b a a b (aA a b)) a b (aA a b)) a b (aA a b)) a b (aA a b)) a b (aA a b)) a b (aA a b)) a b (aA a b)).ab),((cM a b (cK a b (dg a b (cG a b (cC a b (cf a b (bL a b a a b (aA a b)) a b (aA a b)) a b (aA a b)) a b (aA a b)) a b (aA a b)) a b (aA a b)) a b (aA a b)).af),((cM a b (cK a b (dg a b (cG a b (cC a b (cf a b (bL a b a a b (aA a b)) a b (aA a b)) a b (aA a b)) a b (aA a b)) a b (aA a b)) a b (aA a b)) a b (aA a b)).aa),((cM a b (cK a b (dg a b (cG a b (cC a b (cf a b (bL a b a a b (aA a b)) a b (aA a b)) a b (aA a b)) a b (aA a b)) a b (aA a b)) a b (aA a b)) a b (aA a b)).ai),((cM a b (cK a b (dg a b (cG a b (cC a b (cf a b (bL a b a a b (aA a b)) a b (aA a b)) a b (aA a b)) a b (aA a b)) a b (aA a b)) a b (aA a b)) a b (aA a b)).ah),((cM a b (cK a b (dg a b (cG a b (cC a b (cf a b (bL a b a a b (aA a b)) a b (aA a b)) a b (aA a b)) a b (aA a b)) a b (aA a b)) a b (aA a b)) a b (aA a b)).ag),((cM a b (cK a b (dg a b (cG a b (cC a b (cf a b (bL a b a a b (aA a b)) a b (aA a b)) a b (aA a b)) a b (aA a b)) a b (aA a b)) a b (aA a b)) a b (aA a b)).half),((cM a b (cK a b (dg a b (cG a b (cC a b (cf a b (bL a b a a b (aA a b)) a b (aA a b)) a b (aA a b)) a b (aA a b)) a b (aA a b)) a b (aA a b)) a b (aA a b)).full)⟩,(true)))
def Cs (a:Pos) (b:Mv):Bool:=(y8 (a)&&(Cc (cy a) (b)&&(bif !DC (cy a) b then true else (vm (a) (b)&&(oc (a) (b) (a) (a) (b) (aA a b)&&(nS (a) (b) (bL a b a a b (aA a b)) (a) (b) (aA a b)&&(nU (a) (b) (cf a b (bL a b a a b (aA a b)) a b (aA a b)) (a) (b) (aA a b)&&(ny (a) (b) (cC a b (cf a b (bL a b a a b (aA a b)) a b (aA a b)) a b (aA a b)) (a) (b) (aA a b)&&(oh (a) (b) (cG a b (cC a b (cf a b (bL a b a a b (aA a b)) a b (aA a b)) a b (aA a b)) a b (aA a b)) (a) (b) (aA a b)&&(lJ (a) (b) (dg a b (cG a b (cC a b (cf a b (bL a b a a b (aA a b)) a b (aA a b)) a b (aA a b)) a b (aA a b)) a b (aA a b)) (a) (b) (aA a b)&&(lL (a) (b) (cK a b (dg a b (cG a b (cC a b (cf a b (bL a b a a b (aA a b)) a b (aA a b)) a b (aA a b)) a b (aA a b)) a b (aA a b)) a b (aA a b)) (a) (b) (aA a b)&&true)))))))))))
theorem P59 (a:Pos) (b:Mv) (h:Cs a b=true):PS Pz 59 [Pos.av a,Mv.av b] ((d2 aZ dB).res (jg a b)):=pq14 agb h
def G59:GT:=g2 aZ jl (fun a b=>bV (Cs a b) ((d2 aZ dB).res (jg a b)))
theorem s59:Sound Pz 59 G59:=aW fun a b=>az (P59 a b)
end Kz
end
noncomputable section
namespace Kz
open Go
set_option maxRecDepth 100000
theorem B3 {i:Int} (h0:0≤i) (h1:i < 64):(decide (0≤i)&&decide (i < Int.ofNat 64))=true:=by
 rw [Bool.and_eq_true,decide_eq_true_eq,decide_eq_true_eq]
 exact ⟨h0,h1⟩
theorem sq {l:List Int} {a b v:Int} (h:∀ x ∈ l,a≤x∧x≤b) (hv:a≤v∧v≤b) (i:Nat):∀ x ∈ l.set i v,a≤x∧x≤b:=by
 intro x hx
 rcases List.mem_or_eq_of_mem_set hx with h1 | rfl
 ·exact h x h1
 ·exact hv
theorem xi (a b:Int):0≤jW a b∧jW a b≤255:=by
 unfold jW
 exact au (P:=fun x:Int=>0≤x∧x≤255) (fun _=>by decide) fun _=>au (P:=fun x:Int=>0≤x∧x≤255) (fun _=>by decide) fun _=>au (P:=fun x:Int=>0≤x∧x≤255) (fun _=>by decide) fun _=>⟨jH _,lz _⟩
theorem wN {n:Int} (h : -9223372036854775808≤n∧n≤9223372036854775807) : -9223372036854775808≤kQ n∧kQ n≤9223372036854775807:=by
 unfold kQ
 exact au (P:=fun x:Int => -9223372036854775808≤x∧x≤9223372036854775807) (fun _=>h) fun _=>KL _
structure dm (p q:Pos):Prop where
 bW:aG q
 v:q.variant=p.variant
 t:q.aa=p.aa
noncomputable section
variable {p q:Pos}
theorem dm.ae (h:dm p q) {bd:List Int} (hl:bd.length=64) (hb:∀ x ∈ bd,0≤x∧x≤255) (pr:BitVec 64):dm p ⟨q.variant,bd,pr,q.af,q.aa,q.ai,q.ah,q.ag,q.half,q.full⟩ :=
 ⟨⟨h.bW.v0,h.bW.v1,hl,hb,h.bW.kl,h.bW.k0,h.bW.t0,h.bW.t1,h.bW.rl,h.bW.r0,h.bW.p0,h.bW.p1,h.bW.cl,h.bW.c0,h.bW.h0,h.bW.f0⟩,h.v,h.t⟩
theorem dm.set (h:dm p q) (i:Nat) {v:Int} (hv:0≤v∧v≤255):dm p ⟨q.variant,q.ae.set i v,q.ab,q.af,q.aa,q.ai,q.ah,q.ag,q.half,q.full⟩ :=
 h.ae (by rw [List.length_set]; exact h.bW.bl) (sq h.bW.b0 hv i) _
theorem dm.ab (h:dm p q) (pr:BitVec 64):dm p ⟨q.variant,q.ae,pr,q.af,q.aa,q.ai,q.ah,q.ag,q.half,q.full⟩:=h.ae h.bW.bl h.bW.b0 pr
theorem dm.af (h:dm p q) (i:Nat) {v:Int} (hv:0≤v∧v≤255):dm p ⟨q.variant,q.ae,q.ab,q.af.set i v,q.aa,q.ai,q.ah,q.ag,q.half,q.full⟩ :=
 ⟨⟨h.bW.v0,h.bW.v1,h.bW.bl,h.bW.b0,by rw [List.length_set]; exact h.bW.kl,sq h.bW.k0 hv i,h.bW.t0,h.bW.t1,h.bW.rl,h.bW.r0,h.bW.p0,h.bW.p1,h.bW.cl,h.bW.c0,h.bW.h0,h.bW.f0⟩,h.v,h.t⟩
theorem dm.ai (h:dm p q) {rk:List Int} (hl:rk.length=4) (hr:∀ x ∈ rk,-128≤x∧x≤127):dm p ⟨q.variant,q.ae,q.ab,q.af,q.aa,rk,q.ah,q.ag,q.half,q.full⟩ :=
 ⟨⟨h.bW.v0,h.bW.v1,h.bW.bl,h.bW.b0,h.bW.kl,h.bW.k0,h.bW.t0,h.bW.t1,hl,hr,h.bW.p0,h.bW.p1,h.bW.cl,h.bW.c0,h.bW.h0,h.bW.f0⟩,h.v,h.t⟩
theorem dm.adn (h:dm p q) (i:Nat):dm p ⟨q.variant,q.ae,q.ab,q.af,q.aa,q.ai.set i (-1),q.ah,q.ag,q.half,q.full⟩ :=
 h.ai (by rw [List.length_set]; exact h.bW.rl) (sq h.bW.r0 (by omega) i)
theorem dm.ah (h:dm p q) {s:Int} (hs : -128≤s∧s≤127):dm p ⟨q.variant,q.ae,q.ab,q.af,q.aa,q.ai,s,q.ag,q.half,q.full⟩ :=
 ⟨⟨h.bW.v0,h.bW.v1,h.bW.bl,h.bW.b0,h.bW.kl,h.bW.k0,h.bW.t0,h.bW.t1,h.bW.rl,h.bW.r0,hs.1,hs.2,h.bW.cl,h.bW.c0,h.bW.h0,h.bW.f0⟩,h.v,h.t⟩
theorem dm.xQ (h:dm p q) {a b:Int} (ha : -9223372036854775808≤a∧a≤9223372036854775807) (hb : -9223372036854775808≤b∧b≤9223372036854775807):dm p ⟨q.variant,q.ae,q.ab,q.af,q.aa,q.ai,q.ah,q.ag,a,b⟩ :=
 ⟨⟨h.bW.v0,h.bW.v1,h.bW.bl,h.bW.b0,h.bW.kl,h.bW.k0,h.bW.t0,h.bW.t1,h.bW.rl,h.bW.r0,h.bW.p0,h.bW.p1,h.bW.cl,h.bW.c0,ha,hb⟩,h.v,h.t⟩
theorem Jv (h:dm p q) (b c:Int):dm p (jj q b c).1:=by
 unfold jj
 refine au (P:=fun x:Pos×Bool=>dm p x.1) (fun _=>h) fun _=>au (P:=fun x:Pos×Bool=>dm p x.1) (fun _=>h) fun _ => ?_
 exact h.af _ ⟨jH _,lz _⟩
theorem AH (h:dm p q) (b c:Int):dm p (bp q b c):=by
 unfold bp
 refine au (P:=fun x:Pos=>dm p x) (fun _=>au (P:=fun x:Pos=>dm p x) (fun _ => ?_) fun _=>h) fun _=>h
 exact h.af _ ⟨jH _,lz _⟩
end
noncomputable section
variable {p:Pos} (hp:aG p) (m:Mv)
include hp
theorem ei (i:Nat):0≤p.ae.getD i 0∧p.ae.getD i 0≤255:=fB hp.b0 (by omega) i
theorem CF (a:Pos) (b:Mv) (c:Int):dm p (bL a b p p m c):=by
 have h:dm p p:=⟨hp,rfl,rfl⟩
 have z:(0:Int)≤0∧(0:Int)≤255:=by omega
 have bi:=ei hp
 unfold bL
 refine au (P:=fun x:Pos=>dm p x) (fun _=>((((h.set _ z).set _ z).set _ (bi _)).set _ (bi _))) fun _=>au (P:=fun x:Pos=>dm p x) (fun _=>(Jv h _ _).set _ (xi _ _)) fun _=>au (P:=fun x:Pos=>dm p x) (fun _=>au (P:=fun x:Pos=>dm p x) (fun _=>(((h.set _ z).set _ z).set _ (bi _)).set _ (xi _ _)) fun _=>((h.set _ z).set _ z).set _ (bi _)) fun _=>au (P:=fun x:Pos=>dm p x) (fun _=>((h.set _ z).set _ (bi _)).set _ (xi _ _)) fun _=>(h.set _ z).set _ (bi _)
omit hp in
theorem CB {q:Pos} (h:dm p q) (a:Pos) (b:Mv) (c:Int):dm p (cf a b q p m c):=by
 unfold cf
 repeat' (first | exact h | exact h.ab _ | exact AH h _ _ | exact (AH h _ _).ab _ | refine au (P:=fun x:Pos=>dm p x) (fun _ => ?_) (fun _ => ?_))
omit hp in
theorem B6 (l:List Int) (hl:l.length≤64) (hin:∀ s ∈ l,0≤s∧s < 64) {q:Pos} (h:dm p q) (a b:Pos) (c d:Mv) (e:Int):∃ r,pb l (Int.ofNat l.length) a c b d e (0,q)=some r∧dm p r.2.2:=by
 refine ba (I:=fun x=>0≤x.1∧x.1≤(l.length:Int)∧dm p x.2) (μ:=fun x=>((l.length:Int) - x.1).toNat) ?_ _ ⟨by simp,by simp,h⟩ (by simp; omega)
 rintro ⟨n,o⟩ ⟨h0,h1,h2⟩
 simp only at h0 h1 h2
 by_cases hc:n < l.length
 ·have hf:=hin _ (ct (d:=default) (show n.toNat < l.length by omega))
  refine ⟨aq (fun _=>ao (by simp [h0]; omega) fun _=>ao (B3 hf.1 hf.2) fun _=>rfl) fun _=>rfl,au (fun _ => ?_) fun h=>absurd h (by simpa using hc)⟩
  rw [aI (n:=n+1) (by omega) (by omega)]
  exact ⟨⟨by simp; omega,by simp; omega,h2.set _ (by omega)⟩,by simp; omega⟩
 ·exact ⟨aq (fun h=>absurd h (by simpa using hc)) fun _=>rfl,au (fun h=>absurd h (by simpa using hc)) fun _=>h2⟩
omit hp in
theorem Dv {q:Pos} (h:dm p q) (a:Pos) (b:Mv) (c:Int):nU a b q p m c=true∧dm p (cC a b q p m c):=by
 have hl:=aN (B6 (p:=p) (jk (pR q (wr .i64 m.to)) 64) (eU _ _) (fun _ h=>lM h) h a p b m c)
 constructor
 ·unfold nU
  refine aq (fun _=>rfl) fun _=>aq (fun _=>rfl) fun _=>ao (t188 _ _) fun _=>ao (t187 _) fun _=>ao ?_ fun _=>rfl
  rw [dw]; exact hl.1
 ·unfold cC
  refine au (P:=fun x:Pos=>dm p x) (fun _=>h) fun _=>au (P:=fun x:Pos=>dm p x) (fun _=>h) fun _ => ?_
  rw [dw]; exact hl.2
omit hp in
theorem ui {c k:Int} (hc0:0≤c) (hc1:c≤1) (l:List Int) (hl:∀ s ∈ l,-128≤s∧s≤127) {q:Pos} (h:dm p q) (a b:Pos) (m1 m2:Mv) (e:Int):∃ r,lS c k l a m1 b m2 e (0,q)=some r∧dm p r.2.2:=by
 refine ba (I:=fun x=>0≤x.1∧x.1≤2∧dm p x.2) (μ:=fun x=>(2 - x.1).toNat) ?_ _ ⟨by simp,by simp,h⟩ (by simp)
 rintro ⟨n,o⟩ ⟨h0,h1,h2⟩
 simp only at h0 h1 h2
 by_cases hc:n < 2
 ·have hs:=fB hl (d:=0) (by omega) n.toNat
  have go1:rR (fun x:Int×Pos=>0≤x.1∧x.1≤2∧dm p x.2) (fun r:Int×Bool×Pos=>dm p r.2.2) (fun x=>(2 - x.1).toNat) (2 - n).toNat (.go (wr .i64 (n+1),o)):=by
   rw [aI (n:=n+1) (by omega) (by omega)]
   exact ⟨⟨by simp; omega,by simp; omega,h2⟩,by simp; omega⟩
  have go2:∀ i,rR (fun x:Int×Pos=>0≤x.1∧x.1≤2∧dm p x.2) (fun r:Int×Bool×Pos=>dm p r.2.2) (fun x=>(2 - x.1).toNat) (2 - n).toNat (.go (wr .i64 (n+1),⟨o.variant,o.ae,o.ab,o.af,o.aa,o.ai.set i (-1),o.ah,o.ag,o.half,o.full⟩)):=by
   intro i
   rw [aI (n:=n+1) (by omega) (by omega)]
   exact ⟨⟨by simp; omega,by simp; omega,h2.adn i⟩,by simp; omega⟩
  have w1:wr .i64 c=c:=aI (by omega) (by omega)
  have w2:wr .i64 (56 * c)=56 * c:=aI (by omega) (by omega)
  have w3:wr .i64 (l.getD n.toNat 0)=l.getD n.toNat 0:=aI (by omega) (by omega)
  have w4:wr .i64 (56 * c+l.getD n.toNat 0)=56 * c+l.getD n.toNat 0:=aI (by omega) (by omega)
  have k1:(decide (0≤c)&&decide (c < Int.ofNat 2))=true:=by simp; omega
  have k2:(decide (0≤n)&&decide (n < Int.ofNat 2))=true:=by simp; omega
  refine ⟨aq (fun _=>ao k2 fun _=>aq (fun _=>rfl) fun g0=>aq (fun _=>rfl) fun g1 => ?_) fun _=>rfl,au (fun _ => ?_) fun h=>absurd h (by simpa using hc)⟩
  ·rw [w1,w2,w3,w4]
   have g0:0≤l.getD n.toNat 0:=by simpa using g0
   have g1:l.getD n.toNat 0≤7:=by simpa using g1
   have k3:(decide (0≤56 * c+l.getD n.toNat 0)&&decide (56 * c+l.getD n.toNat 0 < Int.ofNat 64))=true:=B3 (by omega) (by omega)
   repeat' (first | with_reducible rfl | with_reducible exact k1 | with_reducible exact k2 | with_reducible exact k3 | refine ao ?_ (fun _ => ?_) | refine aq (fun _ => ?_) (fun _ => ?_))
  ·repeat' (first | exact go1 | exact go2 _ | refine au (fun _ => ?_) (fun _ => ?_))
 ·exact ⟨aq (fun h=>absurd h (by simpa using hc)) fun _=>rfl,au (fun h=>absurd h (by simpa using hc)) fun _=>h2⟩
omit hp in
theorem fO {q:Pos} (h:dm p q) (a b:Pos) (m1 m2:Mv) (e:Int):∃ r,dC a m1 b m2 e (0,q)=some r∧dm p r.2.2:=by
 refine ba (I:=fun x=>0≤x.1∧x.1≤2∧dm p x.2) (μ:=fun x=>(2 - x.1).toNat) ?_ _ ⟨by simp,by simp,h⟩ (by simp)
 rintro ⟨n,o⟩ ⟨h0,h1,h2⟩
 simp only at h0 h1 h2
 by_cases hc:n≤1
 ·have hr:∀ s ∈ List.take 2 (List.drop (scale 2 n).toNat o.ai),-128≤s∧s≤127:=fun s hs=>h2.bW.r0 s (List.mem_of_mem_drop (List.mem_of_mem_take hs))
  have hl:=aN (ui (p:=p) (k:=bb o n 6) h0 hc _ hr h2 a b m1 m2 e)
  refine ⟨aq (fun _=>ao (t155 _ _ _) fun _=>ao (by simp; omega) fun _=>ao hl.1 fun _=>rfl) fun _=>rfl,au (fun _ => ?_) fun h=>absurd h (by simpa using hc)⟩
  rw [oZ (n:=n+1) (by omega) (by omega)]
  exact ⟨⟨by simp; omega,by simp; omega,hl.2⟩,by simp; omega⟩
 ·exact ⟨aq (fun h=>absurd h (by simpa using hc)) fun _=>rfl,au (fun h=>absurd h (by simpa using hc)) fun _=>h2⟩
theorem D0 (ht:p.aa≤1) {q:Pos} (h:dm p q) (hm:m.aD=0→0≤m.aw∧m.aw < 64) (a:Pos) (b:Mv) (c:Int):ny a b q p m c=true∧dm p (cG a b q p m c):=by
 have t0:=hp.t0
 have h2:dm p ⟨q.variant,q.ae,q.ab,q.af,q.aa,List.take (scale 2 q.aa).toNat q.ai++li [-1,-1]++List.drop ((scale 2 q.aa).toNat+2) q.ai,q.ah,q.ag,q.half,q.full⟩:=by
  refine h.ai ?_ ?_
  ·have hr:=h.bW.rl
   have:(scale 2 q.aa).toNat≤2:=by rw [h.t]; unfold scale; simp; omega
   simp [li,hr]
   omega
  ·intro x hx
   simp only [List.mem_append,li] at hx
   rcases hx with (hx | hx) | hx
   ·exact h.bW.r0 x (List.mem_of_mem_take hx)
   ·simp at hx; omega
   ·exact h.bW.r0 x (List.mem_of_mem_drop hx)
 have a1:=aN (fO h a p b m c)
 have a2:=aN (fO h2 a p b m c)
 have k1:(decide (0≤q.aa)&&decide (q.aa < Int.ofNat 2))=true:=by rw [h.t]; simp; omega
 constructor
 ·unfold ny
  refine aq (fun _ => ?_) fun hd=>ao ?_ fun _ => ?_
  ·repeat' (first | with_reducible rfl | with_reducible exact k1 | with_reducible exact a1.1 | with_reducible exact a2.1 | refine ao ?_ (fun _ => ?_) | refine aq (fun _ => ?_) (fun _ => ?_))
  ·have:=hm (by simpa using hd)
   simp; omega
  ·repeat' (first | with_reducible rfl | with_reducible exact k1 | with_reducible exact a1.1 | with_reducible exact a2.1 | refine ao ?_ (fun _ => ?_) | refine aq (fun _ => ?_) (fun _ => ?_))
 ·unfold cG
  repeat' (first | exact a1.2 | exact a2.2 | refine au (P:=fun x:Pos=>dm p x) (fun _ => ?_) (fun _ => ?_))
omit hp in
theorem Di {q:Pos} (h:dm p q) (hm:m.aD=0→0≤m.aw∧m.aw < 64) (a:Pos) (b:Mv) (c:Int):oh a b q p m c=true∧dm p (dg a b q p m c):=by
 constructor
 ·unfold oh
  refine aq (fun _ => ?_) fun hd=>ao ?_ fun _ => ?_
  ·repeat' (first | with_reducible rfl | with_reducible exact t190 _ _ | with_reducible exact t191 _ _ _ | refine ao ?_ (fun _ => ?_) | refine aq (fun _ => ?_) (fun _ => ?_))
  ·have:=hm (by simpa using hd)
   simp; omega
  ·repeat' (first | with_reducible rfl | with_reducible exact t190 _ _ | with_reducible exact t191 _ _ _ | refine ao ?_ (fun _ => ?_) | refine aq (fun _ => ?_) (fun _ => ?_))
 ·have n1:(-128:Int) ≤ -1∧(-1:Int)≤127:=by omega
  unfold dg
  repeat' (first | exact h.ah n1 | exact h.ah (Mq _) | refine au (P:=fun x:Pos=>dm p x) (fun _ => ?_) (fun _ => ?_))
omit hp in
theorem FR {q:Pos} (h:dm p q) (hm:m.aD=0→0≤m.aw∧m.aw < 64) (a:Pos) (b:Mv) (c:Int):lJ a b q p m c=true∧dm p (cK a b q p m c):=by
 constructor
 ·unfold lJ
  refine aq (fun _=>rfl) fun hd=>ao ?_ fun _=>rfl
  have:=hm (by simpa using hd)
  simp; omega
 ·have z:(-9223372036854775808:Int)≤0∧(0:Int)≤9223372036854775807:=by omega
  have f1:=h.bW.f0
  have f2:=wN h.bW.f0
  have f3:=wN h.bW.h0
  unfold cK
  repeat' (first | exact h.xQ z f1 | exact h.xQ z f2 | exact h.xQ f3 f1 | exact h.xQ f3 f2 | refine au (P:=fun x:Pos=>dm p x) (fun _ => ?_) (fun _ => ?_))
theorem TD (ht:p.aa≤1) {q:Pos} (h:dm p q) (a:Pos) (b:Mv) (c:Int):lL a b q p m c=true∧aG (cM a b q p m c)∧(cM a b q p m c).variant=p.variant∧(cM a b q p m c).aa=1 - p.aa:=by
 have t0:=hp.t0
 have w1:wr .u8 (1 - p.aa)=1 - p.aa:=oZ (by omega) (by omega)
 have w2:wr .u8 (1 - (1 - p.aa))=p.aa:=by rw [oZ (by omega) (by omega)]; omega
 have k1:(decide (0≤p.aa)&&decide (p.aa < Int.ofNat 2))=true:=by simp; omega
 have hq:aG ⟨q.variant,q.ae,q.ab,q.af,1 - p.aa,q.ai,q.ah,q.ag,q.half,q.full⟩ :=
  ⟨h.bW.v0,h.bW.v1,h.bW.bl,h.bW.b0,h.bW.kl,h.bW.k0,by show 0≤1 - p.aa; omega,by show 1 - p.aa≤255; omega,h.bW.rl,h.bW.r0,h.bW.p0,h.bW.p1,h.bW.cl,h.bW.c0,h.bW.h0,h.bW.f0⟩
 constructor
 ·unfold lL
  rw [h.t,w1,w2]
  refine aq (fun _=>ao k1 fun _=>aq (fun _=>ao (t61 h.bW.v0 (by omega)) fun _=>aq (fun _=>ao k1 fun _=>ao k1 fun _=>rfl) fun _=>rfl) fun _=>rfl) fun _=>rfl
 ·unfold cM
  rw [h.t,w1,w2]
  have base:aG ⟨q.variant,q.ae,q.ab,q.af,1 - p.aa,q.ai,q.ah,q.ag,q.half,q.full⟩∧q.variant=p.variant∧(1 - p.aa=1 - p.aa):=⟨hq,h.v,rfl⟩
  refine au (P:=fun x:Pos=>aG x∧x.variant=p.variant∧x.aa=1 - p.aa) (fun _=>au (P:=fun x:Pos=>aG x∧x.variant=p.variant∧x.aa=1 - p.aa) (fun _=>au (P:=fun x:Pos=>aG x∧x.variant=p.variant∧x.aa=1 - p.aa) (fun _ => ?_) fun _=>base) fun _=>base) fun _=>base
  exact ⟨⟨hq.v0,hq.v1,hq.bl,hq.b0,hq.kl,hq.k0,hq.t0,hq.t1,hq.rl,hq.r0,hq.p0,hq.p1,by rw [List.length_set]; exact hq.cl,sq hq.c0 ⟨jH _,lz _⟩ _,hq.h0,hq.f0⟩,h.v,rfl⟩
end
theorem iN {p:Pos} (hp:aG p) {m:Mv} (h:m ∈ cy p):there p∧0≤m.aw∧m.aw < 64∧0≤m.to∧m.to < 64∧0≤m.aD∧m.aD≤5∧0≤m.aM∧m.aM≤6:=by
 rw [nj] at h
 have n110:∀ v:Int,9≤v→uQ v=false:=fun v hv=>by
  unfold uQ
  rw [show decide (v ≥ 9)=true by simpa using hv]; rfl
 have n113:∀ v:Int,9≤v→qP v=false:=fun v hv=>by
  unfold qP
  rw [show decide (v ≥ 9)=true by simpa using hv]; rfl
 simp only [List.mem_append] at h
 rcases h with (h | h) | h
 ·obtain ⟨th,f,t,h1,h2,h3,h4,h5,h6,h7,h8,_⟩:=gp hp.v0 h
  exact ⟨th,by omega,by omega,by omega,by omega,by omega,by omega,h7,h8⟩
 ·obtain ⟨h1,h2,h3,h4,h5,h6,h7,h8⟩:=td hp h
  refine ⟨⟨h1,?_⟩,h2,h3,h4,h5,by omega,by omega,by omega,by omega⟩
  refine Classical.byContradiction fun hv => ?_
  unfold dZ at h
  rw [n110 _ (by omega)] at h
  rw [show decide (p.aa > 1)=false by simp; omega] at h
  cases h
 ·obtain ⟨h1,h2,h3,h4,h5,h6,h7,h8,h9⟩:=kN hp.t0 h
  refine ⟨⟨h1,?_⟩,by omega,by omega,h4,h5,by omega,h8,by omega,by omega⟩
  refine Classical.byContradiction fun hv => ?_
  rw [n113 _ (by omega)] at h2
  cases h2
theorem lN {p:Pos} (hp:aG p) (m:Mv):Cs p m=true∧(m ∈ cy p→(jg p m).2=true∧aG (jg p m).1∧(jg p m).1.variant=p.variant∧(jg p m).1.aa=1 - p.aa)∧(m ∉ cy p→jg p m=(p,false)):=by
 have hlen:=mc hp
 have hc:DC (cy p) m=decide (m ∈ cy p):=lf (by omega)
 by_cases hm:m ∈ cy p
 ·obtain ⟨th,f0,f1,g0,g1,d0,d1,r0,r1⟩:=iN hp hm
  have hmf:m.aD=0→0≤m.aw∧m.aw < 64:=fun _=>⟨f0,f1⟩
  have hn:=xE hp m
  have h1:=CF hp m p m (aA p m)
  have h2:=CB m h1 p m (aA p m)
  have h4:=Dv m h2 p m (aA p m)
  have h8:=D0 hp m th.1 h4.2 hmf p m (aA p m)
  have h9:=Di m h8.2 hmf p m (aA p m)
  have h10:=FR m h9.2 hmf p m (aA p m)
  have h11:=TD hp m th.1 h10.2 p m (aA p m)
  have kf:(decide (0≤m.aw)&&decide (m.aw < Int.ofNat 64))=true:=by simp; omega
  have kt:(decide (0≤m.to)&&decide (m.to < Int.ofNat 64))=true:=by simp; omega
  have kn:aA p m ≥ 0→(decide (0≤aA p m)&&decide (aA p m < Int.ofNat 64))=true:=fun h=>by simp; omega
  have hg:=Dc hp.t0 th.1 m
  have ok1:oc p m p p m (aA p m)=true:=by
   unfold oc
   have kg1:(decide (0≤(fV p m).1)&&decide ((fV p m).1 < Int.ofNat 64))=true:=by simp; omega
   have kg2:(decide (0≤(fV p m).2.1)&&decide ((fV p m).2.1 < Int.ofNat 64))=true:=by simp; omega
   refine aq (fun _ => ?_) fun _=>aq (fun _ => ?_) fun _=>aq (fun hh => ?_) fun _ => ?_
   ·repeat' (first | with_reducible rfl | with_reducible exact t183 _ _ | with_reducible exact kf | with_reducible exact kt | with_reducible exact kg1 | with_reducible exact kg2 | refine ao ?_ (fun _ => ?_))
   ·refine ao (t184 hp.t0 d0) fun _=>ao kt fun _=>rfl
   ·have hh:aA p m ≥ 0:=by simpa using hh
    have kn:=kn hh
    repeat' (first | with_reducible rfl | with_reducible exact kn | with_reducible exact kf | with_reducible exact kt | refine ao ?_ (fun _ => ?_) | refine aq (fun _ => ?_) (fun _ => ?_))
   ·repeat' (first | with_reducible rfl | with_reducible exact kf | with_reducible exact kt | refine ao ?_ (fun _ => ?_) | refine aq (fun _ => ?_) (fun _ => ?_))
  have ok2:nS p m (bL p m p p m (aA p m)) p m (aA p m)=true:=by
   have e:0≤(bL p m p p m (aA p m)).aa:=h1.bW.t0
   have bi:=fun i=>(ei hp i).1
   unfold nS
   refine aq (fun _=>rfl) fun _=>aq (fun _=>rfl) fun _=>aq (fun _=>ao (t183 _ _) fun _=>rfl) fun _=>aq (fun hh => ?_) fun _=>rfl
   have hh:aA p m ≥ 0:=by simpa using hh
   have kn:=kn hh
   repeat' (first | with_reducible rfl | with_reducible exact kn | with_reducible exact t186 e (by decide) | with_reducible exact t186 e (Nb (bi _)) | refine ao ?_ (fun _ => ?_) | refine aq (fun _ => ?_) (fun _ => ?_))
  refine ⟨?_,fun _ => ?_,fun h=>absurd hm h⟩
  ·unfold Cs
   exact ao (t76 hp) fun _=>ao (t31 (by omega)) fun _=>aq (fun _=>rfl) fun _=>ao (t112 hp.v0 m) fun _=>ao ok1 fun _=>ao ok2 fun _=>ao h4.1 fun _=>ao h8.1 fun _=>ao h9.1 fun _=>ao h10.1 fun _=>ao h11.1 fun _=>rfl
  ·unfold jg
   rw [hc]
   simp only [hm,decide_true,Bool.not_true,cond_false]
   exact ⟨trivial,h11.2⟩
 ·refine ⟨?_,fun h=>absurd h hm,fun _ => ?_⟩
  ·unfold Cs
   refine ao (t76 hp) fun _=>ao (t31 (by omega)) fun _=>aq (fun _=>rfl) fun h => ?_
   rw [hc] at h
   simp [hm] at h
  ·unfold jg
   rw [hc]
   simp [hm]
end Kz
end
noncomputable section
namespace Kz
open Go Go.RowKit Go.Proofs
set_option maxRecDepth 100000
set_option maxHeartbeats 4000000
def K69:KT:=[]
def B69:ax:=bO Pz K69 [] [] []
theorem ac9:aV B69:=ak aj trivial trivial trivial
def V57:AV:=AV.agg [AV.nilfunc,AV.nilfunc,AV.nilfunc,AV.func 148 [] [],AV.func 152 [] [],AV.func 149 [] [],AV.func 150 [] [],AV.func 151 [] [],AV.func 153 [] []]
def aif:Bool:=true
theorem E69:dn B69 14 69 []=Tr.ret V57:=by kernel_rfl
theorem P69 (_:aif=true):PS Pz 69 [] V57:=qh ac9 (by rw [E69]; rfl)
def G69:GT:=g0 (.ret V57)
theorem s69:Sound Pz 69 G69:=Lk (b7 (P69 rfl))
def K71:KT:=[(71,9,[(0,[1,2]),(1,[4])])]
def B71:ax:=bO Pz K71 [(155,kJ)] [] []
theorem aiH:aV B71:=ak aj ⟨ll,trivial⟩ trivial trivial
def FK (a:Pos) (b:Int):Bool:=(decide (bb a b 6 ≥ 0))
def BI (a:Pos) (b:Int):Bool:=(iX (a) (b) (6)&&true)
theorem P71 (a:Pos) (b:Int) (h:BI a b=true):PS Pz 71 [Pos.av a,.int .u8 b] (dB.res (FK a b)):=pq14 aiH h
def Wi:GT:=g2 aZ (dI .u8) (fun a b=>bV (BI a b) (dB.res (FK a b)))
theorem s71:Sound Pz 71 Wi:=aW fun a b=>az (P71 a b)
def afP:KT:=[(222,9,[(0,[0,1,4]),(1,[4])])]
def agv:ax:=bO Pz afP [] [] []
theorem Wl:aV agv:=ak aj trivial trivial trivial
def da (a:Int) (b:Int):(Int×Int):=⟨(wr .u8 (1+a)),(b)⟩
def Xz (a:Int) (b:Int):Bool:=true
theorem aep (a:Int) (b:Int) (h:Xz a b=true):PS Pz 222 [.int .u8 a,.int .u8 b] ((dR .u8 .u8).res (da a b)):=pq14 Wl h
def ym:GT:=g2 (dI .u8) (dI .u8) (fun a b=>.ret ((dR .u8 .u8).res (da a b)))
theorem A5:Sound Pz 222 ym:=aW fun a b=>b7 (aep a b rfl)
def ajK:KT:=[(148,13,[(0,[1,2]),(1,[1,2,7]),(2,[2]),(3,[2])])]
def agQ:ax:=bO Pz ajK [(71,Wi),(222,ym)] [] []
theorem aaO:aV agQ:=ak aj ⟨s71,A5,trivial⟩ trivial trivial
def I4 (a:Pos):(Int×Int):=(bif !FK a a.aa then ⟨((da (wr .u8 (1 - a.aa)) 6).1),((da (wr .u8 (1 - a.aa)) 6).2)⟩ else ⟨(0),(0)⟩)
def Ed (a:Pos):Bool:=(BI (a) (a.aa)&&true)
theorem aeC (a:Pos) (h:Ed a=true):PS Pz 148 [Pos.av a] ((dR .u8 .u8).res (I4 a)):=pq14 aaO h
def Wy:GT:=g1 aZ (fun a=>bV (Ed a) ((dR .u8 .u8).res (I4 a)))
theorem ad0:Sound Pz 148 Wy:=aH fun a=>az (aeC a)
def ahY:KT:=[(149,6,[(0,[1,2]),(1,[2])]),(223,28,[(0,[1,2,3,6]),(1,[1,2,6,14,15,16]),(2,(1::2::6::(rn 14 4 []))),(3,[1,2,6,8,14,15,16]),(4,[1,2,6,8,14,15,16,22]),(5,[6]),(6,[1,2,6,14,15,16]),(7,[6])]),(224,9,[(0,[0,1]),(1,[3])])]
def aeG:ax:=bO Pz ahY [(222,ym)] [] []
theorem aaL:aV aeG:=ak aj ⟨A5,trivial⟩ trivial trivial
def Jr (a:Pos):(Int×Int):=(bif decide (a.ag.getD (scale 1 (wr .u8 (1 - a.aa))).toNat 0 ≥ 3) then ⟨((da (wr .u8 (1 - a.aa)) 7).1),((da (wr .u8 (1 - a.aa)) 7).2)⟩ else (bif decide (a.ag.getD (scale 1 a.aa).toNat 0 ≥ 3) then ⟨((da a.aa 7).1),((da a.aa 7).2)⟩ else ⟨(0),(0)⟩))
def Ae (a:Pos):Bool:=(decide (0≤wr .u8 (1 - a.aa))&&decide (wr .u8 (1 - a.aa) < ↑2)&&(bif decide (a.ag.getD (scale 1 (wr .u8 (1 - a.aa))).toNat 0 ≥ 3) then true else (decide (0≤a.aa)&&decide (a.aa < ↑2)&&true)))
theorem abY (a:Pos) (h:Ae a=true):PS Pz 149 [Pos.av a] ((dR .u8 .u8).res (Jr a)):=pq14 aaL h
def Xa:GT:=g1 aZ (fun a=>bV (Ae a) ((dR .u8 .u8).res (Jr a)))
theorem aiP:Sound Pz 149 Xa:=aH fun a=>az (abY a)
def agd:KT:=[(150,6,[(0,[1,2]),(1,[2])]),(223,28,[(0,[1,2,3,6]),(1,[1,2,6,14,15,16]),(2,(1::2::6::(rn 14 4 []))),(3,[1,2,6,8,14,15,16]),(4,[1,2,6,8,14,15,16,22]),(5,[6]),(6,[1,2,6,14,15,16]),(7,[6])]),(225,17,[(0,(0::1::(rn 11 5 []))),(1,(4::(rn 11 5 []))),(2,[3])])]
def aiX:ax:=bO Pz agd [(155,kJ),(222,ym)] [] []
theorem WC:aV aiX:=ak aj ⟨ll,A5,trivial⟩ trivial trivial
def Iv (a:Pos):(Int×Int):=(bif decide (bb a (wr .u8 (1 - a.aa)) 6 ≥ 0) then (bif iR BinOp.and .i64 (Int.fdiv 103481868288 (2 ^ min (BitVec.ofInt 64 (bb a (wr .u8 (1 - a.aa)) 6)).toNat 64)) 1==1 then ⟨((da (wr .u8 (1 - a.aa)) 6).1),((da (wr .u8 (1 - a.aa)) 6).2)⟩ else (bif decide (bb a a.aa 6 ≥ 0) then (bif iR BinOp.and .i64 (Int.fdiv 103481868288 (2 ^ min (BitVec.ofInt 64 (bb a a.aa 6)).toNat 64)) 1==1 then ⟨((da a.aa 6).1),((da a.aa 6).2)⟩ else ⟨(0),(0)⟩) else ⟨(0),(0)⟩)) else (bif decide (bb a a.aa 6 ≥ 0) then (bif iR BinOp.and .i64 (Int.fdiv 103481868288 (2 ^ min (BitVec.ofInt 64 (bb a a.aa 6)).toNat 64)) 1==1 then ⟨((da a.aa 6).1),((da a.aa 6).2)⟩ else ⟨(0),(0)⟩) else ⟨(0),(0)⟩))
def zS (a:Pos):Bool:=(iX (a) (wr .u8 (1 - a.aa)) (6)&&(bif decide (bb a (wr .u8 (1 - a.aa)) 6 ≥ 0) then (bif iR BinOp.and .i64 (Int.fdiv 103481868288 (2 ^ min (BitVec.ofInt 64 (bb a (wr .u8 (1 - a.aa)) 6)).toNat 64)) 1==1 then true else (iX (a) (a.aa) (6)&&true)) else (iX (a) (a.aa) (6)&&true)))
theorem aiG (a:Pos) (h:zS a=true):PS Pz 150 [Pos.av a] ((dR .u8 .u8).res (Iv a)):=pq14 WC h
def ZL:GT:=g1 aZ (fun a=>bV (zS a) ((dR .u8 .u8).res (Iv a)))
theorem afq:Sound Pz 150 ZL:=aH fun a=>az (aiG a)
def ahO:KT:=[(151,8,[(0,[1,2]),(1,[2,5]),(2,[2]),(3,[2])])]
def afD:ax:=bO Pz ahO [(191,gL),(222,ym)] [] []
theorem Zi:aV afD:=ak aj ⟨gR,A5,trivial⟩ trivial trivial
def HO (a:Pos):(Int×Int):=(bif aR (Pos.mk a.variant a.ae a.ab a.af a.aa a.ai a.ah a.ag a.half a.full) 0 0==0#64 then ⟨((da 1 8).1),((da 1 8).2)⟩ else ⟨(0),(0)⟩)
def Db (a:Pos):Bool:=(cz (Pos.mk a.variant a.ae a.ab a.af a.aa a.ai a.ah a.ag a.half a.full) (0) (0)&&true)
theorem acd (a:Pos) (h:Db a=true):PS Pz 151 [Pos.av a] ((dR .u8 .u8).res (HO a)):=pq14 Zi h
def abb:GT:=g1 aZ (fun a=>bV (Db a) ((dR .u8 .u8).res (HO a)))
theorem afX:Sound Pz 151 abb:=aH fun a=>az (acd a)
def afu:KT:=[(152,24,[(0,[1,2]),(1,[1,2,10,11,12]),(2,(1::2::(rn 10 4 []))),(3,[1,2,4,10,11,12]),(4,[1,2,4,10,11,12,19]),(5,[2]),(6,[1,2,10,11,12]),(7,[2])])]
def agc:ax:=bO Pz afu [(191,gL),(222,ym)] [] []
theorem YZ:aV agc:=ak aj ⟨gR,A5,trivial⟩ trivial trivial
def Lj (a:Pos):(Int×Int):=(bif aR (Pos.mk a.variant a.ae a.ab a.af a.aa a.ai a.ah a.ag a.half a.full) a.aa 0==0#64 then ⟨((da a.aa 8).1),((da a.aa 8).2)⟩ else (bif aR (Pos.mk a.variant a.ae a.ab a.af a.aa a.ai a.ah a.ag a.half a.full) (wr .u8 (1 - a.aa)) 0==0#64 then ⟨((da (wr .u8 (1 - a.aa)) 8).1),((da (wr .u8 (1 - a.aa)) 8).2)⟩ else ⟨(0),(0)⟩))
def zR (a:Pos):Bool:=(cz (Pos.mk a.variant a.ae a.ab a.af a.aa a.ai a.ah a.ag a.half a.full) (a.aa) (0)&&(bif aR (Pos.mk a.variant a.ae a.ab a.af a.aa a.ai a.ah a.ag a.half a.full) a.aa 0==0#64 then true else (cz (Pos.mk a.variant a.ae a.ab a.af a.aa a.ai a.ah a.ag a.half a.full) (wr .u8 (1 - a.aa)) (0)&&true)))
theorem ace (a:Pos) (h:zR a=true):PS Pz 152 [Pos.av a] ((dR .u8 .u8).res (Lj a)):=pq14 YZ h
def XJ:GT:=g1 aZ (fun a=>bV (zR a) ((dR .u8 .u8).res (Lj a)))
theorem ae6:Sound Pz 152 XJ:=aH fun a=>az (ace a)
def K78:KT:=[(78,52,[(0,(2::3::(rn 30 10 (rn 45 6 [])))),(1,(2::5::6::(rn 30 10 (rn 45 6 [])))),(2,(2::5::14::(rn 30 10 (rn 45 6 [])))),(3,[4]),(4,(2::5::19::(rn 30 10 (rn 45 6 [])))),(5,(2::5::24::(rn 30 10 (rn 45 6 [])))),(6,[4]),(7,(2::5::40::(rn 45 6 []))),(8,[4]),(9,[4])])]
def B78:ax:=bO Pz K78 [(59,G59),(70,G70),(61,BW),(71,Wi)] [] []
theorem aiS:aV B78:=ak aj ⟨s59,s70,Dx,s71,trivial⟩ trivial trivial
def jL (a:Pos) (b:Mv):Bool:=(bif !(jg a b).2 then (false) else (bif yg a.variant a.aa then (bif !FK (jg a b).1 a.aa then (false) else (bif yf (jg a b).1 a.aa then (bif a.variant != 3 then (false) else (bif FK (jg a b).1 (wr .u8 (1 - a.aa)) then (false) else (bif a.variant != 8 then (true) else (!yf (jg a b).1 (wr .u8 (1 - a.aa)))))) else (bif a.variant != 8 then (true) else (!yf (jg a b).1 (wr .u8 (1 - a.aa)))))) else (bif a.variant != 8 then (true) else (!yf (jg a b).1 (wr .u8 (1 - a.aa))))))
def zD (a:Pos) (b:Mv):Bool:=(Cs (a) (b)&&(bif !(jg a b).2 then true else (xS (a.variant) (a.aa)&&(bif yg a.variant a.aa then (BI ((jg a b).1) (a.aa)&&(bif !FK (jg a b).1 a.aa then true else (qO ((jg a b).1) (a.aa)&&(bif yf (jg a b).1 a.aa then (bif a.variant != 3 then true else (BI ((jg a b).1) (wr .u8 (1 - a.aa))&&(bif FK (jg a b).1 (wr .u8 (1 - a.aa)) then true else (bif a.variant != 8 then true else (qO ((jg a b).1) (wr .u8 (1 - a.aa))&&true))))) else (bif a.variant != 8 then true else (qO ((jg a b).1) (wr .u8 (1 - a.aa))&&true)))))) else (bif a.variant != 8 then true else (qO ((jg a b).1) (wr .u8 (1 - a.aa))&&true))))))
theorem P78 (a:Pos) (b:Mv) (h:zD a b=true):PS Pz 78 [Pos.av a,Mv.av b] (dB.res (jL a b)):=pq14 aiS h
def G78:GT:=g2 aZ jl (fun a b=>bV (zD a b) (dB.res (jL a b)))
theorem s78:Sound Pz 78 G78:=aW fun a b=>az (P78 a b)
end Kz
end
noncomputable section
namespace Go.Proofs
open Go.Shelf Go.RowKit Go.Lib Go.Sort
def dO (m:Kz.Mv):List Value:=[.int .i8 m.aw,.int .i8 m.to,.int .u8 m.aM,.int .u8 m.aD,.bool m.bq]
theorem gC (m:Kz.Mv):(dO m).length=5:=rfl
structure fQ (w:World) (db cap:Nat) (ty:TypeId) (dk:Array Kz.Mv) (W:World):Prop where
 os:W.os=w.os
 tape:W.tape=w.tape
 output:W.output=w.output
 size:w.heap.size≤W.heap.size
 other:∀ k,k < w.heap.size→k≠db→W.heap[k]?=w.heap[k]?
 row:∃ cur,W.heap[db]?=some (.cells cur ty (0,0))∧cur.size=cap * 5∧∀ j c,j < dk.size→c < 5→cur[j * 5+c]?=(dO dk[j]!)[c]?
theorem fQ.below {w W W':World} {db cap:Nat} {ty:TypeId} {dk:Array Kz.Mv} (h:fQ w db cap ty dk W) (hb:db < w.heap.size) (b:Below W.heap.size W W'):fQ w db cap ty dk W' :=
 ⟨b.os.trans h.os,b.tape.trans h.tape,b.output.trans h.output,Nat.le_trans h.size b.size,fun k hk hn=>by rw [b.block k (Nat.lt_of_lt_of_le hk h.size)]; exact h.other k hk hn,by
  obtain ⟨cur,h1,h2⟩:=h.row
  exact ⟨cur,by rw [b.block db (Nat.lt_of_lt_of_le hb h.size)]; exact h1,h2⟩⟩
theorem fQ.setCells {w W:World} {db cap:Nat} {ty:TypeId} {dk dk':Array Kz.Mv} (h:fQ w db cap ty dk W) (vs:List Value) (o:Nat)
  (hd:∀ j c,j < dk'.size→c < 5→j < dk.size∧(if o≤j * 5+c∧j * 5+c < o+vs.length then vs[j * 5+c - o]? else (dO dk[j]!)[c]?)=(dO dk'[j]!)[c]?) (hlen:o+vs.length≤cap * 5):fQ w db cap ty dk' (W.setCells db o vs):=by
 obtain ⟨cur,h1,h2,h3⟩:=h.row
 have hb:=Kz.aU h1
 have key:∀ (vs:List Value) (o:Nat) (W:World) (cur:Array Value),W.heap[db]?=some (.cells cur ty (0,0))→o+vs.length≤cur.size →
   ∃ cur',W.setCells db o vs=Kz.bu W db (.cells cur' ty (0,0))∧cur'.size=cur.size∧∀ t,t < cur.size→cur'[t]?=if o≤t∧t < o+vs.length then vs[t - o]? else cur[t]? := by
  intro vs
  induction vs with
  | nil =>
   intro o W cur hW _
   refine ⟨cur,?_,rfl,fun t _=>by rw [if_neg (by simp)]⟩
   rw [World.setCells]
   simp only [Kz.bu]
   have:W.heap.setIfInBounds db (.cells cur ty (0,0))=W.heap:=by
    apply Array.ext_getElem?
    intro i
    rw [Array.getElem?_setIfInBounds]
    split
    ·rename_i e; subst e; split
     ·exact hW.symm
     ·rename_i h'; simp [Array.getElem?_eq_none (by omega:W.heap.size≤db)]
    ·rfl
   rw [this]
  | cons v vs ih =>
   intro o W cur hW hl
   simp only [List.length_cons] at hl
   have e1:W.setCell ⟨db,o,none⟩ v=Kz.bu W db (.cells (cur.setIfInBounds o v) ty (0,0)):=Kz.iz hW v
   obtain ⟨cur',a1,a2,a3⟩:=ih (o+1) (Kz.bu W db (.cells (cur.setIfInBounds o v) ty (0,0))) (cur.setIfInBounds o v) (Kz.cu hW) (by simp; omega)
   refine ⟨cur',?_,by rw [a2]; simp,fun t ht => ?_⟩
   ·rw [World.setCells,e1,a1]
    simp [Kz.bu]
   ·rw [a3 t (by simpa using ht)]
    by_cases h1:o+1≤t∧t < o+1+vs.length
    ·rw [if_pos h1,if_pos ⟨by omega,by simp; omega⟩]
     obtain ⟨u,rfl⟩:∃ u,t=o+1+u:=⟨t - (o+1),by omega⟩
     rw [show o+1+u - (o+1)=u by omega,show o+1+u - o=u+1 by omega]
     simp
    ·rw [if_neg h1,Array.getElem?_setIfInBounds]
     by_cases h2:o=t
     ·subst h2
      rw [if_pos rfl,if_pos (by omega),if_pos ⟨Nat.le_refl _,by simp⟩]
      simp
     ·rw [if_neg h2,if_neg (by simp; omega)]
 obtain ⟨cur',a1,a2,a3⟩:=key vs o W cur h1 (by omega)
 rw [a1]
 refine ⟨h.os,h.tape,h.output,by rw [Kz.cY]; exact h.size,fun k hk hn=>by rw [Kz.aO hn]; exact h.other k hk hn,cur',Kz.cu h1,by rw [a2,h2],fun j c hj hc => ?_⟩
 obtain ⟨hj',he⟩:=hd j c hj hc
 have hlt:j * 5+c < cur.size:=by
  rcases Nat.lt_or_ge (j * 5+c) cur.size with h' | h'
  ·exact h'
  ·have:=h3 j c hj' hc
   rw [Array.getElem?_eq_none h',List.getElem?_eq_getElem (by rw [gC]; exact hc)] at this
   cases this
 rw [a3 _ hlt,h3 j c hj' hc]
 exact he
theorem fQ.put {w W:World} {db cap:Nat} {ty:TypeId} {dk:Array Kz.Mv} (h:fQ w db cap ty dk W) {i:Nat} (hi:i < dk.size) (hc:dk.size≤cap) (u:Kz.Mv):fQ w db cap ty (dk.setIfInBounds i u) (W.setCells db (i * 5) (dO u)):=by
 refine h.setCells (dO u) (i * 5) (fun j c hj hc => ?_) (by rw [gC]; have:=Nat.mul_le_mul_right 5 (show i+1≤cap by omega); omega)
 have hj':j < dk.size:=by simpa using hj
 refine ⟨hj',?_⟩
 rw [gC]
 by_cases e:i=j
 ·subst e
  rw [if_pos ⟨by omega,by omega⟩,show i * 5+c - i * 5=c by omega,getElem!_pos (dk.setIfInBounds i u) i hj]
  simp
 ·rw [if_neg (by omega),getElem!_pos (dk.setIfInBounds i u) j hj,getElem!_pos dk j hj',Array.getElem_setIfInBounds_ne _ e]
theorem fQ.tail {w W:World} {db cap:Nat} {ty:TypeId} {dk:Array Kz.Mv} (h:fQ w db cap ty dk W) {i n:Nat} (hn:i+n≤cap) (hi:i≤dk.size) (vs:List Value) (hl:vs.length=n * 5):fQ w db cap ty (dk.toList.take i).toArray (W.setCells db (i * 5) vs):=by
 refine h.setCells vs (i * 5) (fun j c hj hc => ?_) (by rw [hl,← Nat.add_mul]; exact Nat.mul_le_mul_right 5 hn)
 have hj':j < i:=by simp at hj; omega
 refine ⟨by omega,?_⟩
 rw [if_neg (by omega)]
 congr 2
 rw [getElem!_pos dk j (show j < dk.size by omega),getElem!_pos (dk.toList.take i).toArray j hj]
 simp
theorem fQ.same {w W:World} {db cap:Nat} {ty:TypeId} {dk:Array Kz.Mv} (h:fQ w db cap ty dk W) {i:Nat} (hi:i≤dk.size):fQ w db cap ty (dk.toList.take i).toArray W:=by
 obtain ⟨cur,h1,h2,h3⟩:=h.row
 refine ⟨h.os,h.tape,h.output,h.size,h.other,cur,h1,h2,fun j c hj hc => ?_⟩
 have hj':j < i:=by simp at hj; omega
 rw [h3 j c (by omega) hc]
 congr 2
 rw [getElem!_pos dk j (show j < dk.size by omega),getElem!_pos (dk.toList.take i).toArray j hj]
 simp
def kz:Array Value := #[Value.int IntKind.i8 0,Value.int IntKind.i8 0,Value.int IntKind.u8 0,Value.int IntKind.u8 0,Value.bool false]
theorem Fw (n:Nat):∀ v ∈ (Builtin.zeroCells kz n).toList,v.oneCell'=true:=by
 intro v hv
 simp only [Builtin.zeroCells,Array.toList_map,List.mem_map] at hv
 obtain ⟨i,_,rfl⟩:=hv
 have:i % kz.size < 5:=Nat.mod_lt _ (by decide)
 generalize i % kz.size=t at this
 match t,this with
 | 0,_ | 1,_ | 2,_ | 3,_ | 4,_=>rfl
 | t+5,h=>omega
theorem pX (n:Nat):(Builtin.zeroCells kz n).toList.length=n * 5:=by simp [Builtin.zeroCells,kz]
theorem BD (W:World) (b o n c:Nat) (hn:0 < n) (hc:∀ t,t < n * 5→(W.cell? ⟨b,o+t,none⟩).isSome=true) (hf:∀ t,t < n * 5→W.frozen? ⟨b,o+t,none⟩=false) (ty:TypeId) :
  (Builtin.clear_ #[32] ty #[.slice (some ⟨b,o,none⟩) n c]).run Tryz.prog W=.ok (.tuple #[]) (W.setCells b o (Builtin.zeroCells kz n).toList):=by
 have hst:=run_storeCells_cells (P:=Tryz.prog) b o (Builtin.zeroCells kz n).toList 0 W (by rw [pX]; simpa using hc) (by rw [pX]; simpa using hf) (Fw n)
 simp only [Nat.add_zero] at hst
 obtain ⟨m,rfl⟩:∃ m,n=m+1:=⟨n - 1,by omega⟩
 have hz:(Value.agg kz).cells=kz:=rfl
 have hv:∀ w,(zeroValue 38).run Tryz.prog w=.ok (.agg kz) w:=Tryz.zeroValue38
 simp only [kz] at hst hz hv
 simp [Builtin.clear_,run_underlying Tryz.underlying32,hv,hz,hst]
 rfl
theorem fQ.cell {w W:World} {db cap:Nat} {ty:TypeId} {dk:Array Kz.Mv} (h:fQ w db cap ty dk W) {j:Nat} (hj:j < dk.size) (c:Nat) (hc:c < 5):W.cell? ⟨db,j * 5+c,none⟩=some ((dO dk[j]!)[c]'hc)∧W.frozen? ⟨db,j * 5+c,none⟩=false:=by
 obtain ⟨cur,h1,h2,h3⟩:=h.row
 refine ⟨?_,Kz.fZ h1⟩
 rw [Kz.bf h1,h3 j c hj hc]
 exact List.getElem?_eq_getElem _
theorem fQ.load {w W:World} {db cap:Nat} {ty:TypeId} {dk:Array Kz.Mv} (h:fQ w db cap ty dk W) {j:Nat} (hj:j < dk.size):Sem.run Tryz.prog (loadCellsFrom ⟨db,0+j * 5,none⟩ 0 5 #[]) W=.ok (dO dk[j]!).toArray W :=
 run_loadCellsFrom_list Tryz.prog _ _ (dO dk[j]!) 5 rfl (fun c v hc=>by
  have hc5:c < 5:=(List.getElem?_eq_some_iff.1 hc).1
  obtain ⟨cur,h1,h2,h3⟩:=h.row
  rw [Addr.add_lit]
  rw [Kz.bf h1,Nat.zero_add,h3 j c hj hc5]
  exact hc)
set_option maxHeartbeats 1000000 in
set_option maxRecDepth 100000 in
theorem afW (p:Kz.Mv→Bool) (g:Nat) (lb:Array Value) (eg:∀ args w,(callFunc g args).run Tryz.prog w=.ok (.enter g args) w) (db cap:Nat) (d:Array Kz.Mv) (w:World) (hb:db < w.heap.size) (hH:fQ w db cap 38 d w) (hcap:d.size≤cap) (hmax:cap≤maxLen)
  (hpo:∀ W dk x,fQ w db cap 38 dk W→Calls Tryz.prog g (#[.agg (dO x).toArray]++lb) W fun e w'=>e=.returned (.bool (p x))∧RowKit.Below W.heap.size W w') :
  Calls Tryz.prog 73 #[.slice (some ⟨db,0,none⟩) d.size cap,.func (.func g) #[] lb] w fun e w'=>e=.returned (.slice (some ⟨db,0,none⟩) (d.toList.filter fun x => !p x).length cap)∧fQ w db cap 38 (d.toList.filter fun x => !p x).toArray w':=by
 have hsz:d.size≤9223372036854775807:=by unfold maxLen at hmax; omega
 have e6:∀ args w,(callFunc 156 args).run Tryz.prog w=.ok (.enter 156 args) w:=fun args w=>by rfl
 have hp:PredBelow Tryz.prog g lb (fun x=>.agg (dO x).toArray) p w:=fun W x hB=>(hpo W d x (hH.below hb hB)).mono fun e w' ⟨h1,h2⟩=>⟨h1,hB.trans (h2.mono hB.size)⟩
 have hIF:=AnyQ.slices_IndexFunc Tryz.afA 5 Tryz.isAgg38 Tryz.sizeOf38 dO gC p g lb eg db 0 d.size cap d.toList w hp (by simp) hsz hb (fun j hj i v hi=>by
  have hi5:i < 5:=(List.getElem?_eq_some_iff.1 hi).1
  have hj':j < d.size:=by simpa using hj
  obtain ⟨cur,h1,h2,h3⟩:=hH.row
  rw [Kz.bf h1,Nat.zero_add,h3 j i hj' hi5]
  rw [← hi,getElem!_pos d j hj',getElem!_pos d.toList j hj]
  simp)
 rw [show d.toList.take d.size=d.toList from List.take_of_length_le (by simp)] at hIF
 have tl:∀ j,j < d.size→d.toList[j]! = d[j]! := fun j hj=>by rw [getElem!_pos d j hj,getElem!_pos d.toList j (by simpa using hj)]; simp
 obtain ⟨kp,HK⟩:∃ kp:Nat→Bool,Hid (kp=fun j => !p d[j]!):=⟨_,rfl⟩
 have hfil:(d.toList.filter fun x => !p x)=keptUpTo kp d d.size:=by rw [HK.out]; exact (keptUpTo_filter (fun x => !p x) d).symm
 rw [hfil]
 rcases idxByFrom_spec (fun _ y=>p y) default d.toList 0 with ⟨e1,hall⟩ | ⟨k0,hk0,e1,ht,hall⟩
 ·
  have e2:Lib.idxBy (fun _ y=>p y) d.toList default = -1:=e1
  rw [e2] at hIF
  have hkeep:∀ j,j < d.size→kp j=true:=fun j hj=>by rw [HK.out]; show (!p d[j]!)=true; rw [← tl j hj,hall j (by simpa using hj)]; rfl
  have e3:keptUpTo kp d d.size=d.toList:=by rw [keptUpTo_all kp d _ hkeep,range_map_get]
  have HH:Aside (fQ w db cap 38 d w):=hH
  have HB:Hid (db < w.heap.size):=hb
  clear hH hpo hp hb
  go_enter Tryz.func73,Tryz.ntmps73
  go_wp2_with (go_at_fn 156; refine hIF.mono ?_; rintro e w' ⟨rfl,hbl⟩)
  go_ret
  rw [e3]
  exact ⟨by simp,by simpa using HH.out.below HB.out hbl⟩
 ·have hk0':k0 < d.size:=by simpa using hk0
  have e2:Lib.idxBy (fun _ y=>p y) d.toList default=(k0:Int):=by unfold Lib.idxBy; rw [e1]; simp
  rw [e2] at hIF
  have hkeep:∀ j,j < k0→kp j=true:=fun j hj=>by rw [HK.out]; show (!p d[j]!)=true; rw [← tl j (by omega),hall j hj]; rfl
  have hdrop:kp k0=false:=by rw [HK.out]; show (!p d[k0]!)=false; rw [← tl k0 hk0']; rw [show p d.toList[k0]! = true from ht]; rfl
  have hne1:((k0:Int) == -1)=false:=beq_eq_false_iff_ne.2 (by omega)
  have HC:Aside _:=hpo
  have HH:Aside (fQ w db cap 38 d w):=hH
  have HB:Hid (db < w.heap.size):=hb
  clear hpo hp hH hb hall ht e1 e2 tl
  go_enter Tryz.func73,Tryz.ntmps73
  go_wp2_with (go_at_fn 156; refine hIF.mono ?_; rintro e w' ⟨rfl,hbl⟩)
  have HBL:=Lib.hid hbl
  clear hbl
  go_loopg [5,6,7] d.size (fun gg s5 s6 _ wr => ∃ (i j:Nat) (dk:Array Kz.Mv),s5=.int .i64 i∧s6=.int .i64 j∧j≤d.size∧d.size - j≤gg∧Aside (fQ w db cap 38 dk wr)∧Aside (KeptInv kp d j i dk))
  case atStart=>exact ⟨k0,k0+1,d,rfl,by go_num,by omega,by omega,HH.out.below HB.out HBL.out,KeptInv.start hkeep hdrop⟩
  case round =>
   obtain ⟨i,j,dk,rfl,rfl,hjd,hgg,W2,I2⟩:=hrel
   have hI:=I2.out
   have hij:=hI.lt
   have hds:=hI.size
   by_cases hlt:j < d.size
   ·have hltz:(j:Int) < (d.size:Int):=by omega
    have c0:=(W2.out.cell (j:=j) (by omega) 0 (by omega)).1
    have c1:=(W2.out.cell (j:=j) (by omega) 1 (by omega)).1
    have c2:=(W2.out.cell (j:=j) (by omega) 2 (by omega)).1
    have c3:=(W2.out.cell (j:=j) (by omega) 3 (by omega)).1
    have c4:=(W2.out.cell (j:=j) (by omega) 4 (by omega)).1
    simp only [hI.high j (by omega),dO,List.getElem_cons_succ,List.getElem_cons_zero,Nat.add_zero] at c0 c1 c2 c3 c4
    clear hI
    generalize hu:d[j]! = u at c0 c1 c2 c3 c4
    have C:Aside (d[j]! = u):=hu
    clear hu
    have hW1:fQ w db cap 38 dk (wr.alloc (Obj.cells #[Value.int IntKind.i8 u.aw,Value.int IntKind.i8 u.to,Value.int IntKind.u8 u.aM,Value.int IntKind.u8 u.aD,Value.bool u.bq] 38)) :=
     W2.out.below HB.out ((Below.refl _ _).alloc (Nat.le_refl _) _)
    have hcall:Calls Tryz.prog g (#[Value.agg #[Value.int IntKind.i8 u.aw,Value.int IntKind.i8 u.to,Value.int IntKind.u8 u.aM,Value.int IntKind.u8 u.aD,Value.bool u.bq]]++lb) _ _:=HC.out _ dk u hW1
    have HW1:=Lib.hid hW1
    clear hW1
    cases hq:p u with
    | false =>
     rw [hq] at hcall
     have HCALL:=Lib.hid hcall
     clear hcall
     go_wp2_with fail
     refine HCALL.out.mono ?_
     rintro e w2 ⟨rfl,hb2⟩
     have hW2:=HW1.out.below HB.out hb2
     have r0:=hW2.cell (j:=i) (by omega) 0 (by omega)
     have r1:=hW2.cell (j:=i) (by omega) 1 (by omega)
     have r2:=hW2.cell (j:=i) (by omega) 2 (by omega)
     have r3:=hW2.cell (j:=i) (by omega) 3 (by omega)
     have r4:=hW2.cell (j:=i) (by omega) 4 (by omega)
     simp only [Nat.add_zero] at r0
     obtain ⟨r0,f0⟩:=r0
     obtain ⟨r1,f1⟩:=r1
     obtain ⟨r2,f2⟩:=r2
     obtain ⟨r3,f3⟩:=r3
     obtain ⟨r4,f4⟩:=r4
     have hcs:∀ c,w2.cell? ⟨wr.heap.size,c,none⟩=(#[Value.int IntKind.i8 u.aw,Value.int IntKind.i8 u.to,Value.int IntKind.u8 u.aM,Value.int IntKind.u8 u.aD,Value.bool u.bq]:Array Value)[c]? := fun c=>by
      rw [hb2.cell (p:=⟨wr.heap.size,c,none⟩) (by simp),Kz.bf (heap_alloc_new wr _)]
     have b0:=hcs 0
     have b1:=hcs 1
     have b2:=hcs 2
     have b3:=hcs 3
     have b4:=hcs 4
     simp at b0 b1 b2 b3 b4
     have HW2:=Lib.hid hW2
     clear hcs hb2 hW2
     go_wp2_with fail
     go_roundg (d.size - (j+1))
     case measure=>omega
     case rel =>
      refine ⟨i+1,j+1,dk.setIfInBounds i u,by go_num,by go_num,by omega,Nat.le_refl _,HW2.out.put (i:=i) (by omega) (by omega) u,(show Aside _ from ?_)⟩
      have:=I2.out.keep hlt (by rw [HK.out]; show (!p d[j]!)=true; rw [C.out,hq]; rfl)
      rwa [C.out] at this
    | true =>
     rw [hq] at hcall
     have HCALL:=Lib.hid hcall
     clear hcall
     go_wp2_with fail
     refine HCALL.out.mono ?_
     rintro e w2 ⟨rfl,hb2⟩
     have HW2:=Lib.hid (HW1.out.below HB.out hb2)
     clear hb2
     go_wp2_with fail
     go_roundg (d.size - (j+1))
     case measure=>omega
     case rel=>exact ⟨i,j+1,dk,rfl,by go_num,by omega,Nat.le_refl _,HW2.out,I2.out.skip (by rw [HK.out]; show (!p d[j]!)=false; rw [C.out,hq]; rfl)⟩
   ·obtain rfl:j=d.size:=by omega
    have hltz:¬ (d.size:Int) < (d.size:Int):=by omega
    have hcl:∀ ty,(Builtin.clear_ #[32] ty #[.slice (some ⟨db,i * 5,none⟩) (d.size - i) (cap - i)]).run Tryz.prog wr=.ok (.tuple #[]) (wr.setCells db (i * 5) (Builtin.zeroCells kz (d.size - i)).toList):=by
     obtain ⟨cur,h1,h2,h3⟩:=W2.out.row
     refine BD wr db (i * 5) (d.size - i) (cap - i) (by omega) (fun t ht => ?_) (fun t ht=>Kz.fZ h1)
     rw [Kz.bf h1]
     have:d.size * 5≤cap * 5:=Nat.mul_le_mul_right 5 hcap
     have h5:(d.size - i) * 5=d.size * 5 - i * 5:=Nat.sub_mul _ _ _
     rw [Array.getElem?_eq_getElem (by omega)]
     rfl
    have hid:i≤d.size:=by omega
    clear hI
    go_wp2
    go_ret
    have hI:=I2.out
    refine ⟨by rw [hI.len]; rfl,?_⟩
    have:=W2.out.tail (i:=i) (n:=d.size - i) (by omega) (by omega) _ (pX (d.size - i))
    have e:keptUpTo kp d d.size=dk.toList.take i:=by
     have hsz':=hI.size
     apply List.ext_getElem?
     intro j
     by_cases hj:j < i
     ·rw [hI.low j hj,List.getElem?_take_of_lt hj,getElem!_pos dk j (by omega),List.getElem?_eq_getElem (by simp; omega)]
      simp
     ·rw [List.getElem?_eq_none (by rw [hI.len]; omega),List.getElem?_eq_none (by simp; omega)]
    rw [e]
    exact this
end Go.Proofs
end
noncomputable section
namespace Go.Proofs
open Go.Shelf Go.RowKit Go.Lib Go.Sort Kz
theorem Mf {w W:World} (hsz:w.heap.size≤W.heap.size) (old:∀ k,k < w.heap.size→W.heap[k]?=w.heap[k]?) {p:Nat×IntKind×Option (List Int)} (h:mU (eP w) w p):mU (eP W) W p :=
 ⟨fun hi=>let ⟨d,x,t,fr,e,f⟩:=h.1 hi
  ⟨Nat.lt_of_lt_of_le d hsz,x,t,fr,by rw [old _ d]; exact e,f⟩,
 fun hi=>let ⟨zs,a,b,c,d,t,fr,e⟩:=h.2 hi
  ⟨zs,a,b,fun j x hj=>⟨by rw [di (old _ d)]; exact (c j x hj).1,Nat.lt_of_lt_of_le d hsz⟩,Nat.lt_of_lt_of_le d hsz,t,fr,by rw [old _ d]; exact e⟩⟩
theorem Ki {g:Gh} {tk:List Nat} {w:World} {m:Mv} {cs:List Value} (h:ay g tk w (bB (Mv.av m)) cs):cs=dO m:=by
 change ay g tk w [.int .i8 m.aw,.int .i8 m.to,.int .u8 m.aM,.int .u8 m.aD,.bool m.bq] cs at h
 obtain ⟨x1,r1,rfl,q1,h⟩:=h.inv_one rfl
 obtain ⟨x2,r2,rfl,q2,h⟩:=h.inv_one rfl
 obtain ⟨x3,r3,rfl,q3,h⟩:=h.inv_one rfl
 obtain ⟨x4,r4,rfl,q4,h⟩:=h.inv_one rfl
 obtain ⟨x5,r5,rfl,q5,h⟩:=h.inv_one rfl
 obtain rfl:=h.cQ
 cases q1; cases q2; cases q3; cases q4; cases q5
 rfl
theorem AY (g:Gh) (tk:List Nat) (w:World) (m:Mv):ay g tk w (bB (Mv.av m)) (dO m) :=
 .one rfl (.int _ _) (.one rfl (.int _ _) (.one rfl (.int _ _) (.one rfl (.int _ _) (.one rfl (.bool _) .nil))))
theorem jA {g:Gh} {tk:List Nat} {w:World}:∀ {l:List Mv} {cs:List Value},bx g tk w (l.map (enc .mv)) cs→cs=l.flatMap dO
 | [],_,h=>by cases h; rfl
 | m::l,_,h=>by
  cases h with
  | cons hs hx h hr=>rw [hx,Ki h,jA hr]; rfl
theorem ra (g:Gh) (tk:List Nat) (w:World):∀ l:List Mv,bx g tk w (l.map (enc .mv)) (l.flatMap dO)
 | []=>.nil
 | m::l=>.cons rfl rfl (AY g tk w m) (ra g tk w l)
theorem nZ (l:List Mv):(l.flatMap dO).length=l.length * 5:=by
 induction l with
 | nil=>rfl
 | cons m l ih=>simp only [List.flatMap_cons,List.length_append,gC,ih,List.length_cons]; omega
theorem ov:∀ (l:List Mv) (j c:Nat),j < l.length→c < 5→(l.flatMap dO)[j * 5+c]?=(dO l[j]!)[c]?
 | [],_,_,h,_=>absurd h (Nat.not_lt_zero _)
 | m::l,0,c,_,hc=>by
  simp only [List.flatMap_cons]
  rw [List.getElem?_append_left (by rw [gC]; omega)]
  simp
 | m::l,j+1,c,h,hc=>by
  simp only [List.flatMap_cons]
  rw [List.getElem?_append_right (by rw [gC]; omega),gC,show (j+1) * 5+c - 5=j * 5+c by omega,ov l j c (by simpa using h) hc]
  simp
theorem Jm (m:Mv):∀ u ∈ dO m,u.oneCell'=true:=by
 intro u hu
 simp only [dO,List.mem_cons,List.not_mem_nil,or_false] at hu
 rcases hu with rfl | rfl | rfl | rfl | rfl <;> rfl
theorem KV (l:List Mv):∀ u ∈ l.flatMap dO,u.oneCell'=true:=by
 intro u hu
 obtain ⟨m,_,h⟩:=List.mem_flatMap.1 hu
 exact Jm m u h
theorem nA {g g':Gh} {tk tk':List Nat} {w w':World} {p:Pos} {cs:List Value} (h:ay g tk w (bB (Pos.av p)) cs):ay g' tk' w' (bB (Pos.av p)) cs:=by
 change ay g tk w [.int .u8 p.variant,.ints .u8 64 p.ae,.u64 p.ab,.ints .u8 12 p.af,.int .u8 p.aa,.ints .i8 4 p.ai,.int .i8 p.ah,.ints .u8 2 p.ag,.int .i64 p.half,.int .i64 p.full] cs at h
 obtain ⟨x1,r1,rfl,q1,h1⟩:=h.inv_one rfl
 obtain ⟨l2,r2,rfl,h2⟩:=h1.bY
 obtain ⟨x3,r3,rfl,q3,h3⟩:=h2.inv_one rfl
 obtain ⟨l4,r4,rfl,h4⟩:=h3.bY
 obtain ⟨x5,r5,rfl,q5,h5⟩:=h4.inv_one rfl
 obtain ⟨l6,r6,rfl,h6⟩:=h5.bY
 obtain ⟨x7,r7,rfl,q7,h7⟩:=h6.inv_one rfl
 obtain ⟨l8,r8,rfl,h8⟩:=h7.bY
 obtain ⟨x9,r9,rfl,q9,h9⟩:=h8.inv_one rfl
 obtain ⟨x10,r10,rfl,q10,h10⟩:=h9.inv_one rfl
 obtain rfl:=h10.cQ
 cases q1; cases q3; cases q5; cases q7; cases q9; cases q10
 exact .one rfl (.int _ _) (.ints l2 rfl (.one rfl (.u64 _) (.ints l4 rfl (.one rfl (.int _ _) (.ints l6 rfl (.one rfl (.int _ _) (.ints l8 rfl (.one rfl (.int _ _) (.one rfl (.int _ _) .nil)))))))))
set_option maxHeartbeats 1000000 in
set_option maxRecDepth 100000 in
theorem adf (a:Option Addr) (c:Nat) (fv:Value) (w:World):Calls Tryz.prog 156 #[.slice a 0 c,fv] w fun e w'=>e=.returned (.int .i64 (-1))∧w'=w:=by
 go_enter Tryz.func156,Tryz.ntmps156
 go_wp2
 go_loopg [5,8] 0 (fun _ _ s8 wr=>s8=.int .i64 0∧wr=w)
 case atStart=>exact ⟨rfl,rfl⟩
 case round =>
  obtain ⟨rfl,rfl⟩:=hrel
  go_wp2
  go_ret
  exact ⟨rfl,rfl⟩
set_option maxHeartbeats 1000000 in
set_option maxRecDepth 100000 in
theorem agn (a:Option Addr) (c:Nat) (fv:Value) (w:World):Calls Tryz.prog 73 #[.slice a 0 c,fv] w fun e w'=>e=.returned (.slice a 0 c)∧w'=w:=by
 have h:=adf a c fv w
 go_enter Tryz.func73,Tryz.ntmps73
 go_wp2_with fail
 refine h.mono ?_
 rintro e w' ⟨rfl,rfl⟩
 go_wp2_with fail
 go_ret
 exact ⟨rfl,rfl⟩
set_option maxHeartbeats 2000000 in
set_option maxRecDepth 100000 in
theorem Tz (ad:Addr) (c:Nat) (w:World):Calls Tryz.prog 74 #[.slice (some ad) 0 c] w fun e w' => ∃ v',e=.returned v'∧w'.ownsRow w.heap.size 38 5 v' 0 []∧v'≠.slice none 0 0∧RowKit.Below w.heap.size w w':=by
 obtain ⟨i0,z,a1,a2,a3,a4,a5⟩:=Ca
 have q22:∀ (w:World) (a:Option Addr) (n c n' c':Nat),(binOp .eql 32 (.slice a n c) (.slice none n' c')).run Tryz.prog w=.ok (.bool a.isNone) w:=fun w a n c n' c'=>Lib.run_eql_slice_nil w _ _ a n c n' c' Tryz.underlying32
 have u22:∀ w,Sem.run Tryz.prog (underlying 32) w=.ok (TypeDesc.slice 38) w:=run_underlying Tryz.underlying32
 go_enter Tryz.func74,Tryz.ntmps74
 go_wp2_with (at_builtin; refine wpList_append_own _ rfl _ _ 32 rfl w.heap.size 38 i0 z 5 i0.bytes Tryz.underlying32 a1 a2 a3 rfl a4 (by omega) _ _ _ rfl (World.ownsRow_made w #[] 0 (Nat.le_refl _) (Nat.zero_le _) (by simp)) ad 0 c [] rfl ?qc1 ?qc2 ?qc3 ?qc4 ?qc5 ?qc6 ?_)
 case qc1=>rfl
 case qc2=>intro j u hj; simp at hj
 case qc3=>intro u hu; simp at hu
 case qc4=>simp
 case qc5=>simp
 case qc6=>simp
 intro v' w1 hown hgrow hnil
 go_wp2
 go_ret
 refine ⟨v',rfl,by simpa using hown,?_,?_⟩
 ·exact hnil
 ·exact ((Below.refl _ w).alloc (Nat.le_refl _) _).grown hgrow (by simp) (by intro k hk; simp [Value.ownBlock] at hk; omega)
set_option maxHeartbeats 2000000 in
set_option maxRecDepth 100000 in
theorem Qp (p:Pos) (f2:Nat) (q:Mv→Bool) (l:List Mv) (hll:l.length≤vd) (hq:∀ m,bP Tryz.prog 75 [Mv.av m,.ptrf (.func f2 [] [.ptrf (Pos.av p)])] (.bool (!q m))):bP Tryz.prog 72 [.list .mv l .arg,.func f2 [] [.ptrf (Pos.av p)]] (.list .mv (l.filter q) .fresh):=by
 intro w bX hg hr
 obtain ⟨bX⟩:=bX
 cases hr with
 | cons q1 r1 =>
 cases r1 with
 | cons q2 r2 =>
 cases r2
 cases q2 with
 | func ha hb =>
 rename_i x y
 obtain ⟨x⟩:=x
 obtain ⟨y⟩:=y
 cases ha
 cases hb with
 | cons q3 r3 =>
 cases r3
 cases q3 with
 | ptrf hpc hpa =>
 rename_i pc po pcs
 cases q1 with
 | list hn hE hS hT hC =>
 rename_i a n cap cs
 subst hn
 have hcs:=jA hE
 obtain ⟨fv,hfv⟩:∃ fv:Value,fv=.func (.func f2) (Array.mk []) (Array.mk [.pointer (some ⟨pc,po,none⟩)]):=⟨_,rfl⟩
 rw [← hfv]
 have hpred:∀ (W:World) (u:Mv),w.heap.size+1≤W.heap.size→(∀ k,k < w.heap.size+1→W.heap[k]?=(w.alloc (.cells #[fv] 92)).heap[k]?) →
   Calls Tryz.prog 75 (#[.agg (dO u).toArray]++#[.pointer (some ⟨w.heap.size,0,none⟩)]) W fun e w'=>e=.returned (.bool (!q u))∧RowKit.Below W.heap.size W w':=by
  intro W u hsz hsame
  have old:∀ k,k < w.heap.size→W.heap[k]?=w.heap[k]? := fun k hk=>by
   rw [hsame k (by omega)]
   exact ((Below.refl _ w).alloc (Nat.le_refl _) _).block k hk
  refine (callsIn_wide.1 (hq u W (#[.agg (dO u).toArray]++#[.pointer (some ⟨w.heap.size,0,none⟩)]) ?_ ?_)).mono ?_
  ·exact fun pr hpr=>Mf (by omega) old (hg pr hpr)
  ·refine .cons (.agg (AY _ _ _ u)) (.cons (.ptrf (cs:=[fv]) (.one rfl ?_ .nil) ?_) .nil)
   ·rw [hfv]
    refine .func .nil (.cons (.ptrf (nA hpc) ?_) .nil)
    intro j x hj
    obtain ⟨h1,h2⟩:=hpa j x hj
    have hlt:pc < w.heap.size:=h2
    exact ⟨by rw [di (old _ hlt)]; exact h1,Nat.lt_of_lt_of_le hlt (by omega)⟩
   ·intro j x hj
    have hc:W.heap[w.heap.size]?=some (.cells #[fv] 92 (0,0)):=by
     rw [hsame _ (Nat.lt_succ_self _)]; exact heap_alloc_new w _
    refine ⟨?_,show w.heap.size < W.heap.size by omega⟩
    rw [bf hc,Nat.zero_add]
    simpa using hj
  ·rintro e w' ⟨v,rfl,hb,hv⟩
   cases hv
   exact ⟨rfl,hb⟩
 subst hfv
 clear hpc hpa
 refine callsIn_wide.2 ?_
 cases a with
 | none =>
  obtain rfl:l=[]:=by
   rcases hS with h | ⟨_,_,h,_⟩
   ·have:=nZ l
    rw [← hcs,h] at this
    exact List.eq_nil_of_length_eq_zero (by simp at this; omega)
   ·cases h
  have hc:=fun w=>AnyE.slices_Clone_nil Tryz.GB 0 cap w
  have hd:=agn none 0 (.func (.func 75) #[] #[.pointer (some ⟨w.heap.size,0,none⟩)])
  clear hpred hS hcs hE hT
  go_enter Tryz.func72,Tryz.ntmps72
  go_wp2_with fail
  refine (hc _).mono ?_
  rintro e w' ⟨rfl,rfl⟩
  go_wp2_with fail
  refine (hd _).mono ?_
  rintro e w' ⟨rfl,rfl⟩
  go_wp2_with fail
  go_ret
  exact ⟨_,rfl,(Below.refl _ w).alloc (Nat.le_refl _) _,.list (cs:=[]) rfl .nil (.inl rfl) (fun k e=>by cases e) (Nat.le_refl _)⟩
 | some ad =>
  have hclone:Calls Tryz.prog 74 #[.slice (some ad) l.length cap] (w.alloc (.cells #[(.func (.func f2) (Array.mk []) (Array.mk [.pointer (some ⟨pc,po,none⟩)]))] 92)) fun e w' => ∃ v',e=.returned v'∧w'.ownsRow (w.alloc (.cells #[(.func (.func f2) (Array.mk []) (Array.mk [.pointer (some ⟨pc,po,none⟩)]))] 92)).heap.size 38 5 v' l.length (l.flatMap dO)∧v'≠.slice none 0 0∧RowKit.Below (w.alloc (.cells #[(.func (.func f2) (Array.mk []) (Array.mk [.pointer (some ⟨pc,po,none⟩)]))] 92)).heap.size (w.alloc (.cells #[(.func (.func f2) (Array.mk []) (Array.mk [.pointer (some ⟨pc,po,none⟩)]))] 92)) w':=by
   by_cases hl:l=[]
   ·subst hl
    exact Tz ad cap _
   ·obtain ⟨c,o,hadr,hat,_⟩:=hS.resolve_left (fun e0=>hl (by
     have:=nZ l
     rw [← hcs,e0] at this
     exact List.eq_nil_of_length_eq_zero (by simp at this; omega)))
    simp only [Option.some.injEq] at hadr
    subst hadr
    obtain ⟨i0,z,a1,a2,a3,a4,a5⟩:=Ca
    refine AnyE.slices_Clone Tryz.GB i0 z 5 i0.bytes a1 a2 a3 rfl a4 (by omega) Tryz.sizeOf38 c o l.length cap (l.flatMap dO) _ (nZ l) ?_ ?_ ?_ (KV l)
    ·unfold vd at hll; unfold maxLen; omega
    ·have:l.length * i0.bytes≤l.length * 131072:=Nat.mul_le_mul_left _ a5
     unfold vd at hll
     omega
    ·intro j u hj
     rw [← hcs] at hj
     obtain ⟨h1,h2⟩:=hat j u hj
     have hlt:c < w.heap.size:=h2
     rw [di (((Below.refl _ w).alloc (Nat.le_refl _) _).block c hlt)]
     exact h1
  clear hS hcs hE hT
  have HP:=Lib.hid hpred
  clear hpred
  go_enter Tryz.func72,Tryz.ntmps72
  go_wp2_with fail
  refine hclone.mono ?_
  rintro e w2 ⟨v',rfl,hown,hne,hb⟩
  obtain ⟨hlen,⟨rfl,_⟩ | ⟨gb,cap',cur,rfl,hgb,hcur,hn',hmax,hsz,htake⟩⟩:=hown
  ·exact absurd rfl hne
  have hrow:fQ w2 gb cap' 38 l.toArray w2:=⟨rfl,rfl,rfl,Nat.le_refl _,fun _ _ _=>rfl,cur,hcur,hsz,fun j c hj hc=>by
   have hj':j < l.length:=by simpa using hj
   have h1:j * 5+c < l.length * 5:=by have:=Nat.mul_le_mul_right 5 (show j+1≤l.length from hj'); omega
   rw [← Array.getElem?_toList,← List.getElem?_take_of_lt h1,htake,ov l j c hj' hc]
   congr 2
   rw [getElem!_pos l j hj',getElem!_pos l.toArray j hj]
   simp⟩
  have hdel:=afW (fun u => !q u) 75 #[.pointer (some ⟨w.heap.size,0,none⟩)] (fun _ _=>rfl) gb cap' l.toArray w2 (aU hcur) hrow (by simpa using hn') hmax (fun W dk u hW=>by
   have hs1:(w.alloc (.cells #[(.func (.func f2) (Array.mk []) (Array.mk [.pointer (some ⟨pc,po,none⟩)]))] 92)).heap.size=w.heap.size+1:=by simp
   refine HP.out W u (by have:=hb.size; have:=hW.size; omega) (fun k hk => ?_)
   rw [hW.other k (by have:=hb.size; omega) (by omega),hb.block k (by omega)])
  simp only [List.size_toArray,Bool.not_not] at hdel
  have HD:=Lib.hid hdel
  have HBW:=Lib.hid hb
  have HG:=Lib.hid hgb
  have HN:=Lib.hid hn'
  clear hdel HP hrow hb hgb hn' hcur hsz htake hlen hne hmax hclone
  go_wp2_with fail
  refine HD.out.mono ?_
  rintro e w3 ⟨rfl,hR⟩
  have HR:=Lib.hid hR
  clear hR
  go_wp2_with fail
  go_ret
  have hR:=HR.out
  have hb:=HBW.out
  have hgb:=HG.out
  have hs1:(w.alloc (.cells #[(.func (.func f2) (Array.mk []) (Array.mk [.pointer (some ⟨pc,po,none⟩)]))] 92)).heap.size=w.heap.size+1:=by simp
  have hw1:RowKit.Below w.heap.size w (w.alloc (.cells #[(.func (.func f2) (Array.mk []) (Array.mk [.pointer (some ⟨pc,po,none⟩)]))] 92)):=(Below.refl _ w).alloc (Nat.le_refl _) _
  have hbw:RowKit.Below w.heap.size w w3:=⟨hR.os.trans (hb.os.trans hw1.os),hR.tape.trans (hb.tape.trans hw1.tape),hR.output.trans (hb.output.trans hw1.output),by have:=hR.size; have:=hb.size; omega,fun k hk=>by
   rw [hR.other k (by have:=hb.size; omega) (by omega),hb.block k (by omega)]
   exact hw1.block k hk⟩
  refine ⟨_,rfl,hbw,?_⟩
  obtain ⟨cur,k1,k2,k3⟩:=hR.row
  have hfl:(l.filter q).length≤l.length:=List.length_filter_le _ _
  refine .list (cs:=(l.filter q).flatMap dO) (by simp) (ra _ _ _ _) (.inr ⟨gb,0,rfl,fun j x hj => ?_,fun _=>by show w.heap.size≤gb; omega⟩) (fun k e=>by cases e) (Nat.le_trans hfl HN.out)
  have hjl:j < (l.filter q).length * 5:=by rw [← nZ]; exact (List.getElem?_eq_some_iff.1 hj).1
  have hdm:j=j / 5 * 5+j % 5:=by omega
  have hq5:j / 5 < (l.filter q).length:=by omega
  refine ⟨?_,show w.heap.size≤gb∧gb < w3.heap.size from ⟨by omega,aU k1⟩⟩
  rw [bf k1,Nat.zero_add,hdm,k3 (j / 5) (j % 5) (by simpa using hq5) (Nat.mod_lt _ (by omega)),← hj]
  conv=>rhs; rw [hdm]
  rw [ov (l.filter q) (j / 5) (j % 5) hq5 (Nat.mod_lt _ (by omega))]
  congr 2
  rw [getElem!_pos (l.filter q) (j / 5) hq5,getElem!_pos (l.filter q).toArray (j / 5) (by simpa using hq5)]
  simp
end Go.Proofs
end
noncomputable section
namespace Kz
open Go Go.RowKit Go.Proofs
theorem Ec {P:Program} {f:Nat} {l l':List Mv} {tk:Tk} {f2 b:Nat} {p:Pos} {h:Hp} (hb:h.heap[b]?=some (bB (Pos.av p))) (hs:bP P f [.list .mv l .arg,.func f2 [] [.ptrf (Pos.av p)]] (.list .mv l' .fresh)) :
  df P f [.list .mv l tk,.func f2 [] [.ptr b 0]] h (.ret (.list .mv l' .fresh) h):=by
 intro g w bX m hr
 have hr':aC (eP w) [] w [.list .mv l .arg,.func f2 [] [.ptrf (Pos.av p)]] bX.toList:=by
  obtain ⟨bX⟩:=bX
  cases hr with
  | cons q1 r1 =>
  cases r1 with
  | cons q2 r2 =>
  cases r2
  cases q1 with
  | list hn hE hS hT hC =>
  rename_i a n cap cs
  cases q2 with
  | func ha hb2 =>
  rename_i x y
  obtain ⟨x⟩:=x
  obtain ⟨y⟩:=y
  cases ha
  cases hb2 with
  | cons q3 r3 =>
  cases r3
  cases q3 with
  | ptr hv =>
  rename_i c
  obtain ⟨_,_,cells,ty,hc,hcells⟩:=m.R9 hv hb rfl
  refine .cons (.list (cs:=cs) hn (by rw [jA hE]; exact ra _ _ _ _) (hS.imp id fun ⟨c',o',e1,e2,_⟩=>⟨c',o',e1,fun j x hj=>⟨(e2 j x hj).1,m.fJ _ _ (e2 j x hj).2⟩,fun f=>absurd rfl f⟩) (fun k e=>by cases e) hC)
   (.cons (.func .nil (.cons (.ptrf (cs:=cells.toList) (nA hcells) fun j x hj=>⟨by rw [bf hc,Nat.zero_add]; simpa using hj,aU hc⟩) .nil)) .nil)
 refine (hs w bX m.Bi hr').mono ?_
 rintro e w' ⟨x,rfl,hbl,hx⟩
 obtain ⟨m1,l1⟩:=m.Je hbl
 exact ⟨_,x,rfl,⟨m1,l1,Fl.refl _⟩,JT m hx⟩
end Kz
end
noncomputable section
namespace Kz
open Go Go.RowKit Go.Proofs
set_option maxRecDepth 100000
set_option maxHeartbeats 4000000
def B75:ax:=uu Pz (fun _ _=>[]) [(80,G80),(78,G78)] [] []
theorem Yr:aV B75:=ak aj ⟨s80,s78,trivial⟩ trivial trivial
theorem aiq (p:Pos) (m:Mv):dn B75 14 75 [Mv.av m,.ptrf (.func 77 [] [.ptrf (Pos.av p)])]=Tr.br (zD p m) (Tr.ret (AV.bool (!jL p m))) Tr.fail:=by kernel_rfl
theorem aeV (p:Pos) (m:Mv):dn B75 14 75 [Mv.av m,.ptrf (.func 79 [] [.ptrf (Pos.av p)])]=Tr.br (wI p m) (Tr.ret (AV.bool (!kc p m))) Tr.fail:=by kernel_rfl
theorem aet (p:Pos) (m:Mv) (h:zD p m=true):bP Pz 75 [Mv.av m,.ptrf (.func 77 [] [.ptrf (Pos.av p)])] (.bool (!jL p m)) :=
 (CU (d:=dB) Yr (aiq p m) (sO (Ih rfl)) (by rw [h]; rfl)).1
theorem abZ (p:Pos) (m:Mv) (h:wI p m=true):bP Pz 75 [Mv.av m,.ptrf (.func 79 [] [.ptrf (Pos.av p)])] (.bool (!kc p m)) :=
 (CU (d:=dB) Yr (aeV p m) (sO (Ih rfl)) (by rw [h]; rfl)).1
open Classical in
def Ln (p:Pos):Bool:=shut (decide (∀ m,zD p m=true))
theorem vo {p:Pos}:Ln p=true ↔ ∀ m,zD p m=true:=by
 unfold Ln
 rw [xu]
 simp
open Classical in
def JB (p:Pos):Bool:=shut (decide (∀ m,wI p m=true))
theorem vh {p:Pos}:JB p=true ↔ ∀ m,wI p m=true:=by
 unfold JB
 rw [xu]
 simp
def kept (f:Nat) (p:Pos) (l:List Mv):List Mv:=l.filter (bif f.beq 77 then jL p else kc p)
def gH (f:Nat) (p:Pos) (l:List Mv):Bool:=decide (l.length≤vd)&&bif f.beq 77 then Ln p else f.beq 79&&JB p
def NK:List AV→Hp→Tr bZ:=fun xs h=>match xs with
 | [.list .mv l _,.func f [] [.ptr b 0]]=>match h.heap[b]? with
  | some [.int .u8 v,.ints .u8 64 bd,.u64 pr,.ints .u8 12 pk,.int .u8 tn,.ints .i8 4 rk,.int .i8 ps,.ints .u8 2 ck,.int .i64 hf,.int .i64 fl] =>
   .guard (gH f ⟨v,bd,pr,pk,tn,rk,ps,ck,hf,fl⟩ l) (.ret (.ret (.list .mv (kept f ⟨v,bd,pr,pk,tn,rk,ps,ck,hf,fl⟩ l) .fresh) h))
  | _=>.fail
 | _=>.fail
theorem S7:∃ fn,Pz.funcs[72]?=some fn∧fn.body.isSome=true:=by
 have h:(match Pz.funcs[72]? with
  | some fn=>fn.body.isSome
  | none=>false)=true:=by kernel_rfl
 split at h
 ·rename_i fn hf
  exact ⟨fn,hf,h⟩
 ·cases h
theorem QW:iC Pz 72 NK:=by
 intro xs h res he
 unfold NK at he
 split at he
 ·rename_i l tk f b
  split at he
  ·rename_i v bd pr pk tn rk ps ck hf fl hb
   simp only [get_guard,ar,Option.some.injEq] at he
   obtain ⟨h1,rfl⟩:=he
   refine ⟨?_,S7⟩
   unfold gH at h1
   simp only [Bool.and_eq_true,decide_eq_true_eq] at h1
   obtain ⟨hl,h1⟩:=h1
   unfold kept
   cases hf3:f.beq 77 with
   | true =>
    rw [hf3] at h1
    obtain rfl:=Nat.eq_of_beq_eq_true hf3
    exact Ec (p:=⟨v,bd,pr,pk,tn,rk,ps,ck,hf,fl⟩) hb (Qp _ _ _ l hl fun m=>aet _ m (vo.1 h1 m))
   | false =>
    rw [hf3] at h1
    simp only [cond_false,Bool.and_eq_true] at h1
    obtain rfl:=Nat.eq_of_beq_eq_true h1.1
    exact Ec (p:=⟨v,bd,pr,pk,tn,rk,ps,ck,hf,fl⟩) hb (Qp _ _ _ l hl fun m=>abZ _ m (vh.1 h1.2 m))
  ·simp at he
 ·simp at he
def K37:KT:=[(37,37,[(0,(1::(rn 12 5 [28,29,30]))),(1,[1,17,28,29,30]),(2,[2]),(3,[1,3,28,29,30]),(4,[1,3,4,28,29,30]),(5,[1,3,4,5,28,29,30]),(6,[3,4,5,31]),(7,[4]),(8,[2])]),(72,9,[(0,[0,3]),(1,[4])]),(77,7,[(0,[1,2]),(1,[3])]),(79,7,[(0,[1,2]),(1,[3])]),(81,9,[(0,[0,1]),(1,[4])]),(156,19,[(0,[0,1]),(1,[0,1,7,8]),(2,[0,1,7,8,9]),(3,[0,1,5,7,8]),(4,[0,1,5,7,8,16]),(5,[4]),(6,[0,1,7,8]),(7,[4])])]
def ZJ:ax:=bO Pz K37 [(70,G70),(76,Du),(80,G80),(78,G78),(71,Wi)] [] [(72,NK)]
theorem SS:aV ZJ:=ak aj ⟨s70,E8,s80,s78,s71,trivial⟩ trivial ⟨QW,trivial⟩
def O6 (p1:(List Mv)) (p2:Int) (p3:Pos) (x:(Int)):St:=St.mk (.list .mv p1 .fresh::.func 79 [] [.ptr 0 0]::(an 5 (.int .i64 p2::.int .i64 x::(an 10 [])))) (Hp.mk [(pc p3 [])] [0] [] 0 0 0)
def P0 (p1:(List Mv)) (p2:Int) (p3:Pos):(Int) ⊕ (Int×Bool)→Out
 | (.inl (y))=>.ret (St.mk (an 4 (AV.int .i64 y::(an 14 []))) (Hp.mk [(pc p3 [])] [0] [] 0 0 0))
 | (.inr (y))=>.exit 0 (St.mk (AV.list ET.mv p1 Tk.fresh::AV.func 79 [] [AV.ptr 0 0]::(an 5 (AV.int .i64 p2::AV.int .i64 y.1::AV.bool y.2::(an 9 [])))) (Hp.mk [(pc p3 [])] [0] [] 0 0 0))
def Rx (p1:(List Mv)) (p2:Int) (p3:Pos) (x:(Int)):aF (Int) ((Int) ⊕ (Int×Bool)):=(bif decide (x < p2) then (bif kc p3 (p1.getD x.toNat default) then (aF.out (.inl ((x)))) else (aF.go (wr .i64 (x+1)))) else (aF.out (.inr ((x,decide (x < p2))))))
def Nz (p1:(List Mv)) (p2:Int) (p3:Pos) (x:(Int)):Bool:=(bif decide (x < p2) then (decide (0≤x)&&decide (x < Int.ofNat p1.length)&&(wI (p3) (p1.getD x.toNat default)&&true)) else true)
def ev (p1:(List Mv)) (p2:Int) (p3:Pos) (x:(Int)):Option ((Int) ⊕ (Int×Bool)):=cP (fun x=>bif Nz p1 p2 p3 x then Rx p1 p2 p3 x else .bad) many x
abbrev PI {α:Type} (k:(List Mv)→Int→Pos→(Int)→α) (s:St):α:=wP s 0 fun q0=>k (tL (ET.mv) (tT s 0)) (tI (tT s 7)) q0 ((tI (tT s 8)))
theorem WX (p1:(List Mv)) (p2:Int) (p3:Pos) (x:(Int)) (r:(Int) ⊕ (Int×Bool)) (h:ev p1 p2 p3 x=some r):aB Pz (bj Pz 156 2) (O6 p1 p2 p3 x) (P0 p1 p2 p3 r):=aB.vF (m:=12) (fn:=156) SS (PI fun _ _ _ x=>some x) (fun o=>match o with | .ret s=>some (.inl (tI (tT s 4))) | .exit 0 s=>some (.inr ((tI (tT s 8)),(tB (tT s 9)))) | _=>none) (fun r=>by cases r <;> rfl) (fun _=>by kernel_rfl) (fun _=>by kernel_rfl) (fun _=>by kernel_rfl) (fun _=>by kernel_rfl) many x r h
def Ru (b:Code) (s:St):Tr Out:=PI (fun p1 p2 p3 x=>vM b (bj Pz 156 2) s (O6 p1 p2 p3 x) (ev p1 p2 p3 x) (P0 p1 p2 p3)) s
theorem S2:∀ b,aY Pz b (Ru b):=fun _ _ _ h=>dq (WX _ _ _ _) h
def B37:ax:=bO Pz K37 [(70,G70),(76,Du),(80,G80),(78,G78),(71,Wi)] [(156,2,Ru)] [(72,NK)]
theorem ady:aV B37:=ak aj ⟨s70,E8,s80,s78,s71,trivial⟩ ⟨S2,trivial⟩ ⟨QW,trivial⟩
def kC (a:Pos):List Mv:=(bif yg a.variant a.aa then (bif !FK a a.aa then ([]) else (bif a.variant==4 then (bif cq ((ev (kept 77 a (cy a)) (Int.ofNat (kept 77 a (cy a)).length) a 0).getD default) then (bif decide (gl ((ev (kept 77 a (cy a)) (Int.ofNat (kept 77 a (cy a)).length) a 0).getD default) ≥ 0) then (kept 79 a (kept 77 a (cy a))) else (kept 77 a (cy a))) else (kept 77 a (cy a))) else (kept 77 a (cy a)))) else (bif a.variant==4 then (bif cq ((ev (kept 77 a (cy a)) (Int.ofNat (kept 77 a (cy a)).length) a 0).getD default) then (bif decide (gl ((ev (kept 77 a (cy a)) (Int.ofNat (kept 77 a (cy a)).length) a 0).getD default) ≥ 0) then (kept 79 a (kept 77 a (cy a))) else (kept 77 a (cy a))) else (kept 77 a (cy a))) else (kept 77 a (cy a))))
def yS (a:Pos):Bool:=(xS (a.variant) (a.aa)&&(bif yg a.variant a.aa then (BI (a) (a.aa)&&(bif !FK a a.aa then true else (y8 (a)&&(gH 77 a (cy a)&&(bif a.variant==4 then ((ev (kept 77 a (cy a)) (Int.ofNat (kept 77 a (cy a)).length) a 0).isSome&&bif cq ((ev (kept 77 a (cy a)) (Int.ofNat (kept 77 a (cy a)).length) a 0).getD default) then (bif decide (gl ((ev (kept 77 a (cy a)) (Int.ofNat (kept 77 a (cy a)).length) a 0).getD default) ≥ 0) then (gH 79 a (kept 77 a (cy a))&&true) else true) else true) else true))))) else (y8 (a)&&(gH 77 a (cy a)&&(bif a.variant==4 then ((ev (kept 77 a (cy a)) (Int.ofNat (kept 77 a (cy a)).length) a 0).isSome&&bif cq ((ev (kept 77 a (cy a)) (Int.ofNat (kept 77 a (cy a)).length) a 0).getD default) then (bif decide (gl ((ev (kept 77 a (cy a)) (Int.ofNat (kept 77 a (cy a)).length) a 0).getD default) ≥ 0) then (gH 79 a (kept 77 a (cy a))&&true) else true) else true) else true)))))
theorem P37 (a:Pos) (h:yS a=true):PS Pz 37 [Pos.av a] ((dL .mv).res (kC a)):=pq14 ady h
def G37:GT:=g1 aZ (fun a=>bV (yS a) ((dL .mv).res (kC a)))
theorem s37:Sound Pz 37 G37:=aH fun a=>az (P37 a)
def abc:KT:=[(81,9,[(0,[0,1]),(1,[4])]),(153,40,[(0,[1,2,16]),(1,[1,2,3,16]),(2,[1,2,4,5,16]),(3,[1,2,4,5,13]),(4,[2]),(5,[1,2,4,19]),(6,[2]),(7,[1,2,22]),(8,[2]),(9,[1,2,26]),(10,[2]),(11,[1,2,6]),(12,[1,2,7]),(13,[2,37]),(14,[2]),(15,[2])]),(156,19,[(0,[0,1]),(1,[0,1,7,8]),(2,[0,1,7,8,9]),(3,[0,1,5,7,8]),(4,[0,1,5,7,8,16]),(5,[4]),(6,[0,1,7,8]),(7,[4])]),(226,8,[(0,[0,1]),(1,[3])]),(227,14,[(0,[1,2,10,11,12]),(1,[3])])]
def SN:ax:=bO Pz abc [(37,G37),(155,kJ),(222,ym)] [] []
theorem MN:aV SN:=ak aj ⟨s37,ll,A5,trivial⟩ trivial trivial
def Hv (p1:(List Mv)) (p2:Int) (p3:Pos) (p4:Int) (x:(Int)):St:=St.mk (.list .mv p1 .fresh::.func 227 [] [.ptr 2 0]::(an 5 (.int .i64 p2::.int .i64 x::(an 10 [])))) (Hp.mk [(pc p3 []),[.int .u8 0,.int .u8 0],[.int .i64 p4]] [] [] 0 0 0)
def Lx (p1:(List Mv)) (p2:Int) (p3:Pos) (p4:Int):(Int) ⊕ (Int×Bool)→Out
 | (.inl (y))=>.ret (St.mk (an 4 (AV.int .i64 y::(an 14 []))) (Hp.mk [(pc p3 []),[AV.int .u8 0,AV.int .u8 0],[AV.int .i64 p4]] [] [] 0 0 0))
 | (.inr (y))=>.exit 0 (St.mk (AV.list ET.mv p1 Tk.fresh::AV.func 227 [] [AV.ptr 2 0]::(an 5 (AV.int .i64 p2::AV.int .i64 y.1::AV.bool y.2::(an 9 [])))) (Hp.mk [(pc p3 []),[AV.int .u8 0,AV.int .u8 0],[AV.int .i64 p4]] [] [] 0 0 0))
def Dm (p1:(List Mv)) (p2:Int) (p3:Pos) (p4:Int) (x:(Int)):aF (Int) ((Int) ⊕ (Int×Bool)):=(bif decide (x < p2) then (bif wr .i64 (p1.getD x.toNat default).aw==p4 then (bif decide ((p1.getD x.toNat default).to ≥ 56) then (aF.out (.inl ((x)))) else (aF.go (wr .i64 (x+1)))) else (aF.go (wr .i64 (x+1)))) else (aF.out (.inr ((x,decide (x < p2))))))
def zy (p1:(List Mv)) (p2:Int) (p3:Pos) (p4:Int) (x:(Int)):Bool:=(bif decide (x < p2) then (decide (0≤x)&&decide (x < Int.ofNat p1.length)&&true) else true)
def eJ (p1:(List Mv)) (p2:Int) (p3:Pos) (p4:Int) (x:(Int)):Option ((Int) ⊕ (Int×Bool)):=cP (fun x=>bif zy p1 p2 p3 p4 x then Dm p1 p2 p3 p4 x else .bad) many x
abbrev IE {α:Type} (k:(List Mv)→Int→Pos→Int→(Int)→α) (s:St):α:=wP s 0 fun q0=>k (tL (ET.mv) (tT s 0)) (tI (tT s 7)) q0 (tI (tH s 2 0)) ((tI (tT s 8)))
theorem SV (p1:(List Mv)) (p2:Int) (p3:Pos) (p4:Int) (x:(Int)) (r:(Int) ⊕ (Int×Bool)) (h:eJ p1 p2 p3 p4 x=some r):aB Pz (bj Pz 156 2) (Hv p1 p2 p3 p4 x) (Lx p1 p2 p3 p4 r):=aB.vF (m:=12) (fn:=156) MN (IE fun _ _ _ _ x=>some x) (fun o=>match o with | .ret s=>some (.inl (tI (tT s 4))) | .exit 0 s=>some (.inr ((tI (tT s 8)),(tB (tT s 9)))) | _=>none) (fun r=>by cases r <;> rfl) (fun _=>by kernel_rfl) (fun _=>by kernel_rfl) (fun _=>by kernel_rfl) (fun _=>by kernel_rfl) many x r h
def JW (b:Code) (s:St):Tr Out:=IE (fun p1 p2 p3 p4 x=>vM b (bj Pz 156 2) s (Hv p1 p2 p3 p4 x) (eJ p1 p2 p3 p4 x) (Lx p1 p2 p3 p4)) s
theorem Mz:∀ b,aY Pz b (JW b):=fun _ _ _ h=>dq (SV _ _ _ _ _) h
def afz:ax:=bO Pz abc [(37,G37),(155,kJ),(222,ym)] [(156,2,JW)] []
theorem Zh:aV afz:=ak aj ⟨s37,ll,A5,trivial⟩ ⟨Mz,trivial⟩ trivial
def FZ (a:Pos):(Int×Int):=(bif decide (bb a 0 6 ≥ 56) then (bif decide (bb a 1 6 ≥ 56) then ⟨(3),(6)⟩ else (bif decide (bb a 1 6 ≥ 56) then ⟨((da 1 6).1),((da 1 6).2)⟩ else (bif !decide (bb a 0 6 ≥ 56) then ⟨(0),(0)⟩ else (bif a.aa==0 then ⟨((da 0 6).1),((da 0 6).2)⟩ else (bif cq ((eJ (kC a) (Int.ofNat (kC a).length) a (bb a 1 6) 0).getD default) then (bif decide (gl ((eJ (kC a) (Int.ofNat (kC a).length) a (bb a 1 6) 0).getD default) ≥ 0) then ⟨(0),(0)⟩ else ⟨((da 0 6).1),((da 0 6).2)⟩) else ⟨((da 0 6).1),((da 0 6).2)⟩))))) else (bif decide (bb a 1 6 ≥ 56) then ⟨((da 1 6).1),((da 1 6).2)⟩ else (bif !decide (bb a 0 6 ≥ 56) then ⟨(0),(0)⟩ else (bif a.aa==0 then ⟨((da 0 6).1),((da 0 6).2)⟩ else (bif cq ((eJ (kC a) (Int.ofNat (kC a).length) a (bb a 1 6) 0).getD default) then (bif decide (gl ((eJ (kC a) (Int.ofNat (kC a).length) a (bb a 1 6) 0).getD default) ≥ 0) then ⟨(0),(0)⟩ else ⟨((da 0 6).1),((da 0 6).2)⟩) else ⟨((da 0 6).1),((da 0 6).2)⟩)))))
def yr (a:Pos):Bool:=(iX (a) (0) (6)&&(iX (a) (1) (6)&&(bif decide (bb a 0 6 ≥ 56) then (bif decide (bb a 1 6 ≥ 56) then true else (bif decide (bb a 1 6 ≥ 56) then true else (bif !decide (bb a 0 6 ≥ 56) then true else (bif a.aa==0 then true else (iX (a) (1) (6)&&(yS (a)&&((eJ (kC a) (Int.ofNat (kC a).length) a (bb a 1 6) 0).isSome&&bif cq ((eJ (kC a) (Int.ofNat (kC a).length) a (bb a 1 6) 0).getD default) then true else true))))))) else (bif decide (bb a 1 6 ≥ 56) then true else (bif !decide (bb a 0 6 ≥ 56) then true else (bif a.aa==0 then true else (iX (a) (1) (6)&&(yS (a)&&((eJ (kC a) (Int.ofNat (kC a).length) a (bb a 1 6) 0).isSome&&bif cq ((eJ (kC a) (Int.ofNat (kC a).length) a (bb a 1 6) 0).getD default) then true else true)))))))))
theorem aiN (a:Pos) (h:yr a=true):PS Pz 153 [Pos.av a] ((dR .u8 .u8).res (FZ a)):=pq14 Zh h
def aaq:GT:=g1 aZ (fun a=>bV (yr a) ((dR .u8 .u8).res (FZ a)))
theorem ahM:Sound Pz 153 aaq:=aH fun a=>az (aiN a)
def K36:KT:=[(36,25,[(0,[1,2,8,9,10]),(1,[1,2,11]),(2,[2]),(3,[1,2,3]),(4,[1,2,3,19]),(5,[2]),(6,[2])])]
def B36:ax:=bO Pz K36 [(69,G69),(148,Wy),(149,Xa),(150,ZL),(151,abb),(152,XJ),(153,aaq)] [] []
theorem af6:aV B36:=ak aj ⟨s69,ad0,aiP,afq,afX,ae6,ahM,trivial⟩ trivial trivial
def yb (a:Pos):(Int×Int):=(bif decide (a.variant ≥ 9) then ⟨(0),(0)⟩ else (bif decide (a.aa > 1) then ⟨(0),(0)⟩ else (bif a.variant==Int.ofNat 0 then ⟨(0),(0)⟩ else (bif a.variant==Int.ofNat 1 then ⟨(0),(0)⟩ else (bif a.variant==Int.ofNat 2 then ⟨(0),(0)⟩ else (bif a.variant==Int.ofNat 3 then ⟨((I4 a).1),((I4 a).2)⟩ else (bif a.variant==Int.ofNat 4 then ⟨((Lj a).1),((Lj a).2)⟩ else (bif a.variant==Int.ofNat 5 then ⟨((Jr a).1),((Jr a).2)⟩ else (bif a.variant==Int.ofNat 6 then ⟨((Iv a).1),((Iv a).2)⟩ else (bif a.variant==Int.ofNat 7 then ⟨((HO a).1),((HO a).2)⟩ else ⟨((FZ a).1),((FZ a).2)⟩))))))))))
def Fy (a:Pos):Bool:=(bif decide (a.variant ≥ 9) then true else (bif decide (a.aa > 1) then true else (decide (0≤a.variant)&&decide (a.variant < Int.ofNat 9)&&(bif a.variant==Int.ofNat 0 then true else (bif a.variant==Int.ofNat 1 then true else (bif a.variant==Int.ofNat 2 then true else (bif a.variant==Int.ofNat 3 then (Ed (a)&&true) else (bif a.variant==Int.ofNat 4 then (zR (a)&&true) else (bif a.variant==Int.ofNat 5 then (Ae (a)&&true) else (bif a.variant==Int.ofNat 6 then (zS (a)&&true) else (bif a.variant==Int.ofNat 7 then (Db (a)&&true) else (a.variant==Int.ofNat 8&&(yr (a)&&true)))))))))))))
theorem P36 (a:Pos) (h:Fy a=true):PS Pz 36 [Pos.av a] ((dR .u8 .u8).res (yb a)):=pq14 af6 h
def G36:GT:=g1 aZ (fun a=>bV (Fy a) ((dR .u8 .u8).res (yb a)))
theorem s36:Sound Pz 36 G36:=aH fun a=>az (P36 a)
def K20:KT:=[(20,9,[(0,[1]),(1,[1,6]),(2,[2]),(3,[2])])]
def B20:ax:=bO Pz K20 [(36,G36),(37,G37)] [] []
theorem aiA:aV B20:=ak aj ⟨s36,s37,trivial⟩ trivial trivial
def bN (a:Pos):List Mv:=(bif (yb a).1 != 0 then ([]) else (kC a))
def Am (a:Pos):Bool:=(Fy (a)&&(bif (yb a).1 != 0 then true else (yS (a)&&true)))
theorem P20 (a:Pos) (h:Am a=true):PS Pz 20 [Pos.av a] ((dL .mv).res (bN a)):=pq14 aiA h
def Qg:GT:=g1 aZ (fun a=>bV (Am a) ((dL .mv).res (bN a)))
theorem UM:Sound Pz 20 Qg:=aH fun a=>az (P20 a)
end Kz
end
noncomputable section
namespace Kz
open Go
set_option maxRecDepth 100000
theorem t71 (p:Pos) (b:Int):BI p b=true:=ao (t155 _ _ _) fun _=>rfl
noncomputable section
variable {p:Pos} (hp:aG p)
include hp
theorem Ie (m:Mv):0≤(jg p m).1.variant:=by
 obtain ⟨_,h1,h2⟩:=lN hp m
 by_cases hm:m ∈ cy p
 ·rw [(h1 hm).2.2.1]; exact hp.v0
 ·rw [h2 hm]; exact hp.v0
theorem t78 (m:Mv):zD p m=true:=by
 have hv:=Ie hp m
 have t0:=hp.t0
 have b1:=jH (1 - p.aa)
 unfold zD
 refine ao (lN hp m).1 fun _ => ?_
 have k1:xS p.variant p.aa=true:=t70 hp.v0 t0
 have k2:qO (jg p m).1 p.aa=true:=t61 hv t0
 have k3:qO (jg p m).1 (wr .u8 (1 - p.aa))=true:=t61 hv b1
 repeat' (first | with_reducible rfl | with_reducible exact k1 | with_reducible exact k2 | with_reducible exact k3 | with_reducible exact t71 _ _ | refine ao ?_ (fun _ => ?_) | refine aq (fun _ => ?_) (fun _ => ?_))
theorem Fb {l:List Mv} (hl:l.length≤1000000):gH 77 p l=true:=by
 unfold gH
 rw [show (77:Nat).beq 77=true from rfl,cond_true]
 have h1:decide (l.length≤vd)=true:=by unfold vd; simp; omega
 rw [h1,Bool.true_and]
 exact vo.2 (t78 hp)
theorem EM {l:List Mv} (hl:l.length≤1000000):gH 79 p l=true:=by
 unfold gH
 rw [show (79:Nat).beq 77=false from rfl,cond_false,show (79:Nat).beq 79=true from rfl,Bool.true_and]
 have h1:decide (l.length≤vd)=true:=by unfold vd; simp; omega
 rw [h1,Bool.true_and]
 exact vh.2 (t80 hp.v0)
omit hp in
theorem rj (l:List Mv):kept 77 p l=l.filter (jL p):=by
 unfold kept
 rw [show (77:Nat).beq 77=true from rfl,cond_true]
omit hp in
theorem L6 (l:List Mv):kept 79 p l=l.filter (kc p):=by
 unfold kept
 rw [show (79:Nat).beq 77=false from rfl,cond_false]
theorem VR (l:List Mv) (hl:l.length≤1000000):∃ r,ev l (Int.ofNat l.length) p 0=some r ∧
  match r with
  | .inl i=>0≤i∧∃ m,m ∈ l∧kc p m=true
  | .inr _ => ∀ m,m ∈ l→kc p m=false:=by
 refine ba (I:=fun x=>0≤x∧x≤(l.length:Int)∧∀ m,m ∈ l.take x.toNat→kc p m=false) (μ:=fun x=>((l.length:Int) - x).toNat) ?_ _ ⟨by simp,by simp,by simp⟩ (by simp; omega)
 rintro n ⟨h0,h1,h2⟩
 by_cases hc:n < l.length
 ·have hlt:n.toNat < l.length:=by omega
  refine ⟨aq (fun _=>ao (by simp [h0]; exact hc) fun _=>ao (t80 hp.v0 _) fun _=>rfl) fun _=>rfl,au (fun _ => ?_) fun h=>absurd h (by simpa using hc)⟩
  refine au (fun h=>⟨h0,_,ct hlt,h⟩) fun h => ?_
  rw [aI (n:=n+1) (by omega) (by omega)]
  refine ⟨⟨by omega,by omega,?_⟩,by dsimp only; omega⟩
  rw [show (n+1).toNat=n.toNat+1 by omega,List.take_succ_eq_append_getElem hlt]
  rw [List.getD_eq_getElem?_getD,List.getElem?_eq_getElem hlt] at h
  intro m hm
  simp only [List.mem_append,List.mem_singleton] at hm
  rcases hm with hm | rfl
  ·exact h2 m hm
  ·exact h
 ·refine ⟨aq (fun h=>absurd h (by simpa using hc)) fun _=>rfl,au (fun h=>absurd h (by simpa using hc)) fun _ => ?_⟩
  show ∀ m,m ∈ l→kc p m=false
  rw [List.take_of_length_le (by omega)] at h2
  exact h2
theorem Hs (l:List Mv) (hl:l.length≤1000000) {α:Type} (x y:α) :
  (bif cq ((ev l (Int.ofNat l.length) p 0).getD default) then bif decide (gl ((ev l (Int.ofNat l.length) p 0).getD default) ≥ 0) then x else y else y)=bif l.any (kc p) then x else y:=by
 have h:=(aN (VR hp l hl)).2
 generalize (ev l (Int.ofNat l.length) p 0).getD default=r at h ⊢
 cases r with
 | inl i =>
  obtain ⟨h1,m,h2,h3⟩:=h
  have:l.any (kc p)=true:=List.any_eq_true.2 ⟨m,h2,h3⟩
  simp [cq,gl,h1,this]
 | inr z =>
  have:l.any (kc p)=false:=by
   rw [List.any_eq_false]
   intro m hm
   rw [h m hm]; simp
  simp [cq,this]
theorem sc:((cy p).filter (jL p)).length≤20802:=Nat.le_trans (List.length_filter_le _ _) (mc hp)
theorem t37:yS p=true:=by
 have h1:=mc hp
 have h2:=sc hp
 have k1:xS p.variant p.aa=true:=t70 hp.v0 hp.t0
 have k2:y8 p=true:=t76 hp
 have k3:gH 77 p (cy p)=true:=Fb hp (by omega)
 have k4:gH 79 p (kept 77 p (cy p))=true:=EM hp (by rw [rj]; omega)
 have k5:(ev (kept 77 p (cy p)) (Int.ofNat (kept 77 p (cy p)).length) p 0).isSome=true:=(aN (VR hp _ (by rw [rj]; omega))).1
 unfold yS
 repeat' (first | with_reducible rfl | with_reducible exact k1 | with_reducible exact k2 | with_reducible exact k3 | with_reducible exact k4 | with_reducible exact k5 | with_reducible exact t71 _ _ | refine ao ?_ (fun _ => ?_) | refine aq (fun _ => ?_) (fun _ => ?_))
def lW (p:Pos):List Mv:=bif p.variant==4 then bif ((cy p).filter (jL p)).any (kc p) then ((cy p).filter (jL p)).filter (kc p) else (cy p).filter (jL p) else (cy p).filter (jL p)
theorem BZ:kC p=bif yg p.variant p.aa then bif !FK p p.aa then [] else lW p else lW p:=by
 have h2:=sc hp
 unfold kC
 have e:=fun (x y:List Mv)=>Hs hp (kept 77 p (cy p)) (by rw [rj]; omega) x y
 rw [e]
 unfold lW
 rw [L6,rj]
omit hp in
theorem rN {m:Mv} (h:m ∈ lW p):m ∈ cy p∧jL p m=true:=by
 revert h
 unfold lW
 have k:m ∈ (cy p).filter (jL p)→m ∈ cy p∧jL p m=true:=fun h=>by simpa using h
 refine au (P:=fun l:List Mv=>m ∈ l→_) (fun _=>au (P:=fun l:List Mv=>m ∈ l→_) (fun _ h=>k (List.mem_filter.1 h).1) fun _=>k) fun _=>k
theorem Dh {m:Mv} (h:m ∈ kC p):m ∈ cy p∧jL p m=true:=by
 rw [BZ hp] at h
 revert h
 exact au (P:=fun l:List Mv=>m ∈ l→_) (fun _=>au (P:=fun l:List Mv=>m ∈ l→_) (fun _ h=>by cases h) fun _=>rN) fun _=>rN
omit hp in
theorem y7 (hl:((cy p).filter (jL p)).length≤20802):(lW p).length≤20802:=by
 unfold lW
 refine au (P:=fun l:List Mv=>l.length≤20802) (fun _=>au (P:=fun l:List Mv=>l.length≤20802) (fun _=>Nat.le_trans (List.length_filter_le _ _) hl) fun _=>hl) fun _=>hl
theorem wE:(kC p).length≤20802:=by
 have h:=y7 (sc hp)
 rw [BZ hp]
 exact au (P:=fun l:List Mv=>l.length≤20802) (fun _=>au (P:=fun l:List Mv=>l.length≤20802) (fun _=>by simp) fun _=>h) fun _=>h
omit hp in
theorem ZD (l:List Mv) (hl:l.length≤1000000) (q:Pos) (k:Int):(eJ l (Int.ofNat l.length) q k 0).isSome=true:=by
 refine (aN (Q:=fun _=>True) (ba (I:=fun x=>0≤x∧x≤(l.length:Int)) (μ:=fun x=>((l.length:Int) - x).toNat) ?_ _ ⟨by simp,by simp⟩ (by simp; omega))).1
 rintro n ⟨h0,h1⟩
 by_cases hc:n < l.length
 ·refine ⟨aq (fun _=>ao (by simp [h0]; exact hc) fun _=>rfl) fun _=>rfl,au (fun _ => ?_) fun h=>absurd h (by simpa using hc)⟩
  rw [aI (n:=n+1) (by omega) (by omega)]
  have go:rR (fun x:Int=>0≤x∧x≤(l.length:Int)) (fun _:Int ⊕ (Int×Bool)=>True) (fun x=>((l.length:Int) - x).toNat) ((l.length:Int) - n).toNat (.go (n+1)):=⟨⟨by omega,by omega⟩,by dsimp only; omega⟩
  exact au (fun _=>au (fun _=>trivial) fun _=>go) fun _=>go
 ·exact ⟨aq (fun h=>absurd h (by simpa using hc)) fun _=>rfl,au (fun h=>absurd h (by simpa using hc)) fun _=>trivial⟩
theorem t153:yr p=true:=by
 have h:=wE hp
 have k1:yS p=true:=t37 hp
 have k2:(eJ (kC p) (Int.ofNat (kC p).length) p (bb p 1 6) 0).isSome=true:=ZD _ (by omega) _ _
 unfold yr
 repeat' (first | with_reducible rfl | with_reducible exact k1 | with_reducible exact k2 | with_reducible exact t155 _ _ _ | refine ao ?_ (fun _ => ?_) | refine aq (fun _ => ?_) (fun _ => ?_))
omit hp in
theorem t148:Ed p=true:=ao (t71 _ _) fun _=>rfl
theorem t149 (ht:p.aa≤1):Ae p=true:=by
 have t0:=hp.t0
 unfold Ae
 rw [oZ (n:=1 - p.aa) (by omega) (by omega)]
 refine ao (by simp; omega) fun _=>aq (fun _=>rfl) fun _=>ao (by simp; omega) fun _=>rfl
omit hp in
theorem t150:zS p=true:=by
 unfold zS
 repeat' (first | with_reducible rfl | with_reducible exact t155 _ _ _ | refine ao ?_ (fun _ => ?_) | refine aq (fun _ => ?_) (fun _ => ?_))
omit hp in
theorem t151:Db p=true:=ao (t191 _ _ _) fun _=>rfl
omit hp in
theorem t152:zR p=true:=by
 unfold zR
 repeat' (first | with_reducible rfl | with_reducible exact t191 _ _ _ | refine ao ?_ (fun _ => ?_) | refine aq (fun _ => ?_) (fun _ => ?_))
theorem t36:Fy p=true:=by
 have v0:=hp.v0
 unfold Fy
 refine aq (fun _=>rfl) fun h9=>aq (fun _=>rfl) fun ht => ?_
 have h9:p.variant < 9:=by simpa using h9
 have ht:p.aa≤1:=by simpa using ht
 refine ao (by simp; omega) fun _ => ?_
 have k3:=t148 (p:=p)
 have k4:=t152 (p:=p)
 have k5:=t149 hp ht
 have k6:=t150 (p:=p)
 have k7:=t151 (p:=p)
 have k8:=t153 hp
 refine aq (fun _=>rfl) fun n0=>aq (fun _=>rfl) fun n1=>aq (fun _=>rfl) fun n2=>aq (fun _=>ao k3 fun _=>rfl) fun n3=>aq (fun _=>ao k4 fun _=>rfl) fun n4=>aq (fun _=>ao k5 fun _=>rfl) fun n5=>aq (fun _=>ao k6 fun _=>rfl) fun n6=>aq (fun _=>ao k7 fun _=>rfl) fun n7=>ao ?_ fun _=>ao k8 fun _=>rfl
 simp only [beq_eq_false_iff_ne,ne_eq,beq_iff_eq,Int.ofNat_eq_natCast] at *
 omega
theorem t20:Am p=true:=ao (t36 hp) fun _=>aq (fun _=>rfl) fun _=>ao (t37 hp) fun _=>rfl
theorem Hc:bN p=bif (yb p).1 != 0 then [] else kC p:=rfl
theorem gU:(bN p).length≤20802:=by
 unfold bN
 exact au (P:=fun l:List Mv=>l.length≤20802) (fun _=>by simp) fun _=>wE hp
end
end Kz
end
noncomputable section
namespace Kz
open Go Go.RowKit Go.Proofs
set_option maxRecDepth 100000
set_option maxHeartbeats 4000000
def ae8:KT:=[]
def W6:ax:=bO Pz ae8 [] [] []
theorem Yk:aV W6:=ak aj trivial trivial trivial
def V66:AV:=AV.agg [AV.func 36 [] [],AV.func 193 [] [],AV.func 194 [] [],AV.func 195 [] []]
def WL:Bool:=true
theorem adq:dn W6 14 120 []=Tr.ret V66:=by kernel_rfl
theorem ae0 (_:WL=true):PS Pz 120 [] V66:=qh Yk (by rw [adq]; rfl)
def VS:GT:=g0 (.ret V66)
theorem ahd:Sound Pz 120 VS:=Lk (b7 (ae0 rfl))
def ack:KT:=[(250,5,[(0,[0,2]),(1,[2])])]
def aiO:ax:=bO Pz ack [] [] []
theorem Zf:aV aiO:=ak aj trivial trivial trivial
def yu (a:Int):(Int×Int):=⟨(3),(a)⟩
def Yb (a:Int):Bool:=true
theorem ahE (a:Int) (h:Yb a=true):PS Pz 250 [.int .u8 a] ((dR .u8 .u8).res (yu a)):=pq14 Zf h
def Oz:GT:=g1 (dI .u8) (fun a=>.ret ((dR .u8 .u8).res (yu a)))
theorem Ux:Sound Pz 250 Oz:=aH fun a=>b7 (ahE a rfl)
def ag1:KT:=[(193,26,[(0,[1,2]),(1,[1,2,6]),(2,[2]),(3,[1,2,8]),(4,[2]),(5,[1,2,16]),(6,[2]),(7,[2])])]
def aew:ax:=bO Pz ag1 [(20,Qg),(61,BW),(250,Oz)] [] []
theorem Yd:aV aew:=ak aj ⟨UM,Dx,Ux,trivial⟩ trivial trivial
def xL (a:Pos):(Int×Int):=(bif decide (Int.ofNat (bN a).length > 0) then ⟨(0),(0)⟩ else (bif a.variant==4 then ⟨(wr .u8 (1+a.aa)),(8)⟩ else (bif yf a a.aa then ⟨(wr .u8 (2 - a.aa)),(1)⟩ else ⟨((yu 2).1),((yu 2).2)⟩)))
def Dp (a:Pos):Bool:=(Am (a)&&(bif decide (Int.ofNat (bN a).length > 0) then true else (bif a.variant==4 then true else (qO (a) (a.aa)&&true))))
theorem aen (a:Pos) (h:Dp a=true):PS Pz 193 [Pos.av a] ((dR .u8 .u8).res (xL a)):=pq14 Yd h
def ZX:GT:=g1 aZ (fun a=>bV (Dp a) ((dR .u8 .u8).res (xL a)))
theorem ajd:Sound Pz 193 ZX:=aH fun a=>az (aen a)
def aiL:KT:=[(288,12,[(0,[1,2]),(1,[4])])]
def aeU:ax:=bO Pz aiL [(191,gL)] [] []
theorem Xt:aV aeU:=ak aj ⟨gR,trivial⟩ trivial trivial
def dT (a:Pos) (b:Int):BitVec 64:=(aR (Pos.mk a.variant a.ae a.ab a.af a.aa a.ai a.ah a.ag a.half a.full) 0 b|||aR (Pos.mk a.variant a.ae a.ab a.af a.aa a.ai a.ah a.ag a.half a.full) 1 b)
def nW (a:Pos) (b:Int):Bool:=(cz (Pos.mk a.variant a.ae a.ab a.af a.aa a.ai a.ah a.ag a.half a.full) (0) (b)&&(cz (Pos.mk a.variant a.ae a.ab a.af a.aa a.ai a.ah a.ag a.half a.full) (1) (b)&&true))
theorem acE (a:Pos) (b:Int) (h:nW a b=true):PS Pz 288 [Pos.av a,.int .u8 b] (dU.res (dT a b)):=pq14 Xt h
def Wb:GT:=g2 aZ (dI .u8) (fun a b=>bV (nW a b) (dU.res (dT a b)))
theorem ago:Sound Pz 288 Wb:=aW fun a b=>az (acE a b)
def acU:KT:=[(289,35,[(0,[0]),(1,[0]),(2,[0]),(3,[0]),(4,[0]),(5,[0]),(6,[0]),(7,[2])])]
def aiu:ax:=bO Pz acU [] [] []
theorem XC:aV aiu:=ak aj trivial trivial trivial
def jO (a:BitVec 64):Int:=(iR BinOp.and .i64 (wr .i64 ↑((((((a >>> 1&&&6148914691236517205#64)+(a&&&6148914691236517205#64)) >>> 2&&&3689348814741910323#64)+((a >>> 1&&&6148914691236517205#64)+(a&&&6148914691236517205#64)&&&3689348814741910323#64)) >>> 4+((((a >>> 1&&&6148914691236517205#64)+(a&&&6148914691236517205#64)) >>> 2&&&3689348814741910323#64)+((a >>> 1&&&6148914691236517205#64)+(a&&&6148914691236517205#64)&&&3689348814741910323#64))&&&1085102592571150095#64)+(((((a >>> 1&&&6148914691236517205#64)+(a&&&6148914691236517205#64)) >>> 2&&&3689348814741910323#64)+((a >>> 1&&&6148914691236517205#64)+(a&&&6148914691236517205#64)&&&3689348814741910323#64)) >>> 4+((((a >>> 1&&&6148914691236517205#64)+(a&&&6148914691236517205#64)) >>> 2&&&3689348814741910323#64)+((a >>> 1&&&6148914691236517205#64)+(a&&&6148914691236517205#64)&&&3689348814741910323#64))&&&1085102592571150095#64) >>> 8+((((((a >>> 1&&&6148914691236517205#64)+(a&&&6148914691236517205#64)) >>> 2&&&3689348814741910323#64)+((a >>> 1&&&6148914691236517205#64)+(a&&&6148914691236517205#64)&&&3689348814741910323#64)) >>> 4+((((a >>> 1&&&6148914691236517205#64)+(a&&&6148914691236517205#64)) >>> 2&&&3689348814741910323#64)+((a >>> 1&&&6148914691236517205#64)+(a&&&6148914691236517205#64)&&&3689348814741910323#64))&&&1085102592571150095#64)+(((((a >>> 1&&&6148914691236517205#64)+(a&&&6148914691236517205#64)) >>> 2&&&3689348814741910323#64)+((a >>> 1&&&6148914691236517205#64)+(a&&&6148914691236517205#64)&&&3689348814741910323#64)) >>> 4+((((a >>> 1&&&6148914691236517205#64)+(a&&&6148914691236517205#64)) >>> 2&&&3689348814741910323#64)+((a >>> 1&&&6148914691236517205#64)+(a&&&6148914691236517205#64)&&&3689348814741910323#64))&&&1085102592571150095#64) >>> 8) >>> 16+((((((a >>> 1&&&6148914691236517205#64)+(a&&&6148914691236517205#64)) >>> 2&&&3689348814741910323#64)+((a >>> 1&&&6148914691236517205#64)+(a&&&6148914691236517205#64)&&&3689348814741910323#64)) >>> 4+((((a >>> 1&&&6148914691236517205#64)+(a&&&6148914691236517205#64)) >>> 2&&&3689348814741910323#64)+((a >>> 1&&&6148914691236517205#64)+(a&&&6148914691236517205#64)&&&3689348814741910323#64))&&&1085102592571150095#64)+(((((a >>> 1&&&6148914691236517205#64)+(a&&&6148914691236517205#64)) >>> 2&&&3689348814741910323#64)+((a >>> 1&&&6148914691236517205#64)+(a&&&6148914691236517205#64)&&&3689348814741910323#64)) >>> 4+((((a >>> 1&&&6148914691236517205#64)+(a&&&6148914691236517205#64)) >>> 2&&&3689348814741910323#64)+((a >>> 1&&&6148914691236517205#64)+(a&&&6148914691236517205#64)&&&3689348814741910323#64))&&&1085102592571150095#64) >>> 8+((((((a >>> 1&&&6148914691236517205#64)+(a&&&6148914691236517205#64)) >>> 2&&&3689348814741910323#64)+((a >>> 1&&&6148914691236517205#64)+(a&&&6148914691236517205#64)&&&3689348814741910323#64)) >>> 4+((((a >>> 1&&&6148914691236517205#64)+(a&&&6148914691236517205#64)) >>> 2&&&3689348814741910323#64)+((a >>> 1&&&6148914691236517205#64)+(a&&&6148914691236517205#64)&&&3689348814741910323#64))&&&1085102592571150095#64)+(((((a >>> 1&&&6148914691236517205#64)+(a&&&6148914691236517205#64)) >>> 2&&&3689348814741910323#64)+((a >>> 1&&&6148914691236517205#64)+(a&&&6148914691236517205#64)&&&3689348814741910323#64)) >>> 4+((((a >>> 1&&&6148914691236517205#64)+(a&&&6148914691236517205#64)) >>> 2&&&3689348814741910323#64)+((a >>> 1&&&6148914691236517205#64)+(a&&&6148914691236517205#64)&&&3689348814741910323#64))&&&1085102592571150095#64) >>> 8) >>> 16) >>> 32).toNat) 127)
def VQ (a:BitVec 64):Bool:=true
theorem ae1 (a:BitVec 64) (h:VQ a=true):PS Pz 289 [.u64 a] ((dI .i64).res (jO a)):=pq14 XC h
def aaf:GT:=g1 dU (fun a=>.ret ((dI .i64).res (jO a)))
theorem aha:Sound Pz 289 aaf:=aH fun a=>b7 (ae1 a rfl)
def adw:KT:=[(251,68,[(0,(1::(rn 32 13 [59,60,61,64,65,66]))),(1,(1::3::(rn 32 13 [59,60,61,64,65,66]))),(2,(1::3::11::(rn 32 13 [59,60,61,64,65,66]))),(3,(1::3::11::12::(rn 32 13 [59,60,61,64,65,66]))),(4,(1::3::11::12::(rn 32 13 [59,60,61,64,65,66]))),(5,(1::4::(rn 32 13 []))),(6,(1::4::5::(rn 32 13 []))),(7,(4::5::27::(rn 32 13 []))),(8,[2]),(9,[2]),(10,[1,3,11,46,59,60,61,64,65,66]),(11,[1,3,46,59,60,61,64,65,66]),(12,[3,6,7,59,60,61,64,65,66]),(13,[2]),(14,[2])])]
def afI:ax:=bO Pz adw [(234,sD),(288,Wb),(289,aaf),(191,gL)] [] []
theorem VL:aV afI:=ak aj ⟨uB,ago,aha,gR,trivial⟩ trivial trivial
def Cp (a:Pos):Bool:=(bif a.variant==0 then (bif a.variant==0 then (bif bm (Pos.mk a.variant a.ae a.ab a.af a.aa a.ai a.ah a.ag a.half a.full) &&& ~~~dT (Pos.mk a.variant a.ae a.ab a.af a.aa a.ai a.ah a.ag a.half a.full) 6 &&& ~~~dT (Pos.mk a.variant a.ae a.ab a.af a.aa a.ai a.ah a.ag a.half a.full) 3 &&& ~~~dT (Pos.mk a.variant a.ae a.ab a.af a.aa a.ai a.ah a.ag a.half a.full) 2 != 0#64 then (false) else (bif decide (jO (bm (Pos.mk a.variant a.ae a.ab a.af a.aa a.ai a.ah a.ag a.half a.full) &&& ~~~dT (Pos.mk a.variant a.ae a.ab a.af a.aa a.ai a.ah a.ag a.half a.full) 6)≤1) then (true) else (bif bm (Pos.mk a.variant a.ae a.ab a.af a.aa a.ai a.ah a.ag a.half a.full) &&& ~~~dT (Pos.mk a.variant a.ae a.ab a.af a.aa a.ai a.ah a.ag a.half a.full) 6==dT (Pos.mk a.variant a.ae a.ab a.af a.aa a.ai a.ah a.ag a.half a.full) 3 then (bif bm (Pos.mk a.variant a.ae a.ab a.af a.aa a.ai a.ah a.ag a.half a.full) &&& ~~~dT (Pos.mk a.variant a.ae a.ab a.af a.aa a.ai a.ah a.ag a.half a.full) 6&&&6172840429334713770#64==0#64 then (true) else (bm (Pos.mk a.variant a.ae a.ab a.af a.aa a.ai a.ah a.ag a.half a.full) &&& ~~~dT (Pos.mk a.variant a.ae a.ab a.af a.aa a.ai a.ah a.ag a.half a.full) 6 &&& ~~~6172840429334713770#64==0#64)) else (false)))) else (bif a.variant==3 then (bif a.variant==3 then (bif bm (Pos.mk a.variant a.ae a.ab a.af a.aa a.ai a.ah a.ag a.half a.full)==aR (Pos.mk a.variant a.ae a.ab a.af a.aa a.ai a.ah a.ag a.half a.full) 0 6|||aR (Pos.mk a.variant a.ae a.ab a.af a.aa a.ai a.ah a.ag a.half a.full) 1 6 then (bif jO (aR (Pos.mk a.variant a.ae a.ab a.af a.aa a.ai a.ah a.ag a.half a.full) 0 6)==1 then (jO (aR (Pos.mk a.variant a.ae a.ab a.af a.aa a.ai a.ah a.ag a.half a.full) 1 6)==1) else (false)) else (false)) else (false)) else (bif a.variant==5 then (bif bm (Pos.mk a.variant a.ae a.ab a.af a.aa a.ai a.ah a.ag a.half a.full)==aR (Pos.mk a.variant a.ae a.ab a.af a.aa a.ai a.ah a.ag a.half a.full) 0 6|||aR (Pos.mk a.variant a.ae a.ab a.af a.aa a.ai a.ah a.ag a.half a.full) 1 6 then (bif jO (aR (Pos.mk a.variant a.ae a.ab a.af a.aa a.ai a.ah a.ag a.half a.full) 0 6)==1 then (jO (aR (Pos.mk a.variant a.ae a.ab a.af a.aa a.ai a.ah a.ag a.half a.full) 1 6)==1) else (false)) else (false)) else (false)))) else (bif a.variant==1 then (bif bm (Pos.mk a.variant a.ae a.ab a.af a.aa a.ai a.ah a.ag a.half a.full) &&& ~~~dT (Pos.mk a.variant a.ae a.ab a.af a.aa a.ai a.ah a.ag a.half a.full) 6 &&& ~~~dT (Pos.mk a.variant a.ae a.ab a.af a.aa a.ai a.ah a.ag a.half a.full) 3 &&& ~~~dT (Pos.mk a.variant a.ae a.ab a.af a.aa a.ai a.ah a.ag a.half a.full) 2 != 0#64 then (false) else (bif decide (jO (bm (Pos.mk a.variant a.ae a.ab a.af a.aa a.ai a.ah a.ag a.half a.full) &&& ~~~dT (Pos.mk a.variant a.ae a.ab a.af a.aa a.ai a.ah a.ag a.half a.full) 6)≤1) then (true) else (bif bm (Pos.mk a.variant a.ae a.ab a.af a.aa a.ai a.ah a.ag a.half a.full) &&& ~~~dT (Pos.mk a.variant a.ae a.ab a.af a.aa a.ai a.ah a.ag a.half a.full) 6==dT (Pos.mk a.variant a.ae a.ab a.af a.aa a.ai a.ah a.ag a.half a.full) 3 then (bif bm (Pos.mk a.variant a.ae a.ab a.af a.aa a.ai a.ah a.ag a.half a.full) &&& ~~~dT (Pos.mk a.variant a.ae a.ab a.af a.aa a.ai a.ah a.ag a.half a.full) 6&&&6172840429334713770#64==0#64 then (true) else (bm (Pos.mk a.variant a.ae a.ab a.af a.aa a.ai a.ah a.ag a.half a.full) &&& ~~~dT (Pos.mk a.variant a.ae a.ab a.af a.aa a.ai a.ah a.ag a.half a.full) 6 &&& ~~~6172840429334713770#64==0#64)) else (false)))) else (bif a.variant==3 then (bif a.variant==3 then (bif bm (Pos.mk a.variant a.ae a.ab a.af a.aa a.ai a.ah a.ag a.half a.full)==aR (Pos.mk a.variant a.ae a.ab a.af a.aa a.ai a.ah a.ag a.half a.full) 0 6|||aR (Pos.mk a.variant a.ae a.ab a.af a.aa a.ai a.ah a.ag a.half a.full) 1 6 then (bif jO (aR (Pos.mk a.variant a.ae a.ab a.af a.aa a.ai a.ah a.ag a.half a.full) 0 6)==1 then (jO (aR (Pos.mk a.variant a.ae a.ab a.af a.aa a.ai a.ah a.ag a.half a.full) 1 6)==1) else (false)) else (false)) else (false)) else (bif a.variant==5 then (bif bm (Pos.mk a.variant a.ae a.ab a.af a.aa a.ai a.ah a.ag a.half a.full)==aR (Pos.mk a.variant a.ae a.ab a.af a.aa a.ai a.ah a.ag a.half a.full) 0 6|||aR (Pos.mk a.variant a.ae a.ab a.af a.aa a.ai a.ah a.ag a.half a.full) 1 6 then (bif jO (aR (Pos.mk a.variant a.ae a.ab a.af a.aa a.ai a.ah a.ag a.half a.full) 0 6)==1 then (jO (aR (Pos.mk a.variant a.ae a.ab a.af a.aa a.ai a.ah a.ag a.half a.full) 1 6)==1) else (false)) else (false)) else (false)))))
def yM (a:Pos):Bool:=(qk (Pos.mk a.variant a.ae a.ab a.af a.aa a.ai a.ah a.ag a.half a.full)&&(bif a.variant==0 then (bif a.variant==0 then (nW (Pos.mk a.variant a.ae a.ab a.af a.aa a.ai a.ah a.ag a.half a.full) (6)&&(nW (Pos.mk a.variant a.ae a.ab a.af a.aa a.ai a.ah a.ag a.half a.full) (3)&&(nW (Pos.mk a.variant a.ae a.ab a.af a.aa a.ai a.ah a.ag a.half a.full) (2)&&true))) else (bif a.variant==3 then (bif a.variant==3 then (cz (Pos.mk a.variant a.ae a.ab a.af a.aa a.ai a.ah a.ag a.half a.full) (0) (6)&&(cz (Pos.mk a.variant a.ae a.ab a.af a.aa a.ai a.ah a.ag a.half a.full) (1) (6)&&true)) else true) else (bif a.variant==5 then (cz (Pos.mk a.variant a.ae a.ab a.af a.aa a.ai a.ah a.ag a.half a.full) (0) (6)&&(cz (Pos.mk a.variant a.ae a.ab a.af a.aa a.ai a.ah a.ag a.half a.full) (1) (6)&&true)) else true))) else (bif a.variant==1 then (nW (Pos.mk a.variant a.ae a.ab a.af a.aa a.ai a.ah a.ag a.half a.full) (6)&&(nW (Pos.mk a.variant a.ae a.ab a.af a.aa a.ai a.ah a.ag a.half a.full) (3)&&(nW (Pos.mk a.variant a.ae a.ab a.af a.aa a.ai a.ah a.ag a.half a.full) (2)&&true))) else (bif a.variant==3 then (bif a.variant==3 then (cz (Pos.mk a.variant a.ae a.ab a.af a.aa a.ai a.ah a.ag a.half a.full) (0) (6)&&(cz (Pos.mk a.variant a.ae a.ab a.af a.aa a.ai a.ah a.ag a.half a.full) (1) (6)&&true)) else true) else (bif a.variant==5 then (cz (Pos.mk a.variant a.ae a.ab a.af a.aa a.ai a.ah a.ag a.half a.full) (0) (6)&&(cz (Pos.mk a.variant a.ae a.ab a.af a.aa a.ai a.ah a.ag a.half a.full) (1) (6)&&true)) else true)))))
theorem aed (a:Pos) (h:yM a=true):PS Pz 251 [Pos.av a] (dB.res (Cp a)):=pq14 VL h
def XW:GT:=g1 aZ (fun a=>bV (yM a) (dB.res (Cp a)))
theorem aiE:Sound Pz 251 XW:=aH fun a=>az (aed a)
def ae7:KT:=[(194,7,[(0,[1,2]),(1,[2,4]),(2,[2]),(3,[2])])]
def aci:ax:=bO Pz ae7 [(251,XW),(250,Oz)] [] []
theorem Yw:aV aci:=ak aj ⟨aiE,Ux,trivial⟩ trivial trivial
def yP (a:Pos):(Int×Int):=(bif Cp (Pos.mk a.variant a.ae a.ab a.af a.aa a.ai a.ah a.ag a.half a.full) then ⟨((yu 3).1),((yu 3).2)⟩ else ⟨(0),(0)⟩)
def Ei (a:Pos):Bool:=(yM (Pos.mk a.variant a.ae a.ab a.af a.aa a.ai a.ah a.ag a.half a.full)&&true)
theorem aio (a:Pos) (h:Ei a=true):PS Pz 194 [Pos.av a] ((dR .u8 .u8).res (yP a)):=pq14 Yw h
def aa6:GT:=g1 aZ (fun a=>bV (Ei a) ((dR .u8 .u8).res (yP a)))
theorem afF:Sound Pz 194 aa6:=aH fun a=>az (aio a)
def agD:KT:=[(195,8,[(0,[1,2]),(1,[2,5]),(2,[2]),(3,[2])])]
def afw:ax:=bO Pz agD [(250,Oz)] [] []
theorem V3:aV afw:=ak aj ⟨Ux,trivial⟩ trivial trivial
def Aw (a:Pos):(Int×Int):=(bif decide (a.half ≥ 150) then ⟨((yu 4).1),((yu 4).2)⟩ else ⟨(0),(0)⟩)
def Xi (a:Pos):Bool:=true
theorem afo (a:Pos) (h:Xi a=true):PS Pz 195 [Pos.av a] ((dR .u8 .u8).res (Aw a)):=pq14 V3 h
def VO:GT:=g1 aZ (fun a=>.ret ((dR .u8 .u8).res (Aw a)))
theorem afr:Sound Pz 195 VO:=aH fun a=>b7 (afo a rfl)
def K60:KT:=[(60,29,[(0,[1,2,10,11,12]),(1,[1,2,13]),(2,[2]),(3,[1,2,15,16]),(4,[1,2,15,16,17]),(5,[1,2,4,15,16]),(6,[1,2,5,15,16]),(7,[1,2,5,15,16,25]),(8,[2]),(9,[1,2,15,16]),(10,[2])])]
def B60:ax:=bO Pz K60 [(36,G36),(120,VS),(193,ZX),(194,aa6),(195,VO)] [] []
theorem ab1:aV B60:=ak aj ⟨s36,ahd,ajd,afF,afr,trivial⟩ trivial trivial
def Gc (a:Pos):(Int×Int):=(bif decide (a.variant ≥ 9) then ⟨(0),(0)⟩ else (bif decide (a.aa > 1) then ⟨(0),(0)⟩ else (bif (yb a).1 != 0 then ⟨((yb a).1),((yb a).2)⟩ else (bif (xL a).1 != 0 then ⟨((xL a).1),((xL a).2)⟩ else (bif (yP a).1 != 0 then ⟨((yP a).1),((yP a).2)⟩ else (bif (Aw a).1 != 0 then ⟨((Aw a).1),((Aw a).2)⟩ else ⟨(0),(0)⟩))))))
def Mh (a:Pos):Bool:=(bif decide (a.variant ≥ 9) then true else (bif decide (a.aa > 1) then true else (Fy (a)&&(bif (yb a).1 != 0 then true else (Dp (a)&&(bif (xL a).1 != 0 then true else (Ei (a)&&true)))))))
theorem P60 (a:Pos) (h:Mh a=true):PS Pz 60 [Pos.av a] ((dR .u8 .u8).res (Gc a)):=pq14 ab1 h
def G60:GT:=g1 aZ (fun a=>bV (Mh a) ((dR .u8 .u8).res (Gc a)))
theorem s60:Sound Pz 60 G60:=aH fun a=>az (P60 a)
def K32:KT:=[(32,23,[(0,[2,3]),(1,[5]),(2,[5,13]),(3,[4]),(4,[18]),(5,[4]),(6,[4])])]
def B32:ax:=bO Pz K32 [(59,G59),(60,G60),(61,BW)] [] []
theorem ajD:aV B32:=ak aj ⟨s59,s60,Dx,trivial⟩ trivial trivial
def nG (a:Pos) (b:Mv):List UInt8:=(bif (Gc (jg a b).1).2==1 then ((ByteArray.mk #[35]).data.toList) else (bif yf (jg a b).1 (jg a b).1.aa then ((ByteArray.mk #[43]).data.toList) else ((ByteArray.mk #[]).data.toList)))
def A0 (a:Pos) (b:Mv):Bool:=(Cs a b&&(Mh (jg a b).1&&(bif (Gc (jg a b).1).2==1 then true else (qO (jg a b).1 (jg a b).1.aa&&true))))
theorem P32 (a:Pos) (b:Mv) (h:A0 a b=true):PS Pz 32 [Pos.av a,Mv.av b] (dS.res (nG a b)):=pq14 ajD h
def V6:GT:=g2 aZ jl (fun a b=>bV (A0 a b) (dS.res (nG a b)))
theorem s32:Sound Pz 32 V6:=aW fun a b=>az (P32 a b)
def X9:KT:=[(172,18,[(0,[0]),(1,[5,6,7]),(2,[5,6,7,8]),(3,[4,5,6,7]),(4,[5,6,7,16]),(5,[2]),(6,[5,6,7]),(7,[2])])]
def Uy:ax:=bO Pz X9 [] [] []
theorem Mx:aV Uy:=ak aj trivial trivial trivial
def K2 (p1:(List Int)) (p2:Int) (x:(Int)):St:=St.mk (an 5 (.list (ET.i .i64) p1 .arg::.int .i64 p2::.int .i64 x::(an 10 []))) (Hp.mk [] [] [] 0 0 0)
def Kc (p1:(List Int)) (p2:Int):Unit ⊕ (Int×Bool)→Out
 | (.inl (y))=>.ret (St.mk (AV.any::AV.any::AV.aP false::(an 15 [])) (Hp.mk [] [] [] 0 0 0))
 | (.inr (y))=>.exit 0 (St.mk (an 5 (AV.list (ET.i .i64) p1 Tk.arg::AV.int .i64 p2::AV.int .i64 y.1::AV.bool y.2::(an 9 []))) (Hp.mk [] [] [] 0 0 0))
def Mo (p1:(List Int)) (p2:Int) (x:(Int)):aF (Int) (Unit ⊕ (Int×Bool)):=(bif decide (x < p2) then (bif decide (p1.getD x.toNat default < 0) then (aF.out (.inl (()))) else (bif decide (p1.getD x.toNat default ≥ 64) then (aF.out (.inl (()))) else (aF.go (wr .i64 (x+1))))) else (aF.out (.inr ((x,decide (x < p2))))))
def G1 (p1:(List Int)) (p2:Int) (x:(Int)):Bool:=(bif decide (x < p2) then (decide (0≤x)&&decide (x < Int.ofNat p1.length)&&true) else true)
def nO (p1:(List Int)) (p2:Int) (x:(Int)):Option (Unit ⊕ (Int×Bool)):=cP (fun x=>bif G1 p1 p2 x then Mo p1 p2 x else .bad) many x
abbrev Jt {α:Type} (k:(List Int)→Int→(Int)→α) (s:St):α:=k (tL (ET.i .i64) (tT s 5)) (tI (tT s 6)) ((tI (tT s 7)))
theorem TW (p1:(List Int)) (p2:Int) (x:(Int)) (r:Unit ⊕ (Int×Bool)) (h:nO p1 p2 x=some r):aB Pz (bj Pz 172 2) (K2 p1 p2 x) (Kc p1 p2 r):=aB.vF (m:=12) (fn:=172) Mx (Jt fun _ _ x=>some x) (fun o=>match o with | .ret s=>some (.inl ()) | .exit 0 s=>some (.inr ((tI (tT s 7)),(tB (tT s 8)))) | _=>none) (fun r=>by cases r <;> rfl) (fun _=>by kernel_rfl) (fun _=>by kernel_rfl) (fun _=>by kernel_rfl) (fun _=>by kernel_rfl) many x r h
def Ho (b:Code) (s:St):Tr Out:=Jt (fun p1 p2 x=>vM b (bj Pz 172 2) s (K2 p1 p2 x) (nO p1 p2 x) (Kc p1 p2)) s
theorem Md:∀ b,aY Pz b (Ho b):=fun _ _ _ h=>dq (TW _ _ _) h
def abM:ax:=bO Pz X9 [] [(172,2,Ho)] []
theorem W7:aV abM:=ak aj trivial ⟨Md,trivial⟩ trivial
def EI (a:List Int):Bool:=(bif cq ((nO a (Int.ofNat a.length) 0).getD default) then (false) else (true))
def yB (a:List Int):Bool:=((nO a (Int.ofNat a.length) 0).isSome&&bif cq ((nO a (Int.ofNat a.length) 0).getD default) then true else true)
theorem acW (a:List Int) (h:yB a=true):PS Pz 172 [.list (.i .i64) a .arg] (dB.res (EI a)):=pq14 W7 h
def Ow:GT:=g1 (dL (.i .i64)) (fun a=>bV (yB a) (dB.res (EI a)))
theorem T4:Sound Pz 172 Ow:=aH fun a=>az (acW a)
def ajM:KT:=[(173,9,[(0,[0]),(1,[0,6]),(2,[2]),(3,[2])])]
def agx:ax:=bO Pz ajM [(172,Ow)] [] []
theorem aaK:aV agx:=ak aj ⟨T4,trivial⟩ trivial trivial
def Sa (a:Int):Int:=(bif !EI [a] then (-1) else (a.tmod 8))
def KQ (a:Int):Bool:=(yB [a]&&true)
theorem ahB (a:Int) (h:KQ a=true):PS Pz 173 [.int .i64 a] ((dI .i64).res (Sa a)):=pq14 aaK h
def Yc:GT:=g1 (dI .i64) (fun a=>bV (KQ a) ((dI .i64).res (Sa a)))
theorem ad6:Sound Pz 173 Yc:=aH fun a=>az (ahB a)
def ad3:KT:=[(174,9,[(0,[0]),(1,[0,6]),(2,[2]),(3,[2])])]
def ad4:ax:=bO Pz ad3 [(172,Ow)] [] []
theorem aaD:aV ad4:=ak aj ⟨T4,trivial⟩ trivial trivial
def Uh (a:Int):Int:=(bif !EI [a] then (-1) else (wr .i64 (a.tdiv 8)))
def GR (a:Int):Bool:=(yB [a]&&true)
theorem aco (a:Int) (h:GR a=true):PS Pz 174 [.int .i64 a] ((dI .i64).res (Uh a)):=pq14 aaD h
def Zn:GT:=g1 (dI .i64) (fun a=>bV (GR a) ((dI .i64).res (Uh a)))
theorem afZ:Sound Pz 174 Zn:=aH fun a=>az (aco a)
def K98:KT:=[(98,17,[(0,[0]),(1,[0,6]),(2,[2]),(3,[2])])]
def B98:ax:=bO Pz K98 [(172,Ow),(173,Yc),(174,Zn)] [] []
theorem agB:aV B98:=ak aj ⟨T4,ad6,afZ,trivial⟩ trivial trivial
def bD (a:Int):List UInt8:=(bif !EI [a] then ((ByteArray.mk #[]).data.toList) else (List.map ub [wr .u8 (wr .i64 (97+Sa a)),wr .u8 (wr .i64 (49+Uh a))]))
def mI (a:Int):Bool:=(yB [a]&&(bif !EI [a] then true else (KQ a&&(GR a&&true))))
theorem P98 (a:Int) (h:mI a=true):PS Pz 98 [.int .i64 a] (dS.res (bD a)):=pq14 agB h
def VI:GT:=g1 (dI .i64) (fun a=>bV (mI a) (dS.res (bD a)))
theorem Xb:Sound Pz 98 VI:=aH fun a=>az (P98 a)
def K99:KT:=[(99,11,[(0,[1]),(1,[2])])]
def B99:ax:=bO Pz K99 [] [] []
theorem afc:aV B99:=ak aj trivial trivial trivial
def MX (a:Mv):Bool:=(bif a.aD==0 then (!a.bq) else (false))
def af0 (a:Mv):Bool:=true
theorem P99 (a:Mv) (h:af0 a=true):PS Pz 99 [Mv.av a] (dB.res (MX a)):=pq14 afc h
def G99:GT:=g1 jl (fun a=>.ret (dB.res (MX a)))
theorem s99:Sound Pz 99 G99:=aH fun a=>b7 (P99 a rfl)
def ajj:KT:=[(241,9,[(0,[0]),(1,[2])])]
def agJ:ax:=bO Pz ajj [] [] []
theorem Xx:aV agJ:=ak aj trivial trivial trivial
def ER (a:Int):Bool:=(bif decide (a ≥ 0) then (decide (a < 64)) else (false))
def aaT (a:Int):Bool:=true
theorem agf (a:Int) (h:aaT a=true):PS Pz 241 [.int .i64 a] (dB.res (ER a)):=pq14 Xx h
def XG:GT:=g1 (dI .i64) (fun a=>.ret (dB.res (ER a)))
theorem ai7:Sound Pz 241 XG:=aH fun a=>b7 (agf a rfl)
def ai5:KT:=[(176,20,[(0,[1,2]),(1,[1,2,15]),(2,[4]),(3,[4])])]
def ah9:ax:=bO Pz ai5 [(212,wQ),(241,XG)] [] []
theorem aa4:aV ah9:=ak aj ⟨zX,ai7,trivial⟩ trivial trivial
def Lv (a:Pos) (b:Int):Int:=(bif !ER b then (0) else (bif !eR (a.ae.getD (scale 1 b).toNat 0) then (0) else (a.ae.getD (scale 1 b).toNat 0)))
def Dq (a:Pos) (b:Int):Bool:=(bif !ER b then true else (decide (0≤b)&&decide (b < Int.ofNat 64)&&(bif !eR (a.ae.getD (scale 1 b).toNat 0) then true else (decide (0≤b)&&decide (b < Int.ofNat 64)&&true))))
theorem adO (a:Pos) (b:Int) (h:Dq a b=true):PS Pz 176 [Pos.av a,.int .i64 b] ((dI .u8).res (Lv a b)):=pq14 aa4 h
def Ye:GT:=g2 aZ (dI .i64) (fun a b=>bV (Dq a b) ((dI .u8).res (Lv a b)))
theorem ahT:Sound Pz 176 Ye:=aW fun a b=>az (adO a b)
def ajF:KT:=[(100,11,[(0,[2,3]),(1,[4])])]
def afx:ax:=bO Pz ajF [(175,iI),(176,Ye)] [] []
theorem W9:aV afx:=ak aj ⟨jf,ahT,trivial⟩ trivial trivial
def bU (a:Pos) (b:Mv):Int:=(bk (Lv a (wr .i64 b.aw)))
def oq (a:Pos) (b:Mv):Bool:=(Dq a (wr .i64 b.aw)&&true)
theorem aim (a:Pos) (b:Mv) (h:oq a b=true):PS Pz 100 [Pos.av a,Mv.av b] ((dI .u8).res (bU a b)):=pq14 W9 h
def Mi:GT:=g2 aZ jl (fun a b=>bV (oq a b) ((dI .u8).res (bU a b)))
theorem RG:Sound Pz 100 Mi:=aW fun a b=>az (aim a b)
def adi:KT:=[(242,5,[(0,[0]),(1,[4]),(2,[2]),(3,[2])])]
def adW:ax:=bO Pz adi [] [] []
theorem VK:aV adW:=ak aj trivial trivial trivial
def NG (a:Int):List UInt8:=(bif a==0 then ((ByteArray.mk #[46,80,78,66,82,81,75]).data.toList) else ((ByteArray.mk #[46,112,110,98,114,113,107]).data.toList))
def Qr (a:Int):Bool:=true
theorem ai3 (a:Int) (h:Qr a=true):PS Pz 242 [.int .u8 a] (dS.res (NG a)):=pq14 VK h
def X7:GT:=g1 (dI .u8) (fun a=>.ret (dS.res (NG a)))
theorem adl:Sound Pz 242 X7:=aH fun a=>b7 (ai3 a rfl)
def aji:KT:=[(177,16,[(0,[0]),(1,[0,6]),(2,[2]),(3,[0,3]),(4,[2])])]
def adx:ax:=bO Pz aji [(212,wQ),(175,iI),(242,X7),(204,OO)] [] []
theorem XE:aV adx:=ak aj ⟨zX,jf,adl,SU,trivial⟩ trivial trivial
def Tv (a:Int):List UInt8:=(bif !eR a then ((ByteArray.mk #[]).data.toList) else (List.drop (bk a).toNat (List.take (wr .u8 (bk a+1)).toNat (NG (zH a)))))
def IQ (a:Int):Bool:=(bif !eR a then true else (Pp a&&(PQ a&&(Qr (zH a)&&(decide (0≤bk a)&&decide (bk a≤wr .u8 (bk a+1))&&decide (wr .u8 (bk a+1)≤Int.ofNat (NG (zH a)).length)&&true)))))
theorem adu (a:Int) (h:IQ a=true):PS Pz 177 [.int .u8 a] (dS.res (Tv a)):=pq14 XE h
def Z9:GT:=g1 (dI .u8) (fun a=>bV (IQ a) (dS.res (Tv a)))
theorem adH:Sound Pz 177 Z9:=aH fun a=>az (adu a)
def agT:KT:=[(101,6,[(0,[0]),(1,[2])])]
def ajA:ax:=bO Pz agT [(177,Z9),(178,nJ)] [] []
theorem V5:aV ajA:=ak aj ⟨adH,pD,trivial⟩ trivial trivial
def bw (a:Int):List UInt8:=(Tv (jW 0 a))
def c9 (a:Int):Bool:=(IQ (jW 0 a)&&true)
theorem adh (a:Int) (h:c9 a=true):PS Pz 101 [.int .u8 a] (dS.res (bw a)):=pq14 V5 h
def aaB:GT:=g1 (dI .u8) (fun a=>bV (c9 a) (dS.res (bw a)))
theorem ac5:Sound Pz 101 aaB:=aH fun a=>az (adh a)
def K49:KT:=[(49,80,[(0,[2,3,4]),(1,[2,3,4,7]),(2,[2,3,4,7,8]),(3,[2,3,4,7,8,21]),(4,[2,3,4,7,8]),(5,[2,4,7,8,9]),(6,[6]),(7,[2,4,7,8,9,33]),(8,[6]),(9,[2,4,7,8,9,43]),(10,[6]),(11,[2,4,7,8,9,46]),(12,[6]),(13,[2,4,7,8,9,56]),(14,[4,7,8,10]),(15,[4,7,8,10,61]),(16,[4,10]),(17,[4,10,72]),(18,[10]),(19,[6])]),(102,13,[(0,[0,2]),(1,[2,3]),(2,[2])])]
def B49:ax:=bO Pz K49 [(80,G80),(98,VI),(99,G99),(100,Mi),(101,aaB)] [] []
theorem afB:aV B49:=ak aj ⟨s80,Xb,s99,RG,ac5,trivial⟩ trivial trivial
def mF (a:Pos) (b:Mv) (c:List UInt8):List UInt8:=(bif MX b then (bif kc a b then (bif b.bq then (bif decide (b.to > b.aw) then ((ByteArray.mk #[79,45,79]).data.toList) else (bif b.bq then ((ByteArray.mk #[79,45,79,45,79]).data.toList) else (bif b.aD != 0 then (bw b.aD++(ByteArray.mk #[64]).data.toList++bD (wr .i64 b.to)) else (bif bU a b==1 then (bif !(ByteArray.mk #[120]).data.toList==(ByteArray.mk #[]).data.toList then (bif b.aM != 0 then (List.drop 0 (List.take 1 (bD (wr .i64 b.aw)))++(ByteArray.mk #[120]).data.toList++bD (wr .i64 b.to)++((ByteArray.mk #[61]).data.toList++bw b.aM)) else (List.drop 0 (List.take 1 (bD (wr .i64 b.aw)))++(ByteArray.mk #[120]).data.toList++bD (wr .i64 b.to))) else (bif b.aM != 0 then (bD (wr .i64 b.to)++((ByteArray.mk #[61]).data.toList++bw b.aM)) else (bD (wr .i64 b.to)))) else (bw (bU a b)++c++(ByteArray.mk #[120]).data.toList++bD (wr .i64 b.to)))))) else (bif b.bq then ((ByteArray.mk #[79,45,79,45,79]).data.toList) else (bif b.aD != 0 then (bw b.aD++(ByteArray.mk #[64]).data.toList++bD (wr .i64 b.to)) else (bif bU a b==1 then (bif !(ByteArray.mk #[120]).data.toList==(ByteArray.mk #[]).data.toList then (bif b.aM != 0 then (List.drop 0 (List.take 1 (bD (wr .i64 b.aw)))++(ByteArray.mk #[120]).data.toList++bD (wr .i64 b.to)++((ByteArray.mk #[61]).data.toList++bw b.aM)) else (List.drop 0 (List.take 1 (bD (wr .i64 b.aw)))++(ByteArray.mk #[120]).data.toList++bD (wr .i64 b.to))) else (bif b.aM != 0 then (bD (wr .i64 b.to)++((ByteArray.mk #[61]).data.toList++bw b.aM)) else (bD (wr .i64 b.to)))) else (bw (bU a b)++c++(ByteArray.mk #[120]).data.toList++bD (wr .i64 b.to)))))) else (bif b.bq then (bif decide (b.to > b.aw) then ((ByteArray.mk #[79,45,79]).data.toList) else (bif b.bq then ((ByteArray.mk #[79,45,79,45,79]).data.toList) else (bif b.aD != 0 then (bw b.aD++(ByteArray.mk #[64]).data.toList++bD (wr .i64 b.to)) else (bif bU a b==1 then (bif !(ByteArray.mk #[]).data.toList==(ByteArray.mk #[]).data.toList then (bif b.aM != 0 then (List.drop 0 (List.take 1 (bD (wr .i64 b.aw)))++(ByteArray.mk #[]).data.toList++bD (wr .i64 b.to)++((ByteArray.mk #[61]).data.toList++bw b.aM)) else (List.drop 0 (List.take 1 (bD (wr .i64 b.aw)))++(ByteArray.mk #[]).data.toList++bD (wr .i64 b.to))) else (bif b.aM != 0 then (bD (wr .i64 b.to)++((ByteArray.mk #[61]).data.toList++bw b.aM)) else (bD (wr .i64 b.to)))) else (bw (bU a b)++c++(ByteArray.mk #[]).data.toList++bD (wr .i64 b.to)))))) else (bif b.bq then ((ByteArray.mk #[79,45,79,45,79]).data.toList) else (bif b.aD != 0 then (bw b.aD++(ByteArray.mk #[64]).data.toList++bD (wr .i64 b.to)) else (bif bU a b==1 then (bif !(ByteArray.mk #[]).data.toList==(ByteArray.mk #[]).data.toList then (bif b.aM != 0 then (List.drop 0 (List.take 1 (bD (wr .i64 b.aw)))++(ByteArray.mk #[]).data.toList++bD (wr .i64 b.to)++((ByteArray.mk #[61]).data.toList++bw b.aM)) else (List.drop 0 (List.take 1 (bD (wr .i64 b.aw)))++(ByteArray.mk #[]).data.toList++bD (wr .i64 b.to))) else (bif b.aM != 0 then (bD (wr .i64 b.to)++((ByteArray.mk #[61]).data.toList++bw b.aM)) else (bD (wr .i64 b.to)))) else (bw (bU a b)++c++(ByteArray.mk #[]).data.toList++bD (wr .i64 b.to))))))) else (bif b.bq then (bif decide (b.to > b.aw) then ((ByteArray.mk #[79,45,79]).data.toList) else (bif b.bq then ((ByteArray.mk #[79,45,79,45,79]).data.toList) else (bif b.aD != 0 then (bw b.aD++(ByteArray.mk #[64]).data.toList++bD (wr .i64 b.to)) else (bif bU a b==1 then (bif !(ByteArray.mk #[]).data.toList==(ByteArray.mk #[]).data.toList then (bif b.aM != 0 then (List.drop 0 (List.take 1 (bD (wr .i64 b.aw)))++(ByteArray.mk #[]).data.toList++bD (wr .i64 b.to)++((ByteArray.mk #[61]).data.toList++bw b.aM)) else (List.drop 0 (List.take 1 (bD (wr .i64 b.aw)))++(ByteArray.mk #[]).data.toList++bD (wr .i64 b.to))) else (bif b.aM != 0 then (bD (wr .i64 b.to)++((ByteArray.mk #[61]).data.toList++bw b.aM)) else (bD (wr .i64 b.to)))) else (bw (bU a b)++c++(ByteArray.mk #[]).data.toList++bD (wr .i64 b.to)))))) else (bif b.bq then ((ByteArray.mk #[79,45,79,45,79]).data.toList) else (bif b.aD != 0 then (bw b.aD++(ByteArray.mk #[64]).data.toList++bD (wr .i64 b.to)) else (bif bU a b==1 then (bif !(ByteArray.mk #[]).data.toList==(ByteArray.mk #[]).data.toList then (bif b.aM != 0 then (List.drop 0 (List.take 1 (bD (wr .i64 b.aw)))++(ByteArray.mk #[]).data.toList++bD (wr .i64 b.to)++((ByteArray.mk #[61]).data.toList++bw b.aM)) else (List.drop 0 (List.take 1 (bD (wr .i64 b.aw)))++(ByteArray.mk #[]).data.toList++bD (wr .i64 b.to))) else (bif b.aM != 0 then (bD (wr .i64 b.to)++((ByteArray.mk #[61]).data.toList++bw b.aM)) else (bD (wr .i64 b.to)))) else (bw (bU a b)++c++(ByteArray.mk #[]).data.toList++bD (wr .i64 b.to)))))))
def oX (a:Pos) (b:Mv) (c:List UInt8):Bool:=(mI (wr .i64 b.to)&&(bif MX b then (wI a b&&(bif kc a b then (oq a b&&(bif b.bq then (bif decide (b.to > b.aw) then true else (bif b.bq then true else (bif b.aD != 0 then (c9 b.aD&&(decide ((bw b.aD).length+1≤1073741824)&&(decide ((bw b.aD++(ByteArray.mk #[64]).data.toList).length+(bD (wr .i64 b.to)).length≤1073741824)&&true))) else (bif bU a b==1 then (bif !(ByteArray.mk #[120]).data.toList==(ByteArray.mk #[]).data.toList then (mI (wr .i64 b.aw)&&(decide (0≤1)&&decide (1≤Int.ofNat (bD (wr .i64 b.aw)).length)&&(decide (0≤1)&&decide (1≤Int.ofNat (bD (wr .i64 b.aw)).length)&&(decide ((List.drop 0 (List.take 1 (bD (wr .i64 b.aw)))).length+1≤1073741824)&&(decide ((List.drop 0 (List.take 1 (bD (wr .i64 b.aw)))++(ByteArray.mk #[120]).data.toList).length+(bD (wr .i64 b.to)).length≤1073741824)&&(bif b.aM != 0 then (c9 b.aM&&(decide (1+(bw b.aM).length≤1073741824)&&(decide ((List.drop 0 (List.take 1 (bD (wr .i64 b.aw)))++(ByteArray.mk #[120]).data.toList++bD (wr .i64 b.to)).length+((ByteArray.mk #[61]).data.toList++bw b.aM).length≤1073741824)&&true))) else true)))))) else (bif b.aM != 0 then (c9 b.aM&&(decide (1+(bw b.aM).length≤1073741824)&&(decide ((bD (wr .i64 b.to)).length+((ByteArray.mk #[61]).data.toList++bw b.aM).length≤1073741824)&&true))) else true)) else (c9 (bU a b)&&(decide ((bw (bU a b)).length+c.length≤1073741824)&&(decide ((bw (bU a b)++c).length+1≤1073741824)&&(decide ((bw (bU a b)++c++(ByteArray.mk #[120]).data.toList).length+(bD (wr .i64 b.to)).length≤1073741824)&&true)))))))) else (bif b.bq then true else (bif b.aD != 0 then (c9 b.aD&&(decide ((bw b.aD).length+1≤1073741824)&&(decide ((bw b.aD++(ByteArray.mk #[64]).data.toList).length+(bD (wr .i64 b.to)).length≤1073741824)&&true))) else (bif bU a b==1 then (bif !(ByteArray.mk #[120]).data.toList==(ByteArray.mk #[]).data.toList then (mI (wr .i64 b.aw)&&(decide (0≤1)&&decide (1≤Int.ofNat (bD (wr .i64 b.aw)).length)&&(decide (0≤1)&&decide (1≤Int.ofNat (bD (wr .i64 b.aw)).length)&&(decide ((List.drop 0 (List.take 1 (bD (wr .i64 b.aw)))).length+1≤1073741824)&&(decide ((List.drop 0 (List.take 1 (bD (wr .i64 b.aw)))++(ByteArray.mk #[120]).data.toList).length+(bD (wr .i64 b.to)).length≤1073741824)&&(bif b.aM != 0 then (c9 b.aM&&(decide (1+(bw b.aM).length≤1073741824)&&(decide ((List.drop 0 (List.take 1 (bD (wr .i64 b.aw)))++(ByteArray.mk #[120]).data.toList++bD (wr .i64 b.to)).length+((ByteArray.mk #[61]).data.toList++bw b.aM).length≤1073741824)&&true))) else true)))))) else (bif b.aM != 0 then (c9 b.aM&&(decide (1+(bw b.aM).length≤1073741824)&&(decide ((bD (wr .i64 b.to)).length+((ByteArray.mk #[61]).data.toList++bw b.aM).length≤1073741824)&&true))) else true)) else (c9 (bU a b)&&(decide ((bw (bU a b)).length+c.length≤1073741824)&&(decide ((bw (bU a b)++c).length+1≤1073741824)&&(decide ((bw (bU a b)++c++(ByteArray.mk #[120]).data.toList).length+(bD (wr .i64 b.to)).length≤1073741824)&&true))))))))) else (oq a b&&(bif b.bq then (bif decide (b.to > b.aw) then true else (bif b.bq then true else (bif b.aD != 0 then (c9 b.aD&&(decide ((bw b.aD).length+1≤1073741824)&&(decide ((bw b.aD++(ByteArray.mk #[64]).data.toList).length+(bD (wr .i64 b.to)).length≤1073741824)&&true))) else (bif bU a b==1 then (bif !(ByteArray.mk #[]).data.toList==(ByteArray.mk #[]).data.toList then (mI (wr .i64 b.aw)&&(decide (0≤1)&&decide (1≤Int.ofNat (bD (wr .i64 b.aw)).length)&&(decide (0≤1)&&decide (1≤Int.ofNat (bD (wr .i64 b.aw)).length)&&(decide ((List.drop 0 (List.take 1 (bD (wr .i64 b.aw)))).length+0≤1073741824)&&(decide ((List.drop 0 (List.take 1 (bD (wr .i64 b.aw)))++(ByteArray.mk #[]).data.toList).length+(bD (wr .i64 b.to)).length≤1073741824)&&(bif b.aM != 0 then (c9 b.aM&&(decide (1+(bw b.aM).length≤1073741824)&&(decide ((List.drop 0 (List.take 1 (bD (wr .i64 b.aw)))++(ByteArray.mk #[]).data.toList++bD (wr .i64 b.to)).length+((ByteArray.mk #[61]).data.toList++bw b.aM).length≤1073741824)&&true))) else true)))))) else (bif b.aM != 0 then (c9 b.aM&&(decide (1+(bw b.aM).length≤1073741824)&&(decide ((bD (wr .i64 b.to)).length+((ByteArray.mk #[61]).data.toList++bw b.aM).length≤1073741824)&&true))) else true)) else (c9 (bU a b)&&(decide ((bw (bU a b)).length+c.length≤1073741824)&&(decide ((bw (bU a b)++c).length+0≤1073741824)&&(decide ((bw (bU a b)++c++(ByteArray.mk #[]).data.toList).length+(bD (wr .i64 b.to)).length≤1073741824)&&true)))))))) else (bif b.bq then true else (bif b.aD != 0 then (c9 b.aD&&(decide ((bw b.aD).length+1≤1073741824)&&(decide ((bw b.aD++(ByteArray.mk #[64]).data.toList).length+(bD (wr .i64 b.to)).length≤1073741824)&&true))) else (bif bU a b==1 then (bif !(ByteArray.mk #[]).data.toList==(ByteArray.mk #[]).data.toList then (mI (wr .i64 b.aw)&&(decide (0≤1)&&decide (1≤Int.ofNat (bD (wr .i64 b.aw)).length)&&(decide (0≤1)&&decide (1≤Int.ofNat (bD (wr .i64 b.aw)).length)&&(decide ((List.drop 0 (List.take 1 (bD (wr .i64 b.aw)))).length+0≤1073741824)&&(decide ((List.drop 0 (List.take 1 (bD (wr .i64 b.aw)))++(ByteArray.mk #[]).data.toList).length+(bD (wr .i64 b.to)).length≤1073741824)&&(bif b.aM != 0 then (c9 b.aM&&(decide (1+(bw b.aM).length≤1073741824)&&(decide ((List.drop 0 (List.take 1 (bD (wr .i64 b.aw)))++(ByteArray.mk #[]).data.toList++bD (wr .i64 b.to)).length+((ByteArray.mk #[61]).data.toList++bw b.aM).length≤1073741824)&&true))) else true)))))) else (bif b.aM != 0 then (c9 b.aM&&(decide (1+(bw b.aM).length≤1073741824)&&(decide ((bD (wr .i64 b.to)).length+((ByteArray.mk #[61]).data.toList++bw b.aM).length≤1073741824)&&true))) else true)) else (c9 (bU a b)&&(decide ((bw (bU a b)).length+c.length≤1073741824)&&(decide ((bw (bU a b)++c).length+0≤1073741824)&&(decide ((bw (bU a b)++c++(ByteArray.mk #[]).data.toList).length+(bD (wr .i64 b.to)).length≤1073741824)&&true))))))))))) else (oq a b&&(bif b.bq then (bif decide (b.to > b.aw) then true else (bif b.bq then true else (bif b.aD != 0 then (c9 b.aD&&(decide ((bw b.aD).length+1≤1073741824)&&(decide ((bw b.aD++(ByteArray.mk #[64]).data.toList).length+(bD (wr .i64 b.to)).length≤1073741824)&&true))) else (bif bU a b==1 then (bif !(ByteArray.mk #[]).data.toList==(ByteArray.mk #[]).data.toList then (mI (wr .i64 b.aw)&&(decide (0≤1)&&decide (1≤Int.ofNat (bD (wr .i64 b.aw)).length)&&(decide (0≤1)&&decide (1≤Int.ofNat (bD (wr .i64 b.aw)).length)&&(decide ((List.drop 0 (List.take 1 (bD (wr .i64 b.aw)))).length+0≤1073741824)&&(decide ((List.drop 0 (List.take 1 (bD (wr .i64 b.aw)))++(ByteArray.mk #[]).data.toList).length+(bD (wr .i64 b.to)).length≤1073741824)&&(bif b.aM != 0 then (c9 b.aM&&(decide (1+(bw b.aM).length≤1073741824)&&(decide ((List.drop 0 (List.take 1 (bD (wr .i64 b.aw)))++(ByteArray.mk #[]).data.toList++bD (wr .i64 b.to)).length+((ByteArray.mk #[61]).data.toList++bw b.aM).length≤1073741824)&&true))) else true)))))) else (bif b.aM != 0 then (c9 b.aM&&(decide (1+(bw b.aM).length≤1073741824)&&(decide ((bD (wr .i64 b.to)).length+((ByteArray.mk #[61]).data.toList++bw b.aM).length≤1073741824)&&true))) else true)) else (c9 (bU a b)&&(decide ((bw (bU a b)).length+c.length≤1073741824)&&(decide ((bw (bU a b)++c).length+0≤1073741824)&&(decide ((bw (bU a b)++c++(ByteArray.mk #[]).data.toList).length+(bD (wr .i64 b.to)).length≤1073741824)&&true)))))))) else (bif b.bq then true else (bif b.aD != 0 then (c9 b.aD&&(decide ((bw b.aD).length+1≤1073741824)&&(decide ((bw b.aD++(ByteArray.mk #[64]).data.toList).length+(bD (wr .i64 b.to)).length≤1073741824)&&true))) else (bif bU a b==1 then (bif !(ByteArray.mk #[]).data.toList==(ByteArray.mk #[]).data.toList then (mI (wr .i64 b.aw)&&(decide (0≤1)&&decide (1≤Int.ofNat (bD (wr .i64 b.aw)).length)&&(decide (0≤1)&&decide (1≤Int.ofNat (bD (wr .i64 b.aw)).length)&&(decide ((List.drop 0 (List.take 1 (bD (wr .i64 b.aw)))).length+0≤1073741824)&&(decide ((List.drop 0 (List.take 1 (bD (wr .i64 b.aw)))++(ByteArray.mk #[]).data.toList).length+(bD (wr .i64 b.to)).length≤1073741824)&&(bif b.aM != 0 then (c9 b.aM&&(decide (1+(bw b.aM).length≤1073741824)&&(decide ((List.drop 0 (List.take 1 (bD (wr .i64 b.aw)))++(ByteArray.mk #[]).data.toList++bD (wr .i64 b.to)).length+((ByteArray.mk #[61]).data.toList++bw b.aM).length≤1073741824)&&true))) else true)))))) else (bif b.aM != 0 then (c9 b.aM&&(decide (1+(bw b.aM).length≤1073741824)&&(decide ((bD (wr .i64 b.to)).length+((ByteArray.mk #[61]).data.toList++bw b.aM).length≤1073741824)&&true))) else true)) else (c9 (bU a b)&&(decide ((bw (bU a b)).length+c.length≤1073741824)&&(decide ((bw (bU a b)++c).length+0≤1073741824)&&(decide ((bw (bU a b)++c++(ByteArray.mk #[]).data.toList).length+(bD (wr .i64 b.to)).length≤1073741824)&&true)))))))))))
theorem P49 (a:Pos) (b:Mv) (c:List UInt8) (h:oX a b c=true):PS Pz 49 [Pos.av a,Mv.av b,.str c] (dS.res (mF a b c)):=pq14 afB h
def G49:GT:=g3 aZ jl dS (fun a b c=>bV (oX a b c) (dS.res (mF a b c)))
theorem s49:Sound Pz 49 G49:=cw fun a b c=>az (P49 a b c)
def K50:KT:=[(50,85,[(0,[2,3,4]),(1,[2,3,4,7,8,9]),(2,[3,4,7,8,9,13,14,15]),(3,(3::4::7::8::9::(rn 13 4 []))),(4,[3,4,7,8,9,11,13,14,15]),(5,[3,4,7,8,9,11,13,14,15,49]),(6,[3,4,7,8,9,11,13,14,15]),(7,[3,4,7,8,9,11,13,14,15]),(8,[3,4,7,8,9,13,14,15]),(9,[3,4,7,8,9,13,14,15]),(10,[4,7,8,9,12]),(11,[4,12]),(12,[4,8,9,12,71]),(13,[4,9,74]),(14,[4,12]),(15,[4,77]),(16,[4,12]),(17,[6])]),(102,13,[(0,[0,2]),(1,[2,3]),(2,[2])])]
def XO:ax:=bO Pz K50 [(98,VI),(99,G99),(100,Mi)] [] []
theorem TT:aV XO:=ak aj ⟨Xb,s99,RG,trivial⟩ trivial trivial
def Rl (p1:(List Mv)) (p2:Int) (p3:Pos) (p4:Mv) (x:(Bool×Bool×Bool×Int)):St:=St.mk (an 3 (.ptr 0 0::.ptr 1 0::.any::.any::.bool x.1::.bool x.2.1::.bool x.2.2.1::(an 3 (.list .mv p1 .arg::.int .i64 p2::.int .i64 x.2.2.2::(an 69 []))))) (Hp.mk [(pc p3 []),[.int .i8 p4.aw,.int .i8 p4.to,.int .u8 p4.aM,.int .u8 p4.aD,.bool p4.bq]] [] [] 0 0 0)
def Rq (p1:(List Mv)) (p2:Int) (p3:Pos) (p4:Mv):(Bool×Bool×Bool×Int×Bool)→Out:=fun y=>.exit 0 (St.mk (an 3 (.ptr 0 0::.ptr 1 0::.any::.any::.bool y.1::.bool y.2.1::.bool y.2.2.1::(an 3 (.list .mv p1 .arg::.int .i64 p2::.int .i64 y.2.2.2.1::.bool y.2.2.2.2::(an 68 []))))) (Hp.mk [(pc p3 []),[.int .i8 p4.aw,.int .i8 p4.to,.int .u8 p4.aM,.int .u8 p4.aD,.bool p4.bq]] [] [] 0 0 0))
def xr (p1:(List Mv)) (p2:Int) (p3:Pos) (p4:Mv) (x:(Bool×Bool×Bool×Int)):aF (Bool×Bool×Bool×Int) ((Bool×Bool×Bool×Int×Bool)):=(bif decide (x.2.2.2 < p2) then (bif bI BinOp.eql ((p1.getD x.2.2.2.toNat default).aw==p4.aw&&((p1.getD x.2.2.2.toNat default).to==p4.to&&((p1.getD x.2.2.2.toNat default).aM==p4.aM&&((p1.getD x.2.2.2.toNat default).aD==p4.aD&&((p1.getD x.2.2.2.toNat default).bq==p4.bq&&true))))) then (aF.go (x.1,x.2.1,x.2.2.1,wr .i64 (x.2.2.2+1))) else (bif !MX (p1.getD x.2.2.2.toNat default) then (aF.go (x.1,x.2.1,x.2.2.1,wr .i64 (x.2.2.2+1))) else (bif (p1.getD x.2.2.2.toNat default).to != p4.to then (aF.go (x.1,x.2.1,x.2.2.1,wr .i64 (x.2.2.2+1))) else (bif (p1.getD x.2.2.2.toNat default).aw==p4.aw then (aF.go (x.1,x.2.1,x.2.2.1,wr .i64 (x.2.2.2+1))) else (bif bU p3 (p1.getD x.2.2.2.toNat default) != bU p3 p4 then (aF.go (x.1,x.2.1,x.2.2.1,wr .i64 (x.2.2.2+1))) else (bif x.2.1 then (bif x.2.2.1 then (aF.go (true,true,true,wr .i64 (x.2.2.2+1))) else (aF.go (true,true,wr .i8 ((p1.getD x.2.2.2.toNat default).aw.tdiv 8)==wr .i8 (p4.aw.tdiv 8),wr .i64 (x.2.2.2+1)))) else (bif x.2.2.1 then (aF.go (true,(p1.getD x.2.2.2.toNat default).aw.tmod 8==p4.aw.tmod 8,true,wr .i64 (x.2.2.2+1))) else (aF.go (true,(p1.getD x.2.2.2.toNat default).aw.tmod 8==p4.aw.tmod 8,wr .i8 ((p1.getD x.2.2.2.toNat default).aw.tdiv 8)==wr .i8 (p4.aw.tdiv 8),wr .i64 (x.2.2.2+1)))))))))) else (aF.out ((x.1,x.2.1,x.2.2.1,x.2.2.2,decide (x.2.2.2 < p2)))))
def ru (p1:(List Mv)) (p2:Int) (p3:Pos) (p4:Mv) (x:(Bool×Bool×Bool×Int)):Bool:=(bif decide (x.2.2.2 < p2) then (decide (0≤x.2.2.2)&&decide (x.2.2.2 < Int.ofNat p1.length)&&(bif bI BinOp.eql ((p1.getD x.2.2.2.toNat default).aw==p4.aw&&((p1.getD x.2.2.2.toNat default).to==p4.to&&((p1.getD x.2.2.2.toNat default).aM==p4.aM&&((p1.getD x.2.2.2.toNat default).aD==p4.aD&&((p1.getD x.2.2.2.toNat default).bq==p4.bq&&true))))) then true else (bif !MX (p1.getD x.2.2.2.toNat default) then true else (bif (p1.getD x.2.2.2.toNat default).to != p4.to then true else (bif (p1.getD x.2.2.2.toNat default).aw==p4.aw then true else (oq p3 (p1.getD x.2.2.2.toNat default)&&(oq p3 p4&&true))))))) else true)
def gI (p1:(List Mv)) (p2:Int) (p3:Pos) (p4:Mv) (x:(Bool×Bool×Bool×Int)):Option ((Bool×Bool×Bool×Int×Bool)):=cP (fun x=>bif ru p1 p2 p3 p4 x then xr p1 p2 p3 p4 x else .bad) many x
abbrev Rs {α:Type} (k:(List Mv)→Int→Pos→Mv→(Bool×Bool×Bool×Int)→α) (s:St):α:=wP s 0 fun q0=>wM s 1 fun q1=>k (tL (ET.mv) (tT s 13)) (tI (tT s 14)) q0 q1 ((tB (tT s 7)),(tB (tT s 8)),(tB (tT s 9)),(tI (tT s 15)))
theorem Wz (p1:(List Mv)) (p2:Int) (p3:Pos) (p4:Mv) (x:(Bool×Bool×Bool×Int)) (r:(Bool×Bool×Bool×Int×Bool)) (h:gI p1 p2 p3 p4 x=some r):aB Pz (bj Pz 50 3) (Rl p1 p2 p3 p4 x) (Rq p1 p2 p3 p4 r):=smq (m:=12) (fn:=50) TT (Rs fun _ _ _ _ x=>some x) (fun o=>match o with | .exit 0 s=>some ((tB (tT s 7)),(tB (tT s 8)),(tB (tT s 9)),(tI (tT s 15)),(tB (tT s 16))) | _=>none) many x r h
def Rp (b:Code) (s:St):Tr Out:=Rs (fun p1 p2 p3 p4 x=>lO b (bj Pz 50 3) s (Rl p1 p2 p3 p4 x) (gI p1 p2 p3 p4 x) (Rq p1 p2 p3 p4)) s
theorem Uu:∀ b,aY Pz b (Rp b):=fun _ _ _ h=>bS (Wz _ _ _ _ _) h
def B50:ax:=bO Pz K50 [(98,VI),(99,G99),(100,Mi)] [(50,3,Rp)] []
theorem ahF:aV B50:=ak aj ⟨Xb,s99,RG,trivial⟩ ⟨Uu,trivial⟩ trivial
def Cx (a:Pos) (b:Mv) (c:List Mv):List UInt8:=(bif !((gI c (Int.ofNat c.length) a b (false,false,false,0)).getD default).1 then ((ByteArray.mk #[]).data.toList) else (bif !((gI c (Int.ofNat c.length) a b (false,false,false,0)).getD default).2.1 then (List.drop 0 (List.take 1 (bD (wr .i64 b.aw)))) else (bif !((gI c (Int.ofNat c.length) a b (false,false,false,0)).getD default).2.2.1 then (List.drop 1 (List.take (bD (wr .i64 b.aw)).length (bD (wr .i64 b.aw)))) else (bD (wr .i64 b.aw)))))
def IZ (a:Pos) (b:Mv) (c:List Mv):Bool:=((gI c (Int.ofNat c.length) a b (false,false,false,0)).isSome&&(bif !((gI c (Int.ofNat c.length) a b (false,false,false,0)).getD default).1 then (mI (wr .i64 b.aw)&&(decide (0≤1)&&decide (1≤Int.ofNat (bD (wr .i64 b.aw)).length)&&(decide (0≤1)&&decide (1≤Int.ofNat (bD (wr .i64 b.aw)).length)&&true))) else (bif !((gI c (Int.ofNat c.length) a b (false,false,false,0)).getD default).2.1 then (mI (wr .i64 b.aw)&&(decide (0≤1)&&decide (1≤Int.ofNat (bD (wr .i64 b.aw)).length)&&(decide (0≤1)&&decide (1≤Int.ofNat (bD (wr .i64 b.aw)).length)&&true))) else (bif !((gI c (Int.ofNat c.length) a b (false,false,false,0)).getD default).2.2.1 then (mI (wr .i64 b.aw)&&(decide (0≤1)&&decide (1≤Int.ofNat (bD (wr .i64 b.aw)).length)&&(decide (0≤1)&&decide (1≤Int.ofNat (bD (wr .i64 b.aw)).length)&&true))) else (mI (wr .i64 b.aw)&&(decide (0≤1)&&decide (1≤Int.ofNat (bD (wr .i64 b.aw)).length)&&(decide (0≤1)&&decide (1≤Int.ofNat (bD (wr .i64 b.aw)).length)&&true)))))))
theorem P50 (a:Pos) (b:Mv) (c:List Mv) (h:IZ a b c=true):PS Pz 50 [Pos.av a,Mv.av b,.list .mv c .arg] (dS.res (Cx a b c)):=pq14 ahF h
def G50:GT:=g3 aZ jl (dL .mv) (fun a b c=>bV (IZ a b c) (dS.res (Cx a b c)))
theorem s50:Sound Pz 50 G50:=cw fun a b c=>az (P50 a b c)
def K24:KT:=[(24,18,[(0,[2,3,4]),(1,[6])])]
def B24:ax:=bO Pz K24 [(32,V6),(49,G49),(50,G50)] [] []
theorem ajc:aV B24:=ak aj ⟨s32,s49,s50,trivial⟩ trivial trivial
def U4 (a:Pos) (b:Mv) (c:List Mv):List UInt8:=(mF a b (Cx a b c)++nG a b)
def FP (a:Pos) (b:Mv) (c:List Mv):Bool:=(IZ a b c&&(oX a b (Cx a b c)&&(A0 a b&&(decide ((mF a b (Cx a b c)).length+(nG a b).length≤1073741824)&&true))))
theorem P24 (a:Pos) (b:Mv) (c:List Mv) (h:FP a b c=true):PS Pz 24 [Pos.av a,Mv.av b,.list .mv c .arg] (dS.res (U4 a b c)):=pq14 ajc h
def G24:GT:=g3 aZ jl (dL .mv) (fun a b c=>bV (FP a b c) (dS.res (U4 a b c)))
theorem s24:Sound Pz 24 G24:=cw fun a b c=>az (P24 a b c)
def K15:KT:=[(15,16,[(0,[2,3]),(1,[2,3,5]),(2,[2,3,5,11]),(3,[4]),(4,[4])])]
def B15:ax:=bO Pz K15 [(20,Qg),(24,G24),(31,Bx)] [] []
theorem adU:aV B15:=ak aj ⟨UM,s24,D5,trivial⟩ trivial trivial
def BF (a:Pos) (b:Mv):List UInt8:=(bif !DC (bN a) b then ((ByteArray.mk #[]).data.toList) else (U4 a b (bN a)))
def zm (a:Pos) (b:Mv):Bool:=(Am a&&(Cc (bN a) b&&(bif !DC (bN a) b then true else (FP a b (bN a)&&true))))
theorem P15 (a:Pos) (b:Mv) (h:zm a b=true):PS Pz 15 [Pos.av a,Mv.av b] (dS.res (BF a b)):=pq14 adU h
def G15:GT:=g2 aZ jl (fun a b=>bV (zm a b) (dS.res (BF a b)))
theorem s15:Sound Pz 15 G15:=aW fun a b=>az (P15 a b)
def K21:KT:=[(21,9,[(0,[2,3]),(1,[4])])]
def B21:ax:=bO Pz K21 [(20,Qg),(31,Bx)] [] []
theorem afS:aV B21:=ak aj ⟨UM,D5,trivial⟩ trivial trivial
def VA (a:Pos) (b:Mv):Bool:=(DC (bN a) b)
def FL (a:Pos) (b:Mv):Bool:=(Am a&&(Cc (bN a) b&&true))
theorem P21 (a:Pos) (b:Mv) (h:FL a b=true):PS Pz 21 [Pos.av a,Mv.av b] (dB.res (VA a b)):=pq14 afS h
def G21:GT:=g2 aZ jl (fun a b=>bV (FL a b) (dB.res (VA a b)))
theorem s21:Sound Pz 21 G21:=aW fun a b=>az (P21 a b)
def K17:KT:=[(17,12,[(0,[2,3]),(1,[2,3,8]),(2,[4]),(3,[4])])]
def B17:ax:=bO Pz K17 [(21,G21),(32,V6)] [] []
theorem aia:aV B17:=ak aj ⟨s21,s32,trivial⟩ trivial trivial
def I3 (a:Pos) (b:Mv):List UInt8:=(bif !VA a b then ((ByteArray.mk #[]).data.toList) else (nG a b))
def Ax (a:Pos) (b:Mv):Bool:=(FL a b&&(bif !VA a b then true else (A0 a b&&true)))
theorem P17 (a:Pos) (b:Mv) (h:Ax a b=true):PS Pz 17 [Pos.av a,Mv.av b] (dS.res (I3 a b)):=pq14 aia h
def G17:GT:=g2 aZ jl (fun a b=>bV (Ax a b) (dS.res (I3 a b)))
theorem s17:Sound Pz 17 G17:=aW fun a b=>az (P17 a b)
end Kz
end
noncomputable section
namespace Kz
open Go Go.RowKit Go.Proofs
set_option maxRecDepth 100000
theorem se {f:Nat→Bool} {k:Nat} (t:(List.range k).all f=true) {n:Nat} (h:n < k):f n=true:=List.all_eq_true.1 t n (List.mem_range.2 h)
theorem Xv:(List.range 64).all (fun n=>mI (n:Int)&&(bD (n:Int)==[UInt8.ofNat (97+n % 8),UInt8.ofNat (49+n / 8)]))=true:=by kernel_rfl
theorem uM {n:Int} (h0:0≤n) (h1:n < 64):mI (wr .i64 n)=true∧bD (wr .i64 n)=[UInt8.ofNat (97+n.toNat % 8),UInt8.ofNat (49+n.toNat / 8)]:=by
 rw [aI (by omega) (by omega)]
 have t:=se Xv (n:=n.toNat) (by omega)
 rw [Int.toNat_of_nonneg h0] at t
 simp only [Bool.and_eq_true,beq_iff_eq] at t
 exact t
theorem Y6:(List.range 256).all (fun n=>c9 (n:Int)&&(bw (n:Int)==(bif decide (1≤n)&&decide (n≤6) then [([80,78,66,82,81,75]:List UInt8).getD (n - 1) 0] else [])))=true:=by kernel_rfl
def EP (n:Nat):UInt8:=([80,78,66,82,81,75]:List UInt8).getD (n - 1) 0
theorem Np {n:Nat} (h1:1≤n) (h6:n≤6):65≤(EP n).toNat∧(EP n).toNat≤90:=by
 have:n=1∨n=2∨n=3∨n=4∨n=5∨n=6:=by omega
 rcases this with rfl | rfl | rfl | rfl | rfl | rfl <;> decide
theorem xX {k:Int} (h0:0≤k) (h1:k≤255):c9 k=true∧(1≤k→k≤6→bw k=[EP k.toNat])∧(bw k).length≤1:=by
 have t:=se Y6 (n:=k.toNat) (by omega)
 rw [Int.toNat_of_nonneg h0] at t
 simp only [Bool.and_eq_true,beq_iff_eq] at t
 obtain ⟨a,b⟩:=t
 refine ⟨a,fun h1 h6 => ?_,?_⟩
 ·rw [b,decide_eq_true (show 1≤k.toNat by omega),decide_eq_true (show k.toNat≤6 by omega)]
  rfl
 ·rw [b]
  cases decide (1≤k.toNat)&&decide (k.toNat≤6)
  ·exact Nat.zero_le _
  ·exact Nat.le_refl _
theorem QB:(List.range 256).all (fun n=>decide (0≤bk (n:Int))&&decide (bk (n:Int)≤6)&&(bif eR (n:Int) then decide (1≤bk (n:Int)) else true))=true:=by kernel_rfl
variable {p:Pos} {m:Mv}
theorem KJ (hp:aG p) (f0:0≤m.aw) (f1:m.aw < 64):oq p m=true∧0≤bU p m∧bU p m≤6:=by
 have hin:0≤p.ae.getD m.aw.toNat 0∧p.ae.getD m.aw.toNat 0≤255:=fB hp.b0 (by omega) _
 unfold oq bU Dq Lv
 rw [aI (by omega) (by omega),fA,decide_eq_true f0,decide_eq_true (show m.aw < Int.ofNat 64 from f1)]
 have z:0≤bk 0∧bk 0≤6:=by
  have:=se QB (n:=0) (by decide)
  simp only [Bool.and_eq_true,decide_eq_true_eq] at this
  exact this.1
 have t:=se QB (n:=(p.ae.getD m.aw.toNat 0).toNat) (by omega)
 rw [Int.toNat_of_nonneg hin.1] at t
 simp only [Bool.and_eq_true,decide_eq_true_eq] at t
 generalize p.ae.getD m.aw.toNat 0=x at t
 cases ER m.aw <;> cases eR x <;> first | exact ⟨rfl,t.1⟩ | exact ⟨rfl,z⟩
variable {p:Pos} {m:Mv} {c:List UInt8}
def b9 (p:Pos) (m:Mv) (c:List UInt8):List UInt8 :=
 bif m.bq then (bif decide (m.to > m.aw) then [79,45,79] else [79,45,79,45,79])
 else bif m.aD==0 then
  (bif bU p m==1 then (bif kc p m then List.take 1 (bD (wr .i64 m.aw))++120::bD (wr .i64 m.to) else bD (wr .i64 m.to))++(bif m.aM==0 then [] else 61::bw m.aM)
  else bw (bU p m)++(c++((bif kc p m then [120] else [])++bD (wr .i64 m.to))))
 else bw m.aD++64::bD (wr .i64 m.to)
theorem Cg (p:Pos) (m:Mv) (c:List UInt8):mF p m c=b9 p m c:=by
 unfold mF MX b9
 have d:(m.aD != 0)=!(m.aD==0):=rfl
 have e:(m.aM != 0)=!(m.aM==0):=rfl
 rw [d,e]
 cases m.bq <;> cases (m.aD==0) <;> cases kc p m <;> cases decide (m.to > m.aw) <;> cases (bU p m==1) <;> cases (m.aM==0) <;>
  first | rfl | simp only [cond_true,cond_false,Bool.not_true,Bool.not_false,List.append_assoc,List.append_nil,List.nil_append,List.cons_append,List.drop_zero] <;> rfl
structure oV (m:Mv):Prop where
 f0:0≤m.aw
 f1:m.aw < 64
 t0:0≤m.to
 t1:m.to < 64
 d0:0≤m.aD
 d5:m.aD≤5
 p0:0≤m.aM
 p6:m.aM≤6
theorem fC (hp:aG p) (h:m ∈ bN p):oV m∧there p∧m ∈ cy p:=by
 have h1:m ∈ kC p:=by
  rw [Hc hp] at h
  revert h
  cases ((yb p).1 != 0) with
  | true=>intro h; cases h
  | false=>exact id
 have h2:=(Dh hp h1).1
 obtain ⟨a,b,c,d,e,f,g,i,j⟩:=iN hp h2
 exact ⟨⟨b,c,d,e,f,g,i,j⟩,a,h2⟩
theorem Ka (hp:aG p) (hm:oV m) (hc:c.length≤2):oX p m c=true:=by
 obtain ⟨s1,s2⟩:=uM hm.t0 hm.t1
 obtain ⟨s3,s4⟩:=uM hm.f0 hm.f1
 obtain ⟨k1,k2,k3⟩:=KJ hp hm.f0 hm.f1
 obtain ⟨l1,_,l2⟩:=xX (k:=bU p m) k2 (by omega)
 obtain ⟨l3,_,l4⟩:=xX (k:=m.aD) hm.d0 (by have:=hm.d5; omega)
 obtain ⟨l5,_,l6⟩:=xX (k:=m.aM) hm.p0 (by have:=hm.p6; omega)
 have k80:=t80 (p:=p) hp.v0 m
 have e2:(bD (wr .i64 m.to)).length=2:=by rw [s2]; rfl
 have e4:(bD (wr .i64 m.aw)).length=2:=by rw [s4]; rfl
 have e5:decide (1≤Int.ofNat (bD (wr .i64 m.aw)).length)=true:=by rw [e4]; rfl
 unfold oX
 rw [s1,s3,k1,l1,l3,l5,k80,e5]
 generalize bD (wr .i64 m.to)=T at e2
 generalize bD (wr .i64 m.aw)=F at e4
 generalize bw (bU p m)=A at l2
 generalize bw m.aD=B at l4
 generalize bw m.aM=C at l6
 repeat' (first | with_reducible refine ao ?_ (fun _ => ?_) | with_reducible refine aq (fun _ => ?_) (fun _ => ?_) | with_reducible rfl | exact decide_eq_true (by omega) | exact decide_eq_true (by simp only [List.length_append,List.length_drop,List.length_take,List.length_cons,List.length_nil,show (ByteArray.mk #[64]).data.toList=([64]:List UInt8) from rfl,show (ByteArray.mk #[120]).data.toList=([120]:List UInt8) from rfl,show (ByteArray.mk #[61]).data.toList=([61]:List UInt8) from rfl,show (ByteArray.mk #[]).data.toList=([]:List UInt8) from rfl]; omega))
def KW (z:UInt8):Prop:=(49≤z.toNat∧z.toNat≤56)∨z.toNat=79∨(65≤z.toNat∧z.toNat≤90)
theorem ma (hp:aG p) (hm:oV m) (hc:c.length≤2):∃ h z,b9 p m c=h++[z]∧1≤h.length∧h.length≤10∧KW z:=by
 have s2:=(uM hm.t0 hm.t1).2
 have s4:=(uM hm.f0 hm.f1).2
 obtain ⟨k1,k2,k3⟩:=KJ hp hm.f0 hm.f1
 obtain ⟨l1,_,l2⟩:=xX (k:=bU p m) k2 (by omega)
 obtain ⟨l3,_,l4⟩:=xX (k:=m.aD) hm.d0 (by have:=hm.d5; omega)
 obtain ⟨l5,l7,l6⟩:=xX (k:=m.aM) hm.p0 (by have:=hm.p6; omega)
 have zt:KW (UInt8.ofNat (49+m.to.toNat / 8)):=by
  left
  have:=hm.t1
  rw [UInt8.toNat_ofNat',Nat.mod_eq_of_lt (by omega)]
  omega
 unfold b9
 rw [s2,s4]
 generalize UInt8.ofNat (49+m.to.toNat / 8)=z at zt
 generalize UInt8.ofNat (97+m.to.toNat % 8)=y
 cases m.bq with
 | true =>
  cases decide (m.to > m.aw) with
  | true=>exact ⟨[79,45],79,rfl,by decide,by decide,.inr (.inl rfl)⟩
  | false=>exact ⟨[79,45,79,45],79,rfl,by decide,by decide,.inr (.inl rfl)⟩
 | false =>
  rw [cond_false]
  cases (m.aD==0) with
  | false=>exact ⟨bw m.aD++[64,y],z,by simp,by simp <;> omega,by simp <;> omega,zt⟩
  | true =>
   rw [cond_true]
   cases (bU p m==1) with
   | false =>
    cases kc p m with
    | true=>exact ⟨bw (bU p m)++(c++[120,y]),z,by simp,by simp <;> omega,by simp <;> omega,zt⟩
    | false=>exact ⟨bw (bU p m)++(c++[y]),z,by simp,by simp <;> omega,by simp <;> omega,zt⟩
   | true =>
    rw [cond_true]
    cases hpr:(m.aM==0) with
    | true =>
     cases kc p m with
     | true=>exact ⟨[UInt8.ofNat (97+m.aw.toNat % 8),120,y],z,rfl,by simp,by simp,zt⟩
     | false=>exact ⟨[y],z,rfl,by simp,by simp,zt⟩
    | false =>
     have p1:1≤m.aM:=by
      have:=hm.p0
      have:m.aM≠0:=by simpa using hpr
      omega
     have l7:=l7 p1 hm.p6
     have zl:KW (EP m.aM.toNat) := .inr (.inr (Np (by omega) (by have:=hm.p6; omega)))
     rw [l7]
     cases kc p m with
     | true=>exact ⟨[UInt8.ofNat (97+m.aw.toNat % 8),120,y,z,61],EP m.aM.toNat,rfl,by simp,by simp,zl⟩
     | false=>exact ⟨[y,z,61],EP m.aM.toNat,rfl,by simp,by simp,zl⟩
end Kz
end
noncomputable section
namespace Kz
open Go Go.RowKit
set_option maxRecDepth 100000
set_option maxHeartbeats 4000000
def cl (h f:Int) (p:Pos):Pos:=⟨p.variant,p.ae,p.ab,p.af,p.aa,p.ai,p.ah,p.ag,h,f⟩
def aF.map {X X' R R':Type} (φ:X→X') (ψ:R→R'):aF X R→aF X' R'
 | .go x=>.go (φ x)
 | .out r=>.out (ψ r)
 | .bad=>.bad
noncomputable section
variable (h f:Int) (p:Pos)
end
noncomputable section
variable (h f h2 f2 h3 f3:Int) (a q p:Pos) (b m:Mv) (c:Int)
end
def Eb (p:Pos) (m:Mv):Pos:=cM p m (cK p m (dg p m (cG p m (cC p m (cf p m (bL p m p p m (aA p m)) p m (aA p m)) p m (aA p m)) p m (aA p m)) p m (aA p m)) p m (aA p m)) p m (aA p m)
theorem Ee (p:Pos) (m:Mv):jg p m=bif !DC (cy p) m then (p,false) else (Eb p m,true):=rfl
noncomputable section
variable {p:Pos} (hp:aG p)
include hp
variable {h f:Int} (hq:aG (cl h f p))
include hq
end
theorem t288 (p:Pos) (b:Int):nW p b=true:=ao (t191 _ _ _) fun _=>ao (t191 _ _ _) fun _=>rfl
theorem t251 (p:Pos):yM p=true:=by
 unfold yM
 rw [show (Pos.mk p.variant p.ae p.ab p.af p.aa p.ai p.ah p.ag p.half p.full)=p from rfl]
 repeat' (first | with_reducible rfl | with_reducible exact t234 _ | with_reducible exact t288 _ _ | with_reducible exact t191 _ _ _ | refine ao ?_ (fun _ => ?_) | refine aq (fun _ => ?_) (fun _ => ?_))
theorem t194 (p:Pos):Ei p=true:=ao (t251 _) fun _=>rfl
theorem t193 {p:Pos} (hp:aG p):Dp p=true:=ao (t20 hp) fun _=>aq (fun _=>rfl) fun _=>aq (fun _=>rfl) fun _=>ao (t61 hp.v0 hp.t0) fun _=>rfl
theorem t60 {p:Pos} (hp:aG p):Mh p=true:=aq (fun _=>rfl) fun _=>aq (fun _=>rfl) fun _=>ao (t36 hp) fun _=>aq (fun _=>rfl) fun _=>ao (t193 hp) fun _=>aq (fun _=>rfl) fun _=>ao (t194 p) fun _=>rfl
theorem Nh {p:Pos} (h:¬ there p):Gc p=(0,0):=by
 unfold there at h
 unfold Gc
 refine au (P:=fun r:Int×Int=>r=(0,0)) (fun _=>rfl) fun h1=>au (P:=fun r:Int×Int=>r=(0,0)) (fun _=>rfl) fun h2 => ?_
 have h1:p.variant < 9:=by simpa using h1
 have h2:p.aa≤1:=by simpa using h2
 exact absurd ⟨h2,h1⟩ h
theorem Ew {p:Pos} (h:there p):Gc p=bif (yb p).1 != 0 then yb p else bif (xL p).1 != 0 then xL p else bif (yP p).1 != 0 then yP p else bif (Aw p).1 != 0 then Aw p else (0,0):=by
 obtain ⟨h1,h2⟩:=h
 unfold Gc
 rw [show decide (p.variant ≥ 9)=false by simp; omega,show decide (p.aa > 1)=false by simp; omega]
 rfl
noncomputable section
variable {p:Pos} (hp:aG p) {h f:Int} (hq:aG (cl h f p))
include hp hq
end
end Kz
end
noncomputable section
namespace Kz
open Go Go.RowKit Go.Proofs
set_option maxRecDepth 100000
variable {p:Pos} {m:Mv} {l:List Mv}
theorem AG (hp:aG p) (hl:l.length≤1000000) (hm:oV m) (hx:∀ x ∈ l,oV x):(gI l (Int.ofNat l.length) p m (false,false,false,0)).isSome=true:=by
 obtain ⟨r,e,_⟩:∃ r,gI l (Int.ofNat l.length) p m (false,false,false,0)=some r∧True:=by
  refine ba (I:=fun x:Bool×Bool×Bool×Int=>0≤x.2.2.2) (μ:=fun x=>((l.length:Int) - x.2.2.2).toNat) ?_ _ (Int.le_refl _) (by dsimp only; omega)
  rintro ⟨a,b,c,i⟩ h0
  dsimp only at h0
  unfold ru xr
  dsimp only
  by_cases hi:i < Int.ofNat l.length
  ·have hi':i < (l.length:Int):=hi
   have hin:=hx _ (ct (l:=l) (i:=i.toNat) (d:=default) (by omega))
   rw [decide_eq_true hi,decide_eq_true h0]
   generalize l.getD i.toNat default=x at hin
   have o1:=(KJ (p:=p) hp hin.f0 hin.f1).1
   have o2:=(KJ (p:=p) hp hm.f0 hm.f1).1
   rw [o1,o2,aI (by omega) (by omega)]
   refine ⟨ao rfl fun _=>aq (fun _=>rfl) fun _=>aq (fun _=>rfl) fun _=>aq (fun _=>rfl) fun _=>aq (fun _=>rfl) fun _=>rfl,?_⟩
   have g:∀ a b c:Bool,rR (fun x:Bool×Bool×Bool×Int=>0≤x.2.2.2) (fun _=>True) (fun x=>((l.length:Int) - x.2.2.2).toNat) ((l.length:Int) - i).toNat (.go (a,b,c,i+1):aF (Bool×Bool×Bool×Int) (Bool×Bool×Bool×Int×Bool)):=fun a b c=>⟨by dsimp only; omega,by dsimp only; omega⟩
   have gi:=fun {q:aF (Bool×Bool×Bool×Int) (Bool×Bool×Bool×Int×Bool)} {r} {d:Bool} (h1:rR (fun x:Bool×Bool×Bool×Int=>0≤x.2.2.2) (fun _=>True) (fun x=>((l.length:Int) - x.2.2.2).toNat) ((l.length:Int) - i).toNat q) (h2:rR (fun x:Bool×Bool×Bool×Int=>0≤x.2.2.2) (fun _=>True) (fun x=>((l.length:Int) - x.2.2.2).toNat) ((l.length:Int) - i).toNat r)=>(show rR _ _ _ _ (bif d then q else r) from by cases d <;> assumption)
   rw [cond_true]
   exact gi (g _ _ _) (gi (g _ _ _) (gi (g _ _ _) (gi (g _ _ _) (gi (g _ _ _) (gi (gi (g _ _ _) (g _ _ _)) (gi (g _ _ _) (g _ _ _)))))))
  ·rw [decide_eq_false hi]
   exact ⟨rfl,trivial⟩
 rw [e]
 rfl
theorem N1 (hp:aG p) (hl:l.length≤1000000) (hm:oV m) (hx:∀ x ∈ l,oV x):IZ p m l=true∧(Cx p m l).length≤2:=by
 obtain ⟨s3,s4⟩:=uM hm.f0 hm.f1
 have e4:(bD (wr .i64 m.aw)).length=2:=by rw [s4]; rfl
 have e5:decide (1≤Int.ofNat (bD (wr .i64 m.aw)).length)=true:=by rw [e4]; rfl
 unfold IZ Cx
 rw [AG hp hl hm hx,s3,e5]
 generalize bD (wr .i64 m.aw)=F at e4
 generalize (gI l (Int.ofNat l.length) p m (false,false,false,0)).getD default=r
 refine ⟨by cases r.1 <;> cases r.2.1 <;> cases r.2.2.1 <;> rfl,?_⟩
 cases r.1 <;> cases r.2.1 <;> cases r.2.2.1 <;> simp [e4] <;> omega
def Ut (e:List UInt8):Prop:=e=[]∨e=[43]∨e=[35]
theorem pK (hp:aG p) (hm:m ∈ cy p):A0 p m=true∧Ut (nG p m):=by
 obtain ⟨k,h,_⟩:=lN hp m
 obtain ⟨_,q1,_,q3⟩:=h hm
 unfold A0 nG
 rw [k,t60 q1,t61 q1.v0 (by rw [q3]; exact (show 0≤1 - p.aa from by
  have:=q1.t0
  rw [q3] at this
  exact this))]
 refine ⟨by cases ((Gc (jg p m).1).2==1) <;> rfl,?_⟩
 cases ((Gc (jg p m).1).2==1)
 ·cases yf (jg p m).1 (jg p m).1.aa
  ·exact .inl rfl
  ·exact .inr (.inl rfl)
 ·exact .inr (.inr rfl)
theorem rY (hp:aG p) (hm:m ∈ bN p):FP p m (bN p)=true∧U4 p m (bN p)=b9 p m (Cx p m (bN p))++nG p m∧(Cx p m (bN p)).length≤2:=by
 obtain ⟨a,_,b⟩:=fC hp hm
 have hl:=gU hp
 obtain ⟨k1,k2⟩:=N1 hp (show (bN p).length≤1000000 by omega) a fun x hx=>(fC hp hx).1
 obtain ⟨k3,k4⟩:=pK hp b
 have k5:=Ka hp a k2
 obtain ⟨h,z,e1,_,e3,_⟩:=ma hp a k2
 unfold FP U4
 rw [k1,k3,k5,Cg]
 refine ⟨?_,rfl,k2⟩
 have:(nG p m).length≤1:=by rcases k4 with e | e | e <;> rw [e] <;> decide
 rw [decide_eq_true (show (b9 p m (Cx p m (bN p))).length+(nG p m).length≤1073741824 by rw [e1]; simp; omega)]
 rfl
theorem rf (hp:aG p) (m:Mv):zm p m=true∧Ax p m=true∧FL p m=true∧VA p m=decide (m ∈ bN p)∧(m ∈ bN p→BF p m=b9 p m (Cx p m (bN p))++nG p m∧I3 p m=nG p m)∧(m ∉ bN p→BF p m=[]∧I3 p m=[]):=by
 have hl:=gU hp
 have k20:=t20 hp
 have k31:=t31 (l:=bN p) (b:=m) (by omega)
 have e31:=lf (l:=bN p) (b:=m) (by omega)
 have k21:FL p m=true:=by unfold FL; rw [k20,k31]; rfl
 have e21:VA p m=decide (m ∈ bN p):=by
  rw [← e31]
  rfl
 by_cases h:m ∈ bN p
 ·obtain ⟨t1,t2,_⟩:=rY hp h
  have t3:=(pK hp (fC hp h).2.2).1
  refine ⟨?_,?_,k21,e21,fun _=>⟨?_,?_⟩,fun g=>absurd h g⟩
  ·unfold zm; rw [k20,k31,e31,decide_eq_true h,t1]; rfl
  ·unfold Ax; rw [k21,e21,decide_eq_true h,t3]; rfl
  ·unfold BF; rw [e31,decide_eq_true h,← t2]; rfl
  ·unfold I3; rw [e21,decide_eq_true h]; rfl
 ·refine ⟨?_,?_,k21,e21,fun g=>absurd g h,fun _=>⟨?_,?_⟩⟩
  ·unfold zm; rw [k20,k31,e31,decide_eq_false h]; rfl
  ·unfold Ax; rw [k21,e21,decide_eq_false h]; rfl
  ·unfold BF; rw [e31,decide_eq_false h]; rfl
  ·unfold I3; rw [e21,decide_eq_false h]; rfl
end Kz
end
noncomputable section
namespace Kz
open Go Go.RowKit Go.Proofs
set_option maxRecDepth 100000
set_option maxHeartbeats 4000000
def K38:KT:=[(38,11,[(0,[1,7,8,9]),(1,[2])])]
def B38:ax:=bO Pz K38 [] [] []
theorem aiM:aV B38:=ak aj trivial trivial trivial
def yd (a:Pos):Bool:=(bif decide (a.variant < 9) then (decide (a.aa < 2)) else (false))
def ai0 (a:Pos):Bool:=true
theorem P38 (a:Pos) (h:ai0 a=true):PS Pz 38 [Pos.av a] (dB.res (yd a)):=pq14 aiM h
def LS:GT:=g1 aZ (fun a=>.ret (dB.res (yd a)))
theorem C6:Sound Pz 38 LS:=aH fun a=>b7 (P38 a rfl)
def K93:KT:=[(93,17,[(0,[0,6,7,8,11,12,13]),(1,[0,14]),(2,[2]),(3,[2])])]
def B93:ax:=bO Pz K93 [] [] []
theorem adG:aV B93:=ak aj trivial trivial trivial
def bA (a:Int):Int:=(bif decide (a > 15) then (0) else (bif decide (a.tmod 8 < 1) then (0) else (bif decide (a.tmod 8 > 6) then (0) else (a.tmod 8))))
def aeK (a:Int):Bool:=true
theorem P93 (a:Int) (h:aeK a=true):PS Pz 93 [.int .u8 a] ((dI .u8).res (bA a)):=pq14 adG h
def mJ:GT:=g1 (dI .u8) (fun a=>.ret ((dI .u8).res (bA a)))
theorem mS:Sound Pz 93 mJ:=aH fun a=>b7 (P93 a rfl)
def adF:KT:=[(162,5,[(0,[0]),(1,[2])])]
def aca:ax:=bO Pz adF [] [] []
theorem Wo:aV aca:=ak aj trivial trivial trivial
def eY (a:Int):Int:=(wr .u8 (a.tdiv 8))
def V4 (a:Int):Bool:=true
theorem abV (a:Int) (h:V4 a=true):PS Pz 162 [.int .u8 a] ((dI .u8).res (eY a)):=pq14 Wo h
def zN:GT:=g1 (dI .u8) (fun a=>.ret ((dI .u8).res (eY a)))
theorem Cl:Sound Pz 162 zN:=aH fun a=>b7 (abV a rfl)
def afR:KT:=[(161,25,[(0,(rn 1 4 (rn 17 7 []))),(1,[8])])]
def aes:ax:=bO Pz afR [(93,mJ),(162,zN)] [] []
theorem Wf:aV aes:=ak aj ⟨mS,Cl,trivial⟩ trivial trivial
def qb (a:Pos) (b:Int) (c:Int) (d:Int):Bool:=(bif bA (a.ae.getD (scale 1 b).toNat 0)==d then (eY (a.ae.getD (scale 1 b).toNat 0)==c) else (false))
def mT (a:Pos) (b:Int) (c:Int) (d:Int):Bool:=(decide (0≤b)&&decide (b < ↑64)&&(bif bA (a.ae.getD (scale 1 b).toNat 0)==d then (decide (0≤b)&&decide (b < ↑64)&&true) else true))
theorem agi (a:Pos) (b:Int) (c:Int) (d:Int) (h:mT a b c d=true):PS Pz 161 [Pos.av a,.int .i64 b,.int .u8 c,.int .u8 d] (dB.res (qb a b c d)):=pq14 Wf h
def og:GT:=g4 aZ (dI .i64) (dI .u8) (dI .u8) (fun a b c d=>bV (mT a b c d) (dB.res (qb a b c d)))
theorem qa:Sound Pz 161 og:=BT fun a b c d=>az (agi a b c d)
def K82:KT:=[(82,18,[(0,[1,2,3]),(1,[1,2,3,7]),(2,[1,2,3,7,9]),(3,[1,2,3,7]),(4,[1,2,3,7,16]),(5,[6]),(6,[6])])]
def Z6:ax:=bO Pz K82 [(161,og)] [] []
theorem UW:aV Z6:=ak aj ⟨qa,trivial⟩ trivial trivial
def Qd (p1:Int) (p2:Int) (p3:Pos) (x:(Int)):St:=St.mk (.any::.int .u8 p1::.int .u8 p2::.ptr 0 0::(an 3 (.int .i64 x::(an 10 [])))) (Hp.mk [(pc p3 [])] [] [] 0 0 0)
def PH (p1:Int) (p2:Int) (p3:Pos):(Int) ⊕ (Int×Bool)→Out
 | (.inl (y))=>.ret (St.mk (an 6 (AV.int .i64 y::(an 11 []))) (Hp.mk [(pc p3 [])] [] [] 0 0 0))
 | (.inr (y))=>.exit 0 (St.mk (AV.any::AV.int .u8 p1::AV.int .u8 p2::AV.ptr 0 0::(an 3 (AV.int .i64 y.1::AV.any::AV.bool y.2::(an 8 [])))) (Hp.mk [(pc p3 [])] [] [] 0 0 0))
def HA (p1:Int) (p2:Int) (p3:Pos) (x:(Int)):aF (Int) ((Int) ⊕ (Int×Bool)):=(bif decide (x < 64) then (bif qb (Pos.mk p3.variant p3.ae p3.ab p3.af p3.aa p3.ai p3.ah p3.ag p3.half p3.full) x p1 p2 then (aF.out (.inl ((x)))) else (aF.go (wr .i64 (x+1)))) else (aF.out (.inr ((x,decide (x < 64))))))
def Dt (p1:Int) (p2:Int) (p3:Pos) (x:(Int)):Bool:=(bif decide (x < 64) then (mT (Pos.mk p3.variant p3.ae p3.ab p3.af p3.aa p3.ai p3.ah p3.ag p3.half p3.full) (x) (p1) (p2)&&true) else true)
def lK (p1:Int) (p2:Int) (p3:Pos) (x:(Int)):Option ((Int) ⊕ (Int×Bool)):=cP (fun x=>bif Dt p1 p2 p3 x then HA p1 p2 p3 x else .bad) many x
abbrev PL {α:Type} (k:Int→Int→Pos→(Int)→α) (s:St):α:=wP s 0 fun q0=>k (tI (tT s 1)) (tI (tT s 2)) q0 ((tI (tT s 7)))
theorem XR (p1:Int) (p2:Int) (p3:Pos) (x:(Int)) (r:(Int) ⊕ (Int×Bool)) (h:lK p1 p2 p3 x=some r):aB Pz (bj Pz 82 2) (Qd p1 p2 p3 x) (PH p1 p2 p3 r):=aB.vF (m:=12) (fn:=82) UW (PL fun _ _ _ x=>some x) (fun o=>match o with | .ret s=>some (.inl (tI (tT s 6))) | .exit 0 s=>some (.inr ((tI (tT s 7)),(tB (tT s 9)))) | _=>none) (fun r=>by cases r <;> rfl) (fun _=>by kernel_rfl) (fun _=>by kernel_rfl) (fun _=>by kernel_rfl) (fun _=>by kernel_rfl) many x r h
def QP (b:Code) (s:St):Tr Out:=PL (fun p1 p2 p3 x=>vM b (bj Pz 82 2) s (Qd p1 p2 p3 x) (lK p1 p2 p3 x) (PH p1 p2 p3)) s
theorem Si:∀ b,aY Pz b (QP b):=fun _ _ _ h=>dq (XR _ _ _ _) h
def B82:ax:=bO Pz K82 [(161,og)] [(82,2,QP)] []
theorem aek:aV B82:=ak aj ⟨qa,trivial⟩ ⟨Si,trivial⟩ trivial
def fI (a:Pos) (b:Int) (c:Int):Int:=(bif cq ((lK b c (Pos.mk a.variant a.ae a.ab a.af a.aa a.ai a.ah a.ag a.half a.full) 0).getD default) then (gl ((lK b c (Pos.mk a.variant a.ae a.ab a.af a.aa a.ai a.ah a.ag a.half a.full) 0).getD default)) else (-1))
def BV (a:Pos) (b:Int) (c:Int):Bool:=((lK b c (Pos.mk a.variant a.ae a.ab a.af a.aa a.ai a.ah a.ag a.half a.full) 0).isSome&&bif cq ((lK b c (Pos.mk a.variant a.ae a.ab a.af a.aa a.ai a.ah a.ag a.half a.full) 0).getD default) then true else true)
theorem P82 (a:Pos) (b:Int) (c:Int) (h:BV a b c=true):PS Pz 82 [Pos.av a,.int .u8 b,.int .u8 c] ((dI .i64).res (fI a b c)):=pq14 aek h
def Oy:GT:=g3 aZ (dI .u8) (dI .u8) (fun a b c=>bV (BV a b c) ((dI .i64).res (fI a b c)))
theorem Qj:Sound Pz 82 Oy:=cw fun a b c=>az (P82 a b c)
def K39:KT:=[(39,8,[(0,[1,2]),(1,[4])])]
def B39:ax:=bO Pz K39 [(82,Oy)] [] []
theorem aeE:aV B39:=ak aj ⟨Qj,trivial⟩ trivial trivial
def oQ (a:Pos) (b:Int):Int:=(fI (Pos.mk a.variant a.ae a.ab a.af a.aa a.ai a.ah a.ag a.half a.full) b 6)
def pq (a:Pos) (b:Int):Bool:=(BV (Pos.mk a.variant a.ae a.ab a.af a.aa a.ai a.ah a.ag a.half a.full) (b) (6)&&true)
theorem P39 (a:Pos) (b:Int) (h:pq a b=true):PS Pz 39 [Pos.av a,.int .u8 b] ((dI .i64).res (oQ a b)):=pq14 aeE h
def S3:GT:=g2 aZ (dI .u8) (fun a b=>bV (pq a b) ((dI .i64).res (oQ a b)))
theorem Vu:Sound Pz 39 S3:=aW fun a b=>az (P39 a b)
def K40:KT:=[(40,11,[(0,[0,1,4]),(1,[1,4,6]),(2,[4]),(3,[4])])]
def B40:ax:=bO Pz K40 [] [] []
theorem ahh:aV B40:=ak aj trivial trivial trivial
def mW (a:Int) (b:Int):(Int×Int):=(bif a==0 then ⟨(1),(b)⟩ else ⟨(2),(b)⟩)
def aiv (a:Int) (b:Int):Bool:=true
theorem P40 (a:Int) (b:Int) (h:aiv a b=true):PS Pz 40 [.int .u8 a,.int .u8 b] ((dR .u8 .u8).res (mW a b)):=pq14 ahh h
def G40:GT:=g2 (dI .u8) (dI .u8) (fun a b=>.ret ((dR .u8 .u8).res (mW a b)))
theorem s40:Sound Pz 40 G40:=aW fun a b=>b7 (P40 a b rfl)
def K41:KT:=[(41,17,[(0,[0,6,7,10,11,14,15]),(1,[2])])]
def B41:ax:=bO Pz K41 [] [] []
theorem afC:aV B41:=ak aj trivial trivial trivial
def RO (a:Int):Bool:=(bif a==27 then (true) else (bif a==28 then (true) else (bif a==35 then (true) else (a==36))))
def aiR (a:Int):Bool:=true
theorem P41 (a:Int) (h:aiR a=true):PS Pz 41 [.int .i64 a] (dB.res (RO a)):=pq14 afC h
def G41:GT:=g1 (dI .i64) (fun a=>.ret (dB.res (RO a)))
theorem s41:Sound Pz 41 G41:=aH fun a=>b7 (P41 a rfl)
def K96:KT:=[(96,11,[(0,[1,2]),(1,[4])])]
def B96:ax:=bO Pz K96 [(93,mJ)] [] []
theorem ahG:aV B96:=ak aj ⟨mS,trivial⟩ trivial trivial
def zZ (a:Pos) (b:Int):Bool:=(bA (a.ae.getD (scale 1 b).toNat 0)==0)
def pn (a:Pos) (b:Int):Bool:=(decide (0≤b)&&decide (b < ↑64)&&true)
theorem P96 (a:Pos) (b:Int) (h:pn a b=true):PS Pz 96 [Pos.av a,.int .i64 b] (dB.res (zZ a b)):=pq14 ahG h
def G96:GT:=g2 aZ (dI .i64) (fun a b=>bV (pn a b) (dB.res (zZ a b)))
theorem s96:Sound Pz 96 G96:=aW fun a b=>az (P96 a b)
def K83:KT:=[(83,20,[(0,(1::2::3::(rn 12 7 []))),(1,[6])])]
def B83:ax:=bO Pz K83 [(162,zN),(96,G96)] [] []
theorem ac8:aV B83:=ak aj ⟨Cl,s96,trivial⟩ trivial trivial
def GI (a:Pos) (b:Int) (c:Int):Bool:=(bif !zZ (Pos.mk a.variant a.ae a.ab a.af a.aa a.ai a.ah a.ag a.half a.full) b then (eY (a.ae.getD (scale 1 b).toNat 0)==c) else (false))
def Ap (a:Pos) (b:Int) (c:Int):Bool:=(pn (Pos.mk a.variant a.ae a.ab a.af a.aa a.ai a.ah a.ag a.half a.full) (b)&&(bif !zZ (Pos.mk a.variant a.ae a.ab a.af a.aa a.ai a.ah a.ag a.half a.full) b then (decide (0≤b)&&decide (b < ↑64)&&true) else true))
theorem P83 (a:Pos) (b:Int) (c:Int) (h:Ap a b c=true):PS Pz 83 [Pos.av a,.int .i64 b,.int .u8 c] (dB.res (GI a b c)):=pq14 ac8 h
def VX:GT:=g3 aZ (dI .i64) (dI .u8) (fun a b c=>bV (Ap a b c) (dB.res (GI a b c)))
theorem s83:Sound Pz 83 VX:=cw fun a b c=>az (P83 a b c)
def K42:KT:=[(42,14,[(0,[1,2]),(1,[1,2,5]),(2,[1,2,5,7]),(3,[1,2,5]),(4,[1,2,5,13]),(5,[4]),(6,[4])])]
def WZ:ax:=bO Pz K42 [(83,VX)] [] []
theorem Tb:aV WZ:=ak aj ⟨s83,trivial⟩ trivial trivial
def P6 (p1:Int) (p2:Pos) (x:(Int)):St:=St.mk (.any::.int .u8 p1::.ptr 0 0::.any::.any::.int .i64 x::(an 8 [])) (Hp.mk [(pc p2 [])] [] [] 0 0 0)
def QY (p1:Int) (p2:Pos):Unit ⊕ (Int×Bool)→Out
 | (.inl (y))=>.ret (St.mk (an 4 (AV.aP true::(an 9 []))) (Hp.mk [(pc p2 [])] [] [] 0 0 0))
 | (.inr (y))=>.exit 0 (St.mk (AV.any::AV.int .u8 p1::AV.ptr 0 0::AV.any::AV.any::AV.int .i64 y.1::AV.any::AV.bool y.2::(an 6 [])) (Hp.mk [(pc p2 [])] [] [] 0 0 0))
def Iy (p1:Int) (p2:Pos) (x:(Int)):aF (Int) (Unit ⊕ (Int×Bool)):=(bif decide (x < 64) then (bif GI (Pos.mk p2.variant p2.ae p2.ab p2.af p2.aa p2.ai p2.ah p2.ag p2.half p2.full) x p1 then (aF.out (.inl (()))) else (aF.go (wr .i64 (x+1)))) else (aF.out (.inr ((x,decide (x < 64))))))
def CT (p1:Int) (p2:Pos) (x:(Int)):Bool:=(bif decide (x < 64) then (Ap (Pos.mk p2.variant p2.ae p2.ab p2.af p2.aa p2.ai p2.ah p2.ag p2.half p2.full) (x) (p1)&&true) else true)
def pt (p1:Int) (p2:Pos) (x:(Int)):Option (Unit ⊕ (Int×Bool)):=cP (fun x=>bif CT p1 p2 x then Iy p1 p2 x else .bad) many x
abbrev Qy {α:Type} (k:Int→Pos→(Int)→α) (s:St):α:=wP s 0 fun q0=>k (tI (tT s 1)) q0 ((tI (tT s 5)))
theorem YL (p1:Int) (p2:Pos) (x:(Int)) (r:Unit ⊕ (Int×Bool)) (h:pt p1 p2 x=some r):aB Pz (bj Pz 42 2) (P6 p1 p2 x) (QY p1 p2 r):=aB.vF (m:=12) (fn:=42) Tb (Qy fun _ _ x=>some x) (fun o=>match o with | .ret s=>some (.inl ()) | .exit 0 s=>some (.inr ((tI (tT s 5)),(tB (tT s 7)))) | _=>none) (fun r=>by cases r <;> rfl) (fun _=>by kernel_rfl) (fun _=>by kernel_rfl) (fun _=>by kernel_rfl) (fun _=>by kernel_rfl) many x r h
def PY (b:Code) (s:St):Tr Out:=Qy (fun p1 p2 x=>vM b (bj Pz 42 2) s (P6 p1 p2 x) (pt p1 p2 x) (QY p1 p2)) s
theorem TR:∀ b,aY Pz b (PY b):=fun _ _ _ h=>dq (YL _ _ _) h
def B42:ax:=bO Pz K42 [(83,VX)] [(42,2,PY)] []
theorem ab7:aV B42:=ak aj ⟨s83,trivial⟩ ⟨TR,trivial⟩ trivial
def Qw (a:Pos) (b:Int):Bool:=(bif cq ((pt b (Pos.mk a.variant a.ae a.ab a.af a.aa a.ai a.ah a.ag a.half a.full) 0).getD default) then (true) else (false))
def AU (a:Pos) (b:Int):Bool:=((pt b (Pos.mk a.variant a.ae a.ab a.af a.aa a.ai a.ah a.ag a.half a.full) 0).isSome&&bif cq ((pt b (Pos.mk a.variant a.ae a.ab a.af a.aa a.ai a.ah a.ag a.half a.full) 0).getD default) then true else true)
theorem P42 (a:Pos) (b:Int) (h:AU a b=true):PS Pz 42 [Pos.av a,.int .u8 b] (dB.res (Qw a b)):=pq14 ab7 h
def G42:GT:=g2 aZ (dI .u8) (fun a b=>bV (AU a b) (dB.res (Qw a b)))
theorem s42:Sound Pz 42 G42:=aW fun a b=>az (P42 a b)
def K44:KT:=[(44,23,[(0,(0::1::8::9::12::13::(rn 16 6 []))),(1,[4])])]
def B44:ax:=bO Pz K44 [] [] []
theorem ael:aV B44:=ak aj trivial trivial trivial
def Gn (a:Int) (b:Int):Bool:=(bif decide (a < 9) then (bif decide (b < 2) then (bif a != 4 then (bif a != 7 then (true) else (b==1)) else (false)) else (false)) else (false))
def aeS (a:Int) (b:Int):Bool:=true
theorem P44 (a:Int) (b:Int) (h:aeS a b=true):PS Pz 44 [.int .u8 a,.int .u8 b] (dB.res (Gn a b)):=pq14 ael h
def VH:GT:=g2 (dI .u8) (dI .u8) (fun a b=>.ret (dB.res (Gn a b)))
theorem Zs:Sound Pz 44 VH:=aW fun a b=>b7 (P44 a b rfl)
def agw:KT:=[(239,8,[(0,[0]),(1,[0,4]),(2,[2]),(3,[2])])]
def ah6:ax:=bO Pz agw [] [] []
theorem Y8:aV ah6:=ak aj trivial trivial trivial
def b8 (a:Int):Int:=(bif decide (a < 0) then (wr .i64 (0 - a)) else (a))
def VV (a:Int):Bool:=true
theorem agA (a:Int) (h:VV a=true):PS Pz 239 [.int .i64 a] ((dI .i64).res (b8 a)):=pq14 Y8 h
def T3:GT:=g1 (dI .i64) (fun a=>.ret ((dI .i64).res (b8 a)))
theorem WV:Sound Pz 239 T3:=aH fun a=>b7 (agA a rfl)
def af5:KT:=[(169,26,[(0,(0::1::(rn 9 7 (rn 18 7 [])))),(1,[4])])]
def acj:ax:=bO Pz af5 [(239,T3)] [] []
theorem aad:aV acj:=ak aj ⟨WV,trivial⟩ trivial trivial
def iu (a:Int) (b:Int):Bool:=(bif a != b then (bif decide (b8 (wr .i64 (wr .i64 (a.tdiv 8) - wr .i64 (b.tdiv 8)))≤1) then (decide (b8 (wr .i64 (a.tmod 8 - b.tmod 8))≤1)) else (false)) else (false))
def ZU (a:Int) (b:Int):Bool:=true
theorem ac3 (a:Int) (b:Int) (h:ZU a b=true):PS Pz 169 [.int .i64 a,.int .i64 b] (dB.res (iu a b)):=pq14 aad h
def yZ:GT:=g2 (dI .i64) (dI .i64) (fun a b=>.ret (dB.res (iu a b)))
theorem Bb:Sound Pz 169 yZ:=aW fun a b=>b7 (ac3 a b rfl)
def agM:KT:=[(284,7,[(0,[0]),(1,[0,4]),(2,[2]),(3,[6]),(4,[2]),(5,[2])])]
def ag5:ax:=bO Pz agM [] [] []
theorem Wm:aV ag5:=ak aj trivial trivial trivial
def mH (a:Int):Int:=(bif decide (a < 0) then (-1) else (bif decide (a > 0) then (1) else (0)))
def X2 (a:Int):Bool:=true
theorem aeN (a:Int) (h:X2 a=true):PS Pz 284 [.int .i64 a] ((dI .i64).res (mH a)):=pq14 Wm h
def Tu:GT:=g1 (dI .i64) (fun a=>.ret ((dI .i64).res (mH a)))
theorem Yp:Sound Pz 284 Tu:=aH fun a=>b7 (aeN a rfl)
def aar:KT:=[(240,38,[(0,[1,2,3]),(1,[1,2,3,7]),(2,[2,3,7,8]),(3,[2,3,7,8,28]),(4,[2,3,7,8]),(5,[2,3,7,8,37]),(6,[6]),(7,[6])])]
def TY:ax:=bO Pz aar [(93,mJ),(284,Tu)] [] []
theorem L0:aV TY:=ak aj ⟨mS,Yp,trivial⟩ trivial trivial
def Gp (p1:Int) (p2:Int) (p3:Pos) (x:(Int)):St:=St.mk (.any::.any::.int .i64 p1::.ptr 0 0::(an 3 (.int .i64 p2::.int .i64 x::(an 29 [])))) (Hp.mk [(pc p3 [])] [] [] 0 0 0)
def Ks (p1:Int) (p2:Int) (p3:Pos):Unit ⊕ (Int×Bool)→Out
 | (.inl (y))=>.ret (St.mk (an 6 (AV.aP false::(an 31 []))) (Hp.mk [(pc p3 [])] [] [] 0 0 0))
 | (.inr (y))=>.exit 0 (St.mk (AV.any::AV.any::AV.int .i64 p1::AV.ptr 0 0::(an 3 (AV.int .i64 p2::AV.int .i64 y.1::(an 19 (AV.bool y.2::(an 9 [])))))) (Hp.mk [(pc p3 [])] [] [] 0 0 0))
def jV (p1:Int) (p2:Int) (p3:Pos) (x:(Int)):aF (Int) (Unit ⊕ (Int×Bool)):=(bif x != p1 then (bif bA (p3.ae.getD (scale 1 x).toNat 0) != 0 then (aF.out (.inl (()))) else (aF.go (wr .i64 (x+p2)))) else (aF.out (.inr ((x,x != p1)))))
def iG (p1:Int) (p2:Int) (p3:Pos) (x:(Int)):Bool:=(bif x != p1 then (decide (0≤x)&&decide (x < ↑64)&&true) else true)
def mw (p1:Int) (p2:Int) (p3:Pos) (x:(Int)):Option (Unit ⊕ (Int×Bool)):=cP (fun x=>bif iG p1 p2 p3 x then jV p1 p2 p3 x else .bad) many x
abbrev Ht {α:Type} (k:Int→Int→Pos→(Int)→α) (s:St):α:=wP s 0 fun q0=>k (tI (tT s 2)) (tI (tT s 7)) q0 ((tI (tT s 8)))
theorem Su (p1:Int) (p2:Int) (p3:Pos) (x:(Int)) (r:Unit ⊕ (Int×Bool)) (h:mw p1 p2 p3 x=some r):aB Pz (bj Pz 240 3) (Gp p1 p2 p3 x) (Ks p1 p2 p3 r):=aB.vF (m:=12) (fn:=240) L0 (Ht fun _ _ _ x=>some x) (fun o=>match o with | .ret s=>some (.inl ()) | .exit 0 s=>some (.inr ((tI (tT s 8)),(tB (tT s 28)))) | _=>none) (fun r=>by cases r <;> rfl) (fun _=>by kernel_rfl) (fun _=>by kernel_rfl) (fun _=>by kernel_rfl) (fun _=>by kernel_rfl) many x r h
def GP (b:Code) (s:St):Tr Out:=Ht (fun p1 p2 p3 x=>vM b (bj Pz 240 3) s (Gp p1 p2 p3 x) (mw p1 p2 p3 x) (Ks p1 p2 p3)) s
theorem Ot:∀ b,aY Pz b (GP b):=fun _ _ _ h=>dq (Su _ _ _ _) h
def af9:ax:=bO Pz aar [(93,mJ),(284,Tu)] [(240,3,GP)] []
theorem Zy:aV af9:=ak aj ⟨mS,Yp,trivial⟩ ⟨Ot,trivial⟩ trivial
def cU (a:Pos) (b:Int) (c:Int):Bool:=(bif cq ((mw c (wr .i64 (wr .i64 (8 * mH (wr .i64 (wr .i64 (c.tdiv 8) - wr .i64 (b.tdiv 8))))+mH (wr .i64 (c.tmod 8 - b.tmod 8)))) (Pos.mk a.variant a.ae a.ab a.af a.aa a.ai a.ah a.ag a.half a.full) (wr .i64 (b+wr .i64 (wr .i64 (8 * mH (wr .i64 (wr .i64 (c.tdiv 8) - wr .i64 (b.tdiv 8))))+mH (wr .i64 (c.tmod 8 - b.tmod 8)))))).getD default) then (false) else (true))
def lI (a:Pos) (b:Int) (c:Int):Bool:=((mw c (wr .i64 (wr .i64 (8 * mH (wr .i64 (wr .i64 (c.tdiv 8) - wr .i64 (b.tdiv 8))))+mH (wr .i64 (c.tmod 8 - b.tmod 8)))) (Pos.mk a.variant a.ae a.ab a.af a.aa a.ai a.ah a.ag a.half a.full) (wr .i64 (b+wr .i64 (wr .i64 (8 * mH (wr .i64 (wr .i64 (c.tdiv 8) - wr .i64 (b.tdiv 8))))+mH (wr .i64 (c.tmod 8 - b.tmod 8)))))).isSome&&bif cq ((mw c (wr .i64 (wr .i64 (8 * mH (wr .i64 (wr .i64 (c.tdiv 8) - wr .i64 (b.tdiv 8))))+mH (wr .i64 (c.tmod 8 - b.tmod 8)))) (Pos.mk a.variant a.ae a.ab a.af a.aa a.ai a.ah a.ag a.half a.full) (wr .i64 (b+wr .i64 (wr .i64 (8 * mH (wr .i64 (wr .i64 (c.tdiv 8) - wr .i64 (b.tdiv 8))))+mH (wr .i64 (c.tmod 8 - b.tmod 8)))))).getD default) then true else true)
theorem ahr (a:Pos) (b:Int) (c:Int) (h:lI a b c=true):PS Pz 240 [Pos.av a,.int .i64 b,.int .i64 c] (dB.res (cU a b c)):=pq14 Zy h
def We:GT:=g3 aZ (dI .i64) (dI .i64) (fun a b c=>bV (lI a b c) (dB.res (cU a b c)))
theorem ais:Sound Pz 240 We:=cw fun a b c=>az (ahr a b c)
def acy:KT:=[(170,112,[(0,(1::2::3::37::38::50::51::56::57::65::66::(rn 69 7 (rn 86 4 (rn 95 4 (104::(rn 107 4 []))))))),(1,(1::2::3::7::37::38::50::51::56::57::65::66::(rn 69 7 (rn 86 4 (rn 95 4 (104::(rn 107 4 []))))))),(2,(1::2::3::7::8::9::37::38::50::51::56::57::65::66::(rn 69 7 (rn 86 4 (rn 95 4 (104::(rn 107 4 []))))))),(3,(1::2::3::(rn 7 4 (37::38::50::51::56::57::65::66::(rn 69 7 (rn 86 4 (rn 95 4 (104::(rn 107 4 []))))))))),(4,(1::2::3::(rn 7 5 (50::51::56::57::65::66::(rn 69 7 (rn 86 4 (rn 95 4 (104::(rn 107 4 []))))))))),(5,(1::2::3::(rn 7 5 (41::50::51::56::57::65::66::(rn 69 7 (rn 86 4 (rn 95 4 (104::(rn 107 4 []))))))))),(6,(1::2::3::(rn 7 5 (41::42::50::51::56::57::65::66::(rn 69 7 (rn 86 4 (rn 95 4 (104::(rn 107 4 []))))))))),(7,[8,9,46,50,51,56,57]),(8,[6]),(9,[6]),(10,(1::2::3::(rn 8 4 (41::59::65::66::(rn 69 7 (rn 86 4 (rn 95 4 (104::(rn 107 4 []))))))))),(11,[6]),(12,(1::2::3::10::11::41::77::(rn 86 4 (rn 95 4 (104::(rn 107 4 [])))))),(13,[6]),(14,(1::2::3::10::11::41::82::(rn 86 4 (rn 95 4 (104::(rn 107 4 [])))))),(15,[6]),(16,(1::2::3::10::11::41::91::(rn 95 4 (104::(rn 107 4 []))))),(17,[6]),(18,(1::2::3::10::11::100::104::(rn 107 4 []))),(19,[6]),(20,[6])])]
def aho:ax:=bO Pz acy [(93,mJ),(162,zN),(169,yZ),(239,T3),(240,We)] [] []
theorem ZI:aV aho:=ak aj ⟨mS,Cl,Bb,WV,ais,trivial⟩ trivial trivial
def np (a:Pos) (b:Int) (c:Int):Bool:=(bif b8 (wr .i64 (wr .i64 (c.tdiv 8) - wr .i64 (b.tdiv 8)))==b8 (wr .i64 (c.tmod 8 - b.tmod 8)) then (bif bA (a.ae.getD (scale 1 b).toNat 0)==1 then (bif eY (a.ae.getD (scale 1 b).toNat 0)==0 then (bif wr .i64 (wr .i64 (c.tdiv 8) - wr .i64 (b.tdiv 8))==1 then (b8 (wr .i64 (c.tmod 8 - b.tmod 8))==1) else (false)) else (bif wr .i64 (wr .i64 (c.tdiv 8) - wr .i64 (b.tdiv 8)) == -1 then (b8 (wr .i64 (c.tmod 8 - b.tmod 8))==1) else (false))) else (bif bA (a.ae.getD (scale 1 b).toNat 0)==2 then (bif b8 (wr .i64 (wr .i64 (c.tdiv 8) - wr .i64 (b.tdiv 8)))==1 then (bif b8 (wr .i64 (c.tmod 8 - b.tmod 8))==2 then (true) else (bif b8 (wr .i64 (wr .i64 (c.tdiv 8) - wr .i64 (b.tdiv 8)))==2 then (b8 (wr .i64 (c.tmod 8 - b.tmod 8))==1) else (false))) else (bif b8 (wr .i64 (wr .i64 (c.tdiv 8) - wr .i64 (b.tdiv 8)))==2 then (b8 (wr .i64 (c.tmod 8 - b.tmod 8))==1) else (false))) else (bif bA (a.ae.getD (scale 1 b).toNat 0)==6 then (iu b c) else (bif bA (a.ae.getD (scale 1 b).toNat 0)==4 then (bif bI BinOp.neq ((wr .i64 (wr .i64 (c.tdiv 8) - wr .i64 (b.tdiv 8))==0)==(b8 (wr .i64 (c.tmod 8 - b.tmod 8))==0)) then (cU a b c) else (false)) else (bif bA (a.ae.getD (scale 1 b).toNat 0)==3 then (bif decide (b8 (wr .i64 (c.tmod 8 - b.tmod 8)) > 0) then (cU a b c) else (false)) else (bif bA (a.ae.getD (scale 1 b).toNat 0)==5 then (bif bI BinOp.neq ((wr .i64 (wr .i64 (c.tdiv 8) - wr .i64 (b.tdiv 8))==0)==(b8 (wr .i64 (c.tmod 8 - b.tmod 8))==0)) then (cU a b c) else (bif decide (b8 (wr .i64 (c.tmod 8 - b.tmod 8)) > 0) then (cU a b c) else (false))) else (false))))))) else (bif bA (a.ae.getD (scale 1 b).toNat 0)==1 then (bif eY (a.ae.getD (scale 1 b).toNat 0)==0 then (bif wr .i64 (wr .i64 (c.tdiv 8) - wr .i64 (b.tdiv 8))==1 then (b8 (wr .i64 (c.tmod 8 - b.tmod 8))==1) else (false)) else (bif wr .i64 (wr .i64 (c.tdiv 8) - wr .i64 (b.tdiv 8)) == -1 then (b8 (wr .i64 (c.tmod 8 - b.tmod 8))==1) else (false))) else (bif bA (a.ae.getD (scale 1 b).toNat 0)==2 then (bif b8 (wr .i64 (wr .i64 (c.tdiv 8) - wr .i64 (b.tdiv 8)))==1 then (bif b8 (wr .i64 (c.tmod 8 - b.tmod 8))==2 then (true) else (bif b8 (wr .i64 (wr .i64 (c.tdiv 8) - wr .i64 (b.tdiv 8)))==2 then (b8 (wr .i64 (c.tmod 8 - b.tmod 8))==1) else (false))) else (bif b8 (wr .i64 (wr .i64 (c.tdiv 8) - wr .i64 (b.tdiv 8)))==2 then (b8 (wr .i64 (c.tmod 8 - b.tmod 8))==1) else (false))) else (bif bA (a.ae.getD (scale 1 b).toNat 0)==6 then (iu b c) else (bif bA (a.ae.getD (scale 1 b).toNat 0)==4 then (bif bI BinOp.neq ((wr .i64 (wr .i64 (c.tdiv 8) - wr .i64 (b.tdiv 8))==0)==(b8 (wr .i64 (c.tmod 8 - b.tmod 8))==0)) then (cU a b c) else (false)) else (bif bA (a.ae.getD (scale 1 b).toNat 0)==3 then (false) else (bif bA (a.ae.getD (scale 1 b).toNat 0)==5 then (bif bI BinOp.neq ((wr .i64 (wr .i64 (c.tdiv 8) - wr .i64 (b.tdiv 8))==0)==(b8 (wr .i64 (c.tmod 8 - b.tmod 8))==0)) then (cU a b c) else (false)) else (false))))))))
def nF (a:Pos) (b:Int) (c:Int):Bool:=(decide (0≤b)&&decide (b < Int.ofNat 64)&&(bif b8 (wr .i64 (wr .i64 (c.tdiv 8) - wr .i64 (b.tdiv 8)))==b8 (wr .i64 (c.tmod 8 - b.tmod 8)) then (bif bA (a.ae.getD (scale 1 b).toNat 0)==1 then true else (bif bA (a.ae.getD (scale 1 b).toNat 0)==2 then true else (bif bA (a.ae.getD (scale 1 b).toNat 0)==6 then true else (bif bA (a.ae.getD (scale 1 b).toNat 0)==4 then (bif bI BinOp.neq ((wr .i64 (wr .i64 (c.tdiv 8) - wr .i64 (b.tdiv 8))==0)==(b8 (wr .i64 (c.tmod 8 - b.tmod 8))==0)) then (lI (a) (b) (c)&&true) else true) else (bif bA (a.ae.getD (scale 1 b).toNat 0)==3 then (bif decide (b8 (wr .i64 (c.tmod 8 - b.tmod 8)) > 0) then (lI (a) (b) (c)&&true) else true) else (bif bA (a.ae.getD (scale 1 b).toNat 0)==5 then (bif bI BinOp.neq ((wr .i64 (wr .i64 (c.tdiv 8) - wr .i64 (b.tdiv 8))==0)==(b8 (wr .i64 (c.tmod 8 - b.tmod 8))==0)) then (lI (a) (b) (c)&&true) else (bif decide (b8 (wr .i64 (c.tmod 8 - b.tmod 8)) > 0) then (lI (a) (b) (c)&&true) else true)) else true)))))) else (bif bA (a.ae.getD (scale 1 b).toNat 0)==1 then true else (bif bA (a.ae.getD (scale 1 b).toNat 0)==2 then true else (bif bA (a.ae.getD (scale 1 b).toNat 0)==6 then true else (bif bA (a.ae.getD (scale 1 b).toNat 0)==4 then (bif bI BinOp.neq ((wr .i64 (wr .i64 (c.tdiv 8) - wr .i64 (b.tdiv 8))==0)==(b8 (wr .i64 (c.tmod 8 - b.tmod 8))==0)) then (lI (a) (b) (c)&&true) else true) else (bif bA (a.ae.getD (scale 1 b).toNat 0)==3 then true else (bif bA (a.ae.getD (scale 1 b).toNat 0)==5 then (bif bI BinOp.neq ((wr .i64 (wr .i64 (c.tdiv 8) - wr .i64 (b.tdiv 8))==0)==(b8 (wr .i64 (c.tmod 8 - b.tmod 8))==0)) then (lI (a) (b) (c)&&true) else true) else true))))))))
theorem agY (a:Pos) (b:Int) (c:Int) (h:nF a b c=true):PS Pz 170 [Pos.av a,.int .i64 b,.int .i64 c] (dB.res (np a b c)):=pq14 ZI h
def BH:GT:=g3 aZ (dI .i64) (dI .i64) (fun a b c=>bV (nF a b c) (dB.res (np a b c)))
theorem E6:Sound Pz 170 BH:=cw fun a b c=>az (agY a b c)
def K97:KT:=[(97,5,[(0,[0]),(1,[4]),(2,[2]),(3,[2])])]
def B97:ax:=bO Pz K97 [] [] []
theorem ajk:aV B97:=ak aj trivial trivial trivial
def fX (a:Int):Int:=(bif a==0 then (8) else (-8))
def ahU (a:Int):Bool:=true
theorem P97 (a:Int) (h:ahU a=true):PS Pz 97 [.int .u8 a] ((dI .i64).res (fX a)):=pq14 ajk h
def ZR:GT:=g1 (dI .u8) (fun a=>.ret ((dI .i64).res (fX a)))
theorem s97:Sound Pz 97 ZR:=aH fun a=>b7 (P97 a rfl)
def ahP:KT:=[(164,12,[(0,[0,1]),(1,[1,6]),(2,[4]),(3,[4])])]
def aee:ax:=bO Pz ahP [] [] []
theorem Ww:aV aee:=ak aj trivial trivial trivial
def gW (a:Int) (b:Int):Int:=(bif a==0 then (wr .i64 (b.tdiv 8)) else (wr .i64 (7 - wr .i64 (b.tdiv 8))))
def ZO (a:Int) (b:Int):Bool:=true
theorem aeM (a:Int) (b:Int) (h:ZO a b=true):PS Pz 164 [.int .u8 a,.int .i64 b] ((dI .i64).res (gW a b)):=pq14 Ww h
def wG:GT:=g2 (dI .u8) (dI .i64) (fun a b=>.ret ((dI .i64).res (gW a b)))
theorem zI:Sound Pz 164 wG:=aW fun a b=>b7 (aeM a b rfl)
def acs:KT:=[(235,79,[(0,(1::2::3::(rn 24 5 (rn 45 12 (65::(rn 68 5 [75,76,77])))))),(1,(1::2::3::7::(rn 24 5 (rn 45 12 (65::(rn 68 5 [75,76,77])))))),(2,(1::2::3::7::16::(rn 24 5 (rn 45 12 (65::(rn 68 5 [75,76,77])))))),(3,[6]),(4,(1::2::3::7::34::(rn 45 12 (65::(rn 68 5 [75,76,77]))))),(5,[6]),(6,(1::2::3::7::8::(rn 45 12 (65::(rn 68 5 [75,76,77]))))),(7,(1::2::3::7::9::65::(rn 68 5 [75,76,77]))),(8,[6])])]
def ajC:ax:=bO Pz acs [(83,VX),(96,G96),(97,ZR),(170,BH),(164,wG)] [] []
theorem VZ:aV ajC:=ak aj ⟨s83,s96,s97,E6,zI,trivial⟩ trivial trivial
def GD (a:Pos) (b:Int) (c:Int):Bool:=(bif np a b c then (bif GI a c (wr .u8 (1 - a.aa)) then (true) else (wr .i64 a.ah==c)) else (bif c==wr .i64 (b+fX a.aa) then (zZ a c) else (bif gW a.aa b==1 then (bif c==wr .i64 (b+wr .i64 (2 * fX a.aa)) then (bif zZ a (wr .i64 (b+fX a.aa)) then (zZ a c) else (false)) else (false)) else (bif gW a.aa b==0 then (bif a.variant==7 then (bif c==wr .i64 (b+wr .i64 (2 * fX a.aa)) then (bif a.aa==0 then (bif zZ a (wr .i64 (b+fX a.aa)) then (zZ a c) else (false)) else (false)) else (false)) else (bif c==wr .i64 (b+wr .i64 (2 * fX a.aa)) then (false) else (false))) else (bif c==wr .i64 (b+wr .i64 (2 * fX a.aa)) then (false) else (false))))))
def yQ (a:Pos) (b:Int) (c:Int):Bool:=(nF (a) (b) (c)&&(bif np a b c then (Ap (a) (c) (wr .u8 (1 - a.aa))&&true) else (bif c==wr .i64 (b+fX a.aa) then (pn (a) (c)&&true) else (bif gW a.aa b==1 then (bif c==wr .i64 (b+wr .i64 (2 * fX a.aa)) then (pn (a) (wr .i64 (b+fX a.aa))&&(bif zZ a (wr .i64 (b+fX a.aa)) then (pn (a) (c)&&true) else true)) else true) else (bif gW a.aa b==0 then (bif a.variant==7 then (bif c==wr .i64 (b+wr .i64 (2 * fX a.aa)) then (bif a.aa==0 then (pn (a) (wr .i64 (b+fX a.aa))&&(bif zZ a (wr .i64 (b+fX a.aa)) then (pn (a) (c)&&true) else true)) else true) else true) else true) else true)))))
theorem acG (a:Pos) (b:Int) (c:Int) (h:yQ a b c=true):PS Pz 235 [Pos.av a,.int .i64 b,.int .i64 c] (dB.res (GD a b c)):=pq14 VZ h
def aaR:GT:=g3 aZ (dI .i64) (dI .i64) (fun a b c=>bV (yQ a b c) (dB.res (GD a b c)))
theorem ahz:Sound Pz 235 aaR:=cw fun a b c=>az (acG a b c)
end Kz
end
