/- Part 6 of the texts under the proof: an abstract interpreter,the summaries of functions,plain laws. -/
import Derived.Test.YtgbndomcmihfkaaGreatDoorD5
set_option linter.unusedSectionVars false
set_option linter.unusedVariables false
set_option linter.unusedSimpArgs false
set_option linter.unnecessarySimpa false
set_option maxRecDepth 100000
set_option maxHeartbeats 4000000
noncomputable section
namespace Kz
open Go Go.RowKit Go.Proofs
def aix:KT:=[(258,12,[(0,[1,2]),(1,[4])])]
def aee:aw:=bO Pz aix [(147,gV)] [] []
theorem Xz:aW aee:=aj ak ⟨gX,trivial⟩ trivial trivial
def ez (a:Pos) (b:Int):BitVec 64:=(aO (Pos.mk a.variant a.ae a.ab a.af a.aa a.ai a.ah a.ag a.half a.full) 0 b|||aO (Pos.mk a.variant a.ae a.ab a.af a.aa a.ai a.ah a.ag a.half a.full) 1 b)
def oH (a:Pos) (b:Int):Bool:=(cx (Pos.mk a.variant a.ae a.ab a.af a.aa a.ai a.ah a.ag a.half a.full) (0) (b)&&(cx (Pos.mk a.variant a.ae a.ab a.af a.aa a.ai a.ah a.ag a.half a.full) (1) (b)&&true))
theorem ahO (a:Pos) (b:Int) (h:oH a b=true):PS Pz 258 [Pos.av a,.int .u8 b] (dU.res (ez a b)):=pq14 Xz h
def abi:GT:=g2 aY (dI .u8) (fun a b=>cp (oH a b) (dU.res (ez a b)))
theorem adh:Sound Pz 258 abi:=bb fun a b=>aC (ahO a b)
def aiI:KT:=[(259,35,[(0,[0]),(1,[0]),(2,[0]),(3,[0]),(4,[0]),(5,[0]),(6,[0]),(7,[2])])]
def agi:aw:=bO Pz aiI [] [] []
theorem Zr:aW agi:=aj ak trivial trivial trivial
def j8 (a:BitVec 64):Int:=(iY BinOp.and .i64 (wr .i64 ↑((((((a >>> 1&&&6148914691236517205#64)+(a&&&6148914691236517205#64)) >>> 2&&&3689348814741910323#64)+((a >>> 1&&&6148914691236517205#64)+(a&&&6148914691236517205#64)&&&3689348814741910323#64)) >>> 4+((((a >>> 1&&&6148914691236517205#64)+(a&&&6148914691236517205#64)) >>> 2&&&3689348814741910323#64)+((a >>> 1&&&6148914691236517205#64)+(a&&&6148914691236517205#64)&&&3689348814741910323#64))&&&1085102592571150095#64)+(((((a >>> 1&&&6148914691236517205#64)+(a&&&6148914691236517205#64)) >>> 2&&&3689348814741910323#64)+((a >>> 1&&&6148914691236517205#64)+(a&&&6148914691236517205#64)&&&3689348814741910323#64)) >>> 4+((((a >>> 1&&&6148914691236517205#64)+(a&&&6148914691236517205#64)) >>> 2&&&3689348814741910323#64)+((a >>> 1&&&6148914691236517205#64)+(a&&&6148914691236517205#64)&&&3689348814741910323#64))&&&1085102592571150095#64) >>> 8+((((((a >>> 1&&&6148914691236517205#64)+(a&&&6148914691236517205#64)) >>> 2&&&3689348814741910323#64)+((a >>> 1&&&6148914691236517205#64)+(a&&&6148914691236517205#64)&&&3689348814741910323#64)) >>> 4+((((a >>> 1&&&6148914691236517205#64)+(a&&&6148914691236517205#64)) >>> 2&&&3689348814741910323#64)+((a >>> 1&&&6148914691236517205#64)+(a&&&6148914691236517205#64)&&&3689348814741910323#64))&&&1085102592571150095#64)+(((((a >>> 1&&&6148914691236517205#64)+(a&&&6148914691236517205#64)) >>> 2&&&3689348814741910323#64)+((a >>> 1&&&6148914691236517205#64)+(a&&&6148914691236517205#64)&&&3689348814741910323#64)) >>> 4+((((a >>> 1&&&6148914691236517205#64)+(a&&&6148914691236517205#64)) >>> 2&&&3689348814741910323#64)+((a >>> 1&&&6148914691236517205#64)+(a&&&6148914691236517205#64)&&&3689348814741910323#64))&&&1085102592571150095#64) >>> 8) >>> 16+((((((a >>> 1&&&6148914691236517205#64)+(a&&&6148914691236517205#64)) >>> 2&&&3689348814741910323#64)+((a >>> 1&&&6148914691236517205#64)+(a&&&6148914691236517205#64)&&&3689348814741910323#64)) >>> 4+((((a >>> 1&&&6148914691236517205#64)+(a&&&6148914691236517205#64)) >>> 2&&&3689348814741910323#64)+((a >>> 1&&&6148914691236517205#64)+(a&&&6148914691236517205#64)&&&3689348814741910323#64))&&&1085102592571150095#64)+(((((a >>> 1&&&6148914691236517205#64)+(a&&&6148914691236517205#64)) >>> 2&&&3689348814741910323#64)+((a >>> 1&&&6148914691236517205#64)+(a&&&6148914691236517205#64)&&&3689348814741910323#64)) >>> 4+((((a >>> 1&&&6148914691236517205#64)+(a&&&6148914691236517205#64)) >>> 2&&&3689348814741910323#64)+((a >>> 1&&&6148914691236517205#64)+(a&&&6148914691236517205#64)&&&3689348814741910323#64))&&&1085102592571150095#64) >>> 8+((((((a >>> 1&&&6148914691236517205#64)+(a&&&6148914691236517205#64)) >>> 2&&&3689348814741910323#64)+((a >>> 1&&&6148914691236517205#64)+(a&&&6148914691236517205#64)&&&3689348814741910323#64)) >>> 4+((((a >>> 1&&&6148914691236517205#64)+(a&&&6148914691236517205#64)) >>> 2&&&3689348814741910323#64)+((a >>> 1&&&6148914691236517205#64)+(a&&&6148914691236517205#64)&&&3689348814741910323#64))&&&1085102592571150095#64)+(((((a >>> 1&&&6148914691236517205#64)+(a&&&6148914691236517205#64)) >>> 2&&&3689348814741910323#64)+((a >>> 1&&&6148914691236517205#64)+(a&&&6148914691236517205#64)&&&3689348814741910323#64)) >>> 4+((((a >>> 1&&&6148914691236517205#64)+(a&&&6148914691236517205#64)) >>> 2&&&3689348814741910323#64)+((a >>> 1&&&6148914691236517205#64)+(a&&&6148914691236517205#64)&&&3689348814741910323#64))&&&1085102592571150095#64) >>> 8) >>> 16) >>> 32).toNat) 127)
def aca (a:BitVec 64):Bool:=true
theorem ajJ (a:BitVec 64) (h:aca a=true):PS Pz 259 [.u64 a] ((dI .i64).res (j8 a)):=pq14 Zr h
def aak:GT:=g1 dU (fun a=>.ret ((dI .i64).res (j8 a)))
theorem afv:Sound Pz 259 aak:=aH fun a=>bV (ajJ a rfl)
def afg:KT:=[(228,68,[(0,(1::(rn 32 13 [59,60,61,64,65,66]))),(1,(1::3::(rn 32 13 [59,60,61,64,65,66]))),(2,(1::3::11::(rn 32 13 [59,60,61,64,65,66]))),(3,(1::3::11::12::(rn 32 13 [59,60,61,64,65,66]))),(4,(1::3::11::12::(rn 32 13 [59,60,61,64,65,66]))),(5,(1::4::(rn 32 13 []))),(6,(1::4::5::(rn 32 13 []))),(7,(4::5::27::(rn 32 13 []))),(8,[2]),(9,[2]),(10,[1,3,11,46,59,60,61,64,65,66]),(11,[1,3,46,59,60,61,64,65,66]),(12,[3,6,7,59,60,61,64,65,66]),(13,[2]),(14,[2])])]
def ac2:aw:=bO Pz afg [(193,u6),(258,abi),(259,aak),(147,gV)] [] []
theorem aaI:aW ac2:=aj ak ⟨vn,adh,afv,gX,trivial⟩ trivial trivial
def B5 (a:Pos):Bool:=(bif a.variant==0 then (bif a.variant==0 then (bif bh (Pos.mk a.variant a.ae a.ab a.af a.aa a.ai a.ah a.ag a.half a.full) &&& ~~~ez (Pos.mk a.variant a.ae a.ab a.af a.aa a.ai a.ah a.ag a.half a.full) 6 &&& ~~~ez (Pos.mk a.variant a.ae a.ab a.af a.aa a.ai a.ah a.ag a.half a.full) 3 &&& ~~~ez (Pos.mk a.variant a.ae a.ab a.af a.aa a.ai a.ah a.ag a.half a.full) 2 != 0#64 then (false) else (bif decide (j8 (bh (Pos.mk a.variant a.ae a.ab a.af a.aa a.ai a.ah a.ag a.half a.full) &&& ~~~ez (Pos.mk a.variant a.ae a.ab a.af a.aa a.ai a.ah a.ag a.half a.full) 6)≤1) then (true) else (bif bh (Pos.mk a.variant a.ae a.ab a.af a.aa a.ai a.ah a.ag a.half a.full) &&& ~~~ez (Pos.mk a.variant a.ae a.ab a.af a.aa a.ai a.ah a.ag a.half a.full) 6==ez (Pos.mk a.variant a.ae a.ab a.af a.aa a.ai a.ah a.ag a.half a.full) 3 then (bif bh (Pos.mk a.variant a.ae a.ab a.af a.aa a.ai a.ah a.ag a.half a.full) &&& ~~~ez (Pos.mk a.variant a.ae a.ab a.af a.aa a.ai a.ah a.ag a.half a.full) 6&&&6172840429334713770#64==0#64 then (true) else (bh (Pos.mk a.variant a.ae a.ab a.af a.aa a.ai a.ah a.ag a.half a.full) &&& ~~~ez (Pos.mk a.variant a.ae a.ab a.af a.aa a.ai a.ah a.ag a.half a.full) 6 &&& ~~~6172840429334713770#64==0#64)) else (false)))) else (bif a.variant==3 then (bif a.variant==3 then (bif bh (Pos.mk a.variant a.ae a.ab a.af a.aa a.ai a.ah a.ag a.half a.full)==aO (Pos.mk a.variant a.ae a.ab a.af a.aa a.ai a.ah a.ag a.half a.full) 0 6|||aO (Pos.mk a.variant a.ae a.ab a.af a.aa a.ai a.ah a.ag a.half a.full) 1 6 then (bif j8 (aO (Pos.mk a.variant a.ae a.ab a.af a.aa a.ai a.ah a.ag a.half a.full) 0 6)==1 then (j8 (aO (Pos.mk a.variant a.ae a.ab a.af a.aa a.ai a.ah a.ag a.half a.full) 1 6)==1) else (false)) else (false)) else (false)) else (bif a.variant==5 then (bif bh (Pos.mk a.variant a.ae a.ab a.af a.aa a.ai a.ah a.ag a.half a.full)==aO (Pos.mk a.variant a.ae a.ab a.af a.aa a.ai a.ah a.ag a.half a.full) 0 6|||aO (Pos.mk a.variant a.ae a.ab a.af a.aa a.ai a.ah a.ag a.half a.full) 1 6 then (bif j8 (aO (Pos.mk a.variant a.ae a.ab a.af a.aa a.ai a.ah a.ag a.half a.full) 0 6)==1 then (j8 (aO (Pos.mk a.variant a.ae a.ab a.af a.aa a.ai a.ah a.ag a.half a.full) 1 6)==1) else (false)) else (false)) else (false)))) else (bif a.variant==1 then (bif bh (Pos.mk a.variant a.ae a.ab a.af a.aa a.ai a.ah a.ag a.half a.full) &&& ~~~ez (Pos.mk a.variant a.ae a.ab a.af a.aa a.ai a.ah a.ag a.half a.full) 6 &&& ~~~ez (Pos.mk a.variant a.ae a.ab a.af a.aa a.ai a.ah a.ag a.half a.full) 3 &&& ~~~ez (Pos.mk a.variant a.ae a.ab a.af a.aa a.ai a.ah a.ag a.half a.full) 2 != 0#64 then (false) else (bif decide (j8 (bh (Pos.mk a.variant a.ae a.ab a.af a.aa a.ai a.ah a.ag a.half a.full) &&& ~~~ez (Pos.mk a.variant a.ae a.ab a.af a.aa a.ai a.ah a.ag a.half a.full) 6)≤1) then (true) else (bif bh (Pos.mk a.variant a.ae a.ab a.af a.aa a.ai a.ah a.ag a.half a.full) &&& ~~~ez (Pos.mk a.variant a.ae a.ab a.af a.aa a.ai a.ah a.ag a.half a.full) 6==ez (Pos.mk a.variant a.ae a.ab a.af a.aa a.ai a.ah a.ag a.half a.full) 3 then (bif bh (Pos.mk a.variant a.ae a.ab a.af a.aa a.ai a.ah a.ag a.half a.full) &&& ~~~ez (Pos.mk a.variant a.ae a.ab a.af a.aa a.ai a.ah a.ag a.half a.full) 6&&&6172840429334713770#64==0#64 then (true) else (bh (Pos.mk a.variant a.ae a.ab a.af a.aa a.ai a.ah a.ag a.half a.full) &&& ~~~ez (Pos.mk a.variant a.ae a.ab a.af a.aa a.ai a.ah a.ag a.half a.full) 6 &&& ~~~6172840429334713770#64==0#64)) else (false)))) else (bif a.variant==3 then (bif a.variant==3 then (bif bh (Pos.mk a.variant a.ae a.ab a.af a.aa a.ai a.ah a.ag a.half a.full)==aO (Pos.mk a.variant a.ae a.ab a.af a.aa a.ai a.ah a.ag a.half a.full) 0 6|||aO (Pos.mk a.variant a.ae a.ab a.af a.aa a.ai a.ah a.ag a.half a.full) 1 6 then (bif j8 (aO (Pos.mk a.variant a.ae a.ab a.af a.aa a.ai a.ah a.ag a.half a.full) 0 6)==1 then (j8 (aO (Pos.mk a.variant a.ae a.ab a.af a.aa a.ai a.ah a.ag a.half a.full) 1 6)==1) else (false)) else (false)) else (false)) else (bif a.variant==5 then (bif bh (Pos.mk a.variant a.ae a.ab a.af a.aa a.ai a.ah a.ag a.half a.full)==aO (Pos.mk a.variant a.ae a.ab a.af a.aa a.ai a.ah a.ag a.half a.full) 0 6|||aO (Pos.mk a.variant a.ae a.ab a.af a.aa a.ai a.ah a.ag a.half a.full) 1 6 then (bif j8 (aO (Pos.mk a.variant a.ae a.ab a.af a.aa a.ai a.ah a.ag a.half a.full) 0 6)==1 then (j8 (aO (Pos.mk a.variant a.ae a.ab a.af a.aa a.ai a.ah a.ag a.half a.full) 1 6)==1) else (false)) else (false)) else (false)))))
def zU (a:Pos):Bool:=(qP (Pos.mk a.variant a.ae a.ab a.af a.aa a.ai a.ah a.ag a.half a.full)&&(bif a.variant==0 then (bif a.variant==0 then (oH (Pos.mk a.variant a.ae a.ab a.af a.aa a.ai a.ah a.ag a.half a.full) (6)&&(oH (Pos.mk a.variant a.ae a.ab a.af a.aa a.ai a.ah a.ag a.half a.full) (3)&&(oH (Pos.mk a.variant a.ae a.ab a.af a.aa a.ai a.ah a.ag a.half a.full) (2)&&true))) else (bif a.variant==3 then (bif a.variant==3 then (cx (Pos.mk a.variant a.ae a.ab a.af a.aa a.ai a.ah a.ag a.half a.full) (0) (6)&&(cx (Pos.mk a.variant a.ae a.ab a.af a.aa a.ai a.ah a.ag a.half a.full) (1) (6)&&true)) else true) else (bif a.variant==5 then (cx (Pos.mk a.variant a.ae a.ab a.af a.aa a.ai a.ah a.ag a.half a.full) (0) (6)&&(cx (Pos.mk a.variant a.ae a.ab a.af a.aa a.ai a.ah a.ag a.half a.full) (1) (6)&&true)) else true))) else (bif a.variant==1 then (oH (Pos.mk a.variant a.ae a.ab a.af a.aa a.ai a.ah a.ag a.half a.full) (6)&&(oH (Pos.mk a.variant a.ae a.ab a.af a.aa a.ai a.ah a.ag a.half a.full) (3)&&(oH (Pos.mk a.variant a.ae a.ab a.af a.aa a.ai a.ah a.ag a.half a.full) (2)&&true))) else (bif a.variant==3 then (bif a.variant==3 then (cx (Pos.mk a.variant a.ae a.ab a.af a.aa a.ai a.ah a.ag a.half a.full) (0) (6)&&(cx (Pos.mk a.variant a.ae a.ab a.af a.aa a.ai a.ah a.ag a.half a.full) (1) (6)&&true)) else true) else (bif a.variant==5 then (cx (Pos.mk a.variant a.ae a.ab a.af a.aa a.ai a.ah a.ag a.half a.full) (0) (6)&&(cx (Pos.mk a.variant a.ae a.ab a.af a.aa a.ai a.ah a.ag a.half a.full) (1) (6)&&true)) else true)))))
theorem adY (a:Pos) (h:zU a=true):PS Pz 228 [Pos.av a] (dB.res (B5 a)):=pq14 aaI h
def ZU:GT:=g1 aY (fun a=>cp (zU a) (dB.res (B5 a)))
theorem adK:Sound Pz 228 ZU:=aH fun a=>aC (adY a)
def ae1:KT:=[(180,7,[(0,[1,2]),(1,[2,4]),(2,[2]),(3,[2])])]
def aeL:aw:=bO Pz ae1 [(228,ZU),(227,N1)] [] []
theorem Xq:aW aeL:=aj ak ⟨adK,Wp,trivial⟩ trivial trivial
def uO (a:Pos):(Int×Int):=(bif B5 (Pos.mk a.variant a.ae a.ab a.af a.aa a.ai a.ah a.ag a.half a.full) then ⟨((zr 3).1),((zr 3).2)⟩ else ⟨(0),(0)⟩)
def Ey (a:Pos):Bool:=(zU (Pos.mk a.variant a.ae a.ab a.af a.aa a.ai a.ah a.ag a.half a.full)&&true)
theorem ai8 (a:Pos) (h:Ey a=true):PS Pz 180 [Pos.av a] ((dR .u8 .u8).res (uO a)):=pq14 Xq h
def aba:GT:=g1 aY (fun a=>cp (Ey a) ((dR .u8 .u8).res (uO a)))
theorem agz:Sound Pz 180 aba:=aH fun a=>aC (ai8 a)
def afJ:KT:=[(181,8,[(0,[1,2]),(1,[2,5]),(2,[2]),(3,[2])])]
def ael:aw:=bO Pz afJ [(227,N1)] [] []
theorem ZV:aW ael:=aj ak ⟨Wp,trivial⟩ trivial trivial
def tp (a:Pos):(Int×Int):=(bif decide (a.half≥150) then ⟨((zr 4).1),((zr 4).2)⟩ else ⟨(0),(0)⟩)
def aaB (a:Pos):Bool:=true
theorem ahc (a:Pos) (h:aaB a=true):PS Pz 181 [Pos.av a] ((dR .u8 .u8).res (tp a)):=pq14 ZV h
def YU:GT:=g1 aY (fun a=>.ret ((dR .u8 .u8).res (tp a)))
theorem af2:Sound Pz 181 YU:=aH fun a=>bV (ahc a rfl)
def K62:KT:=[(62,29,[(0,[1,2,10,11,12]),(1,[1,2,13]),(2,[2]),(3,[1,2,15,16]),(4,[1,2,15,16,17]),(5,[1,2,4,15,16]),(6,[1,2,5,15,16]),(7,[1,2,5,15,16,25]),(8,[2]),(9,[1,2,15,16]),(10,[2])])]
def B62:aw:=bO Pz K62 [(63,G63),(118,XP),(179,aab),(180,aba),(181,YU)] [] []
theorem adD:aW B62:=aj ak ⟨s63,agQ,ac8,agz,af2,trivial⟩ trivial trivial
def vk (a:Pos):(Int×Int):=(bif decide (a.variant≥9) then ⟨(0),(0)⟩ else (bif decide (a.aa>1) then ⟨(0),(0)⟩ else (bif (rL a).1 != 0 then ⟨((rL a).1),((rL a).2)⟩ else (bif (mU a).1 != 0 then ⟨((mU a).1),((mU a).2)⟩ else (bif (uO a).1 != 0 then ⟨((uO a).1),((uO a).2)⟩ else (bif (tp a).1 != 0 then ⟨((tp a).1),((tp a).2)⟩ else ⟨(0),(0)⟩))))))
def PF (a:Pos):Bool:=(bif decide (a.variant≥9) then true else (bif decide (a.aa>1) then true else (Gt (a)&&(bif (rL a).1 != 0 then true else (D1 (a)&&(bif (mU a).1 != 0 then true else (Ey (a)&&true)))))))
theorem P62 (a:Pos) (h:PF a=true):PS Pz 62 [Pos.av a] ((dR .u8 .u8).res (vk a)):=pq14 adD h
def G62:GT:=g1 aY (fun a=>cp (PF a) ((dR .u8 .u8).res (vk a)))
theorem s62:Sound Pz 62 G62:=aH fun a=>aC (P62 a)
end Kz
end
noncomputable section
namespace Kz
open Go Go.RowKit
theorem aj1 (p:Pos) (b:Int):oH p b=true:=ao (t147 _ _ _) fun _=>ao (t147 _ _ _) fun _=>rfl
theorem t228 (p:Pos):zU p=true:=by
 unfold zU
 rw [show (Pos.mk p.variant p.ae p.ab p.af p.aa p.ai p.ah p.ag p.half p.full)=p from rfl]
 repeat' (first | with_reducible rfl | with_reducible exact t193 _ | with_reducible exact aj1 _ _ | with_reducible exact t147 _ _ _ | refine ao ?_ (fun _=>?_) | refine ar (fun _=>?_) (fun _=>?_))
theorem t180 (p:Pos):Ey p=true:=ao (t228 _) fun _=>rfl
theorem t179 {p:Pos} (hp:aA p):D1 p=true:=ao (t30 hp) fun _=>ar (fun _=>rfl) fun _=>ar (fun _=>rfl) fun _=>ao (t149 hp.v0 hp.t0) fun _=>rfl
theorem t62 {p:Pos} (hp:aA p):PF p=true:=ar (fun _=>rfl) fun _=>ar (fun _=>rfl) fun _=>ao (t63 hp) fun _=>ar (fun _=>rfl) fun _=>ao (t179 hp) fun _=>ar (fun _=>rfl) fun _=>ao (t180 p) fun _=>rfl
theorem xS {p:Pos} (h:¬ there p):vk p=(0,0):=by
 unfold there at h
 unfold vk
 refine aq (P:=fun r:Int×Int=>r=(0,0)) (fun _=>rfl) fun h1=>aq (P:=fun r:Int×Int=>r=(0,0)) (fun _=>rfl) fun h2=>?_
 have h1:p.variant<9:=by simpa using h1
 have h2:p.aa≤1:=by simpa using h2
 exact absurd ⟨h2,h1⟩ h
theorem qq {p:Pos} (h:there p):vk p=bif (rL p).1 != 0 then rL p else bif (mU p).1 != 0 then mU p else bif (uO p).1 != 0 then uO p else bif (tp p).1 != 0 then tp p else (0,0):=by
 obtain ⟨h1,h2⟩:=h
 unfold vk
 rw [show decide (p.variant≥9)=false by simp;omega,show decide (p.aa>1)=false by simp;omega]
 rfl
theorem Ea (p:Pos):uO p=(3,3)∨uO p=(0,0):=by
 unfold uO
 exact aq (P:=fun r:Int×Int=>r=(3,3)∨r=(0,0)) (fun _=>.inl rfl) fun _=>.inr rfl
theorem Ei (p:Pos):(tp p=(3,4)∧150≤p.half)∨(tp p=(0,0)∧p.half<150):=by
 unfold tp
 exact aq (P:=fun r:Int×Int=>(r=(3,4)∧_)∨(r=(0,0)∧_)) (fun h=>.inl ⟨rfl,by simpa using h⟩) fun h=>.inr ⟨rfl,by simpa using h⟩
theorem DQ {p:Pos} (ht:there p) (hp:aA p) (h:(mU p).1≠0):(ba p).length=0∧(mU p=(1+p.aa,8)∨(mU p=(2-p.aa,1)∧hQ p p.aa=true)∨(mU p=(3,2)∧hQ p p.aa=false)):=by
 have t0:=hp.t0
 have t1:=ht.1
 revert h
 unfold mU
 rw [ni (n:=1+p.aa) (by omega) (by omega),ni (n:=2-p.aa) (by omega) (by omega)]
 refine aq (P:=fun r:Int×Int=>r.1≠0→(ba p).length=0∧(r=(1+p.aa,8)∨(r=(2-p.aa,1)∧hQ p p.aa=true)∨(r=(3,2)∧hQ p p.aa=false))) (fun _ h=>absurd rfl h) fun hl=>?_
 have hl:(ba p).length=0:=by simpa using hl
 refine aq (P:=fun r:Int×Int=>r.1≠0→(ba p).length=0∧(r=(1+p.aa,8)∨(r=(2-p.aa,1)∧hQ p p.aa=true)∨(r=(3,2)∧hQ p p.aa=false))) (fun _ _=>⟨hl,.inl rfl⟩) fun _=>aq (P:=fun r:Int×Int=>r.1≠0→(ba p).length=0∧(r=(1+p.aa,8)∨(r=(2-p.aa,1)∧hQ p p.aa=true)∨(r=(3,2)∧hQ p p.aa=false))) (fun hk _=>⟨hl,.inr (.inl ⟨rfl,hk⟩)⟩) fun hk _=>⟨hl,.inr (.inr ⟨rfl,hk⟩)⟩
noncomputable section
variable {p:Pos} (hp:aA p) {h f:Int} (hq:aA (cl h f p))
include hp hq
end
def U8 (r:Int×Int):Prop:=(0≤r.1∧r.1≤255)∧(0≤r.2∧r.2≤255)
theorem TW {p:Pos} (hp:aA p):U8 (vk p):=by
 have z:U8 (0,0):=by unfold U8;simp
 by_cases ht:there p
 ·rw [qq ht]
  have t0:=hp.t0
  have t1:=ht.1
  refine aq (P:=U8) (fun _=>?_) fun _=>aq (P:=U8) (fun h=>?_) fun _=>aq (P:=U8) (fun _=>?_) fun _=>aq (P:=U8) (fun _=>?_) fun _=>z
  ·rcases (EL hp).1 with w | ⟨w1,w2⟩ | w
   ·rw [w];exact z
   ·unfold U8;omega
   ·rw [w];unfold U8;simp
  ·have h0:(mU p).1≠0:=by simpa using h
   obtain ⟨_,e | ⟨e,_⟩ | ⟨e,_⟩⟩:=DQ ht hp h0
   ·rw [e];unfold U8;simp;omega
   ·rw [e];unfold U8;simp;omega
   ·rw [e];unfold U8;simp
  ·rcases Ea p with e | e
   ·rw [e];unfold U8;simp
   ·rw [e];exact z
  ·rcases Ei p with ⟨e,_⟩ | ⟨e,_⟩
   ·rw [e];unfold U8;simp
   ·rw [e];exact z
 ·rw [xS ht];exact z
def StA {X R:Type} (I:X→Prop) (Q:R→Prop):aG X R→Prop
 | .go y=>I y
 | .out r=>Q r
 | .bad=>True
theorem rQ {X R:Type} {f:X→aG X R} (I:X→Prop) (Q:R→Prop) (h:∀ x,I x→StA I Q (f x)):∀ (n:Nat) (x:X) (r:R),I x→cO f n x=some r→Q r
 | 0,_,_,_,e=>by cases e
 | n+1,x,r,hx,e=>by
  have:=h x hx
  unfold cO at e
  cases hf:f x with
  | go y=>rw [hf] at this e;exact rQ I Q h n y r this e
  | out r'=>rw [hf] at this e;cases e;exact this
  | bad=>rw [hf] at e;cases e
abbrev WT (B:List Int):aG (Int×Pos) (Int×Bool×Pos)→Prop:=StA (fun x=>x.2.ae=B) (fun r=>r.2.2.ae=B)
theorem bd6 {B:List Int} (c k:Int) (l:List Int) (a:Pos) (m1:Mv) (b:Pos) (m2:Mv) (e:Int) {x:Int×Pos} {r:Int×Bool×Pos} (hx:x.2.ae=B)
  (h:ji c k l a m1 b m2 e x=some r):r.2.2.ae=B:=by
 unfold ji at h
 refine rQ (fun x=>x.2.ae=B) (fun r=>r.2.2.ae=B) (fun x hx=>?_) many x r hx h
 show WT B _
 refine aq (P:=fun s=>WT B s) (fun _=>?_) fun _=>trivial
 unfold sh
 repeat' (first | exact (show _=B from hx) | refine aq (P:=fun s=>WT B s) (fun _=>?_) (fun _=>?_))
theorem bd7 {B:List Int} (a:Pos) (m1:Mv) (b:Pos) (m2:Mv) (e:Int) {n:Nat} {x:Int×Pos} {r:Int×Bool×Pos} (hx:x.2.ae=B)
  (h:cO (fun x=>bif ph a m1 b m2 e x then sy a m1 b m2 e x else .bad) n x=some r):r.2.2.ae=B:=by
 refine rQ (fun x=>x.2.ae=B) (fun r=>r.2.2.ae=B) (fun x hx=>?_) n x r hx h
 show WT B _
 refine aq (P:=fun s=>WT B s) (fun hok=>?_) fun _=>trivial
 unfold sy
 unfold ph at hok
 refine aq (P:=fun s=>WT B s) (fun hc=>?_) (fun _=>hx)
 rw [hc] at hok
 simp only [cond_true,E'] at hok
 obtain ⟨_,_,h6,_⟩:=hok
 exact bd6 _ _ _ _ _ _ _ _ (x:=(0,x.2)) hx (cR h6)
noncomputable section
variable {p:Pos} (hp:aA p) {m:Mv}
include hp
theorem bd8 (ht:p.aa≤1) {q:Pos} (h:dm p q) (a:Pos) (b:Mv) (c:Int):(cA a b q p m c).ae=q.ae:=by
 have t0:=hp.t0
 have h2:dm p ⟨q.variant,q.ae,q.ab,q.af,q.aa,List.take (scale 2 q.aa).toNat q.ai++li [-1,-1]++List.drop ((scale 2 q.aa).toNat+2) q.ai,q.ah,q.ag,q.half,q.full⟩:=by
  refine h.ai ?_ ?_
  ·have hr:=h.bU.rl
   have:(scale 2 q.aa).toNat≤2:=by rw [h.t];unfold scale;simp;omega
   simp [li,hr]
   omega
  ·intro x hx
   simp only [List.mem_append,li] at hx
   rcases hx with (hx | hx) | hx
   ·exact h.bU.r0 x (List.mem_of_mem_take hx)
   ·simp at hx;omega
   ·exact h.bU.r0 x (List.mem_of_mem_drop hx)
 have a1:=aK (eJ h a p b m c)
 have a2:=aK (eJ h2 a p b m c)
 have b1:((di a b p m c (0,q)).getD default).2.2.ae=q.ae:=bd7 a b p m c (n:=many) (x:=(0,q)) rfl (cR a1.1)
 have b2:∀ r:Int×Bool×Pos,di a b p m c (0,⟨q.variant,q.ae,q.ab,q.af,q.aa,List.take (scale 2 q.aa).toNat q.ai++li [-1,-1]++List.drop ((scale 2 q.aa).toNat+2) q.ai,q.ah,q.ag,q.half,q.full⟩)=some r→r.2.2.ae=q.ae:=fun r hr=>bd7 (B:=q.ae) a b p m c (n:=many) rfl hr
 have b2:=b2 _ (cR a2.1)
 unfold cA
 repeat' (first | exact b1 | exact b2 | refine aq (P:=fun x:Pos=>x.ae=q.ae) (fun _=>?_) (fun _=>?_))
omit hp in
theorem bd9 (q:Pos) (a:Pos) (b:Mv) (c:Int):(da a b q p m c).ae=q.ae:=by
 unfold da
 repeat' (first | exact rfl | refine aq (P:=fun x:Pos=>x.ae=q.ae) (fun _=>?_) (fun _=>?_))
omit hp in
theorem ajS (q:Pos) (a:Pos) (b:Mv) (c:Int):(cC a b q p m c).ae=q.ae:=by
 unfold cC
 repeat' (first | exact rfl | refine aq (P:=fun x:Pos=>x.ae=q.ae) (fun _=>?_) (fun _=>?_))
omit hp in
theorem adk (q:Pos) (a:Pos) (b:Mv) (c:Int):(cB a b q p m c).ae=q.ae:=by
 unfold cB
 repeat' (first | exact rfl | refine aq (P:=fun x:Pos=>x.ae=q.ae) (fun _=>?_) (fun _=>?_))
end
end Kz
end
noncomputable section
namespace Kz
open Go Go.RowKit Go.Proofs
def K81:KT:=[(81,48,[(0,(1::2::3::12::13::16::17::(rn 28 7 (rn 37 4 [])))),(1,(1::2::3::7::12::13::16::17::(rn 28 7 (rn 37 4 [])))),(2,(1::2::3::7::8::12::13::16::17::(rn 28 7 (rn 37 4 [])))),(3,(1::2::3::7::8::12::13::16::17::18::(rn 28 7 (rn 37 4 [])))),(4,(1::2::3::7::8::12::13::16::17::(rn 28 7 (rn 37 4 [])))),(5,(1::2::3::7::8::12::13::16::17::(rn 28 7 (rn 37 5 [])))),(6,(1::2::3::7::8::12::13::16::17::(rn 28 7 (rn 37 4 [])))),(7,[6])])]
def aar:aw:=bO Pz K81 [(82,mV),(83,SH),(154,Df)] [] []
theorem Wk:aW aar:=aj ak ⟨nm,TC,FN,trivial⟩ trivial trivial
def SD (p1:Int) (p2:Int) (p3:Pos) (x:((BitVec 64)×Int)):St:=St.mk (.any::.int .i64 p1::.int .u8 p2::.ptr 0 0::(an 3 (.u64 x.1::.int .i64 x.2::(an 39 [])))) (Hp.mk [(pc p3 [])] [] [] 0 0 0)
def R6 (p1:Int) (p2:Int) (p3:Pos):((BitVec 64)×Int×Bool)→Out:=fun y=>.exit 0 (St.mk (.any::.int .i64 p1::.int .u8 p2::.ptr 0 0::(an 3 (.u64 y.1::.int .i64 y.2.1::(an 9 (.bool y.2.2::(an 29 [])))))) (Hp.mk [(pc p3 [])] [] [] 0 0 0))
def Lj (p1:Int) (p2:Int) (p3:Pos) (x:((BitVec 64)×Int)):aG ((BitVec 64)×Int) (((BitVec 64)×Int×Bool)):=(bif decide (x.2<64) then (bif decide (p1≥0) then (bif decide (p1<64) then (bif bg (p3.ae.getD (scale 1 x.2).toNat 0) != 0 then (bif kN (p3.ae.getD (scale 1 x.2).toNat 0)==p2 then (bif jX p3 x.2 p1 then (aG.go (x.1|||1#64 <<< (BitVec.ofInt 64 x.2).toNat,wr .i64 (x.2+1))) else (aG.go (x.1,wr .i64 (x.2+1)))) else (aG.go (x.1,wr .i64 (x.2+1)))) else (aG.go (x.1,wr .i64 (x.2+1)))) else (aG.out ((x.1,x.2,decide (p1<64))))) else (aG.out ((x.1,x.2,false)))) else (aG.out ((x.1,x.2,false))))
def DM (p1:Int) (p2:Int) (p3:Pos) (x:((BitVec 64)×Int)):Bool:=(bif decide (x.2<64) then (bif decide (p1≥0) then (bif decide (p1<64) then (decide (0≤x.2)&&decide (x.2<Int.ofNat 64)&&(bif bg (p3.ae.getD (scale 1 x.2).toNat 0) != 0 then (decide (0≤x.2)&&decide (x.2<Int.ofNat 64)&&(bif kN (p3.ae.getD (scale 1 x.2).toNat 0)==p2 then (o6 (p3) (x.2) (p1)&&true) else true)) else true)) else true) else true) else true)
def u5 (p1:Int) (p2:Int) (p3:Pos) (x:((BitVec 64)×Int)):Option (((BitVec 64)×Int×Bool)):=cO (fun x=>bif DM p1 p2 p3 x then Lj p1 p2 p3 x else .bad) many x
abbrev QT {α:Type} (k:Int→Int→Pos→((BitVec 64)×Int)→α) (s:St):α:=wP s 0 fun q0=>k (tI (tT s 1)) (tI (tT s 2)) q0 ((tU (tT s 7)),(tI (tT s 8)))
theorem acv (p1:Int) (p2:Int) (p3:Pos) (x:((BitVec 64)×Int)) (r:((BitVec 64)×Int×Bool)) (h:u5 p1 p2 p3 x=some r):ay Pz (aT Pz 81 3) (SD p1 p2 p3 x) (R6 p1 p2 p3 r):=smq (m:=12) (fn:=81) Wk (QT fun _ _ _ x=>some x) (fun o=>match o with | .exit 0 s=>some ((tU (tT s 7)),(tI (tT s 8)),(tB (tT s 18))) | _=>none) many x r h
def Sp (b:Code) (s:St):Tr Out:=QT (fun p1 p2 p3 x=>lq b (aT Pz 81 3) s (SD p1 p2 p3 x) (u5 p1 p2 p3 x) (R6 p1 p2 p3)) s
theorem Vd:∀ b,aM Pz b (Sp b):=fun _ _ _ h=>bK (acv _ _ _ _) h
def B81:aw:=bO Pz K81 [(82,mV),(83,SH),(154,Df)] [(81,3,Sp)] []
theorem aea:aW B81:=aj ak ⟨nm,TC,FN,trivial⟩ ⟨Vd,trivial⟩ trivial
def WD (a:Pos) (b:Int) (c:Int):BitVec 64:=(((u5 b c a (0#64,0)).getD default).1)
def Gn (a:Pos) (b:Int) (c:Int):Bool:=((u5 b c a (0#64,0)).isSome&&true)
theorem P81 (a:Pos) (b:Int) (c:Int) (h:Gn a b c=true):PS Pz 81 [Pos.av a,.int .i64 b,.int .u8 c] (dU.res (WD a b c)):=pq14 aea h
def G81:GT:=g3 aY (dI .i64) (dI .u8) (fun a b c=>cp (Gn a b c) (dU.res (WD a b c)))
theorem s81:Sound Pz 81 G81:=dv fun a b c=>aC (P81 a b c)
end Kz
end
noncomputable section
namespace Kz
open Go Go.RowKit
def BX (p:Pos) (t:Nat) (c:Int) (s:Nat):Bool:=bg (p.ae.getD s 0) != 0&&(kN (p.ae.getD s 0)==c&&jX p s t)
theorem Oc {p:Pos} (hp:aA p) (ht:p.aa=0∨p.aa=1) {t:Nat} (h64:t<64) (c:Int):Gn p t c=true∧∀ s,s<64→(WD p t c).getLsbD s=BX p t c s:=by
 have hl:∃ r,u5 t c p (0#64,0)=some r∧∀ s,s<64→r.1.getLsbD s=BX p t c s:=by
  refine aU (I:=fun x=>∃ n:Nat,n≤64∧x.2=(n:Int)∧∀ s,s<64→x.1.getLsbD s=(decide (s<n)&&BX p t c s)) (μ:=fun x=>(64-x.2).toNat) ?_ _ ⟨0,by omega,rfl,fun s hs=>by simp⟩ (by simp)
  rintro ⟨o,m⟩ ⟨n,hn,hm,h⟩
  simp only at hm h
  subst hm
  have hsc:(scale 1 (n:Int)).toNat=n:=by unfold scale;simp
  unfold DM Lj
  dsimp only
  rw [hsc,show decide ((t:Int)≥0)=true by simp,show decide ((t:Int)<64)=true by simp;omega]
  by_cases hc64:n<64
  ·have k174:=t154 hp ht hc64 h64
   rw [aF (n:=(n:Int)+1) (by omega) (by omega)]
   constructor
   ·refine ar (fun _=>?_) fun _=>rfl
    repeat' (first | with_reducible rfl | with_reducible exact k174 | (simp;omega;done) | refine ao ?_ (fun _=>?_) | refine ar (fun _=>?_) (fun _=>?_))
   ·have keep:BX p t c n=false→zE (fun x:BitVec 64×Int=>∃ n:Nat,n≤64∧x.2=(n:Int)∧∀ s,s<64→x.1.getLsbD s=(decide (s<n)&&BX p t c s)) (fun r:BitVec 64×Int×Bool=>∀ s,s<64→r.1.getLsbD s=BX p t c s) (fun x=>(64-x.2).toNat) (64-(n:Int)).toNat (.go (o,(n:Int)+1)):=fun hf=>by
     refine ⟨⟨n+1,by omega,rfl,fun s hs=>?_⟩,by show (64-((n:Int)+1)).toNat<_;omega⟩
     show o.getLsbD s=_
     rw [h s hs]
     by_cases e:s=n
     ·subst e;rw [hf];simp
     ·rw [show decide (s<n+1)=decide (s<n) by rw [decide_eq_decide];omega]
    have add:BX p t c n=true→zE (fun x:BitVec 64×Int=>∃ n:Nat,n≤64∧x.2=(n:Int)∧∀ s,s<64→x.1.getLsbD s=(decide (s<n)&&BX p t c s)) (fun r:BitVec 64×Int×Bool=>∀ s,s<64→r.1.getLsbD s=BX p t c s) (fun x=>(64-x.2).toNat) (64-(n:Int)).toNat (.go (o|||1#64 <<< (BitVec.ofInt 64 n).toNat,(n:Int)+1)):=fun hf=>by
     refine ⟨⟨n+1,by omega,rfl,fun s hs=>?_⟩,by show (64-((n:Int)+1)).toNat<_;omega⟩
     show (o|||1#64 <<< (BitVec.ofInt 64 n).toNat).getLsbD s=_
     rw [BitVec.getLsbD_or,h s hs,cP (by omega) (by omega),Int.toNat_natCast,fN hs]
     by_cases e:s=n
     ·subst e;rw [hf];simp
     ·rw [show decide (s<n+1)=decide (s<n) by rw [decide_eq_decide];omega]
      simp [e]
    refine aq (fun _=>?_) fun h'=>absurd h' (by simp;omega)
    simp only [cond_true]
    refine aq (fun h1=>aq (fun h2=>aq (fun h3=>?_) fun h3=>?_) fun h2=>?_) fun h1=>?_
    ·exact add (by unfold BX;rw [h1,h2,h3];rfl)
    ·exact keep (by unfold BX;rw [h1,h2,h3];rfl)
    ·exact keep (by unfold BX;rw [h1,h2];rfl)
    ·exact keep (by unfold BX;rw [h1];rfl)
  ·have e:n=64:=by omega
   subst e
   refine ⟨ar (fun h'=>absurd h' (by simp)) fun _=>rfl,aq (fun h'=>absurd h' (by simp)) fun _=>?_⟩
   intro s hs
   show o.getLsbD s=_
   rw [h s hs]
   simp [hs]
 have h2:=aK hl
 exact ⟨ao h2.1 fun _=>rfl,h2.2⟩
def btw (a d b:Nat):List Nat:=(jq a d).takeWhile fun s => !(s==b)
theorem KK:∀ (a:Fin 64) (d:Fin 8),((jq a.val d.val).all fun b=>decide (b<64)&&decide (a.val∈jq b ((d.val+4) % 8))&&(btw b ((d.val+4) % 8) a.val==(btw a.val d.val b).reverse))=true:=by decide +kernel
theorem tv {b:Nat}:∀ {l:List Nat},b∈l→∃ post,l=(l.takeWhile fun s => !(s==b))++b::post∧b∉(l.takeWhile fun s => !(s==b))
 | [],h=>by cases h
 | s::l,h=>by
  by_cases e:s=b
  ·subst e
   exact ⟨l,by simp,by simp⟩
  ·have hb:b∈l:=by
    simp only [List.mem_cons] at h
    rcases h with h | h
    ·exact absurd h.symm e
    ·exact h
   obtain ⟨post,e1,e2⟩:=tv hb
   have hs:(!(s==b))=true:=by simpa using e
   have ht:((s::l).takeWhile fun s => !(s==b))=s::(l.takeWhile fun s => !(s==b)):=by
    rw [List.takeWhile]
    simp only [hs]
   refine ⟨post,?_,?_⟩
   ·rw [ht,List.cons_append,← e1]
   ·rw [ht]
    simp only [List.mem_cons,not_or]
    exact ⟨fun h=>e h.symm,e2⟩
theorem sY {b:Nat}:∀ {l1 l2 m1 m2:List Nat},l1++b::m1=l2++b::m2→b∉l1→b∉l2→l1=l2
 | [],[],_,_,_,_,_=>rfl
 | [],y::l2,_,_,h,_,h2=>by
  simp only [List.nil_append,List.cons_append,List.cons.injEq] at h
  exact absurd (by rw [h.1];simp) h2
 | x::l1,[],_,_,h,h1,_=>by
  simp only [List.nil_append,List.cons_append,List.cons.injEq] at h
  exact absurd (by rw [← h.1];simp) h1
 | x::l1,y::l2,m1,m2,h,h1,h2=>by
  simp only [List.cons_append,List.cons.injEq] at h
  rw [h.1,sY h.2 (fun hm=>h1 (by simp [hm])) (fun hm=>h2 (by simp [hm]))]
theorem zB {occ:BitVec 64} {a d b:Nat} (hb:b∈jq a d):b∈seen occ (jq a d) ↔ ∀ s∈btw a d b,occ.getLsbD s=false:=by
 rw [sS hb]
 obtain ⟨post,e1,e2⟩:=tv hb
 constructor
 ·intro h
  exact h _ post e1 e2
 ·intro h pre post' e hp
  rw [sY (e.symm.trans e1) hp e2]
  exact h
theorem IC (p:Pos) {occ:BitVec 64} (hocc:∀ s,s<64→(occ.getLsbD s=false ↔ bg (p.ae.getD s 0)=0)) {a b:Nat} (ha:a<64) (h:ld a b=true∨kY a b=true):cU p a b=cU p b a:=by
 have:∃ d,d<8∧b∈jq a d:=by
  unfold ld kY at h
  simp only [Bool.or_eq_true,decide_eq_true_eq] at h
  rcases h with (((h | h) | h) | h) | (((h | h) | h) | h)
  ·exact ⟨0,by decide,h⟩
  ·exact ⟨2,by decide,h⟩
  ·exact ⟨4,by decide,h⟩
  ·exact ⟨6,by decide,h⟩
  ·exact ⟨1,by decide,h⟩
  ·exact ⟨3,by decide,h⟩
  ·exact ⟨5,by decide,h⟩
  ·exact ⟨7,by decide,h⟩
 obtain ⟨d,hd,hb⟩:=this
 have f:=List.all_eq_true.1 (KK ⟨a,ha⟩ ⟨d,hd⟩) b hb
 simp only [E',decide_eq_true_eq,beq_iff_eq] at f
 obtain ⟨⟨f1,f2⟩,f3⟩:=f
 rw [(mE p hocc ha hd hb).2,(mE p hocc f1 (Nat.mod_lt _ (by decide)) f2).2,decide_eq_decide,zB hb,zB f2,f3]
 simp
end Kz
end
noncomputable section
namespace Kz
open Go Go.RowKit Go.Proofs
def afc:KT:=[(152,25,[(0,(rn 1 4 (rn 17 7 []))),(1,[8])])]
def af4:aw:=bO Pz afc [(82,mV),(83,SH)] [] []
theorem Zn:aW af4:=aj ak ⟨nm,TC,trivial⟩ trivial trivial
def qd (a:Pos) (b:Int) (c:Int) (d:Int):Bool:=(bif bg (a.ae.getD (scale 1 b).toNat 0)==d then (kN (a.ae.getD (scale 1 b).toNat 0)==c) else (false))
def np (a:Pos) (b:Int) (c:Int) (d:Int):Bool:=(decide (0≤b)&&decide (b < ↑64)&&(bif bg (a.ae.getD (scale 1 b).toNat 0)==d then (decide (0≤b)&&decide (b < ↑64)&&true) else true))
theorem ahb (a:Pos) (b:Int) (c:Int) (d:Int) (h:np a b c d=true):PS Pz 152 [Pos.av a,.int .i64 b,.int .u8 c,.int .u8 d] (dB.res (qd a b c d)):=pq14 Zn h
def oN:GT:=g4 aY (dI .i64) (dI .u8) (dI .u8) (fun a b c d=>cp (np a b c d) (dB.res (qd a b c d)))
theorem qj:Sound Pz 152 oN:=Cz fun a b c d=>aC (ahb a b c d)
def abm:KT:=[(150,18,[(0,[1,2,3]),(1,[1,2,3,7]),(2,[1,2,3,7,9]),(3,[1,2,3,7]),(4,[1,2,3,7,16]),(5,[6]),(6,[6])])]
def Wu:aw:=bO Pz abm [(152,oN)] [] []
theorem OV:aW Wu:=aj ak ⟨qj,trivial⟩ trivial trivial
def IU (p1:Int) (p2:Int) (p3:Pos) (x:(Int)):St:=St.mk (.any::.int .u8 p1::.int .u8 p2::.ptr 0 0::(an 3 (.int .i64 x::(an 10 [])))) (Hp.mk [(pc p3 [])] [] [] 0 0 0)
def KC (p1:Int) (p2:Int) (p3:Pos):(Int) ⊕ (Int×Bool)→Out
 | (.inl (y))=>.ret (St.mk (an 6 (AV.int .i64 y::(an 11 []))) (Hp.mk [(pc p3 [])] [] [] 0 0 0))
 | (.inr (y))=>.exit 0 (St.mk (AV.any::AV.int .u8 p1::AV.int .u8 p2::AV.ptr 0 0::(an 3 (AV.int .i64 y.1::AV.any::AV.bool y.2::(an 8 [])))) (Hp.mk [(pc p3 [])] [] [] 0 0 0))
def DJ (p1:Int) (p2:Int) (p3:Pos) (x:(Int)):aG (Int) ((Int) ⊕ (Int×Bool)):=(bif decide (x<64) then (bif qd (Pos.mk p3.variant p3.ae p3.ab p3.af p3.aa p3.ai p3.ah p3.ag p3.half p3.full) x p1 p2 then (aG.out (.inl ((x)))) else (aG.go (wr .i64 (x+1)))) else (aG.out (.inr ((x,decide (x<64))))))
def Av (p1:Int) (p2:Int) (p3:Pos) (x:(Int)):Bool:=(bif decide (x<64) then (np (Pos.mk p3.variant p3.ae p3.ab p3.af p3.aa p3.ai p3.ah p3.ag p3.half p3.full) (x) (p1) (p2)&&true) else true)
def iT (p1:Int) (p2:Int) (p3:Pos) (x:(Int)):Option ((Int) ⊕ (Int×Bool)):=cO (fun x=>bif Av p1 p2 p3 x then DJ p1 p2 p3 x else .bad) many x
abbrev H6 {α:Type} (k:Int→Int→Pos→(Int)→α) (s:St):α:=wP s 0 fun q0=>k (tI (tT s 1)) (tI (tT s 2)) q0 ((tI (tT s 7)))
theorem Ug (p1:Int) (p2:Int) (p3:Pos) (x:(Int)) (r:(Int) ⊕ (Int×Bool)) (h:iT p1 p2 p3 x=some r):ay Pz (aT Pz 150 2) (IU p1 p2 p3 x) (KC p1 p2 p3 r):=ay.vC (m:=12) (fn:=150) OV (H6 fun _ _ _ x=>some x) (fun o=>match o with | .ret s=>some (.inl (tI (tT s 6))) | .exit 0 s=>some (.inr ((tI (tT s 7)),(tB (tT s 9)))) | _=>none) (fun r=>by cases r<;>rfl) (fun _=>by kernel_rfl) (fun _=>by kernel_rfl) (fun _=>by kernel_rfl) (fun _=>by kernel_rfl) many x r h
def Jt (b:Code) (s:St):Tr Out:=H6 (fun p1 p2 p3 x=>yX b (aT Pz 150 2) s (IU p1 p2 p3 x) (iT p1 p2 p3 x) (KC p1 p2 p3)) s
theorem O7:∀ b,aM Pz b (Jt b):=fun _ _ _ h=>dG (Ug _ _ _ _) h
def aga:aw:=bO Pz abm [(152,oN)] [(150,2,Jt)] []
theorem abN:aW aga:=aj ak ⟨qj,trivial⟩ ⟨O7,trivial⟩ trivial
def cn (a:Pos) (b:Int) (c:Int):Int:=(bif bI ((iT b c (Pos.mk a.variant a.ae a.ab a.af a.aa a.ai a.ah a.ag a.half a.full) 0).getD default) then (gl ((iT b c (Pos.mk a.variant a.ae a.ab a.af a.aa a.ai a.ah a.ag a.half a.full) 0).getD default)) else (-1))
def tQ (a:Pos) (b:Int) (c:Int):Bool:=((iT b c (Pos.mk a.variant a.ae a.ab a.af a.aa a.ai a.ah a.ag a.half a.full) 0).isSome&&bif bI ((iT b c (Pos.mk a.variant a.ae a.ab a.af a.aa a.ai a.ah a.ag a.half a.full) 0).getD default) then true else true)
theorem ajN (a:Pos) (b:Int) (c:Int) (h:tQ a b c=true):PS Pz 150 [Pos.av a,.int .u8 b,.int .u8 c] ((dI .i64).res (cn a b c)):=pq14 abN h
def xb:GT:=g3 aY (dI .u8) (dI .u8) (fun a b c=>cp (tQ a b c) ((dI .i64).res (cn a b c)))
theorem An:Sound Pz 150 xb:=dv fun a b c=>aC (ajN a b c)
end Kz
end
noncomputable section
namespace Kz
open Go Go.RowKit
theorem Hl:∀ (c:Fin 2) (k:Fin 7) (v:Fin 256),1≤k.val→dn c.val k.val v.val=(bg v.val==k.val&&kN v.val==c.val):=by decide +kernel
theorem is' {c k v:Int} (hc:c=0∨c=1) (k1:1≤k) (k6:k≤6) (v0:0≤v) (v1:v≤255):dn c k v=(bg v==k&&kN v==c):=by
 obtain ⟨n,rfl⟩:=Int.eq_ofNat_of_zero_le v0
 obtain ⟨m,rfl⟩:=Int.eq_ofNat_of_zero_le (show 0≤k by omega)
 rcases hc with rfl | rfl
 ·exact Hl 0 ⟨m,by omega⟩ ⟨n,by omega⟩ (by show 1≤m;omega)
 ·exact Hl 1 ⟨m,by omega⟩ ⟨n,by omega⟩ (by show 1≤m;omega)
theorem ky {p:Pos} (hp:aA p) {c k:Int} (hc:c=0∨c=1) (k1:1≤k) (k6:k≤6) {s:Nat} (hs:s<64):np p s c k=true∧qd p s c k=dn c k (p.ae.getD s 0):=by
 obtain ⟨b0,b1⟩:=eC hp s
 have hsc:(scale 1 (s:Int)).toNat=s:=by unfold scale;simp
 rw [is' hc k1 k6 b0 b1]
 unfold np qd
 rw [hsc]
 constructor
 ·refine ao (by simp;omega) fun _=>ar (fun _=>?_) fun _=>rfl
  simp
  omega
 ·cases bg (p.ae.getD s 0)==k<;>rfl
theorem o9 {p:Pos} (hp:aA p) {c k:Int} (hc:c=0∨c=1) (k1:1≤k) (k6:k≤6):tQ p c k=true∧cn p c k=aZ p c k:=by
 have hl:∃ r,iT c k p 0=some r∧(match r with
   | .inl i=>∃ n:Nat,n<64∧i=n∧dn c k (p.ae.getD n 0)=true∧∀ j,j<n→dn c k (p.ae.getD j 0)=false
   | .inr _=>∀ j:Nat,j<64→dn c k (p.ae.getD j 0)=false):=by
  refine aU (I:=fun x=>∃ n:Nat,n≤64∧x=(n:Int)∧∀ j,j<n→dn c k (p.ae.getD j 0)=false) (μ:=fun x=>(64-x).toNat) ?_ _ ⟨0,by omega,rfl,fun j hj=>by omega⟩ (by simp)
  rintro _ ⟨n,hn,rfl,h⟩
  unfold Av DJ
  rw [show (Pos.mk p.variant p.ae p.ab p.af p.aa p.ai p.ah p.ag p.half p.full)=p from rfl]
  by_cases hc64:n<64
  ·obtain ⟨e1,e2⟩:=ky hp hc k1 k6 hc64
   rw [e1,e2,aF (n:=(n:Int)+1) (by omega) (by omega)]
   refine ⟨ar (fun _=>rfl) fun _=>rfl,aq (fun _=>aq (fun ht=>?_) fun ht=>?_) fun h'=>absurd h' (by simp;omega)⟩
   ·exact ⟨n,hc64,rfl,ht,h⟩
   ·refine ⟨⟨n+1,by omega,rfl,fun j hj=>?_⟩,by show (64-((n:Int)+1)).toNat<(64-(n:Int)).toNat;omega⟩
    by_cases e:j=n
    ·rw [e];exact ht
    ·exact h j (by omega)
  ·have e:n=64:=by omega
   subst e
   exact ⟨rfl,h⟩
 have h2:=aK hl
 constructor
 ·exact ao h2.1 fun _=>ar (fun _=>rfl) fun _=>rfl
 ·unfold cn
  rw [show (Pos.mk p.variant p.ae p.ab p.af p.aa p.ai p.ah p.ag p.half p.full)=p from rfl]
  have h3:=h2.2
  generalize (iT c k p 0).getD default=r at h3
  rcases gj p c k with ⟨a1,a2⟩ | ⟨j,a0,a1,a2,a3⟩
  ·cases r with
   | inl i =>
    obtain ⟨n,h64,_,ht,_⟩:=h3
    rw [a2 n h64] at ht
    cases ht
   | inr x=>rw [a1];rfl
  ·cases r with
   | inl i =>
    obtain ⟨n,h64,rfl,ht,hm⟩:=h3
    rw [a1]
    show (n:Int)=j
    rcases Nat.lt_trichotomy n j with h | h | h
    ·rw [a3 n h] at ht;cases ht
    ·rw [h]
    ·rw [hm j h] at a2;cases a2
   | inr x =>
    rw [h3 j a0] at a2
    cases a2
theorem xw:∀ a b:Fin 64,(qb a.val).getLsbD b.val=(qb b.val).getLsbD a.val∧(cZ a.val).getLsbD b.val=(cZ b.val).getLsbD a.val∧ld a.val b.val=ld b.val a.val∧kY a.val b.val=kY b.val a.val:=by decide +kernel
theorem ua:∀ (c:Fin 2) (s t:Fin 64),(dc (1-c.val) t.val).getLsbD s.val=cm 1 c.val s.val t.val false:=by decide +kernel
theorem Fu:∀ t:Fin 64,Mg t.val=true:=by decide +kernel
theorem Ap {p:Pos} (hp:aA p) {s:Nat} (hs:s<64):(bh p).getLsbD s=false ↔ bg (p.ae.getD s 0)=0:=by
 obtain ⟨b0,b1⟩:=eC hp s
 rw [ly _ hs]
 have:gQ (p.ae.getD s 0)=!(bg (p.ae.getD s 0)==0):=by
  obtain ⟨n,hn⟩:=Int.eq_ofNat_of_zero_le b0
  rw [hn]
  have h:∀ v:Fin 256,gQ v.val=!(bg v.val==0):=by decide +kernel
  exact h ⟨n,by omega⟩
 rw [this]
 simp
theorem HI {p:Pos} (hp:aA p) {t:Nat} (h64:t<64) {c:Int} (hc:c=0∨c=1) {s:Nat} (hs:s<64):(oP p t c).getLsbD s=BX p t c s:=by
 have hocc:=fun s hs=>Ap hp (s:=s) hs
 obtain ⟨b0,b1⟩:=eC hp s
 obtain ⟨y2,y6,ystr,yacr⟩:=xw ⟨s,hs⟩ ⟨t,h64⟩
 obtain ⟨f2,f6,f4,f4',f3,f3',f5,f5'⟩:=oV ⟨s,hs⟩ ⟨t,h64⟩
 simp only at f2 f6 f4 f4' f3 f3' f5 f5' y2 y6 ystr yacr
 have hr:=uc hocc h64 hs
 have hbi:=nI hocc h64 hs
 have hqu:=w9 hocc h64 hs
 have cs:ld s t=true∨kY s t=true→cU p s t=cU p t s:=fun h=>IC p hocc hs h
 have tk:=fun (k:Int) (k1:1≤k) (k6:k≤6)=>(cf p c k hs).trans (is' hc k1 k6 b0 b1)
 have hpawn:(F3 (wr .u8 (1-c)) t (bh p)).getLsbD s=cm 1 c s t false:=by
  unfold F3
  rw [ni (by omega) (by omega)]
  rcases hc with rfl | rfl
  ·exact ua 0 ⟨s,hs⟩ ⟨t,h64⟩
  ·exact ua 1 ⟨s,hs⟩ ⟨t,h64⟩
 have e:oP p t c=0|||F3 (wr .u8 (1-c)) t (bh p)&&&aO p c 1|||qb t&&&aO p c 2|||rf t (bh p)&&&aO p c 3|||rq t (bh p)&&&aO p c 4|||uI t (bh p)&&&aO p c 5|||cZ t&&&aO p c 6:=by
  unfold oP
  rw [Fu ⟨t,h64⟩,show decide (c>1)=false by simp;omega]
  rfl
 rw [e]
 simp only [BitVec.getLsbD_or,BitVec.getLsbD_and]
 rw [tk 1 (by omega) (by omega),tk 2 (by omega) (by omega),tk 3 (by omega) (by omega),tk 4 (by omega) (by omega),tk 5 (by omega) (by omega),tk 6 (by omega) (by omega),hr,hbi,hqu,hpawn,← y2,← y6,← ystr,← yacr]
 unfold BX
 rw [om,show (scale 1 (s:Int)).toNat=s by unfold scale;simp]
 have km:bg (p.ae.getD s 0)=0∨bg (p.ae.getD s 0)=1∨bg (p.ae.getD s 0)=2∨bg (p.ae.getD s 0)=3∨bg (p.ae.getD s 0)=4∨bg (p.ae.getD s 0)=5∨bg (p.ae.getD s 0)=6:=by
  have:=(pZ b0 b1).2.2.2.2
  omega
 generalize bg (p.ae.getD s 0)=k at *
 generalize kN (p.ae.getD s 0)=col at *
 cases hcol:col==c with
 | false=>simp
 | true =>
  have hcol:col=c:=by simpa using hcol
  subst hcol
  rcases km with rfl | rfl | rfl | rfl | rfl | rfl | rfl
  ·simp
  ·have:cm 1 col s t (cU p s t)=cm 1 col s t false:=rfl
   rw [this]
   simp
  ·rw [iC (k:=2) rfl,show cm 2 0 s t (cU p s t)=(qb s).getLsbD t from f2 ▸ rfl]
   simp
  ·rw [iC (k:=3) rfl]
   have:cm 3 0 s t (cU p s t)=(kY s t&&cU p t s):=by
    cases ha:kY s t with
    | true =>
     rw [cs (.inr ha)]
     cases cU p t s
     ·rw [f3'];rfl
     ·rw [f3,ha];rfl
    | false =>
     cases cU p s t
     ·rw [f3'];rfl
     ·rw [f3,ha];rfl
   rw [this]
   simp
  ·rw [iC (k:=4) rfl]
   have:cm 4 0 s t (cU p s t)=(ld s t&&cU p t s):=by
    cases ha:ld s t with
    | true =>
     rw [cs (.inl ha)]
     cases cU p t s
     ·rw [f4'];rfl
     ·rw [f4,ha];rfl
    | false =>
     cases cU p s t
     ·rw [f4'];rfl
     ·rw [f4,ha];rfl
   rw [this]
   simp
  ·rw [iC (k:=5) rfl]
   have:cm 5 0 s t (cU p s t)=((ld s t || kY s t)&&cU p t s):=by
    cases ha:(ld s t || kY s t) with
    | true =>
     rw [cs (by simpa using ha)]
     cases cU p t s
     ·rw [f5'];rfl
     ·rw [f5,ha];rfl
    | false =>
     cases cU p s t
     ·rw [f5'];rfl
     ·rw [f5,ha];rfl
   rw [this]
   simp
  ·rw [iC (k:=6) rfl,show cm 6 0 s t (cU p s t)=(cZ s).getLsbD t from f6 ▸ rfl]
   simp
end Kz
end
noncomputable section
namespace Kz
open Go Go.RowKit Go.Proofs
def K84:KT:=[(84,23,[(0,(0::1::8::9::12::13::(rn 16 6 []))),(1,[4])])]
def B84:aw:=bO Pz K84 [] [] []
theorem adv:aW B84:=aj ak trivial trivial trivial
def Mn (a:Int) (b:Int):Bool:=(bif decide (a<9) then (bif decide (b<2) then (bif a != 4 then (bif a != 7 then (true) else (b==1)) else (false)) else (false)) else (false))
def aeG (a:Int) (b:Int):Bool:=true
theorem P84 (a:Int) (b:Int) (h:aeG a b=true):PS Pz 84 [.int .u8 a,.int .u8 b] (dB.res (Mn a b)):=pq14 adv h
def WH:GT:=g2 (dI .u8) (dI .u8) (fun a b=>.ret (dB.res (Mn a b)))
theorem X2:Sound Pz 84 WH:=bb fun a b=>bV (P84 a b rfl)
def K80:KT:=[(80,39,[(0,[1,2,16,17,22,23,24,34,35,36]),(1,[1,2,5,16,17,22,23,24,34,35,36]),(2,[1,2,5,18,22,23,24,34,35,36]),(3,[4]),(4,[1,2,5,6,22,23,24,34,35,36]),(5,(1::2::5::6::(rn 22 4 [34,35,36]))),(6,[1,2,5,6,22,23,24,34,35,36]),(7,(1::2::5::6::22::23::24::(rn 34 4 []))),(8,[4]),(9,[4])])]
def Zx:aw:=bO Pz K80 [(84,WH),(150,xb),(152,oN),(153,By)] [] []
theorem Vi:aW Zx:=aj ak ⟨X2,An,qj,CC,trivial⟩ trivial trivial
def Qw (p1:Int) (p2:Int) (p3:Pos) (x:(Int)):St:=St.mk (.any::.int .u8 p1::.ptr 0 0::.any::.any::.int .i64 p2::.int .i64 x::(an 32 [])) (Hp.mk [(pc p3 [])] [] [] 0 0 0)
def Sn (p1:Int) (p2:Int) (p3:Pos):Unit ⊕ (Int×Bool)→Out
 | (.inl (y))=>.ret (St.mk (an 4 (AV.aE .i64 (-1)::(an 34 []))) (Hp.mk [(pc p3 [])] [] [] 0 0 0))
 | (.inr (y))=>.exit 0 (St.mk (AV.any::AV.int .u8 p1::AV.ptr 0 0::AV.any::AV.any::AV.int .i64 p2::AV.int .i64 y.1::(an 18 (AV.bool y.2::(an 13 [])))) (Hp.mk [(pc p3 [])] [] [] 0 0 0))
def ux (p1:Int) (p2:Int) (p3:Pos) (x:(Int)):aG (Int) (Unit ⊕ (Int×Bool)):=(bif decide (x<64) then (bif p3.variant==3 then (bif qd (Pos.mk p3.variant p3.ae p3.ab p3.af p3.aa p3.ai p3.ah p3.ag p3.half p3.full) x (wr .u8 (1-p1)) 6 then (bif iF x p2 then (aG.out (.inl (()))) else (aG.go (wr .i64 (x+1)))) else (aG.go (wr .i64 (x+1)))) else (aG.out (.inr ((x,p3.variant==3))))) else (aG.out (.inr ((x,false)))))
def ou (p1:Int) (p2:Int) (p3:Pos) (x:(Int)):Bool:=(bif decide (x<64) then (bif p3.variant==3 then (np (Pos.mk p3.variant p3.ae p3.ab p3.af p3.aa p3.ai p3.ah p3.ag p3.half p3.full) (x) (wr .u8 (1-p1)) (6)&&true) else true) else true)
def qv (p1:Int) (p2:Int) (p3:Pos) (x:(Int)):Option (Unit ⊕ (Int×Bool)):=cO (fun x=>bif ou p1 p2 p3 x then ux p1 p2 p3 x else .bad) many x
abbrev R3 {α:Type} (k:Int→Int→Pos→(Int)→α) (s:St):α:=wP s 0 fun q0=>k (tI (tT s 1)) (tI (tT s 5)) q0 ((tI (tT s 6)))
theorem Zz (p1:Int) (p2:Int) (p3:Pos) (x:(Int)) (r:Unit ⊕ (Int×Bool)) (h:qv p1 p2 p3 x=some r):ay Pz (aT Pz 80 5) (Qw p1 p2 p3 x) (Sn p1 p2 p3 r):=ay.vC (m:=12) (fn:=80) Vi (R3 fun _ _ _ x=>some x) (fun o=>match o with | .ret s=>some (.inl ()) | .exit 0 s=>some (.inr ((tI (tT s 6)),(tB (tT s 25)))) | _=>none) (fun r=>by cases r<;>rfl) (fun _=>by kernel_rfl) (fun _=>by kernel_rfl) (fun _=>by kernel_rfl) (fun _=>by kernel_rfl) many x r h
def SA (b:Code) (s:St):Tr Out:=R3 (fun p1 p2 p3 x=>yX b (aT Pz 80 5) s (Qw p1 p2 p3 x) (qv p1 p2 p3 x) (Sn p1 p2 p3)) s
theorem UC:∀ b,aM Pz b (SA b):=fun _ _ _ h=>dG (Zz _ _ _ _) h
def B80:aw:=bO Pz K80 [(84,WH),(150,xb),(152,oN),(153,By)] [(80,5,SA)] []
theorem agb:aW B80:=aj ak ⟨X2,An,qj,CC,trivial⟩ ⟨UC,trivial⟩ trivial
def Wj (a:Pos) (b:Int):Int:=(bif !Mn a.variant b then (-1) else (bif decide (cn (Pos.mk a.variant a.ae a.ab a.af a.aa a.ai a.ah a.ag a.half a.full) b 6<0) then (-1) else (bif bI ((qv b (cn (Pos.mk a.variant a.ae a.ab a.af a.aa a.ai a.ah a.ag a.half a.full) b 6) (Pos.mk a.variant a.ae a.ab a.af a.aa a.ai a.ah a.ag a.half a.full) 0).getD default) then (-1) else (cn (Pos.mk a.variant a.ae a.ab a.af a.aa a.ai a.ah a.ag a.half a.full) b 6))))
def M9 (a:Pos) (b:Int):Bool:=(tQ (Pos.mk a.variant a.ae a.ab a.af a.aa a.ai a.ah a.ag a.half a.full) (b) (6)&&(bif !Mn a.variant b then true else (bif decide (cn (Pos.mk a.variant a.ae a.ab a.af a.aa a.ai a.ah a.ag a.half a.full) b 6<0) then true else ((qv b (cn (Pos.mk a.variant a.ae a.ab a.af a.aa a.ai a.ah a.ag a.half a.full) b 6) (Pos.mk a.variant a.ae a.ab a.af a.aa a.ai a.ah a.ag a.half a.full) 0).isSome&&bif bI ((qv b (cn (Pos.mk a.variant a.ae a.ab a.af a.aa a.ai a.ah a.ag a.half a.full) b 6) (Pos.mk a.variant a.ae a.ab a.af a.aa a.ai a.ah a.ag a.half a.full) 0).getD default) then true else true))))
theorem P80 (a:Pos) (b:Int) (h:M9 a b=true):PS Pz 80 [Pos.av a,.int .u8 b] ((dI .i64).res (Wj a b)):=pq14 agb h
def G80:GT:=g2 aY (dI .u8) (fun a b=>cp (M9 a b) ((dI .i64).res (Wj a b)))
theorem s80:Sound Pz 80 G80:=bb fun a b=>aC (P80 a b)
def K33:KT:=[(33,21,[(0,(1::2::(rn 14 6 []))),(1,(1::2::7::(rn 14 6 []))),(2,[4]),(3,(1::2::5::(rn 14 6 []))),(4,[4])])]
def B33:aw:=bO Pz K33 [(80,G80),(81,G81)] [] []
theorem agV:aW B33:=aj ak ⟨s80,s81,trivial⟩ trivial trivial
def nF (a:Pos) (b:Int):Bool:=(bif decide (b>1) then (false) else (bif decide (Wj a b≥0) then (WD a (Wj a b) (wr .u8 (1-b)) != 0#64) else (false)))
def jk (a:Pos) (b:Int):Bool:=(bif decide (b>1) then true else (M9 (a) (b)&&(bif decide (Wj a b≥0) then (Gn (a) (Wj a b) (wr .u8 (1-b))&&true) else true)))
theorem P33 (a:Pos) (b:Int) (h:jk a b=true):PS Pz 33 [Pos.av a,.int .u8 b] (dB.res (nF a b)):=pq14 agV h
def G33:GT:=g2 aY (dI .u8) (fun a b=>cp (jk a b) (dB.res (nF a b)))
theorem s33:Sound Pz 33 G33:=bb fun a b=>aC (P33 a b)
end Kz
end
noncomputable section
namespace Kz
open Go Go.RowKit
theorem JF {p:Pos} (hp:aA p) (ht:p.aa=0∨p.aa=1) {t:Nat} (h64:t<64) {c:Int} (hc:c=0∨c=1):Gn p t c=true∧WD p t c=oP p t c:=by
 obtain ⟨h1,h2⟩:=Oc hp ht h64 c
 refine ⟨h1,BitVec.eq_of_getLsbD_eq fun s hs=>?_⟩
 rw [h2 s hs,HI hp h64 hc hs]
theorem ahG {p:Pos} (hp:aA p) {b:Int} (hb:b=0∨b=1) {k:Nat} (hk:k<64):∃ r,qv b k p 0=some r∧bI r=(p.variant==3&&(cZ k&&&aO p (wr .u8 (1-b)) 6 != 0#64)):=by
 have w1:wr .u8 (1-b)=1-b:=ni (by omega) (by omega)
 rw [w1]
 have kings:∀ n:Nat,n<64→(cZ k&&&aO p (1-b) 6).getLsbD n=(iF n k&&dn (1-b) 6 (p.ae.getD n 0)):=fun n hn=>by
  obtain ⟨_,f6,_⟩:=oV ⟨n,hn⟩ ⟨k,hk⟩
  obtain ⟨_,y6,_⟩:=xw ⟨n,hn⟩ ⟨k,hk⟩
  simp only at f6 y6
  rw [BitVec.getLsbD_and,cf _ _ _ hn,← y6,← f6]
  have:cm 6 0 n k false=iF n k:=by
   have h:∀ a b:Fin 64,cm 6 0 a.val b.val false=iF a.val b.val:=by decide +kernel
   exact h ⟨n,hn⟩ ⟨k,hk⟩
  rw [this]
 cases hv:p.variant==3 with
 | false =>
  have e:cO (fun x=>bif ou b k p x then ux b k p x else .bad) 1 0=some (.inr (0,false)):=by
   rw [cO]
   have:(bif ou b k p 0 then ux b k p 0 else .bad)=.out (.inr (0,false)):=by
    unfold ou ux
    rw [hv]
    rfl
   rw [this]
  exact ⟨_,jC _ many _ _ (by unfold many;omega) e,rfl⟩
 | true =>
  rw [Bool.true_and]
  refine aU (I:=fun x=>∃ n:Nat,n≤64∧x=(n:Int)∧∀ j,j<n→(cZ k&&&aO p (1-b) 6).getLsbD j=false) (μ:=fun x=>(64-x).toNat) ?_ _ ⟨0,by omega,rfl,fun j hj=>by omega⟩ (by simp)
  rintro _ ⟨n,hn,rfl,h⟩
  unfold ou ux
  rw [show (Pos.mk p.variant p.ae p.ab p.af p.aa p.ai p.ah p.ag p.half p.full)=p from rfl,hv,w1]
  by_cases hc64:n<64
  ·obtain ⟨e1,e2⟩:=ky hp (c:=1-b) (k:=6) (by omega) (by omega) (by omega) hc64
   have hbit:=kings n hc64
   rw [e1,e2,aF (n:=(n:Int)+1) (by omega) (by omega)]
   have keep:(cZ k&&&aO p (1-b) 6).getLsbD n=false→zE (fun x:Int=>∃ n:Nat,n≤64∧x=(n:Int)∧∀ j,j<n→(cZ k&&&aO p (1-b) 6).getLsbD j=false) (fun r:Unit ⊕ (Int×Bool)=>bI r=(cZ k&&&aO p (1-b) 6 != 0#64)) (fun x=>(64-x).toNat) (64-(n:Int)).toNat (.go ((n:Int)+1)):=fun hf=>by
    refine ⟨⟨n+1,by omega,rfl,fun j hj=>?_⟩,by show (64-((n:Int)+1)).toNat<(64-(n:Int)).toNat;omega⟩
    by_cases e:j=n
    ·rw [e];exact hf
    ·exact h j (by omega)
   constructor
   ·repeat' (first | with_reducible rfl | refine ao ?_ (fun _=>?_) | refine ar (fun _=>?_) (fun _=>?_))
   ·refine aq (fun _=>?_) fun h'=>absurd h' (by simp;omega)
    rw [cond_true]
    refine aq (fun h1=>aq (fun h2=>?_) fun h2=>?_) fun h1=>?_
    ·show true=_
     rw [h2,h1] at hbit
     have:cZ k&&&aO p (1-b) 6≠0#64:=fun e=>by rw [e] at hbit;simp at hbit
     simpa using this
    ·exact keep (by rw [hbit,h2];rfl)
    ·exact keep (by rw [hbit,h1,Bool.and_false])
  ·have e:n=64:=by omega
   subst e
   refine ⟨ar (fun h'=>absurd h' (by simp)) fun _=>rfl,aq (fun h'=>absurd h' (by simp)) fun _=>?_⟩
   show false=_
   have:cZ k&&&aO p (1-b) 6=0#64:=BitVec.eq_of_getLsbD_eq fun j hj=>by rw [h j hj];simp
   rw [this]
   rfl
theorem wz:∀ (v:Fin 9) (b:Fin 2),Mn v.val b.val=lj v.val b.val:=by decide +kernel
theorem sE {v b:Int} (v0:0≤v) (hb:b=0∨b=1):Mn v b=lj v b:=by
 obtain ⟨n,rfl⟩:=Int.eq_ofNat_of_zero_le v0
 by_cases h9:n<9
 ·rcases hb with rfl | rfl
  ·exact wz ⟨n,h9⟩ 0
  ·exact wz ⟨n,h9⟩ 1
 ·unfold Mn lj
  rw [show decide ((n:Int)<9)=false by simp;omega,show decide ((n:Int)≥9)=true by simp;omega]
  rcases hb with rfl | rfl<;>rfl
theorem uF {p:Pos} (hp:aA p) (ht:p.aa=0∨p.aa=1) {b:Int} (hb:b=0∨b=1):jk p b=true∧nF p b=hQ p b:=by
 obtain ⟨f1,f2⟩:=o9 hp (c:=b) (k:=6) hb (by omega) (by omega)
 have w1:wr .u8 (1-b)=1-b:=ni (by omega) (by omega)
 have hroy:=sE (b:=b) hp.v0 hb
 have pe:(Pos.mk p.variant p.ae p.ab p.af p.aa p.ai p.ah p.ag p.half p.full)=p:=rfl
 unfold jk nF M9 Wj hQ Cf BM
 rw [pe,f1,f2,hroy,show decide (b>1)=false by simp;omega]
 rcases gj p b 6 with ⟨a1,_⟩ | ⟨k,hk,a1,_⟩
 ·rw [a1]
  cases lj p.variant b
  ·exact ⟨rfl,rfl⟩
  ·exact ⟨rfl,rfl⟩
 ·rw [a1]
  obtain ⟨l1,l2⟩:=aK (ahG hp hb hk)
  obtain ⟨o1,o2⟩:=JF hp ht hk (c:=1-b) (by omega)
  rw [l1,l2,w1,show decide ((k:Int)<0)=false by simp]
  cases lj p.variant b
  ·exact ⟨rfl,rfl⟩
  ·cases p.variant==3
   ·simp only [Bool.false_and,cond_false,Bool.not_true,cond_true,Bool.true_and,Bool.and_true]
    rw [show decide ((k:Int)≥0)=true by simp,o1,o2]
    exact ⟨rfl,rfl⟩
   ·cases (cZ k&&&aO p (1-b) 6 != 0#64)
    ·simp only [Bool.true_and,cond_false,Bool.not_true,cond_true,Bool.and_true]
     rw [show decide ((k:Int)≥0)=true by simp,o1,o2]
     exact ⟨rfl,rfl⟩
    ·exact ⟨rfl,rfl⟩
end Kz
end
noncomputable section
namespace Kz
open Go Go.RowKit Go.Proofs
def ahx:KT:=[(156,6,[(0,[0]),(1,[5]),(2,[2,3]),(3,[2,3])])]
def ajZ:aw:=bO Pz ahx [] [] []
theorem ZS:aW ajZ:=aj ak trivial trivial trivial
def dF (a:Int):(Int×Int):=(bif a==0 then ((6),(5)) else ((2),(3)))
def Z1 (a:Int):Bool:=true
theorem adH (a:Int) (h:Z1 a=true):PS Pz 156 [.int .i64 a] ((d2 (dI .i64) (dI .i64)).res (dF a)):=pq14 ZS h
def GB:GT:=g1 (dI .i64) (fun a=>.ret ((d2 (dI .i64) (dI .i64)).res (dF a)))
theorem KO:Sound Pz 156 GB:=aH fun a=>bV (adH a rfl)
def ajW:KT:=[(175,13,[(0,[0,6,7,10,11]),(1,[2])])]
def afT:aw:=bO Pz ajW [] [] []
theorem YJ:aW afT:=aj ak trivial trivial trivial
def CV (a:Int):Bool:=(bif decide (a<9) then (bif a != 4 then (a != 8) else (false)) else (false))
def XQ (a:Int):Bool:=true
theorem adn (a:Int) (h:XQ a=true):PS Pz 175 [.int .u8 a] (dB.res (CV a)):=pq14 YJ h
def V9:GT:=g1 (dI .u8) (fun a=>.ret (dB.res (CV a)))
theorem aaf:Sound Pz 175 V9:=aH fun a=>bV (adn a rfl)
def aiE:KT:=[(176,25,[(0,(0::1::2::11::12::13::(rn 16 8 []))),(1,[6])])]
def agU:aw:=bO Pz aiE [] [] []
theorem YB:aW agU:=aj ak trivial trivial trivial
def fQ (a:Int) (b:Int) (c:Int):Bool:=(bif decide (a≥b) then (bif decide (a≤c) then (true) else (bif decide (a≥c) then (decide (a≤b)) else (false))) else (bif decide (a≥c) then (decide (a≤b)) else (false)))
def acg (a:Int) (b:Int) (c:Int):Bool:=true
theorem agZ (a:Int) (b:Int) (c:Int) (h:acg a b c=true):PS Pz 176 [.int .i64 a,.int .i64 b,.int .i64 c] (dB.res (fQ a b c)):=pq14 YB h
def Wi:GT:=g3 (dI .i64) (dI .i64) (dI .i64) (fun a b c=>.ret (dB.res (fQ a b c)))
theorem Y1:Sound Pz 176 Wi:=dv fun a b c=>bV (agZ a b c rfl)
def Zv:KT:=[(177,33,[(0,[1,2,9,10,11,22,23,24]),(1,[1,2,5,9,10,11,22,23,24]),(2,(1::2::5::(rn 9 4 [22,23,24]))),(3,[1,2,5,9,10,11,22,23,24]),(4,(1::2::5::9::10::11::(rn 22 4 []))),(5,[4]),(6,[4])])]
def TX:aw:=bO Pz Zv [(81,G81),(152,oN),(153,By)] [] []
theorem NW:aW TX:=aj ak ⟨s81,qj,CC,trivial⟩ trivial trivial
def Ic (p1:Int) (p2:Pos) (x:(Int)):St:=St.mk (.any::.int .i64 p1::.ptr 0 0::.any::.any::.int .i64 x::(an 27 [])) (Hp.mk [(pc p2 [])] [] [] 0 0 0)
def Jd (p1:Int) (p2:Pos):Unit ⊕ (Int×Bool)→Out
 | (.inl (y))=>.ret (St.mk (an 4 (AV.aL true::(an 28 []))) (Hp.mk [(pc p2 [])] [] [] 0 0 0))
 | (.inr (y))=>.exit 0 (St.mk (AV.any::AV.int .i64 p1::AV.ptr 0 0::AV.any::AV.any::AV.int .i64 y.1::(an 6 (AV.bool y.2::(an 20 [])))) (Hp.mk [(pc p2 [])] [] [] 0 0 0))
def ku (p1:Int) (p2:Pos) (x:(Int)):aG (Int) (Unit ⊕ (Int×Bool)):=(bif decide (x<64) then (bif p2.variant==3 then (bif qd p2 x (wr .u8 (1-p2.aa)) 6 then (bif iF x p1 then (aG.out (.inl (()))) else (aG.go (wr .i64 (x+1)))) else (aG.go (wr .i64 (x+1)))) else (aG.out (.inr ((x,p2.variant==3))))) else (aG.out (.inr ((x,false)))))
def jz (p1:Int) (p2:Pos) (x:(Int)):Bool:=(bif decide (x<64) then (bif p2.variant==3 then (np (p2) (x) (wr .u8 (1-p2.aa)) (6)&&true) else true) else true)
def mI (p1:Int) (p2:Pos) (x:(Int)):Option (Unit ⊕ (Int×Bool)):=cO (fun x=>bif jz p1 p2 x then ku p1 p2 x else .bad) many x
abbrev Iq {α:Type} (k:Int→Pos→(Int)→α) (s:St):α:=wP s 0 fun q0=>k (tI (tT s 1)) q0 ((tI (tT s 5)))
theorem TT (p1:Int) (p2:Pos) (x:(Int)) (r:Unit ⊕ (Int×Bool)) (h:mI p1 p2 x=some r):ay Pz (aT Pz 177 2) (Ic p1 p2 x) (Jd p1 p2 r):=ay.vC (m:=12) (fn:=177) NW (Iq fun _ _ x=>some x) (fun o=>match o with | .ret s=>some (.inl ()) | .exit 0 s=>some (.inr ((tI (tT s 5)),(tB (tT s 12)))) | _=>none) (fun r=>by cases r<;>rfl) (fun _=>by kernel_rfl) (fun _=>by kernel_rfl) (fun _=>by kernel_rfl) (fun _=>by kernel_rfl) many x r h
def JW (b:Code) (s:St):Tr Out:=Iq (fun p1 p2 x=>yX b (aT Pz 177 2) s (Ic p1 p2 x) (mI p1 p2 x) (Jd p1 p2)) s
theorem OT:∀ b,aM Pz b (JW b):=fun _ _ _ h=>dG (TT _ _ _) h
def aih:aw:=bO Pz Zv [(81,G81),(152,oN),(153,By)] [(177,2,JW)] []
theorem Xi:aW aih:=aj ak ⟨s81,qj,CC,trivial⟩ ⟨OT,trivial⟩ trivial
def sk (a:Pos) (b:Int):Bool:=(bif bI ((mI b a 0).getD default) then (true) else (WD a b (wr .u8 (1-a.aa))==0#64))
def sj (a:Pos) (b:Int):Bool:=((mI b a 0).isSome&&bif bI ((mI b a 0).getD default) then true else (Gn (a) (b) (wr .u8 (1-a.aa))&&true))
theorem age (a:Pos) (b:Int) (h:sj a b=true):PS Pz 177 [Pos.av a,.int .i64 b] (dB.res (sk a b)):=pq14 Xi h
def Ud:GT:=g2 aY (dI .i64) (fun a b=>cp (sj a b) (dB.res (sk a b)))
theorem abJ:Sound Pz 177 Ud:=bb fun a b=>aC (age a b)
def Yi:KT:=[(112,138,[(0,(1::2::(rn 20 4 (rn 45 4 (51::52::55::56::(rn 68 7 (rn 77 7 (rn 112 6 (rn 120 6 (rn 128 7 [])))))))))),(1,(1::2::24::(rn 45 4 (51::52::55::56::(rn 68 7 (rn 77 7 (rn 112 6 (rn 120 6 (rn 128 7 []))))))))),(2,[4,5,6]),(3,(1::2::7::(rn 45 4 (51::52::55::56::(rn 68 7 (rn 77 7 (rn 112 6 (rn 120 6 (rn 128 7 []))))))))),(4,(1::2::7::8::(rn 45 4 (51::52::55::56::(rn 68 7 (rn 77 7 (rn 112 6 (rn 120 6 (rn 128 7 []))))))))),(5,(1::2::7::8::9::(rn 45 4 (51::52::55::56::(rn 68 7 (rn 77 7 (rn 112 6 (rn 120 6 (rn 128 7 []))))))))),(6,(1::2::7::8::9::57::(rn 68 7 (rn 77 7 (rn 112 6 (rn 120 6 (rn 128 7 []))))))),(7,[4,5,6]),(8,(1::2::7::8::10::(rn 68 7 (rn 77 7 (rn 112 6 (rn 120 6 (rn 128 7 []))))))),(9,(1::2::7::8::10::84::(rn 112 6 (rn 120 6 (rn 128 7 []))))),(10,[4,5,6]),(11,(2::7::8::10::11::12::(rn 112 6 (rn 120 6 (rn 128 7 []))))),(12,(7::8::(rn 10 4 (rn 112 6 (rn 120 6 (rn 128 7 [])))))),(13,(7::8::(rn 10 4 (rn 112 6 (rn 120 6 (rn 128 7 [])))))),(14,(7::8::(rn 10 4 (rn 112 6 (rn 120 6 (rn 128 7 [])))))),(15,(7::8::(rn 10 5 (rn 112 6 (rn 120 6 (rn 128 7 [])))))),(16,(7::8::(rn 10 5 (101::(rn 112 6 (rn 120 6 (rn 128 7 []))))))),(17,(7::8::(rn 10 5 (rn 112 6 (rn 120 6 (rn 128 7 [])))))),(18,(7::8::(rn 10 6 (rn 112 6 (rn 120 6 (rn 128 7 [])))))),(19,(7::8::(rn 10 5 (rn 112 6 (rn 120 6 (rn 128 8 [])))))),(20,[4,5,6]),(21,[4,5,6])])]
def Uz:aw:=bO Pz Yi [(82,mV),(150,xb),(152,oN),(156,GB),(175,V9),(176,Wi),(177,Ud)] [] []
theorem Oa:aW Uz:=aj ak ⟨nm,An,qj,KO,aaf,Y1,abJ,trivial⟩ trivial trivial
def Lp (p1:Int) (p2:Int) (p3:Int) (p4:Int) (p5:Int) (p6:Pos) (p7:Pos) (x:(Int)):St:=St.mk (an 7 (.int .i64 p1::.int .i64 p2::.any::.int .i64 p3::.int .i64 p4::.int .i64 p5::.ptr 1 0::.int .i64 x::(an 123 []))) (Hp.mk [(pc p6 []),(pc p7 [])] [] [] 0 0 0)
def Kg (p1:Int) (p2:Int) (p3:Int) (p4:Int) (p5:Int) (p6:Pos) (p7:Pos):Unit ⊕ (Int×Bool)→Out
 | (.inl (y))=>.ret (St.mk (an 4 (AV.aE .i64 0::AV.aE .i64 0::AV.aL false::(an 131 []))) (Hp.mk [(pc p6 []),(pc p7 [])] [] [] 0 0 0))
 | (.inr (y))=>.exit 0 (St.mk (an 7 (AV.int .i64 p1::AV.int .i64 p2::AV.any::AV.int .i64 p3::AV.int .i64 p4::AV.int .i64 p5::AV.ptr 1 0::AV.int .i64 y.1::(an 86 (AV.bool y.2::(an 36 []))))) (Hp.mk [(pc p6 []),(pc p7 [])] [] [] 0 0 0))
def yi (p1:Int) (p2:Int) (p3:Int) (p4:Int) (p5:Int) (p6:Pos) (p7:Pos) (x:(Int)):aG (Int) (Unit ⊕ (Int×Bool)):=(bif decide (x<wr .i64 (p1+8)) then (bif fQ x p2 (wr .i64 (p1+p4)) then (bif bg (p7.ae.getD (scale 1 x).toNat 0) != 0 then (aG.out (.inl (()))) else (bif fQ x p2 (wr .i64 (p1+p4)) then (bif !sk p7 x then (aG.out (.inl (()))) else (aG.go (wr .i64 (x+1)))) else (aG.go (wr .i64 (x+1))))) else (bif fQ x p3 (wr .i64 (p1+p5)) then (bif bg (p7.ae.getD (scale 1 x).toNat 0) != 0 then (aG.out (.inl (()))) else (bif fQ x p2 (wr .i64 (p1+p4)) then (bif !sk p7 x then (aG.out (.inl (()))) else (aG.go (wr .i64 (x+1)))) else (aG.go (wr .i64 (x+1))))) else (bif fQ x p2 (wr .i64 (p1+p4)) then (bif !sk p7 x then (aG.out (.inl (()))) else (aG.go (wr .i64 (x+1)))) else (aG.go (wr .i64 (x+1)))))) else (aG.out (.inr ((x,decide (x<wr .i64 (p1+8)))))))
def AH (p1:Int) (p2:Int) (p3:Int) (p4:Int) (p5:Int) (p6:Pos) (p7:Pos) (x:(Int)):Bool:=(bif decide (x<wr .i64 (p1+8)) then (bif fQ x p2 (wr .i64 (p1+p4)) then (decide (0≤x)&&decide (x<Int.ofNat 64)&&(bif bg (p7.ae.getD (scale 1 x).toNat 0) != 0 then true else (bif fQ x p2 (wr .i64 (p1+p4)) then (sj (p7) (x)&&true) else true))) else (bif fQ x p3 (wr .i64 (p1+p5)) then (decide (0≤x)&&decide (x<Int.ofNat 64)&&(bif bg (p7.ae.getD (scale 1 x).toNat 0) != 0 then true else (bif fQ x p2 (wr .i64 (p1+p4)) then (sj (p7) (x)&&true) else true))) else (bif fQ x p2 (wr .i64 (p1+p4)) then (sj (p7) (x)&&true) else true))) else true)
def cD (p1:Int) (p2:Int) (p3:Int) (p4:Int) (p5:Int) (p6:Pos) (p7:Pos) (x:(Int)):Option (Unit ⊕ (Int×Bool)):=cO (fun x=>bif AH p1 p2 p3 p4 p5 p6 p7 x then yi p1 p2 p3 p4 p5 p6 p7 x else .bad) many x
abbrev Jy {α:Type} (k:Int→Int→Int→Int→Int→Pos→Pos→(Int)→α) (s:St):α:=wP s 0 fun q0=>wP s 1 fun q1=>k (tI (tT s 7)) (tI (tT s 8)) (tI (tT s 10)) (tI (tT s 11)) (tI (tT s 12)) q0 q1 ((tI (tT s 14)))
theorem Ts (p1:Int) (p2:Int) (p3:Int) (p4:Int) (p5:Int) (p6:Pos) (p7:Pos) (x:(Int)) (r:Unit ⊕ (Int×Bool)) (h:cD p1 p2 p3 p4 p5 p6 p7 x=some r):ay Pz (aT Pz 112 16) (Lp p1 p2 p3 p4 p5 p6 p7 x) (Kg p1 p2 p3 p4 p5 p6 p7 r):=ay.vC (m:=12) (fn:=112) Oa (Jy fun _ _ _ _ _ _ _ x=>some x) (fun o=>match o with | .ret s=>some (.inl ()) | .exit 0 s=>some (.inr ((tI (tT s 14)),(tB (tT s 101)))) | _=>none) (fun r=>by cases r<;>rfl) (fun _=>by kernel_rfl) (fun _=>by kernel_rfl) (fun _=>by kernel_rfl) (fun _=>by kernel_rfl) many x r h
def Md (b:Code) (s:St):Tr Out:=Jy (fun p1 p2 p3 p4 p5 p6 p7 x=>yX b (aT Pz 112 16) s (Lp p1 p2 p3 p4 p5 p6 p7 x) (cD p1 p2 p3 p4 p5 p6 p7 x) (Kg p1 p2 p3 p4 p5 p6 p7)) s
theorem Pf:∀ b,aM Pz b (Md b):=fun _ _ _ h=>dG (Ts _ _ _ _ _ _ _ _) h
def aeg:aw:=bO Pz Yi [(82,mV),(150,xb),(152,oN),(156,GB),(175,V9),(176,Wi),(177,Ud)] [(112,16,Md)] []
theorem Yw:aW aeg:=aj ak ⟨nm,An,qj,KO,aaf,Y1,abJ,trivial⟩ ⟨Pf,trivial⟩ trivial
def fC (a:Pos) (b:Int):(Int×Int×Bool):=(bif decide (a.aa>1) then ((0),(0),(false)) else (bif !CV a.variant then ((0),(0),(false)) else (bif decide (cn a a.aa 6<wr .i64 (56 * wr .i64 a.aa)) then ((0),(0),(false)) else (bif decide (cn a a.aa 6>wr .i64 (wr .i64 (56 * wr .i64 a.aa)+7)) then ((0),(0),(false)) else (bif decide (wr .i64 (a.ai.getD (scale 2 a.aa+scale 1 b).toNat 0)<0) then ((0),(0),(false)) else (bif decide (wr .i64 (a.ai.getD (scale 2 a.aa+scale 1 b).toNat 0)>7) then ((0),(0),(false)) else (bif !qd a (wr .i64 (wr .i64 (56 * wr .i64 a.aa)+wr .i64 (a.ai.getD (scale 2 a.aa+scale 1 b).toNat 0))) a.aa 4 then ((0),(0),(false)) else (bif b==0 then (bif decide (wr .i64 (wr .i64 (56 * wr .i64 a.aa)+wr .i64 (a.ai.getD (scale 2 a.aa+scale 1 b).toNat 0))<cn a a.aa 6) then ((0),(0),(false)) else (bif b==1 then (bif decide (wr .i64 (wr .i64 (56 * wr .i64 a.aa)+wr .i64 (a.ai.getD (scale 2 a.aa+scale 1 b).toNat 0))>cn a a.aa 6) then ((0),(0),(false)) else (bif bI ((cD (wr .i64 (56 * wr .i64 a.aa)) (cn a a.aa 6) (wr .i64 (wr .i64 (56 * wr .i64 a.aa)+wr .i64 (a.ai.getD (scale 2 a.aa+scale 1 b).toNat 0))) (dF b).1 (dF b).2 a (Pos.mk a.variant ((a.ae.set (scale 1 (cn a a.aa 6)).toNat 0).set (scale 1 (wr .i64 (wr .i64 (56 * wr .i64 a.aa)+wr .i64 (a.ai.getD (scale 2 a.aa+scale 1 b).toNat 0)))).toNat 0) a.ab a.af a.aa a.ai a.ah a.ag a.half a.full) (wr .i64 (56 * wr .i64 a.aa))).getD default) then ((0),(0),(false)) else ((cn a a.aa 6),(wr .i64 (wr .i64 (56 * wr .i64 a.aa)+wr .i64 (a.ai.getD (scale 2 a.aa+scale 1 b).toNat 0))),(true)))) else (bif bI ((cD (wr .i64 (56 * wr .i64 a.aa)) (cn a a.aa 6) (wr .i64 (wr .i64 (56 * wr .i64 a.aa)+wr .i64 (a.ai.getD (scale 2 a.aa+scale 1 b).toNat 0))) (dF b).1 (dF b).2 a (Pos.mk a.variant ((a.ae.set (scale 1 (cn a a.aa 6)).toNat 0).set (scale 1 (wr .i64 (wr .i64 (56 * wr .i64 a.aa)+wr .i64 (a.ai.getD (scale 2 a.aa+scale 1 b).toNat 0)))).toNat 0) a.ab a.af a.aa a.ai a.ah a.ag a.half a.full) (wr .i64 (56 * wr .i64 a.aa))).getD default) then ((0),(0),(false)) else ((cn a a.aa 6),(wr .i64 (wr .i64 (56 * wr .i64 a.aa)+wr .i64 (a.ai.getD (scale 2 a.aa+scale 1 b).toNat 0))),(true))))) else (bif b==1 then (bif decide (wr .i64 (wr .i64 (56 * wr .i64 a.aa)+wr .i64 (a.ai.getD (scale 2 a.aa+scale 1 b).toNat 0))>cn a a.aa 6) then ((0),(0),(false)) else (bif bI ((cD (wr .i64 (56 * wr .i64 a.aa)) (cn a a.aa 6) (wr .i64 (wr .i64 (56 * wr .i64 a.aa)+wr .i64 (a.ai.getD (scale 2 a.aa+scale 1 b).toNat 0))) (dF b).1 (dF b).2 a (Pos.mk a.variant ((a.ae.set (scale 1 (cn a a.aa 6)).toNat 0).set (scale 1 (wr .i64 (wr .i64 (56 * wr .i64 a.aa)+wr .i64 (a.ai.getD (scale 2 a.aa+scale 1 b).toNat 0)))).toNat 0) a.ab a.af a.aa a.ai a.ah a.ag a.half a.full) (wr .i64 (56 * wr .i64 a.aa))).getD default) then ((0),(0),(false)) else ((cn a a.aa 6),(wr .i64 (wr .i64 (56 * wr .i64 a.aa)+wr .i64 (a.ai.getD (scale 2 a.aa+scale 1 b).toNat 0))),(true)))) else (bif bI ((cD (wr .i64 (56 * wr .i64 a.aa)) (cn a a.aa 6) (wr .i64 (wr .i64 (56 * wr .i64 a.aa)+wr .i64 (a.ai.getD (scale 2 a.aa+scale 1 b).toNat 0))) (dF b).1 (dF b).2 a (Pos.mk a.variant ((a.ae.set (scale 1 (cn a a.aa 6)).toNat 0).set (scale 1 (wr .i64 (wr .i64 (56 * wr .i64 a.aa)+wr .i64 (a.ai.getD (scale 2 a.aa+scale 1 b).toNat 0)))).toNat 0) a.ab a.af a.aa a.ai a.ah a.ag a.half a.full) (wr .i64 (56 * wr .i64 a.aa))).getD default) then ((0),(0),(false)) else ((cn a a.aa 6),(wr .i64 (wr .i64 (56 * wr .i64 a.aa)+wr .i64 (a.ai.getD (scale 2 a.aa+scale 1 b).toNat 0))),(true))))))))))))
def lN (a:Pos) (b:Int):Bool:=(bif decide (a.aa>1) then true else (bif !CV a.variant then true else (tQ (a) (a.aa) (6)&&(decide (0≤a.aa)&&decide (a.aa<Int.ofNat 2)&&(decide (0≤b)&&decide (b<Int.ofNat 2)&&(bif decide (cn a a.aa 6<wr .i64 (56 * wr .i64 a.aa)) then true else (bif decide (cn a a.aa 6>wr .i64 (wr .i64 (56 * wr .i64 a.aa)+7)) then true else (bif decide (wr .i64 (a.ai.getD (scale 2 a.aa+scale 1 b).toNat 0)<0) then true else (bif decide (wr .i64 (a.ai.getD (scale 2 a.aa+scale 1 b).toNat 0)>7) then true else (np (a) (wr .i64 (wr .i64 (56 * wr .i64 a.aa)+wr .i64 (a.ai.getD (scale 2 a.aa+scale 1 b).toNat 0))) (a.aa) (4)&&(bif !qd a (wr .i64 (wr .i64 (56 * wr .i64 a.aa)+wr .i64 (a.ai.getD (scale 2 a.aa+scale 1 b).toNat 0))) a.aa 4 then true else (bif b==0 then (bif decide (wr .i64 (wr .i64 (56 * wr .i64 a.aa)+wr .i64 (a.ai.getD (scale 2 a.aa+scale 1 b).toNat 0))<cn a a.aa 6) then true else (bif b==1 then (bif decide (wr .i64 (wr .i64 (56 * wr .i64 a.aa)+wr .i64 (a.ai.getD (scale 2 a.aa+scale 1 b).toNat 0))>cn a a.aa 6) then true else (decide (0≤cn a a.aa 6)&&decide (cn a a.aa 6<Int.ofNat 64)&&(decide (0≤wr .i64 (wr .i64 (56 * wr .i64 a.aa)+wr .i64 (a.ai.getD (scale 2 a.aa+scale 1 b).toNat 0)))&&decide (wr .i64 (wr .i64 (56 * wr .i64 a.aa)+wr .i64 (a.ai.getD (scale 2 a.aa+scale 1 b).toNat 0))<Int.ofNat 64)&&((cD (wr .i64 (56 * wr .i64 a.aa)) (cn a a.aa 6) (wr .i64 (wr .i64 (56 * wr .i64 a.aa)+wr .i64 (a.ai.getD (scale 2 a.aa+scale 1 b).toNat 0))) (dF b).1 (dF b).2 a (Pos.mk a.variant ((a.ae.set (scale 1 (cn a a.aa 6)).toNat 0).set (scale 1 (wr .i64 (wr .i64 (56 * wr .i64 a.aa)+wr .i64 (a.ai.getD (scale 2 a.aa+scale 1 b).toNat 0)))).toNat 0) a.ab a.af a.aa a.ai a.ah a.ag a.half a.full) (wr .i64 (56 * wr .i64 a.aa))).isSome&&bif bI ((cD (wr .i64 (56 * wr .i64 a.aa)) (cn a a.aa 6) (wr .i64 (wr .i64 (56 * wr .i64 a.aa)+wr .i64 (a.ai.getD (scale 2 a.aa+scale 1 b).toNat 0))) (dF b).1 (dF b).2 a (Pos.mk a.variant ((a.ae.set (scale 1 (cn a a.aa 6)).toNat 0).set (scale 1 (wr .i64 (wr .i64 (56 * wr .i64 a.aa)+wr .i64 (a.ai.getD (scale 2 a.aa+scale 1 b).toNat 0)))).toNat 0) a.ab a.af a.aa a.ai a.ah a.ag a.half a.full) (wr .i64 (56 * wr .i64 a.aa))).getD default) then true else true)))) else (decide (0≤cn a a.aa 6)&&decide (cn a a.aa 6<Int.ofNat 64)&&(decide (0≤wr .i64 (wr .i64 (56 * wr .i64 a.aa)+wr .i64 (a.ai.getD (scale 2 a.aa+scale 1 b).toNat 0)))&&decide (wr .i64 (wr .i64 (56 * wr .i64 a.aa)+wr .i64 (a.ai.getD (scale 2 a.aa+scale 1 b).toNat 0))<Int.ofNat 64)&&((cD (wr .i64 (56 * wr .i64 a.aa)) (cn a a.aa 6) (wr .i64 (wr .i64 (56 * wr .i64 a.aa)+wr .i64 (a.ai.getD (scale 2 a.aa+scale 1 b).toNat 0))) (dF b).1 (dF b).2 a (Pos.mk a.variant ((a.ae.set (scale 1 (cn a a.aa 6)).toNat 0).set (scale 1 (wr .i64 (wr .i64 (56 * wr .i64 a.aa)+wr .i64 (a.ai.getD (scale 2 a.aa+scale 1 b).toNat 0)))).toNat 0) a.ab a.af a.aa a.ai a.ah a.ag a.half a.full) (wr .i64 (56 * wr .i64 a.aa))).isSome&&bif bI ((cD (wr .i64 (56 * wr .i64 a.aa)) (cn a a.aa 6) (wr .i64 (wr .i64 (56 * wr .i64 a.aa)+wr .i64 (a.ai.getD (scale 2 a.aa+scale 1 b).toNat 0))) (dF b).1 (dF b).2 a (Pos.mk a.variant ((a.ae.set (scale 1 (cn a a.aa 6)).toNat 0).set (scale 1 (wr .i64 (wr .i64 (56 * wr .i64 a.aa)+wr .i64 (a.ai.getD (scale 2 a.aa+scale 1 b).toNat 0)))).toNat 0) a.ab a.af a.aa a.ai a.ah a.ag a.half a.full) (wr .i64 (56 * wr .i64 a.aa))).getD default) then true else true))))) else (bif b==1 then (bif decide (wr .i64 (wr .i64 (56 * wr .i64 a.aa)+wr .i64 (a.ai.getD (scale 2 a.aa+scale 1 b).toNat 0))>cn a a.aa 6) then true else (decide (0≤cn a a.aa 6)&&decide (cn a a.aa 6<Int.ofNat 64)&&(decide (0≤wr .i64 (wr .i64 (56 * wr .i64 a.aa)+wr .i64 (a.ai.getD (scale 2 a.aa+scale 1 b).toNat 0)))&&decide (wr .i64 (wr .i64 (56 * wr .i64 a.aa)+wr .i64 (a.ai.getD (scale 2 a.aa+scale 1 b).toNat 0))<Int.ofNat 64)&&((cD (wr .i64 (56 * wr .i64 a.aa)) (cn a a.aa 6) (wr .i64 (wr .i64 (56 * wr .i64 a.aa)+wr .i64 (a.ai.getD (scale 2 a.aa+scale 1 b).toNat 0))) (dF b).1 (dF b).2 a (Pos.mk a.variant ((a.ae.set (scale 1 (cn a a.aa 6)).toNat 0).set (scale 1 (wr .i64 (wr .i64 (56 * wr .i64 a.aa)+wr .i64 (a.ai.getD (scale 2 a.aa+scale 1 b).toNat 0)))).toNat 0) a.ab a.af a.aa a.ai a.ah a.ag a.half a.full) (wr .i64 (56 * wr .i64 a.aa))).isSome&&bif bI ((cD (wr .i64 (56 * wr .i64 a.aa)) (cn a a.aa 6) (wr .i64 (wr .i64 (56 * wr .i64 a.aa)+wr .i64 (a.ai.getD (scale 2 a.aa+scale 1 b).toNat 0))) (dF b).1 (dF b).2 a (Pos.mk a.variant ((a.ae.set (scale 1 (cn a a.aa 6)).toNat 0).set (scale 1 (wr .i64 (wr .i64 (56 * wr .i64 a.aa)+wr .i64 (a.ai.getD (scale 2 a.aa+scale 1 b).toNat 0)))).toNat 0) a.ab a.af a.aa a.ai a.ah a.ag a.half a.full) (wr .i64 (56 * wr .i64 a.aa))).getD default) then true else true)))) else (decide (0≤cn a a.aa 6)&&decide (cn a a.aa 6<Int.ofNat 64)&&(decide (0≤wr .i64 (wr .i64 (56 * wr .i64 a.aa)+wr .i64 (a.ai.getD (scale 2 a.aa+scale 1 b).toNat 0)))&&decide (wr .i64 (wr .i64 (56 * wr .i64 a.aa)+wr .i64 (a.ai.getD (scale 2 a.aa+scale 1 b).toNat 0))<Int.ofNat 64)&&((cD (wr .i64 (56 * wr .i64 a.aa)) (cn a a.aa 6) (wr .i64 (wr .i64 (56 * wr .i64 a.aa)+wr .i64 (a.ai.getD (scale 2 a.aa+scale 1 b).toNat 0))) (dF b).1 (dF b).2 a (Pos.mk a.variant ((a.ae.set (scale 1 (cn a a.aa 6)).toNat 0).set (scale 1 (wr .i64 (wr .i64 (56 * wr .i64 a.aa)+wr .i64 (a.ai.getD (scale 2 a.aa+scale 1 b).toNat 0)))).toNat 0) a.ab a.af a.aa a.ai a.ah a.ag a.half a.full) (wr .i64 (56 * wr .i64 a.aa))).isSome&&bif bI ((cD (wr .i64 (56 * wr .i64 a.aa)) (cn a a.aa 6) (wr .i64 (wr .i64 (56 * wr .i64 a.aa)+wr .i64 (a.ai.getD (scale 2 a.aa+scale 1 b).toNat 0))) (dF b).1 (dF b).2 a (Pos.mk a.variant ((a.ae.set (scale 1 (cn a a.aa 6)).toNat 0).set (scale 1 (wr .i64 (wr .i64 (56 * wr .i64 a.aa)+wr .i64 (a.ai.getD (scale 2 a.aa+scale 1 b).toNat 0)))).toNat 0) a.ab a.af a.aa a.ai a.ah a.ag a.half a.full) (wr .i64 (56 * wr .i64 a.aa))).getD default) then true else true))))))))))))))))
theorem aj4 (a:Pos) (b:Int) (h:lN a b=true):PS Pz 112 [Pos.av a,.int .i64 b] ((d3 (dI .i64) (dI .i64) dB).res (fC a b)):=pq14 Yw h
def Us:GT:=g2 aY (dI .i64) (fun a b=>cp (lN a b) ((d3 (dI .i64) (dI .i64) dB).res (fC a b)))
theorem XS:Sound Pz 112 Us:=bb fun a b=>aC (aj4 a b)
def K54:KT:=[(54,29,[(0,[1]),(1,[1,3]),(2,[1,3,4]),(3,[1,3,4,9]),(4,[1,3,4]),(5,(1::(rn 3 5 []))),(6,(1::(rn 3 4 [19]))),(7,[1,3,4]),(8,[2])])]
def Zi:aw:=bO Pz K54 [(112,Us)] [] []
theorem Wf:aW Zi:=aj ak ⟨XS,trivial⟩ trivial trivial
def RU (p1:Pos) (p2:Nat) (x:(M'×Int)):St:=St.mk (.any::.ptr 0 0::.any::.list .mv x.1 (.own 1)::.int .i64 x.2::(an 24 [])) (Hp.mk [(pc p1 [])] [p2,x.1.length] [] 0 0 0)
def Ry (p1:Pos) (p2:Nat):(M'×Int×Bool)→Out:=fun y=>.exit 0 (St.mk (.any::.ptr 0 0::.any::.list .mv y.1 (.own 1)::.int .i64 y.2.1::(an 4 (.bool y.2.2::(an 19 [])))) (Hp.mk [(pc p1 [])] [p2,y.1.length] [] 0 0 0))
def yR (p1:Pos) (p2:Nat) (x:(M'×Int)):aG (M'×Int) ((M'×Int×Bool)):=(bif decide (x.2≥0) then (bif (fC p1 x.2).2.2 then (aG.go (x.1++[Mv.mk (wr .i8 (fC p1 x.2).1) (wr .i8 (fC p1 x.2).2.1) 0 0 true],wr .i64 (x.2-1))) else (aG.go (x.1,wr .i64 (x.2-1)))) else (aG.out ((x.1,x.2,decide (x.2≥0)))))
def rK (p1:Pos) (p2:Nat) (x:(M'×Int)):Bool:=(bif decide (x.2≥0) then (lN (p1) (x.2)&&(bif (fC p1 x.2).2.2 then (x.1.length==x.1.length&&decide (x.1.length+1≤1073741824)&&true) else true)) else true)
def uE (p1:Pos) (p2:Nat) (x:(M'×Int)):Option ((M'×Int×Bool)):=cO (fun x=>bif rK p1 p2 x then yR p1 p2 x else .bad) many x
abbrev SE {α:Type} (k:Pos→Nat→(M'×Int)→α) (s:St):α:=wP s 0 fun q0=>k q0 (tK s 0) ((tL (ET.mv) (tT s 3)),(tI (tT s 4)))
theorem XD (p1:Pos) (p2:Nat) (x:(M'×Int)) (r:(M'×Int×Bool)) (h:uE p1 p2 x=some r):ay Pz (aT Pz 54 3) (RU p1 p2 x) (Ry p1 p2 r):=smq (m:=12) (fn:=54) Wf (SE fun _ _ x=>some x) (fun o=>match o with | .exit 0 s=>some ((tL ET.mv (tT s 3)),(tI (tT s 4)),(tB (tT s 9))) | _=>none) many x r h
def QE (b:Code) (s:St):Tr Out:=SE (fun p1 p2 x=>lq b (aT Pz 54 3) s (RU p1 p2 x) (uE p1 p2 x) (Ry p1 p2)) s
theorem VZ:∀ b,aM Pz b (QE b):=fun _ _ _ h=>bK (XD _ _ _) h
def B54:aw:=bO Pz K54 [(112,Us)] [(54,3,QE)] []
theorem akb:aW B54:=aj ak ⟨XS,trivial⟩ ⟨VZ,trivial⟩ trivial
def KN (a:Pos):M':=(((uE a 0 ([],1)).getD default).1)
def BS (a:Pos):Bool:=((uE a 0 ([],1)).isSome&&true)
theorem P54 (a:Pos) (h:BS a=true):PS Pz 54 [Pos.av a] ((dL .mv).res (KN a)):=pq14 akb h
def G54:GT:=g1 aY (fun a=>cp (BS a) ((dL .mv).res (KN a)))
theorem s54:Sound Pz 54 G54:=aH fun a=>aC (P54 a)
end Kz
end
noncomputable section
namespace Kz
open Go Go.RowKit
theorem scan {R:Type} {bad:Nat→Bool} {lo hi:Nat} {x:Int} {ok:Int→Bool} {st:Int→aG Int R} {isl:R→Bool} (hx:x=(lo:Int)) (hl:lo≤hi+1) (hh:hi<1000)
  (hok:∀ n:Nat,lo≤n→n≤hi+1→ok (n:Int)=true)
  (h1:∀ n:Nat,lo≤n→n≤hi→(bad n=true→∃ r,st (n:Int)=.out r∧isl r=true)∧(bad n=false→st (n:Int)=.go ((n:Int)+1)))
  (h2:∃ r,st ((hi:Int)+1)=.out r∧isl r=false) :
  ∃ r,cO (fun x=>bif ok x then st x else .bad) many x=some r∧(isl r=false ↔ ∀ s:Nat,lo≤s→s≤hi→bad s=false):=by
 refine aU (I:=fun x=>∃ n:Nat,x=(n:Int)∧lo≤n∧n≤hi+1∧∀ s,lo≤s→s<n→bad s=false) (μ:=fun x=>((hi:Int)+1-x).toNat) ?_ _ ⟨lo,hx,Nat.le_refl _,hl,fun s a b=>by omega⟩ (by omega)
 rintro _ ⟨n,rfl,a1,a2,a3⟩
 refine ⟨hok n a1 a2,?_⟩
 by_cases hn:n≤hi
 ·obtain ⟨b1,b2⟩:=h1 n a1 hn
  cases hb:bad n with
  | true =>
   obtain ⟨r,e,hr⟩:=b1 hb
   rw [e]
   show (isl r=false ↔ ∀ s:Nat,lo≤s→s≤hi→bad s=false)
   rw [hr]
   exact ⟨fun h=>(by cases h),fun h=>(by rw [h n a1 hn] at hb;cases hb)⟩
  | false =>
   rw [b2 hb]
   refine ⟨⟨n+1,by omega,by omega,by omega,fun s c1 c2=>?_⟩,by dsimp only;omega⟩
   by_cases e:s=n
   ·rw [e];exact hb
   ·exact a3 s c1 (by omega)
 ·have e:n=hi+1:=by omega
  subst e
  obtain ⟨r,e,hr⟩:=h2
  rw [show ((hi+1:Nat):Int)=(hi:Int)+1 by omega,e]
  show (isl r=false ↔ ∀ s:Nat,lo≤s→s≤hi→bad s=false)
  rw [hr]
  exact ⟨fun _ s c1 c2=>a3 s c1 (by omega),fun _=>rfl⟩
theorem nf {b:Bool}:(!b)=false ↔ b=true:=by cases b<;>simp
theorem wB (x:BitVec 64) {k:Nat} (hk:k<64):(x >>> k&&&1#64==0#64)=!x.getLsbD k:=by
 have h:(x >>> k&&&1#64).toNat=(x.getLsbD k).toNat:=by
  rw [BitVec.toNat_and,BitVec.toNat_ushiftRight,Nat.shiftRight_eq_div_pow,show (1#64).toNat=2 ^ 1-1 from rfl,Nat.and_two_pow_sub_one_eq_mod,BitVec.getLsbD,Nat.testBit_eq_decide_div_mod_eq]
  have:=Nat.mod_two_eq_zero_or_one (x.toNat / 2 ^ k)
  rcases this with h | h
  ·rw [show (2:Nat) ^ 1=2 from rfl,h];rfl
  ·rw [show (2:Nat) ^ 1=2 from rfl,h];rfl
 cases hb:x.getLsbD k with
 | true =>
  rw [hb] at h
  have:x >>> k&&&1#64=1#64:=BitVec.eq_of_toNat_eq h
  rw [this];rfl
 | false =>
  rw [hb] at h
  have:x >>> k&&&1#64=0#64:=BitVec.eq_of_toNat_eq h
  rw [this];rfl
theorem ob (s a b:Int):fQ s a b=true ↔ (a≤s∧s≤b)∨(b≤s∧s≤a):=by
 have e:fQ s a b=(decide (s≥a)&&decide (s≤b) || decide (s≥b)&&decide (s≤a)):=by
  unfold fQ
  cases decide (s≥a)<;>cases decide (s≤b)<;>cases decide (s≥b)<;>cases decide (s≤a)<;>rfl
 rw [e]
 simp only [Bool.or_eq_true,E',decide_eq_true_eq,ge_iff_le]
theorem HJ {l:List Int} {i:Nat} (hi:i<l.length) (j:Nat) (v:Int):(l.set i v).getD j 0=if i=j then v else l.getD j 0:=by
 rw [List.getD_eq_getElem?_getD,List.getD_eq_getElem?_getD,List.getElem?_set]
 split
 ·rename_i e
  subst e
  rfl
 ·rfl
def off (p:Pos) (k r:Int):Pos:=Pos.mk p.variant ((p.ae.set (scale 1 k).toNat 0).set (scale 1 r).toNat 0) p.ab p.af p.aa p.ai p.ah p.ag p.half p.full
theorem Vf {p:Pos} (hp:aA p) (k r:Int):aA (off p k r):=by
 refine ⟨hp.v0,hp.v1,by simp [off,hp.bl],fun x hx=>?_,hp.kl,hp.k0,hp.t0,hp.t1,hp.rl,hp.r0,hp.p0,hp.p1,hp.cl,hp.c0,hp.h0,hp.f0⟩
 rcases List.mem_or_eq_of_mem_set hx with hx | rfl
 ·rcases List.mem_or_eq_of_mem_set hx with hx | rfl
  ·exact hp.b0 _ hx
  ·omega
 ·omega
theorem Wa {p:Pos} (hp:aA p) {k r:Nat} (hk:k<64) (hr:r<64) (s:Nat):(off p k r).ae.getD s 0=if r=s then 0 else if k=s then 0 else p.ae.getD s 0:=by
 have e1:(scale 1 (k:Int)).toNat=k:=by unfold scale;simp
 have e2:(scale 1 (r:Int)).toNat=r:=by unfold scale;simp
 show ((p.ae.set (scale 1 (k:Int)).toNat 0).set (scale 1 (r:Int)).toNat 0).getD s 0=_
 rw [e1,e2,HJ (by simp [hp.bl,hr]),HJ (by simp [hp.bl,hk])]
theorem Vt {p:Pos} (hp:aA p) {k r:Nat} (hk:k<64) (hr:r<64) {o:Int} (h1:dn o 6 (p.ae.getD k 0)=false) (h2:dn o 6 (p.ae.getD r 0)=false) (hz:dn o 6 0=false):aO (off p k r) o 6=aO p o 6:=by
 refine BitVec.eq_of_getLsbD_eq fun s hs=>?_
 rw [cf _ _ _ hs,cf _ _ _ hs,Wa hp hk hr]
 split
 ·rename_i e;rw [← e,hz,h2]
 ·split
  ·rename_i e;rw [← e,hz,h1]
  ·rfl
theorem vX {q:Pos} {o:Int} {k:Nat} (hk:k<64) {n:Nat} (hn:n<64):(cZ k&&&aO q o 6).getLsbD n=(iF n k&&dn o 6 (q.ae.getD n 0)):=by
 obtain ⟨_,f6,_⟩:=oV ⟨n,hn⟩ ⟨k,hk⟩
 obtain ⟨_,y6,_⟩:=xw ⟨n,hn⟩ ⟨k,hk⟩
 simp only at f6 y6
 rw [BitVec.getLsbD_and,cf _ _ _ hn,← y6,← f6]
 have:cm 6 0 n k false=iF n k:=by
  have h:∀ a b:Fin 64,cm 6 0 a.val b.val false=iF a.val b.val:=by decide +kernel
  exact h ⟨n,hn⟩ ⟨k,hk⟩
 rw [this]
noncomputable section
variable {q:Pos} (hq:aA q) (ht:q.aa=0∨q.aa=1)
include hq ht
theorem abt {s:Nat} (hs:s<64):∃ r,mI s q 0=some r∧bI r=(q.variant==3&&(cZ s&&&aO q (1-q.aa) 6 != 0#64)):=by
 have w1:wr .u8 (1-q.aa)=1-q.aa:=ni (by omega) (by omega)
 cases hv:q.variant==3 with
 | false =>
  have e:cO (fun x=>bif jz s q x then ku s q x else .bad) 1 0=some (.inr (0,false)):=by
   rw [cO]
   have:(bif jz s q 0 then ku s q 0 else .bad)=.out (.inr (0,false)):=by
    unfold jz ku
    rw [hv]
    rfl
   rw [this]
  exact ⟨_,jC _ many _ _ (by unfold many;omega) e,rfl⟩
 | true =>
  obtain ⟨r,e,hr⟩:=scan (bad:=fun n=>iF n s&&dn (1-q.aa) 6 (q.ae.getD n 0)) (lo:=0) (hi:=63) (x:=0) (ok:=jz s q) (st:=ku s q) (isl:=bI) rfl (by omega) (by omega) (fun n _ a2=>by
    unfold jz
    rw [hv,w1]
    refine ar (fun hc=>?_) fun _=>rfl
    have hc:(n:Int)<64:=by simpa using hc
    rw [(ky hq (c:=1-q.aa) (k:=6) (by omega) (by omega) (by omega) (show n<64 by omega)).1]
    rfl) (fun n _ a2=>by
    obtain ⟨e1,e2⟩:=ky hq (c:=1-q.aa) (k:=6) (by omega) (by omega) (by omega) (show n<64 by omega)
    unfold ku
    rw [hv,w1,e2,aF (n:=(n:Int)+1) (by omega) (by omega),decide_eq_true (show (n:Int)<64 by omega)]
    cases iF n s<;>cases dn (1-q.aa) 6 (q.ae.getD n 0)<;>exact ⟨fun h=>by first | (cases h;done) | exact ⟨_,rfl,rfl⟩,fun h=>by first | (cases h;done) | rfl⟩)
    ⟨_,by unfold ku;rw [decide_eq_false (show ¬ (((63:Nat):Int)+1<64) by omega)];rfl,rfl⟩
  refine ⟨r,e,?_⟩
  rw [Bool.true_and]
  cases hz:(cZ s&&&aO q (1-q.aa) 6 != 0#64) with
  | false =>
   refine hr.2 fun n _ a2=>?_
   have hz:cZ s&&&aO q (1-q.aa) 6=0#64:=by simpa using hz
   rw [← vX hs (show n<64 by omega),hz]
   simp
  | true =>
   cases hl:bI r with
   | true=>rfl
   | false =>
    have hr:=hr.1 hl
    have:cZ s&&&aO q (1-q.aa) 6=0#64:=BitVec.eq_of_getLsbD_eq fun j hj=>by
     rw [vX hs hj]
     have:=hr j (by omega) (by omega)
     rw [this]
     simp
    rw [this] at hz
    cases hz
theorem Dw {s:Nat} (hs:s<64):sj q s=true∧sk q s=((q.variant==3&&(cZ s&&&aO q (1-q.aa) 6 != 0#64)) || (oP q s (1-q.aa)==0#64)):=by
 have w1:wr .u8 (1-q.aa)=1-q.aa:=ni (by omega) (by omega)
 obtain ⟨o1,o2⟩:=JF hq ht hs (c:=1-q.aa) (by omega)
 obtain ⟨l1,l2⟩:=aK (abt hq ht hs)
 unfold sj sk
 rw [l1,l2,w1,o1,o2]
 cases (q.variant==3&&(cZ s&&&aO q (1-q.aa) 6 != 0#64))<;>exact ⟨rfl,rfl⟩
end
theorem F5 (p1:Pos) (p2:List Int) (p3:Pos) (p4 p5:BitVec 64) {p6 p7 x:Int} {lo hi:Nat} (hx:x=lo) (hm:(if p7>p6 then p7 else p6)=(hi:Int)) (hl:lo≤hi+1) (hh:hi<64):∃ r,dH p1 p2 p3 p4 p5 p6 p7 x=some r∧(bI r=false ↔ ∀ s:Nat,lo≤s→s≤hi→p4.getLsbD s=false):=by
 refine scan (bad:=fun s=>p4.getLsbD s) hx hl (by omega) (fun _ _ _=>rfl) (fun n a1 a2=>?_) ?_
 ·unfold yh
  rw [hm,decide_eq_true (show (n:Int)≤hi by omega),cP (by omega) (by omega),show ((n:Int)).toNat=n by omega,wB _ (by omega),Bool.not_not,aF (by omega) (by omega)]
  exact ⟨fun h=>by rw [h];exact ⟨_,rfl,rfl⟩,fun h=>by rw [h];rfl⟩
 ·unfold yh
  rw [hm,decide_eq_false (by omega)]
  exact ⟨_,rfl,rfl⟩
theorem FM (p1:Pos) (p2:List Int) (p3:Pos) (p4 p5:BitVec 64) (p6 p7:Int) {p8 p9 x:Int} {lo hi:Nat} (hx:x=lo) (hm:(if p9>p8 then p9 else p8)=(hi:Int)) (hl:lo≤hi+1) (hh:hi<64):∃ r,dE p1 p2 p3 p4 p5 p6 p7 p8 p9 x=some r∧(bI r=false ↔ ∀ s:Nat,lo≤s→s≤hi→p4.getLsbD s=false):=by
 refine scan (bad:=fun s=>p4.getLsbD s) hx hl (by omega) (fun _ _ _=>rfl) (fun n a1 a2=>?_) ?_
 ·unfold yA
  rw [hm,decide_eq_true (show (n:Int)≤hi by omega),cP (by omega) (by omega),show ((n:Int)).toNat=n by omega,wB _ (by omega),Bool.not_not,aF (by omega) (by omega)]
  exact ⟨fun h=>by rw [h];exact ⟨_,rfl,rfl⟩,fun h=>by rw [h];rfl⟩
 ·unfold yA
  rw [hm,decide_eq_false (by omega)]
  exact ⟨_,rfl,rfl⟩
theorem Gw (p1:Pos) (p2:List Int) (p3:Pos) (p4 p5:BitVec 64) (p6 p7 p8 p9:Int) {p10 p11 x:Int} {lo hi:Nat} (hx:x=lo) (hm:(if p11>p10 then p11 else p10)=(hi:Int)) (hl:lo≤hi+1) (hh:hi<64):∃ r,dD p1 p2 p3 p4 p5 p6 p7 p8 p9 p10 p11 x=some r∧(bI r=false ↔ ∀ s:Nat,lo≤s→s≤hi→((p1.variant==3&&(cZ s&&&p5 != 0#64)) || (oP p3 s (wr .u8 (1-p1.aa))==0#64))=true):=by
 have h:=scan (R:=Int ⊕ (Int×Bool)) (isl:=bI) (ok:=nX p1 p2 p3 p4 p5 p6 p7 p8 p9 p10 p11) (st:=rF p1 p2 p3 p4 p5 p6 p7 p8 p9 p10 p11) (bad:=fun s => !((p1.variant==3&&(cZ s&&&p5 != 0#64)) || (oP p3 s (wr .u8 (1-p1.aa))==0#64))) hx hl (by omega) (fun n _ _=>by
   unfold nX
   repeat' (first | with_reducible rfl | with_reducible exact t199 _ | with_reducible exact t205 _ _ _ | refine ao ?_ (fun _=>?_) | refine ar (fun _=>?_) (fun _=>?_))) (fun n a1 a2=>by
   unfold rF BM
   rw [hm,decide_eq_true (show (n:Int)≤hi by omega),aF (by omega) (by omega),show (oP p3 n (wr .u8 (1-p1.aa)) != 0#64)=!(oP p3 n (wr .u8 (1-p1.aa))==0#64) from rfl]
   cases p1.variant==3<;>cases (cZ n&&&p5 != 0#64)<;>cases (oP p3 n (wr .u8 (1-p1.aa))==0#64)<;>exact ⟨fun h=>by first | (cases h;done) | exact ⟨_,rfl,rfl⟩,fun h=>by first | (cases h;done) | rfl⟩)
   (by
    unfold rF
    rw [hm,decide_eq_false (by omega)]
    exact ⟨_,rfl,rfl⟩)
 obtain ⟨r,e,hr⟩:=h
 refine ⟨r,e,hr.trans ⟨fun h s a b=>?_,fun h s a b=>?_⟩⟩
 ·exact nf.1 (h s a b)
 ·exact nf.2 (h s a b)
theorem JV {q:Pos} (hq:aA q) (ht:q.aa=0∨q.aa=1) (p6:Pos) {h:Nat} (hh:h≤56) {k r x y:Int} (hk:0≤x∧x≤7) (hy:0≤y∧y≤7) :
  ∃ o,cD h k r x y p6 q h=some o∧(bI o=false ↔ ∀ s:Nat,h≤s→s≤h+7→((fQ s k (h+x) || fQ s r (h+y))&&bg (q.ae.getD s 0) != 0 || fQ s k (h+x)&&!sk q s)=false):=by
 refine scan (bad:=fun s=>((fQ s k (h+x) || fQ s r (h+y))&&bg (q.ae.getD s 0) != 0 || fQ s k (h+x)&&!sk q s)) rfl (by omega) (by omega) (fun n a1 a2=>?_) (fun n a1 a2=>?_) ?_
 ·unfold AH
  refine ar (fun hc=>?_) fun _=>rfl
  have hc:(n:Int)<h+8:=by
   rw [aF (by omega) (by omega)] at hc
   simpa using hc
  have k1:(decide (0≤(n:Int))&&decide ((n:Int)<Int.ofNat 64))=true:=by simp;omega
  rw [(Dw hq ht (show n<64 by omega)).1,k1]
  repeat' (first | with_reducible rfl | refine ao ?_ (fun _=>?_) | refine ar (fun _=>?_) (fun _=>?_))
 ·have hsc:(scale 1 (n:Int)).toNat=n:=by unfold scale;simp
  unfold yi
  rw [aF (n:=(h:Int)+8) (by omega) (by omega),aF (n:=(h:Int)+x) (by omega) (by omega),aF (n:=(h:Int)+y) (by omega) (by omega),aF (n:=(n:Int)+1) (by omega) (by omega),hsc,decide_eq_true (show (n:Int)<h+8 by omega)]
  cases fQ n k (h+x)<;>cases fQ n r (h+y)<;>cases (bg (q.ae.getD n 0) != 0)<;>cases sk q n<;>exact ⟨fun h=>by first | (cases h;done) | exact ⟨_,rfl,rfl⟩,fun h=>by first | (cases h;done) | rfl⟩
 ·unfold yi
  rw [aF (n:=(h:Int)+8) (by omega) (by omega),decide_eq_false (show ¬ (((h+7:Nat):Int)+1<h+8) by omega)]
  exact ⟨_,rfl,rfl⟩
theorem uX:∀ (c:Fin 2) (v:Fin 256),dn c.val 4 v.val=((v.val:Int)==8 * (c.val:Int)+4)∧(dn c.val 4 v.val=true→dn c.val 6 v.val=false∧dn (1-c.val) 6 v.val=false)∧(dn c.val 6 v.val=true→dn (1-c.val) 6 v.val=false):=by decide +kernel
theorem AD:∀ v:Fin 256,CV v.val=ue v.val:=by decide +kernel
noncomputable section
variable {p:Pos} (hp:aA p)
include hp
theorem ways {t k r x y:Nat} (ht:t≤1) (hpt:p.aa=t) (k0:56 * t≤k) (k7:k≤56 * t+7) (r0:56 * t≤r) (r7:r≤56 * t+7) (hx:x≤7) (hy:y≤7) (l:List Int)
  (h1:dn (1-p.aa) 6 (p.ae.getD k 0)=false) (h2:dn (1-p.aa) 6 (p.ae.getD r 0)=false) {gk gr m1 m2:Int} (hgk:gk=((56 * t+x:Nat):Int)) (hgr:gr=((56 * t+y:Nat):Int)) (hm1:m1=if gk<k then gk else k) (hm2:m2=if gr<r then gr else r) :
  (cD ((56 * t:Nat):Int) k r x y p (off p k r) ((56 * t:Nat):Int)).isSome=true ∧
  bI ((cD ((56 * t:Nat):Int) k r x y p (off p k r) ((56 * t:Nat):Int)).getD default) =
   (bI ((dH p l (off p k r) (bh (off p k r)) (aO p (wr .u8 (1-p.aa)) 6) k gk m1).getD default) || (bI ((dE p l (off p k r) (bh (off p k r)) (aO p (wr .u8 (1-p.aa)) 6) k gk r gr m2).getD default) || bI ((dD p l (off p k r) (bh (off p k r)) (aO p (wr .u8 (1-p.aa)) 6) k gk r gr k gk m1).getD default))):=by
 have w1:wr .u8 (1-p.aa)=1-p.aa:=ni (by omega) (by omega)
 have hq:=Vf hp (k:Int) (r:Int)
 have hqt:(off p k r).aa=0∨(off p k r).aa=1:=by show p.aa=0∨p.aa=1;omega
 have hz:dn (1-p.aa) 6 0=false:=by
  have:p.aa=0∨p.aa=1:=by omega
  rcases this with h | h<;>rw [h]<;>decide +kernel
 have hof:=Vt hp (k:=k) (r:=r) (by omega) (by omega) h1 h2 hz
 obtain ⟨s0,a0⟩:=aK (JV hq hqt p (h:=56 * t) (by omega) (k:=k) (r:=r) (x:=x) (y:=y) (by omega) (by omega))
 obtain ⟨_,a1⟩:=aK (F5 p l (off p k r) (bh (off p k r)) (aO p (wr .u8 (1-p.aa)) 6) (p6:=k) (p7:=gk) (x:=m1) (lo:=min (56 * t+x) k) (hi:=max (56 * t+x) k) (by rw [hm1];split<;>omega) (by split<;>omega) (by omega) (by omega))
 obtain ⟨_,a2⟩:=aK (FM p l (off p k r) (bh (off p k r)) (aO p (wr .u8 (1-p.aa)) 6) k gk (p8:=r) (p9:=gr) (x:=m2) (lo:=min (56 * t+y) r) (hi:=max (56 * t+y) r) (by rw [hm2];split<;>omega) (by split<;>omega) (by omega) (by omega))
 obtain ⟨_,a3⟩:=aK (Gw p l (off p k r) (bh (off p k r)) (aO p (wr .u8 (1-p.aa)) 6) k gk r gr (p10:=k) (p11:=gk) (x:=m1) (lo:=min (56 * t+x) k) (hi:=max (56 * t+x) k) (by rw [hm1];split<;>omega) (by split<;>omega) (by omega) (by omega))
 refine ⟨s0,?_⟩
 have key:(bI ((cD ((56 * t:Nat):Int) k r x y p (off p k r) ((56 * t:Nat):Int)).getD default)=false) ↔
   ((bI ((dH p l (off p k r) (bh (off p k r)) (aO p (wr .u8 (1-p.aa)) 6) k gk m1).getD default)=false)∧(bI ((dE p l (off p k r) (bh (off p k r)) (aO p (wr .u8 (1-p.aa)) 6) k gk r gr m2).getD default)=false)∧(bI ((dD p l (off p k r) (bh (off p k r)) (aO p (wr .u8 (1-p.aa)) 6) k gk r gr k gk m1).getD default)=false)):=by
  rw [a0,a1,a2,a3]
  have safe:∀ s:Nat,s<64→((p.variant==3&&(cZ s&&&aO p (wr .u8 (1-p.aa)) 6 != 0#64)) || (oP (off p k r) s (wr .u8 (1-p.aa))==0#64))=sk (off p k r) s:=fun s hs=>by
   rw [(Dw hq hqt hs).2,w1,show (off p k r).aa=p.aa from rfl,hof]
   rfl
  constructor
  ·intro h
   refine ⟨fun s b1 b2=>?_,fun s b1 b2=>?_,fun s b1 b2=>?_⟩
   ·have hs:=h s (by omega) (by omega)
    have w:fQ s k (((56 * t:Nat):Int)+x)=true:=(ob _ _ _).2 (by omega)
    rw [w] at hs
    simp only [Bool.true_or,Bool.true_and,Bool.or_eq_false_iff,bne_eq_false_iff_eq] at hs
    exact (Ap hq (by omega)).2 hs.1
   ·have hs:=h s (by omega) (by omega)
    have w:fQ s r (((56 * t:Nat):Int)+y)=true:=(ob _ _ _).2 (by omega)
    rw [w] at hs
    simp only [Bool.or_true,Bool.true_and,Bool.or_eq_false_iff,bne_eq_false_iff_eq] at hs
    exact (Ap hq (by omega)).2 hs.1
   ·have hs:=h s (by omega) (by omega)
    have w:fQ s k (((56 * t:Nat):Int)+x)=true:=(ob _ _ _).2 (by omega)
    rw [w] at hs
    simp only [Bool.true_or,Bool.true_and,Bool.or_eq_false_iff,Bool.not_eq_false'] at hs
    rw [safe s (by omega)]
    exact hs.2
  ·rintro ⟨c1,c2,c3⟩ s b1 b2
   cases w:fQ s k (((56 * t:Nat):Int)+x) with
   | true =>
    have hw:=(ob _ _ _).1 w
    have d1:=c1 s (by omega) (by omega)
    have d3:=c3 s (by omega) (by omega)
    rw [safe s (by omega)] at d3
    rw [(Ap hq (by omega)).1 d1,d3]
    simp
   | false =>
    cases w':fQ s r (((56 * t:Nat):Int)+y) with
    | true =>
     have hw:=(ob _ _ _).1 w'
     have d2:=c2 s (by omega) (by omega)
     rw [(Ap hq (by omega)).1 d2]
     simp
    | false=>simp
 revert key
 generalize bI ((cD ((56 * t:Nat):Int) k r x y p (off p k r) ((56 * t:Nat):Int)).getD default)=A
 generalize bI ((dH p l (off p k r) (bh (off p k r)) (aO p (wr .u8 (1-p.aa)) 6) k gk m1).getD default)=B
 generalize bI ((dE p l (off p k r) (bh (off p k r)) (aO p (wr .u8 (1-p.aa)) 6) k gk r gr m2).getD default)=C
 generalize bI ((dD p l (off p k r) (bh (off p k r)) (aO p (wr .u8 (1-p.aa)) 6) k gk r gr k gk m1).getD default)=D
 cases A<;>cases B<;>cases C<;>cases D<;>simp
theorem J1 {c:Int} (hc:c=0∨c=1) {t k:Nat} (ht:t≤1) (hpt:p.aa=t) (hv:ue p.variant=true) (hk:aZ p p.aa 6=k) (hkt:dn p.aa 6 (p.ae.getD k 0)=true) (k0:56 * t≤k) (k7:k≤56 * t+7) :
  lN p c=true∧∃ r:Int,fC p c=(bif (c9 p k c).2 then ((k:Int),r,true) else (0,0,false))∧((c9 p k c).2=true→(c9 p k c).1=⟨wr .i8 k,wr .i8 r,0,0,true⟩):=by
 have htt:p.aa=0∨p.aa=1:=by omega
 obtain ⟨o129,e129⟩:=o9 hp (c:=p.aa) (k:=6) htt (by omega) (by omega)
 rw [hk] at e129
 have hvar:CV p.variant=true:=by
  have v0:=hp.v0
  have v1:=hp.v1
  obtain ⟨n,hn⟩:=Int.eq_ofNat_of_zero_le v0
  have:=AD ⟨n,by omega⟩
  rw [hn] at hv ⊢
  exact this.trans hv
 have hf:=gu hp.r0 (d:=0) (by omega) (scale 2 p.aa+scale 1 c).toNat
 obtain ⟨x,y,hx,hy,n1,n2,g1,g2⟩:∃ x y:Nat,x≤7∧y≤7∧(dF c).1=x∧(dF c).2=y∧(List.take 2 (List.drop (c.toNat * 2) (li [6,5,2,3]))).getD 0 0=x∧(List.take 2 (List.drop (c.toNat * 2) (li [6,5,2,3]))).getD 1 0=y:=by
  rcases hc with rfl | rfl
  ·exact ⟨6,5,by omega,by omega,rfl,rfl,rfl,rfl⟩
  ·exact ⟨2,3,by omega,by omega,rfl,rfl,rfl,rfl⟩
 have d1:decide (p.aa>1)=false:=by simp;omega
 have wt:wr .i64 p.aa=t:=by rw [aF (by omega) (by omega)];exact hpt
 have w56:wr .i64 (56 * (t:Int))=((56 * t:Nat):Int):=by rw [aF (by omega) (by omega)];omega
 have w63:wr .i64 (((56 * t:Nat):Int)+7)=((56 * t+7:Nat):Int):=by rw [aF (by omega) (by omega)];omega
 have n110:cg p.aa=((56 * t:Nat):Int):=by unfold cg;rw [wt,w56]
 have b1:(decide (0≤p.aa)&&decide (p.aa<Int.ofNat 2))=true:=by simp;omega
 have b2:(decide (0≤c)&&decide (c<Int.ofNat 2))=true:=by simp;omega
 have c1:decide ((k:Int)<((56 * t:Nat):Int))=false:=by simp;omega
 have c2:decide ((k:Int)>((56 * t+7:Nat):Int))=false:=by simp;omega
 unfold lN fC
 rw [d1,hvar,o129,e129,wt,w56,w63,b1,b2,c1,c2]
 generalize hF:p.ai.getD (scale 2 p.aa+scale 1 c).toNat 0=f at hf
 rw [aF (n:=f) (by omega) (by omega)]
 simp only [cond_false,Bool.not_true,Bool.true_and]
 have no:(bW p k c).2=false→c9 p k c=(⟨0,0,0,0,false⟩,false):=fun h=>by unfold c9;rw [h];rfl
 have none:c9 p k c=(⟨0,0,0,0,false⟩,false)→∃ r:Int,((0:Int),(0:Int),false)=(bif (c9 p k c).2 then ((k:Int),r,true) else (0,0,false))∧((c9 p k c).2=true→(c9 p k c).1=⟨wr .i8 k,wr .i8 r,0,0,true⟩):=fun h=>⟨0,by rw [h];exact ⟨rfl,fun h=>by cases h⟩⟩
 by_cases f0:f<0
 ·rw [decide_eq_true f0]
  refine ⟨rfl,none (no ?_)⟩
  unfold bW
  rw [hF,aF (n:=f) (by omega) (by omega),decide_eq_true f0]
  rfl
 by_cases f7:f>7
 ·rw [decide_eq_false f0,decide_eq_true f7]
  refine ⟨rfl,none (no ?_)⟩
  unfold bW
  rw [hF,aF (n:=f) (by omega) (by omega),decide_eq_false f0,decide_eq_true f7]
  rfl
 obtain ⟨n,rfl⟩:=Int.eq_ofNat_of_zero_le (show 0≤f by omega)
 have wr_:wr .i64 (((56 * t:Nat):Int)+(n:Int))=((56 * t+n:Nat):Int):=by rw [aF (by omega) (by omega)];omega
 rw [decide_eq_false f0,decide_eq_false f7,wr_]
 simp only [cond_false]
 obtain ⟨r,hr⟩:∃ r,r=56 * t+n:=⟨_,rfl⟩
 rw [← hr] at wr_ ⊢
 obtain ⟨o172,e172⟩:=ky hp (c:=p.aa) (k:=4) htt (by omega) (by omega) (show r<64 by omega)
 obtain ⟨v0,v1⟩:=eC hp r
 have hv4:dn p.aa 4 (p.ae.getD r 0)=(p.ae.getD r 0==wr .u8 (wr .u8 (8 * p.aa)+4))∧(dn p.aa 4 (p.ae.getD r 0)=true→dn p.aa 6 (p.ae.getD r 0)=false∧dn (1-p.aa) 6 (p.ae.getD r 0)=false):=by
  obtain ⟨m,hm⟩:=Int.eq_ofNat_of_zero_le v0
  have h:=uX ⟨t,by omega⟩ ⟨m,by omega⟩
  simp only at h
  rw [hm,hpt,ni (n:=8 * (t:Int)) (by omega) (by omega),ni (n:=8 * (t:Int)+4) (by omega) (by omega)]
  exact ⟨h.1,h.2.1⟩
 have hk6:dn (1-p.aa) 6 (p.ae.getD k 0)=false:=by
  obtain ⟨u0,u1⟩:=eC hp k
  obtain ⟨m,hm⟩:=Int.eq_ofNat_of_zero_le u0
  have h:=uX ⟨t,by omega⟩ ⟨m,by omega⟩
  simp only at h
  rw [hm,hpt] at hkt ⊢
  exact h.2.2 hkt
 have e160:bW p k c=(bif dn p.aa 4 (p.ae.getD r 0) then (bif (decide ((r:Int)>k)==(c==0)) then ((r:Int),(r:Int) != k) else ((r:Int),false)) else ((r:Int),false)):=by
  have hsc:(scale 1 (r:Int)).toNat=r:=by unfold scale;simp
  unfold bW
  rw [hF,aF (n:=(n:Int)) (by omega) (by omega),decide_eq_false f0,decide_eq_false f7,n110,wr_,hsc,hv4.1]
  rfl
 rw [o172,e172]
 cases h4:dn p.aa 4 (p.ae.getD r 0) with
 | false =>
  rw [h4] at e160
  exact ⟨rfl,none (no (by rw [e160];rfl))⟩
 | true =>
  rw [h4] at e160
  obtain ⟨h46,h46'⟩:=hv4.2 h4
  have hne:r≠k:=fun e=>by rw [e,hkt] at h46;cases h46
  simp only [cond_true,Bool.not_true,cond_false,Bool.true_and] at e160 ⊢
  have hL:=ways hp ht hpt k0 k7 (r:=r) (x:=x) (y:=y) (by omega) (by omega) hx hy (List.take 2 (List.drop (c.toNat * 2) (li [6,5,2,3]))) hk6 h46' (gk:=((56 * t+x:Nat):Int)) (gr:=((56 * t+y:Nat):Int)) rfl rfl rfl rfl
  have fin:bW p k c=((r:Int),true)→∀ (A:Bool),A=bI ((cD ((56 * t:Nat):Int) k r x y p (off p k r) ((56 * t:Nat):Int)).getD default)→∃ r':Int,(bif A then ((0:Int),(0:Int),false) else ((k:Int),(r:Int),true))=(bif (c9 p k c).2 then ((k:Int),r',true) else (0,0,false))∧((c9 p k c).2=true→(c9 p k c).1=⟨wr .i8 k,wr .i8 r',0,0,true⟩):=by
   intro e A hA
   refine ⟨r,?_⟩
   rw [hL.2] at hA
   have wg:∀ z:Nat,z≤7→wr .i64 (((56 * t:Nat):Int)+(z:Int))=((56 * t+z:Nat):Int):=fun z hz=>by rw [aF (by omega) (by omega)];omega
   unfold c9
   rw [e,n110,g1,g2,wg x hx,wg y hy]
   rw [hA]
   show (bif _ || (_ || _) then _ else _)=_∧_
   simp only [Bool.not_true,cond_false]
   change (bif (bI ((dH p _ (off p k r) (bh (off p k r)) _ k _ _).getD default) || (bI ((dE p _ (off p k r) (bh (off p k r)) _ k _ r _ _).getD default) || bI ((dD p _ (off p k r) (bh (off p k r)) _ k _ r _ k _ _).getD default))) then _ else _)=(bif (bif bI ((dH p _ (off p k r) (bh (off p k r)) _ k _ _).getD default) then _ else bif bI ((dE p _ (off p k r) (bh (off p k r)) _ k _ r _ _).getD default) then _ else bif bI ((dD p _ (off p k r) (bh (off p k r)) _ k _ r _ k _ _).getD default) then _ else _:Mv×Bool).2 then _ else _)∧((bif bI ((dH p _ (off p k r) (bh (off p k r)) _ k _ _).getD default) then _ else bif bI ((dE p _ (off p k r) (bh (off p k r)) _ k _ r _ _).getD default) then _ else bif bI ((dD p _ (off p k r) (bh (off p k r)) _ k _ r _ k _ _).getD default) then _ else _:Mv×Bool).2=true→(bif bI ((dH p _ (off p k r) (bh (off p k r)) _ k _ _).getD default) then _ else bif bI ((dE p _ (off p k r) (bh (off p k r)) _ k _ r _ _).getD default) then _ else bif bI ((dD p _ (off p k r) (bh (off p k r)) _ k _ r _ k _ _).getD default) then _ else _:Mv×Bool).1=_)
   generalize bI ((dH p _ (off p k r) (bh (off p k r)) _ k _ _).getD default)=B
   generalize bI ((dE p _ (off p k r) (bh (off p k r)) _ k _ r _ _).getD default)=C
   generalize bI ((dD p _ (off p k r) (bh (off p k r)) _ k _ r _ k _ _).getD default)=D
   cases B<;>cases C<;>cases D<;>exact ⟨rfl,fun h=>by first | (cases h;done) | rfl⟩
  have kl:(decide (0≤(k:Int))&&decide ((k:Int)<Int.ofNat 64))=true:=by simp;omega
  have rl:(decide (0≤(r:Int))&&decide ((r:Int)<Int.ofNat 64))=true:=by simp;omega
  have hS:=hL.1
  rw [n1,n2]
  have hPS:(cD ((56 * t:Nat):Int) k r x y p (Pos.mk p.variant ((p.ae.set (scale 1 (k:Int)).toNat 0).set (scale 1 (r:Int)).toNat 0) p.ab p.af p.aa p.ai p.ah p.ag p.half p.full) ((56 * t:Nat):Int)).isSome=true:=hS
  rcases hc with rfl | rfl
  ·by_cases hlt:(r:Int)<k
   ·rw [decide_eq_true hlt]
    refine ⟨rfl,none (no ?_)⟩
    rw [e160,decide_eq_false (by omega)]
    rfl
   ·rw [decide_eq_false hlt,kl,rl,hPS]
    simp only [show ((0:Int)==0)=true from rfl,show ((0:Int)==1)=false from rfl,cond_true,cond_false,Bool.true_and]
    refine ⟨?_,fin ?_ _ rfl⟩
    ·exact ar (fun _=>rfl) fun _=>rfl
    ·rw [e160,decide_eq_true (by omega),show ((r:Int) != k)=true by simp;omega]
     rfl
  ·by_cases hgt:(r:Int)>k
   ·rw [decide_eq_true hgt]
    refine ⟨rfl,none (no ?_)⟩
    rw [e160,decide_eq_true hgt]
    rfl
   ·rw [decide_eq_false hgt,kl,rl,hPS]
    simp only [show ((1:Int)==0)=false from rfl,show ((1:Int)==1)=true from rfl,cond_true,cond_false,Bool.true_and]
    refine ⟨?_,fin ?_ _ rfl⟩
    ·exact ar (fun _=>rfl) fun _=>rfl
    ·rw [e160,decide_eq_false hgt,show ((r:Int) != k)=true by simp;omega]
     rfl
omit hp in
theorem Iy (h:∀ c:Int,c=0∨c=1→lN p c=true):BS p=true∧KN p=(bif (fC p 1).2.2 then [⟨wr .i8 (fC p 1).1,wr .i8 (fC p 1).2.1,0,0,true⟩] else [])++(bif (fC p 0).2.2 then [⟨wr .i8 (fC p 0).1,wr .i8 (fC p 0).2.1,0,0,true⟩] else []):=by
 have h1:=h 1 (.inr rfl)
 have h0:=h 0 (.inl rfl)
 have e:∀ l:M',l.length≤5→∀ c:Int,c=0∨c=1→(bif rK p 0 (l,c) then yR p 0 (l,c) else .bad)=.go (l++(bif (fC p c).2.2 then [⟨wr .i8 (fC p c).1,wr .i8 (fC p c).2.1,0,0,true⟩] else []),c-1):=by
  intro l hl c hc
  unfold rK yR
  dsimp only
  rw [h c hc,decide_eq_true (show c≥0 by omega),aF (n:=c-1) (by omega) (by omega)]
  have:decide (l.length+1≤1073741824)=true:=decide_eq_true (by omega)
  rw [this]
  cases (fC p c).2.2<;>simp
 have hlp:cO (fun x=>bif rK p 0 x then yR p 0 x else .bad) 3 ([],1)=some (([]++(bif (fC p 1).2.2 then [⟨wr .i8 (fC p 1).1,wr .i8 (fC p 1).2.1,0,0,true⟩] else []))++(bif (fC p 0).2.2 then [⟨wr .i8 (fC p 0).1,wr .i8 (fC p 0).2.1,0,0,true⟩] else []),-1,false):=by
  rw [cO]
  try dsimp only
  rw [e [] (by simp) 1 (.inr rfl)]
  try dsimp only
  rw [cO]
  try dsimp only
  rw [show (1:Int)-1=0 from rfl,e _ (by cases (fC p 1).2.2<;>simp) 0 (.inl rfl)]
  rfl
 have hm:=jC 3 many _ _ (by unfold many;omega) hlp
 unfold BS KN uE
 rw [hm]
 exact ⟨rfl,by simp⟩
theorem UR:BS p=true∧KN p=dJ p:=by
 have none:(∀ c:Int,c=0∨c=1→lN p c=true∧fC p c=(0,0,false))→dJ p=[]→BS p=true∧KN p=dJ p:=fun h h5=>by
  obtain ⟨h1,h2⟩:=Iy (p:=p) fun c hc=>(h c hc).1
  refine ⟨h1,?_⟩
  rw [h2,h5,(h 0 (.inl rfl)).2,(h 1 (.inr rfl)).2]
  rfl
 have t0:=hp.t0
 by_cases ht:1<p.aa
 ·have d1:decide (p.aa>1)=true:=by simp;omega
  refine none (fun c hc=>?_) ?_
  ·unfold lN fC;rw [d1];exact ⟨rfl,rfl⟩
  ·unfold dJ;rw [d1];rfl
 have d1:decide (p.aa>1)=false:=by simp;omega
 have hvar:CV p.variant=ue p.variant:=by
  have v0:=hp.v0
  have v1:=hp.v1
  obtain ⟨n,hn⟩:=Int.eq_ofNat_of_zero_le v0
  rw [hn]
  exact AD ⟨n,by omega⟩
 cases hv:ue p.variant with
 | false =>
  refine none (fun c hc=>?_) ?_
  ·unfold lN fC;rw [d1,hvar,hv];exact ⟨rfl,rfl⟩
  ·unfold dJ;rw [d1,hv];rfl
 | true =>
  have htt:p.aa=0∨p.aa=1:=by omega
  obtain ⟨t,hpt⟩:=Int.eq_ofNat_of_zero_le t0
  have ht1:t≤1:=by omega
  obtain ⟨o129,e129⟩:=o9 hp (c:=p.aa) (k:=6) htt (by omega) (by omega)
  have wt:wr .i64 p.aa=t:=by rw [aF (by omega) (by omega)];exact hpt
  have w56:wr .i64 (56 * (t:Int))=((56 * t:Nat):Int):=by rw [aF (by omega) (by omega)];omega
  have w63:wr .i64 (((56 * t:Nat):Int)+7)=((56 * t+7:Nat):Int):=by rw [aF (by omega) (by omega)];omega
  have b1:(decide (0≤p.aa)&&decide (p.aa<Int.ofNat 2))=true:=by simp;omega
  have away:aZ p p.aa 6<56 * t∨aZ p p.aa 6>56 * t+7→∀ c:Int,c=0∨c=1→lN p c=true∧fC p c=(0,0,false):=fun h c hc=>by
   have b2:(decide (0≤c)&&decide (c<Int.ofNat 2))=true:=by simp;omega
   unfold lN fC
   rw [d1,hvar,hv,o129,e129,wt,w56,w63,b1,b2]
   rcases h with h | h
   ·rw [decide_eq_true (show aZ p p.aa 6<((56 * t:Nat):Int) by omega)]
    exact ⟨rfl,rfl⟩
   ·rw [decide_eq_false (show ¬ aZ p p.aa 6<((56 * t:Nat):Int) by omega),decide_eq_true (show aZ p p.aa 6>((56 * t+7:Nat):Int) by omega)]
    exact ⟨rfl,rfl⟩
  have n110:cg p.aa=((56 * t:Nat):Int):=by unfold cg;rw [wt,w56]
  rcases gj p p.aa 6 with ⟨a1,_⟩ | ⟨k,hk,a1,a2,_⟩
  ·refine none (away (by omega)) ?_
   unfold dJ
   rw [d1,hv,a1]
   rfl
  ·have n55:∀ b:Bool,(wr .i64 ((k:Int).tdiv 8) != wr .i64 ((((56 * t:Nat)):Int).tdiv 8))=b→b=!(decide (56 * t≤k)&&decide (k≤56 * t+7)):=fun b hb=>by
    rw [← hb,Int.tdiv_eq_ediv_of_nonneg (by omega),Int.tdiv_eq_ediv_of_nonneg (by omega),aF (by omega) (by omega),aF (by omega) (by omega),Bool.eq_iff_iff]
    simp
    omega
   have d0:decide ((k:Int)<0)=false:=by simp
   by_cases hin:56 * t≤k∧k≤56 * t+7
   ·have hb:=n55 _ rfl
    rw [decide_eq_true hin.1,decide_eq_true hin.2] at hb
    have one:∀ {c:Int},c=0∨c=1→_:=fun {c} (hc:c=0∨c=1)=>J1 hp hc ht1 hpt hv a1 a2 hin.1 hin.2
    obtain ⟨h1,h2⟩:=Iy (p:=p) fun c hc=>(one hc).1
    refine ⟨h1,?_⟩
    obtain ⟨_,r0,q0,m0⟩:=one (c:=0) (.inl rfl)
    obtain ⟨_,r1,q1,m1⟩:=one (c:=1) (.inr rfl)
    rw [h2,q0,q1]
    unfold dJ
    rw [d1,hv,a1,d0,n110,hb]
    cases h3:(c9 p k 1).2<;>cases h4:(c9 p k 0).2
    ·rfl
    ·rw [m0 h4];rfl
    ·rw [m1 h3];rfl
    ·rw [m0 h4,m1 h3];rfl
   ·refine none (away (by omega)) ?_
    have hb:=n55 _ rfl
    have:(decide (56 * t≤k)&&decide (k≤56 * t+7))=false:=by
     rw [Bool.and_eq_false_iff,decide_eq_false_iff_not,decide_eq_false_iff_not]
     omega
    rw [this] at hb
    unfold dJ
    rw [d1,hv,a1,d0,n110,hb]
    rfl
end
end Kz
end
noncomputable section
namespace Kz
open Go Go.RowKit Go.Proofs
def abM:KT:=[(158,21,[(0,[0,1]),(1,[1,5]),(2,[1,5,6]),(3,[1,5,6,12]),(4,[1,5,6]),(5,[1,5,6,20]),(6,[4]),(7,[4])])]
def UK:aw:=bO Pz abM [(95,TE)] [] []
theorem NL:aW UK:=aj ak ⟨WS,trivial⟩ trivial trivial
def Ib (p1:Int) (p2:Z') (x:(Int)):St:=St.mk (.any::.int .u8 p1::(an 3 (.list (ET.i .u8) p2 .fresh::.int .i64 x::(an 14 [])))) (Hp.mk [] [] [] 0 0 0)
def Me (p1:Int) (p2:Z'):Unit ⊕ (Int×Bool)→Out
 | (.inl (y))=>.ret (St.mk (an 4 (AV.aL true::(an 16 []))) (Hp.mk [] [] [] 0 0 0))
 | (.inr (y))=>.exit 0 (St.mk (AV.any::AV.int .u8 p1::(an 3 (AV.list (ET.i .u8) p2 Tk.fresh::AV.int .i64 y.1::(an 5 (AV.bool y.2::(an 8 [])))))) (Hp.mk [] [] [] 0 0 0))
def Fb (p1:Int) (p2:Z') (x:(Int)):aG (Int) (Unit ⊕ (Int×Bool)):=(bif decide (x<Int.ofNat p2.length) then (bif p2.getD x.toNat default==p1 then (aG.out (.inl (()))) else (aG.go (wr .i64 (x+1)))) else (aG.out (.inr ((x,decide (x<Int.ofNat p2.length))))))
def AI (p1:Int) (p2:Z') (x:(Int)):Bool:=(bif decide (x<Int.ofNat p2.length) then (decide (0≤x)&&decide (x<Int.ofNat p2.length)&&true) else true)
def mP (p1:Int) (p2:Z') (x:(Int)):Option (Unit ⊕ (Int×Bool)):=cO (fun x=>bif AI p1 p2 x then Fb p1 p2 x else .bad) many x
abbrev LV {α:Type} (k:Int→Z'→(Int)→α) (s:St):α:=k (tI (tT s 1)) (tL (ET.i .u8) (tT s 5)) ((tI (tT s 6)))
theorem Wc (p1:Int) (p2:Z') (x:(Int)) (r:Unit ⊕ (Int×Bool)) (h:mP p1 p2 x=some r):ay Pz (aT Pz 158 3) (Ib p1 p2 x) (Me p1 p2 r):=ay.vC (m:=12) (fn:=158) NL (LV fun _ _ x=>some x) (fun o=>match o with | .ret s=>some (.inl ()) | .exit 0 s=>some (.inr ((tI (tT s 6)),(tB (tT s 12)))) | _=>none) (fun r=>by cases r<;>rfl) (fun _=>by kernel_rfl) (fun _=>by kernel_rfl) (fun _=>by kernel_rfl) (fun _=>by kernel_rfl) many x r h
def K1 (b:Code) (s:St):Tr Out:=LV (fun p1 p2 x=>yX b (aT Pz 158 3) s (Ib p1 p2 x) (mP p1 p2 x) (Me p1 p2)) s
theorem MU:∀ b,aM Pz b (K1 b):=fun _ _ _ h=>dG (Wc _ _ _) h
def ajd:aw:=bO Pz abM [(95,TE)] [(158,3,K1)] []
theorem ZK:aW ajd:=aj ak ⟨WS,trivial⟩ ⟨MU,trivial⟩ trivial
def HA (a:Int) (b:Int):Bool:=(bif bI ((mP b (vK a) 0).getD default) then (true) else (false))
def zj (a:Int) (b:Int):Bool:=((mP b (vK a) 0).isSome&&bif bI ((mP b (vK a) 0).getD default) then true else true)
theorem adg (a:Int) (b:Int) (h:zj a b=true):PS Pz 158 [.int .u8 a,.int .u8 b] (dB.res (HA a b)):=pq14 ZK h
def YA:GT:=g2 (dI .u8) (dI .u8) (fun a b=>cp (zj a b) (dB.res (HA a b)))
theorem aia:Sound Pz 158 YA:=bb fun a b=>aC (adg a b)
def K96:KT:=[(96,69,[(0,(2::3::17::18::21::22::23::26::27::30::31::34::35::38::39::(rn 42 5 (rn 55 5 [])))),(1,(2::3::5::6::17::18::21::22::23::26::27::30::31::34::35::38::39::(rn 42 5 (rn 55 5 [])))),(2,(2::3::5::6::47::(rn 55 5 []))),(3,[4]),(4,[2,3,60]),(5,[4]),(6,[4])])]
def B96:aw:=bO Pz K96 [(19,KE),(82,mV),(93,WM),(94,MZ),(158,YA)] [] []
theorem agX:aW B96:=aj ak ⟨MN,nm,s93,Ro,aia,trivial⟩ trivial trivial
def Qj (a:Pos) (b:Mv):Bool:=(bif !rX a then (false) else (bif b.bP then (false) else (bif b.aX != 0 then (false) else (bif decide (wr .i64 b.az<0) then (false) else (bif decide (wr .i64 b.az>63) then (false) else (bif decide (wr .i64 b.to<0) then (false) else (bif decide (wr .i64 b.to>63) then (false) else (bif !vu a (wr .i64 b.az) (wr .i64 b.to) then (false) else (bif bg (a.ae.getD (scale 1 (wr .i64 b.az)).toNat 0) != 1 then (b.bQ==0) else (bif qH a.aa (wr .i64 b.to) != 7 then (b.bQ==0) else (HA a.variant b.bQ)))))))))))
def BP (a:Pos) (b:Mv):Bool:=(bif !rX a then true else (bif b.bP then true else (bif b.aX != 0 then true else (bif decide (wr .i64 b.az<0) then true else (bif decide (wr .i64 b.az>63) then true else (bif decide (wr .i64 b.to<0) then true else (bif decide (wr .i64 b.to>63) then true else (FG (a) (wr .i64 b.az) (wr .i64 b.to)&&(bif !vu a (wr .i64 b.az) (wr .i64 b.to) then true else (decide (0≤wr .i64 b.az)&&decide (wr .i64 b.az<Int.ofNat 64)&&(bif bg (a.ae.getD (scale 1 (wr .i64 b.az)).toNat 0) != 1 then true else (bif qH a.aa (wr .i64 b.to) != 7 then true else (zj (a.variant) (b.bQ)&&true)))))))))))))
theorem P96 (a:Pos) (b:Mv) (h:BP a b=true):PS Pz 96 [Pos.av a,Mv.av b] (dB.res (Qj a b)):=pq14 agX h
def G96:GT:=g2 aY va (fun a b=>cp (BP a b) (dB.res (Qj a b)))
theorem s96:Sound Pz 96 G96:=bb fun a b=>aC (P96 a b)
def K39:KT:=[(39,39,[(0,(2::3::(rn 26 7 []))),(1,(2::3::9::(rn 26 7 []))),(2,[4]),(3,(2::3::5::(rn 26 7 []))),(4,(2::3::5::16::(rn 26 7 []))),(5,[4]),(6,[2,5,33]),(7,[4]),(8,[4])])]
def B39:aw:=bO Pz K39 [(82,mV),(96,G96),(97,ZF),(98,Yu)] [] []
theorem aiv:aW B39:=aj ak ⟨nm,s96,s97,s98,trivial⟩ trivial trivial
def iO (a:Pos) (b:Mv):Int:=(bif !Qj a b then (-1) else (bif !vA a (wr .i64 b.to) then (wr .i64 b.to) else (bif bg (a.ae.getD (scale 1 b.az).toNat 0)==1 then (bif b.az.tmod 8 != b.to.tmod 8 then (wr .i64 (wr .i64 b.to-fb a.aa)) else (-1)) else (-1))))
def A3 (a:Pos) (b:Mv):Bool:=(BP (a) (b)&&(bif !Qj a b then true else (pP (a) (wr .i64 b.to)&&(bif !vA a (wr .i64 b.to) then true else (decide (0≤b.az)&&decide (b.az<Int.ofNat 64)&&true)))))
theorem P39 (a:Pos) (b:Mv) (h:A3 a b=true):PS Pz 39 [Pos.av a,Mv.av b] ((dI .i64).res (iO a b)):=pq14 aiv h
def ZB:GT:=g2 aY va (fun a b=>cp (A3 a b) ((dI .i64).res (iO a b)))
theorem s39:Sound Pz 39 ZB:=bb fun a b=>aC (P39 a b)
def ahK:KT:=[(155,65,[(0,(2::3::9::10::11::(rn 14 5 (21::22::23::26::27::28::31::32::33::36::37::38::(rn 41 8 (rn 51 8 [])))))),(1,[3,59]),(2,[4]),(3,[64]),(4,[4]),(5,[4])])]
def agW:aw:=bO Pz ahK [] [] []
theorem ZY:aW agW:=aj ak trivial trivial trivial
def pG (a:Pos) (b:Mv):Int:=(bif decide (a.aa>1) then (-1) else (bif !b.bP then (-1) else (bif b.az==b.to then (-1) else (bif decide (b.az<0) then (-1) else (bif decide (b.az>63) then (-1) else (bif decide (b.to<0) then (-1) else (bif decide (b.to>63) then (-1) else (bif wr .i8 (b.az.tdiv 8) != wr .i8 (wr .u8 (7 * a.aa)) then (-1) else (bif wr .i8 (b.to.tdiv 8) != wr .i8 (wr .u8 (7 * a.aa)) then (-1) else (bif decide (b.to>b.az) then (0) else (1)))))))))))
def abO (a:Pos) (b:Mv):Bool:=true
theorem agF (a:Pos) (b:Mv) (h:abO a b=true):PS Pz 155 [Pos.av a,Mv.av b] ((dI .i64).res (pG a b)):=pq14 ZY h
def M4:GT:=g2 aY va (fun a b=>.ret ((dI .i64).res (pG a b)))
theorem SU:Sound Pz 155 M4:=bb fun a b=>bV (agF a b rfl)
def K86:KT:=[(86,116,[(0,[2,3,4,6]),(1,[2,3,4,6,7]),(2,[2,3,4,6,7,8]),(3,[2,3,4,6,7,8,20]),(4,(3::4::(rn 6 4 []))),(5,[3,4,6,7,8,10,11]),(6,[3,4,6,7,8,10,11,12]),(7,(4::6::7::8::(rn 10 4 []))),(8,(4::6::7::8::(rn 10 4 []))),(9,(6::7::8::(rn 10 4 []))),(10,[6,7,11,12,13]),(11,[6,7]),(12,[6]),(13,[2,3,4,6,7,8,61]),(14,[3,4,6,7]),(15,[6,7]),(16,[6]),(17,[2,3,4,6,7,8,89]),(18,[3,4,6,7,8]),(19,[3,4,6,7,8]),(20,[3,4,6,7]),(21,[3,4,6,7,104]),(22,[6,7]),(23,[6])])]
def B86:aw:=bO Pz K86 [(155,M4),(156,GB)] [] []
theorem ake:aW B86:=aj ak ⟨SU,KO,trivial⟩ trivial trivial
def Aa (a:Pos) (b:Mv) (c:Int):Pos:=(bif b.bP then ⟨(a.variant),((((a.ae.set (scale 1 b.az).toNat 0).set (scale 1 b.to).toNat 0).set (scale 1 (wr .i64 (wr .i64 (56 * wr .i64 a.aa)+(dF (pG a b)).1))).toNat (a.ae.getD (scale 1 b.az).toNat 0)).set (scale 1 (wr .i64 (wr .i64 (56 * wr .i64 a.aa)+(dF (pG a b)).2))).toNat (a.ae.getD (scale 1 b.to).toNat 0)),(a.ab),(a.af),(a.aa),(a.ai),(a.ah),(a.ag),(a.half),(a.full)⟩ else (bif b.aX != 0 then ⟨(a.variant),(a.ae.set (scale 1 b.to).toNat (wr .u8 (wr .u8 (8 * a.aa)+b.aX))),(a.ab),(a.af.set (scale 6 a.aa+scale 1 b.aX).toNat (wr .u8 (a.af.getD (scale 6 a.aa+scale 1 b.aX).toNat 0-1))),(a.aa),(a.ai),(a.ah),(a.ag),(a.half),(a.full)⟩ else (bif decide (c≥0) then (bif b.bQ != 0 then ⟨(a.variant),((((a.ae.set (scale 1 c).toNat 0).set (scale 1 b.az).toNat 0).set (scale 1 b.to).toNat (a.ae.getD (scale 1 b.az).toNat 0)).set (scale 1 b.to).toNat (wr .u8 (wr .u8 (8 * a.aa)+b.bQ))),(a.ab),(a.af),(a.aa),(a.ai),(a.ah),(a.ag),(a.half),(a.full)⟩ else ⟨(a.variant),(((a.ae.set (scale 1 c).toNat 0).set (scale 1 b.az).toNat 0).set (scale 1 b.to).toNat (a.ae.getD (scale 1 b.az).toNat 0)),(a.ab),(a.af),(a.aa),(a.ai),(a.ah),(a.ag),(a.half),(a.full)⟩) else (bif b.bQ != 0 then ⟨(a.variant),(((a.ae.set (scale 1 b.az).toNat 0).set (scale 1 b.to).toNat (a.ae.getD (scale 1 b.az).toNat 0)).set (scale 1 b.to).toNat (wr .u8 (wr .u8 (8 * a.aa)+b.bQ))),(a.ab),(a.af),(a.aa),(a.ai),(a.ah),(a.ag),(a.half),(a.full)⟩ else ⟨(a.variant),((a.ae.set (scale 1 b.az).toNat 0).set (scale 1 b.to).toNat (a.ae.getD (scale 1 b.az).toNat 0)),(a.ab),(a.af),(a.aa),(a.ai),(a.ah),(a.ag),(a.half),(a.full)⟩))))
def zP (a:Pos) (b:Mv) (c:Int):Bool:=(decide (0≤b.az)&&decide (b.az<Int.ofNat 64)&&(bif b.bP then (decide (0≤b.to)&&decide (b.to<Int.ofNat 64)&&(decide (0≤b.az)&&decide (b.az<Int.ofNat 64)&&(decide (0≤b.to)&&decide (b.to<Int.ofNat 64)&&(decide (0≤wr .i64 (wr .i64 (56 * wr .i64 a.aa)+(dF (pG a b)).1))&&decide (wr .i64 (wr .i64 (56 * wr .i64 a.aa)+(dF (pG a b)).1)<Int.ofNat 64)&&(decide (0≤wr .i64 (wr .i64 (56 * wr .i64 a.aa)+(dF (pG a b)).2))&&decide (wr .i64 (wr .i64 (56 * wr .i64 a.aa)+(dF (pG a b)).2)<Int.ofNat 64)&&true))))) else (bif b.aX != 0 then (decide (0≤a.aa)&&decide (a.aa<Int.ofNat 2)&&(decide (0≤b.aX)&&decide (b.aX<Int.ofNat 6)&&(decide (0≤a.aa)&&decide (a.aa<Int.ofNat 2)&&(decide (0≤b.aX)&&decide (b.aX<Int.ofNat 6)&&(decide (0≤b.to)&&decide (b.to<Int.ofNat 64)&&true))))) else (bif decide (c≥0) then (decide (0≤c)&&decide (c<Int.ofNat 64)&&(decide (0≤b.az)&&decide (b.az<Int.ofNat 64)&&(decide (0≤b.to)&&decide (b.to<Int.ofNat 64)&&(bif b.bQ != 0 then (decide (0≤b.to)&&decide (b.to<Int.ofNat 64)&&true) else true)))) else (decide (0≤b.az)&&decide (b.az<Int.ofNat 64)&&(decide (0≤b.to)&&decide (b.to<Int.ofNat 64)&&(bif b.bQ != 0 then (decide (0≤b.to)&&decide (b.to<Int.ofNat 64)&&true) else true)))))))
theorem P86 (a:Pos) (b:Mv) (c:Int) (h:zP a b c=true):PS Pz 86 [Pos.av a,Mv.av b,.int .i64 c] (aY.res (Aa a b c)):=pq14 ake h
def G86:GT:=g3 aY va (dI .i64) (fun a b c=>cp (zP a b c) (aY.res (Aa a b c)))
theorem s86:Sound Pz 86 G86:=dv fun a b c=>aC (P86 a b c)
def K89:KT:=[(89,11,[(0,[0,1]),(1,[4])])]
def B89:aw:=bO Pz K89 [] [] []
theorem aev:aW B89:=aj ak trivial trivial trivial
def Ck (a:BitVec 64) (b:Int):Bool:=(a >>> (BitVec.ofInt 64 b).toNat&&&1#64==1#64)
def ahR (a:BitVec 64) (b:Int):Bool:=true
theorem P89 (a:BitVec 64) (b:Int) (h:ahR a b=true):PS Pz 89 [.u64 a,.int .i64 b] (dB.res (Ck a b)):=pq14 aev h
def X6:GT:=g2 dU (dI .i64) (fun a b=>.ret (dB.res (Ck a b)))
theorem s89:Sound Pz 89 X6:=bb fun a b=>bV (P89 a b rfl)
def K87:KT:=[(87,151,[(0,(rn 3 4 (8::19::20::21::(rn 73 5 (82::83::(rn 86 8 (115::116::117::(rn 120 5 (rn 135 6 []))))))))),(1,(rn 3 4 (8::22::(rn 73 5 (82::83::(rn 86 8 (115::116::117::(rn 120 5 (rn 135 6 []))))))))),(2,[8]),(3,(rn 3 4 (8::25::(rn 73 5 (82::83::(rn 86 8 (115::116::117::(rn 120 5 (rn 135 6 []))))))))),(4,[4,5,6,8,9]),(5,[4,5,6,8,11]),(6,[4,5,6,8,11,39]),(7,[4,5,8,11]),(8,[5,8]),(9,[8]),(10,(rn 3 4 (8::62::(rn 73 5 (82::83::(rn 86 8 (115::116::117::(rn 120 5 (rn 135 6 []))))))))),(11,(rn 3 4 (8::12::(rn 73 5 (82::83::(rn 86 8 (115::116::117::(rn 120 5 (rn 135 6 []))))))))),(12,(rn 3 4 (8::12::78::82::83::(rn 86 8 (115::116::117::(rn 120 5 (rn 135 6 []))))))),(13,(rn 3 4 (8::12::82::83::(rn 86 8 (115::116::117::(rn 120 5 (rn 135 6 []))))))),(14,(rn 3 4 (8::12::94::115::116::117::(rn 120 5 (rn 135 6 []))))),(15,(rn 3 4 (8::115::116::117::(rn 120 5 (rn 135 6 []))))),(16,(rn 3 4 (8::13::115::116::117::(rn 120 5 (rn 135 6 []))))),(17,(rn 3 4 (8::13::14::115::116::117::(rn 120 5 (rn 135 6 []))))),(18,(rn 3 4 (8::13::14::107::115::116::117::(rn 120 5 (rn 135 6 []))))),(19,(rn 3 4 (8::13::14::115::116::117::(rn 120 5 (rn 135 6 []))))),(20,(rn 3 4 (8::13::14::115::116::117::(rn 120 6 (rn 135 6 []))))),(21,(rn 3 4 (8::13::14::115::116::117::(rn 120 5 (rn 135 6 []))))),(22,[5,6,8,13,141]),(23,[5,8,13]),(24,[5,8]),(25,[8])])]
def YT:aw:=bO Pz K87 [(82,mV),(89,X6),(155,M4),(156,GB)] [] []
theorem Ub:aW YT:=aj ak ⟨nm,s89,SU,KO,trivial⟩ trivial trivial
def SM (p1:Int) (p2:Pos) (p3:Pos) (p4:Mv) (x:((BitVec 64)×Int)):St:=St.mk (an 3 (.int .i64 p1::.ptr 0 0::.ptr 1 0::.ptr 2 0::.any::.ptr 3 0::(an 4 (.u64 x.1::.int .i64 x.2::(an 120 (.undef::.undef::.undef::.undef::.undef::.undef::(an 10 []))))))) (Hp.mk [(pc p2 []),(pc p3 []),[.int .i8 p4.az,.int .i8 p4.to,.int .u8 p4.bQ,.int .u8 p4.aX,.bool p4.bP],zpB] [] [] 0 0 0)
def Sh (p1:Int) (p2:Pos) (p3:Pos) (p4:Mv):((BitVec 64)×Int×Bool)→Out:=fun y=>.exit 0 (St.mk (an 3 (.int .i64 p1::.ptr 0 0::.ptr 1 0::.ptr 2 0::.any::.ptr 3 0::(an 4 (.u64 y.1::.int .i64 y.2.1::(an 92 (.bool y.2.2::(an 27 (.undef::.undef::.undef::.undef::.undef::.undef::(an 10 []))))))))) (Hp.mk [(pc p2 []),(pc p3 []),[.int .i8 p4.az,.int .i8 p4.to,.int .u8 p4.bQ,.int .u8 p4.aX,.bool p4.bP],zpB] [] [] 0 0 0))
def KI (p1:Int) (p2:Pos) (p3:Pos) (p4:Mv) (x:((BitVec 64)×Int)):aG ((BitVec 64)×Int) (((BitVec 64)×Int×Bool)):=(bif decide (x.2<64) then (bif Ck p2.ab x.2 then (bif x.2 != p1 then (bif x.2 != wr .i64 p4.az then (aG.go (x.1|||1#64 <<< (BitVec.ofInt 64 x.2).toNat,wr .i64 (x.2+1))) else (aG.go (x.1,wr .i64 (x.2+1)))) else (aG.go (x.1,wr .i64 (x.2+1)))) else (aG.go (x.1,wr .i64 (x.2+1)))) else (aG.out ((x.1,x.2,decide (x.2<64)))))
def NR (p1:Int) (p2:Pos) (p3:Pos) (p4:Mv) (x:((BitVec 64)×Int)):Bool:=true
def eU (p1:Int) (p2:Pos) (p3:Pos) (p4:Mv) (x:((BitVec 64)×Int)):Option (((BitVec 64)×Int×Bool)):=cO (fun x=>bif NR p1 p2 p3 p4 x then KI p1 p2 p3 p4 x else .bad) many x
abbrev SI {α:Type} (k:Int→Pos→Pos→Mv→((BitVec 64)×Int)→α) (s:St):α:=wP s 0 fun q0=>wP s 1 fun q1=>wM s 2 fun q2=>k (tI (tT s 3)) q0 q1 q2 ((tU (tT s 13)),(tI (tT s 14)))
theorem Yc (p1:Int) (p2:Pos) (p3:Pos) (p4:Mv) (x:((BitVec 64)×Int)) (r:((BitVec 64)×Int×Bool)) (h:eU p1 p2 p3 p4 x=some r):ay Pz (aT Pz 87 18) (SM p1 p2 p3 p4 x) (Sh p1 p2 p3 p4 r):=smq (m:=12) (fn:=87) Ub (SI fun _ _ _ _ x=>some x) (fun o=>match o with | .exit 0 s=>some ((tU (tT s 13)),(tI (tT s 14)),(tB (tT s 107))) | _=>none) many x r h
def Qz (b:Code) (s:St):Tr Out:=SI (fun p1 p2 p3 p4 x=>lq b (aT Pz 87 18) s (SM p1 p2 p3 p4 x) (eU p1 p2 p3 p4 x) (Sh p1 p2 p3 p4)) s
theorem Vc:∀ b,aM Pz b (Qz b):=fun _ _ _ h=>bK (Yc _ _ _ _ _) h
def B87:aw:=bO Pz K87 [(82,mV),(89,X6),(155,M4),(156,GB)] [(87,18,Qz)] []
theorem adC:aW B87:=aj ak ⟨nm,s89,SU,KO,trivial⟩ ⟨Vc,trivial⟩ trivial
def Bw (a:Pos) (b:Pos) (c:Mv) (d:Int):Pos:=let z1:=(bif c.bQ != 0 then (Pos.mk b.variant b.ae (((eU d a b c (0#64,0)).getD default).1|||1#64 <<< (BitVec.ofInt 64 c.to).toNat) b.af b.aa b.ai b.ah b.ag b.half b.full) else (bif Ck a.ab (wr .i64 c.az) then (Pos.mk b.variant b.ae (((eU d a b c (0#64,0)).getD default).1|||1#64 <<< (BitVec.ofInt 64 c.to).toNat) b.af b.aa b.ai b.ah b.ag b.half b.full) else (Pos.mk b.variant b.ae (((eU d a b c (0#64,0)).getD default).1) b.af b.aa b.ai b.ah b.ag b.half b.full)));let z2:=(bif decide (bg (a.ae.getD (scale 1 d).toNat 0)≥1) then (bif decide (bg (a.ae.getD (scale 1 d).toNat 0)≤5) then (bif decide (b.af.getD (scale 6 a.aa+scale 1 (bg (a.ae.getD (scale 1 d).toNat 0))).toNat 0<255) then (bif c.bQ != 0 then (Pos.mk b.variant b.ae (((eU d a (Pos.mk b.variant b.ae b.ab (b.af.set (scale 6 a.aa+scale 1 (bg (a.ae.getD (scale 1 d).toNat 0))).toNat (wr .u8 (b.af.getD (scale 6 a.aa+scale 1 (bg (a.ae.getD (scale 1 d).toNat 0))).toNat 0+1))) b.aa b.ai b.ah b.ag b.half b.full) c (0#64,0)).getD default).1|||1#64 <<< (BitVec.ofInt 64 c.to).toNat) (b.af.set (scale 6 a.aa+scale 1 (bg (a.ae.getD (scale 1 d).toNat 0))).toNat (wr .u8 (b.af.getD (scale 6 a.aa+scale 1 (bg (a.ae.getD (scale 1 d).toNat 0))).toNat 0+1))) b.aa b.ai b.ah b.ag b.half b.full) else (bif Ck a.ab (wr .i64 c.az) then (Pos.mk b.variant b.ae (((eU d a (Pos.mk b.variant b.ae b.ab (b.af.set (scale 6 a.aa+scale 1 (bg (a.ae.getD (scale 1 d).toNat 0))).toNat (wr .u8 (b.af.getD (scale 6 a.aa+scale 1 (bg (a.ae.getD (scale 1 d).toNat 0))).toNat 0+1))) b.aa b.ai b.ah b.ag b.half b.full) c (0#64,0)).getD default).1|||1#64 <<< (BitVec.ofInt 64 c.to).toNat) (b.af.set (scale 6 a.aa+scale 1 (bg (a.ae.getD (scale 1 d).toNat 0))).toNat (wr .u8 (b.af.getD (scale 6 a.aa+scale 1 (bg (a.ae.getD (scale 1 d).toNat 0))).toNat 0+1))) b.aa b.ai b.ah b.ag b.half b.full) else (Pos.mk b.variant b.ae (((eU d a (Pos.mk b.variant b.ae b.ab (b.af.set (scale 6 a.aa+scale 1 (bg (a.ae.getD (scale 1 d).toNat 0))).toNat (wr .u8 (b.af.getD (scale 6 a.aa+scale 1 (bg (a.ae.getD (scale 1 d).toNat 0))).toNat 0+1))) b.aa b.ai b.ah b.ag b.half b.full) c (0#64,0)).getD default).1) (b.af.set (scale 6 a.aa+scale 1 (bg (a.ae.getD (scale 1 d).toNat 0))).toNat (wr .u8 (b.af.getD (scale 6 a.aa+scale 1 (bg (a.ae.getD (scale 1 d).toNat 0))).toNat 0+1))) b.aa b.ai b.ah b.ag b.half b.full))) else z1) else z1) else z1);let z3:=(b.af.set (scale 6 a.aa+scale 1 (Int.ofNat 1)).toNat (wr .u8 (b.af.getD (scale 6 a.aa+scale 1 (Int.ofNat 1)).toNat 0+1)));let z4:=(Pos.mk b.variant b.ae (((eU d a (Pos.mk b.variant b.ae b.ab z3 b.aa b.ai b.ah b.ag b.half b.full) c (0#64,0)).getD default).1|||1#64 <<< (BitVec.ofInt 64 c.to).toNat) z3 b.aa b.ai b.ah b.ag b.half b.full);let z5:=(Pos.mk b.variant b.ae b.ab b.af b.aa b.ai b.ah b.ag b.half b.full); (bif a.variant != 2 then z5 else (bif c.aX != 0 then z5 else (bif c.bP then (bif Ck a.ab (wr .i64 c.to) then (Pos.mk b.variant b.ae (a.ab &&& ~~~(1#64 <<< (BitVec.ofInt 64 c.to).toNat)|||1#64 <<< (BitVec.ofInt 64 (wr .i64 (wr .i64 (56 * wr .i64 a.aa)+(dF (pG a c)).2))).toNat) b.af b.aa b.ai b.ah b.ag b.half b.full) else z5) else (bif decide (d≥0) then (bif Ck a.ab d then (bif a.ae.getD (scale 1 d).toNat 0 != 0 then (bif decide (b.af.getD (scale 6 a.aa+scale 1 (Int.ofNat 1)).toNat 0<255) then (bif c.bQ != 0 then z4 else (bif Ck a.ab (wr .i64 c.az) then z4 else (Pos.mk b.variant b.ae (((eU d a (Pos.mk b.variant b.ae b.ab z3 b.aa b.ai b.ah b.ag b.half b.full) c (0#64,0)).getD default).1) z3 b.aa b.ai b.ah b.ag b.half b.full))) else z1) else z2) else z2) else z1))))
def xP (a:Pos) (b:Pos) (c:Mv) (d:Int):Bool:=let z2:=(scale 6 a.aa+scale 1 (Int.ofNat 1));let z3:=((eU d a b c (0#64,0)).isSome&&true);let z4:=(a.aa<Int.ofNat 2);let z1:=(bif decide (bg (a.ae.getD (scale 1 d).toNat 0)≥1) then (bif decide (bg (a.ae.getD (scale 1 d).toNat 0)≤5) then (decide (0≤a.aa)&&decide z4&&(decide (0≤bg (a.ae.getD (scale 1 d).toNat 0))&&decide (bg (a.ae.getD (scale 1 d).toNat 0)<Int.ofNat 6)&&(bif decide (b.af.getD (scale 6 a.aa+scale 1 (bg (a.ae.getD (scale 1 d).toNat 0))).toNat 0<255) then (decide (0≤a.aa)&&decide z4&&(decide (0≤bg (a.ae.getD (scale 1 d).toNat 0))&&decide (bg (a.ae.getD (scale 1 d).toNat 0)<Int.ofNat 6)&&(decide (0≤a.aa)&&decide z4&&(decide (0≤bg (a.ae.getD (scale 1 d).toNat 0))&&decide (bg (a.ae.getD (scale 1 d).toNat 0)<Int.ofNat 6)&&((eU d a (Pos.mk b.variant b.ae b.ab (b.af.set (scale 6 a.aa+scale 1 (bg (a.ae.getD (scale 1 d).toNat 0))).toNat (wr .u8 (b.af.getD (scale 6 a.aa+scale 1 (bg (a.ae.getD (scale 1 d).toNat 0))).toNat 0+1))) b.aa b.ai b.ah b.ag b.half b.full) c (0#64,0)).isSome&&true))))) else z3))) else z3) else z3); (bif a.variant != 2 then true else (bif c.aX != 0 then true else (bif c.bP then true else (bif decide (d≥0) then (decide (0≤d)&&decide (d<Int.ofNat 64)&&(bif Ck a.ab d then (decide (0≤d)&&decide (d<Int.ofNat 64)&&(bif a.ae.getD (scale 1 d).toNat 0 != 0 then (decide (0≤a.aa)&&decide z4&&(bif decide (b.af.getD z2.toNat 0<255) then (decide (0≤a.aa)&&decide z4&&(decide (0≤a.aa)&&decide z4&&((eU d a (Pos.mk b.variant b.ae b.ab (b.af.set z2.toNat (wr .u8 (b.af.getD z2.toNat 0+1))) b.aa b.ai b.ah b.ag b.half b.full) c (0#64,0)).isSome&&true))) else z3)) else z1)) else z1)) else z3))))
theorem P87 (a:Pos) (b:Pos) (c:Mv) (d:Int) (h:xP a b c d=true):PS Pz 87 [Pos.av a,Pos.av b,Mv.av c,.int .i64 d] (aY.res (Bw a b c d)):=pq14 adC h
def G87:GT:=g4 aY aY va (dI .i64) (fun a b c d=>cp (xP a b c d) (aY.res (Bw a b c d)))
theorem s87:Sound Pz 87 G87:=Cz fun a b c d=>aC (P87 a b c d)
def K88:KT:=[(88,47,[(0,(1::2::11::12::15::16::(rn 29 11 []))),(1,(1::2::5::11::12::15::16::(rn 29 11 []))),(2,(1::2::5::6::11::12::15::16::(rn 29 11 []))),(3,(1::2::5::6::11::12::15::16::17::(rn 29 11 []))),(4,(1::2::5::6::11::12::15::16::(rn 29 11 []))),(5,(1::2::5::6::7::11::12::15::16::(rn 29 11 []))),(6,(1::2::5::6::11::12::15::16::(rn 29 12 []))),(7,(1::2::5::6::11::12::15::16::(rn 29 11 []))),(8,[4])])]
def ZC:aw:=bO Pz K88 [(82,mV),(153,By)] [] []
theorem VU:aW ZC:=aj ak ⟨nm,CC,trivial⟩ trivial trivial
def Rs (p1:Int) (p2:Pos) (x:((BitVec 64)×Int)):St:=St.mk (.any::.int .i64 p1::.ptr 0 0::.any::.any::.u64 x.1::.int .i64 x.2::(an 40 [])) (Hp.mk [(pc p2 [])] [] [] 0 0 0)
def QF (p1:Int) (p2:Pos):((BitVec 64)×Int×Bool)→Out:=fun y=>.exit 0 (St.mk (.any::.int .i64 p1::.ptr 0 0::.any::.any::.u64 y.1::.int .i64 y.2.1::(an 10 (.bool y.2.2::(an 29 [])))) (Hp.mk [(pc p2 [])] [] [] 0 0 0))
def JN (p1:Int) (p2:Pos) (x:((BitVec 64)×Int)):aG ((BitVec 64)×Int) (((BitVec 64)×Int×Bool)):=(bif decide (x.2<64) then (bif decide (p1≥0) then (bif decide (p1<64) then (bif x.2==p1 then (aG.go (x.1|||1#64 <<< (BitVec.ofInt 64 x.2).toNat,wr .i64 (x.2+1))) else (bif iF x.2 p1 then (bif bg (p2.ae.getD (scale 1 x.2).toNat 0) != 0 then (bif bg (p2.ae.getD (scale 1 x.2).toNat 0) != 1 then (aG.go (x.1|||1#64 <<< (BitVec.ofInt 64 x.2).toNat,wr .i64 (x.2+1))) else (aG.go (x.1,wr .i64 (x.2+1)))) else (aG.go (x.1,wr .i64 (x.2+1)))) else (aG.go (x.1,wr .i64 (x.2+1))))) else (aG.out ((x.1,x.2,decide (p1<64))))) else (aG.out ((x.1,x.2,false)))) else (aG.out ((x.1,x.2,false))))
def Dj (p1:Int) (p2:Pos) (x:((BitVec 64)×Int)):Bool:=(bif decide (x.2<64) then (bif decide (p1≥0) then (bif decide (p1<64) then (decide (0≤x.2)&&decide (x.2 < ↑64)&&true) else true) else true) else true)
def sq (p1:Int) (p2:Pos) (x:((BitVec 64)×Int)):Option (((BitVec 64)×Int×Bool)):=cO (fun x=>bif Dj p1 p2 x then JN p1 p2 x else .bad) many x
abbrev Rb {α:Type} (k:Int→Pos→((BitVec 64)×Int)→α) (s:St):α:=wP s 0 fun q0=>k (tI (tT s 1)) q0 ((tU (tT s 5)),(tI (tT s 6)))
theorem YE (p1:Int) (p2:Pos) (x:((BitVec 64)×Int)) (r:((BitVec 64)×Int×Bool)) (h:sq p1 p2 x=some r):ay Pz (aT Pz 88 3) (Rs p1 p2 x) (QF p1 p2 r):=smq (m:=12) (fn:=88) VU (Rb fun _ _ x=>some x) (fun o=>match o with | .exit 0 s=>some ((tU (tT s 5)),(tI (tT s 6)),(tB (tT s 17))) | _=>none) many x r h
def RQ (b:Code) (s:St):Tr Out:=Rb (fun p1 p2 x=>lq b (aT Pz 88 3) s (Rs p1 p2 x) (sq p1 p2 x) (QF p1 p2)) s
theorem VA:∀ b,aM Pz b (RQ b):=fun _ _ _ h=>bK (YE _ _ _) h
def B88:aw:=bO Pz K88 [(82,mV),(153,By)] [(88,3,RQ)] []
theorem ajF:aW B88:=aj ak ⟨nm,CC,trivial⟩ ⟨VA,trivial⟩ trivial
def MG (a:Pos) (b:Int):BitVec 64:=(((sq b (Pos.mk a.variant a.ae a.ab a.af a.aa a.ai a.ah a.ag a.half a.full) (0#64,0)).getD default).1)
def JI (a:Pos) (b:Int):Bool:=((sq b (Pos.mk a.variant a.ae a.ab a.af a.aa a.ai a.ah a.ag a.half a.full) (0#64,0)).isSome&&true)
theorem P88 (a:Pos) (b:Int) (h:JI a b=true):PS Pz 88 [Pos.av a,.int .i64 b] (dU.res (MG a b)):=pq14 ajF h
def G88:GT:=g2 aY (dI .i64) (fun a b=>cp (JI a b) (dU.res (MG a b)))
theorem s88:Sound Pz 88 G88:=bb fun a b=>aC (P88 a b)
def K90:KT:=[(90,103,[(0,(rn 3 4 (8::(rn 20 7 (57::58::(rn 67 4 (rn 73 5 (80::81::82::(rn 85 10 []))))))))),(1,(rn 3 4 (8::27::57::58::(rn 67 4 (rn 73 5 (80::81::82::(rn 85 10 []))))))),(2,(3::5::6::8::57::58::(rn 67 4 (rn 73 5 (80::81::82::(rn 85 10 [])))))),(3,(3::5::6::8::9::57::58::(rn 67 4 (rn 73 5 (80::81::82::(rn 85 10 [])))))),(4,(3::5::6::8::9::34::57::58::(rn 67 4 (rn 73 5 (80::81::82::(rn 85 10 [])))))),(5,(3::5::6::8::9::57::58::(rn 67 4 (rn 73 5 (80::81::82::(rn 85 10 [])))))),(6,(3::5::6::8::9::10::57::58::(rn 67 4 (rn 73 5 (80::81::82::(rn 85 10 [])))))),(7,(3::5::6::(rn 8 4 (57::58::(rn 67 4 (rn 73 5 (80::81::82::(rn 85 10 [])))))))),(8,(3::5::6::(rn 8 5 (57::58::(rn 67 4 (rn 73 5 (80::81::82::(rn 85 10 [])))))))),(9,(3::5::6::(rn 8 5 (44::57::58::(rn 67 4 (rn 73 5 (80::81::82::(rn 85 10 [])))))))),(10,(3::5::6::(rn 8 5 (57::58::(rn 67 4 (rn 73 5 (80::81::82::(rn 85 10 [])))))))),(11,(3::5::6::(rn 8 6 (57::58::(rn 67 4 (rn 73 5 (80::81::82::(rn 85 10 [])))))))),(12,(3::5::6::(rn 8 6 (57::58::59::(rn 67 4 (rn 73 5 (80::81::82::(rn 85 10 [])))))))),(13,(3::5::6::(rn 8 5 (14::57::58::(rn 67 4 (rn 73 5 (80::81::82::(rn 85 10 [])))))))),(14,(3::5::6::(rn 8 5 (15::57::58::(rn 67 4 (rn 73 5 (80::81::82::(rn 85 10 [])))))))),(15,(3::5::6::(rn 8 5 (57::58::(rn 67 4 (rn 73 5 (80::81::82::(rn 85 10 [96])))))))),(16,(3::5::6::(rn 8 5 (57::58::(rn 67 4 (rn 73 5 (80::81::82::(rn 85 10 [])))))))),(17,[8])])]
def aa1:aw:=bO Pz K90 [(82,mV),(150,xb),(152,oN)] [] []
theorem Vh:aW aa1:=aj ak ⟨nm,An,qj,trivial⟩ trivial trivial
def Rk (p1:Int) (p2:Int) (p3:Int) (p4:Int) (p5:Pos) (p6:Mv) (x:(Int×Pos)):St:=St.mk (an 3 (.int .i64 p1::.any::.ptr 1 0::.ptr 2 0::.any::.ptr 3 0::.int .u8 p2::.int .i64 p3::.int .i64 p4::.int .i64 x.1::(an 90 []))) (Hp.mk [(pc p5 []),(pc x.2 []),[.int .i8 p6.az,.int .i8 p6.to,.int .u8 p6.bQ,.int .u8 p6.aX,.bool p6.bP],[.int .u8 0,.ints .u8 64 (List.replicate 64 0),.u64 0,.ints .u8 12 (List.replicate 12 0),.int .u8 0,.ints .i8 4 (List.replicate 4 0),.int .i8 0,.ints .u8 2 (List.replicate 2 0),.int .i64 0,.int .i64 0]] [] [] 0 0 0)
def Rn (p1:Int) (p2:Int) (p3:Int) (p4:Int) (p5:Pos) (p6:Mv):(Int×Bool×Pos)→Out:=fun y=>.exit 2 (St.mk (an 3 (.int .i64 p1::.any::.ptr 1 0::.ptr 2 0::.any::.ptr 3 0::.int .u8 p2::.int .i64 p3::.int .i64 p4::.int .i64 y.1::(an 31 (.bool y.2.1::(an 58 []))))) (Hp.mk [(pc p5 []),(pc y.2.2 []),[.int .i8 p6.az,.int .i8 p6.to,.int .u8 p6.bQ,.int .u8 p6.aX,.bool p6.bP],[.int .u8 0,.ints .u8 64 (List.replicate 64 0),.u64 0,.ints .u8 12 (List.replicate 12 0),.int .u8 0,.ints .i8 4 (List.replicate 4 0),.int .i8 0,.ints .u8 2 (List.replicate 2 0),.int .i64 0,.int .i64 0]] [] [] 0 0 0))
def CD (p1:Int) (p2:Int) (p3:Int) (p4:Int) (p5:Pos) (p6:Mv) (x:(Int×Pos)):aG (Int×Pos) ((Int×Bool×Pos)):=(bif decide (x.1<2) then (bif decide (wr .i64 (x.2.ai.getD (scale 2 p2+scale 1 x.1).toNat 0)<0) then (aG.go (wr .i64 (x.1+1),x.2)) else (bif decide (wr .i64 (x.2.ai.getD (scale 2 p2+scale 1 x.1).toNat 0)>7) then (aG.go (wr .i64 (x.1+1),x.2)) else (bif decide (p4<p3) then (aG.go (wr .i64 (x.1+1),Pos.mk x.2.variant x.2.ae x.2.ab x.2.af x.2.aa (x.2.ai.set (scale 2 p2+scale 1 x.1).toNat (-1)) x.2.ah x.2.ag x.2.half x.2.full)) else (bif decide (p4>wr .i64 (p3+7)) then (aG.go (wr .i64 (x.1+1),Pos.mk x.2.variant x.2.ae x.2.ab x.2.af x.2.aa (x.2.ai.set (scale 2 p2+scale 1 x.1).toNat (-1)) x.2.ah x.2.ag x.2.half x.2.full)) else (bif !qd x.2 (wr .i64 (p3+wr .i64 (x.2.ai.getD (scale 2 p2+scale 1 x.1).toNat 0))) p2 4 then (aG.go (wr .i64 (x.1+1),Pos.mk x.2.variant x.2.ae x.2.ab x.2.af x.2.aa (x.2.ai.set (scale 2 p2+scale 1 x.1).toNat (-1)) x.2.ah x.2.ag x.2.half x.2.full)) else (bif p1==wr .i64 (p3+wr .i64 (x.2.ai.getD (scale 2 p2+scale 1 x.1).toNat 0)) then (aG.go (wr .i64 (x.1+1),Pos.mk x.2.variant x.2.ae x.2.ab x.2.af x.2.aa (x.2.ai.set (scale 2 p2+scale 1 x.1).toNat (-1)) x.2.ah x.2.ag x.2.half x.2.full)) else (bif p6.aX==0 then (bif wr .i64 p6.az==wr .i64 (p3+wr .i64 (x.2.ai.getD (scale 2 p2+scale 1 x.1).toNat 0)) then (aG.go (wr .i64 (x.1+1),Pos.mk x.2.variant x.2.ae x.2.ab x.2.af x.2.aa (x.2.ai.set (scale 2 p2+scale 1 x.1).toNat (-1)) x.2.ah x.2.ag x.2.half x.2.full)) else (aG.go (wr .i64 (x.1+1),x.2))) else (aG.go (wr .i64 (x.1+1),x.2))))))))) else (aG.out ((x.1,decide (x.1<2),x.2))))
def yF (p1:Int) (p2:Int) (p3:Int) (p4:Int) (p5:Pos) (p6:Mv) (x:(Int×Pos)):Bool:=(bif decide (x.1<2) then (decide (0≤p2)&&decide (p2<Int.ofNat 2)&&(decide (0≤x.1)&&decide (x.1<Int.ofNat 2)&&(bif decide (wr .i64 (x.2.ai.getD (scale 2 p2+scale 1 x.1).toNat 0)<0) then true else (bif decide (wr .i64 (x.2.ai.getD (scale 2 p2+scale 1 x.1).toNat 0)>7) then true else (bif decide (p4<p3) then (decide (0≤p2)&&decide (p2<Int.ofNat 2)&&(decide (0≤x.1)&&decide (x.1<Int.ofNat 2)&&true)) else (bif decide (p4>wr .i64 (p3+7)) then (decide (0≤p2)&&decide (p2<Int.ofNat 2)&&(decide (0≤x.1)&&decide (x.1<Int.ofNat 2)&&true)) else (np (x.2) (wr .i64 (p3+wr .i64 (x.2.ai.getD (scale 2 p2+scale 1 x.1).toNat 0))) (p2) (4)&&(bif !qd x.2 (wr .i64 (p3+wr .i64 (x.2.ai.getD (scale 2 p2+scale 1 x.1).toNat 0))) p2 4 then (decide (0≤p2)&&decide (p2<Int.ofNat 2)&&(decide (0≤x.1)&&decide (x.1<Int.ofNat 2)&&true)) else (bif p1==wr .i64 (p3+wr .i64 (x.2.ai.getD (scale 2 p2+scale 1 x.1).toNat 0)) then (decide (0≤p2)&&decide (p2<Int.ofNat 2)&&(decide (0≤x.1)&&decide (x.1<Int.ofNat 2)&&true)) else (bif p6.aX==0 then (bif wr .i64 p6.az==wr .i64 (p3+wr .i64 (x.2.ai.getD (scale 2 p2+scale 1 x.1).toNat 0)) then (decide (0≤p2)&&decide (p2<Int.ofNat 2)&&(decide (0≤x.1)&&decide (x.1<Int.ofNat 2)&&true)) else true) else true)))))))))) else true)
def um (p1:Int) (p2:Int) (p3:Int) (p4:Int) (p5:Pos) (p6:Mv) (x:(Int×Pos)):Option ((Int×Bool×Pos)):=cO (fun x=>bif yF p1 p2 p3 p4 p5 p6 x then CD p1 p2 p3 p4 p5 p6 x else .bad) many x
abbrev Q2 {α:Type} (k:Int→Int→Int→Int→Pos→Mv→(Int×Pos)→α) (s:St):α:=wP s 0 fun q0=>wP s 1 fun q1=>wM s 2 fun q2=>k (tI (tT s 3)) (tI (tT s 9)) (tI (tT s 10)) (tI (tT s 11)) q0 q2 ((tI (tT s 12)),q1)
theorem Xn (p1:Int) (p2:Int) (p3:Int) (p4:Int) (p5:Pos) (p6:Mv) (x:(Int×Pos)) (r:(Int×Bool×Pos)) (h:um p1 p2 p3 p4 p5 p6 x=some r):ay Pz (aT Pz 90 9) (Rk p1 p2 p3 p4 p5 p6 x) (Rn p1 p2 p3 p4 p5 p6 r):=smq (m:=12) (fn:=90) Vh (Q2 fun _ _ _ _ _ _ x=>some x) (fun o=>match o with | .exit 2 s=>wP s 1 fun q1=>some ((tI (tT s 12)),(tB (tT s 44)),q1) | _=>none) many x r h
def LD (b:Code) (s:St):Tr Out:=Q2 (fun p1 p2 p3 p4 p5 p6 x=>lq b (aT Pz 90 9) s (Rk p1 p2 p3 p4 p5 p6 x) (um p1 p2 p3 p4 p5 p6 x) (Rn p1 p2 p3 p4 p5 p6)) s
theorem Hy:∀ b,aM Pz b (LD b):=fun _ _ _ h=>bK (Xn _ _ _ _ _ _ _) h
def abj:aw:=bO Pz K90 [(82,mV),(150,xb),(152,oN)] [(90,9,LD)] []
theorem We:aW abj:=aj ak ⟨nm,An,qj,trivial⟩ ⟨Hy,trivial⟩ trivial
def Sz (p1:Int) (p2:Pos) (p3:Mv) (x:(Int×Pos)):St:=St.mk (an 3 (.int .i64 p1::.any::.ptr 1 0::.ptr 2 0::.any::.ptr 3 0::.int .u8 x.1::(an 93 []))) (Hp.mk [(pc p2 []),(pc x.2 []),[.int .i8 p3.az,.int .i8 p3.to,.int .u8 p3.bQ,.int .u8 p3.aX,.bool p3.bP],[.int .u8 0,.ints .u8 64 (List.replicate 64 0),.u64 0,.ints .u8 12 (List.replicate 12 0),.int .u8 0,.ints .i8 4 (List.replicate 4 0),.int .i8 0,.ints .u8 2 (List.replicate 2 0),.int .i64 0,.int .i64 0]] [] [] 0 0 0)
def QW (p1:Int) (p2:Pos) (p3:Mv):(Int×Bool×Pos)→Out:=fun y=>.exit 0 (St.mk (an 3 (.int .i64 p1::.any::.ptr 1 0::.ptr 2 0::.any::.ptr 3 0::.int .u8 y.1::(an 24 (.bool y.2.1::(an 68 []))))) (Hp.mk [(pc p2 []),(pc y.2.2 []),[.int .i8 p3.az,.int .i8 p3.to,.int .u8 p3.bQ,.int .u8 p3.aX,.bool p3.bP],[.int .u8 0,.ints .u8 64 (List.replicate 64 0),.u64 0,.ints .u8 12 (List.replicate 12 0),.int .u8 0,.ints .i8 4 (List.replicate 4 0),.int .i8 0,.ints .u8 2 (List.replicate 2 0),.int .i64 0,.int .i64 0]] [] [] 0 0 0))
def Hr (p1:Int) (p2:Pos) (p3:Mv) (x:(Int×Pos)):aG (Int×Pos) ((Int×Bool×Pos)):=(bif decide (x.1<2) then (aG.go (wr .u8 (x.1+1),((um p1 x.1 (wr .i64 (56 * wr .i64 x.1)) (cn x.2 x.1 6) p2 p3 (0,x.2)).getD default).2.2)) else (aG.out ((x.1,decide (x.1<2),x.2))))
def DE (p1:Int) (p2:Pos) (p3:Mv) (x:(Int×Pos)):Bool:=(bif decide (x.1<2) then (tQ (x.2) (x.1) (6)&&((um p1 x.1 (wr .i64 (56 * wr .i64 x.1)) (cn x.2 x.1 6) p2 p3 (0,x.2)).isSome&&true)) else true)
def mw (p1:Int) (p2:Pos) (p3:Mv) (x:(Int×Pos)):Option ((Int×Bool×Pos)):=cO (fun x=>bif DE p1 p2 p3 x then Hr p1 p2 p3 x else .bad) many x
abbrev Q1 {α:Type} (k:Int→Pos→Mv→(Int×Pos)→α) (s:St):α:=wP s 0 fun q0=>wP s 1 fun q1=>wM s 2 fun q2=>k (tI (tT s 3)) q0 q2 ((tI (tT s 9)),q1)
theorem acs (p1:Int) (p2:Pos) (p3:Mv) (x:(Int×Pos)) (r:(Int×Bool×Pos)) (h:mw p1 p2 p3 x=some r):ay Pz (aT Pz 90 4) (Sz p1 p2 p3 x) (QW p1 p2 p3 r):=smq (m:=12) (fn:=90) We (Q1 fun _ _ _ x=>some x) (fun o=>match o with | .exit 0 s=>wP s 1 fun q1=>some ((tI (tT s 9)),(tB (tT s 34)),q1) | _=>none) many x r h
def Qg (b:Code) (s:St):Tr Out:=Q1 (fun p1 p2 p3 x=>lq b (aT Pz 90 4) s (Sz p1 p2 p3 x) (mw p1 p2 p3 x) (QW p1 p2 p3)) s
theorem Uk:∀ b,aM Pz b (Qg b):=fun _ _ _ h=>bK (acs _ _ _ _) h
def B90:aw:=bO Pz K90 [(82,mV),(150,xb),(152,oN)] [(90,9,LD),(90,4,Qg)] []
theorem ahQ:aW B90:=aj ak ⟨nm,An,qj,trivial⟩ ⟨Hy,Uk,trivial⟩ trivial
def Ps (a:Pos) (b:Pos) (c:Mv) (d:Int):Pos:=let z1:=((mw d a c (0,Pos.mk b.variant b.ae b.ab b.af b.aa (List.take (scale 2 a.aa).toNat b.ai++((List.replicate 2 0).set 0 (-1)).set 1 (-1)++List.drop ((scale 2 a.aa).toNat+2) b.ai) b.ah b.ag b.half b.full)).getD default);let z2:=((mw d a c (0,b)).getD default);let z3:=(Pos.mk (z2.2.2.variant) (z2.2.2.ae) (z2.2.2.ab) (z2.2.2.af) (z2.2.2.aa) (z2.2.2.ai) (z2.2.2.ah) (z2.2.2.ag) (z2.2.2.half) (z2.2.2.full)); (bif c.aX==0 then (bif bg (a.ae.getD (scale 1 c.az).toNat 0)==6 then (Pos.mk (z1.2.2.variant) (z1.2.2.ae) (z1.2.2.ab) (z1.2.2.af) (z1.2.2.aa) (z1.2.2.ai) (z1.2.2.ah) (z1.2.2.ag) (z1.2.2.half) (z1.2.2.full)) else z3) else z3)
def Gx (a:Pos) (b:Pos) (c:Mv) (d:Int):Bool:=let z1:=((mw d a c (0,b)).isSome&&true); (bif c.aX==0 then (decide (0≤c.az)&&decide (c.az<Int.ofNat 64)&&(bif bg (a.ae.getD (scale 1 c.az).toNat 0)==6 then (decide (0≤a.aa)&&decide (a.aa<Int.ofNat 2)&&((mw d a c (0,Pos.mk b.variant b.ae b.ab b.af b.aa (List.take (scale 2 a.aa).toNat b.ai++((List.replicate 2 0).set 0 (-1)).set 1 (-1)++List.drop ((scale 2 a.aa).toNat+2) b.ai) b.ah b.ag b.half b.full)).isSome&&true)) else z1)) else z1)
theorem P90 (a:Pos) (b:Pos) (c:Mv) (d:Int) (h:Gx a b c d=true):PS Pz 90 [Pos.av a,Pos.av b,Mv.av c,.int .i64 d] (aY.res (Ps a b c d)):=pq14 ahQ h
def G90:GT:=g4 aY aY va (dI .i64) (fun a b c d=>cp (Gx a b c d) (aY.res (Ps a b c d)))
theorem s90:Sound Pz 90 G90:=Cz fun a b c d=>aC (P90 a b c d)
def K91:KT:=[(91,69,[(0,(3::4::5::14::15::(rn 18 7 (rn 41 5 (rn 58 6 []))))),(1,(3::4::5::25::(rn 41 5 (rn 58 6 [])))),(2,[6]),(3,(3::4::5::7::(rn 41 5 (rn 58 6 [])))),(4,(3::4::5::7::8::(rn 41 5 (rn 58 6 [])))),(5,(3::4::7::8::46::(rn 58 6 []))),(6,[6]),(7,(3::4::7::8::9::(rn 58 6 []))),(8,(3::4::7::8::9::48::(rn 58 6 []))),(9,(3::4::7::8::9::(rn 58 6 []))),(10,(3::4::7::8::9::(rn 58 7 []))),(11,[6]),(12,[6])])]
def aaR:aw:=bO Pz K91 [(82,mV),(98,Yu),(152,oN),(154,Df),(94,MZ)] [] []
theorem Tj:aW aaR:=aj ak ⟨nm,s98,qj,FN,Ro,trivial⟩ trivial trivial
def Sv (p1:Int) (p2:Int) (p3:Pos) (p4:Pos) (p5:Mv) (x:(Int)):St:=St.mk (an 3 (.ptr 0 0::.ptr 1 0::.any::.any::.int .i64 p1::.int .i64 p2::.int .i64 x::(an 59 []))) (Hp.mk [(pc p3 []),(pc p4 []),[.int .i8 p5.az,.int .i8 p5.to,.int .u8 p5.bQ,.int .u8 p5.aX,.bool p5.bP]] [] [] 0 0 0)
def QL (p1:Int) (p2:Int) (p3:Pos) (p4:Pos) (p5:Mv):Unit ⊕ (Int×Bool)→Out
 | (.inl (y))=>.ret (St.mk (an 6 (AV.int .i8 (wr .i8 (wr .i64 (p2+p1)))::(an 62 []))) (Hp.mk [(pc p3 []),(pc p4 []),[AV.int .i8 p5.az,AV.int .i8 p5.to,AV.int .u8 p5.bQ,AV.int .u8 p5.aX,AV.bool p5.bP]] [] [] 0 0 0))
 | (.inr (y))=>.exit 0 (St.mk (an 3 (AV.ptr 0 0::AV.ptr 1 0::AV.any::AV.any::AV.int .i64 p1::AV.int .i64 p2::AV.int .i64 y.1::(an 38 (AV.bool y.2::(an 20 []))))) (Hp.mk [(pc p3 []),(pc p4 []),[AV.int .i8 p5.az,AV.int .i8 p5.to,AV.int .u8 p5.bQ,AV.int .u8 p5.aX,AV.bool p5.bP]] [] [] 0 0 0))
def HT (p1:Int) (p2:Int) (p3:Pos) (p4:Pos) (p5:Mv) (x:(Int)):aG (Int) (Unit ⊕ (Int×Bool)):=(bif decide (x<64) then (bif qd p4 x (wr .u8 (1-p3.aa)) 1 then (bif jX p4 x (wr .i64 (p2+p1)) then (aG.out (.inl (()))) else (aG.go (wr .i64 (x+1)))) else (aG.go (wr .i64 (x+1)))) else (aG.out (.inr ((x,decide (x<64))))))
def DI (p1:Int) (p2:Int) (p3:Pos) (p4:Pos) (p5:Mv) (x:(Int)):Bool:=(bif decide (x<64) then (np (p4) (x) (wr .u8 (1-p3.aa)) (1)&&(bif qd p4 x (wr .u8 (1-p3.aa)) 1 then (o6 (p4) (x) (wr .i64 (p2+p1))&&true) else true)) else true)
def pV (p1:Int) (p2:Int) (p3:Pos) (p4:Pos) (p5:Mv) (x:(Int)):Option (Unit ⊕ (Int×Bool)):=cO (fun x=>bif DI p1 p2 p3 p4 p5 x then HT p1 p2 p3 p4 p5 x else .bad) many x
abbrev Rq {α:Type} (k:Int→Int→Pos→Pos→Mv→(Int)→α) (s:St):α:=wP s 0 fun q0=>wP s 1 fun q1=>wM s 2 fun q2=>k (tI (tT s 7)) (tI (tT s 8)) q0 q1 q2 ((tI (tT s 9)))
theorem XI (p1:Int) (p2:Int) (p3:Pos) (p4:Pos) (p5:Mv) (x:(Int)) (r:Unit ⊕ (Int×Bool)) (h:pV p1 p2 p3 p4 p5 x=some r):ay Pz (aT Pz 91 8) (Sv p1 p2 p3 p4 p5 x) (QL p1 p2 p3 p4 p5 r):=ay.vC (m:=12) (fn:=91) Tj (Rq fun _ _ _ _ _ x=>some x) (fun o=>match o with | .ret s=>some (.inl ()) | .exit 0 s=>some (.inr ((tI (tT s 9)),(tB (tT s 48)))) | _=>none) (fun r=>by cases r<;>rfl) (fun _=>by kernel_rfl) (fun _=>by kernel_rfl) (fun _=>by kernel_rfl) (fun _=>by kernel_rfl) many x r h
def P4 (b:Code) (s:St):Tr Out:=Rq (fun p1 p2 p3 p4 p5 x=>yX b (aT Pz 91 8) s (Sv p1 p2 p3 p4 p5 x) (pV p1 p2 p3 p4 p5 x) (QL p1 p2 p3 p4 p5)) s
theorem UM:∀ b,aM Pz b (P4 b):=fun _ _ _ h=>dG (XI _ _ _ _ _ _) h
def B91:aw:=bO Pz K91 [(82,mV),(98,Yu),(152,oN),(154,Df),(94,MZ)] [(91,8,P4)] []
theorem ah8:aW B91:=aj ak ⟨nm,s98,qj,FN,Ro,trivial⟩ ⟨UM,trivial⟩ trivial
def eP (a:Pos) (b:Pos) (c:Mv):Int:=(bif c.aX != 0 then (-1) else (bif c.bP then (-1) else (bif bg (a.ae.getD (scale 1 c.az).toNat 0) != 1 then (-1) else (bif wr .i64 c.to != wr .i64 (wr .i64 c.az+wr .i64 (2 * fb a.aa)) then (-1) else (bif qH a.aa (wr .i64 c.az) != 1 then (-1) else (bif bI ((pV (fb a.aa) (wr .i64 c.az) a b c 0).getD default) then (wr .i8 (wr .i64 (wr .i64 c.az+fb a.aa))) else (-1)))))))
def GD (a:Pos) (b:Pos) (c:Mv):Bool:=(bif c.aX != 0 then true else (bif c.bP then true else (decide (0≤c.az)&&decide (c.az<Int.ofNat 64)&&(bif bg (a.ae.getD (scale 1 c.az).toNat 0) != 1 then true else (bif wr .i64 c.to != wr .i64 (wr .i64 c.az+wr .i64 (2 * fb a.aa)) then true else (bif qH a.aa (wr .i64 c.az) != 1 then true else ((pV (fb a.aa) (wr .i64 c.az) a b c 0).isSome&&bif bI ((pV (fb a.aa) (wr .i64 c.az) a b c 0).getD default) then true else true)))))))
theorem P91 (a:Pos) (b:Pos) (c:Mv) (h:GD a b c=true):PS Pz 91 [Pos.av a,Pos.av b,Mv.av c] ((dI .i8).res (eP a b c)):=pq14 ah8 h
def G91:GT:=g3 aY aY va (fun a b c=>cp (GD a b c) ((dI .i8).res (eP a b c)))
theorem s91:Sound Pz 91 G91:=dv fun a b c=>aC (P91 a b c)
def K92:KT:=[(92,8,[(0,[0]),(1,[0,4]),(2,[2]),(3,[2])])]
def B92:aw:=bO Pz K92 [] [] []
theorem afG:aW B92:=aj ak trivial trivial trivial
def ep (a:Int):Int:=(bif decide (a≥10000) then (a) else (wr .i64 (a+1)))
def ag9 (a:Int):Bool:=true
theorem P92 (a:Int) (h:ag9 a=true):PS Pz 92 [.int .i64 a] ((dI .i64).res (ep a)):=pq14 afG h
def G92:GT:=g1 (dI .i64) (fun a=>.ret ((dI .i64).res (ep a)))
theorem s92:Sound Pz 92 G92:=aH fun a=>bV (P92 a rfl)
def K36:KT:=[(36,118,[(0,(2::3::4::26::27::(rn 58 12 (77::78::(rn 96 6 (rn 104 4 [])))))),(1,(rn 2 4 (26::27::(rn 58 12 (77::78::(rn 96 6 (rn 104 4 []))))))),(2,(rn 2 5 (26::27::(rn 58 12 (77::78::(rn 96 6 (rn 104 4 []))))))),(3,(rn 2 5 (26::27::(rn 58 12 (77::78::(rn 96 6 (rn 104 4 []))))))),(4,(rn 2 5 (28::(rn 58 12 (77::78::(rn 96 6 (rn 104 4 []))))))),(5,(rn 2 6 (rn 58 12 (77::78::(rn 96 6 (rn 104 4 [])))))),(6,(rn 2 7 (rn 58 12 (77::78::(rn 96 6 (rn 104 4 [])))))),(7,(rn 2 7 (35::(rn 58 12 (77::78::(rn 96 6 (rn 104 4 []))))))),(8,(rn 2 7 (rn 58 12 (77::78::(rn 96 6 (rn 104 4 [])))))),(9,(rn 2 7 (40::(rn 58 12 (77::78::(rn 96 6 (rn 104 4 []))))))),(10,(rn 2 7 (rn 58 12 (77::78::(rn 96 6 (rn 104 4 [])))))),(11,(rn 2 5 (rn 58 12 (77::78::(rn 96 6 (rn 104 4 [])))))),(12,(rn 2 5 (rn 58 12 (77::78::(rn 96 6 (rn 104 4 [])))))),(13,(2::4::5::6::9::77::78::(rn 96 6 (rn 104 4 [])))),(14,(2::4::5::6::9::77::78::(rn 96 6 (rn 104 4 [])))),(15,(2::4::6::79::(rn 96 6 (rn 104 4 [])))),(16,(2::4::6::(rn 96 6 (rn 104 4 [])))),(17,(2::4::6::83::(rn 96 6 (rn 104 4 [])))),(18,(2::4::6::(rn 96 6 (rn 104 4 [])))),(19,(2::4::6::(rn 96 6 (rn 104 4 [])))),(20,[2,4,6,108]),(21,[4,6]),(22,[4])])]
def abP:aw:=bO Pz K36 [(33,G33),(39,ZB),(82,mV),(86,G86),(87,G87),(88,G88),(89,X6),(90,G90),(91,G91),(92,G92)] [] []
theorem Vq:aW abP:=aj ak ⟨s33,s39,nm,s86,s87,s88,s89,s90,s91,s92,trivial⟩ trivial trivial
def SB (p1:Int) (p2:(BitVec 64)) (p3:Pos) (p4:Mv) (x:(Int×Pos)):St:=St.mk (.any::.any::.ptr 0 0::.ptr 1 0::.ptr 2 0::.int .i64 p1::.ptr 3 0::.u64 p2::.int .i64 x.1::(an 49 (.undef::.undef::.undef::.undef::.undef::.undef::.undef::.undef::.undef::.undef::.undef::.undef::(an 7 (.undef::.undef::(an 17 (.undef::.undef::.undef::.undef::.undef::.undef::.any::.any::.undef::.undef::.undef::.undef::(an 10 [])))))))) (Hp.mk [(pc p3 []),[.int .i8 p4.az,.int .i8 p4.to,.int .u8 p4.bQ,.int .u8 p4.aX,.bool p4.bP],zpB,(pc x.2 [])] [] [] 0 0 0)
def Rm (p1:Int) (p2:(BitVec 64)) (p3:Pos) (p4:Mv):(Int×Bool×Pos)→Out:=fun y=>.exit 0 (St.mk (.any::.any::.ptr 0 0::.ptr 1 0::.ptr 2 0::.int .i64 p1::.ptr 3 0::.u64 p2::.int .i64 y.1::(an 26 (.bool y.2.1::(an 22 (.undef::.undef::.undef::.undef::.undef::.undef::.undef::.undef::.undef::.undef::.undef::.undef::(an 7 (.undef::.undef::(an 17 (.undef::.undef::.undef::.undef::.undef::.undef::.any::.any::.undef::.undef::.undef::.undef::(an 10 [])))))))))) (Hp.mk [(pc p3 []),[.int .i8 p4.az,.int .i8 p4.to,.int .u8 p4.bQ,.int .u8 p4.aX,.bool p4.bP],zpB,(pc y.2.2 [])] [] [] 0 0 0))
def KX (p1:Int) (p2:(BitVec 64)) (p3:Pos) (p4:Mv) (x:(Int×Pos)):aG (Int×Pos) ((Int×Bool×Pos)):=(bif decide (x.1<64) then (bif Ck p2 x.1 then (aG.go (wr .i64 (x.1+1),Pos.mk x.2.variant (x.2.ae.set (scale 1 x.1).toNat 0) x.2.ab x.2.af x.2.aa x.2.ai x.2.ah x.2.ag x.2.half x.2.full)) else (aG.go (wr .i64 (x.1+1),x.2))) else (aG.out ((x.1,decide (x.1<64),x.2))))
def EP (p1:Int) (p2:(BitVec 64)) (p3:Pos) (p4:Mv) (x:(Int×Pos)):Bool:=(bif decide (x.1<64) then (bif Ck p2 x.1 then (decide (0≤x.1)&&decide (x.1<Int.ofNat 64)&&true) else true) else true)
def lH (p1:Int) (p2:(BitVec 64)) (p3:Pos) (p4:Mv) (x:(Int×Pos)):Option ((Int×Bool×Pos)):=cO (fun x=>bif EP p1 p2 p3 p4 x then KX p1 p2 p3 p4 x else .bad) many x
abbrev R8 {α:Type} (k:Int→(BitVec 64)→Pos→Mv→(Int×Pos)→α) (s:St):α:=wP s 0 fun q0=>wP s 3 fun q3=>wM s 1 fun q1=>k (tI (tT s 5)) (tU (tT s 7)) q0 q1 ((tI (tT s 8)),q3)
theorem Xr (p1:Int) (p2:(BitVec 64)) (p3:Pos) (p4:Mv) (x:(Int×Pos)) (r:(Int×Bool×Pos)) (h:lH p1 p2 p3 p4 x=some r):ay Pz (aT Pz 36 7) (SB p1 p2 p3 p4 x) (Rm p1 p2 p3 p4 r):=smq (m:=12) (fn:=36) Vq (R8 fun _ _ _ _ x=>some x) (fun o=>match o with | .exit 0 s=>wP s 3 fun q3=>some ((tI (tT s 8)),(tB (tT s 35)),q3) | _=>none) many x r h
def SL (b:Code) (s:St):Tr Out:=R8 (fun p1 p2 p3 p4 x=>lq b (aT Pz 36 7) s (SB p1 p2 p3 p4 x) (lH p1 p2 p3 p4 x) (Rm p1 p2 p3 p4)) s
theorem VK:∀ b,aM Pz b (SL b):=fun _ _ _ h=>bK (Xr _ _ _ _ _) h
def B36:aw:=bO Pz K36 [(33,G33),(39,ZB),(82,mV),(86,G86),(87,G87),(88,G88),(89,X6),(90,G90),(91,G91),(92,G92)] [(36,7,SL)] []
theorem aje:aW B36:=aj ak ⟨s33,s39,nm,s86,s87,s88,s89,s90,s91,s92,trivial⟩ ⟨VK,trivial⟩ trivial
def vy (a:Pos) (b:Mv):Pos:=let z1:=(Ps a ((lH (iO a b) (MG (Bw a (Aa a b (iO a b)) b (iO a b)) (wr .i64 b.to)) a b (0,Bw a (Aa a b (iO a b)) b (iO a b))).getD default).2.2 b (iO a b));let z2:=(Ps a (Bw a (Aa a b (iO a b)) b (iO a b)) b (iO a b));let z3:=(bif a.aa==1 then (bif z2.variant==5 then (bif decide (z2.ag.getD (scale 1 a.aa).toNat 0<3) then (bif nF (Pos.mk z2.variant z2.ae z2.ab z2.af (wr .u8 (1-a.aa)) z2.ai (eP a z2 b) z2.ag 0 (ep a.full)) (wr .u8 (1-a.aa)) then (Pos.mk (z2.variant) (z2.ae) (z2.ab) (z2.af) (wr .u8 (1-a.aa)) (z2.ai) (eP a z2 b) (z2.ag.set (scale 1 a.aa).toNat (wr .u8 (z2.ag.getD (scale 1 a.aa).toNat 0+1))) 0 (ep a.full)) else (Pos.mk (z2.variant) (z2.ae) (z2.ab) (z2.af) (wr .u8 (1-a.aa)) (z2.ai) (eP a z2 b) (z2.ag) 0 (ep a.full))) else (Pos.mk (z2.variant) (z2.ae) (z2.ab) (z2.af) (wr .u8 (1-a.aa)) (z2.ai) (eP a z2 b) (z2.ag) 0 (ep a.full))) else (Pos.mk (z2.variant) (z2.ae) (z2.ab) (z2.af) (wr .u8 (1-a.aa)) (z2.ai) (eP a z2 b) (z2.ag) 0 (ep a.full))) else (bif z2.variant==5 then (bif decide (z2.ag.getD (scale 1 a.aa).toNat 0<3) then (bif nF (Pos.mk z2.variant z2.ae z2.ab z2.af (wr .u8 (1-a.aa)) z2.ai (eP a z2 b) z2.ag 0 z2.full) (wr .u8 (1-a.aa)) then (Pos.mk (z2.variant) (z2.ae) (z2.ab) (z2.af) (wr .u8 (1-a.aa)) (z2.ai) (eP a z2 b) (z2.ag.set (scale 1 a.aa).toNat (wr .u8 (z2.ag.getD (scale 1 a.aa).toNat 0+1))) 0 (z2.full)) else (Pos.mk (z2.variant) (z2.ae) (z2.ab) (z2.af) (wr .u8 (1-a.aa)) (z2.ai) (eP a z2 b) (z2.ag) 0 (z2.full))) else (Pos.mk (z2.variant) (z2.ae) (z2.ab) (z2.af) (wr .u8 (1-a.aa)) (z2.ai) (eP a z2 b) (z2.ag) 0 (z2.full))) else (Pos.mk (z2.variant) (z2.ae) (z2.ab) (z2.af) (wr .u8 (1-a.aa)) (z2.ai) (eP a z2 b) (z2.ag) 0 (z2.full))));let z4:=(bif decide (iO a b≥0) then z3 else (bif a.aa==1 then (bif z2.variant==5 then (bif decide (z2.ag.getD (scale 1 a.aa).toNat 0<3) then (bif nF (Pos.mk z2.variant z2.ae z2.ab z2.af (wr .u8 (1-a.aa)) z2.ai (eP a z2 b) z2.ag (ep a.half) (ep a.full)) (wr .u8 (1-a.aa)) then (Pos.mk (z2.variant) (z2.ae) (z2.ab) (z2.af) (wr .u8 (1-a.aa)) (z2.ai) (eP a z2 b) (z2.ag.set (scale 1 a.aa).toNat (wr .u8 (z2.ag.getD (scale 1 a.aa).toNat 0+1))) (ep a.half) (ep a.full)) else (Pos.mk (z2.variant) (z2.ae) (z2.ab) (z2.af) (wr .u8 (1-a.aa)) (z2.ai) (eP a z2 b) (z2.ag) (ep a.half) (ep a.full))) else (Pos.mk (z2.variant) (z2.ae) (z2.ab) (z2.af) (wr .u8 (1-a.aa)) (z2.ai) (eP a z2 b) (z2.ag) (ep a.half) (ep a.full))) else (Pos.mk (z2.variant) (z2.ae) (z2.ab) (z2.af) (wr .u8 (1-a.aa)) (z2.ai) (eP a z2 b) (z2.ag) (ep a.half) (ep a.full))) else (bif z2.variant==5 then (bif decide (z2.ag.getD (scale 1 a.aa).toNat 0<3) then (bif nF (Pos.mk z2.variant z2.ae z2.ab z2.af (wr .u8 (1-a.aa)) z2.ai (eP a z2 b) z2.ag (ep a.half) z2.full) (wr .u8 (1-a.aa)) then (Pos.mk (z2.variant) (z2.ae) (z2.ab) (z2.af) (wr .u8 (1-a.aa)) (z2.ai) (eP a z2 b) (z2.ag.set (scale 1 a.aa).toNat (wr .u8 (z2.ag.getD (scale 1 a.aa).toNat 0+1))) (ep a.half) (z2.full)) else (Pos.mk (z2.variant) (z2.ae) (z2.ab) (z2.af) (wr .u8 (1-a.aa)) (z2.ai) (eP a z2 b) (z2.ag) (ep a.half) (z2.full))) else (Pos.mk (z2.variant) (z2.ae) (z2.ab) (z2.af) (wr .u8 (1-a.aa)) (z2.ai) (eP a z2 b) (z2.ag) (ep a.half) (z2.full))) else (Pos.mk (z2.variant) (z2.ae) (z2.ab) (z2.af) (wr .u8 (1-a.aa)) (z2.ai) (eP a z2 b) (z2.ag) (ep a.half) (z2.full)))));let z5:=(bif a.aa==1 then (bif z1.variant==5 then (bif decide (z1.ag.getD (scale 1 a.aa).toNat 0<3) then (bif nF (Pos.mk z1.variant z1.ae z1.ab z1.af (wr .u8 (1-a.aa)) z1.ai (eP a z1 b) z1.ag 0 (ep a.full)) (wr .u8 (1-a.aa)) then (Pos.mk (z1.variant) (z1.ae) (z1.ab) (z1.af) (wr .u8 (1-a.aa)) (z1.ai) (eP a z1 b) (z1.ag.set (scale 1 a.aa).toNat (wr .u8 (z1.ag.getD (scale 1 a.aa).toNat 0+1))) 0 (ep a.full)) else (Pos.mk (z1.variant) (z1.ae) (z1.ab) (z1.af) (wr .u8 (1-a.aa)) (z1.ai) (eP a z1 b) (z1.ag) 0 (ep a.full))) else (Pos.mk (z1.variant) (z1.ae) (z1.ab) (z1.af) (wr .u8 (1-a.aa)) (z1.ai) (eP a z1 b) (z1.ag) 0 (ep a.full))) else (Pos.mk (z1.variant) (z1.ae) (z1.ab) (z1.af) (wr .u8 (1-a.aa)) (z1.ai) (eP a z1 b) (z1.ag) 0 (ep a.full))) else (bif z1.variant==5 then (bif decide (z1.ag.getD (scale 1 a.aa).toNat 0<3) then (bif nF (Pos.mk z1.variant z1.ae z1.ab z1.af (wr .u8 (1-a.aa)) z1.ai (eP a z1 b) z1.ag 0 z1.full) (wr .u8 (1-a.aa)) then (Pos.mk (z1.variant) (z1.ae) (z1.ab) (z1.af) (wr .u8 (1-a.aa)) (z1.ai) (eP a z1 b) (z1.ag.set (scale 1 a.aa).toNat (wr .u8 (z1.ag.getD (scale 1 a.aa).toNat 0+1))) 0 (z1.full)) else (Pos.mk (z1.variant) (z1.ae) (z1.ab) (z1.af) (wr .u8 (1-a.aa)) (z1.ai) (eP a z1 b) (z1.ag) 0 (z1.full))) else (Pos.mk (z1.variant) (z1.ae) (z1.ab) (z1.af) (wr .u8 (1-a.aa)) (z1.ai) (eP a z1 b) (z1.ag) 0 (z1.full))) else (Pos.mk (z1.variant) (z1.ae) (z1.ab) (z1.af) (wr .u8 (1-a.aa)) (z1.ai) (eP a z1 b) (z1.ag) 0 (z1.full))));let z6:=(bif decide (iO a b≥0) then z5 else (bif a.aa==1 then (bif z1.variant==5 then (bif decide (z1.ag.getD (scale 1 a.aa).toNat 0<3) then (bif nF (Pos.mk z1.variant z1.ae z1.ab z1.af (wr .u8 (1-a.aa)) z1.ai (eP a z1 b) z1.ag (ep a.half) (ep a.full)) (wr .u8 (1-a.aa)) then (Pos.mk (z1.variant) (z1.ae) (z1.ab) (z1.af) (wr .u8 (1-a.aa)) (z1.ai) (eP a z1 b) (z1.ag.set (scale 1 a.aa).toNat (wr .u8 (z1.ag.getD (scale 1 a.aa).toNat 0+1))) (ep a.half) (ep a.full)) else (Pos.mk (z1.variant) (z1.ae) (z1.ab) (z1.af) (wr .u8 (1-a.aa)) (z1.ai) (eP a z1 b) (z1.ag) (ep a.half) (ep a.full))) else (Pos.mk (z1.variant) (z1.ae) (z1.ab) (z1.af) (wr .u8 (1-a.aa)) (z1.ai) (eP a z1 b) (z1.ag) (ep a.half) (ep a.full))) else (Pos.mk (z1.variant) (z1.ae) (z1.ab) (z1.af) (wr .u8 (1-a.aa)) (z1.ai) (eP a z1 b) (z1.ag) (ep a.half) (ep a.full))) else (bif z1.variant==5 then (bif decide (z1.ag.getD (scale 1 a.aa).toNat 0<3) then (bif nF (Pos.mk z1.variant z1.ae z1.ab z1.af (wr .u8 (1-a.aa)) z1.ai (eP a z1 b) z1.ag (ep a.half) z1.full) (wr .u8 (1-a.aa)) then (Pos.mk (z1.variant) (z1.ae) (z1.ab) (z1.af) (wr .u8 (1-a.aa)) (z1.ai) (eP a z1 b) (z1.ag.set (scale 1 a.aa).toNat (wr .u8 (z1.ag.getD (scale 1 a.aa).toNat 0+1))) (ep a.half) (z1.full)) else (Pos.mk (z1.variant) (z1.ae) (z1.ab) (z1.af) (wr .u8 (1-a.aa)) (z1.ai) (eP a z1 b) (z1.ag) (ep a.half) (z1.full))) else (Pos.mk (z1.variant) (z1.ae) (z1.ab) (z1.af) (wr .u8 (1-a.aa)) (z1.ai) (eP a z1 b) (z1.ag) (ep a.half) (z1.full))) else (Pos.mk (z1.variant) (z1.ae) (z1.ab) (z1.af) (wr .u8 (1-a.aa)) (z1.ai) (eP a z1 b) (z1.ag) (ep a.half) (z1.full)))));let z7:=(bif b.aX==1 then z3 else (bif b.aX==0 then (bif bg (a.ae.getD (scale 1 b.az).toNat 0)==1 then z3 else z4) else z4)); (bif a.variant==3 then (bif decide (iO a b≥0) then (bif b.aX==1 then z5 else (bif b.aX==0 then (bif bg (a.ae.getD (scale 1 b.az).toNat 0)==1 then z5 else z6) else z6)) else z7) else z7)
def BY (a:Pos) (b:Mv):Bool:=let z2:=(Ps a (Bw a (Aa a b (iO a b)) b (iO a b)) b (iO a b));let z3:=(bif a.aa==1 then (bif z2.variant==5 then (decide (0≤a.aa)&&decide (a.aa<Int.ofNat 2)&&(bif decide (z2.ag.getD (scale 1 a.aa).toNat 0<3) then (jk (Pos.mk z2.variant z2.ae z2.ab z2.af (wr .u8 (1-a.aa)) z2.ai (eP a z2 b) z2.ag 0 (ep a.full)) (wr .u8 (1-a.aa))&&(bif nF (Pos.mk z2.variant z2.ae z2.ab z2.af (wr .u8 (1-a.aa)) z2.ai (eP a z2 b) z2.ag 0 (ep a.full)) (wr .u8 (1-a.aa)) then (decide (0≤a.aa)&&decide (a.aa<Int.ofNat 2)&&(decide (0≤a.aa)&&decide (a.aa<Int.ofNat 2)&&true)) else true)) else true)) else true) else (bif z2.variant==5 then (decide (0≤a.aa)&&decide (a.aa<Int.ofNat 2)&&(bif decide (z2.ag.getD (scale 1 a.aa).toNat 0<3) then (jk (Pos.mk z2.variant z2.ae z2.ab z2.af (wr .u8 (1-a.aa)) z2.ai (eP a z2 b) z2.ag 0 z2.full) (wr .u8 (1-a.aa))&&(bif nF (Pos.mk z2.variant z2.ae z2.ab z2.af (wr .u8 (1-a.aa)) z2.ai (eP a z2 b) z2.ag 0 z2.full) (wr .u8 (1-a.aa)) then (decide (0≤a.aa)&&decide (a.aa<Int.ofNat 2)&&(decide (0≤a.aa)&&decide (a.aa<Int.ofNat 2)&&true)) else true)) else true)) else true));let z4:=(bif decide (iO a b≥0) then z3 else (bif a.aa==1 then (bif z2.variant==5 then (decide (0≤a.aa)&&decide (a.aa<Int.ofNat 2)&&(bif decide (z2.ag.getD (scale 1 a.aa).toNat 0<3) then (jk (Pos.mk z2.variant z2.ae z2.ab z2.af (wr .u8 (1-a.aa)) z2.ai (eP a z2 b) z2.ag (ep a.half) (ep a.full)) (wr .u8 (1-a.aa))&&(bif nF (Pos.mk z2.variant z2.ae z2.ab z2.af (wr .u8 (1-a.aa)) z2.ai (eP a z2 b) z2.ag (ep a.half) (ep a.full)) (wr .u8 (1-a.aa)) then (decide (0≤a.aa)&&decide (a.aa<Int.ofNat 2)&&(decide (0≤a.aa)&&decide (a.aa<Int.ofNat 2)&&true)) else true)) else true)) else true) else (bif z2.variant==5 then (decide (0≤a.aa)&&decide (a.aa<Int.ofNat 2)&&(bif decide (z2.ag.getD (scale 1 a.aa).toNat 0<3) then (jk (Pos.mk z2.variant z2.ae z2.ab z2.af (wr .u8 (1-a.aa)) z2.ai (eP a z2 b) z2.ag (ep a.half) z2.full) (wr .u8 (1-a.aa))&&(bif nF (Pos.mk z2.variant z2.ae z2.ab z2.af (wr .u8 (1-a.aa)) z2.ai (eP a z2 b) z2.ag (ep a.half) z2.full) (wr .u8 (1-a.aa)) then (decide (0≤a.aa)&&decide (a.aa<Int.ofNat 2)&&(decide (0≤a.aa)&&decide (a.aa<Int.ofNat 2)&&true)) else true)) else true)) else true)));let z7:=(Gx (a) (Bw a (Aa a b (iO a b)) b (iO a b)) (b) (iO a b)&&(GD (a) z2 (b)&&(bif b.aX==1 then z3 else (bif b.aX==0 then (decide (0≤b.az)&&decide (b.az<Int.ofNat 64)&&(bif bg (a.ae.getD (scale 1 b.az).toNat 0)==1 then z3 else z4)) else z4))));let z8:=(lH (iO a b) (MG (Bw a (Aa a b (iO a b)) b (iO a b)) (wr .i64 b.to)) a b (0,Bw a (Aa a b (iO a b)) b (iO a b)));let z1:=(Ps a (z8.getD default).2.2 b (iO a b));let z5:=(bif a.aa==1 then (bif z1.variant==5 then (decide (0≤a.aa)&&decide (a.aa<Int.ofNat 2)&&(bif decide (z1.ag.getD (scale 1 a.aa).toNat 0<3) then (jk (Pos.mk z1.variant z1.ae z1.ab z1.af (wr .u8 (1-a.aa)) z1.ai (eP a z1 b) z1.ag 0 (ep a.full)) (wr .u8 (1-a.aa))&&(bif nF (Pos.mk z1.variant z1.ae z1.ab z1.af (wr .u8 (1-a.aa)) z1.ai (eP a z1 b) z1.ag 0 (ep a.full)) (wr .u8 (1-a.aa)) then (decide (0≤a.aa)&&decide (a.aa<Int.ofNat 2)&&(decide (0≤a.aa)&&decide (a.aa<Int.ofNat 2)&&true)) else true)) else true)) else true) else (bif z1.variant==5 then (decide (0≤a.aa)&&decide (a.aa<Int.ofNat 2)&&(bif decide (z1.ag.getD (scale 1 a.aa).toNat 0<3) then (jk (Pos.mk z1.variant z1.ae z1.ab z1.af (wr .u8 (1-a.aa)) z1.ai (eP a z1 b) z1.ag 0 z1.full) (wr .u8 (1-a.aa))&&(bif nF (Pos.mk z1.variant z1.ae z1.ab z1.af (wr .u8 (1-a.aa)) z1.ai (eP a z1 b) z1.ag 0 z1.full) (wr .u8 (1-a.aa)) then (decide (0≤a.aa)&&decide (a.aa<Int.ofNat 2)&&(decide (0≤a.aa)&&decide (a.aa<Int.ofNat 2)&&true)) else true)) else true)) else true));let z6:=(bif decide (iO a b≥0) then z5 else (bif a.aa==1 then (bif z1.variant==5 then (decide (0≤a.aa)&&decide (a.aa<Int.ofNat 2)&&(bif decide (z1.ag.getD (scale 1 a.aa).toNat 0<3) then (jk (Pos.mk z1.variant z1.ae z1.ab z1.af (wr .u8 (1-a.aa)) z1.ai (eP a z1 b) z1.ag (ep a.half) (ep a.full)) (wr .u8 (1-a.aa))&&(bif nF (Pos.mk z1.variant z1.ae z1.ab z1.af (wr .u8 (1-a.aa)) z1.ai (eP a z1 b) z1.ag (ep a.half) (ep a.full)) (wr .u8 (1-a.aa)) then (decide (0≤a.aa)&&decide (a.aa<Int.ofNat 2)&&(decide (0≤a.aa)&&decide (a.aa<Int.ofNat 2)&&true)) else true)) else true)) else true) else (bif z1.variant==5 then (decide (0≤a.aa)&&decide (a.aa<Int.ofNat 2)&&(bif decide (z1.ag.getD (scale 1 a.aa).toNat 0<3) then (jk (Pos.mk z1.variant z1.ae z1.ab z1.af (wr .u8 (1-a.aa)) z1.ai (eP a z1 b) z1.ag (ep a.half) z1.full) (wr .u8 (1-a.aa))&&(bif nF (Pos.mk z1.variant z1.ae z1.ab z1.af (wr .u8 (1-a.aa)) z1.ai (eP a z1 b) z1.ag (ep a.half) z1.full) (wr .u8 (1-a.aa)) then (decide (0≤a.aa)&&decide (a.aa<Int.ofNat 2)&&(decide (0≤a.aa)&&decide (a.aa<Int.ofNat 2)&&true)) else true)) else true)) else true))); (A3 (a) (b)&&(zP (a) (b) (iO a b)&&(xP (a) (Aa a b (iO a b)) (b) (iO a b)&&(bif a.variant==3 then (bif decide (iO a b≥0) then (JI (Bw a (Aa a b (iO a b)) b (iO a b)) (wr .i64 b.to)&&(z8.isSome&&(Gx (a) ((z8.getD default).2.2) (b) (iO a b)&&(GD (a) z1 (b)&&(bif b.aX==1 then z5 else (bif b.aX==0 then (decide (0≤b.az)&&decide (b.az<Int.ofNat 64)&&(bif bg (a.ae.getD (scale 1 b.az).toNat 0)==1 then z5 else z6)) else z6)))))) else z7) else z7))))
theorem P36 (a:Pos) (b:Mv) (h:BY a b=true):PS Pz 36 [Pos.av a,Mv.av b] (aY.res (vy a b)):=pq14 aje h
def T8:GT:=g2 aY va (fun a b=>cp (BY a b) (aY.res (vy a b)))
theorem WI:Sound Pz 36 T8:=bb fun a b=>aC (P36 a b)
end Kz
end
noncomputable section
namespace Kz
open Go Go.RowKit
theorem eW {p:Pos} (hp:aA p) (ht:p.aa≤1):∃ t:Nat,p.aa=t∧t≤1:=by
 have t0:=hp.t0
 obtain ⟨t,h⟩:=Int.eq_ofNat_of_zero_le t0
 exact ⟨t,h,by omega⟩
theorem n140 {t:Nat} (ht:t≤1):cg (t:Int)=((56 * t:Nat):Int):=by
 rw [oY (by omega) (by omega)];omega
theorem Fz {p:Pos} (hp:aA p) {t:Nat} (hpt:p.aa=t) (ht:t≤1) {b c:Int}:(bW p b c).2=true→∃ f:Nat,f≤7∧(bW p b c).1=((56 * t+f:Nat):Int)∧((56 * t+f:Nat):Int)≠b:=by
 have hr:=gu (d:=0) hp.r0 (by omega) (scale 2 p.aa+scale 1 c).toNat
 unfold bW
 rw [hpt] at hr ⊢
 rw [n140 ht]
 generalize p.ai.getD (scale 2 (t:Int)+scale 1 c).toNat 0=f at hr ⊢
 rw [aF (n:=f) (by omega) (by omega),aF (n:=((56 * t:Nat):Int)+f) (by omega) (by omega)]
 refine aq (P:=fun x:Int×Bool=>x.2=true→∃ f:Nat,f≤7∧x.1=((56 * t+f:Nat):Int)∧((56 * t+f:Nat):Int)≠b) (fun _ h=>by cases h) fun h1=>aq (P:=fun x:Int×Bool=>x.2=true→∃ f:Nat,f≤7∧x.1=((56 * t+f:Nat):Int)∧((56 * t+f:Nat):Int)≠b) (fun _ h=>by cases h) fun h2=>aq (P:=fun x:Int×Bool=>x.2=true→∃ f:Nat,f≤7∧x.1=((56 * t+f:Nat):Int)∧((56 * t+f:Nat):Int)≠b) (fun _=>?_) fun _ h=>by cases h
 have h1:¬ f<0:=by simpa using h1
 have h2:¬ f>7:=by simpa using h2
 refine aq (P:=fun x:Int×Bool=>x.2=true→∃ f:Nat,f≤7∧x.1=((56 * t+f:Nat):Int)∧((56 * t+f:Nat):Int)≠b) (fun _ h=>?_) fun _ h=>by cases h
 have h:(((56 * t:Nat):Int)+f != b)=true:=h
 rw [bne_iff_ne] at h
 exact ⟨f.toNat,by omega,by show ((56 * t:Nat):Int)+f=_;omega,by omega⟩
theorem qT {p:Pos} (hp:aA p) {t:Nat} (hpt:p.aa=t) (ht:t≤1) {m:Mv} (h:m∈dJ p):∃ k r:Nat,m.az=k∧m.to=r∧56 * t≤k∧k≤56 * t+7∧56 * t≤r∧r≤56 * t+7∧k≠r:=by
 revert h
 unfold dJ
 have hk:=gx p p.aa 6
 have ht1:p.aa≤1:=by omega
 refine aq (P:=fun l:M'=>m∈l→_) (fun _ h=>by cases h) fun _=>?_
 refine aq (P:=fun l:M'=>m∈l→_) (fun _ h=>by cases h) fun _=>aq (P:=fun l:M'=>m∈l→_) (fun _ h=>by cases h) fun hk0=>aq (P:=fun l:M'=>m∈l→_) (fun _ h=>by cases h) fun hh=>?_
 have hk0:0≤aZ p p.aa 6:=by simpa using hk0
 rw [hpt,n140 ht] at hh
 rw [← hpt] at hh
 obtain ⟨k,hk'⟩:=Int.eq_ofNat_of_zero_le hk0
 rw [hk',Int.tdiv_eq_ediv_of_nonneg (by omega),Int.tdiv_eq_ediv_of_nonneg (by omega),aF (by omega) (by omega),aF (by omega) (by omega),bne_eq_false_iff_eq] at hh
 have key:∀ c,(c9 p (aZ p p.aa 6) c).2=true→m=(c9 p (aZ p p.aa 6) c).1→∃ k r:Nat,m.az=k∧m.to=r∧56 * t≤k∧k≤56 * t+7∧56 * t≤r∧r≤56 * t+7∧k≠r:=by
  intro c h1 h2
  obtain ⟨a1,_,_,_,_,_,a7,a8⟩:=oI hp ht1 hk0 hk.2 h1
  obtain ⟨f,f7,e1,e2⟩:=Fz hp hpt ht a8
  rw [← h2] at a1 a7
  rw [a7,e1]
  exact ⟨k,56 * t+f,by rw [a1,hk'],rfl,by omega,by omega,by omega,by omega,by omega⟩
 refine aq (P:=fun l:M'=>m∈l→_) (fun h1=>aq (P:=fun l:M'=>m∈l→_) (fun h2 h=>?_) fun _ h=>?_) fun _=>aq (P:=fun l:M'=>m∈l→_) (fun h2 h=>?_) fun _ h=>by cases h
 ·simp only [List.nil_append,List.mem_append,List.mem_singleton] at h
  rcases h with h | h
  ·exact key _ h1 h
  ·exact key _ h2 h
 ·simp only [List.nil_append,List.mem_singleton] at h
  exact key _ h1 h
 ·simp only [List.nil_append,List.mem_singleton] at h
  exact key _ h2 h
theorem zM {p:Pos} {t:Nat} (hpt:p.aa=t) (ht:t≤1) {m:Mv} (hc:m.bP=true) {k r:Nat} (hk:m.az=k) (hr:m.to=r) (k0:56 * t≤k) (k7:k≤56 * t+7) (r0:56 * t≤r) (r7:r≤56 * t+7) (hkr:k≠r) :
  (ga p m).1=wr .i64 (wr .i64 (56 * wr .i64 p.aa)+(dF (pG p m)).1)∧(ga p m).2.1=wr .i64 (wr .i64 (56 * wr .i64 p.aa)+(dF (pG p m)).2)∧0≤(ga p m).1∧(ga p m).1<64∧0≤(ga p m).2.1∧(ga p m).2.1<64:=by
 have tw:wr .i64 (t:Int)=t:=aF (by omega) (by omega)
 have hb:=D7 (p:=p) (by omega) (by omega) m
 have e145:gM p m=if r>k then 0 else 1:=by
  unfold gM
  rw [hpt,hc,hk,hr,n140 ht,aF (n:=(k:Int)) (by omega) (by omega),aF (n:=(r:Int)) (by omega) (by omega),aF (n:=(k:Int)-((56 * t:Nat):Int)) (by omega) (by omega),aF (n:=(r:Int)-((56 * t:Nat):Int)) (by omega) (by omega),
   decide_eq_false (show ¬ ((t:Int)>1) by omega),beq_eq_false_iff_ne.2 (show (k:Int)≠r by omega),decide_eq_false (show ¬ ((k:Int)-((56 * t:Nat):Int)<0) by omega),decide_eq_false (show ¬ ((k:Int)-((56 * t:Nat):Int)>7) by omega),decide_eq_false (show ¬ ((r:Int)-((56 * t:Nat):Int)<0) by omega),decide_eq_false (show ¬ ((r:Int)-((56 * t:Nat):Int)>7) by omega)]
  by_cases h:r>k
  ·rw [if_pos h,decide_eq_true (show (r:Int)>k by omega)];rfl
  ·rw [if_neg h,decide_eq_false (show ¬ (r:Int)>k by omega)];rfl
 have e164:pG p m=if r>k then 0 else 1:=by
  have d1:(wr .i8 ((k:Int).tdiv 8) != wr .i8 (wr .u8 (7 * (t:Int))))=false:=by
   rw [Int.tdiv_eq_ediv_of_nonneg (by omega),G3 (by omega) (by omega),ni (by omega) (by omega),G3 (by omega) (by omega),bne_eq_false_iff_eq]
   omega
  have d2:(wr .i8 ((r:Int).tdiv 8) != wr .i8 (wr .u8 (7 * (t:Int))))=false:=by
   rw [Int.tdiv_eq_ediv_of_nonneg (by omega),G3 (by omega) (by omega),ni (by omega) (by omega),G3 (by omega) (by omega),bne_eq_false_iff_eq]
   omega
  unfold pG
  rw [hpt,hc,hk,hr,d1,d2,decide_eq_false (show ¬ ((t:Int)>1) by omega),beq_eq_false_iff_ne.2 (show (k:Int)≠r by omega),decide_eq_false (show ¬ ((k:Int)<0) by omega),decide_eq_false (show ¬ ((k:Int)>63) by omega),decide_eq_false (show ¬ ((r:Int)<0) by omega),decide_eq_false (show ¬ ((r:Int)>63) by omega)]
  by_cases h:r>k
  ·rw [if_pos h,decide_eq_true (show (r:Int)>k by omega)];rfl
  ·rw [if_neg h,decide_eq_false (show ¬ (r:Int)>k by omega)];rfl
 have e':gM ⟨p.variant,p.ae,p.ab,p.af,p.aa,p.ai,p.ah,p.ag,p.half,p.full⟩ ⟨m.az,m.to,m.bQ,m.aX,m.bP⟩=gM p m:=rfl
 have two:∀ s:Int,s=0∨s=1→gM p m=s→(ga p m).1=wr .i64 (wr .i64 (56 * wr .i64 p.aa)+(dF s).1)∧(ga p m).2.1=wr .i64 (wr .i64 (56 * wr .i64 p.aa)+(dF s).2):=by
  intro s hs e
  unfold ga
  rw [e',e,hpt,n140 ht]
  rcases hs with rfl | rfl<;>rcases (show t=0∨t=1 by omega) with rfl | rfl<;>exact ⟨by decide,by decide⟩
 obtain ⟨h1,h2⟩:=two (if r>k then 0 else 1) (by split<;>simp) e145
 rw [e164]
 exact ⟨h1,h2,hb⟩
theorem xm {t:Nat} (ht:t≤1) {k:Int} (k1:1≤k) (k6:k≤6):jB (t:Int) k=wr .u8 (wr .u8 (8 * (t:Int))+k):=by
 unfold jB
 rw [decide_eq_false (show ¬ ((t:Int)>1) by omega),decide_eq_false (show ¬ (k<1) by omega),decide_eq_false (show ¬ (k>6) by omega)]
 rfl
theorem zF {p:Pos} (hp:aA p) {m:Mv} (h:m∈mb p):(p.af.getD (scale 6 p.aa+scale 1 m.aX).toNat 0==0)=false∧p.variant=2:=by
 rw [oC hp.t0] at h
 revert h
 refine aq (P:=fun l:M'=>m∈l→_) (fun _ h=>by cases h) fun _=>aq (P:=fun l:M'=>m∈l→_) (fun _ h=>by cases h) fun hv h=>?_
 obtain ⟨k,_,h⟩:=List.mem_flatMap.1 h
 have v2:p.variant=2:=by
  have v0:=hp.v0
  have v1:=hp.v1
  obtain ⟨n,hn⟩:=Int.eq_ofNat_of_zero_le v0
  have:∀ v:Fin 256,ry v.val=true→v.val=2:=by decide +kernel
  have hv:ry p.variant=true:=by simpa using hv
  rw [hn] at hv
  have:=this ⟨n,by omega⟩ hv
  simp only at this
  omega
 refine ⟨?_,v2⟩
 have hd:m.aX=k:=by
  revert h
  unfold eO
  refine aq (P:=fun l:M'=>m∈l→_) (fun _ h=>by cases h) fun _=>aq (P:=fun l:M'=>m∈l→_) (fun _ h=>?_) fun _ h=>?_
  ·obtain ⟨s,_,h⟩:=List.mem_flatMap.1 h;simp at h;rw [h]
  ·obtain ⟨s,_,h⟩:=List.mem_flatMap.1 h;simp at h;rw [h]
 rw [hd]
 unfold eO at h
 cases hc:p.af.getD (scale 6 p.aa+scale 1 k).toNat 0==0 with
 | false=>rfl
 | true=>rw [hc] at h;cases h
theorem SS {p:Pos} (hp:aA p) {m:Mv} (hm:m∈b8 p):zP p m (bq p m)=true∧Aa p m (bq p m)=bC p m p p m (bq p m):=by
 obtain ⟨hth,f0,f1,o0,o1,_,_,pr0,pr6⟩:=eZ hp hm
 obtain ⟨t,hpt,ht⟩:=eW hp hth.1
 have ht39:=CI hp m
 have if1:=BH f0 f1
 have it1:=BH o0 o1
 rw [kh] at hm
 have body:m.aX=0→m.bP=false→zP p m (bq p m)=true∧Aa p m (bq p m)=bC p m p p m (bq p m):=by
  intro hd hc
  have e93:(m.bQ != 0)=true→wr .u8 (wr .u8 (8 * p.aa)+m.bQ)=jB p.aa m.bQ:=fun h=>by
   rw [bne_iff_ne] at h
   rw [hpt,xm ht (by omega) pr6]
  unfold zP Aa bC
  rw [hc,hd,if1,it1]
  simp only [cond_false,Bool.true_and,show ((0:Int) != 0)=false from rfl]
  constructor
  ·refine ar (fun h=>?_) fun _=>?_
   ·have h:bq p m≥0:=by simpa using h
    rw [BH h ht39.2]
    simp only [Bool.true_and]
    exact ar (fun _=>rfl) fun _=>rfl
   ·exact ar (fun _=>rfl) fun _=>rfl
  ·cases u7:m.bQ != 0 with
   | false=>rfl
   | true=>rw [e93 u7]
 rcases List.mem_append.1 hm with hm | hm
 ·rcases List.mem_append.1 hm with hm | hm
  ·obtain ⟨_,f,g,_,_,_,_,hd,hc,_⟩:=fI hp.v0 hm
   exact body hd hc
  ·obtain ⟨_,_,_,_,_,hc,hd,_⟩:=pg hp hm
   obtain ⟨k,r,hk,hr,k0,k7,r0,r7,hkr⟩:=qT hp hpt ht hm
   obtain ⟨g1,g2,g3,g4,g5,g6⟩:=zM hpt ht hc hk hr k0 k7 r0 r7 hkr
   unfold zP Aa bC
   rw [hc,if1,it1,← g1,← g2,BH g3 g4,BH g5 g6]
   exact ⟨rfl,rfl⟩
 ·obtain ⟨_,_,_,_,_,hc,d1,d5,_⟩:=jA hp.t0 hm
  obtain ⟨pk,_⟩:=zF hp hm
  have e147:ra p.aa m.aX=true:=by
   unfold ra
   rw [decide_eq_true (show p.aa≤1 by omega),decide_eq_true (show m.aX≥1 by omega),decide_eq_true (show m.aX≤5 by omega)]
   rfl
  have e92:gp p p.aa m.aX=(⟨p.variant,p.ae,p.ab,p.af.set (scale 6 p.aa+scale 1 m.aX).toNat (wr .u8 (p.af.getD (scale 6 p.aa+scale 1 m.aX).toNat 0-1)),p.aa,p.ai,p.ah,p.ag,p.half,p.full⟩,true):=by
   unfold gp
   rw [e147,pk]
   rfl
  have hd:(m.aX != 0)=true:=by rw [bne_iff_ne];omega
  have i2:(decide (0≤p.aa)&&decide (p.aa<Int.ofNat 2))=true:=by simp;omega
  have i6:(decide (0≤m.aX)&&decide (m.aX<Int.ofNat 6))=true:=by simp;omega
  unfold zP Aa bC
  rw [hc,if1,it1,hd,e92,i2,i6]
  refine ⟨rfl,?_⟩
  simp only [cond_false,cond_true]
  rw [hpt,xm ht (by omega) (by omega)]
end Kz
end
noncomputable section
namespace Kz
open Go Go.RowKit Go.Proofs
def tc (v c:Int):Bool:=bif bg v==0 then false else kN v==c
def fX (c:Int) (l l':List Int):Prop := ∀ i:Nat,tc (l'.getD i 0) c=true→tc (l.getD i 0) c=true
theorem EG (c:Int):tc 0 c=false:=rfl
theorem JC:∀ (t:Fin 2) (k:Fin 7),tc (jB t.val k.val) (1-t.val)=false:=by decide +kernel
theorem Mh:∀ t:Fin 2,tc (wr .u8 (wr .u8 (8 * (t.val:Int))+4)) (1-t.val)=false:=by decide +kernel
theorem fX.refl {c:Int} (l:List Int):fX c l l:=fun _ h=>h
theorem fX.set {c:Int} {l l':List Int} (h:fX c l l') {v:Int} (hv:tc v c=false) (k:Nat):fX c l (l'.set k v):=fun i hi=>by
 rw [List.getD_eq_getElem?_getD,List.getElem?_set] at hi
 by_cases e:k=i
 ·rw [if_pos e] at hi
  by_cases e2:k<l'.length
  ·rw [if_pos e2] at hi
   change tc v c=true at hi
   rw [hv] at hi
   cases hi
  ·rw [if_neg e2] at hi
   change tc 0 c=true at hi
   rw [EG] at hi
   cases hi
 ·rw [if_neg e] at hi
  exact h i (by rw [List.getD_eq_getElem?_getD];exact hi)
variable {p:Pos} {m:Mv}
theorem Pm (hp:aA p) (ht:p.aa=0∨p.aa=1) {f:Nat} (hf:f<64) (h:(own p).getLsbD f=true):tc (p.ae.getD f 0) (1-p.aa)=false:=by
 have h1:=gJ hp ht ht hf
 rw [show aO p p.aa 0=own p from rfl,h,oT] at h1
 unfold tc
 have e:kN (p.ae.getD f 0)=p.aa:=by
  revert h1
  cases !vA p f with
  | false=>intro h;cases h
  | true=>intro h;exact beq_iff_eq.1 h
 rw [e,beq_eq_false_iff_ne.2 (show p.aa≠1-p.aa by omega)]
 cases (bg (p.ae.getD f 0)==0)<;>rfl
theorem AB (hp:aA p) (ht:p.aa=0∨p.aa=1) (c:Int):rp p c=((List.range 64).filter fun a:Nat=>tc (p.ae.getD a 0) c).length:=by
 unfold rp
 congr 1
 refine List.filter_congr fun a ha=>?_
 rw [oT,Ee (List.mem_range.1 ha) hp ht]
 unfold tc
 cases (bg (p.ae.getD a 0)==0)<;>rfl
theorem Eb {α:Type} (f g:α→Bool) (h:∀ a,f a=true→g a=true):∀ l:List α,(l.filter f).length≤(l.filter g).length
 | []=>Nat.le_refl _
 | a::l=>by
  have h1:=Eb f g h l
  have h2:=h a
  simp only [List.filter_cons]
  cases hf:f a with
  | true=>rw [h2 hf];simpa using h1
  | false=>cases hg:g a<;>simp<;>omega
theorem ahs (q:Pos) (b c:Int):(gp q b c).1.ae=q.ae:=by
 unfold gp
 repeat' (first | exact rfl | refine aq (P:=fun x:Pos×Bool=>x.1.ae=q.ae) (fun _=>?_) (fun _=>?_))
theorem ahj (q:Pos) (b c:Int):(bj q b c).ae=q.ae:=by
 unfold bj
 repeat' (first | exact rfl | refine aq (P:=fun x:Pos=>x.ae=q.ae) (fun _=>?_) (fun _=>?_))
theorem bd2 (q:Pos) (a:Pos) (b:Mv) (c:Int):(bS a b q p m c).ae=q.ae:=by
 unfold bS
 repeat' (first | exact rfl | exact ahj _ _ _ | refine aq (P:=fun x:Pos=>x.ae=q.ae) (fun _=>?_) (fun _=>?_))
theorem bd3 {c:Int} {L:List Int} (l:List Int) (n:Int) (a:Pos) (m1:Mv) (b:Pos) (m2:Mv) (e:Int) {x:Int×Pos} {r:Int×Bool×Pos} (hx:fX c L x.2.ae)
  (h:kr l n a m1 b m2 e x=some r):fX c L r.2.2.ae:=by
 unfold kr at h
 refine rQ (fun x=>fX c L x.2.ae) (fun r=>fX c L r.2.2.ae) (fun x hx=>?_) many x r hx h
 refine aq (P:=fun s=>StA (fun x:Int×Pos=>fX c L x.2.ae) (fun r:Int×Bool×Pos=>fX c L r.2.2.ae) s) (fun _=>?_) fun _=>trivial
 unfold CX
 refine aq (P:=fun s=>StA (fun x:Int×Pos=>fX c L x.2.ae) (fun r:Int×Bool×Pos=>fX c L r.2.2.ae) s) (fun _=>?_) fun _=>hx
 exact fX.set hx (EG c) _
theorem bd4 {c:Int} {L:List Int} (q:Pos) (h:fX c L q.ae) (a:Pos) (b:Mv) (d:Int):fX c L (cr a b q p m d).ae:=by
 unfold cr
 refine aq (P:=fun x:Pos=>fX c L x.ae) (fun _=>h) fun _=>aq (P:=fun x:Pos=>fX c L x.ae) (fun _=>h) fun _=>?_
 have nn:fX c L ((none:Option (Int×Bool×Pos)).getD default).2.2.ae:=fun i hi=>by
  change tc 0 c=true at hi
  rw [EG] at hi
  cases hi
 cases hl:kr (gn (nD q (wr .i64 m.to))) (Int.ofNat (gn (nD q (wr .i64 m.to))).length) a b p m d (0,q) with
 | none=>exact nn
 | some r=>exact bd3 _ _ _ _ _ _ _ (x:=(0,q)) h hl
theorem MP (q:Pos) (b c:Int):(gp q b c).1.aa=q.aa:=by
 unfold gp
 repeat' (first | exact rfl | refine aq (P:=fun x:Pos×Bool=>x.1.aa=q.aa) (fun _=>?_) (fun _=>?_))
theorem MV:∀ (c:Fin 2) (v:Fin 256),dn c.val 6 v.val=true→tc v.val (1-c.val)=false:=by decide +kernel
theorem Mp {t:Nat} (hpt:p.aa=t) (ht:t≤1) {b c:Int}:(bW p b c).2=true→tc (p.ae.getD (bW p b c).1.toNat 0) (1-p.aa)=false:=by
 have fr:=Mh ⟨t,by omega⟩
 unfold bW
 rw [hpt]
 have ci:=fun {d:Bool} {x y:Int×Bool} => @aq _ (fun x:Int×Bool=>x.2=true→tc (p.ae.getD x.1.toNat 0) (1-(t:Int))=false) d x y
 refine ci (fun _ h=>by cases h) fun _=>ci (fun _ h=>by cases h) fun _=>ci (fun h1=>?_) fun _ h=>by cases h
 rw [dh,beq_iff_eq] at h1
 refine ci (fun _ _=>?_) fun _ h=>by cases h
 show tc (p.ae.getD _ 0) _=false
 rw [h1]
 exact fr
theorem BL (hp:aA p) {t:Nat} (hpt:p.aa=t) (ht:t≤1) (h:m∈dJ p):tc (p.ae.getD m.az.toNat 0) (1-p.aa)=false∧tc (p.ae.getD m.to.toNat 0) (1-p.aa)=false:=by
 revert h
 unfold dJ
 have hk:=gx p p.aa 6
 have ht1:p.aa≤1:=by omega
 refine aq (P:=fun l:M'=>m∈l→_) (fun _ h=>by cases h) fun _=>?_
 refine aq (P:=fun l:M'=>m∈l→_) (fun _ h=>by cases h) fun _=>aq (P:=fun l:M'=>m∈l→_) (fun _ h=>by cases h) fun hk0=>aq (P:=fun l:M'=>m∈l→_) (fun _ h=>by cases h) fun hh=>?_
 have hk0:0≤aZ p p.aa 6:=by simpa using hk0
 have hking:tc (p.ae.getD (aZ p p.aa 6).toNat 0) (1-p.aa)=false:=by
  rcases gj p p.aa 6 with ⟨e,_⟩ | ⟨j,hj,e,hj2,_⟩
  ·omega
  ·rw [e,Int.toNat_natCast]
   obtain ⟨b0,b1⟩:=eC hp j
   have:=MV ⟨t,by omega⟩ ⟨(p.ae.getD j 0).toNat,by omega⟩
   simp only [Int.toNat_of_nonneg b0] at this
   rw [hpt] at hj2 ⊢
   exact this hj2
 have key:∀ c,(c9 p (aZ p p.aa 6) c).2=true→m=(c9 p (aZ p p.aa 6) c).1→tc (p.ae.getD m.az.toNat 0) (1-p.aa)=false∧tc (p.ae.getD m.to.toNat 0) (1-p.aa)=false:=by
  intro c h1 h2
  obtain ⟨a1,_,_,_,_,_,a7,a8⟩:=oI hp ht1 hk0 hk.2 h1
  rw [← h2] at a1 a7
  rw [a1,a7]
  exact ⟨hking,Mp hpt ht a8⟩
 refine aq (P:=fun l:M'=>m∈l→_) (fun h1=>aq (P:=fun l:M'=>m∈l→_) (fun h2 h=>?_) fun _ h=>?_) fun _=>aq (P:=fun l:M'=>m∈l→_) (fun h2 h=>?_) fun _ h=>by cases h
 ·simp only [List.nil_append,List.mem_append,List.mem_singleton] at h
  rcases h with h | h
  ·exact key _ h1 h
  ·exact key _ h2 h
 ·simp only [List.nil_append,List.mem_singleton] at h
  exact key _ h1 h
 ·simp only [List.nil_append,List.mem_singleton] at h
  exact key _ h2 h
theorem bd1 (hp:aA p) (hm:m∈b8 p):fX (1-p.aa) p.ae (bC p m p p m (bq p m)).ae:=by
 obtain ⟨hth,f0,f1,o0,o1,d0,d5,pr0,pr6⟩:=eZ hp hm
 obtain ⟨t,hpt,ht⟩:=eW hp hth.1
 have htt:p.aa=0∨p.aa=1:=by omega
 have made:∀ k:Int,0≤k→k≤6→tc (jB p.aa k) (1-p.aa)=false:=fun k k0 k6=>by
  have h:=JC ⟨t,by omega⟩ ⟨k.toNat,by omega⟩
  rw [hpt]
  have e:((k.toNat:Nat):Int)=k:=Int.toNat_of_nonneg k0
  simp only [e] at h
  exact h
 have z:=EG (1-p.aa)
 have s0:fX (1-p.aa) p.ae p.ae:=fX.refl _
 rw [kh] at hm
 rcases List.mem_append.1 hm with hm | hm
 ·rcases List.mem_append.1 hm with hm | hm
  ·obtain ⟨_,f,g,hf,_,ef,_,hd,hc,_,_,ho,_⟩:=fI hp.v0 hm
   have own:=Pm hp htt hf ho
   have mk:=made m.bQ pr0 pr6
   unfold bC
   rw [hc,hd,ef,dh,Int.toNat_natCast]
   simp only [cond_false,show ((0:Int) != 0)=false from rfl]
   refine aq (P:=fun x:Pos=>fX (1-p.aa) p.ae x.ae) (fun _=>aq (P:=fun x:Pos=>fX (1-p.aa) p.ae x.ae) (fun _=>?_) fun _=>?_) fun _=>aq (P:=fun x:Pos=>fX (1-p.aa) p.ae x.ae) (fun _=>?_) fun _=>?_
   ·exact (((s0.set z _).set z _).set own _).set mk _
   ·exact ((s0.set z _).set z _).set own _
   ·exact ((s0.set z _).set own _).set mk _
   ·exact (s0.set z _).set own _
  ·obtain ⟨hf,ho⟩:=BL hp hpt ht hm
   obtain ⟨_,_,_,_,_,hc,_⟩:=pg hp hm
   unfold bC
   rw [hc,dh,dh]
   exact (((s0.set z _).set z _).set hf _).set ho _
 ·obtain ⟨_,_,_,_,_,hc,d1,d5,_⟩:=jA hp.t0 hm
  have mk:=made m.aX (by omega) (by omega)
  unfold bC
  rw [hc,show (m.aX != 0)=true from bne_iff_ne.2 (by omega)]
  show fX (1-p.aa) p.ae ((gp p p.aa m.aX).1.ae.set (scale 1 m.to).toNat (jB (gp p p.aa m.aX).1.aa m.aX))
  rw [ahs,MP]
  exact s0.set mk _
theorem F0 (hp:aA p) (hm:m∈b8 p):(cS p m).1.aa=1-p.aa∧rp (cS p m).1 (1-p.aa)≤rp p (1-p.aa):=by
 obtain ⟨hth,f0,f1,o0,o1,d0,d5,pr0,pr6⟩:=eZ hp hm
 obtain ⟨t,hpt,ht⟩:=eW hp hth.1
 obtain ⟨_,h,_⟩:=dN hp m
 obtain ⟨_,q1,_,q3⟩:=h hm
 refine ⟨q3,?_⟩
 have e31:F2 (b8 p) m=true:=by rw [ko (by have:=jf hp;omega)];exact decide_eq_true hm
 have e59:(cS p m).1=E6 p m:=by rw [rR,e31];rfl
 rw [e59] at q1 q3 ⊢
 have k1:dm p (bC p m p p m (bq p m)):=xT hp m p m (bq p m)
 have k2:=xY m k1 p m (bq p m)
 have k4:=(yW m k2 p m (bq p m)).2
 have hb:fX (1-p.aa) p.ae (E6 p m).ae:=by
  unfold E6
  rw [adk,ajS,bd9,bd8 hp hth.1 k4]
  exact bd4 _ (by rw [bd2];exact bd1 hp hm) _ _ _
 rw [AB hp (by omega),AB q1 (by omega)]
 exact Eb _ _ (fun a h=>hb a h) _
variable {p:Pos} {m:Mv}
theorem AJ (hp:aA p):(ba p).length≤(b8 p).length:=by
 have f1:((b8 p).filter (dp p)).length≤(b8 p).length:=List.length_filter_le _ _
 have f2:(((b8 p).filter (dp p)).filter (nM p)).length≤(b8 p).length:=Nat.le_trans (List.length_filter_le _ _) f1
 rw [xz hp,yz hp]
 unfold j5
 repeat' (first | exact Nat.zero_le _ | exact f1 | exact f2 | refine aq (P:=fun l:M'=>l.length≤(b8 p).length) (fun _=>?_) (fun _=>?_))
theorem JH:∀ k:Fin 65,(27 * (64-k.val)+2) * (22 * k.val+322)≤1000000:=by decide
theorem Ik (hp:aA p) (hth:there p):∃ M:Nat,(ba p).length * M≤1000000∧∀ m∈ba p,(ba (cS p m).1).length≤M:=by
 have t0:=hp.t0
 have htt:p.aa=0∨p.aa=1:=by have:=hth.1;omega
 have h1:=Hm hp hth
 have h2:=DP hp htt
 have h3:=AJ hp
 have hk:rp p (1-p.aa)≤64:=by omega
 have hf:=JH ⟨rp p (1-p.aa),by omega⟩
 simp only at hf
 refine ⟨22 * rp p (1-p.aa)+322,Nat.le_trans (Nat.mul_le_mul_right _ (show (ba p).length≤27 * (64-rp p (1-p.aa))+2 by omega)) hf,fun m hm=>?_⟩
 have h76:m∈b8 p:=by
  rw [xz hp] at hm
  revert hm
  cases ((rL p).1 != 0) with
  | true=>intro h;cases h
  | false=>exact fun h=>(yO hp h).1
 obtain ⟨c1,c2⟩:=F0 hp h76
 obtain ⟨_,h,_⟩:=dN hp m
 obtain ⟨_,q1,q2,q3⟩:=h h76
 have qth:there (cS p m).1:=⟨by omega,by rw [q2];exact hth.2⟩
 have a1:=Hm q1 qth
 have a2:=DP q1 (by omega)
 have a3:=AJ q1
 rw [c1] at a1 a2
 omega
def K29:KT:=[(29,7,[(0,[1]),(1,[2])])]
def B29:aw:=bO Pz K29 [(62,G62)] [] []
theorem aki:aW B29:=aj ak ⟨s62,trivial⟩ trivial trivial
def j4 (a:Pos):Bool:=((vk a).1 != 0)
def kG (a:Pos):Bool:=(PF (a)&&true)
theorem P29 (a:Pos) (h:kG a=true):PS Pz 29 [Pos.av a] (dB.res (j4 a)):=pq14 aki h
def NB:GT:=g1 aY (fun a=>cp (kG a) (dB.res (j4 a)))
theorem Ql:Sound Pz 29 NB:=aH fun a=>aC (P29 a)
def Ru:KT:=[(28,22,[(0,[1,2]),(1,[1,2,13]),(2,[4,5]),(3,[1,2,6]),(4,[6,7]),(5,[6,7,19]),(6,[4,5]),(7,[4,5])]),(60,13,[(0,[1,2,3,6]),(1,[1,2,3,6]),(2,[6]),(3,[6])]),(61,5,[(0,[1]),(1,[])]),(116,10,[(0,[0,4]),(1,[3]),(2,[]),(3,[0,4,6]),(4,[]),(5,[0,4,8,9]),(6,[0]),(7,[])]),(117,62,[(0,[0,2,3,4,6]),(1,[0,2,3,4,6]),(2,[0,2,3,4,6,30]),(3,[0,2,3,4,6]),(4,[0,2,3,4,6,35]),(5,[]),(6,[0,2,3,4,6,40]),(7,[0,2,3,4,6,42,43,44]),(8,(0::2::3::4::6::(rn 42 4 []))),(9,[0,2,3,4,6,11,42,43,44]),(10,[0,2,3,4,6,12,42,43,44]),(11,[0,2,3,4,6,42,43,44]),(12,[0,2,3,4,6,42,43,44])])]
def XR:aw:=bO Pz Ru [(29,NB),(30,MI),(31,ML)] [] []
theorem Uq:aW XR:=aj ak ⟨Ql,PZ,OU,trivial⟩ trivial trivial
def RR (a:Pos):(Int×Int):=(bif decide ((li zI65).getD 0 0>1000000) then ((0),(4)) else ((wr .i64 (0+1)),(0)))
def Lx (a:Pos):Bool:=(bif decide ((li zI65).getD 0 0>1000000) then (decide ((li zI65).getD 0 0>1000000)&&true) else true)
theorem acm (a:Pos) (h:Lx a=true):PS Pz 28 [Pos.av a,.aE .i64 0] ((d2 (dI .i64) (dI .i64)).res (RR a)):=pq14 Uq h
def RT:List (Nat×List (Nat×List Nat)):=[(28,[(0,(0::(rn 3 19 []))),(1,(0::(rn 3 10 (rn 14 8 [])))),(2,(rn 0 4 (rn 6 16 []))),(3,(0::3::4::5::(rn 7 15 []))),(4,(rn 0 6 (rn 8 14 []))),(5,(rn 0 6 (rn 8 11 [20,21]))),(6,(rn 0 4 (rn 6 16 []))),(7,(rn 0 4 (rn 6 16 [])))]),(60,[(0,(0::4::5::(rn 7 6 []))),(1,(0::4::5::(rn 7 6 []))),(2,(rn 0 6 (rn 7 6 []))),(3,(rn 0 6 (rn 7 6 [])))]),(61,[(0,[0,2,3,4]),(1,[0,1,2,3,4])]),(116,[(0,(1::2::3::(rn 5 5 []))),(1,(0::1::2::(rn 4 6 []))),(2,(rn 0 10 [])),(3,[1,2,3,5,7,8,9]),(4,(rn 0 10 [])),(5,[1,2,3,5,6,7]),(6,(rn 1 9 [])),(7,(rn 0 10 []))]),(117,[(0,(1::5::(rn 7 55 []))),(1,(1::5::(rn 7 55 []))),(2,(1::5::(rn 7 23 (rn 31 31 [])))),(3,(1::5::(rn 7 55 []))),(4,(1::5::(rn 7 28 (rn 36 26 [])))),(5,(rn 0 62 [])),(6,(1::5::(rn 7 33 (rn 41 21 [])))),(7,(1::5::(rn 7 35 (rn 45 17 [])))),(8,(1::5::(rn 7 35 (rn 46 16 [])))),(9,(1::5::(rn 7 4 (rn 12 30 (rn 45 17 []))))),(10,(1::5::(rn 7 5 (rn 13 29 (rn 45 17 []))))),(11,(1::5::(rn 7 35 (rn 45 17 [])))),(12,(1::5::(rn 7 35 (rn 45 17 []))))])]
def El:aw:=iJ Pz (fun f i=>WL f i RT) [(29,NB),(30,MI),(31,ML)] [] []
theorem LM:aW El:=aj ak ⟨Ql,PZ,OU,trivial⟩ trivial trivial
def xe (p1:M') (p2:Int) (p3:Pos) (p4:Pos) (p5:Pos) (x:(Int×Int×Z')):St:=St.mk (.ptr 4 0::.any::.aE .i64 0::.aE .i64 1::.func 61 [] [.ptr 1 0]::.any::.ptr 5 0::(an 35 (.list .mv p1 .fresh::.int .i64 p2::.int .i64 x.1::(an 17 [])))) (Hp.mk [(pc p3 []),[.int .i64 x.2.1],(pc p4 []),[.int .i64 0],[.ints .i64 65 x.2.2],(pc p5 [])] [] [] 0 0 0)
def jb (p1:M') (p2:Int) (p3:Pos) (p4:Pos) (p5:Pos):(Int×Z') ⊕ (Int×Bool×Int×Z')→Out
 | (.inl (y))=>.panic (AV.iface 122 (AV.agg [])) (Hp.mk [(pc p3 []),[AV.int .i64 y.1],(pc p4 []),[AV.int .i64 0],[AV.ints .i64 65 y.2],(pc p5 [])] [] [] 0 0 0)
 | (.inr (y))=>.exit 0 (St.mk (AV.ptr 4 0::AV.any::AV.aE .i64 0::AV.aE .i64 1::AV.func 61 [] [AV.ptr 1 0]::AV.any::AV.ptr 5 0::(an 35 (AV.list ET.mv p1 Tk.fresh::AV.int .i64 p2::AV.int .i64 y.1::AV.bool y.2.1::(an 16 [])))) (Hp.mk [(pc p3 []),[AV.int .i64 y.2.2.1],(pc p4 []),[AV.int .i64 0],[AV.ints .i64 65 y.2.2.2],(pc p5 [])] [] [] 0 0 0))
def uW (p1:M') (p2:Int) (p3:Pos) (p4:Pos) (p5:Pos) (x:(Int×Int×Z')):aG (Int×Int×Z') ((Int×Z') ⊕ (Int×Bool×Int×Z')):=(bif decide (x.1<p2) then (bif decide ((x.2.2.set 1 (wr .i64 (x.2.2.getD 1 0+1))).getD 1 0>1000000) then (aG.out (.inl ((x.2.1,x.2.2.set 1 (wr .i64 (x.2.2.getD 1 0+1)))))) else (aG.go (wr .i64 (x.1+1),wr .i64 (x.2.1+1),x.2.2.set 1 (wr .i64 (x.2.2.getD 1 0+1))))) else (aG.out (.inr ((x.1,decide (x.1<p2),x.2.1,x.2.2)))))
def pT (p1:M') (p2:Int) (p3:Pos) (p4:Pos) (p5:Pos) (x:(Int×Int×Z')):Bool:=(bif decide (x.1<p2) then (decide (0≤x.1)&&decide (x.1<Int.ofNat p1.length)&&(qa p5 (p1.getD x.1.toNat default)&&true)) else true)
def cy (p1:M') (p2:Int) (p3:Pos) (p4:Pos) (p5:Pos) (x:(Int×Int×Z')):Option ((Int×Z') ⊕ (Int×Bool×Int×Z')):=cO (fun x=>bif pT p1 p2 p3 p4 p5 x then uW p1 p2 p3 p4 p5 x else .bad) many x
theorem P0 (p1:M') (p2:Int) (p3:Pos) (p4:Pos) (p5:Pos) (x:(Int×Int×Z')):lh El 12 117 (aT Pz 117 8) (xe p1 p2 p3 p4 p5 x)=Tr.br (decide (x.1<p2)) (Tr.br (decide (0≤x.1)&&decide (x.1<Int.ofNat p1.length)) (Tr.br (qa p5 (p1.getD x.1.toNat default)) (Tr.br (decide ((x.2.2.set 1 (wr .i64 (x.2.2.getD 1 0+1))).getD 1 0>1000000)) (Tr.ret (Out.panic (AV.iface 122 (AV.agg [])) (Hp.mk [(pc p3 []),[AV.int .i64 x.2.1],(pc p4 []),[AV.int .i64 0],[AV.ints .i64 65 (x.2.2.set 1 (wr .i64 (x.2.2.getD 1 0+1)))],(pc p5 [])] [] [] 0 0 0))) (Tr.ret (Out.norm (St.mk (AV.ptr 4 0::AV.any::AV.aE .i64 0::AV.aE .i64 1::AV.func 61 [] [AV.ptr 1 0]::AV.any::AV.ptr 5 0::(an 35 (AV.list ET.mv p1 Tk.fresh::AV.int .i64 p2::AV.int .i64 (wr .i64 (x.1+1))::(an 17 [])))) (Hp.mk [(pc p3 []),[AV.int .i64 (wr .i64 (x.2.1+1))],(pc p4 []),[AV.int .i64 0],[AV.ints .i64 65 (x.2.2.set 1 (wr .i64 (x.2.2.getD 1 0+1)))],(pc p5 [])] [] [] 0 0 0))))) Tr.fail) Tr.fail) (Tr.ret (Out.exit 0 (St.mk (AV.ptr 4 0::AV.any::AV.aE .i64 0::AV.aE .i64 1::AV.func 61 [] [AV.ptr 1 0]::AV.any::AV.ptr 5 0::(an 35 (AV.list ET.mv p1 Tk.fresh::AV.int .i64 p2::AV.int .i64 x.1::AV.bool (decide (x.1<p2))::(an 16 [])))) (Hp.mk [(pc p3 []),[AV.int .i64 x.2.1],(pc p4 []),[AV.int .i64 0],[AV.ints .i64 65 x.2.2],(pc p5 [])] [] [] 0 0 0)))):=by kernel_rfl
theorem yY (p1:M') (p2:Int) (p3:Pos) (p4:Pos) (p5:Pos) (x:(Int×Int×Z')) (r:(Int×Z') ⊕ (Int×Bool×Int×Z')) (h:cy p1 p2 p3 p4 p5 x=some r):ay Pz (aT Pz 117 8) (xe p1 p2 p3 p4 p5 x) (jb p1 p2 p3 p4 p5 r):=ay.Zt (S:=xe p1 p2 p3 p4 p5) (O:=jb p1 p2 p3 p4 p5) (ok:=pT p1 p2 p3 p4 p5) (st:=uW p1 p2 p3 p4 p5) LM (fun x=>Hf (P0 p1 p2 p3 p4 p5 x) (je (bL (bL (Ly (cL (yT rfl (ev (ks:=[]) (gs:=[]) (b:=true) rfl (by kernel_rfl)))) (cL (Di (ev (ks:=(1::5::(rn 7 35 (rn 45 17 [])))) (gs:=[42,43,44]) (b:=true) rfl (by kernel_rfl))))))) (cL (xI rfl (ev (ks:=(1::5::(rn 7 35 (rn 46 16 [])))) (gs:=[]) (b:=false) rfl (by kernel_rfl)))))) many x r h
def Es:Code→St→Tr Out:=fun b s=>.br (bI ((cy (tL (ET.mv) (tT s 42)) (tI (tT s 43)) (dP s 0) (dP s 2) (dP s 5) ((tI (tT s 44)),(tI (tH s 1 0)),(tN (tH s 4 0)))).getD default)) (qV Pz (fun s=>jb (tL (ET.mv) (tT s 42)) (tI (tT s 43)) (dP s 0) (dP s 2) (dP s 5) (.inl (gl ((cy (tL (ET.mv) (tT s 42)) (tI (tT s 43)) (dP s 0) (dP s 2) (dP s 5) ((tI (tT s 44)),(tI (tH s 1 0)),(tN (tH s 4 0)))).getD default)))) b s) (qV Pz (fun s=>jb (tL (ET.mv) (tT s 42)) (tI (tT s 43)) (dP s 0) (dP s 2) (dP s 5) (.inr (gr ((cy (tL (ET.mv) (tT s 42)) (tI (tT s 43)) (dP s 0) (dP s 2) (dP s 5) ((tI (tT s 44)),(tI (tH s 1 0)),(tN (tH s 4 0)))).getD default)))) b s)
theorem H5:∀ b,aM Pz b (Es b):=qs (c:=fun s=>bI ((cy (tL (ET.mv) (tT s 42)) (tI (tT s 43)) (dP s 0) (dP s 2) (dP s 5) ((tI (tT s 44)),(tI (tH s 1 0)),(tN (tH s 4 0)))).getD default)) fy fy
def Qe:aw:=iJ Pz (fun f i=>WL f i RT) [(29,NB),(30,MI),(31,ML)] [(117,8,Es)] []
theorem UN:aW Qe:=aj ak ⟨Ql,PZ,OU,trivial⟩ ⟨H5,trivial⟩ trivial
def wQ (a:Pos):(Int×Int):=(bif decide ((li zI65).getD 0 0>1000000) then (bif decide ((li zI65).getD 0 0>1000000) then ((0),(4)) else (bif bI ((cy (ba a) (Int.ofNat (ba a).length) a a a (0,0,li zI65)).getD default) then ((0),(4)) else default)) else (bif j4 a then ((0),(0)) else (bif bI ((cy (ba a) (Int.ofNat (ba a).length) a a a (0,0,li zI65)).getD default) then (bif decide ((li zI65).getD 0 0>1000000) then ((0),(4)) else (bif bI ((cy (ba a) (Int.ofNat (ba a).length) a a a (0,0,li zI65)).getD default) then ((0),(4)) else default)) else (((gr ((cy (ba a) (Int.ofNat (ba a).length) a a a (0,0,li zI65)).getD default)).2.2.1),(0)))))
def yU (a:Pos):Bool:=(bif decide ((li zI65).getD 0 0>1000000) then (bif decide ((li zI65).getD 0 0>1000000) then true else (kG a&&(!(j4 a)&&(lO a&&((cy (ba a) (Int.ofNat (ba a).length) a a a (0,0,li zI65)).isSome&&bif bI ((cy (ba a) (Int.ofNat (ba a).length) a a a (0,0,li zI65)).getD default) then true else false))))) else (kG a&&(bif j4 a then true else (lO a&&((cy (ba a) (Int.ofNat (ba a).length) a a a (0,0,li zI65)).isSome&&bif bI ((cy (ba a) (Int.ofNat (ba a).length) a a a (0,0,li zI65)).getD default) then (bif decide ((li zI65).getD 0 0>1000000) then true else (kG a&&(!(j4 a)&&(lO a&&((cy (ba a) (Int.ofNat (ba a).length) a a a (0,0,li zI65)).isSome&&bif bI ((cy (ba a) (Int.ofNat (ba a).length) a a a (0,0,li zI65)).getD default) then true else false))))) else true)))))
theorem Ym (a:Pos):db Qe 14 28 [Pos.av a,.aE .i64 1]=(let z1:=zI65;let z2:=(St.mk (AV.ptr 4 0::AV.any::AV.aE .i64 0::AV.aE .i64 1::AV.func 61 [] [AV.ptr 1 0]::AV.any::AV.ptr 5 0::(an 35 (AV.list ET.mv (ba a) Tk.fresh::AV.int .i64 (Int.ofNat (ba a).length)::AV.aE .i64 0::(an 17 [])))) (Hp.mk [(pc a []),[AV.aE .i64 0],(pc a []),[AV.aE .i64 0],[AV.ints .i64 65 (li z1)],(pc a [])] [] [] 0 0 0));let z4:=((cy (ba a) (Int.ofNat (ba a).length) a a a (0,0,li z1)).getD default);let z3:=(Tr.br (decide ((li z1).getD 0 0>1000000)) (Tr.ret (AV.tuple [AV.aE .i64 0,AV.aE .i64 4])) (Tr.br (kG a) (Tr.br (j4 a) Tr.fail (Tr.br (lO a) (Tr.br (bI z4) (Tr.br (nH Pz (aT Pz 117 8) z2 (jb (ba a) (Int.ofNat (ba a).length) a a a (Sum.inl (gl z4)))) (Tr.ret (AV.tuple [AV.aE .i64 0,AV.aE .i64 4])) Tr.fail) (Tr.br (nH Pz (aT Pz 117 8) z2 (jb (ba a) (Int.ofNat (ba a).length) a a a (Sum.inr (gr z4)))) Tr.fail Tr.fail)) Tr.fail)) Tr.fail));Tr.br (decide ((li z1).getD 0 0>1000000)) z3 (Tr.br (kG a) (Tr.br (j4 a) (Tr.ret (AV.tuple [AV.aE .i64 0,AV.aE .i64 0])) (Tr.br (lO a) (Tr.br (bI z4) (Tr.br (nH Pz (aT Pz 117 8) z2 (jb (ba a) (Int.ofNat (ba a).length) a a a (Sum.inl (gl z4)))) z3 Tr.fail) (Tr.br (nH Pz (aT Pz 117 8) z2 (jb (ba a) (Int.ofNat (ba a).length) a a a (Sum.inr (gr z4)))) (Tr.ret (AV.tuple [AV.int .i64 (gr z4).2.2.1,AV.aE .i64 0])) Tr.fail)) Tr.fail)) Tr.fail)):=by kernel_rfl
theorem Xp (a:Pos) (h:yU a=true):PS Pz 28 [Pos.av a,.aE .i64 1] ((d2 (dI .i64) (dI .i64)).res (wQ a)):=rJ UN (Ym a) (je (je (cL rfl) (bL (jN (bL (iI (fun h=>yY (ba a) (Int.ofNat (ba a).length) (a) (a) (a) ((0,0,li zI65)) _ (cR h)) (ev (ks:=(1::5::(rn 7 35 (rn 45 17 [])))) (gs:=[42,43,44]) (b:=true) rfl (by kernel_rfl)) (cL rfl) (rA)))))) (bL (je (cL rfl) (bL (iI (fun h=>yY (ba a) (Int.ofNat (ba a).length) (a) (a) (a) ((0,0,li zI65)) _ (cR h)) (ev (ks:=(1::5::(rn 7 35 (rn 45 17 [])))) (gs:=[42,43,44]) (b:=true) rfl (by kernel_rfl)) (je (cL rfl) (bL (jN (bL (iI (fun h=>yY (ba a) (Int.ofNat (ba a).length) (a) (a) (a) ((0,0,li zI65)) _ (cR h)) (ev (ks:=(1::5::(rn 7 35 (rn 45 17 [])))) (gs:=[42,43,44]) (b:=true) rfl (by kernel_rfl)) (cL rfl) (rA)))))) (cL rfl)))))) h
def JL:List (Nat×List (Nat×List Nat)):=[(28,[(0,(0::(rn 3 19 []))),(1,(0::(rn 3 10 (rn 14 8 [])))),(2,(rn 0 4 (rn 6 16 []))),(3,(0::3::4::5::(rn 7 15 []))),(4,(rn 0 6 (rn 8 14 []))),(5,(rn 0 6 (rn 8 11 [20,21]))),(6,(rn 0 4 (rn 6 16 []))),(7,(rn 0 4 (rn 6 16 [])))]),(60,[(0,(0::4::5::(rn 7 6 []))),(1,(0::4::5::(rn 7 6 []))),(2,(rn 0 6 (rn 7 6 []))),(3,(rn 0 6 (rn 7 6 [])))]),(61,[(0,[0,2,3,4]),(1,[0,1,2,3,4])]),(116,[(0,(1::2::3::(rn 5 5 []))),(1,(0::1::2::(rn 4 6 []))),(2,(rn 0 10 [])),(3,[1,2,3,5,7,8,9]),(4,(rn 0 10 [])),(5,[1,2,3,5,6,7]),(6,(rn 1 9 [])),(7,(rn 0 10 []))]),(117,[(0,(1::5::(rn 7 55 []))),(1,(1::5::(rn 7 55 []))),(2,(1::5::(rn 7 23 (rn 31 31 [])))),(3,(1::5::(rn 7 55 []))),(4,(1::5::(rn 7 28 (rn 36 26 [])))),(5,(rn 0 62 [])),(6,(1::5::(rn 7 33 (rn 41 21 [])))),(7,(1::5::(rn 7 35 (rn 45 17 [])))),(8,(1::5::(rn 7 35 (rn 46 16 [])))),(9,(1::5::(rn 7 4 (rn 12 30 (rn 45 17 []))))),(10,(1::5::(rn 7 5 (rn 13 29 (rn 45 17 []))))),(11,(1::5::(rn 7 35 (rn 45 17 [])))),(12,(1::5::(rn 7 35 (rn 45 17 []))))])]
def DT:aw:=iJ Pz (fun f i=>WL f i JL) [(29,NB),(30,MI),(31,ML)] [] []
theorem L6:aW DT:=aj ak ⟨Ql,PZ,OU,trivial⟩ trivial trivial
def yr (p1:M') (p2:Int) (p3:Pos) (p4:Pos) (p5:Pos) (p6:Mv) (p7:Pos) (p8:Pos) (x:(Int×Int×Z')):St:=St.mk (.ptr 4 0::.any::.aE .i64 (wr .i64 (0+1))::.aE .i64 2::.func 61 [] [.ptr 1 0]::.any::.ptr 8 0::(an 35 (.list .mv p1 .fresh::.int .i64 p2::.int .i64 x.1::(an 17 [])))) (Hp.mk [(pc p3 []),[.int .i64 x.2.1],(pc p4 []),[.int .i64 0],[.ints .i64 65 x.2.2],(pc p5 []),[.int .i8 p6.az,.int .i8 p6.to,.int .u8 p6.bQ,.int .u8 p6.aX,.bool p6.bP],(pc p7 []),(pc p8 [])] [] [] 0 0 0)
def mQ (p1:M') (p2:Int) (p3:Pos) (p4:Pos) (p5:Pos) (p6:Mv) (p7:Pos) (p8:Pos):(Int×Z') ⊕ (Int×Bool×Int×Z')→Out
 | (.inl (y))=>.panic (AV.iface 122 (AV.agg [])) (Hp.mk [(pc p3 []),[AV.int .i64 y.1],(pc p4 []),[AV.int .i64 0],[AV.ints .i64 65 y.2],(pc p5 []),[AV.int .i8 p6.az,AV.int .i8 p6.to,AV.int .u8 p6.bQ,AV.int .u8 p6.aX,AV.bool p6.bP],(pc p7 []),(pc p8 [])] [] [] 0 0 0)
 | (.inr (y))=>.exit 0 (St.mk (AV.ptr 4 0::AV.any::AV.aE .i64 (wr .i64 (0+1))::AV.aE .i64 2::AV.func 61 [] [AV.ptr 1 0]::AV.any::AV.ptr 8 0::(an 35 (AV.list ET.mv p1 Tk.fresh::AV.int .i64 p2::AV.int .i64 y.1::AV.bool y.2.1::(an 16 [])))) (Hp.mk [(pc p3 []),[AV.int .i64 y.2.2.1],(pc p4 []),[AV.int .i64 0],[AV.ints .i64 65 y.2.2.2],(pc p5 []),[AV.int .i8 p6.az,AV.int .i8 p6.to,AV.int .u8 p6.bQ,AV.int .u8 p6.aX,AV.bool p6.bP],(pc p7 []),(pc p8 [])] [] [] 0 0 0))
def tP (p1:M') (p2:Int) (p3:Pos) (p4:Pos) (p5:Pos) (p6:Mv) (p7:Pos) (p8:Pos) (x:(Int×Int×Z')):aG (Int×Int×Z') ((Int×Z') ⊕ (Int×Bool×Int×Z')):=(bif decide (x.1<p2) then (bif decide ((x.2.2.set 2 (wr .i64 (x.2.2.getD 2 0+1))).getD 2 0>1000000) then (aG.out (.inl ((x.2.1,x.2.2.set 2 (wr .i64 (x.2.2.getD 2 0+1)))))) else (aG.go (wr .i64 (x.1+1),wr .i64 (x.2.1+1),x.2.2.set 2 (wr .i64 (x.2.2.getD 2 0+1))))) else (aG.out (.inr ((x.1,decide (x.1<p2),x.2.1,x.2.2)))))
def pQ (p1:M') (p2:Int) (p3:Pos) (p4:Pos) (p5:Pos) (p6:Mv) (p7:Pos) (p8:Pos) (x:(Int×Int×Z')):Bool:=(bif decide (x.1<p2) then (decide (0≤x.1)&&decide (x.1<Int.ofNat p1.length)&&(qa p8 (p1.getD x.1.toNat default)&&true)) else true)
def cT (p1:M') (p2:Int) (p3:Pos) (p4:Pos) (p5:Pos) (p6:Mv) (p7:Pos) (p8:Pos) (x:(Int×Int×Z')):Option ((Int×Z') ⊕ (Int×Bool×Int×Z')):=cO (fun x=>bif pQ p1 p2 p3 p4 p5 p6 p7 p8 x then tP p1 p2 p3 p4 p5 p6 p7 p8 x else .bad) many x
theorem PO (p1:M') (p2:Int) (p3:Pos) (p4:Pos) (p5:Pos) (p6:Mv) (p7:Pos) (p8:Pos) (x:(Int×Int×Z')):lh DT 12 117 (aT Pz 117 8) (yr p1 p2 p3 p4 p5 p6 p7 p8 x)=(let z1:=[AV.int .i8 p6.az,AV.int .i8 p6.to,AV.int .u8 p6.bQ,AV.int .u8 p6.aX,AV.bool p6.bP];let z2:=(x.2.2.set 2 (wr .i64 (x.2.2.getD 2 0+1)));Tr.br (decide (x.1<p2)) (Tr.br (decide (0≤x.1)&&decide (x.1<Int.ofNat p1.length)) (Tr.br (qa p8 (p1.getD x.1.toNat default)) (Tr.br (decide (z2.getD 2 0>1000000)) (Tr.ret (Out.panic (AV.iface 122 (AV.agg [])) (Hp.mk [(pc p3 []),[AV.int .i64 x.2.1],(pc p4 []),[AV.int .i64 0],[AV.ints .i64 65 z2],(pc p5 []),z1,(pc p7 []),(pc p8 [])] [] [] 0 0 0))) (Tr.ret (Out.norm (St.mk (AV.ptr 4 0::AV.any::AV.aE .i64 (wr .i64 (0+1))::AV.aE .i64 2::AV.func 61 [] [AV.ptr 1 0]::AV.any::AV.ptr 8 0::(an 35 (AV.list ET.mv p1 Tk.fresh::AV.int .i64 p2::AV.int .i64 (wr .i64 (x.1+1))::(an 17 [])))) (Hp.mk [(pc p3 []),[AV.int .i64 (wr .i64 (x.2.1+1))],(pc p4 []),[AV.int .i64 0],[AV.ints .i64 65 z2],(pc p5 []),z1,(pc p7 []),(pc p8 [])] [] [] 0 0 0))))) Tr.fail) Tr.fail) (Tr.ret (Out.exit 0 (St.mk (AV.ptr 4 0::AV.any::AV.aE .i64 (wr .i64 (0+1))::AV.aE .i64 2::AV.func 61 [] [AV.ptr 1 0]::AV.any::AV.ptr 8 0::(an 35 (AV.list ET.mv p1 Tk.fresh::AV.int .i64 p2::AV.int .i64 x.1::AV.bool (decide (x.1<p2))::(an 16 [])))) (Hp.mk [(pc p3 []),[AV.int .i64 x.2.1],(pc p4 []),[AV.int .i64 0],[AV.ints .i64 65 x.2.2],(pc p5 []),z1,(pc p7 []),(pc p8 [])] [] [] 0 0 0))))):=by kernel_rfl
theorem NV (p1:M') (p2:Int) (p3:Pos) (p4:Pos) (p5:Pos) (p6:Mv) (p7:Pos) (p8:Pos) (x:(Int×Int×Z')) (r:(Int×Z') ⊕ (Int×Bool×Int×Z')) (h:cT p1 p2 p3 p4 p5 p6 p7 p8 x=some r):ay Pz (aT Pz 117 8) (yr p1 p2 p3 p4 p5 p6 p7 p8 x) (mQ p1 p2 p3 p4 p5 p6 p7 p8 r):=ay.Zt (S:=yr p1 p2 p3 p4 p5 p6 p7 p8) (O:=mQ p1 p2 p3 p4 p5 p6 p7 p8) (ok:=pQ p1 p2 p3 p4 p5 p6 p7 p8) (st:=tP p1 p2 p3 p4 p5 p6 p7 p8) L6 (fun x=>Hf (PO p1 p2 p3 p4 p5 p6 p7 p8 x) (je (bL (bL (Ly (cL (yT rfl (ev (ks:=[]) (gs:=[]) (b:=true) rfl (by kernel_rfl)))) (cL (Di (ev (ks:=(1::5::(rn 7 35 (rn 45 17 [])))) (gs:=[42,43,44]) (b:=true) rfl (by kernel_rfl))))))) (cL (xI rfl (ev (ks:=(1::5::(rn 7 35 (rn 46 16 [])))) (gs:=[]) (b:=false) rfl (by kernel_rfl)))))) many x r h
def y4:Code→St→Tr Out:=fun b s=>.br (bI ((cT (tL (ET.mv) (tT s 42)) (tI (tT s 43)) (dP s 0) (dP s 2) (dP s 5) (Kz.Mv.mk (tI (tH s 6 0)) (tI (tH s 6 1)) (tI (tH s 6 2)) (tI (tH s 6 3)) (tB (tH s 6 4))) (dP s 7) (dP s 8) ((tI (tT s 44)),(tI (tH s 1 0)),(tN (tH s 4 0)))).getD default)) (qV Pz (fun s=>mQ (tL (ET.mv) (tT s 42)) (tI (tT s 43)) (dP s 0) (dP s 2) (dP s 5) (Kz.Mv.mk (tI (tH s 6 0)) (tI (tH s 6 1)) (tI (tH s 6 2)) (tI (tH s 6 3)) (tB (tH s 6 4))) (dP s 7) (dP s 8) (.inl (gl ((cT (tL (ET.mv) (tT s 42)) (tI (tT s 43)) (dP s 0) (dP s 2) (dP s 5) (Kz.Mv.mk (tI (tH s 6 0)) (tI (tH s 6 1)) (tI (tH s 6 2)) (tI (tH s 6 3)) (tB (tH s 6 4))) (dP s 7) (dP s 8) ((tI (tT s 44)),(tI (tH s 1 0)),(tN (tH s 4 0)))).getD default)))) b s) (qV Pz (fun s=>mQ (tL (ET.mv) (tT s 42)) (tI (tT s 43)) (dP s 0) (dP s 2) (dP s 5) (Kz.Mv.mk (tI (tH s 6 0)) (tI (tH s 6 1)) (tI (tH s 6 2)) (tI (tH s 6 3)) (tB (tH s 6 4))) (dP s 7) (dP s 8) (.inr (gr ((cT (tL (ET.mv) (tT s 42)) (tI (tT s 43)) (dP s 0) (dP s 2) (dP s 5) (Kz.Mv.mk (tI (tH s 6 0)) (tI (tH s 6 1)) (tI (tH s 6 2)) (tI (tH s 6 3)) (tB (tH s 6 4))) (dP s 7) (dP s 8) ((tI (tT s 44)),(tI (tH s 1 0)),(tN (tH s 4 0)))).getD default)))) b s)
theorem zA:∀ b,aM Pz b (y4 b):=qs (c:=fun s=>bI ((cT (tL (ET.mv) (tT s 42)) (tI (tT s 43)) (dP s 0) (dP s 2) (dP s 5) (Kz.Mv.mk (tI (tH s 6 0)) (tI (tH s 6 1)) (tI (tH s 6 2)) (tI (tH s 6 3)) (tB (tH s 6 4))) (dP s 7) (dP s 8) ((tI (tT s 44)),(tI (tH s 1 0)),(tN (tH s 4 0)))).getD default)) fy fy
def ED:aw:=iJ Pz (fun f i=>WL f i JL) [(29,NB),(30,MI),(31,ML)] [(117,8,y4)] []
theorem Hq:aW ED:=aj ak ⟨Ql,PZ,OU,trivial⟩ ⟨zA,trivial⟩ trivial
def xA (p1:M') (p2:Int) (p3:Pos) (p4:Pos) (p5:Pos) (x:(Int×Int×Z')):St:=St.mk (.ptr 4 0::.any::.aE .i64 0::.aE .i64 2::.func 61 [] [.ptr 1 0]::.any::.ptr 5 0::(an 35 (.list .mv p1 .fresh::.int .i64 p2::.int .i64 x.1::(an 17 [])))) (Hp.mk [(pc p3 []),[.int .i64 x.2.1],(pc p4 []),[.int .i64 0],[.ints .i64 65 x.2.2],(pc p5 [])] [] [] 0 0 0)
def iZ (p1:M') (p2:Int) (p3:Pos) (p4:Pos) (p5:Pos):(Int×Z') ⊕ (Int×Bool×Int×Z')→Out
 | (.inl (y))=>.panic (AV.iface 122 (AV.agg [])) (Hp.mk [(pc p3 []),[AV.int .i64 y.1],(pc p4 []),[AV.int .i64 0],[AV.ints .i64 65 y.2],(pc p5 [])] [] [] 0 0 0)
 | (.inr (y))=>.exit 0 (St.mk (AV.ptr 4 0::AV.any::AV.aE .i64 0::AV.aE .i64 2::AV.func 61 [] [AV.ptr 1 0]::AV.any::AV.ptr 5 0::(an 35 (AV.list ET.mv p1 Tk.fresh::AV.int .i64 p2::AV.int .i64 y.1::AV.bool y.2.1::(an 16 [])))) (Hp.mk [(pc p3 []),[AV.int .i64 y.2.2.1],(pc p4 []),[AV.int .i64 0],[AV.ints .i64 65 y.2.2.2],(pc p5 [])] [] [] 0 0 0))
def sz (p1:M') (p2:Int) (p3:Pos) (p4:Pos) (p5:Pos) (x:(Int×Int×Z')):aG (Int×Int×Z') ((Int×Z') ⊕ (Int×Bool×Int×Z')):=(bif decide (x.1<p2) then (bif decide ((x.2.2.set 1 (wr .i64 (x.2.2.getD 1 0+1))).getD 1 0>1000000) then (aG.out (.inl ((x.2.1,x.2.2.set 1 (wr .i64 (x.2.2.getD 1 0+1)))))) else (bif j4 (cS p5 (p1.getD x.1.toNat default)).1 then (aG.go (wr .i64 (x.1+1),x.2.1,x.2.2.set 1 (wr .i64 (x.2.2.getD 1 0+1)))) else (bif bI ((cT (ba (cS p5 (p1.getD x.1.toNat default)).1) (Int.ofNat (ba (cS p5 (p1.getD x.1.toNat default)).1).length) p3 p4 p5 (p1.getD x.1.toNat default) (cS p5 (p1.getD x.1.toNat default)).1 (cS p5 (p1.getD x.1.toNat default)).1 (0,x.2.1,x.2.2.set 1 (wr .i64 (x.2.2.getD 1 0+1)))).getD default) then (aG.out (.inl (((gl ((cT (ba (cS p5 (p1.getD x.1.toNat default)).1) (Int.ofNat (ba (cS p5 (p1.getD x.1.toNat default)).1).length) p3 p4 p5 (p1.getD x.1.toNat default) (cS p5 (p1.getD x.1.toNat default)).1 (cS p5 (p1.getD x.1.toNat default)).1 (0,x.2.1,x.2.2.set 1 (wr .i64 (x.2.2.getD 1 0+1)))).getD default)).1,(gl ((cT (ba (cS p5 (p1.getD x.1.toNat default)).1) (Int.ofNat (ba (cS p5 (p1.getD x.1.toNat default)).1).length) p3 p4 p5 (p1.getD x.1.toNat default) (cS p5 (p1.getD x.1.toNat default)).1 (cS p5 (p1.getD x.1.toNat default)).1 (0,x.2.1,x.2.2.set 1 (wr .i64 (x.2.2.getD 1 0+1)))).getD default)).2)))) else (aG.go (wr .i64 (x.1+1),(gr ((cT (ba (cS p5 (p1.getD x.1.toNat default)).1) (Int.ofNat (ba (cS p5 (p1.getD x.1.toNat default)).1).length) p3 p4 p5 (p1.getD x.1.toNat default) (cS p5 (p1.getD x.1.toNat default)).1 (cS p5 (p1.getD x.1.toNat default)).1 (0,x.2.1,x.2.2.set 1 (wr .i64 (x.2.2.getD 1 0+1)))).getD default)).2.2.1,(gr ((cT (ba (cS p5 (p1.getD x.1.toNat default)).1) (Int.ofNat (ba (cS p5 (p1.getD x.1.toNat default)).1).length) p3 p4 p5 (p1.getD x.1.toNat default) (cS p5 (p1.getD x.1.toNat default)).1 (cS p5 (p1.getD x.1.toNat default)).1 (0,x.2.1,x.2.2.set 1 (wr .i64 (x.2.2.getD 1 0+1)))).getD default)).2.2.2))))) else (aG.out (.inr ((x.1,decide (x.1<p2),x.2.1,x.2.2)))))
def pO (p1:M') (p2:Int) (p3:Pos) (p4:Pos) (p5:Pos) (x:(Int×Int×Z')):Bool:=(bif decide (x.1<p2) then (decide (0≤x.1)&&decide (x.1<Int.ofNat p1.length)&&(qa p5 (p1.getD x.1.toNat default)&&(bif decide ((x.2.2.set 1 (wr .i64 (x.2.2.getD 1 0+1))).getD 1 0>1000000) then true else (kG (cS p5 (p1.getD x.1.toNat default)).1&&(bif j4 (cS p5 (p1.getD x.1.toNat default)).1 then true else (lO (cS p5 (p1.getD x.1.toNat default)).1&&((cT (ba (cS p5 (p1.getD x.1.toNat default)).1) (Int.ofNat (ba (cS p5 (p1.getD x.1.toNat default)).1).length) p3 p4 p5 (p1.getD x.1.toNat default) (cS p5 (p1.getD x.1.toNat default)).1 (cS p5 (p1.getD x.1.toNat default)).1 (0,x.2.1,x.2.2.set 1 (wr .i64 (x.2.2.getD 1 0+1)))).isSome&&bif bI ((cT (ba (cS p5 (p1.getD x.1.toNat default)).1) (Int.ofNat (ba (cS p5 (p1.getD x.1.toNat default)).1).length) p3 p4 p5 (p1.getD x.1.toNat default) (cS p5 (p1.getD x.1.toNat default)).1 (cS p5 (p1.getD x.1.toNat default)).1 (0,x.2.1,x.2.2.set 1 (wr .i64 (x.2.2.getD 1 0+1)))).getD default) then true else true))))))) else true)
def cu (p1:M') (p2:Int) (p3:Pos) (p4:Pos) (p5:Pos) (x:(Int×Int×Z')):Option ((Int×Z') ⊕ (Int×Bool×Int×Z')):=cO (fun x=>bif pO p1 p2 p3 p4 p5 x then sz p1 p2 p3 p4 p5 x else .bad) many x
theorem PM (p1:M') (p2:Int) (p3:Pos) (p4:Pos) (p5:Pos) (x:(Int×Int×Z')):lh ED 12 117 (aT Pz 117 8) (xA p1 p2 p3 p4 p5 x)=(let z4:=(AV.ptr 4 0::AV.any::AV.aE .i64 0::AV.aE .i64 2::AV.func 61 [] [AV.ptr 1 0]::AV.any::AV.ptr 5 0::(an 35 (AV.list ET.mv p1 Tk.fresh::AV.int .i64 p2::AV.int .i64 (wr .i64 (x.1+1))::(an 17 []))));let z5:=(Hp.mk [(pc p3 []),[AV.int .i64 x.2.1],(pc p4 []),[AV.int .i64 0],[AV.ints .i64 65 (x.2.2.set 1 (wr .i64 (x.2.2.getD 1 0+1)))],(pc p5 [])] [] [] 0 0 0);let z6:=(p1.getD x.1.toNat default);let z3:=(cS p5 z6);let z1:=((cT (ba z3.1) (Int.ofNat (ba z3.1).length) p3 p4 p5 z6 z3.1 z3.1 (0,x.2.1,x.2.2.set 1 (wr .i64 (x.2.2.getD 1 0+1)))).getD default);let z2:=(St.mk (AV.ptr 4 0::AV.any::AV.aE .i64 (wr .i64 (0+1))::AV.aE .i64 2::AV.func 61 [] [AV.ptr 1 0]::AV.any::AV.ptr 8 0::(an 35 (AV.list ET.mv (ba z3.1) Tk.fresh::AV.int .i64 (Int.ofNat (ba z3.1).length)::AV.aE .i64 0::(an 17 [])))) (Hp.mk [(pc p3 []),[AV.int .i64 x.2.1],(pc p4 []),[AV.int .i64 0],[AV.ints .i64 65 (x.2.2.set 1 (wr .i64 (x.2.2.getD 1 0+1)))],(pc p5 []),[AV.int .i8 z6.az,AV.int .i8 z6.to,AV.int .u8 z6.bQ,AV.int .u8 z6.aX,AV.bool z6.bP],(pc z3.1 []),(pc z3.1 [])] [] [] 0 0 0));Tr.br (decide (x.1<p2)) (Tr.br (decide (0≤x.1)&&decide (x.1<Int.ofNat p1.length)) (Tr.br (qa p5 z6) (Tr.br (decide ((x.2.2.set 1 (wr .i64 (x.2.2.getD 1 0+1))).getD 1 0>1000000)) (Tr.ret (Out.panic (AV.iface 122 (AV.agg [])) z5)) (Tr.br (kG z3.1) (Tr.br (j4 z3.1) (Tr.ret (Out.norm (St.mk z4 z5))) (Tr.br (lO z3.1) (Tr.br (bI z1) (Tr.br (nH Pz (aT Pz 117 8) z2 (mQ (ba z3.1) (Int.ofNat (ba z3.1).length) p3 p4 p5 z6 z3.1 z3.1 (Sum.inl (gl z1)))) (Tr.ret (Out.panic (AV.iface 122 (AV.agg [])) (Hp.mk [(pc p3 []),[AV.int .i64 (gl z1).1],(pc p4 []),[AV.int .i64 0],[AV.ints .i64 65 (gl z1).2],(pc p5 [])] [] [] 0 0 0))) Tr.fail) (Tr.br (nH Pz (aT Pz 117 8) z2 (mQ (ba z3.1) (Int.ofNat (ba z3.1).length) p3 p4 p5 z6 z3.1 z3.1 (Sum.inr (gr z1)))) (Tr.ret (Out.norm (St.mk z4 (Hp.mk [(pc p3 []),[AV.int .i64 (gr z1).2.2.1],(pc p4 []),[AV.int .i64 0],[AV.ints .i64 65 (gr z1).2.2.2],(pc p5 [])] [] [] 0 0 0)))) Tr.fail)) Tr.fail)) Tr.fail)) Tr.fail) Tr.fail) (Tr.ret (Out.exit 0 (St.mk (AV.ptr 4 0::AV.any::AV.aE .i64 0::AV.aE .i64 2::AV.func 61 [] [AV.ptr 1 0]::AV.any::AV.ptr 5 0::(an 35 (AV.list ET.mv p1 Tk.fresh::AV.int .i64 p2::AV.int .i64 x.1::AV.bool (decide (x.1<p2))::(an 16 [])))) (Hp.mk [(pc p3 []),[AV.int .i64 x.2.1],(pc p4 []),[AV.int .i64 0],[AV.ints .i64 65 x.2.2],(pc p5 [])] [] [] 0 0 0))))):=by kernel_rfl
theorem yb (p1:M') (p2:Int) (p3:Pos) (p4:Pos) (p5:Pos) (x:(Int×Int×Z')) (r:(Int×Z') ⊕ (Int×Bool×Int×Z')) (h:cu p1 p2 p3 p4 p5 x=some r):ay Pz (aT Pz 117 8) (xA p1 p2 p3 p4 p5 x) (iZ p1 p2 p3 p4 p5 r):=ay.Zt (S:=xA p1 p2 p3 p4 p5) (O:=iZ p1 p2 p3 p4 p5) (ok:=pO p1 p2 p3 p4 p5) (st:=sz p1 p2 p3 p4 p5) Hq (fun x=>Hf (PM p1 p2 p3 p4 p5 x) (je (bL (bL (je (cL (yT rfl (ev (ks:=[]) (gs:=[]) (b:=true) rfl (by kernel_rfl)))) (bL (je (cL (Di (ev (ks:=(1::5::(rn 7 35 (rn 45 17 [])))) (gs:=[42,43,44]) (b:=true) rfl (by kernel_rfl)))) (bL (iI (fun h=>NV (ba (cS p5 (p1.getD x.1.toNat default)).1) (Int.ofNat (ba (cS p5 (p1.getD x.1.toNat default)).1).length) (p3) (p4) (p5) (p1.getD x.1.toNat default) ((cS p5 (p1.getD x.1.toNat default)).1) ((cS p5 (p1.getD x.1.toNat default)).1) ((0,x.2.1,x.2.2.set 1 (wr .i64 (x.2.2.getD 1 0+1)))) _ (cR h)) (ev (ks:=(1::5::(rn 7 35 (rn 45 17 [])))) (gs:=[42,43,44]) (b:=true) rfl (by kernel_rfl)) (cL (yT rfl (ev (ks:=[]) (gs:=[]) (b:=true) rfl (by kernel_rfl)))) (cL (Di (ev (ks:=(1::5::(rn 7 35 (rn 45 17 [])))) (gs:=[42,43,44]) (b:=true) rfl (by kernel_rfl))))))))))) (cL (xI rfl (ev (ks:=(1::5::(rn 7 35 (rn 46 16 [])))) (gs:=[]) (b:=false) rfl (by kernel_rfl)))))) many x r h
def E8:Code→St→Tr Out:=fun b s=>.br (bI ((cu (tL (ET.mv) (tT s 42)) (tI (tT s 43)) (dP s 0) (dP s 2) (dP s 5) ((tI (tT s 44)),(tI (tH s 1 0)),(tN (tH s 4 0)))).getD default)) (qV Pz (fun s=>iZ (tL (ET.mv) (tT s 42)) (tI (tT s 43)) (dP s 0) (dP s 2) (dP s 5) (.inl (gl ((cu (tL (ET.mv) (tT s 42)) (tI (tT s 43)) (dP s 0) (dP s 2) (dP s 5) ((tI (tT s 44)),(tI (tH s 1 0)),(tN (tH s 4 0)))).getD default)))) b s) (qV Pz (fun s=>iZ (tL (ET.mv) (tT s 42)) (tI (tT s 43)) (dP s 0) (dP s 2) (dP s 5) (.inr (gr ((cu (tL (ET.mv) (tT s 42)) (tI (tT s 43)) (dP s 0) (dP s 2) (dP s 5) ((tI (tT s 44)),(tI (tH s 1 0)),(tN (tH s 4 0)))).getD default)))) b s)
theorem KG:∀ b,aM Pz b (E8 b):=qs (c:=fun s=>bI ((cu (tL (ET.mv) (tT s 42)) (tI (tT s 43)) (dP s 0) (dP s 2) (dP s 5) ((tI (tT s 44)),(tI (tH s 1 0)),(tN (tH s 4 0)))).getD default)) fy fy
abbrev cs9222_1 (s:St):Bool:=Kz.Xb [0,2,3,4,6,42,43,44] s==[164,3,3,1061,228,11,3,3,10,3,7,4,7,3,7,3,7,3,3,1,3,10,3,7,4,7,3,7,3,7,3,3,1,3,1,7,10,3,7,4,7,3,7,3,7,3,3,5,3,3,3,3,2,10,3,7,4,7,3,7,3,7,3,3,10,3,7,4,7,3,7,3,7,3,3]
abbrev cs9222_2 (s:St):Bool:=Kz.Xb [0,2,3,4,6,42,43,44] s==[164,3,3,1061,180,11,3,3,10,3,7,4,7,3,7,3,7,3,3,1,3,10,3,7,4,7,3,7,3,7,3,3,1,3,1,7,10,3,7,4,7,3,7,3,7,3,3]
def QY:aw:=iJ Pz (fun f i=>WL f i JL) [(29,NB),(30,MI),(31,ML)] [(117,8,fun b s=>(bif cs9222_1 s then y4 b s else (bif cs9222_2 s then E8 b s else .fail)))] []
theorem Tm:aW QY:=aj ak ⟨Ql,PZ,OU,trivial⟩ ⟨(fu (c:=cs9222_1) zA (fu (c:=cs9222_2) KG nL)),trivial⟩ trivial
def Ae (a:Pos):(Int×Int):=(bif decide ((li zI65).getD 0 0>1000000) then (bif decide ((li zI65).getD 0 0>1000000) then ((0),(4)) else (bif bI ((cu (ba a) (Int.ofNat (ba a).length) a a a (0,0,li zI65)).getD default) then ((0),(4)) else default)) else (bif j4 a then ((0),(0)) else (bif bI ((cu (ba a) (Int.ofNat (ba a).length) a a a (0,0,li zI65)).getD default) then (bif decide ((li zI65).getD 0 0>1000000) then ((0),(4)) else (bif bI ((cu (ba a) (Int.ofNat (ba a).length) a a a (0,0,li zI65)).getD default) then ((0),(4)) else default)) else (((gr ((cu (ba a) (Int.ofNat (ba a).length) a a a (0,0,li zI65)).getD default)).2.2.1),(0)))))
def xB (a:Pos):Bool:=(bif decide ((li zI65).getD 0 0>1000000) then (bif decide ((li zI65).getD 0 0>1000000) then true else (kG a&&(!(j4 a)&&(lO a&&((cu (ba a) (Int.ofNat (ba a).length) a a a (0,0,li zI65)).isSome&&bif bI ((cu (ba a) (Int.ofNat (ba a).length) a a a (0,0,li zI65)).getD default) then true else false))))) else (kG a&&(bif j4 a then true else (lO a&&((cu (ba a) (Int.ofNat (ba a).length) a a a (0,0,li zI65)).isSome&&bif bI ((cu (ba a) (Int.ofNat (ba a).length) a a a (0,0,li zI65)).getD default) then (bif decide ((li zI65).getD 0 0>1000000) then true else (kG a&&(!(j4 a)&&(lO a&&((cu (ba a) (Int.ofNat (ba a).length) a a a (0,0,li zI65)).isSome&&bif bI ((cu (ba a) (Int.ofNat (ba a).length) a a a (0,0,li zI65)).getD default) then true else false))))) else true)))))
theorem acb (a:Pos):db QY 14 28 [Pos.av a,.aE .i64 2]=(let z1:=zI65;let z2:=(St.mk (AV.ptr 4 0::AV.any::AV.aE .i64 0::AV.aE .i64 2::AV.func 61 [] [AV.ptr 1 0]::AV.any::AV.ptr 5 0::(an 35 (AV.list ET.mv (ba a) Tk.fresh::AV.int .i64 (Int.ofNat (ba a).length)::AV.aE .i64 0::(an 17 [])))) (Hp.mk [(pc a []),[AV.aE .i64 0],(pc a []),[AV.aE .i64 0],[AV.ints .i64 65 (li z1)],(pc a [])] [] [] 0 0 0));let z4:=((cu (ba a) (Int.ofNat (ba a).length) a a a (0,0,li z1)).getD default);let z3:=(Tr.br (decide ((li z1).getD 0 0>1000000)) (Tr.ret (AV.tuple [AV.aE .i64 0,AV.aE .i64 4])) (Tr.br (kG a) (Tr.br (j4 a) Tr.fail (Tr.br (lO a) (Tr.br (bI z4) (Tr.br (nH Pz (aT Pz 117 8) z2 (iZ (ba a) (Int.ofNat (ba a).length) a a a (Sum.inl (gl z4)))) (Tr.ret (AV.tuple [AV.aE .i64 0,AV.aE .i64 4])) Tr.fail) (Tr.br (nH Pz (aT Pz 117 8) z2 (iZ (ba a) (Int.ofNat (ba a).length) a a a (Sum.inr (gr z4)))) Tr.fail Tr.fail)) Tr.fail)) Tr.fail));Tr.br (decide ((li z1).getD 0 0>1000000)) z3 (Tr.br (kG a) (Tr.br (j4 a) (Tr.ret (AV.tuple [AV.aE .i64 0,AV.aE .i64 0])) (Tr.br (lO a) (Tr.br (bI z4) (Tr.br (nH Pz (aT Pz 117 8) z2 (iZ (ba a) (Int.ofNat (ba a).length) a a a (Sum.inl (gl z4)))) z3 Tr.fail) (Tr.br (nH Pz (aT Pz 117 8) z2 (iZ (ba a) (Int.ofNat (ba a).length) a a a (Sum.inr (gr z4)))) (Tr.ret (AV.tuple [AV.int .i64 (gr z4).2.2.1,AV.aE .i64 0])) Tr.fail)) Tr.fail)) Tr.fail)):=by kernel_rfl
theorem XY (a:Pos) (h:xB a=true):PS Pz 28 [Pos.av a,.aE .i64 2] ((d2 (dI .i64) (dI .i64)).res (Ae a)):=rJ Tm (acb a) (je (je (cL rfl) (bL (jN (bL (iI (fun h=>yb (ba a) (Int.ofNat (ba a).length) (a) (a) (a) ((0,0,li zI65)) _ (cR h)) (ev (ks:=(1::5::(rn 7 35 (rn 45 17 [])))) (gs:=[42,43,44]) (b:=true) rfl (by kernel_rfl)) (cL rfl) (rA)))))) (bL (je (cL rfl) (bL (iI (fun h=>yb (ba a) (Int.ofNat (ba a).length) (a) (a) (a) ((0,0,li zI65)) _ (cR h)) (ev (ks:=(1::5::(rn 7 35 (rn 45 17 [])))) (gs:=[42,43,44]) (b:=true) rfl (by kernel_rfl)) (je (cL rfl) (bL (jN (bL (iI (fun h=>yb (ba a) (Int.ofNat (ba a).length) (a) (a) (a) ((0,0,li zI65)) _ (cR h)) (ev (ks:=(1::5::(rn 7 35 (rn 45 17 [])))) (gs:=[42,43,44]) (b:=true) rfl (by kernel_rfl)) (cL rfl) (rA)))))) (cL rfl)))))) h
theorem KW {a:Pos} {k:Int} {v:AV} (h:PS Pz 28 [Pos.av a,.aE .i64 k] v):PS Pz 28 [Pos.av a,.int .i64 k] v:=⟨h.1.args fun w cs hr=>(by cases hr with | cons q r=>cases r with | cons q2 r2=>cases q2;exact .cons q (.cons (.aE _ _) r2)),h.2⟩
def B28:aw:=bO Pz Ru [] [] [(60,fun _ _=>.fail)]
theorem aef:aW B28:=aj ak trivial trivial ⟨zw,trivial⟩
theorem Q28 (a:Pos) (b:Int) (h:(bif decide (b<0) then true else (decide (b>64)&&true))=true):PS Pz 28 [Pos.av a,.int .i64 b] ((d2 (dI .i64) (dI .i64)).res (bif decide (b<0) then (0,2) else (0,2))):=pq14 aef h
def GN (a:Pos) (b:Int):(Int×Int):=(bif b==0 then RR a else (bif b==1 then wQ a else (bif b==2 then Ae a else (0,2))))
def yQ (a:Pos) (b:Int):Bool:=(bif b==0 then Lx a else (bif b==1 then yU a else (bif b==2 then xB a else decide (b>64))))
theorem P28 (a:Pos) (b:Int) (h:yQ a b=true):PS Pz 28 [Pos.av a,.int .i64 b] ((d2 (dI .i64) (dI .i64)).res (GN a b)):=by
 unfold yQ at h
 unfold GN
 cases h0:b==0 with
 | true=>rw [h0] at h;rw [beq_iff_eq.1 h0];exact KW (acm a h)
 | false=>cases h1:b==1 with
  | true=>rw [h0,h1] at h;rw [beq_iff_eq.1 h1];exact KW (Xp a h)
  | false=>cases h2:b==2 with
   | true=>rw [h0,h1,h2] at h;rw [beq_iff_eq.1 h2];exact KW (XY a h)
   | false =>
    rw [h0,h1,h2] at h
    have t:=Q28 a b (by rw [show decide (b>64)=true from h,Bool.and_true];cases decide (b<0)<;>rfl)
    have e:(bif decide (b<0) then ((0:Int),(2:Int)) else (0,2))=(0,2):=by cases decide (b<0)<;>rfl
    rw [e] at t
    exact t
def G28:GT:=g2 aY (dI .i64) (fun a b=>cp (yQ a b) ((d2 (dI .i64) (dI .i64)).res (GN a b)))
theorem s28:Sound Pz 28 G28:=bb fun a b=>aC (P28 a b)
variable {p:Pos} {m:Mv}
theorem nE {g:List Int} {k:Nat} {v:Int} (h:k<g.length):(g.set k v).getD k 0=v:=by
 rw [List.getD_eq_getElem?_getD,List.getElem?_set_self h];rfl
theorem qD {g:List Int} {k j:Nat} {v:Int} (h:j≠k):(g.set k v).getD j 0=g.getD j 0:=by
 rw [List.getD_eq_getElem?_getD,List.getElem?_set_ne (Ne.symm h),List.getD_eq_getElem?_getD]
theorem OZ (hp:aA p) (a b:Pos) (g:List Int) (h1:g.getD 1 0=0) (hg:1<g.length):∃ r,cy (ba p) (Int.ofNat (ba p).length) a b p (0,0,g)=some (.inr r)∧r.2.2.1=((ba p).length:Int):=by
 have hl:=kg hp
 obtain ⟨r,e,h⟩:∃ r,cy (ba p) (Int.ofNat (ba p).length) a b p (0,0,g)=some r∧∃ q,r=.inr q∧q.2.2.1=((ba p).length:Int):=by
  refine aU (I:=fun x:Int×Int×List Int=>0≤x.1∧x.1≤((ba p).length:Int)∧x.2.1=x.1∧x.2.2.getD 1 0=x.1∧1<x.2.2.length) (Q:=fun r:(Int×List Int) ⊕ (Int×Bool×Int×List Int)=>∃ q,r=.inr q∧q.2.2.1=((ba p).length:Int)) (μ:=fun x=>(((ba p).length:Int)-x.1).toNat) ?_ _ ⟨Int.le_refl _,by dsimp only;omega,rfl,h1,hg⟩ (by dsimp only;omega)
  rintro ⟨i,n,g⟩ ⟨i0,i1,hn,hg1,hgl⟩
  dsimp only at i0 i1 hn hg1 hgl
  unfold pT uW
  dsimp only
  by_cases hi:i<Int.ofNat (ba p).length
  ·have hi':i<((ba p).length:Int):=hi
   rw [decide_eq_true hi,decide_eq_true i0,(dN hp _).1,hg1,hn,aF (n:=i+1) (by omega) (by omega),nE hgl,decide_eq_false (show ¬ i+1>1000000 by omega)]
   exact ⟨rfl,⟨by dsimp only;omega,by dsimp only;omega,rfl,nE hgl,by dsimp only;rw [List.length_set];exact hgl⟩,by dsimp only;omega⟩
  ·have hi':¬ i<((ba p).length:Int):=hi
   rw [decide_eq_false hi]
   exact ⟨rfl,_,rfl,by dsimp only;omega⟩
 obtain ⟨q,rfl,hq⟩:=h
 exact ⟨q,e,hq⟩
theorem vE (hp:aA p):yU p=true∧wQ p=((bif j4 p then 0 else ((ba p).length:Int)),0):=by
 have k29:kG p=true:=ao (t62 hp) fun _=>rfl
 have k30:=t30 hp
 unfold yU wQ
 obtain ⟨r,e,h⟩:=OZ hp p p (li zI65) rfl (by decide)
 rw [e,k29,k30,← h]
 cases j4 p<;>exact ⟨rfl,rfl⟩
variable {p:Pos} {m:Mv}
theorem jW (hp:aA p) (h:m∈ba p):m∈b8 p:=by
 rw [xz hp] at h
 revert h
 cases ((rL p).1 != 0) with
 | true=>intro h;cases h
 | false=>exact fun h=>(yO hp h).1
def jR (q:Pos):Nat:=bif j4 q then 0 else (ba q).length
def jo (p:Pos) (n:Nat):Nat:=(((ba p).take n).map fun m=>jR (cS p m).1).sum
theorem M8 {n:Nat} (h:n<(ba p).length):jo p (n+1)=jo p n+jR (cS p ((ba p).getD n default)).1:=by
 unfold jo
 rw [List.take_add_one,List.map_append,List.sum_append,List.getD_eq_getElem?_getD,I' h]
 simp
theorem Jj (f:Mv→Nat) (M:Nat):∀ l:M',(∀ m∈l,f m≤M)→(l.map f).sum≤l.length * M
 | [],_=>by simp
 | a::l,h=>by
  have h1:=Jj f M l fun m hm=>h m (by simp [hm])
  have h2:=h a (by simp)
  rw [List.map_cons,List.sum_cons,List.length_cons,Nat.succ_mul]
  omega
theorem Na (hp:aA p) (hth:there p) (n:Nat):jo p n≤1000000:=by
 obtain ⟨M,h1,h2⟩:=Ik hp hth
 have h:=Jj (fun m=>jR (cS p m).1) M ((ba p).take n) fun m hm=>by
  have h3:=h2 m (List.mem_of_mem_take hm)
  unfold jR
  cases j4 (cS p m).1 with
  | true=>exact Nat.zero_le _
  | false=>exact h3
 refine Nat.le_trans h (Nat.le_trans (Nat.mul_le_mul_right _ ?_) h1)
 rw [List.length_take]
 omega
theorem Hu {q:Pos} (hq:aA q) (a b c:Pos) (m:Mv) (n0:Int) (g:List Int) (hg:2<g.length) (h0:0≤g.getD 2 0) (hn:n0=g.getD 2 0) (hb:g.getD 2 0+((ba q).length:Int)≤1000000) :
  ∃ r,cT (ba q) (Int.ofNat (ba q).length) a b c m q q (0,n0,g)=some (.inr r)∧r.2.2.1=n0+((ba q).length:Int)∧r.2.2.2.getD 2 0=n0+((ba q).length:Int)∧r.2.2.2.getD 1 0=g.getD 1 0∧2<r.2.2.2.length:=by
 have hl:=kg hq
 obtain ⟨r,e,h⟩:∃ r,cT (ba q) (Int.ofNat (ba q).length) a b c m q q (0,n0,g)=some r∧∃ y,r=.inr y∧y.2.2.1=n0+((ba q).length:Int)∧y.2.2.2.getD 2 0=n0+((ba q).length:Int)∧y.2.2.2.getD 1 0=g.getD 1 0∧2<y.2.2.2.length:=by
  refine aU (I:=fun x:Int×Int×List Int=>0≤x.1∧x.1≤((ba q).length:Int)∧x.2.1=n0+x.1∧x.2.2.getD 2 0=n0+x.1∧x.2.2.getD 1 0=g.getD 1 0∧2<x.2.2.length)
   (Q:=fun r:(Int×List Int) ⊕ (Int×Bool×Int×List Int)=>∃ y,r=.inr y∧y.2.2.1=n0+((ba q).length:Int)∧y.2.2.2.getD 2 0=n0+((ba q).length:Int)∧y.2.2.2.getD 1 0=g.getD 1 0∧2<y.2.2.2.length)
   (μ:=fun x=>(((ba q).length:Int)-x.1).toNat) ?_ _ ⟨Int.le_refl _,by dsimp only;omega,by dsimp only;omega,by dsimp only;omega,rfl,hg⟩ (by dsimp only;omega)
  rintro ⟨i,n,g'⟩ ⟨i0,i1,hn',hg2,hg1,hgl⟩
  dsimp only at i0 i1 hn' hg2 hg1 hgl
  unfold pQ tP
  dsimp only
  by_cases hi:i<Int.ofNat (ba q).length
  ·have hi':i<((ba q).length:Int):=hi
   rw [decide_eq_true hi,decide_eq_true i0,(dN hq _).1,hg2,hn',aF (n:=i+1) (by omega) (by omega),aF (n:=n0+i+1) (by omega) (by omega),nE hgl,decide_eq_false (show ¬ n0+i+1>1000000 by omega)]
   exact ⟨rfl,⟨by dsimp only;omega,by dsimp only;omega,by dsimp only;omega,by dsimp only;rw [nE hgl];omega,by dsimp only;rw [qD (by decide)];exact hg1,by dsimp only;rw [List.length_set];exact hgl⟩,by dsimp only;omega⟩
  ·have hi':¬ i<((ba q).length:Int):=hi
   rw [decide_eq_false hi]
   exact ⟨rfl,_,rfl,by dsimp only;omega,by dsimp only;omega,hg1,hgl⟩
 obtain ⟨y,rfl,hy⟩:=h
 exact ⟨y,e,hy⟩
theorem H8 (hp:aA p) (a b:Pos) (g:List Int) (h1:g.getD 1 0=0) (h2:g.getD 2 0=0) (hg:2<g.length):∃ r,cu (ba p) (Int.ofNat (ba p).length) a b p (0,0,g)=some (.inr r)∧r.2.2.1=(jo p (ba p).length:Int):=by
 have hl:=kg hp
 obtain ⟨r,e,h⟩:∃ r,cu (ba p) (Int.ofNat (ba p).length) a b p (0,0,g)=some r∧∃ y,r=.inr y∧y.2.2.1=(jo p (ba p).length:Int):=by
  refine aU (I:=fun x:Int×Int×List Int=>0≤x.1∧x.1≤((ba p).length:Int)∧x.2.1=(jo p x.1.toNat:Int)∧x.2.2.getD 2 0=x.2.1∧x.2.2.getD 1 0=x.1∧2<x.2.2.length)
   (Q:=fun r:(Int×List Int) ⊕ (Int×Bool×Int×List Int)=>∃ y,r=.inr y∧y.2.2.1=(jo p (ba p).length:Int)) (μ:=fun x=>(((ba p).length:Int)-x.1).toNat) ?_ _ ⟨Int.le_refl _,by dsimp only;omega,rfl,h2,h1,hg⟩ (by dsimp only;omega)
  rintro ⟨i,n,g'⟩ ⟨i0,i1,hn,hg2,hg1,hgl⟩
  dsimp only at i0 i1 hn hg2 hg1 hgl
  unfold pO sz
  dsimp only
  by_cases hi:i<Int.ofNat (ba p).length
  ·have hi':i<((ba p).length:Int):=hi
   have hmem:=ct (l:=ba p) (i:=i.toNat) (d:=default) (by omega)
   have h66:=jW hp hmem
   obtain ⟨k31,hk,_⟩:=dN hp ((ba p).getD i.toNat default)
   obtain ⟨_,q1,_,_⟩:=hk h66
   have up:=M8 (p:=p) (n:=i.toNat) (by omega)
   have le:=Na hp (eZ hp h66).1 (i.toNat+1)
   have es:∀ k:Int,k=i+1→(jo p k.toNat:Int)=n+(jR (cS p ((ba p).getD i.toNat default)).1:Int):=fun k hk=>by
    rw [hk,show (i+1).toNat=i.toNat+1 by omega,up,hn]
    push_cast
    rfl
   have n0:0≤n:=by rw [hn];exact Int.natCast_nonneg _
   have nb:n+(jR (cS p ((ba p).getD i.toNat default)).1:Int)≤1000000:=by
    rw [hn]
    have:=up ▸ le
    omega
   generalize (ba p).getD i.toNat default=m at *
   generalize (cS p m).1=q at *
   have k29:kG q=true:=ao (t62 q1) fun _=>rfl
   rw [decide_eq_true hi,decide_eq_true i0,k31,hg1,aF (n:=i+1) (by omega) (by omega),nE (by omega),decide_eq_false (show ¬ i+1>1000000 by omega),k29]
   cases hN:j4 q with
   | true =>
    have ew:jR q=0:=by unfold jR;rw [hN];rfl
    rw [ew] at es nb
    refine ⟨rfl,⟨by dsimp only;omega,by dsimp only;omega,?_,?_,?_,?_⟩,by dsimp only;omega⟩
    ·dsimp only;rw [es _ rfl];simp
    ·dsimp only;rw [qD (by decide)];exact hg2
    ·dsimp only;exact nE (by omega)
    ·dsimp only;rw [List.length_set];exact hgl
   | false =>
    have ew:jR q=(ba q).length:=by unfold jR;rw [hN];rfl
    rw [ew] at es nb
    have g2:(g'.set 1 (i+1)).getD 2 0=n:=by rw [qD (by decide)];exact hg2
    obtain ⟨r,e,r1,r2,r3,r4⟩:=Hu q1 a b p m n (g'.set 1 (i+1)) (by rw [List.length_set];exact hgl) (by rw [g2];exact n0) g2.symm (by rw [g2];exact nb)
    rw [t30 q1,e]
    refine ⟨rfl,⟨by dsimp only;omega,by dsimp only;omega,?_,?_,?_,?_⟩,by dsimp only;omega⟩
    ·show r.2.2.1=_
     rw [es _ rfl,r1]
    ·show r.2.2.2.getD 2 0=r.2.2.1
     rw [r1,r2]
    ·show r.2.2.2.getD 1 0=i+1
     rw [r3];exact nE (by omega)
    ·exact r4
  ·have hi':¬ i<((ba p).length:Int):=hi
   rw [decide_eq_false hi]
   refine ⟨rfl,_,rfl,?_⟩
   show n=_
   rw [hn,show i.toNat=(ba p).length by omega]
 obtain ⟨y,rfl,hy⟩:=h
 exact ⟨y,e,hy⟩
theorem Fk (hp:aA p):xB p=true∧Ae p=((bif j4 p then 0 else (jo p (ba p).length:Int)),0):=by
 have k29:kG p=true:=ao (t62 hp) fun _=>rfl
 have k30:=t30 hp
 unfold xB Ae
 obtain ⟨r,e,h⟩:=H8 hp p p (li zI65) rfl rfl (by decide)
 rw [e,k29,k30,← h]
 cases j4 p<;>exact ⟨rfl,rfl⟩
end Kz
end
noncomputable section
namespace Kz
open Go Go.RowKit
theorem wj {R:Type} {ok:BitVec 64×Int→Bool} {st:BitVec 64×Int→aG (BitVec 64×Int) R} (P:Nat→Bool) (fin:R→BitVec 64)
  (h1:∀ (o:BitVec 64) (n:Nat),n<64→ok (o,n)=true∧st (o,n)=.go ((bif P n then o|||1#64 <<< n else o),(n:Int)+1)) (h2:∀ o,ok (o,64)=true∧∃ r,st (o,64)=.out r∧fin r=o) :
  ∃ r,cO (fun x=>bif ok x then st x else .bad) many (0#64,0)=some r∧∀ i,i<64→(fin r).getLsbD i=P i:=by
 refine aU (Q:=fun r=>∀ i,i<64→(fin r).getLsbD i=P i) (I:=fun x=>∃ n:Nat,n≤64∧x.2=(n:Int)∧∀ i,i<64→x.1.getLsbD i=(decide (i<n)&&P i)) (μ:=fun x=>(64-x.2).toNat) ?_ _ ⟨0,by omega,rfl,fun i hi=>by simp⟩ (by simp)
 rintro ⟨o,m⟩ ⟨n,hn,hm,h⟩
 simp only at hm h
 subst hm
 by_cases hc:n<64
 ·obtain ⟨k1,k2⟩:=h1 o n hc
  refine ⟨k1,?_⟩
  rw [k2]
  refine ⟨⟨n+1,by omega,by simp,fun i hi=>?_⟩,by dsimp only;omega⟩
  show (bif P n then o|||1#64 <<< n else o).getLsbD i=_
  cases hp:P n with
  | true =>
   rw [cond_true,BitVec.getLsbD_or,h i hi,fN hi]
   by_cases e:i=n
   ·subst e;rw [hp];simp
   ·rw [show decide (i<n+1)=decide (i<n) by rw [decide_eq_decide];omega]
    simp [e]
  | false =>
   rw [cond_false,h i hi]
   by_cases e:i=n
   ·subst e;rw [hp];simp
   ·rw [show decide (i<n+1)=decide (i<n) by rw [decide_eq_decide];omega]
 ·have:n=64:=by omega
  subst this
  obtain ⟨k1,r,k2,k3⟩:=h2 o
  refine ⟨k1,?_⟩
  rw [show ((o,((64:Nat):Int)):BitVec 64×Int)=(o,64) from rfl,k2]
  intro i hi
  rw [k3,h i hi]
  simp [hi]
theorem yK (a b:Int):(a==b)=decide (a=b):=rfl
theorem EY (x:BitVec 64) {n:Int} (h0:0≤n) (h1:n<64):Ck x n=x.getLsbD n.toNat:=by
 unfold Ck
 rw [cP h0 (by omega),Bg _ (by omega)]
noncomputable section
variable {p q:Pos} (hp:aA p) {m:Mv}
include hp
theorem ac5 (q':Pos) {d:Int} (f0:0≤m.az) (f1:m.az<64):∃ r,eU d p q' m (0#64,0)=some r∧∀ i:Nat,i<64→r.1.getLsbD i=(p.ab.getLsbD i&&((i:Int) != d&&(i:Int) != m.az)):=by
 refine wj (fin:=fun r:BitVec 64×Int×Bool=>r.1) (fun i=>p.ab.getLsbD i&&((i:Int) != d&&(i:Int) != m.az)) (fun o n hn=>⟨rfl,?_⟩) fun o=>⟨rfl,_,rfl,rfl⟩
 unfold KI
 dsimp only
 rw [decide_eq_true (show (n:Int)<64 by omega),EY _ (by omega) (by omega),Int.toNat_natCast,aF (n:=(n:Int)+1) (by omega) (by omega),aF (n:=m.az) (by omega) (by omega),cP (by omega) (by omega),Int.toNat_natCast]
 cases p.ab.getLsbD n<;>cases ((n:Int) != d)<;>cases ((n:Int) != m.az)<;>rfl
theorem K2 (q':Pos) {d:Int} (d0 : -1≤d) (d1:d<64) (f0:0≤m.az) (f1:m.az<64):(eU d p q' m (0#64,0)).isSome=true∧((eU d p q' m (0#64,0)).getD default).1=bif decide (d≥0) then p.ab &&& ~~~(1#64 <<< (BitVec.ofInt 64 d).toNat) &&& ~~~(1#64 <<< (BitVec.ofInt 64 m.az).toNat) else p.ab &&& ~~~(1#64 <<< (BitVec.ofInt 64 m.az).toNat):=by
 obtain ⟨h1,h2⟩:=aK (ac5 hp q' (d:=d) f0 f1)
 refine ⟨h1,BitVec.eq_of_getLsbD_eq fun i hi=>?_⟩
 rw [h2 i hi]
 have ef:(i:Int)=m.az ↔ i=m.az.toNat:=by omega
 by_cases hd:d≥0
 ·have ed:(i:Int)=d ↔ i=d.toNat:=by omega
  rw [decide_eq_true hd,cond_true,BitVec.getLsbD_and,BitVec.getLsbD_and,BitVec.getLsbD_not,BitVec.getLsbD_not,cP hd (by omega),cP f0 (by omega),fN hi,fN hi]
  simp only [bne,yK,ed,ef,hi,decide_true,Bool.true_and,Bool.and_assoc]
 ·have ed:((i:Int) != d)=true:=by rw [bne_iff_ne];omega
  rw [decide_eq_false hd,cond_false,BitVec.getLsbD_and,BitVec.getLsbD_not,cP f0 (by omega),fN hi,ed]
  simp only [bne,yK,ef,hi,decide_true,Bool.true_and]
theorem GR (hk:dm p q) (hpr:q.ab=p.ab) (hm:m∈b8 p):xP p q m (bq p m)=true∧Bw p q m (bq p m)=bS p m q p m (bq p m):=by
 obtain ⟨hth,f0,f1,o0,o1,_,_,pr0,pr6⟩:=eZ hp hm
 obtain ⟨t,hpt,ht⟩:=eW hp hth.1
 have ht39:=CI hp m
 have hqt:q.aa=p.aa:=hk.t
 have hmk:=fun q':Pos=>K2 (m:=m) hp q' ht39.1 ht39.2 f0 f1
 by_cases hv:p.variant=2
 ·have hv2:(q.variant != 2)=false:=by rw [hk.v,hv];rfl
  have hv1:(p.variant != 2)=false:=by rw [hv];rfl
  cases hd:m.aX != 0 with
  | true=>unfold xP Bw bS;rw [hv2,hv1,hd];exact ⟨rfl,rfl⟩
  | false =>
   cases hc:m.bP with
   | true =>
    have hm':m∈dJ p:=by
     rw [kh] at hm
     rcases List.mem_append.1 hm with hm | hm
     ·rcases List.mem_append.1 hm with hm | hm
      ·obtain ⟨_,_,_,_,_,_,_,_,h,_⟩:=fI hp.v0 hm;rw [h] at hc;cases hc
      ·exact hm
     ·obtain ⟨_,_,_,_,_,h,_⟩:=jA hp.t0 hm;rw [h] at hc;cases hc
    obtain ⟨k,r,hk',hr,k0,k7,r0,r7,hkr⟩:=qT hp hpt ht hm'
    obtain ⟨g1,g2,g3,g4,g5,g6⟩:=zM hpt ht hc hk' hr k0 k7 r0 r7 hkr
    unfold xP Bw bS
    rw [hv2,hv1,hd,hc,← g2,← hpr]
    refine ⟨rfl,?_⟩
    simp only [cond_false,cond_true]
    unfold Ck
    rw [aF (n:=m.to) (by omega) (by omega)]
   | false =>
    have i2:decide (0≤p.aa)=true:=decide_eq_true hp.t0
    have i3:decide (p.aa<Int.ofNat 2)=true:=decide_eq_true (by show p.aa<2;omega)
    have n119:∀ x:Int,Ck p.ab x=(p.ab >>> (BitVec.ofInt 64 x).toNat&&&1#64==1#64):=fun x=>rfl
    by_cases hd0:bq p m≥0
    ·have dt:decide (bq p m≥0)=true:=decide_eq_true hd0
     have hbi:=eC hp (scale 1 (bq p m)).toNat
     obtain ⟨e89,_,_,_,_⟩:=pZ hbi.1 hbi.2
     have i64:decide (0≤bq p m)=true:=decide_eq_true hd0
     have i65:decide (bq p m<Int.ofNat 64)=true:=decide_eq_true ht39.2
     have hadd:∀ k:Int,bj q q.aa k=bif decide (k≥1) then (bif decide (k≤5) then (bif decide (q.af.getD (scale 6 q.aa+scale 1 k).toNat 0<255) then ⟨q.variant,q.ae,q.ab,q.af.set (scale 6 q.aa+scale 1 k).toNat (wr .u8 (q.af.getD (scale 6 q.aa+scale 1 k).toNat 0+1)),q.aa,q.ai,q.ah,q.ag,q.half,q.full⟩ else q) else q) else q:=fun k=>by
      unfold bj ra
      rw [decide_eq_true (show q.aa≤1 by rw [hqt];omega)]
      cases decide (k≥1)<;>cases decide (k≤5)<;>cases decide (q.af.getD (scale 6 q.aa+scale 1 k).toNat 0<255)<;>rfl
     have ik:∀ k:Int,decide (k≥1)=true→decide (k≤5)=true→decide (0≤k)=true∧decide (k<Int.ofNat 6)=true:=fun k h1 h2=>by
      simp only [decide_eq_true_eq] at h1 h2 ⊢
      exact ⟨by omega,by show k<6;omega⟩
     have mk:=fun q':Pos=>(hmk q').2
     simp only [dt,cond_true] at mk
     have m1:=fun q':Pos=>(hmk q').1
     have key:∀ (k:Int) (c1 c2:Bool),True:=fun _ _ _=>trivial
     rw [← hqt] at i2 i3
     unfold xP Bw bS
     rw [hv2,hv1,hd,hc,dt]
     simp only [← hqt,e89,cond_false,cond_true,mk,m1,hadd,n119,i2,i3,i64,i65,aF (n:=m.az) (by omega) (by omega),Bool.true_and,Bool.and_true,show decide ((1:Int)≥1)=true from rfl,show decide ((1:Int)≤5)=true from rfl,show Int.ofNat 1=(1:Int) from rfl]
     constructor
     ·generalize bg (p.ae.getD (scale 1 (bq p m)).toNat 0)=k
      have go:decide (k≥1)=true→decide (k≤5)=true→(decide (0≤k)&&decide (k<Int.ofNat 6))=true:=fun h1 h2=>by
       simp only [decide_eq_true_eq,E'] at h1 h2 ⊢
       exact ⟨by omega,by show k<6;omega⟩
      have fin:decide (k≥1)=true→decide (k≤5)=true→∀ c:Bool,(decide (0≤k)&&decide (k<Int.ofNat 6)&&bif c then decide (0≤k)&&decide (k<Int.ofNat 6)&&(decide (0≤k)&&decide (k<Int.ofNat 6)) else true)=true:=fun h1 h2 c=>by
       rw [go h1 h2]
       cases c<;>rfl
      refine ar (fun _=>ar (fun _=>ar (fun _=>rfl) fun _=>rfl) fun _=>?_) fun _=>?_
      ·exact ar (fun a1=>ar (fun a2=>fin a1 a2 _) fun _=>rfl) fun _=>rfl
      ·exact ar (fun a1=>ar (fun a2=>fin a1 a2 _) fun _=>rfl) fun _=>rfl
     ·generalize (p.ab >>> (BitVec.ofInt 64 (bq p m)).toNat&&&1#64==1#64)=c1
      generalize (p.ae.getD (scale 1 (bq p m)).toNat 0 != 0)=c2
      generalize (m.bQ != 0)=c3
      generalize (p.ab >>> (BitVec.ofInt 64 m.az).toNat&&&1#64==1#64)=c4
      generalize bg (p.ae.getD (scale 1 (bq p m)).toNat 0)=k
      rw [← hpr]
      cases c1<;>cases c2<;>cases c3<;>cases c4<;>cases decide (k≥1)<;>cases decide (k≤5)<;>cases decide (q.af.getD (scale 6 q.aa+scale 1 k).toNat 0<255)<;>cases decide (q.af.getD (scale 6 q.aa+scale 1 1).toNat 0<255)<;>rfl
    ·have dt:decide (bq p m≥0)=false:=decide_eq_false hd0
     have mk:=fun q':Pos=>(hmk q').2
     simp only [dt,cond_false] at mk
     have m1:=fun q':Pos=>(hmk q').1
     unfold xP Bw bS
     rw [hv2,hv1,hd,hc,dt]
     simp only [cond_false,mk,m1,n119,aF (n:=m.az) (by omega) (by omega)]
     refine ⟨rfl,?_⟩
     rw [← hpr]
 ·have hv2:(q.variant != 2)=true:=by rw [bne_iff_ne,hk.v];exact hv
  have hv1:(p.variant != 2)=true:=by rw [bne_iff_ne];exact hv
  unfold xP Bw bS
  rw [hv2,hv1]
  exact ⟨rfl,rfl⟩
end
end Kz
end
