/- Part 8 of the texts under the proof: an abstract interpreter,the summaries of functions,plain laws. -/
import Derived.Test.YtgbndomcmihfkaaGreatDoorC7
set_option linter.unusedSectionVars false
set_option linter.unusedVariables false
set_option linter.unusedSimpArgs false
set_option linter.unnecessarySimpa false
set_option maxRecDepth 100000
set_option maxHeartbeats 4000000
noncomputable section
namespace Kz
open Go Go.RowKit Go.Proofs
def ajQ:KT:=[(217,9,[(0,[1,2]),(1,[4])])]
def ai8:aw:=bO Pz ajQ [(218,YR)] [] []
theorem ZQ:aV ai8:=ak aj ⟨ai0,trivial⟩ trivial trivial
def R8 (a:Pos) (b:Int):Int:=(wr .i64 (200 * Ru a b 6))
def Gy (a:Pos) (b:Int):Bool:=(KL (a) (b) (6)&&true)
theorem aeF (a:Pos) (b:Int) (h:Gy a b=true):PS Pz 217 [Pos.av a,.int .u8 b] ((dI .i64).res (R8 a b)):=pq14 ZQ h
def FQ:GT:=g2 aY (dI .u8) (fun a b=>cg (Gy a b) ((dI .i64).res (R8 a b)))
theorem Oo:Sound Pz 217 FQ:=aT fun a b=>ay (aeF a b)
def Mu:KT:=[(100,77,[(0,[1,2]),(1,[1,2,15]),(2,[4]),(3,[1,2,5]),(4,[1,2,5,6]),(5,[1,2,5,6,17]),(6,[1,2,5,6]),(7,[1,2,5,6,24,25,26]),(8,(1::2::5::6::(rn 24 4 []))),(9,[1,2,5,6,8,24,25,26]),(10,[1,2,5,6,8,24,25,26]),(11,[1,2,5,6,8,24,25,26,39]),(12,[1,2,5,6,24,25,26]),(13,[1,2,5,6,24,25,26]),(14,[1,2,5,57,58,59]),(15,(1::2::5::(rn 57 4 []))),(16,[1,2,5,10,57,58,59]),(17,[1,2,5,10,57,58,59,67]),(18,[1,2,5,57,58,59]),(19,[1,2,5,57,58,59]),(20,[4])])]
def Ve:aw:=bO Pz Mu [(99,Vs),(142,iw),(147,fD),(160,AW),(161,Ev),(162,Ic),(210,GA),(211,Ia),(214,Ly),(216,JV),(217,FQ)] [] []
theorem Nn:aV Ve:=ak aj ⟨Xg,iP,fG,Ek,Gm,N2,MQ,MN,L5,MO,Oo,trivial⟩ trivial trivial
def Lz (p1:Int) (p2:Int) (p3:Z') (p4:Int) (p5:Pos) (x:(Int×Int)):St:=St.mk (.any::.int .u8 p1::.ptr 0 0::.any::.any::.int .i64 x.1::.int .u8 p2::(an 17 (.list (ET.i .i64) p3 .fresh::.int .i64 p4::.int .i64 x.2::(an 50 [])))) (Hp.mk [(pc p5 [])] [] [] 0 0 0)
def Lh (p1:Int) (p2:Int) (p3:Z') (p4:Int) (p5:Pos):(Int×Int×Bool)→Out:=fun y=>.exit 2 (St.mk (.any::.int .u8 p1::.ptr 0 0::.any::.any::.int .i64 y.1::.int .u8 p2::(an 17 (.list (ET.i .i64) p3 .fresh::.int .i64 p4::.int .i64 y.2.1::.bool y.2.2::(an 49 [])))) (Hp.mk [(pc p5 [])] [] [] 0 0 0))
def Ot (p1:Int) (p2:Int) (p3:Z') (p4:Int) (p5:Pos) (x:(Int×Int)):aI (Int×Int) ((Int×Int×Bool)):=(bif decide (x.2<p4) then (bif p2==1 then (aI.go (wr .i64 (wr .i64 (x.1+wr .i64 (F5 p2-wr .i64 (4 * JW (p3.getD x.2.toNat default))))+wr .i64 (6 * if wr .i64 (wr .i64 (7 * wr .i64 p1)-wr .i64 (Int.tdiv (p3.getD x.2.toNat default) 8))>wr .i64 (wr .i64 (Int.tdiv (p3.getD x.2.toNat default) 8)-wr .i64 (7 * wr .i64 p1)) then wr .i64 (wr .i64 (7 * wr .i64 p1)-wr .i64 (Int.tdiv (p3.getD x.2.toNat default) 8)) else wr .i64 (wr .i64 (Int.tdiv (p3.getD x.2.toNat default) 8)-wr .i64 (7 * wr .i64 p1)))),wr .i64 (x.2+1))) else (aI.go (wr .i64 (x.1+wr .i64 (F5 p2-wr .i64 (4 * JW (p3.getD x.2.toNat default)))),wr .i64 (x.2+1)))) else (aI.out ((x.1,x.2,decide (x.2<p4)))))
def Ib (p1:Int) (p2:Int) (p3:Z') (p4:Int) (p5:Pos) (x:(Int×Int)):Bool:=(bif decide (x.2<p4) then (decide (0≤x.2)&&decide (x.2<Int.ofNat p3.length)&&(DI (p2)&&true)) else true)
def rC (p1:Int) (p2:Int) (p3:Z') (p4:Int) (p5:Pos) (x:(Int×Int)):Option ((Int×Int×Bool)):=da (fun x=>bif Ib p1 p2 p3 p4 p5 x then Ot p1 p2 p3 p4 p5 x else .bad) many x
abbrev Jv {α:Type} (k:Int→Int→Z'→Int→Pos→(Int×Int)→α) (s:St):α:=wP s 0 fun q0=>k (tI (tT s 1)) (tI (tT s 6)) (tL (ET.i .i64) (tT s 24)) (tI (tT s 25)) q0 ((tI (tT s 5)),(tI (tT s 26)))
theorem TP (p1:Int) (p2:Int) (p3:Z') (p4:Int) (p5:Pos) (x:(Int×Int)) (r:(Int×Int×Bool)) (h:rC p1 p2 p3 p4 p5 x=some r):aB Pz (bj Pz 100 8) (Lz p1 p2 p3 p4 p5 x) (Lh p1 p2 p3 p4 p5 r):=smq (m:=12) (fn:=100) Nn (Jv fun _ _ _ _ _ x=>some x) (fun o=>match o with | .exit 2 s=>some ((tI (tT s 5)),(tI (tT s 26)),(tB (tT s 27))) | _=>none) many x r h
def wO (b:Code) (s:St):Tr Out:=Jv (fun p1 p2 p3 p4 p5 x=>mH b (bj Pz 100 8) s (Lz p1 p2 p3 p4 p5 x) (rC p1 p2 p3 p4 p5 x) (Lh p1 p2 p3 p4 p5)) s
theorem xM:∀ b,aZ Pz b (wO b):=fun _ _ _ h=>bX (TP _ _ _ _ _ _) h
def TX:aw:=bO Pz Mu [(99,Vs),(142,iw),(147,fD),(160,AW),(161,Ev),(162,Ic),(210,GA),(211,Ia),(214,Ly),(216,JV),(217,FQ)] [(100,8,wO)] []
theorem Ns:aV TX:=ak aj ⟨Xg,iP,fG,Ek,Gm,N2,MQ,MN,L5,MO,Oo,trivial⟩ ⟨xM,trivial⟩ trivial
def FU (p1:Int) (p2:Pos) (x:(Int×Int)):St:=St.mk (.any::.int .u8 p1::.ptr 0 0::.any::.any::.int .i64 x.1::.int .u8 x.2::(an 70 [])) (Hp.mk [(pc p2 [])] [] [] 0 0 0)
def Jz (p1:Int) (p2:Pos):(Int×Int×Bool)→Out:=fun y=>.exit 0 (St.mk (.any::.int .u8 p1::.ptr 0 0::.any::.any::.int .i64 y.1::.int .u8 y.2.1::(an 10 (.bool y.2.2::(an 59 [])))) (Hp.mk [(pc p2 [])] [] [] 0 0 0))
def M8 (p1:Int) (p2:Pos) (x:(Int×Int)):aI (Int×Int) ((Int×Int×Bool)):=(bif decide (x.2≤6) then (aI.go (((rC p1 x.2 (fQ (aK p2 p1 x.2)) (Int.ofNat (fQ (aK p2 p1 x.2)).length) p2 (x.1,0)).getD default).1,wr .u8 (x.2+1))) else (aI.out ((x.1,x.2,decide (x.2≤6)))))
def Gn (p1:Int) (p2:Pos) (x:(Int×Int)):Bool:=(bif decide (x.2≤6) then (ct (p2) (p1) (x.2)&&(oN (aK p2 p1 x.2)&&((rC p1 x.2 (fQ (aK p2 p1 x.2)) (Int.ofNat (fQ (aK p2 p1 x.2)).length) p2 (x.1,0)).isSome&&true))) else true)
def og (p1:Int) (p2:Pos) (x:(Int×Int)):Option ((Int×Int×Bool)):=da (fun x=>bif Gn p1 p2 x then M8 p1 p2 x else .bad) many x
abbrev J1 {α:Type} (k:Int→Pos→(Int×Int)→α) (s:St):α:=wP s 0 fun q0=>k (tI (tT s 1)) q0 ((tI (tT s 5)),(tI (tT s 6)))
theorem R4 (p1:Int) (p2:Pos) (x:(Int×Int)) (r:(Int×Int×Bool)) (h:og p1 p2 x=some r):aB Pz (bj Pz 100 5) (FU p1 p2 x) (Jz p1 p2 r):=smq (m:=12) (fn:=100) Ns (J1 fun _ _ x=>some x) (fun o=>match o with | .exit 0 s=>some ((tI (tT s 5)),(tI (tT s 6)),(tB (tT s 17))) | _=>none) many x r h
def Ba (b:Code) (s:St):Tr Out:=J1 (fun p1 p2 x=>mH b (bj Pz 100 5) s (FU p1 p2 x) (og p1 p2 x) (Jz p1 p2)) s
theorem C2:∀ b,aZ Pz b (Ba b):=fun _ _ _ h=>bX (R4 _ _ _) h
def Uo:aw:=bO Pz Mu [(99,Vs),(142,iw),(147,fD),(160,AW),(161,Ev),(162,Ic),(210,GA),(211,Ia),(214,Ly),(216,JV),(217,FQ)] [(100,8,wO),(100,5,Ba)] []
theorem Me:aV Uo:=ak aj ⟨Xg,iP,fG,Ek,Gm,N2,MQ,MN,L5,MO,Oo,trivial⟩ ⟨xM,C2,trivial⟩ trivial
def I7 (p1:Int) (p2:Pos) (x:(Int×Int)):St:=St.mk (.any::.int .u8 p1::.ptr 0 0::.any::.any::.int .i64 x.1::(an 51 (.vlist true [.agg [.bm .u8 2,.func 210 [] []],.agg [.bm .u8 8,.func 211 [] []],.agg [.bm .u8 6,.func 214 [] []],.agg [.bm .u8 5,.func 216 [] []],.agg [.bm .u8 4,.func 217 [] []]]::.bm .i64 (Int.ofNat 5)::.int .i64 x.2::(an 17 [])))) (Hp.mk [(pc p2 [])] [] [] 0 0 0)
def JN (p1:Int) (p2:Pos):(Int×Int×Bool)→Out:=fun y=>.exit 4 (St.mk (.any::.int .u8 p1::.ptr 0 0::.any::.any::.int .i64 y.1::(an 51 (.vlist true [.agg [.bm .u8 2,.func 210 [] []],.agg [.bm .u8 8,.func 211 [] []],.agg [.bm .u8 6,.func 214 [] []],.agg [.bm .u8 5,.func 216 [] []],.agg [.bm .u8 4,.func 217 [] []]]::.bm .i64 (Int.ofNat 5)::.int .i64 y.2.1::.bool y.2.2::(an 16 [])))) (Hp.mk [(pc p2 [])] [] [] 0 0 0))
def L9 (p1:Int) (p2:Pos) (x:(Int×Int)):aI (Int×Int) ((Int×Int×Bool)):=(bif decide (x.2<Int.ofNat 5) then (bif x.2==Int.ofNat 0 then (bif 2==p2.variant then (aI.go (wr .i64 (x.1+Ug p2 p1),wr .i64 (x.2+1))) else (aI.go (x.1,wr .i64 (x.2+1)))) else (bif x.2==Int.ofNat 1 then (bif 8==p2.variant then (aI.go (wr .i64 (x.1+Sg p2 p1),wr .i64 (x.2+1))) else (aI.go (x.1,wr .i64 (x.2+1)))) else (bif x.2==Int.ofNat 2 then (bif 6==p2.variant then (aI.go (wr .i64 (x.1+SX p2 p1),wr .i64 (x.2+1))) else (aI.go (x.1,wr .i64 (x.2+1)))) else (bif x.2==Int.ofNat 3 then (bif 5==p2.variant then (aI.go (wr .i64 (x.1+S9 p2 p1),wr .i64 (x.2+1))) else (aI.go (x.1,wr .i64 (x.2+1)))) else (bif 4==p2.variant then (aI.go (wr .i64 (x.1+R8 p2 p1),wr .i64 (x.2+1))) else (aI.go (x.1,wr .i64 (x.2+1)))))))) else (aI.out ((x.1,x.2,decide (x.2<Int.ofNat 5)))))
def ID (p1:Int) (p2:Pos) (x:(Int×Int)):Bool:=(bif decide (x.2<Int.ofNat 5) then (decide (0≤x.2)&&decide (x.2<Int.ofNat 5)&&(bif x.2==Int.ofNat 0 then (bif 2==p2.variant then (KE (p2) (p1)&&true) else true) else (bif x.2==Int.ofNat 1 then (bif 8==p2.variant then (Iq (p2) (p1)&&true) else true) else (bif x.2==Int.ofNat 2 then (bif 6==p2.variant then (Hh (p2) (p1)&&true) else true) else (bif x.2==Int.ofNat 3 then (bif 5==p2.variant then (Gz (p2) (p1)&&true) else true) else (x.2==Int.ofNat 4&&(bif 4==p2.variant then (Gy (p2) (p1)&&true) else true))))))) else true)
def rE (p1:Int) (p2:Pos) (x:(Int×Int)):Option ((Int×Int×Bool)):=da (fun x=>bif ID p1 p2 x then L9 p1 p2 x else .bad) many x
abbrev Hs {α:Type} (k:Int→Pos→(Int×Int)→α) (s:St):α:=wP s 0 fun q0=>k (tI (tT s 1)) q0 ((tI (tT s 5)),(tI (tT s 59)))
theorem RP (p1:Int) (p2:Pos) (x:(Int×Int)) (r:(Int×Int×Bool)) (h:rE p1 p2 x=some r):aB Pz (bj Pz 100 15) (I7 p1 p2 x) (JN p1 p2 r):=smq (m:=12) (fn:=100) Me (Hs fun _ _ x=>some x) (fun o=>match o with | .exit 4 s=>some ((tI (tT s 5)),(tI (tT s 59)),(tB (tT s 60))) | _=>none) many x r h
def Js (b:Code) (s:St):Tr Out:=Hs (fun p1 p2 x=>mH b (bj Pz 100 15) s (I7 p1 p2 x) (rE p1 p2 x) (JN p1 p2)) s
theorem OG:∀ b,aZ Pz b (Js b):=fun _ _ _ h=>bX (RP _ _ _) h
def ai6:aw:=bO Pz Mu [(99,Vs),(142,iw),(147,fD),(160,AW),(161,Ev),(162,Ic),(210,GA),(211,Ia),(214,Ly),(216,JV),(217,FQ)] [(100,8,wO),(100,5,Ba),(100,15,Js)] []
theorem abv:aV ai6:=ak aj ⟨Xg,iP,fG,Ek,Gm,N2,MQ,MN,L5,MO,Oo,trivial⟩ ⟨xM,C2,OG,trivial⟩ trivial
def abk (a:Pos) (b:Int):Int:=(bif !N99 a.variant b then (0) else (((rE b a (((og b a (0,1)).getD default).1,0)).getD default).1))
def PQ (a:Pos) (b:Int):Bool:=(Re (a.variant) (b)&&(bif !N99 a.variant b then true else ((og b a (0,1)).isSome&&((rE b a (((og b a (0,1)).getD default).1,0)).isSome&&true))))
theorem ajf (a:Pos) (b:Int) (h:PQ a b=true):PS Pz 100 [Pos.av a,.int .u8 b] ((dI .i64).res (abk a b)):=pq14 abv h
def XM:GT:=g2 aY (dI .u8) (fun a b=>cg (PQ a b) ((dI .i64).res (abk a b)))
theorem ac4:Sound Pz 100 XM:=aT fun a b=>ay (ajf a b)
def Qb:aw:=gN Pz (fun _ _=>[]) [(99,Vs),(100,XM)] [] []
theorem adJ:aV Qb:=ak aj ⟨Xg,ac4,trivial⟩ trivial trivial
def Vl (a:Pos):Int:=(cy Qb 14 40 [Pos.av a]).vt (dI .i64).dec
def Bo (a:Pos):Bool:=((cy Qb 14 40 [Pos.av a]).qt (dI .i64).dec).val
theorem acJ (a:Pos):(cy Qb 14 40 [Pos.av a]).sZ.map O4=(cy Qb 14 40 [Pos.av a]).sZ.map QB:=by kernel_rfl
theorem aeQ (a:Pos):((cy Qb 14 40 [Pos.av a]).qt (dI .i64).dec).val=Bo a:=by kernel_rfl
theorem ago (a:Pos):(cy Qb 14 40 [Pos.av a]).vt (dI .i64).dec=Vl a:=by kernel_rfl
theorem P40 (a:Pos) (h:Bo a=true):PS Pz 40 [Pos.av a] ((dI .i64).res (Vl a)) := @xg Qb adJ 14 40 [Pos.av a] Int _ (dI .i64) (Bo a) (Vl a) (aeQ a) (ago a) (acJ a) h
def K50:KT:=[(50,9,[(0,[2,3]),(1,[4])])]
def B50:aw:=bO Pz K50 [(30,G30),(65,Dk)] [] []
theorem ag8:aV B50:=ak aj ⟨s30,Ey,trivial⟩ trivial trivial
def N50 (a:Pos) (b:Mv):Bool:=(GD (eX a) b)
def aaP (a:Pos) (b:Mv):Bool:=(Jt a&&(y9 (eX a) b&&true))
theorem P50 (a:Pos) (b:Mv) (h:aaP a b=true):PS Pz 50 [Pos.av a,Mv.av b] (dB.res (N50 a b)):=pq14 ag8 h
def G50:GT:=g2 aY qZ (fun a b=>cg (aaP a b) (dB.res (N50 a b)))
theorem s50:Sound Pz 50 G50:=aT fun a b=>ay (P50 a b)
def ajm:KT:=[(111,16,[(0,[0]),(1,[0]),(2,[0,5]),(3,[2]),(4,[0,10]),(5,[2]),(6,[2])])]
def afM:aw:=bO Pz ajm [] [] []
theorem Yb:aV afM:=ak aj trivial trivial trivial
def aaA (a:Int):Int:=(bif decide (wr .i64 (0-a)>20000) then (wr .i64 (wr .i64 (0-a)-1)) else (bif decide (wr .i64 (0-a) < -20000) then (wr .i64 (wr .i64 (0-a)+1)) else (wr .i64 (0-a))))
def aal (a:Int):Bool:=true
theorem aeG (a:Int) (h:aal a=true):PS Pz 111 [.int .i64 a] ((dI .i64).res (aaA a)):=pq14 Yb h
def We:GT:=g1 (dI .i64) (fun a=>.ret ((dI .i64).res (aaA a)))
theorem aeL:Sound Pz 111 We:=aF fun a=>bK (aeG a rfl)
def pC:Pos:=⟨0,((((List.replicate 64 (0:Int)).set 0 6).set 3 4).set 63 14).set 59 13,0,List.replicate 12 0,0,List.replicate 4 0,-1,[0,0],0,1⟩
def mC:Mv:=⟨3,59,0,0,false⟩
def qC:Pos:=(mI pC mC).1
theorem p0C:AL pC=(0,0):=by kernel_rfl
theorem p1C:AL qC=(0,0):=by kernel_rfl
theorem T0C:fX pC=[mC]:=by kernel_rfl
theorem T1C:fX qC=[]:=by kernel_rfl
theorem e0C:(Bo pC,Vl pC)=(true,-400):=by kernel_rfl
theorem e1C:(Bo qC,Vl qC)=(true,-488):=by kernel_rfl
def QG (p q:Pos):Bool:=p.ae==q.ae&&(p.aa==q.aa&&(p.ah==q.ah&&(p.half==q.half&&(p.full==q.full&&(p.variant==q.variant&&(p.ab==q.ab&&(p.af==q.af&&(p.ai==q.ai&&p.ag==q.ag))))))))
theorem pF {p q:Pos} (h:QG p q=true):p=q:=by
 unfold QG at h
 simp only [E',beq_iff_eq] at h
 obtain ⟨h1,h2,h3,h4,h5,h6,h7,h8,h9,h0⟩:=h
 cases p;cases q
 simp only at *
 subst_vars
 rfl
def R9 (a:Pos):Tr AV:=match QG pC a with
 | true=>cg (nE a) ((dR .u8 .u8).res (0,0))
 | false=>match QG qC a with
  | true=>cg (nE a) ((dR .u8 .u8).res (0,0))
  | false=>.fail
def Rt (a:Pos):Tr AV:=match QG pC a with
 | true=>cg (nE a) ((dL .mv).res [mC])
 | false=>match QG qC a with
  | true=>cg (nE a) ((dL .mv).res [])
  | false=>.fail
def UE (a:Pos):Tr AV:=match QG pC a with
 | true=>.ret ((dI .i64).res (-400))
 | false=>match QG qC a with
  | true=>.ret ((dI .i64).res (-488))
  | false=>.fail
theorem ZS (a:Pos):Ho Pz 62 [Pos.av a] (R9 a):=by
 unfold R9
 split
 ·rename_i e
  rw [← pF e]
  exact ay fun h=>by rw [← p0C];exact P62 pC (t62 (lU h))
 ·split
  ·rename_i e
   rw [← pF e]
   exact ay fun h=>by rw [← p1C];exact P62 qC (t62 (lU h))
  ·intro u hu;cases hu
theorem ZR (a:Pos):Ho Pz 21 [Pos.av a] (Rt a):=by
 unfold Rt
 split
 ·rename_i e
  rw [← pF e]
  exact ay fun h=>by rw [← T0C];exact Tu pC (lU h)
 ·split
  ·rename_i e
   rw [← pF e]
   exact ay fun h=>by rw [← T1C];exact Tu qC (lU h)
  ·intro u hu;cases hu
theorem WK (a:Pos):Ho Pz 40 [Pos.av a] (UE a):=by
 unfold UE
 split
 ·rename_i e
  rw [← pF e]
  have h:Bo pC=true∧Vl pC = -400:=by simpa using e0C
  rw [← h.2]
  exact bK (P40 pC h.1)
 ·split
  ·rename_i e
   rw [← pF e]
   have h:Bo qC=true∧Vl qC = -488:=by simpa using e1C
   rw [← h.2]
   exact bK (P40 qC h.1)
  ·intro u hu;cases hu
theorem Xc (a:Pos) (m:Mv):Ho Pz 50 [Pos.av a,Mv.av m] (cg (nE a&&y9 (eX a) m) (dB.res (N50 a m))) :=
 ay fun h=>by
  simp only [E'] at h
  exact P50 a m (ao (t30 (lU h.1)) fun _=>ao h.2 fun _=>rfl)
def B17:aw:=gN Pz (fun _ _=>[]) [(31,g2 aY qZ fun a b=>cg (nE a) ((d2 aY dB).res (mI a b))),(62,g1 aY R9),(21,g1 aY Rt),(40,g1 aY UE),(50,g2 aY qZ fun a b=>cg (nE a&&y9 (eX a) b) (dB.res (N50 a b))),(111,We)] [] []
theorem agW:aV B17:=ak aj ⟨aT fun a b=>ay fun h=>P31 a b (od (lU h) b).1,aF ZS,aF ZR,aF WK,aT Xc,aeL,trivial⟩ trivial trivial
def TO:Option AV→Bool
 | some (.bool b) | some (.aQ b)=>b
 | _=>false
theorem FR {o:Option AV} (h:TO o=true):∃ v,o=some v∧dB.dec v=some true:=by
 unfold TO at h
 split at h
 ·subst h;exact ⟨_,rfl,rfl⟩
 ·subst h;exact ⟨_,rfl,rfl⟩
 ·cases h
theorem Q12:TO (cy B17 80 17 []).get=true:=by kernel_rfl
theorem aie:PS Pz 17 [] (dB.res true):=by
 obtain ⟨v,h1,h2⟩:=FR Q12
 exact H9 agW h1 dB h2
def N17:Bool:=true
def acP:Bool:=true
theorem P17 (_:acP=true):PS Pz 17 [] (dB.res N17):=aie
def G17:GT:=g0 (.ret (dB.res N17))
theorem s17:Sound Pz 17 G17:=sd (bK (P17 rfl))
open Classical in
def Jq (a:Pos):Bool:=shut (decide (aO a))
theorem yJ {p:Pos}:Jq p=true ↔ aO p:=by
 unfold Jq
 rw [nK]
 simp
def OS (a:Pos):M':=shut (fX a)
theorem JH (p:Pos):OS p=fX p:=nK _
theorem P21 (a:Pos) (h:Jq a=true):PS Pz 21 [Pos.av a] ((dL .mv).res (OS a)):=by
 rw [JH]
 exact Tu a (yJ.1 h)
def G21:GT:=g1 aY (fun a=>cg (Jq a) ((dL .mv).res (OS a)))
theorem s21:Sound Pz 21 G21:=aF fun a=>ay (P21 a)
def K5:KT:=[(5,29,[(0,[1]),(1,[3,4]),(2,[3,4,14]),(3,[2]),(4,[3,4,5]),(5,[3,4,5,18]),(6,[3,4,5]),(7,[3,4,5,27]),(8,[2]),(9,[2])])]
def agU:aw:=bO Pz K5 [(17,G17),(21,G21),(22,G22),(23,G23)] [] []
theorem Yk:aV agU:=ak aj ⟨s17,s21,s22,s23,trivial⟩ trivial trivial
def ZK (p1:M') (p2:M') (p3:Pos) (x:(Int)):St:=St.mk (an 3 (.list .mv p1 .fresh::.list .mv p2 .fresh::.int .i64 x::(an 23 []))) (Hp.mk [(pc p3 [])] [] [] 0 0 0)
def aas (p1:M') (p2:M') (p3:Pos):Unit ⊕ (Int×Bool)→Out
 | (.inl (y))=>.ret (St.mk (AV.any::AV.any::AV.aQ false::(an 26 [])) (Hp.mk [(pc p3 [])] [] [] 0 0 0))
 | (.inr (y))=>.exit 0 (St.mk (an 3 (AV.list ET.mv p1 Tk.fresh::AV.list ET.mv p2 Tk.fresh::AV.int .i64 y.1::(an 12 (AV.bool y.2::(an 10 []))))) (Hp.mk [(pc p3 [])] [] [] 0 0 0))
def P0 (p1:M') (p2:M') (p3:Pos) (x:(Int)):aI (Int) (Unit ⊕ (Int×Bool)):=(bif decide (x<Int.ofNat p2.length) then (bif !N23 p1 (p2.getD x.toNat default) then (aI.out (.inl (()))) else (aI.go (wr .i64 (x+1)))) else (aI.out (.inr ((x,decide (x<Int.ofNat p2.length))))))
def GG (p1:M') (p2:M') (p3:Pos) (x:(Int)):Bool:=(bif decide (x<Int.ofNat p2.length) then (decide (0≤x)&&decide (x<Int.ofNat p2.length)&&(Hg p1 (p2.getD x.toNat default)&&true)) else true)
def vZ (p1:M') (p2:M') (p3:Pos) (x:(Int)):Option (Unit ⊕ (Int×Bool)):=da (fun x=>bif GG p1 p2 p3 x then P0 p1 p2 p3 x else .bad) many x
abbrev X8 {α:Type} (k:M'→M'→Pos→(Int)→α) (s:St):α:=wP s 0 fun q0=>k (tL (ET.mv) (tT s 3)) (tL (ET.mv) (tT s 4)) q0 ((tI (tT s 5)))
theorem aeZ (p1:M') (p2:M') (p3:Pos) (x:(Int)) (r:Unit ⊕ (Int×Bool)) (h:vZ p1 p2 p3 x=some r):aB Pz (bj Pz 5 5) (ZK p1 p2 p3 x) (aas p1 p2 p3 r):=aB.xO (m:=12) (fn:=5) Yk (X8 fun _ _ _ x=>some x) (fun o=>match o with | .ret s=>some (.inl ()) | .exit 0 s=>some (.inr ((tI (tT s 5)),(tB (tT s 18)))) | _=>none) (fun r=>by cases r<;>rfl) (fun _=>by kernel_rfl) (fun _=>by kernel_rfl) (fun _=>by kernel_rfl) (fun _=>by kernel_rfl) many x r h
def Xr (b:Code) (s:St):Tr Out:=X8 (fun p1 p2 p3 x=>w9 b (bj Pz 5 5) s (ZK p1 p2 p3 x) (vZ p1 p2 p3 x) (aas p1 p2 p3)) s
theorem WJ:∀ b,aZ Pz b (Xr b):=fun _ _ _ h=>ez (aeZ _ _ _ _) h
def B5:aw:=bO Pz K5 [(17,G17),(21,G21),(22,G22),(23,G23)] [(5,5,Xr)] []
theorem hB5:aV B5:=ak aj ⟨s17,s21,s22,s23,trivial⟩ ⟨WJ,trivial⟩ trivial
def N5 (a:Pos):Bool:=(bif Int.ofNat (OS a).length != Int.ofNat (uP a).length then (false) else (bif cu ((vZ (OS a) (uP a) a 0).getD default) then (false) else (N17)))
def ok5 (a:Pos):Bool:=(Jq a&&(I0 a&&(bif Int.ofNat (OS a).length != Int.ofNat (uP a).length then true else ((vZ (OS a) (uP a) a 0).isSome&&bif cu ((vZ (OS a) (uP a) a 0).getD default) then true else true))))
theorem P5 (a:Pos) (h:ok5 a=true):PS Pz 5 [Pos.av a] (dB.res (N5 a)):=pq14 hB5 h
variable {p:Pos} {m:Mv}
theorem KU (p:Pos):VE p=((AL p).1 != 0):=rfl
theorem EN (hp:aO p):(fX p).length=(uP p).length∧(uP p).length≤20802∧∀ m∈uP p,m∈fX p:=by
 have hl:=wz hp
 have hf:((eX p).filter (fT p)).length≤(eX p).length:=List.length_filter_le _ _
 rw [(Il hp).2]
 unfold fX
 rw [KU]
 cases ((AL p).1 != 0) with
 | true=>exact ⟨rfl,Nat.zero_le _,fun m h=>h⟩
 | false=>exact ⟨wY _ _,Nat.le_trans hf hl,fun m h=>(zm p _).mem_iff.2 h⟩
theorem MA (hp:aO p):ok5 p=true∧N5 p=true:=by
 obtain ⟨h1,h2,h3⟩:=EN hp
 obtain ⟨r,e,hr⟩:∃ r,vZ (fX p) (uP p) p 0=some r∧cu r=false:=by
  refine bh (I:=fun x:Int=>0≤x∧x≤((uP p).length:Int)) (Q:=fun r:Unit ⊕ (Int×Bool)=>cu r=false) (μ:=fun x=>(((uP p).length:Int)-x).toNat) ?_ _ ⟨Int.le_refl _,by omega⟩ (by omega)
  rintro x ⟨x0,x1⟩
  unfold GG P0
  by_cases hi:x<Int.ofNat (uP p).length
  ·have hi':x<((uP p).length:Int):=hi
   have hin:=cS (l:=uP p) (i:=x.toNat) (d:=default) (by omega)
   obtain ⟨k1,k2⟩:=aiw (l:=fX p) (by omega) ((uP p).getD x.toNat default)
   rw [decide_eq_true hi,decide_eq_true x0,k1,k2,decide_eq_true (h3 _ hin),aN (by omega) (by omega)]
   exact ⟨rfl,⟨by omega,by omega⟩,by show (((uP p).length:Int)-(x+1)).toNat<(((uP p).length:Int)-x).toNat;omega⟩
  ·rw [decide_eq_false hi]
   exact ⟨rfl,rfl⟩
 unfold ok5 N5
 rw [JH,yJ.2 hp,(Il hp).1,h1,e,bne_self_eq_false]
 simp only [Option.getD_some,hr]
 exact ⟨rfl,rfl⟩
end Kz
end
