/- Part 6 of the proof. -/
import Derived.Test.YtgbndomcmihfkaaGreatDoorE5
import Derived.Deep.RegionWith
set_option linter.unusedSectionVars false
set_option linter.unusedVariables false
set_option linter.unusedSimpArgs false
set_option linter.unnecessarySimpa false
set_option maxRecDepth 100000
set_option maxHeartbeats 4000000
noncomputable section
namespace Kz
open Go Go.RowKit Go.Proofs
set_option maxRecDepth 100000
def B46:ar:=gq Pz (fun _ _=>[]) [(47,G47)] [] []
theorem akM:aP B46:=ae af ⟨s47,trivial⟩ trivial trivial
theorem P46 (m:Mv)(p:Pos)(h:(xh p m&&true)=true):PS Pz 46 [Mv.av m,.ptrf (Pos.av p)] (dB.res (!hZ p m)):=rD (n:=14) akM (by kernel_rfl) (by kernel_rfl) (by kernel_rfl) h
theorem t29 {p:Pos}(hp:ax p):Yv p=true:=ak (t62 hp) fun _=>rfl
def gS (p:Pos):M':=bif N29 p then[]else DM p ((di p).filter (hZ p))
end Kz
namespace Go.Proofs
open Go.Shelf Go.RowKit Go.Lib Go.Sort Kz
theorem jD {g:Gh}{tk:List Nat}{w:World}{p:Pos}{cs:List Value}(h:ay g tk w (bf (Pos.av p)) cs):cs.length=88:=by change ay g tk w [.int .u8 p.variant,.ints .u8 64 p.ab,.u64 p.ai,.ints .u8 12 p.ah,.int .u8 p.aa,.ints .i8 4 p.ao,.int .i8 p.az,.ints .u8 2 p.au,.int .i64 p.half,.int .i64 p.full] cs at h;obtain⟨x1,r1,e1,q1,h1⟩:=h.inv_one rfl;obtain⟨l2,r2,e2,h2⟩:=h1.bI;obtain⟨x3,r3,e3,q3,h3⟩:=h2.inv_one rfl;obtain⟨l4,r4,e4,h4⟩:=h3.bI;obtain⟨x5,r5,e5,q5,h5⟩:=h4.inv_one rfl;obtain⟨l6,r6,e6,h6⟩:=h5.bI;obtain⟨x7,r7,e7,q7,h7⟩:=h6.inv_one rfl;obtain⟨l8,r8,e8,h8⟩:=h7.bI;obtain⟨x9,r9,e9,q9,h9⟩:=h8.inv_one rfl;obtain⟨x10,r10,e10,q10,h10⟩:=h9.inv_one rfl;have e11:=h10.cL;simp_all
structure Kept (w w1 W:World):Prop where
 b:RowKit.Below w.heap.size w W
 s:w1.heap.size≤W.heap.size
 p:W.heap[w.heap.size]?=w1.heap[w.heap.size]?
theorem Kept.drew {w w1 W:World}(h:Kept w w1 W):Kept w w1 W.drew:=⟨h.b.drew,h.s,h.p⟩
theorem U5 {w W W':World}{l:M'}{v:Value}(hb:w.heap.size≤W.heap.size)(h:aN (rA W W') [] W' (.list .mv l .fresh) v):aN (rA w W') [] W' (.list .mv l .fresh) v:=by
 cases h with
 |list hn hE hS hT hC =>
 refine .list hn (by rw[dN hE];exact iJ _ _ _ _) (hS.imp id fun ⟨c,o,e1,e2,e3⟩=>⟨c,o,e1,fun j x hj=>?_,fun f=>?_⟩) (fun k e=>by cases e) hC
 ·obtain⟨k1,k2,k3⟩:=e2 j x hj;exact⟨k1,Nat.le_trans hb k2,k3⟩
 ·exact Nat.le_trans hb (e3 f)
theorem Ub {w0 W:World}{b cap:Nat}{ty:TypeId}{l:M'}(h:dq w0 b cap ty l.toArray W)(hc:l.length≤cap):aN (cK W) [] W (.list .mv l .arg) (.slice (some ⟨b,0,none⟩) l.length cap):=by
 obtain⟨cur,c1,c2,c3⟩:=h.row;refine .list (cs:=l.flatMap bQ) rfl (iJ _ _ _ _) (.inr ⟨b,0,rfl,fun j x hj=>?_,fun f=>absurd rfl f⟩) (fun k e=>by cases e) hc;have hjl:j<l.length*5:=by rw[←cZ];exact(by grind)
 have hdm:j=j / 5*5+j%5:=by omega
 have hq5:j / 5<l.length:=by omega
 have hfl:=eE l (j / 5) (j%5) hq5 (by omega);rw[←hdm,hj]at hfl;refine⟨?_,show b<W.heap.size from aB c1⟩;rw[aw c1,Nat.zero_add];grind
set_option maxHeartbeats 4000000 in
set_option maxRecDepth 100000 in
theorem YN (p:Pos)(hp:ax p)(k:Nat)(zE:∀w,(Go.sizeOf 31).run Tryz.prog w=.ok k w)(hk:k=88):aX Tryz.prog 21 [Pos.av p] (.list .mv (gS p) .fresh):=by
 intro w bp hg hr;obtain⟨bp⟩:=bp;cases hr with
 |cons q1 r1 =>
 cases r1;obtain⟨pcs,rfl,hpc⟩:=aN.cM (l:=bf (Pos.av p)) q1;clear q1;refine callsIn_wide.2 ?_;have aE:∀w,(isAgg 31).run Tryz.prog w=.ok true w:=Tryz.isAgg31;have hlen:pcs.toList.length=k:=(jD hpc).trans hk.symm;obtain⟨w1,hw1⟩:∃w1,w1=w.alloc (Obj.cells pcs 31):=⟨_,rfl⟩;have hs1:w1.heap.size=w.heap.size+1:=by rw[hw1];simp
 have hp1:w1.heap[w.heap.size]?=some (.cells pcs 31 (0,0)):=by rw[hw1];exact heap_alloc_new w _
 have hb1:RowKit.Below w.heap.size w w1:=by rw[hw1];exact(Below.refl _ w).alloc (Nat.le_refl _) _
 have ld:∀W,Kept w w1 W→Sem.run Tryz.prog (loadCellsFrom ⟨w.heap.size,0,none⟩ 0 k #[]) W=.ok pcs W:=fun W hW=>by
  have h:=run_loadCellsFrom_list Tryz.prog _ _ pcs.toList k hlen (fun c v hc=>by
   rw[Addr.add_lit,aw (hW.p.trans hp1),Nat.zero_add]
   simpa using hc)
  simpa using h
 have r0:∀W,Kept w w1 W→aN (cK W) [] W (Pos.av p) (.agg pcs):=fun W hW=>.agg (b8 hpc);have g0:∀W,Kept w w1 W→cN W:=fun W hW=>gK hg hW.b.size hW.b.block;have k11:∀W,Kept w w1 W→Calls Tryz.prog 29 #[.agg pcs] W fun e w'=>e=.returned (.bool (N29 p))∧Kept w w1 w':=fun W hW=>by have h:=(P29 p (t29 hp)).1;unfold aX at h;refine Calls.mono (callsIn_wide.1 (h W #[.agg pcs] (g0 W hW) (.cons (r0 W hW) .nil))) ?_;rintro e w' ⟨x,rfl,hb,hx⟩;cases hx;have:=hW.s;exact⟨rfl,hW.b.trans (hb.mono hW.b.size),Nat.le_trans hW.s hb.size,(hb.block _ (by omega)).trans hW.p⟩
 have hK1:Kept w w1 w1:=⟨hb1,Nat.le_refl _,rfl⟩;have hll:=np hp;have hfl:((di p).filter (hZ p)).length≤(di p).length:=by grind
 have k18:∀W,Kept w w1 W→Calls Tryz.prog 30 #[.agg pcs] W fun e w'=>∃a cap,e=.returned (.slice a (di p).length cap)∧Hid (Kept w w1 w')∧Hid (mT W w' a cap (di p)):=fun W hW=>by refine Calls.mono (agT p hp W (g0 W hW) (.agg pcs) (r0 W hW)) ?_;rintro e w' ⟨a,cap,rfl,hb,hF⟩;have:=hW.s;exact⟨a,cap,rfl,⟨hW.b.trans (hb.mono hW.b.size),Nat.le_trans hW.s hb.size,(hb.block _ (by omega)).trans hW.p⟩,hF⟩
 have k33:∀W u,Kept w w1 W→Calls Tryz.prog 46 (#[.agg (bQ u).toArray]++#[.pointer (some ⟨w.heap.size,0,none⟩)]) W fun e w'=>e=.returned (.bool (!hZ p u))∧RowKit.Below W.heap.size W w':=fun W u hW=>by
  have h:=(P46 u p (by rw[t47 hp.v0];rfl)).1;unfold aX at h;obtain⟨args,ha⟩:∃args:Array Value,args=#[Value.agg (bQ u).toArray]++#[Value.pointer (some ⟨w.heap.size,0,none⟩)]:=⟨_,rfl⟩;rw[←ha];refine Calls.mono (callsIn_wide.1 (h W args (g0 W hW) ?_)) ?_
  ·have e:args.toList=[Value.agg (bQ u).toArray,Value.pointer (some ⟨w.heap.size,0,none⟩)]:=by rw[ha];simp
   rw[e];have r1:aN (cK W) [] W (Mv.av u) (Value.agg (bQ u).toArray) := .agg (my _ _ _ u);refine .cons r1 (.cons (.ptrf (cs:=pcs.toList) (b8 hpc) ?_) .nil);intro j x hj;have hs:=hW.s;refine⟨?_,show w.heap.size<W.heap.size by omega⟩;rw[aw (hW.p.trans hp1),Nat.zero_add];simpa using hj
  ·rintro e w' ⟨x,rfl,hb,hx⟩;cases hx;exact⟨rfl,hb⟩
 have k35:∀W W3 a cap,Kept w w1 W→Kept w w1 W3→mT W W3 a cap (di p)→Calls Tryz.prog 49 #[.slice a (di p).length cap,.func (.func 46) #[] #[.pointer (some ⟨w.heap.size,0,none⟩)]] W3 fun e w'=>∃a',e=.returned (.slice a' ((di p).filter (hZ p)).length cap)∧Hid (Kept w w1 w')∧Hid (aN (cK w') [] w' (.list .mv ((di p).filter (hZ p)) .arg) (.slice a' ((di p).filter (hZ p)).length cap)):=fun W W3 a cap hW hW3 hF=>by
  rcases hF with⟨rfl,hl0,rfl⟩|⟨b,ty,rfl,k1,k2,k3,k4,hrow⟩
  ·have el:(di p).length=0:=by rw[hl0];rfl
   have e0:(di p).filter (hZ p)=[]:=by rw[hl0];rfl
   rw[el,e0];refine(aaJ none 0 _ W3).mono ?_;rintro e w' ⟨rfl,rfl⟩;exact⟨none,rfl,hW3,.list (cs:=[]) rfl .nil (.inl rfl) (fun k e=>by cases e) (Nat.le_refl _)⟩
  ·have hsW:=hW.s
   have hd:=aso (fun u => !hZ p u) 46 #[.pointer (some ⟨w.heap.size,0,none⟩)] (fun _ _=>rfl) b cap (di p).toArray W3 ty k2 hrow (by simpa using k3) k4 (fun W' dk u hW'=>by
    have hK:Kept w w1 W':=⟨⟨hW'.os.trans hW3.b.os,hW'.tape.trans hW3.b.tape,hW'.output.trans hW3.b.output,Nat.le_trans hW3.b.size hW'.size,fun q hq=>by
     have:=hW3.b.size
     rw[hW'.other q (by omega) (by omega),hW3.b.block q hq]⟩,Nat.le_trans hW3.s hW'.size,by
     have:=hW3.s
     rw[hW'.other _ (by omega) (by omega),hW3.p]⟩
    exact k33 W' u hK)
   simp only[List.size_toArray,Bool.not_not]at hd;refine hd.mono ?_;rintro e w' ⟨rfl,hR⟩
   refine⟨_,rfl,⟨⟨hR.os.trans hW3.b.os,hR.tape.trans hW3.b.tape,hR.output.trans hW3.b.output,Nat.le_trans hW3.b.size hR.size,fun q hq=>by
     have:=hW3.b.size
     rw[hR.other q (by omega) (by omega),hW3.b.block q hq]⟩,Nat.le_trans hW3.s hR.size,by
     have:=hW3.s
     rw[hR.other _ (by omega) (by omega),hW3.p]⟩,Ub hR (by omega)⟩
 have k34:∀W v,Kept w w1 W→aN (cK W) [] W (.list .mv ((di p).filter (hZ p)) .arg) v→Calls Tryz.prog 48 #[.agg pcs,v] W fun e w'=>∃x,e=.returned x∧Hid (RowKit.Below w.heap.size w w')∧Hid (aN (rA w w') [] w' (.list .mv (DM p ((di p).filter (hZ p))) .fresh) x):=fun W v hW hv=>by have h:=aid p ((di p).filter (hZ p)) (by unfold qI;omega);unfold aX at h;refine Calls.mono (callsIn_wide.1 (h W #[.agg pcs,v] (g0 W hW) (.cons (r0 W hW) (.cons hv .nil)))) ?_;rintro e w' ⟨x,rfl,hb,hx⟩;exact⟨x,rfl,hW.b.trans (hb.mono hW.b.size),U5 hW.b.size hx⟩
 have K30:Aside _:=k18;have K49:Aside _:=k35;have K48:Aside _:=k34;clear k18 k33 k35 k34 hll hfl;have LD:Aside _:=ld;have K29:Aside _:=k11;clear ld k11 hg hk hlen;have l1:Sem.run Tryz.prog (loadCellsFrom { block:=w.heap.size,off:=0,spot:=none } 0 k #[]) (w.alloc (Obj.cells pcs 31))=.ok pcs (w.alloc (Obj.cells pcs 31)):=by rw[←hw1];exact LD.out w1 hK1
 have c11:=K29.out w1 hK1;rw[hw1]at c11;have HW1:=Lib.hid hw1;have HS1:=Lib.hid hs1;have HP1:=Lib.hid hp1;have HB1:=Lib.hid hb1;have R0:=Lib.hid r0;have G0:=Lib.hid g0;clear hK1 hs1 hp1 hb1 r0 g0 hw1;go_enter Tryz.func21,Tryz.ntmps21;go_wp2_with fail;refine c11.mono ?_;rintro e w2 ⟨rfl,hK2⟩;rw[←HW1.out]at hK2;have HK2:=Lib.hid hK2;clear l1 hK2 c11;cases hN:N29 p with
 |true =>go_wp2_with fail;go_ret;have hK:=HK2.out;refine⟨_,rfl,hK.b,?_⟩;unfold gS;rw[hN];exact .list (cs:=[]) rfl .nil (.inl rfl) (fun k e=>by cases e) (Nat.le_refl _)
 |false =>
  have HKd:Hid (Kept w w1 w2.drew):=HK2.out.drew;have l2:=LD.out w2.drew HKd.out;go_wp2_with fail
  go_region_with (first
   |(go_at_call_of 30 (Value.agg pcs);refine(K30.out w2.drew HKd.out).mono ?_;rintro e w3 ⟨a3,cap3,rfl,HK3,HF3⟩;have l3:=LD.out w3 HK3.out)
   |(go_at_call_of 49 (Value.slice a3 (di p).length cap3);refine(K49.out w2.drew w3 a3 cap3 HKd.out HK3.out HF3.out).mono ?_;rintro e w4 ⟨a4,rfl,HK4,HR4⟩;have l4:=LD.out w4 HK4.out)
   |(go_at_call_of 48 (Value.agg pcs);refine(K48.out w4 _ HK4.out HR4.out).mono ?_;rintro e w5 ⟨x5,rfl,HB5,HR5⟩))
  all_goals
   go_wp2_with fail
   go_ret
   refine⟨_,rfl,HB5.out,?_⟩
   unfold gS
   rw[hN]
   exact HR5.out
end Go.Proofs
namespace Kz
open Go Go.RowKit Go.Proofs
theorem ZN (p:Pos)(hp:ax p):PS Pz 21 [Pos.av p] (.list .mv (gS p) .fresh) :=
 ⟨YN p hp 88 Tryz.sizeOf31 rfl,by
  have h:(match Pz.funcs[21]? with
   |some fn=>fn.body.isSome
   |none=>false)=true:=by kernel_rfl
  simp_all⟩
end Kz
namespace Kz
open Go Go.RowKit Go.Proofs
def asr:KT:=[(159,6,[(0,[0]),(1,[2])])]
def akJ:ar:=bO Pz asr [(178,TM)] [] []
theorem aha:aP akJ:=ae af ⟨aag,trivial⟩ trivial trivial
def JM (a:Int):Y':=((xB a).1)
def Ok (a:Int):Bool:=(yJ a&&true)
theorem aqF (a:Int)(h:Ok a=true):PS Pz 159 [.int .u8 a] (dS.res (JM a)):=pq14 aha h
def aiT:GT:=g1 (dI .u8) (fun a=>b7 (Ok a) (dS.res (JM a)))
theorem ap0:Sound Pz 159 aiT:=aH fun a=>aA (aqF a)
def K99:KT:=[(99,12,[(0,[0,1]),(1,[4])])]
def B99:ar:=bO Pz K99 [(159,aiT)] [] []
theorem akU:aP B99:=ae af ⟨ap0,trivial⟩ trivial trivial
def Mf (a:Int)(b:Int):Bool:=(bif !JM a==(ByteArray.mk #[]).data.toList then(decide (b≤1))else(false))
def TX (a:Int)(b:Int):Bool:=(Ok a&&true)
theorem P99 (a:Int)(b:Int)(h:TX a b=true):PS Pz 99 [.int .u8 a,.int .u8 b] (dB.res (Mf a b)):=pq14 akU h
def G99:GT:=g2 (dI .u8) (dI .u8) (fun a b=>b7 (TX a b) (dB.res (Mf a b)))
theorem s99:Sound Pz 99 G99:=aO fun a b=>aA (P99 a b)
def alP:KT:=[(208,2,[(0,[0]),(1,[0])])]
def ann:ar:=bO Pz alP [] [] []
theorem afs:aP ann:=ae af trivial trivial trivial
def ac6  : List Int:=(li [0,100,320,330,500,900,0])
def aep  : Bool:=true
theorem an3  (h:aep =true):PS Pz 208 [] ((aeA .i64 7).res (ac6 )):=pq14 afs h
def af1:GT:=g0  (.ret ((aeA .i64 7).res (ac6 )))
theorem aoz:Sound Pz 208 af1:=tV (bH (an3 rfl))
def aqK:KT:=[(160,8,[(0,[0]),(1,[0,4]),(2,[2]),(3,[2])])]
def aqy:ar:=bO Pz aqK [(208,af1)] [] []
theorem ad8:aP aqy:=ae af ⟨aoz,trivial⟩ trivial trivial
def oX (a:Int):Int:=(bif decide (a>6)then(0)else((li [0,100,320,330,500,900,0]).getD a.toNat 0))
def ue (a:Int):Bool:=(bif decide (a>6)then true else(decide (0≤a)&&decide (a<Int.ofNat 7)&&true))
theorem atg (a:Int)(h:ue a=true):PS Pz 160 [.int .u8 a] ((dI .i64).res (oX a)):=pq14 ad8 h
def D0:GT:=g1 (dI .u8) (fun a=>b7 (ue a) ((dI .i64).res (oX a)))
theorem IS:Sound Pz 160 D0:=aH fun a=>aA (atg a)
def amL:KT:=[(209,8,[(0,[0]),(1,[2])])]
def aue:ar:=bO Pz amL [] [] []
theorem aeg:aP aue:=ae af trivial trivial trivial
def Jp (a:Int):Int:=(if 0>if wr .i64 (a-4)>wr .i64 (3-a)then wr .i64 (a-4)else wr .i64 (3-a)then 0 else if wr .i64 (a-4)>wr .i64 (3-a)then wr .i64 (a-4)else wr .i64 (3-a))
def ahy (a:Int):Bool:=true
theorem als (a:Int)(h:ahy a=true):PS Pz 209 [.int .i64 a] ((dI .i64).res (Jp a)):=pq14 aeg h
def ahh:GT:=g1 (dI .i64) (fun a=>.ret ((dI .i64).res (Jp a)))
theorem amB:Sound Pz 209 ahh:=aH fun a=>bH (als a rfl)
def aqM:KT:=[(161,16,[(0,[0]),(1,[0,8]),(2,[2]),(3,[2])])]
def ar3:ar:=bO Pz aqM [(209,ahh)] [] []
theorem aeM:aP ar3:=ae af ⟨amB,trivial⟩ trivial trivial
def zr (a:Int):Int:=(bif decide (a<0)then(-1)else(bif decide (a≥64)then(-1)else(if Jp (wr .i64 (a.tdiv 8))>Jp (a.tmod 8)then Jp (wr .i64 (a.tdiv 8))else Jp (a.tmod 8))))
def ah2 (a:Int):Bool:=true
theorem aon (a:Int)(h:ah2 a=true):PS Pz 161 [.int .i64 a] ((dI .i64).res (zr a)):=pq14 aeM h
def JT:GT:=g1 (dI .i64) (fun a=>.ret ((dI .i64).res (zr a)))
theorem LF:Sound Pz 161 JT:=aH fun a=>bH (aon a rfl)
def arh:KT:=[]
def aek:ar:=bO Pz arh [] [] []
theorem agk:aP aek:=ae af trivial trivial trivial
def Ym:AV:=AV.vlist true [AV.agg [AV.bj .u8 2,AV.func 210 [] []],AV.agg [AV.bj .u8 8,AV.func 211 [] []],AV.agg [AV.bj .u8 6,AV.func 214 [] []],AV.agg [AV.bj .u8 5,AV.func 216 [] []],AV.agg [AV.bj .u8 4,AV.func 217 [] []]]
def afV:Bool:=true
theorem amD:cO aek 14 162 []=Tr.ret Ym:=by kernel_rfl
theorem at0 (_:afV=true):PS Pz 162 [] Ym:=nq agk (by rw[amD];rfl)
def Mc:GT:=g0 (.ret Ym)
theorem Ud:Sound Pz 162 Mc:=tV (bH (at0 rfl))
def ajP:KT:=[(210,26,[(0,[1,2]),(1,[1,2,5]),(2,[5,11,12]),(3,[5,11,12,13]),(4,[5,6,7,11,12]),(5,[5,11,12]),(6,[5,11,12]),(7,[4])])]
def aad:ar:=bO Pz ajP [(160,D0)] [] []
theorem TN:aP aad:=ae af ⟨IS,trivial⟩ trivial trivial
def Qy (p1:Z')(p2:Pos)(x:(Int×Int)):St:=St.mk (an 5 (.int .i64 x.1::(an 5 (.agg [.ints .u8 6 p1]::.int .i64 x.2::(an 13 []))))) (Hp.mk [(pc p2 [])] [] [] 0 0 0)
def ON (p1:Z')(p2:Pos):(Int×Int×Bool)→Out:=fun y=>.exit 0 (St.mk (an 5 (.int .i64 y.1::(an 5 (.agg [.ints .u8 6 p1]::.int .i64 y.2.1::.bool y.2.2::(an 12 []))))) (Hp.mk [(pc p2 [])] [] [] 0 0 0))
def Aq (p1:Z')(p2:Pos)(x:(Int×Int)):aG (Int×Int) ((Int×Int×Bool)):=(bif decide (x.2<6)then(aG.go (wr .i64 (x.1+wr .i64 (oX (wr .u8 x.2)*wr .i64 (p1.getD x.2.toNat 0))),wr .i64 (x.2+1)))else(aG.out ((x.1,x.2,decide (x.2<6)))))
def va (p1:Z')(p2:Pos)(x:(Int×Int)):Bool:=(bif decide (x.2<6)then(decide (0≤x.2)&&decide (x.2<Int.ofNat 6)&&(ue (wr .u8 x.2)&&true))else true)
def nL (p1:Z')(p2:Pos)(x:(Int×Int)):Option ((Int×Int×Bool)):=cW (fun x=>bif va p1 p2 x then Aq p1 p2 x else .bad) many x
abbrev Qn {α:Type}(k:Z'→Pos→(Int×Int)→α)(s:St):α:=wP s 0 fun q0=>k (tN (tX (tA (tT s 11)) 0)) q0 ((tI (tT s 5)),(tI (tT s 12)))
theorem Yd (p1:Z')(p2:Pos)(x:(Int×Int))(r:(Int×Int×Bool))(h:nL p1 p2 x=some r):aC Pz (bc Pz 210 3) (Qy p1 p2 x) (ON p1 p2 r):=smq (m:=12) (fn:=210) TN (Qn fun _ _ x=>some x) (fun o=>match o with | .exit 0 s=>some ((tI (tT s 5)),(tI (tT s 12)),(tB (tT s 13)))|_=>none) many x r h
def QK (b:Code)(s:St):Tr Out:=Qn (fun p1 p2 x=>jU b (bc Pz 210 3) s (Qy p1 p2 x) (nL p1 p2 x) (ON p1 p2)) s
theorem SI:∀b,aT Pz b (QK b):=fun _ _ _ h=>bF (Yd _ _ _) h
def anH:ar:=bO Pz ajP [(160,D0)] [(210,3,QK)] []
theorem afP:aP anH:=ae af ⟨IS,trivial⟩ ⟨SI,trivial⟩ trivial
def Bn (a:Pos)(b:Int):Int:=(((nL (List.take 6 (List.drop (scale 6 b).toNat a.ah)) a (0,0)).getD default).1)
def G9 (a:Pos)(b:Int):Bool:=(decide (0≤b)&&decide (b<Int.ofNat 2)&&((nL (List.take 6 (List.drop (scale 6 b).toNat a.ah)) a (0,0)).isSome&&true))
theorem atK (a:Pos)(b:Int)(h:G9 a b=true):PS Pz 210 [Pos.av a,.int .u8 b] ((dI .i64).res (Bn a b)):=pq14 afP h
def K7:GT:=g2 aZ (dI .u8) (fun a b=>b7 (G9 a b) ((dI .i64).res (Bn a b)))
theorem Rw:Sound Pz 210 K7:=aO fun a b=>aA (atK a b)
def aow:KT:=[(213,6,[(0,[0]),(1,[2])])]
def amT:ar:=bO Pz aow [] [] []
theorem ag0:aP amT:=ae af trivial trivial trivial
def Kc (a:Int):Int:=(wr .i64 (60*wr .i64 (a.tdiv 8)))
def afy (a:Int):Bool:=true
theorem arO (a:Int)(h:afy a=true):PS Pz 213 [.int .i64 a] ((dI .i64).res (Kc a)):=pq14 ag0 h
def ae4:GT:=g1 (dI .i64) (fun a=>.ret ((dI .i64).res (Kc a)))
theorem akD:Sound Pz 213 ae4:=aH fun a=>bH (arO a rfl)
def aqN:KT:=[(211,8,[(0,[1,2]),(1,[4])]),(212,16,[(0,[1,2,3]),(1,[2,7]),(2,[2,7,12]),(3,[6]),(4,[6])])]
def asf:ar:=bO Pz aqN [(145,j8),(213,ae4)] [] []
theorem aih:aP asf:=ae af ⟨kM,akD,trivial⟩ trivial trivial
def xi (a:Pos)(b:Int):Int:=(bif decide (bg a b 6<0)then(0)else(Kc (bg a b 6)))
def F3 (a:Pos)(b:Int):Bool:=(iz a b 6&&true)
theorem api (a:Pos)(b:Int)(h:F3 a b=true):PS Pz 211 [Pos.av a,.int .u8 b] ((dI .i64).res (xi a b)):=pq14 aih h
def NI:GT:=g2 aZ (dI .u8) (fun a b=>b7 (F3 a b) ((dI .i64).res (xi a b)))
theorem Uw:Sound Pz 211 NI:=aO fun a b=>aA (api a b)
def as7:KT:=[(215,6,[(0,[0]),(1,[2])])]
def akN:ar:=bO Pz as7 [(161,JT)] [] []
theorem ajY:aP akN:=ae af ⟨LF,trivial⟩ trivial trivial
def J9 (a:Int):Int:=(wr .i64 (-30*zr a))
def ac8 (a:Int):Bool:=true
theorem amQ (a:Int)(h:ac8 a=true):PS Pz 215 [.int .i64 a] ((dI .i64).res (J9 a)):=pq14 ajY h
def af7:GT:=g1 (dI .i64) (fun a=>.ret ((dI .i64).res (J9 a)))
theorem alT:Sound Pz 215 af7:=aH fun a=>bH (amQ a rfl)
def asY:KT:=[(212,16,[(0,[1,2,3]),(1,[2,7]),(2,[2,7,12]),(3,[6]),(4,[6])]),(214,8,[(0,[1,2]),(1,[4])])]
def alY:ar:=bO Pz asY [(145,j8),(215,af7)] [] []
theorem adP:aP alY:=ae af ⟨kM,alT,trivial⟩ trivial trivial
def xA (a:Pos)(b:Int):Int:=(bif decide (bg a b 6<0)then(0)else(J9 (bg a b 6)))
def Hq (a:Pos)(b:Int):Bool:=(iz a b 6&&true)
theorem ali (a:Pos)(b:Int)(h:Hq a b=true):PS Pz 214 [Pos.av a,.int .u8 b] ((dI .i64).res (xA a b)):=pq14 adP h
def NC:GT:=g2 aZ (dI .u8) (fun a b=>b7 (Hq a b) ((dI .i64).res (xA a b)))
theorem Tl:Sound Pz 214 NC:=aO fun a b=>aA (ali a b)
def amd:KT:=[(216,11,[(0,[1,2]),(1,[4])])]
def am0:ar:=bO Pz amd [] [] []
theorem aev:aP am0:=ae af trivial trivial trivial
def Aa (a:Pos)(b:Int):Int:=(wr .i64 (150*wr .i64 (a.au.getD (scale 1 b).toNat 0)))
def Gn (a:Pos)(b:Int):Bool:=(decide (0≤b)&&decide (b<Int.ofNat 2)&&true)
theorem aq4 (a:Pos)(b:Int)(h:Gn a b=true):PS Pz 216 [Pos.av a,.int .u8 b] ((dI .i64).res (Aa a b)):=pq14 aev h
def Nj:GT:=g2 aZ (dI .u8) (fun a b=>b7 (Gn a b) ((dI .i64).res (Aa a b)))
theorem Ui:Sound Pz 216 Nj:=aO fun a b=>aA (aq4 a b)
def ap4:KT:=[(251,5,[(0,[0]),(1,[2])])]
def arc:ar:=bO Pz ap4 [(259,acd)] [] []
theorem ajX:aP arc:=ae af ⟨ade,trivial⟩ trivial trivial
def RU (a:BitVec 64):Int:=(ko a)
def aiy (a:BitVec 64):Bool:=true
theorem arB (a:BitVec 64)(h:aiy a=true):PS Pz 251 [.u64 a] ((dI .i64).res (RU a)):=pq14 ajX h
def afw:GT:=g1 dU (fun a=>.ret ((dI .i64).res (RU a)))
theorem ao1:Sound Pz 251 afw:=aH fun a=>bH (arB a rfl)
def arZ:KT:=[(218,12,[(0,[1,2,3]),(1,[6])])]
def asz:ar:=bO Pz arZ [(147,gh),(251,afw)] [] []
theorem adu:aP asz:=ae af ⟨gm,ao1,trivial⟩ trivial trivial
def Fx (a:Pos)(b:Int)(c:Int):Int:=(RU (aS a b c))
def PA (a:Pos)(b:Int)(c:Int):Bool:=(cE a b c&&true)
theorem aoM (a:Pos)(b:Int)(c:Int)(h:PA a b c=true):PS Pz 218 [Pos.av a,.int .u8 b,.int .u8 c] ((dI .i64).res (Fx a b c)):=pq14 adu h
def aiJ:GT:=g3 aZ (dI .u8) (dI .u8) (fun a b c=>b7 (PA a b c) ((dI .i64).res (Fx a b c)))
theorem anh:Sound Pz 218 aiJ:=db fun a b c=>aA (aoM a b c)
def auj:KT:=[(217,9,[(0,[1,2]),(1,[4])])]
def atr:ar:=bO Pz auj [(218,aiJ)] [] []
theorem ah5:aP atr:=ae af ⟨anh,trivial⟩ trivial trivial
def zp (a:Pos)(b:Int):Int:=(wr .i64 (200*Fx a b 6))
def Ho (a:Pos)(b:Int):Bool:=(PA a b 6&&true)
theorem atB (a:Pos)(b:Int)(h:Ho a b=true):PS Pz 217 [Pos.av a,.int .u8 b] ((dI .i64).res (zp a b)):=pq14 ah5 h
def OK:GT:=g2 aZ (dI .u8) (fun a b=>b7 (Ho a b) ((dI .i64).res (zp a b)))
theorem R9:Sound Pz 217 OK:=aO fun a b=>aA (atB a b)
def Fj:KT:=[(100,77,[(0,[1,2]),(1,[1,2,15]),(2,[4]),(3,[1,2,5]),(4,[1,2,5,6]),(5,[1,2,5,6,17]),(6,[1,2,5,6]),(7,[1,2,5,6,24,25,26]),(8,(1::2::5::6::(rn 24 4 []))),(9,[1,2,5,6,8,24,25,26]),(10,[1,2,5,6,8,24,25,26]),(11,[1,2,5,6,8,24,25,26,39]),(12,[1,2,5,6,24,25,26]),(13,[1,2,5,6,24,25,26]),(14,[1,2,5,57,58,59]),(15,(1::2::5::(rn 57 4 []))),(16,[1,2,5,10,57,58,59]),(17,[1,2,5,10,57,58,59,67]),(18,[1,2,5,57,58,59]),(19,[1,2,5,57,58,59]),(20,[4])])]
def ZB:ar:=bO Pz Fj [(99,G99),(142,iY),(147,gh),(160,D0),(161,JT),(162,Mc),(210,K7),(211,NI),(214,NC),(216,Nj),(217,OK)] [] []
theorem R8:aP ZB:=ae af ⟨s99,ju,gm,IS,LF,Ud,Rw,Uw,Tl,Ui,R9,trivial⟩ trivial trivial
def Me (p1:Int)(p2:Int)(p3:Z')(p4:Int)(p5:Pos)(x:(Int×Int)):St:=St.mk (.any::.int .u8 p1::.ptr 0 0::.any::.any::.int .i64 x.1::.int .u8 p2::(an 17 (.list (ET.i .i64) p3 .fresh::.int .i64 p4::.int .i64 x.2::(an 50 [])))) (Hp.mk [(pc p5 [])] [] [] 0 0 0)
def Oz (p1:Int)(p2:Int)(p3:Z')(p4:Int)(p5:Pos):(Int×Int×Bool)→Out:=fun y=>.exit 2 (St.mk (.any::.int .u8 p1::.ptr 0 0::.any::.any::.int .i64 y.1::.int .u8 p2::(an 17 (.list (ET.i .i64) p3 .fresh::.int .i64 p4::.int .i64 y.2.1::.bool y.2.2::(an 49 [])))) (Hp.mk [(pc p5 [])] [] [] 0 0 0))
def zA (p1:Int)(p2:Int)(p3:Z')(p4:Int)(p5:Pos)(x:(Int×Int)):aG (Int×Int) ((Int×Int×Bool)):=(bif decide (x.2<p4)then(bif p2==1 then(aG.go (wr .i64 (wr .i64 (x.1+wr .i64 (oX p2-wr .i64 (4*zr (p3.getD x.2.toNat default))))+wr .i64 (6*if wr .i64 (wr .i64 (7*wr .i64 p1)-wr .i64 (Int.tdiv (p3.getD x.2.toNat default) 8))>wr .i64 (wr .i64 (Int.tdiv (p3.getD x.2.toNat default) 8)-wr .i64 (7*wr .i64 p1))then wr .i64 (wr .i64 (7*wr .i64 p1)-wr .i64 (Int.tdiv (p3.getD x.2.toNat default) 8))else wr .i64 (wr .i64 (Int.tdiv (p3.getD x.2.toNat default) 8)-wr .i64 (7*wr .i64 p1)))),wr .i64 (x.2+1)))else(aG.go (wr .i64 (x.1+wr .i64 (oX p2-wr .i64 (4*zr (p3.getD x.2.toNat default)))),wr .i64 (x.2+1))))else(aG.out ((x.1,x.2,decide (x.2<p4)))))
def ur (p1:Int)(p2:Int)(p3:Z')(p4:Int)(p5:Pos)(x:(Int×Int)):Bool:=(bif decide (x.2<p4)then(decide (0≤x.2)&&decide (x.2<Int.ofNat p3.length)&&(ue p2&&true))else true)
def ni (p1:Int)(p2:Int)(p3:Z')(p4:Int)(p5:Pos)(x:(Int×Int)):Option ((Int×Int×Bool)):=cW (fun x=>bif ur p1 p2 p3 p4 p5 x then zA p1 p2 p3 p4 p5 x else .bad) many x
abbrev OB {α:Type}(k:Int→Int→Z'→Int→Pos→(Int×Int)→α)(s:St):α:=wP s 0 fun q0=>k (tI (tT s 1)) (tI (tT s 6)) (tL (ET.i .i64) (tT s 24)) (tI (tT s 25)) q0 ((tI (tT s 5)),(tI (tT s 26)))
theorem abH (p1:Int)(p2:Int)(p3:Z')(p4:Int)(p5:Pos)(x:(Int×Int))(r:(Int×Int×Bool))(h:ni p1 p2 p3 p4 p5 x=some r):aC Pz (bc Pz 100 8) (Me p1 p2 p3 p4 p5 x) (Oz p1 p2 p3 p4 p5 r):=smq (m:=12) (fn:=100) R8 (OB fun _ _ _ _ _ x=>some x) (fun o=>match o with | .exit 2 s=>some ((tI (tT s 5)),(tI (tT s 26)),(tB (tT s 27)))|_=>none) many x r h
def AB (b:Code)(s:St):Tr Out:=OB (fun p1 p2 p3 p4 p5 x=>jU b (bc Pz 100 8) s (Me p1 p2 p3 p4 p5 x) (ni p1 p2 p3 p4 p5 x) (Oz p1 p2 p3 p4 p5)) s
theorem Av:∀b,aT Pz b (AB b):=fun _ _ _ h=>bF (abH _ _ _ _ _ _) h
def Zr:ar:=bO Pz Fj [(99,G99),(142,iY),(147,gh),(160,D0),(161,JT),(162,Mc),(210,K7),(211,NI),(214,NC),(216,Nj),(217,OK)] [(100,8,AB)] []
theorem UB:aP Zr:=ae af ⟨s99,ju,gm,IS,LF,Ud,Rw,Uw,Tl,Ui,R9,trivial⟩ ⟨Av,trivial⟩ trivial
def PL (p1:Int)(p2:Pos)(x:(Int×Int)):St:=St.mk (.any::.int .u8 p1::.ptr 0 0::.any::.any::.int .i64 x.1::.int .u8 x.2::(an 70 [])) (Hp.mk [(pc p2 [])] [] [] 0 0 0)
def K1 (p1:Int)(p2:Pos):(Int×Int×Bool)→Out:=fun y=>.exit 0 (St.mk (.any::.int .u8 p1::.ptr 0 0::.any::.any::.int .i64 y.1::.int .u8 y.2.1::(an 10 (.bool y.2.2::(an 59 [])))) (Hp.mk [(pc p2 [])] [] [] 0 0 0))
def AH (p1:Int)(p2:Pos)(x:(Int×Int)):aG (Int×Int) ((Int×Int×Bool)):=(bif decide (x.2≤6)then(aG.go (((ni p1 x.2 (gp (aS p2 p1 x.2)) (Int.ofNat (gp (aS p2 p1 x.2)).length) p2 (x.1,0)).getD default).1,wr .u8 (x.2+1)))else(aG.out ((x.1,x.2,decide (x.2≤6)))))
def uj (p1:Int)(p2:Pos)(x:(Int×Int)):Bool:=(bif decide (x.2≤6)then(cE p2 p1 (x.2)&&(oV (aS p2 p1 x.2)&&((ni p1 x.2 (gp (aS p2 p1 x.2)) (Int.ofNat (gp (aS p2 p1 x.2)).length) p2 (x.1,0)).isSome&&true)))else true)
def kY (p1:Int)(p2:Pos)(x:(Int×Int)):Option ((Int×Int×Bool)):=cW (fun x=>bif uj p1 p2 x then AH p1 p2 x else .bad) many x
abbrev NR {α:Type}(k:Int→Pos→(Int×Int)→α)(s:St):α:=wP s 0 fun q0=>k (tI (tT s 1)) q0 ((tI (tT s 5)),(tI (tT s 6)))
theorem abn (p1:Int)(p2:Pos)(x:(Int×Int))(r:(Int×Int×Bool))(h:kY p1 p2 x=some r):aC Pz (bc Pz 100 5) (PL p1 p2 x) (K1 p1 p2 r):=smq (m:=12) (fn:=100) UB (NR fun _ _ x=>some x) (fun o=>match o with | .exit 0 s=>some ((tI (tT s 5)),(tI (tT s 6)),(tB (tT s 17)))|_=>none) many x r h
def EP (b:Code)(s:St):Tr Out:=NR (fun p1 p2 x=>jU b (bc Pz 100 5) s (PL p1 p2 x) (kY p1 p2 x) (K1 p1 p2)) s
theorem GM:∀b,aT Pz b (EP b):=fun _ _ _ h=>bF (abn _ _ _) h
def XV:ar:=bO Pz Fj [(99,G99),(142,iY),(147,gh),(160,D0),(161,JT),(162,Mc),(210,K7),(211,NI),(214,NC),(216,Nj),(217,OK)] [(100,8,AB),(100,5,EP)] []
theorem RR:aP XV:=ae af ⟨s99,ju,gm,IS,LF,Ud,Rw,Uw,Tl,Ui,R9,trivial⟩ ⟨Av,GM,trivial⟩ trivial
def Mu (p1:Int)(p2:Pos)(x:(Int×Int)):St:=St.mk (.any::.int .u8 p1::.ptr 0 0::.any::.any::.int .i64 x.1::(an 51 (.vlist true [.agg [.bj .u8 2,.func 210 [] []],.agg [.bj .u8 8,.func 211 [] []],.agg [.bj .u8 6,.func 214 [] []],.agg [.bj .u8 5,.func 216 [] []],.agg [.bj .u8 4,.func 217 [] []]]::.bj .i64 (Int.ofNat 5)::.int .i64 x.2::(an 17 [])))) (Hp.mk [(pc p2 [])] [] [] 0 0 0)
def Qc (p1:Int)(p2:Pos):(Int×Int×Bool)→Out:=fun y=>.exit 4 (St.mk (.any::.int .u8 p1::.ptr 0 0::.any::.any::.int .i64 y.1::(an 51 (.vlist true [.agg [.bj .u8 2,.func 210 [] []],.agg [.bj .u8 8,.func 211 [] []],.agg [.bj .u8 6,.func 214 [] []],.agg [.bj .u8 5,.func 216 [] []],.agg [.bj .u8 4,.func 217 [] []]]::.bj .i64 (Int.ofNat 5)::.int .i64 y.2.1::.bool y.2.2::(an 16 [])))) (Hp.mk [(pc p2 [])] [] [] 0 0 0))
def TW (p1:Int)(p2:Pos)(x:(Int×Int)):aG (Int×Int) ((Int×Int×Bool)):=(bif decide (x.2<Int.ofNat 5)then(bif x.2==Int.ofNat 0 then(bif 2==p2.variant then(aG.go (wr .i64 (x.1+Bn p2 p1),wr .i64 (x.2+1)))else(aG.go (x.1,wr .i64 (x.2+1))))else(bif x.2==Int.ofNat 1 then(bif 8==p2.variant then(aG.go (wr .i64 (x.1+xi p2 p1),wr .i64 (x.2+1)))else(aG.go (x.1,wr .i64 (x.2+1))))else(bif x.2==Int.ofNat 2 then(bif 6==p2.variant then(aG.go (wr .i64 (x.1+xA p2 p1),wr .i64 (x.2+1)))else(aG.go (x.1,wr .i64 (x.2+1))))else(bif x.2==Int.ofNat 3 then(bif 5==p2.variant then(aG.go (wr .i64 (x.1+Aa p2 p1),wr .i64 (x.2+1)))else(aG.go (x.1,wr .i64 (x.2+1))))else(bif 4==p2.variant then(aG.go (wr .i64 (x.1+zp p2 p1),wr .i64 (x.2+1)))else(aG.go (x.1,wr .i64 (x.2+1))))))))else(aG.out ((x.1,x.2,decide (x.2<Int.ofNat 5)))))
def Ld (p1:Int)(p2:Pos)(x:(Int×Int)):Bool:=(bif decide (x.2<Int.ofNat 5)then(decide (0≤x.2)&&decide (x.2<Int.ofNat 5)&&(bif x.2==Int.ofNat 0 then(bif 2==p2.variant then(G9 p2 p1&&true)else true)else(bif x.2==Int.ofNat 1 then(bif 8==p2.variant then(F3 p2 p1&&true)else true)else(bif x.2==Int.ofNat 2 then(bif 6==p2.variant then(Hq p2 p1&&true)else true)else(bif x.2==Int.ofNat 3 then(bif 5==p2.variant then(Gn p2 p1&&true)else true)else(x.2==Int.ofNat 4&&(bif 4==p2.variant then(Ho p2 p1&&true)else true)))))))else true)
def nj (p1:Int)(p2:Pos)(x:(Int×Int)):Option ((Int×Int×Bool)):=cW (fun x=>bif Ld p1 p2 x then TW p1 p2 x else .bad) many x
abbrev Li {α:Type}(k:Int→Pos→(Int×Int)→α)(s:St):α:=wP s 0 fun q0=>k (tI (tT s 1)) q0 ((tI (tT s 5)),(tI (tT s 59)))
theorem ZD (p1:Int)(p2:Pos)(x:(Int×Int))(r:(Int×Int×Bool))(h:nj p1 p2 x=some r):aC Pz (bc Pz 100 15) (Mu p1 p2 x) (Qc p1 p2 r):=smq (m:=12) (fn:=100) RR (Li fun _ _ x=>some x) (fun o=>match o with | .exit 4 s=>some ((tI (tT s 5)),(tI (tT s 59)),(tB (tT s 60)))|_=>none) many x r h
def O8 (b:Code)(s:St):Tr Out:=Li (fun p1 p2 x=>jU b (bc Pz 100 15) s (Mu p1 p2 x) (nj p1 p2 x) (Qc p1 p2)) s
theorem Vj:∀b,aT Pz b (O8 b):=fun _ _ _ h=>bF (ZD _ _ _) h
def aqQ:ar:=bO Pz Fj [(99,G99),(142,iY),(147,gh),(160,D0),(161,JT),(162,Mc),(210,K7),(211,NI),(214,NC),(216,Nj),(217,OK)] [(100,8,AB),(100,5,EP),(100,15,O8)] []
theorem adL:aP aqQ:=ae af ⟨s99,ju,gm,IS,LF,Ud,Rw,Uw,Tl,Ui,R9,trivial⟩ ⟨Av,GM,Vj,trivial⟩ trivial
def iw (a:Pos)(b:Int):Int:=(bif !Mf a.variant b then(0)else(((nj b a (((kY b a (0,1)).getD default).1,0)).getD default).1))
def Qa (a:Pos)(b:Int):Bool:=(TX (a.variant) b&&(bif !Mf a.variant b then true else((kY b a (0,1)).isSome&&((nj b a (((kY b a (0,1)).getD default).1,0)).isSome&&true))))
theorem agi (a:Pos)(b:Int)(h:Qa a b=true):PS Pz 100 [Pos.av a,.int .u8 b] ((dI .i64).res (iw a b)):=pq14 adL h
def agp:GT:=g2 aZ (dI .u8) (fun a b=>b7 (Qa a b) ((dI .i64).res (iw a b)))
theorem ata:Sound Pz 100 agp:=aO fun a b=>aA (agi a b)
def Xr:ar:=gq Pz (fun _ _=>[]) [(99,G99),(100,agp)] [] []
theorem apT:aP Xr:=ae af ⟨s99,ata,trivial⟩ trivial trivial
def N40 (a:Pos):Int:=(cO Xr 14 40 [Pos.av a]).vt (dI .i64).dec
def Eg (a:Pos):Bool:=((cO Xr 14 40 [Pos.av a]).qt (dI .i64).dec).val
theorem alR (a:Pos):(cO Xr 14 40 [Pos.av a]).wX.map Xv=(cO Xr 14 40 [Pos.av a]).wX.map Vl:=by kernel_rfl
theorem aqw (a:Pos):((cO Xr 14 40 [Pos.av a]).qt (dI .i64).dec).val=Eg a:=by kernel_rfl
theorem aoK (a:Pos):(cO Xr 14 40 [Pos.av a]).vt (dI .i64).dec=N40 a:=by kernel_rfl
theorem P40 (a:Pos)(h:Eg a=true):PS Pz 40 [Pos.av a] ((dI .i64).res (N40 a)) := @rD Xr apT 14 40 [Pos.av a] Int _ (dI .i64) (Eg a) (N40 a) (aqw a) (aoK a) (alR a) h
theorem t160 {a:Int}(h:0≤a):ue a=true:=by unfold ue;grind
theorem ahj (l:List Int)(p:Pos):(nL l p (0,0)).isSome=true:=by
 refine(aJ (Q:=fun _=>True) (aQ (I:=fun x=>0≤x.2∧x.2≤6) (μ:=fun x=>(6-x.2).toNat) ?_ _ ⟨by simp,by simp⟩ (by simp))).1;rintro⟨c,n⟩ ⟨h0,h1⟩;simp only at h0 h1;by_cases hc:n<6
 ·have hw:wr .i64 (n+1)=n+1:=aF (by omega) (by omega);have hw8:wr .u8 n=n:=kD (by omega) (by omega);refine⟨aq (fun _=>ak (by simp[h0];omega) fun _=>ak (by rw[hw8];exact t160 h0) fun _=>rfl) fun _=>rfl,al (fun _=>?_) (by simp_all)⟩;rw[hw];exact⟨⟨by dsimp only;omega,by dsimp only;omega⟩,by dsimp only;omega⟩
 ·exact⟨aq (fun h=>absurd h (by simpa using hc)) fun _=>rfl,al (fun h=>absurd h (by simpa using hc)) fun _=>trivial⟩
theorem t210 (p:Pos){b:Int}(h0:0≤b)(h1:b≤1):G9 p b=true :=
 ak (by grind) fun _=>ak (ahj _ _) fun _=>rfl
theorem t216 (p:Pos){b:Int}(h0:0≤b)(h1:b≤1):Gn p b=true :=
 ak (by rw[decide_eq_true h0,decide_eq_true (show b<Int.ofNat 2 by show b<2;omega)];rfl) fun _=>rfl
theorem XX (a k:Int)(l:List Int)(p:Pos)(c:Int)(hl:l.length≤64)(hk:0≤k):(ni a k l (Int.ofNat l.length) p (c,0)).isSome=true:=by
 refine(aJ (Q:=fun _=>True) (aQ (I:=fun x=>0≤x.2∧x.2≤(l.length:Int)) (μ:=fun x=>((l.length:Int)-x.2).toNat) ?_ _ ⟨by simp,by simp⟩ (by simp;omega))).1;rintro⟨c,n⟩ ⟨h0,h1⟩;simp only at h0 h1;by_cases hc:n<l.length
 ·have hw:wr .i64 (n+1)=n+1:=aF (by omega) (by omega);refine⟨aq (fun _=>ak (by simp[h0];exact hc) fun _=>ak (t160 hk) fun _=>rfl) fun _=>rfl,al (fun _=>?_) (by simp_all)⟩;refine al (fun _=>?_) fun _=>?_
  ·rw[hw];exact⟨⟨by dsimp only;omega,by dsimp only;omega⟩,by dsimp only;omega⟩
  ·rw[hw];exact⟨⟨by dsimp only;omega,by dsimp only;omega⟩,by dsimp only;omega⟩
 ·exact⟨aq (fun h=>absurd h (by simpa using hc)) fun _=>rfl,al (fun h=>absurd h (by simpa using hc)) fun _=>trivial⟩
theorem abl (a:Int)(p:Pos):(kY a p (0,1)).isSome=true:=by
 refine(aJ (Q:=fun _=>True) (aQ (I:=fun x=>1≤x.2∧x.2≤7) (μ:=fun x=>(7-x.2).toNat) ?_ _ ⟨by simp,by simp⟩ (by simp))).1;rintro⟨c,n⟩ ⟨h0,h1⟩;simp only at h0 h1;by_cases hc:n≤6
 ·have hw:wr .u8 (n+1)=n+1:=kD (by omega) (by omega);refine⟨aq (fun _=>ak (t147 _ _ _) fun _=>ak (t142 _) fun _=>ak (XX _ _ _ _ _ (by rw[dw];exact dC _ _) (by omega)) fun _=>rfl) fun _=>rfl,al (fun _=>?_) (by simp_all)⟩;rw[hw];exact⟨⟨by dsimp only;omega,by dsimp only;omega⟩,by dsimp only;omega⟩
 ·exact⟨aq (fun h=>absurd h (by simpa using hc)) fun _=>rfl,al (fun h=>absurd h (by simpa using hc)) fun _=>trivial⟩
theorem KC {a:Int}(h0:0≤a)(h1:a≤1)(p:Pos)(c:Int):(nj a p (c,0)).isSome=true:=by
 refine(aJ (Q:=fun _=>True) (aQ (I:=fun x=>0≤x.2∧x.2≤5) (μ:=fun x=>(5-x.2).toNat) ?_ _ ⟨by simp,by simp⟩ (by simp))).1;rintro⟨c,n⟩ ⟨g0,g1⟩;simp only at g0 g1;by_cases hc:n<5
 ·have hw:wr .i64 (n+1)=n+1:=aF (by omega) (by omega);have key:∀v:Int,xd (fun x:Int×Int=>0≤x.2∧x.2≤5) (fun _:Int×Int×Bool=>True) (fun x:Int×Int=>(5-x.2).toNat) ((5-n).toNat) (aG.go (v,wr .i64 (n+1))):=fun v=>by rw[hw];exact⟨⟨by dsimp only;omega,by dsimp only;omega⟩,by dsimp only;omega⟩
  have h5:decide (n<Int.ofNat 5)=true:=by simp_all
  have hb:(decide (0≤n)&&decide (n<Int.ofNat 5))=true:=by rw[h5,decide_eq_true g0];rfl
  have h126:F3 p a=true:=ak (t145 _ _ _) fun _=>rfl;have h129:Hq p a=true:=ak (t145 _ _ _) fun _=>rfl;have h132:Ho p a=true:=ak (ak (t147 _ _ _) fun _=>rfl) fun _=>rfl;refine⟨aq (fun _=>ak hb fun _=>aq (fun _=>aq (fun _=>ak (t210 p h0 h1) fun _=>rfl) fun _=>rfl) fun e0=>aq (by simp_all) fun e1=>aq (by simp_all) fun e2=>aq (fun _=>aq (fun _=>ak (t216 p h0 h1) fun _=>rfl) fun _=>rfl) fun e3=>ak ?_ (by simp_all)) fun _=>rfl,al (fun _=>?_) (by simp_all)⟩
  ·grind
  grind
 ·have h5:decide (n<Int.ofNat 5)=false:=by simp_all
  exact⟨aq (fun h=>absurd h (by rw[h5];simp)) fun _=>rfl,al (fun h=>absurd h (by rw[h5];simp)) fun _=>trivial⟩
theorem t99 {a:Int}(b:Int)(h:0≤a):TX a b=true:=ak (ak (t178 h) fun _=>rfl) fun _=>rfl
theorem t100 {p:Pos}(hp:ax p){b:Int}(h0:0≤b)(h1:b≤1):Qa p b=true :=
 ak (t99 b hp.v0) fun _=>aq (fun _=>rfl) fun _=>ak (abl b p) fun _=>ak (KC h0 h1 p _) fun _=>rfl
end Kz
namespace Go.Proofs
open Go.Shelf Go.RowKit Go.Lib Go.Sort Kz
theorem ew {W:World}{b sz:Nat}{ty:TypeId}{cs:Array Value}(h:W.heap[b]?=some (.cells cs ty (0,0)))(hs:cs.toList.length=sz):Sem.run Tryz.prog (loadCellsFrom { block:=b,off:=0,spot:=none } 0 sz #[]) W=.ok cs W:=by
 have h:=run_loadCellsFrom_list Tryz.prog W ⟨b,0,none⟩ cs.toList sz hs (fun c v hc=>by
  rw[Addr.add_lit,aw h,Nat.zero_add]
  simpa using hc)
 simpa using h
theorem vD {g:Gh}{tk:List Nat}{w:World}{p:Pos}{cs:List Value}(h:ay g tk w (bf (Pos.av p)) cs):cs[0]?=some (.int .u8 p.variant)∧cs[78]?=some (.int .u8 p.aa):=by change ay g tk w [.int .u8 p.variant,.ints .u8 64 p.ab,.u64 p.ai,.ints .u8 12 p.ah,.int .u8 p.aa,.ints .i8 4 p.ao,.int .i8 p.az,.ints .u8 2 p.au,.int .i64 p.half,.int .i64 p.full] cs at h;obtain⟨x1,r1,e1,q1,h1⟩:=h.inv_one rfl;obtain⟨l2,r2,e2,h2⟩:=h1.bI;obtain⟨x3,r3,e3,q3,h3⟩:=h2.inv_one rfl;obtain⟨l4,r4,e4,h4⟩:=h3.bI;obtain⟨x5,r5,e5,q5,h5⟩:=h4.inv_one rfl;cases q1;cases q5;grind
def xY (p:Pos):Int:=wrap64 (iw p p.aa-iw p (wr .u8 (1-p.aa)))
def sZ (p:Pos):Int:=bif Mf p.variant p.aa then min (max (bif p.variant==4 then wrap64 (-xY p)else xY p) (-20000)) 20000 else 0
theorem OU (p:Pos) : -20000≤sZ p∧sZ p≤20000:=by unfold sZ;grind
theorem P7 {p:Pos}(h31:Mf p.variant p.aa=true):p.aa≤1:=by revert h31;unfold Mf;simp_all
set_option maxHeartbeats 4000000 in
set_option maxRecDepth 100000 in
theorem Z8 (p:Pos)(hp:ax p)(k:Nat)(zE:∀w,(Go.sizeOf 31).run Tryz.prog w=.ok k w)(hk:k=88):aX Tryz.prog 40 [Pos.av p] (.int .i64 (sZ p)):=by
 intro w bp hg hr;obtain⟨bp⟩:=bp;cases hr with
 |cons q1 r1 =>
 cases r1;obtain⟨pcs,rfl,hpc⟩:=aN.cM (l:=bf (Pos.av p)) q1;clear q1;refine callsIn_wide.2 ?_;have mixed:Tryz.prog.follows .mixedOrders=true:=by kernel_rfl
 have aE:∀w,(isAgg 31).run Tryz.prog w=.ok true w:=Tryz.isAgg31;have hlen:pcs.toList.length=k:=(jD hpc).trans hk.symm;obtain⟨w1,hw1⟩:∃w1,w1=w.alloc (Obj.cells pcs 31):=⟨_,rfl⟩;have hs1:w1.heap.size=w.heap.size+1:=by rw[hw1];simp
 have hp1:w1.heap[w.heap.size]?=some (.cells pcs 31 (0,0)):=by rw[hw1];exact heap_alloc_new w _
 have hb1:RowKit.Below w.heap.size w w1:=by rw[hw1];exact(Below.refl _ w).alloc (Nat.le_refl _) _
 have hK1:Kept w w1 w1:=⟨hb1,Nat.le_refl _,rfl⟩;have ld:∀W,Kept w w1 W→Sem.run Tryz.prog (loadCellsFrom { block:=w.heap.size,off:=0,spot:=none } 0 k #[]) W=.ok pcs W:=fun W hW=>ew (hW.p.trans hp1) hlen;have tu:∀W:World,Kept w w1 W→W.cell? ⟨w.heap.size,0,none⟩=some (.int .u8 p.variant)∧W.cell? ⟨w.heap.size,78,none⟩=some (.int .u8 p.aa):=fun W hW=>by have h:=vD hpc;rw[aw (hW.p.trans hp1),aw (hW.p.trans hp1)];simpa using h
 have g0:∀W,Kept w w1 W→cN W:=fun W hW=>gK hg hW.b.size hW.b.block;have nx:∀W w',Kept w w1 W→RowKit.Below W.heap.size W w'→Kept w w1 w':=fun W w' hW hb=>by have:=hW.s;exact⟨hW.b.trans (hb.mono hW.b.size),Nat.le_trans hW.s hb.size,(hb.block _ (by omega)).trans hW.p⟩
 have k31:∀W,Kept w w1 W→Calls Tryz.prog 99 #[.int .u8 p.variant,.int .u8 p.aa] W fun e w'=>e=.returned (.bool (Mf p.variant p.aa))∧Hid (Kept w w1 w'):=fun W hW=>by have h:=(P99 p.variant p.aa (t99 _ hp.v0)).1;unfold aX at h;refine Calls.mono (callsIn_wide.1 (h W #[.int .u8 p.variant,.int .u8 p.aa] (g0 W hW) (.cons (.int _ _) (.cons (.int _ _) .nil)))) ?_;rintro e w' ⟨x,rfl,hb,hx⟩;cases hx;exact⟨rfl,nx W w' hW hb⟩
 have k32:∀W b,0≤b→b≤1→Kept w w1 W→Calls Tryz.prog 100 #[.agg pcs,.int .u8 b] W fun e w'=>e=.returned (.int .i64 (iw p b))∧Kept w w1 w':=fun W b b0 b1 hW=>by have h:=(agi p b (t100 hp b0 b1)).1;unfold aX at h;refine Calls.mono (callsIn_wide.1 (h W #[.agg pcs,.int .u8 b] (g0 W hW) (.cons (.agg (b8 hpc)) (.cons (.int _ _) .nil)))) ?_;rintro e w' ⟨x,rfl,hb,hx⟩;cases hx;grind
 have c31:=k31 w1 hK1;rw[hw1]at c31;have t1:=tu w1 hK1;rw[hw1]at t1;obtain⟨tv1,tt1⟩:=t1;have LD:Aside _:=ld;have TU:Aside _:=tu;have Fj:Aside _:=k32;have HW1:=Lib.hid hw1;have ht0:=hp.t0;clear ld tu k31 k32 hK1 hs1 hp1 hb1 hg g0 nx hlen hk hw1;go_enter Tryz.func40,Tryz.ntmps40;go_wp2_with fail;refine c31.mono ?_;rintro e w2 ⟨rfl,hK2⟩;clear c31 tv1 tt1;rw[←HW1.out]at hK2;cases h31:Mf p.variant p.aa with
 |false =>go_wp2_with fail;go_ret;refine⟨_,rfl,hK2.out.b,?_⟩;unfold sZ;rw[h31,cond_false];exact .int _ _
 |true =>
  have ht1:=P7 h31;obtain⟨tb,htb⟩:∃tb,tb=wr .u8 (1-p.aa):=⟨_,rfl⟩;have hwb:wr .u8 (1-p.aa)=1-p.aa:=kD (by omega) (by omega);have tb0:0≤tb∧tb≤1:=by omega
  have hw8:IntKind.u8.wrap (1-p.aa)=tb:=htb.symm;have hw8':wr .u8 (1-p.aa)=tb:=htb.symm;clear hwb htb;have l2:∀q:sS (fun (_:Array Unit) W=>Kept w w1 W) #[],Sem.run Tryz.prog (loadCellsFrom { block:=w.heap.size,off:=0,spot:=none } 0 k #[]) q.W=.ok pcs q.W:=fun q=>LD.out q.W q.h;have t2:∀q:sS (fun (_:Array Unit) W=>Kept w w1 W) #[],q.W.cell? ⟨w.heap.size,78,none⟩=some (.int .u8 p.aa):=fun q=>(TU.out q.W q.h).2;have cA:∀q:sS (fun (_:Array Unit) W=>Kept w w1 W) #[],Calls Tryz.prog 100 #[.agg pcs,.int .u8 p.aa] q.W fun e w'=>e=.returned (.int .i64 (iw p p.aa))∧∃q':sS (fun (_:Array Unit) W=>Kept w w1 W) #[],w'=q'.W:=fun q=>(Fj.out q.W p.aa ht0 ht1 q.h).mono fun e w' ⟨a,b⟩=>⟨a,⟨w',b⟩,rfl⟩;have cB:∀q:sS (fun (_:Array Unit) W=>Kept w w1 W) #[],Calls Tryz.prog 100 #[.agg pcs,.int .u8 tb] q.W fun e w'=>e=.returned (.int .i64 (iw p tb))∧∃q':sS (fun (_:Array Unit) W=>Kept w w1 W) #[],w'=q'.W:=fun q=>(Fj.out q.W tb tb0.1 tb0.2 q.h).mono fun e w' ⟨a,b⟩=>⟨a,⟨w',b⟩,rfl⟩;go_wp2_with fail;refine c9 (RW:=fun (_:Array Unit) W=>Kept w w1 W) (d := #[]) mixed (by kernel_rfl) hK2.out.drew ?_;repeat (quiet_step (first|with_reducible rfl|(go_at_call_of 100 (Value.int .u8 p.aa);exact cA _)|(go_at_call_of 100 (Value.int .u8 tb);exact cB _)))
  refine wpQuiet_nil ?_;intro w3 hw';obtain⟨⟨wx,hq⟩,hw''⟩:=hw';subst hw'';have HK3:Hid (Kept w w1 w3):=hq;obtain⟨tv3,tt3⟩:=TU.out w3 hq;clear l2 t2 cA cB hq;have hev:sZ p=min (max (bif p.variant==4 then wrap64 (-xY p)else xY p) (-20000)) 20000:=by unfold sZ;rw[h31,cond_true]
  unfold xY at hev;rw[hw8']at hev;have HEV:=Lib.hid hev;clear hev hw8' h31;cases hv4:(p.variant==4)with
  |true =>go_wp2_with fail;go_ret;refine⟨_,rfl,HK3.out.b,?_⟩;rw[HEV.out,hv4];exact .int _ _
  |false =>go_wp2_with fail;go_ret;refine⟨_,rfl,HK3.out.b,?_⟩;rw[HEV.out,hv4];exact .int _ _
end Go.Proofs
namespace Kz
open Go Go.RowKit Go.Proofs
def aqj:KT:=[(111,16,[(0,[0]),(1,[0]),(2,[0,5]),(3,[2]),(4,[0,10]),(5,[2]),(6,[2])])]
def aoB:ar:=bO Pz aqj [] [] []
theorem ad9:aP aoB:=ae af trivial trivial trivial
def iu (a:Int):Int:=(bif decide (wr .i64 (0-a)>20000)then(wr .i64 (wr .i64 (0-a)-1))else(bif decide (wr .i64 (0-a) < -20000)then(wr .i64 (wr .i64 (0-a)+1))else(wr .i64 (0-a))))
def ajA (a:Int):Bool:=true
theorem aiD (a:Int)(h:ajA a=true):PS Pz 111 [.int .i64 a] ((dI .i64).res (iu a)):=pq14 ad9 h
def aiA:GT:=g1 (dI .i64) (fun a=>.ret ((dI .i64).res (iu a)))
theorem apo:Sound Pz 111 aiA:=aH fun a=>bH (aiD a rfl)
def nO (p:Pos):Int:=bif(jo p).1==3 then 0 else bif(jo p).1==wr .u8 (1+p.aa)then 30000 else -30000
def qa (p:Pos):Int:=bif p.variant==4&&decide (0<(gS p).length)then -30001 else sZ p
def fZ (f:Pos→Int→Option (Int×Int))(p:Pos)(s:Option (Int×Int))(m:Mv):Option (Int×Int) :=
 match s with
 |none=>none
 |some (b,k)=>match f (du p m).1 k with
  |none=>none
  |some (v,k')=>some (max b (iu v),k')
def bM:Nat→Pos→Int→Option (Int×Int)
 | 0,p,k=>if 200000<k+1 then none else bif(jo p).1 != 0 then some (nO p,k+1)else some (sZ p,k+1)
 |n+1,p,k=>if 200000<k+1 then none else bif(jo p).1 != 0 then some (nO p,k+1)else(gS p).foldl (fZ (bM n) p) (some (qa p,k+1))
def vW (n:Nat)(p:Pos)(m:Mv)(k:Int):Option (Int×Int):=(bM n (du p m).1 k).map fun x=>(iu x.1,x.2)
theorem jX (f:Pos→Int→Option (Int×Int))(p:Pos):∀l:M',l.foldl (fZ f p) none=none
 | []=>rfl
 |_::l=>jX f p l
structure fx (w:World)(c:Nat)(ty:TypeId)(k:Int)(W:World):Prop where
 os:W.os=w.os
 tape:W.tape=w.tape
 output:W.output=w.output
 size:w.heap.size≤W.heap.size
 other:∀j,j<w.heap.size→j≠c→W.heap[j]?=w.heap[j]?
 cell:W.heap[c]?=some (.cells #[.int .i64 k] ty (0,0))
theorem fx.trans {w w1 w2:World}{c:Nat}{ty:TypeId}{k k2:Int}(h:fx w c ty k w1)(g:fx w1 c ty k2 w2):fx w c ty k2 w2 :=
 ⟨g.os.trans h.os,g.tape.trans h.tape,g.output.trans h.output,Nat.le_trans h.size g.size,fun j hj hn=>(g.other j (Nat.lt_of_lt_of_le hj h.size) hn).trans (h.other j hj hn),g.cell⟩
theorem fx.below {w w1 w2:World}{c:Nat}{ty:TypeId}{k:Int}(h:fx w c ty k w1)(g:RowKit.Below w1.heap.size w1 w2):fx w c ty k w2 :=
 ⟨g.os.trans h.os,g.tape.trans h.tape,g.output.trans h.output,Nat.le_trans h.size g.size,fun j hj hn=>(g.block j (Nat.lt_of_lt_of_le hj h.size)).trans (h.other j hj hn),(g.block c (aB h.cell)).trans h.cell⟩
theorem fx.refl {w:World}{c:Nat}{ty:TypeId}{k:Int}(h:w.heap[c]?=some (.cells #[.int .i64 k] ty (0,0))):fx w c ty k w:=⟨rfl,rfl,rfl,Nat.le_refl _,fun _ _ _=>rfl,h⟩
theorem fx.drew {w w1:World}{c:Nat}{ty:TypeId}{k:Int}(h:fx w c ty k w1):fx w c ty k w1.drew:=h.below ⟨rfl,rfl,rfl,Nat.le_refl _,fun _ _=>rfl⟩
theorem fx.alloc {w w1:World}{c:Nat}{ty:TypeId}{k:Int}(h:fx w c ty k w1)(o:Obj):fx w c ty k (w1.alloc o):=h.below ((Below.refl _ w1).alloc (Nat.le_refl _) o)
theorem fx.put {w w1:World}{c:Nat}{ty:TypeId}{k k':Int}(h:fx w c ty k w1):fx w c ty k' (w1.setCell ⟨c,0,none⟩ (.int .i64 k')):=by
 have e:w1.setCell ⟨c,0,none⟩ (.int .i64 k')=bk w1 c (.cells #[.int .i64 k'] ty (0,0)):=by rw[jd h.cell];rfl
 rw[e];exact⟨h.os,h.tape,h.output,by rw[cG];exact h.size,fun j hj hn=>by rw[aM hn];exact h.other j hj hn,cu h.cell⟩
theorem iP {w W:World}{c:Nat}{ty ty':TypeId}{k k':Int}(hg:cN w)(hc:w.heap[c]?=some (.cells #[.int .i64 k] ty (0,0)))(h:fx w c ty' k' W):cN W:=by
 intro pr hpr;have hk:pr.2.1=.u8:=by simp only[vG,wO,QD,Yx,List.map_cons,List.map_nil,List.append_nil,List.mem_singleton]at hpr;rw[hpr]
 refine⟨fun hi=>?_,fun hi=>?_⟩
 ·have:=hi.1;simp_all
 ·obtain⟨zs,a,b,cc,d,t,fr,e⟩:=(hg pr hpr).2 hi;have hlt:pr.1<w.heap.size:=d;by_cases ec:pr.1=c
  ·exfalso;rw[ec,hc,hk]at e;cases zs with
   |nil=>simp at e
   |cons z zs=>simp at e
  ·refine⟨zs,a,b,fun j x hj=>?_,Nat.lt_of_lt_of_le hlt h.size,t,fr,by rw[h.other _ hlt ec];exact e⟩;obtain⟨h1,h2⟩:=cc j x hj;exact⟨by rw[cd (h.other _ hlt ec)];exact h1,Nat.lt_of_lt_of_le hlt h.size⟩
end Kz
namespace Kz
open Go Go.RowKit Go.Proofs
set_option maxRecDepth 100000
def gz (w:World)(c:Nat)(ty:TypeId)(r:Option (Int×Int))(e:Ending)(w':World):Prop :=
 match r with
 |some x=>e=.returned (.int .i64 x.1)∧fx w c ty x.2 w'
 |none=>e=.panicked (gD (.iface 107 (.agg #[])))∧fx w c ty 200001 w'
def VS (n:Nat):Prop := ∀(p:Pos),ax p→∀(k:Int),0≤k→k≤200000→∀(c:Nat) (ty:TypeId) (w:World),cN w→w.heap[c]?=some (.cells #[.int .i64 k] ty (0,0)) →
 ∀(pcs:Array Value),ay (cK w) [] w (bf (Pos.av p)) pcs.toList→Calls Tryz.prog 43 #[.pointer (some ⟨c,0,none⟩),.agg pcs,.int .i64 (n:Int)] w (gz w c ty (bM n p k))
def GS (n:Nat):Prop := ∀(p:Pos),ax p→∀(m:Mv) (k:Int),0≤k→k≤200000→∀(c:Nat) (ty:TypeId) (w:World),cN w→w.heap[c]?=some (.cells #[.int .i64 k] ty (0,0)) →
 ∀(pcs:Array Value),ay (cK w) [] w (bf (Pos.av p)) pcs.toList→Calls Tryz.prog 52 #[.pointer (some ⟨c,0,none⟩),.agg pcs,.agg (bQ m).toArray,.int .i64 ((n:Int)+1)] w (gz w c ty (vW n p m k))
theorem kb {p:Pos}(hp:ax p)(m:Mv):ax (du p m).1:=by
 obtain⟨_,h1,h2⟩:=kq hp m;by_cases hm:m∈bR p
 ·exact(h1 hm).2.1
 ·rw[h2 hm];exact hp
theorem AM:∀(n:Nat) (p:Pos) (k:Int) (x:Int×Int),bM n p k=some x→k<x.2∧x.2≤200000
 | 0,p,k,x,h=>by
  unfold bM at h
  split at h
  ·cases h
  ·cases hb:(jo p).1 != 0<;>rw[hb]at h<;>simp only[cond_true,cond_false,A']at h<;>subst h<;>(dsimp only;omega)
 |n+1,p,k,x,h=>by
  unfold bM at h
  split at h
  ·cases h
  ·cases hb:(jo p).1 != 0<;>rw[hb]at h
   ·simp only[cond_false]at h
    have key:∀(l:M') (b k':Int),k<k'→k'≤200000→l.foldl (fZ (bM n) p) (some (b,k'))=some x→k<x.2∧x.2≤200000:=by
     intro l
     induction l with
     |nil=>intro b k' h1 h2 h3;simp only[List.foldl_nil,A']at h3;subst h3;exact⟨h1,h2⟩
     |cons m l ih =>
      intro b k' h1 h2 h3
      simp only[List.foldl_cons,fZ]at h3
      cases hr:bM n (du p m).1 k' with
      |none=>rw[hr]at h3;simp only at h3;rw[jX]at h3;cases h3
      |some y =>
       rw[hr]at h3
       have:=AM n _ _ _ hr
       exact ih _ _ (by omega) this.2 h3
    exact key _ _ _ (by omega) (by omega) h
   ·simp only[cond_true,A']at h
    subst h
    dsimp only
    omega
end Kz
namespace Go.Proofs
open Go.Shelf Go.RowKit Go.Lib Go.Sort Kz
theorem GF {g:Gh}{tk:List Nat}{w:World}{p:Pos}{cs:List Value}(h:ay g tk w (bf (Pos.av p)) cs):∀v∈cs,v.oneCell'=true:=by
 change ay g tk w [.int .u8 p.variant,.ints .u8 64 p.ab,.u64 p.ai,.ints .u8 12 p.ah,.int .u8 p.aa,.ints .i8 4 p.ao,.int .i8 p.az,.ints .u8 2 p.au,.int .i64 p.half,.int .i64 p.full] cs at h;obtain⟨x1,r1,e1,q1,h1⟩:=h.inv_one rfl;obtain⟨l2,r2,e2,h2⟩:=h1.bI;obtain⟨x3,r3,e3,q3,h3⟩:=h2.inv_one rfl;obtain⟨l4,r4,e4,h4⟩:=h3.bI;obtain⟨x5,r5,e5,q5,h5⟩:=h4.inv_one rfl;obtain⟨l6,r6,e6,h6⟩:=h5.bI;obtain⟨x7,r7,e7,q7,h7⟩:=h6.inv_one rfl;obtain⟨l8,r8,e8,h8⟩:=h7.bI;obtain⟨x9,r9,e9,q9,h9⟩:=h8.inv_one rfl;obtain⟨x10,r10,e10,q10,h10⟩:=h9.inv_one rfl;have e11:=h10.cL;cases q1;cases q3;cases q5;cases q7;cases q9;cases q10;have key:∀(k:IntKind) (l:List Int),∀v∈l.map (Value.int k),v.oneCell'=true:=fun k l v hv=>by obtain⟨x,_,rfl⟩:=List.mem_map.1 hv;rfl
 rw[e1,e2,e3,e4,e5,e6,e7,e8,e9,e10,e11];intro v hv;simp only[List.mem_cons,List.mem_append,List.not_mem_nil,or_false]at hv;rcases hv with rfl|hv|rfl|hv|rfl|hv|rfl|hv|rfl|rfl
 ·rfl
 ·exact key _ _ v hv
 ·rfl
 ·exact key _ _ v hv
 ·rfl
 ·exact key _ _ v hv
 ·rfl
 ·exact key _ _ v hv
 ·rfl
 ·rfl
set_option maxHeartbeats 4000000 in
set_option maxRecDepth 100000 in
theorem QU (n:Nat)(hn:n<4611686018427387904)(hv:VS n)(sz:Nat)(zE:∀w,(Go.sizeOf 31).run Tryz.prog w=.ok sz w)(hsz:sz=88)(zs:Array Value)(zV:∀w,(zeroValue 31).run Tryz.prog w=.ok (.agg zs) w)(hzs:zs.size=sz)(s944:Nat)(zE44:∀w,(Go.sizeOf 47).run Tryz.prog w=.ok s944 w)(h44:s944=5):GS n:=by
 intro p hp m k h0 h1 c ty w hg hc pcs hpc;have aE:∀w,(isAgg 31).run Tryz.prog w=.ok true w:=Tryz.isAgg31;have aE44:∀w,(isAgg 47).run Tryz.prog w=.ok true w:=Tryz.isAgg47;have hlen:pcs.toList.length=sz:=(jD hpc).trans hsz.symm;obtain⟨mc,hmc⟩:∃mc,mc=(bQ m).toArray:=⟨_,rfl⟩;have hml:mc.toList.length=s944:=by rw[hmc,h44];rfl
 rw[←hmc];have hcw:c<w.heap.size:=aB hc;have hb1:RowKit.Below w.heap.size w ((w.alloc (Obj.cells pcs 31)).alloc (Obj.cells mc 47)):=((Below.refl _ w).alloc (Nat.le_refl _) _).alloc (by simp) _;have hs1:((w.alloc (Obj.cells pcs 31)).alloc (Obj.cells mc 47)).heap.size=w.heap.size+2:=by simp
 have hbp:((w.alloc (Obj.cells pcs 31)).alloc (Obj.cells mc 47)).heap[w.heap.size]?=some (.cells pcs 31 (0,0)):=by rw[Below.heap_alloc _ _ _ (by simp)];exact heap_alloc_new w _
 have hbm:((w.alloc (Obj.cells pcs 31)).alloc (Obj.cells mc 47)).heap[w.heap.size+1]?=some (.cells mc 47 (0,0)):=by
  have h:=heap_alloc_new (w.alloc (Obj.cells pcs 31)) (Obj.cells mc 47);have h1:(w.alloc (Obj.cells pcs 31)).heap.size=w.heap.size+1:=by simp
  rw[h1]at h;exact h
 have l1:=ew hbp hlen;have l2:=ew hbm hml;have hL1:fx w c ty k ((w.alloc (Obj.cells pcs 31)).alloc (Obj.cells mc 47)):=(fx.refl hc).below hb1;have c22:Calls Tryz.prog 31 #[.agg pcs,.agg mc] ((w.alloc (Obj.cells pcs 31)).alloc (Obj.cells mc 47)) fun e w'=>∃qcs b,e=.returned (.tuple #[.agg qcs,b])∧Hid (RowKit.Below ((w.alloc (Obj.cells pcs 31)).alloc (Obj.cells mc 47)).heap.size ((w.alloc (Obj.cells pcs 31)).alloc (Obj.cells mc 47)) w')∧Hid (ay (cK w') [] w' (bf (Pos.av (du p m).1)) qcs.toList):=by
  have h:=(P31 p m (kq hp m).1).1;unfold aX at h;have r1:aN (cK ((w.alloc (Obj.cells pcs 31)).alloc (Obj.cells mc 47))) [] ((w.alloc (Obj.cells pcs 31)).alloc (Obj.cells mc 47)) (Pos.av p) (.agg pcs) := .agg (b8 hpc);have r2:aN (cK ((w.alloc (Obj.cells pcs 31)).alloc (Obj.cells mc 47))) [] ((w.alloc (Obj.cells pcs 31)).alloc (Obj.cells mc 47)) (Mv.av m) (.agg mc):=by rw[hmc];exact .agg (my _ _ _ m)
  refine Calls.mono (callsIn_wide.1 (h _ #[.agg pcs,.agg mc] (gK hg hb1.size hb1.block) (.cons r1 (.cons r2 .nil)))) ?_;rintro e w' ⟨x,rfl,hb,hx⟩;cases hx with
  |tuple hx =>
  rename_i vs;obtain⟨vs⟩:=vs;cases hx with
  |cons q1 r =>
  cases r with
  |cons q2 r =>
  cases r;obtain⟨qcs,rfl,hq⟩:=aN.cM (l:=bf (Pos.av (du p m).1)) q1;exact⟨qcs,_,rfl,hb,b8 hq⟩
 have C22:=Lib.hid c22;have HL1:=Lib.hid hL1;have HG:=Lib.hid hg;have HC:=Lib.hid hc;have HV:Aside _:=hv;have HS:=Lib.hid hs1;have HZ:=Lib.hid hsz;have HZS:=Lib.hid hzs;clear c22 hL1 hb1 hbp hbm hg hc hv hs1 hsz h44 hlen hml hmc hzs;go_enter Tryz.func52,Tryz.ntmps52;go_wp2_with fail;refine C22.out.mono ?_;rintro e w2 ⟨qcs,bq,rfl,hb2,hq⟩;clear l1 l2;have hL2:fx w c ty k w2:=HL1.out.below hb2.out;have hqs:qcs.size=sz:=by have:=jD hq.out;rw[HZ.out];simpa using this
 have st:=run_storeCells_cells (P:=Tryz.prog) w2.heap.size 0 qcs.toList 0 (w2.alloc (Obj.cells zs 31)) (fun j hj=>by
  rw[aw (heap_alloc_new w2 _)]
  have hj2:j<qcs.size:=by simpa using hj
  rw[Array.getElem?_eq_getElem (by rw[HZS.out,←hqs];omega)]
  rfl) (fun j hj=>bP (heap_alloc_new w2 _)) (GF hq.out)
 have hin:=World.cell?_setCells_in w2.heap.size qcs.toList 0 (w2.alloc (Obj.cells zs 31)) (fun j hj=>by
  rw[aw (heap_alloc_new w2 _)]
  have hj2:j<qcs.size:=by simpa using hj
  rw[Array.getElem?_eq_getElem (by rw[HZS.out,←hqs];omega)]
  rfl)
 have l3:Sem.run Tryz.prog (loadCellsFrom { block:=w2.heap.size,off:=0,spot:=none } 0 sz #[]) ((w2.alloc (Obj.cells zs 31)).setCells w2.heap.size 0 qcs.toList)=.ok qcs ((w2.alloc (Obj.cells zs 31)).setCells w2.heap.size 0 qcs.toList):=by
  have h:=run_loadCellsFrom_list Tryz.prog ((w2.alloc (Obj.cells zs 31)).setCells w2.heap.size 0 qcs.toList) ⟨w2.heap.size,0,none⟩ qcs.toList sz (by simpa using hqs) (fun j v hj=>by
   have hlt:=(C'.1 hj).1
   have h2:=hin j hlt
   rw[Addr.add_lit,h2]
   rw[I' hlt]at hj
   exact hj)
  simpa using h
 have hcw2:c<w2.heap.size:=aB hL2.cell;have hb3:RowKit.Below w2.heap.size w2 ((w2.alloc (Obj.cells zs 31)).setCells w2.heap.size 0 qcs.toList):=by
  have e:∀(vs:List Value) (o:Nat) (W:World),RowKit.Below w2.heap.size w2 W→RowKit.Below w2.heap.size w2 (W.setCells w2.heap.size o vs):=by
   intro vs;induction vs with
   |nil=>intro o W h;exact h
   |cons v vs ih=>intro o W h;exact ih _ _ (h.setCell (Nat.le_refl _) v)
  exact e _ _ _ ((Below.refl _ w2).alloc (Nat.le_refl _) _)
 have hL3:fx w c ty k ((w2.alloc (Obj.cells zs 31)).setCells w2.heap.size 0 qcs.toList):=hL2.below hb3;have hg3:=iP HG.out HC.out hL3;have hcall:=HV.out (du p m).1 (kb hp m) k h0 h1 c ty _ hg3 hL3.cell qcs (b8 hq.out);have hw64:wrap64 (n:Int)=(n:Int):=by unfold wrap64;omega
 have HCALL:=Lib.hid hcall;have HL3:=Lib.hid hL3;clear hcall hL3 hg3 hb3 hin hL2 hcw2;go_wp2_with fail;refine HCALL.out.mono ?_;intro e w4 hP;unfold gz at hP;cases hr:bM n (du p m).1 k with
 |none =>rw[hr]at hP;obtain⟨rfl,hL4⟩:=hP;have HL4:=Lib.hid hL4;clear hL4 st l3;go_wp2_with fail;refine⟨rfl,?_⟩;unfold gz vW;rw[hr];exact⟨rfl,HL3.out.trans HL4.out⟩
 |some x =>
  rw[hr]at hP;obtain⟨rfl,hL4⟩:=hP;have hL5:=HL3.out.trans hL4;have hg4:=iP HG.out HC.out hL5;have c78:Calls Tryz.prog 111 #[.int .i64 x.1] w4 fun e w'=>e=.returned (.int .i64 (iu x.1))∧fx w c ty x.2 w':=by have h:=(aiD x.1 rfl).1;unfold aX at h;refine Calls.mono (callsIn_wide.1 (h w4 #[.int .i64 x.1] hg4 (.cons (.int _ _) .nil))) ?_;rintro e w' ⟨v,rfl,hb,hx⟩;cases hx;exact⟨rfl,hL5.below hb⟩
  have C78:=Lib.hid c78;clear c78 hg4 hL5 hL4 st l3;go_wp2_with fail;refine C78.out.mono ?_;rintro e w5 ⟨rfl,hL6⟩;have HL6:=Lib.hid hL6;clear hL6;go_wp2_with fail;go_ret;unfold vW;rw[hr];exact⟨rfl,HL6.out⟩
end Go.Proofs
namespace Go.Proofs
open Go.Shelf Go.RowKit Go.Lib Go.Sort Kz
theorem NG {p:Pos}(hp:ax p):(gS p).length≤20802:=by have h:=np hp;unfold gS;refine al (P:=fun l:M'=>l.length≤20802) (fun _=>by simp) fun _=>?_;have h2:((di p).filter (hZ p)).length≤(di p).length:=List.length_filter_le _ _;rw[zC];omega
theorem ql {f:Pos→Int→Option (Int×Int)}{p:Pos}{b k:Int}{m:Mv}(h:f (du p m).1 k=none):fZ f p (some (b,k)) m=none:=by simp only[fZ];rw[h]
theorem pH {f:Pos→Int→Option (Int×Int)}{p:Pos}{b k v k':Int}{m:Mv}(h:f (du p m).1 k=some (v,k')):fZ f p (some (b,k)) m=some (max b (iu v),k'):=by simp only[fZ];rw[h]
set_option maxHeartbeats 8000000 in
set_option maxRecDepth 100000 in
theorem Gb (n:Nat)(hn:n<4611686018427387904)(hG:∀n',n=n'+1→GS n')(s944:Nat)(zE44:∀w,(Go.sizeOf 47).run Tryz.prog w=.ok s944 w)(h44:s944=5)(zs44:Array Value)(zV44:∀w,(zeroValue 47).run Tryz.prog w=.ok (.agg zs44) w)(hzs44:zs44.size=s944)(sz:Nat)(zE:∀w,(Go.sizeOf 31).run Tryz.prog w=.ok sz w)(hsz:sz=88):VS n:=by
 intro p hp k h0 h1 c ty w hg hc pcs hpc;have aE44:∀w,(isAgg 47).run Tryz.prog w=.ok true w:=Tryz.isAgg47;have aE:∀w,(isAgg 31).run Tryz.prog w=.ok true w:=Tryz.isAgg31;have hlen:pcs.toList.length=sz:=(jD hpc).trans hsz.symm;have hcw:c<w.heap.size:=aB hc;obtain⟨N,hN⟩:∃N:Int,N=(n:Int):=⟨_,rfl⟩;rw[←hN];have HN:=Lib.hid hN;clear hN;obtain⟨ev,hev⟩:∃ev,ev=sZ p:=⟨_,rfl⟩;have HEV:=Lib.hid hev;clear hev;obtain⟨L,hL0⟩:∃L,L=gS p:=⟨_,rfl⟩;have HLL:=Lib.hid hL0;have hLB:L.length≤20802:=by rw[hL0];exact NG hp
 have HLB:=Lib.hid hLB;clear hL0 hLB;obtain⟨st,why,hst⟩:∃st why,jo p=(st,why):=⟨_,_,rfl⟩;have hcell0:w.cell? ⟨c,0,none⟩=some (.int .i64 k):=by rw[aw hc];rfl
 have hfr0:w.frozen? ⟨c,0,none⟩=false:=bP hc;have hcell:(w.alloc (Obj.cells pcs 31)).cell? ⟨c,0,none⟩=some (.int .i64 k):=by rw[cd (Below.heap_alloc w _ c hcw)];exact hcell0
 have hfr:(w.alloc (Obj.cells pcs 31)).frozen? ⟨c,0,none⟩=false:=bP (by rw[Below.heap_alloc w _ c hcw];exact hc);have hk1:wrap64 (k+1)=k+1:=by unfold wrap64;omega
 have hL1:fx w c ty (k+1) (w.setCell ⟨c,0,none⟩ (.int .i64 (k+1))):=(fx.refl hc).put;have hL2:fx w c ty (k+1) ((w.setCell ⟨c,0,none⟩ (.int .i64 (k+1))).alloc (Obj.cells pcs 31)):=hL1.alloc _;have hss:(w.setCell ⟨c,0,none⟩ (.int .i64 (k+1))).heap.size=w.heap.size:=by simp
 have hb2:((w.setCell ⟨c,0,none⟩ (.int .i64 (k+1))).alloc (Obj.cells pcs 31)).heap[w.heap.size]?=some (.cells pcs 31 (0,0)):=by have h:=heap_alloc_new (w.setCell ⟨c,0,none⟩ (.int .i64 (k+1))) (Obj.cells pcs 31);rw[hss]at h;exact h
 have hcell2:((w.setCell ⟨c,0,none⟩ (.int .i64 (k+1))).alloc (Obj.cells pcs 31)).cell? ⟨c,0,none⟩=some (.int .i64 (k+1)):=by rw[aw hL2.cell];rfl
 have hcell3:(w.setCell ⟨c,0,none⟩ (.int .i64 (k+1))).cell? ⟨c,0,none⟩=some (.int .i64 (k+1)):=by rw[aw hL1.cell];rfl
 have l2:=ew hb2 hlen;have HL2:=Lib.hid hL2;have HB2:=Lib.hid hb2;have HG:=Lib.hid hg;have HC:=Lib.hid hc;have HLEN:=Lib.hid hlen;have hgl:∀{W:World} {k':Int},fx w c ty k' W→cN W:=fun h=>iP hg hc h;have HGL:Aside _ := @hgl;have H944:=Lib.hid h44;have HZ44:=Lib.hid hzs44;have HCW:=Lib.hid hcw;clear hL1 hL2 hb2 hg hc hlen hgl hsz hss h44 hzs44;by_cases hgt:200000<k+1
 ·have hlook:bM n p k=none:=by cases n<;>(unfold bM;rw[if_pos hgt])
  have HLK:=Lib.hid hlook;have hk2:k+1=200001:=by omega
  have HK2:=Lib.hid hk2;clear hlook hk2;go_enter Tryz.func43,Tryz.ntmps43;go_wp2_with fail;skip;refine⟨rfl,?_⟩;unfold gz;rw[HLK.out];have:=HL2.out;rw[HK2.out]at this;refine⟨rfl,?_⟩;rw[HK2.out];exact this
 ·have c24:∀W,Hid (fx w c ty (k+1) W)→Hid (W.heap[w.heap.size]?=some (.cells pcs 31 (0,0)))→Calls Tryz.prog 62 #[.agg pcs] W fun e w'=>e=.returned (.agg #[.int .u8 st,.int .u8 why])∧Hid (fx w c ty (k+1) w')∧Hid (w'.heap[w.heap.size]?=some (.cells pcs 31 (0,0))):=fun W hL hB=>by have h:=(P62 p (t62 hp)).1;unfold aX at h;refine Calls.mono (callsIn_wide.1 (h W #[.agg pcs] (HGL.out hL.out) (.cons (.agg (b8 hpc)) .nil))) ?_;rintro e w' ⟨x,rfl,hb,hx⟩;rw[hst]at hx;have hx:aN (rA W w') [] w' (.agg [.int .u8 st,.int .u8 why]) x:=hx;obtain⟨cs,rfl,hy⟩:=aN.cM (l:=[.int .u8 st,.int .u8 why]) hx;obtain⟨x1,r1,e1,q1,h1⟩:=hy.inv_one rfl;obtain⟨x2,r2,e2,q2,h2⟩:=h1.inv_one rfl;have e3:=h2.cL;cases q1;cases q2;obtain⟨cs⟩:=cs;simp only at e1;rw[e1,e2,e3];exact⟨rfl,hL.out.below hb,(hb.block _ (aB hB.out)).trans hB.out⟩
  have c15:∀W,Hid (fx w c ty (k+1) W)→Hid (W.heap[w.heap.size]?=some (.cells pcs 31 (0,0)))→Calls Tryz.prog 40 #[.agg pcs] W fun e w'=>e=.returned (.int .i64 ev)∧Hid (fx w c ty (k+1) w')∧Hid (w'.heap[w.heap.size]?=some (.cells pcs 31 (0,0))):=fun W hL hB=>by have h:=Z8 p hp 88 Tryz.sizeOf31 rfl;unfold aX at h;refine Calls.mono (callsIn_wide.1 (h W #[.agg pcs] (HGL.out hL.out) (.cons (.agg (b8 hpc)) .nil))) ?_;rintro e w' ⟨x,rfl,hb,hx⟩;rw[←HEV.out]at hx;cases hx;exact⟨rfl,hL.out.below hb,(hb.block _ (aB hB.out)).trans hB.out⟩
  have c16:∀W,Hid (fx w c ty (k+1) W)→Hid (W.heap[w.heap.size]?=some (.cells pcs 31 (0,0)))→Calls Tryz.prog 21 #[.agg pcs] W fun e w'=>∃a cap,e=.returned (.slice a (L).length cap)∧Hid (fx w c ty (k+1) w')∧Hid (w'.heap[w.heap.size]?=some (.cells pcs 31 (0,0))) ∧
    Hid (L=[]∨∃c' o',a=some ⟨c',o',none⟩∧c'≠c∧c'<w'.heap.size∧∀j v,((L).flatMap bQ)[j]?=some v→w'.cell? ⟨c',o'+j,none⟩=some v):=fun W hL hB=>by
   have h:=(ZN p hp).1
   rw[←HLL.out]at h
   unfold aX at h
   refine Calls.mono (callsIn_wide.1 (h W #[.agg pcs] (HGL.out hL.out) (.cons (.agg (b8 hpc)) .nil))) ?_
   rintro e w' ⟨x,rfl,hb,hx⟩
   cases hx with
   |list hn hE hS hT hC =>
   rename_i a n' cap cs
   subst hn
   have hcs:=dN hE
   refine⟨a,cap,rfl,hL.out.below hb,(hb.block _ (aB hB.out)).trans hB.out,?_⟩
   by_cases hl:L=[]
   ·exact .inl hl
   rcases hS with h0|⟨c',o',ha,hat,_⟩
   ·refine .inl ?_
    have:=cZ (L)
    rw[←hcs,h0]at this
    exact List.eq_nil_of_length_eq_zero (by simp at this;omega)
   ·have hpos:0<((L).flatMap bQ).length:=by
     rw[cZ]
     have:(L).length≠0:=fun e=>hl (List.eq_nil_of_length_eq_zero e)
     omega
    have h00:=hat 0 _ (by rw[hcs];exact I' hpos)
    have hge:W.heap.size≤c'∧c'<w'.heap.size:=h00.2
    have hcW:c<W.heap.size:=aB hL.out.cell
    exact .inr ⟨c',o',ha,by omega,hge.2,fun j v hj=>(hat j v (by rw[hcs];exact hj)).1⟩
  have K40:Aside _:=c15;have K21:Aside _:=c16;clear c15 c16;have C24:=Lib.hid (c24 _ HL2 HB2);have LD:Aside (∀W:World,Hid (W.heap[w.heap.size]?=some (.cells pcs 31 (0,0)))→Sem.run Tryz.prog (loadCellsFrom { block:=w.heap.size,off:=0,spot:=none } 0 sz #[]) W=.ok pcs W):=fun W hB=>ew hB.out HLEN.out;have TU:Aside (∀W:World,Hid (W.heap[w.heap.size]?=some (.cells pcs 31 (0,0)))→W.cell? ⟨w.heap.size,0,none⟩=some (.int .u8 p.variant)∧W.cell? ⟨w.heap.size,78,none⟩=some (.int .u8 p.aa)):=fun W hB=>by have h:=vD hpc;rw[aw hB.out,aw hB.out];simpa using h
  clear c24;go_enter Tryz.func43,Tryz.ntmps43;go_wp2_with fail;refine C24.out.mono ?_;rintro e w3 ⟨rfl,hL3,hB3⟩;have hL3a:Hid (fx w c ty (k+1) (w3.alloc (Obj.cells #[Value.int .u8 st,Value.int .u8 why] 40))):=hL3.out.alloc _;have hB3a:Hid ((w3.alloc (Obj.cells #[Value.int .u8 st,Value.int .u8 why] 40)).heap[w.heap.size]?=some (.cells pcs 31 (0,0))):=(Below.heap_alloc _ _ _ (aB hB3.out)).trans hB3.out;have l3:=LD.out _ hB3a;have t3:=TU.out _ hB3a;obtain⟨tv3,tt3⟩:=t3;clear l2 hcell0 hfr0 hcell hfr hcell2 hcell3;by_cases s0:st=0
  ·subst s0;have hb0:((jo p).1 != 0)=false:=by rw[hst];rfl
   have HB0:=Lib.hid hb0;clear hb0;go_wp2_with fail;refine(K40.out _ hL3a hB3a).mono ?_;rintro e w4 ⟨rfl,hL4,VW⟩;clear l3 tv3 tt3;have l4:=LD.out _ VW;obtain⟨tv4,tt4⟩:=TU.out _ VW;by_cases hz:n=0
   ·have hN0:(N==0)=true:=by have:=HN.out;rw[this,hz];rfl
    have hlook:bM n p k=some (ev,k+1):=by rw[HEV.out];subst hz;unfold bM;rw[if_neg (by omega),HB0.out];rfl
    have HLK:=Lib.hid hlook;clear hlook hz;go_wp2_with fail;go_ret;unfold gz;rw[HLK.out];exact⟨rfl,hL4.out⟩
   ·obtain⟨n',hn'⟩:∃n',n=n'+1:=⟨n-1,by omega⟩;have hN0:(N==0)=false:=beq_eq_false_iff_ne.2 (by have:=HN.out;omega);have hlook:bM n p k=L.foldl (fZ (bM n') p) (some (qa p,k+1)):=by
     rw[HLL.out];subst hn';conv=>lhs;unfold bM
     rw[if_neg (by omega),HB0.out];rfl
    have HLK:=Lib.hid hlook;have HGS:Aside (GS n'):=hG n' hn';have HN1:Hid (N=(n':Int)+1):=by show _=_;have:=HN.out;omega
    clear hlook hz hn';go_wp2_with fail;refine(K21.out _ hL4 VW).mono ?_;rintro e w5 ⟨a5,cap5,rfl,hL5,hB5,hR5⟩;clear l4 tv4 tt4;obtain⟨tv5,tt5⟩:=TU.out _ hB5;cases bv:(p.variant==4)with
    |true =>
     by_cases hpos:0<L.length
     ·have hbt:qa p = -30001:=by unfold qa;rw[←HLL.out,bv,decide_eq_true hpos];rfl
      have HBT:=Lib.hid hbt;have hpz:(0:Int)<(L.length:Int):=by omega
      clear hbt hpos;go_wp2_with fail;go_loopg [8,56] (L.length) (fun kx s8 Nd wr=>∃(i:Nat) (best k2:Int),s8=.int .i64 best∧Nd=.int .i64 i∧kx+i=L.length∧0≤k2∧k2≤200000∧Hid (fx w5 c ty k2 wr)∧Hid ((L.drop i).foldl (fZ (bM n') p) (some (best,k2))=bM n p k));case atStart=>exact⟨0,_,k+1,rfl,rfl,by omega,by omega,by omega,fx.refl hL5.out.cell,by show _=_;rw[HLK.out,HBT.out];rfl⟩
      case round =>
       obtain⟨i,best,k2,rfl,rfl,hi,hk20,hk21,hLr,HE⟩:=hrel;have HI:=Lib.hid hi;cases gk with
       |zero =>
        have hlt:¬(i:Int)<(L.length:Int):=by omega
        have hres:bM n p k=some (best,k2):=by have:=HE.out;rw[List.drop_of_length_le (by omega)]at this;exact this.symm
        have HRES:=Lib.hid hres;clear hres;go_wp2_with fail;go_ret;unfold gz;rw[HRES.out];dsimp only;exact⟨rfl,hL5.out.trans hLr.out⟩
       |succ kx =>
        have hlt:(i:Int)<(L.length:Int):=by omega
        have hil:i<L.length:=by omega
        have hiw:wrap64 ((i:Int)+1)=(i:Int)+1:=by have:=HLB.out;unfold wrap64;omega
        obtain⟨m,hm⟩:∃m,m=L[i]:=⟨_,rfl⟩;have hdrop:L.drop i=m::L.drop (i+1):=by rw[hm];exact List.drop_eq_getElem_cons hil
        have hE2:(L.drop (i+1)).foldl (fZ (bM n') p) (fZ (bM n') p (some (best,k2)) m)=bM n p k:=by have:=HE.out;rw[hdrop,List.foldl_cons]at this;exact this
        have HE2:=Lib.hid hE2;obtain⟨mc,hmc⟩:∃mc,mc=(bQ m).toArray:=⟨_,rfl⟩;have hml:mc.toList.length=s944:=by rw[hmc];exact H944.out.symm
        have hne2:L≠[]:=fun e=>by rw[e]at hil;simp at hil
        obtain⟨c',o',ha5,hcc,hcs5,hat⟩:=hR5.out.resolve_left hne2;have he:Sem.run Tryz.prog (loadCellsFrom ⟨c',o'+i*s944,none⟩ 0 s944 #[]) wr=.ok mc wr:=by
         have h:=run_loadCellsFrom_list Tryz.prog wr ⟨c',o'+i*s944,none⟩ mc.toList s944 hml (fun j v hj=>by
          have hj5:j<5:=by have:=(C'.1 hj).1;rw[hml,H944.out]at this;exact this
          have h2:=hat (i*5+j) v (by
           rw[eE L i j hil hj5]
           have eb:L[i]! = L[i]:=by simp[hil]
           rw[eb,←hm]
           rw[hmc]at hj
           exact hj)
          rw[Addr.add_lit,cd (hLr.out.other c' hcs5 hcc),H944.out,Nat.add_assoc]
          exact h2)
         simpa using h
        subst ha5;have hBr:Hid (wr.heap[w.heap.size]?=some (.cells pcs 31 (0,0))):=(hLr.out.other _ (aB hB5.out) (by have:=HCW.out;omega)).trans hB5.out;have hgrc:c<wr.heap.size:=aB hLr.out.cell
        have hst44:=run_storeCells_cells (P:=Tryz.prog) wr.heap.size 0 mc.toList 0 (wr.alloc (Obj.cells zs44 47)) (fun j hj=>by
         rw[aw (heap_alloc_new wr _)]
         rw[hml]at hj
         rw[Array.getElem?_eq_getElem (by rw[HZ44.out];omega)]
         rfl) (fun j hj=>bP (heap_alloc_new wr _)) (by rw[hmc];exact pY m)
        have hin:=World.cell?_setCells_in wr.heap.size mc.toList 0 (wr.alloc (Obj.cells zs44 47)) (fun j hj=>by
         rw[aw (heap_alloc_new wr _)]
         rw[hml]at hj
         rw[Array.getElem?_eq_getElem (by rw[HZ44.out];omega)]
         rfl)
        have hmsz:mc.size=s944:=by simpa using hml
        have lm:Sem.run Tryz.prog (loadCellsFrom { block:=wr.heap.size,off:=0,spot:=none } 0 s944 #[]) ((wr.alloc (Obj.cells zs44 47)).setCells wr.heap.size 0 mc.toList)=.ok mc ((wr.alloc (Obj.cells zs44 47)).setCells wr.heap.size 0 mc.toList):=by
         have h:=run_loadCellsFrom_list Tryz.prog ((wr.alloc (Obj.cells zs44 47)).setCells wr.heap.size 0 mc.toList) ⟨wr.heap.size,0,none⟩ mc.toList s944 hml (fun j v hj=>by
          have hlt:=(C'.1 hj).1
          have h2:=hin j hlt
          rw[Addr.add_lit,h2]
          rw[I' hlt]at hj
          exact hj)
         simpa using h
        have hb3:RowKit.Below wr.heap.size wr ((wr.alloc (Obj.cells zs44 47)).setCells wr.heap.size 0 mc.toList):=by
         have e:∀(vs:List Value) (o:Nat) (W:World),RowKit.Below wr.heap.size wr W→RowKit.Below wr.heap.size wr (W.setCells wr.heap.size o vs):=by
          intro vs;induction vs with
          |nil=>intro o W h;exact h
          |cons v vs ih=>intro o W h;exact ih _ _ (h.setCell (Nat.le_refl _) v)
         exact e _ _ _ ((Below.refl _ wr).alloc (Nat.le_refl _) _)
        have hLx:Hid (fx w5 c ty k2 ((wr.alloc (Obj.cells zs44 47)).setCells wr.heap.size 0 mc.toList)):=hLr.out.below hb3;have hBx:Hid (((wr.alloc (Obj.cells zs44 47)).setCells wr.heap.size 0 mc.toList).heap[w.heap.size]?=some (.cells pcs 31 (0,0))):=(hb3.block _ (aB hBr.out)).trans hBr.out;have lx:=LD.out _ hBx;have hcall:=HGS.out p hp m k2 hk20 hk21 c ty _ (HGL.out (hL5.out.trans hLx.out)) hLx.out.cell pcs (b8 hpc);rw[←hmc,←HN1.out]at hcall;have HCALL:=Lib.hid hcall;have HAT:=Lib.hid hat;clear hcall hE2 hdrop hm hmc hml hin hb3 hat hcs5 HE hBr hgrc;go_wp2_with fail;refine HCALL.out.mono ?_;intro e w7 hP;unfold gz vW at hP;cases hr:bM n' (du p m).1 k2 with
        |none =>
         rw[hr]at hP;obtain⟨rfl,hL7⟩:=hP;have hres:bM n p k=none:=by have this:=HE2.out;rw[ql hr,jX]at this;exact this.symm
         have HRES:=Lib.hid hres;have HL7:=Lib.hid hL7;clear hres hL7 he hst44 lm lx;go_wp2_with fail;refine⟨rfl,?_⟩;unfold gz;rw[HRES.out];exact⟨rfl,(hL5.out.trans hLx.out).trans HL7.out⟩
        |some x =>
         rw[hr]at hP;obtain⟨rfl,hL7⟩:=hP;obtain⟨x1,x2⟩:=x;have hkk:=AM n' _ _ _ hr;have HKK:Hid (k2<x2∧x2≤200000):=hkk;have hE3:(L.drop (i+1)).foldl (fZ (bM n') p) (some (max best (iu x1),x2))=bM n p k:=by have:=HE2.out;rw[pH hr]at this;exact this
         dsimp only at hL7 hkk⊢;obtain⟨g1,hg1⟩:∃g1,g1=iu x1:=⟨_,rfl⟩;rw[←hg1]at hE3⊢;have HE3:=Lib.hid hE3;have HL7:=Lib.hid hL7;clear hE3 hL7 he hst44 lm lx hg1;go_wp2_with fail;go_roundg kx;case measure=>omega
         case rel=>exact⟨i+1,max best g1,x2,rfl,by go_num,by have:=HI.out;omega,by have:=HKK.out;omega,HKK.out.2,hLx.out.trans HL7.out,HE3.out⟩
     ·have hbt:qa p=ev:=by unfold qa;rw[←HLL.out,bv,decide_eq_false hpos,Bool.and_false,cond_false,HEV.out]
      have HBT:=Lib.hid hbt;have hpz:¬(0:Int)<(L.length:Int):=by omega
      clear hbt hpos;go_wp2_with fail;go_loopg [8,56] (L.length) (fun kx s8 Nd wr=>∃(i:Nat) (best k2:Int),s8=.int .i64 best∧Nd=.int .i64 i∧kx+i=L.length∧0≤k2∧k2≤200000∧Hid (fx w5 c ty k2 wr)∧Hid ((L.drop i).foldl (fZ (bM n') p) (some (best,k2))=bM n p k));case atStart=>exact⟨0,_,k+1,rfl,rfl,by omega,by omega,by omega,fx.refl hL5.out.cell,by show _=_;rw[HLK.out,HBT.out];rfl⟩
      case round =>
       obtain⟨i,best,k2,rfl,rfl,hi,hk20,hk21,hLr,HE⟩:=hrel;have HI:=Lib.hid hi;cases gk with
       |zero =>
        have hlt:¬(i:Int)<(L.length:Int):=by omega
        have hres:bM n p k=some (best,k2):=by have:=HE.out;rw[List.drop_of_length_le (by omega)]at this;exact this.symm
        have HRES:=Lib.hid hres;clear hres;go_wp2_with fail;go_ret;unfold gz;rw[HRES.out];dsimp only;exact⟨rfl,hL5.out.trans hLr.out⟩
       |succ kx=>exfalso;omega
    |false =>
     have hbt:qa p=ev:=by unfold qa;rw[bv,Bool.false_and,cond_false,HEV.out]
     have HBT:=Lib.hid hbt;clear hbt;go_wp2_with fail;go_loopg [8,56] (L.length) (fun kx s8 Nd wr=>∃(i:Nat) (best k2:Int),s8=.int .i64 best∧Nd=.int .i64 i∧kx+i=L.length∧0≤k2∧k2≤200000∧Hid (fx w5 c ty k2 wr)∧Hid ((L.drop i).foldl (fZ (bM n') p) (some (best,k2))=bM n p k));case atStart=>exact⟨0,_,k+1,rfl,rfl,by omega,by omega,by omega,fx.refl hL5.out.cell,by show _=_;rw[HLK.out,HBT.out];rfl⟩
     case round =>
      obtain⟨i,best,k2,rfl,rfl,hi,hk20,hk21,hLr,HE⟩:=hrel;have HI:=Lib.hid hi;cases gk with
      |zero =>
       have hlt:¬(i:Int)<(L.length:Int):=by omega
       have hres:bM n p k=some (best,k2):=by have:=HE.out;rw[List.drop_of_length_le (by omega)]at this;exact this.symm
       have HRES:=Lib.hid hres;clear hres;go_wp2_with fail;go_ret;unfold gz;rw[HRES.out];dsimp only;exact⟨rfl,hL5.out.trans hLr.out⟩
      |succ kx =>
       have hlt:(i:Int)<(L.length:Int):=by omega
       have hil:i<L.length:=by omega
       have hiw:wrap64 ((i:Int)+1)=(i:Int)+1:=by have:=HLB.out;unfold wrap64;omega
       obtain⟨m,hm⟩:∃m,m=L[i]:=⟨_,rfl⟩;have hdrop:L.drop i=m::L.drop (i+1):=by rw[hm];exact List.drop_eq_getElem_cons hil
       have hE2:(L.drop (i+1)).foldl (fZ (bM n') p) (fZ (bM n') p (some (best,k2)) m)=bM n p k:=by have:=HE.out;rw[hdrop,List.foldl_cons]at this;exact this
       have HE2:=Lib.hid hE2;obtain⟨mc,hmc⟩:∃mc,mc=(bQ m).toArray:=⟨_,rfl⟩;have hml:mc.toList.length=s944:=by rw[hmc];exact H944.out.symm
       have hne2:L≠[]:=fun e=>by rw[e]at hil;simp at hil
       obtain⟨c',o',ha5,hcc,hcs5,hat⟩:=hR5.out.resolve_left hne2;have he:Sem.run Tryz.prog (loadCellsFrom ⟨c',o'+i*s944,none⟩ 0 s944 #[]) wr=.ok mc wr:=by
        have h:=run_loadCellsFrom_list Tryz.prog wr ⟨c',o'+i*s944,none⟩ mc.toList s944 hml (fun j v hj=>by
         have hj5:j<5:=by have:=(C'.1 hj).1;rw[hml,H944.out]at this;exact this
         have h2:=hat (i*5+j) v (by
          rw[eE L i j hil hj5]
          have eb:L[i]! = L[i]:=by simp[hil]
          rw[eb,←hm]
          rw[hmc]at hj
          exact hj)
         rw[Addr.add_lit,cd (hLr.out.other c' hcs5 hcc),H944.out,Nat.add_assoc]
         exact h2)
        simpa using h
       subst ha5;have hBr:Hid (wr.heap[w.heap.size]?=some (.cells pcs 31 (0,0))):=(hLr.out.other _ (aB hB5.out) (by have:=HCW.out;omega)).trans hB5.out;have hgrc:c<wr.heap.size:=aB hLr.out.cell
       have hst44:=run_storeCells_cells (P:=Tryz.prog) wr.heap.size 0 mc.toList 0 (wr.alloc (Obj.cells zs44 47)) (fun j hj=>by
        rw[aw (heap_alloc_new wr _)]
        rw[hml]at hj
        rw[Array.getElem?_eq_getElem (by rw[HZ44.out];omega)]
        rfl) (fun j hj=>bP (heap_alloc_new wr _)) (by rw[hmc];exact pY m)
       have hin:=World.cell?_setCells_in wr.heap.size mc.toList 0 (wr.alloc (Obj.cells zs44 47)) (fun j hj=>by
        rw[aw (heap_alloc_new wr _)]
        rw[hml]at hj
        rw[Array.getElem?_eq_getElem (by rw[HZ44.out];omega)]
        rfl)
       have hmsz:mc.size=s944:=by simpa using hml
       have lm:Sem.run Tryz.prog (loadCellsFrom { block:=wr.heap.size,off:=0,spot:=none } 0 s944 #[]) ((wr.alloc (Obj.cells zs44 47)).setCells wr.heap.size 0 mc.toList)=.ok mc ((wr.alloc (Obj.cells zs44 47)).setCells wr.heap.size 0 mc.toList):=by
        have h:=run_loadCellsFrom_list Tryz.prog ((wr.alloc (Obj.cells zs44 47)).setCells wr.heap.size 0 mc.toList) ⟨wr.heap.size,0,none⟩ mc.toList s944 hml (fun j v hj=>by
         have hlt:=(C'.1 hj).1
         have h2:=hin j hlt
         rw[Addr.add_lit,h2]
         rw[I' hlt]at hj
         exact hj)
        simpa using h
       have hb3:RowKit.Below wr.heap.size wr ((wr.alloc (Obj.cells zs44 47)).setCells wr.heap.size 0 mc.toList):=by
        have e:∀(vs:List Value) (o:Nat) (W:World),RowKit.Below wr.heap.size wr W→RowKit.Below wr.heap.size wr (W.setCells wr.heap.size o vs):=by
         intro vs;induction vs with
         |nil=>intro o W h;exact h
         |cons v vs ih=>intro o W h;exact ih _ _ (h.setCell (Nat.le_refl _) v)
        exact e _ _ _ ((Below.refl _ wr).alloc (Nat.le_refl _) _)
       have hLx:Hid (fx w5 c ty k2 ((wr.alloc (Obj.cells zs44 47)).setCells wr.heap.size 0 mc.toList)):=hLr.out.below hb3;have hBx:Hid (((wr.alloc (Obj.cells zs44 47)).setCells wr.heap.size 0 mc.toList).heap[w.heap.size]?=some (.cells pcs 31 (0,0))):=(hb3.block _ (aB hBr.out)).trans hBr.out;have lx:=LD.out _ hBx;have hcall:=HGS.out p hp m k2 hk20 hk21 c ty _ (HGL.out (hL5.out.trans hLx.out)) hLx.out.cell pcs (b8 hpc);rw[←hmc,←HN1.out]at hcall;have HCALL:=Lib.hid hcall;have HAT:=Lib.hid hat;clear hcall hE2 hdrop hm hmc hml hin hb3 hat hcs5 HE hBr hgrc;go_wp2_with fail;refine HCALL.out.mono ?_;intro e w7 hP;unfold gz vW at hP;cases hr:bM n' (du p m).1 k2 with
       |none =>
        rw[hr]at hP;obtain⟨rfl,hL7⟩:=hP;have hres:bM n p k=none:=by have this:=HE2.out;rw[ql hr,jX]at this;exact this.symm
        have HRES:=Lib.hid hres;have HL7:=Lib.hid hL7;clear hres hL7 he hst44 lm lx;go_wp2_with fail;refine⟨rfl,?_⟩;unfold gz;rw[HRES.out];exact⟨rfl,(hL5.out.trans hLx.out).trans HL7.out⟩
       |some x =>
        rw[hr]at hP;obtain⟨rfl,hL7⟩:=hP;obtain⟨x1,x2⟩:=x;have hkk:=AM n' _ _ _ hr;have HKK:Hid (k2<x2∧x2≤200000):=hkk;have hE3:(L.drop (i+1)).foldl (fZ (bM n') p) (some (max best (iu x1),x2))=bM n p k:=by have:=HE2.out;rw[pH hr]at this;exact this
        dsimp only at hL7 hkk⊢;obtain⟨g1,hg1⟩:∃g1,g1=iu x1:=⟨_,rfl⟩;rw[←hg1]at hE3⊢;have HE3:=Lib.hid hE3;have HL7:=Lib.hid hL7;clear hE3 hL7 he hst44 lm lx hg1;go_wp2_with fail;go_roundg kx;case measure=>omega
        case rel=>exact⟨i+1,max best g1,x2,rfl,by go_num,by have:=HI.out;omega,by have:=HKK.out;omega,HKK.out.2,hLx.out.trans HL7.out,HE3.out⟩
  ·have hs0:(st==0)=false:=beq_eq_false_iff_ne.2 s0;have hlook:bM n p k=some (nO p,k+1):=by
    have hb:((jo p).1 != 0)=true:=by rw[hst];show(!(st==0))=true;rw[hs0];rfl
    cases n<;>(unfold bM;rw[if_neg (by omega),hb];rfl)
   have HLK:=Lib.hid hlook;clear hlook;by_cases s3:st=3
   ·have hend:nO p=0:=by unfold nO;rw[hst,s3];rfl
    have HE:=Lib.hid hend;clear hend;subst s3;go_wp2_with fail;go_ret;unfold gz;rw[HLK.out,HE.out];exact⟨rfl,hL3a.out⟩
   ·have hs3:(st==3)=false:=beq_eq_false_iff_ne.2 s3;obtain⟨tw,htw⟩:∃tw,tw=wr .u8 (1+p.aa):=⟨_,rfl⟩;by_cases s1:st=tw
    ·have hend:nO p=30000:=by unfold nO;rw[hst];dsimp only;rw[hs3,←htw,s1];simp
     have HE:=Lib.hid hend;have hww:IntKind.u8.wrap (1+p.aa)=st:=by rw[s1,htw];rfl
     clear hend htw s1;go_wp2_with fail;go_ret;unfold gz;rw[HLK.out,HE.out];exact⟨rfl,hL3a.out⟩
    ·have hend:nO p = -30000:=by unfold nO;rw[hst];dsimp only;rw[hs3,←htw,beq_eq_false_iff_ne.2 s1];rfl
     have HE:=Lib.hid hend;have hww:IntKind.u8.wrap (1+p.aa)=tw:=by rw[htw];rfl
     have hs1:(st==tw)=false:=beq_eq_false_iff_ne.2 s1;clear hend htw;go_wp2_with fail;go_ret;unfold gz;rw[HLK.out,HE.out];exact⟨rfl,hL3a.out⟩
end Go.Proofs
namespace Kz
open Go Go.RowKit Go.Proofs
def agB:KT:=[(255,22,[(0,[0,1]),(1,[0,1,11]),(2,[4]),(3,[0,1,5]),(4,[0,1,5,14]),(5,[0,1,5]),(6,[0,1,5]),(7,[4])])]
def Yt:ar:=bO Pz agB [] [] []
theorem TE:aP Yt:=ae af trivial trivial trivial
def NX (p1:Int)(x:((BitVec 64)×Int)):St:=St.mk (.u64 x.1::.int .i64 p1::(an 3 (.int .i64 x.2::(an 16 [])))) (Hp.mk [] [] [] 0 0 0)
def KJ (p1:Int):((BitVec 64)×Int×Bool)→Out:=fun y=>.exit 0 (St.mk (.u64 y.1::.int .i64 p1::(an 3 (.int .i64 y.2.1::(an 8 (.bool y.2.2::(an 7 [])))))) (Hp.mk [] [] [] 0 0 0))
def R3 (p1:Int)(x:((BitVec 64)×Int)):aG ((BitVec 64)×Int) (((BitVec 64)×Int×Bool)):=(bif decide (x.2<p1)then(aG.go (x.1 / 2#64,wr .i64 (x.2+1)))else(aG.out ((x.1,x.2,decide (x.2<p1)))))
def Ni (p1:Int)(x:((BitVec 64)×Int)):Bool:=(bif decide (x.2<p1)then(!2#64==0#64&&true)else true)
def pM (p1:Int)(x:((BitVec 64)×Int)):Option (((BitVec 64)×Int×Bool)):=cW (fun x=>bif Ni p1 x then R3 p1 x else .bad) many x
abbrev Kl {α:Type}(k:Int→((BitVec 64)×Int)→α)(s:St):α:=k (tI (tT s 1)) ((tU (tT s 0)),(tI (tT s 5)))
theorem Za (p1:Int)(x:((BitVec 64)×Int))(r:((BitVec 64)×Int×Bool))(h:pM p1 x=some r):aC Pz (bc Pz 255 4) (NX p1 x) (KJ p1 r):=smq (m:=12) (fn:=255) TE (Kl fun _ x=>some x) (fun o=>match o with | .exit 0 s=>some ((tU (tT s 0)),(tI (tT s 5)),(tB (tT s 14)))|_=>none) many x r h
def MV (b:Code)(s:St):Tr Out:=Kl (fun p1 x=>jU b (bc Pz 255 4) s (NX p1 x) (pM p1 x) (KJ p1)) s
theorem S8:∀b,aT Pz b (MV b):=fun _ _ _ h=>bF (Za _ _) h
def an2:ar:=bO Pz agB [] [(255,4,MV)] []
theorem ag3:aP an2:=ae af trivial ⟨S8,trivial⟩ trivial
def Dp (a:BitVec 64)(b:Int):Bool:=(bif decide (b<0)then(false)else(bif decide (b>63)then(false)else(((pM b (a,0)).getD default).1%2#64==1#64)))
def yB (a:BitVec 64)(b:Int):Bool:=(bif decide (b<0)then true else(bif decide (b>63)then true else((pM b (a,0)).isSome&&(!2#64==0#64&&true))))
theorem am2 (a:BitVec 64)(b:Int)(h:yB a b=true):PS Pz 255 [.u64 a,.int .i64 b] (dB.res (Dp a b)):=pq14 ag3 h
def Sq:GT:=g2 dU (dI .i64) (fun a b=>b7 (yB a b) (dB.res (Dp a b)))
theorem ab1:Sound Pz 255 Sq:=aO fun a b=>aA (am2 a b)
def acS:KT:=[(222,17,[(0,[0]),(1,[0,3]),(2,[0,3,4]),(3,[0,3,4,6]),(4,[0,3,4]),(5,[0,3,4,11]),(6,[0,3,4]),(7,[2])])]
def abI:ar:=bO Pz acS [(255,Sq)] [] []
theorem Ua:aP abI:=ae af ⟨ab1,trivial⟩ trivial trivial
def M5 (p1:(BitVec 64))(p2:Nat)(x:(Z'×Int)):St:=St.mk (.u64 p1::.any::.any::.list (ET.i .i64) x.1 (.own 1)::.int .i64 x.2::(an 12 [])) (Hp.mk [] [p2,x.1.length] [] 0 0 0)
def LN (p1:(BitVec 64))(p2:Nat):(Z'×Int×Bool)→Out:=fun y=>.exit 0 (St.mk (.u64 p1::.any::.any::.list (ET.i .i64) y.1 (.own 1)::.int .i64 y.2.1::.any::.bool y.2.2::(an 10 [])) (Hp.mk [] [p2,y.1.length] [] 0 0 0))
def Hv (p1:(BitVec 64))(p2:Nat)(x:(Z'×Int)):aG (Z'×Int) ((Z'×Int×Bool)):=(bif decide (x.2<64)then(bif Dp p1 x.2 then(aG.go (x.1++[x.2],wr .i64 (x.2+1)))else(aG.go (x.1,wr .i64 (x.2+1))))else(aG.out ((x.1,x.2,decide (x.2<64)))))
def Ci (p1:(BitVec 64))(p2:Nat)(x:(Z'×Int)):Bool:=(bif decide (x.2<64)then(yB p1 x.2&&(bif Dp p1 x.2 then(x.1.length==x.1.length&&decide (x.1.length+1≤1073741824)&&true)else true))else true)
def pw (p1:(BitVec 64))(p2:Nat)(x:(Z'×Int)):Option ((Z'×Int×Bool)):=cW (fun x=>bif Ci p1 p2 x then Hv p1 p2 x else .bad) many x
abbrev Ph {α:Type}(k:(BitVec 64)→Nat→(Z'×Int)→α)(s:St):α:=k (tU (tT s 0)) (tK s 0) ((tL (ET.i .i64) (tT s 3)),(tI (tT s 4)))
theorem X9 (p1:(BitVec 64))(p2:Nat)(x:(Z'×Int))(r:(Z'×Int×Bool))(h:pw p1 p2 x=some r):aC Pz (bc Pz 222 3) (M5 p1 p2 x) (LN p1 p2 r):=smq (m:=12) (fn:=222) Ua (Ph fun _ _ x=>some x) (fun o=>match o with | .exit 0 s=>some ((tL (ET.i .i64) (tT s 3)),(tI (tT s 4)),(tB (tT s 6)))|_=>none) many x r h
def LI (b:Code)(s:St):Tr Out:=Ph (fun p1 p2 x=>jU b (bc Pz 222 3) s (M5 p1 p2 x) (pw p1 p2 x) (LN p1 p2)) s
theorem Tj:∀b,aT Pz b (LI b):=fun _ _ _ h=>bF (X9 _ _ _) h
def arx:ar:=bO Pz acS [(255,Sq)] [(222,3,LI)] []
theorem ae3:aP arx:=ae af ⟨ab1,trivial⟩ ⟨Tj,trivial⟩ trivial
def BW (a:BitVec 64):List Int:=(((pw a 0 ([],0)).getD default).1)
def CS (a:BitVec 64):Bool:=((pw a 0 ([],0)).isSome&&true)
theorem ak4 (a:BitVec 64)(h:CS a=true):PS Pz 222 [.u64 a] ((dL (.i .i64)).res (BW a)):=pq14 ae3 h
def agb:GT:=g1 dU (fun a=>b7 (CS a) ((dL (.i .i64)).res (BW a)))
theorem asx:Sound Pz 222 agb:=aH fun a=>aA (ak4 a)
def aqA:KT:=[(219,11,[(0,[0]),(1,[4]),(2,[2])]),(220,25,[(0,[0,2]),(1,[0,2,4]),(2,[0,2,4,5]),(3,[0,2,4,5,10]),(4,[0,2,4,5]),(5,[0,2,4,5,19]),(6,[2,3]),(7,[2,3])]),(252,14,[(0,[]),(1,[0])])]
def apQ:ar:=bO Pz aqA [] [] []
theorem aiK:aP apQ:=ae af trivial trivial trivial
def qW (a:Int):Bool:=(bif 1==a then(true)else(bif 2==a then(true)else(bif 3==a then(true)else(bif 4==a then(true)else(bif 5==a then(true)else(bif 6==a then(true)else(bif 9==a then(true)else(bif 10==a then(true)else(bif 11==a then(true)else(bif 12==a then(true)else(bif 13==a then(true)else(bif 14==a then(true)else(false)))))))))))))
def Wl (a:Int):Bool:=true
theorem amg (a:Int)(h:Wl a=true):PS Pz 219 [.int .u8 a] (dB.res (qW a)):=pq14 aiK h
def agJ:GT:=g1 (dI .u8) (fun a=>.ret (dB.res (qW a)))
theorem aro:Sound Pz 219 agJ:=aH fun a=>bH (amg a rfl)
def atn:KT:=[(163,23,[(0,[1,2]),(1,[1,2,18]),(2,[4]),(3,[4])])]
def asF:ar:=bO Pz atn [(219,agJ)] [] []
theorem af6:aP asF:=ae af ⟨aro,trivial⟩ trivial trivial
def b9 (a:Pos)(b:Int):Int:=(bif decide (b<0)then(0)else(bif decide (b>63)then(0)else(bif !qW (a.ab.getD (scale 1 b).toNat 0)then(0)else(a.ab.getD (scale 1 b).toNat 0))))
def yG (a:Pos)(b:Int):Bool:=(bif decide (b<0)then true else(bif decide (b>63)then true else(decide (0≤b)&&decide (b<Int.ofNat 64)&&(Wl (a.ab.getD (scale 1 b).toNat 0)&&(bif !qW (a.ab.getD (scale 1 b).toNat 0)then true else(decide (0≤b)&&decide (b<Int.ofNat 64)&&true))))))
theorem arY (a:Pos)(b:Int)(h:yG a b=true):PS Pz 163 [Pos.av a,.int .i64 b] ((dI .u8).res (b9 a b)):=pq14 af6 h
def JK:GT:=g2 aZ (dI .i64) (fun a b=>b7 (yG a b) ((dI .u8).res (b9 a b)))
theorem PM:Sound Pz 163 JK:=aO fun a b=>aA (arY a b)
def ar8:KT:=[(220,25,[(0,[0,2]),(1,[0,2,4]),(2,[0,2,4,5]),(3,[0,2,4,5,10]),(4,[0,2,4,5]),(5,[0,2,4,5,19]),(6,[2,3]),(7,[2,3])]),(252,14,[(0,[]),(1,[0])]),(164,12,[(0,[0]),(1,[3]),(2,[2])])]
def aq7:ar:=bO Pz ar8 [] [] []
theorem aho:aP aq7:=ae af trivial trivial trivial
def uG (a:Int):Int:=(bif 1==a then(0)else(bif 2==a then(0)else(bif 3==a then(0)else(bif 4==a then(0)else(bif 5==a then(0)else(bif 6==a then(0)else(bif 9==a then(1)else(bif 10==a then(1)else(bif 11==a then(1)else(bif 12==a then(1)else(bif 13==a then(1)else(bif 14==a then(1)else(2)))))))))))))
def W7 (a:Int):Bool:=true
theorem aob (a:Int)(h:W7 a=true):PS Pz 164 [.int .u8 a] ((dI .u8).res (uG a)):=pq14 aho h
def IY:GT:=g1 (dI .u8) (fun a=>.ret ((dI .u8).res (uG a)))
theorem Pr:Sound Pz 164 IY:=aH fun a=>bH (aob a rfl)
def asJ:KT:=[(220,25,[(0,[0,2]),(1,[0,2,4]),(2,[0,2,4,5]),(3,[0,2,4,5,10]),(4,[0,2,4,5]),(5,[0,2,4,5,19]),(6,[2,3]),(7,[2,3])]),(252,14,[(0,[]),(1,[0])]),(165,12,[(0,[0]),(1,[3]),(2,[2])])]
def asa:ar:=bO Pz asJ [] [] []
theorem ajV:aP asa:=ae af trivial trivial trivial
def bY (a:Int):Int:=(bif 1==a then(1)else(bif 2==a then(2)else(bif 3==a then(3)else(bif 4==a then(4)else(bif 5==a then(5)else(bif 6==a then(6)else(bif 9==a then(1)else(bif 10==a then(2)else(bif 11==a then(3)else(bif 12==a then(4)else(bif 13==a then(5)else(bif 14==a then(6)else(0)))))))))))))
def Wi (a:Int):Bool:=true
theorem as9 (a:Int)(h:Wi a=true):PS Pz 165 [.int .u8 a] ((dI .u8).res (bY a)):=pq14 ajV h
def JY:GT:=g1 (dI .u8) (fun a=>.ret ((dI .u8).res (bY a)))
theorem PT:Sound Pz 165 JY:=aH fun a=>bH (as9 a rfl)
def ahA:KT:=[(272,19,[(0,[0]),(1,[0,10]),(2,[2]),(3,[0,3]),(4,[0,3,4]),(5,[0,3,4,13]),(6,[0,3,4]),(7,[0,3,4]),(8,[2])])]
def abU:ar:=bO Pz ahA [] [] []
theorem Td:aP abU:=ae af trivial trivial trivial
def Mi (p1:Int)(x:((BitVec 64)×Int)):St:=St.mk (.int .i64 p1::.any::.any::.u64 x.1::.int .i64 x.2::(an 14 [])) (Hp.mk [] [] [] 0 0 0)
def Ox (p1:Int):((BitVec 64)×Int×Bool)→Out:=fun y=>.exit 0 (St.mk (.int .i64 p1::.any::.any::.u64 y.1::.int .i64 y.2.1::(an 8 (.bool y.2.2::(an 5 [])))) (Hp.mk [] [] [] 0 0 0))
def Ug (p1:Int)(x:((BitVec 64)×Int)):aG ((BitVec 64)×Int) (((BitVec 64)×Int×Bool)):=(bif decide (x.2<p1)then(aG.go (x.1*2#64,wr .i64 (x.2+1)))else(aG.out ((x.1,x.2,decide (x.2<p1)))))
def PW (p1:Int)(x:((BitVec 64)×Int)):Bool:=true
def o7 (p1:Int)(x:((BitVec 64)×Int)):Option (((BitVec 64)×Int×Bool)):=cW (fun x=>bif PW p1 x then Ug p1 x else .bad) many x
abbrev OL {α:Type}(k:Int→((BitVec 64)×Int)→α)(s:St):α:=k (tI (tT s 0)) ((tU (tT s 3)),(tI (tT s 4)))
theorem ZA (p1:Int)(x:((BitVec 64)×Int))(r:((BitVec 64)×Int×Bool))(h:o7 p1 x=some r):aC Pz (bc Pz 272 5) (Mi p1 x) (Ox p1 r):=smq (m:=12) (fn:=272) Td (OL fun _ x=>some x) (fun o=>match o with | .exit 0 s=>some ((tU (tT s 3)),(tI (tT s 4)),(tB (tT s 13)))|_=>none) many x r h
def PF (b:Code)(s:St):Tr Out:=OL (fun p1 x=>jU b (bc Pz 272 5) s (Mi p1 x) (o7 p1 x) (Ox p1)) s
theorem SJ:∀b,aT Pz b (PF b):=fun _ _ _ h=>bF (ZA _ _) h
def aum:ar:=bO Pz ahA [] [(272,5,PF)] []
theorem ah0:aP aum:=ae af trivial ⟨SJ,trivial⟩ trivial
def Ku (a:Int):BitVec 64:=(bif decide (a<0)then(0#64)else(bif decide (a>63)then(0#64)else(((o7 a (1#64,0)).getD default).1)))
def Dv (a:Int):Bool:=(bif decide (a<0)then true else(bif decide (a>63)then true else((o7 a (1#64,0)).isSome&&true)))
theorem aty (a:Int)(h:Dv a=true):PS Pz 272 [.int .i64 a] (dU.res (Ku a)):=pq14 ah0 h
def ajH:GT:=g1 (dI .i64) (fun a=>b7 (Dv a) (dU.res (Ku a)))
theorem aqL:Sound Pz 272 ajH:=aH fun a=>aA (aty a)
def ani:KT:=[(256,13,[(0,[0,1]),(1,[0,1,7]),(2,[4]),(3,[4])])]
def aoP:ar:=bO Pz ani [(255,Sq),(272,ajH)] [] []
theorem aiz:aP aoP:=ae af ⟨ab1,aqL,trivial⟩ trivial trivial
def EA (a:BitVec 64)(b:Int):BitVec 64:=(bif Dp a b then(a)else(a+Ku b))
def ym (a:BitVec 64)(b:Int):Bool:=(yB a b&&(bif Dp a b then true else(Dv b&&true)))
theorem ar0 (a:BitVec 64)(b:Int)(h:ym a b=true):PS Pz 256 [.u64 a,.int .i64 b] (dU.res (EA a b)):=pq14 aiz h
def ZG:GT:=g2 dU (dI .i64) (fun a b=>b7 (ym a b) (dU.res (EA a b)))
theorem aeb:Sound Pz 256 ZG:=aO fun a b=>aA (ar0 a b)
def ajL:KT:=[(223,39,[(0,[1,2,3]),(1,[1,2,3,7]),(2,[1,2,3,7,8]),(3,[1,2,3,7,8,11]),(4,[1,2,3,7,8]),(5,[1,2,3,7,8,9]),(6,[1,2,3,7,8,34]),(7,[1,2,3,7,8]),(8,[6])])]
def ZK:ar:=bO Pz ajL [(163,JK),(164,IY),(165,JY),(256,ZG)] [] []
theorem Rl:aP ZK:=ae af ⟨PM,Pr,PT,aeb,trivial⟩ trivial trivial
def Of (p1:Int)(p2:Int)(p3:Pos)(x:((BitVec 64)×Int)):St:=St.mk (.any::.int .u8 p1::.int .u8 p2::.ptr 0 0::(an 3 (.u64 x.1::.int .i64 x.2::(an 30 [])))) (Hp.mk [(pc p3 [])] [] [] 0 0 0)
def LS (p1:Int)(p2:Int)(p3:Pos):((BitVec 64)×Int×Bool)→Out:=fun y=>.exit 0 (St.mk (.any::.int .u8 p1::.int .u8 p2::.ptr 0 0::(an 3 (.u64 y.1::.int .i64 y.2.1::.any::.any::.bool y.2.2::(an 27 [])))) (Hp.mk [(pc p3 [])] [] [] 0 0 0))
def H4 (p1:Int)(p2:Int)(p3:Pos)(x:((BitVec 64)×Int)):aG ((BitVec 64)×Int) (((BitVec 64)×Int×Bool)):=(bif decide (x.2<64)then(bif b9 p3 x.2 != 0 then(bif uG (b9 p3 x.2)==p1 then(bif p2==0 then(aG.go (EA x.1 x.2,wr .i64 (x.2+1)))else(bif bY (b9 p3 x.2)==p2 then(aG.go (EA x.1 x.2,wr .i64 (x.2+1)))else(aG.go (x.1,wr .i64 (x.2+1)))))else(aG.go (x.1,wr .i64 (x.2+1))))else(aG.go (x.1,wr .i64 (x.2+1))))else(aG.out ((x.1,x.2,decide (x.2<64)))))
def CL (p1:Int)(p2:Int)(p3:Pos)(x:((BitVec 64)×Int)):Bool:=(bif decide (x.2<64)then(yG p3 x.2&&(bif b9 p3 x.2 != 0 then(W7 (b9 p3 x.2)&&(bif uG (b9 p3 x.2)==p1 then(bif p2==0 then(ym x.1 x.2&&true)else(Wi (b9 p3 x.2)&&(bif bY (b9 p3 x.2)==p2 then(ym x.1 x.2&&true)else true)))else true))else true))else true)
def qu (p1:Int)(p2:Int)(p3:Pos)(x:((BitVec 64)×Int)):Option (((BitVec 64)×Int×Bool)):=cW (fun x=>bif CL p1 p2 p3 x then H4 p1 p2 p3 x else .bad) many x
abbrev Q7 {α:Type}(k:Int→Int→Pos→((BitVec 64)×Int)→α)(s:St):α:=wP s 0 fun q0=>k (tI (tT s 1)) (tI (tT s 2)) q0 ((tU (tT s 7)),(tI (tT s 8)))
theorem YG (p1:Int)(p2:Int)(p3:Pos)(x:((BitVec 64)×Int))(r:((BitVec 64)×Int×Bool))(h:qu p1 p2 p3 x=some r):aC Pz (bc Pz 223 3) (Of p1 p2 p3 x) (LS p1 p2 p3 r):=smq (m:=12) (fn:=223) Rl (Q7 fun _ _ _ x=>some x) (fun o=>match o with | .exit 0 s=>some ((tU (tT s 7)),(tI (tT s 8)),(tB (tT s 11)))|_=>none) many x r h
def KK (b:Code)(s:St):Tr Out:=Q7 (fun p1 p2 p3 x=>jU b (bc Pz 223 3) s (Of p1 p2 p3 x) (qu p1 p2 p3 x) (LS p1 p2 p3)) s
theorem Uf:∀b,aT Pz b (KK b):=fun _ _ _ h=>bF (YG _ _ _ _) h
def aq3:ar:=bO Pz ajL [(163,JK),(164,IY),(165,JY),(256,ZG)] [(223,3,KK)] []
theorem ajw:aP aq3:=ae af ⟨PM,Pr,PT,aeb,trivial⟩ ⟨Uf,trivial⟩ trivial
def B3 (a:Pos)(b:Int)(c:Int):BitVec 64:=(((qu b c a (0#64,0)).getD default).1)
def C7 (a:Pos)(b:Int)(c:Int):Bool:=((qu b c a (0#64,0)).isSome&&true)
theorem arq (a:Pos)(b:Int)(c:Int)(h:C7 a b c=true):PS Pz 223 [Pos.av a,.int .u8 b,.int .u8 c] (dU.res (B3 a b c)):=pq14 ajw h
def ajd:GT:=g3 aZ (dI .u8) (dI .u8) (fun a b c=>b7 (C7 a b c) (dU.res (B3 a b c)))
theorem apC:Sound Pz 223 ajd:=db fun a b c=>aA (arq a b c)
def atD:KT:=[(169,19,[(0,[1,2,3]),(1,[7]),(2,[7,15]),(3,[6]),(4,[6])])]
def aql:ar:=bO Pz atD [(222,agb),(223,ajd)] [] []
theorem agl:aP aql:=ae af ⟨asx,apC,trivial⟩ trivial trivial
def sY (a:Pos)(b:Int)(c:Int):Int:=(bif Int.ofNat (BW (B3 a b c)).length==0 then(-1)else((BW (B3 a b c)).getD 0 default))
def BZ (a:Pos)(b:Int)(c:Int):Bool:=(C7 a b c&&(CS (B3 a b c)&&(bif Int.ofNat (BW (B3 a b c)).length==0 then true else(decide (0≤0)&&decide (0<Int.ofNat (BW (B3 a b c)).length)&&true))))
theorem atw (a:Pos)(b:Int)(c:Int)(h:BZ a b c=true):PS Pz 169 [Pos.av a,.int .u8 b,.int .u8 c] ((dI .i64).res (sY a b c)):=pq14 agl h
def SL:GT:=g3 aZ (dI .u8) (dI .u8) (fun a b c=>b7 (BZ a b c) ((dI .i64).res (sY a b c)))
theorem abj:Sound Pz 169 SL:=db fun a b c=>aA (atw a b c)
variable {p:Pos}
theorem Ut (x:BitVec 64):x / 2#64=x >>> 1:=by apply BitVec.eq_of_toNat_eq;rw[BitVec.toNat_udiv,BitVec.toNat_ushiftRight,Nat.shiftRight_eq_div_pow];rfl
theorem ae9 (x:BitVec 64){s:Nat}(hs:s<64):∃r,pM s (x,0)=some r∧r.1=x >>> s:=by
 refine aQ (I:=fun y=>0≤y.2∧y.2≤(s:Int)∧y.1=x >>> y.2.toNat) (Q:=fun r:BitVec 64×Int×Bool=>r.1=x >>> s) (μ:=fun y=>((s:Int)-y.2).toNat) ?_ _ (by simp_all) (by simp;omega);rintro⟨y,n⟩ ⟨h0,h1,hx⟩;simp only at h0 h1 hx;by_cases h:n<s
 ·refine⟨aq (fun _=>rfl) fun _=>rfl,al (fun _=>?_) fun h2=>absurd h (by simpa using h2)⟩;rw[aF (by omega) (by omega)];refine⟨⟨by dsimp only;omega,by dsimp only;omega,?_⟩,by dsimp only;omega⟩;show y / 2#64=_;rw[Ut,hx,show(n+1).toNat=n.toNat+1 by omega,BitVec.shiftRight_add]
 ·refine⟨aq (fun _=>rfl) fun _=>rfl,al (fun h2=>absurd (by simpa using h2) h) fun _=>?_⟩;show y=_;grind
theorem GZ (x:BitVec 64){s:Nat}(hs:s<64):yB x s=true∧Dp x s=x.getLsbD s:=by
 obtain⟨h1,h2⟩:=aJ (ae9 x hs);have a1:decide ((s:Int)<0)=false:=by simp_all
 have a2:decide ((s:Int)>63)=false:=by grind
 unfold yB Dp;rw[a1,a2,h1,h2];refine⟨rfl,?_⟩;simp only[cond_false];have e:(x >>> s%2#64==1#64)=(x >>> s).getLsbD 0:=by
  have h:(x >>> s%2#64).toNat=(x >>> s).toNat%2:=by rw[BitVec.toNat_umod];rfl
  have k:((x >>> s%2#64)=1#64) ↔ (x >>> s).toNat%2=1:=by rw[←h];exact⟨fun e=>by rw[e];rfl,fun e=>BitVec.eq_of_toNat_eq (by rw[e];rfl)⟩
  rw[BitVec.getLsbD,Nat.testBit_zero];by_cases hk:(x >>> s).toNat%2=1
  ·simp_all
  ·simp_all
 rw[e];simp
theorem ahe {s:Nat}(hs:s<64):∃r,o7 s (1#64,0)=some r∧r.1=1#64 <<< s:=by
 refine aQ (I:=fun y=>0≤y.2∧y.2≤(s:Int)∧y.1=1#64 <<< y.2.toNat) (Q:=fun r:BitVec 64×Int×Bool=>r.1=1#64 <<< s) (μ:=fun y=>((s:Int)-y.2).toNat) ?_ _ (by simp_all) (by simp;omega);rintro⟨y,n⟩ ⟨h0,h1,hx⟩;simp only at h0 h1 hx;by_cases h:n<s
 ·refine⟨rfl,al (fun _=>?_) (by simp_all)⟩;rw[aF (by omega) (by omega)];refine⟨⟨by dsimp only;omega,by dsimp only;omega,?_⟩,by dsimp only;omega⟩;show y*2#64=_;rw[hx,show(n+1).toNat=n.toNat+1 by omega,BitVec.shiftLeft_add];apply BitVec.eq_of_toNat_eq;rw[BitVec.toNat_mul,BitVec.toNat_shiftLeft (x:=_ <<< _),Nat.shiftLeft_eq];rfl
 ·refine⟨rfl,al (by grind) fun _=>?_⟩;show y=_;grind
theorem Sv {s:Nat}(hs:s<64):Dv s=true∧Ku s=1#64 <<< s:=by
 obtain⟨h1,h2⟩:=aJ (ahe hs);have a1:decide ((s:Int)<0)=false:=by simp_all
 have a2:decide ((s:Int)>63)=false:=by grind
 unfold Dv Ku;grind
theorem Rr (x:BitVec 64){s:Nat}(hs:s<64):ym x s=true∧∀i,i<64→(EA x s).getLsbD i=(x.getLsbD i ||decide (i=s)):=by
 obtain⟨a,b⟩:=GZ x hs;obtain⟨c,d⟩:=Sv hs;unfold ym EA;rw[a,b,c,d];cases h:x.getLsbD s with
 |true =>simp_all
 |false =>refine⟨rfl,fun i hi=>?_⟩;rw[cond_false,BitVec.add_eq_or_of_and_eq_zero,BitVec.getLsbD_or,ng hi];grind
theorem ag4 (b:BitVec 64):∃r,pw b 0 ([],0)=some r∧r.1=gF b 64:=by
 refine aQ (I:=fun x=>0≤x.2∧x.2≤64∧x.1=gF b x.2.toNat) (Q:=fun r:List Int×Int×Bool=>r.1=gF b 64) (μ:=fun x=>(64-x.2).toNat) ?_ _ ⟨by simp,by simp,rfl⟩ (by simp);rintro⟨l,n⟩ ⟨h0,h1,hx⟩;simp only at h0 h1 hx;subst hx;have hl:=dC b n.toNat;by_cases h:n<64
 ·obtain⟨k1,k2⟩:=GZ b (s:=n.toNat) (by omega);rw[show((n.toNat:Nat):Int)=n by omega]at k1 k2;unfold Ci Hv;dsimp only;rw[k1,k2,decide_eq_true h,aF (by omega) (by omega),beq_self_eq_true,decide_eq_true (show(gF b n.toNat).length+1≤1073741824 by omega)];have e:gF b (n+1).toNat=gF b n.toNat++(bif b.getLsbD n.toNat then[n]else[]):=by rw[show(n+1).toNat=n.toNat+1 by omega];unfold gF;rw[List.range_succ,List.filter_append,List.map_append];cases hb:b.getLsbD n.toNat<;>simp[hb];omega
  cases hb:b.getLsbD n.toNat<;>rw[hb]at e
  ·exact⟨rfl,by grind,by dsimp only;omega⟩
  ·exact⟨rfl,by grind,by dsimp only;omega⟩
 ·refine⟨aq (fun h2=>absurd (by simpa using h2) h) fun _=>rfl,al (fun h2=>absurd (by simpa using h2) h) fun _=>?_⟩;show gF b n.toNat=_;grind
theorem TK (b:BitVec 64):CS b=true∧BW b=gF b 64:=by obtain⟨h1,h2⟩:=aJ (ag4 b);unfold CS BW;simp_all
def rOf (c k v:Int):Bool:=qW v&&(uG v==c&&bY v==k)
theorem afQ:∀(v:Fin 256) (c:Fin 2) (k:Fin 7),k.val≠0→rOf c.val k.val v.val=dv c.val k.val v.val:=by decide +kernel
theorem Wr {s:Nat}(hs:s<64):yG p s=true∧b9 p s=bif qW (p.ab.getD s 0)then p.ab.getD s 0 else 0:=by
 have a1:decide ((s:Int)<0)=false:=by simp_all
 have a2:decide ((s:Int)>63)=false:=by grind
 have a3:decide ((s:Int)<Int.ofNat 64)=true:=by grind
 have a4:(scale 1 (s:Int)).toNat=s:=by unfold scale;omega
 unfold yG b9;rw[a1,a2,a3,a4,decide_eq_true (show(0:Int)≤s by omega)];cases qW (p.ab.getD s 0)<;>exact⟨rfl,rfl⟩
theorem EK {v c k:Int}(h0:0≤v)(h1:v≤255)(hc:c=0∨c=1)(k1:1≤k)(k6:k≤6):rOf c k v=dv c k v:=by have:=afQ ⟨v.toNat,by omega⟩ ⟨c.toNat,by omega⟩ ⟨k.toNat,by omega⟩ (by grind);grind
theorem agG (hp:ax p){c k:Int}(hc:c=0∨c=1)(k1:1≤k)(k6:k≤6):∃r,qu c k p (0#64,0)=some r∧∀i:Nat,i<64→r.1.getLsbD i=dv c k (p.ab.getD i 0):=by
 refine aQ (I:=fun x=>0≤x.2∧x.2≤64∧∀i:Nat,i<64→x.1.getLsbD i=(decide ((i:Int)<x.2)&&dv c k (p.ab.getD i 0))) (Q:=fun r:BitVec 64×Int×Bool=>∀i:Nat,i<64→r.1.getLsbD i=dv c k (p.ab.getD i 0)) (μ:=fun x=>(64-x.2).toNat) ?_ _ (by grind) (by simp);rintro⟨x,n⟩ ⟨h0,h1,hx⟩;simp only at h0 h1 hx;by_cases h:n<64
 ·obtain⟨s,hs,rfl⟩:∃s:Nat,s<64∧n=s:=⟨n.toNat,by omega,by omega⟩;obtain⟨a1,a2⟩:=Wr (p:=p) hs;obtain⟨b1,b2⟩:=Rr x hs;have hv:0≤p.ab.getD s 0∧p.ab.getD s 0≤255:=dm hp.b0 (by omega) s;have hr:=EK (v:=p.ab.getD s 0) hv.1 hv.2 hc k1 k6;unfold rOf at hr;have hk0:(k==0)=false:=by grind
  have z:qW 0=false:=by decide +kernel
  have key:∀(b:Bool) (y:BitVec 64),dv c k (p.ab.getD s 0)=b→(y=bif b then EA x s else x)→xd (fun x:BitVec 64×Int=>0≤x.2∧x.2≤64∧∀i:Nat,i<64→x.1.getLsbD i=(decide ((i:Int)<x.2)&&dv c k (p.ab.getD i 0))) (fun r:BitVec 64×Int×Bool=>∀i:Nat,i<64→r.1.getLsbD i=dv c k (p.ab.getD i 0)) (fun x=>(64-x.2).toNat) (64-(s:Int)).toNat (.go (y,(s:Int)+1)):=by
   intro b y hb hy;refine⟨⟨by dsimp only;omega,by dsimp only;omega,fun i hi=>?_⟩,by dsimp only;omega⟩;dsimp only;have e:y.getLsbD i=(x.getLsbD i ||(decide (i=s)&&b)):=by
    rw[hy];cases b with
    |true=>simp_all
    |false=>simp
   rw[e,hx i hi,←hb];by_cases es:i=s
   ·grind
   ·grind
  unfold CL H4;dsimp only;rw[a1,a2,b1,decide_eq_true h,aF (by omega) (by omega),hk0];simp only[cond_true,cond_false,Bool.true_and];cases hz:qW (p.ab.getD s 0)with
  |false =>simp_all
  |true =>
   rw[hz]at hr;have nz:(p.ab.getD s 0 != 0)=true:=by grind
   simp only[cond_true,nz];refine⟨by cases (uG (p.ab.getD s 0)==c)<;>cases (bY (p.ab.getD s 0)==k)<;>rfl,?_⟩;grind
 ·refine⟨aq (fun h2=>absurd (by simpa using h2) h) fun _=>rfl,al (fun h2=>absurd (by simpa using h2) h) fun _=>fun i hi=>?_⟩;grind
theorem T6 (hp:ax p){c k:Int}(hc:c=0∨c=1)(k1:1≤k)(k6:k≤6):C7 p c k=true∧B3 p c k=aS p c k:=by obtain⟨h1,h2⟩:=aJ (agG hp hc k1 k6);unfold C7;rw[h1];refine⟨rfl,BitVec.eq_of_getLsbD_eq fun i hi=>?_⟩;rw[bL p c k hi];exact h2 i hi
theorem SG (hp:ax p){c k:Int}(hc:c=0∨c=1)(k1:1≤k)(k6:k≤6):BZ p c k=true∧sY p c k=bg p c k:=by
 obtain⟨a1,a2⟩:=T6 hp hc k1 k6;obtain⟨b1,b2⟩:=TK (aS p c k);unfold BZ sY;rw[a1,a2,b1,b2];rcases gO p c k with⟨e,h⟩|⟨j,hj,e,h1,h2⟩
 ·have:gF (aS p c k) 64=[]:=by rw[vr (k:=0) (by omega) fun i _ hi=>by rw[bL p c k hi];exact h i hi];rfl
  simp_all
 ·obtain⟨l,hl⟩:∃l,gF (aS p c k) 64=(j:Int)::l:=by
   have h3:=BI (b:=aS p c k) (k:=0) (j:=j) (by omega) (fun i _ hi=>by rw[bL p c k (by omega)];exact h2 i hi) (by rw[bL p c k hj];exact h1);have hr:List.range 64=List.range (j+1)++(List.range (63-j)).map (j+1+·):=by rw[←List.range_add];congr 1;omega
   unfold gF at h3⊢;grind
  grind
def akS:KT:=[(166,14,[(0,[0]),(1,[3]),(2,[3,4]),(3,[2]),(4,[3,6]),(5,[2]),(6,[3,8]),(7,[2]),(8,[3,10]),(9,[2]),(10,[12]),(11,[2]),(12,[2])])]
def aou:ar:=bO Pz akS [] [] []
theorem afp:aP aou:=ae af trivial trivial trivial
def eu (a:Int):Int:=(bif a==1 then(100)else(bif a==2 then(320)else(bif a==3 then(330)else(bif a==4 then(500)else(bif a==5 then(900)else(0))))))
def ah4 (a:Int):Bool:=true
theorem alf (a:Int)(h:ah4 a=true):PS Pz 166 [.int .u8 a] ((dI .i64).res (eu a)):=pq14 afp h
def Ts:GT:=g1 (dI .u8) (fun a=>.ret ((dI .i64).res (eu a)))
theorem aa5:Sound Pz 166 Ts:=aH fun a=>bH (alf a rfl)
def afh:KT:=[(168,17,[(0,[0]),(1,[0,9]),(2,[2]),(3,[0,3]),(4,[0,3,11]),(5,[0,3]),(6,[0,3]),(7,[2])])]
def abT:ar:=bO Pz afh [] [] []
theorem SU:aP abT:=ae af trivial trivial trivial
def Nh  (x:(Int×Int)):St:=St.mk (.int .i64 x.1::.any::.any::.int .i64 x.2::(an 13 [])) (Hp.mk [] [] [] 0 0 0)
def ML  : (Int×Int×Bool)→Out:=fun y=>.exit 0 (St.mk (.int .i64 y.1::.any::.any::.int .i64 y.2.1::(an 7 (.bool y.2.2::(an 5 [])))) (Hp.mk [] [] [] 0 0 0))
def Sf  (x:(Int×Int)):aG (Int×Int) ((Int×Int×Bool)):=(bif decide (x.1≥8)then(aG.go (wr .i64 (x.1-8),wr .i64 (x.2+1)))else(aG.out ((x.1,x.2,decide (x.1≥8)))))
def Nf  (x:(Int×Int)):Bool:=true
def tO  (x:(Int×Int)):Option ((Int×Int×Bool)):=cW (fun x=>bif Nf  x then Sf  x else .bad) many x
abbrev P8 {α:Type}(k:(Int×Int)→α)(s:St):α:=k ((tI (tT s 0)),(tI (tT s 3)))
theorem acj  (x:(Int×Int))(r:(Int×Int×Bool))(h:tO  x=some r):aC Pz (bc Pz 168 4) (Nh  x) (ML  r):=smq (m:=12) (fn:=168) SU (P8 fun x=>some x) (fun o=>match o with | .exit 0 s=>some ((tI (tT s 0)),(tI (tT s 3)),(tB (tT s 11)))|_=>none) many x r h
def NV (b:Code)(s:St):Tr Out:=P8 (fun x=>jU b (bc Pz 168 4) s (Nh x) (tO x) (ML )) s
theorem Ur:∀b,aT Pz b (NV b):=fun _ _ _ h=>bF (acj _) h
def atN:ar:=bO Pz afh [] [(168,4,NV)] []
theorem acO:aP atN:=ae af trivial ⟨Ur,trivial⟩ trivial
def eO (a:Int):Int:=(bif decide (a<0)then(-1)else(bif decide (a>63)then(-1)else(((tO (a,0)).getD default).2.1)))
def fT (a:Int):Bool:=(bif decide (a<0)then true else(bif decide (a>63)then true else((tO (a,0)).isSome&&true)))
theorem alc (a:Int)(h:fT a=true):PS Pz 168 [.int .i64 a] ((dI .i64).res (eO a)):=pq14 acO h
def O3:GT:=g1 (dI .i64) (fun a=>b7 (fT a) ((dI .i64).res (eO a)))
theorem Rs:Sound Pz 168 O3:=aH fun a=>aA (alc a)
def ahx:KT:=[(253,14,[(0,[0]),(1,[0,8]),(2,[2]),(3,[0,10]),(4,[0]),(5,[2])])]
def Zk:ar:=bO Pz ahx [] [] []
theorem SP:aP Zk:=ae af trivial trivial trivial
def QY  (x:(Int)):St:=St.mk (.int .i64 x::(an 13 [])) (Hp.mk [] [] [] 0 0 0)
def Oq  : (Int×Bool)→Out:=fun y=>.exit 0 (St.mk (.int .i64 y.1::(an 9 (.bool y.2::(an 3 [])))) (Hp.mk [] [] [] 0 0 0))
def Us  (x:(Int)):aG (Int) ((Int×Bool)):=(bif decide (x≥8)then(aG.go (wr .i64 (x-8)))else(aG.out ((x,decide (x≥8)))))
def Q4  (x:(Int)):Bool:=true
def ti  (x:(Int)):Option ((Int×Bool)):=cW (fun x=>bif Q4  x then Us  x else .bad) many x
abbrev QL {α:Type}(k:(Int)→α)(s:St):α:=k ((tI (tT s 0)))
theorem YM  (x:(Int))(r:(Int×Bool))(h:ti  x=some r):aC Pz (bc Pz 253 3) (QY  x) (Oq  r):=smq (m:=12) (fn:=253) SP (QL fun x=>some x) (fun o=>match o with | .exit 0 s=>some ((tI (tT s 0)),(tB (tT s 10)))|_=>none) many x r h
def Lz (b:Code)(s:St):Tr Out:=QL (fun x=>jU b (bc Pz 253 3) s (QY x) (ti x) (Oq )) s
theorem T8:∀b,aT Pz b (Lz b):=fun _ _ _ h=>bF (YM _) h
def amJ:ar:=bO Pz ahx [] [(253,3,Lz)] []
theorem adK:aP amJ:=ae af trivial ⟨T8,trivial⟩ trivial
def xr (a:Int):Int:=(bif decide (a<0)then(-1)else(bif decide (a>63)then(-1)else(((ti a).getD default).1)))
def yK (a:Int):Bool:=(bif decide (a<0)then true else(bif decide (a>63)then true else((ti a).isSome&&true)))
theorem ap1 (a:Int)(h:yK a=true):PS Pz 253 [.int .i64 a] ((dI .i64).res (xr a)):=pq14 adK h
def agQ:GT:=g1 (dI .i64) (fun a=>b7 (yK a) ((dI .i64).res (xr a)))
theorem alp:Sound Pz 253 agQ:=aH fun a=>aA (ap1 a)
def atZ:KT:=[(254,14,[(0,[0,1]),(1,[0,1,7]),(2,[4]),(3,[4])])]
def ar5:ar:=bO Pz atZ [] [] []
theorem aeU:aP ar5:=ae af trivial trivial trivial
def Jb (a:Int)(b:Int):Int:=(bif decide (a<b)then(wr .i64 (b-a))else(wr .i64 (a-b)))
def ac3 (a:Int)(b:Int):Bool:=true
theorem arG (a:Int)(b:Int)(h:ac3 a b=true):PS Pz 254 [.int .i64 a,.int .i64 b] ((dI .i64).res (Jb a b)):=pq14 aeU h
def ajs:GT:=g2 (dI .i64) (dI .i64) (fun a b=>.ret ((dI .i64).res (Jb a b)))
theorem akQ:Sound Pz 254 ajs:=aO fun a b=>bH (arG a b rfl)
def am3:KT:=[(221,30,[(0,[0,1]),(1,[0,1,14]),(2,[4]),(3,[5,6]),(4,[5,6,27]),(5,[4]),(6,[4])])]
def am8:ar:=bO Pz am3 [(168,O3),(253,agQ),(254,ajs)] [] []
theorem acY:aP am8:=ae af ⟨Rs,alp,akQ,trivial⟩ trivial trivial
def xE (a:Int)(b:Int):Int:=(bif decide (xr a<0)then(-1)else(bif decide (xr b<0)then(-1)else(bif decide (Jb (xr a) (xr b)>Jb (eO a) (eO b))then(Jb (xr a) (xr b))else(Jb (eO a) (eO b)))))
def yv (a:Int)(b:Int):Bool:=(yK a&&(bif decide (xr a<0)then true else(yK b&&(bif decide (xr b<0)then true else(yK a&&(yK b&&(fT a&&(fT b&&true))))))))
theorem anV (a:Int)(b:Int)(h:yv a b=true):PS Pz 221 [.int .i64 a,.int .i64 b] ((dI .i64).res (xE a b)):=pq14 acY h
def abE:GT:=g2 (dI .i64) (dI .i64) (fun a b=>b7 (yv a b) ((dI .i64).res (xE a b)))
theorem agD:Sound Pz 221 abE:=aO fun a b=>aA (anV a b)
def ahN:KT:=[(167,29,[(0,[0]),(1,[0,12]),(2,[2]),(3,[0,3]),(4,[0,3,4]),(5,[0,3,4,5]),(6,[0,3,4,5,15]),(7,[0,3,4,5]),(8,[0,3,4,5,6]),(9,(0::(rn 3 4 [26]))),(10,[0,3,4,5]),(11,[2])])]
def aaA:ar:=bO Pz ahN [(221,abE)] [] []
theorem Uh:aP aaA:=ae af ⟨agD,trivial⟩ trivial trivial
def K5 (p1:Int)(x:(Int×Int)):St:=St.mk (.int .i64 p1::.any::.any::.int .i64 x.1::.vlist true [.bj .i64 27,.bj .i64 28,.bj .i64 35,.bj .i64 36]::.int .i64 x.2::(an 23 [])) (Hp.mk [] [] [] 0 0 0)
def P9 (p1:Int):(Int×Int×Bool)→Out:=fun y=>.exit 0 (St.mk (.int .i64 p1::.any::.any::.int .i64 y.1::.vlist true [.bj .i64 27,.bj .i64 28,.bj .i64 35,.bj .i64 36]::.int .i64 y.2.1::(an 9 (.bool y.2.2::(an 13 [])))) (Hp.mk [] [] [] 0 0 0))
def UC (p1:Int)(x:(Int×Int)):aG (Int×Int) ((Int×Int×Bool)):=(bif decide (x.2<4)then(bif x.2==Int.ofNat 0 then(bif decide (xE p1 27<x.1)then(aG.go (xE p1 27,wr .i64 (x.2+1)))else(aG.go (x.1,wr .i64 (x.2+1))))else(bif x.2==Int.ofNat 1 then(bif decide (xE p1 28<x.1)then(aG.go (xE p1 28,wr .i64 (x.2+1)))else(aG.go (x.1,wr .i64 (x.2+1))))else(bif x.2==Int.ofNat 2 then(bif decide (xE p1 35<x.1)then(aG.go (xE p1 35,wr .i64 (x.2+1)))else(aG.go (x.1,wr .i64 (x.2+1))))else(bif decide (xE p1 36<x.1)then(aG.go (xE p1 36,wr .i64 (x.2+1)))else(aG.go (x.1,wr .i64 (x.2+1)))))))else(aG.out ((x.1,x.2,decide (x.2<4)))))
def QJ (p1:Int)(x:(Int×Int)):Bool:=(bif decide (x.2<4)then(decide (0≤x.2)&&decide (x.2<Int.ofNat 4)&&(bif x.2==Int.ofNat 0 then(yv p1 27&&true)else(bif x.2==Int.ofNat 1 then(yv p1 28&&true)else(bif x.2==Int.ofNat 2 then(yv p1 35&&true)else(x.2==Int.ofNat 3&&(yv p1 36&&true))))))else true)
def tg (p1:Int)(x:(Int×Int)):Option ((Int×Int×Bool)):=cW (fun x=>bif QJ p1 x then UC p1 x else .bad) many x
abbrev Pt {α:Type}(k:Int→(Int×Int)→α)(s:St):α:=k (tI (tT s 0)) ((tI (tT s 3)),(tI (tT s 5)))
theorem YF (p1:Int)(x:(Int×Int))(r:(Int×Int×Bool))(h:tg p1 x=some r):aC Pz (bc Pz 167 6) (K5 p1 x) (P9 p1 r):=smq (m:=12) (fn:=167) Uh (Pt fun _ x=>some x) (fun o=>match o with | .exit 0 s=>some ((tI (tT s 3)),(tI (tT s 5)),(tB (tT s 15)))|_=>none) many x r h
def Mg (b:Code)(s:St):Tr Out:=Pt (fun p1 x=>jU b (bc Pz 167 6) s (K5 p1 x) (tg p1 x) (P9 p1)) s
theorem UK:∀b,aT Pz b (Mg b):=fun _ _ _ h=>bF (YF _ _) h
def aoV:ar:=bO Pz ahN [(221,abE)] [(167,6,Mg)] []
theorem agy:aP aoV:=ae af ⟨agD,trivial⟩ ⟨UK,trivial⟩ trivial
def dQ (a:Int):Int:=(bif decide (a<0)then(-1)else(bif decide (a>63)then(-1)else(((tg a (9,0)).getD default).1)))
def uV (a:Int):Bool:=(bif decide (a<0)then true else(bif decide (a>63)then true else((tg a (9,0)).isSome&&true)))
theorem aqh (a:Int)(h:uV a=true):PS Pz 167 [.int .i64 a] ((dI .i64).res (dQ a)):=pq14 agy h
def RK:GT:=g1 (dI .i64) (fun a=>b7 (uV a) ((dI .i64).res (dQ a)))
theorem Zc:Sound Pz 167 RK:=aH fun a=>aA (aqh a)
def Zu:KT:=[(102,128,[(0,[1,2]),(1,[1,2,17]),(2,[4]),(3,[1,2,5]),(4,[1,2,5,6]),(5,[1,2,5,6,19]),(6,[1,2,5,6]),(7,[1,2,5,6,7]),(8,[1,2,5,6,7,32]),(9,[1,2,5,6,8]),(10,[1,2,5,6,8]),(11,[1,2,5,6,8,49]),(12,[1,2,5,6,8]),(13,[1,2,5,6,8,57]),(14,[1,2,5,6,8]),(15,[1,2,5,6,68]),(16,[1,2,5,6]),(17,[1,2,5,9]),(18,[1,2,5,9,79]),(19,[1,2,5,9,79,80]),(20,[1,2,5,10]),(21,[1,2,5,10,83]),(22,[1,2,5,10]),(23,[1,2,5,10]),(24,[1,2,5,9,79,99]),(25,[5]),(26,[5,9,79,109]),(27,[5,9,112]),(28,[5]),(29,[5,9,118]),(30,[5,9,121]),(31,[5]),(32,[4])])]
def Ya:ar:=bO Pz Zu [(163,JK),(164,IY),(165,JY),(166,Ts),(167,RK),(168,O3),(169,SL)] [] []
theorem SD:aP Ya:=ae af ⟨PM,Pr,PT,aa5,Zc,Rs,abj,trivial⟩ trivial trivial
def Nl (p1:Int)(p2:Pos)(x:(Int×Int)):St:=St.mk (.any::.int .u8 p1::.ptr 0 0::.any::.any::.int .i64 x.1::.int .i64 x.2::(an 121 [])) (Hp.mk [(pc p2 [])] [] [] 0 0 0)
def L2 (p1:Int)(p2:Pos):(Int×Int×Bool)→Out:=fun y=>.exit 0 (St.mk (.any::.int .u8 p1::.ptr 0 0::.any::.any::.int .i64 y.1::.int .i64 y.2.1::(an 12 (.bool y.2.2::(an 108 [])))) (Hp.mk [(pc p2 [])] [] [] 0 0 0))
def tD (p1:Int)(p2:Pos)(x:(Int×Int)):aG (Int×Int) ((Int×Int×Bool)):=(bif decide (x.2<64)then(bif b9 p2 x.2==0 then(aG.go (x.1,wr .i64 (x.2+1)))else(bif uG (b9 p2 x.2) != p1 then(aG.go (x.1,wr .i64 (x.2+1)))else(bif bY (b9 p2 x.2)==6 then(bif p2.variant==4 then(bif bY (b9 p2 x.2)==1 then(bif p1==0 then(bif bY (b9 p2 x.2)==1 then(bif p1==1 then(aG.go (wr .i64 (wr .i64 (wr .i64 (wr .i64 (wr .i64 (x.1+eu (bY (b9 p2 x.2)))-wr .i64 (4*dQ x.2))+200)+wr .i64 (6*eO x.2))+wr .i64 (6*wr .i64 (7-eO x.2))),wr .i64 (x.2+1)))else(aG.go (wr .i64 (wr .i64 (wr .i64 (wr .i64 (x.1+eu (bY (b9 p2 x.2)))-wr .i64 (4*dQ x.2))+200)+wr .i64 (6*eO x.2)),wr .i64 (x.2+1))))else(aG.go (wr .i64 (wr .i64 (wr .i64 (wr .i64 (x.1+eu (bY (b9 p2 x.2)))-wr .i64 (4*dQ x.2))+200)+wr .i64 (6*eO x.2)),wr .i64 (x.2+1))))else(bif bY (b9 p2 x.2)==1 then(bif p1==1 then(aG.go (wr .i64 (wr .i64 (wr .i64 (wr .i64 (x.1+eu (bY (b9 p2 x.2)))-wr .i64 (4*dQ x.2))+200)+wr .i64 (6*wr .i64 (7-eO x.2))),wr .i64 (x.2+1)))else(aG.go (wr .i64 (wr .i64 (wr .i64 (x.1+eu (bY (b9 p2 x.2)))-wr .i64 (4*dQ x.2))+200),wr .i64 (x.2+1))))else(aG.go (wr .i64 (wr .i64 (wr .i64 (x.1+eu (bY (b9 p2 x.2)))-wr .i64 (4*dQ x.2))+200),wr .i64 (x.2+1)))))else(bif bY (b9 p2 x.2)==1 then(bif p1==1 then(aG.go (wr .i64 (wr .i64 (wr .i64 (wr .i64 (x.1+eu (bY (b9 p2 x.2)))-wr .i64 (4*dQ x.2))+200)+wr .i64 (6*wr .i64 (7-eO x.2))),wr .i64 (x.2+1)))else(aG.go (wr .i64 (wr .i64 (wr .i64 (x.1+eu (bY (b9 p2 x.2)))-wr .i64 (4*dQ x.2))+200),wr .i64 (x.2+1))))else(aG.go (wr .i64 (wr .i64 (wr .i64 (x.1+eu (bY (b9 p2 x.2)))-wr .i64 (4*dQ x.2))+200),wr .i64 (x.2+1)))))else(bif bY (b9 p2 x.2)==1 then(bif p1==0 then(bif bY (b9 p2 x.2)==1 then(bif p1==1 then(aG.go (wr .i64 (wr .i64 (wr .i64 (wr .i64 (x.1+eu (bY (b9 p2 x.2)))-wr .i64 (4*dQ x.2))+wr .i64 (6*eO x.2))+wr .i64 (6*wr .i64 (7-eO x.2))),wr .i64 (x.2+1)))else(aG.go (wr .i64 (wr .i64 (wr .i64 (x.1+eu (bY (b9 p2 x.2)))-wr .i64 (4*dQ x.2))+wr .i64 (6*eO x.2)),wr .i64 (x.2+1))))else(aG.go (wr .i64 (wr .i64 (wr .i64 (x.1+eu (bY (b9 p2 x.2)))-wr .i64 (4*dQ x.2))+wr .i64 (6*eO x.2)),wr .i64 (x.2+1))))else(bif bY (b9 p2 x.2)==1 then(bif p1==1 then(aG.go (wr .i64 (wr .i64 (wr .i64 (x.1+eu (bY (b9 p2 x.2)))-wr .i64 (4*dQ x.2))+wr .i64 (6*wr .i64 (7-eO x.2))),wr .i64 (x.2+1)))else(aG.go (wr .i64 (wr .i64 (x.1+eu (bY (b9 p2 x.2)))-wr .i64 (4*dQ x.2)),wr .i64 (x.2+1))))else(aG.go (wr .i64 (wr .i64 (x.1+eu (bY (b9 p2 x.2)))-wr .i64 (4*dQ x.2)),wr .i64 (x.2+1)))))else(bif bY (b9 p2 x.2)==1 then(bif p1==1 then(aG.go (wr .i64 (wr .i64 (wr .i64 (x.1+eu (bY (b9 p2 x.2)))-wr .i64 (4*dQ x.2))+wr .i64 (6*wr .i64 (7-eO x.2))),wr .i64 (x.2+1)))else(aG.go (wr .i64 (wr .i64 (x.1+eu (bY (b9 p2 x.2)))-wr .i64 (4*dQ x.2)),wr .i64 (x.2+1))))else(aG.go (wr .i64 (wr .i64 (x.1+eu (bY (b9 p2 x.2)))-wr .i64 (4*dQ x.2)),wr .i64 (x.2+1))))))else(bif bY (b9 p2 x.2)==1 then(bif p1==0 then(bif bY (b9 p2 x.2)==1 then(bif p1==1 then(aG.go (wr .i64 (wr .i64 (wr .i64 (wr .i64 (x.1+eu (bY (b9 p2 x.2)))-wr .i64 (4*dQ x.2))+wr .i64 (6*eO x.2))+wr .i64 (6*wr .i64 (7-eO x.2))),wr .i64 (x.2+1)))else(aG.go (wr .i64 (wr .i64 (wr .i64 (x.1+eu (bY (b9 p2 x.2)))-wr .i64 (4*dQ x.2))+wr .i64 (6*eO x.2)),wr .i64 (x.2+1))))else(aG.go (wr .i64 (wr .i64 (wr .i64 (x.1+eu (bY (b9 p2 x.2)))-wr .i64 (4*dQ x.2))+wr .i64 (6*eO x.2)),wr .i64 (x.2+1))))else(bif bY (b9 p2 x.2)==1 then(bif p1==1 then(aG.go (wr .i64 (wr .i64 (wr .i64 (x.1+eu (bY (b9 p2 x.2)))-wr .i64 (4*dQ x.2))+wr .i64 (6*wr .i64 (7-eO x.2))),wr .i64 (x.2+1)))else(aG.go (wr .i64 (wr .i64 (x.1+eu (bY (b9 p2 x.2)))-wr .i64 (4*dQ x.2)),wr .i64 (x.2+1))))else(aG.go (wr .i64 (wr .i64 (x.1+eu (bY (b9 p2 x.2)))-wr .i64 (4*dQ x.2)),wr .i64 (x.2+1)))))else(bif bY (b9 p2 x.2)==1 then(bif p1==1 then(aG.go (wr .i64 (wr .i64 (wr .i64 (x.1+eu (bY (b9 p2 x.2)))-wr .i64 (4*dQ x.2))+wr .i64 (6*wr .i64 (7-eO x.2))),wr .i64 (x.2+1)))else(aG.go (wr .i64 (wr .i64 (x.1+eu (bY (b9 p2 x.2)))-wr .i64 (4*dQ x.2)),wr .i64 (x.2+1))))else(aG.go (wr .i64 (wr .i64 (x.1+eu (bY (b9 p2 x.2)))-wr .i64 (4*dQ x.2)),wr .i64 (x.2+1))))))))else(aG.out ((x.1,x.2,decide (x.2<64)))))
def oU (p1:Int)(p2:Pos)(x:(Int×Int)):Bool:=(bif decide (x.2<64)then(yG p2 x.2&&(bif b9 p2 x.2==0 then true else(bif uG (b9 p2 x.2) != p1 then true else(uV x.2&&(bif bY (b9 p2 x.2)==6 then(bif p2.variant==4 then(bif bY (b9 p2 x.2)==1 then(bif p1==0 then(fT x.2&&(bif bY (b9 p2 x.2)==1 then(bif p1==1 then(fT x.2&&true)else true)else true))else(bif bY (b9 p2 x.2)==1 then(bif p1==1 then(fT x.2&&true)else true)else true))else(bif bY (b9 p2 x.2)==1 then(bif p1==1 then(fT x.2&&true)else true)else true))else(bif bY (b9 p2 x.2)==1 then(bif p1==0 then(fT x.2&&(bif bY (b9 p2 x.2)==1 then(bif p1==1 then(fT x.2&&true)else true)else true))else(bif bY (b9 p2 x.2)==1 then(bif p1==1 then(fT x.2&&true)else true)else true))else(bif bY (b9 p2 x.2)==1 then(bif p1==1 then(fT x.2&&true)else true)else true)))else(bif bY (b9 p2 x.2)==1 then(bif p1==0 then(fT x.2&&(bif bY (b9 p2 x.2)==1 then(bif p1==1 then(fT x.2&&true)else true)else true))else(bif bY (b9 p2 x.2)==1 then(bif p1==1 then(fT x.2&&true)else true)else true))else(bif bY (b9 p2 x.2)==1 then(bif p1==1 then(fT x.2&&true)else true)else true)))))))else true)
def fL (p1:Int)(p2:Pos)(x:(Int×Int)):Option ((Int×Int×Bool)):=cW (fun x=>bif oU p1 p2 x then tD p1 p2 x else .bad) many x
abbrev MK {α:Type}(k:Int→Pos→(Int×Int)→α)(s:St):α:=wP s 0 fun q0=>k (tI (tT s 1)) q0 ((tI (tT s 5)),(tI (tT s 6)))
theorem XZ (p1:Int)(p2:Pos)(x:(Int×Int))(r:(Int×Int×Bool))(h:fL p1 p2 x=some r):aC Pz (bc Pz 102 5) (Nl p1 p2 x) (L2 p1 p2 r):=smq (m:=12) (fn:=102) SD (MK fun _ _ x=>some x) (fun o=>match o with | .exit 0 s=>some ((tI (tT s 5)),(tI (tT s 6)),(tB (tT s 19)))|_=>none) many x r h
def Fc (b:Code)(s:St):Tr Out:=MK (fun p1 p2 x=>jU b (bc Pz 102 5) s (Nl p1 p2 x) (fL p1 p2 x) (L2 p1 p2)) s
theorem Gy:∀b,aT Pz b (Fc b):=fun _ _ _ h=>bF (XZ _ _ _) h
def aa3:ar:=bO Pz Zu [(163,JK),(164,IY),(165,JY),(166,Ts),(167,RK),(168,O3),(169,SL)] [(102,5,Fc)] []
theorem RO:aP aa3:=ae af ⟨PM,Pr,PT,aa5,Zc,Rs,abj,trivial⟩ ⟨Gy,trivial⟩ trivial
def Nn (p1:Int)(p2:Pos)(x:(Int×Int)):St:=St.mk (.any::.int .u8 p1::.ptr 0 0::.any::.any::.int .i64 x.1::(an 4 (.int .i64 x.2::(an 117 [])))) (Hp.mk [(pc p2 [])] [] [] 0 0 0)
def PN (p1:Int)(p2:Pos):(Int×Int×Bool)→Out:=fun y=>.exit 3 (St.mk (.any::.int .u8 p1::.ptr 0 0::.any::.any::.int .i64 y.1::(an 4 (.int .i64 y.2.1::(an 72 (.bool y.2.2::(an 44 [])))))) (Hp.mk [(pc p2 [])] [] [] 0 0 0))
def zZ (p1:Int)(p2:Pos)(x:(Int×Int)):aG (Int×Int) ((Int×Int×Bool)):=(bif decide (x.2<6)then(aG.go (wr .i64 (x.1+wr .i64 (wr .i64 (p2.ah.getD (scale 6 p1+scale 1 x.2).toNat 0)*eu (wr .u8 x.2))),wr .i64 (x.2+1)))else(aG.out ((x.1,x.2,decide (x.2<6)))))
def we (p1:Int)(p2:Pos)(x:(Int×Int)):Bool:=(bif decide (x.2<6)then(decide (0≤p1)&&decide (p1<Int.ofNat 2)&&(decide (0≤x.2)&&decide (x.2<Int.ofNat 6)&&true))else true)
def pQ (p1:Int)(p2:Pos)(x:(Int×Int)):Option ((Int×Int×Bool)):=cW (fun x=>bif we p1 p2 x then zZ p1 p2 x else .bad) many x
abbrev MS {α:Type}(k:Int→Pos→(Int×Int)→α)(s:St):α:=wP s 0 fun q0=>k (tI (tT s 1)) q0 ((tI (tT s 5)),(tI (tT s 10)))
theorem Zp (p1:Int)(p2:Pos)(x:(Int×Int))(r:(Int×Int×Bool))(h:pQ p1 p2 x=some r):aC Pz (bc Pz 102 21) (Nn p1 p2 x) (PN p1 p2 r):=smq (m:=12) (fn:=102) RO (MS fun _ _ x=>some x) (fun o=>match o with | .exit 3 s=>some ((tI (tT s 5)),(tI (tT s 10)),(tB (tT s 83)))|_=>none) many x r h
def NP (b:Code)(s:St):Tr Out:=MS (fun p1 p2 x=>jU b (bc Pz 102 21) s (Nn p1 p2 x) (pQ p1 p2 x) (PN p1 p2)) s
theorem Ve:∀b,aT Pz b (NP b):=fun _ _ _ h=>bF (Zp _ _ _) h
def arz:ar:=bO Pz Zu [(163,JK),(164,IY),(165,JY),(166,Ts),(167,RK),(168,O3),(169,SL)] [(102,5,Fc),(102,21,NP)] []
theorem ahS:aP arz:=ae af ⟨PM,Pr,PT,aa5,Zc,Rs,abj,trivial⟩ ⟨Gy,Ve,trivial⟩ trivial
def nR (a:Pos)(b:Int):Int:=(bif decide (a.variant>8)then(0)else(bif decide (b>1)then(0)else(bif a.variant==2 then(((pQ b a (((fL b a (0,0)).getD default).1,0)).getD default).1)else(bif a.variant==5 then(wr .i64 (((fL b a (0,0)).getD default).1+wr .i64 (150*wr .i64 (a.au.getD (scale 1 b).toNat 0))))else(bif a.variant==6 then(bif decide (sY a b 6≥0)then(wr .i64 (((fL b a (0,0)).getD default).1-wr .i64 (30*dQ (sY a b 6))))else(((fL b a (0,0)).getD default).1))else(bif a.variant==8 then(bif decide (sY a b 6≥0)then(wr .i64 (((fL b a (0,0)).getD default).1+wr .i64 (60*eO (sY a b 6))))else(((fL b a (0,0)).getD default).1))else(((fL b a (0,0)).getD default).1)))))))
def yb (a:Pos)(b:Int):Bool:=(bif decide (a.variant>8)then true else(bif decide (b>1)then true else((fL b a (0,0)).isSome&&(BZ a b 6&&(bif a.variant==2 then((pQ b a (((fL b a (0,0)).getD default).1,0)).isSome&&true)else(bif a.variant==5 then(decide (0≤b)&&decide (b<Int.ofNat 2)&&true)else(bif a.variant==6 then(bif decide (sY a b 6≥0)then(uV (sY a b 6)&&true)else true)else(bif a.variant==8 then(bif decide (sY a b 6≥0)then(fT (sY a b 6)&&true)else true)else true))))))))
theorem aok (a:Pos)(b:Int)(h:yb a b=true):PS Pz 102 [Pos.av a,.int .u8 b] ((dI .i64).res (nR a b)):=pq14 ahS h
def ajl:GT:=g2 aZ (dI .u8) (fun a b=>b7 (yb a b) ((dI .i64).res (nR a b)))
theorem aoC:Sound Pz 102 ajl:=aO fun a b=>aA (aok a b)
def K45:KT:=[(45,32,[(0,[1]),(1,[1,11]),(2,[2]),(3,[1,3]),(4,[3,24]),(5,[3]),(6,[3,28]),(7,[2]),(8,[3,30]),(9,[2]),(10,[2])])]
def B45:ar:=bO Pz K45 [(102,ajl)] [] []
theorem alw:aP B45:=ae af ⟨aoC,trivial⟩ trivial trivial
def N45 (a:Pos):Int:=(bif decide (a.variant>8)then(0)else(bif decide (a.aa>1)then(0)else(bif a.variant==4 then(bif decide (wr .i64 (0-wr .i64 (nR a a.aa-nR a (wr .u8 (1-a.aa))))>20000)then(20000)else(bif decide (wr .i64 (0-wr .i64 (nR a a.aa-nR a (wr .u8 (1-a.aa)))) < -20000)then(-20000)else(wr .i64 (0-wr .i64 (nR a a.aa-nR a (wr .u8 (1-a.aa)))))))else(bif decide (wr .i64 (nR a a.aa-nR a (wr .u8 (1-a.aa)))>20000)then(20000)else(bif decide (wr .i64 (nR a a.aa-nR a (wr .u8 (1-a.aa))) < -20000)then(-20000)else(wr .i64 (nR a a.aa-nR a (wr .u8 (1-a.aa)))))))))
def aap (a:Pos):Bool:=(bif decide (a.variant>8)then true else(bif decide (a.aa>1)then true else(yb a a.aa&&(yb a (wr .u8 (1-a.aa))&&true))))
theorem P45 (a:Pos)(h:aap a=true):PS Pz 45 [Pos.av a] ((dI .i64).res (N45 a)):=pq14 alw h
end Kz
namespace Kz
open Go Go.RowKit
def MY:Y':=(([0,1,2,2,3,3,3,3,4,4,4,4,4,4,4,4]++List.replicate 16 5)++List.replicate 32 6++List.replicate 64 7)++List.replicate 128 8
def rK (y:BitVec 64):Int:=wr .i64 (Int.ofNat (MY[(wr .u8 (Int.ofNat y.toNat)).toNat]?.getD 0).toNat)
theorem E0:∀(j:Fin 8) (v:Fin 256),2^j.val≤v.val→v.val<2^(j.val+1)→(MY[v.val]?.getD 0).toNat=j.val+1:=by decide +kernel
theorem Tg {y:BitVec 64}{j:Nat}(h0:2^j≤y.toNat)(h1:y.toNat<2^(j+1))(h2:y.toNat<256):rK y=j+1:=by
 have hj:j<8:=by refine Classical.byContradiction fun hn=>?_;have:=Nat.pow_le_pow_right (n:=2) (by omega) (show 8≤j by omega);omega
 unfold rK;rw[show Int.ofNat y.toNat=(y.toNat:Int)from rfl,kD (by omega) (by omega),Int.toNat_natCast,E0 ⟨j,hj⟩ ⟨y.toNat,h2⟩ h0 h1];exact aF (by simp;omega) (by simp;omega)
theorem MU (a:BitVec 64):NB a=bif decide (a.toNat≥4294967296)then(bif decide ((a >>> 32).toNat≥65536)then(bif decide ((a >>> 32 >>> 16).toNat≥256)then wr .i64 (wr .i64 (wr .i64 (32+16)+8)+rK (a >>> 32 >>> 16 >>> 8))else wr .i64 (wr .i64 (32+16)+rK (a >>> 32 >>> 16)))else(bif decide ((a >>> 32).toNat≥256)then wr .i64 (wr .i64 (32+8)+rK (a >>> 32 >>> 8))else wr .i64 (32+rK (a >>> 32))))else(bif decide (a.toNat≥65536)then(bif decide ((a >>> 16).toNat≥256)then wr .i64 (wr .i64 (16+8)+rK (a >>> 16 >>> 8))else wr .i64 (16+rK (a >>> 16)))else(bif decide (a.toNat≥256)then wr .i64 (8+rK (a >>> 8))else wr .i64 (0+rK a))):=by kernel_rfl
def YL (x:BitVec 64)(j:Nat):Prop:=2^j≤x.toNat∧x.toNat<2^(j+1)
theorem YL.shr {x:BitVec 64}{j:Nat}(h:YL x j)(k:Nat)(hk:2^k≤x.toNat):k≤j∧YL (x >>> k) (j-k):=by
 obtain⟨h0,h1⟩:=h;have hkj:k≤j:=by refine Classical.byContradiction fun hn=>?_;have:=Nat.pow_le_pow_right (n:=2) (by omega) (show j+1≤k by omega);omega
 refine⟨hkj,?_⟩;unfold YL;rw[BitVec.toNat_ushiftRight,Nat.shiftRight_eq_div_pow];have hp:=Nat.two_pow_pos k;constructor
 ·rw[Nat.le_div_iff_mul_le hp,←Nat.pow_add,Nat.sub_add_cancel hkj];exact h0
 ·rw[Nat.div_lt_iff_lt_mul hp,←Nat.pow_add,show j-k+1+k=j+1 by omega];exact h1
theorem P0 {x:BitVec 64}{j:Nat}(h:YL x j)(hj:j<64):NB x=j+1:=by
 have w:∀n:Int,0≤n→n≤1000→wr .i64 n=n:=fun n a b=>aF (by omega) (by omega);have fin:∀{y:BitVec 64} {i:Nat},YL y i→y.toNat<256→rK y=i+1:=fun h h2=>Tg h.1 h.2 h2;rw[MU];refine al (P:=fun n:Int=>n=j+1) (fun a1=>?_) fun a1=>?_
 ·have a1:2^32≤x.toNat:=by simpa using a1
  obtain⟨b1,t1⟩:=h.shr 32 a1;have l1:(x >>> 32).toNat<2^32:=by rw[BitVec.toNat_ushiftRight,Nat.shiftRight_eq_div_pow];have:=x.isLt;omega
  generalize x >>> 32=y at t1 l1⊢;refine al (P:=fun n:Int=>n=j+1) (fun a2=>?_) fun a2=>?_
  ·have a2:2^16≤y.toNat:=by simpa using a2
   obtain⟨b2,t2⟩:=t1.shr 16 a2;have l2:(y >>> 16).toNat<2^16:=by rw[BitVec.toNat_ushiftRight,Nat.shiftRight_eq_div_pow];omega
   generalize y >>> 16=z at t2 l2⊢;refine al (P:=fun n:Int=>n=j+1) (fun a3=>?_) fun a3=>?_
   ·have a3:2^8≤z.toNat:=by simpa using a3
    obtain⟨b3,t3⟩:=t2.shr 8 a3;rw[fin t3 (by rw[BitVec.toNat_ushiftRight,Nat.shiftRight_eq_div_pow];omega)];grind
   grind
  ·have a2:y.toNat<65536:=by simpa using a2
   refine al (P:=fun n:Int=>n=j+1) (fun a3=>?_) fun a3=>?_
   ·have a3:2^8≤y.toNat:=by simpa using a3
    obtain⟨b3,t3⟩:=t1.shr 8 a3;rw[fin t3 (by rw[BitVec.toNat_ushiftRight,Nat.shiftRight_eq_div_pow];omega)];grind
   grind
 ·have a1:x.toNat<4294967296:=by simpa using a1
  refine al (P:=fun n:Int=>n=j+1) (fun a2=>?_) fun a2=>?_
  ·have a2:2^16≤x.toNat:=by simpa using a2
   obtain⟨b2,t2⟩:=h.shr 16 a2;have l2:(x >>> 16).toNat<2^16:=by rw[BitVec.toNat_ushiftRight,Nat.shiftRight_eq_div_pow];omega
   generalize x >>> 16=z at t2 l2⊢;refine al (P:=fun n:Int=>n=j+1) (fun a3=>?_) fun a3=>?_
   ·have a3:2^8≤z.toNat:=by simpa using a3
    obtain⟨b3,t3⟩:=t2.shr 8 a3;rw[fin t3 (by rw[BitVec.toNat_ushiftRight,Nat.shiftRight_eq_div_pow];omega)];grind
   grind
  ·have a2:x.toNat<65536:=by simpa using a2
   refine al (P:=fun n:Int=>n=j+1) (fun a3=>?_) fun a3=>?_
   ·have a3:2^8≤x.toNat:=by simpa using a3
    obtain⟨b3,t3⟩:=h.shr 8 a3;rw[fin t3 (by rw[BitVec.toNat_ushiftRight,Nat.shiftRight_eq_div_pow];omega)];grind
   grind
theorem Yq {x:BitVec 64}{j:Nat}(hj:j<64)(h1:x.getLsbD j=true)(h2:∀i,j<i→i<64→x.getLsbD i=false):YL x j:=by
 constructor
 ·exact Nat.ge_two_pow_of_testBit h1
 ·refine Nat.lt_pow_two_of_testBit _ fun i hi=>?_;by_cases h:i<64
  ·exact h2 i (by omega) h
  ·exact Nat.testBit_lt_two_pow (Nat.lt_of_lt_of_le x.isLt (Nat.pow_le_pow_right (by omega) (by omega)))
theorem Iu {x:BitVec 64}{j:Nat}(hj:j<64)(h1:x.getLsbD j=true)(h2:∀i,j<i→i<64→x.getLsbD i=false):DQ x=j:=by unfold DQ Va;rw[P0 (Yq hj h1 h2) hj,aF (n:=64-((j:Int)+1)) (by omega) (by omega),aF (by omega) (by omega)];omega
def nxt (a d:Nat):Option Nat :=
 let r:=a / 8
 let f:=a%8
 match d with
 | 0=>if r<7 then some (a+8)else none
 | 1=>if r<7∧f<7 then some (a+9)else none
 | 2=>if f<7 then some (a+1)else none
 | 3=>if 0<r∧f<7 then some (a-7)else none
 | 4=>if 0<r then some (a-8)else none
 | 5=>if 0<r∧0<f then some (a-9)else none
 | 6=>if 0<f then some (a-1)else none
 |_=>if r<7∧0<f then some (a+7)else none
def Lf:Nat→Nat→Nat→List Nat
 | 0,_,_=>[]
 |n+1,a,d=>match nxt a d with
  |some s=>s::Lf n s d
  |none=>[]
def nn (a d:Nat):List Nat:=Lf 8 a d
def fK:List Nat→BitVec 64
 | []=>0#64
 |s::l=>1#64 <<< s|||fK l
def u6 (d:Nat):List Nat→Bool
 | []=>true
 |s::l=>decide (s<64)&&nn s d==l&&u6 d l
def up (d:Nat):Bool:=d==0 ||d==1 ||d==2 ||d==7
def ph (d:Nat):List Nat→Bool
 | []=>true
 |s::l=>l.all (fun t=>if up d then decide (s<t)else decide (t<s))&&ph d l
theorem A4:∀(a:Fin 64) (d:Fin 8),jr a.val d.val=fK (nn a.val d.val)∧u6 d.val (nn a.val d.val)=true∧ph d.val (nn a.val d.val)=true:=by decide +kernel
theorem fX:∀(l:List Nat) (t:Nat),t<64→(fK l).getLsbD t=decide (t∈l)
 | [],t,_=>by simp[fK]
 |s::l,t,ht=>by
  rw[fK,BitVec.getLsbD_or,fX l t ht,BitVec.getLsbD_shiftLeft,BitVec.getLsbD_one]
  grind
def seen (occ:BitVec 64):List Nat→List Nat
 | []=>[]
 |s::l=>s::if occ.getLsbD s then[]else seen occ l
theorem Cj {occ:BitVec 64}:∀{l:List Nat},(∀s∈l,occ.getLsbD s=false)→seen occ l=l
 | [],_=>rfl
 |s::l,h=>by
  rw[seen,h s (by simp),Cj fun t ht=>h t (by simp[ht])]
  rfl
theorem uP {occ:BitVec 64}:∀{pre:List Nat} {n:Nat} {post:List Nat},(∀s∈pre,occ.getLsbD s=false)→occ.getLsbD n=true→seen occ (pre++n::post)=pre++[n]
 | [],n,post,_,h=>by
  show n::(if occ.getLsbD n then[]else seen occ post)=[n]
  rw[h];rfl
 |s::pre,n,post,h1,h2=>by
  show s::(if occ.getLsbD s then[]else seen occ (pre++n::post))=s::(pre++[n])
  rw[h1 s (by simp),uP (fun t ht=>h1 t (by simp[ht])) h2]
  rfl
theorem Dt (occ:BitVec 64):∀l:List Nat,(∀s∈l,occ.getLsbD s=false)∨∃pre n post,l=pre++n::post∧(∀s∈pre,occ.getLsbD s=false)∧occ.getLsbD n=true
 | []=>by simp_all
 |s::l=>by
  cases hs:occ.getLsbD s with
  |true=>exact .inr ⟨[],s,l,rfl,(fun _ h=>by cases h),hs⟩
  |false =>
   rcases Dt occ l with h|⟨pre,n,post,rfl,h1,h2⟩
   ·simp_all
   grind
theorem wQ {d:Nat}:∀{pre:List Nat} {n:Nat} {post:List Nat},u6 d (pre++n::post)=true→nn n d=post∧n<64∧(∀s∈pre,s<64)∧∀s∈post,s<64
 | [],n,post,h=>by
  have all:∀l,u6 d l=true→∀s∈l,s<64:=by
   intro l
   induction l with
   |nil=>intro _ s hs;cases hs
   |cons a l ih =>
    intro h s hs
    simp only[u6,E',decide_eq_true_eq]at h
    grind
  simp only[List.nil_append,u6,E',decide_eq_true_eq,beq_iff_eq]at h
  grind
 |a::pre,n,post,h=>by
  simp only[List.cons_append,u6,E',decide_eq_true_eq]at h
  obtain⟨h1,h2,h3,h4⟩:=wQ h.2
  simp_all
theorem ya {d:Nat}:∀{pre:List Nat} {n:Nat} {post:List Nat},ph d (pre++n::post)=true→(∀s∈pre,if up d then s<n else n<s)∧(∀s∈post,if up d then n<s else s<n)∧(∀s∈pre,s∉post)∧n∉post
 | [],n,post,h=>by
  simp only[List.nil_append,ph,E',List.all_eq_true]at h
  grind
 |a::pre,n,post,h=>by
  simp only[List.cons_append,ph,E',List.all_eq_true]at h
  obtain⟨h1,h2,h3,h4⟩:=ya h.2
  grind
theorem JC {a d:Nat}(ha:a<64)(hd:d<8)(occ:BitVec 64){t:Nat}(ht:t<64):(qP a d occ).getLsbD t=decide (t∈seen occ (nn a d)):=by
 obtain⟨e1,e2,e3⟩:=A4 ⟨a,ha⟩ ⟨d,hd⟩;simp only at e1 e2 e3;unfold qP;rw[e1];generalize hl:nn a d=l at e2 e3⊢;rcases Dt occ l with h|⟨pre,n,post,rfl,h1,h2⟩
 ·have hz:fK l&&&occ=0#64:=by
   apply BitVec.eq_of_getLsbD_eq;intro i hi;rw[BitVec.getLsbD_and,fX l i hi];by_cases hm:i∈l
   ·rw[h i hm];simp
   ·simp[hm]
  rw[hz,show((0#64:BitVec 64)==0#64)=true from rfl,cond_true,Cj h,fX l t ht]
 ·obtain⟨t1,t2,t3,t4⟩:=wQ e2;obtain⟨s1,s2,s3,s4⟩:=ya e3;generalize hL:pre++n::post=L at *;have memL:∀i,i∈L ↔ (i∈pre∨i=n∨i∈post):=by grind
  have bit:∀i,i<64→(fK L&&&occ).getLsbD i=(decide (i∈L)&&occ.getLsbD i):=fun i hi=>by rw[BitVec.getLsbD_and,fX L i hi]
  have bn:(fK L&&&occ).getLsbD n=true:=by rw[bit n t2,h2];simp[memL]
  have hnz:(fK L&&&occ==0#64)=false:=by rw[beq_eq_false_iff_ne];intro e;rw[e]at bn;simp at bn
  have fin:(fK L &&& ~~~jr (n:Int) d).getLsbD t=decide (t∈seen occ L):=by
   obtain⟨f1,_⟩:=A4 ⟨n,t2⟩ ⟨d,hd⟩;simp only at f1;rw[f1,t1,BitVec.getLsbD_and,BitVec.getLsbD_not,fX L t ht,fX post t ht,←hL,uP h1 h2];simp only[ht,decide_true,Bool.true_and,List.mem_append,List.mem_cons,List.not_mem_nil,or_false];by_cases p1:t∈pre
   ·simp_all
   ·grind
  rw[hnz,cond_false];by_cases hu:up d=true
  ·have low:sL (fK L&&&occ)=n:=wJ t2 bn (by grind);rw[low];have hdir:d=0∨d=1∨d=2∨d=7:=by unfold up at hu;simp only[Bool.or_eq_true,beq_iff_eq]at hu;omega
   grind
  ·have high:DQ (fK L&&&occ)=n:=Iu t2 bn (by grind);rw[high];have hdir:3≤d∧d≤6:=by unfold up at hu;simp only[Bool.or_eq_true,beq_iff_eq]at hu;omega
   grind
end Kz
namespace Kz
open Go Go.RowKit Go.Proofs
def K82:KT:=[(82,17,[(0,[0,6,7,8,11,12,13]),(1,[0,14]),(2,[2]),(3,[2])])]
def B82:ar:=bO Pz K82 [] [] []
theorem alz:aP B82:=ae af trivial trivial trivial
def bE (a:Int):Int:=(bif decide (a>15)then(0)else(bif decide (a.tmod 8<1)then(0)else(bif decide (a.tmod 8>6)then(0)else(a.tmod 8))))
def amn (a:Int):Bool:=true
theorem P82 (a:Int)(h:amn a=true):PS Pz 82 [.int .u8 a] ((dI .u8).res (bE a)):=pq14 alz h
def nN:GT:=g1 (dI .u8) (fun a=>.ret ((dI .u8).res (bE a)))
theorem nV:Sound Pz 82 nN:=aH fun a=>bH (P82 a rfl)
def asW:KT:=[(250,7,[(0,[0]),(1,[0,4]),(2,[2]),(3,[6]),(4,[2]),(5,[2])])]
def alJ:ar:=bO Pz asW [] [] []
theorem ai4:aP alJ:=ae af trivial trivial trivial
def nM (a:Int):Int:=(bif decide (a<0)then(-1)else(bif decide (a>0)then(1)else(0)))
def ags (a:Int):Bool:=true
theorem aoU (a:Int)(h:ags a=true):PS Pz 250 [.int .i64 a] ((dI .i64).res (nM a)):=pq14 ai4 h
def ZQ:GT:=g1 (dI .i64) (fun a=>.ret ((dI .i64).res (nM a)))
theorem aic:Sound Pz 250 ZQ:=aH fun a=>bH (aoU a rfl)
def aeP:KT:=[(207,38,[(0,[1,2,3]),(1,[1,2,3,7]),(2,[2,3,7,8]),(3,[2,3,7,8,28]),(4,[2,3,7,8]),(5,[2,3,7,8,37]),(6,[6]),(7,[6])])]
def abM:ar:=bO Pz aeP [(82,nN),(250,ZQ)] [] []
theorem UY:aP abM:=ae af ⟨nV,aic,trivial⟩ trivial trivial
def NL (p1:Int)(p2:Int)(p3:Pos)(x:(Int)):St:=St.mk (.any::.any::.int .i64 p1::.ptr 0 0::(an 3 (.int .i64 p2::.int .i64 x::(an 29 [])))) (Hp.mk [(pc p3 [])] [] [] 0 0 0)
def M1 (p1:Int)(p2:Int)(p3:Pos):Unit ⊕ (Int×Bool)→Out
 |(.inl (y))=>.ret (St.mk (an 6 (AV.aU false::(an 31 []))) (Hp.mk [(pc p3 [])] [] [] 0 0 0))
 |(.inr (y))=>.exit 0 (St.mk (AV.any::AV.any::AV.int .i64 p1::AV.ptr 0 0::(an 3 (AV.int .i64 p2::AV.int .i64 y.1::(an 19 (AV.bool y.2::(an 9 [])))))) (Hp.mk [(pc p3 [])] [] [] 0 0 0))
def kL (p1:Int)(p2:Int)(p3:Pos)(x:(Int)):aG (Int) (Unit ⊕ (Int×Bool)):=(bif x != p1 then(bif bE (p3.ab.getD (scale 1 x).toNat 0) != 0 then(aG.out (.inl (())))else(aG.go (wr .i64 (x+p2))))else(aG.out (.inr ((x,x != p1)))))
def jc (p1:Int)(p2:Int)(p3:Pos)(x:(Int)):Bool:=(bif x != p1 then(decide (0≤x)&&decide (x < ↑64)&&true)else true)
def nB (p1:Int)(p2:Int)(p3:Pos)(x:(Int)):Option (Unit ⊕ (Int×Bool)):=cW (fun x=>bif jc p1 p2 p3 x then kL p1 p2 p3 x else .bad) many x
abbrev N0 {α:Type}(k:Int→Int→Pos→(Int)→α)(s:St):α:=wP s 0 fun q0=>k (tI (tT s 2)) (tI (tT s 7)) q0 ((tI (tT s 8)))
theorem aai (p1:Int)(p2:Int)(p3:Pos)(x:(Int))(r:Unit ⊕ (Int×Bool))(h:nB p1 p2 p3 x=some r):aC Pz (bc Pz 207 3) (NL p1 p2 p3 x) (M1 p1 p2 p3 r):=aC.Be (m:=12) (fn:=207) UY (N0 fun _ _ _ x=>some x) (fun o=>match o with | .ret s=>some (.inl ()) | .exit 0 s=>some (.inr ((tI (tT s 8)),(tB (tT s 28))))|_=>none) (fun r=>by cases r<;>rfl) (fun _=>by kernel_rfl) (fun _=>by kernel_rfl) (fun _=>by kernel_rfl) (fun _=>by kernel_rfl) many x r h
def Px (b:Code)(s:St):Tr Out:=N0 (fun p1 p2 p3 x=>Bg b (bc Pz 207 3) s (NL p1 p2 p3 x) (nB p1 p2 p3 x) (M1 p1 p2 p3)) s
theorem S5:∀b,aT Pz b (Px b):=fun _ _ _ h=>eZ (aai _ _ _ _) h
def alV:ar:=bO Pz aeP [(82,nN),(250,ZQ)] [(207,3,Px)] []
theorem aeC:aP alV:=ae af ⟨nV,aic,trivial⟩ ⟨S5,trivial⟩ trivial
def ez (a:Pos)(b:Int)(c:Int):Bool:=(bif cQ ((nB c (wr .i64 (wr .i64 (8*nM (wr .i64 (wr .i64 (c.tdiv 8)-wr .i64 (b.tdiv 8))))+nM (wr .i64 (c.tmod 8-b.tmod 8)))) a (wr .i64 (b+wr .i64 (wr .i64 (8*nM (wr .i64 (wr .i64 (c.tdiv 8)-wr .i64 (b.tdiv 8))))+nM (wr .i64 (c.tmod 8-b.tmod 8)))))).getD default)then(false)else(true))
def mE (a:Pos)(b:Int)(c:Int):Bool:=((nB c (wr .i64 (wr .i64 (8*nM (wr .i64 (wr .i64 (c.tdiv 8)-wr .i64 (b.tdiv 8))))+nM (wr .i64 (c.tmod 8-b.tmod 8)))) a (wr .i64 (b+wr .i64 (wr .i64 (8*nM (wr .i64 (wr .i64 (c.tdiv 8)-wr .i64 (b.tdiv 8))))+nM (wr .i64 (c.tmod 8-b.tmod 8)))))).isSome&&bif cQ ((nB c (wr .i64 (wr .i64 (8*nM (wr .i64 (wr .i64 (c.tdiv 8)-wr .i64 (b.tdiv 8))))+nM (wr .i64 (c.tmod 8-b.tmod 8)))) a (wr .i64 (b+wr .i64 (wr .i64 (8*nM (wr .i64 (wr .i64 (c.tdiv 8)-wr .i64 (b.tdiv 8))))+nM (wr .i64 (c.tmod 8-b.tmod 8)))))).getD default)then true else true)
theorem auk (a:Pos)(b:Int)(c:Int)(h:mE a b c=true):PS Pz 207 [Pos.av a,.int .i64 b,.int .i64 c] (dB.res (ez a b c)):=pq14 aeC h
def ago:GT:=g3 aZ (dI .i64) (dI .i64) (fun a b c=>b7 (mE a b c) (dB.res (ez a b c)))
theorem apH:Sound Pz 207 ago:=db fun a b c=>aA (auk a b c)
end Kz
namespace Kz
open Go Go.RowKit
def jl (d:Nat):Int:=[8,9,1,-7,-8,-9,-1,7].getD d 0
def zX (d:Nat):Nat→List Nat→Bool
 |_,[]=>true
 |a,s::l=>decide ((s:Int)=a+jl d)&&decide (s<64)&&zX d s l
def WU (a b:Int):Int:=wr .i64 (wr .i64 (8*nM (wr .i64 (wr .i64 (b.tdiv 8)-wr .i64 (a.tdiv 8))))+nM (wr .i64 (b.tmod 8-a.tmod 8)))
theorem JU:∀(a:Fin 64) (d:Fin 8),(zX d.val a.val (nn a.val d.val)&&(nn a.val d.val).all fun b=>decide (WU a.val b=jl d.val))=true:=by decide +kernel
theorem VI (p:Pos){d:Nat}(hd:d<8){c:Nat}:∀(l:List Nat) (a:Nat),zX d a l=true→a<64→c∈l→l.length≤64→∃r,cW (fun x=>bif jc c (jl d) p x then kL c (jl d) p x else .bad) (l.length+1) (a+jl d)=some r∧(cQ r=false ↔ ∀pre post,l=pre++c::post→c∉pre→∀s∈pre,bE (p.ab.getD s 0)=0)
 | [],_,_,_,h,_=>by cases h
 |s::l,a,h,ha,hc,hn=>by
  simp only[zX,E',decide_eq_true_eq]at h
  obtain⟨⟨h1,h2⟩,h3⟩:=h
  rw[←h1]
  have hsc:(scale 1 (s:Int)).toNat=s:=by rw[ir];omega
  have hoff : -9≤jl d∧jl d≤9:=by
   have:∀d:Fin 8,-9≤jl d.val∧jl d.val≤9:=by decide
   exact this ⟨d,hd⟩
  by_cases e:s=c
  ·subst e
   refine⟨.inr ((s:Int),false),?_,?_⟩
   ·rw[cW]
    unfold jc kL
    simp
   ·refine⟨fun _ pre post hl hp s' hs'=>?_,fun _=>rfl⟩
    cases pre with
    |nil=>cases hs'
    |cons x pre =>
     simp_all
  ·have hcl:c∈l:=by
    simp only[List.mem_cons]at hc
    rcases hc with hc|hc
    ·exact absurd hc.symm e
    ·exact hc
   have hne:((s:Int) != (c:Int))=true:=by simp;omega
   by_cases ho:bE (p.ab.getD s 0)=0
   ·obtain⟨r,q1,q2⟩:=VI p hd l s h3 h2 hcl (by simp at hn;omega)
    refine⟨r,?_,?_⟩
    ·rw[List.length_cons,cW]
     have:(bif jc c (jl d) p (s:Int)then kL c (jl d) p (s:Int)else .bad)=.go ((s:Int)+jl d):=by
      unfold jc kL
      rw[hne,hsc,ho,aF (n:=(s:Int)+jl d) (by omega) (by omega),show(decide (0≤(s:Int))&&decide ((s:Int)<64)&&true)=true by simp;omega]
      rfl
     simp_all
    ·rw[q2]
     constructor
     ·intro hq pre post hl hp t ht
      cases pre with
      |nil=>cases ht
      |cons x pre =>
       grind
     grind
   ·refine⟨.inl (),?_,?_⟩
    ·rw[List.length_cons,cW]
     have:(bif jc c (jl d) p (s:Int)then kL c (jl d) p (s:Int)else .bad)=.out (.inl ()):=by
      unfold jc kL
      rw[hne,hsc,show(bE (p.ab.getD s 0) != 0)=true by simpa using ho,show(decide (0≤(s:Int))&&decide ((s:Int)<64)&&true)=true by simp;omega]
      rfl
     rw[this]
    ·constructor
     ·intro h;cases h
     ·intro hq
      obtain⟨pre,post,hl,hp⟩:∃pre post,s::l=pre++c::post∧c∉pre:=by
       have:∀l:List Nat,c∈l→∃pre post,l=pre++c::post∧c∉pre:=by
        intro l
        induction l with
        |nil=>intro h;cases h
        |cons y l ih =>
         intro h
         by_cases ey:y=c
         ·exact⟨[],l,by rw[ey];rfl,by simp⟩
         grind
       exact this _ hc
      have hs:s∈pre:=by
       cases pre with
       |nil =>
        simp_all
       |cons x pre =>
        simp_all
      grind
theorem j4 {X R:Type}{st:X→aG X R}:∀(n m:Nat) (x:X) (r:R),n≤m→cW st n x=some r→cW st m x=some r
 | 0,_,_,_,_,h=>by cases h
 |n+1,0,_,_,h,_=>by omega
 |n+1,m+1,x,r,hm,h=>by
  rw[cW]at h⊢
  cases hs:st x with
  |go y=>rw[hs]at h;exact j4 n m y r (by omega) h
  |out q=>rw[hs]at h;exact h
  |bad=>rw[hs]at h;cases h
theorem Bj {occ:BitVec 64}{c:Nat}:∀{l:List Nat},c∈seen occ l→c∈l
 | [],h=>h
 |s::l,h=>by
  simp only[seen,List.mem_cons]at h
  rcases h with rfl|h
  ·simp
  ·cases ho:occ.getLsbD s with
   |true=>rw[ho]at h;cases h
   |false=>rw[ho]at h;exact List.mem_cons_of_mem _ (Bj h)
theorem vl {occ:BitVec 64}{c:Nat}:∀{l:List Nat},c∈l→(c∈seen occ l ↔ ∀pre post,l=pre++c::post→c∉pre→∀s∈pre,occ.getLsbD s=false)
 | [],h=>by cases h
 |s::l,h=>by
  by_cases e:s=c
  ·subst e
   refine⟨fun _ pre post hl hp t ht=>?_,fun _=>by simp[seen]⟩
   cases pre with
   |nil=>cases ht
   |cons x pre =>
    simp_all
  ·have hcl:c∈l:=by
    simp only[List.mem_cons]at h
    rcases h with h|h
    ·exact absurd h.symm e
    ·exact h
   have ih:=vl (occ:=occ) hcl
   have hx:c∈seen occ (s::l) ↔ occ.getLsbD s=false∧c∈seen occ l:=by
    simp only[seen,List.mem_cons]
    cases occ.getLsbD s with
    |true=>simp;omega
    |false=>simp;omega
   rw[hx,ih]
   constructor
   ·rintro⟨h1,h2⟩ pre post hl hp t ht
    cases pre with
    |nil=>cases ht
    |cons x pre =>
     grind
   ·intro hq
    have ex:∀l:List Nat,c∈l→∃pre post,l=pre++c::post∧c∉pre:=by
     intro l
     induction l with
     |nil=>intro h;cases h
     |cons y l ih =>
      intro h
      by_cases ey:y=c
      ·exact⟨[],l,by rw[ey];rfl,by simp⟩
      grind
    refine⟨?_,fun pre post hl hp t ht=>?_⟩
    ·obtain⟨pre,post,e1,e2⟩:=ex l hcl
     exact hq (s::pre) post (by rw[e1];rfl) (by simp[e2];omega) s (by simp)
    grind
theorem nE (p:Pos){occ:BitVec 64}(hocc:∀s,s<64→(occ.getLsbD s=false ↔ bE (p.ab.getD s 0)=0)){a d c:Nat}(ha:a<64)(hd:d<8)(hc:c∈nn a d):mE p a c=true∧ez p a c=decide (c∈seen occ (nn a d)):=by
 have f1:=JU ⟨a,ha⟩ ⟨d,hd⟩;simp only[E',List.all_eq_true,decide_eq_true_eq]at f1;obtain⟨f1,f2⟩:=f1;obtain⟨_,f3,_⟩:=A4 ⟨a,ha⟩ ⟨d,hd⟩;simp only at f3;have hstep:=f2 c hc;unfold WU at hstep;have hlen:(nn a d).length≤8:=by
  have:∀n a,(Lf n a d).length≤n:=by
   intro n;induction n with
   |zero=>intro a;simp[Lf]
   |succ n ih =>intro a;unfold Lf;grind
  exact this 8 a
 have lt64:∀s∈nn a d,s<64:=by intro s hs;obtain⟨pre,post,e⟩:=List.append_of_mem hs;rw[e]at f3;exact(wQ f3).2.1
 obtain⟨r,q1,q2⟩:=VI p hd (nn a d) a f1 ha hc (by omega);have hoff : -9≤jl d∧jl d≤9:=by
  have:∀d:Fin 8,-9≤jl d.val∧jl d.val≤9:=by decide
  exact this ⟨d,hd⟩
 have q3:=j4 _ many _ _ (by unfold many;omega) q1;have hl:nB c (jl d) p (a+jl d)=some r:=q3;have hres:cQ r=!decide (c∈seen occ (nn a d)):=by
  have key:cQ r=false ↔ c∈seen occ (nn a d):=by
   rw[q2,vl hc];constructor
   ·simp_all
   ·simp_all
  cases hb:cQ r with
  |false=>simp_all
  |true =>simp_all
 constructor
 ·unfold mE;rw[hstep,aF (n:=(a:Int)+jl d) (by omega) (by omega),hl];simp_all
 ·unfold ez;rw[hstep,aF (n:=(a:Int)+jl d) (by omega) (by omega),hl,Option.getD_some,hres];simp_all
end Kz
namespace Kz
open Go Go.RowKit Go.Proofs
def K83:KT:=[(83,5,[(0,[0]),(1,[2])])]
def B83:ar:=bO Pz K83 [] [] []
theorem apN:aP B83:=ae af trivial trivial trivial
def oQ (a:Int):Int:=(wr .u8 (a.tdiv 8))
def aq0 (a:Int):Bool:=true
theorem P83 (a:Int)(h:aq0 a=true):PS Pz 83 [.int .u8 a] ((dI .u8).res (oQ a)):=pq14 apN h
def V5:GT:=g1 (dI .u8) (fun a=>.ret ((dI .u8).res (oQ a)))
theorem Yy:Sound Pz 83 V5:=aH fun a=>bH (P83 a rfl)
def as4:KT:=[(206,8,[(0,[0]),(1,[0,4]),(2,[2]),(3,[2])])]
def apc:ar:=bO Pz as4 [] [] []
theorem acT:aP apc:=ae af trivial trivial trivial
def cp (a:Int):Int:=(bif decide (a<0)then(wr .i64 (0-a))else(a))
def aiW (a:Int):Bool:=true
theorem aq8 (a:Int)(h:aiW a=true):PS Pz 206 [.int .i64 a] ((dI .i64).res (cp a)):=pq14 acT h
def Zn:GT:=g1 (dI .i64) (fun a=>.ret ((dI .i64).res (cp a)))
theorem aeF:Sound Pz 206 Zn:=aH fun a=>bH (aq8 a rfl)
def amH:KT:=[(153,26,[(0,(0::1::(rn 9 7 (rn 18 7 [])))),(1,[4])])]
def anJ:ar:=bO Pz amH [(206,Zn)] [] []
theorem ai6:aP anJ:=ae af ⟨aeF,trivial⟩ trivial trivial
def jn (a:Int)(b:Int):Bool:=(bif a != b then(bif decide (cp (wr .i64 (wr .i64 (a.tdiv 8)-wr .i64 (b.tdiv 8)))≤1)then(decide (cp (wr .i64 (a.tmod 8-b.tmod 8))≤1))else(false))else(false))
def ag7 (a:Int)(b:Int):Bool:=true
theorem ash (a:Int)(b:Int)(h:ag7 a b=true):PS Pz 153 [.int .i64 a,.int .i64 b] (dB.res (jn a b)):=pq14 ai6 h
def BF:GT:=g2 (dI .i64) (dI .i64) (fun a b=>.ret (dB.res (jn a b)))
theorem FN:Sound Pz 153 BF:=aO fun a b=>bH (ash a b rfl)
def asl:KT:=[(154,112,[(0,(1::2::3::37::38::50::51::56::57::65::66::(rn 69 7 (rn 86 4 (rn 95 4 (104::(rn 107 4 []))))))),(1,(1::2::3::7::37::38::50::51::56::57::65::66::(rn 69 7 (rn 86 4 (rn 95 4 (104::(rn 107 4 []))))))),(2,(1::2::3::7::8::9::37::38::50::51::56::57::65::66::(rn 69 7 (rn 86 4 (rn 95 4 (104::(rn 107 4 []))))))),(3,(1::2::3::(rn 7 4 (37::38::50::51::56::57::65::66::(rn 69 7 (rn 86 4 (rn 95 4 (104::(rn 107 4 []))))))))),(4,(1::2::3::(rn 7 5 (50::51::56::57::65::66::(rn 69 7 (rn 86 4 (rn 95 4 (104::(rn 107 4 []))))))))),(5,(1::2::3::(rn 7 5 (41::50::51::56::57::65::66::(rn 69 7 (rn 86 4 (rn 95 4 (104::(rn 107 4 []))))))))),(6,(1::2::3::(rn 7 5 (41::42::50::51::56::57::65::66::(rn 69 7 (rn 86 4 (rn 95 4 (104::(rn 107 4 []))))))))),(7,[8,9,46,50,51,56,57]),(8,[6]),(9,[6]),(10,(1::2::3::(rn 8 4 (41::59::65::66::(rn 69 7 (rn 86 4 (rn 95 4 (104::(rn 107 4 []))))))))),(11,[6]),(12,(1::2::3::10::11::41::77::(rn 86 4 (rn 95 4 (104::(rn 107 4 [])))))),(13,[6]),(14,(1::2::3::10::11::41::82::(rn 86 4 (rn 95 4 (104::(rn 107 4 [])))))),(15,[6]),(16,(1::2::3::10::11::41::91::(rn 95 4 (104::(rn 107 4 []))))),(17,[6]),(18,(1::2::3::10::11::100::104::(rn 107 4 []))),(19,[6]),(20,[6])])]
def aqf:ar:=bO Pz asl [(82,nN),(83,V5),(153,BF),(206,Zn),(207,ago)] [] []
theorem adN:aP aqf:=ae af ⟨nV,Yy,FN,aeF,apH,trivial⟩ trivial trivial
def oC (a:Pos)(b:Int)(c:Int):Bool:=(bif cp (wr .i64 (wr .i64 (c.tdiv 8)-wr .i64 (b.tdiv 8)))==cp (wr .i64 (c.tmod 8-b.tmod 8))then(bif bE (a.ab.getD (scale 1 b).toNat 0)==1 then(bif oQ (a.ab.getD (scale 1 b).toNat 0)==0 then(bif wr .i64 (wr .i64 (c.tdiv 8)-wr .i64 (b.tdiv 8))==1 then(cp (wr .i64 (c.tmod 8-b.tmod 8))==1)else(false))else(bif wr .i64 (wr .i64 (c.tdiv 8)-wr .i64 (b.tdiv 8)) == -1 then(cp (wr .i64 (c.tmod 8-b.tmod 8))==1)else(false)))else(bif bE (a.ab.getD (scale 1 b).toNat 0)==2 then(bif cp (wr .i64 (wr .i64 (c.tdiv 8)-wr .i64 (b.tdiv 8)))==1 then(bif cp (wr .i64 (c.tmod 8-b.tmod 8))==2 then(true)else(bif cp (wr .i64 (wr .i64 (c.tdiv 8)-wr .i64 (b.tdiv 8)))==2 then(cp (wr .i64 (c.tmod 8-b.tmod 8))==1)else(false)))else(bif cp (wr .i64 (wr .i64 (c.tdiv 8)-wr .i64 (b.tdiv 8)))==2 then(cp (wr .i64 (c.tmod 8-b.tmod 8))==1)else(false)))else(bif bE (a.ab.getD (scale 1 b).toNat 0)==6 then(jn b c)else(bif bE (a.ab.getD (scale 1 b).toNat 0)==4 then(bif cg BinOp.neq ((wr .i64 (wr .i64 (c.tdiv 8)-wr .i64 (b.tdiv 8))==0)==(cp (wr .i64 (c.tmod 8-b.tmod 8))==0))then(ez a b c)else(false))else(bif bE (a.ab.getD (scale 1 b).toNat 0)==3 then(bif decide (cp (wr .i64 (c.tmod 8-b.tmod 8))>0)then(ez a b c)else(false))else(bif bE (a.ab.getD (scale 1 b).toNat 0)==5 then(bif cg BinOp.neq ((wr .i64 (wr .i64 (c.tdiv 8)-wr .i64 (b.tdiv 8))==0)==(cp (wr .i64 (c.tmod 8-b.tmod 8))==0))then(ez a b c)else(bif decide (cp (wr .i64 (c.tmod 8-b.tmod 8))>0)then(ez a b c)else(false)))else(false)))))))else(bif bE (a.ab.getD (scale 1 b).toNat 0)==1 then(bif oQ (a.ab.getD (scale 1 b).toNat 0)==0 then(bif wr .i64 (wr .i64 (c.tdiv 8)-wr .i64 (b.tdiv 8))==1 then(cp (wr .i64 (c.tmod 8-b.tmod 8))==1)else(false))else(bif wr .i64 (wr .i64 (c.tdiv 8)-wr .i64 (b.tdiv 8)) == -1 then(cp (wr .i64 (c.tmod 8-b.tmod 8))==1)else(false)))else(bif bE (a.ab.getD (scale 1 b).toNat 0)==2 then(bif cp (wr .i64 (wr .i64 (c.tdiv 8)-wr .i64 (b.tdiv 8)))==1 then(bif cp (wr .i64 (c.tmod 8-b.tmod 8))==2 then(true)else(bif cp (wr .i64 (wr .i64 (c.tdiv 8)-wr .i64 (b.tdiv 8)))==2 then(cp (wr .i64 (c.tmod 8-b.tmod 8))==1)else(false)))else(bif cp (wr .i64 (wr .i64 (c.tdiv 8)-wr .i64 (b.tdiv 8)))==2 then(cp (wr .i64 (c.tmod 8-b.tmod 8))==1)else(false)))else(bif bE (a.ab.getD (scale 1 b).toNat 0)==6 then(jn b c)else(bif bE (a.ab.getD (scale 1 b).toNat 0)==4 then(bif cg BinOp.neq ((wr .i64 (wr .i64 (c.tdiv 8)-wr .i64 (b.tdiv 8))==0)==(cp (wr .i64 (c.tmod 8-b.tmod 8))==0))then(ez a b c)else(false))else(bif bE (a.ab.getD (scale 1 b).toNat 0)==3 then(false)else(bif bE (a.ab.getD (scale 1 b).toNat 0)==5 then(bif cg BinOp.neq ((wr .i64 (wr .i64 (c.tdiv 8)-wr .i64 (b.tdiv 8))==0)==(cp (wr .i64 (c.tmod 8-b.tmod 8))==0))then(ez a b c)else(false))else(false))))))))
def qb (a:Pos)(b:Int)(c:Int):Bool:=(decide (0≤b)&&decide (b<Int.ofNat 64)&&(bif cp (wr .i64 (wr .i64 (c.tdiv 8)-wr .i64 (b.tdiv 8)))==cp (wr .i64 (c.tmod 8-b.tmod 8))then(bif bE (a.ab.getD (scale 1 b).toNat 0)==1 then true else(bif bE (a.ab.getD (scale 1 b).toNat 0)==2 then true else(bif bE (a.ab.getD (scale 1 b).toNat 0)==6 then true else(bif bE (a.ab.getD (scale 1 b).toNat 0)==4 then(bif cg BinOp.neq ((wr .i64 (wr .i64 (c.tdiv 8)-wr .i64 (b.tdiv 8))==0)==(cp (wr .i64 (c.tmod 8-b.tmod 8))==0))then(mE a b c&&true)else true)else(bif bE (a.ab.getD (scale 1 b).toNat 0)==3 then(bif decide (cp (wr .i64 (c.tmod 8-b.tmod 8))>0)then(mE a b c&&true)else true)else(bif bE (a.ab.getD (scale 1 b).toNat 0)==5 then(bif cg BinOp.neq ((wr .i64 (wr .i64 (c.tdiv 8)-wr .i64 (b.tdiv 8))==0)==(cp (wr .i64 (c.tmod 8-b.tmod 8))==0))then(mE a b c&&true)else(bif decide (cp (wr .i64 (c.tmod 8-b.tmod 8))>0)then(mE a b c&&true)else true))else true))))))else(bif bE (a.ab.getD (scale 1 b).toNat 0)==1 then true else(bif bE (a.ab.getD (scale 1 b).toNat 0)==2 then true else(bif bE (a.ab.getD (scale 1 b).toNat 0)==6 then true else(bif bE (a.ab.getD (scale 1 b).toNat 0)==4 then(bif cg BinOp.neq ((wr .i64 (wr .i64 (c.tdiv 8)-wr .i64 (b.tdiv 8))==0)==(cp (wr .i64 (c.tmod 8-b.tmod 8))==0))then(mE a b c&&true)else true)else(bif bE (a.ab.getD (scale 1 b).toNat 0)==3 then true else(bif bE (a.ab.getD (scale 1 b).toNat 0)==5 then(bif cg BinOp.neq ((wr .i64 (wr .i64 (c.tdiv 8)-wr .i64 (b.tdiv 8))==0)==(cp (wr .i64 (c.tmod 8-b.tmod 8))==0))then(mE a b c&&true)else true)else true))))))))
theorem asT (a:Pos)(b:Int)(c:Int)(h:qb a b c=true):PS Pz 154 [Pos.av a,.int .i64 b,.int .i64 c] (dB.res (oC a b c)):=pq14 adN h
def Ep:GT:=g3 aZ (dI .i64) (dI .i64) (fun a b c=>b7 (qb a b c) (dB.res (oC a b c)))
theorem Ja:Sound Pz 154 Ep:=db fun a b c=>aA (asT a b c)
end Kz
namespace Kz
open Go Go.RowKit
def Bf (b c:Int):Int:=wr IntKind.i64 (wr IntKind.i64 (c.tdiv 8)-wr IntKind.i64 (b.tdiv 8))
def xq (b c:Int):Int:=wr IntKind.i64 (c.tmod 8-b.tmod 8)
def cX (k col b c:Int)(cl:Bool):Bool:=(bif cp (Bf b c)==cp (xq b c)then(bif k==1 then(bif col==0 then(bif Bf b c==1 then(cp (xq b c)==1)else(false))else(bif Bf b c == -1 then(cp (xq b c)==1)else(false)))else(bif k==2 then(bif cp (Bf b c)==1 then(bif cp (xq b c)==2 then(true)else(bif cp (Bf b c)==2 then(cp (xq b c)==1)else(false)))else(bif cp (Bf b c)==2 then(cp (xq b c)==1)else(false)))else(bif k==6 then(jn b c)else(bif k==4 then(bif cg BinOp.neq ((Bf b c==0)==(cp (xq b c)==0))then(cl)else(false))else(bif k==3 then(bif decide (cp (xq b c)>0)then(cl)else(false))else(bif k==5 then(bif cg BinOp.neq ((Bf b c==0)==(cp (xq b c)==0))then(cl)else(bif decide (cp (xq b c)>0)then(cl)else(false)))else(false)))))))else(bif k==1 then(bif col==0 then(bif Bf b c==1 then(cp (xq b c)==1)else(false))else(bif Bf b c == -1 then(cp (xq b c)==1)else(false)))else(bif k==2 then(bif cp (Bf b c)==1 then(bif cp (xq b c)==2 then(true)else(bif cp (Bf b c)==2 then(cp (xq b c)==1)else(false)))else(bif cp (Bf b c)==2 then(cp (xq b c)==1)else(false)))else(bif k==6 then(jn b c)else(bif k==4 then(bif cg BinOp.neq ((Bf b c==0)==(cp (xq b c)==0))then(cl)else(false))else(bif k==3 then(false)else(bif k==5 then(bif cg BinOp.neq ((Bf b c==0)==(cp (xq b c)==0))then(cl)else(false))else(false))))))))
theorem tJ (p:Pos)(b c:Int):oC p b c=cX (bE (p.ab.getD (scale 1 b).toNat 0)) (oQ (p.ab.getD (scale 1 b).toNat 0)) b c (ez p b c):=by kernel_rfl
def lW (a b:Nat):Bool:=decide (b∈nn a 0) ||decide (b∈nn a 2) ||decide (b∈nn a 4) ||decide (b∈nn a 6)
def lK (a b:Nat):Bool:=decide (b∈nn a 1) ||decide (b∈nn a 3) ||decide (b∈nn a 5) ||decide (b∈nn a 7)
theorem qH:∀a b:Fin 64,cX 2 0 a.val b.val false=(uF a.val).getLsbD b.val∧cX 6 0 a.val b.val false=(fA a.val).getLsbD b.val ∧
  cX 4 0 a.val b.val true=lW a.val b.val∧cX 4 0 a.val b.val false=false ∧
  cX 3 0 a.val b.val true=lK a.val b.val∧cX 3 0 a.val b.val false=false ∧
  cX 5 0 a.val b.val true=(lW a.val b.val ||lK a.val b.val)∧cX 5 0 a.val b.val false=false:=by decide +kernel
theorem j5 {k col a b:Int}{cl:Bool}(h1:(k==1)=false):cX k col a b cl=cX k 0 a b cl:=by unfold cX;rw[h1];rfl
noncomputable section
variable {p:Pos}{occ:BitVec 64}(hocc:∀s,s<64→(occ.getLsbD s=false ↔ bE (p.ab.getD s 0)=0)){a b:Nat}(ha:a<64)(hb:b<64)
include hocc ha hb
theorem jE {d:Nat}(hd:d<8):(qP a d occ).getLsbD b=(decide (b∈nn a d)&&ez p a b):=by
 rw[JC ha hd occ hb];by_cases h:b∈nn a d
 ·rw[(nE p hocc ha hd h).2];simp[h]
 ·have:b∉seen occ (nn a d):=fun hs=>h (Bj hs);simp[h,this]
theorem uq:(xw a occ).getLsbD b=(lW a b&&ez p a b):=by unfold xw lW;have h0:=jE hocc ha hb (d:=0) (by decide);have h2:=jE hocc ha hb (d:=2) (by decide);have h4:=jE hocc ha hb (d:=4) (by decide);have h6:=jE hocc ha hb (d:=6) (by decide);grind
theorem oJ:(xF a occ).getLsbD b=(lK a b&&ez p a b):=by unfold xF lK;have h0:=jE hocc ha hb (d:=1) (by decide);have h2:=jE hocc ha hb (d:=3) (by decide);have h4:=jE hocc ha hb (d:=5) (by decide);have h6:=jE hocc ha hb (d:=7) (by decide);grind
theorem yy:(Ai a occ).getLsbD b=((lW a b ||lK a b)&&ez p a b):=by unfold Ai;rw[BitVec.getLsbD_or,uq hocc ha hb,oJ hocc ha hb];grind
def GI (k:Int)(a:Nat)(occ:BitVec 64):BitVec 64:=bif k==2 then uF a else bif k==3 then xF a occ else bif k==4 then xw a occ else bif k==5 then Ai a occ else fA a
theorem Pv (hk:2≤bE (p.ab.getD a 0)∧bE (p.ab.getD a 0)≤6):oC p a b=(GI (bE (p.ab.getD a 0)) a occ).getLsbD b:=by
 obtain⟨f2,f6,f4,f4',f3,f3',f5,f5'⟩:=qH ⟨a,ha⟩ ⟨b,hb⟩;simp only at f2 f6 f4 f4' f3 f3' f5 f5';have hr:=uq hocc ha hb;have hbi:=oJ hocc ha hb;have hqu:=yy hocc ha hb;rw[tJ,show(scale 1 (a:Int)).toNat=a by unfold scale;simp];generalize oQ (p.ab.getD a 0)=col;generalize bE (p.ab.getD a 0)=k at hk;rw[j5 (by simp;omega)];have hk':k=2∨k=3∨k=4∨k=5∨k=6:=by omega
 rcases hk' with rfl|rfl|rfl|rfl|rfl
 ·show cX 2 0 a b (ez p a b)=(uF a).getLsbD b;rw[←f2];rfl
 ·show cX 3 0 a b (ez p a b)=(xF a occ).getLsbD b;rw[hbi];cases ez p a b
  ·simp_all
  simp_all
 ·show cX 4 0 a b (ez p a b)=(xw a occ).getLsbD b;rw[hr];cases ez p a b
  ·simp_all
  simp_all
 ·show cX 5 0 a b (ez p a b)=(Ai a occ).getLsbD b;rw[hqu];cases ez p a b
  ·simp_all
  simp_all
 ·show cX 6 0 a b (ez p a b)=(fA a).getLsbD b;rw[←f6];rfl
end
end Kz
namespace Kz
open Go Go.RowKit Go.Proofs
def K97:KT:=[(97,11,[(0,[1,2]),(1,[4])])]
def B97:ar:=bO Pz K97 [(82,nN)] [] []
theorem atv:aP B97:=ae af ⟨nV,trivial⟩ trivial trivial
def Cw (a:Pos)(b:Int):Bool:=(bE (a.ab.getD (scale 1 b).toNat 0)==0)
def rC (a:Pos)(b:Int):Bool:=(decide (0≤b)&&decide (b < ↑64)&&true)
theorem P97 (a:Pos)(b:Int)(h:rC a b=true):PS Pz 97 [Pos.av a,.int .i64 b] (dB.res (Cw a b)):=pq14 atv h
def G97:GT:=g2 aZ (dI .i64) (fun a b=>b7 (rC a b) (dB.res (Cw a b)))
theorem s97:Sound Pz 97 G97:=aO fun a b=>aA (P97 a b)
def arp:KT:=[(151,20,[(0,(1::2::3::(rn 12 7 []))),(1,[6])])]
def ana:ar:=bO Pz arp [(83,V5),(97,G97)] [] []
theorem aii:aP ana:=ae af ⟨Yy,s97,trivial⟩ trivial trivial
def uX (a:Pos)(b:Int)(c:Int):Bool:=(bif !Cw a b then(oQ (a.ab.getD (scale 1 b).toNat 0)==c)else(false))
def sv (a:Pos)(b:Int)(c:Int):Bool:=(rC a b&&(bif !Cw a b then(decide (0≤b)&&decide (b < ↑64)&&true)else true))
theorem ao6 (a:Pos)(b:Int)(c:Int)(h:sv a b c=true):PS Pz 151 [Pos.av a,.int .i64 b,.int .u8 c] (dB.res (uX a b c)):=pq14 aii h
def OA:GT:=g3 aZ (dI .i64) (dI .u8) (fun a b c=>b7 (sv a b c) (dB.res (uX a b c)))
theorem U4:Sound Pz 151 OA:=db fun a b c=>aA (ao6 a b c)
def K94:KT:=[(94,12,[(0,[0,1]),(1,[1,6]),(2,[4]),(3,[4])])]
def B94:ar:=bO Pz K94 [] [] []
theorem amF:aP B94:=ae af trivial trivial trivial
def xf (a:Int)(b:Int):Int:=(bif a==0 then(wr .i64 (b.tdiv 8))else(wr .i64 (7-wr .i64 (b.tdiv 8))))
def akx (a:Int)(b:Int):Bool:=true
theorem P94 (a:Int)(b:Int)(h:akx a b=true):PS Pz 94 [.int .u8 a,.int .i64 b] ((dI .i64).res (xf a b)):=pq14 amF h
def Te:GT:=g2 (dI .u8) (dI .i64) (fun a b=>.ret ((dI .i64).res (xf a b)))
theorem Wa:Sound Pz 94 Te:=aO fun a b=>bH (P94 a b rfl)
def K98:KT:=[(98,5,[(0,[0]),(1,[4]),(2,[2]),(3,[2])])]
def B98:ar:=bO Pz K98 [] [] []
theorem atX:aP B98:=ae af trivial trivial trivial
def iF (a:Int):Int:=(bif a==0 then(8)else(-8))
def apd (a:Int):Bool:=true
theorem P98 (a:Int)(h:apd a=true):PS Pz 98 [.int .u8 a] ((dI .i64).res (iF a)):=pq14 atX h
def G98:GT:=g1 (dI .u8) (fun a=>.ret ((dI .i64).res (iF a)))
theorem s98:Sound Pz 98 G98:=aH fun a=>bH (P98 a rfl)
def aug:KT:=[(157,79,[(0,(1::2::3::(rn 24 5 (rn 45 12 (65::(rn 68 5 [75,76,77])))))),(1,(1::2::3::7::(rn 24 5 (rn 45 12 (65::(rn 68 5 [75,76,77])))))),(2,(1::2::3::7::16::(rn 24 5 (rn 45 12 (65::(rn 68 5 [75,76,77])))))),(3,[6]),(4,(1::2::3::7::34::(rn 45 12 (65::(rn 68 5 [75,76,77]))))),(5,[6]),(6,(1::2::3::7::8::(rn 45 12 (65::(rn 68 5 [75,76,77]))))),(7,(1::2::3::7::9::65::(rn 68 5 [75,76,77]))),(8,[6])])]
def aoq:ar:=bO Pz aug [(151,OA),(97,G97),(98,G98),(154,Ep),(94,Te)] [] []
theorem aey:aP aoq:=ae af ⟨U4,s97,s98,Ja,Wa,trivial⟩ trivial trivial
def O7 (a:Pos)(b:Int)(c:Int):Bool:=(bif oC a b c then(bif uX a c (wr .u8 (1-a.aa))then(true)else(wr .i64 a.az==c))else(bif c==wr .i64 (b+iF a.aa)then(Cw a c)else(bif xf a.aa b==1 then(bif c==wr .i64 (b+wr .i64 (2*iF a.aa))then(bif Cw a (wr .i64 (b+iF a.aa))then(Cw a c)else(false))else(false))else(bif xf a.aa b==0 then(bif a.variant==7 then(bif c==wr .i64 (b+wr .i64 (2*iF a.aa))then(bif a.aa==0 then(bif Cw a (wr .i64 (b+iF a.aa))then(Cw a c)else(false))else(false))else(false))else(bif c==wr .i64 (b+wr .i64 (2*iF a.aa))then(false)else(false)))else(bif c==wr .i64 (b+wr .i64 (2*iF a.aa))then(false)else(false))))))
def B9 (a:Pos)(b:Int)(c:Int):Bool:=(qb a b c&&(bif oC a b c then(sv a c (wr .u8 (1-a.aa))&&true)else(bif c==wr .i64 (b+iF a.aa)then(rC a c&&true)else(bif xf a.aa b==1 then(bif c==wr .i64 (b+wr .i64 (2*iF a.aa))then(rC a (wr .i64 (b+iF a.aa))&&(bif Cw a (wr .i64 (b+iF a.aa))then(rC a c&&true)else true))else true)else(bif xf a.aa b==0 then(bif a.variant==7 then(bif c==wr .i64 (b+wr .i64 (2*iF a.aa))then(bif a.aa==0 then(rC a (wr .i64 (b+iF a.aa))&&(bif Cw a (wr .i64 (b+iF a.aa))then(rC a c&&true)else true))else true)else true)else true)else true)))))
theorem aoi (a:Pos)(b:Int)(c:Int)(h:B9 a b c=true):PS Pz 157 [Pos.av a,.int .i64 b,.int .i64 c] (dB.res (O7 a b c)):=pq14 aey h
def af9:GT:=g3 aZ (dI .i64) (dI .i64) (fun a b c=>b7 (B9 a b c) (dB.res (O7 a b c)))
theorem asX:Sound Pz 157 af9:=db fun a b c=>aA (aoi a b c)
def K93:KT:=[(93,56,[(0,(1::2::3::(rn 11 6 (rn 19 5 (rn 43 8 []))))),(1,(1::2::3::24::(rn 43 8 []))),(2,[6]),(3,(1::2::3::29::(rn 43 8 []))),(4,(1::2::3::29::30::(rn 43 8 []))),(5,[6]),(6,(1::2::3::36::(rn 43 8 []))),(7,[6]),(8,[6])])]
def B93:ar:=bO Pz K93 [(82,nN),(151,OA),(97,G97),(154,Ep),(157,af9)] [] []
theorem anG:aP B93:=ae af ⟨nV,U4,s97,Ja,asX,trivial⟩ trivial trivial
def DJ (a:Pos)(b:Int)(c:Int):Bool:=(bif b==c then(false)else(bif !uX a b a.aa then(false)else(bif uX a c a.aa then(false)else(bif bE (a.ab.getD (scale 1 b).toNat 0)==1 then(O7 a b c)else(bif bE (a.ab.getD (scale 1 b).toNat 0)==6 then(bif oC a b c then(bif a.variant != 3 then(true)else(Cw a c))else(false))else(oC a b c))))))
def IQ (a:Pos)(b:Int)(c:Int):Bool:=(bif b==c then true else(sv a b (a.aa)&&(bif !uX a b a.aa then true else(sv a c (a.aa)&&(bif uX a c a.aa then true else(decide (0≤b)&&decide (b<Int.ofNat 64)&&(bif bE (a.ab.getD (scale 1 b).toNat 0)==1 then(B9 a b c&&true)else(bif bE (a.ab.getD (scale 1 b).toNat 0)==6 then(qb a b c&&(bif oC a b c then(bif a.variant != 3 then true else(rC a c&&true))else true))else(qb a b c&&true)))))))))
theorem P93 (a:Pos)(b:Int)(c:Int)(h:IQ a b c=true):PS Pz 93 [Pos.av a,.int .i64 b,.int .i64 c] (dB.res (DJ a b c)):=pq14 anG h
def G93:GT:=g3 aZ (dI .i64) (dI .i64) (fun a b c=>b7 (IQ a b c) (dB.res (DJ a b c)))
theorem Nd:Sound Pz 93 G93:=db fun a b c=>aA (P93 a b c)
end Kz
namespace Kz
open Go Go.RowKit
theorem Uk:∀v:Fin 256,dh v.val=bE v.val∧(dv 0 0 v.val=(!(bE v.val==0)&&oQ v.val==0))∧(dv 1 0 v.val=(!(bE v.val==0)&&oQ v.val==1))∧((dv 0 0 v.val ||dv 1 0 v.val)=!(bE v.val==0))∧(bE v.val=0∨bE v.val=1∨(2≤bE v.val∧bE v.val≤6)):=by decide +kernel
theorem sU {v:Int}(h0:0≤v)(h1:v≤255):dh v=bE v∧(dv 0 0 v=(!(bE v==0)&&oQ v==0))∧(dv 1 0 v=(!(bE v==0)&&oQ v==1))∧((dv 0 0 v ||dv 1 0 v)=!(bE v==0))∧(bE v=0∨bE v=1∨(2≤bE v∧bE v≤6)):=by obtain⟨n,rfl⟩:=Int.eq_ofNat_of_zero_le h0;exact Uk ⟨n,by omega⟩
noncomputable section
variable {p:Pos}(hp:ax p)(ht:p.aa=0∨p.aa=1)
include hp ht
theorem ja {c:Int}(hc:c=0∨c=1){i:Nat}(hi:i<64):uX p i c=(aS p c 0).getLsbD i:=by obtain⟨b0,b1⟩:=fj hp i;obtain⟨_,m0,m1,_⟩:=sU b0 b1;rw[bL _ _ _ hi];unfold uX Cw;rw[show(scale 1 (i:Int)).toNat=i by unfold scale;simp];grind
theorem OT:oz p=aS p (1-p.aa) 0:=by unfold oz;rw[kD (by omega) (by omega)]
theorem zU {s:Nat}(hs:s<64):(own p|||oz p).getLsbD s=false ↔ bE (p.ab.getD s 0)=0:=by obtain⟨b0,b1⟩:=fj hp s;obtain⟨_,_,_,m,_⟩:=sU b0 b1;rw[BitVec.getLsbD_or,OT hp ht];unfold own;rw[bL _ _ _ hs,bL _ _ _ hs];grind
theorem AR {s:Nat}(hs:s<64):Cw p s=!(own p|||oz p).getLsbD s:=by have h:=zU hp ht hs;unfold Cw;rw[show(scale 1 (s:Int)).toNat=s by unfold scale;simp];grind
theorem UL {f t:Nat}(hf:f<64)(h64:t<64)(hown:(own p).getLsbD f=true)(hk:bE (p.ab.getD f 0)≠1):DJ p f t=(iH (p,own p,oz p) f).getLsbD t:=by
 obtain⟨b0,b1⟩:=fj hp f;obtain⟨m91,_,_,mm,mk⟩:=sU b0 b1;have e1:=ja hp ht ht hf;have e2:=ja hp ht ht h64;have ho:aS p p.aa 0=own p:=rfl;rw[ho]at e1 e2;rw[hown]at e1;have hocc:=fun s hs=>zU hp ht (s:=s) hs;have hne:bE (p.ab.getD f 0)≠0:=by grind
 have h26:2≤bE (p.ab.getD f 0)∧bE (p.ab.getD f 0)≤6:=by omega
 have hit:=Pv (p:=p) (occ:=own p|||oz p) hocc hf h64 h26;have emp:=AR hp ht h64;unfold DJ iH;dsimp only;rw[e1,e2,show(scale 1 (f:Int)).toNat=f by unfold scale;simp,m91,hit,emp];unfold GI;have hft:((f:Int)==(t:Int))=decide (f=t):=by rw[Bool.eq_iff_iff];simp;omega
 rw[hft];generalize bE (p.ab.getD f 0)=k at *;have hk':k=2∨k=3∨k=4∨k=5∨k=6:=by omega
 by_cases hts:f=t
 ·grind
 grind
end
theorem Cq (x:BitVec 64){k:Nat}(hk:k<64):(x >>> k&&&1#64==1#64)=x.getLsbD k:=by
 have h:(x >>> k&&&1#64).toNat=(x.getLsbD k).toNat:=by
  rw[BitVec.toNat_and,BitVec.toNat_ushiftRight,Nat.shiftRight_eq_div_pow,show(1#64).toNat=2^1-1 from rfl,Nat.and_two_pow_sub_one_eq_mod,BitVec.getLsbD,Nat.testBit_eq_decide_div_mod_eq];have:=Nat.mod_two_eq_zero_or_one (x.toNat / 2^k);rcases this with h|h
  ·rw[show(2:Nat)^1=2 from rfl,h];rfl
  ·rw[show(2:Nat)^1=2 from rfl,h];rfl
 grind
theorem NM:∀(c:Fin 2) (f t:Fin 64),cX 1 c.val f.val t.val false=(fc c.val f.val).getLsbD t.val:=by decide +kernel
theorem wS:∀(c:Fin 2) (f:Fin 64),lG c.val f.val=xf c.val f.val∧(lG c.val f.val≠7→0≤dA c.val f.val∧dA c.val f.val<64)∧dA c.val f.val=f.val+iF c.val∧(lG c.val f.val=1∨lG c.val f.val=0→dA c.val (dA c.val f.val)=f.val+2*iF c.val∧0≤dA c.val (dA c.val f.val)∧dA c.val (dA c.val f.val)<64)∧(lG c.val f.val=7→dA c.val f.val<0∨64≤dA c.val f.val)∧(iF c.val=8∨iF c.val = -8):=by decide +kernel
theorem Iw:∀(c:Fin 2) (f t:Fin 64),(fc c.val f.val).getLsbD t.val=true→(t.val:Int)≠f.val+iF c.val∧(t.val:Int)≠f.val+2*iF c.val:=by decide +kernel
theorem On {n:Int}(h0:0≤n)(h1:n<64){t:Nat}(ht:t<64):(1#64 <<< (BitVec.ofInt 64 n).toNat).getLsbD t=decide ((t:Int)=n):=by rw[ng ht,fw h0 (by omega),Bool.eq_iff_iff];simp;omega
noncomputable section
variable {p:Pos}(hp:ax p)(ht:p.aa=0∨p.aa=1)
include hp ht
theorem LO {f t:Nat}(hf:f<64)(h64:t<64)(hown:(own p).getLsbD f=true)(hk:bE (p.ab.getD f 0)=1):DJ p f t=(iH (p,own p,oz p) f).getLsbD t:=by
 obtain⟨b0,b1⟩:=fj hp f;obtain⟨m91,m0,m1,_,_⟩:=sU b0 b1;have e1:=ja hp ht ht hf;have e2:=ja hp ht ht h64;have ho:aS p p.aa 0=own p:=rfl;rw[ho]at e1 e2;rw[hown]at e1;have hcol:oQ (p.ab.getD f 0)=p.aa:=by
  have:dv p.aa 0 (p.ab.getD f 0)=true:=by rw[←bL p p.aa 0 hf];exact hown
  rcases ht with h|h
  ·simp_all
  ·simp_all
 have w1:wr .u8 (1-p.aa)=1-p.aa:=kD (by omega) (by omega);have e3:uX p t (wr .u8 (1-p.aa))=(oz p).getLsbD t:=by rw[w1,ja hp ht (by omega) h64,OT hp ht]
 have hsf:(scale 1 (f:Int)).toNat=f:=by unfold scale;simp
 have emp:=fun s hs=>AR hp ht (s:=s) hs;obtain⟨c,hc⟩:∃c:Fin 2,p.aa=c.val:=by simp_all
 have hat:=NM c ⟨f,hf⟩ ⟨t,h64⟩;obtain⟨r1,r2,r3,r4,r5,r6⟩:=wS c ⟨f,hf⟩;have hz:=Iw c ⟨f,hf⟩ ⟨t,h64⟩;simp only at hat r1 r2 r3 r4 r5 r6 hz;rw[←hc]at hat r1 r2 r3 r4 r5 r6 hz;have hA:oC p f t=(fc p.aa f).getLsbD t:=by rw[tJ,hsf,hk,hcol,←hat];rfl
 have p0:=hp.p0;have p1:=hp.p1;have wp:wr .i64 p.az=p.az:=aF (by omega) (by omega);have hP:(qM (p,own p,oz p)).getLsbD t=(p.az==(t:Int)):=by
  unfold qM;refine al (P:=fun x:BitVec 64=>x.getLsbD t=_) (fun h=>?_) fun h=>al (P:=fun x:BitVec 64=>x.getLsbD t=_) (fun h2=>?_) fun h2=>?_
  ·grind
  ·grind
  ·have h:0≤p.az:=by simpa using h
   have h2:p.az<64:=by simpa using h2
   show(1#64 <<< (BitVec.ofInt 64 p.az).toNat).getLsbD t=_;rw[On h h2 h64,Bool.eq_iff_iff];simp;omega
 unfold DJ iH;dsimp only;rw[e1,e2,hsf,m91,hk];show(bif(f:Int)==(t:Int)then false else bif(own p).getLsbD t then false else O7 p f t)=(BA (p,own p,oz p) f &&& ~~~own p).getLsbD t;rw[BitVec.getLsbD_and,BitVec.getLsbD_not];by_cases hft:f=t
 ·simp_all
 ·rw[show((f:Int)==(t:Int))=false by simp;omega,cond_false];cases hW:(own p).getLsbD t with
  |true=>simp
  |false =>
   simp only[cond_false,h64,decide_true,Bool.not_false,Bool.and_true];have hoc:(own p|||oz p).getLsbD t=(oz p).getLsbD t:=by rw[BitVec.getLsbD_or,hW,Bool.false_or]
   unfold O7 BA;dsimp only;rw[hA,e3,wp,←r1];have wup:wr .i64 ((f:Int)+iF p.aa)=f+iF p.aa:=aF (by omega) (by omega);have wup2:wr .i64 (2*iF p.aa)=2*iF p.aa:=aF (by omega) (by omega);have wup3:wr .i64 ((f:Int)+2*iF p.aa)=f+2*iF p.aa:=aF (by omega) (by omega);rw[wup2,wup,wup3,show(Pos.mk p.variant p.ab p.ai p.ah p.aa p.ao p.az p.au p.half p.full,own p,oz p)=(p,own p,oz p)from rfl];have hatt:∀X:BitVec 64,X=fc p.aa f&&&(oz p|||qM (p,own p,oz p))→X.getLsbD t=((fc p.aa f).getLsbD t&&((oz p).getLsbD t ||(p.az==(t:Int)))):=by simp_all
   generalize hXX:fc p.aa f&&&(oz p|||qM (p,own p,oz p))=X at *;have hatt:=hatt X rfl;have hpass:(p.az==(t:Int))=((p.az:Int)==t):=rfl;generalize (fc p.aa f).getLsbD t=A at *;by_cases h7:lG p.aa f=7
   ·grind
   ·obtain⟨a0,a1⟩:=r2 h7;rw[show(lG p.aa f==7)=false by simpa using h7,cond_false,fw a0 (by omega),Cq _ (by omega)];obtain⟨s,hs⟩:=Int.eq_ofNat_of_zero_le a0;have hs64:s<64:=by omega
    rw[show(dA p.aa f).toNat=s by omega,show(f:Int)+iF p.aa=(s:Int)by omega,emp s hs64,emp t h64];have hb1:(1#64 <<< s).getLsbD t=((t:Int)==(s:Int)):=by rw[ng h64,Bool.eq_iff_iff];simp;omega
    have hb2:(lG p.aa f=1∨lG p.aa f=0)→(1#64 <<< (BitVec.ofInt 64 (dA p.aa (dA p.aa f))).toNat).getLsbD t=((t:Int)==(f:Int)+2*iF p.aa):=fun h=>by obtain⟨c1,c2,c3⟩:=r4 h;rw[On c2 c3 h64,c1,Bool.eq_iff_iff];simp
    generalize 1#64 <<< (BitVec.ofInt 64 (dA p.aa (dA p.aa f))).toNat=Y at hb2⊢;have q1:((t:Int)==(s:Int))=true→A=false∧(own p|||oz p).getLsbD t=(own p|||oz p).getLsbD s:=by grind
    grind
end
end Kz
namespace Kz
open Go Go.RowKit Go.Proofs
def K19:KT:=[(19,11,[(0,[1,7,8,9]),(1,[2])])]
def B19:ar:=bO Pz K19 [] [] []
theorem aqu:aP B19:=ae af trivial trivial trivial
def qJ (a:Pos):Bool:=(bif decide (a.variant<9)then(decide (a.aa<2))else(false))
def amG (a:Pos):Bool:=true
theorem P19 (a:Pos)(h:amG a=true):PS Pz 19 [Pos.av a] (dB.res (qJ a)):=pq14 aqu h
def Jo:GT:=g1 aZ (fun a=>.ret (dB.res (qJ a)))
theorem Ki:Sound Pz 19 Jo:=aH fun a=>bH (P19 a rfl)
def K95:KT:=[(95,11,[(0,[0]),(1,[0,3]),(2,[2]),(3,[7]),(4,[2]),(5,[2])])]
def B95:ar:=bO Pz K95 [] [] []
theorem alj:aP B95:=ae af trivial trivial trivial
def sW (a:Int):List Int:=(bif a==4 then[(2),3,4,5,(6)]else(bif decide (a<8)then[(2),3,4,(5)]else([])))
def alv (a:Int):Bool:=true
theorem P95 (a:Int)(h:alv a=true):PS Pz 95 [.int .u8 a] ((dL (.i .u8)).res (sW a)):=pq14 alj h
def YJ:GT:=g1 (dI .u8) (fun a=>.ret ((dL (.i .u8)).res (sW a)))
theorem s95:Sound Pz 95 YJ:=aH fun a=>bH (P95 a rfl)
def K38:KT:=[(38,67,[(0,(1::(rn 38 5 []))),(1,(1::3::(rn 38 5 []))),(2,(1::3::11::(rn 38 5 []))),(3,[2]),(4,(1::3::4::(rn 38 5 []))),(5,(1::3::4::14::(rn 38 5 []))),(6,(1::3::4::(rn 38 5 []))),(7,(1::3::4::5::(rn 38 5 []))),(8,(1::3::4::5::18::(rn 38 5 []))),(9,(1::3::4::5::(rn 38 5 []))),(10,(1::3::4::5::25::(rn 38 5 []))),(11,(1::(rn 3 4 (rn 38 5 [])))),(12,(1::(rn 3 4 (rn 38 6 [])))),(13,(1::3::4::5::(rn 38 5 []))),(14,(1::(rn 3 5 (rn 38 5 [])))),(15,(1::(rn 3 6 (rn 38 5 [])))),(16,(1::(rn 3 6 (rn 38 5 [54])))),(17,(1::(rn 3 6 (rn 38 5 [])))),(18,(1::(rn 3 6 (rn 38 5 [])))),(19,(1::(rn 3 6 (rn 38 5 [])))),(20,[2])])]
def ad1:ar:=bO Pz K38 [(19,Jo),(82,nN),(93,G93),(94,Te),(95,YJ)] [] []
theorem abV:aP ad1:=ae af ⟨Ki,nV,Nd,Wa,s95,trivial⟩ trivial trivial
def V3 (p1:Int)(p2:Int)(p3:Z')(p4:Int)(p5:Int)(p6:Bool)(p7:Pos)(p8:Nat)(x:(M'×Int×Mv)):St:=St.mk (.any::.ptr 0 0::.any::.list .mv x.1 (.own 1)::.int .i64 p1::.int .i64 p2::.ptr 1 0::.list (ET.i .u8) p3 .fresh::.int .i64 x.2.1::(an 29 (.ptr 0 78::.int .u8 p4::.int .i64 p2::.int .i64 p5::.bool p6::(an 24 [])))) (Hp.mk [(pc p7 []),[.int .i8 x.2.2.aD,.int .i8 x.2.2.to,.int .u8 x.2.2.bU,.int .u8 x.2.2.bh,.bool x.2.2.bZ]] [p8,x.1.length] [] 0 0 0)
def XI (p1:Int)(p2:Int)(p3:Z')(p4:Int)(p5:Int)(p6:Bool)(p7:Pos)(p8:Nat):(M'×Int×Bool×Mv)→Out:=fun y=>.exit 4 (St.mk (.any::.ptr 0 0::.any::.list .mv y.1 (.own 1)::.int .i64 p1::.int .i64 p2::.ptr 1 0::.list (ET.i .u8) p3 .fresh::.int .i64 y.2.1::(an 29 (.ptr 0 78::.int .u8 p4::.int .i64 p2::.int .i64 p5::.bool p6::(an 11 (.bool y.2.2.1::(an 12 [])))))) (Hp.mk [(pc p7 []),[.int .i8 y.2.2.2.aD,.int .i8 y.2.2.2.to,.int .u8 y.2.2.2.bU,.int .u8 y.2.2.2.bh,.bool y.2.2.2.bZ]] [p8,y.1.length] [] 0 0 0))
def Zy (p1:Int)(p2:Int)(p3:Z')(p4:Int)(p5:Int)(p6:Bool)(p7:Pos)(p8:Nat)(x:(M'×Int×Mv)):aG (M'×Int×Mv) ((M'×Int×Bool×Mv)):=(bif decide (x.2.1<Int.ofNat p3.length)then(aG.go (x.1++[Mv.mk x.2.2.aD x.2.2.to (p3.getD x.2.1.toNat default) x.2.2.bh x.2.2.bZ],wr .i64 (x.2.1+1),Mv.mk x.2.2.aD x.2.2.to (p3.getD x.2.1.toNat default) x.2.2.bh x.2.2.bZ))else(aG.out ((x.1,x.2.1,decide (x.2.1<Int.ofNat p3.length),x.2.2))))
def Ry (p1:Int)(p2:Int)(p3:Z')(p4:Int)(p5:Int)(p6:Bool)(p7:Pos)(p8:Nat)(x:(M'×Int×Mv)):Bool:=(bif decide (x.2.1<Int.ofNat p3.length)then(decide (0≤x.2.1)&&decide (x.2.1<Int.ofNat p3.length)&&(x.1.length==x.1.length&&decide (x.1.length+1≤1073741824)&&true))else true)
def wL (p1:Int)(p2:Int)(p3:Z')(p4:Int)(p5:Int)(p6:Bool)(p7:Pos)(p8:Nat)(x:(M'×Int×Mv)):Option ((M'×Int×Bool×Mv)):=cW (fun x=>bif Ry p1 p2 p3 p4 p5 p6 p7 p8 x then Zy p1 p2 p3 p4 p5 p6 p7 p8 x else .bad) many x
abbrev WJ {α:Type}(k:Int→Int→Z'→Int→Int→Bool→Pos→Nat→(M'×Int×Mv)→α)(s:St):α:=wP s 0 fun q0=>wM s 1 fun q1=>k (tI (tT s 4)) (tI (tT s 5)) (tL (ET.i .u8) (tT s 7)) (tI (tT s 39)) (tI (tT s 41)) (tB (tT s 42)) q0 (tK s 0) ((tL (ET.mv) (tT s 3)),(tI (tT s 8)),q1)
theorem afb (p1:Int)(p2:Int)(p3:Z')(p4:Int)(p5:Int)(p6:Bool)(p7:Pos)(p8:Nat)(x:(M'×Int×Mv))(r:(M'×Int×Bool×Mv))(h:wL p1 p2 p3 p4 p5 p6 p7 p8 x=some r):aC Pz (bc Pz 38 16) (V3 p1 p2 p3 p4 p5 p6 p7 p8 x) (XI p1 p2 p3 p4 p5 p6 p7 p8 r):=smq (m:=12) (fn:=38) abV (WJ fun _ _ _ _ _ _ _ _ x=>some x) (fun o=>match o with | .exit 4 s=>wM s 1 fun q1=>some ((tL ET.mv (tT s 3)),(tI (tT s 8)),(tB (tT s 54)),q1)|_=>none) many x r h
def F8 (b:Code)(s:St):Tr Out:=WJ (fun p1 p2 p3 p4 p5 p6 p7 p8 x=>jU b (bc Pz 38 16) s (V3 p1 p2 p3 p4 p5 p6 p7 p8 x) (wL p1 p2 p3 p4 p5 p6 p7 p8 x) (XI p1 p2 p3 p4 p5 p6 p7 p8)) s
theorem E8:∀b,aT Pz b (F8 b):=fun _ _ _ h=>bF (afb _ _ _ _ _ _ _ _ _) h
def aeS:ar:=bO Pz K38 [(19,Jo),(82,nN),(93,G93),(94,Te),(95,YJ)] [(38,16,F8)] []
theorem ab2:aP aeS:=ae af ⟨Ki,nV,Nd,Wa,s95,trivial⟩ ⟨E8,trivial⟩ trivial
def VT (p1:Int)(p2:Pos)(p3:Nat)(x:(M'×Int)):St:=St.mk (.any::.ptr 0 0::.any::.list .mv x.1 (.own 1)::.int .i64 p1::.int .i64 x.2::(an 61 [])) (Hp.mk [(pc p2 [])] [p3,x.1.length] [] 0 0 0)
def VD (p1:Int)(p2:Pos)(p3:Nat):(M'×Int×Bool)→Out:=fun y=>.exit 2 (St.mk (.any::.ptr 0 0::.any::.list .mv y.1 (.own 1)::.int .i64 p1::.int .i64 y.2.1::(an 12 (.bool y.2.2::(an 48 [])))) (Hp.mk [(pc p2 [])] [p3,y.1.length] [] 0 0 0))
def Nw (p1:Int)(p2:Pos)(p3:Nat)(x:(M'×Int)):aG (M'×Int) ((M'×Int×Bool)):=(bif decide (x.2<64)then(bif !DJ p2 p1 x.2 then(aG.go (x.1,wr .i64 (x.2+1)))else(bif bE (p2.ab.getD (scale 1 p1).toNat 0) != 1 then(aG.go (x.1++[Mv.mk (wr .i8 p1) (wr .i8 x.2) 0 0 false],wr .i64 (x.2+1)))else(bif xf p2.aa x.2 != 7 then(aG.go (x.1++[Mv.mk (wr .i8 p1) (wr .i8 x.2) 0 0 false],wr .i64 (x.2+1)))else(aG.go (((wL p1 x.2 (sW p2.variant) p2.aa (xf p2.aa x.2) (xf p2.aa x.2 != 7) p2 p3 (x.1,0,Mv.mk (wr .i8 p1) (wr .i8 x.2) 0 0 false)).getD default).1,wr .i64 (x.2+1))))))else(aG.out ((x.1,x.2,decide (x.2<64)))))
def HU (p1:Int)(p2:Pos)(p3:Nat)(x:(M'×Int)):Bool:=(bif decide (x.2<64)then(IQ p2 p1 (x.2)&&(bif !DJ p2 p1 x.2 then true else(decide (0≤p1)&&decide (p1<Int.ofNat 64)&&(bif bE (p2.ab.getD (scale 1 p1).toNat 0) != 1 then(x.1.length==x.1.length&&decide (x.1.length+1≤1073741824)&&true)else(bif xf p2.aa x.2 != 7 then(x.1.length==x.1.length&&decide (x.1.length+1≤1073741824)&&true)else((wL p1 x.2 (sW p2.variant) p2.aa (xf p2.aa x.2) (xf p2.aa x.2 != 7) p2 p3 (x.1,0,Mv.mk (wr .i8 p1) (wr .i8 x.2) 0 0 false)).isSome&&true))))))else true)
def wF (p1:Int)(p2:Pos)(p3:Nat)(x:(M'×Int)):Option ((M'×Int×Bool)):=cW (fun x=>bif HU p1 p2 p3 x then Nw p1 p2 p3 x else .bad) many x
abbrev XE {α:Type}(k:Int→Pos→Nat→(M'×Int)→α)(s:St):α:=wP s 0 fun q0=>k (tI (tT s 4)) q0 (tK s 0) ((tL (ET.mv) (tT s 3)),(tI (tT s 5)))
theorem aiF (p1:Int)(p2:Pos)(p3:Nat)(x:(M'×Int))(r:(M'×Int×Bool))(h:wF p1 p2 p3 x=some r):aC Pz (bc Pz 38 8) (VT p1 p2 p3 x) (VD p1 p2 p3 r):=smq (m:=12) (fn:=38) ab2 (XE fun _ _ _ x=>some x) (fun o=>match o with | .exit 2 s=>some ((tL ET.mv (tT s 3)),(tI (tT s 5)),(tB (tT s 18)))|_=>none) many x r h
def MZ (b:Code)(s:St):Tr Out:=XE (fun p1 p2 p3 x=>jU b (bc Pz 38 8) s (VT p1 p2 p3 x) (wF p1 p2 p3 x) (VD p1 p2 p3)) s
theorem QV:∀b,aT Pz b (MZ b):=fun _ _ _ h=>bF (aiF _ _ _ _) h
def afJ:ar:=bO Pz K38 [(19,Jo),(82,nN),(93,G93),(94,Te),(95,YJ)] [(38,16,F8),(38,8,MZ)] []
theorem ZU:aP afJ:=ae af ⟨Ki,nV,Nd,Wa,s95,trivial⟩ ⟨E8,QV,trivial⟩ trivial
def Wf (p1:Pos)(p2:Nat)(x:(M'×Int)):St:=St.mk (.any::.ptr 0 0::.any::.list .mv x.1 (.own 1)::.int .i64 x.2::(an 62 [])) (Hp.mk [(pc p1 [])] [p2,x.1.length] [] 0 0 0)
def Wj (p1:Pos)(p2:Nat):(M'×Int×Bool)→Out:=fun y=>.exit 0 (St.mk (.any::.ptr 0 0::.any::.list .mv y.1 (.own 1)::.int .i64 y.2.1::(an 9 (.bool y.2.2::(an 52 [])))) (Hp.mk [(pc p1 [])] [p2,y.1.length] [] 0 0 0))
def PE (p1:Pos)(p2:Nat)(x:(M'×Int)):aG (M'×Int) ((M'×Int×Bool)):=(bif decide (x.2<64)then(aG.go (((wF x.2 p1 p2 (x.1,0)).getD default).1,wr .i64 (x.2+1)))else(aG.out ((x.1,x.2,decide (x.2<64)))))
def FW (p1:Pos)(p2:Nat)(x:(M'×Int)):Bool:=(bif decide (x.2<64)then((wF x.2 p1 p2 (x.1,0)).isSome&&true)else true)
def ot (p1:Pos)(p2:Nat)(x:(M'×Int)):Option ((M'×Int×Bool)):=cW (fun x=>bif FW p1 p2 x then PE p1 p2 x else .bad) many x
abbrev WN {α:Type}(k:Pos→Nat→(M'×Int)→α)(s:St):α:=wP s 0 fun q0=>k q0 (tK s 0) ((tL (ET.mv) (tT s 3)),(tI (tT s 4)))
theorem agv (p1:Pos)(p2:Nat)(x:(M'×Int))(r:(M'×Int×Bool))(h:ot p1 p2 x=some r):aC Pz (bc Pz 38 5) (Wf p1 p2 x) (Wj p1 p2 r):=smq (m:=12) (fn:=38) ZU (WN fun _ _ x=>some x) (fun o=>match o with | .exit 0 s=>some ((tL ET.mv (tT s 3)),(tI (tT s 4)),(tB (tT s 14)))|_=>none) many x r h
def WT (b:Code)(s:St):Tr Out:=WN (fun p1 p2 x=>jU b (bc Pz 38 5) s (Wf p1 p2 x) (ot p1 p2 x) (Wj p1 p2)) s
theorem aaI:∀b,aT Pz b (WT b):=fun _ _ _ h=>bF (agv _ _ _) h
def B38:ar:=bO Pz K38 [(19,Jo),(82,nN),(93,G93),(94,Te),(95,YJ)] [(38,16,F8),(38,8,MZ),(38,5,WT)] []
theorem apD:aP B38:=ae af ⟨Ki,nV,Nd,Wa,s95,trivial⟩ ⟨E8,QV,aaI,trivial⟩ trivial
def DO (a:Pos):M':=(bif !qJ a then([])else(((ot a 0 ([],0)).getD default).1))
def EC (a:Pos):Bool:=(bif !qJ a then true else((ot a 0 ([],0)).isSome&&true))
theorem P38 (a:Pos)(h:EC a=true):PS Pz 38 [Pos.av a] ((dL .mv).res (DO a)):=pq14 apD h
def G38:GT:=g1 aZ (fun a=>b7 (EC a) ((dL .mv).res (DO a)))
theorem s38:Sound Pz 38 G38:=aH fun a=>aA (P38 a)
end Kz
namespace Kz
open Go Go.RowKit
theorem Om:∀a b:Fin 64,(cg BinOp.neq ((Bf a.val b.val==0)==(cp (xq a.val b.val)==0))=true→lW a.val b.val=true)∧((cp (Bf a.val b.val)==cp (xq a.val b.val))=true→decide (cp (xq a.val b.val)>0)=true→lK a.val b.val=true):=by decide +kernel
noncomputable section
variable {p:Pos}(hp:ax p)(ht:p.aa=0∨p.aa=1)
include hp ht
theorem t207 {a b:Nat}(ha:a<64)(h:lW a b=true∨lK a b=true):mE p a b=true:=by
 have hocc:=fun s hs=>zU hp ht (s:=s) hs;have:∃d,d<8∧b∈nn a d:=by
  unfold lW lK at h;simp only[Bool.or_eq_true,decide_eq_true_eq]at h;rcases h with(((h|h)|h)|h)|(((h|h)|h)|h)
  ·grind
  ·grind
  ·grind
  ·grind
  ·grind
  ·grind
  ·grind
  ·grind
 obtain⟨d,hd,hb⟩:=this;exact(nE p hocc ha hd hb).1
theorem t154 {a b:Nat}(ha:a<64)(hb:b<64):qb p a b=true:=by
 obtain⟨l1,l2⟩:=Om ⟨a,ha⟩ ⟨b,hb⟩;simp only[Bf,xq]at l1 l2;have k1:=fun h=>t207 hp ht ha (.inl (l1 h));have k2:=fun h h'=>t207 hp ht ha (.inr (l2 h h'));have ki:(decide (0≤(a:Int))&&decide ((a:Int)<Int.ofNat 64))=true:=by simp;omega
 unfold qb;grind
theorem t97 {b:Nat}(hb:b<64):rC p b=true:=by unfold rC;simp;omega
theorem t151 {b:Nat}(hb:b<64)(c:Int):sv p b c=true:=by unfold sv;refine ak (t97 hp ht hb) fun _=>aq (fun _=>?_) fun _=>rfl;simp;omega
theorem t157 {a b:Nat}(ha:a<64)(hb:b<64):B9 p a b=true:=by
 obtain⟨c,hc⟩:∃c:Fin 2,p.aa=c.val:=by simp_all
 obtain⟨r1,r2,r3,r4,r5,r6⟩:=wS c ⟨a,ha⟩;simp only at r1 r2 r3 r4 r5 r6;rw[←hc]at r1 r2 r3 r4 r5 r6;have wup:wr .i64 ((a:Int)+iF p.aa)=a+iF p.aa:=aF (by omega) (by omega);have k1:=t154 hp ht ha hb;have k2:=t151 hp ht hb (wr IntKind.u8 (1-p.aa));have k3:=t97 hp ht hb;have k4:lG p.aa a≠7→rC p ((a:Int)+iF p.aa)=true:=fun h=>by obtain⟨c1,c2⟩:=r2 h;obtain⟨s,hs⟩:=Int.eq_ofNat_of_zero_le c1;rw[←r3,hs];exact t97 hp ht (by omega)
 unfold B9;grind
theorem t93 {a b:Nat}(ha:a<64)(hb:b<64):IQ p a b=true:=by
 have ki:(decide (0≤(a:Int))&&decide ((a:Int)<Int.ofNat 64))=true:=by simp;omega
 have k1:=t154 hp ht ha hb;have k2:=t151 hp ht ha p.aa;have k3:=t151 hp ht hb p.aa;have k4:=t157 hp ht ha hb;have k5:=t97 hp ht hb;unfold IQ;simp_all
end
def fN (p:Pos)(a b:Nat):M' :=
 bif !DJ p a b then[]else bif bE (p.ab.getD a 0) != 1 then[⟨a,b,0,0,false⟩]else bif xf p.aa b != 7 then[⟨a,b,0,0,false⟩]else(sW p.variant).map fun k=>⟨a,b,k,0,false⟩
theorem Bl (p:Pos)(a b:Nat):(fN p a b).length≤5:=by unfold fN;refine al (P:=fun l:M'=>l.length≤5) (fun _=>by simp) fun _=>al (P:=fun l:M'=>l.length≤5) (fun _=>by simp) fun _=>al (P:=fun l:M'=>l.length≤5) (fun _=>by simp) fun _=>?_;rw[List.length_map];unfold sW;grind
theorem ajk (l:List Int)(p1 p2 p4 p5:Int)(p6:Bool)(p7:Pos)(p8:Nat)(m0:Mv)(out:M')(hl:l.length≤5)(ho:out.length≤1000000) :
  ∃r,wL p1 p2 l p4 p5 p6 p7 p8 (out,0,m0)=some r∧r.1=out++l.map fun k=>⟨m0.aD,m0.to,k,m0.bh,m0.bZ⟩:=by
 refine aQ (I:=fun x=>0≤x.2.1∧x.2.1≤(l.length:Int)∧x.1=out++(l.take x.2.1.toNat).map (fun k=>(⟨m0.aD,m0.to,k,m0.bh,m0.bZ⟩:Mv))∧x.2.2.aD=m0.aD∧x.2.2.to=m0.to∧x.2.2.bh=m0.bh∧x.2.2.bZ=m0.bZ) (μ:=fun x=>((l.length:Int)-x.2.1).toNat) ?_ _ (by simp_all) (by simp;omega);rintro⟨o,n,m⟩ ⟨h0,h1,h2,e1,e2,e3,e4⟩;simp only at h0 h1 h2 e1 e2 e3 e4;by_cases hc:n<l.length
 ·have hlt:n.toNat<l.length:=by omega
  have hol:o.length≤1000005:=by rw[h2];simp;omega
  refine⟨aq (fun _=>ak (by simp[h0];exact hc) fun _=>?_) fun _=>rfl,al (fun _=>?_) (by simp_all)⟩
  ·simp;omega
  ·rw[aF (n:=n+1) (by omega) (by omega)];refine⟨⟨by show 0≤n+1;omega,by show n+1≤_;omega,?_,e1,e2,e3,e4⟩,by grind⟩;show o++[_]=out++(l.take (n+1).toNat).map _;rw[show(n+1).toNat=n.toNat+1 by omega,List.take_succ_eq_append_getElem hlt,List.map_append,h2,List.append_assoc,e1,e2,e3,e4];simp_all
 ·refine⟨aq (fun h=>absurd h (by simpa using hc)) fun _=>rfl,al (fun h=>absurd h (by simpa using hc)) fun _=>?_⟩;show o=_;rw[h2,List.take_of_length_le (show l.length≤n.toNat by omega)]
end Kz
namespace Kz
open Go Go.RowKit Go.Proofs
def K81:KT:=[(81,48,[(0,(1::2::3::12::13::16::17::(rn 28 7 (rn 37 4 [])))),(1,(1::2::3::7::12::13::16::17::(rn 28 7 (rn 37 4 [])))),(2,(1::2::3::7::8::12::13::16::17::(rn 28 7 (rn 37 4 [])))),(3,(1::2::3::7::8::12::13::16::17::18::(rn 28 7 (rn 37 4 [])))),(4,(1::2::3::7::8::12::13::16::17::(rn 28 7 (rn 37 4 [])))),(5,(1::2::3::7::8::12::13::16::17::(rn 28 7 (rn 37 5 [])))),(6,(1::2::3::7::8::12::13::16::17::(rn 28 7 (rn 37 4 [])))),(7,[6])])]
def aiP:ar:=bO Pz K81 [(82,nN),(83,V5),(154,Ep)] [] []
theorem YT:aP aiP:=ae af ⟨nV,Yy,Ja,trivial⟩ trivial trivial
def Xg (p1:Int)(p2:Int)(p3:Pos)(x:((BitVec 64)×Int)):St:=St.mk (.any::.int .i64 p1::.int .u8 p2::.ptr 0 0::(an 3 (.u64 x.1::.int .i64 x.2::(an 39 [])))) (Hp.mk [(pc p3 [])] [] [] 0 0 0)
def Xx (p1:Int)(p2:Int)(p3:Pos):((BitVec 64)×Int×Bool)→Out:=fun y=>.exit 0 (St.mk (.any::.int .i64 p1::.int .u8 p2::.ptr 0 0::(an 3 (.u64 y.1::.int .i64 y.2.1::(an 9 (.bool y.2.2::(an 29 [])))))) (Hp.mk [(pc p3 [])] [] [] 0 0 0))
def QN (p1:Int)(p2:Int)(p3:Pos)(x:((BitVec 64)×Int)):aG ((BitVec 64)×Int) (((BitVec 64)×Int×Bool)):=(bif decide (x.2<64)then(bif decide (p1≥0)then(bif decide (p1<64)then(bif bE (p3.ab.getD (scale 1 x.2).toNat 0) != 0 then(bif oQ (p3.ab.getD (scale 1 x.2).toNat 0)==p2 then(bif oC p3 x.2 p1 then(aG.go (x.1|||1#64 <<< (BitVec.ofInt 64 x.2).toNat,wr .i64 (x.2+1)))else(aG.go (x.1,wr .i64 (x.2+1))))else(aG.go (x.1,wr .i64 (x.2+1))))else(aG.go (x.1,wr .i64 (x.2+1))))else(aG.out ((x.1,x.2,decide (p1<64)))))else(aG.out ((x.1,x.2,false))))else(aG.out ((x.1,x.2,false))))
def Gj (p1:Int)(p2:Int)(p3:Pos)(x:((BitVec 64)×Int)):Bool:=(bif decide (x.2<64)then(bif decide (p1≥0)then(bif decide (p1<64)then(decide (0≤x.2)&&decide (x.2<Int.ofNat 64)&&(bif bE (p3.ab.getD (scale 1 x.2).toNat 0) != 0 then(decide (0≤x.2)&&decide (x.2<Int.ofNat 64)&&(bif oQ (p3.ab.getD (scale 1 x.2).toNat 0)==p2 then(qb p3 (x.2) p1&&true)else true))else true))else true)else true)else true)
def vJ (p1:Int)(p2:Int)(p3:Pos)(x:((BitVec 64)×Int)):Option (((BitVec 64)×Int×Bool)):=cW (fun x=>bif Gj p1 p2 p3 x then QN p1 p2 p3 x else .bad) many x
abbrev WI {α:Type}(k:Int→Int→Pos→((BitVec 64)×Int)→α)(s:St):α:=wP s 0 fun q0=>k (tI (tT s 1)) (tI (tT s 2)) q0 ((tU (tT s 7)),(tI (tT s 8)))
theorem ai3 (p1:Int)(p2:Int)(p3:Pos)(x:((BitVec 64)×Int))(r:((BitVec 64)×Int×Bool))(h:vJ p1 p2 p3 x=some r):aC Pz (bc Pz 81 3) (Xg p1 p2 p3 x) (Xx p1 p2 p3 r):=smq (m:=12) (fn:=81) YT (WI fun _ _ _ x=>some x) (fun o=>match o with | .exit 0 s=>some ((tU (tT s 7)),(tI (tT s 8)),(tB (tT s 18)))|_=>none) many x r h
def Wo (b:Code)(s:St):Tr Out:=WI (fun p1 p2 p3 x=>jU b (bc Pz 81 3) s (Xg p1 p2 p3 x) (vJ p1 p2 p3 x) (Xx p1 p2 p3)) s
theorem ab4:∀b,aT Pz b (Wo b):=fun _ _ _ h=>bF (ai3 _ _ _ _) h
def B81:ar:=bO Pz K81 [(82,nN),(83,V5),(154,Ep)] [(81,3,Wo)] []
theorem asd:aP B81:=ae af ⟨nV,Yy,Ja,trivial⟩ ⟨ab4,trivial⟩ trivial
def N81 (a:Pos)(b:Int)(c:Int):BitVec 64:=(((vJ b c a (0#64,0)).getD default).1)
def ID (a:Pos)(b:Int)(c:Int):Bool:=((vJ b c a (0#64,0)).isSome&&true)
theorem P81 (a:Pos)(b:Int)(c:Int)(h:ID a b c=true):PS Pz 81 [Pos.av a,.int .i64 b,.int .u8 c] (dU.res (N81 a b c)):=pq14 asd h
def G81:GT:=g3 aZ (dI .i64) (dI .u8) (fun a b c=>b7 (ID a b c) (dU.res (N81 a b c)))
theorem s81:Sound Pz 81 G81:=db fun a b c=>aA (P81 a b c)
end Kz
namespace Kz
open Go Go.RowKit
def DP (p:Pos)(t:Nat)(c:Int)(s:Nat):Bool:=bE (p.ab.getD s 0) != 0&&(oQ (p.ab.getD s 0)==c&&oC p s t)
theorem Uc {p:Pos}(hp:ax p)(ht:p.aa=0∨p.aa=1){t:Nat}(h64:t<64)(c:Int):ID p t c=true∧∀s,s<64→(N81 p t c).getLsbD s=DP p t c s:=by
 have hl:∃r,vJ t c p (0#64,0)=some r∧∀s,s<64→r.1.getLsbD s=DP p t c s:=by
  refine aQ (I:=fun x=>∃n:Nat,n≤64∧x.2=(n:Int)∧∀s,s<64→x.1.getLsbD s=(decide (s<n)&&DP p t c s)) (μ:=fun x=>(64-x.2).toNat) ?_ _ ⟨0,by omega,rfl,fun s hs=>by simp⟩ (by simp);rintro⟨o,m⟩ ⟨n,hn,hm,h⟩;simp only at hm h;subst hm;have hsc:(scale 1 (n:Int)).toNat=n:=by unfold scale;simp
  unfold Gj QN;dsimp only;rw[hsc,show decide ((t:Int)≥0)=true by simp,show decide ((t:Int)<64)=true by simp;omega];by_cases hc64:n<64
  ·have k174:=t154 hp ht hc64 h64;rw[aF (n:=(n:Int)+1) (by omega) (by omega)];constructor
   ·grind
   ·have keep:DP p t c n=false→xd (fun x:BitVec 64×Int=>∃n:Nat,n≤64∧x.2=(n:Int)∧∀s,s<64→x.1.getLsbD s=(decide (s<n)&&DP p t c s)) (fun r:BitVec 64×Int×Bool=>∀s,s<64→r.1.getLsbD s=DP p t c s) (fun x=>(64-x.2).toNat) (64-(n:Int)).toNat (.go (o,(n:Int)+1)):=fun hf=>by refine⟨⟨n+1,by omega,rfl,fun s hs=>?_⟩,by grind⟩;grind
    have add:DP p t c n=true→xd (fun x:BitVec 64×Int=>∃n:Nat,n≤64∧x.2=(n:Int)∧∀s,s<64→x.1.getLsbD s=(decide (s<n)&&DP p t c s)) (fun r:BitVec 64×Int×Bool=>∀s,s<64→r.1.getLsbD s=DP p t c s) (fun x=>(64-x.2).toNat) (64-(n:Int)).toNat (.go (o|||1#64 <<< (BitVec.ofInt 64 n).toNat,(n:Int)+1)):=fun hf=>by refine⟨⟨n+1,by omega,rfl,fun s hs=>?_⟩,by grind⟩;grind
    refine al (fun _=>?_) (by grind);simp only[cond_true];refine al (fun h1=>al (fun h2=>al (fun h3=>?_) fun h3=>?_) fun h2=>?_) fun h1=>?_
    ·exact add (by unfold DP;rw[h1,h2,h3];rfl)
    ·exact keep (by unfold DP;rw[h1,h2,h3];rfl)
    ·exact keep (by unfold DP;rw[h1,h2];rfl)
    ·exact keep (by unfold DP;rw[h1];rfl)
  ·have e:n=64:=by omega
   subst e;refine⟨by simp_all,al (by simp_all) fun _=>?_⟩;intro s hs;simp_all
 have h2:=aJ hl;exact⟨ak h2.1 fun _=>rfl,h2.2⟩
def btw (a d b:Nat):List Nat:=(nn a d).takeWhile fun s => !(s==b)
theorem Qf:∀(a:Fin 64) (d:Fin 8),((nn a.val d.val).all fun b=>decide (b<64)&&decide (a.val∈nn b ((d.val+4)%8))&&(btw b ((d.val+4)%8) a.val==(btw a.val d.val b).reverse))=true:=by decide +kernel
theorem vF {b:Nat}:∀{l:List Nat},b∈l→∃post,l=(l.takeWhile fun s => !(s==b))++b::post∧b∉(l.takeWhile fun s => !(s==b))
 | [],h=>by cases h
 |s::l,h=>by
  by_cases e:s=b
  ·simp_all
  ·have hb:b∈l:=by
    simp only[List.mem_cons]at h
    rcases h with h|h
    ·exact absurd h.symm e
    ·exact h
   obtain⟨post,e1,e2⟩:=vF hb
   have hs:(!(s==b))=true:=by simpa using e
   have ht:((s::l).takeWhile fun s => !(s==b))=s::(l.takeWhile fun s => !(s==b)):=by
    rw[List.takeWhile]
    simp only[hs]
   grind
theorem uO {b:Nat}:∀{l1 l2 m1 m2:List Nat},l1++b::m1=l2++b::m2→b∉l1→b∉l2→l1=l2
 | [],[],_,_,_,_,_=>rfl
 | [],y::l2,_,_,h,_,h2=>by
  simp_all
 |x::l1,[],_,_,h,h1,_=>by
  simp_all
 |x::l1,y::l2,m1,m2,h,h1,h2=>by
  simp only[List.cons_append,List.cons.injEq]at h
  rw[h.1,uO h.2 (fun hm=>h1 (by simp[hm])) (fun hm=>h2 (by simp[hm]))]
theorem C8 {occ:BitVec 64}{a d b:Nat}(hb:b∈nn a d):b∈seen occ (nn a d) ↔ ∀s∈btw a d b,occ.getLsbD s=false:=by
 rw[vl hb];obtain⟨post,e1,e2⟩:=vF hb;constructor
 ·intro h;exact h _ post e1 e2
 ·intro h pre post' e hp;rw[uO (e.symm.trans e1) hp e2];exact h
theorem L4 (p:Pos){occ:BitVec 64}(hocc:∀s,s<64→(occ.getLsbD s=false ↔ bE (p.ab.getD s 0)=0)){a b:Nat}(ha:a<64)(h:lW a b=true∨lK a b=true):ez p a b=ez p b a:=by
 have:∃d,d<8∧b∈nn a d:=by
  unfold lW lK at h;simp only[Bool.or_eq_true,decide_eq_true_eq]at h;rcases h with(((h|h)|h)|h)|(((h|h)|h)|h)
  ·grind
  ·grind
  ·grind
  ·grind
  ·grind
  ·grind
  ·grind
  ·grind
 obtain⟨d,hd,hb⟩:=this;have f:=List.all_eq_true.1 (Qf ⟨a,ha⟩ ⟨d,hd⟩) b hb;simp only[E',decide_eq_true_eq,beq_iff_eq]at f;obtain⟨⟨f1,f2⟩,f3⟩:=f;rw[(nE p hocc ha hd hb).2,(nE p hocc f1 (Nat.mod_lt _ (by decide)) f2).2,decide_eq_decide,C8 hb,C8 f2,f3];simp
end Kz
namespace Kz
open Go Go.RowKit Go.Proofs
def anz:KT:=[(152,25,[(0,(rn 1 4 (rn 17 7 []))),(1,[8])])]
def atx:ar:=bO Pz anz [(82,nN),(83,V5)] [] []
theorem aeo:aP atx:=ae af ⟨nV,Yy,trivial⟩ trivial trivial
def rV (a:Pos)(b:Int)(c:Int)(d:Int):Bool:=(bif bE (a.ab.getD (scale 1 b).toNat 0)==d then(oQ (a.ab.getD (scale 1 b).toNat 0)==c)else(false))
def od (a:Pos)(b:Int)(c:Int)(d:Int):Bool:=(decide (0≤b)&&decide (b < ↑64)&&(bif bE (a.ab.getD (scale 1 b).toNat 0)==d then(decide (0≤b)&&decide (b < ↑64)&&true)else true))
theorem akZ (a:Pos)(b:Int)(c:Int)(d:Int)(h:od a b c d=true):PS Pz 152 [Pos.av a,.int .i64 b,.int .u8 c,.int .u8 d] (dB.res (rV a b c d)):=pq14 aeo h
def qx:GT:=g4 aZ (dI .i64) (dI .u8) (dI .u8) (fun a b c d=>b7 (od a b c d) (dB.res (rV a b c d)))
theorem ry:Sound Pz 152 qx:=En fun a b c d=>aA (akZ a b c d)
def ahs:KT:=[(150,18,[(0,[1,2,3]),(1,[1,2,3,7]),(2,[1,2,3,7,9]),(3,[1,2,3,7]),(4,[1,2,3,7,16]),(5,[6]),(6,[6])])]
def abt:ar:=bO Pz ahs [(152,qx)] [] []
theorem SY:aP abt:=ae af ⟨ry,trivial⟩ trivial trivial
def Lj (p1:Int)(p2:Int)(p3:Pos)(x:(Int)):St:=St.mk (.any::.int .u8 p1::.int .u8 p2::.ptr 0 0::(an 3 (.int .i64 x::(an 10 [])))) (Hp.mk [(pc p3 [])] [] [] 0 0 0)
def Mb (p1:Int)(p2:Int)(p3:Pos):(Int) ⊕ (Int×Bool)→Out
 |(.inl (y))=>.ret (St.mk (an 6 (AV.int .i64 y::(an 11 []))) (Hp.mk [(pc p3 [])] [] [] 0 0 0))
 |(.inr (y))=>.exit 0 (St.mk (AV.any::AV.int .u8 p1::AV.int .u8 p2::AV.ptr 0 0::(an 3 (AV.int .i64 y.1::AV.any::AV.bool y.2::(an 8 [])))) (Hp.mk [(pc p3 [])] [] [] 0 0 0))
def G8 (p1:Int)(p2:Int)(p3:Pos)(x:(Int)):aG (Int) ((Int) ⊕ (Int×Bool)):=(bif decide (x<64)then(bif rV p3 x p1 p2 then(aG.out (.inl x))else(aG.go (wr .i64 (x+1))))else(aG.out (.inr ((x,decide (x<64))))))
def BN (p1:Int)(p2:Int)(p3:Pos)(x:(Int)):Bool:=(bif decide (x<64)then(od p3 x p1 p2&&true)else true)
def jH (p1:Int)(p2:Int)(p3:Pos)(x:(Int)):Option ((Int) ⊕ (Int×Bool)):=cW (fun x=>bif BN p1 p2 p3 x then G8 p1 p2 p3 x else .bad) many x
abbrev M8 {α:Type}(k:Int→Int→Pos→(Int)→α)(s:St):α:=wP s 0 fun q0=>k (tI (tT s 1)) (tI (tT s 2)) q0 ((tI (tT s 7)))
theorem Zv (p1:Int)(p2:Int)(p3:Pos)(x:(Int))(r:(Int) ⊕ (Int×Bool))(h:jH p1 p2 p3 x=some r):aC Pz (bc Pz 150 2) (Lj p1 p2 p3 x) (Mb p1 p2 p3 r):=aC.Be (m:=12) (fn:=150) SY (M8 fun _ _ _ x=>some x) (fun o=>match o with | .ret s=>some (.inl (tI (tT s 6))) | .exit 0 s=>some (.inr ((tI (tT s 7)),(tB (tT s 9))))|_=>none) (fun r=>by cases r<;>rfl) (fun _=>by kernel_rfl) (fun _=>by kernel_rfl) (fun _=>by kernel_rfl) (fun _=>by kernel_rfl) many x r h
def Nr (b:Code)(s:St):Tr Out:=M8 (fun p1 p2 p3 x=>Bg b (bc Pz 150 2) s (Lj p1 p2 p3 x) (jH p1 p2 p3 x) (Mb p1 p2 p3)) s
theorem Ux:∀b,aT Pz b (Nr b):=fun _ _ _ h=>eZ (Zv _ _ _ _) h
def aq5:ar:=bO Pz ahs [(152,qx)] [(150,2,Nr)] []
theorem ahw:aP aq5:=ae af ⟨ry,trivial⟩ ⟨Ux,trivial⟩ trivial
def cF (a:Pos)(b:Int)(c:Int):Int:=(bif cQ ((jH b c a 0).getD default)then(gl ((jH b c a 0).getD default))else(-1))
def wU (a:Pos)(b:Int)(c:Int):Bool:=((jH b c a 0).isSome&&bif cQ ((jH b c a 0).getD default)then true else true)
theorem anN (a:Pos)(b:Int)(c:Int)(h:wU a b c=true):PS Pz 150 [Pos.av a,.int .u8 b,.int .u8 c] ((dI .i64).res (cF a b c)):=pq14 ahw h
def zh:GT:=g3 aZ (dI .u8) (dI .u8) (fun a b c=>b7 (wU a b c) ((dI .i64).res (cF a b c)))
theorem C4:Sound Pz 150 zh:=db fun a b c=>aA (anN a b c)
end Kz
namespace Kz
open Go Go.RowKit
theorem M0:∀(c:Fin 2) (k:Fin 7) (v:Fin 256),1≤k.val→dv c.val k.val v.val=(bE v.val==k.val&&oQ v.val==c.val):=by decide +kernel
theorem is' {c k v:Int}(hc:c=0∨c=1)(k1:1≤k)(k6:k≤6)(v0:0≤v)(v1:v≤255):dv c k v=(bE v==k&&oQ v==c):=by
 obtain⟨n,rfl⟩:=Int.eq_ofNat_of_zero_le v0;obtain⟨m,rfl⟩:=Int.eq_ofNat_of_zero_le (show 0≤k by omega);rcases hc with rfl|rfl
 ·exact M0 0 ⟨m,by omega⟩ ⟨n,by omega⟩ (by show 1≤m;omega)
 ·exact M0 1 ⟨m,by omega⟩ ⟨n,by omega⟩ (by show 1≤m;omega)
theorem kQ {p:Pos}(hp:ax p){c k:Int}(hc:c=0∨c=1)(k1:1≤k)(k6:k≤6){s:Nat}(hs:s<64):od p s c k=true∧rV p s c k=dv c k (p.ab.getD s 0):=by
 obtain⟨b0,b1⟩:=fj hp s;have hsc:(scale 1 (s:Int)).toNat=s:=by unfold scale;simp
 rw[is' hc k1 k6 b0 b1];unfold od rV;grind
theorem pF {p:Pos}(hp:ax p){c k:Int}(hc:c=0∨c=1)(k1:1≤k)(k6:k≤6):wU p c k=true∧cF p c k=bg p c k:=by
 have hl:∃r,jH c k p 0=some r∧(match r with
   | .inl i=>∃n:Nat,n<64∧i=n∧dv c k (p.ab.getD n 0)=true∧∀j,j<n→dv c k (p.ab.getD j 0)=false
   | .inr _=>∀j:Nat,j<64→dv c k (p.ab.getD j 0)=false):=by
  refine aQ (I:=fun x=>∃n:Nat,n≤64∧x=(n:Int)∧∀j,j<n→dv c k (p.ab.getD j 0)=false) (μ:=fun x=>(64-x).toNat) ?_ _ ⟨0,by omega,rfl,fun j hj=>by omega⟩ (by simp);rintro _ ⟨n,hn,rfl,h⟩;unfold BN G8;by_cases hc64:n<64
  ·obtain⟨e1,e2⟩:=kQ hp hc k1 k6 hc64;rw[e1,e2,aF (n:=(n:Int)+1) (by omega) (by omega)];refine⟨aq (fun _=>rfl) fun _=>rfl,al (fun _=>al (fun ht=>?_) fun ht=>?_) fun h'=>absurd h' (by simp;omega)⟩
   ·exact⟨n,hc64,rfl,ht,h⟩
   ·refine⟨⟨n+1,by omega,rfl,fun j hj=>?_⟩,by show(64-((n:Int)+1)).toNat<(64-(n:Int)).toNat;omega⟩;by_cases e:j=n
    ·rw[e];exact ht
    ·exact h j (by omega)
  ·have e:n=64:=by omega
   subst e;exact⟨rfl,h⟩
 have h2:=aJ hl;constructor
 ·exact ak h2.1 fun _=>aq (fun _=>rfl) fun _=>rfl
 ·unfold cF;have h3:=h2.2;generalize (jH c k p 0).getD default=r at h3;rcases gO p c k with⟨a1,a2⟩|⟨j,a0,a1,a2,a3⟩
  ·cases r with
   |inl i =>grind
   |inr x=>rw[a1];rfl
  ·cases r with
   |inl i =>obtain⟨n,h64,rfl,ht,hm⟩:=h3;rw[a1];show(n:Int)=j;grind
   |inr x =>simp_all
theorem y4:∀a b:Fin 64,(uF a.val).getLsbD b.val=(uF b.val).getLsbD a.val∧(fA a.val).getLsbD b.val=(fA b.val).getLsbD a.val∧lW a.val b.val=lW b.val a.val∧lK a.val b.val=lK b.val a.val:=by decide +kernel
theorem wW:∀(c:Fin 2) (s t:Fin 64),(fc (1-c.val) t.val).getLsbD s.val=cX 1 c.val s.val t.val false:=by decide +kernel
theorem I9:∀t:Fin 64,Qm t.val=true:=by decide +kernel
theorem CM {p:Pos}(hp:ax p){s:Nat}(hs:s<64):(bm p).getLsbD s=false ↔ bE (p.ab.getD s 0)=0:=by
 obtain⟨b0,b1⟩:=fj hp s;rw[mf _ hs];have:ij (p.ab.getD s 0)=!(bE (p.ab.getD s 0)==0):=by
  obtain⟨n,hn⟩:=Int.eq_ofNat_of_zero_le b0;rw[hn];have h:∀v:Fin 256,ij v.val=!(bE v.val==0):=by decide +kernel
  exact h ⟨n,by omega⟩
 rw[this];simp
theorem O1 {p:Pos}(hp:ax p){t:Nat}(h64:t<64){c:Int}(hc:c=0∨c=1){s:Nat}(hs:s<64):(qi p t c).getLsbD s=DP p t c s:=by
 have hocc:=fun s hs=>CM hp (s:=s) hs;obtain⟨b0,b1⟩:=fj hp s;obtain⟨y2,y6,ystr,yacr⟩:=y4 ⟨s,hs⟩ ⟨t,h64⟩;obtain⟨f2,f6,f4,f4',f3,f3',f5,f5'⟩:=qH ⟨s,hs⟩ ⟨t,h64⟩;simp only at f2 f6 f4 f4' f3 f3' f5 f5' y2 y6 ystr yacr;have hr:=uq hocc h64 hs;have hbi:=oJ hocc h64 hs;have hqu:=yy hocc h64 hs;have cs:lW s t=true∨lK s t=true→ez p s t=ez p t s:=fun h=>L4 p hocc hs h;have tk:=fun (k:Int) (k1:1≤k) (k6:k≤6)=>(bL p c k hs).trans (is' hc k1 k6 b0 b1);have hpawn:(Jw (wr .u8 (1-c)) t (bm p)).getLsbD s=cX 1 c s t false:=by
  unfold Jw;rw[kD (by omega) (by omega)];rcases hc with rfl|rfl
  ·exact wW 0 ⟨s,hs⟩ ⟨t,h64⟩
  ·exact wW 1 ⟨s,hs⟩ ⟨t,h64⟩
 have e:qi p t c=0|||Jw (wr .u8 (1-c)) t (bm p)&&&aS p c 1|||uF t&&&aS p c 2|||xF t (bm p)&&&aS p c 3|||xw t (bm p)&&&aS p c 4|||Ai t (bm p)&&&aS p c 5|||fA t&&&aS p c 6:=by unfold qi;rw[I9 ⟨t,h64⟩,show decide (c>1)=false by simp;omega];rfl
 rw[e];simp only[BitVec.getLsbD_or,BitVec.getLsbD_and];rw[tk 1 (by omega) (by omega),tk 2 (by omega) (by omega),tk 3 (by omega) (by omega),tk 4 (by omega) (by omega),tk 5 (by omega) (by omega),tk 6 (by omega) (by omega),hr,hbi,hqu,hpawn,←y2,←y6,←ystr,←yacr];unfold DP;rw[tJ,show(scale 1 (s:Int)).toNat=s by unfold scale;simp];have km:bE (p.ab.getD s 0)=0∨bE (p.ab.getD s 0)=1∨bE (p.ab.getD s 0)=2∨bE (p.ab.getD s 0)=3∨bE (p.ab.getD s 0)=4∨bE (p.ab.getD s 0)=5∨bE (p.ab.getD s 0)=6:=by have:=(sU b0 b1).2.2.2.2;omega
 generalize bE (p.ab.getD s 0)=k at *;generalize oQ (p.ab.getD s 0)=col at *;cases hcol:col==c with
 |false=>simp
 |true =>
  have hcol:col=c:=by simpa using hcol
  subst hcol;rcases km with rfl|rfl|rfl|rfl|rfl|rfl|rfl
  ·simp
  ·have:cX 1 col s t (ez p s t)=cX 1 col s t false:=rfl;rw[this];simp
  ·rw[j5 (k:=2) rfl,show cX 2 0 s t (ez p s t)=(uF s).getLsbD t from f2 ▸ rfl];simp
  ·rw[j5 (k:=3) rfl];have:cX 3 0 s t (ez p s t)=(lK s t&&ez p t s):=by
    cases ha:lK s t with
    |true =>grind
    |false =>
     cases ez p s t
     ·rw[f3'];rfl
     ·rw[f3,ha];rfl
   rw[this];simp
  ·rw[j5 (k:=4) rfl];have:cX 4 0 s t (ez p s t)=(lW s t&&ez p t s):=by
    cases ha:lW s t with
    |true =>grind
    |false =>
     cases ez p s t
     ·rw[f4'];rfl
     ·rw[f4,ha];rfl
   rw[this];simp
  ·rw[j5 (k:=5) rfl];have:cX 5 0 s t (ez p s t)=((lW s t ||lK s t)&&ez p t s):=by
    cases ha:(lW s t ||lK s t)with
    |true =>grind
    |false =>
     cases ez p s t
     ·rw[f5'];rfl
     ·rw[f5,ha];rfl
   rw[this];simp
  ·rw[j5 (k:=6) rfl,show cX 6 0 s t (ez p s t)=(fA s).getLsbD t from f6 ▸ rfl];simp
end Kz
namespace Kz
open Go Go.RowKit Go.Proofs
def K84:KT:=[(84,23,[(0,(0::1::8::9::12::13::(rn 16 6 []))),(1,[4])])]
def B84:ar:=bO Pz K84 [] [] []
theorem atA:aP B84:=ae af trivial trivial trivial
def Lh (a:Int)(b:Int):Bool:=(bif decide (a<9)then(bif decide (b<2)then(bif a != 4 then(bif a != 7 then(true)else(b==1))else(false))else(false))else(false))
def akP (a:Int)(b:Int):Bool:=true
theorem P84 (a:Int)(b:Int)(h:akP a b=true):PS Pz 84 [.int .u8 a,.int .u8 b] (dB.res (Lh a b)):=pq14 atA h
def G84:GT:=g2 (dI .u8) (dI .u8) (fun a b=>.ret (dB.res (Lh a b)))
theorem s84:Sound Pz 84 G84:=aO fun a b=>bH (P84 a b rfl)
def K80:KT:=[(80,39,[(0,[1,2,16,17,22,23,24,34,35,36]),(1,[1,2,5,16,17,22,23,24,34,35,36]),(2,[1,2,5,18,22,23,24,34,35,36]),(3,[4]),(4,[1,2,5,6,22,23,24,34,35,36]),(5,(1::2::5::6::(rn 22 4 [34,35,36]))),(6,[1,2,5,6,22,23,24,34,35,36]),(7,(1::2::5::6::22::23::24::(rn 34 4 []))),(8,[4]),(9,[4])])]
def adi:ar:=bO Pz K80 [(84,G84),(150,zh),(152,qx),(153,BF)] [] []
theorem ab7:aP adi:=ae af ⟨s84,C4,ry,FN,trivial⟩ trivial trivial
def Vx (p1:Int)(p2:Int)(p3:Pos)(x:(Int)):St:=St.mk (.any::.int .u8 p1::.ptr 0 0::.any::.any::.int .i64 p2::.int .i64 x::(an 32 [])) (Hp.mk [(pc p3 [])] [] [] 0 0 0)
def Wx (p1:Int)(p2:Int)(p3:Pos):Unit ⊕ (Int×Bool)→Out
 |(.inl (y))=>.ret (St.mk (an 4 (AV.bj .i64 (-1)::(an 34 []))) (Hp.mk [(pc p3 [])] [] [] 0 0 0))
 |(.inr (y))=>.exit 0 (St.mk (AV.any::AV.int .u8 p1::AV.ptr 0 0::AV.any::AV.any::AV.int .i64 p2::AV.int .i64 y.1::(an 18 (AV.bool y.2::(an 13 [])))) (Hp.mk [(pc p3 [])] [] [] 0 0 0))
def uD (p1:Int)(p2:Int)(p3:Pos)(x:(Int)):aG (Int) (Unit ⊕ (Int×Bool)):=(bif decide (x<64)then(bif p3.variant==3 then(bif rV p3 x (wr .u8 (1-p1)) 6 then(bif jn x p2 then(aG.out (.inl (())))else(aG.go (wr .i64 (x+1))))else(aG.go (wr .i64 (x+1))))else(aG.out (.inr ((x,p3.variant==3)))))else(aG.out (.inr ((x,false)))))
def py (p1:Int)(p2:Int)(p3:Pos)(x:(Int)):Bool:=(bif decide (x<64)then(bif p3.variant==3 then(od p3 x (wr .u8 (1-p1)) 6&&true)else true)else true)
def rQ (p1:Int)(p2:Int)(p3:Pos)(x:(Int)):Option (Unit ⊕ (Int×Bool)):=cW (fun x=>bif py p1 p2 p3 x then uD p1 p2 p3 x else .bad) many x
abbrev VC {α:Type}(k:Int→Int→Pos→(Int)→α)(s:St):α:=wP s 0 fun q0=>k (tI (tT s 1)) (tI (tT s 5)) q0 ((tI (tT s 6)))
theorem aeK (p1:Int)(p2:Int)(p3:Pos)(x:(Int))(r:Unit ⊕ (Int×Bool))(h:rQ p1 p2 p3 x=some r):aC Pz (bc Pz 80 5) (Vx p1 p2 p3 x) (Wx p1 p2 p3 r):=aC.Be (m:=12) (fn:=80) ab7 (VC fun _ _ _ x=>some x) (fun o=>match o with | .ret s=>some (.inl ()) | .exit 0 s=>some (.inr ((tI (tT s 6)),(tB (tT s 25))))|_=>none) (fun r=>by cases r<;>rfl) (fun _=>by kernel_rfl) (fun _=>by kernel_rfl) (fun _=>by kernel_rfl) (fun _=>by kernel_rfl) many x r h
def Wu (b:Code)(s:St):Tr Out:=VC (fun p1 p2 p3 x=>Bg b (bc Pz 80 5) s (Vx p1 p2 p3 x) (rQ p1 p2 p3 x) (Wx p1 p2 p3)) s
theorem Yf:∀b,aT Pz b (Wu b):=fun _ _ _ h=>eZ (aeK _ _ _ _) h
def B80:ar:=bO Pz K80 [(84,G84),(150,zh),(152,qx),(153,BF)] [(80,5,Wu)] []
theorem aq9:aP B80:=ae af ⟨s84,C4,ry,FN,trivial⟩ ⟨Yf,trivial⟩ trivial
def N80 (a:Pos)(b:Int):Int:=(bif !Lh a.variant b then(-1)else(bif decide (cF a b 6<0)then(-1)else(bif cQ ((rQ b (cF a b 6) a 0).getD default)then(-1)else(cF a b 6))))
def RS (a:Pos)(b:Int):Bool:=(wU a b 6&&(bif !Lh a.variant b then true else(bif decide (cF a b 6<0)then true else((rQ b (cF a b 6) a 0).isSome&&bif cQ ((rQ b (cF a b 6) a 0).getD default)then true else true))))
theorem P80 (a:Pos)(b:Int)(h:RS a b=true):PS Pz 80 [Pos.av a,.int .u8 b] ((dI .i64).res (N80 a b)):=pq14 aq9 h
def G80:GT:=g2 aZ (dI .u8) (fun a b=>b7 (RS a b) ((dI .i64).res (N80 a b)))
theorem s80:Sound Pz 80 G80:=aO fun a b=>aA (P80 a b)
def K33:KT:=[(33,21,[(0,(1::2::(rn 14 6 []))),(1,(1::2::7::(rn 14 6 []))),(2,[4]),(3,(1::2::5::(rn 14 6 []))),(4,[4])])]
def B33:ar:=bO Pz K33 [(80,G80),(81,G81)] [] []
theorem alX:aP B33:=ae af ⟨s80,s81,trivial⟩ trivial trivial
def oM (a:Pos)(b:Int):Bool:=(bif decide (b>1)then(false)else(bif decide (N80 a b≥0)then(N81 a (N80 a b) (wr .u8 (1-b)) != 0#64)else(false)))
def jR (a:Pos)(b:Int):Bool:=(bif decide (b>1)then true else(RS a b&&(bif decide (N80 a b≥0)then(ID a (N80 a b) (wr .u8 (1-b))&&true)else true)))
theorem P33 (a:Pos)(b:Int)(h:jR a b=true):PS Pz 33 [Pos.av a,.int .u8 b] (dB.res (oM a b)):=pq14 alX h
def G33:GT:=g2 aZ (dI .u8) (fun a b=>b7 (jR a b) (dB.res (oM a b)))
theorem s33:Sound Pz 33 G33:=aO fun a b=>aA (P33 a b)
end Kz
namespace Kz
open Go Go.RowKit
theorem QF {p:Pos}(hp:ax p)(ht:p.aa=0∨p.aa=1){t:Nat}(h64:t<64){c:Int}(hc:c=0∨c=1):ID p t c=true∧N81 p t c=qi p t c:=by obtain⟨h1,h2⟩:=Uc hp ht h64 c;refine⟨h1,BitVec.eq_of_getLsbD_eq fun s hs=>?_⟩;rw[h2 s hs,O1 hp h64 hc hs]
theorem at6 {p:Pos}(hp:ax p){b:Int}(hb:b=0∨b=1){k:Nat}(hk:k<64):∃r,rQ b k p 0=some r∧cQ r=(p.variant==3&&(fA k&&&aS p (wr .u8 (1-b)) 6 != 0#64)):=by
 have w1:wr .u8 (1-b)=1-b:=kD (by omega) (by omega);rw[w1];have kings:∀n:Nat,n<64→(fA k&&&aS p (1-b) 6).getLsbD n=(jn n k&&dv (1-b) 6 (p.ab.getD n 0)):=fun n hn=>by
  obtain⟨_,f6,_⟩:=qH ⟨n,hn⟩ ⟨k,hk⟩;obtain⟨_,y6,_⟩:=y4 ⟨n,hn⟩ ⟨k,hk⟩;simp only at f6 y6;rw[BitVec.getLsbD_and,bL _ _ _ hn,←y6,←f6];have:cX 6 0 n k false=jn n k:=by
   have h:∀a b:Fin 64,cX 6 0 a.val b.val false=jn a.val b.val:=by decide +kernel
   exact h ⟨n,hn⟩ ⟨k,hk⟩
  rw[this]
 cases hv:p.variant==3 with
 |false =>
  have e:cW (fun x=>bif py b k p x then uD b k p x else .bad) 1 0=some (.inr (0,false)):=by
   rw[cW];have:(bif py b k p 0 then uD b k p 0 else .bad)=.out (.inr (0,false)):=by unfold py uD;rw[hv];rfl
   rw[this]
  exact⟨_,j4 _ many _ _ (by unfold many;omega) e,rfl⟩
 |true =>
  rw[Bool.true_and];refine aQ (I:=fun x=>∃n:Nat,n≤64∧x=(n:Int)∧∀j,j<n→(fA k&&&aS p (1-b) 6).getLsbD j=false) (μ:=fun x=>(64-x).toNat) ?_ _ (by grind) (by simp);rintro _ ⟨n,hn,rfl,h⟩;unfold py uD;rw[hv,w1];by_cases hc64:n<64
  ·obtain⟨e1,e2⟩:=kQ hp (c:=1-b) (k:=6) (by omega) (by omega) (by omega) hc64;have hbit:=kings n hc64;rw[e1,e2,aF (n:=(n:Int)+1) (by omega) (by omega)];have keep:(fA k&&&aS p (1-b) 6).getLsbD n=false→xd (fun x:Int=>∃n:Nat,n≤64∧x=(n:Int)∧∀j,j<n→(fA k&&&aS p (1-b) 6).getLsbD j=false) (fun r:Unit ⊕ (Int×Bool)=>cQ r=(fA k&&&aS p (1-b) 6 != 0#64)) (fun x=>(64-x).toNat) (64-(n:Int)).toNat (.go ((n:Int)+1)):=fun hf=>by refine⟨⟨n+1,by omega,rfl,fun j hj=>?_⟩,by grind⟩;grind
   constructor
   ·simp_all
   ·refine al (fun _=>?_) (by grind);rw[cond_true];refine al (fun h1=>al (fun h2=>?_) fun h2=>?_) fun h1=>?_
    ·show true=_;grind
    ·simp_all
    simp_all
  ·have e:n=64:=by omega
   subst e;refine⟨by simp_all,al (by simp_all) fun _=>?_⟩;show false=_;grind
theorem xU:∀(v:Fin 9) (b:Fin 2),Lh v.val b.val=qA v.val b.val:=by decide +kernel
theorem uJ {v b:Int}(v0:0≤v)(hb:b=0∨b=1):Lh v b=qA v b:=by
 obtain⟨n,rfl⟩:=Int.eq_ofNat_of_zero_le v0;by_cases h9:n<9
 ·rcases hb with rfl|rfl
  ·exact xU ⟨n,h9⟩ 0
  ·exact xU ⟨n,h9⟩ 1
 ·unfold Lh qA;grind
theorem tY {p:Pos}(hp:ax p)(ht:p.aa=0∨p.aa=1){b:Int}(hb:b=0∨b=1):jR p b=true∧oM p b=jv p b:=by
 obtain⟨f1,f2⟩:=pF hp (c:=b) (k:=6) hb (by omega) (by omega);have w1:wr .u8 (1-b)=1-b:=kD (by omega) (by omega);have hroy:=uJ (b:=b) hp.v0 hb;unfold jR oM RS N80 jv EM DY;rw[f1,f2,hroy,show decide (b>1)=false by simp;omega];rcases gO p b 6 with⟨a1,_⟩|⟨k,hk,a1,_⟩
 ·simp_all
 ·rw[a1];obtain⟨l1,l2⟩:=aJ (at6 hp hb hk);obtain⟨o1,o2⟩:=QF hp ht hk (c:=1-b) (by omega);grind
theorem kZ {α:Type}(g:Nat→List α)(n:Nat):(List.range (n+1)).flatMap g=(List.range n).flatMap g++g n:=by rw[List.range_succ,List.flatMap_append];simp
theorem eL {α:Type}(g:Nat→List α)(c:Nat)(h:∀i,(g i).length≤c):∀n,((List.range n).flatMap g).length≤c*n
 | 0=>by simp
 |n+1=>by
  rw[kZ,List.length_append]
  have:=eL g c h n
  grind
noncomputable section
variable {p:Pos}(hp:ax p)(ht:p.aa=0∨p.aa=1)
include hp ht
theorem ahp {a:Nat}(ha:a<64)(p3:Nat)(out:M')(ho:out.length≤100000):∃r,wF a p p3 (out,0)=some r∧r.1=out++(List.range 64).flatMap (fN p a):=by
 refine aQ (I:=fun x=>∃n:Nat,n≤64∧x=(out++(List.range n).flatMap (fN p a),(n:Int))) (μ:=fun x=>(64-x.2).toNat) ?_ _ (by grind) (by simp);rintro _ ⟨n,hn,rfl⟩;have hsc:(scale 1 (a:Int)).toNat=a:=by unfold scale;simp
 have hlen:=eL (fN p a) 5 (Bl p a) n;unfold HU Nw;dsimp only;rw[hsc];by_cases hc:n<64
 ·have k175:=t93 hp ht ha hc;have wa:wr IntKind.i8 (a:Int)=a:=Kj (by omega) (by omega);have wn:wr IntKind.i8 (n:Int)=n:=Kj (by omega) (by omega);have kl:(decide (0≤(a:Int))&&decide ((a:Int)<Int.ofNat 64))=true:=by simp;omega
  have kap:((out++(List.range n).flatMap (fN p a)).length==(out++(List.range n).flatMap (fN p a)).length&&decide ((out++(List.range n).flatMap (fN p a)).length+1≤1073741824)&&true)=true:=by
   have:(out++(List.range n).flatMap (fN p a)).length≤1000000:=by rw[List.length_append];omega
   generalize (out++(List.range n).flatMap (fN p a)).length=k at this;simp;omega
  have h177:(sW p.variant).length≤5:=by unfold sW;exact(by grind)
  have hl:=aJ (ajk (sW p.variant) a n p.aa (xf p.aa n) (xf p.aa n != 7) p p3 ⟨a,n,0,0,false⟩ (out++(List.range n).flatMap (fN p a)) h177 (by grind));rw[wa,wn,aF (n:=(n:Int)+1) (by omega) (by omega)];constructor
  ·simp_all
  ·have go:∀l:M',l=out++(List.range n).flatMap (fN p a)++fN p a n→xd (fun x:M'×Int=>∃n:Nat,n≤64∧x=(out++(List.range n).flatMap (fN p a),(n:Int))) (fun r:M'×Int×Bool=>r.1=out++(List.range 64).flatMap (fN p a)) (fun x=>(64-x.2).toNat) (64-(n:Int)).toNat (.go (l,(n:Int)+1)):=by rintro _ rfl;exact⟨⟨n+1,by omega,by rw[kZ,List.append_assoc];rfl⟩,by grind⟩
   refine al (fun _=>al (fun h1=>?_) fun h1=>al (fun h2=>?_) fun h2=>al (fun h3=>?_) fun h3=>?_) (by grind)
   ·exact go _ (by unfold fN;rw[h1];simp)
   ·exact go _ (by unfold fN;rw[h1,h2];rfl)
   ·exact go _ (by unfold fN;rw[h1,h2,h3];rfl)
   ·exact go _ (by rw[hl.2];unfold fN;rw[h1,h2,h3];rfl)
 ·have e:n=64:=by omega
  subst e;exact⟨rfl,rfl⟩
theorem agf (p3:Nat):∃r,ot p p3 ([],0)=some r∧r.1=(List.range 64).flatMap fun a=>(List.range 64).flatMap (fN p a):=by
 refine aQ (I:=fun x=>∃n:Nat,n≤64∧x=((List.range n).flatMap (fun a=>(List.range 64).flatMap (fN p a)),(n:Int))) (μ:=fun x=>(64-x.2).toNat) ?_ _ ⟨0,by omega,by simp⟩ (by simp);rintro _ ⟨n,hn,rfl⟩;have hlen:=eL (fun a=>(List.range 64).flatMap (fN p a)) 320 (fun a=>eL (fN p a) 5 (Bl p a) 64) n;unfold FW PE;dsimp only;by_cases hc:n<64
 ·have hl:=aJ (ahp hp ht hc p3 ((List.range n).flatMap (fun a=>(List.range 64).flatMap (fN p a))) (by omega));rw[aF (n:=(n:Int)+1) (by omega) (by omega)];constructor
  ·simp_all
  ·refine al (fun _=>?_) (by grind);rw[hl.2];exact⟨⟨n+1,by omega,by rw[kZ (fun a=>(List.range 64).flatMap (fN p a)) n];rfl⟩,by grind⟩
 ·have e:n=64:=by omega
  subst e;exact⟨rfl,rfl⟩
end
theorem il {α β:Type}(q:α→Bool)(g:α→List β):∀l:List α,(l.filter q).flatMap g=l.flatMap fun a=>bif q a then g a else[]
 | []=>rfl
 |a::l=>by
  rw[List.flatMap_cons,←il q g l]
  grind
theorem mj {α β γ:Type}(f:α→β)(g:β→List γ):∀l:List α,(l.map f).flatMap g=l.flatMap fun a=>g (f a)
 | []=>rfl
 |a::l=>by rw[List.map_cons,List.flatMap_cons,List.flatMap_cons,mj f g l]
theorem jk {α β:Type}{g h:α→List β}:∀{l:List α},(∀a∈l,g a=h a)→l.flatMap g=l.flatMap h
 | [],_=>rfl
 |a::l,e=>by rw[List.flatMap_cons,List.flatMap_cons,e a (by simp),jk fun b hb=>e b (by simp[hb])]
noncomputable section
variable {p:Pos}(hp:ax p)(ht:there p)
include hp ht
theorem Hl {a b:Nat}(ha:a<64)(hb:b<64):fN p a b=bif(own p).getLsbD a then(bif(iH (p,own p,oz p) a).getLsbD b then xn p a b else[])else[]:=by
 have t0:=hp.t0;have htt:p.aa=0∨p.aa=1:=by have:=ht.1;omega
 cases ho:(own p).getLsbD a with
 |false =>
  have e1:=ja hp htt htt ha;rw[show aS p p.aa 0=own p from rfl,ho]at e1;have:DJ p a b=false:=by unfold DJ;rw[e1];cases (a:Int)==(b:Int)<;>rfl
  unfold fN;rw[this];rfl
 |true =>
  have hm:DJ p a b=(iH (p,own p,oz p) a).getLsbD b:=by
   by_cases hk:bE (p.ab.getD a 0)=1
   ·exact LO hp htt ha hb ho hk
   ·exact UL hp htt ha hb ho hk
  obtain⟨b0,b1⟩:=fj hp a;have m91:=(sU b0 b1).1;unfold fN xn;rw[hm,show((a:Int)).toNat=a by omega,m91];obtain⟨c,hc⟩:∃c:Fin 2,p.aa=c.val:=by simp_all
  have r1:=(wS c ⟨b,hb⟩).1;simp only at r1;rw[←hc]at r1;rw[r1];have hpr:(sW p.variant).map (fun k=>(⟨a,b,k,0,false⟩:Mv))=(jw p.variant).flatMap fun k=>[⟨a,b,k,0,false⟩]:=by
   have v0:=hp.v0;have v9:=ht.2;have e:sW p.variant=jw p.variant:=by
    unfold sW jw;by_cases h4:p.variant=4
    ·rw[h4];rfl
    ·grind
   rw[e];induction jw p.variant with
   |nil=>rfl
   |cons k l ih=>simp_all
  simp_all
theorem Ez:EC p=true∧DO p=dZ p:=by
 have t0:=hp.t0;have htt:p.aa=0∨p.aa=1:=by have:=ht.1;omega
 have h34:qJ p=true:=by unfold qJ;rw[decide_eq_true ht.2,decide_eq_true (show p.aa<2 by have:=ht.1;omega)];rfl
 have hl:=aJ (agf hp htt 0);constructor
 ·unfold EC;simp_all
 ·unfold DO;rw[h34,kI hp.v0 ht];show(_:M')=_;rw[show(bif !true then([]:M')else((ot p 0 ([],0)).getD default).1)=((ot p 0 ([],0)).getD default).1 from rfl,hl.2];unfold gF;rw[mj,il];refine jk fun a ha=>?_;have ha:a<64:=List.mem_range.1 ha;unfold qD gF;rw[mj,il]
  have e:(List.range 64).flatMap (fN p a)=(List.range 64).flatMap fun b=>bif(own p).getLsbD a then(bif(iH (p,own p,oz p) a).getLsbD b then xn p a b else[])else[] :=
   jk fun b hb=>Hl hp ht ha (List.mem_range.1 hb)
  rw[e];cases (own p).getLsbD a with
  |true=>rfl
  |false =>simp_all
end
end Kz
namespace Kz
open Go Go.RowKit Go.Proofs
def K55:KT:=[(55,61,[(0,(1::10::11::12::(rn 22 8 (rn 40 10 [])))),(1,(1::3::10::11::12::(rn 22 8 (rn 40 10 [])))),(2,(1::3::13::(rn 22 8 (rn 40 10 [])))),(3,[2]),(4,(1::3::4::(rn 22 8 (rn 40 10 [])))),(5,(1::3::4::16::(rn 22 8 (rn 40 10 [])))),(6,(1::3::4::(rn 22 8 (rn 40 10 [])))),(7,(1::3::4::5::(rn 22 8 (rn 40 10 [])))),(8,(1::3::4::5::(rn 22 9 (rn 40 10 [])))),(9,(1::3::4::5::(rn 22 8 (rn 40 10 [])))),(10,(1::3::4::5::(rn 22 8 (rn 40 11 [])))),(11,(1::3::4::5::(rn 22 8 (rn 40 10 [])))),(12,[2])])]
def agH:ar:=bO Pz K55 [(82,nN)] [] []
theorem Yn:aP agH:=ae af ⟨nV,trivial⟩ trivial trivial
def WS (p1:Int)(p2:Pos)(p3:Nat)(x:(M'×Int)):St:=St.mk (.any::.ptr 0 0::.any::.list .mv x.1 (.own 1)::.int .u8 p1::.int .i64 x.2::(an 55 [])) (Hp.mk [(pc p2 [])] [p3,x.1.length] [] 0 0 0)
def Xo (p1:Int)(p2:Pos)(p3:Nat):(M'×Int×Bool)→Out:=fun y=>.exit 2 (St.mk (.any::.ptr 0 0::.any::.list .mv y.1 (.own 1)::.int .u8 p1::.int .i64 y.2.1::(an 24 (.bool y.2.2::(an 30 [])))) (Hp.mk [(pc p2 [])] [p3,y.1.length] [] 0 0 0))
def uE (p1:Int)(p2:Pos)(p3:Nat)(x:(M'×Int)):aG (M'×Int) ((M'×Int×Bool)):=(bif decide (x.2<64)then(bif decide (p2.ah.getD (scale 6 p2.aa+scale 1 p1).toNat 0>0)then(bif bE (p2.ab.getD (scale 1 x.2).toNat 0) != 0 then(aG.go (x.1,wr .i64 (x.2+1)))else(bif p1==1 then(bif decide (x.2<8)then(aG.go (x.1,wr .i64 (x.2+1)))else(bif decide (x.2>55)then(aG.go (x.1,wr .i64 (x.2+1)))else(aG.go (x.1++[Mv.mk (wr .i8 x.2) (wr .i8 x.2) 0 p1 false],wr .i64 (x.2+1)))))else(aG.go (x.1++[Mv.mk (wr .i8 x.2) (wr .i8 x.2) 0 p1 false],wr .i64 (x.2+1)))))else(aG.out ((x.1,x.2,decide (p2.ah.getD (scale 6 p2.aa+scale 1 p1).toNat 0>0)))))else(aG.out ((x.1,x.2,false))))
def o9 (p1:Int)(p2:Pos)(p3:Nat)(x:(M'×Int)):Bool:=(bif decide (x.2<64)then(decide (0≤p2.aa)&&decide (p2.aa<Int.ofNat 2)&&(decide (0≤p1)&&decide (p1<Int.ofNat 6)&&(bif decide (p2.ah.getD (scale 6 p2.aa+scale 1 p1).toNat 0>0)then(decide (0≤x.2)&&decide (x.2<Int.ofNat 64)&&(bif bE (p2.ab.getD (scale 1 x.2).toNat 0) != 0 then true else(bif p1==1 then(bif decide (x.2<8)then true else(bif decide (x.2>55)then true else(x.1.length==x.1.length&&decide (x.1.length+1≤1073741824)&&true)))else(x.1.length==x.1.length&&decide (x.1.length+1≤1073741824)&&true))))else true)))else true)
def vL (p1:Int)(p2:Pos)(p3:Nat)(x:(M'×Int)):Option ((M'×Int×Bool)):=cW (fun x=>bif o9 p1 p2 p3 x then uE p1 p2 p3 x else .bad) many x
abbrev Vw {α:Type}(k:Int→Pos→Nat→(M'×Int)→α)(s:St):α:=wP s 0 fun q0=>k (tI (tT s 4)) q0 (tK s 0) ((tL (ET.mv) (tT s 3)),(tI (tT s 5)))
theorem aji (p1:Int)(p2:Pos)(p3:Nat)(x:(M'×Int))(r:(M'×Int×Bool))(h:vL p1 p2 p3 x=some r):aC Pz (bc Pz 55 8) (WS p1 p2 p3 x) (Xo p1 p2 p3 r):=smq (m:=12) (fn:=55) Yn (Vw fun _ _ _ x=>some x) (fun o=>match o with | .exit 2 s=>some ((tL ET.mv (tT s 3)),(tI (tT s 5)),(tB (tT s 30)))|_=>none) many x r h
def Na (b:Code)(s:St):Tr Out:=Vw (fun p1 p2 p3 x=>jU b (bc Pz 55 8) s (WS p1 p2 p3 x) (vL p1 p2 p3 x) (Xo p1 p2 p3)) s
theorem Lk:∀b,aT Pz b (Na b):=fun _ _ _ h=>bF (aji _ _ _ _) h
def aj0:ar:=bO Pz K55 [(82,nN)] [(55,8,Na)] []
theorem aaW:aP aj0:=ae af ⟨nV,trivial⟩ ⟨Lk,trivial⟩ trivial
def V6 (p1:Pos)(p2:Nat)(x:(M'×Int)):St:=St.mk (.any::.ptr 0 0::.any::.list .mv x.1 (.own 1)::.int .u8 x.2::(an 56 [])) (Hp.mk [(pc p1 [])] [p2,x.1.length] [] 0 0 0)
def Xk (p1:Pos)(p2:Nat):(M'×Int×Bool)→Out:=fun y=>.exit 0 (St.mk (.any::.ptr 0 0::.any::.list .mv y.1 (.own 1)::.int .u8 y.2.1::(an 11 (.bool y.2.2::(an 44 [])))) (Hp.mk [(pc p1 [])] [p2,y.1.length] [] 0 0 0))
def Pl (p1:Pos)(p2:Nat)(x:(M'×Int)):aG (M'×Int) ((M'×Int×Bool)):=(bif decide (x.2≤5)then(aG.go (((vL x.2 p1 p2 (x.1,0)).getD default).1,wr .u8 (x.2+1)))else(aG.out ((x.1,x.2,decide (x.2≤5)))))
def H5 (p1:Pos)(p2:Nat)(x:(M'×Int)):Bool:=(bif decide (x.2≤5)then((vL x.2 p1 p2 (x.1,0)).isSome&&true)else true)
def re (p1:Pos)(p2:Nat)(x:(M'×Int)):Option ((M'×Int×Bool)):=cW (fun x=>bif H5 p1 p2 x then Pl p1 p2 x else .bad) many x
abbrev Vq {α:Type}(k:Pos→Nat→(M'×Int)→α)(s:St):α:=wP s 0 fun q0=>k q0 (tK s 0) ((tL (ET.mv) (tT s 3)),(tI (tT s 4)))
theorem acR (p1:Pos)(p2:Nat)(x:(M'×Int))(r:(M'×Int×Bool))(h:re p1 p2 x=some r):aC Pz (bc Pz 55 5) (V6 p1 p2 x) (Xk p1 p2 r):=smq (m:=12) (fn:=55) aaW (Vq fun _ _ x=>some x) (fun o=>match o with | .exit 0 s=>some ((tL ET.mv (tT s 3)),(tI (tT s 4)),(tB (tT s 16)))|_=>none) many x r h
def Xa (b:Code)(s:St):Tr Out:=Vq (fun p1 p2 x=>jU b (bc Pz 55 5) s (V6 p1 p2 x) (re p1 p2 x) (Xk p1 p2)) s
theorem aav:∀b,aT Pz b (Xa b):=fun _ _ _ h=>bF (acR _ _ _) h
def B55:ar:=bO Pz K55 [(82,nN)] [(55,8,Na),(55,5,Xa)] []
theorem aoW:aP B55:=ae af ⟨nV,trivial⟩ ⟨Lk,aav,trivial⟩ trivial
def N55 (a:Pos):M':=(bif decide (a.aa>1)then([])else(bif a.variant != 2 then([])else(((re a 0 ([],1)).getD default).1)))
def Ps (a:Pos):Bool:=(bif decide (a.aa>1)then true else(bif a.variant != 2 then true else((re a 0 ([],1)).isSome&&true)))
theorem P55 (a:Pos)(h:Ps a=true):PS Pz 55 [Pos.av a] ((dL .mv).res (N55 a)):=pq14 aoW h
def G55:GT:=g1 aZ (fun a=>b7 (Ps a) ((dL .mv).res (N55 a)))
theorem s55:Sound Pz 55 G55:=aH fun a=>aA (P55 a)
end Kz
