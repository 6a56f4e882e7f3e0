/- Part 6 of the proof. -/
import Derived.Test.YtgbndomcmihfkaaGreatDoorE5
import Derived.Deep.RegionWith
set_option linter.unusedSectionVars false
set_option linter.unusedVariables false
set_option linter.unusedSimpArgs false
set_option linter.unnecessarySimpa false
set_option maxRecDepth 100000
set_option maxHeartbeats 4000000
noncomputable section
namespace Kz
open Go Go.RowKit Go.Proofs
set_option maxRecDepth 100000
def B46:ar:=gm Pz (fun _ _=>[]) [(47,Zu)] [] []
theorem al2:aO B46:=af ae ⟨s47,trivial⟩ trivial trivial
theorem P46 (m:Mv)(p:Pos)(h:(xi p m&&true)=true):PS Pz 46 [Mv.av m,.ptrf (Pos.av p)] (dB.res (!ig p m)):=sc (n:=14) al2 (by kernel_rfl) (by kernel_rfl) (by kernel_rfl) h
theorem t29 {p:Pos}(hp:ax p):aaU p=true:=ak (t62 hp) fun _=>rfl
def gJ (p:Pos):M':=bif N29 p then[]else DK p ((dh p).filter (ig p))
end Kz
namespace Go.Proofs
open Go.Shelf Go.RowKit Go.Lib Go.Sort Kz
theorem jF {g:Gh}{tk:List Nat}{w:World}{p:Pos}{cs:List Value}(h:ay g tk w (bf (Pos.av p)) cs):cs.length=88:=by change ay g tk w [.int .u8 p.variant,.ints .u8 64 p.ab,.u64 p.ai,.ints .u8 12 p.ah,.int .u8 p.aa,.ints .i8 4 p.ao,.int .i8 p.az,.ints .u8 2 p.au,.int .i64 p.half,.int .i64 p.full] cs at h;obtain⟨x1,r1,e1,q1,h1⟩:=h.inv_one rfl;obtain⟨l2,r2,e2,h2⟩:=h1.bJ;obtain⟨x3,r3,e3,q3,h3⟩:=h2.inv_one rfl;obtain⟨l4,r4,e4,h4⟩:=h3.bJ;obtain⟨x5,r5,e5,q5,h5⟩:=h4.inv_one rfl;obtain⟨l6,r6,e6,h6⟩:=h5.bJ;obtain⟨x7,r7,e7,q7,h7⟩:=h6.inv_one rfl;obtain⟨l8,r8,e8,h8⟩:=h7.bJ;obtain⟨x9,r9,e9,q9,h9⟩:=h8.inv_one rfl;obtain⟨x10,r10,e10,q10,h10⟩:=h9.inv_one rfl;have e11:=h10.cL;simp_all
structure Kept (w w1 W:World):Prop where
 b:RowKit.Below w.heap.size w W
 s:w1.heap.size≤W.heap.size
 p:W.heap[w.heap.size]?=w1.heap[w.heap.size]?
theorem Kept.drew {w w1 W:World}(h:Kept w w1 W):Kept w w1 W.drew:=⟨h.b.drew,h.s,h.p⟩
theorem Ta {w W W':World}{l:M'}{v:Value}(hb:w.heap.size≤W.heap.size)(h:aM (rK W W') [] W' (.list .mv l .fresh) v):aM (rK w W') [] W' (.list .mv l .fresh) v:=by
 cases h with
 |list hn hE hS hT hC =>
 refine .list hn (by rw[dH hE];exact iN _ _ _ _) (hS.imp id fun ⟨c,o,e1,e2,e3⟩=>⟨c,o,e1,fun j x hj=>?_,fun f=>?_⟩) (fun k e=>by cases e) hC
 ·obtain⟨k1,k2,k3⟩:=e2 j x hj;exact⟨k1,Nat.le_trans hb k2,k3⟩
 ·exact Nat.le_trans hb (e3 f)
theorem Un {w0 W:World}{b cap:Nat}{ty:TypeId}{l:M'}(h:dq w0 b cap ty l.toArray W)(hc:l.length≤cap):aM (cH W) [] W (.list .mv l .arg) (.slice (some ⟨b,0,none⟩) l.length cap):=by
 obtain⟨cur,c1,c2,c3⟩:=h.row;refine .list (cs:=l.flatMap bP) rfl (iN _ _ _ _) (.inr ⟨b,0,rfl,fun j x hj=>?_,fun f=>absurd rfl f⟩) (fun k e=>by cases e) hc;have hjl:j<l.length*5:=by rw[←cZ];exact(by grind)
 have hdm:j=j / 5*5+j%5:=by omega
 have hq5:j / 5<l.length:=by omega
 have hfl:=eE l (j / 5) (j%5) hq5 (by omega);rw[←hdm,hj]at hfl;refine⟨?_,show b<W.heap.size from aB c1⟩;rw[aw c1,Nat.zero_add];grind
set_option maxHeartbeats 4000000 in
set_option maxRecDepth 100000 in
theorem ZL (p:Pos)(hp:ax p)(k:Nat)(zE:∀w,(Go.sizeOf 31).run Tryz.prog w=.ok k w)(hk:k=88):aX Tryz.prog 21 [Pos.av p] (.list .mv (gJ p) .fresh):=by
 intro w bw hg hr;obtain⟨bw⟩:=bw;cases hr with
 |cons q1 r1 =>
 cases r1;obtain⟨pcs,rfl,hpc⟩:=aM.cM (l:=bf (Pos.av p)) q1;clear q1;refine callsIn_wide.2 ?_;have aE:∀w,(isAgg 31).run Tryz.prog w=.ok true w:=Tryz.isAgg31;have hlen:pcs.toList.length=k:=(jF hpc).trans hk.symm;obtain⟨w1,hw1⟩:∃w1,w1=w.alloc (Obj.cells pcs 31):=⟨_,rfl⟩;have hs1:w1.heap.size=w.heap.size+1:=by rw[hw1];simp
 have hp1:w1.heap[w.heap.size]?=some (.cells pcs 31 (0,0)):=by rw[hw1];exact heap_alloc_new w _
 have hb1:RowKit.Below w.heap.size w w1:=by rw[hw1];exact(Below.refl _ w).alloc (Nat.le_refl _) _
 have ld:∀W,Kept w w1 W→Sem.run Tryz.prog (loadCellsFrom ⟨w.heap.size,0,none⟩ 0 k #[]) W=.ok pcs W:=fun W hW=>by
  have h:=run_loadCellsFrom_list Tryz.prog _ _ pcs.toList k hlen (fun c v hc=>by
   rw[Addr.add_lit,aw (hW.p.trans hp1),Nat.zero_add]
   simpa using hc)
  simpa using h
 have r0:∀W,Kept w w1 W→aM (cH W) [] W (Pos.av p) (.agg pcs):=fun W hW=>.agg (cd hpc);have g0:∀W,Kept w w1 W→cN W:=fun W hW=>gO hg hW.b.size hW.b.block;have k11:∀W,Kept w w1 W→Calls Tryz.prog 29 #[.agg pcs] W fun e w'=>e=.returned (.bool (N29 p))∧Kept w w1 w':=fun W hW=>by have h:=(P29 p (t29 hp)).1;unfold aX at h;refine Calls.mono (callsIn_wide.1 (h W #[.agg pcs] (g0 W hW) (.cons (r0 W hW) .nil))) ?_;rintro e w' ⟨x,rfl,hb,hx⟩;cases hx;have:=hW.s;exact⟨rfl,hW.b.trans (hb.mono hW.b.size),Nat.le_trans hW.s hb.size,(hb.block _ (by omega)).trans hW.p⟩
 have hK1:Kept w w1 w1:=⟨hb1,Nat.le_refl _,rfl⟩;have hll:=nn hp;have hfl:((dh p).filter (ig p)).length≤(dh p).length:=by grind
 have k18:∀W,Kept w w1 W→Calls Tryz.prog 30 #[.agg pcs] W fun e w'=>∃a cap,e=.returned (.slice a (dh p).length cap)∧Hid (Kept w w1 w')∧Hid (lQ W w' a cap (dh p)):=fun W hW=>by refine Calls.mono (agu p hp W (g0 W hW) (.agg pcs) (r0 W hW)) ?_;rintro e w' ⟨a,cap,rfl,hb,hF⟩;have:=hW.s;exact⟨a,cap,rfl,⟨hW.b.trans (hb.mono hW.b.size),Nat.le_trans hW.s hb.size,(hb.block _ (by omega)).trans hW.p⟩,hF⟩
 have k33:∀W u,Kept w w1 W→Calls Tryz.prog 46 (#[.agg (bP u).toArray]++#[.pointer (some ⟨w.heap.size,0,none⟩)]) W fun e w'=>e=.returned (.bool (!ig p u))∧RowKit.Below W.heap.size W w':=fun W u hW=>by
  have h:=(P46 u p (by rw[t47 hp.v0];rfl)).1;unfold aX at h;obtain⟨args,ha⟩:∃args:Array Value,args=#[Value.agg (bP u).toArray]++#[Value.pointer (some ⟨w.heap.size,0,none⟩)]:=⟨_,rfl⟩;rw[←ha];refine Calls.mono (callsIn_wide.1 (h W args (g0 W hW) ?_)) ?_
  ·have e:args.toList=[Value.agg (bP u).toArray,Value.pointer (some ⟨w.heap.size,0,none⟩)]:=by rw[ha];simp
   rw[e];have r1:aM (cH W) [] W (Mv.av u) (Value.agg (bP u).toArray) := .agg (mf _ _ _ u);refine .cons r1 (.cons (.ptrf (cs:=pcs.toList) (cd hpc) ?_) .nil);intro j x hj;have hs:=hW.s;refine⟨?_,show w.heap.size<W.heap.size by omega⟩;rw[aw (hW.p.trans hp1),Nat.zero_add];simpa using hj
  ·rintro e w' ⟨x,rfl,hb,hx⟩;cases hx;exact⟨rfl,hb⟩
 have k35:∀W W3 a cap,Kept w w1 W→Kept w w1 W3→lQ W W3 a cap (dh p)→Calls Tryz.prog 49 #[.slice a (dh p).length cap,.func (.func 46) #[] #[.pointer (some ⟨w.heap.size,0,none⟩)]] W3 fun e w'=>∃a',e=.returned (.slice a' ((dh p).filter (ig p)).length cap)∧Hid (Kept w w1 w')∧Hid (aM (cH w') [] w' (.list .mv ((dh p).filter (ig p)) .arg) (.slice a' ((dh p).filter (ig p)).length cap)):=fun W W3 a cap hW hW3 hF=>by
  rcases hF with⟨rfl,hl0,rfl⟩|⟨b,ty,rfl,k1,k2,k3,k4,hrow⟩
  ·have el:(dh p).length=0:=by rw[hl0];rfl
   have e0:(dh p).filter (ig p)=[]:=by rw[hl0];rfl
   rw[el,e0];refine(Z0 none 0 _ W3).mono ?_;rintro e w' ⟨rfl,rfl⟩;exact⟨none,rfl,hW3,.list (cs:=[]) rfl .nil (.inl rfl) (fun k e=>by cases e) (Nat.le_refl _)⟩
  ·have hsW:=hW.s
   have hd:=aty (fun u => !ig p u) 46 #[.pointer (some ⟨w.heap.size,0,none⟩)] (fun _ _=>rfl) b cap (dh p).toArray W3 ty k2 hrow (by simpa using k3) k4 (fun W' dk u hW'=>by
    have hK:Kept w w1 W':=⟨⟨hW'.os.trans hW3.b.os,hW'.tape.trans hW3.b.tape,hW'.output.trans hW3.b.output,Nat.le_trans hW3.b.size hW'.size,fun q hq=>by
     have:=hW3.b.size
     rw[hW'.other q (by omega) (by omega),hW3.b.block q hq]⟩,Nat.le_trans hW3.s hW'.size,by
     have:=hW3.s
     rw[hW'.other _ (by omega) (by omega),hW3.p]⟩
    exact k33 W' u hK)
   simp only[List.size_toArray,Bool.not_not]at hd;refine hd.mono ?_;rintro e w' ⟨rfl,hR⟩
   refine⟨_,rfl,⟨⟨hR.os.trans hW3.b.os,hR.tape.trans hW3.b.tape,hR.output.trans hW3.b.output,Nat.le_trans hW3.b.size hR.size,fun q hq=>by
     have:=hW3.b.size
     rw[hR.other q (by omega) (by omega),hW3.b.block q hq]⟩,Nat.le_trans hW3.s hR.size,by
     have:=hW3.s
     rw[hR.other _ (by omega) (by omega),hW3.p]⟩,Un hR (by omega)⟩
 have k34:∀W v,Kept w w1 W→aM (cH W) [] W (.list .mv ((dh p).filter (ig p)) .arg) v→Calls Tryz.prog 48 #[.agg pcs,v] W fun e w'=>∃x,e=.returned x∧Hid (RowKit.Below w.heap.size w w')∧Hid (aM (rK w w') [] w' (.list .mv (DK p ((dh p).filter (ig p))) .fresh) x):=fun W v hW hv=>by have h:=ajH p ((dh p).filter (ig p)) (by unfold qI;omega);unfold aX at h;refine Calls.mono (callsIn_wide.1 (h W #[.agg pcs,v] (g0 W hW) (.cons (r0 W hW) (.cons hv .nil)))) ?_;rintro e w' ⟨x,rfl,hb,hx⟩;exact⟨x,rfl,hW.b.trans (hb.mono hW.b.size),Ta hW.b.size hx⟩
 have K30:Aside _:=k18;have K49:Aside _:=k35;have K48:Aside _:=k34;clear k18 k33 k35 k34 hll hfl;have LD:Aside _:=ld;have K29:Aside _:=k11;clear ld k11 hg hk hlen;have l1:Sem.run Tryz.prog (loadCellsFrom { block:=w.heap.size,off:=0,spot:=none } 0 k #[]) (w.alloc (Obj.cells pcs 31))=.ok pcs (w.alloc (Obj.cells pcs 31)):=by rw[←hw1];exact LD.out w1 hK1
 have c11:=K29.out w1 hK1;rw[hw1]at c11;have HW1:=Lib.hid hw1;have HS1:=Lib.hid hs1;have HP1:=Lib.hid hp1;have HB1:=Lib.hid hb1;have R0:=Lib.hid r0;have G0:=Lib.hid g0;clear hK1 hs1 hp1 hb1 r0 g0 hw1;go_enter Tryz.func21,Tryz.ntmps21;go_wp2_with fail;refine c11.mono ?_;rintro e w2 ⟨rfl,hK2⟩;rw[←HW1.out]at hK2;have HK2:=Lib.hid hK2;clear l1 hK2 c11;cases hN:N29 p with
 |true =>go_wp2_with fail;go_ret;have hK:=HK2.out;refine⟨_,rfl,hK.b,?_⟩;unfold gJ;rw[hN];exact .list (cs:=[]) rfl .nil (.inl rfl) (fun k e=>by cases e) (Nat.le_refl _)
 |false =>
  have HKd:Hid (Kept w w1 w2.drew):=HK2.out.drew;have l2:=LD.out w2.drew HKd.out;go_wp2_with fail
  go_region_with (first
   |(go_at_call_of 30 (Value.agg pcs);refine(K30.out w2.drew HKd.out).mono ?_;rintro e w3 ⟨a3,cap3,rfl,HK3,HF3⟩;have l3:=LD.out w3 HK3.out)
   |(go_at_call_of 49 (Value.slice a3 (dh p).length cap3);refine(K49.out w2.drew w3 a3 cap3 HKd.out HK3.out HF3.out).mono ?_;rintro e w4 ⟨a4,rfl,HK4,HR4⟩;have l4:=LD.out w4 HK4.out)
   |(go_at_call_of 48 (Value.agg pcs);refine(K48.out w4 _ HK4.out HR4.out).mono ?_;rintro e w5 ⟨x5,rfl,HB5,HR5⟩))
  all_goals
   go_wp2_with fail
   go_ret
   refine⟨_,rfl,HB5.out,?_⟩
   unfold gJ
   rw[hN]
   exact HR5.out
end Go.Proofs
namespace Kz
open Go Go.RowKit Go.Proofs
theorem ZP (p:Pos)(hp:ax p):PS Pz 21 [Pos.av p] (.list .mv (gJ p) .fresh) :=
 ⟨ZL p hp 88 Tryz.sizeOf31 rfl,by
  have h:(match Pz.funcs[21]? with
   |some fn=>fn.body.isSome
   |none=>false)=true:=by kernel_rfl
  simp_all⟩
end Kz
namespace Kz
open Go Go.RowKit Go.Proofs
def akS:KT:=[(159,6,[(0,[0]),(1,[2])])]
def apg:ar:=bO Pz akS [(178,Tf)] [] []
theorem afX:aO apg:=af ae ⟨abb,trivial⟩ trivial trivial
def I3 (a:Int):Y':=((xn a).1)
def KN (a:Int):Bool:=(xH a&&true)
theorem aoO (a:Int)(h:KN a=true):PS Pz 159 [.int .u8 a] (dS.res (I3 a)):=pq14 afX h
def adG:GT:=g1 (dI .u8) (fun a=>b7 (KN a) (dS.res (I3 a)))
theorem akA:Sound Pz 159 adG:=aH fun a=>aA (aoO a)
def K99:KT:=[(99,12,[(0,[0,1]),(1,[4])])]
def B99:ar:=bO Pz K99 [(159,adG)] [] []
theorem aln:aO B99:=af ae ⟨akA,trivial⟩ trivial trivial
def PO (a:Int)(b:Int):Bool:=(bif !I3 a==(ByteArray.mk #[]).data.toList then(decide (b≤1))else(false))
def UM (a:Int)(b:Int):Bool:=(KN a&&true)
theorem P99 (a:Int)(b:Int)(h:UM a b=true):PS Pz 99 [.int .u8 a,.int .u8 b] (dB.res (PO a b)):=pq14 aln h
def G99:GT:=g2 (dI .u8) (dI .u8) (fun a b=>b7 (UM a b) (dB.res (PO a b)))
theorem s99:Sound Pz 99 G99:=aP fun a b=>aA (P99 a b)
def alU:KT:=[(208,2,[(0,[0]),(1,[0])])]
def akG:ar:=bO Pz alU [] [] []
theorem ajE:aO akG:=af ae trivial trivial trivial
def aiB  : List Int:=(li [0,100,320,330,500,900,0])
def afP  : Bool:=true
theorem aqs  (h:afP =true):PS Pz 208 [] ((age .i64 7).res (aiB )):=pq14 ajE h
def aiN:GT:=g0  (.ret ((age .i64 7).res (aiB )))
theorem am2:Sound Pz 208 aiN:=vN (bH (aqs rfl))
def anz:KT:=[(160,8,[(0,[0]),(1,[0,4]),(2,[2]),(3,[2])])]
def akN:ar:=bO Pz anz [(208,aiN)] [] []
theorem aeV:aO akN:=af ae ⟨am2,trivial⟩ trivial trivial
def qG (a:Int):Int:=(bif decide (a>6)then(0)else((li [0,100,320,330,500,900,0]).getD a.toNat 0))
def uV (a:Int):Bool:=(bif decide (a>6)then true else(decide (0≤a)&&decide (a<Int.ofNat 7)&&true))
theorem apq (a:Int)(h:uV a=true):PS Pz 160 [.int .u8 a] ((dI .i64).res (qG a)):=pq14 aeV h
def Fm:GT:=g1 (dI .u8) (fun a=>b7 (uV a) ((dI .i64).res (qG a)))
theorem JA:Sound Pz 160 Fm:=aH fun a=>aA (apq a)
def apJ:KT:=[(209,8,[(0,[0]),(1,[2])])]
def an9:ar:=bO Pz apJ [] [] []
theorem agk:aO an9:=af ae trivial trivial trivial
def Jb (a:Int):Int:=(if 0>if wr .i64 (a-4)>wr .i64 (3-a)then wr .i64 (a-4)else wr .i64 (3-a)then 0 else if wr .i64 (a-4)>wr .i64 (3-a)then wr .i64 (a-4)else wr .i64 (3-a))
def adP (a:Int):Bool:=true
theorem aph (a:Int)(h:adP a=true):PS Pz 209 [.int .i64 a] ((dI .i64).res (Jb a)):=pq14 agk h
def aiL:GT:=g1 (dI .i64) (fun a=>.ret ((dI .i64).res (Jb a)))
theorem arz:Sound Pz 209 aiL:=aH fun a=>bH (aph a rfl)
def arj:KT:=[(161,16,[(0,[0]),(1,[0,8]),(2,[2]),(3,[2])])]
def amu:ar:=bO Pz arj [(209,aiL)] [] []
theorem ai1:aO amu:=af ae ⟨arz,trivial⟩ trivial trivial
def Ai (a:Int):Int:=(bif decide (a<0)then(-1)else(bif decide (a≥64)then(-1)else(if Jb (wr .i64 (a.tdiv 8))>Jb (a.tmod 8)then Jb (wr .i64 (a.tdiv 8))else Jb (a.tmod 8))))
def ajl (a:Int):Bool:=true
theorem alF (a:Int)(h:ajl a=true):PS Pz 161 [.int .i64 a] ((dI .i64).res (Ai a)):=pq14 ai1 h
def Ja:GT:=g1 (dI .i64) (fun a=>.ret ((dI .i64).res (Ai a)))
theorem MJ:Sound Pz 161 Ja:=aH fun a=>bH (alF a rfl)
def aok:KT:=[]
def ajn:ar:=bO Pz aok [] [] []
theorem adn:aO ajn:=af ae trivial trivial trivial
def ab7:AV:=AV.vlist true [AV.agg [AV.bj .u8 2,AV.func 210 [] []],AV.agg [AV.bj .u8 8,AV.func 211 [] []],AV.agg [AV.bj .u8 6,AV.func 214 [] []],AV.agg [AV.bj .u8 5,AV.func 216 [] []],AV.agg [AV.bj .u8 4,AV.func 217 [] []]]
def aiz:Bool:=true
theorem at2:cP ajn 14 162 []=Tr.ret ab7:=by kernel_rfl
theorem apl (_:aiz=true):PS Pz 162 [] ab7:=nK adn (by rw[at2];rfl)
def L5:GT:=g0 (.ret ab7)
theorem TA:Sound Pz 162 L5:=vN (bH (apl rfl))
def ae7:KT:=[(210,26,[(0,[1,2]),(1,[1,2,5]),(2,[5,11,12]),(3,[5,11,12,13]),(4,[5,6,7,11,12]),(5,[5,11,12]),(6,[5,11,12]),(7,[4])])]
def abM:ar:=bO Pz ae7 [(160,Fm)] [] []
theorem Tt:aO abM:=af ae ⟨JA,trivial⟩ trivial trivial
def Kn (p1:Z')(p2:Pos)(x:(Int×Int)):St:=St.mk (an 5 (.int .i64 x.1::(an 5 (.agg [.ints .u8 6 p1]::.int .i64 x.2::(an 13 []))))) (Hp.mk [(pc p2 [])] [] [] 0 0 0)
def Ll (p1:Z')(p2:Pos):(Int×Int×Bool)→Out:=fun y=>.exit 0 (St.mk (an 5 (.int .i64 y.1::(an 5 (.agg [.ints .u8 6 p1]::.int .i64 y.2.1::.bool y.2.2::(an 12 []))))) (Hp.mk [(pc p2 [])] [] [] 0 0 0))
def AB (p1:Z')(p2:Pos)(x:(Int×Int)):aG (Int×Int) ((Int×Int×Bool)):=(bif decide (x.2<6)then(aG.go (wr .i64 (x.1+wr .i64 (qG (wr .u8 x.2)*wr .i64 (p1.getD x.2.toNat 0))),wr .i64 (x.2+1)))else(aG.out ((x.1,x.2,decide (x.2<6)))))
def wN (p1:Z')(p2:Pos)(x:(Int×Int)):Bool:=(bif decide (x.2<6)then(decide (0≤x.2)&&decide (x.2<Int.ofNat 6)&&(uV (wr .u8 x.2)&&true))else true)
def nI (p1:Z')(p2:Pos)(x:(Int×Int)):Option ((Int×Int×Bool)):=cW (fun x=>bif wN p1 p2 x then AB p1 p2 x else .bad) many x
abbrev O2 {α:Type}(k:Z'→Pos→(Int×Int)→α)(s:St):α:=wP s 0 fun q0=>k (tN (tX (tA (tT s 11)) 0)) q0 ((tI (tT s 5)),(tI (tT s 12)))
theorem ZZ (p1:Z')(p2:Pos)(x:(Int×Int))(r:(Int×Int×Bool))(h:nI p1 p2 x=some r):aC Pz (bc Pz 210 3) (Kn p1 p2 x) (Ll p1 p2 r):=smq (m:=12) (fn:=210) Tt (O2 fun _ _ x=>some x) (fun o=>match o with | .exit 0 s=>some ((tI (tT s 5)),(tI (tT s 12)),(tB (tT s 13)))|_=>none) many x r h
def M9 (b:Code)(s:St):Tr Out:=O2 (fun p1 p2 x=>jS b (bc Pz 210 3) s (Kn p1 p2 x) (nI p1 p2 x) (Ll p1 p2)) s
theorem SQ:∀b,aT Pz b (M9 b):=fun _ _ _ h=>bF (ZZ _ _ _) h
def ap4:ar:=bO Pz ae7 [(160,Fm)] [(210,3,M9)] []
theorem ag7:aO ap4:=af ae ⟨JA,trivial⟩ ⟨SQ,trivial⟩ trivial
def CW (a:Pos)(b:Int):Int:=(((nI (List.take 6 (List.drop (scale 6 b).toNat a.ah)) a (0,0)).getD default).1)
def Hf (a:Pos)(b:Int):Bool:=(decide (0≤b)&&decide (b<Int.ofNat 2)&&((nI (List.take 6 (List.drop (scale 6 b).toNat a.ah)) a (0,0)).isSome&&true))
theorem aq9 (a:Pos)(b:Int)(h:Hf a b=true):PS Pz 210 [Pos.av a,.int .u8 b] ((dI .i64).res (CW a b)):=pq14 ag7 h
def KE:GT:=g2 aZ (dI .u8) (fun a b=>b7 (Hf a b) ((dI .i64).res (CW a b)))
theorem RM:Sound Pz 210 KE:=aP fun a b=>aA (aq9 a b)
def arE:KT:=[(213,6,[(0,[0]),(1,[2])])]
def aq0:ar:=bO Pz arE [] [] []
theorem ag1:aO aq0:=af ae trivial trivial trivial
def I8 (a:Int):Int:=(wr .i64 (60*wr .i64 (a.tdiv 8)))
def afn (a:Int):Bool:=true
theorem aqg (a:Int)(h:afn a=true):PS Pz 213 [.int .i64 a] ((dI .i64).res (I8 a)):=pq14 ag1 h
def aeT:GT:=g1 (dI .i64) (fun a=>.ret ((dI .i64).res (I8 a)))
theorem aoP:Sound Pz 213 aeT:=aH fun a=>bH (aqg a rfl)
def aqC:KT:=[(211,8,[(0,[1,2]),(1,[4])]),(212,16,[(0,[1,2,3]),(1,[2,7]),(2,[2,7,12]),(3,[6]),(4,[6])])]
def aqw:ar:=bO Pz aqC [(145,j7),(213,aeT)] [] []
theorem ahT:aO aqw:=af ae ⟨lg,aoP,trivial⟩ trivial trivial
def xo (a:Pos)(b:Int):Int:=(bif decide (bg a b 6<0)then(0)else(I8 (bg a b 6)))
def H7 (a:Pos)(b:Int):Bool:=(iz a b 6&&true)
theorem akB (a:Pos)(b:Int)(h:H7 a b=true):PS Pz 211 [Pos.av a,.int .u8 b] ((dI .i64).res (xo a b)):=pq14 ahT h
def OY:GT:=g2 aZ (dI .u8) (fun a b=>b7 (H7 a b) ((dI .i64).res (xo a b)))
theorem T6:Sound Pz 211 OY:=aP fun a b=>aA (akB a b)
def aqh:KT:=[(215,6,[(0,[0]),(1,[2])])]
def anL:ar:=bO Pz aqh [(161,Ja)] [] []
theorem ad5:aO anL:=af ae ⟨MJ,trivial⟩ trivial trivial
def II (a:Int):Int:=(wr .i64 (-30*Ai a))
def afs (a:Int):Bool:=true
theorem anx (a:Int)(h:afs a=true):PS Pz 215 [.int .i64 a] ((dI .i64).res (II a)):=pq14 ad5 h
def afR:GT:=g1 (dI .i64) (fun a=>.ret ((dI .i64).res (II a)))
theorem atU:Sound Pz 215 afR:=aH fun a=>bH (anx a rfl)
def asJ:KT:=[(212,16,[(0,[1,2,3]),(1,[2,7]),(2,[2,7,12]),(3,[6]),(4,[6])]),(214,8,[(0,[1,2]),(1,[4])])]
def akv:ar:=bO Pz asJ [(145,j7),(215,afR)] [] []
theorem afo:aO akv:=af ae ⟨lg,atU,trivial⟩ trivial trivial
def xA (a:Pos)(b:Int):Int:=(bif decide (bg a b 6<0)then(0)else(II (bg a b 6)))
def He (a:Pos)(b:Int):Bool:=(iz a b 6&&true)
theorem arT (a:Pos)(b:Int)(h:He a b=true):PS Pz 214 [Pos.av a,.int .u8 b] ((dI .i64).res (xA a b)):=pq14 afo h
def ND:GT:=g2 aZ (dI .u8) (fun a b=>b7 (He a b) ((dI .i64).res (xA a b)))
theorem R7:Sound Pz 214 ND:=aP fun a b=>aA (arT a b)
def atE:KT:=[(216,11,[(0,[1,2]),(1,[4])])]
def alv:ar:=bO Pz atE [] [] []
theorem aha:aO alv:=af ae trivial trivial trivial
def zu (a:Pos)(b:Int):Int:=(wr .i64 (150*wr .i64 (a.au.getD (scale 1 b).toNat 0)))
def F6 (a:Pos)(b:Int):Bool:=(decide (0≤b)&&decide (b<Int.ofNat 2)&&true)
theorem aq7 (a:Pos)(b:Int)(h:F6 a b=true):PS Pz 216 [Pos.av a,.int .u8 b] ((dI .i64).res (zu a b)):=pq14 aha h
def Ng:GT:=g2 aZ (dI .u8) (fun a b=>b7 (F6 a b) ((dI .i64).res (zu a b)))
theorem Rn:Sound Pz 216 Ng:=aP fun a b=>aA (aq7 a b)
def aoG:KT:=[(251,5,[(0,[0]),(1,[2])])]
def aqW:ar:=bO Pz aoG [(259,Z1)] [] []
theorem af5:aO aqW:=af ae ⟨afS,trivial⟩ trivial trivial
def SH (a:BitVec 64):Int:=(kh a)
def adF (a:BitVec 64):Bool:=true
theorem al7 (a:BitVec 64)(h:adF a=true):PS Pz 251 [.u64 a] ((dI .i64).res (SH a)):=pq14 af5 h
def aio:GT:=g1 dU (fun a=>.ret ((dI .i64).res (SH a)))
theorem ao9:Sound Pz 251 aio:=aH fun a=>bH (al7 a rfl)
def asG:KT:=[(218,12,[(0,[1,2,3]),(1,[6])])]
def aq8:ar:=bO Pz asG [(147,gi),(251,aio)] [] []
theorem aht:aO aq8:=af ae ⟨gy,ao9,trivial⟩ trivial trivial
def Fj (a:Pos)(b:Int)(c:Int):Int:=(SH (aS a b c))
def MV (a:Pos)(b:Int)(c:Int):Bool:=(cF a b c&&true)
theorem amX (a:Pos)(b:Int)(c:Int)(h:MV a b c=true):PS Pz 218 [Pos.av a,.int .u8 b,.int .u8 c] ((dI .i64).res (Fj a b c)):=pq14 aht h
def ahk:GT:=g3 aZ (dI .u8) (dI .u8) (fun a b c=>b7 (MV a b c) ((dI .i64).res (Fj a b c)))
theorem apk:Sound Pz 218 ahk:=dc fun a b c=>aA (amX a b c)
def apI:KT:=[(217,9,[(0,[1,2]),(1,[4])])]
def aog:ar:=bO Pz apI [(218,ahk)] [] []
theorem aiJ:aO aog:=af ae ⟨apk,trivial⟩ trivial trivial
def zq (a:Pos)(b:Int):Int:=(wr .i64 (200*Fj a b 6))
def Hi (a:Pos)(b:Int):Bool:=(MV a b 6&&true)
theorem alr (a:Pos)(b:Int)(h:Hi a b=true):PS Pz 217 [Pos.av a,.int .u8 b] ((dI .i64).res (zq a b)):=pq14 aiJ h
def MM:GT:=g2 aZ (dI .u8) (fun a b=>b7 (Hi a b) ((dI .i64).res (zq a b)))
theorem TW:Sound Pz 217 MM:=aP fun a b=>aA (alr a b)
def E9:KT:=[(100,77,[(0,[1,2]),(1,[1,2,15]),(2,[4]),(3,[1,2,5]),(4,[1,2,5,6]),(5,[1,2,5,6,17]),(6,[1,2,5,6]),(7,[1,2,5,6,24,25,26]),(8,(1::2::5::6::(rn 24 4 []))),(9,[1,2,5,6,8,24,25,26]),(10,[1,2,5,6,8,24,25,26]),(11,[1,2,5,6,8,24,25,26,39]),(12,[1,2,5,6,24,25,26]),(13,[1,2,5,6,24,25,26]),(14,[1,2,5,57,58,59]),(15,(1::2::5::(rn 57 4 []))),(16,[1,2,5,10,57,58,59]),(17,[1,2,5,10,57,58,59,67]),(18,[1,2,5,57,58,59]),(19,[1,2,5,57,58,59]),(20,[4])])]
def Y2:ar:=bO Pz E9 [(99,G99),(142,jm),(147,gi),(160,Fm),(161,Ja),(162,L5),(210,KE),(211,OY),(214,ND),(216,Ng),(217,MM)] [] []
theorem TQ:aO Y2:=af ae ⟨s99,jv,gy,JA,MJ,TA,RM,T6,R7,Rn,TW,trivial⟩ trivial trivial
def Qo (p1:Int)(p2:Int)(p3:Z')(p4:Int)(p5:Pos)(x:(Int×Int)):St:=St.mk (.any::.int .u8 p1::.ptr 0 0::.any::.any::.int .i64 x.1::.int .u8 p2::(an 17 (.list (ET.i .i64) p3 .fresh::.int .i64 p4::.int .i64 x.2::(an 50 [])))) (Hp.mk [(pc p5 [])] [] [] 0 0 0)
def PW (p1:Int)(p2:Int)(p3:Z')(p4:Int)(p5:Pos):(Int×Int×Bool)→Out:=fun y=>.exit 2 (St.mk (.any::.int .u8 p1::.ptr 0 0::.any::.any::.int .i64 y.1::.int .u8 p2::(an 17 (.list (ET.i .i64) p3 .fresh::.int .i64 p4::.int .i64 y.2.1::.bool y.2.2::(an 49 [])))) (Hp.mk [(pc p5 [])] [] [] 0 0 0))
def zG (p1:Int)(p2:Int)(p3:Z')(p4:Int)(p5:Pos)(x:(Int×Int)):aG (Int×Int) ((Int×Int×Bool)):=(bif decide (x.2<p4)then(bif p2==1 then(aG.go (wr .i64 (wr .i64 (x.1+wr .i64 (qG p2-wr .i64 (4*Ai (p3.getD x.2.toNat default))))+wr .i64 (6*if wr .i64 (wr .i64 (7*wr .i64 p1)-wr .i64 (Int.tdiv (p3.getD x.2.toNat default) 8))>wr .i64 (wr .i64 (Int.tdiv (p3.getD x.2.toNat default) 8)-wr .i64 (7*wr .i64 p1))then wr .i64 (wr .i64 (7*wr .i64 p1)-wr .i64 (Int.tdiv (p3.getD x.2.toNat default) 8))else wr .i64 (wr .i64 (Int.tdiv (p3.getD x.2.toNat default) 8)-wr .i64 (7*wr .i64 p1)))),wr .i64 (x.2+1)))else(aG.go (wr .i64 (x.1+wr .i64 (qG p2-wr .i64 (4*Ai (p3.getD x.2.toNat default)))),wr .i64 (x.2+1))))else(aG.out ((x.1,x.2,decide (x.2<p4)))))
def uQ (p1:Int)(p2:Int)(p3:Z')(p4:Int)(p5:Pos)(x:(Int×Int)):Bool:=(bif decide (x.2<p4)then(decide (0≤x.2)&&decide (x.2<Int.ofNat p3.length)&&(uV p2&&true))else true)
def nc (p1:Int)(p2:Int)(p3:Z')(p4:Int)(p5:Pos)(x:(Int×Int)):Option ((Int×Int×Bool)):=cW (fun x=>bif uQ p1 p2 p3 p4 p5 x then zG p1 p2 p3 p4 p5 x else .bad) many x
abbrev Rb {α:Type}(k:Int→Int→Z'→Int→Pos→(Int×Int)→α)(s:St):α:=wP s 0 fun q0=>k (tI (tT s 1)) (tI (tT s 6)) (tL (ET.i .i64) (tT s 24)) (tI (tT s 25)) q0 ((tI (tT s 5)),(tI (tT s 26)))
theorem Yf (p1:Int)(p2:Int)(p3:Z')(p4:Int)(p5:Pos)(x:(Int×Int))(r:(Int×Int×Bool))(h:nc p1 p2 p3 p4 p5 x=some r):aC Pz (bc Pz 100 8) (Qo p1 p2 p3 p4 p5 x) (PW p1 p2 p3 p4 p5 r):=smq (m:=12) (fn:=100) TQ (Rb fun _ _ _ _ _ x=>some x) (fun o=>match o with | .exit 2 s=>some ((tI (tT s 5)),(tI (tT s 26)),(tB (tT s 27)))|_=>none) many x r h
def zr (b:Code)(s:St):Tr Out:=Rb (fun p1 p2 p3 p4 p5 x=>jS b (bc Pz 100 8) s (Qo p1 p2 p3 p4 p5 x) (nc p1 p2 p3 p4 p5 x) (PW p1 p2 p3 p4 p5)) s
theorem AO:∀b,aT Pz b (zr b):=fun _ _ _ h=>bF (Yf _ _ _ _ _ _) h
def Yw:ar:=bO Pz E9 [(99,G99),(142,jm),(147,gi),(160,Fm),(161,Ja),(162,L5),(210,KE),(211,OY),(214,ND),(216,Ng),(217,MM)] [(100,8,zr)] []
theorem Tv:aO Yw:=af ae ⟨s99,jv,gy,JA,MJ,TA,RM,T6,R7,Rn,TW,trivial⟩ ⟨AO,trivial⟩ trivial
def K2 (p1:Int)(p2:Pos)(x:(Int×Int)):St:=St.mk (.any::.int .u8 p1::.ptr 0 0::.any::.any::.int .i64 x.1::.int .u8 x.2::(an 70 [])) (Hp.mk [(pc p2 [])] [] [] 0 0 0)
def Ms (p1:Int)(p2:Pos):(Int×Int×Bool)→Out:=fun y=>.exit 0 (St.mk (.any::.int .u8 p1::.ptr 0 0::.any::.any::.int .i64 y.1::.int .u8 y.2.1::(an 10 (.bool y.2.2::(an 59 [])))) (Hp.mk [(pc p2 [])] [] [] 0 0 0))
def Ab (p1:Int)(p2:Pos)(x:(Int×Int)):aG (Int×Int) ((Int×Int×Bool)):=(bif decide (x.2≤6)then(aG.go (((nc p1 x.2 (gw (aS p2 p1 x.2)) (Int.ofNat (gw (aS p2 p1 x.2)).length) p2 (x.1,0)).getD default).1,wr .u8 (x.2+1)))else(aG.out ((x.1,x.2,decide (x.2≤6)))))
def vH (p1:Int)(p2:Pos)(x:(Int×Int)):Bool:=(bif decide (x.2≤6)then(cF p2 p1 (x.2)&&(oZ (aS p2 p1 x.2)&&((nc p1 x.2 (gw (aS p2 p1 x.2)) (Int.ofNat (gw (aS p2 p1 x.2)).length) p2 (x.1,0)).isSome&&true)))else true)
def kI (p1:Int)(p2:Pos)(x:(Int×Int)):Option ((Int×Int×Bool)):=cW (fun x=>bif vH p1 p2 x then Ab p1 p2 x else .bad) many x
abbrev MH {α:Type}(k:Int→Pos→(Int×Int)→α)(s:St):α:=wP s 0 fun q0=>k (tI (tT s 1)) q0 ((tI (tT s 5)),(tI (tT s 6)))
theorem abX (p1:Int)(p2:Pos)(x:(Int×Int))(r:(Int×Int×Bool))(h:kI p1 p2 x=some r):aC Pz (bc Pz 100 5) (K2 p1 p2 x) (Ms p1 p2 r):=smq (m:=12) (fn:=100) Tv (MH fun _ _ x=>some x) (fun o=>match o with | .exit 0 s=>some ((tI (tT s 5)),(tI (tT s 6)),(tB (tT s 17)))|_=>none) many x r h
def En (b:Code)(s:St):Tr Out:=MH (fun p1 p2 x=>jS b (bc Pz 100 5) s (K2 p1 p2 x) (kI p1 p2 x) (Ms p1 p2)) s
theorem Hw:∀b,aT Pz b (En b):=fun _ _ _ h=>bF (abX _ _ _) h
def Yj:ar:=bO Pz E9 [(99,G99),(142,jm),(147,gi),(160,Fm),(161,Ja),(162,L5),(210,KE),(211,OY),(214,ND),(216,Ng),(217,MM)] [(100,8,zr),(100,5,En)] []
theorem Sn:aO Yj:=af ae ⟨s99,jv,gy,JA,MJ,TA,RM,T6,R7,Rn,TW,trivial⟩ ⟨AO,Hw,trivial⟩ trivial
def QR (p1:Int)(p2:Pos)(x:(Int×Int)):St:=St.mk (.any::.int .u8 p1::.ptr 0 0::.any::.any::.int .i64 x.1::(an 51 (.vlist true [.agg [.bj .u8 2,.func 210 [] []],.agg [.bj .u8 8,.func 211 [] []],.agg [.bj .u8 6,.func 214 [] []],.agg [.bj .u8 5,.func 216 [] []],.agg [.bj .u8 4,.func 217 [] []]]::.bj .i64 (Int.ofNat 5)::.int .i64 x.2::(an 17 [])))) (Hp.mk [(pc p2 [])] [] [] 0 0 0)
def N7 (p1:Int)(p2:Pos):(Int×Int×Bool)→Out:=fun y=>.exit 4 (St.mk (.any::.int .u8 p1::.ptr 0 0::.any::.any::.int .i64 y.1::(an 51 (.vlist true [.agg [.bj .u8 2,.func 210 [] []],.agg [.bj .u8 8,.func 211 [] []],.agg [.bj .u8 6,.func 214 [] []],.agg [.bj .u8 5,.func 216 [] []],.agg [.bj .u8 4,.func 217 [] []]]::.bj .i64 (Int.ofNat 5)::.int .i64 y.2.1::.bool y.2.2::(an 16 [])))) (Hp.mk [(pc p2 [])] [] [] 0 0 0))
def Ss (p1:Int)(p2:Pos)(x:(Int×Int)):aG (Int×Int) ((Int×Int×Bool)):=(bif decide (x.2<Int.ofNat 5)then(bif x.2==Int.ofNat 0 then(bif 2==p2.variant then(aG.go (wr .i64 (x.1+CW p2 p1),wr .i64 (x.2+1)))else(aG.go (x.1,wr .i64 (x.2+1))))else(bif x.2==Int.ofNat 1 then(bif 8==p2.variant then(aG.go (wr .i64 (x.1+xo p2 p1),wr .i64 (x.2+1)))else(aG.go (x.1,wr .i64 (x.2+1))))else(bif x.2==Int.ofNat 2 then(bif 6==p2.variant then(aG.go (wr .i64 (x.1+xA p2 p1),wr .i64 (x.2+1)))else(aG.go (x.1,wr .i64 (x.2+1))))else(bif x.2==Int.ofNat 3 then(bif 5==p2.variant then(aG.go (wr .i64 (x.1+zu p2 p1),wr .i64 (x.2+1)))else(aG.go (x.1,wr .i64 (x.2+1))))else(bif 4==p2.variant then(aG.go (wr .i64 (x.1+zq p2 p1),wr .i64 (x.2+1)))else(aG.go (x.1,wr .i64 (x.2+1))))))))else(aG.out ((x.1,x.2,decide (x.2<Int.ofNat 5)))))
def Qj (p1:Int)(p2:Pos)(x:(Int×Int)):Bool:=(bif decide (x.2<Int.ofNat 5)then(decide (0≤x.2)&&decide (x.2<Int.ofNat 5)&&(bif x.2==Int.ofNat 0 then(bif 2==p2.variant then(Hf p2 p1&&true)else true)else(bif x.2==Int.ofNat 1 then(bif 8==p2.variant then(H7 p2 p1&&true)else true)else(bif x.2==Int.ofNat 2 then(bif 6==p2.variant then(He p2 p1&&true)else true)else(bif x.2==Int.ofNat 3 then(bif 5==p2.variant then(F6 p2 p1&&true)else true)else(x.2==Int.ofNat 4&&(bif 4==p2.variant then(Hi p2 p1&&true)else true)))))))else true)
def ng (p1:Int)(p2:Pos)(x:(Int×Int)):Option ((Int×Int×Bool)):=cW (fun x=>bif Qj p1 p2 x then Ss p1 p2 x else .bad) many x
abbrev Oo {α:Type}(k:Int→Pos→(Int×Int)→α)(s:St):α:=wP s 0 fun q0=>k (tI (tT s 1)) q0 ((tI (tT s 5)),(tI (tT s 59)))
theorem aaV (p1:Int)(p2:Pos)(x:(Int×Int))(r:(Int×Int×Bool))(h:ng p1 p2 x=some r):aC Pz (bc Pz 100 15) (QR p1 p2 x) (N7 p1 p2 r):=smq (m:=12) (fn:=100) Sn (Oo fun _ _ x=>some x) (fun o=>match o with | .exit 4 s=>some ((tI (tT s 5)),(tI (tT s 59)),(tB (tT s 60)))|_=>none) many x r h
def Mr (b:Code)(s:St):Tr Out:=Oo (fun p1 p2 x=>jS b (bc Pz 100 15) s (QR p1 p2 x) (ng p1 p2 x) (N7 p1 p2)) s
theorem SN:∀b,aT Pz b (Mr b):=fun _ _ _ h=>bF (aaV _ _ _) h
def auc:ar:=bO Pz E9 [(99,G99),(142,jm),(147,gi),(160,Fm),(161,Ja),(162,L5),(210,KE),(211,OY),(214,ND),(216,Ng),(217,MM)] [(100,8,zr),(100,5,En),(100,15,Mr)] []
theorem ai9:aO auc:=af ae ⟨s99,jv,gy,JA,MJ,TA,RM,T6,R7,Rn,TW,trivial⟩ ⟨AO,Hw,SN,trivial⟩ trivial
def iv (a:Pos)(b:Int):Int:=(bif !PO a.variant b then(0)else(((ng b a (((kI b a (0,1)).getD default).1,0)).getD default).1))
def LJ (a:Pos)(b:Int):Bool:=(UM (a.variant) b&&(bif !PO a.variant b then true else((kI b a (0,1)).isSome&&((ng b a (((kI b a (0,1)).getD default).1,0)).isSome&&true))))
theorem ade (a:Pos)(b:Int)(h:LJ a b=true):PS Pz 100 [Pos.av a,.int .u8 b] ((dI .i64).res (iv a b)):=pq14 ai9 h
def ajc:GT:=g2 aZ (dI .u8) (fun a b=>b7 (LJ a b) ((dI .i64).res (iv a b)))
theorem as2:Sound Pz 100 ajc:=aP fun a b=>aA (ade a b)
def VU:ar:=gm Pz (fun _ _=>[]) [(99,G99),(100,ajc)] [] []
theorem aoo:aO VU:=af ae ⟨s99,as2,trivial⟩ trivial trivial
def X7 (a:Pos):Int:=(cP VU 14 40 [Pos.av a]).vt (dI .i64).dec
def Ft (a:Pos):Bool:=((cP VU 14 40 [Pos.av a]).qt (dI .i64).dec).val
theorem apC (a:Pos):(cP VU 14 40 [Pos.av a]).vI.map XC=(cP VU 14 40 [Pos.av a]).vI.map Xa:=by kernel_rfl
theorem anZ (a:Pos):((cP VU 14 40 [Pos.av a]).qt (dI .i64).dec).val=Ft a:=by kernel_rfl
theorem ao4 (a:Pos):(cP VU 14 40 [Pos.av a]).vt (dI .i64).dec=X7 a:=by kernel_rfl
theorem P40 (a:Pos)(h:Ft a=true):PS Pz 40 [Pos.av a] ((dI .i64).res (X7 a)) := @sc VU aoo 14 40 [Pos.av a] Int _ (dI .i64) (Ft a) (X7 a) (anZ a) (ao4 a) (apC a) h
theorem t160 {a:Int}(h:0≤a):uV a=true:=by unfold uV;grind
theorem adL (l:List Int)(p:Pos):(nI l p (0,0)).isSome=true:=by
 refine(aJ (Q:=fun _=>True) (aQ (I:=fun x=>0≤x.2∧x.2≤6) (μ:=fun x=>(6-x.2).toNat) ?_ _ ⟨by simp,by simp⟩ (by simp))).1;rintro⟨c,n⟩ ⟨h0,h1⟩;simp only at h0 h1;by_cases hc:n<6
 ·have hw:wr .i64 (n+1)=n+1:=aF (by omega) (by omega);have hw8:wr .u8 n=n:=kD (by omega) (by omega);refine⟨aq (fun _=>ak (by simp[h0];omega) fun _=>ak (by rw[hw8];exact t160 h0) fun _=>rfl) fun _=>rfl,al (fun _=>?_) (by simp_all)⟩;rw[hw];exact⟨⟨by dsimp only;omega,by dsimp only;omega⟩,by dsimp only;omega⟩
 ·exact⟨aq (fun h=>absurd h (by simpa using hc)) fun _=>rfl,al (fun h=>absurd h (by simpa using hc)) fun _=>trivial⟩
theorem t210 (p:Pos){b:Int}(h0:0≤b)(h1:b≤1):Hf p b=true :=
 ak (by grind) fun _=>ak (adL _ _) fun _=>rfl
theorem t216 (p:Pos){b:Int}(h0:0≤b)(h1:b≤1):F6 p b=true :=
 ak (by rw[decide_eq_true h0,decide_eq_true (show b<Int.ofNat 2 by show b<2;omega)];rfl) fun _=>rfl
theorem Zl (a k:Int)(l:List Int)(p:Pos)(c:Int)(hl:l.length≤64)(hk:0≤k):(nc a k l (Int.ofNat l.length) p (c,0)).isSome=true:=by
 refine(aJ (Q:=fun _=>True) (aQ (I:=fun x=>0≤x.2∧x.2≤(l.length:Int)) (μ:=fun x=>((l.length:Int)-x.2).toNat) ?_ _ ⟨by simp,by simp⟩ (by simp;omega))).1;rintro⟨c,n⟩ ⟨h0,h1⟩;simp only at h0 h1;by_cases hc:n<l.length
 ·have hw:wr .i64 (n+1)=n+1:=aF (by omega) (by omega);refine⟨aq (fun _=>ak (by simp[h0];exact hc) fun _=>ak (t160 hk) fun _=>rfl) fun _=>rfl,al (fun _=>?_) (by simp_all)⟩;refine al (fun _=>?_) fun _=>?_
  ·rw[hw];exact⟨⟨by dsimp only;omega,by dsimp only;omega⟩,by dsimp only;omega⟩
  ·rw[hw];exact⟨⟨by dsimp only;omega,by dsimp only;omega⟩,by dsimp only;omega⟩
 ·exact⟨aq (fun h=>absurd h (by simpa using hc)) fun _=>rfl,al (fun h=>absurd h (by simpa using hc)) fun _=>trivial⟩
theorem aap (a:Int)(p:Pos):(kI a p (0,1)).isSome=true:=by
 refine(aJ (Q:=fun _=>True) (aQ (I:=fun x=>1≤x.2∧x.2≤7) (μ:=fun x=>(7-x.2).toNat) ?_ _ ⟨by simp,by simp⟩ (by simp))).1;rintro⟨c,n⟩ ⟨h0,h1⟩;simp only at h0 h1;by_cases hc:n≤6
 ·have hw:wr .u8 (n+1)=n+1:=kD (by omega) (by omega);refine⟨aq (fun _=>ak (t147 _ _ _) fun _=>ak (t142 _) fun _=>ak (Zl _ _ _ _ _ (by rw[dy];exact dC _ _) (by omega)) fun _=>rfl) fun _=>rfl,al (fun _=>?_) (by simp_all)⟩;rw[hw];exact⟨⟨by dsimp only;omega,by dsimp only;omega⟩,by dsimp only;omega⟩
 ·exact⟨aq (fun h=>absurd h (by simpa using hc)) fun _=>rfl,al (fun h=>absurd h (by simpa using hc)) fun _=>trivial⟩
theorem Mu {a:Int}(h0:0≤a)(h1:a≤1)(p:Pos)(c:Int):(ng a p (c,0)).isSome=true:=by
 refine(aJ (Q:=fun _=>True) (aQ (I:=fun x=>0≤x.2∧x.2≤5) (μ:=fun x=>(5-x.2).toNat) ?_ _ ⟨by simp,by simp⟩ (by simp))).1;rintro⟨c,n⟩ ⟨g0,g1⟩;simp only at g0 g1;by_cases hc:n<5
 ·have hw:wr .i64 (n+1)=n+1:=aF (by omega) (by omega);have key:∀v:Int,xf (fun x:Int×Int=>0≤x.2∧x.2≤5) (fun _:Int×Int×Bool=>True) (fun x:Int×Int=>(5-x.2).toNat) ((5-n).toNat) (aG.go (v,wr .i64 (n+1))):=fun v=>by rw[hw];exact⟨⟨by dsimp only;omega,by dsimp only;omega⟩,by dsimp only;omega⟩
  have h5:decide (n<Int.ofNat 5)=true:=by simp_all
  have hb:(decide (0≤n)&&decide (n<Int.ofNat 5))=true:=by rw[h5,decide_eq_true g0];rfl
  have h126:H7 p a=true:=ak (t145 _ _ _) fun _=>rfl;have h129:He p a=true:=ak (t145 _ _ _) fun _=>rfl;have h132:Hi p a=true:=ak (ak (t147 _ _ _) fun _=>rfl) fun _=>rfl;refine⟨aq (fun _=>ak hb fun _=>aq (fun _=>aq (fun _=>ak (t210 p h0 h1) fun _=>rfl) fun _=>rfl) fun e0=>aq (by simp_all) fun e1=>aq (by simp_all) fun e2=>aq (fun _=>aq (fun _=>ak (t216 p h0 h1) fun _=>rfl) fun _=>rfl) fun e3=>ak ?_ (by simp_all)) fun _=>rfl,al (fun _=>?_) (by simp_all)⟩
  ·grind
  grind
 ·have h5:decide (n<Int.ofNat 5)=false:=by simp_all
  exact⟨aq (fun h=>absurd h (by rw[h5];simp)) fun _=>rfl,al (fun h=>absurd h (by rw[h5];simp)) fun _=>trivial⟩
theorem t99 {a:Int}(b:Int)(h:0≤a):UM a b=true:=ak (ak (t178 h) fun _=>rfl) fun _=>rfl
theorem t100 {p:Pos}(hp:ax p){b:Int}(h0:0≤b)(h1:b≤1):LJ p b=true :=
 ak (t99 b hp.v0) fun _=>aq (fun _=>rfl) fun _=>ak (aap b p) fun _=>ak (Mu h0 h1 p _) fun _=>rfl
end Kz
namespace Go.Proofs
open Go.Shelf Go.RowKit Go.Lib Go.Sort Kz
theorem ez {W:World}{b sz:Nat}{ty:TypeId}{cs:Array Value}(h:W.heap[b]?=some (.cells cs ty (0,0)))(hs:cs.toList.length=sz):Sem.run Tryz.prog (loadCellsFrom { block:=b,off:=0,spot:=none } 0 sz #[]) W=.ok cs W:=by
 have h:=run_loadCellsFrom_list Tryz.prog W ⟨b,0,none⟩ cs.toList sz hs (fun c v hc=>by
  rw[Addr.add_lit,aw h,Nat.zero_add]
  simpa using hc)
 simpa using h
theorem wz {g:Gh}{tk:List Nat}{w:World}{p:Pos}{cs:List Value}(h:ay g tk w (bf (Pos.av p)) cs):cs[0]?=some (.int .u8 p.variant)∧cs[78]?=some (.int .u8 p.aa):=by change ay g tk w [.int .u8 p.variant,.ints .u8 64 p.ab,.u64 p.ai,.ints .u8 12 p.ah,.int .u8 p.aa,.ints .i8 4 p.ao,.int .i8 p.az,.ints .u8 2 p.au,.int .i64 p.half,.int .i64 p.full] cs at h;obtain⟨x1,r1,e1,q1,h1⟩:=h.inv_one rfl;obtain⟨l2,r2,e2,h2⟩:=h1.bJ;obtain⟨x3,r3,e3,q3,h3⟩:=h2.inv_one rfl;obtain⟨l4,r4,e4,h4⟩:=h3.bJ;obtain⟨x5,r5,e5,q5,h5⟩:=h4.inv_one rfl;cases q1;cases q5;grind
def yu (p:Pos):Int:=wrap64 (iv p p.aa-iv p (wr .u8 (1-p.aa)))
def sQ (p:Pos):Int:=bif PO p.variant p.aa then min (max (bif p.variant==4 then wrap64 (-yu p)else yu p) (-20000)) 20000 else 0
theorem Ln (p:Pos) : -20000≤sQ p∧sQ p≤20000:=by unfold sQ;grind
theorem NW {p:Pos}(h31:PO p.variant p.aa=true):p.aa≤1:=by revert h31;unfold PO;simp_all
set_option maxHeartbeats 4000000 in
set_option maxRecDepth 100000 in
theorem ZO (p:Pos)(hp:ax p)(k:Nat)(zE:∀w,(Go.sizeOf 31).run Tryz.prog w=.ok k w)(hk:k=88):aX Tryz.prog 40 [Pos.av p] (.int .i64 (sQ p)):=by
 intro w bw hg hr;obtain⟨bw⟩:=bw;cases hr with
 |cons q1 r1 =>
 cases r1;obtain⟨pcs,rfl,hpc⟩:=aM.cM (l:=bf (Pos.av p)) q1;clear q1;refine callsIn_wide.2 ?_;have mixed:Tryz.prog.follows .mixedOrders=true:=by kernel_rfl
 have aE:∀w,(isAgg 31).run Tryz.prog w=.ok true w:=Tryz.isAgg31;have hlen:pcs.toList.length=k:=(jF hpc).trans hk.symm;obtain⟨w1,hw1⟩:∃w1,w1=w.alloc (Obj.cells pcs 31):=⟨_,rfl⟩;have hs1:w1.heap.size=w.heap.size+1:=by rw[hw1];simp
 have hp1:w1.heap[w.heap.size]?=some (.cells pcs 31 (0,0)):=by rw[hw1];exact heap_alloc_new w _
 have hb1:RowKit.Below w.heap.size w w1:=by rw[hw1];exact(Below.refl _ w).alloc (Nat.le_refl _) _
 have hK1:Kept w w1 w1:=⟨hb1,Nat.le_refl _,rfl⟩;have ld:∀W,Kept w w1 W→Sem.run Tryz.prog (loadCellsFrom { block:=w.heap.size,off:=0,spot:=none } 0 k #[]) W=.ok pcs W:=fun W hW=>ez (hW.p.trans hp1) hlen;have tu:∀W:World,Kept w w1 W→W.cell? ⟨w.heap.size,0,none⟩=some (.int .u8 p.variant)∧W.cell? ⟨w.heap.size,78,none⟩=some (.int .u8 p.aa):=fun W hW=>by have h:=wz hpc;rw[aw (hW.p.trans hp1),aw (hW.p.trans hp1)];simpa using h
 have g0:∀W,Kept w w1 W→cN W:=fun W hW=>gO hg hW.b.size hW.b.block;have nx:∀W w',Kept w w1 W→RowKit.Below W.heap.size W w'→Kept w w1 w':=fun W w' hW hb=>by have:=hW.s;exact⟨hW.b.trans (hb.mono hW.b.size),Nat.le_trans hW.s hb.size,(hb.block _ (by omega)).trans hW.p⟩
 have k31:∀W,Kept w w1 W→Calls Tryz.prog 99 #[.int .u8 p.variant,.int .u8 p.aa] W fun e w'=>e=.returned (.bool (PO p.variant p.aa))∧Hid (Kept w w1 w'):=fun W hW=>by have h:=(P99 p.variant p.aa (t99 _ hp.v0)).1;unfold aX at h;refine Calls.mono (callsIn_wide.1 (h W #[.int .u8 p.variant,.int .u8 p.aa] (g0 W hW) (.cons (.int _ _) (.cons (.int _ _) .nil)))) ?_;rintro e w' ⟨x,rfl,hb,hx⟩;cases hx;exact⟨rfl,nx W w' hW hb⟩
 have k32:∀W b,0≤b→b≤1→Kept w w1 W→Calls Tryz.prog 100 #[.agg pcs,.int .u8 b] W fun e w'=>e=.returned (.int .i64 (iv p b))∧Kept w w1 w':=fun W b b0 b1 hW=>by have h:=(ade p b (t100 hp b0 b1)).1;unfold aX at h;refine Calls.mono (callsIn_wide.1 (h W #[.agg pcs,.int .u8 b] (g0 W hW) (.cons (.agg (cd hpc)) (.cons (.int _ _) .nil)))) ?_;rintro e w' ⟨x,rfl,hb,hx⟩;cases hx;grind
 have c31:=k31 w1 hK1;rw[hw1]at c31;have t1:=tu w1 hK1;rw[hw1]at t1;obtain⟨tv1,tt1⟩:=t1;have LD:Aside _:=ld;have TU:Aside _:=tu;have E9:Aside _:=k32;have HW1:=Lib.hid hw1;have ht0:=hp.t0;clear ld tu k31 k32 hK1 hs1 hp1 hb1 hg g0 nx hlen hk hw1;go_enter Tryz.func40,Tryz.ntmps40;go_wp2_with fail;refine c31.mono ?_;rintro e w2 ⟨rfl,hK2⟩;clear c31 tv1 tt1;rw[←HW1.out]at hK2;cases h31:PO p.variant p.aa with
 |false =>go_wp2_with fail;go_ret;refine⟨_,rfl,hK2.out.b,?_⟩;unfold sQ;rw[h31,cond_false];exact .int _ _
 |true =>
  have ht1:=NW h31;obtain⟨tb,htb⟩:∃tb,tb=wr .u8 (1-p.aa):=⟨_,rfl⟩;have hwb:wr .u8 (1-p.aa)=1-p.aa:=kD (by omega) (by omega);have tb0:0≤tb∧tb≤1:=by omega
  have hw8:IntKind.u8.wrap (1-p.aa)=tb:=htb.symm;have hw8':wr .u8 (1-p.aa)=tb:=htb.symm;clear hwb htb;have l2:∀q:sW (fun (_:Array Unit) W=>Kept w w1 W) #[],Sem.run Tryz.prog (loadCellsFrom { block:=w.heap.size,off:=0,spot:=none } 0 k #[]) q.W=.ok pcs q.W:=fun q=>LD.out q.W q.h;have t2:∀q:sW (fun (_:Array Unit) W=>Kept w w1 W) #[],q.W.cell? ⟨w.heap.size,78,none⟩=some (.int .u8 p.aa):=fun q=>(TU.out q.W q.h).2;have cA:∀q:sW (fun (_:Array Unit) W=>Kept w w1 W) #[],Calls Tryz.prog 100 #[.agg pcs,.int .u8 p.aa] q.W fun e w'=>e=.returned (.int .i64 (iv p p.aa))∧∃q':sW (fun (_:Array Unit) W=>Kept w w1 W) #[],w'=q'.W:=fun q=>(E9.out q.W p.aa ht0 ht1 q.h).mono fun e w' ⟨a,b⟩=>⟨a,⟨w',b⟩,rfl⟩;have cB:∀q:sW (fun (_:Array Unit) W=>Kept w w1 W) #[],Calls Tryz.prog 100 #[.agg pcs,.int .u8 tb] q.W fun e w'=>e=.returned (.int .i64 (iv p tb))∧∃q':sW (fun (_:Array Unit) W=>Kept w w1 W) #[],w'=q'.W:=fun q=>(E9.out q.W tb tb0.1 tb0.2 q.h).mono fun e w' ⟨a,b⟩=>⟨a,⟨w',b⟩,rfl⟩;go_wp2_with fail;refine db (RW:=fun (_:Array Unit) W=>Kept w w1 W) (d := #[]) mixed (by kernel_rfl) hK2.out.drew ?_;repeat (quiet_step (first|with_reducible rfl|(go_at_call_of 100 (Value.int .u8 p.aa);exact cA _)|(go_at_call_of 100 (Value.int .u8 tb);exact cB _)))
  refine wpQuiet_nil ?_;intro w3 hw';obtain⟨⟨wx,hq⟩,hw''⟩:=hw';subst hw'';have HK3:Hid (Kept w w1 w3):=hq;obtain⟨tv3,tt3⟩:=TU.out w3 hq;clear l2 t2 cA cB hq;have hev:sQ p=min (max (bif p.variant==4 then wrap64 (-yu p)else yu p) (-20000)) 20000:=by unfold sQ;rw[h31,cond_true]
  unfold yu at hev;rw[hw8']at hev;have HEV:=Lib.hid hev;clear hev hw8' h31;cases hv4:(p.variant==4)with
  |true =>go_wp2_with fail;go_ret;refine⟨_,rfl,HK3.out.b,?_⟩;rw[HEV.out,hv4];exact .int _ _
  |false =>go_wp2_with fail;go_ret;refine⟨_,rfl,HK3.out.b,?_⟩;rw[HEV.out,hv4];exact .int _ _
end Go.Proofs
namespace Kz
open Go Go.RowKit Go.Proofs
def ar4:KT:=[(111,16,[(0,[0]),(1,[0]),(2,[0,5]),(3,[2]),(4,[0,10]),(5,[2]),(6,[2])])]
def atr:ar:=bO Pz ar4 [] [] []
theorem agD:aO atr:=af ae trivial trivial trivial
def iw (a:Int):Int:=(bif decide (wr .i64 (0-a)>20000)then(wr .i64 (wr .i64 (0-a)-1))else(bif decide (wr .i64 (0-a) < -20000)then(wr .i64 (wr .i64 (0-a)+1))else(wr .i64 (0-a))))
def aiH (a:Int):Bool:=true
theorem ae2 (a:Int)(h:aiH a=true):PS Pz 111 [.int .i64 a] ((dI .i64).res (iw a)):=pq14 agD h
def aih:GT:=g1 (dI .i64) (fun a=>.ret ((dI .i64).res (iw a)))
theorem arU:Sound Pz 111 aih:=aH fun a=>bH (ae2 a rfl)
def nO (p:Pos):Int:=bif(jo p).1==3 then 0 else bif(jo p).1==wr .u8 (1+p.aa)then 30000 else -30000
def px (p:Pos):Int:=bif p.variant==4&&decide (0<(gJ p).length)then -30001 else sQ p
def fX (f:Pos→Int→Option (Int×Int))(p:Pos)(s:Option (Int×Int))(m:Mv):Option (Int×Int) :=
 match s with
 |none=>none
 |some (b,k)=>match f (du p m).1 k with
  |none=>none
  |some (v,k')=>some (max b (iw v),k')
def bM:Nat→Pos→Int→Option (Int×Int)
 | 0,p,k=>if 200000<k+1 then none else bif(jo p).1 != 0 then some (nO p,k+1)else some (sQ p,k+1)
 |n+1,p,k=>if 200000<k+1 then none else bif(jo p).1 != 0 then some (nO p,k+1)else(gJ p).foldl (fX (bM n) p) (some (px p,k+1))
def uF (n:Nat)(p:Pos)(m:Mv)(k:Int):Option (Int×Int):=(bM n (du p m).1 k).map fun x=>(iw x.1,x.2)
theorem j9 (f:Pos→Int→Option (Int×Int))(p:Pos):∀l:M',l.foldl (fX f p) none=none
 | []=>rfl
 |_::l=>j9 f p l
structure fx (w:World)(c:Nat)(ty:TypeId)(k:Int)(W:World):Prop where
 os:W.os=w.os
 tape:W.tape=w.tape
 output:W.output=w.output
 size:w.heap.size≤W.heap.size
 other:∀j,j<w.heap.size→j≠c→W.heap[j]?=w.heap[j]?
 cell:W.heap[c]?=some (.cells #[.int .i64 k] ty (0,0))
theorem fx.trans {w w1 w2:World}{c:Nat}{ty:TypeId}{k k2:Int}(h:fx w c ty k w1)(g:fx w1 c ty k2 w2):fx w c ty k2 w2 :=
 ⟨g.os.trans h.os,g.tape.trans h.tape,g.output.trans h.output,Nat.le_trans h.size g.size,fun j hj hn=>(g.other j (Nat.lt_of_lt_of_le hj h.size) hn).trans (h.other j hj hn),g.cell⟩
theorem fx.below {w w1 w2:World}{c:Nat}{ty:TypeId}{k:Int}(h:fx w c ty k w1)(g:RowKit.Below w1.heap.size w1 w2):fx w c ty k w2 :=
 ⟨g.os.trans h.os,g.tape.trans h.tape,g.output.trans h.output,Nat.le_trans h.size g.size,fun j hj hn=>(g.block j (Nat.lt_of_lt_of_le hj h.size)).trans (h.other j hj hn),(g.block c (aB h.cell)).trans h.cell⟩
theorem fx.refl {w:World}{c:Nat}{ty:TypeId}{k:Int}(h:w.heap[c]?=some (.cells #[.int .i64 k] ty (0,0))):fx w c ty k w:=⟨rfl,rfl,rfl,Nat.le_refl _,fun _ _ _=>rfl,h⟩
theorem fx.drew {w w1:World}{c:Nat}{ty:TypeId}{k:Int}(h:fx w c ty k w1):fx w c ty k w1.drew:=h.below ⟨rfl,rfl,rfl,Nat.le_refl _,fun _ _=>rfl⟩
theorem fx.alloc {w w1:World}{c:Nat}{ty:TypeId}{k:Int}(h:fx w c ty k w1)(o:Obj):fx w c ty k (w1.alloc o):=h.below ((Below.refl _ w1).alloc (Nat.le_refl _) o)
theorem fx.put {w w1:World}{c:Nat}{ty:TypeId}{k k':Int}(h:fx w c ty k w1):fx w c ty k' (w1.setCell ⟨c,0,none⟩ (.int .i64 k')):=by
 have e:w1.setCell ⟨c,0,none⟩ (.int .i64 k')=bk w1 c (.cells #[.int .i64 k'] ty (0,0)):=by rw[iV h.cell];rfl
 rw[e];exact⟨h.os,h.tape,h.output,by rw[cG];exact h.size,fun j hj hn=>by rw[aN hn];exact h.other j hj hn,cx h.cell⟩
theorem iR {w W:World}{c:Nat}{ty ty':TypeId}{k k':Int}(hg:cN w)(hc:w.heap[c]?=some (.cells #[.int .i64 k] ty (0,0)))(h:fx w c ty' k' W):cN W:=by
 intro pr hpr;have hk:pr.2.1=.u8:=by simp only[um,vm,NB,Y6,List.map_cons,List.map_nil,List.append_nil,List.mem_singleton]at hpr;rw[hpr]
 refine⟨fun hi=>?_,fun hi=>?_⟩
 ·have:=hi.1;simp_all
 ·obtain⟨zs,a,b,cc,d,t,fr,e⟩:=(hg pr hpr).2 hi;have hlt:pr.1<w.heap.size:=d;by_cases ec:pr.1=c
  ·exfalso;rw[ec,hc,hk]at e;cases zs with
   |nil=>simp at e
   |cons z zs=>simp at e
  ·refine⟨zs,a,b,fun j x hj=>?_,Nat.lt_of_lt_of_le hlt h.size,t,fr,by rw[h.other _ hlt ec];exact e⟩;obtain⟨h1,h2⟩:=cc j x hj;exact⟨by rw[b9 (h.other _ hlt ec)];exact h1,Nat.lt_of_lt_of_le hlt h.size⟩
end Kz
namespace Kz
open Go Go.RowKit Go.Proofs
set_option maxRecDepth 100000
def gv (w:World)(c:Nat)(ty:TypeId)(r:Option (Int×Int))(e:Ending)(w':World):Prop :=
 match r with
 |some x=>e=.returned (.int .i64 x.1)∧fx w c ty x.2 w'
 |none=>e=.panicked (gD (.iface 107 (.agg #[])))∧fx w c ty 200001 w'
def VS (n:Nat):Prop := ∀(p:Pos),ax p→∀(k:Int),0≤k→k≤200000→∀(c:Nat) (ty:TypeId) (w:World),cN w→w.heap[c]?=some (.cells #[.int .i64 k] ty (0,0)) →
 ∀(pcs:Array Value),ay (cH w) [] w (bf (Pos.av p)) pcs.toList→Calls Tryz.prog 43 #[.pointer (some ⟨c,0,none⟩),.agg pcs,.int .i64 (n:Int)] w (gv w c ty (bM n p k))
def GS (n:Nat):Prop := ∀(p:Pos),ax p→∀(m:Mv) (k:Int),0≤k→k≤200000→∀(c:Nat) (ty:TypeId) (w:World),cN w→w.heap[c]?=some (.cells #[.int .i64 k] ty (0,0)) →
 ∀(pcs:Array Value),ay (cH w) [] w (bf (Pos.av p)) pcs.toList→Calls Tryz.prog 52 #[.pointer (some ⟨c,0,none⟩),.agg pcs,.agg (bP m).toArray,.int .i64 ((n:Int)+1)] w (gv w c ty (uF n p m k))
theorem jY {p:Pos}(hp:ax p)(m:Mv):ax (du p m).1:=by
 obtain⟨_,h1,h2⟩:=kc hp m;by_cases hm:m∈bR p
 ·exact(h1 hm).2.1
 ·rw[h2 hm];exact hp
theorem zQ:∀(n:Nat) (p:Pos) (k:Int) (x:Int×Int),bM n p k=some x→k<x.2∧x.2≤200000
 | 0,p,k,x,h=>by
  unfold bM at h
  split at h
  ·cases h
  ·cases hb:(jo p).1 != 0<;>rw[hb]at h<;>simp only[cond_true,cond_false,A']at h<;>subst h<;>(dsimp only;omega)
 |n+1,p,k,x,h=>by
  unfold bM at h
  split at h
  ·cases h
  ·cases hb:(jo p).1 != 0<;>rw[hb]at h
   ·simp only[cond_false]at h
    have key:∀(l:M') (b k':Int),k<k'→k'≤200000→l.foldl (fX (bM n) p) (some (b,k'))=some x→k<x.2∧x.2≤200000:=by
     intro l
     induction l with
     |nil=>intro b k' h1 h2 h3;simp only[List.foldl_nil,A']at h3;subst h3;exact⟨h1,h2⟩
     |cons m l ih =>
      intro b k' h1 h2 h3
      simp only[List.foldl_cons,fX]at h3
      cases hr:bM n (du p m).1 k' with
      |none=>rw[hr]at h3;simp only at h3;rw[j9]at h3;cases h3
      |some y =>
       rw[hr]at h3
       have:=zQ n _ _ _ hr
       exact ih _ _ (by omega) this.2 h3
    exact key _ _ _ (by omega) (by omega) h
   ·simp only[cond_true,A']at h
    subst h
    dsimp only
    omega
end Kz
namespace Go.Proofs
open Go.Shelf Go.RowKit Go.Lib Go.Sort Kz
theorem Gv {g:Gh}{tk:List Nat}{w:World}{p:Pos}{cs:List Value}(h:ay g tk w (bf (Pos.av p)) cs):∀v∈cs,v.oneCell'=true:=by
 change ay g tk w [.int .u8 p.variant,.ints .u8 64 p.ab,.u64 p.ai,.ints .u8 12 p.ah,.int .u8 p.aa,.ints .i8 4 p.ao,.int .i8 p.az,.ints .u8 2 p.au,.int .i64 p.half,.int .i64 p.full] cs at h;obtain⟨x1,r1,e1,q1,h1⟩:=h.inv_one rfl;obtain⟨l2,r2,e2,h2⟩:=h1.bJ;obtain⟨x3,r3,e3,q3,h3⟩:=h2.inv_one rfl;obtain⟨l4,r4,e4,h4⟩:=h3.bJ;obtain⟨x5,r5,e5,q5,h5⟩:=h4.inv_one rfl;obtain⟨l6,r6,e6,h6⟩:=h5.bJ;obtain⟨x7,r7,e7,q7,h7⟩:=h6.inv_one rfl;obtain⟨l8,r8,e8,h8⟩:=h7.bJ;obtain⟨x9,r9,e9,q9,h9⟩:=h8.inv_one rfl;obtain⟨x10,r10,e10,q10,h10⟩:=h9.inv_one rfl;have e11:=h10.cL;cases q1;cases q3;cases q5;cases q7;cases q9;cases q10;have key:∀(k:IntKind) (l:List Int),∀v∈l.map (Value.int k),v.oneCell'=true:=fun k l v hv=>by obtain⟨x,_,rfl⟩:=List.mem_map.1 hv;rfl
 rw[e1,e2,e3,e4,e5,e6,e7,e8,e9,e10,e11];intro v hv;simp only[List.mem_cons,List.mem_append,List.not_mem_nil,or_false]at hv;rcases hv with rfl|hv|rfl|hv|rfl|hv|rfl|hv|rfl|rfl
 ·rfl
 ·exact key _ _ v hv
 ·rfl
 ·exact key _ _ v hv
 ·rfl
 ·exact key _ _ v hv
 ·rfl
 ·exact key _ _ v hv
 ·rfl
 ·rfl
set_option maxHeartbeats 4000000 in
set_option maxRecDepth 100000 in
theorem QE (n:Nat)(hn:n<4611686018427387904)(hv:VS n)(sz:Nat)(zE:∀w,(Go.sizeOf 31).run Tryz.prog w=.ok sz w)(hsz:sz=88)(zs:Array Value)(zV:∀w,(zeroValue 31).run Tryz.prog w=.ok (.agg zs) w)(hzs:zs.size=sz)(s944:Nat)(zE44:∀w,(Go.sizeOf 47).run Tryz.prog w=.ok s944 w)(h44:s944=5):GS n:=by
 intro p hp m k h0 h1 c ty w hg hc pcs hpc;have aE:∀w,(isAgg 31).run Tryz.prog w=.ok true w:=Tryz.isAgg31;have aE44:∀w,(isAgg 47).run Tryz.prog w=.ok true w:=Tryz.isAgg47;have hlen:pcs.toList.length=sz:=(jF hpc).trans hsz.symm;obtain⟨mc,hmc⟩:∃mc,mc=(bP m).toArray:=⟨_,rfl⟩;have hml:mc.toList.length=s944:=by rw[hmc,h44];rfl
 rw[←hmc];have hcw:c<w.heap.size:=aB hc;have hb1:RowKit.Below w.heap.size w ((w.alloc (Obj.cells pcs 31)).alloc (Obj.cells mc 47)):=((Below.refl _ w).alloc (Nat.le_refl _) _).alloc (by simp) _;have hs1:((w.alloc (Obj.cells pcs 31)).alloc (Obj.cells mc 47)).heap.size=w.heap.size+2:=by simp
 have hbp:((w.alloc (Obj.cells pcs 31)).alloc (Obj.cells mc 47)).heap[w.heap.size]?=some (.cells pcs 31 (0,0)):=by rw[Below.heap_alloc _ _ _ (by simp)];exact heap_alloc_new w _
 have hbm:((w.alloc (Obj.cells pcs 31)).alloc (Obj.cells mc 47)).heap[w.heap.size+1]?=some (.cells mc 47 (0,0)):=by
  have h:=heap_alloc_new (w.alloc (Obj.cells pcs 31)) (Obj.cells mc 47);have h1:(w.alloc (Obj.cells pcs 31)).heap.size=w.heap.size+1:=by simp
  rw[h1]at h;exact h
 have l1:=ez hbp hlen;have l2:=ez hbm hml;have hL1:fx w c ty k ((w.alloc (Obj.cells pcs 31)).alloc (Obj.cells mc 47)):=(fx.refl hc).below hb1;have c22:Calls Tryz.prog 31 #[.agg pcs,.agg mc] ((w.alloc (Obj.cells pcs 31)).alloc (Obj.cells mc 47)) fun e w'=>∃qcs b,e=.returned (.tuple #[.agg qcs,b])∧Hid (RowKit.Below ((w.alloc (Obj.cells pcs 31)).alloc (Obj.cells mc 47)).heap.size ((w.alloc (Obj.cells pcs 31)).alloc (Obj.cells mc 47)) w')∧Hid (ay (cH w') [] w' (bf (Pos.av (du p m).1)) qcs.toList):=by
  have h:=(P31 p m (kc hp m).1).1;unfold aX at h;have r1:aM (cH ((w.alloc (Obj.cells pcs 31)).alloc (Obj.cells mc 47))) [] ((w.alloc (Obj.cells pcs 31)).alloc (Obj.cells mc 47)) (Pos.av p) (.agg pcs) := .agg (cd hpc);have r2:aM (cH ((w.alloc (Obj.cells pcs 31)).alloc (Obj.cells mc 47))) [] ((w.alloc (Obj.cells pcs 31)).alloc (Obj.cells mc 47)) (Mv.av m) (.agg mc):=by rw[hmc];exact .agg (mf _ _ _ m)
  refine Calls.mono (callsIn_wide.1 (h _ #[.agg pcs,.agg mc] (gO hg hb1.size hb1.block) (.cons r1 (.cons r2 .nil)))) ?_;rintro e w' ⟨x,rfl,hb,hx⟩;cases hx with
  |tuple hx =>
  rename_i vs;obtain⟨vs⟩:=vs;cases hx with
  |cons q1 r =>
  cases r with
  |cons q2 r =>
  cases r;obtain⟨qcs,rfl,hq⟩:=aM.cM (l:=bf (Pos.av (du p m).1)) q1;exact⟨qcs,_,rfl,hb,cd hq⟩
 have C22:=Lib.hid c22;have HL1:=Lib.hid hL1;have HG:=Lib.hid hg;have HC:=Lib.hid hc;have HV:Aside _:=hv;have HS:=Lib.hid hs1;have HZ:=Lib.hid hsz;have HZS:=Lib.hid hzs;clear c22 hL1 hb1 hbp hbm hg hc hv hs1 hsz h44 hlen hml hmc hzs;go_enter Tryz.func52,Tryz.ntmps52;go_wp2_with fail;refine C22.out.mono ?_;rintro e w2 ⟨qcs,bq,rfl,hb2,hq⟩;clear l1 l2;have hL2:fx w c ty k w2:=HL1.out.below hb2.out;have hqs:qcs.size=sz:=by have:=jF hq.out;rw[HZ.out];simpa using this
 have st:=run_storeCells_cells (P:=Tryz.prog) w2.heap.size 0 qcs.toList 0 (w2.alloc (Obj.cells zs 31)) (fun j hj=>by
  rw[aw (heap_alloc_new w2 _)]
  have hj2:j<qcs.size:=by simpa using hj
  rw[Array.getElem?_eq_getElem (by rw[HZS.out,←hqs];omega)]
  rfl) (fun j hj=>bQ (heap_alloc_new w2 _)) (Gv hq.out)
 have hin:=World.cell?_setCells_in w2.heap.size qcs.toList 0 (w2.alloc (Obj.cells zs 31)) (fun j hj=>by
  rw[aw (heap_alloc_new w2 _)]
  have hj2:j<qcs.size:=by simpa using hj
  rw[Array.getElem?_eq_getElem (by rw[HZS.out,←hqs];omega)]
  rfl)
 have l3:Sem.run Tryz.prog (loadCellsFrom { block:=w2.heap.size,off:=0,spot:=none } 0 sz #[]) ((w2.alloc (Obj.cells zs 31)).setCells w2.heap.size 0 qcs.toList)=.ok qcs ((w2.alloc (Obj.cells zs 31)).setCells w2.heap.size 0 qcs.toList):=by
  have h:=run_loadCellsFrom_list Tryz.prog ((w2.alloc (Obj.cells zs 31)).setCells w2.heap.size 0 qcs.toList) ⟨w2.heap.size,0,none⟩ qcs.toList sz (by simpa using hqs) (fun j v hj=>by
   have hlt:=(C'.1 hj).1
   have h2:=hin j hlt
   rw[Addr.add_lit,h2]
   rw[I' hlt]at hj
   exact hj)
  simpa using h
 have hcw2:c<w2.heap.size:=aB hL2.cell;have hb3:RowKit.Below w2.heap.size w2 ((w2.alloc (Obj.cells zs 31)).setCells w2.heap.size 0 qcs.toList):=by
  have e:∀(vs:List Value) (o:Nat) (W:World),RowKit.Below w2.heap.size w2 W→RowKit.Below w2.heap.size w2 (W.setCells w2.heap.size o vs):=by
   intro vs;induction vs with
   |nil=>intro o W h;exact h
   |cons v vs ih=>intro o W h;exact ih _ _ (h.setCell (Nat.le_refl _) v)
  exact e _ _ _ ((Below.refl _ w2).alloc (Nat.le_refl _) _)
 have hL3:fx w c ty k ((w2.alloc (Obj.cells zs 31)).setCells w2.heap.size 0 qcs.toList):=hL2.below hb3;have hg3:=iR HG.out HC.out hL3;have hcall:=HV.out (du p m).1 (jY hp m) k h0 h1 c ty _ hg3 hL3.cell qcs (cd hq.out);have hw64:wrap64 (n:Int)=(n:Int):=by unfold wrap64;omega
 have HCALL:=Lib.hid hcall;have HL3:=Lib.hid hL3;clear hcall hL3 hg3 hb3 hin hL2 hcw2;go_wp2_with fail;refine HCALL.out.mono ?_;intro e w4 hP;unfold gv at hP;cases hr:bM n (du p m).1 k with
 |none =>rw[hr]at hP;obtain⟨rfl,hL4⟩:=hP;have HL4:=Lib.hid hL4;clear hL4 st l3;go_wp2_with fail;refine⟨rfl,?_⟩;unfold gv uF;rw[hr];exact⟨rfl,HL3.out.trans HL4.out⟩
 |some x =>
  rw[hr]at hP;obtain⟨rfl,hL4⟩:=hP;have hL5:=HL3.out.trans hL4;have hg4:=iR HG.out HC.out hL5;have c78:Calls Tryz.prog 111 #[.int .i64 x.1] w4 fun e w'=>e=.returned (.int .i64 (iw x.1))∧fx w c ty x.2 w':=by have h:=(ae2 x.1 rfl).1;unfold aX at h;refine Calls.mono (callsIn_wide.1 (h w4 #[.int .i64 x.1] hg4 (.cons (.int _ _) .nil))) ?_;rintro e w' ⟨v,rfl,hb,hx⟩;cases hx;exact⟨rfl,hL5.below hb⟩
  have C78:=Lib.hid c78;clear c78 hg4 hL5 hL4 st l3;go_wp2_with fail;refine C78.out.mono ?_;rintro e w5 ⟨rfl,hL6⟩;have HL6:=Lib.hid hL6;clear hL6;go_wp2_with fail;go_ret;unfold uF;rw[hr];exact⟨rfl,HL6.out⟩
end Go.Proofs
namespace Go.Proofs
open Go.Shelf Go.RowKit Go.Lib Go.Sort Kz
theorem Pa {p:Pos}(hp:ax p):(gJ p).length≤20802:=by have h:=nn hp;unfold gJ;refine al (P:=fun l:M'=>l.length≤20802) (fun _=>by simp) fun _=>?_;have h2:((dh p).filter (ig p)).length≤(dh p).length:=List.length_filter_le _ _;rw[AN];omega
theorem pP {f:Pos→Int→Option (Int×Int)}{p:Pos}{b k:Int}{m:Mv}(h:f (du p m).1 k=none):fX f p (some (b,k)) m=none:=by simp only[fX];rw[h]
theorem pL {f:Pos→Int→Option (Int×Int)}{p:Pos}{b k v k':Int}{m:Mv}(h:f (du p m).1 k=some (v,k')):fX f p (some (b,k)) m=some (max b (iw v),k'):=by simp only[fX];rw[h]
set_option maxHeartbeats 8000000 in
set_option maxRecDepth 100000 in
theorem F7 (n:Nat)(hn:n<4611686018427387904)(hG:∀n',n=n'+1→GS n')(s944:Nat)(zE44:∀w,(Go.sizeOf 47).run Tryz.prog w=.ok s944 w)(h44:s944=5)(zs44:Array Value)(zV44:∀w,(zeroValue 47).run Tryz.prog w=.ok (.agg zs44) w)(hzs44:zs44.size=s944)(sz:Nat)(zE:∀w,(Go.sizeOf 31).run Tryz.prog w=.ok sz w)(hsz:sz=88):VS n:=by
 intro p hp k h0 h1 c ty w hg hc pcs hpc;have aE44:∀w,(isAgg 47).run Tryz.prog w=.ok true w:=Tryz.isAgg47;have aE:∀w,(isAgg 31).run Tryz.prog w=.ok true w:=Tryz.isAgg31;have hlen:pcs.toList.length=sz:=(jF hpc).trans hsz.symm;have hcw:c<w.heap.size:=aB hc;obtain⟨N,hN⟩:∃N:Int,N=(n:Int):=⟨_,rfl⟩;rw[←hN];have HN:=Lib.hid hN;clear hN;obtain⟨ev,hev⟩:∃ev,ev=sQ p:=⟨_,rfl⟩;have HEV:=Lib.hid hev;clear hev;obtain⟨L,hL0⟩:∃L,L=gJ p:=⟨_,rfl⟩;have HLL:=Lib.hid hL0;have hLB:L.length≤20802:=by rw[hL0];exact Pa hp
 have HLB:=Lib.hid hLB;clear hL0 hLB;obtain⟨st,why,hst⟩:∃st why,jo p=(st,why):=⟨_,_,rfl⟩;have hcell0:w.cell? ⟨c,0,none⟩=some (.int .i64 k):=by rw[aw hc];rfl
 have hfr0:w.frozen? ⟨c,0,none⟩=false:=bQ hc;have hcell:(w.alloc (Obj.cells pcs 31)).cell? ⟨c,0,none⟩=some (.int .i64 k):=by rw[b9 (Below.heap_alloc w _ c hcw)];exact hcell0
 have hfr:(w.alloc (Obj.cells pcs 31)).frozen? ⟨c,0,none⟩=false:=bQ (by rw[Below.heap_alloc w _ c hcw];exact hc);have hk1:wrap64 (k+1)=k+1:=by unfold wrap64;omega
 have hL1:fx w c ty (k+1) (w.setCell ⟨c,0,none⟩ (.int .i64 (k+1))):=(fx.refl hc).put;have hL2:fx w c ty (k+1) ((w.setCell ⟨c,0,none⟩ (.int .i64 (k+1))).alloc (Obj.cells pcs 31)):=hL1.alloc _;have hss:(w.setCell ⟨c,0,none⟩ (.int .i64 (k+1))).heap.size=w.heap.size:=by simp
 have hb2:((w.setCell ⟨c,0,none⟩ (.int .i64 (k+1))).alloc (Obj.cells pcs 31)).heap[w.heap.size]?=some (.cells pcs 31 (0,0)):=by have h:=heap_alloc_new (w.setCell ⟨c,0,none⟩ (.int .i64 (k+1))) (Obj.cells pcs 31);rw[hss]at h;exact h
 have hcell2:((w.setCell ⟨c,0,none⟩ (.int .i64 (k+1))).alloc (Obj.cells pcs 31)).cell? ⟨c,0,none⟩=some (.int .i64 (k+1)):=by rw[aw hL2.cell];rfl
 have hcell3:(w.setCell ⟨c,0,none⟩ (.int .i64 (k+1))).cell? ⟨c,0,none⟩=some (.int .i64 (k+1)):=by rw[aw hL1.cell];rfl
 have l2:=ez hb2 hlen;have HL2:=Lib.hid hL2;have HB2:=Lib.hid hb2;have HG:=Lib.hid hg;have HC:=Lib.hid hc;have HLEN:=Lib.hid hlen;have hgl:∀{W:World} {k':Int},fx w c ty k' W→cN W:=fun h=>iR hg hc h;have HGL:Aside _ := @hgl;have H944:=Lib.hid h44;have HZ44:=Lib.hid hzs44;have HCW:=Lib.hid hcw;clear hL1 hL2 hb2 hg hc hlen hgl hsz hss h44 hzs44;by_cases hgt:200000<k+1
 ·have hlook:bM n p k=none:=by cases n<;>(unfold bM;rw[if_pos hgt])
  have HLK:=Lib.hid hlook;have hk2:k+1=200001:=by omega
  have HK2:=Lib.hid hk2;clear hlook hk2;go_enter Tryz.func43,Tryz.ntmps43;go_wp2_with fail;skip;refine⟨rfl,?_⟩;unfold gv;rw[HLK.out];have:=HL2.out;rw[HK2.out]at this;refine⟨rfl,?_⟩;rw[HK2.out];exact this
 ·have c24:∀W,Hid (fx w c ty (k+1) W)→Hid (W.heap[w.heap.size]?=some (.cells pcs 31 (0,0)))→Calls Tryz.prog 62 #[.agg pcs] W fun e w'=>e=.returned (.agg #[.int .u8 st,.int .u8 why])∧Hid (fx w c ty (k+1) w')∧Hid (w'.heap[w.heap.size]?=some (.cells pcs 31 (0,0))):=fun W hL hB=>by have h:=(P62 p (t62 hp)).1;unfold aX at h;refine Calls.mono (callsIn_wide.1 (h W #[.agg pcs] (HGL.out hL.out) (.cons (.agg (cd hpc)) .nil))) ?_;rintro e w' ⟨x,rfl,hb,hx⟩;rw[hst]at hx;have hx:aM (rK W w') [] w' (.agg [.int .u8 st,.int .u8 why]) x:=hx;obtain⟨cs,rfl,hy⟩:=aM.cM (l:=[.int .u8 st,.int .u8 why]) hx;obtain⟨x1,r1,e1,q1,h1⟩:=hy.inv_one rfl;obtain⟨x2,r2,e2,q2,h2⟩:=h1.inv_one rfl;have e3:=h2.cL;cases q1;cases q2;obtain⟨cs⟩:=cs;simp only at e1;rw[e1,e2,e3];exact⟨rfl,hL.out.below hb,(hb.block _ (aB hB.out)).trans hB.out⟩
  have c15:∀W,Hid (fx w c ty (k+1) W)→Hid (W.heap[w.heap.size]?=some (.cells pcs 31 (0,0)))→Calls Tryz.prog 40 #[.agg pcs] W fun e w'=>e=.returned (.int .i64 ev)∧Hid (fx w c ty (k+1) w')∧Hid (w'.heap[w.heap.size]?=some (.cells pcs 31 (0,0))):=fun W hL hB=>by have h:=ZO p hp 88 Tryz.sizeOf31 rfl;unfold aX at h;refine Calls.mono (callsIn_wide.1 (h W #[.agg pcs] (HGL.out hL.out) (.cons (.agg (cd hpc)) .nil))) ?_;rintro e w' ⟨x,rfl,hb,hx⟩;rw[←HEV.out]at hx;cases hx;exact⟨rfl,hL.out.below hb,(hb.block _ (aB hB.out)).trans hB.out⟩
  have c16:∀W,Hid (fx w c ty (k+1) W)→Hid (W.heap[w.heap.size]?=some (.cells pcs 31 (0,0)))→Calls Tryz.prog 21 #[.agg pcs] W fun e w'=>∃a cap,e=.returned (.slice a (L).length cap)∧Hid (fx w c ty (k+1) w')∧Hid (w'.heap[w.heap.size]?=some (.cells pcs 31 (0,0))) ∧
    Hid (L=[]∨∃c' o',a=some ⟨c',o',none⟩∧c'≠c∧c'<w'.heap.size∧∀j v,((L).flatMap bP)[j]?=some v→w'.cell? ⟨c',o'+j,none⟩=some v):=fun W hL hB=>by
   have h:=(ZP p hp).1
   rw[←HLL.out]at h
   unfold aX at h
   refine Calls.mono (callsIn_wide.1 (h W #[.agg pcs] (HGL.out hL.out) (.cons (.agg (cd hpc)) .nil))) ?_
   rintro e w' ⟨x,rfl,hb,hx⟩
   cases hx with
   |list hn hE hS hT hC =>
   rename_i a n' cap cs
   subst hn
   have hcs:=dH hE
   refine⟨a,cap,rfl,hL.out.below hb,(hb.block _ (aB hB.out)).trans hB.out,?_⟩
   by_cases hl:L=[]
   ·exact .inl hl
   rcases hS with h0|⟨c',o',ha,hat,_⟩
   ·refine .inl ?_
    have:=cZ (L)
    rw[←hcs,h0]at this
    exact List.eq_nil_of_length_eq_zero (by simp at this;omega)
   ·have hpos:0<((L).flatMap bP).length:=by
     rw[cZ]
     have:(L).length≠0:=fun e=>hl (List.eq_nil_of_length_eq_zero e)
     omega
    have h00:=hat 0 _ (by rw[hcs];exact I' hpos)
    have hge:W.heap.size≤c'∧c'<w'.heap.size:=h00.2
    have hcW:c<W.heap.size:=aB hL.out.cell
    exact .inr ⟨c',o',ha,by omega,hge.2,fun j v hj=>(hat j v (by rw[hcs];exact hj)).1⟩
  have K40:Aside _:=c15;have K21:Aside _:=c16;clear c15 c16;have C24:=Lib.hid (c24 _ HL2 HB2);have LD:Aside (∀W:World,Hid (W.heap[w.heap.size]?=some (.cells pcs 31 (0,0)))→Sem.run Tryz.prog (loadCellsFrom { block:=w.heap.size,off:=0,spot:=none } 0 sz #[]) W=.ok pcs W):=fun W hB=>ez hB.out HLEN.out;have TU:Aside (∀W:World,Hid (W.heap[w.heap.size]?=some (.cells pcs 31 (0,0)))→W.cell? ⟨w.heap.size,0,none⟩=some (.int .u8 p.variant)∧W.cell? ⟨w.heap.size,78,none⟩=some (.int .u8 p.aa)):=fun W hB=>by have h:=wz hpc;rw[aw hB.out,aw hB.out];simpa using h
  clear c24;go_enter Tryz.func43,Tryz.ntmps43;go_wp2_with fail;refine C24.out.mono ?_;rintro e w3 ⟨rfl,hL3,hB3⟩;have hL3a:Hid (fx w c ty (k+1) (w3.alloc (Obj.cells #[Value.int .u8 st,Value.int .u8 why] 40))):=hL3.out.alloc _;have hB3a:Hid ((w3.alloc (Obj.cells #[Value.int .u8 st,Value.int .u8 why] 40)).heap[w.heap.size]?=some (.cells pcs 31 (0,0))):=(Below.heap_alloc _ _ _ (aB hB3.out)).trans hB3.out;have l3:=LD.out _ hB3a;have t3:=TU.out _ hB3a;obtain⟨tv3,tt3⟩:=t3;clear l2 hcell0 hfr0 hcell hfr hcell2 hcell3;by_cases s0:st=0
  ·subst s0;have hb0:((jo p).1 != 0)=false:=by rw[hst];rfl
   have HB0:=Lib.hid hb0;clear hb0;go_wp2_with fail;refine(K40.out _ hL3a hB3a).mono ?_;rintro e w4 ⟨rfl,hL4,WY⟩;clear l3 tv3 tt3;have l4:=LD.out _ WY;obtain⟨tv4,tt4⟩:=TU.out _ WY;by_cases hz:n=0
   ·have hN0:(N==0)=true:=by have:=HN.out;rw[this,hz];rfl
    have hlook:bM n p k=some (ev,k+1):=by rw[HEV.out];subst hz;unfold bM;rw[if_neg (by omega),HB0.out];rfl
    have HLK:=Lib.hid hlook;clear hlook hz;go_wp2_with fail;go_ret;unfold gv;rw[HLK.out];exact⟨rfl,hL4.out⟩
   ·obtain⟨n',hn'⟩:∃n',n=n'+1:=⟨n-1,by omega⟩;have hN0:(N==0)=false:=beq_eq_false_iff_ne.2 (by have:=HN.out;omega);have hlook:bM n p k=L.foldl (fX (bM n') p) (some (px p,k+1)):=by
     rw[HLL.out];subst hn';conv=>lhs;unfold bM
     rw[if_neg (by omega),HB0.out];rfl
    have HLK:=Lib.hid hlook;have HGS:Aside (GS n'):=hG n' hn';have HN1:Hid (N=(n':Int)+1):=by show _=_;have:=HN.out;omega
    clear hlook hz hn';go_wp2_with fail;refine(K21.out _ hL4 WY).mono ?_;rintro e w5 ⟨a5,cap5,rfl,hL5,hB5,hR5⟩;clear l4 tv4 tt4;obtain⟨tv5,tt5⟩:=TU.out _ hB5;cases bv:(p.variant==4)with
    |true =>
     by_cases hpos:0<L.length
     ·have hbt:px p = -30001:=by unfold px;rw[←HLL.out,bv,decide_eq_true hpos];rfl
      have HBT:=Lib.hid hbt;have hpz:(0:Int)<(L.length:Int):=by omega
      clear hbt hpos;go_wp2_with fail;go_loopg [8,56] (L.length) (fun kx s8 MA wr=>∃(i:Nat) (best k2:Int),s8=.int .i64 best∧MA=.int .i64 i∧kx+i=L.length∧0≤k2∧k2≤200000∧Hid (fx w5 c ty k2 wr)∧Hid ((L.drop i).foldl (fX (bM n') p) (some (best,k2))=bM n p k));case atStart=>exact⟨0,_,k+1,rfl,rfl,by omega,by omega,by omega,fx.refl hL5.out.cell,by show _=_;rw[HLK.out,HBT.out];rfl⟩
      case round =>
       obtain⟨i,best,k2,rfl,rfl,hi,hk20,hk21,hLr,HE⟩:=hrel;have HI:=Lib.hid hi;cases gk with
       |zero =>
        have hlt:¬(i:Int)<(L.length:Int):=by omega
        have hres:bM n p k=some (best,k2):=by have:=HE.out;rw[List.drop_of_length_le (by omega)]at this;exact this.symm
        have HRES:=Lib.hid hres;clear hres;go_wp2_with fail;go_ret;unfold gv;rw[HRES.out];dsimp only;exact⟨rfl,hL5.out.trans hLr.out⟩
       |succ kx =>
        have hlt:(i:Int)<(L.length:Int):=by omega
        have hil:i<L.length:=by omega
        have hiw:wrap64 ((i:Int)+1)=(i:Int)+1:=by have:=HLB.out;unfold wrap64;omega
        obtain⟨m,hm⟩:∃m,m=L[i]:=⟨_,rfl⟩;have hdrop:L.drop i=m::L.drop (i+1):=by rw[hm];exact List.drop_eq_getElem_cons hil
        have hE2:(L.drop (i+1)).foldl (fX (bM n') p) (fX (bM n') p (some (best,k2)) m)=bM n p k:=by have:=HE.out;rw[hdrop,List.foldl_cons]at this;exact this
        have HE2:=Lib.hid hE2;obtain⟨mc,hmc⟩:∃mc,mc=(bP m).toArray:=⟨_,rfl⟩;have hml:mc.toList.length=s944:=by rw[hmc];exact H944.out.symm
        have hne2:L≠[]:=fun e=>by rw[e]at hil;simp at hil
        obtain⟨c',o',ha5,hcc,hcs5,hat⟩:=hR5.out.resolve_left hne2;have he:Sem.run Tryz.prog (loadCellsFrom ⟨c',o'+i*s944,none⟩ 0 s944 #[]) wr=.ok mc wr:=by
         have h:=run_loadCellsFrom_list Tryz.prog wr ⟨c',o'+i*s944,none⟩ mc.toList s944 hml (fun j v hj=>by
          have hj5:j<5:=by have:=(C'.1 hj).1;rw[hml,H944.out]at this;exact this
          have h2:=hat (i*5+j) v (by
           rw[eE L i j hil hj5]
           have eb:L[i]! = L[i]:=by simp[hil]
           rw[eb,←hm]
           rw[hmc]at hj
           exact hj)
          rw[Addr.add_lit,b9 (hLr.out.other c' hcs5 hcc),H944.out,Nat.add_assoc]
          exact h2)
         simpa using h
        subst ha5;have hBr:Hid (wr.heap[w.heap.size]?=some (.cells pcs 31 (0,0))):=(hLr.out.other _ (aB hB5.out) (by have:=HCW.out;omega)).trans hB5.out;have hgrc:c<wr.heap.size:=aB hLr.out.cell
        have hst44:=run_storeCells_cells (P:=Tryz.prog) wr.heap.size 0 mc.toList 0 (wr.alloc (Obj.cells zs44 47)) (fun j hj=>by
         rw[aw (heap_alloc_new wr _)]
         rw[hml]at hj
         rw[Array.getElem?_eq_getElem (by rw[HZ44.out];omega)]
         rfl) (fun j hj=>bQ (heap_alloc_new wr _)) (by rw[hmc];exact qk m)
        have hin:=World.cell?_setCells_in wr.heap.size mc.toList 0 (wr.alloc (Obj.cells zs44 47)) (fun j hj=>by
         rw[aw (heap_alloc_new wr _)]
         rw[hml]at hj
         rw[Array.getElem?_eq_getElem (by rw[HZ44.out];omega)]
         rfl)
        have hmsz:mc.size=s944:=by simpa using hml
        have lm:Sem.run Tryz.prog (loadCellsFrom { block:=wr.heap.size,off:=0,spot:=none } 0 s944 #[]) ((wr.alloc (Obj.cells zs44 47)).setCells wr.heap.size 0 mc.toList)=.ok mc ((wr.alloc (Obj.cells zs44 47)).setCells wr.heap.size 0 mc.toList):=by
         have h:=run_loadCellsFrom_list Tryz.prog ((wr.alloc (Obj.cells zs44 47)).setCells wr.heap.size 0 mc.toList) ⟨wr.heap.size,0,none⟩ mc.toList s944 hml (fun j v hj=>by
          have hlt:=(C'.1 hj).1
          have h2:=hin j hlt
          rw[Addr.add_lit,h2]
          rw[I' hlt]at hj
          exact hj)
         simpa using h
        have hb3:RowKit.Below wr.heap.size wr ((wr.alloc (Obj.cells zs44 47)).setCells wr.heap.size 0 mc.toList):=by
         have e:∀(vs:List Value) (o:Nat) (W:World),RowKit.Below wr.heap.size wr W→RowKit.Below wr.heap.size wr (W.setCells wr.heap.size o vs):=by
          intro vs;induction vs with
          |nil=>intro o W h;exact h
          |cons v vs ih=>intro o W h;exact ih _ _ (h.setCell (Nat.le_refl _) v)
         exact e _ _ _ ((Below.refl _ wr).alloc (Nat.le_refl _) _)
        have hLx:Hid (fx w5 c ty k2 ((wr.alloc (Obj.cells zs44 47)).setCells wr.heap.size 0 mc.toList)):=hLr.out.below hb3;have hBx:Hid (((wr.alloc (Obj.cells zs44 47)).setCells wr.heap.size 0 mc.toList).heap[w.heap.size]?=some (.cells pcs 31 (0,0))):=(hb3.block _ (aB hBr.out)).trans hBr.out;have lx:=LD.out _ hBx;have hcall:=HGS.out p hp m k2 hk20 hk21 c ty _ (HGL.out (hL5.out.trans hLx.out)) hLx.out.cell pcs (cd hpc);rw[←hmc,←HN1.out]at hcall;have HCALL:=Lib.hid hcall;have HAT:=Lib.hid hat;clear hcall hE2 hdrop hm hmc hml hin hb3 hat hcs5 HE hBr hgrc;go_wp2_with fail;refine HCALL.out.mono ?_;intro e w7 hP;unfold gv uF at hP;cases hr:bM n' (du p m).1 k2 with
        |none =>
         rw[hr]at hP;obtain⟨rfl,hL7⟩:=hP;have hres:bM n p k=none:=by have this:=HE2.out;rw[pP hr,j9]at this;exact this.symm
         have HRES:=Lib.hid hres;have HL7:=Lib.hid hL7;clear hres hL7 he hst44 lm lx;go_wp2_with fail;refine⟨rfl,?_⟩;unfold gv;rw[HRES.out];exact⟨rfl,(hL5.out.trans hLx.out).trans HL7.out⟩
        |some x =>
         rw[hr]at hP;obtain⟨rfl,hL7⟩:=hP;obtain⟨x1,x2⟩:=x;have hkk:=zQ n' _ _ _ hr;have HKK:Hid (k2<x2∧x2≤200000):=hkk;have hE3:(L.drop (i+1)).foldl (fX (bM n') p) (some (max best (iw x1),x2))=bM n p k:=by have:=HE2.out;rw[pL hr]at this;exact this
         dsimp only at hL7 hkk⊢;obtain⟨g1,hg1⟩:∃g1,g1=iw x1:=⟨_,rfl⟩;rw[←hg1]at hE3⊢;have HE3:=Lib.hid hE3;have HL7:=Lib.hid hL7;clear hE3 hL7 he hst44 lm lx hg1;go_wp2_with fail;go_roundg kx;case measure=>omega
         case rel=>exact⟨i+1,max best g1,x2,rfl,by go_num,by have:=HI.out;omega,by have:=HKK.out;omega,HKK.out.2,hLx.out.trans HL7.out,HE3.out⟩
     ·have hbt:px p=ev:=by unfold px;rw[←HLL.out,bv,decide_eq_false hpos,Bool.and_false,cond_false,HEV.out]
      have HBT:=Lib.hid hbt;have hpz:¬(0:Int)<(L.length:Int):=by omega
      clear hbt hpos;go_wp2_with fail;go_loopg [8,56] (L.length) (fun kx s8 MA wr=>∃(i:Nat) (best k2:Int),s8=.int .i64 best∧MA=.int .i64 i∧kx+i=L.length∧0≤k2∧k2≤200000∧Hid (fx w5 c ty k2 wr)∧Hid ((L.drop i).foldl (fX (bM n') p) (some (best,k2))=bM n p k));case atStart=>exact⟨0,_,k+1,rfl,rfl,by omega,by omega,by omega,fx.refl hL5.out.cell,by show _=_;rw[HLK.out,HBT.out];rfl⟩
      case round =>
       obtain⟨i,best,k2,rfl,rfl,hi,hk20,hk21,hLr,HE⟩:=hrel;have HI:=Lib.hid hi;cases gk with
       |zero =>
        have hlt:¬(i:Int)<(L.length:Int):=by omega
        have hres:bM n p k=some (best,k2):=by have:=HE.out;rw[List.drop_of_length_le (by omega)]at this;exact this.symm
        have HRES:=Lib.hid hres;clear hres;go_wp2_with fail;go_ret;unfold gv;rw[HRES.out];dsimp only;exact⟨rfl,hL5.out.trans hLr.out⟩
       |succ kx=>exfalso;omega
    |false =>
     have hbt:px p=ev:=by unfold px;rw[bv,Bool.false_and,cond_false,HEV.out]
     have HBT:=Lib.hid hbt;clear hbt;go_wp2_with fail;go_loopg [8,56] (L.length) (fun kx s8 MA wr=>∃(i:Nat) (best k2:Int),s8=.int .i64 best∧MA=.int .i64 i∧kx+i=L.length∧0≤k2∧k2≤200000∧Hid (fx w5 c ty k2 wr)∧Hid ((L.drop i).foldl (fX (bM n') p) (some (best,k2))=bM n p k));case atStart=>exact⟨0,_,k+1,rfl,rfl,by omega,by omega,by omega,fx.refl hL5.out.cell,by show _=_;rw[HLK.out,HBT.out];rfl⟩
     case round =>
      obtain⟨i,best,k2,rfl,rfl,hi,hk20,hk21,hLr,HE⟩:=hrel;have HI:=Lib.hid hi;cases gk with
      |zero =>
       have hlt:¬(i:Int)<(L.length:Int):=by omega
       have hres:bM n p k=some (best,k2):=by have:=HE.out;rw[List.drop_of_length_le (by omega)]at this;exact this.symm
       have HRES:=Lib.hid hres;clear hres;go_wp2_with fail;go_ret;unfold gv;rw[HRES.out];dsimp only;exact⟨rfl,hL5.out.trans hLr.out⟩
      |succ kx =>
       have hlt:(i:Int)<(L.length:Int):=by omega
       have hil:i<L.length:=by omega
       have hiw:wrap64 ((i:Int)+1)=(i:Int)+1:=by have:=HLB.out;unfold wrap64;omega
       obtain⟨m,hm⟩:∃m,m=L[i]:=⟨_,rfl⟩;have hdrop:L.drop i=m::L.drop (i+1):=by rw[hm];exact List.drop_eq_getElem_cons hil
       have hE2:(L.drop (i+1)).foldl (fX (bM n') p) (fX (bM n') p (some (best,k2)) m)=bM n p k:=by have:=HE.out;rw[hdrop,List.foldl_cons]at this;exact this
       have HE2:=Lib.hid hE2;obtain⟨mc,hmc⟩:∃mc,mc=(bP m).toArray:=⟨_,rfl⟩;have hml:mc.toList.length=s944:=by rw[hmc];exact H944.out.symm
       have hne2:L≠[]:=fun e=>by rw[e]at hil;simp at hil
       obtain⟨c',o',ha5,hcc,hcs5,hat⟩:=hR5.out.resolve_left hne2;have he:Sem.run Tryz.prog (loadCellsFrom ⟨c',o'+i*s944,none⟩ 0 s944 #[]) wr=.ok mc wr:=by
        have h:=run_loadCellsFrom_list Tryz.prog wr ⟨c',o'+i*s944,none⟩ mc.toList s944 hml (fun j v hj=>by
         have hj5:j<5:=by have:=(C'.1 hj).1;rw[hml,H944.out]at this;exact this
         have h2:=hat (i*5+j) v (by
          rw[eE L i j hil hj5]
          have eb:L[i]! = L[i]:=by simp[hil]
          rw[eb,←hm]
          rw[hmc]at hj
          exact hj)
         rw[Addr.add_lit,b9 (hLr.out.other c' hcs5 hcc),H944.out,Nat.add_assoc]
         exact h2)
        simpa using h
       subst ha5;have hBr:Hid (wr.heap[w.heap.size]?=some (.cells pcs 31 (0,0))):=(hLr.out.other _ (aB hB5.out) (by have:=HCW.out;omega)).trans hB5.out;have hgrc:c<wr.heap.size:=aB hLr.out.cell
       have hst44:=run_storeCells_cells (P:=Tryz.prog) wr.heap.size 0 mc.toList 0 (wr.alloc (Obj.cells zs44 47)) (fun j hj=>by
        rw[aw (heap_alloc_new wr _)]
        rw[hml]at hj
        rw[Array.getElem?_eq_getElem (by rw[HZ44.out];omega)]
        rfl) (fun j hj=>bQ (heap_alloc_new wr _)) (by rw[hmc];exact qk m)
       have hin:=World.cell?_setCells_in wr.heap.size mc.toList 0 (wr.alloc (Obj.cells zs44 47)) (fun j hj=>by
        rw[aw (heap_alloc_new wr _)]
        rw[hml]at hj
        rw[Array.getElem?_eq_getElem (by rw[HZ44.out];omega)]
        rfl)
       have hmsz:mc.size=s944:=by simpa using hml
       have lm:Sem.run Tryz.prog (loadCellsFrom { block:=wr.heap.size,off:=0,spot:=none } 0 s944 #[]) ((wr.alloc (Obj.cells zs44 47)).setCells wr.heap.size 0 mc.toList)=.ok mc ((wr.alloc (Obj.cells zs44 47)).setCells wr.heap.size 0 mc.toList):=by
        have h:=run_loadCellsFrom_list Tryz.prog ((wr.alloc (Obj.cells zs44 47)).setCells wr.heap.size 0 mc.toList) ⟨wr.heap.size,0,none⟩ mc.toList s944 hml (fun j v hj=>by
         have hlt:=(C'.1 hj).1
         have h2:=hin j hlt
         rw[Addr.add_lit,h2]
         rw[I' hlt]at hj
         exact hj)
        simpa using h
       have hb3:RowKit.Below wr.heap.size wr ((wr.alloc (Obj.cells zs44 47)).setCells wr.heap.size 0 mc.toList):=by
        have e:∀(vs:List Value) (o:Nat) (W:World),RowKit.Below wr.heap.size wr W→RowKit.Below wr.heap.size wr (W.setCells wr.heap.size o vs):=by
         intro vs;induction vs with
         |nil=>intro o W h;exact h
         |cons v vs ih=>intro o W h;exact ih _ _ (h.setCell (Nat.le_refl _) v)
        exact e _ _ _ ((Below.refl _ wr).alloc (Nat.le_refl _) _)
       have hLx:Hid (fx w5 c ty k2 ((wr.alloc (Obj.cells zs44 47)).setCells wr.heap.size 0 mc.toList)):=hLr.out.below hb3;have hBx:Hid (((wr.alloc (Obj.cells zs44 47)).setCells wr.heap.size 0 mc.toList).heap[w.heap.size]?=some (.cells pcs 31 (0,0))):=(hb3.block _ (aB hBr.out)).trans hBr.out;have lx:=LD.out _ hBx;have hcall:=HGS.out p hp m k2 hk20 hk21 c ty _ (HGL.out (hL5.out.trans hLx.out)) hLx.out.cell pcs (cd hpc);rw[←hmc,←HN1.out]at hcall;have HCALL:=Lib.hid hcall;have HAT:=Lib.hid hat;clear hcall hE2 hdrop hm hmc hml hin hb3 hat hcs5 HE hBr hgrc;go_wp2_with fail;refine HCALL.out.mono ?_;intro e w7 hP;unfold gv uF at hP;cases hr:bM n' (du p m).1 k2 with
       |none =>
        rw[hr]at hP;obtain⟨rfl,hL7⟩:=hP;have hres:bM n p k=none:=by have this:=HE2.out;rw[pP hr,j9]at this;exact this.symm
        have HRES:=Lib.hid hres;have HL7:=Lib.hid hL7;clear hres hL7 he hst44 lm lx;go_wp2_with fail;refine⟨rfl,?_⟩;unfold gv;rw[HRES.out];exact⟨rfl,(hL5.out.trans hLx.out).trans HL7.out⟩
       |some x =>
        rw[hr]at hP;obtain⟨rfl,hL7⟩:=hP;obtain⟨x1,x2⟩:=x;have hkk:=zQ n' _ _ _ hr;have HKK:Hid (k2<x2∧x2≤200000):=hkk;have hE3:(L.drop (i+1)).foldl (fX (bM n') p) (some (max best (iw x1),x2))=bM n p k:=by have:=HE2.out;rw[pL hr]at this;exact this
        dsimp only at hL7 hkk⊢;obtain⟨g1,hg1⟩:∃g1,g1=iw x1:=⟨_,rfl⟩;rw[←hg1]at hE3⊢;have HE3:=Lib.hid hE3;have HL7:=Lib.hid hL7;clear hE3 hL7 he hst44 lm lx hg1;go_wp2_with fail;go_roundg kx;case measure=>omega
        case rel=>exact⟨i+1,max best g1,x2,rfl,by go_num,by have:=HI.out;omega,by have:=HKK.out;omega,HKK.out.2,hLx.out.trans HL7.out,HE3.out⟩
  ·have hs0:(st==0)=false:=beq_eq_false_iff_ne.2 s0;have hlook:bM n p k=some (nO p,k+1):=by
    have hb:((jo p).1 != 0)=true:=by rw[hst];show(!(st==0))=true;rw[hs0];rfl
    cases n<;>(unfold bM;rw[if_neg (by omega),hb];rfl)
   have HLK:=Lib.hid hlook;clear hlook;by_cases s3:st=3
   ·have hend:nO p=0:=by unfold nO;rw[hst,s3];rfl
    have HE:=Lib.hid hend;clear hend;subst s3;go_wp2_with fail;go_ret;unfold gv;rw[HLK.out,HE.out];exact⟨rfl,hL3a.out⟩
   ·have hs3:(st==3)=false:=beq_eq_false_iff_ne.2 s3;obtain⟨tw,htw⟩:∃tw,tw=wr .u8 (1+p.aa):=⟨_,rfl⟩;by_cases s1:st=tw
    ·have hend:nO p=30000:=by unfold nO;rw[hst];dsimp only;rw[hs3,←htw,s1];simp
     have HE:=Lib.hid hend;have hww:IntKind.u8.wrap (1+p.aa)=st:=by rw[s1,htw];rfl
     clear hend htw s1;go_wp2_with fail;go_ret;unfold gv;rw[HLK.out,HE.out];exact⟨rfl,hL3a.out⟩
    ·have hend:nO p = -30000:=by unfold nO;rw[hst];dsimp only;rw[hs3,←htw,beq_eq_false_iff_ne.2 s1];rfl
     have HE:=Lib.hid hend;have hww:IntKind.u8.wrap (1+p.aa)=tw:=by rw[htw];rfl
     have hs1:(st==tw)=false:=beq_eq_false_iff_ne.2 s1;clear hend htw;go_wp2_with fail;go_ret;unfold gv;rw[HLK.out,HE.out];exact⟨rfl,hL3a.out⟩
end Go.Proofs
namespace Kz
open Go Go.RowKit Go.Proofs
def aep:KT:=[(255,22,[(0,[0,1]),(1,[0,1,11]),(2,[4]),(3,[0,1,5]),(4,[0,1,5,14]),(5,[0,1,5]),(6,[0,1,5]),(7,[4])])]
def ab4:ar:=bO Pz aep [] [] []
theorem UT:aO ab4:=af ae trivial trivial trivial
def PC (p1:Int)(x:((BitVec 64)×Int)):St:=St.mk (.u64 x.1::.int .i64 p1::(an 3 (.int .i64 x.2::(an 16 [])))) (Hp.mk [] [] [] 0 0 0)
def NS (p1:Int):((BitVec 64)×Int×Bool)→Out:=fun y=>.exit 0 (St.mk (.u64 y.1::.int .i64 p1::(an 3 (.int .i64 y.2.1::(an 8 (.bool y.2.2::(an 7 [])))))) (Hp.mk [] [] [] 0 0 0))
def TY (p1:Int)(x:((BitVec 64)×Int)):aG ((BitVec 64)×Int) (((BitVec 64)×Int×Bool)):=(bif decide (x.2<p1)then(aG.go (x.1 / 2#64,wr .i64 (x.2+1)))else(aG.out ((x.1,x.2,decide (x.2<p1)))))
def LS (p1:Int)(x:((BitVec 64)×Int)):Bool:=(bif decide (x.2<p1)then(!2#64==0#64&&true)else true)
def qg (p1:Int)(x:((BitVec 64)×Int)):Option (((BitVec 64)×Int×Bool)):=cW (fun x=>bif LS p1 x then TY p1 x else .bad) many x
abbrev OI {α:Type}(k:Int→((BitVec 64)×Int)→α)(s:St):α:=k (tI (tT s 1)) ((tU (tT s 0)),(tI (tT s 5)))
theorem X0 (p1:Int)(x:((BitVec 64)×Int))(r:((BitVec 64)×Int×Bool))(h:qg p1 x=some r):aC Pz (bc Pz 255 4) (PC p1 x) (NS p1 r):=smq (m:=12) (fn:=255) UT (OI fun _ x=>some x) (fun o=>match o with | .exit 0 s=>some ((tU (tT s 0)),(tI (tT s 5)),(tB (tT s 14)))|_=>none) many x r h
def Mm (b:Code)(s:St):Tr Out:=OI (fun p1 x=>jS b (bc Pz 255 4) s (PC p1 x) (qg p1 x) (NS p1)) s
theorem R5:∀b,aT Pz b (Mm b):=fun _ _ _ h=>bF (X0 _ _) h
def arW:ar:=bO Pz aep [] [(255,4,Mm)] []
theorem acO:aO arW:=af ae trivial ⟨R5,trivial⟩ trivial
def Cx (a:BitVec 64)(b:Int):Bool:=(bif decide (b<0)then(false)else(bif decide (b>63)then(false)else(((qg b (a,0)).getD default).1%2#64==1#64)))
def xO (a:BitVec 64)(b:Int):Bool:=(bif decide (b<0)then true else(bif decide (b>63)then true else((qg b (a,0)).isSome&&(!2#64==0#64&&true))))
theorem ap3 (a:BitVec 64)(b:Int)(h:xO a b=true):PS Pz 255 [.u64 a,.int .i64 b] (dB.res (Cx a b)):=pq14 acO h
def S7:GT:=g2 dU (dI .i64) (fun a b=>b7 (xO a b) (dB.res (Cx a b)))
theorem abn:Sound Pz 255 S7:=aP fun a b=>aA (ap3 a b)
def ahl:KT:=[(222,17,[(0,[0]),(1,[0,3]),(2,[0,3,4]),(3,[0,3,4,6]),(4,[0,3,4]),(5,[0,3,4,11]),(6,[0,3,4]),(7,[2])])]
def abz:ar:=bO Pz ahl [(255,S7)] [] []
theorem SW:aO abz:=af ae ⟨abn,trivial⟩ trivial trivial
def LV (p1:(BitVec 64))(p2:Nat)(x:(Z'×Int)):St:=St.mk (.u64 p1::.any::.any::.list (ET.i .i64) x.1 (.own 1)::.int .i64 x.2::(an 12 [])) (Hp.mk [] [p2,x.1.length] [] 0 0 0)
def Pc (p1:(BitVec 64))(p2:Nat):(Z'×Int×Bool)→Out:=fun y=>.exit 0 (St.mk (.u64 p1::.any::.any::.list (ET.i .i64) y.1 (.own 1)::.int .i64 y.2.1::.any::.bool y.2.2::(an 10 [])) (Hp.mk [] [p2,y.1.length] [] 0 0 0))
def Gu (p1:(BitVec 64))(p2:Nat)(x:(Z'×Int)):aG (Z'×Int) ((Z'×Int×Bool)):=(bif decide (x.2<64)then(bif Cx p1 x.2 then(aG.go (x.1++[x.2],wr .i64 (x.2+1)))else(aG.go (x.1,wr .i64 (x.2+1))))else(aG.out ((x.1,x.2,decide (x.2<64)))))
def Dm (p1:(BitVec 64))(p2:Nat)(x:(Z'×Int)):Bool:=(bif decide (x.2<64)then(xO p1 x.2&&(bif Cx p1 x.2 then(x.1.length==x.1.length&&decide (x.1.length+1≤1073741824)&&true)else true))else true)
def pn (p1:(BitVec 64))(p2:Nat)(x:(Z'×Int)):Option ((Z'×Int×Bool)):=cW (fun x=>bif Dm p1 p2 x then Gu p1 p2 x else .bad) many x
abbrev OE {α:Type}(k:(BitVec 64)→Nat→(Z'×Int)→α)(s:St):α:=k (tU (tT s 0)) (tK s 0) ((tL (ET.i .i64) (tT s 3)),(tI (tT s 4)))
theorem YJ (p1:(BitVec 64))(p2:Nat)(x:(Z'×Int))(r:(Z'×Int×Bool))(h:pn p1 p2 x=some r):aC Pz (bc Pz 222 3) (LV p1 p2 x) (Pc p1 p2 r):=smq (m:=12) (fn:=222) SW (OE fun _ _ x=>some x) (fun o=>match o with | .exit 0 s=>some ((tL (ET.i .i64) (tT s 3)),(tI (tT s 4)),(tB (tT s 6)))|_=>none) many x r h
def L8 (b:Code)(s:St):Tr Out:=OE (fun p1 p2 x=>jS b (bc Pz 222 3) s (LV p1 p2 x) (pn p1 p2 x) (Pc p1 p2)) s
theorem Sk:∀b,aT Pz b (L8 b):=fun _ _ _ h=>bF (YJ _ _ _) h
def aoN:ar:=bO Pz ahl [(255,S7)] [(222,3,L8)] []
theorem aik:aO aoN:=af ae ⟨abn,trivial⟩ ⟨Sk,trivial⟩ trivial
def Bk (a:BitVec 64):List Int:=(((pn a 0 ([],0)).getD default).1)
def Cm (a:BitVec 64):Bool:=((pn a 0 ([],0)).isSome&&true)
theorem arQ (a:BitVec 64)(h:Cm a=true):PS Pz 222 [.u64 a] ((dL (.i .i64)).res (Bk a)):=pq14 aik h
def aec:GT:=g1 dU (fun a=>b7 (Cm a) ((dL (.i .i64)).res (Bk a)))
theorem auj:Sound Pz 222 aec:=aH fun a=>aA (arQ a)
def aps:KT:=[(219,11,[(0,[0]),(1,[4]),(2,[2])]),(220,25,[(0,[0,2]),(1,[0,2,4]),(2,[0,2,4,5]),(3,[0,2,4,5,10]),(4,[0,2,4,5]),(5,[0,2,4,5,19]),(6,[2,3]),(7,[2,3])]),(252,14,[(0,[]),(1,[0])])]
def amw:ar:=bO Pz aps [] [] []
theorem afQ:aO amw:=af ae trivial trivial trivial
def qT (a:Int):Bool:=(bif 1==a then(true)else(bif 2==a then(true)else(bif 3==a then(true)else(bif 4==a then(true)else(bif 5==a then(true)else(bif 6==a then(true)else(bif 9==a then(true)else(bif 10==a then(true)else(bif 11==a then(true)else(bif 12==a then(true)else(bif 13==a then(true)else(bif 14==a then(true)else(false)))))))))))))
def XA (a:Int):Bool:=true
theorem asK (a:Int)(h:XA a=true):PS Pz 219 [.int .u8 a] (dB.res (qT a)):=pq14 afQ h
def ajk:GT:=g1 (dI .u8) (fun a=>.ret (dB.res (qT a)))
theorem ant:Sound Pz 219 ajk:=aH fun a=>bH (asK a rfl)
def anj:KT:=[(163,23,[(0,[1,2]),(1,[1,2,18]),(2,[4]),(3,[4])])]
def aod:ar:=bO Pz anj [(219,ajk)] [] []
theorem ajX:aO aod:=af ae ⟨ant,trivial⟩ trivial trivial
def b8 (a:Pos)(b:Int):Int:=(bif decide (b<0)then(0)else(bif decide (b>63)then(0)else(bif !qT (a.ab.getD (scale 1 b).toNat 0)then(0)else(a.ab.getD (scale 1 b).toNat 0))))
def yJ (a:Pos)(b:Int):Bool:=(bif decide (b<0)then true else(bif decide (b>63)then true else(decide (0≤b)&&decide (b<Int.ofNat 64)&&(XA (a.ab.getD (scale 1 b).toNat 0)&&(bif !qT (a.ab.getD (scale 1 b).toNat 0)then true else(decide (0≤b)&&decide (b<Int.ofNat 64)&&true))))))
theorem apE (a:Pos)(b:Int)(h:yJ a b=true):PS Pz 163 [Pos.av a,.int .i64 b] ((dI .u8).res (b8 a b)):=pq14 ajX h
def I0:GT:=g2 aZ (dI .i64) (fun a b=>b7 (yJ a b) ((dI .u8).res (b8 a b)))
theorem Nu:Sound Pz 163 I0:=aP fun a b=>aA (apE a b)
def atu:KT:=[(220,25,[(0,[0,2]),(1,[0,2,4]),(2,[0,2,4,5]),(3,[0,2,4,5,10]),(4,[0,2,4,5]),(5,[0,2,4,5,19]),(6,[2,3]),(7,[2,3])]),(252,14,[(0,[]),(1,[0])]),(164,12,[(0,[0]),(1,[3]),(2,[2])])]
def apv:ar:=bO Pz atu [] [] []
theorem ad2:aO apv:=af ae trivial trivial trivial
def vk (a:Int):Int:=(bif 1==a then(0)else(bif 2==a then(0)else(bif 3==a then(0)else(bif 4==a then(0)else(bif 5==a then(0)else(bif 6==a then(0)else(bif 9==a then(1)else(bif 10==a then(1)else(bif 11==a then(1)else(bif 12==a then(1)else(bif 13==a then(1)else(bif 14==a then(1)else(2)))))))))))))
def VV (a:Int):Bool:=true
theorem alg (a:Int)(h:VV a=true):PS Pz 164 [.int .u8 a] ((dI .u8).res (vk a)):=pq14 ad2 h
def Jg:GT:=g1 (dI .u8) (fun a=>.ret ((dI .u8).res (vk a)))
theorem MS:Sound Pz 164 Jg:=aH fun a=>bH (alg a rfl)
def asr:KT:=[(220,25,[(0,[0,2]),(1,[0,2,4]),(2,[0,2,4,5]),(3,[0,2,4,5,10]),(4,[0,2,4,5]),(5,[0,2,4,5,19]),(6,[2,3]),(7,[2,3])]),(252,14,[(0,[]),(1,[0])]),(165,12,[(0,[0]),(1,[3]),(2,[2])])]
def aoI:ar:=bO Pz asr [] [] []
theorem aeu:aO aoI:=af ae trivial trivial trivial
def bY (a:Int):Int:=(bif 1==a then(1)else(bif 2==a then(2)else(bif 3==a then(3)else(bif 4==a then(4)else(bif 5==a then(5)else(bif 6==a then(6)else(bif 9==a then(1)else(bif 10==a then(2)else(bif 11==a then(3)else(bif 12==a then(4)else(bif 13==a then(5)else(bif 14==a then(6)else(0)))))))))))))
def XE (a:Int):Bool:=true
theorem ank (a:Int)(h:XE a=true):PS Pz 165 [.int .u8 a] ((dI .u8).res (bY a)):=pq14 aeu h
def Ke:GT:=g1 (dI .u8) (fun a=>.ret ((dI .u8).res (bY a)))
theorem OA:Sound Pz 165 Ke:=aH fun a=>bH (ank a rfl)
def afH:KT:=[(272,19,[(0,[0]),(1,[0,10]),(2,[2]),(3,[0,3]),(4,[0,3,4]),(5,[0,3,4,13]),(6,[0,3,4]),(7,[0,3,4]),(8,[2])])]
def abL:ar:=bO Pz afH [] [] []
theorem Ue:aO abL:=af ae trivial trivial trivial
def QL (p1:Int)(x:((BitVec 64)×Int)):St:=St.mk (.int .i64 p1::.any::.any::.u64 x.1::.int .i64 x.2::(an 14 [])) (Hp.mk [] [] [] 0 0 0)
def On (p1:Int):((BitVec 64)×Int×Bool)→Out:=fun y=>.exit 0 (St.mk (.int .i64 p1::.any::.any::.u64 y.1::.int .i64 y.2.1::(an 8 (.bool y.2.2::(an 5 [])))) (Hp.mk [] [] [] 0 0 0))
def TK (p1:Int)(x:((BitVec 64)×Int)):aG ((BitVec 64)×Int) (((BitVec 64)×Int×Bool)):=(bif decide (x.2<p1)then(aG.go (x.1*2#64,wr .i64 (x.2+1)))else(aG.out ((x.1,x.2,decide (x.2<p1)))))
def Ny (p1:Int)(x:((BitVec 64)×Int)):Bool:=true
def pw (p1:Int)(x:((BitVec 64)×Int)):Option (((BitVec 64)×Int×Bool)):=cW (fun x=>bif Ny p1 x then TK p1 x else .bad) many x
abbrev Lq {α:Type}(k:Int→((BitVec 64)×Int)→α)(s:St):α:=k (tI (tT s 0)) ((tU (tT s 3)),(tI (tT s 4)))
theorem Yh (p1:Int)(x:((BitVec 64)×Int))(r:((BitVec 64)×Int×Bool))(h:pw p1 x=some r):aC Pz (bc Pz 272 5) (QL p1 x) (On p1 r):=smq (m:=12) (fn:=272) Ue (Lq fun _ x=>some x) (fun o=>match o with | .exit 0 s=>some ((tU (tT s 3)),(tI (tT s 4)),(tB (tT s 13)))|_=>none) many x r h
def Lt (b:Code)(s:St):Tr Out:=Lq (fun p1 x=>jS b (bc Pz 272 5) s (QL p1 x) (pw p1 x) (On p1)) s
theorem Vi:∀b,aT Pz b (Lt b):=fun _ _ _ h=>bF (Yh _ _) h
def am9:ar:=bO Pz afH [] [(272,5,Lt)] []
theorem ady:aO am9:=af ae trivial ⟨Vi,trivial⟩ trivial
def QM (a:Int):BitVec 64:=(bif decide (a<0)then(0#64)else(bif decide (a>63)then(0#64)else(((pw a (1#64,0)).getD default).1)))
def Bz (a:Int):Bool:=(bif decide (a<0)then true else(bif decide (a>63)then true else((pw a (1#64,0)).isSome&&true)))
theorem al0 (a:Int)(h:Bz a=true):PS Pz 272 [.int .i64 a] (dU.res (QM a)):=pq14 ady h
def ajs:GT:=g1 (dI .i64) (fun a=>b7 (Bz a) (dU.res (QM a)))
theorem at6:Sound Pz 272 ajs:=aH fun a=>aA (al0 a)
def aoZ:KT:=[(256,13,[(0,[0,1]),(1,[0,1,7]),(2,[4]),(3,[4])])]
def ao3:ar:=bO Pz aoZ [(255,S7),(272,ajs)] [] []
theorem agc:aO ao3:=af ae ⟨abn,at6,trivial⟩ trivial trivial
def DR (a:BitVec 64)(b:Int):BitVec 64:=(bif Cx a b then(a)else(a+QM b))
def xK (a:BitVec 64)(b:Int):Bool:=(xO a b&&(bif Cx a b then true else(Bz b&&true)))
theorem aqR (a:BitVec 64)(b:Int)(h:xK a b=true):PS Pz 256 [.u64 a,.int .i64 b] (dU.res (DR a b)):=pq14 agc h
def abo:GT:=g2 dU (dI .i64) (fun a b=>b7 (xK a b) (dU.res (DR a b)))
theorem ahV:Sound Pz 256 abo:=aP fun a b=>aA (aqR a b)
def aiU:KT:=[(223,39,[(0,[1,2,3]),(1,[1,2,3,7]),(2,[1,2,3,7,8]),(3,[1,2,3,7,8,11]),(4,[1,2,3,7,8]),(5,[1,2,3,7,8,9]),(6,[1,2,3,7,8,34]),(7,[1,2,3,7,8]),(8,[6])])]
def ace:ar:=bO Pz aiU [(163,I0),(164,Jg),(165,Ke),(256,abo)] [] []
theorem RR:aO ace:=af ae ⟨Nu,MS,OA,ahV,trivial⟩ trivial trivial
def Qx (p1:Int)(p2:Int)(p3:Pos)(x:((BitVec 64)×Int)):St:=St.mk (.any::.int .u8 p1::.int .u8 p2::.ptr 0 0::(an 3 (.u64 x.1::.int .i64 x.2::(an 30 [])))) (Hp.mk [(pc p3 [])] [] [] 0 0 0)
def QY (p1:Int)(p2:Int)(p3:Pos):((BitVec 64)×Int×Bool)→Out:=fun y=>.exit 0 (St.mk (.any::.int .u8 p1::.int .u8 p2::.ptr 0 0::(an 3 (.u64 y.1::.int .i64 y.2.1::.any::.any::.bool y.2.2::(an 27 [])))) (Hp.mk [(pc p3 [])] [] [] 0 0 0))
def Gz (p1:Int)(p2:Int)(p3:Pos)(x:((BitVec 64)×Int)):aG ((BitVec 64)×Int) (((BitVec 64)×Int×Bool)):=(bif decide (x.2<64)then(bif b8 p3 x.2 != 0 then(bif vk (b8 p3 x.2)==p1 then(bif p2==0 then(aG.go (DR x.1 x.2,wr .i64 (x.2+1)))else(bif bY (b8 p3 x.2)==p2 then(aG.go (DR x.1 x.2,wr .i64 (x.2+1)))else(aG.go (x.1,wr .i64 (x.2+1)))))else(aG.go (x.1,wr .i64 (x.2+1))))else(aG.go (x.1,wr .i64 (x.2+1))))else(aG.out ((x.1,x.2,decide (x.2<64)))))
def Bm (p1:Int)(p2:Int)(p3:Pos)(x:((BitVec 64)×Int)):Bool:=(bif decide (x.2<64)then(yJ p3 x.2&&(bif b8 p3 x.2 != 0 then(VV (b8 p3 x.2)&&(bif vk (b8 p3 x.2)==p1 then(bif p2==0 then(xK x.1 x.2&&true)else(XE (b8 p3 x.2)&&(bif bY (b8 p3 x.2)==p2 then(xK x.1 x.2&&true)else true)))else true))else true))else true)
def pE (p1:Int)(p2:Int)(p3:Pos)(x:((BitVec 64)×Int)):Option (((BitVec 64)×Int×Bool)):=cW (fun x=>bif Bm p1 p2 p3 x then Gz p1 p2 p3 x else .bad) many x
abbrev PB {α:Type}(k:Int→Int→Pos→((BitVec 64)×Int)→α)(s:St):α:=wP s 0 fun q0=>k (tI (tT s 1)) (tI (tT s 2)) q0 ((tU (tT s 7)),(tI (tT s 8)))
theorem aaT (p1:Int)(p2:Int)(p3:Pos)(x:((BitVec 64)×Int))(r:((BitVec 64)×Int×Bool))(h:pE p1 p2 p3 x=some r):aC Pz (bc Pz 223 3) (Qx p1 p2 p3 x) (QY p1 p2 p3 r):=smq (m:=12) (fn:=223) RR (PB fun _ _ _ x=>some x) (fun o=>match o with | .exit 0 s=>some ((tU (tT s 7)),(tI (tT s 8)),(tB (tT s 11)))|_=>none) many x r h
def QB (b:Code)(s:St):Tr Out:=PB (fun p1 p2 p3 x=>jS b (bc Pz 223 3) s (Qx p1 p2 p3 x) (pE p1 p2 p3 x) (QY p1 p2 p3)) s
theorem TF:∀b,aT Pz b (QB b):=fun _ _ _ h=>bF (aaT _ _ _ _) h
def ao1:ar:=bO Pz aiU [(163,I0),(164,Jg),(165,Ke),(256,abo)] [(223,3,QB)] []
theorem agN:aO ao1:=af ae ⟨Nu,MS,OA,ahV,trivial⟩ ⟨TF,trivial⟩ trivial
def Ck (a:Pos)(b:Int)(c:Int):BitVec 64:=(((pE b c a (0#64,0)).getD default).1)
def DE (a:Pos)(b:Int)(c:Int):Bool:=((pE b c a (0#64,0)).isSome&&true)
theorem alS (a:Pos)(b:Int)(c:Int)(h:DE a b c=true):PS Pz 223 [Pos.av a,.int .u8 b,.int .u8 c] (dU.res (Ck a b c)):=pq14 agN h
def ajS:GT:=g3 aZ (dI .u8) (dI .u8) (fun a b c=>b7 (DE a b c) (dU.res (Ck a b c)))
theorem aoS:Sound Pz 223 ajS:=dc fun a b c=>aA (alS a b c)
def apA:KT:=[(169,19,[(0,[1,2,3]),(1,[7]),(2,[7,15]),(3,[6]),(4,[6])])]
def atb:ar:=bO Pz apA [(222,aec),(223,ajS)] [] []
theorem aij:aO atb:=af ae ⟨auj,aoS,trivial⟩ trivial trivial
def sT (a:Pos)(b:Int)(c:Int):Int:=(bif Int.ofNat (Bk (Ck a b c)).length==0 then(-1)else((Bk (Ck a b c)).getD 0 default))
def CF (a:Pos)(b:Int)(c:Int):Bool:=(DE a b c&&(Cm (Ck a b c)&&(bif Int.ofNat (Bk (Ck a b c)).length==0 then true else(decide (0≤0)&&decide (0<Int.ofNat (Bk (Ck a b c)).length)&&true))))
theorem arl (a:Pos)(b:Int)(c:Int)(h:CF a b c=true):PS Pz 169 [Pos.av a,.int .u8 b,.int .u8 c] ((dI .i64).res (sT a b c)):=pq14 aij h
def Sw:GT:=g3 aZ (dI .u8) (dI .u8) (fun a b c=>b7 (CF a b c) ((dI .i64).res (sT a b c)))
theorem Yg:Sound Pz 169 Sw:=dc fun a b c=>aA (arl a b c)
variable {p:Pos}
theorem US (x:BitVec 64):x / 2#64=x >>> 1:=by apply BitVec.eq_of_toNat_eq;rw[BitVec.toNat_udiv,BitVec.toNat_ushiftRight,Nat.shiftRight_eq_div_pow];rfl
theorem ac2 (x:BitVec 64){s:Nat}(hs:s<64):∃r,qg s (x,0)=some r∧r.1=x >>> s:=by
 refine aQ (I:=fun y=>0≤y.2∧y.2≤(s:Int)∧y.1=x >>> y.2.toNat) (Q:=fun r:BitVec 64×Int×Bool=>r.1=x >>> s) (μ:=fun y=>((s:Int)-y.2).toNat) ?_ _ (by simp_all) (by simp;omega);rintro⟨y,n⟩ ⟨h0,h1,hx⟩;simp only at h0 h1 hx;by_cases h:n<s
 ·refine⟨aq (fun _=>rfl) fun _=>rfl,al (fun _=>?_) fun h2=>absurd h (by simpa using h2)⟩;rw[aF (by omega) (by omega)];refine⟨⟨by dsimp only;omega,by dsimp only;omega,?_⟩,by dsimp only;omega⟩;show y / 2#64=_;rw[US,hx,show(n+1).toNat=n.toNat+1 by omega,BitVec.shiftRight_add]
 ·refine⟨aq (fun _=>rfl) fun _=>rfl,al (fun h2=>absurd (by simpa using h2) h) fun _=>?_⟩;show y=_;grind
theorem GV (x:BitVec 64){s:Nat}(hs:s<64):xO x s=true∧Cx x s=x.getLsbD s:=by
 obtain⟨h1,h2⟩:=aJ (ac2 x hs);have a1:decide ((s:Int)<0)=false:=by simp_all
 have a2:decide ((s:Int)>63)=false:=by grind
 unfold xO Cx;rw[a1,a2,h1,h2];refine⟨rfl,?_⟩;simp only[cond_false];have e:(x >>> s%2#64==1#64)=(x >>> s).getLsbD 0:=by
  have h:(x >>> s%2#64).toNat=(x >>> s).toNat%2:=by rw[BitVec.toNat_umod];rfl
  have k:((x >>> s%2#64)=1#64) ↔ (x >>> s).toNat%2=1:=by rw[←h];exact⟨fun e=>by rw[e];rfl,fun e=>BitVec.eq_of_toNat_eq (by rw[e];rfl)⟩
  rw[BitVec.getLsbD,Nat.testBit_zero];by_cases hk:(x >>> s).toNat%2=1
  ·simp_all
  ·simp_all
 rw[e];simp
theorem aeb {s:Nat}(hs:s<64):∃r,pw s (1#64,0)=some r∧r.1=1#64 <<< s:=by
 refine aQ (I:=fun y=>0≤y.2∧y.2≤(s:Int)∧y.1=1#64 <<< y.2.toNat) (Q:=fun r:BitVec 64×Int×Bool=>r.1=1#64 <<< s) (μ:=fun y=>((s:Int)-y.2).toNat) ?_ _ (by simp_all) (by simp;omega);rintro⟨y,n⟩ ⟨h0,h1,hx⟩;simp only at h0 h1 hx;by_cases h:n<s
 ·refine⟨rfl,al (fun _=>?_) (by simp_all)⟩;rw[aF (by omega) (by omega)];refine⟨⟨by dsimp only;omega,by dsimp only;omega,?_⟩,by dsimp only;omega⟩;show y*2#64=_;rw[hx,show(n+1).toNat=n.toNat+1 by omega,BitVec.shiftLeft_add];apply BitVec.eq_of_toNat_eq;rw[BitVec.toNat_mul,BitVec.toNat_shiftLeft (x:=_ <<< _),Nat.shiftLeft_eq];rfl
 ·refine⟨rfl,al (by grind) fun _=>?_⟩;show y=_;grind
theorem TJ {s:Nat}(hs:s<64):Bz s=true∧QM s=1#64 <<< s:=by
 obtain⟨h1,h2⟩:=aJ (aeb hs);have a1:decide ((s:Int)<0)=false:=by simp_all
 have a2:decide ((s:Int)>63)=false:=by grind
 unfold Bz QM;grind
theorem UF (x:BitVec 64){s:Nat}(hs:s<64):xK x s=true∧∀i,i<64→(DR x s).getLsbD i=(x.getLsbD i ||decide (i=s)):=by
 obtain⟨a,b⟩:=GV x hs;obtain⟨c,d⟩:=TJ hs;unfold xK DR;rw[a,b,c,d];cases h:x.getLsbD s with
 |true =>simp_all
 |false =>refine⟨rfl,fun i hi=>?_⟩;rw[cond_false,BitVec.add_eq_or_of_and_eq_zero,BitVec.getLsbD_or,nL hi];grind
theorem aeD (b:BitVec 64):∃r,pn b 0 ([],0)=some r∧r.1=gF b 64:=by
 refine aQ (I:=fun x=>0≤x.2∧x.2≤64∧x.1=gF b x.2.toNat) (Q:=fun r:List Int×Int×Bool=>r.1=gF b 64) (μ:=fun x=>(64-x.2).toNat) ?_ _ ⟨by simp,by simp,rfl⟩ (by simp);rintro⟨l,n⟩ ⟨h0,h1,hx⟩;simp only at h0 h1 hx;subst hx;have hl:=dC b n.toNat;by_cases h:n<64
 ·obtain⟨k1,k2⟩:=GV b (s:=n.toNat) (by omega);rw[show((n.toNat:Nat):Int)=n by omega]at k1 k2;unfold Dm Gu;dsimp only;rw[k1,k2,decide_eq_true h,aF (by omega) (by omega),beq_self_eq_true,decide_eq_true (show(gF b n.toNat).length+1≤1073741824 by omega)];have e:gF b (n+1).toNat=gF b n.toNat++(bif b.getLsbD n.toNat then[n]else[]):=by rw[show(n+1).toNat=n.toNat+1 by omega];unfold gF;rw[List.range_succ,List.filter_append,List.map_append];cases hb:b.getLsbD n.toNat<;>simp[hb];omega
  cases hb:b.getLsbD n.toNat<;>rw[hb]at e
  ·exact⟨rfl,by grind,by dsimp only;omega⟩
  ·exact⟨rfl,by grind,by dsimp only;omega⟩
 ·refine⟨aq (fun h2=>absurd (by simpa using h2) h) fun _=>rfl,al (fun h2=>absurd (by simpa using h2) h) fun _=>?_⟩;show gF b n.toNat=_;grind
theorem UZ (b:BitVec 64):Cm b=true∧Bk b=gF b 64:=by obtain⟨h1,h2⟩:=aJ (aeD b);unfold Cm Bk;simp_all
def rOf (c k v:Int):Bool:=qT v&&(vk v==c&&bY v==k)
theorem aex:∀(v:Fin 256) (c:Fin 2) (k:Fin 7),k.val≠0→rOf c.val k.val v.val=dv c.val k.val v.val:=by decide +kernel
theorem VF {s:Nat}(hs:s<64):yJ p s=true∧b8 p s=bif qT (p.ab.getD s 0)then p.ab.getD s 0 else 0:=by
 have a1:decide ((s:Int)<0)=false:=by simp_all
 have a2:decide ((s:Int)>63)=false:=by grind
 have a3:decide ((s:Int)<Int.ofNat 64)=true:=by grind
 have a4:(scale 1 (s:Int)).toNat=s:=by unfold scale;omega
 unfold yJ b8;rw[a1,a2,a3,a4,decide_eq_true (show(0:Int)≤s by omega)];cases qT (p.ab.getD s 0)<;>exact⟨rfl,rfl⟩
theorem Ew {v c k:Int}(h0:0≤v)(h1:v≤255)(hc:c=0∨c=1)(k1:1≤k)(k6:k≤6):rOf c k v=dv c k v:=by have:=aex ⟨v.toNat,by omega⟩ ⟨c.toNat,by omega⟩ ⟨k.toNat,by omega⟩ (by grind);grind
theorem adt (hp:ax p){c k:Int}(hc:c=0∨c=1)(k1:1≤k)(k6:k≤6):∃r,pE c k p (0#64,0)=some r∧∀i:Nat,i<64→r.1.getLsbD i=dv c k (p.ab.getD i 0):=by
 refine aQ (I:=fun x=>0≤x.2∧x.2≤64∧∀i:Nat,i<64→x.1.getLsbD i=(decide ((i:Int)<x.2)&&dv c k (p.ab.getD i 0))) (Q:=fun r:BitVec 64×Int×Bool=>∀i:Nat,i<64→r.1.getLsbD i=dv c k (p.ab.getD i 0)) (μ:=fun x=>(64-x.2).toNat) ?_ _ (by grind) (by simp);rintro⟨x,n⟩ ⟨h0,h1,hx⟩;simp only at h0 h1 hx;by_cases h:n<64
 ·obtain⟨s,hs,rfl⟩:∃s:Nat,s<64∧n=s:=⟨n.toNat,by omega,by omega⟩;obtain⟨a1,a2⟩:=VF (p:=p) hs;obtain⟨b1,b2⟩:=UF x hs;have hv:0≤p.ab.getD s 0∧p.ab.getD s 0≤255:=dm hp.b0 (by omega) s;have hr:=Ew (v:=p.ab.getD s 0) hv.1 hv.2 hc k1 k6;unfold rOf at hr;have hk0:(k==0)=false:=by grind
  have z:qT 0=false:=by decide +kernel
  have key:∀(b:Bool) (y:BitVec 64),dv c k (p.ab.getD s 0)=b→(y=bif b then DR x s else x)→xf (fun x:BitVec 64×Int=>0≤x.2∧x.2≤64∧∀i:Nat,i<64→x.1.getLsbD i=(decide ((i:Int)<x.2)&&dv c k (p.ab.getD i 0))) (fun r:BitVec 64×Int×Bool=>∀i:Nat,i<64→r.1.getLsbD i=dv c k (p.ab.getD i 0)) (fun x=>(64-x.2).toNat) (64-(s:Int)).toNat (.go (y,(s:Int)+1)):=by
   intro b y hb hy;refine⟨⟨by dsimp only;omega,by dsimp only;omega,fun i hi=>?_⟩,by dsimp only;omega⟩;dsimp only;have e:y.getLsbD i=(x.getLsbD i ||(decide (i=s)&&b)):=by
    rw[hy];cases b with
    |true=>simp_all
    |false=>simp
   rw[e,hx i hi,←hb];by_cases es:i=s
   ·grind
   ·grind
  unfold Bm Gz;dsimp only;rw[a1,a2,b1,decide_eq_true h,aF (by omega) (by omega),hk0];simp only[cond_true,cond_false,Bool.true_and];cases hz:qT (p.ab.getD s 0)with
  |false =>simp_all
  |true =>
   rw[hz]at hr;have nz:(p.ab.getD s 0 != 0)=true:=by grind
   simp only[cond_true,nz];refine⟨by cases (vk (p.ab.getD s 0)==c)<;>cases (bY (p.ab.getD s 0)==k)<;>rfl,?_⟩;grind
 ·refine⟨aq (fun h2=>absurd (by simpa using h2) h) fun _=>rfl,al (fun h2=>absurd (by simpa using h2) h) fun _=>fun i hi=>?_⟩;grind
theorem Rv (hp:ax p){c k:Int}(hc:c=0∨c=1)(k1:1≤k)(k6:k≤6):DE p c k=true∧Ck p c k=aS p c k:=by obtain⟨h1,h2⟩:=aJ (adt hp hc k1 k6);unfold DE;rw[h1];refine⟨rfl,BitVec.eq_of_getLsbD_eq fun i hi=>?_⟩;rw[bK p c k hi];exact h2 i hi
theorem Tb (hp:ax p){c k:Int}(hc:c=0∨c=1)(k1:1≤k)(k6:k≤6):CF p c k=true∧sT p c k=bg p c k:=by
 obtain⟨a1,a2⟩:=Rv hp hc k1 k6;obtain⟨b1,b2⟩:=UZ (aS p c k);unfold CF sT;rw[a1,a2,b1,b2];rcases gR p c k with⟨e,h⟩|⟨j,hj,e,h1,h2⟩
 ·have:gF (aS p c k) 64=[]:=by rw[ud (k:=0) (by omega) fun i _ hi=>by rw[bK p c k hi];exact h i hi];rfl
  simp_all
 ·obtain⟨l,hl⟩:∃l,gF (aS p c k) 64=(j:Int)::l:=by
   have h3:=C3 (b:=aS p c k) (k:=0) (j:=j) (by omega) (fun i _ hi=>by rw[bK p c k (by omega)];exact h2 i hi) (by rw[bK p c k hj];exact h1);have hr:List.range 64=List.range (j+1)++(List.range (63-j)).map (j+1+·):=by rw[←List.range_add];congr 1;omega
   unfold gF at h3⊢;grind
  grind
def aq1:KT:=[(166,14,[(0,[0]),(1,[3]),(2,[3,4]),(3,[2]),(4,[3,6]),(5,[2]),(6,[3,8]),(7,[2]),(8,[3,10]),(9,[2]),(10,[12]),(11,[2]),(12,[2])])]
def aqK:ar:=bO Pz aq1 [] [] []
theorem adu:aO aqK:=af ae trivial trivial trivial
def dX (a:Int):Int:=(bif a==1 then(100)else(bif a==2 then(320)else(bif a==3 then(330)else(bif a==4 then(500)else(bif a==5 then(900)else(0))))))
def ajG (a:Int):Bool:=true
theorem am4 (a:Int)(h:ajG a=true):PS Pz 166 [.int .u8 a] ((dI .i64).res (dX a)):=pq14 adu h
def Rp:GT:=g1 (dI .u8) (fun a=>.ret ((dI .i64).res (dX a)))
theorem Y1:Sound Pz 166 Rp:=aH fun a=>bH (am4 a rfl)
def agQ:KT:=[(168,17,[(0,[0]),(1,[0,9]),(2,[2]),(3,[0,3]),(4,[0,3,11]),(5,[0,3]),(6,[0,3]),(7,[2])])]
def YE:ar:=bO Pz agQ [] [] []
theorem R9:aO YE:=af ae trivial trivial trivial
def MY  (x:(Int×Int)):St:=St.mk (.int .i64 x.1::.any::.any::.int .i64 x.2::(an 13 [])) (Hp.mk [] [] [] 0 0 0)
def M4  : (Int×Int×Bool)→Out:=fun y=>.exit 0 (St.mk (.int .i64 y.1::.any::.any::.int .i64 y.2.1::(an 7 (.bool y.2.2::(an 5 [])))) (Hp.mk [] [] [] 0 0 0))
def Td  (x:(Int×Int)):aG (Int×Int) ((Int×Int×Bool)):=(bif decide (x.1≥8)then(aG.go (wr .i64 (x.1-8),wr .i64 (x.2+1)))else(aG.out ((x.1,x.2,decide (x.1≥8)))))
def Mg  (x:(Int×Int)):Bool:=true
def tr  (x:(Int×Int)):Option ((Int×Int×Bool)):=cW (fun x=>bif Mg  x then Td  x else .bad) many x
abbrev Mb {α:Type}(k:(Int×Int)→α)(s:St):α:=k ((tI (tT s 0)),(tI (tT s 3)))
theorem abZ  (x:(Int×Int))(r:(Int×Int×Bool))(h:tr  x=some r):aC Pz (bc Pz 168 4) (MY  x) (M4  r):=smq (m:=12) (fn:=168) R9 (Mb fun x=>some x) (fun o=>match o with | .exit 0 s=>some ((tI (tT s 0)),(tI (tT s 3)),(tB (tT s 11)))|_=>none) many x r h
def OU (b:Code)(s:St):Tr Out:=Mb (fun x=>jS b (bc Pz 168 4) s (MY x) (tr x) (M4 )) s
theorem SJ:∀b,aT Pz b (OU b):=fun _ _ _ h=>bF (abZ _) h
def an7:ar:=bO Pz agQ [] [(168,4,OU)] []
theorem aiC:aO an7:=af ae trivial ⟨SJ,trivial⟩ trivial
def eP (a:Int):Int:=(bif decide (a<0)then(-1)else(bif decide (a>63)then(-1)else(((tr (a,0)).getD default).2.1)))
def fV (a:Int):Bool:=(bif decide (a<0)then true else(bif decide (a>63)then true else((tr (a,0)).isSome&&true)))
theorem amS (a:Int)(h:fV a=true):PS Pz 168 [.int .i64 a] ((dI .i64).res (eP a)):=pq14 aiC h
def Lm:GT:=g1 (dI .i64) (fun a=>b7 (fV a) ((dI .i64).res (eP a)))
theorem R3:Sound Pz 168 Lm:=aH fun a=>aA (amS a)
def afB:KT:=[(253,14,[(0,[0]),(1,[0,8]),(2,[2]),(3,[0,10]),(4,[0]),(5,[2])])]
def YR:ar:=bO Pz afB [] [] []
theorem TI:aO YR:=af ae trivial trivial trivial
def Ok  (x:(Int)):St:=St.mk (.int .i64 x::(an 13 [])) (Hp.mk [] [] [] 0 0 0)
def Ko  : (Int×Bool)→Out:=fun y=>.exit 0 (St.mk (.int .i64 y.1::(an 9 (.bool y.2::(an 3 [])))) (Hp.mk [] [] [] 0 0 0))
def Sy  (x:(Int)):aG (Int) ((Int×Bool)):=(bif decide (x≥8)then(aG.go (wr .i64 (x-8)))else(aG.out ((x,decide (x≥8)))))
def L3  (x:(Int)):Bool:=true
def tD  (x:(Int)):Option ((Int×Bool)):=cW (fun x=>bif L3  x then Sy  x else .bad) many x
abbrev O0 {α:Type}(k:(Int)→α)(s:St):α:=k ((tI (tT s 0)))
theorem aat  (x:(Int))(r:(Int×Bool))(h:tD  x=some r):aC Pz (bc Pz 253 3) (Ok  x) (Ko  r):=smq (m:=12) (fn:=253) TI (O0 fun x=>some x) (fun o=>match o with | .exit 0 s=>some ((tI (tT s 0)),(tB (tT s 10)))|_=>none) many x r h
def NA (b:Code)(s:St):Tr Out:=O0 (fun x=>jS b (bc Pz 253 3) s (Ok x) (tD x) (Ko )) s
theorem SI:∀b,aT Pz b (NA b):=fun _ _ _ h=>bF (aat _) h
def aru:ar:=bO Pz afB [] [(253,3,NA)] []
theorem ahU:aO aru:=af ae trivial ⟨SI,trivial⟩ trivial
def xq (a:Int):Int:=(bif decide (a<0)then(-1)else(bif decide (a>63)then(-1)else(((tD a).getD default).1)))
def yH (a:Int):Bool:=(bif decide (a<0)then true else(bif decide (a>63)then true else((tD a).isSome&&true)))
theorem anN (a:Int)(h:yH a=true):PS Pz 253 [.int .i64 a] ((dI .i64).res (xq a)):=pq14 ahU h
def aeF:GT:=g1 (dI .i64) (fun a=>b7 (yH a) ((dI .i64).res (xq a)))
theorem anT:Sound Pz 253 aeF:=aH fun a=>aA (anN a)
def amP:KT:=[(254,14,[(0,[0,1]),(1,[0,1,7]),(2,[4]),(3,[4])])]
def atj:ar:=bO Pz amP [] [] []
theorem ags:aO atj:=af ae trivial trivial trivial
def J7 (a:Int)(b:Int):Int:=(bif decide (a<b)then(wr .i64 (b-a))else(wr .i64 (a-b)))
def afe (a:Int)(b:Int):Bool:=true
theorem at5 (a:Int)(b:Int)(h:afe a b=true):PS Pz 254 [.int .i64 a,.int .i64 b] ((dI .i64).res (J7 a b)):=pq14 ags h
def agH:GT:=g2 (dI .i64) (dI .i64) (fun a b=>.ret ((dI .i64).res (J7 a b)))
theorem aqv:Sound Pz 254 agH:=aP fun a b=>bH (at5 a b rfl)
def apZ:KT:=[(221,30,[(0,[0,1]),(1,[0,1,14]),(2,[4]),(3,[5,6]),(4,[5,6,27]),(5,[4]),(6,[4])])]
def atZ:ar:=bO Pz apZ [(168,Lm),(253,aeF),(254,agH)] [] []
theorem afA:aO atZ:=af ae ⟨R3,anT,aqv,trivial⟩ trivial trivial
def xw (a:Int)(b:Int):Int:=(bif decide (xq a<0)then(-1)else(bif decide (xq b<0)then(-1)else(bif decide (J7 (xq a) (xq b)>J7 (eP a) (eP b))then(J7 (xq a) (xq b))else(J7 (eP a) (eP b)))))
def yk (a:Int)(b:Int):Bool:=(yH a&&(bif decide (xq a<0)then true else(yH b&&(bif decide (xq b<0)then true else(yH a&&(yH b&&(fV a&&(fV b&&true))))))))
theorem aoX (a:Int)(b:Int)(h:yk a b=true):PS Pz 221 [.int .i64 a,.int .i64 b] ((dI .i64).res (xw a b)):=pq14 afA h
def XY:GT:=g2 (dI .i64) (dI .i64) (fun a b=>b7 (yk a b) ((dI .i64).res (xw a b)))
theorem aiA:Sound Pz 221 XY:=aP fun a b=>aA (aoX a b)
def acR:KT:=[(167,29,[(0,[0]),(1,[0,12]),(2,[2]),(3,[0,3]),(4,[0,3,4]),(5,[0,3,4,5]),(6,[0,3,4,5,15]),(7,[0,3,4,5]),(8,[0,3,4,5,6]),(9,(0::(rn 3 4 [26]))),(10,[0,3,4,5]),(11,[2])])]
def abx:ar:=bO Pz acR [(221,XY)] [] []
theorem Vc:aO abx:=af ae ⟨aiA,trivial⟩ trivial trivial
def KV (p1:Int)(x:(Int×Int)):St:=St.mk (.int .i64 p1::.any::.any::.int .i64 x.1::.vlist true [.bj .i64 27,.bj .i64 28,.bj .i64 35,.bj .i64 36]::.int .i64 x.2::(an 23 [])) (Hp.mk [] [] [] 0 0 0)
def Lr (p1:Int):(Int×Int×Bool)→Out:=fun y=>.exit 0 (St.mk (.int .i64 p1::.any::.any::.int .i64 y.1::.vlist true [.bj .i64 27,.bj .i64 28,.bj .i64 35,.bj .i64 36]::.int .i64 y.2.1::(an 9 (.bool y.2.2::(an 13 [])))) (Hp.mk [] [] [] 0 0 0))
def UP (p1:Int)(x:(Int×Int)):aG (Int×Int) ((Int×Int×Bool)):=(bif decide (x.2<4)then(bif x.2==Int.ofNat 0 then(bif decide (xw p1 27<x.1)then(aG.go (xw p1 27,wr .i64 (x.2+1)))else(aG.go (x.1,wr .i64 (x.2+1))))else(bif x.2==Int.ofNat 1 then(bif decide (xw p1 28<x.1)then(aG.go (xw p1 28,wr .i64 (x.2+1)))else(aG.go (x.1,wr .i64 (x.2+1))))else(bif x.2==Int.ofNat 2 then(bif decide (xw p1 35<x.1)then(aG.go (xw p1 35,wr .i64 (x.2+1)))else(aG.go (x.1,wr .i64 (x.2+1))))else(bif decide (xw p1 36<x.1)then(aG.go (xw p1 36,wr .i64 (x.2+1)))else(aG.go (x.1,wr .i64 (x.2+1)))))))else(aG.out ((x.1,x.2,decide (x.2<4)))))
def Nd (p1:Int)(x:(Int×Int)):Bool:=(bif decide (x.2<4)then(decide (0≤x.2)&&decide (x.2<Int.ofNat 4)&&(bif x.2==Int.ofNat 0 then(yk p1 27&&true)else(bif x.2==Int.ofNat 1 then(yk p1 28&&true)else(bif x.2==Int.ofNat 2 then(yk p1 35&&true)else(x.2==Int.ofNat 3&&(yk p1 36&&true))))))else true)
def tx (p1:Int)(x:(Int×Int)):Option ((Int×Int×Bool)):=cW (fun x=>bif Nd p1 x then UP p1 x else .bad) many x
abbrev Ra {α:Type}(k:Int→(Int×Int)→α)(s:St):α:=k (tI (tT s 0)) ((tI (tT s 3)),(tI (tT s 5)))
theorem abP (p1:Int)(x:(Int×Int))(r:(Int×Int×Bool))(h:tx p1 x=some r):aC Pz (bc Pz 167 6) (KV p1 x) (Lr p1 r):=smq (m:=12) (fn:=167) Vc (Ra fun _ x=>some x) (fun o=>match o with | .exit 0 s=>some ((tI (tT s 3)),(tI (tT s 5)),(tB (tT s 15)))|_=>none) many x r h
def Qh (b:Code)(s:St):Tr Out:=Ra (fun p1 x=>jS b (bc Pz 167 6) s (KV p1 x) (tx p1 x) (Lr p1)) s
theorem Rk:∀b,aT Pz b (Qh b):=fun _ _ _ h=>bF (abP _ _) h
def anW:ar:=bO Pz acR [(221,XY)] [(167,6,Qh)] []
theorem ado:aO anW:=af ae ⟨aiA,trivial⟩ ⟨Rk,trivial⟩ trivial
def dQ (a:Int):Int:=(bif decide (a<0)then(-1)else(bif decide (a>63)then(-1)else(((tx a (9,0)).getD default).1)))
def tR (a:Int):Bool:=(bif decide (a<0)then true else(bif decide (a>63)then true else((tx a (9,0)).isSome&&true)))
theorem aqu (a:Int)(h:tR a=true):PS Pz 167 [.int .i64 a] ((dI .i64).res (dQ a)):=pq14 ado h
def UC:GT:=g1 (dI .i64) (fun a=>b7 (tR a) ((dI .i64).res (dQ a)))
theorem ZD:Sound Pz 167 UC:=aH fun a=>aA (aqu a)
def YW:KT:=[(102,128,[(0,[1,2]),(1,[1,2,17]),(2,[4]),(3,[1,2,5]),(4,[1,2,5,6]),(5,[1,2,5,6,19]),(6,[1,2,5,6]),(7,[1,2,5,6,7]),(8,[1,2,5,6,7,32]),(9,[1,2,5,6,8]),(10,[1,2,5,6,8]),(11,[1,2,5,6,8,49]),(12,[1,2,5,6,8]),(13,[1,2,5,6,8,57]),(14,[1,2,5,6,8]),(15,[1,2,5,6,68]),(16,[1,2,5,6]),(17,[1,2,5,9]),(18,[1,2,5,9,79]),(19,[1,2,5,9,79,80]),(20,[1,2,5,10]),(21,[1,2,5,10,83]),(22,[1,2,5,10]),(23,[1,2,5,10]),(24,[1,2,5,9,79,99]),(25,[5]),(26,[5,9,79,109]),(27,[5,9,112]),(28,[5]),(29,[5,9,118]),(30,[5,9,121]),(31,[5]),(32,[4])])]
def aay:ar:=bO Pz YW [(163,I0),(164,Jg),(165,Ke),(166,Rp),(167,UC),(168,Lm),(169,Sw)] [] []
theorem UB:aO aay:=af ae ⟨Nu,MS,OA,Y1,ZD,R3,Yg,trivial⟩ trivial trivial
def Lc (p1:Int)(p2:Pos)(x:(Int×Int)):St:=St.mk (.any::.int .u8 p1::.ptr 0 0::.any::.any::.int .i64 x.1::.int .i64 x.2::(an 121 [])) (Hp.mk [(pc p2 [])] [] [] 0 0 0)
def PI (p1:Int)(p2:Pos):(Int×Int×Bool)→Out:=fun y=>.exit 0 (St.mk (.any::.int .u8 p1::.ptr 0 0::.any::.any::.int .i64 y.1::.int .i64 y.2.1::(an 12 (.bool y.2.2::(an 108 [])))) (Hp.mk [(pc p2 [])] [] [] 0 0 0))
def tF (p1:Int)(p2:Pos)(x:(Int×Int)):aG (Int×Int) ((Int×Int×Bool)):=(bif decide (x.2<64)then(bif b8 p2 x.2==0 then(aG.go (x.1,wr .i64 (x.2+1)))else(bif vk (b8 p2 x.2) != p1 then(aG.go (x.1,wr .i64 (x.2+1)))else(bif bY (b8 p2 x.2)==6 then(bif p2.variant==4 then(bif bY (b8 p2 x.2)==1 then(bif p1==0 then(bif bY (b8 p2 x.2)==1 then(bif p1==1 then(aG.go (wr .i64 (wr .i64 (wr .i64 (wr .i64 (wr .i64 (x.1+dX (bY (b8 p2 x.2)))-wr .i64 (4*dQ x.2))+200)+wr .i64 (6*eP x.2))+wr .i64 (6*wr .i64 (7-eP x.2))),wr .i64 (x.2+1)))else(aG.go (wr .i64 (wr .i64 (wr .i64 (wr .i64 (x.1+dX (bY (b8 p2 x.2)))-wr .i64 (4*dQ x.2))+200)+wr .i64 (6*eP x.2)),wr .i64 (x.2+1))))else(aG.go (wr .i64 (wr .i64 (wr .i64 (wr .i64 (x.1+dX (bY (b8 p2 x.2)))-wr .i64 (4*dQ x.2))+200)+wr .i64 (6*eP x.2)),wr .i64 (x.2+1))))else(bif bY (b8 p2 x.2)==1 then(bif p1==1 then(aG.go (wr .i64 (wr .i64 (wr .i64 (wr .i64 (x.1+dX (bY (b8 p2 x.2)))-wr .i64 (4*dQ x.2))+200)+wr .i64 (6*wr .i64 (7-eP x.2))),wr .i64 (x.2+1)))else(aG.go (wr .i64 (wr .i64 (wr .i64 (x.1+dX (bY (b8 p2 x.2)))-wr .i64 (4*dQ x.2))+200),wr .i64 (x.2+1))))else(aG.go (wr .i64 (wr .i64 (wr .i64 (x.1+dX (bY (b8 p2 x.2)))-wr .i64 (4*dQ x.2))+200),wr .i64 (x.2+1)))))else(bif bY (b8 p2 x.2)==1 then(bif p1==1 then(aG.go (wr .i64 (wr .i64 (wr .i64 (wr .i64 (x.1+dX (bY (b8 p2 x.2)))-wr .i64 (4*dQ x.2))+200)+wr .i64 (6*wr .i64 (7-eP x.2))),wr .i64 (x.2+1)))else(aG.go (wr .i64 (wr .i64 (wr .i64 (x.1+dX (bY (b8 p2 x.2)))-wr .i64 (4*dQ x.2))+200),wr .i64 (x.2+1))))else(aG.go (wr .i64 (wr .i64 (wr .i64 (x.1+dX (bY (b8 p2 x.2)))-wr .i64 (4*dQ x.2))+200),wr .i64 (x.2+1)))))else(bif bY (b8 p2 x.2)==1 then(bif p1==0 then(bif bY (b8 p2 x.2)==1 then(bif p1==1 then(aG.go (wr .i64 (wr .i64 (wr .i64 (wr .i64 (x.1+dX (bY (b8 p2 x.2)))-wr .i64 (4*dQ x.2))+wr .i64 (6*eP x.2))+wr .i64 (6*wr .i64 (7-eP x.2))),wr .i64 (x.2+1)))else(aG.go (wr .i64 (wr .i64 (wr .i64 (x.1+dX (bY (b8 p2 x.2)))-wr .i64 (4*dQ x.2))+wr .i64 (6*eP x.2)),wr .i64 (x.2+1))))else(aG.go (wr .i64 (wr .i64 (wr .i64 (x.1+dX (bY (b8 p2 x.2)))-wr .i64 (4*dQ x.2))+wr .i64 (6*eP x.2)),wr .i64 (x.2+1))))else(bif bY (b8 p2 x.2)==1 then(bif p1==1 then(aG.go (wr .i64 (wr .i64 (wr .i64 (x.1+dX (bY (b8 p2 x.2)))-wr .i64 (4*dQ x.2))+wr .i64 (6*wr .i64 (7-eP x.2))),wr .i64 (x.2+1)))else(aG.go (wr .i64 (wr .i64 (x.1+dX (bY (b8 p2 x.2)))-wr .i64 (4*dQ x.2)),wr .i64 (x.2+1))))else(aG.go (wr .i64 (wr .i64 (x.1+dX (bY (b8 p2 x.2)))-wr .i64 (4*dQ x.2)),wr .i64 (x.2+1)))))else(bif bY (b8 p2 x.2)==1 then(bif p1==1 then(aG.go (wr .i64 (wr .i64 (wr .i64 (x.1+dX (bY (b8 p2 x.2)))-wr .i64 (4*dQ x.2))+wr .i64 (6*wr .i64 (7-eP x.2))),wr .i64 (x.2+1)))else(aG.go (wr .i64 (wr .i64 (x.1+dX (bY (b8 p2 x.2)))-wr .i64 (4*dQ x.2)),wr .i64 (x.2+1))))else(aG.go (wr .i64 (wr .i64 (x.1+dX (bY (b8 p2 x.2)))-wr .i64 (4*dQ x.2)),wr .i64 (x.2+1))))))else(bif bY (b8 p2 x.2)==1 then(bif p1==0 then(bif bY (b8 p2 x.2)==1 then(bif p1==1 then(aG.go (wr .i64 (wr .i64 (wr .i64 (wr .i64 (x.1+dX (bY (b8 p2 x.2)))-wr .i64 (4*dQ x.2))+wr .i64 (6*eP x.2))+wr .i64 (6*wr .i64 (7-eP x.2))),wr .i64 (x.2+1)))else(aG.go (wr .i64 (wr .i64 (wr .i64 (x.1+dX (bY (b8 p2 x.2)))-wr .i64 (4*dQ x.2))+wr .i64 (6*eP x.2)),wr .i64 (x.2+1))))else(aG.go (wr .i64 (wr .i64 (wr .i64 (x.1+dX (bY (b8 p2 x.2)))-wr .i64 (4*dQ x.2))+wr .i64 (6*eP x.2)),wr .i64 (x.2+1))))else(bif bY (b8 p2 x.2)==1 then(bif p1==1 then(aG.go (wr .i64 (wr .i64 (wr .i64 (x.1+dX (bY (b8 p2 x.2)))-wr .i64 (4*dQ x.2))+wr .i64 (6*wr .i64 (7-eP x.2))),wr .i64 (x.2+1)))else(aG.go (wr .i64 (wr .i64 (x.1+dX (bY (b8 p2 x.2)))-wr .i64 (4*dQ x.2)),wr .i64 (x.2+1))))else(aG.go (wr .i64 (wr .i64 (x.1+dX (bY (b8 p2 x.2)))-wr .i64 (4*dQ x.2)),wr .i64 (x.2+1)))))else(bif bY (b8 p2 x.2)==1 then(bif p1==1 then(aG.go (wr .i64 (wr .i64 (wr .i64 (x.1+dX (bY (b8 p2 x.2)))-wr .i64 (4*dQ x.2))+wr .i64 (6*wr .i64 (7-eP x.2))),wr .i64 (x.2+1)))else(aG.go (wr .i64 (wr .i64 (x.1+dX (bY (b8 p2 x.2)))-wr .i64 (4*dQ x.2)),wr .i64 (x.2+1))))else(aG.go (wr .i64 (wr .i64 (x.1+dX (bY (b8 p2 x.2)))-wr .i64 (4*dQ x.2)),wr .i64 (x.2+1))))))))else(aG.out ((x.1,x.2,decide (x.2<64)))))
def pH (p1:Int)(p2:Pos)(x:(Int×Int)):Bool:=(bif decide (x.2<64)then(yJ p2 x.2&&(bif b8 p2 x.2==0 then true else(bif vk (b8 p2 x.2) != p1 then true else(tR x.2&&(bif bY (b8 p2 x.2)==6 then(bif p2.variant==4 then(bif bY (b8 p2 x.2)==1 then(bif p1==0 then(fV x.2&&(bif bY (b8 p2 x.2)==1 then(bif p1==1 then(fV x.2&&true)else true)else true))else(bif bY (b8 p2 x.2)==1 then(bif p1==1 then(fV x.2&&true)else true)else true))else(bif bY (b8 p2 x.2)==1 then(bif p1==1 then(fV x.2&&true)else true)else true))else(bif bY (b8 p2 x.2)==1 then(bif p1==0 then(fV x.2&&(bif bY (b8 p2 x.2)==1 then(bif p1==1 then(fV x.2&&true)else true)else true))else(bif bY (b8 p2 x.2)==1 then(bif p1==1 then(fV x.2&&true)else true)else true))else(bif bY (b8 p2 x.2)==1 then(bif p1==1 then(fV x.2&&true)else true)else true)))else(bif bY (b8 p2 x.2)==1 then(bif p1==0 then(fV x.2&&(bif bY (b8 p2 x.2)==1 then(bif p1==1 then(fV x.2&&true)else true)else true))else(bif bY (b8 p2 x.2)==1 then(bif p1==1 then(fV x.2&&true)else true)else true))else(bif bY (b8 p2 x.2)==1 then(bif p1==1 then(fV x.2&&true)else true)else true)))))))else true)
def fK (p1:Int)(p2:Pos)(x:(Int×Int)):Option ((Int×Int×Bool)):=cW (fun x=>bif pH p1 p2 x then tF p1 p2 x else .bad) many x
abbrev Mx {α:Type}(k:Int→Pos→(Int×Int)→α)(s:St):α:=wP s 0 fun q0=>k (tI (tT s 1)) q0 ((tI (tT s 5)),(tI (tT s 6)))
theorem ZI (p1:Int)(p2:Pos)(x:(Int×Int))(r:(Int×Int×Bool))(h:fK p1 p2 x=some r):aC Pz (bc Pz 102 5) (Lc p1 p2 x) (PI p1 p2 r):=smq (m:=12) (fn:=102) UB (Mx fun _ _ x=>some x) (fun o=>match o with | .exit 0 s=>some ((tI (tT s 5)),(tI (tT s 6)),(tB (tT s 19)))|_=>none) many x r h
def FJ (b:Code)(s:St):Tr Out:=Mx (fun p1 p2 x=>jS b (bc Pz 102 5) s (Lc p1 p2 x) (fK p1 p2 x) (PI p1 p2)) s
theorem FT:∀b,aT Pz b (FJ b):=fun _ _ _ h=>bF (ZI _ _ _) h
def aaM:ar:=bO Pz YW [(163,I0),(164,Jg),(165,Ke),(166,Rp),(167,UC),(168,Lm),(169,Sw)] [(102,5,FJ)] []
theorem Uq:aO aaM:=af ae ⟨Nu,MS,OA,Y1,ZD,R3,Yg,trivial⟩ ⟨FT,trivial⟩ trivial
def Pw (p1:Int)(p2:Pos)(x:(Int×Int)):St:=St.mk (.any::.int .u8 p1::.ptr 0 0::.any::.any::.int .i64 x.1::(an 4 (.int .i64 x.2::(an 117 [])))) (Hp.mk [(pc p2 [])] [] [] 0 0 0)
def Ns (p1:Int)(p2:Pos):(Int×Int×Bool)→Out:=fun y=>.exit 3 (St.mk (.any::.int .u8 p1::.ptr 0 0::.any::.any::.int .i64 y.1::(an 4 (.int .i64 y.2.1::(an 72 (.bool y.2.2::(an 44 [])))))) (Hp.mk [(pc p2 [])] [] [] 0 0 0))
def Af (p1:Int)(p2:Pos)(x:(Int×Int)):aG (Int×Int) ((Int×Int×Bool)):=(bif decide (x.2<6)then(aG.go (wr .i64 (x.1+wr .i64 (wr .i64 (p2.ah.getD (scale 6 p1+scale 1 x.2).toNat 0)*dX (wr .u8 x.2))),wr .i64 (x.2+1)))else(aG.out ((x.1,x.2,decide (x.2<6)))))
def uw (p1:Int)(p2:Pos)(x:(Int×Int)):Bool:=(bif decide (x.2<6)then(decide (0≤p1)&&decide (p1<Int.ofNat 2)&&(decide (0≤x.2)&&decide (x.2<Int.ofNat 6)&&true))else true)
def qb (p1:Int)(p2:Pos)(x:(Int×Int)):Option ((Int×Int×Bool)):=cW (fun x=>bif uw p1 p2 x then Af p1 p2 x else .bad) many x
abbrev P5 {α:Type}(k:Int→Pos→(Int×Int)→α)(s:St):α:=wP s 0 fun q0=>k (tI (tT s 1)) q0 ((tI (tT s 5)),(tI (tT s 10)))
theorem Yb (p1:Int)(p2:Pos)(x:(Int×Int))(r:(Int×Int×Bool))(h:qb p1 p2 x=some r):aC Pz (bc Pz 102 21) (Pw p1 p2 x) (Ns p1 p2 r):=smq (m:=12) (fn:=102) Uq (P5 fun _ _ x=>some x) (fun o=>match o with | .exit 3 s=>some ((tI (tT s 5)),(tI (tT s 10)),(tB (tT s 83)))|_=>none) many x r h
def QP (b:Code)(s:St):Tr Out:=P5 (fun p1 p2 x=>jS b (bc Pz 102 21) s (Pw p1 p2 x) (qb p1 p2 x) (Ns p1 p2)) s
theorem UY:∀b,aT Pz b (QP b):=fun _ _ _ h=>bF (Yb _ _ _) h
def aqr:ar:=bO Pz YW [(163,I0),(164,Jg),(165,Ke),(166,Rp),(167,UC),(168,Lm),(169,Sw)] [(102,5,FJ),(102,21,QP)] []
theorem ajh:aO aqr:=af ae ⟨Nu,MS,OA,Y1,ZD,R3,Yg,trivial⟩ ⟨FT,UY,trivial⟩ trivial
def nS (a:Pos)(b:Int):Int:=(bif decide (a.variant>8)then(0)else(bif decide (b>1)then(0)else(bif a.variant==2 then(((qb b a (((fK b a (0,0)).getD default).1,0)).getD default).1)else(bif a.variant==5 then(wr .i64 (((fK b a (0,0)).getD default).1+wr .i64 (150*wr .i64 (a.au.getD (scale 1 b).toNat 0))))else(bif a.variant==6 then(bif decide (sT a b 6≥0)then(wr .i64 (((fK b a (0,0)).getD default).1-wr .i64 (30*dQ (sT a b 6))))else(((fK b a (0,0)).getD default).1))else(bif a.variant==8 then(bif decide (sT a b 6≥0)then(wr .i64 (((fK b a (0,0)).getD default).1+wr .i64 (60*eP (sT a b 6))))else(((fK b a (0,0)).getD default).1))else(((fK b a (0,0)).getD default).1)))))))
def yQ (a:Pos)(b:Int):Bool:=(bif decide (a.variant>8)then true else(bif decide (b>1)then true else((fK b a (0,0)).isSome&&(CF a b 6&&(bif a.variant==2 then((qb b a (((fK b a (0,0)).getD default).1,0)).isSome&&true)else(bif a.variant==5 then(decide (0≤b)&&decide (b<Int.ofNat 2)&&true)else(bif a.variant==6 then(bif decide (sT a b 6≥0)then(tR (sT a b 6)&&true)else true)else(bif a.variant==8 then(bif decide (sT a b 6≥0)then(fV (sT a b 6)&&true)else true)else true))))))))
theorem arI (a:Pos)(b:Int)(h:yQ a b=true):PS Pz 102 [Pos.av a,.int .u8 b] ((dI .i64).res (nS a b)):=pq14 ajh h
def afm:GT:=g2 aZ (dI .u8) (fun a b=>b7 (yQ a b) ((dI .i64).res (nS a b)))
theorem ate:Sound Pz 102 afm:=aP fun a b=>aA (arI a b)
def K45:KT:=[(45,32,[(0,[1]),(1,[1,11]),(2,[2]),(3,[1,3]),(4,[3,24]),(5,[3]),(6,[3,28]),(7,[2]),(8,[3,30]),(9,[2]),(10,[2])])]
def B45:ar:=bO Pz K45 [(102,afm)] [] []
theorem ata:aO B45:=af ae ⟨ate,trivial⟩ trivial trivial
def N45 (a:Pos):Int:=(bif decide (a.variant>8)then(0)else(bif decide (a.aa>1)then(0)else(bif a.variant==4 then(bif decide (wr .i64 (0-wr .i64 (nS a a.aa-nS a (wr .u8 (1-a.aa))))>20000)then(20000)else(bif decide (wr .i64 (0-wr .i64 (nS a a.aa-nS a (wr .u8 (1-a.aa)))) < -20000)then(-20000)else(wr .i64 (0-wr .i64 (nS a a.aa-nS a (wr .u8 (1-a.aa)))))))else(bif decide (wr .i64 (nS a a.aa-nS a (wr .u8 (1-a.aa)))>20000)then(20000)else(bif decide (wr .i64 (nS a a.aa-nS a (wr .u8 (1-a.aa))) < -20000)then(-20000)else(wr .i64 (nS a a.aa-nS a (wr .u8 (1-a.aa)))))))))
def Y0 (a:Pos):Bool:=(bif decide (a.variant>8)then true else(bif decide (a.aa>1)then true else(yQ a a.aa&&(yQ a (wr .u8 (1-a.aa))&&true))))
theorem P45 (a:Pos)(h:Y0 a=true):PS Pz 45 [Pos.av a] ((dI .i64).res (N45 a)):=pq14 ata h
end Kz
namespace Kz
open Go Go.RowKit
def Oq:Y':=(([0,1,2,2,3,3,3,3,4,4,4,4,4,4,4,4]++List.replicate 16 5)++List.replicate 32 6++List.replicate 64 7)++List.replicate 128 8
def rh (y:BitVec 64):Int:=wr .i64 (Int.ofNat (Oq[(wr .u8 (Int.ofNat y.toNat)).toNat]?.getD 0).toNat)
theorem DT:∀(j:Fin 8) (v:Fin 256),2^j.val≤v.val→v.val<2^(j.val+1)→(Oq[v.val]?.getD 0).toNat=j.val+1:=by decide +kernel
theorem Uf {y:BitVec 64}{j:Nat}(h0:2^j≤y.toNat)(h1:y.toNat<2^(j+1))(h2:y.toNat<256):rh y=j+1:=by
 have hj:j<8:=by refine Classical.byContradiction fun hn=>?_;have:=Nat.pow_le_pow_right (n:=2) (by omega) (show 8≤j by omega);omega
 unfold rh;rw[show Int.ofNat y.toNat=(y.toNat:Int)from rfl,kD (by omega) (by omega),Int.toNat_natCast,DT ⟨j,hj⟩ ⟨y.toNat,h2⟩ h0 h1];exact aF (by simp;omega) (by simp;omega)
theorem Lb (a:BitVec 64):P9 a=bif decide (a.toNat≥4294967296)then(bif decide ((a >>> 32).toNat≥65536)then(bif decide ((a >>> 32 >>> 16).toNat≥256)then wr .i64 (wr .i64 (wr .i64 (32+16)+8)+rh (a >>> 32 >>> 16 >>> 8))else wr .i64 (wr .i64 (32+16)+rh (a >>> 32 >>> 16)))else(bif decide ((a >>> 32).toNat≥256)then wr .i64 (wr .i64 (32+8)+rh (a >>> 32 >>> 8))else wr .i64 (32+rh (a >>> 32))))else(bif decide (a.toNat≥65536)then(bif decide ((a >>> 16).toNat≥256)then wr .i64 (wr .i64 (16+8)+rh (a >>> 16 >>> 8))else wr .i64 (16+rh (a >>> 16)))else(bif decide (a.toNat≥256)then wr .i64 (8+rh (a >>> 8))else wr .i64 (0+rh a))):=by kernel_rfl
def Yr (x:BitVec 64)(j:Nat):Prop:=2^j≤x.toNat∧x.toNat<2^(j+1)
theorem Yr.shr {x:BitVec 64}{j:Nat}(h:Yr x j)(k:Nat)(hk:2^k≤x.toNat):k≤j∧Yr (x >>> k) (j-k):=by
 obtain⟨h0,h1⟩:=h;have hkj:k≤j:=by refine Classical.byContradiction fun hn=>?_;have:=Nat.pow_le_pow_right (n:=2) (by omega) (show j+1≤k by omega);omega
 refine⟨hkj,?_⟩;unfold Yr;rw[BitVec.toNat_ushiftRight,Nat.shiftRight_eq_div_pow];have hp:=Nat.two_pow_pos k;constructor
 ·rw[Nat.le_div_iff_mul_le hp,←Nat.pow_add,Nat.sub_add_cancel hkj];exact h0
 ·rw[Nat.div_lt_iff_lt_mul hp,←Nat.pow_add,show j-k+1+k=j+1 by omega];exact h1
theorem O9 {x:BitVec 64}{j:Nat}(h:Yr x j)(hj:j<64):P9 x=j+1:=by
 have w:∀n:Int,0≤n→n≤1000→wr .i64 n=n:=fun n a b=>aF (by omega) (by omega);have fin:∀{y:BitVec 64} {i:Nat},Yr y i→y.toNat<256→rh y=i+1:=fun h h2=>Uf h.1 h.2 h2;rw[Lb];refine al (P:=fun n:Int=>n=j+1) (fun a1=>?_) fun a1=>?_
 ·have a1:2^32≤x.toNat:=by simpa using a1
  obtain⟨b1,t1⟩:=h.shr 32 a1;have l1:(x >>> 32).toNat<2^32:=by rw[BitVec.toNat_ushiftRight,Nat.shiftRight_eq_div_pow];have:=x.isLt;omega
  generalize x >>> 32=y at t1 l1⊢;refine al (P:=fun n:Int=>n=j+1) (fun a2=>?_) fun a2=>?_
  ·have a2:2^16≤y.toNat:=by simpa using a2
   obtain⟨b2,t2⟩:=t1.shr 16 a2;have l2:(y >>> 16).toNat<2^16:=by rw[BitVec.toNat_ushiftRight,Nat.shiftRight_eq_div_pow];omega
   generalize y >>> 16=z at t2 l2⊢;refine al (P:=fun n:Int=>n=j+1) (fun a3=>?_) fun a3=>?_
   ·have a3:2^8≤z.toNat:=by simpa using a3
    obtain⟨b3,t3⟩:=t2.shr 8 a3;rw[fin t3 (by rw[BitVec.toNat_ushiftRight,Nat.shiftRight_eq_div_pow];omega)];grind
   grind
  ·have a2:y.toNat<65536:=by simpa using a2
   refine al (P:=fun n:Int=>n=j+1) (fun a3=>?_) fun a3=>?_
   ·have a3:2^8≤y.toNat:=by simpa using a3
    obtain⟨b3,t3⟩:=t1.shr 8 a3;rw[fin t3 (by rw[BitVec.toNat_ushiftRight,Nat.shiftRight_eq_div_pow];omega)];grind
   grind
 ·have a1:x.toNat<4294967296:=by simpa using a1
  refine al (P:=fun n:Int=>n=j+1) (fun a2=>?_) fun a2=>?_
  ·have a2:2^16≤x.toNat:=by simpa using a2
   obtain⟨b2,t2⟩:=h.shr 16 a2;have l2:(x >>> 16).toNat<2^16:=by rw[BitVec.toNat_ushiftRight,Nat.shiftRight_eq_div_pow];omega
   generalize x >>> 16=z at t2 l2⊢;refine al (P:=fun n:Int=>n=j+1) (fun a3=>?_) fun a3=>?_
   ·have a3:2^8≤z.toNat:=by simpa using a3
    obtain⟨b3,t3⟩:=t2.shr 8 a3;rw[fin t3 (by rw[BitVec.toNat_ushiftRight,Nat.shiftRight_eq_div_pow];omega)];grind
   grind
  ·have a2:x.toNat<65536:=by simpa using a2
   refine al (P:=fun n:Int=>n=j+1) (fun a3=>?_) fun a3=>?_
   ·have a3:2^8≤x.toNat:=by simpa using a3
    obtain⟨b3,t3⟩:=h.shr 8 a3;rw[fin t3 (by rw[BitVec.toNat_ushiftRight,Nat.shiftRight_eq_div_pow];omega)];grind
   grind
theorem aav {x:BitVec 64}{j:Nat}(hj:j<64)(h1:x.getLsbD j=true)(h2:∀i,j<i→i<64→x.getLsbD i=false):Yr x j:=by
 constructor
 ·exact Nat.ge_two_pow_of_testBit h1
 ·refine Nat.lt_pow_two_of_testBit _ fun i hi=>?_;by_cases h:i<64
  ·exact h2 i (by omega) h
  ·exact Nat.testBit_lt_two_pow (Nat.lt_of_lt_of_le x.isLt (Nat.pow_le_pow_right (by omega) (by omega)))
theorem Ka {x:BitVec 64}{j:Nat}(hj:j<64)(h1:x.getLsbD j=true)(h2:∀i,j<i→i<64→x.getLsbD i=false):FO x=j:=by unfold FO Vd;rw[O9 (aav hj h1 h2) hj,aF (n:=64-((j:Int)+1)) (by omega) (by omega),aF (by omega) (by omega)];omega
def nxt (a d:Nat):Option Nat :=
 let r:=a / 8
 let f:=a%8
 match d with
 | 0=>if r<7 then some (a+8)else none
 | 1=>if r<7∧f<7 then some (a+9)else none
 | 2=>if f<7 then some (a+1)else none
 | 3=>if 0<r∧f<7 then some (a-7)else none
 | 4=>if 0<r then some (a-8)else none
 | 5=>if 0<r∧0<f then some (a-9)else none
 | 6=>if 0<f then some (a-1)else none
 |_=>if r<7∧0<f then some (a+7)else none
def Ni:Nat→Nat→Nat→List Nat
 | 0,_,_=>[]
 |n+1,a,d=>match nxt a d with
  |some s=>s::Ni n s d
  |none=>[]
def nq (a d:Nat):List Nat:=Ni 8 a d
def fI:List Nat→BitVec 64
 | []=>0#64
 |s::l=>1#64 <<< s|||fI l
def wv (d:Nat):List Nat→Bool
 | []=>true
 |s::l=>decide (s<64)&&nq s d==l&&wv d l
def up (d:Nat):Bool:=d==0 ||d==1 ||d==2 ||d==7
def pW (d:Nat):List Nat→Bool
 | []=>true
 |s::l=>l.all (fun t=>if up d then decide (s<t)else decide (t<s))&&pW d l
theorem Ba:∀(a:Fin 64) (d:Fin 8),jq a.val d.val=fI (nq a.val d.val)∧wv d.val (nq a.val d.val)=true∧pW d.val (nq a.val d.val)=true:=by decide +kernel
theorem fW:∀(l:List Nat) (t:Nat),t<64→(fI l).getLsbD t=decide (t∈l)
 | [],t,_=>by simp[fI]
 |s::l,t,ht=>by
  rw[fI,BitVec.getLsbD_or,fW l t ht,BitVec.getLsbD_shiftLeft,BitVec.getLsbD_one]
  grind
def seen (occ:BitVec 64):List Nat→List Nat
 | []=>[]
 |s::l=>s::if occ.getLsbD s then[]else seen occ l
theorem B3 {occ:BitVec 64}:∀{l:List Nat},(∀s∈l,occ.getLsbD s=false)→seen occ l=l
 | [],_=>rfl
 |s::l,h=>by
  rw[seen,h s (by simp),B3 fun t ht=>h t (by simp[ht])]
  rfl
theorem tW {occ:BitVec 64}:∀{pre:List Nat} {n:Nat} {post:List Nat},(∀s∈pre,occ.getLsbD s=false)→occ.getLsbD n=true→seen occ (pre++n::post)=pre++[n]
 | [],n,post,_,h=>by
  show n::(if occ.getLsbD n then[]else seen occ post)=[n]
  rw[h];rfl
 |s::pre,n,post,h1,h2=>by
  show s::(if occ.getLsbD s then[]else seen occ (pre++n::post))=s::(pre++[n])
  rw[h1 s (by simp),tW (fun t ht=>h1 t (by simp[ht])) h2]
  rfl
theorem CQ (occ:BitVec 64):∀l:List Nat,(∀s∈l,occ.getLsbD s=false)∨∃pre n post,l=pre++n::post∧(∀s∈pre,occ.getLsbD s=false)∧occ.getLsbD n=true
 | []=>by simp_all
 |s::l=>by
  cases hs:occ.getLsbD s with
  |true=>exact .inr ⟨[],s,l,rfl,(fun _ h=>by cases h),hs⟩
  |false =>
   rcases CQ occ l with h|⟨pre,n,post,rfl,h1,h2⟩
   ·simp_all
   grind
theorem wV {d:Nat}:∀{pre:List Nat} {n:Nat} {post:List Nat},wv d (pre++n::post)=true→nq n d=post∧n<64∧(∀s∈pre,s<64)∧∀s∈post,s<64
 | [],n,post,h=>by
  have all:∀l,wv d l=true→∀s∈l,s<64:=by
   intro l
   induction l with
   |nil=>intro _ s hs;cases hs
   |cons a l ih =>
    intro h s hs
    simp only[wv,E',decide_eq_true_eq]at h
    grind
  simp only[List.nil_append,wv,E',decide_eq_true_eq,beq_iff_eq]at h
  grind
 |a::pre,n,post,h=>by
  simp only[List.cons_append,wv,E',decide_eq_true_eq]at h
  obtain⟨h1,h2,h3,h4⟩:=wV h.2
  simp_all
theorem xW {d:Nat}:∀{pre:List Nat} {n:Nat} {post:List Nat},pW d (pre++n::post)=true→(∀s∈pre,if up d then s<n else n<s)∧(∀s∈post,if up d then n<s else s<n)∧(∀s∈pre,s∉post)∧n∉post
 | [],n,post,h=>by
  simp only[List.nil_append,pW,E',List.all_eq_true]at h
  grind
 |a::pre,n,post,h=>by
  simp only[List.cons_append,pW,E',List.all_eq_true]at h
  obtain⟨h1,h2,h3,h4⟩:=xW h.2
  grind
theorem Jm {a d:Nat}(ha:a<64)(hd:d<8)(occ:BitVec 64){t:Nat}(ht:t<64):(rL a d occ).getLsbD t=decide (t∈seen occ (nq a d)):=by
 obtain⟨e1,e2,e3⟩:=Ba ⟨a,ha⟩ ⟨d,hd⟩;simp only at e1 e2 e3;unfold rL;rw[e1];generalize hl:nq a d=l at e2 e3⊢;rcases CQ occ l with h|⟨pre,n,post,rfl,h1,h2⟩
 ·have hz:fI l&&&occ=0#64:=by
   apply BitVec.eq_of_getLsbD_eq;intro i hi;rw[BitVec.getLsbD_and,fW l i hi];by_cases hm:i∈l
   ·rw[h i hm];simp
   ·simp[hm]
  rw[hz,show((0#64:BitVec 64)==0#64)=true from rfl,cond_true,B3 h,fW l t ht]
 ·obtain⟨t1,t2,t3,t4⟩:=wV e2;obtain⟨s1,s2,s3,s4⟩:=xW e3;generalize hL:pre++n::post=L at *;have memL:∀i,i∈L ↔ (i∈pre∨i=n∨i∈post):=by grind
  have bit:∀i,i<64→(fI L&&&occ).getLsbD i=(decide (i∈L)&&occ.getLsbD i):=fun i hi=>by rw[BitVec.getLsbD_and,fW L i hi]
  have bn:(fI L&&&occ).getLsbD n=true:=by rw[bit n t2,h2];simp[memL]
  have hnz:(fI L&&&occ==0#64)=false:=by rw[beq_eq_false_iff_ne];intro e;rw[e]at bn;simp at bn
  have fin:(fI L &&& ~~~jq (n:Int) d).getLsbD t=decide (t∈seen occ L):=by
   obtain⟨f1,_⟩:=Ba ⟨n,t2⟩ ⟨d,hd⟩;simp only at f1;rw[f1,t1,BitVec.getLsbD_and,BitVec.getLsbD_not,fW L t ht,fW post t ht,←hL,tW h1 h2];simp only[ht,decide_true,Bool.true_and,List.mem_append,List.mem_cons,List.not_mem_nil,or_false];by_cases p1:t∈pre
   ·simp_all
   ·grind
  rw[hnz,cond_false];by_cases hu:up d=true
  ·have low:sR (fI L&&&occ)=n:=wK t2 bn (by grind);rw[low];have hdir:d=0∨d=1∨d=2∨d=7:=by unfold up at hu;simp only[Bool.or_eq_true,beq_iff_eq]at hu;omega
   grind
  ·have high:FO (fI L&&&occ)=n:=Ka t2 bn (by grind);rw[high];have hdir:3≤d∧d≤6:=by unfold up at hu;simp only[Bool.or_eq_true,beq_iff_eq]at hu;omega
   grind
end Kz
namespace Kz
open Go Go.RowKit Go.Proofs
def K82:KT:=[(82,17,[(0,[0,6,7,8,11,12,13]),(1,[0,14]),(2,[2]),(3,[2])])]
def B82:ar:=bO Pz K82 [] [] []
theorem ari:aO B82:=af ae trivial trivial trivial
def bE (a:Int):Int:=(bif decide (a>15)then(0)else(bif decide (a.tmod 8<1)then(0)else(bif decide (a.tmod 8>6)then(0)else(a.tmod 8))))
def apc (a:Int):Bool:=true
theorem P82 (a:Int)(h:apc a=true):PS Pz 82 [.int .u8 a] ((dI .u8).res (bE a)):=pq14 ari h
def nP:GT:=g1 (dI .u8) (fun a=>.ret ((dI .u8).res (bE a)))
theorem nZ:Sound Pz 82 nP:=aH fun a=>bH (P82 a rfl)
def aqy:KT:=[(250,7,[(0,[0]),(1,[0,4]),(2,[2]),(3,[6]),(4,[2]),(5,[2])])]
def an4:ar:=bO Pz aqy [] [] []
theorem afr:aO an4:=af ae trivial trivial trivial
def nM (a:Int):Int:=(bif decide (a<0)then(-1)else(bif decide (a>0)then(1)else(0)))
def ads (a:Int):Bool:=true
theorem alT (a:Int)(h:ads a=true):PS Pz 250 [.int .i64 a] ((dI .i64).res (nM a)):=pq14 afr h
def aby:GT:=g1 (dI .i64) (fun a=>.ret ((dI .i64).res (nM a)))
theorem afh:Sound Pz 250 aby:=aH fun a=>bH (alT a rfl)
def adU:KT:=[(207,38,[(0,[1,2,3]),(1,[1,2,3,7]),(2,[2,3,7,8]),(3,[2,3,7,8,28]),(4,[2,3,7,8]),(5,[2,3,7,8,37]),(6,[6]),(7,[6])])]
def aaC:ar:=bO Pz adU [(82,nP),(250,aby)] [] []
theorem SX:aO aaC:=af ae ⟨nZ,afh,trivial⟩ trivial trivial
def Kq (p1:Int)(p2:Int)(p3:Pos)(x:(Int)):St:=St.mk (.any::.any::.int .i64 p1::.ptr 0 0::(an 3 (.int .i64 p2::.int .i64 x::(an 29 [])))) (Hp.mk [(pc p3 [])] [] [] 0 0 0)
def Oa (p1:Int)(p2:Int)(p3:Pos):Unit ⊕ (Int×Bool)→Out
 |(.inl (y))=>.ret (St.mk (an 6 (AV.aU false::(an 31 []))) (Hp.mk [(pc p3 [])] [] [] 0 0 0))
 |(.inr (y))=>.exit 0 (St.mk (AV.any::AV.any::AV.int .i64 p1::AV.ptr 0 0::(an 3 (AV.int .i64 p2::AV.int .i64 y.1::(an 19 (AV.bool y.2::(an 9 [])))))) (Hp.mk [(pc p3 [])] [] [] 0 0 0))
def kF (p1:Int)(p2:Int)(p3:Pos)(x:(Int)):aG (Int) (Unit ⊕ (Int×Bool)):=(bif x != p1 then(bif bE (p3.ab.getD (scale 1 x).toNat 0) != 0 then(aG.out (.inl (())))else(aG.go (wr .i64 (x+p2))))else(aG.out (.inr ((x,x != p1)))))
def jj (p1:Int)(p2:Int)(p3:Pos)(x:(Int)):Bool:=(bif x != p1 then(decide (0≤x)&&decide (x < ↑64)&&true)else true)
def nA (p1:Int)(p2:Int)(p3:Pos)(x:(Int)):Option (Unit ⊕ (Int×Bool)):=cW (fun x=>bif jj p1 p2 p3 x then kF p1 p2 p3 x else .bad) many x
abbrev Oe {α:Type}(k:Int→Int→Pos→(Int)→α)(s:St):α:=wP s 0 fun q0=>k (tI (tT s 2)) (tI (tT s 7)) q0 ((tI (tT s 8)))
theorem YF (p1:Int)(p2:Int)(p3:Pos)(x:(Int))(r:Unit ⊕ (Int×Bool))(h:nA p1 p2 p3 x=some r):aC Pz (bc Pz 207 3) (Kq p1 p2 p3 x) (Oa p1 p2 p3 r):=aC.Be (m:=12) (fn:=207) SX (Oe fun _ _ _ x=>some x) (fun o=>match o with | .ret s=>some (.inl ()) | .exit 0 s=>some (.inr ((tI (tT s 8)),(tB (tT s 28))))|_=>none) (fun r=>by cases r<;>rfl) (fun _=>by kernel_rfl) (fun _=>by kernel_rfl) (fun _=>by kernel_rfl) (fun _=>by kernel_rfl) many x r h
def LW (b:Code)(s:St):Tr Out:=Oe (fun p1 p2 p3 x=>Bg b (bc Pz 207 3) s (Kq p1 p2 p3 x) (nA p1 p2 p3 x) (Oa p1 p2 p3)) s
theorem Rt:∀b,aT Pz b (LW b):=fun _ _ _ h=>fj (YF _ _ _ _) h
def ana:ar:=bO Pz adU [(82,nP),(250,aby)] [(207,3,LW)] []
theorem ajQ:aO ana:=af ae ⟨nZ,afh,trivial⟩ ⟨Rt,trivial⟩ trivial
def dY (a:Pos)(b:Int)(c:Int):Bool:=(bif cQ ((nA c (wr .i64 (wr .i64 (8*nM (wr .i64 (wr .i64 (c.tdiv 8)-wr .i64 (b.tdiv 8))))+nM (wr .i64 (c.tmod 8-b.tmod 8)))) a (wr .i64 (b+wr .i64 (wr .i64 (8*nM (wr .i64 (wr .i64 (c.tdiv 8)-wr .i64 (b.tdiv 8))))+nM (wr .i64 (c.tmod 8-b.tmod 8)))))).getD default)then(false)else(true))
def mV (a:Pos)(b:Int)(c:Int):Bool:=((nA c (wr .i64 (wr .i64 (8*nM (wr .i64 (wr .i64 (c.tdiv 8)-wr .i64 (b.tdiv 8))))+nM (wr .i64 (c.tmod 8-b.tmod 8)))) a (wr .i64 (b+wr .i64 (wr .i64 (8*nM (wr .i64 (wr .i64 (c.tdiv 8)-wr .i64 (b.tdiv 8))))+nM (wr .i64 (c.tmod 8-b.tmod 8)))))).isSome&&bif cQ ((nA c (wr .i64 (wr .i64 (8*nM (wr .i64 (wr .i64 (c.tdiv 8)-wr .i64 (b.tdiv 8))))+nM (wr .i64 (c.tmod 8-b.tmod 8)))) a (wr .i64 (b+wr .i64 (wr .i64 (8*nM (wr .i64 (wr .i64 (c.tdiv 8)-wr .i64 (b.tdiv 8))))+nM (wr .i64 (c.tmod 8-b.tmod 8)))))).getD default)then true else true)
theorem arA (a:Pos)(b:Int)(c:Int)(h:mV a b c=true):PS Pz 207 [Pos.av a,.int .i64 b,.int .i64 c] (dB.res (dY a b c)):=pq14 ajQ h
def ajw:GT:=g3 aZ (dI .i64) (dI .i64) (fun a b c=>b7 (mV a b c) (dB.res (dY a b c)))
theorem asC:Sound Pz 207 ajw:=dc fun a b c=>aA (arA a b c)
end Kz
namespace Kz
open Go Go.RowKit
def jh (d:Nat):Int:=[8,9,1,-7,-8,-9,-1,7].getD d 0
def AG (d:Nat):Nat→List Nat→Bool
 |_,[]=>true
 |a,s::l=>decide ((s:Int)=a+jh d)&&decide (s<64)&&AG d s l
def XS (a b:Int):Int:=wr .i64 (wr .i64 (8*nM (wr .i64 (wr .i64 (b.tdiv 8)-wr .i64 (a.tdiv 8))))+nM (wr .i64 (b.tmod 8-a.tmod 8)))
theorem JU:∀(a:Fin 64) (d:Fin 8),(AG d.val a.val (nq a.val d.val)&&(nq a.val d.val).all fun b=>decide (XS a.val b=jh d.val))=true:=by decide +kernel
theorem Xq (p:Pos){d:Nat}(hd:d<8){c:Nat}:∀(l:List Nat) (a:Nat),AG d a l=true→a<64→c∈l→l.length≤64→∃r,cW (fun x=>bif jj c (jh d) p x then kF c (jh d) p x else .bad) (l.length+1) (a+jh d)=some r∧(cQ r=false ↔ ∀pre post,l=pre++c::post→c∉pre→∀s∈pre,bE (p.ab.getD s 0)=0)
 | [],_,_,_,h,_=>by cases h
 |s::l,a,h,ha,hc,hn=>by
  simp only[AG,E',decide_eq_true_eq]at h
  obtain⟨⟨h1,h2⟩,h3⟩:=h
  rw[←h1]
  have hsc:(scale 1 (s:Int)).toNat=s:=by rw[iu];omega
  have hoff : -9≤jh d∧jh d≤9:=by
   have:∀d:Fin 8,-9≤jh d.val∧jh d.val≤9:=by decide
   exact this ⟨d,hd⟩
  by_cases e:s=c
  ·subst e
   refine⟨.inr ((s:Int),false),?_,?_⟩
   ·rw[cW]
    unfold jj kF
    simp
   ·refine⟨fun _ pre post hl hp s' hs'=>?_,fun _=>rfl⟩
    cases pre with
    |nil=>cases hs'
    |cons x pre =>
     simp_all
  ·have hcl:c∈l:=by
    simp only[List.mem_cons]at hc
    rcases hc with hc|hc
    ·exact absurd hc.symm e
    ·exact hc
   have hne:((s:Int) != (c:Int))=true:=by simp;omega
   by_cases ho:bE (p.ab.getD s 0)=0
   ·obtain⟨r,q1,q2⟩:=Xq p hd l s h3 h2 hcl (by simp at hn;omega)
    refine⟨r,?_,?_⟩
    ·rw[List.length_cons,cW]
     have:(bif jj c (jh d) p (s:Int)then kF c (jh d) p (s:Int)else .bad)=.go ((s:Int)+jh d):=by
      unfold jj kF
      rw[hne,hsc,ho,aF (n:=(s:Int)+jh d) (by omega) (by omega),show(decide (0≤(s:Int))&&decide ((s:Int)<64)&&true)=true by simp;omega]
      rfl
     simp_all
    ·rw[q2]
     constructor
     ·intro hq pre post hl hp t ht
      cases pre with
      |nil=>cases ht
      |cons x pre =>
       grind
     grind
   ·refine⟨.inl (),?_,?_⟩
    ·rw[List.length_cons,cW]
     have:(bif jj c (jh d) p (s:Int)then kF c (jh d) p (s:Int)else .bad)=.out (.inl ()):=by
      unfold jj kF
      rw[hne,hsc,show(bE (p.ab.getD s 0) != 0)=true by simpa using ho,show(decide (0≤(s:Int))&&decide ((s:Int)<64)&&true)=true by simp;omega]
      rfl
     rw[this]
    ·constructor
     ·intro h;cases h
     ·intro hq
      obtain⟨pre,post,hl,hp⟩:∃pre post,s::l=pre++c::post∧c∉pre:=by
       have:∀l:List Nat,c∈l→∃pre post,l=pre++c::post∧c∉pre:=by
        intro l
        induction l with
        |nil=>intro h;cases h
        |cons y l ih =>
         intro h
         by_cases ey:y=c
         ·exact⟨[],l,by rw[ey];rfl,by simp⟩
         grind
       exact this _ hc
      have hs:s∈pre:=by
       cases pre with
       |nil =>
        simp_all
       |cons x pre =>
        simp_all
      grind
theorem jX {X R:Type}{st:X→aG X R}:∀(n m:Nat) (x:X) (r:R),n≤m→cW st n x=some r→cW st m x=some r
 | 0,_,_,_,_,h=>by cases h
 |n+1,0,_,_,h,_=>by omega
 |n+1,m+1,x,r,hm,h=>by
  rw[cW]at h⊢
  cases hs:st x with
  |go y=>rw[hs]at h;exact jX n m y r (by omega) h
  |out q=>rw[hs]at h;exact h
  |bad=>rw[hs]at h;cases h
theorem BC {occ:BitVec 64}{c:Nat}:∀{l:List Nat},c∈seen occ l→c∈l
 | [],h=>h
 |s::l,h=>by
  simp only[seen,List.mem_cons]at h
  rcases h with rfl|h
  ·simp
  ·cases ho:occ.getLsbD s with
   |true=>rw[ho]at h;cases h
   |false=>rw[ho]at h;exact List.mem_cons_of_mem _ (BC h)
theorem wD {occ:BitVec 64}{c:Nat}:∀{l:List Nat},c∈l→(c∈seen occ l ↔ ∀pre post,l=pre++c::post→c∉pre→∀s∈pre,occ.getLsbD s=false)
 | [],h=>by cases h
 |s::l,h=>by
  by_cases e:s=c
  ·subst e
   refine⟨fun _ pre post hl hp t ht=>?_,fun _=>by simp[seen]⟩
   cases pre with
   |nil=>cases ht
   |cons x pre =>
    simp_all
  ·have hcl:c∈l:=by
    simp only[List.mem_cons]at h
    rcases h with h|h
    ·exact absurd h.symm e
    ·exact h
   have ih:=wD (occ:=occ) hcl
   have hx:c∈seen occ (s::l) ↔ occ.getLsbD s=false∧c∈seen occ l:=by
    simp only[seen,List.mem_cons]
    cases occ.getLsbD s with
    |true=>simp;omega
    |false=>simp;omega
   rw[hx,ih]
   constructor
   ·rintro⟨h1,h2⟩ pre post hl hp t ht
    cases pre with
    |nil=>cases ht
    |cons x pre =>
     grind
   ·intro hq
    have ex:∀l:List Nat,c∈l→∃pre post,l=pre++c::post∧c∉pre:=by
     intro l
     induction l with
     |nil=>intro h;cases h
     |cons y l ih =>
      intro h
      by_cases ey:y=c
      ·exact⟨[],l,by rw[ey];rfl,by simp⟩
      grind
    refine⟨?_,fun pre post hl hp t ht=>?_⟩
    ·obtain⟨pre,post,e1,e2⟩:=ex l hcl
     exact hq (s::pre) post (by rw[e1];rfl) (by simp[e2];omega) s (by simp)
    grind
theorem ns (p:Pos){occ:BitVec 64}(hocc:∀s,s<64→(occ.getLsbD s=false ↔ bE (p.ab.getD s 0)=0)){a d c:Nat}(ha:a<64)(hd:d<8)(hc:c∈nq a d):mV p a c=true∧dY p a c=decide (c∈seen occ (nq a d)):=by
 have f1:=JU ⟨a,ha⟩ ⟨d,hd⟩;simp only[E',List.all_eq_true,decide_eq_true_eq]at f1;obtain⟨f1,f2⟩:=f1;obtain⟨_,f3,_⟩:=Ba ⟨a,ha⟩ ⟨d,hd⟩;simp only at f3;have hstep:=f2 c hc;unfold XS at hstep;have hlen:(nq a d).length≤8:=by
  have:∀n a,(Ni n a d).length≤n:=by
   intro n;induction n with
   |zero=>intro a;simp[Ni]
   |succ n ih =>intro a;unfold Ni;grind
  exact this 8 a
 have lt64:∀s∈nq a d,s<64:=by intro s hs;obtain⟨pre,post,e⟩:=List.append_of_mem hs;rw[e]at f3;exact(wV f3).2.1
 obtain⟨r,q1,q2⟩:=Xq p hd (nq a d) a f1 ha hc (by omega);have hoff : -9≤jh d∧jh d≤9:=by
  have:∀d:Fin 8,-9≤jh d.val∧jh d.val≤9:=by decide
  exact this ⟨d,hd⟩
 have q3:=jX _ many _ _ (by unfold many;omega) q1;have hl:nA c (jh d) p (a+jh d)=some r:=q3;have hres:cQ r=!decide (c∈seen occ (nq a d)):=by
  have key:cQ r=false ↔ c∈seen occ (nq a d):=by
   rw[q2,wD hc];constructor
   ·simp_all
   ·simp_all
  cases hb:cQ r with
  |false=>simp_all
  |true =>simp_all
 constructor
 ·unfold mV;rw[hstep,aF (n:=(a:Int)+jh d) (by omega) (by omega),hl];simp_all
 ·unfold dY;rw[hstep,aF (n:=(a:Int)+jh d) (by omega) (by omega),hl,Option.getD_some,hres];simp_all
end Kz
namespace Kz
open Go Go.RowKit Go.Proofs
def K83:KT:=[(83,5,[(0,[0]),(1,[2])])]
def B83:ar:=bO Pz K83 [] [] []
theorem aqk:aO B83:=af ae trivial trivial trivial
def oD (a:Int):Int:=(wr .u8 (a.tdiv 8))
def amV (a:Int):Bool:=true
theorem P83 (a:Int)(h:amV a=true):PS Pz 83 [.int .u8 a] ((dI .u8).res (oD a)):=pq14 aqk h
def VW:GT:=g1 (dI .u8) (fun a=>.ret ((dI .u8).res (oD a)))
theorem X3:Sound Pz 83 VW:=aH fun a=>bH (P83 a rfl)
def aoU:KT:=[(206,8,[(0,[0]),(1,[0,4]),(2,[2]),(3,[2])])]
def aoy:ar:=bO Pz aoU [] [] []
theorem afz:aO aoy:=af ae trivial trivial trivial
def cp (a:Int):Int:=(bif decide (a<0)then(wr .i64 (0-a))else(a))
def ac1 (a:Int):Bool:=true
theorem arD (a:Int)(h:ac1 a=true):PS Pz 206 [.int .i64 a] ((dI .i64).res (cp a)):=pq14 afz h
def aaI:GT:=g1 (dI .i64) (fun a=>.ret ((dI .i64).res (cp a)))
theorem ajK:Sound Pz 206 aaI:=aH fun a=>bH (arD a rfl)
def atL:KT:=[(153,26,[(0,(0::1::(rn 9 7 (rn 18 7 [])))),(1,[4])])]
def anG:ar:=bO Pz atL [(206,aaI)] [] []
theorem agB:aO anG:=af ae ⟨ajK,trivial⟩ trivial trivial
def je (a:Int)(b:Int):Bool:=(bif a != b then(bif decide (cp (wr .i64 (wr .i64 (a.tdiv 8)-wr .i64 (b.tdiv 8)))≤1)then(decide (cp (wr .i64 (a.tmod 8-b.tmod 8))≤1))else(false))else(false))
def afu (a:Int)(b:Int):Bool:=true
theorem ak1 (a:Int)(b:Int)(h:afu a b=true):PS Pz 153 [.int .i64 a,.int .i64 b] (dB.res (je a b)):=pq14 agB h
def BL:GT:=g2 (dI .i64) (dI .i64) (fun a b=>.ret (dB.res (je a b)))
theorem DS:Sound Pz 153 BL:=aP fun a b=>bH (ak1 a b rfl)
def alm:KT:=[(154,112,[(0,(1::2::3::37::38::50::51::56::57::65::66::(rn 69 7 (rn 86 4 (rn 95 4 (104::(rn 107 4 []))))))),(1,(1::2::3::7::37::38::50::51::56::57::65::66::(rn 69 7 (rn 86 4 (rn 95 4 (104::(rn 107 4 []))))))),(2,(1::2::3::7::8::9::37::38::50::51::56::57::65::66::(rn 69 7 (rn 86 4 (rn 95 4 (104::(rn 107 4 []))))))),(3,(1::2::3::(rn 7 4 (37::38::50::51::56::57::65::66::(rn 69 7 (rn 86 4 (rn 95 4 (104::(rn 107 4 []))))))))),(4,(1::2::3::(rn 7 5 (50::51::56::57::65::66::(rn 69 7 (rn 86 4 (rn 95 4 (104::(rn 107 4 []))))))))),(5,(1::2::3::(rn 7 5 (41::50::51::56::57::65::66::(rn 69 7 (rn 86 4 (rn 95 4 (104::(rn 107 4 []))))))))),(6,(1::2::3::(rn 7 5 (41::42::50::51::56::57::65::66::(rn 69 7 (rn 86 4 (rn 95 4 (104::(rn 107 4 []))))))))),(7,[8,9,46,50,51,56,57]),(8,[6]),(9,[6]),(10,(1::2::3::(rn 8 4 (41::59::65::66::(rn 69 7 (rn 86 4 (rn 95 4 (104::(rn 107 4 []))))))))),(11,[6]),(12,(1::2::3::10::11::41::77::(rn 86 4 (rn 95 4 (104::(rn 107 4 [])))))),(13,[6]),(14,(1::2::3::10::11::41::82::(rn 86 4 (rn 95 4 (104::(rn 107 4 [])))))),(15,[6]),(16,(1::2::3::10::11::41::91::(rn 95 4 (104::(rn 107 4 []))))),(17,[6]),(18,(1::2::3::10::11::100::104::(rn 107 4 []))),(19,[6]),(20,[6])])]
def anp:ar:=bO Pz alm [(82,nP),(83,VW),(153,BL),(206,aaI),(207,ajw)] [] []
theorem aew:aO anp:=af ae ⟨nZ,X3,DS,ajK,asC,trivial⟩ trivial trivial
def oI (a:Pos)(b:Int)(c:Int):Bool:=(bif cp (wr .i64 (wr .i64 (c.tdiv 8)-wr .i64 (b.tdiv 8)))==cp (wr .i64 (c.tmod 8-b.tmod 8))then(bif bE (a.ab.getD (scale 1 b).toNat 0)==1 then(bif oD (a.ab.getD (scale 1 b).toNat 0)==0 then(bif wr .i64 (wr .i64 (c.tdiv 8)-wr .i64 (b.tdiv 8))==1 then(cp (wr .i64 (c.tmod 8-b.tmod 8))==1)else(false))else(bif wr .i64 (wr .i64 (c.tdiv 8)-wr .i64 (b.tdiv 8)) == -1 then(cp (wr .i64 (c.tmod 8-b.tmod 8))==1)else(false)))else(bif bE (a.ab.getD (scale 1 b).toNat 0)==2 then(bif cp (wr .i64 (wr .i64 (c.tdiv 8)-wr .i64 (b.tdiv 8)))==1 then(bif cp (wr .i64 (c.tmod 8-b.tmod 8))==2 then(true)else(bif cp (wr .i64 (wr .i64 (c.tdiv 8)-wr .i64 (b.tdiv 8)))==2 then(cp (wr .i64 (c.tmod 8-b.tmod 8))==1)else(false)))else(bif cp (wr .i64 (wr .i64 (c.tdiv 8)-wr .i64 (b.tdiv 8)))==2 then(cp (wr .i64 (c.tmod 8-b.tmod 8))==1)else(false)))else(bif bE (a.ab.getD (scale 1 b).toNat 0)==6 then(je b c)else(bif bE (a.ab.getD (scale 1 b).toNat 0)==4 then(bif cg BinOp.neq ((wr .i64 (wr .i64 (c.tdiv 8)-wr .i64 (b.tdiv 8))==0)==(cp (wr .i64 (c.tmod 8-b.tmod 8))==0))then(dY a b c)else(false))else(bif bE (a.ab.getD (scale 1 b).toNat 0)==3 then(bif decide (cp (wr .i64 (c.tmod 8-b.tmod 8))>0)then(dY a b c)else(false))else(bif bE (a.ab.getD (scale 1 b).toNat 0)==5 then(bif cg BinOp.neq ((wr .i64 (wr .i64 (c.tdiv 8)-wr .i64 (b.tdiv 8))==0)==(cp (wr .i64 (c.tmod 8-b.tmod 8))==0))then(dY a b c)else(bif decide (cp (wr .i64 (c.tmod 8-b.tmod 8))>0)then(dY a b c)else(false)))else(false)))))))else(bif bE (a.ab.getD (scale 1 b).toNat 0)==1 then(bif oD (a.ab.getD (scale 1 b).toNat 0)==0 then(bif wr .i64 (wr .i64 (c.tdiv 8)-wr .i64 (b.tdiv 8))==1 then(cp (wr .i64 (c.tmod 8-b.tmod 8))==1)else(false))else(bif wr .i64 (wr .i64 (c.tdiv 8)-wr .i64 (b.tdiv 8)) == -1 then(cp (wr .i64 (c.tmod 8-b.tmod 8))==1)else(false)))else(bif bE (a.ab.getD (scale 1 b).toNat 0)==2 then(bif cp (wr .i64 (wr .i64 (c.tdiv 8)-wr .i64 (b.tdiv 8)))==1 then(bif cp (wr .i64 (c.tmod 8-b.tmod 8))==2 then(true)else(bif cp (wr .i64 (wr .i64 (c.tdiv 8)-wr .i64 (b.tdiv 8)))==2 then(cp (wr .i64 (c.tmod 8-b.tmod 8))==1)else(false)))else(bif cp (wr .i64 (wr .i64 (c.tdiv 8)-wr .i64 (b.tdiv 8)))==2 then(cp (wr .i64 (c.tmod 8-b.tmod 8))==1)else(false)))else(bif bE (a.ab.getD (scale 1 b).toNat 0)==6 then(je b c)else(bif bE (a.ab.getD (scale 1 b).toNat 0)==4 then(bif cg BinOp.neq ((wr .i64 (wr .i64 (c.tdiv 8)-wr .i64 (b.tdiv 8))==0)==(cp (wr .i64 (c.tmod 8-b.tmod 8))==0))then(dY a b c)else(false))else(bif bE (a.ab.getD (scale 1 b).toNat 0)==3 then(false)else(bif bE (a.ab.getD (scale 1 b).toNat 0)==5 then(bif cg BinOp.neq ((wr .i64 (wr .i64 (c.tdiv 8)-wr .i64 (b.tdiv 8))==0)==(cp (wr .i64 (c.tmod 8-b.tmod 8))==0))then(dY a b c)else(false))else(false))))))))
def pO (a:Pos)(b:Int)(c:Int):Bool:=(decide (0≤b)&&decide (b<Int.ofNat 64)&&(bif cp (wr .i64 (wr .i64 (c.tdiv 8)-wr .i64 (b.tdiv 8)))==cp (wr .i64 (c.tmod 8-b.tmod 8))then(bif bE (a.ab.getD (scale 1 b).toNat 0)==1 then true else(bif bE (a.ab.getD (scale 1 b).toNat 0)==2 then true else(bif bE (a.ab.getD (scale 1 b).toNat 0)==6 then true else(bif bE (a.ab.getD (scale 1 b).toNat 0)==4 then(bif cg BinOp.neq ((wr .i64 (wr .i64 (c.tdiv 8)-wr .i64 (b.tdiv 8))==0)==(cp (wr .i64 (c.tmod 8-b.tmod 8))==0))then(mV a b c&&true)else true)else(bif bE (a.ab.getD (scale 1 b).toNat 0)==3 then(bif decide (cp (wr .i64 (c.tmod 8-b.tmod 8))>0)then(mV a b c&&true)else true)else(bif bE (a.ab.getD (scale 1 b).toNat 0)==5 then(bif cg BinOp.neq ((wr .i64 (wr .i64 (c.tdiv 8)-wr .i64 (b.tdiv 8))==0)==(cp (wr .i64 (c.tmod 8-b.tmod 8))==0))then(mV a b c&&true)else(bif decide (cp (wr .i64 (c.tmod 8-b.tmod 8))>0)then(mV a b c&&true)else true))else true))))))else(bif bE (a.ab.getD (scale 1 b).toNat 0)==1 then true else(bif bE (a.ab.getD (scale 1 b).toNat 0)==2 then true else(bif bE (a.ab.getD (scale 1 b).toNat 0)==6 then true else(bif bE (a.ab.getD (scale 1 b).toNat 0)==4 then(bif cg BinOp.neq ((wr .i64 (wr .i64 (c.tdiv 8)-wr .i64 (b.tdiv 8))==0)==(cp (wr .i64 (c.tmod 8-b.tmod 8))==0))then(mV a b c&&true)else true)else(bif bE (a.ab.getD (scale 1 b).toNat 0)==3 then true else(bif bE (a.ab.getD (scale 1 b).toNat 0)==5 then(bif cg BinOp.neq ((wr .i64 (wr .i64 (c.tdiv 8)-wr .i64 (b.tdiv 8))==0)==(cp (wr .i64 (c.tmod 8-b.tmod 8))==0))then(mV a b c&&true)else true)else true))))))))
theorem api (a:Pos)(b:Int)(c:Int)(h:pO a b c=true):PS Pz 154 [Pos.av a,.int .i64 b,.int .i64 c] (dB.res (oI a b c)):=pq14 aew h
def FB:GT:=g3 aZ (dI .i64) (dI .i64) (fun a b c=>b7 (pO a b c) (dB.res (oI a b c)))
theorem Ix:Sound Pz 154 FB:=dc fun a b c=>aA (api a b c)
end Kz
namespace Kz
open Go Go.RowKit
def Bf (b c:Int):Int:=wr IntKind.i64 (wr IntKind.i64 (c.tdiv 8)-wr IntKind.i64 (b.tdiv 8))
def xk (b c:Int):Int:=wr IntKind.i64 (c.tmod 8-b.tmod 8)
def cY (k col b c:Int)(cl:Bool):Bool:=(bif cp (Bf b c)==cp (xk b c)then(bif k==1 then(bif col==0 then(bif Bf b c==1 then(cp (xk b c)==1)else(false))else(bif Bf b c == -1 then(cp (xk b c)==1)else(false)))else(bif k==2 then(bif cp (Bf b c)==1 then(bif cp (xk b c)==2 then(true)else(bif cp (Bf b c)==2 then(cp (xk b c)==1)else(false)))else(bif cp (Bf b c)==2 then(cp (xk b c)==1)else(false)))else(bif k==6 then(je b c)else(bif k==4 then(bif cg BinOp.neq ((Bf b c==0)==(cp (xk b c)==0))then(cl)else(false))else(bif k==3 then(bif decide (cp (xk b c)>0)then(cl)else(false))else(bif k==5 then(bif cg BinOp.neq ((Bf b c==0)==(cp (xk b c)==0))then(cl)else(bif decide (cp (xk b c)>0)then(cl)else(false)))else(false)))))))else(bif k==1 then(bif col==0 then(bif Bf b c==1 then(cp (xk b c)==1)else(false))else(bif Bf b c == -1 then(cp (xk b c)==1)else(false)))else(bif k==2 then(bif cp (Bf b c)==1 then(bif cp (xk b c)==2 then(true)else(bif cp (Bf b c)==2 then(cp (xk b c)==1)else(false)))else(bif cp (Bf b c)==2 then(cp (xk b c)==1)else(false)))else(bif k==6 then(je b c)else(bif k==4 then(bif cg BinOp.neq ((Bf b c==0)==(cp (xk b c)==0))then(cl)else(false))else(bif k==3 then(false)else(bif k==5 then(bif cg BinOp.neq ((Bf b c==0)==(cp (xk b c)==0))then(cl)else(false))else(false))))))))
theorem tP (p:Pos)(b c:Int):oI p b c=cY (bE (p.ab.getD (scale 1 b).toNat 0)) (oD (p.ab.getD (scale 1 b).toNat 0)) b c (dY p b c):=by kernel_rfl
def mu (a b:Nat):Bool:=decide (b∈nq a 0) ||decide (b∈nq a 2) ||decide (b∈nq a 4) ||decide (b∈nq a 6)
def mO (a b:Nat):Bool:=decide (b∈nq a 1) ||decide (b∈nq a 3) ||decide (b∈nq a 5) ||decide (b∈nq a 7)
theorem qy:∀a b:Fin 64,cY 2 0 a.val b.val false=(vw a.val).getLsbD b.val∧cY 6 0 a.val b.val false=(fB a.val).getLsbD b.val ∧
  cY 4 0 a.val b.val true=mu a.val b.val∧cY 4 0 a.val b.val false=false ∧
  cY 3 0 a.val b.val true=mO a.val b.val∧cY 3 0 a.val b.val false=false ∧
  cY 5 0 a.val b.val true=(mu a.val b.val ||mO a.val b.val)∧cY 5 0 a.val b.val false=false:=by decide +kernel
theorem kr {k col a b:Int}{cl:Bool}(h1:(k==1)=false):cY k col a b cl=cY k 0 a b cl:=by unfold cY;rw[h1];rfl
noncomputable section
variable {p:Pos}{occ:BitVec 64}(hocc:∀s,s<64→(occ.getLsbD s=false ↔ bE (p.ab.getD s 0)=0)){a b:Nat}(ha:a<64)(hb:b<64)
include hocc ha hb
theorem jC {d:Nat}(hd:d<8):(rL a d occ).getLsbD b=(decide (b∈nq a d)&&dY p a b):=by
 rw[Jm ha hd occ hb];by_cases h:b∈nq a d
 ·rw[(ns p hocc ha hd h).2];simp[h]
 ·have:b∉seen occ (nq a d):=fun hs=>h (BC hs);simp[h,this]
theorem wB:(xD a occ).getLsbD b=(mu a b&&dY p a b):=by unfold xD mu;have h0:=jC hocc ha hb (d:=0) (by decide);have h2:=jC hocc ha hb (d:=2) (by decide);have h4:=jC hocc ha hb (d:=4) (by decide);have h6:=jC hocc ha hb (d:=6) (by decide);grind
theorem oE:(xy a occ).getLsbD b=(mO a b&&dY p a b):=by unfold xy mO;have h0:=jC hocc ha hb (d:=1) (by decide);have h2:=jC hocc ha hb (d:=3) (by decide);have h4:=jC hocc ha hb (d:=5) (by decide);have h6:=jC hocc ha hb (d:=7) (by decide);grind
theorem yU:(Al a occ).getLsbD b=((mu a b ||mO a b)&&dY p a b):=by unfold Al;rw[BitVec.getLsbD_or,wB hocc ha hb,oE hocc ha hb];grind
def GI (k:Int)(a:Nat)(occ:BitVec 64):BitVec 64:=bif k==2 then vw a else bif k==3 then xy a occ else bif k==4 then xD a occ else bif k==5 then Al a occ else fB a
theorem OB (hk:2≤bE (p.ab.getD a 0)∧bE (p.ab.getD a 0)≤6):oI p a b=(GI (bE (p.ab.getD a 0)) a occ).getLsbD b:=by
 obtain⟨f2,f6,f4,f4',f3,f3',f5,f5'⟩:=qy ⟨a,ha⟩ ⟨b,hb⟩;simp only at f2 f6 f4 f4' f3 f3' f5 f5';have hr:=wB hocc ha hb;have hbi:=oE hocc ha hb;have hqu:=yU hocc ha hb;rw[tP,show(scale 1 (a:Int)).toNat=a by unfold scale;simp];generalize oD (p.ab.getD a 0)=col;generalize bE (p.ab.getD a 0)=k at hk;rw[kr (by simp;omega)];have hk':k=2∨k=3∨k=4∨k=5∨k=6:=by omega
 rcases hk' with rfl|rfl|rfl|rfl|rfl
 ·show cY 2 0 a b (dY p a b)=(vw a).getLsbD b;rw[←f2];rfl
 ·show cY 3 0 a b (dY p a b)=(xy a occ).getLsbD b;rw[hbi];cases dY p a b
  ·simp_all
  simp_all
 ·show cY 4 0 a b (dY p a b)=(xD a occ).getLsbD b;rw[hr];cases dY p a b
  ·simp_all
  simp_all
 ·show cY 5 0 a b (dY p a b)=(Al a occ).getLsbD b;rw[hqu];cases dY p a b
  ·simp_all
  simp_all
 ·show cY 6 0 a b (dY p a b)=(fB a).getLsbD b;rw[←f6];rfl
end
end Kz
namespace Kz
open Go Go.RowKit Go.Proofs
def K97:KT:=[(97,11,[(0,[1,2]),(1,[4])])]
def B97:ar:=bO Pz K97 [(82,nP)] [] []
theorem apz:aO B97:=af ae ⟨nZ,trivial⟩ trivial trivial
def Cc (a:Pos)(b:Int):Bool:=(bE (a.ab.getD (scale 1 b).toNat 0)==0)
def ri (a:Pos)(b:Int):Bool:=(decide (0≤b)&&decide (b < ↑64)&&true)
theorem P97 (a:Pos)(b:Int)(h:ri a b=true):PS Pz 97 [Pos.av a,.int .i64 b] (dB.res (Cc a b)):=pq14 apz h
def G97:GT:=g2 aZ (dI .i64) (fun a b=>b7 (ri a b) (dB.res (Cc a b)))
theorem s97:Sound Pz 97 G97:=aP fun a b=>aA (P97 a b)
def as5:KT:=[(151,20,[(0,(1::2::3::(rn 12 7 []))),(1,[6])])]
def aq4:ar:=bO Pz as5 [(83,VW),(97,G97)] [] []
theorem aiX:aO aq4:=af ae ⟨X3,s97,trivial⟩ trivial trivial
def wR (a:Pos)(b:Int)(c:Int):Bool:=(bif !Cc a b then(oD (a.ab.getD (scale 1 b).toNat 0)==c)else(false))
def si (a:Pos)(b:Int)(c:Int):Bool:=(ri a b&&(bif !Cc a b then(decide (0≤b)&&decide (b < ↑64)&&true)else true))
theorem akU (a:Pos)(b:Int)(c:Int)(h:si a b c=true):PS Pz 151 [Pos.av a,.int .i64 b,.int .u8 c] (dB.res (wR a b c)):=pq14 aiX h
def Lk:GT:=g3 aZ (dI .i64) (dI .u8) (fun a b c=>b7 (si a b c) (dB.res (wR a b c)))
theorem Tj:Sound Pz 151 Lk:=dc fun a b c=>aA (akU a b c)
def K94:KT:=[(94,12,[(0,[0,1]),(1,[1,6]),(2,[4]),(3,[4])])]
def B94:ar:=bO Pz K94 [] [] []
theorem arb:aO B94:=af ae trivial trivial trivial
def xb (a:Int)(b:Int):Int:=(bif a==0 then(wr .i64 (b.tdiv 8))else(wr .i64 (7-wr .i64 (b.tdiv 8))))
def atA (a:Int)(b:Int):Bool:=true
theorem P94 (a:Int)(b:Int)(h:atA a b=true):PS Pz 94 [.int .u8 a,.int .i64 b] ((dI .i64).res (xb a b)):=pq14 arb h
def Th:GT:=g2 (dI .u8) (dI .i64) (fun a b=>.ret ((dI .i64).res (xb a b)))
theorem VE:Sound Pz 94 Th:=aP fun a b=>bH (P94 a b rfl)
def K98:KT:=[(98,5,[(0,[0]),(1,[4]),(2,[2]),(3,[2])])]
def B98:ar:=bO Pz K98 [] [] []
theorem amU:aO B98:=af ae trivial trivial trivial
def iG (a:Int):Int:=(bif a==0 then(8)else(-8))
def apK (a:Int):Bool:=true
theorem P98 (a:Int)(h:apK a=true):PS Pz 98 [.int .u8 a] ((dI .i64).res (iG a)):=pq14 amU h
def G98:GT:=g1 (dI .u8) (fun a=>.ret ((dI .i64).res (iG a)))
theorem s98:Sound Pz 98 G98:=aH fun a=>bH (P98 a rfl)
def asF:KT:=[(157,79,[(0,(1::2::3::(rn 24 5 (rn 45 12 (65::(rn 68 5 [75,76,77])))))),(1,(1::2::3::7::(rn 24 5 (rn 45 12 (65::(rn 68 5 [75,76,77])))))),(2,(1::2::3::7::16::(rn 24 5 (rn 45 12 (65::(rn 68 5 [75,76,77])))))),(3,[6]),(4,(1::2::3::7::34::(rn 45 12 (65::(rn 68 5 [75,76,77]))))),(5,[6]),(6,(1::2::3::7::8::(rn 45 12 (65::(rn 68 5 [75,76,77]))))),(7,(1::2::3::7::9::65::(rn 68 5 [75,76,77]))),(8,[6])])]
def asu:ar:=bO Pz asF [(151,Lk),(97,G97),(98,G98),(154,FB),(94,Th)] [] []
theorem agd:aO asu:=af ae ⟨Tj,s97,s98,Ix,VE,trivial⟩ trivial trivial
def PT (a:Pos)(b:Int)(c:Int):Bool:=(bif oI a b c then(bif wR a c (wr .u8 (1-a.aa))then(true)else(wr .i64 a.az==c))else(bif c==wr .i64 (b+iG a.aa)then(Cc a c)else(bif xb a.aa b==1 then(bif c==wr .i64 (b+wr .i64 (2*iG a.aa))then(bif Cc a (wr .i64 (b+iG a.aa))then(Cc a c)else(false))else(false))else(bif xb a.aa b==0 then(bif a.variant==7 then(bif c==wr .i64 (b+wr .i64 (2*iG a.aa))then(bif a.aa==0 then(bif Cc a (wr .i64 (b+iG a.aa))then(Cc a c)else(false))else(false))else(false))else(bif c==wr .i64 (b+wr .i64 (2*iG a.aa))then(false)else(false)))else(bif c==wr .i64 (b+wr .i64 (2*iG a.aa))then(false)else(false))))))
def Cw (a:Pos)(b:Int)(c:Int):Bool:=(pO a b c&&(bif oI a b c then(si a c (wr .u8 (1-a.aa))&&true)else(bif c==wr .i64 (b+iG a.aa)then(ri a c&&true)else(bif xb a.aa b==1 then(bif c==wr .i64 (b+wr .i64 (2*iG a.aa))then(ri a (wr .i64 (b+iG a.aa))&&(bif Cc a (wr .i64 (b+iG a.aa))then(ri a c&&true)else true))else true)else(bif xb a.aa b==0 then(bif a.variant==7 then(bif c==wr .i64 (b+wr .i64 (2*iG a.aa))then(bif a.aa==0 then(ri a (wr .i64 (b+iG a.aa))&&(bif Cc a (wr .i64 (b+iG a.aa))then(ri a c&&true)else true))else true)else true)else true)else true)))))
theorem auf (a:Pos)(b:Int)(c:Int)(h:Cw a b c=true):PS Pz 157 [Pos.av a,.int .i64 b,.int .i64 c] (dB.res (PT a b c)):=pq14 agd h
def aji:GT:=g3 aZ (dI .i64) (dI .i64) (fun a b c=>b7 (Cw a b c) (dB.res (PT a b c)))
theorem atw:Sound Pz 157 aji:=dc fun a b c=>aA (auf a b c)
def K93:KT:=[(93,56,[(0,(1::2::3::(rn 11 6 (rn 19 5 (rn 43 8 []))))),(1,(1::2::3::24::(rn 43 8 []))),(2,[6]),(3,(1::2::3::29::(rn 43 8 []))),(4,(1::2::3::29::30::(rn 43 8 []))),(5,[6]),(6,(1::2::3::36::(rn 43 8 []))),(7,[6]),(8,[6])])]
def B93:ar:=bO Pz K93 [(82,nP),(151,Lk),(97,G97),(154,FB),(157,aji)] [] []
theorem aoA:aO B93:=af ae ⟨nZ,Tj,s97,Ix,atw,trivial⟩ trivial trivial
def DM (a:Pos)(b:Int)(c:Int):Bool:=(bif b==c then(false)else(bif !wR a b a.aa then(false)else(bif wR a c a.aa then(false)else(bif bE (a.ab.getD (scale 1 b).toNat 0)==1 then(PT a b c)else(bif bE (a.ab.getD (scale 1 b).toNat 0)==6 then(bif oI a b c then(bif a.variant != 3 then(true)else(Cc a c))else(false))else(oI a b c))))))
def IG (a:Pos)(b:Int)(c:Int):Bool:=(bif b==c then true else(si a b (a.aa)&&(bif !wR a b a.aa then true else(si a c (a.aa)&&(bif wR a c a.aa then true else(decide (0≤b)&&decide (b<Int.ofNat 64)&&(bif bE (a.ab.getD (scale 1 b).toNat 0)==1 then(Cw a b c&&true)else(bif bE (a.ab.getD (scale 1 b).toNat 0)==6 then(pO a b c&&(bif oI a b c then(bif a.variant != 3 then true else(ri a c&&true))else true))else(pO a b c&&true)))))))))
theorem P93 (a:Pos)(b:Int)(c:Int)(h:IG a b c=true):PS Pz 93 [Pos.av a,.int .i64 b,.int .i64 c] (dB.res (DM a b c)):=pq14 aoA h
def G93:GT:=g3 aZ (dI .i64) (dI .i64) (fun a b c=>b7 (IG a b c) (dB.res (DM a b c)))
theorem MA:Sound Pz 93 G93:=dc fun a b c=>aA (P93 a b c)
end Kz
namespace Kz
open Go Go.RowKit
theorem SP:∀v:Fin 256,di v.val=bE v.val∧(dv 0 0 v.val=(!(bE v.val==0)&&oD v.val==0))∧(dv 1 0 v.val=(!(bE v.val==0)&&oD v.val==1))∧((dv 0 0 v.val ||dv 1 0 v.val)=!(bE v.val==0))∧(bE v.val=0∨bE v.val=1∨(2≤bE v.val∧bE v.val≤6)):=by decide +kernel
theorem sI {v:Int}(h0:0≤v)(h1:v≤255):di v=bE v∧(dv 0 0 v=(!(bE v==0)&&oD v==0))∧(dv 1 0 v=(!(bE v==0)&&oD v==1))∧((dv 0 0 v ||dv 1 0 v)=!(bE v==0))∧(bE v=0∨bE v=1∨(2≤bE v∧bE v≤6)):=by obtain⟨n,rfl⟩:=Int.eq_ofNat_of_zero_le h0;exact SP ⟨n,by omega⟩
noncomputable section
variable {p:Pos}(hp:ax p)(ht:p.aa=0∨p.aa=1)
include hp ht
theorem jb {c:Int}(hc:c=0∨c=1){i:Nat}(hi:i<64):wR p i c=(aS p c 0).getLsbD i:=by obtain⟨b0,b1⟩:=fa hp i;obtain⟨_,m0,m1,_⟩:=sI b0 b1;rw[bK _ _ _ hi];unfold wR Cc;rw[show(scale 1 (i:Int)).toNat=i by unfold scale;simp];grind
theorem MB:ov p=aS p (1-p.aa) 0:=by unfold ov;rw[kD (by omega) (by omega)]
theorem AA {s:Nat}(hs:s<64):(own p|||ov p).getLsbD s=false ↔ bE (p.ab.getD s 0)=0:=by obtain⟨b0,b1⟩:=fa hp s;obtain⟨_,_,_,m,_⟩:=sI b0 b1;rw[BitVec.getLsbD_or,MB hp ht];unfold own;rw[bK _ _ _ hs,bK _ _ _ hs];grind
theorem zF {s:Nat}(hs:s<64):Cc p s=!(own p|||ov p).getLsbD s:=by have h:=AA hp ht hs;unfold Cc;rw[show(scale 1 (s:Int)).toNat=s by unfold scale;simp];grind
theorem RU {f t:Nat}(hf:f<64)(h64:t<64)(hown:(own p).getLsbD f=true)(hk:bE (p.ab.getD f 0)≠1):DM p f t=(iC (p,own p,ov p) f).getLsbD t:=by
 obtain⟨b0,b1⟩:=fa hp f;obtain⟨m91,_,_,mm,mk⟩:=sI b0 b1;have e1:=jb hp ht ht hf;have e2:=jb hp ht ht h64;have ho:aS p p.aa 0=own p:=rfl;rw[ho]at e1 e2;rw[hown]at e1;have hocc:=fun s hs=>AA hp ht (s:=s) hs;have hne:bE (p.ab.getD f 0)≠0:=by grind
 have h26:2≤bE (p.ab.getD f 0)∧bE (p.ab.getD f 0)≤6:=by omega
 have hit:=OB (p:=p) (occ:=own p|||ov p) hocc hf h64 h26;have emp:=zF hp ht h64;unfold DM iC;dsimp only;rw[e1,e2,show(scale 1 (f:Int)).toNat=f by unfold scale;simp,m91,hit,emp];unfold GI;have hft:((f:Int)==(t:Int))=decide (f=t):=by rw[Bool.eq_iff_iff];simp;omega
 rw[hft];generalize bE (p.ab.getD f 0)=k at *;have hk':k=2∨k=3∨k=4∨k=5∨k=6:=by omega
 by_cases hts:f=t
 ·grind
 grind
end
theorem CO (x:BitVec 64){k:Nat}(hk:k<64):(x >>> k&&&1#64==1#64)=x.getLsbD k:=by
 have h:(x >>> k&&&1#64).toNat=(x.getLsbD k).toNat:=by
  rw[BitVec.toNat_and,BitVec.toNat_ushiftRight,Nat.shiftRight_eq_div_pow,show(1#64).toNat=2^1-1 from rfl,Nat.and_two_pow_sub_one_eq_mod,BitVec.getLsbD,Nat.testBit_eq_decide_div_mod_eq];have:=Nat.mod_two_eq_zero_or_one (x.toNat / 2^k);rcases this with h|h
  ·rw[show(2:Nat)^1=2 from rfl,h];rfl
  ·rw[show(2:Nat)^1=2 from rfl,h];rfl
 grind
theorem Qb:∀(c:Fin 2) (f t:Fin 64),cY 1 c.val f.val t.val false=(eW c.val f.val).getLsbD t.val:=by decide +kernel
theorem wQ:∀(c:Fin 2) (f:Fin 64),lG c.val f.val=xb c.val f.val∧(lG c.val f.val≠7→0≤dA c.val f.val∧dA c.val f.val<64)∧dA c.val f.val=f.val+iG c.val∧(lG c.val f.val=1∨lG c.val f.val=0→dA c.val (dA c.val f.val)=f.val+2*iG c.val∧0≤dA c.val (dA c.val f.val)∧dA c.val (dA c.val f.val)<64)∧(lG c.val f.val=7→dA c.val f.val<0∨64≤dA c.val f.val)∧(iG c.val=8∨iG c.val = -8):=by decide +kernel
theorem JG:∀(c:Fin 2) (f t:Fin 64),(eW c.val f.val).getLsbD t.val=true→(t.val:Int)≠f.val+iG c.val∧(t.val:Int)≠f.val+2*iG c.val:=by decide +kernel
theorem Lx {n:Int}(h0:0≤n)(h1:n<64){t:Nat}(ht:t<64):(1#64 <<< (BitVec.ofInt 64 n).toNat).getLsbD t=decide ((t:Int)=n):=by rw[nL ht,fw h0 (by omega),Bool.eq_iff_iff];simp;omega
noncomputable section
variable {p:Pos}(hp:ax p)(ht:p.aa=0∨p.aa=1)
include hp ht
theorem Px {f t:Nat}(hf:f<64)(h64:t<64)(hown:(own p).getLsbD f=true)(hk:bE (p.ab.getD f 0)=1):DM p f t=(iC (p,own p,ov p) f).getLsbD t:=by
 obtain⟨b0,b1⟩:=fa hp f;obtain⟨m91,m0,m1,_,_⟩:=sI b0 b1;have e1:=jb hp ht ht hf;have e2:=jb hp ht ht h64;have ho:aS p p.aa 0=own p:=rfl;rw[ho]at e1 e2;rw[hown]at e1;have hcol:oD (p.ab.getD f 0)=p.aa:=by
  have:dv p.aa 0 (p.ab.getD f 0)=true:=by rw[←bK p p.aa 0 hf];exact hown
  rcases ht with h|h
  ·simp_all
  ·simp_all
 have w1:wr .u8 (1-p.aa)=1-p.aa:=kD (by omega) (by omega);have e3:wR p t (wr .u8 (1-p.aa))=(ov p).getLsbD t:=by rw[w1,jb hp ht (by omega) h64,MB hp ht]
 have hsf:(scale 1 (f:Int)).toNat=f:=by unfold scale;simp
 have emp:=fun s hs=>zF hp ht (s:=s) hs;obtain⟨c,hc⟩:∃c:Fin 2,p.aa=c.val:=by simp_all
 have hat:=Qb c ⟨f,hf⟩ ⟨t,h64⟩;obtain⟨r1,r2,r3,r4,r5,r6⟩:=wQ c ⟨f,hf⟩;have hz:=JG c ⟨f,hf⟩ ⟨t,h64⟩;simp only at hat r1 r2 r3 r4 r5 r6 hz;rw[←hc]at hat r1 r2 r3 r4 r5 r6 hz;have hA:oI p f t=(eW p.aa f).getLsbD t:=by rw[tP,hsf,hk,hcol,←hat];rfl
 have p0:=hp.p0;have p1:=hp.p1;have wp:wr .i64 p.az=p.az:=aF (by omega) (by omega);have hP:(rV (p,own p,ov p)).getLsbD t=(p.az==(t:Int)):=by
  unfold rV;refine al (P:=fun x:BitVec 64=>x.getLsbD t=_) (fun h=>?_) fun h=>al (P:=fun x:BitVec 64=>x.getLsbD t=_) (fun h2=>?_) fun h2=>?_
  ·grind
  ·grind
  ·have h:0≤p.az:=by simpa using h
   have h2:p.az<64:=by simpa using h2
   show(1#64 <<< (BitVec.ofInt 64 p.az).toNat).getLsbD t=_;rw[Lx h h2 h64,Bool.eq_iff_iff];simp;omega
 unfold DM iC;dsimp only;rw[e1,e2,hsf,m91,hk];show(bif(f:Int)==(t:Int)then false else bif(own p).getLsbD t then false else PT p f t)=(CE (p,own p,ov p) f &&& ~~~own p).getLsbD t;rw[BitVec.getLsbD_and,BitVec.getLsbD_not];by_cases hft:f=t
 ·simp_all
 ·rw[show((f:Int)==(t:Int))=false by simp;omega,cond_false];cases hW:(own p).getLsbD t with
  |true=>simp
  |false =>
   simp only[cond_false,h64,decide_true,Bool.not_false,Bool.and_true];have hoc:(own p|||ov p).getLsbD t=(ov p).getLsbD t:=by rw[BitVec.getLsbD_or,hW,Bool.false_or]
   unfold PT CE;dsimp only;rw[hA,e3,wp,←r1];have wup:wr .i64 ((f:Int)+iG p.aa)=f+iG p.aa:=aF (by omega) (by omega);have wup2:wr .i64 (2*iG p.aa)=2*iG p.aa:=aF (by omega) (by omega);have wup3:wr .i64 ((f:Int)+2*iG p.aa)=f+2*iG p.aa:=aF (by omega) (by omega);rw[wup2,wup,wup3,show(Pos.mk p.variant p.ab p.ai p.ah p.aa p.ao p.az p.au p.half p.full,own p,ov p)=(p,own p,ov p)from rfl];have hatt:∀X:BitVec 64,X=eW p.aa f&&&(ov p|||rV (p,own p,ov p))→X.getLsbD t=((eW p.aa f).getLsbD t&&((ov p).getLsbD t ||(p.az==(t:Int)))):=by simp_all
   generalize hXX:eW p.aa f&&&(ov p|||rV (p,own p,ov p))=X at *;have hatt:=hatt X rfl;have hpass:(p.az==(t:Int))=((p.az:Int)==t):=rfl;generalize (eW p.aa f).getLsbD t=A at *;by_cases h7:lG p.aa f=7
   ·grind
   ·obtain⟨a0,a1⟩:=r2 h7;rw[show(lG p.aa f==7)=false by simpa using h7,cond_false,fw a0 (by omega),CO _ (by omega)];obtain⟨s,hs⟩:=Int.eq_ofNat_of_zero_le a0;have hs64:s<64:=by omega
    rw[show(dA p.aa f).toNat=s by omega,show(f:Int)+iG p.aa=(s:Int)by omega,emp s hs64,emp t h64];have hb1:(1#64 <<< s).getLsbD t=((t:Int)==(s:Int)):=by rw[nL h64,Bool.eq_iff_iff];simp;omega
    have hb2:(lG p.aa f=1∨lG p.aa f=0)→(1#64 <<< (BitVec.ofInt 64 (dA p.aa (dA p.aa f))).toNat).getLsbD t=((t:Int)==(f:Int)+2*iG p.aa):=fun h=>by obtain⟨c1,c2,c3⟩:=r4 h;rw[Lx c2 c3 h64,c1,Bool.eq_iff_iff];simp
    generalize 1#64 <<< (BitVec.ofInt 64 (dA p.aa (dA p.aa f))).toNat=Y at hb2⊢;have q1:((t:Int)==(s:Int))=true→A=false∧(own p|||ov p).getLsbD t=(own p|||ov p).getLsbD s:=by grind
    grind
end
end Kz
namespace Kz
open Go Go.RowKit Go.Proofs
def K19:KT:=[(19,11,[(0,[1,7,8,9]),(1,[2])])]
def B19:ar:=bO Pz K19 [] [] []
theorem alZ:aO B19:=af ae trivial trivial trivial
def qK (a:Pos):Bool:=(bif decide (a.variant<9)then(decide (a.aa<2))else(false))
def alh (a:Pos):Bool:=true
theorem P19 (a:Pos)(h:alh a=true):PS Pz 19 [Pos.av a] (dB.res (qK a)):=pq14 alZ h
def JZ:GT:=g1 aZ (fun a=>.ret (dB.res (qK a)))
theorem Kg:Sound Pz 19 JZ:=aH fun a=>bH (P19 a rfl)
def K95:KT:=[(95,11,[(0,[0]),(1,[0,3]),(2,[2]),(3,[7]),(4,[2]),(5,[2])])]
def B95:ar:=bO Pz K95 [] [] []
theorem anu:aO B95:=af ae trivial trivial trivial
def s9 (a:Int):List Int:=(bif a==4 then[(2),3,4,5,(6)]else(bif decide (a<8)then[(2),3,4,(5)]else([])))
def ane (a:Int):Bool:=true
theorem P95 (a:Int)(h:ane a=true):PS Pz 95 [.int .u8 a] ((dL (.i .u8)).res (s9 a)):=pq14 anu h
def XV:GT:=g1 (dI .u8) (fun a=>.ret ((dL (.i .u8)).res (s9 a)))
theorem s95:Sound Pz 95 XV:=aH fun a=>bH (P95 a rfl)
def K38:KT:=[(38,67,[(0,(1::(rn 38 5 []))),(1,(1::3::(rn 38 5 []))),(2,(1::3::11::(rn 38 5 []))),(3,[2]),(4,(1::3::4::(rn 38 5 []))),(5,(1::3::4::14::(rn 38 5 []))),(6,(1::3::4::(rn 38 5 []))),(7,(1::3::4::5::(rn 38 5 []))),(8,(1::3::4::5::18::(rn 38 5 []))),(9,(1::3::4::5::(rn 38 5 []))),(10,(1::3::4::5::25::(rn 38 5 []))),(11,(1::(rn 3 4 (rn 38 5 [])))),(12,(1::(rn 3 4 (rn 38 6 [])))),(13,(1::3::4::5::(rn 38 5 []))),(14,(1::(rn 3 5 (rn 38 5 [])))),(15,(1::(rn 3 6 (rn 38 5 [])))),(16,(1::(rn 3 6 (rn 38 5 [54])))),(17,(1::(rn 3 6 (rn 38 5 [])))),(18,(1::(rn 3 6 (rn 38 5 [])))),(19,(1::(rn 3 6 (rn 38 5 [])))),(20,[2])])]
def aiK:ar:=bO Pz K38 [(19,JZ),(82,nP),(93,G93),(94,Th),(95,XV)] [] []
theorem aa5:aO aiK:=af ae ⟨Kg,nZ,MA,VE,s95,trivial⟩ trivial trivial
def W4 (p1:Int)(p2:Int)(p3:Z')(p4:Int)(p5:Int)(p6:Bool)(p7:Pos)(p8:Nat)(x:(M'×Int×Mv)):St:=St.mk (.any::.ptr 0 0::.any::.list .mv x.1 (.own 1)::.int .i64 p1::.int .i64 p2::.ptr 1 0::.list (ET.i .u8) p3 .fresh::.int .i64 x.2.1::(an 29 (.ptr 0 78::.int .u8 p4::.int .i64 p2::.int .i64 p5::.bool p6::(an 24 [])))) (Hp.mk [(pc p7 []),[.int .i8 x.2.2.aD,.int .i8 x.2.2.to,.int .u8 x.2.2.bU,.int .u8 x.2.2.bh,.bool x.2.2.bZ]] [p8,x.1.length] [] 0 0 0)
def Vr (p1:Int)(p2:Int)(p3:Z')(p4:Int)(p5:Int)(p6:Bool)(p7:Pos)(p8:Nat):(M'×Int×Bool×Mv)→Out:=fun y=>.exit 4 (St.mk (.any::.ptr 0 0::.any::.list .mv y.1 (.own 1)::.int .i64 p1::.int .i64 p2::.ptr 1 0::.list (ET.i .u8) p3 .fresh::.int .i64 y.2.1::(an 29 (.ptr 0 78::.int .u8 p4::.int .i64 p2::.int .i64 p5::.bool p6::(an 11 (.bool y.2.2.1::(an 12 [])))))) (Hp.mk [(pc p7 []),[.int .i8 y.2.2.2.aD,.int .i8 y.2.2.2.to,.int .u8 y.2.2.2.bU,.int .u8 y.2.2.2.bh,.bool y.2.2.2.bZ]] [p8,y.1.length] [] 0 0 0))
def Zc (p1:Int)(p2:Int)(p3:Z')(p4:Int)(p5:Int)(p6:Bool)(p7:Pos)(p8:Nat)(x:(M'×Int×Mv)):aG (M'×Int×Mv) ((M'×Int×Bool×Mv)):=(bif decide (x.2.1<Int.ofNat p3.length)then(aG.go (x.1++[Mv.mk x.2.2.aD x.2.2.to (p3.getD x.2.1.toNat default) x.2.2.bh x.2.2.bZ],wr .i64 (x.2.1+1),Mv.mk x.2.2.aD x.2.2.to (p3.getD x.2.1.toNat default) x.2.2.bh x.2.2.bZ))else(aG.out ((x.1,x.2.1,decide (x.2.1<Int.ofNat p3.length),x.2.2))))
def Ru (p1:Int)(p2:Int)(p3:Z')(p4:Int)(p5:Int)(p6:Bool)(p7:Pos)(p8:Nat)(x:(M'×Int×Mv)):Bool:=(bif decide (x.2.1<Int.ofNat p3.length)then(decide (0≤x.2.1)&&decide (x.2.1<Int.ofNat p3.length)&&(x.1.length==x.1.length&&decide (x.1.length+1≤1073741824)&&true))else true)
def uU (p1:Int)(p2:Int)(p3:Z')(p4:Int)(p5:Int)(p6:Bool)(p7:Pos)(p8:Nat)(x:(M'×Int×Mv)):Option ((M'×Int×Bool×Mv)):=cW (fun x=>bif Ru p1 p2 p3 p4 p5 p6 p7 p8 x then Zc p1 p2 p3 p4 p5 p6 p7 p8 x else .bad) many x
abbrev Wr {α:Type}(k:Int→Int→Z'→Int→Int→Bool→Pos→Nat→(M'×Int×Mv)→α)(s:St):α:=wP s 0 fun q0=>wM s 1 fun q1=>k (tI (tT s 4)) (tI (tT s 5)) (tL (ET.i .u8) (tT s 7)) (tI (tT s 39)) (tI (tT s 41)) (tB (tT s 42)) q0 (tK s 0) ((tL (ET.mv) (tT s 3)),(tI (tT s 8)),q1)
theorem aj4 (p1:Int)(p2:Int)(p3:Z')(p4:Int)(p5:Int)(p6:Bool)(p7:Pos)(p8:Nat)(x:(M'×Int×Mv))(r:(M'×Int×Bool×Mv))(h:uU p1 p2 p3 p4 p5 p6 p7 p8 x=some r):aC Pz (bc Pz 38 16) (W4 p1 p2 p3 p4 p5 p6 p7 p8 x) (Vr p1 p2 p3 p4 p5 p6 p7 p8 r):=smq (m:=12) (fn:=38) aa5 (Wr fun _ _ _ _ _ _ _ _ x=>some x) (fun o=>match o with | .exit 4 s=>wM s 1 fun q1=>some ((tL ET.mv (tT s 3)),(tI (tT s 8)),(tB (tT s 54)),q1)|_=>none) many x r h
def GC (b:Code)(s:St):Tr Out:=Wr (fun p1 p2 p3 p4 p5 p6 p7 p8 x=>jS b (bc Pz 38 16) s (W4 p1 p2 p3 p4 p5 p6 p7 p8 x) (uU p1 p2 p3 p4 p5 p6 p7 p8 x) (Vr p1 p2 p3 p4 p5 p6 p7 p8)) s
theorem D8:∀b,aT Pz b (GC b):=fun _ _ _ h=>bF (aj4 _ _ _ _ _ _ _ _ _) h
def ajb:ar:=bO Pz K38 [(19,JZ),(82,nP),(93,G93),(94,Th),(95,XV)] [(38,16,GC)] []
theorem XZ:aO ajb:=af ae ⟨Kg,nZ,MA,VE,s95,trivial⟩ ⟨D8,trivial⟩ trivial
def Wf (p1:Int)(p2:Pos)(p3:Nat)(x:(M'×Int)):St:=St.mk (.any::.ptr 0 0::.any::.list .mv x.1 (.own 1)::.int .i64 p1::.int .i64 x.2::(an 61 [])) (Hp.mk [(pc p2 [])] [p3,x.1.length] [] 0 0 0)
def We (p1:Int)(p2:Pos)(p3:Nat):(M'×Int×Bool)→Out:=fun y=>.exit 2 (St.mk (.any::.ptr 0 0::.any::.list .mv y.1 (.own 1)::.int .i64 p1::.int .i64 y.2.1::(an 12 (.bool y.2.2::(an 48 [])))) (Hp.mk [(pc p2 [])] [p3,y.1.length] [] 0 0 0))
def QQ (p1:Int)(p2:Pos)(p3:Nat)(x:(M'×Int)):aG (M'×Int) ((M'×Int×Bool)):=(bif decide (x.2<64)then(bif !DM p2 p1 x.2 then(aG.go (x.1,wr .i64 (x.2+1)))else(bif bE (p2.ab.getD (scale 1 p1).toNat 0) != 1 then(aG.go (x.1++[Mv.mk (wr .i8 p1) (wr .i8 x.2) 0 0 false],wr .i64 (x.2+1)))else(bif xb p2.aa x.2 != 7 then(aG.go (x.1++[Mv.mk (wr .i8 p1) (wr .i8 x.2) 0 0 false],wr .i64 (x.2+1)))else(aG.go (((uU p1 x.2 (s9 p2.variant) p2.aa (xb p2.aa x.2) (xb p2.aa x.2 != 7) p2 p3 (x.1,0,Mv.mk (wr .i8 p1) (wr .i8 x.2) 0 0 false)).getD default).1,wr .i64 (x.2+1))))))else(aG.out ((x.1,x.2,decide (x.2<64)))))
def Gg (p1:Int)(p2:Pos)(p3:Nat)(x:(M'×Int)):Bool:=(bif decide (x.2<64)then(IG p2 p1 (x.2)&&(bif !DM p2 p1 x.2 then true else(decide (0≤p1)&&decide (p1<Int.ofNat 64)&&(bif bE (p2.ab.getD (scale 1 p1).toNat 0) != 1 then(x.1.length==x.1.length&&decide (x.1.length+1≤1073741824)&&true)else(bif xb p2.aa x.2 != 7 then(x.1.length==x.1.length&&decide (x.1.length+1≤1073741824)&&true)else((uU p1 x.2 (s9 p2.variant) p2.aa (xb p2.aa x.2) (xb p2.aa x.2 != 7) p2 p3 (x.1,0,Mv.mk (wr .i8 p1) (wr .i8 x.2) 0 0 false)).isSome&&true))))))else true)
def vu (p1:Int)(p2:Pos)(p3:Nat)(x:(M'×Int)):Option ((M'×Int×Bool)):=cW (fun x=>bif Gg p1 p2 p3 x then QQ p1 p2 p3 x else .bad) many x
abbrev XP {α:Type}(k:Int→Pos→Nat→(M'×Int)→α)(s:St):α:=wP s 0 fun q0=>k (tI (tT s 4)) q0 (tK s 0) ((tL (ET.mv) (tT s 3)),(tI (tT s 5)))
theorem ac9 (p1:Int)(p2:Pos)(p3:Nat)(x:(M'×Int))(r:(M'×Int×Bool))(h:vu p1 p2 p3 x=some r):aC Pz (bc Pz 38 8) (Wf p1 p2 p3 x) (We p1 p2 p3 r):=smq (m:=12) (fn:=38) XZ (XP fun _ _ _ x=>some x) (fun o=>match o with | .exit 2 s=>some ((tL ET.mv (tT s 3)),(tI (tT s 5)),(tB (tT s 18)))|_=>none) many x r h
def QT (b:Code)(s:St):Tr Out:=XP (fun p1 p2 p3 x=>jS b (bc Pz 38 8) s (Wf p1 p2 p3 x) (vu p1 p2 p3 x) (We p1 p2 p3)) s
theorem K0:∀b,aT Pz b (QT b):=fun _ _ _ h=>bF (ac9 _ _ _ _) h
def ahK:ar:=bO Pz K38 [(19,JZ),(82,nP),(93,G93),(94,Th),(95,XV)] [(38,16,GC),(38,8,QT)] []
theorem abA:aO ahK:=af ae ⟨Kg,nZ,MA,VE,s95,trivial⟩ ⟨D8,K0,trivial⟩ trivial
def Vz (p1:Pos)(p2:Nat)(x:(M'×Int)):St:=St.mk (.any::.ptr 0 0::.any::.list .mv x.1 (.own 1)::.int .i64 x.2::(an 62 [])) (Hp.mk [(pc p1 [])] [p2,x.1.length] [] 0 0 0)
def WD (p1:Pos)(p2:Nat):(M'×Int×Bool)→Out:=fun y=>.exit 0 (St.mk (.any::.ptr 0 0::.any::.list .mv y.1 (.own 1)::.int .i64 y.2.1::(an 9 (.bool y.2.2::(an 52 [])))) (Hp.mk [(pc p1 [])] [p2,y.1.length] [] 0 0 0))
def Q0 (p1:Pos)(p2:Nat)(x:(M'×Int)):aG (M'×Int) ((M'×Int×Bool)):=(bif decide (x.2<64)then(aG.go (((vu x.2 p1 p2 (x.1,0)).getD default).1,wr .i64 (x.2+1)))else(aG.out ((x.1,x.2,decide (x.2<64)))))
def Gw (p1:Pos)(p2:Nat)(x:(M'×Int)):Bool:=(bif decide (x.2<64)then((vu x.2 p1 p2 (x.1,0)).isSome&&true)else true)
def oG (p1:Pos)(p2:Nat)(x:(M'×Int)):Option ((M'×Int×Bool)):=cW (fun x=>bif Gw p1 p2 x then Q0 p1 p2 x else .bad) many x
abbrev XQ {α:Type}(k:Pos→Nat→(M'×Int)→α)(s:St):α:=wP s 0 fun q0=>k q0 (tK s 0) ((tL (ET.mv) (tT s 3)),(tI (tT s 4)))
theorem aeQ (p1:Pos)(p2:Nat)(x:(M'×Int))(r:(M'×Int×Bool))(h:oG p1 p2 x=some r):aC Pz (bc Pz 38 5) (Vz p1 p2 x) (WD p1 p2 r):=smq (m:=12) (fn:=38) abA (XQ fun _ _ x=>some x) (fun o=>match o with | .exit 0 s=>some ((tL ET.mv (tT s 3)),(tI (tT s 4)),(tB (tT s 14)))|_=>none) many x r h
def Wz (b:Code)(s:St):Tr Out:=XQ (fun p1 p2 x=>jS b (bc Pz 38 5) s (Vz p1 p2 x) (oG p1 p2 x) (WD p1 p2)) s
theorem Yo:∀b,aT Pz b (Wz b):=fun _ _ _ h=>bF (aeQ _ _ _) h
def B38:ar:=bO Pz K38 [(19,JZ),(82,nP),(93,G93),(94,Th),(95,XV)] [(38,16,GC),(38,8,QT),(38,5,Wz)] []
theorem asp:aO B38:=af ae ⟨Kg,nZ,MA,VE,s95,trivial⟩ ⟨D8,K0,Yo,trivial⟩ trivial
def DJ (a:Pos):M':=(bif !qK a then([])else(((oG a 0 ([],0)).getD default).1))
def DV (a:Pos):Bool:=(bif !qK a then true else((oG a 0 ([],0)).isSome&&true))
theorem P38 (a:Pos)(h:DV a=true):PS Pz 38 [Pos.av a] ((dL .mv).res (DJ a)):=pq14 asp h
def G38:GT:=g1 aZ (fun a=>b7 (DV a) ((dL .mv).res (DJ a)))
theorem s38:Sound Pz 38 G38:=aH fun a=>aA (P38 a)
end Kz
namespace Kz
open Go Go.RowKit
theorem Pg:∀a b:Fin 64,(cg BinOp.neq ((Bf a.val b.val==0)==(cp (xk a.val b.val)==0))=true→mu a.val b.val=true)∧((cp (Bf a.val b.val)==cp (xk a.val b.val))=true→decide (cp (xk a.val b.val)>0)=true→mO a.val b.val=true):=by decide +kernel
noncomputable section
variable {p:Pos}(hp:ax p)(ht:p.aa=0∨p.aa=1)
include hp ht
theorem t207 {a b:Nat}(ha:a<64)(h:mu a b=true∨mO a b=true):mV p a b=true:=by
 have hocc:=fun s hs=>AA hp ht (s:=s) hs;have:∃d,d<8∧b∈nq a d:=by
  unfold mu mO at h;simp only[Bool.or_eq_true,decide_eq_true_eq]at h;rcases h with(((h|h)|h)|h)|(((h|h)|h)|h)
  ·grind
  ·grind
  ·grind
  ·grind
  ·grind
  ·grind
  ·grind
  ·grind
 obtain⟨d,hd,hb⟩:=this;exact(ns p hocc ha hd hb).1
theorem t154 {a b:Nat}(ha:a<64)(hb:b<64):pO p a b=true:=by
 obtain⟨l1,l2⟩:=Pg ⟨a,ha⟩ ⟨b,hb⟩;simp only[Bf,xk]at l1 l2;have k1:=fun h=>t207 hp ht ha (.inl (l1 h));have k2:=fun h h'=>t207 hp ht ha (.inr (l2 h h'));have ki:(decide (0≤(a:Int))&&decide ((a:Int)<Int.ofNat 64))=true:=by simp;omega
 unfold pO;grind
theorem t97 {b:Nat}(hb:b<64):ri p b=true:=by unfold ri;simp;omega
theorem t151 {b:Nat}(hb:b<64)(c:Int):si p b c=true:=by unfold si;refine ak (t97 hp ht hb) fun _=>aq (fun _=>?_) fun _=>rfl;simp;omega
theorem t157 {a b:Nat}(ha:a<64)(hb:b<64):Cw p a b=true:=by
 obtain⟨c,hc⟩:∃c:Fin 2,p.aa=c.val:=by simp_all
 obtain⟨r1,r2,r3,r4,r5,r6⟩:=wQ c ⟨a,ha⟩;simp only at r1 r2 r3 r4 r5 r6;rw[←hc]at r1 r2 r3 r4 r5 r6;have wup:wr .i64 ((a:Int)+iG p.aa)=a+iG p.aa:=aF (by omega) (by omega);have k1:=t154 hp ht ha hb;have k2:=t151 hp ht hb (wr IntKind.u8 (1-p.aa));have k3:=t97 hp ht hb;have k4:lG p.aa a≠7→ri p ((a:Int)+iG p.aa)=true:=fun h=>by obtain⟨c1,c2⟩:=r2 h;obtain⟨s,hs⟩:=Int.eq_ofNat_of_zero_le c1;rw[←r3,hs];exact t97 hp ht (by omega)
 unfold Cw;grind
theorem t93 {a b:Nat}(ha:a<64)(hb:b<64):IG p a b=true:=by
 have ki:(decide (0≤(a:Int))&&decide ((a:Int)<Int.ofNat 64))=true:=by simp;omega
 have k1:=t154 hp ht ha hb;have k2:=t151 hp ht ha p.aa;have k3:=t151 hp ht hb p.aa;have k4:=t157 hp ht ha hb;have k5:=t97 hp ht hb;unfold IG;simp_all
end
def fN (p:Pos)(a b:Nat):M' :=
 bif !DM p a b then[]else bif bE (p.ab.getD a 0) != 1 then[⟨a,b,0,0,false⟩]else bif xb p.aa b != 7 then[⟨a,b,0,0,false⟩]else(s9 p.variant).map fun k=>⟨a,b,k,0,false⟩
theorem BR (p:Pos)(a b:Nat):(fN p a b).length≤5:=by unfold fN;refine al (P:=fun l:M'=>l.length≤5) (fun _=>by simp) fun _=>al (P:=fun l:M'=>l.length≤5) (fun _=>by simp) fun _=>al (P:=fun l:M'=>l.length≤5) (fun _=>by simp) fun _=>?_;rw[List.length_map];unfold s9;grind
theorem adi (l:List Int)(p1 p2 p4 p5:Int)(p6:Bool)(p7:Pos)(p8:Nat)(m0:Mv)(out:M')(hl:l.length≤5)(ho:out.length≤1000000) :
  ∃r,uU p1 p2 l p4 p5 p6 p7 p8 (out,0,m0)=some r∧r.1=out++l.map fun k=>⟨m0.aD,m0.to,k,m0.bh,m0.bZ⟩:=by
 refine aQ (I:=fun x=>0≤x.2.1∧x.2.1≤(l.length:Int)∧x.1=out++(l.take x.2.1.toNat).map (fun k=>(⟨m0.aD,m0.to,k,m0.bh,m0.bZ⟩:Mv))∧x.2.2.aD=m0.aD∧x.2.2.to=m0.to∧x.2.2.bh=m0.bh∧x.2.2.bZ=m0.bZ) (μ:=fun x=>((l.length:Int)-x.2.1).toNat) ?_ _ (by simp_all) (by simp;omega);rintro⟨o,n,m⟩ ⟨h0,h1,h2,e1,e2,e3,e4⟩;simp only at h0 h1 h2 e1 e2 e3 e4;by_cases hc:n<l.length
 ·have hlt:n.toNat<l.length:=by omega
  have hol:o.length≤1000005:=by rw[h2];simp;omega
  refine⟨aq (fun _=>ak (by simp[h0];exact hc) fun _=>?_) fun _=>rfl,al (fun _=>?_) (by simp_all)⟩
  ·simp;omega
  ·rw[aF (n:=n+1) (by omega) (by omega)];refine⟨⟨by show 0≤n+1;omega,by show n+1≤_;omega,?_,e1,e2,e3,e4⟩,by grind⟩;show o++[_]=out++(l.take (n+1).toNat).map _;rw[show(n+1).toNat=n.toNat+1 by omega,List.take_succ_eq_append_getElem hlt,List.map_append,h2,List.append_assoc,e1,e2,e3,e4];simp_all
 ·refine⟨aq (fun h=>absurd h (by simpa using hc)) fun _=>rfl,al (fun h=>absurd h (by simpa using hc)) fun _=>?_⟩;show o=_;rw[h2,List.take_of_length_le (show l.length≤n.toNat by omega)]
end Kz
namespace Kz
open Go Go.RowKit Go.Proofs
def K81:KT:=[(81,48,[(0,(1::2::3::12::13::16::17::(rn 28 7 (rn 37 4 [])))),(1,(1::2::3::7::12::13::16::17::(rn 28 7 (rn 37 4 [])))),(2,(1::2::3::7::8::12::13::16::17::(rn 28 7 (rn 37 4 [])))),(3,(1::2::3::7::8::12::13::16::17::18::(rn 28 7 (rn 37 4 [])))),(4,(1::2::3::7::8::12::13::16::17::(rn 28 7 (rn 37 4 [])))),(5,(1::2::3::7::8::12::13::16::17::(rn 28 7 (rn 37 5 [])))),(6,(1::2::3::7::8::12::13::16::17::(rn 28 7 (rn 37 4 [])))),(7,[6])])]
def aiw:ar:=bO Pz K81 [(82,nP),(83,VW),(154,FB)] [] []
theorem Zg:aO aiw:=af ae ⟨nZ,X3,Ix,trivial⟩ trivial trivial
def Wv (p1:Int)(p2:Int)(p3:Pos)(x:((BitVec 64)×Int)):St:=St.mk (.any::.int .i64 p1::.int .u8 p2::.ptr 0 0::(an 3 (.u64 x.1::.int .i64 x.2::(an 39 [])))) (Hp.mk [(pc p3 [])] [] [] 0 0 0)
def Wq (p1:Int)(p2:Int)(p3:Pos):((BitVec 64)×Int×Bool)→Out:=fun y=>.exit 0 (St.mk (.any::.int .i64 p1::.int .u8 p2::.ptr 0 0::(an 3 (.u64 y.1::.int .i64 y.2.1::(an 9 (.bool y.2.2::(an 29 [])))))) (Hp.mk [(pc p3 [])] [] [] 0 0 0))
def LQ (p1:Int)(p2:Int)(p3:Pos)(x:((BitVec 64)×Int)):aG ((BitVec 64)×Int) (((BitVec 64)×Int×Bool)):=(bif decide (x.2<64)then(bif decide (p1≥0)then(bif decide (p1<64)then(bif bE (p3.ab.getD (scale 1 x.2).toNat 0) != 0 then(bif oD (p3.ab.getD (scale 1 x.2).toNat 0)==p2 then(bif oI p3 x.2 p1 then(aG.go (x.1|||1#64 <<< (BitVec.ofInt 64 x.2).toNat,wr .i64 (x.2+1)))else(aG.go (x.1,wr .i64 (x.2+1))))else(aG.go (x.1,wr .i64 (x.2+1))))else(aG.go (x.1,wr .i64 (x.2+1))))else(aG.out ((x.1,x.2,decide (p1<64)))))else(aG.out ((x.1,x.2,false))))else(aG.out ((x.1,x.2,false))))
def GG (p1:Int)(p2:Int)(p3:Pos)(x:((BitVec 64)×Int)):Bool:=(bif decide (x.2<64)then(bif decide (p1≥0)then(bif decide (p1<64)then(decide (0≤x.2)&&decide (x.2<Int.ofNat 64)&&(bif bE (p3.ab.getD (scale 1 x.2).toNat 0) != 0 then(decide (0≤x.2)&&decide (x.2<Int.ofNat 64)&&(bif oD (p3.ab.getD (scale 1 x.2).toNat 0)==p2 then(pO p3 (x.2) p1&&true)else true))else true))else true)else true)else true)
def vg (p1:Int)(p2:Int)(p3:Pos)(x:((BitVec 64)×Int)):Option (((BitVec 64)×Int×Bool)):=cW (fun x=>bif GG p1 p2 p3 x then LQ p1 p2 p3 x else .bad) many x
abbrev VA {α:Type}(k:Int→Int→Pos→((BitVec 64)×Int)→α)(s:St):α:=wP s 0 fun q0=>k (tI (tT s 1)) (tI (tT s 2)) q0 ((tU (tT s 7)),(tI (tT s 8)))
theorem ah4 (p1:Int)(p2:Int)(p3:Pos)(x:((BitVec 64)×Int))(r:((BitVec 64)×Int×Bool))(h:vg p1 p2 p3 x=some r):aC Pz (bc Pz 81 3) (Wv p1 p2 p3 x) (Wq p1 p2 p3 r):=smq (m:=12) (fn:=81) Zg (VA fun _ _ _ x=>some x) (fun o=>match o with | .exit 0 s=>some ((tU (tT s 7)),(tI (tT s 8)),(tB (tT s 18)))|_=>none) many x r h
def V2 (b:Code)(s:St):Tr Out:=VA (fun p1 p2 p3 x=>jS b (bc Pz 81 3) s (Wv p1 p2 p3 x) (vg p1 p2 p3 x) (Wq p1 p2 p3)) s
theorem ZB:∀b,aT Pz b (V2 b):=fun _ _ _ h=>bF (ah4 _ _ _ _) h
def B81:ar:=bO Pz K81 [(82,nP),(83,VW),(154,FB)] [(81,3,V2)] []
theorem an6:aO B81:=af ae ⟨nZ,X3,Ix,trivial⟩ ⟨ZB,trivial⟩ trivial
def N81 (a:Pos)(b:Int)(c:Int):BitVec 64:=(((vg b c a (0#64,0)).getD default).1)
def JS (a:Pos)(b:Int)(c:Int):Bool:=((vg b c a (0#64,0)).isSome&&true)
theorem P81 (a:Pos)(b:Int)(c:Int)(h:JS a b c=true):PS Pz 81 [Pos.av a,.int .i64 b,.int .u8 c] (dU.res (N81 a b c)):=pq14 an6 h
def G81:GT:=g3 aZ (dI .i64) (dI .u8) (fun a b c=>b7 (JS a b c) (dU.res (N81 a b c)))
theorem s81:Sound Pz 81 G81:=dc fun a b c=>aA (P81 a b c)
end Kz
namespace Kz
open Go Go.RowKit
def Fh (p:Pos)(t:Nat)(c:Int)(s:Nat):Bool:=bE (p.ab.getD s 0) != 0&&(oD (p.ab.getD s 0)==c&&oI p s t)
theorem U6 {p:Pos}(hp:ax p)(ht:p.aa=0∨p.aa=1){t:Nat}(h64:t<64)(c:Int):JS p t c=true∧∀s,s<64→(N81 p t c).getLsbD s=Fh p t c s:=by
 have hl:∃r,vg t c p (0#64,0)=some r∧∀s,s<64→r.1.getLsbD s=Fh p t c s:=by
  refine aQ (I:=fun x=>∃n:Nat,n≤64∧x.2=(n:Int)∧∀s,s<64→x.1.getLsbD s=(decide (s<n)&&Fh p t c s)) (μ:=fun x=>(64-x.2).toNat) ?_ _ ⟨0,by omega,rfl,fun s hs=>by simp⟩ (by simp);rintro⟨o,m⟩ ⟨n,hn,hm,h⟩;simp only at hm h;subst hm;have hsc:(scale 1 (n:Int)).toNat=n:=by unfold scale;simp
  unfold GG LQ;dsimp only;rw[hsc,show decide ((t:Int)≥0)=true by simp,show decide ((t:Int)<64)=true by simp;omega];by_cases hc64:n<64
  ·have k174:=t154 hp ht hc64 h64;rw[aF (n:=(n:Int)+1) (by omega) (by omega)];constructor
   ·grind
   ·have keep:Fh p t c n=false→xf (fun x:BitVec 64×Int=>∃n:Nat,n≤64∧x.2=(n:Int)∧∀s,s<64→x.1.getLsbD s=(decide (s<n)&&Fh p t c s)) (fun r:BitVec 64×Int×Bool=>∀s,s<64→r.1.getLsbD s=Fh p t c s) (fun x=>(64-x.2).toNat) (64-(n:Int)).toNat (.go (o,(n:Int)+1)):=fun hf=>by refine⟨⟨n+1,by omega,rfl,fun s hs=>?_⟩,by grind⟩;grind
    have add:Fh p t c n=true→xf (fun x:BitVec 64×Int=>∃n:Nat,n≤64∧x.2=(n:Int)∧∀s,s<64→x.1.getLsbD s=(decide (s<n)&&Fh p t c s)) (fun r:BitVec 64×Int×Bool=>∀s,s<64→r.1.getLsbD s=Fh p t c s) (fun x=>(64-x.2).toNat) (64-(n:Int)).toNat (.go (o|||1#64 <<< (BitVec.ofInt 64 n).toNat,(n:Int)+1)):=fun hf=>by refine⟨⟨n+1,by omega,rfl,fun s hs=>?_⟩,by grind⟩;grind
    refine al (fun _=>?_) (by grind);simp only[cond_true];refine al (fun h1=>al (fun h2=>al (fun h3=>?_) fun h3=>?_) fun h2=>?_) fun h1=>?_
    ·exact add (by unfold Fh;rw[h1,h2,h3];rfl)
    ·exact keep (by unfold Fh;rw[h1,h2,h3];rfl)
    ·exact keep (by unfold Fh;rw[h1,h2];rfl)
    ·exact keep (by unfold Fh;rw[h1];rfl)
  ·have e:n=64:=by omega
   subst e;refine⟨by simp_all,al (by simp_all) fun _=>?_⟩;intro s hs;simp_all
 have h2:=aJ hl;exact⟨ak h2.1 fun _=>rfl,h2.2⟩
def btw (a d b:Nat):List Nat:=(nq a d).takeWhile fun s => !(s==b)
theorem NC:∀(a:Fin 64) (d:Fin 8),((nq a.val d.val).all fun b=>decide (b<64)&&decide (a.val∈nq b ((d.val+4)%8))&&(btw b ((d.val+4)%8) a.val==(btw a.val d.val b).reverse))=true:=by decide +kernel
theorem uv {b:Nat}:∀{l:List Nat},b∈l→∃post,l=(l.takeWhile fun s => !(s==b))++b::post∧b∉(l.takeWhile fun s => !(s==b))
 | [],h=>by cases h
 |s::l,h=>by
  by_cases e:s=b
  ·simp_all
  ·have hb:b∈l:=by
    simp only[List.mem_cons]at h
    rcases h with h|h
    ·exact absurd h.symm e
    ·exact h
   obtain⟨post,e1,e2⟩:=uv hb
   have hs:(!(s==b))=true:=by simpa using e
   have ht:((s::l).takeWhile fun s => !(s==b))=s::(l.takeWhile fun s => !(s==b)):=by
    rw[List.takeWhile]
    simp only[hs]
   grind
theorem wi {b:Nat}:∀{l1 l2 m1 m2:List Nat},l1++b::m1=l2++b::m2→b∉l1→b∉l2→l1=l2
 | [],[],_,_,_,_,_=>rfl
 | [],y::l2,_,_,h,_,h2=>by
  simp_all
 |x::l1,[],_,_,h,h1,_=>by
  simp_all
 |x::l1,y::l2,m1,m2,h,h1,h2=>by
  simp only[List.cons_append,List.cons.injEq]at h
  rw[h.1,wi h.2 (fun hm=>h1 (by simp[hm])) (fun hm=>h2 (by simp[hm]))]
theorem DG {occ:BitVec 64}{a d b:Nat}(hb:b∈nq a d):b∈seen occ (nq a d) ↔ ∀s∈btw a d b,occ.getLsbD s=false:=by
 rw[wD hb];obtain⟨post,e1,e2⟩:=uv hb;constructor
 ·intro h;exact h _ post e1 e2
 ·intro h pre post' e hp;rw[wi (e.symm.trans e1) hp e2];exact h
theorem Lu (p:Pos){occ:BitVec 64}(hocc:∀s,s<64→(occ.getLsbD s=false ↔ bE (p.ab.getD s 0)=0)){a b:Nat}(ha:a<64)(h:mu a b=true∨mO a b=true):dY p a b=dY p b a:=by
 have:∃d,d<8∧b∈nq a d:=by
  unfold mu mO at h;simp only[Bool.or_eq_true,decide_eq_true_eq]at h;rcases h with(((h|h)|h)|h)|(((h|h)|h)|h)
  ·grind
  ·grind
  ·grind
  ·grind
  ·grind
  ·grind
  ·grind
  ·grind
 obtain⟨d,hd,hb⟩:=this;have f:=List.all_eq_true.1 (NC ⟨a,ha⟩ ⟨d,hd⟩) b hb;simp only[E',decide_eq_true_eq,beq_iff_eq]at f;obtain⟨⟨f1,f2⟩,f3⟩:=f;rw[(ns p hocc ha hd hb).2,(ns p hocc f1 (Nat.mod_lt _ (by decide)) f2).2,decide_eq_decide,DG hb,DG f2,f3];simp
end Kz
namespace Kz
open Go Go.RowKit Go.Proofs
def aq5:KT:=[(152,25,[(0,(rn 1 4 (rn 17 7 []))),(1,[8])])]
def apW:ar:=bO Pz aq5 [(82,nP),(83,VW)] [] []
theorem aiY:aO apW:=af ae ⟨nZ,X3,trivial⟩ trivial trivial
def rY (a:Pos)(b:Int)(c:Int)(d:Int):Bool:=(bif bE (a.ab.getD (scale 1 b).toNat 0)==d then(oD (a.ab.getD (scale 1 b).toNat 0)==c)else(false))
def od (a:Pos)(b:Int)(c:Int)(d:Int):Bool:=(decide (0≤b)&&decide (b < ↑64)&&(bif bE (a.ab.getD (scale 1 b).toNat 0)==d then(decide (0≤b)&&decide (b < ↑64)&&true)else true))
theorem akL (a:Pos)(b:Int)(c:Int)(d:Int)(h:od a b c d=true):PS Pz 152 [Pos.av a,.int .i64 b,.int .u8 c,.int .u8 d] (dB.res (rY a b c d)):=pq14 aiY h
def pZ:GT:=g4 aZ (dI .i64) (dI .u8) (dI .u8) (fun a b c d=>b7 (od a b c d) (dB.res (rY a b c d)))
theorem rj:Sound Pz 152 pZ:=EC fun a b c d=>aA (akL a b c d)
def aja:KT:=[(150,18,[(0,[1,2,3]),(1,[1,2,3,7]),(2,[1,2,3,7,9]),(3,[1,2,3,7]),(4,[1,2,3,7,16]),(5,[6]),(6,[6])])]
def Y4:ar:=bO Pz aja [(152,pZ)] [] []
theorem UN:aO Y4:=af ae ⟨rj,trivial⟩ trivial trivial
def Qs (p1:Int)(p2:Int)(p3:Pos)(x:(Int)):St:=St.mk (.any::.int .u8 p1::.int .u8 p2::.ptr 0 0::(an 3 (.int .i64 x::(an 10 [])))) (Hp.mk [(pc p3 [])] [] [] 0 0 0)
def K8 (p1:Int)(p2:Int)(p3:Pos):(Int) ⊕ (Int×Bool)→Out
 |(.inl (y))=>.ret (St.mk (an 6 (AV.int .i64 y::(an 11 []))) (Hp.mk [(pc p3 [])] [] [] 0 0 0))
 |(.inr (y))=>.exit 0 (St.mk (AV.any::AV.int .u8 p1::AV.int .u8 p2::AV.ptr 0 0::(an 3 (AV.int .i64 y.1::AV.any::AV.bool y.2::(an 8 [])))) (Hp.mk [(pc p3 [])] [] [] 0 0 0))
def Ij (p1:Int)(p2:Int)(p3:Pos)(x:(Int)):aG (Int) ((Int) ⊕ (Int×Bool)):=(bif decide (x<64)then(bif rY p3 x p1 p2 then(aG.out (.inl x))else(aG.go (wr .i64 (x+1))))else(aG.out (.inr ((x,decide (x<64))))))
def Du (p1:Int)(p2:Int)(p3:Pos)(x:(Int)):Bool:=(bif decide (x<64)then(od p3 x p1 p2&&true)else true)
def jG (p1:Int)(p2:Int)(p3:Pos)(x:(Int)):Option ((Int) ⊕ (Int×Bool)):=cW (fun x=>bif Du p1 p2 p3 x then Ij p1 p2 p3 x else .bad) many x
abbrev L4 {α:Type}(k:Int→Int→Pos→(Int)→α)(s:St):α:=wP s 0 fun q0=>k (tI (tT s 1)) (tI (tT s 2)) q0 ((tI (tT s 7)))
theorem YA (p1:Int)(p2:Int)(p3:Pos)(x:(Int))(r:(Int) ⊕ (Int×Bool))(h:jG p1 p2 p3 x=some r):aC Pz (bc Pz 150 2) (Qs p1 p2 p3 x) (K8 p1 p2 p3 r):=aC.Be (m:=12) (fn:=150) UN (L4 fun _ _ _ x=>some x) (fun o=>match o with | .ret s=>some (.inl (tI (tT s 6))) | .exit 0 s=>some (.inr ((tI (tT s 7)),(tB (tT s 9))))|_=>none) (fun r=>by cases r<;>rfl) (fun _=>by kernel_rfl) (fun _=>by kernel_rfl) (fun _=>by kernel_rfl) (fun _=>by kernel_rfl) many x r h
def NH (b:Code)(s:St):Tr Out:=L4 (fun p1 p2 p3 x=>Bg b (bc Pz 150 2) s (Qs p1 p2 p3 x) (jG p1 p2 p3 x) (K8 p1 p2 p3)) s
theorem RG:∀b,aT Pz b (NH b):=fun _ _ _ h=>fj (YA _ _ _ _) h
def akQ:ar:=bO Pz aja [(152,pZ)] [(150,2,NH)] []
theorem ajx:aO akQ:=af ae ⟨rj,trivial⟩ ⟨RG,trivial⟩ trivial
def cE (a:Pos)(b:Int)(c:Int):Int:=(bif cQ ((jG b c a 0).getD default)then(gl ((jG b c a 0).getD default))else(-1))
def vr (a:Pos)(b:Int)(c:Int):Bool:=((jG b c a 0).isSome&&bif cQ ((jG b c a 0).getD default)then true else true)
theorem ar3 (a:Pos)(b:Int)(c:Int)(h:vr a b c=true):PS Pz 150 [Pos.av a,.int .u8 b,.int .u8 c] ((dI .i64).res (cE a b c)):=pq14 ajx h
def As:GT:=g3 aZ (dI .u8) (dI .u8) (fun a b c=>b7 (vr a b c) ((dI .i64).res (cE a b c)))
theorem C5:Sound Pz 150 As:=dc fun a b c=>aA (ar3 a b c)
end Kz
namespace Kz
open Go Go.RowKit
theorem L1:∀(c:Fin 2) (k:Fin 7) (v:Fin 256),1≤k.val→dv c.val k.val v.val=(bE v.val==k.val&&oD v.val==c.val):=by decide +kernel
theorem is' {c k v:Int}(hc:c=0∨c=1)(k1:1≤k)(k6:k≤6)(v0:0≤v)(v1:v≤255):dv c k v=(bE v==k&&oD v==c):=by
 obtain⟨n,rfl⟩:=Int.eq_ofNat_of_zero_le v0;obtain⟨m,rfl⟩:=Int.eq_ofNat_of_zero_le (show 0≤k by omega);rcases hc with rfl|rfl
 ·exact L1 0 ⟨m,by omega⟩ ⟨n,by omega⟩ (by show 1≤m;omega)
 ·exact L1 1 ⟨m,by omega⟩ ⟨n,by omega⟩ (by show 1≤m;omega)
theorem kE {p:Pos}(hp:ax p){c k:Int}(hc:c=0∨c=1)(k1:1≤k)(k6:k≤6){s:Nat}(hs:s<64):od p s c k=true∧rY p s c k=dv c k (p.ab.getD s 0):=by
 obtain⟨b0,b1⟩:=fa hp s;have hsc:(scale 1 (s:Int)).toNat=s:=by unfold scale;simp
 rw[is' hc k1 k6 b0 b1];unfold od rY;grind
theorem pg {p:Pos}(hp:ax p){c k:Int}(hc:c=0∨c=1)(k1:1≤k)(k6:k≤6):vr p c k=true∧cE p c k=bg p c k:=by
 have hl:∃r,jG c k p 0=some r∧(match r with
   | .inl i=>∃n:Nat,n<64∧i=n∧dv c k (p.ab.getD n 0)=true∧∀j,j<n→dv c k (p.ab.getD j 0)=false
   | .inr _=>∀j:Nat,j<64→dv c k (p.ab.getD j 0)=false):=by
  refine aQ (I:=fun x=>∃n:Nat,n≤64∧x=(n:Int)∧∀j,j<n→dv c k (p.ab.getD j 0)=false) (μ:=fun x=>(64-x).toNat) ?_ _ ⟨0,by omega,rfl,fun j hj=>by omega⟩ (by simp);rintro _ ⟨n,hn,rfl,h⟩;unfold Du Ij;by_cases hc64:n<64
  ·obtain⟨e1,e2⟩:=kE hp hc k1 k6 hc64;rw[e1,e2,aF (n:=(n:Int)+1) (by omega) (by omega)];refine⟨aq (fun _=>rfl) fun _=>rfl,al (fun _=>al (fun ht=>?_) fun ht=>?_) fun h'=>absurd h' (by simp;omega)⟩
   ·exact⟨n,hc64,rfl,ht,h⟩
   ·refine⟨⟨n+1,by omega,rfl,fun j hj=>?_⟩,by show(64-((n:Int)+1)).toNat<(64-(n:Int)).toNat;omega⟩;by_cases e:j=n
    ·rw[e];exact ht
    ·exact h j (by omega)
  ·have e:n=64:=by omega
   subst e;exact⟨rfl,h⟩
 have h2:=aJ hl;constructor
 ·exact ak h2.1 fun _=>aq (fun _=>rfl) fun _=>rfl
 ·unfold cE;have h3:=h2.2;generalize (jG c k p 0).getD default=r at h3;rcases gR p c k with⟨a1,a2⟩|⟨j,a0,a1,a2,a3⟩
  ·cases r with
   |inl i =>grind
   |inr x=>rw[a1];rfl
  ·cases r with
   |inl i =>obtain⟨n,h64,rfl,ht,hm⟩:=h3;rw[a1];show(n:Int)=j;grind
   |inr x =>simp_all
theorem zW:∀a b:Fin 64,(vw a.val).getLsbD b.val=(vw b.val).getLsbD a.val∧(fB a.val).getLsbD b.val=(fB b.val).getLsbD a.val∧mu a.val b.val=mu b.val a.val∧mO a.val b.val=mO b.val a.val:=by decide +kernel
theorem uq:∀(c:Fin 2) (s t:Fin 64),(eW (1-c.val) t.val).getLsbD s.val=cY 1 c.val s.val t.val false:=by decide +kernel
theorem Jl:∀t:Fin 64,Oz t.val=true:=by decide +kernel
theorem Br {p:Pos}(hp:ax p){s:Nat}(hs:s<64):(bm p).getLsbD s=false ↔ bE (p.ab.getD s 0)=0:=by
 obtain⟨b0,b1⟩:=fa hp s;rw[mK _ hs];have:im (p.ab.getD s 0)=!(bE (p.ab.getD s 0)==0):=by
  obtain⟨n,hn⟩:=Int.eq_ofNat_of_zero_le b0;rw[hn];have h:∀v:Fin 256,im v.val=!(bE v.val==0):=by decide +kernel
  exact h ⟨n,by omega⟩
 rw[this];simp
theorem KB {p:Pos}(hp:ax p){t:Nat}(h64:t<64){c:Int}(hc:c=0∨c=1){s:Nat}(hs:s<64):(pX p t c).getLsbD s=Fh p t c s:=by
 have hocc:=fun s hs=>Br hp (s:=s) hs;obtain⟨b0,b1⟩:=fa hp s;obtain⟨y2,y6,ystr,yacr⟩:=zW ⟨s,hs⟩ ⟨t,h64⟩;obtain⟨f2,f6,f4,f4',f3,f3',f5,f5'⟩:=qy ⟨s,hs⟩ ⟨t,h64⟩;simp only at f2 f6 f4 f4' f3 f3' f5 f5' y2 y6 ystr yacr;have hr:=wB hocc h64 hs;have hbi:=oE hocc h64 hs;have hqu:=yU hocc h64 hs;have cs:mu s t=true∨mO s t=true→dY p s t=dY p t s:=fun h=>Lu p hocc hs h;have tk:=fun (k:Int) (k1:1≤k) (k6:k≤6)=>(bK p c k hs).trans (is' hc k1 k6 b0 b1);have hpawn:(Kc (wr .u8 (1-c)) t (bm p)).getLsbD s=cY 1 c s t false:=by
  unfold Kc;rw[kD (by omega) (by omega)];rcases hc with rfl|rfl
  ·exact uq 0 ⟨s,hs⟩ ⟨t,h64⟩
  ·exact uq 1 ⟨s,hs⟩ ⟨t,h64⟩
 have e:pX p t c=0|||Kc (wr .u8 (1-c)) t (bm p)&&&aS p c 1|||vw t&&&aS p c 2|||xy t (bm p)&&&aS p c 3|||xD t (bm p)&&&aS p c 4|||Al t (bm p)&&&aS p c 5|||fB t&&&aS p c 6:=by unfold pX;rw[Jl ⟨t,h64⟩,show decide (c>1)=false by simp;omega];rfl
 rw[e];simp only[BitVec.getLsbD_or,BitVec.getLsbD_and];rw[tk 1 (by omega) (by omega),tk 2 (by omega) (by omega),tk 3 (by omega) (by omega),tk 4 (by omega) (by omega),tk 5 (by omega) (by omega),tk 6 (by omega) (by omega),hr,hbi,hqu,hpawn,←y2,←y6,←ystr,←yacr];unfold Fh;rw[tP,show(scale 1 (s:Int)).toNat=s by unfold scale;simp];have km:bE (p.ab.getD s 0)=0∨bE (p.ab.getD s 0)=1∨bE (p.ab.getD s 0)=2∨bE (p.ab.getD s 0)=3∨bE (p.ab.getD s 0)=4∨bE (p.ab.getD s 0)=5∨bE (p.ab.getD s 0)=6:=by have:=(sI b0 b1).2.2.2.2;omega
 generalize bE (p.ab.getD s 0)=k at *;generalize oD (p.ab.getD s 0)=col at *;cases hcol:col==c with
 |false=>simp
 |true =>
  have hcol:col=c:=by simpa using hcol
  subst hcol;rcases km with rfl|rfl|rfl|rfl|rfl|rfl|rfl
  ·simp
  ·have:cY 1 col s t (dY p s t)=cY 1 col s t false:=rfl;rw[this];simp
  ·rw[kr (k:=2) rfl,show cY 2 0 s t (dY p s t)=(vw s).getLsbD t from f2 ▸ rfl];simp
  ·rw[kr (k:=3) rfl];have:cY 3 0 s t (dY p s t)=(mO s t&&dY p t s):=by
    cases ha:mO s t with
    |true =>grind
    |false =>
     cases dY p s t
     ·rw[f3'];rfl
     ·rw[f3,ha];rfl
   rw[this];simp
  ·rw[kr (k:=4) rfl];have:cY 4 0 s t (dY p s t)=(mu s t&&dY p t s):=by
    cases ha:mu s t with
    |true =>grind
    |false =>
     cases dY p s t
     ·rw[f4'];rfl
     ·rw[f4,ha];rfl
   rw[this];simp
  ·rw[kr (k:=5) rfl];have:cY 5 0 s t (dY p s t)=((mu s t ||mO s t)&&dY p t s):=by
    cases ha:(mu s t ||mO s t)with
    |true =>grind
    |false =>
     cases dY p s t
     ·rw[f5'];rfl
     ·rw[f5,ha];rfl
   rw[this];simp
  ·rw[kr (k:=6) rfl,show cY 6 0 s t (dY p s t)=(fB s).getLsbD t from f6 ▸ rfl];simp
end Kz
namespace Kz
open Go Go.RowKit Go.Proofs
def K84:KT:=[(84,23,[(0,(0::1::8::9::12::13::(rn 16 6 []))),(1,[4])])]
def B84:ar:=bO Pz K84 [] [] []
theorem al6:aO B84:=af ae trivial trivial trivial
def Qc (a:Int)(b:Int):Bool:=(bif decide (a<9)then(bif decide (b<2)then(bif a != 4 then(bif a != 7 then(true)else(b==1))else(false))else(false))else(false))
def akF (a:Int)(b:Int):Bool:=true
theorem P84 (a:Int)(b:Int)(h:akF a b=true):PS Pz 84 [.int .u8 a,.int .u8 b] (dB.res (Qc a b)):=pq14 al6 h
def G84:GT:=g2 (dI .u8) (dI .u8) (fun a b=>.ret (dB.res (Qc a b)))
theorem s84:Sound Pz 84 G84:=aP fun a b=>bH (P84 a b rfl)
def K80:KT:=[(80,39,[(0,[1,2,16,17,22,23,24,34,35,36]),(1,[1,2,5,16,17,22,23,24,34,35,36]),(2,[1,2,5,18,22,23,24,34,35,36]),(3,[4]),(4,[1,2,5,6,22,23,24,34,35,36]),(5,(1::2::5::6::(rn 22 4 [34,35,36]))),(6,[1,2,5,6,22,23,24,34,35,36]),(7,(1::2::5::6::22::23::24::(rn 34 4 []))),(8,[4]),(9,[4])])]
def adV:ar:=bO Pz K80 [(84,G84),(150,As),(152,pZ),(153,BL)] [] []
theorem Zy:aO adV:=af ae ⟨s84,C5,rj,DS,trivial⟩ trivial trivial
def V7 (p1:Int)(p2:Int)(p3:Pos)(x:(Int)):St:=St.mk (.any::.int .u8 p1::.ptr 0 0::.any::.any::.int .i64 p2::.int .i64 x::(an 32 [])) (Hp.mk [(pc p3 [])] [] [] 0 0 0)
def V4 (p1:Int)(p2:Int)(p3:Pos):Unit ⊕ (Int×Bool)→Out
 |(.inl (y))=>.ret (St.mk (an 4 (AV.bj .i64 (-1)::(an 34 []))) (Hp.mk [(pc p3 [])] [] [] 0 0 0))
 |(.inr (y))=>.exit 0 (St.mk (AV.any::AV.int .u8 p1::AV.ptr 0 0::AV.any::AV.any::AV.int .i64 p2::AV.int .i64 y.1::(an 18 (AV.bool y.2::(an 13 [])))) (Hp.mk [(pc p3 [])] [] [] 0 0 0))
def vo (p1:Int)(p2:Int)(p3:Pos)(x:(Int)):aG (Int) (Unit ⊕ (Int×Bool)):=(bif decide (x<64)then(bif p3.variant==3 then(bif rY p3 x (wr .u8 (1-p1)) 6 then(bif je x p2 then(aG.out (.inl (())))else(aG.go (wr .i64 (x+1))))else(aG.go (wr .i64 (x+1))))else(aG.out (.inr ((x,p3.variant==3)))))else(aG.out (.inr ((x,false)))))
def py (p1:Int)(p2:Int)(p3:Pos)(x:(Int)):Bool:=(bif decide (x<64)then(bif p3.variant==3 then(od p3 x (wr .u8 (1-p1)) 6&&true)else true)else true)
def qZ (p1:Int)(p2:Int)(p3:Pos)(x:(Int)):Option (Unit ⊕ (Int×Bool)):=cW (fun x=>bif py p1 p2 p3 x then vo p1 p2 p3 x else .bad) many x
abbrev Xh {α:Type}(k:Int→Int→Pos→(Int)→α)(s:St):α:=wP s 0 fun q0=>k (tI (tT s 1)) (tI (tT s 5)) q0 ((tI (tT s 6)))
theorem acW (p1:Int)(p2:Int)(p3:Pos)(x:(Int))(r:Unit ⊕ (Int×Bool))(h:qZ p1 p2 p3 x=some r):aC Pz (bc Pz 80 5) (V7 p1 p2 p3 x) (V4 p1 p2 p3 r):=aC.Be (m:=12) (fn:=80) Zy (Xh fun _ _ _ x=>some x) (fun o=>match o with | .ret s=>some (.inl ()) | .exit 0 s=>some (.inr ((tI (tT s 6)),(tB (tT s 25))))|_=>none) (fun r=>by cases r<;>rfl) (fun _=>by kernel_rfl) (fun _=>by kernel_rfl) (fun _=>by kernel_rfl) (fun _=>by kernel_rfl) many x r h
def Xc (b:Code)(s:St):Tr Out:=Xh (fun p1 p2 p3 x=>Bg b (bc Pz 80 5) s (V7 p1 p2 p3 x) (qZ p1 p2 p3 x) (V4 p1 p2 p3)) s
theorem aaP:∀b,aT Pz b (Xc b):=fun _ _ _ h=>fj (acW _ _ _ _) h
def B80:ar:=bO Pz K80 [(84,G84),(150,As),(152,pZ),(153,BL)] [(80,5,Xc)] []
theorem atv:aO B80:=af ae ⟨s84,C5,rj,DS,trivial⟩ ⟨aaP,trivial⟩ trivial
def N80 (a:Pos)(b:Int):Int:=(bif !Qc a.variant b then(-1)else(bif decide (cE a b 6<0)then(-1)else(bif cQ ((qZ b (cE a b 6) a 0).getD default)then(-1)else(cE a b 6))))
def RI (a:Pos)(b:Int):Bool:=(vr a b 6&&(bif !Qc a.variant b then true else(bif decide (cE a b 6<0)then true else((qZ b (cE a b 6) a 0).isSome&&bif cQ ((qZ b (cE a b 6) a 0).getD default)then true else true))))
theorem P80 (a:Pos)(b:Int)(h:RI a b=true):PS Pz 80 [Pos.av a,.int .u8 b] ((dI .i64).res (N80 a b)):=pq14 atv h
def G80:GT:=g2 aZ (dI .u8) (fun a b=>b7 (RI a b) ((dI .i64).res (N80 a b)))
theorem s80:Sound Pz 80 G80:=aP fun a b=>aA (P80 a b)
def K33:KT:=[(33,21,[(0,(1::2::(rn 14 6 []))),(1,(1::2::7::(rn 14 6 []))),(2,[4]),(3,(1::2::5::(rn 14 6 []))),(4,[4])])]
def B33:ar:=bO Pz K33 [(80,G80),(81,G81)] [] []
theorem amv:aO B33:=af ae ⟨s80,s81,trivial⟩ trivial trivial
def oH (a:Pos)(b:Int):Bool:=(bif decide (b>1)then(false)else(bif decide (N80 a b≥0)then(N81 a (N80 a b) (wr .u8 (1-b)) != 0#64)else(false)))
def jN (a:Pos)(b:Int):Bool:=(bif decide (b>1)then true else(RI a b&&(bif decide (N80 a b≥0)then(JS a (N80 a b) (wr .u8 (1-b))&&true)else true)))
theorem P33 (a:Pos)(b:Int)(h:jN a b=true):PS Pz 33 [Pos.av a,.int .u8 b] (dB.res (oH a b)):=pq14 amv h
def G33:GT:=g2 aZ (dI .u8) (fun a b=>b7 (jN a b) (dB.res (oH a b)))
theorem s33:Sound Pz 33 G33:=aP fun a b=>aA (P33 a b)
end Kz
namespace Kz
open Go Go.RowKit
theorem Oh {p:Pos}(hp:ax p)(ht:p.aa=0∨p.aa=1){t:Nat}(h64:t<64){c:Int}(hc:c=0∨c=1):JS p t c=true∧N81 p t c=pX p t c:=by obtain⟨h1,h2⟩:=U6 hp ht h64 c;refine⟨h1,BitVec.eq_of_getLsbD_eq fun s hs=>?_⟩;rw[h2 s hs,KB hp h64 hc hs]
theorem are {p:Pos}(hp:ax p){b:Int}(hb:b=0∨b=1){k:Nat}(hk:k<64):∃r,qZ b k p 0=some r∧cQ r=(p.variant==3&&(fB k&&&aS p (wr .u8 (1-b)) 6 != 0#64)):=by
 have w1:wr .u8 (1-b)=1-b:=kD (by omega) (by omega);rw[w1];have kings:∀n:Nat,n<64→(fB k&&&aS p (1-b) 6).getLsbD n=(je n k&&dv (1-b) 6 (p.ab.getD n 0)):=fun n hn=>by
  obtain⟨_,f6,_⟩:=qy ⟨n,hn⟩ ⟨k,hk⟩;obtain⟨_,y6,_⟩:=zW ⟨n,hn⟩ ⟨k,hk⟩;simp only at f6 y6;rw[BitVec.getLsbD_and,bK _ _ _ hn,←y6,←f6];have:cY 6 0 n k false=je n k:=by
   have h:∀a b:Fin 64,cY 6 0 a.val b.val false=je a.val b.val:=by decide +kernel
   exact h ⟨n,hn⟩ ⟨k,hk⟩
  rw[this]
 cases hv:p.variant==3 with
 |false =>
  have e:cW (fun x=>bif py b k p x then vo b k p x else .bad) 1 0=some (.inr (0,false)):=by
   rw[cW];have:(bif py b k p 0 then vo b k p 0 else .bad)=.out (.inr (0,false)):=by unfold py vo;rw[hv];rfl
   rw[this]
  exact⟨_,jX _ many _ _ (by unfold many;omega) e,rfl⟩
 |true =>
  rw[Bool.true_and];refine aQ (I:=fun x=>∃n:Nat,n≤64∧x=(n:Int)∧∀j,j<n→(fB k&&&aS p (1-b) 6).getLsbD j=false) (μ:=fun x=>(64-x).toNat) ?_ _ (by grind) (by simp);rintro _ ⟨n,hn,rfl,h⟩;unfold py vo;rw[hv,w1];by_cases hc64:n<64
  ·obtain⟨e1,e2⟩:=kE hp (c:=1-b) (k:=6) (by omega) (by omega) (by omega) hc64;have hbit:=kings n hc64;rw[e1,e2,aF (n:=(n:Int)+1) (by omega) (by omega)];have keep:(fB k&&&aS p (1-b) 6).getLsbD n=false→xf (fun x:Int=>∃n:Nat,n≤64∧x=(n:Int)∧∀j,j<n→(fB k&&&aS p (1-b) 6).getLsbD j=false) (fun r:Unit ⊕ (Int×Bool)=>cQ r=(fB k&&&aS p (1-b) 6 != 0#64)) (fun x=>(64-x).toNat) (64-(n:Int)).toNat (.go ((n:Int)+1)):=fun hf=>by refine⟨⟨n+1,by omega,rfl,fun j hj=>?_⟩,by grind⟩;grind
   constructor
   ·simp_all
   ·refine al (fun _=>?_) (by grind);rw[cond_true];refine al (fun h1=>al (fun h2=>?_) fun h2=>?_) fun h1=>?_
    ·show true=_;grind
    ·simp_all
    simp_all
  ·have e:n=64:=by omega
   subst e;refine⟨by simp_all,al (by simp_all) fun _=>?_⟩;show false=_;grind
theorem xU:∀(v:Fin 9) (b:Fin 2),Qc v.val b.val=pd v.val b.val:=by decide +kernel
theorem wS {v b:Int}(v0:0≤v)(hb:b=0∨b=1):Qc v b=pd v b:=by
 obtain⟨n,rfl⟩:=Int.eq_ofNat_of_zero_le v0;by_cases h9:n<9
 ·rcases hb with rfl|rfl
  ·exact xU ⟨n,h9⟩ 0
  ·exact xU ⟨n,h9⟩ 1
 ·unfold Qc pd;grind
theorem ug {p:Pos}(hp:ax p)(ht:p.aa=0∨p.aa=1){b:Int}(hb:b=0∨b=1):jN p b=true∧oH p b=ju p b:=by
 obtain⟨f1,f2⟩:=pg hp (c:=b) (k:=6) hb (by omega) (by omega);have w1:wr .u8 (1-b)=1-b:=kD (by omega) (by omega);have hroy:=wS (b:=b) hp.v0 hb;unfold jN oH RI N80 ju DX Fs;rw[f1,f2,hroy,show decide (b>1)=false by simp;omega];rcases gR p b 6 with⟨a1,_⟩|⟨k,hk,a1,_⟩
 ·simp_all
 ·rw[a1];obtain⟨l1,l2⟩:=aJ (are hp hb hk);obtain⟨o1,o2⟩:=Oh hp ht hk (c:=1-b) (by omega);grind
theorem kU {α:Type}(g:Nat→List α)(n:Nat):(List.range (n+1)).flatMap g=(List.range n).flatMap g++g n:=by rw[List.range_succ,List.flatMap_append];simp
theorem eI {α:Type}(g:Nat→List α)(c:Nat)(h:∀i,(g i).length≤c):∀n,((List.range n).flatMap g).length≤c*n
 | 0=>by simp
 |n+1=>by
  rw[kU,List.length_append]
  have:=eI g c h n
  grind
noncomputable section
variable {p:Pos}(hp:ax p)(ht:p.aa=0∨p.aa=1)
include hp ht
theorem acZ {a:Nat}(ha:a<64)(p3:Nat)(out:M')(ho:out.length≤100000):∃r,vu a p p3 (out,0)=some r∧r.1=out++(List.range 64).flatMap (fN p a):=by
 refine aQ (I:=fun x=>∃n:Nat,n≤64∧x=(out++(List.range n).flatMap (fN p a),(n:Int))) (μ:=fun x=>(64-x.2).toNat) ?_ _ (by grind) (by simp);rintro _ ⟨n,hn,rfl⟩;have hsc:(scale 1 (a:Int)).toNat=a:=by unfold scale;simp
 have hlen:=eI (fN p a) 5 (BR p a) n;unfold Gg QQ;dsimp only;rw[hsc];by_cases hc:n<64
 ·have k175:=t93 hp ht ha hc;have wa:wr IntKind.i8 (a:Int)=a:=Kk (by omega) (by omega);have wn:wr IntKind.i8 (n:Int)=n:=Kk (by omega) (by omega);have kl:(decide (0≤(a:Int))&&decide ((a:Int)<Int.ofNat 64))=true:=by simp;omega
  have kap:((out++(List.range n).flatMap (fN p a)).length==(out++(List.range n).flatMap (fN p a)).length&&decide ((out++(List.range n).flatMap (fN p a)).length+1≤1073741824)&&true)=true:=by
   have:(out++(List.range n).flatMap (fN p a)).length≤1000000:=by rw[List.length_append];omega
   generalize (out++(List.range n).flatMap (fN p a)).length=k at this;simp;omega
  have h177:(s9 p.variant).length≤5:=by unfold s9;exact(by grind)
  have hl:=aJ (adi (s9 p.variant) a n p.aa (xb p.aa n) (xb p.aa n != 7) p p3 ⟨a,n,0,0,false⟩ (out++(List.range n).flatMap (fN p a)) h177 (by grind));rw[wa,wn,aF (n:=(n:Int)+1) (by omega) (by omega)];constructor
  ·simp_all
  ·have go:∀l:M',l=out++(List.range n).flatMap (fN p a)++fN p a n→xf (fun x:M'×Int=>∃n:Nat,n≤64∧x=(out++(List.range n).flatMap (fN p a),(n:Int))) (fun r:M'×Int×Bool=>r.1=out++(List.range 64).flatMap (fN p a)) (fun x=>(64-x.2).toNat) (64-(n:Int)).toNat (.go (l,(n:Int)+1)):=by rintro _ rfl;exact⟨⟨n+1,by omega,by rw[kU,List.append_assoc];rfl⟩,by grind⟩
   refine al (fun _=>al (fun h1=>?_) fun h1=>al (fun h2=>?_) fun h2=>al (fun h3=>?_) fun h3=>?_) (by grind)
   ·exact go _ (by unfold fN;rw[h1];simp)
   ·exact go _ (by unfold fN;rw[h1,h2];rfl)
   ·exact go _ (by unfold fN;rw[h1,h2,h3];rfl)
   ·exact go _ (by rw[hl.2];unfold fN;rw[h1,h2,h3];rfl)
 ·have e:n=64:=by omega
  subst e;exact⟨rfl,rfl⟩
theorem ac7 (p3:Nat):∃r,oG p p3 ([],0)=some r∧r.1=(List.range 64).flatMap fun a=>(List.range 64).flatMap (fN p a):=by
 refine aQ (I:=fun x=>∃n:Nat,n≤64∧x=((List.range n).flatMap (fun a=>(List.range 64).flatMap (fN p a)),(n:Int))) (μ:=fun x=>(64-x.2).toNat) ?_ _ ⟨0,by omega,by simp⟩ (by simp);rintro _ ⟨n,hn,rfl⟩;have hlen:=eI (fun a=>(List.range 64).flatMap (fN p a)) 320 (fun a=>eI (fN p a) 5 (BR p a) 64) n;unfold Gw Q0;dsimp only;by_cases hc:n<64
 ·have hl:=aJ (acZ hp ht hc p3 ((List.range n).flatMap (fun a=>(List.range 64).flatMap (fN p a))) (by omega));rw[aF (n:=(n:Int)+1) (by omega) (by omega)];constructor
  ·simp_all
  ·refine al (fun _=>?_) (by grind);rw[hl.2];exact⟨⟨n+1,by omega,by rw[kU (fun a=>(List.range 64).flatMap (fN p a)) n];rfl⟩,by grind⟩
 ·have e:n=64:=by omega
  subst e;exact⟨rfl,rfl⟩
end
theorem gY {α β:Type}(q:α→Bool)(g:α→List β):∀l:List α,(l.filter q).flatMap g=l.flatMap fun a=>bif q a then g a else[]
 | []=>rfl
 |a::l=>by
  rw[List.flatMap_cons,←gY q g l]
  grind
theorem mL {α β γ:Type}(f:α→β)(g:β→List γ):∀l:List α,(l.map f).flatMap g=l.flatMap fun a=>g (f a)
 | []=>rfl
 |a::l=>by rw[List.map_cons,List.flatMap_cons,List.flatMap_cons,mL f g l]
theorem iY {α β:Type}{g h:α→List β}:∀{l:List α},(∀a∈l,g a=h a)→l.flatMap g=l.flatMap h
 | [],_=>rfl
 |a::l,e=>by rw[List.flatMap_cons,List.flatMap_cons,e a (by simp),iY fun b hb=>e b (by simp[hb])]
noncomputable section
variable {p:Pos}(hp:ax p)(ht:there p)
include hp ht
theorem Hb {a b:Nat}(ha:a<64)(hb:b<64):fN p a b=bif(own p).getLsbD a then(bif(iC (p,own p,ov p) a).getLsbD b then xz p a b else[])else[]:=by
 have t0:=hp.t0;have htt:p.aa=0∨p.aa=1:=by have:=ht.1;omega
 cases ho:(own p).getLsbD a with
 |false =>
  have e1:=jb hp htt htt ha;rw[show aS p p.aa 0=own p from rfl,ho]at e1;have:DM p a b=false:=by unfold DM;rw[e1];cases (a:Int)==(b:Int)<;>rfl
  unfold fN;rw[this];rfl
 |true =>
  have hm:DM p a b=(iC (p,own p,ov p) a).getLsbD b:=by
   by_cases hk:bE (p.ab.getD a 0)=1
   ·exact Px hp htt ha hb ho hk
   ·exact RU hp htt ha hb ho hk
  obtain⟨b0,b1⟩:=fa hp a;have m91:=(sI b0 b1).1;unfold fN xz;rw[hm,show((a:Int)).toNat=a by omega,m91];obtain⟨c,hc⟩:∃c:Fin 2,p.aa=c.val:=by simp_all
  have r1:=(wQ c ⟨b,hb⟩).1;simp only at r1;rw[←hc]at r1;rw[r1];have hpr:(s9 p.variant).map (fun k=>(⟨a,b,k,0,false⟩:Mv))=(jy p.variant).flatMap fun k=>[⟨a,b,k,0,false⟩]:=by
   have v0:=hp.v0;have v9:=ht.2;have e:s9 p.variant=jy p.variant:=by
    unfold s9 jy;by_cases h4:p.variant=4
    ·rw[h4];rfl
    ·grind
   rw[e];induction jy p.variant with
   |nil=>rfl
   |cons k l ih=>simp_all
  simp_all
theorem D4:DV p=true∧DJ p=ep p:=by
 have t0:=hp.t0;have htt:p.aa=0∨p.aa=1:=by have:=ht.1;omega
 have h34:qK p=true:=by unfold qK;rw[decide_eq_true ht.2,decide_eq_true (show p.aa<2 by have:=ht.1;omega)];rfl
 have hl:=aJ (ac7 hp htt 0);constructor
 ·unfold DV;simp_all
 ·unfold DJ;rw[h34,ll hp.v0 ht];show(_:M')=_;rw[show(bif !true then([]:M')else((oG p 0 ([],0)).getD default).1)=((oG p 0 ([],0)).getD default).1 from rfl,hl.2];unfold gF;rw[mL,gY];refine iY fun a ha=>?_;have ha:a<64:=List.mem_range.1 ha;unfold pz gF;rw[mL,gY]
  have e:(List.range 64).flatMap (fN p a)=(List.range 64).flatMap fun b=>bif(own p).getLsbD a then(bif(iC (p,own p,ov p) a).getLsbD b then xz p a b else[])else[] :=
   iY fun b hb=>Hb hp ht ha (List.mem_range.1 hb)
  rw[e];cases (own p).getLsbD a with
  |true=>rfl
  |false =>simp_all
end
end Kz
namespace Kz
open Go Go.RowKit Go.Proofs
def K55:KT:=[(55,61,[(0,(1::10::11::12::(rn 22 8 (rn 40 10 [])))),(1,(1::3::10::11::12::(rn 22 8 (rn 40 10 [])))),(2,(1::3::13::(rn 22 8 (rn 40 10 [])))),(3,[2]),(4,(1::3::4::(rn 22 8 (rn 40 10 [])))),(5,(1::3::4::16::(rn 22 8 (rn 40 10 [])))),(6,(1::3::4::(rn 22 8 (rn 40 10 [])))),(7,(1::3::4::5::(rn 22 8 (rn 40 10 [])))),(8,(1::3::4::5::(rn 22 9 (rn 40 10 [])))),(9,(1::3::4::5::(rn 22 8 (rn 40 10 [])))),(10,(1::3::4::5::(rn 22 8 (rn 40 11 [])))),(11,(1::3::4::5::(rn 22 8 (rn 40 10 [])))),(12,[2])])]
def af6:ar:=bO Pz K55 [(82,nP)] [] []
theorem Z3:aO af6:=af ae ⟨nZ,trivial⟩ trivial trivial
def WM (p1:Int)(p2:Pos)(p3:Nat)(x:(M'×Int)):St:=St.mk (.any::.ptr 0 0::.any::.list .mv x.1 (.own 1)::.int .u8 p1::.int .i64 x.2::(an 55 [])) (Hp.mk [(pc p2 [])] [p3,x.1.length] [] 0 0 0)
def VZ (p1:Int)(p2:Pos)(p3:Nat):(M'×Int×Bool)→Out:=fun y=>.exit 2 (St.mk (.any::.ptr 0 0::.any::.list .mv y.1 (.own 1)::.int .u8 p1::.int .i64 y.2.1::(an 24 (.bool y.2.2::(an 30 [])))) (Hp.mk [(pc p2 [])] [p3,y.1.length] [] 0 0 0))
def uj (p1:Int)(p2:Pos)(p3:Nat)(x:(M'×Int)):aG (M'×Int) ((M'×Int×Bool)):=(bif decide (x.2<64)then(bif decide (p2.ah.getD (scale 6 p2.aa+scale 1 p1).toNat 0>0)then(bif bE (p2.ab.getD (scale 1 x.2).toNat 0) != 0 then(aG.go (x.1,wr .i64 (x.2+1)))else(bif p1==1 then(bif decide (x.2<8)then(aG.go (x.1,wr .i64 (x.2+1)))else(bif decide (x.2>55)then(aG.go (x.1,wr .i64 (x.2+1)))else(aG.go (x.1++[Mv.mk (wr .i8 x.2) (wr .i8 x.2) 0 p1 false],wr .i64 (x.2+1)))))else(aG.go (x.1++[Mv.mk (wr .i8 x.2) (wr .i8 x.2) 0 p1 false],wr .i64 (x.2+1)))))else(aG.out ((x.1,x.2,decide (p2.ah.getD (scale 6 p2.aa+scale 1 p1).toNat 0>0)))))else(aG.out ((x.1,x.2,false))))
def oT (p1:Int)(p2:Pos)(p3:Nat)(x:(M'×Int)):Bool:=(bif decide (x.2<64)then(decide (0≤p2.aa)&&decide (p2.aa<Int.ofNat 2)&&(decide (0≤p1)&&decide (p1<Int.ofNat 6)&&(bif decide (p2.ah.getD (scale 6 p2.aa+scale 1 p1).toNat 0>0)then(decide (0≤x.2)&&decide (x.2<Int.ofNat 64)&&(bif bE (p2.ab.getD (scale 1 x.2).toNat 0) != 0 then true else(bif p1==1 then(bif decide (x.2<8)then true else(bif decide (x.2>55)then true else(x.1.length==x.1.length&&decide (x.1.length+1≤1073741824)&&true)))else(x.1.length==x.1.length&&decide (x.1.length+1≤1073741824)&&true))))else true)))else true)
def tS (p1:Int)(p2:Pos)(p3:Nat)(x:(M'×Int)):Option ((M'×Int×Bool)):=cW (fun x=>bif oT p1 p2 p3 x then uj p1 p2 p3 x else .bad) many x
abbrev Wt {α:Type}(k:Int→Pos→Nat→(M'×Int)→α)(s:St):α:=wP s 0 fun q0=>k (tI (tT s 4)) q0 (tK s 0) ((tL (ET.mv) (tT s 3)),(tI (tT s 5)))
theorem agE (p1:Int)(p2:Pos)(p3:Nat)(x:(M'×Int))(r:(M'×Int×Bool))(h:tS p1 p2 p3 x=some r):aC Pz (bc Pz 55 8) (WM p1 p2 p3 x) (VZ p1 p2 p3 r):=smq (m:=12) (fn:=55) Z3 (Wt fun _ _ _ x=>some x) (fun o=>match o with | .exit 2 s=>some ((tL ET.mv (tT s 3)),(tI (tT s 5)),(tB (tT s 30)))|_=>none) many x r h
def MZ (b:Code)(s:St):Tr Out:=Wt (fun p1 p2 p3 x=>jS b (bc Pz 55 8) s (WM p1 p2 p3 x) (tS p1 p2 p3 x) (VZ p1 p2 p3)) s
theorem Ph:∀b,aT Pz b (MZ b):=fun _ _ _ h=>bF (agE _ _ _ _) h
def afE:ar:=bO Pz K55 [(82,nP)] [(55,8,MZ)] []
theorem abO:aO afE:=af ae ⟨nZ,trivial⟩ ⟨Ph,trivial⟩ trivial
def W6 (p1:Pos)(p2:Nat)(x:(M'×Int)):St:=St.mk (.any::.ptr 0 0::.any::.list .mv x.1 (.own 1)::.int .u8 x.2::(an 56 [])) (Hp.mk [(pc p1 [])] [p2,x.1.length] [] 0 0 0)
def Xb (p1:Pos)(p2:Nat):(M'×Int×Bool)→Out:=fun y=>.exit 0 (St.mk (.any::.ptr 0 0::.any::.list .mv y.1 (.own 1)::.int .u8 y.2.1::(an 11 (.bool y.2.2::(an 44 [])))) (Hp.mk [(pc p1 [])] [p2,y.1.length] [] 0 0 0))
def K3 (p1:Pos)(p2:Nat)(x:(M'×Int)):aG (M'×Int) ((M'×Int×Bool)):=(bif decide (x.2≤5)then(aG.go (((tS x.2 p1 p2 (x.1,0)).getD default).1,wr .u8 (x.2+1)))else(aG.out ((x.1,x.2,decide (x.2≤5)))))
def Hx (p1:Pos)(p2:Nat)(x:(M'×Int)):Bool:=(bif decide (x.2≤5)then((tS x.2 p1 p2 (x.1,0)).isSome&&true)else true)
def re (p1:Pos)(p2:Nat)(x:(M'×Int)):Option ((M'×Int×Bool)):=cW (fun x=>bif Hx p1 p2 x then K3 p1 p2 x else .bad) many x
abbrev XB {α:Type}(k:Pos→Nat→(M'×Int)→α)(s:St):α:=wP s 0 fun q0=>k q0 (tK s 0) ((tL (ET.mv) (tT s 3)),(tI (tT s 4)))
theorem acQ (p1:Pos)(p2:Nat)(x:(M'×Int))(r:(M'×Int×Bool))(h:re p1 p2 x=some r):aC Pz (bc Pz 55 5) (W6 p1 p2 x) (Xb p1 p2 r):=smq (m:=12) (fn:=55) abO (XB fun _ _ x=>some x) (fun o=>match o with | .exit 0 s=>some ((tL ET.mv (tT s 3)),(tI (tT s 4)),(tB (tT s 16)))|_=>none) many x r h
def Xi (b:Code)(s:St):Tr Out:=XB (fun p1 p2 x=>jS b (bc Pz 55 5) s (W6 p1 p2 x) (re p1 p2 x) (Xb p1 p2)) s
theorem Zz:∀b,aT Pz b (Xi b):=fun _ _ _ h=>bF (acQ _ _ _) h
def B55:ar:=bO Pz K55 [(82,nP)] [(55,8,MZ),(55,5,Xi)] []
theorem asT:aO B55:=af ae ⟨nZ,trivial⟩ ⟨Ph,Zz,trivial⟩ trivial
def N55 (a:Pos):M':=(bif decide (a.aa>1)then([])else(bif a.variant != 2 then([])else(((re a 0 ([],1)).getD default).1)))
def NV (a:Pos):Bool:=(bif decide (a.aa>1)then true else(bif a.variant != 2 then true else((re a 0 ([],1)).isSome&&true)))
theorem P55 (a:Pos)(h:NV a=true):PS Pz 55 [Pos.av a] ((dL .mv).res (N55 a)):=pq14 asT h
def G55:GT:=g1 aZ (fun a=>b7 (NV a) ((dL .mv).res (N55 a)))
theorem s55:Sound Pz 55 G55:=aH fun a=>aA (P55 a)
end Kz
