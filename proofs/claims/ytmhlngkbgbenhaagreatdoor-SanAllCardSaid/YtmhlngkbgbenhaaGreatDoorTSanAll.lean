/- SanAll: of any position with at most 60 moves,the texts of all moves are told in order as the document's answer gives them,and what is told is the caller's own: it may be written over,and is told anew. No conditions. -/
import Derived.Test.YtmhlngkbgbenhaaGreatDoorT7
import Derived.Sort.Lot0
import Derived.Deep.LoopGhost
import Derived.Deep.QuietTactic
import Derived.Deep.RegionWith
import Derived.Shelf.RegionOpenPlain
import Derived.Shelf.SlicesQ.Load
import Derived.Lib.Hide
import Derived.Lib.SliceRun
import Derived.Lib.SlicesMore
import Derived.JoinedCond
set_option linter.unusedSectionVars false
set_option linter.unusedVariables false
set_option linter.unusedSimpArgs false
set_option linter.unnecessarySimpa false
noncomputable section
namespace Kz
open Go Go.RowKit Go.Proofs
set_option maxRecDepth 100000
set_option maxHeartbeats 4000000
def K11:KT:=[(11,24,[(0,[1]),(1,[1,3]),(2,[1,3,4]),(3,[1,3,4,9,10,11]),(4,(1::3::4::(rn 9 4 []))),(5,[1,3,4,6,9,10,11]),(6,[1,3,4,9,10,11]),(7,[1,3,4,9,10,11]),(8,[2])])]
def Xp:ax:=bO Pz K11 [(20,Qg),(24,G24)] [] []
theorem Tp:aV Xp:=ak aj ⟨UM,s24,trivial⟩ trivial trivial
def Pq (p1:(List Mv)) (p2:(List Mv)) (p3:Int) (p4:Pos) (p5:Nat) (x:((List (List UInt8))×Int)):St:=St.mk (.any::.ptr 0 0::.any::.list .mv p1 .fresh::.list .str x.1 (.own 1)::(an 4 (.list .mv p2 .fresh::.int .i64 p3::.int .i64 x.2::(an 12 [])))) (Hp.mk [(pc p4 [])] [p5,x.1.length] [] 0 0 0)
def QT (p1:(List Mv)) (p2:(List Mv)) (p3:Int) (p4:Pos) (p5:Nat):((List (List UInt8))×Int×Bool)→Out:=fun y=>.exit 0 (St.mk (.any::.ptr 0 0::.any::.list .mv p1 .fresh::.list .str y.1 (.own 1)::(an 4 (.list .mv p2 .fresh::.int .i64 p3::.int .i64 y.2.1::.bool y.2.2::(an 11 [])))) (Hp.mk [(pc p4 [])] [p5,y.1.length] [] 0 0 0))
def Ip (p1:(List Mv)) (p2:(List Mv)) (p3:Int) (p4:Pos) (p5:Nat) (x:((List (List UInt8))×Int)):aF ((List (List UInt8))×Int) (((List (List UInt8))×Int×Bool)):=(bif decide (x.2 < p3) then (aF.go (x.1++[U4 p4 (p2.getD x.2.toNat default) p1],wr .i64 (x.2+1))) else (aF.out ((x.1,x.2,decide (x.2 < p3)))))
def D1 (p1:(List Mv)) (p2:(List Mv)) (p3:Int) (p4:Pos) (p5:Nat) (x:((List (List UInt8))×Int)):Bool:=(bif decide (x.2 < p3) then (decide (0≤x.2)&&decide (x.2 < Int.ofNat p2.length)&&(FP p4 (p2.getD x.2.toNat default) p1&&(x.1.length==x.1.length&&decide (x.1.length+1≤1073741824)&&true))) else true)
def rD (p1:(List Mv)) (p2:(List Mv)) (p3:Int) (p4:Pos) (p5:Nat) (x:((List (List UInt8))×Int)):Option (((List (List UInt8))×Int×Bool)):=cP (fun x=>bif D1 p1 p2 p3 p4 p5 x then Ip p1 p2 p3 p4 p5 x else .bad) many x
abbrev Q3 {α:Type} (k:(List Mv)→(List Mv)→Int→Pos→Nat→((List (List UInt8))×Int)→α) (s:St):α:=wP s 0 fun q0=>k (tL (ET.mv) (tT s 3)) (tL (ET.mv) (tT s 9)) (tI (tT s 10)) q0 (tK s 0) ((tL (ET.str) (tT s 4)),(tI (tT s 11)))
theorem Y7 (p1:(List Mv)) (p2:(List Mv)) (p3:Int) (p4:Pos) (p5:Nat) (x:((List (List UInt8))×Int)) (r:((List (List UInt8))×Int×Bool)) (h:rD p1 p2 p3 p4 p5 x=some r):aB Pz (bj Pz 11 4) (Pq p1 p2 p3 p4 p5 x) (QT p1 p2 p3 p4 p5 r):=smq (m:=12) (fn:=11) Tp (Q3 fun _ _ _ _ _ x=>some x) (fun o=>match o with | .exit 0 s=>some ((tL ET.str (tT s 4)),(tI (tT s 11)),(tB (tT s 12))) | _=>none) many x r h
def QD (b:Code) (s:St):Tr Out:=Q3 (fun p1 p2 p3 p4 p5 x=>lO b (bj Pz 11 4) s (Pq p1 p2 p3 p4 p5 x) (rD p1 p2 p3 p4 p5 x) (QT p1 p2 p3 p4 p5)) s
theorem Va:∀ b,aY Pz b (QD b):=fun _ _ _ h=>bS (Y7 _ _ _ _ _ _) h
def B11:ax:=bO Pz K11 [(20,Qg),(24,G24)] [(11,4,QD)] []
theorem acz:aV B11:=ak aj ⟨UM,s24,trivial⟩ ⟨Va,trivial⟩ trivial
def JZ (a:Pos):List (List UInt8):=(((rD (bN a) (bN a) (Int.ofNat (bN a).length) a 0 ([],0)).getD default).1)
def LG (a:Pos):Bool:=(Am a&&((rD (bN a) (bN a) (Int.ofNat (bN a).length) a 0 ([],0)).isSome&&true))
def yO:bZ→Option (List (List UInt8)×Nat)
 | .ret (.list .str m (.own k)) h=>(h.al[k]?).map fun n=>(m,n)
 | _=>none
theorem aiC (a:Pos):((Gd B11 14 11 [Pos.av a] qp).qt yO).val=LG a:=by kernel_rfl
theorem afO (a:Pos):(Gd B11 14 11 [Pos.av a] qp).vt yO=(JZ a,(JZ a).length):=by kernel_rfl
theorem KE {w:World} (hglob:jM w):MR (eP w) qp w :=
 ⟨Nat.le_refl _,fun _ _ x=>x,rfl,fun _ _ _ x _=>by simp [eP] at x,fun _ _ _ x=>by simp [eP] at x,rfl,fun _ x=>by simp [eP] at x,fun _ _ _ _ x=>by simp [eP] at x,fun _ _ _ _ _ _ _ x=>by simp [eP] at x,rfl,fun _ _ _ x=>by simp [eP] at x,fun _ _ _ x=>by simp [eP] at x,fun _ x=>by simp [eP] at x,hglob⟩
theorem pM {w W:World} (hg:jM w) (hb:RowKit.Below w.heap.size w W):jM W:=((KE hg).grow hb).1.Bi
theorem uv {g:Gh} {tk:List Nat} {w:World}:∀ {l:List (List UInt8)} {cs:List Value},bx g tk w (l.map (enc .str)) cs→∃ bs:List ByteArray,cs=bs.map Value.string∧bs.map (fun b=>b.data.toList)=l
 | [],cs,h=>by
  cases h
  exact ⟨[],rfl,rfl⟩
 | s::l,cs,h=>by
  cases h with
  | cons hs hx h hr =>
  obtain ⟨bs,e1,e2⟩:=uv hr
  cases h with
  | one _ h hn =>
  cases hn
  cases h with
  | str hb =>
  rename_i b
  exact ⟨b::bs,by rw [hx,e1]; rfl,by rw [List.map_cons,e2,hb]⟩
def Sd (w w':World) (a:Option Addr) (cap:Nat) (l:List (List UInt8)):Prop :=
 (a=none∧l=[]∧cap=0)∨∃ b ty cells,a=some ⟨b,0,none⟩∧w.heap.size≤b∧w'.heap[b]?=some (.cells cells ty (0,0))∧cells.size=cap∧l.length≤cap∧∃ bs:List ByteArray,bs.map (fun b=>b.data.toList)=l∧∀ (j:Nat) (x:ByteArray),bs[j]?=some x→cells[j]?=some (Value.string x)
theorem allM (p:Pos) (hp:LG p=true) (w:World) (hg:jM w) (v:Value) (hv:aQ (eP w) [] w (Pos.av p) v) :
  Calls Tryz.prog 11 #[v] w fun e w' => ∃ a cap,e=.returned (.slice a (JZ p).length cap)∧RowKit.Below w.heap.size w w'∧Sd w w' a cap (JZ p):=by
 obtain ⟨r,h1,h2⟩:=uo (d:=yO) (R:=fun r v=>yO r=some v) (Gd B11 14 11 [Pos.av p] qp) (xg (by kernel_rfl)) (fun a _ v hv=>hv) ((aiC p).trans hp)
 rw [afO] at h2
 obtain ⟨hspec,_⟩:=(sl acz 14).1 _ _ _ _ h1
 unfold yO at h2
 split at h2
 ·rename_i m k h
  simp only [Option.map_eq_some_iff,Prod.mk.injEq] at h2
  obtain ⟨n0,hk,hml,hnl⟩:=h2
  subst hnl
  have hml':m=JZ p:=hml
  clear hml
  subst hml'
  refine (callsIn_wide.1 (hspec (eP w) w #[v] (KE hg) (.cons hv .nil))).mono ?_
  rintro e w' ⟨g',x,rfl,nx,hx⟩
  generalize JZ p=l at *
  have hbase:g'.base=w.heap.size:=nx.le.base
  cases hx with
  | list hn hE hS hT hC =>
  rename_i a n cap cs
  subst hn
  obtain ⟨bs,e1,e2⟩:=uv hE
  obtain ⟨n',hn1,hn2,hown⟩:=hT k rfl
  rw [hk] at hn1
  simp only [Option.some.injEq] at hn1
  obtain ⟨ow,how,hOI⟩:=hown hn1
  refine ⟨a,cap,rfl,nx.le.below,?_⟩
  cases ow with
  | none =>
   obtain ⟨ha,hlen,hcap⟩:=hOI
   exact .inl ⟨ha,List.eq_nil_of_length_eq_zero hlen,hcap⟩
  | some t =>
   obtain ⟨b,cap',z'⟩:=t
   obtain ⟨rfl,rfl,rfl⟩:=hOI
   obtain ⟨_,cells,ty,_,_,hmax,hb,hblk,hsz,_,_⟩:=nx.mr.tok k b cap (LU .str) how
   refine .inr ⟨b,ty,cells,rfl,by omega,hblk,by rw [hsz.1]; exact Nat.mul_one _,hC,bs,e2,fun j x hj => ?_⟩
   rcases hS with h0 | ⟨c',o',ha,hat,_⟩
   ·rw [h0] at e1
    cases bs with
    | nil=>simp at hj
    | cons b bs=>cases e1
   ·simp only [Option.some.injEq,Addr.mk.injEq,and_true] at ha
    obtain ⟨rfl,rfl⟩:=ha
    have hx:cs[j]?=some (Value.string x):=by rw [e1,List.getElem?_map,hj]; rfl
    obtain ⟨k1,_⟩:=hat j _ hx
    rw [bf hblk,Nat.zero_add] at k1
    exact k1
 ·cases h2
end Kz
end
noncomputable section
namespace Go.Proofs
open Go.Shelf Go.RowKit Go.Lib Go.Sort Kz
theorem Oh {g:Gh} {tk:List Nat} {w:World} {p:Pos} {cs:List Value} (h:ay g tk w (bB (Pos.av p)) cs):cs.length=88:=by
 change ay g tk w [.int .u8 p.variant,.ints .u8 64 p.ae,.u64 p.ab,.ints .u8 12 p.af,.int .u8 p.aa,.ints .i8 4 p.ai,.int .i8 p.ah,.ints .u8 2 p.ag,.int .i64 p.half,.int .i64 p.full] cs at h
 obtain ⟨x1,r1,e1,q1,h1⟩:=h.inv_one rfl
 obtain ⟨l2,r2,e2,h2⟩:=h1.bY
 obtain ⟨x3,r3,e3,q3,h3⟩:=h2.inv_one rfl
 obtain ⟨l4,r4,e4,h4⟩:=h3.bY
 obtain ⟨x5,r5,e5,q5,h5⟩:=h4.inv_one rfl
 obtain ⟨l6,r6,e6,h6⟩:=h5.bY
 obtain ⟨x7,r7,e7,q7,h7⟩:=h6.inv_one rfl
 obtain ⟨l8,r8,e8,h8⟩:=h7.bY
 obtain ⟨x9,r9,e9,q9,h9⟩:=h8.inv_one rfl
 obtain ⟨x10,r10,e10,q10,h10⟩:=h9.inv_one rfl
 have e11:=h10.cQ
 rw [e1,e2,e3,e4,e5,e6,e7,e8,e9,e10,e11]
 simp [l2,l4,l6,l8]
theorem sf {W:World} {b sz:Nat} {ty:TypeId} {cs:Array Value} (h:W.heap[b]?=some (.cells cs ty (0,0))) (hs:cs.toList.length=sz):Sem.run Tryz.prog (loadCellsFrom { block:=b,off:=0,spot:=none } 0 sz #[]) W=.ok cs W:=by
 have h:=run_loadCellsFrom_list Tryz.prog W ⟨b,0,none⟩ cs.toList sz hs (fun c v hc=>by
  rw [Addr.add_lit,bf h,Nat.zero_add]
  simpa using hc)
 simpa using h
def VD (p:Pos) (j:Nat):ByteArray:=⟨((JZ p).getD j default).toArray⟩
theorem zK {b:ByteArray} {l:List UInt8} (h:b.data.toList=l):b=⟨l.toArray⟩:=by
 obtain ⟨⟨d⟩⟩:=b
 have h':d=l:=h
 rw [h']
theorem MC {w1 w2 W:World} (hb:RowKit.Below w2.heap.size w2 W) {l:List Mv} {v:Value} (h:aQ (qC w1 w2) [] w2 (.list .mv l .fresh) v):aQ (eP W) [] W (.list .mv l .arg) v:=by
 cases h with
 | list hn hE hS hT hC =>
 refine .list hn (by rw [jA hE]; exact ra _ _ _ _) (hS.imp id fun ⟨c,o,e1,e2,e3⟩=>⟨c,o,e1,fun j x hj => ?_,fun f=>absurd rfl f⟩) (fun k e=>by cases e) hC
 obtain ⟨k1,_,k3⟩:=e2 j x hj
 exact ⟨by rw [di (hb.block c k3)]; exact k1,Nat.lt_of_lt_of_le k3 hb.size⟩
theorem Om {w1 w2:World} {l:List Mv} {a:Option Addr} {n cap:Nat} (h:aQ (qC w1 w2) [] w2 (.list .mv l .fresh) (.slice a n cap)) (h0:0 < l.length):∃ c o,a=some ⟨c,o,none⟩∧At (qC w1 w2) w2 c o (l.flatMap dO):=by
 cases h with
 | list hn hE hS hT hC =>
 have e:=jA hE
 subst e
 rcases hS with h | ⟨c,o,e,h,_⟩
 ·cases l with
  | nil=>simp at h0
  | cons a l=>exact absurd (congrArg List.length h) (by simp [dO])
 ·exact ⟨c,o,e,h⟩
theorem OR {w1 w2 W:World} {l:List Mv} {c o i s:Nat} (h:At (qC w1 w2) w2 c o (l.flatMap dO)) (hb:RowKit.Below w2.heap.size w2 W) (hi:i < l.length) (hs:s=5):Sem.run Tryz.prog (loadCellsFrom { block:=c,off:=o+i * s,spot:=none } 0 s #[]) W=.ok (dO (l.getD i default)).toArray W:=by
 subst hs
 have h:=run_loadCellsFrom_list Tryz.prog W ⟨c,o+i * 5,none⟩ (dO (l.getD i default)) 5 rfl (fun k v hk=>by
  have hk5:k < 5:=(List.getElem?_eq_some_iff.1 hk).1
  have hf:=ov l i k hi hk5
  have e:l.getD i default=l[i]! := by simp [List.getD_eq_getElem?_getD,hi]
  rw [e] at hk
  obtain ⟨k1,_,k3⟩:=h (i * 5+k) v (by rw [hf]; exact hk)
  rw [Addr.add_lit,di (hb.block c k3),show o+i * 5+k=o+(i * 5+k) by omega]
  exact k1)
 simpa using h
def Zr (p:Pos) (n:Nat) (w2:World) (a:Option Addr) (i:Nat) (W:World):Prop :=
 RowKit.Below w2.heap.size w2 W∧(n=0∨∃ b ty cells,a=some ⟨b,0,none⟩∧w2.heap.size≤b∧W.heap[b]?=some (.cells cells ty (0,0))∧n≤cells.size∧∀ j:Nat,i≤j→j < n→cells[j]?=some (.string (VD p j)))
set_option maxHeartbeats 4000000 in
set_option maxRecDepth 100000 in
theorem OD (p:Pos) (h10:uE p=true) (h11:LG p=true) (h12:∀ i,i < (eG p).length→BE p ((eG p).getD i default) (eG p)=true)
  (hN:JZ p=(eG p).map fun m=>Ve p m (eG p)) (sz:Nat) (zE:∀ w,(Go.sizeOf 31).run Tryz.prog w=.ok sz w) (hsz:sz=88) (C6:Nat) (zE38:∀ w,(Go.sizeOf 38).run Tryz.prog w=.ok C6 w) (h38:C6=5):bP Tryz.prog 3 [Pos.av p] (.bool true):=by
 intro w bX hg hr
 obtain ⟨bX⟩:=bX
 cases hr with
 | cons q1 r1 =>
 cases r1
 obtain ⟨pcs,rfl,hpc⟩:=aQ.eH (l:=bB (Pos.av p)) q1
 clear q1
 refine callsIn_wide.2 ?_
 have aE:∀ w,(isAgg 31).run Tryz.prog w=.ok true w:=Tryz.isAgg31
 have aE38:∀ w,(isAgg 38).run Tryz.prog w=.ok true w:=Tryz.isAgg38
 have hlen:pcs.toList.length=sz:=(Oh hpc).trans hsz.symm
 obtain ⟨w1,hw1⟩:∃ w1,w1=w.alloc (Obj.cells pcs 31):=⟨_,rfl⟩
 have hs1:w1.heap.size=w.heap.size+1:=by rw [hw1]; simp
 have hp1:w1.heap[w.heap.size]?=some (.cells pcs 31 (0,0)):=by rw [hw1]; exact heap_alloc_new w _
 have hb1:RowKit.Below w.heap.size w w1:=by rw [hw1]; exact (Below.refl _ w).alloc (Nat.le_refl _) _
 have l1:Sem.run Tryz.prog (loadCellsFrom { block:=w.heap.size,off:=0,spot:=none } 0 sz #[]) (w.alloc (Obj.cells pcs 31))=.ok pcs (w.alloc (Obj.cells pcs 31)):=by rw [← hw1]; exact sf hp1 hlen
 have c10:Calls Tryz.prog 10 #[.agg pcs] w1 fun e w' => ∃ a cap,e=.returned (.slice a (eG p).length cap)∧Hid (RowKit.Below w1.heap.size w1 w')∧Hid (aQ (qC w1 w') [] w' (.list .mv (eG p) .fresh) (.slice a (eG p).length cap)):=by
  refine Calls.mono (callsIn_wide.1 ((P10 p h10).1 w1 #[.agg pcs] (pM hg hb1) (.cons (.agg (nA hpc)) .nil))) ?_
  rintro e w' ⟨x,rfl,hb,hx⟩
  have hx':=hx
  cases hx with
  | list hn hE hS hT hC =>
  subst hn
  exact ⟨_,_,rfl,hb,hx'⟩
 rw [hw1] at c10
 have HW1:=Lib.hid hw1
 have HS1:=Lib.hid hs1
 have HP1:=Lib.hid hp1
 have HB1:=Lib.hid hb1
 have HG:=Lib.hid hg
 have H12:=Lib.hid h12
 have HN:=Lib.hid hN
 have HL:=Lib.hid hlen
 have HPC:=Lib.hid hpc
 have HZ:=Lib.hid hsz
 have HZ38:=Lib.hid h38
 clear hw1 hs1 hp1 hb1 hg h12 hN hlen hpc hsz h38 h10
 have hN11:(JZ p).length=(eG p).length:=by rw [HN.out,List.length_map]
 have k11:∀ w2 W,RowKit.Below w1.heap.size w1 w2→RowKit.Below w2.heap.size w2 W→Calls Tryz.prog 11 #[.agg pcs] W fun e w' => ∃ a cap,e=.returned (.slice a (eG p).length cap)∧Hid (Zr p (eG p).length w2 a 0 w'):=fun w2 W h2 hW=>by
  refine Calls.mono (allM p h11 W (pM HG.out (HB1.out.trans ((h2.mono HB1.out.size).trans (hW.mono (Nat.le_trans HB1.out.size h2.size))))) (.agg pcs) (.agg (nA HPC.out))) ?_
  rintro e w' ⟨a,cap,rfl,hb,hr⟩
  rw [hN11]
  refine ⟨a,cap,rfl,hW.trans (hb.mono hW.size),?_⟩
  rcases hr with ⟨_,h0,_⟩ | ⟨b,ty,cells,e1,e2,e3,e4,e5,bs,e6,e7⟩
  ·left
   rw [← hN11,h0]; rfl
  ·refine .inr ⟨b,ty,cells,e1,Nat.le_trans hW.size e2,e3,by omega,fun j _ hj => ?_⟩
   have hj':j < bs.length:=by
    rw [← hN11,← e6,List.length_map] at hj; exact hj
   rw [e7 j bs[j] (List.getElem?_eq_getElem hj')]
   congr 2
   refine zK ?_
   rw [← e6,List.getD_eq_getElem?_getD,List.getElem?_map,List.getElem?_eq_getElem hj']
   rfl
 have K11:Aside _:=k11
 have LD:Aside (∀ w2 W,RowKit.Below w1.heap.size w1 w2→RowKit.Below w2.heap.size w2 W→Sem.run Tryz.prog (loadCellsFrom { block:=w.heap.size,off:=0,spot:=none } 0 sz #[]) W=.ok pcs W):=fun w2 W h2 hW=>by
  have hlt:w.heap.size < w1.heap.size:=by have:=HS1.out; omega
  refine sf (ty:=31) ?_ HL.out
  rw [hW.block _ (Nat.lt_of_lt_of_le hlt h2.size),h2.block _ hlt]
  exact HP1.out
 clear k11 hN11
 go_enter Tryz.func3,Tryz.ntmps3
 go_wp2_with fail
 refine c10.mono ?_
 rintro e w2 ⟨a3,cap3,rfl,HB2,HR2⟩
 clear l1 c10
 rw [← HW1.out] at HB2 HR2
 go_wp2_with fail
 ·go_ret
  exact ⟨_,rfl,HB1.out.trans (HB2.out.mono HB1.out.size),.bool _⟩
 go_loopg [4] 2 (fun kx s4 wr => ∃ t:Nat,s4=.int .i64 t∧kx+t=2∧Hid (RowKit.Below w2.heap.size w2 wr))
 case atStart=>exact ⟨0,rfl,rfl,Below.refl _ _⟩
 case round =>
  obtain ⟨t,rfl,ht,HBr⟩:=hrel
  cases gk with
  | zero =>
   have hlt:¬ (t:Int) < 2:=by omega
   go_wp2
   go_ret
   exact ⟨_,rfl,(HB1.out.trans (HB2.out.mono HB1.out.size)).trans (HBr.out.mono (Nat.le_trans HB1.out.size HB2.out.size)),.bool _⟩
  | succ kx =>
   have hlt:(t:Int) < 2:=by omega
   have l2:=LD.out w2 wr HB2.out HBr.out
   go_wp2_with fail
   refine (K11.out w2 wr HB2.out HBr.out).mono ?_
   rintro e w3 ⟨a5,cap5,rfl,HR5⟩
   clear l2
   go_wp2_with fail
   go_loopg [6] ((eG p).length) (fun k2 s6 wr2 => ∃ i:Nat,s6=.int .i64 i∧k2+i=(eG p).length∧Hid (Zr p (eG p).length w2 a5 i wr2))
   case atStart=>exact ⟨0,rfl,rfl,HR5⟩
   case round =>
    clear HR5 HBr
    obtain ⟨i,rfl,hi,HR6⟩:=hrel
    cases gk with
    | zero =>
     have hlt2:¬ (i:Int) < ((eG p).length:Int):=by omega
     go_wp2
     go_roundg kx
     case measure=>omega
     case rel=>exact ⟨t+1,by go_num,by omega,HR6.out.1⟩
    | succ k2 =>
     have hlt2:(i:Int) < ((eG p).length:Int):=by omega
     have hiN:i < (eG p).length:=by omega
     go_wp2_with fail
     obtain ⟨hW,hrow⟩:=HR6.out
     obtain ⟨c3,o3,rfl,hat⟩:=Om HR2.out (by omega)
     obtain ⟨b5,ty,cells,rfl,hb5,hblk,hcs,hcell⟩:∃ (b:Nat) (ty:TypeId) (cells:Array Value),a5=some ⟨b,0,none⟩∧w2.heap.size≤b∧wr.heap[b]?=some (Obj.cells cells ty (0,0))∧(eG p).length≤cells.size∧∀ j:Nat,i≤j→j < (eG p).length→cells[j]?=some (Value.string (VD p j)):=by
      rcases hrow with h0 | h0
      ·omega
      ·exact h0
     have hWd:RowKit.Below w2.heap.size w2 wr.drew:=hW.drew
     have ld:∀ W,RowKit.Below w2.heap.size w2 W→Sem.run Tryz.prog (loadCellsFrom { block:=c3,off:=o3+i * C6,spot:=none } 0 C6 #[]) W=.ok (dO ((eG p).getD i default)).toArray W:=fun W hW=>OR hat hW hiN HZ38.out
     have lp1:=LD.out w2 wr.drew HB2.out hWd
     have lm1:=ld _ hWd
     have ls1:wr.drew.cell? ⟨b5,i,none⟩=some (Value.string (VD p i)):=by
      rw [bf (show wr.drew.heap[b5]?=_ from hblk)]
      exact hcell i (Nat.le_refl _) hiN
     have k12:∀ W,RowKit.Below w2.heap.size w2 W→Calls Tryz.prog 12 #[.agg pcs,.agg (dO ((eG p).getD i default)).toArray,.slice (some ⟨c3,o3,none⟩) (eG p).length cap3] W fun e w'=>e=.returned (Value.string (VD p i))∧Hid (RowKit.Below W.heap.size W w'):=fun W hW=>by
      refine Calls.mono (callsIn_wide.1 ((P12 p _ _ (H12.out i hiN)).1 W #[.agg pcs,.agg (dO ((eG p).getD i default)).toArray,.slice (some ⟨c3,o3,none⟩) (eG p).length cap3] (pM HG.out ((HB1.out.trans (HB2.out.mono HB1.out.size)).trans (hW.mono (Nat.le_trans HB1.out.size HB2.out.size)))) (.cons (.agg (nA HPC.out)) (.cons (.agg (AY _ _ _ _)) (.cons (MC hW HR2.out) .nil))))) ?_
      rintro e w' ⟨x,rfl,hb,hx⟩
      cases hx with
      | str hx =>
      refine ⟨?_,hb⟩
      rw [zK hx]
      unfold VD
      rw [HN.out]
      simp only [List.getD_eq_getElem?_getD,List.getElem?_map,List.getElem?_eq_getElem hiN]
      rfl
     have K12:Aside _:=k12
     have LDM:Aside _:=ld
     have HW:=Lib.hid hW
     have HBK:=Lib.hid hblk
     have HCS:=Lib.hid hcs
     have HCE:=Lib.hid hcell
     have HWD:=Lib.hid hWd
     have HB5:=Lib.hid hb5
     clear k12 ld hW hblk hcs hcell hWd hat hrow hb5
     generalize (dO ((eG p).getD i default)).toArray=mcs at *
     have esb:∃ x,x=VD p i:=⟨_,rfl⟩
     obtain ⟨sb,esb⟩:=esb
     rw [← esb] at ls1 K12
     clear esb
     go_region_with (first
      | (go_at_call_of 12 (Value.agg pcs); refine (K12.out wr.drew HWD.out).mono ?_; rintro e w4 ⟨rfl,HB4⟩; have HW4:Hid (RowKit.Below w2.heap.size w2 w4):=HWD.out.trans (HB4.out.mono HWD.out.size); have lp4:=LD.out w2 w4 HB2.out HW4.out; have lm4:=LDM.out w4 HW4.out; have ls4:w4.cell? ⟨b5,i,none⟩=some (Value.string sb):=(di (HB4.out.block b5 (aU HBK.out))).trans ls1))
     all_goals
      have hblk4:w4.heap[b5]?=some (Obj.cells cells ty (0,0)):=(HB4.out.block b5 (aU HBK.out)).trans HBK.out
      have hf4:w4.frozen? ⟨b5,i,none⟩=false:=fZ hblk4
      have HB4b:=Lib.hid hblk4
      clear hblk4 lp4 lm4
      go_wp2_with fail
      go_roundg k2
      case measure=>omega
      case rel =>
       refine ⟨i+1,by go_num,by omega,HW4.out.setCell (p:=⟨b5,i,none⟩) HB5.out _,.inr ⟨b5,ty,cells.setIfInBounds i (Value.string { data := #[115,112,111,105,108,116] }),rfl,HB5.out,?_,?_,fun j h1 h2 => ?_⟩⟩
       ·rw [iz HB4b.out]
        exact cu HB4b.out
       ·rw [Array.size_setIfInBounds]; exact HCS.out
       ·rw [Array.getElem?_setIfInBounds_ne (by omega)]
        exact HCE.out j (by omega) h2
end Go.Proofs
end
noncomputable section
namespace Kz
open Go Go.RowKit Go.Proofs
set_option maxRecDepth 100000
variable {p:Pos} {m x:Mv}
theorem Na (hp:aG p):∃ r,rD (bN p) (bN p) (Int.ofNat (bN p).length) p 0 ([],0)=some r∧r.1=(bN p).map (BF p):=by
 have hl:=gU hp
 refine ba (I:=fun x:List (List UInt8)×Int=>0≤x.2∧x.2≤((bN p).length:Int)∧x.1=((bN p).take x.2.toNat).map (BF p)) (μ:=fun x=>(((bN p).length:Int) - x.2).toNat) ?_ _ ⟨Int.le_refl _,by dsimp only; omega,rfl⟩ (by dsimp only; omega)
 rintro ⟨o,i⟩ ⟨i0,i1,ho⟩
 dsimp only at i0 i1 ho
 unfold D1 Ip
 dsimp only
 by_cases hi:i < Int.ofNat (bN p).length
 ·have hi':i < ((bN p).length:Int):=hi
  have hm:=ct (l:=bN p) (i:=i.toNat) (d:=default) (by omega)
  obtain ⟨k1,k2,_⟩:=rY hp hm
  have e15:=((rf hp ((bN p).getD i.toNat default)).2.2.2.2.1 hm).1
  have lo:o.length=i.toNat:=by rw [ho,List.length_map,List.length_take]; omega
  rw [decide_eq_true hi,decide_eq_true i0,k1,decide_eq_true (show o.length+1≤1073741824 by omega)]
  refine ⟨by simp,?_⟩
  rw [cond_true,aI (by omega) (by omega)]
  refine ⟨⟨by dsimp only; omega,by dsimp only; omega,?_⟩,by dsimp only; omega⟩
  dsimp only
  rw [show (i+1).toNat=i.toNat+1 by omega,List.take_add_one,List.map_append,← ho,k2,← e15]
  congr 1
  rw [List.getD_eq_getElem?_getD,List.getElem?_eq_getElem (show i.toNat < (bN p).length by omega)]
  rfl
 ·rw [decide_eq_false hi]
  refine ⟨rfl,?_⟩
  show o=_
  rw [ho,List.take_of_length_le (by have:¬ i < ((bN p).length:Int):=hi; omega)]
theorem Uz (hp:aG p):LG p=true∧JZ p=(bN p).map (BF p):=by
 obtain ⟨r,e,h⟩:=Na hp
 unfold LG JZ
 rw [e,t20 hp]
 exact ⟨rfl,h⟩
theorem ajB (hp:aG p):bP Pz 3 [Pos.av p] (.bool true):=by
 obtain ⟨g1,g2⟩:=ud hp
 obtain ⟨a1,a2⟩:=Uz hp
 refine OD p g1 a1 (fun i hi => ?_) ?_ 88 Tryz.sizeOf31 rfl 5 Tryz.sizeOf38 rfl
 ·rw [g2] at hi ⊢
  exact (inR hp (ct hi)).1
 ·rw [g2,a2]
  refine List.map_congr_left fun m hm => ?_
  rw [(inR hp hm).2,((rf hp m).2.2.2.2.1 hm).1,(rY hp hm).2.1]
end Kz
end
noncomputable section
namespace Kz
open Go Go.RowKit Go.Proofs
set_option maxRecDepth 100000
theorem law3 (p:Pos) (hp:aG p):bP Pz 3 [Pos.av p] (.bool true):=ajB hp
end Kz
namespace Go.Proofs.YtmhlngkbgbenhaaGreatDoor
open Kz Go Go.RowKit Go.WideShapes Go.ChangeShapes Go.ChangeAt Go.Proofs
set_option maxRecDepth 100000
theorem par3:Tryz.f3.params=#[31]:=by kernel_rfl
theorem res3:Tryz.f3.resultTypes=#[4]:=by kernel_rfl
theorem rd3:∀ t ∈ Tryz.f3.params.toList,Tryz.prog.readableRec t=true∧t < Tryz.prog.types.size:=by
 rw [par3]
 have h:([31]:List TypeId).all (fun t=>Tryz.prog.readableRec t&&Nat.blt t Tryz.prog.types.size)=true:=by kernel_rfl
 intro t ht
 have:=List.all_eq_true.1 h t ht
 simp only [Bool.and_eq_true,Nat.blt_eq] at this
 exact this
theorem open3 (W:World) (base:Nat) (args:Array Value) (hl:args.size=Tryz.f3.params.size) (hval:∀ (j:Nat) t v,Tryz.f3.params[j]?=some t→args[j]?=some v→Value.okWide Tryz.prog W .any base t v) :
  ∃ xs,(∀ (g:Gh) (tk:List Nat) (w:World),aC g tk w xs args.toList)∧bP Pz 3 xs (.bool true):=by
 rw [par3] at hl
 obtain ⟨l⟩:=args
 obtain ⟨v0,rfl⟩:∃ v0,l=[v0]:=by
  match l,hl with
  | [v0],_=>exact ⟨_,rfl⟩
 obtain ⟨p0,h0,r0⟩:=tj (hval 0 31 v0 (by rw [par3]; rfl) rfl)
 exact ⟨[Pos.av p0],fun g tk w=>.cons (r0 _ _ _) .nil,law3 p0 h0⟩
theorem laid_met3 (os:Os):laidMet Tryz.prog Rows.sanAllRow.laid ((eL os).forCall (fun _ _=>0) ⟨#[],#[eS],[]⟩).memory :=
 laidMet_of_run' 12 (by kernel_rfl) (by kernel_rfl)
theorem reads3 (os:Os) {H:Type} (enc:TypeId×Value→H):∃ places,DataW.whole enc Tryz.prog ((eL os).forCall (fun _ _=>0) ⟨#[],#[eS],[]⟩).memory Tryz.f3.params.toList Rows.sanAllSpec.vars false (#[eS]:Array Value).toList 12=some ([rW],[],places) :=
 ⟨[],by kernel_rfl⟩
theorem lifted3 (os:Os) (started:os.Started) (H:Type) (enc:TypeId×Value→H) (F:Stop.Interp) :
  ReturnsInHanded {} Tryz.checked os 3 .any ((OpenSpec.ofChange Rows.sanAllSpec).preRow enc Tryz.prog Tryz.f3 Rows.sanAllRow.domain false Rows.sanAllRow.laid) (((OpenSpec.ofChange Rows.sanAllSpec).at F).post enc Tryz.prog Tryz.f3 false true false false):=by
 obtain ⟨places,hx⟩:=reads3 os enc
 refine returnsInHanded_of_row (C:=Tryz.checked) (s:=OpenSpec.ofChange Rows.sanAllSpec) GM started (by kernel_rfl) Tryz.func3
  (witness_row_at (enc:=enc) (C:=Tryz.checked) false (eL os) #[eS] rfl (by kernel_rfl) (by kernel_rfl) (by kernel_rfl)
   (OpenSpec.preRow_of_cond 12 hx (by kernel_rfl) (fun k hk=>by cases hk) (by kernel_rfl) (laid_met3 os))) ?_
 intro W base args ds gs before hval hW _ _ _ hL _ _
 exact kU (f:=3) (fn:=Tryz.f3) (s:=Rows.sanAllSpec) res3 rfl rd3 (fun H ds hds=>by
  rw [par3] at hds
  match ds,hds with
  | [d0],_=>rfl) open3 H enc W base args ds gs before hval hW (kP hL)
theorem and2 {a b:Bool} (h1:a=true) (h2:b=true):(a&&b)=true:=by rw [h1,h2]; rfl
theorem j3_0:(Rows.sanAllRow.wf (OpenSpec.ofChange (OpenSpec.ofChange Rows.sanAllSpec).bare))=true:=by kernel_rfl
theorem j3_1:(laidOutB Tryz.prog)=true:=by kernel_rfl
theorem j3_2:(mapsRowed Tryz.prog)=true:=by kernel_rfl
theorem j3_3:(Tryz.f3.params.all (Tryz.prog.readableRec ·))=true:=by kernel_rfl
theorem j3_4:(namedTie Tryz.prog Rows.sanAllRow.named (OpenSpec.ofChange Rows.sanAllSpec).bare.vars)=true:=by kernel_rfl
theorem j3_5:((Rows.sanAllRow.stops==[]))=true:=by kernel_rfl
theorem j3_6:((Tryz.prog.stops==[]))=true:=by kernel_rfl
theorem j3_7:((Rows.sanAllRow.knobs==[]))=true:=by kernel_rfl
theorem j3_8:((Tryz.prog.stopKnobs==[]))=true:=by kernel_rfl
theorem j3_9:((Rows.sanAllRow.inPlace==Tryz.prog.inPlace 3))=true:=by kernel_rfl
theorem j3_10:((Rows.sanAllRow.unfollowed==Tryz.prog.unfollowed 3))=true:=by kernel_rfl
theorem j3_11:((Rows.sanAllRow.recurses==Tryz.prog.recurses 3))=true:=by kernel_rfl
theorem j3_12:((Rows.sanAllRow.named==Tryz.prog.varsNamed 3))=true:=by kernel_rfl
theorem j3_13:((Rows.sanAllRow.maps==(Tryz.f3.params.toList++(OpenSpec.ofChange Rows.sanAllSpec).bare.plain.varTypes Tryz.prog).any (Tryz.prog.mapsRec ·)))=true:=by kernel_rfl
theorem j3_14:((Rows.sanAllRow.ifaces==(Tryz.f3.params.toList++(OpenSpec.ofChange Rows.sanAllSpec).bare.plain.varTypes Tryz.prog).any (Tryz.prog.ifacesRec ·)))=true:=by kernel_rfl
theorem j3_15:((Rows.sanAllRow.mapsOut==Tryz.prog.mapsAmong Tryz.f3.resultTypes.toList))=true:=by kernel_rfl
theorem j3_16:((Rows.sanAllRow.loops==(Tryz.f3.params.toList++(OpenSpec.ofChange Rows.sanAllSpec).bare.plain.varTypes Tryz.prog).any (Tryz.prog.loopsFrom ·)))=true:=by kernel_rfl
theorem j3_17:((Rows.sanAllRow.wideKeys==(Tryz.f3.params.toList++(OpenSpec.ofChange Rows.sanAllSpec).bare.plain.varTypes Tryz.prog++Tryz.f3.resultTypes.toList).any (Tryz.prog.wideKeysFrom ·)))=true:=by kernel_rfl
theorem j3_18:((OpenSpec.ofChange Rows.sanAllSpec).bare.vars.all (Tryz.prog.varReadable ·))=true:=by kernel_rfl
theorem j3_19:(Tryz.f3.resultTypes.all (fun t=>Tryz.prog.readableRec t&&decide (t < Tryz.prog.types.size)))=true:=by kernel_rfl
theorem j3_20:((Rows.sanAllRow.ifacesOut==Tryz.f3.resultTypes.toList.any (Tryz.prog.ifacesRec ·)))=true:=by kernel_rfl
theorem j3_21:((Rows.sanAllRow.loopsOut==Tryz.f3.resultTypes.toList.any (Tryz.prog.loopsFrom ·)))=true:=by kernel_rfl
theorem j3_22:((Rows.sanAllRow.plainKeys==Tryz.prog.plainKeys))=true:=by kernel_rfl
theorem j3_23:(Rows.sanAllRow.shortTexts.isNone)=true:=by kernel_rfl
theorem j3_24:(Tryz.prog.stopsHeard)=true:=by kernel_rfl
theorem j3_25:(Tryz.prog.mayEnter)=true:=by kernel_rfl
theorem j3_26:((Rows.sanAllRow.lifted==Tryz.prog.liftsFinal))=true:=by kernel_rfl
theorem j3_27:((Tryz.prog.make==some Rows.sanAllRow.make))=true:=by kernel_rfl
theorem j3_28:((Rows.sanAllRow.kinds==(if Rows.sanAllRow.domain.isEmpty then [] else Tryz.f3.params.toList.map fun t=>match Tryz.prog.underlying t with | some (.int k)=>some k | _=>none)))=true:=by kernel_rfl
theorem j3_29:((Rows.sanAllRow.pinned==Rows.sanAllRow.pinnedBy))=true:=by kernel_rfl
theorem j3_30:((Rows.sanAllRow.veiled==(Tryz.f3.params.toList++(OpenSpec.ofChange Rows.sanAllSpec).bare.plain.varTypes Tryz.prog++Tryz.f3.resultTypes.toList).any (Tryz.prog.veiledRec ·)))=true:=by kernel_rfl
theorem j3_31:(Rows.sanAllRow.veiledFits Tryz.prog Tryz.f3.params.toList (Tryz.f3.params.toList++(OpenSpec.ofChange Rows.sanAllSpec).bare.plain.varTypes Tryz.prog++Tryz.f3.resultTypes.toList))=true:=by kernel_rfl
theorem joined3:joinedFacts Tryz.prog 3 Tryz.f3 (OpenSpec.ofChange Rows.sanAllSpec).bare Rows.sanAllRow=true:=(and2 (and2 (and2 (and2 (and2 (and2 (and2 (and2 (and2 (and2 (and2 (and2 (and2 (and2 (and2 (and2 (and2 (and2 (and2 (and2 (and2 (and2 (and2 (and2 (and2 (and2 (and2 (and2 (and2 (and2 (and2 j3_0 j3_1) j3_2) j3_3) j3_4) j3_5) j3_6) j3_7) j3_8) j3_9) j3_10) j3_11) j3_12) j3_13) j3_14) j3_15) j3_16) j3_17) j3_18) j3_19) j3_20) j3_21) j3_22) j3_23) j3_24) j3_25) j3_26) j3_27) j3_28) j3_29) j3_30) j3_31)
theorem named3:Tryz.pinned.checked.prog.funcNamed Rows.sanAllRow.func=some 3:=by kernel_rfl
theorem said3:Rows.SanAllSaid :=
 OpenClaim.holds_of_cond 3 Tryz.f3 rfl rfl rfl rfl rfl rfl rfl ⟨rfl,rfl,rfl,rfl,rfl⟩ rfl rfl rfl rfl rfl named3 Tryz.func3 joined3
  (of_decide_eq_true (by kernel_rfl)) (by unfold Func.isWrapper; first | (rw [if_pos (by decide +kernel)]; kernel_rfl) | (rw [if_neg (by decide +kernel)]; exact ⟨rfl,rfl⟩))
  (fun os started H enc _ F=>by rw [OpenClaim.pre_eq_preRow]; exact lifted3 os started H enc F)
theorem plain3 (f:FuncId) (fn:Func) (hf:Tryz.pinned.checked.prog.funcNamed Rows.sanAllRow.func=some f) (hfn:Tryz.pinned.checked.prog.funcs[f]?=some fn) :
  true=Tryz.pinned.checked.prog.looks []∧∀ (j:Nat) t,fn.params[j]?=some t→Tryz.pinned.checked.prog.wantsStandIn t=false:=by
 obtain rfl:f=3:=Option.some.inj (named3.symm.trans hf) |>.symm
 obtain rfl:fn=Tryz.f3:=(Option.some.inj (Tryz.func3.symm.trans hfn)).symm
 refine ⟨by kernel_rfl,fun j t ht => ?_⟩
 rw [par3] at ht
 have h:([31]:List TypeId).all (fun t => !Tryz.prog.wantsStandIn t)=true:=by kernel_rfl
 have hm:t ∈ ([31]:List TypeId):=by simpa using Array.mem_of_getElem? ht
 have hw:Tryz.prog.wantsStandIn t=false:=by simpa using List.all_eq_true.1 h t hm
 exact hw
theorem card3:Rows.SanAllCardSaid :=
 Claim7.holds_tied_plain_at .later [] _ _ _ _ said3 (fun _ h=>by cases h) (by kernel_rfl) (fun _ h=>by cases h) sanAll_row_tie rfl ⟨rfl,rfl⟩ (by kernel_rfl) rfl plain3 (by kernel_rfl)
end Go.Proofs.YtmhlngkbgbenhaaGreatDoor
end
