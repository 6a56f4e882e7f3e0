/- Part 5 of the texts under the proof: an abstract interpreter,the summaries of functions,plain laws. -/
import Derived.Test.YteikjjgonhlndaaGreatDoorR4
set_option linter.unusedSectionVars false
set_option linter.unusedVariables false
set_option linter.unusedSimpArgs false
set_option linter.unnecessarySimpa false
section
namespace Kz
open Go Go.RowKit Go.Proofs
set_option maxRecDepth 100000
set_option maxHeartbeats 4000000
noncomputable def K19:List (Nat×Nat×List (Nat×List Nat)):=[(19,9,[(0,[2,3]),(1,[4])])]
noncomputable def B19:Base:=baseOf Pz (fun f i=>lkC f i K19) [(40,G40)] [] []
theorem hB19:BOk B19:=base_ok named_z ⟨s40,trivial⟩ trivial trivial
noncomputable def N19 (a:Pos) (b:Mv):Bool:=(decide (N40 a b ≥ 0))
noncomputable def ok19 (a:Pos) (b:Mv):Bool:=(ok40 (a) (b)&&true)
theorem P19 (a:Pos) (b:Mv) (h:ok19 a b=true):PS Pz 19 [Pos.av a,Mv.av b] (dB.res (N19 a b)):=ps_sum (n:=14) hB19 (by kernel_rfl) (by kernel_rfl) (by kernel_rfl) h
noncomputable def G19:List AV→Tr AV:=g2 dPos dMv (fun a b=>gdv (ok19 a b) (dB.res (N19 a b)))
theorem s19:Sound Pz 19 G19:=sound2 fun a b=>at_gd (P19 a b)
noncomputable def B72:Base:=baseOf Pz (fun _ _=>[]) [(73,G73),(75,G75),(76,G76)] [] []
theorem hB72:BOk B72:=base_ok named_z ⟨s73,s75,s76,trivial⟩ trivial trivial
noncomputable def N72 (a:Mv) (b:Mv) (p:Pos):Int:=(bif N75 (N73 p b) (N73 p a) != 0 then (bif N75 (N73 p b) (N73 p a)==0 then (bif decide (N73 p a > 0) then (N75 (N76 p a) (N76 p b)) else (N75 (N73 p b) (N73 p a))) else (N75 (N73 p b) (N73 p a))) else (bif N75 b.pro a.pro != 0 then (bif N75 b.pro a.pro==0 then (bif decide (N73 p a > 0) then (N75 (N76 p a) (N76 p b)) else (N75 b.pro a.pro)) else (N75 b.pro a.pro)) else (bif decide (N73 p a > 0) then (N75 (N76 p a) (N76 p b)) else (0))))
noncomputable def ok72 (a:Mv) (b:Mv) (p:Pos):Bool:=(ok73 (p) (a)&&(ok73 (p) (b)&&(bif N75 (N73 p b) (N73 p a) != 0 then (bif N75 (N73 p b) (N73 p a)==0 then (bif decide (N73 p a > 0) then (ok76 (p) (a)&&(ok76 (p) (b)&&true)) else true) else true) else (bif N75 b.pro a.pro != 0 then (bif N75 b.pro a.pro==0 then (bif decide (N73 p a > 0) then (ok76 (p) (a)&&(ok76 (p) (b)&&true)) else true) else true) else (bif decide (N73 p a > 0) then (ok76 (p) (a)&&(ok76 (p) (b)&&true)) else true)))))
theorem P72 (a:Mv) (b:Mv) (p:Pos) (h:ok72 a b p=true):PS Pz 72 [Mv.av a,Mv.av b,.ptrf (Pos.av p)] ((dI .i64).res (N72 a b p)):=ps_sum (n:=14) hB72 (by kernel_rfl) (by kernel_rfl) (by kernel_rfl) h
theorem ok136_t (p:Pos) (b:Int):ok136 p b=true:=by
  unfold ok136
  by_cases h1:b < 0
  · rw [decide_eq_true h1]; rfl
  · by_cases h2:b ≥ 64
    · rw [decide_eq_false h1,decide_eq_true h2]; rfl
    · have h3:b < Int.ofNat 64:=by show b < 64; omega
      rw [decide_eq_false h1,decide_eq_false h2,decide_eq_true h3,decide_eq_true (show 0≤b by omega)]
      cases (!N145 (p.board.getD (scale 1 b).toNat 0)) <;> rfl
theorem ok73_t (p:Pos) (m:Mv):ok73 p m=true:=by
  unfold ok73
  rw [ok136_t,ok136_t]
  simp
theorem ok76_t (p:Pos) (m:Mv):ok76 p m=true:=by
  unfold ok76
  rw [ok136_t]
  simp
theorem ok72_t (a b:Mv) (p:Pos):ok72 a b p=true:=by
  unfold ok72
  rw [ok73_t,ok73_t,ok76_t,ok76_t]
  simp
theorem S72 (a b:Mv) (p:Pos):PureSpec Pz 72 [Mv.av a,Mv.av b,.ptrf (Pos.av p)] (.int .i64 (N72 a b p)):=(P72 a b p (ok72_t a b p)).1
def shOwn:FRes→Option (List Mv×Option Nat)
  | .ret (.list .mv m (.own k)) h=>some (m,h.toks[k]?)
  | _=>none
noncomputable def B70:Base:=baseOf Pz (fun _ _=>[]) [] [] [(146,F146)]
theorem hB70:BOk B70:=base_ok named_z trivial trivial ⟨sF146,trivial⟩
theorem E70 (l:List Mv):(evF B70 14 70 [.vlist false [.list .mv l .arg]] hp0).bind (fun r=>Tr.opt (shOwn r))=Tr.br (decide (wr IntKind.i64 (0+Int.ofNat l.length) < 0)) Tr.fail (Tr.br (decide (0≤wr IntKind.i64 (0+Int.ofNat l.length))&&decide (wr IntKind.i64 (0+Int.ofNat l.length)≤Int.ofNat 1073741824)) (Tr.br (0==0&&decide (0+l.length≤1073741824)) (Tr.ret ([]++l,some l.length)) Tr.fail) Tr.fail):=by kernel_rfl
theorem hp0_mr {w:World} (hglob:GlobOk w):MR (gArg w) hp0 w :=
  ⟨Nat.le_refl _,fun _ _ x=>x,rfl,fun _ _ _ x _=>by simp [gArg] at x,fun _ _ _ x=>by simp [gArg] at x,rfl,fun _ x=>by simp [gArg] at x,fun _ _ _ _ x=>by simp [gArg] at x,fun _ _ _ _ _ _ _ x=>by simp [gArg] at x,rfl,fun _ _ _ x=>by simp [gArg] at x,fun _ _ _ x=>by simp [gArg] at x,fun _ x=>by simp [gArg] at x,hglob⟩
theorem len_ok {n:Nat} (h:n≤lim):decide (wr IntKind.i64 (0+Int.ofNat n) < 0)=false∧(decide (0≤wr IntKind.i64 (0+Int.ofNat n))&&decide (wr IntKind.i64 (0+Int.ofNat n)≤Int.ofNat 1073741824))=true∧(0==0&&decide (0+n≤1073741824))=true:=by
  have hn:n≤1073741824:=h
  have e:wr IntKind.i64 (0+Int.ofNat n)=(n:Int):=by
    show wr IntKind.i64 (0+(n:Int))=_
    rw [Int.zero_add]
    exact IntKind.wrap_i64 _ |>.trans (by omega)
  rw [e]
  refine ⟨decide_eq_false (by omega),?_,?_⟩
  · rw [decide_eq_true (by omega),decide_eq_true (show (n:Int)≤Int.ofNat 1073741824 by show (n:Int)≤1073741824; omega)]; rfl
  · rw [decide_eq_true (by omega)]; rfl
theorem joinM (l:List Mv) (hl:l.length≤lim) (w:World) (hg:GlobOk w) (v:Value) (hv:Rep (gArg w) [] w (.vlist false [.list .mv l .arg]) v) :
    Calls Tryz.prog 70 #[v] w fun e w' => ∃ a cap,e=.returned (.slice a l.length cap)∧RowKit.Below w.heap.size w w' ∧
      ((a=none∧l=[])∨∃ b ty,a=some ⟨b,0,none⟩∧w.heap.size≤b∧b < w'.heap.size∧l.length≤cap∧RowW w' b cap ty l.toArray w'):=by
  obtain ⟨c1,c2,c3⟩:=len_ok hl
  have hget:((evF B70 14 70 [.vlist false [.list .mv l .arg]] hp0).bind (fun r=>Tr.opt (shOwn r))).get=some (l,some l.length):=by
    rw [E70]
    simp only [get_br,c1,c2,c3,cond_true,cond_false,get_ret,List.nil_append]
  simp only [get_bind,Option.bind_eq_some_iff,get_opt] at hget
  obtain ⟨r,h1,h2⟩:=hget
  obtain ⟨hspec,_⟩:=(ev_ok hB70 14).1 _ _ _ _ h1
  unfold shOwn at h2
  split at h2
  · rename_i m k h
    simp only [Option.some.injEq,Prod.mk.injEq] at h2
    obtain ⟨hml,hk⟩:=h2
    have hml':l=m:=hml.symm
    clear hml
    subst m
    refine (callsIn_wide.1 (hspec (gArg w) w #[v] (hp0_mr hg) (.cons hv .nil))).mono ?_
    rintro e w' ⟨g',x,rfl,nx,hx⟩
    have hbase:g'.base=w.heap.size:=nx.le.base
    cases hx with
    | list hn hE hS hT hC =>
    rename_i a n cap cs
    subst hn
    have hcs:=mvs_cells hE
    obtain ⟨n',hn1,hn2,hown⟩:=hT k rfl
    rw [hk] at hn1
    simp only [Option.some.injEq] at hn1
    obtain ⟨ow,how,hOI⟩:=hown hn1
    refine ⟨a,cap,rfl,nx.le.below,?_⟩
    cases ow with
    | none =>
      obtain ⟨ha,hlen,hcap⟩:=hOI
      exact .inl ⟨ha,List.eq_nil_of_length_eq_zero hlen⟩
    | some t =>
      obtain ⟨b,cap',z'⟩:=t
      obtain ⟨rfl,rfl,rfl⟩:=hOI
      obtain ⟨_,cells,ty,_,_,_,hb,hblk,hsz,_,_⟩:=nx.mr.tok k b cap (esz .mv) how
      refine .inr ⟨b,ty,rfl,by omega,lt_of_some hblk,hC,rfl,rfl,rfl,Nat.le_refl _,fun _ _ _=>rfl,cells,hblk,hsz,fun j c hj hc => ?_⟩
      have hj':j < l.length:=by simpa using hj
      have h1:j * 5+c < l.length * 5:=by have:=Nat.mul_le_mul_right 5 (show j+1≤l.length from hj'); omega
      have hfl:=flat_get l j c hj' hc
      have ea:l.toArray[j]! = l[j]:=by simp [hj']
      have eb:l[j]! = l[j]:=by simp [hj']
      rw [ea]
      rw [eb] at hfl
      rcases hS with h0 | ⟨c',o',ha,hat,_⟩
      · exfalso
        have:=flat_len l
        rw [← hcs,h0] at this
        simp at this
        omega
      · simp only [Option.some.injEq,Addr.mk.injEq,and_true] at ha
        obtain ⟨rfl,rfl⟩:=ha
        have hx:cs[j * 5+c]?=(encM l[j])[c]? := by rw [hcs]; exact hfl
        obtain ⟨u,hu⟩:∃ u,(encM l[j])[c]?=some u:=⟨_,List.getElem?_eq_getElem (show c < (encM l[j]).length from hc)⟩
        obtain ⟨k1,_⟩:=hat (j * 5+c) u (by rw [hx,hu])
        rw [cell_of_blk hblk,Nat.zero_add] at k1
        rw [k1]
        simp [hu]
  · cases h2
noncomputable def K147:List (Nat×Nat×List (Nat×List Nat)):=[(118,9,[(0,[0,2]),(1,[0,2,4]),(2,[2]),(3,[2])]),(166,22,[(0,[0]),(1,[0,1]),(2,[0])]),(147,6,[(0,[0]),(1,[2])])]
noncomputable def B147:Base:=baseOf Pz (fun f i=>lkC f i K147) [] [] []
theorem hB147:BOk B147:=base_ok named_z trivial trivial trivial
noncomputable def N147 (a:Int):Bool:=(bif decide (a ≥ 9) then (false) else (bif a==↑0 then (true) else (bif a==↑1 then (true) else (bif a==↑2 then (true) else (bif a==↑3 then (true) else (bif a==↑4 then (false) else (bif a==↑5 then (true) else (bif a==↑6 then (true) else (bif a==↑7 then (true) else (false))))))))))
noncomputable def ok147 (a:Int):Bool:=(bif decide (a ≥ 9) then true else (decide (0≤a)&&decide (a < ↑9)&&(bif a==↑0 then true else (bif a==↑1 then true else (bif a==↑2 then true else (bif a==↑3 then true else (bif a==↑4 then true else (bif a==↑5 then true else (bif a==↑6 then true else (bif a==↑7 then true else (a==↑8&&true)))))))))))
theorem P147 (a:Int) (h:ok147 a=true):PS Pz 147 [.int .u8 a] (dB.res (N147 a)):=ps_sum (n:=14) hB147 (by kernel_rfl) (by kernel_rfl) (by kernel_rfl) h
noncomputable def G147:List AV→Tr AV:=g1 (dI .u8) (fun a=>gdv (ok147 a) (dB.res (N147 a)))
theorem s147:Sound Pz 147 G147:=sound1 fun a=>at_gd (P147 a)
noncomputable def K148:List (Nat×Nat×List (Nat×List Nat)):=[(148,6,[(0,[0]),(1,[2])])]
noncomputable def B148:Base:=baseOf Pz (fun f i=>lkC f i K148) [] [] []
theorem hB148:BOk B148:=base_ok named_z trivial trivial trivial
noncomputable def N148 (a:Int):Int:=(wr .i64 (56 * wr .i64 a))
noncomputable def ok148 (a:Int):Bool:=true
theorem P148 (a:Int) (h:ok148 a=true):PS Pz 148 [.int .u8 a] ((dI .i64).res (N148 a)):=ps_sum (n:=14) hB148 (by kernel_rfl) (by kernel_rfl) (by kernel_rfl) h
noncomputable def G148:List AV→Tr AV:=g1 (dI .u8) (fun a=>.ret ((dI .i64).res (N148 a)))
theorem s148:Sound Pz 148 G148:=sound1 fun a=>at_rt (P148 a rfl)
noncomputable def K181:List (Nat×Nat×List (Nat×List Nat)):=[(181,52,[(0,(1::2::3::21::22::(rn 40 6 [48,49,50]))),(1,(1::2::3::8::21::22::(rn 40 6 [48,49,50]))),(2,(1::2::3::8::23::(rn 40 6 [48,49,50]))),(3,[6,7]),(4,(1::2::3::9::(rn 40 6 [48,49,50]))),(5,[6,7])])]
noncomputable def B181:Base:=baseOf Pz (fun f i=>lkC f i K181) [(148,G148)] [] []
theorem hB181:BOk B181:=base_ok named_z ⟨s148,trivial⟩ trivial trivial
noncomputable def N181 (a:Pos) (b:Int) (c:Int):(Int×Bool):=(bif decide (wr .i64 (a.rooks.getD (scale 2 a.turn+scale 1 c).toNat 0) < 0) then ((0),(false)) else (bif decide (wr .i64 (a.rooks.getD (scale 2 a.turn+scale 1 c).toNat 0) > 7) then ((0),(false)) else (bif a.board.getD (scale 1 (wr .i64 (N148 a.turn+wr .i64 (a.rooks.getD (scale 2 a.turn+scale 1 c).toNat 0)))).toNat 0==wr .u8 (wr .u8 (8 * a.turn)+4) then (bif eqOut BinOp.eql (decide (wr .i64 (N148 a.turn+wr .i64 (a.rooks.getD (scale 2 a.turn+scale 1 c).toNat 0)) > b)==(c==0)) then ((wr .i64 (N148 a.turn+wr .i64 (a.rooks.getD (scale 2 a.turn+scale 1 c).toNat 0))),(wr .i64 (N148 a.turn+wr .i64 (a.rooks.getD (scale 2 a.turn+scale 1 c).toNat 0)) != b)) else ((wr .i64 (N148 a.turn+wr .i64 (a.rooks.getD (scale 2 a.turn+scale 1 c).toNat 0))),(false))) else ((wr .i64 (N148 a.turn+wr .i64 (a.rooks.getD (scale 2 a.turn+scale 1 c).toNat 0))),(false)))))
noncomputable def ok181 (a:Pos) (b:Int) (c:Int):Bool:=(decide (0≤a.turn)&&decide (a.turn < ↑2)&&(decide (0≤c)&&decide (c < ↑2)&&(bif decide (wr .i64 (a.rooks.getD (scale 2 a.turn+scale 1 c).toNat 0) < 0) then true else (bif decide (wr .i64 (a.rooks.getD (scale 2 a.turn+scale 1 c).toNat 0) > 7) then true else (decide (0≤wr .i64 (N148 a.turn+wr .i64 (a.rooks.getD (scale 2 a.turn+scale 1 c).toNat 0)))&&decide (wr .i64 (N148 a.turn+wr .i64 (a.rooks.getD (scale 2 a.turn+scale 1 c).toNat 0)) < ↑64)&&true)))))
theorem P181 (a:Pos) (b:Int) (c:Int) (h:ok181 a b c=true):PS Pz 181 [Pos.av a,.int .i64 b,.int .i64 c] ((d2 (dI .i64) dB).res (N181 a b c)):=ps_sum (n:=14) hB181 (by kernel_rfl) (by kernel_rfl) (by kernel_rfl) h
noncomputable def G181:List AV→Tr AV:=g3 dPos (dI .i64) (dI .i64) (fun a b c=>gdv (ok181 a b c) ((d2 (dI .i64) dB).res (N181 a b c)))
theorem s181:Sound Pz 181 G181:=sound3 fun a b c=>at_gd (P181 a b c)
noncomputable def K149:List (Nat×Nat×List (Nat×List Nat)):=[(149,81,[(0,(1::2::3::6::(rn 64 4 (rn 70 4 [])))),(1,(1::2::3::6::8::9::(rn 64 4 (rn 70 4 [])))),(2,(1::2::3::6::8::26::(rn 64 4 (rn 70 4 [])))),(3,[6,7]),(4,(1::3::6::8::10::(rn 64 4 (rn 70 4 [])))),(5,(1::3::6::8::11::12::(rn 64 4 (rn 70 4 [])))),(6,(1::3::6::8::11::12::13::(rn 64 4 (rn 70 4 [])))),(7,(1::3::6::8::11::12::13::(rn 64 4 (rn 70 4 [])))),(8,(1::3::6::8::(rn 11 4 (rn 64 4 (rn 70 4 []))))),(9,(1::3::6::8::11::12::13::15::(rn 64 4 (rn 70 4 [])))),(10,(1::3::6::8::11::12::13::15::16::(rn 64 4 (rn 70 4 [])))),(11,(1::6::8::11::12::15::17::(rn 64 4 (rn 70 4 [])))),(12,[1,6,8,9]),(13,[6,7])]),(153,4,[(0,[0]),(1,[0])]),(182,10,[(0,[0,1]),(1,[3])]),(183,25,[(0,(rn 0 4 (rn 10 5 (rn 17 7 [])))),(1,[5])]),(184,16,[(0,[0,1,5,6]),(1,[5,6,10]),(2,[5,6,7]),(3,[6,15]),(4,[]),(5,[6])]),(203,6,[(0,[2,3]),(1,[4])]),(211,19,[(0,[0,1,2,4]),(1,[0,1,2,4,12]),(2,[0,1,2,4]),(3,[0,1,2,4,18])])]
noncomputable def B149_1:Base:=baseOf Pz (fun f i=>lkC f i K149) [(66,G66),(148,G148),(151,G151),(155,G155),(159,G159),(181,G181)] [] []
theorem hB149_1:BOk B149_1:=base_ok named_z ⟨s66,s148,s151,s155,s159,s181,trivial⟩ trivial trivial
noncomputable def S149_1 (p1:Pos) (p2:(List Int)) (p3:Pos) (p4:(BitVec 64)) (p5:(BitVec 64)) (p6:Int) (p7:Int) (x:(Int)):St:=St.mk (AV.yield 0::AV.ptr 8 0::AV.ptr 9 0::AV.any::AV.int .i64 x::(an 14 [])) (Hp.mk [(pc p1 []),[AV.int .i8 0,AV.int .i8 0,AV.int .u8 0,AV.int .u8 0,AV.bool false],[AV.ints .i64 2 p2],(pc p3 []),[AV.u64 p4],[AV.u64 p5],[AV.func 182 [] [AV.ptr 4 0]],[AV.bool false],[AV.int .i64 p6],[AV.int .i64 p7]] [] [LRec.mk 0 none 184 (an 5 (AV.ptr 6 0::AV.ptr 7 0::(an 3 (AV.func 211 [] [AV.ptr 8 0,AV.ptr 9 0]::(an 5 []))))) [11] (rfA Pz 184 3) (rfB Pz 184 3)] 0 0 0)
noncomputable def O149_1 (p1:Pos) (p2:(List Int)) (p3:Pos) (p4:(BitVec 64)) (p5:(BitVec 64)) (p6:Int) (p7:Int):(Int) ⊕ (Int×Bool)→Out
  | (.inl (y))=>.ret (St.mk (AV.yield 0::AV.ptr 8 0::AV.ptr 9 0::AV.any::AV.int .i64 y::(an 13 [AV.cbool true])) (Hp.mk [(pc p1 []),[AV.int .i8 0,AV.int .i8 0,AV.int .u8 0,AV.int .u8 0,AV.bool false],[AV.ints .i64 2 p2],(pc p3 []),[AV.u64 p4],[AV.u64 p5],[AV.func 182 [] [AV.ptr 4 0]],[AV.cbool false],[AV.int .i64 p6],[AV.int .i64 p7]] [] [LRec.mk 2 (some Code.ret) 184 (an 5 (AV.ptr 6 0::AV.ptr 7 0::(an 3 (AV.func 211 [] [AV.ptr 8 0,AV.ptr 9 0]::(an 5 []))))) [11] (rfA Pz 184 3) (rfB Pz 184 3)] 0 0 0))
  | (.inr (y))=>.exit 0 (St.mk (AV.yield 0::AV.ptr 8 0::AV.ptr 9 0::AV.any::AV.int .i64 y.fst::(an 7 (AV.bool y.snd::(an 6 [])))) (Hp.mk [(pc p1 []),[AV.int .i8 0,AV.int .i8 0,AV.int .u8 0,AV.int .u8 0,AV.bool false],[AV.ints .i64 2 p2],(pc p3 []),[AV.u64 p4],[AV.u64 p5],[AV.func 182 [] [AV.ptr 4 0]],[AV.bool false],[AV.int .i64 p6],[AV.int .i64 p7]] [] [LRec.mk 0 none 184 (an 5 (AV.ptr 6 0::AV.ptr 7 0::(an 3 (AV.func 211 [] [AV.ptr 8 0,AV.ptr 9 0]::(an 5 []))))) [11] (rfA Pz 184 3) (rfB Pz 184 3)] 0 0 0))
noncomputable def st149_1 (p1:Pos) (p2:(List Int)) (p3:Pos) (p4:(BitVec 64)) (p5:(BitVec 64)) (p6:Int) (p7:Int) (x:(Int)):Stp (Int) ((Int) ⊕ (Int×Bool)):=(bif decide (x≤if p7 > p6 then p7 else p6) then (bif !p4 >>> (BitVec.ofInt 64 x).toNat&&&1#64==0#64 then (Stp.out (.inl ((x)))) else (Stp.go (wr .i64 (x+1)))) else (Stp.out (.inr ((x,decide (x≤if p7 > p6 then p7 else p6))))))
noncomputable def okL149_1 (p1:Pos) (p2:(List Int)) (p3:Pos) (p4:(BitVec 64)) (p5:(BitVec 64)) (p6:Int) (p7:Int) (x:(Int)):Bool:=true
noncomputable def lp149_1 (p1:Pos) (p2:(List Int)) (p3:Pos) (p4:(BitVec 64)) (p5:(BitVec 64)) (p6:Int) (p7:Int) (x:(Int)):Option ((Int) ⊕ (Int×Bool)):=itl (fun x=>bif okL149_1 p1 p2 p3 p4 p5 p6 p7 x then st149_1 p1 p2 p3 p4 p5 p6 p7 x else .bad) many x
abbrev D149_1 {α:Type} (k:Pos→(List Int)→Pos→(BitVec 64)→(BitVec 64)→Int→Int→(Int)→α) (s:St):α:=wP s 0 fun q0=>wP s 3 fun q3=>k q0 (tN (tH s 2 0)) q3 (tU (tH s 4 0)) (tU (tH s 5 0)) (tI (tH s 8 0)) (tI (tH s 9 0)) ((tI (tT s 4)))
theorem L149_1 (p1:Pos) (p2:(List Int)) (p3:Pos) (p4:(BitVec 64)) (p5:(BitVec 64)) (p6:Int) (p7:Int) (x:(Int)) (r:(Int) ⊕ (Int×Bool)) (h:lp149_1 p1 p2 p3 p4 p5 p6 p7 x=some r):LSpec Pz (bodL Pz 211 1) (S149_1 p1 p2 p3 p4 p5 p6 p7 x) (O149_1 p1 p2 p3 p4 p5 p6 p7 r):=LSpec.smd (m:=12) (fn:=211) hB149_1 (D149_1 fun _ _ _ _ _ _ _ x=>some x) (fun o=>match o with | .ret s=>some (.inl (tI (tT s 4))) | .exit 0 s=>some (.inr ((tI (tT s 4)),(tB (tT s 12)))) | _=>none) (fun r=>by cases r <;> rfl) (fun _=>by kernel_rfl) (fun _=>by kernel_rfl) (fun _=>by kernel_rfl) (fun _=>by kernel_rfl) many x r h
noncomputable def F149_1 (b:Code) (s:St):Tr Out:=D149_1 (fun p1 p2 p3 p4 p5 p6 p7 x=>lk2 b (bodL Pz 211 1) s (S149_1 p1 p2 p3 p4 p5 p6 p7 x) (lp149_1 p1 p2 p3 p4 p5 p6 p7 x) (O149_1 p1 p2 p3 p4 p5 p6 p7)) s
theorem sF149_1:∀ b,LSound Pz b (F149_1 b):=fun _ _ _ h=>lk2_ok (L149_1 _ _ _ _ _ _ _ _) h
noncomputable def B149_2:Base:=baseOf Pz (fun f i=>lkC f i K149) [(66,G66),(148,G148),(151,G151),(155,G155),(159,G159),(181,G181)] [(211,1,F149_1)] []
theorem hB149_2:BOk B149_2:=base_ok named_z ⟨s66,s148,s151,s155,s159,s181,trivial⟩ ⟨sF149_1,trivial⟩ trivial
noncomputable def S149_2 (p1:Pos) (p2:(List Int)) (p3:Pos) (p4:(BitVec 64)) (p5:(BitVec 64)) (p6:Int) (p7:Int) (p8:Int) (p9:Int) (x:(Int)):St:=St.mk (AV.yield 1::AV.ptr 12 0::AV.ptr 13 0::AV.any::AV.int .i64 x::(an 14 [])) (Hp.mk [(pc p1 []),[AV.int .i8 0,AV.int .i8 0,AV.int .u8 0,AV.int .u8 0,AV.bool false],[AV.ints .i64 2 p2],(pc p3 []),[AV.u64 p4],[AV.u64 p5],[AV.func 182 [] [AV.ptr 4 0]],[AV.bool true],[AV.int .i64 p6],[AV.int .i64 p7],[AV.func 182 [] [AV.ptr 4 0]],[AV.bool false],[AV.int .i64 p8],[AV.int .i64 p9]] [] [LRec.mk 3 none 184 (an 5 (AV.ptr 6 0::AV.ptr 7 0::(an 3 (AV.func 211 [] [AV.ptr 8 0,AV.ptr 9 0]::(an 5 []))))) [11] (rfA Pz 184 3) (rfB Pz 184 3),LRec.mk 0 none 184 (an 5 (AV.ptr 10 0::AV.ptr 11 0::(an 3 (AV.func 211 [] [AV.ptr 12 0,AV.ptr 13 0]::(an 5 []))))) [11] (rfA Pz 184 3) (rfB Pz 184 3)] 0 0 0)
noncomputable def O149_2 (p1:Pos) (p2:(List Int)) (p3:Pos) (p4:(BitVec 64)) (p5:(BitVec 64)) (p6:Int) (p7:Int) (p8:Int) (p9:Int):(Int) ⊕ (Int×Bool)→Out
  | (.inl (y))=>.ret (St.mk (AV.yield 1::AV.ptr 12 0::AV.ptr 13 0::AV.any::AV.int .i64 y::(an 13 [AV.cbool true])) (Hp.mk [(pc p1 []),[AV.int .i8 0,AV.int .i8 0,AV.int .u8 0,AV.int .u8 0,AV.bool false],[AV.ints .i64 2 p2],(pc p3 []),[AV.u64 p4],[AV.u64 p5],[AV.func 182 [] [AV.ptr 4 0]],[AV.bool true],[AV.int .i64 p6],[AV.int .i64 p7],[AV.func 182 [] [AV.ptr 4 0]],[AV.cbool false],[AV.int .i64 p8],[AV.int .i64 p9]] [] [LRec.mk 3 none 184 (an 5 (AV.ptr 6 0::AV.ptr 7 0::(an 3 (AV.func 211 [] [AV.ptr 8 0,AV.ptr 9 0]::(an 5 []))))) [11] (rfA Pz 184 3) (rfB Pz 184 3),LRec.mk 2 (some Code.ret) 184 (an 5 (AV.ptr 10 0::AV.ptr 11 0::(an 3 (AV.func 211 [] [AV.ptr 12 0,AV.ptr 13 0]::(an 5 []))))) [11] (rfA Pz 184 3) (rfB Pz 184 3)] 0 0 0))
  | (.inr (y))=>.exit 0 (St.mk (AV.yield 1::AV.ptr 12 0::AV.ptr 13 0::AV.any::AV.int .i64 y.fst::(an 7 (AV.bool y.snd::(an 6 [])))) (Hp.mk [(pc p1 []),[AV.int .i8 0,AV.int .i8 0,AV.int .u8 0,AV.int .u8 0,AV.bool false],[AV.ints .i64 2 p2],(pc p3 []),[AV.u64 p4],[AV.u64 p5],[AV.func 182 [] [AV.ptr 4 0]],[AV.bool true],[AV.int .i64 p6],[AV.int .i64 p7],[AV.func 182 [] [AV.ptr 4 0]],[AV.bool false],[AV.int .i64 p8],[AV.int .i64 p9]] [] [LRec.mk 3 none 184 (an 5 (AV.ptr 6 0::AV.ptr 7 0::(an 3 (AV.func 211 [] [AV.ptr 8 0,AV.ptr 9 0]::(an 5 []))))) [11] (rfA Pz 184 3) (rfB Pz 184 3),LRec.mk 0 none 184 (an 5 (AV.ptr 10 0::AV.ptr 11 0::(an 3 (AV.func 211 [] [AV.ptr 12 0,AV.ptr 13 0]::(an 5 []))))) [11] (rfA Pz 184 3) (rfB Pz 184 3)] 0 0 0))
noncomputable def st149_2 (p1:Pos) (p2:(List Int)) (p3:Pos) (p4:(BitVec 64)) (p5:(BitVec 64)) (p6:Int) (p7:Int) (p8:Int) (p9:Int) (x:(Int)):Stp (Int) ((Int) ⊕ (Int×Bool)):=(bif decide (x≤if p9 > p8 then p9 else p8) then (bif !p4 >>> (BitVec.ofInt 64 x).toNat&&&1#64==0#64 then (Stp.out (.inl ((x)))) else (Stp.go (wr .i64 (x+1)))) else (Stp.out (.inr ((x,decide (x≤if p9 > p8 then p9 else p8))))))
noncomputable def okL149_2 (p1:Pos) (p2:(List Int)) (p3:Pos) (p4:(BitVec 64)) (p5:(BitVec 64)) (p6:Int) (p7:Int) (p8:Int) (p9:Int) (x:(Int)):Bool:=true
noncomputable def lp149_2 (p1:Pos) (p2:(List Int)) (p3:Pos) (p4:(BitVec 64)) (p5:(BitVec 64)) (p6:Int) (p7:Int) (p8:Int) (p9:Int) (x:(Int)):Option ((Int) ⊕ (Int×Bool)):=itl (fun x=>bif okL149_2 p1 p2 p3 p4 p5 p6 p7 p8 p9 x then st149_2 p1 p2 p3 p4 p5 p6 p7 p8 p9 x else .bad) many x
abbrev D149_2 {α:Type} (k:Pos→(List Int)→Pos→(BitVec 64)→(BitVec 64)→Int→Int→Int→Int→(Int)→α) (s:St):α:=wP s 0 fun q0=>wP s 3 fun q3=>k q0 (tN (tH s 2 0)) q3 (tU (tH s 4 0)) (tU (tH s 5 0)) (tI (tH s 8 0)) (tI (tH s 9 0)) (tI (tH s 12 0)) (tI (tH s 13 0)) ((tI (tT s 4)))
theorem L149_2 (p1:Pos) (p2:(List Int)) (p3:Pos) (p4:(BitVec 64)) (p5:(BitVec 64)) (p6:Int) (p7:Int) (p8:Int) (p9:Int) (x:(Int)) (r:(Int) ⊕ (Int×Bool)) (h:lp149_2 p1 p2 p3 p4 p5 p6 p7 p8 p9 x=some r):LSpec Pz (bodL Pz 211 1) (S149_2 p1 p2 p3 p4 p5 p6 p7 p8 p9 x) (O149_2 p1 p2 p3 p4 p5 p6 p7 p8 p9 r):=LSpec.smd (m:=12) (fn:=211) hB149_2 (D149_2 fun _ _ _ _ _ _ _ _ _ x=>some x) (fun o=>match o with | .ret s=>some (.inl (tI (tT s 4))) | .exit 0 s=>some (.inr ((tI (tT s 4)),(tB (tT s 12)))) | _=>none) (fun r=>by cases r <;> rfl) (fun _=>by kernel_rfl) (fun _=>by kernel_rfl) (fun _=>by kernel_rfl) (fun _=>by kernel_rfl) many x r h
noncomputable def F149_2 (b:Code) (s:St):Tr Out:=D149_2 (fun p1 p2 p3 p4 p5 p6 p7 p8 p9 x=>lk2 b (bodL Pz 211 1) s (S149_2 p1 p2 p3 p4 p5 p6 p7 p8 p9 x) (lp149_2 p1 p2 p3 p4 p5 p6 p7 p8 p9 x) (O149_2 p1 p2 p3 p4 p5 p6 p7 p8 p9)) s
theorem sF149_2:∀ b,LSound Pz b (F149_2 b):=fun _ _ _ h=>lk2_ok (L149_2 _ _ _ _ _ _ _ _ _ _) h
noncomputable def B149_3:Base:=baseOf Pz (fun f i=>lkC f i K149) [(66,G66),(148,G148),(151,G151),(155,G155),(159,G159),(181,G181)] [(211,1,fun b s=>(bif Kz.shp [0,1,2,4] s==[50,228,244,3,10,3,7,4,7,3,7,3,7,3,3,5,3,3,3,3,2,1,7,10,3,7,4,7,3,7,3,7,3,3,1,4,1,4,1,1182,1,2,1,3,1,3,184] then F149_1 b s else (bif Kz.shp [0,1,2,4] s==[51,292,308,3,10,3,7,4,7,3,7,3,7,3,3,5,3,3,3,3,2,1,7,10,3,7,4,7,3,7,3,7,3,3,1,4,1,4,1,1182,1,2,1,3,1,3,1,1182,1,2,1,3,1,3,184,184] then F149_2 b s else .fail)))] []
theorem hB149_3:BOk B149_3:=base_ok named_z ⟨s66,s148,s151,s155,s159,s181,trivial⟩ ⟨(cnd_sound (c:=fun s=>Kz.shp [0,1,2,4] s==[50,228,244,3,10,3,7,4,7,3,7,3,7,3,3,5,3,3,3,3,2,1,7,10,3,7,4,7,3,7,3,7,3,3,1,4,1,4,1,1182,1,2,1,3,1,3,184]) sF149_1 (cnd_sound (c:=fun s=>Kz.shp [0,1,2,4] s==[51,292,308,3,10,3,7,4,7,3,7,3,7,3,3,5,3,3,3,3,2,1,7,10,3,7,4,7,3,7,3,7,3,3,1,4,1,4,1,1182,1,2,1,3,1,3,1,1182,1,2,1,3,1,3,184,184]) sF149_2 fail_sound)),trivial⟩ trivial
noncomputable def S149_3 (p1:Pos) (p2:(List Int)) (p3:Pos) (p4:(BitVec 64)) (p5:(BitVec 64)) (p6:Int) (p7:Int) (p8:Int) (p9:Int) (p10:Int) (p11:Int) (x:(Int)):St:=St.mk (AV.yield 2::AV.ptr 16 0::AV.ptr 17 0::AV.any::AV.int .i64 x::(an 14 [])) (Hp.mk [(pc p1 []),[AV.int .i8 0,AV.int .i8 0,AV.int .u8 0,AV.int .u8 0,AV.bool false],[AV.ints .i64 2 p2],(pc p3 []),[AV.u64 p4],[AV.u64 p5],[AV.func 182 [] [AV.ptr 4 0]],[AV.bool true],[AV.int .i64 p6],[AV.int .i64 p7],[AV.func 182 [] [AV.ptr 4 0]],[AV.bool true],[AV.int .i64 p8],[AV.int .i64 p9],[AV.func 183 [] [AV.ptr 0 0,AV.ptr 5 0,AV.ptr 3 0]],[AV.bool false],[AV.int .i64 p10],[AV.int .i64 p11]] [] [LRec.mk 3 none 184 (an 5 (AV.ptr 6 0::AV.ptr 7 0::(an 3 (AV.func 211 [] [AV.ptr 8 0,AV.ptr 9 0]::(an 5 []))))) [11] (rfA Pz 184 3) (rfB Pz 184 3),LRec.mk 3 none 184 (an 5 (AV.ptr 10 0::AV.ptr 11 0::(an 3 (AV.func 211 [] [AV.ptr 12 0,AV.ptr 13 0]::(an 5 []))))) [11] (rfA Pz 184 3) (rfB Pz 184 3),LRec.mk 0 none 184 (an 5 (AV.ptr 14 0::AV.ptr 15 0::(an 3 (AV.func 211 [] [AV.ptr 16 0,AV.ptr 17 0]::(an 5 []))))) [11] (rfA Pz 184 3) (rfB Pz 184 3)] 0 0 0)
noncomputable def O149_3 (p1:Pos) (p2:(List Int)) (p3:Pos) (p4:(BitVec 64)) (p5:(BitVec 64)) (p6:Int) (p7:Int) (p8:Int) (p9:Int) (p10:Int) (p11:Int):(Int) ⊕ (Int×Bool)→Out
  | (.inl (y))=>.ret (St.mk (AV.yield 2::AV.ptr 16 0::AV.ptr 17 0::AV.any::AV.int .i64 y::(an 13 [AV.cbool true])) (Hp.mk [(pc p1 []),[AV.int .i8 0,AV.int .i8 0,AV.int .u8 0,AV.int .u8 0,AV.bool false],[AV.ints .i64 2 p2],(pc p3 []),[AV.u64 p4],[AV.u64 p5],[AV.func 182 [] [AV.ptr 4 0]],[AV.bool true],[AV.int .i64 p6],[AV.int .i64 p7],[AV.func 182 [] [AV.ptr 4 0]],[AV.bool true],[AV.int .i64 p8],[AV.int .i64 p9],[AV.func 183 [] [AV.ptr 0 0,AV.ptr 5 0,AV.ptr 3 0]],[AV.bool false],[AV.int .i64 p10],[AV.int .i64 p11]] [] [LRec.mk 3 none 184 (an 5 (AV.ptr 6 0::AV.ptr 7 0::(an 3 (AV.func 211 [] [AV.ptr 8 0,AV.ptr 9 0]::(an 5 []))))) [11] (rfA Pz 184 3) (rfB Pz 184 3),LRec.mk 3 none 184 (an 5 (AV.ptr 10 0::AV.ptr 11 0::(an 3 (AV.func 211 [] [AV.ptr 12 0,AV.ptr 13 0]::(an 5 []))))) [11] (rfA Pz 184 3) (rfB Pz 184 3),LRec.mk 2 (some Code.ret) 184 (an 5 (AV.ptr 14 0::AV.ptr 15 0::(an 3 (AV.func 211 [] [AV.ptr 16 0,AV.ptr 17 0]::(an 5 []))))) [11] (rfA Pz 184 3) (rfB Pz 184 3)] 0 0 0))
  | (.inr (y))=>.exit 0 (St.mk (AV.yield 2::AV.ptr 16 0::AV.ptr 17 0::AV.any::AV.int .i64 y.fst::(an 7 (AV.bool y.snd::(an 6 [])))) (Hp.mk [(pc p1 []),[AV.int .i8 0,AV.int .i8 0,AV.int .u8 0,AV.int .u8 0,AV.bool false],[AV.ints .i64 2 p2],(pc p3 []),[AV.u64 p4],[AV.u64 p5],[AV.func 182 [] [AV.ptr 4 0]],[AV.bool true],[AV.int .i64 p6],[AV.int .i64 p7],[AV.func 182 [] [AV.ptr 4 0]],[AV.bool true],[AV.int .i64 p8],[AV.int .i64 p9],[AV.func 183 [] [AV.ptr 0 0,AV.ptr 5 0,AV.ptr 3 0]],[AV.bool false],[AV.int .i64 p10],[AV.int .i64 p11]] [] [LRec.mk 3 none 184 (an 5 (AV.ptr 6 0::AV.ptr 7 0::(an 3 (AV.func 211 [] [AV.ptr 8 0,AV.ptr 9 0]::(an 5 []))))) [11] (rfA Pz 184 3) (rfB Pz 184 3),LRec.mk 3 none 184 (an 5 (AV.ptr 10 0::AV.ptr 11 0::(an 3 (AV.func 211 [] [AV.ptr 12 0,AV.ptr 13 0]::(an 5 []))))) [11] (rfA Pz 184 3) (rfB Pz 184 3),LRec.mk 0 none 184 (an 5 (AV.ptr 14 0::AV.ptr 15 0::(an 3 (AV.func 211 [] [AV.ptr 16 0,AV.ptr 17 0]::(an 5 []))))) [11] (rfA Pz 184 3) (rfB Pz 184 3)] 0 0 0))
noncomputable def st149_3 (p1:Pos) (p2:(List Int)) (p3:Pos) (p4:(BitVec 64)) (p5:(BitVec 64)) (p6:Int) (p7:Int) (p8:Int) (p9:Int) (p10:Int) (p11:Int) (x:(Int)):Stp (Int) ((Int) ⊕ (Int×Bool)):=(bif decide (x≤if p11 > p10 then p11 else p10) then (bif p1.variant==3 then (bif N155 x&&&p5 != 0#64 then (Stp.go (wr .i64 (x+1))) else (bif !!N159 p3 x (wr .u8 (1 - p1.turn)) then (Stp.out (.inl ((x)))) else (Stp.go (wr .i64 (x+1))))) else (bif !!N159 p3 x (wr .u8 (1 - p1.turn)) then (Stp.out (.inl ((x)))) else (Stp.go (wr .i64 (x+1))))) else (Stp.out (.inr ((x,decide (x≤if p11 > p10 then p11 else p10))))))
noncomputable def okL149_3 (p1:Pos) (p2:(List Int)) (p3:Pos) (p4:(BitVec 64)) (p5:(BitVec 64)) (p6:Int) (p7:Int) (p8:Int) (p9:Int) (p10:Int) (p11:Int) (x:(Int)):Bool:=(bif decide (x≤if p11 > p10 then p11 else p10) then (bif p1.variant==3 then (ok155 (x)&&(bif N155 x&&&p5 != 0#64 then true else (ok159 (p3) (x) (wr .u8 (1 - p1.turn))&&true))) else (ok159 (p3) (x) (wr .u8 (1 - p1.turn))&&true)) else true)
noncomputable def lp149_3 (p1:Pos) (p2:(List Int)) (p3:Pos) (p4:(BitVec 64)) (p5:(BitVec 64)) (p6:Int) (p7:Int) (p8:Int) (p9:Int) (p10:Int) (p11:Int) (x:(Int)):Option ((Int) ⊕ (Int×Bool)):=itl (fun x=>bif okL149_3 p1 p2 p3 p4 p5 p6 p7 p8 p9 p10 p11 x then st149_3 p1 p2 p3 p4 p5 p6 p7 p8 p9 p10 p11 x else .bad) many x
abbrev D149_3 {α:Type} (k:Pos→(List Int)→Pos→(BitVec 64)→(BitVec 64)→Int→Int→Int→Int→Int→Int→(Int)→α) (s:St):α:=wP s 0 fun q0=>wP s 3 fun q3=>k q0 (tN (tH s 2 0)) q3 (tU (tH s 4 0)) (tU (tH s 5 0)) (tI (tH s 8 0)) (tI (tH s 9 0)) (tI (tH s 12 0)) (tI (tH s 13 0)) (tI (tH s 16 0)) (tI (tH s 17 0)) ((tI (tT s 4)))
theorem L149_3 (p1:Pos) (p2:(List Int)) (p3:Pos) (p4:(BitVec 64)) (p5:(BitVec 64)) (p6:Int) (p7:Int) (p8:Int) (p9:Int) (p10:Int) (p11:Int) (x:(Int)) (r:(Int) ⊕ (Int×Bool)) (h:lp149_3 p1 p2 p3 p4 p5 p6 p7 p8 p9 p10 p11 x=some r):LSpec Pz (bodL Pz 211 1) (S149_3 p1 p2 p3 p4 p5 p6 p7 p8 p9 p10 p11 x) (O149_3 p1 p2 p3 p4 p5 p6 p7 p8 p9 p10 p11 r):=LSpec.smd (m:=12) (fn:=211) hB149_3 (D149_3 fun _ _ _ _ _ _ _ _ _ _ _ x=>some x) (fun o=>match o with | .ret s=>some (.inl (tI (tT s 4))) | .exit 0 s=>some (.inr ((tI (tT s 4)),(tB (tT s 12)))) | _=>none) (fun r=>by cases r <;> rfl) (fun _=>by kernel_rfl) (fun _=>by kernel_rfl) (fun _=>by kernel_rfl) (fun _=>by kernel_rfl) many x r h
noncomputable def F149_3 (b:Code) (s:St):Tr Out:=D149_3 (fun p1 p2 p3 p4 p5 p6 p7 p8 p9 p10 p11 x=>lk2 b (bodL Pz 211 1) s (S149_3 p1 p2 p3 p4 p5 p6 p7 p8 p9 p10 p11 x) (lp149_3 p1 p2 p3 p4 p5 p6 p7 p8 p9 p10 p11 x) (O149_3 p1 p2 p3 p4 p5 p6 p7 p8 p9 p10 p11)) s
theorem sF149_3:∀ b,LSound Pz b (F149_3 b):=fun _ _ _ h=>lk2_ok (L149_3 _ _ _ _ _ _ _ _ _ _ _ _) h
noncomputable def B149:Base:=baseOf Pz (fun f i=>lkC f i K149) [(66,G66),(148,G148),(151,G151),(155,G155),(159,G159),(181,G181)] [(211,1,fun b s=>(bif Kz.shp [0,1,2,4] s==[50,228,244,3,10,3,7,4,7,3,7,3,7,3,3,5,3,3,3,3,2,1,7,10,3,7,4,7,3,7,3,7,3,3,1,4,1,4,1,1182,1,2,1,3,1,3,184] then F149_1 b s else (bif Kz.shp [0,1,2,4] s==[51,292,308,3,10,3,7,4,7,3,7,3,7,3,3,5,3,3,3,3,2,1,7,10,3,7,4,7,3,7,3,7,3,3,1,4,1,4,1,1182,1,2,1,3,1,3,1,1182,1,2,1,3,1,3,184,184] then F149_2 b s else (bif Kz.shp [0,1,2,4] s==[52,356,372,3,10,3,7,4,7,3,7,3,7,3,3,5,3,3,3,3,2,1,7,10,3,7,4,7,3,7,3,7,3,3,1,4,1,4,1,1182,1,2,1,3,1,3,1,1182,1,2,1,3,1,3,1,1183,1,2,1,3,1,3,184,184,184] then F149_3 b s else .fail))))] []
theorem hB149:BOk B149:=base_ok named_z ⟨s66,s148,s151,s155,s159,s181,trivial⟩ ⟨(cnd_sound (c:=fun s=>Kz.shp [0,1,2,4] s==[50,228,244,3,10,3,7,4,7,3,7,3,7,3,3,5,3,3,3,3,2,1,7,10,3,7,4,7,3,7,3,7,3,3,1,4,1,4,1,1182,1,2,1,3,1,3,184]) sF149_1 (cnd_sound (c:=fun s=>Kz.shp [0,1,2,4] s==[51,292,308,3,10,3,7,4,7,3,7,3,7,3,3,5,3,3,3,3,2,1,7,10,3,7,4,7,3,7,3,7,3,3,1,4,1,4,1,1182,1,2,1,3,1,3,1,1182,1,2,1,3,1,3,184,184]) sF149_2 (cnd_sound (c:=fun s=>Kz.shp [0,1,2,4] s==[52,356,372,3,10,3,7,4,7,3,7,3,7,3,3,5,3,3,3,3,2,1,7,10,3,7,4,7,3,7,3,7,3,3,1,4,1,4,1,1182,1,2,1,3,1,3,1,1182,1,2,1,3,1,3,1,1183,1,2,1,3,1,3,184,184,184]) sF149_3 fail_sound))),trivial⟩ trivial
noncomputable def N149 (a:Pos) (b:Int) (c:Int):(Mv×Bool):=(bif !(N181 a b c).snd then (⟨(0),(0),(0),(0),(false)⟩,(false)) else (bif isL ((lp149_1 a (List.take 2 (List.drop (c.toNat * 2) (li [6,5,2,3]))) (Pos.mk a.variant ((a.board.set (scale 1 b).toNat 0).set (scale 1 (N181 a b c).fst).toNat 0) a.promoted a.pockets a.turn a.rooks a.passing a.checks a.half a.full) (N151 (Pos.mk a.variant ((a.board.set (scale 1 b).toNat 0).set (scale 1 (N181 a b c).fst).toNat 0) a.promoted a.pockets a.turn a.rooks a.passing a.checks a.half a.full)) (N66 a (wr .u8 (1 - a.turn)) 6) b (wr .i64 (N148 a.turn+(List.take 2 (List.drop (c.toNat * 2) (li [6,5,2,3]))).getD 0 0)) (if wr .i64 (N148 a.turn+(List.take 2 (List.drop (c.toNat * 2) (li [6,5,2,3]))).getD 0 0) < b then wr .i64 (N148 a.turn+(List.take 2 (List.drop (c.toNat * 2) (li [6,5,2,3]))).getD 0 0) else b)).getD default) then (⟨(wr .i8 b),(wr .i8 (N181 a b c).fst),(0),(0),(true)⟩,(false)) else (bif isL ((lp149_2 a (List.take 2 (List.drop (c.toNat * 2) (li [6,5,2,3]))) (Pos.mk a.variant ((a.board.set (scale 1 b).toNat 0).set (scale 1 (N181 a b c).fst).toNat 0) a.promoted a.pockets a.turn a.rooks a.passing a.checks a.half a.full) (N151 (Pos.mk a.variant ((a.board.set (scale 1 b).toNat 0).set (scale 1 (N181 a b c).fst).toNat 0) a.promoted a.pockets a.turn a.rooks a.passing a.checks a.half a.full)) (N66 a (wr .u8 (1 - a.turn)) 6) b (wr .i64 (N148 a.turn+(List.take 2 (List.drop (c.toNat * 2) (li [6,5,2,3]))).getD 0 0)) (N181 a b c).fst (wr .i64 (N148 a.turn+(List.take 2 (List.drop (c.toNat * 2) (li [6,5,2,3]))).getD 1 0)) (if wr .i64 (N148 a.turn+(List.take 2 (List.drop (c.toNat * 2) (li [6,5,2,3]))).getD 1 0) < (N181 a b c).fst then wr .i64 (N148 a.turn+(List.take 2 (List.drop (c.toNat * 2) (li [6,5,2,3]))).getD 1 0) else (N181 a b c).fst)).getD default) then (⟨(wr .i8 b),(wr .i8 (N181 a b c).fst),(0),(0),(true)⟩,(false)) else (bif isL ((lp149_3 a (List.take 2 (List.drop (c.toNat * 2) (li [6,5,2,3]))) (Pos.mk a.variant ((a.board.set (scale 1 b).toNat 0).set (scale 1 (N181 a b c).fst).toNat 0) a.promoted a.pockets a.turn a.rooks a.passing a.checks a.half a.full) (N151 (Pos.mk a.variant ((a.board.set (scale 1 b).toNat 0).set (scale 1 (N181 a b c).fst).toNat 0) a.promoted a.pockets a.turn a.rooks a.passing a.checks a.half a.full)) (N66 a (wr .u8 (1 - a.turn)) 6) b (wr .i64 (N148 a.turn+(List.take 2 (List.drop (c.toNat * 2) (li [6,5,2,3]))).getD 0 0)) (N181 a b c).fst (wr .i64 (N148 a.turn+(List.take 2 (List.drop (c.toNat * 2) (li [6,5,2,3]))).getD 1 0)) b (wr .i64 (N148 a.turn+(List.take 2 (List.drop (c.toNat * 2) (li [6,5,2,3]))).getD 0 0)) (if wr .i64 (N148 a.turn+(List.take 2 (List.drop (c.toNat * 2) (li [6,5,2,3]))).getD 0 0) < b then wr .i64 (N148 a.turn+(List.take 2 (List.drop (c.toNat * 2) (li [6,5,2,3]))).getD 0 0) else b)).getD default) then (⟨(wr .i8 b),(wr .i8 (N181 a b c).fst),(0),(0),(true)⟩,(false)) else (⟨(wr .i8 b),(wr .i8 (N181 a b c).fst),(0),(0),(true)⟩,(true))))))
noncomputable def ok149 (a:Pos) (b:Int) (c:Int):Bool:=(ok181 (a) (b) (c)&&(bif !(N181 a b c).snd then true else (decide (0≤c)&&decide (c < Int.ofNat 2)&&(decide (0≤b)&&decide (b < Int.ofNat 64)&&(decide (0≤(N181 a b c).fst)&&decide ((N181 a b c).fst < Int.ofNat 64)&&(ok151 (Pos.mk a.variant ((a.board.set (scale 1 b).toNat 0).set (scale 1 (N181 a b c).fst).toNat 0) a.promoted a.pockets a.turn a.rooks a.passing a.checks a.half a.full)&&(ok66 (a) (wr .u8 (1 - a.turn)) (6)&&((lp149_1 a (List.take 2 (List.drop (c.toNat * 2) (li [6,5,2,3]))) (Pos.mk a.variant ((a.board.set (scale 1 b).toNat 0).set (scale 1 (N181 a b c).fst).toNat 0) a.promoted a.pockets a.turn a.rooks a.passing a.checks a.half a.full) (N151 (Pos.mk a.variant ((a.board.set (scale 1 b).toNat 0).set (scale 1 (N181 a b c).fst).toNat 0) a.promoted a.pockets a.turn a.rooks a.passing a.checks a.half a.full)) (N66 a (wr .u8 (1 - a.turn)) 6) b (wr .i64 (N148 a.turn+(List.take 2 (List.drop (c.toNat * 2) (li [6,5,2,3]))).getD 0 0)) (if wr .i64 (N148 a.turn+(List.take 2 (List.drop (c.toNat * 2) (li [6,5,2,3]))).getD 0 0) < b then wr .i64 (N148 a.turn+(List.take 2 (List.drop (c.toNat * 2) (li [6,5,2,3]))).getD 0 0) else b)).isSome&&bif isL ((lp149_1 a (List.take 2 (List.drop (c.toNat * 2) (li [6,5,2,3]))) (Pos.mk a.variant ((a.board.set (scale 1 b).toNat 0).set (scale 1 (N181 a b c).fst).toNat 0) a.promoted a.pockets a.turn a.rooks a.passing a.checks a.half a.full) (N151 (Pos.mk a.variant ((a.board.set (scale 1 b).toNat 0).set (scale 1 (N181 a b c).fst).toNat 0) a.promoted a.pockets a.turn a.rooks a.passing a.checks a.half a.full)) (N66 a (wr .u8 (1 - a.turn)) 6) b (wr .i64 (N148 a.turn+(List.take 2 (List.drop (c.toNat * 2) (li [6,5,2,3]))).getD 0 0)) (if wr .i64 (N148 a.turn+(List.take 2 (List.drop (c.toNat * 2) (li [6,5,2,3]))).getD 0 0) < b then wr .i64 (N148 a.turn+(List.take 2 (List.drop (c.toNat * 2) (li [6,5,2,3]))).getD 0 0) else b)).getD default) then true else ((lp149_2 a (List.take 2 (List.drop (c.toNat * 2) (li [6,5,2,3]))) (Pos.mk a.variant ((a.board.set (scale 1 b).toNat 0).set (scale 1 (N181 a b c).fst).toNat 0) a.promoted a.pockets a.turn a.rooks a.passing a.checks a.half a.full) (N151 (Pos.mk a.variant ((a.board.set (scale 1 b).toNat 0).set (scale 1 (N181 a b c).fst).toNat 0) a.promoted a.pockets a.turn a.rooks a.passing a.checks a.half a.full)) (N66 a (wr .u8 (1 - a.turn)) 6) b (wr .i64 (N148 a.turn+(List.take 2 (List.drop (c.toNat * 2) (li [6,5,2,3]))).getD 0 0)) (N181 a b c).fst (wr .i64 (N148 a.turn+(List.take 2 (List.drop (c.toNat * 2) (li [6,5,2,3]))).getD 1 0)) (if wr .i64 (N148 a.turn+(List.take 2 (List.drop (c.toNat * 2) (li [6,5,2,3]))).getD 1 0) < (N181 a b c).fst then wr .i64 (N148 a.turn+(List.take 2 (List.drop (c.toNat * 2) (li [6,5,2,3]))).getD 1 0) else (N181 a b c).fst)).isSome&&bif isL ((lp149_2 a (List.take 2 (List.drop (c.toNat * 2) (li [6,5,2,3]))) (Pos.mk a.variant ((a.board.set (scale 1 b).toNat 0).set (scale 1 (N181 a b c).fst).toNat 0) a.promoted a.pockets a.turn a.rooks a.passing a.checks a.half a.full) (N151 (Pos.mk a.variant ((a.board.set (scale 1 b).toNat 0).set (scale 1 (N181 a b c).fst).toNat 0) a.promoted a.pockets a.turn a.rooks a.passing a.checks a.half a.full)) (N66 a (wr .u8 (1 - a.turn)) 6) b (wr .i64 (N148 a.turn+(List.take 2 (List.drop (c.toNat * 2) (li [6,5,2,3]))).getD 0 0)) (N181 a b c).fst (wr .i64 (N148 a.turn+(List.take 2 (List.drop (c.toNat * 2) (li [6,5,2,3]))).getD 1 0)) (if wr .i64 (N148 a.turn+(List.take 2 (List.drop (c.toNat * 2) (li [6,5,2,3]))).getD 1 0) < (N181 a b c).fst then wr .i64 (N148 a.turn+(List.take 2 (List.drop (c.toNat * 2) (li [6,5,2,3]))).getD 1 0) else (N181 a b c).fst)).getD default) then true else ((lp149_3 a (List.take 2 (List.drop (c.toNat * 2) (li [6,5,2,3]))) (Pos.mk a.variant ((a.board.set (scale 1 b).toNat 0).set (scale 1 (N181 a b c).fst).toNat 0) a.promoted a.pockets a.turn a.rooks a.passing a.checks a.half a.full) (N151 (Pos.mk a.variant ((a.board.set (scale 1 b).toNat 0).set (scale 1 (N181 a b c).fst).toNat 0) a.promoted a.pockets a.turn a.rooks a.passing a.checks a.half a.full)) (N66 a (wr .u8 (1 - a.turn)) 6) b (wr .i64 (N148 a.turn+(List.take 2 (List.drop (c.toNat * 2) (li [6,5,2,3]))).getD 0 0)) (N181 a b c).fst (wr .i64 (N148 a.turn+(List.take 2 (List.drop (c.toNat * 2) (li [6,5,2,3]))).getD 1 0)) b (wr .i64 (N148 a.turn+(List.take 2 (List.drop (c.toNat * 2) (li [6,5,2,3]))).getD 0 0)) (if wr .i64 (N148 a.turn+(List.take 2 (List.drop (c.toNat * 2) (li [6,5,2,3]))).getD 0 0) < b then wr .i64 (N148 a.turn+(List.take 2 (List.drop (c.toNat * 2) (li [6,5,2,3]))).getD 0 0) else b)).isSome&&bif isL ((lp149_3 a (List.take 2 (List.drop (c.toNat * 2) (li [6,5,2,3]))) (Pos.mk a.variant ((a.board.set (scale 1 b).toNat 0).set (scale 1 (N181 a b c).fst).toNat 0) a.promoted a.pockets a.turn a.rooks a.passing a.checks a.half a.full) (N151 (Pos.mk a.variant ((a.board.set (scale 1 b).toNat 0).set (scale 1 (N181 a b c).fst).toNat 0) a.promoted a.pockets a.turn a.rooks a.passing a.checks a.half a.full)) (N66 a (wr .u8 (1 - a.turn)) 6) b (wr .i64 (N148 a.turn+(List.take 2 (List.drop (c.toNat * 2) (li [6,5,2,3]))).getD 0 0)) (N181 a b c).fst (wr .i64 (N148 a.turn+(List.take 2 (List.drop (c.toNat * 2) (li [6,5,2,3]))).getD 1 0)) b (wr .i64 (N148 a.turn+(List.take 2 (List.drop (c.toNat * 2) (li [6,5,2,3]))).getD 0 0)) (if wr .i64 (N148 a.turn+(List.take 2 (List.drop (c.toNat * 2) (li [6,5,2,3]))).getD 0 0) < b then wr .i64 (N148 a.turn+(List.take 2 (List.drop (c.toNat * 2) (li [6,5,2,3]))).getD 0 0) else b)).getD default) then true else true))))))))))
theorem P149 (a:Pos) (b:Int) (c:Int) (h:ok149 a b c=true):PS Pz 149 [Pos.av a,.int .i64 b,.int .i64 c] ((d2 dMv dB).res (N149 a b c)):=ps_sum (n:=14) hB149 (by kernel_rfl) (by kernel_rfl) (by kernel_rfl) h
noncomputable def G149:List AV→Tr AV:=g3 dPos (dI .i64) (dI .i64) (fun a b c=>gdv (ok149 a b c) ((d2 dMv dB).res (N149 a b c)))
theorem s149:Sound Pz 149 G149:=sound3 fun a b c=>at_gd (P149 a b c)
noncomputable def K97:List (Nat×Nat×List (Nat×List Nat)):=[(97,53,[(0,(1::(rn 13 4 (rn 25 7 [])))),(1,(1::17::(rn 25 7 []))),(2,[2]),(3,(1::3::(rn 25 7 []))),(4,[1,3,32]),(5,[2]),(6,[1,3,4]),(7,[1,3,4,33,34,35]),(8,(1::3::4::(rn 33 4 []))),(9,[1,3,4,6,33,34,35]),(10,[1,3,4,7,8,33,34,35]),(11,[1,3,4,7,33,34,35,46]),(12,[1,3,4,33,34,35]),(13,[1,3,4,33,34,35]),(14,[2])])]
noncomputable def B97:Base:=baseOf Pz (fun f i=>lkC f i K97) [(106,G106),(147,G147),(148,G148),(149,G149)] [] []
theorem hB97:BOk B97:=base_ok named_z ⟨s106,s147,s148,s149,trivial⟩ trivial trivial
noncomputable def N97 (a:Pos):List Mv:=(bif decide (a.turn > 1) then ([]) else (bif !N147 a.variant then ([]) else (bif decide (N106 a a.turn 6 < 0) then ([]) else (bif wr .i64 ((N106 a a.turn 6).tdiv 8) != wr .i64 ((N148 a.turn).tdiv 8) then ([]) else (bif (N149 a (N106 a a.turn 6) 1).snd then (bif (N149 a (N106 a a.turn 6) 0).snd then ([]++[(N149 a (N106 a a.turn 6) 1).fst]++[(N149 a (N106 a a.turn 6) 0).fst]) else ([]++[(N149 a (N106 a a.turn 6) 1).fst])) else (bif (N149 a (N106 a a.turn 6) 0).snd then ([]++[(N149 a (N106 a a.turn 6) 0).fst]) else ([])))))))
noncomputable def ok97 (a:Pos):Bool:=(bif decide (a.turn > 1) then true else (ok147 (a.variant)&&(bif !N147 a.variant then true else (ok106 (a) (a.turn) (6)&&(bif decide (N106 a a.turn 6 < 0) then true else (bif wr .i64 ((N106 a a.turn 6).tdiv 8) != wr .i64 ((N148 a.turn).tdiv 8) then true else (ok149 (a) (N106 a a.turn 6) (1)&&(bif (N149 a (N106 a a.turn 6) 1).snd then (0==0&&decide (1≤1073741824)&&(ok149 (a) (N106 a a.turn 6) (0)&&(bif (N149 a (N106 a a.turn 6) 0).snd then (1==1&&decide (2≤1073741824)&&true) else true))) else (ok149 (a) (N106 a a.turn 6) (0)&&(bif (N149 a (N106 a a.turn 6) 0).snd then (0==0&&decide (1≤1073741824)&&true) else true))))))))))
theorem P97 (a:Pos) (h:ok97 a=true):PS Pz 97 [Pos.av a] ((dL .mv).res (N97 a)):=ps_sum (n:=14) hB97 (by kernel_rfl) (by kernel_rfl) (by kernel_rfl) h
noncomputable def G97:List AV→Tr AV:=g1 dPos (fun a=>gdv (ok97 a) ((dL .mv).res (N97 a)))
theorem s97:Sound Pz 97 G97:=sound1 fun a=>at_gd (P97 a)
noncomputable def K150:List (Nat×Nat×List (Nat×List Nat)):=[(118,9,[(0,[0,2]),(1,[0,2,4]),(2,[2]),(3,[2])]),(166,22,[(0,[0]),(1,[0,1]),(2,[0])]),(150,6,[(0,[0]),(1,[2])])]
noncomputable def B150:Base:=baseOf Pz (fun f i=>lkC f i K150) [] [] []
theorem hB150:BOk B150:=base_ok named_z trivial trivial trivial
noncomputable def N150 (a:Int):Bool:=(bif decide (a ≥ 9) then (false) else (bif a==↑0 then (false) else (bif a==↑1 then (false) else (bif a==↑2 then (true) else (bif a==↑3 then (false) else (bif a==↑4 then (false) else (bif a==↑5 then (false) else (bif a==↑6 then (false) else (bif a==↑7 then (false) else (false))))))))))
noncomputable def ok150 (a:Int):Bool:=(bif decide (a ≥ 9) then true else (decide (0≤a)&&decide (a < ↑9)&&(bif a==↑0 then true else (bif a==↑1 then true else (bif a==↑2 then true else (bif a==↑3 then true else (bif a==↑4 then true else (bif a==↑5 then true else (bif a==↑6 then true else (bif a==↑7 then true else (a==↑8&&true)))))))))))
theorem P150 (a:Int) (h:ok150 a=true):PS Pz 150 [.int .u8 a] (dB.res (N150 a)):=ps_sum (n:=14) hB150 (by kernel_rfl) (by kernel_rfl) (by kernel_rfl) h
noncomputable def G150:List AV→Tr AV:=g1 (dI .u8) (fun a=>gdv (ok150 a) (dB.res (N150 a)))
theorem s150:Sound Pz 150 G150:=sound1 fun a=>at_gd (P150 a)
noncomputable def K98:List (Nat×Nat×List (Nat×List Nat)):=[(98,58,[(0,[1,13,14,15,16]),(1,[1,17]),(2,[2]),(3,[1,3]),(4,[1,3,18]),(5,[1,3,18,19]),(6,[1,3,4,18]),(7,[1,3,5,18]),(8,[1,3,5,18,31]),(9,[1,3,5,6,18]),(10,[1,3,5,6,18,36]),(11,[1,3,5,6,18]),(12,[1,3,5,18,40,41,42]),(13,(1::3::5::18::(rn 40 4 []))),(14,[1,3,5,8,18,40,41,42]),(15,[1,3,5,18,40,41,42]),(16,[1,3,5,18,40,41,42]),(17,[1,3,18]),(18,[2])])]
noncomputable def B98_2:Base:=baseOf Pz (fun f i=>lkC f i K98) [(151,G151),(65,G65),(150,G150)] [] []
theorem hB98_2:BOk B98_2:=base_ok named_z ⟨s151,s65,s150,trivial⟩ trivial trivial
noncomputable def S98_2 (p1:Int) (p2:Int) (p3:(List Int)) (p4:Int) (p5:Pos) (p6:Nat) (x:((List Mv)×Int)):St:=St.mk (AV.any::AV.ptr 0 0::AV.any::AV.list ET.mv x.fst (Tk.own 1)::AV.any::AV.int .u8 p1::(an 12 (AV.int .i64 p2::(an 21 (AV.list (ET.i .i64) p3 Tk.fresh::AV.int .i64 p4::AV.int .i64 x.snd::(an 15 [])))))) (Hp.mk [(pc p5 [])] [p6,x.fst.length] [] 0 0 0)
noncomputable def O98_2 (p1:Int) (p2:Int) (p3:(List Int)) (p4:Int) (p5:Pos) (p6:Nat):((List Mv)×Int×Bool)→Out:=fun y=>.exit 2 (St.mk (AV.any::AV.ptr 0 0::AV.any::AV.list ET.mv y.fst (Tk.own 1)::AV.any::AV.int .u8 p1::(an 12 (AV.int .i64 p2::(an 21 (AV.list (ET.i .i64) p3 Tk.fresh::AV.int .i64 p4::AV.int .i64 y.snd.fst::AV.bool y.snd.snd::(an 14 [])))))) (Hp.mk [(pc p5 [])] [p6,y.fst.length] [] 0 0 0))
noncomputable def st98_2 (p1:Int) (p2:Int) (p3:(List Int)) (p4:Int) (p5:Pos) (p6:Nat) (x:((List Mv)×Int)):Stp ((List Mv)×Int) (((List Mv)×Int×Bool)):=(bif decide (x.snd < p4) then (Stp.go (x.fst++[Mv.mk (wr .i8 (p3.getD x.snd.toNat default)) (wr .i8 (p3.getD x.snd.toNat default)) 0 p1 false],wr .i64 (x.snd+1))) else (Stp.out ((x.fst,x.snd,decide (x.snd < p4)))))
noncomputable def okL98_2 (p1:Int) (p2:Int) (p3:(List Int)) (p4:Int) (p5:Pos) (p6:Nat) (x:((List Mv)×Int)):Bool:=(bif decide (x.snd < p4) then (decide (0≤x.snd)&&decide (x.snd < Int.ofNat p3.length)&&(x.fst.length==x.fst.length&&decide (x.fst.length+1≤1073741824)&&true)) else true)
noncomputable def lp98_2 (p1:Int) (p2:Int) (p3:(List Int)) (p4:Int) (p5:Pos) (p6:Nat) (x:((List Mv)×Int)):Option (((List Mv)×Int×Bool)):=itl (fun x=>bif okL98_2 p1 p2 p3 p4 p5 p6 x then st98_2 p1 p2 p3 p4 p5 p6 x else .bad) many x
abbrev D98_2 {α:Type} (k:Int→Int→(List Int)→Int→Pos→Nat→((List Mv)×Int)→α) (s:St):α:=wP s 0 fun q0=>k (tI (tT s 5)) (tI (tT s 18)) (tL (ET.i .i64) (tT s 40)) (tI (tT s 41)) q0 (tK s 0) ((tL (ET.mv) (tT s 3)),(tI (tT s 42)))
theorem L98_2 (p1:Int) (p2:Int) (p3:(List Int)) (p4:Int) (p5:Pos) (p6:Nat) (x:((List Mv)×Int)) (r:((List Mv)×Int×Bool)) (h:lp98_2 p1 p2 p3 p4 p5 p6 x=some r):LSpec Pz (bodL Pz 98 13) (S98_2 p1 p2 p3 p4 p5 p6 x) (O98_2 p1 p2 p3 p4 p5 p6 r):=LSpec.smd (m:=12) (fn:=98) hB98_2 (D98_2 fun _ _ _ _ _ _ x=>some x) (fun o=>match o with | .exit 2 s=>some ((tL ET.mv (tT s 3)),(tI (tT s 42)),(tB (tT s 43))) | _=>none) (fun _=>rfl) (fun _=>by kernel_rfl) (fun _=>by kernel_rfl) (fun _=>by kernel_rfl) (fun _=>by kernel_rfl) many x r h
noncomputable def F98_2 (b:Code) (s:St):Tr Out:=D98_2 (fun p1 p2 p3 p4 p5 p6 x=>lk1 b (bodL Pz 98 13) s (S98_2 p1 p2 p3 p4 p5 p6 x) (lp98_2 p1 p2 p3 p4 p5 p6 x) (O98_2 p1 p2 p3 p4 p5 p6)) s
theorem sF98_2:∀ b,LSound Pz b (F98_2 b):=fun _ _ _ h=>lk1_ok (L98_2 _ _ _ _ _ _ _) h
noncomputable def B98_3:Base:=baseOf Pz (fun f i=>lkC f i K98) [(151,G151),(65,G65),(150,G150)] [(98,13,F98_2)] []
theorem hB98_3:BOk B98_3:=base_ok named_z ⟨s151,s65,s150,trivial⟩ ⟨sF98_2,trivial⟩ trivial
noncomputable def S98_3 (p1:Pos) (p2:Nat) (x:((List Mv)×Int)):St:=St.mk (AV.any::AV.ptr 0 0::AV.any::AV.list ET.mv x.fst (Tk.own 1)::(an 14 (AV.int .i64 x.snd::(an 39 [])))) (Hp.mk [(pc p1 [])] [p2,x.fst.length] [] 0 0 0)
noncomputable def O98_3 (p1:Pos) (p2:Nat):((List Mv)×Int×Bool)→Out:=fun y=>.exit 0 (St.mk (AV.any::AV.ptr 0 0::AV.any::AV.list ET.mv y.fst (Tk.own 1)::(an 14 (AV.int .i64 y.snd.fst::AV.bool y.snd.snd::(an 38 [])))) (Hp.mk [(pc p1 [])] [p2,y.fst.length] [] 0 0 0))
noncomputable def st98_3 (p1:Pos) (p2:Nat) (x:((List Mv)×Int)):Stp ((List Mv)×Int) (((List Mv)×Int×Bool)):=(bif decide (x.snd < 5) then (bif p1.pockets.getD (scale 6 p1.turn+scale 1 (wr .u8 (wr .i64 (x.snd+1)))).toNat 0==0 then (Stp.go (x.fst,wr .i64 (x.snd+1))) else (bif wr .u8 (wr .i64 (x.snd+1))==1 then (Stp.go (((lp98_2 (wr .u8 (wr .i64 (x.snd+1))) x.snd (N65 (~~~N151 p1&&&72057594037927680#64)) (Int.ofNat (N65 (~~~N151 p1&&&72057594037927680#64)).length) p1 p2 (x.fst,0)).getD default).fst,wr .i64 (x.snd+1))) else (Stp.go (((lp98_2 (wr .u8 (wr .i64 (x.snd+1))) x.snd (N65 (~~~N151 p1)) (Int.ofNat (N65 (~~~N151 p1)).length) p1 p2 (x.fst,0)).getD default).fst,wr .i64 (x.snd+1))))) else (Stp.out ((x.fst,x.snd,decide (x.snd < 5)))))
noncomputable def okL98_3 (p1:Pos) (p2:Nat) (x:((List Mv)×Int)):Bool:=(bif decide (x.snd < 5) then (decide (0≤p1.turn)&&decide (p1.turn < Int.ofNat 2)&&(decide (0≤wr .u8 (wr .i64 (x.snd+1)))&&decide (wr .u8 (wr .i64 (x.snd+1)) < Int.ofNat 6)&&(bif p1.pockets.getD (scale 6 p1.turn+scale 1 (wr .u8 (wr .i64 (x.snd+1)))).toNat 0==0 then true else (ok151 (p1)&&(bif wr .u8 (wr .i64 (x.snd+1))==1 then (ok65 (~~~N151 p1&&&72057594037927680#64)&&((lp98_2 (wr .u8 (wr .i64 (x.snd+1))) x.snd (N65 (~~~N151 p1&&&72057594037927680#64)) (Int.ofNat (N65 (~~~N151 p1&&&72057594037927680#64)).length) p1 p2 (x.fst,0)).isSome&&true)) else (ok65 (~~~N151 p1)&&((lp98_2 (wr .u8 (wr .i64 (x.snd+1))) x.snd (N65 (~~~N151 p1)) (Int.ofNat (N65 (~~~N151 p1)).length) p1 p2 (x.fst,0)).isSome&&true))))))) else true)
noncomputable def lp98_3 (p1:Pos) (p2:Nat) (x:((List Mv)×Int)):Option (((List Mv)×Int×Bool)):=itl (fun x=>bif okL98_3 p1 p2 x then st98_3 p1 p2 x else .bad) many x
abbrev D98_3 {α:Type} (k:Pos→Nat→((List Mv)×Int)→α) (s:St):α:=wP s 0 fun q0=>k q0 (tK s 0) ((tL (ET.mv) (tT s 3)),(tI (tT s 18)))
theorem L98_3 (p1:Pos) (p2:Nat) (x:((List Mv)×Int)) (r:((List Mv)×Int×Bool)) (h:lp98_3 p1 p2 x=some r):LSpec Pz (bodL Pz 98 5) (S98_3 p1 p2 x) (O98_3 p1 p2 r):=LSpec.smd (m:=12) (fn:=98) hB98_3 (D98_3 fun _ _ x=>some x) (fun o=>match o with | .exit 0 s=>some ((tL ET.mv (tT s 3)),(tI (tT s 18)),(tB (tT s 19))) | _=>none) (fun _=>rfl) (fun _=>by kernel_rfl) (fun _=>by kernel_rfl) (fun _=>by kernel_rfl) (fun _=>by kernel_rfl) many x r h
noncomputable def F98_3 (b:Code) (s:St):Tr Out:=D98_3 (fun p1 p2 x=>lk1 b (bodL Pz 98 5) s (S98_3 p1 p2 x) (lp98_3 p1 p2 x) (O98_3 p1 p2)) s
theorem sF98_3:∀ b,LSound Pz b (F98_3 b):=fun _ _ _ h=>lk1_ok (L98_3 _ _ _) h
noncomputable def B98:Base:=baseOf Pz (fun f i=>lkC f i K98) [(151,G151),(65,G65),(150,G150)] [(98,13,F98_2),(98,5,F98_3)] []
theorem hB98:BOk B98:=base_ok named_z ⟨s151,s65,s150,trivial⟩ ⟨sF98_2,sF98_3,trivial⟩ trivial
noncomputable def N98 (a:Pos):List Mv:=(bif decide (a.turn > 1) then ([]) else (bif !N150 a.variant then ([]) else (((lp98_3 a 0 ([],0)).getD default).fst)))
noncomputable def ok98 (a:Pos):Bool:=(bif decide (a.turn > 1) then true else (ok150 (a.variant)&&(bif !N150 a.variant then true else ((lp98_3 a 0 ([],0)).isSome&&true))))
theorem P98 (a:Pos) (h:ok98 a=true):PS Pz 98 [Pos.av a] ((dL .mv).res (N98 a)):=ps_sum (n:=14) hB98 (by kernel_rfl) (by kernel_rfl) (by kernel_rfl) h
noncomputable def G98:List AV→Tr AV:=g1 dPos (fun a=>gdv (ok98 a) ((dL .mv).res (N98 a)))
theorem s98:Sound Pz 98 G98:=sound1 fun a=>at_gd (P98 a)
noncomputable def K45:List (Nat×Nat×List (Nat×List Nat)):=[(45,11,[(0,[1]),(1,[2])]),(96,36,[(0,[0]),(1,[0,3]),(2,[0,3,9,10,11]),(3,(0::3::(rn 9 4 []))),(4,[0,3,5,9,10,11]),(5,[0,3,9,10,11]),(6,[0,3,9,10,11,20]),(7,[0,3,9,10,11]),(8,[0,3,9,10,11]),(9,[0,6]),(10,[6,25,26,27]),(11,[6,25,26,27,28]),(12,[6,8,25,26,27]),(13,[6,25,26,27]),(14,[6,25,26,27]),(15,[2])]),(146,27,[(0,[0,1]),(1,[0,1,6]),(2,[0,1]),(3,[0,1]),(4,[0,1,16]),(5,[0]),(6,[4])])]
noncomputable def B45:Base:=baseOf Pz (fun f i=>lkC f i K45) [(90,G90),(97,G97),(98,G98)] [] [(146,F146)]
theorem hB45:BOk B45:=base_ok named_z ⟨s90,s97,s98,trivial⟩ trivial ⟨sF146,trivial⟩
noncomputable def N45 (a:Pos):List Mv:=([]++N90 a++N97 a++N98 a)
noncomputable def ok45 (a:Pos):Bool:=(ok90 (a)&&(ok97 (a)&&(ok98 (a)&&(!(decide (wr .i64 (0+Int.ofNat (N90 a).length) < 0))&&(!(decide (wr .i64 (wr .i64 (0+Int.ofNat (N90 a).length)+Int.ofNat (N97 a).length) < 0))&&(!(decide (wr .i64 (wr .i64 (wr .i64 (0+Int.ofNat (N90 a).length)+Int.ofNat (N97 a).length)+Int.ofNat (N98 a).length) < 0))&&(decide (0≤wr .i64 (wr .i64 (wr .i64 (0+Int.ofNat (N90 a).length)+Int.ofNat (N97 a).length)+Int.ofNat (N98 a).length))&&decide (wr .i64 (wr .i64 (wr .i64 (0+Int.ofNat (N90 a).length)+Int.ofNat (N97 a).length)+Int.ofNat (N98 a).length)≤Int.ofNat 1073741824)&&(0==0&&decide (0+(N90 a).length≤1073741824)&&(([]++N90 a).length==([]++N90 a).length&&decide (([]++N90 a).length+(N97 a).length≤1073741824)&&(([]++N90 a++N97 a).length==([]++N90 a++N97 a).length&&decide (([]++N90 a++N97 a).length+(N98 a).length≤1073741824)&&true))))))))))
theorem P45 (a:Pos) (h:ok45 a=true):PS Pz 45 [Pos.av a] ((dL .mv).res (N45 a)):=ps_sum (n:=14) hB45 (by kernel_rfl) (by kernel_rfl) (by kernel_rfl) h
noncomputable def G45:List AV→Tr AV:=g1 dPos (fun a=>gdv (ok45 a) ((dL .mv).res (N45 a)))
theorem s45:Sound Pz 45 G45:=sound1 fun a=>at_gd (P45 a)
noncomputable def K152:List (Nat×Nat×List (Nat×List Nat)):=[(152,51,[(0,(2::3::12::13::14::(rn 17 5 [42,43]))),(1,[2,3,22,42,43]),(2,[4]),(3,[2,3,27,28,29,42,43]),(4,(2::3::(rn 27 4 [42,43]))),(5,[2,3,6,27,28,29,42,43]),(6,[2,3,7,27,28,29,42,43]),(7,[2,3,27,28,29,42,43,44]),(8,[4]),(9,[2,3,27,28,29,42,43]),(10,[50]),(11,[4]),(12,[4])])]
noncomputable def B152:Base:=baseOf Pz (fun f i=>lkC f i K152) [(148,G148)] [] []
theorem hB152:BOk B152:=base_ok named_z ⟨s148,trivial⟩ trivial trivial
noncomputable def N152 (a:Pos) (b:Mv):Int:=(bif decide (a.turn > 1) then (-1) else (bif !b.cas then (-1) else (bif b.frm==b.to then (-1) else (bif decide (wr .i64 (wr .i64 b.frm - N148 a.turn) < 0) then (-1) else (bif decide (wr .i64 (wr .i64 b.frm - N148 a.turn) > 7) then (-1) else (bif decide (wr .i64 (wr .i64 b.to - N148 a.turn) < 0) then (-1) else (bif decide (wr .i64 (wr .i64 b.to - N148 a.turn) > 7) then (-1) else (bif decide (b.to > b.frm) then (0) else (1)))))))))
noncomputable def ok152 (a:Pos) (b:Mv):Bool:=true
theorem P152 (a:Pos) (b:Mv) (h:ok152 a b=true):PS Pz 152 [Pos.av a,Mv.av b] ((dI .i64).res (N152 a b)):=ps_sum (n:=14) hB152 (by kernel_rfl) (by kernel_rfl) (by kernel_rfl) h
noncomputable def G152:List AV→Tr AV:=g2 dPos dMv (fun a b=>.ret ((dI .i64).res (N152 a b)))
theorem s152:Sound Pz 152 G152:=sound2 fun a b=>at_rt (P152 a b rfl)
noncomputable def K99:List (Nat×Nat×List (Nat×List Nat)):=[(99,29,[(0,[2,3]),(1,[2,7]),(2,[2,7,13]),(3,[4,5,6]),(4,[2,8]),(5,[4,5,6])]),(153,4,[(0,[0]),(1,[0])])]
noncomputable def B99:Base:=baseOf Pz (fun f i=>lkC f i K99) [(148,G148),(152,G152)] [] []
theorem hB99:BOk B99:=base_ok named_z ⟨s148,s152,trivial⟩ trivial trivial
noncomputable def N99 (a:Pos) (b:Mv):(Int×Int×Bool):=(bif decide (N152 (Pos.mk a.variant a.board a.promoted a.pockets a.turn a.rooks a.passing a.checks a.half a.full) (Mv.mk b.frm b.to b.pro b.drp b.cas) < 0) then ((0),(0),(false)) else ((wr .i64 (N148 a.turn+(if 2=2 then List.take 2 (List.drop ((N152 (Pos.mk a.variant a.board a.promoted a.pockets a.turn a.rooks a.passing a.checks a.half a.full) (Mv.mk b.frm b.to b.pro b.drp b.cas)).toNat * 2) (if 4=4 then if 2=4 then ((List.replicate 2 0).set 0 2).set 1 3 else List.take 2 (if 2=4 then ((List.replicate 2 0).set 0 6).set 1 5 else List.take 0 (List.replicate 4 0)++((List.replicate 2 0).set 0 6).set 1 5++List.drop 2 (List.replicate 4 0))++((List.replicate 2 0).set 0 2).set 1 3++List.drop 4 (if 2=4 then ((List.replicate 2 0).set 0 6).set 1 5 else List.take 0 (List.replicate 4 0)++((List.replicate 2 0).set 0 6).set 1 5++List.drop 2 (List.replicate 4 0)) else (List.take 0 (List.replicate 4 0)++if 2=4 then ((List.replicate 2 0).set 0 2).set 1 3 else List.take 2 (if 2=4 then ((List.replicate 2 0).set 0 6).set 1 5 else List.take 0 (List.replicate 4 0)++((List.replicate 2 0).set 0 6).set 1 5++List.drop 2 (List.replicate 4 0))++((List.replicate 2 0).set 0 2).set 1 3++List.drop 4 (if 2=4 then ((List.replicate 2 0).set 0 6).set 1 5 else List.take 0 (List.replicate 4 0)++((List.replicate 2 0).set 0 6).set 1 5++List.drop 2 (List.replicate 4 0)))++List.drop 4 (List.replicate 4 0))) else List.take 0 (List.replicate 2 0)++List.take 2 (List.drop ((N152 (Pos.mk a.variant a.board a.promoted a.pockets a.turn a.rooks a.passing a.checks a.half a.full) (Mv.mk b.frm b.to b.pro b.drp b.cas)).toNat * 2) (if 4=4 then if 2=4 then ((List.replicate 2 0).set 0 2).set 1 3 else List.take 2 (if 2=4 then ((List.replicate 2 0).set 0 6).set 1 5 else List.take 0 (List.replicate 4 0)++((List.replicate 2 0).set 0 6).set 1 5++List.drop 2 (List.replicate 4 0))++((List.replicate 2 0).set 0 2).set 1 3++List.drop 4 (if 2=4 then ((List.replicate 2 0).set 0 6).set 1 5 else List.take 0 (List.replicate 4 0)++((List.replicate 2 0).set 0 6).set 1 5++List.drop 2 (List.replicate 4 0)) else (List.take 0 (List.replicate 4 0)++if 2=4 then ((List.replicate 2 0).set 0 2).set 1 3 else List.take 2 (if 2=4 then ((List.replicate 2 0).set 0 6).set 1 5 else List.take 0 (List.replicate 4 0)++((List.replicate 2 0).set 0 6).set 1 5++List.drop 2 (List.replicate 4 0))++((List.replicate 2 0).set 0 2).set 1 3++List.drop 4 (if 2=4 then ((List.replicate 2 0).set 0 6).set 1 5 else List.take 0 (List.replicate 4 0)++((List.replicate 2 0).set 0 6).set 1 5++List.drop 2 (List.replicate 4 0)))++List.drop 4 (List.replicate 4 0)))++List.drop 2 (List.replicate 2 0)).getD 0 0)),(wr .i64 (N148 a.turn+(if 2=2 then List.take 2 (List.drop ((N152 (Pos.mk a.variant a.board a.promoted a.pockets a.turn a.rooks a.passing a.checks a.half a.full) (Mv.mk b.frm b.to b.pro b.drp b.cas)).toNat * 2) (if 4=4 then if 2=4 then ((List.replicate 2 0).set 0 2).set 1 3 else List.take 2 (if 2=4 then ((List.replicate 2 0).set 0 6).set 1 5 else List.take 0 (List.replicate 4 0)++((List.replicate 2 0).set 0 6).set 1 5++List.drop 2 (List.replicate 4 0))++((List.replicate 2 0).set 0 2).set 1 3++List.drop 4 (if 2=4 then ((List.replicate 2 0).set 0 6).set 1 5 else List.take 0 (List.replicate 4 0)++((List.replicate 2 0).set 0 6).set 1 5++List.drop 2 (List.replicate 4 0)) else (List.take 0 (List.replicate 4 0)++if 2=4 then ((List.replicate 2 0).set 0 2).set 1 3 else List.take 2 (if 2=4 then ((List.replicate 2 0).set 0 6).set 1 5 else List.take 0 (List.replicate 4 0)++((List.replicate 2 0).set 0 6).set 1 5++List.drop 2 (List.replicate 4 0))++((List.replicate 2 0).set 0 2).set 1 3++List.drop 4 (if 2=4 then ((List.replicate 2 0).set 0 6).set 1 5 else List.take 0 (List.replicate 4 0)++((List.replicate 2 0).set 0 6).set 1 5++List.drop 2 (List.replicate 4 0)))++List.drop 4 (List.replicate 4 0))) else List.take 0 (List.replicate 2 0)++List.take 2 (List.drop ((N152 (Pos.mk a.variant a.board a.promoted a.pockets a.turn a.rooks a.passing a.checks a.half a.full) (Mv.mk b.frm b.to b.pro b.drp b.cas)).toNat * 2) (if 4=4 then if 2=4 then ((List.replicate 2 0).set 0 2).set 1 3 else List.take 2 (if 2=4 then ((List.replicate 2 0).set 0 6).set 1 5 else List.take 0 (List.replicate 4 0)++((List.replicate 2 0).set 0 6).set 1 5++List.drop 2 (List.replicate 4 0))++((List.replicate 2 0).set 0 2).set 1 3++List.drop 4 (if 2=4 then ((List.replicate 2 0).set 0 6).set 1 5 else List.take 0 (List.replicate 4 0)++((List.replicate 2 0).set 0 6).set 1 5++List.drop 2 (List.replicate 4 0)) else (List.take 0 (List.replicate 4 0)++if 2=4 then ((List.replicate 2 0).set 0 2).set 1 3 else List.take 2 (if 2=4 then ((List.replicate 2 0).set 0 6).set 1 5 else List.take 0 (List.replicate 4 0)++((List.replicate 2 0).set 0 6).set 1 5++List.drop 2 (List.replicate 4 0))++((List.replicate 2 0).set 0 2).set 1 3++List.drop 4 (if 2=4 then ((List.replicate 2 0).set 0 6).set 1 5 else List.take 0 (List.replicate 4 0)++((List.replicate 2 0).set 0 6).set 1 5++List.drop 2 (List.replicate 4 0)))++List.drop 4 (List.replicate 4 0)))++List.drop 2 (List.replicate 2 0)).getD 1 0)),(true)))
noncomputable def ok99 (a:Pos) (b:Mv):Bool:=(bif decide (N152 (Pos.mk a.variant a.board a.promoted a.pockets a.turn a.rooks a.passing a.checks a.half a.full) (Mv.mk b.frm b.to b.pro b.drp b.cas) < 0) then true else (decide (0≤N152 (Pos.mk a.variant a.board a.promoted a.pockets a.turn a.rooks a.passing a.checks a.half a.full) (Mv.mk b.frm b.to b.pro b.drp b.cas))&&decide (N152 (Pos.mk a.variant a.board a.promoted a.pockets a.turn a.rooks a.passing a.checks a.half a.full) (Mv.mk b.frm b.to b.pro b.drp b.cas) < ↑2)&&true))
theorem P99 (a:Pos) (b:Mv) (h:ok99 a b=true):PS Pz 99 [Pos.av a,Mv.av b] ((d3 (dI .i64) (dI .i64) dB).res (N99 a b)):=ps_sum (n:=14) hB99 (by kernel_rfl) (by kernel_rfl) (by kernel_rfl) h
noncomputable def G99:List AV→Tr AV:=g2 dPos dMv (fun a b=>gdv (ok99 a b) ((d3 (dI .i64) (dI .i64) dB).res (N99 a b)))
theorem s99:Sound Pz 99 G99:=sound2 fun a b=>at_gd (P99 a b)
noncomputable def K154:List (Nat×Nat×List (Nat×List Nat)):=[(154,15,[(0,[0,1,8,9,12,13]),(1,[4])])]
noncomputable def B154:Base:=baseOf Pz (fun f i=>lkC f i K154) [] [] []
theorem hB154:BOk B154:=base_ok named_z trivial trivial trivial
noncomputable def N154 (a:Int) (b:Int):Bool:=(bif decide (a≤1) then (bif decide (b ≥ 1) then (decide (b≤5)) else (false)) else (false))
noncomputable def ok154 (a:Int) (b:Int):Bool:=true
theorem P154 (a:Int) (b:Int) (h:ok154 a b=true):PS Pz 154 [.int .u8 a,.int .u8 b] (dB.res (N154 a b)):=ps_sum (n:=14) hB154 (by kernel_rfl) (by kernel_rfl) (by kernel_rfl) h
noncomputable def G154:List AV→Tr AV:=g2 (dI .u8) (dI .u8) (fun a b=>.ret (dB.res (N154 a b)))
theorem s154:Sound Pz 154 G154:=sound2 fun a b=>at_rt (P154 a b rfl)
noncomputable def K100:List (Nat×Nat×List (Nat×List Nat)):=[(100,33,[(0,(1::2::3::6::(rn 13 7 []))),(1,[1,2,3,6,20]),(2,[6,7]),(3,[3,6]),(4,[6,7])])]
noncomputable def B100:Base:=baseOf Pz (fun f i=>lkC f i K100) [(154,G154)] [] []
theorem hB100:BOk B100:=base_ok named_z ⟨s154,trivial⟩ trivial trivial
noncomputable def N100 (a:Pos) (b:Int) (c:Int):(Pos×Bool):=(bif !N154 b c then (⟨(a.variant),(if 64=64 then a.board else List.take 0 (List.replicate 64 0)++a.board++List.drop 64 (List.replicate 64 0)),(a.promoted),(if 12=12 then a.pockets else List.take 0 (List.replicate 12 0)++a.pockets++List.drop 12 (List.replicate 12 0)),(a.turn),(if 4=4 then a.rooks else List.take 0 (List.replicate 4 0)++a.rooks++List.drop 4 (List.replicate 4 0)),(a.passing),(if 2=2 then a.checks else List.take 0 (List.replicate 2 0)++a.checks++List.drop 2 (List.replicate 2 0)),(a.half),(a.full)⟩,(false)) else (bif a.pockets.getD (scale 6 b+scale 1 c).toNat 0==0 then (⟨(a.variant),(if 64=64 then a.board else List.take 0 (List.replicate 64 0)++a.board++List.drop 64 (List.replicate 64 0)),(a.promoted),(if 12=12 then a.pockets else List.take 0 (List.replicate 12 0)++a.pockets++List.drop 12 (List.replicate 12 0)),(a.turn),(if 4=4 then a.rooks else List.take 0 (List.replicate 4 0)++a.rooks++List.drop 4 (List.replicate 4 0)),(a.passing),(if 2=2 then a.checks else List.take 0 (List.replicate 2 0)++a.checks++List.drop 2 (List.replicate 2 0)),(a.half),(a.full)⟩,(false)) else (⟨(a.variant),(if 64=64 then a.board else List.take 0 (List.replicate 64 0)++a.board++List.drop 64 (List.replicate 64 0)),(a.promoted),(if 12=12 then a.pockets.set (scale 6 b+scale 1 c).toNat (wr .u8 (a.pockets.getD (scale 6 b+scale 1 c).toNat 0 - 1)) else List.take 0 (List.replicate 12 0)++a.pockets.set (scale 6 b+scale 1 c).toNat (wr .u8 (a.pockets.getD (scale 6 b+scale 1 c).toNat 0 - 1))++List.drop 12 (List.replicate 12 0)),(a.turn),(if 4=4 then a.rooks else List.take 0 (List.replicate 4 0)++a.rooks++List.drop 4 (List.replicate 4 0)),(a.passing),(if 2=2 then a.checks else List.take 0 (List.replicate 2 0)++a.checks++List.drop 2 (List.replicate 2 0)),(a.half),(a.full)⟩,(true))))
noncomputable def ok100 (a:Pos) (b:Int) (c:Int):Bool:=(bif !N154 b c then true else (decide (0≤b)&&decide (b < ↑2)&&(decide (0≤c)&&decide (c < ↑6)&&(bif a.pockets.getD (scale 6 b+scale 1 c).toNat 0==0 then true else (decide (0≤b)&&decide (b < ↑2)&&(decide (0≤c)&&decide (c < ↑6)&&(decide (0≤b)&&decide (b < ↑2)&&(decide (0≤c)&&decide (c < ↑6)&&true))))))))
theorem P100 (a:Pos) (b:Int) (c:Int) (h:ok100 a b c=true):PS Pz 100 [Pos.av a,.int .u8 b,.int .u8 c] ((d2 dPos dB).res (N100 a b c)):=ps_sum (n:=14) hB100 (by kernel_rfl) (by kernel_rfl) (by kernel_rfl) h
noncomputable def G100:List AV→Tr AV:=g3 dPos (dI .u8) (dI .u8) (fun a b c=>gdv (ok100 a b c) ((d2 dPos dB).res (N100 a b c)))
theorem s100:Sound Pz 100 G100:=sound3 fun a b c=>at_gd (P100 a b c)
noncomputable def K103:List (Nat×Nat×List (Nat×List Nat)):=[(103,30,[(0,(1::2::3::6::(rn 11 7 []))),(1,[1,2,3,6,18]),(2,[3,6]),(3,[6])])]
noncomputable def B103:Base:=baseOf Pz (fun f i=>lkC f i K103) [(154,G154)] [] []
theorem hB103:BOk B103:=base_ok named_z ⟨s154,trivial⟩ trivial trivial
noncomputable def N103 (a:Pos) (b:Int) (c:Int):Pos:=(bif N154 b c then (bif decide (a.pockets.getD (scale 6 b+scale 1 c).toNat 0 < 255) then ⟨(a.variant),(if 64=64 then a.board else List.take 0 (List.replicate 64 0)++a.board++List.drop 64 (List.replicate 64 0)),(a.promoted),(if 12=12 then a.pockets.set (scale 6 b+scale 1 c).toNat (wr .u8 (a.pockets.getD (scale 6 b+scale 1 c).toNat 0+1)) else List.take 0 (List.replicate 12 0)++a.pockets.set (scale 6 b+scale 1 c).toNat (wr .u8 (a.pockets.getD (scale 6 b+scale 1 c).toNat 0+1))++List.drop 12 (List.replicate 12 0)),(a.turn),(if 4=4 then a.rooks else List.take 0 (List.replicate 4 0)++a.rooks++List.drop 4 (List.replicate 4 0)),(a.passing),(if 2=2 then a.checks else List.take 0 (List.replicate 2 0)++a.checks++List.drop 2 (List.replicate 2 0)),(a.half),(a.full)⟩ else ⟨(a.variant),(if 64=64 then a.board else List.take 0 (List.replicate 64 0)++a.board++List.drop 64 (List.replicate 64 0)),(a.promoted),(if 12=12 then a.pockets else List.take 0 (List.replicate 12 0)++a.pockets++List.drop 12 (List.replicate 12 0)),(a.turn),(if 4=4 then a.rooks else List.take 0 (List.replicate 4 0)++a.rooks++List.drop 4 (List.replicate 4 0)),(a.passing),(if 2=2 then a.checks else List.take 0 (List.replicate 2 0)++a.checks++List.drop 2 (List.replicate 2 0)),(a.half),(a.full)⟩) else ⟨(a.variant),(if 64=64 then a.board else List.take 0 (List.replicate 64 0)++a.board++List.drop 64 (List.replicate 64 0)),(a.promoted),(if 12=12 then a.pockets else List.take 0 (List.replicate 12 0)++a.pockets++List.drop 12 (List.replicate 12 0)),(a.turn),(if 4=4 then a.rooks else List.take 0 (List.replicate 4 0)++a.rooks++List.drop 4 (List.replicate 4 0)),(a.passing),(if 2=2 then a.checks else List.take 0 (List.replicate 2 0)++a.checks++List.drop 2 (List.replicate 2 0)),(a.half),(a.full)⟩)
noncomputable def ok103 (a:Pos) (b:Int) (c:Int):Bool:=(bif N154 b c then (decide (0≤b)&&decide (b < ↑2)&&(decide (0≤c)&&decide (c < ↑6)&&(bif decide (a.pockets.getD (scale 6 b+scale 1 c).toNat 0 < 255) then (decide (0≤b)&&decide (b < ↑2)&&(decide (0≤c)&&decide (c < ↑6)&&(decide (0≤b)&&decide (b < ↑2)&&(decide (0≤c)&&decide (c < ↑6)&&true)))) else true))) else true)
theorem P103 (a:Pos) (b:Int) (c:Int) (h:ok103 a b c=true):PS Pz 103 [Pos.av a,.int .u8 b,.int .u8 c] (dPos.res (N103 a b c)):=ps_sum (n:=14) hB103 (by kernel_rfl) (by kernel_rfl) (by kernel_rfl) h
noncomputable def G103:List AV→Tr AV:=g3 dPos (dI .u8) (dI .u8) (fun a b c=>gdv (ok103 a b c) (dPos.res (N103 a b c)))
theorem s103:Sound Pz 103 G103:=sound3 fun a b c=>at_gd (P103 a b c)
noncomputable def K104:List (Nat×Nat×List (Nat×List Nat)):=[(104,32,[(0,[1,2,10,11]),(1,[1,2,12]),(2,[4]),(3,[1,2,5]),(4,[1,2,5,6]),(5,[1,2,5,6,19]),(6,[1,2,5,6]),(7,[1,2,5,6]),(8,[4])])]
noncomputable def B104:Base:=baseOf Pz (fun f i=>lkC f i K104) [(151,G151),(66,G66),(155,G155)] [] []
theorem hB104:BOk B104:=base_ok named_z ⟨s151,s66,s155,trivial⟩ trivial trivial
noncomputable def N104 (a:Pos) (b:Int):BitVec 64:=(bif decide (b < 0) then (0#64) else (bif decide (b ≥ 64) then (0#64) else (N155 b&&&N151 (Pos.mk a.variant a.board a.promoted a.pockets a.turn a.rooks a.passing a.checks a.half a.full) &&& ~~~N66 (Pos.mk a.variant a.board a.promoted a.pockets a.turn a.rooks a.passing a.checks a.half a.full) 0 1 &&& ~~~N66 (Pos.mk a.variant a.board a.promoted a.pockets a.turn a.rooks a.passing a.checks a.half a.full) (wr .u8 (0+1)) 1|||1#64 <<< (BitVec.ofInt 64 b).toNat)))
noncomputable def ok104 (a:Pos) (b:Int):Bool:=(bif decide (b < 0) then true else (bif decide (b ≥ 64) then true else (ok155 (b)&&(ok151 (Pos.mk a.variant a.board a.promoted a.pockets a.turn a.rooks a.passing a.checks a.half a.full)&&(ok66 (Pos.mk a.variant a.board a.promoted a.pockets a.turn a.rooks a.passing a.checks a.half a.full) (0) (1)&&(ok66 (Pos.mk a.variant a.board a.promoted a.pockets a.turn a.rooks a.passing a.checks a.half a.full) (wr .u8 (0+1)) (1)&&true))))))
theorem P104 (a:Pos) (b:Int) (h:ok104 a b=true):PS Pz 104 [Pos.av a,.int .i64 b] (dU.res (N104 a b)):=ps_sum (n:=14) hB104 (by kernel_rfl) (by kernel_rfl) (by kernel_rfl) h
noncomputable def G104:List AV→Tr AV:=g2 dPos (dI .i64) (fun a b=>gdv (ok104 a b) (dU.res (N104 a b)))
theorem s104:Sound Pz 104 G104:=sound2 fun a b=>at_gd (P104 a b)
noncomputable def K108:List (Nat×Nat×List (Nat×List Nat)):=[(108,8,[(0,[0]),(1,[0,4]),(2,[2]),(3,[2])])]
noncomputable def B108:Base:=baseOf Pz (fun f i=>lkC f i K108) [] [] []
theorem hB108:BOk B108:=base_ok named_z trivial trivial trivial
noncomputable def N108 (a:Int):Int:=(bif decide (a ≥ 10000) then (a) else (wr .i64 (a+1)))
noncomputable def ok108 (a:Int):Bool:=true
theorem P108 (a:Int) (h:ok108 a=true):PS Pz 108 [.int .i64 a] ((dI .i64).res (N108 a)):=ps_sum (n:=14) hB108 (by kernel_rfl) (by kernel_rfl) (by kernel_rfl) h
noncomputable def G108:List AV→Tr AV:=g1 (dI .i64) (fun a=>.ret ((dI .i64).res (N108 a)))
theorem s108:Sound Pz 108 G108:=sound1 fun a=>at_rt (P108 a rfl)
noncomputable def K22:List (Nat×Nat×List (Nat×List Nat)):=[(22,48,[(0,[2,3,4]),(1,[2,3,4,13]),(2,[4,5]),(3,[4,6]),(4,[4,6,37,38]),(5,[4,6,37,38,39]),(6,[4,6,8,37,38]),(7,[4,6,37,38]),(8,[4,6,37,38]),(9,[4,5])]),(46,156,[(0,[0,2]),(1,[0,2,14]),(2,[0,2]),(3,[0,2]),(4,[0,2,48]),(5,[]),(6,[0,2,64]),(7,[0,2,3,4]),(8,[0,2,3,4]),(9,[]),(10,[0,2,119]),(11,[0,2]),(12,[])]),(47,188,[(0,(1::(rn 14 6 (rn 99 11 (rn 163 8 []))))),(1,(1::20::(rn 99 11 (rn 163 8 [])))),(2,(1::2::(rn 99 11 (rn 163 8 [])))),(3,(1::2::26::(rn 99 11 (rn 163 8 [])))),(4,[1,2,4]),(5,[1,4,47]),(6,[1,4]),(7,[]),(8,(1::2::80::(rn 99 11 (rn 163 8 [])))),(9,(1::2::6::(rn 99 11 (rn 163 8 [])))),(10,(1::2::6::110::(rn 163 8 []))),(11,(1::2::6::(rn 163 8 []))),(12,(1::2::(rn 163 8 []))),(13,(1::2::(rn 163 8 []))),(14,(1::2::(rn 163 8 []))),(15,[1,171]),(16,[])]),(48,41,[(0,[0,16]),(1,[0,28,29,30]),(2,[0,28,29,30,31]),(3,[0,3,28,29,30]),(4,[0,28,29,30]),(5,[0,28,29,30])]),(49,121,[(0,(0::18::54::55::(rn 70 16 (89::90::(rn 93 6 (rn 101 10 [])))))),(1,(0::54::55::(rn 70 16 (89::90::(rn 93 6 (rn 101 10 [])))))),(2,(0::2::54::55::(rn 70 16 (89::90::(rn 93 6 (rn 101 10 [])))))),(3,(0::2::31::54::55::(rn 70 16 (89::90::(rn 93 6 (rn 101 10 [])))))),(4,(0::2::54::55::(rn 70 16 (89::90::(rn 93 6 (rn 101 10 [])))))),(5,(0::2::3::54::55::(rn 70 16 (89::90::(rn 93 6 (rn 101 10 [])))))),(6,(0::2::3::46::47::54::55::(rn 70 16 (89::90::(rn 93 6 (rn 101 10 [])))))),(7,(0::2::3::46::47::48::54::55::(rn 70 16 (89::90::(rn 93 6 (rn 101 10 [])))))),(8,(0::(rn 2 4 (46::47::54::55::(rn 70 16 (89::90::(rn 93 6 (rn 101 10 [])))))))),(9,(0::(rn 2 4 (46::47::54::55::56::(rn 70 16 (89::90::(rn 93 6 (rn 101 10 [])))))))),(10,(0::2::3::4::6::46::47::54::55::(rn 70 16 (89::90::(rn 93 6 (rn 101 10 [])))))),(11,(0::2::3::4::6::7::46::47::54::55::(rn 70 16 (89::90::(rn 93 6 (rn 101 10 [])))))),(12,(0::2::3::4::46::47::54::55::(rn 70 16 (89::90::(rn 93 6 (rn 101 11 [])))))),(13,(0::2::3::46::47::54::55::(rn 70 16 (89::90::(rn 93 6 (rn 101 10 [])))))),(14,(0::2::3::46::47::54::55::(rn 70 16 (89::90::(rn 93 6 (rn 101 10 []))))))]),(50,112,[(0,(0::(rn 12 6 (rn 20 26 (rn 64 9 []))))),(1,(0::46::(rn 64 9 []))),(2,(0::2::(rn 64 9 []))),(3,[0,73]),(4,[0,3]),(5,[0,3,106]),(6,[])]),(51,42,[(0,(0::(rn 16 5 []))),(1,[0,21]),(2,[0]),(3,[0,31]),(4,[])]),(52,59,[(0,(0::(rn 26 8 (rn 36 10 [])))),(1,(0::2::(rn 26 8 (rn 36 10 [])))),(2,[0,2,46]),(3,[])]),(102,14,[(0,[0,1]),(1,[3])]),(105,26,[(0,[0]),(1,[0,8]),(2,[2]),(3,[2])])]
noncomputable def B22_1:Base:=baseOf Pz (fun f i=>lkC f i K22) [(109,G109),(45,G45),(41,G41),(40,G40),(66,G66),(91,G91),(99,G99),(100,G100),(101,G101),(103,G103),(65,G65),(104,G104),(106,G106),(107,G107),(108,G108)] [] []
theorem hB22_1:BOk B22_1:=base_ok named_z ⟨s109,s45,s41,s40,s66,s91,s99,s100,s101,s103,s65,s104,s106,s107,s108,trivial⟩ trivial trivial
noncomputable def A22_1 (p1:Pos) (p2:Mv) (p3:Pos) (p4:Pos) (p5:Mv) (p6:Int):List AV:=[AV.ptr 3 0]
noncomputable def H22_1 (p1:Pos) (p2:Mv) (p3:Pos) (p4:Pos) (p5:Mv) (p6:Int):Hp:=Hp.mk [(pc p1 []),[AV.int .i8 p2.frm,AV.int .i8 p2.to,AV.int .u8 p2.pro,AV.int .u8 p2.drp,AV.bool p2.cas],[AV.int .u8 0,AV.ints .u8 64 (li (List.replicate 64 0)),AV.u64 0,AV.ints .u8 12 (li [0,0,0,0,0,0,0,0,0,0,0,0]),AV.int .u8 0,AV.ints .i8 4 (li [0,0,0,0]),AV.int .i8 0,AV.ints .u8 2 (li [0,0]),AV.int .i64 0,AV.int .i64 0],(pc p3 (pc p4 [AV.int .i8 p5.frm,AV.int .i8 p5.to,AV.int .u8 p5.pro,AV.int .u8 p5.drp,AV.bool p5.cas,AV.int .i64 p6]))] [] [] 0 0 0
noncomputable def O22_1 (p1:Pos) (p2:Mv) (p3:Pos) (p4:Pos) (p5:Mv) (p6:Int) (y:(Pos)):FRes := .ret (AV.tuple []) (Hp.mk [(pc p1 []),[AV.int .i8 p2.frm,AV.int .i8 p2.to,AV.int .u8 p2.pro,AV.int .u8 p2.drp,AV.bool p2.cas],[AV.int .u8 0,AV.ints .u8 64 (li (List.replicate 64 0)),AV.u64 0,AV.ints .u8 12 (li [0,0,0,0,0,0,0,0,0,0,0,0]),AV.int .u8 0,AV.ints .i8 4 (li [0,0,0,0]),AV.int .i8 0,AV.ints .u8 2 (li [0,0]),AV.int .i64 0,AV.int .i64 0],(pc y (pc p4 [AV.int .i8 p5.frm,AV.int .i8 p5.to,AV.int .u8 p5.pro,AV.int .u8 p5.drp,AV.bool p5.cas,AV.int .i64 p6]))] [] [] 0 0 0)
noncomputable def vF22_1 (p1:Pos) (p2:Mv) (p3:Pos) (p4:Pos) (p5:Mv) (p6:Int):(Pos):=(bif p5.cas then (Pos.mk p3.variant ((((p3.board.set (scale 1 p5.frm).toNat 0).set (scale 1 p5.to).toNat 0).set (scale 1 (N99 p4 p5).fst).toNat (p4.board.getD (scale 1 p5.frm).toNat 0)).set (scale 1 (N99 p4 p5).snd.fst).toNat (p4.board.getD (scale 1 p5.to).toNat 0)) p3.promoted p3.pockets p3.turn p3.rooks p3.passing p3.checks p3.half p3.full) else (bif p5.drp != 0 then (Pos.mk (N100 p3 p3.turn p5.drp).fst.variant ((N100 p3 p3.turn p5.drp).fst.board.set (scale 1 p5.to).toNat (N101 (N100 p3 p3.turn p5.drp).fst.turn p5.drp)) (N100 p3 p3.turn p5.drp).fst.promoted (N100 p3 p3.turn p5.drp).fst.pockets (N100 p3 p3.turn p5.drp).fst.turn (N100 p3 p3.turn p5.drp).fst.rooks (N100 p3 p3.turn p5.drp).fst.passing (N100 p3 p3.turn p5.drp).fst.checks (N100 p3 p3.turn p5.drp).fst.half (N100 p3 p3.turn p5.drp).fst.full) else (bif decide (p6 ≥ 0) then (bif p5.pro != 0 then (Pos.mk p3.variant ((((p3.board.set (scale 1 p6).toNat 0).set (scale 1 p5.frm).toNat 0).set (scale 1 p5.to).toNat (p4.board.getD (scale 1 p5.frm).toNat 0)).set (scale 1 p5.to).toNat (N101 p3.turn p5.pro)) p3.promoted p3.pockets p3.turn p3.rooks p3.passing p3.checks p3.half p3.full) else (Pos.mk p3.variant (((p3.board.set (scale 1 p6).toNat 0).set (scale 1 p5.frm).toNat 0).set (scale 1 p5.to).toNat (p4.board.getD (scale 1 p5.frm).toNat 0)) p3.promoted p3.pockets p3.turn p3.rooks p3.passing p3.checks p3.half p3.full)) else (bif p5.pro != 0 then (Pos.mk p3.variant (((p3.board.set (scale 1 p5.frm).toNat 0).set (scale 1 p5.to).toNat (p4.board.getD (scale 1 p5.frm).toNat 0)).set (scale 1 p5.to).toNat (N101 p3.turn p5.pro)) p3.promoted p3.pockets p3.turn p3.rooks p3.passing p3.checks p3.half p3.full) else (Pos.mk p3.variant ((p3.board.set (scale 1 p5.frm).toNat 0).set (scale 1 p5.to).toNat (p4.board.getD (scale 1 p5.frm).toNat 0)) p3.promoted p3.pockets p3.turn p3.rooks p3.passing p3.checks p3.half p3.full)))))
noncomputable def okF22_1 (p1:Pos) (p2:Mv) (p3:Pos) (p4:Pos) (p5:Mv) (p6:Int):Bool:=(bif p5.cas then (ok99 (p4) (p5)&&(decide (0≤p5.frm)&&decide (p5.frm < Int.ofNat 64)&&(decide (0≤p5.to)&&decide (p5.to < Int.ofNat 64)&&(decide (0≤p5.frm)&&decide (p5.frm < Int.ofNat 64)&&(decide (0≤p5.to)&&decide (p5.to < Int.ofNat 64)&&(decide (0≤(N99 p4 p5).fst)&&decide ((N99 p4 p5).fst < Int.ofNat 64)&&(decide (0≤(N99 p4 p5).snd.fst)&&decide ((N99 p4 p5).snd.fst < Int.ofNat 64)&&true))))))) else (bif p5.drp != 0 then (ok100 (p3) (p3.turn) (p5.drp)&&(decide (0≤p5.to)&&decide (p5.to < Int.ofNat 64)&&true)) else (bif decide (p6 ≥ 0) then (decide (0≤p6)&&decide (p6 < Int.ofNat 64)&&(decide (0≤p5.frm)&&decide (p5.frm < Int.ofNat 64)&&(decide (0≤p5.frm)&&decide (p5.frm < Int.ofNat 64)&&(decide (0≤p5.to)&&decide (p5.to < Int.ofNat 64)&&(bif p5.pro != 0 then (decide (0≤p5.to)&&decide (p5.to < Int.ofNat 64)&&true) else true))))) else (decide (0≤p5.frm)&&decide (p5.frm < Int.ofNat 64)&&(decide (0≤p5.frm)&&decide (p5.frm < Int.ofNat 64)&&(decide (0≤p5.to)&&decide (p5.to < Int.ofNat 64)&&(bif p5.pro != 0 then (decide (0≤p5.to)&&decide (p5.to < Int.ofNat 64)&&true) else true)))))))
abbrev DF22_1 {α:Type} (k:Pos→Mv→Pos→Pos→Mv→Int→α) (s:St):α:=wP s 0 fun q0=>wP s 3 fun q3=>wM s 1 fun q1=>k q0 q1 q3 (Kz.Pos.mk (tI (tH s 3 10)) (tN (tH s 3 11)) (tU (tH s 3 12)) (tN (tH s 3 13)) (tI (tH s 3 14)) (tN (tH s 3 15)) (tI (tH s 3 16)) (tN (tH s 3 17)) (tI (tH s 3 18)) (tI (tH s 3 19))) (Kz.Mv.mk (tI (tH s 3 20)) (tI (tH s 3 21)) (tI (tH s 3 22)) (tI (tH s 3 23)) (tB (tH s 3 24))) (tI (tH s 3 25))
theorem PF22_1 (p1:Pos) (p2:Mv) (p3:Pos) (p4:Pos) (p5:Mv) (p6:Int) (h:okF22_1 p1 p2 p3 p4 p5 p6=true):FSpec Pz 46 (A22_1 p1 p2 p3 p4 p5 p6) (H22_1 p1 p2 p3 p4 p5 p6) (O22_1 p1 p2 p3 p4 p5 p6 (vF22_1 p1 p2 p3 p4 p5 p6))∧∃ fn,Pz.funcs[46]?=some fn∧fn.body.isSome=true:=fs_sumd (n:=14) (O:=O22_1 p1 p2 p3 p4 p5 p6) hB22_1 (fun o=>match o with | .ret v h=>(let s:St:=⟨[v],h⟩; wP s 3 fun q3=>some q3) | _=>none) (fun _=>rfl) (by kernel_rfl) (by kernel_rfl) (by kernel_rfl) (by kernel_rfl) h
noncomputable def FF22_1 (xs:List AV) (h:Hp):Tr FRes:=DF22_1 (fun p1 p2 p3 p4 p5 p6=>fk xs h (A22_1 p1 p2 p3 p4 p5 p6) (H22_1 p1 p2 p3 p4 p5 p6) (okF22_1 p1 p2 p3 p4 p5 p6) (O22_1 p1 p2 p3 p4 p5 p6) (vF22_1 p1 p2 p3 p4 p5 p6)) ⟨xs,h⟩
theorem sFF22_1:FSound Pz 46 FF22_1:=fun _ _ _ h=>fk_ok (PF22_1 _ _ _ _ _ _) h
noncomputable def B22_2:Base:=baseOf Pz (fun f i=>lkC f i K22) [(109,G109),(45,G45),(41,G41),(40,G40),(66,G66),(91,G91),(99,G99),(100,G100),(101,G101),(103,G103),(65,G65),(104,G104),(106,G106),(107,G107),(108,G108)] [] [(46,FF22_1)]
theorem hB22_2:BOk B22_2:=base_ok named_z ⟨s109,s45,s41,s40,s66,s91,s99,s100,s101,s103,s65,s104,s106,s107,s108,trivial⟩ trivial ⟨sFF22_1,trivial⟩
noncomputable def A22_2 (p1:Pos) (p2:Mv) (p3:Pos) (p4:Pos) (p5:Mv) (p6:Int):List AV:=[AV.ptr 3 0]
noncomputable def H22_2 (p1:Pos) (p2:Mv) (p3:Pos) (p4:Pos) (p5:Mv) (p6:Int):Hp:=Hp.mk [(pc p1 []),[AV.int .i8 p2.frm,AV.int .i8 p2.to,AV.int .u8 p2.pro,AV.int .u8 p2.drp,AV.bool p2.cas],[AV.int .u8 0,AV.ints .u8 64 (li (List.replicate 64 0)),AV.u64 0,AV.ints .u8 12 (li [0,0,0,0,0,0,0,0,0,0,0,0]),AV.int .u8 0,AV.ints .i8 4 (li [0,0,0,0]),AV.int .i8 0,AV.ints .u8 2 (li [0,0]),AV.int .i64 0,AV.int .i64 0],(pc p3 (pc p4 [AV.int .i8 p5.frm,AV.int .i8 p5.to,AV.int .u8 p5.pro,AV.int .u8 p5.drp,AV.bool p5.cas,AV.int .i64 p6]))] [] [] 0 0 0
noncomputable def O22_2 (p1:Pos) (p2:Mv) (p3:Pos) (p4:Pos) (p5:Mv) (p6:Int) (y:(Pos)):FRes := .ret (AV.tuple []) (Hp.mk [(pc p1 []),[AV.int .i8 p2.frm,AV.int .i8 p2.to,AV.int .u8 p2.pro,AV.int .u8 p2.drp,AV.bool p2.cas],[AV.int .u8 0,AV.ints .u8 64 (li (List.replicate 64 0)),AV.u64 0,AV.ints .u8 12 (li [0,0,0,0,0,0,0,0,0,0,0,0]),AV.int .u8 0,AV.ints .i8 4 (li [0,0,0,0]),AV.int .i8 0,AV.ints .u8 2 (li [0,0]),AV.int .i64 0,AV.int .i64 0],(pc y (pc p4 [AV.int .i8 p5.frm,AV.int .i8 p5.to,AV.int .u8 p5.pro,AV.int .u8 p5.drp,AV.bool p5.cas,AV.int .i64 p6]))] [] [] 0 0 0)
noncomputable def vF22_2 (p1:Pos) (p2:Mv) (p3:Pos) (p4:Pos) (p5:Mv) (p6:Int):(Pos):=(bif p3.variant != 2 then (p3) else (bif p5.drp != 0 then (p3) else (bif p5.cas then (bif p4.promoted >>> (BitVec.ofInt 64 (wr .i64 p5.to)).toNat&&&1#64==1#64 then (Pos.mk p3.variant p3.board (p3.promoted &&& ~~~(1#64 <<< (BitVec.ofInt 64 p5.to).toNat)|||1#64 <<< (BitVec.ofInt 64 (N99 p4 p5).snd.fst).toNat) p3.pockets p3.turn p3.rooks p3.passing p3.checks p3.half p3.full) else (p3)) else (bif decide (p6 ≥ 0) then (bif p4.promoted >>> (BitVec.ofInt 64 p6).toNat&&&1#64==1#64 then (bif p4.board.getD (scale 1 p6).toNat 0 != 0 then (bif p5.pro != 0 then (Pos.mk (N103 p3 p3.turn 1).variant (N103 p3 p3.turn 1).board ((N103 p3 p3.turn 1).promoted &&& ~~~(1#64 <<< (BitVec.ofInt 64 p6).toNat) &&& ~~~(1#64 <<< (BitVec.ofInt 64 p5.frm).toNat)|||1#64 <<< (BitVec.ofInt 64 p5.to).toNat) (N103 p3 p3.turn 1).pockets (N103 p3 p3.turn 1).turn (N103 p3 p3.turn 1).rooks (N103 p3 p3.turn 1).passing (N103 p3 p3.turn 1).checks (N103 p3 p3.turn 1).half (N103 p3 p3.turn 1).full) else (bif p4.promoted >>> (BitVec.ofInt 64 (wr .i64 p5.frm)).toNat&&&1#64==1#64 then (Pos.mk (N103 p3 p3.turn 1).variant (N103 p3 p3.turn 1).board ((N103 p3 p3.turn 1).promoted &&& ~~~(1#64 <<< (BitVec.ofInt 64 p6).toNat) &&& ~~~(1#64 <<< (BitVec.ofInt 64 p5.frm).toNat)|||1#64 <<< (BitVec.ofInt 64 p5.to).toNat) (N103 p3 p3.turn 1).pockets (N103 p3 p3.turn 1).turn (N103 p3 p3.turn 1).rooks (N103 p3 p3.turn 1).passing (N103 p3 p3.turn 1).checks (N103 p3 p3.turn 1).half (N103 p3 p3.turn 1).full) else (Pos.mk (N103 p3 p3.turn 1).variant (N103 p3 p3.turn 1).board ((N103 p3 p3.turn 1).promoted &&& ~~~(1#64 <<< (BitVec.ofInt 64 p6).toNat) &&& ~~~(1#64 <<< (BitVec.ofInt 64 p5.frm).toNat)) (N103 p3 p3.turn 1).pockets (N103 p3 p3.turn 1).turn (N103 p3 p3.turn 1).rooks (N103 p3 p3.turn 1).passing (N103 p3 p3.turn 1).checks (N103 p3 p3.turn 1).half (N103 p3 p3.turn 1).full))) else (bif p5.pro != 0 then (Pos.mk (N103 p3 p3.turn (N91 (p4.board.getD (scale 1 p6).toNat 0))).variant (N103 p3 p3.turn (N91 (p4.board.getD (scale 1 p6).toNat 0))).board ((N103 p3 p3.turn (N91 (p4.board.getD (scale 1 p6).toNat 0))).promoted &&& ~~~(1#64 <<< (BitVec.ofInt 64 p6).toNat) &&& ~~~(1#64 <<< (BitVec.ofInt 64 p5.frm).toNat)|||1#64 <<< (BitVec.ofInt 64 p5.to).toNat) (N103 p3 p3.turn (N91 (p4.board.getD (scale 1 p6).toNat 0))).pockets (N103 p3 p3.turn (N91 (p4.board.getD (scale 1 p6).toNat 0))).turn (N103 p3 p3.turn (N91 (p4.board.getD (scale 1 p6).toNat 0))).rooks (N103 p3 p3.turn (N91 (p4.board.getD (scale 1 p6).toNat 0))).passing (N103 p3 p3.turn (N91 (p4.board.getD (scale 1 p6).toNat 0))).checks (N103 p3 p3.turn (N91 (p4.board.getD (scale 1 p6).toNat 0))).half (N103 p3 p3.turn (N91 (p4.board.getD (scale 1 p6).toNat 0))).full) else (bif p4.promoted >>> (BitVec.ofInt 64 (wr .i64 p5.frm)).toNat&&&1#64==1#64 then (Pos.mk (N103 p3 p3.turn (N91 (p4.board.getD (scale 1 p6).toNat 0))).variant (N103 p3 p3.turn (N91 (p4.board.getD (scale 1 p6).toNat 0))).board ((N103 p3 p3.turn (N91 (p4.board.getD (scale 1 p6).toNat 0))).promoted &&& ~~~(1#64 <<< (BitVec.ofInt 64 p6).toNat) &&& ~~~(1#64 <<< (BitVec.ofInt 64 p5.frm).toNat)|||1#64 <<< (BitVec.ofInt 64 p5.to).toNat) (N103 p3 p3.turn (N91 (p4.board.getD (scale 1 p6).toNat 0))).pockets (N103 p3 p3.turn (N91 (p4.board.getD (scale 1 p6).toNat 0))).turn (N103 p3 p3.turn (N91 (p4.board.getD (scale 1 p6).toNat 0))).rooks (N103 p3 p3.turn (N91 (p4.board.getD (scale 1 p6).toNat 0))).passing (N103 p3 p3.turn (N91 (p4.board.getD (scale 1 p6).toNat 0))).checks (N103 p3 p3.turn (N91 (p4.board.getD (scale 1 p6).toNat 0))).half (N103 p3 p3.turn (N91 (p4.board.getD (scale 1 p6).toNat 0))).full) else (Pos.mk (N103 p3 p3.turn (N91 (p4.board.getD (scale 1 p6).toNat 0))).variant (N103 p3 p3.turn (N91 (p4.board.getD (scale 1 p6).toNat 0))).board ((N103 p3 p3.turn (N91 (p4.board.getD (scale 1 p6).toNat 0))).promoted &&& ~~~(1#64 <<< (BitVec.ofInt 64 p6).toNat) &&& ~~~(1#64 <<< (BitVec.ofInt 64 p5.frm).toNat)) (N103 p3 p3.turn (N91 (p4.board.getD (scale 1 p6).toNat 0))).pockets (N103 p3 p3.turn (N91 (p4.board.getD (scale 1 p6).toNat 0))).turn (N103 p3 p3.turn (N91 (p4.board.getD (scale 1 p6).toNat 0))).rooks (N103 p3 p3.turn (N91 (p4.board.getD (scale 1 p6).toNat 0))).passing (N103 p3 p3.turn (N91 (p4.board.getD (scale 1 p6).toNat 0))).checks (N103 p3 p3.turn (N91 (p4.board.getD (scale 1 p6).toNat 0))).half (N103 p3 p3.turn (N91 (p4.board.getD (scale 1 p6).toNat 0))).full)))) else (bif p5.pro != 0 then (Pos.mk (N103 p3 p3.turn (N91 (p4.board.getD (scale 1 p6).toNat 0))).variant (N103 p3 p3.turn (N91 (p4.board.getD (scale 1 p6).toNat 0))).board ((N103 p3 p3.turn (N91 (p4.board.getD (scale 1 p6).toNat 0))).promoted &&& ~~~(1#64 <<< (BitVec.ofInt 64 p6).toNat) &&& ~~~(1#64 <<< (BitVec.ofInt 64 p5.frm).toNat)|||1#64 <<< (BitVec.ofInt 64 p5.to).toNat) (N103 p3 p3.turn (N91 (p4.board.getD (scale 1 p6).toNat 0))).pockets (N103 p3 p3.turn (N91 (p4.board.getD (scale 1 p6).toNat 0))).turn (N103 p3 p3.turn (N91 (p4.board.getD (scale 1 p6).toNat 0))).rooks (N103 p3 p3.turn (N91 (p4.board.getD (scale 1 p6).toNat 0))).passing (N103 p3 p3.turn (N91 (p4.board.getD (scale 1 p6).toNat 0))).checks (N103 p3 p3.turn (N91 (p4.board.getD (scale 1 p6).toNat 0))).half (N103 p3 p3.turn (N91 (p4.board.getD (scale 1 p6).toNat 0))).full) else (bif p4.promoted >>> (BitVec.ofInt 64 (wr .i64 p5.frm)).toNat&&&1#64==1#64 then (Pos.mk (N103 p3 p3.turn (N91 (p4.board.getD (scale 1 p6).toNat 0))).variant (N103 p3 p3.turn (N91 (p4.board.getD (scale 1 p6).toNat 0))).board ((N103 p3 p3.turn (N91 (p4.board.getD (scale 1 p6).toNat 0))).promoted &&& ~~~(1#64 <<< (BitVec.ofInt 64 p6).toNat) &&& ~~~(1#64 <<< (BitVec.ofInt 64 p5.frm).toNat)|||1#64 <<< (BitVec.ofInt 64 p5.to).toNat) (N103 p3 p3.turn (N91 (p4.board.getD (scale 1 p6).toNat 0))).pockets (N103 p3 p3.turn (N91 (p4.board.getD (scale 1 p6).toNat 0))).turn (N103 p3 p3.turn (N91 (p4.board.getD (scale 1 p6).toNat 0))).rooks (N103 p3 p3.turn (N91 (p4.board.getD (scale 1 p6).toNat 0))).passing (N103 p3 p3.turn (N91 (p4.board.getD (scale 1 p6).toNat 0))).checks (N103 p3 p3.turn (N91 (p4.board.getD (scale 1 p6).toNat 0))).half (N103 p3 p3.turn (N91 (p4.board.getD (scale 1 p6).toNat 0))).full) else (Pos.mk (N103 p3 p3.turn (N91 (p4.board.getD (scale 1 p6).toNat 0))).variant (N103 p3 p3.turn (N91 (p4.board.getD (scale 1 p6).toNat 0))).board ((N103 p3 p3.turn (N91 (p4.board.getD (scale 1 p6).toNat 0))).promoted &&& ~~~(1#64 <<< (BitVec.ofInt 64 p6).toNat) &&& ~~~(1#64 <<< (BitVec.ofInt 64 p5.frm).toNat)) (N103 p3 p3.turn (N91 (p4.board.getD (scale 1 p6).toNat 0))).pockets (N103 p3 p3.turn (N91 (p4.board.getD (scale 1 p6).toNat 0))).turn (N103 p3 p3.turn (N91 (p4.board.getD (scale 1 p6).toNat 0))).rooks (N103 p3 p3.turn (N91 (p4.board.getD (scale 1 p6).toNat 0))).passing (N103 p3 p3.turn (N91 (p4.board.getD (scale 1 p6).toNat 0))).checks (N103 p3 p3.turn (N91 (p4.board.getD (scale 1 p6).toNat 0))).half (N103 p3 p3.turn (N91 (p4.board.getD (scale 1 p6).toNat 0))).full)))) else (bif p5.pro != 0 then (Pos.mk p3.variant p3.board (p3.promoted &&& ~~~(1#64 <<< (BitVec.ofInt 64 p5.frm).toNat)|||1#64 <<< (BitVec.ofInt 64 p5.to).toNat) p3.pockets p3.turn p3.rooks p3.passing p3.checks p3.half p3.full) else (bif p4.promoted >>> (BitVec.ofInt 64 (wr .i64 p5.frm)).toNat&&&1#64==1#64 then (Pos.mk p3.variant p3.board (p3.promoted &&& ~~~(1#64 <<< (BitVec.ofInt 64 p5.frm).toNat)|||1#64 <<< (BitVec.ofInt 64 p5.to).toNat) p3.pockets p3.turn p3.rooks p3.passing p3.checks p3.half p3.full) else (Pos.mk p3.variant p3.board (p3.promoted &&& ~~~(1#64 <<< (BitVec.ofInt 64 p5.frm).toNat)) p3.pockets p3.turn p3.rooks p3.passing p3.checks p3.half p3.full)))))))
noncomputable def okF22_2 (p1:Pos) (p2:Mv) (p3:Pos) (p4:Pos) (p5:Mv) (p6:Int):Bool:=(bif p3.variant != 2 then true else (bif p5.drp != 0 then true else (bif p5.cas then (ok99 (p4) (p5)&&true) else (bif decide (p6 ≥ 0) then (decide (0≤p6)&&decide (p6 < Int.ofNat 64)&&(bif p4.promoted >>> (BitVec.ofInt 64 p6).toNat&&&1#64==1#64 then (decide (0≤p6)&&decide (p6 < Int.ofNat 64)&&(bif p4.board.getD (scale 1 p6).toNat 0 != 0 then (ok103 (p3) (p3.turn) (1)&&true) else (ok103 (p3) (p3.turn) (N91 (p4.board.getD (scale 1 p6).toNat 0))&&true))) else (ok103 (p3) (p3.turn) (N91 (p4.board.getD (scale 1 p6).toNat 0))&&true))) else true))))
abbrev DF22_2 {α:Type} (k:Pos→Mv→Pos→Pos→Mv→Int→α) (s:St):α:=wP s 0 fun q0=>wP s 3 fun q3=>wM s 1 fun q1=>k q0 q1 q3 (Kz.Pos.mk (tI (tH s 3 10)) (tN (tH s 3 11)) (tU (tH s 3 12)) (tN (tH s 3 13)) (tI (tH s 3 14)) (tN (tH s 3 15)) (tI (tH s 3 16)) (tN (tH s 3 17)) (tI (tH s 3 18)) (tI (tH s 3 19))) (Kz.Mv.mk (tI (tH s 3 20)) (tI (tH s 3 21)) (tI (tH s 3 22)) (tI (tH s 3 23)) (tB (tH s 3 24))) (tI (tH s 3 25))
theorem PF22_2 (p1:Pos) (p2:Mv) (p3:Pos) (p4:Pos) (p5:Mv) (p6:Int) (h:okF22_2 p1 p2 p3 p4 p5 p6=true):FSpec Pz 47 (A22_2 p1 p2 p3 p4 p5 p6) (H22_2 p1 p2 p3 p4 p5 p6) (O22_2 p1 p2 p3 p4 p5 p6 (vF22_2 p1 p2 p3 p4 p5 p6))∧∃ fn,Pz.funcs[47]?=some fn∧fn.body.isSome=true:=fs_sumd (n:=14) (O:=O22_2 p1 p2 p3 p4 p5 p6) hB22_2 (fun o=>match o with | .ret v h=>(let s:St:=⟨[v],h⟩; wP s 3 fun q3=>some q3) | _=>none) (fun _=>rfl) (by kernel_rfl) (by kernel_rfl) (by kernel_rfl) (by kernel_rfl) h
noncomputable def FF22_2 (xs:List AV) (h:Hp):Tr FRes:=DF22_2 (fun p1 p2 p3 p4 p5 p6=>fk xs h (A22_2 p1 p2 p3 p4 p5 p6) (H22_2 p1 p2 p3 p4 p5 p6) (okF22_2 p1 p2 p3 p4 p5 p6) (O22_2 p1 p2 p3 p4 p5 p6) (vF22_2 p1 p2 p3 p4 p5 p6)) ⟨xs,h⟩
theorem sFF22_2:FSound Pz 47 FF22_2:=fun _ _ _ h=>fk_ok (PF22_2 _ _ _ _ _ _) h
noncomputable def B22_3:Base:=baseOf Pz (fun f i=>lkC f i K22) [(109,G109),(45,G45),(41,G41),(40,G40),(66,G66),(91,G91),(99,G99),(100,G100),(101,G101),(103,G103),(65,G65),(104,G104),(106,G106),(107,G107),(108,G108)] [] [(46,FF22_1),(47,FF22_2)]
theorem hB22_3:BOk B22_3:=base_ok named_z ⟨s109,s45,s41,s40,s66,s91,s99,s100,s101,s103,s65,s104,s106,s107,s108,trivial⟩ trivial ⟨sFF22_1,sFF22_2,trivial⟩
noncomputable def S22_3 (p1:(List Int)) (p2:Int) (p3:Pos) (p4:Mv) (p5:Pos) (p6:Mv) (p7:Int) (x:(Int×Pos)):St:=St.mk (AV.ptr 3 0::(an 27 (AV.list (ET.i .i64) p1 Tk.fresh::AV.int .i64 p2::AV.int .i64 x.fst::(an 10 [])))) (Hp.mk [(pc p3 []),[AV.int .i8 p4.frm,AV.int .i8 p4.to,AV.int .u8 p4.pro,AV.int .u8 p4.drp,AV.bool p4.cas],[AV.int .u8 0,AV.ints .u8 64 (li (List.replicate 64 0)),AV.u64 0,AV.ints .u8 12 (li [0,0,0,0,0,0,0,0,0,0,0,0]),AV.int .u8 0,AV.ints .i8 4 (li [0,0,0,0]),AV.int .i8 0,AV.ints .u8 2 (li [0,0]),AV.int .i64 0,AV.int .i64 0],(pc x.snd (pc p5 [AV.int .i8 p6.frm,AV.int .i8 p6.to,AV.int .u8 p6.pro,AV.int .u8 p6.drp,AV.bool p6.cas,AV.int .i64 p7]))] [] [] 0 0 0)
noncomputable def O22_3 (p1:(List Int)) (p2:Int) (p3:Pos) (p4:Mv) (p5:Pos) (p6:Mv) (p7:Int):(Int×Bool×Pos)→Out:=fun y=>.exit 0 (St.mk (AV.ptr 3 0::(an 27 (AV.list (ET.i .i64) p1 Tk.fresh::AV.int .i64 p2::AV.int .i64 y.fst::AV.bool y.snd.fst::(an 9 [])))) (Hp.mk [(pc p3 []),[AV.int .i8 p4.frm,AV.int .i8 p4.to,AV.int .u8 p4.pro,AV.int .u8 p4.drp,AV.bool p4.cas],[AV.int .u8 0,AV.ints .u8 64 (li (List.replicate 64 0)),AV.u64 0,AV.ints .u8 12 (li [0,0,0,0,0,0,0,0,0,0,0,0]),AV.int .u8 0,AV.ints .i8 4 (li [0,0,0,0]),AV.int .i8 0,AV.ints .u8 2 (li [0,0]),AV.int .i64 0,AV.int .i64 0],(pc y.snd.snd (pc p5 [AV.int .i8 p6.frm,AV.int .i8 p6.to,AV.int .u8 p6.pro,AV.int .u8 p6.drp,AV.bool p6.cas,AV.int .i64 p7]))] [] [] 0 0 0))
noncomputable def st22_3 (p1:(List Int)) (p2:Int) (p3:Pos) (p4:Mv) (p5:Pos) (p6:Mv) (p7:Int) (x:(Int×Pos)):Stp (Int×Pos) ((Int×Bool×Pos)):=(bif decide (x.fst < p2) then (Stp.go (wr .i64 (x.fst+1),Pos.mk x.snd.variant (x.snd.board.set (scale 1 (p1.getD x.fst.toNat default)).toNat 0) x.snd.promoted x.snd.pockets x.snd.turn x.snd.rooks x.snd.passing x.snd.checks x.snd.half x.snd.full)) else (Stp.out ((x.fst,decide (x.fst < p2),x.snd))))
noncomputable def okL22_3 (p1:(List Int)) (p2:Int) (p3:Pos) (p4:Mv) (p5:Pos) (p6:Mv) (p7:Int) (x:(Int×Pos)):Bool:=(bif decide (x.fst < p2) then (decide (0≤x.fst)&&decide (x.fst < Int.ofNat p1.length)&&(decide (0≤p1.getD x.fst.toNat default)&&decide (p1.getD x.fst.toNat default < Int.ofNat 64)&&true)) else true)
noncomputable def lp22_3 (p1:(List Int)) (p2:Int) (p3:Pos) (p4:Mv) (p5:Pos) (p6:Mv) (p7:Int) (x:(Int×Pos)):Option ((Int×Bool×Pos)):=itl (fun x=>bif okL22_3 p1 p2 p3 p4 p5 p6 p7 x then st22_3 p1 p2 p3 p4 p5 p6 p7 x else .bad) many x
abbrev D22_3 {α:Type} (k:(List Int)→Int→Pos→Mv→Pos→Mv→Int→(Int×Pos)→α) (s:St):α:=wP s 0 fun q0=>wP s 3 fun q3=>wM s 1 fun q1=>k (tL (ET.i .i64) (tT s 28)) (tI (tT s 29)) q0 q1 (Kz.Pos.mk (tI (tH s 3 10)) (tN (tH s 3 11)) (tU (tH s 3 12)) (tN (tH s 3 13)) (tI (tH s 3 14)) (tN (tH s 3 15)) (tI (tH s 3 16)) (tN (tH s 3 17)) (tI (tH s 3 18)) (tI (tH s 3 19))) (Kz.Mv.mk (tI (tH s 3 20)) (tI (tH s 3 21)) (tI (tH s 3 22)) (tI (tH s 3 23)) (tB (tH s 3 24))) (tI (tH s 3 25)) ((tI (tT s 30)),q3)
theorem L22_3 (p1:(List Int)) (p2:Int) (p3:Pos) (p4:Mv) (p5:Pos) (p6:Mv) (p7:Int) (x:(Int×Pos)) (r:(Int×Bool×Pos)) (h:lp22_3 p1 p2 p3 p4 p5 p6 p7 x=some r):LSpec Pz (bodL Pz 48 2) (S22_3 p1 p2 p3 p4 p5 p6 p7 x) (O22_3 p1 p2 p3 p4 p5 p6 p7 r):=LSpec.smd (m:=12) (fn:=48) hB22_3 (D22_3 fun _ _ _ _ _ _ _ x=>some x) (fun o=>match o with | .exit 0 s=>wP s 3 fun q3=>some ((tI (tT s 30)),(tB (tT s 31)),q3) | _=>none) (fun _=>rfl) (fun _=>by kernel_rfl) (fun _=>by kernel_rfl) (fun _=>by kernel_rfl) (fun _=>by kernel_rfl) many x r h
noncomputable def F22_3 (b:Code) (s:St):Tr Out:=D22_3 (fun p1 p2 p3 p4 p5 p6 p7 x=>lk1 b (bodL Pz 48 2) s (S22_3 p1 p2 p3 p4 p5 p6 p7 x) (lp22_3 p1 p2 p3 p4 p5 p6 p7 x) (O22_3 p1 p2 p3 p4 p5 p6 p7)) s
theorem sF22_3:∀ b,LSound Pz b (F22_3 b):=fun _ _ _ h=>lk1_ok (L22_3 _ _ _ _ _ _ _ _) h
noncomputable def B22_4:Base:=baseOf Pz (fun f i=>lkC f i K22) [(109,G109),(45,G45),(41,G41),(40,G40),(66,G66),(91,G91),(99,G99),(100,G100),(101,G101),(103,G103),(65,G65),(104,G104),(106,G106),(107,G107),(108,G108)] [(48,2,F22_3)] [(46,FF22_1),(47,FF22_2)]
theorem hB22_4:BOk B22_4:=base_ok named_z ⟨s109,s45,s41,s40,s66,s91,s99,s100,s101,s103,s65,s104,s106,s107,s108,trivial⟩ ⟨sF22_3,trivial⟩ ⟨sFF22_1,sFF22_2,trivial⟩
noncomputable def A22_4 (p1:Pos) (p2:Mv) (p3:Pos) (p4:Pos) (p5:Mv) (p6:Int):List AV:=[AV.ptr 3 0]
noncomputable def H22_4 (p1:Pos) (p2:Mv) (p3:Pos) (p4:Pos) (p5:Mv) (p6:Int):Hp:=Hp.mk [(pc p1 []),[AV.int .i8 p2.frm,AV.int .i8 p2.to,AV.int .u8 p2.pro,AV.int .u8 p2.drp,AV.bool p2.cas],[AV.int .u8 0,AV.ints .u8 64 (li (List.replicate 64 0)),AV.u64 0,AV.ints .u8 12 (li [0,0,0,0,0,0,0,0,0,0,0,0]),AV.int .u8 0,AV.ints .i8 4 (li [0,0,0,0]),AV.int .i8 0,AV.ints .u8 2 (li [0,0]),AV.int .i64 0,AV.int .i64 0],(pc p3 (pc p4 [AV.int .i8 p5.frm,AV.int .i8 p5.to,AV.int .u8 p5.pro,AV.int .u8 p5.drp,AV.bool p5.cas,AV.int .i64 p6]))] [] [] 0 0 0
noncomputable def O22_4 (p1:Pos) (p2:Mv) (p3:Pos) (p4:Pos) (p5:Mv) (p6:Int) (y:(Pos)):FRes := .ret (AV.tuple []) (Hp.mk [(pc p1 []),[AV.int .i8 p2.frm,AV.int .i8 p2.to,AV.int .u8 p2.pro,AV.int .u8 p2.drp,AV.bool p2.cas],[AV.int .u8 0,AV.ints .u8 64 (li (List.replicate 64 0)),AV.u64 0,AV.ints .u8 12 (li [0,0,0,0,0,0,0,0,0,0,0,0]),AV.int .u8 0,AV.ints .i8 4 (li [0,0,0,0]),AV.int .i8 0,AV.ints .u8 2 (li [0,0]),AV.int .i64 0,AV.int .i64 0],(pc y (pc p4 [AV.int .i8 p5.frm,AV.int .i8 p5.to,AV.int .u8 p5.pro,AV.int .u8 p5.drp,AV.bool p5.cas,AV.int .i64 p6]))] [] [] 0 0 0)
noncomputable def vF22_4 (p1:Pos) (p2:Mv) (p3:Pos) (p4:Pos) (p5:Mv) (p6:Int):(Pos):=(bif p3.variant != 3 then (p3) else (bif decide (p6 < 0) then (p3) else (((lp22_3 (N65 (N104 p3 (wr .i64 p5.to))) (Int.ofNat (N65 (N104 p3 (wr .i64 p5.to))).length) p1 p2 p4 p5 p6 (0,p3)).getD default).snd.snd)))
noncomputable def okF22_4 (p1:Pos) (p2:Mv) (p3:Pos) (p4:Pos) (p5:Mv) (p6:Int):Bool:=(bif p3.variant != 3 then true else (bif decide (p6 < 0) then true else (ok104 (p3) (wr .i64 p5.to)&&(ok65 (N104 p3 (wr .i64 p5.to))&&((lp22_3 (N65 (N104 p3 (wr .i64 p5.to))) (Int.ofNat (N65 (N104 p3 (wr .i64 p5.to))).length) p1 p2 p4 p5 p6 (0,p3)).isSome&&true)))))
abbrev DF22_4 {α:Type} (k:Pos→Mv→Pos→Pos→Mv→Int→α) (s:St):α:=wP s 0 fun q0=>wP s 3 fun q3=>wM s 1 fun q1=>k q0 q1 q3 (Kz.Pos.mk (tI (tH s 3 10)) (tN (tH s 3 11)) (tU (tH s 3 12)) (tN (tH s 3 13)) (tI (tH s 3 14)) (tN (tH s 3 15)) (tI (tH s 3 16)) (tN (tH s 3 17)) (tI (tH s 3 18)) (tI (tH s 3 19))) (Kz.Mv.mk (tI (tH s 3 20)) (tI (tH s 3 21)) (tI (tH s 3 22)) (tI (tH s 3 23)) (tB (tH s 3 24))) (tI (tH s 3 25))
theorem PF22_4 (p1:Pos) (p2:Mv) (p3:Pos) (p4:Pos) (p5:Mv) (p6:Int) (h:okF22_4 p1 p2 p3 p4 p5 p6=true):FSpec Pz 48 (A22_4 p1 p2 p3 p4 p5 p6) (H22_4 p1 p2 p3 p4 p5 p6) (O22_4 p1 p2 p3 p4 p5 p6 (vF22_4 p1 p2 p3 p4 p5 p6))∧∃ fn,Pz.funcs[48]?=some fn∧fn.body.isSome=true:=fs_sumd (n:=14) (O:=O22_4 p1 p2 p3 p4 p5 p6) hB22_4 (fun o=>match o with | .ret v h=>(let s:St:=⟨[v],h⟩; wP s 3 fun q3=>some q3) | _=>none) (fun _=>rfl) (by kernel_rfl) (by kernel_rfl) (by kernel_rfl) (by kernel_rfl) h
noncomputable def FF22_4 (xs:List AV) (h:Hp):Tr FRes:=DF22_4 (fun p1 p2 p3 p4 p5 p6=>fk xs h (A22_4 p1 p2 p3 p4 p5 p6) (H22_4 p1 p2 p3 p4 p5 p6) (okF22_4 p1 p2 p3 p4 p5 p6) (O22_4 p1 p2 p3 p4 p5 p6) (vF22_4 p1 p2 p3 p4 p5 p6)) ⟨xs,h⟩
theorem sFF22_4:FSound Pz 48 FF22_4:=fun _ _ _ h=>fk_ok (PF22_4 _ _ _ _ _ _) h
noncomputable def B22_6:Base:=baseOf Pz (fun f i=>lkC f i K22) [(109,G109),(45,G45),(41,G41),(40,G40),(66,G66),(91,G91),(99,G99),(100,G100),(101,G101),(103,G103),(65,G65),(104,G104),(106,G106),(107,G107),(108,G108)] [(48,2,F22_3)] [(46,FF22_1),(47,FF22_2),(48,FF22_4)]
theorem hB22_6:BOk B22_6:=base_ok named_z ⟨s109,s45,s41,s40,s66,s91,s99,s100,s101,s103,s65,s104,s106,s107,s108,trivial⟩ ⟨sF22_3,trivial⟩ ⟨sFF22_1,sFF22_2,sFF22_4,trivial⟩
noncomputable def S22_6 (p1:Int) (p2:Int) (p3:(List Int)) (p4:Pos) (p5:Mv) (p6:Pos) (p7:Mv) (p8:Int) (x:(Int×Pos)):St:=St.mk (AV.ptr 3 0::AV.any::AV.int .u8 p1::AV.int .i64 p2::(an 42 (AV.agg [AV.ints .i8 2 p3]::AV.int .i64 x.fst::(an 73 [])))) (Hp.mk [(pc p4 []),[AV.int .i8 p5.frm,AV.int .i8 p5.to,AV.int .u8 p5.pro,AV.int .u8 p5.drp,AV.bool p5.cas],[AV.int .u8 0,AV.ints .u8 64 (li (List.replicate 64 0)),AV.u64 0,AV.ints .u8 12 (li [0,0,0,0,0,0,0,0,0,0,0,0]),AV.int .u8 0,AV.ints .i8 4 (li [0,0,0,0]),AV.int .i8 0,AV.ints .u8 2 (li [0,0]),AV.int .i64 0,AV.int .i64 0],(pc x.snd (pc p6 [AV.int .i8 p7.frm,AV.int .i8 p7.to,AV.int .u8 p7.pro,AV.int .u8 p7.drp,AV.bool p7.cas,AV.int .i64 p8]))] [] [] 0 0 0)
noncomputable def O22_6 (p1:Int) (p2:Int) (p3:(List Int)) (p4:Pos) (p5:Mv) (p6:Pos) (p7:Mv) (p8:Int):(Int×Bool×Pos)→Out:=fun y=>.exit 2 (St.mk (AV.ptr 3 0::AV.any::AV.int .u8 p1::AV.int .i64 p2::(an 42 (AV.agg [AV.ints .i8 2 p3]::AV.int .i64 y.fst::AV.bool y.snd.fst::(an 72 [])))) (Hp.mk [(pc p4 []),[AV.int .i8 p5.frm,AV.int .i8 p5.to,AV.int .u8 p5.pro,AV.int .u8 p5.drp,AV.bool p5.cas],[AV.int .u8 0,AV.ints .u8 64 (li (List.replicate 64 0)),AV.u64 0,AV.ints .u8 12 (li [0,0,0,0,0,0,0,0,0,0,0,0]),AV.int .u8 0,AV.ints .i8 4 (li [0,0,0,0]),AV.int .i8 0,AV.ints .u8 2 (li [0,0]),AV.int .i64 0,AV.int .i64 0],(pc y.snd.snd (pc p6 [AV.int .i8 p7.frm,AV.int .i8 p7.to,AV.int .u8 p7.pro,AV.int .u8 p7.drp,AV.bool p7.cas,AV.int .i64 p8]))] [] [] 0 0 0))
noncomputable def st22_6 (p1:Int) (p2:Int) (p3:(List Int)) (p4:Pos) (p5:Mv) (p6:Pos) (p7:Mv) (p8:Int) (x:(Int×Pos)):Stp (Int×Pos) ((Int×Bool×Pos)):=(bif decide (x.fst < 2) then (bif decide (p3.getD x.fst.toNat 0 < 0) then (Stp.go (wr .i64 (x.fst+1),x.snd)) else (bif decide (p3.getD x.fst.toNat 0 > 7) then (Stp.go (wr .i64 (x.fst+1),x.snd)) else (bif p8==wr .i64 (wr .i64 (56 * wr .i64 p1)+wr .i64 (p3.getD x.fst.toNat 0)) then (Stp.go (wr .i64 (x.fst+1),Pos.mk x.snd.variant x.snd.board x.snd.promoted x.snd.pockets x.snd.turn (x.snd.rooks.set (scale 2 p1+scale 1 x.fst).toNat (-1)) x.snd.passing x.snd.checks x.snd.half x.snd.full)) else (bif p7.drp==0 then (bif wr .i64 p7.frm==wr .i64 (wr .i64 (56 * wr .i64 p1)+wr .i64 (p3.getD x.fst.toNat 0)) then (Stp.go (wr .i64 (x.fst+1),Pos.mk x.snd.variant x.snd.board x.snd.promoted x.snd.pockets x.snd.turn (x.snd.rooks.set (scale 2 p1+scale 1 x.fst).toNat (-1)) x.snd.passing x.snd.checks x.snd.half x.snd.full)) else (bif decide (p2 < 0) then (Stp.go (wr .i64 (x.fst+1),Pos.mk x.snd.variant x.snd.board x.snd.promoted x.snd.pockets x.snd.turn (x.snd.rooks.set (scale 2 p1+scale 1 x.fst).toNat (-1)) x.snd.passing x.snd.checks x.snd.half x.snd.full)) else (bif wr .i64 (p2.tdiv 8) != wr .i64 (7 * wr .i64 p1) then (Stp.go (wr .i64 (x.fst+1),Pos.mk x.snd.variant x.snd.board x.snd.promoted x.snd.pockets x.snd.turn (x.snd.rooks.set (scale 2 p1+scale 1 x.fst).toNat (-1)) x.snd.passing x.snd.checks x.snd.half x.snd.full)) else (bif x.snd.board.getD (scale 1 (wr .i64 (wr .i64 (56 * wr .i64 p1)+wr .i64 (p3.getD x.fst.toNat 0)))).toNat 0 != N101 p1 4 then (Stp.go (wr .i64 (x.fst+1),Pos.mk x.snd.variant x.snd.board x.snd.promoted x.snd.pockets x.snd.turn (x.snd.rooks.set (scale 2 p1+scale 1 x.fst).toNat (-1)) x.snd.passing x.snd.checks x.snd.half x.snd.full)) else (Stp.go (wr .i64 (x.fst+1),x.snd)))))) else (bif decide (p2 < 0) then (Stp.go (wr .i64 (x.fst+1),Pos.mk x.snd.variant x.snd.board x.snd.promoted x.snd.pockets x.snd.turn (x.snd.rooks.set (scale 2 p1+scale 1 x.fst).toNat (-1)) x.snd.passing x.snd.checks x.snd.half x.snd.full)) else (bif wr .i64 (p2.tdiv 8) != wr .i64 (7 * wr .i64 p1) then (Stp.go (wr .i64 (x.fst+1),Pos.mk x.snd.variant x.snd.board x.snd.promoted x.snd.pockets x.snd.turn (x.snd.rooks.set (scale 2 p1+scale 1 x.fst).toNat (-1)) x.snd.passing x.snd.checks x.snd.half x.snd.full)) else (bif x.snd.board.getD (scale 1 (wr .i64 (wr .i64 (56 * wr .i64 p1)+wr .i64 (p3.getD x.fst.toNat 0)))).toNat 0 != N101 p1 4 then (Stp.go (wr .i64 (x.fst+1),Pos.mk x.snd.variant x.snd.board x.snd.promoted x.snd.pockets x.snd.turn (x.snd.rooks.set (scale 2 p1+scale 1 x.fst).toNat (-1)) x.snd.passing x.snd.checks x.snd.half x.snd.full)) else (Stp.go (wr .i64 (x.fst+1),x.snd))))))))) else (Stp.out ((x.fst,decide (x.fst < 2),x.snd))))
noncomputable def okL22_6 (p1:Int) (p2:Int) (p3:(List Int)) (p4:Pos) (p5:Mv) (p6:Pos) (p7:Mv) (p8:Int) (x:(Int×Pos)):Bool:=(bif decide (x.fst < 2) then (decide (0≤x.fst)&&decide (x.fst < Int.ofNat 2)&&(bif decide (p3.getD x.fst.toNat 0 < 0) then true else (bif decide (p3.getD x.fst.toNat 0 > 7) then true else (bif p8==wr .i64 (wr .i64 (56 * wr .i64 p1)+wr .i64 (p3.getD x.fst.toNat 0)) then (decide (0≤p1)&&decide (p1 < Int.ofNat 2)&&(decide (0≤x.fst)&&decide (x.fst < Int.ofNat 2)&&true)) else (bif p7.drp==0 then (bif wr .i64 p7.frm==wr .i64 (wr .i64 (56 * wr .i64 p1)+wr .i64 (p3.getD x.fst.toNat 0)) then (decide (0≤p1)&&decide (p1 < Int.ofNat 2)&&(decide (0≤x.fst)&&decide (x.fst < Int.ofNat 2)&&true)) else (bif decide (p2 < 0) then (decide (0≤p1)&&decide (p1 < Int.ofNat 2)&&(decide (0≤x.fst)&&decide (x.fst < Int.ofNat 2)&&true)) else (bif wr .i64 (p2.tdiv 8) != wr .i64 (7 * wr .i64 p1) then (decide (0≤p1)&&decide (p1 < Int.ofNat 2)&&(decide (0≤x.fst)&&decide (x.fst < Int.ofNat 2)&&true)) else (decide (0≤wr .i64 (wr .i64 (56 * wr .i64 p1)+wr .i64 (p3.getD x.fst.toNat 0)))&&decide (wr .i64 (wr .i64 (56 * wr .i64 p1)+wr .i64 (p3.getD x.fst.toNat 0)) < Int.ofNat 64)&&(bif x.snd.board.getD (scale 1 (wr .i64 (wr .i64 (56 * wr .i64 p1)+wr .i64 (p3.getD x.fst.toNat 0)))).toNat 0 != N101 p1 4 then (decide (0≤p1)&&decide (p1 < Int.ofNat 2)&&(decide (0≤x.fst)&&decide (x.fst < Int.ofNat 2)&&true)) else true))))) else (bif decide (p2 < 0) then (decide (0≤p1)&&decide (p1 < Int.ofNat 2)&&(decide (0≤x.fst)&&decide (x.fst < Int.ofNat 2)&&true)) else (bif wr .i64 (p2.tdiv 8) != wr .i64 (7 * wr .i64 p1) then (decide (0≤p1)&&decide (p1 < Int.ofNat 2)&&(decide (0≤x.fst)&&decide (x.fst < Int.ofNat 2)&&true)) else (decide (0≤wr .i64 (wr .i64 (56 * wr .i64 p1)+wr .i64 (p3.getD x.fst.toNat 0)))&&decide (wr .i64 (wr .i64 (56 * wr .i64 p1)+wr .i64 (p3.getD x.fst.toNat 0)) < Int.ofNat 64)&&(bif x.snd.board.getD (scale 1 (wr .i64 (wr .i64 (56 * wr .i64 p1)+wr .i64 (p3.getD x.fst.toNat 0)))).toNat 0 != N101 p1 4 then (decide (0≤p1)&&decide (p1 < Int.ofNat 2)&&(decide (0≤x.fst)&&decide (x.fst < Int.ofNat 2)&&true)) else true))))))))) else true)
noncomputable def lp22_6 (p1:Int) (p2:Int) (p3:(List Int)) (p4:Pos) (p5:Mv) (p6:Pos) (p7:Mv) (p8:Int) (x:(Int×Pos)):Option ((Int×Bool×Pos)):=itl (fun x=>bif okL22_6 p1 p2 p3 p4 p5 p6 p7 p8 x then st22_6 p1 p2 p3 p4 p5 p6 p7 p8 x else .bad) many x
abbrev D22_6 {α:Type} (k:Int→Int→(List Int)→Pos→Mv→Pos→Mv→Int→(Int×Pos)→α) (s:St):α:=wP s 0 fun q0=>wP s 3 fun q3=>wM s 1 fun q1=>k (tI (tT s 2)) (tI (tT s 3)) (tN (tX (tA (tT s 46)) 0)) q0 q1 (Kz.Pos.mk (tI (tH s 3 10)) (tN (tH s 3 11)) (tU (tH s 3 12)) (tN (tH s 3 13)) (tI (tH s 3 14)) (tN (tH s 3 15)) (tI (tH s 3 16)) (tN (tH s 3 17)) (tI (tH s 3 18)) (tI (tH s 3 19))) (Kz.Mv.mk (tI (tH s 3 20)) (tI (tH s 3 21)) (tI (tH s 3 22)) (tI (tH s 3 23)) (tB (tH s 3 24))) (tI (tH s 3 25)) ((tI (tT s 47)),q3)
theorem L22_6 (p1:Int) (p2:Int) (p3:(List Int)) (p4:Pos) (p5:Mv) (p6:Pos) (p7:Mv) (p8:Int) (x:(Int×Pos)) (r:(Int×Bool×Pos)) (h:lp22_6 p1 p2 p3 p4 p5 p6 p7 p8 x=some r):LSpec Pz (bodL Pz 49 7) (S22_6 p1 p2 p3 p4 p5 p6 p7 p8 x) (O22_6 p1 p2 p3 p4 p5 p6 p7 p8 r):=LSpec.smd (m:=12) (fn:=49) hB22_6 (D22_6 fun _ _ _ _ _ _ _ _ x=>some x) (fun o=>match o with | .exit 2 s=>wP s 3 fun q3=>some ((tI (tT s 47)),(tB (tT s 48)),q3) | _=>none) (fun _=>rfl) (fun _=>by kernel_rfl) (fun _=>by kernel_rfl) (fun _=>by kernel_rfl) (fun _=>by kernel_rfl) many x r h
noncomputable def F22_6 (b:Code) (s:St):Tr Out:=D22_6 (fun p1 p2 p3 p4 p5 p6 p7 p8 x=>lk1 b (bodL Pz 49 7) s (S22_6 p1 p2 p3 p4 p5 p6 p7 p8 x) (lp22_6 p1 p2 p3 p4 p5 p6 p7 p8 x) (O22_6 p1 p2 p3 p4 p5 p6 p7 p8)) s
theorem sF22_6:∀ b,LSound Pz b (F22_6 b):=fun _ _ _ h=>lk1_ok (L22_6 _ _ _ _ _ _ _ _ _) h
noncomputable def B22_7:Base:=baseOf Pz (fun f i=>lkC f i K22) [(109,G109),(45,G45),(41,G41),(40,G40),(66,G66),(91,G91),(99,G99),(100,G100),(101,G101),(103,G103),(65,G65),(104,G104),(106,G106),(107,G107),(108,G108)] [(48,2,F22_3),(49,7,F22_6)] [(46,FF22_1),(47,FF22_2),(48,FF22_4)]
theorem hB22_7:BOk B22_7:=base_ok named_z ⟨s109,s45,s41,s40,s66,s91,s99,s100,s101,s103,s65,s104,s106,s107,s108,trivial⟩ ⟨sF22_3,sF22_6,trivial⟩ ⟨sFF22_1,sFF22_2,sFF22_4,trivial⟩
noncomputable def S22_7 (p1:Pos) (p2:Mv) (p3:Pos) (p4:Mv) (p5:Int) (x:(Int×Pos)):St:=St.mk (AV.ptr 3 0::AV.any::AV.int .u8 x.fst::(an 118 [])) (Hp.mk [(pc p1 []),[AV.int .i8 p2.frm,AV.int .i8 p2.to,AV.int .u8 p2.pro,AV.int .u8 p2.drp,AV.bool p2.cas],[AV.int .u8 0,AV.ints .u8 64 (li (List.replicate 64 0)),AV.u64 0,AV.ints .u8 12 (li [0,0,0,0,0,0,0,0,0,0,0,0]),AV.int .u8 0,AV.ints .i8 4 (li [0,0,0,0]),AV.int .i8 0,AV.ints .u8 2 (li [0,0]),AV.int .i64 0,AV.int .i64 0],(pc x.snd (pc p3 [AV.int .i8 p4.frm,AV.int .i8 p4.to,AV.int .u8 p4.pro,AV.int .u8 p4.drp,AV.bool p4.cas,AV.int .i64 p5]))] [] [] 0 0 0)
noncomputable def O22_7 (p1:Pos) (p2:Mv) (p3:Pos) (p4:Mv) (p5:Int):(Int×Bool×Pos)→Out:=fun y=>.exit 0 (St.mk (AV.ptr 3 0::AV.any::AV.int .u8 y.fst::(an 28 (AV.bool y.snd.fst::(an 89 [])))) (Hp.mk [(pc p1 []),[AV.int .i8 p2.frm,AV.int .i8 p2.to,AV.int .u8 p2.pro,AV.int .u8 p2.drp,AV.bool p2.cas],[AV.int .u8 0,AV.ints .u8 64 (li (List.replicate 64 0)),AV.u64 0,AV.ints .u8 12 (li [0,0,0,0,0,0,0,0,0,0,0,0]),AV.int .u8 0,AV.ints .i8 4 (li [0,0,0,0]),AV.int .i8 0,AV.ints .u8 2 (li [0,0]),AV.int .i64 0,AV.int .i64 0],(pc y.snd.snd (pc p3 [AV.int .i8 p4.frm,AV.int .i8 p4.to,AV.int .u8 p4.pro,AV.int .u8 p4.drp,AV.bool p4.cas,AV.int .i64 p5]))] [] [] 0 0 0))
noncomputable def st22_7 (p1:Pos) (p2:Mv) (p3:Pos) (p4:Mv) (p5:Int) (x:(Int×Pos)):Stp (Int×Pos) ((Int×Bool×Pos)):=(bif decide (x.fst≤1) then (Stp.go (wr .u8 (x.fst+1),((lp22_6 x.fst (N106 x.snd x.fst 6) (List.take 2 (List.drop (scale 2 x.fst).toNat x.snd.rooks)) p1 p2 p3 p4 p5 (0,x.snd)).getD default).snd.snd)) else (Stp.out ((x.fst,decide (x.fst≤1),x.snd))))
noncomputable def okL22_7 (p1:Pos) (p2:Mv) (p3:Pos) (p4:Mv) (p5:Int) (x:(Int×Pos)):Bool:=(bif decide (x.fst≤1) then (ok106 (x.snd) (x.fst) (6)&&(decide (0≤x.fst)&&decide (x.fst < Int.ofNat 2)&&((lp22_6 x.fst (N106 x.snd x.fst 6) (List.take 2 (List.drop (scale 2 x.fst).toNat x.snd.rooks)) p1 p2 p3 p4 p5 (0,x.snd)).isSome&&true))) else true)
noncomputable def lp22_7 (p1:Pos) (p2:Mv) (p3:Pos) (p4:Mv) (p5:Int) (x:(Int×Pos)):Option ((Int×Bool×Pos)):=itl (fun x=>bif okL22_7 p1 p2 p3 p4 p5 x then st22_7 p1 p2 p3 p4 p5 x else .bad) many x
abbrev D22_7 {α:Type} (k:Pos→Mv→Pos→Mv→Int→(Int×Pos)→α) (s:St):α:=wP s 0 fun q0=>wP s 3 fun q3=>wM s 1 fun q1=>k q0 q1 (Kz.Pos.mk (tI (tH s 3 10)) (tN (tH s 3 11)) (tU (tH s 3 12)) (tN (tH s 3 13)) (tI (tH s 3 14)) (tN (tH s 3 15)) (tI (tH s 3 16)) (tN (tH s 3 17)) (tI (tH s 3 18)) (tI (tH s 3 19))) (Kz.Mv.mk (tI (tH s 3 20)) (tI (tH s 3 21)) (tI (tH s 3 22)) (tI (tH s 3 23)) (tB (tH s 3 24))) (tI (tH s 3 25)) ((tI (tT s 2)),q3)
theorem L22_7 (p1:Pos) (p2:Mv) (p3:Pos) (p4:Mv) (p5:Int) (x:(Int×Pos)) (r:(Int×Bool×Pos)) (h:lp22_7 p1 p2 p3 p4 p5 x=some r):LSpec Pz (bodL Pz 49 3) (S22_7 p1 p2 p3 p4 p5 x) (O22_7 p1 p2 p3 p4 p5 r):=LSpec.smd (m:=12) (fn:=49) hB22_7 (D22_7 fun _ _ _ _ _ x=>some x) (fun o=>match o with | .exit 0 s=>wP s 3 fun q3=>some ((tI (tT s 2)),(tB (tT s 31)),q3) | _=>none) (fun _=>rfl) (fun _=>by kernel_rfl) (fun _=>by kernel_rfl) (fun _=>by kernel_rfl) (fun _=>by kernel_rfl) many x r h
noncomputable def F22_7 (b:Code) (s:St):Tr Out:=D22_7 (fun p1 p2 p3 p4 p5 x=>lk1 b (bodL Pz 49 3) s (S22_7 p1 p2 p3 p4 p5 x) (lp22_7 p1 p2 p3 p4 p5 x) (O22_7 p1 p2 p3 p4 p5)) s
theorem sF22_7:∀ b,LSound Pz b (F22_7 b):=fun _ _ _ h=>lk1_ok (L22_7 _ _ _ _ _ _) h
noncomputable def B22_8:Base:=baseOf Pz (fun f i=>lkC f i K22) [(109,G109),(45,G45),(41,G41),(40,G40),(66,G66),(91,G91),(99,G99),(100,G100),(101,G101),(103,G103),(65,G65),(104,G104),(106,G106),(107,G107),(108,G108)] [(48,2,F22_3),(49,7,F22_6),(49,3,F22_7)] [(46,FF22_1),(47,FF22_2),(48,FF22_4)]
theorem hB22_8:BOk B22_8:=base_ok named_z ⟨s109,s45,s41,s40,s66,s91,s99,s100,s101,s103,s65,s104,s106,s107,s108,trivial⟩ ⟨sF22_3,sF22_6,sF22_7,trivial⟩ ⟨sFF22_1,sFF22_2,sFF22_4,trivial⟩
noncomputable def A22_8 (p1:Pos) (p2:Mv) (p3:Pos) (p4:Pos) (p5:Mv) (p6:Int):List AV:=[AV.ptr 3 0]
noncomputable def H22_8 (p1:Pos) (p2:Mv) (p3:Pos) (p4:Pos) (p5:Mv) (p6:Int):Hp:=Hp.mk [(pc p1 []),[AV.int .i8 p2.frm,AV.int .i8 p2.to,AV.int .u8 p2.pro,AV.int .u8 p2.drp,AV.bool p2.cas],[AV.int .u8 0,AV.ints .u8 64 (li (List.replicate 64 0)),AV.u64 0,AV.ints .u8 12 (li [0,0,0,0,0,0,0,0,0,0,0,0]),AV.int .u8 0,AV.ints .i8 4 (li [0,0,0,0]),AV.int .i8 0,AV.ints .u8 2 (li [0,0]),AV.int .i64 0,AV.int .i64 0],(pc p3 (pc p4 [AV.int .i8 p5.frm,AV.int .i8 p5.to,AV.int .u8 p5.pro,AV.int .u8 p5.drp,AV.bool p5.cas,AV.int .i64 p6]))] [] [] 0 0 0
noncomputable def O22_8 (p1:Pos) (p2:Mv) (p3:Pos) (p4:Pos) (p5:Mv) (p6:Int) (y:(Pos)):FRes := .ret (AV.tuple []) (Hp.mk [(pc p1 []),[AV.int .i8 p2.frm,AV.int .i8 p2.to,AV.int .u8 p2.pro,AV.int .u8 p2.drp,AV.bool p2.cas],[AV.int .u8 0,AV.ints .u8 64 (li (List.replicate 64 0)),AV.u64 0,AV.ints .u8 12 (li [0,0,0,0,0,0,0,0,0,0,0,0]),AV.int .u8 0,AV.ints .i8 4 (li [0,0,0,0]),AV.int .i8 0,AV.ints .u8 2 (li [0,0]),AV.int .i64 0,AV.int .i64 0],(pc y (pc p4 [AV.int .i8 p5.frm,AV.int .i8 p5.to,AV.int .u8 p5.pro,AV.int .u8 p5.drp,AV.bool p5.cas,AV.int .i64 p6]))] [] [] 0 0 0)
noncomputable def vF22_8 (p1:Pos) (p2:Mv) (p3:Pos) (p4:Pos) (p5:Mv) (p6:Int):(Pos):=(bif p5.drp != 0 then (bif p5.drp==6 then (bif p5.drp==0 then (((lp22_7 p1 p2 p4 p5 p6 (0,Pos.mk p3.variant p3.board p3.promoted p3.pockets p3.turn (List.take (scale 2 p3.turn).toNat p3.rooks++li [-1,-1]++List.drop ((scale 2 p3.turn).toNat+2) p3.rooks) p3.passing p3.checks p3.half p3.full)).getD default).snd.snd) else (((lp22_7 p1 p2 p4 p5 p6 (0,p3)).getD default).snd.snd)) else (((lp22_7 p1 p2 p4 p5 p6 (0,p3)).getD default).snd.snd)) else (bif N91 (p4.board.getD (scale 1 p5.frm).toNat 0)==6 then (bif p5.drp==0 then (((lp22_7 p1 p2 p4 p5 p6 (0,Pos.mk p3.variant p3.board p3.promoted p3.pockets p3.turn (List.take (scale 2 p3.turn).toNat p3.rooks++li [-1,-1]++List.drop ((scale 2 p3.turn).toNat+2) p3.rooks) p3.passing p3.checks p3.half p3.full)).getD default).snd.snd) else (((lp22_7 p1 p2 p4 p5 p6 (0,p3)).getD default).snd.snd)) else (((lp22_7 p1 p2 p4 p5 p6 (0,p3)).getD default).snd.snd)))
noncomputable def okF22_8 (p1:Pos) (p2:Mv) (p3:Pos) (p4:Pos) (p5:Mv) (p6:Int):Bool:=(bif p5.drp != 0 then (bif p5.drp==6 then (bif p5.drp==0 then (decide (0≤p3.turn)&&decide (p3.turn < Int.ofNat 2)&&((lp22_7 p1 p2 p4 p5 p6 (0,Pos.mk p3.variant p3.board p3.promoted p3.pockets p3.turn (List.take (scale 2 p3.turn).toNat p3.rooks++li [-1,-1]++List.drop ((scale 2 p3.turn).toNat+2) p3.rooks) p3.passing p3.checks p3.half p3.full)).isSome&&true)) else ((lp22_7 p1 p2 p4 p5 p6 (0,p3)).isSome&&true)) else ((lp22_7 p1 p2 p4 p5 p6 (0,p3)).isSome&&true)) else (decide (0≤p5.frm)&&decide (p5.frm < Int.ofNat 64)&&(bif N91 (p4.board.getD (scale 1 p5.frm).toNat 0)==6 then (bif p5.drp==0 then (decide (0≤p3.turn)&&decide (p3.turn < Int.ofNat 2)&&((lp22_7 p1 p2 p4 p5 p6 (0,Pos.mk p3.variant p3.board p3.promoted p3.pockets p3.turn (List.take (scale 2 p3.turn).toNat p3.rooks++li [-1,-1]++List.drop ((scale 2 p3.turn).toNat+2) p3.rooks) p3.passing p3.checks p3.half p3.full)).isSome&&true)) else ((lp22_7 p1 p2 p4 p5 p6 (0,p3)).isSome&&true)) else ((lp22_7 p1 p2 p4 p5 p6 (0,p3)).isSome&&true))))
abbrev DF22_8 {α:Type} (k:Pos→Mv→Pos→Pos→Mv→Int→α) (s:St):α:=wP s 0 fun q0=>wP s 3 fun q3=>wM s 1 fun q1=>k q0 q1 q3 (Kz.Pos.mk (tI (tH s 3 10)) (tN (tH s 3 11)) (tU (tH s 3 12)) (tN (tH s 3 13)) (tI (tH s 3 14)) (tN (tH s 3 15)) (tI (tH s 3 16)) (tN (tH s 3 17)) (tI (tH s 3 18)) (tI (tH s 3 19))) (Kz.Mv.mk (tI (tH s 3 20)) (tI (tH s 3 21)) (tI (tH s 3 22)) (tI (tH s 3 23)) (tB (tH s 3 24))) (tI (tH s 3 25))
theorem PF22_8 (p1:Pos) (p2:Mv) (p3:Pos) (p4:Pos) (p5:Mv) (p6:Int) (h:okF22_8 p1 p2 p3 p4 p5 p6=true):FSpec Pz 49 (A22_8 p1 p2 p3 p4 p5 p6) (H22_8 p1 p2 p3 p4 p5 p6) (O22_8 p1 p2 p3 p4 p5 p6 (vF22_8 p1 p2 p3 p4 p5 p6))∧∃ fn,Pz.funcs[49]?=some fn∧fn.body.isSome=true:=fs_sumd (n:=14) (O:=O22_8 p1 p2 p3 p4 p5 p6) hB22_8 (fun o=>match o with | .ret v h=>(let s:St:=⟨[v],h⟩; wP s 3 fun q3=>some q3) | _=>none) (fun _=>rfl) (by kernel_rfl) (by kernel_rfl) (by kernel_rfl) (by kernel_rfl) h
noncomputable def FF22_8 (xs:List AV) (h:Hp):Tr FRes:=DF22_8 (fun p1 p2 p3 p4 p5 p6=>fk xs h (A22_8 p1 p2 p3 p4 p5 p6) (H22_8 p1 p2 p3 p4 p5 p6) (okF22_8 p1 p2 p3 p4 p5 p6) (O22_8 p1 p2 p3 p4 p5 p6) (vF22_8 p1 p2 p3 p4 p5 p6)) ⟨xs,h⟩
theorem sFF22_8:FSound Pz 49 FF22_8:=fun _ _ _ h=>fk_ok (PF22_8 _ _ _ _ _ _) h
noncomputable def B22_9:Base:=baseOf Pz (fun f i=>lkC f i K22) [(109,G109),(45,G45),(41,G41),(40,G40),(66,G66),(91,G91),(99,G99),(100,G100),(101,G101),(103,G103),(65,G65),(104,G104),(106,G106),(107,G107),(108,G108)] [(48,2,F22_3),(49,7,F22_6),(49,3,F22_7)] [(46,FF22_1),(47,FF22_2),(48,FF22_4),(49,FF22_8)]
theorem hB22_9:BOk B22_9:=base_ok named_z ⟨s109,s45,s41,s40,s66,s91,s99,s100,s101,s103,s65,s104,s106,s107,s108,trivial⟩ ⟨sF22_3,sF22_6,sF22_7,trivial⟩ ⟨sFF22_1,sFF22_2,sFF22_4,sFF22_8,trivial⟩
noncomputable def A22_9 (p1:Pos) (p2:Mv) (p3:Pos) (p4:Pos) (p5:Mv) (p6:Int):List AV:=[AV.ptr 3 0]
noncomputable def H22_9 (p1:Pos) (p2:Mv) (p3:Pos) (p4:Pos) (p5:Mv) (p6:Int):Hp:=Hp.mk [(pc p1 []),[AV.int .i8 p2.frm,AV.int .i8 p2.to,AV.int .u8 p2.pro,AV.int .u8 p2.drp,AV.bool p2.cas],[AV.int .u8 0,AV.ints .u8 64 (li (List.replicate 64 0)),AV.u64 0,AV.ints .u8 12 (li [0,0,0,0,0,0,0,0,0,0,0,0]),AV.int .u8 0,AV.ints .i8 4 (li [0,0,0,0]),AV.int .i8 0,AV.ints .u8 2 (li [0,0]),AV.int .i64 0,AV.int .i64 0],(pc p3 (pc p4 [AV.int .i8 p5.frm,AV.int .i8 p5.to,AV.int .u8 p5.pro,AV.int .u8 p5.drp,AV.bool p5.cas,AV.int .i64 p6]))] [] [] 0 0 0
noncomputable def O22_9 (p1:Pos) (p2:Mv) (p3:Pos) (p4:Pos) (p5:Mv) (p6:Int) (y:(Pos)):FRes := .ret (AV.tuple []) (Hp.mk [(pc p1 []),[AV.int .i8 p2.frm,AV.int .i8 p2.to,AV.int .u8 p2.pro,AV.int .u8 p2.drp,AV.bool p2.cas],[AV.int .u8 0,AV.ints .u8 64 (li (List.replicate 64 0)),AV.u64 0,AV.ints .u8 12 (li [0,0,0,0,0,0,0,0,0,0,0,0]),AV.int .u8 0,AV.ints .i8 4 (li [0,0,0,0]),AV.int .i8 0,AV.ints .u8 2 (li [0,0]),AV.int .i64 0,AV.int .i64 0],(pc y (pc p4 [AV.int .i8 p5.frm,AV.int .i8 p5.to,AV.int .u8 p5.pro,AV.int .u8 p5.drp,AV.bool p5.cas,AV.int .i64 p6]))] [] [] 0 0 0)
noncomputable def vF22_9 (p1:Pos) (p2:Mv) (p3:Pos) (p4:Pos) (p5:Mv) (p6:Int):(Pos):=(bif p5.drp != 0 then (bif p5.drp != 1 then (Pos.mk p3.variant p3.board p3.promoted p3.pockets p3.turn p3.rooks (-1) p3.checks p3.half p3.full) else (bif p5.drp != 0 then (Pos.mk p3.variant p3.board p3.promoted p3.pockets p3.turn p3.rooks (-1) p3.checks p3.half p3.full) else (bif wr .i8 (p5.to - p5.frm) != 16 then (bif wr .i8 (p5.frm - p5.to) != 16 then (Pos.mk p3.variant p3.board p3.promoted p3.pockets p3.turn p3.rooks (-1) p3.checks p3.half p3.full) else (bif wr .i8 (p5.frm.tdiv 8) != wr .i8 (wr .i8 (7 * wr .i8 p3.turn)+1) then (bif wr .i8 (p5.frm.tdiv 8) != wr .i8 (wr .i8 (7 * wr .i8 p3.turn) - 1) then (Pos.mk p3.variant p3.board p3.promoted p3.pockets p3.turn p3.rooks (-1) p3.checks p3.half p3.full) else (bif N107 p3.turn (wr .i64 (wr .i8 ((wr .i8 (p5.frm+p5.to)).tdiv 2)))&&&N66 (Pos.mk p3.variant p3.board p3.promoted p3.pockets p3.turn p3.rooks (-1) p3.checks p3.half p3.full) (wr .u8 (1 - p3.turn)) 1 != 0#64 then (Pos.mk p3.variant p3.board p3.promoted p3.pockets p3.turn p3.rooks (wr .i8 ((wr .i8 (p5.frm+p5.to)).tdiv 2)) p3.checks p3.half p3.full) else (Pos.mk p3.variant p3.board p3.promoted p3.pockets p3.turn p3.rooks (-1) p3.checks p3.half p3.full))) else (bif N107 p3.turn (wr .i64 (wr .i8 ((wr .i8 (p5.frm+p5.to)).tdiv 2)))&&&N66 (Pos.mk p3.variant p3.board p3.promoted p3.pockets p3.turn p3.rooks (-1) p3.checks p3.half p3.full) (wr .u8 (1 - p3.turn)) 1 != 0#64 then (Pos.mk p3.variant p3.board p3.promoted p3.pockets p3.turn p3.rooks (wr .i8 ((wr .i8 (p5.frm+p5.to)).tdiv 2)) p3.checks p3.half p3.full) else (Pos.mk p3.variant p3.board p3.promoted p3.pockets p3.turn p3.rooks (-1) p3.checks p3.half p3.full)))) else (bif wr .i8 (p5.frm.tdiv 8) != wr .i8 (wr .i8 (7 * wr .i8 p3.turn)+1) then (bif wr .i8 (p5.frm.tdiv 8) != wr .i8 (wr .i8 (7 * wr .i8 p3.turn) - 1) then (Pos.mk p3.variant p3.board p3.promoted p3.pockets p3.turn p3.rooks (-1) p3.checks p3.half p3.full) else (bif N107 p3.turn (wr .i64 (wr .i8 ((wr .i8 (p5.frm+p5.to)).tdiv 2)))&&&N66 (Pos.mk p3.variant p3.board p3.promoted p3.pockets p3.turn p3.rooks (-1) p3.checks p3.half p3.full) (wr .u8 (1 - p3.turn)) 1 != 0#64 then (Pos.mk p3.variant p3.board p3.promoted p3.pockets p3.turn p3.rooks (wr .i8 ((wr .i8 (p5.frm+p5.to)).tdiv 2)) p3.checks p3.half p3.full) else (Pos.mk p3.variant p3.board p3.promoted p3.pockets p3.turn p3.rooks (-1) p3.checks p3.half p3.full))) else (bif N107 p3.turn (wr .i64 (wr .i8 ((wr .i8 (p5.frm+p5.to)).tdiv 2)))&&&N66 (Pos.mk p3.variant p3.board p3.promoted p3.pockets p3.turn p3.rooks (-1) p3.checks p3.half p3.full) (wr .u8 (1 - p3.turn)) 1 != 0#64 then (Pos.mk p3.variant p3.board p3.promoted p3.pockets p3.turn p3.rooks (wr .i8 ((wr .i8 (p5.frm+p5.to)).tdiv 2)) p3.checks p3.half p3.full) else (Pos.mk p3.variant p3.board p3.promoted p3.pockets p3.turn p3.rooks (-1) p3.checks p3.half p3.full)))))) else (bif N91 (p4.board.getD (scale 1 p5.frm).toNat 0) != 1 then (Pos.mk p3.variant p3.board p3.promoted p3.pockets p3.turn p3.rooks (-1) p3.checks p3.half p3.full) else (bif p5.drp != 0 then (Pos.mk p3.variant p3.board p3.promoted p3.pockets p3.turn p3.rooks (-1) p3.checks p3.half p3.full) else (bif wr .i8 (p5.to - p5.frm) != 16 then (bif wr .i8 (p5.frm - p5.to) != 16 then (Pos.mk p3.variant p3.board p3.promoted p3.pockets p3.turn p3.rooks (-1) p3.checks p3.half p3.full) else (bif wr .i8 (p5.frm.tdiv 8) != wr .i8 (wr .i8 (7 * wr .i8 p3.turn)+1) then (bif wr .i8 (p5.frm.tdiv 8) != wr .i8 (wr .i8 (7 * wr .i8 p3.turn) - 1) then (Pos.mk p3.variant p3.board p3.promoted p3.pockets p3.turn p3.rooks (-1) p3.checks p3.half p3.full) else (bif N107 p3.turn (wr .i64 (wr .i8 ((wr .i8 (p5.frm+p5.to)).tdiv 2)))&&&N66 (Pos.mk p3.variant p3.board p3.promoted p3.pockets p3.turn p3.rooks (-1) p3.checks p3.half p3.full) (wr .u8 (1 - p3.turn)) 1 != 0#64 then (Pos.mk p3.variant p3.board p3.promoted p3.pockets p3.turn p3.rooks (wr .i8 ((wr .i8 (p5.frm+p5.to)).tdiv 2)) p3.checks p3.half p3.full) else (Pos.mk p3.variant p3.board p3.promoted p3.pockets p3.turn p3.rooks (-1) p3.checks p3.half p3.full))) else (bif N107 p3.turn (wr .i64 (wr .i8 ((wr .i8 (p5.frm+p5.to)).tdiv 2)))&&&N66 (Pos.mk p3.variant p3.board p3.promoted p3.pockets p3.turn p3.rooks (-1) p3.checks p3.half p3.full) (wr .u8 (1 - p3.turn)) 1 != 0#64 then (Pos.mk p3.variant p3.board p3.promoted p3.pockets p3.turn p3.rooks (wr .i8 ((wr .i8 (p5.frm+p5.to)).tdiv 2)) p3.checks p3.half p3.full) else (Pos.mk p3.variant p3.board p3.promoted p3.pockets p3.turn p3.rooks (-1) p3.checks p3.half p3.full)))) else (bif wr .i8 (p5.frm.tdiv 8) != wr .i8 (wr .i8 (7 * wr .i8 p3.turn)+1) then (bif wr .i8 (p5.frm.tdiv 8) != wr .i8 (wr .i8 (7 * wr .i8 p3.turn) - 1) then (Pos.mk p3.variant p3.board p3.promoted p3.pockets p3.turn p3.rooks (-1) p3.checks p3.half p3.full) else (bif N107 p3.turn (wr .i64 (wr .i8 ((wr .i8 (p5.frm+p5.to)).tdiv 2)))&&&N66 (Pos.mk p3.variant p3.board p3.promoted p3.pockets p3.turn p3.rooks (-1) p3.checks p3.half p3.full) (wr .u8 (1 - p3.turn)) 1 != 0#64 then (Pos.mk p3.variant p3.board p3.promoted p3.pockets p3.turn p3.rooks (wr .i8 ((wr .i8 (p5.frm+p5.to)).tdiv 2)) p3.checks p3.half p3.full) else (Pos.mk p3.variant p3.board p3.promoted p3.pockets p3.turn p3.rooks (-1) p3.checks p3.half p3.full))) else (bif N107 p3.turn (wr .i64 (wr .i8 ((wr .i8 (p5.frm+p5.to)).tdiv 2)))&&&N66 (Pos.mk p3.variant p3.board p3.promoted p3.pockets p3.turn p3.rooks (-1) p3.checks p3.half p3.full) (wr .u8 (1 - p3.turn)) 1 != 0#64 then (Pos.mk p3.variant p3.board p3.promoted p3.pockets p3.turn p3.rooks (wr .i8 ((wr .i8 (p5.frm+p5.to)).tdiv 2)) p3.checks p3.half p3.full) else (Pos.mk p3.variant p3.board p3.promoted p3.pockets p3.turn p3.rooks (-1) p3.checks p3.half p3.full)))))))
noncomputable def okF22_9 (p1:Pos) (p2:Mv) (p3:Pos) (p4:Pos) (p5:Mv) (p6:Int):Bool:=(bif p5.drp != 0 then (bif p5.drp != 1 then true else (bif p5.drp != 0 then true else (bif wr .i8 (p5.to - p5.frm) != 16 then (bif wr .i8 (p5.frm - p5.to) != 16 then true else (bif wr .i8 (p5.frm.tdiv 8) != wr .i8 (wr .i8 (7 * wr .i8 p3.turn)+1) then (bif wr .i8 (p5.frm.tdiv 8) != wr .i8 (wr .i8 (7 * wr .i8 p3.turn) - 1) then true else (ok107 (p3.turn) (wr .i64 (wr .i8 ((wr .i8 (p5.frm+p5.to)).tdiv 2)))&&(ok66 (Pos.mk p3.variant p3.board p3.promoted p3.pockets p3.turn p3.rooks (-1) p3.checks p3.half p3.full) (wr .u8 (1 - p3.turn)) (1)&&true))) else (ok107 (p3.turn) (wr .i64 (wr .i8 ((wr .i8 (p5.frm+p5.to)).tdiv 2)))&&(ok66 (Pos.mk p3.variant p3.board p3.promoted p3.pockets p3.turn p3.rooks (-1) p3.checks p3.half p3.full) (wr .u8 (1 - p3.turn)) (1)&&true)))) else (bif wr .i8 (p5.frm.tdiv 8) != wr .i8 (wr .i8 (7 * wr .i8 p3.turn)+1) then (bif wr .i8 (p5.frm.tdiv 8) != wr .i8 (wr .i8 (7 * wr .i8 p3.turn) - 1) then true else (ok107 (p3.turn) (wr .i64 (wr .i8 ((wr .i8 (p5.frm+p5.to)).tdiv 2)))&&(ok66 (Pos.mk p3.variant p3.board p3.promoted p3.pockets p3.turn p3.rooks (-1) p3.checks p3.half p3.full) (wr .u8 (1 - p3.turn)) (1)&&true))) else (ok107 (p3.turn) (wr .i64 (wr .i8 ((wr .i8 (p5.frm+p5.to)).tdiv 2)))&&(ok66 (Pos.mk p3.variant p3.board p3.promoted p3.pockets p3.turn p3.rooks (-1) p3.checks p3.half p3.full) (wr .u8 (1 - p3.turn)) (1)&&true)))))) else (decide (0≤p5.frm)&&decide (p5.frm < Int.ofNat 64)&&(bif N91 (p4.board.getD (scale 1 p5.frm).toNat 0) != 1 then true else (bif p5.drp != 0 then true else (bif wr .i8 (p5.to - p5.frm) != 16 then (bif wr .i8 (p5.frm - p5.to) != 16 then true else (bif wr .i8 (p5.frm.tdiv 8) != wr .i8 (wr .i8 (7 * wr .i8 p3.turn)+1) then (bif wr .i8 (p5.frm.tdiv 8) != wr .i8 (wr .i8 (7 * wr .i8 p3.turn) - 1) then true else (ok107 (p3.turn) (wr .i64 (wr .i8 ((wr .i8 (p5.frm+p5.to)).tdiv 2)))&&(ok66 (Pos.mk p3.variant p3.board p3.promoted p3.pockets p3.turn p3.rooks (-1) p3.checks p3.half p3.full) (wr .u8 (1 - p3.turn)) (1)&&true))) else (ok107 (p3.turn) (wr .i64 (wr .i8 ((wr .i8 (p5.frm+p5.to)).tdiv 2)))&&(ok66 (Pos.mk p3.variant p3.board p3.promoted p3.pockets p3.turn p3.rooks (-1) p3.checks p3.half p3.full) (wr .u8 (1 - p3.turn)) (1)&&true)))) else (bif wr .i8 (p5.frm.tdiv 8) != wr .i8 (wr .i8 (7 * wr .i8 p3.turn)+1) then (bif wr .i8 (p5.frm.tdiv 8) != wr .i8 (wr .i8 (7 * wr .i8 p3.turn) - 1) then true else (ok107 (p3.turn) (wr .i64 (wr .i8 ((wr .i8 (p5.frm+p5.to)).tdiv 2)))&&(ok66 (Pos.mk p3.variant p3.board p3.promoted p3.pockets p3.turn p3.rooks (-1) p3.checks p3.half p3.full) (wr .u8 (1 - p3.turn)) (1)&&true))) else (ok107 (p3.turn) (wr .i64 (wr .i8 ((wr .i8 (p5.frm+p5.to)).tdiv 2)))&&(ok66 (Pos.mk p3.variant p3.board p3.promoted p3.pockets p3.turn p3.rooks (-1) p3.checks p3.half p3.full) (wr .u8 (1 - p3.turn)) (1)&&true))))))))
abbrev DF22_9 {α:Type} (k:Pos→Mv→Pos→Pos→Mv→Int→α) (s:St):α:=wP s 0 fun q0=>wP s 3 fun q3=>wM s 1 fun q1=>k q0 q1 q3 (Kz.Pos.mk (tI (tH s 3 10)) (tN (tH s 3 11)) (tU (tH s 3 12)) (tN (tH s 3 13)) (tI (tH s 3 14)) (tN (tH s 3 15)) (tI (tH s 3 16)) (tN (tH s 3 17)) (tI (tH s 3 18)) (tI (tH s 3 19))) (Kz.Mv.mk (tI (tH s 3 20)) (tI (tH s 3 21)) (tI (tH s 3 22)) (tI (tH s 3 23)) (tB (tH s 3 24))) (tI (tH s 3 25))
theorem PF22_9 (p1:Pos) (p2:Mv) (p3:Pos) (p4:Pos) (p5:Mv) (p6:Int) (h:okF22_9 p1 p2 p3 p4 p5 p6=true):FSpec Pz 50 (A22_9 p1 p2 p3 p4 p5 p6) (H22_9 p1 p2 p3 p4 p5 p6) (O22_9 p1 p2 p3 p4 p5 p6 (vF22_9 p1 p2 p3 p4 p5 p6))∧∃ fn,Pz.funcs[50]?=some fn∧fn.body.isSome=true:=fs_sumd (n:=14) (O:=O22_9 p1 p2 p3 p4 p5 p6) hB22_9 (fun o=>match o with | .ret v h=>(let s:St:=⟨[v],h⟩; wP s 3 fun q3=>some q3) | _=>none) (fun _=>rfl) (by kernel_rfl) (by kernel_rfl) (by kernel_rfl) (by kernel_rfl) h
noncomputable def FF22_9 (xs:List AV) (h:Hp):Tr FRes:=DF22_9 (fun p1 p2 p3 p4 p5 p6=>fk xs h (A22_9 p1 p2 p3 p4 p5 p6) (H22_9 p1 p2 p3 p4 p5 p6) (okF22_9 p1 p2 p3 p4 p5 p6) (O22_9 p1 p2 p3 p4 p5 p6) (vF22_9 p1 p2 p3 p4 p5 p6)) ⟨xs,h⟩
theorem sFF22_9:FSound Pz 50 FF22_9:=fun _ _ _ h=>fk_ok (PF22_9 _ _ _ _ _ _) h
noncomputable def B22_10:Base:=baseOf Pz (fun f i=>lkC f i K22) [(109,G109),(45,G45),(41,G41),(40,G40),(66,G66),(91,G91),(99,G99),(100,G100),(101,G101),(103,G103),(65,G65),(104,G104),(106,G106),(107,G107),(108,G108)] [(48,2,F22_3),(49,7,F22_6),(49,3,F22_7)] [(46,FF22_1),(47,FF22_2),(48,FF22_4),(49,FF22_8),(50,FF22_9)]
theorem hB22_10:BOk B22_10:=base_ok named_z ⟨s109,s45,s41,s40,s66,s91,s99,s100,s101,s103,s65,s104,s106,s107,s108,trivial⟩ ⟨sF22_3,sF22_6,sF22_7,trivial⟩ ⟨sFF22_1,sFF22_2,sFF22_4,sFF22_8,sFF22_9,trivial⟩
noncomputable def A22_10 (p1:Pos) (p2:Mv) (p3:Pos) (p4:Pos) (p5:Mv) (p6:Int):List AV:=[AV.ptr 3 0]
noncomputable def H22_10 (p1:Pos) (p2:Mv) (p3:Pos) (p4:Pos) (p5:Mv) (p6:Int):Hp:=Hp.mk [(pc p1 []),[AV.int .i8 p2.frm,AV.int .i8 p2.to,AV.int .u8 p2.pro,AV.int .u8 p2.drp,AV.bool p2.cas],[AV.int .u8 0,AV.ints .u8 64 (li (List.replicate 64 0)),AV.u64 0,AV.ints .u8 12 (li [0,0,0,0,0,0,0,0,0,0,0,0]),AV.int .u8 0,AV.ints .i8 4 (li [0,0,0,0]),AV.int .i8 0,AV.ints .u8 2 (li [0,0]),AV.int .i64 0,AV.int .i64 0],(pc p3 (pc p4 [AV.int .i8 p5.frm,AV.int .i8 p5.to,AV.int .u8 p5.pro,AV.int .u8 p5.drp,AV.bool p5.cas,AV.int .i64 p6]))] [] [] 0 0 0
noncomputable def O22_10 (p1:Pos) (p2:Mv) (p3:Pos) (p4:Pos) (p5:Mv) (p6:Int) (y:(Pos)):FRes := .ret (AV.tuple []) (Hp.mk [(pc p1 []),[AV.int .i8 p2.frm,AV.int .i8 p2.to,AV.int .u8 p2.pro,AV.int .u8 p2.drp,AV.bool p2.cas],[AV.int .u8 0,AV.ints .u8 64 (li (List.replicate 64 0)),AV.u64 0,AV.ints .u8 12 (li [0,0,0,0,0,0,0,0,0,0,0,0]),AV.int .u8 0,AV.ints .i8 4 (li [0,0,0,0]),AV.int .i8 0,AV.ints .u8 2 (li [0,0]),AV.int .i64 0,AV.int .i64 0],(pc y (pc p4 [AV.int .i8 p5.frm,AV.int .i8 p5.to,AV.int .u8 p5.pro,AV.int .u8 p5.drp,AV.bool p5.cas,AV.int .i64 p6]))] [] [] 0 0 0)
noncomputable def vF22_10 (p1:Pos) (p2:Mv) (p3:Pos) (p4:Pos) (p5:Mv) (p6:Int):(Pos):=(bif p5.drp != 0 then (bif p5.drp==1 then (bif p3.turn==1 then (Pos.mk p3.variant p3.board p3.promoted p3.pockets p3.turn p3.rooks p3.passing p3.checks 0 (N108 p3.full)) else (Pos.mk p3.variant p3.board p3.promoted p3.pockets p3.turn p3.rooks p3.passing p3.checks 0 p3.full)) else (bif decide (p6 ≥ 0) then (bif p3.turn==1 then (Pos.mk p3.variant p3.board p3.promoted p3.pockets p3.turn p3.rooks p3.passing p3.checks 0 (N108 p3.full)) else (Pos.mk p3.variant p3.board p3.promoted p3.pockets p3.turn p3.rooks p3.passing p3.checks 0 p3.full)) else (bif p3.turn==1 then (Pos.mk p3.variant p3.board p3.promoted p3.pockets p3.turn p3.rooks p3.passing p3.checks (N108 p3.half) (N108 p3.full)) else (Pos.mk p3.variant p3.board p3.promoted p3.pockets p3.turn p3.rooks p3.passing p3.checks (N108 p3.half) p3.full)))) else (bif N91 (p4.board.getD (scale 1 p5.frm).toNat 0)==1 then (bif p3.turn==1 then (Pos.mk p3.variant p3.board p3.promoted p3.pockets p3.turn p3.rooks p3.passing p3.checks 0 (N108 p3.full)) else (Pos.mk p3.variant p3.board p3.promoted p3.pockets p3.turn p3.rooks p3.passing p3.checks 0 p3.full)) else (bif decide (p6 ≥ 0) then (bif p3.turn==1 then (Pos.mk p3.variant p3.board p3.promoted p3.pockets p3.turn p3.rooks p3.passing p3.checks 0 (N108 p3.full)) else (Pos.mk p3.variant p3.board p3.promoted p3.pockets p3.turn p3.rooks p3.passing p3.checks 0 p3.full)) else (bif p3.turn==1 then (Pos.mk p3.variant p3.board p3.promoted p3.pockets p3.turn p3.rooks p3.passing p3.checks (N108 p3.half) (N108 p3.full)) else (Pos.mk p3.variant p3.board p3.promoted p3.pockets p3.turn p3.rooks p3.passing p3.checks (N108 p3.half) p3.full)))))
noncomputable def okF22_10 (p1:Pos) (p2:Mv) (p3:Pos) (p4:Pos) (p5:Mv) (p6:Int):Bool:=(bif p5.drp != 0 then true else (decide (0≤p5.frm)&&decide (p5.frm < Int.ofNat 64)&&true))
abbrev DF22_10 {α:Type} (k:Pos→Mv→Pos→Pos→Mv→Int→α) (s:St):α:=wP s 0 fun q0=>wP s 3 fun q3=>wM s 1 fun q1=>k q0 q1 q3 (Kz.Pos.mk (tI (tH s 3 10)) (tN (tH s 3 11)) (tU (tH s 3 12)) (tN (tH s 3 13)) (tI (tH s 3 14)) (tN (tH s 3 15)) (tI (tH s 3 16)) (tN (tH s 3 17)) (tI (tH s 3 18)) (tI (tH s 3 19))) (Kz.Mv.mk (tI (tH s 3 20)) (tI (tH s 3 21)) (tI (tH s 3 22)) (tI (tH s 3 23)) (tB (tH s 3 24))) (tI (tH s 3 25))
theorem PF22_10 (p1:Pos) (p2:Mv) (p3:Pos) (p4:Pos) (p5:Mv) (p6:Int) (h:okF22_10 p1 p2 p3 p4 p5 p6=true):FSpec Pz 51 (A22_10 p1 p2 p3 p4 p5 p6) (H22_10 p1 p2 p3 p4 p5 p6) (O22_10 p1 p2 p3 p4 p5 p6 (vF22_10 p1 p2 p3 p4 p5 p6))∧∃ fn,Pz.funcs[51]?=some fn∧fn.body.isSome=true:=fs_sumd (n:=14) (O:=O22_10 p1 p2 p3 p4 p5 p6) hB22_10 (fun o=>match o with | .ret v h=>(let s:St:=⟨[v],h⟩; wP s 3 fun q3=>some q3) | _=>none) (fun _=>rfl) (by kernel_rfl) (by kernel_rfl) (by kernel_rfl) (by kernel_rfl) h
noncomputable def FF22_10 (xs:List AV) (h:Hp):Tr FRes:=DF22_10 (fun p1 p2 p3 p4 p5 p6=>fk xs h (A22_10 p1 p2 p3 p4 p5 p6) (H22_10 p1 p2 p3 p4 p5 p6) (okF22_10 p1 p2 p3 p4 p5 p6) (O22_10 p1 p2 p3 p4 p5 p6) (vF22_10 p1 p2 p3 p4 p5 p6)) ⟨xs,h⟩
theorem sFF22_10:FSound Pz 51 FF22_10:=fun _ _ _ h=>fk_ok (PF22_10 _ _ _ _ _ _) h
noncomputable def B22_11:Base:=baseOf Pz (fun f i=>lkC f i K22) [(109,G109),(45,G45),(41,G41),(40,G40),(66,G66),(91,G91),(99,G99),(100,G100),(101,G101),(103,G103),(65,G65),(104,G104),(106,G106),(107,G107),(108,G108)] [(48,2,F22_3),(49,7,F22_6),(49,3,F22_7)] [(46,FF22_1),(47,FF22_2),(48,FF22_4),(49,FF22_8),(50,FF22_9),(51,FF22_10)]
theorem hB22_11:BOk B22_11:=base_ok named_z ⟨s109,s45,s41,s40,s66,s91,s99,s100,s101,s103,s65,s104,s106,s107,s108,trivial⟩ ⟨sF22_3,sF22_6,sF22_7,trivial⟩ ⟨sFF22_1,sFF22_2,sFF22_4,sFF22_8,sFF22_9,sFF22_10,trivial⟩
noncomputable def A22_11 (p1:Pos) (p2:Mv) (p3:Pos) (p4:Pos) (p5:Mv) (p6:Int):List AV:=[AV.ptr 3 0]
noncomputable def H22_11 (p1:Pos) (p2:Mv) (p3:Pos) (p4:Pos) (p5:Mv) (p6:Int):Hp:=Hp.mk [(pc p1 []),[AV.int .i8 p2.frm,AV.int .i8 p2.to,AV.int .u8 p2.pro,AV.int .u8 p2.drp,AV.bool p2.cas],[AV.int .u8 0,AV.ints .u8 64 (li (List.replicate 64 0)),AV.u64 0,AV.ints .u8 12 (li [0,0,0,0,0,0,0,0,0,0,0,0]),AV.int .u8 0,AV.ints .i8 4 (li [0,0,0,0]),AV.int .i8 0,AV.ints .u8 2 (li [0,0]),AV.int .i64 0,AV.int .i64 0],(pc p3 (pc p4 [AV.int .i8 p5.frm,AV.int .i8 p5.to,AV.int .u8 p5.pro,AV.int .u8 p5.drp,AV.bool p5.cas,AV.int .i64 p6]))] [] [] 0 0 0
noncomputable def O22_11 (p1:Pos) (p2:Mv) (p3:Pos) (p4:Pos) (p5:Mv) (p6:Int) (y:(Pos)):FRes := .ret (AV.tuple []) (Hp.mk [(pc p1 []),[AV.int .i8 p2.frm,AV.int .i8 p2.to,AV.int .u8 p2.pro,AV.int .u8 p2.drp,AV.bool p2.cas],[AV.int .u8 0,AV.ints .u8 64 (li (List.replicate 64 0)),AV.u64 0,AV.ints .u8 12 (li [0,0,0,0,0,0,0,0,0,0,0,0]),AV.int .u8 0,AV.ints .i8 4 (li [0,0,0,0]),AV.int .i8 0,AV.ints .u8 2 (li [0,0]),AV.int .i64 0,AV.int .i64 0],(pc y (pc p4 [AV.int .i8 p5.frm,AV.int .i8 p5.to,AV.int .u8 p5.pro,AV.int .u8 p5.drp,AV.bool p5.cas,AV.int .i64 p6]))] [] [] 0 0 0)
noncomputable def vF22_11 (p1:Pos) (p2:Mv) (p3:Pos) (p4:Pos) (p5:Mv) (p6:Int):(Pos):=(bif p3.variant==5 then (bif decide (p3.checks.getD (scale 1 (wr .u8 (1 - wr .u8 (1 - p3.turn)))).toNat 0 < 3) then (bif N109 (Pos.mk p3.variant p3.board p3.promoted p3.pockets (wr .u8 (1 - p3.turn)) p3.rooks p3.passing p3.checks p3.half p3.full) (wr .u8 (1 - p3.turn)) then (Pos.mk p3.variant p3.board p3.promoted p3.pockets (wr .u8 (1 - p3.turn)) p3.rooks p3.passing (p3.checks.set (scale 1 (wr .u8 (1 - wr .u8 (1 - p3.turn)))).toNat (wr .u8 (p3.checks.getD (scale 1 (wr .u8 (1 - wr .u8 (1 - p3.turn)))).toNat 0+1))) p3.half p3.full) else (Pos.mk p3.variant p3.board p3.promoted p3.pockets (wr .u8 (1 - p3.turn)) p3.rooks p3.passing p3.checks p3.half p3.full)) else (Pos.mk p3.variant p3.board p3.promoted p3.pockets (wr .u8 (1 - p3.turn)) p3.rooks p3.passing p3.checks p3.half p3.full)) else (Pos.mk p3.variant p3.board p3.promoted p3.pockets (wr .u8 (1 - p3.turn)) p3.rooks p3.passing p3.checks p3.half p3.full))
noncomputable def okF22_11 (p1:Pos) (p2:Mv) (p3:Pos) (p4:Pos) (p5:Mv) (p6:Int):Bool:=(bif p3.variant==5 then (decide (0≤wr .u8 (1 - wr .u8 (1 - p3.turn)))&&decide (wr .u8 (1 - wr .u8 (1 - p3.turn)) < Int.ofNat 2)&&(bif decide (p3.checks.getD (scale 1 (wr .u8 (1 - wr .u8 (1 - p3.turn)))).toNat 0 < 3) then (ok109 (Pos.mk p3.variant p3.board p3.promoted p3.pockets (wr .u8 (1 - p3.turn)) p3.rooks p3.passing p3.checks p3.half p3.full) (wr .u8 (1 - p3.turn))&&(bif N109 (Pos.mk p3.variant p3.board p3.promoted p3.pockets (wr .u8 (1 - p3.turn)) p3.rooks p3.passing p3.checks p3.half p3.full) (wr .u8 (1 - p3.turn)) then (decide (0≤wr .u8 (1 - wr .u8 (1 - p3.turn)))&&decide (wr .u8 (1 - wr .u8 (1 - p3.turn)) < Int.ofNat 2)&&(decide (0≤wr .u8 (1 - wr .u8 (1 - p3.turn)))&&decide (wr .u8 (1 - wr .u8 (1 - p3.turn)) < Int.ofNat 2)&&true)) else true)) else true)) else true)
abbrev DF22_11 {α:Type} (k:Pos→Mv→Pos→Pos→Mv→Int→α) (s:St):α:=wP s 0 fun q0=>wP s 3 fun q3=>wM s 1 fun q1=>k q0 q1 q3 (Kz.Pos.mk (tI (tH s 3 10)) (tN (tH s 3 11)) (tU (tH s 3 12)) (tN (tH s 3 13)) (tI (tH s 3 14)) (tN (tH s 3 15)) (tI (tH s 3 16)) (tN (tH s 3 17)) (tI (tH s 3 18)) (tI (tH s 3 19))) (Kz.Mv.mk (tI (tH s 3 20)) (tI (tH s 3 21)) (tI (tH s 3 22)) (tI (tH s 3 23)) (tB (tH s 3 24))) (tI (tH s 3 25))
theorem PF22_11 (p1:Pos) (p2:Mv) (p3:Pos) (p4:Pos) (p5:Mv) (p6:Int) (h:okF22_11 p1 p2 p3 p4 p5 p6=true):FSpec Pz 52 (A22_11 p1 p2 p3 p4 p5 p6) (H22_11 p1 p2 p3 p4 p5 p6) (O22_11 p1 p2 p3 p4 p5 p6 (vF22_11 p1 p2 p3 p4 p5 p6))∧∃ fn,Pz.funcs[52]?=some fn∧fn.body.isSome=true:=fs_sumd (n:=14) (O:=O22_11 p1 p2 p3 p4 p5 p6) hB22_11 (fun o=>match o with | .ret v h=>(let s:St:=⟨[v],h⟩; wP s 3 fun q3=>some q3) | _=>none) (fun _=>rfl) (by kernel_rfl) (by kernel_rfl) (by kernel_rfl) (by kernel_rfl) h
noncomputable def FF22_11 (xs:List AV) (h:Hp):Tr FRes:=DF22_11 (fun p1 p2 p3 p4 p5 p6=>fk xs h (A22_11 p1 p2 p3 p4 p5 p6) (H22_11 p1 p2 p3 p4 p5 p6) (okF22_11 p1 p2 p3 p4 p5 p6) (O22_11 p1 p2 p3 p4 p5 p6) (vF22_11 p1 p2 p3 p4 p5 p6)) ⟨xs,h⟩
theorem sFF22_11:FSound Pz 52 FF22_11:=fun _ _ _ h=>fk_ok (PF22_11 _ _ _ _ _ _) h
noncomputable def B22:Base:=baseOf Pz (fun f i=>lkC f i K22) [(109,G109),(45,G45),(41,G41),(40,G40),(66,G66),(91,G91),(99,G99),(100,G100),(101,G101),(103,G103),(65,G65),(104,G104),(106,G106),(107,G107),(108,G108)] [(48,2,F22_3),(49,7,F22_6),(49,3,F22_7)] [(46,FF22_1),(47,FF22_2),(48,FF22_4),(49,FF22_8),(50,FF22_9),(51,FF22_10),(52,FF22_11)]
theorem hB22:BOk B22:=base_ok named_z ⟨s109,s45,s41,s40,s66,s91,s99,s100,s101,s103,s65,s104,s106,s107,s108,trivial⟩ ⟨sF22_3,sF22_6,sF22_7,trivial⟩ ⟨sFF22_1,sFF22_2,sFF22_4,sFF22_8,sFF22_9,sFF22_10,sFF22_11,trivial⟩
noncomputable def N22 (a:Pos) (b:Mv):(Pos×Bool):=(bif !N41 (N45 a) b then (⟨(a.variant),(a.board),(a.promoted),(a.pockets),(a.turn),(a.rooks),(a.passing),(a.checks),(a.half),(a.full)⟩,(false)) else (⟨((vF22_11 a b (vF22_10 a b (vF22_9 a b (vF22_8 a b (vF22_4 a b (vF22_2 a b (vF22_1 a b a a b (N40 a b)) a b (N40 a b)) a b (N40 a b)) a b (N40 a b)) a b (N40 a b)) a b (N40 a b)) a b (N40 a b)).variant),((vF22_11 a b (vF22_10 a b (vF22_9 a b (vF22_8 a b (vF22_4 a b (vF22_2 a b (vF22_1 a b a a b (N40 a b)) a b (N40 a b)) a b (N40 a b)) a b (N40 a b)) a b (N40 a b)) a b (N40 a b)) a b (N40 a b)).board),((vF22_11 a b (vF22_10 a b (vF22_9 a b (vF22_8 a b (vF22_4 a b (vF22_2 a b (vF22_1 a b a a b (N40 a b)) a b (N40 a b)) a b (N40 a b)) a b (N40 a b)) a b (N40 a b)) a b (N40 a b)) a b (N40 a b)).promoted),((vF22_11 a b (vF22_10 a b (vF22_9 a b (vF22_8 a b (vF22_4 a b (vF22_2 a b (vF22_1 a b a a b (N40 a b)) a b (N40 a b)) a b (N40 a b)) a b (N40 a b)) a b (N40 a b)) a b (N40 a b)) a b (N40 a b)).pockets),((vF22_11 a b (vF22_10 a b (vF22_9 a b (vF22_8 a b (vF22_4 a b (vF22_2 a b (vF22_1 a b a a b (N40 a b)) a b (N40 a b)) a b (N40 a b)) a b (N40 a b)) a b (N40 a b)) a b (N40 a b)) a b (N40 a b)).turn),((vF22_11 a b (vF22_10 a b (vF22_9 a b (vF22_8 a b (vF22_4 a b (vF22_2 a b (vF22_1 a b a a b (N40 a b)) a b (N40 a b)) a b (N40 a b)) a b (N40 a b)) a b (N40 a b)) a b (N40 a b)) a b (N40 a b)).rooks),((vF22_11 a b (vF22_10 a b (vF22_9 a b (vF22_8 a b (vF22_4 a b (vF22_2 a b (vF22_1 a b a a b (N40 a b)) a b (N40 a b)) a b (N40 a b)) a b (N40 a b)) a b (N40 a b)) a b (N40 a b)) a b (N40 a b)).passing),((vF22_11 a b (vF22_10 a b (vF22_9 a b (vF22_8 a b (vF22_4 a b (vF22_2 a b (vF22_1 a b a a b (N40 a b)) a b (N40 a b)) a b (N40 a b)) a b (N40 a b)) a b (N40 a b)) a b (N40 a b)) a b (N40 a b)).checks),((vF22_11 a b (vF22_10 a b (vF22_9 a b (vF22_8 a b (vF22_4 a b (vF22_2 a b (vF22_1 a b a a b (N40 a b)) a b (N40 a b)) a b (N40 a b)) a b (N40 a b)) a b (N40 a b)) a b (N40 a b)) a b (N40 a b)).half),((vF22_11 a b (vF22_10 a b (vF22_9 a b (vF22_8 a b (vF22_4 a b (vF22_2 a b (vF22_1 a b a a b (N40 a b)) a b (N40 a b)) a b (N40 a b)) a b (N40 a b)) a b (N40 a b)) a b (N40 a b)) a b (N40 a b)).full)⟩,(true)))
noncomputable def ok22 (a:Pos) (b:Mv):Bool:=(ok45 (a)&&(ok41 (N45 a) (b)&&(bif !N41 (N45 a) b then true else (ok40 (a) (b)&&(okF22_1 (a) (b) (a) (a) (b) (N40 a b)&&(okF22_2 (a) (b) (vF22_1 a b a a b (N40 a b)) (a) (b) (N40 a b)&&(okF22_4 (a) (b) (vF22_2 a b (vF22_1 a b a a b (N40 a b)) a b (N40 a b)) (a) (b) (N40 a b)&&(okF22_8 (a) (b) (vF22_4 a b (vF22_2 a b (vF22_1 a b a a b (N40 a b)) a b (N40 a b)) a b (N40 a b)) (a) (b) (N40 a b)&&(okF22_9 (a) (b) (vF22_8 a b (vF22_4 a b (vF22_2 a b (vF22_1 a b a a b (N40 a b)) a b (N40 a b)) a b (N40 a b)) a b (N40 a b)) (a) (b) (N40 a b)&&(okF22_10 (a) (b) (vF22_9 a b (vF22_8 a b (vF22_4 a b (vF22_2 a b (vF22_1 a b a a b (N40 a b)) a b (N40 a b)) a b (N40 a b)) a b (N40 a b)) a b (N40 a b)) (a) (b) (N40 a b)&&(okF22_11 (a) (b) (vF22_10 a b (vF22_9 a b (vF22_8 a b (vF22_4 a b (vF22_2 a b (vF22_1 a b a a b (N40 a b)) a b (N40 a b)) a b (N40 a b)) a b (N40 a b)) a b (N40 a b)) a b (N40 a b)) (a) (b) (N40 a b)&&true)))))))))))
theorem P22 (a:Pos) (b:Mv) (h:ok22 a b=true):PS Pz 22 [Pos.av a,Mv.av b] ((d2 dPos dB).res (N22 a b)):=ps_sum (n:=14) hB22 (by kernel_rfl) (by kernel_rfl) (by kernel_rfl) h
noncomputable def G22:List AV→Tr AV:=g2 dPos dMv (fun a b=>gdv (ok22 a b) ((d2 dPos dB).res (N22 a b)))
theorem s22:Sound Pz 22 G22:=sound2 fun a b=>at_gd (P22 a b)
noncomputable def K81:List (Nat×Nat×List (Nat×List Nat)):=[(81,9,[(0,[1,2]),(1,[4])])]
noncomputable def B81:Base:=baseOf Pz (fun f i=>lkC f i K81) [(106,G106)] [] []
theorem hB81:BOk B81:=base_ok named_z ⟨s106,trivial⟩ trivial trivial
noncomputable def N81 (a:Pos) (b:Int):Bool:=(decide (N106 a b 6 ≥ 0))
noncomputable def ok81 (a:Pos) (b:Int):Bool:=(ok106 (a) (b) (6)&&true)
theorem P81 (a:Pos) (b:Int) (h:ok81 a b=true):PS Pz 81 [Pos.av a,.int .u8 b] (dB.res (N81 a b)):=ps_sum (n:=14) hB81 (by kernel_rfl) (by kernel_rfl) (by kernel_rfl) h
noncomputable def G81:List AV→Tr AV:=g2 dPos (dI .u8) (fun a b=>gdv (ok81 a b) (dB.res (N81 a b)))
theorem s81:Sound Pz 81 G81:=sound2 fun a b=>at_gd (P81 a b)
noncomputable def K86:List (Nat×Nat×List (Nat×List Nat)):=[(86,52,[(0,(2::3::(rn 30 10 (rn 45 6 [])))),(1,(2::5::6::(rn 30 10 (rn 45 6 [])))),(2,(2::5::14::(rn 30 10 (rn 45 6 [])))),(3,[4]),(4,(2::5::19::(rn 30 10 (rn 45 6 [])))),(5,(2::5::24::(rn 30 10 (rn 45 6 [])))),(6,[4]),(7,(2::5::40::(rn 45 6 []))),(8,[4]),(9,[4])])]
noncomputable def B86:Base:=baseOf Pz (fun f i=>lkC f i K86) [(22,G22),(80,G80),(109,G109),(81,G81)] [] []
theorem hB86:BOk B86:=base_ok named_z ⟨s22,s80,s109,s81,trivial⟩ trivial trivial
noncomputable def N86 (a:Pos) (b:Mv):Bool:=(bif !(N22 a b).snd then (false) else (bif N80 a.variant a.turn then (bif !N81 (N22 a b).fst a.turn then (false) else (bif N109 (N22 a b).fst a.turn then (bif a.variant != 3 then (false) else (bif N81 (N22 a b).fst (wr .u8 (1 - a.turn)) then (false) else (bif a.variant != 8 then (true) else (!N109 (N22 a b).fst (wr .u8 (1 - a.turn)))))) else (bif a.variant != 8 then (true) else (!N109 (N22 a b).fst (wr .u8 (1 - a.turn)))))) else (bif a.variant != 8 then (true) else (!N109 (N22 a b).fst (wr .u8 (1 - a.turn))))))
noncomputable def ok86 (a:Pos) (b:Mv):Bool:=(ok22 (a) (b)&&(bif !(N22 a b).snd then true else (ok80 (a.variant) (a.turn)&&(bif N80 a.variant a.turn then (ok81 ((N22 a b).fst) (a.turn)&&(bif !N81 (N22 a b).fst a.turn then true else (ok109 ((N22 a b).fst) (a.turn)&&(bif N109 (N22 a b).fst a.turn then (bif a.variant != 3 then true else (ok81 ((N22 a b).fst) (wr .u8 (1 - a.turn))&&(bif N81 (N22 a b).fst (wr .u8 (1 - a.turn)) then true else (bif a.variant != 8 then true else (ok109 ((N22 a b).fst) (wr .u8 (1 - a.turn))&&true))))) else (bif a.variant != 8 then true else (ok109 ((N22 a b).fst) (wr .u8 (1 - a.turn))&&true)))))) else (bif a.variant != 8 then true else (ok109 ((N22 a b).fst) (wr .u8 (1 - a.turn))&&true))))))
theorem P86 (a:Pos) (b:Mv) (h:ok86 a b=true):PS Pz 86 [Pos.av a,Mv.av b] (dB.res (N86 a b)):=ps_sum (n:=14) hB86 (by kernel_rfl) (by kernel_rfl) (by kernel_rfl) h
noncomputable def G86:List AV→Tr AV:=g2 dPos dMv (fun a b=>gdv (ok86 a b) (dB.res (N86 a b)))
theorem s86:Sound Pz 86 G86:=sound2 fun a b=>at_gd (P86 a b)
noncomputable def B84:Base:=baseOf Pz (fun _ _=>[]) [(19,G19),(86,G86)] [] []
theorem hB84:BOk B84:=base_ok named_z ⟨s19,s86,trivial⟩ trivial trivial
theorem E84a (p:Pos) (m:Mv):evPure B84 14 84 [Mv.av m,.ptrf (.func 85 [] [.ptrf (Pos.av p)])]=Tr.br (ok86 p m) (Tr.ret (AV.bool (!N86 p m))) Tr.fail:=by kernel_rfl
theorem E84b (p:Pos) (m:Mv):evPure B84 14 84 [Mv.av m,.ptrf (.func 87 [] [.ptrf (Pos.av p)])]=Tr.br (ok19 p m) (Tr.ret (AV.bool (!N19 p m))) Tr.fail:=by kernel_rfl
theorem P84a (p:Pos) (m:Mv) (h:ok86 p m=true):PureSpec Pz 84 [Mv.av m,.ptrf (.func 85 [] [.ptrf (Pos.av p)])] (.bool (!N86 p m)) :=
  (ps_gotR (d:=dB) hB84 (E84a p m) (gr_guard (gr_ret rfl)) (by rw [h]; rfl)).1
theorem P84b (p:Pos) (m:Mv) (h:ok19 p m=true):PureSpec Pz 84 [Mv.av m,.ptrf (.func 87 [] [.ptrf (Pos.av p)])] (.bool (!N19 p m)) :=
  (ps_gotR (d:=dB) hB84 (E84b p m) (gr_guard (gr_ret rfl)) (by rw [h]; rfl)).1
open Classical in
noncomputable def all86 (p:Pos):Bool:=shut (decide (∀ m,ok86 p m=true))
theorem all86_iff {p:Pos}:all86 p=true ↔ ∀ m,ok86 p m=true:=by
  unfold all86
  rw [shut_eq]
  simp
open Classical in
noncomputable def all19 (p:Pos):Bool:=shut (decide (∀ m,ok19 p m=true))
theorem all19_iff {p:Pos}:all19 p=true ↔ ∀ m,ok19 p m=true:=by
  unfold all19
  rw [shut_eq]
  simp
noncomputable def kept (f:Nat) (p:Pos) (l:List Mv):List Mv:=l.filter (bif f.beq 85 then N86 p else N19 p)
noncomputable def okKept (f:Nat) (p:Pos) (l:List Mv):Bool:=decide (l.length≤lim)&&bif f.beq 85 then all86 p else f.beq 87&&all19 p
noncomputable def FF82:List AV→Hp→Tr FRes:=fun xs h=>match xs with
  | [.list .mv l _,.func f [] [.ptr b 0]]=>match h.heap[b]? with
    | some [.int .u8 v,.ints .u8 64 bd,.u64 pr,.ints .u8 12 pk,.int .u8 tn,.ints .i8 4 rk,.int .i8 ps,.ints .u8 2 ck,.int .i64 hf,.int .i64 fl] =>
      .guard (okKept f ⟨v,bd,pr,pk,tn,rk,ps,ck,hf,fl⟩ l) (.ret (.ret (.list .mv (kept f ⟨v,bd,pr,pk,tn,rk,ps,ck,hf,fl⟩ l) .fresh) h))
    | _=>.fail
  | _=>.fail
theorem body82:∃ fn,Pz.funcs[82]?=some fn∧fn.body.isSome=true:=by
  have h:(match Pz.funcs[82]? with
    | some fn=>fn.body.isSome
    | none=>false)=true:=by kernel_rfl
  split at h
  · rename_i fn hf
    exact ⟨fn,hf,h⟩
  · cases h
theorem sFF82:FSound Pz 82 FF82:=by
  intro xs h res he
  unfold FF82 at he
  split at he
  · rename_i l tk f b
    split at he
    · rename_i v bd pr pk tn rk ps ck hf fl hb
      simp only [get_guard,get_ret,Option.some.injEq] at he
      obtain ⟨h1,rfl⟩:=he
      refine ⟨?_,body82⟩
      unfold okKept at h1
      simp only [Bool.and_eq_true,decide_eq_true_eq] at h1
      obtain ⟨hl,h1⟩:=h1
      unfold kept
      cases hf3:f.beq 85 with
      | true =>
        rw [hf3] at h1
        obtain rfl:=Nat.eq_of_beq_eq_true hf3
        exact fs_keep (p:=⟨v,bd,pr,pk,tn,rk,ps,ck,hf,fl⟩) hb (keepM _ _ _ l hl fun m=>P84a _ m (all86_iff.1 h1 m))
      | false =>
        rw [hf3] at h1
        simp only [cond_false,Bool.and_eq_true] at h1
        obtain rfl:=Nat.eq_of_beq_eq_true h1.1
        exact fs_keep (p:=⟨v,bd,pr,pk,tn,rk,ps,ck,hf,fl⟩) hb (keepM _ _ _ l hl fun m=>P84b _ m (all19_iff.1 h1.2 m))
    · simp at he
  · simp at he
end Kz
end
section
namespace Go.Proofs
open Go.Shelf Go.RowKit Go.Lib Go.Sort Kz
def FreshRow (w w':World) (a:Option Addr) (cap:Nat) (l:List Mv):Prop :=
  (a=none∧l=[]∧cap=0)∨∃ b ty,a=some ⟨b,0,none⟩∧w.heap.size≤b∧b < w'.heap.size∧l.length≤cap∧cap≤maxLen∧RowW w' b cap ty l.toArray w'
set_option maxHeartbeats 2000000 in
set_option maxRecDepth 100000 in
theorem keepR (p:Pos) (f2:Nat) (q:Mv→Bool) (l:List Mv) (hll:l.length≤lim) (hq:∀ m,PureSpec Tryz.prog 84 [Mv.av m,.ptrf (.func f2 [] [.ptrf (Pos.av p)])] (.bool (!q m))) (w:World) (vals:Array Value) (hg:GlobOk w) (hr:RepL (gArg w) [] w [.list .mv l .arg,.func f2 [] [.ptrf (Pos.av p)]] vals.toList) :
    Calls Tryz.prog 82 vals w fun e w' => ∃ a cap,e=.returned (.slice a (l.filter q).length cap)∧RowKit.Below w.heap.size w w'∧FreshRow w w' a cap (l.filter q):=by
  obtain ⟨vals⟩:=vals
  cases hr with
  | cons q1 r1 =>
  cases r1 with
  | cons q2 r2 =>
  cases r2
  cases q2 with
  | func ha hb =>
  rename_i x y
  obtain ⟨x⟩:=x
  obtain ⟨y⟩:=y
  cases ha
  cases hb with
  | cons q3 r3 =>
  cases r3
  cases q3 with
  | ptrf hpc hpa =>
  rename_i pc po pcs
  cases q1 with
  | list hn hE hS hT hC =>
  rename_i a n cap cs
  subst hn
  have hcs:=mvs_cells hE
  obtain ⟨fv,hfv⟩:∃ fv:Value,fv=.func (.func f2) (Array.mk []) (Array.mk [.pointer (some ⟨pc,po,none⟩)]):=⟨_,rfl⟩
  rw [← hfv]
  have hpred:∀ (W:World) (u:Mv),w.heap.size+1≤W.heap.size→(∀ k,k < w.heap.size+1→W.heap[k]?=(w.alloc (.cells #[fv] 61)).heap[k]?) →
      Calls Tryz.prog 84 (#[.agg (encM u).toArray]++#[.pointer (some ⟨w.heap.size,0,none⟩)]) W fun e w'=>e=.returned (.bool (!q u))∧RowKit.Below W.heap.size W w':=by
    intro W u hsz hsame
    have old:∀ k,k < w.heap.size→W.heap[k]?=w.heap[k]? := fun k hk=>by
      rw [hsame k (by omega)]
      exact ((Below.refl _ w).alloc (Nat.le_refl _) _).block k hk
    refine (callsIn_wide.1 (hq u W (#[.agg (encM u).toArray]++#[.pointer (some ⟨w.heap.size,0,none⟩)]) ?_ ?_)).mono ?_
    · intro pr hpr j x hj
      obtain ⟨h1,h2⟩:=hg pr hpr j x hj
      have hlt:pr.1 < w.heap.size:=h2
      exact ⟨by rw [cell_same (old _ hlt)]; exact h1,Nat.lt_of_lt_of_le hlt (by omega)⟩
    · refine .cons (.agg (mv_rep _ _ _ u)) (.cons (.ptrf (cs:=[fv]) (.one rfl ?_ .nil) ?_) .nil)
      · rw [hfv]
        refine .func .nil (.cons (.ptrf (pos_rep hpc) ?_) .nil)
        intro j x hj
        obtain ⟨h1,h2⟩:=hpa j x hj
        have hlt:pc < w.heap.size:=h2
        exact ⟨by rw [cell_same (old _ hlt)]; exact h1,Nat.lt_of_lt_of_le hlt (by omega)⟩
      · intro j x hj
        have hc:W.heap[w.heap.size]?=some (.cells #[fv] 61 (0,0)):=by
          rw [hsame _ (Nat.lt_succ_self _)]; exact heap_alloc_new w _
        refine ⟨?_,show w.heap.size < W.heap.size by omega⟩
        rw [cell_of_blk hc,Nat.zero_add]
        simpa using hj
    · rintro e w' ⟨v,rfl,hb,hv⟩
      cases hv
      exact ⟨rfl,hb⟩
  subst hfv
  clear hpc hpa
  cases a with
  | none =>
    obtain rfl:l=[]:=by
      rcases hS with h | ⟨_,_,h,_⟩
      · have:=flat_len l
        rw [← hcs,h] at this
        exact List.eq_nil_of_length_eq_zero (by simp at this; omega)
      · cases h
    have hc:=fun w=>AnyE.slices_Clone_nil Tryz.cloneM 0 cap w
    have hd:=del0 none 0 (.func (.func 84) #[] #[.pointer (some ⟨w.heap.size,0,none⟩)])
    clear hpred hS hcs hE hT
    go_enter Tryz.func82,Tryz.ntmps82
    go_wp2_with fail
    refine (hc _).mono ?_
    rintro e w' ⟨rfl,rfl⟩
    go_wp2_with fail
    refine (hd _).mono ?_
    rintro e w' ⟨rfl,rfl⟩
    go_wp2_with fail
    go_ret
    exact ⟨_,_,rfl,(Below.refl _ w).alloc (Nat.le_refl _) _,.inl ⟨rfl,rfl,rfl⟩⟩
  | some ad =>
    have hclone:Calls Tryz.prog 83 #[.slice (some ad) l.length cap] (w.alloc (.cells #[(.func (.func f2) (Array.mk []) (Array.mk [.pointer (some ⟨pc,po,none⟩)]))] 61)) fun e w' => ∃ v',e=.returned v'∧w'.ownsRow (w.alloc (.cells #[(.func (.func f2) (Array.mk []) (Array.mk [.pointer (some ⟨pc,po,none⟩)]))] 61)).heap.size 44 5 v' l.length (l.flatMap encM)∧v'≠.slice none 0 0∧RowKit.Below (w.alloc (.cells #[(.func (.func f2) (Array.mk []) (Array.mk [.pointer (some ⟨pc,po,none⟩)]))] 61)).heap.size (w.alloc (.cells #[(.func (.func f2) (Array.mk []) (Array.mk [.pointer (some ⟨pc,po,none⟩)]))] 61)) w':=by
      by_cases hl:l=[]
      · subst hl
        exact clone0 ad cap _
      · obtain ⟨c,o,hadr,hat,_⟩:=hS.resolve_left (fun e0=>hl (by
          have:=flat_len l
          rw [← hcs,e0] at this
          exact List.eq_nil_of_length_eq_zero (by simp at this; omega)))
        simp only [Option.some.injEq] at hadr
        subst hadr
        obtain ⟨i0,z,a1,a2,a3,a4,a5⟩:=info44
        refine AnyE.slices_Clone Tryz.cloneM i0 z 5 i0.bytes a1 a2 a3 rfl a4 (by omega) Tryz.sizeOf44 c o l.length cap (l.flatMap encM) _ (flat_len l) ?_ ?_ ?_ (flat_one l)
        · unfold lim at hll; unfold maxLen; omega
        · have:l.length * i0.bytes≤l.length * 131072:=Nat.mul_le_mul_left _ a5
          unfold lim at hll
          omega
        · intro j u hj
          rw [← hcs] at hj
          obtain ⟨h1,h2⟩:=hat j u hj
          have hlt:c < w.heap.size:=h2
          rw [cell_same (((Below.refl _ w).alloc (Nat.le_refl _) _).block c hlt)]
          exact h1
    clear hS hcs hE hT
    have HP:=Lib.hid hpred
    clear hpred
    go_enter Tryz.func82,Tryz.ntmps82
    go_wp2_with fail
    refine hclone.mono ?_
    rintro e w2 ⟨v',rfl,hown,hne,hb⟩
    obtain ⟨hlen,⟨rfl,_⟩ | ⟨gb,cap',cur,rfl,hgb,hcur,hn',hmax,hsz,htake⟩⟩:=hown
    · exact absurd rfl hne
    have hrow:RowW w2 gb cap' 44 l.toArray w2:=⟨rfl,rfl,rfl,Nat.le_refl _,fun _ _ _=>rfl,cur,hcur,hsz,fun j c hj hc=>by
      have hj':j < l.length:=by simpa using hj
      have h1:j * 5+c < l.length * 5:=by have:=Nat.mul_le_mul_right 5 (show j+1≤l.length from hj'); omega
      rw [← Array.getElem?_toList,← List.getElem?_take_of_lt h1,htake,flat_get l j c hj' hc]
      congr 2
      rw [getElem!_pos l j hj',getElem!_pos l.toArray j hj]
      simp⟩
    have hdel:=delM (fun u => !q u) 84 #[.pointer (some ⟨w.heap.size,0,none⟩)] (fun _ _=>rfl) gb cap' l.toArray w2 (lt_of_some hcur) hrow (by simpa using hn') hmax (fun W dk u hW=>by
      have hs1:(w.alloc (.cells #[(.func (.func f2) (Array.mk []) (Array.mk [.pointer (some ⟨pc,po,none⟩)]))] 61)).heap.size=w.heap.size+1:=by simp
      refine HP.out W u (by have:=hb.size; have:=hW.size; omega) (fun k hk => ?_)
      rw [hW.other k (by have:=hb.size; omega) (by omega),hb.block k (by omega)])
    simp only [List.size_toArray,Bool.not_not] at hdel
    have HD:=Lib.hid hdel
    have HBW:=Lib.hid hb
    have HG:=Lib.hid hgb
    have HN:=Lib.hid hn'
    have HM:=Lib.hid hmax
    clear hdel HP hrow hb hgb hn' hcur hsz htake hlen hne hmax hclone
    go_wp2_with fail
    refine HD.out.mono ?_
    rintro e w3 ⟨rfl,hR⟩
    have HR:=Lib.hid hR
    clear hR
    go_wp2_with fail
    go_ret
    have hR:=HR.out
    have hb:=HBW.out
    have hgb:=HG.out
    have hs1:(w.alloc (.cells #[(.func (.func f2) (Array.mk []) (Array.mk [.pointer (some ⟨pc,po,none⟩)]))] 61)).heap.size=w.heap.size+1:=by simp
    have hw1:RowKit.Below w.heap.size w (w.alloc (.cells #[(.func (.func f2) (Array.mk []) (Array.mk [.pointer (some ⟨pc,po,none⟩)]))] 61)):=(Below.refl _ w).alloc (Nat.le_refl _) _
    have hbw:RowKit.Below w.heap.size w w3:=⟨hR.os.trans (hb.os.trans hw1.os),hR.tape.trans (hb.tape.trans hw1.tape),hR.output.trans (hb.output.trans hw1.output),by have:=hR.size; have:=hb.size; omega,fun k hk=>by
      rw [hR.other k (by have:=hb.size; omega) (by omega),hb.block k (by omega)]
      exact hw1.block k hk⟩
    have hfl:(l.filter q).length≤l.length:=List.length_filter_le _ _
    obtain ⟨cur,k1,k2,k3⟩:=hR.row
    exact ⟨_,_,rfl,hbw,.inr ⟨gb,44,rfl,by omega,lt_of_some k1,Nat.le_trans hfl HN.out,HM.out,rfl,rfl,rfl,Nat.le_refl _,fun _ _ _=>rfl,cur,k1,k2,k3⟩⟩
end Go.Proofs
namespace Kz
open Go Go.RowKit Go.Proofs
set_option maxRecDepth 100000
set_option maxHeartbeats 4000000
section
variable {g:Gh} {h:Hp} {w:World}
theorem MR.newRow (m:MR g h w) {w':World} {b cap z n:Nat} {cells:Array Value} {ty:TypeId} (hb:RowKit.Below w.heap.size w w') (h1:w.heap.size≤b) (h2:w'.heap[b]?=some (.cells cells ty (0,0))) (h3:cells.size=cap * z) (h4:n≤cap) (h5:cap≤maxLen) :
    MR { g with fz:=fun c o=>g.fz c o∨(c=b∧o < n * z),own:=g.own++[some (b,cap,z)] } { h with toks:=h.toks++[n] } w' ∧
      Le g h.toks w { g with fz:=fun c o=>g.fz c o∨(c=b∧o < n * z),own:=g.own++[some (b,cap,z)] } (h.toks++[n]) w':=by
  obtain ⟨m1,l1⟩:=m.grow hb
  have l2:Le g h.toks w' { g with fz:=fun c o=>g.fz c o∨(c=b∧o < n * z),own:=g.own++[some (b,cap,z)] } (h.toks++[n]) w' :=
    ⟨rfl,Below.refl _ _,fun _ _ x=>.inl x,fun _ _ _ _ x=>x,fun _ _ x=>x,fun _ _ x=>x,fun _ x=>x,fun k q x=>⟨q,by
      rw [List.getElem?_append_left (List.getElem?_eq_some_iff.1 x).1]; exact x,Nat.le_refl _,fun _=>by
      have:=(List.getElem?_eq_some_iff.1 x).1
      simp only
      rw [List.getElem?_append_left (by rw [m.tlen]; exact this)]⟩⟩
  have hle:=l1.trans l2
  have old:∀ {c:Nat} {o:Obj},w.heap[c]?=some o→c≠b:=fun x e=>by have:=lt_of_some x; omega
  have new:∀ (k:Nat) x,(g.own++[some (b,cap,z)])[k]?=some x→g.own[k]?=some x∨(k=g.own.length∧x=some (b,cap,z)):=by
    intro i c' x
    rcases Nat.lt_or_ge i g.own.length with h' | h'
    · rw [List.getElem?_append_left h'] at x; exact .inl x
    · rw [List.getElem?_append_right h'] at x
      obtain ⟨a,b⟩:=List.getElem?_eq_some_iff.1 x
      simp at a b
      exact .inr ⟨by omega,b.symm⟩
  have tokOld:∀ (k:Nat) x,h.toks[k]?=some x→(h.toks++[n])[k]?=some x:=fun k x hx=>by
    rw [List.getElem?_append_left (List.getElem?_eq_some_iff.1 hx).1]; exact hx
  refine ⟨⟨m1.base,fun c o x => ?_,m1.vlen,fun i c l k1 k2 => ?_,m1.vnd,by simp [m.tlen],fun k k1 => ?_,fun k b' cap' z' k1 => ?_,fun k k' b' c1 z1 c2 z2 k1 k2 => ?_,m1.llen,fun l c r k1 k2 => ?_,m1.lnd,m1.defs,fun p hp=>(m.glob p hp).mono hle⟩,hle⟩
  · rcases x with x | ⟨rfl,_⟩
    · exact m1.fzlt c o x
    · exact lt_of_some h2
  · obtain ⟨a,f,cs,t,d',e⟩:=m1.var i c l k1 k2
    obtain ⟨_,_,_,_,d0,_⟩:=m.var i c l k1 k2
    refine ⟨a,fun o x => ?_,cs,t,d',e.mono l2⟩
    rcases x with x | ⟨x,_⟩
    · exact f o x
    · exact old d0 x
  · rcases new k _ k1 with a | ⟨_,e⟩
    · exact tokOld _ _ (m.tok0 k a)
    · cases e
  · rcases new k _ k1 with a | ⟨e1,e2⟩
    · obtain ⟨q,cs,t,a1,a2,a3,a4,a5,a6,a7,a8⟩:=m1.tok k b' cap' z' a
      obtain ⟨_,_,_,_,_,_,_,d0,_⟩:=m.tok k b' cap' z' a
      refine ⟨q,cs,t,tokOld _ _ a1,a2,a3,a4,a5,a6,fun o x => ?_,a8⟩
      rcases x with x | ⟨x,_⟩
      · exact a7 o x
      · exact absurd x (old d0)
    · simp only [Option.some.injEq,Prod.mk.injEq] at e2
      obtain ⟨rfl,rfl,rfl⟩:=e2
      refine ⟨n,cells,ty,?_,h4,h5,Nat.le_trans m.base h1,h2,h3,fun o x => ?_,fun hv => ?_⟩
      · show (h.toks++[n])[k]?=_
        rw [e1,m.tlen]; simp
      · rcases x with x | ⟨_,x⟩
        · have:=m.fzlt _ _ x; omega
        · exact x
      · obtain ⟨i,hi⟩:=List.getElem?_of_mem hv
        have hi':=(List.getElem?_eq_some_iff.1 hi).1
        obtain ⟨_,_,_,_,d,_⟩:=m.var i _ _ hi (List.getElem?_eq_getElem (by rw [← m.vlen]; exact hi'))
        exact absurd rfl (old d)
  · have notown:∀ (j c z':Nat),g.own[j]?≠some (some (b,c,z')):=fun j c z' x=>by
      obtain ⟨_,_,_,_,_,_,_,d,_⟩:=m.tok j _ c z' x
      exact absurd rfl (old d)
    rcases new k _ k1 with a | ⟨e1,e2⟩ <;> rcases new k' _ k2 with b' | ⟨e3,e4⟩
    · exact m1.tnd k k' _ c1 z1 c2 z2 a b'
    · simp only [Option.some.injEq,Prod.mk.injEq] at e4
      obtain ⟨rfl,rfl,rfl⟩:=e4
      exact absurd a (notown k c1 z1)
    · simp only [Option.some.injEq,Prod.mk.injEq] at e2
      obtain ⟨rfl,rfl,rfl⟩:=e2
      exact absurd b' (notown k' c2 z2)
    · omega
  · obtain ⟨a,R,f,d'⟩:=m1.loop l c r k1 k2
    exact ⟨a,R,f,d'.mono l2⟩
theorem MR.newNone (m:MR g h w) {w':World} (hb:RowKit.Below w.heap.size w w') :
    MR { g with own:=g.own++[none] } { h with toks:=h.toks++[0] } w'∧Le g h.toks w { g with own:=g.own++[none] } (h.toks++[0]) w':=by
  obtain ⟨m1,l1⟩:=m.grow hb
  obtain ⟨m2,l2⟩:=m1.newTok
  exact ⟨m2,l1.trans l2⟩
end
theorem fs_keepR {f:Nat} {l l':List Mv} {tk:Tk} {f2 b:Nat} {p:Pos} {h:Hp} (hb:h.heap[b]?=some (segs (Pos.av p))) (hs:∀ (w:World) (vals:Array Value),GlobOk w→RepL (gArg w) [] w [.list .mv l .arg,.func f2 [] [.ptrf (Pos.av p)]] vals.toList→Calls Pz f vals w fun e w' => ∃ a cap,e=.returned (.slice a l'.length cap)∧RowKit.Below w.heap.size w w'∧FreshRow w w' a cap l') :
    FSpec Pz f [.list .mv l tk,.func f2 [] [.ptr b 0]] h (.ret (.list .mv l' (.own h.toks.length)) { h with toks:=h.toks++[l'.length] }):=by
  intro g w vals m hr
  have hr':RepL (gArg w) [] w [.list .mv l .arg,.func f2 [] [.ptrf (Pos.av p)]] vals.toList:=by
    obtain ⟨vals⟩:=vals
    cases hr with
    | cons q1 r1 =>
    cases r1 with
    | cons q2 r2 =>
    cases r2
    cases q1 with
    | list hn hE hS hT hC =>
    rename_i a n cap cs
    cases q2 with
    | func ha hb2 =>
    rename_i x y
    obtain ⟨x⟩:=x
    obtain ⟨y⟩:=y
    cases ha
    cases hb2 with
    | cons q3 r3 =>
    cases r3
    cases q3 with
    | ptr hv =>
    rename_i c
    obtain ⟨_,_,cells,ty,hc,hcells⟩:=m.var b c _ hv hb
    refine .cons (.list (cs:=cs) hn (by rw [mvs_cells hE]; exact mvs_rep _ _ _ _) (hS.imp id fun ⟨c',o',e1,e2,_⟩=>⟨c',o',e1,fun j x hj=>⟨(e2 j x hj).1,m.fzlt _ _ (e2 j x hj).2⟩,fun f=>absurd rfl f⟩) (fun k e=>by cases e) hC)
      (.cons (.func .nil (.cons (.ptrf (cs:=cells.toList) (pos_rep hcells) fun j x hj=>⟨by rw [cell_of_blk hc,Nat.zero_add]; simpa using hj,lt_of_some hc⟩) .nil)) .nil)
  refine callsIn_wide.2 ((hs w vals m.globOk hr').mono ?_)
  rintro e w' ⟨a,cap,rfl,hbl,hx⟩
  rcases hx with ⟨rfl,rfl,rfl⟩ | ⟨b',ty,rfl,k1,k2,k3,k4,hrow⟩
  · obtain ⟨m1,l1⟩:=m.newNone hbl
    exact ⟨_,_,rfl,⟨m1,l1,⟨rfl,rfl,rfl,fun _ _ _ x=>x,fun i x _ hx=>by
      show (h.toks++[0])[i]?=_
      rw [List.getElem?_append_left (List.getElem?_eq_some_iff.1 hx).1]; exact hx,fun _ _ _ x=>x⟩⟩,
      .list (cs:=[]) rfl .nil (.inl rfl) (fun k ek=>by cases ek; exact ⟨0,by simp,Nat.le_refl _,fun _=>⟨none,by simp [m.tlen],rfl,rfl,rfl⟩⟩) (Nat.le_refl _)⟩
  · obtain ⟨cur,c1,c2,c3⟩:=hrow.row
    obtain ⟨m1,l1⟩:=m.newRow hbl k1 c1 c2 k3 k4
    refine ⟨_,_,rfl,⟨m1,l1,⟨rfl,rfl,rfl,fun _ _ _ x=>x,fun i x _ hx=>by
      show (h.toks++[l'.length])[i]?=_
      rw [List.getElem?_append_left (List.getElem?_eq_some_iff.1 hx).1]; exact hx,fun _ _ _ x=>x⟩⟩,?_⟩
    refine .list (cs:=l'.flatMap encM) rfl (mvs_rep _ _ _ _) (.inr ⟨b',0,rfl,fun j x hj => ?_,fun _=>Nat.le_trans m.base k1⟩) (fun k ek=>by cases ek; exact ⟨l'.length,by simp,Nat.le_refl _,fun _=>⟨some (b',cap,5),by simp [m.tlen],rfl,rfl,rfl⟩⟩) k3
    have hjl:j < l'.length * 5:=by rw [← flat_len]; exact (List.getElem?_eq_some_iff.1 hj).1
    have hdm:j=j / 5 * 5+j % 5:=by omega
    have hq5:j / 5 < l'.length:=by omega
    have hfl:=flat_get l' (j / 5) (j % 5) hq5 (Nat.mod_lt _ (by omega))
    rw [← hdm,hj] at hfl
    refine ⟨?_,.inr ⟨rfl,by omega⟩⟩
    rw [cell_of_blk c1,Nat.zero_add]
    have h3:=c3 (j / 5) (j % 5) (by simpa using hq5) (Nat.mod_lt _ (by omega))
    rw [← hdm] at h3
    rw [h3,hfl]
    have ea:l'.toArray[j / 5]! = l'[j / 5]:=by simp [hq5]
    have eb:l'[j / 5]! = l'[j / 5]:=by simp [hq5]
    rw [ea,eb]
noncomputable def FK:List AV→Hp→Tr FRes:=fun xs h=>match xs with
  | [.list .mv l _,.func f [] [.ptr b 0]]=>match h.heap[b]? with
    | some [.int .u8 v,.ints .u8 64 bd,.u64 pr,.ints .u8 12 pk,.int .u8 tn,.ints .i8 4 rk,.int .i8 ps,.ints .u8 2 ck,.int .i64 hf,.int .i64 fl] =>
      .guard (okKept f ⟨v,bd,pr,pk,tn,rk,ps,ck,hf,fl⟩ l) (.ret (.ret (.list .mv (kept f ⟨v,bd,pr,pk,tn,rk,ps,ck,hf,fl⟩ l) (.own h.toks.length)) { h with toks:=h.toks++[(kept f ⟨v,bd,pr,pk,tn,rk,ps,ck,hf,fl⟩ l).length] }))
    | _=>.fail
  | _=>.fail
theorem sFK:FSound Pz 82 FK:=by
  intro xs h res he
  unfold FK at he
  split at he
  · rename_i l tk f b
    split at he
    · rename_i v bd pr pk tn rk ps ck hf fl hb
      simp only [get_guard,get_ret,Option.some.injEq] at he
      obtain ⟨h1,rfl⟩:=he
      refine ⟨?_,body82⟩
      unfold okKept at h1
      simp only [Bool.and_eq_true,decide_eq_true_eq] at h1
      obtain ⟨hl,h1⟩:=h1
      unfold kept
      cases hf3:f.beq 85 with
      | true =>
        rw [hf3] at h1
        obtain rfl:=Nat.eq_of_beq_eq_true hf3
        exact fs_keepR (p:=⟨v,bd,pr,pk,tn,rk,ps,ck,hf,fl⟩) hb (fun w vals hg hr=>keepR _ _ _ l hl (fun m=>P84a _ m (all86_iff.1 h1 m)) w vals hg hr)
      | false =>
        rw [hf3] at h1
        simp only [cond_false,Bool.and_eq_true] at h1
        obtain rfl:=Nat.eq_of_beq_eq_true h1.1
        exact fs_keepR (p:=⟨v,bd,pr,pk,tn,rk,ps,ck,hf,fl⟩) hb (fun w vals hg hr=>keepR _ _ _ l hl (fun m=>P84b _ m (all19_iff.1 h1.2 m)) w vals hg hr)
    · simp at he
  · simp at he
end Kz
end
section
namespace Kz
open Go Go.RowKit Go.Proofs
set_option maxRecDepth 100000
set_option maxHeartbeats 4000000
noncomputable def K79:List (Nat×Nat×List (Nat×List Nat)):=[]
noncomputable def B79:Base:=baseOf Pz (fun f i=>lkC f i K79) [] [] []
theorem hB79:BOk B79:=base_ok named_z trivial trivial trivial
noncomputable def V57:AV:=AV.agg [AV.nilfunc,AV.nilfunc,AV.nilfunc,AV.func 138 [] [],AV.func 142 [] [],AV.func 139 [] [],AV.func 140 [] [],AV.func 141 [] [],AV.func 143 [] []]
noncomputable def ok79:Bool:=true
theorem E79:evPure B79 14 79 []=Tr.ret V57:=by kernel_rfl
theorem P79 (_:ok79=true):PS Pz 79 [] V57:=evPure_ok hB79 (by rw [E79]; rfl)
noncomputable def G79:List AV→Tr AV:=g0 (.ret V57)
theorem s79:Sound Pz 79 G79:=sound0 (at_rt (P79 rfl))
noncomputable def K172:List (Nat×Nat×List (Nat×List Nat)):=[(172,9,[(0,[0,1,4]),(1,[4])])]
noncomputable def B172:Base:=baseOf Pz (fun f i=>lkC f i K172) [] [] []
theorem hB172:BOk B172:=base_ok named_z trivial trivial trivial
noncomputable def N172 (a:Int) (b:Int):(Int×Int):=⟨(wr .u8 (1+a)),(b)⟩
noncomputable def ok172 (a:Int) (b:Int):Bool:=true
theorem P172 (a:Int) (b:Int) (h:ok172 a b=true):PS Pz 172 [.int .u8 a,.int .u8 b] ((dR .u8 .u8).res (N172 a b)):=ps_sum (n:=14) hB172 (by kernel_rfl) (by kernel_rfl) (by kernel_rfl) h
noncomputable def G172:List AV→Tr AV:=g2 (dI .u8) (dI .u8) (fun a b=>.ret ((dR .u8 .u8).res (N172 a b)))
theorem s172:Sound Pz 172 G172:=sound2 fun a b=>at_rt (P172 a b rfl)
noncomputable def K138:List (Nat×Nat×List (Nat×List Nat)):=[(138,13,[(0,[1,2]),(1,[1,2,7]),(2,[2]),(3,[2])])]
noncomputable def B138:Base:=baseOf Pz (fun f i=>lkC f i K138) [(81,G81),(172,G172)] [] []
theorem hB138:BOk B138:=base_ok named_z ⟨s81,s172,trivial⟩ trivial trivial
noncomputable def N138 (a:Pos):(Int×Int):=(bif !N81 a a.turn then ⟨((N172 (wr .u8 (1 - a.turn)) 6).fst),((N172 (wr .u8 (1 - a.turn)) 6).snd)⟩ else ⟨(0),(0)⟩)
noncomputable def ok138 (a:Pos):Bool:=(ok81 (a) (a.turn)&&true)
theorem P138 (a:Pos) (h:ok138 a=true):PS Pz 138 [Pos.av a] ((dR .u8 .u8).res (N138 a)):=ps_sum (n:=14) hB138 (by kernel_rfl) (by kernel_rfl) (by kernel_rfl) h
noncomputable def G138:List AV→Tr AV:=g1 dPos (fun a=>gdv (ok138 a) ((dR .u8 .u8).res (N138 a)))
theorem s138:Sound Pz 138 G138:=sound1 fun a=>at_gd (P138 a)
noncomputable def K139:List (Nat×Nat×List (Nat×List Nat)):=[(139,6,[(0,[1,2]),(1,[2])]),(173,28,[(0,[1,2,3,6]),(1,[1,2,6,14,15,16]),(2,(1::2::6::(rn 14 4 []))),(3,[1,2,6,8,14,15,16]),(4,[1,2,6,8,14,15,16,22]),(5,[6]),(6,[1,2,6,14,15,16]),(7,[6])]),(174,9,[(0,[0,1]),(1,[3])])]
noncomputable def B139:Base:=baseOf Pz (fun f i=>lkC f i K139) [(172,G172)] [] []
theorem hB139:BOk B139:=base_ok named_z ⟨s172,trivial⟩ trivial trivial
noncomputable def N139 (a:Pos):(Int×Int):=(bif decide (a.checks.getD (scale 1 (wr .u8 (1 - a.turn))).toNat 0 ≥ 3) then ⟨((N172 (wr .u8 (1 - a.turn)) 7).fst),((N172 (wr .u8 (1 - a.turn)) 7).snd)⟩ else (bif decide (a.checks.getD (scale 1 a.turn).toNat 0 ≥ 3) then ⟨((N172 a.turn 7).fst),((N172 a.turn 7).snd)⟩ else ⟨(0),(0)⟩))
noncomputable def ok139 (a:Pos):Bool:=(decide (0≤wr .u8 (1 - a.turn))&&decide (wr .u8 (1 - a.turn) < ↑2)&&(bif decide (a.checks.getD (scale 1 (wr .u8 (1 - a.turn))).toNat 0 ≥ 3) then true else (decide (0≤a.turn)&&decide (a.turn < ↑2)&&true)))
theorem P139 (a:Pos) (h:ok139 a=true):PS Pz 139 [Pos.av a] ((dR .u8 .u8).res (N139 a)):=ps_sum (n:=14) hB139 (by kernel_rfl) (by kernel_rfl) (by kernel_rfl) h
noncomputable def G139:List AV→Tr AV:=g1 dPos (fun a=>gdv (ok139 a) ((dR .u8 .u8).res (N139 a)))
theorem s139:Sound Pz 139 G139:=sound1 fun a=>at_gd (P139 a)
noncomputable def K140:List (Nat×Nat×List (Nat×List Nat)):=[(140,6,[(0,[1,2]),(1,[2])]),(173,28,[(0,[1,2,3,6]),(1,[1,2,6,14,15,16]),(2,(1::2::6::(rn 14 4 []))),(3,[1,2,6,8,14,15,16]),(4,[1,2,6,8,14,15,16,22]),(5,[6]),(6,[1,2,6,14,15,16]),(7,[6])]),(175,17,[(0,(0::1::(rn 11 5 []))),(1,(4::(rn 11 5 []))),(2,[3])])]
noncomputable def B140:Base:=baseOf Pz (fun f i=>lkC f i K140) [(106,G106),(172,G172)] [] []
theorem hB140:BOk B140:=base_ok named_z ⟨s106,s172,trivial⟩ trivial trivial
noncomputable def N140 (a:Pos):(Int×Int):=(bif decide (N106 a (wr .u8 (1 - a.turn)) 6 ≥ 0) then (bif ibits BinOp.and .i64 (Int.fdiv 103481868288 (2 ^ min (BitVec.ofInt 64 (N106 a (wr .u8 (1 - a.turn)) 6)).toNat 64)) 1==1 then ⟨((N172 (wr .u8 (1 - a.turn)) 6).fst),((N172 (wr .u8 (1 - a.turn)) 6).snd)⟩ else (bif decide (N106 a a.turn 6 ≥ 0) then (bif ibits BinOp.and .i64 (Int.fdiv 103481868288 (2 ^ min (BitVec.ofInt 64 (N106 a a.turn 6)).toNat 64)) 1==1 then ⟨((N172 a.turn 6).fst),((N172 a.turn 6).snd)⟩ else ⟨(0),(0)⟩) else ⟨(0),(0)⟩)) else (bif decide (N106 a a.turn 6 ≥ 0) then (bif ibits BinOp.and .i64 (Int.fdiv 103481868288 (2 ^ min (BitVec.ofInt 64 (N106 a a.turn 6)).toNat 64)) 1==1 then ⟨((N172 a.turn 6).fst),((N172 a.turn 6).snd)⟩ else ⟨(0),(0)⟩) else ⟨(0),(0)⟩))
noncomputable def ok140 (a:Pos):Bool:=(ok106 (a) (wr .u8 (1 - a.turn)) (6)&&(bif decide (N106 a (wr .u8 (1 - a.turn)) 6 ≥ 0) then (bif ibits BinOp.and .i64 (Int.fdiv 103481868288 (2 ^ min (BitVec.ofInt 64 (N106 a (wr .u8 (1 - a.turn)) 6)).toNat 64)) 1==1 then true else (ok106 (a) (a.turn) (6)&&true)) else (ok106 (a) (a.turn) (6)&&true)))
theorem P140 (a:Pos) (h:ok140 a=true):PS Pz 140 [Pos.av a] ((dR .u8 .u8).res (N140 a)):=ps_sum (n:=14) hB140 (by kernel_rfl) (by kernel_rfl) (by kernel_rfl) h
noncomputable def G140:List AV→Tr AV:=g1 dPos (fun a=>gdv (ok140 a) ((dR .u8 .u8).res (N140 a)))
theorem s140:Sound Pz 140 G140:=sound1 fun a=>at_gd (P140 a)
noncomputable def K141:List (Nat×Nat×List (Nat×List Nat)):=[(141,8,[(0,[1,2]),(1,[2,5]),(2,[2]),(3,[2])])]
noncomputable def B141:Base:=baseOf Pz (fun f i=>lkC f i K141) [(66,G66),(172,G172)] [] []
theorem hB141:BOk B141:=base_ok named_z ⟨s66,s172,trivial⟩ trivial trivial
noncomputable def N141 (a:Pos):(Int×Int):=(bif N66 (Pos.mk a.variant a.board a.promoted a.pockets a.turn a.rooks a.passing a.checks a.half a.full) 0 0==0#64 then ⟨((N172 1 8).fst),((N172 1 8).snd)⟩ else ⟨(0),(0)⟩)
noncomputable def ok141 (a:Pos):Bool:=(ok66 (Pos.mk a.variant a.board a.promoted a.pockets a.turn a.rooks a.passing a.checks a.half a.full) (0) (0)&&true)
theorem P141 (a:Pos) (h:ok141 a=true):PS Pz 141 [Pos.av a] ((dR .u8 .u8).res (N141 a)):=ps_sum (n:=14) hB141 (by kernel_rfl) (by kernel_rfl) (by kernel_rfl) h
noncomputable def G141:List AV→Tr AV:=g1 dPos (fun a=>gdv (ok141 a) ((dR .u8 .u8).res (N141 a)))
theorem s141:Sound Pz 141 G141:=sound1 fun a=>at_gd (P141 a)
noncomputable def K142:List (Nat×Nat×List (Nat×List Nat)):=[(142,24,[(0,[1,2]),(1,[1,2,10,11,12]),(2,(1::2::(rn 10 4 []))),(3,[1,2,4,10,11,12]),(4,[1,2,4,10,11,12,19]),(5,[2]),(6,[1,2,10,11,12]),(7,[2])])]
noncomputable def B142:Base:=baseOf Pz (fun f i=>lkC f i K142) [(66,G66),(172,G172)] [] []
theorem hB142:BOk B142:=base_ok named_z ⟨s66,s172,trivial⟩ trivial trivial
noncomputable def N142 (a:Pos):(Int×Int):=(bif N66 (Pos.mk a.variant a.board a.promoted a.pockets a.turn a.rooks a.passing a.checks a.half a.full) a.turn 0==0#64 then ⟨((N172 a.turn 8).fst),((N172 a.turn 8).snd)⟩ else (bif N66 (Pos.mk a.variant a.board a.promoted a.pockets a.turn a.rooks a.passing a.checks a.half a.full) (wr .u8 (1 - a.turn)) 0==0#64 then ⟨((N172 (wr .u8 (1 - a.turn)) 8).fst),((N172 (wr .u8 (1 - a.turn)) 8).snd)⟩ else ⟨(0),(0)⟩))
noncomputable def ok142 (a:Pos):Bool:=(ok66 (Pos.mk a.variant a.board a.promoted a.pockets a.turn a.rooks a.passing a.checks a.half a.full) (a.turn) (0)&&(bif N66 (Pos.mk a.variant a.board a.promoted a.pockets a.turn a.rooks a.passing a.checks a.half a.full) a.turn 0==0#64 then true else (ok66 (Pos.mk a.variant a.board a.promoted a.pockets a.turn a.rooks a.passing a.checks a.half a.full) (wr .u8 (1 - a.turn)) (0)&&true)))
theorem P142 (a:Pos) (h:ok142 a=true):PS Pz 142 [Pos.av a] ((dR .u8 .u8).res (N142 a)):=ps_sum (n:=14) hB142 (by kernel_rfl) (by kernel_rfl) (by kernel_rfl) h
noncomputable def G142:List AV→Tr AV:=g1 dPos (fun a=>gdv (ok142 a) ((dR .u8 .u8).res (N142 a)))
theorem s142:Sound Pz 142 G142:=sound1 fun a=>at_gd (P142 a)
noncomputable def K39:List (Nat×Nat×List (Nat×List Nat)):=[(39,37,[(0,(1::(rn 12 5 [28,29,30]))),(1,[1,17,28,29,30]),(2,[2]),(3,[1,3,28,29,30]),(4,[1,3,4,28,29,30]),(5,[1,3,4,5,28,29,30]),(6,[3,4,5,31]),(7,[4]),(8,[2])]),(82,9,[(0,[0,3]),(1,[4])]),(85,7,[(0,[1,2]),(1,[3])]),(87,7,[(0,[1,2]),(1,[3])]),(88,9,[(0,[0,1]),(1,[4])]),(77,19,[(0,[0,1]),(1,[0,1,7,8]),(2,[0,1,7,8,9]),(3,[0,1,5,7,8]),(4,[0,1,5,7,8,16]),(5,[4]),(6,[0,1,7,8]),(7,[4])])]
noncomputable def B39_1:Base:=baseOf Pz (fun f i=>lkC f i K39) [(80,G80),(45,G45),(19,G19),(86,G86),(81,G81)] [] [(82,FF82)]
theorem hB39_1:BOk B39_1:=base_ok named_z ⟨s80,s45,s19,s86,s81,trivial⟩ trivial ⟨sFF82,trivial⟩
noncomputable def S39_1 (p1:(List Mv)) (p2:Int) (p3:Pos) (x:(Int)):St:=St.mk (AV.list ET.mv p1 Tk.fresh::AV.func 87 [] [AV.ptr 0 0]::(an 5 (AV.int .i64 p2::AV.int .i64 x::(an 10 [])))) (Hp.mk [(pc p3 [])] [0] [] 0 0 0)
noncomputable def O39_1 (p1:(List Mv)) (p2:Int) (p3:Pos):(Int) ⊕ (Int×Bool)→Out
  | (.inl (y))=>.ret (St.mk (an 4 (AV.int .i64 y::(an 14 []))) (Hp.mk [(pc p3 [])] [0] [] 0 0 0))
  | (.inr (y))=>.exit 0 (St.mk (AV.list ET.mv p1 Tk.fresh::AV.func 87 [] [AV.ptr 0 0]::(an 5 (AV.int .i64 p2::AV.int .i64 y.fst::AV.bool y.snd::(an 9 [])))) (Hp.mk [(pc p3 [])] [0] [] 0 0 0))
noncomputable def st39_1 (p1:(List Mv)) (p2:Int) (p3:Pos) (x:(Int)):Stp (Int) ((Int) ⊕ (Int×Bool)):=(bif decide (x < p2) then (bif N19 p3 (p1.getD x.toNat default) then (Stp.out (.inl ((x)))) else (Stp.go (wr .i64 (x+1)))) else (Stp.out (.inr ((x,decide (x < p2))))))
noncomputable def okL39_1 (p1:(List Mv)) (p2:Int) (p3:Pos) (x:(Int)):Bool:=(bif decide (x < p2) then (decide (0≤x)&&decide (x < Int.ofNat p1.length)&&(ok19 (p3) (p1.getD x.toNat default)&&true)) else true)
noncomputable def lp39_1 (p1:(List Mv)) (p2:Int) (p3:Pos) (x:(Int)):Option ((Int) ⊕ (Int×Bool)):=itl (fun x=>bif okL39_1 p1 p2 p3 x then st39_1 p1 p2 p3 x else .bad) many x
abbrev D39_1 {α:Type} (k:(List Mv)→Int→Pos→(Int)→α) (s:St):α:=wP s 0 fun q0=>k (tL (ET.mv) (tT s 0)) (tI (tT s 7)) q0 ((tI (tT s 8)))
theorem L39_1 (p1:(List Mv)) (p2:Int) (p3:Pos) (x:(Int)) (r:(Int) ⊕ (Int×Bool)) (h:lp39_1 p1 p2 p3 x=some r):LSpec Pz (bodL Pz 77 2) (S39_1 p1 p2 p3 x) (O39_1 p1 p2 p3 r):=LSpec.smd (m:=12) (fn:=77) hB39_1 (D39_1 fun _ _ _ x=>some x) (fun o=>match o with | .ret s=>some (.inl (tI (tT s 4))) | .exit 0 s=>some (.inr ((tI (tT s 8)),(tB (tT s 9)))) | _=>none) (fun r=>by cases r <;> rfl) (fun _=>by kernel_rfl) (fun _=>by kernel_rfl) (fun _=>by kernel_rfl) (fun _=>by kernel_rfl) many x r h
noncomputable def F39_1 (b:Code) (s:St):Tr Out:=D39_1 (fun p1 p2 p3 x=>lk2 b (bodL Pz 77 2) s (S39_1 p1 p2 p3 x) (lp39_1 p1 p2 p3 x) (O39_1 p1 p2 p3)) s
theorem sF39_1:∀ b,LSound Pz b (F39_1 b):=fun _ _ _ h=>lk2_ok (L39_1 _ _ _ _) h
noncomputable def B39:Base:=baseOf Pz (fun f i=>lkC f i K39) [(80,G80),(45,G45),(19,G19),(86,G86),(81,G81)] [(77,2,F39_1)] [(82,FF82)]
theorem hB39:BOk B39:=base_ok named_z ⟨s80,s45,s19,s86,s81,trivial⟩ ⟨sF39_1,trivial⟩ ⟨sFF82,trivial⟩
noncomputable def N39 (a:Pos):List Mv:=(bif N80 a.variant a.turn then (bif !N81 a a.turn then ([]) else (bif a.variant==4 then (bif isL ((lp39_1 (kept 85 a (N45 a)) (Int.ofNat (kept 85 a (N45 a)).length) a 0).getD default) then (bif decide (gl ((lp39_1 (kept 85 a (N45 a)) (Int.ofNat (kept 85 a (N45 a)).length) a 0).getD default) ≥ 0) then (kept 87 a (kept 85 a (N45 a))) else (kept 85 a (N45 a))) else (kept 85 a (N45 a))) else (kept 85 a (N45 a)))) else (bif a.variant==4 then (bif isL ((lp39_1 (kept 85 a (N45 a)) (Int.ofNat (kept 85 a (N45 a)).length) a 0).getD default) then (bif decide (gl ((lp39_1 (kept 85 a (N45 a)) (Int.ofNat (kept 85 a (N45 a)).length) a 0).getD default) ≥ 0) then (kept 87 a (kept 85 a (N45 a))) else (kept 85 a (N45 a))) else (kept 85 a (N45 a))) else (kept 85 a (N45 a))))
noncomputable def ok39 (a:Pos):Bool:=(ok80 (a.variant) (a.turn)&&(bif N80 a.variant a.turn then (ok81 (a) (a.turn)&&(bif !N81 a a.turn then true else (ok45 (a)&&(okKept 85 a (N45 a)&&(bif a.variant==4 then ((lp39_1 (kept 85 a (N45 a)) (Int.ofNat (kept 85 a (N45 a)).length) a 0).isSome&&bif isL ((lp39_1 (kept 85 a (N45 a)) (Int.ofNat (kept 85 a (N45 a)).length) a 0).getD default) then (bif decide (gl ((lp39_1 (kept 85 a (N45 a)) (Int.ofNat (kept 85 a (N45 a)).length) a 0).getD default) ≥ 0) then (okKept 87 a (kept 85 a (N45 a))&&true) else true) else true) else true))))) else (ok45 (a)&&(okKept 85 a (N45 a)&&(bif a.variant==4 then ((lp39_1 (kept 85 a (N45 a)) (Int.ofNat (kept 85 a (N45 a)).length) a 0).isSome&&bif isL ((lp39_1 (kept 85 a (N45 a)) (Int.ofNat (kept 85 a (N45 a)).length) a 0).getD default) then (bif decide (gl ((lp39_1 (kept 85 a (N45 a)) (Int.ofNat (kept 85 a (N45 a)).length) a 0).getD default) ≥ 0) then (okKept 87 a (kept 85 a (N45 a))&&true) else true) else true) else true)))))
theorem P39 (a:Pos) (h:ok39 a=true):PS Pz 39 [Pos.av a] ((dL .mv).res (N39 a)):=ps_sum (n:=14) hB39 (by kernel_rfl) (by kernel_rfl) (by kernel_rfl) h
noncomputable def G39:List AV→Tr AV:=g1 dPos (fun a=>gdv (ok39 a) ((dL .mv).res (N39 a)))
theorem s39:Sound Pz 39 G39:=sound1 fun a=>at_gd (P39 a)
noncomputable def K143:List (Nat×Nat×List (Nat×List Nat)):=[(88,9,[(0,[0,1]),(1,[4])]),(143,40,[(0,[1,2,16]),(1,[1,2,3,16]),(2,[1,2,4,5,16]),(3,[1,2,4,5,13]),(4,[2]),(5,[1,2,4,19]),(6,[2]),(7,[1,2,22]),(8,[2]),(9,[1,2,26]),(10,[2]),(11,[1,2,6]),(12,[1,2,7]),(13,[2,37]),(14,[2]),(15,[2])]),(77,19,[(0,[0,1]),(1,[0,1,7,8]),(2,[0,1,7,8,9]),(3,[0,1,5,7,8]),(4,[0,1,5,7,8,16]),(5,[4]),(6,[0,1,7,8]),(7,[4])]),(176,8,[(0,[0,1]),(1,[3])]),(177,14,[(0,[1,2,10,11,12]),(1,[3])])]
noncomputable def B143_1:Base:=baseOf Pz (fun f i=>lkC f i K143) [(39,G39),(106,G106),(172,G172)] [] []
theorem hB143_1:BOk B143_1:=base_ok named_z ⟨s39,s106,s172,trivial⟩ trivial trivial
noncomputable def S143_1 (p1:(List Mv)) (p2:Int) (p3:Pos) (p4:Int) (x:(Int)):St:=St.mk (AV.list ET.mv p1 Tk.fresh::AV.func 177 [] [AV.ptr 2 0]::(an 5 (AV.int .i64 p2::AV.int .i64 x::(an 10 [])))) (Hp.mk [(pc p3 []),[AV.int .u8 0,AV.int .u8 0],[AV.int .i64 p4]] [] [] 0 0 0)
noncomputable def O143_1 (p1:(List Mv)) (p2:Int) (p3:Pos) (p4:Int):(Int) ⊕ (Int×Bool)→Out
  | (.inl (y))=>.ret (St.mk (an 4 (AV.int .i64 y::(an 14 []))) (Hp.mk [(pc p3 []),[AV.int .u8 0,AV.int .u8 0],[AV.int .i64 p4]] [] [] 0 0 0))
  | (.inr (y))=>.exit 0 (St.mk (AV.list ET.mv p1 Tk.fresh::AV.func 177 [] [AV.ptr 2 0]::(an 5 (AV.int .i64 p2::AV.int .i64 y.fst::AV.bool y.snd::(an 9 [])))) (Hp.mk [(pc p3 []),[AV.int .u8 0,AV.int .u8 0],[AV.int .i64 p4]] [] [] 0 0 0))
noncomputable def st143_1 (p1:(List Mv)) (p2:Int) (p3:Pos) (p4:Int) (x:(Int)):Stp (Int) ((Int) ⊕ (Int×Bool)):=(bif decide (x < p2) then (bif wr .i64 (p1.getD x.toNat default).frm==p4 then (bif decide ((p1.getD x.toNat default).to ≥ 56) then (Stp.out (.inl ((x)))) else (Stp.go (wr .i64 (x+1)))) else (Stp.go (wr .i64 (x+1)))) else (Stp.out (.inr ((x,decide (x < p2))))))
noncomputable def okL143_1 (p1:(List Mv)) (p2:Int) (p3:Pos) (p4:Int) (x:(Int)):Bool:=(bif decide (x < p2) then (decide (0≤x)&&decide (x < Int.ofNat p1.length)&&true) else true)
noncomputable def lp143_1 (p1:(List Mv)) (p2:Int) (p3:Pos) (p4:Int) (x:(Int)):Option ((Int) ⊕ (Int×Bool)):=itl (fun x=>bif okL143_1 p1 p2 p3 p4 x then st143_1 p1 p2 p3 p4 x else .bad) many x
abbrev D143_1 {α:Type} (k:(List Mv)→Int→Pos→Int→(Int)→α) (s:St):α:=wP s 0 fun q0=>k (tL (ET.mv) (tT s 0)) (tI (tT s 7)) q0 (tI (tH s 2 0)) ((tI (tT s 8)))
theorem L143_1 (p1:(List Mv)) (p2:Int) (p3:Pos) (p4:Int) (x:(Int)) (r:(Int) ⊕ (Int×Bool)) (h:lp143_1 p1 p2 p3 p4 x=some r):LSpec Pz (bodL Pz 77 2) (S143_1 p1 p2 p3 p4 x) (O143_1 p1 p2 p3 p4 r):=LSpec.smd (m:=12) (fn:=77) hB143_1 (D143_1 fun _ _ _ _ x=>some x) (fun o=>match o with | .ret s=>some (.inl (tI (tT s 4))) | .exit 0 s=>some (.inr ((tI (tT s 8)),(tB (tT s 9)))) | _=>none) (fun r=>by cases r <;> rfl) (fun _=>by kernel_rfl) (fun _=>by kernel_rfl) (fun _=>by kernel_rfl) (fun _=>by kernel_rfl) many x r h
noncomputable def F143_1 (b:Code) (s:St):Tr Out:=D143_1 (fun p1 p2 p3 p4 x=>lk2 b (bodL Pz 77 2) s (S143_1 p1 p2 p3 p4 x) (lp143_1 p1 p2 p3 p4 x) (O143_1 p1 p2 p3 p4)) s
theorem sF143_1:∀ b,LSound Pz b (F143_1 b):=fun _ _ _ h=>lk2_ok (L143_1 _ _ _ _ _) h
noncomputable def B143:Base:=baseOf Pz (fun f i=>lkC f i K143) [(39,G39),(106,G106),(172,G172)] [(77,2,F143_1)] []
theorem hB143:BOk B143:=base_ok named_z ⟨s39,s106,s172,trivial⟩ ⟨sF143_1,trivial⟩ trivial
noncomputable def N143 (a:Pos):(Int×Int):=(bif decide (N106 a 0 6 ≥ 56) then (bif decide (N106 a 1 6 ≥ 56) then ⟨(3),(6)⟩ else (bif decide (N106 a 1 6 ≥ 56) then ⟨((N172 1 6).fst),((N172 1 6).snd)⟩ else (bif !decide (N106 a 0 6 ≥ 56) then ⟨(0),(0)⟩ else (bif a.turn==0 then ⟨((N172 0 6).fst),((N172 0 6).snd)⟩ else (bif isL ((lp143_1 (N39 a) (Int.ofNat (N39 a).length) a (N106 a 1 6) 0).getD default) then (bif decide (gl ((lp143_1 (N39 a) (Int.ofNat (N39 a).length) a (N106 a 1 6) 0).getD default) ≥ 0) then ⟨(0),(0)⟩ else ⟨((N172 0 6).fst),((N172 0 6).snd)⟩) else ⟨((N172 0 6).fst),((N172 0 6).snd)⟩))))) else (bif decide (N106 a 1 6 ≥ 56) then ⟨((N172 1 6).fst),((N172 1 6).snd)⟩ else (bif !decide (N106 a 0 6 ≥ 56) then ⟨(0),(0)⟩ else (bif a.turn==0 then ⟨((N172 0 6).fst),((N172 0 6).snd)⟩ else (bif isL ((lp143_1 (N39 a) (Int.ofNat (N39 a).length) a (N106 a 1 6) 0).getD default) then (bif decide (gl ((lp143_1 (N39 a) (Int.ofNat (N39 a).length) a (N106 a 1 6) 0).getD default) ≥ 0) then ⟨(0),(0)⟩ else ⟨((N172 0 6).fst),((N172 0 6).snd)⟩) else ⟨((N172 0 6).fst),((N172 0 6).snd)⟩)))))
noncomputable def ok143 (a:Pos):Bool:=(ok106 (a) (0) (6)&&(ok106 (a) (1) (6)&&(bif decide (N106 a 0 6 ≥ 56) then (bif decide (N106 a 1 6 ≥ 56) then true else (bif decide (N106 a 1 6 ≥ 56) then true else (bif !decide (N106 a 0 6 ≥ 56) then true else (bif a.turn==0 then true else (ok106 (a) (1) (6)&&(ok39 (a)&&((lp143_1 (N39 a) (Int.ofNat (N39 a).length) a (N106 a 1 6) 0).isSome&&bif isL ((lp143_1 (N39 a) (Int.ofNat (N39 a).length) a (N106 a 1 6) 0).getD default) then true else true))))))) else (bif decide (N106 a 1 6 ≥ 56) then true else (bif !decide (N106 a 0 6 ≥ 56) then true else (bif a.turn==0 then true else (ok106 (a) (1) (6)&&(ok39 (a)&&((lp143_1 (N39 a) (Int.ofNat (N39 a).length) a (N106 a 1 6) 0).isSome&&bif isL ((lp143_1 (N39 a) (Int.ofNat (N39 a).length) a (N106 a 1 6) 0).getD default) then true else true)))))))))
theorem P143 (a:Pos) (h:ok143 a=true):PS Pz 143 [Pos.av a] ((dR .u8 .u8).res (N143 a)):=ps_sum (n:=14) hB143 (by kernel_rfl) (by kernel_rfl) (by kernel_rfl) h
noncomputable def G143:List AV→Tr AV:=g1 dPos (fun a=>gdv (ok143 a) ((dR .u8 .u8).res (N143 a)))
theorem s143:Sound Pz 143 G143:=sound1 fun a=>at_gd (P143 a)
noncomputable def K38:List (Nat×Nat×List (Nat×List Nat)):=[(38,25,[(0,[1,2,8,9,10]),(1,[1,2,11]),(2,[2]),(3,[1,2,3]),(4,[1,2,3,19]),(5,[2]),(6,[2])])]
noncomputable def B38:Base:=baseOf Pz (fun f i=>lkC f i K38) [(79,G79),(138,G138),(139,G139),(140,G140),(141,G141),(142,G142),(143,G143)] [] []
theorem hB38:BOk B38:=base_ok named_z ⟨s79,s138,s139,s140,s141,s142,s143,trivial⟩ trivial trivial
noncomputable def N38 (a:Pos):(Int×Int):=(bif decide (a.variant ≥ 9) then ⟨(0),(0)⟩ else (bif decide (a.turn > 1) then ⟨(0),(0)⟩ else (bif a.variant==Int.ofNat 0 then ⟨(0),(0)⟩ else (bif a.variant==Int.ofNat 1 then ⟨(0),(0)⟩ else (bif a.variant==Int.ofNat 2 then ⟨(0),(0)⟩ else (bif a.variant==Int.ofNat 3 then ⟨((N138 a).fst),((N138 a).snd)⟩ else (bif a.variant==Int.ofNat 4 then ⟨((N142 a).fst),((N142 a).snd)⟩ else (bif a.variant==Int.ofNat 5 then ⟨((N139 a).fst),((N139 a).snd)⟩ else (bif a.variant==Int.ofNat 6 then ⟨((N140 a).fst),((N140 a).snd)⟩ else (bif a.variant==Int.ofNat 7 then ⟨((N141 a).fst),((N141 a).snd)⟩ else ⟨((N143 a).fst),((N143 a).snd)⟩))))))))))
noncomputable def ok38 (a:Pos):Bool:=(bif decide (a.variant ≥ 9) then true else (bif decide (a.turn > 1) then true else (decide (0≤a.variant)&&decide (a.variant < Int.ofNat 9)&&(bif a.variant==Int.ofNat 0 then true else (bif a.variant==Int.ofNat 1 then true else (bif a.variant==Int.ofNat 2 then true else (bif a.variant==Int.ofNat 3 then (ok138 (a)&&true) else (bif a.variant==Int.ofNat 4 then (ok142 (a)&&true) else (bif a.variant==Int.ofNat 5 then (ok139 (a)&&true) else (bif a.variant==Int.ofNat 6 then (ok140 (a)&&true) else (bif a.variant==Int.ofNat 7 then (ok141 (a)&&true) else (a.variant==Int.ofNat 8&&(ok143 (a)&&true)))))))))))))
theorem P38 (a:Pos) (h:ok38 a=true):PS Pz 38 [Pos.av a] ((dR .u8 .u8).res (N38 a)):=ps_sum (n:=14) hB38 (by kernel_rfl) (by kernel_rfl) (by kernel_rfl) h
noncomputable def G38:List AV→Tr AV:=g1 dPos (fun a=>gdv (ok38 a) ((dR .u8 .u8).res (N38 a)))
theorem s38:Sound Pz 38 G38:=sound1 fun a=>at_gd (P38 a)
noncomputable def K18:List (Nat×Nat×List (Nat×List Nat)):=[(18,9,[(0,[1]),(1,[1,6]),(2,[2]),(3,[2])])]
noncomputable def B18:Base:=baseOf Pz (fun f i=>lkC f i K18) [(38,G38),(39,G39)] [] []
theorem hB18:BOk B18:=base_ok named_z ⟨s38,s39,trivial⟩ trivial trivial
noncomputable def N18 (a:Pos):List Mv:=(bif (N38 a).fst != 0 then ([]) else (N39 a))
noncomputable def ok18 (a:Pos):Bool:=(ok38 (a)&&(bif (N38 a).fst != 0 then true else (ok39 (a)&&true)))
theorem P18 (a:Pos) (h:ok18 a=true):PS Pz 18 [Pos.av a] ((dL .mv).res (N18 a)):=ps_sum (n:=14) hB18 (by kernel_rfl) (by kernel_rfl) (by kernel_rfl) h
noncomputable def G18:List AV→Tr AV:=g1 dPos (fun a=>gdv (ok18 a) ((dL .mv).res (N18 a)))
theorem s18:Sound Pz 18 G18:=sound1 fun a=>at_gd (P18 a)
end Kz
end
section
namespace Kz
open Go
set_option maxRecDepth 100000
theorem mv_eq_iff (a b:Mv):(a.frm==b.frm&&(a.to==b.to&&(a.pro==b.pro&&(a.drp==b.drp&&(a.cas==b.cas&&true)))))=decide (a=b):=by
  rw [Bool.eq_iff_iff]
  cases a; cases b
  simp
theorem lp93 (l:List Mv) (b:Mv) (hl:l.length≤1000000):∃ r,lp93_1 l (l.length:Int) b 0=some r ∧
    match r with
    | .inl i=>0≤i∧i < l.length∧b ∈ l
    | .inr _=>b ∉ l:=by
  refine lp_many (I:=fun x=>0≤x∧x≤(l.length:Int)∧b ∉ l.take x.toNat) (μ:=fun x=>((l.length:Int) - x).toNat) ?_ _ ⟨by simp,by simp,by simp⟩ (by simp; omega)
  rintro n ⟨h0,h1,h2⟩
  by_cases hc:n < l.length
  · have hlt:n.toNat < l.length:=by omega
    refine ⟨c_true (fun _=>a_true (by simp [h0]; exact hc) fun _=>rfl) fun _=>rfl,c_ind (fun _ => ?_) fun h=>absurd h (by simpa using hc)⟩
    have he:eqOut BinOp.eql (b.frm==(l.getD n.toNat default).frm&&(b.to==(l.getD n.toNat default).to&&(b.pro==(l.getD n.toNat default).pro&&(b.drp==(l.getD n.toNat default).drp&&(b.cas==(l.getD n.toNat default).cas&&true)))))=decide (b=l.getD n.toNat default):=mv_eq_iff b _
    rw [he]
    refine c_ind (fun h => ?_) fun h => ?_
    · have h:b=l.getD n.toNat default:=by simpa using h
      exact ⟨h0,hc,by rw [h]; exact getD_mem hlt⟩
    · have h:¬ b=l.getD n.toNat default:=by simpa using h
      have hw:wr .i64 (n+1)=n+1:=wi64 (by omega) (by omega)
      rw [hw]
      refine ⟨⟨by omega,by omega,?_⟩,by dsimp only; omega⟩
      rw [show (n+1).toNat=n.toNat+1 by omega,List.take_succ_eq_append_getElem hlt]
      rw [List.getD_eq_getElem?_getD,List.getElem?_eq_getElem hlt] at h
      simp only [List.mem_append,List.mem_singleton,not_or]
      exact ⟨h2,h⟩
  · refine ⟨c_true (fun h=>absurd h (by simpa using hc)) fun _=>rfl,c_ind (fun h=>absurd h (by simpa using hc)) fun _ => ?_⟩
    show b ∉ l
    rw [List.take_of_length_le (by omega)] at h2
    exact h2
theorem t93 {l:List Mv} {b:Mv} (hl:l.length≤1000000):ok93 l b=true:=by
  refine a_true (of_some (lp93 l b hl)).1 fun _ => ?_
  refine c_true (fun _=>rfl) fun _=>rfl
theorem t41 {l:List Mv} {b:Mv} (hl:l.length≤1000000):ok41 l b=true:=a_true (t93 hl) fun _=>rfl
theorem N41_eq {l:List Mv} {b:Mv} (hl:l.length≤1000000):N41 l b=decide (b ∈ l):=by
  have h:=(of_some (lp93 l b hl)).2
  unfold N41 N93
  revert h
  show (match (lp93_1 l (l.length:Int) b 0).getD default with | .inl i=>0≤i∧i < (l.length:Int)∧b ∈ l | .inr _=>b ∉ l)→decide ((bif isL ((lp93_1 l (l.length:Int) b 0).getD default) then gl ((lp93_1 l (l.length:Int) b 0).getD default) else -1) ≥ 0)=decide (b ∈ l)
  generalize (lp93_1 l (l.length:Int) b 0).getD default=r
  intro h
  cases r with
  | inl i =>
    have h':0≤i∧i < (l.length:Int)∧b ∈ l:=h
    have h3:=h'.2.2
    simp [isL,gl,h'.1,h3]
  | inr y =>
    have h':b ∉ l:=h
    simp [isL,h']
theorem t40 {p:Pos} (hv:0≤p.variant) (m:Mv):ok40 p m=true:=by
  have hl:=N90_len hv
  unfold ok40
  refine a_true (t89 p) fun _=>c_true (fun _=>rfl) fun _=>a_true (t90 hv) fun _=>a_true (t41 (by omega)) fun _=>c_true (fun _=>rfl) fun h=>c_true (fun _=>rfl) fun _=>a_true ?_ fun _=>rfl
  rw [N41_eq (by omega)] at h
  have hm:m ∈ N90 p:=by simpa using h
  obtain ⟨_,f,t,h1,h2,h3,_⟩:=N90_mem hv hm
  rw [h3]
  simp
  omega
theorem t19 {p:Pos} (hv:0≤p.variant) (m:Mv):ok19 p m=true:=a_true (t40 hv m) fun _=>rfl
theorem t150 {a:Int} (ha:0≤a):ok150 a=true:=by
  unfold ok150
  refine c_true (fun _=>rfl) fun h => ?_
  have h:a < 9:=by simpa using h
  have:a=0∨a=1∨a=2∨a=3∨a=4∨a=5∨a=6∨a=7∨a=8:=by omega
  rcases this with rfl | rfl | rfl | rfl | rfl | rfl | rfl | rfl | rfl <;> rfl
theorem t147 {a:Int} (ha:0≤a):ok147 a=true:=by
  unfold ok147
  refine c_true (fun _=>rfl) fun h => ?_
  have h:a < 9:=by simpa using h
  have:a=0∨a=1∨a=2∨a=3∨a=4∨a=5∨a=6∨a=7∨a=8:=by omega
  rcases this with rfl | rfl | rfl | rfl | rfl | rfl | rfl | rfl | rfl <;> rfl
theorem N148_eq {t:Int} (h0:0≤t) (h1:t≤1):N148 t=56 * t:=by
  unfold N148
  rw [wi64 (n:=t) (by omega) (by omega),wi64 (by omega) (by omega)]
theorem lp149a (p1:Pos) (p2:List Int) (p3:Pos) (p4 p5:BitVec 64) (p6 p7 x:Int) (hx : -200≤x) (hx2:x≤201) (h6:p6≤200) (h7:p7≤200):(lp149_1 p1 p2 p3 p4 p5 p6 p7 x).isSome=true:=by
  refine (of_some (Q:=fun _=>True) (lp_many (I:=fun x => -200≤x∧x≤201) (μ:=fun x=>(201 - x).toNat) ?_ x ⟨hx,hx2⟩ (by omega))).1
  rintro n ⟨h0,h1⟩
  refine ⟨rfl,c_ind (fun hc=>c_ind (fun _=>trivial) fun _ => ?_) fun hc=>trivial⟩
  have hc:n≤if p7 > p6 then p7 else p6:=by simpa using hc
  have hn:n≤200:=by split at hc <;> omega
  rw [wi64 (n:=n+1) (by omega) (by omega)]
  exact ⟨⟨by omega,by omega⟩,by dsimp only; omega⟩
theorem lp149b (p1:Pos) (p2:List Int) (p3:Pos) (p4 p5:BitVec 64) (p6 p7 p8 p9 x:Int) (hx : -200≤x) (hx2:x≤201) (h6:p8≤200) (h7:p9≤200):(lp149_2 p1 p2 p3 p4 p5 p6 p7 p8 p9 x).isSome=true:=by
  refine (of_some (Q:=fun _=>True) (lp_many (I:=fun x => -200≤x∧x≤201) (μ:=fun x=>(201 - x).toNat) ?_ x ⟨hx,hx2⟩ (by omega))).1
  rintro n ⟨h0,h1⟩
  refine ⟨rfl,c_ind (fun hc=>c_ind (fun _=>trivial) fun _ => ?_) fun hc=>trivial⟩
  have hc:n≤if p9 > p8 then p9 else p8:=by simpa using hc
  have hn:n≤200:=by split at hc <;> omega
  rw [wi64 (n:=n+1) (by omega) (by omega)]
  exact ⟨⟨by omega,by omega⟩,by dsimp only; omega⟩
theorem lp149c (p1:Pos) (p2:List Int) (p3:Pos) (p4 p5:BitVec 64) (p6 p7 p8 p9 p10 p11 x:Int) (hx : -200≤x) (hx2:x≤201) (h6:p10≤200) (h7:p11≤200):(lp149_3 p1 p2 p3 p4 p5 p6 p7 p8 p9 p10 p11 x).isSome=true:=by
  refine (of_some (Q:=fun _=>True) (lp_many (I:=fun x => -200≤x∧x≤201) (μ:=fun x=>(201 - x).toNat) ?_ x ⟨hx,hx2⟩ (by omega))).1
  rintro n ⟨h0,h1⟩
  refine ⟨?_,c_ind (fun hc => ?_) fun hc=>trivial⟩
  · unfold okL149_3
    repeat' (first | with_reducible rfl | with_reducible exact t155 _ | with_reducible exact t159 _ _ _ | refine a_true ?_ (fun _ => ?_) | refine c_true (fun _ => ?_) (fun _ => ?_))
  · have hc:n≤if p11 > p10 then p11 else p10:=by simpa using hc
    have hn:n≤200:=by split at hc <;> omega
    rw [wi64 (n:=n+1) (by omega) (by omega)]
    have go:Nxt (fun x:Int => -200≤x∧x≤201) (fun _:Int ⊕ (Int×Bool)=>True) (fun x=>(201 - x).toNat) (201 - n).toNat (.go (n+1)):=⟨⟨by omega,by omega⟩,by dsimp only; omega⟩
    exact c_ind (fun _=>c_ind (fun _=>go) fun _=>c_ind (fun _=>trivial) fun _=>go) fun _=>c_ind (fun _=>trivial) fun _=>go
theorem getD_in {l:List Int} {a b d:Int} (h:∀ x ∈ l,a≤x∧x≤b) (hd:a≤d∧d≤b) (i:Nat):a≤l.getD i d∧l.getD i d≤b:=by
  by_cases hi:i < l.length
  · exact h _ (getD_mem hi)
  · rw [List.getD_eq_getElem?_getD,List.getElem?_eq_none (by omega)]
    exact hd
section
variable {p:Pos} (hp:PosIn p) (ht:p.turn≤1)
include hp ht
theorem N181_in {b c:Int}:0≤(N181 p b c).1∧(N181 p b c).1 < 64:=by
  have hr:=getD_in hp.r0 (d:=0) (by omega) (scale 2 p.turn+scale 1 c).toNat
  have h0:=hp.t0
  unfold N181
  rw [N148_eq h0 ht]
  generalize p.rooks.getD (scale 2 p.turn+scale 1 c).toNat 0=r at hr
  rw [wi64 (n:=r) (by omega) (by omega)]
  refine c_ind (P:=fun x:Int×Bool=>0≤x.1∧x.1 < 64) (fun _=>by simp) fun h1=>c_ind (P:=fun x:Int×Bool=>0≤x.1∧x.1 < 64) (fun _=>by simp) fun h2 => ?_
  have h1:0≤r:=by simpa using h1
  have h2:r≤7:=by simpa using h2
  rw [wi64 (n:=56 * p.turn+r) (by omega) (by omega)]
  have:0≤56 * p.turn+r∧56 * p.turn+r < 64:=by omega
  exact c_ind (P:=fun x:Int×Bool=>0≤x.1∧x.1 < 64) (fun _=>c_ind (P:=fun x:Int×Bool=>0≤x.1∧x.1 < 64) (fun _=>this) fun _=>this) fun _=>this
theorem t181 {b c:Int} (hc:c=0∨c=1):ok181 p b c=true:=by
  have hr:=getD_in hp.r0 (d:=0) (by omega) (scale 2 p.turn+scale 1 c).toNat
  have h0:=hp.t0
  unfold ok181
  rw [N148_eq h0 ht]
  generalize p.rooks.getD (scale 2 p.turn+scale 1 c).toNat 0=r at hr
  rw [wi64 (n:=r) (by omega) (by omega)]
  refine a_true (by simp; omega) fun _=>a_true (by simp; omega) fun _=>c_true (fun _=>rfl) fun h1=>c_true (fun _=>rfl) fun h2=>a_true ?_ fun _=>rfl
  have h1:0≤r:=by simpa using h1
  have h2:r≤7:=by simpa using h2
  rw [wi64 (n:=56 * p.turn+r) (by omega) (by omega)]
  simp
  omega
theorem t149 {b c:Int} (hb0:0≤b) (hb1:b < 64) (hc:c=0∨c=1):ok149 p b c=true:=by
  have h0:=hp.t0
  have hr:=N181_in hp ht (b:=b) (c:=c)
  have g0:0≤(List.take 2 (List.drop (c.toNat * 2) (li [6,5,2,3]))).getD 0 0∧(List.take 2 (List.drop (c.toNat * 2) (li [6,5,2,3]))).getD 0 0≤6:=by rcases hc with rfl | rfl <;> decide
  have g1:0≤(List.take 2 (List.drop (c.toNat * 2) (li [6,5,2,3]))).getD 1 0∧(List.take 2 (List.drop (c.toNat * 2) (li [6,5,2,3]))).getD 1 0≤6:=by rcases hc with rfl | rfl <;> decide
  unfold ok149
  rw [N148_eq h0 ht]
  generalize (List.take 2 (List.drop (c.toNat * 2) (li [6,5,2,3]))).getD 0 0=x0 at g0
  generalize (List.take 2 (List.drop (c.toNat * 2) (li [6,5,2,3]))).getD 1 0=x1 at g1
  have w0:wr .i64 (56 * p.turn+x0)=56 * p.turn+x0:=wi64 (by omega) (by omega)
  have w1:wr .i64 (56 * p.turn+x1)=56 * p.turn+x1:=wi64 (by omega) (by omega)
  rw [w0,w1]
  refine a_true (t181 hp ht hc) fun _=>c_true (fun _=>rfl) fun _=>a_true (by rcases hc with rfl | rfl <;> decide) fun _=>a_true (by simp; omega) fun _=>a_true (by simp; omega) fun _=>a_true (t151 _) fun _=>a_true (t66 _ _ _) fun _ =>
    a_true (lp149a _ _ _ _ _ _ _ _ ?_ ?_ ?_ ?_) fun _=>c_true (fun _=>rfl) fun _=>a_true (lp149b _ _ _ _ _ _ _ _ _ _ ?_ ?_ ?_ ?_) fun _=>c_true (fun _=>rfl) fun _=>a_true (lp149c _ _ _ _ _ _ _ _ _ _ _ _ ?_ ?_ ?_ ?_) fun _=>c_true (fun _=>rfl) fun _=>rfl
  all_goals (try split) <;> omega
omit ht in
theorem t97:ok97 p=true:=by
  unfold ok97
  refine c_true (fun _=>rfl) fun h => ?_
  have ht:p.turn≤1:=by simpa using h
  have hk:=N106_lo p p.turn 6
  refine a_true (t147 hp.v0) fun _=>c_true (fun _=>rfl) fun _=>a_true (t106 _ _ _) fun _=>c_true (fun _=>rfl) fun hk0=>c_true (fun _=>rfl) fun _ => ?_
  have hk0:0≤N106 p p.turn 6:=by simpa using hk0
  have a1:ok149 p (N106 p p.turn 6) 1=true:=t149 hp ht hk0 hk.2 (.inr rfl)
  have a0:ok149 p (N106 p p.turn 6) 0=true:=t149 hp ht hk0 hk.2 (.inl rfl)
  repeat' (first | with_reducible rfl | with_reducible exact a1 | with_reducible exact a0 | refine a_true ?_ (fun _ => ?_) | refine c_true (fun _ => ?_) (fun _ => ?_) | decide)
end
section
variable {p:Pos} (hp:PosIn p)
include hp
theorem N149_mem (ht:p.turn≤1) {b c:Int} (hb0:0≤b) (hb1:b < 64):(N149 p b c).2=true→(N149 p b c).1.frm=b∧0≤(N149 p b c).1.to∧(N149 p b c).1.to < 64∧(N149 p b c).1.cas=true∧(N149 p b c).1.drp=0∧(N149 p b c).1.pro=0∧(N149 p b c).1.to=(N181 p b c).1∧(N181 p b c).2=true:=by
  have hr:=N181_in hp ht (b:=b) (c:=c)
  have wb:wr .i8 b=b:=wi8 (by omega) (by omega)
  have wr':wr .i8 (N181 p b c).1=(N181 p b c).1:=wi8 (by omega) (by omega)
  have ci:=fun {d:Bool} {x y:Mv×Bool} => @c_ind (Mv×Bool) (fun x=>x.2=true→x.1.frm=b∧0≤x.1.to∧x.1.to < 64∧x.1.cas=true∧x.1.drp=0∧x.1.pro=0∧x.1.to=(N181 p b c).1∧(N181 p b c).2=true) d x y
  show (fun x:Mv×Bool=>x.2=true→x.1.frm=b∧0≤x.1.to∧x.1.to < 64∧x.1.cas=true∧x.1.drp=0∧x.1.pro=0∧x.1.to=(N181 p b c).1∧(N181 p b c).2=true) (N149 p b c)
  unfold N149
  rw [wb,wr']
  refine ci (fun _ h=>by cases h) fun h1=>ci (fun _ h=>by cases h) fun _=>ci (fun _ h=>by cases h) fun _=>ci (fun _ h=>by cases h) fun _ _ => ?_
  exact ⟨rfl,hr.1,hr.2,rfl,rfl,rfl,rfl,by simpa using h1⟩
theorem N97_len:(N97 p).length≤2:=by
  unfold N97
  repeat' (first | exact Nat.zero_le _ | (simp; done) | refine c_ind (P:=fun l:List Mv=>l.length≤2) (fun _ => ?_) (fun _ => ?_))
theorem N97_mem {m:Mv} (h:m ∈ N97 p):p.turn≤1∧0≤m.frm∧m.frm < 64∧0≤m.to∧m.to < 64∧m.cas=true∧m.drp=0∧m.pro=0:=by
  revert h
  unfold N97
  have hk:=N106_lo p p.turn 6
  refine c_ind (P:=fun l:List Mv=>m ∈ l→_) (fun _ h=>by cases h) fun h => ?_
  have ht:p.turn≤1:=by simpa using h
  refine c_ind (P:=fun l:List Mv=>m ∈ l→_) (fun _ h=>by cases h) fun _=>c_ind (P:=fun l:List Mv=>m ∈ l→_) (fun _ h=>by cases h) fun hk0=>c_ind (P:=fun l:List Mv=>m ∈ l→_) (fun _ h=>by cases h) fun _ => ?_
  have hk0:0≤N106 p p.turn 6:=by simpa using hk0
  have key:∀ c,(N149 p (N106 p p.turn 6) c).2=true→m=(N149 p (N106 p p.turn 6) c).1→p.turn≤1∧0≤m.frm∧m.frm < 64∧0≤m.to∧m.to < 64∧m.cas=true∧m.drp=0∧m.pro=0:=by
    intro c h1 h2
    obtain ⟨a1,a2,a3,a4,a5,a6,_⟩:=N149_mem hp ht hk0 hk.2 h1
    rw [h2]
    exact ⟨ht,by omega,by omega,a2,a3,a4,a5,a6⟩
  refine c_ind (P:=fun l:List Mv=>m ∈ l→_) (fun h1=>c_ind (P:=fun l:List Mv=>m ∈ l→_) (fun h2 h => ?_) fun _ h => ?_) fun _=>c_ind (P:=fun l:List Mv=>m ∈ l→_) (fun h2 h => ?_) fun _ h=>by cases h
  · simp only [List.nil_append,List.mem_append,List.mem_singleton] at h
    rcases h with h | h
    · exact key _ h1 h
    · exact key _ h2 h
  · simp only [List.nil_append,List.mem_singleton] at h
    exact key _ h1 h
  · simp only [List.nil_append,List.mem_singleton] at h
    exact key _ h2 h
end
theorem lp98a (k p2:Int) (l:List Int) (p5:Pos) (p6:Nat) (out:List Mv) (hl:l.length≤64) (hin:∀ s ∈ l,0≤s∧s < 64) (ho:out.length≤1000000) :
    ∃ r,lp98_2 k p2 l (Int.ofNat l.length) p5 p6 (out,0)=some r∧r.1=out++l.flatMap fun s=>[⟨s,s,0,k,false⟩]:=by
  refine lp_many (I:=fun x=>0≤x.2∧x.2≤(l.length:Int)∧x.1=out++(l.take x.2.toNat).flatMap (fun s=>[⟨s,s,0,k,false⟩])) (μ:=fun x=>((l.length:Int) - x.2).toNat) ?_ _ ⟨by simp,by simp,by simp⟩ (by simp; omega)
  rintro ⟨o,n⟩ ⟨h0,h1,h2⟩
  simp only at h0 h1 h2
  have hlen:o.length≤out.length+64:=by
    have:=flat_le (l.take n.toNat) (fun s=>[(⟨s,s,0,k,false⟩:Mv)]) 1 fun _ _=>by simp
    have h5:(l.take n.toNat).length≤64:=by rw [List.length_take]; omega
    rw [h2,List.length_append]
    omega
  by_cases hc:n < l.length
  · have hf:=hin _ (getD_mem (d:=default) (show n.toNat < l.length by omega))
    refine ⟨c_true (fun _=>a_true (by simp [h0]; omega) fun _=>a_true (by simp; omega) fun _=>rfl) fun _=>rfl,c_ind (fun _ => ?_) fun h=>absurd h (by simpa using hc)⟩
    have hw:wr .i64 (n+1)=n+1:=wi64 (by omega) (by omega)
    rw [hw,wi8 (n:=l.getD n.toNat default) (by omega) (by omega)]
    refine ⟨⟨by simp; omega,by simp; omega,?_⟩,by simp; omega⟩
    simp only
    rw [show (n+1).toNat=n.toNat+1 by omega,take_next default _ (by omega),h2,List.append_assoc]
  · refine ⟨c_true (fun h=>absurd h (by simpa using hc)) fun _=>rfl,c_ind (fun h=>absurd h (by simpa using hc)) fun _ => ?_⟩
    show o=_
    rw [h2,List.take_of_length_le (by omega)]
noncomputable def drops (p:Pos) (k:Int):List Mv :=
  bif p.pockets.getD (scale 6 p.turn+scale 1 k).toNat 0==0 then [] else bif k==1 then (sqs (~~~N151 p&&&72057594037927680#64) 64).flatMap fun s=>[⟨s,s,0,k,false⟩] else (sqs (~~~N151 p) 64).flatMap fun s=>[⟨s,s,0,k,false⟩]
theorem drops_len (p:Pos) (k:Int):(drops p k).length≤64:=by
  unfold drops
  refine c_ind (P:=fun l:List Mv=>l.length≤64) (fun _=>by simp) fun _=>c_ind (P:=fun l:List Mv=>l.length≤64) (fun _ => ?_) fun _ => ?_
  · have:=sqs_len (~~~N151 p&&&72057594037927680#64) 64
    have h2:=flat_le (sqs (~~~N151 p&&&72057594037927680#64) 64) (fun s=>[(⟨s,s,0,k,false⟩:Mv)]) 1 fun _ _=>by simp
    omega
  · have:=sqs_len (~~~N151 p) 64
    have h2:=flat_le (sqs (~~~N151 p) 64) (fun s=>[(⟨s,s,0,k,false⟩:Mv)]) 1 fun _ _=>by simp
    omega
theorem lp98b {p:Pos} (h0:0≤p.turn) (h1:p.turn≤1):∃ r,lp98_3 p 0 ([],0)=some r∧r.1=[1,2,3,4,5].flatMap (drops p):=by
  refine lp_many (I:=fun x=>0≤x.2∧x.2≤5∧x.1=(([1,2,3,4,5]:List Int).take x.2.toNat).flatMap (drops p)∧(x.1.length:Int)≤64 * x.2) (μ:=fun x=>(5 - x.2).toNat) ?_ _ ⟨by simp,by simp,by simp,by simp⟩ (by simp)
  rintro ⟨o,n⟩ ⟨g0,g1,g2,g3⟩
  simp only at g0 g1 g2 g3
  by_cases hc:n < 5
  · have hw:wr .i64 (n+1)=n+1:=wi64 (by omega) (by omega)
    have hw8:wr .u8 (n+1)=n+1:=wu8 (by omega) (by omega)
    have s1:=sqs_len (~~~N151 p&&&72057594037927680#64) 64
    have s2:=sqs_len (~~~N151 p) 64
    have d1:=of_some (lp98a (n+1) n (sqs (~~~N151 p&&&72057594037927680#64) 64) p 0 o s1 (fun _ h=>sqs_in h) (by omega))
    have d2:=of_some (lp98a (n+1) n (sqs (~~~N151 p) 64) p 0 o s2 (fun _ h=>sqs_in h) (by omega))
    have e:([1,2,3,4,5]:List Int).getD n.toNat 0=n+1:=by
      have:n=0∨n=1∨n=2∨n=3∨n=4:=by omega
      rcases this with rfl | rfl | rfl | rfl | rfl <;> rfl
    have hs:Nxt (fun x:List Mv×Int=>0≤x.2∧x.2≤5∧x.1=(([1,2,3,4,5]:List Int).take x.2.toNat).flatMap (drops p)∧x.1.length≤64 * x.2) (fun r:List Mv×Int×Bool=>r.1=[1,2,3,4,5].flatMap (drops p)) (fun x=>(5 - x.2).toNat) (5 - n).toNat (.go (o++drops p (n+1),n+1)):=by
      have hq:=drops_len p (n+1)
      refine ⟨⟨by simp; omega,by simp; omega,?_,?_⟩,by simp; omega⟩
      · simp only
        rw [show (n+1).toNat=n.toNat+1 by omega,take_next 0 _ (by simp; omega),g2,e]
      · simp only [List.length_append]
        omega
    refine ⟨c_true (fun _ => ?_) fun _=>rfl,c_ind (fun _ => ?_) fun h=>absurd h (by simpa using hc)⟩
    · rw [hw,hw8,N65_eq,N65_eq]
      refine a_true (by simp; omega) fun _=>a_true (by simp; omega) fun _=>c_true (fun _=>rfl) fun _=>a_true (t151 _) fun _=>c_true (fun _=>a_true (t65 _) fun _=>a_true d1.1 fun _=>rfl) fun _=>a_true (t65 _) fun _=>a_true d2.1 fun _=>rfl
    · rw [hw,hw8,N65_eq,N65_eq]
      refine c_ind (fun h => ?_) fun h=>c_ind (fun h' => ?_) fun h' => ?_
      · have e:drops p (n+1)=[]:=by unfold drops; rw [h]; rfl
        rw [e,List.append_nil] at hs; exact hs
      · have e:drops p (n+1)=(sqs (~~~N151 p&&&72057594037927680#64) 64).flatMap fun s=>[⟨s,s,0,n+1,false⟩]:=by unfold drops; rw [h,h']; rfl
        rw [e] at hs; rw [d1.2]; exact hs
      · have e:drops p (n+1)=(sqs (~~~N151 p) 64).flatMap fun s=>[⟨s,s,0,n+1,false⟩]:=by unfold drops; rw [h,h']; rfl
        rw [e] at hs; rw [d2.2]; exact hs
  · refine ⟨c_true (fun h=>absurd h (by simpa using hc)) fun _=>rfl,c_ind (fun h=>absurd h (by simpa using hc)) fun _ => ?_⟩
    have:n=5:=by omega
    subst this
    exact g2
theorem t98 {p:Pos} (hv:0≤p.variant) (h0:0≤p.turn):ok98 p=true:=by
  unfold ok98
  refine c_true (fun _=>rfl) fun h=>a_true (t150 hv) fun _=>c_true (fun _=>rfl) fun _=>a_true ?_ fun _=>rfl
  exact (of_some (lp98b h0 (by simpa using h))).1
theorem N98_eq {p:Pos} (h0:0≤p.turn):N98 p=bif decide (p.turn > 1) then [] else bif !N150 p.variant then [] else [1,2,3,4,5].flatMap (drops p):=by
  unfold N98
  by_cases h:p.turn≤1
  · rw [(of_some (lp98b h0 h)).2]
  · rw [show decide (p.turn > 1)=true by simp; omega]; rfl
theorem N98_len {p:Pos} (h0:0≤p.turn):(N98 p).length≤320:=by
  rw [N98_eq h0]
  refine c_ind (P:=fun l:List Mv=>l.length≤320) (fun _=>by simp) fun _=>c_ind (P:=fun l:List Mv=>l.length≤320) (fun _=>by simp) fun _ => ?_
  have:=flat_le [1,2,3,4,5] (drops p) 64 fun k _=>drops_len p k
  simpa using this
theorem N98_mem {p:Pos} (h0:0≤p.turn) {m:Mv} (h:m ∈ N98 p):p.turn≤1∧N150 p.variant=true∧m.frm=m.to∧0≤m.to∧m.to < 64∧m.cas=false∧1≤m.drp∧m.drp≤5∧m.pro=0:=by
  rw [N98_eq h0] at h
  revert h
  refine c_ind (P:=fun l:List Mv=>m ∈ l→_) (fun _ h=>by cases h) fun h1=>c_ind (P:=fun l:List Mv=>m ∈ l→_) (fun _ h=>by cases h) fun h2 h => ?_
  obtain ⟨k,hk,hm⟩:=List.mem_flatMap.1 h
  have hk':1≤k∧k≤5:=by simp at hk; omega
  have key:∀ b:BitVec 64,m ∈ (sqs b 64).flatMap (fun s=>[(⟨s,s,0,k,false⟩:Mv)])→m.frm=m.to∧0≤m.to∧m.to < 64∧m.cas=false∧1≤m.drp∧m.drp≤5∧m.pro=0:=by
    intro b hb
    obtain ⟨s,hs,hm⟩:=List.mem_flatMap.1 hb
    have:=sqs_in hs
    rw [List.mem_singleton.1 hm]
    exact ⟨rfl,this.1,this.2,rfl,hk'.1,hk'.2,rfl⟩
  refine ⟨by simpa using h1,by simpa using h2,?_⟩
  revert hm
  unfold drops
  exact c_ind (P:=fun l:List Mv=>m ∈ l→_) (fun _ h=>by cases h) fun _=>c_ind (P:=fun l:List Mv=>m ∈ l→_) (fun _=>key _) fun _=>key _
theorem N45_eq (p:Pos):N45 p=N90 p++N97 p++N98 p:=by unfold N45; rw [List.nil_append]
theorem N45_len {p:Pos} (hp:PosIn p):(N45 p).length≤20802:=by
  have a:=N90_len hp.v0
  have b:=N97_len hp
  have c:=N98_len hp.t0
  rw [N45_eq,List.length_append,List.length_append]
  omega
theorem t45 {p:Pos} (hp:PosIn p):ok45 p=true:=by
  have a:=N90_len hp.v0
  have b:=N97_len hp
  have c:=N98_len hp.t0
  unfold ok45
  rw [wi64 (n:=0+Int.ofNat (N90 p).length) (by first | omega | (simp; done) | (simp; omega)) (by first | omega | (simp; done) | (simp; omega))]
  rw [wi64 (n:=0+Int.ofNat (N90 p).length+Int.ofNat (N97 p).length) (by first | omega | (simp; done) | (simp; omega)) (by first | omega | (simp; done) | (simp; omega))]
  rw [wi64 (n:=0+Int.ofNat (N90 p).length+Int.ofNat (N97 p).length+Int.ofNat (N98 p).length) (by first | omega | (simp; done) | (simp; omega)) (by first | omega | (simp; done) | (simp; omega))]
  refine a_true (t90 hp.v0) fun _=>a_true (t97 hp) fun _=>a_true (t98 hp.v0 hp.t0) fun _ => ?_
  simp
  omega
theorem pawn_up:∀ f t:Fin 64,(N107 0 f.val).getLsbD t.val=true→8≤t.val:=by decide +kernel
theorem pawn_dn:∀ f t:Fin 64,(N107 1 f.val).getLsbD t.val=true→t.val < 56:=by decide +kernel
theorem one_bit {x:Nat} {i:Nat} (hi:i < 64):(1#64 <<< x).getLsbD i=decide (i=x):=by
  rw [BitVec.getLsbD_shiftLeft,BitVec.getLsbD_one]
  rcases Nat.lt_trichotomy i x with h | rfl | h
  · have:¬ i=x:=by omega
    simp [h,this]
  · simp [hi]
  · have h1:¬ i=x:=by omega
    have h2:¬ i - x=0:=by omega
    simp [h1,h2]
theorem ofInt_nat {n:Int} (h0:0≤n) (h1:n < 18446744073709551616):(BitVec.ofInt 64 n).toNat=n.toNat:=by
  rw [BitVec.toNat_ofInt]
  omega
theorem pawn_side {p:Pos} (hp:PosIn p) (ht:p.turn≤1) {x:Pos×BitVec 64×BitVec 64} (hx:x.1=p) {f t:Nat} (hf:f < 64) (h1:t < 64) (hm:(f:Int).tmod 8≠(t:Int).tmod 8) (hb:(N196 x f).getLsbD t=true):(N107 p.turn f).getLsbD t=true:=by
  have h0:=hp.t0
  have hne:f % 8≠t % 8:=by
    intro e
    apply hm
    rw [Int.tmod_eq_emod_of_nonneg (by omega),Int.tmod_eq_emod_of_nonneg (by omega)]
    omega
  have a1:∀ n:Int,(n=f+8∨n=f - 8∨n=f+16∨n=f - 16)→(1#64 <<< (BitVec.ofInt 64 n).toNat).getLsbD t=false:=by
    intro n hn
    rw [one_bit h1]
    simp only [decide_eq_false_iff_not]
    rw [BitVec.toNat_ofInt]
    omega
  have w:∀ s:Int,-100≤s→s≤100→(N92 p.turn s=s+8∨N92 p.turn s=s - 8):=by
    intro s g0 g1
    unfold N92
    rw [wi64 (n:=s - 8) (by omega) (by omega),wi64 (n:=s+8) (by omega) (by omega)]
    exact c_ind (P:=fun x:Int=>x=s+8∨x=s - 8) (fun _=>.inr rfl) fun _=>.inl rfl
  have b1:=w f (by omega) (by omega)
  have b2:=w (N92 p.turn f) (by omega) (by omega)
  have c1:=a1 (N92 p.turn f) (by omega)
  have c2:(1#64 <<< (BitVec.ofInt 64 (N92 p.turn (N92 p.turn f))).toNat).getLsbD t=false:=by
    by_cases e:N92 p.turn (N92 p.turn f)=f
    · rw [e,one_bit h1]
      simp only [decide_eq_false_iff_not]
      rw [BitVec.toNat_ofInt]
      omega
    · exact a1 _ (by omega)
  revert hb
  unfold N196
  rw [hx]
  have k1:∀ y:BitVec 64,(N107 p.turn f&&&y).getLsbD t=true→(N107 p.turn f).getLsbD t=true:=fun y h=>by
    rw [BitVec.getLsbD_and] at h
    exact (Bool.and_eq_true _ _ ▸ h).1
  have k2:∀ y:BitVec 64,(N107 p.turn f&&&y|||1#64 <<< (BitVec.ofInt 64 (N92 p.turn f)).toNat).getLsbD t=true→(N107 p.turn f).getLsbD t=true:=fun y h=>by
    rw [BitVec.getLsbD_or,c1,Bool.or_false] at h
    exact k1 y h
  have k3:∀ y z:BitVec 64,(N107 p.turn f&&&y|||1#64 <<< (BitVec.ofInt 64 (N92 p.turn f)).toNat|||1#64 <<< (BitVec.ofInt 64 (N92 p.turn (N92 p.turn f))).toNat&&&z).getLsbD t=true→(N107 p.turn f).getLsbD t=true:=fun y z h=>by
    rw [BitVec.getLsbD_or,BitVec.getLsbD_and,c2,Bool.false_and,Bool.or_false] at h
    exact k2 y h
  repeat' (first | with_reducible exact k1 _ | with_reducible exact k2 _ | with_reducible exact k3 _ _ | refine c_ind (P:=fun y:BitVec 64=>y.getLsbD t=true→(N107 p.turn f).getLsbD t=true) (fun _ => ?_) (fun _ => ?_))
theorem N40_in {p:Pos} (hp:PosIn p) (m:Mv) : -1≤N40 p m∧N40 p m < 64:=by
  have hl:=N90_len hp.v0
  unfold N40
  refine c_ind (P:=fun x:Int => -1≤x∧x < 64) (fun _=>by simp) fun hthere=>c_ind (P:=fun x:Int => -1≤x∧x < 64) (fun _=>by simp) fun h => ?_
  rw [N41_eq (by omega)] at h
  have hm:m ∈ N90 p:=by simpa using h
  obtain ⟨th,f,t,h1,h2,h3,h4,h5,h6,h7,h8,h9,h10⟩:=N90_mem hp.v0 hm
  rw [h3,h4]
  rw [wi64 (n:=(t:Int)) (by omega) (by omega)]
  refine c_ind (P:=fun x:Int => -1≤x∧x < 64) (fun _=>by omega) fun _=>c_ind (P:=fun x:Int => -1≤x∧x < 64) (fun hk=>c_ind (P:=fun x:Int => -1≤x∧x < 64) (fun hd => ?_) fun _=>by simp) fun _=>by simp
  have hd:(f:Int).tmod 8≠(t:Int).tmod 8:=by simpa using hd
  have hto:(N196 (p,own p,oth p) f).getLsbD t=true:=by
    unfold N179 at h10
    rw [hk,cond_true,BitVec.getLsbD_and] at h10
    exact (Bool.and_eq_true _ _ ▸ h10).1
  have hat:=pawn_side hp th.1 rfl h1 h2 hd hto
  have h0:=hp.t0
  have ht:=th.1
  have:p.turn=0∨p.turn=1:=by omega
  rcases this with e | e
  · rw [e] at hat
    have:=pawn_up ⟨f,h1⟩ ⟨t,h2⟩ hat
    simp only at this
    rw [e]
    unfold N92
    rw [show wr .u8 (1 - 0)=1 from by decide,wi64 (n:=(t:Int) - 8) (by omega) (by omega)]
    show -1≤(t:Int) - 8∧(t:Int) - 8 < 64
    omega
  · rw [e] at hat
    have:=pawn_dn ⟨f,h1⟩ ⟨t,h2⟩ hat
    simp only at this
    rw [e]
    unfold N92
    rw [show wr .u8 (1 - 1)=0 from by decide,wi64 (n:=(t:Int)+8) (by omega) (by omega)]
    show -1≤(t:Int)+8∧(t:Int)+8 < 64
    omega
theorem N152_in (p:Pos) (m:Mv) : -1≤N152 p m∧N152 p m≤1:=by
  unfold N152
  repeat' (first | (constructor <;> decide) | refine c_ind (P:=fun x:Int => -1≤x∧x≤1) (fun _ => ?_) (fun _ => ?_))
theorem t99 (p:Pos) (m:Mv):ok99 p m=true:=by
  unfold ok99
  refine c_true (fun _=>rfl) fun h=>a_true ?_ fun _=>rfl
  have h1:=N152_in p m
  have h:¬ N152 p m < 0:=by simpa using h
  show (decide (0≤N152 p m)&&decide (N152 p m < 2))=true
  simp
  omega
theorem N99_in {p:Pos} (h0:0≤p.turn) (ht:p.turn≤1) (m:Mv):0≤(N99 p m).1∧(N99 p m).1 < 64∧0≤(N99 p m).2.1∧(N99 p m).2.1 < 64:=by
  have h1:=N152_in p m
  unfold N99
  refine c_ind (P:=fun x:Int×Int×Bool=>0≤x.1∧x.1 < 64∧0≤x.2.1∧x.2.1 < 64) (fun _=>by simp) fun h => ?_
  have h:¬ N152 p m < 0:=by simpa using h
  rw [N148_eq h0 ht]
  show 0≤wr .i64 (56 * p.turn+_)∧_
  have e:N152 p m=0∨N152 p m=1:=by omega
  have e':N152 ⟨p.variant,p.board,p.promoted,p.pockets,p.turn,p.rooks,p.passing,p.checks,p.half,p.full⟩ ⟨m.frm,m.to,m.pro,m.drp,m.cas⟩=N152 p m:=rfl
  rw [e']
  have e2:p.turn=0∨p.turn=1:=by omega
  rcases e with e | e <;> rcases e2 with e2 | e2 <;> rw [e,e2] <;> decide
theorem t100 {p:Pos} {b c:Int} (hb:0≤b) (hc:0≤c):ok100 p b c=true:=by
  unfold ok100
  refine c_true (fun _=>rfl) fun h => ?_
  have h:N154 b c=true:=by simpa using h
  have hin:b≤1∧1≤c∧c≤5:=by
    revert h
    unfold N154
    refine c_ind (P:=fun x:Bool=>x=true→_) (fun h1=>c_ind (P:=fun x:Bool=>x=true→_) (fun h2 h3 => ?_) fun _ h=>by cases h) fun _ h=>by cases h
    simp only [decide_eq_true_eq] at h1 h2 h3
    omega
  have a1:(decide (0≤b)&&decide (b < 2))=true:=by simp; omega
  have a2:(decide (0≤c)&&decide (c < 6))=true:=by simp; omega
  repeat' (first | with_reducible rfl | with_reducible exact a1 | with_reducible exact a2 | refine a_true ?_ (fun _ => ?_) | refine c_true (fun _ => ?_) (fun _ => ?_))
theorem t103 {p:Pos} {b c:Int} (hb:0≤b) (hc:0≤c):ok103 p b c=true:=by
  unfold ok103
  refine c_true (fun h => ?_) fun _=>rfl
  have hin:b≤1∧1≤c∧c≤5:=by
    revert h
    unfold N154
    refine c_ind (P:=fun x:Bool=>x=true→_) (fun h1=>c_ind (P:=fun x:Bool=>x=true→_) (fun h2 h3 => ?_) fun _ h=>by cases h) fun _ h=>by cases h
    simp only [decide_eq_true_eq] at h1 h2 h3
    omega
  have a1:(decide (0≤b)&&decide (b < 2))=true:=by simp; omega
  have a2:(decide (0≤c)&&decide (c < 6))=true:=by simp; omega
  repeat' (first | with_reducible rfl | with_reducible exact a1 | with_reducible exact a2 | refine a_true ?_ (fun _ => ?_) | refine c_true (fun _ => ?_) (fun _ => ?_))
theorem t104 (p:Pos) (s:Int):ok104 p s=true:=by
  unfold ok104
  repeat' (first | with_reducible rfl | with_reducible exact t155 _ | with_reducible exact t151 _ | with_reducible exact t66 _ _ _ | refine a_true ?_ (fun _ => ?_) | refine c_true (fun _ => ?_) (fun _ => ?_))
theorem N91_in {v:Int} (h:0≤v):0≤N91 v:=by
  unfold N91
  exact c_ind (P:=fun x:Int=>0≤x) (fun _=>by simp) fun _=>Int.tmod_nonneg _ h
theorem ix64 {i:Int} (h0:0≤i) (h1:i < 64):(decide (0≤i)&&decide (i < Int.ofNat 64))=true:=by
  rw [Bool.and_eq_true,decide_eq_true_eq,decide_eq_true_eq]
  exact ⟨h0,h1⟩
theorem set_in {l:List Int} {a b v:Int} (h:∀ x ∈ l,a≤x∧x≤b) (hv:a≤v∧v≤b) (i:Nat):∀ x ∈ l.set i v,a≤x∧x≤b:=by
  intro x hx
  rcases List.mem_or_eq_of_mem_set hx with h1 | rfl
  · exact h x h1
  · exact hv
theorem N101_in (a b:Int):0≤N101 a b∧N101 a b≤255:=by
  unfold N101
  exact c_ind (P:=fun x:Int=>0≤x∧x≤255) (fun _=>by decide) fun _=>c_ind (P:=fun x:Int=>0≤x∧x≤255) (fun _=>by decide) fun _=>c_ind (P:=fun x:Int=>0≤x∧x≤255) (fun _=>by decide) fun _=>⟨wr_u8_lo _,wr_u8_hi _⟩
theorem N108_in {n:Int} (h : -9223372036854775808≤n∧n≤9223372036854775807) : -9223372036854775808≤N108 n∧N108 n≤9223372036854775807:=by
  unfold N108
  exact c_ind (P:=fun x:Int => -9223372036854775808≤x∧x≤9223372036854775807) (fun _=>h) fun _=>wr_i64_b _
structure Kin (p q:Pos):Prop where
  pin:PosIn q
  v:q.variant=p.variant
  t:q.turn=p.turn
section
variable {p q:Pos}
theorem Kin.board (h:Kin p q) {bd:List Int} (hl:bd.length=64) (hb:∀ x ∈ bd,0≤x∧x≤255) (pr:BitVec 64):Kin p ⟨q.variant,bd,pr,q.pockets,q.turn,q.rooks,q.passing,q.checks,q.half,q.full⟩ :=
  ⟨⟨h.pin.v0,h.pin.v1,hl,hb,h.pin.kl,h.pin.k0,h.pin.t0,h.pin.t1,h.pin.rl,h.pin.r0,h.pin.p0,h.pin.p1,h.pin.cl,h.pin.c0,h.pin.h0,h.pin.f0⟩,h.v,h.t⟩
theorem Kin.set (h:Kin p q) (i:Nat) {v:Int} (hv:0≤v∧v≤255):Kin p ⟨q.variant,q.board.set i v,q.promoted,q.pockets,q.turn,q.rooks,q.passing,q.checks,q.half,q.full⟩ :=
  h.board (by rw [List.length_set]; exact h.pin.bl) (set_in h.pin.b0 hv i) _
theorem Kin.promoted (h:Kin p q) (pr:BitVec 64):Kin p ⟨q.variant,q.board,pr,q.pockets,q.turn,q.rooks,q.passing,q.checks,q.half,q.full⟩:=h.board h.pin.bl h.pin.b0 pr
theorem Kin.pockets (h:Kin p q) (i:Nat) {v:Int} (hv:0≤v∧v≤255):Kin p ⟨q.variant,q.board,q.promoted,q.pockets.set i v,q.turn,q.rooks,q.passing,q.checks,q.half,q.full⟩ :=
  ⟨⟨h.pin.v0,h.pin.v1,h.pin.bl,h.pin.b0,by rw [List.length_set]; exact h.pin.kl,set_in h.pin.k0 hv i,h.pin.t0,h.pin.t1,h.pin.rl,h.pin.r0,h.pin.p0,h.pin.p1,h.pin.cl,h.pin.c0,h.pin.h0,h.pin.f0⟩,h.v,h.t⟩
theorem Kin.rooks (h:Kin p q) {rk:List Int} (hl:rk.length=4) (hr:∀ x ∈ rk,-128≤x∧x≤127):Kin p ⟨q.variant,q.board,q.promoted,q.pockets,q.turn,rk,q.passing,q.checks,q.half,q.full⟩ :=
  ⟨⟨h.pin.v0,h.pin.v1,h.pin.bl,h.pin.b0,h.pin.kl,h.pin.k0,h.pin.t0,h.pin.t1,hl,hr,h.pin.p0,h.pin.p1,h.pin.cl,h.pin.c0,h.pin.h0,h.pin.f0⟩,h.v,h.t⟩
theorem Kin.rook (h:Kin p q) (i:Nat):Kin p ⟨q.variant,q.board,q.promoted,q.pockets,q.turn,q.rooks.set i (-1),q.passing,q.checks,q.half,q.full⟩ :=
  h.rooks (by rw [List.length_set]; exact h.pin.rl) (set_in h.pin.r0 (by omega) i)
theorem Kin.passing (h:Kin p q) {s:Int} (hs : -128≤s∧s≤127):Kin p ⟨q.variant,q.board,q.promoted,q.pockets,q.turn,q.rooks,s,q.checks,q.half,q.full⟩ :=
  ⟨⟨h.pin.v0,h.pin.v1,h.pin.bl,h.pin.b0,h.pin.kl,h.pin.k0,h.pin.t0,h.pin.t1,h.pin.rl,h.pin.r0,hs.1,hs.2,h.pin.cl,h.pin.c0,h.pin.h0,h.pin.f0⟩,h.v,h.t⟩
theorem Kin.clocks (h:Kin p q) {a b:Int} (ha : -9223372036854775808≤a∧a≤9223372036854775807) (hb : -9223372036854775808≤b∧b≤9223372036854775807):Kin p ⟨q.variant,q.board,q.promoted,q.pockets,q.turn,q.rooks,q.passing,q.checks,a,b⟩ :=
  ⟨⟨h.pin.v0,h.pin.v1,h.pin.bl,h.pin.b0,h.pin.kl,h.pin.k0,h.pin.t0,h.pin.t1,h.pin.rl,h.pin.r0,h.pin.p0,h.pin.p1,h.pin.cl,h.pin.c0,ha,hb⟩,h.v,h.t⟩
theorem N100_kin (h:Kin p q) (b c:Int):Kin p (N100 q b c).1:=by
  unfold N100
  refine c_ind (P:=fun x:Pos×Bool=>Kin p x.1) (fun _=>h) fun _=>c_ind (P:=fun x:Pos×Bool=>Kin p x.1) (fun _=>h) fun _ => ?_
  exact h.pockets _ ⟨wr_u8_lo _,wr_u8_hi _⟩
theorem N103_kin (h:Kin p q) (b c:Int):Kin p (N103 q b c):=by
  unfold N103
  refine c_ind (P:=fun x:Pos=>Kin p x) (fun _=>c_ind (P:=fun x:Pos=>Kin p x) (fun _ => ?_) fun _=>h) fun _=>h
  exact h.pockets _ ⟨wr_u8_lo _,wr_u8_hi _⟩
end
section
variable {p:Pos} (hp:PosIn p) (m:Mv)
include hp
theorem bd_in (i:Nat):0≤p.board.getD i 0∧p.board.getD i 0≤255:=getD_in hp.b0 (by omega) i
theorem vF1_kin (a:Pos) (b:Mv) (c:Int):Kin p (vF22_1 a b p p m c):=by
  have h:Kin p p:=⟨hp,rfl,rfl⟩
  have z:(0:Int)≤0∧(0:Int)≤255:=by omega
  have bi:=bd_in hp
  unfold vF22_1
  refine c_ind (P:=fun x:Pos=>Kin p x) (fun _=>((((h.set _ z).set _ z).set _ (bi _)).set _ (bi _))) fun _=>c_ind (P:=fun x:Pos=>Kin p x) (fun _=>(N100_kin h _ _).set _ (N101_in _ _)) fun _=>c_ind (P:=fun x:Pos=>Kin p x) (fun _=>c_ind (P:=fun x:Pos=>Kin p x) (fun _=>(((h.set _ z).set _ z).set _ (bi _)).set _ (N101_in _ _)) fun _=>((h.set _ z).set _ z).set _ (bi _)) fun _=>c_ind (P:=fun x:Pos=>Kin p x) (fun _=>((h.set _ z).set _ (bi _)).set _ (N101_in _ _)) fun _=>(h.set _ z).set _ (bi _)
omit hp in
theorem vF2_kin {q:Pos} (h:Kin p q) (a:Pos) (b:Mv) (c:Int):Kin p (vF22_2 a b q p m c):=by
  unfold vF22_2
  repeat' (first | exact h | exact h.promoted _ | exact N103_kin h _ _ | exact (N103_kin h _ _).promoted _ | refine c_ind (P:=fun x:Pos=>Kin p x) (fun _ => ?_) (fun _ => ?_))
omit hp in
theorem lp22_3_kin (l:List Int) (hl:l.length≤64) (hin:∀ s ∈ l,0≤s∧s < 64) {q:Pos} (h:Kin p q) (a b:Pos) (c d:Mv) (e:Int):∃ r,lp22_3 l (Int.ofNat l.length) a c b d e (0,q)=some r∧Kin p r.2.2:=by
  refine lp_many (I:=fun x=>0≤x.1∧x.1≤(l.length:Int)∧Kin p x.2) (μ:=fun x=>((l.length:Int) - x.1).toNat) ?_ _ ⟨by simp,by simp,h⟩ (by simp; omega)
  rintro ⟨n,o⟩ ⟨h0,h1,h2⟩
  simp only at h0 h1 h2
  by_cases hc:n < l.length
  · have hf:=hin _ (getD_mem (d:=default) (show n.toNat < l.length by omega))
    refine ⟨c_true (fun _=>a_true (by simp [h0]; omega) fun _=>a_true (ix64 hf.1 hf.2) fun _=>rfl) fun _=>rfl,c_ind (fun _ => ?_) fun h=>absurd h (by simpa using hc)⟩
    rw [wi64 (n:=n+1) (by omega) (by omega)]
    exact ⟨⟨by simp; omega,by simp; omega,h2.set _ (by omega)⟩,by simp; omega⟩
  · exact ⟨c_true (fun h=>absurd h (by simpa using hc)) fun _=>rfl,c_ind (fun h=>absurd h (by simpa using hc)) fun _=>h2⟩
omit hp in
theorem vF4_kin {q:Pos} (h:Kin p q) (a:Pos) (b:Mv) (c:Int):okF22_4 a b q p m c=true∧Kin p (vF22_4 a b q p m c):=by
  have hl:=of_some (lp22_3_kin (p:=p) (sqs (N104 q (wr .i64 m.to)) 64) (sqs_len _ _) (fun _ h=>sqs_in h) h a p b m c)
  constructor
  · unfold okF22_4
    refine c_true (fun _=>rfl) fun _=>c_true (fun _=>rfl) fun _=>a_true (t104 _ _) fun _=>a_true (t65 _) fun _=>a_true ?_ fun _=>rfl
    rw [N65_eq]; exact hl.1
  · unfold vF22_4
    refine c_ind (P:=fun x:Pos=>Kin p x) (fun _=>h) fun _=>c_ind (P:=fun x:Pos=>Kin p x) (fun _=>h) fun _ => ?_
    rw [N65_eq]; exact hl.2
omit hp in
theorem lp22_6_kin {c k:Int} (hc0:0≤c) (hc1:c≤1) (l:List Int) (hl:∀ s ∈ l,-128≤s∧s≤127) {q:Pos} (h:Kin p q) (a b:Pos) (m1 m2:Mv) (e:Int):∃ r,lp22_6 c k l a m1 b m2 e (0,q)=some r∧Kin p r.2.2:=by
  refine lp_many (I:=fun x=>0≤x.1∧x.1≤2∧Kin p x.2) (μ:=fun x=>(2 - x.1).toNat) ?_ _ ⟨by simp,by simp,h⟩ (by simp)
  rintro ⟨n,o⟩ ⟨h0,h1,h2⟩
  simp only at h0 h1 h2
  by_cases hc:n < 2
  · have hs:=getD_in hl (d:=0) (by omega) n.toNat
    have go1:Nxt (fun x:Int×Pos=>0≤x.1∧x.1≤2∧Kin p x.2) (fun r:Int×Bool×Pos=>Kin p r.2.2) (fun x=>(2 - x.1).toNat) (2 - n).toNat (.go (wr .i64 (n+1),o)):=by
      rw [wi64 (n:=n+1) (by omega) (by omega)]
      exact ⟨⟨by simp; omega,by simp; omega,h2⟩,by simp; omega⟩
    have go2:∀ i,Nxt (fun x:Int×Pos=>0≤x.1∧x.1≤2∧Kin p x.2) (fun r:Int×Bool×Pos=>Kin p r.2.2) (fun x=>(2 - x.1).toNat) (2 - n).toNat (.go (wr .i64 (n+1),⟨o.variant,o.board,o.promoted,o.pockets,o.turn,o.rooks.set i (-1),o.passing,o.checks,o.half,o.full⟩)):=by
      intro i
      rw [wi64 (n:=n+1) (by omega) (by omega)]
      exact ⟨⟨by simp; omega,by simp; omega,h2.rook i⟩,by simp; omega⟩
    have w1:wr .i64 c=c:=wi64 (by omega) (by omega)
    have w2:wr .i64 (56 * c)=56 * c:=wi64 (by omega) (by omega)
    have w3:wr .i64 (l.getD n.toNat 0)=l.getD n.toNat 0:=wi64 (by omega) (by omega)
    have w4:wr .i64 (56 * c+l.getD n.toNat 0)=56 * c+l.getD n.toNat 0:=wi64 (by omega) (by omega)
    have k1:(decide (0≤c)&&decide (c < Int.ofNat 2))=true:=by simp; omega
    have k2:(decide (0≤n)&&decide (n < Int.ofNat 2))=true:=by simp; omega
    refine ⟨c_true (fun _=>a_true k2 fun _=>c_true (fun _=>rfl) fun g0=>c_true (fun _=>rfl) fun g1 => ?_) fun _=>rfl,c_ind (fun _ => ?_) fun h=>absurd h (by simpa using hc)⟩
    · rw [w1,w2,w3,w4]
      have g0:0≤l.getD n.toNat 0:=by simpa using g0
      have g1:l.getD n.toNat 0≤7:=by simpa using g1
      have k3:(decide (0≤56 * c+l.getD n.toNat 0)&&decide (56 * c+l.getD n.toNat 0 < Int.ofNat 64))=true:=ix64 (by omega) (by omega)
      repeat' (first | with_reducible rfl | with_reducible exact k1 | with_reducible exact k2 | with_reducible exact k3 | refine a_true ?_ (fun _ => ?_) | refine c_true (fun _ => ?_) (fun _ => ?_))
    · repeat' (first | exact go1 | exact go2 _ | refine c_ind (fun _ => ?_) (fun _ => ?_))
  · exact ⟨c_true (fun h=>absurd h (by simpa using hc)) fun _=>rfl,c_ind (fun h=>absurd h (by simpa using hc)) fun _=>h2⟩
omit hp in
theorem lp22_7_kin {q:Pos} (h:Kin p q) (a b:Pos) (m1 m2:Mv) (e:Int):∃ r,lp22_7 a m1 b m2 e (0,q)=some r∧Kin p r.2.2:=by
  refine lp_many (I:=fun x=>0≤x.1∧x.1≤2∧Kin p x.2) (μ:=fun x=>(2 - x.1).toNat) ?_ _ ⟨by simp,by simp,h⟩ (by simp)
  rintro ⟨n,o⟩ ⟨h0,h1,h2⟩
  simp only at h0 h1 h2
  by_cases hc:n≤1
  · have hr:∀ s ∈ List.take 2 (List.drop (scale 2 n).toNat o.rooks),-128≤s∧s≤127:=fun s hs=>h2.pin.r0 s (List.mem_of_mem_drop (List.mem_of_mem_take hs))
    have hl:=of_some (lp22_6_kin (p:=p) (k:=N106 o n 6) h0 hc _ hr h2 a b m1 m2 e)
    refine ⟨c_true (fun _=>a_true (t106 _ _ _) fun _=>a_true (by simp; omega) fun _=>a_true hl.1 fun _=>rfl) fun _=>rfl,c_ind (fun _ => ?_) fun h=>absurd h (by simpa using hc)⟩
    rw [wu8 (n:=n+1) (by omega) (by omega)]
    exact ⟨⟨by simp; omega,by simp; omega,hl.2⟩,by simp; omega⟩
  · exact ⟨c_true (fun h=>absurd h (by simpa using hc)) fun _=>rfl,c_ind (fun h=>absurd h (by simpa using hc)) fun _=>h2⟩
theorem vF8_kin (ht:p.turn≤1) {q:Pos} (h:Kin p q) (hm:m.drp=0→0≤m.frm∧m.frm < 64) (a:Pos) (b:Mv) (c:Int):okF22_8 a b q p m c=true∧Kin p (vF22_8 a b q p m c):=by
  have t0:=hp.t0
  have h2:Kin p ⟨q.variant,q.board,q.promoted,q.pockets,q.turn,List.take (scale 2 q.turn).toNat q.rooks++li [-1,-1]++List.drop ((scale 2 q.turn).toNat+2) q.rooks,q.passing,q.checks,q.half,q.full⟩:=by
    refine h.rooks ?_ ?_
    · have hr:=h.pin.rl
      have:(scale 2 q.turn).toNat≤2:=by rw [h.t]; unfold scale; simp; omega
      simp [li,hr]
      omega
    · intro x hx
      simp only [List.mem_append,li] at hx
      rcases hx with (hx | hx) | hx
      · exact h.pin.r0 x (List.mem_of_mem_take hx)
      · simp at hx; omega
      · exact h.pin.r0 x (List.mem_of_mem_drop hx)
  have a1:=of_some (lp22_7_kin h a p b m c)
  have a2:=of_some (lp22_7_kin h2 a p b m c)
  have k1:(decide (0≤q.turn)&&decide (q.turn < Int.ofNat 2))=true:=by rw [h.t]; simp; omega
  constructor
  · unfold okF22_8
    refine c_true (fun _ => ?_) fun hd=>a_true ?_ fun _ => ?_
    · repeat' (first | with_reducible rfl | with_reducible exact k1 | with_reducible exact a1.1 | with_reducible exact a2.1 | refine a_true ?_ (fun _ => ?_) | refine c_true (fun _ => ?_) (fun _ => ?_))
    · have:=hm (by simpa using hd)
      simp; omega
    · repeat' (first | with_reducible rfl | with_reducible exact k1 | with_reducible exact a1.1 | with_reducible exact a2.1 | refine a_true ?_ (fun _ => ?_) | refine c_true (fun _ => ?_) (fun _ => ?_))
  · unfold vF22_8
    repeat' (first | exact a1.2 | exact a2.2 | refine c_ind (P:=fun x:Pos=>Kin p x) (fun _ => ?_) (fun _ => ?_))
omit hp in
theorem vF9_kin {q:Pos} (h:Kin p q) (hm:m.drp=0→0≤m.frm∧m.frm < 64) (a:Pos) (b:Mv) (c:Int):okF22_9 a b q p m c=true∧Kin p (vF22_9 a b q p m c):=by
  constructor
  · unfold okF22_9
    refine c_true (fun _ => ?_) fun hd=>a_true ?_ fun _ => ?_
    · repeat' (first | with_reducible rfl | with_reducible exact t107 _ _ | with_reducible exact t66 _ _ _ | refine a_true ?_ (fun _ => ?_) | refine c_true (fun _ => ?_) (fun _ => ?_))
    · have:=hm (by simpa using hd)
      simp; omega
    · repeat' (first | with_reducible rfl | with_reducible exact t107 _ _ | with_reducible exact t66 _ _ _ | refine a_true ?_ (fun _ => ?_) | refine c_true (fun _ => ?_) (fun _ => ?_))
  · have n1:(-128:Int) ≤ -1∧(-1:Int)≤127:=by omega
    unfold vF22_9
    repeat' (first | exact h.passing n1 | exact h.passing (wr_i8_b _) | refine c_ind (P:=fun x:Pos=>Kin p x) (fun _ => ?_) (fun _ => ?_))
omit hp in
theorem vF910_kin {q:Pos} (h:Kin p q) (hm:m.drp=0→0≤m.frm∧m.frm < 64) (a:Pos) (b:Mv) (c:Int):okF22_10 a b q p m c=true∧Kin p (vF22_10 a b q p m c):=by
  constructor
  · unfold okF22_10
    refine c_true (fun _=>rfl) fun hd=>a_true ?_ fun _=>rfl
    have:=hm (by simpa using hd)
    simp; omega
  · have z:(-9223372036854775808:Int)≤0∧(0:Int)≤9223372036854775807:=by omega
    have f1:=h.pin.f0
    have f2:=N108_in h.pin.f0
    have f3:=N108_in h.pin.h0
    unfold vF22_10
    repeat' (first | exact h.clocks z f1 | exact h.clocks z f2 | exact h.clocks f3 f1 | exact h.clocks f3 f2 | refine c_ind (P:=fun x:Pos=>Kin p x) (fun _ => ?_) (fun _ => ?_))
theorem vF4_in (ht:p.turn≤1) {q:Pos} (h:Kin p q) (a:Pos) (b:Mv) (c:Int):okF22_11 a b q p m c=true∧PosIn (vF22_11 a b q p m c)∧(vF22_11 a b q p m c).variant=p.variant∧(vF22_11 a b q p m c).turn=1 - p.turn:=by
  have t0:=hp.t0
  have w1:wr .u8 (1 - p.turn)=1 - p.turn:=wu8 (by omega) (by omega)
  have w2:wr .u8 (1 - (1 - p.turn))=p.turn:=by rw [wu8 (by omega) (by omega)]; omega
  have k1:(decide (0≤p.turn)&&decide (p.turn < Int.ofNat 2))=true:=by simp; omega
  have hq:PosIn ⟨q.variant,q.board,q.promoted,q.pockets,1 - p.turn,q.rooks,q.passing,q.checks,q.half,q.full⟩ :=
    ⟨h.pin.v0,h.pin.v1,h.pin.bl,h.pin.b0,h.pin.kl,h.pin.k0,by show 0≤1 - p.turn; omega,by show 1 - p.turn≤255; omega,h.pin.rl,h.pin.r0,h.pin.p0,h.pin.p1,h.pin.cl,h.pin.c0,h.pin.h0,h.pin.f0⟩
  constructor
  · unfold okF22_11
    rw [h.t,w1,w2]
    refine c_true (fun _=>a_true k1 fun _=>c_true (fun _=>a_true (t109 h.pin.v0 (by omega)) fun _=>c_true (fun _=>a_true k1 fun _=>a_true k1 fun _=>rfl) fun _=>rfl) fun _=>rfl) fun _=>rfl
  · unfold vF22_11
    rw [h.t,w1,w2]
    have base:PosIn ⟨q.variant,q.board,q.promoted,q.pockets,1 - p.turn,q.rooks,q.passing,q.checks,q.half,q.full⟩∧q.variant=p.variant∧(1 - p.turn=1 - p.turn):=⟨hq,h.v,rfl⟩
    refine c_ind (P:=fun x:Pos=>PosIn x∧x.variant=p.variant∧x.turn=1 - p.turn) (fun _=>c_ind (P:=fun x:Pos=>PosIn x∧x.variant=p.variant∧x.turn=1 - p.turn) (fun _=>c_ind (P:=fun x:Pos=>PosIn x∧x.variant=p.variant∧x.turn=1 - p.turn) (fun _ => ?_) fun _=>base) fun _=>base) fun _=>base
    exact ⟨⟨hq.v0,hq.v1,hq.bl,hq.b0,hq.kl,hq.k0,hq.t0,hq.t1,hq.rl,hq.r0,hq.p0,hq.p1,by rw [List.length_set]; exact hq.cl,set_in hq.c0 ⟨wr_u8_lo _,wr_u8_hi _⟩ _,hq.h0,hq.f0⟩,h.v,rfl⟩
end
theorem N45_mem {p:Pos} (hp:PosIn p) {m:Mv} (h:m ∈ N45 p):there p∧0≤m.frm∧m.frm < 64∧0≤m.to∧m.to < 64∧0≤m.drp∧m.drp≤5∧0≤m.pro∧m.pro≤6:=by
  rw [N45_eq] at h
  have n110:∀ v:Int,9≤v→N147 v=false:=fun v hv=>by
    unfold N147
    rw [show decide (v ≥ 9)=true by simpa using hv]; rfl
  have n113:∀ v:Int,9≤v→N150 v=false:=fun v hv=>by
    unfold N150
    rw [show decide (v ≥ 9)=true by simpa using hv]; rfl
  simp only [List.mem_append] at h
  rcases h with (h | h) | h
  · obtain ⟨th,f,t,h1,h2,h3,h4,h5,h6,h7,h8,_⟩:=N90_mem hp.v0 h
    exact ⟨th,by omega,by omega,by omega,by omega,by omega,by omega,h7,h8⟩
  · obtain ⟨h1,h2,h3,h4,h5,h6,h7,h8⟩:=N97_mem hp h
    refine ⟨⟨h1,?_⟩,h2,h3,h4,h5,by omega,by omega,by omega,by omega⟩
    refine Classical.byContradiction fun hv => ?_
    unfold N97 at h
    rw [n110 _ (by omega)] at h
    rw [show decide (p.turn > 1)=false by simp; omega] at h
    cases h
  · obtain ⟨h1,h2,h3,h4,h5,h6,h7,h8,h9⟩:=N98_mem hp.t0 h
    refine ⟨⟨h1,?_⟩,by omega,by omega,h4,h5,by omega,h8,by omega,by omega⟩
    refine Classical.byContradiction fun hv => ?_
    rw [n113 _ (by omega)] at h2
    cases h2
theorem move_all {p:Pos} (hp:PosIn p) (m:Mv):ok22 p m=true∧(m ∈ N45 p→(N22 p m).2=true∧PosIn (N22 p m).1∧(N22 p m).1.variant=p.variant∧(N22 p m).1.turn=1 - p.turn)∧(m ∉ N45 p→N22 p m=(p,false)):=by
  have hlen:=N45_len hp
  have hc:N41 (N45 p) m=decide (m ∈ N45 p):=N41_eq (by omega)
  by_cases hm:m ∈ N45 p
  · obtain ⟨th,f0,f1,g0,g1,d0,d1,r0,r1⟩:=N45_mem hp hm
    have hmf:m.drp=0→0≤m.frm∧m.frm < 64:=fun _=>⟨f0,f1⟩
    have hn:=N40_in hp m
    have h1:=vF1_kin hp m p m (N40 p m)
    have h2:=vF2_kin m h1 p m (N40 p m)
    have h4:=vF4_kin m h2 p m (N40 p m)
    have h8:=vF8_kin hp m th.1 h4.2 hmf p m (N40 p m)
    have h9:=vF9_kin m h8.2 hmf p m (N40 p m)
    have h10:=vF910_kin m h9.2 hmf p m (N40 p m)
    have h11:=vF4_in hp m th.1 h10.2 p m (N40 p m)
    have kf:(decide (0≤m.frm)&&decide (m.frm < Int.ofNat 64))=true:=by simp; omega
    have kt:(decide (0≤m.to)&&decide (m.to < Int.ofNat 64))=true:=by simp; omega
    have kn:N40 p m ≥ 0→(decide (0≤N40 p m)&&decide (N40 p m < Int.ofNat 64))=true:=fun h=>by simp; omega
    have hg:=N99_in hp.t0 th.1 m
    have ok1:okF22_1 p m p p m (N40 p m)=true:=by
      unfold okF22_1
      have kg1:(decide (0≤(N99 p m).1)&&decide ((N99 p m).1 < Int.ofNat 64))=true:=by simp; omega
      have kg2:(decide (0≤(N99 p m).2.1)&&decide ((N99 p m).2.1 < Int.ofNat 64))=true:=by simp; omega
      refine c_true (fun _ => ?_) fun _=>c_true (fun _ => ?_) fun _=>c_true (fun hh => ?_) fun _ => ?_
      · repeat' (first | with_reducible rfl | with_reducible exact t99 _ _ | with_reducible exact kf | with_reducible exact kt | with_reducible exact kg1 | with_reducible exact kg2 | refine a_true ?_ (fun _ => ?_))
      · refine a_true (t100 hp.t0 d0) fun _=>a_true kt fun _=>rfl
      · have hh:N40 p m ≥ 0:=by simpa using hh
        have kn:=kn hh
        repeat' (first | with_reducible rfl | with_reducible exact kn | with_reducible exact kf | with_reducible exact kt | refine a_true ?_ (fun _ => ?_) | refine c_true (fun _ => ?_) (fun _ => ?_))
      · repeat' (first | with_reducible rfl | with_reducible exact kf | with_reducible exact kt | refine a_true ?_ (fun _ => ?_) | refine c_true (fun _ => ?_) (fun _ => ?_))
    have ok2:okF22_2 p m (vF22_1 p m p p m (N40 p m)) p m (N40 p m)=true:=by
      have e:0≤(vF22_1 p m p p m (N40 p m)).turn:=h1.pin.t0
      have bi:=fun i=>(bd_in hp i).1
      unfold okF22_2
      refine c_true (fun _=>rfl) fun _=>c_true (fun _=>rfl) fun _=>c_true (fun _=>a_true (t99 _ _) fun _=>rfl) fun _=>c_true (fun hh => ?_) fun _=>rfl
      have hh:N40 p m ≥ 0:=by simpa using hh
      have kn:=kn hh
      repeat' (first | with_reducible rfl | with_reducible exact kn | with_reducible exact t103 e (by decide) | with_reducible exact t103 e (N91_in (bi _)) | refine a_true ?_ (fun _ => ?_) | refine c_true (fun _ => ?_) (fun _ => ?_))
    refine ⟨?_,fun _ => ?_,fun h=>absurd hm h⟩
    · unfold ok22
      exact a_true (t45 hp) fun _=>a_true (t41 (by omega)) fun _=>c_true (fun _=>rfl) fun _=>a_true (t40 hp.v0 m) fun _=>a_true ok1 fun _=>a_true ok2 fun _=>a_true h4.1 fun _=>a_true h8.1 fun _=>a_true h9.1 fun _=>a_true h10.1 fun _=>a_true h11.1 fun _=>rfl
    · unfold N22
      rw [hc]
      simp only [hm,decide_true,Bool.not_true,cond_false]
      exact ⟨trivial,h11.2⟩
  · refine ⟨?_,fun h=>absurd h hm,fun _ => ?_⟩
    · unfold ok22
      refine a_true (t45 hp) fun _=>a_true (t41 (by omega)) fun _=>c_true (fun _=>rfl) fun h => ?_
      rw [hc] at h
      simp [hm] at h
    · unfold N22
      rw [hc]
      simp [hm]
theorem t81 (p:Pos) (b:Int):ok81 p b=true:=a_true (t106 _ _ _) fun _=>rfl
section
variable {p:Pos} (hp:PosIn p)
include hp
theorem move_var (m:Mv):0≤(N22 p m).1.variant:=by
  obtain ⟨_,h1,h2⟩:=move_all hp m
  by_cases hm:m ∈ N45 p
  · rw [(h1 hm).2.2.1]; exact hp.v0
  · rw [h2 hm]; exact hp.v0
theorem t86 (m:Mv):ok86 p m=true:=by
  have hv:=move_var hp m
  have t0:=hp.t0
  have b1:=wr_u8_lo (1 - p.turn)
  unfold ok86
  refine a_true (move_all hp m).1 fun _ => ?_
  have k1:ok80 p.variant p.turn=true:=t80 hp.v0 t0
  have k2:ok109 (N22 p m).1 p.turn=true:=t109 hv t0
  have k3:ok109 (N22 p m).1 (wr .u8 (1 - p.turn))=true:=t109 hv b1
  repeat' (first | with_reducible rfl | with_reducible exact k1 | with_reducible exact k2 | with_reducible exact k3 | with_reducible exact t81 _ _ | refine a_true ?_ (fun _ => ?_) | refine c_true (fun _ => ?_) (fun _ => ?_))
theorem okKept_72 {l:List Mv} (hl:l.length≤1000000):okKept 85 p l=true:=by
  unfold okKept
  rw [show (85:Nat).beq 85=true from rfl,cond_true]
  have h1:decide (l.length≤lim)=true:=by unfold lim; simp; omega
  rw [h1,Bool.true_and]
  exact all86_iff.2 (t86 hp)
theorem okKept_73 {l:List Mv} (hl:l.length≤1000000):okKept 87 p l=true:=by
  unfold okKept
  rw [show (87:Nat).beq 85=false from rfl,cond_false,show (87:Nat).beq 87=true from rfl,Bool.true_and]
  have h1:decide (l.length≤lim)=true:=by unfold lim; simp; omega
  rw [h1,Bool.true_and]
  exact all19_iff.2 (t19 hp.v0)
omit hp in
theorem kept_72 (l:List Mv):kept 85 p l=l.filter (N86 p):=by
  unfold kept
  rw [show (85:Nat).beq 85=true from rfl,cond_true]
omit hp in
theorem kept_73 (l:List Mv):kept 87 p l=l.filter (N19 p):=by
  unfold kept
  rw [show (87:Nat).beq 85=false from rfl,cond_false]
theorem lp39 (l:List Mv) (hl:l.length≤1000000):∃ r,lp39_1 l (Int.ofNat l.length) p 0=some r ∧
    match r with
    | .inl i=>0≤i∧∃ m,m ∈ l∧N19 p m=true
    | .inr _ => ∀ m,m ∈ l→N19 p m=false:=by
  refine lp_many (I:=fun x=>0≤x∧x≤(l.length:Int)∧∀ m,m ∈ l.take x.toNat→N19 p m=false) (μ:=fun x=>((l.length:Int) - x).toNat) ?_ _ ⟨by simp,by simp,by simp⟩ (by simp; omega)
  rintro n ⟨h0,h1,h2⟩
  by_cases hc:n < l.length
  · have hlt:n.toNat < l.length:=by omega
    refine ⟨c_true (fun _=>a_true (by simp [h0]; exact hc) fun _=>a_true (t19 hp.v0 _) fun _=>rfl) fun _=>rfl,c_ind (fun _ => ?_) fun h=>absurd h (by simpa using hc)⟩
    refine c_ind (fun h=>⟨h0,_,getD_mem hlt,h⟩) fun h => ?_
    rw [wi64 (n:=n+1) (by omega) (by omega)]
    refine ⟨⟨by omega,by omega,?_⟩,by dsimp only; omega⟩
    rw [show (n+1).toNat=n.toNat+1 by omega,List.take_succ_eq_append_getElem hlt]
    rw [List.getD_eq_getElem?_getD,List.getElem?_eq_getElem hlt] at h
    intro m hm
    simp only [List.mem_append,List.mem_singleton] at hm
    rcases hm with hm | rfl
    · exact h2 m hm
    · exact h
  · refine ⟨c_true (fun h=>absurd h (by simpa using hc)) fun _=>rfl,c_ind (fun h=>absurd h (by simpa using hc)) fun _ => ?_⟩
    show ∀ m,m ∈ l→N19 p m=false
    rw [List.take_of_length_le (by omega)] at h2
    exact h2
theorem lp39_any (l:List Mv) (hl:l.length≤1000000) {α:Type} (x y:α) :
    (bif isL ((lp39_1 l (Int.ofNat l.length) p 0).getD default) then bif decide (gl ((lp39_1 l (Int.ofNat l.length) p 0).getD default) ≥ 0) then x else y else y)=bif l.any (N19 p) then x else y:=by
  have h:=(of_some (lp39 hp l hl)).2
  generalize (lp39_1 l (Int.ofNat l.length) p 0).getD default=r at h ⊢
  cases r with
  | inl i =>
    obtain ⟨h1,m,h2,h3⟩:=h
    have:l.any (N19 p)=true:=List.any_eq_true.2 ⟨m,h2,h3⟩
    simp [isL,gl,h1,this]
  | inr z =>
    have:l.any (N19 p)=false:=by
      rw [List.any_eq_false]
      intro m hm
      rw [h m hm]; simp
    simp [isL,this]
theorem well_len:((N45 p).filter (N86 p)).length≤20802:=Nat.le_trans (List.length_filter_le _ _) (N45_len hp)
theorem t39:ok39 p=true:=by
  have h1:=N45_len hp
  have h2:=well_len hp
  have k1:ok80 p.variant p.turn=true:=t80 hp.v0 hp.t0
  have k2:ok45 p=true:=t45 hp
  have k3:okKept 85 p (N45 p)=true:=okKept_72 hp (by omega)
  have k4:okKept 87 p (kept 85 p (N45 p))=true:=okKept_73 hp (by rw [kept_72]; omega)
  have k5:(lp39_1 (kept 85 p (N45 p)) (Int.ofNat (kept 85 p (N45 p)).length) p 0).isSome=true:=(of_some (lp39 hp _ (by rw [kept_72]; omega))).1
  unfold ok39
  repeat' (first | with_reducible rfl | with_reducible exact k1 | with_reducible exact k2 | with_reducible exact k3 | with_reducible exact k4 | with_reducible exact k5 | with_reducible exact t81 _ _ | refine a_true ?_ (fun _ => ?_) | refine c_true (fun _ => ?_) (fun _ => ?_))
noncomputable def wouldL (p:Pos):List Mv:=bif p.variant==4 then bif ((N45 p).filter (N86 p)).any (N19 p) then ((N45 p).filter (N86 p)).filter (N19 p) else (N45 p).filter (N86 p) else (N45 p).filter (N86 p)
theorem N39_eq:N39 p=bif N80 p.variant p.turn then bif !N81 p p.turn then [] else wouldL p else wouldL p:=by
  have h2:=well_len hp
  unfold N39
  have e:=fun (x y:List Mv)=>lp39_any hp (kept 85 p (N45 p)) (by rw [kept_72]; omega) x y
  rw [e]
  unfold wouldL
  rw [kept_73,kept_72]
omit hp in
theorem wouldL_len' (hl:((N45 p).filter (N86 p)).length≤20802):(wouldL p).length≤20802:=by
  unfold wouldL
  refine c_ind (P:=fun l:List Mv=>l.length≤20802) (fun _=>c_ind (P:=fun l:List Mv=>l.length≤20802) (fun _=>Nat.le_trans (List.length_filter_le _ _) hl) fun _=>hl) fun _=>hl
theorem N39_len:(N39 p).length≤20802:=by
  have h:=wouldL_len' (well_len hp)
  rw [N39_eq hp]
  exact c_ind (P:=fun l:List Mv=>l.length≤20802) (fun _=>c_ind (P:=fun l:List Mv=>l.length≤20802) (fun _=>by simp) fun _=>h) fun _=>h
omit hp in
theorem lp143 (l:List Mv) (hl:l.length≤1000000) (q:Pos) (k:Int):(lp143_1 l (Int.ofNat l.length) q k 0).isSome=true:=by
  refine (of_some (Q:=fun _=>True) (lp_many (I:=fun x=>0≤x∧x≤(l.length:Int)) (μ:=fun x=>((l.length:Int) - x).toNat) ?_ _ ⟨by simp,by simp⟩ (by simp; omega))).1
  rintro n ⟨h0,h1⟩
  by_cases hc:n < l.length
  · refine ⟨c_true (fun _=>a_true (by simp [h0]; exact hc) fun _=>rfl) fun _=>rfl,c_ind (fun _ => ?_) fun h=>absurd h (by simpa using hc)⟩
    rw [wi64 (n:=n+1) (by omega) (by omega)]
    have go:Nxt (fun x:Int=>0≤x∧x≤(l.length:Int)) (fun _:Int ⊕ (Int×Bool)=>True) (fun x=>((l.length:Int) - x).toNat) ((l.length:Int) - n).toNat (.go (n+1)):=⟨⟨by omega,by omega⟩,by dsimp only; omega⟩
    exact c_ind (fun _=>c_ind (fun _=>trivial) fun _=>go) fun _=>go
  · exact ⟨c_true (fun h=>absurd h (by simpa using hc)) fun _=>rfl,c_ind (fun h=>absurd h (by simpa using hc)) fun _=>trivial⟩
theorem t143:ok143 p=true:=by
  have h:=N39_len hp
  have k1:ok39 p=true:=t39 hp
  have k2:(lp143_1 (N39 p) (Int.ofNat (N39 p).length) p (N106 p 1 6) 0).isSome=true:=lp143 _ (by omega) _ _
  unfold ok143
  repeat' (first | with_reducible rfl | with_reducible exact k1 | with_reducible exact k2 | with_reducible exact t106 _ _ _ | refine a_true ?_ (fun _ => ?_) | refine c_true (fun _ => ?_) (fun _ => ?_))
omit hp in
theorem t138:ok138 p=true:=a_true (t81 _ _) fun _=>rfl
theorem t139 (ht:p.turn≤1):ok139 p=true:=by
  have t0:=hp.t0
  unfold ok139
  rw [wu8 (n:=1 - p.turn) (by omega) (by omega)]
  refine a_true (by simp; omega) fun _=>c_true (fun _=>rfl) fun _=>a_true (by simp; omega) fun _=>rfl
omit hp in
theorem t140:ok140 p=true:=by
  unfold ok140
  repeat' (first | with_reducible rfl | with_reducible exact t106 _ _ _ | refine a_true ?_ (fun _ => ?_) | refine c_true (fun _ => ?_) (fun _ => ?_))
omit hp in
theorem t141:ok141 p=true:=a_true (t66 _ _ _) fun _=>rfl
omit hp in
theorem t142:ok142 p=true:=by
  unfold ok142
  repeat' (first | with_reducible rfl | with_reducible exact t66 _ _ _ | refine a_true ?_ (fun _ => ?_) | refine c_true (fun _ => ?_) (fun _ => ?_))
theorem t38:ok38 p=true:=by
  have v0:=hp.v0
  unfold ok38
  refine c_true (fun _=>rfl) fun h9=>c_true (fun _=>rfl) fun ht => ?_
  have h9:p.variant < 9:=by simpa using h9
  have ht:p.turn≤1:=by simpa using ht
  refine a_true (by simp; omega) fun _ => ?_
  have k3:=t138 (p:=p)
  have k4:=t142 (p:=p)
  have k5:=t139 hp ht
  have k6:=t140 (p:=p)
  have k7:=t141 (p:=p)
  have k8:=t143 hp
  refine c_true (fun _=>rfl) fun n0=>c_true (fun _=>rfl) fun n1=>c_true (fun _=>rfl) fun n2=>c_true (fun _=>a_true k3 fun _=>rfl) fun n3=>c_true (fun _=>a_true k4 fun _=>rfl) fun n4=>c_true (fun _=>a_true k5 fun _=>rfl) fun n5=>c_true (fun _=>a_true k6 fun _=>rfl) fun n6=>c_true (fun _=>a_true k7 fun _=>rfl) fun n7=>a_true ?_ fun _=>a_true k8 fun _=>rfl
  simp only [beq_eq_false_iff_ne,ne_eq,beq_iff_eq,Int.ofNat_eq_natCast] at *
  omega
theorem t18:ok18 p=true:=a_true (t38 hp) fun _=>c_true (fun _=>rfl) fun _=>a_true (t39 hp) fun _=>rfl
theorem N18_eq:N18 p=bif (N38 p).1 != 0 then [] else N39 p:=rfl
theorem N18_len:(N18 p).length≤20802:=by
  unfold N18
  exact c_ind (P:=fun l:List Mv=>l.length≤20802) (fun _=>by simp) fun _=>N39_len hp
end
end Kz
end
section
namespace Kz
open Go Go.RowKit Go.Proofs
set_option maxRecDepth 100000
set_option maxHeartbeats 4000000
noncomputable def K918:List (Nat×Nat×List (Nat×List Nat)):=[(18,9,[(0,[1]),(1,[1,6]),(2,[2]),(3,[2])]),(39,37,[(0,[1]),(1,[1,17]),(2,[2]),(3,[1,3]),(4,[1,3,4]),(5,[1,3,4,5]),(6,[3,4,5,31]),(7,[4]),(8,[2])]),(77,19,[(0,[0,1]),(1,[0,1,7,8]),(2,[0,1,7,8,9]),(3,[0,1,5,7,8]),(4,[0,1,5,7,8,16]),(5,[4]),(6,[0,1,7,8]),(7,[4])]),(82,9,[(0,[0,3]),(1,[4])]),(85,7,[(0,[1,2]),(1,[3])]),(87,7,[(0,[1,2]),(1,[3])]),(88,9,[(0,[0,1]),(1,[4])])]
noncomputable def B918_1:Base:=baseOf Pz (fun f i=>lkC f i K918) [(19,G19),(38,G38),(45,G45),(80,G80),(81,G81),(86,G86)] [] [(82,FK)]
theorem hB918_1:BOk B918_1:=base_ok named_z ⟨s19,s38,s45,s80,s81,s86,trivial⟩ trivial ⟨sFK,trivial⟩
noncomputable def S918_1 (p1:(List Mv)) (p2:Int) (p3:Pos) (p4:Pos) (x:(Int)):St:=St.mk (AV.list ET.mv p1 (Tk.own 2)::AV.func 87 [] [AV.ptr 1 0]::(an 5 (AV.int .i64 p2::AV.int .i64 x::(an 10 [])))) (Hp.mk [(pc p3 []),(pc p4 [])] [0,0,p1.length] [] 0 0 0)
noncomputable def O918_1 (p1:(List Mv)) (p2:Int) (p3:Pos) (p4:Pos):(Int) ⊕ (Int×Bool)→Out
  | (.inl (y))=>.ret (St.mk (an 4 (AV.int .i64 y::(an 14 []))) (Hp.mk [(pc p3 []),(pc p4 [])] [0,0,p1.length] [] 0 0 0))
  | (.inr (y))=>.exit 0 (St.mk (AV.list ET.mv p1 (Tk.own 2)::AV.func 87 [] [AV.ptr 1 0]::(an 5 (AV.int .i64 p2::AV.int .i64 y.fst::AV.bool y.snd::(an 9 [])))) (Hp.mk [(pc p3 []),(pc p4 [])] [0,0,p1.length] [] 0 0 0))
noncomputable def st918_1 (p1:(List Mv)) (p2:Int) (p3:Pos) (p4:Pos) (x:(Int)):Stp (Int) ((Int) ⊕ (Int×Bool)):=(bif decide (x < p2) then (bif N19 p4 (p1.getD x.toNat default) then (Stp.out (.inl ((x)))) else (Stp.go (wr .i64 (x+1)))) else (Stp.out (.inr ((x,decide (x < p2))))))
noncomputable def okL918_1 (p1:(List Mv)) (p2:Int) (p3:Pos) (p4:Pos) (x:(Int)):Bool:=(bif decide (x < p2) then (decide (0≤x)&&decide (x < Int.ofNat p1.length)&&(ok19 p4 (p1.getD x.toNat default)&&true)) else true)
noncomputable def lp918_1 (p1:(List Mv)) (p2:Int) (p3:Pos) (p4:Pos) (x:(Int)):Option ((Int) ⊕ (Int×Bool)):=itl (fun x=>bif okL918_1 p1 p2 p3 p4 x then st918_1 p1 p2 p3 p4 x else .bad) many x
abbrev D918_1 {α:Type} (k:(List Mv)→Int→Pos→Pos→(Int)→α) (s:St):α:=wP s 0 fun q0=>wP s 1 fun q1=>k (tL (ET.mv) (tT s 0)) (tI (tT s 7)) q0 q1 ((tI (tT s 8)))
theorem L918_1 (p1:(List Mv)) (p2:Int) (p3:Pos) (p4:Pos) (x:(Int)) (r:(Int) ⊕ (Int×Bool)) (h:lp918_1 p1 p2 p3 p4 x=some r):LSpec Pz (bodL Pz 77 2) (S918_1 p1 p2 p3 p4 x) (O918_1 p1 p2 p3 p4 r):=LSpec.smd (m:=12) (fn:=77) hB918_1 (D918_1 fun _ _ _ _ x=>some x) (fun o=>match o with | .ret s=>some (.inl (tI (tT s 4))) | .exit 0 s=>some (.inr ((tI (tT s 8)),(tB (tT s 9)))) | _=>none) (fun r=>by cases r <;> rfl) (fun _=>by kernel_rfl) (fun _=>by kernel_rfl) (fun _=>by kernel_rfl) (fun _=>by kernel_rfl) many x r h
noncomputable def F918_1 (b:Code) (s:St):Tr Out:=D918_1 (fun p1 p2 p3 p4 x=>lk2 b (bodL Pz 77 2) s (S918_1 p1 p2 p3 p4 x) (lp918_1 p1 p2 p3 p4 x) (O918_1 p1 p2 p3 p4)) s
theorem sF918_1:∀ b,LSound Pz b (F918_1 b):=fun _ _ _ h=>lk2_ok (L918_1 _ _ _ _ _) h
noncomputable def B918:Base:=baseOf Pz (fun f i=>lkC f i K918) [(19,G19),(38,G38),(45,G45),(80,G80),(81,G81),(86,G86)] [(77,2,F918_1)] [(82,FK)]
theorem hB918:BOk B918:=base_ok named_z ⟨s19,s38,s45,s80,s81,s86,trivial⟩ ⟨sF918_1,trivial⟩ ⟨sFK,trivial⟩
def shLen:FRes→Option (List Mv×Nat)
  | .ret (.list .mv m (.own k)) h=>(h.toks[k]?).map fun n=>(m,n)
  | _=>none
noncomputable def V918 (a:Pos):List Mv×Nat:=(bif (N38 a).fst != 0 then ([],0) else (bif N80 a.variant a.turn then (bif !N81 a a.turn then ([],0) else (bif a.variant==4 then (bif isL ((lp918_1 (kept 85 a (N45 a)) (Int.ofNat (kept 85 a (N45 a)).length) a a 0).getD default) then (bif decide (gl ((lp918_1 (kept 85 a (N45 a)) (Int.ofNat (kept 85 a (N45 a)).length) a a 0).getD default) ≥ 0) then ((kept 87 a (kept 85 a (N45 a))),(kept 87 a (kept 85 a (N45 a))).length) else ((kept 85 a (N45 a)),(kept 85 a (N45 a)).length)) else ((kept 85 a (N45 a)),(kept 85 a (N45 a)).length)) else ((kept 85 a (N45 a)),(kept 85 a (N45 a)).length))) else (bif a.variant==4 then (bif isL ((lp918_1 (kept 85 a (N45 a)) (Int.ofNat (kept 85 a (N45 a)).length) a a 0).getD default) then (bif decide (gl ((lp918_1 (kept 85 a (N45 a)) (Int.ofNat (kept 85 a (N45 a)).length) a a 0).getD default) ≥ 0) then ((kept 87 a (kept 85 a (N45 a))),(kept 87 a (kept 85 a (N45 a))).length) else ((kept 85 a (N45 a)),(kept 85 a (N45 a)).length)) else ((kept 85 a (N45 a)),(kept 85 a (N45 a)).length)) else ((kept 85 a (N45 a)),(kept 85 a (N45 a)).length))))
noncomputable def ok918 (a:Pos):Bool:=(ok38 a&&(bif (N38 a).fst != 0 then true else (ok80 a.variant a.turn&&(bif N80 a.variant a.turn then (ok81 a a.turn&&(bif !N81 a a.turn then true else (ok45 a&&(okKept 85 a (N45 a)&&(bif a.variant==4 then ((lp918_1 (kept 85 a (N45 a)) (Int.ofNat (kept 85 a (N45 a)).length) a a 0).isSome&&bif isL ((lp918_1 (kept 85 a (N45 a)) (Int.ofNat (kept 85 a (N45 a)).length) a a 0).getD default) then (bif decide (gl ((lp918_1 (kept 85 a (N45 a)) (Int.ofNat (kept 85 a (N45 a)).length) a a 0).getD default) ≥ 0) then (okKept 87 a (kept 85 a (N45 a))&&true) else true) else true) else true))))) else (ok45 a&&(okKept 85 a (N45 a)&&(bif a.variant==4 then ((lp918_1 (kept 85 a (N45 a)) (Int.ofNat (kept 85 a (N45 a)).length) a a 0).isSome&&bif isL ((lp918_1 (kept 85 a (N45 a)) (Int.ofNat (kept 85 a (N45 a)).length) a a 0).getD default) then (bif decide (gl ((lp918_1 (kept 85 a (N45 a)) (Int.ofNat (kept 85 a (N45 a)).length) a a 0).getD default) ≥ 0) then (okKept 87 a (kept 85 a (N45 a))&&true) else true) else true) else true)))))))
theorem Q918 (a:Pos):((evF B918 14 18 [Pos.av a] hp0).qt shLen).val=ok918 a:=by kernel_rfl
theorem W918 (a:Pos):(evF B918 14 18 [Pos.av a] hp0).vt shLen=V918 a:=by kernel_rfl
theorem lp918_eq (l:List Mv) (p:Pos):lp918_1 l (Int.ofNat l.length) p p 0=lp39_1 l (Int.ofNat l.length) p 0:=rfl
theorem ok918_t {p:Pos} (hp:PosIn p):ok918 p=true:=by
  have h1:=N45_len hp
  have h2:=well_len hp
  have k0:ok38 p=true:=t38 hp
  have k1:ok80 p.variant p.turn=true:=t80 hp.v0 hp.t0
  have k2:ok45 p=true:=t45 hp
  have k3:okKept 85 p (N45 p)=true:=okKept_72 hp (by omega)
  have k4:okKept 87 p (kept 85 p (N45 p))=true:=okKept_73 hp (by rw [kept_72]; omega)
  have k5:(lp39_1 (kept 85 p (N45 p)) (Int.ofNat (kept 85 p (N45 p)).length) p 0).isSome=true:=(of_some (lp39 hp _ (by rw [kept_72]; omega))).1
  unfold ok918
  rw [lp918_eq]
  repeat' (first | with_reducible rfl | with_reducible exact k0 | with_reducible exact k1 | with_reducible exact k2 | with_reducible exact k3 | with_reducible exact k4 | with_reducible exact k5 | with_reducible exact t81 _ _ | refine a_true ?_ (fun _ => ?_) | refine c_true (fun _ => ?_) (fun _ => ?_))
theorem bif_pair {b:Bool} {x y:List Mv} {u v:List Mv×Nat} (h1:u=(x,x.length)) (h2:v=(y,y.length)):(bif b then u else v)=((bif b then x else y),(bif b then x else y).length):=by
  cases b
  · exact h2
  · exact h1
theorem V918_eq (p:Pos):V918 p=(N18 p,(N18 p).length):=by
  unfold V918 N18 N39
  rw [lp918_eq]
  refine bif_pair rfl (bif_pair (bif_pair rfl (bif_pair (bif_pair (bif_pair rfl rfl) rfl) rfl)) (bif_pair (bif_pair (bif_pair rfl rfl) rfl) rfl))
theorem listM (p:Pos) (hp:PosIn p) (w:World) (hg:GlobOk w) (v:Value) (hv:Rep (gArg w) [] w (Pos.av p) v) :
    Calls Tryz.prog 18 #[v] w fun e w' => ∃ a cap,e=.returned (.slice a (N18 p).length cap)∧RowKit.Below w.heap.size w w'∧FreshRow w w' a cap (N18 p):=by
  obtain ⟨r,h1,h2⟩:=got_t (d:=shLen) (R:=fun r v=>shLen r=some v) (evF B918 14 18 [Pos.av p] hp0) (obl_ok (by kernel_rfl)) (fun a _ v hv=>hv) ((Q918 p).trans (ok918_t hp))
  rw [W918,V918_eq] at h2
  obtain ⟨hspec,_⟩:=(ev_ok hB918 14).1 _ _ _ _ h1
  unfold shLen at h2
  split at h2
  · rename_i m k h
    simp only [Option.map_eq_some_iff,Prod.mk.injEq] at h2
    obtain ⟨n0,hk,hml,hnl⟩:=h2
    subst hnl
    have hml':m=N18 p:=hml
    clear hml
    subst hml'
    refine (callsIn_wide.1 (hspec (gArg w) w #[v] (hp0_mr hg) (.cons hv .nil))).mono ?_
    rintro e w' ⟨g',x,rfl,nx,hx⟩
    generalize N18 p=l at *
    have hbase:g'.base=w.heap.size:=nx.le.base
    cases hx with
    | list hn hE hS hT hC =>
    rename_i a n cap cs
    subst hn
    have hcs:=mvs_cells hE
    obtain ⟨n',hn1,hn2,hown⟩:=hT k rfl
    rw [hk] at hn1
    simp only [Option.some.injEq] at hn1
    obtain ⟨ow,how,hOI⟩:=hown hn1
    refine ⟨a,cap,rfl,nx.le.below,?_⟩
    cases ow with
    | none =>
      obtain ⟨ha,hlen,hcap⟩:=hOI
      exact .inl ⟨ha,List.eq_nil_of_length_eq_zero hlen,hcap⟩
    | some t =>
      obtain ⟨b,cap',z'⟩:=t
      obtain ⟨rfl,rfl,rfl⟩:=hOI
      obtain ⟨_,cells,ty,_,_,hmax,hb,hblk,hsz,_,_⟩:=nx.mr.tok k b cap (esz .mv) how
      refine .inr ⟨b,ty,rfl,by omega,lt_of_some hblk,hC,hmax,rfl,rfl,rfl,Nat.le_refl _,fun _ _ _=>rfl,cells,hblk,hsz,fun j c hj hc => ?_⟩
      have hj':j < l.length:=by simpa using hj
      have h1:j * 5+c < l.length * 5:=by have:=Nat.mul_le_mul_right 5 (show j+1≤l.length from hj'); omega
      have hfl:=flat_get l j c hj' hc
      have ea:l.toArray[j]! = l[j]:=by simp [hj']
      have eb:l[j]! = l[j]:=by simp [hj']
      rw [ea]
      rw [eb] at hfl
      rcases hS with h0 | ⟨c',o',ha,hat,_⟩
      · exfalso
        have:=flat_len l
        rw [← hcs,h0] at this
        simp at this
        omega
      · simp only [Option.some.injEq,Addr.mk.injEq,and_true] at ha
        obtain ⟨rfl,rfl⟩:=ha
        have hx:cs[j * 5+c]?=(encM l[j])[c]? := by rw [hcs]; exact hfl
        obtain ⟨u,hu⟩:∃ u,(encM l[j])[c]?=some u:=⟨_,List.getElem?_eq_getElem (show c < (encM l[j]).length from hc)⟩
        obtain ⟨k1,_⟩:=hat (j * 5+c) u (by rw [hx,hu])
        rw [cell_of_blk hblk,Nat.zero_add] at k1
        rw [k1]
        simp [hu]
  · cases h2
end Kz
end
