/- Part 6 of the texts under the proof: an abstract interpreter,the summaries of functions,plain laws. -/
import Derived.Test.YteikjjgonhlndaaGreatDoorR5
import Derived.Deep.RegionWith
set_option linter.unusedSectionVars false
set_option linter.unusedVariables false
set_option linter.unusedSimpArgs false
set_option linter.unnecessarySimpa false
section
namespace Go.Proofs
open Go.Shelf Go.RowKit Go.Lib Go.Sort Kz
noncomputable def srt (p:Pos) (l:List Mv):List Mv:=(stab (ltC fun a b=>N72 a b p) l.toArray).toList
theorem srt_perm (p:Pos) (l:List Mv):(srt p l).Perm l:=by
  have h:=stab_pm (ltC fun a b=>N72 a b p) l.toArray
  unfold Pm at h
  simpa [srt] using h
theorem srt_len (p:Pos) (l:List Mv):(srt p l).length=l.length:=(srt_perm p l).length_eq
theorem globOk_of {w W:World} (hg:GlobOk w) (hs:w.heap.size≤W.heap.size) (h:∀ k,k < w.heap.size→W.heap[k]?=w.heap[k]?):GlobOk W:=by
  intro pr hpr j x hj
  obtain ⟨h1,h2⟩:=hg pr hpr j x hj
  have hlt:pr.1 < w.heap.size:=h2
  exact ⟨by rw [cell_same (h _ hlt)]; exact h1,Nat.lt_of_lt_of_le hlt hs⟩
set_option maxRecDepth 100000 in
theorem rowL (p:Pos) (w w0:World) (hg:GlobOk w) (hb:RowKit.Below w.heap.size w w0) (blk cap:Nat) (ty:TypeId) (hblk:w.heap.size≤blk) (pb po:Nat) (pcs:List Value) (hp:RepC (gArg w) [] w (segs (Pos.av p)) pcs) (hpb:pb < w.heap.size) (hc:∀ j x,pcs[j]?=some x→w.cell? ⟨pb,po+j,none⟩=some x) :
    RowL 72 #[.pointer (some ⟨pb,po,none⟩)] (fun a b=>N72 a b p) blk 0 5 encM (fun d W=>RowW w0 blk cap ty d W∧d.size≤cap):=by
  have ld:∀ {d:Array Mv} {W:World},RowW w0 blk cap ty d W→∀ i,i < d.size→Sem.run Tryz.prog (loadCellsFrom ⟨blk,0+i * 5,none⟩ 0 5 #[]) W=.ok (encM d[i]!).toArray W:=fun h i hi=>h.load hi
  have st:∀ {d:Array Mv} {W:World},RowW w0 blk cap ty d W→d.size≤cap→∀ i,i < d.size→∀ y:Mv,Sem.run Tryz.prog (storeCells ⟨blk,0+i * 5,none⟩ (encM y) 0) W=.ok () (W.setCells blk (0+i * 5) (encM y)):=by
    intro d W h hs i hi y
    obtain ⟨cur,k1,k2,k3⟩:=h.row
    have:=run_storeCells_cells (P:=Tryz.prog) blk (0+i * 5) (encM y) 0 W (fun j hj => ?_) (fun j hj=>frozen_of_blk k1) (encM_one y)
    · rwa [Nat.add_zero] at this
    · rw [encM_len] at hj
      rw [cell_of_blk k1]
      have h5:i * 5+j < cap * 5:=by have:=Nat.mul_le_mul_right 5 (show i+1≤cap by omega); omega
      rw [show 0+i * 5+0+j=i * 5+j by omega,Array.getElem?_eq_getElem (by omega)]
      rfl
  have pt:∀ {d:Array Mv} {W:World},RowW w0 blk cap ty d W→d.size≤cap→∀ i,i < d.size→∀ y:Mv,RowW w0 blk cap ty (d.setIfInBounds i y) (W.setCells blk (0+i * 5) (encM y)):=by
    intro d W h hs i hi y
    rw [Nat.zero_add]
    exact h.put hi hs y
  have hbs:∀ {d:Array Mv} {W:World},RowW w0 blk cap ty d W→blk < W.heap.size:=fun h=>by
    obtain ⟨cur,k1,_⟩:=h.row
    exact lt_of_some k1
  refine ⟨encM_len,fun h i hi=>ld h.1 i hi,fun h=>⟨⟨h.1.os,h.1.tape,h.1.output,h.1.size,h.1.other,h.1.row⟩,h.2⟩,fun h i hi y=>st h.1 h.2 i hi y,fun h i j hi hj y x=>st (pt h.1 h.2 i hi y) (by simpa using h.2) j (by simpa using hj) x,fun {d W} h i j hi hj=>⟨?_,by rw [size_swp]; exact h.2⟩,fun {d W} h x y => ?_,fun _ _=>rfl⟩
  · exact pt (pt h.1 h.2 i hi d[j]!) (by simpa using h.2) j (by simpa using hj) d[i]!
  · have old:∀ k,k < w.heap.size→W.heap[k]?=w.heap[k]? := fun k hk=>by
      rw [h.1.other k (Nat.lt_of_lt_of_le hk hb.size) (by omega),hb.block k hk]
    have hsz:w.heap.size≤W.heap.size:=Nat.le_trans hb.size h.1.size
    have hs:=S72 x y p
    unfold PureSpec at hs
    have hgW:GlobOk W:=globOk_of hg hsz old
    obtain ⟨args,ha⟩:∃ args:Array Value,args=#[Value.agg (encM x).toArray,Value.agg (encM y).toArray]++#[Value.pointer (some ⟨pb,po,none⟩)]:=⟨_,rfl⟩
    rw [← ha]
    refine Calls.mono (callsIn_wide.1 (hs W args hgW ?_)) ?_
    · have e:(#[Value.agg (encM x).toArray,Value.agg (encM y).toArray]++#[Value.pointer (some ⟨pb,po,none⟩)]).toList=[Value.agg (encM x).toArray,Value.agg (encM y).toArray,Value.pointer (some ⟨pb,po,none⟩)]:=by simp
      rw [ha,e]
      have r1:Rep (gArg W) [] W (Mv.av x) (Value.agg (encM x).toArray) := .agg (mv_rep _ _ _ x)
      have r2:Rep (gArg W) [] W (Mv.av y) (Value.agg (encM y).toArray) := .agg (mv_rep _ _ _ y)
      refine .cons r1 (.cons r2 (.cons (.ptrf (cs:=pcs) (pos_rep hp) ?_) .nil))
      intro j u hj
      exact ⟨by rw [cell_same (old _ hpb)]; exact hc j u hj,Nat.lt_of_lt_of_le hpb hsz⟩
    · rintro e w' ⟨v,rfl,hbw,hv⟩
      cases hv
      refine ⟨rfl,⟨hbw.os.trans h.1.os,hbw.tape.trans h.1.tape,hbw.output.trans h.1.output,Nat.le_trans h.1.size hbw.size,fun k hk hn=>by rw [hbw.block k (Nat.lt_of_lt_of_le hk h.1.size)]; exact h.1.other k hk hn,?_⟩,h.2⟩
      obtain ⟨cur,k1,k2⟩:=h.1.row
      exact ⟨cur,by rw [hbw.block blk (lt_of_some k1)]; exact k1,k2⟩
set_option maxHeartbeats 2000000 in
set_option maxRecDepth 100000 in
theorem ins0 (a:Option Addr) (c:Nat) (fv:Value) (w:World):Calls Tryz.prog 170 #[.slice a 0 c,.int .i64 0,.int .i64 0,fv] w fun e w'=>e=.returned (.tuple #[])∧w'=w:=by
  go_enter Tryz.func170,Tryz.ntmps170
  go_wp2
  go_loopg [8] 0 (fun _ s8 wr=>s8=.int .i64 1∧wr=w)
  case atStart=>exact ⟨rfl,rfl⟩
  case round =>
    obtain ⟨rfl,rfl⟩:=hrel
    go_wp2
    go_end0
    exact ⟨rfl,rfl⟩
set_option maxHeartbeats 2000000 in
set_option maxRecDepth 100000 in
theorem stab0 (a:Option Addr) (c:Nat) (fv:Value) (w:World):Calls Tryz.prog 134 #[.slice a 0 c,.int .i64 0,fv] w fun e w'=>e=.returned (.tuple #[])∧w'=w:=by
  have h:=ins0 a c fv w
  go_enter Tryz.func134,Tryz.ntmps134
  go_wp2
  go_loopg [7,8] 0 (fun _ s7 s8 wr=>s7=.int .i64 0∧s8=.int .i64 20∧wr=w)
  case atStart=>exact ⟨rfl,rfl,rfl⟩
  case round =>
    obtain ⟨rfl,rfl,rfl⟩:=hrel
    go_wp2_with fail
    refine h.mono ?_
    rintro e w' ⟨rfl,rfl⟩
    clear h
    go_wp2
    go_loopg [6] 0 (fun _ s6 wr=>s6=.int .i64 20∧wr=w')
    case atStart=>exact ⟨rfl,rfl⟩
    case round =>
      obtain ⟨rfl,rfl⟩:=hrel
      go_wp2
      go_end0
      exact ⟨rfl,rfl⟩
set_option maxHeartbeats 2000000 in
set_option maxRecDepth 100000 in
theorem sort0 (a:Option Addr) (c:Nat) (fv:Value) (w:World):Calls Tryz.prog 71 #[.slice a 0 c,fv] w fun e w'=>e=.returned (.tuple #[])∧w'=w:=by
  have h:=stab0 a c fv w
  go_enter Tryz.func71,Tryz.ntmps71
  go_wp2_with fail
  refine h.mono ?_
  rintro e w' ⟨rfl,rfl⟩
  go_wp2
  go_end0
  exact ⟨rfl,rfl⟩
set_option maxHeartbeats 4000000 in
set_option maxRecDepth 100000 in
theorem sortM (p:Pos) (l:List Mv) (hl:l.length≤lim):PureSpec Tryz.prog 34 [Pos.av p,.list .mv l .arg] (.list .mv (srt p l) .fresh):=by
  intro w vals hg hr
  obtain ⟨vals⟩:=vals
  cases hr with
  | cons q1 r1 =>
  cases r1 with
  | cons q2 r2 =>
  cases r2
  obtain ⟨pcs,rfl,hpc⟩:=Rep.inv_agg (l:=segs (Pos.av p)) q1
  cases q2 with
  | list hn hE hS hT hC =>
  rename_i a n cap cs
  subst hn
  clear q1
  refine callsIn_wide.2 ?_
  have hw1:RowKit.Below w.heap.size w ((w.alloc (Obj.cells pcs 34)).alloc (Obj.cells #[Value.slice a l.length cap] 40)):=((Below.refl _ w).alloc (Nat.le_refl _) _).alloc (by simp) _
  have hs1:((w.alloc (Obj.cells pcs 34)).alloc (Obj.cells #[Value.slice a l.length cap] 40)).heap.size=w.heap.size+2:=by simp
  have hg1:GlobOk ((w.alloc (Obj.cells pcs 34)).alloc (Obj.cells #[Value.slice a l.length cap] 40)):=globOk_of hg hw1.size hw1.block
  have hbp:((w.alloc (Obj.cells pcs 34)).alloc (Obj.cells #[Value.slice a l.length cap] 40)).heap[w.heap.size]?=some (.cells pcs 34 (0,0)):=by
    have h0:=Below.heap_alloc (w.alloc (Obj.cells pcs 34)) (Obj.cells #[Value.slice a l.length cap] 40) w.heap.size (by simp)
    rw [h0]
    exact heap_alloc_new w _
  have hbs:((w.alloc (Obj.cells pcs 34)).alloc (Obj.cells #[Value.slice a l.length cap] 40)).heap[w.heap.size+1]?=some (.cells #[Value.slice a l.length cap] 40 (0,0)):=by
    have h0:=heap_alloc_new (w.alloc (Obj.cells pcs 34)) (Obj.cells #[Value.slice a l.length cap] 40)
    have h1:(w.alloc (Obj.cells pcs 34)).heap.size=w.heap.size+1:=by simp
    rw [h1] at h0
    exact h0
  have hcs:=mvs_cells hE
  have hrl:Rep (gArg ((w.alloc (Obj.cells pcs 34)).alloc (Obj.cells #[Value.slice a l.length cap] 40))) [] ((w.alloc (Obj.cells pcs 34)).alloc (Obj.cells #[Value.slice a l.length cap] 40)) (.list .mv l .arg) (.slice a l.length cap):=by
    refine .list (cs:=cs) rfl (by rw [hcs]; exact mvs_rep _ _ _ _) (hS.imp id fun ⟨c,o,e1,e2,_⟩=>⟨c,o,e1,fun j x hj => ?_,fun f=>absurd rfl f⟩) (fun k e=>by cases e) hC
    obtain ⟨k1,k2⟩:=e2 j x hj
    have hlt:c < w.heap.size:=k2
    exact ⟨by rw [cell_same (hw1.block _ hlt)]; exact k1,by show c < _; omega⟩
  have hj:=joinM l hl _ hg1 (.slice (some ⟨w.heap.size+1,0,none⟩) 1 1) (.vlist (cs:=[.slice a l.length cap]) rfl (.cons rfl rfl (.one rfl hrl .nil) .nil) (.inr ⟨w.heap.size+1,0,rfl,fun j x hj=>by
    refine ⟨?_,?_⟩
    · rw [cell_of_blk hbs,Nat.zero_add]
      simpa using hj
    · show w.heap.size+1 < _
      omega,fun f=>by cases f⟩) (Nat.le_refl _))
  have hsort:∀ (a':Option Addr) (cap':Nat) (w2:World),RowKit.Below ((w.alloc (Obj.cells pcs 34)).alloc (Obj.cells #[Value.slice a l.length cap] 40)).heap.size ((w.alloc (Obj.cells pcs 34)).alloc (Obj.cells #[Value.slice a l.length cap] 40)) w2 →
      ((a'=none∧l=[])∨∃ b ty,a'=some ⟨b,0,none⟩∧((w.alloc (Obj.cells pcs 34)).alloc (Obj.cells #[Value.slice a l.length cap] 40)).heap.size≤b∧b < w2.heap.size∧l.length≤cap'∧RowW w2 b cap' ty l.toArray w2) →
      Calls Tryz.prog 71 #[.slice a' l.length cap',.func (.func 72) #[] #[.pointer (some ⟨w.heap.size,0,none⟩)]] w2 fun e w'=>e=.returned (.tuple #[])∧RowKit.Below w.heap.size w w'∧Rep (gRes w w') [] w' (.list .mv (srt p l) .fresh) (.slice a' l.length cap'):=by
    intro a' cap' w2 hb2 hx
    have hb02:RowKit.Below w.heap.size w w2:=hw1.trans (hb2.mono (by omega))
    rcases hx with ⟨rfl,rfl⟩ | ⟨b,ty,rfl,k1,k2,k3,hrow⟩
    · refine (sort0 none cap' _ w2).mono ?_
      rintro e w' ⟨rfl,rfl⟩
      refine ⟨rfl,hb02,?_⟩
      have e0:srt p []=[]:=List.eq_nil_of_length_eq_zero (by rw [srt_len]; rfl)
      rw [e0]
      exact .list (cs:=[]) rfl .nil (.inl rfl) (fun k e=>by cases e) (Nat.zero_le _)
    · obtain ⟨i0,z,a1,a2,a3,a4,a5⟩:=info44
      have hp2:∀ j x,pcs.toList[j]?=some x→((w.alloc (Obj.cells pcs 34)).alloc (Obj.cells #[Value.slice a l.length cap] 40)).cell? ⟨w.heap.size,0+j,none⟩=some x:=fun j x hj=>by
        rw [cell_of_blk hbp,Nat.zero_add]
        simpa using hj
      have L:=rowL p _ w2 hg1 hb2 b cap' ty k1 w.heap.size 0 pcs.toList (pos_rep hpc) (by omega) hp2
      have hs:=sortStable_w L (fun w=>Tryz.isAgg44 w) (fun w=>Tryz.sizeOf44 w) cap' l.length l.toArray w2 (by simp) ⟨hrow,by simpa using k3⟩ (by unfold lim at hl; omega)
      refine hs.mono ?_
      rintro e w' ⟨rfl,hR,_⟩
      obtain ⟨cur,c1,c2,c3⟩:=hR.row
      refine ⟨rfl,⟨hR.os.trans hb02.os,hR.tape.trans hb02.tape,hR.output.trans hb02.output,Nat.le_trans hb02.size hR.size,fun k hk=>by
        rw [hR.other k (by have:=hb02.size; omega) (by omega),hb02.block k hk]⟩,?_⟩
      have hlen:(srt p l).length=l.length:=srt_len p l
      refine .list (cs:=(srt p l).flatMap encM) hlen.symm (mvs_rep _ _ _ _) (.inr ⟨b,0,rfl,fun j x hj => ?_,fun _=>by show w.heap.size≤b; omega⟩) (fun k e=>by cases e) (by omega)
      have hjl:j < (srt p l).length * 5:=by rw [← flat_len]; exact (List.getElem?_eq_some_iff.1 hj).1
      have hdm:j=j / 5 * 5+j % 5:=by omega
      have hq5:j / 5 < (srt p l).length:=by omega
      have hfl:=flat_get (srt p l) (j / 5) (j % 5) hq5 (Nat.mod_lt _ (by omega))
      rw [← hdm,hj] at hfl
      refine ⟨?_,show w.heap.size≤b∧b < w'.heap.size from ⟨by omega,lt_of_some c1⟩⟩
      rw [cell_of_blk c1,Nat.zero_add]
      have h3:=c3 (j / 5) (j % 5) (show j / 5 < (stab (ltC fun a b=>N72 a b p) l.toArray).toList.length from hq5) (Nat.mod_lt _ (by omega))
      rw [← hdm] at h3
      rw [h3,hfl]
      congr 2
      have ea:(srt p l)[j / 5]! = (srt p l)[j / 5]:=by simp [hq5]
      rw [ea]
      have hq6:j / 5 < (stab (ltC fun a b=>N72 a b p) l.toArray).size:=hq5
      have eb:=getElem!_pos (stab (ltC fun a b=>N72 a b p) l.toArray) (j / 5) hq6
      rw [eb]
      simp [srt]
  have HJ:=Lib.hid hj
  have HS:=Lib.hid hsort
  clear hw1 hs1 hg1 hbp hbs hcs hrl hj hsort hS hT hE hC hpc hg
  go_enter Tryz.func34,Tryz.ntmps34
  go_wp2_with fail
  refine HJ.out.mono ?_
  rintro e w2 ⟨a',cap',rfl,hb2,hx⟩
  have hc:=HS.out a' cap' w2 hb2 hx
  clear HJ HS hb2 hx
  go_wp2_with fail
  refine hc.mono ?_
  rintro e w3 ⟨rfl,hb3,hr3⟩
  have HB:=Lib.hid hb3
  have HR:=Lib.hid hr3
  clear hb3 hr3 hc
  go_wp2_with fail
  go_ret
  exact ⟨_,rfl,HB.out,HR.out⟩
end Go.Proofs
end
section
namespace Kz
open Go Go.RowKit Go.Proofs
set_option maxRecDepth 100000
set_option maxHeartbeats 4000000
noncomputable def K55:List (Nat×Nat×List (Nat×List Nat)):=[]
noncomputable def B55:Base:=baseOf Pz (fun f i=>lkC f i K55) [] [] []
theorem hB55:BOk B55:=base_ok named_z trivial trivial trivial
noncomputable def V66:AV:=AV.agg [AV.func 38 [] [],AV.func 111 [] [],AV.func 112 [] [],AV.func 113 [] []]
noncomputable def ok55:Bool:=true
theorem E55:evPure B55 14 55 []=Tr.ret V66:=by kernel_rfl
theorem P55 (_:ok55=true):PS Pz 55 [] V66:=evPure_ok hB55 (by rw [E55]; rfl)
noncomputable def G55:List AV→Tr AV:=g0 (.ret V66)
theorem s55:Sound Pz 55 G55:=sound0 (at_rt (P55 rfl))
noncomputable def K160:List (Nat×Nat×List (Nat×List Nat)):=[(160,5,[(0,[0,2]),(1,[2])])]
noncomputable def B160:Base:=baseOf Pz (fun f i=>lkC f i K160) [] [] []
theorem hB160:BOk B160:=base_ok named_z trivial trivial trivial
noncomputable def N160 (a:Int):(Int×Int):=⟨(3),(a)⟩
noncomputable def ok160 (a:Int):Bool:=true
theorem P160 (a:Int) (h:ok160 a=true):PS Pz 160 [.int .u8 a] ((dR .u8 .u8).res (N160 a)):=ps_sum (n:=14) hB160 (by kernel_rfl) (by kernel_rfl) (by kernel_rfl) h
noncomputable def G160:List AV→Tr AV:=g1 (dI .u8) (fun a=>.ret ((dR .u8 .u8).res (N160 a)))
theorem s160:Sound Pz 160 G160:=sound1 fun a=>at_rt (P160 a rfl)
noncomputable def K111:List (Nat×Nat×List (Nat×List Nat)):=[(111,26,[(0,[1,2]),(1,[1,2,6]),(2,[2]),(3,[1,2,8]),(4,[2]),(5,[1,2,16]),(6,[2]),(7,[2])])]
noncomputable def B111:Base:=baseOf Pz (fun f i=>lkC f i K111) [(18,G18),(109,G109),(160,G160)] [] []
theorem hB111:BOk B111:=base_ok named_z ⟨s18,s109,s160,trivial⟩ trivial trivial
noncomputable def N111 (a:Pos):(Int×Int):=(bif decide (Int.ofNat (N18 a).length > 0) then ⟨(0),(0)⟩ else (bif a.variant==4 then ⟨(wr .u8 (1+a.turn)),(8)⟩ else (bif N109 a a.turn then ⟨(wr .u8 (2 - a.turn)),(1)⟩ else ⟨((N160 2).fst),((N160 2).snd)⟩)))
noncomputable def ok111 (a:Pos):Bool:=(ok18 (a)&&(bif decide (Int.ofNat (N18 a).length > 0) then true else (bif a.variant==4 then true else (ok109 (a) (a.turn)&&true))))
theorem P111 (a:Pos) (h:ok111 a=true):PS Pz 111 [Pos.av a] ((dR .u8 .u8).res (N111 a)):=ps_sum (n:=14) hB111 (by kernel_rfl) (by kernel_rfl) (by kernel_rfl) h
noncomputable def G111:List AV→Tr AV:=g1 dPos (fun a=>gdv (ok111 a) ((dR .u8 .u8).res (N111 a)))
theorem s111:Sound Pz 111 G111:=sound1 fun a=>at_gd (P111 a)
noncomputable def K191:List (Nat×Nat×List (Nat×List Nat)):=[(191,12,[(0,[1,2]),(1,[4])])]
noncomputable def B191:Base:=baseOf Pz (fun f i=>lkC f i K191) [(66,G66)] [] []
theorem hB191:BOk B191:=base_ok named_z ⟨s66,trivial⟩ trivial trivial
noncomputable def N191 (a:Pos) (b:Int):BitVec 64:=(N66 (Pos.mk a.variant a.board a.promoted a.pockets a.turn a.rooks a.passing a.checks a.half a.full) 0 b|||N66 (Pos.mk a.variant a.board a.promoted a.pockets a.turn a.rooks a.passing a.checks a.half a.full) 1 b)
noncomputable def ok191 (a:Pos) (b:Int):Bool:=(ok66 (Pos.mk a.variant a.board a.promoted a.pockets a.turn a.rooks a.passing a.checks a.half a.full) (0) (b)&&(ok66 (Pos.mk a.variant a.board a.promoted a.pockets a.turn a.rooks a.passing a.checks a.half a.full) (1) (b)&&true))
theorem P191 (a:Pos) (b:Int) (h:ok191 a b=true):PS Pz 191 [Pos.av a,.int .u8 b] (dU.res (N191 a b)):=ps_sum (n:=14) hB191 (by kernel_rfl) (by kernel_rfl) (by kernel_rfl) h
noncomputable def G191:List AV→Tr AV:=g2 dPos (dI .u8) (fun a b=>gdv (ok191 a b) (dU.res (N191 a b)))
theorem s191:Sound Pz 191 G191:=sound2 fun a b=>at_gd (P191 a b)
noncomputable def K192:List (Nat×Nat×List (Nat×List Nat)):=[(192,35,[(0,[0]),(1,[0]),(2,[0]),(3,[0]),(4,[0]),(5,[0]),(6,[0]),(7,[2])])]
noncomputable def B192:Base:=baseOf Pz (fun f i=>lkC f i K192) [] [] []
theorem hB192:BOk B192:=base_ok named_z trivial trivial trivial
noncomputable def N192 (a:BitVec 64):Int:=(ibits BinOp.and .i64 (wr .i64 ↑((((((a >>> 1&&&6148914691236517205#64)+(a&&&6148914691236517205#64)) >>> 2&&&3689348814741910323#64)+((a >>> 1&&&6148914691236517205#64)+(a&&&6148914691236517205#64)&&&3689348814741910323#64)) >>> 4+((((a >>> 1&&&6148914691236517205#64)+(a&&&6148914691236517205#64)) >>> 2&&&3689348814741910323#64)+((a >>> 1&&&6148914691236517205#64)+(a&&&6148914691236517205#64)&&&3689348814741910323#64))&&&1085102592571150095#64)+(((((a >>> 1&&&6148914691236517205#64)+(a&&&6148914691236517205#64)) >>> 2&&&3689348814741910323#64)+((a >>> 1&&&6148914691236517205#64)+(a&&&6148914691236517205#64)&&&3689348814741910323#64)) >>> 4+((((a >>> 1&&&6148914691236517205#64)+(a&&&6148914691236517205#64)) >>> 2&&&3689348814741910323#64)+((a >>> 1&&&6148914691236517205#64)+(a&&&6148914691236517205#64)&&&3689348814741910323#64))&&&1085102592571150095#64) >>> 8+((((((a >>> 1&&&6148914691236517205#64)+(a&&&6148914691236517205#64)) >>> 2&&&3689348814741910323#64)+((a >>> 1&&&6148914691236517205#64)+(a&&&6148914691236517205#64)&&&3689348814741910323#64)) >>> 4+((((a >>> 1&&&6148914691236517205#64)+(a&&&6148914691236517205#64)) >>> 2&&&3689348814741910323#64)+((a >>> 1&&&6148914691236517205#64)+(a&&&6148914691236517205#64)&&&3689348814741910323#64))&&&1085102592571150095#64)+(((((a >>> 1&&&6148914691236517205#64)+(a&&&6148914691236517205#64)) >>> 2&&&3689348814741910323#64)+((a >>> 1&&&6148914691236517205#64)+(a&&&6148914691236517205#64)&&&3689348814741910323#64)) >>> 4+((((a >>> 1&&&6148914691236517205#64)+(a&&&6148914691236517205#64)) >>> 2&&&3689348814741910323#64)+((a >>> 1&&&6148914691236517205#64)+(a&&&6148914691236517205#64)&&&3689348814741910323#64))&&&1085102592571150095#64) >>> 8) >>> 16+((((((a >>> 1&&&6148914691236517205#64)+(a&&&6148914691236517205#64)) >>> 2&&&3689348814741910323#64)+((a >>> 1&&&6148914691236517205#64)+(a&&&6148914691236517205#64)&&&3689348814741910323#64)) >>> 4+((((a >>> 1&&&6148914691236517205#64)+(a&&&6148914691236517205#64)) >>> 2&&&3689348814741910323#64)+((a >>> 1&&&6148914691236517205#64)+(a&&&6148914691236517205#64)&&&3689348814741910323#64))&&&1085102592571150095#64)+(((((a >>> 1&&&6148914691236517205#64)+(a&&&6148914691236517205#64)) >>> 2&&&3689348814741910323#64)+((a >>> 1&&&6148914691236517205#64)+(a&&&6148914691236517205#64)&&&3689348814741910323#64)) >>> 4+((((a >>> 1&&&6148914691236517205#64)+(a&&&6148914691236517205#64)) >>> 2&&&3689348814741910323#64)+((a >>> 1&&&6148914691236517205#64)+(a&&&6148914691236517205#64)&&&3689348814741910323#64))&&&1085102592571150095#64) >>> 8+((((((a >>> 1&&&6148914691236517205#64)+(a&&&6148914691236517205#64)) >>> 2&&&3689348814741910323#64)+((a >>> 1&&&6148914691236517205#64)+(a&&&6148914691236517205#64)&&&3689348814741910323#64)) >>> 4+((((a >>> 1&&&6148914691236517205#64)+(a&&&6148914691236517205#64)) >>> 2&&&3689348814741910323#64)+((a >>> 1&&&6148914691236517205#64)+(a&&&6148914691236517205#64)&&&3689348814741910323#64))&&&1085102592571150095#64)+(((((a >>> 1&&&6148914691236517205#64)+(a&&&6148914691236517205#64)) >>> 2&&&3689348814741910323#64)+((a >>> 1&&&6148914691236517205#64)+(a&&&6148914691236517205#64)&&&3689348814741910323#64)) >>> 4+((((a >>> 1&&&6148914691236517205#64)+(a&&&6148914691236517205#64)) >>> 2&&&3689348814741910323#64)+((a >>> 1&&&6148914691236517205#64)+(a&&&6148914691236517205#64)&&&3689348814741910323#64))&&&1085102592571150095#64) >>> 8) >>> 16) >>> 32).toNat) 127)
noncomputable def ok192 (a:BitVec 64):Bool:=true
theorem P192 (a:BitVec 64) (h:ok192 a=true):PS Pz 192 [.u64 a] ((dI .i64).res (N192 a)):=ps_sum (n:=14) hB192 (by kernel_rfl) (by kernel_rfl) (by kernel_rfl) h
noncomputable def G192:List AV→Tr AV:=g1 dU (fun a=>.ret ((dI .i64).res (N192 a)))
theorem s192:Sound Pz 192 G192:=sound1 fun a=>at_rt (P192 a rfl)
noncomputable def K161:List (Nat×Nat×List (Nat×List Nat)):=[(161,68,[(0,(1::(rn 32 13 [59,60,61,64,65,66]))),(1,(1::3::(rn 32 13 [59,60,61,64,65,66]))),(2,(1::3::11::(rn 32 13 [59,60,61,64,65,66]))),(3,(1::3::11::12::(rn 32 13 [59,60,61,64,65,66]))),(4,(1::3::11::12::(rn 32 13 [59,60,61,64,65,66]))),(5,(1::4::(rn 32 13 []))),(6,(1::4::5::(rn 32 13 []))),(7,(4::5::27::(rn 32 13 []))),(8,[2]),(9,[2]),(10,[1,3,11,46,59,60,61,64,65,66]),(11,[1,3,46,59,60,61,64,65,66]),(12,[3,6,7,59,60,61,64,65,66]),(13,[2]),(14,[2])])]
noncomputable def B161:Base:=baseOf Pz (fun f i=>lkC f i K161) [(151,G151),(191,G191),(192,G192),(66,G66)] [] []
theorem hB161:BOk B161:=base_ok named_z ⟨s151,s191,s192,s66,trivial⟩ trivial trivial
noncomputable def N161 (a:Pos):Bool:=(bif a.variant==0 then (bif a.variant==0 then (bif N151 (Pos.mk a.variant a.board a.promoted a.pockets a.turn a.rooks a.passing a.checks a.half a.full) &&& ~~~N191 (Pos.mk a.variant a.board a.promoted a.pockets a.turn a.rooks a.passing a.checks a.half a.full) 6 &&& ~~~N191 (Pos.mk a.variant a.board a.promoted a.pockets a.turn a.rooks a.passing a.checks a.half a.full) 3 &&& ~~~N191 (Pos.mk a.variant a.board a.promoted a.pockets a.turn a.rooks a.passing a.checks a.half a.full) 2 != 0#64 then (false) else (bif decide (N192 (N151 (Pos.mk a.variant a.board a.promoted a.pockets a.turn a.rooks a.passing a.checks a.half a.full) &&& ~~~N191 (Pos.mk a.variant a.board a.promoted a.pockets a.turn a.rooks a.passing a.checks a.half a.full) 6)≤1) then (true) else (bif N151 (Pos.mk a.variant a.board a.promoted a.pockets a.turn a.rooks a.passing a.checks a.half a.full) &&& ~~~N191 (Pos.mk a.variant a.board a.promoted a.pockets a.turn a.rooks a.passing a.checks a.half a.full) 6==N191 (Pos.mk a.variant a.board a.promoted a.pockets a.turn a.rooks a.passing a.checks a.half a.full) 3 then (bif N151 (Pos.mk a.variant a.board a.promoted a.pockets a.turn a.rooks a.passing a.checks a.half a.full) &&& ~~~N191 (Pos.mk a.variant a.board a.promoted a.pockets a.turn a.rooks a.passing a.checks a.half a.full) 6&&&6172840429334713770#64==0#64 then (true) else (N151 (Pos.mk a.variant a.board a.promoted a.pockets a.turn a.rooks a.passing a.checks a.half a.full) &&& ~~~N191 (Pos.mk a.variant a.board a.promoted a.pockets a.turn a.rooks a.passing a.checks a.half a.full) 6 &&& ~~~6172840429334713770#64==0#64)) else (false)))) else (bif a.variant==3 then (bif a.variant==3 then (bif N151 (Pos.mk a.variant a.board a.promoted a.pockets a.turn a.rooks a.passing a.checks a.half a.full)==N66 (Pos.mk a.variant a.board a.promoted a.pockets a.turn a.rooks a.passing a.checks a.half a.full) 0 6|||N66 (Pos.mk a.variant a.board a.promoted a.pockets a.turn a.rooks a.passing a.checks a.half a.full) 1 6 then (bif N192 (N66 (Pos.mk a.variant a.board a.promoted a.pockets a.turn a.rooks a.passing a.checks a.half a.full) 0 6)==1 then (N192 (N66 (Pos.mk a.variant a.board a.promoted a.pockets a.turn a.rooks a.passing a.checks a.half a.full) 1 6)==1) else (false)) else (false)) else (false)) else (bif a.variant==5 then (bif N151 (Pos.mk a.variant a.board a.promoted a.pockets a.turn a.rooks a.passing a.checks a.half a.full)==N66 (Pos.mk a.variant a.board a.promoted a.pockets a.turn a.rooks a.passing a.checks a.half a.full) 0 6|||N66 (Pos.mk a.variant a.board a.promoted a.pockets a.turn a.rooks a.passing a.checks a.half a.full) 1 6 then (bif N192 (N66 (Pos.mk a.variant a.board a.promoted a.pockets a.turn a.rooks a.passing a.checks a.half a.full) 0 6)==1 then (N192 (N66 (Pos.mk a.variant a.board a.promoted a.pockets a.turn a.rooks a.passing a.checks a.half a.full) 1 6)==1) else (false)) else (false)) else (false)))) else (bif a.variant==1 then (bif N151 (Pos.mk a.variant a.board a.promoted a.pockets a.turn a.rooks a.passing a.checks a.half a.full) &&& ~~~N191 (Pos.mk a.variant a.board a.promoted a.pockets a.turn a.rooks a.passing a.checks a.half a.full) 6 &&& ~~~N191 (Pos.mk a.variant a.board a.promoted a.pockets a.turn a.rooks a.passing a.checks a.half a.full) 3 &&& ~~~N191 (Pos.mk a.variant a.board a.promoted a.pockets a.turn a.rooks a.passing a.checks a.half a.full) 2 != 0#64 then (false) else (bif decide (N192 (N151 (Pos.mk a.variant a.board a.promoted a.pockets a.turn a.rooks a.passing a.checks a.half a.full) &&& ~~~N191 (Pos.mk a.variant a.board a.promoted a.pockets a.turn a.rooks a.passing a.checks a.half a.full) 6)≤1) then (true) else (bif N151 (Pos.mk a.variant a.board a.promoted a.pockets a.turn a.rooks a.passing a.checks a.half a.full) &&& ~~~N191 (Pos.mk a.variant a.board a.promoted a.pockets a.turn a.rooks a.passing a.checks a.half a.full) 6==N191 (Pos.mk a.variant a.board a.promoted a.pockets a.turn a.rooks a.passing a.checks a.half a.full) 3 then (bif N151 (Pos.mk a.variant a.board a.promoted a.pockets a.turn a.rooks a.passing a.checks a.half a.full) &&& ~~~N191 (Pos.mk a.variant a.board a.promoted a.pockets a.turn a.rooks a.passing a.checks a.half a.full) 6&&&6172840429334713770#64==0#64 then (true) else (N151 (Pos.mk a.variant a.board a.promoted a.pockets a.turn a.rooks a.passing a.checks a.half a.full) &&& ~~~N191 (Pos.mk a.variant a.board a.promoted a.pockets a.turn a.rooks a.passing a.checks a.half a.full) 6 &&& ~~~6172840429334713770#64==0#64)) else (false)))) else (bif a.variant==3 then (bif a.variant==3 then (bif N151 (Pos.mk a.variant a.board a.promoted a.pockets a.turn a.rooks a.passing a.checks a.half a.full)==N66 (Pos.mk a.variant a.board a.promoted a.pockets a.turn a.rooks a.passing a.checks a.half a.full) 0 6|||N66 (Pos.mk a.variant a.board a.promoted a.pockets a.turn a.rooks a.passing a.checks a.half a.full) 1 6 then (bif N192 (N66 (Pos.mk a.variant a.board a.promoted a.pockets a.turn a.rooks a.passing a.checks a.half a.full) 0 6)==1 then (N192 (N66 (Pos.mk a.variant a.board a.promoted a.pockets a.turn a.rooks a.passing a.checks a.half a.full) 1 6)==1) else (false)) else (false)) else (false)) else (bif a.variant==5 then (bif N151 (Pos.mk a.variant a.board a.promoted a.pockets a.turn a.rooks a.passing a.checks a.half a.full)==N66 (Pos.mk a.variant a.board a.promoted a.pockets a.turn a.rooks a.passing a.checks a.half a.full) 0 6|||N66 (Pos.mk a.variant a.board a.promoted a.pockets a.turn a.rooks a.passing a.checks a.half a.full) 1 6 then (bif N192 (N66 (Pos.mk a.variant a.board a.promoted a.pockets a.turn a.rooks a.passing a.checks a.half a.full) 0 6)==1 then (N192 (N66 (Pos.mk a.variant a.board a.promoted a.pockets a.turn a.rooks a.passing a.checks a.half a.full) 1 6)==1) else (false)) else (false)) else (false)))))
noncomputable def ok161 (a:Pos):Bool:=(ok151 (Pos.mk a.variant a.board a.promoted a.pockets a.turn a.rooks a.passing a.checks a.half a.full)&&(bif a.variant==0 then (bif a.variant==0 then (ok191 (Pos.mk a.variant a.board a.promoted a.pockets a.turn a.rooks a.passing a.checks a.half a.full) (6)&&(ok191 (Pos.mk a.variant a.board a.promoted a.pockets a.turn a.rooks a.passing a.checks a.half a.full) (3)&&(ok191 (Pos.mk a.variant a.board a.promoted a.pockets a.turn a.rooks a.passing a.checks a.half a.full) (2)&&true))) else (bif a.variant==3 then (bif a.variant==3 then (ok66 (Pos.mk a.variant a.board a.promoted a.pockets a.turn a.rooks a.passing a.checks a.half a.full) (0) (6)&&(ok66 (Pos.mk a.variant a.board a.promoted a.pockets a.turn a.rooks a.passing a.checks a.half a.full) (1) (6)&&true)) else true) else (bif a.variant==5 then (ok66 (Pos.mk a.variant a.board a.promoted a.pockets a.turn a.rooks a.passing a.checks a.half a.full) (0) (6)&&(ok66 (Pos.mk a.variant a.board a.promoted a.pockets a.turn a.rooks a.passing a.checks a.half a.full) (1) (6)&&true)) else true))) else (bif a.variant==1 then (ok191 (Pos.mk a.variant a.board a.promoted a.pockets a.turn a.rooks a.passing a.checks a.half a.full) (6)&&(ok191 (Pos.mk a.variant a.board a.promoted a.pockets a.turn a.rooks a.passing a.checks a.half a.full) (3)&&(ok191 (Pos.mk a.variant a.board a.promoted a.pockets a.turn a.rooks a.passing a.checks a.half a.full) (2)&&true))) else (bif a.variant==3 then (bif a.variant==3 then (ok66 (Pos.mk a.variant a.board a.promoted a.pockets a.turn a.rooks a.passing a.checks a.half a.full) (0) (6)&&(ok66 (Pos.mk a.variant a.board a.promoted a.pockets a.turn a.rooks a.passing a.checks a.half a.full) (1) (6)&&true)) else true) else (bif a.variant==5 then (ok66 (Pos.mk a.variant a.board a.promoted a.pockets a.turn a.rooks a.passing a.checks a.half a.full) (0) (6)&&(ok66 (Pos.mk a.variant a.board a.promoted a.pockets a.turn a.rooks a.passing a.checks a.half a.full) (1) (6)&&true)) else true)))))
theorem P161 (a:Pos) (h:ok161 a=true):PS Pz 161 [Pos.av a] (dB.res (N161 a)):=ps_sum (n:=14) hB161 (by kernel_rfl) (by kernel_rfl) (by kernel_rfl) h
noncomputable def G161:List AV→Tr AV:=g1 dPos (fun a=>gdv (ok161 a) (dB.res (N161 a)))
theorem s161:Sound Pz 161 G161:=sound1 fun a=>at_gd (P161 a)
noncomputable def K112:List (Nat×Nat×List (Nat×List Nat)):=[(112,7,[(0,[1,2]),(1,[2,4]),(2,[2]),(3,[2])])]
noncomputable def B112:Base:=baseOf Pz (fun f i=>lkC f i K112) [(161,G161),(160,G160)] [] []
theorem hB112:BOk B112:=base_ok named_z ⟨s161,s160,trivial⟩ trivial trivial
noncomputable def N112 (a:Pos):(Int×Int):=(bif N161 (Pos.mk a.variant a.board a.promoted a.pockets a.turn a.rooks a.passing a.checks a.half a.full) then ⟨((N160 3).fst),((N160 3).snd)⟩ else ⟨(0),(0)⟩)
noncomputable def ok112 (a:Pos):Bool:=(ok161 (Pos.mk a.variant a.board a.promoted a.pockets a.turn a.rooks a.passing a.checks a.half a.full)&&true)
theorem P112 (a:Pos) (h:ok112 a=true):PS Pz 112 [Pos.av a] ((dR .u8 .u8).res (N112 a)):=ps_sum (n:=14) hB112 (by kernel_rfl) (by kernel_rfl) (by kernel_rfl) h
noncomputable def G112:List AV→Tr AV:=g1 dPos (fun a=>gdv (ok112 a) ((dR .u8 .u8).res (N112 a)))
theorem s112:Sound Pz 112 G112:=sound1 fun a=>at_gd (P112 a)
noncomputable def K113:List (Nat×Nat×List (Nat×List Nat)):=[(113,8,[(0,[1,2]),(1,[2,5]),(2,[2]),(3,[2])])]
noncomputable def B113:Base:=baseOf Pz (fun f i=>lkC f i K113) [(160,G160)] [] []
theorem hB113:BOk B113:=base_ok named_z ⟨s160,trivial⟩ trivial trivial
noncomputable def N113 (a:Pos):(Int×Int):=(bif decide (a.half ≥ 150) then ⟨((N160 4).fst),((N160 4).snd)⟩ else ⟨(0),(0)⟩)
noncomputable def ok113 (a:Pos):Bool:=true
theorem P113 (a:Pos) (h:ok113 a=true):PS Pz 113 [Pos.av a] ((dR .u8 .u8).res (N113 a)):=ps_sum (n:=14) hB113 (by kernel_rfl) (by kernel_rfl) (by kernel_rfl) h
noncomputable def G113:List AV→Tr AV:=g1 dPos (fun a=>.ret ((dR .u8 .u8).res (N113 a)))
theorem s113:Sound Pz 113 G113:=sound1 fun a=>at_rt (P113 a rfl)
noncomputable def K24:List (Nat×Nat×List (Nat×List Nat)):=[(24,29,[(0,[1,2,10,11,12]),(1,[1,2,13]),(2,[2]),(3,[1,2,15,16]),(4,[1,2,15,16,17]),(5,[1,2,4,15,16]),(6,[1,2,5,15,16]),(7,[1,2,5,15,16,25]),(8,[2]),(9,[1,2,15,16]),(10,[2])])]
noncomputable def B24:Base:=baseOf Pz (fun f i=>lkC f i K24) [(38,G38),(55,G55),(111,G111),(112,G112),(113,G113)] [] []
theorem hB24:BOk B24:=base_ok named_z ⟨s38,s55,s111,s112,s113,trivial⟩ trivial trivial
noncomputable def N24 (a:Pos):(Int×Int):=(bif decide (a.variant ≥ 9) then ⟨(0),(0)⟩ else (bif decide (a.turn > 1) then ⟨(0),(0)⟩ else (bif (N38 a).fst != 0 then ⟨((N38 a).fst),((N38 a).snd)⟩ else (bif (N111 a).fst != 0 then ⟨((N111 a).fst),((N111 a).snd)⟩ else (bif (N112 a).fst != 0 then ⟨((N112 a).fst),((N112 a).snd)⟩ else (bif (N113 a).fst != 0 then ⟨((N113 a).fst),((N113 a).snd)⟩ else ⟨(0),(0)⟩))))))
noncomputable def ok24 (a:Pos):Bool:=(bif decide (a.variant ≥ 9) then true else (bif decide (a.turn > 1) then true else (ok38 (a)&&(bif (N38 a).fst != 0 then true else (ok111 (a)&&(bif (N111 a).fst != 0 then true else (ok112 (a)&&true)))))))
theorem P24 (a:Pos) (h:ok24 a=true):PS Pz 24 [Pos.av a] ((dR .u8 .u8).res (N24 a)):=ps_sum (n:=14) hB24 (by kernel_rfl) (by kernel_rfl) (by kernel_rfl) h
noncomputable def G24:List AV→Tr AV:=g1 dPos (fun a=>gdv (ok24 a) ((dR .u8 .u8).res (N24 a)))
theorem s24:Sound Pz 24 G24:=sound1 fun a=>at_gd (P24 a)
noncomputable def K11:List (Nat×Nat×List (Nat×List Nat)):=[(11,7,[(0,[1]),(1,[2])])]
noncomputable def B11:Base:=baseOf Pz (fun f i=>lkC f i K11) [(24,G24)] [] []
theorem hB11:BOk B11:=base_ok named_z ⟨s24,trivial⟩ trivial trivial
noncomputable def N11 (a:Pos):Bool:=((N24 a).fst != 0)
noncomputable def ok11 (a:Pos):Bool:=(ok24 (a)&&true)
theorem P11 (a:Pos) (h:ok11 a=true):PS Pz 11 [Pos.av a] (dB.res (N11 a)):=ps_sum (n:=14) hB11 (by kernel_rfl) (by kernel_rfl) (by kernel_rfl) h
noncomputable def G11:List AV→Tr AV:=g1 dPos (fun a=>gdv (ok11 a) (dB.res (N11 a)))
theorem s11:Sound Pz 11 G11:=sound1 fun a=>at_gd (P11 a)
end Kz
end
section
namespace Kz
open Go Go.RowKit
set_option maxRecDepth 100000
set_option maxHeartbeats 4000000
def cl (h f:Int) (p:Pos):Pos:=⟨p.variant,p.board,p.promoted,p.pockets,p.turn,p.rooks,p.passing,p.checks,h,f⟩
def Stp.map {X X' R R':Type} (φ:X→X') (ψ:R→R'):Stp X R→Stp X' R'
  | .go x=>.go (φ x)
  | .out r=>.out (ψ r)
  | .bad=>.bad
section
variable (h f:Int) (p:Pos)
end
section
variable (h f h2 f2 h3 f3:Int) (a q p:Pos) (b m:Mv) (c:Int)
end
section
variable {p:Pos} (hp:PosIn p)
include hp
variable {h f:Int} (hq:PosIn (cl h f p))
include hq
end
theorem t191 (p:Pos) (b:Int):ok191 p b=true:=a_true (t66 _ _ _) fun _=>a_true (t66 _ _ _) fun _=>rfl
theorem t161 (p:Pos):ok161 p=true:=by
  unfold ok161
  rw [show (Pos.mk p.variant p.board p.promoted p.pockets p.turn p.rooks p.passing p.checks p.half p.full)=p from rfl]
  repeat' (first | with_reducible rfl | with_reducible exact t151 _ | with_reducible exact t191 _ _ | with_reducible exact t66 _ _ _ | refine a_true ?_ (fun _ => ?_) | refine c_true (fun _ => ?_) (fun _ => ?_))
theorem t112 (p:Pos):ok112 p=true:=a_true (t161 _) fun _=>rfl
theorem t111 {p:Pos} (hp:PosIn p):ok111 p=true:=a_true (t18 hp) fun _=>c_true (fun _=>rfl) fun _=>c_true (fun _=>rfl) fun _=>a_true (t109 hp.v0 hp.t0) fun _=>rfl
theorem t24 {p:Pos} (hp:PosIn p):ok24 p=true:=c_true (fun _=>rfl) fun _=>c_true (fun _=>rfl) fun _=>a_true (t38 hp) fun _=>c_true (fun _=>rfl) fun _=>a_true (t111 hp) fun _=>c_true (fun _=>rfl) fun _=>a_true (t112 p) fun _=>rfl
section
variable {p:Pos} (hp:PosIn p) {h f:Int} (hq:PosIn (cl h f p))
include hp hq
end
end Kz
end
section
namespace Go.Proofs
open Go.Shelf Go.RowKit Go.Lib Go.Sort
set_option maxHeartbeats 1000000 in
set_option maxRecDepth 100000 in
theorem delT (p:Kz.Mv→Bool) (g:Nat) (lb:Array Value) (eg:∀ args w,(callFunc g args).run Tryz.prog w=.ok (.enter g args) w) (blk cap:Nat) (d:Array Kz.Mv) (w:World) (ty:TypeId) (hb:blk < w.heap.size) (hH:RowW w blk cap ty d w) (hcap:d.size≤cap) (hmax:cap≤maxLen)
    (hpo:∀ W dk x,RowW w blk cap ty dk W→Calls Tryz.prog g (#[.agg (encM x).toArray]++lb) W fun e w'=>e=.returned (.bool (p x))∧RowKit.Below W.heap.size W w') :
    Calls Tryz.prog 35 #[.slice (some ⟨blk,0,none⟩) d.size cap,.func (.func g) #[] lb] w fun e w'=>e=.returned (.slice (some ⟨blk,0,none⟩) (d.toList.filter fun x => !p x).length cap)∧RowW w blk cap ty (d.toList.filter fun x => !p x).toArray w':=by
  have hsz:d.size≤9223372036854775807:=by unfold maxLen at hmax; omega
  have e6:∀ args w,(callFunc 77 args).run Tryz.prog w=.ok (.enter 77 args) w:=fun args w=>by rfl
  have hp:PredBelow Tryz.prog g lb (fun x=>.agg (encM x).toArray) p w:=fun W x hB=>(hpo W d x (hH.below hb hB)).mono fun e w' ⟨h1,h2⟩=>⟨h1,hB.trans (h2.mono hB.size)⟩
  have hIF:=AnyQ.slices_IndexFunc Tryz.idxM 5 Tryz.isAgg44 Tryz.sizeOf44 encM encM_len p g lb eg blk 0 d.size cap d.toList w hp (by simp) hsz hb (fun j hj i v hi=>by
    have hi5:i < 5:=(List.getElem?_eq_some_iff.1 hi).1
    have hj':j < d.size:=by simpa using hj
    obtain ⟨cur,h1,h2,h3⟩:=hH.row
    rw [Kz.cell_of_blk h1,Nat.zero_add,h3 j i hj' hi5]
    rw [← hi,getElem!_pos d j hj',getElem!_pos d.toList j hj]
    simp)
  rw [show d.toList.take d.size=d.toList from List.take_of_length_le (by simp)] at hIF
  have tl:∀ j,j < d.size→d.toList[j]! = d[j]! := fun j hj=>by rw [getElem!_pos d j hj,getElem!_pos d.toList j (by simpa using hj)]; simp
  obtain ⟨kp,HK⟩:∃ kp:Nat→Bool,Hid (kp=fun j => !p d[j]!):=⟨_,rfl⟩
  have hfil:(d.toList.filter fun x => !p x)=keptUpTo kp d d.size:=by rw [HK.out]; exact (keptUpTo_filter (fun x => !p x) d).symm
  rw [hfil]
  rcases idxByFrom_spec (fun _ y=>p y) default d.toList 0 with ⟨e1,hall⟩ | ⟨k0,hk0,e1,ht,hall⟩
  ·
    have e2:Lib.idxBy (fun _ y=>p y) d.toList default = -1:=e1
    rw [e2] at hIF
    have hkeep:∀ j,j < d.size→kp j=true:=fun j hj=>by rw [HK.out]; show (!p d[j]!)=true; rw [← tl j hj,hall j (by simpa using hj)]; rfl
    have e3:keptUpTo kp d d.size=d.toList:=by rw [keptUpTo_all kp d _ hkeep,range_map_get]
    have HH:Aside (RowW w blk cap ty d w):=hH
    have HB:Hid (blk < w.heap.size):=hb
    clear hH hpo hp hb
    go_enter Tryz.func35,Tryz.ntmps35
    go_wp2_with (go_at_fn 77; refine hIF.mono ?_; rintro e w' ⟨rfl,hbl⟩)
    go_ret
    rw [e3]
    exact ⟨by simp,by simpa using HH.out.below HB.out hbl⟩
  · have hk0':k0 < d.size:=by simpa using hk0
    have e2:Lib.idxBy (fun _ y=>p y) d.toList default=(k0:Int):=by unfold Lib.idxBy; rw [e1]; simp
    rw [e2] at hIF
    have hkeep:∀ j,j < k0→kp j=true:=fun j hj=>by rw [HK.out]; show (!p d[j]!)=true; rw [← tl j (by omega),hall j hj]; rfl
    have hdrop:kp k0=false:=by rw [HK.out]; show (!p d[k0]!)=false; rw [← tl k0 hk0']; rw [show p d.toList[k0]! = true from ht]; rfl
    have hne1:((k0:Int) == -1)=false:=beq_eq_false_iff_ne.2 (by omega)
    have HC:Aside _:=hpo
    have HH:Aside (RowW w blk cap ty d w):=hH
    have HB:Hid (blk < w.heap.size):=hb
    clear hpo hp hH hb hall ht e1 e2 tl
    go_enter Tryz.func35,Tryz.ntmps35
    go_wp2_with (go_at_fn 77; refine hIF.mono ?_; rintro e w' ⟨rfl,hbl⟩)
    have HBL:=Lib.hid hbl
    clear hbl
    go_loopg [5,6,7] d.size (fun gg s5 s6 _ wr => ∃ (i j:Nat) (dk:Array Kz.Mv),s5=.int .i64 i∧s6=.int .i64 j∧j≤d.size∧d.size - j≤gg∧Aside (RowW w blk cap ty dk wr)∧Aside (KeptInv kp d j i dk))
    case atStart=>exact ⟨k0,k0+1,d,rfl,by go_num,by omega,by omega,HH.out.below HB.out HBL.out,KeptInv.start hkeep hdrop⟩
    case round =>
      obtain ⟨i,j,dk,rfl,rfl,hjd,hgg,W2,I2⟩:=hrel
      have hI:=I2.out
      have hij:=hI.lt
      have hds:=hI.size
      by_cases hlt:j < d.size
      · have hltz:(j:Int) < (d.size:Int):=by omega
        have c0:=(W2.out.cell (j:=j) (by omega) 0 (by omega)).1
        have c1:=(W2.out.cell (j:=j) (by omega) 1 (by omega)).1
        have c2:=(W2.out.cell (j:=j) (by omega) 2 (by omega)).1
        have c3:=(W2.out.cell (j:=j) (by omega) 3 (by omega)).1
        have c4:=(W2.out.cell (j:=j) (by omega) 4 (by omega)).1
        simp only [hI.high j (by omega),encM,List.getElem_cons_succ,List.getElem_cons_zero,Nat.add_zero] at c0 c1 c2 c3 c4
        clear hI
        generalize hu:d[j]! = u at c0 c1 c2 c3 c4
        have C:Aside (d[j]! = u):=hu
        clear hu
        have hW1:RowW w blk cap ty dk (wr.alloc (Obj.cells #[Value.int IntKind.i8 u.frm,Value.int IntKind.i8 u.to,Value.int IntKind.u8 u.pro,Value.int IntKind.u8 u.drp,Value.bool u.cas] 44)) :=
          W2.out.below HB.out ((Below.refl _ _).alloc (Nat.le_refl _) _)
        have hcall:Calls Tryz.prog g (#[Value.agg #[Value.int IntKind.i8 u.frm,Value.int IntKind.i8 u.to,Value.int IntKind.u8 u.pro,Value.int IntKind.u8 u.drp,Value.bool u.cas]]++lb) _ _:=HC.out _ dk u hW1
        have HW1:=Lib.hid hW1
        clear hW1
        cases hq:p u with
        | false =>
          rw [hq] at hcall
          have HCALL:=Lib.hid hcall
          clear hcall
          go_wp2_with fail
          refine HCALL.out.mono ?_
          rintro e w2 ⟨rfl,hb2⟩
          have hW2:=HW1.out.below HB.out hb2
          have r0:=hW2.cell (j:=i) (by omega) 0 (by omega)
          have r1:=hW2.cell (j:=i) (by omega) 1 (by omega)
          have r2:=hW2.cell (j:=i) (by omega) 2 (by omega)
          have r3:=hW2.cell (j:=i) (by omega) 3 (by omega)
          have r4:=hW2.cell (j:=i) (by omega) 4 (by omega)
          simp only [Nat.add_zero] at r0
          obtain ⟨r0,f0⟩:=r0
          obtain ⟨r1,f1⟩:=r1
          obtain ⟨r2,f2⟩:=r2
          obtain ⟨r3,f3⟩:=r3
          obtain ⟨r4,f4⟩:=r4
          have hcs:∀ c,w2.cell? ⟨wr.heap.size,c,none⟩=(#[Value.int IntKind.i8 u.frm,Value.int IntKind.i8 u.to,Value.int IntKind.u8 u.pro,Value.int IntKind.u8 u.drp,Value.bool u.cas]:Array Value)[c]? := fun c=>by
            rw [hb2.cell (p:=⟨wr.heap.size,c,none⟩) (by simp),Kz.cell_of_blk (heap_alloc_new wr _)]
          have b0:=hcs 0
          have b1:=hcs 1
          have b2:=hcs 2
          have b3:=hcs 3
          have b4:=hcs 4
          simp at b0 b1 b2 b3 b4
          have HW2:=Lib.hid hW2
          clear hcs hb2 hW2
          go_wp2_with fail
          go_roundg (d.size - (j+1))
          case measure=>omega
          case rel =>
            refine ⟨i+1,j+1,dk.setIfInBounds i u,by go_num,by go_num,by omega,Nat.le_refl _,HW2.out.put (i:=i) (by omega) (by omega) u,(show Aside _ from ?_)⟩
            have:=I2.out.keep hlt (by rw [HK.out]; show (!p d[j]!)=true; rw [C.out,hq]; rfl)
            rwa [C.out] at this
        | true =>
          rw [hq] at hcall
          have HCALL:=Lib.hid hcall
          clear hcall
          go_wp2_with fail
          refine HCALL.out.mono ?_
          rintro e w2 ⟨rfl,hb2⟩
          have HW2:=Lib.hid (HW1.out.below HB.out hb2)
          clear hb2
          go_wp2_with fail
          go_roundg (d.size - (j+1))
          case measure=>omega
          case rel=>exact ⟨i,j+1,dk,rfl,by go_num,by omega,Nat.le_refl _,HW2.out,I2.out.skip (by rw [HK.out]; show (!p d[j]!)=false; rw [C.out,hq]; rfl)⟩
      · obtain rfl:j=d.size:=by omega
        have hltz:¬ (d.size:Int) < (d.size:Int):=by omega
        have hcl:∀ ty,(Builtin.clear_ #[40] ty #[.slice (some ⟨blk,i * 5,none⟩) (d.size - i) (cap - i)]).run Tryz.prog wr=.ok (.tuple #[]) (wr.setCells blk (i * 5) (Builtin.zeroCells zeroM (d.size - i)).toList):=by
          obtain ⟨cur,h1,h2,h3⟩:=W2.out.row
          refine run_clear5 wr blk (i * 5) (d.size - i) (cap - i) (by omega) (fun t ht => ?_) (fun t ht=>Kz.frozen_of_blk h1)
          rw [Kz.cell_of_blk h1]
          have:d.size * 5≤cap * 5:=Nat.mul_le_mul_right 5 hcap
          have h5:(d.size - i) * 5=d.size * 5 - i * 5:=Nat.sub_mul _ _ _
          rw [Array.getElem?_eq_getElem (by omega)]
          rfl
        have hid:i≤d.size:=by omega
        clear hI
        go_wp2
        go_ret
        have hI:=I2.out
        refine ⟨by rw [hI.len]; rfl,?_⟩
        have:=W2.out.tail (i:=i) (n:=d.size - i) (by omega) (by omega) _ (zeroM_len (d.size - i))
        have e:keptUpTo kp d d.size=dk.toList.take i:=by
          have hsz':=hI.size
          apply List.ext_getElem?
          intro j
          by_cases hj:j < i
          · rw [hI.low j hj,List.getElem?_take_of_lt hj,getElem!_pos dk j (by omega),List.getElem?_eq_getElem (by simp; omega)]
            simp
          · rw [List.getElem?_eq_none (by rw [hI.len]; omega),List.getElem?_eq_none (by simp; omega)]
        rw [e]
        exact this
end Go.Proofs
end
section
namespace Kz
open Go Go.RowKit Go.Proofs
set_option maxRecDepth 100000
noncomputable def B33:Base:=baseOf Pz (fun _ _=>[]) [(19,G19)] [] []
theorem hB33:BOk B33:=base_ok named_z ⟨s19,trivial⟩ trivial trivial
theorem P33 (m:Mv) (p:Pos) (h:(ok19 p m&&true)=true):PS Pz 33 [Mv.av m,.ptrf (Pos.av p)] (dB.res (!N19 p m)):=ps_sum (n:=14) hB33 (by kernel_rfl) (by kernel_rfl) (by kernel_rfl) h
theorem t11 {p:Pos} (hp:PosIn p):ok11 p=true:=a_true (t24 hp) fun _=>rfl
noncomputable def takesL (p:Pos):List Mv:=bif N11 p then [] else srt p ((N18 p).filter (N19 p))
end Kz
namespace Go.Proofs
open Go.Shelf Go.RowKit Go.Lib Go.Sort Kz
theorem pos_len {g:Gh} {tk:List Nat} {w:World} {p:Pos} {cs:List Value} (h:RepC g tk w (segs (Pos.av p)) cs):cs.length=88:=by
  change RepC g tk w [.int .u8 p.variant,.ints .u8 64 p.board,.u64 p.promoted,.ints .u8 12 p.pockets,.int .u8 p.turn,.ints .i8 4 p.rooks,.int .i8 p.passing,.ints .u8 2 p.checks,.int .i64 p.half,.int .i64 p.full] cs at h
  obtain ⟨x1,r1,e1,q1,h1⟩:=h.inv_one rfl
  obtain ⟨l2,r2,e2,h2⟩:=h1.inv_ints
  obtain ⟨x3,r3,e3,q3,h3⟩:=h2.inv_one rfl
  obtain ⟨l4,r4,e4,h4⟩:=h3.inv_ints
  obtain ⟨x5,r5,e5,q5,h5⟩:=h4.inv_one rfl
  obtain ⟨l6,r6,e6,h6⟩:=h5.inv_ints
  obtain ⟨x7,r7,e7,q7,h7⟩:=h6.inv_one rfl
  obtain ⟨l8,r8,e8,h8⟩:=h7.inv_ints
  obtain ⟨x9,r9,e9,q9,h9⟩:=h8.inv_one rfl
  obtain ⟨x10,r10,e10,q10,h10⟩:=h9.inv_one rfl
  have e11:=h10.inv_nil
  rw [e1,e2,e3,e4,e5,e6,e7,e8,e9,e10,e11]
  simp [l2,l4,l6,l8]
structure Kept (w w1 W:World):Prop where
  b:RowKit.Below w.heap.size w W
  s:w1.heap.size≤W.heap.size
  p:W.heap[w.heap.size]?=w1.heap[w.heap.size]?
theorem Kept.drew {w w1 W:World} (h:Kept w w1 W):Kept w w1 W.drew:=⟨h.b.drew,h.s,h.p⟩
theorem rep_res {w W W':World} {l:List Mv} {v:Value} (hb:w.heap.size≤W.heap.size) (h:Rep (gRes W W') [] W' (.list .mv l .fresh) v):Rep (gRes w W') [] W' (.list .mv l .fresh) v:=by
  cases h with
  | list hn hE hS hT hC =>
  refine .list hn (by rw [mvs_cells hE]; exact mvs_rep _ _ _ _) (hS.imp id fun ⟨c,o,e1,e2,e3⟩=>⟨c,o,e1,fun j x hj => ?_,fun f => ?_⟩) (fun k e=>by cases e) hC
  · obtain ⟨k1,k2,k3⟩:=e2 j x hj
    exact ⟨k1,Nat.le_trans hb k2,k3⟩
  · exact Nat.le_trans hb (e3 f)
theorem row_rep {w0 W:World} {b cap:Nat} {ty:TypeId} {l:List Mv} (h:RowW w0 b cap ty l.toArray W) (hc:l.length≤cap):Rep (gArg W) [] W (.list .mv l .arg) (.slice (some ⟨b,0,none⟩) l.length cap):=by
  obtain ⟨cur,c1,c2,c3⟩:=h.row
  refine .list (cs:=l.flatMap encM) rfl (mvs_rep _ _ _ _) (.inr ⟨b,0,rfl,fun j x hj => ?_,fun f=>absurd rfl f⟩) (fun k e=>by cases e) hc
  have hjl:j < l.length * 5:=by rw [← flat_len]; exact (List.getElem?_eq_some_iff.1 hj).1
  have hdm:j=j / 5 * 5+j % 5:=by omega
  have hq5:j / 5 < l.length:=by omega
  have hfl:=flat_get l (j / 5) (j % 5) hq5 (Nat.mod_lt _ (by omega))
  rw [← hdm,hj] at hfl
  refine ⟨?_,show b < W.heap.size from lt_of_some c1⟩
  rw [cell_of_blk c1,Nat.zero_add]
  have h3:=c3 (j / 5) (j % 5) (by simpa using hq5) (Nat.mod_lt _ (by omega))
  rw [← hdm] at h3
  rw [h3,hfl]
  congr 2
  have ea:l.toArray[j / 5]! = l[j / 5]:=by simp [hq5]
  have eb:l[j / 5]! = l[j / 5]:=by simp [hq5]
  rw [ea,eb]
set_option maxHeartbeats 4000000 in
set_option maxRecDepth 100000 in
theorem takesM (p:Pos) (hp:PosIn p) (k:Nat) (zE:∀ w,(Go.sizeOf 34).run Tryz.prog w=.ok k w) (hk:k=88):PureSpec Tryz.prog 16 [Pos.av p] (.list .mv (takesL p) .fresh):=by
  intro w vals hg hr
  obtain ⟨vals⟩:=vals
  cases hr with
  | cons q1 r1 =>
  cases r1
  obtain ⟨pcs,rfl,hpc⟩:=Rep.inv_agg (l:=segs (Pos.av p)) q1
  clear q1
  refine callsIn_wide.2 ?_
  have aE:∀ w,(isAgg 34).run Tryz.prog w=.ok true w:=Tryz.isAgg34
  have hlen:pcs.toList.length=k:=(pos_len hpc).trans hk.symm
  obtain ⟨w1,hw1⟩:∃ w1,w1=w.alloc (Obj.cells pcs 34):=⟨_,rfl⟩
  have hs1:w1.heap.size=w.heap.size+1:=by rw [hw1]; simp
  have hp1:w1.heap[w.heap.size]?=some (.cells pcs 34 (0,0)):=by rw [hw1]; exact heap_alloc_new w _
  have hb1:RowKit.Below w.heap.size w w1:=by rw [hw1]; exact (Below.refl _ w).alloc (Nat.le_refl _) _
  have ld:∀ W,Kept w w1 W→Sem.run Tryz.prog (loadCellsFrom ⟨w.heap.size,0,none⟩ 0 k #[]) W=.ok pcs W:=fun W hW=>by
    have h:=run_loadCellsFrom_list Tryz.prog _ _ pcs.toList k hlen (fun c v hc=>by
      rw [Addr.add_lit,cell_of_blk (hW.p.trans hp1),Nat.zero_add]
      simpa using hc)
    simpa using h
  have r0:∀ W,Kept w w1 W→Rep (gArg W) [] W (Pos.av p) (.agg pcs):=fun W hW=>.agg (pos_rep hpc)
  have g0:∀ W,Kept w w1 W→GlobOk W:=fun W hW=>globOk_of hg hW.b.size hW.b.block
  have k11:∀ W,Kept w w1 W→Calls Tryz.prog 11 #[.agg pcs] W fun e w'=>e=.returned (.bool (N11 p))∧Kept w w1 w':=fun W hW=>by
    have h:=(P11 p (t11 hp)).1
    unfold PureSpec at h
    refine Calls.mono (callsIn_wide.1 (h W #[.agg pcs] (g0 W hW) (.cons (r0 W hW) .nil))) ?_
    rintro e w' ⟨x,rfl,hb,hx⟩
    cases hx
    have:=hW.s
    exact ⟨rfl,hW.b.trans (hb.mono hW.b.size),Nat.le_trans hW.s hb.size,(hb.block _ (by omega)).trans hW.p⟩
  have hK1:Kept w w1 w1:=⟨hb1,Nat.le_refl _,rfl⟩
  have hll:=N18_len hp
  have hfl:((N18 p).filter (N19 p)).length≤(N18 p).length:=List.length_filter_le _ _
  have k18:∀ W,Kept w w1 W→Calls Tryz.prog 18 #[.agg pcs] W fun e w' => ∃ a cap,e=.returned (.slice a (N18 p).length cap)∧Hid (Kept w w1 w')∧Hid (FreshRow W w' a cap (N18 p)):=fun W hW=>by
    refine Calls.mono (listM p hp W (g0 W hW) (.agg pcs) (r0 W hW)) ?_
    rintro e w' ⟨a,cap,rfl,hb,hF⟩
    have:=hW.s
    exact ⟨a,cap,rfl,⟨hW.b.trans (hb.mono hW.b.size),Nat.le_trans hW.s hb.size,(hb.block _ (by omega)).trans hW.p⟩,hF⟩
  have k33:∀ W u,Kept w w1 W→Calls Tryz.prog 33 (#[.agg (encM u).toArray]++#[.pointer (some ⟨w.heap.size,0,none⟩)]) W fun e w'=>e=.returned (.bool (!N19 p u))∧RowKit.Below W.heap.size W w':=fun W u hW=>by
    have h:=(P33 u p (by rw [t19 hp.v0]; rfl)).1
    unfold PureSpec at h
    obtain ⟨args,ha⟩:∃ args:Array Value,args=#[Value.agg (encM u).toArray]++#[Value.pointer (some ⟨w.heap.size,0,none⟩)]:=⟨_,rfl⟩
    rw [← ha]
    refine Calls.mono (callsIn_wide.1 (h W args (g0 W hW) ?_)) ?_
    · have e:args.toList=[Value.agg (encM u).toArray,Value.pointer (some ⟨w.heap.size,0,none⟩)]:=by rw [ha]; simp
      rw [e]
      have r1:Rep (gArg W) [] W (Mv.av u) (Value.agg (encM u).toArray) := .agg (mv_rep _ _ _ u)
      refine .cons r1 (.cons (.ptrf (cs:=pcs.toList) (pos_rep hpc) ?_) .nil)
      intro j x hj
      have hs:=hW.s
      refine ⟨?_,show w.heap.size < W.heap.size by omega⟩
      rw [cell_of_blk (hW.p.trans hp1),Nat.zero_add]
      simpa using hj
    · rintro e w' ⟨x,rfl,hb,hx⟩
      cases hx
      exact ⟨rfl,hb⟩
  have k35:∀ W W3 a cap,Kept w w1 W→Kept w w1 W3→FreshRow W W3 a cap (N18 p)→Calls Tryz.prog 35 #[.slice a (N18 p).length cap,.func (.func 33) #[] #[.pointer (some ⟨w.heap.size,0,none⟩)]] W3 fun e w' => ∃ a',e=.returned (.slice a' ((N18 p).filter (N19 p)).length cap)∧Hid (Kept w w1 w')∧Hid (Rep (gArg w') [] w' (.list .mv ((N18 p).filter (N19 p)) .arg) (.slice a' ((N18 p).filter (N19 p)).length cap)):=fun W W3 a cap hW hW3 hF=>by
    rcases hF with ⟨rfl,hl0,rfl⟩ | ⟨b,ty,rfl,k1,k2,k3,k4,hrow⟩
    · have el:(N18 p).length=0:=by rw [hl0]; rfl
      have e0:(N18 p).filter (N19 p)=[]:=by rw [hl0]; rfl
      rw [el,e0]
      refine (del0 none 0 _ W3).mono ?_
      rintro e w' ⟨rfl,rfl⟩
      exact ⟨none,rfl,hW3,.list (cs:=[]) rfl .nil (.inl rfl) (fun k e=>by cases e) (Nat.le_refl _)⟩
    · have hsW:=hW.s
      have hd:=delT (fun u => !N19 p u) 33 #[.pointer (some ⟨w.heap.size,0,none⟩)] (fun _ _=>rfl) b cap (N18 p).toArray W3 ty k2 hrow (by simpa using k3) k4 (fun W' dk u hW'=>by
        have hK:Kept w w1 W':=⟨⟨hW'.os.trans hW3.b.os,hW'.tape.trans hW3.b.tape,hW'.output.trans hW3.b.output,Nat.le_trans hW3.b.size hW'.size,fun q hq=>by
          have:=hW3.b.size
          rw [hW'.other q (by omega) (by omega),hW3.b.block q hq]⟩,Nat.le_trans hW3.s hW'.size,by
          have:=hW3.s
          rw [hW'.other _ (by omega) (by omega),hW3.p]⟩
        exact k33 W' u hK)
      simp only [List.size_toArray,Bool.not_not] at hd
      refine hd.mono ?_
      rintro e w' ⟨rfl,hR⟩
      refine ⟨_,rfl,⟨⟨hR.os.trans hW3.b.os,hR.tape.trans hW3.b.tape,hR.output.trans hW3.b.output,Nat.le_trans hW3.b.size hR.size,fun q hq=>by
          have:=hW3.b.size
          rw [hR.other q (by omega) (by omega),hW3.b.block q hq]⟩,Nat.le_trans hW3.s hR.size,by
          have:=hW3.s
          rw [hR.other _ (by omega) (by omega),hW3.p]⟩,row_rep hR (by omega)⟩
  have k34:∀ W v,Kept w w1 W→Rep (gArg W) [] W (.list .mv ((N18 p).filter (N19 p)) .arg) v→Calls Tryz.prog 34 #[.agg pcs,v] W fun e w' => ∃ x,e=.returned x∧Hid (RowKit.Below w.heap.size w w')∧Hid (Rep (gRes w w') [] w' (.list .mv (srt p ((N18 p).filter (N19 p))) .fresh) x):=fun W v hW hv=>by
    have h:=sortM p ((N18 p).filter (N19 p)) (by unfold lim; omega)
    unfold PureSpec at h
    refine Calls.mono (callsIn_wide.1 (h W #[.agg pcs,v] (g0 W hW) (.cons (r0 W hW) (.cons hv .nil)))) ?_
    rintro e w' ⟨x,rfl,hb,hx⟩
    exact ⟨x,rfl,hW.b.trans (hb.mono hW.b.size),rep_res hW.b.size hx⟩
  have K18:Aside _:=k18
  have K35:Aside _:=k35
  have K34:Aside _:=k34
  clear k18 k33 k35 k34 hll hfl
  have LD:Aside _:=ld
  have K11:Aside _:=k11
  clear ld k11 hg hk hlen
  have l1:Sem.run Tryz.prog (loadCellsFrom { block:=w.heap.size,off:=0,spot:=none } 0 k #[]) (w.alloc (Obj.cells pcs 34))=.ok pcs (w.alloc (Obj.cells pcs 34)):=by rw [← hw1]; exact LD.out w1 hK1
  have c11:=K11.out w1 hK1
  rw [hw1] at c11
  have HW1:=Lib.hid hw1
  have HS1:=Lib.hid hs1
  have HP1:=Lib.hid hp1
  have HB1:=Lib.hid hb1
  have R0:=Lib.hid r0
  have G0:=Lib.hid g0
  clear hK1 hs1 hp1 hb1 r0 g0 hw1
  go_enter Tryz.func16,Tryz.ntmps16
  go_wp2_with fail
  refine c11.mono ?_
  rintro e w2 ⟨rfl,hK2⟩
  rw [← HW1.out] at hK2
  have HK2:=Lib.hid hK2
  clear l1 hK2 c11
  cases hN:N11 p with
  | true =>
    go_wp2_with fail
    go_ret
    have hK:=HK2.out
    refine ⟨_,rfl,hK.b,?_⟩
    unfold takesL
    rw [hN]
    exact .list (cs:=[]) rfl .nil (.inl rfl) (fun k e=>by cases e) (Nat.le_refl _)
  | false =>
    have HKd:Hid (Kept w w1 w2.drew):=HK2.out.drew
    have l2:=LD.out w2.drew HKd.out
    go_wp2_with fail
    go_region_with (first
      | (go_at_call_of 18 (Value.agg pcs); refine (K18.out w2.drew HKd.out).mono ?_; rintro e w3 ⟨a3,cap3,rfl,HK3,HF3⟩; have l3:=LD.out w3 HK3.out)
      | (go_at_call_of 35 (Value.slice a3 (N18 p).length cap3); refine (K35.out w2.drew w3 a3 cap3 HKd.out HK3.out HF3.out).mono ?_; rintro e w4 ⟨a4,rfl,HK4,HR4⟩; have l4:=LD.out w4 HK4.out)
      | (go_at_call_of 34 (Value.agg pcs); refine (K34.out w4 _ HK4.out HR4.out).mono ?_; rintro e w5 ⟨x5,rfl,HB5,HR5⟩))
    all_goals
      go_wp2_with fail
      go_ret
      refine ⟨_,rfl,HB5.out,?_⟩
      unfold takesL
      rw [hN]
      exact HR5.out
end Go.Proofs
namespace Kz
open Go Go.RowKit Go.Proofs
theorem P16h (p:Pos) (hp:PosIn p):PS Pz 16 [Pos.av p] (.list .mv (takesL p) .fresh) :=
  ⟨takesM p hp 88 Tryz.sizeOf34 rfl,by
    have h:(match Pz.funcs[16]? with
      | some fn=>fn.body.isSome
      | none=>false)=true:=by kernel_rfl
    split at h
    · rename_i fn hf
      exact ⟨fn,hf,h⟩
    · cases h⟩
end Kz
end
section
namespace Kz
open Go Go.RowKit Go.Proofs
set_option maxRecDepth 100000
set_option maxHeartbeats 4000000
noncomputable def K64:List (Nat×Nat×List (Nat×List Nat)):=[(64,6,[(0,[0]),(1,[2])])]
noncomputable def B64:Base:=baseOf Pz (fun f i=>lkC f i K64) [(118,G118)] [] []
theorem hB64:BOk B64:=base_ok named_z ⟨s118,trivial⟩ trivial trivial
noncomputable def N64 (a:Int):List UInt8:=((N118 a).fst)
noncomputable def ok64 (a:Int):Bool:=(ok118 (a)&&true)
theorem P64 (a:Int) (h:ok64 a=true):PS Pz 64 [.int .u8 a] (dS.res (N64 a)):=ps_sum (n:=14) hB64 (by kernel_rfl) (by kernel_rfl) (by kernel_rfl) h
noncomputable def G64:List AV→Tr AV:=g1 (dI .u8) (fun a=>gdv (ok64 a) (dS.res (N64 a)))
theorem s64:Sound Pz 64 G64:=sound1 fun a=>at_gd (P64 a)
noncomputable def K31:List (Nat×Nat×List (Nat×List Nat)):=[(31,12,[(0,[0,1]),(1,[4])])]
noncomputable def B31:Base:=baseOf Pz (fun f i=>lkC f i K31) [(64,G64)] [] []
theorem hB31:BOk B31:=base_ok named_z ⟨s64,trivial⟩ trivial trivial
noncomputable def N31 (a:Int) (b:Int):Bool:=(bif !N64 a==(ByteArray.mk #[]).data.toList then (decide (b≤1)) else (false))
noncomputable def ok31 (a:Int) (b:Int):Bool:=(ok64 (a)&&true)
theorem P31 (a:Int) (b:Int) (h:ok31 a b=true):PS Pz 31 [.int .u8 a,.int .u8 b] (dB.res (N31 a b)):=ps_sum (n:=14) hB31 (by kernel_rfl) (by kernel_rfl) (by kernel_rfl) h
noncomputable def G31:List AV→Tr AV:=g2 (dI .u8) (dI .u8) (fun a b=>gdv (ok31 a b) (dB.res (N31 a b)))
theorem s31:Sound Pz 31 G31:=sound2 fun a b=>at_gd (P31 a b)
noncomputable def K123:List (Nat×Nat×List (Nat×List Nat)):=[(123,2,[(0,[0]),(1,[0])])]
noncomputable def B123:Base:=baseOf Pz (fun f i=>lkC f i K123) [] [] []
theorem hB123:BOk B123:=base_ok named_z trivial trivial trivial
noncomputable def N123  : List Int:=(li [0,100,320,330,500,900,0])
noncomputable def ok123  : Bool:=true
theorem P123  (h:ok123 =true):PS Pz 123 [] ((dArr .i64 7).res (N123 )):=ps_sum (n:=14) hB123 (by kernel_rfl) (by kernel_rfl) (by kernel_rfl) h
noncomputable def G123:List AV→Tr AV:=g0  (.ret ((dArr .i64 7).res (N123 )))
theorem s123:Sound Pz 123 G123:=sound0 (at_rt (P123 rfl))
noncomputable def K67:List (Nat×Nat×List (Nat×List Nat)):=[(67,8,[(0,[0]),(1,[0,4]),(2,[2]),(3,[2])])]
noncomputable def B67:Base:=baseOf Pz (fun f i=>lkC f i K67) [(123,G123)] [] []
theorem hB67:BOk B67:=base_ok named_z ⟨s123,trivial⟩ trivial trivial
noncomputable def N67 (a:Int):Int:=(bif decide (a > 6) then (0) else ((li [0,100,320,330,500,900,0]).getD a.toNat 0))
noncomputable def ok67 (a:Int):Bool:=(bif decide (a > 6) then true else (decide (0≤a)&&decide (a < Int.ofNat 7)&&true))
theorem P67 (a:Int) (h:ok67 a=true):PS Pz 67 [.int .u8 a] ((dI .i64).res (N67 a)):=ps_sum (n:=14) hB67 (by kernel_rfl) (by kernel_rfl) (by kernel_rfl) h
noncomputable def G67:List AV→Tr AV:=g1 (dI .u8) (fun a=>gdv (ok67 a) ((dI .i64).res (N67 a)))
theorem s67:Sound Pz 67 G67:=sound1 fun a=>at_gd (P67 a)
noncomputable def K124:List (Nat×Nat×List (Nat×List Nat)):=[(124,8,[(0,[0]),(1,[2])])]
noncomputable def B124:Base:=baseOf Pz (fun f i=>lkC f i K124) [] [] []
theorem hB124:BOk B124:=base_ok named_z trivial trivial trivial
noncomputable def N124 (a:Int):Int:=(if 0 > if wr .i64 (a - 4) > wr .i64 (3 - a) then wr .i64 (a - 4) else wr .i64 (3 - a) then 0 else if wr .i64 (a - 4) > wr .i64 (3 - a) then wr .i64 (a - 4) else wr .i64 (3 - a))
noncomputable def ok124 (a:Int):Bool:=true
theorem P124 (a:Int) (h:ok124 a=true):PS Pz 124 [.int .i64 a] ((dI .i64).res (N124 a)):=ps_sum (n:=14) hB124 (by kernel_rfl) (by kernel_rfl) (by kernel_rfl) h
noncomputable def G124:List AV→Tr AV:=g1 (dI .i64) (fun a=>.ret ((dI .i64).res (N124 a)))
theorem s124:Sound Pz 124 G124:=sound1 fun a=>at_rt (P124 a rfl)
noncomputable def K68:List (Nat×Nat×List (Nat×List Nat)):=[(68,16,[(0,[0]),(1,[0,8]),(2,[2]),(3,[2])])]
noncomputable def B68:Base:=baseOf Pz (fun f i=>lkC f i K68) [(124,G124)] [] []
theorem hB68:BOk B68:=base_ok named_z ⟨s124,trivial⟩ trivial trivial
noncomputable def N68 (a:Int):Int:=(bif decide (a < 0) then (-1) else (bif decide (a ≥ 64) then (-1) else (if N124 (wr .i64 (a.tdiv 8)) > N124 (a.tmod 8) then N124 (wr .i64 (a.tdiv 8)) else N124 (a.tmod 8))))
noncomputable def ok68 (a:Int):Bool:=true
theorem P68 (a:Int) (h:ok68 a=true):PS Pz 68 [.int .i64 a] ((dI .i64).res (N68 a)):=ps_sum (n:=14) hB68 (by kernel_rfl) (by kernel_rfl) (by kernel_rfl) h
noncomputable def G68:List AV→Tr AV:=g1 (dI .i64) (fun a=>.ret ((dI .i64).res (N68 a)))
theorem s68:Sound Pz 68 G68:=sound1 fun a=>at_rt (P68 a rfl)
noncomputable def K69:List (Nat×Nat×List (Nat×List Nat)):=[]
noncomputable def B69:Base:=baseOf Pz (fun f i=>lkC f i K69) [] [] []
theorem hB69:BOk B69:=base_ok named_z trivial trivial trivial
noncomputable def V169:AV:=AV.vlist true [AV.agg [AV.cint .u8 2,AV.func 125 [] []],AV.agg [AV.cint .u8 8,AV.func 126 [] []],AV.agg [AV.cint .u8 6,AV.func 129 [] []],AV.agg [AV.cint .u8 5,AV.func 131 [] []],AV.agg [AV.cint .u8 4,AV.func 132 [] []]]
noncomputable def ok69:Bool:=true
theorem E69:evPure B69 14 69 []=Tr.ret V169:=by kernel_rfl
theorem P69 (_:ok69=true):PS Pz 69 [] V169:=evPure_ok hB69 (by rw [E69]; rfl)
noncomputable def G69:List AV→Tr AV:=g0 (.ret V169)
theorem s69:Sound Pz 69 G69:=sound0 (at_rt (P69 rfl))
noncomputable def K125:List (Nat×Nat×List (Nat×List Nat)):=[(125,26,[(0,[1,2]),(1,[1,2,5]),(2,[5,11,12]),(3,[5,11,12,13]),(4,[5,6,7,11,12]),(5,[5,11,12]),(6,[5,11,12]),(7,[4])])]
noncomputable def B125_1:Base:=baseOf Pz (fun f i=>lkC f i K125) [(67,G67)] [] []
theorem hB125_1:BOk B125_1:=base_ok named_z ⟨s67,trivial⟩ trivial trivial
noncomputable def S125_1 (p1:(List Int)) (p2:Pos) (x:(Int×Int)):St:=St.mk (an 5 (AV.int .i64 x.fst::(an 5 (AV.agg [AV.ints .u8 6 p1]::AV.int .i64 x.snd::(an 13 []))))) (Hp.mk [(pc p2 [])] [] [] 0 0 0)
noncomputable def O125_1 (p1:(List Int)) (p2:Pos):(Int×Int×Bool)→Out:=fun y=>.exit 0 (St.mk (an 5 (AV.int .i64 y.fst::(an 5 (AV.agg [AV.ints .u8 6 p1]::AV.int .i64 y.snd.fst::AV.bool y.snd.snd::(an 12 []))))) (Hp.mk [(pc p2 [])] [] [] 0 0 0))
noncomputable def st125_1 (p1:(List Int)) (p2:Pos) (x:(Int×Int)):Stp (Int×Int) ((Int×Int×Bool)):=(bif decide (x.snd < 6) then (Stp.go (wr .i64 (x.fst+wr .i64 (N67 (wr .u8 x.snd) * wr .i64 (p1.getD x.snd.toNat 0))),wr .i64 (x.snd+1))) else (Stp.out ((x.fst,x.snd,decide (x.snd < 6)))))
noncomputable def okL125_1 (p1:(List Int)) (p2:Pos) (x:(Int×Int)):Bool:=(bif decide (x.snd < 6) then (decide (0≤x.snd)&&decide (x.snd < Int.ofNat 6)&&(ok67 (wr .u8 x.snd)&&true)) else true)
noncomputable def lp125_1 (p1:(List Int)) (p2:Pos) (x:(Int×Int)):Option ((Int×Int×Bool)):=itl (fun x=>bif okL125_1 p1 p2 x then st125_1 p1 p2 x else .bad) many x
abbrev D125_1 {α:Type} (k:(List Int)→Pos→(Int×Int)→α) (s:St):α:=wP s 0 fun q0=>k (tN (tX (tA (tT s 11)) 0)) q0 ((tI (tT s 5)),(tI (tT s 12)))
theorem L125_1 (p1:(List Int)) (p2:Pos) (x:(Int×Int)) (r:(Int×Int×Bool)) (h:lp125_1 p1 p2 x=some r):LSpec Pz (bodL Pz 125 3) (S125_1 p1 p2 x) (O125_1 p1 p2 r):=LSpec.smd (m:=12) (fn:=125) hB125_1 (D125_1 fun _ _ x=>some x) (fun o=>match o with | .exit 0 s=>some ((tI (tT s 5)),(tI (tT s 12)),(tB (tT s 13))) | _=>none) (fun _=>rfl) (fun _=>by kernel_rfl) (fun _=>by kernel_rfl) (fun _=>by kernel_rfl) (fun _=>by kernel_rfl) many x r h
noncomputable def F125_1 (b:Code) (s:St):Tr Out:=D125_1 (fun p1 p2 x=>lk1 b (bodL Pz 125 3) s (S125_1 p1 p2 x) (lp125_1 p1 p2 x) (O125_1 p1 p2)) s
theorem sF125_1:∀ b,LSound Pz b (F125_1 b):=fun _ _ _ h=>lk1_ok (L125_1 _ _ _) h
noncomputable def B125:Base:=baseOf Pz (fun f i=>lkC f i K125) [(67,G67)] [(125,3,F125_1)] []
theorem hB125:BOk B125:=base_ok named_z ⟨s67,trivial⟩ ⟨sF125_1,trivial⟩ trivial
noncomputable def N125 (a:Pos) (b:Int):Int:=(((lp125_1 (List.take 6 (List.drop (scale 6 b).toNat a.pockets)) a (0,0)).getD default).fst)
noncomputable def ok125 (a:Pos) (b:Int):Bool:=(decide (0≤b)&&decide (b < Int.ofNat 2)&&((lp125_1 (List.take 6 (List.drop (scale 6 b).toNat a.pockets)) a (0,0)).isSome&&true))
theorem P125 (a:Pos) (b:Int) (h:ok125 a b=true):PS Pz 125 [Pos.av a,.int .u8 b] ((dI .i64).res (N125 a b)):=ps_sum (n:=14) hB125 (by kernel_rfl) (by kernel_rfl) (by kernel_rfl) h
noncomputable def G125:List AV→Tr AV:=g2 dPos (dI .u8) (fun a b=>gdv (ok125 a b) ((dI .i64).res (N125 a b)))
theorem s125:Sound Pz 125 G125:=sound2 fun a b=>at_gd (P125 a b)
noncomputable def K128:List (Nat×Nat×List (Nat×List Nat)):=[(128,6,[(0,[0]),(1,[2])])]
noncomputable def B128:Base:=baseOf Pz (fun f i=>lkC f i K128) [] [] []
theorem hB128:BOk B128:=base_ok named_z trivial trivial trivial
noncomputable def N128 (a:Int):Int:=(wr .i64 (60 * wr .i64 (a.tdiv 8)))
noncomputable def ok128 (a:Int):Bool:=true
theorem P128 (a:Int) (h:ok128 a=true):PS Pz 128 [.int .i64 a] ((dI .i64).res (N128 a)):=ps_sum (n:=14) hB128 (by kernel_rfl) (by kernel_rfl) (by kernel_rfl) h
noncomputable def G128:List AV→Tr AV:=g1 (dI .i64) (fun a=>.ret ((dI .i64).res (N128 a)))
theorem s128:Sound Pz 128 G128:=sound1 fun a=>at_rt (P128 a rfl)
noncomputable def K126:List (Nat×Nat×List (Nat×List Nat)):=[(126,8,[(0,[1,2]),(1,[4])]),(127,16,[(0,[1,2,3]),(1,[2,7]),(2,[2,7,12]),(3,[6]),(4,[6])])]
noncomputable def B126:Base:=baseOf Pz (fun f i=>lkC f i K126) [(106,G106),(128,G128)] [] []
theorem hB126:BOk B126:=base_ok named_z ⟨s106,s128,trivial⟩ trivial trivial
noncomputable def N126 (a:Pos) (b:Int):Int:=(bif decide (N106 a b 6 < 0) then (0) else (N128 (N106 a b 6)))
noncomputable def ok126 (a:Pos) (b:Int):Bool:=(ok106 (a) (b) (6)&&true)
theorem P126 (a:Pos) (b:Int) (h:ok126 a b=true):PS Pz 126 [Pos.av a,.int .u8 b] ((dI .i64).res (N126 a b)):=ps_sum (n:=14) hB126 (by kernel_rfl) (by kernel_rfl) (by kernel_rfl) h
noncomputable def G126:List AV→Tr AV:=g2 dPos (dI .u8) (fun a b=>gdv (ok126 a b) ((dI .i64).res (N126 a b)))
theorem s126:Sound Pz 126 G126:=sound2 fun a b=>at_gd (P126 a b)
noncomputable def K130:List (Nat×Nat×List (Nat×List Nat)):=[(130,6,[(0,[0]),(1,[2])])]
noncomputable def B130:Base:=baseOf Pz (fun f i=>lkC f i K130) [(68,G68)] [] []
theorem hB130:BOk B130:=base_ok named_z ⟨s68,trivial⟩ trivial trivial
noncomputable def N130 (a:Int):Int:=(wr .i64 (-30 * N68 a))
noncomputable def ok130 (a:Int):Bool:=true
theorem P130 (a:Int) (h:ok130 a=true):PS Pz 130 [.int .i64 a] ((dI .i64).res (N130 a)):=ps_sum (n:=14) hB130 (by kernel_rfl) (by kernel_rfl) (by kernel_rfl) h
noncomputable def G130:List AV→Tr AV:=g1 (dI .i64) (fun a=>.ret ((dI .i64).res (N130 a)))
theorem s130:Sound Pz 130 G130:=sound1 fun a=>at_rt (P130 a rfl)
noncomputable def K129:List (Nat×Nat×List (Nat×List Nat)):=[(127,16,[(0,[1,2,3]),(1,[2,7]),(2,[2,7,12]),(3,[6]),(4,[6])]),(129,8,[(0,[1,2]),(1,[4])])]
noncomputable def B129:Base:=baseOf Pz (fun f i=>lkC f i K129) [(106,G106),(130,G130)] [] []
theorem hB129:BOk B129:=base_ok named_z ⟨s106,s130,trivial⟩ trivial trivial
noncomputable def N129 (a:Pos) (b:Int):Int:=(bif decide (N106 a b 6 < 0) then (0) else (N130 (N106 a b 6)))
noncomputable def ok129 (a:Pos) (b:Int):Bool:=(ok106 (a) (b) (6)&&true)
theorem P129 (a:Pos) (b:Int) (h:ok129 a b=true):PS Pz 129 [Pos.av a,.int .u8 b] ((dI .i64).res (N129 a b)):=ps_sum (n:=14) hB129 (by kernel_rfl) (by kernel_rfl) (by kernel_rfl) h
noncomputable def G129:List AV→Tr AV:=g2 dPos (dI .u8) (fun a b=>gdv (ok129 a b) ((dI .i64).res (N129 a b)))
theorem s129:Sound Pz 129 G129:=sound2 fun a b=>at_gd (P129 a b)
noncomputable def K131:List (Nat×Nat×List (Nat×List Nat)):=[(131,11,[(0,[1,2]),(1,[4])])]
noncomputable def B131:Base:=baseOf Pz (fun f i=>lkC f i K131) [] [] []
theorem hB131:BOk B131:=base_ok named_z trivial trivial trivial
noncomputable def N131 (a:Pos) (b:Int):Int:=(wr .i64 (150 * wr .i64 (a.checks.getD (scale 1 b).toNat 0)))
noncomputable def ok131 (a:Pos) (b:Int):Bool:=(decide (0≤b)&&decide (b < Int.ofNat 2)&&true)
theorem P131 (a:Pos) (b:Int) (h:ok131 a b=true):PS Pz 131 [Pos.av a,.int .u8 b] ((dI .i64).res (N131 a b)):=ps_sum (n:=14) hB131 (by kernel_rfl) (by kernel_rfl) (by kernel_rfl) h
noncomputable def G131:List AV→Tr AV:=g2 dPos (dI .u8) (fun a b=>gdv (ok131 a b) ((dI .i64).res (N131 a b)))
theorem s131:Sound Pz 131 G131:=sound2 fun a b=>at_gd (P131 a b)
noncomputable def K169:List (Nat×Nat×List (Nat×List Nat)):=[(169,5,[(0,[0]),(1,[2])])]
noncomputable def B169:Base:=baseOf Pz (fun f i=>lkC f i K169) [(192,G192)] [] []
theorem hB169:BOk B169:=base_ok named_z ⟨s192,trivial⟩ trivial trivial
noncomputable def N169 (a:BitVec 64):Int:=(N192 a)
noncomputable def ok169 (a:BitVec 64):Bool:=true
theorem P169 (a:BitVec 64) (h:ok169 a=true):PS Pz 169 [.u64 a] ((dI .i64).res (N169 a)):=ps_sum (n:=14) hB169 (by kernel_rfl) (by kernel_rfl) (by kernel_rfl) h
noncomputable def G169:List AV→Tr AV:=g1 dU (fun a=>.ret ((dI .i64).res (N169 a)))
theorem s169:Sound Pz 169 G169:=sound1 fun a=>at_rt (P169 a rfl)
noncomputable def K133:List (Nat×Nat×List (Nat×List Nat)):=[(133,12,[(0,[1,2,3]),(1,[6])])]
noncomputable def B133:Base:=baseOf Pz (fun f i=>lkC f i K133) [(66,G66),(169,G169)] [] []
theorem hB133:BOk B133:=base_ok named_z ⟨s66,s169,trivial⟩ trivial trivial
noncomputable def N133 (a:Pos) (b:Int) (c:Int):Int:=(N169 (N66 a b c))
noncomputable def ok133 (a:Pos) (b:Int) (c:Int):Bool:=(ok66 (a) (b) (c)&&true)
theorem P133 (a:Pos) (b:Int) (c:Int) (h:ok133 a b c=true):PS Pz 133 [Pos.av a,.int .u8 b,.int .u8 c] ((dI .i64).res (N133 a b c)):=ps_sum (n:=14) hB133 (by kernel_rfl) (by kernel_rfl) (by kernel_rfl) h
noncomputable def G133:List AV→Tr AV:=g3 dPos (dI .u8) (dI .u8) (fun a b c=>gdv (ok133 a b c) ((dI .i64).res (N133 a b c)))
theorem s133:Sound Pz 133 G133:=sound3 fun a b c=>at_gd (P133 a b c)
noncomputable def K132:List (Nat×Nat×List (Nat×List Nat)):=[(132,9,[(0,[1,2]),(1,[4])])]
noncomputable def B132:Base:=baseOf Pz (fun f i=>lkC f i K132) [(133,G133)] [] []
theorem hB132:BOk B132:=base_ok named_z ⟨s133,trivial⟩ trivial trivial
noncomputable def N132 (a:Pos) (b:Int):Int:=(wr .i64 (200 * N133 a b 6))
noncomputable def ok132 (a:Pos) (b:Int):Bool:=(ok133 (a) (b) (6)&&true)
theorem P132 (a:Pos) (b:Int) (h:ok132 a b=true):PS Pz 132 [Pos.av a,.int .u8 b] ((dI .i64).res (N132 a b)):=ps_sum (n:=14) hB132 (by kernel_rfl) (by kernel_rfl) (by kernel_rfl) h
noncomputable def G132:List AV→Tr AV:=g2 dPos (dI .u8) (fun a b=>gdv (ok132 a b) ((dI .i64).res (N132 a b)))
theorem s132:Sound Pz 132 G132:=sound2 fun a b=>at_gd (P132 a b)
noncomputable def K32:List (Nat×Nat×List (Nat×List Nat)):=[(32,77,[(0,[1,2]),(1,[1,2,15]),(2,[4]),(3,[1,2,5]),(4,[1,2,5,6]),(5,[1,2,5,6,17]),(6,[1,2,5,6]),(7,[1,2,5,6,24,25,26]),(8,(1::2::5::6::(rn 24 4 []))),(9,[1,2,5,6,8,24,25,26]),(10,[1,2,5,6,8,24,25,26]),(11,[1,2,5,6,8,24,25,26,39]),(12,[1,2,5,6,24,25,26]),(13,[1,2,5,6,24,25,26]),(14,[1,2,5,57,58,59]),(15,(1::2::5::(rn 57 4 []))),(16,[1,2,5,10,57,58,59]),(17,[1,2,5,10,57,58,59,67]),(18,[1,2,5,57,58,59]),(19,[1,2,5,57,58,59]),(20,[4])])]
noncomputable def B32_1:Base:=baseOf Pz (fun f i=>lkC f i K32) [(31,G31),(65,G65),(66,G66),(67,G67),(68,G68),(69,G69),(125,G125),(126,G126),(129,G129),(131,G131),(132,G132)] [] []
theorem hB32_1:BOk B32_1:=base_ok named_z ⟨s31,s65,s66,s67,s68,s69,s125,s126,s129,s131,s132,trivial⟩ trivial trivial
noncomputable def S32_1 (p1:Int) (p2:Int) (p3:(List Int)) (p4:Int) (p5:Pos) (x:(Int×Int)):St:=St.mk (AV.any::AV.int .u8 p1::AV.ptr 0 0::AV.any::AV.any::AV.int .i64 x.fst::AV.int .u8 p2::(an 17 (AV.list (ET.i .i64) p3 Tk.fresh::AV.int .i64 p4::AV.int .i64 x.snd::(an 50 [])))) (Hp.mk [(pc p5 [])] [] [] 0 0 0)
noncomputable def O32_1 (p1:Int) (p2:Int) (p3:(List Int)) (p4:Int) (p5:Pos):(Int×Int×Bool)→Out:=fun y=>.exit 2 (St.mk (AV.any::AV.int .u8 p1::AV.ptr 0 0::AV.any::AV.any::AV.int .i64 y.fst::AV.int .u8 p2::(an 17 (AV.list (ET.i .i64) p3 Tk.fresh::AV.int .i64 p4::AV.int .i64 y.snd.fst::AV.bool y.snd.snd::(an 49 [])))) (Hp.mk [(pc p5 [])] [] [] 0 0 0))
noncomputable def st32_1 (p1:Int) (p2:Int) (p3:(List Int)) (p4:Int) (p5:Pos) (x:(Int×Int)):Stp (Int×Int) ((Int×Int×Bool)):=(bif decide (x.snd < p4) then (bif p2==1 then (Stp.go (wr .i64 (wr .i64 (x.fst+wr .i64 (N67 p2 - wr .i64 (4 * N68 (p3.getD x.snd.toNat default))))+wr .i64 (6 * if wr .i64 (wr .i64 (7 * wr .i64 p1) - wr .i64 (Int.tdiv (p3.getD x.snd.toNat default) 8)) > wr .i64 (wr .i64 (Int.tdiv (p3.getD x.snd.toNat default) 8) - wr .i64 (7 * wr .i64 p1)) then wr .i64 (wr .i64 (7 * wr .i64 p1) - wr .i64 (Int.tdiv (p3.getD x.snd.toNat default) 8)) else wr .i64 (wr .i64 (Int.tdiv (p3.getD x.snd.toNat default) 8) - wr .i64 (7 * wr .i64 p1)))),wr .i64 (x.snd+1))) else (Stp.go (wr .i64 (x.fst+wr .i64 (N67 p2 - wr .i64 (4 * N68 (p3.getD x.snd.toNat default)))),wr .i64 (x.snd+1)))) else (Stp.out ((x.fst,x.snd,decide (x.snd < p4)))))
noncomputable def okL32_1 (p1:Int) (p2:Int) (p3:(List Int)) (p4:Int) (p5:Pos) (x:(Int×Int)):Bool:=(bif decide (x.snd < p4) then (decide (0≤x.snd)&&decide (x.snd < Int.ofNat p3.length)&&(ok67 (p2)&&true)) else true)
noncomputable def lp32_1 (p1:Int) (p2:Int) (p3:(List Int)) (p4:Int) (p5:Pos) (x:(Int×Int)):Option ((Int×Int×Bool)):=itl (fun x=>bif okL32_1 p1 p2 p3 p4 p5 x then st32_1 p1 p2 p3 p4 p5 x else .bad) many x
abbrev D32_1 {α:Type} (k:Int→Int→(List Int)→Int→Pos→(Int×Int)→α) (s:St):α:=wP s 0 fun q0=>k (tI (tT s 1)) (tI (tT s 6)) (tL (ET.i .i64) (tT s 24)) (tI (tT s 25)) q0 ((tI (tT s 5)),(tI (tT s 26)))
theorem L32_1 (p1:Int) (p2:Int) (p3:(List Int)) (p4:Int) (p5:Pos) (x:(Int×Int)) (r:(Int×Int×Bool)) (h:lp32_1 p1 p2 p3 p4 p5 x=some r):LSpec Pz (bodL Pz 32 8) (S32_1 p1 p2 p3 p4 p5 x) (O32_1 p1 p2 p3 p4 p5 r):=LSpec.smd (m:=12) (fn:=32) hB32_1 (D32_1 fun _ _ _ _ _ x=>some x) (fun o=>match o with | .exit 2 s=>some ((tI (tT s 5)),(tI (tT s 26)),(tB (tT s 27))) | _=>none) (fun _=>rfl) (fun _=>by kernel_rfl) (fun _=>by kernel_rfl) (fun _=>by kernel_rfl) (fun _=>by kernel_rfl) many x r h
noncomputable def F32_1 (b:Code) (s:St):Tr Out:=D32_1 (fun p1 p2 p3 p4 p5 x=>lk1 b (bodL Pz 32 8) s (S32_1 p1 p2 p3 p4 p5 x) (lp32_1 p1 p2 p3 p4 p5 x) (O32_1 p1 p2 p3 p4 p5)) s
theorem sF32_1:∀ b,LSound Pz b (F32_1 b):=fun _ _ _ h=>lk1_ok (L32_1 _ _ _ _ _ _) h
noncomputable def B32_2:Base:=baseOf Pz (fun f i=>lkC f i K32) [(31,G31),(65,G65),(66,G66),(67,G67),(68,G68),(69,G69),(125,G125),(126,G126),(129,G129),(131,G131),(132,G132)] [(32,8,F32_1)] []
theorem hB32_2:BOk B32_2:=base_ok named_z ⟨s31,s65,s66,s67,s68,s69,s125,s126,s129,s131,s132,trivial⟩ ⟨sF32_1,trivial⟩ trivial
noncomputable def S32_2 (p1:Int) (p2:Pos) (x:(Int×Int)):St:=St.mk (AV.any::AV.int .u8 p1::AV.ptr 0 0::AV.any::AV.any::AV.int .i64 x.fst::AV.int .u8 x.snd::(an 70 [])) (Hp.mk [(pc p2 [])] [] [] 0 0 0)
noncomputable def O32_2 (p1:Int) (p2:Pos):(Int×Int×Bool)→Out:=fun y=>.exit 0 (St.mk (AV.any::AV.int .u8 p1::AV.ptr 0 0::AV.any::AV.any::AV.int .i64 y.fst::AV.int .u8 y.snd.fst::(an 10 (AV.bool y.snd.snd::(an 59 [])))) (Hp.mk [(pc p2 [])] [] [] 0 0 0))
noncomputable def st32_2 (p1:Int) (p2:Pos) (x:(Int×Int)):Stp (Int×Int) ((Int×Int×Bool)):=(bif decide (x.snd≤6) then (Stp.go (((lp32_1 p1 x.snd (N65 (N66 p2 p1 x.snd)) (Int.ofNat (N65 (N66 p2 p1 x.snd)).length) p2 (x.fst,0)).getD default).fst,wr .u8 (x.snd+1))) else (Stp.out ((x.fst,x.snd,decide (x.snd≤6)))))
noncomputable def okL32_2 (p1:Int) (p2:Pos) (x:(Int×Int)):Bool:=(bif decide (x.snd≤6) then (ok66 (p2) (p1) (x.snd)&&(ok65 (N66 p2 p1 x.snd)&&((lp32_1 p1 x.snd (N65 (N66 p2 p1 x.snd)) (Int.ofNat (N65 (N66 p2 p1 x.snd)).length) p2 (x.fst,0)).isSome&&true))) else true)
noncomputable def lp32_2 (p1:Int) (p2:Pos) (x:(Int×Int)):Option ((Int×Int×Bool)):=itl (fun x=>bif okL32_2 p1 p2 x then st32_2 p1 p2 x else .bad) many x
abbrev D32_2 {α:Type} (k:Int→Pos→(Int×Int)→α) (s:St):α:=wP s 0 fun q0=>k (tI (tT s 1)) q0 ((tI (tT s 5)),(tI (tT s 6)))
theorem L32_2 (p1:Int) (p2:Pos) (x:(Int×Int)) (r:(Int×Int×Bool)) (h:lp32_2 p1 p2 x=some r):LSpec Pz (bodL Pz 32 5) (S32_2 p1 p2 x) (O32_2 p1 p2 r):=LSpec.smd (m:=12) (fn:=32) hB32_2 (D32_2 fun _ _ x=>some x) (fun o=>match o with | .exit 0 s=>some ((tI (tT s 5)),(tI (tT s 6)),(tB (tT s 17))) | _=>none) (fun _=>rfl) (fun _=>by kernel_rfl) (fun _=>by kernel_rfl) (fun _=>by kernel_rfl) (fun _=>by kernel_rfl) many x r h
noncomputable def F32_2 (b:Code) (s:St):Tr Out:=D32_2 (fun p1 p2 x=>lk1 b (bodL Pz 32 5) s (S32_2 p1 p2 x) (lp32_2 p1 p2 x) (O32_2 p1 p2)) s
theorem sF32_2:∀ b,LSound Pz b (F32_2 b):=fun _ _ _ h=>lk1_ok (L32_2 _ _ _) h
noncomputable def B32_3:Base:=baseOf Pz (fun f i=>lkC f i K32) [(31,G31),(65,G65),(66,G66),(67,G67),(68,G68),(69,G69),(125,G125),(126,G126),(129,G129),(131,G131),(132,G132)] [(32,8,F32_1),(32,5,F32_2)] []
theorem hB32_3:BOk B32_3:=base_ok named_z ⟨s31,s65,s66,s67,s68,s69,s125,s126,s129,s131,s132,trivial⟩ ⟨sF32_1,sF32_2,trivial⟩ trivial
noncomputable def S32_3 (p1:Int) (p2:Pos) (x:(Int×Int)):St:=St.mk (AV.any::AV.int .u8 p1::AV.ptr 0 0::AV.any::AV.any::AV.int .i64 x.fst::(an 51 (AV.vlist true [AV.agg [AV.cint .u8 2,AV.func 125 [] []],AV.agg [AV.cint .u8 8,AV.func 126 [] []],AV.agg [AV.cint .u8 6,AV.func 129 [] []],AV.agg [AV.cint .u8 5,AV.func 131 [] []],AV.agg [AV.cint .u8 4,AV.func 132 [] []]]::AV.cint .i64 (Int.ofNat 5)::AV.int .i64 x.snd::(an 17 [])))) (Hp.mk [(pc p2 [])] [] [] 0 0 0)
noncomputable def O32_3 (p1:Int) (p2:Pos):(Int×Int×Bool)→Out:=fun y=>.exit 4 (St.mk (AV.any::AV.int .u8 p1::AV.ptr 0 0::AV.any::AV.any::AV.int .i64 y.fst::(an 51 (AV.vlist true [AV.agg [AV.cint .u8 2,AV.func 125 [] []],AV.agg [AV.cint .u8 8,AV.func 126 [] []],AV.agg [AV.cint .u8 6,AV.func 129 [] []],AV.agg [AV.cint .u8 5,AV.func 131 [] []],AV.agg [AV.cint .u8 4,AV.func 132 [] []]]::AV.cint .i64 (Int.ofNat 5)::AV.int .i64 y.snd.fst::AV.bool y.snd.snd::(an 16 [])))) (Hp.mk [(pc p2 [])] [] [] 0 0 0))
noncomputable def st32_3 (p1:Int) (p2:Pos) (x:(Int×Int)):Stp (Int×Int) ((Int×Int×Bool)):=(bif decide (x.snd < Int.ofNat 5) then (bif x.snd==Int.ofNat 0 then (bif 2==p2.variant then (Stp.go (wr .i64 (x.fst+N125 p2 p1),wr .i64 (x.snd+1))) else (Stp.go (x.fst,wr .i64 (x.snd+1)))) else (bif x.snd==Int.ofNat 1 then (bif 8==p2.variant then (Stp.go (wr .i64 (x.fst+N126 p2 p1),wr .i64 (x.snd+1))) else (Stp.go (x.fst,wr .i64 (x.snd+1)))) else (bif x.snd==Int.ofNat 2 then (bif 6==p2.variant then (Stp.go (wr .i64 (x.fst+N129 p2 p1),wr .i64 (x.snd+1))) else (Stp.go (x.fst,wr .i64 (x.snd+1)))) else (bif x.snd==Int.ofNat 3 then (bif 5==p2.variant then (Stp.go (wr .i64 (x.fst+N131 p2 p1),wr .i64 (x.snd+1))) else (Stp.go (x.fst,wr .i64 (x.snd+1)))) else (bif 4==p2.variant then (Stp.go (wr .i64 (x.fst+N132 p2 p1),wr .i64 (x.snd+1))) else (Stp.go (x.fst,wr .i64 (x.snd+1)))))))) else (Stp.out ((x.fst,x.snd,decide (x.snd < Int.ofNat 5)))))
noncomputable def okL32_3 (p1:Int) (p2:Pos) (x:(Int×Int)):Bool:=(bif decide (x.snd < Int.ofNat 5) then (decide (0≤x.snd)&&decide (x.snd < Int.ofNat 5)&&(bif x.snd==Int.ofNat 0 then (bif 2==p2.variant then (ok125 (p2) (p1)&&true) else true) else (bif x.snd==Int.ofNat 1 then (bif 8==p2.variant then (ok126 (p2) (p1)&&true) else true) else (bif x.snd==Int.ofNat 2 then (bif 6==p2.variant then (ok129 (p2) (p1)&&true) else true) else (bif x.snd==Int.ofNat 3 then (bif 5==p2.variant then (ok131 (p2) (p1)&&true) else true) else (x.snd==Int.ofNat 4&&(bif 4==p2.variant then (ok132 (p2) (p1)&&true) else true))))))) else true)
noncomputable def lp32_3 (p1:Int) (p2:Pos) (x:(Int×Int)):Option ((Int×Int×Bool)):=itl (fun x=>bif okL32_3 p1 p2 x then st32_3 p1 p2 x else .bad) many x
abbrev D32_3 {α:Type} (k:Int→Pos→(Int×Int)→α) (s:St):α:=wP s 0 fun q0=>k (tI (tT s 1)) q0 ((tI (tT s 5)),(tI (tT s 59)))
theorem L32_3 (p1:Int) (p2:Pos) (x:(Int×Int)) (r:(Int×Int×Bool)) (h:lp32_3 p1 p2 x=some r):LSpec Pz (bodL Pz 32 15) (S32_3 p1 p2 x) (O32_3 p1 p2 r):=LSpec.smd (m:=12) (fn:=32) hB32_3 (D32_3 fun _ _ x=>some x) (fun o=>match o with | .exit 4 s=>some ((tI (tT s 5)),(tI (tT s 59)),(tB (tT s 60))) | _=>none) (fun _=>rfl) (fun _=>by kernel_rfl) (fun _=>by kernel_rfl) (fun _=>by kernel_rfl) (fun _=>by kernel_rfl) many x r h
noncomputable def F32_3 (b:Code) (s:St):Tr Out:=D32_3 (fun p1 p2 x=>lk1 b (bodL Pz 32 15) s (S32_3 p1 p2 x) (lp32_3 p1 p2 x) (O32_3 p1 p2)) s
theorem sF32_3:∀ b,LSound Pz b (F32_3 b):=fun _ _ _ h=>lk1_ok (L32_3 _ _ _) h
noncomputable def B32:Base:=baseOf Pz (fun f i=>lkC f i K32) [(31,G31),(65,G65),(66,G66),(67,G67),(68,G68),(69,G69),(125,G125),(126,G126),(129,G129),(131,G131),(132,G132)] [(32,8,F32_1),(32,5,F32_2),(32,15,F32_3)] []
theorem hB32:BOk B32:=base_ok named_z ⟨s31,s65,s66,s67,s68,s69,s125,s126,s129,s131,s132,trivial⟩ ⟨sF32_1,sF32_2,sF32_3,trivial⟩ trivial
noncomputable def N32 (a:Pos) (b:Int):Int:=(bif !N31 a.variant b then (0) else (((lp32_3 b a (((lp32_2 b a (0,1)).getD default).fst,0)).getD default).fst))
noncomputable def ok32 (a:Pos) (b:Int):Bool:=(ok31 (a.variant) (b)&&(bif !N31 a.variant b then true else ((lp32_2 b a (0,1)).isSome&&((lp32_3 b a (((lp32_2 b a (0,1)).getD default).fst,0)).isSome&&true))))
theorem P32 (a:Pos) (b:Int) (h:ok32 a b=true):PS Pz 32 [Pos.av a,.int .u8 b] ((dI .i64).res (N32 a b)):=ps_sum (n:=14) hB32 (by kernel_rfl) (by kernel_rfl) (by kernel_rfl) h
noncomputable def G32:List AV→Tr AV:=g2 dPos (dI .u8) (fun a b=>gdv (ok32 a b) ((dI .i64).res (N32 a b)))
theorem s32:Sound Pz 32 G32:=sound2 fun a b=>at_gd (P32 a b)
noncomputable def B15:Base:=baseOf Pz (fun _ _=>[]) [(31,G31),(32,G32)] [] []
theorem hB15:BOk B15:=base_ok named_z ⟨s31,s32,trivial⟩ trivial trivial
noncomputable def N15 (a:Pos):Int:=(evPure B15 14 15 [Pos.av a]).vt (dI .i64).dec
noncomputable def ok15 (a:Pos):Bool:=((evPure B15 14 15 [Pos.av a]).qt (dI .i64).dec).val
theorem P15a (a:Pos):(evPure B15 14 15 [Pos.av a]).obl.map ob1=(evPure B15 14 15 [Pos.av a]).obl.map ob2:=by kernel_rfl
theorem P15b (a:Pos):((evPure B15 14 15 [Pos.av a]).qt (dI .i64).dec).val=ok15 a:=by kernel_rfl
theorem P15c (a:Pos):(evPure B15 14 15 [Pos.av a]).vt (dI .i64).dec=N15 a:=by kernel_rfl
theorem P15 (a:Pos) (h:ok15 a=true):PS Pz 15 [Pos.av a] ((dI .i64).res (N15 a)) := @ps_sum B15 hB15 14 15 [Pos.av a] Int _ (dI .i64) (ok15 a) (N15 a) (P15b a) (P15c a) (P15a a) h
end Kz
end
section
namespace Kz
open Go Go.RowKit Go.Proofs
set_option maxRecDepth 100000
theorem ok15_eq (p:Pos):ok15 p=(ok31 p.variant p.turn&&bif !N31 p.variant p.turn then true else (ok32 p p.turn&&(ok32 p (wr .u8 (1 - p.turn))&&true))):=by kernel_rfl
theorem t67 {a:Int} (h:0≤a):ok67 a=true:=by
  unfold ok67
  refine c_true (fun _=>rfl) fun h2 => ?_
  have h2:a≤6:=by simpa using h2
  rw [decide_eq_true h,decide_eq_true (show a < Int.ofNat 7 by show a < 7; omega)]
  rfl
theorem lp125 (l:List Int) (p:Pos):(lp125_1 l p (0,0)).isSome=true:=by
  refine (of_some (Q:=fun _=>True) (lp_many (I:=fun x=>0≤x.2∧x.2≤6) (μ:=fun x=>(6 - x.2).toNat) ?_ _ ⟨by simp,by simp⟩ (by simp))).1
  rintro ⟨c,n⟩ ⟨h0,h1⟩
  simp only at h0 h1
  by_cases hc:n < 6
  · have hw:wr .i64 (n+1)=n+1:=wi64 (by omega) (by omega)
    have hw8:wr .u8 n=n:=wu8 (by omega) (by omega)
    refine ⟨c_true (fun _=>a_true (by simp [h0]; omega) fun _=>a_true (by rw [hw8]; exact t67 h0) fun _=>rfl) fun _=>rfl,c_ind (fun _ => ?_) fun h=>absurd h (by simpa using hc)⟩
    rw [hw]
    exact ⟨⟨by dsimp only; omega,by dsimp only; omega⟩,by dsimp only; omega⟩
  · exact ⟨c_true (fun h=>absurd h (by simpa using hc)) fun _=>rfl,c_ind (fun h=>absurd h (by simpa using hc)) fun _=>trivial⟩
theorem t125 (p:Pos) {b:Int} (h0:0≤b) (h1:b≤1):ok125 p b=true :=
  a_true (by rw [decide_eq_true h0,decide_eq_true (show b < Int.ofNat 2 by show b < 2; omega)]; rfl) fun _=>a_true (lp125 _ _) fun _=>rfl
theorem t131 (p:Pos) {b:Int} (h0:0≤b) (h1:b≤1):ok131 p b=true :=
  a_true (by rw [decide_eq_true h0,decide_eq_true (show b < Int.ofNat 2 by show b < 2; omega)]; rfl) fun _=>rfl
theorem lp32a (a k:Int) (l:List Int) (p:Pos) (c:Int) (hl:l.length≤64) (hk:0≤k):(lp32_1 a k l (Int.ofNat l.length) p (c,0)).isSome=true:=by
  refine (of_some (Q:=fun _=>True) (lp_many (I:=fun x=>0≤x.2∧x.2≤(l.length:Int)) (μ:=fun x=>((l.length:Int) - x.2).toNat) ?_ _ ⟨by simp,by simp⟩ (by simp; omega))).1
  rintro ⟨c,n⟩ ⟨h0,h1⟩
  simp only at h0 h1
  by_cases hc:n < l.length
  · have hw:wr .i64 (n+1)=n+1:=wi64 (by omega) (by omega)
    refine ⟨c_true (fun _=>a_true (by simp [h0]; exact hc) fun _=>a_true (t67 hk) fun _=>rfl) fun _=>rfl,c_ind (fun _ => ?_) fun h=>absurd h (by simpa using hc)⟩
    refine c_ind (fun _ => ?_) fun _ => ?_
    · rw [hw]
      exact ⟨⟨by dsimp only; omega,by dsimp only; omega⟩,by dsimp only; omega⟩
    · rw [hw]
      exact ⟨⟨by dsimp only; omega,by dsimp only; omega⟩,by dsimp only; omega⟩
  · exact ⟨c_true (fun h=>absurd h (by simpa using hc)) fun _=>rfl,c_ind (fun h=>absurd h (by simpa using hc)) fun _=>trivial⟩
theorem lp32b (a:Int) (p:Pos):(lp32_2 a p (0,1)).isSome=true:=by
  refine (of_some (Q:=fun _=>True) (lp_many (I:=fun x=>1≤x.2∧x.2≤7) (μ:=fun x=>(7 - x.2).toNat) ?_ _ ⟨by simp,by simp⟩ (by simp))).1
  rintro ⟨c,n⟩ ⟨h0,h1⟩
  simp only at h0 h1
  by_cases hc:n≤6
  · have hw:wr .u8 (n+1)=n+1:=wu8 (by omega) (by omega)
    refine ⟨c_true (fun _=>a_true (t66 _ _ _) fun _=>a_true (t65 _) fun _=>a_true (lp32a _ _ _ _ _ (by rw [N65_eq]; exact sqs_len _ _) (by omega)) fun _=>rfl) fun _=>rfl,c_ind (fun _ => ?_) fun h=>absurd h (by simpa using hc)⟩
    rw [hw]
    exact ⟨⟨by dsimp only; omega,by dsimp only; omega⟩,by dsimp only; omega⟩
  · exact ⟨c_true (fun h=>absurd h (by simpa using hc)) fun _=>rfl,c_ind (fun h=>absurd h (by simpa using hc)) fun _=>trivial⟩
theorem lp32c {a:Int} (h0:0≤a) (h1:a≤1) (p:Pos) (c:Int):(lp32_3 a p (c,0)).isSome=true:=by
  refine (of_some (Q:=fun _=>True) (lp_many (I:=fun x=>0≤x.2∧x.2≤5) (μ:=fun x=>(5 - x.2).toNat) ?_ _ ⟨by simp,by simp⟩ (by simp))).1
  rintro ⟨c,n⟩ ⟨g0,g1⟩
  simp only at g0 g1
  by_cases hc:n < 5
  · have hw:wr .i64 (n+1)=n+1:=wi64 (by omega) (by omega)
    have key:∀ v:Int,Nxt (fun x:Int×Int=>0≤x.2∧x.2≤5) (fun _:Int×Int×Bool=>True) (fun x:Int×Int=>(5 - x.2).toNat) ((5 - n).toNat) (Stp.go (v,wr .i64 (n+1))):=fun v=>by
      rw [hw]
      exact ⟨⟨by dsimp only; omega,by dsimp only; omega⟩,by dsimp only; omega⟩
    have h5:decide (n < Int.ofNat 5)=true:=decide_eq_true (show n < 5 from hc)
    have hb:(decide (0≤n)&&decide (n < Int.ofNat 5))=true:=by rw [h5,decide_eq_true g0]; rfl
    have h126:ok126 p a=true:=a_true (t106 _ _ _) fun _=>rfl
    have h129:ok129 p a=true:=a_true (t106 _ _ _) fun _=>rfl
    have h132:ok132 p a=true:=a_true (a_true (t66 _ _ _) fun _=>rfl) fun _=>rfl
    refine ⟨c_true (fun _=>a_true hb fun _=>c_true (fun _=>c_true (fun _=>a_true (t125 p h0 h1) fun _=>rfl) fun _=>rfl) fun e0=>c_true (fun _=>c_true (fun _=>a_true h126 fun _=>rfl) fun _=>rfl) fun e1=>c_true (fun _=>c_true (fun _=>a_true h129 fun _=>rfl) fun _=>rfl) fun e2=>c_true (fun _=>c_true (fun _=>a_true (t131 p h0 h1) fun _=>rfl) fun _=>rfl) fun e3=>a_true ?_ fun _=>c_true (fun _=>a_true h132 fun _=>rfl) fun _=>rfl) fun _=>rfl,c_ind (fun _ => ?_) fun h=>absurd h (by rw [h5]; simp)⟩
    · have e0:¬ n=0:=by simpa using e0
      have e1:¬ n=1:=by simpa using e1
      have e2:¬ n=2:=by simpa using e2
      have e3:¬ n=3:=by simpa using e3
      have:n=4:=by omega
      rw [this]
      rfl
    · refine c_ind (fun _=>c_ind (fun _=>key _) fun _=>key _) fun _=>c_ind (fun _=>c_ind (fun _=>key _) fun _=>key _) fun _=>c_ind (fun _=>c_ind (fun _=>key _) fun _=>key _) fun _=>c_ind (fun _=>c_ind (fun _=>key _) fun _=>key _) fun _=>c_ind (fun _=>key _) fun _=>key _
  · have h5:decide (n < Int.ofNat 5)=false:=decide_eq_false (show ¬ n < 5 from hc)
    exact ⟨c_true (fun h=>absurd h (by rw [h5]; simp)) fun _=>rfl,c_ind (fun h=>absurd h (by rw [h5]; simp)) fun _=>trivial⟩
theorem t31 {a:Int} (b:Int) (h:0≤a):ok31 a b=true:=a_true (a_true (t118 h) fun _=>rfl) fun _=>rfl
theorem t32 {p:Pos} (hp:PosIn p) {b:Int} (h0:0≤b) (h1:b≤1):ok32 p b=true :=
  a_true (t31 b hp.v0) fun _=>c_true (fun _=>rfl) fun _=>a_true (lp32b b p) fun _=>a_true (lp32c h0 h1 p _) fun _=>rfl
theorem t15 (p:Pos) (hp:PosIn p):ok15 p=true:=by
  rw [ok15_eq]
  refine a_true (t31 _ hp.v0) fun _=>c_true (fun _=>rfl) fun h => ?_
  have h31:N31 p.variant p.turn=true:=by simpa using h
  have ht:p.turn≤1:=by
    revert h31
    unfold N31
    exact c_ind (P:=fun x:Bool=>x=true→p.turn≤1) (fun _ h=>of_decide_eq_true h) fun _ h=>by cases h
  have h0:=hp.t0
  have hw:wr .u8 (1 - p.turn)=1 - p.turn:=wu8 (by omega) (by omega)
  exact a_true (t32 hp h0 ht) fun _=>a_true (by rw [hw]; exact t32 hp (by omega) (by omega)) fun _=>rfl
end Kz
end
section
namespace Go.Proofs
open Go.Shelf Go.RowKit Go.Lib Go.Sort Kz
theorem run_load34 {W:World} {b sz:Nat} {ty:TypeId} {cs:Array Value} (h:W.heap[b]?=some (.cells cs ty (0,0))) (hs:cs.toList.length=sz):Sem.run Tryz.prog (loadCellsFrom { block:=b,off:=0,spot:=none } 0 sz #[]) W=.ok cs W:=by
  have h:=run_loadCellsFrom_list Tryz.prog W ⟨b,0,none⟩ cs.toList sz hs (fun c v hc=>by
    rw [Addr.add_lit,cell_of_blk h,Nat.zero_add]
    simpa using hc)
  simpa using h
theorem pos_turn {g:Gh} {tk:List Nat} {w:World} {p:Pos} {cs:List Value} (h:RepC g tk w (segs (Pos.av p)) cs):cs[0]?=some (.int .u8 p.variant)∧cs[78]?=some (.int .u8 p.turn):=by
  change RepC g tk w [.int .u8 p.variant,.ints .u8 64 p.board,.u64 p.promoted,.ints .u8 12 p.pockets,.int .u8 p.turn,.ints .i8 4 p.rooks,.int .i8 p.passing,.ints .u8 2 p.checks,.int .i64 p.half,.int .i64 p.full] cs at h
  obtain ⟨x1,r1,e1,q1,h1⟩:=h.inv_one rfl
  obtain ⟨l2,r2,e2,h2⟩:=h1.inv_ints
  obtain ⟨x3,r3,e3,q3,h3⟩:=h2.inv_one rfl
  obtain ⟨l4,r4,e4,h4⟩:=h3.inv_ints
  obtain ⟨x5,r5,e5,q5,h5⟩:=h4.inv_one rfl
  cases q1; cases q5
  rw [e1,e2,e3,e4,e5]
  refine ⟨rfl,?_⟩
  rw [List.getElem?_cons_succ,List.getElem?_append_right (by simp [l2])]
  simp only [List.length_map,l2]
  rw [show 77 - 64=12+1 from rfl,List.getElem?_cons_succ,List.getElem?_append_right (by simp [l4])]
  simp [l4]
noncomputable def sides (p:Pos):Int:=wrap64 (N32 p p.turn - N32 p (wr .u8 (1 - p.turn)))
noncomputable def evl (p:Pos):Int:=bif N31 p.variant p.turn then min (max (bif p.variant==4 then wrap64 (-sides p) else sides p) (-20000)) 20000 else 0
theorem evl_in (p:Pos) : -20000≤evl p∧evl p≤20000:=by
  unfold evl
  exact c_ind (P:=fun x:Int => -20000≤x∧x≤20000) (fun _=>by omega) fun _=>by omega
theorem N31_turn {p:Pos} (h31:N31 p.variant p.turn=true):p.turn≤1:=by
  revert h31
  unfold N31
  exact c_ind (P:=fun x:Bool=>x=true→p.turn≤1) (fun _ h=>of_decide_eq_true h) fun _ h=>by cases h
set_option maxHeartbeats 4000000 in
set_option maxRecDepth 100000 in
theorem eval_w (p:Pos) (hp:PosIn p) (k:Nat) (zE:∀ w,(Go.sizeOf 34).run Tryz.prog w=.ok k w) (hk:k=88):PureSpec Tryz.prog 15 [Pos.av p] (.int .i64 (evl p)):=by
  intro w vals hg hr
  obtain ⟨vals⟩:=vals
  cases hr with
  | cons q1 r1 =>
  cases r1
  obtain ⟨pcs,rfl,hpc⟩:=Rep.inv_agg (l:=segs (Pos.av p)) q1
  clear q1
  refine callsIn_wide.2 ?_
  have mixed:Tryz.prog.follows .mixedOrders=true:=by kernel_rfl
  have aE:∀ w,(isAgg 34).run Tryz.prog w=.ok true w:=Tryz.isAgg34
  have hlen:pcs.toList.length=k:=(pos_len hpc).trans hk.symm
  obtain ⟨w1,hw1⟩:∃ w1,w1=w.alloc (Obj.cells pcs 34):=⟨_,rfl⟩
  have hs1:w1.heap.size=w.heap.size+1:=by rw [hw1]; simp
  have hp1:w1.heap[w.heap.size]?=some (.cells pcs 34 (0,0)):=by rw [hw1]; exact heap_alloc_new w _
  have hb1:RowKit.Below w.heap.size w w1:=by rw [hw1]; exact (Below.refl _ w).alloc (Nat.le_refl _) _
  have hK1:Kept w w1 w1:=⟨hb1,Nat.le_refl _,rfl⟩
  have ld:∀ W,Kept w w1 W→Sem.run Tryz.prog (loadCellsFrom { block:=w.heap.size,off:=0,spot:=none } 0 k #[]) W=.ok pcs W:=fun W hW=>run_load34 (hW.p.trans hp1) hlen
  have tu:∀ W:World,Kept w w1 W→W.cell? ⟨w.heap.size,0,none⟩=some (.int .u8 p.variant)∧W.cell? ⟨w.heap.size,78,none⟩=some (.int .u8 p.turn):=fun W hW=>by
    have h:=pos_turn hpc
    rw [cell_of_blk (hW.p.trans hp1),cell_of_blk (hW.p.trans hp1)]
    simpa using h
  have g0:∀ W,Kept w w1 W→GlobOk W:=fun W hW=>globOk_of hg hW.b.size hW.b.block
  have nx:∀ W w',Kept w w1 W→RowKit.Below W.heap.size W w'→Kept w w1 w':=fun W w' hW hb=>by
    have:=hW.s
    exact ⟨hW.b.trans (hb.mono hW.b.size),Nat.le_trans hW.s hb.size,(hb.block _ (by omega)).trans hW.p⟩
  have k31:∀ W,Kept w w1 W→Calls Tryz.prog 31 #[.int .u8 p.variant,.int .u8 p.turn] W fun e w'=>e=.returned (.bool (N31 p.variant p.turn))∧Hid (Kept w w1 w'):=fun W hW=>by
    have h:=(P31 p.variant p.turn (t31 _ hp.v0)).1
    unfold PureSpec at h
    refine Calls.mono (callsIn_wide.1 (h W #[.int .u8 p.variant,.int .u8 p.turn] (g0 W hW) (.cons (.int _ _) (.cons (.int _ _) .nil)))) ?_
    rintro e w' ⟨x,rfl,hb,hx⟩
    cases hx
    exact ⟨rfl,nx W w' hW hb⟩
  have k32:∀ W b,0≤b→b≤1→Kept w w1 W→Calls Tryz.prog 32 #[.agg pcs,.int .u8 b] W fun e w'=>e=.returned (.int .i64 (N32 p b))∧Kept w w1 w':=fun W b b0 b1 hW=>by
    have h:=(P32 p b (t32 hp b0 b1)).1
    unfold PureSpec at h
    refine Calls.mono (callsIn_wide.1 (h W #[.agg pcs,.int .u8 b] (g0 W hW) (.cons (.agg (pos_rep hpc)) (.cons (.int _ _) .nil)))) ?_
    rintro e w' ⟨x,rfl,hb,hx⟩
    cases hx
    exact ⟨rfl,nx W w' hW hb⟩
  have c31:=k31 w1 hK1
  rw [hw1] at c31
  have t1:=tu w1 hK1
  rw [hw1] at t1
  obtain ⟨tv1,tt1⟩:=t1
  have LD:Aside _:=ld
  have TU:Aside _:=tu
  have K32:Aside _:=k32
  have HW1:=Lib.hid hw1
  have ht0:=hp.t0
  clear ld tu k31 k32 hK1 hs1 hp1 hb1 hg g0 nx hlen hk hw1
  go_enter Tryz.func15,Tryz.ntmps15
  go_wp2_with fail
  refine c31.mono ?_
  rintro e w2 ⟨rfl,hK2⟩
  clear c31 tv1 tt1
  rw [← HW1.out] at hK2
  cases h31:N31 p.variant p.turn with
  | false =>
    go_wp2_with fail
    go_ret
    refine ⟨_,rfl,hK2.out.b,?_⟩
    unfold evl
    rw [h31,cond_false]
    exact .int _ _
  | true =>
    have ht1:=N31_turn h31
    obtain ⟨tb,htb⟩:∃ tb,tb=wr .u8 (1 - p.turn):=⟨_,rfl⟩
    have hwb:wr .u8 (1 - p.turn)=1 - p.turn:=wu8 (by omega) (by omega)
    have tb0:0≤tb∧tb≤1:=by omega
    have hw8:IntKind.u8.wrap (1 - p.turn)=tb:=htb.symm
    have hw8':wr .u8 (1 - p.turn)=tb:=htb.symm
    clear hwb htb
    have l2:∀ q:RWd (fun (_:Array Unit) W=>Kept w w1 W) #[],Sem.run Tryz.prog (loadCellsFrom { block:=w.heap.size,off:=0,spot:=none } 0 k #[]) q.W=.ok pcs q.W:=fun q=>LD.out q.W q.h
    have t2:∀ q:RWd (fun (_:Array Unit) W=>Kept w w1 W) #[],q.W.cell? ⟨w.heap.size,78,none⟩=some (.int .u8 p.turn):=fun q=>(TU.out q.W q.h).2
    have cA:∀ q:RWd (fun (_:Array Unit) W=>Kept w w1 W) #[],Calls Tryz.prog 32 #[.agg pcs,.int .u8 p.turn] q.W fun e w'=>e=.returned (.int .i64 (N32 p p.turn))∧∃ q':RWd (fun (_:Array Unit) W=>Kept w w1 W) #[],w'=q'.W:=fun q=>(K32.out q.W p.turn ht0 ht1 q.h).mono fun e w' ⟨a,b⟩=>⟨a,⟨w',b⟩,rfl⟩
    have cB:∀ q:RWd (fun (_:Array Unit) W=>Kept w w1 W) #[],Calls Tryz.prog 32 #[.agg pcs,.int .u8 tb] q.W fun e w'=>e=.returned (.int .i64 (N32 p tb))∧∃ q':RWd (fun (_:Array Unit) W=>Kept w w1 W) #[],w'=q'.W:=fun q=>(K32.out q.W tb tb0.1 tb0.2 q.h).mono fun e w' ⟨a,b⟩=>⟨a,⟨w',b⟩,rfl⟩
    go_wp2_with fail
    refine wp_region_rw (RW:=fun (_:Array Unit) W=>Kept w w1 W) (d := #[]) mixed (by kernel_rfl) hK2.out.drew ?_
    repeat (quiet_step (first | with_reducible rfl | (go_at_call_of 32 (Value.int .u8 p.turn); exact cA _) | (go_at_call_of 32 (Value.int .u8 tb); exact cB _)))
    refine wpQuiet_nil ?_
    intro w3 hw'
    obtain ⟨⟨wx,hq⟩,hw''⟩:=hw'
    subst hw''
    have HK3:Hid (Kept w w1 w3):=hq
    obtain ⟨tv3,tt3⟩:=TU.out w3 hq
    clear l2 t2 cA cB hq
    have hev:evl p=min (max (bif p.variant==4 then wrap64 (-sides p) else sides p) (-20000)) 20000:=by unfold evl; rw [h31,cond_true]
    unfold sides at hev
    rw [hw8'] at hev
    have HEV:=Lib.hid hev
    clear hev hw8' h31
    cases hv4:(p.variant==4) with
    | true =>
      go_wp2_with fail
      go_ret
      refine ⟨_,rfl,HK3.out.b,?_⟩
      rw [HEV.out,hv4]
      exact .int _ _
    | false =>
      go_wp2_with fail
      go_ret
      refine ⟨_,rfl,HK3.out.b,?_⟩
      rw [HEV.out,hv4]
      exact .int _ _
end Go.Proofs
end
section
namespace Kz
open Go Go.RowKit Go.Proofs
set_option maxRecDepth 100000
set_option maxHeartbeats 4000000
noncomputable def K78:List (Nat×Nat×List (Nat×List Nat)):=[(78,16,[(0,[0]),(1,[0]),(2,[0,5]),(3,[2]),(4,[0,10]),(5,[2]),(6,[2])])]
noncomputable def B78:Base:=baseOf Pz (fun f i=>lkC f i K78) [] [] []
theorem hB78:BOk B78:=base_ok named_z trivial trivial trivial
noncomputable def N78 (a:Int):Int:=(bif decide (wr .i64 (0 - a) > 20000) then (wr .i64 (wr .i64 (0 - a) - 1)) else (bif decide (wr .i64 (0 - a) < -20000) then (wr .i64 (wr .i64 (0 - a)+1)) else (wr .i64 (0 - a))))
noncomputable def ok78 (a:Int):Bool:=true
theorem P78 (a:Int) (h:ok78 a=true):PS Pz 78 [.int .i64 a] ((dI .i64).res (N78 a)):=ps_sum (n:=14) hB78 (by kernel_rfl) (by kernel_rfl) (by kernel_rfl) h
noncomputable def G78:List AV→Tr AV:=g1 (dI .i64) (fun a=>.ret ((dI .i64).res (N78 a)))
theorem s78:Sound Pz 78 G78:=sound1 fun a=>at_rt (P78 a rfl)
end Kz
end
section
namespace Kz
open Go Go.RowKit Go.Proofs
set_option maxRecDepth 100000
noncomputable def endv (p:Pos):Int:=bif (N24 p).1==3 then 0 else bif (N24 p).1==wr .u8 (1+p.turn) then 30000 else -30000
noncomputable def best0 (p:Pos):Int:=bif p.variant==4&&decide (0 < (takesL p).length) then -30001 else evl p
noncomputable def stepL (f:Pos→Int→Option (Int×Int)) (p:Pos) (s:Option (Int×Int)) (m:Mv):Option (Int×Int) :=
  match s with
  | none=>none
  | some (b,k)=>match f (N22 p m).1 k with
    | none=>none
    | some (v,k')=>some (max b (N78 v),k')
noncomputable def lookM:Nat→Pos→Int→Option (Int×Int)
  | 0,p,k=>if 200000 < k+1 then none else bif (N24 p).1 != 0 then some (endv p,k+1) else some (evl p,k+1)
  | n+1,p,k=>if 200000 < k+1 then none else bif (N24 p).1 != 0 then some (endv p,k+1) else (takesL p).foldl (stepL (lookM n) p) (some (best0 p,k+1))
noncomputable def gainM (n:Nat) (p:Pos) (m:Mv) (k:Int):Option (Int×Int):=(lookM n (N22 p m).1 k).map fun x=>(N78 x.1,x.2)
theorem step_none (f:Pos→Int→Option (Int×Int)) (p:Pos):∀ l:List Mv,l.foldl (stepL f p) none=none
  | []=>rfl
  | _::l=>step_none f p l
structure Lkd (w:World) (c:Nat) (ty:TypeId) (k:Int) (W:World):Prop where
  os:W.os=w.os
  tape:W.tape=w.tape
  output:W.output=w.output
  size:w.heap.size≤W.heap.size
  other:∀ j,j < w.heap.size→j≠c→W.heap[j]?=w.heap[j]?
  cell:W.heap[c]?=some (.cells #[.int .i64 k] ty (0,0))
theorem Lkd.trans {w w1 w2:World} {c:Nat} {ty:TypeId} {k k2:Int} (h:Lkd w c ty k w1) (g:Lkd w1 c ty k2 w2):Lkd w c ty k2 w2 :=
  ⟨g.os.trans h.os,g.tape.trans h.tape,g.output.trans h.output,Nat.le_trans h.size g.size,fun j hj hn=>(g.other j (Nat.lt_of_lt_of_le hj h.size) hn).trans (h.other j hj hn),g.cell⟩
theorem Lkd.below {w w1 w2:World} {c:Nat} {ty:TypeId} {k:Int} (h:Lkd w c ty k w1) (g:RowKit.Below w1.heap.size w1 w2):Lkd w c ty k w2 :=
  ⟨g.os.trans h.os,g.tape.trans h.tape,g.output.trans h.output,Nat.le_trans h.size g.size,fun j hj hn=>(g.block j (Nat.lt_of_lt_of_le hj h.size)).trans (h.other j hj hn),(g.block c (lt_of_some h.cell)).trans h.cell⟩
theorem Lkd.refl {w:World} {c:Nat} {ty:TypeId} {k:Int} (h:w.heap[c]?=some (.cells #[.int .i64 k] ty (0,0))):Lkd w c ty k w:=⟨rfl,rfl,rfl,Nat.le_refl _,fun _ _ _=>rfl,h⟩
theorem Lkd.drew {w w1:World} {c:Nat} {ty:TypeId} {k:Int} (h:Lkd w c ty k w1):Lkd w c ty k w1.drew:=h.below ⟨rfl,rfl,rfl,Nat.le_refl _,fun _ _=>rfl⟩
theorem Lkd.alloc {w w1:World} {c:Nat} {ty:TypeId} {k:Int} (h:Lkd w c ty k w1) (o:Obj):Lkd w c ty k (w1.alloc o):=h.below ((Below.refl _ w1).alloc (Nat.le_refl _) o)
theorem Lkd.put {w w1:World} {c:Nat} {ty:TypeId} {k k':Int} (h:Lkd w c ty k w1):Lkd w c ty k' (w1.setCell ⟨c,0,none⟩ (.int .i64 k')):=by
  have e:w1.setCell ⟨c,0,none⟩ (.int .i64 k')=putBlk w1 c (.cells #[.int .i64 k'] ty (0,0)):=by
    rw [setCell_eq_put h.cell]
    rfl
  rw [e]
  exact ⟨h.os,h.tape,h.output,by rw [putBlk_size]; exact h.size,fun j hj hn=>by rw [putBlk_other hn]; exact h.other j hj hn,putBlk_same h.cell⟩
theorem globOk_lk {w W:World} {c:Nat} {ty ty':TypeId} {k k':Int} (hg:GlobOk w) (hc:w.heap[c]?=some (.cells #[.int .i64 k] ty (0,0))) (h:Lkd w c ty' k' W):GlobOk W:=by
  intro pr hpr j x hj
  obtain ⟨h1,h2⟩:=hg pr hpr j x hj
  have hlt:pr.1 < w.heap.size:=h2
  by_cases e:pr.1=c
  · exfalso
    rw [e,cell_of_blk hc,Nat.zero_add] at h1
    have hx:x=.int .i64 k:=by
      cases j with
      | zero=>simpa using h1.symm
      | succ j=>simp at h1
    rw [hx] at hj
    have:=List.mem_of_getElem? hj
    obtain ⟨y,_,hy⟩:=List.mem_map.1 this
    cases hy
  · exact ⟨by rw [cell_same (h.other _ hlt e)]; exact h1,Nat.lt_of_lt_of_le hlt h.size⟩
end Kz
end
section
namespace Kz
open Go Go.RowKit Go.Proofs
set_option maxRecDepth 100000
def LPost (w:World) (c:Nat) (ty:TypeId) (r:Option (Int×Int)) (e:Ending) (w':World):Prop :=
  match r with
  | some x=>e=.returned (.int .i64 x.1)∧Lkd w c ty x.2 w'
  | none=>e=.panicked (chainOf (.iface 90 (.agg #[])))∧Lkd w c ty 200001 w'
def VS (n:Nat):Prop := ∀ (p:Pos),PosIn p→∀ (k:Int),0≤k→k≤200000→∀ (c:Nat) (ty:TypeId) (w:World),GlobOk w→w.heap[c]?=some (.cells #[.int .i64 k] ty (0,0)) →
  ∀ (pcs:Array Value),RepC (gArg w) [] w (segs (Pos.av p)) pcs.toList→Calls Tryz.prog 30 #[.pointer (some ⟨c,0,none⟩),.agg pcs,.int .i64 (n:Int)] w (LPost w c ty (lookM n p k))
def GS (n:Nat):Prop := ∀ (p:Pos),PosIn p→∀ (m:Mv) (k:Int),0≤k→k≤200000→∀ (c:Nat) (ty:TypeId) (w:World),GlobOk w→w.heap[c]?=some (.cells #[.int .i64 k] ty (0,0)) →
  ∀ (pcs:Array Value),RepC (gArg w) [] w (segs (Pos.av p)) pcs.toList→Calls Tryz.prog 37 #[.pointer (some ⟨c,0,none⟩),.agg pcs,.agg (encM m).toArray,.int .i64 ((n:Int)+1)] w (LPost w c ty (gainM n p m k))
theorem child_in {p:Pos} (hp:PosIn p) (m:Mv):PosIn (N22 p m).1:=by
  obtain ⟨_,h1,h2⟩:=move_all hp m
  by_cases hm:m ∈ N45 p
  · exact (h1 hm).2.1
  · rw [h2 hm]; exact hp
theorem lookM_k:∀ (n:Nat) (p:Pos) (k:Int) (x:Int×Int),lookM n p k=some x→k < x.2∧x.2≤200000
  | 0,p,k,x,h=>by
    unfold lookM at h
    split at h
    · cases h
    · cases hb:(N24 p).1 != 0 <;> rw [hb] at h <;> simp only [cond_true,cond_false,Option.some.injEq] at h <;> subst h <;> (dsimp only; omega)
  | n+1,p,k,x,h=>by
    unfold lookM at h
    split at h
    · cases h
    · cases hb:(N24 p).1 != 0 <;> rw [hb] at h
      · simp only [cond_false] at h
        have key:∀ (l:List Mv) (b k':Int),k < k'→k'≤200000→l.foldl (stepL (lookM n) p) (some (b,k'))=some x→k < x.2∧x.2≤200000:=by
          intro l
          induction l with
          | nil=>intro b k' h1 h2 h3; simp only [List.foldl_nil,Option.some.injEq] at h3; subst h3; exact ⟨h1,h2⟩
          | cons m l ih =>
            intro b k' h1 h2 h3
            simp only [List.foldl_cons,stepL] at h3
            cases hr:lookM n (N22 p m).1 k' with
            | none=>rw [hr] at h3; simp only at h3; rw [step_none] at h3; cases h3
            | some y =>
              rw [hr] at h3
              have:=lookM_k n _ _ _ hr
              exact ih _ _ (by omega) this.2 h3
        exact key _ _ _ (by omega) (by omega) h
      · simp only [cond_true,Option.some.injEq] at h
        subst h
        dsimp only
        omega
end Kz
namespace Go.Proofs
open Go.Shelf Go.RowKit Go.Lib Go.Sort Kz
theorem pos_one {g:Gh} {tk:List Nat} {w:World} {p:Pos} {cs:List Value} (h:RepC g tk w (segs (Pos.av p)) cs):∀ v ∈ cs,v.oneCell'=true:=by
  change RepC g tk w [.int .u8 p.variant,.ints .u8 64 p.board,.u64 p.promoted,.ints .u8 12 p.pockets,.int .u8 p.turn,.ints .i8 4 p.rooks,.int .i8 p.passing,.ints .u8 2 p.checks,.int .i64 p.half,.int .i64 p.full] cs at h
  obtain ⟨x1,r1,e1,q1,h1⟩:=h.inv_one rfl
  obtain ⟨l2,r2,e2,h2⟩:=h1.inv_ints
  obtain ⟨x3,r3,e3,q3,h3⟩:=h2.inv_one rfl
  obtain ⟨l4,r4,e4,h4⟩:=h3.inv_ints
  obtain ⟨x5,r5,e5,q5,h5⟩:=h4.inv_one rfl
  obtain ⟨l6,r6,e6,h6⟩:=h5.inv_ints
  obtain ⟨x7,r7,e7,q7,h7⟩:=h6.inv_one rfl
  obtain ⟨l8,r8,e8,h8⟩:=h7.inv_ints
  obtain ⟨x9,r9,e9,q9,h9⟩:=h8.inv_one rfl
  obtain ⟨x10,r10,e10,q10,h10⟩:=h9.inv_one rfl
  have e11:=h10.inv_nil
  cases q1; cases q3; cases q5; cases q7; cases q9; cases q10
  have key:∀ (k:IntKind) (l:List Int),∀ v ∈ l.map (Value.int k),v.oneCell'=true:=fun k l v hv=>by
    obtain ⟨x,_,rfl⟩:=List.mem_map.1 hv
    rfl
  rw [e1,e2,e3,e4,e5,e6,e7,e8,e9,e10,e11]
  intro v hv
  simp only [List.mem_cons,List.mem_append,List.not_mem_nil,or_false] at hv
  rcases hv with rfl | hv | rfl | hv | rfl | hv | rfl | hv | rfl | rfl
  · rfl
  · exact key _ _ v hv
  · rfl
  · exact key _ _ v hv
  · rfl
  · exact key _ _ v hv
  · rfl
  · exact key _ _ v hv
  · rfl
  · rfl
set_option maxHeartbeats 4000000 in
set_option maxRecDepth 100000 in
theorem gain_w (n:Nat) (hn:n < 4611686018427387904) (hv:VS n) (sz:Nat) (zE:∀ w,(Go.sizeOf 34).run Tryz.prog w=.ok sz w) (hsz:sz=88) (zs:Array Value) (zV:∀ w,(zeroValue 34).run Tryz.prog w=.ok (.agg zs) w) (hzs:zs.size=sz) (s44:Nat) (zE44:∀ w,(Go.sizeOf 44).run Tryz.prog w=.ok s44 w) (h44:s44=5):GS n:=by
  intro p hp m k h0 h1 c ty w hg hc pcs hpc
  have aE:∀ w,(isAgg 34).run Tryz.prog w=.ok true w:=Tryz.isAgg34
  have aE44:∀ w,(isAgg 44).run Tryz.prog w=.ok true w:=Tryz.isAgg44
  have hlen:pcs.toList.length=sz:=(pos_len hpc).trans hsz.symm
  obtain ⟨mc,hmc⟩:∃ mc,mc=(encM m).toArray:=⟨_,rfl⟩
  have hml:mc.toList.length=s44:=by rw [hmc,h44]; rfl
  rw [← hmc]
  have hcw:c < w.heap.size:=lt_of_some hc
  have hb1:RowKit.Below w.heap.size w ((w.alloc (Obj.cells pcs 34)).alloc (Obj.cells mc 44)):=((Below.refl _ w).alloc (Nat.le_refl _) _).alloc (by simp) _
  have hs1:((w.alloc (Obj.cells pcs 34)).alloc (Obj.cells mc 44)).heap.size=w.heap.size+2:=by simp
  have hbp:((w.alloc (Obj.cells pcs 34)).alloc (Obj.cells mc 44)).heap[w.heap.size]?=some (.cells pcs 34 (0,0)):=by
    rw [Below.heap_alloc _ _ _ (by simp)]
    exact heap_alloc_new w _
  have hbm:((w.alloc (Obj.cells pcs 34)).alloc (Obj.cells mc 44)).heap[w.heap.size+1]?=some (.cells mc 44 (0,0)):=by
    have h:=heap_alloc_new (w.alloc (Obj.cells pcs 34)) (Obj.cells mc 44)
    have h1:(w.alloc (Obj.cells pcs 34)).heap.size=w.heap.size+1:=by simp
    rw [h1] at h
    exact h
  have l1:=run_load34 hbp hlen
  have l2:=run_load34 hbm hml
  have hL1:Lkd w c ty k ((w.alloc (Obj.cells pcs 34)).alloc (Obj.cells mc 44)):=(Lkd.refl hc).below hb1
  have c22:Calls Tryz.prog 22 #[.agg pcs,.agg mc] ((w.alloc (Obj.cells pcs 34)).alloc (Obj.cells mc 44)) fun e w' => ∃ qcs b,e=.returned (.tuple #[.agg qcs,b])∧Hid (RowKit.Below ((w.alloc (Obj.cells pcs 34)).alloc (Obj.cells mc 44)).heap.size ((w.alloc (Obj.cells pcs 34)).alloc (Obj.cells mc 44)) w')∧Hid (RepC (gArg w') [] w' (segs (Pos.av (N22 p m).1)) qcs.toList):=by
    have h:=(P22 p m (move_all hp m).1).1
    unfold PureSpec at h
    have r1:Rep (gArg ((w.alloc (Obj.cells pcs 34)).alloc (Obj.cells mc 44))) [] ((w.alloc (Obj.cells pcs 34)).alloc (Obj.cells mc 44)) (Pos.av p) (.agg pcs) := .agg (pos_rep hpc)
    have r2:Rep (gArg ((w.alloc (Obj.cells pcs 34)).alloc (Obj.cells mc 44))) [] ((w.alloc (Obj.cells pcs 34)).alloc (Obj.cells mc 44)) (Mv.av m) (.agg mc):=by rw [hmc]; exact .agg (mv_rep _ _ _ m)
    refine Calls.mono (callsIn_wide.1 (h _ #[.agg pcs,.agg mc] (globOk_of hg hb1.size hb1.block) (.cons r1 (.cons r2 .nil)))) ?_
    rintro e w' ⟨x,rfl,hb,hx⟩
    cases hx with
    | tuple hx =>
    rename_i vs
    obtain ⟨vs⟩:=vs
    cases hx with
    | cons q1 r =>
    cases r with
    | cons q2 r =>
    cases r
    obtain ⟨qcs,rfl,hq⟩:=Rep.inv_agg (l:=segs (Pos.av (N22 p m).1)) q1
    exact ⟨qcs,_,rfl,hb,pos_rep hq⟩
  have C22:=Lib.hid c22
  have HL1:=Lib.hid hL1
  have HG:=Lib.hid hg
  have HC:=Lib.hid hc
  have HV:Aside _:=hv
  have HS:=Lib.hid hs1
  have HZ:=Lib.hid hsz
  have HZS:=Lib.hid hzs
  clear c22 hL1 hb1 hbp hbm hg hc hv hs1 hsz h44 hlen hml hmc hzs
  go_enter Tryz.func37,Tryz.ntmps37
  go_wp2_with fail
  refine C22.out.mono ?_
  rintro e w2 ⟨qcs,bq,rfl,hb2,hq⟩
  clear l1 l2
  have hL2:Lkd w c ty k w2:=HL1.out.below hb2.out
  have hqs:qcs.size=sz:=by
    have:=pos_len hq.out
    rw [HZ.out]
    simpa using this
  have st:=run_storeCells_cells (P:=Tryz.prog) w2.heap.size 0 qcs.toList 0 (w2.alloc (Obj.cells zs 34)) (fun j hj=>by
    rw [cell_of_blk (heap_alloc_new w2 _)]
    have hj2:j < qcs.size:=by simpa using hj
    rw [Array.getElem?_eq_getElem (by rw [HZS.out,← hqs]; omega)]
    rfl) (fun j hj=>frozen_of_blk (heap_alloc_new w2 _)) (pos_one hq.out)
  have hin:=World.cell?_setCells_in w2.heap.size qcs.toList 0 (w2.alloc (Obj.cells zs 34)) (fun j hj=>by
    rw [cell_of_blk (heap_alloc_new w2 _)]
    have hj2:j < qcs.size:=by simpa using hj
    rw [Array.getElem?_eq_getElem (by rw [HZS.out,← hqs]; omega)]
    rfl)
  have l3:Sem.run Tryz.prog (loadCellsFrom { block:=w2.heap.size,off:=0,spot:=none } 0 sz #[]) ((w2.alloc (Obj.cells zs 34)).setCells w2.heap.size 0 qcs.toList)=.ok qcs ((w2.alloc (Obj.cells zs 34)).setCells w2.heap.size 0 qcs.toList):=by
    have h:=run_loadCellsFrom_list Tryz.prog ((w2.alloc (Obj.cells zs 34)).setCells w2.heap.size 0 qcs.toList) ⟨w2.heap.size,0,none⟩ qcs.toList sz (by simpa using hqs) (fun j v hj=>by
      have hlt:=(List.getElem?_eq_some_iff.1 hj).1
      have h2:=hin j hlt
      rw [Addr.add_lit,h2]
      rw [List.getElem?_eq_getElem hlt] at hj
      exact hj)
    simpa using h
  have hcw2:c < w2.heap.size:=lt_of_some hL2.cell
  have hb3:RowKit.Below w2.heap.size w2 ((w2.alloc (Obj.cells zs 34)).setCells w2.heap.size 0 qcs.toList):=by
    have e:∀ (vs:List Value) (o:Nat) (W:World),RowKit.Below w2.heap.size w2 W→RowKit.Below w2.heap.size w2 (W.setCells w2.heap.size o vs):=by
      intro vs
      induction vs with
      | nil=>intro o W h; exact h
      | cons v vs ih=>intro o W h; exact ih _ _ (h.setCell (Nat.le_refl _) v)
    exact e _ _ _ ((Below.refl _ w2).alloc (Nat.le_refl _) _)
  have hL3:Lkd w c ty k ((w2.alloc (Obj.cells zs 34)).setCells w2.heap.size 0 qcs.toList):=hL2.below hb3
  have hg3:=globOk_lk HG.out HC.out hL3
  have hcall:=HV.out (N22 p m).1 (child_in hp m) k h0 h1 c ty _ hg3 hL3.cell qcs (pos_rep hq.out)
  have hw64:wrap64 (n:Int)=(n:Int):=by unfold wrap64; omega
  have HCALL:=Lib.hid hcall
  have HL3:=Lib.hid hL3
  clear hcall hL3 hg3 hb3 hin hL2 hcw2
  go_wp2_with fail
  refine HCALL.out.mono ?_
  intro e w4 hP
  unfold LPost at hP
  cases hr:lookM n (N22 p m).1 k with
  | none =>
    rw [hr] at hP
    obtain ⟨rfl,hL4⟩:=hP
    have HL4:=Lib.hid hL4
    clear hL4 st l3
    go_wp2_with fail
    refine ⟨rfl,?_⟩
    unfold LPost gainM
    rw [hr]
    exact ⟨rfl,HL3.out.trans HL4.out⟩
  | some x =>
    rw [hr] at hP
    obtain ⟨rfl,hL4⟩:=hP
    have hL5:=HL3.out.trans hL4
    have hg4:=globOk_lk HG.out HC.out hL5
    have c78:Calls Tryz.prog 78 #[.int .i64 x.1] w4 fun e w'=>e=.returned (.int .i64 (N78 x.1))∧Lkd w c ty x.2 w':=by
      have h:=(P78 x.1 rfl).1
      unfold PureSpec at h
      refine Calls.mono (callsIn_wide.1 (h w4 #[.int .i64 x.1] hg4 (.cons (.int _ _) .nil))) ?_
      rintro e w' ⟨v,rfl,hb,hx⟩
      cases hx
      exact ⟨rfl,hL5.below hb⟩
    have C78:=Lib.hid c78
    clear c78 hg4 hL5 hL4 st l3
    go_wp2_with fail
    refine C78.out.mono ?_
    rintro e w5 ⟨rfl,hL6⟩
    have HL6:=Lib.hid hL6
    clear hL6
    go_wp2_with fail
    go_ret
    unfold gainM
    rw [hr]
    exact ⟨rfl,HL6.out⟩
end Go.Proofs
end
section
namespace Go.Proofs
open Go.Shelf Go.RowKit Go.Lib Go.Sort Kz
theorem takes_le {p:Pos} (hp:PosIn p):(takesL p).length≤20802:=by
  have h:=N18_len hp
  unfold takesL
  refine c_ind (P:=fun l:List Mv=>l.length≤20802) (fun _=>by simp) fun _ => ?_
  have h2:((N18 p).filter (N19 p)).length≤(N18 p).length:=List.length_filter_le _ _
  rw [srt_len]
  omega
theorem step_of_none {f:Pos→Int→Option (Int×Int)} {p:Pos} {b k:Int} {m:Mv} (h:f (N22 p m).1 k=none):stepL f p (some (b,k)) m=none:=by
  simp only [stepL]
  rw [h]
theorem step_of_some {f:Pos→Int→Option (Int×Int)} {p:Pos} {b k v k':Int} {m:Mv} (h:f (N22 p m).1 k=some (v,k')):stepL f p (some (b,k)) m=some (max b (N78 v),k'):=by
  simp only [stepL]
  rw [h]
set_option maxHeartbeats 8000000 in
set_option maxRecDepth 100000 in
theorem value_w (n:Nat) (hn:n < 4611686018427387904) (hG:∀ n',n=n'+1→GS n') (s44:Nat) (zE44:∀ w,(Go.sizeOf 44).run Tryz.prog w=.ok s44 w) (h44:s44=5) (zs44:Array Value) (zV44:∀ w,(zeroValue 44).run Tryz.prog w=.ok (.agg zs44) w) (hzs44:zs44.size=s44) (sz:Nat) (zE:∀ w,(Go.sizeOf 34).run Tryz.prog w=.ok sz w) (hsz:sz=88):VS n:=by
  intro p hp k h0 h1 c ty w hg hc pcs hpc
  have aE44:∀ w,(isAgg 44).run Tryz.prog w=.ok true w:=Tryz.isAgg44
  have aE:∀ w,(isAgg 34).run Tryz.prog w=.ok true w:=Tryz.isAgg34
  have hlen:pcs.toList.length=sz:=(pos_len hpc).trans hsz.symm
  have hcw:c < w.heap.size:=lt_of_some hc
  obtain ⟨N,hN⟩:∃ N:Int,N=(n:Int):=⟨_,rfl⟩
  rw [← hN]
  have HN:=Lib.hid hN
  clear hN
  obtain ⟨ev,hev⟩:∃ ev,ev=evl p:=⟨_,rfl⟩
  have HEV:=Lib.hid hev
  clear hev
  obtain ⟨L,hL0⟩:∃ L,L=takesL p:=⟨_,rfl⟩
  have HLL:=Lib.hid hL0
  have hLB:L.length≤20802:=by rw [hL0]; exact takes_le hp
  have HLB:=Lib.hid hLB
  clear hL0 hLB
  obtain ⟨st,why,hst⟩:∃ st why,N24 p=(st,why):=⟨_,_,rfl⟩
  have hcell0:w.cell? ⟨c,0,none⟩=some (.int .i64 k):=by rw [cell_of_blk hc]; rfl
  have hfr0:w.frozen? ⟨c,0,none⟩=false:=frozen_of_blk hc
  have hcell:(w.alloc (Obj.cells pcs 34)).cell? ⟨c,0,none⟩=some (.int .i64 k):=by
    rw [cell_same (Below.heap_alloc w _ c hcw)]; exact hcell0
  have hfr:(w.alloc (Obj.cells pcs 34)).frozen? ⟨c,0,none⟩=false:=frozen_of_blk (by rw [Below.heap_alloc w _ c hcw]; exact hc)
  have hk1:wrap64 (k+1)=k+1:=by unfold wrap64; omega
  have hL1:Lkd w c ty (k+1) (w.setCell ⟨c,0,none⟩ (.int .i64 (k+1))):=(Lkd.refl hc).put
  have hL2:Lkd w c ty (k+1) ((w.setCell ⟨c,0,none⟩ (.int .i64 (k+1))).alloc (Obj.cells pcs 34)):=hL1.alloc _
  have hss:(w.setCell ⟨c,0,none⟩ (.int .i64 (k+1))).heap.size=w.heap.size:=by simp
  have hb2:((w.setCell ⟨c,0,none⟩ (.int .i64 (k+1))).alloc (Obj.cells pcs 34)).heap[w.heap.size]?=some (.cells pcs 34 (0,0)):=by
    have h:=heap_alloc_new (w.setCell ⟨c,0,none⟩ (.int .i64 (k+1))) (Obj.cells pcs 34)
    rw [hss] at h
    exact h
  have hcell2:((w.setCell ⟨c,0,none⟩ (.int .i64 (k+1))).alloc (Obj.cells pcs 34)).cell? ⟨c,0,none⟩=some (.int .i64 (k+1)):=by rw [cell_of_blk hL2.cell]; rfl
  have hcell3:(w.setCell ⟨c,0,none⟩ (.int .i64 (k+1))).cell? ⟨c,0,none⟩=some (.int .i64 (k+1)):=by rw [cell_of_blk hL1.cell]; rfl
  have l2:=run_load34 hb2 hlen
  have HL2:=Lib.hid hL2
  have HB2:=Lib.hid hb2
  have HG:=Lib.hid hg
  have HC:=Lib.hid hc
  have HLEN:=Lib.hid hlen
  have hgl:∀ {W:World} {k':Int},Lkd w c ty k' W→GlobOk W:=fun h=>globOk_lk hg hc h
  have HGL:Aside _ := @hgl
  have H44:=Lib.hid h44
  have HZ44:=Lib.hid hzs44
  have HCW:=Lib.hid hcw
  clear hL1 hL2 hb2 hg hc hlen hgl hsz hss h44 hzs44
  by_cases hgt:200000 < k+1
  · have hlook:lookM n p k=none:=by cases n <;> (unfold lookM; rw [if_pos hgt])
    have HLK:=Lib.hid hlook
    have hk2:k+1=200001:=by omega
    have HK2:=Lib.hid hk2
    clear hlook hk2
    go_enter Tryz.func30,Tryz.ntmps30
    go_wp2_with fail
    skip
    refine ⟨rfl,?_⟩
    unfold LPost
    rw [HLK.out]
    have:=HL2.out
    rw [HK2.out] at this
    refine ⟨rfl,?_⟩
    rw [HK2.out]
    exact this
  ·
    have c24:∀ W,Hid (Lkd w c ty (k+1) W)→Hid (W.heap[w.heap.size]?=some (.cells pcs 34 (0,0)))→Calls Tryz.prog 24 #[.agg pcs] W fun e w'=>e=.returned (.agg #[.int .u8 st,.int .u8 why])∧Hid (Lkd w c ty (k+1) w')∧Hid (w'.heap[w.heap.size]?=some (.cells pcs 34 (0,0))):=fun W hL hB=>by
      have h:=(P24 p (t24 hp)).1
      unfold PureSpec at h
      refine Calls.mono (callsIn_wide.1 (h W #[.agg pcs] (HGL.out hL.out) (.cons (.agg (pos_rep hpc)) .nil))) ?_
      rintro e w' ⟨x,rfl,hb,hx⟩
      rw [hst] at hx
      have hx:Rep (gRes W w') [] w' (.agg [.int .u8 st,.int .u8 why]) x:=hx
      obtain ⟨cs,rfl,hy⟩:=Rep.inv_agg (l:=[.int .u8 st,.int .u8 why]) hx
      obtain ⟨x1,r1,e1,q1,h1⟩:=hy.inv_one rfl
      obtain ⟨x2,r2,e2,q2,h2⟩:=h1.inv_one rfl
      have e3:=h2.inv_nil
      cases q1; cases q2
      obtain ⟨cs⟩:=cs
      simp only at e1
      rw [e1,e2,e3]
      exact ⟨rfl,hL.out.below hb,(hb.block _ (lt_of_some hB.out)).trans hB.out⟩
    have c15:∀ W,Hid (Lkd w c ty (k+1) W)→Hid (W.heap[w.heap.size]?=some (.cells pcs 34 (0,0)))→Calls Tryz.prog 15 #[.agg pcs] W fun e w'=>e=.returned (.int .i64 ev)∧Hid (Lkd w c ty (k+1) w')∧Hid (w'.heap[w.heap.size]?=some (.cells pcs 34 (0,0))):=fun W hL hB=>by
      have h:=eval_w p hp 88 Tryz.sizeOf34 rfl
      unfold PureSpec at h
      refine Calls.mono (callsIn_wide.1 (h W #[.agg pcs] (HGL.out hL.out) (.cons (.agg (pos_rep hpc)) .nil))) ?_
      rintro e w' ⟨x,rfl,hb,hx⟩
      rw [← HEV.out] at hx
      cases hx
      exact ⟨rfl,hL.out.below hb,(hb.block _ (lt_of_some hB.out)).trans hB.out⟩
    have c16:∀ W,Hid (Lkd w c ty (k+1) W)→Hid (W.heap[w.heap.size]?=some (.cells pcs 34 (0,0)))→Calls Tryz.prog 16 #[.agg pcs] W fun e w' => ∃ a cap,e=.returned (.slice a (L).length cap)∧Hid (Lkd w c ty (k+1) w')∧Hid (w'.heap[w.heap.size]?=some (.cells pcs 34 (0,0))) ∧
        Hid (L=[]∨∃ c' o',a=some ⟨c',o',none⟩∧c'≠c∧c' < w'.heap.size∧∀ j v,((L).flatMap encM)[j]?=some v→w'.cell? ⟨c',o'+j,none⟩=some v):=fun W hL hB=>by
      have h:=(P16h p hp).1
      rw [← HLL.out] at h
      unfold PureSpec at h
      refine Calls.mono (callsIn_wide.1 (h W #[.agg pcs] (HGL.out hL.out) (.cons (.agg (pos_rep hpc)) .nil))) ?_
      rintro e w' ⟨x,rfl,hb,hx⟩
      cases hx with
      | list hn hE hS hT hC =>
      rename_i a n' cap cs
      subst hn
      have hcs:=mvs_cells hE
      refine ⟨a,cap,rfl,hL.out.below hb,(hb.block _ (lt_of_some hB.out)).trans hB.out,?_⟩
      by_cases hl:L=[]
      · exact .inl hl
      rcases hS with h0 | ⟨c',o',ha,hat,_⟩
      · refine .inl ?_
        have:=flat_len (L)
        rw [← hcs,h0] at this
        exact List.eq_nil_of_length_eq_zero (by simp at this; omega)
      · have hpos:0 < ((L).flatMap encM).length:=by
          rw [flat_len]
          have:(L).length≠0:=fun e=>hl (List.eq_nil_of_length_eq_zero e)
          omega
        have h00:=hat 0 _ (by rw [hcs]; exact List.getElem?_eq_getElem hpos)
        have hge:W.heap.size≤c'∧c' < w'.heap.size:=h00.2
        have hcW:c < W.heap.size:=lt_of_some hL.out.cell
        exact .inr ⟨c',o',ha,by omega,hge.2,fun j v hj=>(hat j v (by rw [hcs]; exact hj)).1⟩
    have K15:Aside _:=c15
    have K16:Aside _:=c16
    clear c15 c16
    have C24:=Lib.hid (c24 _ HL2 HB2)
    have LD:Aside (∀ W:World,Hid (W.heap[w.heap.size]?=some (.cells pcs 34 (0,0)))→Sem.run Tryz.prog (loadCellsFrom { block:=w.heap.size,off:=0,spot:=none } 0 sz #[]) W=.ok pcs W):=fun W hB=>run_load34 hB.out HLEN.out
    have TU:Aside (∀ W:World,Hid (W.heap[w.heap.size]?=some (.cells pcs 34 (0,0)))→W.cell? ⟨w.heap.size,0,none⟩=some (.int .u8 p.variant)∧W.cell? ⟨w.heap.size,78,none⟩=some (.int .u8 p.turn)):=fun W hB=>by
      have h:=pos_turn hpc
      rw [cell_of_blk hB.out,cell_of_blk hB.out]
      simpa using h
    clear c24
    go_enter Tryz.func30,Tryz.ntmps30
    go_wp2_with fail
    refine C24.out.mono ?_
    rintro e w3 ⟨rfl,hL3,hB3⟩
    have hL3a:Hid (Lkd w c ty (k+1) (w3.alloc (Obj.cells #[Value.int .u8 st,Value.int .u8 why] 52))):=hL3.out.alloc _
    have hB3a:Hid ((w3.alloc (Obj.cells #[Value.int .u8 st,Value.int .u8 why] 52)).heap[w.heap.size]?=some (.cells pcs 34 (0,0))):=(Below.heap_alloc _ _ _ (lt_of_some hB3.out)).trans hB3.out
    have l3:=LD.out _ hB3a
    have t3:=TU.out _ hB3a
    obtain ⟨tv3,tt3⟩:=t3
    clear l2 hcell0 hfr0 hcell hfr hcell2 hcell3
    by_cases s0:st=0
    · subst s0
      have hb0:((N24 p).1 != 0)=false:=by rw [hst]; rfl
      have HB0:=Lib.hid hb0
      clear hb0
      go_wp2_with fail
      refine (K15.out _ hL3a hB3a).mono ?_
      rintro e w4 ⟨rfl,hL4,hB4⟩
      clear l3 tv3 tt3
      have l4:=LD.out _ hB4
      obtain ⟨tv4,tt4⟩:=TU.out _ hB4
      by_cases hz:n=0
      · have hN0:(N==0)=true:=by have:=HN.out; rw [this,hz]; rfl
        have hlook:lookM n p k=some (ev,k+1):=by
          rw [HEV.out]
          subst hz
          unfold lookM
          rw [if_neg (by omega),HB0.out]
          rfl
        have HLK:=Lib.hid hlook
        clear hlook hz
        go_wp2_with fail
        go_ret
        unfold LPost
        rw [HLK.out]
        exact ⟨rfl,hL4.out⟩
      · obtain ⟨n',hn'⟩:∃ n',n=n'+1:=⟨n - 1,by omega⟩
        have hN0:(N==0)=false:=beq_eq_false_iff_ne.2 (by have:=HN.out; omega)
        have hlook:lookM n p k=L.foldl (stepL (lookM n') p) (some (best0 p,k+1)):=by
          rw [HLL.out]
          subst hn'
          conv=>lhs; unfold lookM
          rw [if_neg (by omega),HB0.out]
          rfl
        have HLK:=Lib.hid hlook
        have HGS:Aside (GS n'):=hG n' hn'
        have HN1:Hid (N=(n':Int)+1):=by show _=_; have:=HN.out; omega
        clear hlook hz hn'
        go_wp2_with fail
        refine (K16.out _ hL4 hB4).mono ?_
        rintro e w5 ⟨a5,cap5,rfl,hL5,hB5,hR5⟩
        clear l4 tv4 tt4
        obtain ⟨tv5,tt5⟩:=TU.out _ hB5
        cases bv:(p.variant==4) with
        | true =>
          by_cases hpos:0 < L.length
          · have hbt:best0 p = -30001:=by unfold best0; rw [← HLL.out,bv,decide_eq_true hpos]; rfl
            have HBT:=Lib.hid hbt
            have hpz:(0:Int) < (L.length:Int):=by omega
            clear hbt hpos
            go_wp2_with fail
            go_loopg [8,56] (L.length) (fun kx s8 s56 wr => ∃ (i:Nat) (best k2:Int),s8=.int .i64 best∧s56=.int .i64 i∧kx+i=L.length∧0≤k2∧k2≤200000∧Hid (Lkd w5 c ty k2 wr)∧Hid ((L.drop i).foldl (stepL (lookM n') p) (some (best,k2))=lookM n p k))
            case atStart=>exact ⟨0,_,k+1,rfl,rfl,by omega,by omega,by omega,Lkd.refl hL5.out.cell,by show _=_; rw [HLK.out,HBT.out]; rfl⟩
            case round =>
              obtain ⟨i,best,k2,rfl,rfl,hi,hk20,hk21,hLr,HE⟩:=hrel
              have HI:=Lib.hid hi
              cases gk with
              | zero =>
                have hlt:¬ (i:Int) < (L.length:Int):=by omega
                have hres:lookM n p k=some (best,k2):=by
                  have:=HE.out
                  rw [List.drop_of_length_le (by omega)] at this
                  exact this.symm
                have HRES:=Lib.hid hres
                clear hres
                go_wp2_with fail
                go_ret
                unfold LPost
                rw [HRES.out]
                dsimp only
                exact ⟨rfl,hL5.out.trans hLr.out⟩
              | succ kx =>
                have hlt:(i:Int) < (L.length:Int):=by omega
                have hil:i < L.length:=by omega
                have hiw:wrap64 ((i:Int)+1)=(i:Int)+1:=by have:=HLB.out; unfold wrap64; omega
                obtain ⟨m,hm⟩:∃ m,m=L[i]:=⟨_,rfl⟩
                have hdrop:L.drop i=m::L.drop (i+1):=by rw [hm]; exact List.drop_eq_getElem_cons hil
                have hE2:(L.drop (i+1)).foldl (stepL (lookM n') p) (stepL (lookM n') p (some (best,k2)) m)=lookM n p k:=by
                  have:=HE.out
                  rw [hdrop,List.foldl_cons] at this
                  exact this
                have HE2:=Lib.hid hE2
                obtain ⟨mc,hmc⟩:∃ mc,mc=(encM m).toArray:=⟨_,rfl⟩
                have hml:mc.toList.length=s44:=by rw [hmc]; exact H44.out.symm
                have hne2:L≠[]:=fun e=>by rw [e] at hil; simp at hil
                obtain ⟨c',o',ha5,hcc,hcs5,hat⟩:=hR5.out.resolve_left hne2
                have he:Sem.run Tryz.prog (loadCellsFrom ⟨c',o'+i * s44,none⟩ 0 s44 #[]) wr=.ok mc wr:=by
                  have h:=run_loadCellsFrom_list Tryz.prog wr ⟨c',o'+i * s44,none⟩ mc.toList s44 hml (fun j v hj=>by
                    have hj5:j < 5:=by have:=(List.getElem?_eq_some_iff.1 hj).1; rw [hml,H44.out] at this; exact this
                    have h2:=hat (i * 5+j) v (by
                      rw [flat_get L i j hil hj5]
                      have eb:L[i]! = L[i]:=by simp [hil]
                      rw [eb,← hm]
                      rw [hmc] at hj
                      exact hj)
                    rw [Addr.add_lit,cell_same (hLr.out.other c' hcs5 hcc),H44.out,Nat.add_assoc]
                    exact h2)
                  simpa using h
                subst ha5
                have hBr:Hid (wr.heap[w.heap.size]?=some (.cells pcs 34 (0,0))):=(hLr.out.other _ (lt_of_some hB5.out) (by have:=HCW.out; omega)).trans hB5.out
                have hgrc:c < wr.heap.size:=lt_of_some hLr.out.cell
                have hst44:=run_storeCells_cells (P:=Tryz.prog) wr.heap.size 0 mc.toList 0 (wr.alloc (Obj.cells zs44 44)) (fun j hj=>by
                  rw [cell_of_blk (heap_alloc_new wr _)]
                  rw [hml] at hj
                  rw [Array.getElem?_eq_getElem (by rw [HZ44.out]; omega)]
                  rfl) (fun j hj=>frozen_of_blk (heap_alloc_new wr _)) (by rw [hmc]; exact encM_one m)
                have hin:=World.cell?_setCells_in wr.heap.size mc.toList 0 (wr.alloc (Obj.cells zs44 44)) (fun j hj=>by
                  rw [cell_of_blk (heap_alloc_new wr _)]
                  rw [hml] at hj
                  rw [Array.getElem?_eq_getElem (by rw [HZ44.out]; omega)]
                  rfl)
                have hmsz:mc.size=s44:=by simpa using hml
                have lm:Sem.run Tryz.prog (loadCellsFrom { block:=wr.heap.size,off:=0,spot:=none } 0 s44 #[]) ((wr.alloc (Obj.cells zs44 44)).setCells wr.heap.size 0 mc.toList)=.ok mc ((wr.alloc (Obj.cells zs44 44)).setCells wr.heap.size 0 mc.toList):=by
                  have h:=run_loadCellsFrom_list Tryz.prog ((wr.alloc (Obj.cells zs44 44)).setCells wr.heap.size 0 mc.toList) ⟨wr.heap.size,0,none⟩ mc.toList s44 hml (fun j v hj=>by
                    have hlt:=(List.getElem?_eq_some_iff.1 hj).1
                    have h2:=hin j hlt
                    rw [Addr.add_lit,h2]
                    rw [List.getElem?_eq_getElem hlt] at hj
                    exact hj)
                  simpa using h
                have hb3:RowKit.Below wr.heap.size wr ((wr.alloc (Obj.cells zs44 44)).setCells wr.heap.size 0 mc.toList):=by
                  have e:∀ (vs:List Value) (o:Nat) (W:World),RowKit.Below wr.heap.size wr W→RowKit.Below wr.heap.size wr (W.setCells wr.heap.size o vs):=by
                    intro vs
                    induction vs with
                    | nil=>intro o W h; exact h
                    | cons v vs ih=>intro o W h; exact ih _ _ (h.setCell (Nat.le_refl _) v)
                  exact e _ _ _ ((Below.refl _ wr).alloc (Nat.le_refl _) _)
                have hLx:Hid (Lkd w5 c ty k2 ((wr.alloc (Obj.cells zs44 44)).setCells wr.heap.size 0 mc.toList)):=hLr.out.below hb3
                have hBx:Hid (((wr.alloc (Obj.cells zs44 44)).setCells wr.heap.size 0 mc.toList).heap[w.heap.size]?=some (.cells pcs 34 (0,0))):=(hb3.block _ (lt_of_some hBr.out)).trans hBr.out
                have lx:=LD.out _ hBx
                have hcall:=HGS.out p hp m k2 hk20 hk21 c ty _ (HGL.out (hL5.out.trans hLx.out)) hLx.out.cell pcs (pos_rep hpc)
                rw [← hmc,← HN1.out] at hcall
                have HCALL:=Lib.hid hcall
                have HAT:=Lib.hid hat
                clear hcall hE2 hdrop hm hmc hml hin hb3 hat hcs5 HE hBr hgrc
                go_wp2_with fail
                refine HCALL.out.mono ?_
                intro e w7 hP
                unfold LPost gainM at hP
                cases hr:lookM n' (N22 p m).1 k2 with
                | none =>
                  rw [hr] at hP
                  obtain ⟨rfl,hL7⟩:=hP
                  have hres:lookM n p k=none:=by
                    have this:=HE2.out
                    rw [step_of_none hr,step_none] at this
                    exact this.symm
                  have HRES:=Lib.hid hres
                  have HL7:=Lib.hid hL7
                  clear hres hL7 he hst44 lm lx
                  go_wp2_with fail
                  refine ⟨rfl,?_⟩
                  unfold LPost
                  rw [HRES.out]
                  exact ⟨rfl,(hL5.out.trans hLx.out).trans HL7.out⟩
                | some x =>
                  rw [hr] at hP
                  obtain ⟨rfl,hL7⟩:=hP
                  obtain ⟨x1,x2⟩:=x
                  have hkk:=lookM_k n' _ _ _ hr
                  have HKK:Hid (k2 < x2∧x2≤200000):=hkk
                  have hE3:(L.drop (i+1)).foldl (stepL (lookM n') p) (some (max best (N78 x1),x2))=lookM n p k:=by
                    have:=HE2.out
                    rw [step_of_some hr] at this
                    exact this
                  dsimp only at hL7 hkk ⊢
                  obtain ⟨g1,hg1⟩:∃ g1,g1=N78 x1:=⟨_,rfl⟩
                  rw [← hg1] at hE3 ⊢
                  have HE3:=Lib.hid hE3
                  have HL7:=Lib.hid hL7
                  clear hE3 hL7 he hst44 lm lx hg1
                  go_wp2_with fail
                  go_roundg kx
                  case measure=>omega
                  case rel=>exact ⟨i+1,max best g1,x2,rfl,by go_num,by have:=HI.out; omega,by have:=HKK.out; omega,HKK.out.2,hLx.out.trans HL7.out,HE3.out⟩
          · have hbt:best0 p=ev:=by unfold best0; rw [← HLL.out,bv,decide_eq_false hpos,Bool.and_false,cond_false,HEV.out]
            have HBT:=Lib.hid hbt
            have hpz:¬ (0:Int) < (L.length:Int):=by omega
            clear hbt hpos
            go_wp2_with fail
            go_loopg [8,56] (L.length) (fun kx s8 s56 wr => ∃ (i:Nat) (best k2:Int),s8=.int .i64 best∧s56=.int .i64 i∧kx+i=L.length∧0≤k2∧k2≤200000∧Hid (Lkd w5 c ty k2 wr)∧Hid ((L.drop i).foldl (stepL (lookM n') p) (some (best,k2))=lookM n p k))
            case atStart=>exact ⟨0,_,k+1,rfl,rfl,by omega,by omega,by omega,Lkd.refl hL5.out.cell,by show _=_; rw [HLK.out,HBT.out]; rfl⟩
            case round =>
              obtain ⟨i,best,k2,rfl,rfl,hi,hk20,hk21,hLr,HE⟩:=hrel
              have HI:=Lib.hid hi
              cases gk with
              | zero =>
                have hlt:¬ (i:Int) < (L.length:Int):=by omega
                have hres:lookM n p k=some (best,k2):=by
                  have:=HE.out
                  rw [List.drop_of_length_le (by omega)] at this
                  exact this.symm
                have HRES:=Lib.hid hres
                clear hres
                go_wp2_with fail
                go_ret
                unfold LPost
                rw [HRES.out]
                dsimp only
                exact ⟨rfl,hL5.out.trans hLr.out⟩
              | succ kx=>exfalso; omega
        | false =>
          have hbt:best0 p=ev:=by unfold best0; rw [bv,Bool.false_and,cond_false,HEV.out]
          have HBT:=Lib.hid hbt
          clear hbt
          go_wp2_with fail
          go_loopg [8,56] (L.length) (fun kx s8 s56 wr => ∃ (i:Nat) (best k2:Int),s8=.int .i64 best∧s56=.int .i64 i∧kx+i=L.length∧0≤k2∧k2≤200000∧Hid (Lkd w5 c ty k2 wr)∧Hid ((L.drop i).foldl (stepL (lookM n') p) (some (best,k2))=lookM n p k))
          case atStart=>exact ⟨0,_,k+1,rfl,rfl,by omega,by omega,by omega,Lkd.refl hL5.out.cell,by show _=_; rw [HLK.out,HBT.out]; rfl⟩
          case round =>
            obtain ⟨i,best,k2,rfl,rfl,hi,hk20,hk21,hLr,HE⟩:=hrel
            have HI:=Lib.hid hi
            cases gk with
            | zero =>
              have hlt:¬ (i:Int) < (L.length:Int):=by omega
              have hres:lookM n p k=some (best,k2):=by
                have:=HE.out
                rw [List.drop_of_length_le (by omega)] at this
                exact this.symm
              have HRES:=Lib.hid hres
              clear hres
              go_wp2_with fail
              go_ret
              unfold LPost
              rw [HRES.out]
              dsimp only
              exact ⟨rfl,hL5.out.trans hLr.out⟩
            | succ kx =>
              have hlt:(i:Int) < (L.length:Int):=by omega
              have hil:i < L.length:=by omega
              have hiw:wrap64 ((i:Int)+1)=(i:Int)+1:=by have:=HLB.out; unfold wrap64; omega
              obtain ⟨m,hm⟩:∃ m,m=L[i]:=⟨_,rfl⟩
              have hdrop:L.drop i=m::L.drop (i+1):=by rw [hm]; exact List.drop_eq_getElem_cons hil
              have hE2:(L.drop (i+1)).foldl (stepL (lookM n') p) (stepL (lookM n') p (some (best,k2)) m)=lookM n p k:=by
                have:=HE.out
                rw [hdrop,List.foldl_cons] at this
                exact this
              have HE2:=Lib.hid hE2
              obtain ⟨mc,hmc⟩:∃ mc,mc=(encM m).toArray:=⟨_,rfl⟩
              have hml:mc.toList.length=s44:=by rw [hmc]; exact H44.out.symm
              have hne2:L≠[]:=fun e=>by rw [e] at hil; simp at hil
              obtain ⟨c',o',ha5,hcc,hcs5,hat⟩:=hR5.out.resolve_left hne2
              have he:Sem.run Tryz.prog (loadCellsFrom ⟨c',o'+i * s44,none⟩ 0 s44 #[]) wr=.ok mc wr:=by
                have h:=run_loadCellsFrom_list Tryz.prog wr ⟨c',o'+i * s44,none⟩ mc.toList s44 hml (fun j v hj=>by
                  have hj5:j < 5:=by have:=(List.getElem?_eq_some_iff.1 hj).1; rw [hml,H44.out] at this; exact this
                  have h2:=hat (i * 5+j) v (by
                    rw [flat_get L i j hil hj5]
                    have eb:L[i]! = L[i]:=by simp [hil]
                    rw [eb,← hm]
                    rw [hmc] at hj
                    exact hj)
                  rw [Addr.add_lit,cell_same (hLr.out.other c' hcs5 hcc),H44.out,Nat.add_assoc]
                  exact h2)
                simpa using h
              subst ha5
              have hBr:Hid (wr.heap[w.heap.size]?=some (.cells pcs 34 (0,0))):=(hLr.out.other _ (lt_of_some hB5.out) (by have:=HCW.out; omega)).trans hB5.out
              have hgrc:c < wr.heap.size:=lt_of_some hLr.out.cell
              have hst44:=run_storeCells_cells (P:=Tryz.prog) wr.heap.size 0 mc.toList 0 (wr.alloc (Obj.cells zs44 44)) (fun j hj=>by
                rw [cell_of_blk (heap_alloc_new wr _)]
                rw [hml] at hj
                rw [Array.getElem?_eq_getElem (by rw [HZ44.out]; omega)]
                rfl) (fun j hj=>frozen_of_blk (heap_alloc_new wr _)) (by rw [hmc]; exact encM_one m)
              have hin:=World.cell?_setCells_in wr.heap.size mc.toList 0 (wr.alloc (Obj.cells zs44 44)) (fun j hj=>by
                rw [cell_of_blk (heap_alloc_new wr _)]
                rw [hml] at hj
                rw [Array.getElem?_eq_getElem (by rw [HZ44.out]; omega)]
                rfl)
              have hmsz:mc.size=s44:=by simpa using hml
              have lm:Sem.run Tryz.prog (loadCellsFrom { block:=wr.heap.size,off:=0,spot:=none } 0 s44 #[]) ((wr.alloc (Obj.cells zs44 44)).setCells wr.heap.size 0 mc.toList)=.ok mc ((wr.alloc (Obj.cells zs44 44)).setCells wr.heap.size 0 mc.toList):=by
                have h:=run_loadCellsFrom_list Tryz.prog ((wr.alloc (Obj.cells zs44 44)).setCells wr.heap.size 0 mc.toList) ⟨wr.heap.size,0,none⟩ mc.toList s44 hml (fun j v hj=>by
                  have hlt:=(List.getElem?_eq_some_iff.1 hj).1
                  have h2:=hin j hlt
                  rw [Addr.add_lit,h2]
                  rw [List.getElem?_eq_getElem hlt] at hj
                  exact hj)
                simpa using h
              have hb3:RowKit.Below wr.heap.size wr ((wr.alloc (Obj.cells zs44 44)).setCells wr.heap.size 0 mc.toList):=by
                have e:∀ (vs:List Value) (o:Nat) (W:World),RowKit.Below wr.heap.size wr W→RowKit.Below wr.heap.size wr (W.setCells wr.heap.size o vs):=by
                  intro vs
                  induction vs with
                  | nil=>intro o W h; exact h
                  | cons v vs ih=>intro o W h; exact ih _ _ (h.setCell (Nat.le_refl _) v)
                exact e _ _ _ ((Below.refl _ wr).alloc (Nat.le_refl _) _)
              have hLx:Hid (Lkd w5 c ty k2 ((wr.alloc (Obj.cells zs44 44)).setCells wr.heap.size 0 mc.toList)):=hLr.out.below hb3
              have hBx:Hid (((wr.alloc (Obj.cells zs44 44)).setCells wr.heap.size 0 mc.toList).heap[w.heap.size]?=some (.cells pcs 34 (0,0))):=(hb3.block _ (lt_of_some hBr.out)).trans hBr.out
              have lx:=LD.out _ hBx
              have hcall:=HGS.out p hp m k2 hk20 hk21 c ty _ (HGL.out (hL5.out.trans hLx.out)) hLx.out.cell pcs (pos_rep hpc)
              rw [← hmc,← HN1.out] at hcall
              have HCALL:=Lib.hid hcall
              have HAT:=Lib.hid hat
              clear hcall hE2 hdrop hm hmc hml hin hb3 hat hcs5 HE hBr hgrc
              go_wp2_with fail
              refine HCALL.out.mono ?_
              intro e w7 hP
              unfold LPost gainM at hP
              cases hr:lookM n' (N22 p m).1 k2 with
              | none =>
                rw [hr] at hP
                obtain ⟨rfl,hL7⟩:=hP
                have hres:lookM n p k=none:=by
                  have this:=HE2.out
                  rw [step_of_none hr,step_none] at this
                  exact this.symm
                have HRES:=Lib.hid hres
                have HL7:=Lib.hid hL7
                clear hres hL7 he hst44 lm lx
                go_wp2_with fail
                refine ⟨rfl,?_⟩
                unfold LPost
                rw [HRES.out]
                exact ⟨rfl,(hL5.out.trans hLx.out).trans HL7.out⟩
              | some x =>
                rw [hr] at hP
                obtain ⟨rfl,hL7⟩:=hP
                obtain ⟨x1,x2⟩:=x
                have hkk:=lookM_k n' _ _ _ hr
                have HKK:Hid (k2 < x2∧x2≤200000):=hkk
                have hE3:(L.drop (i+1)).foldl (stepL (lookM n') p) (some (max best (N78 x1),x2))=lookM n p k:=by
                  have:=HE2.out
                  rw [step_of_some hr] at this
                  exact this
                dsimp only at hL7 hkk ⊢
                obtain ⟨g1,hg1⟩:∃ g1,g1=N78 x1:=⟨_,rfl⟩
                rw [← hg1] at hE3 ⊢
                have HE3:=Lib.hid hE3
                have HL7:=Lib.hid hL7
                clear hE3 hL7 he hst44 lm lx hg1
                go_wp2_with fail
                go_roundg kx
                case measure=>omega
                case rel=>exact ⟨i+1,max best g1,x2,rfl,by go_num,by have:=HI.out; omega,by have:=HKK.out; omega,HKK.out.2,hLx.out.trans HL7.out,HE3.out⟩
    · have hs0:(st==0)=false:=beq_eq_false_iff_ne.2 s0
      have hlook:lookM n p k=some (endv p,k+1):=by
        have hb:((N24 p).1 != 0)=true:=by rw [hst]; show (!(st==0))=true; rw [hs0]; rfl
        cases n <;> (unfold lookM; rw [if_neg (by omega),hb]; rfl)
      have HLK:=Lib.hid hlook
      clear hlook
      by_cases s3:st=3
      · have hend:endv p=0:=by unfold endv; rw [hst,s3]; rfl
        have HE:=Lib.hid hend
        clear hend
        subst s3
        go_wp2_with fail
        go_ret
        unfold LPost
        rw [HLK.out,HE.out]
        exact ⟨rfl,hL3a.out⟩
      · have hs3:(st==3)=false:=beq_eq_false_iff_ne.2 s3
        obtain ⟨tw,htw⟩:∃ tw,tw=wr .u8 (1+p.turn):=⟨_,rfl⟩
        by_cases s1:st=tw
        · have hend:endv p=30000:=by unfold endv; rw [hst]; dsimp only; rw [hs3,← htw,s1]; simp
          have HE:=Lib.hid hend
          have hww:IntKind.u8.wrap (1+p.turn)=st:=by rw [s1,htw]; rfl
          clear hend htw s1
          go_wp2_with fail
          go_ret
          unfold LPost
          rw [HLK.out,HE.out]
          exact ⟨rfl,hL3a.out⟩
        · have hend:endv p = -30000:=by unfold endv; rw [hst]; dsimp only; rw [hs3,← htw,beq_eq_false_iff_ne.2 s1]; rfl
          have HE:=Lib.hid hend
          have hww:IntKind.u8.wrap (1+p.turn)=tw:=by rw [htw]; rfl
          have hs1:(st==tw)=false:=beq_eq_false_iff_ne.2 s1
          clear hend htw
          go_wp2_with fail
          go_ret
          unfold LPost
          rw [HLK.out,HE.out]
          exact ⟨rfl,hL3a.out⟩
end Go.Proofs
end
section
namespace Kz
open Go Go.RowKit Go.Proofs
open Classical in
noncomputable def ok16 (a:Pos):Bool:=shut (decide (PosIn a))
theorem ok16_iff {p:Pos}:ok16 p=true ↔ PosIn p:=by
  unfold ok16
  rw [shut_eq]
  simp
noncomputable def N16 (a:Pos):List Mv:=shut (takesL a)
theorem N16_eq (p:Pos):N16 p=takesL p:=shut_eq _
theorem P16 (a:Pos) (h:ok16 a=true):PS Pz 16 [Pos.av a] ((dL .mv).res (N16 a)):=by
  rw [N16_eq]
  exact P16h a (ok16_iff.1 h)
noncomputable def G16:List AV→Tr AV:=g1 dPos (fun a=>gdv (ok16 a) ((dL .mv).res (N16 a)))
theorem s16:Sound Pz 16 G16:=sound1 fun a=>at_gd (P16 a)
end Kz
end
section
namespace Kz
open Go Go.RowKit Go.Proofs
set_option maxRecDepth 100000
theorem vs_all:∀ n:Nat,n < 1000000→VS n
  | 0,_=>value_w 0 (by omega) (fun _ h=>by omega) 5 Tryz.sizeOf44 rfl _ Tryz.zeroValue44 rfl 88 Tryz.sizeOf34 rfl
  | n+1,h=>value_w (n+1) (by omega) (fun n' hn'=>by
      obtain rfl:n=n':=by omega
      exact gain_w n (by omega) (vs_all n (by omega)) 88 Tryz.sizeOf34 rfl _ Tryz.zeroValue34 rfl 5 Tryz.sizeOf44 rfl) 5 Tryz.sizeOf44 rfl _ Tryz.zeroValue44 rfl 88 Tryz.sizeOf34 rfl
theorem gs_all (n:Nat) (h:n < 1000000):GS n :=
  gain_w n (by omega) (vs_all n h) 88 Tryz.sizeOf34 rfl _ Tryz.zeroValue34 rfl 5 Tryz.sizeOf44 rfl
noncomputable def lookS (n:Int) (p:Pos) (k:Int):Option (Int×Int):=shut (lookM n.toNat p k)
noncomputable def gainS (n:Int) (p:Pos) (m:Mv) (k:Int):Option (Int×Int):=shut (gainM (n - 1).toNat p m k)
noncomputable def outL (r:Option (Int×Int)) (b:Nat) (h:Hp):Tr FRes :=
  .br r.isSome (.ret (.ret (.int .i64 (r.getD (0,0)).1) { h with heap:=h.heap.set b [.int .i64 (r.getD (0,0)).2] })) (.ret (.panic (.iface 90 (.agg [])) { h with heap:=h.heap.set b [.int .i64 200001] }))
noncomputable def okV (p:Pos) (n k:Int):Bool:=ok16 p&&(decide (0≤n)&&(decide (n < 1000)&&(decide (0≤k)&&decide (k≤200000))))
noncomputable def FV:List AV→Hp→Tr FRes:=fun xs h=>match xs with
  | [.ptr b 0,pa,na]=>(Tr.opt (dPos.dec pa)).bind fun p=>(Tr.opt ((dI .i64).dec na)).bind fun n=>match h.heap[b]? with
    | some [ka]=>(Tr.opt ((dI .i64).dec ka)).bind fun k=>.guard (okV p n k) (.guard (Nat.ble h.lo b) (outL (lookS n p k) b h))
    | _=>.fail
  | _=>.fail
noncomputable def FG:List AV→Hp→Tr FRes:=fun xs h=>match xs with
  | [.ptr b 0,pa,ma,na]=>(Tr.opt (dPos.dec pa)).bind fun p=>(Tr.opt (dMv.dec ma)).bind fun m=>(Tr.opt ((dI .i64).dec na)).bind fun n=>match h.heap[b]? with
    | some [ka]=>(Tr.opt ((dI .i64).dec ka)).bind fun k=>.guard (okV p (n - 1) k) (.guard (Nat.ble h.lo b) (outL (gainS n p m k) b h))
    | _=>.fail
  | _=>.fail
theorem fpost_look {g:Gh} {h:Hp} {w w':World} {b c:Nat} {ka:AV} {ty:TypeId} {cells:Array Value} (m:MR g h w) (hv:g.vars[b]?=some c) (hb:h.heap[b]?=some [ka]) (hcell:w.heap[c]?=some (.cells cells ty (0,0))) {r:Option (Int×Int)} {res:FRes} {e:Ending} (hlo:h.lo≤b) (hres:(outL r b h).get=some res) (hp:LPost w c ty r e w'):FPost g h w res e w':=by
  have key:∀ k':Int,Lkd w c ty k' w'→Nx g h w g { h with heap:=h.heap.set b [.int .i64 k'] } w':=by
    intro k' hL
    obtain ⟨m1,l1⟩:=m.putVar hv hb (l':=[.int .i64 k']) (cells := #[.int .i64 k']) (ty:=ty) (.one rfl (.int _ _) .nil)
    have hbl:RowKit.Below (putBlk w c (.cells #[.int .i64 k'] ty)).heap.size (putBlk w c (.cells #[.int .i64 k'] ty)) w':=by
      refine ⟨hL.os,hL.tape,hL.output,by rw [putBlk_size]; exact hL.size,fun j hj => ?_⟩
      rw [putBlk_size] at hj
      by_cases ej:j=c
      · subst ej
        rw [hL.cell,putBlk_same hcell]
      · rw [putBlk_other ej]
        exact hL.other j hj ej
    obtain ⟨m2,l2⟩:=m1.grow hbl
    refine ⟨m2,l1.trans l2,⟨rfl,rfl,rfl,fun i x hi hx => ?_,fun _ _ _ x=>x,fun _ _ _ x=>x⟩⟩
    show (h.heap.set b _)[i]?=some x
    rw [List.getElem?_set_ne (by omega)]
    exact hx
  cases r with
  | none =>
    obtain ⟨rfl,hL⟩:=hp
    simp only [outL,get_br,get_ret,Option.isSome_none,cond_false,Option.some.injEq] at hres
    subst hres
    exact ⟨g,_,rfl,key _ hL,.iface (.agg .nil)⟩
  | some x =>
    obtain ⟨rfl,hL⟩:=hp
    simp only [outL,get_br,get_ret,Option.isSome_some,cond_true,Option.some.injEq,Option.getD_some] at hres
    subst hres
    exact ⟨g,_,rfl,key _ hL,.int _ _⟩
theorem bodyIs (f:Nat) (h:(match Pz.funcs[f]? with | some fn=>fn.body.isSome | none=>false)=true):∃ fn,Pz.funcs[f]?=some fn∧fn.body.isSome=true:=by
  split at h
  · rename_i fn hf
    exact ⟨fn,hf,h⟩
  · cases h
theorem sFV:FSound Pz 30 FV:=by
  intro xs h res he
  unfold FV at he
  split at he
  · rename_i b pa na
    simp only [get_bind,get_opt,Option.bind_eq_some_iff] at he
    obtain ⟨p,hp1,n,hn1,he⟩:=he
    split at he
    · rename_i ka hb
      simp only [get_bind,get_opt,Option.bind_eq_some_iff,get_guard] at he
      obtain ⟨k,hk1,hok,hlo,hres⟩:=he
      refine ⟨?_,bodyIs 30 (by kernel_rfl)⟩
      unfold okV at hok
      simp only [Bool.and_eq_true,decide_eq_true_eq] at hok
      obtain ⟨k1,k2,k3,k4,k5⟩:=hok
      have k6:h.lo≤b:=Nat.le_of_ble_eq_true hlo
      intro g w vals m hr
      obtain ⟨vals⟩:=vals
      cases hr with
      | cons q1 r1 =>
      cases r1 with
      | cons q2 r2 =>
      cases r2 with
      | cons q3 r3 =>
      cases r3
      cases q1 with
      | ptr hv =>
      rename_i c
      have q2:=dPos.ok _ _ hp1 _ _ _ _ q2
      have q3:=(dI .i64).ok _ _ hn1 _ _ _ _ q3
      obtain ⟨pcs,rfl,hpc⟩:=Rep.inv_agg (l:=segs (Pos.av p)) q2
      obtain ⟨_,_,cells,ty,hcell,hcs⟩:=m.var b c _ hv hb
      have hck:cellable ka=true:=by cases ka <;> first | rfl | (simp [dI,toI,kindOk] at hk1)
      obtain ⟨x,r,ex,q,hr0⟩:=hcs.inv_one hck
      have er:=hr0.inv_nil
      have q:=(dI .i64).ok _ _ hk1 _ _ _ _ q
      cases q3
      cases q
      have hcell2:w.heap[c]?=some (.cells #[.int .i64 k] ty (0,0)):=by
        obtain ⟨cells⟩:=cells
        simp only at ex
        rw [hcell,ex,er]
      have hcall:=vs_all n.toNat (by omega) p (ok16_iff.1 k1) k k4 k5 c ty w m.globOk hcell2 pcs (pos_rep hpc)
      rw [show ((n.toNat:Nat):Int)=n by omega] at hcall
      refine callsIn_wide.2 (Calls.mono hcall ?_)
      intro e w' hp
      unfold lookS at hres
      rw [shut_eq] at hres
      exact fpost_look m hv hb hcell2 k6 hres hp
    · simp at he
  · simp at he
theorem sFG:FSound Pz 37 FG:=by
  intro xs h res he
  unfold FG at he
  split at he
  · rename_i b pa ma na
    simp only [get_bind,get_opt,Option.bind_eq_some_iff] at he
    obtain ⟨p,hp1,mv,hm1,n,hn1,he⟩:=he
    split at he
    · rename_i ka hb
      simp only [get_bind,get_opt,Option.bind_eq_some_iff,get_guard] at he
      obtain ⟨k,hk1,hok,hlo,hres⟩:=he
      refine ⟨?_,bodyIs 37 (by kernel_rfl)⟩
      unfold okV at hok
      simp only [Bool.and_eq_true,decide_eq_true_eq] at hok
      obtain ⟨k1,k2,k3,k4,k5⟩:=hok
      have k6:h.lo≤b:=Nat.le_of_ble_eq_true hlo
      intro g w vals m hr
      obtain ⟨vals⟩:=vals
      cases hr with
      | cons q1 r1 =>
      cases r1 with
      | cons q2 r2 =>
      cases r2 with
      | cons qm r2 =>
      cases r2 with
      | cons q3 r3 =>
      cases r3
      cases q1 with
      | ptr hv =>
      rename_i c
      have qm:=dMv.ok _ _ hm1 _ _ _ _ qm
      obtain ⟨mcs,rfl,hmc⟩:=Rep.inv_agg (l:=segs (Mv.av mv)) qm
      have hmcs:=mv_cells hmc
      have q2:=dPos.ok _ _ hp1 _ _ _ _ q2
      have q3:=(dI .i64).ok _ _ hn1 _ _ _ _ q3
      obtain ⟨pcs,rfl,hpc⟩:=Rep.inv_agg (l:=segs (Pos.av p)) q2
      obtain ⟨_,_,cells,ty,hcell,hcs⟩:=m.var b c _ hv hb
      have hck:cellable ka=true:=by cases ka <;> first | rfl | (simp [dI,toI,kindOk] at hk1)
      obtain ⟨x,r,ex,q,hr0⟩:=hcs.inv_one hck
      have er:=hr0.inv_nil
      have q:=(dI .i64).ok _ _ hk1 _ _ _ _ q
      cases q3
      cases q
      have hcell2:w.heap[c]?=some (.cells #[.int .i64 k] ty (0,0)):=by
        obtain ⟨cells⟩:=cells
        simp only at ex
        rw [hcell,ex,er]
      have hcall:=gs_all (n - 1).toNat (by omega) p (ok16_iff.1 k1) mv k k4 k5 c ty w m.globOk hcell2 pcs (pos_rep hpc)
      have em:mcs=(encM mv).toArray:=by
        obtain ⟨mcs⟩:=mcs
        simp only at hmcs
        rw [hmcs]
      rw [show (((n - 1).toNat:Nat):Int)+1=n by omega,← em] at hcall
      refine callsIn_wide.2 (Calls.mono hcall ?_)
      intro e w' hp
      unfold gainS at hres
      rw [shut_eq] at hres
      exact fpost_look m hv hb hcell2 k6 hres hp
    · simp at he
  · simp at he
end Kz
end
section
namespace Kz
open Go Go.RowKit Go.Proofs
theorem sFV0:FSound Pz 30 FV:=sFV
theorem sFG0:FSound Pz 37 FG:=sFG
noncomputable def NE (p:Pos):Int:=shut (evl p)
theorem NE_eq (p:Pos):NE p=evl p:=shut_eq _
theorem PE (p:Pos) (h:ok16 p=true):PS Pz 15 [Pos.av p] ((dI .i64).res (NE p)):=by
  rw [NE_eq]
  exact ⟨eval_w p (ok16_iff.1 h) 88 Tryz.sizeOf34 rfl,bodyIs 15 (by kernel_rfl)⟩
noncomputable def GE:List AV→Tr AV:=g1 dPos (fun p=>gdv (ok16 p) ((dI .i64).res (NE p)))
theorem sE:Sound Pz 15 GE:=sound1 fun p=>at_gd (PE p)
end Kz
end
section
namespace Kz
open Go Go.RowKit Go.Proofs
set_option maxRecDepth 100000
noncomputable def B14:Base:=baseOf Pz (fun _ _=>[]) [] [] [(30,FV)]
theorem hB14:BOk B14:=base_ok named_z trivial trivial ⟨sFV0,trivial⟩
noncomputable def N14 (p:Pos) (n:Int):Int×Int:=bif decide (n < 0) then (0,2) else bif decide (n > 32) then (0,2) else bif decide (p.variant ≥ 9) then (0,2) else bif decide (p.turn > 1) then (0,2) else bif (lookS n p 0).isSome then (((lookS n p 0).getD (0,0)).1,0) else (0,4)
noncomputable def ok14 (p:Pos) (n:Int):Bool:=bif decide (n < 0) then true else bif decide (n > 32) then true else bif decide (p.variant ≥ 9) then true else bif decide (p.turn > 1) then true else (okV p n 0&&bif (lookS n p 0).isSome then true else (okV p n 0&&(!(lookS n p 0).isSome&&true)))
theorem P14 (p:Pos) (n:Int) (h:ok14 p n=true):PS Pz 14 [Pos.av p,.int .i64 n] ((d2 (dI .i64) (dI .i64)).res (N14 p n)):=ps_sum (n:=30) hB14 (by kernel_rfl) (by kernel_rfl) (by kernel_rfl) h
noncomputable def G14:List AV→Tr AV:=g2 dPos (dI .i64) (fun p n=>gdv (ok14 p n) ((d2 (dI .i64) (dI .i64)).res (N14 p n)))
theorem s14:Sound Pz 14 G14:=sound2 fun p n=>at_gd (P14 p n)
end Kz
end
section
namespace Kz
open Go Go.RowKit Go.Proofs
set_option maxRecDepth 100000
set_option maxHeartbeats 4000000
noncomputable def K20:List (Nat×Nat×List (Nat×List Nat)):=[(20,9,[(0,[2,3]),(1,[4])])]
noncomputable def B20:Base:=baseOf Pz (fun f i=>lkC f i K20) [(18,G18),(41,G41)] [] []
theorem hB20:BOk B20:=base_ok named_z ⟨s18,s41,trivial⟩ trivial trivial
noncomputable def N20 (a:Pos) (b:Mv):Bool:=(N41 (N18 a) b)
noncomputable def ok20 (a:Pos) (b:Mv):Bool:=(ok18 a&&(ok41 (N18 a) b&&true))
theorem P20 (a:Pos) (b:Mv) (h:ok20 a b=true):PS Pz 20 [Pos.av a,Mv.av b] (dB.res (N20 a b)):=ps_sum (n:=14) hB20 (by kernel_rfl) (by kernel_rfl) (by kernel_rfl) h
noncomputable def G20:List AV→Tr AV:=g2 dPos dMv (fun a b=>gdv (ok20 a b) (dB.res (N20 a b)))
theorem s20:Sound Pz 20 G20:=sound2 fun a b=>at_gd (P20 a b)
end Kz
end
section
namespace Kz
open Go Go.RowKit
set_option maxRecDepth 100000
set_option maxHeartbeats 4000000
def inC (a b x:Int):Bool:=decide (a≤x)&&decide (x≤b)
theorem inC_iff {a b x:Int}:inC a b x=true ↔ a≤x∧x≤b:=by unfold inC; simp
def posIB (p:Pos):Bool :=
  inC 0 255 p.variant&&(p.board.length==64&&p.board.all (inC 0 255))&&(p.pockets.length==12&&p.pockets.all (inC 0 255))&&inC 0 255 p.turn&&(p.rooks.length==4&&p.rooks.all (inC (-128) 127))&&inC (-128) 127 p.passing&&(p.checks.length==2&&p.checks.all (inC 0 255))&&inC (-9223372036854775808) 9223372036854775807 p.half&&inC (-9223372036854775808) 9223372036854775807 p.full
theorem posI_of {p:Pos} (h:posIB p=true):PosIn p:=by
  unfold posIB at h
  simp only [Bool.and_eq_true,beq_iff_eq,List.all_eq_true,inC_iff] at h
  obtain ⟨⟨⟨⟨⟨⟨⟨⟨a,b⟩,c⟩,d⟩,e⟩,f⟩,g⟩,i⟩,j⟩:=h
  exact ⟨a.1,a.2,b.1,b.2,c.1,c.2,d.1,d.2,e.1,e.2,f.1,f.2,g.1,g.2,i,j⟩
end Kz
end
section
namespace Kz
open Go Go.RowKit Go.Proofs
set_option maxRecDepth 100000
def pC:Pos:=⟨0,((((List.replicate 64 (0:Int)).set 0 6).set 3 4).set 63 14).set 59 13,0,List.replicate 12 0,0,List.replicate 4 0,-1,[0,0],0,1⟩
def mC:Mv:=⟨3,59,0,0,false⟩
noncomputable def qC:Pos:=(N22 pC mC).1
theorem p0C:N24 pC=(0,0):=by kernel_rfl
theorem p1C:N24 qC=(0,0):=by kernel_rfl
theorem T0C:takesL pC=[mC]:=by kernel_rfl
theorem T1C:takesL qC=[]:=by kernel_rfl
theorem e0C:(ok15 pC,N15 pC)=(true,-400):=by kernel_rfl
theorem e1C:(ok15 qC,N15 qC)=(true,-488):=by kernel_rfl
def eqP (p q:Pos):Bool:=p.board==q.board&&(p.turn==q.turn&&(p.passing==q.passing&&(p.half==q.half&&(p.full==q.full&&(p.variant==q.variant&&(p.promoted==q.promoted&&(p.pockets==q.pockets&&(p.rooks==q.rooks&&p.checks==q.checks))))))))
theorem eqP_eq {p q:Pos} (h:eqP p q=true):p=q:=by
  unfold eqP at h
  simp only [Bool.and_eq_true,beq_iff_eq] at h
  obtain ⟨h1,h2,h3,h4,h5,h6,h7,h8,h9,h0⟩:=h
  cases p; cases q
  simp only at *
  subst_vars
  rfl
noncomputable def G24C (a:Pos):Tr AV:=match eqP pC a with
  | true=>gdv (posIB a) ((dR .u8 .u8).res (0,0))
  | false=>match eqP qC a with
    | true=>gdv (posIB a) ((dR .u8 .u8).res (0,0))
    | false=>.fail
noncomputable def G16C (a:Pos):Tr AV:=match eqP pC a with
  | true=>gdv (posIB a) ((dL .mv).res [mC])
  | false=>match eqP qC a with
    | true=>gdv (posIB a) ((dL .mv).res [])
    | false=>.fail
noncomputable def G15C (a:Pos):Tr AV:=match eqP pC a with
  | true=>.ret ((dI .i64).res (-400))
  | false=>match eqP qC a with
    | true=>.ret ((dI .i64).res (-488))
    | false=>.fail
theorem at24C (a:Pos):At0 Pz 24 [Pos.av a] (G24C a):=by
  unfold G24C
  split
  · rename_i e
    rw [← eqP_eq e]
    exact at_gd fun h=>by rw [← p0C]; exact P24 pC (t24 (posI_of h))
  · split
    · rename_i e
      rw [← eqP_eq e]
      exact at_gd fun h=>by rw [← p1C]; exact P24 qC (t24 (posI_of h))
    · intro u hu; cases hu
theorem at16C (a:Pos):At0 Pz 16 [Pos.av a] (G16C a):=by
  unfold G16C
  split
  · rename_i e
    rw [← eqP_eq e]
    exact at_gd fun h=>by rw [← T0C]; exact P16h pC (posI_of h)
  · split
    · rename_i e
      rw [← eqP_eq e]
      exact at_gd fun h=>by rw [← T1C]; exact P16h qC (posI_of h)
    · intro u hu; cases hu
theorem at15C (a:Pos):At0 Pz 15 [Pos.av a] (G15C a):=by
  unfold G15C
  split
  · rename_i e
    rw [← eqP_eq e]
    have h:ok15 pC=true∧N15 pC = -400:=by simpa using e0C
    rw [← h.2]
    exact at_rt (P15 pC h.1)
  · split
    · rename_i e
      rw [← eqP_eq e]
      have h:ok15 qC=true∧N15 qC = -488:=by simpa using e1C
      rw [← h.2]
      exact at_rt (P15 qC h.1)
    · intro u hu; cases hu
theorem i0C:N20 pC mC=true:=by kernel_rfl
theorem at20C (a:Pos) (m:Mv):At0 Pz 20 [Pos.av a,Mv.av m] (gdv (posIB a&&ok41 (N18 a) m) (dB.res (N20 a m))) :=
  at_gd fun h=>by
    simp only [Bool.and_eq_true] at h
    exact P20 a m (a_true (t18 (posI_of h.1)) fun _=>a_true h.2 fun _=>rfl)
noncomputable def B12:Base:=baseOf Pz (fun _ _=>[]) [(22,g2 dPos dMv fun a b=>gdv (posIB a) ((d2 dPos dB).res (N22 a b))),(24,g1 dPos G24C),(16,g1 dPos G16C),(15,g1 dPos G15C),(20,g2 dPos dMv fun a b=>gdv (posIB a&&ok41 (N18 a) b) (dB.res (N20 a b))),(78,G78)] [] []
theorem hB12:BOk B12:=base_ok named_z ⟨sound2 fun a b=>at_gd fun h=>P22 a b (move_all (posI_of h) b).1,sound1 at24C,sound1 at16C,sound1 at15C,sound2 at20C,s78,trivial⟩ trivial trivial
def isTr:Option AV→Bool
  | some (.bool b) | some (.cbool b)=>b
  | _=>false
theorem isTr_dec {o:Option AV} (h:isTr o=true):∃ v,o=some v∧dB.dec v=some true:=by
  unfold isTr at h
  split at h
  · subst h; exact ⟨_,rfl,rfl⟩
  · subst h; exact ⟨_,rfl,rfl⟩
  · cases h
theorem Q12:isTr (evPure B12 80 12 []).get=true:=by kernel_rfl
theorem P12h:PS Pz 12 [] (dB.res true):=by
  obtain ⟨v,h1,h2⟩:=isTr_dec Q12
  exact ps_of hB12 h1 dB h2
end Kz
end
section
namespace Kz
open Go Go.RowKit Go.Proofs
noncomputable def N12:Bool:=true
noncomputable def ok12:Bool:=true
theorem P12 (_:ok12=true):PS Pz 12 [] (dB.res N12):=P12h
noncomputable def G12:List AV→Tr AV:=g0 (.ret (dB.res N12))
theorem s12:Sound Pz 12 G12:=sound0 (at_rt (P12 rfl))
end Kz
end
section
namespace Kz
open Go Go.RowKit Go.Proofs
set_option maxRecDepth 100000
set_option maxHeartbeats 4000000
noncomputable def K5:List (Nat×Nat×List (Nat×List Nat)):=[(5,78,[(0,[1]),(1,[1,3]),(2,[1,3,4]),(3,[1,3,4,5]),(4,[1,3,4,5,6]),(5,(1::(rn 3 4 [16]))),(6,[1,3,4,5,6]),(7,(1::(rn 3 4 [24]))),(8,[1,3,4,5,6]),(9,[1,3,5,7]),(10,[1,3,5,7,30]),(11,[1,3,5,7]),(12,[1,3,5,7,48]),(13,[2]),(14,[1,3,5,7,8]),(15,[1,3,5,7,8,51]),(16,[1,3,5,7,8]),(17,[1,3,5,7,8,62]),(18,[2]),(19,[3,5,64]),(20,[2]),(21,[2])])]
noncomputable def B5_1:Base:=baseOf Pz (fun f i=>lkC f i K5) [(11,G11),(12,G12),(16,G16),(18,G18),(19,G19),(20,G20)] [] []
theorem hB5_1:BOk B5_1:=base_ok named_z ⟨s11,s12,s16,s18,s19,s20,trivial⟩ trivial trivial
noncomputable def S5_1 (p1:(List Mv)) (p2:(List Mv)) (p3:Pos) (x:(Int×Int)):St:=St.mk (AV.any::AV.ptr 0 0::AV.any::AV.list ET.mv p1 Tk.fresh::AV.list ET.mv p2 Tk.fresh::AV.int .i64 x.fst::AV.int .i64 x.snd::(an 71 [])) (Hp.mk [(pc p3 [])] [] [] 0 0 0)
noncomputable def O5_1 (p1:(List Mv)) (p2:(List Mv)) (p3:Pos):(Int×Int×Bool)→Out:=fun y=>.exit 0 (St.mk (AV.any::AV.ptr 0 0::AV.any::AV.list ET.mv p1 Tk.fresh::AV.list ET.mv p2 Tk.fresh::AV.int .i64 y.fst::AV.int .i64 y.snd.fst::(an 9 (AV.bool y.snd.snd::(an 61 [])))) (Hp.mk [(pc p3 [])] [] [] 0 0 0))
noncomputable def st5_1 (p1:(List Mv)) (p2:(List Mv)) (p3:Pos) (x:(Int×Int)):Stp (Int×Int) ((Int×Int×Bool)):=(bif decide (x.snd < Int.ofNat p2.length) then (bif N19 p3 (p2.getD x.snd.toNat default) then (Stp.go (wr .i64 (x.fst+1),wr .i64 (x.snd+1))) else (Stp.go (x.fst,wr .i64 (x.snd+1)))) else (Stp.out ((x.fst,x.snd,decide (x.snd < Int.ofNat p2.length)))))
noncomputable def okL5_1 (p1:(List Mv)) (p2:(List Mv)) (p3:Pos) (x:(Int×Int)):Bool:=(bif decide (x.snd < Int.ofNat p2.length) then (decide (0≤x.snd)&&decide (x.snd < Int.ofNat p2.length)&&(ok19 p3 (p2.getD x.snd.toNat default)&&true)) else true)
noncomputable def lp5_1 (p1:(List Mv)) (p2:(List Mv)) (p3:Pos) (x:(Int×Int)):Option ((Int×Int×Bool)):=itl (fun x=>bif okL5_1 p1 p2 p3 x then st5_1 p1 p2 p3 x else .bad) many x
abbrev D5_1 {α:Type} (k:(List Mv)→(List Mv)→Pos→(Int×Int)→α) (s:St):α:=wP s 0 fun q0=>k (tL (ET.mv) (tT s 3)) (tL (ET.mv) (tT s 4)) q0 ((tI (tT s 5)),(tI (tT s 6)))
theorem L5_1 (p1:(List Mv)) (p2:(List Mv)) (p3:Pos) (x:(Int×Int)) (r:(Int×Int×Bool)) (h:lp5_1 p1 p2 p3 x=some r):LSpec Pz (bodL Pz 5 5) (S5_1 p1 p2 p3 x) (O5_1 p1 p2 p3 r):=LSpec.smd (m:=12) (fn:=5) hB5_1 (D5_1 fun _ _ _ x=>some x) (fun o=>match o with | .exit 0 s=>some ((tI (tT s 5)),(tI (tT s 6)),(tB (tT s 16))) | _=>none) (fun _=>rfl) (fun _=>by kernel_rfl) (fun _=>by kernel_rfl) (fun _=>by kernel_rfl) (fun _=>by kernel_rfl) many x r h
noncomputable def F5_1 (b:Code) (s:St):Tr Out:=D5_1 (fun p1 p2 p3 x=>lk1 b (bodL Pz 5 5) s (S5_1 p1 p2 p3 x) (lp5_1 p1 p2 p3 x) (O5_1 p1 p2 p3)) s
theorem sF5_1:∀ b,LSound Pz b (F5_1 b):=fun _ _ _ h=>lk1_ok (L5_1 _ _ _ _) h
noncomputable def B5_2:Base:=baseOf Pz (fun f i=>lkC f i K5) [(11,G11),(12,G12),(16,G16),(18,G18),(19,G19),(20,G20)] [(5,5,F5_1)] []
theorem hB5_2:BOk B5_2:=base_ok named_z ⟨s11,s12,s16,s18,s19,s20,trivial⟩ ⟨sF5_1,trivial⟩ trivial
noncomputable def S5_2 (p1:(List Mv)) (p2:Int) (p3:Int) (p4:Pos) (x:(Int)):St:=St.mk (AV.any::AV.ptr 0 0::AV.any::AV.list ET.mv p1 Tk.fresh::AV.any::AV.int .i64 p2::AV.any::AV.int .i64 p3::AV.int .i64 x::(an 69 [])) (Hp.mk [(pc p4 [])] [] [] 0 0 0)
noncomputable def O5_2 (p1:(List Mv)) (p2:Int) (p3:Int) (p4:Pos):Unit ⊕ (Int×Bool)→Out
  | (.inl (y))=>.ret (St.mk (AV.any::AV.any::AV.cbool false::(an 75 [])) (Hp.mk [(pc p4 [])] [] [] 0 0 0))
  | (.inr (y))=>.exit 4 (St.mk (AV.any::AV.ptr 0 0::AV.any::AV.list ET.mv p1 Tk.fresh::AV.any::AV.int .i64 p2::AV.any::AV.int .i64 p3::AV.int .i64 y.fst::(an 42 (AV.bool y.snd::(an 26 [])))) (Hp.mk [(pc p4 [])] [] [] 0 0 0))
noncomputable def st5_2 (p1:(List Mv)) (p2:Int) (p3:Int) (p4:Pos) (x:(Int)):Stp (Int) (Unit ⊕ (Int×Bool)):=(bif decide (x < p3) then (bif eqOut BinOp.eql ((p1.getD x.toNat default).frm==(p1.getD p3.toNat default).frm&&((p1.getD x.toNat default).to==(p1.getD p3.toNat default).to&&((p1.getD x.toNat default).pro==(p1.getD p3.toNat default).pro&&((p1.getD x.toNat default).drp==(p1.getD p3.toNat default).drp&&((p1.getD x.toNat default).cas==(p1.getD p3.toNat default).cas&&true))))) then (Stp.out (.inl (()))) else (Stp.go (wr .i64 (x+1)))) else (Stp.out (.inr ((x,decide (x < p3))))))
noncomputable def okL5_2 (p1:(List Mv)) (p2:Int) (p3:Int) (p4:Pos) (x:(Int)):Bool:=(bif decide (x < p3) then (decide (0≤x)&&decide (x < Int.ofNat p1.length)&&(decide (0≤p3)&&decide (p3 < Int.ofNat p1.length)&&true)) else true)
noncomputable def lp5_2 (p1:(List Mv)) (p2:Int) (p3:Int) (p4:Pos) (x:(Int)):Option (Unit ⊕ (Int×Bool)):=itl (fun x=>bif okL5_2 p1 p2 p3 p4 x then st5_2 p1 p2 p3 p4 x else .bad) many x
abbrev D5_2 {α:Type} (k:(List Mv)→Int→Int→Pos→(Int)→α) (s:St):α:=wP s 0 fun q0=>k (tL (ET.mv) (tT s 3)) (tI (tT s 5)) (tI (tT s 7)) q0 ((tI (tT s 8)))
theorem L5_2 (p1:(List Mv)) (p2:Int) (p3:Int) (p4:Pos) (x:(Int)) (r:Unit ⊕ (Int×Bool)) (h:lp5_2 p1 p2 p3 p4 x=some r):LSpec Pz (bodL Pz 5 15) (S5_2 p1 p2 p3 p4 x) (O5_2 p1 p2 p3 p4 r):=LSpec.smd (m:=12) (fn:=5) hB5_2 (D5_2 fun _ _ _ _ x=>some x) (fun o=>match o with | .ret s=>some (.inl ()) | .exit 4 s=>some (.inr ((tI (tT s 8)),(tB (tT s 51)))) | _=>none) (fun r=>by cases r <;> rfl) (fun _=>by kernel_rfl) (fun _=>by kernel_rfl) (fun _=>by kernel_rfl) (fun _=>by kernel_rfl) many x r h
noncomputable def F5_2 (b:Code) (s:St):Tr Out:=D5_2 (fun p1 p2 p3 p4 x=>lk2 b (bodL Pz 5 15) s (S5_2 p1 p2 p3 p4 x) (lp5_2 p1 p2 p3 p4 x) (O5_2 p1 p2 p3 p4)) s
theorem sF5_2:∀ b,LSound Pz b (F5_2 b):=fun _ _ _ h=>lk2_ok (L5_2 _ _ _ _ _) h
noncomputable def B5_3:Base:=baseOf Pz (fun f i=>lkC f i K5) [(11,G11),(12,G12),(16,G16),(18,G18),(19,G19),(20,G20)] [(5,5,F5_1),(5,15,F5_2)] []
theorem hB5_3:BOk B5_3:=base_ok named_z ⟨s11,s12,s16,s18,s19,s20,trivial⟩ ⟨sF5_1,sF5_2,trivial⟩ trivial
noncomputable def S5_3 (p1:(List Mv)) (p2:Int) (p3:Pos) (x:(Int)):St:=St.mk (AV.any::AV.ptr 0 0::AV.any::AV.list ET.mv p1 Tk.fresh::AV.any::AV.int .i64 p2::AV.any::AV.int .i64 x::(an 70 [])) (Hp.mk [(pc p3 [])] [] [] 0 0 0)
noncomputable def O5_3 (p1:(List Mv)) (p2:Int) (p3:Pos):Unit ⊕ (Int×Bool)→Out
  | (.inl (y))=>.ret (St.mk (AV.any::AV.any::AV.cbool false::(an 75 [])) (Hp.mk [(pc p3 [])] [] [] 0 0 0))
  | (.inr (y))=>.exit 2 (St.mk (AV.any::AV.ptr 0 0::AV.any::AV.list ET.mv p1 Tk.fresh::AV.any::AV.int .i64 p2::AV.any::AV.int .i64 y.fst::(an 22 (AV.bool y.snd::(an 47 [])))) (Hp.mk [(pc p3 [])] [] [] 0 0 0))
noncomputable def st5_3 (p1:(List Mv)) (p2:Int) (p3:Pos) (x:(Int)):Stp (Int) (Unit ⊕ (Int×Bool)):=(bif decide (x < Int.ofNat p1.length) then (bif !N20 p3 (p1.getD x.toNat default) then (Stp.out (.inl (()))) else (bif !N19 p3 (p1.getD x.toNat default) then (Stp.out (.inl (()))) else (bif isL ((lp5_2 p1 p2 x p3 0).getD default) then (Stp.out (.inl (()))) else (Stp.go (wr .i64 (x+1)))))) else (Stp.out (.inr ((x,decide (x < Int.ofNat p1.length))))))
noncomputable def okL5_3 (p1:(List Mv)) (p2:Int) (p3:Pos) (x:(Int)):Bool:=(bif decide (x < Int.ofNat p1.length) then (decide (0≤x)&&decide (x < Int.ofNat p1.length)&&(ok20 p3 (p1.getD x.toNat default)&&(bif !N20 p3 (p1.getD x.toNat default) then true else (decide (0≤x)&&decide (x < Int.ofNat p1.length)&&(ok19 p3 (p1.getD x.toNat default)&&(bif !N19 p3 (p1.getD x.toNat default) then true else ((lp5_2 p1 p2 x p3 0).isSome&&bif isL ((lp5_2 p1 p2 x p3 0).getD default) then true else true))))))) else true)
noncomputable def lp5_3 (p1:(List Mv)) (p2:Int) (p3:Pos) (x:(Int)):Option (Unit ⊕ (Int×Bool)):=itl (fun x=>bif okL5_3 p1 p2 p3 x then st5_3 p1 p2 p3 x else .bad) many x
abbrev D5_3 {α:Type} (k:(List Mv)→Int→Pos→(Int)→α) (s:St):α:=wP s 0 fun q0=>k (tL (ET.mv) (tT s 3)) (tI (tT s 5)) q0 ((tI (tT s 7)))
theorem L5_3 (p1:(List Mv)) (p2:Int) (p3:Pos) (x:(Int)) (r:Unit ⊕ (Int×Bool)) (h:lp5_3 p1 p2 p3 x=some r):LSpec Pz (bodL Pz 5 10) (S5_3 p1 p2 p3 x) (O5_3 p1 p2 p3 r):=LSpec.smd (m:=12) (fn:=5) hB5_3 (D5_3 fun _ _ _ x=>some x) (fun o=>match o with | .ret s=>some (.inl ()) | .exit 2 s=>some (.inr ((tI (tT s 7)),(tB (tT s 30)))) | _=>none) (fun r=>by cases r <;> rfl) (fun _=>by kernel_rfl) (fun _=>by kernel_rfl) (fun _=>by kernel_rfl) (fun _=>by kernel_rfl) many x r h
noncomputable def F5_3 (b:Code) (s:St):Tr Out:=D5_3 (fun p1 p2 p3 x=>lk2 b (bodL Pz 5 10) s (S5_3 p1 p2 p3 x) (lp5_3 p1 p2 p3 x) (O5_3 p1 p2 p3)) s
theorem sF5_3:∀ b,LSound Pz b (F5_3 b):=fun _ _ _ h=>lk2_ok (L5_3 _ _ _ _) h
noncomputable def B5:Base:=baseOf Pz (fun f i=>lkC f i K5) [(11,G11),(12,G12),(16,G16),(18,G18),(19,G19),(20,G20)] [(5,5,F5_1),(5,15,F5_2),(5,10,F5_3)] []
theorem hB5:BOk B5:=base_ok named_z ⟨s11,s12,s16,s18,s19,s20,trivial⟩ ⟨sF5_1,sF5_2,sF5_3,trivial⟩ trivial
noncomputable def N5 (a:Pos):Bool:=(bif isL ((lp5_3 (N16 a) ((lp5_1 (N16 a) (N18 a) a (0,0)).getD default).fst a 0).getD default) then (false) else (bif N11 a then (bif Int.ofNat (N16 a).length==0 then (N12) else (false)) else (bif Int.ofNat (N16 a).length==((lp5_1 (N16 a) (N18 a) a (0,0)).getD default).fst then (N12) else (false))))
noncomputable def ok5 (a:Pos):Bool:=(ok16 a&&(ok18 a&&((lp5_1 (N16 a) (N18 a) a (0,0)).isSome&&((lp5_3 (N16 a) ((lp5_1 (N16 a) (N18 a) a (0,0)).getD default).fst a 0).isSome&&bif isL ((lp5_3 (N16 a) ((lp5_1 (N16 a) (N18 a) a (0,0)).getD default).fst a 0).getD default) then true else (ok11 a&&true)))))
theorem P5 (a:Pos) (h:ok5 a=true):PS Pz 5 [Pos.av a] (dB.res (N5 a)):=ps_sum (n:=14) hB5 (by kernel_rfl) (by kernel_rfl) (by kernel_rfl) h
noncomputable def G5:List AV→Tr AV:=g1 dPos (fun a=>gdv (ok5 a) (dB.res (N5 a)))
theorem s5:Sound Pz 5 G5:=sound1 fun a=>at_gd (P5 a)
end Kz
end
section
namespace Kz
open Go
set_option maxRecDepth 100000
theorem nd_flat {α β:Type} {l:List α} {f:α→List β} (h1:l.Pairwise (·≠·)) (h2:∀ a ∈ l,(f a).Pairwise (·≠·)) (h3:∀ a b x,x ∈ f a→x ∈ f b→a=b):(l.flatMap f).Pairwise (·≠·):=by
  rw [List.pairwise_flatMap]
  exact ⟨h2,h1.imp fun hne x hx y hy e=>by subst e; exact hne (h3 _ _ x hx hy)⟩
theorem nd_one {α:Type} (a:α):[a].Pairwise (·≠·):=List.pairwise_singleton _ _
theorem sqs_nd (b:BitVec 64) (k:Nat):(sqs b k).Pairwise (·≠·):=by
  unfold sqs
  rw [List.pairwise_map]
  have h:(List.range k).Pairwise (·≠·):=List.nodup_range
  have h2:((List.range k).filter b.getLsbD).Pairwise (·≠·):=List.Pairwise.filter _ h
  exact h2.imp fun {a c} hne e=>hne (Int.ofNat.inj e)
theorem proms_nd (v:Int):(proms v).Pairwise (·≠·):=by
  unfold proms
  split
  · split <;> decide
  · exact .nil
theorem mvs_mem {p:Pos} {f t:Int} {m:Mv} (h:m ∈ mvs p f t):m.frm=f∧m.to=t∧m.drp=0∧m.cas=false:=by
  revert h
  unfold mvs
  have k:m ∈ [(⟨f,t,0,0,false⟩:Mv)]→m.frm=f∧m.to=t∧m.drp=0∧m.cas=false:=fun h=>by
    rw [List.mem_singleton] at h
    subst h
    exact ⟨rfl,rfl,rfl,rfl⟩
  refine c_ind (P:=fun l:List Mv=>m ∈ l→_) (fun _=>k) fun _=>c_ind (P:=fun l:List Mv=>m ∈ l→_) (fun _=>k) fun _ h => ?_
  obtain ⟨q,_,h⟩:=List.mem_flatMap.1 h
  rw [List.mem_singleton] at h
  subst h
  exact ⟨rfl,rfl,rfl,rfl⟩
theorem mvs_nd (p:Pos) (f t:Int):(mvs p f t).Pairwise (·≠·):=by
  unfold mvs
  refine c_ind (P:=fun l:List Mv=>l.Pairwise (·≠·)) (fun _=>nd_one _) fun _=>c_ind (P:=fun l:List Mv=>l.Pairwise (·≠·)) (fun _=>nd_one _) fun _ => ?_
  refine nd_flat (proms_nd _) (fun _ _=>nd_one _) fun a b x hx hy => ?_
  rw [List.mem_singleton] at hx hy
  subst hx
  exact congrArg Mv.pro hy
theorem froms_mem {p:Pos} {x:Pos×BitVec 64×BitVec 64} {f:Int} {m:Mv} (h:m ∈ froms p x f):m.frm=f∧m.drp=0∧m.cas=false:=by
  unfold froms at h
  obtain ⟨t,_,h⟩:=List.mem_flatMap.1 h
  have:=mvs_mem h
  exact ⟨this.1,this.2.2.1,this.2.2.2⟩
theorem froms_nd (p:Pos) (x:Pos×BitVec 64×BitVec 64) (f:Int):(froms p x f).Pairwise (·≠·) :=
  nd_flat (sqs_nd _ _) (fun t _=>mvs_nd p f t) fun a b m hx hy=>(mvs_mem hx).2.1.symm.trans (mvs_mem hy).2.1
theorem N90_nd {p:Pos} (hp:PosIn p):(N90 p).Pairwise (·≠·):=by
  by_cases ht:there p
  · rw [N90_there hp.v0 ht]
    exact nd_flat (sqs_nd _ _) (fun f _=>froms_nd _ _ f) fun a b m hx hy=>(froms_mem hx).1.symm.trans (froms_mem hy).1
  · rw [N90_not ht]
    exact .nil
theorem drops_mem {p:Pos} {k:Int} {m:Mv} (h:m ∈ drops p k):m.drp=k:=by
  revert h
  unfold drops
  have key:∀ l:List Int,m ∈ l.flatMap (fun s=>[(⟨s,s,0,k,false⟩:Mv)])→m.drp=k:=fun l h=>by
    obtain ⟨s,_,h⟩:=List.mem_flatMap.1 h
    rw [List.mem_singleton] at h
    subst h
    rfl
  exact c_ind (P:=fun l:List Mv=>m ∈ l→_) (fun _ h=>by cases h) fun _=>c_ind (P:=fun l:List Mv=>m ∈ l→_) (fun _ h=>key _ h) fun _ h=>key _ h
theorem drops_nd (p:Pos) (k:Int):(drops p k).Pairwise (·≠·):=by
  unfold drops
  have key:∀ b:BitVec 64,((sqs b 64).flatMap (fun s=>[(⟨s,s,0,k,false⟩:Mv)])).Pairwise (·≠·):=fun b =>
    nd_flat (sqs_nd _ _) (fun _ _=>nd_one _) fun a c x hx hy=>by
      rw [List.mem_singleton] at hx hy
      subst hx
      exact congrArg Mv.frm hy
  exact c_ind (P:=fun l:List Mv=>l.Pairwise (·≠·)) (fun _=>.nil) fun _=>c_ind (P:=fun l:List Mv=>l.Pairwise (·≠·)) (fun _=>key _) fun _=>key _
theorem N98_nd {p:Pos} (hp:PosIn p):(N98 p).Pairwise (·≠·):=by
  rw [N98_eq hp.t0]
  refine c_ind (P:=fun l:List Mv=>l.Pairwise (·≠·)) (fun _=>.nil) fun _=>c_ind (P:=fun l:List Mv=>l.Pairwise (·≠·)) (fun _=>.nil) fun _ => ?_
  exact nd_flat (by decide) (fun k _=>drops_nd p k) fun a b m hx hy=>(drops_mem hx).symm.trans (drops_mem hy)
theorem N181_side {p:Pos} {b c:Int} (h:(N181 p b c).2=true):(c=0→b < (N181 p b c).1)∧(c≠0→¬ b < (N181 p b c).1):=by
  revert h
  unfold N181
  refine c_ind (P:=fun x:Int×Bool=>x.2=true→(c=0→b < x.1)∧(c≠0→¬ b < x.1)) (fun _ h=>by cases h) fun _=>c_ind (P:=fun x:Int×Bool=>x.2=true→(c=0→b < x.1)∧(c≠0→¬ b < x.1)) (fun _ h=>by cases h) fun _=>c_ind (P:=fun x:Int×Bool=>x.2=true→(c=0→b < x.1)∧(c≠0→¬ b < x.1)) (fun _=>c_ind (P:=fun x:Int×Bool=>x.2=true→(c=0→b < x.1)∧(c≠0→¬ b < x.1)) (fun h1 _ => ?_) fun _ h=>by cases h) fun _ h=>by cases h
  have h1:(decide (wr .i64 (N148 p.turn+wr .i64 (p.rooks.getD (scale 2 p.turn+scale 1 c).toNat 0)) > b)==(c==0))=true:=h1
  simp only [beq_iff_eq] at h1
  refine ⟨fun hc => ?_,fun hc hlt => ?_⟩
  · subst hc
    simpa using h1
  · have hc2:(c==0)=false:=by simpa using hc
    rw [hc2] at h1
    have:=of_decide_eq_false h1
    exact this hlt
theorem N97_nd {p:Pos} (hp:PosIn p):(N97 p).Pairwise (·≠·):=by
  unfold N97
  have hk:=N106_lo p p.turn 6
  refine c_ind (P:=fun l:List Mv=>l.Pairwise (·≠·)) (fun _=>.nil) fun h => ?_
  have ht:p.turn≤1:=by simpa using h
  refine c_ind (P:=fun l:List Mv=>l.Pairwise (·≠·)) (fun _=>.nil) fun _=>c_ind (P:=fun l:List Mv=>l.Pairwise (·≠·)) (fun _=>.nil) fun hk0=>c_ind (P:=fun l:List Mv=>l.Pairwise (·≠·)) (fun _=>.nil) fun _ => ?_
  have hk0:0≤N106 p p.turn 6:=by simpa using hk0
  refine c_ind (P:=fun l:List Mv=>l.Pairwise (·≠·)) (fun h1=>c_ind (P:=fun l:List Mv=>l.Pairwise (·≠·)) (fun h2 => ?_) fun _=>nd_one _) fun _=>c_ind (P:=fun l:List Mv=>l.Pairwise (·≠·)) (fun _=>nd_one _) fun _=>.nil
  obtain ⟨_,_,_,_,_,_,a1,a2⟩:=N149_mem hp ht hk0 hk.2 h1
  obtain ⟨_,_,_,_,_,_,b1,b2⟩:=N149_mem hp ht hk0 hk.2 h2
  have s1:=(N181_side a2).2 (by decide)
  have s2:=(N181_side b2).1 rfl
  rw [← a1] at s1
  rw [← b1] at s2
  refine List.pairwise_cons.2 ⟨fun x hx e => ?_,nd_one _⟩
  have hx:x ∈ [(N149 p (N106 p p.turn 6) 0).fst]:=hx
  rw [List.mem_singleton] at hx
  subst e
  rw [hx] at s1
  exact s1 s2
theorem N45_nd {p:Pos} (hp:PosIn p):(N45 p).Pairwise (·≠·):=by
  rw [N45_eq,List.pairwise_append,List.pairwise_append]
  refine ⟨⟨N90_nd hp,N97_nd hp,fun x hx y hy e => ?_⟩,N98_nd hp,fun x hx y hy e => ?_⟩
  · subst e
    obtain ⟨_,_,_,_,_,_,_,_,h,_⟩:=N90_mem hp.v0 hx
    have h2:=(N97_mem hp hy).2.2.2.2.2.1
    rw [h] at h2
    cases h2
  · subst e
    have h1:=(N98_mem hp.t0 hy).2.2.2.2.2.2.1
    rcases List.mem_append.1 hx with hx | hx
    · obtain ⟨_,_,_,_,_,_,_,h,_⟩:=N90_mem hp.v0 hx
      omega
    · have:=(N97_mem hp hx).2.2.2.2.2.2.1
      omega
theorem N18_nd {p:Pos} (hp:PosIn p):(N18 p).Pairwise (·≠·):=by
  rw [N18_eq hp]
  refine c_ind (P:=fun l:List Mv=>l.Pairwise (·≠·)) (fun _=>.nil) fun _ => ?_
  have e:=N39_eq hp
  rw [e]
  have hw:(wouldL p).Pairwise (·≠·):=by
    unfold wouldL
    have h0:((N45 p).filter (N86 p)).Pairwise (·≠·):=List.Pairwise.filter _ (N45_nd hp)
    exact c_ind (P:=fun l:List Mv=>l.Pairwise (·≠·)) (fun _=>c_ind (P:=fun l:List Mv=>l.Pairwise (·≠·)) (fun _=>List.Pairwise.filter _ h0) fun _=>h0) fun _=>h0
  exact c_ind (P:=fun l:List Mv=>l.Pairwise (·≠·)) (fun _=>c_ind (P:=fun l:List Mv=>l.Pairwise (·≠·)) (fun _=>.nil) fun _=>hw) fun _=>hw
section
variable {p:Pos} (hp:PosIn p)
include hp
theorem takes_len:(takesL p).length≤20802∧∀ m ∈ takesL p,m ∈ N18 p∧N19 p m=true:=by
  have h:=N18_len hp
  unfold takesL
  refine c_ind (P:=fun l:List Mv=>l.length≤20802∧∀ m ∈ l,m ∈ N18 p∧N19 p m=true) (fun _=>⟨by simp,fun m h=>by cases h⟩) fun _ => ?_
  have h2:((N18 p).filter (N19 p)).length≤(N18 p).length:=List.length_filter_le _ _
  refine ⟨by rw [Go.Proofs.srt_len]; omega,fun m hm => ?_⟩
  exact List.mem_filter.1 ((Go.Proofs.srt_perm p _).mem_iff.1 hm)
theorem takes_nd:(takesL p).Pairwise (·≠·):=by
  unfold takesL
  refine c_ind (P:=fun l:List Mv=>l.Pairwise (·≠·)) (fun _=>.nil) fun _ => ?_
  have h:((N18 p).filter (N19 p)).Nodup:=List.Pairwise.filter _ (N18_nd hp)
  exact (Go.Proofs.srt_perm p _).nodup_iff.2 h
theorem t20 (m:Mv):ok20 p m=true:=a_true (t18 hp) fun _=>a_true (t41 (by have:=N18_len hp; omega)) fun _=>rfl
theorem N20_eq (m:Mv):N20 p m=decide (m ∈ N18 p):=by
  unfold N20
  exact N41_eq (by have:=N18_len hp; omega)
theorem lp5a (q:List Mv) (l:List Mv) (hl:l.length≤1000000):∃ r,lp5_1 q l p (0,0)=some r∧r.1=((l.filter (N19 p)).length:Int):=by
  refine lp_many (I:=fun x=>0≤x.2∧x.2≤(l.length:Int)∧x.1=(((l.take x.2.toNat).filter (N19 p)).length:Int)) (μ:=fun x=>((l.length:Int) - x.2).toNat) ?_ _ ⟨by simp,by simp,by simp⟩ (by simp; omega)
  rintro ⟨c,n⟩ ⟨h0,h1,h2⟩
  simp only at h0 h1 h2
  have hc2:((l.take n.toNat).filter (N19 p)).length≤1000000:=by
    have:=List.length_filter_le (N19 p) (l.take n.toNat)
    have:=List.length_take_le n.toNat l
    rw [List.length_take] at this
    have h3:(l.take n.toNat).length≤l.length:=by rw [List.length_take]; omega
    omega
  by_cases hc:n < l.length
  · have hlt:n.toNat < l.length:=by omega
    have hw:wr .i64 (n+1)=n+1:=wi64 (by omega) (by omega)
    have hw1:wr .i64 (c+1)=c+1:=wi64 (by omega) (by omega)
    have et:(l.take (n+1).toNat).filter (N19 p)=(l.take n.toNat).filter (N19 p)++if N19 p l[n.toNat]=true then [l[n.toNat]] else []:=by
      rw [show (n+1).toNat=n.toNat+1 by omega,List.take_succ_eq_append_getElem hlt,List.filter_append,List.filter_cons,List.filter_nil]
    have eg:l.getD n.toNat default=l[n.toNat]:=by rw [List.getD_eq_getElem?_getD,List.getElem?_eq_getElem hlt]; rfl
    refine ⟨c_true (fun _=>a_true (by simp [h0]; exact hc) fun _=>a_true (t19 hp.v0 _) fun _=>rfl) fun _=>rfl,c_ind (fun _ => ?_) fun h=>absurd h (by simpa using hc)⟩
    refine c_ind (fun h => ?_) fun h => ?_
    · rw [hw,hw1]
      rw [eg] at h
      refine ⟨⟨by dsimp only; omega,by dsimp only; omega,?_⟩,by dsimp only; omega⟩
      show c+1=(((l.take (n+1).toNat).filter (N19 p)).length:Int)
      rw [et,if_pos h,List.length_append]
      simp [h2]
    · rw [hw]
      rw [eg] at h
      refine ⟨⟨by dsimp only; omega,by dsimp only; omega,?_⟩,by dsimp only; omega⟩
      show c=(((l.take (n+1).toNat).filter (N19 p)).length:Int)
      rw [et,if_neg (by rw [h]; simp),List.append_nil]
      exact h2
  · refine ⟨c_true (fun h=>absurd h (by simpa using hc)) fun _=>rfl,c_ind (fun h=>absurd h (by simpa using hc)) fun _ => ?_⟩
    show c=((l.filter (N19 p)).length:Int)
    rw [List.take_of_length_le (by omega)] at h2
    exact h2
omit hp in
theorem mv_eqB {a b:Mv} (h:(a.frm==b.frm&&(a.to==b.to&&(a.pro==b.pro&&(a.drp==b.drp&&(a.cas==b.cas&&true)))))=true):a=b:=by
  simp only [Bool.and_true,Bool.and_eq_true,beq_iff_eq] at h
  obtain ⟨h1,h2,h3,h4,h5⟩:=h
  cases a; cases b
  simp_all
omit hp in
theorem lp5b (l:List Mv) (hl:l.length≤1000000) (hn:l.Pairwise (·≠·)) (c:Int) (i:Int) (hi:0≤i) (hi2:i < l.length):∃ r,lp5_2 l c i p 0=some r∧isL r=false:=by
  refine lp_many (I:=fun x=>0≤x∧x≤i) (μ:=fun x=>(i - x).toNat) ?_ _ ⟨by simp,hi⟩ (by simp; omega)
  rintro n ⟨h0,h1⟩
  by_cases hc:n < i
  · have hlt:n.toNat < l.length:=by omega
    have hlti:i.toNat < l.length:=by omega
    have hw:wr .i64 (n+1)=n+1:=wi64 (by omega) (by omega)
    refine ⟨c_true (fun _=>a_true (by simp [h0]; omega) fun _=>a_true (by simp [hi]; exact hi2) fun _=>rfl) fun _=>rfl,c_ind (fun _ => ?_) fun h=>absurd h (by simpa using hc)⟩
    refine c_ind (fun h => ?_) fun _ => ?_
    · exfalso
      have h:=mv_eqB (show _=true from h)
      have e1:l.getD n.toNat default=l[n.toNat]:=by rw [List.getD_eq_getElem?_getD,List.getElem?_eq_getElem hlt]; rfl
      have e2:l.getD i.toNat default=l[i.toNat]:=by rw [List.getD_eq_getElem?_getD,List.getElem?_eq_getElem hlti]; rfl
      rw [e1,e2] at h
      exact List.pairwise_iff_getElem.1 hn n.toNat i.toNat hlt hlti (by omega) h
    · rw [hw]
      exact ⟨⟨by omega,by omega⟩,by dsimp only; omega⟩
  · exact ⟨c_true (fun h=>absurd h (by simpa using hc)) fun _=>rfl,c_ind (fun h=>absurd h (by simpa using hc)) fun _=>rfl⟩
theorem lp5c (l:List Mv) (hl:l.length≤1000000) (hn:l.Pairwise (·≠·)) (hm:∀ m ∈ l,m ∈ N18 p∧N19 p m=true) (c:Int):∃ r,lp5_3 l c p 0=some r∧isL r=false:=by
  refine lp_many (I:=fun x=>0≤x∧x≤(l.length:Int)) (μ:=fun x=>((l.length:Int) - x).toNat) ?_ _ ⟨by simp,by simp⟩ (by simp; omega)
  rintro n ⟨h0,h1⟩
  by_cases hc:n < l.length
  · have hlt:n.toNat < l.length:=by omega
    have hw:wr .i64 (n+1)=n+1:=wi64 (by omega) (by omega)
    have hg:=hm _ (getD_mem (d:=default) hlt)
    have k1:N20 p (l.getD n.toNat default)=true:=by rw [N20_eq hp]; exact decide_eq_true hg.1
    have k2:=hg.2
    have k3:=of_some (lp5b (p:=p) l hl hn c n h0 hc)
    have b1:(decide (0≤n)&&decide (n < Int.ofNat l.length))=true:=by simp [h0]; exact hc
    refine ⟨c_true (fun _=>a_true b1 fun _=>a_true (t20 hp _) fun _=>c_true (fun _=>rfl) fun _=>a_true b1 fun _=>a_true (t19 hp.v0 _) fun _=>c_true (fun _=>rfl) fun _=>a_true k3.1 fun _=>c_true (fun _=>rfl) fun _=>rfl) fun _=>rfl,c_ind (fun _ => ?_) fun h=>absurd h (by simpa using hc)⟩
    refine c_ind (fun h=>by rw [k1] at h; cases h) fun _=>c_ind (fun h=>by rw [k2] at h; cases h) fun _=>c_ind (fun h=>by rw [k3.2] at h; cases h) fun _ => ?_
    rw [hw]
    exact ⟨⟨by omega,by omega⟩,by dsimp only; omega⟩
  · exact ⟨c_true (fun h=>absurd h (by simpa using hc)) fun _=>rfl,c_ind (fun h=>absurd h (by simpa using hc)) fun _=>rfl⟩
theorem N5_true:ok5 p=true∧N5 p=true:=by
  have hl:=takes_len hp
  have h18:=N18_len hp
  have a:=of_some (lp5a hp (takesL p) (N18 p) (by omega))
  have c:=of_some (lp5c hp (takesL p) (by omega) (takes_nd hp) hl.2 ((lp5_1 (takesL p) (N18 p) p (0,0)).getD default).fst)
  unfold ok5 N5
  rw [N16_eq]
  refine ⟨a_true (ok16_iff.2 hp) fun _=>a_true (t18 hp) fun _=>a_true a.1 fun _=>a_true c.1 fun _=>c_true (fun _=>rfl) fun _=>a_true (t11 hp) fun _=>rfl,?_⟩
  rw [c.2,cond_false]
  refine c_ind (P:=fun b:Bool=>b=true) (fun h => ?_) fun h => ?_
  · have e:takesL p=[]:=by unfold takesL; rw [h]; rfl
    rw [e]
    rfl
  · have e:(takesL p).length=((N18 p).filter (N19 p)).length:=by unfold takesL; rw [h]; exact Go.Proofs.srt_len p _
    refine c_ind (P:=fun b:Bool=>b=true) (fun _=>rfl) fun h2 => ?_
    exfalso
    rw [a.2,e] at h2
    simp at h2
end
end Kz
end
section
namespace Kz
open Go Go.RowKit Go.Proofs
set_option maxRecDepth 100000
set_option maxHeartbeats 4000000
noncomputable def K10:List (Nat×Nat×List (Nat×List Nat)):=[(10,11,[(0,[1]),(1,[2])])]
noncomputable def B10:Base:=baseOf Pz (fun f i=>lkC f i K10) [] [] []
theorem hB10:BOk B10:=base_ok named_z trivial trivial trivial
noncomputable def N10 (a:Pos):Bool:=(bif decide (a.variant < 9) then (decide (a.turn < 2)) else (false))
noncomputable def ok10 (a:Pos):Bool:=true
theorem P10 (a:Pos) (h:ok10 a=true):PS Pz 10 [Pos.av a] (dB.res (N10 a)):=ps_sum (n:=14) hB10 (by kernel_rfl) (by kernel_rfl) (by kernel_rfl) h
noncomputable def G10:List AV→Tr AV:=g1 dPos (fun a=>.ret (dB.res (N10 a)))
theorem s10:Sound Pz 10 G10:=sound1 fun a=>at_rt (P10 a rfl)
noncomputable def K25:List (Nat×Nat×List (Nat×List Nat)):=[(25,11,[(0,[1,7,8,9]),(1,[2])])]
noncomputable def B25:Base:=baseOf Pz (fun f i=>lkC f i K25) [] [] []
theorem hB25:BOk B25:=base_ok named_z trivial trivial trivial
noncomputable def N25 (a:Pos):Bool:=(bif decide (a.variant < 9) then (decide (a.turn < 2)) else (false))
noncomputable def ok25 (a:Pos):Bool:=true
theorem P25 (a:Pos) (h:ok25 a=true):PS Pz 25 [Pos.av a] (dB.res (N25 a)):=ps_sum (n:=14) hB25 (by kernel_rfl) (by kernel_rfl) (by kernel_rfl) h
noncomputable def G25:List AV→Tr AV:=g1 dPos (fun a=>.ret (dB.res (N25 a)))
theorem s25:Sound Pz 25 G25:=sound1 fun a=>at_rt (P25 a rfl)
noncomputable def K57:List (Nat×Nat×List (Nat×List Nat)):=[(57,17,[(0,[0,6,7,8,11,12,13]),(1,[0,14]),(2,[2]),(3,[2])])]
noncomputable def B57:Base:=baseOf Pz (fun f i=>lkC f i K57) [] [] []
theorem hB57:BOk B57:=base_ok named_z trivial trivial trivial
noncomputable def N57 (a:Int):Int:=(bif decide (a > 15) then (0) else (bif decide (a.tmod 8 < 1) then (0) else (bif decide (a.tmod 8 > 6) then (0) else (a.tmod 8))))
noncomputable def ok57 (a:Int):Bool:=true
theorem P57 (a:Int) (h:ok57 a=true):PS Pz 57 [.int .u8 a] ((dI .u8).res (N57 a)):=ps_sum (n:=14) hB57 (by kernel_rfl) (by kernel_rfl) (by kernel_rfl) h
noncomputable def G57:List AV→Tr AV:=g1 (dI .u8) (fun a=>.ret ((dI .u8).res (N57 a)))
theorem s57:Sound Pz 57 G57:=sound1 fun a=>at_rt (P57 a rfl)
noncomputable def K61:List (Nat×Nat×List (Nat×List Nat)):=[(61,11,[(0,[1,2]),(1,[4])])]
noncomputable def B61:Base:=baseOf Pz (fun f i=>lkC f i K61) [(57,G57)] [] []
theorem hB61:BOk B61:=base_ok named_z ⟨s57,trivial⟩ trivial trivial
noncomputable def N61 (a:Pos) (b:Int):Bool:=(N57 (a.board.getD (scale 1 b).toNat 0)==0)
noncomputable def ok61 (a:Pos) (b:Int):Bool:=(decide (0≤b)&&decide (b < ↑64)&&true)
theorem P61 (a:Pos) (b:Int) (h:ok61 a b=true):PS Pz 61 [Pos.av a,.int .i64 b] (dB.res (N61 a b)):=ps_sum (n:=14) hB61 (by kernel_rfl) (by kernel_rfl) (by kernel_rfl) h
noncomputable def G61:List AV→Tr AV:=g2 dPos (dI .i64) (fun a b=>gdv (ok61 a b) (dB.res (N61 a b)))
theorem s61:Sound Pz 61 G61:=sound2 fun a b=>at_gd (P61 a b)
noncomputable def K162:List (Nat×Nat×List (Nat×List Nat)):=[(162,5,[(0,[0]),(1,[2])])]
noncomputable def B162:Base:=baseOf Pz (fun f i=>lkC f i K162) [] [] []
theorem hB162:BOk B162:=base_ok named_z trivial trivial trivial
noncomputable def N162 (a:Int):Int:=(wr .u8 (a.tdiv 8))
noncomputable def ok162 (a:Int):Bool:=true
theorem P162 (a:Int) (h:ok162 a=true):PS Pz 162 [.int .u8 a] ((dI .u8).res (N162 a)):=ps_sum (n:=14) hB162 (by kernel_rfl) (by kernel_rfl) (by kernel_rfl) h
noncomputable def G162:List AV→Tr AV:=g1 (dI .u8) (fun a=>.ret ((dI .u8).res (N162 a)))
theorem s162:Sound Pz 162 G162:=sound1 fun a=>at_rt (P162 a rfl)
noncomputable def K114:List (Nat×Nat×List (Nat×List Nat)):=[(114,20,[(0,(1::2::3::(rn 12 7 []))),(1,[6])])]
noncomputable def B114:Base:=baseOf Pz (fun f i=>lkC f i K114) [(162,G162),(61,G61)] [] []
theorem hB114:BOk B114:=base_ok named_z ⟨s162,s61,trivial⟩ trivial trivial
noncomputable def N114 (a:Pos) (b:Int) (c:Int):Bool:=(bif !N61 (Pos.mk a.variant a.board a.promoted a.pockets a.turn a.rooks a.passing a.checks a.half a.full) b then (N162 (a.board.getD (scale 1 b).toNat 0)==c) else (false))
noncomputable def ok114 (a:Pos) (b:Int) (c:Int):Bool:=(ok61 (Pos.mk a.variant a.board a.promoted a.pockets a.turn a.rooks a.passing a.checks a.half a.full) (b)&&(bif !N61 (Pos.mk a.variant a.board a.promoted a.pockets a.turn a.rooks a.passing a.checks a.half a.full) b then (decide (0≤b)&&decide (b < ↑64)&&true) else true))
theorem P114 (a:Pos) (b:Int) (c:Int) (h:ok114 a b c=true):PS Pz 114 [Pos.av a,.int .i64 b,.int .u8 c] (dB.res (N114 a b c)):=ps_sum (n:=14) hB114 (by kernel_rfl) (by kernel_rfl) (by kernel_rfl) h
noncomputable def G114:List AV→Tr AV:=g3 dPos (dI .i64) (dI .u8) (fun a b c=>gdv (ok114 a b c) (dB.res (N114 a b c)))
theorem s114:Sound Pz 114 G114:=sound3 fun a b c=>at_gd (P114 a b c)
noncomputable def K58:List (Nat×Nat×List (Nat×List Nat)):=[(58,12,[(0,[0,1]),(1,[1,6]),(2,[4]),(3,[4])])]
noncomputable def B58:Base:=baseOf Pz (fun f i=>lkC f i K58) [] [] []
theorem hB58:BOk B58:=base_ok named_z trivial trivial trivial
noncomputable def N58 (a:Int) (b:Int):Int:=(bif a==0 then (wr .i64 (b.tdiv 8)) else (wr .i64 (7 - wr .i64 (b.tdiv 8))))
noncomputable def ok58 (a:Int) (b:Int):Bool:=true
theorem P58 (a:Int) (b:Int) (h:ok58 a b=true):PS Pz 58 [.int .u8 a,.int .i64 b] ((dI .i64).res (N58 a b)):=ps_sum (n:=14) hB58 (by kernel_rfl) (by kernel_rfl) (by kernel_rfl) h
noncomputable def G58:List AV→Tr AV:=g2 (dI .u8) (dI .i64) (fun a b=>.ret ((dI .i64).res (N58 a b)))
theorem s58:Sound Pz 58 G58:=sound2 fun a b=>at_rt (P58 a b rfl)
noncomputable def K62:List (Nat×Nat×List (Nat×List Nat)):=[(62,5,[(0,[0]),(1,[4]),(2,[2]),(3,[2])])]
noncomputable def B62:Base:=baseOf Pz (fun f i=>lkC f i K62) [] [] []
theorem hB62:BOk B62:=base_ok named_z trivial trivial trivial
noncomputable def N62 (a:Int):Int:=(bif a==0 then (8) else (-8))
noncomputable def ok62 (a:Int):Bool:=true
theorem P62 (a:Int) (h:ok62 a=true):PS Pz 62 [.int .u8 a] ((dI .i64).res (N62 a)):=ps_sum (n:=14) hB62 (by kernel_rfl) (by kernel_rfl) (by kernel_rfl) h
noncomputable def G62:List AV→Tr AV:=g1 (dI .u8) (fun a=>.ret ((dI .i64).res (N62 a)))
theorem s62:Sound Pz 62 G62:=sound1 fun a=>at_rt (P62 a rfl)
noncomputable def K163:List (Nat×Nat×List (Nat×List Nat)):=[(163,8,[(0,[0]),(1,[0,4]),(2,[2]),(3,[2])])]
noncomputable def B163:Base:=baseOf Pz (fun f i=>lkC f i K163) [] [] []
theorem hB163:BOk B163:=base_ok named_z trivial trivial trivial
noncomputable def N163 (a:Int):Int:=(bif decide (a < 0) then (wr .i64 (0 - a)) else (a))
noncomputable def ok163 (a:Int):Bool:=true
theorem P163 (a:Int) (h:ok163 a=true):PS Pz 163 [.int .i64 a] ((dI .i64).res (N163 a)):=ps_sum (n:=14) hB163 (by kernel_rfl) (by kernel_rfl) (by kernel_rfl) h
noncomputable def G163:List AV→Tr AV:=g1 (dI .i64) (fun a=>.ret ((dI .i64).res (N163 a)))
theorem s163:Sound Pz 163 G163:=sound1 fun a=>at_rt (P163 a rfl)
noncomputable def K164:List (Nat×Nat×List (Nat×List Nat)):=[(164,26,[(0,(0::1::(rn 9 7 (rn 18 7 [])))),(1,[4])])]
noncomputable def B164:Base:=baseOf Pz (fun f i=>lkC f i K164) [(163,G163)] [] []
theorem hB164:BOk B164:=base_ok named_z ⟨s163,trivial⟩ trivial trivial
noncomputable def N164 (a:Int) (b:Int):Bool:=(bif a != b then (bif decide (N163 (wr .i64 (wr .i64 (a.tdiv 8) - wr .i64 (b.tdiv 8)))≤1) then (decide (N163 (wr .i64 (a.tmod 8 - b.tmod 8))≤1)) else (false)) else (false))
noncomputable def ok164 (a:Int) (b:Int):Bool:=true
theorem P164 (a:Int) (b:Int) (h:ok164 a b=true):PS Pz 164 [.int .i64 a,.int .i64 b] (dB.res (N164 a b)):=ps_sum (n:=14) hB164 (by kernel_rfl) (by kernel_rfl) (by kernel_rfl) h
noncomputable def G164:List AV→Tr AV:=g2 (dI .i64) (dI .i64) (fun a b=>.ret (dB.res (N164 a b)))
theorem s164:Sound Pz 164 G164:=sound2 fun a b=>at_rt (P164 a b rfl)
noncomputable def K193:List (Nat×Nat×List (Nat×List Nat)):=[(193,7,[(0,[0]),(1,[0,4]),(2,[2]),(3,[6]),(4,[2]),(5,[2])])]
noncomputable def B193:Base:=baseOf Pz (fun f i=>lkC f i K193) [] [] []
theorem hB193:BOk B193:=base_ok named_z trivial trivial trivial
noncomputable def N193 (a:Int):Int:=(bif decide (a < 0) then (-1) else (bif decide (a > 0) then (1) else (0)))
noncomputable def ok193 (a:Int):Bool:=true
theorem P193 (a:Int) (h:ok193 a=true):PS Pz 193 [.int .i64 a] ((dI .i64).res (N193 a)):=ps_sum (n:=14) hB193 (by kernel_rfl) (by kernel_rfl) (by kernel_rfl) h
noncomputable def G193:List AV→Tr AV:=g1 (dI .i64) (fun a=>.ret ((dI .i64).res (N193 a)))
theorem s193:Sound Pz 193 G193:=sound1 fun a=>at_rt (P193 a rfl)
noncomputable def K165:List (Nat×Nat×List (Nat×List Nat)):=[(165,38,[(0,[1,2,3]),(1,[1,2,3,7]),(2,[2,3,7,8]),(3,[2,3,7,8,28]),(4,[2,3,7,8]),(5,[2,3,7,8,37]),(6,[6]),(7,[6])])]
noncomputable def B165_1:Base:=baseOf Pz (fun f i=>lkC f i K165) [(57,G57),(193,G193)] [] []
theorem hB165_1:BOk B165_1:=base_ok named_z ⟨s57,s193,trivial⟩ trivial trivial
noncomputable def S165_1 (p1:Int) (p2:Int) (p3:Pos) (x:(Int)):St:=St.mk (AV.any::AV.any::AV.int .i64 p1::AV.ptr 0 0::(an 3 (AV.int .i64 p2::AV.int .i64 x::(an 29 [])))) (Hp.mk [(pc p3 [])] [] [] 0 0 0)
noncomputable def O165_1 (p1:Int) (p2:Int) (p3:Pos):Unit ⊕ (Int×Bool)→Out
  | (.inl (y))=>.ret (St.mk (an 6 (AV.cbool false::(an 31 []))) (Hp.mk [(pc p3 [])] [] [] 0 0 0))
  | (.inr (y))=>.exit 0 (St.mk (AV.any::AV.any::AV.int .i64 p1::AV.ptr 0 0::(an 3 (AV.int .i64 p2::AV.int .i64 y.fst::(an 19 (AV.bool y.snd::(an 9 [])))))) (Hp.mk [(pc p3 [])] [] [] 0 0 0))
noncomputable def st165_1 (p1:Int) (p2:Int) (p3:Pos) (x:(Int)):Stp (Int) (Unit ⊕ (Int×Bool)):=(bif x != p1 then (bif N57 (p3.board.getD (scale 1 x).toNat 0) != 0 then (Stp.out (.inl (()))) else (Stp.go (wr .i64 (x+p2)))) else (Stp.out (.inr ((x,x != p1)))))
noncomputable def okL165_1 (p1:Int) (p2:Int) (p3:Pos) (x:(Int)):Bool:=(bif x != p1 then (decide (0≤x)&&decide (x < ↑64)&&true) else true)
noncomputable def lp165_1 (p1:Int) (p2:Int) (p3:Pos) (x:(Int)):Option (Unit ⊕ (Int×Bool)):=itl (fun x=>bif okL165_1 p1 p2 p3 x then st165_1 p1 p2 p3 x else .bad) many x
abbrev D165_1 {α:Type} (k:Int→Int→Pos→(Int)→α) (s:St):α:=wP s 0 fun q0=>k (tI (tT s 2)) (tI (tT s 7)) q0 ((tI (tT s 8)))
theorem L165_1 (p1:Int) (p2:Int) (p3:Pos) (x:(Int)) (r:Unit ⊕ (Int×Bool)) (h:lp165_1 p1 p2 p3 x=some r):LSpec Pz (bodL Pz 165 3) (S165_1 p1 p2 p3 x) (O165_1 p1 p2 p3 r):=LSpec.smd (m:=12) (fn:=165) hB165_1 (D165_1 fun _ _ _ x=>some x) (fun o=>match o with | .ret s=>some (.inl ()) | .exit 0 s=>some (.inr ((tI (tT s 8)),(tB (tT s 28)))) | _=>none) (fun r=>by cases r <;> rfl) (fun _=>by kernel_rfl) (fun _=>by kernel_rfl) (fun _=>by kernel_rfl) (fun _=>by kernel_rfl) many x r h
noncomputable def F165_1 (b:Code) (s:St):Tr Out:=D165_1 (fun p1 p2 p3 x=>lk2 b (bodL Pz 165 3) s (S165_1 p1 p2 p3 x) (lp165_1 p1 p2 p3 x) (O165_1 p1 p2 p3)) s
theorem sF165_1:∀ b,LSound Pz b (F165_1 b):=fun _ _ _ h=>lk2_ok (L165_1 _ _ _ _) h
noncomputable def B165:Base:=baseOf Pz (fun f i=>lkC f i K165) [(57,G57),(193,G193)] [(165,3,F165_1)] []
theorem hB165:BOk B165:=base_ok named_z ⟨s57,s193,trivial⟩ ⟨sF165_1,trivial⟩ trivial
noncomputable def N165 (a:Pos) (b:Int) (c:Int):Bool:=(bif isL ((lp165_1 c (wr .i64 (wr .i64 (8 * N193 (wr .i64 (wr .i64 (c.tdiv 8) - wr .i64 (b.tdiv 8))))+N193 (wr .i64 (c.tmod 8 - b.tmod 8)))) (Pos.mk a.variant a.board a.promoted a.pockets a.turn a.rooks a.passing a.checks a.half a.full) (wr .i64 (b+wr .i64 (wr .i64 (8 * N193 (wr .i64 (wr .i64 (c.tdiv 8) - wr .i64 (b.tdiv 8))))+N193 (wr .i64 (c.tmod 8 - b.tmod 8)))))).getD default) then (false) else (true))
noncomputable def ok165 (a:Pos) (b:Int) (c:Int):Bool:=((lp165_1 c (wr .i64 (wr .i64 (8 * N193 (wr .i64 (wr .i64 (c.tdiv 8) - wr .i64 (b.tdiv 8))))+N193 (wr .i64 (c.tmod 8 - b.tmod 8)))) (Pos.mk a.variant a.board a.promoted a.pockets a.turn a.rooks a.passing a.checks a.half a.full) (wr .i64 (b+wr .i64 (wr .i64 (8 * N193 (wr .i64 (wr .i64 (c.tdiv 8) - wr .i64 (b.tdiv 8))))+N193 (wr .i64 (c.tmod 8 - b.tmod 8)))))).isSome&&bif isL ((lp165_1 c (wr .i64 (wr .i64 (8 * N193 (wr .i64 (wr .i64 (c.tdiv 8) - wr .i64 (b.tdiv 8))))+N193 (wr .i64 (c.tmod 8 - b.tmod 8)))) (Pos.mk a.variant a.board a.promoted a.pockets a.turn a.rooks a.passing a.checks a.half a.full) (wr .i64 (b+wr .i64 (wr .i64 (8 * N193 (wr .i64 (wr .i64 (c.tdiv 8) - wr .i64 (b.tdiv 8))))+N193 (wr .i64 (c.tmod 8 - b.tmod 8)))))).getD default) then true else true)
theorem P165 (a:Pos) (b:Int) (c:Int) (h:ok165 a b c=true):PS Pz 165 [Pos.av a,.int .i64 b,.int .i64 c] (dB.res (N165 a b c)):=ps_sum (n:=14) hB165 (by kernel_rfl) (by kernel_rfl) (by kernel_rfl) h
noncomputable def G165:List AV→Tr AV:=g3 dPos (dI .i64) (dI .i64) (fun a b c=>gdv (ok165 a b c) (dB.res (N165 a b c)))
theorem s165:Sound Pz 165 G165:=sound3 fun a b c=>at_gd (P165 a b c)
noncomputable def K116:List (Nat×Nat×List (Nat×List Nat)):=[(116,112,[(0,(1::2::3::37::38::50::51::56::57::65::66::(rn 69 7 (rn 86 4 (rn 95 4 (104::(rn 107 4 []))))))),(1,(1::2::3::7::37::38::50::51::56::57::65::66::(rn 69 7 (rn 86 4 (rn 95 4 (104::(rn 107 4 []))))))),(2,(1::2::3::7::8::9::37::38::50::51::56::57::65::66::(rn 69 7 (rn 86 4 (rn 95 4 (104::(rn 107 4 []))))))),(3,(1::2::3::(rn 7 4 (37::38::50::51::56::57::65::66::(rn 69 7 (rn 86 4 (rn 95 4 (104::(rn 107 4 []))))))))),(4,(1::2::3::(rn 7 5 (50::51::56::57::65::66::(rn 69 7 (rn 86 4 (rn 95 4 (104::(rn 107 4 []))))))))),(5,(1::2::3::(rn 7 5 (41::50::51::56::57::65::66::(rn 69 7 (rn 86 4 (rn 95 4 (104::(rn 107 4 []))))))))),(6,(1::2::3::(rn 7 5 (41::42::50::51::56::57::65::66::(rn 69 7 (rn 86 4 (rn 95 4 (104::(rn 107 4 []))))))))),(7,[8,9,46,50,51,56,57]),(8,[6]),(9,[6]),(10,(1::2::3::(rn 8 4 (41::59::65::66::(rn 69 7 (rn 86 4 (rn 95 4 (104::(rn 107 4 []))))))))),(11,[6]),(12,(1::2::3::10::11::41::77::(rn 86 4 (rn 95 4 (104::(rn 107 4 [])))))),(13,[6]),(14,(1::2::3::10::11::41::82::(rn 86 4 (rn 95 4 (104::(rn 107 4 [])))))),(15,[6]),(16,(1::2::3::10::11::41::91::(rn 95 4 (104::(rn 107 4 []))))),(17,[6]),(18,(1::2::3::10::11::100::104::(rn 107 4 []))),(19,[6]),(20,[6])])]
noncomputable def B116:Base:=baseOf Pz (fun f i=>lkC f i K116) [(57,G57),(162,G162),(164,G164),(163,G163),(165,G165)] [] []
theorem hB116:BOk B116:=base_ok named_z ⟨s57,s162,s164,s163,s165,trivial⟩ trivial trivial
noncomputable def N116 (a:Pos) (b:Int) (c:Int):Bool:=(bif N163 (wr .i64 (wr .i64 (c.tdiv 8) - wr .i64 (b.tdiv 8)))==N163 (wr .i64 (c.tmod 8 - b.tmod 8)) then (bif N57 (a.board.getD (scale 1 b).toNat 0)==1 then (bif N162 (a.board.getD (scale 1 b).toNat 0)==0 then (bif wr .i64 (wr .i64 (c.tdiv 8) - wr .i64 (b.tdiv 8))==1 then (N163 (wr .i64 (c.tmod 8 - b.tmod 8))==1) else (false)) else (bif wr .i64 (wr .i64 (c.tdiv 8) - wr .i64 (b.tdiv 8)) == -1 then (N163 (wr .i64 (c.tmod 8 - b.tmod 8))==1) else (false))) else (bif N57 (a.board.getD (scale 1 b).toNat 0)==2 then (bif N163 (wr .i64 (wr .i64 (c.tdiv 8) - wr .i64 (b.tdiv 8)))==1 then (bif N163 (wr .i64 (c.tmod 8 - b.tmod 8))==2 then (true) else (bif N163 (wr .i64 (wr .i64 (c.tdiv 8) - wr .i64 (b.tdiv 8)))==2 then (N163 (wr .i64 (c.tmod 8 - b.tmod 8))==1) else (false))) else (bif N163 (wr .i64 (wr .i64 (c.tdiv 8) - wr .i64 (b.tdiv 8)))==2 then (N163 (wr .i64 (c.tmod 8 - b.tmod 8))==1) else (false))) else (bif N57 (a.board.getD (scale 1 b).toNat 0)==6 then (N164 b c) else (bif N57 (a.board.getD (scale 1 b).toNat 0)==4 then (bif eqOut BinOp.neq ((wr .i64 (wr .i64 (c.tdiv 8) - wr .i64 (b.tdiv 8))==0)==(N163 (wr .i64 (c.tmod 8 - b.tmod 8))==0)) then (N165 a b c) else (false)) else (bif N57 (a.board.getD (scale 1 b).toNat 0)==3 then (bif decide (N163 (wr .i64 (c.tmod 8 - b.tmod 8)) > 0) then (N165 a b c) else (false)) else (bif N57 (a.board.getD (scale 1 b).toNat 0)==5 then (bif eqOut BinOp.neq ((wr .i64 (wr .i64 (c.tdiv 8) - wr .i64 (b.tdiv 8))==0)==(N163 (wr .i64 (c.tmod 8 - b.tmod 8))==0)) then (N165 a b c) else (bif decide (N163 (wr .i64 (c.tmod 8 - b.tmod 8)) > 0) then (N165 a b c) else (false))) else (false))))))) else (bif N57 (a.board.getD (scale 1 b).toNat 0)==1 then (bif N162 (a.board.getD (scale 1 b).toNat 0)==0 then (bif wr .i64 (wr .i64 (c.tdiv 8) - wr .i64 (b.tdiv 8))==1 then (N163 (wr .i64 (c.tmod 8 - b.tmod 8))==1) else (false)) else (bif wr .i64 (wr .i64 (c.tdiv 8) - wr .i64 (b.tdiv 8)) == -1 then (N163 (wr .i64 (c.tmod 8 - b.tmod 8))==1) else (false))) else (bif N57 (a.board.getD (scale 1 b).toNat 0)==2 then (bif N163 (wr .i64 (wr .i64 (c.tdiv 8) - wr .i64 (b.tdiv 8)))==1 then (bif N163 (wr .i64 (c.tmod 8 - b.tmod 8))==2 then (true) else (bif N163 (wr .i64 (wr .i64 (c.tdiv 8) - wr .i64 (b.tdiv 8)))==2 then (N163 (wr .i64 (c.tmod 8 - b.tmod 8))==1) else (false))) else (bif N163 (wr .i64 (wr .i64 (c.tdiv 8) - wr .i64 (b.tdiv 8)))==2 then (N163 (wr .i64 (c.tmod 8 - b.tmod 8))==1) else (false))) else (bif N57 (a.board.getD (scale 1 b).toNat 0)==6 then (N164 b c) else (bif N57 (a.board.getD (scale 1 b).toNat 0)==4 then (bif eqOut BinOp.neq ((wr .i64 (wr .i64 (c.tdiv 8) - wr .i64 (b.tdiv 8))==0)==(N163 (wr .i64 (c.tmod 8 - b.tmod 8))==0)) then (N165 a b c) else (false)) else (bif N57 (a.board.getD (scale 1 b).toNat 0)==3 then (false) else (bif N57 (a.board.getD (scale 1 b).toNat 0)==5 then (bif eqOut BinOp.neq ((wr .i64 (wr .i64 (c.tdiv 8) - wr .i64 (b.tdiv 8))==0)==(N163 (wr .i64 (c.tmod 8 - b.tmod 8))==0)) then (N165 a b c) else (false)) else (false))))))))
noncomputable def ok116 (a:Pos) (b:Int) (c:Int):Bool:=(decide (0≤b)&&decide (b < Int.ofNat 64)&&(bif N163 (wr .i64 (wr .i64 (c.tdiv 8) - wr .i64 (b.tdiv 8)))==N163 (wr .i64 (c.tmod 8 - b.tmod 8)) then (bif N57 (a.board.getD (scale 1 b).toNat 0)==1 then true else (bif N57 (a.board.getD (scale 1 b).toNat 0)==2 then true else (bif N57 (a.board.getD (scale 1 b).toNat 0)==6 then true else (bif N57 (a.board.getD (scale 1 b).toNat 0)==4 then (bif eqOut BinOp.neq ((wr .i64 (wr .i64 (c.tdiv 8) - wr .i64 (b.tdiv 8))==0)==(N163 (wr .i64 (c.tmod 8 - b.tmod 8))==0)) then (ok165 (a) (b) (c)&&true) else true) else (bif N57 (a.board.getD (scale 1 b).toNat 0)==3 then (bif decide (N163 (wr .i64 (c.tmod 8 - b.tmod 8)) > 0) then (ok165 (a) (b) (c)&&true) else true) else (bif N57 (a.board.getD (scale 1 b).toNat 0)==5 then (bif eqOut BinOp.neq ((wr .i64 (wr .i64 (c.tdiv 8) - wr .i64 (b.tdiv 8))==0)==(N163 (wr .i64 (c.tmod 8 - b.tmod 8))==0)) then (ok165 (a) (b) (c)&&true) else (bif decide (N163 (wr .i64 (c.tmod 8 - b.tmod 8)) > 0) then (ok165 (a) (b) (c)&&true) else true)) else true)))))) else (bif N57 (a.board.getD (scale 1 b).toNat 0)==1 then true else (bif N57 (a.board.getD (scale 1 b).toNat 0)==2 then true else (bif N57 (a.board.getD (scale 1 b).toNat 0)==6 then true else (bif N57 (a.board.getD (scale 1 b).toNat 0)==4 then (bif eqOut BinOp.neq ((wr .i64 (wr .i64 (c.tdiv 8) - wr .i64 (b.tdiv 8))==0)==(N163 (wr .i64 (c.tmod 8 - b.tmod 8))==0)) then (ok165 (a) (b) (c)&&true) else true) else (bif N57 (a.board.getD (scale 1 b).toNat 0)==3 then true else (bif N57 (a.board.getD (scale 1 b).toNat 0)==5 then (bif eqOut BinOp.neq ((wr .i64 (wr .i64 (c.tdiv 8) - wr .i64 (b.tdiv 8))==0)==(N163 (wr .i64 (c.tmod 8 - b.tmod 8))==0)) then (ok165 (a) (b) (c)&&true) else true) else true))))))))
theorem P116 (a:Pos) (b:Int) (c:Int) (h:ok116 a b c=true):PS Pz 116 [Pos.av a,.int .i64 b,.int .i64 c] (dB.res (N116 a b c)):=ps_sum (n:=14) hB116 (by kernel_rfl) (by kernel_rfl) (by kernel_rfl) h
noncomputable def G116:List AV→Tr AV:=g3 dPos (dI .i64) (dI .i64) (fun a b c=>gdv (ok116 a b c) (dB.res (N116 a b c)))
theorem s116:Sound Pz 116 G116:=sound3 fun a b c=>at_gd (P116 a b c)
noncomputable def K115:List (Nat×Nat×List (Nat×List Nat)):=[(115,79,[(0,(1::2::3::(rn 24 5 (rn 45 12 (65::(rn 68 5 [75,76,77])))))),(1,(1::2::3::7::(rn 24 5 (rn 45 12 (65::(rn 68 5 [75,76,77])))))),(2,(1::2::3::7::16::(rn 24 5 (rn 45 12 (65::(rn 68 5 [75,76,77])))))),(3,[6]),(4,(1::2::3::7::34::(rn 45 12 (65::(rn 68 5 [75,76,77]))))),(5,[6]),(6,(1::2::3::7::8::(rn 45 12 (65::(rn 68 5 [75,76,77]))))),(7,(1::2::3::7::9::65::(rn 68 5 [75,76,77]))),(8,[6])])]
noncomputable def B115:Base:=baseOf Pz (fun f i=>lkC f i K115) [(114,G114),(61,G61),(62,G62),(116,G116),(58,G58)] [] []
theorem hB115:BOk B115:=base_ok named_z ⟨s114,s61,s62,s116,s58,trivial⟩ trivial trivial
noncomputable def N115 (a:Pos) (b:Int) (c:Int):Bool:=(bif N116 a b c then (bif N114 a c (wr .u8 (1 - a.turn)) then (true) else (wr .i64 a.passing==c)) else (bif c==wr .i64 (b+N62 a.turn) then (N61 a c) else (bif N58 a.turn b==1 then (bif c==wr .i64 (b+wr .i64 (2 * N62 a.turn)) then (bif N61 a (wr .i64 (b+N62 a.turn)) then (N61 a c) else (false)) else (false)) else (bif N58 a.turn b==0 then (bif a.variant==7 then (bif c==wr .i64 (b+wr .i64 (2 * N62 a.turn)) then (bif a.turn==0 then (bif N61 a (wr .i64 (b+N62 a.turn)) then (N61 a c) else (false)) else (false)) else (false)) else (bif c==wr .i64 (b+wr .i64 (2 * N62 a.turn)) then (false) else (false))) else (bif c==wr .i64 (b+wr .i64 (2 * N62 a.turn)) then (false) else (false))))))
noncomputable def ok115 (a:Pos) (b:Int) (c:Int):Bool:=(ok116 (a) (b) (c)&&(bif N116 a b c then (ok114 (a) (c) (wr .u8 (1 - a.turn))&&true) else (bif c==wr .i64 (b+N62 a.turn) then (ok61 (a) (c)&&true) else (bif N58 a.turn b==1 then (bif c==wr .i64 (b+wr .i64 (2 * N62 a.turn)) then (ok61 (a) (wr .i64 (b+N62 a.turn))&&(bif N61 a (wr .i64 (b+N62 a.turn)) then (ok61 (a) (c)&&true) else true)) else true) else (bif N58 a.turn b==0 then (bif a.variant==7 then (bif c==wr .i64 (b+wr .i64 (2 * N62 a.turn)) then (bif a.turn==0 then (ok61 (a) (wr .i64 (b+N62 a.turn))&&(bif N61 a (wr .i64 (b+N62 a.turn)) then (ok61 (a) (c)&&true) else true)) else true) else true) else true) else true)))))
theorem P115 (a:Pos) (b:Int) (c:Int) (h:ok115 a b c=true):PS Pz 115 [Pos.av a,.int .i64 b,.int .i64 c] (dB.res (N115 a b c)):=ps_sum (n:=14) hB115 (by kernel_rfl) (by kernel_rfl) (by kernel_rfl) h
noncomputable def G115:List AV→Tr AV:=g3 dPos (dI .i64) (dI .i64) (fun a b c=>gdv (ok115 a b c) (dB.res (N115 a b c)))
theorem s115:Sound Pz 115 G115:=sound3 fun a b c=>at_gd (P115 a b c)
noncomputable def K56:List (Nat×Nat×List (Nat×List Nat)):=[(56,56,[(0,(1::2::3::(rn 11 6 (rn 19 5 (rn 43 8 []))))),(1,(1::2::3::24::(rn 43 8 []))),(2,[6]),(3,(1::2::3::29::(rn 43 8 []))),(4,(1::2::3::29::30::(rn 43 8 []))),(5,[6]),(6,(1::2::3::36::(rn 43 8 []))),(7,[6]),(8,[6])])]
noncomputable def B56:Base:=baseOf Pz (fun f i=>lkC f i K56) [(57,G57),(114,G114),(61,G61),(116,G116),(115,G115)] [] []
theorem hB56:BOk B56:=base_ok named_z ⟨s57,s114,s61,s116,s115,trivial⟩ trivial trivial
noncomputable def N56 (a:Pos) (b:Int) (c:Int):Bool:=(bif b==c then (false) else (bif !N114 a b a.turn then (false) else (bif N114 a c a.turn then (false) else (bif N57 (a.board.getD (scale 1 b).toNat 0)==1 then (N115 a b c) else (bif N57 (a.board.getD (scale 1 b).toNat 0)==6 then (bif N116 a b c then (bif a.variant != 3 then (true) else (N61 a c)) else (false)) else (N116 a b c))))))
noncomputable def ok56 (a:Pos) (b:Int) (c:Int):Bool:=(bif b==c then true else (ok114 (a) (b) (a.turn)&&(bif !N114 a b a.turn then true else (ok114 (a) (c) (a.turn)&&(bif N114 a c a.turn then true else (decide (0≤b)&&decide (b < Int.ofNat 64)&&(bif N57 (a.board.getD (scale 1 b).toNat 0)==1 then (ok115 (a) (b) (c)&&true) else (bif N57 (a.board.getD (scale 1 b).toNat 0)==6 then (ok116 (a) (b) (c)&&(bif N116 a b c then (bif a.variant != 3 then true else (ok61 (a) (c)&&true)) else true)) else (ok116 (a) (b) (c)&&true)))))))))
theorem P56 (a:Pos) (b:Int) (c:Int) (h:ok56 a b c=true):PS Pz 56 [Pos.av a,.int .i64 b,.int .i64 c] (dB.res (N56 a b c)):=ps_sum (n:=14) hB56 (by kernel_rfl) (by kernel_rfl) (by kernel_rfl) h
noncomputable def G56:List AV→Tr AV:=g3 dPos (dI .i64) (dI .i64) (fun a b c=>gdv (ok56 a b c) (dB.res (N56 a b c)))
theorem s56:Sound Pz 56 G56:=sound3 fun a b c=>at_gd (P56 a b c)
noncomputable def K59:List (Nat×Nat×List (Nat×List Nat)):=[(59,11,[(0,[0]),(1,[0,3]),(2,[2]),(3,[7]),(4,[2]),(5,[2])])]
noncomputable def B59:Base:=baseOf Pz (fun f i=>lkC f i K59) [] [] []
theorem hB59:BOk B59:=base_ok named_z trivial trivial trivial
noncomputable def N59 (a:Int):List Int:=(bif a==4 then [(2),(3),(4),(5),(6)] else (bif decide (a < 8) then [(2),(3),(4),(5)] else ([])))
noncomputable def ok59 (a:Int):Bool:=true
theorem P59 (a:Int) (h:ok59 a=true):PS Pz 59 [.int .u8 a] ((dL (.i .u8)).res (N59 a)):=ps_sum (n:=14) hB59 (by kernel_rfl) (by kernel_rfl) (by kernel_rfl) h
noncomputable def G59:List AV→Tr AV:=g1 (dI .u8) (fun a=>.ret ((dL (.i .u8)).res (N59 a)))
theorem s59:Sound Pz 59 G59:=sound1 fun a=>at_rt (P59 a rfl)
noncomputable def K26:List (Nat×Nat×List (Nat×List Nat)):=[(26,67,[(0,(1::(rn 38 5 []))),(1,(1::3::(rn 38 5 []))),(2,(1::3::11::(rn 38 5 []))),(3,[2]),(4,(1::3::4::(rn 38 5 []))),(5,(1::3::4::14::(rn 38 5 []))),(6,(1::3::4::(rn 38 5 []))),(7,(1::3::4::5::(rn 38 5 []))),(8,(1::3::4::5::18::(rn 38 5 []))),(9,(1::3::4::5::(rn 38 5 []))),(10,(1::3::4::5::25::(rn 38 5 []))),(11,(1::(rn 3 4 (rn 38 5 [])))),(12,(1::(rn 3 4 (rn 38 6 [])))),(13,(1::3::4::5::(rn 38 5 []))),(14,(1::(rn 3 5 (rn 38 5 [])))),(15,(1::(rn 3 6 (rn 38 5 [])))),(16,(1::(rn 3 6 (rn 38 5 [54])))),(17,(1::(rn 3 6 (rn 38 5 [])))),(18,(1::(rn 3 6 (rn 38 5 [])))),(19,(1::(rn 3 6 (rn 38 5 [])))),(20,[2])])]
noncomputable def B26_4:Base:=baseOf Pz (fun f i=>lkC f i K26) [(25,G25),(57,G57),(56,G56),(58,G58),(59,G59)] [] []
theorem hB26_4:BOk B26_4:=base_ok named_z ⟨s25,s57,s56,s58,s59,trivial⟩ trivial trivial
noncomputable def S26_4 (p1:Int) (p2:Int) (p3:(List Int)) (p4:Int) (p5:Int) (p6:Bool) (p7:Pos) (p8:Nat) (x:((List Mv)×Int×Mv)):St:=St.mk (AV.any::AV.ptr 0 0::AV.any::AV.list ET.mv x.fst (Tk.own 1)::AV.int .i64 p1::AV.int .i64 p2::AV.ptr 1 0::AV.list (ET.i .u8) p3 Tk.fresh::AV.int .i64 x.snd.fst::(an 29 (AV.ptr 0 78::AV.int .u8 p4::AV.int .i64 p2::AV.int .i64 p5::AV.bool p6::(an 24 [])))) (Hp.mk [(pc p7 []),[AV.int .i8 x.snd.snd.frm,AV.int .i8 x.snd.snd.to,AV.int .u8 x.snd.snd.pro,AV.int .u8 x.snd.snd.drp,AV.bool x.snd.snd.cas]] [p8,x.fst.length] [] 0 0 0)
noncomputable def O26_4 (p1:Int) (p2:Int) (p3:(List Int)) (p4:Int) (p5:Int) (p6:Bool) (p7:Pos) (p8:Nat):((List Mv)×Int×Bool×Mv)→Out:=fun y=>.exit 4 (St.mk (AV.any::AV.ptr 0 0::AV.any::AV.list ET.mv y.fst (Tk.own 1)::AV.int .i64 p1::AV.int .i64 p2::AV.ptr 1 0::AV.list (ET.i .u8) p3 Tk.fresh::AV.int .i64 y.snd.fst::(an 29 (AV.ptr 0 78::AV.int .u8 p4::AV.int .i64 p2::AV.int .i64 p5::AV.bool p6::(an 11 (AV.bool y.snd.snd.fst::(an 12 [])))))) (Hp.mk [(pc p7 []),[AV.int .i8 y.snd.snd.snd.frm,AV.int .i8 y.snd.snd.snd.to,AV.int .u8 y.snd.snd.snd.pro,AV.int .u8 y.snd.snd.snd.drp,AV.bool y.snd.snd.snd.cas]] [p8,y.fst.length] [] 0 0 0))
noncomputable def st26_4 (p1:Int) (p2:Int) (p3:(List Int)) (p4:Int) (p5:Int) (p6:Bool) (p7:Pos) (p8:Nat) (x:((List Mv)×Int×Mv)):Stp ((List Mv)×Int×Mv) (((List Mv)×Int×Bool×Mv)):=(bif decide (x.snd.fst < Int.ofNat p3.length) then (Stp.go (x.fst++[Mv.mk x.snd.snd.frm x.snd.snd.to (p3.getD x.snd.fst.toNat default) x.snd.snd.drp x.snd.snd.cas],wr .i64 (x.snd.fst+1),Mv.mk x.snd.snd.frm x.snd.snd.to (p3.getD x.snd.fst.toNat default) x.snd.snd.drp x.snd.snd.cas)) else (Stp.out ((x.fst,x.snd.fst,decide (x.snd.fst < Int.ofNat p3.length),x.snd.snd))))
noncomputable def okL26_4 (p1:Int) (p2:Int) (p3:(List Int)) (p4:Int) (p5:Int) (p6:Bool) (p7:Pos) (p8:Nat) (x:((List Mv)×Int×Mv)):Bool:=(bif decide (x.snd.fst < Int.ofNat p3.length) then (decide (0≤x.snd.fst)&&decide (x.snd.fst < Int.ofNat p3.length)&&(x.fst.length==x.fst.length&&decide (x.fst.length+1≤1073741824)&&true)) else true)
noncomputable def lp26_4 (p1:Int) (p2:Int) (p3:(List Int)) (p4:Int) (p5:Int) (p6:Bool) (p7:Pos) (p8:Nat) (x:((List Mv)×Int×Mv)):Option (((List Mv)×Int×Bool×Mv)):=itl (fun x=>bif okL26_4 p1 p2 p3 p4 p5 p6 p7 p8 x then st26_4 p1 p2 p3 p4 p5 p6 p7 p8 x else .bad) many x
abbrev D26_4 {α:Type} (k:Int→Int→(List Int)→Int→Int→Bool→Pos→Nat→((List Mv)×Int×Mv)→α) (s:St):α:=wP s 0 fun q0=>wM s 1 fun q1=>k (tI (tT s 4)) (tI (tT s 5)) (tL (ET.i .u8) (tT s 7)) (tI (tT s 39)) (tI (tT s 41)) (tB (tT s 42)) q0 (tK s 0) ((tL (ET.mv) (tT s 3)),(tI (tT s 8)),q1)
theorem L26_4 (p1:Int) (p2:Int) (p3:(List Int)) (p4:Int) (p5:Int) (p6:Bool) (p7:Pos) (p8:Nat) (x:((List Mv)×Int×Mv)) (r:((List Mv)×Int×Bool×Mv)) (h:lp26_4 p1 p2 p3 p4 p5 p6 p7 p8 x=some r):LSpec Pz (bodL Pz 26 16) (S26_4 p1 p2 p3 p4 p5 p6 p7 p8 x) (O26_4 p1 p2 p3 p4 p5 p6 p7 p8 r):=LSpec.smd (m:=12) (fn:=26) hB26_4 (D26_4 fun _ _ _ _ _ _ _ _ x=>some x) (fun o=>match o with | .exit 4 s=>wM s 1 fun q1=>some ((tL ET.mv (tT s 3)),(tI (tT s 8)),(tB (tT s 54)),q1) | _=>none) (fun _=>rfl) (fun _=>by kernel_rfl) (fun _=>by kernel_rfl) (fun _=>by kernel_rfl) (fun _=>by kernel_rfl) many x r h
noncomputable def F26_4 (b:Code) (s:St):Tr Out:=D26_4 (fun p1 p2 p3 p4 p5 p6 p7 p8 x=>lk1 b (bodL Pz 26 16) s (S26_4 p1 p2 p3 p4 p5 p6 p7 p8 x) (lp26_4 p1 p2 p3 p4 p5 p6 p7 p8 x) (O26_4 p1 p2 p3 p4 p5 p6 p7 p8)) s
theorem sF26_4:∀ b,LSound Pz b (F26_4 b):=fun _ _ _ h=>lk1_ok (L26_4 _ _ _ _ _ _ _ _ _) h
noncomputable def B26_5:Base:=baseOf Pz (fun f i=>lkC f i K26) [(25,G25),(57,G57),(56,G56),(58,G58),(59,G59)] [(26,16,F26_4)] []
theorem hB26_5:BOk B26_5:=base_ok named_z ⟨s25,s57,s56,s58,s59,trivial⟩ ⟨sF26_4,trivial⟩ trivial
noncomputable def S26_5 (p1:Int) (p2:Pos) (p3:Nat) (x:((List Mv)×Int)):St:=St.mk (AV.any::AV.ptr 0 0::AV.any::AV.list ET.mv x.fst (Tk.own 1)::AV.int .i64 p1::AV.int .i64 x.snd::(an 61 [])) (Hp.mk [(pc p2 [])] [p3,x.fst.length] [] 0 0 0)
noncomputable def O26_5 (p1:Int) (p2:Pos) (p3:Nat):((List Mv)×Int×Bool)→Out:=fun y=>.exit 2 (St.mk (AV.any::AV.ptr 0 0::AV.any::AV.list ET.mv y.fst (Tk.own 1)::AV.int .i64 p1::AV.int .i64 y.snd.fst::(an 12 (AV.bool y.snd.snd::(an 48 [])))) (Hp.mk [(pc p2 [])] [p3,y.fst.length] [] 0 0 0))
noncomputable def st26_5 (p1:Int) (p2:Pos) (p3:Nat) (x:((List Mv)×Int)):Stp ((List Mv)×Int) (((List Mv)×Int×Bool)):=(bif decide (x.snd < 64) then (bif !N56 p2 p1 x.snd then (Stp.go (x.fst,wr .i64 (x.snd+1))) else (bif N57 (p2.board.getD (scale 1 p1).toNat 0) != 1 then (Stp.go (x.fst++[Mv.mk (wr .i8 p1) (wr .i8 x.snd) 0 0 false],wr .i64 (x.snd+1))) else (bif N58 p2.turn x.snd != 7 then (Stp.go (x.fst++[Mv.mk (wr .i8 p1) (wr .i8 x.snd) 0 0 false],wr .i64 (x.snd+1))) else (Stp.go (((lp26_4 p1 x.snd (N59 p2.variant) p2.turn (N58 p2.turn x.snd) (N58 p2.turn x.snd != 7) p2 p3 (x.fst,0,Mv.mk (wr .i8 p1) (wr .i8 x.snd) 0 0 false)).getD default).fst,wr .i64 (x.snd+1)))))) else (Stp.out ((x.fst,x.snd,decide (x.snd < 64)))))
noncomputable def okL26_5 (p1:Int) (p2:Pos) (p3:Nat) (x:((List Mv)×Int)):Bool:=(bif decide (x.snd < 64) then (ok56 (p2) (p1) (x.snd)&&(bif !N56 p2 p1 x.snd then true else (decide (0≤p1)&&decide (p1 < Int.ofNat 64)&&(bif N57 (p2.board.getD (scale 1 p1).toNat 0) != 1 then (x.fst.length==x.fst.length&&decide (x.fst.length+1≤1073741824)&&true) else (bif N58 p2.turn x.snd != 7 then (x.fst.length==x.fst.length&&decide (x.fst.length+1≤1073741824)&&true) else ((lp26_4 p1 x.snd (N59 p2.variant) p2.turn (N58 p2.turn x.snd) (N58 p2.turn x.snd != 7) p2 p3 (x.fst,0,Mv.mk (wr .i8 p1) (wr .i8 x.snd) 0 0 false)).isSome&&true)))))) else true)
noncomputable def lp26_5 (p1:Int) (p2:Pos) (p3:Nat) (x:((List Mv)×Int)):Option (((List Mv)×Int×Bool)):=itl (fun x=>bif okL26_5 p1 p2 p3 x then st26_5 p1 p2 p3 x else .bad) many x
abbrev D26_5 {α:Type} (k:Int→Pos→Nat→((List Mv)×Int)→α) (s:St):α:=wP s 0 fun q0=>k (tI (tT s 4)) q0 (tK s 0) ((tL (ET.mv) (tT s 3)),(tI (tT s 5)))
theorem L26_5 (p1:Int) (p2:Pos) (p3:Nat) (x:((List Mv)×Int)) (r:((List Mv)×Int×Bool)) (h:lp26_5 p1 p2 p3 x=some r):LSpec Pz (bodL Pz 26 8) (S26_5 p1 p2 p3 x) (O26_5 p1 p2 p3 r):=LSpec.smd (m:=12) (fn:=26) hB26_5 (D26_5 fun _ _ _ x=>some x) (fun o=>match o with | .exit 2 s=>some ((tL ET.mv (tT s 3)),(tI (tT s 5)),(tB (tT s 18))) | _=>none) (fun _=>rfl) (fun _=>by kernel_rfl) (fun _=>by kernel_rfl) (fun _=>by kernel_rfl) (fun _=>by kernel_rfl) many x r h
noncomputable def F26_5 (b:Code) (s:St):Tr Out:=D26_5 (fun p1 p2 p3 x=>lk1 b (bodL Pz 26 8) s (S26_5 p1 p2 p3 x) (lp26_5 p1 p2 p3 x) (O26_5 p1 p2 p3)) s
theorem sF26_5:∀ b,LSound Pz b (F26_5 b):=fun _ _ _ h=>lk1_ok (L26_5 _ _ _ _) h
noncomputable def B26_6:Base:=baseOf Pz (fun f i=>lkC f i K26) [(25,G25),(57,G57),(56,G56),(58,G58),(59,G59)] [(26,16,F26_4),(26,8,F26_5)] []
theorem hB26_6:BOk B26_6:=base_ok named_z ⟨s25,s57,s56,s58,s59,trivial⟩ ⟨sF26_4,sF26_5,trivial⟩ trivial
noncomputable def S26_6 (p1:Pos) (p2:Nat) (x:((List Mv)×Int)):St:=St.mk (AV.any::AV.ptr 0 0::AV.any::AV.list ET.mv x.fst (Tk.own 1)::AV.int .i64 x.snd::(an 62 [])) (Hp.mk [(pc p1 [])] [p2,x.fst.length] [] 0 0 0)
noncomputable def O26_6 (p1:Pos) (p2:Nat):((List Mv)×Int×Bool)→Out:=fun y=>.exit 0 (St.mk (AV.any::AV.ptr 0 0::AV.any::AV.list ET.mv y.fst (Tk.own 1)::AV.int .i64 y.snd.fst::(an 9 (AV.bool y.snd.snd::(an 52 [])))) (Hp.mk [(pc p1 [])] [p2,y.fst.length] [] 0 0 0))
noncomputable def st26_6 (p1:Pos) (p2:Nat) (x:((List Mv)×Int)):Stp ((List Mv)×Int) (((List Mv)×Int×Bool)):=(bif decide (x.snd < 64) then (Stp.go (((lp26_5 x.snd p1 p2 (x.fst,0)).getD default).fst,wr .i64 (x.snd+1))) else (Stp.out ((x.fst,x.snd,decide (x.snd < 64)))))
noncomputable def okL26_6 (p1:Pos) (p2:Nat) (x:((List Mv)×Int)):Bool:=(bif decide (x.snd < 64) then ((lp26_5 x.snd p1 p2 (x.fst,0)).isSome&&true) else true)
noncomputable def lp26_6 (p1:Pos) (p2:Nat) (x:((List Mv)×Int)):Option (((List Mv)×Int×Bool)):=itl (fun x=>bif okL26_6 p1 p2 x then st26_6 p1 p2 x else .bad) many x
abbrev D26_6 {α:Type} (k:Pos→Nat→((List Mv)×Int)→α) (s:St):α:=wP s 0 fun q0=>k q0 (tK s 0) ((tL (ET.mv) (tT s 3)),(tI (tT s 4)))
theorem L26_6 (p1:Pos) (p2:Nat) (x:((List Mv)×Int)) (r:((List Mv)×Int×Bool)) (h:lp26_6 p1 p2 x=some r):LSpec Pz (bodL Pz 26 5) (S26_6 p1 p2 x) (O26_6 p1 p2 r):=LSpec.smd (m:=12) (fn:=26) hB26_6 (D26_6 fun _ _ x=>some x) (fun o=>match o with | .exit 0 s=>some ((tL ET.mv (tT s 3)),(tI (tT s 4)),(tB (tT s 14))) | _=>none) (fun _=>rfl) (fun _=>by kernel_rfl) (fun _=>by kernel_rfl) (fun _=>by kernel_rfl) (fun _=>by kernel_rfl) many x r h
noncomputable def F26_6 (b:Code) (s:St):Tr Out:=D26_6 (fun p1 p2 x=>lk1 b (bodL Pz 26 5) s (S26_6 p1 p2 x) (lp26_6 p1 p2 x) (O26_6 p1 p2)) s
theorem sF26_6:∀ b,LSound Pz b (F26_6 b):=fun _ _ _ h=>lk1_ok (L26_6 _ _ _) h
noncomputable def B26:Base:=baseOf Pz (fun f i=>lkC f i K26) [(25,G25),(57,G57),(56,G56),(58,G58),(59,G59)] [(26,16,F26_4),(26,8,F26_5),(26,5,F26_6)] []
theorem hB26:BOk B26:=base_ok named_z ⟨s25,s57,s56,s58,s59,trivial⟩ ⟨sF26_4,sF26_5,sF26_6,trivial⟩ trivial
noncomputable def N26 (a:Pos):List Mv:=(bif !N25 a then ([]) else (((lp26_6 a 0 ([],0)).getD default).fst))
noncomputable def ok26 (a:Pos):Bool:=(bif !N25 a then true else ((lp26_6 a 0 ([],0)).isSome&&true))
theorem P26 (a:Pos) (h:ok26 a=true):PS Pz 26 [Pos.av a] ((dL .mv).res (N26 a)):=ps_sum (n:=14) hB26 (by kernel_rfl) (by kernel_rfl) (by kernel_rfl) h
noncomputable def G26:List AV→Tr AV:=g1 dPos (fun a=>gdv (ok26 a) ((dL .mv).res (N26 a)))
theorem s26:Sound Pz 26 G26:=sound1 fun a=>at_gd (P26 a)
noncomputable def K117:List (Nat×Nat×List (Nat×List Nat)):=[(117,21,[(0,[0,1]),(1,[1,5]),(2,[1,5,6]),(3,[1,5,6,12]),(4,[1,5,6]),(5,[1,5,6,20]),(6,[4]),(7,[4])])]
noncomputable def B117_1:Base:=baseOf Pz (fun f i=>lkC f i K117) [(59,G59)] [] []
theorem hB117_1:BOk B117_1:=base_ok named_z ⟨s59,trivial⟩ trivial trivial
noncomputable def S117_1 (p1:Int) (p2:(List Int)) (x:(Int)):St:=St.mk (AV.any::AV.int .u8 p1::(an 3 (AV.list (ET.i .u8) p2 Tk.fresh::AV.int .i64 x::(an 14 [])))) (Hp.mk [] [] [] 0 0 0)
noncomputable def O117_1 (p1:Int) (p2:(List Int)):Unit ⊕ (Int×Bool)→Out
  | (.inl (y))=>.ret (St.mk (an 4 (AV.cbool true::(an 16 []))) (Hp.mk [] [] [] 0 0 0))
  | (.inr (y))=>.exit 0 (St.mk (AV.any::AV.int .u8 p1::(an 3 (AV.list (ET.i .u8) p2 Tk.fresh::AV.int .i64 y.fst::(an 5 (AV.bool y.snd::(an 8 [])))))) (Hp.mk [] [] [] 0 0 0))
noncomputable def st117_1 (p1:Int) (p2:(List Int)) (x:(Int)):Stp (Int) (Unit ⊕ (Int×Bool)):=(bif decide (x < Int.ofNat p2.length) then (bif p2.getD x.toNat default==p1 then (Stp.out (.inl (()))) else (Stp.go (wr .i64 (x+1)))) else (Stp.out (.inr ((x,decide (x < Int.ofNat p2.length))))))
noncomputable def okL117_1 (p1:Int) (p2:(List Int)) (x:(Int)):Bool:=(bif decide (x < Int.ofNat p2.length) then (decide (0≤x)&&decide (x < Int.ofNat p2.length)&&true) else true)
noncomputable def lp117_1 (p1:Int) (p2:(List Int)) (x:(Int)):Option (Unit ⊕ (Int×Bool)):=itl (fun x=>bif okL117_1 p1 p2 x then st117_1 p1 p2 x else .bad) many x
abbrev D117_1 {α:Type} (k:Int→(List Int)→(Int)→α) (s:St):α:=k (tI (tT s 1)) (tL (ET.i .u8) (tT s 5)) ((tI (tT s 6)))
theorem L117_1 (p1:Int) (p2:(List Int)) (x:(Int)) (r:Unit ⊕ (Int×Bool)) (h:lp117_1 p1 p2 x=some r):LSpec Pz (bodL Pz 117 3) (S117_1 p1 p2 x) (O117_1 p1 p2 r):=LSpec.smd (m:=12) (fn:=117) hB117_1 (D117_1 fun _ _ x=>some x) (fun o=>match o with | .ret s=>some (.inl ()) | .exit 0 s=>some (.inr ((tI (tT s 6)),(tB (tT s 12)))) | _=>none) (fun r=>by cases r <;> rfl) (fun _=>by kernel_rfl) (fun _=>by kernel_rfl) (fun _=>by kernel_rfl) (fun _=>by kernel_rfl) many x r h
noncomputable def F117_1 (b:Code) (s:St):Tr Out:=D117_1 (fun p1 p2 x=>lk2 b (bodL Pz 117 3) s (S117_1 p1 p2 x) (lp117_1 p1 p2 x) (O117_1 p1 p2)) s
theorem sF117_1:∀ b,LSound Pz b (F117_1 b):=fun _ _ _ h=>lk2_ok (L117_1 _ _ _) h
noncomputable def B117:Base:=baseOf Pz (fun f i=>lkC f i K117) [(59,G59)] [(117,3,F117_1)] []
theorem hB117:BOk B117:=base_ok named_z ⟨s59,trivial⟩ ⟨sF117_1,trivial⟩ trivial
noncomputable def N117 (a:Int) (b:Int):Bool:=(bif isL ((lp117_1 b (N59 a) 0).getD default) then (true) else (false))
noncomputable def ok117 (a:Int) (b:Int):Bool:=((lp117_1 b (N59 a) 0).isSome&&bif isL ((lp117_1 b (N59 a) 0).getD default) then true else true)
theorem P117 (a:Int) (b:Int) (h:ok117 a b=true):PS Pz 117 [.int .u8 a,.int .u8 b] (dB.res (N117 a b)):=ps_sum (n:=14) hB117 (by kernel_rfl) (by kernel_rfl) (by kernel_rfl) h
noncomputable def G117:List AV→Tr AV:=g2 (dI .u8) (dI .u8) (fun a b=>gdv (ok117 a b) (dB.res (N117 a b)))
theorem s117:Sound Pz 117 G117:=sound2 fun a b=>at_gd (P117 a b)
noncomputable def K60:List (Nat×Nat×List (Nat×List Nat)):=[(60,69,[(0,(2::3::17::18::21::22::23::26::27::30::31::34::35::38::39::(rn 42 5 (rn 55 5 [])))),(1,(2::3::5::6::17::18::21::22::23::26::27::30::31::34::35::38::39::(rn 42 5 (rn 55 5 [])))),(2,(2::3::5::6::47::(rn 55 5 []))),(3,[4]),(4,[2,3,60]),(5,[4]),(6,[4])])]
noncomputable def B60:Base:=baseOf Pz (fun f i=>lkC f i K60) [(25,G25),(57,G57),(56,G56),(58,G58),(117,G117)] [] []
theorem hB60:BOk B60:=base_ok named_z ⟨s25,s57,s56,s58,s117,trivial⟩ trivial trivial
noncomputable def N60 (a:Pos) (b:Mv):Bool:=(bif !N25 a then (false) else (bif b.cas then (false) else (bif b.drp != 0 then (false) else (bif decide (wr .i64 b.frm < 0) then (false) else (bif decide (wr .i64 b.frm > 63) then (false) else (bif decide (wr .i64 b.to < 0) then (false) else (bif decide (wr .i64 b.to > 63) then (false) else (bif !N56 a (wr .i64 b.frm) (wr .i64 b.to) then (false) else (bif N57 (a.board.getD (scale 1 (wr .i64 b.frm)).toNat 0) != 1 then (b.pro==0) else (bif N58 a.turn (wr .i64 b.to) != 7 then (b.pro==0) else (N117 a.variant b.pro)))))))))))
noncomputable def ok60 (a:Pos) (b:Mv):Bool:=(bif !N25 a then true else (bif b.cas then true else (bif b.drp != 0 then true else (bif decide (wr .i64 b.frm < 0) then true else (bif decide (wr .i64 b.frm > 63) then true else (bif decide (wr .i64 b.to < 0) then true else (bif decide (wr .i64 b.to > 63) then true else (ok56 (a) (wr .i64 b.frm) (wr .i64 b.to)&&(bif !N56 a (wr .i64 b.frm) (wr .i64 b.to) then true else (decide (0≤wr .i64 b.frm)&&decide (wr .i64 b.frm < Int.ofNat 64)&&(bif N57 (a.board.getD (scale 1 (wr .i64 b.frm)).toNat 0) != 1 then true else (bif N58 a.turn (wr .i64 b.to) != 7 then true else (ok117 (a.variant) (b.pro)&&true)))))))))))))
theorem P60 (a:Pos) (b:Mv) (h:ok60 a b=true):PS Pz 60 [Pos.av a,Mv.av b] (dB.res (N60 a b)):=ps_sum (n:=14) hB60 (by kernel_rfl) (by kernel_rfl) (by kernel_rfl) h
noncomputable def G60:List AV→Tr AV:=g2 dPos dMv (fun a b=>gdv (ok60 a b) (dB.res (N60 a b)))
theorem s60:Sound Pz 60 G60:=sound2 fun a b=>at_gd (P60 a b)
noncomputable def K27:List (Nat×Nat×List (Nat×List Nat)):=[(27,39,[(0,(2::3::(rn 26 7 []))),(1,(2::3::9::(rn 26 7 []))),(2,[4]),(3,(2::3::5::(rn 26 7 []))),(4,(2::3::5::16::(rn 26 7 []))),(5,[4]),(6,[2,5,33]),(7,[4]),(8,[4])])]
noncomputable def B27:Base:=baseOf Pz (fun f i=>lkC f i K27) [(57,G57),(60,G60),(61,G61),(62,G62)] [] []
theorem hB27:BOk B27:=base_ok named_z ⟨s57,s60,s61,s62,trivial⟩ trivial trivial
noncomputable def N27 (a:Pos) (b:Mv):Int:=(bif !N60 a b then (-1) else (bif !N61 a (wr .i64 b.to) then (wr .i64 b.to) else (bif N57 (a.board.getD (scale 1 b.frm).toNat 0)==1 then (bif b.frm.tmod 8 != b.to.tmod 8 then (wr .i64 (wr .i64 b.to - N62 a.turn)) else (-1)) else (-1))))
noncomputable def ok27 (a:Pos) (b:Mv):Bool:=(ok60 (a) (b)&&(bif !N60 a b then true else (ok61 (a) (wr .i64 b.to)&&(bif !N61 a (wr .i64 b.to) then true else (decide (0≤b.frm)&&decide (b.frm < Int.ofNat 64)&&true)))))
theorem P27 (a:Pos) (b:Mv) (h:ok27 a b=true):PS Pz 27 [Pos.av a,Mv.av b] ((dI .i64).res (N27 a b)):=ps_sum (n:=14) hB27 (by kernel_rfl) (by kernel_rfl) (by kernel_rfl) h
noncomputable def G27:List AV→Tr AV:=g2 dPos dMv (fun a b=>gdv (ok27 a b) ((dI .i64).res (N27 a b)))
theorem s27:Sound Pz 27 G27:=sound2 fun a b=>at_gd (P27 a b)
noncomputable def K13:List (Nat×Nat×List (Nat×List Nat)):=[(13,64,[(0,[1]),(1,[1,10]),(2,[2]),(3,[1,3]),(4,[1,3,4]),(5,[1,3,4,5]),(6,[1,3,4,5]),(7,[1,3,4,5,6]),(8,(1::(rn 3 5 []))),(9,(1::(rn 3 5 [26]))),(10,(1::(rn 3 5 []))),(11,(1::(rn 3 5 [59]))),(12,(1::(rn 3 5 []))),(13,[2])])]
noncomputable def B13_1:Base:=baseOf Pz (fun f i=>lkC f i K13) [(25,G25),(26,G26),(27,G27)] [] []
theorem hB13_1:BOk B13_1:=base_ok named_z ⟨s25,s26,s27,trivial⟩ trivial trivial
noncomputable def S13_1 (p1:(List Mv)) (p2:(List Mv)) (p3:Pos) (p4:Pos) (x:(Int×Int)):St:=St.mk (AV.any::AV.ptr 0 0::AV.any::AV.int .i64 x.fst::AV.list ET.mv p1 Tk.fresh::AV.ptr 1 0::AV.list ET.mv p2 Tk.fresh::AV.int .i64 x.snd::(an 56 [])) (Hp.mk [(pc p3 []),(pc p4 [])] [] [] 0 0 0)
noncomputable def O13_1 (p1:(List Mv)) (p2:(List Mv)) (p3:Pos) (p4:Pos):(Int×Int×Bool)→Out:=fun y=>.exit 0 (St.mk (AV.any::AV.ptr 0 0::AV.any::AV.int .i64 y.fst::AV.list ET.mv p1 Tk.fresh::AV.ptr 1 0::AV.list ET.mv p2 Tk.fresh::AV.int .i64 y.snd.fst::(an 18 (AV.bool y.snd.snd::(an 37 [])))) (Hp.mk [(pc p3 []),(pc p4 [])] [] [] 0 0 0))
noncomputable def st13_1 (p1:(List Mv)) (p2:(List Mv)) (p3:Pos) (p4:Pos) (x:(Int×Int)):Stp (Int×Int) ((Int×Int×Bool)):=(bif decide (x.snd < wr .i64 (Int.ofNat p1.length+Int.ofNat p2.length)) then (bif decide (x.snd < Int.ofNat p1.length) then (bif decide (N27 p3 (p1.getD x.snd.toNat default) ≥ 0) then (Stp.go (wr .i64 (x.fst+1),wr .i64 (x.snd+1))) else (bif decide (x.snd ≥ Int.ofNat p1.length) then (bif decide (N27 p4 (p2.getD (wr .i64 (x.snd - Int.ofNat p1.length)).toNat default) ≥ 0) then (Stp.go (wr .i64 (x.fst+1),wr .i64 (x.snd+1))) else (Stp.go (x.fst,wr .i64 (x.snd+1)))) else (Stp.go (x.fst,wr .i64 (x.snd+1))))) else (bif decide (x.snd ≥ Int.ofNat p1.length) then (bif decide (N27 p4 (p2.getD (wr .i64 (x.snd - Int.ofNat p1.length)).toNat default) ≥ 0) then (Stp.go (wr .i64 (x.fst+1),wr .i64 (x.snd+1))) else (Stp.go (x.fst,wr .i64 (x.snd+1)))) else (Stp.go (x.fst,wr .i64 (x.snd+1))))) else (Stp.out ((x.fst,x.snd,decide (x.snd < wr .i64 (Int.ofNat p1.length+Int.ofNat p2.length))))))
noncomputable def okL13_1 (p1:(List Mv)) (p2:(List Mv)) (p3:Pos) (p4:Pos) (x:(Int×Int)):Bool:=(bif decide (x.snd < wr .i64 (Int.ofNat p1.length+Int.ofNat p2.length)) then (bif decide (x.snd < Int.ofNat p1.length) then (decide (0≤x.snd)&&decide (x.snd < Int.ofNat p1.length)&&(ok27 p3 (p1.getD x.snd.toNat default)&&(bif decide (N27 p3 (p1.getD x.snd.toNat default) ≥ 0) then true else (bif decide (x.snd ≥ Int.ofNat p1.length) then (decide (0≤wr .i64 (x.snd - Int.ofNat p1.length))&&decide (wr .i64 (x.snd - Int.ofNat p1.length) < Int.ofNat p2.length)&&(ok27 p4 (p2.getD (wr .i64 (x.snd - Int.ofNat p1.length)).toNat default)&&true)) else true)))) else (bif decide (x.snd ≥ Int.ofNat p1.length) then (decide (0≤wr .i64 (x.snd - Int.ofNat p1.length))&&decide (wr .i64 (x.snd - Int.ofNat p1.length) < Int.ofNat p2.length)&&(ok27 p4 (p2.getD (wr .i64 (x.snd - Int.ofNat p1.length)).toNat default)&&true)) else true)) else true)
noncomputable def lp13_1 (p1:(List Mv)) (p2:(List Mv)) (p3:Pos) (p4:Pos) (x:(Int×Int)):Option ((Int×Int×Bool)):=itl (fun x=>bif okL13_1 p1 p2 p3 p4 x then st13_1 p1 p2 p3 p4 x else .bad) many x
abbrev D13_1 {α:Type} (k:(List Mv)→(List Mv)→Pos→Pos→(Int×Int)→α) (s:St):α:=wP s 0 fun q0=>wP s 1 fun q1=>k (tL (ET.mv) (tT s 4)) (tL (ET.mv) (tT s 6)) q0 q1 ((tI (tT s 3)),(tI (tT s 7)))
theorem L13_1 (p1:(List Mv)) (p2:(List Mv)) (p3:Pos) (p4:Pos) (x:(Int×Int)) (r:(Int×Int×Bool)) (h:lp13_1 p1 p2 p3 p4 x=some r):LSpec Pz (bodL Pz 13 9) (S13_1 p1 p2 p3 p4 x) (O13_1 p1 p2 p3 p4 r):=LSpec.smd (m:=12) (fn:=13) hB13_1 (D13_1 fun _ _ _ _ x=>some x) (fun o=>match o with | .exit 0 s=>some ((tI (tT s 3)),(tI (tT s 7)),(tB (tT s 26))) | _=>none) (fun _=>rfl) (fun _=>by kernel_rfl) (fun _=>by kernel_rfl) (fun _=>by kernel_rfl) (fun _=>by kernel_rfl) many x r h
noncomputable def F13_1 (b:Code) (s:St):Tr Out:=D13_1 (fun p1 p2 p3 p4 x=>lk1 b (bodL Pz 13 9) s (S13_1 p1 p2 p3 p4 x) (lp13_1 p1 p2 p3 p4 x) (O13_1 p1 p2 p3 p4)) s
theorem sF13_1:∀ b,LSound Pz b (F13_1 b):=fun _ _ _ h=>lk1_ok (L13_1 _ _ _ _ _) h
noncomputable def B13:Base:=baseOf Pz (fun f i=>lkC f i K13) [(25,G25),(26,G26),(27,G27)] [(13,9,F13_1)] []
theorem hB13:BOk B13:=base_ok named_z ⟨s25,s26,s27,trivial⟩ ⟨sF13_1,trivial⟩ trivial
noncomputable def N13 (a:Pos):Bool:=(bif !N25 a then (false) else (decide (((lp13_1 (N26 a) (N26 (Pos.mk a.variant a.board a.promoted a.pockets (wr .u8 (1 - a.turn)) a.rooks a.passing a.checks a.half a.full)) a (Pos.mk a.variant a.board a.promoted a.pockets (wr .u8 (1 - a.turn)) a.rooks a.passing a.checks a.half a.full) (0,0)).getD default).fst > 16)))
noncomputable def ok13 (a:Pos):Bool:=(bif !N25 a then true else (ok26 a&&(ok26 (Pos.mk a.variant a.board a.promoted a.pockets (wr .u8 (1 - a.turn)) a.rooks a.passing a.checks a.half a.full)&&((lp13_1 (N26 a) (N26 (Pos.mk a.variant a.board a.promoted a.pockets (wr .u8 (1 - a.turn)) a.rooks a.passing a.checks a.half a.full)) a (Pos.mk a.variant a.board a.promoted a.pockets (wr .u8 (1 - a.turn)) a.rooks a.passing a.checks a.half a.full) (0,0)).isSome&&true))))
theorem P13 (a:Pos) (h:ok13 a=true):PS Pz 13 [Pos.av a] (dB.res (N13 a)):=ps_sum (n:=14) hB13 (by kernel_rfl) (by kernel_rfl) (by kernel_rfl) h
noncomputable def G13:List AV→Tr AV:=g1 dPos (fun a=>gdv (ok13 a) (dB.res (N13 a)))
theorem s13:Sound Pz 13 G13:=sound1 fun a=>at_gd (P13 a)
noncomputable def K6:List (Nat×Nat×List (Nat×List Nat)):=[(6,92,[(0,[1,2]),(1,[1,2,11]),(2,[4]),(3,[1,2]),(4,[1,2,22]),(5,[1,2]),(6,[2,5,6]),(7,[2,5,6,30]),(8,[4]),(9,[2,5,6,7,8]),(10,[2,5,7,54]),(11,[4]),(12,[2,5,7,56]),(13,[4]),(14,[4])])]
noncomputable def B6:Base:=baseOf Pz (fun f i=>lkC f i K6) [(10,G10),(11,G11),(12,G12),(13,G13),(14,G14),(15,GE)] [] []
theorem hB6:BOk B6:=base_ok named_z ⟨s10,s11,s12,s13,s14,sE,trivial⟩ trivial trivial
noncomputable def N6 (a:Pos) (b:Int):Bool:=(bif !N10 a then (N12) else (bif decide (wr .i64 (Int.ofNat (BitVec.ofInt 64 b % 4#64).toNat) > 1) then (bif N13 a then (bif (N14 a 1).snd==4 then (bif (N14 a 1).fst==0 then (N12) else (false)) else (bif (N14 a 1).snd != 0 then (false) else (bif (N14 a 0).snd != 0 then (false) else (bif decide ((N14 a 1).fst < -30000) then (false) else (bif decide ((N14 a 1).fst > 30000) then (false) else (bif N11 a then (bif (N14 a 1).fst==(N14 a 0).fst then (bif (N14 a 1).fst==0 then (N12) else (bif (N14 a 1).fst==30000 then (N12) else (bif (N14 a 1).fst == -30000 then (N12) else (false)))) else (false)) else (bif (N14 a 0).fst==NE a then (bif a.variant==4 then (N12) else (bif decide ((N14 a 1).fst ≥ (N14 a 0).fst) then (N12) else (false))) else (false)))))))) else (bif (N14 a (wr .i64 (Int.ofNat (BitVec.ofInt 64 b % 4#64).toNat))).snd==4 then (bif (N14 a (wr .i64 (Int.ofNat (BitVec.ofInt 64 b % 4#64).toNat))).fst==0 then (N12) else (false)) else (bif (N14 a (wr .i64 (Int.ofNat (BitVec.ofInt 64 b % 4#64).toNat))).snd != 0 then (false) else (bif (N14 a 0).snd != 0 then (false) else (bif decide ((N14 a (wr .i64 (Int.ofNat (BitVec.ofInt 64 b % 4#64).toNat))).fst < -30000) then (false) else (bif decide ((N14 a (wr .i64 (Int.ofNat (BitVec.ofInt 64 b % 4#64).toNat))).fst > 30000) then (false) else (bif N11 a then (bif (N14 a (wr .i64 (Int.ofNat (BitVec.ofInt 64 b % 4#64).toNat))).fst==(N14 a 0).fst then (bif (N14 a (wr .i64 (Int.ofNat (BitVec.ofInt 64 b % 4#64).toNat))).fst==0 then (N12) else (bif (N14 a (wr .i64 (Int.ofNat (BitVec.ofInt 64 b % 4#64).toNat))).fst==30000 then (N12) else (bif (N14 a (wr .i64 (Int.ofNat (BitVec.ofInt 64 b % 4#64).toNat))).fst == -30000 then (N12) else (false)))) else (false)) else (bif (N14 a 0).fst==NE a then (bif a.variant==4 then (N12) else (bif decide ((N14 a (wr .i64 (Int.ofNat (BitVec.ofInt 64 b % 4#64).toNat))).fst ≥ (N14 a 0).fst) then (N12) else (false))) else (false))))))))) else (bif (N14 a (wr .i64 (Int.ofNat (BitVec.ofInt 64 b % 4#64).toNat))).snd==4 then (bif (N14 a (wr .i64 (Int.ofNat (BitVec.ofInt 64 b % 4#64).toNat))).fst==0 then (N12) else (false)) else (bif (N14 a (wr .i64 (Int.ofNat (BitVec.ofInt 64 b % 4#64).toNat))).snd != 0 then (false) else (bif (N14 a 0).snd != 0 then (false) else (bif decide ((N14 a (wr .i64 (Int.ofNat (BitVec.ofInt 64 b % 4#64).toNat))).fst < -30000) then (false) else (bif decide ((N14 a (wr .i64 (Int.ofNat (BitVec.ofInt 64 b % 4#64).toNat))).fst > 30000) then (false) else (bif N11 a then (bif (N14 a (wr .i64 (Int.ofNat (BitVec.ofInt 64 b % 4#64).toNat))).fst==(N14 a 0).fst then (bif (N14 a (wr .i64 (Int.ofNat (BitVec.ofInt 64 b % 4#64).toNat))).fst==0 then (N12) else (bif (N14 a (wr .i64 (Int.ofNat (BitVec.ofInt 64 b % 4#64).toNat))).fst==30000 then (N12) else (bif (N14 a (wr .i64 (Int.ofNat (BitVec.ofInt 64 b % 4#64).toNat))).fst == -30000 then (N12) else (false)))) else (false)) else (bif (N14 a 0).fst==NE a then (bif a.variant==4 then (N12) else (bif decide ((N14 a (wr .i64 (Int.ofNat (BitVec.ofInt 64 b % 4#64).toNat))).fst ≥ (N14 a 0).fst) then (N12) else (false))) else (false))))))))))
noncomputable def ok6 (a:Pos) (b:Int):Bool:=(bif !N10 a then true else (!4#64==0#64&&(bif decide (wr .i64 (Int.ofNat (BitVec.ofInt 64 b % 4#64).toNat) > 1) then (ok13 a&&(bif N13 a then (ok14 a 1&&(bif (N14 a 1).snd==4 then true else (ok14 a 0&&(bif (N14 a 1).snd != 0 then true else (bif (N14 a 0).snd != 0 then true else (bif decide ((N14 a 1).fst < -30000) then true else (bif decide ((N14 a 1).fst > 30000) then true else (ok11 a&&(bif N11 a then true else (ok16 a&&true)))))))))) else (ok14 a (wr .i64 (Int.ofNat (BitVec.ofInt 64 b % 4#64).toNat))&&(bif (N14 a (wr .i64 (Int.ofNat (BitVec.ofInt 64 b % 4#64).toNat))).snd==4 then true else (ok14 a 0&&(bif (N14 a (wr .i64 (Int.ofNat (BitVec.ofInt 64 b % 4#64).toNat))).snd != 0 then true else (bif (N14 a 0).snd != 0 then true else (bif decide ((N14 a (wr .i64 (Int.ofNat (BitVec.ofInt 64 b % 4#64).toNat))).fst < -30000) then true else (bif decide ((N14 a (wr .i64 (Int.ofNat (BitVec.ofInt 64 b % 4#64).toNat))).fst > 30000) then true else (ok11 a&&(bif N11 a then true else (ok16 a&&true)))))))))))) else (ok14 a (wr .i64 (Int.ofNat (BitVec.ofInt 64 b % 4#64).toNat))&&(bif (N14 a (wr .i64 (Int.ofNat (BitVec.ofInt 64 b % 4#64).toNat))).snd==4 then true else (ok14 a 0&&(bif (N14 a (wr .i64 (Int.ofNat (BitVec.ofInt 64 b % 4#64).toNat))).snd != 0 then true else (bif (N14 a 0).snd != 0 then true else (bif decide ((N14 a (wr .i64 (Int.ofNat (BitVec.ofInt 64 b % 4#64).toNat))).fst < -30000) then true else (bif decide ((N14 a (wr .i64 (Int.ofNat (BitVec.ofInt 64 b % 4#64).toNat))).fst > 30000) then true else (ok11 a&&(bif N11 a then true else (ok16 a&&true)))))))))))))
theorem P6 (a:Pos) (b:Int) (h:ok6 a b=true):PS Pz 6 [Pos.av a,.int .i64 b] (dB.res (N6 a b)):=ps_sum (n:=14) hB6 (by kernel_rfl) (by kernel_rfl) (by kernel_rfl) h
noncomputable def G6:List AV→Tr AV:=g2 dPos (dI .i64) (fun a b=>gdv (ok6 a b) (dB.res (N6 a b)))
theorem s6:Sound Pz 6 G6:=sound2 fun a b=>at_gd (P6 a b)
end Kz
end
section
namespace Kz
open Go Go.RowKit Go.Proofs
set_option maxRecDepth 100000
theorem N78_in {v:Int} (h0 : -30000≤v) (h1:v≤30000) : -30000≤N78 v∧N78 v≤30000:=by
  unfold N78
  have e:wr .i64 (0 - v)=0 - v:=wi64 (by omega) (by omega)
  rw [e]
  have e1:wr .i64 (0 - v - 1)=0 - v - 1:=wi64 (by omega) (by omega)
  have e2:wr .i64 (0 - v+1)=0 - v+1:=wi64 (by omega) (by omega)
  rw [e1,e2]
  refine c_ind (P:=fun x:Int => -30000≤x∧x≤30000) (fun h => ?_) fun _=>c_ind (P:=fun x:Int => -30000≤x∧x≤30000) (fun h => ?_) fun _=>by omega
  · have:=of_decide_eq_true h; omega
  · have:=of_decide_eq_true h; omega
theorem endv_in (p:Pos):endv p=0∨endv p=30000∨endv p = -30000:=by
  unfold endv
  refine c_ind (P:=fun x:Int=>x=0∨x=30000∨x = -30000) (fun _=>.inl rfl) fun _=>c_ind (P:=fun x:Int=>x=0∨x=30000∨x = -30000) (fun _=>.inr (.inl rfl)) fun _=>.inr (.inr rfl)
theorem fold_in (f:Pos→Int→Option (Int×Int)) (p:Pos) (hf:∀ q k x,f q k=some x → -30000≤x.1∧x.1≤30000):∀ (l:List Mv) (b k:Int) (x:Int×Int),l.foldl (stepL f p) (some (b,k))=some x→b≤30000→(b≤x.1∧x.1≤30000∧(l≠[] → -30000≤x.1))
  | [],b,k,x,h,hb=>by
    simp only [List.foldl_nil,Option.some.injEq] at h
    subst h
    exact ⟨Int.le_refl _,hb,fun h=>absurd rfl h⟩
  | m::l,b,k,x,h,hb=>by
    rw [List.foldl_cons] at h
    cases hr:f (N22 p m).1 k with
    | none=>rw [step_of_none hr,step_none] at h; cases h
    | some y =>
      obtain ⟨v,k'⟩:=y
      rw [step_of_some hr] at h
      have hv:=hf _ _ _ hr
      have hg:=N78_in hv.1 hv.2
      dsimp only at hg
      have hm:max b (N78 v)≤30000:=by omega
      have ih:=fold_in f p hf l _ _ _ h hm
      generalize N78 v=g at *
      exact ⟨by omega,ih.2.1,fun _=>by omega⟩
theorem look_end {p:Pos} (h:((N24 p).1 != 0)=true) (n:Nat):lookM n p 0=some (endv p,0+1):=by
  cases n <;> (unfold lookM; rw [if_neg (by omega),h,cond_true])
theorem look_in:∀ (n:Nat) (p:Pos) (k:Int) (x:Int×Int),lookM n p k=some x → -30000≤x.1∧x.1≤30000
  | 0,p,k,x,h=>by
    unfold lookM at h
    split at h
    · cases h
    · have he:=endv_in p
      have hv:=evl_in p
      cases hb:(N24 p).1 != 0 <;> rw [hb] at h <;> simp only [cond_true,cond_false,Option.some.injEq] at h <;> subst h <;> (dsimp only; omega)
  | n+1,p,k,x,h=>by
    unfold lookM at h
    split at h
    · cases h
    · have he:=endv_in p
      have hv:=evl_in p
      cases hb:(N24 p).1 != 0 <;> rw [hb] at h
      · simp only [cond_false] at h
        have hb0:best0 p≤30000∧(takesL p=[] → -30000≤best0 p):=by
          unfold best0
          refine c_ind (P:=fun y:Int=>y≤30000∧(takesL p=[] → -30000≤y)) (fun hc=>⟨by omega,fun e => ?_⟩) fun _=>⟨by omega,fun _=>by omega⟩
          rw [e] at hc
          simp at hc
        have hf:=fold_in (lookM n) p (fun q k x=>look_in n q k x) (takesL p) _ _ _ h hb0.1
        refine ⟨?_,hf.2.1⟩
        by_cases e:takesL p=[]
        · have:=hb0.2 e; omega
        · exact hf.2.2 e
      · simp only [cond_true,Option.some.injEq] at h
        subst h
        dsimp only
        omega
theorem look_zero {p:Pos} (h:((N24 p).1 != 0)=false):lookM 0 p 0=some (evl p,0+1):=by
  unfold lookM
  rw [if_neg (by omega),h,cond_false]
theorem look_ge {p:Pos} (h:((N24 p).1 != 0)=false) (hv:(p.variant==4)=false) {n:Nat} {x:Int×Int} (hx:lookM n p 0=some x):evl p≤x.1:=by
  cases n with
  | zero =>
    rw [look_zero h,Option.some.injEq] at hx
    subst hx
    exact Int.le_refl _
  | succ n =>
    unfold lookM at hx
    rw [if_neg (by omega),h,cond_false] at hx
    have hb:best0 p=evl p:=by unfold best0; rw [hv,Bool.false_and,cond_false]
    rw [hb] at hx
    have hv:=evl_in p
    exact (fold_in (lookM n) p (fun q k x=>look_in n q k x) (takesL p) _ _ _ hx (by omega)).1
theorem ok14_t {p:Pos} (hp:PosIn p) {n:Int} (h0:0≤n) (h1:n≤32):ok14 p n=true:=by
  have hv:okV p n 0=true:=by
    unfold okV
    rw [ok16_iff.2 hp,decide_eq_true h0,decide_eq_true (show n < 1000 by omega)]
    rfl
  unfold ok14
  refine c_true (fun _=>rfl) fun _=>c_true (fun _=>rfl) fun _=>c_true (fun _=>rfl) fun _=>c_true (fun _=>rfl) fun _=>a_true hv fun _ => ?_
  cases (lookS n p 0).isSome
  · rw [cond_false,hv]; rfl
  · rfl
theorem N14_there {p:Pos} (hv:p.variant < 9) (ht:p.turn < 2) {n:Int} (h0:0≤n) (h1:n≤32):N14 p n=match lookM n.toNat p 0 with
    | some x=>(x.1,0)
    | none=>(0,4):=by
  unfold N14 lookS
  rw [shut_eq,decide_eq_false (show ¬ n < 0 by omega),decide_eq_false (show ¬ n > 32 by omega),decide_eq_false (show ¬ p.variant ≥ 9 by omega),decide_eq_false (show ¬ p.turn > 1 by omega)]
  simp only [cond_false]
  cases lookM n.toNat p 0 <;> rfl
noncomputable def core6 (a:Pos) (j:Int):Bool:=bif (N14 a j).snd==4 then (bif (N14 a j).fst==0 then (N12) else (false)) else (bif (N14 a j).snd != 0 then (false) else (bif (N14 a 0).snd != 0 then (false) else (bif decide ((N14 a j).fst < -30000) then (false) else (bif decide ((N14 a j).fst > 30000) then (false) else (bif N11 a then (bif (N14 a j).fst==(N14 a 0).fst then (bif (N14 a j).fst==0 then (N12) else (bif (N14 a j).fst==30000 then (N12) else (bif (N14 a j).fst == -30000 then (N12) else (false)))) else (false)) else (bif (N14 a 0).fst==NE a then (bif a.variant==4 then (N12) else (bif decide ((N14 a j).fst ≥ (N14 a 0).fst) then (N12) else (false))) else (false)))))))
theorem core6_t {p:Pos} (hv:p.variant < 9) (ht:p.turn < 2) {n:Int} (h0:0≤n) (h1:n≤32):core6 p n=true:=by
  unfold core6
  rw [N14_there hv ht h0 h1,N14_there hv ht (Int.le_refl 0) (by omega)]
  cases hl:lookM n.toNat p 0 with
  | none=>rfl
  | some x =>
    have hx:=look_in _ _ _ _ hl
    have he:=endv_in p
    obtain ⟨x1,x2⟩:=x
    dsimp only at hx ⊢
    have b1:decide (x1 < -30000)=false:=decide_eq_false (by omega)
    have b2:decide (x1 > 30000)=false:=decide_eq_false (by omega)
    rw [b1,b2]
    cases hb:(N24 p).1 != 0 with
    | true =>
      have hN:N11 p=true:=hb
      have e1:=look_end hb n.toNat
      have e0:=look_end hb 0
      rw [hl] at e1
      simp only [Option.some.injEq,Prod.mk.injEq] at e1
      obtain ⟨rfl,rfl⟩:=e1
      rw [show (0:Int).toNat=0 from rfl,e0,hN]
      generalize endv p=v at he
      rcases he with rfl | rfl | rfl <;> rfl
    | false =>
      have hN:N11 p=false:=hb
      have e0:=look_zero hb
      rw [show (0:Int).toNat=0 from rfl,e0,hN,NE_eq]
      dsimp only
      have hge:(p.variant==4)=false→evl p≤x1:=fun h4=>look_ge hb h4 hl
      generalize evl p=v at hge
      cases h4:(p.variant==4) with
      | true=>simp [N12]
      | false =>
        have:=hge h4
        simp [N12]
        omega
theorem N6_core (p:Pos) (n:Int):N6 p n=bif !N10 p then N12 else bif decide (wr .i64 (Int.ofNat (BitVec.ofInt 64 n % 4#64).toNat) > 1) then (bif N13 p then core6 p 1 else core6 p (wr .i64 (Int.ofNat (BitVec.ofInt 64 n % 4#64).toNat))) else core6 p (wr .i64 (Int.ofNat (BitVec.ofInt 64 n % 4#64).toNat)):=rfl
end Kz
end
section
namespace Kz
open Go Go.RowKit
set_option maxRecDepth 100000
set_option maxHeartbeats 1000000
def lenTab:List UInt8:=(([0,1,2,2,3,3,3,3,4,4,4,4,4,4,4,4]++List.replicate 16 5)++List.replicate 32 6++List.replicate 64 7)++List.replicate 128 8
def lenB (y:BitVec 64):Int:=wr .i64 (Int.ofNat (lenTab[(wr .u8 (Int.ofNat y.toNat)).toNat]?.getD 0).toNat)
theorem lenTab_fin:∀ (j:Fin 8) (v:Fin 256),2 ^ j.val≤v.val→v.val < 2 ^ (j.val+1)→(lenTab[v.val]?.getD 0).toNat=j.val+1:=by decide +kernel
theorem lenB_eq {y:BitVec 64} {j:Nat} (h0:2 ^ j≤y.toNat) (h1:y.toNat < 2 ^ (j+1)) (h2:y.toNat < 256):lenB y=j+1:=by
  have hj:j < 8:=by
    refine Classical.byContradiction fun hn => ?_
    have:=Nat.pow_le_pow_right (n:=2) (by omega) (show 8≤j by omega)
    omega
  unfold lenB
  rw [show Int.ofNat y.toNat=(y.toNat:Int) from rfl,wu8 (by omega) (by omega),Int.toNat_natCast,lenTab_fin ⟨j,hj⟩ ⟨y.toNat,h2⟩ h0 h1]
  exact wi64 (by simp; omega) (by simp; omega)
theorem N224_let (a:BitVec 64):N224 a=bif decide (a.toNat ≥ 4294967296) then (bif decide ((a >>> 32).toNat ≥ 65536) then (bif decide ((a >>> 32 >>> 16).toNat ≥ 256) then wr .i64 (wr .i64 (wr .i64 (32+16)+8)+lenB (a >>> 32 >>> 16 >>> 8)) else wr .i64 (wr .i64 (32+16)+lenB (a >>> 32 >>> 16))) else (bif decide ((a >>> 32).toNat ≥ 256) then wr .i64 (wr .i64 (32+8)+lenB (a >>> 32 >>> 8)) else wr .i64 (32+lenB (a >>> 32)))) else (bif decide (a.toNat ≥ 65536) then (bif decide ((a >>> 16).toNat ≥ 256) then wr .i64 (wr .i64 (16+8)+lenB (a >>> 16 >>> 8)) else wr .i64 (16+lenB (a >>> 16))) else (bif decide (a.toNat ≥ 256) then wr .i64 (8+lenB (a >>> 8)) else wr .i64 (0+lenB a))):=by kernel_rfl
def Top (x:BitVec 64) (j:Nat):Prop:=2 ^ j≤x.toNat∧x.toNat < 2 ^ (j+1)
theorem Top.shr {x:BitVec 64} {j:Nat} (h:Top x j) (k:Nat) (hk:2 ^ k≤x.toNat):k≤j∧Top (x >>> k) (j - k):=by
  obtain ⟨h0,h1⟩:=h
  have hkj:k≤j:=by
    refine Classical.byContradiction fun hn => ?_
    have:=Nat.pow_le_pow_right (n:=2) (by omega) (show j+1≤k by omega)
    omega
  refine ⟨hkj,?_⟩
  unfold Top
  rw [BitVec.toNat_ushiftRight,Nat.shiftRight_eq_div_pow]
  have hp:=Nat.two_pow_pos k
  constructor
  · rw [Nat.le_div_iff_mul_le hp,← Nat.pow_add,Nat.sub_add_cancel hkj]
    exact h0
  · rw [Nat.div_lt_iff_lt_mul hp,← Nat.pow_add,show j - k+1+k=j+1 by omega]
    exact h1
theorem N224_top {x:BitVec 64} {j:Nat} (h:Top x j) (hj:j < 64):N224 x=j+1:=by
  have w:∀ n:Int,0≤n→n≤1000→wr .i64 n=n:=fun n a b=>wi64 (by omega) (by omega)
  have fin:∀ {y:BitVec 64} {i:Nat},Top y i→y.toNat < 256→lenB y=i+1:=fun h h2=>lenB_eq h.1 h.2 h2
  rw [N224_let]
  refine c_ind (P:=fun n:Int=>n=j+1) (fun a1 => ?_) fun a1 => ?_
  · have a1:2 ^ 32≤x.toNat:=by simpa using a1
    obtain ⟨b1,t1⟩:=h.shr 32 a1
    have l1:(x >>> 32).toNat < 2 ^ 32:=by rw [BitVec.toNat_ushiftRight,Nat.shiftRight_eq_div_pow]; have:=x.isLt; omega
    generalize x >>> 32=y at t1 l1 ⊢
    refine c_ind (P:=fun n:Int=>n=j+1) (fun a2 => ?_) fun a2 => ?_
    · have a2:2 ^ 16≤y.toNat:=by simpa using a2
      obtain ⟨b2,t2⟩:=t1.shr 16 a2
      have l2:(y >>> 16).toNat < 2 ^ 16:=by rw [BitVec.toNat_ushiftRight,Nat.shiftRight_eq_div_pow]; omega
      generalize y >>> 16=z at t2 l2 ⊢
      refine c_ind (P:=fun n:Int=>n=j+1) (fun a3 => ?_) fun a3 => ?_
      · have a3:2 ^ 8≤z.toNat:=by simpa using a3
        obtain ⟨b3,t3⟩:=t2.shr 8 a3
        rw [fin t3 (by rw [BitVec.toNat_ushiftRight,Nat.shiftRight_eq_div_pow]; omega)]
        rw [w (32+16) (by omega) (by omega),w (32+16+8) (by omega) (by omega),w _ (by omega) (by omega)]
        omega
      · have a3:z.toNat < 256:=by simpa using a3
        rw [fin t2 a3,w (32+16) (by omega) (by omega),w _ (by omega) (by omega)]
        omega
    · have a2:y.toNat < 65536:=by simpa using a2
      refine c_ind (P:=fun n:Int=>n=j+1) (fun a3 => ?_) fun a3 => ?_
      · have a3:2 ^ 8≤y.toNat:=by simpa using a3
        obtain ⟨b3,t3⟩:=t1.shr 8 a3
        rw [fin t3 (by rw [BitVec.toNat_ushiftRight,Nat.shiftRight_eq_div_pow]; omega)]
        rw [w (32+8) (by omega) (by omega),w _ (by omega) (by omega)]
        omega
      · have a3:y.toNat < 256:=by simpa using a3
        rw [fin t1 a3,w _ (by omega) (by omega)]
        omega
  · have a1:x.toNat < 4294967296:=by simpa using a1
    refine c_ind (P:=fun n:Int=>n=j+1) (fun a2 => ?_) fun a2 => ?_
    · have a2:2 ^ 16≤x.toNat:=by simpa using a2
      obtain ⟨b2,t2⟩:=h.shr 16 a2
      have l2:(x >>> 16).toNat < 2 ^ 16:=by rw [BitVec.toNat_ushiftRight,Nat.shiftRight_eq_div_pow]; omega
      generalize x >>> 16=z at t2 l2 ⊢
      refine c_ind (P:=fun n:Int=>n=j+1) (fun a3 => ?_) fun a3 => ?_
      · have a3:2 ^ 8≤z.toNat:=by simpa using a3
        obtain ⟨b3,t3⟩:=t2.shr 8 a3
        rw [fin t3 (by rw [BitVec.toNat_ushiftRight,Nat.shiftRight_eq_div_pow]; omega)]
        rw [w (16+8) (by omega) (by omega),w _ (by omega) (by omega)]
        omega
      · have a3:z.toNat < 256:=by simpa using a3
        rw [fin t2 a3,w _ (by omega) (by omega)]
        omega
    · have a2:x.toNat < 65536:=by simpa using a2
      refine c_ind (P:=fun n:Int=>n=j+1) (fun a3 => ?_) fun a3 => ?_
      · have a3:2 ^ 8≤x.toNat:=by simpa using a3
        obtain ⟨b3,t3⟩:=h.shr 8 a3
        rw [fin t3 (by rw [BitVec.toNat_ushiftRight,Nat.shiftRight_eq_div_pow]; omega)]
        rw [w _ (by omega) (by omega)]
        omega
      · have a3:x.toNat < 256:=by simpa using a3
        rw [fin h a3,w _ (by omega) (by omega)]
        omega
theorem top_of {x:BitVec 64} {j:Nat} (hj:j < 64) (h1:x.getLsbD j=true) (h2:∀ i,j < i→i < 64→x.getLsbD i=false):Top x j:=by
  constructor
  · exact Nat.ge_two_pow_of_testBit h1
  · refine Nat.lt_pow_two_of_testBit _ fun i hi => ?_
    by_cases h:i < 64
    · exact h2 i (by omega) h
    · exact Nat.testBit_lt_two_pow (Nat.lt_of_lt_of_le x.isLt (Nat.pow_le_pow_right (by omega) (by omega)))
theorem N222_high {x:BitVec 64} {j:Nat} (hj:j < 64) (h1:x.getLsbD j=true) (h2:∀ i,j < i→i < 64→x.getLsbD i=false):N222 x=j:=by
  unfold N222 N223
  rw [N224_top (top_of hj h1 h2) hj,wi64 (n:=64 - ((j:Int)+1)) (by omega) (by omega),wi64 (by omega) (by omega)]
  omega
def nxt (a d:Nat):Option Nat :=
  let r:=a / 8
  let f:=a % 8
  match d with
  | 0=>if r < 7 then some (a+8) else none
  | 1=>if r < 7∧f < 7 then some (a+9) else none
  | 2=>if f < 7 then some (a+1) else none
  | 3=>if 0 < r∧f < 7 then some (a - 7) else none
  | 4=>if 0 < r then some (a - 8) else none
  | 5=>if 0 < r∧0 < f then some (a - 9) else none
  | 6=>if 0 < f then some (a - 1) else none
  | _=>if r < 7∧0 < f then some (a+7) else none
def rayL:Nat→Nat→Nat→List Nat
  | 0,_,_=>[]
  | n+1,a,d=>match nxt a d with
    | some s=>s::rayL n s d
    | none=>[]
def ray (a d:Nat):List Nat:=rayL 8 a d
def rayBits:List Nat→BitVec 64
  | []=>0#64
  | s::l=>1#64 <<< s|||rayBits l
def tails (d:Nat):List Nat→Bool
  | []=>true
  | s::l=>decide (s < 64)&&ray s d==l&&tails d l
def up (d:Nat):Bool:=d==0 || d==1 || d==2 || d==7
def sortedB (d:Nat):List Nat→Bool
  | []=>true
  | s::l=>l.all (fun t=>if up d then decide (s < t) else decide (t < s))&&sortedB d l
theorem ray_fin:∀ (a:Fin 64) (d:Fin 8),N218 a.val d.val=rayBits (ray a.val d.val)∧tails d.val (ray a.val d.val)=true∧sortedB d.val (ray a.val d.val)=true:=by decide +kernel
theorem rayBits_bit:∀ (l:List Nat) (t:Nat),t < 64→(rayBits l).getLsbD t=decide (t ∈ l)
  | [],t,_=>by simp [rayBits]
  | s::l,t,ht=>by
    rw [rayBits,BitVec.getLsbD_or,rayBits_bit l t ht,BitVec.getLsbD_shiftLeft,BitVec.getLsbD_one]
    rcases Nat.lt_trichotomy t s with h | rfl | h
    · have:¬ t=s:=by omega
      simp [h,this]
    · simp [ht]
    · have h1:¬ t=s:=by omega
      have h2:¬ t - s=0:=by omega
      have h3:¬ t < s:=by omega
      simp [h1,h2,h3]
def seen (occ:BitVec 64):List Nat→List Nat
  | []=>[]
  | s::l=>s::if occ.getLsbD s then [] else seen occ l
theorem seen_all {occ:BitVec 64}:∀ {l:List Nat},(∀ s ∈ l,occ.getLsbD s=false)→seen occ l=l
  | [],_=>rfl
  | s::l,h=>by
    rw [seen,h s (by simp),seen_all fun t ht=>h t (by simp [ht])]
    rfl
theorem seen_first {occ:BitVec 64}:∀ {pre:List Nat} {n:Nat} {post:List Nat},(∀ s ∈ pre,occ.getLsbD s=false)→occ.getLsbD n=true→seen occ (pre++n::post)=pre++[n]
  | [],n,post,_,h=>by
    show n::(if occ.getLsbD n then [] else seen occ post)=[n]
    rw [h]; rfl
  | s::pre,n,post,h1,h2=>by
    show s::(if occ.getLsbD s then [] else seen occ (pre++n::post))=s::(pre++[n])
    rw [h1 s (by simp),seen_first (fun t ht=>h1 t (by simp [ht])) h2]
    rfl
theorem first_of (occ:BitVec 64):∀ l:List Nat,(∀ s ∈ l,occ.getLsbD s=false)∨∃ pre n post,l=pre++n::post∧(∀ s ∈ pre,occ.getLsbD s=false)∧occ.getLsbD n=true
  | []=>.inl fun _ h=>by cases h
  | s::l=>by
    cases hs:occ.getLsbD s with
    | true=>exact .inr ⟨[],s,l,rfl,(fun _ h=>by cases h),hs⟩
    | false =>
      rcases first_of occ l with h | ⟨pre,n,post,rfl,h1,h2⟩
      · exact .inl fun t ht=>by
          simp only [List.mem_cons] at ht
          rcases ht with rfl | ht
          · exact hs
          · exact h t ht
      · exact .inr ⟨s::pre,n,post,rfl,fun t ht=>by
          simp only [List.mem_cons] at ht
          rcases ht with rfl | ht
          · exact hs
          · exact h1 t ht,h2⟩
theorem tails_at {d:Nat}:∀ {pre:List Nat} {n:Nat} {post:List Nat},tails d (pre++n::post)=true→ray n d=post∧n < 64∧(∀ s ∈ pre,s < 64)∧∀ s ∈ post,s < 64
  | [],n,post,h=>by
    have all:∀ l,tails d l=true→∀ s ∈ l,s < 64:=by
      intro l
      induction l with
      | nil=>intro _ s hs; cases hs
      | cons a l ih =>
        intro h s hs
        simp only [tails,Bool.and_eq_true,decide_eq_true_eq] at h
        simp only [List.mem_cons] at hs
        rcases hs with rfl | hs
        · exact h.1.1
        · exact ih h.2 s hs
    simp only [List.nil_append,tails,Bool.and_eq_true,decide_eq_true_eq,beq_iff_eq] at h
    exact ⟨h.1.2,h.1.1,(fun s hs=>by cases hs),all post h.2⟩
  | a::pre,n,post,h=>by
    simp only [List.cons_append,tails,Bool.and_eq_true,decide_eq_true_eq] at h
    obtain ⟨h1,h2,h3,h4⟩:=tails_at h.2
    exact ⟨h1,h2,fun s hs=>by
      simp only [List.mem_cons] at hs
      rcases hs with rfl | hs
      · exact h.1.1
      · exact h3 s hs,h4⟩
theorem sorted_at {d:Nat}:∀ {pre:List Nat} {n:Nat} {post:List Nat},sortedB d (pre++n::post)=true→(∀ s ∈ pre,if up d then s < n else n < s)∧(∀ s ∈ post,if up d then n < s else s < n)∧(∀ s ∈ pre,s ∉ post)∧n ∉ post
  | [],n,post,h=>by
    simp only [List.nil_append,sortedB,Bool.and_eq_true,List.all_eq_true] at h
    have h1:∀ s ∈ post,if up d then n < s else s < n:=fun s hs=>by
      have:=h.1 s hs
      split <;> simp_all
    refine ⟨(fun s hs=>by cases hs),h1,(fun s hs=>by cases hs),fun hn => ?_⟩
    have:=h1 n hn
    split at this <;> omega
  | a::pre,n,post,h=>by
    simp only [List.cons_append,sortedB,Bool.and_eq_true,List.all_eq_true] at h
    obtain ⟨h1,h2,h3,h4⟩:=sorted_at h.2
    have ha:∀ t ∈ pre++n::post,if up d then a < t else t < a:=fun t ht=>by
      have:=h.1 t ht
      split <;> simp_all
    refine ⟨fun s hs => ?_,h2,fun s hs => ?_,h4⟩
    · simp only [List.mem_cons] at hs
      rcases hs with rfl | hs
      · have:=ha n (by simp)
        exact this
      · exact h1 s hs
    · simp only [List.mem_cons] at hs
      rcases hs with rfl | hs
      · intro hp
        have:=ha s (by simp [hp])
        split at this <;> omega
      · exact h3 s hs
theorem N214_seen {a d:Nat} (ha:a < 64) (hd:d < 8) (occ:BitVec 64) {t:Nat} (ht:t < 64):(N214 a d occ).getLsbD t=decide (t ∈ seen occ (ray a d)):=by
  obtain ⟨e1,e2,e3⟩:=ray_fin ⟨a,ha⟩ ⟨d,hd⟩
  simp only at e1 e2 e3
  unfold N214
  rw [e1]
  generalize hl:ray a d=l at e2 e3 ⊢
  rcases first_of occ l with h | ⟨pre,n,post,rfl,h1,h2⟩
  · have hz:rayBits l&&&occ=0#64:=by
      apply BitVec.eq_of_getLsbD_eq
      intro i hi
      rw [BitVec.getLsbD_and,rayBits_bit l i hi]
      by_cases hm:i ∈ l
      · rw [h i hm]; simp
      · simp [hm]
    rw [hz,show ((0#64:BitVec 64)==0#64)=true from rfl,cond_true,seen_all h,rayBits_bit l t ht]
  · obtain ⟨t1,t2,t3,t4⟩:=tails_at e2
    obtain ⟨s1,s2,s3,s4⟩:=sorted_at e3
    generalize hL:pre++n::post=L at *
    have memL:∀ i,i ∈ L ↔ (i ∈ pre∨i=n∨i ∈ post):=fun i=>by rw [← hL]; simp
    have bit:∀ i,i < 64→(rayBits L&&&occ).getLsbD i=(decide (i ∈ L)&&occ.getLsbD i):=fun i hi=>by rw [BitVec.getLsbD_and,rayBits_bit L i hi]
    have bn:(rayBits L&&&occ).getLsbD n=true:=by rw [bit n t2,h2]; simp [memL]
    have hnz:(rayBits L&&&occ==0#64)=false:=by
      rw [beq_eq_false_iff_ne]
      intro e
      rw [e] at bn
      simp at bn
    have fin:(rayBits L &&& ~~~N218 (n:Int) d).getLsbD t=decide (t ∈ seen occ L):=by
      obtain ⟨f1,_⟩:=ray_fin ⟨n,t2⟩ ⟨d,hd⟩
      simp only at f1
      rw [f1,t1,BitVec.getLsbD_and,BitVec.getLsbD_not,rayBits_bit L t ht,rayBits_bit post t ht,← hL,seen_first h1 h2]
      simp only [ht,decide_true,Bool.true_and,List.mem_append,List.mem_cons,List.not_mem_nil,or_false]
      by_cases p1:t ∈ pre
      · have:=s3 t p1
        simp [p1,this]
      · by_cases p2:t=n
        · subst p2; simp [s4]
        · by_cases p3:t ∈ post <;> simp [p1,p2,p3]
    rw [hnz,cond_false]
    by_cases hu:up d=true
    · have low:N156 (rayBits L&&&occ)=n:=N156_low t2 bn fun i hi=>by
        rw [bit i (by omega)]
        by_cases hm:i ∈ L
        · rcases (memL i).1 hm with hm | rfl | hm
          · rw [h1 i hm]; simp
          · omega
          · have:=s2 i hm
            rw [if_pos hu] at this
            omega
        · simp [hm]
      rw [low]
      have hdir:d=0∨d=1∨d=2∨d=7:=by
        unfold up at hu
        simp only [Bool.or_eq_true,beq_iff_eq] at hu
        omega
      refine c_ind (P:=fun x:BitVec 64=>x.getLsbD t=_) (fun x1=>c_ind (P:=fun x:BitVec 64=>x.getLsbD t=_) (fun x2 => ?_) fun _=>fin) fun _=>fin
      have x1:(d:Int) ≥ 3:=by simpa using x1
      have x2:(d:Int)≤6:=by simpa using x2
      omega
    · have high:N222 (rayBits L&&&occ)=n:=N222_high t2 bn fun i hi h64=>by
        rw [bit i h64]
        by_cases hm:i ∈ L
        · rcases (memL i).1 hm with hm | rfl | hm
          · rw [h1 i hm]; simp
          · omega
          · have:=s2 i hm
            rw [if_neg hu] at this
            omega
        · simp [hm]
      rw [high]
      have hdir:3≤d∧d≤6:=by
        unfold up at hu
        simp only [Bool.or_eq_true,beq_iff_eq] at hu
        omega
      rw [show decide ((d:Int) ≥ 3)=true by simp; omega,show decide ((d:Int)≤6)=true by simp; omega]
      exact fin
end Kz
end
