/- Part 2 of the proof. -/
import Derived.Test.YtgbndomcmihfkaaGreatDoorE1
import Derived.Lib.OthersKept
import Derived.OrdersIn
import Derived.RangeFuncRecord
set_option linter.unusedSectionVars false
set_option linter.unusedVariables false
set_option linter.unusedSimpArgs false
set_option linter.unnecessarySimpa false
set_option maxRecDepth 100000
set_option maxHeartbeats 4000000
noncomputable section
namespace Kz
open Go Go.RowKit
noncomputable section
variable {P:Program}{g:Gh}{h:Hp}{tk:List Nat}{w:World}
theorem MR.AM (m:MR g h w)(cells:Array Value)(ty:TypeId) :
  MR { g with fz:=fun c o=>g.fz c o∨c=w.heap.size } h (w.alloc (.cells cells ty))∧Le g h.ag w { g with fz:=fun c o=>g.fz c o∨c=w.heap.size } h.ag (w.alloc (.cells cells ty)):=by
 obtain⟨m1,l1⟩:=m.alloc (.cells cells ty);have hnew:(w.alloc (.cells cells ty)).heap[w.heap.size]?=some (.cells cells ty (0,0)):=heap_alloc_new w _
 have l2:Le g h.ag (w.alloc (.cells cells ty)) { g with fz:=fun c o=>g.fz c o∨c=w.heap.size } h.ag (w.alloc (.cells cells ty)) :=
  ⟨rfl,Below.refl _ _,fun _ _ x=>.inl x,fun _ _ _ _ x=>x,fun _ _ x=>x,fun _ _ x=>x,fun _ x=>x,fun _ n x=>⟨n,x,Nat.le_refl _,fun _=>rfl⟩,fun _ _ _=>rfl⟩
 have notvar:w.heap.size∉g.vars:=fun hv=>by obtain⟨i,hi⟩:=List.getElem?_of_mem hv;have hi':=(C'.1 hi).1;obtain⟨_,_,_,d,_⟩:=m.var i _ _ hi (I' (by rw[←m.dN];exact hi'));simp_all
 refine⟨⟨m1.base,fun c o x=>?_,m1.dN,fun i c l h1 h2=>?_,m1.xc,m1.dW,m1.jU,fun k b cap z h1=>?_,m1.xd,m1.gT,fun l c r h1 h2=>?_,m1.xe,m1.defs,fun p hp=>(m.iH p hp).mono (l1.trans l2)⟩,l1.trans l2⟩
 ·rcases x with x|rfl
  ·exact m1.fC c o x
  simp_all
 ·obtain⟨a,f,o,d',e⟩:=m1.var i c l h1 h2;refine⟨a,fun o x=>?_,o,d',e.mono l2⟩;grind
 ·obtain⟨q,cs,t,a1,a2,a3,a4,a5,a6,a7,a8⟩:=m1.tok k b cap z h1;refine⟨q,cs,t,a1,a2,a3,a4,a5,a6,fun o x=>?_,a8⟩;rcases x with x|rfl
  ·exact a7 o x
  ·obtain⟨_,_,_,_,_,_,_,d,_⟩:=m.tok k _ cap z h1;simp_all
 ·obtain⟨a,R,f,d'⟩:=m1.loop l c r h1 h2;exact⟨a,R,f,d'.mono l2⟩
theorem bu.set {l:List AV}{cs:List Value}(h:bu g tk w l cs){m:Nat}(hm:∀a∈l,cX (bf a)=m){i:Nat}(hi:i<l.length){v:AV}{us:List Value}(hs:storable v=true)(hv:ay g tk w (bf v) us)(hl:cX (bf v)=m) :
  bu g tk w (l.set i v) (bA cs (i*m) us):=by
 have hul:us.length=m:=by rw[hv.length,hl]
 induction l generalizing cs i with
 |nil=>simp at hi
 |cons a l ih =>
  cases h with
  |cons hsa hx h1 h2 =>
   rename_i c r;subst hx;have hc:c.length=m:=by rw[h1.length];exact hm a (by simp)
   cases i with
   |zero =>refine .cons hs ?_ hv h2;simp[bA,hul,←hc]
   |succ i =>refine .cons hsa ?_ h1 (ih h2 (fun b hb=>hm b (by simp[hb])) (by simpa using hi));rw[Nat.succ_mul];simp only[bA];rw[List.take_append,List.take_of_length_le (by omega),List.drop_append,List.drop_eq_nil_of_le (by omega)];simp_all
theorem bu.replicate {v:AV}{us:List Value}(hs:storable v=true)(hv:ay g tk w (bf v) us)(n:Nat):bu g tk w (List.replicate n v) (List.replicate n us).flatten:=by
 induction n with
 |zero=>exact .nil
 |succ n ih=>exact .cons hs (by grind) hv ih
theorem J9 (z:List Value)(m:Nat)(hm:z.length=m)(n:Nat):((List.range (n*m)).map fun i=>z[i%m]!)=(List.replicate n z).flatten:=by
 induction n with
 |zero=>simp
 |succ n ih =>
  rw[Nat.succ_mul,List.range_add,List.map_append,ih,List.replicate_succ',List.flatten_append,List.map_map];congr 1;simp only[List.flatten_cons,List.flatten_nil,List.append_nil];apply List.ext_getElem?;intro j;rw[List.getElem?_map];by_cases hj:j<m
  ·rw[I' (by simpa using hj),I' (by omega)];simp only[List.getElem_range,Option.map_some,Function.comp,A'];rw[Nat.add_comm,Nat.add_mul_mod_self_right,Nat.mod_eq_of_lt hj];simp_all
  simp_all
theorem sk (m n:Nat):∀(ps:List (Nat×AV)) (vs:List (Nat×Value)) (l l':List AV) (cells:Array Value),mz l ps=some l'→l.length=n→cells.size=n*m→(∀a∈l,cX (bf a)=m)→(∀p∈ps,jg p.2=m)→bu g tk w l cells.toList →
  ps.map (·.1)=vs.map (·.1)→aI g tk w (ps.map (·.2)) (vs.map (·.2))→∃cells',Instr.fill (fun i=>some (i*m,m)) cells vs=some cells'∧l'.length=n∧cells'.size=n*m∧bu g tk w l' cells'.toList
 | [],vs,l,l',cells,hp,hn,hc,_,_,hr,he,_=>by
  simp[mz]at hp
  subst hp
  cases vs with
  |nil=>exact⟨cells,rfl,hn,hc,hr⟩
  |cons=>simp at he
 |(i,v)::ps,vs,l,l',cells,hp,hn,hc,hm,hps,hr,he,hv=>by
  cases vs with
  |nil=>simp at he
  |cons q vs =>
   obtain⟨i',x⟩:=q
   simp only[List.map_cons,List.cons.injEq]at he
   obtain⟨rfl,he⟩:=he
   simp only[mz,Option.ite_none_right_eq_some,E',decide_eq_true_eq]at hp
   obtain⟨⟨hi,hs⟩,h2⟩:=hp
   cases hv with
   |cons hv hrest =>
    have hvs:=aM.bf (v:=x) hv hs
    have hvm:jg v=m:=hps (i,v) (by simp)
    have hsz:x.cells.size=m:=by
     have:=qz (v:=x) hv hs
     rw[←ij hs]at this
     exact this.trans hvm
    have hlm:cX (bf v)=m:=by rw[←ij hs];exact hvm
    have hlen:i*m+x.cells.size≤cells.size:=by rw[hsz,hc];exact o6 (by omega)
    have e:=rZ (i*m) x.cells.toList 0 cells (by simpa using hlen)
    have e2:((x.cells.zipIdx.foldl (fun cs (p:Value×Nat)=>cs.setIfInBounds (i*m+p.2) p.1) cells).toList)=bA cells.toList (i*m) x.cells.toList:=by
     rw[←Array.foldl_toList,Array.toList_zipIdx,e,Nat.add_zero]
    have hnew:=hr.set hm hi hs hvs hlm
    rw[←e2]at hnew
    have hsz2:(x.cells.zipIdx.foldl (fun cs (p:Value×Nat)=>cs.setIfInBounds (i*m+p.2) p.1) cells).size=n*m:=by
     rw[←Array.length_toList,e2,eL _ _ _ (by simpa using hlen)];simpa using hc
    obtain⟨cells',f1,f2,f3,f4⟩:=sk m n ps vs (l.set i v) l' _ h2 (by simpa using hn) hsz2 (by grind) (by grind) hnew he hrest
    refine⟨cells',?_,f2,f3,f4⟩
    simp only[Instr.fill]
    simp_all
theorem ay.Vb (l r:List AV)(cs:List Value):¬ay g tk w (.agg l::r) cs:=by
 intro h;cases h with
 |one hs=>simp[aK]at hs
theorem xh (m:MR g h w){t:TypeId}{n:Nat}{ps:List (Nat×AV)}{v:AV}{vs:Array (Nat×Value)}(hb:mq P t n ps=some v)(hn:ps.map (·.1)=vs.toList.map (·.1))(hv:aI g h.ag w (ps.map (·.2)) (vs.toList.map (·.2))) :
  ∃y g' w',(Instr.buildSlice t n vs).run P w=.ok y w'∧MR g' h w'∧Le g h.ag w g' h.ag w'∧aM g' h.ag w' v y:=by
 unfold mq at hb;split at hb
 ·rename_i e hu;simp only[B',Option.ite_none_right_eq_some,H',E',decide_eq_true_eq,beq_iff_eq,List.all_eq_true]at hb;obtain⟨z,hz,x,hx,mm,hm,⟨⟨⟨⟨h1,h2⟩,h3⟩,h4⟩,h5⟩,l',hp,rfl⟩:=hb;obtain⟨i,zv,hi,hzz,hr⟩:=nC (g:=g) (tk:=h.ag) (w:=w) hz;have hzero:(zeroValue e).run P w=.ok zv w:=by simp[zeroValue,Sem.run_bind,run_typeInfo e i hi,hzz,pure]
  have hsx:bf x=z∧cX (bf x)=mm:=by
   rw[←ij h3];refine⟨?_,h4⟩;unfold valOf at hx;split at hx
   ·simp at hx;subst hx;rfl
   ·split at hx
    ·rename_i v;simp at hx;subst hx;cases v<;>first|rfl|skip
     exact absurd hr (ay.Vb _ _ _)
    ·cases hx
  have hzl:zv.cells.toList.length=mm:=by rw[hr.length,←hsx.1];exact hsx.2
  have hzs:zv.cells.size=mm:=by simpa using hzl
  have hrow:((Array.range (n*mm)).map (fun i=>zv.cells[i%zv.cells.size]!)).toList=(List.replicate n zv.cells.toList).flatten:=by rw[Array.toList_map,Array.toList_range,←J9 _ mm hzl n];apply List.map_congr_left;intro j _;rw[hzs];simp only[getElem!_def,Array.getElem?_toList]
  have hrep:bu g h.ag w (List.replicate n x) ((Array.range (n*mm)).map (fun i=>zv.cells[i%zv.cells.size]!)).toList:=by rw[hrow];exact bu.replicate h3 (by rw[hsx.1];exact hr) n
  obtain⟨cells',f1,f2,f3,f4⟩:=sk mm n ps vs.toList _ _ _ hp (by simp) (by simp) (by grind) (fun p hp=>h5 p hp) hrep hn hv;obtain⟨m1,l1⟩:=m.AM cells' e;refine⟨.slice (some ⟨w.heap.size,0,none⟩) n n,_,_,?_,m1,l1,.vlist (by exact f2.symm) (f4.mono l1) (.inr ⟨w.heap.size,0,rfl,fun j u hj=>⟨?_,.inr rfl⟩,fun _=>m.base⟩) (by omega)⟩
  ·unfold Instr.buildSlice;simp only[Sem.run_bind,run_underlying t _ hu,Result.andThen_ok,run_sizeOf e mm hm];rw[if_neg (by omega)];by_cases h0:n*mm=0
   ·simp only[h0,if_true,Sem.run_bind,Sem.run_pure,Result.andThen_ok];have he:((Array.range 0).map fun i=>(#[]:Array Value)[i%(#[]:Array Value).size]!)=((Array.range (n*mm)).map (fun i=>zv.cells[i%zv.cells.size]!)):=by rw[h0];simp
    rw[he,f1];rfl
   ·rw[if_neg h0];simp only[Sem.run_bind,hzero,Sem.run_pure,Result.andThen_ok];rw[f1];rfl
  simp_all
 ·cases hb
theorem MR.ai5 (m:MR g h w){b:Nat}{l l':List AV}(hb:h.heap[b]?=some l)(hn:nY l=some l)(hl:∀cs,ay g h.ag w l cs→ay g h.ag w l' cs):MR g { h with heap:=h.heap.set b l' } w:=by
 refine⟨m.base,m.fC,by simp[m.dN],fun i c l2 h1 h2=>?_,m.xc,m.dW,m.jU,m.tok,m.xd,m.gT,m.loop,m.xe,m.defs,m.iH⟩;by_cases hi:b=i
 ·subst hi;have h3:(h.heap.set b l')[b]?=some l2:=h2;rw[List.getElem?_set_self (C'.1 hb).1]at h3;cases h3;obtain⟨x1,x2,cells,ty,x3,x4⟩:=m.Te h1 hb hn;exact⟨x1,x2,_,x3,.of (hl _ x4)⟩
 ·have h3:(h.heap.set b l')[i]?=some l2:=h2;rw[List.getElem?_set_ne hi]at h3;exact m.var i c l2 h1 h3
theorem Ut {t:TypeId}{e:ET}(h:IT P t=some e):t=tyB:=by unfold IT at h;simp_all
theorem yw (m:MR g h w){t:TypeId}{l:List AV}{cells:Array Value}(hr:ay g h.ag w l cells.toList) :
  ∃g',MR g' (cT P h t l).1 (w.alloc (.cells cells t))∧Le g h.ag w g' (cT P h t l).1.ag (w.alloc (.cells cells t))∧aM g' (cT P h t l).1.ag (w.alloc (.cells cells t)) (cT P h t l).2 (.pointer (some ⟨w.heap.size,0,none⟩)):=by
 unfold cT;split
 ·rename_i e he;obtain⟨m1,l1⟩:=m.kO;have hr1:ay { g with own:=g.own++[none] } (h.ag++[0]) w [.list e [] (.own h.ag.length)] cells.toList:=by obtain⟨c,r,hc,q,hr'⟩:=hr.inv_one rfl;obtain rfl:=hr'.cL;cases q;rw[hc];exact .one rfl (.list (cs:=[]) rfl .nil (.inl rfl) (fun k ek=>by cases ek;exact⟨0,by simp,Nat.le_refl _,fun _=>⟨none,by simp[m.dW],rfl,rfl,rfl⟩⟩) (Nat.le_refl _)) .nil
  obtain⟨m2,l2⟩:=m1.newVar t hr1;exact⟨_,m2,l1.trans l2,.ptr (by simp[m.dN])⟩
 ·rename_i e he;obtain⟨m1,l1⟩:=m.kO;have hr1:ay { g with own:=g.own++[none] } (h.ag++[0]) w [.nilptr,.list e [] (.own h.ag.length)] cells.toList:=by obtain⟨c,r,hc,q,hr'⟩:=hr.inv_one rfl;obtain⟨c2,r2,hc2,q2,hr2⟩:=hr'.inv_one rfl;obtain rfl:=hr2.cL;cases q;cases q2;rw[hc,hc2];exact .one rfl .nilptr (.one rfl (.list (cs:=[]) rfl .nil (.inl rfl) (fun k ek=>by cases ek;exact⟨0,by simp,Nat.le_refl _,fun _=>⟨none,by simp[m.dW],rfl,rfl,rfl⟩⟩) (Nat.le_refl _)) .nil)
  obtain⟨m2,l2⟩:=m1.newVar t hr1;have hshp:(w.alloc (.cells cells t)).shape? w.heap.size=some (tyB,2):=by
   obtain rfl:=Ut he;obtain⟨c,r,hc,q,hr'⟩:=hr1.inv_one rfl;obtain⟨c2,r2,hc2,q2,hr2⟩:=hr'.inv_one rfl;obtain rfl:=hr2.cL;have hz:cells.size=2:=by rw[←Array.length_toList,hc,hc2];rfl
   unfold World.shape?;rw[heap_alloc_new w (.cells cells tyB)];show some (tyB,cells.size)=_;rw[hz]
  have m3:=m2.ai5 (b:=h.heap.length) (l:=[.nilptr,.list e [] (.own h.ag.length)]) (l':=[.slf h.heap.length,.list e [] (.own h.ag.length)]) (by simp) rfl fun cs hc=>by obtain⟨c,r,rfl,q,hr'⟩:=hc.inv_one rfl;cases q;exact .one rfl (.slf (c:=w.heap.size) (by simp[m.dN]) (.inl rfl) hshp) hr'
  refine⟨_,?_,l1.trans l2,.ptr (by simp[m.dN])⟩;simp_all
 ·obtain⟨m2,l2⟩:=m.newVar t hr;exact⟨_,m2,l2,.ptr (by simp[m.dN])⟩
theorem LB (m:MR g h w){t:TypeId}{l:List AV}(hz:oa P t=some l) :
  ∃y g' w',(Instr.alloc t true (.tuple #[])).run P w=.ok y w'∧MR g' (cT P h t l).1 w'∧Le g h.ag w g' (cT P h t l).1.ag w'∧aM g' (cT P h t l).1.ag w' (cT P h t l).2 y:=by obtain⟨i,zv,hi,hzz,hr⟩:=nC (g:=g) (tk:=h.ag) (w:=w) hz;obtain⟨g',m',l',r'⟩:=yw (P:=P) m (t:=t) hr;refine⟨_,g',_,?_,m',l',r'⟩;simp[Instr.alloc,zeroValue,Sem.run_bind,run_typeInfo t i hi,hzz,pure];rfl
theorem Y9 (m:MR g h w){t:TypeId}{v:AV}{x:Value}(hs:storable v=true)(hv:aM g h.ag w v x) :
  ∃y g' w',(Instr.box t x).run P w=.ok y w'∧MR g' (cT P h t (bf v)).1 w'∧Le g h.ag w g' (cT P h t (bf v)).1.ag w'∧aM g' (cT P h t (bf v)).1.ag w' (cT P h t (bf v)).2 y:=by obtain⟨g',m',l',r'⟩:=yw (P:=P) m (t:=t) (hv.bf hs);exact⟨_,g',_,rfl,m',l',r'⟩
theorem JI (m:MR g h w){t:TypeId}{b:Bool}{v:AV}{x:Value}(hb:b=true→x=.slice none 0 0)(hv:aM g h.ag w v x) :
  ∃g',MR g' (iK P h t b v).1 w∧Le g h.ag w g' (iK P h t b v).1.ag w∧aM g' (iK P h t b v).1.ag w (iK P h t b v).2 x:=by
 unfold iK;split
 ·rename_i e he;obtain⟨m1,l1⟩:=m.kO;refine⟨_,m1,l1,?_⟩;rw[hb rfl];exact .list (cs:=[]) rfl .nil (.inl rfl) (fun k ek=>by cases ek;exact⟨0,by simp,Nat.le_refl _,fun _=>⟨none,by simp[m.dW],rfl,rfl,rfl⟩⟩) (Nat.le_refl _)
 ·exact⟨g,m,Le.refl _ _ _,hv⟩
theorem abB {t ty:TypeId}{x v:AV}{a:Value}(hl:((P.underlying t).bind fun d=>IF d x)=some v)(hx:aM g tk w x a):∃y,(Builtin.len_ #[t] ty #[a]).run P w=.ok y w∧aM g tk w v y:=by
 simp only[B']at hl;obtain⟨d,hd,hl⟩:=hl;have hu:=run_underlying (w:=w) t d hd;have key:∀n:Nat,(match (d,a)with|(TypeDesc.string,Value.string s)=>s.size=n|(TypeDesc.array m _,_)=>m=n|(TypeDesc.slice _,Value.slice _ m _)=>m=n|_=>False)→(Builtin.len_ #[t] ty #[a]).run P w=.ok (.int .i64 (n:Int)) w:=by intro n hn;unfold Builtin.len_;simp only[List.getElem?_toArray,List.getElem?_cons_zero,Sem.run_bind,hu,Result.andThen_ok];split at hn<;>first|(exact hn.elim)|(rename_i e;simp only[Prod.mk.injEq]at e;obtain⟨rfl,rfl⟩:=e;subst hn;rfl)|skip
 unfold IF at hl;split at hl<;>first|(cases hl;done)|simp only[A']at hl
 all_goals subst hl
 ·cases hx with
  |list hn=>exact⟨_,key _ hn,.int _ _⟩
 ·cases hx with
  |vlist hn=>exact⟨_,key _ hn,.bj _ _⟩
 ·cases hx with
  |vany hn=>exact⟨_,key _ hn,.bj _ _⟩
 ·cases hx;exact⟨_,key _ rfl,.bj _ _⟩
 ·cases hx;exact⟨_,key _ rfl,.bj _ _⟩
 ·cases hx with
  |str h=>subst h;exact⟨_,key _ (by simp),.int _ _⟩
 ·exact⟨_,key _ rfl,.bj _ _⟩
theorem Eb {l:List AV}{i:Nat}{v:AV}{a:Value}(hl:l[i]?=some v)(hx:aM g tk w (.tuple l) a):∃y,(Instr.extract a i).run P w=.ok y w∧aM g tk w v y:=by
 cases hx with
 |tuple h =>obtain⟨y,h1,h2⟩:=h.get i v hl;refine⟨y,?_,h2⟩;simp only[Instr.extract];simp_all
theorem KF {t:TypeId}{v:AV}{a:Value}(ht:Dw P t=true)(hx:aM g tk w v a):(Instr.makeInterface t a).run P w=.ok (.iface t a) w∧aM g tk w (.iface t v) (.iface t a):=by
 refine⟨?_,.iface hx⟩;unfold Dw at ht;split at ht
 ·cases ht
 ·rename_i d hd _;simp only[Instr.makeInterface,Sem.run_bind,run_underlying t _ (by assumption),Result.andThen_ok];rfl
 ·cases ht
theorem ID {xt t u:TypeId}{v y:AV}{a:Value}(hy:Ag P u v t=some y)(hx:aM g tk w (.iface u v) a):∃z,(Instr.typeAssert a xt t true).run P w=.ok z w∧aM g tk w y z:=by
 unfold Ag at hy;simp only[E',beq_iff_eq,Option.ite_none_right_eq_some,A']at hy;obtain⟨⟨hc,rfl⟩,rfl⟩:=hy;cases hx with
 |iface hv =>
  rename_i b;refine⟨.tuple #[b,.bool true],?_,.tuple (.cons hv (.cons (.aU true) .nil))⟩;unfold Dw at hc;cases hd:P.underlying u with
  |none=>rw[hd]at hc;cases hc
  |some d =>
   rw[hd]at hc;cases d with
   |interface ms=>cases hc
   |_ =>simp only[Instr.typeAssert,Sem.run_bind,run_underlying u _ hd,Result.andThen_ok];simp only[if_true];rfl
theorem AS (isMax:Bool){x y v:AV}{a b:Value}(h:vp isMax x y=some v)(hx:aM g tk w x a)(hy:aM g tk w y b):∃c,((if isMax then Builtin.max2 a b else Builtin.min2 a b)).run P w=.ok c w∧aM g tk w v c:=by
 unfold vp at h;split at h
 ·rename_i c k n c' k' n' h1 h2;simp only[Option.ite_none_right_eq_some,A']at h;obtain⟨rfl,rfl⟩:=h;obtain rfl:=ux h1 hx;obtain rfl:=ux h2 hy;cases isMax
  ·exact⟨_,rfl,mY _ _ _⟩
  ·exact⟨_,rfl,mY _ _ _⟩
 ·cases h
theorem oN (isMax:Bool):∀(xs:List AV) (x v:AV) (a:Value) (as1:List Value),nD isMax x xs=some v→aM g tk w x a→aI g tk w xs as1→∃c,(as1.foldlM (if isMax then Builtin.max2 else Builtin.min2) a).run P w=.ok c w∧aM g tk w v c
 | [],x,v,a,as1,h,hx,hr=>by
  cases hr
  simp only[nD,A']at h
  simp_all
 |y::xs,x,v,a,as1,h,hx,hr=>by
  cases hr with
  |cons hy hr =>
   simp only[nD,B']at h
   obtain⟨z,h1,h2⟩:=h
   obtain⟨c,e1,e2⟩:=AS (P:=P) isMax h1 hx hy
   obtain⟨d,e3,e4⟩:=oN isMax xs z v c _ h2 e2 hr
   refine⟨d,?_,e4⟩
   rw[List.foldlM_cons,Sem.run_bind]
   cases isMax
   ·simp_all
   simp_all
theorem nB {k:IntKind}{n:Int}{y:Nat}{c:BoundsCode}(h:0≤n∧n≤y):(Instr.sliceBound (.int k n) y c).run P w=.ok n.toNat w:=by unfold Instr.sliceBound;simp only[asIntOf,Sem.run_bind,Sem.run_pure,Result.andThen_ok];rw[if_pos h];rfl
theorem vU (isSl:Bool){n cap l h:Nat}{ok:Bool}{lo hi:Option AV}(hb:qH n lo hi=some (ok,l,h))(hok:ok=true)(hc:n≤cap){lo' hi':Option Value}(h1:∀a,lo=some a→∃b,lo'=some b∧aM g tk w a b)(h1n:lo=none→lo'=none)(h2:∀a,hi=some a→∃b,hi'=some b∧aM g tk w a b)(h2n:hi=none→hi'=none) :
  (Instr.sliceBounds isSl n cap lo' hi' none).run P w=.ok (l,h,cap) w∧l≤h∧h≤n:=by
 unfold qH at hb;cases lo with
 |none =>
  obtain rfl:=h1n rfl;cases hi with
  |none =>obtain rfl:=h2n rfl;simp at hb;obtain⟨_,rfl,rfl⟩:=hb;exact⟨rfl,Nat.zero_le _,Nat.le_refl _⟩
  |some b =>
   obtain⟨b',rfl,hb'⟩:=h2 b rfl;simp only[Option.map_none,Option.map_some]at hb;cases hi':idxOf b with
   |none=>simp_all
   |some q =>obtain⟨c,m⟩:=q;rw[hi']at hb;simp only[A',Prod.mk.injEq]at hb;obtain⟨rfl,rfl,rfl⟩:=hb;simp only[E',decide_eq_true_eq]at hok;obtain⟨k,rfl⟩:=eS hi' hb';refine⟨?_,Nat.zero_le _,by omega⟩;simp only[Instr.sliceBounds,Sem.run_bind,Sem.run_pure,Result.andThen_ok,nB (P:=P) (w:=w) (k:=k) (y:=cap) (n:=m) ⟨hok.1,by omega⟩]
 |some a =>
  obtain⟨a',rfl,ha'⟩:=h1 a rfl;cases ia:idxOf a with
  |none=>simp_all
  |some q =>
   obtain⟨c,m⟩:=q;obtain⟨k,rfl⟩:=eS ia ha';cases hi with
   |none =>obtain rfl:=h2n rfl;simp only[Option.map_some,Option.map_none,ia,A',Prod.mk.injEq]at hb;obtain⟨rfl,rfl,rfl⟩:=hb;simp only[E',decide_eq_true_eq]at hok;refine⟨?_,by omega,Nat.le_refl _⟩;simp only[Instr.sliceBounds,Sem.run_bind,Sem.run_pure,Result.andThen_ok,nB (P:=P) (w:=w) (k:=k) (y:=n) (n:=m) ⟨hok.1,by omega⟩]
   |some b =>
    obtain⟨b',rfl,hb'⟩:=h2 b rfl;cases ib:idxOf b with
    |none=>simp_all
    |some q =>obtain⟨c',m'⟩:=q;obtain⟨k',rfl⟩:=eS ib hb';simp only[Option.map_some,ia,ib,A',Prod.mk.injEq]at hb;obtain⟨rfl,rfl,rfl⟩:=hb;simp only[E',decide_eq_true_eq]at hok;refine⟨?_,by omega,by omega⟩;simp only[Instr.sliceBounds,Sem.run_bind,Sem.run_pure,Result.andThen_ok,nB (P:=P) (w:=w) (k:=k') (y:=cap) (n:=m') ⟨by omega,by omega⟩,nB (P:=P) (w:=w) (k:=k) (y:=m'.toNat) (n:=m) ⟨by omega,by omega⟩]
theorem bu.take {l:List AV}{cs:List Value}(h:bu g tk w l cs){m:Nat}(hm:∀a∈l,cX (bf a)=m)(k:Nat):bu g tk w (l.take k) (cs.take (k*m)):=by
 induction l generalizing cs k with
 |nil=>cases h;simpa using bu.nil
 |cons a l ih =>
  cases h with
  |cons hs hx h1 h2 =>
   rename_i c r;subst hx;have hc:c.length=m:=by rw[h1.length];exact hm a (by simp)
   cases k with
   |zero=>simpa using bu.nil
   |succ k =>refine .cons hs ?_ h1 (ih h2 (fun b hb=>hm b (by simp[hb])) k);rw[Nat.succ_mul,List.take_append,List.take_of_length_le (by omega)];congr 2;omega
theorem bu.drop {l:List AV}{cs:List Value}(h:bu g tk w l cs){m:Nat}(hm:∀a∈l,cX (bf a)=m)(k:Nat):bu g tk w (l.drop k) (cs.drop (k*m)):=by
 induction l generalizing cs k with
 |nil=>cases h;simpa using bu.nil
 |cons a l ih =>
  cases h with
  |cons hs hx h1 h2 =>
   rename_i c r;subst hx;have hc:c.length=m:=by rw[h1.length];exact hm a (by simp)
   cases k with
   |zero=>simpa using bu.cons hs rfl h1 h2
   |succ k =>have:=ih h2 (fun b hb=>hm b (by simp[hb])) k;rw[Nat.succ_mul,List.drop_append,(List.drop_eq_nil_of_le (by omega):List.drop (k*m+m) c=[]),List.nil_append,List.drop_succ_cons];simp_all
theorem PJ {t:TypeId}{x v:AV}{a:Value}{lo hi:Option AV}(h:(ES P t x lo hi).get=some v)(hx:aM g tk w x a){lo' hi':Option Value}(h1:∀a,lo=some a→∃b,lo'=some b∧aM g tk w a b)(h1n:lo=none→lo'=none)(h2:∀a,hi=some a→∃b,hi'=some b∧aM g tk w a b)(h2n:hi=none→hi'=none) :
  ∃y,(Instr.sliceAt t a lo' hi' none).run P w=.ok y w∧aM g tk w v y:=by
 unfold ES at h;split at h
 ·rename_i s hu;split at h
  ·rename_i ok l hh hb;simp only[get_guard,aj,A']at h;obtain⟨hok,rfl⟩:=h;cases hx with
   |str hs =>
    rename_i b;subst hs;obtain⟨r,q1,q2⟩:=vU (P:=P) (g:=g) (tk:=tk) false hb hok (Nat.le_refl _) h1 h1n h2 h2n;have hsz:b.data.toList.length=b.size:=by simp
    refine⟨.string (b.extract l hh),?_,.str ?_⟩
    ·unfold Instr.sliceAt;simp only[Sem.run_bind,run_underlying t _ hu,Result.andThen_ok,Instr.slice];simp_all
    ·rw[ByteArray.data_extract,Array.toList_extract,List.extract_eq_take_drop,List.drop_take]
  ·simp at h
 ·rename_i el e s k hu;split at h
  ·rename_i ok l hh e' hb he;split at h
   ·rename_i hee;subst hee;simp only[get_guard,aj,A']at h;obtain⟨hok,rfl⟩:=h;obtain⟨el',i,z,H⟩:=my he;have hel:el=el':=by have:=hu.symm.trans H.Ml;simpa using this
    subst hel;cases hx with
    |list hn hr ha ht hc =>
     rename_i ad n cap cs;subst hn;obtain⟨r,q1,q2⟩:=vU (P:=P) (g:=g) (tk:=tk) true hb hok hc h1 h1n h2 h2n;have hs:=run_sizeOf (P:=P) (w:=w) el (lF e') (by simp[bW,H.info,H.size]);have hm:∀a∈s.map (enc e'),cX (bf a)=lF e':=fun q hq=>by obtain⟨u,_,rfl⟩:=List.mem_map.1 hq;exact(ft e' u).2
     refine⟨.slice (if cap=l then ad else ad.map (·.add (l*lF e'))) (hh-l) (cap-l),?_,.list (cs:=(cs.take (hh*lF e')).drop (l*lF e')) (by simp;omega) ?_ ?_ ?_ ?_⟩
     ·unfold Instr.sliceAt;simp only[Sem.run_bind,run_underlying t _ hu,Result.andThen_ok,Instr.slice,r,hs];rfl
     ·rw[List.map_drop,List.map_take];exact(hr.take hm hh).drop (by grind) l
     ·rcases ha with rfl|⟨c,o,rfl,hat,hfr⟩
      ·exact .inl (by simp)
      ·by_cases hcl:cap=l
       ·left;grind
       ·right;rw[if_neg hcl];refine⟨c,o+l*lF e',by simp[fF],fun j x hx=>?_,fun hne=>hfr (by cases k<;>simp_all[Tk.res])⟩;have hx':cs[l*lF e'+j]?=some x:=by
         rw[List.getElem?_drop]at hx;rw[List.getElem?_take]at hx;split at hx
         ·exact hx
         ·cases hx
        have:=hat _ _ hx';grind
     ·intro k' ek;cases k<;>simp[Tk.res]at ek
     ·simp;omega
   ·simp at h
  ·simp at h
 ·rename_i n e b o hu;split at h
  ·rename_i hc;simp only[aj,A']at h;subst h;simp only[E',Option.isNone_iff_eq_none,decide_eq_true_eq]at hc;obtain⟨⟨rfl,rfl⟩,hs⟩:=hc;obtain rfl:=h1n rfl;obtain rfl:=h2n rfl;cases hx with
   |ptr hb =>refine⟨_,?_,.vsl hb⟩;unfold Instr.sliceAt;simp only[Sem.run_bind,run_underlying t _ hu,Result.andThen_ok,Instr.sureAddr,Sem.run_pure,Instr.sliceBounds,run_sizeOf (P:=P) (w:=w) e 1 hs,fF,Nat.zero_mul,Nat.add_zero,Nat.sub_zero,ite_self]
  ·simp at h
 ·simp at h
end
def O4 (nt:Nat):Tk→Bool
 | .own k=>decide (k<nt)
 |_=>true
mutual
def cK (nv nt nl:Nat):AV→Bool
 | .ptr b _ | .ptri b .. | .vsl b .. | .slf b=>b<nv
 | .list _ _ (.own k)=>k<nt
 | .ptrf v | .iface _ v=>cK nv nt nl v
 | .func _ a b=>gj nv nt nl a&&gj nv nt nl b
 | .agg l | .tuple l=>gj nv nt nl l
 | .vlist _ l=>gj nv nt nl l
 | .vany t l=>O4 nt t&&gj nv nt nl l
 | .yield l=>l<nl
 |_=>true
def gj (nv nt nl:Nat):List AV→Bool
 | []=>true
 |v::vs=>cK nv nt nl v&&gj nv nt nl vs
end
theorem ko (nv nt nl:Nat)(v:AV):gj nv nt nl (bf v)=cK nv nt nl v:=by cases v<;>simp[bf,gj,cK]
theorem jH (n:Nat)(v:AV):bV n (bf v)=aV n v:=by cases v<;>simp[bf,bV,aV]
theorem abp (nv nt nl:Nat)(e:ET)(x:e.T):cK nv nt nl (enc e x)=true:=by cases e<;>simp[enc,Mv.av,Pos.av,cK,gj]
theorem SZ (nv nt nl:Nat)(e:ET)(l:List e.T):gj nv nt nl (l.map (enc e))=true:=by
 induction l with
 |nil=>rfl
 |cons x l ih=>simp[gj,abp,ih]
theorem bI {α:Type}{l:List α}{i:Nat}{x:α}(h:l[i]?=some x):i<l.length:=by grind
noncomputable section
variable {g g':Gh}{tk tk':List Nat}{w w':World}
theorem NG {nt:Nat}(hn:tk.length≤nt){z n cap:Nat}{a:Option Addr}{e:ET}{l:List e.T}{t:Tk}(ht:jI g tk z t n cap a)(nv nl:Nat):cK nv nt nl (.list e l t)=true:=by
 cases t with
 |arg=>rfl
 |fresh=>rfl
 |own k =>obtain⟨n,h1,_⟩:=ht k rfl;simpa[cK]using(by grind)
theorem Ik {nt:Nat}(hn:tk.length≤nt){z n cap:Nat}{a:Option Addr}{t:Tk}(ht:jI g tk z t n cap a):O4 nt t=true:=by
 cases t with
 |arg=>rfl
 |fresh=>rfl
 |own k =>obtain⟨n,h1,_⟩:=ht k rfl;simpa[O4]using(by grind)
theorem IZ {nv nt nl:Nat}{t:Tk}(h:O4 nt t=true):Kz.cK nv nt nl (.list .u64 [] t)=true:=by
 cases t with
 |arg=>rfl
 |fresh=>rfl
 |own k=>simpa[Kz.cK,O4]using h
mutual
theorem aM.cK {a:AV}{v:Value}:aM g tk w a v→cK g.vars.length tk.length g.loops.length a=true
 | .any _=>rfl
 | .undef=>rfl
 | .bool _=>rfl
 | .aU _=>rfl
 | .int .. => rfl
 | .bj .. => rfl
 | .u64 _=>rfl
 | .str _=>rfl
 | .agg h=>by rw[Kz.cK];exact ay.gj h
 | .ptr h=>by simpa[Kz.cK]using bI h
 | .ptri h _ _ _=>by simpa[Kz.cK]using bI h
 | .slf h _ _=>by simpa[Kz.cK]using bI h
 | .ptrf h _=>by rw[Kz.cK,←ko];exact ay.gj h
 | .nilptr=>rfl
 | .list _ _ _ ht _=>NG (Nat.le_refl _) ht _ _
 | .vlist _ h _ _=>by rw[Kz.cK];exact bu.gj h
 | .vany _ h _ ht _=>by rw[Kz.cK,Ik (Nat.le_refl _) ht,Bool.true_and];exact bu.gj h
 | .vsl h=>by simpa[Kz.cK]using bI h
 | .nilsl=>rfl
 | .func ha hb=>by rw[Kz.cK,aI.gj ha,aI.gj hb];rfl
 | .yield h=>by simpa[Kz.cK]using bI h
 | .nilfunc=>rfl
 | .iface h=>by rw[Kz.cK];exact aM.cK h
 | .niliface=>rfl
 | .tuple h=>by rw[Kz.cK];exact aI.gj h
theorem ay.gj {a:List AV}{v:List Value}:ay g tk w a v→gj g.vars.length tk.length g.loops.length a=true
 | .nil=>rfl
 | .ints _ _ h=>by rw[Kz.gj,ay.gj h];rfl
 | .one _ h hr=>by rw[Kz.gj,aM.cK h,ay.gj hr];rfl
theorem aI.gj {a:List AV}{v:List Value}:aI g tk w a v→gj g.vars.length tk.length g.loops.length a=true
 | .nil=>rfl
 | .cons h hr=>by rw[Kz.gj,aM.cK h,aI.gj hr];rfl
theorem bu.gj {a:List AV}{v:List Value}:bu g tk w a v→gj g.vars.length tk.length g.loops.length a=true
 | .nil=>rfl
 | .cons _ _ h hr=>by rw[Kz.gj,←ko,ay.gj h,bu.gj hr];rfl
end
mutual
theorem aM.under {n nl:Nat}{a:AV}{v:Value}(hb:aV n a=true):aM g tk w a v→Kz.cK n tk.length nl a=true
 | .any _=>rfl
 | .undef=>rfl
 | .bool _=>rfl
 | .aU _=>rfl
 | .int .. => rfl
 | .bj .. => rfl
 | .u64 _=>rfl
 | .str _=>rfl
 | .agg h=>by rw[Kz.cK];exact ay.under (by simpa[aV]using hb) h
 | .ptr h=>by simpa[Kz.cK,aV]using hb
 | .ptri h _ _ _=>by simpa[Kz.cK,aV]using hb
 | .slf h _ _=>by simpa[Kz.cK,aV]using hb
 | .ptrf h _=>by rw[Kz.cK,←ko];exact ay.under (by rw[jH];simpa[aV]using hb) h
 | .nilptr=>rfl
 | .list _ _ _ ht _=>NG (Nat.le_refl _) ht _ _
 | .vlist _ h _ _=>by rw[Kz.cK];exact bu.under (by simpa[aV]using hb) h
 | .vany _ h _ ht _=>by rw[Kz.cK,Ik (Nat.le_refl _) ht,Bool.true_and];exact bu.under (by simpa[aV]using hb) h
 | .vsl h=>by simpa[Kz.cK,aV]using hb
 | .nilsl=>rfl
 | .func ha hb'=>by
  simp only[aV,E']at hb
  rw[Kz.cK,aI.under hb.1 ha,aI.under hb.2 hb'];rfl
 | .yield h=>by simp[aV]at hb
 | .nilfunc=>rfl
 | .iface h=>by rw[Kz.cK];exact aM.under (by simpa[aV]using hb) h
 | .niliface=>rfl
 | .tuple h=>by rw[Kz.cK];exact aI.under (by simpa[aV]using hb) h
theorem ay.under {n nl:Nat}{a:List AV}{v:List Value}(hb:bV n a=true):ay g tk w a v→Kz.gj n tk.length nl a=true
 | .nil=>rfl
 | .ints _ _ h=>by
  simp only[bV,E']at hb
  rw[Kz.gj,ay.under hb.2 h];rfl
 | .one _ h hr=>by
  simp only[bV,E']at hb
  rw[Kz.gj,aM.under hb.1 h,ay.under hb.2 hr];rfl
theorem aI.under {n nl:Nat}{a:List AV}{v:List Value}(hb:bV n a=true):aI g tk w a v→Kz.gj n tk.length nl a=true
 | .nil=>rfl
 | .cons h hr=>by
  simp only[bV,E']at hb
  rw[Kz.gj,aM.under hb.1 h,aI.under hb.2 hr];rfl
theorem bu.under {n nl:Nat}{a:List AV}{v:List Value}(hb:bV n a=true):bu g tk w a v→Kz.gj n tk.length nl a=true
 | .nil=>rfl
 | .cons _ _ h hr=>by
  simp only[bV,E']at hb
  rw[Kz.gj,←ko,ay.under (by rw[jH];exact hb.1) h,bu.under hb.2 hr];rfl
end
structure Cut (nv nt nl:Nat)(g:Gh)(tk:List Nat)(g':Gh)(tk':List Nat):Prop where
 base:g'.base=g.base
 fz:∀c o,g.fz c o→g'.fz c o
 vars:∀(i c:Nat),i<nv→g.vars[i]?=some c→g'.vars[i]?=some c
 loops:∀(i c:Nat),i<nl→g.loops[i]?=some c→g'.loops[i]?=some c
 tok:∀(k n:Nat),k<nt→tk[k]?=some n→tk'[k]?=some n∧g'.own[k]?=g.own[k]?
variable {nv nt nl:Nat}
theorem At.cut (hc:Cut nv nt nl g tk g' tk'){c o:Nat}{cs:List Value}(h:At g w c o cs):At g' w c o cs:=fun j x hx=>⟨(h j x hx).1,hc.fz _ _ (h j x hx).2⟩
theorem j8.cut (hc:Cut nv nt nl g tk g' tk'){p:Prop}{a:Option Addr}{cs:List Value}(h:j8 g w p a cs):j8 g' w p a cs:=by
 rcases h with h|⟨c,o,e,h1,h2⟩
 ·exact .inl h
 ·exact .inr ⟨c,o,e,h1.cut hc,fun hp=>hc.base ▸ h2 hp⟩
theorem jI.cut (hc:Cut nv nt nl g tk g' tk'){e:ET}{l:List e.T}{t:Tk}(hin:Kz.cK nv nt nl (.list e l t)=true){z n cap:Nat}{a:Option Addr}(h:jI g tk z t n cap a):jI g' tk' z t n cap a:=by intro k ek;subst ek;obtain⟨m,h1,h2,h3⟩:=h k rfl;obtain⟨k1,k2⟩:=hc.tok k m (by simpa[Kz.cK]using hin) h1;simp_all
mutual
theorem aM.cut (hc:Cut nv nt nl g tk g' tk'){a:AV}{v:Value}(hb:Kz.cK nv nt nl a=true):aM g tk w a v→aM g' tk' w a v
 | .any v=>.any v
 | .undef=>.undef
 | .bool b=>.bool b
 | .aU b=>.aU b
 | .int k n=>.int k n
 | .bj k n=>.bj k n
 | .u64 x=>.u64 x
 | .str h=>.str h
 | .agg h=>.agg (ay.cut hc (by simpa[Kz.cK]using hb) h)
 | .ptr h=>.ptr (hc.vars _ _ (by simpa[Kz.cK]using hb) h)
 | .ptri h h0 h1 h2=>.ptri (hc.vars _ _ (by simpa[Kz.cK]using hb) h) h0 h1 h2
 | .slf h ha hs=>.slf (hc.vars _ _ (by simpa[Kz.cK]using hb) h) ha hs
 | .ptrf h ha=>.ptrf (ay.cut hc (by rw[ko];simpa[Kz.cK]using hb) h) (ha.cut hc)
 | .nilptr=>.nilptr
 | .list hn h ha ht hcp=>.list hn (bu.cut hc (SZ _ _ _ _ _) h) (ha.cut hc) (ht.cut hc hb) hcp
 | .vlist hn h ha hcp=>.vlist hn (bu.cut hc (by simpa[Kz.cK]using hb) h) (ha.cut hc) hcp
 | .vany hn h ha ht hcp=>.vany hn (bu.cut hc (by simp only[Kz.cK,E']at hb;exact hb.2) h) (ha.cut hc) (ht.cut (e := .u64) (l:=[]) hc (by simp only[Kz.cK,E']at hb;exact IZ hb.1)) hcp
 | .vsl h=>.vsl (hc.vars _ _ (by simpa[Kz.cK]using hb) h)
 | .nilsl=>.nilsl
 | .func ha hb'=>.func (aI.cut hc (by simp only[Kz.cK,E']at hb;exact hb.1) ha) (aI.cut hc (by simp only[Kz.cK,E']at hb;exact hb.2) hb')
 | .yield h=>.yield (hc.loops _ _ (by simpa[Kz.cK]using hb) h)
 | .nilfunc=>.nilfunc
 | .iface h=>.iface (aM.cut hc (by simpa[Kz.cK]using hb) h)
 | .niliface=>.niliface
 | .tuple h=>.tuple (aI.cut hc (by simpa[Kz.cK]using hb) h)
theorem ay.cut (hc:Cut nv nt nl g tk g' tk'){a:List AV}{v:List Value}(hb:Kz.gj nv nt nl a=true):ay g tk w a v→ay g' tk' w a v
 | .nil=>.nil
 | .ints hl hx h=>.ints hl hx (ay.cut hc (by simp only[Kz.gj,E']at hb;exact hb.2) h)
 | .one hs h hr=>.one hs (aM.cut hc (by simp only[Kz.gj,E']at hb;exact hb.1) h) (ay.cut hc (by simp only[Kz.gj,E']at hb;exact hb.2) hr)
theorem aI.cut (hc:Cut nv nt nl g tk g' tk'){a:List AV}{v:List Value}(hb:Kz.gj nv nt nl a=true):aI g tk w a v→aI g' tk' w a v
 | .nil=>.nil
 | .cons h hr=>.cons (aM.cut hc (by simp only[Kz.gj,E']at hb;exact hb.1) h) (aI.cut hc (by simp only[Kz.gj,E']at hb;exact hb.2) hr)
theorem bu.cut (hc:Cut nv nt nl g tk g' tk'){a:List AV}{v:List Value}(hb:Kz.gj nv nt nl a=true):bu g tk w a v→bu g' tk' w a v
 | .nil=>.nil
 | .cons hs hx h hr=>.cons hs hx (ay.cut hc (by simp only[Kz.gj,E']at hb;rw[ko];exact hb.1) h) (bu.cut hc (by simp only[Kz.gj,E']at hb;exact hb.2) hr)
end
theorem BO.gj {a:List AV}{o:Obj}(h:BO g tk w a o):Kz.gj g.vars.length tk.length g.loops.length a=true:=by
 rcases h with⟨_,_,_,r⟩|⟨_,_,_,rfl,_⟩
 ·exact r.gj
 ·rfl
theorem BO.under {n nl:Nat}{a:List AV}{o:Obj}(hb:bV n a=true)(h:BO g tk w a o):Kz.gj n tk.length nl a=true:=by
 rcases h with⟨_,_,_,r⟩|⟨_,_,_,rfl,_⟩
 ·exact r.under hb
 ·rfl
theorem BO.cut {nv nt nl:Nat}(hc:Cut nv nt nl g tk g' tk'){a:List AV}{o:Obj}(hb:Kz.gj nv nt nl a=true)(h:BO g tk w a o):BO g' tk' w a o:=h.imp (fun ⟨cs,ty,e,r⟩=>⟨cs,ty,e,r.cut hc hb⟩) id
end
theorem uy (arg:Bool)(v:AV):bf (strip arg v)=cO arg (bf v):=by cases v<;>simp[bf,strip,cO]
theorem u3 (arg:Bool)(v:AV):aK (strip arg v)=aK v:=by cases v<;>simp[aK,strip]
theorem wC (arg:Bool)(v:AV):storable (strip arg v)=storable v:=by cases v<;>simp[storable,aK,strip]
theorem gX (arg:Bool)(l:List AV):(cO arg l).length=l.length:=by
 induction l with
 |nil=>rfl
 |cons a l ih=>simp[cO,ih]
theorem Dt (v:AV):da (bf v)=bz v:=by cases v<;>simp[bf,da,bz]
mutual
theorem mQ (arg:Bool)(n:Nat):∀v:AV,aV n (strip arg v)=aV n v
 | .any | .undef | .bool _ | .aU _ | .int .. | .bj .. | .u64 _ | .str _ | .ints .. | .ptr .. | .ptri .. | .nilptr | .slf _ | .itr .. | .vsl .. | .nilsl | .yield _ | .nilfunc | .niliface | .list .. => by simp[strip,aV]
 | .agg l=>by simp only[strip,aV];exact dw arg n l
 | .tuple l=>by simp only[strip,aV];exact dw arg n l
 | .vlist _ l=>by simp only[strip,aV];exact dw arg n l
 | .vany _ l=>by simp only[strip,aV];exact dw arg n l
 | .ptrf v=>by simp only[strip,aV];exact mQ arg n v
 | .iface _ v=>by simp only[strip,aV];exact mQ arg n v
 | .func _ a b=>by simp only[strip,aV];rw[dw arg n a,dw arg n b]
theorem dw (arg:Bool)(n:Nat):∀l:List AV,bV n (cO arg l)=bV n l
 | []=>rfl
 |v::vs=>by simp only[cO,bV];rw[mQ arg n v,dw arg n vs]
end
mutual
theorem oM (n:Nat):∀v:AV,fO v=true→aV n v=true
 | .any | .undef | .bool _ | .aU _ | .int .. | .bj .. | .u64 _ | .str _ | .ints .. | .nilptr | .nilsl | .nilfunc | .niliface | .list .. => by simp[fO,aV]
 | .ptr .. | .ptri .. | .slf _ | .itr .. | .vsl .. | .yield _ | .iface .. => by simp[fO]
 | .ptrf v=>by simp only[fO,aV];exact oM n v
 | .agg l=>by simp only[fO,aV];exact fR n l
 | .tuple l=>by simp only[fO,aV];exact fR n l
 | .vlist _ l=>by simp only[fO,aV];exact fR n l
 | .vany _ l=>by simp only[fO,aV];exact fR n l
 | .func _ a b=>by simp only[fO,aV,E',List.isEmpty_iff];rintro⟨rfl,rfl⟩;exact⟨rfl,rfl⟩
theorem fR (n:Nat):∀l:List AV,me l=true→bV n l=true
 | []=>fun _=>rfl
 |v::vs=>by
  simp only[me,bV,E']
  exact fun h=>⟨oM n v h.1,fR n vs h.2⟩
end
structure Sx (arg fr:Bool)(n:Nat)(g g':Gh):Prop where
 fz:∀c o,g.fz c o→(fr=true→g.base≤c)→g'.fz c o
 base:arg=false→∀c,g.base≤c→g'.base≤c
 vars:∀(i c:Nat),i<n→g.vars[i]?=some c→g'.vars[i]?=some c
noncomputable section
variable {g g':Gh}{tk tk':List Nat}{w:World}{arg fr:Bool}{n:Nat}
theorem At.strip (hs:Sx arg fr n g g'){c o:Nat}{cs:List Value}(hb:fr=true→g.base≤c)(h:At g w c o cs):At g' w c o cs:=fun j x hx=>⟨(h j x hx).1,hs.fz _ _ (h j x hx).2 hb⟩
theorem j8.strip (hs:Sx arg fr n g g'){p q:Prop}{a:Option Addr}{cs:List Value}(hf:fr=true→p)(hq:q→arg=false∧p)(h:j8 g w p a cs):j8 g' w q a cs:=by
 rcases h with h|⟨c,o,e,h1,h2⟩
 ·exact .inl h
 ·exact .inr ⟨c,o,e,h1.strip hs (fun f=>h2 (hf f)),fun hx=>hs.base (hq hx).1 _ (h2 (hq hx).2)⟩
mutual
theorem aM.strip (hs:Sx arg fr n g g'){a:AV}{v:Value}(hb:aV n a=true)(hf:fr=true→bz a=true):aM g tk w a v→aM g' tk' w (Kz.strip arg a) v
 | .any v=>.any v
 | .undef=>.undef
 | .bool b=>.bool b
 | .aU b=>.aU b
 | .int k n=>.int k n
 | .bj k n=>.bj k n
 | .u64 x=>.u64 x
 | .str h=>.str h
 | .agg h=>.agg (ay.strip hs (by simpa[aV]using hb) (by simpa[bz]using hf) h)
 | .ptr h=>.ptr (hs.vars _ _ (by simpa[aV]using hb) h)
 | .ptri h h0 h1 h2=>.ptri (hs.vars _ _ (by simpa[aV]using hb) h) h0 h1 h2
 | .slf h ha h2=>.slf (hs.vars _ _ (by simpa[aV]using hb) h) ha h2
 | .ptrf h ha=>.ptrf (by rw[uy];exact ay.strip hs (by rw[jH];simpa[aV]using hb) (fun e=>by simp[bz]at hf;rw[hf]at e;cases e) h) (ha.strip hs fun e=>by simp[bz]at hf;rw[hf]at e;cases e)
 | .nilptr=>.nilptr
 | .list (e:=e) (l:=l) (t:=t) hn h ha ht hcp=>by
  simp only[Kz.strip]
  refine .list hn (bu.X6 h) (ha.strip hs (fun f=>?_) fun hq=>?_) (fun k ek=>?_) hcp
  ·have:=hf f
   cases t<;>simp[bz]at this⊢
  ·cases arg
   ·cases t<;>simp_all[Tk.res]
   ·simp at hq
  ·cases arg
   ·cases t<;>simp[Tk.res]at ek
   ·simp at ek
 | .vlist (fr:=f) hn h ha hcp=>by
  simp only[Kz.strip]
  refine .vlist (by rw[gX];exact hn) (bu.strip hs (by simpa[aV]using hb) (fun e=>?_) h) (ha.strip hs (fun e=>?_) fun hq=>?_) (by rw[gX];exact hcp)
  ·have:=hf e;simp[bz]at this;exact this.2
  ·have:=hf e;simp[bz]at this;exact this.1
  simp_all
 | .vany (t:=t) hn h ha ht hcp=>by
  simp only[Kz.strip]
  refine .vany (by rw[gX];exact hn) (bu.strip hs (by simpa[aV]using hb) (fun e=>?_) h) (ha.strip hs (fun e=>?_) fun hq=>?_) (fun k ek=>?_) (by rw[gX];exact hcp)
  ·have:=hf e;simp[bz]at this;exact this.2
  ·have:=hf e
   cases t<;>simp[bz,Tk.made]at this⊢
  ·cases arg
   ·cases t<;>simp_all[Tk.res]
   ·simp at hq
  ·cases arg
   ·cases t<;>simp[Tk.res]at ek
   ·simp at ek
 | .vsl h=>.vsl (hs.vars _ _ (by simpa[aV]using hb) h)
 | .nilsl=>.nilsl
 | .func ha hb'=>.func (aI.strip hs (by simp only[aV,E']at hb;exact hb.1) (fun e=>by have:=hf e;simp[bz]at this;exact this.1) ha) (aI.strip hs (by simp only[aV,E']at hb;exact hb.2) (fun e=>by have:=hf e;simp[bz]at this;exact this.2) hb')
 | .yield h=>by simp[aV]at hb
 | .nilfunc=>.nilfunc
 | .iface h=>.iface (aM.strip hs (by simpa[aV]using hb) (by simpa[bz]using hf) h)
 | .niliface=>.niliface
 | .tuple h=>.tuple (aI.strip hs (by simpa[aV]using hb) (by simpa[bz]using hf) h)
theorem ay.strip (hs:Sx arg fr n g g'){a:List AV}{v:List Value}(hb:bV n a=true)(hf:fr=true→da a=true):ay g tk w a v→ay g' tk' w (cO arg a) v
 | .nil=>.nil
 | .ints hl hx h=>by
  simp only[cO,Kz.strip]
  exact .ints hl hx (ay.strip hs (by simp only[bV,E']at hb;exact hb.2) (fun e=>by have:=hf e;simp[da]at this;exact this.2) h)
 | .one hc h hr=>by
  simp only[cO]
  exact .one (by rw[u3];exact hc) (aM.strip hs (by simp only[bV,E']at hb;exact hb.1) (fun e=>by have:=hf e;simp[da]at this;exact this.1) h) (ay.strip hs (by simp only[bV,E']at hb;exact hb.2) (fun e=>by have:=hf e;simp[da]at this;exact this.2) hr)
theorem aI.strip (hs:Sx arg fr n g g'){a:List AV}{v:List Value}(hb:bV n a=true)(hf:fr=true→da a=true):aI g tk w a v→aI g' tk' w (cO arg a) v
 | .nil=>.nil
 | .cons h hr=>by
  simp only[cO]
  exact .cons (aM.strip hs (by simp only[bV,E']at hb;exact hb.1) (fun e=>by have:=hf e;simp[da]at this;exact this.1) h) (aI.strip hs (by simp only[bV,E']at hb;exact hb.2) (fun e=>by have:=hf e;simp[da]at this;exact this.2) hr)
theorem bu.strip (hs:Sx arg fr n g g'){a:List AV}{v:List Value}(hb:bV n a=true)(hf:fr=true→da a=true):bu g tk w a v→bu g' tk' w (cO arg a) v
 | .nil=>.nil
 | .cons hc hx h hr=>by
  simp only[cO]
  exact .cons (by rw[wC];exact hc) hx (by rw[uy];exact ay.strip hs (by simp only[bV,E']at hb;rw[jH];exact hb.1) (fun e=>by have:=hf e;simp[da]at this;rw[Dt];exact this.1) h) (bu.strip hs (by simp only[bV,E']at hb;exact hb.2) (fun e=>by have:=hf e;simp[da]at this;exact this.2) hr)
end
end
structure Fl (h h':Hp):Prop where
 lo:h'.lo=h.lo
 tO:h'.tO=h.tO
 qJ:h'.qJ=h.qJ
 heap:∀(i:Nat) x,i<h.lo→h.heap[i]?=some x→h'.heap[i]?=some x
 ag:∀(i:Nat) x,i<h.tO→h.ag[i]?=some x→h'.ag[i]?=some x
 loops:∀(i:Nat) x,i<h.qJ→h.loops[i]?=some x→h'.loops[i]?=some x
theorem Fl.refl (h:Hp):Fl h h:=⟨rfl,rfl,rfl,fun _ _ _ x=>x,fun _ _ _ x=>x,fun _ _ _ x=>x⟩
theorem Fl.trans {a b c:Hp}(h:Fl a b)(k:Fl b c):Fl a c :=
 ⟨k.lo.trans h.lo,k.tO.trans h.tO,k.qJ.trans h.qJ,fun i x hi hx=>k.heap i x (h.lo ▸ hi) (h.heap i x hi hx),fun i x hi hx=>k.ag i x (h.tO ▸ hi) (h.ag i x hi hx),fun i x hi hx=>k.loops i x (h.qJ ▸ hi) (h.loops i x hi hx)⟩
theorem mR {α:Type}{l m:List α}{i:Nat}{x:α}(h:l[i]?=some x):(l++m)[i]?=some x:=by grind
theorem Fl.cT (P:Program)(h:Hp)(t:TypeId)(l:List AV):Fl h (cT P h t l).1:=by
 unfold Kz.cT;split
 ·exact⟨rfl,rfl,rfl,by grind,by grind,fun _ _ _ x=>x⟩
 ·exact⟨rfl,rfl,rfl,by grind,by grind,fun _ _ _ x=>x⟩
 ·exact⟨rfl,rfl,rfl,by grind,fun _ _ _ x=>x,fun _ _ _ x=>x⟩
theorem Fl.af4 (h:Hp)(l:List (List AV)):Fl h { h with heap:=h.heap++l }:=⟨rfl,rfl,rfl,fun _ _ _ x=>mR x,fun _ _ _ x=>x,fun _ _ _ x=>x⟩
theorem Fl.assign (P:Program)(h:Hp)(t:TypeId)(b:Bool)(v:AV):Fl h (iK P h t b v).1:=by
 unfold iK;split
 ·exact⟨rfl,rfl,rfl,fun _ _ _ x=>x,by grind,fun _ _ _ x=>x⟩
 ·exact Fl.refl h
theorem Fl.fM {h:Hp}{b:Nat}(hb:h.lo≤b)(l:List AV):Fl h (fM h b l) :=
 ⟨rfl,rfl,rfl,fun i x hi hx=>by
  show(h.heap.set b l)[i]?=_
  grind,fun _ _ _ x=>x,fun _ _ _ x=>x⟩
theorem Fl.eV {h:Hp}{b:Nat}(hb:h.qJ≤b)(r:eF):Fl h (eV h b r) :=
 ⟨rfl,rfl,rfl,fun _ _ _ x=>x,fun _ _ _ x=>x,fun i x hi hx=>by
  show(h.loops.set b r)[i]?=_
  grind⟩
theorem Fl.store {P:Program}{h h':Hp}{t:TypeId}{a v:AV}(hs:kT P h t a v=some h'):Fl h h':=by
 unfold kT at hs;split at hs
 ·rename_i b o;split at hs
  ·simp only[A']at hs;subst hs;exact Fl.refl _
  simp only[B',Option.ite_none_right_eq_some,H']at hs;obtain⟨l,⟨hb,_⟩,_,l',_,rfl⟩:=hs;exact Fl.fM hb l'
 ·rename_i b o n i m;simp only[B',Option.ite_none_right_eq_some]at hs;obtain⟨l,⟨hb,_⟩,⟨k,xs⟩,_,hs⟩:=hs;split at hs<;>simp only[Option.ite_none_right_eq_some,H',reduceCtorEq]at hs
  all_goals
   obtain⟨_,l',_,rfl⟩:=hs
   exact Fl.fM hb l'
 ·cases hs
theorem Fl.append {h:Hp}{e:ET}{s x:AV}{v:AV}{h':Hp}(ha:(jx h e s x).get=some (.val v h')):Fl h h':=by
 unfold jx at ha;split at ha
 ·split at ha
  ·split at ha
   ·simp only[get_guard,aj,A',eG.val.injEq]at ha;rename_i k _ _ _ hk;obtain⟨_,_,rfl⟩:=ha;exact⟨rfl,rfl,rfl,fun _ _ _ x=>x,by grind,fun _ _ _ x=>x⟩
   ·simp at ha
  ·simp at ha
 ·simp only[get_guard,aj,A',eG.val.injEq]at ha;obtain⟨_,_,rfl⟩:=ha;exact⟨rfl,rfl,rfl,fun _ _ _ x=>x,by grind,fun _ _ _ x=>x⟩
 ·split at ha
  ·simp only[get_guard,aj,A',eG.val.injEq]at ha;obtain⟨_,_,rfl⟩:=ha;exact⟨rfl,rfl,rfl,fun _ _ _ x=>x,by grind,fun _ _ _ x=>x⟩
  ·simp at ha
 ·simp at ha
noncomputable section
variable {P:Program}{g g':Gh}{h h':Hp}{tk:List Nat}{w w':World}
def cH (w:World):Gh:={ base:=w.heap.size,fz:=fun c _=>c<w.heap.size,vars:=[],own:=[],loops:=[],defs:=[] }
def rK (w w':World):Gh:={ base:=w.heap.size,fz:=fun c _=>w.heap.size≤c∧c<w'.heap.size,vars:=[],own:=[],loops:=[],defs:=[] }
theorem Bt (m:MR g h w){v:AV}{x:Value}(hv:aM g h.ag w v x):aM { g with fz:=fun c _=>c<w.heap.size } h.ag w (snap h v) x:=by
 have hle:Lw g h.ag w { g with fz:=fun c _=>c<w.heap.size } h.ag w :=
  ⟨Nat.le_refl _,fun c o x=>m.fC c o x,fun _ _ _ _ x=>x,fun _ _ x=>x,fun _ _ x=>x,by simp_all,fun _ _ _=>rfl⟩
 have hw:=hv.bS hle;unfold snap;split
 ·rename_i b o n;split
  ·rename_i k l he;simp only[B']at he;obtain⟨bl,h1,h2⟩:=he;cases hv with
   |vsl hb =>
    rename_i c;obtain⟨cells,ty,k1,k2,k3⟩:=iQ m hb h1;obtain⟨r1,r2,r3⟩:=k2.gG _ _ _ _ h2;subst r1;have hlen:((cells.toList.drop o).take l.length).length=l.length:=by rw[r3];simp
    refine .list (cs:=(cells.toList.drop o).take l.length) rfl ?_ (.inr ⟨c,o,rfl,fun j u hj=>⟨?_,aB k1⟩,fun e=>absurd rfl e⟩) (fun k e=>by cases e) (Nat.le_refl _)
    ·rw[r3];clear hlen r3 r2 h2 k3 k2 hw;induction l with
     |nil=>exact .nil
     |cons a l ih=>exact .cons rfl (by simp) (.one rfl (.int _ _) .nil) ih
    grind
  ·exact .any _
 ·rename_i b;split
  ·rename_i l h1;cases hv with
   |ptr hb =>rename_i c;obtain⟨cells,ty,k1,k2,k3⟩:=iQ m hb h1;exact .ptrf (cs:=cells.toList) (k2.bS hle) fun j u hj=>⟨by rw[Nat.zero_add];exact k3 _ _ hj,aB k1⟩
  ·exact .any _
 ·exact hw
theorem NT (m:MR g h w){as1:List AV}{vs:List Value}(hp:me (cO true (as1.map (snap h)))=true)(hr:aI g h.ag w as1 vs):aI (cH w) [] w (cO true (as1.map (snap h))) vs:=by
 have h1:aI { g with fz:=fun c _=>c<w.heap.size } h.ag w (as1.map (snap h)) vs:=by
  clear hp;induction as1 generalizing vs with
  |nil=>cases hr;exact .nil
  |cons a as1 ih=>cases hr with|cons q hr=>exact .cons (Bt m q) (ih hr)
 have hb:=fR 0 _ hp;rw[dw]at hb;have hs:Sx true false 0 { g with fz:=fun c _=>c<w.heap.size } (cH w):=⟨fun _ _ x _=>x,fun e=>(by cases e),by simp_all⟩;exact h1.strip hs hb (fun e=>by cases e)
theorem Rm {v:AV}{x:Value}(hlt:∀c o,g.fz c o→c<w'.heap.size)(hbase:g.base=w.heap.size)(hp:fO v=true)(hf:bz v=true)(hv:aM g tk w' v x):aM (rK w w') [] w' (strip false v) x:=by have hs:Sx false true 0 g (rK w w'):=⟨fun c o hx hb=>⟨Nat.le_trans (Nat.le_of_eq hbase.symm) (hb rfl),hlt c o hx⟩,fun _ c hc=>Nat.le_trans (Nat.le_of_eq hbase.symm) hc,fun _ _ hi=>absurd hi (Nat.not_lt_zero _)⟩;exact hv.strip hs (oM 0 v hp) fun _=>hf
theorem MR.Md (m:MR g h w)(hb:Below w.heap.size w w') :
  MR { g with fz:=fun c o=>g.fz c o∨(w.heap.size≤c∧c<w'.heap.size) } h w'∧Le g h.ag w { g with fz:=fun c o=>g.fz c o∨(w.heap.size≤c∧c<w'.heap.size) } h.ag w':=by
 obtain⟨m1,l1⟩:=m.grow hb
 have l2:Le g h.ag w' { g with fz:=fun c o=>g.fz c o∨(w.heap.size≤c∧c<w'.heap.size) } h.ag w' :=
  ⟨rfl,Below.refl _ _,fun _ _ x=>.inl x,fun _ _ _ _ x=>x,fun _ _ x=>x,fun _ _ x=>x,fun _ x=>x,by simp_all,fun _ _ _=>rfl⟩
 refine⟨⟨m1.base,fun c o x=>?_,m1.dN,fun i c l h1 h2=>?_,m1.xc,m1.dW,m1.jU,fun k b cap z h1=>?_,m1.xd,m1.gT,fun l c r h1 h2=>?_,m1.xe,m1.defs,fun p hp=>(m.iH p hp).mono (l1.trans l2)⟩,l1.trans l2⟩
 ·rcases x with x|x
  ·exact m1.fC c o x
  ·exact x.2
 ·obtain⟨a,f,o,d',e⟩:=m1.var i c l h1 h2;obtain⟨_,_,_,d0,_⟩:=m.var i c l h1 h2;refine⟨a,fun o x=>?_,o,d',e.mono l2⟩;simp_all
 ·obtain⟨q,cs,t,a1,a2,a3,a4,a5,a6,a7,a8⟩:=m1.tok k b cap z h1;obtain⟨_,_,_,_,_,_,_,d0,_⟩:=m.tok k b cap z h1;grind
 ·obtain⟨a,R,f,d'⟩:=m1.loop l c r h1 h2;exact⟨a,R,f,d'.mono l2⟩
theorem N2 (m:MR g h w){v:AV}{x:Value}(hv:aM (rK w w') [] w' v x):aM { g with fz:=fun c o=>g.fz c o∨(w.heap.size≤c∧c<w'.heap.size) } h.ag w' v x:=by
 have hs:Lw (rK w w') [] w' { g with fz:=fun c o=>g.fz c o∨(w.heap.size≤c∧c<w'.heap.size) } h.ag w' :=
  ⟨m.base,fun _ _ x=>.inr x,fun _ _ _ _ x=>x,fun _ _ x=>by simp[rK]at x,fun _ _ x=>by simp[rK]at x,by simp_all,fun _ _ _=>rfl⟩
 exact hv.bS hs
theorem LR.cut {nv nt nl:Nat}{tk':List Nat}(hc:Cut nv nt nl g tk g' tk'){r:eF}{R:Loop}(hb:gj nv nt nl r.tmps=true)(h:LR g tk w r R):LR g' tk' w r R :=
 ⟨h.state,h.eN,h.tmps.cut hc hb,h.params,h.assign,h.body⟩
theorem MR.quiet (m:MR g h w)(m':MR g' h' w')(hle:Le g h.ag w g' h'.ag w')(hf:Fl (Io h) h') :
  MR { g' with vars:=g.vars,own:=g.own,loops:=g.loops } h w'∧Le g h.ag w { g' with vars:=g.vars,own:=g.own,loops:=g.loops } h.ag w' ∧
   Cut h.heap.length 0 0 g' h'.ag { g' with vars:=g.vars,own:=g.own,loops:=g.loops } h.ag:=by
 have tokEq:∀(k n:Nat),h.ag[k]?=some n→h'.ag[k]?=some n∧g'.own[k]?=g.own[k]? := fun k n x=>by have h1:=hf.ag k n (bI x) x;obtain⟨n',a,b,c⟩:=hle.tok k n x;simp_all
 have cut:Cut g.vars.length h.ag.length g.loops.length g' h'.ag { g' with vars:=g.vars,own:=g.own,loops:=g.loops } h.ag:=by
  refine⟨rfl,fun _ _ x=>x,fun i c hi hx=>?_,fun i c hi hx=>?_,fun k n hk hx=>?_⟩
  ·have:=hle.vars i _ (I' hi);simp_all
  ·have:=hle.loops i _ (I' hi);simp_all
  ·simp_all
 have hle':Le g h.ag w { g' with vars:=g.vars,own:=g.own,loops:=g.loops } h.ag w' :=
  ⟨hle.base,hle.below,hle.fz,hle.cell,fun _ _ x=>x,fun _ _ x=>x,hle.defs,by simp_all,hle.shape⟩
 refine⟨⟨m'.base,m'.fC,m.dN,fun i c l h1 h2=>?_,m.xc,m.dW,m.jU,fun k b cap z h1=>?_,m.xd,m.gT,fun l c r h1 h2=>?_,m.xe,m'.defs,fun p hp=>(m.iH p hp).mono (hle)⟩,hle',?_⟩
 ·obtain⟨_,_,_,_,e0⟩:=m.var i c l h1 h2;obtain⟨a,f,o,d',e⟩:=m'.var i c l (hle.vars _ _ h1) (hf.heap i l (bI h2) h2);exact⟨a,f,o,d',e.cut cut e0.gj⟩
 ·obtain⟨n,_,_,h2,_⟩:=m.tok k b cap z h1;obtain⟨h3,h4⟩:=tokEq k n h2;obtain⟨q,cs,t,a1,a2,a3,a4,a5,a6,a7,a8⟩:=m'.tok k b cap z (h4.trans h1);grind
 ·obtain⟨_,R0,_,d0⟩:=m.loop l c r h1 h2;obtain⟨a,R,f,d'⟩:=m'.loop l c r (hle.loops _ _ h1) (hf.loops l r (bI h2) h2);exact⟨a,R,f,d'.cut cut d0.tmps.gj⟩
 ·refine⟨rfl,fun _ _ x=>x,fun i c hi hx=>cut.vars i c ?_ hx,by simp_all,by simp_all⟩;rw[m.dN];exact hi
theorem lA (n:Nat):∀(m:Nat) (l:List (List AV)) (i:Nat) (b:List AV),hQ n m l=true→i<m→l[i]?=some b→bV n b=true
 | 0,_,_,_,_,hi,_=>by simp_all
 |m+1,[],i,b,_,_,hb=>by simp at hb
 |m+1,x::l,0,b,h,_,hb=>by
  simp only[hQ,E']at h
  simp_all
 |m+1,x::l,i+1,b,h,hi,hb=>by
  simp only[hQ,E']at h
  exact lA n m l i b h.2 (by omega) (by simpa using hb)
theorem mi (n:Nat):∀(l:List eF) (i:Nat) (r:eF),ji n l=true→l[i]?=some r→bV n r.tmps=true
 | [],i,r,_,hb=>by simp at hb
 |x::l,0,r,h,hb=>by
  simp only[ji,E']at h
  simp_all
 |x::l,i+1,r,h,hb=>by
  simp only[ji,E']at h
  exact mi n l i r h.2 (by simpa using hb)
theorem xB {v:AV}{x:Value}(m:MR g h w)(m':MR g' h' w')(hle:Le g h.ag w g' h'.ag w')(hf:Fl h h')(hv:aM g' h'.ag w' v x) :
  ∃g'',MR g'' (gI h.heap.length v h') w'∧Le g h.ag w g'' (gI h.heap.length v h').ag w'∧Fl h (gI h.heap.length v h')∧aM g'' (gI h.heap.length v h').ag w' v x∧(∀D,D∈g'.defs→D∈g''.defs):=by
 unfold gI;split
 ·rename_i hc;simp only[E']at hc;obtain⟨⟨hb1,hb2⟩,hb3⟩:=hc;have hsub:∀(i c:Nat),(g'.vars.take h.heap.length)[i]?=some c→i<h.heap.length∧g'.vars[i]?=some c:=by grind
  have hget:∀(i c:Nat),i<h.heap.length→g'.vars[i]?=some c→(g'.vars.take h.heap.length)[i]?=some c:=by simp_all
  have cut:Cut h.heap.length h'.ag.length 0 g' h'.ag { g' with vars:=g'.vars.take h.heap.length } h'.ag :=
   ⟨rfl,fun _ _ x=>x,by simp_all,by simp_all,by simp_all⟩
  refine⟨{ g' with vars:=g'.vars.take h.heap.length },⟨m'.base,m'.fC,by simp[m'.dN],fun i c l h1 h2=>?_,fun i j c h1 h2=>m'.xc i j c (hsub _ _ h1).2 (hsub _ _ h2).2,m'.dW,m'.jU,fun k b cap z h1=>?_,m'.xd,m'.gT,fun l c r h1 h2=>?_,m'.xe,m'.defs,m'.iH⟩,?_,?_,?_,fun _ x=>x⟩
  ·obtain⟨hi,h1'⟩:=hsub _ _ h1;simp only at h2;rw[List.getElem?_take_of_lt hi]at h2;obtain⟨a,f,o,d',e⟩:=m'.var i c l h1' h2;exact⟨a,f,o,d',e.cut cut (e.under (lA _ _ _ _ _ hb2 hi h2))⟩
  ·obtain⟨q,cs,t,a1,a2,a3,a4,a5,a6,a7,a8⟩:=m'.tok k b cap z h1;grind
  ·obtain⟨a,R,f,d'⟩:=m'.loop l c r h1 h2;exact⟨a,R,f,d'.cut cut (d'.tmps.under (mi _ _ _ _ hb3 h2))⟩
  ·exact⟨hle.base,hle.below,hle.fz,hle.cell,fun i c hx=>hget i c (by have:=bI hx;rw[m.dN]at this;exact this) (hle.vars i c hx),hle.loops,hle.defs,hle.tok,hle.shape⟩
  ·exact⟨hf.lo,hf.tO,hf.qJ,fun i x hi hx=>by
    show(h'.heap.take h.heap.length)[i]?=_
    rw[List.getElem?_take_of_lt (bI hx)];exact hf.heap i x hi hx,hf.ag,hf.loops⟩
  ·exact hv.cut cut (hv.under hb1)
 grind
end
noncomputable section
variable {P:Program}{g:Gh}{h:Hp}{w:World}
theorem MX (m:MR g h w){t:TypeId}{s:List UInt8}{x:Value}(hu:P.underlying t=some .string)(hx:aM g h.ag w (.str s) x) :
  ∃y g' w',(Instr.range t x).run P w=.ok y w'∧MR g' { h with heap:=h.heap++[[.itr s 0]] } w'∧Le g h.ag w g' h.ag w'∧aM g' h.ag w' (.ptr h.heap.length 0) y:=by
 cases hx with
 |str hs =>rename_i bs;obtain⟨m1,l1⟩:=m.XX bs hs;refine⟨.pointer (some ⟨w.heap.size,0,none⟩),_,_,?_,m1,l1,.ptr (by simp[m.dN])⟩;simp[Instr.range,Go.run_underlying hu]
theorem xS (bs:ByteArray):bs.size=bs.data.toList.length:=by simp_all
theorem TN (m:MR g h w){b:Nat}{s:List UInt8}{n:Int}{x:Value}(ty:TypeId)(hx:aM g h.ag w (.ptr b 0) x)(hb:h.heap[b]?=some [.itr s n]) :
  (decide (n<s.length)=true→∃y w',(Instr.next x true ty).run P w=.ok y w'∧MR g (fM h b [.itr s (n+nG s n)]) w'∧Le g h.ag w g h.ag w'∧aM g h.ag w' (.tuple [.aU true,.int .i64 n,.int .i32 (AY s n)]) y) ∧
  (decide (n<s.length)=false→∃y,(Instr.next x true ty).run P w=.ok y w∧aM g h.ag w (.tuple [.aU false]) y):=by
 cases hx with
 |ptr hv =>
  rename_i c;obtain⟨_,_,o,ho,bo⟩:=m.var b c _ hv hb;obtain⟨bs,rfl,hs,h0⟩:∃bs,o=.stringIter bs n.toNat∧bs.data.toList=s∧0≤n:=by
   rcases bo with⟨cs,_,_,r⟩|⟨s',n',bs,e,e2,e3,e4⟩
   ·generalize cs.toList=z at r;cases r with
    |one hc _ _=>cases hc
   simp_all
  have hbs:(⟨s.toArray⟩:ByteArray)=bs:=by
   cases bs with
   |mk d=>subst hs;simp
  constructor
  ·intro hlt;have hlt:=of_decide_eq_true hlt;have hp:n.toNat<bs.size:=by rw[xS,hs];omega
   have hr:=Lib.run_next_any_at (P:=P) w c bs n.toNat ty ho hp;have h0':0≤n+nG s n:=by unfold nG;omega
   have e1:(n+nG s n).toNat=n.toNat+(Utf8.decode bs n.toNat).2:=by unfold nG;rw[hbs];omega
   obtain⟨m1,l1⟩:=m.ZS hv hb ho hs h0';rw[e1]at m1 l1;refine⟨_,_,hr,m1,l1,?_⟩;have e2:((n.toNat:Nat):Int)=n:=by omega
   have e3:AY s n=((Utf8.decode bs n.toNat).1:Int):=by unfold AY;rw[hbs]
   rw[e2,e3];exact .tuple (.cons (.aU _) (.cons (.int _ _) (.cons (.int _ _) .nil)))
  ·intro hlt;have hlt:=of_decide_eq_false hlt;exact⟨_,Lib.run_next_end_at (P:=P) w c bs n.toNat ty ho (by rw[xS,hs];omega),.tuple (.cons (.aU _) .nil)⟩
end
def Fr (ro:Option Nat):Fence:={ Fence.wide with round:=ro }
noncomputable section
variable {P:Program}{g g':Gh}{h h':Hp}{tk:List Nat}{w w':World}
structure Nx (g:Gh)(h:Hp)(w:World)(g':Gh)(h':Hp)(w':World):Prop where
 mr:MR g' h' w'
 le:Le g h.ag w g' h'.ag w'
 fl:Fl h h'
theorem Nx.refl (m:MR g h w):Nx g h w g h w:=⟨m,Le.refl _ _ _,Fl.refl _⟩
theorem Nx.trans {g1 g2 g3:Gh}{h1 h2 h3:Hp}{w1 w2 w3:World}(a:Nx g1 h1 w1 g2 h2 w2)(b:Nx g2 h2 w2 g3 h3 w3):Nx g1 h1 w1 g3 h3 w3:=⟨b.mr,a.le.trans b.le,a.fl.trans b.fl⟩
def gD (x:Value):List PanicEntry:=[{ v:=x,recovered:=false }]
def qs (g:Gh)(h:Hp)(w:World)(res:bL)(e:Ending)(w':World):Prop :=
 match res with
 | .ret v h'=>∃g' x,e=.returned x∧Nx g h w g' h' w'∧aM g' h'.ag w' v x
 | .panic v h'=>∃g' x,e=.panicked (gD x)∧Nx g h w g' h' w'∧aM g' h'.ag w' v x
def dz (P:Program)(f:Nat)(args:List AV)(h:Hp)(res:bL):Prop :=
 ∀(g:Gh) (w:World) (bw:Array Value),MR g h w→aI g h.ag w args bw.toList→CallsIn Fence.wide 0 P f bw w (qs g h w res)
def cN (w:World):Prop := ∀p∈um,oe (cH w) w p
def aX (P:Program)(f:Nat)(args:List AV)(v:AV):Prop :=
 ∀(w:World) (bw:Array Value),cN w→aI (cH w) [] w args bw.toList→CallsIn Fence.wide 0 P f bw w fun e w'=>∃x,e=.returned x∧Below w.heap.size w w'∧aM (rK w w') [] w' v x
abbrev DB:Type:=Nat×List Deferred
structure rp (g:Gh)(W0:Nat)(ds:List Deferred):Prop where
 mem:∀d∈ds,∃D,d={ target := .collected D,args := #[] }∧D∈g.defs∧W0≤D
 nodup:(ds.map (·.target)).Pairwise (fun a b=>∀D,a=.collected D→b≠.collected D)
theorem rp.mono {W0:Nat}{ds:List Deferred}(h:rp g W0 ds)(hd:∀D,D∈g.defs→D∈g'.defs):rp g' W0 ds :=
 ⟨fun d hd'=>let ⟨D,a,b,c⟩:=h.mem d hd'; ⟨D,a,hd D b,c⟩,h.nodup⟩
def Marks (g:Gh)(W0:DB)(ds:List Deferred):Prop := ∃ms,ds=ms++W0.2∧rp g W0.1 ms
theorem Marks.mono {W0:DB}{ds:List Deferred}(h:Marks g W0 ds)(hd:∀D,D∈g.defs→D∈g'.defs):Marks g' W0 ds :=
 let ⟨ms,e,mk⟩:=h
 ⟨ms,e,mk.mono hd⟩
def lN (g:Gh)(h:Hp)(w:World)(W0:DB)(out:Out)(e:Exit)(a':Act)(w':World):Prop :=
 match out with
 | .norm s'=>e=.normal∧∃g',Nx g h w g' s'.hp w'∧aI g' s'.hp.ag w' s'.tmps a'.tmps.toList∧Marks g' W0 a'.defers
 | .ret s'=>e=.ret∧∃g',Nx g h w g' s'.hp w'∧aI g' s'.hp.ag w' s'.tmps a'.tmps.toList∧Marks g' W0 a'.defers
 | .exit id s'=>e=.exit id∧∃g',Nx g h w g' s'.hp w'∧aI g' s'.hp.ag w' s'.tmps a'.tmps.toList∧Marks g' W0 a'.defers
 | .panic v h'=>∃x g',e=.panic (gD x)∧Nx g h w g' h' w'∧aM g' h'.ag w' v x∧Marks g' W0 a'.defers
def qR (F:Fence)(n:Nat)(P:Program)(c:Code)(Q:Exit→Act→World→Prop)(a:Act)(w:World):Prop :=
 ∀(b:Frame) (k:List Item) (cs:List Frame),b.roundOf=F.round→F.fn b.fn→F.room (cs.length+1+n) →
  ∃e a' w',Q e a' w'∧ArrivesIn (Machine.fenced P F) P (lone (b.atR a (.code c::.inLoop c::k)) cs w) b k cs e a' w'
def se (P:Program)(c:Code)(s:St)(out:Out):Prop :=
 ∀(ro:Option Nat) (g:Gh) (w:World) (a:Act) (W0:DB),MR g s.hp w→aI g s.hp.ag w s.tmps a.tmps.toList→Marks g W0 a.defers→W0.1≤w.heap.size→(∀c,ro=some c→∃l:Nat,g.loops[l]?=some c)→c.wpIn (Fr ro) 0 P (lN g s.hp w W0 out) a w
def aC (P:Program)(c:Code)(s:St)(out:Out):Prop :=
 ∀(ro:Option Nat) (g:Gh) (w:World) (a:Act) (W0:DB),MR g s.hp w→aI g s.hp.ag w s.tmps a.tmps.toList→Marks g W0 a.defers→W0.1≤w.heap.size→(∀c,ro=some c→∃l:Nat,g.loops[l]?=some c)→qR (Fr ro) 0 P c (lN g s.hp w W0 out) a w
structure oP (E:Env):Prop where
 qi:∀fn b F s out,E.qi fn b=some F→(F s).get=some out→aC E.P b s out
 named : ∀ (f : Nat) (fn : Func), E.P.funcs[f]? = some fn → fn.body.isSome = true → (fn.name == "runtime.NumGoroutine") = false
 pf:∀f as1 v,E.pf f=true→(E.G f as1).get=some v→aX E.P f as1 v∧∃fn,E.P.funcs[f]?=some fn∧fn.body.isSome=true
 call:∀f args h res,(E.call f args h).get=some res→dz E.P f args h res∧∃fn,E.P.funcs[f]?=some fn∧fn.body.isSome=true
def cU (P:Program)(code:Nat→Code→St→Tr Out):Prop := ∀fn c s out,(code fn c s).get=some out→se P c s out
def jr (kn:List (Nat×Bool))(tmps:List AV):Prop := ∀t b,kn.lookup t=some b→tmps.getD t .any=.bool b∨tmps.getD t .any=.aU b
def C1 (o:Oper)(next:Act→World→Prop)(Q:Exit→Act→World→Prop)(a:Act)(g:Gh)(h:Hp)(w:World)(res:eG):Prop :=
 match res with
 | .val v h'=>∀g' w' x,Nx g h w g' h' w'→aM g' h'.ag w' v x→next (a.put o.dst x) w'
 | .pan v h'=>∀g' w' x,Nx g h w g' h' w'→aM g' h'.ag w' v x→Q (.panic (gD x)) a w'
variable {ro:Option Nat}{o:Oper}{a:Act}{next:Act→World→Prop}{Q:Exit→Act→World→Prop}
theorem iS {s:Sem Value}{x:Value}(hd:∀c,o.op≠.defer c)(he:execOp a.eval o=(do pure (.value (←s))))(hx:s.run P w=.ok x w')(hn:next (a.put o.dst x) w'):o.wpIn (Fr ro) 0 P a w next Q:=by refine⟨fun _ _=>trivial,?_⟩;rw[Oper.semAt_eq _ _ _ hd,he,Sem.run_bind,hx];exact hn
theorem u6 {x:Value}(hd:∀c,o.op≠.defer c)(he:(execOp a.eval o).run P w=.ok (.value x) w')(hn:next (a.put o.dst x) w'):o.wpIn (Fr ro) 0 P a w next Q:=by refine⟨fun _ _=>trivial,?_⟩;rw[Oper.semAt_eq _ _ _ hd,he];exact hn
theorem Q6 {s:Sem Unit}(hd:∀c,o.op≠.defer c)(he:execOp a.eval o=(do s;pure .skip))(hx:s.run P w=.ok () w')(hn:next (a.put o.dst undef) w'):o.wpIn (Fr ro) 0 P a w next Q:=by refine⟨fun _ _=>trivial,?_⟩;rw[Oper.semAt_eq _ _ _ hd,he,Sem.run_bind,hx];exact hn
theorem aM.gn {b:Bool}{v:Value}(h:aM g tk w (.bool b) v):v=.bool b:=by cases h;rfl
theorem aM.eK {b:Bool}{v:Value}(h:aM g tk w (.aU b) v):v=.bool b:=by cases h;rfl
theorem aM.Je {v:Value}(h:aM g tk w .undef v):v=Go.undef:=by cases h;rfl
theorem aW {tmps:List AV}{a:Act}(ht:aI g tk w tmps a.tmps.toList)(x:Operand):aM g tk w (aR tmps x) (a.eval x):=by
 cases x with
 |tmp t =>
  simp only[aR,Act.eval];cases h:tmps[t]? with
  |none=>rw[List.getD_eq_getElem?_getD,h];exact .any _
  |some v =>obtain⟨y,h1,h2⟩:=ht.get t v h;simp_all
 |const v=>exact NY v
 |func f=>exact .func .nil .nil
 |global g=>exact .any _
theorem wE {β:Type}{a:Nat}{b:β}:∀{t:List (Nat×β)},t.lookup a=some b→(a,b)∈t
 | [],h=>by simp[List.lookup]at h
 |(x,y)::t,h=>by
  rw[List.lookup]at h
  split at h
  ·simp_all
  ·exact List.mem_cons_of_mem _ (wE h)
theorem KH {h:Hp}(m:MR g h w){tmps:List AV}{a:Act}(ht:aI g h.ag w tmps a.tmps.toList)(x:Operand):aM g h.ag w (JY tmps x) (a.eval x):=by
 cases x with
 |global i =>
  simp only[JY];split
  ·rename_i k l hl;have hm:(i,k,l)∈vm:=wE hl;exact .ptrf (.ints rfl (by simp) .nil) (m.iH _ (Is hm)).known.1
  ·exact .any _
 |tmp t=>exact aW ht (.tmp t)
 |const v=>exact aW ht (.const v)
 |func f=>exact aW ht (.func f)
theorem Eu {tmps tmps':List AV}{x:Operand}(h:aR tmps x=aR tmps' x):JY tmps x=JY tmps' x:=by cases x<;>simp only[JY]<;>exact h
theorem eH {tmps:List AV}{a:Act}(ht:aI g tk w tmps a.tmps.toList)(l:List Operand):aI g tk w (l.map (aR tmps)) (l.map a.eval) :=
 aI.map l _ _ fun x _=>aW ht x
theorem tM {tmps:List AV}{a:Act}(ht:aI g tk w tmps a.tmps.toList){v:AV}{x:Value}(hv:aM g tk w v x)(dst:Option Tmp):aI g tk w (bN tmps dst v) (a.put dst x).tmps.toList:=by
 cases dst with
 |none=>exact ht
 |some d =>simp only[bN,Act.put,Array.toList_setIfInBounds];exact ht.set hv d
theorem cu {h:Hp}{t:Tr AV}{res:eG}(he:(bw h t).get=some res):∃v,t.get=some v∧res=.val v h:=by simp only[bw,get_bind,aj,B',A']at he;grind
theorem getD_some {α:Type}{l:List α}{t:Nat}{d x:α}(h:l.getD t d=x)(hx:x≠d):l[t]?=some x:=by grind
theorem yP {tmps:List AV}(ht:aI g tk w tmps a.tmps.toList)(ps:Array (Nat×Operand)) :
  (ps.toList.map fun p=>(p.1,aR tmps p.2)).map (·.1)=(ps.map fun (i,x)=>(i,a.eval x)).toList.map (·.1) ∧
  aI g tk w ((ps.toList.map fun p=>(p.1,aR tmps p.2)).map (·.2)) ((ps.map fun (i,x)=>(i,a.eval x)).toList.map (·.2)):=by
 constructor
 ·simp_all
 ·rw[Array.toList_map,List.map_map,List.map_map];exact aI.map _ _ _ fun p _=>aW ht p.2
theorem vC {tmps:List AV}(ht:aI g tk w tmps a.tmps.toList)(o:Option Operand):(∀q,o.map (aR tmps)=some q→∃b,o.map a.eval=some b∧aM g tk w q b)∧(o.map (aR tmps)=none→o.map a.eval=none):=by
 cases o with
 |none=>simp_all
 |some x=>exact⟨fun q h=>by simp at h;exact⟨_,rfl,h ▸ aW ht x⟩,fun h=>by simp at h⟩
theorem BB {kn:List (Nat×Bool)}{tmps:List AV}(hk:jr kn tmps)(ht:aI g tk w tmps a.tmps.toList){c:Operand}{b:Bool}(h:known kn c=some b):a.eval c=.bool b:=by
 cases c with
 |tmp t =>
  have:=aW ht (.tmp t);simp only[aR]at this;rcases hk t b h with e|e
  ·rw[e]at this;exact this.gn
  ·rw[e]at this;exact this.eK
 |_=>simp[known]at h
theorem JW {E:Env}{code:Nat→Code→St→Tr Out}{d:Bool}{kn:List (Nat×Bool)}{tmps:List AV}{res:eG}(hc:∀c,o.op≠.call c)(he:(aL E code d kn tmps h o).get=some res)(hk:jr kn tmps)(m:MR g h w)(ht:aI g h.ag w tmps a.tmps.toList)(hp:C1 o next Q a g h w res) :
  o.wpIn (Fr ro) 0 E.P a w next Q:=by
 have same:∀{s:Sem Value} {v:AV} {y:Value},(∀c,o.op≠.defer c)→execOp a.eval o=(do pure (.value (←s)))→s.run E.P w=.ok y w→aM g h.ag w v y→res=.val v h→o.wpIn (Fr ro) 0 E.P a w next Q:=fun hd h1 h2 h3 h4 =>
  iS hd h1 h2 (by subst h4;exact hp g w _ (Nx.refl m) h3)
 have samep:∀{v:AV} {y:Value},(∀c,o.op≠.defer c)→(execOp a.eval o).run E.P w=.ok (.value y) w→aM g h.ag w v y→res=.val v h→o.wpIn (Fr ro) 0 E.P a w next Q:=fun hd h1 h3 h4 =>
  u6 hd h1 (by subst h4;exact hp g w _ (Nx.refl m) h3)
 cases hop:o.op with
 |move x =>simp only[aL,hop,aj,A']at he;exact samep (by simp[hop]) (by simp only[execOp,hop];rfl) (aW ht x) he.symm
 |assign x =>
  simp only[aL,hop,aj,A']at he;subst he
  obtain⟨g',m',l',r'⟩:=JI (P:=E.P) m (t:=o.type) (b:=gL x) (fun e=>by
   unfold gL at e
   split at e
   ·rfl
   ·cases e) (aW ht x)
  exact u6 (by simp[hop]) (by simp only[execOp,hop];rfl) (hp g' w _ ⟨m',l',Fl.assign _ _ _ _ _⟩ r')
 |pick c x y =>
  have fin:∀b,a.eval c=.bool b→res=.val (aR tmps (if b then x else y)) h→o.wpIn (Fr ro) 0 E.P a w next Q:=fun b hb hr=>by refine samep (by simp[hop]) ?_ (aW ht _) hr;simp only[execOp,hop,hb];cases b<;>rfl
  simp only[aL,hop]at he;split at he
  ·rename_i hkn;simp only[aj,A']at he;exact fin true (BB hk ht hkn) he.symm
  ·rename_i hkn;simp only[aj,A']at he;exact fin false (BB hk ht hkn) he.symm
  ·have hcr:=aW ht c;split at he
   ·rename_i e;rw[e]at hcr;simp only[aj,A']at he;exact fin true hcr.eK he.symm
   ·rename_i e;rw[e]at hcr;simp only[aj,A']at he;exact fin false hcr.eK he.symm
   ·rename_i b e;rw[e]at hcr;rw[fP]at he;refine fin b hcr.gn ?_;cases b<;>simpa using he.symm
   ·simp at he
 |alloc t =>
  simp only[aL,hop]at he;split at he
  ·rename_i l hz;simp only[aj,A']at he;subst he;obtain⟨y,g',w',h1,h2,h3,h4⟩:=LB m hz;exact iS (by simp[hop]) (by simp only[execOp,hop]) h1 (hp g' w' y ⟨h2,h3,Fl.cT _ _ _ _⟩ h4)
  ·simp at he
 |box t x =>
  simp only[aL,hop]at he;split at he
  ·rename_i hs;simp only[aj,A']at he;subst he;obtain⟨y,g',w',h1,h2,h3,h4⟩:=Y9 (P:=E.P) m (t:=t) hs (aW ht x);exact iS (by simp[hop]) (by simp only[execOp,hop]) h1 (hp g' w' y ⟨h2,h3,Fl.cT _ _ _ _⟩ h4)
  ·simp at he
 |build t ps =>simp only[aL,hop]at he;obtain⟨v,h1,h2⟩:=cu he;rw[bB]at h1;obtain⟨p1,p2⟩:=yP ht ps;obtain⟨y,h3,h4⟩:=LZ (w:=w) h1 p1 p2;exact same (by simp[hop]) (by simp only[execOp,hop]) h3 h4 h2
 |buildSlice t n ps =>simp only[aL,hop]at he;obtain⟨v,h1,h2⟩:=cu he;rw[bB]at h1;obtain⟨p1,p2⟩:=yP ht ps;obtain⟨y,g',w',h3,h4,h5,h6⟩:=xh m h1 p1 p2;subst h2;exact iS (by simp[hop]) (by simp only[execOp,hop]) h3 (hp g' w' y ⟨h4,h5,Fl.refl _⟩ h6)
 |load t x =>simp only[aL,hop]at he;obtain⟨v,h1,h2⟩:=cu he;rw[bB]at h1;obtain⟨y,h3,h4⟩:=GM m h1 (aW ht x);exact same (by simp[hop]) (by simp only[execOp,hop]) h3 h4 h2
 |store t x y =>
  simp only[aL,hop]at he;split at he
  ·rename_i h' hs;simp only[aj,A']at he;subst he;obtain⟨w',h1,h2,h3⟩:=ML m hs (aW ht x) (aW ht y);exact Q6 (by simp[hop]) (by simp only[execOp,hop]) h1 (hp g w' undef ⟨h2,h3,Fl.store hs⟩ .undef)
  ·simp at he
 |nilCheck x =>
  have hx:=aW ht x;have fin:(execOp a.eval o).run E.P w=.ok (.value (a.eval x)) w→res=.val (aR tmps x) h→o.wpIn (Fr ro) 0 E.P a w next Q:=by grind
  simp only[aL,hop]at he;split at he<;>first|(simp at he;done)|simp only[aj,A']at he
  all_goals
   rename_i e
   refine fin ?_ (by rw[e];exact he.symm)
   simp only[execOp,hop]
   rw[e]at hx
   generalize a.eval x=z at hx
   cases hx
   rfl
 |binOp op t x y q =>simp only[aL,hop]at he;obtain⟨v,h1,h2⟩:=cu he;obtain⟨z,h3,h4⟩:=abk (w:=w) x y h1 (aW ht x) (aW ht y);exact same (by simp[hop]) (by simp only[execOp,hop]) h3 h4 h2
 |unOp op t x =>simp only[aL,hop]at he;obtain⟨v,h1,h2⟩:=cu he;obtain⟨z,h3,h4⟩:=agS (P:=E.P) (w:=w) h1 (aW ht x);exact same (by simp[hop]) (by simp only[execOp,hop]) h3 h4 h2
 |convert s t x =>simp only[aL,hop]at he;obtain⟨v,h1,h2⟩:=cu he;obtain⟨z,h3,h4⟩:=Rx (w:=w) h1 (aW ht x);exact same (by simp[hop]) (by simp only[execOp,hop]) h3 h4 h2
 |makeFunc f first cap =>
  simp only[aL,hop]at he;cases f with
  |func f =>
   simp only[aj,A']at he;refine samep (y := .func (.func f) (first.map a.eval) (cap.map a.eval)) (by simp[hop]) (by simp only[execOp,hop];rfl) (.func ?_ ?_) he.symm
   ·rw[Array.toList_map];exact eH ht _
   ·rw[Array.toList_map];exact eH ht _
  |_=>simp at he
 |makeInterface t x =>
  simp only[aL,hop]at he;split at he
  ·rename_i hcb;simp only[aj,A']at he;obtain⟨h3,h4⟩:=KF (w:=w) hcb (aW ht x);exact same (by simp[hop]) (by simp only[execOp,hop]) h3 h4 he.symm
  ·simp at he
 |slice t x lo hi mx =>
  simp only[aL,hop]at he;cases mx with
  |some _=>simp at he
  |none =>simp only at he;obtain⟨v,h1,h2⟩:=cu he;obtain⟨l1,l2⟩:=vC (a:=a) ht lo;obtain⟨l3,l4⟩:=vC (a:=a) ht hi;obtain⟨z,h3,h4⟩:=PJ (w:=w) h1 (aW ht x) l1 l2 l3 l4;exact same (by simp[hop]) (by simp only[execOp,hop];rfl) h3 h4 h2
 |fieldAddr s x f =>
  have hx:=aW ht x;simp only[aL,hop]at he;split at he
  ·rename_i ho e;simp only[aj,A']at he;rw[e]at hx;obtain⟨y,h3,h4⟩:=Di (w:=w) ho hx;exact same (by simp[hop]) (by simp only[execOp,hop]) h3 h4 he.symm
  ·rename_i ho e;obtain⟨v,h1,h2⟩:=cu he;rw[bB,H']at h1;obtain⟨q,hq,rfl⟩:=h1;rw[e]at hx;obtain⟨y,h3,h4⟩:=Ax (w:=w) ho hq hx;exact same (by simp[hop]) (by simp only[execOp,hop]) h3 h4 h2
  ·simp at he
 |field s x f =>
  have hx:=aW ht x;simp only[aL,hop]at he;split at he
  ·rename_i ho e;obtain⟨v,h1,h2⟩:=cu he;rw[bB]at h1;rw[e]at hx;obtain⟨y,h3,h4⟩:=QC (w:=w) ho h1 hx;exact same (by simp[hop]) (by simp only[execOp,hop]) h3 h4 h2
  ·simp at he
 |indexAddr t x i =>simp only[aL,hop]at he;obtain⟨v,h1,h2⟩:=cu he;obtain⟨z,h3,h4⟩:=An (w:=w) h1 (KH m ht x) (aW ht i);exact same (by simp[hop]) (by simp only[execOp,hop]) h3 h4 h2
 |index t x i =>simp only[aL,hop]at he;obtain⟨v,h1,h2⟩:=cu he;obtain⟨z,h3,h4⟩:=Mo (w:=w) h1 (aW ht x) (aW ht i);exact same (by simp[hop]) (by simp only[execOp,hop]) h3 h4 h2
 |extract x i =>
  have hx:=aW ht x;simp only[aL,hop]at he;split at he
  ·rename_i l e;obtain⟨v,h1,h2⟩:=cu he;rw[bB]at h1;rw[e]at hx;obtain⟨y,h3,h4⟩:=Eb (P:=E.P) (w:=w) h1 hx;exact same (by simp[hop]) (by simp only[execOp,hop]) h3 h4 h2
  ·simp at he
 |typeAssert x xt t b =>
  have hx:=aW ht x;cases b with
  |false=>simp[aL,hop]at he
  |true =>
   simp only[aL,hop]at he;split at he
   ·rename_i u v e;obtain⟨y,h1,h2⟩:=cu he;rw[bB]at h1;rw[e]at hx;obtain⟨z,h3,h4⟩:=ID (P:=E.P) (w:=w) (xt:=xt) h1 hx;exact same (by simp[hop]) (by simp only[execOp,hop]) h3 h4 h2
   ·simp at he
 |panic x =>
  have hx:=aW ht x;simp only[aL,hop]at he;split at he
  ·rename_i t v e;simp only[aj,A']at he;subst he;rw[e]at hx;refine⟨fun _ _=>trivial,?_⟩;rw[Oper.semAt_eq _ _ _ (by simp[hop])];simp only[execOp,hop];have hpost:=hp g w (a.eval x) (Nx.refl m) hx;revert hpost;generalize a.eval x=z at hx;cases hx;intro hpost;exact hpost
  ·simp at he
 |call c=>exact absurd hop (hc c)
 |range t x =>
  simp only[aL,hop]at he;split at he
  ·rename_i s hu hx;simp only[aj,A']at he;subst he;have hr:=aW ht x;rw[hx]at hr;obtain⟨y,g',w',h1,h2,h3,h4⟩:=MX (P:=E.P) m hu hr;exact iS (by simp[hop]) (by simp only[execOp,hop]) h1 (hp g' w' y ⟨h2,h3,Fl.af4 _ _⟩ h4)
  ·simp at he
 |next x b =>
  cases b with
  |false=>simp[aL,hop]at he
  |true =>
   simp only[aL,hop]at he;split at he
   ·rename_i b hx;split at he
    ·rename_i s n hb;split at he
     ·rename_i hlo;rw[fP]at he;have hr:=aW ht x;rw[hx]at hr;obtain⟨k1,k2⟩:=TN (P:=E.P) m o.type hr hb;cases hd:decide (n<(s.length:Int))with
      |true =>rw[hd]at he;simp only[cond_true,aj,A']at he;subst he;obtain⟨y,w',h1,h2,h3,h4⟩:=k1 hd;exact iS (by simp[hop]) (by simp only[execOp,hop]) h1 (hp g w' y ⟨h2,h3,Fl.fM hlo _⟩ h4)
      |false =>rw[hd]at he;simp only[cond_false,aj,A']at he;obtain⟨y,h1,h2⟩:=k2 hd;exact same (by simp[hop]) (by simp only[execOp,hop]) h1 h2 he.symm
     ·simp at he
    ·simp at he
   ·simp at he
 |_=>simp[aL,hop]at he
end
noncomputable section
variable {P:Program}{g g':Gh}{h h':Hp}{tk:List Nat}{w w':World}{ro:Option Nat}{o:Oper}{a:Act}{next:Act→World→Prop}{Q:Exit→Act→World→Prop}
theorem yW (w:World)(c:Nat)(o:Obj):w.putObj c o=bk w c o:=rfl
theorem Ca {f:Nat}{bw:Array Value}{R:Ending→World→Prop}(h:CallsIn Fence.wide 0 P f bw w R):CallsIn (Fr ro) 0 P f bw w R:=h
theorem kL {f : Nat} {fn : Func} {args : Array Value} (hf : P.funcs[f]? = some fn) (hb : fn.body.isSome = true) (hn : (fn.name == "runtime.NumGoroutine") = false) : (callFunc f args).run P w = .ok (.enter f args) w := by
 have h1 : ¬ ((fn.name == "runtime.NumGoroutine") = true) := by simp [hn]
 have h2:¬(fn.body.isNone=true):=by cases hx:fn.body<;>simp_all
 simp only[callFunc,program,Sem.run_bind,Sem.run,Result.andThen_ok,hf]
 simp_all
theorem qO {c : Call} {f : Operand} {gf : Nat} {fn : Func} {x y : Array Value} (hop : o.op = .call c) (hc : c.callee = .value f) (hv : a.eval f = .func (.func gf) x y) (hf : P.funcs[gf]? = some fn) (hb : fn.body.isSome = true) (hn : (fn.name == "runtime.NumGoroutine") = false) {R : Ending → World → Prop}
  (hcall:CallsIn Fence.wide 0 P gf (x++c.args.map a.eval++y) w R) (hR:∀e w',R e w'→(∃v,e=.returned v∧next (a.put o.dst v) w')∨(∃ch,e=.panicked ch∧Q (.panic ch) a w')):o.wpIn (Fr ro) 0 P a w next Q:=by
 refine⟨fun _ _=>trivial,?_⟩
 have he:(execOp a.eval o).run P w=.ok (.enter gf (x++c.args.map a.eval++y)) w:=by
  simp only[execOp,hop,resolve,hc,hv,Deferred.ofValue,Sem.run_bind,Sem.run_pure,Result.andThen_ok,invoke]
  exact kL hf hb hn
 rw[Oper.semAt_eq _ _ _ (by simp[hop]),he]
 refine⟨fun h=>by simp[Fr,Fence.wide]at h,Ca (hcall.mono fun e w' hr=>?_)⟩
 grind
theorem MR.u5 (m:MR g h w):cN w:=fun p hp=>by
 refine⟨fun hi=>?_,fun hi=>?_⟩
 ·obtain⟨d,e⟩:=(m.iH p hp).1 hi
  exact⟨Nat.lt_of_lt_of_le d m.base,e⟩
 ·obtain⟨zs,a,b,c,d,e⟩:=(m.iH p hp).2 hi
  exact⟨zs,a,b,fun j x hj=>⟨(c j x hj).1,m.fC _ _ (c j x hj).2⟩,Nat.lt_of_lt_of_le d m.base,e⟩
theorem MR.acb {lo tO qJ:Nat}(m:MR g h w):MR g { h with lo:=lo,tO:=tO,qJ:=qJ } w:=⟨m.1,m.2,m.3,m.4,m.5,m.6,m.7,m.8,m.9,m.10,m.11,m.12,m.13,m.14⟩
theorem ahJ {E:Env}(ok:oP E){d:Bool}{tmps:List AV}{res:eG}{c:Call}{f:Operand}{gf:Nat}{av bv:List AV}(hop:o.op=.call c)(hc:c.callee=.value f)(hv:aR tmps f=.func gf av bv)
  (he:(va E d h gf (av++c.args.toList.map (aR tmps)++bv)).get=some res) (m:MR g h w) (ht:aI g h.ag w tmps a.tmps.toList) (hp:C1 o next Q a g h w res):o.wpIn (Fr ro) 0 E.P a w next Q:=by
 have hfv:=aW ht f;rw[hv]at hfv;obtain⟨x,y,hx,hrx,hry⟩:∃x y,a.eval f=.func (.func gf) x y∧aI g h.ag w av x.toList∧aI g h.ag w bv y.toList:=by
  generalize a.eval f=z at hfv;cases hfv with
  |func h1 h2=>grind
 have hargs:aI g h.ag w (av++c.args.toList.map (aR tmps)++bv) (x++c.args.map a.eval++y).toList:=by rw[Array.toList_append,Array.toList_append,Array.toList_map];exact(hrx.append (eH ht _)).append hry
 unfold va at he;split at he
 ·rename_i hpf;simp only at he;split at he
  ·rename_i hpure;simp only[get_bind,aj,B',A']at he;obtain⟨v,h1,rfl⟩:=he;obtain⟨hspec,fn,hf,hb⟩:=ok.pf _ _ _ hpf h1;refine qO hop hc hx hf hb (ok.named _ _ hf hb) (hspec w _ (m.u5) (NT m hpure hargs)) ?_;rintro e w' ⟨z,rfl,hbl,hz⟩;obtain⟨m1,l1⟩:=m.Md hbl;exact .inl ⟨z,rfl,hp _ w' z ⟨m1,l1,Fl.refl _⟩ (N2 m hz)⟩
  ·simp at he
 ·split at he
  ·simp only[get_bind,B']at he;obtain⟨r,h1,h2⟩:=he;obtain⟨hspec,fn,hf,hb⟩:=ok.call _ _ _ _ h1;split at h2
   ·rename_i v h';split at h2
    ·rename_i hbel;simp only[aj,A']at h2;subst h2;refine qO hop hc hx hf hb (ok.named _ _ hf hb) (hspec g w _ m.acb hargs) ?_;rintro e w' ⟨g',z,rfl,nx,hz⟩;obtain⟨m1,l1,cut⟩:=m.quiet nx.mr nx.le nx.fl;have hs:Sx false false h.heap.length g' { g' with vars:=g.vars,own:=g.own,loops:=g.loops }:=⟨fun _ _ x _=>x,fun _ _ x=>x,cut.vars⟩;exact .inl ⟨z,rfl,hp _ w' z ⟨m1,l1,Fl.refl _⟩ (hz.strip hs hbel (fun e=>by cases e))⟩
    ·simp at h2
   ·simp at h2
  ·simp only[get_bind,B']at he;obtain⟨r,h1,h2⟩:=he;obtain⟨hspec,fn,hf,hb⟩:=ok.call _ _ _ _ h1;refine qO hop hc hx hf hb (ok.named _ _ hf hb) (hspec g w _ m hargs) ?_;split at h2
   ·rename_i v h';simp only[aj,A']at h2;subst h2;rintro e w' ⟨g',z,rfl,nx,hz⟩;obtain⟨g'',m1,l1,f1,r1,_⟩:=xB m nx.mr nx.le nx.fl hz;exact .inl ⟨z,rfl,hp g'' w' z ⟨m1,l1,f1⟩ r1⟩
   ·rename_i v h';simp only[aj,A']at h2;subst h2;rintro e w' ⟨g',z,rfl,nx,hz⟩;exact .inr ⟨_,rfl,hp g' w' z nx hz⟩
theorem sG:∀(ps:List Nat) (as1:List AV) (vs:List Value) (ts:List AV) (us:Array Value),as1.length=ps.length→aI g tk w as1 vs→aI g tk w ts us.toList→aI g tk w (nJ ts ps as1) ((ps.zip vs).foldl (fun (tmps:Array Value) (p:Nat×Value)=>tmps.setIfInBounds p.1 p.2) us).toList
 | [],as1,vs,ts,us,hl,_,ht=>by
  cases as1 with
  |nil=>simpa[nJ]using ht
  |cons=>simp at hl
 |p::ps,as1,vs,ts,us,hl,ha,ht=>by
  cases ha with
  |nil=>simp at hl
  |cons hv hr =>
   rename_i av v as1 vs
   simp only[nJ,List.zip_cons_cons,List.foldl_cons]
   exact sG ps as1 vs (ts.set p av) (us.setIfInBounds p v) (by simpa using hl) hr (by rw[Array.toList_setIfInBounds];exact ht.set hv p)
theorem C6 {s:LoopState}(h:AT s=0):s=.ready:=by cases s<;>simp[AT]at h;rfl
theorem M0 {l c st:Nat}{eN:Option Code}{v:Bool}{s:St}{res:eG}(he:(yG l st eN v s).get=some res)(hst:(eN.isNone=true→st=0)∧(eN.isNone=false→st=2))(hvv:v=eN.isNone)(m:MR g s.hp w)(hl:g.loops[l]?=some c)(hlo:s.hp.qJ≤l) :
  ∃w' h',res=.val (.aU v) h'∧(Instr.endRound c eN).run P w=.ok (.bool v) w'∧Nx g s.hp w g h' w':=by
 unfold yG at he;split at he
 ·rename_i r hr;simp only[aj,A']at he;obtain⟨hb,R,hR,hlr⟩:=m.loop l c r hl hr
  obtain⟨m1,l1⟩:=m.zJ (r':={ r with state:=st,eN:=eN }) (R':={ R with state:=if eN.isNone then .ready else .done,pending:=eN }) hl hr hR
   ⟨by cases hp:eN.isNone with
     |true=>rw[hst.1 hp];rfl
     |false=>rw[hst.2 hp];rfl,rfl,hlr.tmps,hlr.params,hlr.assign,hlr.body⟩
  refine⟨_,_,he.symm,?_,m1,l1,Fl.eV hlo _⟩;rw[hvv,run_endRound eN hR];rfl
 ·simp at he
theorem KK {code:Nat→Code→St→Tr Out}(hcode:cU P code){tmps:List AV}{res:eG}{c:Call}{f:Operand}{l:Nat}(hop:o.op=.call c)(hc:c.callee=.value f)(hv:aR tmps f=.yield l)
  (he:(round code h l (c.args.toList.map (aR tmps))).get=some res) (m:MR g h w) (ht:aI g h.ag w tmps a.tmps.toList) (hp:C1 o next Q a g h w res):o.wpIn (Fr ro) 0 P a w next Q:=by
 have hfv:=aW ht f;rw[hv]at hfv;obtain⟨cl,hx,hgl⟩:∃cl,a.eval f=.func (.yield cl) #[] #[]∧g.loops[l]?=some cl:=by
  generalize a.eval f=z at hfv;cases hfv with
  |yield h1=>exact⟨_,rfl,h1⟩
 unfold round at he;split at he
 ·simp at he
 ·rename_i r hr;split at he
  ·rename_i hcond;obtain⟨hlo,hlen⟩:=hcond;simp only[get_bind,B']at he;obtain⟨out1,h1,he⟩:=he;obtain⟨hb,R,hR,hlr⟩:=m.loop l cl r hgl hr;split at he
   ·rename_i s1;split at he
    ·simp at he
    ·rename_i r1 hr1;split at he
     ·rename_i hst1;simp only[get_bind,B']at he;obtain⟨out2,h2,he⟩:=he;refine⟨fun _ _=>trivial,?_⟩;have hargs:(c.args.map a.eval).size=R.params.size:=by rw[Array.size_map,←Array.length_toList (xs:=R.params),hlr.params,←hlen];simp
      have hex:(execOp a.eval o).run P w=.ok (.round cl R.fn ((R.params.zip (c.args.map a.eval)).foldl (fun tmps (t,a)=>tmps.setIfInBounds t a) R.tmps) R.assign R.body) w:=by simp only[execOp,hop,resolve,hc,hx,Deferred.ofValue,Sem.run_bind,Sem.run_pure,Result.andThen_ok,invoke,Array.empty_append];exact run_yield hR hargs
      rw[Oper.semAt_eq _ _ _ (by simp[hop]),hex];refine⟨fun h=>by simp[Fr,Fence.wide]at h,roundIn_of_wpIn trivial ?_⟩;have htm:aI g h.ag w (nJ r.tmps r.params (c.args.toList.map (aR tmps))) ((R.params.zip (c.args.map a.eval)).foldl (fun tmps (t,a)=>tmps.setIfInBounds t a) R.tmps).toList:=by have:=sG r.params _ _ r.tmps R.tmps hlen (eH ht c.args.toList) hlr.tmps;rw[←hlr.params]at this⊢;rw[←Array.foldl_toList,Array.toList_zip,Array.toList_map];exact this
      have spec1:=hcode _ _ _ _ h1 (some cl) g w ⟨(R.params.zip (c.args.map a.eval)).foldl (fun tmps (t,a)=>tmps.setIfInBounds t a) R.tmps,[]⟩ (0,[]) m htm ⟨[],rfl,by simp_all,List.Pairwise.nil⟩ (Nat.zero_le _) (by grind);rw[hlr.assign];refine wpIn_mono spec1 ?_;rintro e a1 w1 ⟨rfl,g1,nx1,hr1t,mk1⟩;have hgl1:=nx1.le.loops _ _ hgl;obtain⟨hb1,R1,hR1,hlr1⟩:=nx1.mr.loop l cl r1 hgl1 hr1;have hrd:R1.state=.ready:=C6 (hlr1.state.trans hst1);obtain⟨m2,l2⟩:=nx1.mr.zJ (r':={ r1 with state:=1 }) (R':={ R1 with state := .busy }) hgl1 hr1 hR1 ⟨rfl,hlr1.eN,hlr1.tmps,hlr1.params,hlr1.assign,hlr1.body⟩;have hlo1:s1.hp.qJ≤l:=by rw[nx1.fl.qJ];exact hlo
      refine⟨_,run_beginRound hR1 hrd,?_⟩;rw[yW,hlr.body];have spec2:=hcode _ _ _ _ h2 (some cl) g1 _ a1 (0,[]) m2 (hr1t.mono l2) (mk1.mono l2.defs) (Nat.zero_le _) (by grind);refine wpIn_mono spec2 ?_;have nx12:=nx1.trans ⟨m2,l2,Fl.eV hlo1 _⟩;intro e2 a2 w2 hpost
      have fin:∀(s2:St) (g2:Gh) (st:Nat) (eN:Option Code) (v:Bool),Nx g1 (eV s1.hp l { r1 with state:=1 }) (bk w1 cl (.loop { R1 with state := .busy })) g2 s2.hp w2→(yG l st eN v s2).get=some res→((eN.isNone=true→st=0)∧(eN.isNone=false→st=2))→v=eN.isNone →
        ∃v' w',(Instr.endRound cl eN).run P w2=.ok v' w'∧next (a.put o.dst v') w':=by
       intro s2 g2 st eN v nx hres hst hvv
       obtain⟨w3,h3,rfl,e3,nx3⟩:=M0 (P:=P) (w:=w2) hres hst hvv nx.mr (nx.le.loops _ _ hgl1) (by rw[nx.fl.qJ];exact hlo1)
       exact⟨_,w3,e3,hp g2 w3 _ (nx12.trans (nx.trans nx3)) (.aU v)⟩
      split at he
      ·obtain⟨rfl,g2,nx,_,_⟩:=hpost;exact fin _ _ _ _ _ nx he ⟨fun _=>rfl,fun h=>by simp at h⟩ rfl
      ·obtain⟨rfl,g2,nx,_,_⟩:=hpost;exact fin _ _ _ _ _ nx he ⟨fun h=>by simp at h,fun _=>rfl⟩ rfl
      ·obtain⟨rfl,g2,nx,_,_⟩:=hpost;exact fin _ _ _ _ _ nx he ⟨fun h=>by simp at h,fun _=>rfl⟩ rfl
      ·simp at he
     ·simp at he
   ·simp at he
  ·simp at he
end
noncomputable section
variable {P:Program}{g:Gh}{h:Hp}{w:World}
theorem MR.yZ (m:MR g h w){k n N:Nat}(hn:h.ag[k]?=some n)(hlt:n<N) :
  MR { g with own:=g.own.set k none } { h with ag:=h.ag.set k N } w∧Le g h.ag w { g with own:=g.own.set k none } (h.ag.set k N) w:=by
 have hk:=(C'.1 hn).1;have hk':k<g.own.length:=by rw[m.dW];exact hk
 have hle:Le g h.ag w { g with own:=g.own.set k none } (h.ag.set k N) w:=by
  refine⟨rfl,Below.refl _ _,fun _ _ x=>x,fun _ _ _ _ x=>x,fun _ _ x=>x,fun _ _ x=>x,fun _ x=>x,fun j q x=>?_,fun _ _ _=>rfl⟩;by_cases hjk:k=j
  ·grind
  ·simp_all
 have old:∀(j:Nat) x,(g.own.set k none)[j]?=some (some x)→g.own[j]?=some (some x)∧k≠j:=by grind
 refine⟨⟨m.base,m.fC,m.dN,fun i c l h1 h2=>?_,m.xc,by simp[m.dW],fun j h1=>?_,fun j b cap z h1=>?_,fun j j' b cap z cap' z' h1 h2=>?_,m.gT,fun l c r h1 h2=>?_,m.xe,m.defs,fun p hp=>(m.iH p hp).mono hle⟩,hle⟩
 ·obtain⟨a,b,o,d,e⟩:=m.var i c l h1 h2;exact⟨a,b,o,d,e.mono hle⟩
 ·by_cases hjk:k=j
  ·subst hjk;exact⟨N,by simp[hk]⟩
  ·simp only at h1;rw[List.getElem?_set_ne hjk]at h1;obtain⟨q,hq⟩:=m.jU j h1;simp_all
 ·obtain⟨h1,hjk⟩:=old j _ h1;obtain⟨q,cells,ty,h2,h3⟩:=m.tok j b cap z h1;grind
 ·exact m.xd j j' b cap z cap' z' (old j _ h1).1 (old j' _ h2).1
 ·obtain⟨a,R,f,d'⟩:=m.loop l c r h1 h2;exact⟨a,R,f,d'.mono hle⟩
theorem H6 {t el:TypeId}{i:TypeInfo}{z:Value}(hu:P.underlying t=some (.slice el))(hi:P.info? el=some i)(hz:i.zero=some z)(hs:i.size=1)(h0:0<i.bytes)(hb:i.bytes≤131072)(hzs:z.cells.size=1):V3 P t .u64 el i z :=
 ⟨hu,hi,hs,hb,h0,hz,hzs,fun e=>by cases e⟩
theorem qa {l:List AV}{tk:List Nat}{g:Gh}{w:World}{cs:List Value}(hl:∀a∈l,cX (bf a)=1)(hr:bu g tk w l cs):cs.length=l.length:=by have:=hr.length hl;simp_all
theorem R6 {tk:List Nat}{a:AV}{v:Value}(hc:aK a=true)(h:aM g tk w a v):(∀x,v≠.agg x)∧(∀x,v≠.tuple x):=by cases h<;>first|(simp only[aK,Bool.false_eq_true]at hc;done)|(refine⟨fun x e=>?_,fun x e=>?_⟩<;>cases e)
theorem wI {tk:List Nat}:∀{l:List AV} {cs:List Value},ay g tk w l cs→∀v∈cs,(∀x,v≠.agg x)∧(∀x,v≠.tuple x)
 |_,_,.nil,v,hv=>by cases hv
 |_,_,.ints hl hx h,v,hv=>by
  subst hx
  rcases List.mem_append.1 hv with hv|hv
  ·grind
  ·exact wI h v hv
 |_,_,.one hs h hr,v,hv=>by
  rcases List.mem_cons.1 hv with rfl|hv
  ·exact R6 hs h
  ·exact wI hr v hv
theorem C7 {tk:List Nat}:∀{l:List AV} {cs:List Value},bu g tk w l cs→∀v∈cs,(∀x,v≠.agg x)∧(∀x,v≠.tuple x)
 |_,_,.nil,v,hv=>by cases hv
 |_,_,.cons hs hx h hr,v,hv=>by
  subst hx
  rcases List.mem_append.1 hv with hv|hv
  ·exact wI h v hv
  ·exact C7 hr v hv
theorem FC {z:Value}{cs news:List Value}{cap:Nat}(hz:z.cells.size=1)(h:cs.length+news.length≤cap):(cs.toArray++news.toArray++Builtin.zeroCells z.cells (cap-(cs.length+news.length))).size=cap:=by
 have:(Builtin.zeroCells z.cells (cap-(cs.length+news.length))).size=cap-(cs.length+news.length):=by simp[Builtin.zeroCells,hz]
 simp_all
theorem uK {cs news:List Value}{rest:Array Value}{w':World}{b:Nat}{el:TypeId}(hb:w'.heap[b]?=some (.cells (cs.toArray++news.toArray++rest) el (0,0))){j:Nat}{u:Value}(hj:(cs++news)[j]?=some u):w'.cell? ⟨b,0+j,none⟩=some u:=by rw[aw hb,Nat.zero_add,←Array.getElem?_toList];grind
theorem Ej (m:MR g h w){t ty:TypeId}{s x:AV}{r:eG}{vs vx:Value}(ha:(zT P h t s x).get=some r)(hs:aM g h.ag w s vs)(hx:aM g h.ag w x vx) :
  ∃v h' y g' w',r=.val v h'∧(Builtin.append_ #[t,t] ty #[vs,vx]).run P w=.ok y w'∧MR g' h' w'∧Le g h.ag w g' h'.ag w'∧Fl h h'∧aM g' h'.ag w' v y:=by
 have flNew:∀q:Nat,Fl h { h with ag:=(h.ag++[0]).set h.ag.length q }:=fun q=>⟨rfl,rfl,rfl,fun _ _ _ x=>x,by grind,fun _ _ _ x=>x⟩;unfold zT at ha;split at ha
 ·rename_i f1 l f2 xs el hu;split at ha
  ·rename_i i hi;split at ha
   ·rename_i hc;obtain⟨c1,c2,c3,c3',c4,c5,c6,c7,c8⟩:=hc;obtain⟨z,hz,hzs⟩:=H'.1 c1;have H:=H6 (P:=P) hu hi hz c2 c3 c3' hzs;have hl:∀a∈l,cX (bf a)=1:=by simp_all
    have hxl:∀a∈xs,cX (bf a)=1:=by simp_all
    cases hs with
    |vlist hn hr hsl hcp =>
     rename_i a n cap cs;cases hx with
     |vlist hn2 hr2 hsl2 hcp2 =>
      rename_i a2 n2 cap2 news;subst hn hn2 hcp;have lc:=qa hl hr;have ln:=qa hxl hr2;have A:App P w t t ty .u64 el i z xs.length news (.slice a2 xs.length cap2):=ru H (by rw[ln];exact(Nat.mul_one _).symm) (hsl2.imp id fun ⟨c,o,e1,e2,_⟩=>⟨c,o,e1,e2,fun f=>f.elim⟩);obtain⟨c,o,rfl,hat,_⟩:=hsl.resolve_left (by grind)
      have hfit:Builtin.nextslicecap (l.length+xs.length) l.length*i.bytes≤281474976710656 :=
       growslice_fits (by omega) (Nat.le_trans (Nat.mul_le_mul (by omega) c3') (by decide))
      have hrun:=A.grow c7 ⟨c,o,none⟩ l.length l.length cs (by simp_all) hat.news (by omega) (by omega) hfit;have hge:=grownCap_ge w (l.length+xs.length) l.length el;have hmx:=grownCap_le_maxLen w (l.length+xs.length) l.length el (by unfold maxLen;omega);generalize grownCap w (l.length+xs.length) l.length el=cap' at hrun hge hmx;have hsz:(cs.toArray++news.toArray++Builtin.zeroCells z.cells (cap' - (l.length+xs.length))).size=cap':=by have:=FC (cs:=cs) (news:=news) (cap:=cap') hzs (by omega);rw[lc,ln]at this;exact this
      generalize hcells:cs.toArray++news.toArray++Builtin.zeroCells z.cells (cap' - (l.length+xs.length))=cells at hrun hsz;have hblk:(w.drew.alloc (.cells cells el)).heap[w.heap.size]?=some (.cells cells el (0,0)):=heap_alloc_new w.drew _;have hcell:∀j u,(cs++news)[j]?=some u→(w.drew.alloc (.cells cells el)).cell? ⟨w.heap.size,0+j,none⟩=some u:=fun j u hj=>uK (rest:=Builtin.zeroCells z.cells (cap' - (l.length+xs.length))) (by rw[hcells];exact hblk) hj;split at ha
      ·simp only[aj,A']at ha;subst ha;obtain⟨m1,l1⟩:=m.kO;obtain⟨m2,l2⟩:=m1.rW (k:=h.ag.length) (n:=0) (n':=l.length+xs.length) (cap:=cap') (z:=1) (by simp) (by omega) hge hmx (cells:=cells) (ty:=el) ⟨by rw[hsz];exact(Nat.mul_one _).symm,fun e=>by cases e⟩ w.drew (.inr rfl);have le:=l1.trans l2;refine⟨_,_,_,_,_,rfl,hrun,m2,le,flNew _,.vany (cs:=cs++news) (by simp) ((hr.mono le).append (hr2.mono le)) (.inr ⟨w.heap.size,0,rfl,fun j u hj=>⟨hcell j u hj,.inr ⟨rfl,?_⟩⟩,fun _=>m.base⟩) (fun k ek=>?_) (by simp_all)⟩
       ·have:=(C'.1 hj).1;rw[List.length_append,lc,ln]at this;show 0+j<(l.length+xs.length)*1;omega
       ·cases ek;refine⟨l.length+xs.length,by simp,Nat.le_refl _,fun _=>⟨some (w.heap.size,cap',1),?_,rfl,rfl,rfl⟩⟩;show((g.own++[none]).set h.ag.length (some (w.heap.size,cap',1)))[h.ag.length]?=_;rw[List.getElem?_set_self (by simp[m.dW])]
      ·simp only[aj,A']at ha;subst ha;obtain⟨m0,l0⟩:=m.drew;obtain⟨m1,l1⟩:=m0.AM cells el;obtain⟨m2,l2⟩:=m1.kO;obtain⟨m3,l3⟩:=m2.yZ (k:=h.ag.length) (n:=0) (N:=4096) (by simp) (by omega);have le:=((l0.trans l1).trans l2).trans l3;refine⟨_,_,_,_,_,rfl,hrun,m3,le,flNew _,.vany (cs:=cs++news) (by simp) ((hr.mono le).append (hr2.mono le)) (.inr ⟨w.heap.size,0,rfl,fun j u hj=>⟨hcell j u hj,.inr rfl⟩,fun _=>m.base⟩) (fun k ek=>by cases ek) (by rw[List.length_append];exact hge)⟩
   ·simp at ha
  ·simp at ha
 ·rename_i k l f2 xs el hu;split at ha
  ·rename_i i hi;split at ha
   ·rename_i hc;obtain⟨c1,c2,c3,c3',c4,c5,c6,c7,c8⟩:=hc;obtain⟨z,hz,hzs⟩:=H'.1 c1;have H:=H6 (P:=P) hu hi hz c2 c3 c3' hzs;have hl:∀a∈l,cX (bf a)=1:=by simp_all
    have hxl:∀a∈xs,cX (bf a)=1:=by simp_all
    split at ha
    ·rename_i hk;obtain⟨k1,k2⟩:=hk;simp only[aj,A']at ha;subst ha;have fl:Fl h { h with ag:=h.ag.set k 4096 }:=⟨rfl,rfl,rfl,fun _ _ _ x=>x,by grind,fun _ _ _ x=>x⟩;cases hs with
     |vany hn hr hsl htk hcp =>
      rename_i a n cap cs;cases hx with
      |vlist hn2 hr2 hsl2 hcp2 =>
       rename_i a2 n2 cap2 news;subst hn hn2;have lc:=qa hl hr;have ln:=qa hxl hr2;have A:App P w t t ty .u64 el i z xs.length news (.slice a2 xs.length cap2):=ru H (by rw[ln];exact(Nat.mul_one _).symm) (hsl2.imp id fun ⟨c,o,e1,e2,_⟩=>⟨c,o,e1,e2,fun f=>f.elim⟩);obtain⟨c,o,rfl,hat,hbase⟩:=hsl.resolve_left (by grind);by_cases hroom:l.length+xs.length≤cap
       ·obtain⟨q,q1,q2,q3⟩:=htk k rfl;obtain rfl:l.length=q:=by simp_all
        obtain⟨ow,how,hown⟩:=q3 rfl;cases ow with
        |none=>exact absurd hown.2.1 (by omega)
        |some ow =>
         obtain⟨b,cap',z'⟩:=ow;obtain⟨rfl,e0,rfl⟩:=hown;obtain⟨rfl,rfl⟩:c=b∧o=0:=by simp_all
         obtain⟨n2,cells2,ty2,s2,s3,sm,s4,s5,s6,s7,s8⟩:=m.tok k c cap 1 how;have hsz2:cells2.size=cap:=by rw[s6.1];exact Nat.mul_one _
         obtain⟨cells',e1,e2⟩:=A.at_ c7 c l.length cap s5 (C7 hr2) hroom (by rw[ln,hsz2];show l.length*1+xs.length≤cap;omega);obtain⟨m1,l1⟩:=m.vB (d:=xs.length) (cells':=cells') how k2 s5 (by rw[ln];exact(Nat.mul_one _).symm) hroom e1;obtain⟨m2,l2⟩:=m1.yZ (k:=k) (n:=l.length+xs.length) (N:=4096) (by grind) (by omega);have le:=l1.trans l2;have et:(h.ag.set k (l.length+xs.length)).set k 4096=h.ag.set k 4096:=List.set_set ..;simp only[et]at le;refine⟨_,_,_,_,_,rfl,e2,(by rw[←et];exact m2),le,fl,.vany (cs:=cs++news) (by simp) ((hr.mono le).append (hr2.mono le)) (.inr ⟨c,0,rfl,fun j u hj=>⟨?_,.inr ⟨rfl,?_⟩⟩,fun _=>s4⟩) (fun k ek=>by cases ek) (by rw[List.length_append];exact hroom)⟩
         ·rw[aw (cx s5),Nat.zero_add,←Array.getElem?_toList,e1];show(bA cells2.toList (l.length*1) news)[j]?=some u;rw[Nat.mul_one];have hj2:=(C'.1 hj).1;have hz2:cells2.toList.length=cap:=by rw[←hsz2];exact Array.length_toList
          rw[List.length_append,lc,ln]at hj2;by_cases hjl:j<l.length
          ·rw[jV hjl (by omega)];rw[List.getElem?_append_left (by omega)]at hj;have:=(hat j u hj).1;rw[aw s5,Nat.zero_add,←Array.getElem?_toList]at this;exact this
          ·rw[List.getElem?_append_right (by omega),lc]at hj;unfold bA;grind
         ·have:=(C'.1 hj).1;rw[List.length_append,lc,ln]at this;show 0+j<(l.length+xs.length)*1;omega
       ·have hfit:Builtin.nextslicecap (l.length+xs.length) cap*i.bytes≤281474976710656 :=
         growslice_fits (by omega) (Nat.le_trans (Nat.mul_le_mul (by omega) c3') (by decide))
        have hrun:=A.grow c7 ⟨c,o,none⟩ l.length cap cs (by simp_all) hat.news (by omega) (by omega) hfit;have hge:=grownCap_ge w (l.length+xs.length) cap el;generalize grownCap w (l.length+xs.length) cap el=cap' at hrun hge;obtain⟨m0,l0⟩:=m.drew;obtain⟨m1,l1⟩:=m0.AM (cs.toArray++news.toArray++Builtin.zeroCells z.cells (cap' - (l.length+xs.length))) el;obtain⟨m3,l3⟩:=m1.yZ (k:=k) (n:=l.length) (N:=4096) k2 (by omega);have le:=(l0.trans l1).trans l3;refine⟨_,_,_,_,_,rfl,hrun,m3,le,fl,.vany (cs:=cs++news) (by simp) ((hr.mono le).append (hr2.mono le)) (.inr ⟨w.heap.size,0,rfl,fun j u hj=>⟨uK (heap_alloc_new w.drew _) hj,.inr rfl⟩,fun _=>m.base⟩) (fun k ek=>by cases ek) (by rw[List.length_append];exact hge)⟩
    ·simp at ha
   ·simp at ha
  ·simp at ha
 ·simp at ha
end
noncomputable section
variable {P:Program}{g g':Gh}{h h':Hp}{tk:List Nat}{w w':World}{ro:Option Nat}{o:Oper}{a:Act}{next:Act→World→Prop}{Q:Exit→Act→World→Prop}
theorem fQ {c:Call}{b:Builtin}{s:Sem Value}{x:Value}(hop:o.op=.call c)(hc:c.callee=.builtin b)(he:∀cs,builtin b c.argTypes o.type cs (c.args.map a.eval)=(do pure (.value (←s))))(hx:s.run P w=.ok x w')(hn:next (a.put o.dst x) w') :
  o.wpIn (Fr ro) 0 P a w next Q:=by refine u6 (by simp[hop]) ?_ hn;simp only[execOp,hop,resolve,hc,Sem.run_bind,Sem.run_pure,Result.andThen_ok,invoke];simp_all
theorem Ky {α:Type}{a:Array α}{x:α}(h:a.toList=[x]):a=#[x]:=by grind
theorem uA {α:Type}{a:Array α}{x y:α}(h:a.toList=[x,y]):a=#[x,y]:=by grind
theorem Sg {E:Env}(ok:oP E){code:Nat→Code→St→Tr Out}(hcode:cU E.P code){d:Bool}{kn:List (Nat×Bool)}{tmps:List AV}{res:eG}{c:Call}(hop:o.op=.call c)(he:(aL E code d kn tmps h o).get=some res)(m:MR g h w)(ht:aI g h.ag w tmps a.tmps.toList)(hp:C1 o next Q a g h w res) :
  o.wpIn (Fr ro) 0 E.P a w next Q:=by
 simp only[aL,hop]at he;split at he
 ·rename_i hc;split at he
  ·rename_i x t h1 h2;obtain⟨v,h3,rfl⟩:=cu he;rw[bB]at h3;have hr:=eH (a:=a) ht c.args.toList;rw[h1]at hr;obtain⟨y,hy,hyr⟩:∃y,c.args.toList.map a.eval=[y]∧aM g h.ag w x y:=by
    generalize c.args.toList.map a.eval=l at hr;cases hr with
    |cons q r=>cases r;exact⟨_,rfl,q⟩
   have ha:c.args.map a.eval=#[y]:=by grind
   have hat:c.argTypes=#[t]:=Ky h2;obtain⟨z,hz,hzr⟩:=abB (P:=E.P) (w:=w) (ty:=o.type) h3 hyr;refine fQ hop hc ?_ hz (hp g w z (Nx.refl m) hzr);intro cs;rw[ha,hat];rfl
  ·simp at he
 ·rename_i hc;split at he
  ·rename_i s x t t' h1 h2;split at he
   ·rename_i e hes;split at he
    ·rename_i htt;subst htt;have hr:=eH (a:=a) ht c.args.toList;rw[h1]at hr;obtain⟨y1,y2,hy,hyr1,hyr2⟩:∃y1 y2,c.args.toList.map a.eval=[y1,y2]∧aM g h.ag w s y1∧aM g h.ag w x y2:=by
      generalize c.args.toList.map a.eval=l at hr;cases hr with
      |cons q r=>cases r with|cons q2 r=>cases r;grind
     have ha:c.args.map a.eval=#[y1,y2]:=by grind
     have hat:c.argTypes=#[t,t]:=uA h2;obtain⟨v,h',y,g',w',rfl,a1,a2,a3,a4⟩:=IW (ty:=o.type) m hes he hyr1 (Bt m hyr2);refine fQ hop hc ?_ a1 (hp g' w' y ⟨a2,a3,Fl.append he⟩ a4);intro cs;rw[ha,hat];rfl
    ·split at he
     ·rename_i b hst;have hr:=eH (a:=a) ht c.args.toList;rw[h1]at hr;obtain⟨y1,y2,hy,hyr1,hyr2⟩:∃y1 y2,c.args.toList.map a.eval=[y1,y2]∧aM g h.ag w s y1∧aM g h.ag w (.str b) y2:=by
       generalize c.args.toList.map a.eval=l at hr;cases hr with
       |cons q r=>cases r with|cons q2 r=>cases r;grind
      have ha:c.args.map a.eval=#[y1,y2]:=by grind
      have hat:c.argTypes=#[t,t']:=uA h2;obtain⟨v,h',y,g',w',rfl,a1,a2,a3,a4⟩:=xx (ty:=o.type) m hes hst he hyr1 hyr2;refine fQ hop hc ?_ a1 (hp g' w' y ⟨a2,a3,Fl.append he⟩ a4);intro cs;rw[ha,hat];rfl
     ·simp at he
   ·split at he
    ·rename_i htt;subst htt;have hr:=eH (a:=a) ht c.args.toList;rw[h1]at hr;obtain⟨y1,y2,hy,hyr1,hyr2⟩:∃y1 y2,c.args.toList.map a.eval=[y1,y2]∧aM g h.ag w s y1∧aM g h.ag w x y2:=by
      generalize c.args.toList.map a.eval=l at hr;cases hr with
      |cons q r=>cases r with|cons q2 r=>cases r;grind
     have ha:c.args.map a.eval=#[y1,y2]:=by grind
     have hat:c.argTypes=#[t,t]:=uA h2;obtain⟨v,h',y,g',w',rfl,a1,a2,a3,a5,a4⟩:=Ej (ty:=o.type) m he hyr1 hyr2;refine fQ hop hc ?_ a1 (hp g' w' y ⟨a2,a3,a5⟩ a4);intro cs;rw[ha,hat];rfl
    ·simp at he
  ·simp at he
 ·rename_i hc;split at he
  ·rename_i x rest h1;obtain⟨v,h3,rfl⟩:=cu he;rw[bB]at h3;have hr:=eH (a:=a) ht c.args.toList;rw[h1]at hr;obtain⟨y,ys,hy,hyr,hyrs⟩:∃y ys,c.args.toList.map a.eval=y::ys∧aM g h.ag w x y∧aI g h.ag w rest ys:=by
    generalize c.args.toList.map a.eval=l at hr;cases hr with
    |cons q r=>grind
   obtain⟨z,hz,hzr⟩:=oN (P:=E.P) true rest x v y ys h3 hyr hyrs;refine fQ hop hc (s:=Builtin.max_ c.argTypes o.type (c.args.map a.eval)) (fun _=>rfl) ?_ (hp g w z (Nx.refl m) hzr);simp only[Builtin.max_,Array.toList_map,hy];simpa using hz
  ·simp at he
 ·rename_i hc;split at he
  ·rename_i x rest h1;obtain⟨v,h3,rfl⟩:=cu he;rw[bB]at h3;have hr:=eH (a:=a) ht c.args.toList;rw[h1]at hr;obtain⟨y,ys,hy,hyr,hyrs⟩:∃y ys,c.args.toList.map a.eval=y::ys∧aM g h.ag w x y∧aI g h.ag w rest ys:=by
    generalize c.args.toList.map a.eval=l at hr;cases hr with
    |cons q r=>grind
   obtain⟨z,hz,hzr⟩:=oN (P:=E.P) false rest x v y ys h3 hyr hyrs;refine fQ hop hc (s:=Builtin.min_ c.argTypes o.type (c.args.map a.eval)) (fun _=>rfl) ?_ (hp g w z (Nx.refl m) hzr);simp only[Builtin.min_,Array.toList_map,hy];simpa using hz
  ·simp at he
 ·rename_i f hc;split at he
  ·rename_i gf av bv hv;exact ahJ ok hop hc hv he m ht hp
  ·rename_i l hv;split at he
   ·simp at he
   ·exact KK hcode hop hc hv he m ht hp
  ·simp at he
 ·simp at he
theorem Gx {E:Env}(ok:oP E){code:Nat→Code→St→Tr Out}(hcode:cU E.P code){d:Bool}{kn:List (Nat×Bool)}{tmps:List AV}{res:eG}(he:(aL E code d kn tmps h o).get=some res)(hk:jr kn tmps)(m:MR g h w)(ht:aI g h.ag w tmps a.tmps.toList)(hp:C1 o next Q a g h w res) :
  o.wpIn (Fr ro) 0 E.P a w next Q:=by
 by_cases hc:∃c,o.op=.call c
 ·obtain⟨c,hc⟩:=hc;exact Sg ok hcode hc he m ht hp
 ·exact JW (by simp_all) he hk m ht hp
end
def gd (ops:Array Oper)(o:Oper)(tmps:List AV):Option Bool :=
 match o.guard with
 |none=>some true
 |some (j,want) =>
  match (ops[j]?).bind (·.dst)with
  |none=>none
  |some t =>
   match tmps.getD t .any with
   | .aU b=>some (b==want)
   | .bool b=>some (b==want)
   | .undef=>some false
   |_=>none
def fe (d:Bool)(o:Oper)(tmps:List AV):eG→Option Out
 | .val v h=>some (.norm ⟨bN tmps o.dst v,h⟩)
 | .pan v h=>if d then none else some (.panic v h)
def fG (E:Env)(code:Nat→Code→St→Tr Out)(d:Bool)(ops:Array Oper)(o:Oper)(s:St):Option Out :=
 (gd ops o s.tmps).bind fun
  |true=>((aL E code d [] s.tmps s.hp o).get).bind (fe d o s.tmps)
  |false=>some (.norm ⟨bN s.tmps o.dst .undef,s.hp⟩)
def fm (E:Env)(code:Nat→Code→St→Tr Out)(d:Bool)(ops:Array Oper):List Oper→St→Option Out
 | [],s=>some (.norm s)
 |o::os,s=>(fG E code d ops o s).bind fun
  | .norm s'=>fm E code d ops os s'
  |out=>some out
theorem jr.nil (tmps:List AV):jr [] tmps:=fun t b h=>by simp at h
theorem xl (kn:List (Nat×Bool))(d t:Nat)(b:Bool)(h:(kn.filter (fun p=>p.1 != d)).lookup t=some b):t≠d∧kn.lookup t=some b:=by
 induction kn with
 |nil=>simp at h
 |cons p kn ih =>grind
theorem ph {l:List AV}{d t:Nat}(h:t≠d)(v x:AV):(l.set d v).getD t x=l.getD t x:=by grind
theorem jr.dst {kn:List (Nat×Bool)}{tmps:List AV}(hk:jr kn tmps)(d:Option Nat)(v:AV):jr (Cu kn d) (bN tmps d v):=by
 cases d with
 |none=>exact hk
 |some d =>intro t b h;obtain⟨h1,h2⟩:=xl kn d t b h;simp only[bN];rw[ph h1];exact hk t b h2
theorem jr.cons {kn:List (Nat×Bool)}{tmps:List AV}(hk:jr kn tmps){t:Nat}{b:Bool}(ht:tmps.getD t .any=.bool b):jr ((t,b)::kn) tmps:=by
 intro u c h;rw[List.lookup_cons]at h;by_cases hu:u=t
 ·simp_all
 ·have:(u==t)=false:=by simpa using hu
  rw[this]at h;exact hk u c h
def ato (tmps:List AV)(t:Nat)(b:Bool):Prop:=tmps.getD t .any=.bool b∨tmps.getD t .any=.aU b
noncomputable section
variable {E:Env}{code:Nat→Code→St→Tr Out}{d:Bool}{ops:Array Oper}
theorem Ty {kn:List (Nat×Bool)}{tmps:List AV}{h:Hp}{o:Oper}(hk:jr kn tmps):(aL E code d kn tmps h o).get=(aL E code d [] tmps h o).get:=by
 cases hop:o.op with
 |pick c a b =>
  simp only[aL,hop];have h0:known [] c=none:=by cases c<;>rfl
  rw[h0];cases hkn:known kn c with
  |none=>rfl
  |some q =>
   cases c with
   |tmp t =>have:=hk t q hkn;simp only[aR];cases q<;>rcases this with e|e<;>rw[e]<;>rfl
   |_=>simp[known]at hkn
 |makeFunc f x y=>cases f<;>simp only[aL,hop]
 |slice t x lo hi mx=>cases mx<;>simp only[aL,hop]
 |typeAssert x u t b=>cases b<;>simp only[aL,hop]
 |next x b=>cases b<;>simp only[aL,hop]
 |_=>simp only[aL,hop]
theorem gP:∀(os:List Oper) (kn:List (Nat×Bool)) (s:St) (out:Out),jr kn s.tmps→(lD E code d ops os kn s).get=some out→fm E code d ops os s=some out
 | [],kn,s,out,_,h=>by simpa[lD,fm]using h
 |o::os,kn,s,out,hk,h=>by
  have go:∀(kn':List (Nat×Bool)),jr kn' s.tmps→gd ops o s.tmps=some true→((aL E code d kn' s.tmps s.hp o).bind fun
    | .val v h=>lD E code d ops os (Cu kn' o.dst) ⟨bN s.tmps o.dst v,h⟩
    | .pan v h=>if d then .fail else .ret (.panic v h)).get=some out→fm E code d ops (o::os) s=some out:=by
   intro kn' hk' hg hx
   simp only[get_bind,B']at hx
   obtain⟨r,h1,h2⟩:=hx
   rw[Ty hk']at h1
   simp only[fm,fG,hg,Option.bind_some,h1]
   cases r with
   |val v h =>
    simp only[fe,Option.bind_some]
    exact gP os _ _ _ (hk'.dst _ _) h2
   |pan v h =>
    simp only[fe]
    cases d with
    |true=>simp at h2
    |false=>simpa using h2
  have no:∀(kn':List (Nat×Bool)),jr kn' s.tmps→gd ops o s.tmps=some false→(lD E code d ops os (Cu kn' o.dst) ⟨bN s.tmps o.dst .undef,s.hp⟩).get=some out→fm E code d ops (o::os) s=some out:=by
   intro kn' hk' hg hx
   simp only[fm,fG,hg,Option.bind_some]
   exact gP os _ _ _ (hk'.dst _ _) hx
  rw[lD]at h
  split at h
  ·rename_i hg
   exact go kn hk (by simp[gd,hg]) h
  ·rename_i j want hg
   split at h
   ·simp at h
   ·rename_i t hd
    have hgd:∀b,ato s.tmps t b→gd ops o s.tmps=some (b==want):=by
     intro b hb
     simp only[gd,hg,hd]
     rcases hb with e|e<;>rw[e]
    split at h
    ·rename_i b hl
     have hb:=hk t b hl
     split at h
     ·rename_i e
      exact go kn hk (by rw[hgd b hb,e]) h
     ·rename_i e
      exact no kn hk (by rw[hgd b hb];simpa using e) h
    ·split at h
     ·rename_i b e
      split at h
      ·rename_i e'
       exact go kn hk (by rw[hgd b (.inr e),e']) h
      ·rename_i e'
       exact no kn hk (by rw[hgd b (.inr e)];simpa using e') h
     ·rename_i e
      exact no kn hk (by simp only[gd,hg,hd];rw[e]) h
     ·rename_i b e
      have hgb:=hgd b (.inl e)
      cases want with
      |true =>
       simp only[if_true,fP]at h
       cases b with
       |true=>exact go _ (hk.cons e) hgb h
       |false=>exact no _ (hk.cons e) hgb h
      |false =>
       simp only[Bool.false_eq_true,if_false,fP]at h
       cases b with
       |true=>exact no _ (hk.cons e) hgb h
       |false=>exact go _ (hk.cons e) hgb h
     ·simp at h
end
noncomputable section
variable {E:Env}{code:Nat→Code→St→Tr Out}{d:Bool}{ops:Array Oper}
variable {g g':Gh}{h h':Hp}{tk:List Nat}{w w':World}{ro:Option Nat}{o:Oper}{a:Act}{Q:Exit→Act→World→Prop}
structure SR (g:Gh)(s:St)(a:Act)(w:World):Prop where
 mr:MR g s.hp w
 tmps:aI g s.hp.ag w s.tmps a.tmps.toList
theorem yX {tmps:List AV}(ht:aI g tk w tmps a.tmps.toList){b:Bool}(hg:gd ops o tmps=some b):Region.wanted o (yielded ops a.tmps)=b:=by
 unfold gd at hg;unfold Region.wanted;split at hg
 ·simp_all
 ·rename_i j want e;rw[e];split at hg
  ·cases hg
  ·rename_i t hd;have key:∀v,tmps.getD t .any=v→v≠.any→∃y,a.tmps[t]?=some y∧aM g tk w v y:=by intro v hv hne;obtain⟨y,h1,h2⟩:=ht.get t v (getD_some hv hne);exact(by simp_all)
   split at hg
   ·rename_i c e;obtain⟨y,h1,h2⟩:=key _ e (by simp);simp only[A']at hg;simp only[yielded,hd,Option.bind_some,h1,h2.eK];simp_all
   ·rename_i c e;obtain⟨y,h1,h2⟩:=key _ e (by simp);simp only[A']at hg;simp only[yielded,hd,Option.bind_some,h1,h2.gn];simp_all
   ·rename_i e;obtain⟨y,h1,h2⟩:=key _ e (by simp);simp only[A']at hg;simp only[yielded,hd,Option.bind_some,h1,h2.Je];rw[←hg];rfl
   ·cases hg
def fY (g:Gh)(h:Hp)(w:World)(a:Act)(K:Act→World→Prop)(Q:Exit→Act→World→Prop):Out→Prop
 | .norm s'=>∀g' w' a',Nx g h w g' s'.hp w'→aI g' s'.hp.ag w' s'.tmps a'.tmps.toList→a'.defers=a.defers→K a' w'
 | .panic v h'=>∀g' w' x a',Nx g h w g' h' w'→aM g' h'.ag w' v x→a'.defers=a.defers→Q (.panic (gD x)) a' w'
 |_=>True
theorem put_defers (a:Act)(d:Option Tmp)(v:Value):(a.put d v).defers=a.defers:=by cases d<;>rfl
theorem jc (ok:oP E)(hcode:cU E.P code){s:St}{out:Out}(he:fG E code d ops o s=some out)(m:MR g s.hp w)(ht:aI g s.hp.ag w s.tmps a.tmps.toList){i:Nat}(hi:ops[i]?=some o){K:Act→World→Prop}(hK:fY g s.hp w a K Q out) :
  wpOpIn (Fr ro) 0 E.P ops Q i K a w:=by
 unfold fG at he;simp only[B']at he;obtain⟨b,hg,he⟩:=he;unfold wpOpIn;rw[hi];simp only[yX ht hg];cases b with
 |true =>
  simp only[B']at he;obtain⟨r,h1,h2⟩:=he;simp only[if_true];refine Gx ok hcode h1 (jr.nil _) m ht ?_;cases r with
  |val v h' =>simp only[fe,A']at h2;subst h2;intro g' w' x nx hx;exact hK g' w' (a.put o.dst x) nx (tM (ht.mono nx.le) hx _) (put_defers _ _ _)
  |pan v h' =>
   simp only[fe]at h2;split at h2
   ·cases h2
   ·simp only[A']at h2;subst h2;intro g' w' x nx hx;exact hK g' w' x a nx hx rfl
 |false =>simp only[A']at he;subst he;simp only[Bool.false_eq_true,if_false];exact⟨fun _ _=>trivial,hK g w _ (Nx.refl m) (tM ht .undef _) (put_defers _ _ _)⟩
theorem Bx {os:List Oper}{s:St}{out:Out}(he:fm E code d ops os s=some out):(∃s',out=.norm s')∨(∃v h,out=.panic v h):=by
 induction os generalizing s with
 |nil=>simp[fm]at he;grind
 |cons o os ih =>
  simp only[fm,B']at he;obtain⟨r,h1,h2⟩:=he;cases r with
  |norm s'=>exact ih h2
  |panic v h=>grind
  |ret s' =>
   exfalso;simp only[fG,B']at h1;obtain⟨b,_,h1⟩:=h1;cases b with
   |false=>simp at h1
   |true =>simp only[B']at h1;obtain⟨q,_,h1⟩:=h1;cases q<;>simp[fe]at h1
  |exit id s' =>
   exfalso;simp only[fG,B']at h1;obtain⟨b,_,h1⟩:=h1;cases b with
   |false=>simp at h1
   |true =>simp only[B']at h1;obtain⟨q,_,h1⟩:=h1;cases q<;>simp[fe]at h1
theorem fY.trans {s':St}{g':Gh}{a':Act}{K:Act→World→Prop}{out:Out}(hK:fY g h w a K Q out)(nx:Nx g h w g' s'.hp w')(hd:a'.defers=a.defers):fY g' s'.hp w' a' K Q out:=by
 cases out with
 |norm s=>exact fun g2 w2 a2 nx2 ht hd2=>hK g2 w2 a2 (nx.trans nx2) ht (hd2.trans hd)
 |panic v h=>exact fun g2 w2 x a2 nx2 hx hd2=>hK g2 w2 x a2 (nx.trans nx2) hx (hd2.trans hd)
 |_=>trivial
theorem DA (ok:oP E)(hcode:cU E.P code){tl:List Nat}:∀(os:List Oper) (is:List Nat) (s:St) (out:Out) (g:Gh) (a:Act) (w:World),is.map (ops[·]?)=os.map some→fm E code d ops os s=some out→MR g s.hp w→aI g s.hp.ag w s.tmps a.tmps.toList→fY g s.hp w a (wpOpsIn (Fr ro) 0 E.P ops Q tl) Q out→wpOpsIn (Fr ro) 0 E.P ops Q (is++tl) a w
 | [],is,s,out,g,a,w,hm,he,m,ht,hK=>by
  cases is with
  |cons=>simp at hm
  |nil =>
   simp only[fm,A']at he
   subst he
   exact hK g w a (Nx.refl m) ht rfl
 |o::os,is,s,out,g,a,w,hm,he,m,ht,hK=>by
  cases is with
  |nil=>simp at hm
  |cons i is =>
   simp only[List.map_cons,List.cons.injEq]at hm
   simp only[fm,B']at he
   obtain⟨r,h1,h2⟩:=he
   rw[List.cons_append,wpOpsIn_cons]
   refine jc ok hcode h1 m ht hm.1 ?_
   cases r with
   |norm s'=>exact fun g' w' a' nx ht' hd'=>DA ok hcode os is s' out g' a' w' hm.2 h2 nx.mr ht' (hK.trans nx hd')
   |panic v h' =>
    simp only[A']at h2
    subst h2
    exact hK
   |_=>trivial
theorem Km (ok:oP E)(hcode:cU E.P code):∀(os:List Oper) (is:List Nat) (s:St) (out:Out) (g:Gh) (a:Act) (w:World),is.map (ops[·]?)=os.map some→fm E code d ops os s=some out→MR g s.hp w→aI g s.hp.ag w s.tmps a.tmps.toList→fY g s.hp w a (Q .normal) Q out→wpOpsIn (Fr ro) 0 E.P ops Q is a w
 | [],is,s,out,g,a,w,hm,he,m,ht,hK=>by
  cases is with
  |cons=>simp at hm
  |nil =>
   simp only[fm,A']at he
   subst he
   exact hK g w a (Nx.refl m) ht rfl
 |o::os,is,s,out,g,a,w,hm,he,m,ht,hK=>by
  cases is with
  |nil=>simp at hm
  |cons i is =>
   simp only[List.map_cons,List.cons.injEq]at hm
   simp only[fm,B']at he
   obtain⟨r,h1,h2⟩:=he
   rw[wpOpsIn_cons]
   refine jc ok hcode h1 m ht hm.1 ?_
   cases r with
   |norm s'=>exact fun g' w' a' nx ht' hd'=>Km ok hcode os is s' out g' a' w' hm.2 h2 nx.mr ht' (hK.trans nx hd')
   |panic v h' =>
    simp only[A']at h2
    subst h2
    exact hK
   |_=>trivial
end
noncomputable section
variable {E:Env}{code:Nat→Code→St→Tr Out}{ops:Array Oper}
theorem nX {tmps tmps':List AV}{o:Option Operand}(h:∀x∈o,aR tmps x=aR tmps' x):o.map (aR tmps)=o.map (aR tmps'):=by
 cases o with
 |none=>rfl
 |some x=>simp[h x (by simp)]
theorem lB {tmps tmps':List AV}{l:List (Nat×Operand)}(h:∀x∈l.map (·.2),aR tmps x=aR tmps' x):l.map (fun p=>(p.1,aR tmps p.2))=l.map (fun p=>(p.1,aR tmps' p.2)) :=
 List.map_congr_left (by grind)
theorem uc {d:Bool}{tmps tmps':List AV}{h:Hp}{o:Oper}(hc:∀x∈o.op.operands,aR tmps x=aR tmps' x):aL E code d [] tmps h o=aL E code d [] tmps' h o:=by
 cases hop:o.op with
 |alloc t=>simp only[aL,hop]
 |move x=>simp only[hop,Op.operands]at hc;simp only[aL,hop];rw[hc x (by simp)]
 |assign x=>simp only[hop,Op.operands]at hc;simp only[aL,hop];rw[hc x (by simp)]
 |box t x=>simp only[hop,Op.operands]at hc;simp only[aL,hop];rw[hc x (by simp)]
 |load t x=>simp only[hop,Op.operands]at hc;simp only[aL,hop];rw[hc x (by simp)]
 |nilCheck x=>simp only[hop,Op.operands]at hc;simp only[aL,hop];rw[hc x (by simp)]
 |unOp _ _ x=>simp only[hop,Op.operands]at hc;simp only[aL,hop];rw[hc x (by simp)]
 |convert _ _ x=>simp only[hop,Op.operands]at hc;simp only[aL,hop];rw[hc x (by simp)]
 |makeInterface _ x=>simp only[hop,Op.operands]at hc;simp only[aL,hop];rw[hc x (by simp)]
 |fieldAddr _ x _=>simp only[hop,Op.operands]at hc;simp only[aL,hop];rw[hc x (by simp)]
 |field _ x _=>simp only[hop,Op.operands]at hc;simp only[aL,hop];rw[hc x (by simp)]
 |extract x _=>simp only[hop,Op.operands]at hc;simp only[aL,hop];rw[hc x (by simp)]
 |typeAssert x _ _ b=>cases b<;>simp only[hop,Op.operands]at hc<;>simp only[aL,hop];rw[hc x (by simp)]
 |panic x=>simp only[hop,Op.operands]at hc;simp only[aL,hop];rw[hc x (by simp)]
 |range _ x=>simp only[hop,Op.operands]at hc;simp only[aL,hop];rw[hc x (by simp)]
 |next x b=>cases b<;>simp only[hop,Op.operands]at hc<;>simp only[aL,hop];rw[hc x (by simp)]
 |pick c x y=>simp only[hop,Op.operands]at hc;simp only[aL,hop];simp_all
 |store _ x y=>simp only[hop,Op.operands]at hc;simp only[aL,hop];simp_all
 |binOp _ _ x y _=>simp only[hop,Op.operands]at hc;simp only[aL,hop];simp_all
 |indexAddr _ x y=>simp only[hop,Op.operands]at hc;simp only[aL,hop];rw[Eu (hc x (by simp)),hc y (by simp)]
 |index _ x y=>simp only[hop,Op.operands]at hc;simp only[aL,hop];simp_all
 |build _ ps =>simp only[hop,Op.operands]at hc;simp only[aL,hop];rw[lB (tmps:=tmps) (tmps':=tmps') fun x hx=>hc x (by simpa using hx)]
 |buildSlice _ _ ps =>simp only[hop,Op.operands]at hc;simp only[aL,hop];rw[lB (tmps:=tmps) (tmps':=tmps') fun x hx=>hc x (by simpa using hx)]
 |makeFunc f x y =>simp only[hop,Op.operands]at hc;cases f<;>simp only[aL,hop];simp_all
 |slice t x lo hi mx =>
  simp only[hop,Op.operands]at hc;cases mx with
  |some q=>simp only[aL,hop]
  |none =>simp only[aL,hop];rw[hc x (by simp),nX (tmps:=tmps) (tmps':=tmps') (o:=lo) fun q hq=>hc q (by simp at hq⊢;exact .inr (.inl hq)),nX (tmps:=tmps) (tmps':=tmps') (o:=hi) fun q hq=>hc q (by simp at hq⊢;exact .inr (.inr hq))]
 |call c =>
  simp only[hop,Op.operands,Call.operands]at hc;simp only[aL,hop];have e:c.args.toList.map (aR tmps)=c.args.toList.map (aR tmps'):=by simp_all
  rw[e];grind
 |_=>simp only[aL,hop]
theorem jk {tmps:List AV}{h:Hp}{o:Oper}{r:eG}(hc:cls o≤1)(he:(aL E code true [] tmps h o).get=some r):∃v,r=.val v h:=by
 have vv:∀{t:Tr AV},(bw h t).get=some r→∃v,r=.val v h:=fun hv=>by obtain⟨v,_,e⟩:=cu hv;exact⟨v,e⟩
 cases hop:o.op with
 |move x=>simp only[aL,hop,aj,A']at he;exact⟨_,he.symm⟩
 |assign x =>
  simp only[cls,hop]at hc;split at hc
  ·omega
  ·rename_i hn;simp only[aL,hop,aj,A']at he;have hn':gL x=false:=by simpa using hn
   rw[hn']at he;exact⟨_,he.symm⟩
 |pick c x y =>
  simp only[aL,hop]at he;have h0:known [] c=none:=by cases c<;>rfl
  rw[h0]at he;simp only at he;split at he
  ·simp only[aj,A']at he;exact⟨_,he.symm⟩
  ·simp only[aj,A']at he;exact⟨_,he.symm⟩
  ·rename_i b _;rw[fP]at he;cases b<;>simp at he<;>exact⟨_,he.symm⟩
  ·simp at he
 |alloc t=>simp only[cls,hop]at hc;omega
 |box t x=>simp only[cls,hop]at hc;omega
 |store t x y=>simp only[cls,hop]at hc;omega
 |build t ps=>simp only[aL,hop]at he;exact vv he
 |buildSlice t n ps=>simp only[aL,hop]at he;exact vv he
 |load t x=>simp only[aL,hop]at he;exact vv he
 |nilCheck x =>simp only[aL,hop]at he;split at he<;>first|(simp at he;done)|(simp only[aj,A']at he;exact⟨_,he.symm⟩)
 |binOp=>simp only[aL,hop]at he;exact vv he
 |unOp=>simp only[aL,hop]at he;exact vv he
 |convert=>simp only[aL,hop]at he;exact vv he
 |makeFunc f x y =>
  simp only[aL,hop]at he;cases f with
  |func f=>simp only[aj,A']at he;exact⟨_,he.symm⟩
  |_=>simp at he
 |makeInterface =>
  simp only[aL,hop]at he;split at he
  ·simp only[aj,A']at he;exact⟨_,he.symm⟩
  ·simp at he
 |slice t x lo hi mx =>
  cases mx with
  |some _=>simp[aL,hop]at he
  |none=>simp only[aL,hop]at he;exact vv he
 |fieldAddr =>
  simp only[aL,hop]at he;split at he
  ·simp only[aj,A']at he;exact⟨_,he.symm⟩
  ·exact vv he
  ·simp at he
 |field =>
  simp only[aL,hop]at he;split at he
  ·exact vv he
  ·simp at he
 |indexAddr=>simp only[aL,hop]at he;exact vv he
 |index=>simp only[aL,hop]at he;exact vv he
 |extract =>
  simp only[aL,hop]at he;split at he
  ·exact vv he
  ·simp at he
 |typeAssert x u t b =>
  cases b with
  |false=>simp[aL,hop]at he
  |true =>
   simp only[aL,hop]at he;split at he
   ·exact vv he
   ·simp at he
 |panic=>simp only[cls,hop]at hc;omega
 |range=>simp only[cls,hop]at hc;omega
 |next=>simp only[cls,hop]at hc;omega
 |call c =>
  simp only[cls,hop]at hc;simp only[aL,hop]at he;split at he
  ·split at he
   ·exact vv he
   ·simp at he
  ·simp_all
  ·split at he
   ·exact vv he
   ·simp at he
  ·split at he
   ·exact vv he
   ·simp at he
  ·split at he
   ·unfold va at he;split at he
    ·simp only at he;split at he
     ·simp only[get_bind,aj,B',A']at he;grind
     ·simp at he
    ·simp only[if_true,get_bind,B']at he;obtain⟨q,_,e⟩:=he;split at e
     ·split at e
      ·simp only[aj,A']at e;exact⟨_,e.symm⟩
      ·simp at e
     ·simp at e
   ·simp at he
   ·simp at he
  ·simp at he
 |_=>simp[aL,hop]at he
theorem wy {tmps:List AV}{h:Hp}{o:Oper}{v:AV}(hc:cls o=0)(he:(aL E code true [] tmps h o).get=some (.val v h))(h2:Hp):(aL E code true [] tmps h2 o).get=some (.val v h2):=by
 have vv:∀{t:Tr AV},(bw h t).get=some (.val v h)→(bw h2 t).get=some (.val v h2):=fun hv=>by obtain⟨v',h1,e⟩:=cu hv;simp only[eG.val.injEq]at e;simp[bw,get_bind,h1,e.1]
 cases hop:o.op with
 |move x=>simp only[aL,hop,aj,A',eG.val.injEq]at he⊢;simp_all
 |assign x =>
  simp only[cls,hop]at hc;split at hc
  ·omega
  ·rename_i hn;have hn':gL x=false:=by simpa using hn
   simp only[aL,hop,hn',aj,A',iK,eG.val.injEq]at he⊢;simp_all
 |pick c x y =>
  simp only[aL,hop]at he⊢;have h0:known [] c=none:=by cases c<;>rfl
  rw[h0]at he⊢;simp only at he⊢;split at he<;>rename_i e<;>try rw[e]
  ·simp_all
  ·simp_all
  ·rename_i b;simp only[fP]at he⊢;cases b<;>simp at he⊢ <;> exact he
  ·simp at he
 |alloc t=>simp only[cls,hop]at hc;omega
 |box t x=>simp only[cls,hop]at hc;omega
 |store t x y=>simp only[cls,hop]at hc;omega
 |load t x=>simp only[cls,hop]at hc;omega
 |build t ps=>simp only[aL,hop]at he⊢;exact vv he
 |buildSlice t n ps=>simp only[aL,hop]at he⊢;exact vv he
 |nilCheck x =>
  simp only[aL,hop]at he⊢
  split at he<;>first
   |(simp at he;done)
   |(simp only[aj,A',eG.val.injEq]at he⊢;exact⟨he.1,by trivial⟩)
 |binOp=>simp only[aL,hop]at he⊢;exact vv he
 |unOp=>simp only[aL,hop]at he⊢;exact vv he
 |convert=>simp only[aL,hop]at he⊢;exact vv he
 |makeFunc f x y =>
  cases f with
  |func f=>simp only[aL,hop,aj,A',eG.val.injEq]at he⊢;simp_all
  |_=>simp[aL,hop]at he
 |makeInterface =>
  simp only[aL,hop]at he⊢;split at he
  ·simp_all
  ·simp at he
 |slice t x lo hi mx =>
  cases mx with
  |some _=>simp[aL,hop]at he
  |none=>simp only[aL,hop]at he⊢;exact vv he
 |fieldAddr =>
  simp only[aL,hop]at he⊢;split at he
  ·simp_all
  ·simp_all
  ·simp at he
 |field =>
  simp only[aL,hop]at he⊢;split at he
  ·simp_all
  ·simp at he
 |indexAddr=>simp only[aL,hop]at he⊢;exact vv he
 |index=>simp only[aL,hop]at he⊢;exact vv he
 |extract =>
  simp only[aL,hop]at he⊢;split at he
  ·simp_all
  ·simp at he
 |typeAssert x u t b =>
  cases b with
  |false=>simp[aL,hop]at he
  |true =>
   simp only[aL,hop]at he⊢;split at he
   ·simp_all
   ·simp at he
 |panic=>simp only[cls,hop]at hc;omega
 |range=>simp only[cls,hop]at hc;omega
 |next=>simp only[cls,hop]at hc;omega
 |call c =>
  simp only[cls,hop]at hc;simp only[aL,hop]at he⊢;split at he
  ·split at he
   ·simp_all
   ·simp at he
  ·simp_all
  ·split at he
   ·simp_all
   ·simp at he
  ·split at he
   ·simp_all
   ·simp at he
  ·simp_all
  ·simp at he
 |_=>simp[aL,hop]at he
end
noncomputable section
variable {E:Env}{code:Nat→Code→St→Tr Out}{ops:Array Oper}
theorem yK {tmps:List AV}{d:Option Nat}{v:AV}{x:Operand}(h:∀t,d=some t→x≠.tmp t):aR (bN tmps d v) x=aR tmps x:=by
 cases d with
 |none=>rfl
 |some t =>
  cases x with
  |tmp u =>
   have hne:u≠t:=by simp_all
   simp only[aR,bN];grind
  |_=>rfl
theorem CA {o:Oper}{t:Nat}(h:t∉o.looksAt ops):∀x∈o.op.operands,x≠.tmp t:=fun x hx e=>h (by
 subst e
 exact List.mem_append_left _ (List.mem_filterMap.2 ⟨.tmp t,by simpa using hx,rfl⟩))
theorem jZ {tmps:List AV}{h:Hp}{o:Oper}{d:Option Nat}{v:AV}(hl:∀t,d=some t→t∉o.looksAt ops):aL E code true [] (bN tmps d v) h o=aL E code true [] tmps h o :=
 uc fun x hx=>yK fun t ht=>CA (hl t ht) x hx
theorem qY {tmps:List AV}{o:Oper}{d:Option Nat}{v:AV}(hl:∀t,d=some t→t∉o.looksAt ops):gd ops o (bN tmps d v)=gd ops o tmps:=by
 cases d with
 |none=>rfl
 |some t =>
  unfold gd;cases hg:o.guard with
  |none=>rfl
  |some p =>
   obtain⟨j,want⟩:=p;simp only;cases hd:(ops[j]?).bind (·.dst)with
   |none=>rfl
   |some u =>
    have hne:u≠t:=fun e=>hl t rfl (by
     subst e
     exact List.mem_append_right _ (by rw[hg];simp only[hd];simp))
    simp only[bN];rw[ph hne]
theorem jD {tmps:List AV}{d e:Option Nat}{v u:AV}(h:∀t,d=some t→e≠some t):bN (bN tmps d v) e u=bN (bN tmps e u) d v:=by
 cases d with
 |none=>rfl
 |some d =>
  cases e with
  |none=>rfl
  |some e =>simp only[bN];exact(List.set_comm _ _ (by grind))
theorem fE {o:Oper}{s s':St}(he:fG E code true ops o s=some (.norm s')):∃v h',s'=⟨bN s.tmps o.dst v,h'⟩ ∧
  ((gd ops o s.tmps=some true∧(aL E code true [] s.tmps s.hp o).get=some (.val v h'))∨(gd ops o s.tmps=some false∧v=.undef∧h'=s.hp)):=by
 simp only[fG,B']at he;obtain⟨b,hg,he⟩:=he;cases b with
 |false =>simp_all
 |true =>
  simp only[B']at he;obtain⟨r,h1,h2⟩:=he;cases r with
  |val v h =>simp only[fe,A',Out.norm.injEq]at h2;simp_all
  |pan v h=>simp[fe]at h2
theorem oK {o:Oper}{tmps:List AV}{h h':Hp}{v:AV}(he:(gd ops o tmps=some true∧(aL E code true [] tmps h o).get=some (.val v h'))∨(gd ops o tmps=some false∧v=.undef∧h'=h)) :
  fG E code true ops o ⟨tmps,h⟩=some (.norm ⟨bN tmps o.dst v,h'⟩):=by
 rcases he with⟨h1,h2⟩|⟨h1,rfl,rfl⟩
 ·simp only[fG,h1,Option.bind_some,h2,fe]
 ·simp only[fG,h1,Option.bind_some]
theorem LM {oi oj:Oper}{s s1 s2:St}(hap:oi.apart ops oj=true)(hcl:FU (cls oi) (cls oj)=false)(h1:fG E code true ops oi s=some (.norm s1))(h2:fG E code true ops oj s1=some (.norm s2)) :
  ∃t1,fG E code true ops oj s=some (.norm t1)∧fG E code true ops oi t1=some (.norm s2):=by
 obtain⟨a1,a2,a3⟩:=Oper.apart_spec hap;obtain⟨v,h',rfl,e1⟩:=fE h1;obtain⟨u,h'',rfl,e2⟩:=fE h2;simp only[FU,Bool.or_eq_false_iff,Bool.and_eq_false_iff,beq_eq_false_iff_ne,ne_eq,bne_eq_false_iff_eq]at hcl;obtain⟨⟨⟨c1,c2⟩,c3⟩,c4⟩:=hcl;simp only at e1 e2⊢;rw[qY a1,jZ a1]at e2;obtain⟨tmps,h⟩:=s;simp only at e1 e2⊢;have ci:cls oi=0∨cls oi=1∨cls oi=2:=by
  have:cls oi≤3:=by unfold cls;split<;>(try split)<;>omega
  omega
 have cj:cls oj=0∨cls oj=1∨cls oj=2:=by
  have:cls oj≤3:=by unfold cls;split<;>(try split)<;>omega
  omega
 have hi:cls oi≤1→h'=h:=fun hc=>by
  rcases e1 with⟨_,e⟩|⟨_,_,e⟩
  ·obtain⟨v',e'⟩:=jk hc e;simp_all
  ·exact e
 have hj:cls oj≤1→h''=h':=fun hc=>by
  rcases e2 with⟨_,e⟩|⟨_,_,e⟩
  ·obtain⟨v',e'⟩:=jk hc e;simp_all
  ·exact e
 have fin:∀h1:Hp,((gd ops oj tmps=some true∧(aL E code true [] tmps h oj).get=some (.val u h1))∨(gd ops oj tmps=some false∧u=.undef∧h1=h)) →
   ((gd ops oi tmps=some true∧(aL E code true [] tmps h1 oi).get=some (.val v h''))∨(gd ops oi tmps=some false∧v=.undef∧h''=h1)) →
   ∃t1,fG E code true ops oj ⟨tmps,h⟩=some (.norm t1)∧fG E code true ops oi t1=some (.norm ⟨bN (bN tmps oi.dst v) oj.dst u,h''⟩):=by
  intro h1 k1 k2
  refine⟨_,oK k1,?_⟩
  rw[jD a2]
  refine oK ?_
  rw[qY a3,jZ a3]
  exact k2
 have plain:∀(o:Oper) (x:AV) (p q:Hp),cls o=0→((gd ops o tmps=some true∧(aL E code true [] tmps p o).get=some (.val x p))∨(gd ops o tmps=some false∧x=.undef∧p=p))→((gd ops o tmps=some true∧(aL E code true [] tmps q o).get=some (.val x q))∨(gd ops o tmps=some false∧x=.undef∧q=q)):=by
  intro o x p q hc hx;rcases hx with⟨x1,x2⟩|⟨x1,x2,_⟩
  ·exact .inl ⟨x1,wy hc x2 q⟩
  ·simp_all
 grind
theorem It {P:Program}{h h':Hp}{t:TypeId}{a:AV}{b:Nat}(hb:nU a=some b)(he:bx h' b=bx h b):eC P h' t a=eC P h t a:=by cases a<;>simp only[nU,A',reduceCtorEq]at hb<;>subst hb<;>simp only[eC,he]
theorem kG {h:Hp}{b c:Nat}{l:List AV}(hne:c≠b):bx (fM h c l) b=bx h b:=by simp only[bx,fM];simp_all
theorem Fb {P:Program}{h h':Hp}{t:TypeId}{a v:AV}{c:Nat}(hc:nU a=some c)(hs:kT P h t a v=some h')(b:Nat)(hne:c≠b):bx h' b=bx h b:=by
 cases a<;>simp only[nU,A',reduceCtorEq]at hc<;>subst hc<;>simp only[kT]at hs
 ·split at hs
  ·simp_all
  simp only[B']at hs;obtain⟨l,_,hs⟩:=hs;split at hs
  ·simp only[H']at hs;obtain⟨l',_,rfl⟩:=hs;exact kG hne
  ·cases hs
 ·simp only[B']at hs;obtain⟨l,_,⟨k,xs⟩,_,hs⟩:=hs;simp only at hs;split at hs
  ·split at hs
   ·simp only[H']at hs;obtain⟨l',_,rfl⟩:=hs;exact kG hne
   ·cases hs
  ·split at hs
   ·simp only[H']at hs;obtain⟨l',_,rfl⟩:=hs;exact kG hne
   ·cases hs
  ·split at hs
   ·simp only[H']at hs;obtain⟨l',_,rfl⟩:=hs;exact kG hne
   ·cases hs
  ·cases hs
def FL (tmps:List AV)(p o:Oper):Prop := ∃x t y u b c,addrOf p=some (x,t)∧addrOf o=some (y,u)∧x≠y∧nU (tmps.getD t .any)=some b∧nU (tmps.getD u .any)=some c∧b≠c
theorem yN {o:Oper}{t:Nat}(h:addrOf o=some (true,t)):∃ty,o.op=.load ty (.tmp t):=by unfold addrOf at h;grind
theorem vq {o:Oper}{t:Nat}(h:addrOf o=some (false,t)):∃ty x,o.op=.store ty (.tmp t) x:=by unfold addrOf at h;grind
def Zf (E:Env)(code:Nat→Code→St→Tr Out)(ops:Array Oper)(o:Oper)(tmps:List AV)(h:Hp)(v:AV)(h':Hp):Prop :=
 (gd ops o tmps=some true∧(aL E code true [] tmps h o).get=some (.val v h'))∨(gd ops o tmps=some false∧v=.undef∧h'=h)
theorem vc {o:Oper}{ty:TypeId}{t b:Nat}{tmps:List AV}{h h' q:Hp}{v:AV}(ho:o.op=.load ty (.tmp t))(hb:nU (tmps.getD t .any)=some b)(hq:bx q b=bx h b)(hd:Zf E code ops o tmps h v h'):h'=h∧Zf E code ops o tmps q v q:=by
 rcases hd with⟨h1,h2⟩|⟨h1,h2,h3⟩
 ·simp only[aL,ho]at h2;obtain⟨w,h4,h5⟩:=cu h2;simp only[eG.val.injEq]at h5;obtain⟨rfl,rfl⟩:=h5;refine⟨rfl,.inl ⟨h1,?_⟩⟩;simp only[aL,ho];rw[bB]at h4;simp only[aR]at h4⊢;rw[It hb hq,h4];rfl
 ·exact⟨h3,.inr ⟨h1,h2,rfl⟩⟩
theorem yF {o:Oper}{ty:TypeId}{x:Operand}{t c:Nat}{tmps:List AV}{h h':Hp}{v:AV}(ho:o.op=.store ty (.tmp t) x)(hc:nU (tmps.getD t .any)=some c)(hd:Zf E code ops o tmps h v h')(b:Nat)(hne:c≠b):bx h' b=bx h b:=by
 rcases hd with⟨h1,h2⟩|⟨h1,h2,h3⟩
 ·simp only[aL,ho]at h2;split at h2
  ·rename_i h4 hs;simp only[aj,A',eG.val.injEq]at h2;rw[←h2.2];exact Fb hc hs b hne
  ·simp at h2
 ·rw[h3]
theorem JO {oi oj:Oper}{s s1 s2:St}(hap:oi.apart ops oj=true)(hal:FL s.tmps oi oj)(h1:fG E code true ops oi s=some (.norm s1))(h2:fG E code true ops oj s1=some (.norm s2)) :
  ∃t1,fG E code true ops oj s=some (.norm t1)∧fG E code true ops oi t1=some (.norm s2):=by
 obtain⟨a1,a2,a3⟩:=Oper.apart_spec hap;obtain⟨v,h',rfl,e1⟩:=fE h1;obtain⟨u,h'',rfl,e2⟩:=fE h2;simp only at e1 e2⊢;rw[qY a1,jZ a1]at e2;obtain⟨tmps,h⟩:=s;simp only at e1 e2 hal⊢
 have fin:∀h1:Hp,Zf E code ops oj tmps h u h1→Zf E code ops oi tmps h1 v h'' →
   ∃t1,fG E code true ops oj ⟨tmps,h⟩=some (.norm t1)∧fG E code true ops oi t1=some (.norm ⟨bN (bN tmps oi.dst v) oj.dst u,h''⟩):=by
  intro h1 k1 k2
  refine⟨_,oK k1,?_⟩
  rw[jD a2]
  refine oK ?_
  rw[qY a3,jZ a3]
  exact k2
 obtain⟨x,t,y,q,b,c,x1,x2,x3,x4,x5,x6⟩:=hal;cases x with
 |true =>
  cases y with
  |true=>exact absurd rfl x3
  |false =>obtain⟨ty,ho⟩:=yN x1;obtain⟨ty',z,ho'⟩:=vq x2;obtain⟨rfl,_⟩:=vc ho x4 rfl e1;have hb:=yF ho' x5 e2 b (Ne.symm x6);exact fin h'' e2 (vc ho x4 hb e1).2
 |false =>
  cases y with
  |false=>exact absurd rfl x3
  |true =>obtain⟨ty,z,ho⟩:=vq x1;obtain⟨ty',ho'⟩:=yN x2;have hb:=yF ho x4 e1 c x6;obtain⟨rfl,hl⟩:=vc ho' x5 hb.symm e2;exact fin h hl e1
theorem Iw {P:Program}{h:Hp}{l:List AV}{tk:List Nat}{t:TypeId}{a v:AV}(hl:eC P h t a=some v):eC P { h with heap:=h.heap++[l],ag:=tk } t a=some v:=by
 have hb:∀(b:Nat) (x:List AV),bx h b=some x→bx { h with heap:=h.heap++[l],ag:=tk } b=some x:=fun b x hx=>by obtain⟨h1,h2⟩:=lP hx;exact NO (by grind) h2
 cases a<;>simp only[eC,B',reduceCtorEq]at hl⊢
 ·grind
 ·grind
 ·exact hl
theorem yl {h:Hp}{l:List AV}{tk:List Nat}:∀{as1:List AV},me (cO true (as1.map (snap h)))=true→as1.map (snap { h with heap:=h.heap++[l],ag:=tk })=as1.map (snap h)
 | [],_=>rfl
 |v::vs,hp=>by
  simp only[List.map_cons,cO,me,E']at hp⊢
  rw[yl hp.2]
  congr 1
  have h1:=hp.1
  have grow:∀(b:Nat) (x:List AV),bx h b=some x→bx { h with heap:=h.heap++[l],ag:=tk } b=some x:=fun b x hb=>by
   obtain⟨h1,h2⟩:=lP hb
   exact NO (by grind) h2
  cases v with
  |vsl b o n =>
   simp only[snap]at h1⊢
   cases hb:bx h b with
   |none=>rw[hb]at h1;simp[strip,fO]at h1
   |some x=>rw[grow b x hb]
  |ptr b o =>
   cases o with
   |succ o=>rfl
   |zero =>
    simp only[snap]at h1⊢
    cases hb:bx h b with
    |none=>rw[hb]at h1;simp[strip,fO]at h1
    |some x=>rw[grow b x hb]
  |_=>rfl
theorem JK {oi oj:Oper}{s s1 s2:St}(hap:oi.apart ops oj=true)(hx:zP oi=true∨tC E.pf oi=true)(hal:AU oj=true)(h1:fG E code true ops oi s=some (.norm s1))(h2:fG E code true ops oj s1=some (.norm s2)) :
  ∃t1,fG E code true ops oj s=some (.norm t1)∧fG E code true ops oi t1=some (.norm s2):=by
 obtain⟨a1,a2,a3⟩:=Oper.apart_spec hap;obtain⟨v,h',rfl,e1⟩:=fE h1;obtain⟨u,h'',rfl,e2⟩:=fE h2;simp only at e1 e2⊢;rw[qY a1,jZ a1]at e2;obtain⟨tmps,h⟩:=s;simp only at e1 e2⊢
 have fin:∀h1:Hp,Zf E code ops oj tmps h u h1→Zf E code ops oi tmps h1 v h'' →
   ∃t1,fG E code true ops oj ⟨tmps,h⟩=some (.norm t1)∧fG E code true ops oi t1=some (.norm ⟨bN (bN tmps oi.dst v) oj.dst u,h''⟩):=by
  intro h1 k1 k2
  refine⟨_,oK k1,?_⟩
  rw[jD a2]
  refine oK ?_
  rw[qY a3,jZ a3]
  exact k2
 have hc:cls oi≤1:=by
  rcases hx with hx|hx
  ·unfold zP at hx;split at hx
   ·rename_i e;simp only[cls,e];omega
   ·cases hx
  ·unfold tC at hx;split at hx
   ·rename_i c e;split at hx
    ·rename_i f e2;simp only[cls,e,e2];omega
    ·cases hx
   ·cases hx
 have hh:h'=h:=by
  rcases e1 with⟨_,e⟩|⟨_,_,e⟩
  ·obtain⟨v',e'⟩:=jk hc e;simp_all
  ·exact e
 subst hh;refine fin h'' e2 ?_;have hg:h''=h'∨∃l tk,h''={ h' with heap:=h'.heap++[l],ag:=tk }:=by
  rcases e2 with⟨_,e⟩|⟨_,_,e⟩
  ·unfold AU at hal;split at hal
   ·rename_i t eo;simp only[aL,eo]at e;split at e
    ·rename_i l hl;simp only[aj,A',eG.val.injEq]at e;rw[←e.2];unfold cT;grind
    ·simp at e
   ·cases hal
  ·exact .inl e
 rcases hg with rfl|⟨l,tk,rfl⟩
 ·exact e1
 rcases e1 with⟨g1,e⟩|⟨g1,g2,_⟩
 ·refine .inl ⟨g1,?_⟩;rcases hx with hx|hx
  ·unfold zP at hx;split at hx
   ·rename_i t x eo;simp only[aL,eo]at e⊢;obtain⟨w,h4,h5⟩:=cu e;simp only[eG.val.injEq]at h5;obtain⟨rfl,_⟩:=h5;rw[bB]at h4;rw[Iw h4];rfl
   ·cases hx
  ·unfold tC at hx;split at hx
   ·rename_i c eo;split at hx
    ·rename_i f ec;simp only[aL,eo,ec,aR,va,hx]at e⊢;simp only[if_true]at e⊢;split at e
     ·rename_i hpu;rw[yl hpu,if_pos hpu];simp only[get_bind,B',aj,A',eG.val.injEq]at e;obtain⟨x,q1,q2,_⟩:=e;rw[←q2];simp only[get_bind,q1,Option.bind_some,aj]
     ·simp at e
    ·cases hx
   ·cases hx
 ·exact .inr ⟨g1,g2,rfl⟩
theorem Jv {oi oj:Oper}{s s1 s2:St}(hap:oi.apart ops oj=true)(hcl:eZ E.pf oi oj=false)(h1:fG E code true ops oi s=some (.norm s1))(h2:fG E code true ops oj s1=some (.norm s2)) :
  ∃t1,fG E code true ops oj s=some (.norm t1)∧fG E code true ops oi t1=some (.norm s2):=by
 cases hc:FU (cls oi) (cls oj)with
 |false=>exact LM hap hc h1 h2
 |true =>simp only[eZ,hc,Bool.true_and,Bool.not_eq_false',E',Bool.or_eq_true]at hcl;exact JK hap hcl.1 hcl.2 h1 h2
theorem ny {t:Nat}:∀(os:List Oper) (s s':St),(∀q∈os,q.dst≠some t)→fm E code true ops os s=some (.norm s')→s'.tmps.getD t .any=s.tmps.getD t .any
 | [],s,s',_,h=>by simp only[fm,A',Out.norm.injEq]at h;rw[h]
 |o::os,s,s',hq,h=>by
  simp only[fm,B']at h
  obtain⟨r,h1,h2⟩:=h
  cases r with
  |norm s1 =>
   rw[ny os s1 s' (fun q hm=>hq q (by simp[hm])) h2]
   obtain⟨v,h',rfl,_⟩:=fE h1
   have:=hq o (by simp)
   cases hd:o.dst with
   |none=>rfl
   |some d =>
    simp only[bN]
    simp_all
  |panic v h=>simp at h2
  |ret s=>simp at h2
  |exit i s=>simp at h2
def JD (E:Env)(ops:Array Oper)(fin:List AV)(oi:Oper)(rest:List Oper):List Oper→Prop
 | []=>True
 |o::os=>(o.apart ops oi=true∧(eZ E.pf o oi=false∨(FL fin o oi∧∀x t y u,addrOf o=some (x,t)→addrOf oi=some (y,u)→∀q∈o::os++oi::rest,q.dst≠some t∧q.dst≠some u)))∧JD E ops fin oi rest os
theorem nr {oi:Oper}:∀(os rest:List Oper) (s s':St),JD E ops s'.tmps oi rest os→fm E code true ops (os++oi::rest) s=some (.norm s')→fm E code true ops (oi::(os++rest)) s=some (.norm s')
 | [],rest,s,s',_,h=>h
 |o::os,rest,s,s',hc,h=>by
  have hwhole:=h
  simp only[List.cons_append,fm,B']at h
  obtain⟨r,h1,h2⟩:=h
  cases r with
  |norm s1 =>
   have h3:=nr os rest s1 s' hc.2 h2
   simp only[fm,B']at h3
   obtain⟨r2,h4,h5⟩:=h3
   cases r2 with
   |norm s2 =>
    obtain⟨c1,c2⟩:=hc.1
    have:∃t1,fG E code true ops oi s=some (.norm t1)∧fG E code true ops o t1=some (.norm s2):=by
     rcases c2 with c2|⟨c2,c3⟩
     ·exact Jv c1 c2 h1 h4
     ·refine JO c1 ?_ h1 h4
      obtain⟨x,t,y,u,b,c,x1,x2,x3,x4,x5,x6⟩:=c2
      have hn:=c3 x t y u x1 x2
      have k1:=ny _ _ _ (fun q hq=>(hn q hq).1) hwhole
      have k2:=ny _ _ _ (fun q hq=>(hn q hq).2) hwhole
      exact⟨x,t,y,u,b,c,x1,x2,x3,by rw[←k1];exact x4,by rw[←k2];exact x5,x6⟩
    obtain⟨t1,h6,h7⟩:=this
    simp only[List.cons_append,fm,h6,Option.bind_some,h7]
    exact h5
   |panic v h=>simp at h5
   |ret s=>simp at h5
   |exit i s=>simp at h5
  |panic v h=>simp at h2
  |ret s=>simp at h2
  |exit i s=>simp at h2
theorem CT {f:List AV}(h:jP E.pf ops none=true∨jP E.pf ops (some f)=true):(∀(j:Nat) (o:Oper),ops[j]?=some o→∀e∈o.after,Region.binds .any e=true→e.on<j) ∧
  ∀(i j:Nat) (oi oj:Oper),i<j→ops[i]?=some oi→ops[j]?=some oj→aY ops 6 j i=true∨(oi.apart ops oj=true∧eZ E.pf oi oj=false)∨(oi.apart ops oj=true∧alias ops f i j oi oj=true):=by
 have main:∀fin:Option (List AV),jP E.pf ops fin=true→(∀g,fin=some g→g=f)→(∀(j:Nat) (o:Oper),ops[j]?=some o→∀e∈o.after,Region.binds .any e=true→e.on<j) ∧
   ∀(i j:Nat) (oi oj:Oper),i<j→ops[i]?=some oi→ops[j]?=some oj→aY ops 6 j i=true∨(oi.apart ops oj=true∧eZ E.pf oi oj=false)∨(oi.apart ops oj=true∧alias ops f i j oi oj=true):=by
  intro fin h hf
  unfold jP at h
  simp only[List.all_eq_true,E',Bool.or_eq_true]at h
  refine⟨fun j o ho e he hb=>?_,fun i j oi oj hij hi hj=>?_⟩
  ·have:=(h (o,j) (by grind)).1.2
   rw[Array.all_eq_true']at this
   grind
  ·have h1:=(h (oj,j) (by grind)).2 (oi,i) (by grind)
   rcases h1 with(((h1|h1)|h1)|h1)|h1
   ·simp[hij]at h1
   ·left
    rw[aY]at h1⊢
    split at h1
    ·rename_i o ho
     simp only[ho,Bool.or_eq_true]at h1⊢
     rcases h1 with h1|h1
     ·exact .inl h1
     ·exfalso
      rw[Array.any_eq_true']at h1
      obtain⟨e,_,h2⟩:=h1
      simp[aY]at h2
    ·cases h1
   ·simp_all
   ·exact .inl h1
   grind
 grind
theorem Fy {f:List AV}{i j:Nat}{p o:Oper}(h:alias ops f i j p o=true):FL f p o∧∀x t y u,addrOf p=some (x,t)→addrOf o=some (y,u)→∀(k:Nat) (q:Oper),ops[k]?=some q→(q.dst=some t→k<i)∧(q.dst=some u→k<j∧aY ops 6 j k=true):=by
 unfold alias at h;split at h
 ·rename_i x t y u e1 e2;simp only[E',bne_iff_ne,ne_eq,List.all_eq_true,Bool.or_eq_true,decide_eq_true_eq]at h;obtain⟨⟨h1,h2⟩,h3⟩:=h;constructor
  ·split at h2
   ·rename_i b c e3 e4;exact⟨x,t,y,u,b,c,e1,e2,h1,e3,e4,by simpa using h2⟩
   ·cases h2
  ·intro x' t' y' u' e1' e2' k q hq;rw[e1]at e1';rw[e2]at e2';simp only[A',Prod.mk.injEq]at e1' e2';obtain⟨_,rfl⟩:=e1';obtain⟨_,rfl⟩:=e2';obtain⟨h4,h5⟩:=h3 (q,k) (by grind);grind
 ·cases h
theorem Hv {f:List AV}{i:Nat}{oi:Oper}{o2:List Oper}{R2:List Nat}(hoi:ops[i]?=some oi)(h2:R2.map (ops[·]?)=o2.map some):∀(R1:List Nat) (o1:List Oper),R1.map (ops[·]?)=o1.map some→(R1++i::R2).Pairwise (· < ·) →
  (∀j∈R1,∀o,ops[j]?=some o→(o.apart ops oi=true∧eZ E.pf o oi=false)∨(o.apart ops oi=true∧alias ops f j i o oi=true))→(∀k∈R1++i::R2,aY ops 6 i k=true→False)→JD E ops f oi o2 o1
 | [],[],_,_,_,_=>trivial
 | [],_::_,h,_,_,_=>by simp at h
 |_::_,[],h,_,_,_=>by simp at h
 |j::R1,o::o1,h,hs,hp,hw=>by
  simp only[List.map_cons,List.cons.injEq]at h
  obtain⟨ho,h1⟩:=h
  rw[List.cons_append,List.pairwise_cons]at hs
  refine⟨?_,Hv hoi h2 R1 o1 h1 hs.2 (by simp_all) (by simp_all)⟩
  rcases hp j List.mem_cons_self o ho with⟨a,b⟩|⟨a,b⟩
  ·exact⟨a,.inl b⟩
  ·obtain⟨b1,b2⟩:=Fy b
   refine⟨a,.inr ⟨b1,fun x t y u e1 e2 q hq=>?_⟩⟩
   have b3:=b2 x t y u e1 e2
   have hk:∃k,ops[k]?=some q∧k∈j::R1++i::R2:=by
    have hall:(j::R1++i::R2).map (ops[·]?)=(o::o1++oi::o2).map some:=by
     simp[ho,hoi,h1,h2]
    have hm:some q∈(o::o1++oi::o2).map some:=by simp_all
    rw[←hall]at hm
    obtain⟨k,hk,e⟩:=List.mem_map.1 hm
    exact⟨k,e,hk⟩
   grind
def gx (ops:Array Oper)(listed:Array Bool):Prop := ∀(k:Nat) (o:Oper),listed.getD k false=true→ops[k]?=some o→∀e∈o.after,Region.binds .any e=true→listed.getD e.on false=true
theorem gx.waits {ops:Array Oper}{listed:Array Bool}(hc:gx ops listed):∀(n j i:Nat),listed.getD j false=true→aY ops n j i=true→listed.getD i false=true
 | 0,_,_,_,h=>by cases h
 |n+1,j,i,hj,h=>by
  rw[aY]at h
  split at h
  ·rename_i o ho
   simp only[Bool.or_eq_true]at h
   rcases h with h|h
   ·rw[Array.any_eq_true']at h
    obtain⟨e,he,h2⟩:=h
    simp only[E',beq_iff_eq]at h2
    rw[←h2.1];exact hc j o hj ho e he h2.2
   ·rw[Array.any_eq_true']at h
    obtain⟨e,he,h2⟩:=h
    simp only[E']at h2
    exact hc.waits n e.on i (hc j o hj ho e he h2.1) h2.2
  ·cases h
def left (ops:Array Oper)(listed:Array Bool):List Nat:=(List.range ops.size).filter fun i => !listed.getD i true
variable {g:Gh}{w:World}{ro:Option Nat}{a:Act}{Q:Exit→Act→World→Prop}
theorem Tn (ok:oP E)(hcode:cU E.P code){f:List AV}(hd:jP E.pf ops none=true∨jP E.pf ops (some f)=true):∀(fuel:Nat) (listed:Array Bool) (os:List Oper) (s s':St) (g:Gh) (a:Act) (w:World),s'.tmps=f→(left ops listed).length≤fuel→listed.size=ops.size→gx ops listed→(left ops listed).map (ops[·]?)=os.map some→fm E code true ops os s=some (.norm s')→MR g s.hp w→aI g s.hp.ag w s.tmps a.tmps.toList→fY g s.hp w a (Q .normal) Q (.norm s') →
  wpAnyIn (Fr ro) 0 E.P .any ops Q fuel listed a w:=by
 obtain⟨hback,hpair⟩:=CT hd;have memLeft:∀(listed:Array Bool) (i:Nat),listed.size=ops.size→(i∈left ops listed ↔ listed.getD i true=false):=by
  intro listed i hsz;unfold left;rw[List.mem_filter,List.mem_range];constructor
  ·grind
  ·grind
 have readyLeft:∀(listed:Array Bool) (i:Nat),listed.size=ops.size→i∈Region.ready .any ops listed→i∈left ops listed:=by intro listed i hsz h;exact(memLeft listed i hsz).2 (mem_ready.1 h).1
 have noneLeft:∀(listed:Array Bool),listed.size=ops.size→Region.ready .any ops listed=[]→left ops listed=[]:=by
  intro listed hsz hr;apply Classical.byContradiction;intro hne;have:∃i,i∈left ops listed∧∀j,j<i→j∉left ops listed:=by
   obtain⟨i0,hi0⟩:=List.exists_mem_of_ne_nil _ hne;induction i0 using Nat.strongRecOn with
   |_ n ih =>grind
  obtain⟨i,hi,hmin⟩:=this;have hlt:i<ops.size:=by unfold left at hi;exact(by simp_all)
  have hrdy:i∈Region.ready .any ops listed:=by
   rw[mem_ready];refine⟨by simp_all,ops[i],by simp[hlt],fun e he hb=>?_⟩;have hlt2:=hback i ops[i] (by simp[hlt]) e he hb;have:=mt (memLeft listed e.on hsz).2 (hmin e.on hlt2);have hs:e.on<listed.size:=by omega
   simp only[Array.getD_eq_getD_getElem?,Array.getElem?_eq_getElem hs,Option.getD_some]at this⊢;simpa using this
  rw[hr]at hrdy;cases hrdy
 intro fuel;induction fuel with
 |zero =>
  intro listed os s s' g a w hfin hlen hsz hcl hm he m ht hK;have h0:left ops listed=[]:=by simp_all
  have hr:Region.ready .any ops listed=[]:=by apply List.eq_nil_iff_forall_not_mem.2;intro i hi;have:=readyLeft listed i hsz hi;rw[h0]at this;cases this
  refine⟨hr,?_⟩;rw[h0]at hm;cases os with
  |cons=>simp at hm
  |nil =>simp only[fm,A',Out.norm.injEq]at he;subst he;exact hK g w a (Nx.refl m) ht rfl
 |succ fuel ih =>
  intro listed os s s' g a w hfin hlen hsz hcl hm he m ht hK;refine⟨fun hr=>?_,fun i hi=>?_⟩
  ·have h0:=noneLeft listed hsz hr;rw[h0]at hm;cases os with
   |cons=>simp at hm
   |nil =>simp only[fm,A',Out.norm.injEq]at he;subst he;exact hK g w a (Nx.refl m) ht rfl
  ·have him:=readyLeft listed i hsz hi;obtain⟨hun,oi,hoi,hafter⟩:=mem_ready.1 hi;obtain⟨R1,R2,hR⟩:=List.append_of_mem him;have hsorted:(left ops listed).Pairwise (· < ·):=List.Pairwise.filter _ List.pairwise_lt_range;rw[hR]at hsorted;have hbefore:∀j∈R1,j<i:=by grind
   have hafter2:∀j∈R2,i<j:=fun j hj=>(List.pairwise_cons.1 (List.pairwise_append.1 hsorted).2.1).1 j hj;rw[hR,List.map_append,List.map_cons]at hm;obtain⟨o1,o2,rfl,e1,e2⟩:=List.map_eq_append_iff.1 hm.symm;cases o2 with
   |nil=>simp at e2
   |cons oi' o2 =>
    simp only[List.map_cons,List.cons.injEq]at e2;obtain⟨e2,e3⟩:=e2;obtain rfl:oi'=oi:=by simp_all
    have hwl:∀k∈R1++i::R2,aY ops 6 i k=true→False:=by
     intro j hj h;have h2:=(memLeft listed j hsz).1 (by rw[hR];exact hj);have h1:listed.getD j false=true:=by
      rw[aY,hoi]at h;simp only[Bool.or_eq_true]at h;rcases h with h|h
      ·grind
      ·rw[Array.any_eq_true']at h;obtain⟨e,he1,he2⟩:=h;simp only[E']at he2;exact hcl.waits 5 e.on j (hafter e he1 he2.1) he2.2
     rcases Nat.lt_or_ge j listed.size with hl|hl
     ·grind
     ·grind
    have hfree:JD E ops s'.tmps oi' o2 o1:=by
     rw[hfin];refine Hv hoi e3.symm R1 o1 e1.symm hsorted (fun j hj o ho=>?_) hwl;rcases hpair j i o oi' (hbefore j hj) ho hoi with h|h|h
     ·grind
     ·exact .inl h
     ·exact .inr h
    have hst:=nr o1 o2 s s' hfree he;simp only[fm,B']at hst;obtain⟨r,h1,h2⟩:=hst;have hleft:left ops (listed.setIfInBounds i true)=R1++R2:=by
     have hfil:left ops (listed.setIfInBounds i true)=(left ops listed).filter (fun j=>j != i):=by
      unfold left;rw[List.filter_filter];apply List.filter_congr;intro j hj;by_cases hji:j=i
      ·subst hji;simp_all
      ·rw[getD_set_ne true (Ne.symm hji)];simp[hji]
     rw[hfil,hR,List.filter_append,List.filter_cons_of_neg (by simp)];congr 1
     ·exact List.filter_eq_self.2 (by grind)
     ·exact List.filter_eq_self.2 (by grind)
    cases r with
    |norm s1 =>
     refine jc ok hcode h1 m ht hoi ?_;intro g' w' a' nx ht' hd';have hcl':gx ops (listed.setIfInBounds i true):=by
      intro k o hk ho e he hb;have mono:∀x,listed.getD x false=true→(listed.setIfInBounds i true).getD x false=true:=by
       intro x hx;simp only[Array.getD_eq_getD_getElem?,Array.getElem?_setIfInBounds]at hx⊢;split
       ·grind
       ·exact hx
      by_cases hki:k=i
      ·grind
      ·refine mono _ (hcl k o ?_ ho e he hb);grind
     refine ih (listed.setIfInBounds i true) (o1++o2) s1 s' g' a' w' hfin ?_ (by simp[hsz]) hcl' ?_ h2 nx.mr ht' (hK.trans nx hd')
     ·grind
     grind
    |panic v h=>simp at h2
    |ret s=>simp at h2
    |exit id s=>simp at h2
end
end Kz
namespace Kz
open Go Go.RowKit
def u9 (N b:Nat):Nat:=if b=N then N+1 else if b=N+1 then N else b
theorem Hl (N b:Nat):u9 N (u9 N b)=b:=by unfold u9;grind
def Rd (N:Nat)(g:Gh):Gh:={ g with vars:=(List.range g.vars.length).filterMap fun b=>g.vars[u9 N b]? }
theorem hZ {g:Gh}{N:Nat}(hN:g.vars.length=N+2)(b:Nat):(Rd N g).vars[b]?=g.vars[u9 N b]? := by
 unfold Rd;simp only;have hs:∀b,b<g.vars.length→u9 N b<g.vars.length:=fun b hb=>by unfold u9;grind
 have key:∀n,n≤g.vars.length→((List.range n).filterMap fun b=>g.vars[u9 N b]?)=(List.range n).map fun b=>(g.vars[u9 N b]?).getD 0:=by
  intro n;induction n with
  |zero=>intro _;rfl
  |succ n ih =>intro hn;rw[List.range_succ,List.filterMap_append,List.map_append,ih (by omega)];grind
 rw[key _ (Nat.le_refl _),List.getElem?_map];by_cases hb:b<g.vars.length
 ·simp_all
 ·have h1:u9 N b=b:=by unfold u9;split<;>(try split)<;>omega
  simp_all
theorem tq {N b:Nat}(h:(!(Nat.beq b N ||Nat.beq b (N+1)))=true):u9 N b=b:=by
 simp only[Bool.not_eq_true',Bool.or_eq_false_iff]at h;have h1:b≠N:=fun e=>by subst e;simp at h
 have h2:b≠N+1:=fun e=>by subst e;simp at h
 unfold u9;simp_all
theorem yo {N:Nat}{v:AV}(h:free N v=true):gH N (bf v)=true:=by
 unfold bf;split
 ·simpa[free]using h
 ·simp[gH,h]
theorem Ou {N:Nat}{e:ET}(x:e.T):free N (enc e x)=true:=by cases e<;>simp[enc,free,Mv.av,Pos.av,gH]
theorem xQ {N:Nat}{e:ET}:∀(l:List e.T),gH N (l.map (enc e))=true
 | []=>rfl
 |x::l=>by simp[gH,Ou x,xQ l]
noncomputable section
variable {N:Nat}{g:Gh}{tk:List Nat}{w:World}
mutual
theorem aM.sw (hN:g.vars.length=N+2){a:AV}{v:Value}:aM g tk w a v→free N a=true→aM (Rd N g) tk w a v
 | .any v,_=>.any v
 | .undef,_=>.undef
 | .bool b,_=>.bool b
 | .aU b,_=>.aU b
 | .int k n,_=>.int k n
 | .bj k n,_=>.bj k n
 | .u64 x,_=>.u64 x
 | .str h,_=>.str h
 | .agg h,f=>.agg (ay.sw hN h (by simpa[free]using f))
 | .ptr h,f=>.ptr (by rw[hZ hN,tq f];exact h)
 | .ptri h h0 h1 h2,f=>.ptri (by rw[hZ hN,tq f];exact h) h0 h1 h2
 | .slf h ha h2,f=>.slf (by rw[hZ hN,tq f];exact h) ha h2
 | .ptrf h ha,f=>.ptrf (ay.sw hN h (yo (by simpa[free]using f))) ha
 | .nilptr,_=>.nilptr
 | .list hn h ha ht hc,_=>.list hn (bu.sw hN h (xQ _)) ha ht hc
 | .vlist hn h ha hc,f=>.vlist hn (bu.sw hN h (by simpa[free]using f)) ha hc
 | .vany hn h ha ht hc,f=>.vany hn (bu.sw hN h (by simpa[free]using f)) ha ht hc
 | .vsl h,f=>.vsl (by rw[hZ hN,tq f];exact h)
 | .nilsl,_=>.nilsl
 | .func ha hb,f=>by
  simp only[free,E']at f
  exact .func (aI.sw hN ha f.1) (aI.sw hN hb f.2)
 | .yield h,_=>.yield h
 | .nilfunc,_=>.nilfunc
 | .iface h,f=>.iface (aM.sw hN h (by simpa[free]using f))
 | .niliface,_=>.niliface
 | .tuple h,f=>.tuple (aI.sw hN h (by simpa[free]using f))
theorem ay.sw (hN:g.vars.length=N+2){a:List AV}{v:List Value}:ay g tk w a v→gH N a=true→ay (Rd N g) tk w a v
 | .nil,_=>.nil
 | .ints hl hx h,f=>by
  simp only[gH,E']at f
  exact .ints hl hx (ay.sw hN h f.2)
 | .one hs h hr,f=>by
  simp only[gH,E']at f
  exact .one hs (aM.sw hN h f.1) (ay.sw hN hr f.2)
theorem aI.sw (hN:g.vars.length=N+2){a:List AV}{v:List Value}:aI g tk w a v→gH N a=true→aI (Rd N g) tk w a v
 | .nil,_=>.nil
 | .cons h hr,f=>by
  simp only[gH,E']at f
  exact .cons (aM.sw hN h f.1) (aI.sw hN hr f.2)
theorem bu.sw (hN:g.vars.length=N+2){a:List AV}{v:List Value}:bu g tk w a v→gH N a=true→bu (Rd N g) tk w a v
 | .nil,_=>.nil
 | .cons hs hx h hr,f=>by
  simp only[gH,E']at f
  exact .cons hs hx (ay.sw hN h (yo f.1)) (bu.sw hN hr f.2)
end
theorem ZU {b:Nat}:u9 N b<N+2 ↔ b<N+2:=by unfold u9;grind
theorem MR.sw {h:Hp}{l:List AV}(m:MR g h w)(hl:h.heap.length=N+2)(e0:h.heap[N]?=some l)(e1:h.heap[N+1]?=some l)(hf:Cg N h=true):MR (Rd N g) h w:=by
 have hN:g.vars.length=N+2:=m.dN.trans hl;have hv:=fun b=>hZ (N:=N) hN b;simp only[Cg,E',List.all_eq_true,List.isEmpty_iff]at hf;have hs:∀i l',h.heap[i]?=some l'→h.heap[u9 N i]?=some l':=fun i l' hi=>by unfold u9;grind
 have hvlen:(Rd N g).vars.length=g.vars.length:=by
  apply Nat.le_antisymm
  ·have:=hv g.vars.length;rw[List.getElem?_eq_none (l:=g.vars) (by rw[hN];exact Nat.le_of_not_lt fun hh=>by have:=ZU.1 hh;omega)]at this;grind
  ·grind
 have hmem:∀b,b∈(Rd N g).vars→b∈g.vars:=fun b hb=>by obtain⟨i,hi⟩:=List.mem_iff_getElem?.1 hb;grind
 refine⟨m.base,m.fC,hvlen.trans m.dN,fun i c l' h1 h2=>?_,fun i j c h1 h2=>?_,m.dW,m.jU,fun k b cap z h1=>?_,m.xd,m.gT,fun l' c r h1 h2=>?_,m.xe,m.defs,m.iH⟩
 ·rw[hv]at h1;obtain⟨a,b,o,d,e⟩:=m.var _ c l' h1 (hs i l' h2);exact⟨a,b,o,d,e.imp (fun ⟨cs,ty,q,r⟩=>⟨cs,ty,q,ay.sw hN r (by grind)⟩) id⟩
 ·rw[hv]at h1 h2;have:=m.xc _ _ c h1 h2;rw[←Hl N i,←Hl N j,this]
 ·obtain⟨n,cells,ty,a1,a2,a3,a4,a5,a6,a7,a8⟩:=m.tok k b cap z h1;exact⟨n,cells,ty,a1,a2,a3,a4,a5,a6,a7,by grind⟩
 simp_all
end
end Kz
namespace Kz
open Go Go.RowKit
noncomputable section
variable {E:Env}{code:Nat→Code→St→Tr Out}{ops:Array Oper}
def Good (E:Env)(ops:Array Oper)(i j:Nat):Prop := ∀oi oj,ops[i]?=some oi→ops[j]?=some oj→aY ops 6 j i=true∨(oi.apart ops oj=true∧eZ E.pf oi oj=false)
def abH (ops:Array Oper)(i j:Nat):Prop := ∀oi,ops[i]?=some oi→∀e∈oi.after,Region.binds .any e=true→e.on≠j
def Self (ops:Array Oper):Prop := ∀i oi,ops[i]?=some oi→∀e∈oi.after,Region.binds .any e=true→e.on≠i∧e.on<ops.size
theorem oo {f:List AV}{oi:Oper}{o2:List Oper}:∀(R1:List Nat) (o1:List Oper),R1.map (ops[·]?)=o1.map some →
  (∀j∈R1,∀o,ops[j]?=some o→o.apart ops oi=true∧eZ E.pf o oi=false)→JD E ops f oi o2 o1
 | [],[],_,_=>trivial
 | [],_::_,h,_=>by simp at h
 |_::_,[],h,_=>by simp at h
 |j::R1,o::o1,h,hp=>by
  simp only[List.map_cons,List.cons.injEq]at h
  have:=hp j List.mem_cons_self o h.1
  exact⟨by simp_all,oo R1 o1 h.2 (by grind)⟩
structure Rest (E:Env)(ops:Array Oper)(T:List Nat)(listed:Array Bool)(R:List Nat):Prop where
 mem:∀i,i∈R∨i∈T ↔ listed.getD i true=false
 nd:R.Nodup
 back:R.Pairwise (abH ops)
 tail:∀j∈T,∀i∈R,aY ops 6 j i=true
 ntl:∀j∈T,∀i∈R,abH ops i j
 dis:∀j∈T,j∉R
theorem Rest.none {T:List Nat}{listed:Array Bool}{R:List Nat}(r:Rest E ops T listed R)(hs:Self ops)(hsz:listed.size=ops.size)(hr:Region.ready .any ops listed=[]):R=[]:=by
 cases R with
 |nil=>rfl
 |cons i R =>
  exfalso;have hi:=(r.mem i).1 (.inl (by simp));have hlt:i<ops.size:=by refine Classical.byContradiction fun hn=>?_;rw[Array.getD_eq_getD_getElem?,Array.getElem?_eq_none (by omega)]at hi;cases hi
  have:i∈Region.ready .any ops listed:=by
   rw[mem_ready];refine⟨hi,ops[i],by simp[hlt],fun e he hb=>?_⟩;obtain⟨h1,h2⟩:=hs i ops[i] (by simp[hlt]) e he hb;have hl:e.on<listed.size:=by omega
   cases hx:listed.getD e.on false with
   |true=>rfl
   |false =>
    exfalso;have:listed.getD e.on true=false:=by rw[Array.getD_eq_getD_getElem?,Array.getElem?_eq_getElem hl]at hx⊢;exact hx
    rcases(r.mem e.on).2 this with this|this
    ·rcases List.mem_cons.1 this with e2|e2
     ·exact h1 e2
     ·exact(List.pairwise_cons.1 r.back).1 e.on e2 ops[i] (by simp[hlt]) e he hb rfl
    ·exact r.ntl e.on this i (by simp) ops[i] (by simp[hlt]) e he hb rfl
  simp_all
theorem Rest.take {T:List Nat}{listed:Array Bool}{R1 R2:List Nat}{i:Nat}(r:Rest E ops T listed (R1++i::R2))(hi:i<listed.size):Rest E ops T (listed.setIfInBounds i true) (R1++R2):=by
 have hnd:=r.nd;have hsub:(R1++R2).Sublist (R1++i::R2):=by simp_all
 refine⟨fun j=>?_,hnd.sublist hsub,r.back.sublist hsub,fun j hj k hk=>r.tail j hj k (hsub.subset hk),fun j hj k hk=>r.ntl j hj k (hsub.subset hk),fun j hj hk=>r.dis j hj (hsub.subset hk)⟩;by_cases hji:j=i
 ·subst hji;have h1:j∉R1++R2:=by
   rw[List.nodup_append]at hnd;obtain⟨_,h2,h3⟩:=hnd;rw[List.nodup_cons]at h2;rw[List.mem_append];rintro(h|h)
   ·grind
   ·exact h2.1 h
  have h3:j∉T:=fun h=>r.dis j h (by simp);simp_all
 ·rw[getD_set_ne true (Ne.symm hji),←r.mem j];simp_all
theorem gZ {listed:Array Bool}{i:Nat}{oi:Oper}(hcl:gx ops listed)(hoi:ops[i]?=some oi)(hafter:∀e∈oi.after,Region.binds .any e=true→listed.getD e.on false=true):gx ops (listed.setIfInBounds i true):=by
 intro k o hk ho e he hb;have mono:∀x,listed.getD x false=true→(listed.setIfInBounds i true).getD x false=true:=by
  intro x hx;simp only[Array.getD_eq_getD_getElem?,Array.getElem?_setIfInBounds]at hx⊢;split
  ·grind
  ·exact hx
 by_cases hki:k=i
 ·simp_all
 ·refine mono _ (hcl k o ?_ ho e he hb);simp only[Array.getD_eq_getD_getElem?,Array.getElem?_setIfInBounds]at hk⊢;grind
theorem iE {listed:Array Bool}{i:Nat}{oi:Oper}(hcl:gx ops listed)(hoi:ops[i]?=some oi)(hafter:∀e∈oi.after,Region.binds .any e=true→listed.getD e.on false=true){j:Nat}(hj:listed.getD j true=false)(h:aY ops 6 i j=true):False:=by
 have h1:listed.getD j false=true:=by
  rw[aY,hoi]at h;simp only[Bool.or_eq_true]at h;rcases h with h|h
  ·grind
  ·rw[Array.any_eq_true']at h;obtain⟨e,he1,he2⟩:=h;simp only[E']at he2;exact hcl.waits 5 e.on j (hafter e he1 he2.1) he2.2
 grind
variable {g:Gh}{w:World}{ro:Option Nat}{a:Act}{Q:Exit→Act→World→Prop}
theorem jd {f:List AV}{R1 R2:List Nat}{i:Nat}{oi:Oper}{os:List Oper}{s s':St}(hoi:ops[i]?=some oi)(hm:(R1++i::R2).map (ops[·]?)=os.map some)(he:fm E code true ops os s=some (.norm s'))
  (hg:∀j∈R1,∀o,ops[j]?=some o→o.apart ops oi=true∧eZ E.pf o oi=false):∃s1 os',fG E code true ops oi s=some (.norm s1)∧(R1++R2).map (ops[·]?)=os'.map some∧fm E code true ops os' s1=some (.norm s'):=by
 rw[List.map_append,List.map_cons]at hm;obtain⟨o1,o2,rfl,e1,e2⟩:=List.map_eq_append_iff.1 hm.symm;cases o2 with
 |nil=>simp at e2
 |cons oi' o2 =>
  simp only[List.map_cons,List.cons.injEq]at e2;obtain⟨e2,e3⟩:=e2;obtain rfl:oi'=oi:=by simp_all
  have hst:=nr o1 o2 s s' (oo R1 o1 e1.symm hg) he;simp only[fm,B']at hst;grind
theorem Rest.now {T:List Nat}{listed:Array Bool}{R:List Nat}(r:Rest E ops T listed R)(hne:R≠[])(hcl:gx ops listed){i:Nat}(hun:listed.getD i true=false){oi:Oper}(hoi:ops[i]?=some oi)(hafter:∀e∈oi.after,Region.binds .any e=true→listed.getD e.on false=true):i∈R:=by
 rcases(r.mem i).2 hun with h|h
 ·exact h
 ·exfalso;obtain⟨k,hk⟩:=List.exists_mem_of_ne_nil _ hne;exact iE hcl hoi hafter ((r.mem k).1 (.inl hk)) (r.tail i h k hk)
def JC (ro:Option Nat)(E:Env)(ops:Array Oper)(Q:Exit→Act→World→Prop)(T:List Nat)(a:Act)(w:World):Prop :=
 ∀(fuel:Nat) (listed:Array Bool),T.length≤fuel→Rest E ops T listed []→listed.size=ops.size→gx ops listed→wpAnyIn (Fr ro) 0 E.P .any ops Q fuel listed a w
theorem rI (ok:oP E)(hcode:cU E.P code)(hself:Self ops){T:List Nat}:∀(fuel:Nat) (listed:Array Bool) (R:List Nat) (os:List Oper) (s s':St) (g:Gh) (a:Act) (w:World),Rest E ops T listed R→R.Pairwise (Good E ops)→R.length+T.length≤fuel→listed.size=ops.size→gx ops listed→R.map (ops[·]?)=os.map some→fm E code true ops os s=some (.norm s')→MR g s.hp w→aI g s.hp.ag w s.tmps a.tmps.toList→fY g s.hp w a (JC ro E ops Q T) Q (.norm s') →
  wpAnyIn (Fr ro) 0 E.P .any ops Q fuel listed a w:=by
 have last:∀(fuel:Nat) (listed:Array Bool) (os:List Oper) (s s':St) (g:Gh) (a:Act) (w:World),Rest E ops T listed []→T.length≤fuel→listed.size=ops.size→gx ops listed→([]:List Nat).map (ops[·]?)=os.map some→fm E code true ops os s=some (.norm s')→MR g s.hp w→aI g s.hp.ag w s.tmps a.tmps.toList→fY g s.hp w a (JC ro E ops Q T) Q (.norm s')→wpAnyIn (Fr ro) 0 E.P .any ops Q fuel listed a w:=by
  intro fuel listed os s s' g a w hR hlen hsz hcl hm he m ht hK;cases os with
  |cons=>simp at hm
  |nil =>simp only[fm,A',Out.norm.injEq]at he;subst he;exact hK g w a (Nx.refl m) ht rfl fuel listed hlen hR hsz hcl
 intro fuel;induction fuel with
 |zero =>
  intro listed R os s s' g a w hR hgood hlen hsz hcl hm he m ht hK;obtain rfl:R=[]:=by simp_all
  grind
 |succ fuel ih =>
  intro listed R os s s' g a w hR hgood hlen hsz hcl hm he m ht hK;by_cases hne:R=[]
  ·grind
  refine⟨fun hr=>?_,fun i hi=>?_⟩
  ·exact absurd (hR.none hself hsz hr) hne
  ·obtain⟨hun,oi,hoi,hafter⟩:=mem_ready.1 hi;obtain⟨R1,R2,rfl⟩:=List.append_of_mem (hR.now hne hcl hun hoi hafter);have hlt:i<listed.size:=by rw[hsz];exact(by grind)
   obtain⟨s1,os',h1,h2,h3⟩:=jd (f:=[]) hoi hm he fun j hj o ho=>by
    rcases(List.pairwise_append.1 hgood).2.2 j hj i (by simp) o oi ho hoi with h|h
    ·exact(iE hcl hoi hafter ((hR.mem j).1 (.inl (by simp[hj]))) h).elim
    ·exact h
   refine jc ok hcode h1 m ht hoi ?_;intro g' w' a' nx ht' hd';refine ih (listed.setIfInBounds i true) (R1++R2) os' s1 s' g' a' w' (hR.take hlt) (by grind) (by simp at hlen⊢;omega) (by simp[hsz]) (gZ hcl hoi hafter) h2 h3 nx.mr ht' (hK.trans nx hd')
theorem QN (ok:oP E)(hcode:cU E.P code)(hself:Self ops){T:List Nat}{i0 j0:Nat}:∀(fuel:Nat) (listed:Array Bool) (RA RB:List Nat) (oA oB:List Oper) (s sA sB:St) (g:Gh) (a:Act) (w:World),Rest E ops T listed RA→Rest E ops T listed RB→i0∈RA→j0∈RA →
  RA.Pairwise (fun i j=>(i=i0∧j=j0)∨Good E ops i j)→RB.Pairwise (fun i j=>(i=j0∧j=i0)∨Good E ops i j)→i0≠j0 →
  RA.length+T.length≤fuel→listed.size=ops.size→gx ops listed→RA.map (ops[·]?)=oA.map some→RB.map (ops[·]?)=oB.map some→fm E code true ops oA s=some (.norm sA)→fm E code true ops oB s=some (.norm sB) →
  MR g s.hp w→aI g s.hp.ag w s.tmps a.tmps.toList→fY g s.hp w a (JC ro E ops Q T) Q (.norm sA)→fY g s.hp w a (JC ro E ops Q T) Q (.norm sB) →
  wpAnyIn (Fr ro) 0 E.P .any ops Q fuel listed a w:=by
 intro fuel;induction fuel with
 |zero =>grind
 |succ fuel ih =>
  intro listed RA RB oA oB s sA sB g a w hA hB h0 h1 gA gB hne hlen hsz hcl mA mB eA eB m ht kA kB;refine⟨fun hr=>?_,fun i hi=>?_⟩
  ·have:=hA.none hself hsz hr;simp_all
  ·obtain⟨hun,oi,hoi,hafter⟩:=mem_ready.1 hi;have hlt:i<listed.size:=by rw[hsz];exact(by grind)
   have iA:i∈RA:=hA.now (List.ne_nil_of_mem h0) hcl hun hoi hafter;have perm:∀x,x∈RA ↔ x∈RB:=fun x=>by
    constructor
    ·intro hx;rcases(hB.mem x).2 ((hA.mem x).1 (.inl hx))with h|h
     ·exact h
     ·exact absurd hx (hA.dis x h)
    ·intro hx;rcases(hA.mem x).2 ((hB.mem x).1 (.inl hx))with h|h
     ·exact h
     ·exact absurd hx (hB.dis x h)
   have iB:i∈RB:=(perm i).1 iA;obtain⟨A1,A2,rfl⟩:=List.append_of_mem iA;obtain⟨B1,B2,rfl⟩:=List.append_of_mem iB;have ndA:=hA.nd;have ndB:=hB.nd;have notA:i∉A1++A2:=by
    rw[List.nodup_append]at ndA;obtain⟨_,q2,q3⟩:=ndA;rw[List.nodup_cons]at q2;rw[List.mem_append];rintro(h|h)
    ·exact q3 i h i (by simp) rfl
    ·exact q2.1 h
   have notB:i∉B1++B2:=by
    rw[List.nodup_append]at ndB;obtain⟨_,q2,q3⟩:=ndB;rw[List.nodup_cons]at q2;rw[List.mem_append];rintro(h|h)
    ·exact q3 i h i (by simp) rfl
    ·exact q2.1 h
   have subA:(A1++A2).Sublist (A1++i::A2):=by simp_all
   have subB:(B1++B2).Sublist (B1++i::B2):=by simp_all
   have IF:(A1++A2).length+T.length≤fuel:=by simp at hlen⊢;omega
   have rh:(B1++B2).length+T.length≤fuel:=by have:(B1++i::B2).Perm (A1++i::A2):=(List.perm_ext_iff_of_nodup ndB ndA).2 fun x=>(perm x).symm;have:=this.length_eq;simp at this hlen⊢;omega
   have gooA:i≠j0→∀j∈A1,∀o,ops[j]?=some o→o.apart ops oi=true∧eZ E.pf o oi=false:=fun hi0 j hj o ho=>by
    rcases(List.pairwise_append.1 gA).2.2 j hj i (by simp)with⟨_,h⟩|h
    ·exact(hi0 h).elim
    ·rcases h o oi ho hoi with h|h
     ·exact(iE hcl hoi hafter ((hA.mem j).1 (.inl (by simp[hj]))) h).elim
     ·exact h
   have gooB:i≠i0→∀j∈B1,∀o,ops[j]?=some o→o.apart ops oi=true∧eZ E.pf o oi=false:=fun hi0 j hj o ho=>by
    rcases(List.pairwise_append.1 gB).2.2 j hj i (by simp)with⟨_,h⟩|h
    ·exact(hi0 h).elim
    ·rcases h o oi ho hoi with h|h
     ·exact(iE hcl hoi hafter ((hB.mem j).1 (.inl (by simp[hj]))) h).elim
     ·exact h
   have okA:i=i0∨i=j0→(A1++A2).Pairwise (Good E ops):=fun hi=>(List.Pairwise.imp_of_mem (fun {x y} hx hy h=>by
    rcases h with⟨e1,e2⟩|h
    ·exfalso
     rcases hi with hi|hi
     ·grind
     grind
    ·exact h) (gA.sublist subA))
   have okB:i=i0∨i=j0→(B1++B2).Pairwise (Good E ops):=fun hi=>(List.Pairwise.imp_of_mem (fun {x y} hx hy h=>by
    rcases h with⟨e1,e2⟩|h
    ·exfalso
     rcases hi with hi|hi
     ·grind
     grind
    ·exact h) (gB.sublist subB))
   by_cases c0:i=i0
   ·obtain⟨s1,os',q1,q2,q3⟩:=jd (f:=[]) hoi mA eA (by grind);refine jc ok hcode q1 m ht hoi ?_;intro g' w' a' nx ht' hd';exact rI ok hcode hself fuel (listed.setIfInBounds i true) (A1++A2) os' s1 sA g' a' w' (hA.take hlt) (okA (.inl c0)) IF (by simp[hsz]) (gZ hcl hoi hafter) q2 q3 nx.mr ht' (kA.trans nx hd')
   ·by_cases c1:i=j0
    ·obtain⟨s1,os',q1,q2,q3⟩:=jd (f:=[]) hoi mB eB (gooB c0);refine jc ok hcode q1 m ht hoi ?_;intro g' w' a' nx ht' hd';exact rI ok hcode hself fuel (listed.setIfInBounds i true) (B1++B2) os' s1 sB g' a' w' (hB.take hlt) (okB (.inr c1)) rh (by simp[hsz]) (gZ hcl hoi hafter) q2 q3 nx.mr ht' (kB.trans nx hd')
    ·obtain⟨s1,os',q1,q2,q3⟩:=jd (f:=[]) hoi mA eA (gooA c1);obtain⟨s2,os2,r1,r2,r3⟩:=jd (f:=[]) hoi mB eB (gooB c0);obtain rfl:s1=s2:=by grind
     refine jc ok hcode q1 m ht hoi ?_;intro g' w' a' nx ht' hd';have n0:i0∈A1++A2:=by
      simp only[List.mem_append,List.mem_cons]at h0⊢;rcases h0 with h|h|h
      ·exact .inl h
      ·exact(c0 h.symm).elim
      ·exact .inr h
     have n1:j0∈A1++A2:=by
      simp only[List.mem_append,List.mem_cons]at h1⊢;rcases h1 with h|h|h
      ·exact .inl h
      ·exact(c1 h.symm).elim
      ·exact .inr h
     exact ih (listed.setIfInBounds i true) (A1++A2) (B1++B2) os' os2 s1 sA sB g' a' w' (hA.take hlt) (hB.take hlt) n0 n1 (gA.sublist subA) (gB.sublist subB) hne IF (by simp[hsz]) (gZ hcl hoi hafter) q2 r2 q3 r3 nx.mr ht' (kA.trans nx hd') (kB.trans nx hd')
end
end Kz
namespace Kz
open Go Go.RowKit
noncomputable section
variable {E:Env}{code:Nat→Code→St→Tr Out}{ops:Array Oper}
theorem gN:∀(xs ys:List Oper) (s s':St),fm E code true ops (xs++ys) s=some (.norm s') ↔ ∃s0,fm E code true ops xs s=some (.norm s0)∧fm E code true ops ys s0=some (.norm s')
 | [],ys,s,s'=>⟨fun h=>⟨s,rfl,h⟩,fun ⟨s0,h1,h2⟩=>by simp only[fm,A',Out.norm.injEq]at h1;subst h1;exact h2⟩
 |x::xs,ys,s,s'=>by
  simp only[List.cons_append,fm,B']
  constructor
  ·rintro⟨r,h1,h2⟩
   cases r with
   |norm s1 =>
    obtain⟨s0,h3,h4⟩:=(gN xs ys s1 s').1 h2
    simp_all
   |panic v h=>simp at h2
   |ret s=>simp at h2
   |exit i s=>simp at h2
  ·rintro⟨s0,⟨r,h1,h2⟩,h3⟩
   cases r with
   |norm s1=>exact⟨.norm s1,h1,(gN xs ys s1 s').2 ⟨s0,h2,h3⟩⟩
   |panic v h=>simp at h2
   |ret s=>simp at h2
   |exit i s=>simp at h2
theorem yz:∀(os:List Oper) (s s':St),(∀q∈os,cls q≤1)→fm E code true ops os s=some (.norm s')→s'.hp=s.hp
 | [],s,s',_,h=>by simp only[fm,A',Out.norm.injEq]at h;rw[h]
 |o::os,s,s',hq,h=>by
  simp only[fm,B']at h
  obtain⟨r,h1,h2⟩:=h
  cases r with
  |norm s1 =>
   rw[yz os s1 s' (fun q hm=>hq q (by simp[hm])) h2]
   obtain⟨v,h',rfl,e⟩:=fE h1
   rcases e with⟨_,e⟩|⟨_,_,e⟩
   ·obtain⟨v',e'⟩:=jk (hq o (by simp)) e
    simp_all
   ·exact e
  |panic v h=>simp at h2
  |ret s=>simp at h2
  |exit i s=>simp at h2
theorem aI.Lo {g:Gh}{tk:List Nat}{w:World}:∀(l:List AV) (vs:List Value),l.length=vs.length→(∀(i:Nat) a,l[i]?=some a→∃v,vs[i]?=some v∧aM g tk w a v)→aI g tk w l vs
 | [],[],_,_=>.nil
 | [],_::_,h,_=>by simp at h
 |_::_,[],h,_=>by simp at h
 |a::l,v::vs,h,hg=>by
  refine .cons ?_ (aI.Lo l vs (by simpa using h) fun i x hx=>by simpa using hg (i+1) x (by simpa using hx))
  obtain⟨v',h1,h2⟩:=hg 0 a rfl
  simp_all
theorem Ez {i t a b:Nat}(h:F0 ops i=some (t,a,b)):∃o p,ops[i]?=some o∧ops[i+1]?=some p∧o.op=.alloc t∧p.op=.alloc t∧o.guard=none∧p.guard=none∧o.dst=some a∧p.dst=some b∧a≠b:=by unfold F0 at h;grind
theorem yj {o:Oper}{t a:Nat}{s:St}{s1:St}(h1:o.op=.alloc t)(h2:o.guard=none)(h3:o.dst=some a)(hn:dg E.P t=none∧IT E.P t=none)(he:fG E code true ops o s=some (.norm s1)) :
  ∃l,oa E.P t=some l∧s1=⟨s.tmps.set a (.ptr s.hp.heap.length 0),{ s.hp with heap:=s.hp.heap++[l] }⟩:=by
 obtain⟨v,h',rfl,e⟩:=fE he;rcases e with⟨_,e⟩|⟨e,_⟩
 ·simp only[aL,h1]at e;split at e
  ·rename_i l hl;refine⟨l,hl,?_⟩;have hb:cT E.P s.hp t l=({ s.hp with heap:=s.hp.heap++[l] },.ptr s.hp.heap.length 0):=by
    unfold cT;split
    ·simp_all
    ·simp_all
    ·rfl
   rw[hb]at e;simp only[aj,A',eG.val.injEq]at e;rw[←e.1,←e.2,h3];rfl
  ·simp at e
 ·unfold gd at e;simp_all
theorem Co {o:Oper}{t a:Nat}{s:St}{l:List AV}(h1:o.op=.alloc t)(h2:o.guard=none)(h3:o.dst=some a)(hn:dg E.P t=none∧IT E.P t=none)(hl:oa E.P t=some l) :
  fG E code true ops o s=some (.norm ⟨s.tmps.set a (.ptr s.hp.heap.length 0),{ s.hp with heap:=s.hp.heap++[l] }⟩):=by
 have hb:cT E.P s.hp t l=({ s.hp with heap:=s.hp.heap++[l] },.ptr s.hp.heap.length 0):=by
  unfold cT;split
  ·simp_all
  ·simp_all
  ·rfl
 have:fG E code true ops o ⟨s.tmps,s.hp⟩=some (.norm ⟨bN s.tmps o.dst (.ptr s.hp.heap.length 0),{ s.hp with heap:=s.hp.heap++[l] }⟩):=by refine oK (.inl ⟨by unfold gd;rw[h2],?_⟩);simp only[aL,h1,hl,hb,aj]
 rw[h3]at this;exact this
theorem y9 {pf:Nat→Bool}{i0:Nat}(h:y4 pf ops i0=true):(∀(j:Nat) (o:Oper),ops[j]?=some o→∀e∈o.after,Region.binds .any e=true→e.on<j) ∧
  ∀(i j:Nat) (oi oj:Oper),i<j→ops[i]?=some oi→ops[j]?=some oj→(i=i0∧j=i0+1)∨aY ops 6 j i=true∨(oi.apart ops oj=true∧eZ pf oi oj=false):=by
 unfold y4 at h;simp only[List.all_eq_true,E',Bool.or_eq_true]at h;refine⟨fun j o ho e he hb=>?_,fun i j oi oj hij hi hj=>?_⟩
 ·have:=(h (o,j) (by grind)).1;rw[Array.all_eq_true']at this;grind
 ·have h1:=(h (oj,j) (by grind)).2 (oi,i) (by grind);rcases h1 with((h1|h1)|h1)|h1
  ·simp[hij]at h1
  ·simp_all
  ·exact .inr (.inl h1)
  simp_all
theorem BY {n i:Nat}(h:i+1<n):List.range n=List.range i++i::(i+1)::List.range' (i+2) (n-(i+2)):=by
 rw[List.range_eq_range',List.range_eq_range'];have e:∀k,List.range' k (n-k)=k::List.range' (k+1) (n-(k+1))∨n≤k:=fun k=>by
  by_cases hk:k<n
  ·left;rw[show n-k=(n-(k+1))+1 by omega,List.range'_succ]
  ·right;omega
 rcases e i with e1|e1
 ·rcases e (i+1)with e2|e2
  ·rw[←e2,←e1];have:=List.range'_append (s:=0) (m:=i) (n:=n-i) (step:=1);grind
  ·omega
 ·omega
theorem yA:∀(os:List Oper) (s s':St),(∀q∈os,q.dst=none)→fm E code true ops os s=some (.norm s')→s'.tmps=s.tmps
 | [],s,s',_,h=>by simp only[fm,A',Out.norm.injEq]at h;rw[h]
 |o::os,s,s',hq,h=>by
  simp only[fm,B']at h
  obtain⟨r,h1,h2⟩:=h
  cases r with
  |norm s1 =>
   rw[yA os s1 s' (fun q hm=>hq q (by simp[hm])) h2]
   obtain⟨v,h',rfl,_⟩:=fE h1
   rw[hq o (by simp)]
   rfl
  |panic v h=>simp at h2
  |ret s=>simp at h2
  |exit i s=>simp at h2
variable {g:Gh}{w:World}{ro:Option Nat}{a:Act}{Q:Exit→Act→World→Prop}
theorem Jk (ok:oP E)(hcode:cU E.P code){s s':St}(hd:pK E ops s s'=true)(he:fm E code true ops ops.toList s=some (.norm s'))(m:MR g s.hp w)(ht:aI g s.hp.ag w s.tmps a.tmps.toList)(hK:fY g s.hp w a (Q .normal) Q (.norm s')) :
  wpAnyIn (Fr ro) 0 E.P .any ops Q ops.size (Array.replicate ops.size false) a w:=by
 unfold pK at hd;split at hd;case h_2=>cases hd
 rename_i i0 _;unfold G6 at hd;split at hd;case h_2=>cases hd
 rename_i _ _ t ta tb p hto hp;simp only[E',Option.isNone_iff_eq_none]at hd;obtain⟨⟨⟨⟨⟨⟨⟨⟨hn,hpairs⟩,hnb⟩,hhead⟩,htail⟩,hwait⟩,hfh⟩,hfl⟩,hft⟩:=hd;obtain⟨o,p',x1,x2,x3,x4,x5,x6,x7,x8,x9⟩:=Ez hto;obtain rfl:p=p':=Option.some.inj (hp.symm.trans x2);obtain⟨hback,hpair⟩:=y9 hpairs;have hlt:i0+1<ops.size:=(Array.getElem?_eq_some_iff.1 x2).1;rw[Array.all_eq_true']at hnb;have hsplit:ops.toList=(ops.toList.take i0++[o,p])++ops.toList.drop (i0+2):=by
  have h1:ops.toList.drop i0=o::ops.toList.drop (i0+1):=by
   have hl:i0<ops.toList.length:=by simpa using(by omega:i0<ops.size)
   rw[List.drop_eq_getElem_cons hl];congr 1;have:ops.toList[i0]?=some o:=by simpa using x1
   rw[I' hl]at this;exact Option.some.inj this
  have h2:ops.toList.drop (i0+1)=p::ops.toList.drop (i0+2):=by
   have hl:i0+1<ops.toList.length:=by simpa using hlt
   rw[List.drop_eq_getElem_cons hl];congr 1;have:ops.toList[i0+1]?=some p:=by simpa using x2
   rw[I' hl]at this;exact Option.some.inj this
  rw[List.append_assoc];show _=ops.toList.take i0++o::p::ops.toList.drop (i0+2);rw[←h2,←h1,List.take_append_drop]
 have he0:=he;rw[hsplit,gN]at he;obtain⟨sP,rP,r6⟩:=he;have rP0:=rP;rw[gN]at rP;obtain⟨s0,r1,r2⟩:=rP;simp only[fm,B']at r2;obtain⟨q1,r3,r4⟩:=r2;have hh0:s0.hp=s.hp:=yz _ _ _ (by grind) r1;have hq1:∃s1,q1=.norm s1:=by
  cases q1 with
  |norm s=>exact⟨s,rfl⟩
  |panic v h=>simp at r4
  |ret s=>simp at r4
  |exit i s=>simp at r4
 obtain⟨s1,rfl⟩:=hq1;simp only[B']at r4;obtain⟨q2,r5,r7⟩:=r4;have hq2:∃s2,q2=.norm s2:=by
  cases q2 with
  |norm s=>exact⟨s,rfl⟩
  |panic v h=>simp at r7
  |ret s=>simp at r7
  |exit i s=>simp at r7
 obtain⟨s2,rfl⟩:=hq2;simp only[A',Out.norm.injEq]at r7;obtain⟨l,z1,rfl⟩:=yj x3 x5 x7 hn r3;obtain⟨l',z2,rfl⟩:=yj x4 x6 x8 hn r5;obtain rfl:l=l':=by grind
 simp only at r7;obtain⟨T0,H0⟩:=s0;simp only at hh0;subst hh0;have hlen:(s.hp.heap++[l]).length=s.hp.heap.length+1:=by simp
 simp only[hlen]at r7;rw[z1,Option.all_some]at hfl;have hT':s'.tmps=(T0.set ta (.ptr s.hp.heap.length 0)).set tb (.ptr (s.hp.heap.length+1) 0):=by have:=yA _ _ _ (fun q hq=>by simpa using List.all_eq_true.1 htail q hq) r6;rw[this,←r7]
 have b1:=Co (E:=E) (code:=code) (ops:=ops) (s:=⟨T0,s.hp⟩) x4 x6 x8 hn z1;have b2:=Co (E:=E) (code:=code) (ops:=ops) (s:=⟨T0.set tb (.ptr s.hp.heap.length 0),{ s.hp with heap:=s.hp.heap++[l] }⟩) x3 x5 x7 hn z1;simp only[hlen]at b1 b2;have eB:fm E code true ops (ops.toList.take i0++[p,o]) s=some (.norm ⟨(T0.set tb (.ptr s.hp.heap.length 0)).set ta (.ptr (s.hp.heap.length+1) 0),{ s.hp with heap:=s.hp.heap++[l]++[l] }⟩):=by rw[gN];refine⟨⟨T0,s.hp⟩,r1,?_⟩;simp only[fm,b1,Option.bind_some,b2]
 have hself:Self ops:=fun i oi hi e hee hb=>by have:=hback i oi hi e hee hb;have h2:=(Array.getElem?_eq_some_iff.1 hi).1;exact⟨by omega,by omega⟩
 have hbk:∀x y,x<y→abH ops x y:=fun x y hxy oi hi e hee hb=>by have:=hback x oi hi e hee hb;omega
 have hgd:∀x y,x<y→¬(x=i0∧y=i0+1)→Good E ops x y:=fun x y hxy hn oi oj hi hj=>by
  rcases hpair x y oi oj hxy hi hj with h|h
  ·exact(hn h).elim
  ·exact h
 have hwt:∀j i,i<i0+2→i0+2≤j→j<ops.size→aY ops 6 j i=true:=fun j i hi hj hjs=>by
  have:=List.all_eq_true.1 hwait j (List.mem_range.2 hjs);rw[Bool.or_eq_true]at this;rcases this with h|h
  ·have:j<i0+2:=by simpa using h
   omega
  ·exact List.all_eq_true.1 h i (List.mem_range.2 hi)
 have hmap:(List.range ops.size).map (ops[·]?)=ops.toList.map some:=by
  apply List.ext_getElem?;intro i;rw[List.getElem?_map,List.getElem?_map];by_cases hi:i<ops.size
  ·simp[hi]
  ·grind
 have hRs:List.range ops.size=(List.range i0++[i0,i0+1])++List.range' (i0+2) (ops.size-(i0+2)):=by rw[BY hlt,List.append_assoc];rfl
 generalize hTl:List.range' (i0+2) (ops.size-(i0+2))=TL at hRs;have hTm:∀j,j∈TL ↔ i0+2≤j∧j<ops.size:=fun j=>by rw[←hTl,List.mem_range'_1];omega
 have hAm:∀j,j∈List.range i0++[i0,i0+1] ↔ j<i0+2:=fun j=>by simp only[List.mem_append,List.mem_range,List.mem_cons,List.not_mem_nil,or_false];omega
 have hperm:(List.range i0++[i0+1,i0]).Perm (List.range i0++[i0,i0+1]):=by grind
 have hBm:∀j,j∈List.range i0++[i0+1,i0] ↔ j<i0+2:=fun j=>by rw[hperm.mem_iff];exact hAm j
 have hm2:(List.range i0++[i0,i0+1]).map (ops[·]?)++TL.map (ops[·]?)=(ops.toList.take i0++[o,p]).map some++(ops.toList.drop (i0+2)).map some:=by rw[←List.map_append,←hRs,hmap,←List.map_append,←hsplit]
 obtain⟨hmA,hmT⟩:=List.append_inj hm2 (by simp;omega);have hmX:(List.range i0).map (ops[·]?)++[i0,i0+1].map (ops[·]?)=(ops.toList.take i0).map some++[o,p].map some:=by rw[←List.map_append,hmA,←List.map_append]
 obtain⟨hmX,_⟩:=List.append_inj hmX (by simp;omega);have hmB:(List.range i0++[i0+1,i0]).map (ops[·]?)=(ops.toList.take i0++[p,o]).map some:=by rw[List.map_append,List.map_append,hmX];simp[x1,x2]
 have sortA:(List.range i0++[i0,i0+1]).Pairwise (· < ·):=by have:(List.range ops.size).Pairwise (· < ·):=List.pairwise_lt_range;rw[hRs,List.pairwise_append]at this;exact this.1
 have sortT:TL.Pairwise (· < ·):=by have:(List.range ops.size).Pairwise (· < ·):=List.pairwise_lt_range;rw[hRs,List.pairwise_append]at this;exact this.2.1
 have sortB:(List.range i0++[i0+1,i0]).Pairwise (fun x y=>(x<y∧¬(x=i0∧y=i0+1))∨(x=i0+1∧y=i0)):=by
  rw[List.pairwise_append]at sortA⊢;refine⟨sortA.1.imp_of_mem (by grind),?_,fun x hx y hy=>?_⟩
  ·simp
  ·have hx':=List.mem_range.1 hx;simp only[List.mem_cons,List.not_mem_nil,or_false]at hy;omega
 have hmem:∀i,(i<i0+2∨i∈TL) ↔ (Array.replicate ops.size false).getD i true=false:=fun i=>by
  rw[hTm];constructor
  ·intro h;have:i<ops.size:=by omega
   simp[this]
  grind
 have kA:fY g s.hp w a (JC ro E ops Q TL) Q (.norm sP):=by
  intro g' w' a' nx hr hdf fuel listed hfu hRe hsz hcl;have tail:Rest E ops [] listed TL:=⟨fun i=>by rw[←hRe.mem i];simp,sortT.imp (by omega),sortT.imp (by omega),(by grind),(by grind),(by grind)⟩;refine rI ok hcode hself (T:=[]) fuel listed TL (ops.toList.drop (i0+2)) sP s' g' a' w' tail (sortT.imp_of_mem (by grind)) (by simpa using hfu) hsz hcl hmT r6 nx.mr hr ?_;intro g2 w2 a2 nx2 hr2 hdf2 fuel2 listed2 _ hRe2 hsz2 _;have hrd:Region.ready .any ops listed2=[]:=by apply List.eq_nil_iff_forall_not_mem.2;intro i hi;rcases(hRe2.mem i).2 (mem_ready.1 hi).1 with h|h<;>cases h
  have hfin:=hK g2 w2 a2 (nx.trans nx2) hr2 (hdf2.trans hdf);cases fuel2 with
  |zero=>exact⟨hrd,hfin⟩
  |succ n=>exact⟨fun _=>hfin,fun i hi=>by rw[hrd]at hi;cases hi⟩
 have hfree:∀(i:Nat) (x:AV),((T0.set ta (.ptr s.hp.heap.length 0)).set tb (.ptr (s.hp.heap.length+1) 0))[i]?=some x→i≠ta→i≠tb→free s.hp.heap.length x=true:=fun i x hx ea eb=>by
  have hx':s'.tmps[i]?=some x:=by rw[hT'];exact hx
  have:=List.all_eq_true.1 hft (x,i) (by grind);simp only[Bool.or_eq_true]at this;rcases this with(h|h)|h
  ·exact absurd (Nat.eq_of_beq_eq_true h) ea
  ·exact absurd (Nat.eq_of_beq_eq_true h) eb
  ·exact h
 have hfh2:Cg s.hp.heap.length { s.hp with heap:=s.hp.heap++[l]++[l] }=true:=by unfold Cg at hfh⊢;simp only[E']at hfh⊢;refine⟨?_,hfh.2⟩;rw[List.all_append,List.all_append,hfh.1];simp[hfl]
 have kB:fY g s.hp w a (JC ro E ops Q TL) Q (.norm ⟨(T0.set tb (.ptr s.hp.heap.length 0)).set ta (.ptr (s.hp.heap.length+1) 0),{ s.hp with heap:=s.hp.heap++[l]++[l] }⟩):=by
  intro g' w' a' nx hr hdf;simp only at nx hr;have hgl:g'.vars.length=s.hp.heap.length+2:=by rw[nx.mr.dN];simp
  subst r7;refine kA (Rd s.hp.heap.length g') w' a' ⟨MR.sw (l:=l) nx.mr (by simp) (by simp) (by simp) hfh2,?_,nx.fl⟩ ?_ hdf
  ·have le:=nx.le;refine⟨le.base,le.below,le.fz,le.cell,fun i c hi=>?_,le.loops,le.defs,le.tok,le.shape⟩;have h2:i<s.hp.heap.length:=by rw[←m.dN];exact(by grind)
   rw[hZ hgl,show u9 s.hp.heap.length i=i by unfold u9;rw[if_neg (by omega),if_neg (by omega)]];exact le.vars i c hi
  ·refine aI.Lo _ _ ?_ fun i x hx=>?_
   ·have:=hr.length;simpa using this
   ·simp only at hx;have hl:i<T0.length:=by have:=(C'.1 hx).1;simpa using this
    by_cases eb:i=tb
    ·subst eb;rw[List.getElem?_set_self (by simpa using hl)]at hx;obtain rfl:=Option.some.inj hx;obtain⟨v,v1,v2⟩:=hr.get i (.ptr s.hp.heap.length 0) (by grind);refine⟨v,v1,?_⟩;cases v2 with
     |ptr h=>exact .ptr (by rw[hZ hgl,show u9 s.hp.heap.length (s.hp.heap.length+1)=s.hp.heap.length by unfold u9;grind];exact h)
    ·by_cases ea:i=ta
     ·subst ea;rw[List.getElem?_set_ne (Ne.symm x9),List.getElem?_set_self hl]at hx;obtain rfl:=Option.some.inj hx;obtain⟨v,v1,v2⟩:=hr.get i (.ptr (s.hp.heap.length+1) 0) (by grind);refine⟨v,v1,?_⟩;cases v2 with
      |ptr h=>exact .ptr (by rw[hZ hgl,show u9 s.hp.heap.length s.hp.heap.length=s.hp.heap.length+1 by unfold u9;rw[if_pos rfl]];exact h)
     ·have hfx:=hfree i x hx ea eb;rw[List.getElem?_set_ne (Ne.symm eb),List.getElem?_set_ne (Ne.symm ea)]at hx;obtain⟨v,v1,v2⟩:=hr.get i x (by grind);exact⟨v,v1,v2.sw hgl hfx⟩
 have taA:∀j∈TL,∀i,i<i0+2→aY ops 6 j i=true:=by grind
 exact QN ok hcode hself (T:=TL) (i0:=i0) (j0:=i0+1) ops.size (Array.replicate ops.size false) (List.range i0++[i0,i0+1]) (List.range i0++[i0+1,i0]) _ _ s sP _ g a w
  ⟨fun i=>by rw[hAm];exact hmem i,sortA.imp (by omega),sortA.imp (by omega),by grind,by grind,by grind⟩
  ⟨fun i=>by rw[hBm];exact hmem i,hperm.nodup_iff.2 (sortA.imp (by omega)),sortB.imp fun {x y} h=>by
   rcases h with h|⟨rfl,rfl⟩
   ·exact hbk x y h.1
   ·intro oi hi e hee hb
    obtain rfl:p=oi:=by grind
    have:=hnb e hee
    simp only[hb,Bool.not_true,Bool.false_or,Bool.not_eq_true']at this
    intro e2
    rw[e2]at this
    simp at this
   ,by grind,by grind,by grind⟩
  (by simp) (by simp)
  (sortA.imp (by grind))
  (sortB.imp fun {x y} h=>by
   rcases h with h|h
   ·grind
   ·exact .inl h)
  (by omega) (by grind) (by simp) (fun k o hk=>by
   exfalso
   simp only[Array.getD_eq_getD_getElem?,Array.getElem?_replicate]at hk
   split at hk<;>simp at hk) hmA hmB rP0 eB m ht kA kB
end
end Kz
namespace Kz
open Go Go.RowKit
theorem Zh {a b:AV}(h:eqA a b=true):a=b:=by unfold eqA at h;split at h<;>simp_all
theorem Bb:∀{l m:List AV},U4 l m=true→l=m
 | [],[],_=>rfl
 |a::l,b::m,h=>by
  simp only[U4,E']at h
  rw[Zh h.1,Bb h.2]
 | [],_::_,h=>by cases h
 |_::_,[],h=>by cases h
theorem zS {P:Program}{h h':Hp}{a:AV}(hs:A4 h h' a=true)(t:TypeId):eC P h' t a=eC P h t a:=by
 unfold A4 at hs;split at hs
 ·split at hs
  ·rename_i e1 e2;simp only[eC];rw[e1,e2,Bb hs]
  ·cases hs
 ·split at hs
  ·rename_i e1 e2;simp only[eC];rw[e1,e2,Bb hs]
  ·cases hs
 ·rfl
 ·cases hs
noncomputable section
variable {E:Env}{code:Nat→Code→St→Tr Out}{ops:Array Oper}
def alD (E:Env)(ops:Array Oper)(j:Nat)(s:St)(h:Hp):Prop := ∀i p,i<j→ops[i]?=some p→dK E.pf p=false→aY ops 5 j i=false→∀ty u,p.op=.load ty (.tmp u)→∀t,eC E.P h t (s.tmps.getD u .any)=eC E.P s.hp t (s.tmps.getD u .any)
inductive Ih (E:Env) (code:Nat→Code→St→Tr Out) (ops:Array Oper):List Nat→St→Out→Prop
 |nil (s:St):Ih E code ops [] s (.norm s)
 |q {j:Nat} {R:List Nat} {o:Oper} {s s1:St} {out:Out}:ops[j]?=some o→dK E.pf o=false→fG E code true ops o s=some (.norm s1)→Ih E code ops R s1 out→Ih E code ops (j::R) s out
 |l {j:Nat} {R:List Nat} {o:Oper} {s s1:St} {out:Out}:ops[j]?=some o→dK E.pf o=true→o.guard=none→fG E code false ops o s=some (.norm s1)→alD E ops j s s1.hp→Ih E code ops R s1 out→Ih E code ops (j::R) s out
 |p {j:Nat} {R:List Nat} {o:Oper} {s:St} {v:AV} {h:Hp}:ops[j]?=some o→dK E.pf o=true→o.guard=none→fG E code false ops o s=some (.panic v h)→Ih E code ops (j::R) s (.panic v h)
theorem uJ {out:Out}:∀(R R':List Nat) (os:List Oper) (s s1:St),R.map (ops[·]?)=os.map some→(∀o∈os,dK E.pf o=false)→fm E code true ops os s=some (.norm s1)→Ih E code ops R' s1 out→Ih E code ops (R++R') s out
 | [],R',os,s,s1,hm,_,he,hr=>by
  cases os with
  |cons=>simp at hm
  |nil =>
   simp only[fm,A',Out.norm.injEq]at he
   subst he
   exact hr
 |j::R,R',os,s,s1,hm,hl,he,hr=>by
  cases os with
  |nil=>simp at hm
  |cons o os =>
   simp only[List.map_cons,List.cons.injEq]at hm
   simp only[fm,B']at he
   obtain⟨r,h1,h2⟩:=he
   cases r with
   |norm s2=>exact .q hm.1 (hl o (by simp)) h1 (uJ R R' os s2 s1 hm.2 (by simp_all) h2 hr)
   |_=>simp at h2
theorem yi {out:Out}:∀(R R':List Nat) (s:St),(∀j∈R,∀o,ops[j]?=some o→dK E.pf o=false)→Ih E code ops (R++R') s out→∃os s1,R.map (ops[·]?)=os.map some∧(∀o∈os,dK E.pf o=false)∧fm E code true ops os s=some (.norm s1)∧Ih E code ops R' s1 out
 | [],R',s,_,hr=>⟨[],s,rfl,by simp,rfl,hr⟩
 |j::R,R',s,hl,hr=>by
  rw[List.cons_append]at hr
  cases hr with
  | @q _ _ o _ s2 _ h1 h2 h3 h4 =>
   obtain⟨os,s1,e1,e2,e3,e4⟩:=yi R R' s2 (by grind) h4
   refine⟨o::os,s1,by simp[h1,e1],?_,?_,e4⟩
   ·simp_all
   ·simp only[fm,h3,Option.bind_some]
    exact e3
  |l h1 h2=>simp_all
  |p h1 h2=>simp_all
theorem yE {d:Bool}{tmps:List AV}{h:Hp}{o:Oper}{e:Option Nat}{v:AV}(hl:∀t,e=some t→t∉o.looksAt ops):aL E code d [] (bN tmps e v) h o=aL E code d [] tmps h o :=
 uc fun x hx=>yK fun t ht=>CA (hl t ht) x hx
theorem ui {d:Bool}{o:Oper}{s:St}(hg:o.guard=none):fG E code d ops o s=((aL E code d [] s.tmps s.hp o).get).bind (fe d o s.tmps):=by simp only[fG,gd,hg,Option.bind_some]
def Flt (ops:Array Oper)(p:Oper):Prop:=p.guard=none∧(cls p=0∨∃ty u,p.op=.load ty (.tmp u))
theorem ac0 {o oi:Oper}{s sa:St}(hf:Flt ops o)(hg:oi.guard=none)(hap:o.apart ops oi=true)(h1:fG E code true ops o s=some (.norm sa)) :
  sa.hp=s.hp∧(∀v h,fG E code false ops oi sa=some (.panic v h)→fG E code false ops oi s=some (.panic v h)) ∧
  ∀sb,fG E code false ops oi sa=some (.norm sb)→(∀ty u,o.op=.load ty (.tmp u)→∀t,eC E.P sb.hp t (s.tmps.getD u .any)=eC E.P s.hp t (s.tmps.getD u .any)) →
   ∃t1,fG E code false ops oi s=some (.norm t1)∧t1.hp=sb.hp∧fG E code true ops o t1=some (.norm sb):=by
 obtain⟨a1,a2,a3⟩:=Oper.apart_spec hap;obtain⟨fg,fk⟩:=hf;obtain⟨tmps,h⟩:=s;have h1':=h1;rw[ui fg]at h1;simp only[B']at h1;obtain⟨r,e1,e2⟩:=h1;have hc:cls o≤1:=by
  rcases fk with fk|⟨ty,u,fk⟩
  ·omega
  ·have:cls o=1:=by unfold cls;rw[fk]
   omega
 obtain⟨v,rfl⟩:=jk hc e1;simp only[fe,A',Out.norm.injEq]at e2;subst e2;have hoi:aL E code false [] (bN tmps o.dst v) h oi=aL E code false [] tmps h oi:=yE a1;refine⟨rfl,fun v2 h2 hp=>?_,fun sb hb hl=>?_⟩
 ·rw[ui hg]at hp⊢;simp only[hoi,B']at hp⊢;obtain⟨q,q1,q2⟩:=hp;refine⟨q,q1,?_⟩;cases q with
  |val x y=>simp[fe]at q2
  |pan x y=>exact q2
 ·rw[ui hg]at hb;simp only[hoi,B']at hb;obtain⟨q,q1,q2⟩:=hb;cases q with
  |pan x y=>simp[fe]at q2
  |val x y =>
   simp only[fe,A',Out.norm.injEq]at q2;subst q2;refine⟨⟨bN tmps oi.dst x,y⟩,?_,rfl,?_⟩
   ·rw[ui hg];simp only[q1,Option.bind_some,fe]
   ·rw[ui fg];have key:(aL E code true [] (bN tmps oi.dst x) y o).get=some (.val v y):=by
     rw[yE a3];rcases fk with fk|⟨ty,u,fk⟩
     ·exact wy fk e1 y
     ·have hld:=hl ty u fk ty;simp only[aL,fk,aR]at e1⊢;rw[hld];cases hx:eC E.P h ty (tmps.getD u .any)with
      |none=>rw[hx]at e1;simp[bw,Tr.opt,Tr.bind,Tr.get]at e1
      |some z =>rw[hx]at e1;simp only[bw,Tr.opt,Tr.bind,Tr.get,A',eG.val.injEq]at e1⊢;simp_all
    simp only[key,Option.bind_some,fe];rw[jD a2]
def WOk:List Oper→Prop
 | []=>True
 |o::os=>(∀ty u,o.op=.load ty (.tmp u)→∀q∈o::os,q.dst≠some u)∧WOk os
theorem Ev:∀(R:List Nat) (os:List Oper),R.map (ops[·]?)=os.map some→R.Pairwise (· < ·)→(∀j∈R,∀o,ops[j]?=some o→∀ty u,o.op=.load ty (.tmp u)→∀k q,ops[k]?=some q→q.dst=some u→k<j)→WOk os
 | [],os,hm,_,_=>by
  cases os with
  |nil=>trivial
  |cons=>simp at hm
 |j::R,os,hm,hs,hw=>by
  cases os with
  |nil=>trivial
  |cons o os =>
   have hm':=hm
   simp only[List.map_cons,List.cons.injEq]at hm
   rw[List.pairwise_cons]at hs
   refine⟨fun ty u e q hq hd=>?_,Ev R os hm.2 hs.2 (by grind)⟩
   have:some q∈(o::os).map some:=by simp_all
   rw[←hm']at this
   obtain⟨k,hk,ek⟩:=List.mem_map.1 this
   have h1:=hw j (by simp) o hm.1 ty u e k q ek hd
   grind
theorem oR {oi:Oper}(hg:oi.guard=none):∀(os:List Oper) (s s2:St),(∀o∈os,Flt ops o∧o.apart ops oi=true)→WOk os→fm E code true ops os s=some (.norm s2) →
  s2.hp=s.hp∧(∀v h,fG E code false ops oi s2=some (.panic v h)→fG E code false ops oi s=some (.panic v h)) ∧
  ∀s3,fG E code false ops oi s2=some (.norm s3)→(∀o∈os,∀ty u,o.op=.load ty (.tmp u)→∀t,eC E.P s3.hp t (s2.tmps.getD u .any)=eC E.P s2.hp t (s2.tmps.getD u .any)) →
   ∃t1,fG E code false ops oi s=some (.norm t1)∧t1.hp=s3.hp∧fm E code true ops os t1=some (.norm s3)
 | [],s,s2,_,_,he=>by
  simp only[fm,A',Out.norm.injEq]at he
  subst he
  exact⟨rfl,fun _ _ h=>h,fun s3 h _=>⟨s3,h,rfl,rfl⟩⟩
 |o::os,s,s2,hf,hw,he=>by
  have hwhole:=he
  simp only[fm,B']at he
  obtain⟨r,h1,h2⟩:=he
  cases r with
  |norm sa =>
   obtain⟨k1,k2,k3⟩:=oR hg os sa s2 (by simp_all) hw.2 h2
   obtain⟨j1,j2,j3⟩:=ac0 (hf o (by simp)).1 hg (hf o (by simp)).2 h1
   refine⟨k1.trans j1,by grind,fun s3 h3 hl=>?_⟩
   obtain⟨t1,m1,m2,m3⟩:=k3 s3 h3 fun p hp=>hl p (by simp[hp])
   obtain⟨t2,n1,n2,n3⟩:=j3 t1 m1 fun ty u e t=>by
    have hk:=ny (t:=u) _ _ _ (hw.1 ty u e) hwhole
    simp_all
   refine⟨t2,n1,n2.trans m2,?_⟩
   simp only[fm,n3,Option.bind_some]
   exact m3
  |_=>simp at h2
theorem sd (h:A5 E.pf ops=true):(∀(j:Nat) (o:Oper),ops[j]?=some o→∀e∈o.after,Region.binds .any e=true→e.on<j) ∧
  ∀(i j:Nat) (oi oj:Oper),i<j→ops[i]?=some oi→ops[j]?=some oj→aY ops 5 j i=true∨(dK E.pf oi=false∧oi.apart ops oj=true∧(dK E.pf oj=true→Flt ops oi∧∀ty u,oi.op=.load ty (.tmp u)→∀k q,ops[k]?=some q→q.dst=some u→k<i)∧(dK E.pf oj=false→eZ E.pf oi oj=false)):=by
 unfold A5 at h;simp only[List.all_eq_true,E',Bool.or_eq_true]at h;refine⟨fun j o ho e he hb=>?_,fun i j oi oj hij hi hj=>?_⟩
 ·have:=(h (o,j) (by grind)).1;rw[Array.all_eq_true']at this;grind
 ·have h1:=(h (oj,j) (by grind)).2 (oi,i) (by grind);rcases h1 with((h1|h1)|h1)|h1
  ·simp[hij]at h1
  ·left;rw[aY]at h1⊢;split at h1
   ·rename_i o ho;simp only[ho,Bool.or_eq_true]at h1⊢;rcases h1 with h1|h1
    ·exact .inl h1
    ·exfalso;rw[Array.any_eq_true']at h1;obtain⟨e,_,h2⟩:=h1;simp[aY]at h2
   ·cases h1
  ·exact .inl h1
  ·obtain⟨⟨h2,h3⟩,h4⟩:=h1;refine .inr ⟨by simpa using h2,h3,fun hl=>?_,fun hl=>?_⟩
   ·rw[hl]at h4;simp only[cond_true,H9,E',Option.isNone_iff_eq_none,Bool.or_eq_true,beq_iff_eq]at h4;obtain⟨h5,h6⟩:=h4;rcases h6 with h6|h6
    ·refine⟨⟨h5,.inl h6⟩,fun ty u e=>?_⟩;unfold cls at h6;simp_all
    ·split at h6
     ·rename_i ty u e;refine⟨⟨h5,.inr ⟨ty,u,e⟩⟩,fun ty' u' e' k q hq hd=>?_⟩;rw[e]at e';simp only[Op.load.injEq,Operand.tmp.injEq]at e';obtain⟨rfl,rfl⟩:=e';rw[List.all_eq_true]at h6;have:=h6 (q,k) (by grind);simpa[hd]using this
     ·cases h6
   simp_all
theorem JQ {listed:Array Bool}{i:Nat}{oi:Oper}(hcl:gx ops listed)(hoi:ops[i]?=some oi)(hafter:∀e∈oi.after,Region.binds .any e=true→listed.getD e.on false=true){j n:Nat}(hj:listed.getD j true=false)(h:aY ops (n+1) i j=true):False:=by
 have h1:listed.getD j false=true:=by
  rw[aY,hoi]at h;simp only[Bool.or_eq_true]at h;rcases h with h|h
  ·grind
  ·rw[Array.any_eq_true']at h;obtain⟨e,he1,he2⟩:=h;simp only[E']at he2;exact hcl.waits n e.on j (hafter e he1 he2.1) he2.2
 grind
variable {g:Gh}{w:World}{ro:Option Nat}{a:Act}{Q:Exit→Act→World→Prop}
theorem Iy (ok:oP E)(hcode:cU E.P code)(hd:A5 E.pf ops=true):∀(fuel:Nat) (listed:Array Bool) (R:List Nat) (s:St) (out:Out) (g:Gh) (a:Act) (w:World),Rest E ops [] listed R→R.Pairwise (· < ·)→R.length≤fuel→listed.size=ops.size→gx ops listed→Ih E code ops R s out→MR g s.hp w→aI g s.hp.ag w s.tmps a.tmps.toList→fY g s.hp w a (Q .normal) Q out →
  wpAnyIn (Fr ro) 0 E.P .any ops Q fuel listed a w:=by
 obtain⟨hback,hpair⟩:=sd hd;have hself:Self ops:=fun i oi hi e he hb=>by have h1:=hback i oi hi e he hb;have h2:=(Array.getElem?_eq_some_iff.1 hi).1;exact⟨by omega,by omega⟩
 have last:∀(fuel:Nat) (listed:Array Bool) (s:St) (out:Out) (g:Gh) (a:Act) (w:World),Rest E ops [] listed []→Ih E code ops [] s out→MR g s.hp w→aI g s.hp.ag w s.tmps a.tmps.toList→fY g s.hp w a (Q .normal) Q out→Q .normal a w:=by intro fuel listed s out g a w _ he m ht hK;cases he;exact hK g w a (Nx.refl m) ht rfl
 have noready:∀(listed:Array Bool),Rest E ops [] listed []→Region.ready .any ops listed=[]:=by intro listed hR;apply List.eq_nil_iff_forall_not_mem.2;intro i hi;have:=(hR.mem i).2 (mem_ready.1 hi).1;simp at this
 intro fuel;induction fuel with
 |zero =>
  intro listed R s out g a w hR hsrt hlen hsz hcl he m ht hK;obtain rfl:R=[]:=by simp_all
  exact⟨noready listed hR,last 0 listed s out g a w hR he m ht hK⟩
 |succ fuel ih =>
  intro listed R s out g a w hR hsrt hlen hsz hcl he m ht hK;refine⟨fun hr=>?_,fun i hi=>?_⟩
  ·obtain rfl:=hR.none hself hsz hr;exact last 0 listed s out g a w hR he m ht hK
  ·obtain⟨hun,oi,hoi,hafter⟩:=mem_ready.1 hi;have him:i∈R:=by simpa using(hR.mem i).2 hun
   obtain⟨R1,R2,rfl⟩:=List.append_of_mem him;have hlt:i<listed.size:=by rw[hsz];exact(by grind)
   have hbefore:∀j∈R1,j<i:=by grind
   have hrel:∀j∈R1,∀o,ops[j]?=some o→aY ops 5 i j=false∧(dK E.pf o=false∧o.apart ops oi=true∧(dK E.pf oi=true→Flt ops o∧∀ty u,o.op=.load ty (.tmp u)→∀k q,ops[k]?=some q→q.dst=some u→k<j)∧(dK E.pf oi=false→eZ E.pf o oi=false)):=by
    intro j hj o ho;have hn:aY ops 5 i j=false:=by
     cases hw:aY ops 5 i j with
     |false=>rfl
     |true=>exact(JQ hcl hoi hafter ((hR.mem j).1 (.inl (by simp[hj]))) hw).elim
    rcases hpair j i o oi (hbefore j hj) ho hoi with h|h
    ·rw[hn]at h;cases h
    ·exact⟨hn,h⟩
   obtain⟨os,s2,e1,e2,e3,e4⟩:=yi R1 (i::R2) s (by grind) he;have hos:∀o∈os,∃j∈R1,ops[j]?=some o:=by
    intro o ho;have:some o∈os.map some:=by simp_all
    rw[←e1]at this;obtain⟨j,hj,e⟩:=List.mem_map.1 this;exact⟨j,hj,e⟩
   have hsub:(R1++R2).Sublist (R1++i::R2):=by simp_all
   have go:∀s1,Ih E code ops (R1++R2) s1 out→∀g' w' a',Nx g s.hp w g' s1.hp w'→aI g' s1.hp.ag w' s1.tmps a'.tmps.toList→a'.defers=a.defers→wpAnyIn (Fr ro) 0 E.P .any ops Q fuel (listed.setIfInBounds i true) a' w':=by intro s1 hr g' w' a' nx ht' hd';exact ih (listed.setIfInBounds i true) (R1++R2) s1 out g' a' w' (hR.take hlt) (hsrt.sublist hsub) (by simp at hlen⊢;omega) (by simp[hsz]) (gZ hcl hoi hafter) hr nx.mr ht' (hK.trans nx hd')
   cases e4 with
   | @q _ _ o _ s3 _ h1 h2 h3 h4 =>
    obtain rfl:o=oi:=by simp_all
    have hst:fm E code true ops (os++[o]) s=some (.norm s3):=(gN os [o] s s3).2 ⟨s2,e3,by simp only[fm,h3,Option.bind_some]⟩;have hfree:JD E ops s3.tmps o [] os:=oo (o2:=[]) R1 os e1 (by grind);have hst:=nr os [] s s3 hfree hst;simp only[fm,B',List.append_nil]at hst;obtain⟨r,k1,k2⟩:=hst;cases r with
    |norm s1=>exact jc ok hcode k1 m ht hoi (go s1 (uJ R1 R2 os s1 s3 e1 e2 k2 h4))
    |_=>simp at k2
   | @l _ _ o _ s3 _ h1 h2 h3 h4 h5 h6 =>
    obtain rfl:o=oi:=by simp_all
    have hF:∀p∈os,Flt ops p∧p.apart ops o=true:=fun p hp=>by obtain⟨j,hj,e⟩:=hos p hp;grind
    have hW:WOk os:=Ev R1 os e1 (by grind) (by grind);obtain⟨_,_,k3⟩:=oR h3 os s s2 hF hW e3;obtain⟨t1,m1,m2,m3⟩:=k3 s3 h4 fun p hp ty u e t=>by obtain⟨j,hj,ej⟩:=hos p hp;exact h5 j p (hbefore j hj) ej (e2 p hp) (hrel j hj p ej).1 ty u e t
    exact jc ok hcode m1 m ht hoi (go t1 (uJ R1 R2 os t1 s3 e1 e2 m3 h6))
   | @p _ _ o _ v h h1 h2 h3 h4 =>
    obtain rfl:o=oi:=by simp_all
    obtain⟨_,k2,_⟩:=oR h3 os s s2 (fun p hp=>by
     obtain⟨j,hj,e⟩:=hos p hp
     grind) (Ev R1 os e1 (by grind) (by grind)) e3
    exact jc ok hcode (k2 v h h4) m ht hoi hK
end
noncomputable section
variable {P:Program}{E:Env}{code:Nat→Code→St→Tr Out}
variable {g g':Gh}{h h':Hp}{tk:List Nat}{w w':World}{ro:Option Nat}{a:Act}{Q:Exit→Act→World→Prop}{W0:DB}
theorem lN.nx {g0:Gh}{h0:Hp}{w0:World}{out:Out}{e:Exit}{a':Act}(nx:Nx g0 h0 w0 g h w)(hp:lN g h w W0 out e a' w'):lN g0 h0 w0 W0 out e a' w':=by
 cases out with
 |norm s=>obtain⟨e1,g1,n1,r1,m1⟩:=hp;exact⟨e1,g1,nx.trans n1,r1,m1⟩
 |ret s=>obtain⟨e1,g1,n1,r1,m1⟩:=hp;exact⟨e1,g1,nx.trans n1,r1,m1⟩
 |exit id s=>obtain⟨e1,g1,n1,r1,m1⟩:=hp;exact⟨e1,g1,nx.trans n1,r1,m1⟩
 |panic v h=>obtain⟨x,g1,e1,n1,r1,m1⟩:=hp;exact⟨x,g1,e1,nx.trans n1,r1,m1⟩
theorem qP:∀(i:Nat) (ts:List Nat) (tmps:List AV) (vs:List Value),aI g tk w tmps vs→aI g tk w (ml i tmps ts) vs
 |_,_,[],_,h=>by rw[ml];exact h
 |_,[],_::_,_,h=>by rw[ml];exact h
 |i,t::ts,a::l,_,h=>by
  rw[ml]
  cases h with
  |cons hx hr =>
   cases Nat.beq i t with
   |true=>exact .cons (.any _) (qP (i+1) ts l _ hr)
   |false=>exact .cons hx (qP (i+1) (t::ts) l _ hr)
theorem yL (ts:List Nat)(tmps:List AV)(vs:List Value)(h:aI g tk w tmps vs):aI g tk w (Bj tmps ts) vs:=qP 0 ts tmps vs h
theorem vA (ok:oP E)(hcode:cU E.P code){fn id:Nat}{ops:Array Oper}{draw:Bool}{s:St}{out:Out}(he:(nH E code fn id ops draw s).get=some out)(m:MR g s.hp w)(ht:aI g s.hp.ag w s.tmps a.tmps.toList)(hK:fY g s.hp w a (Q .normal) Q out):(Code.region id ops draw).wpIn (Fr ro) 0 E.P Q a w:=by
 unfold nH at he;split at he
 ·simp at he
 ·rename_i hdr;simp only[get_bind,B']at he;obtain⟨r,h1,h2⟩:=he;have hst:=gP _ _ _ _ (jr.nil _) h1;have hfin:∀s',r=.norm s'→draw=true→(jP E.pf ops none=true∨jP E.pf ops (some s'.tmps)=true)∨pK E ops s s'=true:=by
   rintro s' rfl rfl;simp only at h2;split at h2
   ·simp at h2
   ·grind
  have hids:(List.range ops.size).map (ops[·]?)=ops.toList.map some:=by
   apply List.ext_getElem?;intro i;rw[List.getElem?_map,List.getElem?_map];by_cases hi:i<ops.size
   ·simp[hi]
   ·simp_all
  have post:∀(w1:World),MR g s.hp w1→Le g s.hp.ag w g s.hp.ag w1→fY g s.hp w1 a (Q .normal) Q r:=by
   intro w1 m1 l1;have nx0:Nx g s.hp w g s.hp w1:=⟨m1,l1,Fl.refl _⟩;cases r with
   |norm s' =>
    simp only at h2;split at h2
    ·simp at h2
    simp only[aj,A']at h2;subst h2;intro g' w' a' nx hr hd;exact hK g' w' a' (nx0.trans (by simp_all)) (yL _ _ _ hr) hd
   |panic v h' =>simp only[aj,A']at h2;subst h2;intro g' w' x a' nx hr hd;exact hK g' w' x a' (nx0.trans nx) hr hd
   |_=>trivial
  cases draw with
  |false=>exact wpIn_region (Km ok hcode _ _ _ _ g a w hids hst m ht (post w m (Le.refl _ _ _)))
  |true =>
   simp only[Bool.true_and,Bool.not_eq_true,Bool.not_eq_false']at hdr;obtain⟨m1,l1⟩:=m.drew;rcases Bx hst with⟨s',rfl⟩|⟨v,h',rfl⟩
   ·refine wpIn_region_any hdr ?_;have hleft:left ops (Array.replicate ops.size false)=List.range ops.size:=by unfold left;apply List.filter_eq_self.2;intro i hi;have:i<ops.size:=List.mem_range.1 hi;simp[this]
    rcases hfin s' rfl rfl with hdr|hdr
    case inr=>exact Jk ok hcode hdr hst m1 (ht.mono l1) (post w.drew m1 l1)
    exact Tn ok hcode hdr ops.size (Array.replicate ops.size false) _ _ _ g a w.drew rfl (by rw[hleft];simp) (by simp) (fun k o hk=>by
     exfalso
     simp only[Array.getD_eq_getD_getElem?,Array.getElem?_replicate]at hk
     grind) (by rw[hleft];exact hids) hst m1 (ht.mono l1) (post w.drew m1 l1)
   ·exfalso;have:∀(os:List Oper) (s:St),fm E code true ops os s≠some (.panic v h'):=by
     intro os;induction os with
     |nil=>intro s hx;simp[fm]at hx
     |cons o os ih =>
      intro s hx;simp only[fm,B']at hx;obtain⟨r,h3,h4⟩:=hx;cases r with
      |norm s1=>exact ih s1 h4
      |panic v h =>
       simp only[fG,B']at h3;obtain⟨b,_,h3⟩:=h3;cases b with
       |false=>simp at h3
       |true =>simp only[B']at h3;obtain⟨q,_,h3⟩:=h3;cases q<;>simp[fe]at h3
      |ret s=>simp at h4
      |exit id s=>simp at h4
    exact this _ _ hst
theorem ED {ops:Array Oper}:∀(l acc:List Nat) (s:St) (out:Out),(∀i∈acc++l,i<ops.size)→(∀i∈acc,∀o,ops[i]?=some o→dK E.pf o=false)→(uY E code ops l acc s).get=some out→Ih E code ops (acc.reverse++l) s out:=by
 have hof:∀l:List Nat,(∀i∈l,i<ops.size)→l.map (ops[·]?)=(opsOf ops l).map some:=by
  intro l;induction l with
  |nil=>intro _;rfl
  |cons i l ih =>
   intro h;have hi:ops[i]?=some (ops[i]'(h i (by simp))):=by simp[h i (by simp)]
   simp only[opsOf,List.map_cons,List.filterMap_cons,hi];rw[ih fun j hj=>h j (by simp[hj])];rfl
 have hquiet:∀(acc:List Nat),(∀i∈acc,∀o,ops[i]?=some o→dK E.pf o=false)→∀o∈opsOf ops acc.reverse,dK E.pf o=false:=by intro acc ha o ho;obtain⟨i,hi,e⟩:=List.mem_filterMap.1 ho;exact(by grind)
 have norm:∀(os:List Oper) (s:St) (v:AV) (h:Hp),fm E code true ops os s≠some (.panic v h):=by
  intro os;induction os with
  |nil=>intro s v h hx;simp[fm]at hx
  |cons o os ih =>
   intro s v h hx;simp only[fm,B']at hx;obtain⟨r,h3,h4⟩:=hx;cases r with
   |norm s1=>exact ih s1 v h h4
   |panic v h =>
    simp only[fG,B']at h3;obtain⟨b,_,h3⟩:=h3;cases b with
    |false=>simp at h3
    |true =>simp only[B']at h3;obtain⟨q,_,h3⟩:=h3;cases q<;>simp[fe]at h3
   |ret s=>simp at h4
   |exit id s=>simp at h4
 intro l;induction l with
 |nil =>
  intro acc s out hr ha he;have hst:=gP _ _ _ _ (jr.nil _) he;have hn:∃s1,out=.norm s1:=by
   rcases Bx hst with h|⟨v,h,rfl⟩
   ·exact h
   ·simp_all
  obtain⟨s1,rfl⟩:=hn;exact uJ _ [] _ s s1 (by simp_all) (hquiet acc ha) hst (.nil s1)
 |cons j l ih =>
  intro acc s out hr ha he;unfold uY at he;split at he
  ·simp at he
  ·rename_i o ho;split at he
   ·grind
   ·rename_i hl;simp only[get_bind,B']at he;obtain⟨r,h1,h2⟩:=he;have hst:=gP _ _ _ _ (jr.nil _) h1;cases r with
    |norm s1 =>
     refine uJ _ (j::l) _ s s1 (by simp_all) (hquiet acc ha) hst ?_;simp only at h2;split at h2
     ·simp at h2
     ·rename_i hg;simp only[get_bind,B']at h2;obtain⟨q,h3,h4⟩:=h2;cases q with
      |val v h =>
       simp only[Tr.get]at h4;cases hs:vY E.pf ops j s1 h with
       |false=>rw[hs]at h4;cases h4
       |true =>
        rw[hs]at h4;refine .l ho hl hg (s1:=⟨bN s1.tmps o.dst v,h⟩) (by rw[ui hg];simp only[h3,Option.bind_some,fe]) ?_ (by grind);intro i p hij hp hlp hw ty u e t;unfold vY at hs;rw[List.all_eq_true]at hs;have hw1:aY ops 1 j i=false:=by
         cases hx:aY ops 1 j i with
         |false=>rfl
         |true =>
          have h5:aY ops 5 j i=true:=by
           rw[aY]at hx⊢;simp only[ho,Bool.or_eq_true]at hx⊢;rcases hx with hx|hx
           ·exact .inl hx
           ·exfalso;rw[Array.any_eq_true']at hx;obtain⟨e,_,h2⟩:=hx;simp[aY]at h2
          rw[hw]at h5;cases h5
        have:=hs (p,i) (by grind);simp only[hlp,hw1,hw,Bool.false_or,e]at this;exact zS this t
      |pan v h =>simp only[aj,A']at h4;subst h4;exact .p ho hl hg (by rw[ui hg];simp only[h3,Option.bind_some,fe];rfl)
    |_=>simp at h2
theorem Mw (ok:oP E)(hcode:cU E.P code){fn id:Nat}{ops:Array Oper}{s:St}{out:Out}(he:(zp E code fn id ops s).get=some out)(m:MR g s.hp w)(ht:aI g s.hp.ag w s.tmps a.tmps.toList)(hK:fY g s.hp w a (Q .normal) Q out):(Code.region id ops true).wpIn (Fr ro) 0 E.P Q a w:=by
 unfold zp at he;split at he
 ·simp at he
 ·rename_i hdr;simp only[Bool.or_eq_true,Bool.not_eq_eq_eq_not,Bool.not_true,not_or,Bool.not_eq_false]at hdr;simp only[get_bind,B']at he;obtain⟨r,h1,h2⟩:=he;have hrun:=ED (List.range ops.size) [] s r (by simp) (by simp) h1;obtain⟨m1,l1⟩:=m.drew;have nx0:Nx g s.hp w g s.hp w.drew:=⟨m1,l1,Fl.refl _⟩
  refine wpIn_region_any hdr.1 (Iy ok hcode hdr.2 ops.size (Array.replicate ops.size false) (List.range ops.size) s r g a w.drew ⟨fun i=>?_,List.nodup_range,?_,by simp,by simp,by simp⟩ List.pairwise_lt_range (by simp) (by simp) (fun k o hk=>by
     exfalso
     simp only[Array.getD_eq_getD_getElem?,Array.getElem?_replicate]at hk
     grind) hrun m1 (ht.mono l1) ?_)
  ·simp only[List.mem_range,List.not_mem_nil,or_false,Array.getD_eq_getD_getElem?,Array.getElem?_replicate];grind
  ·refine List.Pairwise.imp_of_mem (fun {i j} hi hj hij=>?_) List.pairwise_lt_range;intro oi ho e he hb hx;have:=(sd hdr.2).1 i oi ho e he hb;omega
  ·cases r with
   |norm s' =>simp only[aj,A']at h2;subst h2;intro g' w' a' nx hr hd;exact hK g' w' a' (nx0.trans (by simp_all)) (yL _ _ _ hr) hd
   |panic v h' =>simp only[aj,A']at h2;subst h2;intro g' w' x a' nx hr hd;exact hK g' w' x a' (nx0.trans nx) hr hd
   |_=>trivial
theorem Cf (ok:oP E)(hcode:cU E.P code){fn id:Nat}{ops:Array Oper}{draw:Bool}{s:St}{out:Out}(he:(mS E code fn id ops draw s).get=some out)(m:MR g s.hp w)(ht:aI g s.hp.ag w s.tmps a.tmps.toList)(hK:fY g s.hp w a (Q .normal) Q out):(Code.region id ops draw).wpIn (Fr ro) 0 E.P Q a w:=by
 unfold mS at he;split at he
 ·exact vA ok hcode he m ht hK
 ·split at he
  ·exact Mw ok hcode he m ht hK
  ·exact vA ok hcode he m ht hK
theorem Ju (ok:oP E)(hcode:cU E.P code){fn id:Nat}{ops:Array Oper}{draw:Bool}{s:St}{out:Out}(he:(mS E code fn id ops draw s).get=some out):se E.P (.region id ops draw) s out:=by
 intro ro g w a W0 m ht mk hW _;refine Cf ok hcode he m ht ?_;cases out with
 |norm s'=>exact fun g' w' a' nx hr hd=>⟨rfl,g',nx,hr,by rw[hd];exact mk.mono (fun D hD=>nx.le.defs D hD)⟩
 |panic v h'=>exact fun g' w' x a' nx hr hd=>⟨x,g',rfl,nx,hr,by rw[hd];exact mk.mono (fun D hD=>nx.le.defs D hD)⟩
 |_=>trivial
theorem vZ {F:Fence}{n:Nat}{c:Code}(h:qR F n P c Q a w):(Code.loop c).wpIn F n P Q a w:=by intro b k cs hro hb hr;obtain⟨e,a',w',hq,harr⟩:=h b k cs hro hb hr;exact⟨e,a',w',hq,.of_steps (.one (fenced_calm hb hr rfl) stepR_loop) harr⟩
theorem eX {F:Fence}{n:Nat}{c:Code}(h:c.wpIn F n P (Exit.then (qR F n P c Q) Q) a w):qR F n P c Q a w:=by
 intro b k cs hro hb hr;obtain⟨e,a₁,w₁,hq,harr⟩:=h b (.inLoop c::k) cs hro hb hr;cases e with
 |normal =>obtain⟨e₂,a₂,w₂,hq₂,harr₂⟩:=hq b k cs hro hb hr;exact⟨e₂,a₂,w₂,hq₂,.of_steps (StepsIn.trans harr (.one (fenced_calm hb hr rfl) stepR_inLoop)) harr₂⟩
 |exit id=>exact⟨_,a₁,w₁,hq,.pass (x := .inLoop c) rfl (by simp_all) harr⟩
 |goto l=>exact⟨_,a₁,w₁,hq,.pass (x := .inLoop c) rfl (by simp_all) harr⟩
 |ret=>exact⟨_,a₁,w₁,hq,.pass (x := .inLoop c) rfl (by simp_all) harr⟩
 |panic ch=>exact⟨_,a₁,w₁,hq,.pass (x := .inLoop c) rfl (by simp_all) harr⟩
 |outgrown=>exact⟨_,a₁,w₁,hq,.pass (x := .inLoop c) rfl (by simp_all) harr⟩
theorem hJ {F:Fence}{n:Nat}{c:Code}{Q':Exit→Act→World→Prop}(h:qR F n P c Q a w)(hq:∀e a w,Q e a w→Q' e a w):qR F n P c Q' a w :=
 fun b k cs hro hb hr=>let ⟨e,a',w',q,r⟩:=h b k cs hro hb hr; (by grind)
def qW (P:Program)(loop:Nat→Code→St→Tr Out):Prop := ∀fn c s out,(loop fn (.loop c) s).get=some out→aC P c s out
end
end Kz
