/- Part 7 of the texts under the proof: an abstract interpreter,the summaries of functions,plain laws. -/
import Derived.Test.YteikjjgonhlndaaGreatDoorR6
set_option linter.unusedSectionVars false
set_option linter.unusedVariables false
set_option linter.unusedSimpArgs false
set_option linter.unnecessarySimpa false
section
namespace Kz
open Go Go.RowKit
set_option maxRecDepth 100000
set_option maxHeartbeats 1000000
def offI (d:Nat):Int:=[8,9,1,-7,-8,-9,-1,7].getD d 0
def chainB (d:Nat):Nat→List Nat→Bool
  | _,[]=>true
  | a,s::l=>decide ((s:Int)=a+offI d)&&decide (s < 64)&&chainB d s l
noncomputable def stepR (a b:Int):Int:=wr .i64 (wr .i64 (8 * N193 (wr .i64 (wr .i64 (b.tdiv 8) - wr .i64 (a.tdiv 8))))+N193 (wr .i64 (b.tmod 8 - a.tmod 8)))
theorem chain_fin:∀ (a:Fin 64) (d:Fin 8),(chainB d.val a.val (ray a.val d.val)&&(ray a.val d.val).all fun b=>decide (stepR a.val b=offI d.val))=true:=by decide +kernel
theorem lp165 (p:Pos) {d:Nat} (hd:d < 8) {c:Nat}:∀ (l:List Nat) (a:Nat),chainB d a l=true→a < 64→c ∈ l→l.length≤64→∃ r,itl (fun x=>bif okL165_1 c (offI d) p x then st165_1 c (offI d) p x else .bad) (l.length+1) (a+offI d)=some r∧(isL r=false ↔ ∀ pre post,l=pre++c::post→c ∉ pre→∀ s ∈ pre,N57 (p.board.getD s 0)=0)
  | [],_,_,_,h,_=>by cases h
  | s::l,a,h,ha,hc,hn=>by
    simp only [chainB,Bool.and_eq_true,decide_eq_true_eq] at h
    obtain ⟨⟨h1,h2⟩,h3⟩:=h
    rw [← h1]
    have hsc:(scale 1 (s:Int)).toNat=s:=by rw [scale1]; omega
    have hoff : -9≤offI d∧offI d≤9:=by
      have:∀ d:Fin 8,-9≤offI d.val∧offI d.val≤9:=by decide
      exact this ⟨d,hd⟩
    by_cases e:s=c
    · subst e
      refine ⟨.inr ((s:Int),false),?_,?_⟩
      · rw [itl]
        unfold okL165_1 st165_1
        simp
      · refine ⟨fun _ pre post hl hp s' hs' => ?_,fun _=>rfl⟩
        cases pre with
        | nil=>cases hs'
        | cons x pre =>
          simp only [List.cons_append,List.cons.injEq] at hl
          exact absurd (by rw [hl.1]; simp) hp
    · have hcl:c ∈ l:=by
        simp only [List.mem_cons] at hc
        rcases hc with hc | hc
        · exact absurd hc.symm e
        · exact hc
      have hne:((s:Int) != (c:Int))=true:=by simp; omega
      by_cases ho:N57 (p.board.getD s 0)=0
      · obtain ⟨r,q1,q2⟩:=lp165 p hd l s h3 h2 hcl (by simp at hn; omega)
        refine ⟨r,?_,?_⟩
        · rw [List.length_cons,itl]
          have:(bif okL165_1 c (offI d) p (s:Int) then st165_1 c (offI d) p (s:Int) else .bad)=.go ((s:Int)+offI d):=by
            unfold okL165_1 st165_1
            rw [hne,hsc,ho,wi64 (n:=(s:Int)+offI d) (by omega) (by omega),show (decide (0≤(s:Int))&&decide ((s:Int) < 64)&&true)=true by simp; omega]
            rfl
          rw [this]
          exact q1
        · rw [q2]
          constructor
          · intro hq pre post hl hp t ht
            cases pre with
            | nil=>cases ht
            | cons x pre =>
              simp only [List.cons_append,List.cons.injEq] at hl
              obtain ⟨rfl,hl⟩:=hl
              simp only [List.mem_cons] at ht
              rcases ht with rfl | ht
              · exact ho
              · exact hq pre post hl (fun hm=>hp (by simp [hm])) t ht
          · intro hq pre post hl hp t ht
            refine hq (s::pre) post (by rw [hl]; rfl) (fun hm => ?_) t (by simp [ht])
            simp only [List.mem_cons] at hm
            rcases hm with hm | hm
            · exact e hm.symm
            · exact hp hm
      · refine ⟨.inl (),?_,?_⟩
        · rw [List.length_cons,itl]
          have:(bif okL165_1 c (offI d) p (s:Int) then st165_1 c (offI d) p (s:Int) else .bad)=.out (.inl ()):=by
            unfold okL165_1 st165_1
            rw [hne,hsc,show (N57 (p.board.getD s 0) != 0)=true by simpa using ho,show (decide (0≤(s:Int))&&decide ((s:Int) < 64)&&true)=true by simp; omega]
            rfl
          rw [this]
        · constructor
          · intro h; cases h
          · intro hq
            obtain ⟨pre,post,hl,hp⟩:∃ pre post,s::l=pre++c::post∧c ∉ pre:=by
              have:∀ l:List Nat,c ∈ l→∃ pre post,l=pre++c::post∧c ∉ pre:=by
                intro l
                induction l with
                | nil=>intro h; cases h
                | cons y l ih =>
                  intro h
                  by_cases ey:y=c
                  · exact ⟨[],l,by rw [ey]; rfl,by simp⟩
                  · simp only [List.mem_cons] at h
                    rcases h with h | h
                    · exact absurd h.symm ey
                    · obtain ⟨pre,post,e1,e2⟩:=ih h
                      exact ⟨y::pre,post,by rw [e1]; rfl,by simp [e2]; omega⟩
              exact this _ hc
            have hs:s ∈ pre:=by
              cases pre with
              | nil =>
                simp only [List.nil_append,List.cons.injEq] at hl
                exact absurd hl.1 e
              | cons x pre =>
                simp only [List.cons_append,List.cons.injEq] at hl
                rw [hl.1]; simp
            exact absurd (hq pre post hl hp s hs) ho
theorem itl_more {X R:Type} {st:X→Stp X R}:∀ (n m:Nat) (x:X) (r:R),n≤m→itl st n x=some r→itl st m x=some r
  | 0,_,_,_,_,h=>by cases h
  | n+1,0,_,_,h,_=>by omega
  | n+1,m+1,x,r,hm,h=>by
    rw [itl] at h ⊢
    cases hs:st x with
    | go y=>rw [hs] at h; exact itl_more n m y r (by omega) h
    | out q=>rw [hs] at h; exact h
    | bad=>rw [hs] at h; cases h
theorem seen_sub {occ:BitVec 64} {c:Nat}:∀ {l:List Nat},c ∈ seen occ l→c ∈ l
  | [],h=>h
  | s::l,h=>by
    simp only [seen,List.mem_cons] at h
    rcases h with rfl | h
    · simp
    · cases ho:occ.getLsbD s with
      | true=>rw [ho] at h; cases h
      | false=>rw [ho] at h; exact List.mem_cons_of_mem _ (seen_sub h)
theorem mem_seen {occ:BitVec 64} {c:Nat}:∀ {l:List Nat},c ∈ l→(c ∈ seen occ l ↔ ∀ pre post,l=pre++c::post→c ∉ pre→∀ s ∈ pre,occ.getLsbD s=false)
  | [],h=>by cases h
  | s::l,h=>by
    by_cases e:s=c
    · subst e
      refine ⟨fun _ pre post hl hp t ht => ?_,fun _=>by simp [seen]⟩
      cases pre with
      | nil=>cases ht
      | cons x pre =>
        simp only [List.cons_append,List.cons.injEq] at hl
        exact absurd (by rw [hl.1]; simp) hp
    · have hcl:c ∈ l:=by
        simp only [List.mem_cons] at h
        rcases h with h | h
        · exact absurd h.symm e
        · exact h
      have ih:=mem_seen (occ:=occ) hcl
      have hx:c ∈ seen occ (s::l) ↔ occ.getLsbD s=false∧c ∈ seen occ l:=by
        simp only [seen,List.mem_cons]
        cases occ.getLsbD s with
        | true=>simp; omega
        | false=>simp; omega
      rw [hx,ih]
      constructor
      · rintro ⟨h1,h2⟩ pre post hl hp t ht
        cases pre with
        | nil=>cases ht
        | cons x pre =>
          simp only [List.cons_append,List.cons.injEq] at hl
          obtain ⟨rfl,hl⟩:=hl
          simp only [List.mem_cons] at ht
          rcases ht with rfl | ht
          · exact h1
          · exact h2 pre post hl (fun hm=>hp (by simp [hm])) t ht
      · intro hq
        have ex:∀ l:List Nat,c ∈ l→∃ pre post,l=pre++c::post∧c ∉ pre:=by
          intro l
          induction l with
          | nil=>intro h; cases h
          | cons y l ih =>
            intro h
            by_cases ey:y=c
            · exact ⟨[],l,by rw [ey]; rfl,by simp⟩
            · simp only [List.mem_cons] at h
              rcases h with h | h
              · exact absurd h.symm ey
              · obtain ⟨pre,post,e1,e2⟩:=ih h
                exact ⟨y::pre,post,by rw [e1]; rfl,by simp [e2]; omega⟩
        refine ⟨?_,fun pre post hl hp t ht => ?_⟩
        · obtain ⟨pre,post,e1,e2⟩:=ex l hcl
          exact hq (s::pre) post (by rw [e1]; rfl) (by simp [e2]; omega) s (by simp)
        · exact hq (s::pre) post (by rw [hl]; rfl) (by simp [hp]; omega) t (by simp [ht])
theorem N165_seen (p:Pos) {occ:BitVec 64} (hocc:∀ s,s < 64→(occ.getLsbD s=false ↔ N57 (p.board.getD s 0)=0)) {a d c:Nat} (ha:a < 64) (hd:d < 8) (hc:c ∈ ray a d):ok165 p a c=true∧N165 p a c=decide (c ∈ seen occ (ray a d)):=by
  have f1:=chain_fin ⟨a,ha⟩ ⟨d,hd⟩
  simp only [Bool.and_eq_true,List.all_eq_true,decide_eq_true_eq] at f1
  obtain ⟨f1,f2⟩:=f1
  obtain ⟨_,f3,_⟩:=ray_fin ⟨a,ha⟩ ⟨d,hd⟩
  simp only at f3
  have hstep:=f2 c hc
  unfold stepR at hstep
  have hlen:(ray a d).length≤8:=by
    have:∀ n a,(rayL n a d).length≤n:=by
      intro n
      induction n with
      | zero=>intro a; simp [rayL]
      | succ n ih =>
        intro a
        unfold rayL
        cases nxt a d with
        | none=>simp
        | some s=>simpa using ih s
    exact this 8 a
  have lt64:∀ s ∈ ray a d,s < 64:=by
    intro s hs
    obtain ⟨pre,post,e⟩:=List.append_of_mem hs
    rw [e] at f3
    exact (tails_at f3).2.1
  obtain ⟨r,q1,q2⟩:=lp165 p hd (ray a d) a f1 ha hc (by omega)
  have hoff : -9≤offI d∧offI d≤9:=by
    have:∀ d:Fin 8,-9≤offI d.val∧offI d.val≤9:=by decide
    exact this ⟨d,hd⟩
  have q3:=itl_more _ many _ _ (by unfold many; omega) q1
  have hl:lp165_1 c (offI d) p (a+offI d)=some r:=q3
  have hres:isL r=!decide (c ∈ seen occ (ray a d)):=by
    have key:isL r=false ↔ c ∈ seen occ (ray a d):=by
      rw [q2,mem_seen hc]
      constructor
      · intro h pre post e hp s hs
        exact (hocc s (lt64 s (by rw [e]; simp [hs]))).2 (h pre post e hp s hs)
      · intro h pre post e hp s hs
        exact (hocc s (lt64 s (by rw [e]; simp [hs]))).1 (h pre post e hp s hs)
    cases hb:isL r with
    | false=>rw [decide_eq_true (key.1 hb)]; rfl
    | true =>
      rw [decide_eq_false (fun h=>by rw [key.2 h] at hb; cases hb)]; rfl
  constructor
  · unfold ok165
    rw [hstep,wi64 (n:=(a:Int)+offI d) (by omega) (by omega),show (Pos.mk p.variant p.board p.promoted p.pockets p.turn p.rooks p.passing p.checks p.half p.full)=p from rfl,hl]
    cases hb:isL ((some r).getD default) <;> rfl
  · unfold N165
    rw [hstep,wi64 (n:=(a:Int)+offI d) (by omega) (by omega),show (Pos.mk p.variant p.board p.promoted p.pockets p.turn p.rooks p.passing p.checks p.half p.full)=p from rfl,hl,Option.getD_some,hres]
    cases decide (c ∈ seen occ (ray a d)) <;> rfl
noncomputable def upR (b c:Int):Int:=wr IntKind.i64 (wr IntKind.i64 (c.tdiv 8) - wr IntKind.i64 (b.tdiv 8))
noncomputable def asR (b c:Int):Int:=wr IntKind.i64 (c.tmod 8 - b.tmod 8)
noncomputable def hitsF (k col b c:Int) (cl:Bool):Bool:=(bif N163 (upR b c)==N163 (asR b c) then (bif k==1 then (bif col==0 then (bif upR b c==1 then (N163 (asR b c)==1) else (false)) else (bif upR b c == -1 then (N163 (asR b c)==1) else (false))) else (bif k==2 then (bif N163 (upR b c)==1 then (bif N163 (asR b c)==2 then (true) else (bif N163 (upR b c)==2 then (N163 (asR b c)==1) else (false))) else (bif N163 (upR b c)==2 then (N163 (asR b c)==1) else (false))) else (bif k==6 then (N164 b c) else (bif k==4 then (bif eqOut BinOp.neq ((upR b c==0)==(N163 (asR b c)==0)) then (cl) else (false)) else (bif k==3 then (bif decide (N163 (asR b c) > 0) then (cl) else (false)) else (bif k==5 then (bif eqOut BinOp.neq ((upR b c==0)==(N163 (asR b c)==0)) then (cl) else (bif decide (N163 (asR b c) > 0) then (cl) else (false))) else (false))))))) else (bif k==1 then (bif col==0 then (bif upR b c==1 then (N163 (asR b c)==1) else (false)) else (bif upR b c == -1 then (N163 (asR b c)==1) else (false))) else (bif k==2 then (bif N163 (upR b c)==1 then (bif N163 (asR b c)==2 then (true) else (bif N163 (upR b c)==2 then (N163 (asR b c)==1) else (false))) else (bif N163 (upR b c)==2 then (N163 (asR b c)==1) else (false))) else (bif k==6 then (N164 b c) else (bif k==4 then (bif eqOut BinOp.neq ((upR b c==0)==(N163 (asR b c)==0)) then (cl) else (false)) else (bif k==3 then (false) else (bif k==5 then (bif eqOut BinOp.neq ((upR b c==0)==(N163 (asR b c)==0)) then (cl) else (false)) else (false))))))))
theorem N116_eq (p:Pos) (b c:Int):N116 p b c=hitsF (N57 (p.board.getD (scale 1 b).toNat 0)) (N162 (p.board.getD (scale 1 b).toNat 0)) b c (N165 p b c):=by kernel_rfl
def strB (a b:Nat):Bool:=decide (b ∈ ray a 0) || decide (b ∈ ray a 2) || decide (b ∈ ray a 4) || decide (b ∈ ray a 6)
def acrB (a b:Nat):Bool:=decide (b ∈ ray a 1) || decide (b ∈ ray a 3) || decide (b ∈ ray a 5) || decide (b ∈ ray a 7)
theorem hits_fin:∀ a b:Fin 64,hitsF 2 0 a.val b.val false=(N197 a.val).getLsbD b.val∧hitsF 6 0 a.val b.val false=(N155 a.val).getLsbD b.val ∧
    hitsF 4 0 a.val b.val true=strB a.val b.val∧hitsF 4 0 a.val b.val false=false ∧
    hitsF 3 0 a.val b.val true=acrB a.val b.val∧hitsF 3 0 a.val b.val false=false ∧
    hitsF 5 0 a.val b.val true=(strB a.val b.val || acrB a.val b.val)∧hitsF 5 0 a.val b.val false=false:=by decide +kernel
theorem col_free {k col a b:Int} {cl:Bool} (h1:(k==1)=false):hitsF k col a b cl=hitsF k 0 a b cl:=by
  unfold hitsF
  rw [h1]
  rfl
section
variable {p:Pos} {occ:BitVec 64} (hocc:∀ s,s < 64→(occ.getLsbD s=false ↔ N57 (p.board.getD s 0)=0)) {a b:Nat} (ha:a < 64) (hb:b < 64)
include hocc ha hb
theorem dir_bit {d:Nat} (hd:d < 8):(N214 a d occ).getLsbD b=(decide (b ∈ ray a d)&&N165 p a b):=by
  rw [N214_seen ha hd occ hb]
  by_cases h:b ∈ ray a d
  · rw [(N165_seen p hocc ha hd h).2]
    simp [h]
  · have:b ∉ seen occ (ray a d):=fun hs=>h (seen_sub hs)
    simp [h,this]
theorem rook_bit:(N199 a occ).getLsbD b=(strB a b&&N165 p a b):=by
  unfold N199 strB
  have h0:=dir_bit hocc ha hb (d:=0) (by decide)
  have h2:=dir_bit hocc ha hb (d:=2) (by decide)
  have h4:=dir_bit hocc ha hb (d:=4) (by decide)
  have h6:=dir_bit hocc ha hb (d:=6) (by decide)
  rw [BitVec.getLsbD_or,BitVec.getLsbD_or,BitVec.getLsbD_or,BitVec.getLsbD_or]
  rw [show (N214 a 0 occ).getLsbD b=_ from h0,show (N214 a 2 occ).getLsbD b=_ from h2,show (N214 a 4 occ).getLsbD b=_ from h4,show (N214 a 6 occ).getLsbD b=_ from h6]
  simp only [BitVec.getLsbD_zero,Bool.false_or]
  cases decide (b ∈ ray a 0) <;> cases decide (b ∈ ray a 2) <;> cases decide (b ∈ ray a 4) <;> cases decide (b ∈ ray a 6) <;> cases N165 p a b <;> rfl
theorem bishop_bit:(N198 a occ).getLsbD b=(acrB a b&&N165 p a b):=by
  unfold N198 acrB
  have h0:=dir_bit hocc ha hb (d:=1) (by decide)
  have h2:=dir_bit hocc ha hb (d:=3) (by decide)
  have h4:=dir_bit hocc ha hb (d:=5) (by decide)
  have h6:=dir_bit hocc ha hb (d:=7) (by decide)
  rw [BitVec.getLsbD_or,BitVec.getLsbD_or,BitVec.getLsbD_or,BitVec.getLsbD_or]
  rw [show (N214 a 1 occ).getLsbD b=_ from h0,show (N214 a 3 occ).getLsbD b=_ from h2,show (N214 a 5 occ).getLsbD b=_ from h4,show (N214 a 7 occ).getLsbD b=_ from h6]
  simp only [BitVec.getLsbD_zero,Bool.false_or]
  cases decide (b ∈ ray a 1) <;> cases decide (b ∈ ray a 3) <;> cases decide (b ∈ ray a 5) <;> cases decide (b ∈ ray a 7) <;> cases N165 p a b <;> rfl
theorem queen_bit:(N200 a occ).getLsbD b=((strB a b || acrB a b)&&N165 p a b):=by
  unfold N200
  rw [BitVec.getLsbD_or,rook_bit hocc ha hb,bishop_bit hocc ha hb]
  cases strB a b <;> cases acrB a b <;> cases N165 p a b <;> rfl
noncomputable def hitBits (k:Int) (a:Nat) (occ:BitVec 64):BitVec 64:=bif k==2 then N197 a else bif k==3 then N198 a occ else bif k==4 then N199 a occ else bif k==5 then N200 a occ else N155 a
theorem hits_bit (hk:2≤N57 (p.board.getD a 0)∧N57 (p.board.getD a 0)≤6):N116 p a b=(hitBits (N57 (p.board.getD a 0)) a occ).getLsbD b:=by
  obtain ⟨f2,f6,f4,f4',f3,f3',f5,f5'⟩:=hits_fin ⟨a,ha⟩ ⟨b,hb⟩
  simp only at f2 f6 f4 f4' f3 f3' f5 f5'
  have hr:=rook_bit hocc ha hb
  have hbi:=bishop_bit hocc ha hb
  have hqu:=queen_bit hocc ha hb
  rw [N116_eq,show (scale 1 (a:Int)).toNat=a by unfold scale; simp]
  generalize N162 (p.board.getD a 0)=col
  generalize N57 (p.board.getD a 0)=k at hk
  rw [col_free (by simp; omega)]
  have hk':k=2∨k=3∨k=4∨k=5∨k=6:=by omega
  rcases hk' with rfl | rfl | rfl | rfl | rfl
  · show hitsF 2 0 a b (N165 p a b)=(N197 a).getLsbD b
    rw [← f2]
    rfl
  · show hitsF 3 0 a b (N165 p a b)=(N198 a occ).getLsbD b
    rw [hbi]
    cases N165 p a b
    · rw [f3',Bool.and_false]
    · rw [f3,Bool.and_true]
  · show hitsF 4 0 a b (N165 p a b)=(N199 a occ).getLsbD b
    rw [hr]
    cases N165 p a b
    · rw [f4',Bool.and_false]
    · rw [f4,Bool.and_true]
  · show hitsF 5 0 a b (N165 p a b)=(N200 a occ).getLsbD b
    rw [hqu]
    cases N165 p a b
    · rw [f5',Bool.and_false]
    · rw [f5,Bool.and_true]
  · show hitsF 6 0 a b (N165 p a b)=(N155 a).getLsbD b
    rw [← f6]
    rfl
end
end Kz
end
section
namespace Kz
open Go Go.RowKit
set_option maxRecDepth 100000
set_option maxHeartbeats 1000000
set_option linter.unusedSectionVars false
theorem men_fin:∀ v:Fin 256,N91 v.val=N57 v.val∧(tOf 0 0 v.val=(!(N57 v.val==0)&&N162 v.val==0))∧(tOf 1 0 v.val=(!(N57 v.val==0)&&N162 v.val==1))∧((tOf 0 0 v.val || tOf 1 0 v.val)=!(N57 v.val==0))∧(N57 v.val=0∨N57 v.val=1∨(2≤N57 v.val∧N57 v.val≤6)):=by decide +kernel
theorem men' {v:Int} (h0:0≤v) (h1:v≤255):N91 v=N57 v∧(tOf 0 0 v=(!(N57 v==0)&&N162 v==0))∧(tOf 1 0 v=(!(N57 v==0)&&N162 v==1))∧((tOf 0 0 v || tOf 1 0 v)=!(N57 v==0))∧(N57 v=0∨N57 v=1∨(2≤N57 v∧N57 v≤6)):=by
  obtain ⟨n,rfl⟩:=Int.eq_ofNat_of_zero_le h0
  exact men_fin ⟨n,by omega⟩
section
variable {p:Pos} (hp:PosIn p) (ht:p.turn=0∨p.turn=1)
include hp ht
theorem N114_bit {c:Int} (hc:c=0∨c=1) {i:Nat} (hi:i < 64):N114 p i c=(N66 p c 0).getLsbD i:=by
  obtain ⟨b0,b1⟩:=bd_in hp i
  obtain ⟨_,m0,m1,_⟩:=men' b0 b1
  rw [N66_bit _ _ _ hi]
  unfold N114 N61
  rw [show (Pos.mk p.variant p.board p.promoted p.pockets p.turn p.rooks p.passing p.checks p.half p.full)=p from rfl,show (scale 1 (i:Int)).toNat=i by unfold scale; simp]
  rcases hc with rfl | rfl
  · rw [m0]; cases N57 (p.board.getD i 0)==0 <;> rfl
  · rw [m1]; cases N57 (p.board.getD i 0)==0 <;> rfl
theorem oth_eq:oth p=N66 p (1 - p.turn) 0:=by
  unfold oth
  rw [wu8 (by omega) (by omega)]
theorem occ_iff {s:Nat} (hs:s < 64):(own p|||oth p).getLsbD s=false ↔ N57 (p.board.getD s 0)=0:=by
  obtain ⟨b0,b1⟩:=bd_in hp s
  obtain ⟨_,_,_,m,_⟩:=men' b0 b1
  rw [BitVec.getLsbD_or,oth_eq hp ht]
  unfold own
  rw [N66_bit _ _ _ hs,N66_bit _ _ _ hs]
  have e:(tOf p.turn 0 (p.board.getD s 0) || tOf (1 - p.turn) 0 (p.board.getD s 0))=!(N57 (p.board.getD s 0)==0):=by
    rw [← m]
    rcases ht with h | h <;> rw [h]
    · rfl
    · exact Bool.or_comm _ _
  rw [e]
  simp
theorem N61_bit {s:Nat} (hs:s < 64):N61 p s=!(own p|||oth p).getLsbD s:=by
  have h:=occ_iff hp ht hs
  unfold N61
  rw [show (scale 1 (s:Int)).toNat=s by unfold scale; simp]
  cases hb:(own p|||oth p).getLsbD s with
  | false=>rw [h.1 hb]; rfl
  | true =>
    have:N57 (p.board.getD s 0)≠0:=fun e=>by rw [h.2 e] at hb; cases hb
    simpa using this
theorem may_bit {f t:Nat} (hf:f < 64) (h64:t < 64) (hown:(own p).getLsbD f=true) (hk:N57 (p.board.getD f 0)≠1):N56 p f t=(N179 (p,own p,oth p) f).getLsbD t:=by
  obtain ⟨b0,b1⟩:=bd_in hp f
  obtain ⟨m91,_,_,mm,mk⟩:=men' b0 b1
  have e1:=N114_bit hp ht ht hf
  have e2:=N114_bit hp ht ht h64
  have ho:N66 p p.turn 0=own p:=rfl
  rw [ho] at e1 e2
  rw [hown] at e1
  have hocc:=fun s hs=>occ_iff hp ht (s:=s) hs
  have hne:N57 (p.board.getD f 0)≠0:=fun e=>by
    have:=(occ_iff hp ht hf).2 e
    rw [BitVec.getLsbD_or,hown] at this
    cases this
  have h26:2≤N57 (p.board.getD f 0)∧N57 (p.board.getD f 0)≤6:=by omega
  have hit:=hits_bit (p:=p) (occ:=own p|||oth p) hocc hf h64 h26
  have emp:=N61_bit hp ht h64
  unfold N56 N179
  dsimp only
  rw [e1,e2,show (scale 1 (f:Int)).toNat=f by unfold scale; simp,m91,hit,emp]
  unfold hitBits
  have hft:((f:Int)==(t:Int))=decide (f=t):=by
    rw [Bool.eq_iff_iff]; simp; omega
  rw [hft]
  generalize N57 (p.board.getD f 0)=k at *
  have hk':k=2∨k=3∨k=4∨k=5∨k=6:=by omega
  by_cases hts:f=t
  · subst hts
    rw [decide_eq_true rfl]
    have hz:∀ X:BitVec 64,(X &&& ~~~own p).getLsbD f=false:=fun X=>by
      rw [BitVec.getLsbD_and,BitVec.getLsbD_not,hown]; simp
    rcases hk' with rfl | rfl | rfl | rfl | rfl
    · exact (hz _).symm
    · exact (hz _).symm
    · exact (hz _).symm
    · exact (hz _).symm
    · show false=(bif p.variant==3 then _ else _:BitVec 64).getLsbD f
      cases p.variant==3
      · exact (hz _).symm
      · exact (hz _).symm
  · rw [decide_eq_false hts]
    have hz:∀ X:BitVec 64,(X &&& ~~~own p).getLsbD t=(!(own p).getLsbD t&&X.getLsbD t):=fun X=>by
      rw [BitVec.getLsbD_and,BitVec.getLsbD_not,Bool.and_comm]; simp [h64]
    rcases hk' with rfl | rfl | rfl | rfl | rfl
    · show (bif (own p).getLsbD t then false else (N197 f).getLsbD t)=(N197 f &&& ~~~own p).getLsbD t
      rw [hz]; cases (own p).getLsbD t <;> rfl
    · show (bif (own p).getLsbD t then false else (N198 f (own p|||oth p)).getLsbD t)=(N198 f (own p|||oth p) &&& ~~~own p).getLsbD t
      rw [hz]; cases (own p).getLsbD t <;> rfl
    · show (bif (own p).getLsbD t then false else (N199 f (own p|||oth p)).getLsbD t)=(N199 f (own p|||oth p) &&& ~~~own p).getLsbD t
      rw [hz]; cases (own p).getLsbD t <;> rfl
    · show (bif (own p).getLsbD t then false else (N200 f (own p|||oth p)).getLsbD t)=(N200 f (own p|||oth p) &&& ~~~own p).getLsbD t
      rw [hz]; cases (own p).getLsbD t <;> rfl
    · show (bif (own p).getLsbD t then false else (bif (N155 f).getLsbD t then (bif p.variant != 3 then true else !(own p|||oth p).getLsbD t) else false))=(bif p.variant==3 then N155 f &&& ~~~oth p &&& ~~~own p else N155 f &&& ~~~own p).getLsbD t
      rw [BitVec.getLsbD_or]
      by_cases hv:p.variant=3
      · rw [show (p.variant != 3)=false by simp [hv],show (p.variant==3)=true by simp [hv]]
        show _=(N155 f &&& ~~~oth p &&& ~~~own p).getLsbD t
        rw [hz,BitVec.getLsbD_and,BitVec.getLsbD_not]
        simp only [h64,decide_true,Bool.true_and,cond_false]
        cases (own p).getLsbD t <;> cases (oth p).getLsbD t <;> cases (N155 f).getLsbD t <;> rfl
      · rw [show (p.variant != 3)=true by simpa using hv,show (p.variant==3)=false by simpa using hv]
        show _=(N155 f &&& ~~~own p).getLsbD t
        rw [hz]
        cases (own p).getLsbD t <;> cases (N155 f).getLsbD t <;> rfl
end
theorem bit_test (x:BitVec 64) {k:Nat} (hk:k < 64):(x >>> k&&&1#64==1#64)=x.getLsbD k:=by
  have h:(x >>> k&&&1#64).toNat=(x.getLsbD k).toNat:=by
    rw [BitVec.toNat_and,BitVec.toNat_ushiftRight,Nat.shiftRight_eq_div_pow,show (1#64).toNat=2 ^ 1 - 1 from rfl,Nat.and_two_pow_sub_one_eq_mod,BitVec.getLsbD,Nat.testBit_eq_decide_div_mod_eq]
    have:=Nat.mod_two_eq_zero_or_one (x.toNat / 2 ^ k)
    rcases this with h | h
    · rw [show (2:Nat) ^ 1=2 from rfl,h]; rfl
    · rw [show (2:Nat) ^ 1=2 from rfl,h]; rfl
  cases hb:x.getLsbD k with
  | true =>
    rw [hb] at h
    have:x >>> k&&&1#64=1#64:=BitVec.eq_of_toNat_eq h
    rw [this]; rfl
  | false =>
    rw [hb] at h
    have:x >>> k&&&1#64=0#64:=BitVec.eq_of_toNat_eq h
    rw [this]; rfl
theorem pawn_fin:∀ (c:Fin 2) (f t:Fin 64),hitsF 1 c.val f.val t.val false=(N107 c.val f.val).getLsbD t.val:=by decide +kernel
theorem rank_fin:∀ (c:Fin 2) (f:Fin 64),N201 c.val f.val=N58 c.val f.val∧(N201 c.val f.val≠7→0≤N92 c.val f.val∧N92 c.val f.val < 64)∧N92 c.val f.val=f.val+N62 c.val∧(N201 c.val f.val=1∨N201 c.val f.val=0→N92 c.val (N92 c.val f.val)=f.val+2 * N62 c.val∧0≤N92 c.val (N92 c.val f.val)∧N92 c.val (N92 c.val f.val) < 64)∧(N201 c.val f.val=7→N92 c.val f.val < 0∨64≤N92 c.val f.val)∧(N62 c.val=8∨N62 c.val = -8):=by decide +kernel
theorem aside_fin:∀ (c:Fin 2) (f t:Fin 64),(N107 c.val f.val).getLsbD t.val=true→(t.val:Int)≠f.val+N62 c.val∧(t.val:Int)≠f.val+2 * N62 c.val:=by decide +kernel
theorem bit_at {n:Int} (h0:0≤n) (h1:n < 64) {t:Nat} (ht:t < 64):(1#64 <<< (BitVec.ofInt 64 n).toNat).getLsbD t=decide ((t:Int)=n):=by
  rw [one_bit ht,ofInt_nat h0 (by omega),Bool.eq_iff_iff]
  simp
  omega
section
variable {p:Pos} (hp:PosIn p) (ht:p.turn=0∨p.turn=1)
include hp ht
theorem pawn_may {f t:Nat} (hf:f < 64) (h64:t < 64) (hown:(own p).getLsbD f=true) (hk:N57 (p.board.getD f 0)=1):N56 p f t=(N179 (p,own p,oth p) f).getLsbD t:=by
  obtain ⟨b0,b1⟩:=bd_in hp f
  obtain ⟨m91,m0,m1,_,_⟩:=men' b0 b1
  have e1:=N114_bit hp ht ht hf
  have e2:=N114_bit hp ht ht h64
  have ho:N66 p p.turn 0=own p:=rfl
  rw [ho] at e1 e2
  rw [hown] at e1
  have hcol:N162 (p.board.getD f 0)=p.turn:=by
    have:tOf p.turn 0 (p.board.getD f 0)=true:=by
      rw [← N66_bit p p.turn 0 hf]; exact hown
    rcases ht with h | h
    · rw [h,m0] at this
      rw [h]
      simp only [Bool.and_eq_true,beq_iff_eq] at this
      exact this.2
    · rw [h,m1] at this
      rw [h]
      simp only [Bool.and_eq_true,beq_iff_eq] at this
      exact this.2
  have w1:wr .u8 (1 - p.turn)=1 - p.turn:=wu8 (by omega) (by omega)
  have e3:N114 p t (wr .u8 (1 - p.turn))=(oth p).getLsbD t:=by
    rw [w1,N114_bit hp ht (by omega) h64,oth_eq hp ht]
  have hsf:(scale 1 (f:Int)).toNat=f:=by unfold scale; simp
  have emp:=fun s hs=>N61_bit hp ht (s:=s) hs
  obtain ⟨c,hc⟩:∃ c:Fin 2,p.turn=c.val:=by
    rcases ht with h | h
    · exact ⟨0,h⟩
    · exact ⟨1,h⟩
  have hat:=pawn_fin c ⟨f,hf⟩ ⟨t,h64⟩
  obtain ⟨r1,r2,r3,r4,r5,r6⟩:=rank_fin c ⟨f,hf⟩
  have hz:=aside_fin c ⟨f,hf⟩ ⟨t,h64⟩
  simp only at hat r1 r2 r3 r4 r5 r6 hz
  rw [← hc] at hat r1 r2 r3 r4 r5 r6 hz
  have hA:N116 p f t=(N107 p.turn f).getLsbD t:=by
    rw [N116_eq,hsf,hk,hcol,← hat]
    rfl
  have p0:=hp.p0
  have p1:=hp.p1
  have wp:wr .i64 p.passing=p.passing:=wi64 (by omega) (by omega)
  have hP:(N208 (p,own p,oth p)).getLsbD t=(p.passing==(t:Int)):=by
    unfold N208
    refine c_ind (P:=fun x:BitVec 64=>x.getLsbD t=_) (fun h => ?_) fun h=>c_ind (P:=fun x:BitVec 64=>x.getLsbD t=_) (fun h2 => ?_) fun h2 => ?_
    · have h:p.passing < 0:=by simpa using h
      rw [show (p.passing==(t:Int))=false by simp; omega]; simp
    · have h2:p.passing ≥ 64:=by simpa using h2
      rw [show (p.passing==(t:Int))=false by simp; omega]; simp
    · have h:0≤p.passing:=by simpa using h
      have h2:p.passing < 64:=by simpa using h2
      show (1#64 <<< (BitVec.ofInt 64 p.passing).toNat).getLsbD t=_
      rw [bit_at h h2 h64,Bool.eq_iff_iff]
      simp
      omega
  unfold N56 N179
  dsimp only
  rw [e1,e2,hsf,m91,hk]
  show (bif (f:Int)==(t:Int) then false else bif (own p).getLsbD t then false else N115 p f t)=(N196 (p,own p,oth p) f &&& ~~~own p).getLsbD t
  rw [BitVec.getLsbD_and,BitVec.getLsbD_not]
  by_cases hft:f=t
  · subst hft
    rw [hown]; simp
  · rw [show ((f:Int)==(t:Int))=false by simp; omega,cond_false]
    cases hW:(own p).getLsbD t with
    | true=>simp
    | false =>
      simp only [cond_false,h64,decide_true,Bool.not_false,Bool.and_true]
      have hoc:(own p|||oth p).getLsbD t=(oth p).getLsbD t:=by rw [BitVec.getLsbD_or,hW,Bool.false_or]
      unfold N115 N196
      dsimp only
      rw [hA,e3,wp,← r1]
      have wup:wr .i64 ((f:Int)+N62 p.turn)=f+N62 p.turn:=wi64 (by omega) (by omega)
      have wup2:wr .i64 (2 * N62 p.turn)=2 * N62 p.turn:=wi64 (by omega) (by omega)
      have wup3:wr .i64 ((f:Int)+2 * N62 p.turn)=f+2 * N62 p.turn:=wi64 (by omega) (by omega)
      rw [wup2,wup,wup3,show (Pos.mk p.variant p.board p.promoted p.pockets p.turn p.rooks p.passing p.checks p.half p.full,own p,oth p)=(p,own p,oth p) from rfl]
      have hatt:∀ X:BitVec 64,X=N107 p.turn f&&&(oth p|||N208 (p,own p,oth p))→X.getLsbD t=((N107 p.turn f).getLsbD t&&((oth p).getLsbD t || (p.passing==(t:Int)))):=fun X hX=>by
        rw [hX,BitVec.getLsbD_and,BitVec.getLsbD_or,hP]
      generalize hXX:N107 p.turn f&&&(oth p|||N208 (p,own p,oth p))=X at *
      have hatt:=hatt X rfl
      have hpass:(p.passing==(t:Int))=((p.passing:Int)==t):=rfl
      generalize (N107 p.turn f).getLsbD t=A at *
      by_cases h7:N201 p.turn f=7
      · rw [h7]
        have:=r5 h7
        rw [show ((7:Int)==7)=true from rfl,cond_true,hatt,emp t h64,hoc]
        cases A
        · rw [show ((t:Int)==(f:Int)+N62 p.turn)=false by simp; omega]
          cases ((t:Int)==(f:Int)+2 * N62 p.turn) <;> rfl
        · cases (oth p).getLsbD t <;> cases (p.passing==(t:Int)) <;> rfl
      · obtain ⟨a0,a1⟩:=r2 h7
        rw [show (N201 p.turn f==7)=false by simpa using h7,cond_false,ofInt_nat a0 (by omega),bit_test _ (by omega)]
        obtain ⟨s,hs⟩:=Int.eq_ofNat_of_zero_le a0
        have hs64:s < 64:=by omega
        rw [show (N92 p.turn f).toNat=s by omega,show (f:Int)+N62 p.turn=(s:Int) by omega,emp s hs64,emp t h64]
        have hb1:(1#64 <<< s).getLsbD t=((t:Int)==(s:Int)):=by
          rw [one_bit h64,Bool.eq_iff_iff]; simp; omega
        have hb2:(N201 p.turn f=1∨N201 p.turn f=0)→(1#64 <<< (BitVec.ofInt 64 (N92 p.turn (N92 p.turn f))).toNat).getLsbD t=((t:Int)==(f:Int)+2 * N62 p.turn):=fun h=>by
          obtain ⟨c1,c2,c3⟩:=r4 h
          rw [bit_at c2 c3 h64,c1,Bool.eq_iff_iff]
          simp
        generalize 1#64 <<< (BitVec.ofInt 64 (N92 p.turn (N92 p.turn f))).toNat=Y at hb2 ⊢
        have q1:((t:Int)==(s:Int))=true→A=false∧(own p|||oth p).getLsbD t=(own p|||oth p).getLsbD s:=fun h=>by
          have h:(t:Int)=s:=by simpa using h
          refine ⟨?_,by rw [show t=s by omega]⟩
          cases hA':A with
          | false=>rfl
          | true=>exact absurd (by omega) (hz hA').1
        have q2:((t:Int)==(f:Int)+2 * N62 p.turn)=true→A=false:=fun h=>by
          have h:(t:Int)=f+2 * N62 p.turn:=by simpa using h
          cases hA':A with
          | false=>rfl
          | true=>exact absurd h (hz hA').2
        generalize ((t:Int)==(s:Int))=u at *
        generalize ((t:Int)==(f:Int)+2 * N62 p.turn)=u2 at *
        have rhs1:(X|||1#64 <<< s).getLsbD t=(X.getLsbD t || u):=by rw [BitVec.getLsbD_or,hb1]
        have rhs2:(N201 p.turn f=1∨N201 p.turn f=0)→(X|||1#64 <<< s|||Y &&& ~~~(own p|||oth p)).getLsbD t=(X.getLsbD t || u || (u2&&!(own p|||oth p).getLsbD t)):=fun h=>by
          rw [BitVec.getLsbD_or,BitVec.getLsbD_or,BitVec.getLsbD_and,BitVec.getLsbD_not,hb1,hb2 h]
          simp only [h64,decide_true,Bool.true_and]
        generalize (own p|||oth p).getLsbD t=ot at *
        generalize (own p|||oth p).getLsbD s=os at *
        generalize (oth p).getLsbD t=O at *
        generalize (p.passing==(t:Int))=P at *
        by_cases g1:N201 p.turn f=1
        · rw [show (N201 p.turn f==1)=true by simpa using g1]
          simp only [cond_true]
          cases os
          · rw [cond_false,rhs2 (.inl g1),hatt]
            revert q1 q2
            cases A <;> cases u <;> cases u2 <;> cases ot <;> cases O <;> cases P <;> simp
          · rw [cond_true,hatt]
            revert q1 q2
            cases A <;> cases u <;> cases u2 <;> cases ot <;> cases O <;> cases P <;> simp
        · rw [show (N201 p.turn f==1)=false by simpa using g1]
          simp only [cond_false]
          by_cases g0:N201 p.turn f=0
          · rw [show (N201 p.turn f==0)=true by simpa using g0]
            simp only [cond_true]
            cases hv:(p.variant==7) <;> cases htn:(p.turn==0) <;> cases os <;> simp only [cond_true,cond_false,rhs1,rhs2 (.inr g0),hatt] <;> revert q1 q2 <;> cases A <;> cases u <;> cases u2 <;> cases ot <;> cases O <;> cases P <;> simp
          · rw [show (N201 p.turn f==0)=false by simpa using g0]
            simp only [cond_false]
            cases os
            · rw [cond_false,rhs1,hatt]
              revert q1 q2
              cases A <;> cases u <;> cases u2 <;> cases ot <;> cases O <;> cases P <;> simp
            · rw [cond_true,hatt]
              revert q1 q2
              cases A <;> cases u <;> cases u2 <;> cases ot <;> cases O <;> cases P <;> simp
end
theorem line_fin:∀ a b:Fin 64,(eqOut BinOp.neq ((upR a.val b.val==0)==(N163 (asR a.val b.val)==0))=true→strB a.val b.val=true)∧((N163 (upR a.val b.val)==N163 (asR a.val b.val))=true→decide (N163 (asR a.val b.val) > 0)=true→acrB a.val b.val=true):=by decide +kernel
section
variable {p:Pos} (hp:PosIn p) (ht:p.turn=0∨p.turn=1)
include hp ht
theorem t165 {a b:Nat} (ha:a < 64) (h:strB a b=true∨acrB a b=true):ok165 p a b=true:=by
  have hocc:=fun s hs=>occ_iff hp ht (s:=s) hs
  have:∃ d,d < 8∧b ∈ ray a d:=by
    unfold strB acrB at h
    simp only [Bool.or_eq_true,decide_eq_true_eq] at h
    rcases h with (((h | h) | h) | h) | (((h | h) | h) | h)
    · exact ⟨0,by decide,h⟩
    · exact ⟨2,by decide,h⟩
    · exact ⟨4,by decide,h⟩
    · exact ⟨6,by decide,h⟩
    · exact ⟨1,by decide,h⟩
    · exact ⟨3,by decide,h⟩
    · exact ⟨5,by decide,h⟩
    · exact ⟨7,by decide,h⟩
  obtain ⟨d,hd,hb⟩:=this
  exact (N165_seen p hocc ha hd hb).1
theorem t116 {a b:Nat} (ha:a < 64) (hb:b < 64):ok116 p a b=true:=by
  obtain ⟨l1,l2⟩:=line_fin ⟨a,ha⟩ ⟨b,hb⟩
  simp only [upR,asR] at l1 l2
  have k1:=fun h=>t165 hp ht ha (.inl (l1 h))
  have k2:=fun h h'=>t165 hp ht ha (.inr (l2 h h'))
  have ki:(decide (0≤(a:Int))&&decide ((a:Int) < Int.ofNat 64))=true:=by simp; omega
  unfold ok116
  refine a_true ki fun _=>c_true (fun e => ?_) fun e => ?_
  all_goals repeat' (first | with_reducible rfl | exact k1 (by assumption) | exact k2 (by assumption) (by assumption) | refine a_true ?_ (fun _ => ?_) | refine c_true (fun _ => ?_) (fun _ => ?_))
theorem t61 {b:Nat} (hb:b < 64):ok61 p b=true:=by
  unfold ok61
  simp
  omega
theorem t114 {b:Nat} (hb:b < 64) (c:Int):ok114 p b c=true:=by
  unfold ok114
  refine a_true (t61 hp ht hb) fun _=>c_true (fun _ => ?_) fun _=>rfl
  simp
  omega
theorem t115 {a b:Nat} (ha:a < 64) (hb:b < 64):ok115 p a b=true:=by
  obtain ⟨c,hc⟩:∃ c:Fin 2,p.turn=c.val:=by
    rcases ht with h | h
    · exact ⟨0,h⟩
    · exact ⟨1,h⟩
  obtain ⟨r1,r2,r3,r4,r5,r6⟩:=rank_fin c ⟨a,ha⟩
  simp only at r1 r2 r3 r4 r5 r6
  rw [← hc] at r1 r2 r3 r4 r5 r6
  have wup:wr .i64 ((a:Int)+N62 p.turn)=a+N62 p.turn:=wi64 (by omega) (by omega)
  have k1:=t116 hp ht ha hb
  have k2:=t114 hp ht hb (wr IntKind.u8 (1 - p.turn))
  have k3:=t61 hp ht hb
  have k4:N201 p.turn a≠7→ok61 p ((a:Int)+N62 p.turn)=true:=fun h=>by
    obtain ⟨c1,c2⟩:=r2 h
    obtain ⟨s,hs⟩:=Int.eq_ofNat_of_zero_le c1
    rw [← r3,hs]
    exact t61 hp ht (by omega)
  unfold ok115
  rw [wup,← r1]
  refine a_true k1 fun _=>c_true (fun _=>a_true k2 fun _=>rfl) fun _=>c_true (fun _=>a_true k3 fun _=>rfl) fun _=>c_true (fun h => ?_) fun _=>c_true (fun h => ?_) fun _=>rfl
  · have h1:N201 p.turn a=1:=by simpa using h
    have k5:=k4 (by omega)
    exact c_true (fun _=>a_true k5 fun _=>c_true (fun _=>a_true k3 fun _=>rfl) fun _=>rfl) fun _=>rfl
  · have h0:N201 p.turn a=0:=by simpa using h
    have k5:=k4 (by omega)
    exact c_true (fun _=>c_true (fun _=>c_true (fun _=>a_true k5 fun _=>c_true (fun _=>a_true k3 fun _=>rfl) fun _=>rfl) fun _=>rfl) fun _=>rfl) fun _=>rfl
theorem t56 {a b:Nat} (ha:a < 64) (hb:b < 64):ok56 p a b=true:=by
  have ki:(decide (0≤(a:Int))&&decide ((a:Int) < Int.ofNat 64))=true:=by simp; omega
  have k1:=t116 hp ht ha hb
  have k2:=t114 hp ht ha p.turn
  have k3:=t114 hp ht hb p.turn
  have k4:=t115 hp ht ha hb
  have k5:=t61 hp ht hb
  unfold ok56
  repeat' (first | with_reducible rfl | with_reducible exact ki | with_reducible exact k1 | with_reducible exact k2 | with_reducible exact k3 | with_reducible exact k4 | with_reducible exact k5 | refine a_true ?_ (fun _ => ?_) | refine c_true (fun _ => ?_) (fun _ => ?_))
end
noncomputable def mvsR (p:Pos) (a b:Nat):List Mv :=
  bif !N56 p a b then [] else bif N57 (p.board.getD a 0) != 1 then [⟨a,b,0,0,false⟩] else bif N58 p.turn b != 7 then [⟨a,b,0,0,false⟩] else (N59 p.variant).map fun k=>⟨a,b,k,0,false⟩
theorem mvsR_len (p:Pos) (a b:Nat):(mvsR p a b).length≤5:=by
  unfold mvsR
  refine c_ind (P:=fun l:List Mv=>l.length≤5) (fun _=>by simp) fun _=>c_ind (P:=fun l:List Mv=>l.length≤5) (fun _=>by simp) fun _=>c_ind (P:=fun l:List Mv=>l.length≤5) (fun _=>by simp) fun _ => ?_
  rw [List.length_map]
  unfold N59
  exact c_ind (P:=fun l:List Int=>l.length≤5) (fun _=>by simp) fun _=>c_ind (P:=fun l:List Int=>l.length≤5) (fun _=>by simp) fun _=>by simp
theorem lp26a (l:List Int) (p1 p2 p4 p5:Int) (p6:Bool) (p7:Pos) (p8:Nat) (m0:Mv) (out:List Mv) (hl:l.length≤5) (ho:out.length≤1000000) :
    ∃ r,lp26_4 p1 p2 l p4 p5 p6 p7 p8 (out,0,m0)=some r∧r.1=out++l.map fun k=>⟨m0.frm,m0.to,k,m0.drp,m0.cas⟩:=by
  refine lp_many (I:=fun x=>0≤x.2.1∧x.2.1≤(l.length:Int)∧x.1=out++(l.take x.2.1.toNat).map (fun k=>(⟨m0.frm,m0.to,k,m0.drp,m0.cas⟩:Mv))∧x.2.2.frm=m0.frm∧x.2.2.to=m0.to∧x.2.2.drp=m0.drp∧x.2.2.cas=m0.cas) (μ:=fun x=>((l.length:Int) - x.2.1).toNat) ?_ _ ⟨by simp,by simp,by simp,rfl,rfl,rfl,rfl⟩ (by simp; omega)
  rintro ⟨o,n,m⟩ ⟨h0,h1,h2,e1,e2,e3,e4⟩
  simp only at h0 h1 h2 e1 e2 e3 e4
  by_cases hc:n < l.length
  · have hlt:n.toNat < l.length:=by omega
    have hol:o.length≤1000005:=by
      rw [h2]; simp; omega
    refine ⟨c_true (fun _=>a_true (by simp [h0]; exact hc) fun _ => ?_) fun _=>rfl,c_ind (fun _ => ?_) fun h=>absurd h (by simpa using hc)⟩
    · simp; omega
    · rw [wi64 (n:=n+1) (by omega) (by omega)]
      refine ⟨⟨by show 0≤n+1; omega,by show n+1≤_; omega,?_,e1,e2,e3,e4⟩,by show ((l.length:Int) - (n+1)).toNat < ((l.length:Int) - n).toNat; omega⟩
      show o++[_]=out++(l.take (n+1).toNat).map _
      rw [show (n+1).toNat=n.toNat+1 by omega,List.take_succ_eq_append_getElem hlt,List.map_append,h2,List.append_assoc,e1,e2,e3,e4]
      simp only [List.map_cons,List.map_nil]
      rw [List.getD_eq_getElem?_getD,List.getElem?_eq_getElem hlt]
      rfl
  · refine ⟨c_true (fun h=>absurd h (by simpa using hc)) fun _=>rfl,c_ind (fun h=>absurd h (by simpa using hc)) fun _ => ?_⟩
    show o=_
    rw [h2,List.take_of_length_le (show l.length≤n.toNat by omega)]
theorem range_flat {α:Type} (g:Nat→List α) (n:Nat):(List.range (n+1)).flatMap g=(List.range n).flatMap g++g n:=by
  rw [List.range_succ,List.flatMap_append]
  simp
theorem flat_range_le {α:Type} (g:Nat→List α) (c:Nat) (h:∀ i,(g i).length≤c):∀ n,((List.range n).flatMap g).length≤c * n
  | 0=>by simp
  | n+1=>by
    rw [range_flat,List.length_append]
    have:=flat_range_le g c h n
    have:=h n
    rw [Nat.mul_succ]
    omega
section
variable {p:Pos} (hp:PosIn p) (ht:p.turn=0∨p.turn=1)
include hp ht
theorem lp26b {a:Nat} (ha:a < 64) (p3:Nat) (out:List Mv) (ho:out.length≤100000):∃ r,lp26_5 a p p3 (out,0)=some r∧r.1=out++(List.range 64).flatMap (mvsR p a):=by
  refine lp_many (I:=fun x => ∃ n:Nat,n≤64∧x=(out++(List.range n).flatMap (mvsR p a),(n:Int))) (μ:=fun x=>(64 - x.2).toNat) ?_ _ ⟨0,by omega,by simp⟩ (by simp)
  rintro _ ⟨n,hn,rfl⟩
  have hsc:(scale 1 (a:Int)).toNat=a:=by unfold scale; simp
  have hlen:=flat_range_le (mvsR p a) 5 (mvsR_len p a) n
  unfold okL26_5 st26_5
  dsimp only
  rw [hsc]
  by_cases hc:n < 64
  · have k175:=t56 hp ht ha hc
    have wa:wr IntKind.i8 (a:Int)=a:=wi8 (by omega) (by omega)
    have wn:wr IntKind.i8 (n:Int)=n:=wi8 (by omega) (by omega)
    have kl:(decide (0≤(a:Int))&&decide ((a:Int) < Int.ofNat 64))=true:=by simp; omega
    have kap:((out++(List.range n).flatMap (mvsR p a)).length==(out++(List.range n).flatMap (mvsR p a)).length&&decide ((out++(List.range n).flatMap (mvsR p a)).length+1≤1073741824)&&true)=true:=by
      have:(out++(List.range n).flatMap (mvsR p a)).length≤1000000:=by rw [List.length_append]; omega
      generalize (out++(List.range n).flatMap (mvsR p a)).length=k at this
      simp
      omega
    have h177:(N59 p.variant).length≤5:=by
      unfold N59
      exact c_ind (P:=fun l:List Int=>l.length≤5) (fun _=>by simp) fun _=>c_ind (P:=fun l:List Int=>l.length≤5) (fun _=>by simp) fun _=>by simp
    have hl:=of_some (lp26a (N59 p.variant) a n p.turn (N58 p.turn n) (N58 p.turn n != 7) p p3 ⟨a,n,0,0,false⟩ (out++(List.range n).flatMap (mvsR p a)) h177 (by rw [List.length_append]; omega))
    rw [wa,wn,wi64 (n:=(n:Int)+1) (by omega) (by omega)]
    constructor
    · refine c_true (fun _=>a_true k175 fun _=>c_true (fun _=>rfl) fun _=>a_true kl fun _=>c_true (fun _=>kap) fun _=>c_true (fun _=>kap) fun _=>a_true hl.1 fun _=>rfl) fun _=>rfl
    · have go:∀ l:List Mv,l=out++(List.range n).flatMap (mvsR p a)++mvsR p a n→Nxt (fun x:List Mv×Int => ∃ n:Nat,n≤64∧x=(out++(List.range n).flatMap (mvsR p a),(n:Int))) (fun r:List Mv×Int×Bool=>r.1=out++(List.range 64).flatMap (mvsR p a)) (fun x=>(64 - x.2).toNat) (64 - (n:Int)).toNat (.go (l,(n:Int)+1)):=by
        rintro _ rfl
        exact ⟨⟨n+1,by omega,by rw [range_flat,List.append_assoc]; rfl⟩,by show (64 - ((n:Int)+1)).toNat < _; omega⟩
      refine c_ind (fun _=>c_ind (fun h1 => ?_) fun h1=>c_ind (fun h2 => ?_) fun h2=>c_ind (fun h3 => ?_) fun h3 => ?_) fun h=>absurd h (by simp; omega)
      · exact go _ (by unfold mvsR; rw [h1]; simp)
      · exact go _ (by unfold mvsR; rw [h1,h2]; rfl)
      · exact go _ (by unfold mvsR; rw [h1,h2,h3]; rfl)
      · exact go _ (by rw [hl.2]; unfold mvsR; rw [h1,h2,h3]; rfl)
  · have e:n=64:=by omega
    subst e
    exact ⟨rfl,rfl⟩
theorem lp26c (p3:Nat):∃ r,lp26_6 p p3 ([],0)=some r∧r.1=(List.range 64).flatMap fun a=>(List.range 64).flatMap (mvsR p a):=by
  refine lp_many (I:=fun x => ∃ n:Nat,n≤64∧x=((List.range n).flatMap (fun a=>(List.range 64).flatMap (mvsR p a)),(n:Int))) (μ:=fun x=>(64 - x.2).toNat) ?_ _ ⟨0,by omega,by simp⟩ (by simp)
  rintro _ ⟨n,hn,rfl⟩
  have hlen:=flat_range_le (fun a=>(List.range 64).flatMap (mvsR p a)) 320 (fun a=>flat_range_le (mvsR p a) 5 (mvsR_len p a) 64) n
  unfold okL26_6 st26_6
  dsimp only
  by_cases hc:n < 64
  · have hl:=of_some (lp26b hp ht hc p3 ((List.range n).flatMap (fun a=>(List.range 64).flatMap (mvsR p a))) (by omega))
    rw [wi64 (n:=(n:Int)+1) (by omega) (by omega)]
    constructor
    · exact c_true (fun _=>a_true hl.1 fun _=>rfl) fun _=>rfl
    · refine c_ind (fun _ => ?_) fun h=>absurd h (by simp; omega)
      rw [hl.2]
      exact ⟨⟨n+1,by omega,by rw [range_flat (fun a=>(List.range 64).flatMap (mvsR p a)) n]; rfl⟩,by show (64 - ((n:Int)+1)).toNat < _; omega⟩
  · have e:n=64:=by omega
    subst e
    exact ⟨rfl,rfl⟩
end
theorem filter_flat {α β:Type} (q:α→Bool) (g:α→List β):∀ l:List α,(l.filter q).flatMap g=l.flatMap fun a=>bif q a then g a else []
  | []=>rfl
  | a::l=>by
    rw [List.flatMap_cons,← filter_flat q g l]
    cases h:q a with
    | true=>rw [List.filter_cons_of_pos h]; rfl
    | false=>rw [List.filter_cons_of_neg (by simp [h])]; rfl
theorem map_flat {α β γ:Type} (f:α→β) (g:β→List γ):∀ l:List α,(l.map f).flatMap g=l.flatMap fun a=>g (f a)
  | []=>rfl
  | a::l=>by rw [List.map_cons,List.flatMap_cons,List.flatMap_cons,map_flat f g l]
theorem flat_congr {α β:Type} {g h:α→List β}:∀ {l:List α},(∀ a ∈ l,g a=h a)→l.flatMap g=l.flatMap h
  | [],_=>rfl
  | a::l,e=>by rw [List.flatMap_cons,List.flatMap_cons,e a (by simp),flat_congr fun b hb=>e b (by simp [hb])]
section
variable {p:Pos} (hp:PosIn p) (ht:there p)
include hp ht
theorem mvsR_eq {a b:Nat} (ha:a < 64) (hb:b < 64):mvsR p a b=bif (own p).getLsbD a then (bif (N179 (p,own p,oth p) a).getLsbD b then mvs p a b else []) else []:=by
  have t0:=hp.t0
  have htt:p.turn=0∨p.turn=1:=by have:=ht.1; omega
  cases ho:(own p).getLsbD a with
  | false =>
    have e1:=N114_bit hp htt htt ha
    rw [show N66 p p.turn 0=own p from rfl,ho] at e1
    have:N56 p a b=false:=by
      unfold N56
      rw [e1]
      cases (a:Int)==(b:Int) <;> rfl
    unfold mvsR
    rw [this]
    rfl
  | true =>
    have hm:N56 p a b=(N179 (p,own p,oth p) a).getLsbD b:=by
      by_cases hk:N57 (p.board.getD a 0)=1
      · exact pawn_may hp htt ha hb ho hk
      · exact may_bit hp htt ha hb ho hk
    obtain ⟨b0,b1⟩:=bd_in hp a
    have m91:=(men' b0 b1).1
    unfold mvsR mvs
    rw [hm,show ((a:Int)).toNat=a by omega,m91]
    obtain ⟨c,hc⟩:∃ c:Fin 2,p.turn=c.val:=by
      rcases htt with h | h
      · exact ⟨0,h⟩
      · exact ⟨1,h⟩
    have r1:=(rank_fin c ⟨b,hb⟩).1
    simp only at r1
    rw [← hc] at r1
    rw [r1]
    have hpr:(N59 p.variant).map (fun k=>(⟨a,b,k,0,false⟩:Mv))=(proms p.variant).flatMap fun k=>[⟨a,b,k,0,false⟩]:=by
      have v0:=hp.v0
      have v9:=ht.2
      have e:N59 p.variant=proms p.variant:=by
        unfold N59 proms
        by_cases h4:p.variant=4
        · rw [h4]; rfl
        · rw [show (p.variant==4)=false by simpa using h4,cond_false]
          by_cases h8:p.variant < 8
          · rw [decide_eq_true h8,cond_true,if_pos ⟨v0,by omega⟩,if_neg h4]
          · rw [decide_eq_false h8,cond_false,if_neg (by omega)]
      rw [e]
      induction proms p.variant with
      | nil=>rfl
      | cons k l ih=>rw [List.map_cons,List.flatMap_cons,ih]; rfl
    rw [hpr]
    cases (N179 (p,own p,oth p) a).getLsbD b <;> rfl
theorem N26_eq:ok26 p=true∧N26 p=N90 p:=by
  have t0:=hp.t0
  have htt:p.turn=0∨p.turn=1:=by have:=ht.1; omega
  have h34:N25 p=true:=by
    unfold N25
    rw [decide_eq_true ht.2,decide_eq_true (show p.turn < 2 by have:=ht.1; omega)]
    rfl
  have hl:=of_some (lp26c hp htt 0)
  constructor
  · unfold ok26
    rw [h34]
    exact a_true hl.1 fun _=>rfl
  · unfold N26
    rw [h34,N90_there hp.v0 ht]
    show (_:List Mv)=_
    rw [show (bif !true then ([]:List Mv) else ((lp26_6 p 0 ([],0)).getD default).1)=((lp26_6 p 0 ([],0)).getD default).1 from rfl,hl.2]
    unfold sqs
    rw [map_flat,filter_flat]
    refine flat_congr fun a ha => ?_
    have ha:a < 64:=List.mem_range.1 ha
    unfold froms sqs
    rw [map_flat,filter_flat]
    have e:(List.range 64).flatMap (mvsR p a)=(List.range 64).flatMap fun b=>bif (own p).getLsbD a then (bif (N179 (p,own p,oth p) a).getLsbD b then mvs p a b else []) else [] :=
      flat_congr fun b hb=>mvsR_eq hp ht ha (List.mem_range.1 hb)
    rw [e]
    cases (own p).getLsbD a with
    | true=>rfl
    | false =>
      show (List.range 64).flatMap (fun _=>([]:List Mv))=[]
      induction List.range 64 with
      | nil=>rfl
      | cons x l ih=>rw [List.flatMap_cons,ih]; rfl
end
end Kz
end
section
namespace Kz
open Go Go.RowKit Go.Proofs
set_option maxRecDepth 100000
theorem t117 (v k:Int):ok117 v k=true:=by
  have hl:(N59 v).length≤5:=by
    unfold N59
    exact c_ind (P:=fun l:List Int=>l.length≤5) (fun _=>by simp) fun _=>c_ind (P:=fun l:List Int=>l.length≤5) (fun _=>by simp) fun _=>by simp
  have h:(lp117_1 k (N59 v) 0).isSome=true:=by
    refine (of_some (Q:=fun _=>True) (lp_many (I:=fun x=>0≤x∧x≤((N59 v).length:Int)) (μ:=fun x=>(((N59 v).length:Int) - x).toNat) ?_ _ ⟨by simp,by simp⟩ (by simp; omega))).1
    rintro n ⟨h0,h1⟩
    by_cases hc:n < (N59 v).length
    · have hw:wr .i64 (n+1)=n+1:=wi64 (by omega) (by omega)
      refine ⟨c_true (fun _=>a_true (by simp [h0]; exact hc) fun _=>rfl) fun _=>rfl,c_ind (fun _=>c_ind (fun _=>trivial) fun _ => ?_) fun h=>absurd h (by simpa using hc)⟩
      rw [hw]
      exact ⟨⟨by omega,by omega⟩,by dsimp only; omega⟩
    · exact ⟨c_true (fun h=>absurd h (by simpa using hc)) fun _=>rfl,c_ind (fun h=>absurd h (by simpa using hc)) fun _=>trivial⟩
  exact a_true h fun _=>c_true (fun _=>rfl) fun _=>rfl
theorem t27 {p:Pos} (hp:PosIn p) (ht:there p) {m:Mv} (hm:m ∈ N90 p):ok27 p m=true:=by
  obtain ⟨_,f,t,hf,htt,e1,e2,_⟩:=N90_mem hp.v0 hm
  have h01:p.turn=0∨p.turn=1:=by have:=ht.1; have:=hp.t0; omega
  have w1:wr .i64 m.frm=(f:Int):=by rw [e1]; exact wi64 (by omega) (by omega)
  have w2:wr .i64 m.to=(t:Int):=by rw [e2]; exact wi64 (by omega) (by omega)
  have kf:(decide (0≤(f:Int))&&decide ((f:Int) < Int.ofNat 64))=true:=by simp; omega
  have kf2:(decide (0≤m.frm)&&decide (m.frm < Int.ofNat 64))=true:=by rw [e1]; exact kf
  unfold ok27 ok60
  rw [w1,w2]
  have h56:=t56 hp h01 hf htt
  have h61:=t61 hp h01 htt
  refine a_true (c_true (fun _=>rfl) fun _=>c_true (fun _=>rfl) fun _=>c_true (fun _=>rfl) fun _=>c_true (fun _=>rfl) fun _=>c_true (fun _=>rfl) fun _=>c_true (fun _=>rfl) fun _=>c_true (fun _=>rfl) fun _=>a_true h56 fun _=>c_true (fun _=>rfl) fun _=>a_true kf fun _=>c_true (fun _=>rfl) fun _=>c_true (fun _=>rfl) fun _=>a_true (t117 _ _) fun _=>rfl) fun _=>c_true (fun _=>rfl) fun _=>a_true h61 fun _=>c_true (fun _=>rfl) fun _=>a_true kf2 fun _=>rfl
theorem lp13 (l k:List Mv) (p q:Pos) (hl:l.length≤100000) (hk:k.length≤100000) (h1:∀ m ∈ l,ok27 p m=true) (h2:∀ m ∈ k,ok27 q m=true):(lp13_1 l k p q (0,0)).isSome=true:=by
  have hw0:wr .i64 (Int.ofNat l.length+Int.ofNat k.length)=(l.length:Int)+k.length:=wi64 (by simp; omega) (by simp; omega)
  refine (of_some (Q:=fun _=>True) (lp_many (I:=fun x=>0≤x.2∧x.2≤(l.length:Int)+k.length) (μ:=fun x=>((l.length:Int)+k.length - x.2).toNat) ?_ _ ⟨by simp,by simp; omega⟩ (by simp; omega))).1
  rintro ⟨c,n⟩ ⟨g0,g1⟩
  simp only at g0 g1
  unfold okL13_1 st13_1
  rw [hw0]
  dsimp only
  by_cases hc:n < (l.length:Int)+k.length
  · have hw:wr .i64 (n+1)=n+1:=wi64 (by omega) (by omega)
    have hd:wr .i64 (n - Int.ofNat l.length)=n - (l.length:Int):=wi64 (by simp; omega) (by simp; omega)
    have key:∀ v:Int,Nxt (fun x:Int×Int=>0≤x.2∧x.2≤(l.length:Int)+k.length) (fun _:Int×Int×Bool=>True) (fun x:Int×Int=>((l.length:Int)+k.length - x.2).toNat) (((l.length:Int)+k.length - n).toNat) (Stp.go (v,wr .i64 (n+1))):=fun v=>by
      rw [hw]
      exact ⟨⟨by dsimp only; omega,by dsimp only; omega⟩,by dsimp only; omega⟩
    have hcb:decide (n < (l.length:Int)+k.length)=true:=decide_eq_true hc
    rw [hcb,cond_true,cond_true,hd]
    have kA:decide (n < Int.ofNat l.length)=true→(decide (0≤n)&&decide (n < Int.ofNat l.length))=true∧ok27 p (l.getD n.toNat default)=true:=fun h=>by
      have h3:n < (l.length:Int):=by simpa using h
      exact ⟨by rw [h,decide_eq_true g0]; rfl,h1 _ (getD_mem (by omega))⟩
    have kB:decide (n ≥ Int.ofNat l.length)=true→(decide (0≤n - (l.length:Int))&&decide (n - (l.length:Int) < Int.ofNat k.length))=true∧ok27 q (k.getD (n - (l.length:Int)).toNat default)=true:=fun h=>by
      have h3:(l.length:Int)≤n:=by simpa using h
      exact ⟨by rw [decide_eq_true (show 0≤n - (l.length:Int) by omega),decide_eq_true (show n - (l.length:Int) < Int.ofNat k.length by show _ < (k.length:Int); omega)]; rfl,h2 _ (getD_mem (by omega))⟩
    refine ⟨c_true (fun a=>a_true (kA a).1 fun _=>a_true (kA a).2 fun _=>c_true (fun _=>rfl) fun _=>c_true (fun b=>a_true (kB b).1 fun _=>a_true (kB b).2 fun _=>rfl) fun _=>rfl) fun _=>c_true (fun b=>a_true (kB b).1 fun _=>a_true (kB b).2 fun _=>rfl) fun _=>rfl,?_⟩
    exact c_ind (fun _=>c_ind (fun _=>key _) fun _=>c_ind (fun _=>c_ind (fun _=>key _) fun _=>key _) fun _=>key _) fun _=>c_ind (fun _=>c_ind (fun _=>key _) fun _=>key _) fun _=>key _
  · have hcb:decide (n < (l.length:Int)+k.length)=false:=decide_eq_false hc
    rw [hcb,cond_false,cond_false]
    exact ⟨rfl,trivial⟩
theorem ok13_t {p:Pos} (hp:PosIn p):ok13 p=true:=by
  unfold ok13
  refine c_true (fun _=>rfl) fun h => ?_
  have h25:N25 p=true:=by simpa using h
  have hth:p.variant < 9∧p.turn < 2:=by
    revert h25
    unfold N25
    exact c_ind (P:=fun x:Bool=>x=true→p.variant < 9∧p.turn < 2) (fun a b=>⟨of_decide_eq_true a,of_decide_eq_true b⟩) fun _ h=>by cases h
  have t0:=hp.t0
  have v0:=hp.v0
  have hw:wr .u8 (1 - p.turn)=1 - p.turn:=wu8 (by omega) (by omega)
  rw [hw]
  have ht:there p:=⟨by omega,by omega⟩
  have hq:PosIn (Pos.mk p.variant p.board p.promoted p.pockets (1 - p.turn) p.rooks p.passing p.checks p.half p.full):={ hp with t0:=by show 0≤1 - p.turn; omega,t1:=by show 1 - p.turn≤255; omega }
  have hqt:there (Pos.mk p.variant p.board p.promoted p.pockets (1 - p.turn) p.rooks p.passing p.checks p.half p.full):=⟨by show 1 - p.turn≤1; omega,by show p.variant < 9; omega⟩
  have a:=N26_eq hp ht
  have b:=N26_eq hq hqt
  have la:=N90_len hp.v0
  have lb:=N90_len hq.v0
  refine a_true a.1 fun _=>a_true b.1 fun _=>a_true ?_ fun _=>rfl
  rw [a.2,b.2]
  exact lp13 _ _ _ _ (by omega) (by omega) (fun m hm=>t27 hp ht hm) (fun m hm=>t27 hq hqt hm)
theorem N6_true {p:Pos} (hp:PosIn p) (n:Int):ok6 p n=true∧N6 p n=true:=by
  have hb:(BitVec.ofInt 64 n % 4#64).toNat < 4:=by
    rw [BitVec.toNat_umod]
    exact Nat.mod_lt _ (by decide)
  have hj:wr .i64 (Int.ofNat (BitVec.ofInt 64 n % 4#64).toNat)=((BitVec.ofInt 64 n % 4#64).toNat:Int):=wi64 (by simp; omega) (by simp; omega)
  have k13:=ok13_t hp
  have k11:=t11 hp
  have k16:ok16 p=true:=ok16_iff.2 hp
  have k0:ok14 p 0=true:=ok14_t hp (by omega) (by omega)
  have k1:ok14 p 1=true:=ok14_t hp (by omega) (by omega)
  have kj:ok14 p (wr .i64 (Int.ofNat (BitVec.ofInt 64 n % 4#64).toNat))=true:=by rw [hj]; exact ok14_t hp (by omega) (by omega)
  refine ⟨?_,?_⟩
  · unfold ok6
    generalize wr .i64 (Int.ofNat (BitVec.ofInt 64 n % 4#64).toNat)=j at kj
    repeat' (first | with_reducible rfl | with_reducible exact k13 | with_reducible exact k11 | with_reducible exact k16 | with_reducible exact k0 | with_reducible exact k1 | with_reducible exact kj | refine a_true ?_ (fun _ => ?_) | refine c_true (fun _ => ?_) (fun _ => ?_) | decide)
  · rw [N6_core]
    refine c_ind (P:=fun b:Bool=>b=true) (fun _=>rfl) fun h => ?_
    have h10:N10 p=true:=by simpa using h
    have hth:p.variant < 9∧p.turn < 2:=by
      revert h10
      unfold N10
      exact c_ind (P:=fun x:Bool=>x=true→p.variant < 9∧p.turn < 2) (fun a b=>⟨of_decide_eq_true a,of_decide_eq_true b⟩) fun _ h=>by cases h
    have c1:core6 p 1=true:=core6_t hth.1 hth.2 (by omega) (by omega)
    have cj:core6 p (wr .i64 (Int.ofNat (BitVec.ofInt 64 n % 4#64).toNat))=true:=by rw [hj]; exact core6_t hth.1 hth.2 (by omega) (by omega)
    exact c_ind (P:=fun b:Bool=>b=true) (fun _=>c_ind (P:=fun b:Bool=>b=true) (fun _=>c1) fun _=>cj) fun _=>cj
noncomputable def B17:Base:=baseOf Pz (fun _ _=>[]) [(20,G20)] [] [(37,FG)]
theorem hB17:BOk B17:=base_ok named_z ⟨s20,trivial⟩ trivial ⟨sFG0,trivial⟩
noncomputable def N17 (p:Pos) (m:Mv) (n:Int):Int×Int:=bif decide (n < 1) then (0,2) else bif decide (n > 32) then (0,2) else bif !N20 p m then (0,2) else bif (gainS n p m 0).isSome then (((gainS n p m 0).getD (0,0)).1,0) else (0,4)
noncomputable def ok17 (p:Pos) (m:Mv) (n:Int):Bool:=bif decide (n < 1) then true else bif decide (n > 32) then true else (ok20 p m&&bif !N20 p m then true else (okV p (n - 1) 0&&bif (gainS n p m 0).isSome then true else (okV p (n - 1) 0&&(!(gainS n p m 0).isSome&&true))))
theorem P17 (p:Pos) (m:Mv) (n:Int) (h:ok17 p m n=true):PS Pz 17 [Pos.av p,Mv.av m,.int .i64 n] ((d2 (dI .i64) (dI .i64)).res (N17 p m n)):=ps_sum (n:=30) hB17 (by kernel_rfl) (by kernel_rfl) (by kernel_rfl) h
noncomputable def G17:List AV→Tr AV:=g3 dPos dMv (dI .i64) (fun p m n=>gdv (ok17 p m n) ((d2 (dI .i64) (dI .i64)).res (N17 p m n)))
theorem s17:Sound Pz 17 G17:=sound3 fun p m n=>at_gd (P17 p m n)
end Kz
end
section
namespace Kz
open Go Go.RowKit Go.Proofs
set_option maxRecDepth 100000
set_option maxHeartbeats 4000000
noncomputable def K4:List (Nat×Nat×List (Nat×List Nat)):=[(4,89,[(0,[1,2]),(1,[1,2,18]),(2,[4]),(3,[1,2]),(4,[1,2,30]),(5,[1,2]),(6,[1,2,5,6]),(7,[1,2,5,6,38]),(8,[4]),(9,[1,2,5,6,7]),(10,(1::2::(rn 5 4 []))),(11,(1::2::(rn 5 5 []))),(12,(1::2::(rn 5 5 [51]))),(13,(1::2::(rn 5 5 []))),(14,(1::2::(rn 5 7 []))),(15,(1::2::(rn 5 6 [65]))),(16,[4]),(17,(1::2::(rn 5 6 [77]))),(18,(1::2::(rn 5 5 []))),(19,[4])])]
noncomputable def B4_1:Base:=baseOf Pz (fun f i=>lkC f i K4) [(10,G10),(11,G11),(12,G12),(13,G13),(14,G14),(15,GE),(16,G16),(17,G17)] [] []
theorem hB4_1:BOk B4_1:=base_ok named_z ⟨s10,s11,s12,s13,s14,sE,s16,s17,trivial⟩ trivial trivial
noncomputable def S4_1 (p1:Int) (p2:Int) (p3:Int) (p4:(List Mv)) (p5:Pos) (x:(Int×Int)):St:=St.mk (AV.any::AV.int .i64 p1::AV.ptr 0 0::AV.any::AV.any::AV.int .i64 p2::AV.int .i64 p3::AV.int .i64 x.fst::AV.list ET.mv p4 Tk.fresh::AV.int .i64 x.snd::(an 79 [])) (Hp.mk [(pc p5 [])] [] [] 0 0 0)
noncomputable def O4_1 (p1:Int) (p2:Int) (p3:Int) (p4:(List Mv)) (p5:Pos):Unit ⊕ (Int×Int×Bool)→Out
  | (.inl (y))=>.ret (St.mk (an 4 (AV.cbool false::(an 84 []))) (Hp.mk [(pc p5 [])] [] [] 0 0 0))
  | (.inr (y))=>.exit 0 (St.mk (AV.any::AV.int .i64 p1::AV.ptr 0 0::AV.any::AV.any::AV.int .i64 p2::AV.int .i64 p3::AV.int .i64 y.fst::AV.list ET.mv p4 Tk.fresh::AV.int .i64 y.snd.fst::(an 41 (AV.bool y.snd.snd::(an 37 [])))) (Hp.mk [(pc p5 [])] [] [] 0 0 0))
noncomputable def st4_1 (p1:Int) (p2:Int) (p3:Int) (p4:(List Mv)) (p5:Pos) (x:(Int×Int)):Stp (Int×Int) (Unit ⊕ (Int×Int×Bool)):=(bif decide (x.snd < Int.ofNat p4.length) then (bif (N17 p5 (p4.getD x.snd.toNat default) p1).snd != 0 then (Stp.out (.inl (()))) else (bif decide ((N17 p5 (p4.getD x.snd.toNat default) p1).fst > x.fst) then (Stp.go ((N17 p5 (p4.getD x.snd.toNat default) p1).fst,wr .i64 (x.snd+1))) else (bif x.snd==0 then (bif p5.variant==4 then (Stp.go ((N17 p5 (p4.getD x.snd.toNat default) p1).fst,wr .i64 (x.snd+1))) else (Stp.go (x.fst,wr .i64 (x.snd+1)))) else (Stp.go (x.fst,wr .i64 (x.snd+1)))))) else (Stp.out (.inr ((x.fst,x.snd,decide (x.snd < Int.ofNat p4.length))))))
noncomputable def okL4_1 (p1:Int) (p2:Int) (p3:Int) (p4:(List Mv)) (p5:Pos) (x:(Int×Int)):Bool:=(bif decide (x.snd < Int.ofNat p4.length) then (decide (0≤x.snd)&&decide (x.snd < Int.ofNat p4.length)&&(ok17 p5 (p4.getD x.snd.toNat default) p1&&true)) else true)
noncomputable def lp4_1 (p1:Int) (p2:Int) (p3:Int) (p4:(List Mv)) (p5:Pos) (x:(Int×Int)):Option (Unit ⊕ (Int×Int×Bool)):=itl (fun x=>bif okL4_1 p1 p2 p3 p4 p5 x then st4_1 p1 p2 p3 p4 p5 x else .bad) many x
abbrev D4_1 {α:Type} (k:Int→Int→Int→(List Mv)→Pos→(Int×Int)→α) (s:St):α:=wP s 0 fun q0=>k (tI (tT s 1)) (tI (tT s 5)) (tI (tT s 6)) (tL (ET.mv) (tT s 8)) q0 ((tI (tT s 7)),(tI (tT s 9)))
theorem L4_1 (p1:Int) (p2:Int) (p3:Int) (p4:(List Mv)) (p5:Pos) (x:(Int×Int)) (r:Unit ⊕ (Int×Int×Bool)) (h:lp4_1 p1 p2 p3 p4 p5 x=some r):LSpec Pz (bodL Pz 4 12) (S4_1 p1 p2 p3 p4 p5 x) (O4_1 p1 p2 p3 p4 p5 r):=LSpec.smd (m:=12) (fn:=4) hB4_1 (D4_1 fun _ _ _ _ _ x=>some x) (fun o=>match o with | .ret s=>some (.inl ()) | .exit 0 s=>some (.inr ((tI (tT s 7)),(tI (tT s 9)),(tB (tT s 51)))) | _=>none) (fun r=>by cases r <;> rfl) (fun _=>by kernel_rfl) (fun _=>by kernel_rfl) (fun _=>by kernel_rfl) (fun _=>by kernel_rfl) many x r h
noncomputable def F4_1 (b:Code) (s:St):Tr Out:=D4_1 (fun p1 p2 p3 p4 p5 x=>lk2 b (bodL Pz 4 12) s (S4_1 p1 p2 p3 p4 p5 x) (lp4_1 p1 p2 p3 p4 p5 x) (O4_1 p1 p2 p3 p4 p5)) s
theorem sF4_1:∀ b,LSound Pz b (F4_1 b):=fun _ _ _ h=>lk2_ok (L4_1 _ _ _ _ _ _) h
noncomputable def B4:Base:=baseOf Pz (fun f i=>lkC f i K4) [(10,G10),(11,G11),(12,G12),(13,G13),(14,G14),(15,GE),(16,G16),(17,G17)] [(4,12,F4_1)] []
theorem hB4:BOk B4:=base_ok named_z ⟨s10,s11,s12,s13,s14,sE,s16,s17,trivial⟩ ⟨sF4_1,trivial⟩ trivial
noncomputable def N4 (a:Pos) (b:Int):Bool:=(bif !N10 a then (N12) else (bif N11 a then (N12) else (bif decide (wr .i64 (1+wr .i64 (Int.ofNat (BitVec.ofInt 64 b % 3#64).toNat)) > 1) then (bif N13 a then (bif (N14 a 1).snd==4 then (bif (N14 a 1).fst==0 then (N12) else (false)) else (bif isL ((lp4_1 1 (N14 a 1).fst (N14 a 1).snd (N16 a) a (NE a,0)).getD default) then (false) else (bif (N14 a 1).snd==0 then (bif (N14 a 1).fst==(gr ((lp4_1 1 (N14 a 1).fst (N14 a 1).snd (N16 a) a (NE a,0)).getD default)).fst then (N12) else (false)) else (false)))) else (bif (N14 a (wr .i64 (1+wr .i64 (Int.ofNat (BitVec.ofInt 64 b % 3#64).toNat)))).snd==4 then (bif (N14 a (wr .i64 (1+wr .i64 (Int.ofNat (BitVec.ofInt 64 b % 3#64).toNat)))).fst==0 then (N12) else (false)) else (bif isL ((lp4_1 (wr .i64 (1+wr .i64 (Int.ofNat (BitVec.ofInt 64 b % 3#64).toNat))) (N14 a (wr .i64 (1+wr .i64 (Int.ofNat (BitVec.ofInt 64 b % 3#64).toNat)))).fst (N14 a (wr .i64 (1+wr .i64 (Int.ofNat (BitVec.ofInt 64 b % 3#64).toNat)))).snd (N16 a) a (NE a,0)).getD default) then (false) else (bif (N14 a (wr .i64 (1+wr .i64 (Int.ofNat (BitVec.ofInt 64 b % 3#64).toNat)))).snd==0 then (bif (N14 a (wr .i64 (1+wr .i64 (Int.ofNat (BitVec.ofInt 64 b % 3#64).toNat)))).fst==(gr ((lp4_1 (wr .i64 (1+wr .i64 (Int.ofNat (BitVec.ofInt 64 b % 3#64).toNat))) (N14 a (wr .i64 (1+wr .i64 (Int.ofNat (BitVec.ofInt 64 b % 3#64).toNat)))).fst (N14 a (wr .i64 (1+wr .i64 (Int.ofNat (BitVec.ofInt 64 b % 3#64).toNat)))).snd (N16 a) a (NE a,0)).getD default)).fst then (N12) else (false)) else (false))))) else (bif (N14 a (wr .i64 (1+wr .i64 (Int.ofNat (BitVec.ofInt 64 b % 3#64).toNat)))).snd==4 then (bif (N14 a (wr .i64 (1+wr .i64 (Int.ofNat (BitVec.ofInt 64 b % 3#64).toNat)))).fst==0 then (N12) else (false)) else (bif isL ((lp4_1 (wr .i64 (1+wr .i64 (Int.ofNat (BitVec.ofInt 64 b % 3#64).toNat))) (N14 a (wr .i64 (1+wr .i64 (Int.ofNat (BitVec.ofInt 64 b % 3#64).toNat)))).fst (N14 a (wr .i64 (1+wr .i64 (Int.ofNat (BitVec.ofInt 64 b % 3#64).toNat)))).snd (N16 a) a (NE a,0)).getD default) then (false) else (bif (N14 a (wr .i64 (1+wr .i64 (Int.ofNat (BitVec.ofInt 64 b % 3#64).toNat)))).snd==0 then (bif (N14 a (wr .i64 (1+wr .i64 (Int.ofNat (BitVec.ofInt 64 b % 3#64).toNat)))).fst==(gr ((lp4_1 (wr .i64 (1+wr .i64 (Int.ofNat (BitVec.ofInt 64 b % 3#64).toNat))) (N14 a (wr .i64 (1+wr .i64 (Int.ofNat (BitVec.ofInt 64 b % 3#64).toNat)))).fst (N14 a (wr .i64 (1+wr .i64 (Int.ofNat (BitVec.ofInt 64 b % 3#64).toNat)))).snd (N16 a) a (NE a,0)).getD default)).fst then (N12) else (false)) else (false)))))))
noncomputable def ok4 (a:Pos) (b:Int):Bool:=(bif !N10 a then true else (ok11 a&&(bif N11 a then true else (!3#64==0#64&&(bif decide (wr .i64 (1+wr .i64 (Int.ofNat (BitVec.ofInt 64 b % 3#64).toNat)) > 1) then (ok13 a&&(bif N13 a then (ok14 a 1&&(bif (N14 a 1).snd==4 then true else (ok16 a&&(ok16 a&&((lp4_1 1 (N14 a 1).fst (N14 a 1).snd (N16 a) a (NE a,0)).isSome&&bif isL ((lp4_1 1 (N14 a 1).fst (N14 a 1).snd (N16 a) a (NE a,0)).getD default) then true else true))))) else (ok14 a (wr .i64 (1+wr .i64 (Int.ofNat (BitVec.ofInt 64 b % 3#64).toNat)))&&(bif (N14 a (wr .i64 (1+wr .i64 (Int.ofNat (BitVec.ofInt 64 b % 3#64).toNat)))).snd==4 then true else (ok16 a&&(ok16 a&&((lp4_1 (wr .i64 (1+wr .i64 (Int.ofNat (BitVec.ofInt 64 b % 3#64).toNat))) (N14 a (wr .i64 (1+wr .i64 (Int.ofNat (BitVec.ofInt 64 b % 3#64).toNat)))).fst (N14 a (wr .i64 (1+wr .i64 (Int.ofNat (BitVec.ofInt 64 b % 3#64).toNat)))).snd (N16 a) a (NE a,0)).isSome&&bif isL ((lp4_1 (wr .i64 (1+wr .i64 (Int.ofNat (BitVec.ofInt 64 b % 3#64).toNat))) (N14 a (wr .i64 (1+wr .i64 (Int.ofNat (BitVec.ofInt 64 b % 3#64).toNat)))).fst (N14 a (wr .i64 (1+wr .i64 (Int.ofNat (BitVec.ofInt 64 b % 3#64).toNat)))).snd (N16 a) a (NE a,0)).getD default) then true else true))))))) else (ok14 a (wr .i64 (1+wr .i64 (Int.ofNat (BitVec.ofInt 64 b % 3#64).toNat)))&&(bif (N14 a (wr .i64 (1+wr .i64 (Int.ofNat (BitVec.ofInt 64 b % 3#64).toNat)))).snd==4 then true else (ok16 a&&(ok16 a&&((lp4_1 (wr .i64 (1+wr .i64 (Int.ofNat (BitVec.ofInt 64 b % 3#64).toNat))) (N14 a (wr .i64 (1+wr .i64 (Int.ofNat (BitVec.ofInt 64 b % 3#64).toNat)))).fst (N14 a (wr .i64 (1+wr .i64 (Int.ofNat (BitVec.ofInt 64 b % 3#64).toNat)))).snd (N16 a) a (NE a,0)).isSome&&bif isL ((lp4_1 (wr .i64 (1+wr .i64 (Int.ofNat (BitVec.ofInt 64 b % 3#64).toNat))) (N14 a (wr .i64 (1+wr .i64 (Int.ofNat (BitVec.ofInt 64 b % 3#64).toNat)))).fst (N14 a (wr .i64 (1+wr .i64 (Int.ofNat (BitVec.ofInt 64 b % 3#64).toNat)))).snd (N16 a) a (NE a,0)).getD default) then true else true))))))))))
theorem P4 (a:Pos) (b:Int) (h:ok4 a b=true):PS Pz 4 [Pos.av a,.int .i64 b] (dB.res (N4 a b)):=ps_sum (n:=14) hB4 (by kernel_rfl) (by kernel_rfl) (by kernel_rfl) h
noncomputable def G4:List AV→Tr AV:=g2 dPos (dI .i64) (fun a b=>gdv (ok4 a b) (dB.res (N4 a b)))
theorem s4:Sound Pz 4 G4:=sound2 fun a b=>at_gd (P4 a b)
end Kz
end
section
namespace Kz
open Go Go.RowKit Go.Proofs
set_option maxRecDepth 100000
theorem fold_shift (f:Pos→Int→Option (Int×Int)) (p:Pos) (hf:∀ q k x,f q k=some x→∀ i,i≤k→f q i=some (x.1,x.2 - k+i)):∀ (l:List Mv) (b k:Int) (x:Int×Int),l.foldl (stepL f p) (some (b,k))=some x→∀ i,i≤k→l.foldl (stepL f p) (some (b,i))=some (x.1,x.2 - k+i)
  | [],b,k,x,h,i,hi=>by
    simp only [List.foldl_nil,Option.some.injEq] at h ⊢
    subst h
    simp
  | m::l,b,k,x,h,i,hi=>by
    rw [List.foldl_cons] at h ⊢
    cases hr:f (N22 p m).1 k with
    | none=>rw [step_of_none hr,step_none] at h; cases h
    | some y =>
      obtain ⟨v,k'⟩:=y
      rw [step_of_some hr] at h
      have h2:=hf _ _ _ hr i hi
      rw [step_of_some h2]
      have ih:=fold_shift f p hf l _ _ _ h (k' - k+i) (by omega)
      rw [ih]
      congr 2
      omega
theorem look_shift:∀ (n:Nat) (p:Pos) (k:Int) (x:Int×Int),lookM n p k=some x→∀ i,i≤k→lookM n p i=some (x.1,x.2 - k+i)
  | 0,p,k,x,h,i,hi=>by
    unfold lookM at h ⊢
    split at h
    · cases h
    · rw [if_neg (by omega)]
      cases hb:(N24 p).1 != 0 <;> rw [hb] at h <;> simp only [cond_true,cond_false,Option.some.injEq] at h ⊢ <;> subst h <;> (congr 1; dsimp only; omega)
  | n+1,p,k,x,h,i,hi=>by
    unfold lookM at h ⊢
    split at h
    · cases h
    · rw [if_neg (by omega)]
      cases hb:(N24 p).1 != 0 <;> rw [hb] at h
      · simp only [cond_false] at h ⊢
        have:=fold_shift (lookM n) p (fun q k x hx i hi=>look_shift n q k x hx i hi) (takesL p) _ _ _ h (i+1) (by omega)
        rw [this]
        congr 2
        omega
      · simp only [cond_true,Option.some.injEq] at h ⊢
        subst h
        congr 1
        dsimp only
        omega
noncomputable def gv (n:Nat) (p:Pos) (m:Mv):Int:=((gainM n p m 0).getD (0,0)).1
theorem fold_gain (n:Nat) (p:Pos):∀ (l:List Mv) (b k:Int) (x:Int×Int),0≤k→l.foldl (stepL (lookM n) p) (some (b,k))=some x→(∀ m ∈ l,(gainM n p m 0).isSome=true)∧x.1=l.foldl (fun b m=>max b (gv n p m)) b
  | [],b,k,x,_,h=>by
    simp only [List.foldl_nil,Option.some.injEq] at h ⊢
    subst h
    exact ⟨fun m hm=>(by cases hm),rfl⟩
  | m::l,b,k,x,h0,h=>by
    rw [List.foldl_cons] at h ⊢
    cases hr:lookM n (N22 p m).1 k with
    | none=>rw [step_of_none hr,step_none] at h; cases h
    | some y =>
      obtain ⟨v,k'⟩:=y
      rw [step_of_some hr] at h
      have hk:=lookM_k n _ _ _ hr
      have h2:=look_shift n _ _ _ hr 0 h0
      have hg:gainM n p m 0=some (N78 v,k' - k+0):=by unfold gainM; rw [h2]; rfl
      have ih:=fold_gain n p l _ _ _ (by dsimp only at hk; omega) h
      refine ⟨fun q hq => ?_,?_⟩
      · rcases List.mem_cons.1 hq with rfl | hq
        · rw [hg]; rfl
        · exact ih.1 q hq
      · rw [ih.2]
        unfold gv
        rw [hg]
        rfl
theorem gv_ge (k:Nat) (p:Pos) (m:Mv) : -30000≤gv k p m:=by
  unfold gv gainM
  cases hl:lookM k (N22 p m).1 0 with
  | none=>decide
  | some x =>
    have h:=look_in _ _ _ _ hl
    exact (N78_in h.1 h.2).1
theorem okV_t {p:Pos} (hp:PosIn p) {n:Int} (h0:0≤n) (h1:n≤32):okV p n 0=true:=by
  unfold okV
  rw [ok16_iff.2 hp,decide_eq_true h0,decide_eq_true (show n < 1000 by omega)]
  rfl
theorem ok17_t {p:Pos} (hp:PosIn p) (m:Mv) {j:Int} (h1:1≤j) (h2:j≤32):ok17 p m j=true:=by
  have hv:=okV_t hp (n:=j - 1) (by omega) (by omega)
  unfold ok17
  refine c_true (fun _=>rfl) fun _=>c_true (fun _=>rfl) fun _=>a_true (t20 hp m) fun _=>c_true (fun _=>rfl) fun _=>a_true hv fun _ => ?_
  cases (gainS j p m 0).isSome
  · rw [cond_false,hv]; rfl
  · rfl
theorem N17_eq {p:Pos} (hp:PosIn p) {m:Mv} (hm:m ∈ takesL p) {j:Int} (h1:1≤j) (h2:j≤32) (hg:(gainM (j - 1).toNat p m 0).isSome=true):N17 p m j=(gv (j - 1).toNat p m,0):=by
  have k:N20 p m=true:=by rw [N20_eq hp]; exact decide_eq_true ((takes_len hp).2 m hm).1
  have e:gainS j p m 0=gainM (j - 1).toNat p m 0:=shut_eq _
  unfold N17
  rw [decide_eq_false (show ¬ j < 1 by omega),decide_eq_false (show ¬ j > 32 by omega),k,e,hg]
  unfold gv
  simp only [Bool.not_true,cond_false,cond_true]
noncomputable def grt (k:Nat) (p:Pos) (l:List Mv) (i:Nat):Int:=(l.take i).foldl (fun b m=>max b (gv k p m)) (best0 p)
theorem grt_succ (k:Nat) (p:Pos) (l:List Mv) (i:Nat) (h:i < l.length):grt k p l (i+1)=max (grt k p l i) (gv k p (l.getD i default)):=by
  unfold grt
  rw [List.take_succ_eq_append_getElem h,List.foldl_append,List.getD_eq_getElem?_getD,List.getElem?_eq_getElem h]
  rfl
theorem lp4 {p:Pos} (hp:PosIn p) {j:Int} (h1:1≤j) (h2:j≤32) (v e:Int) (hg:∀ m ∈ takesL p,(gainM (j - 1).toNat p m 0).isSome=true):∃ r,lp4_1 j v e (takesL p) p (evl p,0)=some r∧isL r=false∧(gr r).1=grt (j - 1).toNat p (takesL p) (takesL p).length:=by
  have hlen:=(takes_len hp).1
  have hN:∀ m ∈ takesL p,N17 p m j=(gv (j - 1).toNat p m,0):=fun m hm=>N17_eq hp hm h1 h2 (hg m hm)
  have hb:0 < (takesL p).length→best0 p=bif p.variant==4 then -30001 else evl p:=fun h=>by
    unfold best0
    rw [decide_eq_true h,Bool.and_true]
  have he0:(takesL p).length=0→best0 p=evl p:=fun h=>by
    unfold best0
    rw [h]
    simp
  generalize (j - 1).toNat=k at hN
  generalize takesL p=l at *
  refine lp_many (I:=fun x=>0≤x.2∧x.2≤(l.length:Int)∧(x.2=0→x.1=evl p)∧(0 < x.2→x.1=grt k p l x.2.toNat)) (μ:=fun x=>((l.length:Int) - x.2).toNat) ?_ _ ⟨by simp,by simp,fun _=>rfl,fun h=>absurd h (by simp)⟩ (by simp; omega)
  rintro ⟨b,n⟩ ⟨g0,g1,g2,g3⟩
  simp only at g0 g1 g2 g3
  unfold okL4_1 st4_1
  dsimp only
  by_cases hc:n < l.length
  · have hlt:n.toNat < l.length:=by omega
    have hw:wr .i64 (n+1)=n+1:=wi64 (by omega) (by omega)
    have hm:l.getD n.toNat default ∈ l:=getD_mem hlt
    have hge:=gv_ge k p (l.getD n.toNat default)
    have hs:=grt_succ k p l n.toNat hlt
    have hb':=hb (by omega)
    rw [hN _ hm,hw]
    dsimp only
    have key:∀ c:Int,c=grt k p l (n.toNat+1)→Nxt (fun x:Int×Int=>0≤x.2∧x.2≤(l.length:Int)∧(x.2=0→x.1=evl p)∧(0 < x.2→x.1=grt k p l x.2.toNat)) (fun r:Unit ⊕ (Int×Int×Bool)=>isL r=false∧(gr r).1=grt k p l l.length) (fun x:Int×Int=>((l.length:Int) - x.2).toNat) (((l.length:Int) - n).toNat) (Stp.go (c,n+1)):=fun c h=>by
      refine ⟨⟨by dsimp only; omega,by dsimp only; omega,fun h => ?_,fun _ => ?_⟩,by dsimp only; omega⟩
      · dsimp only at h; omega
      · dsimp only
        rw [h,show (n+1).toNat=n.toNat+1 by omega]
    refine ⟨c_true (fun h=>a_true (a_true (decide_eq_true g0) fun _=>h) fun _=>a_true (ok17_t hp _ h1 h2) fun _=>rfl) fun _=>rfl,?_⟩
    refine c_ind (fun _=>c_ind (fun h=>by cases h) fun _=>c_ind (fun ha=>key _ ?_) fun ha=>c_ind (fun hb1=>c_ind (fun hb2=>key _ ?_) fun hb2=>key _ ?_) fun hb1=>key _ ?_) fun h=>absurd h (by simpa using hc)
    · have ha:=of_decide_eq_true ha
      rw [hs]
      by_cases hn:n=0
      · subst hn
        have:=g2 rfl
        have e0:grt k p l (Int.toNat 0)=best0 p:=rfl
        rw [e0,hb']
        generalize gv k p (l.getD (Int.toNat 0) default)=w at *
        cases p.variant==4 <;> simp only [cond_true,cond_false] <;> omega
      · have:=g3 (by omega)
        omega
    · have ha:=of_decide_eq_false ha
      have hn:n=0:=by simpa using hb1
      subst hn
      rw [hs]
      have e0:grt k p l (Int.toNat 0)=best0 p:=rfl
      rw [e0,hb',hb2,cond_true]
      omega
    · have ha:=of_decide_eq_false ha
      have hn:n=0:=by simpa using hb1
      subst hn
      have:=g2 rfl
      rw [hs]
      have e0:grt k p l (Int.toNat 0)=best0 p:=rfl
      rw [e0,hb',hb2,cond_false]
      omega
    · have ha:=of_decide_eq_false ha
      have hn:n≠0:=by simpa using hb1
      have:=g3 (by omega)
      rw [hs]
      omega
  · refine ⟨c_true (fun h=>absurd h (by simpa using hc)) fun _=>rfl,c_ind (fun h=>absurd h (by simpa using hc)) fun _=>⟨rfl,?_⟩⟩
    show b=_
    by_cases hn:n=0
    · have hl0:l.length=0:=by omega
      rw [g2 hn,hl0]
      show evl p=best0 p
      exact (he0 hl0).symm
    · rw [g3 (by omega),show n.toNat=l.length by omega]
noncomputable def core4 (a:Pos) (j:Int):Bool:=bif (N14 a j).snd==4 then (bif (N14 a j).fst==0 then (N12) else (false)) else (bif isL ((lp4_1 j (N14 a j).fst (N14 a j).snd (N16 a) a (NE a,0)).getD default) then (false) else (bif (N14 a j).snd==0 then (bif (N14 a j).fst==(gr ((lp4_1 j (N14 a j).fst (N14 a j).snd (N16 a) a (NE a,0)).getD default)).fst then (N12) else (false)) else (false)))
noncomputable def dom4 (a:Pos) (j:Int):Bool:=ok14 a j&&(bif (N14 a j).snd==4 then true else (ok16 a&&(ok16 a&&((lp4_1 j (N14 a j).fst (N14 a j).snd (N16 a) a (NE a,0)).isSome&&bif isL ((lp4_1 j (N14 a j).fst (N14 a j).snd (N16 a) a (NE a,0)).getD default) then true else true))))
theorem core4_t {p:Pos} (hp:PosIn p) (hv:p.variant < 9) (ht:p.turn < 2) (hN:N11 p=false) {n:Int} (h0:1≤n) (h1:n≤32):dom4 p n=true∧core4 p n=true:=by
  have hk:=ok14_t hp (n:=n) (by omega) h1
  have h16:=ok16_iff.2 hp
  unfold core4 dom4
  rw [hk,h16,N14_there hv ht (by omega) h1,N16_eq,NE_eq]
  cases hl:lookM n.toNat p 0 with
  | none=>exact ⟨rfl,rfl⟩
  | some x =>
    have hb:((N24 p).1 != 0)=false:=hN
    have hn:n.toNat=(n - 1).toNat+1:=by omega
    rw [hn] at hl
    unfold lookM at hl
    rw [if_neg (by omega),hb,cond_false] at hl
    have hf:=fold_gain _ p _ _ _ _ (by omega) hl
    have hlp:=of_some (lp4 hp h0 h1 x.1 0 hf.1)
    dsimp only
    rw [hlp.1,hlp.2.1,hlp.2.2]
    have e:grt (n - 1).toNat p (takesL p) (takesL p).length=x.1:=by unfold grt; rw [List.take_length,hf.2]
    rw [e]
    exact ⟨rfl,by simp [N12]⟩
theorem N4_core (p:Pos) (n:Int):N4 p n=bif !N10 p then N12 else bif N11 p then N12 else bif decide (wr IntKind.i64 (1+wr IntKind.i64 (Int.ofNat (BitVec.ofInt 64 n % 3#64).toNat)) > 1) then (bif N13 p then core4 p 1 else core4 p (wr IntKind.i64 (1+wr IntKind.i64 (Int.ofNat (BitVec.ofInt 64 n % 3#64).toNat)))) else core4 p (wr IntKind.i64 (1+wr IntKind.i64 (Int.ofNat (BitVec.ofInt 64 n % 3#64).toNat))):=rfl
theorem ok4_core (p:Pos) (n:Int):ok4 p n=bif !N10 p then true else (ok11 p&&(bif N11 p then true else (!3#64==0#64&&(bif decide (wr IntKind.i64 (1+wr IntKind.i64 (Int.ofNat (BitVec.ofInt 64 n % 3#64).toNat)) > 1) then (ok13 p&&bif N13 p then dom4 p 1 else dom4 p (wr IntKind.i64 (1+wr IntKind.i64 (Int.ofNat (BitVec.ofInt 64 n % 3#64).toNat)))) else dom4 p (wr IntKind.i64 (1+wr IntKind.i64 (Int.ofNat (BitVec.ofInt 64 n % 3#64).toNat))))))):=rfl
theorem N4_true {p:Pos} (hp:PosIn p) (n:Int):ok4 p n=true∧N4 p n=true:=by
  have hb:(BitVec.ofInt 64 n % 3#64).toNat < 3:=by
    rw [BitVec.toNat_umod]
    exact Nat.mod_lt _ (by decide)
  have hj1:wr .i64 (Int.ofNat (BitVec.ofInt 64 n % 3#64).toNat)=((BitVec.ofInt 64 n % 3#64).toNat:Int):=wi64 (by simp; omega) (by simp; omega)
  have hj:wr .i64 (1+wr .i64 (Int.ofNat (BitVec.ofInt 64 n % 3#64).toNat))=1+((BitVec.ofInt 64 n % 3#64).toNat:Int):=by rw [hj1]; exact wi64 (by omega) (by omega)
  rw [N4_core,ok4_core,hj]
  cases h10:N10 p with
  | false=>exact ⟨rfl,rfl⟩
  | true =>
    have hth:p.variant < 9∧p.turn < 2:=by
      revert h10
      unfold N10
      exact c_ind (P:=fun x:Bool=>x=true→p.variant < 9∧p.turn < 2) (fun a b=>⟨of_decide_eq_true a,of_decide_eq_true b⟩) fun _ h=>by cases h
    rw [t11 hp]
    cases hN:N11 p with
    | true=>exact ⟨rfl,rfl⟩
    | false =>
      have c1:=core4_t hp hth.1 hth.2 hN (n:=1) (by omega) (by omega)
      have cj:=core4_t hp hth.1 hth.2 hN (n:=1+((BitVec.ofInt 64 n % 3#64).toNat:Int)) (by omega) (by omega)
      rw [c1.1,c1.2,cj.1,cj.2,ok13_t hp]
      simp only [Bool.not_true,cond_false,Bool.true_and,Bool.cond_self,and_true]
      rfl
end Kz
end
