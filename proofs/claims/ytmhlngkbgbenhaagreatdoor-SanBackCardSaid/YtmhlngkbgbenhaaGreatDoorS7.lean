/- Part 7 of the texts under the proof: an abstract interpreter,the summaries of functions,plain laws. -/
import Derived.Test.YtmhlngkbgbenhaaGreatDoorS6
import Derived.Test.YtmhlngkbgbenhaaGreatDoorSr1
import Derived.Test.YtmhlngkbgbenhaaGreatDoorSr2
import Derived.Test.YtmhlngkbgbenhaaGreatDoorSr3
import Derived.Test.YtmhlngkbgbenhaaGreatDoorSr4
import Derived.Test.YtmhlngkbgbenhaaGreatDoorSr5
import Derived.Test.YtmhlngkbgbenhaaGreatDoorSr6
import Derived.Test.YtmhlngkbgbenhaaGreatDoorSr7
import Derived.Test.YtmhlngkbgbenhaaGreatDoorSr8
import Derived.Test.YtmhlngkbgbenhaaGreatDoorSr9
import Derived.Test.YtmhlngkbgbenhaaGreatDoorSr10
import Derived.Test.YtmhlngkbgbenhaaGreatDoorSr11
import Derived.Test.YtmhlngkbgbenhaaGreatDoorSr12
import Derived.Test.YtmhlngkbgbenhaaGreatDoorSr13
import Derived.Test.YtmhlngkbgbenhaaGreatDoorSr14
set_option linter.unusedSectionVars false
set_option linter.unusedVariables false
set_option linter.unusedSimpArgs false
set_option linter.unnecessarySimpa false
section
namespace Kz
open Go Go.RowKit Go.Proofs
set_option maxRecDepth 100000
theorem dM {f:Nat} {xs:List AV} {b:Bool} {v:AV} {t:Tr AV} (h:b=true→PS Pz f xs v) (h2:G8 Pz f xs t):G8 Pz f xs (.br b (.ret v) t):=by
  intro u hu
  cases b with
  | true=>exact (Option.some.inj hu) ▸ h rfl
  | false=>exact h2 u hu
theorem sq {f:Nat} {xs:List AV}:G8 Pz f xs .fail:=fun _ hu=>by cases hu
noncomputable def S4 (v:AV):List AV→Tr AV:=g1 bH fun p=>.br (rb p wU) (.ret v) .fail
theorem LG {f:Nat} {v:AV} (h:PS Pz f [Pos.av wU] v):Sound Pz f (S4 v):=aS fun p=>dM (fun e=>by rw [gP e]; exact h) sq
noncomputable def Bq1:aC:=au Pz (fun _ _=>[]) [(142,S4 (.bool true)),(143,S4 (.str ZC)),(144,S4 (.str [75,81,107,113])),(146,Lb),(147,Kd)] [] []
theorem VG:bD Bq1:=ao al ⟨LG KW,LG Kn,LG Md,Sq,Qd,trivial⟩ trivial trivial
theorem PD:PS Pz 68 [Pos.av wU] (.str SH):=mD VG (n:=400) (by kernel_rfl)
theorem inv2 {g:Gh} {tk:List Nat} {w:World} {a b:AV} {x:Value} (h:aN g tk w (.tuple [a,b]) x):∃ y z,x=.tuple #[y,z]∧aN g tk w a y∧aN g tk w b z:=by
  generalize e:AV.tuple [a,b]=v at h
  cases h with
  | tuple q =>
    rename_i l vs
    cases e
    obtain ⟨vs⟩:=vs
    cases q with
    | cons q1 q2 =>
      cases q2 with
      | cons q2 q3 =>
        cases q3
        exact ⟨_,_,rfl,q1,q2⟩
  | _=>cases e
theorem Ux {f:Nat} {xs:List AV} {n:Int} {b:Bool} (h:PS Pz f xs (.tuple [.int .u8 n,.bool b])):PS Pz f xs (.tuple [.bC .u8 n,.aO b]) :=
  ⟨fun w bg hg hr=>(h.1 w bg hg hr).mono fun e w' ⟨x,e1,e2,e3⟩=>⟨x,e1,e2,by
    obtain ⟨y,z,rfl,q1,q2⟩:=inv2 e3
    cases q1
    cases q2
    exact .tuple (.cons (.bC _ _) (.cons (.aO _) .nil))⟩,h.2⟩
noncomputable def Kx:List AV→Tr AV:=g1 dS fun s=>cE (IN s) (.tuple [.bC .u8 (KI s).1,.aO (KI s).2])
theorem Jm:Sound Pz 202 Kx:=aS fun s=>aJ fun h=>Ux (Yn s h)
noncomputable def Z3:List AV→Tr AV:=g1 bH fun p=>.br (rb p wU) (.ret (.str SH)) (.br (rb p qd) (.ret (.str SM)) (.br (rb p qV) (.ret (.str SQ)) .fail))
theorem Tz:Sound Pz 68 Z3:=aS fun p=>dM (fun e=>by rw [gP e]; exact PD) (dM (fun e=>by rw [gP e]; exact Pp) (dM (fun e=>by rw [gP e]; exact Oz) sq))
noncomputable def ZZ:aC:=au Pz (fun _ _=>[]) [(209,Kk),(266,M9),(202,Kx),(68,Z3)] [] []
theorem Vf:bD ZZ:=ao al ⟨NM,Si,Jm,Tz,trivial⟩ trivial trivial
def Qy (x:Pos×Int) (t:Tr AV):Bool:=match t.get with
  | some v=>match (d2 bH (dI .i64)).dec v with
    | some y=>rb y.1 x.1&&y.2==x.2
    | none=>false
  | none=>false
theorem tj {n f:Nat} {xs:List AV} {x:Pos×Int} (h:Qy x (cZ ZZ n f xs)=true):PS Pz f xs ((d2 bH (dI .i64)).res x):=by
  unfold Qy at h
  split at h
  · rename_i v hv
    split at h
    · rename_i y hy
      simp only [Bool.and_eq_true,beq_iff_eq] at h
      have:y=x:=Prod.ext (gP h.1) h.2
      subst this
      exact rV Vf hv (d2 bH (dI .i64)) hy
    · cases h
  · cases h
end Kz
end
