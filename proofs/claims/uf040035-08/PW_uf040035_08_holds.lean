import PyProof.Rows.All
import Wide.All
import Open.Line
import KE.KDictOf
import PyProof.Rows.CatchBare
import PyProof.Rows.TopCatch
import PySem.Challenge.RW_uf040035_08
set_option Elab.async false
section
open PySem PySem.W PyProof.Rows
set_option maxRecDepth 100000
set_option maxHeartbeats 0
 def Qh.Pf:OpenRow:={PySem.Challenge.rw_uf040035_08.row with name:=Str.ofString "_law_whole",args:=[.int],pre:=.lit (.bool true)}
theorem Qh.oA:Qh.Pf.Holds:=by
 w_on
 o_head Hook.none
 (case hw=>w_witness2)
 w_strict o_enter
theorem Qh.Mc:LeftO PySem.Challenge.rw_uf040035_08.row.prog Qh.oA.view_1 [] (λs=>xlAt Qh.oA.view_1 [] s&&recOk [] s) (Hook.obs Hook.none) (Hook.val Hook.none) 5652:=Qh.oA._proof_4
theorem Qh.Md{d:DefRec}{kwd:List (PySem.Str×PySem.Expr)}(hdef:defOf Qh.oA.view_1 PySem.Challenge.rw_uf040035_08.row.name=some (d,kwd))(hp:PySem.Challenge.rw_uf040035_08.row.prog.theDef PySem.Challenge.rw_uf040035_08.row.name=some (d.params,d.body,d.scope))(hk:kwWritten? d.params.kwonlyargs d.params.kw_defaults=some kwd)(hc:WalkO Qh.oA.view_1 [] (XL Qh.oA.view_1 []) (Hook.says Hook.none) PySem.Challenge.rw_uf040035_08.row.toRowW d kwd λf vs=>PySem.call f vs):PySem.Challenge.rw_uf040035_08.Holds:=by
 w_on
 refine holds_law (by decide+kernel) λsaid=>?_;refine holds_open (XP:=XL Qh.oA.view_1 []) (YP:=Hook.says Hook.none) Qh.Mc (Hook.of Hook.none) (Hook.keeps Hook.none) (λs e=>xl_of s (Bool.and_eq_true_iff.mp e).1) XL.keeps hdef hp hk (λs e=>recFacts_of (Bool.and_eq_true_iff.mp e).2) (by rfl) said (by decide+kernel) ⟨rfl,rfl,rfl,rfl,rfl,by decide+kernel⟩ ?hw hc
 (case hw=>w_witness2)
end
set_option autoImplicit true
set_option linter.unusedVariables false
set_option linter.unusedSimpArgs false
set_option linter.unusedSectionVars false
set_option bootstrap.genMatcherCode false
set_option genInjectivity false
set_option genSizeOf false
set_option tactic.hygienic false
noncomputable section
set_option compiler.extract_closed false in
local macro_rules (kind:=Lean.Parser.Command.declaration)
|s=>λ_ t=>bif ((s.getArg 0).getArg 4).matchesNull 0&&((s.getArg 1).getArg 0).isToken "def" then .ok (s.setArg 0 ((s.getArg 0).setArg 4 (.node .none `null #[.atom .none "noncomputable"]))) t else .error .unsupportedSyntax t
namespace Qh
abbrev bG:=PySem.Value->PySem.Shared->Prop
abbrev av:=PySem.Expr
theorem aQ(n:Nat):n<=n:=Nat.le_refl n
theorem a8(n:Int):n<=n:=Int.le_refl n
theorem bP{a b c:Nat}(h:a<=b)(k:b<=c):a<=c:=Nat.le_trans h k
theorem cw{a b c:Int}(h:a<=b)(k:b<=c):a<=c:=Int.le_trans h k
theorem cg{a b:Nat}(h:a.succ<=b.succ):a<=b:=Nat.le_of_succ_le_succ h
theorem bz{a b:Nat}(h:a.succ<=b):a<=b:=Nat.le_of_succ_le h
theorem jN{a b:Nat}(h:a<=b):a<=b.succ:=Nat.le_succ_of_le h
theorem cT{a b c:Nat}(h:a+b<=c):b<=c:=Nat.le_of_add_left_le h
theorem ip{a b c:Nat}(h:a+b<=c):a<=c:=Nat.le_of_add_right_le h
theorem cj{a b:Nat}(h:a<=b)(k:b<=a):a=b:=Nat.le_antisymm h k
theorem dD(a b:Nat):a<=b+a:=Nat.le_add_left a b
theorem d7(a b:Nat):a<=a+b:=Nat.le_add_right a b
theorem eI(a:Nat):0<=a:=Nat.zero_le a
theorem eG(a b:Nat):a<=max a b:=Nat.le_max_left a b
theorem eN(a b:Nat):b<=max a b:=Nat.le_max_right a b
theorem iM(n:Nat):LE.le (α:=Int) 0 n:=Int.natCast_nonneg n
theorem cy:¬ false=true:=Bool.false_ne_true
theorem bB{P:Prop}(h:∀X:Prop,(P->X)->X):P:=h P id
theorem a5{P0 P1:Prop}{X:Prop}(h:P0/\P1)(k:P0->P1->X):X:=k h.1 h.2
theorem kP{P0 P1 P2:Prop}{X:Prop}(h:P0/\P1/\P2)(k:P0->P1->P2->X):X:=k h.1 h.2.1 h.2.2
theorem iY{P0 P1 P2 P3:Prop}{X:Prop}(h:P0/\P1/\P2/\P3)(k:P0->P1->P2->P3->X):X:=k h.1 h.2.1 h.2.2.1 h.2.2.2
theorem bZ{cZ:Type}{P0:cZ->Prop}{X:Prop}(h:∃x0,P0 x0)(k:∀x0,P0 x0->X):X:=h.elim λx0 h=>k x0 h
theorem aO{cZ:Type}{P0 P1:cZ->Prop}{X:Prop}(h:∃x0,P0 x0/\P1 x0)(k:∀x0,P0 x0->P1 x0->X):X:=h.elim λx0 h=>k x0 h.1 h.2
theorem b8{cZ:Type}{P0 P1 P2:cZ->Prop}{X:Prop}(h:∃x0,P0 x0/\P1 x0/\P2 x0)(k:∀x0,P0 x0->P1 x0->P2 x0->X):X:=h.elim λx0 h=>k x0 h.1 h.2.1 h.2.2
theorem n3{cZ:Type}{P0 P1 P2 P3:cZ->Prop}{X:Prop}(h:∃x0,P0 x0/\P1 x0/\P2 x0/\P3 x0)(k:∀x0,P0 x0->P1 x0->P2 x0->P3 x0->X):X:=h.elim λx0 h=>k x0 h.1 h.2.1 h.2.2.1 h.2.2.2
theorem n4{cZ:Type}{P0 P1 P2 P3 P4:cZ->Prop}{X:Prop}(h:∃x0,P0 x0/\P1 x0/\P2 x0/\P3 x0/\P4 x0)(k:∀x0,P0 x0->P1 x0->P2 x0->P3 x0->P4 x0->X):X:=h.elim λx0 h=>k x0 h.1 h.2.1 h.2.2.1 h.2.2.2.1 h.2.2.2.2
theorem gm{cZ dN:Type}{P0:cZ->dN->Prop}{X:Prop}(h:∃x0 x1,P0 x0 x1)(k:∀x0 x1,P0 x0 x1->X):X:=h.elim λx0 h=>h.elim λx1 h=>k x0 x1 h
theorem bo{cZ dN:Type}{P0 P1:cZ->dN->Prop}{X:Prop}(h:∃x0 x1,P0 x0 x1/\P1 x0 x1)(k:∀x0 x1,P0 x0 x1->P1 x0 x1->X):X:=h.elim λx0 h=>h.elim λx1 h=>k x0 x1 h.1 h.2
theorem cW{cZ dN:Type}{P0 P1 P2:cZ->dN->Prop}{X:Prop}(h:∃x0 x1,P0 x0 x1/\P1 x0 x1/\P2 x0 x1)(k:∀x0 x1,P0 x0 x1->P1 x0 x1->P2 x0 x1->X):X:=h.elim λx0 h=>h.elim λx1 h=>k x0 x1 h.1 h.2.1 h.2.2
theorem fy{cZ dN:Type}{P0 P1 P2 P3:cZ->dN->Prop}{X:Prop}(h:∃x0 x1,P0 x0 x1/\P1 x0 x1/\P2 x0 x1/\P3 x0 x1)(k:∀x0 x1,P0 x0 x1->P1 x0 x1->P2 x0 x1->P3 x0 x1->X):X:=h.elim λx0 h=>h.elim λx1 h=>k x0 x1 h.1 h.2.1 h.2.2.1 h.2.2.2
theorem mJ{cZ dN:Type}{P0 P1 P2 P3 P4:cZ->dN->Prop}{X:Prop}(h:∃x0 x1,P0 x0 x1/\P1 x0 x1/\P2 x0 x1/\P3 x0 x1/\P4 x0 x1)(k:∀x0 x1,P0 x0 x1->P1 x0 x1->P2 x0 x1->P3 x0 x1->P4 x0 x1->X):X:=h.elim λx0 h=>h.elim λx1 h=>k x0 x1 h.1 h.2.1 h.2.2.1 h.2.2.2.1 h.2.2.2.2
theorem tX{cZ dN:Type}{P0 P1 P2 P3 P4 P5:cZ->dN->Prop}{X:Prop}(h:∃x0 x1,P0 x0 x1/\P1 x0 x1/\P2 x0 x1/\P3 x0 x1/\P4 x0 x1/\P5 x0 x1)(k:∀x0 x1,P0 x0 x1->P1 x0 x1->P2 x0 x1->P3 x0 x1->P4 x0 x1->P5 x0 x1->X):X:=h.elim λx0 h=>h.elim λx1 h=>k x0 x1 h.1 h.2.1 h.2.2.1 h.2.2.2.1 h.2.2.2.2.1 h.2.2.2.2.2
theorem CM{cZ dN:Type}{P0 P1 P2 P3 P4 P5 P6 P7:cZ->dN->Prop}{X:Prop}(h:∃x0 x1,P0 x0 x1/\P1 x0 x1/\P2 x0 x1/\P3 x0 x1/\P4 x0 x1/\P5 x0 x1/\P6 x0 x1/\P7 x0 x1)(k:∀x0 x1,P0 x0 x1->P1 x0 x1->P2 x0 x1->P3 x0 x1->P4 x0 x1->P5 x0 x1->P6 x0 x1->P7 x0 x1->X):X:=h.elim λx0 h=>h.elim λx1 h=>k x0 x1 h.1 h.2.1 h.2.2.1 h.2.2.2.1 h.2.2.2.2.1 h.2.2.2.2.2.1 h.2.2.2.2.2.2.1 h.2.2.2.2.2.2.2
theorem kQ{cZ dN fG:Type}{P0:cZ->dN->fG->Prop}{X:Prop}(h:∃x0 x1 x2,P0 x0 x1 x2)(k:∀x0 x1 x2,P0 x0 x1 x2->X):X:=h.elim λx0 h=>h.elim λx1 h=>h.elim λx2 h=>k x0 x1 x2 h
theorem fV{cZ dN fG:Type}{P0 P1:cZ->dN->fG->Prop}{X:Prop}(h:∃x0 x1 x2,P0 x0 x1 x2/\P1 x0 x1 x2)(k:∀x0 x1 x2,P0 x0 x1 x2->P1 x0 x1 x2->X):X:=h.elim λx0 h=>h.elim λx1 h=>h.elim λx2 h=>k x0 x1 x2 h.1 h.2
theorem fJ{cZ dN fG:Type}{P0 P1 P2:cZ->dN->fG->Prop}{X:Prop}(h:∃x0 x1 x2,P0 x0 x1 x2/\P1 x0 x1 x2/\P2 x0 x1 x2)(k:∀x0 x1 x2,P0 x0 x1 x2->P1 x0 x1 x2->P2 x0 x1 x2->X):X:=h.elim λx0 h=>h.elim λx1 h=>h.elim λx2 h=>k x0 x1 x2 h.1 h.2.1 h.2.2
theorem xg{cZ dN fG:Type}{P0 P1 P2 P3 P4:cZ->dN->fG->Prop}{X:Prop}(h:∃x0 x1 x2,P0 x0 x1 x2/\P1 x0 x1 x2/\P2 x0 x1 x2/\P3 x0 x1 x2/\P4 x0 x1 x2)(k:∀x0 x1 x2,P0 x0 x1 x2->P1 x0 x1 x2->P2 x0 x1 x2->P3 x0 x1 x2->P4 x0 x1 x2->X):X:=h.elim λx0 h=>h.elim λx1 h=>h.elim λx2 h=>k x0 x1 x2 h.1 h.2.1 h.2.2.1 h.2.2.2.1 h.2.2.2.2
theorem N8{cZ dN fG jO jP:Type}{P0:cZ->dN->fG->jO->jP->Prop}{X:Prop}(h:∃x0 x1 x2 x3 x4,P0 x0 x1 x2 x3 x4)(k:∀x0 x1 x2 x3 x4,P0 x0 x1 x2 x3 x4->X):X:=h.elim λx0 h=>h.elim λx1 h=>h.elim λx2 h=>h.elim λx3 h=>h.elim λx4 h=>k x0 x1 x2 x3 x4 h
theorem N9{cZ dN fG jO jP:Type}{P0 P1 P2:cZ->dN->fG->jO->jP->Prop}{X:Prop}(h:∃x0 x1 x2 x3 x4,P0 x0 x1 x2 x3 x4/\P1 x0 x1 x2 x3 x4/\P2 x0 x1 x2 x3 x4)(k:∀x0 x1 x2 x3 x4,P0 x0 x1 x2 x3 x4->P1 x0 x1 x2 x3 x4->P2 x0 x1 x2 x3 x4->X):X:=h.elim λx0 h=>h.elim λx1 h=>h.elim λx2 h=>h.elim λx3 h=>h.elim λx4 h=>k x0 x1 x2 x3 x4 h.1 h.2.1 h.2.2
theorem Oa{cZ dN fG jO jP:Type}{P0 P1 P2 P3:cZ->dN->fG->jO->jP->Prop}{X:Prop}(h:∃x0 x1 x2 x3 x4,P0 x0 x1 x2 x3 x4/\P1 x0 x1 x2 x3 x4/\P2 x0 x1 x2 x3 x4/\P3 x0 x1 x2 x3 x4)(k:∀x0 x1 x2 x3 x4,P0 x0 x1 x2 x3 x4->P1 x0 x1 x2 x3 x4->P2 x0 x1 x2 x3 x4->P3 x0 x1 x2 x3 x4->X):X:=h.elim λx0 h=>h.elim λx1 h=>h.elim λx2 h=>h.elim λx3 h=>h.elim λx4 h=>k x0 x1 x2 x3 x4 h.1 h.2.1 h.2.2.1 h.2.2.2
theorem CO{cZ dN fG jO jP:Type}{P0 P1 P2 P3 P4:cZ->dN->fG->jO->jP->Prop}{X:Prop}(h:∃x0 x1 x2 x3 x4,P0 x0 x1 x2 x3 x4/\P1 x0 x1 x2 x3 x4/\P2 x0 x1 x2 x3 x4/\P3 x0 x1 x2 x3 x4/\P4 x0 x1 x2 x3 x4)(k:∀x0 x1 x2 x3 x4,P0 x0 x1 x2 x3 x4->P1 x0 x1 x2 x3 x4->P2 x0 x1 x2 x3 x4->P3 x0 x1 x2 x3 x4->P4 x0 x1 x2 x3 x4->X):X:=h.elim λx0 h=>h.elim λx1 h=>h.elim λx2 h=>h.elim λx3 h=>h.elim λx4 h=>k x0 x1 x2 x3 x4 h.1 h.2.1 h.2.2.1 h.2.2.2.1 h.2.2.2.2
theorem CP{cZ dN fG jO jP:Type}{P0 P1 P2 P3 P4 P5:cZ->dN->fG->jO->jP->Prop}{X:Prop}(h:∃x0 x1 x2 x3 x4,P0 x0 x1 x2 x3 x4/\P1 x0 x1 x2 x3 x4/\P2 x0 x1 x2 x3 x4/\P3 x0 x1 x2 x3 x4/\P4 x0 x1 x2 x3 x4/\P5 x0 x1 x2 x3 x4)(k:∀x0 x1 x2 x3 x4,P0 x0 x1 x2 x3 x4->P1 x0 x1 x2 x3 x4->P2 x0 x1 x2 x3 x4->P3 x0 x1 x2 x3 x4->P4 x0 x1 x2 x3 x4->P5 x0 x1 x2 x3 x4->X):X:=h.elim λx0 h=>h.elim λx1 h=>h.elim λx2 h=>h.elim λx3 h=>h.elim λx4 h=>k x0 x1 x2 x3 x4 h.1 h.2.1 h.2.2.1 h.2.2.2.1 h.2.2.2.2.1 h.2.2.2.2.2
theorem xh{cZ dN fG jO jP Qp:Type}{P0 P1 P2 P3 P4 P5 P6:cZ->dN->fG->jO->jP->Qp->Prop}{X:Prop}(h:∃x0 x1 x2 x3 x4 x5,P0 x0 x1 x2 x3 x4 x5/\P1 x0 x1 x2 x3 x4 x5/\P2 x0 x1 x2 x3 x4 x5/\P3 x0 x1 x2 x3 x4 x5/\P4 x0 x1 x2 x3 x4 x5/\P5 x0 x1 x2 x3 x4 x5/\P6 x0 x1 x2 x3 x4 x5)(k:∀x0 x1 x2 x3 x4 x5,P0 x0 x1 x2 x3 x4 x5->P1 x0 x1 x2 x3 x4 x5->P2 x0 x1 x2 x3 x4 x5->P3 x0 x1 x2 x3 x4 x5->P4 x0 x1 x2 x3 x4 x5->P5 x0 x1 x2 x3 x4 x5->P6 x0 x1 x2 x3 x4 x5->X):X:=h.elim λx0 h=>h.elim λx1 h=>h.elim λx2 h=>h.elim λx3 h=>h.elim λx4 h=>h.elim λx5 h=>k x0 x1 x2 x3 x4 x5 h.1 h.2.1 h.2.2.1 h.2.2.2.1 h.2.2.2.2.1 h.2.2.2.2.2.1 h.2.2.2.2.2.2
end Qh
namespace Qh
set_option genCtorIdx false in
inductive Lx where
|v' (i:Nat)|c' (n:Nat)|a' (x y:Lx)|m' (k:Nat) (y:Lx)|n' (y:Lx) (k:Nat)|s' (x y:Lx)|x' (x y:Lx)
def pe:List Int->List Int->Int
|k::p,x::r=>k*x+pe p r
|_,_=>0
def pad:List Int->List Int->List Int
|k::p,l::q=>(k+l)::pad p q
|[],q=>q
|p,[]=>p
def fP(k:Int):List Int->List Int
|[]=>[]
|l::p=>(k*l)::fP k p
def pv:Nat->List Int
|0=>[1]
|n+1=>0::pv n
def pat:List Int->Nat->Int
|[],_=>0
|x::_,0=>x
|_::r,n+1=>pat r n
def nat:List Nat->Nat->Nat
|[],_=>0
|x::_,0=>x
|_::r,n+1=>nat r n
def Lx.d(f:Bool)(ρ:List Int):Lx->Int
|.v' i=>pat ρ i
|.c' n=>Int.ofNat n
|.a' x y=>x.d f ρ+y.d f ρ
|.m' k y=>Int.ofNat k*y.d f ρ
|.n' y k=>y.d f ρ*Int.ofNat k
|.s' x y=>cond f (Int.ofNat (x.d f ρ-y.d f ρ).toNat) (x.d f ρ-y.d f ρ)
|.x' x y=>max (x.d f ρ) (y.d f ρ)
def Lx.e(ρ:List Nat):Lx->Nat
|.v' i=>nat ρ i
|.c' n=>n
|.a' x y=>x.e ρ+y.e ρ
|.m' k y=>k*y.e ρ
|.n' y k=>y.e ρ*k
|.s' x y=>x.e ρ-y.e ρ
|.x' x y=>max (x.e ρ) (y.e ρ)
def lk(f:Bool):Lx->List (List Int)->Nat->(List Int->List (List Int)->Nat->Bool)->Bool
|.v' i=>λst j k=>k (0::pv i) st j
|.c' n=>λst j k=>k [Int.ofNat n] st j
|.a' x y=>λst j k=>lk f x st j λp st j=>lk f y st j λq st j=>k (pad p q) st j
|.m' n y=>λst j k=>lk f y st j λp st j=>k (fP (Int.ofNat n) p) st j
|.n' y n=>λst j k=>lk f y st j λp st j=>k (fP (Int.ofNat n) p) st j
|.s' x y=>λst j k=>lk f x st j λp st j=>lk f y st j λq st j=>
   cond f (k (pad p (fP (-1) q)) (pad p (fP (-1) q)::st) (2*j+1)&&k [] (pad q (fP (-1) p)::st) (2*j+2)) (k (pad p (fP (-1) q)) st j)
|.x' x y=>λst j k=>lk f x st j λp st j=>lk f y st j λq st j=>
   k p (pad p (fP (-1) q)::st) (2*j+1)&&k q (pad q (fP (-1) p)::st) (2*j+2)
def hk(f:Bool):List (Bool×Lx×Lx)->List (List Int)->Nat->(List (List Int)->Nat->Bool)->Bool
|[]=>λst j k=>k st j
|(b,l,r)::t=>λst j k=>lk f l st j λp st j=>lk f r st j λq st j=>
   hk f t (cond b (pad p (fP (-1) q)::pad q (fP (-1) p)::st) (pad q (fP (-1) p)::st)) j k
def comb:List Nat->List (List Int)->List Int
|c::r,p::st=>pad (fP (Int.ofNat c) p) (comb r st)
|_,_=>[]
def low(f:Bool):List Int->Bool
|[]=>true
|k::p=>cond f (decide (k<=0)) (decide (k=0))&&low f p
def DQ(f:Bool):List Int->Bool
|k::p=>decide (k<0)&&low f p
|[]=>false
def DR:List (List Nat)->Nat->List Nat
|[],_=>[]
|x::_,0=>x
|_::r,n+1=>DR r n
def ck(f:Bool)(P:List (Bool×Lx×Lx)×Lx×Lx×List (List Nat)):Bool:=
 hk f P.1 [] 0 λst j=>lk f P.2.1 st j λp st j=>lk f P.2.2.1 st j λq st j=>
  DQ f (comb (DR P.2.2.2 j) (pad (pad p (fP (-1) q)) [-1]::st))
def Hy(R:Bool->Lx->Lx->Prop):List (Bool×Lx×Lx)->Prop->Prop
|[],G=>G
|(b,l,r)::t,G=>R b l r->Hy R t G
theorem qV:∀p q r:List Int,pe (pad p q) r=pe p r+pe q r
|[]=>λq r=>(Int.zero_add _).symm
|k::p=>λq r=>by
  cases q with
  |nil=>exact(Int.add_zero _).symm
  |cons l q=>cases r with
   |nil=>rfl
   |cons x r=>exact(congrArg (·+_) (Int.add_mul k l x)).trans ((congrArg (_+·) (qV p q r)).trans ((Int.add_assoc _ _ _).trans ((congrArg (_+·) (Int.add_left_comm _ _ _)).trans (Int.add_assoc _ _ _).symm)))
theorem q7(k:Int):∀p r:List Int,pe (fP k p) r=k*pe p r
|[]=>λr=>(Int.mul_zero _).symm
|l::p=>λr=>by
  cases r with
  |nil=>exact(Int.mul_zero _).symm
  |cons x r=>exact(congrArg (_+·) (q7 k p r)).trans ((congrArg (·+_) (Int.mul_assoc k l x)).trans (Int.mul_add _ _ _).symm)
theorem tA{p q r:List Int}{a b:Int}(h1:pe p r=a)(h2:pe q r=b):pe (pad p (fP (-1) q)) r=a-b:=by rw[qV,q7,h1,h2,Int.neg_one_mul];rfl
theorem DS:∀(i:Nat)(r:List Int),pe (pv i) r=pat r i
|0=>λr=>by cases r with|nil=>rfl|cons x r=>exact(Int.add_zero _).trans (Int.one_mul x)
|n+1=>λr=>by cases r with|nil=>rfl|cons x r=>exact(congrArg (·+_) (Int.zero_mul x)).trans ((Int.zero_add _).trans (DS n r))
section
variable{f:Bool}{ρ:List Int}{C:Prop}
def Al(ρ:List Int):List (List Int)->Prop
|[]=>True
|p::st=>0<=pe p (1::ρ)/\Al ρ st
theorem Al.sub{st:List (List Int)}{p q:List Int}{a b:Int}(h1:pe p (1::ρ)=a)(h2:pe q (1::ρ)=b)(h:b<=a)(al:Al ρ st):Al ρ (pad p (fP (-1) q)::st):=⟨tA h1 h2▸Int.sub_nonneg_of_le h,al⟩
theorem ia:∀(e:Lx){st:List (List Int)}{j:Nat}{k:List Int->List (List Int)->Nat->Bool},lk f e st j k=true->Al ρ st->
  (∀p st j,k p st j=true->pe p (1::ρ)=e.d f ρ->Al ρ st->C)->C
|.v' i=>λh a K=>K _ _ _ h (DS (i+1) _) a
|.c' n=>λh a K=>K _ _ _ h ((Int.add_zero _).trans (Int.mul_one _)) a
|.a' x y=>λh a K=>ia x h a λp st j h e1 a=>ia y h a λq st j h e2 a=>K _ _ _ h ((qV p q _).trans ((congrArg (·+_) e1).trans (congrArg (_+·) e2))) a
|.m' n y=>λh a K=>ia y h a λp st j h e1 a=>K _ _ _ h ((q7 _ p _).trans (congrArg (_ * ·) e1)) a
|.n' y n=>λh a K=>ia y h a λp st j h e1 a=>K _ _ _ h ((q7 _ p _).trans ((congrArg (_ * ·) e1).trans (Int.mul_comm _ _))) a
|.s' x y=>λh a K=>ia x h a λp st j h e1 a=>ia y h a λq st j h e2 a=>by
  cases f with
  |false=>exact K _ _ _ h (tA e1 e2) a
  |true=>exact(Int.le_total (y.d true ρ) (x.d true ρ)).elim (λhc=>K _ _ _ (Bool.and_eq_true_iff.mp h).1 ((tA e1 e2).trans (Int.toNat_of_nonneg (Int.sub_nonneg_of_le hc)).symm) (.sub e1 e2 hc a)) (λhc=>K _ _ _ (Bool.and_eq_true_iff.mp h).2 (congrArg Int.ofNat (Int.toNat_of_nonpos (Int.sub_nonpos_of_le hc)).symm) (.sub e2 e1 hc a))
|.x' x y=>λh a K=>ia x h a λp st j h e1 a=>ia y h a λq st j h e2 a=>
  (Int.le_total (y.d f ρ) (x.d f ρ)).elim (λhc=>K _ _ _ (Bool.and_eq_true_iff.mp h).1 (e1.trans (Int.max_eq_left hc).symm) (.sub e1 e2 hc a)) (λhc=>K _ _ _ (Bool.and_eq_true_iff.mp h).2 (e2.trans (Int.max_eq_right hc).symm) (.sub e2 e1 hc a))
theorem Bn:∀(c:List Nat)(st:List (List Int)),Al ρ st->0<=pe (comb c st) (1::ρ)
|[]=>λ_ _=>a8 _
|c::r=>λst a=>by
  cases st with
  |nil=>exact a8 _
  |cons p st=>exact qV _ _ _▸q7 _ p _▸Int.add_nonneg (Int.mul_nonneg (iM c) a.1) (Bn r st a.2)
def Nn(f:Bool):List Int->Prop
|[]=>True
|x::r=>(f=true->0<=x)/\Nn f r
theorem BW:∀(p r:List Int),Nn f r->low f p=true->pe p r<=0
|[]=>λ_ _ _=>a8 _
|k::p=>λr hr h=>by
  cases r with
  |nil=>exact a8 _
  |cons x r=>
   refine Int.add_nonpos ?_ (BW p r hr.2 (Bool.and_eq_true_iff.mp h).2);cases f with
   |true=>exact Int.mul_nonpos_of_nonpos_of_nonneg (of_decide_eq_true (Bool.and_eq_true_iff.mp h).1) (hr.1 rfl)
   |false=>exact Int.le_of_eq (of_decide_eq_true (Bool.and_eq_true_iff.mp h).1▸Int.zero_mul x)
theorem J6(hr:Nn f ρ):∀{p:List Int},DQ f p=true->pe p (1::ρ)<0
|[]=>λh=>Bool.noConfusion h
|k::p=>λh=>Int.add_neg_of_neg_of_nonpos ((Int.mul_one k).symm▸of_decide_eq_true (Bool.and_eq_true_iff.mp h).1) (BW p ρ hr (Bool.and_eq_true_iff.mp h).2)
theorem xi{R:Bool->Lx->Lx->Prop}{G:Prop}(hR:∀b l r,R b l r->cond b (l.d f ρ=r.d f ρ) (l.d f ρ<=r.d f ρ)):∀(hs:List (Bool×Lx×Lx)){st:List (List Int)}{j:Nat}{k:List (List Int)->Nat->Bool},hk f hs st j k=true->Al ρ st->
  (∀st j,k st j=true->Al ρ st->G)->Hy R hs G
|[]=>λh a K=>K _ _ h a
|(true,l,r)::t=>λh a K q=>ia l h a λp st j h e1 a=>ia r h a λq' st j h e2 a=>xi hR t h (.sub e1 e2 (Int.le_of_eq (hR _ _ _ q:l.d f ρ=r.d f ρ).symm) (.sub e2 e1 (Int.le_of_eq (hR _ _ _ q:l.d f ρ=r.d f ρ)) a)) K
|(false,l,r)::t=>λh a K q=>ia l h a λp st j h e1 a=>ia r h a λq' st j h e2 a=>xi hR t h (.sub e2 e1 (hR _ _ _ q:l.d f ρ<=r.d f ρ) a) K
theorem CQ{R:Bool->Lx->Lx->Prop}(hr:Nn f ρ)(hR:∀b l r,R b l r->cond b (l.d f ρ=r.d f ρ) (l.d f ρ<=r.d f ρ))(P:List (Bool×Lx×Lx)×Lx×Lx×List (List Nat))(h:ck f P=true):
  Hy R P.1 (P.2.1.d f ρ<=P.2.2.1.d f ρ):=
 xi hR P.1 h trivial λst j h a=>ia P.2.1 h a λp st j h e1 a=>ia P.2.2.1 h a λq st j h e2 a=>Int.not_lt.mp λhl=>
  Int.not_le.mpr (J6 hr h) (Bn _ (_::_) ⟨(qV (pad p (fP (-1) q)) [-1] (1::ρ)).symm▸tA e1 e2▸Int.sub_nonneg_of_le (Int.add_one_le_of_lt (Int.sub_pos_of_lt hl)),a⟩)
end
theorem Bo:∀(ρ:List Nat)(i:Nat),pat (ρ.map Int.ofNat) i=Int.ofNat (nat ρ i)
|[]=>λ_=>rfl
|x::r=>λi=>by cases i with|zero=>rfl|succ n=>exact Bo r n
theorem e_d(ρ:List Nat):∀e:Lx,e.d true (ρ.map Int.ofNat)=Int.ofNat (e.e ρ)
|.v' i=>Bo ρ i
|.c' n=>rfl
|.a' x y=>(congrArg (·+_) (e_d ρ x)).trans (congrArg (_+·) (e_d ρ y))
|.m' k y=>congrArg (_ * ·) (e_d ρ y)
|.n' y k=>congrArg (· * _) (e_d ρ y)
|.s' x y=>(congrArg (λa=>Int.ofNat (a-y.d true (ρ.map Int.ofNat)).toNat) (e_d ρ x)).trans ((congrArg (λa=>Int.ofNat (Int.ofNat (x.e ρ)-a).toNat) (e_d ρ y)).trans (congrArg Int.ofNat (Int.toNat_sub (x.e ρ) (y.e ρ))))
|.x' x y=>(congrArg (max · _) (e_d ρ x)).trans ((congrArg (max _ ·) (e_d ρ y)).trans ((Nat.le_total (y.e ρ) (x.e ρ)).elim (λh=>(Int.max_eq_left (Int.ofNat_le.mpr h)).trans (congrArg Int.ofNat (Nat.max_eq_left h).symm)) λh=>(Int.max_eq_right (Int.ofNat_le.mpr h)).trans (congrArg Int.ofNat (Nat.max_eq_right h).symm)))
theorem BX:∀ρ:List Nat,Nn true (ρ.map Int.ofNat)
|[]=>trivial
|x::r=>⟨λ_=>iM x,BX r⟩
theorem DT:∀ρ:List Int,Nn false ρ
|[]=>trivial
|x::r=>⟨λh=>Bool.noConfusion h,DT r⟩
def d8:Nat->Nat->List Lx->List (Bool×Lx×Lx)->List (List Nat)->List (Bool×Lx×Lx)×Lx×Lx×List (List Nat)
|0=>λ_ st hs cs=>(hs,.c' 0,.c' 0,cs)
|k+1=>λn st hs cs=>
  bif n % 64==0 then match st with|r::l::_=>(hs,l,r,cs)|_=>(hs,.c' 0,.c' 0,cs)
  else bif Nat.ble 32 (n % 64) then d8 k (n/64) (.c' (n % 64-32)::st) hs cs
  else bif Nat.ble 12 (n % 64) then d8 k (n/64) (.v' (n % 64-12)::st) hs cs
  else bif n % 64==8 then d8 k (n/64) st hs ([]::cs)
  else bif n % 64==9 then match cs with|c::cs=>d8 k (n/64/64) st hs ((n/64 % 64::c)::cs)|_=>(hs,.c' 0,.c' 0,cs)
  else match st with
   |.c' y::x::t=>bif n % 64==7 then d8 k (n/64/64) (.c' (y*64+n/64 % 64)::x::t) hs cs
    else bif n % 64==1 then d8 k (n/64) (.a' x (.c' y)::t) hs cs else bif n % 64==2 then d8 k (n/64) (.s' x (.c' y)::t) hs cs else bif n % 64==3 then d8 k (n/64) (.x' x (.c' y)::t) hs cs
    else bif n % 64==4 then d8 k (n/64) (.n' x y::t) hs cs else bif n % 64==5 then d8 k (n/64) t ((false,x,.c' y)::hs) cs else d8 k (n/64) t ((true,x,.c' y)::hs) cs
   |y::x::t=>bif n % 64==1 then d8 k (n/64) (.a' x y::t) hs cs else bif n % 64==2 then d8 k (n/64) (.s' x y::t) hs cs else bif n % 64==3 then d8 k (n/64) (.x' x y::t) hs cs
    else bif n % 64==4 then(match x with|.c' q=>d8 k (n/64) (.m' q y::t) hs cs|_=>(hs,.c' 0,.c' 0,cs)) else bif n % 64==5 then d8 k (n/64) t ((false,x,y)::hs) cs else d8 k (n/64) t ((true,x,y)::hs) cs
   |.c' y::[]=>d8 k (n/64/64) [.c' (y*64+n/64 % 64)] hs cs
   |_=>(hs,.c' 0,.c' 0,cs)
theorem lI(n:Nat)(ρ:List Int)(h:ck false (d8 300 n [] [] [])=true):Hy (λb l r=>cond b (l.d false ρ=r.d false ρ) (l.d false ρ<=r.d false ρ)) (d8 300 n [] [] []).1 ((d8 300 n [] [] []).2.1.d false ρ<=(d8 300 n [] [] []).2.2.1.d false ρ):=
 CQ (DT ρ) (λ_ _ _ h=>h) _ h
theorem lN(n:Nat)(ρ:List Nat)(h:ck true (d8 300 n [] [] [])=true):Hy (λb l r=>cond b (l.e ρ=r.e ρ) (l.e ρ<=r.e ρ)) (d8 300 n [] [] []).1 ((d8 300 n [] [] []).2.1.e ρ<=(d8 300 n [] [] []).2.2.1.e ρ):=
 (propext Int.ofNat_le:(Int.ofNat _<=Int.ofNat _)=_)▸e_d ρ (d8 300 n [] [] []).2.1▸e_d ρ (d8 300 n [] [] []).2.2.1▸CQ (R:=λb l r=>cond b (l.e ρ=r.e ρ) (l.e ρ<=r.e ρ)) (BX ρ) (λb l r q=>(e_d ρ l).symm▸(e_d ρ r).symm▸by cases b with|true=>exact congrArg Int.ofNat q|false=>exact Int.ofNat_le.mpr q) _ h
theorem nb{a b:Nat}(h:Nat.ble a b=true):a<=b:=Nat.le_of_ble_eq_true h
theorem p6{j:Int}{n:Nat}(a:0<=j)(b:j<n):j.toNat<n:=(Int.toNat_lt a).mpr b
theorem yv{x:Int}{j n:Nat}(h:x<n)(e:x=j):j<n:=Int.ofNat_lt.mp (e▸h)
theorem ER{j:Nat}(h:j<2):j=0∨j=1:=match j,h with
|0,_=>.inl rfl
|1,_=>.inr rfl
theorem ES(x:Int):(x.fmod 2).toNat=0∨(x.fmod 2).toNat=1:=ER (p6 (Int.fmod_nonneg_of_pos _ (by decide)) (Int.fmod_lt_of_pos _ (by decide)))
theorem m2(x:Int):x.fmod 2=0∨x.fmod 2=1:=(ES x).imp (λh=>Int.le_antisymm (Int.toNat_eq_zero.mp h) (Int.fmod_nonneg_of_pos _ (by decide))) (λh=>Int.toNat_of_nonneg (Int.fmod_nonneg_of_pos x (b:=2) (by decide))▸congrArg Int.ofNat h)
end Qh
namespace Qh
open PySem
set_option backward.match.sparseCases false
inductive V where
|none|bool (b:Bool)|int (i:Int)|str (s:Str)|aB (vs:List V)|ref (i:Nat)|ct
inductive O where
|ah (vs:List V)|ay (es:List (Str×V))|inst (c d:Nat)|cU (n:Int)
noncomputable abbrev H:=List O
inductive Res(α:Type) where
|ok (a:α) (σ:H)|aF (c:Nat) (σ:H)|bad
def M(α:Type):=H->Res α
def M.pure{α:Type}(a:α):M α:=λσ=>.ok a σ
def M.bind{α β:Type}(m:M α)(f:α->M β):M β:=λσ=>match m σ with
|.ok a ag=>f a ag
|.aF c ag=>.aF c ag
|.bad=>.bad
def M.fail{α:Type}:M α:=λ_=>.bad
def cX{α:Type}:Option α->M α
|some a=>M.pure a
|none=>M.fail
def cP(i:Nat):M O:=λσ=>match σ[i]? with|some o=>.ok o σ|none=>.bad
def iD(i:Nat)(o:O):M Unit:=λσ=>.ok () (σ.set i o)
def cY(o:O):M V:=λσ=>.ok (.ref σ.length) (σ++[o])
def aM:Nat:=1000000
noncomputable abbrev aR:=List (Option V)
def cm:aR->Nat->Option V
|[],_=>none
|x::_,0=>x
|_::r,n+1=>cm r n
def bV:aR->Nat->V->aR
|[],_,_=>[]
|_::r,0,v=>some v::r
|x::r,n+1,v=>x::bV r n v
set_option genCtorIdx false
mutual
inductive E where
|none|bool (b:Bool)|int (i:Int)|str (s:Str)
|aa (i:Nat)|glob (g:Nat)
|aB (es:EL)|ah (es:EL)|ay (ks:List Str) (es:EL)
|aj (op:Operator) (a b:E)|neg (a:E)
|cmp (op:CmpOp) (a b:E)|kU (op op':CmpOp) (a b c:E)
|not (a:E)|and (es:EL)|or (es:EL)
|au (a i:E)|slc (a lo hi:E)
|call (f:Nat) (es:EL)|cq (f:Nat) (o:E) (es:EL)|new (c:Nat)|attr (o:E) (x:Str)
|len (a:E)|toInt (a:E)|toStr (a:E)|sum (a:E)|gT (a:E)|max2 (a b:E)|dU (t:String) (a:E)
|list (a:E)|tuple (a:E)|dict (a:E)|join (a b:E)|get (a k d:E)
|comp (elt:E) (v:Nat) (bk:List Nat) (src:E)|fT (elt:E) (v:Nat) (bk:List Nat) (src test:E)|fB (elt:E) (v:Nat) (bk:List Nat) (n:E)
inductive EL where
|nil|cons (e:E) (r:EL)
end
mutual
inductive S where
|aL (i:Nat) (e:E)|gY (is:List Nat) (e:E)
|eX (o i e:E)|jd (o:E) (x:Str) (e:E)
|append (o e:E)|update (o e:E)|expr (e:E)
|ite (c:E) (t e:SL)|pL (c:E) (b:SL)
|ki (i:Nat) (e:E) (b:SL)|eM (i:Nat) (e:E) (b:SL)|rv (i j:Nat) (a b:E) (bd:SL)
|ret (e:E)|pM|raise (c:Nat) (msg:Str)|gU (b:SL) (c:Nat) (h:SL)
inductive SL where
|nil|cons (s:S) (r:SL)
end
set_option genCtorIdx true
structure Fn where
 arity:Nat
 slots:Nat
 body:SL
def dP:V->M Bool
|.bool b=>M.pure b
|_=>M.fail
def du:V->M Int
|.int b=>M.pure b
|_=>M.fail
def CR:V->M Str
|.str b=>M.pure b
|_=>M.fail
mutual
noncomputable def gE:V->V->Bool
|.none,.none=>true
|.int a,.int b=>a==b
|.str a,.str b=>a==b
|.aB a,.aB b=>kl a b
|_,_=>false
noncomputable def kl:List V->List V->Bool
|[],[]=>true
|a::r,b::t=>gE a b&&kl r t
|_,_=>false
end
mutual
noncomputable def V.deep:V->Nat
|.aB vs=>V.fW vs+1
|_=>0
noncomputable def V.fW:List V->Nat
|[]=>0
|v::r=>max v.deep (V.fW r)
end
mutual
noncomputable def V.cQ:V->Bool
|.none=>true
|.int _=>true
|.str s=>s.cps.all (· < 0x110000)
|.aB vs=>V.ej vs
|_=>false
noncomputable def V.ej:List V->Bool
|[]=>true
|v::r=>v.cQ&&V.ej r
end
def bH:V->M (List V)
|.ref i=>M.bind (cP i) λo=>match o with|.ah vs=>M.pure vs|_=>M.fail
|_=>M.fail
def Bp:V->M (List (Str×V))
|.ref i=>M.bind (cP i) λo=>match o with|.ay vs=>M.pure vs|_=>M.fail
|_=>M.fail
def fX(x y:List V):Bool:=V.ej x&&V.ej y&&decide (V.fW x<=50)&&decide (V.fW y<=50)
def ig:V->V->M Bool
|.str x,.str y=>M.pure (x==y)
|.int x,.int y=>M.pure (x==y)
|.aB x,.aB y=>if fX x y then M.pure (kl x y) else M.fail
|.ref i,.ref j=>M.bind (bH (.ref i)) λx=>M.bind (bH (.ref j)) λy=>if fX x y then M.pure (kl x y) else M.fail
|_,_=>M.fail
def strsOf:List V->Option (List Str)
|[]=>some []
|.str i::r=>(strsOf r).map (i::·)
|_=>none
def cS(es:List (Str×V))(k:Str):Option V:=(es.find? λe=>e.1=k).map (·.2)
def bc(es:List (Str×V))(k:Str)(v:V):List (Str×V):=
 if es.any (λe=>e.1=k) then es.map (λe=>if e.1=k then(e.1,v) else e) else es++[(k,v)]
def among(x:V)(vs:List V):M Bool:=match x,strsOf vs with
|.str k,some ys=>M.pure (ys.any (·==k))
|_,_=>if fX [x] vs then M.pure (vs.any λy=>gE y x) else M.fail
def iq(x c:V):M Bool:=match c with
|.aB vs=>among x vs
|.str s=>match x with
  |.str y=>if y.cps.size=1 then M.pure (decide (y.cps.getD 0 0∈s.cps.toList)) else M.fail
  |_=>M.fail
|.ref i=>M.bind (cP i) λo=>match o with
  |.ah vs=>among x vs
  |.ay es=>match x with
   |.str k=>M.pure (cS es k).isSome
   |_=>M.fail
  |_=>M.fail
|_=>M.fail
def dJ(op:CmpOp)(a b:V):M Bool:=match op with
|.Eq=>ig a b
|.NotEq=>M.bind (ig a b) λx=>M.pure !x
|.Lt=>M.bind (du a) λx=>M.bind (du b) λy=>M.pure (decide (x<y))
|.Gt=>M.bind (du a) λx=>M.bind (du b) λy=>M.pure (decide (y<x))
|.LtE=>M.bind (du a) λx=>M.bind (du b) λy=>M.pure (decide (x<=y))
|.In=>iq a b
|.NotIn=>M.bind (iq a b) λx=>M.pure !x
|_=>M.fail
def small(i:Int):Bool:=decide (-(2^64)<i)&&decide (i<2^64)
def arith(f:Int->Int->M V)(a b:V):M V:=match a,b with
|.int x,.int y=>f x y
|_,_=>M.fail
def xO(a b:V):M V:=match a,b with
|.int x,.int y=>M.pure (.int (x+y))
|.str x,.str y=>if x.length+y.length<=aM then M.pure (.str (x++y)) else M.fail
|.aB x,.aB y=>if x.length+y.length<=aM then M.pure (.aB (x++y)) else M.fail
|.ref i,.ref j=>M.bind (bH (.ref i)) λx=>M.bind (bH (.ref j)) λy=>if x.length+y.length<=aM then cY (.ah (x++y)) else M.fail
|_,_=>M.fail
def binop(op:Operator)(a b:V):M V:=match op with
|.Add=>xO a b
|.Sub=>arith (λx y=>M.pure (.int (x-y))) a b
|.Mult=>arith (λx y=>if small x||small y then M.pure (.int (x*y)) else M.fail) a b
|.Mod=>arith (λx y=>if y=0 then M.fail else M.pure (.int (x.fmod y))) a b
|.FloorDiv=>arith (λx y=>if y=0∨¬ y.natAbs<1073741824 then M.fail else M.pure (.int (x.fdiv y))) a b
|.Pow=>arith (λx y=>if small x/\0<=y/\y<=1000 then M.pure (.int (x^y.toNat)) else M.fail) a b
|_=>M.fail
def fc{α:Type}(xs:List α)(k:Int):M α:=if 0<=k/\k<0x4000000000000000 then cX xs[k.toNat]? else M.fail
structure Ctx where
 script:List Int
 consts:Nat->Option V
 call:Nat->List V->M V
 eT:Nat->Nat
 n5:Nat->Nat->Bool
def index(C:Ctx)(a i:V):M V:=match a,i with
|.aB vs,.int k=>fc vs k
|.str s,.int k=>M.bind (fc s.cps.toList k) λc=>M.pure (.str ⟨#[c]⟩)
|.ct,.int k=>M.bind (fc C.script k) λn=>M.pure (.int n)
|.ref j,.int k=>M.bind (bH (.ref j)) λvs=>fc vs k
|.ref j,.str k=>M.bind (cP j) λo=>match o with|.ay es=>cX (cS es k)|_=>M.fail
|_,_=>M.fail
def ke{α:Type}(xs:List α)(lo hi:V):M (List α):=match lo,hi with
|.none,.int h=>if 0<=h/\h<0x4000000000000000 then M.pure (xs.take h.toNat) else M.fail
|.int l,.none=>if 0<=l/\l<0x4000000000000000 then M.pure (xs.drop l.toNat) else M.fail
|.int l,.int h=>if 0<=l/\l<0x4000000000000000/\0<=h/\h<0x4000000000000000 then M.pure ((xs.take h.toNat).drop l.toNat) else M.fail
|_,_=>M.fail
def BY:V->V->Bool
|.int _,.int _=>false
|_,_=>true
def slice(a lo hi:V):M V:=match a with
|.aB vs=>M.bind (ke vs lo hi) λr=>if vs.length<=aM then M.pure (.aB r) else M.fail
|.ref i=>M.bind (bH (.ref i)) λvs=>M.bind (ke vs lo hi) λr=>if BY lo hi/\vs.length<=aM then cY (.ah r) else M.fail
|_=>M.fail
def lenOf(C:Ctx):V->M V
|.aB vs=>if vs.length<=aM then M.pure (.int vs.length) else M.fail
|.str s=>if s.length<=aM then M.pure (.int s.length) else M.fail
|.ct=>M.pure (.int C.script.length)
|.ref i=>M.bind (bH (.ref i)) λvs=>if vs.length<=aM then M.pure (.int vs.length) else M.fail
|_=>M.fail
def intsOf:List V->Option (List Int)
|[]=>some []
|.int i::r=>(intsOf r).map (i::·)
|_=>none
def pO:List Int->Int
|[]=>0
|x::r=>r.foldl (λb v=>if v>b then v else b) x
def gP:List String:=["int","bool","str","tuple","list"]
def dU(t:String)(v:V):M Bool:=match v with
|.int _=>if t∈gP then M.pure (t=="int") else M.fail
|.bool _=>if t="int"∨t="bool" then M.pure true else M.fail
|.str _=>if t∈gP then M.pure (t=="str") else M.fail
|.aB _=>if t∈gP then M.pure (t=="tuple") else M.fail
|.ref i=>M.bind (bH (.ref i)) λ_=>if t="list" then M.pure true else M.fail
|_=>M.fail
def gh(n:Int):Str:=Str.ofString (toString n)
def tB(x:V):M V:=M.bind (dP x) λb=>M.pure (.int (if b then 1 else 0))
def qW(x:V):M V:=M.bind (du x) λi=>if 0<=i/\i<10^10 then M.pure (.str (gh i)) else M.fail
def mY(x:V):M V:=M.bind (bH x) λvs=>M.bind (cX (intsOf vs)) λns=>M.pure (.int ns.sum)
def n6(x:V):M V:=M.bind (bH x) λvs=>M.bind (cX (intsOf vs)) λns=>M.pure (.int (pO ns))
def tY(x y:V):M V:=M.bind (du x) λi=>M.bind (du y) λj=>M.pure (.int (if j>i then j else i))
def pB(x:V):M V:=match x with
|.aB vs=>if vs.length<=aM then cY (.ah vs) else M.fail
|_=>M.fail
def js(x:V):M V:=M.bind (bH x) λvs=>if vs.length<=aM then M.pure (.aB vs) else M.fail
def mK(x:V):M V:=match x with
|.ref i=>M.bind (cP i) λo=>match o with
  |.ay es=>if es.length<=aM then cY (.ay es) else M.fail
  |_=>M.fail
|_=>M.fail
def joinM(x y:V):M V:=M.bind (CR x) λsep=>M.bind (bH y) λvs=>M.bind (cX (strsOf vs)) λss=>if sep.length=0/\(ss.map Str.length).sum<=aM then M.pure (.str (Str.join sep ss)) else M.fail
def getM(x y z:V):M V:=match x,y with
|.ref i,.str s=>M.bind (cP i) λo=>match o with
  |.ay es=>M.pure ((cS es s).getD z)
  |_=>M.fail
|_,_=>M.fail
def ib(v:V):M (Nat×Int):=match v with
|.ref i=>M.bind (cP i) λob=>match ob with
  |.inst _ d=>M.bind (cP d) λod=>match od with
   |.cU n=>M.pure (d,n)
   |_=>M.fail
  |_=>M.fail
|_=>M.fail
def CT(v:V):M V:=M.bind (ib v) λp=>M.pure (.int p.2)
set_option genCtorIdx false in
inductive Src where
|live (i:Nat)|fix (vs:List V)
def srcOf:V->M Src
|.ref i=>M.bind (bH (.ref i)) λ_=>M.pure (.live i)
|.aB vs=>M.pure (.fix vs)
|_=>M.fail
def dK:Src->Nat->M (Option V)
|.fix vs,k=>M.pure vs[k]?
|.live i,k=>M.bind (bH (.ref i)) λvs=>M.pure vs[k]?
def eU:Src->M Nat
|.fix vs=>M.pure vs.length
|.live i=>M.bind (bH (.ref i)) λvs=>M.pure vs.length
def dG(n:Int):List V:=(List.range n.toNat).map λ(k:Nat)=>V.int k
def di(s:Src)(f:V->M (Option V)):Nat->Nat->M (List V)
|0,_=>M.fail
|n+1,k=>M.bind (dK s k) λx=>match x with
  |none=>M.pure []
  |some v=>M.bind (f v) λy=>M.bind (di s f n (k+1)) λr=>M.pure (y.toList++r)
def cK(L:aR)(bk:List Nat):aR:=L.zipIdx.map λp=>if bk.contains p.2 then p.1 else none
mutual
noncomputable def ao(C:Ctx):E->aR->M V
|.none,_=>M.pure .none
|.bool b,_=>M.pure (.bool b)
|.int i,_=>M.pure (.int i)
|.str s,_=>M.pure (.str s)
|.aa i,L=>cX (cm L i)
|.glob g,_=>cX (C.consts g)
|.aB es,L=>M.bind (dc C es L) λvs=>if vs.length<=aM then M.pure (.aB vs) else M.fail
|.ah es,L=>M.bind (dc C es L) λvs=>if vs.length<=aM then cY (.ah vs) else M.fail
|.ay ks es,L=>M.bind (dc C es L) λvs=>if ks.length=vs.length/\ks.Nodup/\ks.length<=15 then cY (.ay (ks.zip vs)) else M.fail
|.aj op a b,L=>M.bind (ao C a L) λx=>M.bind (ao C b L) λy=>binop op x y
|.neg a,L=>M.bind (ao C a L) λx=>M.bind (du x) λi=>M.pure (.int (-i))
|.cmp op a b,L=>M.bind (ao C a L) λx=>M.bind (ao C b L) λy=>M.bind (dJ op x y) λr=>M.pure (.bool r)
|.kU op op' a b c,L=>M.bind (ao C a L) λx=>M.bind (ao C b L) λy=>M.bind (dJ op x y) λr=>if r then M.bind (ao C c L) λz=>M.bind (dJ op' y z) λr'=>M.pure (.bool r') else M.pure (.bool false)
|.not a,L=>M.bind (ao C a L) λx=>M.bind (dP x) λb=>M.pure (.bool !b)
|.and es,L=>mO C es L
|.or es,L=>rA C es L
|.au a i,L=>M.bind (ao C a L) λx=>M.bind (ao C i L) λy=>index C x y
|.slc a lo hi,L=>M.bind (ao C a L) λx=>M.bind (ao C lo L) λl=>M.bind (ao C hi L) λh=>slice x l h
|.call f es,L=>M.bind (dc C es L) λvs=>C.call f vs
|.cq f o es,L=>M.bind (ao C o L) λx=>M.bind (ib x) λ_=>M.bind (dc C es L) λvs=>C.call f (x::vs)
|.new c,_=>M.bind (cY (.cU 0)) λd=>match d with
  |.ref j=>cY (.inst c j)
  |_=>M.fail
|.attr o _,L=>M.bind (ao C o L) λv=>CT v
|.len a,L=>M.bind (ao C a L) λx=>lenOf C x
|.toInt a,L=>M.bind (ao C a L) λx=>tB x
|.toStr a,L=>M.bind (ao C a L) λx=>qW x
|.sum a,L=>M.bind (ao C a L) λx=>mY x
|.gT a,L=>M.bind (ao C a L) λx=>n6 x
|.max2 a b,L=>M.bind (ao C a L) λx=>M.bind (ao C b L) λy=>tY x y
|.dU t a,L=>M.bind (ao C a L) λx=>M.bind (dU t x) λb=>M.pure (.bool b)
|.list a,L=>M.bind (ao C a L) λx=>pB x
|.tuple a,L=>M.bind (ao C a L) λx=>js x
|.dict a,L=>M.bind (ao C a L) λx=>mK x
|.join a b,L=>M.bind (ao C a L) λx=>M.bind (ao C b L) λy=>joinM x y
|.get a k d,L=>M.bind (ao C a L) λx=>M.bind (Bp x) λ_=>M.bind (ao C k L) λy=>M.bind (ao C d L) λz=>getM x y z
|.comp elt v bk src,L=>M.bind (ao C src L) λx=>M.bind (srcOf x) λsr=>M.bind (eU sr) λn=>
   if n<=aM then M.bind (di sr (λit=>M.bind (ao C elt (bV (cK L bk) v it)) λy=>M.pure (some y)) (n+1) 0) λvs=>cY (.ah vs) else M.fail
|.fT elt v bk src test,L=>M.bind (ao C src L) λx=>M.bind (srcOf x) λsr=>M.bind (eU sr) λn=>
   if n<=aM then M.bind (di sr (λit=>M.bind (bR C test (bV (cK L bk) v it)) λb=>if b then M.bind (ao C elt (bV (cK L bk) v it)) λy=>M.pure (some y) else M.pure none) (n+1) 0) λvs=>cY (.ah vs) else M.fail
|.fB elt v bk e,L=>M.bind (ao C e L) λx=>M.bind (du x) λn=>if 0<=n/\n<=1000000 then
   M.bind (di (.fix (dG n)) (λit=>M.bind (ao C elt (bV (cK L bk) v it)) λy=>M.pure (some y)) (n.toNat+1) 0) λvs=>cY (.ah vs) else M.fail
noncomputable def dc(C:Ctx):EL->aR->M (List V)
|.nil,_=>M.pure []
|.cons e r,L=>M.bind (ao C e L) λv=>M.bind (dc C r L) λvs=>M.pure (v::vs)
noncomputable def mO(C:Ctx):EL->aR->M V
|.nil,_=>M.fail
|.cons e .nil,L=>M.bind (ao C e L) λv=>M.bind (dP v) λb=>M.pure (.bool b)
|.cons e r,L=>M.bind (ao C e L) λv=>M.bind (dP v) λb=>if b then mO C r L else M.pure (.bool false)
noncomputable def rA(C:Ctx):EL->aR->M V
|.nil,_=>M.fail
|.cons e .nil,L=>M.bind (ao C e L) λv=>M.bind (dP v) λb=>M.pure (.bool b)
|.cons e r,L=>M.bind (ao C e L) λv=>M.bind (dP v) λb=>if b then M.pure (.bool true) else rA C r L
noncomputable def bR(C:Ctx):E->aR->M Bool
|.not a,L=>M.bind (bR C a L) λb=>M.pure !b
|.and es,L=>jy C es L
|.or es,L=>jz C es L
|.cmp op a b,L=>M.bind (ao C a L) λx=>M.bind (ao C b L) λy=>dJ op x y
|.kU op op' a b c,L=>M.bind (ao C a L) λx=>M.bind (ao C b L) λy=>M.bind (dJ op x y) λr=>if r then M.bind (ao C c L) λz=>dJ op' y z else M.pure false
|.bool b,_=>M.pure b
|.aa i,L=>M.bind (cX (cm L i)) dP
|.call f es,L=>M.bind (M.bind (dc C es L) λvs=>C.call f vs) dP
|.dU t a,L=>M.bind (ao C a L) λx=>dU t x
|.au a i,L=>M.bind (M.bind (ao C a L) λx=>M.bind (ao C i L) λy=>index C x y) dP
|.none,_=>M.fail
|.int _,_=>M.fail
|.str _,_=>M.fail
|.glob _,_=>M.fail
|.aB _,_=>M.fail
|.ah _,_=>M.fail
|.ay _ _,_=>M.fail
|.aj _ _ _,_=>M.fail
|.neg _,_=>M.fail
|.slc _ _ _,_=>M.fail
|.cq _ _ _,_=>M.fail
|.new _,_=>M.fail
|.attr _ _,_=>M.fail
|.len _,_=>M.fail
|.toInt _,_=>M.fail
|.toStr _,_=>M.fail
|.sum _,_=>M.fail
|.gT _,_=>M.fail
|.max2 _ _,_=>M.fail
|.list _,_=>M.fail
|.tuple _,_=>M.fail
|.dict _,_=>M.fail
|.join _ _,_=>M.fail
|.get _ _ _,_=>M.fail
|.comp _ _ _ _,_=>M.fail
|.fT _ _ _ _ _,_=>M.fail
|.fB _ _ _ _,_=>M.fail
noncomputable def jy(C:Ctx):EL->aR->M Bool
|.nil,_=>M.pure true
|.cons e r,L=>M.bind (bR C e L) λb=>if b then jy C r L else M.pure false
noncomputable def jz(C:Ctx):EL->aR->M Bool
|.nil,_=>M.pure false
|.cons e r,L=>M.bind (bR C e L) λb=>if b then M.pure true else jz C r L
end
set_option genCtorIdx false in
inductive Fl where
|next|brk|cont|ret (v:V)
inductive RN(α:Type) where
|ok (a:α) (L:aR) (σ:H)|aF (c:Nat) (L:aR) (σ:H)|bad
def N(α:Type):=aR->H->RN α
def N.pure{α:Type}(a:α):N α:=λL σ=>.ok a L σ
def N.bind{α β:Type}(m:N α)(f:α->N β):N β:=λL σ=>match m L σ with
|.ok a L' ag=>f a L' ag
|.aF c L' ag=>.aF c L' ag
|.bad=>.bad
def N.lift{α:Type}(m:aR->M α):N α:=λL σ=>match m L σ with
|.ok a ag=>.ok a L ag
|.aF c ag=>.aF c L ag
|.bad=>.bad
def N.put(i:Nat)(v:V):N Unit:=λL σ=>.ok () (bV L i v) σ
def N.fail{α:Type}:N α:=λ_ _=>.bad
def N.fM:List Nat->List V->N Unit
|[],[]=>N.pure ()
|i::is,v::vs=>N.bind (N.put i v) λ_=>N.fM is vs
|_,_=>N.fail
def tC(t:N Bool)(b:N Fl):Nat->N Fl
|0=>N.fail
|n+1=>N.bind t λc=>if c then N.bind b λf=>match f with
   |.next=>tC t b n
   |.cont=>tC t b n
   |.brk=>N.pure .next
   |.ret v=>N.pure (.ret v)
  else N.pure .next
def eB(at_:Nat->M (Option (List (Nat×V))))(b:N Fl):Nat->Nat->N Fl
|0,_=>N.fail
|n+1,k=>N.bind (N.lift λ_=>at_ k) λx=>match x with
  |none=>N.pure .next
  |some ps=>N.bind (N.fM (ps.map (·.1)) (ps.map (·.2))) λ_=>N.bind b λf=>match f with
   |.next=>eB at_ b n (k+1)
   |.cont=>eB at_ b n (k+1)
   |.brk=>N.pure .next
   |.ret v=>N.pure (.ret v)
def iu(o i e:V):M Unit:=match o,i with
|.ref j,.int k=>M.bind (bH (.ref j)) λvs=>if 0<=k/\k<vs.length/\vs.length<=aM then iD j (.ah (vs.set k.toNat e)) else M.fail
|.ref j,.str k=>M.bind (cP j) λob=>match ob with|.ay es=>if es.length<=aM then iD j (.ay (bc es k e)) else M.fail|_=>M.fail
|_,_=>M.fail
def sM(o e:V):M Unit:=M.bind (ib o) λp=>M.bind (du e) λm=>iD p.1 (.cU m)
def qM(o e:V):M Unit:=match o with
|.ref j=>M.bind (bH (.ref j)) λvs=>if vs.length<=aM then iD j (.ah (vs++[e])) else M.fail
|_=>M.fail
def CU:List (Str×V)->List (Str×V)->List (Str×V)
|es,[]=>es
|es,(k,v)::r=>CU (bc es k v) r
def J7(o e:V):M Unit:=match o,e with
|.ref i,.ref j=>M.bind (cP i) λa=>M.bind (cP j) λb=>match a,b with
  |.ay x,.ay y=>if x.length+y.length<=aM/\i≠j then iD i (.ay (CU x y)) else M.fail
  |_,_=>M.fail
|_,_=>M.fail
def Me(us ws:List V)(i j k:Nat):Option (List (Nat×V)):=us[k]?.bind λu=>ws[k]?.map λw=>[(i,u),(j,w)]
def CV:V->M (List V)
|.aB vs=>M.pure vs
|_=>M.fail
mutual
noncomputable def cG(C:Ctx):S->N Fl
|.aL i e=>N.bind (N.lift (ao C e)) λv=>N.bind (N.put i v) λ_=>N.pure .next
|.gY is e=>N.bind (N.lift (ao C e)) λv=>match v with
  |.aB vs=>N.bind (N.fM is vs) λ_=>N.pure .next
  |.ref _=>N.bind (N.lift λ_=>bH v) λvs=>N.bind (N.fM is vs) λ_=>N.pure .next
  |_=>N.fail
|.eX o i e=>N.bind (N.lift (ao C e)) λv=>N.bind (N.lift (ao C o)) λx=>N.bind (N.lift (ao C i)) λy=>N.bind (N.lift λ_=>iu x y v) λ_=>N.pure .next
|.jd o _ e=>N.bind (N.lift (ao C e)) λv=>N.bind (N.lift (ao C o)) λov=>N.bind (N.lift λ_=>sM ov v) λ_=>N.pure .next
|.append o e=>N.bind (N.lift (ao C o)) λx=>N.bind (N.lift λ_=>bH x) λ_=>N.bind (N.lift (ao C e)) λv=>N.bind (N.lift λ_=>qM x v) λ_=>N.pure .next
|.update o e=>N.bind (N.lift (ao C o)) λx=>N.bind (N.lift λ_=>Bp x) λ_=>N.bind (N.lift (ao C e)) λv=>N.bind (N.lift λ_=>J7 x v) λ_=>N.pure .next
|.expr e=>N.bind (N.lift (ao C e)) λ_=>N.pure .next
|.ite c t e=>N.bind (N.lift (bR C c)) λb=>if b then a6 C t else a6 C e
|.pL c b=>tC (N.lift (bR C c)) (a6 C b) 100000
|.ki i e b=>N.bind (N.lift (ao C e)) λx=>N.bind (N.lift λ_=>srcOf x) λsr=>N.bind (N.lift λ_=>eU sr) λn=>
   eB (λk=>M.bind (dK sr k) λy=>M.pure (y.map λv=>[(i,v)])) (a6 C b) (n+1) 0
|.eM i e b=>N.bind (N.lift (ao C e)) λx=>N.bind (N.lift λ_=>du x) λn=>if 0<=n/\n<=1000000 then
   eB (λk=>M.pure ((dG n)[k]?.map λv=>[(i,v)])) (a6 C b) (n.toNat+1) 0 else N.fail
|.rv i j a b bd=>N.bind (N.lift (ao C a)) λx=>N.bind (N.lift (ao C b)) λy=>N.bind (N.lift λ_=>CV x) λus=>N.bind (N.lift λ_=>CV y) λws=>
   eB (λk=>M.pure (Me us ws i j k)) (a6 C bd) (us.length+1) 0
|.ret e=>N.bind (N.lift (ao C e)) λv=>N.pure (.ret v)
|.pM=>N.pure (.ret .none)
|.raise c _=>λL σ=>.aF c L σ
|.gU b c h=>λL σ=>match a6 C b L σ with
  |.ok f L' ag=>.ok f L' ag
  |.aF c' L' ag=>if c'=c then a6 C h L' ag else .bad
  |.bad=>.bad
noncomputable def a6(C:Ctx):SL->N Fl
|.nil=>N.pure .next
|.cons s r=>N.bind (cG C s) λf=>match f with
  |.next=>a6 C r
  |f=>N.pure f
end
structure Prog where
 fns:Nat->Option Fn
 consts:Nat->Option V
 eT:Nat->Nat
 n5:Nat->Nat->Bool
def bS:RN Fl->Res V
|.ok (.ret v) _ σ=>.ok v σ
|.ok .next _ σ=>.ok .none σ
|.ok _ _ _=>.bad
|.aF c _ σ=>.aF c σ
|.bad=>.bad
def runM(m:N Fl)(L:aR):M V:=λσ=>bS (m L σ)
def aq(P:Prog)(script:List Int):Nat->Nat->List V->M V
|0,_,_=>M.fail
|n+1,f,vs=>match P.fns f with
  |none=>M.fail
  |some fn=>if vs.length=fn.arity then runM (a6 ⟨script,P.consts,aq P script n,P.eT,P.n5⟩ fn.body) (vs.map some++List.replicate (fn.slots-fn.arity) none) else M.fail
structure Df where
 name:Str
 fn:Fn
 slots:List Str
structure Info where
 defs:List (Option Df)
 consts:List (Option (Str×V))
 meths:List Nat
def Info.df(I:Info)(f:Nat):Option Df:=I.defs[f]?.join
def Info.cn(I:Info)(f:Nat):Option (Str×V):=I.consts[f]?.join
def Info.fns(I:Info)(f:Nat):Option Fn:=(I.df f).map (·.fn)
def Info.prog(I:Info):Prog:=⟨I.fns,λg=>(I.cn g).map (·.2),λ_=>0,λ_ _=>false⟩
set_option backward.match.sparseCases true
section
variable{α:Type}{a b:α}{σ ag:H}{L L':aR}{c c':Nat}{X:Prop}
theorem ff(h:false=true):X:=Bool.noConfusion h
theorem tf(h:true=false):X:=Bool.noConfusion h
theorem bL(h:none=some a):X:=by cases h
theorem d9(h:some a=none):X:=by cases h
theorem dE(h:some a=some b)(k:a=b->X):X:=k (Option.some.inj h)
theorem cR(h:Res.bad=.ok a σ):X:=by cases h
theorem Qq(h:Res.aF c ag=.ok a σ):X:=by cases h
theorem p7(h:Res.ok a ag=.aF c σ):X:=by cases h
theorem kz(h:(Res.bad:Res α)=.aF c σ):X:=by cases h
theorem fg(h:Res.ok a σ=.ok b ag)(k:a=b->σ=ag->X):X:=by cases h;exact k rfl rfl
theorem yw(h:(Res.aF c σ:Res α)=.aF c' ag)(k:c=c'->σ=ag->X):X:=by cases h;exact k rfl rfl
theorem oB(h:RN.bad=.ok a L σ):X:=by cases h
theorem ET(h:RN.aF c L' ag=.ok a L σ):X:=by cases h
theorem iN(h:RN.ok a L' ag=.aF c L σ):X:=by cases h
theorem rT(h:(RN.bad:RN α)=.aF c L σ):X:=by cases h
theorem Qr(h:RN.ok a L σ=.ok b L' ag)(k:a=b->L=L'->σ=ag->X):X:=by cases h;exact k rfl rfl rfl
theorem uI(h:(RN.aF c L σ:RN α)=.aF c' L' ag)(k:c=c'->L=L'->σ=ag->X):X:=by cases h;exact k rfl rfl rfl
theorem iO{i j:Nat}(h:V.ref i=.ref j)(k:i=j->X):X:=k (by cases h;rfl)
theorem fh{mo:α->H->Prop}(h:Res.ok a σ=.ok b ag)(m:mo a σ):mo b ag:=fg h λe e'=>e▸e'▸m
theorem uJ{mo:α->aR->H->Prop}(h:RN.ok a L σ=.ok b L' ag)(m:mo a L σ):mo b L' ag:=Qr h λe e1 e2=>e▸e1▸e2▸m
theorem Qs{mo:Nat->H->Prop}(h:(Res.aF c σ:Res α)=.aF c' ag)(m:mo c σ):mo c' ag:=yw h λe e'=>e▸e'▸m
theorem EU{mo:Nat->aR->H->Prop}(h:(RN.aF c L σ:RN α)=.aF c' L' ag)(m:mo c L σ):mo c' L' ag:=uI h λe e1 e2=>e▸e1▸e2▸m
theorem eJ{mo:α->Prop}(h:some a=some b)(m:mo a):mo b:=Option.some.inj h▸m
end
end Qh
namespace Qh
set_option backward.match.sparseCases false
open PySem
section
theorem nL:ao C .none u1=(M.pure .none):=rfl
theorem nM:ao C (.bool b) u1=(M.pure (.bool b)):=rfl
theorem nN:ao C (.int i) u1=(M.pure (.int i)):=rfl
theorem nO:ao C (.str s) u1=(M.pure (.str s)):=rfl
theorem nP:ao C (.aa i) L=(cX (cm L i)):=rfl
theorem nQ:ao C (.glob g) u1=(cX (C.consts g)):=rfl
theorem mn:ao C (.aB es) L=(M.bind (dc C es L) λvs=>if vs.length<=aM then M.pure (.aB vs) else M.fail):=rfl
theorem mq:ao C (.ah es) L=(M.bind (dc C es L) λvs=>if vs.length<=aM then cY (.ah vs) else M.fail):=rfl
theorem l0:ao C (.aj op a b) L=(M.bind (ao C a L) λx=>M.bind (ao C b L) λy=>binop op x y):=rfl
theorem nC:ao C (.neg a) L=(M.bind (ao C a L) λx=>M.bind (du x) λi=>M.pure (.int (-i))):=rfl
theorem l4:ao C (.cmp op a b) L=(M.bind (ao C a L) λx=>M.bind (ao C b L) λy=>M.bind (dJ op x y) λr=>M.pure (.bool r)):=rfl
theorem nD:ao C (.not a) L=(M.bind (ao C a L) λx=>M.bind (dP x) λb=>M.pure (.bool !b)):=rfl
theorem l5:ao C (.and es) L=(mO C es L):=rfl
theorem nE:ao C (.or es) L=(rA C es L):=rfl
theorem l6:ao C (.au a i) L=(M.bind (ao C a L) λx=>M.bind (ao C i L) λy=>index C x y):=rfl
theorem l7:ao C (.slc a lo hi) L=(M.bind (ao C a L) λx=>M.bind (ao C lo L) λl=>M.bind (ao C hi L) λh=>slice x l h):=rfl
theorem jZ:ao C (.call f es) L=(M.bind (dc C es L) λvs=>C.call f vs):=rfl
theorem vS:ao C (.cq f o es) L=(M.bind (ao C o L) λx=>M.bind (ib x) λ_=>M.bind (dc C es L) λvs=>C.call f (x::vs)):=rfl
theorem IK:ao C (.new c) u1=(M.bind (cY (.cU 0)) λd=>match d with
  |.ref j=>cY (.inst c j)
  |_=>M.fail):=rfl
theorem IL:ao C (.attr o u1) L=(M.bind (ao C o L) λv=>CT v):=rfl
theorem l8:ao C (.len a) L=(M.bind (ao C a L) λx=>lenOf C x):=rfl
theorem l9:ao C (.toInt a) L=(M.bind (ao C a L) λx=>tB x):=rfl
theorem AS:ao C (.toStr a) L=(M.bind (ao C a L) λx=>qW x):=rfl
theorem ma:ao C (.sum a) L=(M.bind (ao C a L) λx=>mY x):=rfl
theorem mc:ao C (.gT a) L=(M.bind (ao C a L) λx=>n6 x):=rfl
theorem IM:ao C (.max2 a b) L=(M.bind (ao C a L) λx=>M.bind (ao C b L) λy=>tY x y):=rfl
theorem nF:ao C (.dU t a) L=(M.bind (ao C a L) λx=>M.bind (dU t x) λb=>M.pure (.bool b)):=rfl
theorem nG:ao C (.list a) L=(M.bind (ao C a L) λx=>pB x):=rfl
theorem IP:ao C (.tuple a) L=(M.bind (ao C a L) λx=>js x):=rfl
theorem IQ:ao C (.dict a) L=(M.bind (ao C a L) λx=>mK x):=rfl
theorem md:ao C (.join a b) L=(M.bind (ao C a L) λx=>M.bind (ao C b L) λy=>joinM x y):=rfl
theorem kG:ao C (.comp elt v bk src) L=(M.bind (ao C src L) λx=>M.bind (srcOf x) λsr=>M.bind (eU sr) λn=>
   if n<=aM then M.bind (di sr (λit=>M.bind (ao C elt (bV (cK L bk) v it)) λy=>M.pure (some y)) (n+1) 0) λvs=>cY (.ah vs) else M.fail):=rfl
theorem IS:ao C (.fT elt v bk src test) L=(M.bind (ao C src L) λx=>M.bind (srcOf x) λsr=>M.bind (eU sr) λn=>
   if n<=aM then M.bind (di sr (λit=>M.bind (bR C test (bV (cK L bk) v it)) λb=>if b then M.bind (ao C elt (bV (cK L bk) v it)) λy=>M.pure (some y) else M.pure none) (n+1) 0) λvs=>cY (.ah vs) else M.fail):=rfl
theorem me:ao C (.fB elt v bk e) L=(M.bind (ao C e L) λx=>M.bind (du x) λn=>if 0<=n/\n<=1000000 then
   M.bind (di (.fix (dG n)) (λit=>M.bind (ao C elt (bV (cK L bk) v it)) λy=>M.pure (some y)) (n.toNat+1) 0) λvs=>cY (.ah vs) else M.fail):=rfl
theorem IT:dc C .nil u1=(M.pure []):=rfl
theorem AU:dc C (.cons e r) L=(M.bind (ao C e L) λv=>M.bind (dc C r L) λvs=>M.pure (v::vs)):=rfl
theorem tb:bR C (.not a) L=(M.bind (bR C a L) λb=>M.pure !b):=rfl
theorem qN:bR C (.and es) L=(jy C es L):=rfl
theorem tc:bR C (.or es) L=(jz C es L):=rfl
theorem td:bR C (.cmp op a b) L=(M.bind (ao C a L) λx=>M.bind (ao C b L) λy=>dJ op x y):=rfl
theorem wd:bR C (.bool b) u1=(M.pure b):=rfl
theorem we:bR C (.aa i) L=(M.bind (cX (cm L i)) dP):=rfl
theorem th:bR C (.call f es) L=(M.bind (M.bind (dc C es L) λvs=>C.call f vs) dP):=rfl
theorem wg:bR C (.dU t a) L=(M.bind (ao C a L) λx=>dU t x):=rfl
theorem sN:bR C (.au a i) L=(M.bind (M.bind (ao C a L) λx=>M.bind (ao C i L) λy=>index C x y) dP):=rfl
theorem HP:jy C (.cons e r) L=(M.bind (bR C e L) λb=>if b then jy C r L else M.pure false):=rfl
theorem HQ:jz C (.cons e r) L=(M.bind (bR C e L) λb=>if b then M.pure true else jz C r L):=rfl
theorem mr:cG C (.aL i e)=(N.bind (N.lift (ao C e)) λv=>N.bind (N.put i v) λ_=>N.pure .next):=rfl
theorem Bq:cG C (.gY is e)=(N.bind (N.lift (ao C e)) λv=>match v with
  |.aB vs=>N.bind (N.fM is vs) λ_=>N.pure .next
  |.ref _=>N.bind (N.lift λ_=>bH v) λvs=>N.bind (N.fM is vs) λ_=>N.pure .next
  |_=>N.fail):=rfl
theorem j2:cG C (.eX o i e)=(N.bind (N.lift (ao C e)) λv=>N.bind (N.lift (ao C o)) λx=>N.bind (N.lift (ao C i)) λy=>N.bind (N.lift λ_=>iu x y v) λ_=>N.pure .next):=rfl
theorem J8:cG C (.jd o u1 e)=(N.bind (N.lift (ao C e)) λv=>N.bind (N.lift (ao C o)) λov=>N.bind (N.lift λ_=>sM ov v) λ_=>N.pure .next):=rfl
theorem kK:cG C (.append o e)=(N.bind (N.lift (ao C o)) λx=>N.bind (N.lift λ_=>bH x) λ_=>N.bind (N.lift (ao C e)) λv=>N.bind (N.lift λ_=>qM x v) λ_=>N.pure .next):=rfl
theorem J9:cG C (.expr e)=(N.bind (N.lift (ao C e)) λ_=>N.pure .next):=rfl
theorem mu:cG C (.ite c t e)=(N.bind (N.lift (bR C c)) λb=>if b then a6 C t else a6 C e):=rfl
theorem mw:cG C (.pL c b)=(tC (N.lift (bR C c)) (a6 C b) 100000):=rfl
theorem mf:cG C (.ki i e b)=(N.bind (N.lift (ao C e)) λx=>N.bind (N.lift λ_=>srcOf x) λsr=>N.bind (N.lift λ_=>eU sr) λn=>
   eB (λk=>M.bind (dK sr k) λy=>M.pure (y.map λv=>[(i,v)])) (a6 C b) (n+1) 0):=rfl
theorem j1:cG C (.eM i e b)=(N.bind (N.lift (ao C e)) λx=>N.bind (N.lift λ_=>du x) λn=>if 0<=n/\n<=1000000 then
   eB (λk=>M.pure ((dG n)[k]?.map λv=>[(i,v)])) (a6 C b) (n.toNat+1) 0 else N.fail):=rfl
theorem mh:cG C (.ret e)=(N.bind (N.lift (ao C e)) λv=>N.pure (.ret v)):=rfl
theorem AV:cG C (.gU b c h)=(λL σ=>match a6 C b L σ with
  |.ok f L' ag=>.ok f L' ag
  |.aF c' L' ag=>if c'=c then a6 C h L' ag else .bad
  |.bad=>.bad):=rfl
theorem o3:a6 C .nil=(N.pure .next):=rfl
theorem o4:a6 C (.cons s r)=(N.bind (cG C s) λf=>match f with
  |.next=>a6 C r
  |f=>N.pure f):=rfl
theorem vC:index C (.aB vs) (.int k)=(fc vs k):=rfl
theorem vD:index C (.str s) (.int k)=(M.bind (fc s.cps.toList k) λc=>M.pure (.str ⟨#[c]⟩)):=rfl
theorem vE:index C .ct (.int k)=(M.bind (fc C.script k) λn=>M.pure (.int n)):=rfl
theorem vF:index C (.ref j) (.int k)=(M.bind (bH (.ref j)) λvs=>fc vs k):=rfl
theorem sD:index C (.ref j) (.str k)=(M.bind (cP j) λo=>match o with|.ay es=>cX (cS es k)|_=>M.fail):=rfl
theorem qw:dJ .Eq a b=(ig a b):=rfl
theorem nh:dJ .NotEq a b=(M.bind (ig a b) λx=>M.pure !x):=rfl
theorem Ab:dJ .Lt a b=(M.bind (du a) λx=>M.bind (du b) λy=>M.pure (decide (x<y))):=rfl
theorem Ac:dJ .Gt a b=(M.bind (du a) λx=>M.bind (du b) λy=>M.pure (decide (y<x))):=rfl
theorem Ad:dJ .LtE a b=(M.bind (du a) λx=>M.bind (du b) λy=>M.pure (decide (x<=y))):=rfl
theorem vG:dJ .In a b=(iq a b):=rfl
theorem vH:dJ .NotIn a b=(M.bind (iq a b) λx=>M.pure !x):=rfl
theorem IU:ig (.str x) (.str y)=(M.pure (x==y)):=rfl
theorem AW:ig (.int x) (.int y)=(M.pure (x==y)):=rfl
theorem IV:ig (.ref i) (.ref j)=(M.bind (bH (.ref i)) λx=>M.bind (bH (.ref j)) λy=>if fX x y then M.pure (kl x y) else M.fail):=rfl
theorem Br:iq x (.ref i)=(M.bind (cP i) λo=>match o with
  |.ah vs=>among x vs
  |.ay es=>match x with
   |.str k=>M.pure (cS es k).isSome
   |_=>M.fail
  |_=>M.fail):=rfl
theorem Ae:lenOf C (.aB vs)=(if vs.length<=aM then M.pure (.int vs.length) else M.fail):=rfl
theorem Af:lenOf C (.str s)=(if s.length<=aM then M.pure (.int s.length) else M.fail):=rfl
theorem Ah:lenOf C .ct=(M.pure (.int C.script.length)):=rfl
theorem vI:lenOf C (.ref i)=(M.bind (bH (.ref i)) λvs=>if vs.length<=aM then M.pure (.int vs.length) else M.fail):=rfl
theorem G7:dU t (.int u1)=(if t∈gP then M.pure (t=="int") else M.fail):=rfl
theorem G8:dU t (.bool u1)=(if t="int"∨t="bool" then M.pure true else M.fail):=rfl
theorem G9:dU t (.str u1)=(if t∈gP then M.pure (t=="str") else M.fail):=rfl
theorem Ha:dU t (.aB u1)=(if t∈gP then M.pure (t=="tuple") else M.fail):=rfl
theorem Hb:dU t (.ref i)=(M.bind (bH (.ref i)) λ_=>if t="list" then M.pure true else M.fail):=rfl
theorem HR:ke xs (.int l) .none=(if 0<=l/\l<0x4000000000000000 then M.pure (xs.drop l.toNat) else M.fail):=rfl
theorem HS:slice (.ref i) lo hi=(M.bind (bH (.ref i)) λvs=>M.bind (ke vs lo hi) λr=>if BY lo hi/\vs.length<=aM then cY (.ah r) else M.fail):=rfl
theorem zr:iu (.ref j) (.int k) e=(M.bind (bH (.ref j)) λvs=>if 0<=k/\k<vs.length/\vs.length<=aM then iD j (.ah (vs.set k.toNat e)) else M.fail):=rfl
theorem GP:iu (.ref j) (.str k) e=(M.bind (cP j) λob=>match ob with|.ay es=>if es.length<=aM then iD j (.ay (bc es k e)) else M.fail|_=>M.fail):=rfl
theorem Hc:strsOf []=(some []):=rfl
theorem Hd:strsOf (.str i::r)=((strsOf r).map (i::·)):=rfl
theorem He:intsOf []=(some []):=rfl
theorem Hf:intsOf (.int i::r)=((intsOf r).map (i::·)):=rfl
theorem sE:du (.int b)=(M.pure b):=rfl
theorem zL:dP (.bool b)=(M.pure b):=rfl
theorem oX:srcOf (.ref i)=(M.bind (bH (.ref i)) λ_=>M.pure (.live i)):=rfl
theorem Ai:srcOf (.aB vs)=(M.pure (.fix vs)):=rfl
theorem sF:dK (.fix vs) k=(M.pure vs[k]?):=rfl
theorem jU:dK (.live i) k=(M.bind (bH (.ref i)) λvs=>M.pure vs[k]?):=rfl
theorem zM:eU (.fix vs)=(M.pure vs.length):=rfl
theorem oV:eU (.live i)=(M.bind (bH (.ref i)) λvs=>M.pure vs.length):=rfl
theorem o5:cm [] u1=(none):=rfl
theorem o6:cm (x::u1) 0=(x):=rfl
theorem o7:cm (u1::r) (n+1)=(cm r n):=rfl
theorem vT:bV [] u1 u2=([]):=rfl
theorem vU:bV (u1::r) 0 v=(some v::r):=rfl
theorem vV:bV (x::r) (n+1) v=(x::bV r n v):=rfl
theorem ni:bS (.ok (.ret v) u1 σ)=(.ok v σ):=rfl
theorem nj:bS (.ok .next u1 σ)=(.ok .none σ):=rfl
theorem nk:bS (.aF c u1 σ)=(.aF c σ):=rfl
theorem nq:bS .bad=(.bad):=rfl
theorem nr:binop .Add (.int x) (.int y)=M.pure (.int (x+y)):=rfl
theorem nu:binop .Sub (.int x) (.int y)=M.pure (.int (x-y)):=rfl
theorem jl:binop .Mult (.int x) (.int y)=(if small x||small y then M.pure (.int (x*y)) else M.fail):=rfl
theorem nv:binop .Mod (.int x) (.int y)=(if y=0 then M.fail else M.pure (.int (x.fmod y))):=rfl
theorem nw:binop .FloorDiv (.int x) (.int y)=(if y=0∨¬ y.natAbs<1073741824 then M.fail else M.pure (.int (x.fdiv y))):=rfl
theorem nx:binop .Pow (.int x) (.int y)=(if small x/\0<=y/\y<=1000 then M.pure (.int (x^y.toNat)) else M.fail):=rfl
theorem ny:binop .Add (.str x) (.str y)=(if x.length+y.length<=aM then M.pure (.str (x++y)) else M.fail):=rfl
theorem nz:binop .Add (.aB x) (.aB y)=(if x.length+y.length<=aM then M.pure (.aB (x++y)) else M.fail):=rfl
theorem nA:binop .Add (.ref i) (.ref j)=(M.bind (bH (.ref i)) λx=>M.bind (bH (.ref j)) λy=>if x.length+y.length<=aM then cY (.ah (x++y)) else M.fail):=rfl
theorem Aj:mO C (.cons e .nil) L=M.bind (ao C e L) λv=>M.bind (dP v) λb=>M.pure (.bool b):=rfl
theorem Ak:mO C (.cons e (.cons e2 r)) L=M.bind (ao C e L) λv=>M.bind (dP v) λb=>if b then mO C (.cons e2 r) L else M.pure (.bool false):=rfl
end
set_option backward.match.sparseCases true
end Qh
set_option tactic.hygienic true
namespace Qh
open PySem PyProof.Rows
structure Gd where
 prog:Program
 w:World
 hb:Heap
 sA:Addr
 script:List Int
 cA:Nat->Addr
 P:Prog
 fN:Nat->Str
 fA:Nat->Addr
 eO:Nat->Bool
 gN:Nat->Str
 res:List Addr
def Gd.re(G:Gd)(R:List Addr):Gd:={G with res:=R}
noncomputable abbrev Gd.mo(G:Gd):=model G.prog G.w
mutual
inductive Rel(G:Gd)(ρ:List Addr)(h:Heap):Value->V->Prop
|none:Rel G ρ h .none .none
|bool (b:Bool):Rel G ρ h (.bool b) (.bool b)
|int (i:Int) (t:Tok):Rel G ρ h (.int i t) (.int i)
|str (x:Str) (t:Tok):Rel G ρ h (.str x t) (.str x)
|aB {a:Addr}{xs:List Value}{vs:List V}:IsTup h a xs.toArray->bK G ρ h xs vs->a∉G.res->Rel G ρ h (.ref a) (.aB vs)
|ref {a:Addr}{i:Nat}:ρ[i]?=some a->Rel G ρ h (.ref a) (.ref i)
|ct:Rel G ρ h (.ref G.sA) .ct
inductive bK(G:Gd)(ρ:List Addr)(h:Heap):List Value->List V->Prop
|nil:bK G ρ h [] []
|cons {x:Value}{v:V}{xs:List Value}{vs:List V}:Rel G ρ h x v->bK G ρ h xs vs->bK G ρ h (x::xs) (v::vs)
end
section
variable{G:Gd}{ρ:List Addr}{h:Heap}{x:Value}{X:Prop}
theorem Ob(r:Rel G ρ h x .none)(k:x=.none->X):X:=by cases r;exact k rfl
theorem Oc(r:Rel G ρ h x (.bool b))(k:x=.bool b->X):X:=by cases r;exact k rfl
theorem q8(r:Rel G ρ h x (.int i))(k:∀t,x=.int i t->X):X:=by cases r;exact k _ rfl
theorem pC(r:Rel G ρ h x (.str y))(k:∀t,x=.str y t->X):X:=by cases r;exact k _ rfl
theorem Od(r:Rel G ρ h x .ct)(k:x=.ref G.sA->X):X:=by cases r;exact k rfl
theorem Mf(r:bK G ρ h xs [])(k:xs=[]->X):X:=by cases r;exact k rfl
section
variable{mo:Value->Prop}
theorem om(r:Rel G ρ h x (.bool b))(k:mo (.bool b)):mo x:=Oc r λe=>e▸k
theorem eH(r:Rel G ρ h x (.int i))(k:∀t,mo (.int i t)):mo x:=q8 r λt e=>e▸k t
theorem km(r:Rel G ρ h x (.str y))(k:∀t,mo (.str y t)):mo x:=pC r λt e=>e▸k t
theorem DU(r:Rel G ρ h x .ct)(k:mo (.ref G.sA)):mo x:=Od r λe=>e▸k
end
theorem Oe{mo:List Value->Prop}(r:bK G ρ h xs [])(k:mo []):mo xs:=Mf r λe=>e▸k
end
def BZ(C a dx:Addr)(o:Obj):Prop:=o.cls=.ref C/\(∀c,o.data≠.cls c)/\o.dict=some dx/\dx≠a
def iW(v:Value)(y:Str):Option Value:=if y="many" then some v else none
def iE(G:Gd)(ρ:List Addr)(h:Heap)(a:Addr):O->Prop
|.ah vs=>∃xs:List Value,h.PlainList a xs.toArray/\bK G ρ h xs vs
|.ay es=>∃kvs:List (Str×Value),h.DictOf (strKind G.prog G.w) a kvs/\kvs.map (·.1)=es.map (·.1)/\bK G ρ h (kvs.map (·.2)) (es.map (·.2))
|.inst c d=>∃dx o,ρ[d]?=some dx/\h.get? a=some o/\BZ (G.cA 0) a dx o
|.cU n=>∃t,h.Ns1 a (iW (.int n t))
structure aH(G:Gd)(ρ:List Addr)(σ:H)(h:Heap):Prop where
 base:∀b o,G.hb.get? b=some o->h.get? b=some o
 len:ρ.length=σ.length
 nodup:ρ.Nodup
 new:∀a∈ρ,G.hb.get? a=none
 rep:∀(i:Nat)(a:Addr)(o:O),ρ[i]?=some a->σ[i]?=some o->iE G ρ h a o
 kn:∀a∈G.res,∃xs,IsTup h a xs
 kW:∀a∈G.res,G.hb.get? a=none
structure Step(ρ:List Addr)(h:Heap)(az:List Addr)(h':Heap):Prop where
 pre:∃t,az=ρ++t
 fresh:∀a∈az,a∈ρ∨h.get? a=none
 keep:∀a o,h.get? a=some o->a∉ρ->h'.get? a=some o
theorem Step.refl(ρ:List Addr)(h:Heap):Step ρ h ρ h:=⟨⟨[],by simp⟩,λ_ ha=>.inl ha,λ_ _ e _=>e⟩
theorem Step.trans(x:Step ρ h aK aC)(y:Step aK aC dQ bp):Step ρ h dQ bp:=by
 refine bZ (x.pre) λt bg=>?_;subst bg;obtain⟨t',rfl⟩:=y.pre;refine⟨⟨t++t',by simp⟩,λa ha=>?_,λa o e hn=>?_⟩
 ·rcases y.fresh a ha with q|q
  ·exact x.fresh a q
  ·by_cases hr:a∈ρ
   ·exact .inl hr
   ·refine .inr ?_;cases e:h.get? a with
    |none=>rfl
    |some o=>(replace q:=(x.keep a o e hr)▸q);exact d9 q
 ·refine y.keep a o (x.keep a o e hn) λq=>?_;rcases x.fresh a q with q|q
  ·exact hn q
  ·(replace q:=e▸q);exact d9 q
theorem Step.get{ρ az:List Addr}{h h':Heap}(x:Step ρ h az h'){i:Nat}(e:ρ[i]?=some a):az[i]?=some a:=by
 refine bZ (x.pre) λt bg=>?_;clear x;subst bg;rw[List.getElem?_append_left]
 ·exact e
 ·exact(List.getElem?_eq_some_iff.mp e).1
section
variable{G:Gd}{ρ az:List Addr}{σ ag:H}{h h':Heap}
theorem bK.length(r:bK G ρ h xs vs):xs.length=vs.length:=by
 induction xs generalizing vs with
|nil=>cases r;rfl
|cons x xs ih=>cases r with|cons _ r=>simp[ih r]
theorem bK.get{xs:List Value}{vs:List V}(r:bK G ρ h xs vs){k:Nat}(e:vs[k]?=some v):∃x,xs[k]?=some x/\Rel G ρ h x v:=by
 induction xs generalizing vs k with
|nil=>cases r;simp at e
|cons x xs ih=>
  cases r with
  |cons hx r=>
   cases k with
   |zero=>simp at e;(clear ih;subst e);exact⟨x,rfl,hx⟩
   |succ k=>simp at e;simpa using ih r e
theorem bK.append(r:bK G ρ h xs vs)(q:bK G ρ h ys ws):bK G ρ h (xs++ys) (vs++ws):=by
 induction xs generalizing vs with
|nil=>cases r;exact q
|cons x xs ih=>cases r with|cons hx r=>exact .cons hx (ih r)
theorem bK.take(r:bK G ρ h xs vs)(k:Nat):bK G ρ h (xs.take k) (vs.take k):=by
 induction xs generalizing vs k with
|nil=>cases r;simp;exact .nil
|cons x xs ih=>
  cases r with
  |cons hx r=>cases k with
   |zero=>exact .nil
   |succ k=>exact .cons hx (ih r k)
theorem bK.drop(r:bK G ρ h xs vs)(k:Nat):bK G ρ h (xs.drop k) (vs.drop k):=by
 induction xs generalizing vs k with
|nil=>cases r;simp;exact .nil
|cons x xs ih=>
  cases r with
  |cons hx r=>cases k with
   |zero=>exact .cons hx r
   |succ k=>exact ih r k
theorem bK.set(r:bK G ρ h xs vs)(k:Nat)(hx:Rel G ρ h x v):bK G ρ h (xs.set k x) (vs.set k v):=by
 induction xs generalizing vs k with
|nil=>cases r;exact .nil
|cons y xs ih=>
  cases r with
  |cons hy r=>cases k with
   |zero=>exact .cons hx r
   |succ k=>exact .cons hy (ih r k)
theorem Rel.mono(hk:∀a xs,IsTup h a xs->IsTup h' a xs)(hp:∀(i:Nat)(a:Addr),ρ[i]?=some a->az[i]?=some a)(r:Rel G ρ h x v):Rel G az h' x v:=
 Rel.rec .none .bool .int .str (λe _ n r=>.aB (hk _ _ e) r n) (λe=>.ref (hp _ _ e)) .ct .nil (λ_ _=>.cons) r
theorem bK.mono(hk:∀a xs,IsTup h a xs->IsTup h' a xs)(hp:∀(i:Nat)(a:Addr),ρ[i]?=some a->az[i]?=some a)(r:bK G ρ h xs vs):bK G az h' xs vs:=
 bK.rec .none .bool .int .str (λe _ n r=>.aB (hk _ _ e) r n) (λe=>.ref (hp _ _ e)) .ct .nil (λ_ _=>.cons) r
theorem aH.at(S:aH G ρ σ h){i:Nat}(e:ρ[i]?=some a):∃o,σ[i]?=some o/\iE G ρ h a o:=by
 have hi:i<σ.length:=by(refine(S.len)▸?_);exact(List.getElem?_eq_some_iff.mp e).1
 exact⟨σ[i],List.getElem?_eq_getElem hi,S.rep i a _ e (List.getElem?_eq_getElem hi)⟩
theorem iE.cls(r:iE G ρ h a o):∃ob,h.get? a=some ob/\(ob.cls=.type "list"∨ob.cls=.type "dict"∨(∃C,ob.cls=.ref C)∨∃es ep,ob.data=.dict es ep):=by
 cases o with
|ah vs=>obtain⟨xs,⟨n,e⟩,_⟩:=r;exact⟨_,e,.inl rfl⟩
|ay es=>obtain⟨kvs,⟨ob,_,_,e,c,_⟩,_⟩:=r;exact⟨ob,e,.inr (.inl c.1)⟩
|inst c d=>obtain⟨dx,o,_,e,q,_⟩:=r;exact⟨_,e,.inr (.inr (.inl ⟨_,q⟩))⟩
|cU n=>obtain⟨t,ob,es,ep,e,d,_⟩:=r;exact⟨ob,e,.inr (.inr (.inr ⟨es,ep,d⟩))⟩
theorem aH.mem(S:aH G ρ σ h){a:Addr}(ha:a∈ρ):∃ob,h.get? a=some ob/\(ob.cls=.type "list"∨ob.cls=.type "dict"∨(∃C,ob.cls=.ref C)∨∃es ep,ob.data=.dict es ep):=by obtain⟨i,hi,rfl⟩:=List.getElem_of_mem ha;refine aO (S.at (List.getElem?_eq_getElem hi)) λo _ r=>?_;exact r.cls
theorem aH.jt(S:aH G ρ σ h)(e:h.get? a=some ob)(c:ob.cls=.type T)(h1:T≠"list")(h2:T≠"dict")(h3:∀es ep,ob.data≠.dict es ep):a∉ρ:=λha=>by
 refine aO (S.mem ha) λuK e' c'=>?_;(replace e':=e▸e');(refine dE e' λaP=>?_;(clear e';subst aP));replace c':=c▸c';rcases c' with q|q|⟨C,q⟩|⟨es,ep,q⟩
 ·injection q with q;exact h1 q
 ·injection q with q;exact h2 q
 ·cases q
 ·exact h3 _ _ q
theorem aH.aB(S:aH G ρ σ h)(e:IsTup h a xs):a∉ρ:=by obtain⟨o,e,c,n,hd⟩:=e;exact S.jt e c (by decide) (by decide) λes ep q=>by(replace q:=hd▸q);cases q
theorem Step.aB(x:Step ρ h az h')(S:aH G ρ σ h):∀a xs,IsTup h a xs->IsTup h' a xs:=λa xs e=>by
 have hn:=S.aB e;refine aO (e) λo e c=>?_;exact⟨o,x.keep a o e hn,c⟩
theorem Rel.step{v:Value}{u:V}(r:Rel G ρ h v u)(x:Step ρ h az h')(S:aH G ρ σ h):Rel G az h' v u:=r.mono (x.aB S) λ_ _ e=>x.get e
theorem bK.step{v:List Value}{u:List V}(r:bK G ρ h v u)(x:Step ρ h az h')(S:aH G ρ σ h):bK G az h' v u:=r.mono (x.aB S) λ_ _ e=>x.get e
theorem aH.fresh(S:aH G ρ σ h)(ha:h.objs.size<=a):a∉ρ:=λq=>by
 refine aO (S.mem q) λob e _=>?_;exact Nat.lt_irrefl _ (Nat.lt_of_lt_of_le (Heap.lt_size e) ha)
theorem aH.lt(S:aH G ρ σ h)(q:a∈ρ):a<h.objs.size:=by refine aO (S.mem q) λob e _=>?_;exact Heap.lt_size e
theorem aH.Mg(S:aH G ρ σ h)(ha:h.objs.size<=a):a∉G.res:=λq=>by
 refine bo (S.kn a q) λ_ o e _=>?_;exact Nat.lt_irrefl _ (Nat.lt_of_lt_of_le (Heap.lt_size e) ha)
theorem iE.keeps(r:iE G ρ h a o)(hg:∀ob,h.get? a=some ob->h'.get? a=some ob)(hk:∀a xs,IsTup h a xs->IsTup h' a xs)(hp:∀(i:Nat)(a:Addr),ρ[i]?=some a->az[i]?=some a):iE G az h' a o:=by
 cases o with
|ah vs=>obtain⟨xs,⟨n,e⟩,q⟩:=r;exact⟨xs,⟨n,hg _ e⟩,q.mono hk hp⟩
|ay es=>obtain⟨kvs,⟨ob,x,y,e,c⟩,q,q'⟩:=r;exact⟨kvs,⟨ob,x,y,hg _ e,c⟩,q,q'.mono hk hp⟩
|inst c d=>obtain⟨dx,o,q,e,z⟩:=r;exact⟨dx,o,hp _ _ q,hg _ e,z⟩
|cU n=>obtain⟨t,e⟩:=r;exact⟨t,e.at hg⟩
theorem aH.grow(S:aH G ρ σ h)(hk:∀b o,h.get? b=some o->h'.get? b=some o):aH G ρ σ h':=
 ⟨λb o e=>hk _ _ (S.base b o e),S.len,S.nodup,S.new,λi a o e1 e2=>(S.rep i a o e1 e2).keeps (λ_ e=>hk _ _ e) (λa xs ⟨o,e,c⟩=>⟨o,hk _ _ e,c⟩) λ_ _ e=>e,λa ha=>let ⟨xs,o,e,c⟩:=S.kn a ha;⟨xs,o,hk _ _ e,c⟩,S.kW⟩
theorem Step.grow(S:aH G ρ σ h)(hk:∀b o,h.get? b=some o->h'.get? b=some o):Step ρ h ρ h':=⟨⟨[],by simp⟩,λ_ ha=>.inl ha,λ_ _ e _=>hk _ _ e⟩
theorem aH.alloc(S:aH G ρ σ h)(hk:∀b o,h.get? b=some o->h'.get? b=some o)(ha:h.get? a=none)(hr:iE G (ρ++[a]) h' a o):
  aH G (ρ++[a]) (σ++[o]) h'/\Step ρ h (ρ++[a]) h'/\(ρ++[a])[σ.length]?=some a:=by
 refine⟨⟨λb o e=>hk _ _ (S.base b o e),by simp[S.len],List.nodup_append.mpr ⟨S.nodup,by simp,λx hx y hy=>?_⟩,λb hb=>?_,λi b ob e1 e2=>?_,λa ha=>let ⟨xs,o,e,c⟩:=S.kn a ha;⟨xs,o,hk _ _ e,c⟩,S.kW⟩,⟨⟨[a],rfl⟩,λb hb=>?_,λ_ _ e _=>hk _ _ e⟩,?_⟩
 ·simp at hy;(clear hr;subst hy);intro q;subst q;exact(λq=>by obtain⟨ob,e,_⟩:=S.mem q;(replace e:=ha▸e);exact bL e) hx
 ·rcases List.mem_append.mp hb with q|q
  ·exact S.new b q
  ·simp at q;(clear hr;(clear hb;subst q));cases e:G.hb.get? b with
   |none=>rfl
   |some o=>(replace ha:=(S.base _ _ e)▸ha);exact d9 ha
 ·rcases Nat.lt_or_ge i ρ.length with hi|hi
  ·rw[List.getElem?_append_left hi] at e1;rw[List.getElem?_append_left (by(refine(S.len)▸?_);exact hi)] at e2;refine(S.rep i b ob e1 e2).keeps (λ_ e=>hk _ _ e) (λa xs ⟨o,e,c⟩=>⟨o,hk _ _ e,c⟩) λj c e=>?_;rw[List.getElem?_append_left (List.getElem?_eq_some_iff.mp e).1];exact e
  ·have hi':i=ρ.length:=by
    have:=(List.getElem?_eq_some_iff.mp e1).1;simp at this;exact cj (lN 0x34c04904920506134184c [_,_] rfl this) (lN 0x34c04904920534c [_,_] rfl hi)
   clear hi;subst hi';simp at e1;(clear ha;subst e1);(replace e2:=(S.len)▸e2);simp at e2;subst e2;exact hr
 ·rcases List.mem_append.mp hb with q|q
  ·exact .inl q
  ·simp at q;(clear hb hr;subst q);exact .inr ha
 ·(refine(S.len)▸?_);simp
theorem aH.turn(S:aH G ρ σ h)(hi:ρ[i]?=some a)(hk:∀b o,b≠a->h.get? b=some o->h'.get? b=some o)(hr:iE G ρ h' a o):
  aH G ρ (σ.set i o) h'/\Step ρ h ρ h':=by
 have ha:a∈ρ:=List.mem_of_getElem? hi;have hnb:∀b ob,G.hb.get? b=some ob->b≠a:=λb ob e q=>by
  (clear hr hk hi;subst q);(replace e:=(S.new _ ha)▸e);exact bL e
 have htup:∀b xs,IsTup h b xs->IsTup h' b xs:=λb xs t=>by
  have hn:=S.aB t;refine aO (t) λob e c=>?_;exact⟨ob,hk b ob (λq=>hn (q▸ha)) e,c⟩
 refine⟨⟨λb ob e=>hk b ob (hnb b ob e) (S.base b ob e),by simp[S.len],S.nodup,S.new,λj b ob e1 e2=>?_,λb hb=>let ⟨xs,t⟩:=S.kn b hb;⟨xs,htup _ _ t⟩,S.kW⟩,⟨⟨[],by simp⟩,λ_ q=>.inl q,λb ob e hn=>hk b ob (λq=>hn (q▸ha)) e⟩⟩
 by_cases hij:i=j
 ·subst hij;(replace e1:=hi▸e1);(refine dE e1 λaP=>?_;(clear e1;subst aP));have:i<σ.length:=by(refine(S.len)▸?_);exact(List.getElem?_eq_some_iff.mp hi).1
  rw[List.getElem?_set_self this] at e2;(refine dE e2 λaP=>?_;subst aP);exact hr
 ·rw[List.getElem?_set_ne hij] at e2;have hba:b≠a:=λq=>by
   clear hnb ha hr hk;subst q;exact hij ((List.getElem?_inj ((List.getElem?_eq_some_iff.mp hi).1) S.nodup).mp (hi.trans e1.symm))
  exact(S.rep j b ob e1 e2).keeps (λx e=>hk b x hba e) htup λ_ _ e=>e
end
end Qh
set_option tactic.hygienic false
set_option tactic.hygienic true
namespace Qh
open PySem PyProof.Rows
section
variable{G:Gd}{A:Around}{E:bG}{s:Shared}{ρ az:List Addr}{σ ag:H}
def aS{α β:Type}(G:Gd)(R:List Addr->Heap->β->α->Prop)(r:Res α)(ρ:List Addr)(s:Shared)(Q:β->Shared->Prop):Prop:=
 match r with
|.ok a ag=>∀b h' tk az,Step ρ s.heap az h'->aH G az ag h'->R az h' b a->Q b {s with heap:=h',toks:=tk}
|_=>False
noncomputable abbrev PV(G:Gd)(r:Res V)(ρ:List Addr)(s:Shared)(Q:bG):Prop:=aS G (Rel G) r ρ s Q
noncomputable abbrev PL(G:Gd)(r:Res (List V))(ρ:List Addr)(s:Shared)(Q:List Value->Shared->Prop):Prop:=aS G (bK G) r ρ s Q
noncomputable abbrev oD{α:Type}(_:List Addr)(_:Heap)(b a:α):Prop:=b=a
noncomputable abbrev eV(_:List Addr)(_:Heap)(b:Value)(a:Bool):Prop:=b=.bool a
noncomputable abbrev PB(G:Gd)(r:Res Bool)(ρ:List Addr)(s:Shared)(Q:Bool->Shared->Prop):Prop:=aS G oD r ρ s Q
noncomputable abbrev oE(G:Gd)(r:Res Bool)(ρ:List Addr)(s:Shared)(Q:bG):Prop:=aS G eV r ρ s Q
noncomputable abbrev PU(G:Gd)(r:Res Unit)(ρ:List Addr)(s:Shared)(Q:Unit->Shared->Prop):Prop:=aS G (λ_ _ _ _=>True) r ρ s Q
section
variable{α β γ δ:Type}{R:List Addr->Heap->β->α->Prop}{R':List Addr->Heap->δ->γ->Prop}{Q:β->Shared->Prop}
theorem aS.yx{α β:Type}{G:Gd}{R:List Addr->Heap->β->α->Prop}{r:Res α}{ρ:List Addr}{s:Shared}{Q:β->Shared->Prop}{X:Prop}(h:aS G R r ρ s Q)(k:∀a ag,r=.ok a ag->aS G R (.ok a ag) ρ s Q->X):X:=by
 cases r with
|ok a ag=>exact k a ag rfl h
|aF c ag=>exact h.elim
|bad=>exact h.elim
theorem aS.bind{m:M γ}{f:γ->M α}(h:aS G R (M.bind m f σ) ρ s Q):∃a ax,m σ=.ok a ax/\aS G R (f a ax) ρ s Q:=by
 unfold M.bind at h
 split at h
 ·rename_i a ag e;exact⟨a,ag,e,h⟩
 ·exact h.elim
 ·exact h.elim
theorem aS.step{r:Res α}{aC:Heap}{tk:Nat}{aK:List Addr}(h:aS G R r ρ s Q)(x:Step ρ s.heap aK aC):aS G R r aK {s with heap:=aC,toks:=tk} Q:=by
 cases r with
|ok a ag=>exact λb h' fj az y S r=>h b h' fj az (x.trans y) S r
|aF c ag=>exact h
|bad=>exact h
theorem aS.here{a:α}{b:β}{tk:Nat}(h:aS G R (.ok a σ) ρ s Q)(S:aH G ρ σ s.heap)(r:R ρ s.heap b a):Q b {s with toks:=tk}:=
 h b s.heap tk ρ (Step.refl _ _) S r
theorem aS.cu{a:α}{b:β}(h:aS G R (.ok a σ) ρ s Q)(S:aH G ρ σ s.heap)(r:R ρ s.heap b a):Q b s:=h.here S r
theorem aS.grown{a:α}{b:β}{h':Heap}{tk:Nat}(h:aS G R (.ok a σ) ρ s Q)(S:aH G ρ σ s.heap)(hk:∀c o,s.heap.get? c=some o->h'.get? c=some o)(r:R ρ h' b a):Q b {s with heap:=h',toks:=tk}:=
 h b h' tk ρ (Step.grow S hk) (S.grow hk) r
theorem aS.cX{o:Option α}(h:aS G R (Qh.cX o σ) ρ s Q):∃a,o=some a/\aS G R (.ok a σ) ρ s Q:=by
 cases o with
|none=>exact h.elim
|some a=>exact⟨a,rfl,h⟩
theorem aS.ite{c:Prop}[Decidable c]{m:M α}(h:aS G R ((if c then m else M.fail) σ) ρ s Q):c/\aS G R (m σ) ρ s Q:=by
 by_cases hc:c
 ·rw[if_pos hc] at h;exact⟨hc,h⟩
 ·rw[if_neg hc] at h;exact h.elim
theorem aS.DV{c:Prop}[Decidable c]{m:M α}(h:aS G R ((if c then M.fail else m) σ) ρ s Q):¬ c/\aS G R (m σ) ρ s Q:=by
 by_cases hc:c
 ·rw[if_pos hc] at h;exact h.elim
 ·rw[if_neg hc] at h;exact⟨hc,h⟩
theorem aS.mono{r:Res α}{Q':β->Shared->Prop}(h:aS G R r ρ s Q)(hq:∀b s',Q b s'->Q' b s'):aS G R r ρ s Q':=by
 cases r with
|ok a ag=>exact λb h' fj az y S r=>hq _ _ (h b h' fj az y S r)
|aF c ag=>exact h
|bad=>exact h
end
theorem nR{i:Nat}{o:O}{ax:H}(e:cP i σ=.ok o ax):ax=σ/\σ[i]?=some o:=by
 unfold cP at e
 split at e
 ·rename_i o' h;(apply fh e);exact⟨rfl,h⟩
 ·exact cR e
theorem en{α β:Type}{m:M α}{f:α->M β}{b:β}{bM:H}(e:M.bind m f σ=.ok b bM):∃a ax,m σ=.ok a ax/\f a ax=.ok b bM:=by
 unfold M.bind at e
 split at e
 ·rename_i a ag h;exact⟨a,ag,h,e⟩
 ·exact Qq e
 ·exact cR e
theorem eA{v:V}{vs:List V}{ax:H}(e:bH v σ=.ok vs ax):∃i,v=.ref i/\ax=σ/\σ[i]?=some (.ah vs):=by
 cases v with
|ref i=>
  refine bo (en e) λo ag e1 e2=>?_;refine a5 (nR e1) λcz e1=>?_;clear e eA;subst cz;cases o with
  |ah ws=>(apply fh e2);exact⟨i,rfl,rfl,e1⟩
  |ay es=>exact cR e2
  |inst c d=>exact cR e2
  |cU n=>exact cR e2
|_=>exact cR e
theorem jm{v:V}{i:Int}{ax:H}(e:du v σ=.ok i ax):v=.int i/\ax=σ:=by cases v<;>first|((first|exact cR e|(apply fh e)|cases e);exact⟨rfl,rfl⟩)|exact cR e
theorem qx{v:V}{i:Bool}{ax:H}(e:dP v σ=.ok i ax):v=.bool i/\ax=σ:=by cases v<;>first|((first|exact cR e|(apply fh e)|cases e);exact⟨rfl,rfl⟩)|exact cR e
theorem AX{v:V}{i:Str}{ax:H}(e:CR v σ=.ok i ax):v=.str i/\ax=σ:=by cases v<;>first|((first|exact cR e|(apply fh e)|cases e);exact⟨rfl,rfl⟩)|exact cR e
theorem aH.list(S:aH G ρ σ s.heap){i:Nat}{vs:List V}(e:σ[i]?=some (.ah vs)){x:Value}(r:Rel G ρ s.heap x (.ref i)):
  ∃a xs,x=.ref a/\ρ[i]?=some a/\s.heap.IsList a xs.toArray/\bK G ρ s.heap xs vs:=by
 cases r with
|ref hi=>
  obtain⟨xs,h1,h2⟩:=S.rep _ _ _ hi e;exact⟨_,xs,rfl,hi,h1.isList,h2⟩
theorem aH.xj(S:aH G ρ σ s.heap){i:Nat}{vs:List V}(e:σ[i]?=some (.ah vs)){x:Value}(r:Rel G ρ s.heap x (.ref i)):
  ∃a xs,x=.ref a/\ρ[i]?=some a/\s.heap.PlainList a xs.toArray/\bK G ρ s.heap xs vs:=by
 cases r with
|ref hi=>
  obtain⟨xs,h1,h2⟩:=S.rep _ _ _ hi e;exact⟨_,xs,rfl,hi,h1,h2⟩
theorem aH.dict(S:aH G ρ σ s.heap){i:Nat}{es:List (Str×V)}(e:σ[i]?=some (.ay es)){x:Value}(r:Rel G ρ s.heap x (.ref i)):
  ∃a kvs,x=.ref a/\ρ[i]?=some a/\s.heap.DictOf (strKind G.prog G.w) a kvs/\kvs.map (·.1)=es.map (·.1)/\bK G ρ s.heap (kvs.map (·.2)) (es.map (·.2)):=by
 cases r with
|ref hi=>
  refine aO (S.rep _ _ _ hi e) λkvs h1 h2=>?_;exact⟨_,kvs,rfl,hi,h1,h2⟩
theorem aS.newList{vs:List V}{xs:List Value}{h':Heap}{a:Addr}{tk:Nat}{Q:bG}(h:PV G (cY (.ah vs) σ) ρ s Q)(S:aH G ρ σ s.heap)(hk:∀c o,s.heap.get? c=some o->h'.get? c=some o)(ha:s.heap.objs.size<=a)(hl:h'.PlainList a xs.toArray)(r:bK G ρ s.heap xs vs):Q (.ref a) {s with heap:=h',toks:=tk}:=by refine kP (S.alloc hk (Heap.get?_none_of_le ha) (o:=.ah vs) ⟨xs,hl,r.mono (λb ys ⟨o,e,c⟩=>⟨o,hk _ _ e,c⟩) λi b e=>by rw[List.getElem?_append_left (List.getElem?_eq_some_iff.mp e).1];exact e⟩) λS' st hi=>?_;exact h (.ref a) h' tk _ st S' (.ref hi)
end
end Qh
set_option tactic.hygienic false
namespace Qh
open PySem PyProof.Rows
section
variable{G:Gd}{A:Around}{E:bG}{s:Shared}{ρ az:List Addr}{σ ag:H}
theorem iR(h:n<=aM):n<=sizeLine:=by
 have:aM<=sizeLine:=by decide
 exact lN 0xd30124124124814e30534e [_,_,_] rfl h this
theorem GQ(h:small i=true):i.natAbs<2^64:=by
 unfold small at h;simp only[Bool.and_eq_true,decide_eq_true_eq] at h
 lia
theorem zN(h:small i=true):Builtin.Int.intBits i<=64:=by unfold small at h;simp only[Bool.and_eq_true,decide_eq_true_eq] at h;exact intBits_le_64 h.1 h.2
theorem gK{h:Heap}:∀c ob,h.get? c=some ob->(h.push o).get? c=some ob:=λ_ _ e=>Heap.get?_push_of_some _ e
theorem aS.wH{vs:List V}{xs:List Value}(h:PV G (.ok (.aB vs) σ) ρ s Q)(S:aH G ρ σ s.heap)(r:bK G ρ s.heap xs vs):
  Q (.ref s.heap.objs.size) {s with heap:=s.heap.push {cls:=.type "tuple",data:=.seq xs.toArray},toks:=tk}:=
 h.grown S gK (.aB ⟨_,Heap.get?_push_size _ rfl,rfl,_,rfl⟩ (r.mono (λb ys ⟨o,e,c⟩=>⟨o,gK _ _ e,c⟩) λ_ _ e=>e) (S.Mg (aQ _)))
theorem aS.wI{vs:List V}{xs:List Value}(h:PV G (cY (.ah vs) σ) ρ s Q)(S:aH G ρ σ s.heap)(r:bK G ρ s.heap xs vs):
  Q (.ref s.heap.objs.size) {s with heap:=s.heap.push {cls:=.type "list",data:=.seq xs.toArray},toks:=tk}:=
 h.newList S gK (aQ _) ⟨0,Heap.get?_push_size _ rfl⟩ r
theorem zB(S:aH G ρ σ s.heap)(rx:Rel G ρ s.heap x (.ref i))(ry:Rel G ρ s.heap y (.ref j))(h:PV G (binop .Add (.ref i) (.ref j) σ) ρ s Q):wpAny G.mo A (binaryOp .Add x y) Q E s:=by
 refine bo (aS.bind h) λvs ax e1 h1=>?_;clear h;refine b8 (eA e1) λi' q a9 e1=>?_;clear zB;subst a9;refine iO q λaP=>?_;subst aP;refine bo (aS.bind h1) λws ax e2 h2=>?_;clear h1;refine b8 (eA e2) λj' q a9 e2=>?_;subst a9;refine iO q λaP=>?_;subst aP;refine bB λXx aI=>?_;obtain⟨hsz,h⟩:=aS.ite h2;refine fy (S.list e1 rx) λa xs a9 _ hl r1=>?_;clear rx;subst a9;refine fy (S.list e2 ry) λb ys a9 _ hb r2=>?_;clear ry;subst a9;obtain⟨⟨cls,dd,data,sl⟩,ho,hc,n,hd⟩:=id hl;obtain⟨⟨Ph,dd2,data2,sl2⟩,lM,hc2,n2,hd2⟩:=id hb;refine aI ?_;simp only at hc hd hc2 hd2;subst hc hd hc2 hd2;have e:xs.toArray++ys.toArray=(xs++ys).toArray:=by simp
 have hle:xs.toArray.size+ys.toArray.size<=sizeLine:=by
  (refine(List.size_toArray)▸?_;refine(List.size_toArray).symm▸?_;refine(r1.length)▸?_;refine(r2.length)▸?_);exact iR hsz
 refine concat_meets ⟨_,ho,rfl⟩ ⟨_,lM,rfl⟩ noFill_list_add seq_list_add PySem.F.slot_list_add PySem.F.entry_list_add (PySem.F.args_list_add_2 _ _) (list_addW a b xs.toArray ys.toArray n n2 dd dd2 sl sl2 hle) ⟨ho,lM,?_⟩;refine e▸?_;exact h.wI S (r1.append r2)
theorem Hg(S:aH G ρ σ s.heap)(rx:Rel G ρ s.heap x (.aB vs))(ry:Rel G ρ s.heap y (.aB ws))(h:PV G (binop .Add (.aB vs) (.aB ws) σ) ρ s Q):wpAny G.mo A (binaryOp .Add x y) Q E s:=by
 refine a5 (aS.ite h) λhsz h=>?_;cases rx with
|@aB a xs _ hl r1 na=>
 cases ry with
|@aB b ys _ hb r2 nb=>
 refine bB λXx aI=>?_;obtain⟨⟨cls,dd,data,sl⟩,ho,hc,n,hd⟩:=id hl;obtain⟨⟨Ph,dd2,data2,sl2⟩,lM,hc2,n2,hd2⟩:=id hb;refine aI ?_;simp only at hc hd hc2 hd2;subst hc hd hc2 hd2;have e:xs.toArray++ys.toArray=(xs++ys).toArray:=by simp
 have hle:xs.toArray.size+ys.toArray.size<=sizeLine:=by
  (refine(List.size_toArray)▸?_;refine(List.size_toArray).symm▸?_;refine(r1.length)▸?_;refine(r2.length)▸?_);exact iR hsz
 by_cases hv:xs=[]
 ·clear hle e hl;subst hv;cases r1;exact concat_meets ⟨_,ho,rfl⟩ ⟨_,lM,rfl⟩ noFill_tuple_add seq_tuple_add PySem.F.slot_tuple_add PySem.F.entry_tuple_add (PySem.F.args_tuple_add_2 _ _)
   (tuple_addW0 a b _ ys.toArray n n2 dd dd2 sl sl2 rfl) ⟨ho,lM,h.here S (.aB hb r2 nb)⟩
 ·by_cases hw:ys=[]
  ·clear hle e hb;subst hw;cases r2;refine concat_meets ⟨_,ho,rfl⟩ ⟨_,lM,rfl⟩ noFill_tuple_add seq_tuple_add PySem.F.slot_tuple_add PySem.F.entry_tuple_add (PySem.F.args_tuple_add_2 _ _)
    (tuple_addW1 a b xs.toArray _ n n2 dd dd2 sl sl2 (by simpa using hv) rfl) ⟨ho,lM,h.here S (.aB hl ?_ na)⟩
   simpa using r1
  ·refine concat_meets ⟨_,ho,rfl⟩ ⟨_,lM,rfl⟩ noFill_tuple_add seq_tuple_add PySem.F.slot_tuple_add PySem.F.entry_tuple_add (PySem.F.args_tuple_add_2 _ _)
    (tuple_addW2 a b xs.toArray ys.toArray n n2 dd dd2 sl sl2 (by simpa using hv) (by simpa using hw) hle) ⟨ho,lM,?_⟩
   refine e▸?_;exact h.wH S (r1.append r2)
theorem qF(h:PV G (arith f u v σ) ρ s Q):∃i j,u=.int i/\v=.int j/\PV G (f i j σ) ρ s Q:=by
 cases u with
|int i=>cases v with
  |int j=>exact⟨i,j,rfl,rfl,h⟩
  |_=>exact h.elim
|_=>exact h.elim
theorem Ka(S:aH G ρ σ s.heap)(rx:Rel G ρ s.heap x u)(ry:Rel G ρ s.heap y v)(h:PV G (xO u v σ) ρ s Q):wpAny G.mo A (binaryOp .Add x y) Q E s:=by
 cases u with
|int i=>cases v with
  |int j=>
   have h:PV G (M.pure (.int (i+j)) σ) ρ s Q:=h;(apply eH rx;intro _);(apply eH ry;intro _);exact P.add_int (h.here S (.int _ _))
  |_=>exact h.elim
|str i=>cases v with
  |str j=>
   have h:PV G ((if i.length+j.length<=aM then M.pure (.str (i++j)) else M.fail) σ) ρ s Q:=h;(apply km rx;intro _);(apply km ry;intro _);refine a5 (aS.ite h) λhc h=>?_;exact PyProof.Rows.add_str (λt' tk=>h.here S (.str _ _)) (iR hc)
  |_=>exact h.elim
|aB i=>cases v with
  |aB j=>exact Hg S rx ry h
  |_=>exact h.elim
|ref i=>cases v with
  |ref j=>exact zB S rx ry h
  |_=>exact h.elim
|_=>exact h.elim
theorem IW(S:aH G ρ σ s.heap)(rx:Rel G ρ s.heap x u)(ry:Rel G ρ s.heap y v)(h:PV G (binop op u v σ) ρ s Q):wpAny G.mo A (binaryOp op x y) Q E s:=by
 cases op with
|Add=>exact Ka S rx ry h
|Sub=>
  have zz:=qF h;clear h;obtain⟨i,j,rfl,rfl,h⟩:=zz;(apply eH rx;intro _);(apply eH ry;intro _);exact P.sub_int (h.here S (.int _ _))
|Mult=>
  have zz:=qF h;clear h;obtain⟨i,j,rfl,rfl,h⟩:=zz;(apply eH rx;intro _);(apply eH ry;intro _);refine a5 (aS.ite h) λhc h=>?_;rcases Bool.or_eq_true_iff.mp hc with q|q
  ·exact P.mul_int (h.here S (.int _ _)) (.of_left (zN q))
  ·exact P.mul_int (h.here S (.int _ _)) (.of_right (zN q))
|Mod=>
  have zz:=qF h;clear h;obtain⟨i,j,rfl,rfl,h⟩:=zz;(apply eH rx;intro _);(apply eH ry;intro _);refine a5 (aS.DV h) λhc h=>?_;exact mod_int' hc (h.here S (.int _ _))
|FloorDiv=>
  have zz:=qF h;clear h;obtain⟨i,j,rfl,rfl,h⟩:=zz;(apply eH rx;intro _);(apply eH ry;intro _);refine a5 (aS.DV h) λhc h=>?_;simp only[not_or,Decidable.not_not] at hc;exact PyProof.Rows.floordiv_int hc.1 (h.here S (.int _ _)) (.inl (PyProof.noPylong_small hc.2))
|Pow=>
  have zz:=qF h;clear h;obtain⟨i,j,rfl,rfl,h⟩:=zz;(apply eH rx;intro _);(apply eH ry;intro _);refine a5 (aS.ite h) λhc h=>?_;exact pow_int_small hc.2.1 (lI 0x7247d078cc049049205a07bcc [_] rfl hc.2.2) (GQ hc.1) (h.here S (.int _ _))
|_=>exact h.elim
theorem Mh(S:aH G ρ σ s.heap)(rx:Rel G ρ s.heap x (.int i))(h:PV G (.ok (.int (-i)) σ) ρ s Q):wpAny G.mo A (unaryOp .USub x) Q E s:=by (apply eH rx;intro _);exact P.neg_int (h.here S (.int _ _))
end
end Qh
set_option tactic.hygienic true
namespace Qh
open PySem PyProof.Rows
mutual
noncomputable def toD:V->PyData
|.int i=>.int i
|.str x=>.str x
|.aB vs=>.tuple (eY vs)
|_=>.none
noncomputable def eY:List V->List PyData
|[]=>[]
|v::r=>toD v::eY r
end
theorem jk(h:V.ej (v::r)=true):v.cQ=true/\V.ej r=true:=Bool.and_eq_true_iff.mp h
theorem V.both{P:V->Prop}{Q:List V->Prop}(an:P .none)(ab:∀b,P (.bool b))(ai:∀i,P (.int i))(as:∀s,P (.str s))(at':∀vs,Q vs->P (.aB vs))(ar:∀i,P (.ref i))(ac:P .ct)(nl:Q [])(cs:∀v r,P v->Q r->Q (v::r)):(∀v,P v)/\(∀vs,Q vs):=
 ⟨V.rec an ab ai as at' ar ac nl cs,V.rec_1 an ab ai as at' ar ac nl cs⟩
section
variable{G:Gd}{A:Around}{E:bG}{s:Shared}{ρ az:List Addr}{σ ag:H}{h:Heap}
theorem Rel.reads(r:Rel G ρ h x v):v.cQ=true->∃as,Reads h x (toD v) as:=
 Rel.rec (motive_1:=λx v _=>v.cQ=true->∃as,Reads h x (toD v) as) (motive_2:=λxs vs _=>V.ej vs=true->∃as,ReadsAll h xs (eY vs) as) (λ_=>⟨_,.none⟩) (λb hf=>ff hf) (λi t _=>⟨_,.int i t⟩) (λy t _=>⟨_,.str y t⟩)
  (λ⟨o,e,c,n,d⟩ _ _ ih hf=>(ih hf).elim λas q=>⟨as,.tuple e c d q⟩) (λ_ hf=>ff hf) (λhf=>ff hf) (λ_=>⟨_,.nil⟩) (λ_ _ i1 i2 hf=>(i1 (jk hf).1).elim λ_ q=>(i2 (jk hf).2).elim λ_ q'=>⟨_,.cons q q'⟩) r
theorem bK.reads(r:bK G ρ h xs vs):V.ej vs=true->∃as,ReadsAll h xs (eY vs) as:=
 bK.rec (motive_1:=λx v _=>v.cQ=true->∃as,Reads h x (toD v) as) (motive_2:=λxs vs _=>V.ej vs=true->∃as,ReadsAll h xs (eY vs) as) (λ_=>⟨_,.none⟩) (λb hf=>ff hf) (λi t _=>⟨_,.int i t⟩) (λy t _=>⟨_,.str y t⟩)
  (λ⟨o,e,c,n,d⟩ _ _ ih hf=>(ih hf).elim λas q=>⟨as,.tuple e c d q⟩) (λ_ hf=>ff hf) (λhf=>ff hf) (λ_=>⟨_,.nil⟩) (λ_ _ i1 i2 hf=>(i1 (jk hf).1).elim λ_ q=>(i2 (jk hf).2).elim λ_ q'=>⟨_,.cons q q'⟩) r
theorem AY:(∀v:V,v.cQ=true->(toD v).canLay0=true)/\(∀vs:List V,V.ej vs=true->PyData.canLayAll0 (eY vs)=true):=
 V.both (λ_=>rfl) (λ_ h=>ff h) (λ_ _=>rfl) (λ_ h=>h) (λ_ ih h=>ih h) (λ_ h=>ff h) (λh=>ff h) (λ_=>rfl) (λ_ _ i1 i2 h=>Bool.and_eq_true_iff.mpr ⟨i1 (jk h).1,i2 (jk h).2⟩)
theorem sO:∀v:V,v.cQ=true->(toD v).canLay0=true:=AY.1
theorem oY:∀vs:List V,V.ej vs=true->PyData.canLayAll0 (eY vs)=true:=AY.2
theorem vW:∀vs:List V,PyData.depthAll (eY vs)=V.fW vs:=
 (V.both (P:=λv=>(toD v).depth=v.deep) (Q:=λvs=>PyData.depthAll (eY vs)=V.fW vs) rfl (λ_=>rfl) (λ_=>rfl) (λ_=>rfl) (λ_ ih=>congrArg (·+1) ih) (λ_=>rfl) rfl rfl (λ_ _ i1 i2=>(congrArg (max · _) i1).trans (congrArg (max _ ·) i2))).2
theorem AZ:(∀a b:V,a.cQ=true->b.cQ=true->PyData.eqv (toD a) (toD b)=gE a b)/\(∀a b:List V,V.ej a=true->V.ej b=true->PyData.eqvAll (eY a) (eY b)=kl a b):=
 V.both (λb _ h=>by cases b<;>first|rfl|exact ff h) (λ_ _ h=>ff h) (λ_ b _ h=>by cases b<;>first|rfl|exact ff h) (λ_ b _ h=>by cases b<;>first|rfl|exact ff h)
  (λ_ ih b h h'=>by cases b<;>first|rfl|exact ih _ h h'|exact ff h') (λ_ _ h=>ff h) (λ_ h=>ff h) (λb _ _=>by cases b<;>rfl)
  (λ_ _ i1 i2 b h h'=>by cases b with|nil=>rfl|cons b t=>exact(congrArg (·&&_) (i1 b (jk h).1 (jk h').1)).trans (congrArg (_&&·) (i2 t (jk h).2 (jk h').2)))
theorem Mi:∀a b:V,a.cQ=true->b.cQ=true->PyData.eqv (toD a) (toD b)=gE a b:=AZ.1
theorem Bs:∀a b:List V,V.ej a=true->V.ej b=true->PyData.eqvAll (eY a) (eY b)=kl a b:=AZ.2
theorem vk(h:fX x y=true):V.ej x=true/\V.ej y=true/\V.fW x<=50/\V.fW y<=50:=by unfold fX at h;simp only[Bool.and_eq_true,decide_eq_true_eq] at h;exact⟨h.1.1.1,h.1.1.2,h.1.2,h.2⟩
theorem sk(h1:V.ej vs=true)(h2:V.fW vs<=50):SeqAt.shaped (.tuple (eY vs))=true:=by unfold SeqAt.shaped;simp only[PyData.canLay0,PyData.depth,oY vs h1,vW,Bool.true_and,decide_eq_true_eq];exact lN 0x784184c049049205c8780c [_] rfl h2
theorem sg(h1:V.ej vs=true)(h2:V.fW vs<=50):SeqAt.shaped (.list (eY vs))=true:=by unfold SeqAt.shaped;simp only[PyData.canLay0,PyData.depth,oY vs h1,vW,Bool.true_and,decide_eq_true_eq];exact lN 0x784184c049049205c8780c [_] rfl h2
theorem B0(hu:A.units+64<cLine)(S:aH G ρ σ s.heap)(rx:Rel G ρ s.heap x u)(ry:Rel G ρ s.heap y v){r:Bool}{ax:H}(e:ig u v σ=.ok r ax)(h:oE G (.ok (r ^^ neg) ax) ρ s Q):wpAny G.mo A (compareOp (if neg then .NotEq else .Eq) x y) Q E s:=by
 cases u with
|str _=>cases v with
  |str _=>
   refine fg e λaP cL=>?_;subst aP;subst cL;(refine pC rx λ_ aP=>?_;subst aP);(refine pC ry λ_ aP=>?_;subst aP);cases neg
   ·exact PyProof.Rows.eq_str (h.cu S (by simp[eV]))
   ·exact PyProof.Rows.ne_str (h.cu S (by simp[eV,bne]))
  |_=>exact cR e
|int _=>cases v with
  |int _=>
   refine fg e λaP cL=>?_;subst aP;subst cL;(refine q8 rx λ_ aP=>?_;subst aP);(refine q8 ry λ_ aP=>?_;subst aP);cases neg
   ·exact P.eq_int (h.cu S (by simp[eV]))
   ·exact P.ne_int (h.cu S (by simp[eV,bne]))
  |_=>exact cR e
|aB a=>cases v with
  |aB b=>
   replace e:(if fX a b then M.pure (kl a b) else M.fail) σ=.ok r ax:=e
   by_cases hc:fX a b=true
   ·(replace e:=(if_pos hc)▸e);(refine fg e λaP cL=>?_;subst aP;subst cL);refine iY (vk hc) λf1 f2 d1 d2=>?_;obtain⟨as,q1⟩:=rx.reads (by simpa[V.cQ] using f1);obtain⟨bs,q2⟩:=ry.reads (by simpa[V.cQ] using f2);have hv:PyData.eqv (toD (.aB a)) (toD (.aB b))=kl a b:=by simp[toD,PyData.eqv,Bs a b f1 f2]
    cases neg
    ·exact eq_dataH q1 q2 (by simpa[toD] using sk f1 d1) (by simpa[toD] using sk f2 d2) hu (h.cu S (by simp[eV,hv]))
    ·exact ne_dataH q1 q2 (by simpa[toD] using sk f1 d1) (by simpa[toD] using sk f2 d2) hu (h.cu S (by simp[eV,hv]))
   ·(replace e:=(if_neg hc)▸e);exact cR e
  |_=>exact cR e
|ref _=>cases v with
  |ref _=>
   refine bo (en e) λvs ag gF e3=>?_;clear e;refine b8 (eA gF) λi' q a9 e1=>?_;subst a9;refine iO q λaP=>?_;subst aP;refine bo (en e3) λws ag EV e=>?_;clear e3 gF;refine b8 (eA EV) λj' q a9 e2=>?_;subst a9;refine iO q λaP=>?_;subst aP;clear EV
   by_cases hc:fX vs ws=true
   ·(replace e:=(if_pos hc)▸e);(refine fg e λaP cL=>?_;subst aP;subst cL);refine bB λXx aI=>?_;refine iY (vk hc) λf1 f2 d1 d2=>?_;obtain⟨a,xs,rfl,_,⟨o,ho,hcl,n,hd⟩,r1⟩:=S.list e1 rx;obtain⟨b,ys,rfl,_,⟨o',ho',DW,n',hd'⟩,r2⟩:=S.list e2 ry;obtain⟨as,q1⟩:=r1.reads f1;obtain⟨bs,q2⟩:=r2.reads f2;refine aI ?_;have hv:PyData.eqv (.list (eY vs)) (.list (eY ws))=kl vs ws:=by simp[PyData.eqv,Bs vs ws f1 f2]
    cases neg
    ·exact eq_dataH (.list ho hcl hd (by simpa using q1)) (.list ho' DW hd' (by simpa using q2)) (sg f1 d1) (sg f2 d2) hu (h.cu S (by simp[eV,hv]))
    ·exact ne_dataH (.list ho hcl hd (by simpa using q1)) (.list ho' DW hd' (by simpa using q2)) (sg f1 d1) (sg f2 d2) hu (h.cu S (by simp[eV,hv]))
   ·(replace e:=(if_neg hc)▸e);exact cR e
  |_=>exact cR e
|_=>exact cR e
theorem bK.strs(r:bK G ρ h xs vs)(e:strsOf vs=some ys):StrsAre xs ys:=by
 induction xs generalizing vs ys with
|nil=>cases r;(apply eJ e);exact .nil
|cons x xs ih=>
  cases r with
  |cons hx r=>
   cases hx<;>simp only[strsOf] at e<;>try exact bL e
   rename_i y t
   refine aO (Option.map_eq_some_iff.mp e) λzs e1 a9=>?_;clear e;subst a9;exact .cons _ _ (ih r e1)
theorem Kb(hx:x.cQ=true)(hv:V.ej vs=true):((eY vs).any λy=>PyData.eqv y (toD x))=vs.any λy=>gE y x:=by
 induction vs with
|nil=>rfl
|cons v r ih=>
  have hv':=jk hv;simp[eY,Mi v x hv'.1 hx,ih hv'.2]
theorem GY(e:among u vs σ=.ok b ax):
  (∃k ys,u=.str k/\strsOf vs=some ys/\b=ys.any (·==k)/\ax=σ)∨(fX [u] vs=true/\b=(vs.any λy=>gE y u)/\ax=σ):=by
 have fin:∀{m:M Bool},m=(if fX [u] vs then M.pure (vs.any λy=>gE y u) else M.fail)->m σ=.ok b ax->fX [u] vs=true/\b=(vs.any λy=>gE y u)/\ax=σ:=by
  intro m hm e;subst hm
  by_cases hc:fX [u] vs=true
  ·(replace e:=(if_pos hc)▸e);(apply fh e);exact⟨hc,rfl,rfl⟩
  ·(replace e:=(if_neg hc)▸e);exact cR e
 cases hy:strsOf vs with
|none=>exact .inr (fin (by unfold among;(refine hy▸?_);(clear fin e;cases u)<;>rfl) e)
|some ys=>
  cases u with
  |str k=>
   have:among (.str k) vs=M.pure (ys.any (·==k)):=by unfold among;(refine hy▸?_;with_reducible rfl)
   (replace e:=this▸e);(apply fh e);exact .inl ⟨k,ys,rfl,rfl,rfl,rfl⟩
  |none=>exact .inr (fin (by unfold among;(refine hy▸?_;with_reducible rfl)) e)
  |bool x=>exact .inr (fin (by unfold among;(refine hy▸?_;with_reducible rfl)) e)
  |int x=>exact .inr (fin (by unfold among;(refine hy▸?_;with_reducible rfl)) e)
  |aB x=>exact .inr (fin (by unfold among;(refine hy▸?_;with_reducible rfl)) e)
  |ref x=>exact .inr (fin (by unfold among;(refine hy▸?_;with_reducible rfl)) e)
  |ct=>exact .inr (fin (by unfold among;(refine hy▸?_;with_reducible rfl)) e)
theorem A0{neg isTup:Bool}{a:Addr}{x:Value}(hu:A.units+64<cLine)(S:aH G ρ σ s.heap)(rx:Rel G ρ s.heap x u)(hs:if isTup then IsTup s.heap a xs.toArray else s.heap.IsList a xs.toArray)(r:bK G ρ s.heap xs vs){Q:bG}{b:Bool}{ax:H}(e:among u vs σ=.ok b ax)(h:oE G (.ok (b ^^ neg) ax) ρ s Q):wpAny G.mo A (compareOp (if neg then .NotIn else .In) x (.ref a)) Q E s:=by
 rcases GY e with ⟨k,ys,rfl,hy,rfl,rfl⟩|⟨hc,rfl,rfl⟩
 ·(apply km rx;intro _);have q:=r.strs hy;cases isTup<;>cases neg
  ·exact in_list_strs hs q (h.cu S (by simp[eV]))
  ·exact notin_list_strs hs q (h.cu S (by simp[eV]))
  ·exact in_tuple_strs hs (by simpa using q) (h.cu S (by simp[eV]))
  ·exact notin_tuple_strs hs (by simpa using q) (h.cu S (by simp[eV]))
 ··obtain⟨f1,f2,d1,d2⟩:=vk hc;have p8:u.cQ=true:=by simpa[V.ej] using f1
   refine bZ (rx.reads p8) λas q1=>?_;refine bZ (r.reads f2) λbs q2=>?_;have hv:=Kb p8 f2;have hroom:A.units+1+min (PyData.depthAll (eY vs)) (toD u).depth<cLine:=by
    have:min (PyData.depthAll (eY vs)) (toD u).depth<=50:=by rw[vW];lia
    exact lN 0xe06104d06130124124124814e0610401e1305c8780d [_,_,_] rfl hu this
   cases isTup<;>cases neg
   ·obtain⟨o,ho,hcl,n,hd⟩:=hs;exact SeqAt.in_list_reads (.list ho hcl hd (by simpa using q2)) q1 (oY _ f2) (sO _ p8) hroom (h.cu S (by simp[eV,hv]))
   ·obtain⟨o,ho,hcl,n,hd⟩:=hs;exact SeqAt.notIn_list_reads (.list ho hcl hd (by simpa using q2)) q1 (oY _ f2) (sO _ p8) hroom (h.cu S (by simp[eV,hv]))
   ·obtain⟨o,ho,hcl,n,hd⟩:=hs;exact SeqAt.in_tuple_reads (.tuple ho hcl hd (by simpa using q2)) q1 (oY _ f2) (sO _ p8) hroom (h.cu S (by simp[eV,hv]))
   ·obtain⟨o,ho,hcl,n,hd⟩:=hs;exact SeqAt.notIn_tuple_reads (.tuple ho hcl hd (by simpa using q2)) q1 (oY _ f2) (sO _ p8) hroom (h.cu S (by simp[eV,hv]))
end
end Qh
set_option tactic.hygienic false
namespace Qh
open PySem PyProof.Rows
def nH:List Str:=["len","int","str","sum","max","isinstance","list","tuple","dict","range","zip","bool"]
structure Mj(G:Gd)(N:Addr)(mN:Str->Option Value):Prop where
 cls:ClsAt G.hb (G.cA 0) N mN
 q1:mN "__setattr__"=none
 q2:mN "__getattribute__"=none
 q3:mN "__getattr__"=none
 q4:mN "many"=none
 meths:∀f fn,G.P.fns f=some fn->G.eO f=false->mN (G.fN f)=some (.ref (G.fA f))/\(∃o,G.hb.get? (G.fA f)=some o/\o.cls=.type "function")/\typeLookup (.type "object") (G.fN f)=pure none/\G.fN f≠"many"
 EW:∃fI oI fd self p1 p2 p3 p4 k,mN "__init__"=some (.ref fI)/\G.hb.get? fI=some oI/\oI.cls=.type "function"/\oI.data=.func fd/\G.hb.CodeRec fd.code fd.qualname/\
  fd.body=.stmts [.Assign [.Attribute (.Name self p1) "many" p2] (.Constant (.int 0) k p3) p4]/\(∀v,bindArgs fd ⟨[v],[]⟩=pure [(self,v)])/\fd.closure=[]/\fd.scope.names.lookup self=some .local/\
  fd.scope.isCoroutine=false/\fd.scope.isGenerator=false/\fd.scope.kind=.function/\(self==("__debug__":Str))=false
structure cD(G:Gd):Prop where
 nolimit:G.hb.NoLimit
 CW:∃mg mb,G.hb.Ns mainGlobals mg/\G.hb.Ns builtinsNs mb/\(∀f fn,G.P.fns f=some fn->G.eO f=true->mg (G.fN f)=some (.ref (G.fA f)))/\
  (∀g u,G.P.consts g=some u->∃v,mg (G.gN g)=some v/\∀R ρ h,(∀b o,G.hb.get? b=some o->h.get? b=some o)->(∀a∈R,G.hb.get? a=none)->Rel (G.re R) ρ h v u)/\(∀b∈nH,mg b=none/\mb b=bootBuiltins b)
 DX:∃o,G.hb.get? sysModules=some o
 script:∃xs:List Value,G.hb.IsList G.sA xs.toArray/\IntsAre xs G.script
 short:G.script.length<=aM
 tell:∃mg N mN,G.hb.Ns mainGlobals mg/\mg "Teller"=some (.ref (G.cA 0))/\Mj G N mN
section
variable{G:Gd}{A:Around}{E:bG}{s:Shared}{ρ az:List Addr}{σ ag:H}{h:Heap}
theorem Bt:∀{xs:List Value}{ns:List Int},IntsAre xs ns->∀{k:Nat}{n:Int},ns[k]?=some n->∃t,xs[k]?=some (.int n t)
|_,_,.nil,k,n,e=>by simp at e
|_,_,.cons m t r,k,n,e=>by
  cases k with
  |zero=>simp at e;subst e;exact⟨t,rfl⟩
  |succ k=>simp at e;simpa using Bt r e
theorem aH.B3(S:aH G ρ σ h)(K:cD G){a:Addr}(ha:a∈ρ):(a==sysModules)=false:=by refine beq_eq_false_iff_ne.mpr λq=>?_;subst q;obtain⟨o,e⟩:=K.DX;rw[S.new _ ha] at e;exact bL e
theorem A1{kvs:List (Str×Value)}{es:List (Str×V)}(h1:kvs.map (·.1)=es.map (·.1))(h2:bK G ρ h (kvs.map (·.2)) (es.map (·.2)))(k:Str):
  match cS es k with|some u=>∃v,valueAt kvs k=some v/\Rel G ρ h v u|none=>valueAt kvs k=none:=by
 induction kvs generalizing es with
|nil=>
  clear h2;cases es with
  |nil=>rfl
  |cons e es=>cases h1
|cons kv kvs ih=>
  cases es with
  |nil=>cases h1
  |cons e es=>
   simp only[List.map_cons,List.cons.injEq] at h1 h2;cases h2 with
   |cons hr h2=>
    have:=ih h1.2 h2;unfold cS valueAt at this ⊢;simp only[List.find?_cons]
    by_cases hk:e.1=k
    ·rw[h1.1];simp only[hk,decide_true,Option.map_some];exact⟨_,rfl,hr⟩
    ·rw[h1.1];simp only[hk,decide_false];exact this
theorem zC{kvs:List (Str×Value)}{es:List (Str×V)}(h1:kvs.map (·.1)=es.map (·.1))(h2:bK G ρ h (kvs.map (·.2)) (es.map (·.2)))(k:Str):(valueAt kvs k).isSome=(cS es k).isSome:=by
 have:=A1 h1 h2 k;cases e:cS es k with
|none=>rw[e] at this;simp only at this;rw[this];rfl
|some u=>rw[e] at this;obtain⟨v,q,_⟩:=this;rw[q];rfl
theorem wJ{neg:Bool}{x y:Value}{u v:V}(K:cD G)(hu:A.units+64<cLine)(S:aH G ρ σ s.heap)(rx:Rel G ρ s.heap x u)(ry:Rel G ρ s.heap y v){Q:bG}{b:Bool}{ax:H}(e:iq u v σ=.ok b ax)(h:oE G (.ok (b ^^ neg) ax) ρ s Q):wpAny G.mo A (compareOp (if neg then .NotIn else .In) x y) Q E s:=by
 cases v with
|aB vs=>
  cases ry with
  |aB ht r=>exact A0 (isTup:=true) hu S rx ht r e h
|str z=>
  cases u with
  |str w=>
   have e:(if w.cps.size=1 then M.pure (decide (w.cps.getD 0 0∈z.cps.toList)) else M.fail:M Bool) σ=_:=e
   by_cases hc:w.cps.size=1
   ·rw[if_pos hc] at e;(refine fg e λaP cL=>?_;(clear e;subst aP);subst cL);(refine pC rx λ_ aP=>?_;subst aP);(refine pC ry λ_ aP=>?_;subst aP);have hw:w=⟨#[w.cps.getD 0 0]⟩:=by
     obtain⟨⟨l⟩⟩:=w
     match l,hc with
     |[c],_=>rfl
    have fo:=StrLaws.found_one z (w.cps.getD 0 0);rw[←hw] at fo;cases neg
    ·exact P.in_str (h.cu S (by rw[fo];simp[eV]))
    ·refine P.notIn_str (h.cu S ?_);rw[fo];simp[eV]
   ·rw[if_neg hc] at e;exact cR e
  |_=>exact cR e
|ref i=>
  refine bo (en e) λo ag e1 e2=>?_;refine a5 (nR e1) λcz e1=>?_;clear e wJ;subst cz;cases o with
  |ah vs=>
   refine fy (S.list e1 ry) λa xs a9 _ hl r=>?_;clear ry;subst a9;exact A0 (isTup:=false) hu S rx hl r e2 h
  |ay es=>
   cases u with
   |str k=>
    refine fg e2 λaP cL=>?_;(clear e2;subst aP);subst cL;refine mJ (S.dict e1 ry) λa kvs a9 hi hd h1 h2=>?_;clear ry;subst a9;refine pC rx λ_ aP=>?_;(clear rx;subst aP);have hsys:=S.B3 K (List.mem_of_getElem? hi);cases neg
    ·exact wpAny_in_of (strKind_is _ _ _ _) hsys hd.mapOf (h.here S (by rw[zC h1 h2];simp[eV]))
    ·exact wpAny_notIn_of (strKind_is _ _ _ _) hsys hd.mapOf (h.here S (by rw[zC h1 h2];simp[eV]))
   |_=>exact cR e2
  |inst c d=>exact cR e2
  |cU n=>exact cR e2
|_=>exact cR e
theorem vX{op:CmpOp}{x y:Value}{u v:V}(K:cD G)(hu:A.units+64<cLine)(S:aH G ρ σ s.heap)(rx:Rel G ρ s.heap x u)(ry:Rel G ρ s.heap y v){Q:bG}(h:oE G (dJ op u v σ) ρ s Q):wpAny G.mo A (compareOp op x y) Q E s:=by
 have hints:∀{f:Int->Int->Bool},oE G ((M.bind (du u) λx=>M.bind (du v) λy=>M.pure (f x y)) σ) ρ s Q->∃i j t t',x=.int i t/\y=.int j t'/\Q (.bool (f i j)) s:=by
  intro f h;refine bo (aS.bind h) λi ax e1 h1=>?_;refine a5 (jm e1) λcz bg=>?_;clear e1;(clear h;subst cz);clear h vX;subst bg;refine bo (aS.bind h1) λj ax e2 h2=>?_;refine a5 (jm e2) λcz bg=>?_;clear e2;subst cz;subst bg;cases rx with
  |int i t=>cases ry with
   |int j t'=>exact⟨i,j,t,t',rfl,rfl,h2.cu S rfl⟩
 cases op with
|Eq=>
  exact aS.yx (r:=ig u v σ) h λr ax e h=>B0 (neg:=false) hu S rx ry e (by rw[Bool.xor_false];exact h)
|NotEq=>
  obtain⟨r,ax,e,h⟩:=aS.bind h;exact B0 hu S rx ry e (by rw[Bool.xor_true];exact h)
|In=>
  exact aS.yx (r:=iq u v σ) h λr ax e h=>wJ (neg:=false) K hu S rx ry e (by rw[Bool.xor_false];exact h)
|NotIn=>
  obtain⟨r,ax,e,h⟩:=aS.bind h;exact wJ K hu S rx ry e (by rw[Bool.xor_true];exact h)
|Lt=>obtain⟨i,j,t,t',rfl,rfl,q⟩:=hints h;exact P.lt_int q
|Gt=>obtain⟨i,j,t,t',rfl,rfl,q⟩:=hints h;exact P.gt_int q
|LtE=>obtain⟨i,j,t,t',rfl,rfl,q⟩:=hints h;exact P.le_int q
|GtE=>exact h.elim
|Is=>exact h.elim
|IsNot=>exact h.elim
theorem qo{slice:av}(hs:∀l u p,slice≠.Slice l u none p)(o i:Value):subscripted slice false o i=operate [o,i] (getItem o i):=by
 cases slice with
|Slice l u st p=>cases st with
  |none=>exact absurd rfl (hs _ _ _)
  |some x=>rfl
|_=>rfl
theorem tD{α:Type}{xs:List α}{k:Int}{a:α}{ax:H}(e:fc xs k σ=.ok a ax):0<=k/\k<2^63/\xs[k.toNat]?=some a/\ax=σ:=by
 unfold fc at e
 by_cases hk:0<=k/\k<0x4000000000000000
 ·rw[if_pos hk] at e;cases hx:xs[k.toNat]? with
  |none=>rw[hx] at e;exact cR e
  |some b=>rw[hx] at e;(apply fh e);exact⟨hk.1,by exact lI 0x7007007007007007007007007007a0184c04904920500700700700700700700700700700790184c [_] rfl hk.2,rfl,rfl⟩
 ·rw[if_neg hk] at e;exact cR e
theorem zt{k:Int}{n:Nat}(h0:0<=k)(hk:k.toNat<n):seqIndex? k n=some k.toNat:=by unfold seqIndex?;have:¬ k<0:=Int.not_lt.mpr (lI 0x320049049205320 [_] rfl h0);simp only[this,if_false];rw[if_pos (by simp;lia)]
theorem vY{C:Ctx}{value slice:av}{x y:Value}{u v:V}(K:cD G)(hC:C.script=G.script)(S:aH G ρ σ s.heap)(rx:Rel G ρ s.heap x u)(ry:Rel G ρ s.heap y v)(hs:∀l u p,slice≠.Slice l u none p){Q:bG}(h:PV G (index C u v σ) ρ s Q):wpAny G.mo A (subscriptTail value slice x y) Q E s:=by
 cases u with
|aB vs=>
  cases v with
  |int k=>
   refine aS.yx h λa ax e h'=>?_
   ·have zz:=tD e;clear e;obtain⟨h0,h1,hx,rfl⟩:=zz;(apply eH ry;intro _);cases rx with
    |@aB t xs _ ht r=>
     refine aO (r.get hx) λz hz rz=>?_;have hlt:k.toNat<xs.length:=(List.getElem?_eq_some_iff.mp hz).1;exact tail_any ht.typeIs slot_tuple_getitem.lookup (getItem_tuple ht (by lia) h1 (zt h0 (by simpa using hlt)) (by simpa using hz) (h'.cu S rz)) (qo hs _ _)
  |_=>exact h.elim
|str z=>
  cases v with
  |int k=>
   refine bo (aS.bind h) λc ax e h2=>?_;have zz:=tD e;clear e;obtain⟨h0,h1,hx,rfl⟩:=zz;(apply km rx;intro _);(apply eH ry;intro _);have hlt:k.toNat<z.length:=by
    have:=(List.getElem?_eq_some_iff.mp hx).1
    simpa[Str.length] using this
   have hc:(seqIndex? k z.length).bind (z.cps[·]?)=some c:=by
    rw[zt h0 hlt]
    simpa using hx
   exact tail_any (typeIs_str _ _ _) F.slot_str_getitem.lookup (P.getItem_str (by simp;lia) hc (h2.here S (.str _ _))) (qo hs _ _)
  |_=>exact h.elim
|ct=>
  cases v with
  |int k=>
   refine bo (aS.bind h) λn ax e h2=>?_;have zz:=tD e;clear e;obtain⟨h0,h1,hx,rfl⟩:=zz;(apply eH ry;intro _);(apply DU rx);obtain⟨xs,⟨o,ho,hc,m,hd⟩,hi⟩:=K.script;have hl:s.heap.IsList G.sA xs.toArray:=⟨o,S.base _ _ ho,hc,m,hd⟩;rw[hC] at hx;obtain⟨t,ht⟩:=Bt hi hx;exact tail_any hl.typeIs slot_list_getitem.lookup (wpAny_getItem_list hl h0 h1 (by simpa using ht) (h2.cu S (.int _ _))) (qo hs _ _)
  |_=>exact h.elim
|ref i=>
  cases v with
  |int k=>
   refine bo (aS.bind h) λvs ax e h2=>?_;refine b8 (eA e) λj q a9 e1=>?_;clear e;(clear h vY;subst a9);refine iO q λaP=>?_;subst aP;cases e2:fc vs k ax with
   |ok a bM=>
    refine iY (tD e2) λh0 h1 hx fk=>?_;subst fk;rw[e2] at h2;refine q8 ry λ_ aP=>?_;(clear ry;subst aP);refine fy (S.list e1 rx) λa' xs a9 _ hl r=>?_;clear rx;subst a9;refine aO (r.get hx) λz hz rz=>?_;exact tail_any hl.typeIs slot_list_getitem.lookup (wpAny_getItem_list hl h0 h1 (by simpa using hz) (h2.cu S rz)) (qo hs _ _)
   |aF c bM=>rw[e2] at h2;exact h2.elim
   |bad=>rw[e2] at h2;exact h2.elim
  |str k=>
   refine bo (aS.bind h) λo ax e h2=>?_;refine a5 (nR e) λcz e1=>?_;clear e;(clear h vY;subst cz);cases o with
   |ay es=>
    refine aO (aS.cX h2) λw hw h3=>?_;refine mJ (S.dict e1 rx) λa kvs a9 hi hd h1 h2'=>?_;clear rx;subst a9;have:=A1 h1 h2' k;rw[hw] at this;obtain⟨z,hz,rz⟩:=this;(apply km ry;intro _);exact tail_any hd.typeIs slot_dict_getitem.lookup (wpAny_getItem_of (strKind_is _ _ _ _) hd.mapOf hz (h3.here S rz)) (qo hs _ _)
   |ah vs=>exact h2.elim
   |inst c d=>exact h2.elim
   |cU n=>exact h2.elim
  |_=>exact h.elim
|_=>(clear ry;cases v)<;>exact h.elim
end
end Qh
namespace Qh
open PySem PyProof.Rows
section
variable{G:Gd}{A:Around}{E:bG}{s:Shared}{ρ az:List Addr}{σ ag:H}{h:Heap}{prog:Program}{w:World}
def ft(a:Option Nat):Option Int:=a.map λn=>(n:Int)
theorem zp(hp:IsPart v a)(h:Q a s):wpAny (model prog w) A (Builtin.Slice.slicePartIndex v) Q E s:=by
 cases hp with
|none=>exact slicePart_none h
|int i t=>exact slicePart_int h
theorem Hh(a b:Option Nat)(n:Nat):Builtin.Slice.sliceAdjust (ft a) (ft b) 1 (n:Int)=(((min (a.getD 0) n:Nat):Int),((min (b.getD n) n:Nat):Int)):=by
 unfold Builtin.Slice.sliceAdjust;have h1:¬ ((1:Int)<0):=by exact Int.not_lt.mpr (lI 562041416 [] rfl)
 simp only[h1,if_false];cases a with
|none=>
  cases b with
  |none=>simp[ft]
  |some b=>
   have h2:¬ ((b:Int)<0):=by exact Int.not_lt.mpr (lI 0x320049049205320 [_] rfl (iM _))
   simp[ft,h2];lia
|some a=>
  have h3:¬ ((a:Int)<0):=by exact Int.not_lt.mpr (lI 0x320049049205320 [_] rfl (iM _))
  cases b with
  |none=>simp[ft,h3];lia
  |some b=>
   have h2:¬ ((b:Int)<0):=by exact Int.not_lt.mpr (lI 0x320049049205320 [_] rfl (iM _))
   simp[ft,h2,h3];lia
theorem Hi(a b:Nat):Builtin.Slice.slicePlaces (a:Int) (b:Int) 1=b-a:=by
 unfold Builtin.Slice.slicePlaces;have h1:(1:Int)>0:=by exact lI 2269378515528 [] rfl
 simp only[h1,if_true,Int.ediv_one]
 split<;>lia
theorem Gu{sl:Addr}{vl vu:Value}{a b:Option Nat}{n:Nat}(hs:s.heap.IsSliceOf sl vl vu .none)(pl:IsPart vl (ft a))(pu:IsPart vu (ft b))(h:Q (((min (a.getD 0) n:Nat):Int),1,min (b.getD n) n-min (a.getD 0) n) s):wpAny (model prog w) A (Builtin.Slice.sliceApplied (.ref sl) (pure (n:Int))) Q E s:=by refine b8 (id hs) λos hos hcs hds=>?_;unfold Builtin.Slice.sliceApplied Builtin.Slice.sliceFields;refine wpAny_bind (wpAny_bind (wpAny_field hos hds (x:=vl) rfl (wpAny_bind (wpAny_field hos hds (x:=vu) rfl (wpAny_bind (wpAny_field hos hds (x:=.none) rfl (wpAny_pure ?_)))))));refine wpAny_bind (slicePart_none ?_);show wpAny _ _ (if((1:Int)==0)=true then _ else _) _ _ s;rw[if_neg (by decide)];refine wpAny_bind (zp pl (wpAny_bind (zp pu (wpAny_bind (wpAny_pure ?_)))));show wpAny _ _ (match Builtin.Slice.sliceAdjust (ft a) (ft b) 1 (n:Int) with|(lo,hi)=>pure (lo,(1:Int),Builtin.Slice.slicePlaces lo hi 1)) _ _ s;refine(Hh a b n)▸?_;show wpAny _ _ (pure (((min (a.getD 0) n:Nat):Int),(1:Int),Builtin.Slice.slicePlaces ((min (a.getD 0) n:Nat):Int) ((min (b.getD n) n:Nat):Int) 1)) _ _ s;rw[Hi];exact wpAny_pure h
theorem IX(xs:List Value)(a n:Nat):((List.range n).filterMap λ(k:Nat)=>xs.toArray[((a:Int)+(k:Int)*1).toNat]?)=(xs.drop a).take n:=by
 have e:(λ(k:Nat)=>xs.toArray[((a:Int)+(k:Int)*1).toNat]?)=λk=>xs[a+k]?:=by
  funext k
  have:((a:Int)+(k:Int)*1).toNat=a+k:=by lia
  (refine this▸?_);simp
 refine e▸?_;have:=pick_run xs.toArray a n;replace this:=(List.filterMap_map)▸this;have e2:((λx=>xs.toArray[x]?) ∘ λx=>a+x)=λk=>xs[a+k]?:=by funext k;simp
 replace this:=e2▸this
 simpa using this
theorem Bu{α:Type}(xs:List α)(a b:Option Nat):(xs.drop (min (a.getD 0) xs.length)).take (min (b.getD xs.length) xs.length-min (a.getD 0) xs.length)=(xs.take (b.getD xs.length)).drop (a.getD 0):=by
 refine(List.drop_take).symm▸?_
 by_cases ha:a.getD 0<=xs.length
 ·refine(Nat.min_eq_left ha).symm▸?_
  by_cases hb:b.getD xs.length<=xs.length
  ·refine(Nat.min_eq_left hb).symm▸?_;with_reducible rfl
  ·rw[Nat.min_eq_right (by exact lN 0x34c04904920534184c [_,_] rfl (Nat.not_le.mp hb)),List.take_of_length_le (by simp),List.take_of_length_le (by simp;exact lN 0x4e08e34c20124024124804904904920534184c [_,_,_] rfl (Nat.not_le.mp hb))]
 ·have h1:xs.drop (a.getD 0)=[]:=List.drop_of_length_le (by exact lN 0x34c04904920534184c [_,_] rfl (Nat.not_le.mp ha));have h2:min (a.getD 0) xs.length=xs.length:=by lia
  (refine h1▸?_;refine h2.symm▸?_);simp
theorem Ml(b a n:Nat):min b n-a=min b n-min a n:=
 (Nat.le_total a n).elim (λh=>(Nat.min_eq_left h).symm▸rfl) (λh=>(Nat.min_eq_right h).symm▸(Nat.sub_eq_zero_of_le (bP (Nat.min_le_right b n) h)).trans (Nat.sub_eq_zero_of_le (Nat.min_le_right b n)).symm)
theorem Gi{t sl:Addr}{xs:List Value}{vl vu:Value}(ht:IsTup s.heap t xs.toArray)(hs:s.heap.IsSliceOf sl vl vu .none)(pl:IsPart vl (ft a))(pu:IsPart vu (ft b))(h1:(xs.take (b.getD xs.length)).drop (a.getD 0)=xs->Q (.ref t) s)(h2:Q (.ref s.heap.objs.size) {s with heap:=s.heap.push {cls:=.type "tuple",data:=.seq ((xs.take (b.getD xs.length)).drop (a.getD 0)).toArray}})(hsz:xs.length<=sizeLine):wpAny (model prog w) A (getItem (.ref t) (.ref sl)) Q E s:=by
 have hok:sizeOk (.seq ((xs.take (b.getD xs.length)).drop (a.getD 0)).toArray):=by
  show((xs.take (b.getD xs.length)).drop (a.getD 0)).toArray.size<=sizeLine;refine(List.size_toArray).symm▸?_;refine(List.length_drop)▸?_;refine(List.length_take)▸?_;exact bP (Nat.sub_le _ _) (bP (Nat.min_le_right _ _) hsz)
 refine b8 (id hs) λos hos hcs hds=>?_;unfold getItem
 try with_reducible refine wpAny_holding ?_
 first|refine wpAny_bind (wpAny_pure ?_)|skip
 refine wpAny_bind (wpAny_sequenceKey ht.typeIs (by decide) ?_)
 refine wpAny_bind (wpAny_callSpecial?_slot (name:=Str.ofString "__getitem__") ht.typeIs slot_tuple_getitem
  (wpAny_call_entry slot_tuple_getitem ht.typeIs entry_tuple_getitem ?_ (args_tuple_getitem _ _)))
 show wpAny _ _ (Builtin.Tuple.tupleItemsOf (.ref t) >>= _) _ _ s;refine wpAny_bind (tupleItemsOf_ ht ?_);refine wpAny_bind (wpAny_typeOf (⟨os,hos,hcs⟩) ?_);rw[if_pos (by decide)];have hsize:xs.toArray.size=xs.length:=by rfl
 refine hsize▸?_;refine wpAny_bind (Gu hs pl pu ?_);have e:((List.range (min (b.getD xs.length) xs.length-min (a.getD 0) xs.length)).filterMap λ(k:Nat)=>xs.toArray[(((min (a.getD 0) xs.length:Nat):Int)+(k:Int)*1).toNat]?)=(xs.take (b.getD xs.length)).drop (a.getD 0):=by
  rw[IX,Bu]
 have hlen:((xs.take (b.getD xs.length)).drop (a.getD 0)).length=min (b.getD xs.length) xs.length-min (a.getD 0) xs.length:=by
  (refine(List.length_drop)▸?_;refine(List.length_take).symm▸?_);exact Ml _ _ _
 show wpAny _ _ (if(((min (a.getD 0) xs.length:Nat):Int)==0&&(1:Int)==1&&(min (b.getD xs.length) xs.length-min (a.getD 0) xs.length)==xs.length)=true then _ else _) _ _ s
 by_cases hc:(((min (a.getD 0) xs.length:Nat):Int)==0&&(1:Int)==1&&(min (b.getD xs.length) xs.length-min (a.getD 0) xs.length)==xs.length)=true
 ·refine(if_pos hc)▸?_;simp only[Bool.and_eq_true,beq_iff_eq] at hc;have hall:(xs.take (b.getD xs.length)).drop (a.getD 0)=xs:=by
   have h3:=hc.2;have h4:min (a.getD 0) xs.length=0:=Int.ofNat.inj hc.1.1;rw[←Bu,h4,List.drop_zero,List.take_of_length_le (by exact lN 0xa034c20820124024124804904904920124124124804900904920630238d [_,_,_] rfl h3)]
  refine wpAny_bind (m:=Builtin.Tuple.tupleIsExact _) ?_;unfold Builtin.Tuple.tupleIsExact;refine wpAny_bind (wpAny_typeOf ht.typeIs (wpAny_pure ?_));rw[if_pos (by decide)];exact wpAny_bind (wpAny_rule (wpAny_pure ⟨_,rfl,wpAny_pure (h1 hall)⟩))
 ·refine(if_neg hc)▸?_;refine e▸?_
  first
   |exact wpAny_bind (m:=Builtin.Tuple.tupleExact _) (wpAny_newObj_type (wpAny_pure ⟨_,rfl,wpAny_pure h2⟩) hok)
   |exact wpAny_bind (wpAny_bind (m:=Builtin.Tuple.tupleExact _) (wpAny_newObj_type (wpAny_pure ⟨_,rfl,wpAny_pure h2⟩) hok))
end
end Qh
set_option tactic.hygienic true
namespace Qh
open PySem PyProof.Rows
section
variable{G:Gd}{A:Around}{E:bG}{s:Shared}{ρ az:List Addr}{σ ag:H}{h:Heap}
theorem A2{α:Type}{xs:List α}{lo hi:V}{r:List α}(e:ke xs lo hi σ=.ok r ax):
  ∃a b:Option Nat,ax=σ/\r=(xs.take (b.getD xs.length)).drop (a.getD 0)/\(∀x,Rel G ρ h x lo->IsPart x (ft a))/\(∀x,Rel G ρ h x hi->IsPart x (ft b))/\(a=none->b≠none)/\(a≠none->b≠none->∃i j,lo=.int i/\hi=.int j):=by
 have pI:∀{i:Int},0<=i->∀x,Rel G ρ h x (.int i)->IsPart x (ft (some i.toNat)):=λ{i} hi x r=>q8 r λt q=>q▸(Int.toNat_of_nonneg hi▸.int i t:IsPart (.int i t) (some (i.toNat:Int)));have pN:∀x,Rel G ρ h x .none->IsPart x (ft none):=λx r=>Ob r λq=>q▸.none;cases lo with
|none=>cases hi with
  |int hh=>
   by_cases hc:0<=hh/\hh<0x4000000000000000
   ·replace e:=((if_pos hc:(if 0<=hh/\hh<0x4000000000000000 then M.pure (xs.take hh.toNat) else M.fail)=_)▸e:M.pure (xs.take hh.toNat) σ=.ok r ax);(apply fh e);exact⟨none,some hh.toNat,rfl,rfl,pN,pI hc.1,λ_ q=>d9 q,λq=>absurd rfl q⟩
   ·replace e:=((if_neg hc:(if 0<=hh/\hh<0x4000000000000000 then M.pure (xs.take hh.toNat) else M.fail)=_)▸e:M.fail σ=.ok r ax);exact cR e
  |_=>exact cR e
|int l=>cases hi with
  |none=>
   by_cases hc:0<=l/\l<0x4000000000000000
   ·replace e:=((if_pos hc:(if 0<=l/\l<0x4000000000000000 then M.pure (xs.drop l.toNat) else M.fail)=_)▸e:M.pure (xs.drop l.toNat) σ=.ok r ax);(apply fh e);refine⟨some l.toNat,none,rfl,by simp,pI hc.1,pN,by simp,by simp⟩
   ·replace e:=((if_neg hc:(if 0<=l/\l<0x4000000000000000 then M.pure (xs.drop l.toNat) else M.fail)=_)▸e:M.fail σ=.ok r ax);exact cR e
  |int hh=>
   by_cases hc:0<=l/\l<0x4000000000000000/\0<=hh/\hh<0x4000000000000000
   ·replace e:=((if_pos hc:(if 0<=l/\l<0x4000000000000000/\0<=hh/\hh<0x4000000000000000 then M.pure ((xs.take hh.toNat).drop l.toNat) else M.fail)=_)▸e:M.pure ((xs.take hh.toNat).drop l.toNat) σ=.ok r ax);(apply fh e);exact⟨some l.toNat,some hh.toNat,rfl,rfl,pI hc.1,pI hc.2.2.1,by simp,λ_ _=>⟨_,_,rfl,rfl⟩⟩
   ·replace e:=((if_neg hc:(if 0<=l/\l<0x4000000000000000/\0<=hh/\hh<0x4000000000000000 then M.pure ((xs.take hh.toNat).drop l.toNat) else M.fail)=_)▸e:M.fail σ=.ok r ax);exact cR e
  |_=>exact cR e
|_=>exact cR e
theorem GL(xs:List Value)(a b:Option Nat)(hab:a=none∨b=none)(hne:a=none->b≠none):slicePick xs.toArray (ft a) (ft b) none=((xs.take (b.getD xs.length)).drop (a.getD 0)).toArray:=by
 cases a with
|none=>
  clear hab;cases b with
  |none=>exact absurd rfl (hne rfl)
  |some b=>have:=slicePick_upto' xs.toArray b;simpa[ft] using this
|some a=>
  clear hne;cases b with
  |none=>have:=slicePick_from' xs.toArray a;simpa[ft] using this
  |some b=>rcases hab with q|q<;>exact d9 q
theorem vZ{value:av}{lower upper:Option av}{p:Pos}{x vl vu:Value}{sl:Addr}(S:aH G ρ σ s.heap)(rx:Rel G ρ s.heap x u)(rl:Rel G ρ s.heap vl l)(ru:Rel G ρ s.heap vu hh)(hs:s.heap.IsSliceOf sl vl vu .none){Q:bG}(h:PV G (slice u l hh σ) ρ s Q):wpAny G.mo A (subscriptTail value (.Slice lower upper none p) x (.ref sl)) Q E s:=by
 cases u with
|aB vs=>
  obtain⟨r,ax,e,h2⟩:=aS.bind h;refine tX (A2 (G:=G) (ρ:=ρ) (h:=s.heap) e) λa b a9 fk p1 p2 _ _=>?_;clear e;(clear h vZ;subst a9);subst fk;obtain⟨hle,h3⟩:=aS.ite h2;cases rx with
  |@aB t xs _ ht r nt=>
   have hlen:=r.length;refine tail_any ht.typeIs slot_tuple_getitem.lookup (Gi ht hs (p1 _ rl) (p2 _ ru) (λe=>?_) ?_ (by(refine hlen▸?_);exact iR hle)) rfl
   ·refine h3.cu S (.aB ht ?_ nt);have:=(r.take (b.getD vs.length)).drop (a.getD 0);rw[←hlen] at this ⊢;(replace this:=e▸this);exact this
   ·have:=(r.take (b.getD vs.length)).drop (a.getD 0);rw[←hlen] at this h3;exact h3.wH S this
|ref i=>
  refine bo (aS.bind h) λvs ax e h2=>?_;refine b8 (eA e) λi' q a9 e1=>?_;clear e;(clear vZ;(clear h;subst a9));refine iO q λaP=>?_;subst aP;refine bB λXx aI=>?_;refine bo (aS.bind h2) λr bM e2 h3=>?_;refine tX (A2 (G:=G) (ρ:=ρ) (h:=s.heap) e2) λa b a9 fk p1 p2 h0 hb=>?_;clear e2;subst a9;subst fk;obtain⟨⟨hnb,hle⟩,h4⟩:=aS.ite h3;refine fy (S.list e1 rx) λad xs a9 _ hl r=>?_;clear rx;subst a9;refine aI ?_;have hlen:=r.length;have hab:a=none∨b=none:=by
   clear h4 h3 h0 p1;cases a with
   |none=>exact .inl rfl
   |some a=>clear p2;cases b with
    |none=>exact .inr rfl
    |some b=>
     refine bo (hb (by simp) (by simp)) λi j a9 fk=>?_;clear h2 rl;subst a9;clear ru;subst fk;exact ff hnb
  refine tail_any hl.typeIs slot_list_getitem.lookup (wpAny_getItem_list_slice hl hs (p1 _ rl) (p2 _ ru) .none (by simp) ?_ (by(refine(List.size_toArray)▸?_;refine hlen▸?_);exact iR hle)) rfl;refine(GL xs a b hab h0)▸?_;have:=(r.take (b.getD vs.length)).drop (a.getD 0);rw[←hlen] at this h4;exact h4.wI S this
|_=>exact h.elim
theorem fits63(h:n<=aM):(n:Int)<2^63:=by have:aM=1000000:=rfl;exact lI 0x1c01c01c01c01c01c01c01c01c01e806130124024124124814d306007247d078cd [_,_] rfl (Int.ofNat_le.mpr h) (congrArg Int.ofNat this)
theorem Mm(K:cD G)(hC:C.script=G.script)(S:aH G ρ σ s.heap)(rx:Rel G ρ s.heap x u)(h:PV G (lenOf C u σ) ρ s Q):
  wpAny G.mo A (call (.builtin "len") [x]) Q E s:=by
 cases u with
|aB vs=>
  obtain⟨hle,h2⟩:=aS.ite h;cases rx with
  |@aB t xs _ ht r=>
   have hlen:=r.length;have hsz:xs.toArray.size=vs.length:=by assumption
   refine len_tuple ht (by(refine hsz▸?_);exact fits63 hle) ?_;refine hsz▸?_;exact h2.here S (.int _ _)
|str z=>
  refine a5 (aS.ite h) λhle h2=>?_;(apply km rx;intro _);have:=fits63 hle;exact P.len_str (Int.not_le.mpr (lI 0x7007007007007007007007007007a0184c049049205007007007007007007007007007007a0184c [_] rfl this)) (h2.here S (.int _ _))
|ct=>
  (apply DU rx);obtain⟨xs,⟨o,ho,hc,m,hd⟩,hi⟩:=K.script;have hl:s.heap.IsList G.sA xs.toArray:=⟨o,S.base _ _ ho,hc,m,hd⟩;have hsz:xs.toArray.size=C.script.length:=by(refine hC▸?_);simp[hi.length]
  refine PyProof.Rows.len_list hl (by(refine hsz▸?_;refine hC▸?_);exact fits63 K.short) ?_;refine hsz▸?_;exact aS.here h S (.int _ _)
|ref i=>
  refine bB λXx aI=>?_;obtain⟨vs,ax,e,h2⟩:=aS.bind h;have zz:=eA e;clear e;obtain⟨i',q,rfl,e1⟩:=zz;refine aI ?_;refine iO q λaP=>?_;(clear q;subst aP);obtain⟨hle,h3⟩:=aS.ite h2;refine fy (S.list e1 rx) λad xs a9 _ hl r=>?_;clear rx;(clear aI;subst a9);have hsz:xs.toArray.size=vs.length:=by simp[(r.length)]
  refine PyProof.Rows.len_list hl (by(refine hsz▸?_);exact fits63 hle) ?_;refine hsz▸?_;exact h3.here S (.int _ _)
|_=>exact h.elim
theorem IY(S:aH G ρ σ s.heap)(rx:Rel G ρ s.heap x u)(h:PV G (tB u σ) ρ s Q):wpAny G.mo A (call (.type "int") [x]) Q E s:=by refine bB λXx aI=>?_;refine bo (aS.bind h) λb ax e h2=>?_;refine a5 (qx e) λcz bg=>?_;clear e;(clear h;subst cz);subst bg;refine aI ?_;(apply om rx);exact call_int_bool (h2.here S (.int _ _))
theorem IZ(S:aH G ρ σ s.heap)(rx:Rel G ρ s.heap x u)(h:PV G (qW u σ) ρ s Q):wpAny G.mo A (call (.type "str") [x]) Q E s:=by
 refine bB λXx aI=>?_;refine bo (aS.bind h) λi ax e h2=>?_;refine a5 (jm e) λcz bg=>?_;clear e;(clear h;subst cz);subst bg;obtain⟨hc,h3⟩:=aS.ite h2;refine aI ?_;(apply eH rx;intro _);refine P.str_of_int ?_ (h3.here S (.str _ _))
 by_cases h0:i.natAbs=0
 ·(refine h0▸?_);decide
 ·refine(Nat.log2_lt h0).mpr (Nat.lt_of_lt_of_le (m:=2^34) (by lia) (Nat.pow_le_pow_right (by decide) (by decide)))
theorem bK.ints(r:bK G ρ h xs vs)(e:intsOf vs=some ns):∃ps:List (Int×Tok),xs=ps.map (λp=>Value.int p.1 p.2)/\ps.map (·.1)=ns:=by
 induction xs generalizing vs ns with
|nil=>cases r;(apply eJ e);exact⟨[],rfl,rfl⟩
|cons x xs ih=>
  cases r with
  |cons hx r=>
   cases hx<;>simp only[intsOf] at e<;>try exact bL e
   rename_i y t
   refine aO (Option.map_eq_some_iff.mp e) λzs e1 a9=>?_;clear e;subst a9;refine aO (ih r e1) λps bg q=>?_;clear e1;(clear r ih;subst bg);exact⟨(y,t)::ps,rfl,by simp[q]⟩
theorem Hj(ps:List (Int×Tok)):∀k,k<=ps.length->preSum (numAt ps.toArray) k=((ps.map (·.1)).take k).sum:=by
 intro k
 induction k with
|zero=>intro _;rfl
|succ k ih=>
  intro hk;rw[preSum,ih (lN 0x34c04904920534184c [_,_] rfl hk)];have:(ps.map (·.1)).take (k+1)=(ps.map (·.1)).take k++[ps[k].1]:=by
   (refine(List.take_add_one)▸?_);simp[List.getElem?_eq_getElem (show k<ps.length by exact lN 0x34184c04904920534184c [_,_] rfl hk)]
  rw[this,List.sum_append];simp[numAt,List.getElem?_eq_getElem (show k<ps.length by exact lN 0x34184c04904920534184c [_,_] rfl hk)]
theorem Mo(hh:A.handled=none)(S:aH G ρ σ s.heap)(rx:Rel G ρ s.heap x u)(h:PV G (mY u σ) ρ s Q):wpAny G.mo A (call (.builtin "sum") [x]) Q E s:=by
 refine bB λXx aI=>?_;refine bo (aS.bind h) λvs ax e h2=>?_;refine b8 (eA e) λi bg a9 e1=>?_;clear e;(clear h;subst bg);subst a9;refine bo (aS.bind h2) λns bM e2 h3=>?_;obtain⟨ns',he,h4⟩:∃ns',intsOf vs=some ns'/\PV G (.ok (.int ns'.sum) ax) ρ s Q:=by
  cases hi:intsOf vs with
  |none=>(replace e2:=hi▸e2);exact cR e2
  |some k=>(replace e2:=hi▸e2);(refine fg e2 λaP cL=>?_;subst aP;subst cL);exact⟨_,rfl,h3⟩
 refine fy (S.list e1 rx) λad xs a9 _ hl r=>?_;clear rx;subst a9;refine aO (r.ints he) λps bg a9=>?_;clear r;subst bg;clear he;subst a9;refine aI ?_;refine sum_intListG (xs:=ps.toArray) hh (by simpa[intItems] using hl) λh' tk t' hk=>?_;have:=Hj ps ps.length (aQ _);rw[show ps.toArray.size=ps.length by rfl,this];refine h4.grown S hk ?_;rw[(List.take_of_length_le (by simp))];exact .int _ _
theorem Kc(hh:A.handled=none)(S:aH G ρ σ s.heap)(rx:Rel G ρ s.heap x u)(ry:Rel G ρ s.heap y v)(h:PV G (tY u v σ) ρ s Q):
  wpAny G.mo A (call (.builtin "max") [x,y]) Q E s:=by
 refine bB λXx aI=>?_;refine bo (aS.bind h) λi ax e h2=>?_;refine a5 (jm e) λcz bg=>?_;clear e;(clear h;subst cz);subst bg;refine bo (aS.bind h2) λj bM e2 h3=>?_;refine a5 (jm e2) λcz bg=>?_;clear e2;subst cz;subst bg;refine aI ?_;(apply eH rx;intro _);(apply eH ry;intro _);refine max_two_ints hh λh' tk hk=>?_
 split
 ·rename_i hc;exact aS.grown (by simpa[hc,M.pure] using h3) S hk (Rel.int _ _)
 ·rename_i hc;exact aS.grown (by simpa[hc,M.pure] using h3) S hk (Rel.int _ _)
theorem Am(S:aH G ρ σ s.heap)(rx:Rel G ρ s.heap x u)(h:oE G (dU t u σ) ρ s Q):wpAny G.mo A (call (.builtin "isinstance") [x,.type t]) Q E s:=by
 have xP:t∈gP->t="int"∨t="bool"∨t="str"∨t="tuple"∨t="list":=λq=>by simpa[gP] using q
 cases u with
|int i=>
  refine a5 (aS.ite h) λhc h2=>?_;(apply eH rx;intro _);rcases xP hc with rfl|rfl|rfl|rfl|rfl
  ·exact IsiPair.int_int (h2.cu S rfl)
  ·exact IsiPair.int_bool (h2.here S rfl)
  ·exact IsiPair.int_str (h2.here S rfl)
  ·exact IsiPair.int_tuple (h2.here S rfl)
  ·exact IsiPair.int_list (h2.here S rfl)
|bool b=>
  refine a5 (aS.ite h) λhc h2=>?_;(apply om rx);rcases hc with rfl|rfl
  ·exact IsiPair.bool_int (h2.cu S rfl)
  ·exact IsiPair.bool_bool (h2.cu S rfl)
|str b=>
  refine a5 (aS.ite h) λhc h2=>?_;(apply km rx;intro _);rcases xP hc with rfl|rfl|rfl|rfl|rfl
  ·exact IsiPair.str_int (h2.here S rfl)
  ·exact IsiPair.str_bool (h2.here S rfl)
  ·exact IsiPair.str_str (h2.cu S rfl)
  ·exact IsiPair.str_tuple (h2.here S rfl)
  ·exact IsiPair.str_list (h2.here S rfl)
|aB vs=>
  refine a5 (aS.ite h) λhc h2=>?_;cases rx with
  |aB ht r=>
   refine b8 (ht) λo ho hcl _=>?_;rcases xP hc with rfl|rfl|rfl|rfl|rfl
   ·exact IsiPair.tuple_int ho hcl (h2.here S rfl)
   ·exact IsiPair.tuple_bool ho hcl (h2.here S rfl)
   ·exact IsiPair.tuple_str ho hcl (h2.here S rfl)
   ·exact IsiPair.tuple_tuple ho hcl (h2.cu S rfl)
   ·exact IsiPair.tuple_list ho hcl (h2.here S rfl)
|ref i=>
  refine bo (aS.bind h) λvs ax e h2=>?_;refine b8 (eA e) λi' q a9 e1=>?_;clear e;(clear h Am;subst a9);refine iO q λaP=>?_;subst aP;refine bB λXx aI=>?_;obtain⟨hc,h3⟩:=aS.ite h2;subst hc;have zz:=S.list e1 rx;clear rx;obtain⟨ad,xs,rfl,_,⟨o,ho,hcl,_⟩,r⟩:=zz;refine aI ?_;exact IsiPair.list_list ho hcl (h3.cu S rfl)
|_=>exact h.elim
theorem Ke(S:aH G ρ σ s.heap)(rx:Rel G ρ s.heap x u)(h:PV G (pB u σ) ρ s Q):wpAny G.mo A (call (.type "list") [x]) Q E s:=by
 cases u with
|aB vs=>
  refine a5 (aS.ite h) λhle h2=>?_;cases rx with
  |@aB t xs _ ht r=>
   obtain⟨o,ho,hcl,n,hd⟩:=ht;refine call_list_seq t (.inr rfl) ho hcl hd (λh' c' hk hg=>?_) (by(refine(List.size_toArray)▸?_;refine(r.length)▸?_);exact iR hle);exact h2.newList S hk (aQ _) ⟨_,hg⟩ r
|_=>exact h.elim
theorem I0(S:aH G ρ σ s.heap)(rx:Rel G ρ s.heap x u)(h:PV G (js u σ) ρ s Q):wpAny G.mo A (call (.type "tuple") [x]) Q E s:=by refine bB λXx aI=>?_;refine bo (aS.bind h) λvs ax e h2=>?_;refine b8 (eA e) λi bg a9 e1=>?_;clear e;(clear h;subst bg);subst a9;obtain⟨hle,h3⟩:=aS.ite h2;refine fy (S.list e1 rx) λad xs a9 _ hl r=>?_;clear rx;subst a9;refine aI ?_;refine call_tuple_list hl (λh' hk=>?_) (by(refine(List.size_toArray)▸?_;refine(r.length)▸?_);exact iR hle);refine h3.grown S (λc o e=>gK _ _ (hk c o e)) (.aB ⟨_,Heap.get?_push_size _ rfl,rfl,_,rfl⟩ (r.mono (λb ys ⟨o,e,c⟩=>⟨o,gK _ _ (hk _ _ e),c⟩) λ_ _ e=>e) (λq=>by obtain⟨_,o,e,_⟩:=S.kn _ q;exact absurd (Heap.lt_size (hk _ _ e)) (Nat.lt_irrefl _)))
theorem aS.newDict(h:PV G (cY (.ay es) σ) ρ s Q)(S:aH G ρ σ s.heap)(hk:∀c o,s.heap.get? c=some o->h'.get? c=some o)(ha:s.heap.objs.size<=a)(hl:h'.DictOf (strKind G.prog G.w) a kvs)(h1:kvs.map (·.1)=es.map (·.1))(r:bK G ρ s.heap (kvs.map (·.2)) (es.map (·.2))):Q (.ref a) {s with heap:=h',toks:=tk}:=by refine kP (S.alloc hk (Heap.get?_none_of_le ha) (o:=.ay es) ⟨kvs,hl,h1,r.mono (λb ys ⟨o,e,c⟩=>⟨o,hk _ _ e,c⟩) λi b e=>by rw[List.getElem?_append_left (List.getElem?_eq_some_iff.mp e).1];exact e⟩) λS' st hi=>?_;exact h (.ref a) h' tk _ st S' (.ref hi)
theorem Kf(K:cD G)(S:aH G ρ σ s.heap)(rx:Rel G ρ s.heap x u)(h:PV G (mK u σ) ρ s Q):wpAny G.mo A (call (.type "dict") [x]) Q E s:=by
 cases u with
|ref i=>
  refine bo (aS.bind h) λo ax e h2=>?_;have zz:=nR e;clear e;obtain⟨rfl,e1⟩:=zz;cases o with
  |ay es=>
   refine a5 (aS.ite h2) λhle h3=>?_;refine mJ (S.dict e1 rx) λa kvs a9 hi hd h1 hr=>?_;clear rx;subst a9;have hlen:kvs.length=es.length:=by have:=congrArg List.length h1;simpa using this
   refine kt_call_dict (S.B3 K (List.mem_of_getElem? hi)) hd (by(refine hlen▸?_);exact iR hle) λh' hd' hs'=>?_;exact h3.newDict S (λc o e=>hs'.extBut c o (Nat.ne_of_lt (Heap.lt_size e)) (gK _ _ e)) (aQ _) hd' h1 hr
  |ah vs=>exact h2.elim
  |inst c d=>exact h2.elim
  |cU n=>exact h2.elim
|_=>exact h.elim
theorem Kg(S:aH G ρ σ s.heap)(rx:Rel G ρ s.heap x u)(ry:Rel G ρ s.heap y v)(h:PV G (joinM u v σ) ρ s Q):
  wpAny G.mo A (call (.builtin "str.join") [x,y]) Q E s:=by
 refine bB λXx aI=>?_;refine bo (aS.bind h) λsep ax e h2=>?_;refine a5 (AX e) λcz bg=>?_;clear e;(clear h;subst cz);subst bg;refine bo (aS.bind h2) λvs bM e2 h3=>?_;refine b8 (eA e2) λi bg a9 e1=>?_;clear e2;subst bg;subst a9;refine bo (aS.bind h3) λss et e3 h4=>?_;refine aI ?_;obtain⟨hs,rfl⟩:strsOf vs=some ss/\et=bM:=by
  cases hi:strsOf vs with
  |none=>(replace e3:=hi▸e3);exact cR e3
  |some k=>(replace e3:=hi▸e3);(apply fh e3);exact⟨rfl,rfl⟩
 obtain⟨hc,h5⟩:=aS.ite h4;refine fy (S.list e1 ry) λad xs a9 _ hl r=>?_;clear ry;subst a9;(apply km rx;intro _);refine join_list hl (by simpa using r.strs hs) ?_ λt' k=>?_
 ·refine(hc.1)▸?_;have:aM=1000000:=rfl;have h6:(ss.map (·.length)).sum<=aM:=hc.2;exact lN 0x1c01c01c01e104480d3012412402412481801c91f41e338538c [_,_,_] rfl this h6
 ·have:Txt.join sep ss=Str.join sep ss:=StrLaws.glued_eq_join sep ss;refine this▸?_;exact h5.here S (.str _ _)
end
end Qh
set_option tactic.hygienic false
namespace Qh
open PySem PyProof.Rows
section
variable{G:Gd}{A:Around}{E:bG}{s:Shared}{ρ az:List Addr}{σ ag:H}{h:Heap}{prog:Program}{w:World}
theorem GR{id:String}{b:Builtin}{args:List Value}(hk:builtinKind id=none)(hp:plainId id=true)(hb:entryFor table id=some b)(ha:argsOk id ⟨args,kw⟩)(hc:wpAny (model prog w) A.in1 (b ⟨args,kw⟩) (λfin s'=>match fin with
   |.done f=>(match (Except.ok f:Result) with|.ok (.ret v)=>Q v s'|.ok _=>False|.error e=>E e s')
   |.again c'=>c'.quiet=true/\codeAny (model prog w) A c' (λr s'=>match r with|.ok (.ret v)=>Q v s'|.ok _=>False|.error e=>E e s') s') E s):
  wpAny (model prog w) A (call (.builtin id) args kw) Q E s:=by
 refine wpAny_call (codeAny_call_builtin hp hb ?_);simp only[checkBuiltinCall,hk];cases Pj:Manifest.signature? id with
|none=>exact wpAny_pure hc
|some sig=>
  simp only[argsOk,Pj] at ha;show wpAny _ A.in1 (Bind.checkArgs id sig ⟨args,kw⟩) _ _ s
  (refine((ha))▸?_);exact wpAny_pure hc
def better(b v:Int):Int:=if v>b then v else b
theorem HT{R:Result->Shared->Prop}{I l S:Addr}{ps:List (Int×Tok)}(hh:A.handled=none)(EX:l≠I)(oF:S≠I)(uL:S≠l):
  ∀(k j:Nat)(s:Shared)(b:Int)(t:Tok)(c:Nat),ps.length-j=k->j<=ps.length->s.heap.IsListIter I l j->s.heap.IsList l (intItems ps.toArray)->
  s.heap.get? S=some {cls:=.type "list",dict:=none,data:=.seq #[.int b t,.int b t] c,slots:=#[]}->
  (∀t' h' tk,(∀a o,a≠I->a≠S->s.heap.get? a=some o->h'.get? a=some o)->R (.ok (.ret (.int (((ps.drop j).map (·.1)).foldl better b) t'))) {s with heap:=h',toks:=tk})->
  codeAny (model prog w) A (.builtin "max.loop" ⟨[.ref I,.none,.ref S],[(Str.ofString "default",d)]⟩) R s:=by
 have hname:(toString "max"++toString ".loop":String)="max.loop":=by decide
 intro k
 induction k with
|zero=>
  intro j s b t c hk hj hit hl hS hR;have hin:ps.length<=j:=lN 0x34c20124024124804900900904920680234c [_,_] rfl hk;refine codeAny_builtin PySem.F.entry_max_loop ?_;refine(Around.under_plainId PySem.F.plain_max_loop _)▸?_;show wpAny _ A.in1 (seqItems? (.ref S) >>= _) _ _ s;refine wpAny_bind (wpAny_seqItems hS rfl ?_);show wpAny _ A.in1 (tryCatch (pyNext (.ref I)) _ >>= _) _ _ s;refine wpAny_bind (wpAny_tryCatch (wpAny_pyNext_list_end (hh) hit hl (by simp[intItems];exact lN 0x34c04904920534c [_,_] rfl hin) λh' hk'=>?_));have hS':=hk' S _ oF hS;show wpAny _ A.in1 (updateSeq S (λ_=>#[]) >>= _) _ _ _;refine wpAny_bind ?_;refine wpAny_updateSeq hS' rfl (wpAny_bind (wpAny_letGo (wpAny_pure ?_)));have:=hR t (h'.update S (Obj.mapSeq λ_=>#[])) s.toks λa o h1 h2 e=>(Heap.get?_update_other _ _ (Ne.symm h2)).trans (hk' a o h1 e);replace this:=(List.drop_of_length_le hin)▸this;exact this
|succ k ih=>
  intro j s b t c hk hj hit hl hS hR;have hlt:j<ps.length:=lN 0x34184c20124124800904920606138230d [_,_,_] rfl hk;obtain⟨v,iF,hv⟩:∃v iF,ps[j]=(v,iF):=⟨_,_,rfl⟩;have hx:(intItems ps.toArray)[j]?=some (.int v iF):=by simp[intItems,hlt,hv]
  refine codeAny_builtin PySem.F.entry_max_loop ?_;refine(Around.under_plainId PySem.F.plain_max_loop _)▸?_;show wpAny _ A.in1 (seqItems? (.ref S) >>= _) _ _ s;refine wpAny_bind (wpAny_seqItems hS rfl ?_);show wpAny _ A.in1 (tryCatch (pyNext (.ref I)) _ >>= _) _ _ s;refine wpAny_bind (wpAny_tryCatch (wpAny_pyNext_list_item hit hl hx λh' uv hk'=>?_));have hS':=(hk'.2 S oF).trans hS;show wpAny _ A.in1 (tryCatch (holding [Value.int v iF,Value.int v iF] (richCompare .Gt (.int v iF) (.int b t) >>= _)) _ >>= _) _ _ _;refine wpAny_bind (wpAny_tryCatch (wpAny_holding (wpAny_bind ?_)));have q9:(ps.drop j).map (·.1)=v::(ps.drop (j+1)).map (·.1):=by
   (refine(List.drop_eq_getElem_cons hlt)▸?_;refine hv▸?_);rfl
  refine CmpOf.ints_gt (λi=>if i=0 then v else b) (P:=λi y=>(i=0/\y=.int v iF)∨(i=1/\y=.int b t)) (λi y hy=>?_) 0 1 _ _ _ _ _ (.inl ⟨rfl,rfl⟩) (.inr ⟨rfl,rfl⟩) ?_
  ·rcases hy with ⟨rfl,rfl⟩|⟨rfl,rfl⟩
   ·exact⟨_,rfl⟩
   ·exact⟨_,rfl⟩
  refine wpAny_bind (wpAny_holding (wpAny_truthy_bool ?_));refine wpAny_bind (wpAny_letGo (wpAny_pure ?_))
  by_cases hb:v>b
  ·have hd:decide ((if(0:Nat)=0 then v else b)>(if(1:Nat)=0 then v else b))=true:=by simp[hb]
   refine wpAny_ite_true (by simpa using hd) ?_;refine wpAny_bind ?_;refine wpAny_updateSeq hS' rfl (wpAny_bind (wpAny_letGo ?_));refine hname▸?_;refine wpAny_pure ⟨plainId_quiet PySem.F.plain_max_loop _,ih (j+1) _ v iF _ (cj (lN 0x38206134c20820124024024124804920024124024024124804920606138234c [_,_,_] rfl hk) (lN 0x8184e34c20820124024124804904904920124124124804900904920606130238d [_,_,_] rfl hk)) hlt (uv.extBut (Heap.SameBut.update ..).extBut (Ne.symm oF)) ((hl.extBut hk'.extBut EX).extBut (Heap.SameBut.update ..).extBut (Ne.symm uL)) (Heap.get?_update_self _ hS' rfl) λt' h'' tk rB=>?_⟩;have:=hR t' h'' tk λa o h1 h2 e=>rB a o h1 h2 ((Heap.get?_update_other _ _ (Ne.symm h2)).trans ((hk'.2 a h1).trans e));rw[q9,List.foldl_cons,show better b v=v by simp[better,hb]] at this;exact this
  ·have hd:decide ((if(0:Nat)=0 then v else b)>(if(1:Nat)=0 then v else b))=false:=by simp;exact lI 0x34c04904920534c [_,_] rfl (Int.not_lt.mp hb)
   refine wpAny_ite_false (by simpa using hd) ?_;refine wpAny_bind (wpAny_letGo ?_);refine hname▸?_;refine wpAny_pure ⟨plainId_quiet PySem.F.plain_max_loop _,ih (j+1) _ b t c (cj (lN 0x38206134c20820124024024124804920024124024024124804920606138234c [_,_,_] rfl hk) (lN 0x8184e34c20820124024124804904904920124124124804900904920606130238d [_,_,_] rfl hk)) hlt uv (hl.extBut hk'.extBut EX) hS' λt' h'' tk rB=>?_⟩;have:=hR t' h'' tk λa o h1 h2 e=>rB a o h1 h2 ((hk'.2 a h1).trans e);rw[q9,List.foldl_cons,show better b v=b by simp[better,hb]] at this;exact this
theorem Gv(a d:Value):argsOk "max" ⟨[a],[(Str.ofString "default",d)]⟩:=by unfold argsOk;kernel_rfl
theorem Gw{l:Addr}{ps:List (Int×Tok)}{d:Value}(hh:A.handled=none)(hl:s.heap.IsList l (intItems ps.toArray))(h:∀v h' tk,(∀a o,s.heap.get? a=some o->h'.get? a=some o)->(match ps.map (·.1) with|[]=>v=d|x::r=>∃t,v=.int (r.foldl better x) t)->Q v {s with heap:=h',toks:=tk}):
  wpAny (model prog w) A (call (.builtin "max") [.ref l] [(Str.ofString "default",d)]) Q E s:=by
 have hname:(toString "max"++toString ".loop":String)="max.loop":=by decide
 have hlt:l<s.heap.objs.size:=let ⟨_,e,_⟩:=hl;Heap.lt_size e
 refine GR PySem.F.kind_max PySem.F.plain_max PySem.F.entry_max (Gv _ _) ?_;show wpAny _ A.in1 (Builtin.Builtins.bindParams "max" ["key","default"] 0 ⟨[],[(Str.ofString "default",d)]⟩ >>= _) _ _ s;refine wpAny_bind (wpAny_of_eq (show Builtin.Builtins.bindParams "max" ["key","default"] 0 ⟨[],[(Str.ofString "default",d)]⟩=pure [none,some d] from by rfl') ?_);refine wpAny_bind (wpAny_pure ?_);refine wpAny_bind (wpAny_pyIter_list hl ?_);refine wpAny_bind (wpAny_newObj_type ?_);refine hname▸?_;generalize yy:s.heap.push {cls:=.type "list_iterator",data:=.fields #[.ref l,.int 0 0]}=H1;have hD:H1.objs.size=s.heap.objs.size+1:=by rw[←yy,Heap.size_push]
 have old:∀a o,s.heap.get? a=some o->(H1.push {cls:=.type "list",data:=.seq ([]:List Value).toArray}).get? a=some o:=λa o e=>gK _ _ (yy▸gK _ _ e);have hit:(H1.push {cls:=.type "list",data:=.seq ([]:List Value).toArray}).IsListIter s.heap.objs.size l 0:=⟨_,gK _ _ (yy▸Heap.get?_push_size _ rfl),rfl,rfl⟩;have hl':(H1.push {cls:=.type "list",data:=.seq ([]:List Value).toArray}).IsList l (intItems ps.toArray):=let ⟨o,e,r⟩:=hl;⟨o,old _ _ e,r⟩
 have hS:(H1.push {cls:=.type "list",data:=.seq ([]:List Value).toArray}).get? H1.objs.size=some {cls:=.type "list",data:=.seq ([]:List Value).toArray}:=Heap.get?_push_size _ rfl;refine wpAny_pure ⟨plainId_quiet PySem.F.plain_max_loop _,?_⟩;refine codeAny_builtin PySem.F.entry_max_loop ?_;refine(Around.under_plainId PySem.F.plain_max_loop _)▸?_;show wpAny _ A.in1 (seqItems? (.ref H1.objs.size) >>= _) _ _ _;refine wpAny_bind (wpAny_seqItems hS rfl ?_);show wpAny _ A.in1 (tryCatch (pyNext (.ref s.heap.objs.size)) _ >>= _) _ _ _;have oF:H1.objs.size≠s.heap.objs.size:=by(refine hD▸?_);exact Nat.succ_ne_self _
 have EY:l≠s.heap.objs.size:=Nat.ne_of_lt hlt;have uL:H1.objs.size≠l:=by(refine hD▸?_);exact Nat.ne_of_gt (Nat.lt_succ_of_lt hlt)
 clear hl;cases ps with
|nil=>
  refine wpAny_bind (wpAny_tryCatch (wpAny_pyNext_list_end (hh) hit hl' (by rfl') λh' hk'=>?_));show wpAny _ A.in1 (rule _ >>= _) _ _ _;refine wpAny_bind (wpAny_rule (wpAny_pure ?_));exact h d h' s.toks (λa o e=>hk' a o (Nat.ne_of_lt (Heap.lt_size e)) (old a o e)) rfl
|cons p ps=>
  obtain⟨v,iF⟩:=p;refine wpAny_bind (wpAny_tryCatch (wpAny_pyNext_list_item hit hl' (x:=.int v iF) (by simp[intItems]) λh' uv hk'=>?_));have hS':=(hk'.2 _ oF).trans hS;show wpAny _ A.in1 (updateSeq H1.objs.size (λ_=>#[Value.int v iF,Value.int v iF]) >>= _) _ _ _;refine wpAny_bind ?_;refine wpAny_updateSeq hS' rfl ?_;refine hname▸?_;refine wpAny_pure ⟨plainId_quiet PySem.F.plain_max_loop _,HT hh EY oF uL _ 1 _ v iF _ rfl (by simp) (uv.extBut (Heap.SameBut.update ..).extBut (Ne.symm oF)) ((hl'.extBut hk'.extBut EY).extBut (Heap.SameBut.update ..).extBut (Ne.symm uL)) (Heap.get?_update_self _ hS' rfl) λt' h'' tk rB=>?_⟩;refine h _ h'' tk (λa o e=>?_) ⟨t',rfl⟩;have h1:a≠s.heap.objs.size:=Nat.ne_of_lt (Heap.lt_size e);have h2:a≠H1.objs.size:=by(refine hD▸?_);exact Nat.ne_of_lt (Nat.lt_succ_of_lt (Heap.lt_size e))
  exact rB a o h1 h2 ((Heap.get?_update_other _ _ (Ne.symm h2)).trans ((hk'.2 a h1).trans (old a o e)))
theorem Kh{x d:Value}{u:V}(hh:A.handled=none)(S:aH G ρ σ s.heap)(rx:Rel G ρ s.heap x u)(rd:Rel G ρ s.heap d (.int 0))(h:PV G (n6 u σ) ρ s Q):
  wpAny G.mo A (call (.builtin "max") [x] [(Str.ofString "default",d)]) Q E s:=by
 refine bo (aS.bind h) λvs ax e h2=>?_;refine b8 (eA e) λi bg a9 e1=>?_;clear e;(clear h;subst bg);subst a9;refine bo (aS.bind h2) λns bM e2 h3=>?_;obtain⟨ns',he,h4⟩:∃ns',intsOf vs=some ns'/\PV G (.ok (.int (pO ns')) ax) ρ s Q:=by
  cases hi:intsOf vs with
  |none=>(replace e2:=hi▸e2);exact cR e2
  |some k=>(replace e2:=hi▸e2);(refine fg e2 λaP cL=>?_;subst aP;subst cL);exact⟨_,rfl,h3⟩
 refine fy (S.list e1 rx) λad xs a9 _ hl r=>?_;clear rx;subst a9;refine aO (r.ints he) λps bg a9=>?_;clear r;subst bg;clear he;subst a9;refine Gw hh (by simpa[intItems] using hl) λv h' tk hk hv=>?_;refine h4.grown S hk ?_;cases hp:ps.map (·.1) with
|nil=>(replace hv:=hp▸hv);subst hv;(apply eH rd;intro _);exact .int _ _
|cons a b=>(replace hv:=hp▸hv);obtain⟨t,rfl⟩:=hv;exact .int _ _
end
end Qh
namespace Qh
open PySem PyProof.Rows
structure bt(G:Gd)(N:List Str)(env:Env)(ρ:List Addr)(h:Heap)(L:aR):Prop where
 kind:env.scope.kind=.function
 glob:env.globals=mainGlobals
 blt:env.builtins=builtinsNs
 ns:∃m,h.Ns env.locals m/\∀i u x,cm L i=some u->N[i]?=some x->env.kindOf x=some .local->∃v,m x=some v/\Rel G ρ h v u
 cl:∀x,env.kindOf x=some .cell->∃c ov,env.cells.lookup x=some c/\h.IsCell c ov/\∀i u,cm L i=some u->N[i]?=some x->∃v,ov=some v/\Rel G ρ h v u
 has:∀i u,cm L i=some u->∃x,N[i]?=some x/\(env.kindOf x=some .local∨env.kindOf x=some .cell)
 apart:∀x y c,env.kindOf x=some .cell->env.kindOf y=some .cell->env.cells.lookup x=some c->env.cells.lookup y=some c->x=y
 nodup:N.Nodup
 jH:env.locals∉ρ
 jI:∀x c,env.kindOf x=some .cell->env.cells.lookup x=some c->c∉ρ
 newL:G.hb.get? env.locals=none
 iG:∀x c,env.kindOf x=some .cell->env.cells.lookup x=some c->G.hb.get? c=none
section
variable{G:Gd}{A:Around}{E:bG}{s:Shared}{ρ az:List Addr}{σ ag:H}{h h':Heap}{N:List Str}{env:Env}{L:aR}
theorem bt.step(X:bt G N env ρ h L)(S:aH G ρ σ h)(st:Step ρ h az h'):bt G N env az h' L:=by
 refine aO (X.ns) λm hn hm=>?_;have hnot:∀a o,h.get? a=some o->a∉ρ->a∉az:=λa o e hn q=>by
  rcases st.fresh a q with q|q
  ·exact hn q
  ·(replace q:=e▸q);exact d9 q
 refine⟨X.kind,X.glob,X.blt,⟨m,hn.at λo e=>st.keep _ _ e X.jH,λi u x e1 e2 e3=>?_⟩,λx hx=>?_,X.has,X.apart,X.nodup,?_,λx c hx hc=>?_,X.newL,X.iG⟩
 ·refine aO (hm i u x e1 e2 e3) λv q r=>?_;exact⟨v,q,r.step st S⟩
 ·obtain⟨c,ov,hc,⟨o,ho,hd⟩,hv⟩:=X.cl x hx;refine⟨c,ov,hc,⟨o,st.keep _ _ ho (X.jI x c hx hc),hd⟩,λi u e1 e2=>?_⟩;refine aO (hv i u e1 e2) λv q r=>?_;exact⟨v,q,r.step st S⟩
 ·refine fV (hn) λo _ _ ho _=>?_;exact hnot _ _ ho X.jH
 ·obtain⟨c',ov,hc',⟨o,ho,hd⟩,hv⟩:=X.cl x hx;(replace hc':=hc▸hc');(refine dE hc' λaP=>?_;subst aP);exact hnot _ _ ho (X.jI x c hx hc)
theorem Ki(X:bt G N env ρ s.heap L)(hx:N[i]?=some x)(hu:cm L i=some u)(h:∀v,Rel G ρ s.heap v u->Q v s):
  wpAny G.mo A (loadName env x) Q E s:=by
 refine aO (X.has i u hu) λx' hx' hk=>?_;(replace hx':=hx▸hx');(refine dE hx' λaP=>?_;subst aP);rcases hk with hk|hk
 ·refine aO (X.ns) λm hn hm=>?_;refine aO (hm i u x hu hx hk) λv q r=>?_;exact wpAny_loadName_local X.kind hk hn q (h v r)
 ·refine bB λXx aI=>?_;refine cW (X.cl x hk) λc ov hc hcell hv=>?_;refine aO (hv i u hu hx) λv bg r=>?_;clear hv;subst bg;refine aI ?_;exact wpAny_loadName_cell X.kind hk hc hcell (h v r)
theorem aH.globals(S:aH G ρ σ h)(K:cD G):∃mg mb,h.Ns mainGlobals mg/\h.Ns builtinsNs mb/\(∀f fn,G.P.fns f=some fn->G.eO f=true->mg (G.fN f)=some (.ref (G.fA f)))/\
  (∀g u,G.P.consts g=some u->∃v,mg (G.gN g)=some v/\Rel G ρ h v u)/\(∀b∈nH,mg b=none/\mb b=bootBuiltins b):=by refine mJ (K.CW) λmg mb h1 h2 h3 h4 h5=>?_;refine⟨mg,mb,h1.keeps S.base,h2.keeps S.base,h3,λg u e=>?_,h5⟩;refine aO (h4 g u e) λv q r=>?_;exact⟨v,q,r G.res ρ h S.base S.kW⟩
theorem wh(K:cD G)(S:aH G ρ σ s.heap)(X:bt G N env ρ s.heap L)(hk:env.kindOf x=some .globalImplicit)(hf:G.P.fns f=some fn)(hg:G.eO f=true)(hx:G.fN f=x)(h:Q (.ref (G.fA f)) s):wpAny G.mo A (loadName env x) Q E s:=by refine mJ (S.globals K) λmg mb h1 h2 h3 h4 h5=>?_;refine(loadName_read X.kind hk)▸?_;refine Calls.loadGlobal_global (by rw[X.glob];exact h1) (by rw[←hx];exact h3 f fn hf hg) h
theorem load_const(K:cD G)(S:aH G ρ σ s.heap)(X:bt G N env ρ s.heap L)(hk:env.kindOf x=some .globalImplicit)(hg:G.P.consts g=some u)(hx:G.gN g=x)(h:∀v,Rel G ρ s.heap v u->Q v s):wpAny G.mo A (loadName env x) Q E s:=by refine mJ (S.globals K) λmg mb h1 h2 h3 h4 h5=>?_;refine(loadName_read X.kind hk)▸?_;refine aO (h4 g u hg) λv q r=>?_;exact Calls.loadGlobal_global (by rw[X.glob];exact h1) (by rw[←hx];exact q) (h v r)
theorem nI(K:cD G)(S:aH G ρ σ s.heap)(X:bt G N env ρ s.heap L)(hk:env.kindOf x=some .globalImplicit)(hx:x∈nH)(hv:bootBuiltins x=some v)(h:Q v s):wpAny G.mo A (loadName env x) Q E s:=by refine mJ (S.globals K) λmg mb h1 h2 h3 h4 h5=>?_;rw[loadName_read X.kind hk];exact Calls.loadGlobal_builtin (by rw[X.glob];exact h1) (h5 x hx).1 (by rw[X.blt];exact h2) (by rw[(h5 x hx).2,hv]) h
structure dA(env:Env)(ρ:List Addr)(h:Heap)(az:List Addr)(h':Heap):Prop where
 pre:∃t,az=ρ++t
 fresh:∀a∈az,a∈ρ∨h.get? a=none
 keep:∀a o,h.get? a=some o->a∉ρ->a≠env.locals->(∀x,env.kindOf x=some .cell->env.cells.lookup x≠some a)->h'.get? a=some o
 kR:∀a,a∉ρ->h.get? a≠none->h'.get? a≠none
theorem Step.toS(st:Step ρ h az h'):dA env ρ h az h':=⟨st.pre,st.fresh,λa o e hn _ _=>st.keep a o e hn,λa hn e q=>by
 cases e':h.get? a with
|none=>exact e e'
|some o=>(replace q:=(st.keep a o e' hn)▸q);exact d9 q⟩
theorem dA.refl(env:Env)(ρ:List Addr)(h:Heap):dA env ρ h ρ h:=(Step.refl ρ h).toS
theorem dA.trans(x:dA env ρ h aK aC)(y:dA env aK aC dQ bp):dA env ρ h dQ bp:=by
 refine bZ (x.pre) λt bg=>?_;subst bg;obtain⟨t',rfl⟩:=y.pre;have CZ:∀a,h.get? a≠none->a∉ρ->a∉ρ++t:=λa e hn q=>by
  rcases x.fresh a q with q|q
  ·exact hn q
  ·exact e q
 refine⟨⟨t++t',by simp⟩,λa ha=>?_,λa o e hn h1 h2=>?_,λa hn e=>?_⟩
 ·rcases y.fresh a ha with q|q
  ·exact x.fresh a q
  ·by_cases hr:a∈ρ
   ·exact .inl hr
   ·refine .inr ?_;cases e:h.get? a with
    |none=>rfl
    |some o=>exact absurd q (x.kR a hr (by(refine e▸?_);simp))
 ·exact y.keep a o (x.keep a o e hn h1 h2) (CZ a (by(refine e▸?_);simp) hn) h1 h2
 ·exact y.kR a (CZ a e hn) (x.kR a hn e)
end
end Qh
namespace Qh
open PySem PyProof.Rows
section
variable{G:Gd}{A:Around}{E:bG}{s:Shared}{ρ az:List Addr}{σ ag:H}{h h':Heap}{N:List Str}{env:Env}{L:aR}
def Own(h:Heap)(I:Addr):Prop:=∃o T,h.get? I=some o/\o.cls=.type T/\T≠"list"/\T≠"dict"/\T≠"tuple"/\∃fs,o.data=.fields fs
theorem Own.jt(S:aH G ρ σ h)(x:Own h I):I∉ρ:=by refine bB λXx aI=>?_;obtain⟨o,T,e,c,h1,h2,_,fs,hd⟩:=x;refine aI ?_;exact S.jt e c h1 h2 λes ep q=>by(replace q:=hd▸q);cases q
theorem Own.mF(x:Own h I):∀a xs,IsTup h a xs->a≠I:=by rintro a xs ⟨o',e',c',_⟩ rfl;refine tX (x) λo T e c _ _ h3 _=>?_;(replace e':=e▸e');(refine dE e' λaP=>?_;(clear e';subst aP));(replace c':=c▸c');cases c';exact h3 rfl
theorem oZ(x:Own h I)(hk:∀b o,b≠I->h.get? b=some o->h'.get? b=some o):∀a xs,IsTup h a xs->IsTup h' a xs:=λa xs t=>by
 refine aO (t) λo e c=>?_;exact⟨o,hk a o (x.mF a xs t) e,c⟩
theorem aH.other(S:aH G ρ σ h)(x:Own h I)(hb:G.hb.get? I=none)(hk:∀b o,b≠I->h.get? b=some o->h'.get? b=some o):aH G ρ σ h':=by have hn:=x.jt S;refine⟨λb o e=>hk b o (λq=>?_) (S.base b o e),S.len,S.nodup,S.new,λi a o e1 e2=>(S.rep i a o e1 e2).keeps (λob e=>hk a ob (λq=>hn (q▸List.mem_of_getElem? e1)) e) (oZ x hk) λ_ _ e=>e,λa ha=>let ⟨xs,t⟩:=S.kn a ha;⟨xs,oZ x hk _ _ t⟩,S.kW⟩;(clear hn hk x;subst q);(replace e:=hb▸e);exact bL e
theorem aH.iA(S:aH G ρ σ h)(hn:I∉ρ)(hb:G.hb.get? I=none)(ht:∀a xs,IsTup h a xs->a≠I)(hk:∀b o,b≠I->h.get? b=some o->h'.get? b=some o):aH G ρ σ h':=by
 refine⟨λb o e=>hk b o (λq=>?_) (S.base b o e),S.len,S.nodup,S.new,λi a o e1 e2=>(S.rep i a o e1 e2).keeps (λob e=>hk a ob (λq=>hn (q▸List.mem_of_getElem? e1)) e) (λa xs t=>?_) λ_ _ e=>e,λa ha=>let ⟨xs,t⟩:=S.kn a ha;⟨xs,let ⟨o,e,c⟩:=t;⟨o,hk a o (ht a xs t) e,c⟩⟩,S.kW⟩
 ·(clear hk ht hn;subst q);(replace e:=hb▸e);exact bL e
 ·have hne:=ht a xs t;refine aO (t) λo e c=>?_;exact⟨o,hk a o hne e,c⟩
theorem aH.adopt(S:aH G ρ σ h)(hn:a∉ρ)(hb:G.hb.get? a=none)(hr:iE G (ρ++[a]) h a o):aH G (ρ++[a]) (σ++[o]) h/\(ρ++[a])[σ.length]?=some a:=by
 refine⟨⟨S.base,by simp[S.len],List.nodup_append.mpr ⟨S.nodup,by simp,λx hx y hy=>?_⟩,λb hb'=>?_,λi b ob e1 e2=>?_,S.kn,S.kW⟩,?_⟩
 ·simp at hy;(clear hr hb;subst hy);intro q;subst q;exact hn hx
 ·rcases List.mem_append.mp hb' with q|q
  ·exact S.new b q
  ·simp at q;(clear hb' hr hn;subst q);exact hb
 ·rcases Nat.lt_or_ge i ρ.length with hi|hi
  ·rw[List.getElem?_append_left hi] at e1;rw[List.getElem?_append_left (by(refine(S.len)▸?_);exact hi)] at e2;refine(S.rep i b ob e1 e2).keeps (λ_ e=>e) (λa xs t=>t) λj c e=>?_;rw[List.getElem?_append_left (List.getElem?_eq_some_iff.mp e).1];exact e
  ·have hi':i=ρ.length:=by
    have:=(List.getElem?_eq_some_iff.mp e1).1;simp at this;exact cj (lN 0x34c04904920506134184c [_,_] rfl this) (lN 0x34c04904920534c [_,_] rfl hi)
   clear hi;subst hi';simp at e1;(clear hb hn;subst e1);(replace e2:=(S.len)▸e2);simp at e2;subst e2;exact hr
 ·(refine(S.len)▸?_);simp
theorem Step.adopt(st:Step dy kX ρ h)(h0:kX.get? a=none):Step dy kX (ρ++[a]) h:=by
 refine bZ (st.pre) λt bg=>?_;clear adopt;subst bg;refine⟨⟨t++[a],by simp⟩,λb hb=>?_,st.keep⟩;rcases List.mem_append.mp hb with q|q
 ·exact st.fresh b q
 ·simp at q;(clear hb;subst q);exact .inr h0
theorem Step.other(st:Step dy kX ρ h)(h0:kX.get? I=none)(hk:∀b o,b≠I->h.get? b=some o->h'.get? b=some o):Step dy kX ρ h':=
 ⟨st.pre,st.fresh,λa o e hn=>hk a o (λq=>by(clear hn hk;subst q);(replace e:=h0▸e);exact bL e) (st.keep a o e hn)⟩
theorem bt.other(X:bt G N env ρ h L)(S:aH G ρ σ h)(x:Own h I)(hk:∀b o,b≠I->h.get? b=some o->h'.get? b=some o):bt G N env ρ h' L:=by
 refine aO (X.ns) λm hn hm=>?_;have tu:=oZ x hk;have hL:env.locals≠I:=by
  intro q;refine fJ (hn) λo es ep ho hd _=>?_;obtain⟨o',T,e,_,_,_,_,fs,hf⟩:=x;(replace ho:=q▸ho);(replace e:=ho▸e);(refine dE e λaP=>?_;(clear e;subst aP));(replace hf:=hd▸hf);cases hf
 have hC:∀c ov,h.IsCell c ov->c≠I:=by
  rintro c ov ⟨o,ho,hd⟩ rfl;obtain⟨o',T,e,_,_,_,_,fs,hf⟩:=x;(replace e:=ho▸e);(refine dE e λaP=>?_;(clear e;subst aP));(replace hf:=hd▸hf);cases hf
 refine⟨X.kind,X.glob,X.blt,⟨m,hn.at λo e=>hk _ _ hL e,λi u y e1 e2 e3=>?_⟩,λy hy=>?_,X.has,X.apart,X.nodup,X.jH,X.jI,X.newL,X.iG⟩
 ·refine aO (hm i u y e1 e2 e3) λv q r=>?_;exact⟨v,q,r.mono tu λ_ _ e=>e⟩
 ·refine cW (X.cl y hy) λc ov hc hcell hv=>?_;refine aO (hcell) λo ho hd=>?_;refine⟨c,ov,hc,⟨o,hk _ _ (hC c ov hcell) ho,hd⟩,λi u e1 e2=>?_⟩;refine aO (hv i u e1 e2) λv q r=>?_;exact⟨v,q,r.mono tu λ_ _ e=>e⟩
inductive dX(G:Gd)(ρ:List Addr)(h:Heap)(I:Addr):Src->Nat->Prop
|live {i:Nat}{a:Addr}{k:Nat}:ρ[i]?=some a->h.IsListIter I a k->dX G ρ h I (.live i) k
|aB {t:Addr}{xs:List Value}{vs:List V}{k:Nat}:IsTup h t xs.toArray->bK G ρ h xs vs->IsTupIter h I t k->dX G ρ h I (.fix vs) k
|range {n:Nat}{k:Nat}:k<=n->IsRangeIter h I (k:Int) ((n:Int)-(k:Int)) 1->dX G ρ h I (.fix (dG n)) k
theorem dX.own(x:dX G ρ h I sr k):Own h I:=by
 cases x with
|live _ q=>obtain⟨o,e,c,d⟩:=q;exact⟨o,_,e,c,by decide,by decide,by decide,_,d⟩
|aB _ _ q=>obtain⟨o,e,c,d⟩:=q;exact⟨o,_,e,c,by decide,by decide,by decide,_,d⟩
|range _ q=>exact⟨_,_,q,rfl,by decide,by decide,by decide,_,rfl⟩
theorem dX.mono(x:dX G ρ h I sr k)(hI:∀o,h.get? I=some o->h'.get? I=some o)(hk:∀a xs,IsTup h a xs->IsTup h' a xs)(hp:∀(i:Nat)(a:Addr),ρ[i]?=some a->az[i]?=some a):dX G az h' I sr k:=by
 cases x with
|live e q=>obtain⟨o,e',c⟩:=q;exact .live (hp _ _ e) ⟨o,hI _ e',c⟩
|aB t r q=>obtain⟨o,e',c⟩:=q;exact .aB (hk _ _ t) (r.mono hk hp) ⟨o,hI _ e',c⟩
|range l q=>exact .range l (hI _ q)
theorem dX.step(x:dX G ρ h I sr k)(S:aH G ρ σ h)(st:Step ρ h az h'):dX G az h' I sr k:=
 x.mono (λo e=>st.keep _ _ e (x.own.jt S)) (st.aB S) λ_ _ e=>st.get e
theorem Hk(n k:Nat):(dG (n:Int))[k]?=if k<n then some (.int k) else none:=by
 unfold dG
 by_cases hk:k<n
 ·simp[hk]
 ·simp[hk]
theorem qO(hh:A.handled=none)(S:aH G ρ σ s.heap)(it:dX G ρ s.heap I sr k)(e:dK sr k σ=.ok r ax)(h:∀x h' tk,(∀b o,b≠I->s.heap.get? b=some o->h'.get? b=some o)->(match r with|none=>x=none|some u=>∃v,x=some v/\Rel G ρ h' v u/\dX G ρ h' I sr (k+1))->Q x {s with heap:=h',toks:=tk}):
  ax=σ/\wpAny G.mo A (pyNext (.ref I)) Q E s:=by
 have ow:=it.own;cases it with
|@live i a k hi q=>
  refine bo (en e) λvs ag e1 e2=>?_;refine b8 (eA e1) λj q' a9 e1=>?_;(clear qO;(clear e;subst a9));refine iO q' λaP=>?_;subst aP;refine fg e2 λaP cL=>?_;subst aP;subst cL;refine aO (S.rep _ _ _ hi e1) λxs hpl rl=>?_;have hl:=hpl.isList;refine⟨rfl,?_⟩;cases hv:vs[k]? with
  |none=>
   have hx:xs.toArray[k]?=none:=by
    have h1:=List.getElem?_eq_none_iff.mp hv;have h2:=rl.length;simp;exact lN 0xd30124024124124814d38638c [_,_,_] rfl h1 h2
   refine wpAny_pyNext_list_end hh q hl hx λh' hk=>h none h' s.toks (λb o hb e=>hk b o hb e) ?_;refine hv▸?_;with_reducible rfl
  |some u=>
   refine aO (rl.get hv) λx hx rx=>?_;refine wpAny_pyNext_list_item q hl (by simpa using hx) λh' q' hs=>h (some x) h' s.toks (λb o hb e=>(hs.2 b hb).trans e) ?_;refine hv▸?_;exact⟨x,rfl,rx.mono (oZ ow λb o hb e=>(hs.2 b hb).trans e) λ_ _ e=>e,.live hi q'⟩
|@aB t xs vs k ht rl q=>
  refine fg e λaP cL=>?_;(clear e;subst aP);subst cL;refine⟨rfl,?_⟩;cases hv:vs[k]? with
  |none=>
   have hx:xs.toArray[k]?=none:=by
    have h1:=List.getElem?_eq_none_iff.mp hv;have h2:=rl.length;simp;exact lN 0xd30124024124124814d38638c [_,_,_] rfl h1 h2
   refine next_tuple_end hh q ht hx λh' hk=>h none h' s.toks (λb o hb e=>hk b o hb e) ?_;refine hv▸?_;with_reducible rfl
  |some u=>
   refine aO (rl.get hv) λx hx rx=>?_;refine next_tuple_item q ht (by simpa using hx) λh' q' hs=>h (some x) h' s.toks (λb o hb e=>(hs.2 b hb).trans e) ?_;have tu:=oZ ow λb o hb e=>(hs.2 b hb).trans e;refine hv▸?_;exact⟨x,rfl,rx.mono tu λ_ _ e=>e,.aB (tu _ _ ht) (rl.mono tu λ_ _ e=>e) q'⟩
|@range n k hkn q=>
  refine fg e λaP cL=>?_;(clear e;subst aP);subst cL;refine⟨rfl,?_⟩;rw[Hk] at h
  by_cases hk:k<n
  ·replace h:=(if_pos hk)▸h;refine wpAny_pyNext_range_item q (lI 0x8d30186004904920530184d [_,_] rfl (Int.ofNat_lt.mpr hk)) λh' q' hs=>h (some (.int k s.toks)) h' (s.toks+1) (λb o hb e=>(hs.2 b hb).trans e) ⟨_,rfl,.int _ _,.range hk ?_⟩;have e1:(k:Int)+1=((k+1:Nat):Int):=by lia
   have e2:(n:Int)-(k:Int)-1=(n:Int)-((k+1:Nat):Int):=Int.le_antisymm (lI 0x8e30284234c04904920638184d [_,_,_] rfl e1) (lI 0xa108e30234c04900904920634184e [_,_,_] rfl e1);(replace q':=e2▸(e1▸q'));exact q'
  ·replace h:=(if_neg hk)▸h;exact wpAny_pyNext_range_end hh q (lI 0x80234c04904920534c [_,_] rfl (Int.ofNat_le.mpr (Nat.not_lt.mp hk))) λh' hs=>h none h' s.toks (λb o hb e=>hs b o hb e) rfl
theorem Kj(it:dX G ρ s.heap I sr k)(h:Q (.ref I) s):wpAny G.mo A (pyIter (.ref I)) Q E s:=by
 cases it with
|live _ q=>exact wpAny_pyIter_listiter q h
|aB ht _ q=>exact wpAny_pyIter_tupleiter q h
|range _ q=>exact wpAny_pyIter_rangeiter q h
theorem j3(S:aH G ρ σ s.heap)(rx:Rel G ρ s.heap x u)(e:srcOf u σ=.ok sr ax)(h:∀I h',s.heap.objs.size<=I->(∀b o,s.heap.get? b=some o->h'.get? b=some o)->dX G ρ h' I sr 0->Q (.ref I) {s with heap:=h'}):ax=σ/\wpAny G.mo A (pyIter x) Q E s:=by
 cases u with
|ref i=>
  refine bo (en e) λvs ag e1 e2=>?_;refine b8 (eA e1) λj q' a9 e1=>?_;clear e j3;subst a9;refine iO q' λaP=>?_;subst aP;refine fg e2 λaP cL=>?_;subst aP;subst cL;refine fy (S.list e1 rx) λa xs a9 hi hl r=>?_;clear rx;subst a9;refine⟨rfl,wpAny_pyIter_list hl (h _ _ (aQ _) gK (.live hi ⟨_,Heap.get?_push_size _ rfl,rfl,rfl⟩))⟩
|aB vs=>
  refine fg e λaP cL=>?_;(clear e;subst aP);subst cL;cases rx with
  |aB ht r=>
   refine⟨rfl,iter_tuple ht (h _ _ (aQ _) gK (.aB (ht.keeps gK) (r.mono (λb ys t=>t.keeps gK) λ_ _ e=>e) ⟨_,Heap.get?_push_size _ rfl,rfl,rfl⟩))⟩
|_=>exact cR e
end
end Qh
namespace Qh
open PySem PyProof.Rows
def Gd.ctx(G:Gd)(n:Nat):Ctx:=⟨G.script,G.P.consts,aq G.P G.script n,G.P.eT,G.P.n5⟩
structure Ao(A:Around)(n:Nat):Prop where
 hh:A.handled=none
 room:A.depth+n+4<=recursionLimit
 units:A.units+3*n+200<=cLine
theorem Ao.EZ(x:Ao A n):A.units+64<cLine:=by have:=x.units;exact lN 0x34184100784c0490492053412078c110e8cc [_,_,_] rfl this
section
variable(G:Gd)(n:Nat)(A:Around)(N:List Str)(env:Env)
def ba(x:E)(e:av):Prop:=∀(s:Shared)(ρ:List Addr)(σ:H)(L:aR)(Q:bG)(E:bG),bt G N env ρ s.heap L->aH G ρ σ s.heap->
 PV G (ao (G.ctx n) x L σ) ρ s Q->wpAny G.mo A (eval e env) Q E s
def gZ(x:E)(e:av):Prop:=∀(s:Shared)(ρ:List Addr)(σ:H)(L:aR)(Q:Bool->Shared->Prop)(E:bG),bt G N env ρ s.heap L->aH G ρ σ s.heap->
 PB G (bR (G.ctx n) x L σ) ρ s Q->wpAny G.mo A (isTrue e env (eval e env)) Q E s
def f7(es:EL)(l:List av):Prop:=∀(pos:Pos)(s:Shared)(ρ:List Addr)(σ:H)(L:aR)(Q:List Value->Shared->Prop)(E:bG),bt G N env ρ s.heap L->aH G ρ σ s.heap->
 PL G (dc (G.ctx n) es L σ) ρ s Q->wpAny G.mo A (spliced (backTo pos (starEach l env))) Q E s
def pD(op:BoolOp)(es:EL)(l:List av):Prop:=∀(pos:Pos)(s:Shared)(ρ:List Addr)(σ:H)(L:aR)(Q:bG)(E:bG),bt G N env ρ s.heap L->aH G ρ σ s.heap->
 PV G ((match op with|.And=>mO (G.ctx n) es L|.Or=>rA (G.ctx n) es L) σ) ρ s Q->wpAny G.mo A (boolOp pos op (evalEach l env)) Q E s
def pE(op:BoolOp)(es:EL)(l:List av):Prop:=∀(s:Shared)(ρ:List Addr)(σ:H)(L:aR)(Q:Bool->Shared->Prop)(E:bG),bt G N env ρ s.heap L->aH G ρ σ s.heap->
 PB G ((match op with|.And=>jy (G.ctx n) es L|.Or=>jz (G.ctx n) es L) σ) ρ s Q->wpAny G.mo A (allTrue op l env) Q E s
def j5:Prop:=∀(A:Around),Ao A n->∀(f:Nat),G.P.eT (f+1)≠2->∀(vs:List V)(vals:List Value)(s:Shared)(ρ:List Addr)(σ:H)(Q:bG)(E:bG),aH G ρ σ s.heap->bK G ρ s.heap vals vs->
 PV G (aq G.P G.script n f vs σ) ρ s Q->wpAny G.mo A (call (.ref (G.fA f)) vals) Q E s
end
def iC(G:Gd):Prop:=∀f fn,G.P.fns f=some fn->∃o fd,G.hb.get? (G.fA f)=some o/\o.data=.func fd
section
variable{G:Gd}{n:Nat}{A:Around}{N:List Str}{env:Env}
theorem ba.then{x:E}{e:av}(hE:ba G n A N env x e){s:Shared}{ρ:List Addr}{σ:H}{L:aR}{α β:Type}{R:List Addr->Heap->β->α->Prop}{f:V->M α}{Q:β->Shared->Prop}{Q':bG}{E:bG}(X:bt G N env ρ s.heap L)(S:aH G ρ σ s.heap)(h:aS G R (M.bind (ao (G.ctx n) x L) f σ) ρ s Q)(k:∀v aC tk aK ax u,bt G N env aK aC L->aH G aK ax aC->Step ρ s.heap aK aC->Rel G aK aC v u->aS G R (f u ax) aK {s with heap:=aC,toks:=tk} Q->Q' v {s with heap:=aC,toks:=tk}):
  wpAny G.mo A (eval e env) Q' E s:=by refine bo (aS.bind h) λu ax e1 h1=>?_;refine hE s ρ σ L Q' E X S ?_;refine e1▸?_;exact λv aC tk aK st aG r=>k v aC tk aK ax u (X.step S st) aG st r (h1.step st)
theorem gZ.then{x:E}{e:av}(hE:gZ G n A N env x e){s:Shared}{ρ:List Addr}{σ:H}{L:aR}{α β:Type}{R:List Addr->Heap->β->α->Prop}{f:Bool->M α}{Q:β->Shared->Prop}{Q':Bool->Shared->Prop}{E:bG}(X:bt G N env ρ s.heap L)(S:aH G ρ σ s.heap)(h:aS G R (M.bind (bR (G.ctx n) x L) f σ) ρ s Q)(k:∀b aC tk aK ax,bt G N env aK aC L->aH G aK ax aC->Step ρ s.heap aK aC->aS G R (f b ax) aK {s with heap:=aC,toks:=tk} Q->Q' b {s with heap:=aC,toks:=tk}):
  wpAny G.mo A (isTrue e env (eval e env)) Q' E s:=by refine bo (aS.bind h) λu ax e1 h1=>?_;refine hE s ρ σ L Q' E X S ?_;refine e1▸?_;rintro v aC tk aK st aG rfl;exact k v aC tk aK ax (X.step S st) aG st (h1.step st)
theorem f7.then{x:EL}{l:List av}(hE:f7 G n A N env x l){pos:Pos}{s:Shared}{ρ:List Addr}{σ:H}{L:aR}{α β:Type}{R:List Addr->Heap->β->α->Prop}{f:List V->M α}{Q:β->Shared->Prop}{Q':List Value->Shared->Prop}{E:bG}(X:bt G N env ρ s.heap L)(S:aH G ρ σ s.heap)(h:aS G R (M.bind (dc (G.ctx n) x L) f σ) ρ s Q)(k:∀v aC tk aK ax u,bt G N env aK aC L->aH G aK ax aC->Step ρ s.heap aK aC->bK G aK aC v u->aS G R (f u ax) aK {s with heap:=aC,toks:=tk} Q->Q' v {s with heap:=aC,toks:=tk}):
  wpAny G.mo A (spliced (backTo pos (starEach l env))) Q' E s:=by refine bo (aS.bind h) λu ax e1 h1=>?_;refine hE pos s ρ σ L Q' E X S ?_;refine e1▸?_;exact λv aC tk aK st aG r=>k v aC tk aK ax u (X.step S st) aG st r (h1.step st)
theorem Kk:ba G n A N env .none (.Constant .none k p):=λs ρ σ L Q E X S h=>wpAny_pure (h.cu S .none)
theorem Kl:ba G n A N env (.bool b) (.Constant (.bool b) k p):=λs ρ σ L Q E X S h=>wpAny_pure (h.cu S (.bool b))
theorem B4:ba G n A N env (.int i) (.Constant (.int i) k p):=λs ρ σ L Q E X S h=>wpAny_mkInt (h.here S (.int _ _))
theorem Mp:ba G n A N env (.str x) (.Constant (.str x) k p):=λs ρ σ L Q E X S h=>wpAny_mkText (h.here S (.str _ _))
theorem wK(hx:N[i]?=some x)(hd:(x==("__debug__":Str))=false):ba G n A N env (.aa i) (.Name x p):=λs ρ σ L Q E X S h=>by
 refine aO (aS.cX h) λu hu h1=>?_;exact wpAny_Name (Ki X hx hu λv r=>h1.cu S r) hd
theorem Km(K:cD G)(hx:G.gN g=x)(hk:env.kindOf x=some .globalImplicit)(hd:(x==("__debug__":Str))=false):ba G n A N env (.glob g) (.Name x p):=λs ρ σ L Q E X S h=>by
 refine aO (aS.cX h) λu hu h1=>?_;exact wpAny_Name (load_const K S X hk hu hx λv r=>h1.cu S r) hd
theorem Mq{es:EL}{l:List av}{k:Nat}{p:Pos}(hE:f7 G n A N env es l):ba G n A N env (.aB es) (.Tuple l k p):=λs ρ σ L Q E X S h=>
 Tuple_ (hE.then X S h λv aC tk aK ax u br aG st r h1=>by
  obtain⟨hle,h2⟩:=aS.ite h1
  exact wpAny_newTuple (h2.wH aG r) (by(refine(r.length)▸?_);exact iR hle))
theorem B5{es:EL}{l:List av}{p:Pos}(hE:f7 G n A N env es l):ba G n A N env (.ah es) (.List l p):=λs ρ σ L Q E X S h=>
 List_ (hE.then X S h λv aC tk aK ax u br aG st r h1=>by
  obtain⟨hle,h2⟩:=aS.ite h1
  exact wpAny_newList (h2.wI aG r) (by(refine(r.length)▸?_);exact iR hle))
theorem B6:f7 G n A N env .nil []:=λpos s ρ σ L Q E X S h=>args_nil (h.cu S .nil)
theorem Ko{x:E}{e:av}(hE:ba G n A N env x e)(H':f7 G n A N env es l)(hs:starEach (e::l) env=(false,eval e env)::starEach l env):f7 G n A N env (.cons x es) (e::l):=λpos s ρ σ L Q E X S h=>
 args_cons (hE.then X S h λv aC tk aK ax u br aG st r h1=>H'.then br aG h1 λvs bp cC dQ bM us dB b6 cF rs h2=>h2.cu b6 (.cons (r.step cF aG) rs)) hs
theorem Mr(hE:ba G n A N env a l)(H':ba G n A N env b r):ba G n A N env (.aj op a b) (.BinOp l op r p):=λs ρ σ L Q E X S h=>
 wpAny_BinOp (hE.then X S h λv aC tk aK ax u br aG st r h1=>H'.then br aG h1 λv' bp cC dQ bM u' dB b6 cF r' h2=>IW b6 (r.step cF aG) r' h2)
theorem Ms{a:E}{l:av}{p:Pos}(hE:ba G n A N env a l):ba G n A N env (.neg a) (.UnaryOp .USub l p):=λs ρ σ L Q E X S h=>
 wpAny_UnaryOp (hE.then X S h λv aC tk aK ax u br aG st r h1=>by
  refine bo (aS.bind h1) λi bM e h2=>?_;refine a5 (jm e) λcz bg=>?_;clear e;(clear h1;subst cz);subst bg
  exact Mh aG r h2)
theorem aS.C0(h:PV G (M.bind m (λr=>M.pure (.bool r)) σ) ρ s Q):oE G (m σ) ρ s Q:=by refine bo (aS.bind h) λb ax e h1=>?_;refine e▸?_;rintro v h' tk az st S rfl;exact h1 _ h' tk az st S (.bool _)
theorem Mu(K:cD G)(Y:Ao A n)(hE:ba G n A N env a l)(H':ba G n A N env b r)(hm:behindInMarks op r=false):ba G n A N env (.cmp op a b) (.Compare l [op] [r] p):=λs ρ σ L Q E X S h=>
 wpAny_Compare1 (hE.then X S h λv aC tk aK ax u br aG st r h1=>H'.then br aG h1 λv' bp cC dQ bM u' dB b6 cF r' h2=>vX K Y.EZ b6 (r.step cF aG) r' h2.C0) hm
theorem I1{op:CmpOp}{x y:Value}{u v:V}{s:Shared}{ρ:List Addr}{σ:H}{E:bG}(K:cD G)(Y:Ao A n)(S:aH G ρ σ s.heap)(rx:Rel G ρ s.heap x u)(ry:Rel G ρ s.heap y v)(h:PB G (dJ op u v σ) ρ s Q):wpAny G.mo A (compareOp op x y) (λc gV=>wpAny G.mo A (truthy c) Q E gV) E s:=by
 refine vX K Y.EZ S rx ry ?_;cases e:dJ op u v σ with
|ok b ax=>(replace h:=e▸h);rintro c h' tk az st S' rfl;exact wpAny_truthy_bool (h b h' tk az st S' rfl)
|aF c ax=>(replace h:=e▸h);exact h
|bad=>(replace h:=e▸h);exact h
theorem Kq(K:cD G)(Y:Ao A n)(hE:ba G n A N env a l)(H':ba G n A N env b r)(hm:behindInMarks op r=false):gZ G n A N env (.cmp op a b) (.Compare l [op] [r] p):=λs ρ σ L Q E X S h=>
 wpAny_isTrue_Compare1 (hE.then X S h λv aC tk aK ax u br aG st r h1=>H'.then br aG h1 λv' bp cC dQ bM u' dB b6 cF r' h2=>I1 K Y b6 (r.step cF aG) r' h2) hm
theorem Kr(hE:gZ G n A N env a l):gZ G n A N env (.not a) (.UnaryOp .Not l p):=λs ρ σ L Q E X S h=>
 wpAny_isTrue_Not (hE.then X S h λb aC tk aK ax br aG st h1=>h1.cu aG rfl)
theorem Mv{a:E}{l:av}{p:Pos}(hE:ba G n A N env a l):ba G n A N env (.not a) (.UnaryOp .Not l p):=λs ρ σ L Q E X S h=>
 wpAny_UnaryOp (hE.then X S h λv aC tk aK ax u br aG st r h1=>by
  refine bo (aS.bind h1) λb bM e h2=>?_;refine a5 (qx e) λcz bg=>?_;clear e;(clear h1;subst cz);subst bg;(apply om r)
  exact not_of (wpAny_truthy_bool (h2.cu aG (.bool _))))
theorem ti(hE:ba G n A N env x e)(hev:∀L σ,bR (G.ctx n) x L σ=M.bind (ao (G.ctx n) x L) dP σ)(hi:isTrue e env (eval e env)=(do let v ←eval e env;standAt e.pos;holding [v] (truthy v))):gZ G n A N env x e:=λs ρ σ L Q E X S h=>by
 refine hi▸?_;rw[hev] at h;refine wpAny_bind (hE.then X S h λv aC tk aK ax u br aG st r h1=>?_);cases u with
|bool b=>(apply om r);exact wpAny_bind (wpAny_standAt (wpAny_holding (wpAny_truthy_bool (h1.cu aG rfl))))
|_=>exact h1.elim
theorem wL(K:cD G)(hE:ba G n A N env a l)(H':ba G n A N env i r)(hs:∀l u p,r≠.Slice l u none p):ba G n A N env (.au a i) (.Subscript l r p):=λs ρ σ L Q E X S h=>
 Subscript_ (hE.then X S h λv aC tk aK ax u br aG st r h1=>H'.then br aG h1 λv' bp cC dQ bM u' dB b6 cF r' h2=>vY K rfl b6 (r.step cF aG) r' hs h2)
def tE(G:Gd)(n:Nat)(A:Around)(N:List Str)(env:Env)(x:E)(e:Option av):Prop:=match e with
|none=>x=.none
|some e=>ba G n A N env x e
theorem tE.then{x:E}{e:Option av}(hE:tE G n A N env x e){s:Shared}{ρ:List Addr}{σ:H}{L:aR}{α β:Type}{R:List Addr->Heap->β->α->Prop}{f:V->M α}{Q:β->Shared->Prop}{Q':bG}{E:bG}(X:bt G N env ρ s.heap L)(S:aH G ρ σ s.heap)(h:aS G R (M.bind (ao (G.ctx n) x L) f σ) ρ s Q)(k:∀v aC tk aK ax u,bt G N env aK aC L->aH G aK ax aC->Step ρ s.heap aK aC->Rel G aK aC v u->aS G R (f u ax) aK {s with heap:=aC,toks:=tk} Q->Q' v {s with heap:=aC,toks:=tk}):
  wpAny G.mo A (evalPart e env) Q' E s:=by
 cases e with
|none=>
  subst (hE);rw[evalPart_none];refine bo (aS.bind h) λu ax e1 h1=>?_;refine fg e1 λaP cL=>?_;subst aP;subst cL;exact wpAny_pure (k .none s.heap s.toks ρ _ _ X S (Step.refl _ _) .none h1)
|some e=>rw[evalPart_some];exact ba.then hE X S h k
theorem Mw{a lo hi:E}{l:av}{lower upper:Option av}{p p':Pos}(hE:ba G n A N env a l)(H1:tE G n A N env lo lower)(H2:tE G n A N env hi upper):ba G n A N env (.slc a lo hi) (.Subscript l (.Slice lower upper none p') p):=λs ρ σ L Q E X S h=>
 Subscript_ (hE.then X S h λv aC tk aK ax u br aG st r h1=>wpAny_Slice (H1.then br aG h1 λvl bp cC dQ bM ul dB b6 cF rl h2=>H2.then dB b6 h2 λvu dq fY fZ et uu gw dI dW ru h3=>by
  rw[evalPart_none];refine wpAny_pure ?_;have g:∀c o,dq.get? c=some o->(dq.push {cls:=.type "slice",data:=.fields #[vl,vu,.none]}).get? c=some o:=gK;have jA:=Step.grow dI g
  exact vZ (dI.grow g) (((r.step cF aG).step dW b6).step jA dI) ((rl.step dW b6).step jA dI) (ru.step jA dI) (Heap.IsSliceOf.new ..) (aS.step h3 jA)))
end
end Qh
namespace Qh
open PySem PyProof.Rows
section
variable{G:Gd}{n:Nat}{A:Around}{N:List Str}{env:Env}
theorem sm(e:aq P sc n f vs σ=.ok r ax):∃fn m,P.fns f=some fn/\n=m+1:=by
 cases n with
|zero=>exact cR e
|succ m=>
  simp only[aq] at e;cases hf:P.fns f with
  |none=>(replace e:=hf▸e);exact cR e
  |some fn=>exact⟨fn,m,rfl,rfl⟩
theorem PV.some(h:PV G r ρ s Q):∃v ax,r=.ok v ax:=by
 cases r with
|ok v ax=>exact⟨v,ax,rfl⟩
|aF c ax=>exact h.elim
|bad=>exact h.elim
theorem Bw(K:cD G)(F:iC G)(Y:Ao A n)(C:j5 G n)(nt:G.P.eT (f+1)≠2)(hE:f7 G n A N env es (e::args))(hx:G.fN f=x)(hg:G.eO f=true)(hk:env.kindOf x=some .globalImplicit)(hd:(x==("__debug__":Str))=false)(hs:starEach (e::args) env=(false,eval e env)::starEach args env):ba G n A N env (.call f es) (.Call (.Name x p') (e::args) [] p):=λs ρ σ L Q E X S h=>by
 refine bB λXx aI=>?_;refine bo (aS.bind h) λvs ax e1 h1=>?_;refine gm (PV.some h1) λr bM e2=>?_;refine bo (sm e2) λfn m hf _=>?_;refine bo (F f fn hf) λo fd ho hdat=>?_;refine aI ?_;refine wpAny_Call_NameR (wpAny_Name (wh K S X hk hf hg hx ?_) hd);refine callWith_def hdat (hE.then X S h λv aC tk aK ax u br aG st r h1=>⟨aG.base _ _ ho,C A Y f nt u v _ aK ax Q E aG r h1⟩) hs
theorem nS(K:cD G)(hE:ba G n A N env a e)(hev:∀L σ,ao (G.ctx n) kY L σ=M.bind (ao (G.ctx n) a L) op σ)(hk:env.kindOf x=some .globalImplicit)(hx:x∈nH)(hv:bootBuiltins x=some v)(hd:(x==("__debug__":Str))=false)(hs:starEach [e] env=[(false,eval e env)])(hb:(∃id,v=.builtin id)∨∃T,v=.type T)(hop:∀(s:Shared)(ρ:List Addr)(σ:H)(y:Value)(u:V)(Q:bG)(E:bG),aH G ρ σ s.heap->Rel G ρ s.heap y u->PV G (op u σ) ρ s Q->wpAny G.mo A (call v [y]) Q E s):
  ba G n A N env kY (.Call (.Name x p') [e] [] p):=λs ρ σ L Q E X S h=>by
 rw[hev] at h;refine wpAny_Call_NameR (wpAny_Name (nI K S X hk hx hv ?_) hd);have args:wpAny G.mo A (spliced (backTo p (starEach [e] env))) (λvs bw=>wpAny G.mo A (call v vs) Q E bw) E s:=
  args_cons (hE.then X S h λy aC tk aK ax u br aG st r h1=>args_nil (hop _ aK ax y u Q E aG r h1)) hs
 rcases hb with ⟨id,rfl⟩|⟨T,rfl⟩
 ·exact callWith_builtin1 args hs rfl
 ·exact callWith_type1 args hs rfl
theorem boot_len:bootBuiltins "len"=some (.builtin "len"):=by decide+kernel
theorem boot_int:bootBuiltins "int"=some (.type "int"):=by decide+kernel
theorem boot_bool:bootBuiltins "bool"=some (.type "bool"):=by decide+kernel
theorem boot_str:bootBuiltins "str"=some (.type "str"):=by decide+kernel
theorem boot_sum:bootBuiltins "sum"=some (.builtin "sum"):=by decide+kernel
theorem boot_max:bootBuiltins "max"=some (.builtin "max"):=by decide+kernel
theorem boot_isinstance:bootBuiltins "isinstance"=some (.builtin "isinstance"):=by decide+kernel
theorem boot_list:bootBuiltins "list"=some (.type "list"):=by decide+kernel
theorem boot_tuple:bootBuiltins "tuple"=some (.type "tuple"):=by decide+kernel
theorem boot_dict:bootBuiltins "dict"=some (.type "dict"):=by decide+kernel
theorem boot_range:bootBuiltins "range"=some (.type "range"):=by decide+kernel
theorem Mx(K:cD G)(hE:ba G n A N env a e)(hk:env.kindOf "len"=some .globalImplicit)(hs:starEach [e] env=[(false,eval e env)]):ba G n A N env (.len a) (.Call (.Name "len" p') [e] [] p):=
 nS K hE (λ_ _=>rfl) hk (by decide+kernel) boot_len (by decide+kernel) hs (.inl ⟨_,rfl⟩) λs ρ σ y u Q E S r h=>Mm K rfl S r h
theorem I2(K:cD G)(hE:ba G n A N env a e)(hk:env.kindOf "int"=some .globalImplicit)(hs:starEach [e] env=[(false,eval e env)]):ba G n A N env (.toInt a) (.Call (.Name "int" p') [e] [] p):=
 nS K hE (λ_ _=>rfl) hk (by decide+kernel) boot_int (by decide+kernel) hs (.inr ⟨_,rfl⟩) λs ρ σ y u Q E S r h=>IY S r h
theorem I3(K:cD G)(hE:ba G n A N env a e)(hk:env.kindOf "str"=some .globalImplicit)(hs:starEach [e] env=[(false,eval e env)]):ba G n A N env (.toStr a) (.Call (.Name "str" p') [e] [] p):=
 nS K hE (λ_ _=>rfl) hk (by decide+kernel) boot_str (by decide+kernel) hs (.inr ⟨_,rfl⟩) λs ρ σ y u Q E S r h=>IZ S r h
theorem My(K:cD G)(Y:Ao A n)(hE:ba G n A N env a e)(hk:env.kindOf "sum"=some .globalImplicit)(hs:starEach [e] env=[(false,eval e env)]):ba G n A N env (.sum a) (.Call (.Name "sum" p') [e] [] p):=
 nS K hE (λ_ _=>rfl) hk (by decide+kernel) boot_sum (by decide+kernel) hs (.inl ⟨_,rfl⟩) λs ρ σ y u Q E S r h=>Mo Y.hh S r h
theorem Kt(K:cD G)(hE:ba G n A N env a e)(hk:env.kindOf "list"=some .globalImplicit)(hs:starEach [e] env=[(false,eval e env)]):ba G n A N env (.list a) (.Call (.Name "list" p') [e] [] p):=
 nS K hE (λ_ _=>rfl) hk (by decide+kernel) boot_list (by decide+kernel) hs (.inr ⟨_,rfl⟩) λs ρ σ y u Q E S r h=>Ke S r h
theorem I4(K:cD G)(hE:ba G n A N env a e)(hk:env.kindOf "tuple"=some .globalImplicit)(hs:starEach [e] env=[(false,eval e env)]):ba G n A N env (.tuple a) (.Call (.Name "tuple" p') [e] [] p):=
 nS K hE (λ_ _=>rfl) hk (by decide+kernel) boot_tuple (by decide+kernel) hs (.inr ⟨_,rfl⟩) λs ρ σ y u Q E S r h=>I0 S r h
theorem Ku(K:cD G)(hE:ba G n A N env a e)(hk:env.kindOf "dict"=some .globalImplicit)(hs:starEach [e] env=[(false,eval e env)]):ba G n A N env (.dict a) (.Call (.Name "dict" p') [e] [] p):=
 nS K hE (λ_ _=>rfl) hk (by decide+kernel) boot_dict (by decide+kernel) hs (.inr ⟨_,rfl⟩) λs ρ σ y u Q E S r h=>Kf K S r h
theorem Kv(K:cD G)(Y:Ao A n)(hE:ba G n A N env a e)(yz:ba G n A N env b e')(hk:env.kindOf "max"=some .globalImplicit)(hs:starEach [e,e'] env=(false,eval e env)::starEach [e'] env)(hs':starEach [e'] env=[(false,eval e' env)]):ba G n A N env (.max2 a b) (.Call (.Name "max" p') [e,e'] [] p):=λs ρ σ L Q E X S h=>by
 refine wpAny_Call_NameR (wpAny_Name (nI K S X hk (by decide+kernel) boot_max ?_) (by decide+kernel));refine callWith_builtin1 (args_cons (hE.then X S h λy aC tk aK ax u br aG st r h1=>args_cons (yz.then br aG h1 λy' bp cC dQ bM u' dB b6 cF r' h2=>args_nil (Kc Y.hh b6 (r.step cF aG) r' h2)) hs') hs) hs (by(refine hs'▸?_);rfl)
theorem An(K:cD G)(hE:ba G n A N env a e)(hk:env.kindOf "isinstance"=some .globalImplicit)(ht:env.kindOf (Str.ofString t)=some .globalImplicit)(hm:Str.ofString t∈nH)(hb:bootBuiltins (Str.ofString t)=some (.type t))(hd:(Str.ofString t==("__debug__":Str))=false)(hs:starEach [e,.Name (Str.ofString t) p''] env=(false,eval e env)::starEach [.Name (Str.ofString t) p''] env):ba G n A N env (.dU t a) (.Call (.Name "isinstance" p') [e,.Name (Str.ofString t) p''] [] p):=λs ρ σ L Q E X S h=>by
 refine wpAny_Call_NameR (wpAny_Name (nI K S X hk (by decide+kernel) boot_isinstance ?_) (by decide+kernel));refine callWith_builtin1 (args_cons (hE.then X S h λy aC tk aK ax u br aG st r h1=>args_cons (wpAny_Name (nI K aG br ht hm hb (args_nil ?_)) hd) rfl) hs) hs rfl;exact Am aG r h1.C0
theorem Kw(K:cD G)(Y:Ao A n)(hE:ba G n A N env a e)(hk:env.kindOf "max"=some .globalImplicit)(hs:starEach [e] env=[(false,eval e env)]):
  ba G n A N env (.gT a) (.Call (.Name "max" p') [e] [⟨some "default",.Constant (.int 0) k p'',kp⟩] p):=λs ρ σ L Q E X S h=>by
 show wpAny _ A (do callWith p (←eval (.Name "max" p') env) [] (backTo p (starEach [e] env)) (backToKw p (keywordEach [⟨some "default",.Constant (.int 0) k p'',kp⟩] env))) Q E s;refine wpAny_bind (wpAny_Name (nI K S X hk (by decide+kernel) boot_max ?_) (by decide+kernel));refine callWith_kw (args_cons (hE.then X S h λy aC tk aK ax u br aG st r h1=>args_nil ?_) hs) (by(refine hs.symm▸?_);rfl) (by(refine hs▸?_);rfl) rfl rfl;show wpAny _ A (evalAll [do let v ←eval (.Constant (.int 0) k p'') env;standAt p;pure v]) _ _ _;refine wpAny_evalAll_cons (wpAny_bind (wpAny_mkInt (wpAny_bind (wpAny_standAt (wpAny_pure (wpAny_evalAll_nil ?_))))));exact Kh Y.hh aG r (.int _ _) (h1.step (Step.refl aK aC))
def jV:av->Bool
|.Name ..=>true
|.Constant ..=>true
|_=>false
theorem vx(h:jV o=true):attributeBase o name env whole=whole:=by cases o<;>first|rfl|exact ff h
theorem Kx(hE:ba G n A N env a e)(yz:ba G n A N env b e')(hb:jV e=true)(hline:(ap.endLine==p.line)=true)(hs:starEach [e'] env=[(false,eval e' env)]):ba G n A N env (.join a b) (.Call (.Attribute e "join" ap) [e'] [] p):=λs ρ σ L Q E X S h=>by
 refine Call_method1 (vx hb) hs hline (hE.then X S h λy aC tk aK ax u br aG st r h1=>?_);have hu:∃z,u=.str z:=by
  refine bB λXx aI=>?_;refine bo (aS.bind h1) λw ag e1 h2=>?_;refine bo (aS.bind h2) λsep cp e2 _=>?_;refine a5 (AX e2) λcz _=>?_;clear e2;(clear h2 h1 r;subst cz);refine aI ?_;exact⟨_,rfl⟩
 obtain⟨z,rfl⟩:=hu;(apply km r;intro _);refine⟨"str",_,PySem.F.plainAttrs_str,PySem.F.slot_str_join,PySem.F.type_str_join,typeIs_str _ _ _,(λa q=>nomatch q),?_⟩;have:=callWith_method1 (first:=[Value.str z ‹_›]) (id:="str.join") (pos:=p) (env:=env) (e:=e') (rest:=[]) (M:=model G.prog G.w) (A:=A) (Q:=Q) (E:=E) (s:={s with heap:=aC,toks:=tk})
  (args_cons (yz.then br aG h1 λy' bp cC dQ bM u' dB b6 cF r' h2=>args_nil (Kg (u:=.str z) b6 (.str _ _) r' h2)) hs) hs rfl
 replace this:=hs▸this;exact this
theorem Ky:ba G n A N env (.ay [] .nil) (.Dict [] [] p):=λs ρ σ L Q E X S h=>by
 have h1:PV G ((if(([]:List Str).length=([]:List V).length/\([]:List Str).Nodup/\([]:List Str).length<=15) then cY (.ay ([].zip [])) else M.fail) σ) ρ s Q:=h;refine a5 (aS.ite h1) λ_ h2=>?_;exact wpAny_Dict_empty (aS.newDict h2 S (λc o e=>gK _ _ e) (aQ _) (Heap.DictOf.new s.heap) rfl .nil)
end
end Qh
namespace Qh
open PySem PyProof.Rows
section
variable{G:Gd}{n:Nat}{A:Around}{N:List Str}{env:Env}
theorem Hl(hE:ba G n A N env x e):pD G n A N env op (.cons x .nil) [e]:=λpos s ρ σ L Q E X S h=>by
 have h':PV G (M.bind (ao (G.ctx n) x L) (λv=>M.bind (dP v) λb=>M.pure (.bool b)) σ) ρ s Q:=by cases op<;>exact h
 show wpAny _ A (eval e env) Q E s;exact hE.then X S h' λv aC tk aK ax u br aG st r h1=>by
  obtain⟨b,bM,e,h2⟩:=aS.bind h1;have zz:=qx e;clear e;obtain⟨rfl,rfl⟩:=zz;exact h2.cu aG r
theorem Hm(hE:ba G n A N env x e)(hA:pD G n A N env op (.cons y es) (e'::l)):pD G n A N env op (.cons x (.cons y es)) (e::e'::l):=λpos s ρ σ L Q E X S h=>by
 show wpAny _ A (do
  let v ←eval e env
  standAt pos
  let t ←holding [v] (truthy v)
  match op,t with
  |.And,false|.Or,true=>pure v
  |_,_=>boolOp pos op (evalEach (e'::l) env)) Q E s
 cases op with
|And=>
  refine wpAny_bind (hE.then X S h λv aC tk aK ax u br aG st r h1=>?_);obtain⟨b,bM,e,h2⟩:=aS.bind h1;have zz:=qx e;clear e;obtain⟨rfl,rfl⟩:=zz;(apply om r);refine wpAny_bind (wpAny_standAt (wpAny_bind (wpAny_holding (wpAny_truthy_bool ?_))));clear h1 r;cases b with
  |false=>exact wpAny_pure (aS.cu h2 aG (.bool _))
  |true=>exact hA pos _ aK _ L Q E br aG h2
|Or=>
  refine wpAny_bind (hE.then X S h λv aC tk aK ax u br aG st r h1=>?_);obtain⟨b,bM,e,h2⟩:=aS.bind h1;have zz:=qx e;clear e;obtain⟨rfl,rfl⟩:=zz;(apply om r);refine wpAny_bind (wpAny_standAt (wpAny_bind (wpAny_holding (wpAny_truthy_bool ?_))));clear h1 r;cases b with
  |true=>exact wpAny_pure (aS.cu h2 aG (.bool _))
  |false=>exact hA pos _ aK _ L Q E br aG h2
theorem Mz(hA:pD G n A N env .And es l):ba G n A N env (.and es) (.BoolOp .And l p):=λs ρ σ L Q E X S h=>hA p s ρ σ L Q E X S h
theorem Of(hA:pD G n A N env .Or es l):ba G n A N env (.or es) (.BoolOp .Or l p):=λs ρ σ L Q E X S h=>hA p s ρ σ L Q E X S h
theorem HU:pE G n A N env op .nil []:=λs ρ σ L Q E X S h=>by
 cases op
 ·exact wpAny_pure (aS.cu h S rfl)
 ·exact wpAny_pure (aS.cu h S rfl)
theorem Hn(hE:gZ G n A N env x e)(hA:pE G n A N env op es l):pE G n A N env op (.cons x es) (e::l):=λs ρ σ L Q E X S h=>by
 show wpAny _ A (do
  match op,←isTrue e env (eval e env) with
  |.And,false=>pure false
  |.Or,true=>pure true
  |_,_=>allTrue op l env) Q E s
 cases op with
|And=>
  refine wpAny_bind (hE.then X S h λb aC tk aK ax br aG st h1=>?_);cases b with
  |false=>exact wpAny_pure (aS.cu h1 aG rfl)
  |true=>exact hA _ aK _ L Q E br aG h1
|Or=>
  refine wpAny_bind (hE.then X S h λb aC tk aK ax br aG st h1=>?_);cases b with
  |true=>exact wpAny_pure (aS.cu h1 aG rfl)
  |false=>exact hA _ aK _ L Q E br aG h1
theorem Kz(hA:pE G n A N env .And es l):gZ G n A N env (.and es) (.BoolOp .And l p):=λs ρ σ L Q E X S h=>hA s ρ σ L Q E X S h
theorem MA(hA:pE G n A N env .Or es l):gZ G n A N env (.or es) (.BoolOp .Or l p):=λs ρ σ L Q E X S h=>hA s ρ σ L Q E X S h
theorem kD(h:cm (bV L v w) i=some u):(i=v/\u=w)∨(i≠v/\cm L i=some u):=by
 induction L generalizing v i with
|nil=>simp[bV,cm] at h
|cons x r ih=>
  cases v with
  |zero=>
   cases i with
   |zero=>simp[bV,cm] at h;exact .inl ⟨rfl,h.symm⟩
   |succ i=>simp[bV,cm] at h;exact .inr ⟨by simp,by simpa[cm] using h⟩
  |succ v=>
   cases i with
   |zero=>simp[bV,cm] at h;exact .inr ⟨by simp,by simpa[cm] using h⟩
   |succ i=>
    simp[bV,cm] at h;rcases ih h with ⟨h1,h2⟩|⟨h1,h2⟩
    ·exact .inl ⟨by exact cj (lN 0x6134184c04900904920634c [_,_] rfl h1) (lN 0x6134184c04904920630d [_,_] rfl h1),h2⟩
    ·exact .inr ⟨by lia,by simpa[cm] using h2⟩
theorem Bx(L:aR)(i:Nat):cm L i=(L[i]?).join:=by
 induction L generalizing i with
|nil=>simp[cm]
|cons x r ih=>cases i<;>simp[cm,ih]
theorem zu(h:cm (cK L bk) i=some u):i∈bk/\cm L i=some u:=by
 rw[Bx] at h ⊢;unfold cK at h;simp only[List.getElem?_map,List.getElem?_zipIdx] at h;cases hx:L[i]? with
|none=>(replace h:=hx▸h);simp at h
|some o=>
  replace h:=hx▸h;simp at h;exact⟨h.1,by simpa using h.2⟩
theorem qp(hc:∀y∈scope.names,y.2=.free->(env.cells.lookup y.1).isSome=true):
  ∃cl,closureFor scope env=pure cl/\∀y,(y,NameKind.free)∈scope.names->cl.lookup y=env.cells.lookup y:=by
 have key:∀(names:List (Str×NameKind))(cs:List (Str×Addr)),(∀y∈names,y.2=.free->(env.cells.lookup y.1).isSome=true)->(∀y c,cs.lookup y=some c->env.cells.lookup y=some c)->
   ∃cl,(forIn names cs λ(x:Str×NameKind)(cs:List (Str×Addr))=>(if(x.2==.free)=true then do let a ←cellOf env x.1;pure (ForInStep.yield ((x.1,a)::cs)) else pure (ForInStep.yield cs):Sem _))=pure cl/\
    (∀y,(y,NameKind.free)∈names∨(cs.lookup y).isSome=true->cl.lookup y=env.cells.lookup y):=by
  intro names
  induction names with
  |nil=>
   intro cs _ h2;refine⟨cs,by rw[List.forIn_nil],λy hy=>?_⟩;rcases hy with q|q
   ·cases q
   ·obtain⟨c,hc⟩:=Option.isSome_iff_exists.mp q;refine hc▸?_;refine(h2 y c hc)▸?_;with_reducible rfl
  |cons x r ih=>
   intro cs h1 h2;obtain⟨nm,kd⟩:=x;rw[List.forIn_cons]
   by_cases hk:kd=.free
   ·subst hk;refine bB λXx aI=>?_;obtain⟨c,hc⟩:=Option.isSome_iff_exists.mp (h1 (nm,.free) (.head _) rfl);have e:cellOf env nm=pure c:=by unfold cellOf;(refine hc▸?_;with_reducible rfl)
    have h2':∀y c',((nm,c)::cs).lookup y=some c'->env.cells.lookup y=some c':=λy c' q=>by
     rw[List.lookup_cons] at q;cases hy:y==nm with
     |true=>(replace q:=hy▸q);(apply eJ q);(refine(beq_iff_eq.mp hy)▸?_);exact hc
     |false=>(replace q:=hy▸q);exact h2 y c' q
    refine aO (ih ((nm,c)::cs) (λy hy=>h1 y (.tail _ hy)) h2') λcl e1 e2=>?_;refine aI ?_;refine⟨cl,?_,λy hy=>?_⟩
    ·simp only[beq_self_eq_true,if_true,e];exact e1
    ·refine e2 y ?_;rcases hy with q|q
     ·rcases List.mem_cons.mp q with q|q
      ·right;cases q;rw[List.lookup_cons];simp
      ·exact .inl q
     ·right
      rw[List.lookup_cons];cases hy:y==nm with
      |true=>rfl
      |false=>exact q
   ·have hk':(kd==NameKind.free)=false:=by simpa using hk
    refine aO (ih cs (λy hy=>h1 y (.tail _ hy)) h2) λcl e1 e2=>?_;refine⟨cl,?_,λy hy=>?_⟩
    ·simp only[hk',Bool.false_eq_true,if_false];exact e1
    ·refine e2 y ?_;rcases hy with q|q
     ·rcases List.mem_cons.mp q with q|q
      ·cases q;exact absurd rfl hk
      ·exact .inl q
     ·exact .inr q
 refine aO (key scope.names [] hc (λy c q=>by exact bL q)) λcl e1 e2=>?_;refine⟨cl,?_,λy hy=>e2 y (.inl hy)⟩;have e0:closureFor scope env=(forIn scope.names ([]:List (Str×Addr)) λ(x:Str×NameKind)(cs:List (Str×Addr))=>(if(x.2==NameKind.free)=true then do let a ←cellOf env x.1;pure (ForInStep.yield ((x.1,a)::cs)) else pure (ForInStep.yield cs):Sem (ForInStep (List (Str×Addr))))) >>= λr=>pure r:=rfl;refine e0▸?_;refine e1.symm▸?_
 rfl
end
end Qh
namespace Qh
open PySem PyProof.Rows
theorem zv{env:Env}:∀{names:List (Str×NameKind)}{y:Str},(∀z∈names,z.2≠.cell)->
  (names.map λ(n,k)=>if(k==NameKind.free&&env.scope.kind==.function&&env.kindOf n==some .cell) then(n,NameKind.cell) else(n,k)).lookup y=some .cell->(y,NameKind.free)∈names/\env.kindOf y=some .cell
|[],y,_,h=>by simp at h
|(m,k)::r,y,hc,h=>by
  have ih:=@zv env r y (λz hz=>hc z (.tail _ hz));simp only[List.map_cons] at h
  by_cases rb:(k==NameKind.free&&env.scope.kind==.function&&env.kindOf m==some .cell)=true
  ·rw[if_pos rb,List.lookup_cons] at h;cases hy:y==m with
   |true=>
    have e:=beq_iff_eq.mp hy;clear ih hy h hc;subst e;simp only[Bool.and_eq_true,beq_iff_eq] at rb;exact⟨by(refine(rb.1.1)▸?_);exact .head _,rb.2⟩
   |false=>
    replace h:=hy▸h;exact⟨.tail _ (ih h).1,(ih h).2⟩
  ·rw[if_neg rb,List.lookup_cons] at h;cases hy:y==m with
   |true=>
    (replace h:=hy▸h);(refine dE h λaP=>?_;subst aP);exact absurd rfl (hc (m,.cell) (.head _))
   |false=>
    replace h:=hy▸h;exact⟨.tail _ (ih h).1,(ih h).2⟩
section
variable{G:Gd}{n:Nat}{A:Around}{N:List Str}{env:Env}{ρ:List Addr}{h:Heap}{L:aR}
structure gQ(N:List Str)(env:Env)(scope:Scope)(x:Str)(v:Nat)(bk:List Nat):Prop where
 kind:scope.kind=.function
 B7:∀y∈scope.names,y.2≠.cell
 locs:∀y∈scope.names,y.2=.local->scope.names.lookup y.1=some .local
 aa:scope.names.lookup x=some .local
 slot:N[v]?=some x
 free:∀y∈scope.names,y.2=.free->env.kindOf y.1=some .cell
 bk:∀i∈bk,∀y,N[i]?=some y->(relabel scope env).names.lookup y=some .cell
theorem bt.inner{scope:Scope}{x:Str}{v:Nat}{bk:List Nat}{cl:List (Str×Addr)}(X:bt G N env ρ h L)(Z:gQ N env scope x v bk)(hcl:∀y,(y,NameKind.free)∈scope.names->cl.lookup y=env.cells.lookup y)(hns:h.Ns C m)(hm:m x=some w)(hr:Rel G ρ h w it)(hC:C∉ρ)(Qt:G.hb.get? C=none):bt G N (compEnvC scope cl C env) ρ h (bV (cK L bk) v it):=by
 have cellsOf:∀y,(compEnvC scope cl C env).kindOf y=some .cell->env.kindOf y=some .cell/\cl.lookup y=env.cells.lookup y:=λy hy=>by
  refine a5 (zv Z.B7 hy) λh1 h2=>?_;exact⟨h2,hcl y h1⟩
 have E0:(compEnvC scope cl C env).kindOf x=some .local:=lookup_relabel_local Z.aa;have key:∀i u y,cm (bV (cK L bk) v it) i=some u->N[i]?=some y->(i=v/\u=it/\y=x)∨(i∈bk/\cm L i=some u/\(compEnvC scope cl C env).kindOf y=some .cell):=λi u y h1 h2=>by
  rcases kD h1 with ⟨rfl,rfl⟩|⟨h3,h4⟩
  ·(replace h2:=(Z.slot)▸h2);(apply eJ h2);exact .inl ⟨rfl,rfl,rfl⟩
  ·refine a5 (zu h4) λh5 h6=>?_;exact .inr ⟨h5,h6,Z.bk i h5 y h2⟩
 refine⟨Z.kind,X.glob,X.blt,⟨m,hns,λi u y h1 h2 h3=>?_⟩,λy hy=>?_,λi u h1=>?_,λy z c h1 h2 h3 h4=>?_,X.nodup,hC,λy c h1 h2=>?_,Qt,λy c h1 h2=>?_⟩
 ·rcases key i u y h1 h2 with ⟨_,rfl,rfl⟩|⟨_,_,h4⟩
  ·exact⟨w,hm,hr⟩
  ·(replace h4:=h3▸h4);cases h4
 ·refine a5 (cellsOf y hy) λh1 h2=>?_;refine cW (X.cl y h1) λc ov hc hcell hv=>?_;refine⟨c,ov,h2.trans hc,hcell,λi u h3 h4=>?_⟩;rcases key i u y h3 h4 with ⟨_,_,rfl⟩|⟨_,h5,_⟩
  ·(replace hy:=E0▸hy);cases hy
  ·exact hv i u h5 h4
 ·rcases kD h1 with ⟨rfl,rfl⟩|⟨_,h4⟩
  ·exact⟨x,Z.slot,.inl E0⟩
  ·refine bB λXx aI=>?_;refine a5 (zu h4) λh5 h6=>?_;refine aO (X.has i u h6) λy hy _=>?_;refine aI ?_;exact⟨y,hy,.inr (Z.bk i h5 y hy)⟩
 ·refine a5 (cellsOf y h1) λa1 a2=>?_;refine a5 (cellsOf z h2) λb1 b2=>?_;exact X.apart y z c a1 b1 (a2▸h3) (b2▸h4)
 ·obtain⟨a1,a2⟩:=cellsOf y h1;exact X.jI y c a1 (a2▸h2)
 ·obtain⟨a1,a2⟩:=cellsOf y h1;exact X.iG y c a1 (a2▸h2)
end
end Qh
namespace Qh
open PySem PySem.W PyProof.Rows
def hid(h:Heap)(l:List Addr):Heap:=l.foldl Heap.hide h
theorem kN(l:List Addr){h:Heap}{b:Addr}{o:Obj}(e:(hid h l).get? b=some o):h.get? b=some o:=by
 induction l generalizing h with
|nil=>exact e
|cons a r ih=>exact Heap.of_hide (ih e)
theorem qP(l:List Addr){h:Heap}{b:Addr}{o:Obj}(e:h.get? b=some o)(n:b∉l):(hid h l).get? b=some o:=by
 induction l generalizing h with
|nil=>exact e
|cons a r ih=>exact ih ((Heap.hide_ne h (List.ne_of_not_mem_cons n)).trans e) (List.not_mem_of_not_mem_cons n)
theorem o8(l:List Addr){h:Heap}{b:Addr}(m:b∈l):(hid h l).get? b=none:=by
 induction l generalizing h with
|nil=>exact nomatch m
|cons a r ih=>
  rcases List.mem_cons.mp m with q|q
  ·clear ih m;subst q;cases e:(hid h (b::r)).get? b with
   |none=>rfl
   |some o=>exact bL ((Heap.hide_self h b).symm.trans (kN r e))
  ·exact ih q
theorem Ho{base h:Heap}{as:List Addr}{l:List Env}(H:h.FunFrames base l)(m:∀env∈l,∀a,env.frame=some a->a∈as):h.FunFrames (hid h as) l:=by
 induction l with
|nil=>exact trivial
|cons env r ih=>
  refine kP H λh1 h2 h3=>?_;exact⟨h1,h2.elim λL h2=>h2.elim λo h2=>⟨L,o,h2.1,o8 _ (m env (.head _) L h2.1),h2.2.2⟩,ih h3 λe he=>m e (.tail _ he)⟩
def hp0:Heap:={}
def places(l:List Env):List Addr:=l.filterMap (·.frame)
structure iB(l:List Env)(h base:Heap):Prop where
 sub:∀b o,base.get? b=some o->h.get? b=some o
 sup:∀b o,h.get? b=some o->b∉places l->base.get? b=some o
structure gy(base:Heap)(l:List Env)(e:Addr)(C:Addr)(fl:Value)(h:Heap):Prop where
 stays:base.StaysIn h
 new:base.get? e=none
 frames:h.FunFrames base l
 MB:∃a0,h.TracedAtW base e (.ref C) a0 fl
inductive m7(C:Addr)(l:List Env)(h h':Heap)(e:Addr):Prop
|made {args:List Value}:Heap.MadeExcOf h h' e (.ref C) args->m7 C l h h' e
|on {base:Heap}{fl:Value}:iB l h base->gy base l e C fl h'->h.UpToSlots h'->m7 C l h h' e
structure Fs(A:Around)(fe:Env)(outer:List Env)(Lf:Addr)(env:Env)(ρ:List Addr)(h:Heap):Prop where
 fr:A.frames=some (fe::outer)
 fl:fe.frame=some Lf
 oG:env.frame=some Lf
 alive:h.FunFrames hp0 (fe::outer)
 own:∀b∈places (fe::outer),b∉ρ
def Sep(outer:List Env)(env:Env):Prop:=∀b∈places outer,b≠env.locals/\∀x,env.kindOf x=some .cell->env.cells.lookup x≠some b
section
variable{G:Gd}{A:Around}{fe env:Env}{outer:List Env}{Lf:Addr}{ρ az:List Addr}{h h':Heap}{N:List Str}{L:aR}{σ ag:H}
theorem sh{l:List Env}(hl:h.FunFrames hp0 l)(k:∀b∈places l,∀o,h.get? b=some o->(∀vs,o.data≠.fields vs)->∃o',h'.get? b=some o'/\∀vs,o'.data≠.fields vs):h'.FunFrames hp0 l:=by
 induction l with
|nil=>trivial
|cons e r ih=>
  refine bB λXx aI=>?_;obtain⟨h1,⟨b,o,h2,h3,h4,h5⟩,h6⟩:=hl;refine aO (k b (List.mem_filterMap.mpr ⟨e,.head _,h2⟩) o h4 h5) λo' h7 h8=>?_;refine aI ?_
  exact⟨h1,⟨b,o',h2,h3,h7,h8⟩,ih h6 λb hb=>k b (by
   refine aO (List.mem_filterMap.mp hb) λx hx hf=>?_
   exact List.mem_filterMap.mpr ⟨x,.tail _ hx,hf⟩)⟩
theorem mi{l:List Env}(hl:h.FunFrames hp0 l){b:Addr}(hb:b∈places l):∃o,h.get? b=some o/\∀vs,o.data≠.fields vs:=(Heap.FunFrames.mem hl hb).2
theorem Fs.step(F:Fs A fe outer Lf env ρ h)(st:Step ρ h az h'):Fs A fe outer Lf env az h':=by
 refine⟨F.fr,F.fl,F.oG,sh F.alive λb hb o e hn=>⟨o,st.keep b o e (F.own b hb),hn⟩,λb hb q=>?_⟩;rcases st.fresh b q with q|q
 ·exact F.own b hb q
 ·refine aO (mi F.alive hb) λo e _=>?_;(replace q:=e▸q);exact d9 q
theorem tj{a:Addr}{m:Str->Option Value}(hn:h.Ns a m):∃o,h.get? a=some o/\∀vs,o.data≠.fields vs:=by refine fJ (hn) λo es ep ho hd _=>?_;exact⟨o,ho,λvs q=>by(replace q:=hd▸q);cases q⟩
theorem Fs.iZ(sep:Sep outer env)(F:Fs A env outer env.locals env ρ h)(st:dA env ρ h az h')(X:bt G N env az h' L):Fs A env outer env.locals env az h':=by
 refine⟨F.fr,F.fl,F.oG,?_,λb hb q=>?_⟩
 ·refine sh F.alive λb hb o e hn=>?_
  by_cases q:b=env.locals
  ·refine aO (X.ns) λm hm _=>?_
   (refine q▸?_);exact tj hm
  ·have hb':b∈places outer:=by
    refine aO (List.mem_filterMap.mp hb) λx hx hf=>?_;rcases List.mem_cons.mp hx with rfl|hx
    ·(replace hf:=(F.fl)▸hf);exact absurd (Option.some.inj hf).symm q
    ·exact List.mem_filterMap.mpr ⟨x,hx,hf⟩
   exact⟨o,st.keep b o e (F.own b hb) q (sep b hb').2,hn⟩
 ·rcases st.fresh b q with q|q
  ·exact F.own b hb q
  ·refine aO (mi F.alive hb) λo e _=>?_;(replace q:=e▸q);exact d9 q
theorem KA{l:List Env}(hl:h.FunFrames hp0 l):iB l h (hid h (places l))/\h.FunFrames (hid h (places l)) l:=
 ⟨⟨λb o e=>kN _ e,λb o e hn=>qP _ e hn⟩,Ho hl λenv he a ha=>List.mem_filterMap.mpr ⟨env,he,ha⟩⟩
theorem zO{l:List Env}{base:Heap}(B:iB l h base){e:Addr}(hn:h.get? e=none):base.get? e=none:=by
 cases q:base.get? e with
|none=>rfl
|some o=>(replace hn:=(B.sub e o q)▸hn);exact d9 hn
end
section
variable{M:Model}{A:Around}{E:bG}{s:Shared}{C Lf e:Addr}{fe env:Env}{outer:List Env}{ρ:List Addr}{h:Heap}
theorem flight{base:Heap}{l:List Env}{fl:Value}{fr:Option Addr}{Q:Unit->Shared->Prop}(hd:gy base l e C fl s.heap)(k:∀h',gy base l e C (fr.elim Value.none λf=>rawInt f) h'->s.heap.UpToSlots h'->Q () {s with heap:=h'}):wpAny M A (setFlight (.ref e) fr) Q E s:=by
 obtain⟨f1,f2,f3,a0,oe,vs,T,oT,ts,he,hcls,hdt,h1,oH,oJ,hT,jh,h3⟩:=hd;have DY:3<ts.size:=(Array.getElem?_eq_some_iff.mp h3).1;have other:∀b,b≠T->(s.heap.update T (Obj.mapFields (·.setIfInBounds 3 (fr.elim Value.none λf=>rawInt f)))).get? b=s.heap.get? b:=λb hb=>Heap.get?_update_other _ _ (Ne.symm hb);have qG:∀b o,s.heap.get? b=some o->(∀vs,o.data≠.fields vs)->b≠T:=λb o hb hnf q=>by
  (replace hb:=hT▸(q▸hb));injection hb with hb;(clear hT;subst hb);exact hnf ts jh
 unfold setFlight;refine wpAny_bind (wpAny_field he hdt h1 ?_);rw[if_pos (show(Value.ref T != Value.none)=true from by rfl)];refine wpAny_setField hT jh DY (k _ ⟨λb o lO=>(other b λq=>by(replace lO:=oH▸(q▸lO));exact bL lO).trans (f1 b o lO),f2,f3.of_keeps λb o hb hnf=>⟨o,(other b (qG b o hb hnf)).trans hb,rfl⟩,a0,?_⟩ λb o hb hnf=>⟨o.slots,(other b (qG b o hb hnf)).trans hb⟩);exact⟨oe,vs,T,_,_,(other e (Ne.symm oJ)).trans he,hcls,hdt,h1,oH,oJ,Heap.get?_update_self _ hT (Obj.isFreed_of_fields (Obj.data_mapFields jh _)),Obj.data_mapFields jh _,by simp[DY]⟩
theorem Hp{v:Value}(hf:env.frame=fe.frame):noteFrame v env=noteFrame v fe:=by unfold noteFrame PySem.frameOf;refine hf▸?_;with_reducible rfl
theorem HV{base:Heap}{fl:Value}{Q:Unit->Shared->Prop}(F:Fs A fe outer Lf env ρ h)(hd:gy base (fe::outer) e C fl s.heap)(k:∀h',gy base (fe::outer) e C (rawInt Lf) h'->s.heap.UpToSlots h'->Q () {s with heap:=h'}):wpAny M A (noteFrame (.ref e) fe) Q E s:=by
 have hd':=hd;obtain⟨f1,f2,f3,a0,oe,vs,T,oT,ts,he,⟨hc,h0⟩,hdt,h1,oH,oJ,hT,jh,h3⟩:=hd';unfold noteFrame;simp only[F.fl];refine wpAny_bind (wpAny_field he hdt h1 ?_);rw[if_pos (show(Value.ref T != Value.none)=true from by rfl)];refine wpAny_bind (wpAny_field hT jh h3 ?_)
 by_cases hq:(fl==rawInt Lf)=true
 ·refine(if_pos hq)▸?_;obtain rfl:fl=rawInt Lf:=eq_of_beq hq;exact wpAny_pure (k s.heap hd (Heap.UpToSlots.refl _))
 ·refine(if_neg hq)▸?_;refine wpAny_bind (wpAny_setField hT jh ((Array.getElem?_eq_some_iff.mp h3).1) ?_);have other:∀b,b≠T->(s.heap.update T (Obj.mapFields (·.setIfInBounds 3 Value.none))).get? b=s.heap.get? b:=λb hb=>Heap.get?_update_other _ _ (Ne.symm hb);have qG:∀b o,s.heap.get? b=some o->(∀vs,o.data≠.fields vs)->b≠T:=λb o hb hnf q=>by
   (replace hb:=hT▸(q▸hb));injection hb with hb;(clear hT;subst hb);exact hnf ts jh
  refine wpAny_entryW F.fr (f3.of_keeps λb o hb hnf=>⟨o,(other b (qG b o hb hnf)).trans hb,rfl⟩) F.fl ((other e (Ne.symm oJ)).trans he)
   (λb o lO=>(other b λq=>by(replace lO:=oH▸(q▸lO));exact bL lO).trans (f1 b o lO)) f2 hdt (Array.getElem?_eq_some_iff.mp h1).1 h0 λh' hN=>?_
  refine iY (hN) λx1 x2 x3 x4=>?_;replace x3:=hc▸x3;exact k h' ⟨x1,f2,x2,a0,x3⟩ λb o hb hnf=>x4 b o ((other b (qG b o hb hnf)).trans hb) hnf
theorem sP{Q:Unit->Shared->Prop}(F:Fs A fe outer Lf env ρ h)(x:m7 C (fe::outer) h s.heap e)(k:∀h' base,iB (fe::outer) h base->gy base (fe::outer) e C (rawInt Lf) h'->h.UpToSlots h'->Q () {s with heap:=h'}):wpAny M A (noteFrame (.ref e) env) Q E s:=by
 refine(Hp (fe:=fe) (F.oG.trans F.fl.symm))▸?_;cases x with
|made hx=>
  obtain⟨B,ff⟩:=KA F.alive;refine b8 (hx.there) λt he RR ht=>?_;unfold noteFrame;simp only[F.fl];refine wpAny_bind (wpAny_field he rfl (i:=1) (x:=.none) rfl ?_);rw[if_neg (by decide)];refine wpAny_entryW F.fr (ff.of_keeps λb o hb _=>⟨o,hx.keeps b o hb,rfl⟩) F.fl he (λb o q=>hx.keeps b o (B.sub b o q)) (zO B hx.new) rfl (nb rfl) rfl λh' hN=>?_;refine iY (hN) λk1 k2 k3 k4=>?_;exact k h' _ B ⟨k1,zO B hx.new,k2,_,k3⟩ ((Heap.UpToSlots.of_keeps hx.keeps).trans k4)
|on B hd u=>exact HV F hd λh' x1 x2=>k h' _ B x1 (u.trans x2)
theorem HW{Q:Unit->Shared->Prop}(F:Fs A fe outer Lf fe ρ h)(x:m7 C (fe::outer) h s.heap e)(k:∀h' base,iB (fe::outer) h base->gy base (fe::outer) e C .none h'->h.UpToSlots h'->Q () {s with heap:=h'}):wpAny M A (leaving fe (.ref e)) Q E s:=by unfold leaving;exact wpAny_bind (sP F x λh' base B hd u=>flight hd λh'' hd' u'=>k h'' base B hd' (u.trans u'))
theorem I5{base:Heap}{fl:Value}(B:iB (fe::outer) h base)(hd:gy base (fe::outer) e C fl s.heap)(u:h.UpToSlots s.heap)(k:∀h',m7 C (fe::outer) h h' e->E (.ref e) {s with heap:=h'}):cameBackBy M A env E (.ref e) s:=by have hd':=hd;obtain⟨_,_,_,a0,oe,vs,T,oT,ts,he,hcls,hdt,h1,_⟩:=hd';unfold cameBackBy;refine wpAny_bind (wpAny_field he hdt h1 ?_);rw[if_neg (show ¬ (Value.ref T==Value.none)=true from by simp)];exact flight hd λh' x1 x2=>k h' (.on B x1 (u.trans x2))
theorem I6{α:Type}{what:String}{Q:α->Shared->Prop}{base:Heap}{fl:Value}(B:iB (fe::outer) h base)(hd:gy base (fe::outer) e C fl s.heap)(u:h.UpToSlots s.heap)(k:∀h',m7 C (fe::outer) h h' e->E (.ref e) {s with heap:=h'}):wpAny M A (PySem.passOn what (.ref e) env:Sem α) Q E s:=by have hd':=hd;obtain⟨_,_,_,a0,oe,vs,T,oT,ts,he,hcls,hdt,h1,_⟩:=hd';unfold PySem.passOn;refine wpAny_bind (wpAny_field he hdt h1 ?_);rw[if_neg (show ¬ (Value.ref T==Value.none)=true from by simp)];exact wpAny_bind (flight hd λh' x1 x2=>wpAny_throw (k h' (.on B x1 (u.trans x2))))
end
end Qh
namespace Qh
open PySem PySem.W PyProof.Rows
def Gd.tg(G:Gd):Nat:=G.P.eT 0
def Gd.xf(G:Gd)(f:Nat):Prop:=G.P.eT (f+1)=1∨G.P.eT (f+1)=4
def PX(G:Gd)(fe:Env)(outer:List Env)(Lf:Addr)(ρ:List Addr)(s:Shared)(ag:H)(E:bG):Prop:=
 ∀e aC h' tk az,Step ρ s.heap az aC->aH G az ag aC->m7 (G.cA 1) (fe::outer) aC h' e->E (.ref e) {s with heap:=h',toks:=tk}
theorem PX.step{G:Gd}{fe:Env}{outer:List Env}{Lf:Addr}{ρ aK:List Addr}{s:Shared}{ag:H}{E:bG}{aC:Heap}{tk:Nat}(p:PX G fe outer Lf ρ s ag E)(st:Step ρ s.heap aK aC):PX G fe outer Lf aK {s with heap:=aC,toks:=tk} ag E:=
 λe bp h' fj az st' S x=>p e bp h' fj az (st.trans st') S x
section
variable(G:Gd)(n:Nat)(A:Around)(N:List Str)(env:Env)
def eu(x:E)(e:av):Prop:=∀(s:Shared)(ρ:List Addr)(σ:H)(L:aR)(ag:H)(fe:Env)(outer:List Env)(Lf:Addr)(Q:bG)(E:bG),bt G N env ρ s.heap L->aH G ρ σ s.heap->Fs A fe outer Lf env ρ s.heap->
 ao (G.ctx n) x L σ=.aF G.tg ag->PX G fe outer Lf ρ s ag E->wpAny G.mo A (eval e env) Q E s
def uw(x:E)(e:av):Prop:=∀(s:Shared)(ρ:List Addr)(σ:H)(L:aR)(ag:H)(fe:Env)(outer:List Env)(Lf:Addr)(Q:Bool->Shared->Prop)(E:bG),bt G N env ρ s.heap L->aH G ρ σ s.heap->Fs A fe outer Lf env ρ s.heap->
 bR (G.ctx n) x L σ=.aF G.tg ag->PX G fe outer Lf ρ s ag E->wpAny G.mo A (isTrue e env (eval e env)) Q E s
def kS(es:EL)(l:List av):Prop:=∀(pos:Pos)(s:Shared)(ρ:List Addr)(σ:H)(L:aR)(ag:H)(fe:Env)(outer:List Env)(Lf:Addr)(Q:List Value->Shared->Prop)(E:bG),bt G N env ρ s.heap L->aH G ρ σ s.heap->Fs A fe outer Lf env ρ s.heap->
 dc (G.ctx n) es L σ=.aF G.tg ag->PX G fe outer Lf ρ s ag E->wpAny G.mo A (spliced (backTo pos (starEach l env))) Q E s
def n7:Prop:=∀(A:Around),Ao A n->∀(fe:Env)(outer:List Env)(Lf:Addr)(env:Env)(f:Nat),G.xf f->∀(vs:List V)(vals:List Value)(s:Shared)(ρ:List Addr)(σ:H)(ag:H)(Q:bG)(E:bG),aH G ρ σ s.heap->bK G ρ s.heap vals vs->
 Fs A fe outer Lf env ρ s.heap->aq G.P G.script n f vs σ=.aF G.tg ag->PX G fe outer Lf ρ s ag E->wpAny G.mo A (call (.ref (G.fA f)) vals) Q E s
end
theorem jn{α β:Type}{m:M α}{f:α->M β}{σ ag:H}{c:Nat}(h:M.bind m f σ=.aF c ag):m σ=.aF c ag∨∃a ax,m σ=.ok a ax/\f a ax=.aF c ag:=by
 unfold M.bind at h;cases e:m σ with
|ok a ax=>(replace h:=e▸h);exact .inr ⟨a,ax,rfl,h⟩
|aF c1 ax=>(replace h:=e▸h);(apply Qs h);exact .inl rfl
|bad=>(replace h:=e▸h);exact kz h
def bD{α:Type}(t:Nat)(m:M α):Prop:=∀σ ag,m σ≠.aF t ag
section
variable{t:Nat}
theorem bD.bind{α β:Type}{m:M α}{f:α->M β}(h:bD t m)(h2:∀a,bD t (f a)):bD t (M.bind m f):=λσ ag e=>by
 rcases jn e with q|⟨a,ax,_,q⟩
 ·exact h _ _ q
 ·exact h2 a _ _ q
theorem bD.pure{α:Type}{a:α}:bD t (M.pure a):=λ_ _ e=>by exact p7 e
theorem bD.fail{α:Type}:bD t (M.fail:M α):=λ_ _ e=>by exact kz e
theorem bD.ite{α:Type}{c:Prop}[Decidable c]{m m':M α}(h:bD t m)(h2:bD t m'):bD t (if c then m else m'):=by split<;>assumption
theorem bD.cY{o:O}:bD t (cY o):=λ_ _ e=>by exact p7 e
theorem bD.cP{i:Nat}:bD t (cP i):=λσ _ e=>by unfold Qh.cP at e;split at e<;>(first|exact p7 e|exact kz e|cases e)
theorem bD.cX{α:Type}{o:Option α}:bD t (Qh.cX o):=by cases o<;>first|exact .pure|exact .fail
theorem bD.bH{v:V}:bD t (bH v):=by cases v<;>first|exact .fail|exact .bind .cP λo=>(by cases o<;>first|exact .pure|exact .fail)
theorem bD.du{v:V}:bD t (du v):=by cases v<;>first|exact .pure|exact .fail
end
section
variable{G:Gd}{n:Nat}{A:Around}{N:List Str}{env:Env}
theorem MC{x:E}{e:av}(h:∀L,bD G.tg (ao (G.ctx n) x L)):eu G n A N env x e:=λs ρ σ L ag fe outer Lf Q E X S F ev p=>absurd ev (h L _ _)
theorem KB{x:EL}{l:List av}(h:∀L,bD G.tg (dc (G.ctx n) x L)):kS G n A N env x l:=λpos s ρ σ L ag fe outer Lf Q E X S F ev p=>absurd ev (h L _ _)
theorem MD{x:E}{e:av}(h:∀L,bD G.tg (bR (G.ctx n) x L)):uw G n A N env x e:=λs ρ σ L ag fe outer Lf Q E X S F ev p=>absurd ev (h L _ _)
theorem mP{x:E}{e:av}(hE:ba G n A N env x e)(hX:eu G n A N env x e){s:Shared}{ρ:List Addr}{σ:H}{L:aR}{ag:H}{fe:Env}{outer:List Env}{Lf:Addr}{β:Type}{f:V->M β}{Q':bG}{E:bG}(X:bt G N env ρ s.heap L)(S:aH G ρ σ s.heap)(F:Fs A fe outer Lf env ρ s.heap)(ev:M.bind (ao (G.ctx n) x L) f σ=.aF G.tg ag)(p:PX G fe outer Lf ρ s ag E)(k:∀v aC tk aK ax u,bt G N env aK aC L->aH G aK ax aC->Step ρ s.heap aK aC->Fs A fe outer Lf env aK aC->Rel G aK aC v u->f u ax=.aF G.tg ag->PX G fe outer Lf aK {s with heap:=aC,toks:=tk} ag E->Q' v {s with heap:=aC,toks:=tk}):
  wpAny G.mo A (eval e env) Q' E s:=by
 rcases jn ev with q|⟨u,ax,e1,e2⟩
 ·exact hX s ρ σ L ag fe outer Lf Q' E X S F q p
 ·refine hE s ρ σ L Q' E X S ?_;refine e1▸?_;exact λv aC tk aK st aG r=>k v aC tk aK ax u (X.step S st) aG st (F.step st) r e2 (p.step st)
theorem qY{x:EL}{l:List av}(hE:f7 G n A N env x l)(hX:kS G n A N env x l){pos:Pos}{s:Shared}{ρ:List Addr}{σ:H}{L:aR}{ag:H}{fe:Env}{outer:List Env}{Lf:Addr}{β:Type}{f:List V->M β}{Q':List Value->Shared->Prop}{E:bG}(X:bt G N env ρ s.heap L)(S:aH G ρ σ s.heap)(F:Fs A fe outer Lf env ρ s.heap)(ev:M.bind (dc (G.ctx n) x L) f σ=.aF G.tg ag)(p:PX G fe outer Lf ρ s ag E)(k:∀v aC tk aK ax u,bt G N env aK aC L->aH G aK ax aC->Step ρ s.heap aK aC->Fs A fe outer Lf env aK aC->bK G aK aC v u->f u ax=.aF G.tg ag->PX G fe outer Lf aK {s with heap:=aC,toks:=tk} ag E->Q' v {s with heap:=aC,toks:=tk}):
  wpAny G.mo A (spliced (backTo pos (starEach l env))) Q' E s:=by
 rcases jn ev with q|⟨u,ax,e1,e2⟩
 ·exact hX pos s ρ σ L ag fe outer Lf Q' E X S F q p
 ·refine hE pos s ρ σ L Q' E X S ?_;refine e1▸?_;exact λv aC tk aK st aG r=>k v aC tk aK ax u (X.step S st) aG st (F.step st) r e2 (p.step st)
theorem no{α:Type}{m:M α}{σ ag:H}{t:Nat}{P:Prop}(h:bD t m)(e:m σ=.aF t ag):P:=absurd e (h _ _)
theorem KC{es:EL}{l:List av}{k:Nat}{p:Pos}(hE:f7 G n A N env es l)(hX:kS G n A N env es l):eu G n A N env (.aB es) (.Tuple l k p):=λs ρ σ L ag fe outer Lf Q E X S F ev px=>
 Tuple_ (qY hE hX X S F ev px λv aC tk aK ax u br aG st eZ r e2 gA=>no (.ite .pure .fail) e2)
theorem KD{es:EL}{l:List av}{p:Pos}(hE:f7 G n A N env es l)(hX:kS G n A N env es l):eu G n A N env (.ah es) (.List l p):=λs ρ σ L ag fe outer Lf Q E X S F ev px=>
 List_ (qY hE hX X S F ev px λv aC tk aK ax u br aG st eZ r e2 gA=>no (.ite .cY .fail) e2)
theorem I7{x:E}{e:av}{es:EL}{l:List av}(hE:ba G n A N env x e)(hX:eu G n A N env x e)(H':f7 G n A N env es l)(HX:kS G n A N env es l)(hs:starEach (e::l) env=(false,eval e env)::starEach l env):kS G n A N env (.cons x es) (e::l):=λpos s ρ σ L ag fe outer Lf Q E X S F ev px=>
 args_cons (mP hE hX X S F ev px λv aC tk aK ax u br aG st eZ r e2 gA=>qY H' HX br aG eZ e2 gA λvs bp cC dQ bM us dB b6 cF kr rs e3 ux=>no .pure e3) hs
theorem bD.binop{t:Nat}{op:Operator}{a b:V}:bD t (binop op a b):=by
 have ar:∀{f:Int->Int->M V},(∀x y,bD t (f x y))->bD t (arith f a b):=λhf=>by
  cases a<;>first|exact .fail|(cases b<;>first|exact .fail|exact hf _ _)
 cases op with
|Add=>
  show bD t (xO a b);(clear ar;cases a)<;>first|exact .fail|(cases b<;>first|exact .fail|exact .pure|exact .ite .pure .fail|exact .bind .bH λ_=>.bind .bH λ_=>.ite .cY .fail)
|Sub=>exact ar λ_ _=>.pure
|Mult=>exact ar λ_ _=>.ite .pure .fail
|Mod=>exact ar λ_ _=>.ite .fail .pure
|FloorDiv=>exact ar λ_ _=>.ite .fail .pure
|Pow=>exact ar λ_ _=>.ite .pure .fail
|_=>exact .fail
theorem KF{op:Operator}{a b:E}{l r:av}{p:Pos}(hE:ba G n A N env a l)(hX:eu G n A N env a l)(H':ba G n A N env b r)(HX:eu G n A N env b r):eu G n A N env (.aj op a b) (.BinOp l op r p):=λs ρ σ L ag fe outer Lf Q E X S F ev px=>
 wpAny_BinOp (mP hE hX X S F ev px λv aC tk aK ax u br aG st eZ r e2 gA=>mP H' HX br aG eZ e2 gA λv' bp cC dQ bM u' dB b6 cF kr r' e3 ux=>no .binop e3)
end
end Qh
namespace Qh
open PySem PySem.W PyProof.Rows
section
variable{G:Gd}{n:Nat}{A:Around}{N:List Str}{env:Env}
def TurnOk(G:Gd)(A:Around)(N:List Str)(cenv:Env)(L:aR)(ifs:List av)(elt:av)(m:M (Option V)):Prop:=
 ∀(s:Shared)(ρ:List Addr)(σ ax:H)(y:Option V)(Qe:bG)(Qn:Shared->Prop)(E:bG),bt G N cenv ρ s.heap L->aH G ρ σ s.heap->m σ=.ok y ax->
  (∀h' tk az,Step ρ s.heap az h'->aH G az ax h'->match y with|some u=>∀w,Rel G az h' w u->Qe w {s with heap:=h',toks:=tk}|none=>Qn {s with heap:=h',toks:=tk})->
  wpAny G.mo A (forIn ifs true λc r=>if r=true then do let ok ←isTrue c cenv (eval c cenv);pure (ForInStep.yield ok) else pure (ForInStep.yield r))
   (λok gV=>if ok=true then wpAny G.mo A (eval elt cenv) Qe E gV else Qn gV) E s
theorem qq(hE:ba G n A N env elt e):TurnOk G A N env L [] e (M.bind (ao (G.ctx n) elt L) λy=>M.pure (some y)):=λs ρ σ ax y Qe Qn E X S e1 h=>by
 refine wpAny_tests_nil ?_;simp only[if_true];refine bB λXx aI=>?_;refine bo (en e1) λu bM e2 e3=>?_;refine fg e3 λaP cL=>?_;(clear e1;subst aP);subst cL;refine aI ?_;refine hE s ρ σ L Qe E X S ?_;refine e2▸?_;exact λw h' tk az st S' r=>h h' tk az st S' w r
theorem Ap(hE:ba G n A N env elt e)(hT:gZ G n A N env t te):
  TurnOk G A N env L [te] e (M.bind (bR (G.ctx n) t L) λb=>if b then M.bind (ao (G.ctx n) elt L) λy=>M.pure (some y) else M.pure none):=λs ρ σ ax y Qe Qn E X S e1 h=>by
 refine bo (en e1) λb bM e2 e3=>?_;refine wpAny_tests_one (hT s ρ σ L _ E X S ?_);refine e2▸?_;rintro b' h' tk az st S' rfl;clear e2;cases b' with
|false=>
  refine bB λXx aI=>?_;refine fg e3 λaP cL=>?_;(clear e1;subst aP);subst cL;refine aI ?_;simp only[Bool.false_eq_true,if_false];exact h h' tk az st S'
|true=>
  simp only[if_true] at e3 ⊢;refine bo (en e3) λu et e4 e5=>?_;refine fg e5 λaP cL=>?_;(clear e5 e3;subst aP);subst cL;refine hE _ az bM L Qe E (X.step S st) S' ?_;refine e4▸?_;exact λw h'' fj rC st' yA r=>h h'' fj rC (st.trans st') yA w r
def xk(G:Gd)(A:Around)(N:List Str)(cenv:Env)(L:aR)(ifs:List av)(elt:av)(m:M (Option V)):Prop:=
 ∀(s:Shared)(ρ:List Addr)(σ ag:H)(fe:Env)(outer:List Env)(Lf:Addr)(Qe:bG)(Qn:Shared->Prop)(E:bG),bt G N cenv ρ s.heap L->aH G ρ σ s.heap->Fs A fe outer Lf cenv ρ s.heap->m σ=.aF G.tg ag->PX G fe outer Lf ρ s ag E->
  wpAny G.mo A (forIn ifs true λc r=>if r=true then do let ok ←isTrue c cenv (eval c cenv);pure (ForInStep.yield ok) else pure (ForInStep.yield r))
   (λok gV=>if ok=true then wpAny G.mo A (eval elt cenv) Qe E gV else Qn gV) E s
theorem GZ(hX:eu G n A N env elt e):xk G A N env L [] e (M.bind (ao (G.ctx n) elt L) λy=>M.pure (some y)):=λs ρ σ ag fe outer Lf Qe Qn E X S F e1 p=>by
 refine wpAny_tests_nil ?_;simp only[if_true];rcases jn e1 with q|⟨_,_,_,q⟩
 ·exact hX s ρ σ L ag fe outer Lf Qe E X S F q p
 ·exact no .pure q
theorem C1(hk:env.scope.kind=.function):(env.scope.kind==.class||(env.scope.kind==.module&&env.locals != env.globals))=false:=by(refine hk▸?_);rfl
theorem G0(q:h.PlainList D xs):∀a ys,IsTup h a ys->a≠D:=by
 rintro a ys ⟨o,e,c,_⟩ rfl;refine bZ (q) λk e'=>?_;(replace e':=e▸e');(refine dE e' λaP=>?_;(clear e;subst aP))
 injection c with c
 exact absurd c (by decide)
theorem nB(q:h.Ns C m):∀a ys,IsTup h a ys->a≠C:=by rintro a ys ⟨o,e,c,n,d⟩ rfl;refine fJ (q) λo' es ep e' d' _=>?_;(replace e':=e▸e');(refine dE e' λaP=>?_;(clear e';subst aP));(replace d':=d▸d');cases d'
theorem E1(h:k+(m+1)<=B):k+1+m<=B:=lN 0x38134184c04904920538106134c [_,_,_] rfl h
theorem Qu(h1:n<=k)(h2:k+(m+1)<=B)(h3:B<=aM+1):n<=sizeLine:=by
 have:aM=1000000:=rfl;have:sizeLine=2^24:=rfl
 lia
theorem Qv(h:xs.length<=k):(xs++[w]).length<=k+1:=by(refine(List.length_append)▸?_);exact Nat.succ_le_succ h
theorem zP(e:dK sr k σ=.ok r ax):ax=σ:=by
 cases sr with
|fix vs=>(apply fh e);rfl
|live i=>
  refine bo (en e) λvs ag e4 e5=>?_;refine b8 (eA e4) λ_ _ a9 _=>?_;clear e4;(clear e;subst a9);(apply fh e5);rfl
def tZ(t:Nat)(f:V->M (Option V))(T':H->List V->Prop)(End:H->List V->Prop)(iP:H->Prop)(σ:H)(us:List V):Option V->Prop
|none=>End σ us
|some v=>(∃y bM,f v σ=.ok y bM/\T' bM (us++y.toList))∨∃ag,f v σ=.aF t ag/\iP ag
def uM(sr:Src)(f:V->M (Option V))(all:List V)(cV:H)(m k:Nat)(σ:H)(us:List V):Prop:=∃rest,di sr f m k σ=.ok rest cV/\us++rest=all
theorem uM.next(c:uM sr f all cV m k σ us):∃m' r,m=m'+1/\dK sr k σ=.ok r σ/\tZ t f (uM sr f all cV m' (k+1)) (λσ us=>us=all/\σ=cV) (λ_=>False) σ us r:=by
 refine aO (c) λrest ec DZ=>?_;clear c;cases m with
|zero=>exact cR ec
|succ m=>
  refine bo (en ec) λr ax e1 e2=>?_;obtain rfl:=zP e1;refine⟨m,r,rfl,e1,?_⟩;clear e1;cases r with
  |none=>(refine fg e2 λaP cL=>?_;(clear e2 ec;subst aP);subst cL);exact⟨by rw[←DZ,List.append_nil],rfl⟩
  |some v=>
   refine bB λXx aI=>?_;refine bo (en e2) λy bM e3 e4=>?_;refine bo (en e4) λrest' et e5 e6=>?_;refine aI ?_;refine fg e6 λaP cL=>?_;(clear e6 e4 e2;subst aP);subst cL;exact .inl ⟨y,bM,e3,rest',e5,by rw[←DZ,List.append_assoc]⟩
def uy(t:Nat)(sr:Src)(f:V->M (Option V))(cV:H)(m k:Nat)(σ:H)(_:List V):Prop:=di sr f m k σ=.aF t cV
theorem uy.next(c:uy t sr f cV m k σ us):∃m' r,m=m'+1/\dK sr k σ=.ok r σ/\tZ t f (uy t sr f cV m' (k+1)) (λ_ _=>False) (λσ=>σ=cV) σ us r:=by
 cases m with
|zero=>exact kz c
|succ m=>
  rcases jn c with q|⟨r,ax,e1,e2⟩
  ·exact no (by clear q c;cases sr with
    |fix vs=>exact .pure
    |live i=>exact .bind .bH λ_=>.pure) q
  ·obtain rfl:=zP e1;refine⟨m,r,rfl,e1,?_⟩;clear e1;cases r with
   |none=>exact no .pure e2
   |some v=>
    rcases jn e2 with q|⟨y,bM,e3,e4⟩
    ·exact .inr ⟨cV,q,rfl⟩
    ·rcases jn e4 with q|⟨_,_,_,q⟩
     ·exact .inl ⟨y,bM,e3,q⟩
     ·exact no .pure q
def rD(G:Gd)(I D C:Addr)(sr:Src)(T:Nat->Nat->H->List V->Prop)(cN:Shared)(dy:List Addr)(B:Nat)(m:Nat)(s:Shared):Prop:=
 ∃h' tk az ag k xs us mC,s={cN with heap:=h',toks:=tk}/\Step dy cN.heap az h'/\aH G az ag h'/\dX G az h' I sr k/\h'.PlainList D xs.toArray/\bK G az h' xs us/\D∉az/\C∉az/\h'.Ns C mC/\
   T m k ag us/\xs.length<=k/\k+m<=B
theorem rD.elim{I D C:Addr}{sr:Src}{T:Nat->Nat->H->List V->Prop}{CN:Nat->Nat->H->List V->Option V->Prop}{cN s:Shared}{dy:List Addr}{B m:Nat}{X:Nat->Shared->Prop}(h:rD G I D C sr T cN dy B m s)(hT:∀m k σ us,T m k σ us->∃m' r,m=m'+1/\dK sr k σ=.ok r σ/\CN m' k σ us r)(j:∀h' tk az ag k xs us mC m r,Step dy cN.heap az h'->aH G az ag h'->dX G az h' I sr k->h'.PlainList D xs.toArray->bK G az h' xs us->D∉az->C∉az->h'.Ns C mC->dK sr k ag=.ok r ag->CN m k ag us r->xs.length<=k->k+(m+1)<=B->X (m+1) {cN with heap:=h',toks:=tk}):X m s:=by refine bB λXx aI=>?_;obtain⟨h',tk,az,ag,k,xs,us,mC,rfl,st,S,it,hl,rl,lP,g0,hns,ec,hk,hkm⟩:=h;obtain⟨m,r,rfl,e1,e2⟩:=hT _ _ _ _ ec;refine aI ?_;exact j _ _ _ _ _ _ _ _ _ _ st S it hl rl lP g0 hns e1 e2 hk hkm
theorem HY{elt' iter:av}{x:Str}{px pos:Pos}{ifs:List av}{scope:Scope}{v:Nat}{bk:List Nat}{cl:List (Str×Addr)}{I D C:Addr}{sr:Src}{f:V->M (Option V)}{R:Result->Shared->Prop}{cN:Shared}{dy:List Addr}{Og:H}{L:aR}{B:Nat}{T:Nat->Nat->H->List V->Prop}{End:H->List V->Prop}{iP:H->Prop}{fe:Env}{outer:List Env}{Lf:Addr}(hh:A.handled=none)(kY:bt G N env dy cN.heap L)(D0:aH G dy Og cN.heap)(Z:gQ N env scope x v bk)(hcl:∀y,(y,NameKind.free)∈scope.names->cl.lookup y=env.cells.lookup y)(hI:cN.heap.get? I=none)(hD:cN.heap.get? D=none)(hC:cN.heap.get? C=none)(uN:I≠D)(hIC:I≠C)(hDC:D≠C)(hB:B<=aM+1)(hT:∀m k σ us,T m k σ us->∃m' r,m=m'+1/\dK sr k σ=.ok r σ/\tZ G.tg f (T m' (k+1)) End iP σ us r)(hturn:∀it,TurnOk G A N (compEnvC scope cl C env) (bV (cK L bk) v it) ifs elt' (f it))(hbad:∀ag,iP ag->Fs A fe outer Lf env dy cN.heap/\(∀it,xk G A N (compEnvC scope cl C env) (bV (cK L bk) v it) ifs elt' (f it))/\∀e aC h' tk az base mC,Step dy cN.heap az aC->aH G az ag aC->aC.Ns C mC->C∉az->iB (fe::outer) aC base->gy base (fe::outer) e (G.cA 1) (rawInt Lf) h'->aC.UpToSlots h'->R (.error (.ref e)) {cN with heap:=h',toks:=tk})(hR:∀h' tk az xs mC cV all,End cV all->Step dy cN.heap az h'->aH G az cV h'->h'.PlainList D xs.toArray->bK G az h' xs all->D∉az->C∉az->h'.Ns C mC->R (.ok .next) {cN with heap:=h',toks:=tk}):
  ∀(m:Nat)(s:Shared),rD G I D C sr T cN dy B m s->
   codeAny G.mo A (.compLoop (.ListComp elt' [⟨.Name x px,iter,ifs,0⟩] scope pos) 0 (.ref I) (.ref D) (compEnvC scope cl C env)) R s:=by
 have eP:∀a,cN.heap.get? a=none->G.hb.get? a=none:=λa ha=>by
  cases e:G.hb.get? a with
  |none=>rfl
  |some o=>(replace ha:=(D0.base _ _ e)▸ha);exact d9 ha
 intro m s hinv
 let J:Nat->Shared->Prop:=λm s=>rD G I D C sr T cN dy B m s
 let ce:=compEnvC scope cl C env
 refine(show codeAny G.mo A (.compLoop (.ListComp elt' [⟨.Name x px,iter,ifs,0⟩] scope pos) 0 (.ref I) (.ref D) ce) R s from codeAny_compLoop_tests J ?_ m hinv);clear hinv m s;intro m s hJ;apply rD.elim hJ hT;clear hJ m s hT;intro h' tk az ag k xs us mC m r st S it hl rl lP g0 hns e1 e2 hk hkm
 ·refine And.right (qO hh S it e1 λxv aC fu gp hv=>?_);refine bB λXx aI=>?_;have ow:=it.own;have aG:aH G az ag aC:=S.iA (ow.jt S) (eP I hI) ow.mF gp;have mQ:Step dy cN.heap az aC:=st.other hI gp;have C2:aC.PlainList D xs.toArray:=let ⟨q,e⟩:=hl;⟨q,gp D _ (Ne.symm uN) e⟩
  have t6:bK G az aC xs us:=rl.mono (oZ ow gp) λ_ _ e=>e;have wM:aC.Ns C mC:=hns.at λo e=>gp C o (Ne.symm hIC) e;clear e1;cases r with
  |none=>
   obtain rfl:xv=none:=hv;exact aI (hR aC fu az xs mC ag us e2 mQ aG C2 t6 lP g0 wM)
  |some xl=>
   refine b8 (hv) λw bg yB it₁=>?_;clear hv;subst bg;refine aI ?_;clear aI Xx;refine wpAny_assign_Name (wpAny_storeName_local (lookup_relabel_local Z.aa) wM (λbp rg Oh=>?_) (C1 Z.kind));refine bB λXx aI=>?_;have gR:∀b o,b≠C->aC.get? b=some o->bp.get? b=some o:=λb o hb e=>(Oh.2 b hb).trans e;have m8:=nB wM;have xm:∀a ys,IsTup aC a ys->IsTup bp a ys:=λa ys t=>by
    have:=m8 a ys t;obtain⟨o,e,c⟩:=t;exact⟨o,gR a o this e,c⟩
   have b6:aH G az ag bp:=aG.iA g0 (eP C hC) m8 gR;have cF:Step dy cN.heap az bp:=mQ.other hC gR;have dB:=(kY.step D0 cF).inner Z hcl rg (by simp) (yB.mono xm λ_ _ e=>e) g0 (eP C hC);have C3:bp.PlainList D xs.toArray:=let ⟨q,e⟩:=C2;⟨q,gR D _ hDC e⟩
   rcases e2 with ⟨y,bM,e3,e5⟩|⟨bM,e3,eb⟩
   rotate_left
   ·refine kP (hbad bM eb) λxQ hX yC=>?_;have rh:=xQ.step cF;have kr:Fs A fe outer Lf (compEnvC scope cl C env) az bp:=⟨rh.fr,rh.fl,rh.oG,rh.alive,rh.own⟩;refine aI (hX xl _ az ag bM fe outer Lf _ _ _ dB b6 kr e3 λe dq d6 jB fZ dW dI x=>?_);refine sP (kr.step dW) x λpP base Pk hd u=>?_;refine yC e dq pP jB fZ base _ (cF.trans dW) dI (rg.at λo e=>dW.keep C o e g0) (λq=>?_) Pk hd u;rcases dW.fresh C q with q|q
    ·exact g0 q
    ·refine bB λXx aI=>?_;refine fV (rg) λo _ _ e _=>?_;refine aI ?_;exact absurd (e.symm.trans q) (by simp)
   refine aI (hturn xl _ az ag bM y _ _ _ dB b6 e3 λdq fY fZ dW dI=>?_);clear aI Xx;have inD:∀{a:Addr}{o:Obj},bp.get? a=some o->a∉az->a∉fZ:=λ{a o} e hn q=>by
    rcases dW.fresh a q with q|q
    ·exact hn q
    ·exact absurd (e.symm.trans q) (by simp)
   have oo:Step dy cN.heap fZ dq:=cF.trans dW;have C4:=(it₁.mono (λo e=>gR I o hIC e) xm λ_ _ e=>e).step b6 dW;have xn:dq.PlainList D xs.toArray:=let ⟨q,e⟩:=C3;⟨q,dW.keep D _ e lP⟩
   have wN:D∉fZ:=let ⟨q,e⟩:=C3;inD e lP
   have B8:C∉fZ:=by obtain⟨o,_,_,e,_⟩:=rg;exact inD e g0
   have B9:dq.Ns C _:=rg.at λo e=>dW.keep C o e g0;have C5:=(t6.mono xm λ_ _ e=>e).step dW b6;clear e3;cases y with
   |none=>
    refine⟨m,Nat.lt_succ_self _,dq,fY,fZ,bM,k+1,xs,us,_,rfl,oo,dI,C4,xn,C5,wN,B8,B9,by simpa using e5,jN hk,E1 hkm⟩
   |some u=>
    intro wy Qw;refine wpAny_list_append_plain xn (λd6 Oi xo=>?_) (by(refine(List.size_toArray)▸?_);exact Qu hk hkm hB);have rj:∀b o,b≠D->dq.get? b=some o->d6.get? b=some o:=λb o hb e=>(xo.2 b hb).trans e;have E2:=G0 xn;have C6:∀a ys,IsTup dq a ys->IsTup d6 a ys:=λa ys t=>by
     have:=E2 a ys t;obtain⟨o,e,c⟩:=t;exact⟨o,rj a o this e,c⟩
    refine⟨m,Nat.lt_succ_self _,d6,fY,fZ,bM,k+1,xs++[wy],us++[u],_,rfl,oo.other hD rj,dI.iA wN (eP D hD) E2 rj,C4.mono (λo e=>rj I o uN e) C6 (λ_ _ e=>e),?_,(C5.append (.cons Qw .nil)).mono C6 (λ_ _ e=>e),wN,B8,
     B9.at (λo e=>rj C o (Ne.symm hDC) e),e5,Qv hk,E1 hkm⟩
    have e:xs.toArray.push wy=(xs++[wy]).toArray:=by simp
    (refine e▸?_);exact Oi
end
end Qh
namespace Qh
open PySem PySem.W PyProof.Rows
section
variable{G:Gd}{n:Nat}{A:Around}{N:List Str}{env:Env}
theorem A3{elt' iter:av}{x:Str}{px pos:Pos}{ifs:List av}{scope:Scope}{v:Nat}{bk:List Nat}{cl:List (Str×Addr)}{I:Addr}{sr:Src}{f:V->M (Option V)}{use:Option (Value->Sem Unit)}{Q:bG}{E:bG}{bw:Shared}{aK:List Addr}{ax:H}{L:aR}{B cC:Nat}{bp:Heap}{T:Nat->Nat->H->List V->Prop}{End:H->List V->Prop}{iP:H->Prop}{fe:Env}{outer:List Env}{Lf:Addr}(hh:A.handled=none)(br:bt G N env aK bw.heap L)(aG:aH G aK ax bw.heap)(Z:gQ N env scope x v bk)(hcl:∀y,(y,NameKind.free)∈scope.names->cl.lookup y=env.cells.lookup y)(hI:bw.heap.objs.size<=I)(hk:∀b o,bw.heap.get? b=some o->bp.get? b=some o)(it:dX G aK bp I sr 0)(hB:B<=aM+1)(hT:∀m k σ us,T m k σ us->∃m' r,m=m'+1/\dK sr k σ=.ok r σ/\tZ G.tg f (T m' (k+1)) End iP σ us r)(ec:T B 0 ax [])(hturn:∀C it,TurnOk G A N (compEnvC scope cl C env) (bV (cK L bk) v it) ifs elt' (f it))(hbad:∀C ag,bw.heap.get? C=none->iP ag->Fs A fe outer Lf env aK bw.heap/\(∀it,xk G A N (compEnvC scope cl C env) (bV (cK L bk) v it) ifs elt' (f it))/\∀D e aC h' tk az base mC,Step aK bw.heap az aC->aH G az ag aC->aC.Ns C mC->C∉az->iB (fe::outer) aC base->gy base (fe::outer) e (G.cA 1) (rawInt Lf) h'->aC.UpToSlots h'->compPost G.mo A E use Q (.ref D) C (.error (.ref e)) {bw with heap:=h',toks:=tk})(hend:∀D C h' tk az xs mC cV all,End cV all->bw.heap.get? D=none->bw.heap.get? C=none->D≠C->Step aK bw.heap az h'->aH G az cV h'->h'.PlainList D xs.toArray->bK G az h' xs all->D∉az->C∉az->h'.Ns C mC->
   compPost G.mo A E use Q (.ref D) C (.ok .next) {bw with heap:=h',toks:=tk}):
  wpAny G.mo A (newList []) (λacc gV=>wpAny G.mo A (newFunctionEnv scope env.globals cl [] env.qual none .none (some env)) (λcenv oq=>
   codeAny G.mo A (.compStart (.ListComp elt' [⟨.Name x px,iter,ifs,0⟩] scope pos) 0 (.ref I) acc {cenv with scope:=relabel scope env}) (compPost G.mo A E use Q acc cenv.locals) oq) E gV) E {bw with heap:=bp,toks:=cC}:=by
 have yD:I<bp.objs.size:=let ⟨_,_,e,_⟩:=it.own;Heap.lt_size e
 have hsz:bw.heap.objs.size<=bp.objs.size:=Nat.le_of_lt (Nat.lt_of_le_of_lt hI yD);have pa:∀a,bw.heap.objs.size<=a->bw.heap.get? a=none:=λa ha=>Heap.get?_none_of_le ha;refine wpAny_newObj_type (wpAny_newFunctionEnv Z.B7 (by intro y hy;simp at hy) (λd6 wO tF=>?_) Z.kind);dsimp only at wO tF ⊢;generalize yE:bp.push {cls:=.type "list",dict:=none,data:=.seq ([]:List Value).toArray}=H3 at wO tF ⊢;have hC:H3.objs.size=bp.objs.size+1:=by rw[←yE,Heap.size_push]
 have old:∀b o,bp.get? b=some o->d6.get? b=some o:=λb o e=>
  tF.extBut b o (by(refine hC▸?_);exact Nat.ne_of_lt (Nat.lt_succ_of_lt (Heap.lt_size e))) (Heap.get?_push_of_some _ (yE▸Heap.get?_push_of_some _ e))
 have hDC:bp.objs.size≠H3.objs.size:=by(refine hC▸?_);exact Nat.ne_of_lt (Nat.lt_succ_self _)
 have uN:I≠bp.objs.size:=Nat.ne_of_lt yD;have hIC:I≠H3.objs.size:=by(refine hC▸?_);exact Nat.ne_of_lt (Nat.lt_succ_of_lt yD)
 have hkeep:∀b o,bw.heap.get? b=some o->d6.get? b=some o:=λb o e=>old b o (hk b o e);have C7:dX G aK d6 I sr 0:=it.mono (λo e=>old _ _ e) (λa xs ⟨o,e,c⟩=>⟨o,old _ _ e,c⟩) λ_ _ e=>e;have uz:bw.heap.objs.size<=H3.objs.size:=by(refine hC▸?_);exact jN hsz
 have loop:codeAny G.mo A (.compLoop (.ListComp elt' [⟨.Name x px,iter,ifs,0⟩] scope pos) 0 (.ref I) (.ref bp.objs.size) (compEnvC scope cl H3.objs.size env))
   (compPost G.mo A E use Q (.ref bp.objs.size) H3.objs.size) {bw with heap:=d6,toks:=cC+([]:List (Str×Value)).length}:=
  HY hh br aG Z hcl (pa _ hI) (pa _ hsz) (pa _ uz) uN hIC hDC hB hT (hturn _)
   (λag b=>let ⟨a1,a2,a3⟩:=hbad _ ag (pa _ uz) b;⟨a1,a2,λe aC h' tk az base mC=>a3 _ e aC h' tk az base mC⟩)
   (λh' tk az xs mC cV all he st S hl rl h1 h2 hn=>hend _ _ h' tk az xs mC cV all he (pa _ hsz) (pa _ uz) hDC st S hl rl h1 h2 hn) B _
   ⟨d6,_,aK,ax,0,[],[],_,rfl,(Step.grow aG hkeep),(aG.grow hkeep),C7,(⟨0,tF.extBut _ _ hDC (Heap.get?_push_of_some _ (yE▸Heap.get?_push_size _ rfl))⟩),.nil,(aG.fresh hsz),(aG.fresh uz),wO,ec,by simp,by exact lN 825917182536 [_] rfl⟩
 exact codeAny_compStart_list loop (Kj C7 loop)
theorem Aq{elt' iter:av}{x:Str}{px pos:Pos}{ifs:List av}{scope:Scope}{v:Nat}{bk:List Nat}{cl:List (Str×Addr)}{I:Addr}{sr:Src}{f:V->M (Option V)}{use:Option (Value->Sem Unit)}{Q:bG}{E:bG}{bw:Shared}{aK:List Addr}{ax cV:H}{L:aR}{all:List V}{B cC:Nat}{bp:Heap}(hh:A.handled=none)(br:bt G N env aK bw.heap L)(aG:aH G aK ax bw.heap)(Z:gQ N env scope x v bk)(hcl:∀y,(y,NameKind.free)∈scope.names->cl.lookup y=env.cells.lookup y)(hI:bw.heap.objs.size<=I)(hk:∀b o,bw.heap.get? b=some o->bp.get? b=some o)(it:dX G aK bp I sr 0)(hB:B<=aM+1)(ec:di sr f B 0 ax=.ok all cV)(hturn:∀C it,TurnOk G A N (compEnvC scope cl C env) (bV (cK L bk) v it) ifs elt' (f it))(hend:∀D C h' tk az xs mC,bw.heap.get? D=none->bw.heap.get? C=none->D≠C->Step aK bw.heap az h'->aH G az cV h'->h'.PlainList D xs.toArray->bK G az h' xs all->D∉az->C∉az->h'.Ns C mC->
   compPost G.mo A E use Q (.ref D) C (.ok .next) {bw with heap:=h',toks:=tk}):
  wpAny G.mo A (newList []) (λacc gV=>wpAny G.mo A (newFunctionEnv scope env.globals cl [] env.qual none .none (some env)) (λcenv oq=>
   codeAny G.mo A (.compStart (.ListComp elt' [⟨.Name x px,iter,ifs,0⟩] scope pos) 0 (.ref I) acc {cenv with scope:=relabel scope env}) (compPost G.mo A E use Q acc cenv.locals) oq) E gV) E {bw with heap:=bp,toks:=cC}:=
 A3 (fe:=env) (outer:=[]) (Lf:=0) hh br aG Z hcl hI hk it hB (T:=uM sr f all cV) (λ_ _ _ _ c=>c.next) ⟨all,ec,rfl⟩ hturn (λ_ _ _ b=>b.elim) λD C h' tk az xs mC RK all' he=>by
  refine bB λXx aI=>?_;obtain⟨rfl,rfl⟩:=he;refine aI ?_;exact hend D C h' tk az xs mC
theorem zQ{elt' iter:av}{x:Str}{px pos:Pos}{ifs:List av}{scope:Scope}{v:Nat}{bk:List Nat}{cl:List (Str×Addr)}{I:Addr}{sr:Src}{f:V->M (Option V)}{Q:bG}{E:bG}{bw:Shared}{aK:List Addr}{ax:H}{L:aR}{B cC:Nat}{bp:Heap}(hh:A.handled=none)(br:bt G N env aK bw.heap L)(aG:aH G aK ax bw.heap)(Z:gQ N env scope x v bk)(hcl:∀y,(y,NameKind.free)∈scope.names->cl.lookup y=env.cells.lookup y)(hI:bw.heap.objs.size<=I)(hk:∀b o,bw.heap.get? b=some o->bp.get? b=some o)(it:dX G aK bp I sr 0)(hB:B<=aM+1)(hturn:∀C it,TurnOk G A N (compEnvC scope cl C env) (bV (cK L bk) v it) ifs elt' (f it))(h:PV G (M.bind (di sr f B 0) (λvs=>cY (.ah vs)) ax) aK bw Q):
  wpAny G.mo A (newList []) (λacc gV=>wpAny G.mo A (newFunctionEnv scope env.globals cl [] env.qual none .none (some env)) (λcenv oq=>
   codeAny G.mo A (.compStart (.ListComp elt' [⟨.Name x px,iter,ifs,0⟩] scope pos) 0 (.ref I) acc {cenv with scope:=relabel scope env}) (compPost G.mo A E none Q acc cenv.locals) oq) E gV) E {bw with heap:=bp,toks:=cC}:=by
 refine bo (aS.bind h) λall cV ec h1=>?_;have eP:∀a,bw.heap.get? a=none->G.hb.get? a=none:=λa ha=>by
  cases e:G.hb.get? a with
  |none=>rfl
  |some o=>(replace ha:=(aG.base _ _ e)▸ha);exact d9 ha
 refine Aq hh br aG Z hcl hI hk it hB ec hturn λD C h' tk az xs mC hD hC hDC st S hl rl lP g0 hns=>⟨mC,hns,λh'' hs=>?_⟩;have gG:∀b o,b≠C->h'.get? b=some o->h''.get? b=some o:=λb o hb e=>(hs.2 b hb).trans e;have m8:=nB hns;have tu:∀a ys,IsTup h' a ys->IsTup h'' a ys:=λa ys t=>by
  have:=m8 a ys t;obtain⟨o,e,c⟩:=t;exact⟨o,gG a o this e,c⟩
 have S':aH G az cV h'':=S.iA g0 (eP C hC) m8 gG;have st':Step aK bw.heap az h'':=st.other hC gG;have hl':h''.PlainList D xs.toArray:=let ⟨q,e⟩:=hl;⟨q,gG D _ hDC e⟩
 refine a5 (S'.adopt lP (eP D hD) (o:=.ah all) ⟨xs,hl',(rl.mono tu λ_ _ e=>e).mono (λ_ _ t=>t) λi b e=>by rw[List.getElem?_append_left (List.getElem?_eq_some_iff.mp e).1];exact e⟩) λyA hi=>?_;exact h1 (.ref D) h'' tk _ (st'.adopt hD) yA (.ref hi)
def ju:av->Bool
|.Set ..=>false
|_=>true
theorem lV(h:ju iter=true):∀x,foldedSetIterable iter env x=pure x:=λx=>by
 cases iter<;>first|rfl|exact ff h
theorem A4{kY src:E}{elt' iter:av}{x:Str}{px pos:Pos}{ifs:List av}{scope:Scope}{v:Nat}{bk:List Nat}{f:aR->V->M (Option V)}(Y:Ao A n)(hE:ba G n A N env src iter)(Z:gQ N env scope x v bk)(hns:ju iter=true)(hev:∀L σ,ao (G.ctx n) kY L σ=M.bind (ao (G.ctx n) src L) (λx=>M.bind (srcOf x) λsr=>M.bind (eU sr) λk=>if k<=aM then M.bind (di sr (λit=>f (bV (cK L bk) v it) it) (k+1) 0) λvs=>cY (.ah vs) else M.fail) σ)(hturn:∀cl C L it,(∀y,(y,NameKind.free)∈scope.names->cl.lookup y=env.cells.lookup y)->TurnOk G A N (compEnvC scope cl C env) L ifs elt' (f L it)):
  ba G n A N env kY (.ListComp elt' [⟨.Name x px,iter,ifs,0⟩] scope pos):=λs ρ σ L Q E X S h=>by
 rw[hev] at h;have kO:∀y∈scope.names,y.2=.free->(env.cells.lookup y.1).isSome=true:=λy hy hf=>by
  refine bo (X.cl y.1 (Z.free y hy hf)) λc _ hc _=>?_
  (refine hc▸?_);rfl
 refine aO (qp kO) λcl hclos hcl=>?_;rw[eval_ListComp];refine wpAny_comprehension_free rfl (lV hns) hclos Z.kind Z.locs (hE.then X S h λxv aC tk aK ax u br aG st r h1=>?_);refine bo (aS.bind h1) λsr bM e2 h2=>?_;refine(j3 aG r e2 λI bp hI hk it=>?_).2;refine bB λXx aI=>?_;refine a5 (j3 (s:={s with heap:=aC,toks:=tk}) (A:=A) (E:=λ_ _=>True) (Q:=λ_ _=>True) aG r e2 (λ_ _ _ _ _=>trivial)) λcz _=>?_;clear e2 h1;subst cz;refine bo (aS.bind h2) λk et e3 h3=>?_;have Qx:et=bM:=by
  cases sr with
  |fix vs=>(apply fh e3);rfl
  |live i=>
   refine bo (en e3) λvs ag e4 e5=>?_;refine b8 (eA e4) λ_ _ a9 _=>?_;clear e4;subst a9;(apply fh e5);rfl
 subst Qx;obtain⟨hle,h4⟩:=aS.ite h3;refine aI ?_;exact zQ Y.hh br aG Z hcl hI hk it (lN 0x6134184c04904920534c [_,_] rfl hle) (λC it=>hturn cl C _ it hcl) h4
end
end Qh
namespace Qh
set_option backward.match.sparseCases false
open PySem PySem.W PyProof.Rows
section
variable{t:Nat}
theorem bD.dP{v:V}:bD t (dP v):=by cases v<;>first|exact .pure|exact .fail
theorem bD.ig{a b:V}:bD t (ig a b):=by cases a<;>first|exact .fail|(cases b<;>first|exact .fail|exact .pure|exact .ite .pure .fail|exact .bind .bH λ_=>.bind .bH λ_=>.ite .pure .fail)
theorem bD.among{x:V}{vs:List V}:bD t (among x vs):=by unfold Qh.among;split<;>first|exact .pure|exact .ite .pure .fail
theorem bD.iq{x c:V}:bD t (iq x c):=by
 cases c with
|aB vs=>exact .among
|str s=>show bD t (match x with|.str y=>_|_=>M.fail);cases x<;>first|exact .fail|exact .ite .pure .fail
|ref i=>
  refine .bind .cP λo=>?_;cases o with
  |ah vs=>exact .among
  |ay es=>show bD t (match x with|.str k=>_|_=>M.fail);cases x<;>first|exact .fail|exact .pure
  |_=>exact .fail
|_=>exact .fail
theorem bD.dJ{op:CmpOp}{a b:V}:bD t (dJ op a b):=by
 cases op with
|Eq=>exact .ig
|NotEq=>exact .bind .ig λ_=>.pure
|Lt=>exact .bind .du λ_=>.bind .du λ_=>.pure
|Gt=>exact .bind .du λ_=>.bind .du λ_=>.pure
|LtE=>exact .bind .du λ_=>.bind .du λ_=>.pure
|In=>exact .iq
|NotIn=>exact .bind .iq λ_=>.pure
|_=>exact .fail
theorem bD.ib{v:V}:bD t (ib v):=by cases v<;>first|exact .fail|exact .bind .cP λo=>(by cases o<;>first|exact .fail|exact .bind .cP λo=>(by cases o<;>first|exact .fail|exact .pure))
theorem bD.js{v:V}:bD t (js v):=.bind .bH λ_=>.ite .pure .fail
end
section
variable{G:Gd}{n:Nat}{A:Around}{N:List Str}{env:Env}
theorem I8{op:CmpOp}{a b:E}{l r:av}{p:Pos}(hE:ba G n A N env a l)(hX:eu G n A N env a l)(H':ba G n A N env b r)(HX:eu G n A N env b r)(hm:behindInMarks op r=false):uw G n A N env (.cmp op a b) (.Compare l [op] [r] p):=λs ρ σ L ag fe outer Lf Q E X S F ev px=>
 wpAny_isTrue_Compare1 (mP hE hX X S F ev px λv aC tk aK ax u br aG st eZ r e2 gA=>mP H' HX br aG eZ e2 gA λv' bp cC dQ bM u' dB b6 cF kr r' e3 ux=>no .dJ e3) hm
theorem HZ{a:E}{e:av}{p' p:Pos}(K:cD G)(hE:ba G n A N env a e)(hX:eu G n A N env a e)(hk:env.kindOf "tuple"=some .globalImplicit)(hs:starEach [e] env=[(false,eval e env)]):eu G n A N env (.tuple a) (.Call (.Name "tuple" p') [e] [] p):=λs ρ σ L ag fe outer Lf Q E X S F ev px=>by
 refine wpAny_Call_NameR (wpAny_Name (nI K S X hk (by decide+kernel) boot_tuple ?_) (by decide+kernel));refine callWith_type1 ?_ hs rfl;exact args_cons (mP hE hX X S F ev px λv aC tk aK ax u br aG st eZ r e2 gA=>no .js e2) hs
theorem I9{f:Nat}{x:Str}{es:EL}{e:av}{args:List av}{p' p:Pos}{fn:Fn}(K:cD G)(FI:iC G)(Y:Ao A n)(C:n7 G n)(xf:G.xf f)(hE:f7 G n A N env es (e::args))(hX:kS G n A N env es (e::args))(hf:G.P.fns f=some fn)(hx:G.fN f=x)(hg:G.eO f=true)(hk:env.kindOf x=some .globalImplicit)(hd:(x==("__debug__":Str))=false)(hs:starEach (e::args) env=(false,eval e env)::starEach args env):eu G n A N env (.call f es) (.Call (.Name x p') (e::args) [] p):=λs ρ σ L ag fe outer Lf Q E X S F ev px=>by
 refine bo (FI f fn hf) λo fd ho hdat=>?_;refine wpAny_Call_NameR (wpAny_Name (wh K S X hk hf hg hx ?_) hd);exact callWith_def hdat (qY hE hX X S F ev px λv aC tk aK ax u br aG st eZ r e2 gA=>⟨aG.base _ _ ho,C A Y fe outer Lf env f xf u v _ aK ax ag Q E aG r eZ e2 gA⟩) hs
end
set_option backward.match.sparseCases true
end Qh
namespace Qh
open PySem PySem.W PyProof.Rows
section
variable{G:Gd}{n:Nat}{A:Around}{N:List Str}{env:Env}
theorem iB.hide(B:iB l h base):iB l (hid h [C]) (hid base [C]):=by
 refine⟨λb o e=>?_,λb o e hn=>?_⟩
 ·by_cases q:b=C
  ·(replace e:=(o8 _ (.head _))▸(q▸e));exact bL e
  ·exact qP _ (B.sub b o (kN _ e)) (by simpa using q)
 ·by_cases q:b=C
  ·(replace e:=(o8 _ (.head _))▸(q▸e));exact bL e
  ·exact qP _ (B.sup b o (kN _ e) hn) (by simpa using q)
theorem gy.hide(hd:gy base l e Cx fl h)(hn:h.Ns C m)(hC:C∉places l)(hs:Heap.SameBut C h h'):gy (hid base [C]) l e Cx fl h':=by
 obtain⟨f1,f2,f3,a0,oe,vs,T,oT,ts,he,hcls,hdt,h1,oH,oJ,hT,jh,h3⟩:=hd;refine aO (tj hn) λoC eC Qy=>?_;have ne:∀{b o vs},h.get? b=some o->o.data=.fields vs->b≠C:=λ{b o vs} e d q=>by
  (replace e:=eC▸(q▸e));(refine dE e λaP=>?_;subst aP);exact Qy _ d
 have keep:∀b o,b≠C->h.get? b=some o->h'.get? b=some o:=λb o hb e=>(hs.2 b hb).trans e;have off:∀b,base.get? b=none->(hid base [C]).get? b=none:=λb hb=>by
  cases q:(hid base [C]).get? b with
  |none=>rfl
  |some o=>(replace hb:=(kN _ q)▸hb);exact d9 hb
 refine⟨λb o q=>keep b o (λz=>?_) (f1 b o (kN _ q)),off e f2,?_,a0,oe,vs,T,oT,ts,keep e oe (ne he hdt) he,hcls,hdt,h1,off T oH,oJ,keep T oT (ne hT jh) hT,jh,h3⟩
 ·(replace q:=(o8 _ (.head _))▸(z▸q));exact bL q
 ·clear hs he hcls hdt h1 oH oJ hT jh h3
  induction l with
  |nil=>trivial
  |cons env rest ih=>
   obtain⟨g1,⟨L,o,g2,g3,g4,g5⟩,g6⟩:=f3
   exact⟨g1,⟨L,o,g2,off L g3,keep L o (λq=>hC (q▸List.mem_filterMap.mpr ⟨env,.head _,g2⟩)) g4,g5⟩,ih (λq=>hC (by
    refine aO (List.mem_filterMap.mp q) λx hx hf=>?_
    exact List.mem_filterMap.mpr ⟨x,.tail _ hx,hf⟩)) g6⟩
theorem bD.srcOf:bD t (srcOf v):=by cases v<;>first|exact .fail|exact .pure|exact .bind .bH λ_=>.pure
theorem bD.eU:bD t (eU v):=by cases v<;>first|exact .pure|exact .bind .bH λ_=>.pure
theorem H0(e3:eU sr σ=.ok k et):et=σ:=by
 cases sr with
|fix vs=>(apply fh e3);rfl
|live i=>
  refine bo (en e3) λvs ag e4 e5=>?_;refine b8 (eA e4) λ_ _ a9 _=>?_;clear e4;(clear e3;subst a9);(apply fh e5);rfl
theorem Ja(Y:Ao A n)(hE:ba G n A N env src iter)(Qz:eu G n A N env src iter)(Z:gQ N env scope x v bk)(hns:ju iter=true)(hturn:∀cl C,ba G n A N (compEnvC scope cl C env) elt elt')(hX:∀cl C,eu G n A N (compEnvC scope cl C env) elt elt'):
  eu G n A N env (.comp elt v bk src) (.ListComp elt' [⟨.Name x px,iter,[],0⟩] scope pos):=λs ρ σ L ag fe outer Lf Q E X S F ev QA=>by
 have kO:∀y∈scope.names,y.2=.free->(env.cells.lookup y.1).isSome=true:=λy hy hf=>by
  refine bo (X.cl y.1 (Z.free y hy hf)) λc _ hc _=>?_
  (refine hc▸?_);rfl
 refine aO (qp kO) λcl hclos hcl=>?_;rw[eval_ListComp];refine wpAny_comprehension_free (use:=none) rfl (lV hns) hclos Z.kind Z.locs (mP hE Qz X S F ev QA λxv aC tk aK ax u br aG st eZ r e0 gA=>?_);rcases jn e0 with z|⟨sr,bM,e2,e3⟩
 ·exact no .srcOf z
 refine(j3 (s:={s with heap:=aC,toks:=tk}) aG r e2 λI bp hI hk it=>?_).2;refine a5 (j3 (s:={s with heap:=aC,toks:=tk}) (A:=A) (E:=λ_ _=>True) (Q:=λ_ _=>True) aG r e2 (λ_ _ _ _ _=>trivial)) λcz _=>?_;clear e2 e0;subst cz;rcases jn e3 with z|⟨k,et,e4,e5⟩
 ·exact no .eU z
 obtain rfl:=H0 e4;have hle:k<=aM:=by
  by_cases hc:k<=aM
  ·exact hc
  ·(replace e5:=(if_neg hc)▸e5);exact no .fail e5
 replace e5:=(if_pos hle)▸e5;have e6:di sr (λit=>M.bind (ao (G.ctx n) elt (bV (cK L bk) v it)) λy=>M.pure (some y)) (k+1) 0 et=.aF G.tg ag:=by
  rcases jn e5 with z|⟨_,_,_,z⟩
  ·exact z
  ·exact no .cY z
 refine A3 (fe:=fe) (outer:=outer) (Lf:=Lf) Y.hh br aG Z hcl hI hk it (T:=uy G.tg sr (λit=>M.bind (ao (G.ctx n) elt (bV (cK L bk) v it)) λy=>M.pure (some y)) ag) (by exact lN 0x6134184c04904920534c [_,_] rfl hle) (λ_ _ _ _ c=>c.next) e6 (λC it=>qq (hturn cl C)) (λC cp hC hb=>?_) λ_ _ _ _ _ _ _ _ _ he=>he.elim;obtain rfl:cp=ag:=hb;refine⟨eZ,λit=>GZ (hX cl C),λD e dq d6 jB pF base mC jA jJ xp g0 B hd u=>?_⟩;refine⟨mC,u.ns xp,λpP C8 cenv _=>?_⟩;have RL:=eZ.step jA;have QB:C∉places (fe::outer):=λq=>by
  refine aO (mi eZ.alive q) λo e _=>?_;exact absurd (e.symm.trans hC) (by simp)
 have eP:G.hb.get? C=none:=by
  cases q:G.hb.get? C with
  |none=>rfl
  |some o=>exact absurd ((aG.base _ _ q).symm.trans hC) (by simp)
 have gG:∀b o,b≠C->dq.get? b=some o->(hid dq [C]).get? b=some o:=λb o hb e=>qP _ e (by simpa using hb);refine I6 B.hide (hd.hide (u.ns xp) QB C8) (λb o e hnf=>?_) λPl x=>?_
 ·have hb:b≠C:=λq=>by(replace e:=(o8 _ (.head _))▸(q▸e));exact bL e
  obtain⟨sl,e'⟩:=u b o (kN _ e) hnf;exact⟨sl,(C8.2 b hb).trans e'⟩
 ·exact gA e (hid dq [C]) Pl jB pF (jA.other hC gG) (jJ.iA g0 eP (nB xp) gG) x
end
end Qh
namespace Qh
open PySem PyProof.Rows
section
variable{G:Gd}{n:Nat}{A:Around}{N:List Str}{env:Env}
theorem GS(k:Int):dG k=dG (k.toNat:Int):=by unfold dG;rw[Int.toNat_natCast]
theorem so{a:E}{e:av}{rp rpos:Pos}(K:cD G)(hE:ba G n A N env a e)(hk:env.kindOf "range"=some .globalImplicit)(hs:starEach [e] env=[(false,eval e env)]){s:Shared}{ρ:List Addr}{σ:H}{L:aR}{α β:Type}{R:List Addr->Heap->β->α->Prop}{g:Int->M α}{Q:β->Shared->Prop}{K':bG}{E:bG}(X:bt G N env ρ s.heap L)(S:aH G ρ σ s.heap)(h:aS G R (M.bind (ao (G.ctx n) a L) (λx=>M.bind (du x) λk=>if 0<=k/\k<=1000000 then g k else M.fail) σ) ρ s Q)(kk:∀I aC bp tk cC aK ax k,bt G N env aK aC L->aH G aK ax aC->Step ρ s.heap aK aC->0<=k/\k<=1000000->aS G R (g k ax) aK {s with heap:=aC,toks:=tk} Q->aC.objs.size<=I->(∀b o,aC.get? b=some o->bp.get? b=some o)->
   dX G aK bp I (.fix (dG k)) 0->K' (.ref I) {s with heap:=bp,toks:=cC}):
  wpAny G.mo A (eval (.Call (.Name "range" rp) [e] [] rpos) env) (λxv bw=>wpAny G.mo A (pyIter xv) K' E bw) E s:=by
 refine wpAny_Call_NameR (wpAny_Name (nI K S X hk (by decide+kernel) boot_range ?_) (by decide+kernel));refine callWith_type1 (args_cons (hE.then X S h λy aC tk aK ax u br aG st r h1=>args_nil ?_) hs) hs rfl;refine bo (aS.bind h1) λk bM e1 h2=>?_;refine a5 (jm e1) λcz bg=>?_;clear e1;(clear h1;subst cz);subst bg;obtain⟨hle,h3⟩:=aS.ite h2;(apply eH r;intro _);refine call_range_1 ?_;have h0:=hle.1
 ·refine wpAny_pyIter_range (IsRange.new ..) (small_one (by decide) (by decide) (by lia) (lI 0x700700700700700700700700700790184c049049205007247d078cc [_] rfl hle.2)) ?_;have hsz:Builtin.Range.rangeSize 0 k 1=(k.toNat:Int):=by rw[rangeSize_one];split<;>lia
  refine kk _ aC _ tk _ aK bM k br aG st hle h3 (by simp[Heap.size_push]) (λb o e=>Heap.get?_push_of_some _ (Heap.get?_push_of_some _ e)) ?_;rw[GS];refine .range (eI _) ?_;have:(k.toNat:Int)-((0:Nat):Int)=Builtin.Range.rangeSize 0 k 1:=by(refine hsz.symm▸?_);rfl
  refine this▸?_;exact Heap.get?_push_size _ rfl
theorem Jb{elt src:E}{elt' e:av}{x:Str}{px pos rp rpos:Pos}{scope:Scope}{v:Nat}{bk:List Nat}(K:cD G)(Y:Ao A n)(hE:ba G n A N env src e)(Z:gQ N env scope x v bk)(hk:env.kindOf "range"=some .globalImplicit)(hs:starEach [e] env=[(false,eval e env)])(hturn:∀cl C,(∀y,(y,NameKind.free)∈scope.names->cl.lookup y=env.cells.lookup y)->ba G n A N (compEnvC scope cl C env) elt elt'):
  ba G n A N env (.fB elt v bk src) (.ListComp elt' [⟨.Name x px,.Call (.Name "range" rp) [e] [] rpos,[],0⟩] scope pos):=λs ρ σ L Q E X S h=>by
 have kO:∀y∈scope.names,y.2=.free->(env.cells.lookup y.1).isSome=true:=λy hy hf=>by
  refine bo (X.cl y.1 (Z.free y hy hf)) λc _ hc _=>?_
  (refine hc▸?_);rfl
 refine aO (qp kO) λcl hclos hcl=>?_;rw[eval_ListComp];refine wpAny_comprehension_free rfl (lV rfl) hclos Z.kind Z.locs (so K hE hk hs X S h λI aC bp tk cC aK ax k br aG st hle h1 hI hkp it=>?_);exact zQ (bw:={s with heap:=aC,toks:=tk}) Y.hh br aG Z hcl hI hkp it (by have:aM=1000000:=rfl;lia) (λC it=>qq (hturn cl C hcl)) h1
end
end Qh
set_option tactic.hygienic true
namespace Qh
open PySem PyProof.Rows
inductive iH(G:Gd)(ρ:List Addr)(h:Heap):Flow->Fl->Prop
|next:iH G ρ h .next .next
|brk:iH G ρ h .brk .brk
|cont:iH G ρ h .cont .cont
|ret {v:Value}{u:V}:Rel G ρ h v u->iH G ρ h (.ret v) (.ret u)
def PS(G:Gd)(N:List Str)(env:Env)(r:RN Fl)(ρ:List Addr)(s:Shared)(Q:Flow->Shared->Prop):Prop:=
 match r with
|.ok f L' ag=>∀fl h' tk az,dA env ρ s.heap az h'->aH G az ag h'->bt G N env az h' L'->iH G az h' fl f->Q fl {s with heap:=h',toks:=tk}
|_=>False
section
variable(G:Gd)(n:Nat)(A:Around)(N:List Str)(env:Env)
def dC(x:S)(st:Stmt):Prop:=∀(s:Shared)(ρ:List Addr)(σ:H)(L:aR)(Q:Flow->Shared->Prop)(E:bG),bt G N env ρ s.heap L->aH G ρ σ s.heap->
 PS G N env (cG (G.ctx n) x L σ) ρ s Q->wpAny G.mo A (exec st env) Q E s
def ij(x:SL)(m9:List Stmt):Prop:=∀(s:Shared)(ρ:List Addr)(σ:H)(L:aR)(Q:Flow->Shared->Prop)(E:bG),bt G N env ρ s.heap L->aH G ρ σ s.heap->
 PS G N env (a6 (G.ctx n) x L σ) ρ s Q->wpAny G.mo A (execs m9 env) Q E s
end
section
variable{G:Gd}{n:Nat}{A:Around}{N:List Str}{env:Env}{s:Shared}{ρ az:List Addr}{σ ag:H}{h h':Heap}{L:aR}{E:bG}{Q:Flow->Shared->Prop}
theorem ij.at{x:SL}{m9:List Stmt}{f:Fl}{L':aR}(hb:ij G n A N env x m9)(X:bt G N env ρ s.heap L)(S:aH G ρ σ s.heap)(e:a6 (G.ctx n) x L σ=.ok f L' ag)(k:∀fl h' tk az,dA env ρ s.heap az h'->aH G az ag h'->bt G N env az h' L'->iH G az h' fl f->Q fl {s with heap:=h',toks:=tk}):wpAny G.mo A (execs m9 env) Q E s:=hb s ρ σ L Q E X S (e▸k)
theorem PS.bind{α:Type}{m:Qh.N α}{f:α->Qh.N Fl}(h:PS G N env (Qh.N.bind m f L σ) ρ s Q):∃a ek ax,m L σ=.ok a ek ax/\PS G N env (f a ek ax) ρ s Q:=by
 unfold Qh.N.bind at h
 split at h
 ·rename_i a L' ag e;exact⟨a,L',ag,e,h⟩
 ·exact h.elim
 ·exact h.elim
theorem By{α:Type}{m:aR->M α}{a:α}{ek:aR}{ax:H}(e:Qh.N.lift m L σ=.ok a ek ax):ek=L/\m L σ=.ok a ax:=by
 unfold Qh.N.lift at e
 split at e
 ·rename_i a' ag e';(apply uJ e);exact⟨rfl,e'⟩
 ·exact ET e
 ·exact oB e
theorem PS.lift{α:Type}{m:aR->M α}{f:α->Qh.N Fl}(h:PS G N env (Qh.N.bind (Qh.N.lift m) f L σ) ρ s Q):∃a ax,m L σ=.ok a ax/\PS G N env (f a L ax) ρ s Q:=by refine fV (PS.bind h) λa ek ax e h1=>?_;refine a5 (By e) λcz e1=>?_;clear e;(clear h lift;subst cz);exact⟨a,ax,e1,h1⟩
theorem PS.step{r:RN Fl}{aC:Heap}{tk:Nat}{aK:List Addr}(h:PS G N env r ρ s Q)(x:dA env ρ s.heap aK aC):PS G N env r aK {s with heap:=aC,toks:=tk} Q:=by
 cases r with
|ok a L ag=>exact λb h' fj az y S X r=>h b h' fj az (x.trans y) S X r
|aF c L ag=>exact h
|bad=>exact h
theorem PS.here{f:Fl}{fl:Flow}{tk:Nat}(h:PS G N env (.ok f L σ) ρ s Q)(S:aH G ρ σ s.heap)(X:bt G N env ρ s.heap L)(r:iH G ρ s.heap fl f):Q fl {s with toks:=tk}:=
 h fl s.heap tk ρ (dA.refl _ _ _) S X r
theorem PS.cu{f:Fl}{fl:Flow}(h:PS G N env (.ok f L σ) ρ s Q)(S:aH G ρ σ s.heap)(X:bt G N env ρ s.heap L)(r:iH G ρ s.heap fl f):Q fl s:=h.here S X r
theorem ba.ic{x:Qh.E}{e:av}(hE:ba G n A N env x e){f:V->Qh.N Fl}{Q':bG}(X:bt G N env ρ s.heap L)(S:aH G ρ σ s.heap)(h:PS G N env (Qh.N.bind (Qh.N.lift (ao (G.ctx n) x)) f L σ) ρ s Q)(k:∀v aC tk aK ax u,bt G N env aK aC L->aH G aK ax aC->Step ρ s.heap aK aC->Rel G aK aC v u->PS G N env (f u L ax) aK {s with heap:=aC,toks:=tk} Q->Q' v {s with heap:=aC,toks:=tk}):
  wpAny G.mo A (eval e env) Q' E s:=by refine bo (PS.lift h) λu ax e1 h1=>?_;refine hE s ρ σ L Q' E X S ?_;refine e1▸?_;exact λv aC tk aK st aG r=>k v aC tk aK ax u (X.step S st) aG st r (h1.step st.toS)
theorem gZ.ic{x:Qh.E}{e:av}(hE:gZ G n A N env x e){f:Bool->Qh.N Fl}{Q':Bool->Shared->Prop}(X:bt G N env ρ s.heap L)(S:aH G ρ σ s.heap)(h:PS G N env (Qh.N.bind (Qh.N.lift (bR (G.ctx n) x)) f L σ) ρ s Q)(k:∀b aC tk aK ax,bt G N env aK aC L->aH G aK ax aC->Step ρ s.heap aK aC->PS G N env (f b L ax) aK {s with heap:=aC,toks:=tk} Q->Q' b {s with heap:=aC,toks:=tk}):
  wpAny G.mo A (isTrue e env (eval e env)) Q' E s:=by refine bo (PS.lift h) λu ax e1 h1=>?_;refine hE s ρ σ L Q' E X S ?_;refine e1▸?_;rintro v aC tk aK st aG rfl;exact k v aC tk aK ax (X.step S st) aG st (h1.step st.toS)
theorem bt.Bz(X:bt G N env ρ h L){c:Addr}{ov:Option Value}(hc:h.IsCell c ov):env.locals≠c:=by rintro rfl;refine bB λXx aI=>?_;obtain⟨m,⟨o,es,ep,ho,hd,_⟩,_⟩:=X.ns;obtain⟨o',ho',hd'⟩:=hc;refine aI ?_;(replace ho':=ho▸ho');(refine dE ho' λaP=>?_;(clear ho';subst aP));(replace hd':=hd▸hd');cases hd'
theorem zD{c:Addr}{ov:Option Value}(hc:h.IsCell c ov):∀a ys,IsTup h a ys->a≠c:=by rintro a ys ⟨o,e,cc,n,d⟩ rfl;obtain⟨o',ho',hd'⟩:=hc;(replace ho':=e▸ho');(refine dE ho' λaP=>?_;(clear ho';subst aP));(replace hd':=d▸hd');cases hd'
theorem qH{i:Nat}{x:Str}{v:Value}{u:V}{K:Unit->Shared->Prop}(X:bt G N env ρ s.heap L)(S:aH G ρ σ s.heap)(hx:N[i]?=some x)(hk:env.kindOf x=some .local∨env.kindOf x=some .cell)(r:Rel G ρ s.heap v u)(h:∀h' tk,dA env ρ s.heap ρ h'->aH G ρ σ h'->bt G N env ρ h' (bV L i u)->Rel G ρ h' v u->(∀b o,b≠env.locals->(∀y,env.kindOf y=some .cell->env.cells.lookup y≠some b)->s.heap.get? b=some o->h'.get? b=some o)->K () {s with heap:=h',toks:=tk}):
  wpAny G.mo A (storeName env x v) K E s:=by
 have uniq:∀j,N[j]?=some x->j=i:=λj hj=>by
  have h1:=(List.getElem?_eq_some_iff.mp hj).1;exact(List.getElem?_inj h1 X.nodup).mp (hj.trans hx.symm)
 refine aO (X.ns) λm hns hm=>?_;rcases hk with hk|hk
 ·refine wpAny_storeName_local hk hns (λh' hn' hs'=>?_) (C1 X.kind);have kp:∀b o,b≠env.locals->s.heap.get? b=some o->h'.get? b=some o:=λb o hb e=>(hs'.2 b hb).trans e;have nt:=nB hns;have tu:∀a ys,IsTup s.heap a ys->IsTup h' a ys:=λa ys t=>by
   have:=nt a ys t;obtain⟨o,e,c⟩:=t;exact⟨o,kp a o this e,c⟩
  refine h h' _ ⟨⟨[],by simp⟩,λ_ q=>.inl q,λa o e _ h1 _=>kp a o h1 e,λa _ e q=>?_⟩ (S.iA X.jH X.newL nt kp) ⟨X.kind,X.glob,X.blt,⟨_,hn',λj w y e1 e2 e3=>?_⟩,λy hy=>?_,λj w e1=>?_,X.apart,X.nodup,X.jH,X.jI,X.newL,X.iG⟩ (r.mono tu λ_ _ e=>e) (λb o h1 _ e=>kp b o h1 e)
  ·by_cases ha:a=env.locals
   ·clear e;subst ha;refine fV (hn') λo _ _ ho _=>?_;(replace q:=ho▸q);exact d9 q
   ·exact e ((hs'.2 a ha).symm.trans q)
  ·rcases kD e1 with ⟨rfl,rfl⟩|⟨h1,h2⟩
   ·(replace e2:=hx▸e2);(apply eJ e2);exact⟨v,by simp,r.mono tu λ_ _ e=>e⟩
   ·refine aO (hm j w y h2 e2 e3) λz hz rz=>?_;have hne:y≠x:=λq=>h1 (uniq j (q▸e2));exact⟨z,by simp[hne,hz],rz.mono tu λ_ _ e=>e⟩
  ·refine cW (X.cl y hy) λc ov hc hcell hv=>?_;have hne:=X.Bz hcell;refine⟨c,ov,hc,let ⟨o,ho,hd⟩:=hcell;⟨o,kp c o (Ne.symm hne) ho,hd⟩,λj w e1 e2=>?_⟩;rcases kD e1 with ⟨rfl,rfl⟩|⟨h1,h2⟩
   ·(replace e2:=hx▸e2);(refine dE e2 λaP=>?_;(clear e2 hv;subst aP));(replace hy:=hk▸hy);cases hy
   ·refine aO (hv j w h2 e2) λz hz rz=>?_;exact⟨z,hz,rz.mono tu λ_ _ e=>e⟩
  ·rcases kD e1 with ⟨rfl,rfl⟩|⟨h1,h2⟩
   ·exact⟨x,hx,.inl hk⟩
   ·exact X.has j w h2
 ·refine cW (X.cl x hk) λc ov hc hcell hv=>?_;refine wpAny_storeName_cell X.kind hk hc hcell λh' hc' hs'=>?_;have kp:∀b o,b≠c->s.heap.get? b=some o->h'.get? b=some o:=λb o hb e=>(hs'.2 b hb).trans e;have nt:=zD hcell;have tu:∀a ys,IsTup s.heap a ys->IsTup h' a ys:=λa ys t=>by
   have:=nt a ys t;obtain⟨o,e,c⟩:=t;exact⟨o,kp a o this e,c⟩
  have E3:=X.Bz hcell;refine h h' _ ⟨⟨[],by simp⟩,λ_ q=>.inl q,λa o e _ _ h2=>kp a o (λq=>h2 x hk (q▸hc)) e,λa _ e q=>?_⟩ (S.iA (X.jI x c hk hc) (X.iG x c hk hc) nt kp) ⟨X.kind,X.glob,X.blt,⟨m,hns.sameBut hs' E3,λj w y e1 e2 e3=>?_⟩,λy hy=>?_,λj w e1=>?_,X.apart,X.nodup,X.jH,X.jI,X.newL,X.iG⟩ (r.mono tu λ_ _ e=>e) (λb o _ h2 e=>kp b o (λq=>h2 x hk (q▸hc)) e)
  ·by_cases ha:a=c
   ·clear e E3 nt kp hs' hcell hc;subst ha;refine aO (hc') λo ho _=>?_;(replace q:=ho▸q);exact d9 q
   ·exact e ((hs'.2 a ha).symm.trans q)
  ·rcases kD e1 with ⟨rfl,rfl⟩|⟨h1,h2⟩
   ·(replace e2:=hx▸e2);(refine dE e2 λaP=>?_;(clear uniq hx hv hc;subst aP));(replace e3:=hk▸e3);cases e3
   ·refine aO (hm j w y h2 e2 e3) λz hz rz=>?_;exact⟨z,hz,rz.mono tu λ_ _ e=>e⟩
  ·by_cases yF:y=x
   ·clear hy hv hk hx;subst yF;refine⟨c,some v,hc,hc',λj w e1 e2=>?_⟩;have:=uniq j e2;clear e2 uniq h;subst this;rcases kD e1 with ⟨_,rfl⟩|⟨h1,_⟩
    ·exact⟨v,rfl,r.mono tu λ_ _ e=>e⟩
    ·exact absurd rfl h1
   ·refine cW (X.cl y hy) λc₂ Oj C9 Jc Ol=>?_;have hne:c₂≠c:=λq=>yF (X.apart y x c hy hk (q▸C9) hc);refine⟨c₂,Oj,C9,let ⟨o,ho,hd⟩:=Jc;⟨o,kp c₂ o hne ho,hd⟩,λj w e1 e2=>?_⟩;rcases kD e1 with ⟨rfl,rfl⟩|⟨h1,h2⟩
    ·(replace e2:=hx▸e2);(refine dE e2 λaP=>?_;(clear uniq hx hv hc hk;subst aP));exact absurd rfl yF
    ·refine aO (Ol j w h2 e2) λz hz rz=>?_;exact⟨z,hz,rz.mono tu λ_ _ e=>e⟩
  ·rcases kD e1 with ⟨rfl,rfl⟩|⟨h1,h2⟩
   ·exact⟨x,hx,.inr hk⟩
   ·exact X.has j w h2
theorem dA.get(x:dA env ρ h az h'){i:Nat}{a:Addr}(e:ρ[i]?=some a):az[i]?=some a:=by
 refine bZ (x.pre) λt bg=>?_;clear x get;subst bg;rw[List.getElem?_append_left]
 ·exact e
 ·exact(List.getElem?_eq_some_iff.mp e).1
theorem dA.aB(x:dA env ρ h az h')(S:aH G ρ σ h)(X:bt G N env ρ h L):∀a xs,IsTup h a xs->IsTup h' a xs:=λa xs e=>by
 have hn:=S.aB e;refine bB λXx aI=>?_;refine aO (X.ns) λm hns _=>?_;have h1:=nB hns a xs e;have h2:∀y,env.kindOf y=some .cell->env.cells.lookup y≠some a:=λy hy q=>by
  refine cW (X.cl y hy) λc ov hc hcell _=>?_;(replace q:=hc▸q);cases q;exact zD hcell a xs e rfl
 refine aO (e) λo e c=>?_;refine aI ?_;exact⟨o,x.keep a o e hn h1 h2,c⟩
theorem Rel.iZ{v:Value}{u:V}(r:Rel G ρ h v u)(x:dA env ρ h az h')(S:aH G ρ σ h)(X:bt G N env ρ h L):Rel G az h' v u:=r.mono (x.aB S X) λ_ _ e=>x.get e
theorem bK.iZ{v:List Value}{u:List V}(r:bK G ρ h v u)(x:dA env ρ h az h')(S:aH G ρ σ h)(X:bt G N env ρ h L):bK G az h' v u:=r.mono (x.aB S X) λ_ _ e=>x.get e
theorem dX.iZ{I:Addr}{sr:Src}{k:Nat}(x:dX G ρ h I sr k)(S:aH G ρ σ h)(X:bt G N env ρ h L)(st:dA env ρ h az h'):dX G az h' I sr k:=by
 have ow:=x.own;refine aO (X.ns) λm hns _=>?_;have h1:I≠env.locals:=by
  rintro rfl;refine fJ (hns) λo es ep ho hd _=>?_;obtain⟨o',T,e,_,_,_,_,fs,hf⟩:=ow;(replace e:=ho▸e);(refine dE e λaP=>?_;(clear e;subst aP));(replace hf:=hd▸hf);cases hf
 have h2:∀y,env.kindOf y=some .cell->env.cells.lookup y≠some I:=λy hy q=>by
  obtain⟨c,ov,hc,⟨o,ho,hd⟩,_⟩:=X.cl y hy;(replace q:=hc▸q);(refine dE q λaP=>?_;(clear x;subst aP));obtain⟨o',T,e,_,_,_,_,fs,hf⟩:=ow;(replace e:=ho▸e);(refine dE e λaP=>?_;(clear e;subst aP));(replace hf:=hd▸hf);cases hf
 exact x.mono (λo e=>st.keep _ _ e (ow.jt S) h1 h2) (st.aB S X) λ_ _ e=>st.get e
theorem tG{i:Nat}{x:Qh.E}{e:av}{y:Str}{p p':Pos}(hE:ba G n A N env x e)(hx:N[i]?=some y)(hk:env.kindOf y=some .local∨env.kindOf y=some .cell)(hs:swapsWith e (some (.Name y p')) p.line env=pure false):
  dC G n A N env (.aL i x) (.Assign [.Name y p'] e p):=λs ρ σ L Q E X S h=>
 wpAny_Assign_Name (hE.ic X S h λv aC tk aK ax u br aG st r h1=>qH br aG hx hk r λbp cC cF b6 dB pQ _=>h1 .next bp cC aK cF b6 dB .next) hs
theorem Ca{x:Qh.E}{e:av}{p:Pos}(hE:ba G n A N env x e):dC G n A N env (.ret x) (.Return (some e) p):=λs ρ σ L Q E X S h=>
 wpAny_Return_some (hE.ic X S h λv aC tk aK ax u br aG st r h1=>h1.cu aG br (.ret r))
theorem ME{c:Qh.E}{t e:SL}{c':av}{t' e':List Stmt}{p:Pos}(hT:gZ G n A N env c c')(h1:ij G n A N env t t')(h2:ij G n A N env e e'):dC G n A N env (.ite c t e) (.If c' t' e' p):=λs ρ σ L Q E X S h=>
 wpAny_If (hT.ic X S h λb aC tk aK ax br aG st hb=>by
  cases b with
  |true=>exact h1 _ aK ax L Q E br aG hb
  |false=>exact h2 _ aK ax L Q E br aG hb)
theorem wi:ij G n A N env .nil []:=λs ρ σ L Q E X S h=>wpAny_execs_nil (PS.cu h S X .next)
theorem A5{x:Qh.S}{r:SL}{st:Stmt}{rest:List Stmt}(h1:dC G n A N env x st)(h2:ij G n A N env r rest):ij G n A N env (.cons x r) (st::rest):=λs ρ σ L Q E X S h=>by
 refine fV (PS.bind h) λf ek ax e1 h3=>?_;refine wpAny_execs_cons (h1 s ρ σ L _ E X S ?_);refine e1▸?_;intro fl h' tk az st' S' X' rf;cases rf with
|next=>exact h2 _ az ax ek Q E X' S' (h3.step st')
|brk=>exact h3 _ h' tk az st' S' X' .brk
|cont=>exact h3 _ h' tk az st' S' X' .cont
|ret r=>exact h3 _ h' tk az st' S' X' (.ret r)
theorem KG{x:Qh.E}{e:av}{p:Pos}(hE:ba G n A N env x e)(hi:interactive env=false)(hs:swapsWith e none p.line env=pure false):dC G n A N env (.expr x) (.Expr e p):=λs ρ σ L Q E X S h=>
 wpAny_Expr_any (hE.ic X S h λv aC tk aK ax u br aG st r h1=>h1.cu aG br .next) hi hs
end
end Qh
set_option tactic.hygienic false
namespace Qh
open PySem PySem.W PyProof.Rows
def nc(G:Gd)(N:List Str)(env:Env)(outer:List Env)(ρ:List Addr)(s:Shared)(L':aR)(ag:H)(E:bG):Prop:=
 ∀e aC h' tk az,dA env ρ s.heap az aC->aH G az ag aC->bt G N env az aC L'->m7 (G.cA 1) (env::outer) aC h' e->E (.ref e) {s with heap:=h',toks:=tk}
section
variable(G:Gd)(n:Nat)(A:Around)(N:List Str)(env:Env)
def gB(x:S)(st:Stmt):Prop:=∀(s:Shared)(ρ:List Addr)(σ:H)(L L':aR)(ag:H)(outer:List Env)(Q:Flow->Shared->Prop)(E:bG),bt G N env ρ s.heap L->aH G ρ σ s.heap->Fs A env outer env.locals env ρ s.heap->Sep outer env->
 cG (G.ctx n) x L σ=.aF G.tg L' ag->nc G N env outer ρ s L' ag E->wpAny G.mo A (exec st env) Q E s
def mS(x:SL)(m9:List Stmt):Prop:=∀(s:Shared)(ρ:List Addr)(σ:H)(L L':aR)(ag:H)(outer:List Env)(Q:Flow->Shared->Prop)(E:bG),bt G N env ρ s.heap L->aH G ρ σ s.heap->Fs A env outer env.locals env ρ s.heap->Sep outer env->
 a6 (G.ctx n) x L σ=.aF G.tg L' ag->nc G N env outer ρ s L' ag E->wpAny G.mo A (execs m9 env) Q E s
end
section
variable{G:Gd}{n:Nat}{A:Around}{N:List Str}{env:Env}{s:Shared}{ρ az:List Addr}{σ ag:H}{h h':Heap}{L L':aR}{outer:List Env}{E:bG}{Q:Flow->Shared->Prop}
theorem nc.step{aC:Heap}{tk:Nat}{aK:List Addr}(p:nc G N env outer ρ s L' ag E)(st:dA env ρ s.heap aK aC):nc G N env outer aK {s with heap:=aC,toks:=tk} L' ag E:=
 λe bp h' fj az st' S X x=>p e bp h' fj az (st.trans st') S X x
theorem nc.px(p:nc G N env outer ρ s L ag E)(X:bt G N env ρ s.heap L)(S:aH G ρ σ s.heap):PX G env outer env.locals ρ s ag E:=
 λe aC h' tk az st S' x=>p e aC h' tk az st.toS S' (X.step S st) x
theorem sG{α β:Type}{m:Qh.N α}{f:α->Qh.N β}{c:Nat}(e:Qh.N.bind m f L σ=.aF c L' ag):m L σ=.aF c L' ag∨∃a ek ax,m L σ=.ok a ek ax/\f a ek ax=.aF c L' ag:=by
 unfold Qh.N.bind at e;cases q:m L σ with
|ok a ek ax=>(replace e:=q▸e);exact .inr ⟨a,ek,ax,rfl,e⟩
|aF c' ek ax=>(replace e:=q▸e);(apply EU e);exact .inl rfl
|bad=>(replace e:=q▸e);exact rT e
theorem Jd{α:Type}{m:aR->M α}{c:Nat}(e:Qh.N.lift m L σ=.aF c L' ag):L'=L/\m L σ=.aF c ag:=by
 unfold Qh.N.lift at e;cases q:m L σ with
|ok a ax=>(replace e:=q▸e);exact iN e
|aF c' ax=>(replace e:=q▸e);(apply EU e);exact⟨rfl,rfl⟩
|bad=>(replace e:=q▸e);exact rT e
theorem o0{α β:Type}{m:aR->M α}{f:α->Qh.N β}{c:Nat}(e:Qh.N.bind (Qh.N.lift m) f L σ=.aF c L' ag):(L'=L/\m L σ=.aF c ag)∨∃a ax,m L σ=.ok a ax/\f a L ax=.aF c L' ag:=by
 rcases sG e with q|⟨a,ek,ax,q,q'⟩
 ·exact .inl (Jd q)
 ·refine a5 (By q) λcz q=>?_;clear e o0;subst cz;exact .inr ⟨a,ax,q,q'⟩
theorem xq{x:Qh.E}{e:av}{Q':bG}(hX:eu G n A N env x e)(X:bt G N env ρ s.heap L)(S:aH G ρ σ s.heap)(F:Fs A env outer env.locals env ρ s.heap)(p:nc G N env outer ρ s L' ag E){f:V->Qh.N Fl}(ev:Qh.N.bind (Qh.N.lift (ao (G.ctx n) x)) f L σ=.aF G.tg L' ag)(hf:∀a ax,f a L ax≠.aF G.tg L' ag):wpAny G.mo A (eval e env) Q' E s:=by
 rcases o0 ev with ⟨rfl,q⟩|⟨a,ax,_,q⟩
 ·exact hX s ρ σ L' ag env outer env.locals Q' E X S F q (p.px X S)
 ·exact absurd q (hf a ax)
theorem KH{i:Nat}{x:Qh.E}{e:av}{y:Str}{p p':Pos}(hX:eu G n A N env x e)(hs:swapsWith e (some (.Name y p')) p.line env=pure false):
  gB G n A N env (.aL i x) (.Assign [.Name y p'] e p):=λs ρ σ L L' ag outer Q E X S F sep ev px=>wpAny_Assign_Name (xq hX X S F px ev λ_ _ q=>by exact iN q) hs
theorem KI{x:Qh.E}{e:av}{p:Pos}(hX:eu G n A N env x e):gB G n A N env (.ret x) (.Return (some e) p):=λs ρ σ L L' ag outer Q E X S F sep ev px=>
 wpAny_Return_some (xq hX X S F px ev λ_ _ q=>by exact iN q)
theorem Je{x:Qh.E}{e:av}{p:Pos}(hX:eu G n A N env x e)(hi:interactive env=false)(hs:swapsWith e none p.line env=pure false):gB G n A N env (.expr x) (.Expr e p):=λs ρ σ L L' ag outer Q E X S F sep ev px=>
 wpAny_Expr_any (xq hX X S F px ev λ_ _ q=>by exact iN q) hi hs
theorem KJ{c:Qh.E}{t e:SL}{c':av}{t' e':List Stmt}{p:Pos}(hT:gZ G n A N env c c')(hX:uw G n A N env c c')(h1:mS G n A N env t t')(h2:mS G n A N env e e'):gB G n A N env (.ite c t e) (.If c' t' e' p):=λs ρ σ L L' ag outer Q E X S F sep ev px=>by
 refine wpAny_If ?_;rcases o0 ev with ⟨rfl,q⟩|⟨b,ax,e1,q⟩
 ·exact hX s ρ σ L' ag env outer env.locals _ E X S F q (px.px X S)
 ·refine hT s ρ σ L _ E X S ?_;refine e1▸?_;rintro v aC tk aK st aG rfl;clear e1;cases v with
  |true=>exact h1 _ aK ax L L' ag outer Q E (X.step S st) aG (F.step st) sep q (px.step st.toS)
  |false=>exact h2 _ aK ax L L' ag outer Q E (X.step S st) aG (F.step st) sep q (px.step st.toS)
theorem H4{x:Qh.S}{r:SL}{st:Stmt}{rest:List Stmt}(h1:dC G n A N env x st)(hX:gB G n A N env x st)(h2:mS G n A N env r rest):mS G n A N env (.cons x r) (st::rest):=λs ρ σ L L' ag outer Q E X S F sep ev px=>by
 refine wpAny_execs_cons ?_;rcases sG ev with q|⟨f,ek,ax,e1,q⟩
 ·exact hX s ρ σ L L' ag outer _ E X S F sep q px
 ·refine h1 s ρ σ L _ E X S ?_;refine e1▸?_;intro fl h' tk az st' S' X' rf;cases rf with
  |next=>exact h2 _ az ax ek L' ag outer Q E X' S' (F.iZ sep st' X') sep q (px.step st')
  |brk=>exact iN q
  |cont=>exact iN q
  |ret r=>exact iN q
end
end Qh
set_option tactic.hygienic true
namespace Qh
open PySem PySem.W PyProof.Rows
section
variable{G:Gd}{n:Nat}{A:Around}{N:List Str}{env:Env}{s:Shared}{ρ az:List Addr}{σ ag:H}{h h':Heap}{L:aR}{E:bG}{Q:Flow->Shared->Prop}
theorem Jf{α β:Type}{m:Qh.N α}{f:α->Qh.N β}{b:β}{pR:aR}{bM:H}(e:Qh.N.bind m f L σ=.ok b pR bM):∃a ek ax,m L σ=.ok a ek ax/\f a ek ax=.ok b pR bM:=by
 unfold Qh.N.bind at e
 split at e
 ·rename_i a L' ag e';exact⟨a,L',ag,e',e⟩
 ·exact ET e
 ·exact oB e
theorem PS.ok{r:RN Fl}(h:PS G N env r ρ s Q):∃f L' ag,r=.ok f L' ag:=by
 cases r with
|ok f L' ag=>exact⟨f,L',ag,rfl⟩
|aF c L' ag=>exact h.elim
|bad=>exact h.elim
theorem dA.other{dy:List Addr}{kX:Heap}(st:dA env dy kX ρ h){I:Addr}(h0:kX.get? I=none)(hk:∀b o,b≠I->h.get? b=some o->h'.get? b=some o):dA env dy kX ρ h':=
 ⟨st.pre,st.fresh,λa o e hn h1 h2=>hk a o (λq=>by(clear h2 h1 hn hk;subst q);(replace e:=h0▸e);exact bL e) (st.keep a o e hn h1 h2),λa hn e q=>by
  cases e':h.get? a with
  |none=>exact st.kR a hn e e'
  |some o=>
   have hne:a≠I:=λq=>by(clear hn;subst q);exact e h0
   (replace q:=(hk a o hne e')▸q);exact d9 q⟩
def QC(T':aR->H->Prop)(End:Fl->aR->H->Prop)(L:aR)(σ:H):Fl->Prop
|.next=>T' L σ
|.cont=>T' L σ
|.brk=>End .next L σ
|.ret v=>End (.ret v) L σ
def t7(t:Nat)(C:Ctx)(i:Nat)(b:SL)(T':aR->H->Prop)(End:Fl->aR->H->Prop)(iP:aR->H->Prop)(L:aR)(σ:H):Option V->Prop
|none=>End .next L σ
|some v=>(∃f L' ag,a6 C b (bV L i v) σ=.ok f L' ag/\QC T' End L' ag f)∨∃L' ag,a6 C b (bV L i v) σ=.aF t L' ag/\iP L' ag
noncomputable abbrev kZ(C:Ctx)(i:Nat)(b:SL)(sr:Src):Nat->Nat->Qh.N Fl:=eB (λk=>M.bind (dK sr k) λy=>M.pure (y.map λv=>[(i,v)])) (a6 C b)
theorem Ar{C:Ctx}{i:Nat}{b:SL}{sr:Src}{m k:Nat}{r:Option V}(e:dK sr k σ=.ok r σ):kZ C i b sr (m+1) k L σ=match r with
  |none=>.ok .next L σ
  |some v=>Qh.N.bind (a6 C b) (λf=>match f with|.next=>kZ C i b sr m (k+1)|.cont=>kZ C i b sr m (k+1)|.brk=>Qh.N.pure .next|.ret v=>Qh.N.pure (.ret v)) (bV L i v) σ:=by
 have e':M.bind (dK sr k) (λy=>M.pure (y.map λv=>[(i,v)])) σ=.ok (r.map λv=>[(i,v)]) σ:=by unfold M.bind;(refine e▸?_);rfl
 unfold kZ;simp only[eB,Qh.N.bind,Qh.N.lift,e'];cases r<;>rfl
theorem A6{sr:Src}{k m:Nat}{C:Ctx}{i:Nat}{b:SL}(h:∀c L' ag,kZ C i b sr (m+1) k L σ≠.aF c L' ag∨True)(hb:kZ C i b sr (m+1) k L σ≠.bad):∃r,dK sr k σ=.ok r σ:=by
 clear h;cases sr with
|fix vs=>exact⟨vs[k]?,rfl⟩
|live j=>
  cases q:bH (.ref j) σ with
  |ok vs ax=>
   refine b8 (eA q) λ_ _ a9 _=>?_;subst a9;exact⟨vs[k]?,by show M.bind (bH _) _ ax=_;unfold M.bind;(refine q▸?_);rfl⟩
  |aF c ax=>exact no .bH q
  |bad=>
   refine absurd ?_ hb;have:M.bind (dK (.live j) k) (λy=>M.pure (y.map λv=>[(i,v)])) σ=.bad:=by
    show M.bind (M.bind (bH (.ref j)) _) _ σ=_;unfold M.bind;(refine q▸?_;with_reducible rfl)
   unfold kZ;simp only[eB,Qh.N.bind,Qh.N.lift,this]
def p9(C:Ctx)(i:Nat)(b:SL)(sr:Src)(fE:Fl)(LE:aR)(cV:H)(m k:Nat)(L:aR)(σ:H):Prop:=kZ C i b sr m k L σ=.ok fE LE cV
theorem p9.next{t:Nat}{C:Ctx}{i:Nat}{b:SL}{sr:Src}{m k:Nat}{fE:Fl}{LE:aR}{cV:H}(ef:p9 C i b sr fE LE cV m k L σ):
  ∃m' r,m=m'+1/\dK sr k σ=.ok r σ/\t7 t C i b (p9 C i b sr fE LE cV m' (k+1)) (λf L σ=>f=fE/\L=LE/\σ=cV) (λ_ _=>False) L σ r:=by
 unfold p9 at ef;cases m with
|zero=>exact oB ef
|succ m=>
  obtain⟨r,e⟩:=A6 (λ_ _ _=>.inr trivial) (by rw[ef];intro q;cases q);refine⟨m,r,rfl,e,?_⟩;replace ef:=(Ar e)▸ef;cases r with
  |none=>(apply uJ ef);exact⟨rfl,rfl,rfl⟩
  |some v=>
   refine fV (Jf ef) λf ot jC gF lQ=>?_;refine .inl ⟨f,ot,jC,gF,?_⟩;clear gF;cases f with
   |next=>exact lQ
   |cont=>exact lQ
   |brk=>(apply uJ lQ);exact⟨rfl,rfl,rfl⟩
   |ret v=>(apply uJ lQ);exact⟨rfl,rfl,rfl⟩
def rE(t:Nat)(C:Ctx)(i:Nat)(b:SL)(sr:Src)(LE:aR)(cV:H)(m k:Nat)(L:aR)(σ:H):Prop:=kZ C i b sr m k L σ=.aF t LE cV
theorem rE.next{t:Nat}{C:Ctx}{i:Nat}{b:SL}{sr:Src}{m k:Nat}{LE:aR}{cV:H}(ef:rE t C i b sr LE cV m k L σ):
  ∃m' r,m=m'+1/\dK sr k σ=.ok r σ/\t7 t C i b (rE t C i b sr LE cV m' (k+1)) (λ_ _ _=>False) (λL σ=>L=LE/\σ=cV) L σ r:=by
 unfold rE at ef;cases m with
|zero=>exact rT ef
|succ m=>
  obtain⟨r,e⟩:=A6 (λ_ _ _=>.inr trivial) (by rw[ef];intro q;cases q);refine⟨m,r,rfl,e,?_⟩;replace ef:=(Ar e)▸ef;cases r with
  |none=>exact iN ef
  |some v=>
   rcases sG ef with q|⟨f,ot,jC,gF,lQ⟩
   ·exact .inr ⟨LE,cV,q,rfl,rfl⟩
   ·refine .inl ⟨f,ot,jC,gF,?_⟩;clear gF;cases f with
    |next=>exact lQ
    |cont=>exact lQ
    |brk=>exact iN lQ
    |ret v=>exact iN lQ
def rF(G:Gd)(N:List Str)(env:Env)(I:Addr)(sr:Src)(T:Nat->Nat->aR->H->Prop)(cN:Shared)(dy:List Addr)(m:Nat)(s:Shared):Prop:=
 ∃h' tk az ag k L',s={cN with heap:=h',toks:=tk}/\dA env dy cN.heap az h'/\aH G az ag h'/\bt G N env az h' L'/\dX G az h' I sr k/\T m k L' ag
theorem rF.elim{I:Addr}{sr:Src}{cN s:Shared}{dy:List Addr}{T:Nat->Nat->aR->H->Prop}{FN:Nat->Nat->aR->H->Option V->Prop}{m:Nat}{X:Nat->Shared->Prop}(h:rF G N env I sr T cN dy m s)(hT:∀m k L σ,T m k L σ->∃m' r,m=m'+1/\dK sr k σ=.ok r σ/\FN m' k L σ r)(j:∀h' tk az ag k L' m r,dA env dy cN.heap az h'->aH G az ag h'->bt G N env az h' L'->dX G az h' I sr k->dK sr k ag=.ok r ag->FN m k L' ag r->X (m+1) {cN with heap:=h',toks:=tk}):X m s:=by refine bB λXx aI=>?_;obtain⟨h',tk,az,ag,k,L',rfl,st,S,X,it,ef⟩:=h;obtain⟨m,r,rfl,e1,e2⟩:=hT _ _ _ _ ef;refine aI ?_;exact j _ _ _ _ _ _ _ _ st S X it e1 e2
theorem v3{i:Nat}{y:Str}{py:Pos}{b:SL}{body:List Stmt}{I:Addr}{sr:Src}{cN:Shared}{dy:List Addr}{R:Result->Shared->Prop}{T:Nat->Nat->aR->H->Prop}{End:Fl->aR->H->Prop}{iP:aR->H->Prop}{outer:List Env}(hh:A.handled=none)(hb:ij G n A N env b body)(eP:G.hb.get? I=none)(hI:cN.heap.get? I=none)(hx:N[i]?=some y)(hk:env.kindOf y=some .local∨env.kindOf y=some .cell)(hT:∀m k L σ,T m k L σ->∃m' r,m=m'+1/\dK sr k σ=.ok r σ/\t7 G.tg (G.ctx n) i b (T m' (k+1)) End iP L σ r)(hbad:∀L' ag,iP L' ag->Fs A env outer env.locals env dy cN.heap/\Sep outer env/\mS G n A N env b body/\∀e aC h' tk az base,dA env dy cN.heap az aC->aH G az ag aC->bt G N env az aC L'->iB (env::outer) aC base->gy base (env::outer) e (G.cA 1) (rawInt env.locals) h'->aC.UpToSlots h'->R (.error (.ref e)) {cN with heap:=h',toks:=tk})(hR:∀fl h' tk az fE LE cV,End fE LE cV->dA env dy cN.heap az h'->aH G az cV h'->bt G N env az h' LE->iH G az h' fl fE->R (.ok fl) {cN with heap:=h',toks:=tk}):
  ∀(m:Nat)(s:Shared),rF G N env I sr T cN dy m s->codeAny G.mo A (.forLoop (.Name y py) (.ref I) body [] env) R s:=by
 intro m s hinv
 let J:Nat->Shared->Prop:=λm s=>rF G N env I sr T cN dy m s
 refine codeAny_forLoop J ?_ m hinv;clear hinv m s;intro m s hJ;apply rF.elim (FN:=λm' k L σ r=>t7 G.tg (G.ctx n) i b (T m' (k+1)) End iP L σ r) hJ hT;clear hJ m s hT;intro h' tk az ag k L' m r' st S X it e4 hr;refine And.right (qO (s:={cN with heap:=h',toks:=tk}) (A:=A) hh S it e4 λxv aC fu gp hv=>?_);refine bB λXx aI=>?_;have ow:=it.own;have aG:aH G az ag aC:=S.iA (ow.jt S) eP ow.mF gp;have mQ:dA env dy cN.heap az aC:=st.other hI gp;have br:bt G N env az aC L':=X.other S ow gp;clear e4;cases r' with
|none=>
  obtain rfl:xv=none:=hv;exact aI (wpAny_execs_nil (hR .next aC fu az _ _ _ hr mQ aG br .next))
|some xl=>
  refine b8 (hv) λw bg yB it₁=>?_;clear hv;subst bg;refine aI (wpAny_assign_Name (qH br aG hx hk yB λbp cC cF b6 dB _ _=>?_));clear aI Xx;refine bB λXx aI=>?_;have xR:=mQ.trans cF;rcases hr with ⟨f,ot,jC,gF,hg⟩|⟨ot,jC,gF,hg⟩
  ·have it₂:=it₁.iZ aG br cF;refine aI (hb.at (s:={cN with heap:=bp,toks:=cC}) dB b6 gF λfl dq fY fZ dW dI gw rf=>?_);clear aI Xx gF;have oo:=xR.trans dW;cases rf with
   |next=>exact⟨m,Nat.lt_succ_self _,dq,fY,fZ,_,k+1,_,rfl,oo,dI,gw,it₂.iZ b6 dB dW,hg⟩
   |cont=>exact⟨m,Nat.lt_succ_self _,dq,fY,fZ,_,k+1,_,rfl,oo,dI,gw,it₂.iZ b6 dB dW,hg⟩
   |brk=>exact hR .next dq fY fZ _ _ _ hg oo dI gw .next
   |ret r=>exact hR _ dq fY fZ _ _ _ hg oo dI gw (.ret r)
  ·refine iY (hbad ot jC hg) λxQ sep hX yC=>?_;have kr:=xQ.iZ sep xR dB;refine aI (hX {cN with heap:=bp,toks:=cC} az ag _ ot jC outer _ _ dB b6 kr sep gF λe dq d6 jB fZ dW dI gw x=>?_);exact sP (s:={cN with heap:=d6,toks:=jB}) (kr.iZ sep dW gw) x λpP base B hd u=>yC e dq pP jB fZ base (xR.trans dW) dI gw B hd u
theorem aH.outside(S:aH G ρ σ h){a:Addr}(ha:h.objs.size<=a):G.hb.get? a=none:=by
 cases e:G.hb.get? a with
|none=>rfl
|some o=>exact absurd (Heap.lt_size (S.base _ _ e)) (Nat.not_lt.mpr ha)
theorem vm{sr:Src}{k:Nat}{et:H}(e3:eU sr σ=.ok k et):et=σ:=by
 cases sr with
|fix vs=>(apply fh e3);rfl
|live i=>
  refine bo (en e3) λvs ag e4 e5=>?_;refine b8 (eA e4) λ_ _ a9 _=>?_;clear e4;(clear e3 vm;subst a9);(apply fh e5);rfl
theorem KL{i:Nat}{src:Qh.E}{b:SL}{iter:av}{body:List Stmt}{y:Str}{py p:Pos}(Y:Ao A n)(hE:ba G n A N env src iter)(hb:ij G n A N env b body)(hns:ju iter=true)(hx:N[i]?=some y)(hk:env.kindOf y=some .local∨env.kindOf y=some .cell):
  dC G n A N env (.ki i src b) (.For (.Name y py) iter body [] p):=λs ρ σ L Q E X S h=>by
 refine wpAny_For (hE.ic X S h λxv aC tk aK ax u br aG st r h1=>?_) (lV hns);refine bo (PS.lift h1) λsr bM e2 h2=>?_;refine(j3 (s:={s with heap:=aC,toks:=tk}) aG r e2 λI bp hI hkp it=>?_).2;refine bB λXx aI=>?_;refine a5 (j3 (s:={s with heap:=aC,toks:=tk}) (A:=A) (E:=λ_ _=>True) (Q:=λ_ _=>True) aG r e2 (λ_ _ _ _ _=>trivial)) λcz _=>?_;clear e2 h1;subst cz;refine bo (PS.lift h2) λk et e3 h3=>?_;obtain rfl:=vm e3;refine kQ (PS.ok h3) λfE LE cV ef=>?_;refine aI ?_;replace h3:=ef▸h3;have g:=Step.grow aG hkp;refine v3 (outer:=[]) (cN:={s with heap:=aC,toks:=tk}) (dy:=aK) (T:=p9 (G.ctx n) i b sr fE LE cV) Y.hh hb (aG.outside hI) (Heap.get?_none_of_le hI) hx hk (λ_ _ _ _ c=>c.next) (λ_ _ q=>q.elim) (λfl h' fj az f' L' ag q st' S' X' rf=>by obtain⟨rfl,rfl,rfl⟩:=q;exact h3 fl h' fj az st' S' X' rf) (k+1) _ ⟨bp,tk,aK,_,0,L,rfl,g.toS,aG.grow hkp,br.step aG g,it,ef⟩
def pG(k:Int):M (Int×H):=λσ=>.ok (k,σ) σ
theorem KM{i:Nat}{src:Qh.E}{b:SL}{e:av}{body:List Stmt}{y:Str}{py p rp rpos:Pos}(K:cD G)(Y:Ao A n)(hE:ba G n A N env src e)(hb:ij G n A N env b body)(hx:N[i]?=some y)(hk:env.kindOf y=some .local∨env.kindOf y=some .cell)(rU:env.kindOf "range"=some .globalImplicit)(hs:starEach [e] env=[(false,eval e env)]):
  dC G n A N env (.eM i src b) (.For (.Name y py) (.Call (.Name "range" rp) [e] [] rpos) body [] p):=λs ρ σ L Q E X S h=>by
 refine bB λXx aI=>?_;refine bo (PS.lift h) λu ax e1 h1=>?_;refine bo (PS.lift h1) λk bM e2 h2=>?_;refine a5 (jm e2) λcz bg=>?_;clear e2;(clear h1;subst cz);subst bg;refine aI ?_;have hle:0<=k/\k<=1000000:=by
  by_cases hc:0<=k/\k<=1000000
  ·exact hc
  ·(replace h2:=(if_neg hc)▸h2);exact h2.elim
 replace h2:=(if_pos hle)▸h2;refine kQ (PS.ok h2) λfE LE cV ef=>?_;replace h2:=ef▸h2;refine wpAny_For (so (g:=pG) (R:=oD) (Q:=λb _=>b=(k,bM)) K hE rU hs X S ?_ λI aC bp tk cC aK et k' br aG st _ h3 hI hkp it=>?_) (lV rfl)
 ·unfold M.bind;refine e1▸?_;show aS G oD ((if 0<=k/\k<=1000000 then pG k else M.fail) bM) ρ s _;refine(if_pos hle)▸?_;rintro b h' tk az _ _ rfl
  rfl
 ·have e3:=h3.cu aG (b:=(k',et)) rfl;cases e3;have g:=Step.grow aG hkp;exact v3 (outer:=[]) (cN:={s with heap:=aC,toks:=tk}) (dy:=aK) (T:=p9 (G.ctx n) i b (.fix (dG k)) fE LE cV) Y.hh hb (aG.outside hI) (Heap.get?_none_of_le hI) hx hk (λ_ _ _ _ c=>c.next) (λ_ _ q=>q.elim) (λfl h' fj az f' L' ag q st' S' X' rf=>by obtain⟨rfl,rfl,rfl⟩:=q;exact h2 fl h' fj az (st.toS.trans st') S' X' rf) (k.toNat+1) _ ⟨bp,cC,aK,_,0,L,rfl,g.toS,aG.grow hkp,br.step aG g,it,ef⟩
end
end Qh
set_option tactic.hygienic false
namespace Qh
open PySem PySem.W PyProof.Rows
section
variable{G:Gd}{n:Nat}{A:Around}{N:List Str}{env:Env}
theorem Jg{i:Nat}{src:Qh.E}{b:SL}{e:av}{body:List Stmt}{y:Str}{py p rp rpos:Pos}(K:cD G)(Y:Ao A n)(hE:ba G n A N env src e)(hc:∀L,bD G.tg (ao (G.ctx n) src L))(hb:ij G n A N env b body)(hX:mS G n A N env b body)(hx:N[i]?=some y)(hk:env.kindOf y=some .local∨env.kindOf y=some .cell)(rU:env.kindOf "range"=some .globalImplicit)(hs:starEach [e] env=[(false,eval e env)]):
  gB G n A N env (.eM i src b) (.For (.Name y py) (.Call (.Name "range" rp) [e] [] rpos) body [] p):=λs ρ σ L L' ag outer Q E X S F sep ev px=>by
 rcases o0 ev with ⟨_,q⟩|⟨u,ax,e1,h1⟩
 ·exact no (hc L) q
 rcases o0 h1 with ⟨_,q⟩|⟨k,bM,e2,h2⟩
 ·exact no .du q
 refine a5 (jm e2) λcz bg=>?_;clear e2;(clear h1;subst cz);subst bg;have hle:0<=k/\k<=1000000:=by
  by_cases hc:0<=k/\k<=1000000
  ·exact hc
  ·(replace h2:=(if_neg hc)▸h2);exact rT h2
 replace h2:=(if_pos hle)▸h2;refine wpAny_For (so (g:=pG) (R:=oD) (Q:=λb _=>b=(k,bM)) K hE rU hs X S ?_ λI aC bp tk cC aK et k' br aG st _ h3 hI hkp it=>?_) (lV rfl)
 ·unfold M.bind;refine e1▸?_;show aS G oD ((if 0<=k/\k<=1000000 then pG k else M.fail) bM) ρ s _;refine(if_pos hle)▸?_;rintro b h' tk az _ _ rfl
  rfl
 ·have e3:=h3.cu aG (b:=(k',et)) rfl;cases e3;have g:=Step.grow aG hkp;exact v3 (outer:=outer) (cN:={s with heap:=aC,toks:=tk}) (dy:=aK) (T:=rE G.tg (G.ctx n) i b (.fix (dG k)) L' ag) Y.hh hb (aG.outside hI) (Heap.get?_none_of_le hI) hx hk (λ_ _ _ _ c=>c.next)
   (λQD cp q=>by
    obtain⟨rfl,rfl⟩:=q
    exact⟨F.step st,sep,hX,λe dq d6 jB pF base jA jJ kt B hd u=>I5 B hd u λpP x=>px e dq pP jB pF (st.toS.trans jA) jJ kt x⟩)
   (λ_ _ _ _ _ _ _ q=>q.elim) (k.toNat+1) _ ⟨bp,cC,aK,_,0,L,rfl,g.toS,aG.grow hkp,br.step aG g,it,h2⟩
end
end Qh
namespace Qh
open PySem PyProof.Rows
theorem zj(its:Array Value)(n i:Nat)(x:Value):Obj.mapSeq (·.setIfInBounds i x) {cls:=.type "list",data:=.seq its n}={cls:=.type "list",data:=.seq (its.setIfInBounds i x) n}:=by simp[Obj.mapSeq]
theorem GN{prog:Program}{w:World}{A:Around}{E:bG}{s:Shared}{l:Addr}{items:Array Value}{k:Int}{t:Tok}(hl:s.heap.PlainList l items)(h0:0<=k)(hfit:k<2^63)(hn:k<items.size)(hQ:∀h',h'.PlainList l (items.setIfInBounds k.toNat v)->Heap.SameBut l s.heap h'->Q () {s with heap:=h'}):
  wpAny (model prog w) A (setItem (.ref l) (.int k t) v) Q E s:=by
 refine bZ (id hl) λne ho=>?_;have hl':=hl.isList;unfold setItem
 try with_reducible refine wpAny_holding ?_
 first|refine wpAny_bind (wpAny_pure ?_)|skip
 refine wpAny_bind (wpAny_sequenceKey hl'.typeIs (by decide) ?_)
 refine wpAny_bind (wpAny_callSpecial?_slot hl'.typeIs slot_list_setitem
  (wpAny_call_entry slot_list_setitem hl'.typeIs entry_list_setitem ?_ (args_list_setitem _ _ _)))
 show wpAny _ _ (Builtin.List.listSubscript? (.int k t) >>= _) _ _ s;refine wpAny_bind (wpAny_listSubscript_int (fitsIndex_of h0 hfit) ?_);clear hfit;obtain⟨j,rfl⟩:=Int.eq_ofNat_of_zero_le h0;have hj:j<items.size:=by lia
 show wpAny _ _ ((seqItemAt l j >>= λr=>pure (r.map (j,·))) >>= _) _ _ s;refine wpAny_bind (wpAny_bind (wpAny_seqItemAt ho rfl (wpAny_pure ?_)));rw[(Array.getElem?_eq_getElem hj)];show wpAny _ _ (setSeqItemAt l j v >>= _) _ _ s;have D2:(s.heap.update l (Obj.mapSeq (·.setIfInBounds j v))).PlainList l (items.setIfInBounds j v):=
  ⟨ne,by rw[Heap.get?_update_self _ ho (by rw[zj];rfl),zj]⟩
 refine wpAny_bind (wpAny_setSeqItemAt ho rfl ?_)
 first
  |exact wpAny_bind (wpAny_pure (wpAny_pure ⟨.none,rfl,wpAny_pure (hQ _ D2 (Heap.SameBut.update ..))⟩))
  |exact wpAny_pure ⟨.none,rfl,wpAny_pure (hQ _ D2 (Heap.SameBut.update ..))⟩
section
variable{G:Gd}{n:Nat}{A:Around}{N:List Str}{env:Env}{s:Shared}{ρ az:List Addr}{σ ag:H}{h h':Heap}{L:aR}{E:bG}
theorem v7(S:aH G ρ σ h)(ha:a∈ρ)(hk:∀b o,b≠a->h.get? b=some o->h'.get? b=some o):∀b xs,IsTup h b xs->IsTup h' b xs:=λb xs t=>by
 refine aO (t) λob e c=>?_;exact⟨ob,hk b ob (λq=>(S.aB t) (q▸ha)) e,c⟩
theorem Hq(h1:kvs.map (·.1)=es.map (·.1))(h2:bK G ρ h (kvs.map (·.2)) (es.map (·.2)))(r:Rel G ρ h v u)(k:Str):
  (stored kvs k v).map (·.1)=(bc es k u).map (·.1)/\bK G ρ h ((stored kvs k v).map (·.2)) ((bc es k u).map (·.2)):=by
 have hany:kvs.any (λkv=>kv.1=k)=es.any (λe=>e.1=k):=by
  have e1:kvs.any (λkv=>decide (kv.1=k))=(kvs.map (·.1)).any λy=>decide (y=k):=by(refine(List.any_map)▸?_);rfl
  have e2:es.any (λkv=>decide (kv.1=k))=(es.map (·.1)).any λy=>decide (y=k):=by(refine(List.any_map)▸?_);rfl
  refine e1▸?_;refine e2▸?_;refine h1▸?_;with_reducible rfl
 unfold stored bc;refine hany.symm▸?_
 by_cases hc:es.any (λe=>e.1=k)=true
 ·refine(if_pos hc)▸?_;refine(if_pos hc)▸?_;clear hc hany
  induction kvs generalizing es with
  |nil=>
   clear h2;cases es with
   |nil=>exact⟨rfl,.nil⟩
   |cons e es=>cases h1
  |cons kv kvs ih=>
   cases es with
   |nil=>cases h1
   |cons e es=>
    simp only[List.map_cons,List.cons.injEq] at h1 h2;cases h2 with
    |cons hr h2=>
     refine a5 (ih h1.2 h2) λi1 i2=>?_;have q:kv.1=e.1:=h1.1;simp only[List.map_cons]
     by_cases hk:e.1=k
     ·simp only[q,hk,if_true];exact⟨by(refine i1▸?_;with_reducible rfl),.cons r i2⟩
     ·simp only[q,hk,if_false];refine⟨?_,.cons hr i2⟩;refine i1▸?_;with_reducible rfl
 ·refine(if_neg hc)▸?_;refine(if_neg hc)▸?_;simp only[List.map_append,List.map_cons,List.map_nil];exact⟨by(refine h1▸?_;with_reducible rfl),h2.append (.cons r .nil)⟩
theorem Hr{o i e:Value}{uo ui ue:V}(S:aH G ρ σ s.heap)(ro:Rel G ρ s.heap o uo)(ri:Rel G ρ s.heap i ui)(re:Rel G ρ s.heap e ue)(h:PU G (iu uo ui ue σ) ρ s Q):wpAny G.mo A (setItem o i e) Q E s:=by
 cases uo with
|ref j=>
  cases ui with
  |int k=>
   refine bo (aS.bind h) λvs ax e1 h1=>?_;have zz:=eA e1;clear e1;obtain⟨j',q,rfl,e2⟩:=zz;refine iO q λaP=>?_;subst aP;refine a5 (aS.ite h1) λhc h2=>?_;have zz:=S.xj e2 ro;clear ro;obtain⟨a,xs,rfl,hi,hl,rl⟩:=zz;(apply eH ri;intro _);have hlen:=rl.length;have hj:=(List.getElem?_eq_some_iff.mp e2).1;refine GN hl hc.1 ?_ (by(refine(List.size_toArray)▸?_;refine hlen▸?_);exact hc.2.1) λh' hl' hs'=>?_
   ·have h1:=hc.2.1;have h2:=hc.2.2;have:aM=1000000:=rfl;exact lI 0x7007007007007007007007007007a0184c04900904904904920534184c14e346007247d078ce [_,_,_] rfl h1 (Int.ofNat_le.mpr h2) (congrArg Int.ofNat this)
   ·have hkp:∀b o,b≠a->s.heap.get? b=some o->h'.get? b=some o:=λb o hb e=>(hs'.2 b hb).trans e;refine a5 (S.turn hi hkp (o:=.ah (vs.set k.toNat ue)) ⟨xs.set k.toNat e,by simpa using hl',(rl.set k.toNat re).mono (v7 S (List.mem_of_getElem? hi) hkp) λ_ _ e=>e⟩) λS' st=>?_;exact h2 () h' s.toks ρ st S' trivial
  |str k=>
   obtain⟨ob,ax,e1,h1⟩:=aS.bind h;have zz:=nR e1;clear e1;obtain⟨rfl,e2⟩:=zz;cases ob with
   |ay es=>
    refine a5 (aS.ite h1) λhc h2=>?_;refine mJ (S.dict e2 ro) λa kvs a9 hi hd hk1 hk2=>?_;clear ro;subst a9;(apply km ri;intro _);have hlen:kvs.length=es.length:=by have:=congrArg List.length hk1;simpa using this
    refine wpAny_setItem_pairs (strKind_is _ _ _ _) hd (λh' hd' hs'=>?_) (by(refine hlen▸?_);exact iR hc);have hkp:∀b o,b≠a->s.heap.get? b=some o->h'.get? b=some o:=λb o hb e=>(hs'.2 b hb).trans e;refine a5 (Hq hk1 hk2 re k) λi1 i2=>?_;refine a5 (S.turn hi hkp (o:=.ay (bc es k ue)) ⟨_,hd',i1,i2.mono (v7 S (List.mem_of_getElem? hi) hkp) λ_ _ e=>e⟩) λS' st=>?_;exact h2 () h' (s.toks+1) ρ st S' trivial
   |ah vs=>exact h1.elim
   |inst c d=>exact h1.elim
   |cU n=>exact h1.elim
  |_=>exact h.elim
|_=>exact h.elim
theorem As(S:aH G ρ σ s.heap)(ro:Rel G ρ s.heap o uo)(re:Rel G ρ s.heap e ue)(h:PU G (qM uo ue σ) ρ s λ_ s'=>Q .none s'):wpAny G.mo A (call (.builtin "list.append") [o,e]) Q E s:=by
 cases uo with
|ref j=>
  refine bB λXx aI=>?_;refine bo (aS.bind h) λvs ax e1 h1=>?_;refine b8 (eA e1) λj' q a9 e2=>?_;clear e1;(clear h As;subst a9);refine iO q λaP=>?_;subst aP;obtain⟨hc,h2⟩:=aS.ite h1;refine fy (S.xj e2 ro) λa xs a9 hi hl rl=>?_;clear ro;subst a9;refine aI ?_;refine wpAny_list_append_plain hl (λh' hl' hs'=>?_) (by(refine(List.size_toArray)▸?_;refine(rl.length)▸?_);exact iR hc);have hkp:∀b o,b≠a->s.heap.get? b=some o->h'.get? b=some o:=λb o hb e=>(hs'.2 b hb).trans e;refine a5 (S.turn hi hkp (o:=.ah (vs++[ue])) ⟨xs++[e],by simpa using hl',(rl.append (.cons re .nil)).mono (v7 S (List.mem_of_getElem? hi) hkp) λ_ _ e=>e⟩) λS' st=>?_;exact h2 () h' s.toks ρ st S' trivial
|_=>exact h.elim
end
end Qh
namespace Qh
open PySem PyProof.Rows
section
variable{G:Gd}{n:Nat}{A:Around}{N:List Str}{env:Env}
theorem PS.unit{m:M Unit}{f:Unit->Qh.N Fl}{L:aR}{σ:H}{ρ:List Addr}{s:Shared}{Q:Flow->Shared->Prop}{K:Unit->Shared->Prop}(h:PS G N env (Qh.N.bind (Qh.N.lift λ_=>m) f L σ) ρ s Q)(X:bt G N env ρ s.heap L)(S:aH G ρ σ s.heap)(k:∀h' tk az ag,aH G az ag h'->bt G N env az h' L->PS G N env (f () L ag) az {s with heap:=h',toks:=tk} Q->K () {s with heap:=h',toks:=tk}):PU G (m σ) ρ s K:=by refine bo (PS.lift h) λu ax e1 h1=>?_;refine e1▸?_;intro _ h' tk az st S' _;exact k h' tk az ax S' (X.step S st) (h1.step st.toS)
theorem KN{o i e:Qh.E}{o' i' e':av}{p p':Pos}(h1:ba G n A N env e e')(h2:ba G n A N env o o')(h3:ba G n A N env i i')(hs:swapsWith e' (some (.Subscript o' i' p')) p.line env=pure false):
  dC G n A N env (.eX o i e) (.Assign [.Subscript o' i' p'] e' p):=λs ρ σ L Q E X S h=>
 wpAny_Assign_Subscript (h1.ic X S h λv aC tk aK ax u br aG st r h'=>h2.ic br aG h' λPn bp cC dQ bM ew dB b6 cF pQ h''=>h3.ic dB b6 h'' λRM dq fY fZ et xU gw dI dW Po h'''=>
  Hr dI (pQ.step dW b6) Po ((r.step cF aG).step dW b6) (PS.unit h''' gw dI λd6 jB pF jC jJ kt hq=>hq.cu jJ kt .next)) hs
theorem H5{o e:Qh.E}{o' e':av}{ap p p2:Pos}(h1:ba G n A N env o o')(h2:ba G n A N env e e')(hb:jV o'=true)(hline:(ap.endLine==p.line)=true)(hi:interactive env=false)(hs:starEach [e'] env=[(false,eval e' env)]):dC G n A N env (.append o e) (.Expr (.Call (.Attribute o' "append" ap) [e'] [] p) p2):=λs ρ σ L Q E X S h=>by
 refine wpAny_Expr_any (Call_method1 (vx hb) hs hline (h1.ic X S h λy aC tk aK ax u br aG st r h'=>?_)) hi rfl;refine bB λXx aI=>?_;refine bo (PS.lift h') λvs bM e1 h''=>?_;refine b8 (eA e1) λj bg a9 e2=>?_;clear e1;(clear h';subst bg);subst a9;refine fy (aG.xj (s:={s with heap:=aC,toks:=tk}) e2 r) λa xs a9 hj hl rl=>?_;subst a9;refine aI ?_;refine⟨"list",_,PySem.F.plainAttrs_list,PySem.slot_list_append,PySem.type_list_append,hl.isList.typeIs,(λb q=>by cases q;obtain⟨q,ho⟩:=hl;exact⟨_,ho,rfl⟩),?_⟩;have:=callWith_method1 (first:=[Value.ref a]) (id:="list.append") (pos:=p) (env:=env) (e:=e') (rest:=[]) (M:=model G.prog G.w) (A:=A) (Q:=λ_=>Q .next) (E:=E) (s:={s with heap:=aC,toks:=tk})
  (args_cons (h2.ic br aG h'' λy' bp cC dQ et u' dB b6 cF r' hq=>args_nil (As b6 (r.step cF aG) r' (PS.unit hq dB b6 λd6 jB pF jC jJ kt hr=>hr.cu jJ kt .next))) hs) hs rfl
 replace this:=hs▸this;exact this
theorem bt.KO(X:bt G N env ρ h L)(hL:env.locals≠C)(hc:∀y c,env.kindOf y=some .cell->env.cells.lookup y=some c->c≠C)(tu:∀a xs,IsTup h a xs->IsTup h' a xs)(hk:∀b o,b≠C->h.get? b=some o->h'.get? b=some o):bt G N env ρ h' L:=by
 refine aO (X.ns) λm hn hm=>?_;refine⟨X.kind,X.glob,X.blt,⟨m,hn.at λo e=>hk _ _ hL e,λi u y e1 e2 e3=>?_⟩,λy hy=>?_,X.has,X.apart,X.nodup,X.jH,X.jI,X.newL,X.iG⟩
 ·refine aO (hm i u y e1 e2 e3) λv q r=>?_;exact⟨v,q,r.mono tu λ_ _ e=>e⟩
 ·refine bB λXx aI=>?_;obtain⟨c,ov,hcl,⟨o,ho,hd⟩,hv⟩:=X.cl y hy;refine aI ?_;refine⟨c,ov,hcl,⟨o,hk _ _ (hc y c hy hcl) ho,hd⟩,λi u e1 e2=>?_⟩;refine aO (hv i u e1 e2) λv q r=>?_;exact⟨v,q,r.mono tu λ_ _ e=>e⟩
theorem zR{elt' iter:av}{x y:Str}{px pos py:Pos}{ifs:List av}{scope:Scope}{v i:Nat}{bk:List Nat}{cl:List (Str×Addr)}{I:Addr}{sr:Src}{f:V->M (Option V)}{Q:Flow->Shared->Prop}{E:bG}{bw:Shared}{aK:List Addr}{ax:H}{L:aR}{B cC:Nat}{bp:Heap}(hh:A.handled=none)(br:bt G N env aK bw.heap L)(aG:aH G aK ax bw.heap)(Z:gQ N env scope x v bk)(hcl:∀y,(y,NameKind.free)∈scope.names->cl.lookup y=env.cells.lookup y)(hI:bw.heap.objs.size<=I)(hk:∀b o,bw.heap.get? b=some o->bp.get? b=some o)(it:dX G aK bp I sr 0)(hB:B<=aM+1)(hturn:∀C it,TurnOk G A N (compEnvC scope cl C env) (bV (cK L bk) v it) ifs elt' (f it))(hy:N[i]?=some y)(rV:env.kindOf y=some .local∨env.kindOf y=some .cell){vL:V}{ag:H}(ev:M.bind (di sr f B 0) (λvs=>cY (.ah vs)) ax=.ok vL ag)(h:PS G N env (Qh.N.bind (Qh.N.put i vL) (λ_=>Qh.N.pure .next) L ag) aK bw Q):
  wpAny G.mo A (newList []) (λacc gV=>wpAny G.mo A (newFunctionEnv scope env.globals cl [] env.qual none .none (some env)) (λcenv oq=>
   codeAny G.mo A (.compStart (.ListComp elt' [⟨.Name x px,iter,ifs,0⟩] scope pos) 0 (.ref I) acc {cenv with scope:=relabel scope env}) (compPost G.mo A E (some (assign (.Name y py) env)) (λ_=>Q .next) acc cenv.locals) oq) E gV) E {bw with heap:=bp,toks:=cC}:=by
 refine bB λXx aI=>?_;refine bo (en ev) λall cV ec e2=>?_;refine fg e2 λaP cL=>?_;subst aP;subst cL;refine aI ?_;have eP:∀a,bw.heap.get? a=none->G.hb.get? a=none:=λa ha=>by
  cases e:G.hb.get? a with
  |none=>rfl
  |some o=>(replace ha:=(aG.base _ _ e)▸ha);exact d9 ha
 refine Aq hh br aG Z hcl hI hk it hB ec hturn λD C h' tk az xs mC hD hC hDC st S hl rl lP g0 hns=>?_;have D3:∀a o,bw.heap.get? a=some o->a≠C:=λa o e q=>by subst q;(replace e:=hC▸e);exact bL e
 have yG:env.locals≠C:=by obtain⟨m,⟨o,_,_,ho,_⟩,_⟩:=br.ns;exact D3 _ _ ho
 have hcC:∀y c,env.kindOf y=some .cell->env.cells.lookup y=some c->c≠C:=λy c h1 h2=>by
  refine bB λXx aI=>?_;obtain⟨c',ov,hc',⟨o,ho,_⟩,_⟩:=br.cl y h1;refine aI ?_;(replace hc':=h2▸hc');(refine dE hc' λaP=>?_;subst aP);exact D3 _ _ ho
 refine a5 (S.adopt lP (eP D hD) (o:=.ah all) ⟨xs,hl,rl.mono (λ_ _ t=>t) λi b e=>by rw[List.getElem?_append_left (List.getElem?_eq_some_iff.mp e).1];exact e⟩) λS' hi=>?_;have st':=st.adopt hD;have Pp:C∉az++[D]:=λq=>by
  rcases List.mem_append.mp q with q|q
  ·exact g0 q
  ·simp at q;exact hDC q.symm
 show wpAny _ A (assign (.Name y py) env (.ref D)) _ E _;refine wpAny_assign_Name (qH (br.step aG st') S' hy rV (.ref hi) λdq fY dW dI gw _ kp=>⟨mC,hns.at λo e=>kp C o (Ne.symm yG) (λz hz q=>hcC z C hz q rfl) e,λd6 xo=>?_⟩);have gG:∀b o,b≠C->dq.get? b=some o->d6.get? b=some o:=λb o hb e=>(xo.2 b hb).trans e;have m8:=nB (hns.at λo e=>kp C o (Ne.symm yG) (λz hz q=>hcC z C hz q rfl) e);have tu:∀a ys,IsTup dq a ys->IsTup d6 a ys:=λa ys t=>by
  have:=m8 a ys t;obtain⟨o,e,c⟩:=t;exact⟨o,gG a o this e,c⟩
 exact h .next d6 fY _ ((st'.toS.trans dW).other hC gG) (dI.iA Pp (eP C hC) m8 gG) (gw.KO yG hcC tu gG) .next
theorem zl{y:Str}{py pos p p':Pos}{elt':av}{x:Str}{px:Pos}{iter:av}{ifs:List av}{scope:Scope}{Q:Flow->Shared->Prop}{E:bG}(hsw:swapsWith (.ListComp elt' [⟨.Name x px,iter,ifs,0⟩] scope pos) (some (.Name y py)) p.line env=pure true)(h:wpAny G.mo A (comprehension (.ListComp elt' [⟨.Name x px,iter,ifs,0⟩] scope pos) scope env (firstIterPos [⟨.Name x px,iter,ifs,0⟩] pos) (newList []) (firstAsync [⟨.Name x px,iter,ifs,0⟩]) (firstIter [⟨.Name x px,iter,ifs,0⟩] env) (some (assign (.Name y py) env))) (λ_=>Q .next) E s):
  wpAny G.mo A (exec (.Assign [.Name y py] (.ListComp elt' [⟨.Name x px,iter,ifs,0⟩] scope pos) p) env) Q E s:=by refine(exec_Assign_Name_used y py _ p hsw)▸?_;refine wpAny_bind (wpAny_standAt (wpAny_bind ?_));show wpAny _ A (do let _ ←comprehension _ _ _ _ _ _ _ _;pure ()) _ E s;exact wpAny_bind (wpAny_mono h (λ_ _ q=>wpAny_pure (wpAny_pure q)) λ_ _ e=>e)
theorem zE{kY src:E}{elt' iter:av}{x y:Str}{px pos py p:Pos}{ifs:List av}{scope:Scope}{v i:Nat}{bk:List Nat}{f:aR->V->M (Option V)}(Y:Ao A n)(hE:ba G n A N env src iter)(Z:gQ N env scope x v bk)(hns:ju iter=true)(hev:∀L σ,ao (G.ctx n) kY L σ=M.bind (ao (G.ctx n) src L) (λx=>M.bind (srcOf x) λsr=>M.bind (eU sr) λk=>if k<=aM then M.bind (di sr (λit=>f (bV (cK L bk) v it) it) (k+1) 0) λvs=>cY (.ah vs) else M.fail) σ)(hturn:∀cl C L it,(∀y,(y,NameKind.free)∈scope.names->cl.lookup y=env.cells.lookup y)->TurnOk G A N (compEnvC scope cl C env) L ifs elt' (f L it))(hy:N[i]?=some y)(rV:env.kindOf y=some .local∨env.kindOf y=some .cell)(hsw:swapsWith (.ListComp elt' [⟨.Name x px,iter,ifs,0⟩] scope pos) (some (.Name y py)) p.line env=pure true):
  dC G n A N env (.aL i kY) (.Assign [.Name y py] (.ListComp elt' [⟨.Name x px,iter,ifs,0⟩] scope pos) p):=λs ρ σ L Q E X S h=>by
 refine bo (PS.lift h) λvL ag ev h0=>?_;rw[hev] at ev;refine bB λXx aI=>?_;refine bo (en ev) λu ax e1 e2=>?_;have kO:∀y∈scope.names,y.2=.free->(env.cells.lookup y.1).isSome=true:=λy hy hf=>by
  refine bo (X.cl y.1 (Z.free y hy hf)) λc _ hc _=>?_
  (refine hc▸?_);rfl
 obtain⟨cl,hclos,hcl⟩:=qp kO;refine aI ?_;refine zl (p':=py) hsw (wpAny_comprehension_free rfl (lV hns) hclos Z.kind Z.locs (hE s ρ σ L _ E X S ?_));refine e1▸?_;intro xv aC tk aK st aG r;refine bo (en e2) λsr bM e3 e4=>?_;refine(j3 (s:={s with heap:=aC,toks:=tk}) aG r e3 λI bp hI hk it=>?_).2;refine bB λXx aI=>?_;obtain⟨rfl,_⟩:=j3 (s:={s with heap:=aC,toks:=tk}) (A:=A) (E:=λ_ _=>True) (Q:=λ_ _=>True) aG r e3 (λ_ _ _ _ _=>trivial);refine bo (en e4) λk et e5 e6=>?_;obtain rfl:=vm e5;refine aI ?_;have hle:k<=aM:=by
  by_cases hc:k<=aM
  ·exact hc
  ·(replace e6:=(if_neg hc)▸e6);exact cR e6
 replace e6:=(if_pos hle)▸e6;exact zR Y.hh (X.step S st) aG Z hcl hI hk it (lN 0x6134184c04904920534c [_,_] rfl hle) (λC it=>hturn cl C _ it hcl) hy rV e6 (h0.step st.toS)
theorem G1{elt src:E}{elt' e:av}{x y:Str}{px pos py p rp rpos:Pos}(K:cD G)(Y:Ao A n)(hE:ba G n A N env src e)(Z:gQ N env scope x v bk)(rU:env.kindOf "range"=some .globalImplicit)(hs:starEach [e] env=[(false,eval e env)])(hturn:∀cl C,(∀y,(y,NameKind.free)∈scope.names->cl.lookup y=env.cells.lookup y)->ba G n A N (compEnvC scope cl C env) elt elt')(hy:N[i]?=some y)(rV:env.kindOf y=some .local∨env.kindOf y=some .cell)(hsw:swapsWith (.ListComp elt' [⟨.Name x px,.Call (.Name "range" rp) [e] [] rpos,[],0⟩] scope pos) (some (.Name y py)) p.line env=pure true):
  dC G n A N env (.aL i (.fB elt v bk src)) (.Assign [.Name y py] (.ListComp elt' [⟨.Name x px,.Call (.Name "range" rp) [e] [] rpos,[],0⟩] scope pos) p):=λs ρ σ L Q E X S h=>by
 refine bB λXx aI=>?_;refine bo (PS.lift h) λvL ag ev h0=>?_;refine bo (en ev) λu ax e1 e2=>?_;refine bo (en e2) λk bM e3 e4=>?_;refine a5 (jm e3) λcz bg=>?_;clear e3;(clear e2;subst cz);subst bg;refine aI ?_;have hle:0<=k/\k<=1000000:=by
  by_cases hc:0<=k/\k<=1000000
  ·exact hc
  ·(replace e4:=(if_neg hc)▸e4);exact cR e4
 replace e4:=(if_pos hle)▸e4;have kO:∀y∈scope.names,y.2=.free->(env.cells.lookup y.1).isSome=true:=λy hy hf=>by
  refine bo (X.cl y.1 (Z.free y hy hf)) λc _ hc _=>?_
  (refine hc▸?_);rfl
 refine aO (qp kO) λcl hclos hcl=>?_;refine zl (p':=py) hsw (wpAny_comprehension_free rfl (lV rfl) hclos Z.kind Z.locs (so (g:=pG) (R:=oD) (Q:=λb _=>b=(k,bM)) K hE rU hs X S ?_ λI aC bp tk cC aK et k' br aG st _ h3 hI hkp it=>?_))
 ·unfold M.bind;refine e1▸?_;show aS G oD ((if 0<=k/\k<=1000000 then pG k else M.fail) bM) ρ s _;refine(if_pos hle)▸?_;rintro b h' tk az _ _ rfl
  rfl
 ·have e5:=h3.cu aG rfl;cases e5;exact zR (bw:={s with heap:=aC,toks:=tk}) Y.hh br aG Z hcl hI hkp it (by have:aM=1000000:=rfl;lia) (λC it=>qq (hturn cl C hcl)) hy rV e4 (h0.step st.toS)
end
end Qh
namespace Qh
open PySem PyProof.Rows
section
variable{G:Gd}{n:Nat}{A:Around}{N:List Str}{env:Env}{s:Shared}{ρ az:List Addr}{σ ag:H}{h h':Heap}{L:aR}{E:bG}{Q:Flow->Shared->Prop}
theorem Jh{c:Nat}{m:Str}{st:Stmt}:dC G n A N env (.raise c m) st:=λs ρ σ L Q E X S h=>h.elim
theorem BA{I:Addr}{sr:Src}{us:List V}(hh:A.handled=none)(eP:G.hb.get? I=none)(hs:∀j,dK sr j σ=.ok us[j]? σ):
  ∀(m k:Nat)(s:Shared)(Q:List Value->Shared->Prop),k+m=us.length->aH G ρ σ s.heap->dX G ρ s.heap I sr k->
   (∀vs h' tk,(∀b o,b≠I->s.heap.get? b=some o->h'.get? b=some o)->bK G ρ h' vs (us.drop k)->dX G ρ h' I sr us.length->Q vs {s with heap:=h',toks:=tk})->
   wpAny G.mo A (draw (.ref I) m) Q E s
|0,k,s,Q,hk,S,it,hQ=>by
  have hk':k=us.length:=cj (lN 0x34c04900904920634180c [_,_] rfl hk) (lN 0x34c04904920630180d [_,_] rfl hk);clear hk;subst hk';refine wpAny_pure (hQ [] s.heap s.toks (λ_ _ _ e=>e) ?_ it)
  (refine(List.drop_eq_nil_of_le (aQ _)).symm▸?_);exact .nil
|m+1,k,s,Q,hk,S,it,hQ=>by
  have hlt:k<us.length:=lN 0x34184c04900904920634106138c [_,_,_] rfl hk;show wpAny _ _ (pyNext (.ref I) >>= _) Q E s;have E4:=hs k;rw[List.getElem?_eq_getElem hlt] at E4;refine wpAny_bind ((qO hh S it E4 λx aC fu gp hv=>?_).2);refine b8 (hv) λv bg r it₁=>?_;clear hv;subst bg;have ow:=it.own;refine wpAny_bind (wpAny_holding (BA hh eP hs m (k+1) {s with heap:=aC,toks:=fu} _ (cj (lN 0x38134184c04900904920638106134c [_,_,_] rfl hk) (lN 0x4e06134c04904920630106138d [_,_,_] rfl hk)) (S.iA (ow.jt S) eP ow.mF gp) it₁ λvs bp cC gR rl it₂=>wpAny_pure ?_));have Om:=it₁.own;refine hQ (v::vs) bp cC (λb o hb e=>gR b o hb (gp b o hb e)) ?_ it₂;refine(List.drop_eq_getElem_cons hlt)▸?_;exact .cons (r.mono (λa ys t=>by have:=Om.mF a ys t;obtain⟨o,e,c⟩:=t;exact⟨o,gR a o this e,c⟩) λ_ _ e=>e) rl
theorem GK{x:Value}{u:V}{sr:Src}{us:List V}{T id:String}(hh:A.handled=none)(S:aH G ρ σ s.heap)(X:bt G N env ρ s.heap L)(rx:Rel G ρ s.heap x u)(ou:srcOf u σ=.ok sr σ)(g7:∀j,dK sr j σ=.ok us[j]? σ)(hty:s.TypeIs x T)(hsl:Slot T "__iter__" id){Q:List Value->Shared->Prop}(hQ:∀vs h' tk,Step ρ s.heap ρ h'->aH G ρ σ h'->bt G N env ρ h' L->bK G ρ h' vs us->Q vs {s with heap:=h',toks:=tk}):wpAny G.mo A (unpackItems x us.length none) Q E s:=by
 unfold unpackItems;refine wpAny_bind ?_;unfold notIterableAtAll;refine wpAny_bind (wpAny_specialOf hty hsl.lookup ?_);refine wpAny_pure ?_;simp only[Bool.false_eq_true,if_false];refine wpAny_bind (wpAny_holding ((j3 S rx ou λI aC hI gp it=>?_).2));have aG:=S.grow gp;have eP:=S.outside hI;refine wpAny_bind (wpAny_holding (BA hh eP g7 us.length 0 {s with heap:=aC} _ (cj (lN 825917182536 [_] rfl) (lN 82144399944 [_] rfl)) aG it λvs bp cC gR rl it₂=>?_));replace rl:=(List.drop_zero)▸rl;rw[if_neg (by(refine(rl.length)▸?_);exact Nat.not_lt.mpr (lN 204477000 [_] rfl))];have ow:=it.own;have b6:aH G ρ σ bp:=aG.iA (ow.jt aG) eP ow.mF gR;have he:=g7 us.length;rw[List.getElem?_eq_none (aQ _)] at he;refine wpAny_bind (wpAny_holding ((qO hh b6 it₂ he λx dq fY t8 hv=>?_).2));subst (hv);simp only[Option.isSome_none,Bool.false_eq_true,if_false];have rk:=it₂.own;have dI:aH G ρ σ dq:=b6.iA (rk.jt b6) eP rk.mF t8;have QE:s.heap.get? I=none:=Heap.get?_none_of_le hI;refine wpAny_pure (hQ vs dq fY ⟨⟨[],by simp⟩,λa ha=>.inl ha,λa o e _=>?_⟩ dI (((X.step S (Step.grow S gp)).other aG ow gR).other b6 rk t8) (rl.mono (λa ys t=>by have:=rk.mF a ys t;obtain⟨o,e,c⟩:=t;exact⟨o,t8 a o this e,c⟩) λ_ _ e=>e));have hne:a≠I:=λq=>by(clear rk ow it₂ eP it hI;subst q);(replace e:=QE▸e);exact bL e
 exact t8 a o hne (gR a o hne (gp a o e))
inductive jK(N:List Str)(env:Env):List Nat->List av->Prop
|nil:jK N env [] []
|cons {i:Nat}{y:Str}{p:Pos}{is:List Nat}{l:List av}:N[i]?=some y->(env.kindOf y=some .local∨env.kindOf y=some .cell)->jK N env is l->jK N env (i::is) (.Name y p::l)
theorem jK.len(T:jK N env is l):(assignEach l env).length=is.length:=by
 induction T with
|nil=>rfl
|cons _ _ _ ih=>exact congrArg (·+1) ih
theorem jK.star(T:jK N env is l):(assignEach l env).findIdx? (·.1)=none:=by
 rw[List.findIdx?_eq_none_iff]
 induction T with
|nil=>intro x hx;cases hx
|cons _ _ _ ih=>
  intro x hx;rcases List.mem_cons.mp hx with rfl|q
  ·rfl
  ·exact ih x q
theorem KP(T:jK N env is l):∀(us:List V)(vs:List Value)(s:Shared)(L L':aR)(K:Unit->Shared->Prop),Qh.N.fM is us L σ=.ok () L' σ->bt G N env ρ s.heap L->aH G ρ σ s.heap->bK G ρ s.heap vs us->
  (∀h' tk,dA env ρ s.heap ρ h'->aH G ρ σ h'->bt G N env ρ h' L'->K () {s with heap:=h',toks:=tk})->wpAny G.mo A (assignInOrder ((assignEach l env).map (·.2)) vs) K E s:=by
 induction T with
|nil=>
  intro us vs s L L' K e X S rl hK;cases us with
  |nil=>cases e;(apply Oe rl);exact wpAny_pure (hK s.heap s.toks (dA.refl _ _ _) S X)
  |cons u us=>exact oB e
|@cons i y p is l hy hk T ih=>
  intro us vs s L L' K e X S rl hK;cases us with
  |nil=>exact oB e
  |cons u us=>
   cases rl with
   |@cons v _ vs _ r rl=>
    show wpAny _ _ (do holding vs (assign (.Name y p) env v);assignInOrder ((assignEach l env).map (·.2)) vs) K E s;refine wpAny_bind (wpAny_holding (wpAny_assign_Name (qH X S hy hk r λaC fu mQ aG br RO _=>?_)));refine ih us vs {s with heap:=aC,toks:=fu} _ _ _ (e) br aG (rl.iZ mQ S X) λbp cC cF b6 dB=>hK bp cC (mQ.trans cF) b6 dB
theorem H6:∀{L pR:aR}{bM:H},Qh.N.fM is us L σ=.ok () pR bM->bM=σ/\us.length=is.length:=by
 induction is generalizing us with
|nil=>
  intro L pR bM e;cases us with
  |nil=>cases e;exact⟨rfl,rfl⟩
  |cons u us=>exact oB e
|cons i is ih=>
  intro L pR bM e;cases us with
  |nil=>exact oB e
  |cons u us=>
   obtain⟨h1,h2⟩:=ih (e);exact⟨h1,congrArg (·+1) h2⟩
theorem Cb(Y:Ao A n)(hE:ba G n A N env x ve)(T:jK N env is l)(hs:swapsWithSole [.Tuple l k tp] ve p.line env=pure false)(hw:swappedStores [.Tuple l k tp] ve env=pure none):dC G n A N env (.gY is x) (.Assign [.Tuple l k tp] ve p):=λs ρ σ L Q E X S h=>by
 refine Assign_Tuple (hE.ic X S h λv aC tk aK ax u br aG st r h1=>?_) hs hw;have fin:∀(us:List V)(sr:Src)(T id:String),PS G N env (Qh.N.bind (Qh.N.fM is us) (λ_=>Qh.N.pure .next) L ax) aK {s with heap:=aC,toks:=tk} Q->srcOf u ax=.ok sr ax->(∀j,dK sr j ax=.ok us[j]? ax)->({s with heap:=aC,toks:=tk}:Shared).TypeIs v T->Slot T "__iter__" id->
   wpAny G.mo A (assign (.Tuple l k tp) env v) (λ_=>Q .next) E {s with heap:=aC,toks:=tk}:=by
  intro us sr T' id h2 ou g7 hty hsl;refine fV (PS.bind h2) λ_ Pq et e4 h3=>?_;refine a5 (H6 e4) λcz hlen=>?_;clear h2 h1;subst cz;rw[arm_assign_Tuple];refine wpAny_bind (wpAny_standAt ?_);unfold unpack;refine(T.len)▸?_;refine(T.star)▸?_;refine hlen▸?_;refine wpAny_bind (wpAny_holding (GK Y.hh aG br r ou g7 hty hsl λvs bp cC cF b6 dB rl=>?_));refine KP T us vs {s with heap:=bp,toks:=cC} L Pq _ e4 dB b6 rl λdq fY dW dI gw=>?_;exact h3 .next dq fY _ (cF.toS.trans dW) dI gw .next
 cases u with
|ref i=>
  have E5:PS G N env (Qh.N.bind (Qh.N.lift λ_=>bH (.ref i)) (λvs=>Qh.N.bind (Qh.N.fM is vs) λ_=>Qh.N.pure .next) L ax) aK {s with heap:=aC,toks:=tk} Q:=h1;refine bo (PS.lift E5) λus bM e2 h2=>?_;refine b8 (eA e2) λj q' a9 e3=>?_;clear E5 h1;subst a9;refine iO q' λaP=>?_;subst aP;refine fy (aH.list (s:={s with heap:=aC,toks:=tk}) aG e3 r) λad xs a9 hi hl _=>?_;clear r;subst a9;refine fin us (.live i) "list" _ h2 ?_ (λj=>?_) hl.typeIs slot_list_iter
  ·show M.bind (bH (.ref i)) _ _=_;unfold M.bind;(refine e2▸?_);rfl
  ·show M.bind (bH (.ref i)) _ _=_;unfold M.bind;(refine e2▸?_);rfl
|aB vs=>
  cases r with
  |aB ht rl=>exact fin vs (.fix vs) "tuple" _ h1 rfl (λ_=>rfl) ht.typeIs F.slot_tuple_iter
|_=>exact h1.elim
end
end Qh
namespace Qh
open PySem PyProof.Rows
section
variable{G:Gd}{n:Nat}{A:Around}{N:List Str}{env:Env}{s:Shared}{ρ az:List Addr}{σ ag:H}{h h':Heap}{L:aR}{E:bG}{Q:Flow->Shared->Prop}
mutual
theorem Rel.gS(hk:∀a xs,a∉G.res->IsTup h a xs->IsTup h' a xs/\a∉R):∀{v:V},Rel G ρ h x v->Rel (G.re R) ρ h' x v
|_,.none=>.none
|_,.bool b=>.bool b
|_,.int i t=>.int i t
|_,.str y t=>.str y t
|_,.aB e r n=>.aB (hk _ _ n e).1 (bK.gS hk r) (hk _ _ n e).2
|_,.ref e=>.ref e
|_,.ct=>.ct
theorem bK.gS(hk:∀a xs,a∉G.res->IsTup h a xs->IsTup h' a xs/\a∉R):∀{vs:List V},bK G ρ h xs vs->bK (G.re R) ρ h' xs vs
|_,.nil=>.nil
|_,.cons a r=>.cons (Rel.gS hk a) (bK.gS hk r)
end
theorem iE.gS(hk:∀a xs,a∉G.res->IsTup h a xs->IsTup h' a xs/\a∉R)(hg:∀ob,h.get? a=some ob->h'.get? a=some ob)(r:iE G ρ h a o):iE (G.re R) ρ h' a o:=by
 cases o with
|ah vs=>obtain⟨xs,⟨n,e⟩,q⟩:=r;exact⟨xs,⟨n,hg _ e⟩,q.gS hk⟩
|ay es=>obtain⟨kvs,⟨ob,x,y,e,c⟩,q,q'⟩:=r;exact⟨kvs,⟨ob,x,y,hg _ e,c⟩,q,q'.gS hk⟩
|inst c d=>obtain⟨dx,o,q,e,z⟩:=r;exact⟨dx,o,q,hg _ e,z⟩
|cU n=>obtain⟨t,e⟩:=r;exact⟨t,e.at hg⟩
theorem aH.gS{R:List Addr}{W:Addr->Prop}(S:aH G ρ σ h)(hW:∀a∈ρ,¬ W a)(hb:∀a,W a->G.hb.get? a=none)(hk:∀a o,¬ W a->h.get? a=some o->h'.get? a=some o)(ht:∀a xs,a∉G.res->IsTup h a xs->¬ W a/\a∉R)(hr:∀a∈R,(∃xs,IsTup h' a xs)/\G.hb.get? a=none):aH (G.re R) ρ σ h':=
 ⟨λb o e=>hk b o (λq=>by have e:G.hb.get? b=some o:=e;(replace e:=(hb b q)▸e);exact bL e) (S.base b o e),S.len,S.nodup,S.new,λi a o e1 e2=>(S.rep i a o e1 e2).gS (λa xs n t=>⟨let ⟨o,e,c⟩:=t;⟨o,hk a o (ht a xs n t).1 e,c⟩,(ht a xs n t).2⟩) (λob e=>hk _ _ (hW _ (List.mem_of_getElem? e1)) e),λa ha=>(hr a ha).1,λa ha=>(hr a ha).2⟩
theorem bt.gS{R:List Addr}{W:Addr->Prop}(X:bt G N env ρ h L)(hk:∀a o,¬ W a->h.get? a=some o->h'.get? a=some o)(ht:∀a xs,a∉G.res->IsTup h a xs->¬ W a/\a∉R)(hL:¬ W env.locals)(hC:∀x c,env.kindOf x=some .cell->env.cells.lookup x=some c->¬ W c):bt (G.re R) N env ρ h' L:=by
 have tu:∀a xs,a∉G.res->IsTup h a xs->IsTup h' a xs/\a∉R:=λa xs n t=>⟨let ⟨o,e,c⟩:=t;⟨o,hk a o (ht a xs n t).1 e,c⟩,(ht a xs n t).2⟩;refine aO (X.ns) λm hn hm=>?_;refine⟨X.kind,X.glob,X.blt,⟨m,hn.at λo e=>hk _ _ hL e,λi u y e1 e2 e3=>?_⟩,λy hy=>?_,X.has,X.apart,X.nodup,X.jH,X.jI,X.newL,X.iG⟩
 ·refine aO (hm i u y e1 e2 e3) λv q r=>?_;exact⟨v,q,r.gS tu⟩
 ·refine bB λXx aI=>?_;obtain⟨c,ov,hc,⟨o,ho,hd⟩,hv⟩:=X.cl y hy;refine aI ?_;refine⟨c,ov,hc,⟨o,hk _ _ (hC y c hy hc) ho,hd⟩,λi u e1 e2=>?_⟩;refine aO (hv i u e1 e2) λv q r=>?_;exact⟨v,q,r.gS tu⟩
theorem aH.less(S:aH (G.re R) ρ σ h)(hR:∀a∈G.res,a∈R):aH G ρ σ h:=
 aH.gS (G:=G.re R) (R:=G.res) (W:=λ_=>False) S (λ_ _ q=>q) (λ_ q=>q.elim) (λ_ _ _ e=>e) (λa xs n t=>⟨id,λq=>n (hR a q)⟩) λa ha=>⟨S.kn a (hR a ha),S.kW a (hR a ha)⟩
theorem bt.less(X:bt (G.re R) N env ρ h L)(hR:∀a∈G.res,a∈R):bt G N env ρ h L:=
 bt.gS (G:=G.re R) (R:=G.res) (W:=λ_=>False) X (λ_ _ _ e=>e) (λa xs n t=>⟨id,λq=>n (hR a q)⟩) id λ_ _ _ _=>id
theorem iH.less(r:iH (G.re R) ρ h fl f)(hR:∀a∈G.res,a∈R):iH G ρ h fl f:=by
 cases r with
|next=>exact .next
|brk=>exact .brk
|cont=>exact .cont
|ret r=>exact .ret (Rel.gS (G:=G.re R) (R:=G.res) (λa xs n t=>⟨t,λq=>n (hR a q)⟩) r)
variable{z TI TO i1 i2 t1 t2:Addr}{k:Nat}
theorem bK.none(r:bK G ρ h xs us)(e:xs.toArray[k]?=none):us[k]?=none:=by rw[List.getElem?_toArray,List.getElem?_eq_none_iff,r.length] at e;exact List.getElem?_eq_none_iff.mpr e
theorem bK.some(r:bK G ρ h xs us)(e:xs.toArray[k]?=some v):∃u,us[k]?=some u/\Rel G ρ h v u:=by
 rw[List.getElem?_toArray] at e;have hk:k<us.length:=by(refine(r.length)▸?_);exact(List.getElem?_eq_some_iff.mp e).1
 refine aO (r.get (List.getElem?_eq_getElem hk)) λv' e' q=>?_;(replace e':=e▸e');(refine dE e' λaP=>?_;subst aP);exact⟨_,List.getElem?_eq_getElem hk,q⟩
end
end Qh
namespace Qh
open PySem PyProof.Rows PyProof.V
section
variable{G:Gd}{n:Nat}{A:Around}{N:List Str}{env:Env}{E:bG}{s:Shared}{ρ az:List Addr}{σ ag:H}
theorem qI(e:ib u σ=.ok p ax):∃i c,u=.ref i/\ax=σ/\σ[i]?=some (.inst c p.1)/\σ[p.1]?=some (.cU p.2):=by
 cases u with
|ref i=>
  refine bo (en e) λo ag e1 e2=>?_;refine a5 (nR e1) λcz e1=>?_;clear e qI;subst cz;cases o with
  |inst c d=>
   refine bo (en e2) λo' cp e3 e4=>?_;refine a5 (nR e3) λcz e3=>?_;subst cz;cases o' with
   |cU k=>(apply fh e4);exact⟨i,c,rfl,rfl,e1,e3⟩
   |_=>exact cR e4
  |_=>exact cR e2
|_=>exact cR e
theorem aH.self(S:aH G ρ σ s.heap)(e1:σ[i]?=some (.inst c d))(e2:σ[d]?=some (.cU k))(r:Rel G ρ s.heap v (.ref i)):
  ∃x dx t,v=.ref x/\ρ[i]?=some x/\ρ[d]?=some dx/\(∃o,s.heap.get? x=some o/\BZ (G.cA 0) x dx o)/\s.heap.Inst x (G.cA 0) (iW (.int k t)):=by
 cases r with
|@ref x _ hi=>
  refine bB λXx aI=>?_;refine tX (S.rep _ _ _ hi e1) λdx o hd hx q1 q2 q3 q4=>?_;refine bZ (S.rep _ _ _ hd e2) λt hn=>?_;refine aI ?_;exact⟨x,dx,t,rfl,hi,hd,⟨o,hx,q1,q2,q3,q4⟩,o,hx,q1,q2,.inr ⟨dx,q3,q4,hn⟩⟩
theorem Au(hbase:attributeBase o name env (eval o env)=eval o env)(hfew:((backTo pos (starEach args env)).all (λx=>!x.1)&&(backToKw pos (keywordEach [] env)).all (λx=>x.1.isSome)
   &&decide (args.length+([]:List Keyword).length+(if([]:List Keyword).isEmpty then 0 else 1)<30))=true)(hline:(apos.endLine==pos.line)=true)(h:wpAny G.mo A (eval o env) (λov bw=>∃f,(∀(pl:Sem Bool)(Q':Value×List Value->Shared->Prop),Q' (.ref f,[ov]) bw->wpAny G.mo A (getMethod ov name pl) Q' E bw)/\wpAny G.mo A (callWith pos (.ref f) [ov] (backTo pos (starEach args env)) []) Q E bw) E s):
  wpAny G.mo A (eval (.Call (.Attribute o name apos) args [] pos) env) Q E s:=by
 rw[arm_eval_Call,hbase];refine wpAny_bind (wpAny_mono h (λov bw aC=>?_) λ_ _ e=>e);refine aO (aC) λf hg hc=>?_;refine wpAny_bind (wpAny_standAt ?_);have Oo:methodCallForm (args.length+([]:List Keyword).length) (backTo pos (starEach args env)) (backToKw pos (keywordEach [] env))=true:=hfew;have hpos:methodCallPos true o env apos pos=pure pos:=by unfold methodCallPos;simp[hline]
 unfold methodCall;refine Oo▸?_;refine wpAny_bind (wpAny_holding (hg _ _ ?_));exact wpAny_bind (wpAny_of_eq hpos hc)
theorem KQ(K:cD G)(F:iC G)(Y:Ao A n)(C:j5 G n)(nt:G.P.eT (f+1)≠2)(hO:ba G n A N env a o)(hE:f7 G n A N env es args)(hx:G.fN f=x)(hg:G.eO f=false)(hb:attributeBase o x env (eval o env)=eval o env)(hline:(ap.endLine==p.line)=true)(hs:(args=[]/\es=.nil)∨∃fO eD,args=[fO,eD]/\starEach [fO,eD] env=(false,eval fO env)::starEach [eD] env/\starEach [eD] env=[(false,eval eD env)]):ba G n A N env (.cq f a es) (.Call (.Attribute o x ap) args [] p):=λs ρ σ L Q E X S h=>by
 subst hx
 have hfew:((backTo p (starEach args env)).all (λx=>!x.1)&&(backToKw p (keywordEach [] env)).all (λx=>x.1.isSome)
   &&decide (args.length+([]:List Keyword).length+(if([]:List Keyword).isEmpty then 0 else 1)<30))=true:=by
  rcases hs with ⟨rfl,_⟩|⟨fO,eD,rfl,q,q'⟩
  ·rfl
  ·(refine q▸?_;refine q'▸?_);rfl
 refine Au hb hfew hline (hO.then X S h λv aC tk aK ax u br aG st r h1=>?_);refine bB λXx aI=>?_;refine bo (aS.bind h1) λpr bM e1 h2=>?_;refine fy (qI e1) λi c a9 fk e2 e3=>?_;clear e1;(clear h1;subst a9);subst fk;refine bo (aS.bind h2) λus et e4 h3=>?_;refine gm (PV.some h3) λw jC e5=>?_;refine bo (sm e5) λfn m hf _=>?_;refine fJ (K.tell) λmg NA mN _ _ TO=>?_;obtain⟨t1,⟨ob,t2,t3⟩,t4,t5⟩:=TO.meths f fn hf hg;refine xg (aH.self (s:={s with heap:=aC,toks:=tk}) aG e2 e3 r) λy dx t fk hi hd hy I=>?_;subst fk;obtain⟨nm,q,bs,sn,sub,col,dd,k0,k1,k2,k3,k5,hC⟩:=TO.cls.obj;refine bo (F f fn hf) λo' fd ho hdat=>?_;refine aI ?_;refine⟨G.fA f,λpl Q' hq=>?_,?_⟩
 ·exact method_of (aG.base _ _ hC) (TO.cls.ns.keeps aG.base) TO.q2 TO.q3 t1 (aG.base _ _ t2) t3 t4 I (by unfold iW;(refine(if_neg t5)▸?_;with_reducible rfl)) hq
 ·have fin:wpAny G.mo A (spliced (backTo p (starEach args env))) (λvs bw=>(∀b o,G.hb.get? b=some o->bw.heap.get? b=some o)/\wpAny G.mo A (call (.ref (G.fA f)) ([.ref y]++vs)) Q E bw) E {s with heap:=aC,toks:=tk}:=
   hE.then br aG h2 λvs bp cC dQ xr us' dB b6 cF rs h4=>⟨b6.base,C A Y f nt _ _ _ dQ xr Q E b6 (.cons (r.step cF aG) rs) h4⟩
  rcases hs with ⟨rfl,rfl⟩|⟨fO,eD,rfl,q,q'⟩
  ·refine callWith_meth0 hdat (aG.base _ _ ho) ?_;exact C A Y f nt _ _ _ aK bM Q E aG (.cons r .nil) h2
  ·exact callWith_meth hdat ho fin q
theorem wj:typeLookup (.type "object") "many"=pure none:=by rw[typeLookup_type,builtinLookup_eq_fast];kernel_rfl
theorem KR(K:cD G)(hO:ba G n A N env a (.Name y py)):ba G n A N env (.attr a "many") (.Attribute (.Name y py) "many" p):=λs ρ σ L Q E X S h=>by
 refine Attribute_Name_ (hO.then X S h λv aC tk aK ax u br aG st r h1=>?_);refine bB λXx aI=>?_;refine bo (aS.bind h1) λpr bM e1 h2=>?_;refine fy (qI e1) λi c a9 fk e2 e3=>?_;clear e1;(clear h1;subst a9);subst fk;refine fJ (K.tell) λmg NA mN _ _ TO=>?_;refine xg (aH.self (s:={s with heap:=aC,toks:=tk}) aG e2 e3 r) λx dx t fk hi hd _ I=>?_;clear r;subst fk;obtain⟨nm,q,bs,sn,sub,col,dd,k0,k1,k2,k3,k5,hC⟩:=TO.cls.obj;refine aI ?_;exact load_attr (aG.base _ _ hC) (TO.cls.ns.keeps aG.base) TO.q2 TO.q4 wj I (by unfold iW;rw[if_pos rfl]) rfl (aS.here h2 aG (.int _ _))
theorem Within.many(v:Value):PySem.Within (iW v) ["many"]:=λy h=>by
 unfold iW at h
 by_cases e:y="many"
 ·simp[e]
 ·(replace h:=(if_neg e)▸h);exact absurd rfl h
theorem Hs(K:cD G)(S:aH G ρ σ s.heap)(ro:Rel G ρ s.heap o uo)(re:Rel G ρ s.heap e ue)(h:PU G (sM uo ue σ) ρ s Q):wpAny G.mo A (setAttr o "many" e) Q E s:=by
 refine bB λXx aI=>?_;refine bo (aS.bind h) λpr bM e1 h2=>?_;refine fy (qI e1) λi c a9 fk e2 e3=>?_;clear e1;(clear h;subst a9);subst fk;refine bo (aS.bind h2) λm et e4 h3=>?_;have zz:=jm e4;clear e4;obtain⟨rfl,rfl⟩:=zz;refine fJ (K.tell) λmg NA mN _ _ TO=>?_;have zz:=S.self e2 e3 ro;clear ro;obtain⟨x,dx,t,rfl,hi,hd,⟨ob,hx,q1,q2,q3,q4⟩,I⟩:=zz;obtain⟨nm,q,bs,sn,sub,col,dd,k0,k1,k2,k3,k5,hC⟩:=TO.cls.obj;refine aI ?_;cases re with
|int _ t'=>
  have hxC:x≠G.cA 0:=λz=>by
   have:=S.new x (List.mem_of_getElem? hi);(replace this:=hC▸(z▸this));exact d9 this
  refine store_attr PySem.F.store_object (S.base _ _ hC) (TO.cls.ns.keeps S.base) TO.q1 TO.q4 wj hxC I (λh' fj I' hk hsame=>?_) (Within.many _) (by decide);refine bB λXx aI=>?_;refine n4 (hsame ob hx) λuK hx' c1 c2 c3 c4=>?_;have hob:uK=ob:=by
   have E6:=c4 dx q3;(clear c4 q2 q1 hx;cases ob);cases uK;simp only at c1 c2 c3 E6 q3;subst c1 c2 c3 E6 q3;rfl
  clear c4 c3 c2 c1 q2 q1;subst hob;have hkp:∀b o,b≠dx->s.heap.get? b=some o->h'.get? b=some o:=λb o hb e=>by
   by_cases z:b=x
   ·(clear hb hsame hk I' hxC q4 I hi;subst z);(replace e:=hx▸e);(apply eJ e);exact hx'
   ·exact hk b o z (λPr d' iI ed=>by(replace iI:=hx▸iI);(refine dE iI λaP=>?_;(clear iI;subst aP));(replace ed:=q3▸ed);(refine dE ed λaP=>?_;(clear hd ed;subst aP));exact hb) e
  have hns:h'.Ns1 dx (iW (.int m t')):=by
   refine n3 (I') λQF z1 _ _ z2=>?_;(replace z1:=hx'▸z1);(refine dE z1 λaP=>?_;(clear z1;subst aP));rcases z2 with ⟨z2,_⟩|⟨d',z2,_,z3⟩
   ·(replace z2:=q3▸z2);exact d9 z2
   ·(replace z2:=q3▸z2);(refine dE z2 λaP=>?_;(clear hkp q3 q4;subst aP));have:(λy=>if y=("many":Str) then some (Value.int m t') else iW (.int pr.2 t) y)=iW (.int m t'):=by
     funext y;unfold iW;split<;>rfl
    (replace z3:=this▸z3);exact z3
  refine a5 (S.turn hd hkp (o:=.cU m) ⟨t',hns⟩) λS' st=>?_;refine aI ?_;exact h3 () h' fj ρ st S' trivial
theorem KS(K:cD G)(h1:ba G n A N env e e')(h2:ba G n A N env o o')(hs:swapsWith e' (some (.Attribute o' "many" p')) p.line env=pure false):
  dC G n A N env (.jd o "many" e) (.Assign [.Attribute o' "many" p'] e' p):=λs ρ σ L Q E X S h=>
 plainObj_wpAny_Assign_Attribute (h1.ic X S h λv aC tk aK ax u br aG st r h'=>h2.ic br aG h' λPn bp cC dQ bM ew dB b6 cF pQ h''=>
  Hs K b6 pQ (r.step cF aG) (PS.unit h'' dB b6 λd6 jB pF jC jJ kt hq=>hq.cu jJ kt .next)) hs
theorem H7:attributeBase (.Call (.Name "Teller" p') [] [] p) name env whole=whole:=by
 show(do return ←whole)=whole
 rfl
theorem MF(K:cD G)(Y:Ao A n)(hk:env.kindOf "Teller"=some .globalImplicit):ba G n A N env (.new c) (.Call (.Name "Teller" p') [] [] p):=λs ρ σ L Q E X S h=>by
 refine bB λXx aI=>?_;refine fJ (K.tell) λmg NA mN h1 h2 TO=>?_;obtain⟨nm,q,bs,sn,sub,col,dd,k0,k1,k2,k3,k5,hC⟩:=TO.cls.obj;obtain⟨fI,oI,fd,self,p1,p2,p3,p4,k,i1,i2,i3,i4,i5,i6,i7,i8,i9,QG,QH,i12,QI⟩:=TO.EW;refine aI ?_;refine wpAny_Call_NameR (wpAny_Name ?_ (by decide+kernel));refine(loadName_read X.kind hk)▸?_;refine Calls.loadGlobal_global (by(refine(X.glob)▸?_);exact h1.keeps S.base) h2 ?_;refine callWith_cls0 TO.cls S.base ?_;obtain⟨hh,g,d,t,os⟩:=s;refine wpAny_call_obj_init PySem.F.objNew (S.base _ _ hC) (TO.cls.ns.keeps S.base) i1 (S.base _ _ i2) i3 λh' x dx Mk=>?_;have kk:∀b o,G.hb.get? b=some o->h'.get? b=some o:=λb o e=>Mk.keeps _ _ (S.base _ _ e);refine wpAny_call (codeAny_call_cells ?_ (kk _ _ i2) i4 (K.nolimit.keeps kk) (i5.keeps kk) i6 (i7 _) i8 (λy hy=>?_) (λbw I=>?_) QG QH i12)
 ·have:=Y.room;have:=Y.units;show A.depth+1<recursionLimit
  lia
 ·simp at hy;subst hy;exact .inl i9
 ·refine gm (I.toInCall.same) λaC fu a9=>?_;subst a9;have kp:=I.toInCall.keep;have hself:(callEnvC fd h'.objs.size fI).kindOf self=some .local:=i9;refine wpAny_execs_cons (plainObj_wpAny_Assign_Attribute (wpAny_Constant_int ?_));have hv:bindL (callEnvC fd h'.objs.size fI).kindOf [(self,Value.ref x)] (λ_=>none) self=some (.ref x):=by
   simp only[bindL,hself,if_true]
  refine wpAny_Name (wpAny_loadName_local i12 hself I.toInCall.ns hv ?_) QI;have xV:aC.Inst x (G.cA 0) λ_=>none:=Mk.inst.keeps kp;have hxC:x≠G.cA 0:=λz=>by
   have:=Mk.newX;(replace this:=(S.base _ _ hC)▸(z▸this));exact d9 this
  refine store_attr PySem.F.store_object (kp _ _ (kk _ _ hC)) (TO.cls.ns.keeps λb o e=>kp _ _ (kk _ _ e)) TO.q1 TO.q4 wj hxC xV (λbp cC D4 gR hsame=>?_) Within.nil (by decide);refine wpAny_execs_nil ⟨rfl,?_⟩;refine bB λXx aI=>?_;refine n3 (id xV) λob hx c1 c2 _=>?_;have hdx:ob.dict=some dx:=by
   refine aO (id Mk.inst) λuK hx' _=>?_;have:=kp _ _ hx';(replace this:=hx▸this);(refine dE this λaP=>?_;(clear c2 c1 hx;subst aP));exact Mk.dict _ hx'
  refine n4 (hsame ob hx) λOq t9 d1 d2 d3 d4=>?_;have rW:=d4 dx hdx;have hns:bp.Ns1 dx (iW (.int 0 fu))/\dx≠x:=by
   refine n3 (D4) λQF z1 _ _ z2=>?_;(replace z1:=t9▸z1);(refine dE z1 λaP=>?_;(clear d1 t9;subst aP));rcases z2 with ⟨z2,_⟩|⟨d',z2,z4,z3⟩
   ·(replace z2:=rW▸z2);exact d9 z2
   ·(replace z2:=rW▸z2);(refine dE z2 λaP=>?_;(clear rW hdx Mk;subst aP));exact⟨z3,z4⟩
  have BB:∀b o,hh.get? b=some o->bp.get? b=some o:=λb o e=>by
   refine gR b o (λz=>?_) (λPr d' iI ed z=>?_) (kp _ _ (Mk.keeps _ _ e))
   ·(replace e:=(Mk.newX)▸(z▸e));exact bL e
   ·(replace iI:=hx▸iI);(refine dE iI λaP=>?_;(clear c2 c1 hx;subst aP));(replace ed:=hdx▸ed);(refine dE ed λaP=>?_;(clear hns rW hdx;subst aP));(replace e:=(Mk.newD)▸(z▸e));exact bL e
  refine kP (aH.alloc S BB Mk.newD (o:=.cU 0) ⟨fu,hns.1⟩) λb6 cF Dc=>?_;have hxn:x∉ρ++[dx]:=λz=>by
   rcases List.mem_append.mp z with z|z
   ·refine aO (S.mem z) λ_ e _=>?_;have:=Mk.newX;rw[show hh.get? x=_ from e] at this;exact d9 this
   ·simp at z;exact hns.2 z.symm
  have hbn:G.hb.get? x=none:=by
   cases e:G.hb.get? x with
   |none=>rfl
   |some o=>have:=S.base _ _ e;rw[show hh.get? x=none from Mk.newX] at this;exact bL this
  refine a5 (b6.adopt hxn hbn (o:=.inst c σ.length) ⟨dx,Oq,by rw[List.getElem?_append_left (List.getElem?_eq_some_iff.mp Dc).1];exact Dc,t9,d1.trans c1,λc=>by(refine d2▸?_);exact c2 c,rW,hns.2⟩) λdI Dd=>?_;refine aI ?_;refine h (.ref x) bp cC _ ⟨⟨[dx,x],by simp⟩,λb hb=>?_,λb o e _=>BB b o e⟩ dI (.ref Dd);rcases List.mem_append.mp hb with z|z
  ·exact cF.fresh b z
  ·simp at z;(clear hb Dd dI hbn hxn hns t9 hx aI hsame gR D4 hxC xV hv I;subst z);exact .inr Mk.newX
end
end Qh
namespace Qh
open PySem PySem.W PyProof.Rows
section
variable{G:Gd}{n:Nat}{A:Around}{N:List Str}{env:Env}
theorem Ji{f:Nat}{x:Str}{a:Qh.E}{es:EL}{o fO eD:av}{ap p:Pos}{fn:Fn}(K:cD G)(FI:iC G)(Y:Ao A n)(C:n7 G n)(xf:G.xf f)(hO:ba G n A N env a o)(QJ:eu G n A N env a o)(hE:f7 G n A N env es [fO,eD])(hX:kS G n A N env es [fO,eD])(hf:G.P.fns f=some fn)(hx:G.fN f=x)(hg:G.eO f=false)(hb:attributeBase o x env (eval o env)=eval o env)(hline:(ap.endLine==p.line)=true)(q:starEach [fO,eD] env=(false,eval fO env)::starEach [eD] env)(q':starEach [eD] env=[(false,eval eD env)]):eu G n A N env (.cq f a es) (.Call (.Attribute o x ap) [fO,eD] [] p):=λs ρ σ L ag fe outer Lf Q E X S F ev px=>by
 subst hx
 have hfew:((backTo p (starEach [fO,eD] env)).all (λx=>!x.1)&&(backToKw p (keywordEach [] env)).all (λx=>x.1.isSome)
   &&decide ([fO,eD].length+([]:List Keyword).length+(if([]:List Keyword).isEmpty then 0 else 1)<30))=true:=by(refine q▸?_;refine q'▸?_);rfl
 refine Au hb hfew hline (mP hO QJ X S F ev px λv aC tk aK ax u br aG st eZ r e0 gA=>?_);rcases jn e0 with z|⟨pr,bM,e1,e2⟩
 ·exact no .ib z
 refine bB λXx aI=>?_;refine fy (qI e1) λi c a9 fk g2 g3=>?_;clear e1;(clear e0;subst a9);subst fk;refine fJ (K.tell) λmg NA mN _ _ TO=>?_;obtain⟨t1,⟨ob,t2,t3⟩,t4,t5⟩:=TO.meths f fn hf hg;refine xg (aH.self (s:={s with heap:=aC,toks:=tk}) aG g2 g3 r) λy dx t fk hi hd hy I=>?_;subst fk;obtain⟨nm,q0,bs,sn,sub,col,dd,k0,k1,k2,k3,k5,hC⟩:=TO.cls.obj;refine bo (FI f fn hf) λo' fd ho hdat=>?_;refine aI ?_;refine⟨G.fA f,λpl Q' hq=>?_,?_⟩
 ·exact method_of (aG.base _ _ hC) (TO.cls.ns.keeps aG.base) TO.q2 TO.q3 t1 (aG.base _ _ t2) t3 t4 I (by unfold iW;(refine(if_neg t5)▸?_;with_reducible rfl)) hq
 ·exact callWith_meth hdat ho (qY hE hX br aG eZ e2 gA λvs bp cC dQ xr us dB b6 cF kr rs e3 ux=>⟨b6.base,C A Y fe outer Lf env f xf _ _ _ dQ xr ag Q E b6 (.cons (r.step cF aG) rs) kr e3 ux⟩) q
end
end Qh
set_option tactic.hygienic true
namespace Qh
open PySem PyProof.Rows
structure fv where
 fN:Nat->Str
 eO:Nat->Bool
 gN:Nat->Str
 io:Nat->Nat
def Gd.aE(G:Gd):fv:=⟨G.fN,G.eO,G.gN,G.P.eT⟩
def fv.nt(T:fv)(f:Nat):Bool:=!decide (T.io (f+1)=2)
noncomputable abbrev Kn:=List (Str×NameKind)
def eQ(K:Kn)(x:Str):Bool:=decide (K.lookup x=some .globalImplicit)
def eR(K:Kn)(x:Str):Bool:=decide (K.lookup x=some .local)||decide (K.lookup x=some .cell)
def jD(x:Str):Bool:=!(x==("__debug__":Str))
def dk:av->Bool
|.Starred ..=>false
|_=>true
def sQ:av->Bool
|.Slice ..=>false
|_=>true
def jv:av->Bool
|.ListComp ..=>false
|.SetComp ..=>false
|.DictComp ..=>false
|_=>true
def isNone:E->Bool
|.none=>true
|_=>false
def qZ:EL->Bool
|.nil=>true
|.cons _ _=>false
def pb:E->Bool
|.comp ..=>true
|.fT ..=>true
|.fB ..=>true
|_=>false
def fR(K:Kn)(names:Kn):Kn:=names.map λ(n,k)=>if(k==NameKind.free&&K.lookup n==some .cell) then(n,.cell) else(n,k)
def nT(N:List Str)(K:Kn)(scope:Scope)(x:Str)(v:Nat)(bk:List Nat):Bool:=
 decide (scope.kind=.function)&&scope.names.all (λy=>decide (y.2≠.cell))&&scope.names.all (λy=>decide (y.2≠.local)||decide (scope.names.lookup y.1=some .local))&&decide (scope.names.lookup x=some .local)&&decide (N[v]?=some x)
  &&scope.names.all (λy=>decide (y.2≠.free)||decide (K.lookup y.1=some .cell))&&bk.all (λi=>match N[i]? with|some y=>decide ((fR K scope.names).lookup y=some .cell)|none=>true)
def blt(K:Kn)(x y:Str):Bool:=decide (x=y)&&eQ K x
def k7:List Type->Nat->Type
|[],_=>Unit
|t::_,0=>t
|_::r,n+1=>k7 r n
structure Wf(L:List Type)(I:(n:Nat)->k7 L n->Prop) where
 n:Nat
 x:k7 L n
 is:I n x
def sel{L:List Type}{I:(n:Nat)->k7 L n->Prop}(w:Wf L I)(n:Nat):Option (k7 L n):=if h:w.n=n then some (h▸w.x) else none
theorem eK{L:List Type}{I:(n:Nat)->k7 L n->Prop}{w:Wf L I}{n:Nat}{x:k7 L n}(h:sel w n=some x):I n x:=by
 obtain⟨m,y,i⟩:=w
 by_cases q:m=n
 ·subst q;have h:sel ⟨m,y,i⟩ m=some y:=dif_pos rfl
  rename_i h0;rw[h] at h0;exact Option.some.inj h0▸i
 ·exact bL ((dif_neg q).symm.trans h)
structure Cp where
 elt:av
 x:Str
 iter:av
 ifs:List av
 scope:Scope
structure Mt where
 o:av
 m:Str
 ap:Pos
 p:Pos
 args:List av
def EP:List Type:=[Const,Str,List av,List av,List (Option av)×List av,Operator×av×av,UnaryOp×av,CmpOp×av×av,BoolOp×List av,
 av×Option av×Option av,av×av,Str×List av×List Keyword,Mt,av×Str,Int×Cp]
def EI(e:av):(n:Nat)->k7 EP n->Prop
|0=>λ(c:Const)=>∃k p,e=.Constant c k p
|1=>λ(x:Str)=>∃p,e=.Name x p
|2=>λ(l:List av)=>∃k p,e=.Tuple l k p
|3=>λ(l:List av)=>∃p,e=.List l p
|4=>λ(x:List (Option av)×List av)=>∃p,e=.Dict x.1 x.2 p
|5=>λ(x:Operator×av×av)=>∃p,e=.BinOp x.2.1 x.1 x.2.2 p
|6=>λ(x:UnaryOp×av)=>∃p,e=.UnaryOp x.1 x.2 p
|7=>λ(x:CmpOp×av×av)=>∃p,e=.Compare x.2.1 [x.1] [x.2.2] p
|8=>λ(x:BoolOp×List av)=>∃p,e=.BoolOp x.1 x.2 p
|9=>λ(x:av×Option av×Option av)=>∃p' p,e=.Subscript x.1 (.Slice x.2.1 x.2.2 none p') p
|10=>λ(x:av×av)=>∃p,e=.Subscript x.1 x.2 p/\sQ x.2=true
|11=>λ(x:Str×List av×List Keyword)=>∃p' p,e=.Call (.Name x.1 p') x.2.1 x.2.2 p
|12=>λ(x:Mt)=>e=.Call (.Attribute x.o x.m x.ap) x.args [] x.p
|13=>λ(x:av×Str)=>∃p,e=.Attribute x.1 x.2 p
|14=>λ(x:Int×Cp)=>∃px p,e=.ListComp x.2.elt [⟨.Name x.2.x px,x.2.iter,x.2.ifs,x.1⟩] x.2.scope p
|_=>λ_=>True
def view(e:av):Wf EP (EI e):=match e with
|.Constant c _ _=>⟨0,c,_,_,rfl⟩
|.Name x _=>⟨1,x,_,rfl⟩
|.Tuple l _ _=>⟨2,l,_,_,rfl⟩
|.List l _=>⟨3,l,_,rfl⟩
|.Dict ks vs _=>⟨4,(ks,vs),_,rfl⟩
|.BinOp l op r _=>⟨5,(op,l,r),_,rfl⟩
|.UnaryOp op l _=>⟨6,(op,l),_,rfl⟩
|.Compare l [op] [r] _=>⟨7,(op,l,r),_,rfl⟩
|.BoolOp op l _=>⟨8,(op,l),_,rfl⟩
|.Subscript l (.Slice lo hi none _) _=>⟨9,(l,lo,hi),_,_,rfl⟩
|.Subscript l r _=>if h:sQ r=true then⟨10,(l,r),_,rfl,h⟩ else⟨15,(),trivial⟩
|.Call (.Name x _) args kws _=>⟨11,(x,args,kws),_,_,rfl⟩
|.Call (.Attribute o m ap) args [] p=>⟨12,(⟨o,m,ap,p,args⟩:Mt),rfl⟩
|.Attribute o x _=>⟨13,(o,x),_,rfl⟩
|.ListComp elt [⟨.Name x _,iter,ifs,z⟩] scope _=>⟨14,(z,(⟨elt,x,iter,ifs,scope⟩:Cp)),_,_,rfl⟩
|_=>⟨15,(),trivial⟩
def one:List av->Option av
|[e]=>some e
|_=>none
def two:List av->Option (av×av)
|[e,e']=>some (e,e')
|_=>none
theorem pn{l:List av}{e:av}(h:one l=some e):l=[e]:=by
 match l with
|[x]=>(apply eJ h);rfl
|[]=>exact bL h
|_::_::_=>exact bL h
theorem Cd{l:List av}{p:av×av}(h:two l=some p):l=[p.1,p.2]:=by
 match l with
|[x,y]=>(apply eJ h);rfl
|[]=>exact bL h
|[_]=>exact bL h
|_::_::_::_=>exact bL h
theorem bind_some{α β:Type}{o:Option α}{f:α->Option β}{b:β}(h:o.bind f=some b):∃a,o=some a/\f a=some b:=by
 cases o with
|none=>exact bL h
|some a=>exact⟨a,rfl,h⟩
theorem map_some{α β:Type}{o:Option α}{f:α->β}{b:β}(h:o.map f=some b):∃a,o=some a/\f a=b:=by
 cases o with
|none=>exact bL h
|some a=>(apply eJ h);exact⟨a,rfl,rfl⟩
def when{α:Type}(c:Bool)(o:Option α):Option α:=bif c then o else none
theorem sH{α:Type}{c:Bool}{o:Option α}{a:α}(h:when c o=some a):c=true/\o=some a:=by
 cases c with
|false=>exact bL h
|true=>exact⟨rfl,h⟩
def tH(l:List av):Bool:=match l with
|e::_=>dk e
|[]=>false
def kg(e:av):Option (Const):=sel (view e) 0
theorem sR{e:av}{x:Const}(h:kg e=some x):∃k p,e=.Constant x k p:=eK h
def nameOf(e:av):Option (Str):=sel (view e) 1
theorem lX{e:av}{x:Str}(h:nameOf e=some x):∃p,e=.Name x p:=eK h
def rG(e:av):Option (List av):=sel (view e) 2
theorem KT{e:av}{x:List av}(h:rG e=some x):∃k p,e=.Tuple x k p:=eK h
def xW(e:av):Option (List av):=sel (view e) 3
theorem KU{e:av}{x:List av}(h:xW e=some x):∃p,e=.List x p:=eK h
def xX(e:av):Option (Operator×av×av):=sel (view e) 5
theorem KV{e:av}{x:Operator×av×av}(h:xX e=some x):∃p,e=.BinOp x.2.1 x.1 x.2.2 p:=eK h
def rX(e:av):Option (UnaryOp×av):=sel (view e) 6
theorem MG{e:av}{x:UnaryOp×av}(h:rX e=some x):∃p,e=.UnaryOp x.1 x.2 p:=eK h
def uA(e:av):Option (CmpOp×av×av):=sel (view e) 7
theorem KW{e:av}{x:CmpOp×av×av}(h:uA e=some x):∃p,e=.Compare x.2.1 [x.1] [x.2.2] p:=eK h
def vBool(e:av):Option (BoolOp×List av):=sel (view e) 8
theorem Jj{e:av}{x:BoolOp×List av}(h:vBool e=some x):∃p,e=.BoolOp x.1 x.2 p:=eK h
def k8(e:av):Option (av×av):=sel (view e) 10
theorem BC{e:av}{x:av×av}(h:k8 e=some x):∃p,e=.Subscript x.1 x.2 p/\sQ x.2=true:=eK h
def xY(e:av):Option (av×Option av×Option av):=sel (view e) 9
theorem KX{e:av}{x:av×Option av×Option av}(h:xY e=some x):∃p' p,e=.Subscript x.1 (.Slice x.2.1 x.2.2 none p') p:=eK h
def wQ(e:av):Option (Str×List av×List Keyword):=sel (view e) 11
theorem Av{e:av}{x:Str×List av×List Keyword}(h:wQ e=some x):∃p' p,e=.Call (.Name x.1 p') x.2.1 x.2.2 p:=eK h
def ua(e:av):Option (Mt):=sel (view e) 12
theorem A7{e:av}{x:Mt}(h:ua e=some x):e=.Call (.Attribute x.o x.m x.ap) x.args [] x.p:=eK h
def n8(e:av):Option (av×Str):=sel (view e) 13
theorem v8{e:av}{x:av×Str}(h:n8 e=some x):∃p,e=.Attribute x.1 x.2 p:=eK h
def xt(e:av):Option (List (Option av)×List av):=sel (view e) 4
theorem Jk{e:av}{x:List (Option av)×List av}(h:xt e=some x):∃p,e=.Dict x.1 x.2 p:=eK h
def D5(e:av):Option (Int×Cp):=sel (view e) 14
theorem KY{e:av}{x:Int×Cp}(h:D5 e=some x):∃px p,e=.ListComp x.2.elt [⟨.Name x.2.x px,x.2.iter,x.2.ifs,x.1⟩] x.2.scope p:=eK h
def mT(e:av):Option (Str×List av):=(wQ e).bind λy=>when y.2.2.isEmpty (some (y.1,y.2.1))
theorem sS{e:av}{x:Str×List av}(h:mT e=some x):∃p' p,e=.Call (.Name x.1 p') x.2 [] p:=by
 refine bB λXx aI=>?_;obtain⟨⟨f,a,k⟩,h1,h2⟩:=bind_some h;refine a5 (sH h2) λh3 h4=>?_;replace h1:=Av h1;obtain⟨p',p,rfl⟩:=h1;refine aI ?_;(apply eJ h4)
 (refine(List.isEmpty_iff.mp h3)▸?_);exact⟨_,_,rfl⟩
def pH(e:av):Option Cp:=(D5 e).bind λy=>when (decide (y.1=0)) (some y.2)
theorem A8{e:av}{x:Cp}(h:pH e=some x):∃px p,e=.ListComp x.elt [⟨.Name x.x px,x.iter,x.ifs,0⟩] x.scope p:=by
 refine bB λXx aI=>?_;obtain⟨⟨z,c⟩,h1,h2⟩:=bind_some h;refine a5 (sH h2) λh3 h4=>?_;replace h1:=KY h1;obtain⟨px,p,rfl⟩:=h1;refine aI ?_;(apply eJ h4)
 (refine(of_decide_eq_true h3)▸?_);exact⟨_,_,rfl⟩
def gs(e:av):Option (Str×av):=(mT e).bind λy=>(one y.2).map λa=>(y.1,a)
def call2(e:av):Option (Str×av×av):=(mT e).bind λy=>(two y.2).map λa=>(y.1,a)
theorem A9{e a:av}{x:Str}(h:gs e=some (x,a)):∃p' p,e=.Call (.Name x p') [a] [] p:=by
 obtain⟨⟨f,l⟩,h1,h2⟩:=bind_some h;obtain⟨b,h3,h4⟩:=map_some h2;replace h1:=sS h1;obtain⟨p',p,rfl⟩:=h1;cases h4
 (refine(pn h3)▸?_);exact⟨_,_,rfl⟩
theorem Ba{e a b:av}{x:Str}(h:call2 e=some (x,a,b)):∃p' p,e=.Call (.Name x p') [a,b] [] p:=by
 obtain⟨⟨f,l⟩,h1,h2⟩:=bind_some h;obtain⟨c,h3,h4⟩:=map_some h2;replace h1:=sS h1;obtain⟨p',p,rfl⟩:=h1;cases h4
 (refine(Cd h3)▸?_);exact⟨_,_,rfl⟩
def E7:List Keyword->Bool
|[k]=>decide (k.arg=some "default")&&decide (kg k.value=some (.int 0))
|_=>false
theorem MH{l:List Keyword}(h:E7 l=true):∃k p kp,l=[⟨some "default",.Constant (.int 0) k p,kp⟩]:=by
 match l with
|[⟨a,v,kp⟩]=>
  have h:(decide (a=some "default")&&decide (kg v=some (.int 0)))=true:=h;rw[Bool.and_eq_true] at h;obtain rfl:a=_:=of_decide_eq_true h.1;refine gm (sR (of_decide_eq_true h.2)) λk p a9=>?_;(clear h;(clear h;subst a9));exact⟨_,_,_,rfl⟩
|[]=>exact ff h
|_::_::_=>exact ff h
def xu(e:av):Option av:=(wQ e).bind λy=>when (decide (y.1="max")&&E7 y.2.2) (one y.2.1)
theorem Jl{e a:av}(h:xu e=some a):∃p' p k p'' kp,e=.Call (.Name "max" p') [a] [⟨some "default",.Constant (.int 0) k p'',kp⟩] p:=by obtain⟨⟨f,l,k⟩,h1,h2⟩:=bind_some h;refine a5 (sH h2) λh3 h4=>?_;rw[Bool.and_eq_true] at h3;replace h1:=Av h1;obtain⟨p',p,rfl⟩:=h1;refine kQ (MH h3.2) λq1 q2 q3 e1=>?_;have e3:f="max":=of_decide_eq_true h3.1;have e4:l=[a]:=pn h4;subst (e1) e3 e4;exact⟨_,_,_,_,_,rfl⟩
def uc(e:av):Option (Str×av×av):=(ua e).bind λy=>when (jV y.o&&(y.ap.endLine==y.p.line)) ((one y.args).map λa=>(y.m,y.o,a))
theorem Jm{e o a:av}{m:Str}(h:uc e=some (m,o,a)):∃ap p,e=.Call (.Attribute o m ap) [a] [] p/\jV o=true/\(ap.endLine==p.line)=true:=by obtain⟨⟨o',m',ap,p,args⟩,h1,h2⟩:=bind_some h;refine a5 (sH h2) λh3 h4=>?_;obtain⟨b,h5,h6⟩:=map_some h4;rw[Bool.and_eq_true] at h3;have e1:=A7 h1;cases h6;have e4:args=[a]:=pn h5;clear h5 h4 h2 h h1;subst e4;exact⟨_,_,e1,h3.1,h3.2⟩
theorem cJ{α:Type}{o:Option α}{f:α->Bool}(h:o.any f=true):∃x,o=some x/\f x=true:=by
 cases o with
|none=>exact ff h
|some x=>exact⟨x,rfl,h⟩
def tI(o:Option av)(d:Bool)(f:av->Bool):Bool:=match o with|none=>d|some e=>f e
def isNew(e:av):Bool:=(mT e).any λx=>decide (x.1=("Teller":Str))&&x.2.isEmpty
def twoArgs(es:EL)(l:List av):Bool:=(qZ es&&l.isEmpty)||(two l).any λq=>dk q.1&&dk q.2
mutual
noncomputable def bx(T:fv)(N:List Str):E->Kn->av->Bool
|.none,_,e=>(kg e).any λc=>decide (c=.none)
|.bool b,_,e=>(kg e).any λc=>decide (c=.bool b)
|.int b,_,e=>(kg e).any λc=>decide (c=.int b)
|.str b,_,e=>(kg e).any λc=>decide (c=.str b)
|.aa i,_,e=>(nameOf e).any λx=>decide (N[i]?=some x)&&jD x
|.glob g,K,e=>(nameOf e).any λx=>decide (T.gN g=x)&&eQ K x&&jD x
|.aB es,K,e=>(rG e).any λl=>ja T N es K l
|.ah es,K,e=>(xW e).any λl=>ja T N es K l
|.ay ks es,_,e=>(xt e).any λx=>x.1.isEmpty&&x.2.isEmpty&&ks.isEmpty&&qZ es
|.aj op a b,K,e=>(xX e).any λx=>decide (x.1=op)&&bx T N a K x.2.1&&bx T N b K x.2.2
|.neg a,K,e=>(rX e).any λx=>decide (x.1=.USub)&&bx T N a K x.2
|.cmp op a b,K,e=>(uA e).any λx=>decide (x.1=op)&&bx T N a K x.2.1&&bx T N b K x.2.2&&!(behindInMarks op x.2.2)
|.kU _ _ _ _ _,_,_=>false
|.not a,K,e=>(rX e).any λx=>decide (x.1=.Not)&&bx T N a K x.2
|.and es,K,e=>(vBool e).any λx=>decide (x.1=.And)&&pq T N es K x.2
|.or es,K,e=>(vBool e).any λx=>decide (x.1=.Or)&&pq T N es K x.2
|.au a i,K,e=>(k8 e).any λx=>bx T N a K x.1&&bx T N i K x.2
|.slc a lo hi,K,e=>(xY e).any λx=>bx T N a K x.1&&tI x.2.1 (isNone lo) (λy=>bx T N lo K y)&&tI x.2.2 (isNone hi) (λy=>bx T N hi K y)
|.call f es,K,e=>(mT e).any λx=>ja T N es K x.2&&decide (T.fN f=x.1)&&(T.eO f&&T.nt f)&&eQ K x.1&&jD x.1&&tH x.2
|.cq f o es,K,e=>(ua e).any λy=>decide (T.fN f=y.m)&&(!T.eO f&&T.nt f)&&(jV y.o||isNew y.o)&&(y.ap.endLine==y.p.line)&&twoArgs es y.args&&bx T N o K y.o&&ja T N es K y.args
|.new _,K,e=>isNew e&&eQ K "Teller"
|.attr o x,K,e=>(n8 e).any λy=>decide (x=("many":Str))&&decide (y.2=("many":Str))&&(nameOf y.1).isSome&&bx T N o K y.1
|.len a,K,e=>(gs e).any λx=>blt K x.1 "len"&&dk x.2&&bx T N a K x.2
|.toInt a,K,e=>(gs e).any λx=>blt K x.1 "int"&&dk x.2&&bx T N a K x.2
|.toStr a,K,e=>(gs e).any λx=>blt K x.1 "str"&&dk x.2&&bx T N a K x.2
|.sum a,K,e=>(gs e).any λx=>blt K x.1 "sum"&&dk x.2&&bx T N a K x.2
|.list a,K,e=>(gs e).any λx=>blt K x.1 "list"&&dk x.2&&bx T N a K x.2
|.tuple a,K,e=>(gs e).any λx=>blt K x.1 "tuple"&&dk x.2&&bx T N a K x.2
|.dict a,K,e=>(gs e).any λx=>blt K x.1 "dict"&&dk x.2&&bx T N a K x.2
|.max2 a b,K,e=>(call2 e).any λx=>blt K x.1 "max"&&dk x.2.1&&dk x.2.2&&bx T N a K x.2.1&&bx T N b K x.2.2
|.gT a,K,e=>(xu e).any λx=>blt K "max" "max"&&dk x&&bx T N a K x
|.dU t a,K,e=>(call2 e).any λx=>blt K x.1 "isinstance"&&(nameOf x.2.2).any (λy=>blt K y (Str.ofString t))&&decide (t∈gP)&&dk x.2.1&&bx T N a K x.2.1
|.join a b,K,e=>(uc e).any λx=>decide (x.1=("join":Str))&&dk x.2.2&&bx T N a K x.2.1&&bx T N b K x.2.2
|.get _ _ _,_,_=>false
|.comp elt v bk src,K,e=>(pH e).any λx=>x.ifs.isEmpty&&bx T N src K x.iter&&ju x.iter&&nT N K x.scope x.x v bk&&bx T N elt (fR K x.scope.names) x.elt
|.fT elt v bk src t,K,e=>(pH e).any λx=>(one x.ifs).any (λte=>k9 T N t (fR K x.scope.names) te)&&bx T N src K x.iter&&ju x.iter&&nT N K x.scope x.x v bk&&bx T N elt (fR K x.scope.names) x.elt
|.fB elt v bk src,K,e=>(pH e).any λx=>x.ifs.isEmpty&&(gs x.iter).any (λy=>blt K y.1 "range"&&dk y.2&&bx T N src K y.2)&&nT N K x.scope x.x v bk&&bx T N elt (fR K x.scope.names) x.elt
noncomputable def ja(T:fv)(N:List Str):EL->Kn->List av->Bool
|.nil,_,l=>l.isEmpty
|.cons x r,K,l=>match l with|e::t=>dk e&&bx T N x K e&&ja T N r K t|[]=>false
noncomputable def pq(T:fv)(N:List Str):EL->Kn->List av->Bool
|.nil,_,l=>false
|.cons x r,K,l=>match r with
  |.nil=>(one l).any λe=>bx T N x K e
  |.cons y z=>match l with|e::t=>bx T N x K e&&pq T N r K t|[]=>false
noncomputable def k9(T:fv)(N:List Str):E->Kn->av->Bool
|.not a,K,e=>(rX e).any λx=>decide (x.1=.Not)&&k9 T N a K x.2
|.and es,K,e=>(vBool e).any λx=>decide (x.1=.And)&&q5 T N es K x.2
|.or es,K,e=>(vBool e).any λx=>decide (x.1=.Or)&&q5 T N es K x.2
|.cmp op a b,K,e=>(uA e).any λx=>decide (x.1=op)&&bx T N a K x.2.1&&bx T N b K x.2.2&&!(behindInMarks op x.2.2)
|.aa i,_,e=>(nameOf e).any λx=>decide (N[i]?=some x)&&jD x
|.call f es,K,e=>(mT e).any λx=>ja T N es K x.2&&decide (T.fN f=x.1)&&(T.eO f&&T.nt f)&&eQ K x.1&&jD x.1&&tH x.2
|.dU t a,K,e=>(call2 e).any λx=>blt K x.1 "isinstance"&&(nameOf x.2.2).any (λy=>blt K y (Str.ofString t))&&decide (t∈gP)&&dk x.2.1&&bx T N a K x.2.1
|.au a i,K,e=>(k8 e).any λx=>bx T N a K x.1&&bx T N i K x.2
|.none,_,_=>false
|.bool _,_,_=>false
|.int _,_,_=>false
|.str _,_,_=>false
|.glob _,_,_=>false
|.aB _,_,_=>false
|.ah _,_,_=>false
|.ay _ _,_,_=>false
|.aj _ _ _,_,_=>false
|.neg _,_,_=>false
|.kU _ _ _ _ _,_,_=>false
|.slc _ _ _,_,_=>false
|.cq _ _ _,_,_=>false
|.new _,_,_=>false
|.attr _ _,_,_=>false
|.len _,_,_=>false
|.toInt _,_,_=>false
|.toStr _,_,_=>false
|.sum _,_,_=>false
|.gT _,_,_=>false
|.max2 _ _,_,_=>false
|.list _,_,_=>false
|.tuple _,_,_=>false
|.dict _,_,_=>false
|.join _ _,_,_=>false
|.get _ _ _,_,_=>false
|.comp _ _ _ _,_,_=>false
|.fT _ _ _ _ _,_,_=>false
|.fB _ _ _ _,_,_=>false
noncomputable def q5(T:fv)(N:List Str):EL->Kn->List av->Bool
|.nil,_,l=>l.isEmpty
|.cons x r,K,l=>match l with|e::t=>k9 T N x K e&&q5 T N r K t|[]=>false
end
def SP:List Type:=[av×av,av,av×List Stmt×List Stmt,av×List Stmt,av×av×List Stmt,Option av,av,List Stmt×ExceptHandler]
def SI(st:Stmt):(n:Nat)->k7 SP n->Prop
|0=>λ(x:av×av)=>∃p,st=.Assign [x.1] x.2 p
|1=>λ(x:av)=>∃p,st=.Expr x p
|2=>λ(x:av×List Stmt×List Stmt)=>∃p,st=.If x.1 x.2.1 x.2.2 p
|3=>λ(x:av×List Stmt)=>∃p,st=.While x.1 x.2 [] p
|4=>λ(x:av×av×List Stmt)=>∃p,st=.For x.1 x.2.1 x.2.2 [] p
|5=>λ(x:Option av)=>∃p,st=.Return x p
|6=>λ(x:av)=>∃p,st=.Raise (some x) none p
|7=>λ(x:List Stmt×ExceptHandler)=>∃p,st=.Try x.1 [x.2] [] [] p
|_=>λ_=>True
def n9(st:Stmt):Wf SP (SI st):=match st with
|.Assign [t] e _=>⟨0,(t,e),_,rfl⟩
|.Expr e _=>⟨1,e,_,rfl⟩
|.If c t e _=>⟨2,(c,t,e),_,rfl⟩
|.While c b [] _=>⟨3,(c,b),_,rfl⟩
|.For t iter b [] _=>⟨4,(t,iter,b),_,rfl⟩
|.Return e _=>⟨5,e,_,rfl⟩
|.Raise (some e) none _=>⟨6,e,_,rfl⟩
|.Try b [h] [] [] _=>⟨7,(b,h),_,rfl⟩
|_=>⟨8,(),trivial⟩
def mZ(st:Stmt):Option (av×av):=sel (n9 st) 0
def uB(st:Stmt):Option av:=sel (n9 st) 1
def xZ(st:Stmt):Option (av×List Stmt×List Stmt):=sel (n9 st) 2
def uO(st:Stmt):Option (av×av×List Stmt):=sel (n9 st) 4
def uC(st:Stmt):Option (Option av):=sel (n9 st) 5
theorem BD{st:Stmt}{x:av×av}(h:mZ st=some x):∃p,st=.Assign [x.1] x.2 p:=eK h
theorem KZ{st:Stmt}{x:av}(h:uB st=some x):∃p,st=.Expr x p:=eK h
theorem K1{st:Stmt}{x:av×List Stmt×List Stmt}(h:xZ st=some x):∃p,st=.If x.1 x.2.1 x.2.2 p:=eK h
theorem MI{st:Stmt}{x:av×av×List Stmt}(h:uO st=some x):∃p,st=.For x.1 x.2.1 x.2.2 [] p:=eK h
theorem K2{st:Stmt}{x:Option av}(h:uC st=some x):∃p,st=.Return x p:=eK h
def D6(st:Stmt):Option (List Stmt×ExceptHandler):=sel (n9 st) 7
theorem K3{st:Stmt}{x:List Stmt×ExceptHandler}(h:D6 st=some x):∃p,st=.Try x.1 [x.2] [] [] p:=eK h
def wR(st:Stmt):Option av:=sel (n9 st) 6
theorem H8{st:Stmt}{x:av}(h:wR st=some x):∃p,st=.Raise (some x) none p:=eK h
def MJ:Const->Bool
|.str _=>true
|_=>false
def Ce(e:av):Bool:=(kg e).any MJ
def tgt(N:List Str)(K:Kn)(i:Nat)(t:av):Bool:=(nameOf t).any λy=>decide (N[i]?=some y)&&eR K y
def tgts(N:List Str)(K:Kn):List Nat->List av->Bool
|[],l=>l.isEmpty
|i::is,l=>match l with|t::l=>tgt N K i t&&tgts N K is l|[]=>false
mutual
noncomputable def m3(T:fv)(N:List Str)(K:Kn):S->Stmt->Bool
|.aL i x,st=>(mZ st).any λy=>tgt N K i y.1&&bx T N x K y.2&&(jv y.2||pb x)
|.eX o i x,st=>(mZ st).any λy=>(k8 y.1).any (λz=>bx T N o K z.1&&bx T N i K z.2)&&bx T N x K y.2&&jv y.2
|.append o x,st=>(uB st).any λy=>(uc y).any λz=>decide (z.1=("append":Str))&&dk z.2.2&&bx T N o K z.2.1&&bx T N x K z.2.2
|.expr x,st=>(uB st).any λy=>bx T N x K y&&jv y
|.ite c t e,st=>(xZ st).any λy=>k9 T N c K y.1&&gu T N K t y.2.1&&gu T N K e y.2.2
|.pL _ _,_=>false
|.ki i x b,st=>(uO st).any λy=>tgt N K i y.1&&bx T N x K y.2.1&&ju y.2.1&&gu T N K b y.2.2
|.eM i x b,st=>(uO st).any λy=>tgt N K i y.1&&(gs y.2.1).any (λz=>blt K z.1 "range"&&dk z.2&&bx T N x K z.2)&&gu T N K b y.2.2
|.ret x,st=>(uC st).any λy=>y.any λe=>bx T N x K e
|.pM,_=>false
|.gY is x,st=>(mZ st).any λy=>(rG y.1).any (λl=>tgts N K is l)&&bx T N x K y.2&&((nameOf y.2).isSome||(k8 y.2).isSome)
|.jd o x e,st=>(mZ st).any λy=>(n8 y.1).any (λz=>decide (x=("many":Str))&&decide (z.2=("many":Str))&&bx T N o K z.1)&&bx T N e K y.2&&jv y.2
|.update _ _,_=>false
|.rv _ _ _ _ _,_=>false
|.raise c _,st=>!decide (c=T.io 0)||(wR st).any λy=>(gs y).any λz=>blt K z.1 "TooGreat"&&Ce z.2
|.gU _ _ _,_=>false
noncomputable def gu(T:fv)(N:List Str)(K:Kn):SL->List Stmt->Bool
|.nil,l=>l.isEmpty
|.cons x r,l=>match l with|st::t=>m3 T N K x st&&gu T N K r t|[]=>false
end
end Qh
set_option tactic.hygienic false
namespace Qh
open PySem PyProof.Rows
section
variable{G:Gd}{n:Nat}{A:Around}{N:List Str}
structure dw(env:Env)(K:Kn):Prop where
 kind:env.scope.kind=.function
 names:env.scope.names=K
theorem dw.at{env:Env}{K:Kn}(Z:dw env K)(x:Str):env.kindOf x=K.lookup x:=by unfold Env.kindOf;(refine(Z.names)▸?_;with_reducible rfl)
theorem dw.eQ{env:Env}{K:Kn}(Z:dw env K)(h:eQ K x=true):env.kindOf x=some .globalImplicit:=by rw[Z.at];exact of_decide_eq_true h
theorem dw.eR{env:Env}{K:Kn}(Z:dw env K)(h:eR K x=true):env.kindOf x=some .local∨env.kindOf x=some .cell:=by rw[Z.at];unfold Qh.eR at h;simp only[Bool.or_eq_true,decide_eq_true_eq] at h;exact h
theorem vJ(h:jD x=true):(x==("__debug__":Str))=false:=by unfold jD at h;simpa using h
theorem eg(h:dk e=true):starEach (e::l) env=(false,eval e env)::starEach l env:=by cases e<;>first|rfl|exact ff h
theorem wU(h:G.aE.nt f=true):G.P.eT (f+1)≠2:=λq=>by
 have h:(!decide (G.P.eT (f+1)=2))=true:=h;(replace h:=q▸h);exact ff h
theorem not_iff(h:(!b)=true):b=false:=by cases b with|false=>rfl|true=>exact ff h
theorem GU(h:sQ r=true):∀l u p,r≠.Slice l u none p:=by rintro l u p rfl;exact ff h
theorem pd{env:Env}{K:Kn}(Z:dw env K)(h:blt K x y=true):x=y/\env.kindOf x=some .globalImplicit:=by unfold blt at h;simp only[Bool.and_eq_true,decide_eq_true_eq] at h;exact⟨h.1,Z.eQ h.2⟩
theorem zS{env:Env}{K:Kn}{scope:Scope}(Z:dw env K):(relabel scope env).names=fR K scope.names:=by
 unfold relabel fR;apply List.map_congr_left;rintro ⟨n,k⟩ _;have h1:(env.scope.kind==ScopeKind.function)=true:=by(refine(Z.kind).symm▸?_);rfl
 simp only[h1,Bool.and_true,Z.at]
theorem zT{env:Env}{K:Kn}(Z:dw env K){scope:Scope}(h:nT N K scope x v bk=true):gQ N env scope x v bk:=by
 unfold nT at h;simp only[Bool.and_eq_true,decide_eq_true_eq,List.all_eq_true,Bool.or_eq_true] at h;refine bB λXx aI=>?_;obtain⟨⟨⟨⟨⟨⟨h1,h2⟩,h3⟩,h4⟩,h5⟩,h6⟩,h7⟩:=h;refine aI ?_;refine⟨h1,h2,λy hy hl=>?_,h4,h5,λy hy hf=>?_,λi hi y hy=>?_⟩
 ·rcases h3 y hy with q|q
  ·exact absurd hl q
  ·exact q
 ·rcases h6 y hy with q|q
  ·exact absurd hf q
  ·rw[Z.at];exact q
 ·have:=h7 i hi;replace this:=hy▸this;simp only[decide_eq_true_eq] at this
  (refine(zS Z)▸?_);exact this
theorem dw.inner{env:Env}{K:Kn}(Z:dw env K){scope:Scope}(W:gQ N env scope x v bk)(cl:List (Str×Addr))(C:Addr):dw (compEnvC scope cl C env) (fR K scope.names):=
 ⟨W.kind,zS Z⟩
theorem pw(h:t∈gP):(Str.ofString t∈nH)/\bootBuiltins (Str.ofString t)=some (.type t)/\(Str.ofString t==("__debug__":Str))=false:=by
 have:t="int"∨t="bool"∨t="str"∨t="tuple"∨t="list":=by simpa[gP] using h
 rcases this with rfl|rfl|rfl|rfl|rfl
 ·exact⟨by decide+kernel,boot_int,by decide+kernel⟩
 ·exact⟨by decide+kernel,boot_bool,by decide+kernel⟩
 ·exact⟨by decide+kernel,boot_str,by decide+kernel⟩
 ·exact⟨by decide+kernel,boot_tuple,by decide+kernel⟩
 ·exact⟨by decide+kernel,boot_list,by decide+kernel⟩
theorem Jn:bR (G.ctx n) (.dU t a) L σ=M.bind (ao (G.ctx n) (.dU t a) L) dP σ:=by
 show M.bind (ao (G.ctx n) a L) (λx=>dU t x) σ=M.bind (M.bind (ao (G.ctx n) a L) λx=>M.bind (dU t x) λb=>M.pure (.bool b)) dP σ;unfold M.bind;cases ao (G.ctx n) a L σ with
|ok v ag=>simp only[];cases dU t v ag<;>rfl
|aF c ag=>rfl
|bad=>rfl
theorem Bb(hz:isNew e=true):∃p' p,e=.Call (.Name "Teller" p') [] [] p:=by obtain⟨⟨x,l⟩,hx,h⟩:=cJ hz;clear hz;replace hx:=sS hx;obtain⟨p',p,rfl⟩:=hx;rw[Bool.and_eq_true] at h;have h1:x=_:=of_decide_eq_true h.1;have h2:l=_:=List.isEmpty_iff.mp h.2;subst h1 h2;exact⟨p',p,rfl⟩
theorem Bc(h:(jV o||isNew o)=true):attributeBase o name env whole=whole:=by
 rcases Bool.or_eq_true_iff.mp h with h|h
 ·exact vx h
 ·refine gm (Bb h) λp' p a9=>?_;clear h;(clear h;subst a9);exact H7
theorem zU(h:twoArgs es args=true):(args=[]/\es=.nil)∨∃fO eD,args=[fO,eD]/\starEach [fO,eD] env=(false,eval fO env)::starEach [eD] env/\starEach [eD] env=[(false,eval eD env)]:=by
 rcases Bool.or_eq_true_iff.mp h with h|h
 ·rw[Bool.and_eq_true] at h;refine .inl ⟨List.isEmpty_iff.mp h.2,?_⟩;cases es with
  |nil=>rfl
  |cons e r=>cases h.1
 ·refine bB λXx aI=>?_;obtain⟨⟨a,b⟩,hx,h⟩:=cJ h;refine aI ?_;rw[Bool.and_eq_true] at h;exact .inr ⟨a,b,Cd hx,eg h.1,eg h.2⟩
section
variable{P:av->Prop}{e:av}{K:Kn}
theorem aT(h:(a&&b)=true):a=true/\b=true:=Bool.and_eq_true_iff.mp h
theorem rm(h:(kg e).any (λc'=>decide (c'=c))=true)(k:∀k p,P (.Constant c k p)):P e:=by replace h:=cJ h;obtain⟨x,hx,h⟩:=h;refine gm (sR hx) λq p a9=>?_;have hq:x=c:=of_decide_eq_true h;rw[a9,hq];exact k q p
theorem x6{N:List Str}{i:Nat}(h:(nameOf e).any (λx=>decide (N[i]?=some x)&&jD x)=true)(k:∀x p,N[i]?=some x->(x==("__debug__":Str))=false->P (.Name x p)):P e:=by replace h:=cJ h;obtain⟨x,hx,h⟩:=h;replace hx:=lX hx;obtain⟨p,rfl⟩:=hx;exact k x p (of_decide_eq_true (aT h).1) (vJ (aT h).2)
theorem Ot(h:(nameOf e).any (λx=>decide (y=x)&&eQ K x&&jD x)=true)(k:∀x p,y=x->eQ K x=true->(x==("__debug__":Str))=false->P (.Name x p)):P e:=by replace h:=cJ h;obtain⟨x,hx,h⟩:=h;replace hx:=lX hx;obtain⟨p,rfl⟩:=hx;exact k x p (of_decide_eq_true (aT (aT h).1).1) (aT (aT h).1).2 (vJ (aT h).2)
theorem x7(h:(rG e).any f=true)(k:∀l q p,f l=true->P (.Tuple l q p)):P e:=by replace h:=cJ h;obtain⟨x,hx,h⟩:=h;replace hx:=KT hx;obtain⟨q,p,rfl⟩:=hx;exact k x q p h
theorem x8(h:(xW e).any f=true)(k:∀l p,f l=true->P (.List l p)):P e:=by replace h:=cJ h;obtain⟨x,hx,h⟩:=h;replace hx:=KU hx;obtain⟨p,rfl⟩:=hx;exact k x p h
theorem D7{op:Operator}{f g:av->Bool}(h:(xX e).any (λx=>decide (x.1=op)&&f x.2.1&&g x.2.2)=true)(k:∀l r p,f l=true->g r=true->P (.BinOp l op r p)):P e:=by replace h:=cJ h;obtain⟨⟨o,l,r⟩,hx,h⟩:=h;replace hx:=KV hx;obtain⟨p,rfl⟩:=hx;have e1:o=op:=of_decide_eq_true (aT (aT h).1).1;subst e1;exact k l r p (aT (aT h).1).2 (aT h).2
theorem yH{op:UnaryOp}{f:av->Bool}(h:(rX e).any (λx=>decide (x.1=op)&&f x.2)=true)(k:∀l p,f l=true->P (.UnaryOp op l p)):P e:=by replace h:=cJ h;obtain⟨⟨o,l⟩,hx,h⟩:=h;replace hx:=MG hx;obtain⟨p,rfl⟩:=hx;have e1:o=op:=of_decide_eq_true (aT h).1;subst e1;exact k l p (aT h).2
theorem x9{op:CmpOp}{f g:av->Bool}(h:(uA e).any (λx=>decide (x.1=op)&&f x.2.1&&g x.2.2&&!(behindInMarks op x.2.2))=true)(k:∀l r p,f l=true->g r=true->behindInMarks op r=false->P (.Compare l [op] [r] p)):P e:=by replace h:=cJ h;obtain⟨⟨o,l,r⟩,hx,h⟩:=h;replace hx:=KW hx;obtain⟨p,rfl⟩:=hx;have h1:=aT (aT h).1;have e1:o=op:=of_decide_eq_true (aT h1.1).1;subst e1;exact k l r p (aT h1.1).2 h1.2 (Bool.not_inj (aT h).2)
theorem ud{op:BoolOp}{f:List av->Bool}(h:(vBool e).any (λx=>decide (x.1=op)&&f x.2)=true)(k:∀l p,f l=true->P (.BoolOp op l p)):P e:=by replace h:=cJ h;obtain⟨⟨o,l⟩,hx,h⟩:=h;replace hx:=Jj hx;obtain⟨p,rfl⟩:=hx;have e1:o=op:=of_decide_eq_true (aT h).1;subst e1;exact k l p (aT h).2
theorem uD{f g:av->Bool}(h:(k8 e).any (λx=>f x.1&&g x.2)=true)(k:∀l r p,f l=true->g r=true->(∀a b q,r≠.Slice a b none q)->P (.Subscript l r p)):P e:=by obtain⟨⟨l,r⟩,hx,h'⟩:=cJ h;refine aO (BC hx) λp e1 hs=>?_;refine e1▸?_;exact k l r p (aT h').1 (aT h').2 (GU hs)
theorem Ps{f:av->Bool}{g g':Option av->Bool}(h:(xY e).any (λx=>f x.1&&g x.2.1&&g' x.2.2)=true)(k:∀l lo hi p' p,f l=true->g lo=true->g' hi=true->P (.Subscript l (.Slice lo hi none p') p)):P e:=by replace h:=cJ h;obtain⟨⟨l,lo,hi⟩,hx,h⟩:=h;replace hx:=KX hx;obtain⟨p',p,rfl⟩:=hx;exact k l lo hi p' p (aT (aT h).1).1 (aT (aT h).1).2 (aT h).2
theorem uf{f:List av->Bool}{y:Str}(h:(mT e).any (λx=>f x.2&&decide (y=x.1)&&b&&eQ K x.1&&jD x.1&&tH x.2)=true)(k:∀x a l p' p,f (a::l)=true->y=x->b=true->eQ K x=true->(x==("__debug__":Str))=false->dk a=true->P (.Call (.Name x p') (a::l) [] p)):P e:=by
 replace h:=cJ h;obtain⟨⟨x,args⟩,hx,h⟩:=h;replace hx:=sS hx;obtain⟨p',p,rfl⟩:=hx;refine a5 (aT h) λh1 h6=>?_;refine a5 (aT h1) λh2 h5=>?_;refine a5 (aT h2) λh3 h4=>?_;refine a5 (aT h3) λh7 h8=>?_;refine a5 (aT h7) λh9 b7=>?_;clear h7 h3 h2 h1 h;cases args with
|nil=>exact ff h6
|cons a l=>exact k x a l p' p h9 (of_decide_eq_true b7) h8 h4 (vJ h5) h6
theorem k1{env:Env}(Z:dw env K){y:Str}{f:av->Bool}(h:(gs e).any (λx=>blt K x.1 y&&dk x.2&&f x.2)=true)(k:∀a p' p,env.kindOf y=some .globalImplicit->dk a=true->f a=true->P (.Call (.Name y p') [a] [] p)):P e:=by replace h:=cJ h;obtain⟨⟨x,a⟩,hx,h⟩:=h;replace hx:=A9 hx;obtain⟨p',p,rfl⟩:=hx;refine a5 (pd Z (aT (aT h).1).1) λe1 hk=>?_;have e1:x=y:=e1;subst e1;exact k a p' p hk (aT (aT h).1).2 (aT h).2
theorem D8{env:Env}(Z:dw env K){t:String}{f:av->Bool}(h:(call2 e).any (λx=>blt K x.1 "isinstance"&&(nameOf x.2.2).any (λy=>blt K y (Str.ofString t))&&decide (t∈gP)&&dk x.2.1&&f x.2.1)=true)(k:∀a q p' p,env.kindOf "isinstance"=some .globalImplicit->env.kindOf (Str.ofString t)=some .globalImplicit->t∈gP->dk a=true->f a=true->P (.Call (.Name "isinstance" p') [a,.Name (Str.ofString t) q] [] p)):P e:=by replace h:=cJ h;obtain⟨⟨x,a,b⟩,hx,h⟩:=h;replace hx:=Ba hx;obtain⟨p',p,rfl⟩:=hx;obtain⟨h1,h5⟩:=aT h;obtain⟨h2,h4⟩:=aT h1;obtain⟨h0,h3⟩:=aT h2;obtain⟨h7,h8⟩:=aT h0;obtain⟨e1,hk⟩:=pd Z h7;subst (e1);refine aO (cJ h8) λy hn h8=>?_;obtain⟨q,e2⟩:=lX hn;subst (e2);refine a5 (pd Z h8) λe3 hk'=>?_;clear h8;subst e3;exact k a q p' p hk hk' (of_decide_eq_true h3) h4 h5
theorem q6{N:List Str}{v:Nat}{bk:List Nat}{env:Env}(Z:dw env K){fi:List av->Scope->Bool}{f:av->Bool}{g:Scope->av->Bool}(h:(pH e).any (λx=>fi x.ifs x.scope&&f x.iter&&ju x.iter&&nT N K x.scope x.x v bk&&g x.scope x.elt)=true)(k:∀elt x px iter ifs scope p,fi ifs scope=true->f iter=true->ju iter=true->gQ N env scope x v bk->g scope elt=true->P (.ListComp elt [⟨.Name x px,iter,ifs,0⟩] scope p)):P e:=by replace h:=cJ h;refine bB λXx aI=>?_;obtain⟨⟨elt,x,iter,ifs,scope⟩,hx,h⟩:=h;replace hx:=A8 hx;obtain⟨px,p,rfl⟩:=hx;obtain⟨h1,h5⟩:=aT h;obtain⟨h2,h4⟩:=aT h1;obtain⟨h0,h3⟩:=aT h2;refine a5 (aT h0) λh7 h8=>?_;refine aI ?_;exact k elt x px iter ifs scope p h7 h8 h3 (zT Z h4) h5
theorem Cf{N:List Str}{v:Nat}{bk:List Nat}{env:Env}(Z:dw env K){f:av->Bool}{g:Scope->av->Bool}(h:(pH e).any (λx=>x.ifs.isEmpty&&(gs x.iter).any (λy=>blt K y.1 "range"&&dk y.2&&f y.2)&&nT N K x.scope x.x v bk&&g x.scope x.elt)=true)(k:∀elt x px a scope p' p'' p,f a=true->env.kindOf "range"=some .globalImplicit->dk a=true->gQ N env scope x v bk->g scope elt=true->P (.ListComp elt [⟨.Name x px,.Call (.Name "range" p') [a] [] p'',[],0⟩] scope p)):P e:=by replace h:=cJ h;obtain⟨⟨elt,x,iter,ifs,scope⟩,hx,h⟩:=h;replace hx:=A8 hx;obtain⟨px,p,rfl⟩:=hx;obtain⟨h1,h5⟩:=aT h;obtain⟨h2,h4⟩:=aT h1;obtain⟨h0,h3⟩:=aT h2;have e0:ifs=[]:=List.isEmpty_iff.mp h0;clear h0 h2 h1 h;subst e0;exact k1 (P:=λit=>P (.ListComp elt [⟨.Name x px,it,[],0⟩] scope p)) Z h3 λa p' p'' hk hn hf=>k elt x px a scope p' p'' p hf hk hn (zT Z h4) h5
end
theorem Aw(h:isNone x=true):x=.none:=by cases x<;>first|rfl|exact ff h
section
variable{P:av->Prop}{e:av}{K:Kn}
theorem Ou{env:Env}(Z:dw env K){y:Str}{f g:av->Bool}(h:(call2 e).any (λx=>blt K x.1 y&&dk x.2.1&&dk x.2.2&&f x.2.1&&g x.2.2)=true)(k:∀a b p' p,env.kindOf y=some .globalImplicit->dk a=true->dk b=true->f a=true->g b=true->P (.Call (.Name y p') [a,b] [] p)):P e:=by replace h:=cJ h;refine bB λXx aI=>?_;obtain⟨⟨x,a,b⟩,hx,h⟩:=h;replace hx:=Ba hx;obtain⟨p',p,rfl⟩:=hx;obtain⟨h1,h5⟩:=aT h;obtain⟨h2,h4⟩:=aT h1;obtain⟨h0,h3⟩:=aT h2;obtain⟨h7,h8⟩:=aT h0;obtain⟨e1,hk⟩:=pd Z h7;have e1:x=y:=e1;clear h7 h0 h2 h1 h;subst e1;refine aI ?_;exact k a b p' p hk h8 h3 h4 h5
theorem De{env:Env}(Z:dw env K){f:av->Bool}(h:(xu e).any (λx=>blt K "max" "max"&&dk x&&f x)=true)(k:∀a q p'' kp p' p,env.kindOf "max"=some .globalImplicit->dk a=true->f a=true->P (.Call (.Name "max" p') [a] [⟨some "default",.Constant (.int 0) q p'',kp⟩] p)):P e:=by replace h:=cJ h;obtain⟨a,hx,h⟩:=h;refine N8 (Jl hx) λp' p q p'' kp QK=>?_;clear hx;(clear De;subst QK);exact k a q p'' kp p' p (pd Z (aT (aT h).1).1).2 (aT (aT h).1).2 (aT h).2
theorem wV{m:Str}{f g:av->Bool}(h:(uc e).any (λx=>decide (x.1=m)&&dk x.2.2&&f x.2.1&&g x.2.2)=true)(k:∀o a ap p,jV o=true->(ap.endLine==p.line)=true->dk a=true->f o=true->g a=true->P (.Call (.Attribute o m ap) [a] [] p)):P e:=by refine bB λXx aI=>?_;obtain⟨⟨x,o,a⟩,hx,h'⟩:=cJ h;refine cW (Jm hx) λap p a9 hb hl=>?_;clear hx;(clear h wV;subst a9);refine a5 (aT h') λh1 h5=>?_;refine a5 (aT h1) λh2 h4=>?_;refine a5 (aT h2) λh0 h3=>?_;have e2:x=m:=of_decide_eq_true h0;subst e2;refine aI ?_;exact k o a ap p hb hl h3 h4 h5
theorem Dg{es:EL}{m:Str}{b:Bool}{f:av->Bool}{g:List av->Bool}(h:(ua e).any (λy=>decide (m=y.m)&&b&&(jV y.o||isNew y.o)&&(y.ap.endLine==y.p.line)&&twoArgs es y.args&&f y.o&&g y.args)=true)(k:∀o x l ap p,m=x->b=true->(jV o||isNew o)=true->(ap.endLine==p.line)=true->twoArgs es l=true->f o=true->g l=true->P (.Call (.Attribute o x ap) l [] p)):P e:=by replace h:=cJ h;refine bB λXx aI=>?_;obtain⟨⟨o,x,ap,p,l⟩,hx,h⟩:=h;refine a5 (aT h) λh1 h6=>?_;refine a5 (aT h1) λh2 h5=>?_;refine a5 (aT h2) λh3 h4=>?_;refine a5 (aT h3) λh7 h8=>?_;refine a5 (aT h7) λh9 b7=>?_;refine a5 (aT h9) λh11 h12=>?_;refine aI ?_;refine(A7 hx)▸?_;exact k o x l ap p (of_decide_eq_true h11) h12 b7 h8 h4 h5 h6
theorem Ov{x:Str}{f:av->Bool}(h:(n8 e).any (λy=>decide (x=("many":Str))&&decide (y.2=("many":Str))&&(nameOf y.1).isSome&&f y.1)=true)(k:∀y q p,x="many"->f (.Name y q)=true->P (.Attribute (.Name y q) "many" p)):P e:=by replace h:=cJ h;obtain⟨⟨o,z⟩,hx,h⟩:=h;replace hx:=v8 hx;obtain⟨p,rfl⟩:=hx;refine a5 (aT h) λh1 h4=>?_;refine a5 (aT h1) λh2 h3=>?_;refine a5 (aT h2) λh5 h6=>?_;obtain⟨y,hy⟩:=Option.isSome_iff_exists.mp h3;obtain⟨q,e1⟩:=lX hy;have e2:z=_:=of_decide_eq_true h6;subst (e1) e2;exact k y q p (of_decide_eq_true h5) h4
end
variable(a7:cD G)(F:iC G)(Y:Ao A n)(bO:j5 G n)
include a7 F Y bO
mutual
theorem bW:∀(x:E){K:Kn}{e:av}{env:Env},dw env K->bx G.aE N x K e=true->ba G n A N env x e
|.none,K,e,env,Z,hz=>rm hz λ_ _=>Kk
|.bool b,K,e,env,Z,hz=>rm hz λ_ _=>Kl
|.int b,K,e,env,Z,hz=>rm hz λ_ _=>B4
|.str b,K,e,env,Z,hz=>rm hz λ_ _=>Mp
|.aa i,K,e,env,Z,hz=>x6 hz λ_ _ h1 h2=>wK h1 h2
|.glob g,K,e,env,Z,hz=>Ot hz λ_ _ h1 h2 h3=>Km a7 h1 (Z.eQ h2) h3
|.aB es,K,e,env,Z,hz=>x7 hz λ_ _ _ h=>Mq (iS es Z h)
|.ah es,K,e,env,Z,hz=>x8 hz λ_ _ h=>B5 (iS es Z h)
|.aj op a b,K,e,env,Z,hz=>D7 hz λ_ _ _ h1 h2=>Mr (bW a Z h1) (bW b Z h2)
|.neg a,K,e,env,Z,hz=>yH hz λ_ _ h=>Ms (bW a Z h)
|.cmp op a b,K,e,env,Z,hz=>x9 hz λ_ _ _ h1 h2 h3=>Mu a7 Y (bW a Z h1) (bW b Z h2) h3
|.not a,K,e,env,Z,hz=>yH hz λ_ _ h=>Mv (bW a Z h)
|.and es,K,e,env,Z,hz=>ud hz λ_ _ h=>Mz (vK es Z h)
|.or es,K,e,env,Z,hz=>ud hz λ_ _ h=>Of (vK es Z h)
|.au a i,K,e,env,Z,hz=>uD hz λ_ _ _ h1 h2 h3=>wL a7 (bW a Z h1) (bW i Z h2) h3
|.slc a lo hi,K,e,env,Z,hz=>Ps (P:=ba G n A N env (.slc a lo hi)) (f:=bx G.aE N a K) (g:=λo=>tI o (isNone lo) λy=>bx G.aE N lo K y) (g':=λo=>tI o (isNone hi) λy=>bx G.aE N hi K y) hz λ_ lower upper _ _ h1 h2 h3=>
   Mw (bW a Z h1) (match lower,h2 with|none,h2=>Aw h2|some _,h2=>bW lo Z h2) (match upper,h3 with|none,h3=>Aw h3|some _,h3=>bW hi Z h3)
|.call f es,K,e,env,Z,hz=>uf hz λ_ _ _ _ _ h1 h2 h3 h4 h5 h6=>Bw a7 F Y bO (wU (aT h3).2) (iS es Z h1) h2 (aT h3).1 (Z.eQ h4) h5 (eg h6)
|.len a,K,e,env,Z,hz=>k1 Z hz λ_ _ _ h1 h2 h3=>Mx a7 (bW a Z h3) h1 (eg h2)
|.toInt a,K,e,env,Z,hz=>k1 Z hz λ_ _ _ h1 h2 h3=>I2 a7 (bW a Z h3) h1 (eg h2)
|.toStr a,K,e,env,Z,hz=>k1 Z hz λ_ _ _ h1 h2 h3=>I3 a7 (bW a Z h3) h1 (eg h2)
|.sum a,K,e,env,Z,hz=>k1 Z hz λ_ _ _ h1 h2 h3=>My a7 Y (bW a Z h3) h1 (eg h2)
|.list a,K,e,env,Z,hz=>k1 Z hz λ_ _ _ h1 h2 h3=>Kt a7 (bW a Z h3) h1 (eg h2)
|.tuple a,K,e,env,Z,hz=>k1 Z hz λ_ _ _ h1 h2 h3=>I4 a7 (bW a Z h3) h1 (eg h2)
|.dict a,K,e,env,Z,hz=>k1 Z hz λ_ _ _ h1 h2 h3=>Ku a7 (bW a Z h3) h1 (eg h2)
|.max2 a b,K,e,env,Z,hz=>Ou Z hz λ_ _ _ _ h1 h2 h3 h4 h5=>Kv a7 Y (bW a Z h4) (bW b Z h5) h1 (eg h2) (eg h3)
|.gT a,K,e,env,Z,hz=>De Z hz λ_ _ _ _ _ _ h1 h2 h3=>Kw a7 Y (bW a Z h3) h1 (eg h2)
|.dU t a,K,e,env,Z,hz=>D8 Z hz λ_ _ _ _ h1 h2 h3 h4 h5=>An a7 (bW a Z h5) h1 h2 (pw h3).1 (pw h3).2.1 (pw h3).2.2 (eg h4)
|.join a b,K,e,env,Z,hz=>wV hz λ_ _ _ _ hb hl h1 h2 h3=>Kx (bW a Z h2) (bW b Z h3) hb hl (eg h1)
|.comp elt v bk src,K,e,env,Z,hz=>q6 Z (fi:=λl _=>l.isEmpty) (f:=bx G.aE N src K) (g:=λs y=>bx G.aE N elt (fR K s.names) y) hz λ_ _ _ _ ifs _ _ h0 h1 h2 W h4=>by
   have e0:ifs=[]:=List.isEmpty_iff.mp h0;clear h0;subst e0;exact A4 Y (bW src Z h1) W h2 (λ_ _=>rfl) λcl C L it _=>qq (bW elt (Z.inner W cl C) h4)
|.fT elt v bk src t,K,e,env,Z,hz=>q6 Z (fi:=λl s=>(one l).any λte=>k9 G.aE N t (fR K s.names) te) (f:=bx G.aE N src K) (g:=λs y=>bx G.aE N elt (fR K s.names) y) hz λ_ _ _ _ ifs _ _ h0 h1 h2 W h4=>by
   refine aO (cJ h0) λte ho h5=>?_;have e0:ifs=[te]:=pn ho;clear ho h0;subst e0;exact A4 Y (bW src Z h1) W h2 (λ_ _=>rfl) λcl C L it _=>Ap (bW elt (Z.inner W cl C) h4) (pf t (Z.inner W cl C) h5)
|.fB elt v bk src,K,e,env,Z,hz=>Cf Z (f:=bx G.aE N src K) (g:=λs y=>bx G.aE N elt (fR K s.names) y) hz λ_ _ _ _ _ _ _ _ h1 h2 h3 W h4=>Jb a7 Y (bW src Z h1) W h2 (eg h3) λcl C _=>bW elt (Z.inner W cl C) h4
|.ay ks es,K,e,env,Z,hz=>by
  have hy:(xt e).any (λx=>x.1.isEmpty&&x.2.isEmpty&&ks.isEmpty&&qZ es)=true:=hz;obtain⟨⟨k',v'⟩,hx,h⟩:=cJ hy;replace hx:=Jk hx;obtain⟨p,rfl⟩:=hx
  ·simp only[Bool.and_eq_true,List.isEmpty_iff] at h;obtain⟨⟨⟨h1,h2⟩,rfl⟩,h4⟩:=h;obtain rfl:k'=[]:=h1;obtain rfl:v'=[]:=h2;clear hy hz;cases es with
   |nil=>exact Ky
   |cons a b=>exact ff h4
|.get _ _ _,K,e,env,Z,h=>absurd (show false=true from h) cy
|.kU _ _ _ _ _,K,e,env,Z,h=>absurd (show false=true from h) cy
|.cq f o es,K,e,env,Z,hz=>Dg hz λ_ _ _ _ _ h0 h1 h2 h3 h4 h5 h6=>KQ a7 F Y bO (wU (aT h1).2) (bW o Z h5) (iS es Z h6) h0 (not_iff (aT h1).1) (Bc h2) h3 (zU h4)
|.new c,K,e,env,Z,hz=>by
  have hy:(isNew e&&eQ K "Teller")=true:=hz;rw[Bool.and_eq_true] at hy;refine gm (Bb hy.1) λp' p a9=>?_;clear hz;subst a9;exact MF a7 Y (Z.eQ hy.2)
|.attr o x,K,e,env,Z,hz=>Ov hz λ_ _ _ h1 h2=>by(clear hz;subst h1);exact KR a7 (bW o Z h2)
theorem iS:∀(x:EL){K:Kn}{l:List av}{env:Env},dw env K->ja G.aE N x K l=true->f7 G n A N env x l
|.nil,K,l,env,Z,hz=>by
  have hy:l.isEmpty=true:=hz;rw[List.isEmpty_iff] at hy;(clear hz;subst hy);exact B6
|.cons x r,K,l,env,Z,hz=>by
  cases l with
  |nil=>exact absurd (show false=true from hz) cy
  |cons e t=>
   have h:(dk e&&bx G.aE N x K e&&ja G.aE N r K t)=true:=hz;simp only[Bool.and_eq_true] at h;exact Ko (bW x Z h.1.2) (iS r Z h.2) (eg h.1.1)
theorem vK:∀(x:EL){K:Kn}{l:List av}{env:Env},dw env K->pq G.aE N x K l=true->pD G n A N env op x l
|.nil,K,l,env,Z,h=>absurd (show false=true from h) cy
|.cons x .nil,K,l,env,Z,hz=>by
  have hy:(one l).any (λe=>bx G.aE N x K e)=true:=hz;refine aO (cJ hy) λe ho h=>?_;refine(pn ho)▸?_;exact Hl (bW x Z h)
|.cons x (.cons y z),K,l,env,Z,hz=>by
  cases l with
  |nil=>exact absurd (show false=true from hz) cy
  |cons e t=>
   have h':(bx G.aE N x K e&&pq G.aE N (.cons y z) K t)=true:=hz;rw[Bool.and_eq_true] at h';clear hz;cases t with
   |nil=>
    have h3:pq G.aE N (.cons y z) K []=true:=h'.2;clear h';cases z with
    |nil=>exact absurd (show false=true from h3) cy
    |cons u w=>exact absurd (show false=true from h3) cy
   |cons e' t=>exact Hm (bW x Z h'.1) (vK (.cons y z) Z h'.2)
theorem pf:∀(x:E){K:Kn}{e:av}{env:Env},dw env K->k9 G.aE N x K e=true->gZ G n A N env x e
|.not a,K,e,env,Z,hz=>yH hz λ_ _ h=>Kr (pf a Z h)
|.and es,K,e,env,Z,hz=>ud hz λ_ _ h=>Kz (vM es Z h)
|.or es,K,e,env,Z,hz=>ud hz λ_ _ h=>MA (vM es Z h)
|.cmp op a b,K,e,env,Z,hz=>x9 hz λ_ _ _ h1 h2 h3=>Kq a7 Y (bW a Z h1) (bW b Z h2) h3
|.aa i,K,e,env,Z,hz=>x6 hz λ_ _ h1 h2=>ti (wK h1 h2) (λ_ _=>rfl) rfl
|.call f es,K,e,env,Z,hz=>uf hz λ_ _ _ _ _ h1 h2 h3 h4 h5 h6=>ti (Bw a7 F Y bO (wU (aT h3).2) (iS es Z h1) h2 (aT h3).1 (Z.eQ h4) h5 (eg h6)) (λ_ _=>rfl) rfl
|.dU t a,K,e,env,Z,hz=>D8 Z hz λ_ _ _ _ h1 h2 h3 h4 h5=>ti (An a7 (bW a Z h5) h1 h2 (pw h3).1 (pw h3).2.1 (pw h3).2.2 (eg h4)) (λ_ _=>Jn) rfl
|.au a i,K,e,env,Z,hz=>uD hz λ_ _ _ h1 h2 h3=>ti (wL a7 (bW a Z h1) (bW i Z h2) h3) (λ_ _=>rfl) rfl
|.none,K,e,env,Z,h=>absurd (show false=true from h) cy
|.bool _,K,e,env,Z,h=>absurd (show false=true from h) cy
|.int _,K,e,env,Z,h=>absurd (show false=true from h) cy
|.str _,K,e,env,Z,h=>absurd (show false=true from h) cy
|.glob _,K,e,env,Z,h=>absurd (show false=true from h) cy
|.aB _,K,e,env,Z,h=>absurd (show false=true from h) cy
|.ah _,K,e,env,Z,h=>absurd (show false=true from h) cy
|.ay _ _,K,e,env,Z,h=>absurd (show false=true from h) cy
|.aj _ _ _,K,e,env,Z,h=>absurd (show false=true from h) cy
|.neg _,K,e,env,Z,h=>absurd (show false=true from h) cy
|.kU _ _ _ _ _,K,e,env,Z,h=>absurd (show false=true from h) cy
|.slc _ _ _,K,e,env,Z,h=>absurd (show false=true from h) cy
|.cq _ _ _,K,e,env,Z,h=>absurd (show false=true from h) cy
|.new _,K,e,env,Z,h=>absurd (show false=true from h) cy
|.attr _ _,K,e,env,Z,h=>absurd (show false=true from h) cy
|.len _,K,e,env,Z,h=>absurd (show false=true from h) cy
|.toInt _,K,e,env,Z,h=>absurd (show false=true from h) cy
|.toStr _,K,e,env,Z,h=>absurd (show false=true from h) cy
|.sum _,K,e,env,Z,h=>absurd (show false=true from h) cy
|.gT _,K,e,env,Z,h=>absurd (show false=true from h) cy
|.max2 _ _,K,e,env,Z,h=>absurd (show false=true from h) cy
|.list _,K,e,env,Z,h=>absurd (show false=true from h) cy
|.tuple _,K,e,env,Z,h=>absurd (show false=true from h) cy
|.dict _,K,e,env,Z,h=>absurd (show false=true from h) cy
|.join _ _,K,e,env,Z,h=>absurd (show false=true from h) cy
|.get _ _ _,K,e,env,Z,h=>absurd (show false=true from h) cy
|.comp _ _ _ _,K,e,env,Z,h=>absurd (show false=true from h) cy
|.fT _ _ _ _ _,K,e,env,Z,h=>absurd (show false=true from h) cy
|.fB _ _ _ _,K,e,env,Z,h=>absurd (show false=true from h) cy
theorem vM:∀(x:EL){K:Kn}{l:List av}{env:Env},dw env K->q5 G.aE N x K l=true->pE G n A N env op x l
|.nil,K,l,env,Z,hz=>by
  have hy:l.isEmpty=true:=hz;rw[List.isEmpty_iff] at hy;(clear hz;subst hy);exact HU
|.cons x r,K,l,env,Z,hz=>by
  cases l with
  |nil=>exact absurd (show false=true from hz) cy
  |cons e t=>
   have h:(k9 G.aE N x K e&&q5 G.aE N r K t)=true:=hz;simp only[Bool.and_eq_true] at h;exact Hn (pf x Z h.1) (vM r Z h.2)
end
end
end Qh
namespace Qh
open PySem PyProof.Rows
section
variable{G:Gd}{n:Nat}{A:Around}{N:List Str}
theorem oU(h:jv e=true)(t:Option av)(l:Nat)(env:Env):swapsWith e t l env=pure false:=by cases e<;>first|rfl|exact ff h
theorem vd{env:Env}{K:Kn}(Z:dw env K):interactive env=false:=by unfold interactive;(refine(Z.kind)▸?_);rfl
theorem vy:∃b:Bool,swapsWith (.ListComp elt gens scope p) (some (.Name y py)) l env=pure b:=⟨_,rfl⟩
variable(a7:cD G)(F:iC G)(Y:Ao A n)(bO:j5 G n)
include a7 F Y bO
theorem H9{i:Nat}{x:E}{K:Kn}{y:Str}(Z:dw env K)(hz:bx G.aE N x K e=true)(hy:N[i]?=some y)(hl:eR K y=true)(hc:jv e=true∨pb x=true):dC G n A N env (.aL i x) (.Assign [.Name y py] e p):=by
 have hE:=bW a7 F Y bO x Z hz
 by_cases hn:jv e=true
 ·exact tG hE hy (Z.eR hl) (oU hn ..)
 ·have hx:pb x=true:=hc.resolve_left hn;clear hc;cases x with
  |comp elt v bk src=>
   refine q6 (P:=λe=>ba G n A N env (.comp elt v bk src) e->dC G n A N env (.aL i (.comp elt v bk src)) (.Assign [.Name y py] e p)) Z (fi:=λl _=>l.isEmpty) (f:=bx G.aE N src K) (g:=λs y=>bx G.aE N elt (fR K s.names) y) hz (λ_ _ _ _ ifs _ _ h0 h1 h2 W h4 hE=>?_) hE;have e0:ifs=[]:=List.isEmpty_iff.mp h0;clear h0;subst e0;obtain⟨b,hb⟩:=vy;cases b with
   |false=>exact tG hE hy (Z.eR hl) hb
   |true=>exact zE Y (bW a7 F Y bO src Z h1) W h2 (λ_ _=>rfl) (λcl C L it _=>qq (bW a7 F Y bO elt (Z.inner W cl C) h4)) hy (Z.eR hl) hb
  |fT elt v bk src t=>
   refine q6 (P:=λe=>ba G n A N env (.fT elt v bk src t) e->dC G n A N env (.aL i (.fT elt v bk src t)) (.Assign [.Name y py] e p)) Z (fi:=λl s=>(one l).any λte=>k9 G.aE N t (fR K s.names) te) (f:=bx G.aE N src K) (g:=λs y=>bx G.aE N elt (fR K s.names) y) hz (λ_ _ _ _ ifs _ _ h0 h1 h2 W h4 hE=>?_) hE;refine aO (cJ h0) λte ho h5=>?_;have e0:ifs=[te]:=pn ho;clear ho h0;subst e0;obtain⟨b,hb⟩:=vy;cases b with
   |false=>exact tG hE hy (Z.eR hl) hb
   |true=>exact zE Y (bW a7 F Y bO src Z h1) W h2 (λ_ _=>rfl) (λcl C L it _=>Ap (bW a7 F Y bO elt (Z.inner W cl C) h4) (pf a7 F Y bO t (Z.inner W cl C) h5)) hy (Z.eR hl) hb
  |fB elt v bk src=>
   refine Cf (P:=λe=>ba G n A N env (.fB elt v bk src) e->dC G n A N env (.aL i (.fB elt v bk src)) (.Assign [.Name y py] e p)) Z (f:=bx G.aE N src K) (g:=λs y=>bx G.aE N elt (fR K s.names) y) hz (λ_ _ _ _ _ _ _ _ h1 h2 h3 W h4 hE=>?_) hE;obtain⟨b,hb⟩:=vy;cases b with
   |false=>exact tG hE hy (Z.eR hl) hb
   |true=>exact G1 a7 Y (bW a7 F Y bO src Z h1) W h2 (eg h3) (λcl C _=>bW a7 F Y bO elt (Z.inner W cl C) h4) hy (Z.eR hl) hb
  |_=>exact ff hx
omit a7 F Y bO in
theorem Ax{N:List Str}{K:Kn}(h:tgt N K i t=true):∃y p,t=.Name y p/\N[i]?=some y/\eR K y=true:=by refine aO (cJ h) λy hn h'=>?_;replace hn:=lX hn;obtain⟨p,rfl⟩:=hn;rw[Bool.and_eq_true] at h';exact⟨y,p,rfl,of_decide_eq_true h'.1,h'.2⟩
omit a7 F Y bO in
theorem BE{N:List Str}{K:Kn}(Z:dw env K):∀{is:List Nat}{l:List av},tgts N K is l=true->jK N env is l
|[],l,h=>by
  have h:l.isEmpty=true:=h
  (refine(List.isEmpty_iff.mp h)▸?_);exact .nil
|i::is,[],h=>absurd (show false=true from h) cy
|i::is,t::l,h=>by
  have h:(tgt N K i t&&tgts N K is l)=true:=h;rw[Bool.and_eq_true] at h;refine cW (Ax h.1) λy p e hy hl=>?_;refine e▸?_;exact .cons hy (Z.eR hl) (BE Z h.2)
end
theorem cD.re(K:cD G)(R:List Addr):cD (G.re R):=⟨K.nolimit,K.CW,K.DX,K.script,K.short,let ⟨mg,N,mN,h1,h2,T⟩:=K.tell;⟨mg,N,mN,h1,h2,⟨T.cls,T.q1,T.q2,T.q3,T.q4,T.meths,T.EW⟩⟩⟩
section
variable{P:Stmt->Prop}{st:Stmt}
theorem pT{P:av->Prop}{N:List Str}{K:Kn}(h:tgt N K i t=true)(k:∀y p,N[i]?=some y->eR K y=true->P (.Name y p)):P t:=by refine cW (Ax h) λy p a9 h1 h2=>?_;clear h;subst a9;exact k y p h1 h2
theorem pU{f:av->av->Bool}(h:(mZ st).any (λy=>f y.1 y.2)=true)(k:∀t e p,f t e=true->P (.Assign [t] e p)):P st:=by replace h:=cJ h;obtain⟨⟨t,e⟩,hv,h⟩:=h;replace hv:=BD hv;obtain⟨p,rfl⟩:=hv;exact k t e p h
theorem ya(h:(uB st).any f=true)(k:∀e p,f e=true->P (.Expr e p)):P st:=by replace h:=cJ h;obtain⟨e,hv,h⟩:=h;replace hv:=KZ hv;obtain⟨p,rfl⟩:=hv;exact k e p h
theorem D9{f:av->Bool}{g g':List Stmt->Bool}(h:(xZ st).any (λy=>f y.1&&g y.2.1&&g' y.2.2)=true)(k:∀c t e p,f c=true->g t=true->g' e=true->P (.If c t e p)):P st:=by replace h:=cJ h;obtain⟨⟨c,t,e⟩,hv,h⟩:=h;replace hv:=K1 hv;obtain⟨p,rfl⟩:=hv;exact k c t e p (aT (aT h).1).1 (aT (aT h).1).2 (aT h).2
theorem yI{f:av->av->Bool}{g:List Stmt->Bool}(h:(uO st).any (λy=>f y.1 y.2.1&&g y.2.2)=true)(k:∀t it b p,f t it=true->g b=true->P (.For t it b [] p)):P st:=by replace h:=cJ h;obtain⟨⟨t,it,b⟩,hv,h⟩:=h;replace hv:=MI hv;obtain⟨p,rfl⟩:=hv;exact k t it b p (aT h).1 (aT h).2
theorem yb(h:(uC st).any (λy=>y.any f)=true)(k:∀e p,f e=true->P (.Return (some e) p)):P st:=by refine aO (cJ h) λy hv h'=>?_;refine bZ (K2 hv) λp e0=>?_;refine aO (cJ h') λe e1 h2=>?_;refine e0▸?_;refine e1▸?_;exact k e p h2
end
theorem MK{G:Gd}{n:Nat}{A:Around}{N:List Str}{env:Env}{is:List Nat}(Y:Ao A n)(hE:ba G n A N env x e)(T:jK N env is l)(h:(nameOf e).isSome=true∨(k8 e).isSome=true):dC G n A N env (.gY is x) (.Assign [.Tuple l k p'] e p):=by
 rcases h with h|h
 ·obtain⟨y,hy⟩:=Option.isSome_iff_exists.mp h;replace hy:=lX hy;obtain⟨py,rfl⟩:=hy;exact Cb Y hE T rfl rfl
 ·obtain⟨⟨y1,y2⟩,hy⟩:=Option.isSome_iff_exists.mp h;refine aO (BC hy) λpy e2 _=>?_;clear hy;subst (e2);exact Cb Y hE T rfl rfl
theorem ML{P:av->Prop}{e:av}{x:Str}{f:av->Bool}(h:(n8 e).any (λy=>decide (x=("many":Str))&&decide (y.2=("many":Str))&&f y.1)=true)(k:∀o p,x="many"->f o=true->P (.Attribute o "many" p)):P e:=by replace h:=cJ h;obtain⟨⟨o,z⟩,hx,h⟩:=h;replace hx:=v8 hx;obtain⟨p,rfl⟩:=hx;refine a5 (aT h) λh1 h4=>?_;refine a5 (aT h1) λh5 h6=>?_;have e2:z=_:=of_decide_eq_true h6;clear h6 h1 h;subst e2;exact k o p (of_decide_eq_true h5) h4
section
variable{G:Gd}{n:Nat}{A:Around}{N:List Str}
variable(a7:cD G)(F:iC G)(Y:Ao A n)(bO:∀R,j5 (G.re R) n)
include a7 F Y bO
mutual
theorem tm{K:Kn}{env:Env}(Z:dw env K):∀(x:S){st:Stmt},m3 G.aE N K x st=true->∀R,dC (G.re R) n A N env x st
|.aL i x,st,hz,R=>pU (P:=dC (G.re R) n A N env (.aL i x)) (f:=λt e=>tgt N K i t&&bx G.aE N x K e&&(jv e||pb x)) hz λt e p h=>
   pT (P:=λt=>dC (G.re R) n A N env (.aL i x) (.Assign [t] e p)) (aT (aT h).1).1 λ_ _ hy hl=>H9 (G:=G.re R) (a7.re R) F Y (bO R) Z (aT (aT h).1).2 hy hl (Bool.or_eq_true_iff.mp (aT h).2)
|.eX o i x,st,hz,R=>pU (P:=dC (G.re R) n A N env (.eX o i x)) (f:=λt e=>(k8 t).any (λz:av×av=>bx G.aE N o K z.1&&bx G.aE N i K z.2)&&bx G.aE N x K e&&jv e) hz λt e p h=>
   uD (P:=λt=>dC (G.re R) n A N env (.eX o i x) (.Assign [t] e p)) (f:=bx G.aE N o K) (g:=bx G.aE N i K) (aT (aT h).1).1 λ_ _ _ h1 h2 _=>KN (bW (a7.re R) F Y (bO R) x Z (aT (aT h).1).2) (bW (a7.re R) F Y (bO R) o Z h1) (bW (a7.re R) F Y (bO R) i Z h2) (oU (aT h).2 ..)
|.append o x,st,hz,R=>ya hz λe p h=>
   wV (P:=λe=>dC (G.re R) n A N env (.append o x) (.Expr e p)) (m:="append") (f:=bx G.aE N o K) h λ_ _ _ _ hb hl h1 h2 h3=>H5 (bW (a7.re R) F Y (bO R) o Z h2) (bW (a7.re R) F Y (bO R) x Z h3) hb hl (vd Z) (eg h1)
|.expr x,st,hz,R=>ya hz λe p h=>KG (bW (a7.re R) F Y (bO R) x Z (aT h).1) (vd Z) (oU (aT h).2 ..)
|.ite c t e,st,hz,R=>D9 hz λ_ _ _ _ h1 h2 h3=>ME (pf (a7.re R) F Y (bO R) c Z h1) (mj Z t h2 R) (mj Z e h3 R)
|.pL _ _,st,h,_=>absurd (show false=true from h) cy
|.ki i x b,st,hz,R=>yI (P:=dC (G.re R) n A N env (.ki i x b)) (f:=λt it=>tgt N K i t&&bx G.aE N x K it&&ju it) (g:=gu G.aE N K b) hz λt it bd p h hb=>
   pT (P:=λt=>dC (G.re R) n A N env (.ki i x b) (.For t it bd [] p)) (aT (aT h).1).1 λ_ _ hy hl=>KL Y (bW (G:=G.re R) (a7.re R) F Y (bO R) x Z (aT (aT h).1).2) (mj Z b hb R) (aT h).2 hy (Z.eR hl)
|.eM i x b,st,hz,R=>yI (P:=dC (G.re R) n A N env (.eM i x b)) (f:=λt it=>tgt N K i t&&(gs it).any (λz:Str×av=>blt K z.1 "range"&&dk z.2&&bx G.aE N x K z.2)) (g:=gu G.aE N K b) hz λt it bd p h hb=>
   pT (P:=λt=>dC (G.re R) n A N env (.eM i x b) (.For t it bd [] p)) (aT h).1 λy py hy hl=>k1 (P:=λit=>dC (G.re R) n A N env (.eM i x b) (.For (.Name y py) it bd [] p)) Z (y:="range") (aT h).2 λ_ _ _ hk hn hx=>KM (a7.re R) Y (bW (a7.re R) F Y (bO R) x Z hx) (mj Z b hb R) hy (Z.eR hl) hk (eg hn)
|.ret x,st,hz,R=>yb hz λ_ _ h=>Ca (bW (a7.re R) F Y (bO R) x Z h)
|.pM,st,h,_=>absurd (show false=true from h) cy
|.gY is x,st,hz,R=>pU (P:=dC (G.re R) n A N env (.gY is x)) (f:=λt e=>(rG t).any (λl=>tgts N K is l)&&bx G.aE N x K e&&((nameOf e).isSome||(k8 e).isSome)) hz λt e p h=>
   x7 (P:=λt=>dC (G.re R) n A N env (.gY is x) (.Assign [t] e p)) (f:=λl=>tgts N K is l) (aT (aT h).1).1 λl _ _ hl=>MK Y (bW (G:=G.re R) (a7.re R) F Y (bO R) x Z (aT (aT h).1).2) (BE Z hl) (Bool.or_eq_true_iff.mp (aT h).2)
|.jd o x iI,st,hz,R=>pU (P:=dC (G.re R) n A N env (.jd o x iI)) (f:=λt e=>(n8 t).any (λz:av×Str=>decide (x=("many":Str))&&decide (z.2=("many":Str))&&bx G.aE N o K z.1)&&bx G.aE N iI K e&&jv e) hz λt e p h=>
   ML (P:=λt=>dC (G.re R) n A N env (.jd o x iI) (.Assign [t] e p)) (f:=bx G.aE N o K) (aT (aT h).1).1 λ_ _ h1 h2=>by(clear hz;subst h1);exact KS (a7.re R) (bW (G:=G.re R) (a7.re R) F Y (bO R) iI Z (aT (aT h).1).2) (bW (G:=G.re R) (a7.re R) F Y (bO R) o Z h2) (oU (aT h).2 ..)
|.update _ _,st,h,_=>absurd (show false=true from h) cy
|.rv _ _ _ _ _,st,h,_=>absurd (show false=true from h) cy
|.raise _ _,st,hz,_=>Jh
|.gU _ _ _,st,h,_=>absurd (show false=true from h) cy
theorem mj{K:Kn}(Z:dw env K):∀(x:SL){l:List Stmt},gu G.aE N K x l=true->∀R,ij (G.re R) n A N env x l
|.nil,l,hz,R=>by
  have hq:l.isEmpty=true:=hz;rw[List.isEmpty_iff] at hq;(clear hz;subst hq);exact wi
|.cons x r,l,hz,R=>by
  cases l with
  |nil=>exact absurd (show false=true from hz) cy
  |cons st t=>
   obtain⟨h1,h2⟩:=aT (show(m3 G.aE N K x st&&gu G.aE N K r t)=true from hz);exact A5 (tm Z x h1 R) (mj Z r h2 R)
end
end
end Qh
namespace Qh
open PySem PySem.W PyProof.Rows
section
variable{t:Nat}
theorem bD.fc{α:Type}{xs:List α}{k:Int}:bD t (fc xs k):=.ite .cX .fail
theorem bD.index{C:Ctx}{a i:V}:bD t (index C a i):=by cases a<;>first|exact .fail|(cases i<;>first|exact .fail|exact .fc|exact .bind .fc λ_=>.pure|exact .bind .bH λ_=>.fc|exact .bind .cP λo=>(by cases o<;>first|exact .fail|exact .cX))
theorem bD.ke{α:Type}{xs:List α}{lo hi:V}:bD t (ke xs lo hi):=by cases lo<;>first|exact .fail|(cases hi<;>first|exact .fail|exact .ite .pure .fail)
theorem bD.slice{a lo hi:V}:bD t (slice a lo hi):=by cases a<;>first|exact .fail|exact .bind .ke λ_=>.ite .pure .fail|exact .bind .bH λ_=>.bind .ke λ_=>.ite .cY .fail
theorem bD.lenOf{C:Ctx}{a:V}:bD t (lenOf C a):=by cases a<;>first|exact .fail|exact .pure|exact .ite .pure .fail|exact .bind .bH λ_=>.ite .pure .fail
theorem bD.pB{a:V}:bD t (pB a):=by cases a<;>first|exact .fail|exact .ite .cY .fail
theorem bD.mK{a:V}:bD t (mK a):=by cases a<;>first|exact .fail|exact .bind .cP λo=>(by cases o<;>first|exact .fail|exact .ite .cY .fail)
theorem bD.iD{i:Nat}{o:O}:bD t (iD i o):=λ_ _ e=>by exact p7 e
theorem bD.iu{o i e:V}:bD t (iu o i e):=by cases o<;>first|exact .fail|(cases i<;>first|exact .fail|exact .bind .bH λ_=>.ite .iD .fail|exact .bind .cP λo=>(by cases o<;>first|exact .fail|exact .ite .iD .fail))
theorem bD.dK{s:Src}{k:Nat}:bD t (dK s k):=by cases s<;>first|exact .pure|exact .bind .bH λ_=>.pure
theorem bD.di{s:Src}{f:V->M (Option V)}(h:∀v,bD t (f v)):∀n k,bD t (di s f n k)
|0,_=>.fail
|n+1,k=>.bind .dK λx=>match x with
  |none=>.pure
  |some v=>.bind (h v) λ_=>.bind (bD.di h n (k+1)) λ_=>.pure
end
section
variable(q:Nat->Bool)(t:Nat)
mutual
noncomputable def dn:E->Bool
|.none=>true
|.bool _=>true
|.int _=>true
|.str _=>true
|.aa _=>true
|.glob _=>true
|.new _=>true
|.aB es=>iw es
|.ah es=>iw es
|.ay _ es=>iw es
|.aj _ a b=>dn a&&dn b
|.cmp _ a b=>dn a&&dn b
|.au a b=>dn a&&dn b
|.slc a b c=>dn a&&dn b&&dn c
|.not a=>dn a
|.and es=>iw es
|.or es=>iw es
|.call f es=>q f&&iw es
|.cq f o es=>q f&&dn o&&iw es
|.attr o _=>dn o
|.len a=>dn a
|.toInt a=>dn a
|.toStr a=>dn a
|.sum a=>dn a
|.gT a=>dn a
|.list a=>dn a
|.dict a=>dn a
|.comp a _ _ b=>dn a&&dn b
|_=>false
noncomputable def iw:EL->Bool
|.nil=>true
|.cons e r=>dn e&&iw r
end
mutual
noncomputable def tJ:S->Bool
|.aL _ e=>dn q e
|.gY _ e=>dn q e
|.eX a b c=>dn q a&&dn q b&&dn q c
|.jd a _ c=>dn q a&&dn q c
|.expr e=>dn q e
|.ite c a b=>dn q c&&mx a&&mx b
|.ret e=>dn q e
|.pM=>true
|.raise c _=>!decide (c=t)
|_=>false
noncomputable def mx:SL->Bool
|.nil=>true
|.cons s r=>tJ s&&mx r
end
end
theorem qf{P:Prop}(h:false=true):P:=absurd h cy
theorem qa{a b:Bool}(h:(a&&b)=true):a=true/\b=true:=Bool.and_eq_true_iff.mp h
section
variable{q:Nat->Bool}{t:Nat}{C:Ctx}(hC:∀f vs,q f=true->bD t (C.call f vs))
include hC
mutual
theorem dh:∀(x:E),dn q x=true->∀L,bD t (ao C x L)
|.none,_,_=>.pure
|.bool _,_,_=>.pure
|.int _,_,_=>.pure
|.str _,_,_=>.pure
|.aa _,_,_=>.cX
|.glob _,_,_=>.cX
|.new _,_,_=>.bind .cY λd=>(by cases d<;>first|exact .fail|exact .cY)
|.aB es,h,L=>.bind (nJ es h L) λ_=>.ite .pure .fail
|.ah es,h,L=>.bind (nJ es h L) λ_=>.ite .cY .fail
|.ay _ es,h,L=>.bind (nJ es h L) λ_=>.ite .cY .fail
|.aj _ a b,h,L=>.bind (dh a (qa h).1 L) λ_=>.bind (dh b (qa h).2 L) λ_=>.binop
|.cmp _ a b,h,L=>.bind (dh a (qa h).1 L) λ_=>.bind (dh b (qa h).2 L) λ_=>.bind .dJ λ_=>.pure
|.au a b,h,L=>.bind (dh a (qa h).1 L) λ_=>.bind (dh b (qa h).2 L) λ_=>.index
|.slc a b c,h,L=>.bind (dh a (qa (qa h).1).1 L) λ_=>.bind (dh b (qa (qa h).1).2 L) λ_=>.bind (dh c (qa h).2 L) λ_=>.slice
|.not a,h,L=>.bind (dh a h L) λ_=>.bind .dP λ_=>.pure
|.and es,h,L=>Ay es h L
|.or es,h,L=>Bd es h L
|.call f es,h,L=>.bind (nJ es (qa h).2 L) λvs=>hC f vs (qa h).1
|.cq f o es,h,L=>.bind (dh o (qa (qa h).1).2 L) λx=>.bind .ib λ_=>.bind (nJ es (qa h).2 L) λvs=>hC f _ (qa (qa h).1).1
|.attr o _,h,L=>.bind (dh o h L) λ_=>.bind .ib λ_=>.pure
|.len a,h,L=>.bind (dh a h L) λ_=>.lenOf
|.toInt a,h,L=>.bind (dh a h L) λ_=>.bind .dP λ_=>.pure
|.toStr a,h,L=>.bind (dh a h L) λ_=>.bind .du λ_=>.ite .pure .fail
|.sum a,h,L=>.bind (dh a h L) λ_=>.bind .bH λ_=>.bind .cX λ_=>.pure
|.gT a,h,L=>.bind (dh a h L) λ_=>.bind .bH λ_=>.bind .cX λ_=>.pure
|.list a,h,L=>.bind (dh a h L) λ_=>.pB
|.dict a,h,L=>.bind (dh a h L) λ_=>.mK
|.comp a v bk b,h,L=>.bind (dh b (qa h).2 L) λ_=>.bind .srcOf λ_=>.bind .eU λ_=>.ite (.bind (.di (λit=>.bind (dh a (qa h).1 _) λ_=>.pure) _ _) λ_=>.cY) .fail
|.neg _,h,_=>qf h
|.kU _ _ _ _ _,h,_=>qf h
|.max2 _ _,h,_=>qf h
|.dU _ _,h,_=>qf h
|.tuple _,h,_=>qf h
|.join _ _,h,_=>qf h
|.get _ _ _,h,_=>qf h
|.fT _ _ _ _ _,h,_=>qf h
|.fB _ _ _ _,h,_=>qf h
theorem nJ:∀(x:EL),iw q x=true->∀L,bD t (dc C x L)
|.nil,_,_=>.pure
|.cons e r,h,L=>.bind (dh e (qa h).1 L) λ_=>.bind (nJ r (qa h).2 L) λ_=>.pure
theorem Ay:∀(x:EL),iw q x=true->∀L,bD t (mO C x L)
|.nil,_,_=>.fail
|.cons e .nil,h,L=>.bind (dh e (qa h).1 L) λ_=>.bind .dP λ_=>.pure
|.cons e (.cons y r),h,L=>.bind (dh e (qa h).1 L) λ_=>.bind .dP λ_=>.ite (Ay (.cons y r) (qa h).2 L) .pure
theorem Bd:∀(x:EL),iw q x=true->∀L,bD t (rA C x L)
|.nil,_,_=>.fail
|.cons e .nil,h,L=>.bind (dh e (qa h).1 L) λ_=>.bind .dP λ_=>.pure
|.cons e (.cons y r),h,L=>.bind (dh e (qa h).1 L) λ_=>.bind .dP λ_=>.ite .pure (Bd (.cons y r) (qa h).2 L)
theorem qQ:∀(x:E),dn q x=true->∀L,bD t (bR C x L)
|.not a,h,L=>.bind (qQ a h L) λ_=>.pure
|.and es,h,L=>Az es h L
|.or es,h,L=>AA es h L
|.cmp _ a b,h,L=>.bind (dh a (qa h).1 L) λ_=>.bind (dh b (qa h).2 L) λ_=>.dJ
|.bool _,_,_=>.pure
|.aa _,_,_=>.bind .cX λ_=>.dP
|.call f es,h,L=>.bind (.bind (nJ es (qa h).2 L) λvs=>hC f vs (qa h).1) λ_=>.dP
|.au a b,h,L=>.bind (.bind (dh a (qa h).1 L) λ_=>.bind (dh b (qa h).2 L) λ_=>.index) λ_=>.dP
|.dU _ _,h,_=>qf h
|.kU _ _ _ _ _,h,_=>qf h
|.none,_,_=>.fail
|.int _,_,_=>.fail
|.str _,_,_=>.fail
|.glob _,_,_=>.fail
|.aB _,_,_=>.fail
|.ah _,_,_=>.fail
|.ay _ _,_,_=>.fail
|.aj _ _ _,_,_=>.fail
|.neg _,_,_=>.fail
|.slc _ _ _,_,_=>.fail
|.cq _ _ _,_,_=>.fail
|.new _,_,_=>.fail
|.attr _ _,_,_=>.fail
|.len _,_,_=>.fail
|.toInt _,_,_=>.fail
|.toStr _,_,_=>.fail
|.sum _,_,_=>.fail
|.gT _,_,_=>.fail
|.max2 _ _,_,_=>.fail
|.list _,_,_=>.fail
|.tuple _,_,_=>.fail
|.dict _,_,_=>.fail
|.join _ _,_,_=>.fail
|.get _ _ _,_,_=>.fail
|.comp _ _ _ _,_,_=>.fail
|.fT _ _ _ _ _,_,_=>.fail
|.fB _ _ _ _,_,_=>.fail
theorem Az:∀(x:EL),iw q x=true->∀L,bD t (jy C x L)
|.nil,_,_=>.pure
|.cons e r,h,L=>.bind (qQ e (qa h).1 L) λ_=>.ite (Az r (qa h).2 L) .pure
theorem AA:∀(x:EL),iw q x=true->∀L,bD t (jz C x L)
|.nil,_,_=>.pure
|.cons e r,h,L=>.bind (qQ e (qa h).1 L) λ_=>.ite .pure (AA r (qa h).2 L)
end
def eL{α:Type}(t:Nat)(m:Qh.N α):Prop:=∀L σ L' ag,m L σ≠.aF t L' ag
omit hC in
theorem eL.lift{α β:Type}{m:aR->M α}{f:α->Qh.N β}(h:∀L,bD t (m L))(h2:∀a,eL t (f a)):eL t (Qh.N.bind (Qh.N.lift m) f):=λL σ L' ag e=>by
 rcases o0 e with ⟨_,z⟩|⟨a,ax,_,z⟩
 ·exact h L _ _ z
 ·exact h2 a _ _ _ _ z
omit hC in
theorem eL.bind{α β:Type}{m:Qh.N α}{f:α->Qh.N β}(h:eL t m)(h2:∀a,eL t (f a)):eL t (Qh.N.bind m f):=λL σ L' ag e=>by
 rcases sG e with z|⟨a,ek,ax,_,z⟩
 ·exact h _ _ _ _ z
 ·exact h2 a _ _ _ _ z
omit hC in
theorem eL.pure{α:Type}{a:α}:eL t (Qh.N.pure a):=λ_ _ _ _ e=>by exact iN e
omit hC in
theorem eL.fail{α:Type}:eL t (Qh.N.fail:Qh.N α):=λ_ _ _ _ e=>by exact rT e
omit hC in
theorem eL.put{i:Nat}{v:V}:eL t (Qh.N.put i v):=λ_ _ _ _ e=>by exact iN e
omit hC in
theorem eL.fM:∀{is:List Nat}{vs:List V},eL t (Qh.N.fM is vs)
|[],[]=>.pure
|i::is,v::vs=>.bind .put λ_=>eL.fM
|[],_::_=>.fail
|_::_,[]=>.fail
mutual
theorem wk:∀(x:S),tJ q t x=true->eL t (cG C x)
|.aL _ e,h=>.lift (dh hC e h) λ_=>.bind .put λ_=>.pure
|.gY is e,h=>.lift (dh hC e h) λv=>(by cases v<;>first|exact .fail|exact .bind .fM λ_=>.pure|exact .lift (λ_=>.bH) λ_=>.bind .fM λ_=>.pure)
|.eX a b c,h=>.lift (dh hC c (qa h).2) λ_=>.lift (dh hC a (qa (qa h).1).1) λ_=>.lift (dh hC b (qa (qa h).1).2) λ_=>.lift (λ_=>.iu) λ_=>.pure
|.jd a _ c,h=>.lift (dh hC c (qa h).2) λ_=>.lift (dh hC a (qa h).1) λ_=>.lift (λ_=>.bind .ib λ_=>.bind .du λ_=>.iD) λ_=>.pure
|.expr e,h=>.lift (dh hC e h) λ_=>.pure
|.ite c a b,h=>.lift (qQ hC c (qa (qa h).1).1) λv=>(by cases v<;>first|exact sT b (qa h).2|exact sT a (qa (qa h).1).2)
|.ret e,h=>.lift (dh hC e h) λ_=>.pure
|.pM,h=>.pure
|.raise c _,h=>λL σ L' ag e=>by
  have h:(!decide (c=t))=true:=h;refine uI e λaP cL eqs=>?_;(clear wk hC;subst aP);subst cL;subst eqs;simp at h
|.append _ _,h=>qf h
|.update _ _,h=>qf h
|.pL _ _,h=>qf h
|.ki _ _ _,h=>qf h
|.eM _ _ _,h=>qf h
|.rv _ _ _ _ _,h=>qf h
|.gU _ _ _,h=>qf h
theorem sT:∀(x:SL),mx q t x=true->eL t (a6 C x)
|.nil,_=>.pure
|.cons s r,h=>.bind (wk s (qa h).1) λf=>(by cases f<;>first|exact sT r (qa h).2|exact .pure)
end
end
theorem AB{P:Prog}{sc:List Int}{q:Nat->Bool}{t:Nat}(h:∀f fn,P.fns f=some fn->q f=true->mx q t fn.body=true):∀n f vs,q f=true->bD t (aq P sc n f vs)
|0,f,vs,_=>.fail
|n+1,f,vs,hq=>by
  cases hf:P.fns f with
  |none=>simp only[aq,hf];exact .fail
  |some fn=>
   simp only[aq,hf];refine .ite (λσ ag e=>?_) .fail;have e:bS (a6 _ fn.body _ σ)=.aF t ag:=e;have c:=sT (C:=⟨sc,P.consts,aq P sc n,P.eT,P.n5⟩) (AB h n) fn.body (h f fn hf hq) (vs.map some++List.replicate (fn.slots-fn.arity) none) σ;generalize a6 ⟨sc,P.consts,aq P sc n,P.eT,P.n5⟩ fn.body (vs.map some++List.replicate (fn.slots-fn.arity) none) σ=r at e c;cases r with
   |ok f L σ=>(clear c;cases f)<;>(first|exact p7 e|exact kz e|cases e)
   |aF c' L' cp=>(refine yw e λaP cL=>?_;(clear h;subst aP);subst cL);exact c _ _ rfl
   |bad=>exact kz e
end Qh
namespace Qh
open PySem PySem.W PyProof.Rows
def Be:List Value:=[.type "ValueError",.type "Exception",.type "BaseException",.type "object"]
structure kA(G:Gd):Prop where
 aF:∃mg,G.hb.Ns mainGlobals mg/\OwnClsQ "TooGreat" (G.cA 1) Be "ValueError.__new__" mg G.hb
 has:∀f,G.xf f->∃fn,G.P.fns f=some fn
 calm:∀n f vs,G.P.eT (f+1)=4->bD G.tg (aq G.P G.script n f vs)
theorem kA.re(W:kA G)(R:List Addr):kA (G.re R):=⟨W.aF,W.has,W.calm⟩
section
variable{G:Gd}{n:Nat}{A:Around}{N:List Str}{env:Env}{s:Shared}{ρ az:List Addr}{σ ag:H}{h h':Heap}{L L':aR}{outer:List Env}{E:bG}
theorem Cg{mg:Str->Option Value}{p:Pos}{M:Model}(hg:s.heap.Ns mainGlobals mg)(hm:mg "TooGreat"=some (.ref (G.cA 1)))(kind:env.scope.kind=.function)(glob:env.globals=mainGlobals)(hk:env.kindOf "TooGreat"=some .globalImplicit)(k:Q (.ref (G.cA 1)) s):wpAny M A (eval (.Name "TooGreat" p) env) Q E s:=by refine wpAny_Name ?_ (by decide+kernel);refine(loadName_read kind hk)▸?_;exact Calls.loadGlobal_global (by(refine glob▸?_);exact hg) hm k
theorem Ia{c:Nat}{m a:Str}(W:kA G)(Y:Ao A n)(hk:env.kindOf "TooGreat"=some .globalImplicit):
  gB G n A N env (.raise c m) (.Raise (some (.Call (.Name "TooGreat" np) [.Constant (.str a) k ap] [] cpos)) none pos):=λs ρ σ L L' ag outer Q E X S F sep ev px=>by
 refine uI ev λaP cL eqs=>?_;(clear ev;subst aP);subst cL;subst eqs;refine bB λXx aI=>?_;refine aO (W.aF) λmg hg O=>?_;obtain⟨tl,NN,nm,q,bs,hdct,sn,sub,ab,col,dd,k0,k1,k2,k3,k5,mN,hC,hN,hni,T⟩:=O.own.obj;refine aI ?_;refine wpAny_Raise_call_subT (C:=G.cA 1) (nm:=nm) (q:=q) (N:=NN) (bs:=bs) (bm:=tl) (hdct:=hdct) (sn:=sn) (sub:=sub) (ab:=ab) (col:=col) (dd:=dd) (k0:=k0) (k1:=k1) (k2:=k2) (k3:=k3) (k5:=k5)
  PySem.F.excBase_ValueError (mN:=mN) (T.hasType PySem.F.excBase_ValueError.hasBase) Y.hh rfl hni (Cg (hg.keeps S.base) O.own.bound X.kind X.glob hk ⟨rfl,?_⟩)
 exact Calls.evalArgs_plain (spliced_more (wpAny_Constant_str (spliced_none ⟨rfl,nb rfl,S.base _ _ hC,hN.keeps S.base,T.keeps S.base,λh' e hm=>px e s.heap h' _ ρ (dA.refl _ _ _) S X (.made hm)⟩)))
structure oa(W:List Addr)(h h':Heap):Prop where
 keep:∀b o,h.get? b=some o->b∉W->h'.get? b=some o
 up:h.UpToSlots h'
theorem oa.aB(k:oa W h h'):∀a xs,IsTup h a xs->IsTup h' a xs:=λa xs ⟨o,e,c,m,d⟩=>by
 refine bZ (k.up a o e λvs q=>by(replace q:=d▸q);cases q) λsl e'=>?_;exact⟨_,e',c,m,d⟩
theorem oa.cell(k:oa W h h')(x:h.IsCell c v):h'.IsCell c v:=by refine bB λXx aI=>?_;refine aO (x) λo e d=>?_;refine bZ (k.up c o e λvs q=>by(replace q:=d▸q);cases q) λsl e'=>?_;refine aI ?_;exact⟨_,e',d⟩
theorem aH.oc(S:aH G ρ σ h)(k:oa W h h')(own:∀b∈W,b∉ρ)(new:∀b∈W,G.hb.get? b=none):aH G ρ σ h':=
 ⟨λb o e=>k.keep b o (S.base b o e) (λq=>by(replace e:=(new b q)▸e);exact bL e),S.len,S.nodup,S.new,λi a o e1 e2=>(S.rep i a o e1 e2).keeps (λob e=>k.keep a ob e λq=>own a q (List.mem_of_getElem? e1)) k.aB λ_ _ e=>e,λa ha=>let ⟨xs,q⟩:=S.kn a ha;⟨xs,k.aB _ _ q⟩,S.kW⟩
theorem bt.move(X:bt G N env ρ h L)(hn:∀m,h.Ns env.locals m->h'.Ns env.locals m)(hc:∀c v,h.IsCell c v->c∉ρ->h'.IsCell c v)(hr:∀v u,Rel G ρ h v u->Rel G az h' v u)(ho:∀a,a∉ρ->h.get? a≠none->a∉az):bt G N env az h' L:=by
 refine aO (X.ns) λm n1 n2=>?_;refine⟨X.kind,X.glob,X.blt,⟨m,hn m n1,λi u x e1 e2 e3=>?_⟩,λx hx=>?_,X.has,X.apart,X.nodup,ho _ X.jH ?_,λx c hx hc'=>ho _ (X.jI x c hx hc') ?_,X.newL,X.iG⟩
 ·refine aO (n2 i u x e1 e2 e3) λv q r=>?_;exact⟨v,q,hr v u r⟩
 ·refine cW (X.cl x hx) λc ov h1 h2 h3=>?_;refine⟨c,ov,h1,hc c ov h2 (X.jI x c hx h1),λi u e1 e2=>?_⟩;refine aO (h3 i u e1 e2) λv q r=>?_;exact⟨v,q,hr v u r⟩
 ·refine fV (n1) λo _ _ e _=>?_
  (refine e▸?_);simp
 ·obtain⟨c',ov,h1,⟨o,e,_⟩,_⟩:=X.cl x hx;(replace h1:=hc'▸h1);(refine dE h1 λaP=>?_;(clear hc' h1;subst aP))
  (refine e▸?_);simp
theorem bt.oc(X:bt G N env ρ h L)(k:oa W h h'):bt G N env ρ h' L:=
 X.move (λ_ q=>k.up.ns q) (λ_ _ q _=>k.cell q) (λ_ _ r=>r.mono k.aB λ_ _ e=>e) λ_ q _=>q
structure jE(env:Env)(W:List Addr)(ρ:List Addr)(h:Heap)(az:List Addr)(h':Heap):Prop where
 pre:∃t,az=ρ++t
 fresh:∀a∈az,a∈ρ∨h.get? a=none
 keep:∀a o,h.get? a=some o->a∉ρ->a∉W->a≠env.locals->(∀x,env.kindOf x=some .cell->env.cells.lookup x≠some a)->h'.get? a=some o
 slot:∀a o,a∈W->h.get? a=some o->(∀vs,o.data≠.fields vs)->∃sl,h'.get? a=some {o with slots:=sl}
 kR:∀a,a∉ρ->h.get? a≠none->h'.get? a≠none
theorem dA.qb(F:Fs A env outer env.locals env ρ h)(sep:Sep outer env)(st:dA env ρ h az h'):jE env (places outer) ρ h az h':=
 ⟨st.pre,st.fresh,λa o e h1 _=>st.keep a o e h1,λa o hw e _=>⟨o.slots,st.keep a o e (F.own a (by
  refine aO (List.mem_filterMap.mp hw) λx hx hf=>?_
  exact List.mem_filterMap.mpr ⟨x,.tail _ hx,hf⟩)) (sep a hw).1 (sep a hw).2⟩,st.kR⟩
theorem jE.trans(x:jE env W ρ h aK aC)(y:jE env W aK aC dQ bp):jE env W ρ h dQ bp:=by
 have off:∀a,a∉ρ->h.get? a≠none->a∉aK:=λa hn e q=>by
  rcases x.fresh a q with q|q
  ·exact hn q
  ·exact e q
 refine bZ (x.pre) λt bg=>?_;subst bg;obtain⟨t',rfl⟩:=y.pre;refine⟨⟨t++t',by simp⟩,λa ha=>?_,λa o e h1 h2 h3 h4=>y.keep a o (x.keep a o e h1 h2 h3 h4) (off a h1 (by(refine e▸?_);simp)) h2 h3 h4,λa o hw e hd=>?_,λa hn e=>y.kR a (off a hn e) (x.kR a hn e)⟩
 ·by_cases hr:a∈ρ
  ·exact .inl hr
  ·rcases y.fresh a ha with q|q
   ·exact(x.fresh a q)
   ·refine .inr ?_;cases e:h.get? a with
    |none=>rfl
    |some o=>exact absurd q (x.kR a hr (by(refine e▸?_);simp))
 ·refine bZ (x.slot a o hw e hd) λsl e1=>?_;refine bZ (y.slot a _ hw e1 hd) λE8 e2=>?_;exact⟨E8,e2⟩
theorem Fs.xw(sep:Sep outer env)(F:Fs A env outer env.locals env ρ h)(st:jE env (places outer) ρ h az h')(X:bt G N env az h' L):Fs A env outer env.locals env az h':=by
 refine⟨F.fr,F.fl,F.oG,?_,λb hb q=>?_⟩
 ·refine sh F.alive λb hb o e hn=>?_
  by_cases q:b=env.locals
  ·refine aO (X.ns) λm hm _=>?_
   (refine q▸?_);exact tj hm
  ·have hb':b∈places outer:=by
    refine aO (List.mem_filterMap.mp hb) λx hx hf=>?_;rcases List.mem_cons.mp hx with rfl|hx
    ·(replace hf:=(F.fl)▸hf);exact absurd (Option.some.inj hf).symm q
    ·exact List.mem_filterMap.mpr ⟨x,hx,hf⟩
   refine bZ (st.slot b o hb' e hn) λsl e'=>?_;exact⟨_,e',hn⟩
 ·rcases st.fresh b q with q|q
  ·exact F.own b hb q
  ·refine aO (mi F.alive hb) λo e _=>?_;(replace q:=e▸q);exact d9 q
def PY(G:Gd)(N:List Str)(env:Env)(outer:List Env)(r:RN Fl)(ρ:List Addr)(s:Shared)(Q:Flow->Shared->Prop):Prop:=
 match r with
|.ok f L' ag=>∀fl h' tk az,jE env (places outer) ρ s.heap az h'->aH G az ag h'->bt G N env az h' L'->iH G az h' fl f->Q fl {s with heap:=h',toks:=tk}
|_=>False
end
section
variable(G:Gd)(n:Nat)(A:Around)(N:List Str)(env:Env)
structure Hand(outer:List Env)(ρ:List Addr)(σ:H)(h:Heap)(L:aR):Prop where
 X:bt G N env ρ h L
 S:aH G ρ σ h
 F:Fs A env outer env.locals env ρ h
 sep:Sep outer env
 new:∀b∈places outer,G.hb.get? b=none
def lg(x:S)(st:Stmt):Prop:=∀(s:Shared)(ρ:List Addr)(σ:H)(L:aR)(outer:List Env)(Q:Flow->Shared->Prop)(E:bG),Hand G A N env outer ρ σ s.heap L->
 PY G N env outer (cG (G.ctx n) x L σ) ρ s Q->wpAny G.mo A (exec st env) Q E s
def ug(x:SL)(m9:List Stmt):Prop:=∀(s:Shared)(ρ:List Addr)(σ:H)(L:aR)(outer:List Env)(Q:Flow->Shared->Prop)(E:bG),Hand G A N env outer ρ σ s.heap L->
 PY G N env outer (a6 (G.ctx n) x L σ) ρ s Q->wpAny G.mo A (execs m9 env) Q E s
end
section
variable{G:Gd}{n:Nat}{A:Around}{N:List Str}{env:Env}
theorem Hand.pS(H:Hand G A N env outer ρ σ s.heap L)(p:PY G N env outer r ρ s Q):PS G N env r ρ s Q:=by
 cases r with
|ok f L' ag=>exact λfl h' tk az st=>p fl h' tk az (st.qb H.F H.sep)
|aF _ _ _=>exact p
|bad=>exact p
theorem Ch{x:Qh.S}{st:Stmt}(h:dC G n A N env x st):lg G n A N env x st:=λs ρ σ L outer Q E H p=>h s ρ σ L Q E H.X H.S (H.pS p)
theorem K4:ug G n A N env .nil []:=λs ρ σ L outer Q E H p=>wi s ρ σ L Q E H.X H.S (H.pS p)
theorem Jo{x:Qh.S}{r:SL}{st:Stmt}(h1:lg G n A N env x st)(h2:ug G n A N env r rest):ug G n A N env (.cons x r) (st::rest):=λs ρ σ L outer Q E H p=>by
 refine wpAny_execs_cons (h1 s ρ σ L outer _ E H ?_);have p:PY G N env outer (Qh.N.bind (cG (G.ctx n) x) (λf=>match f with|.next=>a6 (G.ctx n) r|f=>Qh.N.pure f) L σ) ρ s Q:=p;unfold Qh.N.bind at p;generalize cG (G.ctx n) x L σ=w at p ⊢;cases w with
|aF _ _ _=>exact p
|bad=>exact p
|ok f ek ax=>
  have p':PY G N env outer ((match f with|.next=>a6 (G.ctx n) r|f=>Qh.N.pure f) ek ax) ρ s Q:=p;intro fl h' tk az st S' X' rf;cases rf with
  |next=>
   refine h2 _ az ax ek outer Q E ⟨X',S',H.F.xw H.sep st X',H.sep,H.new⟩ ?_;have p':PY G N env outer (a6 (G.ctx n) r ek ax) ρ s Q:=p';generalize a6 (G.ctx n) r ek ax=w at p' ⊢;cases w with
   |ok f L' ag=>exact λfl h'' fj rC st'=>p' fl h'' fj rC (st.trans st')
   |aF _ _ _=>exact p'
   |bad=>exact p'
  |ret r=>exact p' _ h' tk az st S' X' (.ret r)
  |brk=>exact p' _ h' tk az st S' X' .brk
  |cont=>exact p' _ h' tk az st S' X' .cont
theorem K5{b hb:SL}{body suite:List Stmt}(W:kA G)(h1:ij G n A N env b body)(hX:mS G n A N env b body)(h2:∀e,ij G n (A.mark (some e)) N env hb (Pt::suite))(hk:env.kindOf "TooGreat"=some .globalImplicit):
  lg G n A N env (.gU b G.tg hb) (.Try body [.ExceptHandler (some (.Name "TooGreat" np)) none (Pt::suite) hp] [] [] p):=λs ρ σ L outer Q E H pY=>by
 have pY:PY G N env outer (match a6 (G.ctx n) b L σ with|.ok f L' ag=>.ok f L' ag|.aF c' L' ag=>if c'=G.tg then a6 (G.ctx n) hb L' ag else .bad|.bad=>.bad) ρ s Q:=pY;refine wpAny_Try_except ?_;cases ev:a6 (G.ctx n) b L σ with
|ok f L' ag=>
  replace pY:=ev▸pY;refine h1 s ρ σ L _ _ H.X H.S ?_;refine ev▸?_;intro fl h' tk az st S' X' rf;have st':=st.qb H.F H.sep;cases rf with
  |next=>exact wpAny_execs_nil (pY _ _ _ _ st' S' X' .next)
  |ret r=>exact pY _ _ _ _ st' S' X' (.ret r)
  |brk=>exact pY _ _ _ _ st' S' X' .brk
  |cont=>exact pY _ _ _ _ st' S' X' .cont
|bad=>(replace pY:=ev▸pY);exact pY.elim
|aF c' L' ag=>
  replace pY:=ev▸pY;have pY:PY G N env outer (if c'=G.tg then a6 (G.ctx n) hb L' ag else .bad) ρ s Q:=pY;have hc:c'=G.tg:=by
   by_cases q:c'=G.tg
   ·exact q
   ·(replace pY:=(if_neg q)▸pY);exact pY.elim
  subst hc;replace pY:=(if_pos rfl)▸pY;refine hX s ρ σ L L' ag outer _ _ H.X H.S H.F H.sep ev λe aC h' tk az st S' X' yJ=>?_;have F':=H.F.iZ H.sep st X';refine aO (W.aF) λmg hg O=>?_;refine sP F' yJ λbp base B hd u=>?_;refine flight hd λdq xx xU=>?_;have oc:∀{d6:Heap}{fl:Value},gy base (env::outer) e (G.cA 1) fl d6->aC.UpToSlots d6->oa (places (env::outer)) aC d6:=λhd u=>⟨λb o q hn=>hd.stays b o (B.sup b o q hn),u⟩;have new:∀b∈places (env::outer),G.hb.get? b=none:=λb hb=>by
   refine aO (List.mem_filterMap.mp hb) λx hx hf=>?_;rcases List.mem_cons.mp hx with rfl|hx
   ·(replace hf:=(F'.fl)▸hf);(apply eJ hf);exact X'.newL
   ·exact H.new b (List.mem_filterMap.mpr ⟨x,hx,hf⟩)
  have dI:=S'.oc (oc xx (u.trans xU)) F'.own new;have QL:∃oe,dq.get? e=some oe/\oe.cls=.ref (G.cA 1):=by
   obtain⟨_,_,_,_,oe,vs,T,oT,ts,he,⟨hcl,_⟩,_⟩:=xx;exact⟨oe,he,hcl⟩
  refine handleBy_own (by decide+kernel) (Cg (hg.keeps dI.base) O.own.bound X'.kind X'.glob hk ⟨rfl,O.keeps dI.base,QL,?_⟩);refine flight xx λd6 Ow Pu=>?_;have sl:=oc Ow ((u.trans xU).trans Pu);have jA:jE env (places outer) az aC az d6:=by
   refine⟨⟨[],by simp⟩,λ_ q=>.inl q,λa o q _ hw hl _=>sl.keep a o q λhb=>?_,λa o _ q hd=>sl.up a o q hd,λa _ q z=>?_⟩
   ·refine aO (List.mem_filterMap.mp hb) λx hx hf=>?_;rcases List.mem_cons.mp hx with rfl|hx
    ·(replace hf:=(F'.fl)▸hf);(refine dE hf λaP=>?_;(clear hw q;subst aP));exact hl rfl
    ·exact hw (List.mem_filterMap.mpr ⟨x,hx,hf⟩)
   ·cases q':aC.get? a with
    |none=>exact q q'
    |some o=>
     by_cases hb:a∈places (env::outer)
     ·refine aO (mi F'.alive hb) λo' e' hn=>?_;refine bZ (sl.up a o' e' hn) λE8 e2=>?_;(replace z:=e2▸z);exact d9 z
     ·(replace z:=(sl.keep a o q' hb)▸z);exact d9 z
  have jJ:=S'.oc sl F'.own new;have kt:=X'.oc sl;have E9:=(st.qb H.F H.sep).trans jA;refine h2 (.ref e) {s with heap:=d6,toks:=tk} az ag L' Q _ kt jJ ?_;generalize a6 (G.ctx n) hb L' ag=w at pY ⊢;cases w with
  |ok f QD cp=>exact λfl h'' fj rC st'=>pY fl h'' fj rC (E9.trans (st'.qb (H.F.xw H.sep E9 kt) H.sep))
  |aF _ _ _=>exact pY
  |bad=>exact pY
end
end Qh
namespace Qh
open PySem PySem.W PyProof.Rows
def fv.q(T:fv)(f:Nat):Bool:=decide (T.io (f+1)=4)
def fv.x(T:fv)(f:Nat):Bool:=decide (T.io (f+1)=1)||decide (T.io (f+1)=4)
section
variable(T:fv)
mutual
noncomputable def xE:E->Bool
|.aB es=>qc es
|.ah es=>qc es
|.aj _ a b=>xE a&&xE b
|.tuple a=>xE a
|.call f es=>T.x f&&qc es
|.cq f o es=>dn T.q (.cq f o es)||(T.x f&&xE o&&qc es&&!qZ es)
|.comp a _ _ b=>xE a&&xE b
|x=>dn T.q x
noncomputable def qc:EL->Bool
|.nil=>true
|.cons e r=>xE e&&qc r
end
def xT:E->Bool
|.cmp _ a b=>xE T a&&xE T b
|x=>dn T.q x
mutual
noncomputable def xS:S->Bool
|.aL i x=>xE T x&&!pb x
|.expr x=>xE T x
|.ret x=>xE T x
|.ite c t e=>xT T c&&lR t&&lR e
|.eM _ e b=>dn T.q e&&lR b
|.raise _ _=>true
|x=>tJ T.q (T.io 0) x
noncomputable def lR:SL->Bool
|.nil=>true
|.cons x r=>xS x&&lR r
end
end
theorem eL.Fa{G:Gd}{n:Nat}{A:Around}{N:List Str}{env:Env}{x:S}{st:Stmt}(h:eL G.tg (cG (G.ctx n) x)):gB G n A N env x st:=λs ρ σ L L' ag outer Q E X S F sep ev px=>absurd ev (h _ _ _ _)
theorem Jp(h:(!qZ es)=true):es≠.nil:=λq=>by subst q;exact ff h
section
variable{G:Gd}{n:Nat}{A:Around}{N:List Str}
variable(a7:cD G)(F:iC G)(Y:Ao A n)(bO:∀R,j5 (G.re R) n)(W:kA G)(CX:n7 G n)
include a7 F Y bO W CX
omit a7 F Y bO CX in
theorem sq:∀f vs,G.aE.q f=true->bD G.tg ((G.ctx n).call f vs):=λf vs h=>W.calm n f vs (of_decide_eq_true h)
omit a7 F Y bO W CX in
theorem uh(h:G.aE.x f=true):G.xf f:=by
 rcases Bool.or_eq_true_iff.mp h with h|h
 ·exact .inl (of_decide_eq_true h)
 ·exact .inr (of_decide_eq_true h)
omit a7 F Y bO CX in
theorem qX(h:dn G.aE.q x=true):eu G n A N env x e:=MC (dh (sq W) x h)
mutual
theorem iT:∀(x:E){K:Kn}{e:av}{env:Env},dw env K->bx G.aE N x K e=true->xE G.aE x=true->eu G n A N env x e
|.aB es,K,e,env,Z,hz,hx=>x7 hz λ_ _ _ h=>KC (iS a7 F Y (bO G.res) es Z h) (qy es Z h hx)
|.ah es,K,e,env,Z,hz,hx=>x8 hz λ_ _ h=>KD (iS a7 F Y (bO G.res) es Z h) (qy es Z h hx)
|.aj op a b,K,e,env,Z,hz,hx=>D7 hz λ_ _ _ h1 h2=>KF (bW a7 F Y (bO G.res) a Z h1) (iT a Z h1 (qa hx).1) (bW a7 F Y (bO G.res) b Z h2) (iT b Z h2 (qa hx).2)
|.tuple a,K,e,env,Z,hz,hx=>k1 Z hz λ_ _ _ h1 h2 h3=>HZ a7 (bW a7 F Y (bO G.res) a Z h3) (iT a Z h3 hx) h1 (eg h2)
|.call f es,K,e,env,Z,hz,hx=>uf hz λ_ _ _ _ _ h1 h2 h3 h4 h5 h6=>
   let ⟨fn,hf⟩:=W.has f (uh (qa hx).1);I9 a7 F Y CX (uh (qa hx).1) (iS a7 F Y (bO G.res) es Z h1) (qy es Z h1 (qa hx).2) hf h2 (aT h3).1 (Z.eQ h4) h5 (eg h6)
|.cq f o es,K,e,env,Z,hz,hx=>by
  rcases Bool.or_eq_true_iff.mp hx with hq|hx
  ·exact qX W hq
  ·refine Dg hz λ_ _ _ _ _ h0 h1 h2 h3 h4 h5 h6=>?_;refine a5 (qa hx) λQM QN=>?_;obtain⟨QO,QP⟩:=qa QM;refine a5 (qa QO) λFb QQ=>?_;obtain⟨fn,hf⟩:=W.has f (uh Fb);rcases zU h4 with ⟨_,q⟩|⟨fO,eD,rfl,q,q'⟩
   ·exact absurd q (Jp QN)
   ·exact Ji a7 F Y CX (uh Fb) (bW a7 F Y (bO G.res) o Z h5) (iT o Z h5 QQ) (iS a7 F Y (bO G.res) es Z h6) (qy es Z h6 QP) hf h0 (not_iff (aT h1).1) (Bc h2) h3 q q'
|.comp elt v bk src,K,e,env,Z,hz,hx=>q6 Z (fi:=λl _=>l.isEmpty) (f:=bx G.aE N src K) (g:=λs y=>bx G.aE N elt (fR K s.names) y) hz λ_ _ _ _ ifs _ _ h0 h1 h2 W' h4=>by
   have e0:ifs=[]:=List.isEmpty_iff.mp h0;clear h0;subst e0;exact Ja Y (bW a7 F Y (bO G.res) src Z h1) (iT src Z h1 (qa hx).2) W' h2 (λcl C=>bW a7 F Y (bO G.res) elt (Z.inner W' cl C) h4) λcl C=>iT elt (Z.inner W' cl C) h4 (qa hx).1
|.none,K,e,env,Z,hz,hx=>qX W hx
|.bool _,K,e,env,Z,hz,hx=>qX W hx
|.int _,K,e,env,Z,hz,hx=>qX W hx
|.str _,K,e,env,Z,hz,hx=>qX W hx
|.aa _,K,e,env,Z,hz,hx=>qX W hx
|.glob _,K,e,env,Z,hz,hx=>qX W hx
|.ay _ _,K,e,env,Z,hz,hx=>qX W hx
|.neg _,K,e,env,Z,hz,hx=>qX W hx
|.cmp _ _ _,K,e,env,Z,hz,hx=>qX W hx
|.kU _ _ _ _ _,K,e,env,Z,hz,hx=>qX W hx
|.not _,K,e,env,Z,hz,hx=>qX W hx
|.and _,K,e,env,Z,hz,hx=>qX W hx
|.or _,K,e,env,Z,hz,hx=>qX W hx
|.au _ _,K,e,env,Z,hz,hx=>qX W hx
|.slc _ _ _,K,e,env,Z,hz,hx=>qX W hx
|.new _,K,e,env,Z,hz,hx=>qX W hx
|.attr _ _,K,e,env,Z,hz,hx=>qX W hx
|.len _,K,e,env,Z,hz,hx=>qX W hx
|.toInt _,K,e,env,Z,hz,hx=>qX W hx
|.toStr _,K,e,env,Z,hz,hx=>qX W hx
|.sum _,K,e,env,Z,hz,hx=>qX W hx
|.gT _,K,e,env,Z,hz,hx=>qX W hx
|.max2 _ _,K,e,env,Z,hz,hx=>qX W hx
|.dU _ _,K,e,env,Z,hz,hx=>qX W hx
|.list _,K,e,env,Z,hz,hx=>qX W hx
|.dict _,K,e,env,Z,hz,hx=>qX W hx
|.join _ _,K,e,env,Z,hz,hx=>qX W hx
|.get _ _ _,K,e,env,Z,hz,hx=>qX W hx
|.fT _ _ _ _ _,K,e,env,Z,hz,hx=>qX W hx
|.fB _ _ _ _,K,e,env,Z,hz,hx=>qX W hx
theorem qy:∀(es:EL){K:Kn}{l:List av}{env:Env},dw env K->ja G.aE N es K l=true->qc G.aE es=true->kS G n A N env es l
|.nil,K,l,env,Z,hz,hx=>KB λ_=>.pure
|.cons x r,K,l,env,Z,hz,hx=>by
  cases l with
  |nil=>exact qf hz
  |cons e t=>
   refine a5 (aT (show(dk e&&bx G.aE N x K e&&ja G.aE N r K t)=true from hz)) λh1 h2=>?_;refine a5 (aT h1) λh3 h4=>?_;exact I7 (bW a7 F Y (bO G.res) x Z h4) (iT x Z h4 (qa hx).1) (iS a7 F Y (bO G.res) r Z h2) (qy r Z h2 (qa hx).2) (eg h3)
end
theorem Jq(x:E){K:Kn}{e:av}(Z:dw env K)(hz:k9 G.aE N x K e=true)(hx:xT G.aE x=true):uw G n A N env x e:=by
 cases x with
|cmp op a b=>exact x9 hz λ_ _ _ h1 h2 h3=>I8 (bW a7 F Y (bO G.res) a Z h1) (iT a7 F Y bO W CX a Z h1 (qa hx).1) (bW a7 F Y (bO G.res) b Z h2) (iT a7 F Y bO W CX b Z h2 (qa hx).2) h3
|_=>exact MD (qQ (sq W) _ hx)
omit a7 F Y bO CX in
theorem kB{x:S}{st:Stmt}(h:tJ G.aE.q (G.aE.io 0) x=true):gB G n A N env x st:=eL.Fa (wk (sq W) x h)
omit a7 F bO CX in
theorem GV{c:Nat}{m:Str}{K:Kn}{st:Stmt}{env:Env}(Z:dw env K)(hz:m3 G.aE N K (.raise c m) st=true):gB G n A N env (.raise c m) st:=by
 have hz:(!decide (c=G.tg)||(wR st).any λy=>(gs y).any λz=>blt K z.1 "TooGreat"&&Ce z.2)=true:=hz;rcases Bool.or_eq_true_iff.mp hz with h|h
 ·exact eL.Fa λL σ L' ag e=>by(refine uI e λaP cL eqs=>?_;(clear hz;subst aP);subst cL;subst eqs);simp at h
 ·refine aO (cJ h) λy hv h3=>?_;replace hv:=H8 hv;obtain⟨p,rfl⟩:=hv;obtain⟨⟨x,a⟩,hc,h⟩:=cJ h3;refine gm (A9 hc) λp' p'' e=>?_;clear hc;subst (e);refine a5 (pd Z (aT h).1) λe1 hk=>?_;clear h;subst (e1);refine aO (cJ (aT h).2) λk hk' h2=>?_;refine gm (sR hk') λq pp e2=>?_;clear hk';subst (e2);clear hz h3 h;clear hz;cases k with
  |str s=>exact Ia W Y hk
  |_=>exact ff h2
mutual
theorem Jr{K:Kn}(Z:dw env K):∀(x:S){st:Stmt},m3 G.aE N K x st=true->xS G.aE x=true->gB G n A N env x st
|.aL i x,st,hz,hx=>pU (P:=gB G n A N env (.aL i x)) (f:=λt e=>tgt N K i t&&bx G.aE N x K e&&(jv e||pb x)) hz λt e p h=>
   pT (P:=λt=>gB G n A N env (.aL i x) (.Assign [t] e p)) (aT (aT h).1).1 λ_ _ hy hl=>KH (iT a7 F Y bO W CX x Z (aT (aT h).1).2 (qa hx).1) (oU ((Bool.or_eq_true_iff.mp (aT h).2).resolve_right λq=>by have:=not_iff (qa hx).2;rw[q] at this;exact tf this) ..)
|.expr x,st,hz,hx=>ya hz λe p h=>Je (iT a7 F Y bO W CX x Z (aT h).1 hx) (vd Z) (oU (aT h).2 ..)
|.ret x,st,hz,hx=>yb hz λ_ _ h=>KI (iT a7 F Y bO W CX x Z h hx)
|.ite c t e,st,hz,hx=>D9 hz λ_ _ _ _ h1 h2 h3=>KJ (pf a7 F Y (bO G.res) c Z h1) (Jq a7 F Y bO W CX c Z h1 (qa (qa hx).1).1) (o2 Z t h2 (qa (qa hx).1).2) (o2 Z e h3 (qa hx).2)
|.eM i x b,st,hz,hx=>yI (P:=gB G n A N env (.eM i x b)) (f:=λt it=>tgt N K i t&&(gs it).any (λz:Str×av=>blt K z.1 "range"&&dk z.2&&bx G.aE N x K z.2)) (g:=gu G.aE N K b) hz λt it bd p h hb=>
   pT (P:=λt=>gB G n A N env (.eM i x b) (.For t it bd [] p)) (aT h).1 λy py hy hl=>k1 (P:=λit=>gB G n A N env (.eM i x b) (.For (.Name y py) it bd [] p)) Z (y:="range") (aT h).2 λ_ _ _ hk hn QR=>Jg a7 Y (bW a7 F Y (bO G.res) x Z QR) (dh (sq W) x (qa hx).1) (mj a7 F Y bO Z b hb G.res) (o2 Z b hb (qa hx).2) hy (Z.eR hl) hk (eg hn)
|.raise c m,st,hz,hx=>GV Y W Z hz
|.gY _ _,st,hz,hx=>kB W hx
|.eX _ _ _,st,hz,hx=>kB W hx
|.jd _ _ _,st,hz,hx=>kB W hx
|.append _ _,st,hz,hx=>kB W hx
|.update _ _,st,hz,hx=>kB W hx
|.pL _ _,st,hz,hx=>kB W hx
|.ki _ _ _,st,hz,hx=>kB W hx
|.rv _ _ _ _ _,st,hz,hx=>kB W hx
|.pM,st,hz,hx=>kB W hx
|.gU _ _ _,st,hz,hx=>kB W hx
theorem o2{K:Kn}(Z:dw env K):∀(x:SL){l:List Stmt},gu G.aE N K x l=true->lR G.aE x=true->mS G n A N env x l
|.nil,l,hz,hx=>λs ρ σ L L' ag outer Q E X S F sep ev px=>by exact iN ev
|.cons x r,l,hz,hx=>by
  cases l with
  |nil=>exact qf hz
  |cons st t=>
   refine a5 (aT (show(m3 G.aE N K x st&&gu G.aE N K r t)=true from hz)) λh1 h2=>?_;exact H4 (tm a7 F Y bO Z x h1 G.res) (Jr Z x h1 (qa hx).1) (o2 Z r h2 (qa hx).2)
end
end
end Qh
namespace Qh
open PySem PySem.W PyProof.Rows
structure Lay(G:Gd)(A:Around)(l:List Env)(ρ:List Addr)(h:Heap):Prop where
 fr:A.frames=some l
 alive:h.FunFrames hp0 l
 own:∀b∈places l,b∉ρ
structure xy(W:List Addr)(ρ:List Addr)(h:Heap)(az:List Addr)(h':Heap):Prop where
 pre:∃t,az=ρ++t
 fresh:∀a∈az,a∈ρ∨h.get? a=none
 keep:∀a o,h.get? a=some o->a∉ρ->a∉W->h'.get? a=some o
 slot:∀a o,a∈W->h.get? a=some o->(∀vs,o.data≠.fields vs)->∃sl,h'.get? a=some {o with slots:=sl}
def yK(G:Gd)(l:List Env)(r:Res V)(ρ:List Addr)(s:Shared)(Q:bG):Prop:=match r with
|.ok u ag=>∀v h' tk az,xy (places l) ρ s.heap az h'->aH G az ag h'->Rel G az h' v u->Q v {s with heap:=h',toks:=tk}
|_=>False
def rn(G:Gd)(n:Nat):Prop:=∀(A:Around),Ao A n->∀(l:List Env)(f:Nat),G.P.eT (f+1)=2->∀(vs:List V)(vals:List Value)(s:Shared)(ρ:List Addr)(σ:H)(Q:bG)(E:bG),aH G ρ σ s.heap->bK G ρ s.heap vals vs->Lay G A l ρ s.heap->(∀b∈places l,G.hb.get? b=none)->
 yK G l (aq G.P G.script n f vs σ) ρ s Q->wpAny G.mo A (call (.ref (G.fA f)) vals) Q E s
def Dh:ExceptHandler->Option (av×List Stmt)
|.ExceptHandler (some t) none b _=>some (t,b)
|_=>none
theorem Js(e:Dh h=some x):∃p,h=.ExceptHandler (some x.1) none x.2 p:=by
 obtain⟨t,nm,b,p⟩:=h;cases t with
|none=>exact bL e
|some t=>cases nm with
  |none=>(apply eJ e);exact⟨p,rfl⟩
  |some _=>exact bL e
def Di:E->Bool
|.ah .nil=>true
|.au (.aa _) (.int _)=>true
|_=>false
def Dj:SL->Option E
|.cons (.ret x) .nil=>some x
|_=>none
theorem Jt(h:Dj b=some x):b=.cons (.ret x) .nil:=by
 cases b with
|nil=>exact bL h
|cons s r=>cases s<;>first|(cases r<;>first|((first|exact bL h|(apply eJ h)|cases h);rfl)|exact bL h)|cases h
def Ci:E->Option (Nat×EL)
|.call f es=>some (f,es)
|_=>none
theorem Ib(h:Ci x=some y):x=.call y.1 y.2:=by cases x<;>first|((first|exact bL h|(apply eJ h)|cases h);rfl)|exact bL h
section
variable(T:fv)(N:List Str)(K:Kn)
def Ea:List Stmt->Option Stmt
|[e]=>some e
|_=>none
theorem K6(h:Ea l=some e):l=[e]:=by
 match l with
|[_]=>(apply eJ h);rfl
|[]=>exact bL h
|_::_::_=>exact bL h
def Cj(b:SL)(c:Nat)(h:SL)(st:Stmt):Bool:=decide (c=T.io 0)&&eQ K "TooGreat"&&(D6 st).any λy=>gu T N K b y.1&&lR T b&&(Dh y.2).any λz=>(nameOf z.1).any (λw=>decide (w=("TooGreat":Str)))&&(Dj h).any λx=>Di x&&(Ea z.2).any λst'=>(uC st').any λr=>r.any λe=>bx T N x K e
def K7(i f:Nat)(es:EL)(st:Stmt):Bool:=decide (T.io (f+1)=2)&&(mZ st).any λy=>tgt N K i y.1&&(mT y.2).any λx=>ja T N es K x.2&&decide (T.fN f=x.1)&&T.eO f&&eQ K x.1&&jD x.1&&tH x.2
def xA:S->Stmt->Bool
|.gU b c h,st=>Cj T N K b c h st
|.aL i x,st=>(Ci x).any (λy=>K7 T N K i y.1 y.2 st)||m3 T N K (.aL i x) st
|x,st=>m3 T N K x st
def rH:SL->List Stmt->Bool
|.nil,l=>l.isEmpty
|.cons x r,l=>match l with|st::t=>xA T N K x st&&rH r t|[]=>false
def rI(k:Nat)(b:SL)(l:List Stmt):Bool:=bif decide (k=2) then rH T N K b l else gu T N K b l&&(!decide (k=1)||lR T b)
end
theorem K8{h h':Heap}{a:Addr}(k:∀o,h.get? a=some o->(∀vs,o.data≠.fields vs)->∃sl,h'.get? a=some {o with slots:=sl})(hn:h.Ns a m):h'.Ns a m:=by refine fJ (hn) λo es ep ho hd r=>?_;refine bZ (k o ho λvs q=>by(replace q:=hd▸q);cases q) λsl hs=>?_;exact⟨_,es,ep,hs,hd,r⟩
section
variable{G:Gd}{n:Nat}{A:Around}{N:List Str}{env:Env}
theorem Hand.lay(H:Hand G A N env outer ρ σ h L):Lay G A (env::outer) ρ h/\∀b∈places (env::outer),G.hb.get? b=none:=
 ⟨⟨H.F.fr,H.F.alive,H.F.own⟩,λb hb=>by
  refine aO (List.mem_filterMap.mp hb) λx hx hf=>?_;rcases List.mem_cons.mp hx with rfl|hx
  ·(replace hf:=(H.F.fl)▸hf);(apply eJ hf);exact H.X.newL
  ·exact H.new b (List.mem_filterMap.mpr ⟨x,hx,hf⟩)⟩
theorem Hand.step(H:Hand G A N env outer ρ σ h L)(st:Step ρ h az h')(S:aH G az ag h'):Hand G A N env outer az ag h' L:=⟨H.X.step H.S st,S,H.F.step st,H.sep,H.new⟩
theorem Hand.Ox{outer:List Env}{ρ az:List Addr}{σ ag:H}(H:Hand G A N env outer ρ σ h L)(st:xy (places (env::outer)) ρ h az h')(S:aH G az ag h'):Hand G A N env outer az ag h' L/\jE env (places outer) ρ h az h':=by
 have aB:∀a xs,IsTup h a xs->IsTup h' a xs:=λa xs ⟨o,e,c,m,d⟩=>by
  by_cases hw:a∈places (env::outer)
  ·refine bZ (st.slot a o hw e λvs q=>by(replace q:=d▸q);cases q) λsl e'=>?_;exact⟨_,e',c,m,d⟩
  ·refine⟨o,st.keep a o e (λq=>?_) hw,c,m,d⟩;exact H.S.aB ⟨o,e,c,m,d⟩ q
 have get:∀(i:Nat)(a:Addr),ρ[i]?=some a->az[i]?=some a:=λi a e=>by
  refine bZ (st.pre) λt bg=>?_;clear S st;subst bg;rw[List.getElem?_append_left (List.getElem?_eq_some_iff.mp e).1];exact e
 have cl:∀c v,h.IsCell c v->c∉ρ->h'.IsCell c v:=λc v ⟨o,e,d⟩ hn=>by
  by_cases hw:c∈places (env::outer)
  ·refine bZ (st.slot c o hw e λvs q=>by(replace q:=d▸q);cases q) λsl e'=>?_;exact⟨_,e',d⟩
  ·exact⟨o,st.keep c o e hn hw,d⟩
 have X':bt G N env az h' L:=H.X.move (λm q=>K8 (λo e d=>st.slot _ o (List.mem_filterMap.mpr ⟨env,.head _,H.F.fl⟩) e d) q) cl (λv u r=>r.mono aB get) λa hn e q=>by
  rcases st.fresh a q with q|q
  ·exact hn q
  ·exact e q
 have sub:∀a,a∈places outer->a∈places (env::outer):=λa ha=>by
  refine aO (List.mem_filterMap.mp ha) λx hx hf=>?_;exact List.mem_filterMap.mpr ⟨x,.tail _ hx,hf⟩
 have off:∀a,a∉places outer->a≠env.locals->a∉places (env::outer):=λa h1 h2 q=>by
  refine aO (List.mem_filterMap.mp q) λx hx hf=>?_;rcases List.mem_cons.mp hx with rfl|hx
  ·(replace hf:=(H.F.fl)▸hf);exact h2 (Option.some.inj hf).symm
  ·exact h1 (List.mem_filterMap.mpr ⟨x,hx,hf⟩)
 have sY:jE env (places outer) ρ h az h':=⟨st.pre,st.fresh,λa o e h1 h2 h3 _=>st.keep a o e h1 (off a h2 h3),λa o hw e d=>st.slot a o (sub a hw) e d,λa hn e z=>by
  by_cases hw:a∈places (env::outer)
  ·refine aO (mi H.F.alive hw) λo e' d=>?_;refine bZ (st.slot a o hw e' d) λsl e2=>?_;(replace z:=e2▸z);exact d9 z
  ·cases q:h.get? a with
   |none=>exact e q
   |some o=>(replace z:=(st.keep a o q hn hw)▸z);exact d9 z⟩
 exact⟨⟨X',S,H.F.xw H.sep sY X',H.sep,H.new⟩,sY⟩
theorem K9(K:cD G)(FI:iC G)(Y:Ao A n)(C:rn G n)(kd:G.P.eT (f+1)=2)(hE:f7 G n A N env es (e::args))(hx:G.fN f=x)(hg:G.eO f=true)(hk:env.kindOf x=some .globalImplicit)(hd:(x==("__debug__":Str))=false)(hs:starEach (e::args) env=(false,eval e env)::starEach args env)(hy:N[i]?=some y)(hl:env.kindOf y=some .local∨env.kindOf y=some .cell):
  lg G n A N env (.aL i (.call f es)) (.Assign [.Name y p''] (.Call (.Name x p') (e::args) [] gA) p):=λs ρ σ L outer Q E H pY=>by
 have pY:PY G N env outer (Qh.N.bind (Qh.N.lift λL=>M.bind (dc (G.ctx n) es L) λvs=>aq G.P G.script n f vs) (λv=>Qh.N.bind (Qh.N.put i v) λ_=>Qh.N.pure Fl.next) L σ) ρ s Q:=pY;refine wpAny_Assign_Name ?_ rfl;unfold Qh.N.bind Qh.N.lift at pY;simp only[] at pY;cases e0:M.bind (dc (G.ctx n) es L) (λvs=>aq G.P G.script n f vs) σ with
|bad=>(replace pY:=e0▸pY);exact pY.elim
|aF _ _=>(replace pY:=e0▸pY);exact pY.elim
|ok u bM=>
  replace pY:=e0▸pY;have pY:PY G N env outer (.ok .next (bV L i u) bM) ρ s Q:=pY;refine bB λXx aI=>?_;refine bo (en e0) λvs ax e1 e2=>?_;refine bo (sm e2) λfn m hf _=>?_;refine bo (FI f fn hf) λo fd ho hdat=>?_;refine aI ?_;refine wpAny_Call_NameR (wpAny_Name (wh K H.S H.X hk hf hg hx ?_) hd);refine callWith_def hdat (hE gA s ρ σ L _ _ H.X H.S ?_) hs;refine e1▸?_;intro vals aC tk aK st aG r;have yc:=H.step st aG;refine⟨aG.base _ _ ho,C A Y (env::outer) f kd vs vals {s with heap:=aC,toks:=tk} aK ax _ E aG r yc.lay.1 yc.lay.2 ?_⟩;refine e2▸?_;intro v bp cC dQ cF b6 pQ;refine a5 (yc.Ox cF b6) λEb sY=>?_;refine qH Eb.X b6 hy hl pQ λdq fY dW dI gw _ _=>?_;exact pY .next dq fY dQ (((st.toS.qb H.F H.sep).trans sY).trans (dW.qb Eb.F H.sep)) dI gw .next
end
section
variable{G:Gd}{n:Nat}{A:Around}{N:List Str}
variable(a7:cD G)(F:iC G)(Y:Ao A n)(bO:∀R,j5 (G.re R) n)(W:kA G)(CX:n7 G n)(CY:rn G n)
include a7 F Y bO W CX CY
omit F Y bO W CX CY in
theorem Lb{x:E}{K:Kn}(h:Di x=true)(hz:bx G.aE N x K e=true):ba G n A N env x e:=by
 cases x with
|ah es=>cases es with
  |nil=>
   refine x8 hz λl _ h=>?_;have h:l.isEmpty=true:=h;refine(List.isEmpty_iff.mp h)▸?_;exact B5 B6
  |cons _ _=>exact ff h
|au a b=>cases a with
  |aa i=>cases b with
   |int j=>
    refine uD hz λl r p h1 h2 h3=>?_;refine x6 (P:=λl=>ba G n A N env (.au (.aa i) (.int j)) (.Subscript l r p)) h1 λy py g1 g2=>?_;exact rm (P:=λr=>(∀a b q,r≠.Slice a b none q)->ba G n A N env (.au (.aa i) (.int j)) (.Subscript (.Name y py) r p)) h2 (λ_ _ g3=>wL a7 (wK g1 g2) B4 g3) h3
   |_=>exact ff h
  |_=>exact ff h
|_=>exact ff h
omit CY in
theorem MM{b hb:SL}{c:Nat}{K:Kn}{st:Stmt}(Z:dw env K)(hz:Cj G.aE N K b c hb st=true):lg G n A N env (.gU b c hb) st:=by refine bB λXx aI=>?_;refine a5 (aT hz) λh0 h1=>?_;refine a5 (aT h0) λh2 h3=>?_;have e0:c=G.tg:=of_decide_eq_true h2;clear h2 h0 hz;subst e0;obtain⟨⟨body,hd⟩,hv,h4⟩:=cJ h1;replace hv:=K3 hv;obtain⟨p,rfl⟩:=hv;obtain⟨h5,h6⟩:=aT h4;refine a5 (aT h5) λh7 h8=>?_;obtain⟨⟨t,suite⟩,hv2,h9⟩:=cJ h6;refine bZ (Js hv2) λhp e1=>?_;clear hv2;subst (e1);obtain⟨b7,h11⟩:=aT h9;refine aO (cJ b7) λw hw h12=>?_;refine bZ (lX hw) λnp e2=>?_;clear hw;subst (e2);have e3:=of_decide_eq_true h12;subst e3;refine aO (cJ h11) λx hx QS=>?_;have e4:=Jt hx;subst e4;obtain⟨QT,QU⟩:=aT QS;refine aO (cJ QU) λst' hs QV=>?_;have e5:=K6 hs;subst (e5);refine aI ?_;refine yb (P:=λst'=>lg G n A N env (.gU b G.tg (.cons (.ret x) .nil)) (.Try body [.ExceptHandler (some (.Name "TooGreat" np)) none [st'] hp] [] [] p)) (f:=bx G.aE N x K) QV λe p' hc=>?_;exact K5 W (mj a7 F Y bO Z b h7 G.res) (o2 a7 F Y bO W CX Z b h7 h8) (λe'=>A5 (Ca (Lb a7 QT hc)) wi) (Z.eQ h3)
theorem Ju{K:Kn}{env:Env}(Z:dw env K)(x:S){st:Stmt}(hz:xA G.aE N K x st=true):lg G n A N env x st:=by
 cases x with
|gU b c h=>exact MM a7 F Y bO W CX Z hz
|aL i x=>
  rcases Bool.or_eq_true_iff.mp hz with h|h
  ·obtain⟨⟨f,es⟩,hx,h1⟩:=cJ h;have e0:x=_:=Ib hx;clear hx h hz;subst e0;obtain⟨h2,h3⟩:=aT h1;exact pU h3 λt e p h4=>
    pT (P:=λt=>lg G n A N env (.aL i (.call f es)) (.Assign [t] e p)) (aT h4).1 λy py hy hl=>uf (P:=λe=>lg G n A N env (.aL i (.call f es)) (.Assign [.Name y py] e p)) (f:=ja G.aE N es K) (aT h4).2 λ_ _ _ _ _ g1 g2 g3 g4 g5 g6=>
    K9 a7 F Y CY (of_decide_eq_true h2) (iS a7 F Y (bO G.res) es Z g1) g2 g3 (Z.eQ g4) g5 (eg g6) hy (Z.eR hl)
  ·exact Ch (tm a7 F Y bO Z _ h G.res)
|_=>exact Ch (tm a7 F Y bO Z _ hz G.res)
theorem AD{K:Kn}(Z:dw env K):∀(x:SL){l:List Stmt},rH G.aE N K x l=true->ug G n A N env x l
|.nil,l,hz=>by
  have hq:l.isEmpty=true:=hz;rw[List.isEmpty_iff] at hq;(clear hz;subst hq);exact K4
|.cons x r,l,hz=>by
  cases l with
  |nil=>exact qf hz
  |cons st t=>
   obtain⟨h1,h2⟩:=aT (show(xA G.aE N K x st&&rH G.aE N K r t)=true from hz);exact Jo (Ju a7 F Y bO W CX CY Z x h1) (AD Z r h2)
end
end Qh
namespace Qh
open PySem PySem.W PyProof.Rows
structure pV(G:Gd)(f:Nat)(fn:Fn)(fd:FuncData)(N:List Str)(body:List Stmt):Prop where
 obj:∃o,G.hb.get? (G.fA f)=some o/\o.data=.func fd
 uP:fd.body=.stmts body
 glob:fd.globals=mainGlobals
 blt:fd.builtins=builtinsNs
 aZ:fd.closure=[]
 code:G.hb.CodeRec fd.code fd.qualname
 co:fd.scope.isCoroutine=false
 gen:fd.scope.isGenerator=false
 kind:fd.scope.kind=.function
 bind:∀vals:List Value,vals.length=fn.arity->bindArgs fd ⟨vals,[]⟩=pure ((N.take fn.arity).zip vals)
 nodup:N.Nodup
 len:N.length=fn.slots
 arity:fn.arity<=fn.slots
 params:(N.take fn.arity).all (eR fd.scope.names)=true
 uQ:rI G.aE N fd.scope.names (G.P.eT (f+1)) fn.body body=true
theorem su:∀(names:Kn)(n:Nat)(acc:List (Str×Addr))(x:Str),names.lookup x=some .cell∨(acc.lookup x).isSome=true->((cellsFrom n names acc).lookup x).isSome=true
|[],n,acc,x,h=>by
  rcases h with h|h
  ·exact bL h
  ·exact h
|(m,k)::r,n,acc,x,h=>by
  unfold cellsFrom
  by_cases hk:(k==NameKind.cell)=true
  ·refine(if_pos hk)▸?_;refine su r _ _ x ?_;rw[List.lookup_cons];cases hx:x==m with
   |true=>exact .inr rfl
   |false=>
    rcases h with h|h
    ·rw[List.lookup_cons,hx] at h;exact .inl h
    ·exact .inr h
  ·refine(if_neg hk)▸?_;refine su r _ _ x ?_;rcases h with h|h
   ·rw[List.lookup_cons] at h;cases hx:x==m with
    |true=>
     replace h:=hx▸h;simp only[Option.some.injEq] at h;subst h;exact absurd rfl hk
    |false=>(replace h:=hx▸h);exact .inl h
   ·exact .inr h
theorem Jv(kf:Str->Option NameKind):∀(ps:List Str)(vals:List Value)(m:Str->Option Value)(i:Nat)(x:Str)(v:Value),ps.Nodup->ps[i]?=some x->vals[i]?=some v->kf x=some .local->bindL kf (ps.zip vals) m x=some v:=by
 have keep:∀(ps:List Str)(vals:List Value)(m:Str->Option Value)(x:Str),x∉ps->bindL kf (ps.zip vals) m x=m x:=by
  intro ps
  induction ps with
  |nil=>intro vals m x _;rfl
  |cons p ps ih=>
   intro vals m x hx;cases vals with
   |nil=>rfl
   |cons v vals=>
    simp only[List.zip_cons_cons,bindL]
    (refine(ih vals _ x (λq=>hx (.tail _ q)))▸?_)
    have hne:x≠p:=λq=>hx (q▸.head _)
    split<;>simp[hne]
 intro ps
 induction ps with
|nil=>intro vals m i x v _ h;simp at h
|cons p ps ih=>
  intro vals m i x v hn h1 h2 h3;cases vals with
  |nil=>simp at h2
  |cons w vals=>
   simp only[List.zip_cons_cons,bindL];have hn':=List.nodup_cons.mp hn;cases i with
   |zero=>
    simp at h1 h2;subst h1 h2;refine(keep ps vals _ p hn'.1)▸?_;refine(if_pos h3)▸?_;simp
   |succ i=>exact ih vals _ i x v hn'.2 (by simpa using h1) (by simpa using h2) h3
theorem Jw(kf:Str->Option NameKind):∀(ps:List Str)(vals:List Value)(m:Str->Option Value)(i:Nat)(x:Str)(v:Value),ps.Nodup->ps[i]?=some x->vals[i]?=some v->kf x≠some .local->bindC kf (ps.zip vals) m x=some v:=by
 have keep:∀(ps:List Str)(vals:List Value)(m:Str->Option Value)(x:Str),x∉ps->bindC kf (ps.zip vals) m x=m x:=by
  intro ps
  induction ps with
  |nil=>intro vals m x _;rfl
  |cons p ps ih=>
   intro vals m x hx;cases vals with
   |nil=>rfl
   |cons v vals=>
    simp only[List.zip_cons_cons,bindC]
    (refine(ih vals _ x (λq=>hx (.tail _ q)))▸?_)
    have hne:x≠p:=λq=>hx (q▸.head _)
    split<;>simp[hne]
 intro ps
 induction ps with
|nil=>intro vals m i x v _ h;simp at h
|cons p ps ih=>
  intro vals m i x v hn h1 h2 h3;cases vals with
  |nil=>simp at h2
  |cons w vals=>
   simp only[List.zip_cons_cons,bindC];have hn':=List.nodup_cons.mp hn;cases i with
   |zero=>
    simp at h1 h2;subst h1 h2;refine(keep ps vals _ p hn'.1)▸?_;refine(if_neg h3)▸?_;simp
   |succ i=>exact ih vals _ i x v hn'.2 (by simpa using h1) (by simpa using h2) h3
theorem zV{vs:List V}{k i:Nat}(h:cm (vs.map some++List.replicate k none) i=some u):vs[i]?=some u:=by
 rw[Bx] at h
 by_cases hi:i<vs.length
 ·rw[List.getElem?_append_left (by simpa using hi)] at h
  simpa[List.getElem?_map,hi] using h
 ·rw[List.getElem?_append_right (by simpa using hi)] at h;rw[List.getElem?_replicate] at h
  split at h<;>simp at h
def start(vs:List V)(fn:Fn):aR:=vs.map some++List.replicate (fn.slots-fn.arity) none
structure lh(G:Gd)(A:Around)(n:Nat)(N:List Str)(names:Kn)(fn:Fn)(vs:List V)(s:Shared)(ρ:List Addr)(σ:H)(env:Env)(aC:Heap):Prop where
 Z:dw env names
 X:bt G N env ρ aC (start vs fn)
 S:aH G ρ σ aC
 Y:Ao (A.deeper env) n
 fr:env.frame=some env.locals
 keep:∀b o,s.heap.get? b=some o->aC.get? b=some o
 newL:s.heap.get? env.locals=none
 iG:∀x c,env.cells.lookup x=some c->s.heap.get? c=none
section
variable{G:Gd}{n:Nat}{A:Around}{f:Nat}{fn:Fn}{fd:FuncData}{N:List Str}{body:List Stmt}{vs:List V}{vals:List Value}{s:Shared}{ρ az:List Addr}{σ:H}{env:Env}{aC h':Heap}{names:Kn}{Q:bG}{E:bG}
theorem call_in(a7:cD G)(X:pV G f fn fd N body)(hlen:vs.length=fn.arity)(Y:Ao A (n+1))(S:aH G ρ σ s.heap)(rl:bK G ρ s.heap vals vs)(k:∀env aC fu,lh G A n N fd.scope.names fn vs s ρ σ env aC->wpAny G.mo (A.deeper env) (execs body env) (λf s'=>Q (match f with|.ret v=>v|_=>.none) s')
   (λe s'=>wpAny G.mo (A.deeper env) (leaving env e) (λ_ s''=>E e s'') (λe' s''=>E e' s'') s') {s with heap:=aC,toks:=fu}):wpAny G.mo A (call (.ref (G.fA f)) vals) Q E s:=by
 refine aO (X.obj) λo ho hdat=>?_;have hvl:vals.length=fn.arity:=by(refine(rl.length)▸?_;refine hlen▸?_;with_reducible rfl)
 have RS:(N.take fn.arity).length=fn.arity:=by(refine(List.length_take)▸?_;refine(X.len)▸?_);have:=X.arity;lia
 have hpar:∀x∈N.take fn.arity,fd.scope.names.lookup x=some .local∨fd.scope.names.lookup x=some .cell:=λx hx=>by
  have:=List.all_eq_true.mp X.params x hx;unfold eR at this
  simpa using this
 have hnd:(N.take fn.arity).Nodup:=(List.take_sublist _ _).nodup X.nodup;refine wpAny_call (codeAny_call_cells (by have:=Y.room;exact lN 0x34184c04904920534190106138c [_,_,_] rfl this) (S.base _ _ ho) hdat (a7.nolimit.keeps S.base) (X.code.keeps S.base) X.uP (X.bind vals hvl) X.aZ (λx hx=>?_) (λbw I=>?_) X.co X.gen X.kind)
 ·have hx':x.1∈N.take fn.arity:=(List.of_mem_zip (show(x.1,x.2)∈_ from hx)).1;rcases hpar x.1 hx' with q|q
  ·exact .inl q
  ·exact .inr ⟨q,su _ _ _ _ (.inl q)⟩
 ·refine gm (I.toInCall.same) λaC fu a9=>?_;subst a9;have kp:=I.toInCall.keep;have t6:bK G ρ aC vals vs:=rl.step (Step.grow S kp) S;have yd:s.heap.objs.size<=(callEnvC fd s.heap.objs.size (G.fA f)).locals:=aQ _;have ye:∀x c,(callEnvC fd s.heap.objs.size (G.fA f)).cells.lookup x=some c->s.heap.objs.size<=c:=λx c hc=>Nat.le_of_lt (I.above x c (mem_of_lookup hc));have arg:∀i u x,cm (start vs fn) i=some u->N[i]?=some x->(N.take fn.arity)[i]?=some x/\∃v,vals[i]?=some v/\Rel G ρ aC v u:=λi u x h1 h2=>by
   have h3:=zV h1;have hi:i<fn.arity:=by(refine hlen▸?_);exact(List.getElem?_eq_some_iff.mp h3).1
   refine⟨by rw[List.getElem?_take,if_pos hi];exact h2,?_⟩;exact t6.get h3
  refine k _ aC fu ⟨⟨X.kind,rfl⟩,?_,(S.grow kp),⟨Y.hh,by have:=Y.room;show A.depth+1+n+4<=_;exact lN 0x38190134184c04904920538190106134c [_,_,_] rfl this,by have:=Y.units;show A.units+3+3*n+200<=_;exact lN 0x3812078c110d8c18cc0490492053812078c110184d8cc [_,_,_] rfl this⟩,rfl,kp,Heap.get?_none_of_le yd,λx c hc=>Heap.get?_none_of_le (ye x c hc)⟩;refine⟨X.kind,X.glob,X.blt,⟨_,I.toInCall.ns,λi u x h1 h2 h3=>?_⟩,λx hx=>?_,λi u h1=>?_,λx y c h1 h2 h3 h4=>name_of_addr I.apart (mem_of_lookup h3) (mem_of_lookup h4),X.nodup,S.fresh yd,λx c _ hc=>S.fresh (ye x c hc),S.outside yd,λx c _ hc=>S.outside (ye x c hc)⟩
  ·obtain⟨h4,v,h5,h6⟩:=arg i u x h1 h2;exact⟨v,Jv _ _ _ _ i x v hnd h4 h5 h3,h6⟩
  ·obtain⟨c,hc⟩:=Option.isSome_iff_exists.mp (su fd.scope.names (s.heap.objs.size+1) [] x (.inl hx));refine⟨c,_,hc,I.cell x c hc,λi u h1 h2=>?_⟩;obtain⟨h4,v,h5,h6⟩:=arg i u x h1 h2;exact⟨v,Jw _ _ _ _ i x v hnd h4 h5 (by(refine hx▸?_);simp),h6⟩
  ·have h3:=zV h1;have hi:i<fn.arity:=by(refine hlen▸?_);exact(List.getElem?_eq_some_iff.mp h3).1
   have hN:i<N.length:=by(refine(X.len)▸?_);have:=X.arity;exact lN 0xd06130124124124814e06130534e [_,_,_] rfl hi this
   refine⟨N[i],List.getElem?_eq_getElem hN,hpar _ ?_⟩;rw[List.mem_take_iff_getElem];exact⟨i,by lia,rfl⟩
theorem lh.fresh(T:lh G A n N names fn vs s ρ σ env aC)(h:aC.get? a=none):s.heap.get? a=none:=by
 cases e:s.heap.get? a with
|none=>rfl
|some ob=>(replace h:=(T.keep _ _ e)▸h);exact d9 h
theorem lh.back(T:lh G A n N names fn vs s ρ σ env aC)(st:dA env ρ aC az h'):Step ρ s.heap az h':=by
 refine⟨st.pre,λa ha=>(st.fresh a ha).imp id T.fresh,λa ob e hn=>st.keep a ob (T.keep _ _ e) hn (λq=>?_) λx _ q=>?_⟩
 ·(replace e:=(T.newL)▸(q▸e));exact bL e
 ·(replace e:=(T.iG x a q)▸e);exact bL e
theorem lh.Dk(T:lh G A n N names fn vs s ρ σ env aC)(st:jE env (places l) ρ aC az h'):xy (places l) ρ s.heap az h':=by
 refine⟨st.pre,λa ha=>(st.fresh a ha).imp id T.fresh,λa ob e hn hw=>st.keep a ob (T.keep _ _ e) hn hw (λq=>?_) λx _ q=>?_,λa o hw e d=>st.slot a o hw (T.keep _ _ e) d⟩
 ·(replace e:=(T.newL)▸(q▸e));exact bL e
 ·(replace e:=(T.iG x a q)▸e);exact bL e
theorem lh.fs(T:lh G A n N names fn vs s ρ σ env aC)(Y:Lay G A l ρ s.heap):Fs (A.deeper env) env l env.locals env ρ aC/\Sep l env:=by
 refine aO (T.X.ns) λm hm _=>?_;refine aO (tj hm) λo e d=>?_;refine⟨⟨Around.frames_deeper Y.fr,T.fr,T.fr,⟨by(refine(T.Z.kind)▸?_);decide,⟨env.locals,o,T.fr,rfl,e,d⟩,(sh Y.alive λb _ o e hn=>⟨o,T.keep b o e,hn⟩)⟩,λb hb=>?_⟩,λb hb=>⟨λq=>?_,λx _ q=>?_⟩⟩
 ·refine aO (List.mem_filterMap.mp hb) λx hx hf=>?_;rcases List.mem_cons.mp hx with rfl|hx
  ·(replace hf:=(T.fr)▸hf);(apply eJ hf);exact T.X.jH
  ·exact Y.own b (List.mem_filterMap.mpr ⟨x,hx,hf⟩)
 ·refine aO (mi Y.alive hb) λo e _=>?_;(replace e:=(T.newL)▸(q▸e));exact bL e
 ·refine aO (mi Y.alive hb) λo e _=>?_;(replace e:=(T.iG x b q)▸e);exact bL e
end
theorem v9(hf:P.fns f=some fn)(σ:H):aq P sc (n+1) f vs σ=if vs.length=fn.arity then bS (a6 ⟨sc,P.consts,aq P sc n,P.eT,P.n5⟩ fn.body (start vs fn) σ) else .bad:=by
 simp only[aq,hf]
 split<;>rfl
section
variable{G:Gd}{n:Nat}(a7:cD G)(F:iC G)(hF:∀f fn,G.P.fns f=some fn->∃fd N body,pV G f fn fd N body)(bO:∀R,j5 (G.re R) n)
include a7 F hF bO
omit a7 F hF bO in
theorem BF{T:fv}{N:List Str}{K:Kn}(hk:k≠2)(h:rI T N K k b l=true):gu T N K b l=true/\(k=1->lR T b=true):=by
 unfold rI at h;replace h:=(decide_eq_false hk)▸h;refine a5 (aT (show(gu T N K b l&&(!decide (k=1)||lR T b))=true from h)) λh1 h2=>?_;refine⟨h1,λq=>?_⟩;rcases Bool.or_eq_true_iff.mp h2 with h|h
 ·(replace h:=(decide_eq_true q)▸h);exact ff h
 ·exact h
theorem Ic:j5 G (n+1):=by
 intro A Y f nt vs vals s ρ σ Q E S rl h;refine gm (PV.some h) λr ax e=>?_;refine bo (sm e) λfn m hf hm=>?_;rw[v9 hf] at h
 by_cases hlen:vs.length=fn.arity
 ·replace h:=(if_pos hlen)▸h;refine kQ (hF f fn hf) λfd N body X=>?_;refine call_in a7 X hlen Y S rl λenv aC fu T=>?_;refine mj a7 F T.Y bO T.Z fn.body (BF nt X.uQ).1 G.res {s with heap:=aC,toks:=fu} ρ σ _ _ _ T.X T.S ?_;have h':PV G (bS (a6 (G.ctx n) fn.body (start vs fn) σ)) ρ s Q:=h;show PS G N env (a6 (G.ctx n) fn.body (start vs fn) σ) ρ _ _;generalize a6 (G.ctx n) fn.body (start vs fn) σ=w at h' ⊢;cases w with
  |ok fl L' ag=>
   intro oG bp cC dQ cF b6 dB rf;cases rf with
   |next=>exact h' .none bp cC dQ (T.back cF) b6 .none
   |ret r=>exact h' _ bp cC dQ (T.back cF) b6 r
   |brk=>exact h'.elim
   |cont=>exact h'.elim
  |aF c L' ag=>exact h'.elim
  |bad=>exact h'.elim
 ·(replace h:=(if_neg hlen)▸h);exact h.elim
variable(W:kA G)(CX:n7 G n)
include W CX
theorem Ht:n7 G (n+1):=by
 intro A Y fe outer Lf RJ f xf vs vals s ρ σ ag Q E S rl Fr ev px;rcases xf with xf|xf
 ·refine bZ (W.has f (.inl xf)) λfn hf=>?_;rw[v9 hf] at ev
  by_cases hlen:vs.length=fn.arity
  ·replace ev:=(if_pos hlen)▸ev;refine kQ (hF f fn hf) λfd N body X=>?_;refine call_in a7 X hlen Y S rl λenv aC fu T=>?_;refine a5 (T.fs ⟨Fr.fr,Fr.alive,Fr.own⟩) λeZ sep=>?_;refine a5 (BF (by(refine xf.symm▸?_);decide) X.uQ) λhc1 hc2=>?_;have ev':bS (a6 (G.ctx n) fn.body (start vs fn) σ)=.aF G.tg ag:=ev;obtain⟨L',Pw⟩:∃L',a6 (G.ctx n) fn.body (start vs fn) σ=.aF G.tg L' ag:=by
    generalize a6 (G.ctx n) fn.body (start vs fn) σ=w at ev';cases w with
    |ok fl L' ag=>cases fl<;>(first|exact p7 ev'|exact kz ev'|cases ev')
    |aF c L' ag=>(refine yw ev' λaP cL=>?_;(clear ev';subst aP);(clear ev px;subst cL));exact⟨L',rfl⟩
    |bad=>exact kz ev'
   refine o2 a7 F T.Y bO W CX T.Z fn.body hc1 (hc2 xf) {s with heap:=aC,toks:=fu} ρ σ _ L' ag (fe::outer) _ _ T.X T.S eZ sep Pw λe bp h' tk az st S' X' yJ=>?_;refine HW (eZ.iZ sep st X') yJ λdq base B hd u=>?_;refine aO (X'.ns) λm hm _=>?_;have gG:∀b o,b≠env.locals->bp.get? b=some o->(hid bp [env.locals]).get? b=some o:=λb o hb e=>qP _ e (by simpa using hb);have QW:base.get? env.locals=none:=(Heap.FunFrames.mem hd.frames (List.mem_filterMap.mpr ⟨env,.head _,T.fr⟩)).1;refine px e (hid bp [env.locals]) dq tk az ((T.back st).other T.newL gG) (S'.iA X'.jH X'.newL (nB hm) gG) (.on ⟨λb o q=>?_,λb o q hn=>?_⟩ ⟨hd.stays,hd.new,hd.frames.2.2,hd.MB⟩ λb o q hn=>u b o (kN _ q) hn)
   ·exact gG b o (λz=>by(replace q:=QW▸(z▸q));exact bL q) (B.sub b o q)
   ·refine B.sup b o (kN _ q) λz=>?_;refine aO (List.mem_filterMap.mp z) λx hx hf=>?_;rcases List.mem_cons.mp hx with rfl|hx
    ·(replace hf:=(T.fr)▸hf);(refine dE hf λaP=>?_;(clear hf z;subst aP));(replace q:=(o8 _ (.head _))▸q);exact bL q
    ·exact hn (List.mem_filterMap.mpr ⟨x,hx,hf⟩)
  ·(replace ev:=(if_neg hlen)▸ev);exact kz ev
 ·exact absurd ev (W.calm _ _ _ xf _ _)
variable(CY:rn G n)
include CY
theorem Hu:rn G (n+1):=by
 intro A Y l f kd vs vals s ρ σ Q E S rl La new h;have hf':∃fn,G.P.fns f=some fn:=by
  cases hf:G.P.fns f with
  |none=>simp only[aq,hf] at h;exact h.elim
  |some fn=>exact⟨fn,rfl⟩
 refine bZ (hf') λfn hf=>?_;rw[v9 hf] at h
 by_cases hlen:vs.length=fn.arity
 ·replace h:=(if_pos hlen)▸h;refine kQ (hF f fn hf) λfd N body X=>?_;refine call_in a7 X hlen Y S rl λenv aC fu T=>?_;refine a5 (T.fs La) λeZ sep=>?_;have hc:rH G.aE N fd.scope.names fn.body body=true:=by
   have:=X.uQ;unfold rI at this;replace this:=(decide_eq_true kd)▸this;exact this
  refine AD a7 F T.Y bO W CX CY T.Z fn.body hc {s with heap:=aC,toks:=fu} ρ σ _ l _ _ ⟨T.X,T.S,eZ,sep,new⟩ ?_;have h':yK G l (bS (a6 (G.ctx n) fn.body (start vs fn) σ)) ρ s Q:=h;generalize a6 (G.ctx n) fn.body (start vs fn) σ=w at h' ⊢;cases w with
  |ok fl L' ag=>
   intro oG bp cC dQ cF b6 dB rf;cases rf with
   |next=>exact h' .none bp cC dQ (T.Dk cF) b6 .none
   |ret r=>exact h' _ bp cC dQ (T.Dk cF) b6 r
   |brk=>exact h'.elim
   |cont=>exact h'.elim
  |aF c L' ag=>exact h'.elim
  |bad=>exact h'.elim
 ·(replace h:=(if_neg hlen)▸h);exact h.elim
end
theorem Bf(a7:cD G)(F:iC G)(hF:∀f fn,G.P.fns f=some fn->∃fd N body,pV G f fn fd N body)(W:kA G):∀n,(∀R,j5 (G.re R) n)/\n7 G n/\rn G n
|0=>by
  refine⟨?_,?_,?_⟩
  ·intro R A Y f nt vs vals s ρ σ Q E S rl h;exact h.elim
  ·intro A Y fe outer Lf env f xf vs vals s ρ σ ag Q E S rl Fr ev px;exact kz ev
  ·intro A Y l f kd vs vals s ρ σ Q E S rl La new h;exact h.elim
|n+1=>by
  refine kP (Bf a7 F hF W n) λc1 c2 c3=>?_;exact⟨λR=>Ic (a7.re R) F (λf fn h=>let ⟨fd,N,body,X⟩:=hF f fn h;⟨fd,N,body,⟨X.obj,X.uP,X.glob,X.blt,X.aZ,X.code,X.co,X.gen,X.kind,X.bind,X.nodup,X.len,X.arity,X.params,X.uQ⟩⟩) c1,Ht a7 F hF c1 W c2,Hu a7 F hF c1 W c2 c3⟩
theorem zW(h1:fd.params.posonlyargs=[])(h2:fd.params.kwonlyargs=[])(h3:fd.params.vararg=none)(h4:fd.params.kwarg=none)(h5:fd.params.args.map (·.arg)=ps)(h6:fd.defaults=.none)(hn:ps.Nodup)(vals:List Value)(hl:vals.length=ps.length):bindArgs fd ⟨vals,[]⟩=pure (ps.zip vals):=by
 have none_of:∀(ps:List Str)(vals:List Value),vals.length=ps.length->∀x∈ps,((ps.zip vals).lookup x).isSome=true:=by
  intro ps
  induction ps with
  |nil=>intro vals _ x hx;cases hx
  |cons p ps ih=>
   intro vals hl x hx;cases vals with
   |nil=>simp at hl
   |cons v vals=>
    rw[List.zip_cons_cons,List.lookup_cons];cases yL:x==p with
    |true=>rfl
    |false=>
     refine ih vals (by simpa using hl) x ?_;rcases List.mem_cons.mp hx with q|q
     ·(clear hl hx;subst q);simp at yL
     ·exact q
 have skip:∀(qs:List Str)(p:Str)(v:Value)(l:List (Str×Value)),p∉qs->(qs.filterMap λn=>(((p,v)::l).lookup n).map (n,·))=qs.filterMap λn=>(l.lookup n).map (n,·):=by
  intro qs p v l
  induction qs with
  |nil=>intro _;rfl
  |cons x qs ih=>
   intro hp;have yL:(x==p)=false:=by simpa using λ(q:x=p)=>hp (q▸.head _)
   rw[List.filterMap_cons,List.filterMap_cons,List.lookup_cons,yL,ih λq=>hp (.tail _ q)]
 have hlk:∀(ps:List Str)(vals:List Value),ps.Nodup->vals.length=ps.length->(ps.filterMap λn=>((ps.zip vals).lookup n).map (n,·))=ps.zip vals:=by
  intro ps
  induction ps with
  |nil=>intro vals _ _;rfl
  |cons p ps ih=>
   intro vals hn hl;cases vals with
   |nil=>simp at hl
   |cons v vals=>
    have hn':=List.nodup_cons.mp hn;refine(List.zip_cons_cons)▸?_;refine(List.filterMap_cons)▸?_;have e1:((p,v)::ps.zip vals).lookup p=some v:=by rw[List.lookup_cons];simp
    refine e1▸?_;simp only[Option.map_some];rw[skip ps p v _ hn'.1,ih vals hn'.2 (by simpa using hl)]
 have Ec:∀k,((ps.take k).filter λn=>((ps.zip vals).lookup n).isNone)=[]:=λk=>by
  rw[List.filter_eq_nil_iff];intro x hx;have:=none_of ps vals hl x (List.mem_of_mem_take hx);cases h:(ps.zip vals).lookup x with
  |none=>(replace this:=h▸this);exact ff this
  |some v=>simp
 subst h5;have hlk:=hlk _ vals hn hl;obtain⟨nm,qn,⟨po,as,va,ko,kd,kw,df⟩,bd,sc,gl,cl,RT⟩:=fd;dsimp only at h1 h2 h3 h4 h6 hl Ec hlk ⊢;subst h1 h2 h3 h4 h6;refine Eq.trans (if_neg (c:=(decide (vals.length>(as.map (·.arg)).length)&&true)=true) λq=>?_) ?_
 ·rw[hl,Bool.and_true] at q;exact absurd (of_decide_eq_true q) (Nat.lt_irrefl _)
 have hd:∀k,List.drop k ((none.getD #[]).toList:List Value)=[]:=λk=>List.drop_nil;rw[hd];refine Eq.trans (if_neg λq=>cy ((congrArg (λl:List Str=>!l.isEmpty) (Ec _)).symm.trans q)) ?_;have hz:∀l:List Str,List.zip l ([]:List Value)=[]:=λl=>List.zip_nil_right;rw[hz];exact Eq.trans (congrArg (λl:List Str=>(pure (l.filterMap λn=>(((as.map Arg.arg).zip vals).lookup n).map (n,·)):Sem (List (Str×Value)))) (List.append_nil (as.map Arg.arg))) (congrArg (λl=>(pure l:Sem (List (Str×Value)))) hlk)
end Qh
namespace Qh
open PySem PyProof.Rows
def Info.aE(I:Info)(kd:List Nat):fv:=⟨λf=>(((I.df f).map (·.name)).getD ""),λf=>!(I.meths.contains f),λg=>(((I.cn g).map (·.1)).getD ""),λk=>kd.getD k 0⟩
def Info.pJ(I:Info)(kd:List Nat):Prog:=⟨I.fns,λg=>(I.cn g).map (·.2),λk=>kd.getD k 0,λ_ _=>false⟩
def tK:List Str->Bool
|[]=>true
|x::r=>!(r.contains x)&&tK r
def mU(T:fv)(k:Nat)(d:Df)(name:Str)(params:Arguments)(body:List Stmt)(scope:Scope):Bool:=
 decide (name=d.name)&&params.posonlyargs.isEmpty&&params.kwonlyargs.isEmpty&&params.vararg.isNone&&params.kwarg.isNone&&decide (params.args.map (·.arg)=d.slots.take d.fn.arity)
  &&!scope.isCoroutine&&!scope.isGenerator&&decide (scope.kind=.function)&&tK d.slots&&decide (d.slots.length=d.fn.slots)&&decide (d.fn.arity<=d.fn.slots)&&(d.slots.take d.fn.arity).all (eR scope.names)
  &&rI T d.slots scope.names k d.fn.body body
def Dl(self:Str)(st:Stmt):Bool:=(mZ st).any λy=>(n8 y.1).any (λz=>decide (z.2=("many":Str))&&(nameOf z.1).any λq=>decide (q=self))&&(kg y.2).any λc=>decide (c=.int 0)
def wW(m:MethRec):Bool:=decide (m.name=("__init__":Str))&&m.params.posonlyargs.isEmpty&&m.params.kwonlyargs.isEmpty&&m.params.vararg.isNone&&m.params.kwarg.isNone&&decide (m.params.args.map (·.arg)=[("self":Str)])
 &&!m.scope.isCoroutine&&!m.scope.isGenerator&&decide (m.scope.kind=.function)&&decide (m.scope.names.lookup ("self":Str)=some .local)&&(match m.body with|[st]=>Dl "self" st|_=>false)
def qz:List Str:=["value","piece","new_name"]
def Dn(c:ClsRec):Bool:=decide (c.name=("Teller":Str))&&c.quiet.contains "many"&&c.meths.any wW
def Dp(I:Info)(kd:List Nat)(p:Program)(c:ClsRec)(f:Nat)(d:Df):Prop:=
 (f∈I.meths->∃m∈c.meths,m.name∈qz/\mU (I.aE kd) (kd.getD (f+1) 0) d m.name m.params m.body m.scope=true)/\(f∉I.meths->∃r∈recsOf p,mU (I.aE kd) (kd.getD (f+1) 0) d r.name r.params r.body r.scope=true)
def BG(I:Info)(kd:List Nat)(p:Program)(c:ClsRec)(f:Nat):Bool:=match I.df f with
|none=>true
|some d=>if I.meths.contains f then c.meths.any λm=>qz.contains m.name&&mU (I.aE kd) (kd.getD (f+1) 0) d m.name m.params m.body m.scope else(recsOf p).any λr=>mU (I.aE kd) (kd.getD (f+1) 0) d r.name r.params r.body r.scope
def BH(I:Info)(kd:List Nat)(p:Program)(loose:List Str):Bool:=(plainsOf p loose).any λc=>Dn c&&(List.range I.defs.length).all (BG I kd p c)
def Dq(I:Info)(kd:List Nat)(f:Nat):Bool:=match I.df f with
|none=>!((I.aE kd).x f)
|some d=>!((I.aE kd).q f)||mx (I.aE kd).q ((I.aE kd).io 0) d.fn.body
def Ed(I:Info)(kd:List Nat):Bool:=(List.range kd.length).all (Dq I kd)
theorem BI(h:Ed I kd=true)(f:Nat)(hf:(I.aE kd).x f=true):∃d,I.df f=some d/\((I.aE kd).q f=true->mx (I.aE kd).q ((I.aE kd).io 0) d.fn.body=true):=by
 have hm:f∈List.range kd.length:=by
  rw[List.mem_range]
  by_cases q:f+1<kd.length
  ·exact lN 0x34184c04904920534184184c [_,_] rfl q
  ·have e:(I.aE kd).io (f+1)=0:=by
    show kd.getD (f+1) 0=0;rw[List.getD_eq_getElem?_getD,List.getElem?_eq_none (by exact lN 0x6134c04904920506134c [_,_] rfl (Nat.not_lt.mp q))];rfl
   unfold fv.x at hf;(replace hf:=e▸hf);exact ff hf
 have h1:=List.all_eq_true.mp h f hm;unfold Dq at h1;cases e:I.df f with
|none=>(replace h1:=e▸h1);simp only[hf] at h1;exact ff h1
|some d=>
  replace h1:=e▸h1;refine⟨d,rfl,λq=>?_⟩;simp only[q] at h1;exact h1
theorem Hv(h:BH I kd p loose=true):∃c∈plainsOf p loose,Dn c=true/\∀f d,I.df f=some d->Dp I kd p c f d:=by
 refine aO (List.any_eq_true.mp h) λc hc h=>?_;obtain⟨h1,h2⟩:=aT h;refine⟨c,hc,h1,λf d hd=>?_⟩;have hf:f∈List.range I.defs.length:=by
  rw[List.mem_range];unfold Info.df at hd;cases e:I.defs[f]? with
  |none=>(replace hd:=e▸hd);exact bL hd
  |some o=>exact(List.getElem?_eq_some_iff.mp e).1
 have h3:=List.all_eq_true.mp h2 f hf;unfold BG at h3;replace h3:=hd▸h3;simp only at h3;refine⟨λhm=>?_,λhm=>?_⟩
 ·replace h3:=(if_pos (List.contains_iff_mem.mpr hm))▸h3;refine aO (List.any_eq_true.mp h3) λm hm h4=>?_;obtain⟨h5,h6⟩:=aT h4;exact⟨m,hm,List.contains_iff_mem.mp h5,h6⟩
 ·(replace h3:=(if_neg (λq=>hm (List.contains_iff_mem.mp q)))▸h3);refine aO (List.any_eq_true.mp h3) λm hm h4=>?_;exact⟨m,hm,h4⟩
theorem Jx:typeLookup (.type "object") "value"=pure none:=by rw[typeLookup_type,builtinLookup_eq_fast];kernel_rfl
theorem Jy:typeLookup (.type "object") "piece"=pure none:=by rw[typeLookup_type,builtinLookup_eq_fast];kernel_rfl
theorem MN:typeLookup (.type "object") "new_name"=pure none:=by rw[typeLookup_type,builtinLookup_eq_fast];kernel_rfl
theorem Jz(h:x∈qz):typeLookup (.type "object") x=pure none/\x≠"many":=by
 have:x="value"∨x="piece"∨x="new_name":=by simpa[qz] using h
 rcases this with rfl|rfl|rfl
 ·exact⟨Jx,by decide+kernel⟩
 ·exact⟨Jy,by decide+kernel⟩
 ·exact⟨MN,by decide+kernel⟩
theorem vN:∀{l:List Str},tK l=true->l.Nodup
|[],_=>List.nodup_nil
|x::r,h=>by
  simp only[tK,Bool.and_eq_true,Bool.not_eq_true',List.contains_eq_mem,decide_eq_false_iff_not] at h;exact List.nodup_cons.mpr ⟨h.1,vN h.2⟩
def uj:List PySem.W.WData->List V->Bool
|[],vs=>vs.isEmpty
|d::ds,vs=>match d with
  |.str a=>(match vs with|v::vs=>(match v with|.str b=>decide (a=b)&&uj ds vs|_=>false)|[]=>false)
  |_=>false
def Ee(d:PySem.W.WData)(vs:List V):Bool:=match d with
|.tuple ds=>uj ds vs
|_=>false
def wX(o:Option PyData)(j:Int):Bool:=match o with
|some d=>(match d with|.int i=>decide (i=j)|_=>false)
|none=>false
def wY(o:Option PyData)(j:Str):Bool:=match o with
|some d=>(match d with|.str i=>decide (i=j)|_=>false)
|none=>false
theorem Ie(h:wX o j=true):o=some (.int j):=by
 cases o with
|none=>exact absurd (show false=true from h) cy
|some d=>cases d with
  |int i=>(refine(of_decide_eq_true (show decide (i=j)=true from h))▸?_;with_reducible rfl)
  |_=>exact absurd (show false=true from h) cy
theorem Ig(h:wY o j=true):o=some (.str j):=by
 cases o with
|none=>exact absurd (show false=true from h) cy
|some d=>cases d with
  |str i=>(refine(of_decide_eq_true (show decide (i=j)=true from h))▸?_;with_reducible rfl)
  |_=>exact absurd (show false=true from h) cy
def constOk(p:Program)(x:Str×V):Bool:=match x.2 with
|.int j=>wX (valOf p x.1) j
|.str j=>wY (valOf p x.1) j
|.aB vs=>(PySem.W.wlitsOf p).any λc=>decide (c.1=x.1)&&Ee c.2 vs
|_=>false
theorem Bg:∀{ds:List PySem.W.WData}{vs:List V}{xs:List Value}{as:List Addr},uj ds vs=true->PySem.W.ReadsAllW R cl h' xs ds as->bK G ρ h xs vs
|[],vs,xs,as,h,r=>by
  cases r;have h:vs.isEmpty=true:=h
  (refine(List.isEmpty_iff.mp h)▸?_);exact .nil
|d::ds,vs,xs,as,h,r=>by
  cases r with
  |cons rx rr=>
   cases d with
   |str a=>cases vs with
    |nil=>exact absurd (show false=true from h) cy
    |cons v vs=>cases v with
     |str b=>
      have h:(decide (a=b)&&uj ds vs)=true:=h;rw[Bool.and_eq_true] at h;obtain rfl:=of_decide_eq_true h.1;cases rx;exact .cons (.str _ _) (Bg h.2 rr)
     |_=>exact absurd (show false=true from h) cy
   |_=>exact absurd (show false=true from h) cy
def JA(p:Program):Option (Str×V)->Bool
|none=>true
|some x=>constOk p x
theorem MO{I:Info}{f:Nat}(h:I.cn f=some d):some d∈I.consts:=by
 unfold Info.cn at h;cases e:I.consts[f]? with
|none=>(replace h:=e▸h);exact bL h
|some o=>(replace h:=e▸h);simp at h;subst h;exact List.mem_of_getElem? e
def Dr(p:Program)(loose:List Str)(b:Str):Bool:=!startupNames.contains b&&!loose.contains b&&!((recsOf p).map (·.name)).contains b&&!((litsOf p).map (·.1)).contains b&&!((clssOf p loose).map (·.name)).contains b&&!(b=="__name__")
def ik(prog:Program)(w:World)(h:Heap)(sA:Addr)(script:List Int)(I:Info)(kd:List Nat)(mg:Str->Option Value)(C CE:Addr)(mN:Str->Option Value):Gd:=
 {prog,w,hb:=h,sA,script,cA:=λk=>bif k==1 then CE else C,P:=I.pJ kd,fN:=(I.aE kd).fN,fA:=λf=>(match (bif I.meths.contains f then mN else mg) ((I.aE kd).fN f) with|some (.ref a)=>a|_=>0),eO:=(I.aE kd).eO,gN:=(I.aE kd).gN,res:=[]}
section
variable{prog view:Program}{loose:List Str}{mean:ExcName->Option Value}{mg mb:Str->Option Value}{w:World}{bw:Shared}{sA:Addr}{script:List Int}{I:Info}{kd:List Nat}
theorem Ds(ho:o.data=Data.func fd)(hg:G.hb.get? (G.fA f)=some o)(hc:mU G.aE (G.P.eT (f+1)) d name fd.params body fd.scope=true)(h1:fd.body=.stmts body)(h2:fd.globals=mainGlobals)(h3:fd.builtins=builtinsNs)(h4:fd.closure=[])(h5:G.hb.CodeRec fd.code fd.qualname)(h6:fd.defaults=.none):
  ∃fd body,pV G f d.fn fd d.slots body:=by refine bB λXx aI=>?_;unfold mU at hc;simp only[Bool.and_eq_true,decide_eq_true_eq,List.isEmpty_iff,Option.isNone_iff_eq_none,Bool.not_eq_true'] at hc;obtain⟨⟨⟨⟨⟨⟨⟨⟨⟨⟨⟨⟨⟨c1,c2⟩,c3⟩,c4⟩,c5⟩,c6⟩,c7⟩,c8⟩,c9⟩,uR⟩,oK⟩,c12⟩,QX⟩,QY⟩:=hc;exact aI ⟨fd,body,⟨o,hg,ho⟩,h1,h2,h3,h4,h5,c7,c8,c9,λvals hv=>zW c2 c3 c4 c5 c6 h6 ((List.take_sublist _ _).nodup (vN uR)) vals (by rw[List.length_take,oK,Nat.min_eq_left c12];exact hv),vN uR,oK,c12,QX,QY⟩
theorem BJ(hc:mU T k d name ps body sc=true):name=d.name:=by
 unfold mU at hc
 repeat (replace hc:=(Bool.and_eq_true_iff.mp hc).1)
 exact of_decide_eq_true hc
theorem Oy{c:ClsRec}{C CE N:Addr}{mN:Str->Option Value}(T:Top view loose mean mg mb bw.heap)(PL:PlainAt bw.heap c C N mN)(hd:∀f d,I.df f=some d->Dp I kd view c f d)(hf:I.df f=some d):
  ((I.aE kd).eO f=true->mg ((I.aE kd).fN f)=some (.ref ((ik prog w bw.heap sA script I kd mg C CE mN).fA f)))/\((I.aE kd).eO f=false->mN ((I.aE kd).fN f)=some (.ref ((ik prog w bw.heap sA script I kd mg C CE mN).fA f))/\(∃o,bw.heap.get? ((ik prog w bw.heap sA script I kd mg C CE mN).fA f)=some o/\o.cls=.type "function")/\(I.aE kd).fN f∈qz)/\
   ∃fd body,pV (ik prog w bw.heap sA script I kd mg C CE mN) f d.fn fd d.slots body:=by
 refine a5 (hd f d hf) λhm hg=>?_;have Fc:(I.aE kd).fN f=d.name:=by
  show((I.df f).map (·.name)).getD ("":Str)=_
  (refine hf▸?_);rfl
 by_cases q:f∈I.meths
 ·refine bB λXx aI=>?_;refine b8 (hm q) λr hr QZ hc=>?_;refine CO (PL.meths r hr) λa o pm code doc h1 h2 h3 h4 h5=>?_;have hi:(I.aE kd).eO f=false:=by show(!(I.meths.contains f))=false;(refine(List.contains_iff_mem.mpr q)▸?_);rfl
  refine aI ?_;have hN:(I.aE kd).fN f=r.name:=by(refine Fc▸?_;exact(BJ hc).symm)
  have hA:(ik prog w bw.heap sA script I kd mg C CE mN).fA f=a:=by
   show(match (bif I.meths.contains f then mN else mg) ((I.aE kd).fN f) with|some (.ref a)=>a|_=>0)=a;refine(List.contains_iff_mem.mpr q)▸?_;refine hN▸?_;show(match mN r.name with|some (.ref a)=>a|_=>0)=a;refine h1▸?_;with_reducible rfl
  refine⟨λz=>(by(replace z:=hi▸z);exact ff z),λ_=>⟨by(refine hA▸?_;refine hN▸?_);exact h1,⟨o,by(refine hA▸?_);exact h2,h3⟩,by(refine hN▸?_);exact QZ⟩,Ds h4 (by(refine hA▸?_);exact h2) hc rfl rfl rfl rfl h5 rfl⟩
 ·refine bB λXx aI=>?_;refine aO (hg q) λr hr hc=>?_;refine Oa (T.fn r hr) λa o pm code doc h1 h2 h3 h4=>?_;have hq:I.meths.contains f=false:=by
   cases e:I.meths.contains f with
   |false=>rfl
   |true=>exact absurd (List.contains_iff_mem.mp e) q
  have hi:(I.aE kd).eO f=true:=by show(!(I.meths.contains f))=true;(refine hq▸?_);rfl
  refine aI ?_;have hN:(I.aE kd).fN f=r.name:=by(refine Fc▸?_;exact(BJ hc).symm)
  have hA:(ik prog w bw.heap sA script I kd mg C CE mN).fA f=a:=by
   show(match (bif I.meths.contains f then mN else mg) ((I.aE kd).fN f) with|some (.ref a)=>a|_=>0)=a;refine hq▸?_;refine hN▸?_;show(match mg r.name with|some (.ref a)=>a|_=>0)=a;refine h1▸?_;with_reducible rfl
  refine⟨λ_=>by(refine hA▸?_;refine hN▸?_);exact h1,λz=>(by(replace z:=hi▸z);exact tf z),Ds h3 (by(refine hA▸?_);exact h2) hc rfl rfl rfl rfl h4 rfl⟩
theorem Lc{c:ClsRec}{C N:Addr}(PL:PlainAt bw.heap c C N mN)(h:c.meths.any wW=true):
  ∃fI oI fd self p1 p2 p3 p4 k,mN "__init__"=some (.ref fI)/\bw.heap.get? fI=some oI/\oI.cls=.type "function"/\oI.data=.func fd/\bw.heap.CodeRec fd.code fd.qualname/\
  fd.body=.stmts [.Assign [.Attribute (.Name self p1) "many" p2] (.Constant (.int 0) k p3) p4]/\(∀v,bindArgs fd ⟨[v],[]⟩=pure [(self,v)])/\fd.closure=[]/\fd.scope.names.lookup self=some .local/\
  fd.scope.isCoroutine=false/\fd.scope.isGenerator=false/\fd.scope.kind=.function/\(self==("__debug__":Str))=false:=by
 refine aO (List.any_eq_true.mp h) λm hm hc=>?_;refine CO (PL.meths m hm) λa o pm code doc h1 h2 h3 h4 h5=>?_;unfold wW at hc;simp only[Bool.and_eq_true,decide_eq_true_eq,List.isEmpty_iff,Option.isNone_iff_eq_none,Bool.not_eq_true'] at hc;refine bB λXx aI=>?_;obtain⟨⟨⟨⟨⟨⟨⟨⟨⟨⟨c1,c2⟩,c3⟩,c4⟩,c5⟩,c6⟩,c7⟩,c8⟩,c9⟩,uR⟩,oK⟩:=hc;have hb:∃st,m.body=[st]/\Dl "self" st=true:=by
  generalize m.body=l at oK
  match l,oK with
  |[st],oK=>exact⟨st,rfl,oK⟩
 refine aO (hb) λst hb hi=>?_;obtain⟨⟨t,e⟩,hv,hq⟩:=cJ hi;replace hv:=BD hv;obtain⟨p4,rfl⟩:=hv;obtain⟨hq1,hq2⟩:=aT hq;obtain⟨⟨o',x'⟩,hv',h6⟩:=cJ hq1;obtain⟨p2,e1⟩:=v8 hv';subst (e1);obtain⟨h7,h8⟩:=aT h6;have h7:x'=_:=of_decide_eq_true h7;clear hv' hq1 hi hq h6;subst h7;refine aO (cJ h8) λy hy h9=>?_;obtain⟨p1,e2⟩:=lX hy;subst (e2);have h9:=of_decide_eq_true h9;subst h9;refine aO (cJ hq2) λk0 hk b7=>?_;refine gm (sR hk) λk p3 e3=>?_;clear hk;subst (e3);have b7:=of_decide_eq_true b7;subst b7;refine aI ?_;refine⟨a,o,_,"self",p1,p2,p3,p4,k,by(refine c1▸?_);exact h1,h2,h3,h4,h5,?_,λv=>?_,rfl,uR,c7,c8,c9,by decide+kernel⟩
 ·show FuncBody.stmts m.body=_;refine hb▸?_;with_reducible rfl
 ·exact zW (fd:=methDef m.name (c.name++"."++m.name) m.params m.body m.scope pm code doc) (ps:=["self"]) c2 c3 c4 c5 c6 rfl (by decide+kernel) [v] rfl
theorem MP(T:Top view loose mean mg mb bw.heap)(TW:PySem.W.TopW view mg bw.heap)(TE:TopE view loose mg bw.heap)(hs:bw.heap.NoSeer)(hcd:BH I kd view loose=true)(Fd:Ed I kd=true)(Q0:specOf view "TooGreat"=some ("ValueError.__new__",Be))(hkd:kd.getD (L+1) 0=2)(hc:I.consts.all (JA view)=true)(hb:nH.all (Dr view loose)=true){xs:List Value}(hl:bw.heap.IsList sA xs.toArray)(hi:IntsAre xs script)(MQ:script.length<=63){fa:Addr}{dL:Df}(hL:I.df L=some dL)(Q4:(I.aE kd).eO L=true)(yM:mg dL.name=some (.ref fa)){ag:H}(rJ:aq (I.pJ kd) script 690 L [.ct] []=.ok (.bool true) ag){Q:bG}{E:bG}(hQ:∀h' tk,(∀b o,bw.heap.get? b=some o->h'.get? b=some o)->Q (.bool true) {bw with heap:=h',toks:=tk}):
  wpAny (model prog w) callerA (call (.ref fa) [.ref sA]) Q E bw:=by
 refine aO (T.ownAt Q0) λCE OE _=>?_;have hfn:∀f fn,(I.pJ kd).fns f=some fn->∃d,I.df f=some d/\d.fn=fn:=λf fn h=>by
  have h':(I.df f).map (·.fn)=some fn:=h;cases e:I.df f with
  |none=>(replace h':=e▸h');exact bL h'
  |some d=>(replace h':=e▸h');exact⟨d,rfl,by simpa using h'⟩
 refine b8 (Hv hcd) λc Q5 g8 hd=>?_;refine fV (TE c Q5) λC NA mN hC Q6=>?_;have PL:=Q6.ofCmp;refine a5 (aT g8) λPx Q7=>?_;refine a5 (aT Px) λhcn Q8=>?_;replace hC:=((of_decide_eq_true hcn))▸hC;have ok:∀{f:Nat}{d:Df},I.df f=some d->_:=λ{f d} h=>Oy (CE:=CE) (prog:=prog) (w:=w) (sA:=sA) (script:=script) T PL hd h;have a7:cD (ik prog w bw.heap sA script I kd mg C CE mN):=by
  refine⟨T.nolimit,⟨mg,mb,T.g,T.b,λf fn h hg=>?_,λg u h=>?_,λb hb'=>?_⟩,?_,⟨xs,hl,hi⟩,bP MQ (by decide),mg,NA,mN,T.g,hC,⟨PL.cls,PL.quiet _ (List.mem_append_left _ (.head _)),PL.quiet _ (List.mem_append_left _ (.tail _ (.head _))),PL.quiet _ (List.mem_append_left _ (.tail _ (.tail _ (.head _)))),PL.quiet _ (List.contains_iff_mem.mp Q8),λf fn h hg=>?_,Lc PL Q7⟩⟩
  ·obtain⟨d,hd',_⟩:=hfn f fn h;exact(ok hd').1 ‹_›
  ·have h':(I.cn g).map (·.2)=some u:=h;cases e:I.cn g with
   |none=>(replace h':=e▸h');exact bL h'
   |some x=>
    replace h':=e▸h';have hu:x.2=u:=by simpa using h'
    (clear h';(clear h;subst hu));have hg:(ik prog w bw.heap sA script I kd mg C CE mN).gN g=x.1:=by
     show((I.cn g).map (·.1)).getD ("":Str)=_
     (refine e▸?_);rfl
    refine hg▸?_;have hx:constOk view x=true:=List.all_eq_true.mp hc (some x) (MO e);obtain⟨x1,x2⟩:=x;clear hg e;cases x2 with
    |int j=>
     have hx:wX (valOf view x1) j=true:=hx;obtain⟨v,hv,hr⟩:=T.const _ _ (Ie hx);refine⟨v,hv,λR ρ h _ _=>?_⟩;have:=hr h;cases this;exact .int _ _
    |str j=>
     have hx:wY (valOf view x1) j=true:=hx;obtain⟨v,hv,hr⟩:=T.const _ _ (Ig hx);refine⟨v,hv,λR ρ h _ _=>?_⟩;have:=hr h;cases this;exact .str _ _
    |aB vs=>
     have hx:((PySem.W.wlitsOf view).any λc=>decide (c.1=x1)&&Ee c.2 vs)=true:=hx;refine aO (List.any_eq_true.mp hx) λc hc' hq=>?_;rw[Bool.and_eq_true] at hq;refine aO (TW.lits c hc') λv hv hr=>?_;refine⟨v,by(refine(of_decide_eq_true hq.1)▸?_);exact hv,λR ρ h hk hR=>?_⟩;obtain⟨c1,c2⟩:=c;clear hv hc';cases c2 with
     |tuple ds=>
      cases hr with
      |@tuple a o us m _ as e1 e2 e3 e4=>
       refine .aB ⟨o,hk _ _ e1,e2,m,?_⟩ (Bg (hq.2) e4) λq=>?_
       ·refine e3▸?_;with_reducible rfl
       ·have yN:(ik prog w bw.heap sA script I kd mg C CE mN).hb.get? a=some o:=e1;(replace yN:=(hR a q)▸yN);exact bL yN
     |_=>exact absurd (show false=true from hq.2) cy
    |_=>exact absurd (show false=true from hx) cy
  ·have hx:=List.all_eq_true.mp hb b hb';unfold Dr at hx;simp only[Bool.and_eq_true,Bool.not_eq_true',List.contains_eq_mem,decide_eq_false_iff_not,beq_eq_false_iff_ne,ne_eq] at hx;exact⟨T.free b hx.1.1.1.1.1 hx.1.1.1.1.2 hx.1.1.1.2 hx.1.1.2 hx.1.2,T.builtins b hx.2⟩
  ·obtain⟨mm,⟨o,_,_,ho,_⟩,_⟩:=hs.mods;exact⟨o,ho⟩
  ·obtain⟨d,hd',_⟩:=hfn f fn h;refine kP ((ok hd').2.1 hg) λq1 q2 q3=>?_;exact⟨q1,q2,Jz q3⟩
 have hF:∀f fn,(ik prog w bw.heap sA script I kd mg C CE mN).P.fns f=some fn->∃fd N body,pV (ik prog w bw.heap sA script I kd mg C CE mN) f fn fd N body:=λf fn h=>by
  refine bB λXx aI=>?_;refine aO (hfn f fn h) λd hd' a9=>?_;clear h;subst a9;obtain⟨_,_,fd,body,q⟩:=ok hd';refine aI ?_;exact⟨fd,_,body,q⟩
 have F:iC (ik prog w bw.heap sA script I kd mg C CE mN):=λf fn h=>by
  refine kQ (hF f fn h) λfd N body q=>?_;refine aO (q.obj) λo h1 h2=>?_;exact⟨o,fd,h1,h2⟩
 have W:kA (ik prog w bw.heap sA script I kd mg C CE mN):=by
  have q1:∀f fn,(I.pJ kd).fns f=some fn->(I.aE kd).q f=true->mx (I.aE kd).q ((I.aE kd).io 0) fn.body=true:=λf fn h hq=>by
   refine aO (BI Fd f (Bool.or_eq_true_iff.mpr (.inr hq))) λd hd hd'=>?_;refine aO (hfn f fn h) λd' e1 e2=>?_;(replace e1:=hd▸e1);(refine dE e1 λaP=>?_;(clear e1;subst aP))
   (refine e2▸?_);exact hd' hq
  refine⟨⟨mg,T.g,OE⟩,λf hx=>?_,λn f vs hq=>AB q1 n f vs (decide_eq_true hq)⟩
  obtain⟨d,hd,_⟩:=BI Fd f (by
   rcases hx with hx|hx
   ·exact Bool.or_eq_true_iff.mpr (.inl (decide_eq_true hx))
   ·exact Bool.or_eq_true_iff.mpr (.inr (decide_eq_true hx)))
  exact⟨d.fn,by show(I.df f).map (·.fn)=_;(refine hd▸?_);rfl⟩
 have hcall:=(Bf a7 F hF W 690).2.2;have Q9:(ik prog w bw.heap sA script I kd mg C CE mN).fA L=fa:=by
  have h1:=(ok hL).1 Q4;have hN:(I.aE kd).fN L=dL.name:=by
   show((I.df L).map (·.name)).getD ("":Str)=_
   (refine hL▸?_);rfl
  replace h1:=yM▸(hN▸h1);cases h1;rfl
 have:=hcall callerA ⟨rfl,by decide+kernel,by decide+kernel⟩ [] L hkd [.ct] [.ref sA] bw [] [] Q E (⟨λ_ _ e=>e,rfl,List.nodup_nil,λ_ h=>(nomatch h),λi a o h=>by simp at h,λ_ h=>(nomatch h),λ_ h=>(nomatch h)⟩) (.cons .ct .nil) ⟨rfl,trivial,λ_ h=>(nomatch h)⟩ (λ_ h=>(nomatch h)) ?_
 ·(replace this:=Q9▸this);exact this
 ·show yK _ _ (aq (I.pJ kd) script 690 L [.ct] []) [] bw Q;refine rJ▸?_;intro b h' tk az st S' r;(apply om r);exact hQ h' tk S'.base
end
end Qh
set_option backward.match.sparseCases false
set_option compiler.extract_closed false in
local macro_rules (kind:=«term{_}»)
|s=>λ_ t=>let d:=λn=>.node .none `Lean.Parser.Term.dotIdent #[.atom .none ".",Lean.mkIdent n];let a:=s.getArg 1;.ok (.node .none `Lean.Parser.Term.app #[d `cons,.node .none `null #[a.getArg 0,bif a.matchesNull 1 then d `nil else s.setArg 1 (.node .none `null (a.getArgs.extract 2))]]) t
namespace Qh
open PySem
def qr:Fn:=⟨1,1,{.ite (.or {.cmp .Eq (.au (.aa 0) (.int 0)) (.str "num"),.cmp .Eq (.au (.aa 0) (.int 0)) (.str "name")}) {.ret (.ah .nil)} .nil,.ite (.or {.cmp .Eq (.au (.aa 0) (.int 0)) (.str "let"),.cmp .Eq (.au (.aa 0) (.int 0)) (.str "use")}) {.ret (.list (.slc (.aa 0) (.int 2) .none))} .nil,.ite (.cmp .Eq (.au (.aa 0) (.int 0)) (.str "turns")) {.ret (.ah {.au (.aa 0) (.int 3),.au (.aa 0) (.int 4)})} .nil,.ite (.cmp .Eq (.au (.aa 0) (.int 0)) (.str "def")) {.ret (.ah {.au (.aa 0) (.int 4),.au (.aa 0) (.int 5)})} .nil,.ret (.list (.slc (.aa 0) (.int 1) .none))}⟩
def zk:List Str:=["term"]
def qA:Fn:=⟨1,2,{.ret (.aj .Add (.int 1) (.sum (.comp (.call 1 {.aa 1}) 1 [] (.call 0 {.aa 0}))))}⟩
def GG:List Str:=["term","part"]
def qt:Fn:=⟨1,2,{.ret (.aj .Add (.int 1) (.gT (.comp (.call 2 {.aa 1}) 1 [] (.call 0 {.aa 0}))))}⟩
def Gx:List Str:=["term","part"]
def sa:Fn:=⟨2,2,{.ite (.cmp .Lt (.aa 1) (.len (.aa 0))) {.ret (.au (.aa 0) (.aa 1))} .nil,.ret (.int 0)}⟩
def F5:List Str:=["_law_script","_law_k"]
def vo:Fn:=⟨2,3,{.aL 2 (.aj .Mod (.aj .Mult (.aj .Add (.call 3 {.aa 0,.aa 1}) (.aj .Mult (.int 7919) (.aa 1))) (.int 48271)) (.int 2147483647)),.ret (.aj .Mod (.aj .Add (.aj .Add (.aj .Mult (.aa 2) (.aa 2)) (.aj .Mult (.int 7) (.aa 2))) (.aa 1)) (.int 2147483629))}⟩
def Gj:List Str:=["_law_script","_law_k","_law_number_here"]
def zF:Fn:=⟨2,4,{.aL 2 (.ah .nil),.ki 3 (.aa 1) {.append (.aa 2) (.aj .Mod (.aa 0) (.aa 3)),.aL 0 (.aj .FloorDiv (.aa 0) (.aa 3))},.ret (.aa 2)}⟩
def Gk:List Str:=["_law_number_here","_law_sizes","_law_some","_law_size"]
def si:Fn:=⟨1,1,{.ret (.and {.dU "int" (.aa 0),.not (.dU "bool" (.aa 0))})}⟩
def Gl:List Str:=["_law_found"]
def sv:Fn:=⟨2,8,{.aL 2 (.str "abcdefghijklmnopqrstuvwxyz"),.aL 3 (.call 4 {.aa 0,.int 0}),.ite (.and {.cmp .Eq (.aj .Mod (.aa 3) (.int 8)) (.int 7),.cmp .Eq (.aj .Mod (.aj .FloorDiv (.aa 3) (.int 8)) (.int 2)) (.int 0)}) {.aL 5 (.ah {.str "num",.str "name",.str "let",.str "quote",.str "hole",.str "run",.str "use",.str "lift"}),.ret (.au (.aa 5) (.aj .Mod (.aj .Add (.aj .FloorDiv (.aa 3) (.int 16)) (.aa 1)) (.int 8)))} .nil,.aL 4 (.aj .Add (.int 1) (.aj .Mod (.aa 3) (.int 8))),.aL 5 (.fB (.au (.aa 2) (.aj .Mod (.aj .Add (.aj .FloorDiv (.aa 3) (.int 64)) (.aj .Mult (.int 5) (.aa 7))) (.int 26))) 7 [2,3] (.aa 4)),.aL 6 (.aj .Mod (.aj .FloorDiv (.aa 3) (.int 8)) (.aa 4)),.eX (.aa 5) (.aa 6) (.au (.aa 2) (.aj .Mod (.aj .Add (.aj .Add (.aj .FloorDiv (.aa 3) (.int 64)) (.aj .Mult (.int 5) (.aa 6))) (.aa 1)) (.int 26))),.ret (.join (.str "") (.aa 5))}⟩
def Gy:List Str:=["_law_script","_law_which","_law_letters","_law_number_here","_law_size","_law_some","_law_at","_law_k"]
def zX:Fn:=⟨2,2,{.eX (.aa 1) (.int 0) (.aj .Add (.au (.aa 1) (.int 0)) (.int 1)),.ret (.call 4 {.aa 0,.au (.aa 1) (.int 0)})}⟩
def Gz:List Str:=["_law_script","_law_state"]
def se:Fn:=⟨1,2,{.aL 1 (.ah {.aj .Mod (.aa 0) (.int 3),.aj .Mod (.aa 0) (.int 1000),.aj .Sub (.neg (.int 1)) (.aj .Mod (.aa 0) (.int 9)),.aj .Add (.aj .Mult (.int 1000003) (.aj .Mod (.aa 0) (.int 2))) (.aj .Mod (.aa 0) (.int 5)),.aj .Pow (.int 10) (.int 20)}),.ret (.au (.aj .Add (.aa 1) (.ah {.neg (.aa 0)})) (.aj .Mod (.aj .FloorDiv (.aa 0) (.int 1000)) (.int 6)))}⟩
def Ga:List Str:=["_law_number_here","_law_some"]
def vp:Fn:=⟨1,2,{.ite (.cmp .In (.au (.aa 0) (.int 0)) (.aB {.str "num",.str "name"})) {.ret (.ah .nil)} .nil,.ite (.cmp .Eq (.au (.aa 0) (.int 0)) (.str "let")) {.ret (.ah {.au (.aa 0) (.int 2),.au (.aa 0) (.int 3)})} .nil,.ite (.cmp .Eq (.au (.aa 0) (.int 0)) (.str "turns")) {.ret (.ah {.au (.aa 0) (.int 3),.au (.aa 0) (.int 4)})} .nil,.ite (.cmp .Eq (.au (.aa 0) (.int 0)) (.str "def")) {.ret (.ah {.au (.aa 0) (.int 4),.au (.aa 0) (.int 5)})} .nil,.ite (.cmp .Eq (.au (.aa 0) (.int 0)) (.str "use")) {.ret (.ah {.au (.aa 0) (.int 2)})} .nil,.ret (.comp (.aa 1) 1 [] (.slc (.aa 0) (.int 1) .none))}⟩
def lW:Fn:=⟨3,4,{.aL 3 (.dict (.aa 0)),.eX (.aa 3) (.aa 1) (.aa 2),.ret (.aa 3)}⟩
def Gm:List Str:=["names","name","meaning","found"]
def zw:Fn:=⟨3,3,{.ite (.cmp .NotIn (.aa 0) (.aa 2)) {.raise 1 "a name that means nothing"} .nil,.ite (.cmp .NotEq (.au (.au (.aa 2) (.aa 0)) (.int 0)) (.aa 1)) {.raise 2 "a name of another level"} .nil,.ret (.au (.aa 2) (.aa 0))}⟩
def Gb:List Str:=["name","level","names"]
def vi:Fn:=⟨3,3,{.ite (.or {.and {.cmp .Eq (.aa 0) (.str "hole"),.cmp .Eq (.aa 1) (.int 0)},.and {.cmp .In (.aa 0) (.aB {.str "quote",.str "lift",.str "run"}),.cmp .Eq (.aa 1) (.int 1)}}) {.raise 2 "what stands at a wrong level"} .nil,.ite (.and {.cmp .Eq (.aa 0) (.str "run"),.not (.aa 2)}) {.raise 2 "a run where it may not be"} .nil}⟩
def Ge:List Str:=["word","level","is_free"]
def zG:Fn:=⟨5,5,{.ite (.cmp .NotEq (.call 46 {.aa 1,.aa 2,.aa 3,.aa 4}) (.aa 0)) {.raise 3 "a term of another kind"} .nil}⟩
def Gn:List Str:=["kind","term","level","names","is_free"]
def vO:Fn:=⟨4,7,{.aL 4 (.au (.aa 0) (.int 0)),.expr (.call 44 {.aa 4,.aa 1,.aa 3}),.ite (.cmp .Eq (.aa 4) (.str "num")) {.ret (.glob 0)} .nil,.ite (.cmp .Eq (.aa 4) (.str "name")) {.aL 5 (.call 43 {.au (.aa 0) (.int 1),.aa 1,.aa 2}),.ite (.cmp .NotEq (.len (.aa 5)) (.int 2)) {.raise 3 "a function that isn't used"} .nil,.ret (.au (.aa 5) (.int 1))} .nil,.ite (.cmp .Eq (.aa 4) (.str "when")) {.expr (.call 45 {.glob 0,.au (.aa 0) (.int 1),.aa 1,.aa 2,.aa 3}),.aL 6 (.call 46 {.au (.aa 0) (.int 2),.aa 1,.aa 2,.aa 3}),.expr (.call 45 {.aa 6,.au (.aa 0) (.int 3),.aa 1,.aa 2,.aa 3}),.ret (.aa 6)} .nil,.ite (.cmp .Eq (.aa 4) (.str "use")) {.aL 5 (.call 43 {.au (.aa 0) (.int 1),.aa 1,.aa 2}),.ite (.cmp .NotEq (.len (.aa 5)) (.int 3)) {.raise 3 "no function"} .nil,.expr (.call 45 {.au (.aa 5) (.int 1),.au (.aa 0) (.int 2),.aa 1,.aa 2,.aa 3}),.ret (.au (.aa 5) (.int 2))} .nil,.ite (.cmp .In (.aa 4) (.aB {.str "let",.str "turns",.str "def"})) {.ret (.call 47 {.aa 0,.aa 1,.aa 2,.aa 3})} .nil,.ret (.call 48 {.aa 0,.aa 1,.aa 2,.aa 3})}⟩
def GH:List Str:=["term","level","names","is_free","word","meaning","kind"]
def zq:Fn:=⟨4,5,{.ite (.cmp .Eq (.au (.aa 0) (.int 0)) (.str "let")) {.aL 4 (.call 46 {.au (.aa 0) (.int 2),.aa 1,.aa 2,.aa 3}),.ret (.call 46 {.au (.aa 0) (.int 3),.aa 1,.call 18 {.aa 2,.au (.aa 0) (.int 1),.aB {.aa 1,.aa 4}},.aa 3})} .nil,.ite (.cmp .Eq (.au (.aa 0) (.int 0)) (.str "turns")) {.aL 4 (.call 46 {.au (.aa 0) (.int 3),.aa 1,.aa 2,.aa 3}),.expr (.call 45 {.aa 4,.au (.aa 0) (.int 4),.aa 1,.call 18 {.aa 2,.au (.aa 0) (.int 2),.aB {.aa 1,.aa 4}},.aa 3}),.ret (.aa 4)} .nil,.ite (.and {.cmp .Eq (.aa 1) (.int 1),.cmp .Eq (.au (.aa 0) (.int 3)) (.glob 1)}) {.raise 3 "a function of pieces within a quote"} .nil,.aL 4 (.call 46 {.au (.aa 0) (.int 4),.aa 1,.call 18 {.aa 2,.au (.aa 0) (.int 2),.aB {.aa 1,.au (.aa 0) (.int 3)}},.bool false}),.ret (.call 46 {.au (.aa 0) (.int 5),.aa 1,.call 18 {.aa 2,.au (.aa 0) (.int 1),.aB {.aa 1,.au (.aa 0) (.int 3),.aa 4}},.aa 3})}⟩
def F6:List Str:=["term","level","names","is_free","kind"]
def zx:Fn:=⟨4,5,{.aL 4 (.au (.aa 0) (.int 0)),.ite (.cmp .Eq (.aa 4) (.str "quote")) {.expr (.call 45 {.glob 0,.au (.aa 0) (.int 1),.int 1,.aa 2,.bool false}),.ret (.glob 1)} .nil,.ite (.cmp .Eq (.aa 4) (.str "hole")) {.expr (.call 45 {.glob 1,.au (.aa 0) (.int 1),.int 0,.aa 2,.bool false}),.ret (.glob 0)} .nil,.ite (.cmp .Eq (.aa 4) (.str "lift")) {.expr (.call 45 {.glob 0,.au (.aa 0) (.int 1),.aa 1,.aa 2,.aa 3}),.ret (.glob 1)} .nil,.ite (.cmp .Eq (.aa 4) (.str "run")) {.expr (.call 45 {.glob 1,.au (.aa 0) (.int 1),.aa 1,.aa 2,.aa 3}),.ret (.glob 0)} .nil,.expr (.call 45 {.glob 0,.au (.aa 0) (.int 1),.aa 1,.aa 2,.aa 3}),.expr (.call 45 {.glob 0,.au (.aa 0) (.int 2),.aa 1,.aa 2,.aa 3}),.ret (.glob 0)}⟩
def Gf:List Str:=["term","level","names","is_free","word"]
def AE:Fn:=⟨1,1,{.ret (.call 46 {.aa 0,.int 0,.ay [] .nil,.bool true})}⟩
def GI:List Str:=["term"]
def qu:Fn:=⟨3,7,{.aL 3 (.ah .nil),.eM 4 (.len (.aa 0)) {.aL 5 (.fT (.aa 6) 6 [0,4] (.slc (.aa 0) (.aj .Add (.aa 4) (.int 1)) .none) (.cmp .Eq (.au (.aa 6) (.int 0)) (.au (.au (.aa 0) (.aa 4)) (.int 0)))),.ite (.and {.cmp .Eq (.aa 5) (.ah .nil),.cmp .Eq (.au (.au (.aa 0) (.aa 4)) (.int 1)) (.aa 1),.cmp .In (.au (.au (.aa 0) (.aa 4)) (.int 2)) (.aa 2)}) {.append (.aa 3) (.au (.aa 0) (.aa 4))} .nil},.ret (.aa 3)}⟩
def GA:List Str:=["_law_scope","_law_level","_law_kinds","_law_found","_law_k","_law_hidden","_law_one"]
def sx:Fn:=⟨6,9,{.aL 6 (.call 30 {.aa 4,.aa 2,.ah {.aB {.aa 3}}}),.aL 7 (.call 30 {.aa 4,.aj .Sub (.int 1) (.aa 2),.au (.ah {.ah {.aB {.str "number"}},.ah {.aB {.str "piece"}}}) (.aa 2)}),.ite (.and {.cmp .Gt (.aj .Mod (.aa 5) (.int 4)) (.int 0),.cmp .NotEq (.aa 6) (.ah .nil),.or {.cmp .Eq (.aj .Mod (.aj .FloorDiv (.aa 5) (.int 4)) (.int 3)) (.int 0),.cmp .Eq (.aa 7) (.ah .nil)}}) {.ret (.aB {.str "name",.au (.au (.aa 6) (.aj .Mod (.aj .FloorDiv (.aa 5) (.int 12)) (.len (.aa 6)))) (.int 0)})} .nil,.aL 8 (.aB {.str "num",.call 9 {.aj .FloorDiv (.aa 5) (.int 16)}}),.ite (.and {.cmp .Eq (.aa 2) (.int 1),.cmp .NotEq (.aa 7) (.ah .nil),.cmp .Gt (.aj .Mod (.aa 5) (.int 4)) (.int 0)}) {.ret (.aB {.str "hole",.aB {.str "name",.au (.au (.aa 7) (.aj .Mod (.aj .FloorDiv (.aa 5) (.int 12)) (.len (.aa 7)))) (.int 0)}})} .nil,.ite (.cmp .Eq (.aa 3) (.str "number")) {.ret (.aa 8)} .nil,.ite (.and {.cmp .NotEq (.aa 7) (.ah .nil),.cmp .Gt (.aj .Mod (.aa 5) (.int 4)) (.int 0)}) {.ret (.aB {.str "quote",.aB {.str "name",.au (.au (.aa 7) (.aj .Mod (.aj .FloorDiv (.aa 5) (.int 12)) (.len (.aa 7)))) (.int 0)}})} .nil,.ret (.au (.ah {.aB {.str "lift",.aa 8},.aB {.str "quote",.aa 8}}) (.aj .Mod (.aj .FloorDiv (.aa 5) (.int 16)) (.int 2)))}⟩
def GB:List Str:=["_law_script","_law_state","_law_level","_law_kind","_law_scope","_law_number_here","_law_found","_law_other","_law_leaf_here"]
def vq:Fn:=⟨3,4,{.aL 3 (.ah {.str "let",.str "turns",.str "def",.str "when",.str "use",.str "use"}),.ite (.cmp .Eq (.aa 1) (.str "piece")) {.ret (.aj .Add (.aa 3) (.ah {.str "quote",.str "quote",.str "quote",.str "quote",.str "quote",.str "quote",.str "lift"}))} .nil,.ite (.cmp .Eq (.aa 0) (.int 1)) {.ret (.aj .Add (.aa 3) (.ah {.str "sum",.str "sum",.str "product",.str "less",.str "hole",.str "hole",.str "kept",.str "kept",.str "kept",.str "kept",.str "kept"}))} .nil,.ite (.aa 2) {.ret (.aj .Add (.aa 3) (.ah {.str "sum",.str "product",.str "less",.str "run",.str "run",.str "run",.str "run",.str "run",.str "run"}))} .nil,.ret (.aj .Add (.aa 3) (.ah {.str "sum",.str "product",.str "less"}))}⟩
def Go:List Str:=["_law_level","_law_kind","_law_free","_law_some"]
def sy:Fn:=⟨7,12,{.aL 7 (.call 8 {.aa 0,.aa 1}),.eX (.aa 1) (.int 1) (.aj .Add (.au (.aa 1) (.int 1)) (.int 1)),.ite (.or {.cmp .Eq (.aa 5) (.int 0),.cmp .Gt (.au (.aa 1) (.int 1)) (.int 60)}) {.ret (.call 31 {.aa 0,.aa 1,.aa 2,.aa 3,.aa 4,.aa 7})} .nil,.aL 8 (.call 32 {.aa 2,.aa 3,.aa 6}),.aL 9 (.au (.aa 8) (.aj .Mod (.aa 7) (.len (.aa 8)))),.aL 7 (.aj .FloorDiv (.aa 7) (.len (.aa 8))),.ite (.cmp .In (.aa 9) (.aB {.str "let",.str "turns",.str "def",.str "use",.str "kept"})) {.ret (.call 35 {.aa 0,.aa 1,.ah {.aa 9,.aa 2,.aa 3,.aa 6},.aa 4,.aj .Sub (.aa 5) (.int 1),.aa 7})} .nil,.ite (.cmp .Eq (.aa 9) (.str "quote")) {.ret (.aB {.str "quote",.call 33 {.aa 0,.aa 1,.int 1,.str "number",.aa 4,.aj .Sub (.aa 5) (.int 1),.bool false}})} .nil,.ite (.cmp .Eq (.aa 9) (.str "hole")) {.ret (.aB {.str "hole",.call 33 {.aa 0,.aa 1,.int 0,.str "piece",.aa 4,.aj .Sub (.aa 5) (.int 1),.bool false}})} .nil,.ite (.cmp .Eq (.aa 9) (.str "lift")) {.ret (.aB {.str "lift",.call 33 {.aa 0,.aa 1,.int 0,.str "number",.aa 4,.aj .Sub (.aa 5) (.int 1),.aa 6}})} .nil,.ite (.cmp .Eq (.aa 9) (.str "run")) {.ret (.aB {.str "run",.call 33 {.aa 0,.aa 1,.int 0,.str "piece",.aa 4,.aj .Sub (.aa 5) (.int 1),.aa 6}})} .nil,.aL 10 (.call 33 {.aa 0,.aa 1,.aa 2,.str "number",.aa 4,.aj .Sub (.aa 5) (.int 1),.aa 6}),.ite (.cmp .NotEq (.aa 9) (.str "when")) {.ret (.aB {.aa 9,.aa 10,.call 33 {.aa 0,.aa 1,.aa 2,.str "number",.aa 4,.aj .Sub (.aa 5) (.int 1),.aa 6}})} .nil,.aL 11 (.call 33 {.aa 0,.aa 1,.aa 2,.aa 3,.aa 4,.aj .Sub (.aa 5) (.int 1),.aa 6}),.ret (.aB {.str "when",.aa 10,.aa 11,.call 33 {.aa 0,.aa 1,.aa 2,.aa 3,.aa 4,.aj .Sub (.aa 5) (.int 1),.aa 6}})}⟩
def GC:List Str:=["_law_script","_law_state","_law_level","_law_kind","_law_scope","_law_depth","_law_free","_law_number_here","_law_words_here","_law_word","_law_one","_law_other"]
def vr:Fn:=⟨5,10,{.aL 5 (.call 7 {.aa 0,.au (.ah {.int 0,.int 0,.int 1,.int 2}) (.aj .Mod (.aa 4) (.int 4))}),.aL 6 (.aj .Add (.aa 2) (.ah {.aB {.aa 5,.int 1,.aB {.str "number"}}})),.aL 7 (.call 30 {.aa 6,.int 0,.ah {.aB {.str "piece"}}}),.aL 8 (.aB {.str "name",.aa 5}),.ite (.cmp .NotEq (.aa 7) (.ah .nil)) {.aL 8 (.aB {.str "hole",.aB {.str "name",.au (.au (.aa 7) (.aj .Mod (.aj .FloorDiv (.aa 4) (.int 4)) (.len (.aa 7)))) (.int 0)}})} .nil,.aL 9 (.call 33 {.aa 0,.aa 1,.int 1,.str "number",.aa 6,.aa 3,.bool false}),.ret (.aB {.str "let",.aa 5,.aB {.str "num",.aj .Mod (.aj .FloorDiv (.aa 4) (.int 16)) (.int 50)},.aB {.str "sum",.aa 8,.aa 9}})}⟩
def sb:Fn:=⟨6,20,{.gY [13,14,15,16] (.aa 2),.aL 6 (.call 7 {.aa 0,.au (.ah {.int 0,.int 0,.int 1,.int 2}) (.aj .Mod (.aa 5) (.int 4))}),.aL 7 (.call 7 {.aa 0,.au (.ah {.int 1,.int 2,.int 1,.int 0}) (.aj .Mod (.aj .FloorDiv (.aa 5) (.int 4)) (.int 4))}),.aL 8 (.au (.ah {.str "number",.str "piece"}) (.aj .Mult (.aj .Mod (.aj .FloorDiv (.aa 5) (.int 16)) (.int 2)) (.aj .Sub (.int 1) (.aa 14)))),.aL 5 (.aj .FloorDiv (.aa 5) (.int 2)),.ite (.cmp .Eq (.aa 13) (.str "kept")) {.aL 17 (.aB {.str "num",.call 9 {.aj .FloorDiv (.aa 5) (.int 18)}}),.ite (.cmp .Eq (.aj .Mod (.aj .FloorDiv (.aa 5) (.int 16)) (.int 2)) (.int 0)) {.aL 17 (.call 33 {.aa 0,.aa 1,.int 1,.str "number",.aa 3,.max2 (.int 0) (.aj .Sub (.aa 4) (.int 1)),.bool false})} .nil,.aL 12 (.aj .Add (.aa 3) (.ah {.aB {.aa 6,.int 1,.aB {.str "number"}},.aB {.aa 7,.int 0,.aB {.str "piece"}}})),.ite (.cmp .Eq (.aj .Mod (.aj .FloorDiv (.aa 5) (.int 5000)) (.int 2)) (.int 0)) {.aL 19 (.call 34 {.aa 0,.aa 1,.aa 12,.max2 (.int 0) (.aj .Sub (.aa 4) (.int 2)),.aj .FloorDiv (.aa 5) (.int 10000)})} {.aL 19 (.call 33 {.aa 0,.aa 1,.int 1,.str "number",.aa 12,.max2 (.int 0) (.aj .Sub (.aa 4) (.int 1)),.bool false})},.ret (.aB {.str "let",.aa 6,.aa 17,.aB {.str "hole",.aB {.str "let",.aa 7,.aB {.str "quote",.aB {.str "name",.aa 6}},.aB {.str "quote",.aa 19}}}})} .nil,.ite (.cmp .Eq (.aa 13) (.str "let")) {.aL 17 (.call 33 {.aa 0,.aa 1,.aa 14,.aa 8,.aa 3,.aa 4,.aa 16}),.ret (.aB {.str "let",.aa 6,.aa 17,.call 33 {.aa 0,.aa 1,.aa 14,.aa 15,.aj .Add (.aa 3) (.ah {.aB {.aa 6,.aa 14,.aB {.aa 8}}}),.aa 4,.aa 16}})} .nil,.ite (.cmp .Eq (.aa 13) (.str "turns")) {.aL 18 (.au (.ah {.int 0,.int 1,.int 2,.int 3,.int 2,.int 3,.int 1,.int 9}) (.aj .Mod (.aj .FloorDiv (.aa 5) (.int 18)) (.int 8))),.ite (.cmp .Gt (.aa 4) (.int 1)) {.aL 18 (.aj .Mod (.aa 18) (.int 4))} .nil,.aL 17 (.call 33 {.aa 0,.aa 1,.aa 14,.aa 15,.aa 3,.aa 4,.aa 16}),.aL 12 (.aj .Add (.aa 3) (.ah {.aB {.aa 6,.aa 14,.aB {.aa 15}}})),.ret (.aB {.str "turns",.aa 18,.aa 6,.aa 17,.call 33 {.aa 0,.aa 1,.aa 14,.aa 15,.aa 12,.aa 4,.aa 16}})} .nil,.aL 9 (.call 30 {.aa 3,.aa 14,.ah {.aB {.str "number",.aa 15},.aB {.str "piece",.aa 15}}}),.ite (.and {.cmp .Eq (.aa 13) (.str "use"),.cmp .NotEq (.aa 9) (.ah .nil)}) {.aL 17 (.au (.aa 9) (.aj .Mod (.aj .FloorDiv (.aa 5) (.int 18)) (.len (.aa 9)))),.ret (.aB {.str "use",.au (.aa 17) (.int 0),.call 33 {.aa 0,.aa 1,.aa 14,.au (.au (.aa 17) (.int 2)) (.int 0),.aa 3,.aa 4,.aa 16}})} .nil,.aL 10 (.au (.ah {.str "number",.str "piece"}) (.aj .Mult (.aj .Mod (.aj .FloorDiv (.aa 5) (.int 18)) (.int 2)) (.aj .Sub (.int 1) (.aa 14)))),.aL 11 (.call 33 {.aa 0,.aa 1,.aa 14,.aa 10,.aj .Add (.aa 3) (.ah {.aB {.aa 6,.aa 14,.aB {.aa 8}}}),.aa 4,.bool false}),.aL 12 (.aj .Add (.aa 3) (.ah {.aB {.aa 7,.aa 14,.aB {.aa 8,.aa 10}}})),.ret (.aB {.str "def",.aa 7,.aa 6,.aa 8,.aa 11,.call 33 {.aa 0,.aa 1,.aa 14,.aa 15,.aa 12,.aa 4,.aa 16}})}⟩
def GO:Fn:=⟨1,1,{.gU {.ret (.call 49 {.aa 0})} 0 {.ret .none}}⟩
def JB:Fn:=⟨1,4,{.aL 1 (.au (.ah {.str "number",.str "piece"}) (.aj .Mod (.call 4 {.aa 0,.int 1}) (.int 2))),.aL 2 (.call 33 {.aa 0,.ah {.int 1,.int 0},.int 0,.aa 1,.ah .nil,.aj .Sub (.int 5) (.aj .FloorDiv (.aj .Mod (.aj .FloorDiv (.call 4 {.aa 0,.int 1}) (.int 2)) (.int 8)) (.int 3)),.bool true}),.ite (.cmp .NotEq (.call 51 {.aa 2}) (.aa 1)) {.ret (.bool false)} .nil,.ite (.cmp .Eq (.aa 1) (.str "piece")) {.ret (.and {.cmp .Eq (.call 51 {.aB {.str "run",.aa 2}}) (.str "number"),.cmp .Eq (.call 51 {.aa 2}) (.aa 1)})} .nil,.aL 3 (.aB {.str "quote",.aB {.str "hole",.aB {.str "lift",.aB {.str "num",.int 1}}}}),.ret (.and {.cmp .Eq (.call 51 {.aB {.str "lift",.aa 2}}) (.str "piece"),.cmp .Eq (.call 51 {.aa 3}) (.str "piece")})}⟩
def zY:Fn:=⟨3,3,{.ite (.cmp .Eq (.aa 0) (.str "sum")) {.ret (.aj .Mod (.aj .Add (.aa 1) (.aa 2)) (.glob 2))} .nil,.ite (.cmp .Eq (.aa 0) (.str "product")) {.ret (.aj .Mod (.aj .Mult (.aa 1) (.aa 2)) (.glob 2))} .nil,.ret (.toInt (.cmp .Lt (.aa 1) (.aa 2)))}⟩
def GD:List Str:=["word","one","other"]
def zy:Fn:=⟨1,1,{.ite (.or {.cmp .Gt (.call 1 {.aa 0}) (.glob 3),.cmp .Gt (.call 2 {.aa 0}) (.glob 4)}) {.raise 7 "a piece too great"} .nil}⟩
def Gg:List Str:=["piece"]
def zh:Fn:=⟨1,1,{.jd (.aa 0) "many" (.aj .Add (.attr (.aa 0) "many") (.int 1)),.ret (.aj .Add (.str "v") (.toStr (.attr (.aa 0) "many")))}⟩
def FZ:List Str:=["self"]
def vf:Fn:=⟨3,11,{.aL 3 (.au (.aa 1) (.int 0)),.ite (.cmp .Eq (.aa 3) (.str "num")) {.ret (.aj .Mod (.au (.aa 1) (.int 1)) (.glob 2))} .nil,.ite (.cmp .Eq (.aa 3) (.str "name")) {.ret (.au (.aa 2) (.au (.aa 1) (.int 1)))} .nil,.ite (.cmp .In (.aa 3) (.aB {.str "sum",.str "product",.str "less"})) {.aL 4 (.cq 27 (.aa 0) {.au (.aa 1) (.int 1),.aa 2}),.ret (.call 23 {.aa 3,.aa 4,.cq 27 (.aa 0) {.au (.aa 1) (.int 2),.aa 2}})} .nil,.ite (.cmp .Eq (.aa 3) (.str "when")) {.ite (.cmp .NotEq (.cq 27 (.aa 0) {.au (.aa 1) (.int 1),.aa 2}) (.int 0)) {.ret (.cq 27 (.aa 0) {.au (.aa 1) (.int 2),.aa 2})} .nil,.ret (.cq 27 (.aa 0) {.au (.aa 1) (.int 3),.aa 2})} .nil,.ite (.cmp .Eq (.aa 3) (.str "let")) {.aL 5 (.cq 27 (.aa 0) {.au (.aa 1) (.int 2),.aa 2}),.ret (.cq 27 (.aa 0) {.au (.aa 1) (.int 3),.call 18 {.aa 2,.au (.aa 1) (.int 1),.aa 5}})} .nil,.ite (.cmp .Eq (.aa 3) (.str "turns")) {.aL 5 (.cq 27 (.aa 0) {.au (.aa 1) (.int 3),.aa 2}),.eM 6 (.au (.aa 1) (.int 1)) {.aL 5 (.cq 27 (.aa 0) {.au (.aa 1) (.int 4),.call 18 {.aa 2,.au (.aa 1) (.int 2),.aa 5}})},.ret (.aa 5)} .nil,.ite (.cmp .Eq (.aa 3) (.str "def")) {.ret (.cq 27 (.aa 0) {.au (.aa 1) (.int 5),.call 18 {.aa 2,.au (.aa 1) (.int 1),.aB {.au (.aa 1) (.int 2),.au (.aa 1) (.int 4),.aa 2}}})} .nil,.ite (.cmp .Eq (.aa 3) (.str "use")) {.aL 5 (.cq 27 (.aa 0) {.au (.aa 1) (.int 2),.aa 2}),.gY [8,9,10] (.au (.aa 2) (.au (.aa 1) (.int 1))),.ret (.cq 27 (.aa 0) {.aa 9,.call 18 {.aa 10,.aa 8,.aa 5}})} .nil,.ite (.cmp .Eq (.aa 3) (.str "quote")) {.aL 7 (.cq 28 (.aa 0) {.au (.aa 1) (.int 1),.aa 2}),.expr (.call 24 {.aa 7}),.ret (.aa 7)} .nil,.ite (.cmp .Eq (.aa 3) (.str "lift")) {.ret (.aB {.str "num",.cq 27 (.aa 0) {.au (.aa 1) (.int 1),.aa 2}})} .nil,.ret (.cq 27 (.aa 0) {.cq 27 (.aa 0) {.au (.aa 1) (.int 1),.aa 2},.ay [] .nil})}⟩
def F2:List Str:=["self","term","names","word","one","here","turn","piece","parameter","body","around"]
def vg:Fn:=⟨3,8,{.aL 3 (.au (.aa 1) (.int 0)),.ite (.cmp .Eq (.aa 3) (.str "num")) {.ret (.aa 1)} .nil,.ite (.cmp .Eq (.aa 3) (.str "name")) {.ret (.aB {.str "name",.au (.aa 2) (.au (.aa 1) (.int 1))})} .nil,.ite (.cmp .Eq (.aa 3) (.str "hole")) {.ret (.cq 27 (.aa 0) {.au (.aa 1) (.int 1),.aa 2})} .nil,.ite (.cmp .Eq (.aa 3) (.str "use")) {.ret (.aB {.str "use",.au (.aa 2) (.au (.aa 1) (.int 1)),.cq 28 (.aa 0) {.au (.aa 1) (.int 2),.aa 2}})} .nil,.ite (.cmp .Eq (.aa 3) (.str "let")) {.aL 4 (.cq 26 (.aa 0) .nil),.aL 5 (.cq 28 (.aa 0) {.au (.aa 1) (.int 2),.aa 2}),.ret (.aB {.aa 3,.aa 4,.aa 5,.cq 28 (.aa 0) {.au (.aa 1) (.int 3),.call 18 {.aa 2,.au (.aa 1) (.int 1),.aa 4}}})} .nil,.ite (.cmp .Eq (.aa 3) (.str "turns")) {.aL 4 (.cq 26 (.aa 0) .nil),.aL 5 (.cq 28 (.aa 0) {.au (.aa 1) (.int 3),.aa 2}),.ret (.aB {.aa 3,.au (.aa 1) (.int 1),.aa 4,.aa 5,.cq 28 (.aa 0) {.au (.aa 1) (.int 4),.call 18 {.aa 2,.au (.aa 1) (.int 2),.aa 4}}})} .nil,.ite (.cmp .Eq (.aa 3) (.str "def")) {.aL 4 (.cq 26 (.aa 0) .nil),.aL 6 (.cq 26 (.aa 0) .nil),.aL 5 (.cq 28 (.aa 0) {.au (.aa 1) (.int 4),.call 18 {.aa 2,.au (.aa 1) (.int 2),.aa 6}}),.ret (.aB {.aa 3,.aa 4,.aa 6,.au (.aa 1) (.int 3),.aa 5,.cq 28 (.aa 0) {.au (.aa 1) (.int 5),.call 18 {.aa 2,.au (.aa 1) (.int 1),.aa 4}}})} .nil,.ret (.aj .Add (.aB {.aa 3}) (.tuple (.comp (.cq 28 (.aa 0) {.aa 7,.aa 2}) 7 [2,0] (.slc (.aa 1) (.int 1) .none))))}⟩
def F3:List Str:=["self","term","names","word","new","one","parameter","part"]
def Ck:Fn:=⟨1,1,{.ite (.cmp .NotEq (.call 49 {.aa 0}) (.glob 0)) {.raise 3 "a piece"} .nil,.ret (.cq 27 (.new 5) {.aa 0,.ay [] .nil})}⟩
def GW:List Str:=["term"]
def Cm:Fn:=⟨1,1,{.ite (.cmp .NotEq (.call 49 {.aa 0}) (.glob 1)) {.raise 3 "a number"} .nil,.ret (.cq 27 (.new 5) {.aa 0,.ay [] .nil})}⟩
def GX:List Str:=["term"]
def vh:Fn:=⟨2,5,{.aL 2 (.au (.aa 0) (.int 0)),.ite (.cmp .Eq (.aa 2) (.str "num")) {.ret (.aj .Mod (.au (.aa 0) (.int 1)) (.int 1000003))} .nil,.ite (.cmp .Eq (.aa 2) (.str "name")) {.ret (.au (.aa 1) (.au (.aa 0) (.int 1)))} .nil,.ite (.cmp .In (.aa 2) (.aB {.str "quote",.str "hole",.str "lift",.str "run"})) {.ret (.call 36 {.au (.aa 0) (.int 1),.aa 1})} .nil,.ite (.cmp .Eq (.aa 2) (.str "when")) {.ret (.call 36 {.au (.aa 0) (.aj .Add (.int 2) (.toInt (.cmp .Eq (.call 36 {.au (.aa 0) (.int 1),.aa 1}) (.int 0)))),.aa 1})} .nil,.ite (.cmp .In (.aa 2) (.aB {.str "let",.str "turns",.str "def",.str "use"})) {.ret (.call 38 {.aa 0,.aa 1})} .nil,.aL 3 (.call 36 {.au (.aa 0) (.int 1),.aa 1}),.aL 4 (.call 36 {.au (.aa 0) (.int 2),.aa 1}),.ite (.cmp .Eq (.aa 2) (.str "less")) {.ret (.toInt (.cmp .Lt (.aa 3) (.aa 4)))} .nil,.ret (.aj .Mod (.au (.ah {.aj .Add (.aa 3) (.aa 4),.aj .Mult (.aa 3) (.aa 4)}) (.toInt (.cmp .Eq (.aa 2) (.str "product")))) (.int 1000003))}⟩
def Hw:Fn:=⟨3,4,{.aL 3 (.dict (.aa 0)),.eX (.aa 3) (.aa 1) (.aa 2),.ret (.aa 3)}⟩
def zf:Fn:=⟨2,5,{.ite (.cmp .Eq (.au (.aa 0) (.int 0)) (.str "let")) {.ret (.call 36 {.au (.aa 0) (.int 3),.call 37 {.aa 1,.au (.aa 0) (.int 1),.call 36 {.au (.aa 0) (.int 2),.aa 1}}})} .nil,.ite (.cmp .Eq (.au (.aa 0) (.int 0)) (.str "turns")) {.aL 3 (.call 36 {.au (.aa 0) (.int 3),.aa 1}),.eM 4 (.au (.aa 0) (.int 1)) {.aL 3 (.call 36 {.au (.aa 0) (.int 4),.call 37 {.aa 1,.au (.aa 0) (.int 2),.aa 3}})},.ret (.aa 3)} .nil,.ite (.cmp .Eq (.au (.aa 0) (.int 0)) (.str "def")) {.ret (.call 36 {.au (.aa 0) (.int 5),.call 37 {.aa 1,.au (.aa 0) (.int 1),.ah {.au (.aa 0) (.int 2),.au (.aa 0) (.int 4),.aa 1}}})} .nil,.aL 2 (.au (.aa 1) (.au (.aa 0) (.int 1))),.ret (.call 36 {.au (.aa 2) (.int 1),.call 37 {.au (.aa 2) (.int 2),.au (.aa 2) (.int 0),.call 36 {.au (.aa 0) (.int 2),.aa 1}}})}⟩
def Gp:List Str:=["_law_term_here","_law_names","_law_word","_law_one","_law_other"]
def F0:List Str:=["_law_term_here","_law_names","_law_one","_law_found","_law_turn"]
def F7:List Str:=["_law_term_here","_law_part"]
def F8:List Str:=["_law_script","_law_state","_law_scope","_law_depth","_law_number_here","_law_x","_law_more_here","_law_found","_law_one","_law_other"]
def F9:List Str:=["_law_script","_law_state","_law_what","_law_scope","_law_depth","_law_number_here","_law_x","_law_f","_law_other","_law_found","_law_whole_here","_law_body","_law_more_here","_law_word","_law_level","_law_kind","_law_free","_law_one","_law_many","_law_inner"]
def zm:Fn:=⟨1,3,{.aL 1 (.comp (.call 56 {.aa 2}) 2 [] (.call 10 {.aa 0})),.ret (.aB {.aj .Add (.int 1) (.sum (.comp (.au (.aa 2) (.int 0)) 2 [] (.aa 1))),.aj .Add (.int 1) (.gT (.comp (.au (.aa 2) (.int 1)) 2 [] (.aa 1)))})}⟩
def F4:List Str:=["_law_term_here","_law_parts_here","_law_part"]
def AF:Fn:=⟨1,1,{.eX (.aa 0) (.int 0) (.aj .Add (.au (.aa 0) (.int 0)) (.int 1)),.ret (.aj .Add (.str "v") (.toStr (.au (.aa 0) (.int 0))))}⟩
def GJ:List Str:=["_law_state"]
def vt:Fn:=⟨3,8,{.aL 3 (.au (.aa 0) (.int 0)),.ite (.cmp .Eq (.aa 3) (.str "num")) {.ret (.aj .Mod (.au (.aa 0) (.int 1)) (.int 1000003))} .nil,.ite (.cmp .Eq (.aa 3) (.str "name")) {.ret (.au (.aa 1) (.au (.aa 0) (.int 1)))} .nil,.ite (.cmp .Eq (.aa 3) (.str "quote")) {.ite (.cmp .Gt (.au (.aa 2) (.int 2)) (.int 5000)) {.ret (.aB {.str "num",.int 0})} .nil,.aL 6 (.call 61 {.au (.aa 0) (.int 1),.aa 1,.aa 2}),.aL 7 (.call 56 {.aa 6}),.eX (.aa 2) (.int 2) (.aj .Add (.au (.aa 2) (.int 2)) (.au (.aa 7) (.int 0))),.ite (.or {.cmp .Gt (.au (.aa 7) (.int 0)) (.int 2000),.cmp .Gt (.au (.aa 7) (.int 1)) (.int 30)}) {.eX (.aa 2) (.int 1) (.bool true),.ret (.aB {.str "num",.int 0})} .nil,.ret (.aa 6)} .nil,.ite (.cmp .Eq (.aa 3) (.str "lift")) {.ret (.aB {.str "num",.call 58 {.au (.aa 0) (.int 1),.aa 1,.aa 2}})} .nil,.ite (.cmp .Eq (.aa 3) (.str "run")) {.aL 6 (.call 58 {.au (.aa 0) (.int 1),.aa 1,.aa 2}),.eX (.aa 2) (.int 2) (.aj .Add (.au (.aa 2) (.int 2)) (.call 40 {.aa 6,.ay [] .nil})),.ite (.cmp .Gt (.au (.aa 2) (.int 2)) (.int 5000)) {.ret (.int 0)} .nil,.ret (.call 58 {.aa 6,.ay [] .nil,.aa 2})} .nil,.ite (.cmp .Eq (.aa 3) (.str "when")) {.ret (.call 58 {.au (.aa 0) (.aj .Add (.int 2) (.toInt (.cmp .Eq (.call 58 {.au (.aa 0) (.int 1),.aa 1,.aa 2}) (.int 0)))),.aa 1,.aa 2})} .nil,.ite (.cmp .In (.aa 3) (.aB {.str "let",.str "turns",.str "def",.str "use"})) {.ret (.call 60 {.aa 0,.aa 1,.aa 2})} .nil,.aL 4 (.call 58 {.au (.aa 0) (.int 1),.aa 1,.aa 2}),.aL 5 (.call 58 {.au (.aa 0) (.int 2),.aa 1,.aa 2}),.ite (.cmp .Eq (.aa 3) (.str "less")) {.ret (.toInt (.cmp .Lt (.aa 4) (.aa 5)))} .nil,.ret (.aj .Mod (.au (.ah {.aj .Add (.aa 4) (.aa 5),.aj .Mult (.aa 4) (.aa 5)}) (.toInt (.cmp .Eq (.aa 3) (.str "product")))) (.int 1000003))}⟩
def Gq:List Str:=["_law_term_here","_law_names","_law_state","_law_word","_law_one","_law_other","_law_piece_here","_law_found"]
def zi:Fn:=⟨3,7,{.ite (.cmp .Eq (.au (.aa 0) (.int 0)) (.str "let")) {.aL 4 (.call 58 {.au (.aa 0) (.int 2),.aa 1,.aa 2}),.ret (.call 58 {.au (.aa 0) (.int 3),.call 59 {.aa 1,.au (.aa 0) (.int 1),.aa 4},.aa 2})} .nil,.ite (.cmp .Eq (.au (.aa 0) (.int 0)) (.str "turns")) {.aL 5 (.call 58 {.au (.aa 0) (.int 3),.aa 1,.aa 2}),.eM 6 (.au (.aa 0) (.int 1)) {.aL 5 (.call 58 {.au (.aa 0) (.int 4),.call 59 {.aa 1,.au (.aa 0) (.int 2),.aa 5},.aa 2})},.ret (.aa 5)} .nil,.ite (.cmp .Eq (.au (.aa 0) (.int 0)) (.str "def")) {.aL 3 (.ah {.au (.aa 0) (.int 2),.au (.aa 0) (.int 4),.aa 1}),.ret (.call 58 {.au (.aa 0) (.int 5),.call 59 {.aa 1,.au (.aa 0) (.int 1),.aa 3},.aa 2})} .nil,.aL 3 (.au (.aa 1) (.au (.aa 0) (.int 1))),.aL 4 (.call 58 {.au (.aa 0) (.int 2),.aa 1,.aa 2}),.ret (.call 58 {.au (.aa 3) (.int 1),.call 59 {.au (.aa 3) (.int 2),.au (.aa 3) (.int 0),.aa 4},.aa 2})}⟩
def F1:List Str:=["_law_term_here","_law_names","_law_state","_law_one","_law_given","_law_found","_law_turn"]
def vv:Fn:=⟨3,10,{.aL 3 (.au (.aa 0) (.int 0)),.ite (.cmp .Eq (.aa 3) (.str "num")) {.ret (.aa 0)} .nil,.ite (.cmp .Eq (.aa 3) (.str "name")) {.ret (.aB {.str "name",.au (.aa 1) (.au (.aa 0) (.int 1))})} .nil,.ite (.cmp .Eq (.aa 3) (.str "hole")) {.ret (.call 58 {.au (.aa 0) (.int 1),.aa 1,.aa 2})} .nil,.ite (.cmp .Eq (.aa 3) (.str "use")) {.ret (.aB {.str "use",.au (.aa 1) (.au (.aa 0) (.int 1)),.call 61 {.au (.aa 0) (.int 2),.aa 1,.aa 2}})} .nil,.ite (.or {.cmp .Eq (.aa 3) (.str "let"),.cmp .Eq (.aa 3) (.str "turns")}) {.aL 4 (.call 57 {.aa 2}),.aL 5 (.aj .Sub (.len (.aa 0)) (.int 3)),.aL 6 (.call 61 {.au (.aa 0) (.aj .Add (.aa 5) (.int 1)),.aa 1,.aa 2}),.aL 7 (.call 61 {.au (.aa 0) (.aj .Add (.aa 5) (.int 2)),.call 59 {.aa 1,.au (.aa 0) (.aa 5),.aa 4},.aa 2}),.ret (.aj .Add (.slc (.aa 0) .none (.aa 5)) (.aB {.aa 4,.aa 6,.aa 7}))} .nil,.ite (.cmp .Eq (.aa 3) (.str "def")) {.aL 8 (.call 57 {.aa 2}),.aL 4 (.call 57 {.aa 2}),.aL 6 (.call 61 {.au (.aa 0) (.int 4),.call 59 {.aa 1,.au (.aa 0) (.int 2),.aa 4},.aa 2}),.aL 7 (.call 61 {.au (.aa 0) (.int 5),.call 59 {.aa 1,.au (.aa 0) (.int 1),.aa 8},.aa 2}),.ret (.aB {.str "def",.aa 8,.aa 4,.str "number",.aa 6,.aa 7})} .nil,.ret (.aj .Add (.aB {.aa 3}) (.tuple (.comp (.call 61 {.aa 9,.aa 1,.aa 2}) 9 [1,2] (.slc (.aa 0) (.int 1) .none))))}⟩
def Gs:List Str:=["_law_term_here","_law_names","_law_state","_law_word","_law_x","_law_at","_law_one","_law_other","_law_f","_law_part"]
def vj:Fn:=⟨2,5,{.aL 2 (.au (.aa 0) (.int 0)),.ite (.or {.cmp .Eq (.aa 2) (.str "num"),.cmp .Eq (.aa 2) (.str "name")}) {.ret (.int 1)} .nil,.ite (.cmp .Eq (.aa 2) (.str "turns")) {.ret (.aj .Add (.aj .Add (.int 1) (.call 40 {.au (.aa 0) (.int 3),.aa 1})) (.aj .Mult (.au (.aa 0) (.int 1)) (.call 40 {.au (.aa 0) (.int 4),.aa 1})))} .nil,.ite (.cmp .Eq (.aa 2) (.str "def")) {.aL 3 (.call 59 {.aa 1,.au (.aa 0) (.int 1),.call 40 {.au (.aa 0) (.int 4),.aa 1}}),.ret (.aj .Add (.int 1) (.call 40 {.au (.aa 0) (.int 5),.aa 3}))} .nil,.ite (.cmp .Eq (.aa 2) (.str "use")) {.ret (.aj .Add (.aj .Add (.int 1) (.au (.aa 1) (.au (.aa 0) (.int 1)))) (.call 40 {.au (.aa 0) (.int 2),.aa 1}))} .nil,.ret (.aj .Add (.int 1) (.sum (.comp (.call 40 {.aa 4,.aa 1}) 4 [1] (.call 10 {.aa 0}))))}⟩
def Gh:List Str:=["_law_term_here","_law_functions","_law_word","_law_more_here","_law_part"]
def zZ:Fn:=⟨1,3,{.aL 1 (.ah {.int 0,.bool false,.aj .Mult (.aj .FloorDiv (.call 40 {.aa 0,.ay [] .nil}) (.int 1000)) (.int 5001)}),.aL 2 .none,.ite (.cmp .Eq (.au (.aa 1) (.int 2)) (.int 0)) {.aL 2 (.call 58 {.aa 0,.ay [] .nil,.aa 1})} .nil,.ret (.ah {.aa 2,.au (.aa 1) (.int 1),.cmp .Gt (.au (.aa 1) (.int 2)) (.int 5000)})}⟩
def GF:List Str:=["_law_program","_law_state","_law_found"]
def zg:List Str:=["_law_names","_law_name_here","_law_value_here","_law_more_here"]
def zH:Fn:=⟨1,1,{.ret (.cq 27 (.new 5) {.aa 0,.ay [] .nil})}⟩
def qJ:Fn:=⟨1,7,{.aL 1 (.au (.ah {.str "number",.str "piece"}) (.aj .Mod (.call 4 {.aa 0,.int 1}) (.int 2))),.aL 2 (.call 33 {.aa 0,.ah {.int 1,.int 0},.int 0,.aa 1,.ah .nil,.aj .Sub (.int 5) (.aj .FloorDiv (.aj .Mod (.aj .FloorDiv (.call 4 {.aa 0,.int 1}) (.int 2)) (.int 8)) (.int 3)),.bool true}),.aL 3 (.au (.ah {.aa 2,.aB {.str "run",.aa 2}}) (.toInt (.cmp .Eq (.aa 1) (.str "piece")))),.aL 4 (.call 63 {.aa 3}),.ite (.au (.aa 4) (.int 2)) {.ret (.bool true)} .nil,.gU {.aL 6 (.call 68 {.aa 3})} 7 {.ret (.au (.aa 4) (.int 1))},.aL 5 (.call 36 {.aa 2,.ay [] .nil}),.ite (.or {.not (.call 6 {.aa 6}),.cmp .NotEq (.aa 6) (.aa 5),.au (.aa 4) (.int 1)}) {.ret (.bool false)} .nil,.ite (.cmp .Eq (.aa 1) (.str "number")) {.ret (.and {.cmp .Eq (.call 68 {.aB {.str "run",.aB {.str "lift",.aa 2}}}) (.aa 5),.cmp .Eq (.call 36 {.call 53 {.aB {.str "lift",.aa 2}},.ay [] .nil}) (.aa 5)})} .nil,.ret (.and {.cmp .Eq (.call 36 {.call 53 {.aa 2},.ay [] .nil}) (.aa 5),.cmp .Eq (.call 29 {.call 53 {.aa 2}}) (.aa 5)})}⟩
def zo:List Str:=["_law_script","_law_kind","_law_term_here","_law_program","_law_gone_here","_law_due","_law_found"]
def Cn:Info:=⟨[some ⟨"parts_of",qr,zk⟩,some ⟨"size_of",qA,GG⟩,some ⟨"depth_of",qt,Gx⟩,some ⟨"_law_cell_at",sa,F5⟩,some ⟨"_law_mixed",vo,Gj⟩,some ⟨"_law_drawn",zF,Gk⟩,some ⟨"_law_whole",si,Gl⟩,some ⟨"_law_name",sv,Gy⟩,some ⟨"_law_next",zX,Gz⟩,some ⟨"_law_number",se,Ga⟩,some ⟨"_law_parts",vp,F7⟩,none,none,none,none,none,none,none,some ⟨"with_name",lW,Gm⟩,none,none,none,none,some ⟨"reckoned",zY,GD⟩,some ⟨"need_small",zy,Gg⟩,none,some ⟨"new_name",zh,FZ⟩,some ⟨"value",vf,F2⟩,some ⟨"piece",vg,F3⟩,some ⟨"plain_of",zH,zk⟩,some ⟨"_law_seen",qu,GA⟩,some ⟨"_law_leaf",sx,GB⟩,some ⟨"_law_words",vq,Go⟩,some ⟨"_law_term",sy,GC⟩,some ⟨"_law_twice",vr,F8⟩,some ⟨"_law_bound",sb,F9⟩,some ⟨"_law_value",vh,Gp⟩,some ⟨"_law_with",lW,zg⟩,some ⟨"_law_value_bound",zf,F0⟩,none,some ⟨"_law_cost",vj,Gh⟩,none,none,some ⟨"meaning_of",zw,Gb⟩,some ⟨"need_level",vi,Ge⟩,some ⟨"need_kind",zG,Gn⟩,some ⟨"kind_at",vO,GH⟩,some ⟨"binder_kind",zq,F6⟩,some ⟨"plain_kind",zx,Gf⟩,some ⟨"kind_of",AE,GI⟩,none,none,none,some ⟨"made",Cm,GX⟩,none,none,some ⟨"_law_measured",zm,F4⟩,some ⟨"_law_new",AF,GJ⟩,some ⟨"_law_stage",vt,Gq⟩,some ⟨"_law_more",lW,zg⟩,some ⟨"_law_stage_bound",zi,F1⟩,some ⟨"_law_piece",vv,Gs⟩,none,some ⟨"_law_gone",zZ,GF⟩,none,none,none,none,some ⟨"told",Ck,GW⟩,none,none,some ⟨"law",qJ,zo⟩],[some ("NUMBER",.str "number"),some ("PIECE",.str "piece"),some ("REST",.int 1000003),some ("MOST_TERMS",.int 2000),some ("MOST_DEEP",.int 30),none],[26,27,28]⟩
def Ef:List Nat:=[7,4,4,4,0,0,0,0,0,0,0,0,0,0,0,0,0,0,0,4,0,0,0,0,4,1,0,4,1,1,1,0,0,0,0,0,0,0,0,0,0,0,0,0,4,4,4,4,4,4,4,0,0,0,1,0,0,0,0,0,0,0,0,0,0,0,0,0,0,1,0,0,2]
noncomputable abbrev cx(P:Prog)(sc:List Int)(n:Nat):Ctx:=⟨sc,P.consts,aq P sc n,P.eT,P.n5⟩
theorem cf{P:Prog}{sc:List Int}{n f:Nat}{fn:Fn}{vs:List V}(hf:P.fns f=some fn)(hl:vs.length=fn.arity)(σ:H):
  aq P sc (n+1) f vs σ=bS (a6 (cx P sc n) fn.body (vs.map some++List.replicate (fn.slots-fn.arity) none) σ):=by
 simp only[aq,hf];rw[if_pos hl]
 rfl
theorem qB{at_:Nat->M (Option (List (Nat×V)))}{b:Qh.N Fl}{n k:Nat}{L L1 L2:aR}{σ ae ak:H}{ps:List (Nat×V)}(h1:at_ k σ=.ok (some ps) ae)(h2:Qh.N.fM (ps.map (·.1)) (ps.map (·.2)) L ae=.ok () L1 ae)(h3:b L1 ae=.ok .next L2 ak):
  eB at_ b (n+1) k L σ=eB at_ b n (k+1) L2 ak:=by simp only[eB,Qh.N.bind,Qh.N.lift,h1,h2,h3]
theorem sU{at_:Nat->M (Option (List (Nat×V)))}{b:Qh.N Fl}{n k:Nat}{L:aR}{σ ae:H}(h1:at_ k σ=.ok none ae):eB at_ b (n+1) k L σ=.ok .next L ae:=by simp only[eB,Qh.N.bind,Qh.N.lift,h1,Qh.N.pure]
theorem gL{s:Src}{f:V->M (Option V)}{n k:Nat}{σ ae ak bX:H}{v:V}{y:Option V}{r:List V}(h1:dK s k σ=.ok (some v) ae)(h2:f v ae=.ok y ak)(h3:di s f n (k+1) ak=.ok r bX):di s f (n+1) k σ=.ok (y.toList++r) bX:=by simp only[di,M.bind,h1,h2,h3,M.pure]
theorem kE{s:Src}{f:V->M (Option V)}{n k:Nat}{σ ae:H}(h1:dK s k σ=.ok none ae):di s f (n+1) k σ=.ok [] ae:=by simp only[di,M.bind,h1,M.pure]
theorem dt{C:Ctx}{s:S}{r:SL}{L L1:aR}{σ ae:H}(h:cG C s L σ=.ok .next L1 ae):a6 C (.cons s r) L σ=a6 C r L1 ae:=by simp only[o3,o4,Qh.N.bind,h]
theorem sV{C:Ctx}{s:S}{r:SL}{L L1:aR}{σ ae:H}{v:V}(h:cG C s L σ=.ok (.ret v) L1 ae):a6 C (.cons s r) L σ=.ok (.ret v) L1 ae:=by simp only[o3,o4,Qh.N.bind,h,Qh.N.pure]
theorem Ld{C:Ctx}{i:Nat}{e:E}{L:aR}{σ ae:H}{v:V}(h:ao C e L σ=.ok v ae):cG C (.aL i e) L σ=.ok .next (bV L i v) ae:=by simp only[mr,j2,kK,mu,mw,mf,j1,mh,Qh.N.bind,Qh.N.lift,h,Qh.N.put,Qh.N.pure]
theorem JC{C:Ctx}{e:E}{L:aR}{σ ae:H}{v:V}(h:ao C e L σ=.ok v ae):cG C (.ret e) L σ=.ok (.ret v) L ae:=by simp only[mr,j2,kK,mu,mw,mf,j1,mh,Qh.N.bind,Qh.N.lift,h,Qh.N.pure]
theorem a4{C:Ctx}{i:Nat}{e:E}{r:SL}{L:aR}{σ ae:H}{v:V}(h:ao C e L σ=.ok v ae):a6 C (.cons (.aL i e) r) L σ=a6 C r (bV L i v) ae:=dt (Ld h)
theorem bf{C:Ctx}{e:E}{r:SL}{L:aR}{σ ae:H}{v:V}(h:ao C e L σ=.ok v ae):a6 C (.cons (.ret e) r) L σ=.ok (.ret v) L ae:=sV (JC h)
theorem kH{C:Ctx}{c:E}{t e:SL}{L:aR}{σ ae:H}(h:bR C c L σ=.ok true ae):cG C (.ite c t e) L σ=a6 C t L ae:=by simp only[mr,j2,kK,mu,mw,mf,j1,mh,Qh.N.bind,Qh.N.lift,h,if_true]
theorem nK{C:Ctx}{c:E}{t e:SL}{L:aR}{σ ae:H}(h:bR C c L σ=.ok false ae):cG C (.ite c t e) L σ=a6 C e L ae:=by simp only[mr,j2,kK,mu,mw,mf,j1,mh,Qh.N.bind,Qh.N.lift,h,Bool.false_eq_true,if_false]
theorem fq{C:Ctx}{L:aR}{σ:H}:a6 C .nil L σ=.ok .next L σ:=rfl
theorem aW{α β:Type}{m:M α}{f:α->M β}{a:α}{σ ae:H}(h:m σ=.ok a ae):M.bind m f σ=f a ae:=by simp only[M.bind,h]
theorem Ih{C:Ctx}{elt a:E}{v:Nat}{bk:List Nat}{L:aR}{σ ae ak:H}{n:Int}{us:List V}(h1:ao C a L σ=.ok (.int n) ae)(hn:0<=n/\n<=1000000)(h2:di (.fix (dG n)) (λit=>M.bind (ao C elt (bV (cK L bk) v it)) λy=>M.pure (some y)) (n.toNat+1) 0 ae=.ok us ak):ao C (.fB elt v bk a) L σ=.ok (.ref ak.length) (ak++[.ah us]):=by
 rw[me,aW h1];show M.bind (M.pure n) _ ae=_;rw[aW (show M.pure n ae=.ok n ae from rfl),if_pos hn,aW h2]
 rfl
theorem kI{C:Ctx}{elt a:E}{v k:Nat}{bk:List Nat}{L:aR}{σ ae ak:H}{x:V}{sr:Src}{us:List V}(h1:ao C a L σ=.ok x ae)(hs:srcOf x ae=.ok sr ae)(hk:eU sr ae=.ok k ae)(hle:k<=aM)(h2:di sr (λit=>M.bind (ao C elt (bV (cK L bk) v it)) λy=>M.pure (some y)) (k+1) 0 ae=.ok us ak):ao C (.comp elt v bk a) L σ=.ok (.ref ak.length) (ak++[.ah us]):=by
 rw[kG,aW h1,aW hs,aW hk,if_pos hle,aW h2]
 rfl
theorem Hx{C:Ctx}{elt a t:E}{v k:Nat}{bk:List Nat}{L:aR}{σ ae ak:H}{x:V}{sr:Src}{us:List V}(h1:ao C a L σ=.ok x ae)(hs:srcOf x ae=.ok sr ae)(hk:eU sr ae=.ok k ae)(hle:k<=aM)(h2:di sr (λit=>M.bind (bR C t (bV (cK L bk) v it)) λb=>if b then M.bind (ao C elt (bV (cK L bk) v it)) λy=>M.pure (some y) else M.pure none) (k+1) 0 ae=.ok us ak):ao C (.fT elt v bk a t) L σ=.ok (.ref ak.length) (ak++[.ah us]):=by
 rw[IS,aW h1,aW hs,aW hk,if_pos hle,aW h2]
 rfl
section
variable{C:Ctx}{L:aR}{σ ae ak bX:H}{a b c:E}{x y z r:V}
theorem aD{i:Nat}(h:cm L i=some x):ao C (.aa i) L σ=.ok x σ:=by simp only[nL,nM,nN,nO,nP,mn,mq,l0,nC,l4,nD,l5,nE,l6,l7,jZ,l8,l9,ma,mc,nF,nG,md,kG,me,h];rfl
theorem bJ{op:Operator}(h1:ao C a L σ=.ok x ae)(h2:ao C b L ae=.ok y ak)(h3:binop op x y ak=.ok r bX):ao C (.aj op a b) L σ=.ok r bX:=by rw[l0,aW h1,aW h2,h3]
theorem b9(h1:ao C a L σ=.ok x ae)(h2:ao C b L ae=.ok y ak)(h3:index C x y ak=.ok r bX):ao C (.au a b) L σ=.ok r bX:=by rw[l6,aW h1,aW h2,h3]
theorem Oz(h1:ao C a L σ=.ok x ae)(h2:ao C b L ae=.ok y ak)(h3:ao C c L ak=.ok z bX){oL:H}(h4:slice x y z bX=.ok r oL):ao C (.slc a b c) L σ=.ok r oL:=by rw[l7,aW h1,aW h2,aW h3,h4]
theorem aU:dc C .nil L σ=.ok [] σ:=rfl
theorem aw{es:EL}{vs:List V}(h1:ao C a L σ=.ok x ae)(h2:dc C es L ae=.ok vs ak):dc C (.cons a es) L σ=.ok (x::vs) ak:=by rw[AU,aW h1,aW h2];rfl
theorem aN{i:Nat}{es:EL}{vs:List V}(h:cm L i=some x)(k:dc C es L σ=.ok vs ak):dc C (.cons (.aa i) es) L σ=.ok (x::vs) ak:=aw (aD h) k
theorem dH{es:EL}{vs:List V}(h1:dc C es L σ=.ok vs ae)(h2:vs.length<=aM):ao C (.ah es) L σ=.ok (.ref ae.length) (ae++[.ah vs]):=by rw[mq,aW h1,if_pos h2];rfl
theorem bN{es:EL}{vs:List V}(h1:dc C es L σ=.ok vs ae)(h2:vs.length<=aM):ao C (.aB es) L σ=.ok (.aB vs) ae:=by rw[mn,aW h1,if_pos h2];rfl
theorem aJ{f:Nat}{es:EL}{vs:List V}(h1:dc C es L σ=.ok vs ae)(h2:C.call f vs ae=.ok r ak):ao C (.call f es) L σ=.ok r ak:=by rw[jZ,aW h1,h2]
theorem xB(h1:ao C a L σ=.ok x ae)(h2:mY x ae=.ok r ak):ao C (.sum a) L σ=.ok r ak:=by rw[ma,aW h1,h2]
theorem Co(h1:ao C a L σ=.ok x ae)(h2:n6 x ae=.ok r ak):ao C (.gT a) L σ=.ok r ak:=by rw[mc,aW h1,h2]
theorem e_len(h1:ao C a L σ=.ok x ae)(h2:lenOf C x ae=.ok r ak):ao C (.len a) L σ=.ok r ak:=by rw[l8,aW h1,h2]
theorem kL(h1:ao C a L σ=.ok x ae)(h2:tB x ae=.ok r ak):ao C (.toInt a) L σ=.ok r ak:=by rw[l9,aW h1,h2]
theorem kh{op:CmpOp}{t:Bool}(h1:ao C a L σ=.ok x ae)(h2:ao C b L ae=.ok y ak)(h3:dJ op x y ak=.ok t bX):ao C (.cmp op a b) L σ=.ok (.bool t) bX:=by rw[l4,aW h1,aW h2,aW h3];rfl
theorem dZ{op:CmpOp}{t:Bool}(h1:ao C a L σ=.ok x ae)(h2:ao C b L ae=.ok y ak)(h3:dJ op x y ak=.ok t bX):bR C (.cmp op a b) L σ=.ok t bX:=by rw[td,aW h1,aW h2,h3]
theorem OA{t:Bool}(h1:bR C a L σ=.ok t ae):bR C (.not a) L σ=.ok (!t) ae:=by rw[tb,aW h1];rfl
theorem MR{f:Nat}{es:EL}{vs:List V}{t:Bool}(h1:dc C es L σ=.ok vs ae)(h2:C.call f vs ae=.ok (.bool t) ak):bR C (.call f es) L σ=.ok t ak:=by rw[th,aW (by rw[aW h1,h2])];rfl
theorem ku{es:EL}{t:Bool}(h:jz C es L σ=.ok t ae):bR C (.or es) L σ=.ok t ae:=by rw[tc,h]
theorem mV{es:EL}{t:Bool}(h:jy C es L σ=.ok t ae):bR C (.and es) L σ=.ok t ae:=by rw[qN,h]
theorem any_nil:jz C .nil L σ=.ok false σ:=rfl
theorem all_nil:jy C .nil L σ=.ok true σ:=rfl
theorem any_cons{es:EL}{t t':Bool}(h1:bR C a L σ=.ok t ae)(h2:t=false->jz C es L ae=.ok t' ak)(h3:t=true->t'=true/\ak=ae):jz C (.cons a es) L σ=.ok t' ak:=by
 rw[HQ,aW h1];clear h1;cases t with
|false=>exact h2 rfl
|true=>obtain⟨rfl,rfl⟩:=h3 rfl;rfl
theorem all_cons{es:EL}{t t':Bool}(h1:bR C a L σ=.ok t ae)(h2:t=true->jy C es L ae=.ok t' ak)(h3:t=false->t'=false/\ak=ae):jy C (.cons a es) L σ=.ok t' ak:=by
 rw[HP,aW h1];clear h1;cases t with
|true=>exact h2 rfl
|false=>obtain⟨rfl,rfl⟩:=h3 rfl;rfl
theorem da{l:Nat}{k:Int}{vs:List V}(h:σ[l]?=some (.ah vs))(hv:vs[k.toNat]?=some x)(h0:0<=k)(h1:k<0x4000000000000000):index C (.ref l) (.int k) σ=.ok x σ:=by simp only[vC,vD,vE,vF,sD];rw[aW (a:=vs) (ae:=σ) (by simp[bH,M.bind,cP,h,M.pure])];simp only[fc,h0,h1,and_self,if_true,hv];rfl
end
structure Base(P:Prog):Prop where
 cell:P.fns 3=some sa
 mixed:P.fns 4=some vo
 drawn:P.fns 5=some zF
 name:P.fns 7=some sv
 next:P.fns 8=some zX
 aA:P.fns 9=some se
def cellAt(sc:List Int)(k:Int):Int:=if k<sc.length then sc.getD k.toNat 0 else 0
def pz(sc:List Int)(k:Int):Int:=((cellAt sc k+7919*k)*48271).fmod 2147483647
def mixed(sc:List Int)(k:Int):Int:=(pz sc k*pz sc k+7*pz sc k+k).fmod 2147483629
section
variable{P:Prog}{sc:List Int}(B:Base P)
include B
theorem Ii{n:Nat}{k:Int}(hk:0<=k)(hs:sc.length<=63)(σ:H):aq P sc (n+1) 3 [.ct,.int k] σ=.ok (.int (cellAt sc k)) σ:=by
 rw[cf B.cell rfl]
 by_cases h:k<sc.length
 ·have h2:k<0x4000000000000000:=lI 0x1c01c01c01c01c01c01c01c01c01e406130124124124817f1e034534184c [_,_] rfl (Int.ofNat_le.mpr hs) h;have h3:sc[k.toNat]?=some (sc.getD k.toNat 0):=by
   have:k.toNat<sc.length:=p6 hk h;simp[List.getD,List.getElem?_eq_getElem this]
  simp[sa,o3,o4,mr,j2,kK,mu,mw,mf,j1,mh,tb,qN,tc,td,wd,we,th,wg,sN,nL,nM,nN,nO,nP,mn,mq,l0,nC,l4,nD,l5,nE,l6,l7,jZ,l8,l9,ma,mc,nF,nG,md,kG,me,Qh.N.bind,Qh.N.lift,M.bind,M.pure,cX,o5,o6,o7,Ae,Af,Ah,vI,qw,nh,Ab,Ac,Ad,vG,vH,sE,vC,vD,vE,vF,sD,fc,ni,nj,nk,nq,cellAt,h,h2,h3,hk,Qh.N.pure]
 ·simp[sa,o3,o4,mr,j2,kK,mu,mw,mf,j1,mh,tb,qN,tc,td,wd,we,th,wg,sN,nL,nM,nN,nO,nP,mn,mq,l0,nC,l4,nD,l5,nE,l6,l7,jZ,l8,l9,ma,mc,nF,nG,md,kG,me,Qh.N.bind,Qh.N.lift,M.bind,M.pure,cX,o5,o6,o7,Ae,Af,Ah,vI,qw,nh,Ab,Ac,Ad,vG,vH,sE,vC,vD,vE,vF,sD,fc,ni,nj,nk,nq,cellAt,h,hk,Qh.N.pure]
omit B in
theorem wm{x:Int}(a:0<=x)(b:x<0x10000000000000000):small x=true:=Bool.and_eq_true_iff.mpr ⟨decide_eq_true (Int.lt_of_lt_of_le (by decide) a),decide_eq_true b⟩
omit B in
theorem tL{x y r:Int}(h:0<y)(e:x.fmod y=r){σ:H}:binop .Mod (.int x) (.int y) σ=.ok (.int r) σ:=e▸congrFun (if_neg (Int.ne_of_gt h)) σ
omit B in
theorem MS{x:Int}{n:Nat}(h:0<n)(h':n<1073741824){σ:H}:binop .FloorDiv (.int x) (.int n) σ=.ok (.int (x.fdiv n)) σ:=congrFun (if_neg (λq=>q.elim (λe=>Nat.ne_of_gt h (Int.ofNat.inj e)) (λe=>e h'))) σ
theorem jq{a b:Int}(hb:0<b):0<=a.fmod b/\a.fmod b<b:=⟨Int.fmod_nonneg_of_pos a hb,Int.fmod_lt_of_pos a hb⟩
theorem vz{n:Nat}{k:Int}(hk:0<=k)(hs:sc.length<=63)(σ:H):aq P sc (n+2) 4 [.ct,.int k] σ=.ok (.int (mixed sc k)) σ:=by
 rw[cf B.mixed rfl];have h1:=jq (P:=P) B (a:=(cellAt sc k+7919*k)*48271) (b:=2147483647) (by decide);have h2:small (pz sc k)=true:=by
  exact wm h1.1 (Int.lt_trans h1.2 (by decide))
 have h3:small 7919=true:=by decide
 have h4:small 48271=true:=by decide
 have h5:small 7=true:=by decide
 simp only[pz] at h2;simp[vo,o3,o4,mr,j2,kK,mu,mw,mf,j1,mh,tb,qN,tc,td,wd,we,th,wg,sN,nL,nM,nN,nO,nP,mn,mq,l0,nC,l4,nD,l5,nE,l6,l7,jZ,l8,l9,ma,mc,nF,nG,md,kG,me,IT,AU,Qh.N.bind,Qh.N.lift,M.bind,M.pure,cX,o5,o6,o7,vT,vU,vV,ni,nj,nk,nq,Qh.N.pure,Qh.N.put,Ii B hk hs,nr,nu,jl,nv,nw,nx,ny,nz,nA,h2,h3,h4,h5,mixed,pz]
theorem BK{σ:H}{l:Nat}{vs:List V}(h:σ[l]?=some (.ah vs)):bH (.ref l) σ=.ok vs σ:=by simp[bH,M.bind,cP,h,M.pure]
end
def j6(x:Str):Prop:=(∀c∈x.cps.toList,97<=c/\c<=122)/\x.cps.size<=8
def pg:Str:="abcdefghijklmnopqrstuvwxyz"
theorem Hz(h0:0<=j)(h1:j<26)(σ:H):∃c,fc pg.cps.toList j σ=.ok c σ/\97<=c/\c<=122:=by
 have hl:pg.cps.toList=(List.range 26).map (·+97):=by decide+kernel
 have h2:j<0x4000000000000000:=lI 0x700700700700700700700700700790184c049049205e8184c [_] rfl h1;have:j.toNat<26:=p6 h0 h1;refine⟨j.toNat+97,?_,by(exact dD _ _),Nat.le_of_lt_succ (Nat.add_lt_add_right this 97)⟩;simp[fc,h0,h2,hl,cX,this,M.pure]
theorem Ij{f:V->M (Option V)}{R:V->Prop}(hf:∀v∈vs,∃u,f v σ=.ok (some u) σ/\R u):
  ∀(rest done:List V),vs=done++rest->∃us,di (.fix vs) f (rest.length+1) done.length σ=.ok us σ/\us.length=rest.length/\∀u∈us,R u:=by
 intro rest
 induction rest with
|nil=>
  intro done hd;exact⟨[],kE (by simp[sF,jU,M.pure,hd]),rfl,λ_ h=>nomatch h⟩
|cons v rest ih=>
  intro done hd;refine b8 (ih (done++[v]) (by(refine hd▸?_);simp)) λus h1 h2 h3=>?_;refine aO (hf v (by(refine hd▸?_);simp)) λu h4 h5=>?_;refine⟨u::us,?_,by simp[h2],λw hw=>?_⟩
  ·replace h1:=(List.length_singleton)▸((List.length_append)▸h1);exact gL (by simp[sF,jU,M.pure,hd]) h4 h1
  ·rcases List.mem_cons.mp hw with q|q
   ·(clear hw h4;subst q);exact h5
   ·exact h3 w q
theorem AG:∀(us:List V),(∀u∈us,∃c,u=.str ⟨#[c]⟩/\97<=c/\c<=122)->∃ss,strsOf us=some ss/\(ss.map Str.length).sum=us.length/\(∀c∈(Str.join "" ss).cps.toList,97<=c/\c<=122)/\(Str.join "" ss).cps.size=us.length
|[]=>λ_=>⟨[],rfl,rfl,λc h=>by simp[Str.join,Str.empty] at h,rfl⟩
|u::us=>λh=>by
  refine n3 (AG us λw hw=>h w (.tail _ hw)) λss h1 h2 h3 h4=>?_;refine b8 (h u (.head _)) λc bg hc1 hc2=>?_;clear h;subst bg;refine⟨⟨#[c]⟩::ss,by simp[Hc,Hd,h1],by simp[h2,Str.length];exact cj (lN 427436429021768 [_] rfl) (lN 336520908116552 [_] rfl),?_,?_⟩
  ·clear h4 h2 h1;cases ss with
   |nil=>intro d hd;simp[Str.join] at hd;subst hd;exact⟨hc1,hc2⟩
   |cons s ss=>
    intro d hd;have e:(Str.join (Str.ofString "") (⟨#[c]⟩::s::ss)).cps.toList=c::(Str.join (Str.ofString "") (s::ss)).cps.toList:=by
     show((#[c]++(Str.ofString "").cps)++(Str.join (Str.ofString "") (s::ss)).cps).toList=_;have:(Str.ofString "").cps=#[]:=by decide+kernel
     (refine this▸?_);simp
    replace hd:=e▸hd;rcases List.mem_cons.mp hd with q|q
    ·subst q;exact⟨hc1,hc2⟩
    ·exact h3 d q
  ·clear h3 h2 h1;cases ss with
   |nil=>
    have:us.length=0:=by(refine h4▸?_);rfl
    simp[Str.join,this]
   |cons s ss=>
    have e:(Str.join (Str.ofString "") (⟨#[c]⟩::s::ss)).cps.size=1+(Str.join (Str.ofString "") (s::ss)).cps.size:=by
     show((#[c]++(Str.ofString "").cps)++(Str.join (Str.ofString "") (s::ss)).cps).size=_;have:(Str.ofString "").cps=#[]:=by decide+kernel
     (refine this▸?_);simp
    (refine e▸?_;refine h4▸?_);simp[Nat.add_comm]
def nX:List String:=["num","name","let","quote","hole","run","use","lift"]
theorem JD:∀w∈nX,j6 (Str.ofString w):=by
 have h:∀w∈nX,((Str.ofString w).cps.toList.all (λc=>97<=c&&c<=122))=true/\(Str.ofString w).cps.size<=8:=by decide+kernel
 intro w hw;refine a5 (h w hw) λh1 h2=>?_;refine⟨λc hc=>?_,h2⟩;have:=List.all_eq_true.mp h1 c hc
 simpa using this
theorem Cq(σ:H)(o:O):(σ++[o])[σ.length]?=some o:=by rw[List.getElem?_append_right (aQ _),Nat.sub_self];rfl
theorem z0(σ:H)(vs:List V):bH (.ref σ.length) (σ++[.ah vs])=.ok vs (σ++[.ah vs]):=by show M.bind (cP _) _ _=_;rw[aW (show cP σ.length (σ++[.ah vs])=.ok (.ah vs) (σ++[.ah vs]) by simp only[cP,Cq])];rfl
theorem G2(h:cG C s L σ=a6 C b L ae)(h2:a6 C b L ae=.ok (.ret v) L1 ak):a6 C (.cons s r) L σ=.ok (.ret v) L1 ak:=sV (h.trans h2)
theorem Ik(h1:ao C c L σ=.ok z ae)(h2:ao C a L ae=.ok x ak)(h3:ao C b L ak=.ok y bX)(h4:iu x y z bX=.ok () oL):cG C (.eX a b c) L σ=.ok .next L oL:=by simp only[j2,Qh.N.bind,Qh.N.lift,h1,h2,h3,h4,Qh.N.pure]
theorem Le(h1:ao C a L σ=.ok x ae)(h2:ao C b L ae=.ok y ak)(h3:joinM x y ak=.ok r bX):ao C (.join a b) L σ=.ok r bX:=by(refine md▸?_;refine(aW h1)▸?_;refine(aW h2)▸?_;refine h3▸?_;with_reducible rfl)
section
variable{P:Prog}{sc:List Int}(B:Base P)
include B
theorem Il(hs:sc.length<=63)(σ:H):∃x τ,aq P sc (n+3) 7 [.ct,.int w] σ=.ok (.str x) (σ++τ)/\j6 x:=by
 suffices hw:∃x τ L',a6 (cx P sc (n+2)) sv.body [some .ct,some (.int w),none,none,none,none,none,none] σ=.ok (.ret (.str x)) L' (σ++τ)/\j6 x by
  refine fV (hw) λx τ L' e hx=>?_;refine⟨x,τ,?_,hx⟩;rw[cf B.name rfl];exact(congrArg bS e).trans rfl
 have hm:∀(L:aR)(σ:H),cm L 0=some .ct->ao (cx P sc (n+2)) (.call 4 {.aa 0,.int 0}) L σ=.ok (.int (mixed sc 0)) σ:=λL σ h=>
  aJ (aN h rfl) (vz B (a8 0) hs σ)
 generalize mixed sc 0=N at hm;have g1:a6 (cx P sc (n+2)) sv.body [some .ct,some (.int w),none,none,none,none,none,none] σ=_:=(a4 rfl).trans (a4 (hm _ _ rfl));have ht:bR (cx P sc (n+2)) (.and {.cmp .Eq (.aj .Mod (.aa 3) (.int 8)) (.int 7),.cmp .Eq (.aj .Mod (.aj .FloorDiv (.aa 3) (.int 8)) (.int 2)) (.int 0)}) [some .ct,some (.int w),some (.str pg),some (.int N),none,none,none,none] σ=.ok (N.fmod 8==7&&(N.fdiv 8).fmod 2==0) σ:=by
  refine mV (all_cons rfl (λq=>all_cons rfl (λq'=>?_) (λq'=>?_)) (λq=>?_))
  ·(refine q▸?_;refine q'.symm▸?_);exact all_nil
  ·(refine q▸?_;refine q'▸?_);exact⟨rfl,rfl⟩
  ·(refine q.symm▸?_);exact⟨rfl,rfl⟩
 cases hc:(N.fmod 8==7&&(N.fdiv 8).fmod 2==0) with
|true=>
  replace ht:=hc▸ht;have hj:=jq B (a:=N.fdiv 16+w) (b:=8) (by decide);generalize qd:(N.fdiv 16+w).fmod 8=j at hj;have hw:∃x,(nX.map λx=>V.str (Str.ofString x))[j.toNat]?=some (.str (Str.ofString x))/\x∈nX:=by
   have:j.toNat<nX.length:=p6 hj.1 hj.2;refine⟨nX[j.toNat],?_,List.getElem_mem this⟩;simp[this]
  refine aO (hw) λx hx Ra=>?_;refine⟨Str.ofString x,[.ah (nX.map λx=>.str (Str.ofString x))],_,g1.trans (G2 (kH ht) ((a4 rfl).trans (bf (b9 (aD rfl) (bJ rfl rfl (by(refine qd▸?_);rfl)) (da (Cq _ _) hx hj.1 (lI 0x700700700700700700700700700790184c049049205a0184c [_] rfl hj.2)))))),JD x Ra⟩
|false=>
  replace ht:=hc▸ht;have hsz:=jq B (a:=N) (b:=8) (by decide);generalize hS:1+N.fmod 8=S;have rY:1<=S/\S<=8:=⟨lI 0xc84124024124124814d806301361 [_,_] rfl hsz.1 hS,lI 0x28301241240241248168061346301361 [_,_] rfl hsz.2 hS⟩;have g7:=jq (P:=P) B (a:=N.fdiv 8) (b:=S) (lI 0x301860049049205321 [_] rfl rY.1);generalize hA:(N.fdiv 8).fmod S=A at g7;have Eg:∀(C:Ctx)(j:Int)(σ:H),0<=j->j<26->∃u,index C (.str pg) (.int j) σ=.ok u σ/\∃c,u=.str ⟨#[c]⟩/\97<=c/\c<=122:=λC j σ h0 h1=>by
   refine aO (Hz h0 h1 σ) λc h2 h3=>?_;exact⟨.str ⟨#[c]⟩,(aW h2).trans rfl,c,rfl,h3⟩
  have ie:∃us,ao (cx P sc (n+2)) (.fB (.au (.aa 2) (.aj .Mod (.aj .Add (.aj .FloorDiv (.aa 3) (.int 64)) (.aj .Mult (.int 5) (.aa 7))) (.int 26))) 7 [2,3] (.aa 4))
    [some .ct,some (.int w),some (.str pg),some (.int N),some (.int S),none,none,none] σ=.ok (.ref σ.length) (σ++[.ah us])/\us.length=S.toNat/\∀u∈us,∃c,u=.str ⟨#[c]⟩/\97<=c/\c<=122:=by
   have hf:∀v∈dG S,∃u,(λit=>M.bind (ao (cx P sc (n+2)) (.au (.aa 2) (.aj .Mod (.aj .Add (.aj .FloorDiv (.aa 3) (.int 64)) (.aj .Mult (.int 5) (.aa 7))) (.int 26))) (bV (cK [some .ct,some (.int w),some (.str pg),some (.int N),some (.int S),none,none,none] [2,3]) 7 it)) λy=>M.pure (some y)) v σ=.ok (some u) σ/\∃c,u=.str ⟨#[c]⟩/\97<=c/\c<=122:=by
    intro v hv;simp only[dG,List.mem_map,List.mem_range] at hv;obtain⟨k,hk,rfl⟩:=hv;have hj:=jq B (a:=N.fdiv 64+5*(k:Int)) (b:=26) (by decide);refine aO (Eg (cx P sc (n+2)) _ σ hj.1 hj.2) λu hu uS=>?_;exact⟨u,(aW (b9 (aD rfl) (bJ rfl rfl rfl) hu)).trans rfl,uS⟩
   refine b8 (Ij hf (dG S) [] rfl) λus h1 h2 h3=>?_;have hlen:(dG S).length=S.toNat:=by simp[dG]
   refine⟨us,?_,by(refine h2▸?_;refine hlen▸?_;with_reducible rfl),h3⟩;replace h1:=hlen▸h1;exact Ih rfl ⟨by exact lI 0xc80124124124814d80530184d [_,_] rfl g7.1 g7.2,by exact lI 0x7247d078cc049049205a0c [_] rfl rY.2⟩ h1
  refine bB λXx aI=>?_;refine b8 (ie) λus hu1 uS Rb=>?_;have hdiv:binop .Mod (.int (N.fdiv 8)) (.int S) (σ++[.ah us])=.ok (.int A) (σ++[.ah us]):=tL rY.1 hA;have hj:=jq B (a:=N.fdiv 64+5*A+w) (b:=26) (by decide);refine aO (Eg (cx P sc (n+2)) _ (σ++[.ah us]) hj.1 hj.2) λu hu yO=>?_;have yP:us.length<=8:=uS▸Int.toNat_le.mpr rY.2
  obtain⟨ss,hs1,hs2,Rc,Rd⟩:=AG (us.set A.toNat u) (λv hv=>by
   rcases List.mem_or_eq_of_mem_set hv with q|q
   ·exact Rb v q
   ·(clear hv hu;subst q);exact yO)
  refine aI ?_;have hl:(us.set A.toNat u).length=us.length:=by simp
  have Py:iu (.ref σ.length) (.int A) u (σ++[.ah us])=.ok () (σ++[.ah (us.set A.toNat u)]):=by
   rw[zr,aW (z0 _ _),if_pos ⟨g7.1,uS.symm▸(Int.toNat_of_nonneg (Int.le_of_lt rY.1)).symm▸g7.2,bP yP (nb rfl)⟩];show Res.ok () _=_;simp
  have Rf:joinM (.str (Str.ofString "")) (.ref σ.length) (σ++[.ah (us.set A.toNat u)])=.ok (.str (Str.join (Str.ofString "") ss)) (σ++[.ah (us.set A.toNat u)]):=by
   show M.bind (bH _) _ _=_;refine(aW (z0 _ _))▸?_;refine hs1▸?_;show(if(Str.ofString "").length=0/\(ss.map Str.length).sum<=aM then _ else _:M V) _=_;rw[if_pos ⟨by decide+kernel,by(refine hs2▸?_;refine hl▸?_);exact bP yP (nb rfl)⟩];rfl
  refine⟨Str.join "" ss,[.ah (us.set A.toNat u)],_,((g1.trans ((dt ((nK ht).trans fq)).trans (a4 (by(refine hS▸?_);rfl)))).trans ((a4 hu1).trans (a4 (bJ rfl (aD rfl) hdiv)))).trans ((dt (Ik (b9 (aD rfl) (bJ rfl rfl rfl) hu) (aD rfl) (aD rfl) Py)).trans (bf (Le rfl (aD rfl) Rf))),Rc,by(refine Rd▸?_;refine hl▸?_);exact yP⟩
end
inductive U1 where|bE|hole|lift|run
inductive U2 where|sum|product|less
inductive Tm where
|num (i:Int)|name (x:Str)|un (w:U1) (a:Tm)|use (f:Str) (a:Tm)|aj (w:U2) (a b:Tm)
|aX (x:Str) (a b:Tm)|bb (k:Int) (x:Str) (a b:Tm)|def_ (f x kd:Str) (a b:Tm)|when (a b c:Tm)
def U1.str:U1->Str
|.bE=>"quote"|.hole=>"hole"|.lift=>"lift"|.run=>"run"
def U2.str:U2->Str
|.sum=>"sum"|.product=>"product"|.less=>"less"
def Tm.af:Tm->V
|.num i=>.aB [.str "num",.int i]
|.name x=>.aB [.str "name",.str x]
|.un w a=>.aB [.str w.str,a.af]
|.use f a=>.aB [.str "use",.str f,a.af]
|.aj w a b=>.aB [.str w.str,a.af,b.af]
|.aX x a b=>.aB [.str "let",.str x,a.af,b.af]
|.bb k x a b=>.aB [.str "turns",.int k,.str x,a.af,b.af]
|.def_ f x kd a b=>.aB [.str "def",.str f,.str x,.str kd,a.af,b.af]
|.when a b c=>.aB [.str "when",a.af,b.af,c.af]
def Tm.parts:Tm->List Tm
|.num _=>[]|.name _=>[]|.un _ a=>[a]|.use _ a=>[a]|.aj _ a b=>[a,b]|.aX _ a b=>[a,b]|.bb _ _ a b=>[a,b]|.def_ _ _ _ a b=>[a,b]|.when a b c=>[a,b,c]
theorem Eh:(Tm.num u1).parts=[]:=rfl
theorem Ei:(Tm.name u1).parts=[]:=rfl
theorem Ej:(Tm.un u1 a).parts=[a]:=rfl
theorem Ek:(Tm.use u1 a).parts=[a]:=rfl
theorem El:(Tm.aj u1 a b).parts=[a,b]:=rfl
theorem Em:(Tm.aX u1 a b).parts=[a,b]:=rfl
theorem En:(Tm.bb u1 u2 a b).parts=[a,b]:=rfl
theorem Eo:(Tm.def_ u1 u2 u3 a b).parts=[a,b]:=rfl
theorem Ep:(Tm.when a b c).parts=[a,b,c]:=rfl
def Tm.size:Tm->Nat
|.num _=>1|.name _=>1|.un _ a=>1+a.size|.use _ a=>1+a.size|.aj _ a b=>1+(a.size+b.size)|.aX _ a b=>1+(a.size+b.size)|.bb _ _ a b=>1+(a.size+b.size)|.def_ _ _ _ a b=>1+(a.size+b.size)
|.when a b c=>1+(a.size+(b.size+c.size))
theorem Pz:(Tm.num u1).size=1:=rfl
theorem PA:(Tm.name u1).size=1:=rfl
theorem PC:(Tm.un u1 a).size=1+a.size:=rfl
theorem PE:(Tm.use u1 a).size=1+a.size:=rfl
theorem PF:(Tm.aj u1 a b).size=1+(a.size+b.size):=rfl
theorem PG:(Tm.aX u1 a b).size=1+(a.size+b.size):=rfl
theorem PH:(Tm.bb u1 u2 a b).size=1+(a.size+b.size):=rfl
theorem PI:(Tm.def_ u1 u2 u3 a b).size=1+(a.size+b.size):=rfl
theorem PJ:(Tm.when a b c).size=1+(a.size+(b.size+c.size)):=rfl
def Tm.depth:Tm->Nat
|.num _=>1|.name _=>1|.un _ a=>1+a.depth|.use _ a=>1+a.depth|.aj _ a b=>1+max a.depth b.depth|.aX _ a b=>1+max a.depth b.depth|.bb _ _ a b=>1+max a.depth b.depth
|.def_ _ _ _ a b=>1+max a.depth b.depth|.when a b c=>1+max a.depth (max b.depth c.depth)
theorem PK:(Tm.num u1).depth=1:=rfl
theorem PM:(Tm.name u1).depth=1:=rfl
theorem rK:(Tm.un u1 a).depth=1+a.depth:=rfl
theorem PN:(Tm.use u1 a).depth=1+a.depth:=rfl
theorem PO:(Tm.aj u1 a b).depth=1+max a.depth b.depth:=rfl
theorem PQ:(Tm.aX u1 a b).depth=1+max a.depth b.depth:=rfl
theorem PR:(Tm.bb u1 u2 a b).depth=1+max a.depth b.depth:=rfl
theorem PW:(Tm.def_ u1 u2 u3 a b).depth=1+max a.depth b.depth:=rfl
theorem PZ:(Tm.when a b c).depth=1+max a.depth (max b.depth c.depth):=rfl
theorem mL{a b:Nat}:a<=max a b:=eG _ _
theorem mR{a b:Nat}:b<=max a b:=eN _ _
theorem mM{a b c:Nat}:b<=max a (max b c):=bP mL mR
theorem mC{a b c:Nat}:c<=max a (max b c):=bP mR mR
theorem k3(h1:x<=y)(h:3*(1+y)<=m):3*x+3<=m:=lN 0xd06310c8c124124324814e30534404e863 [_,_,_] rfl h1 h
theorem lS(h1:x<=y)(h:3*(1+y)<=m):3*x+3<=m+1:=jN (k3 h1 h)
theorem Rg(h1:x<=y)(h:3*(1+y)<=m):3*x+3<=m+2:=jN (lS h1 h)
theorem z1(h1:x<=y)(h:e+(1+y)<=m):e+1+x<=m:=lN 0xe04d06130124124124814f34538104f84c [_,_,_,_] rfl h1 h
theorem zz(h1:x<=y)(h:e+(1+y)<=m):e+x<=m:=bP (Nat.add_le_add_right (Nat.le_succ e) x) (z1 h1 h)
theorem nd(h1:x<=y)(h:1+y<=n+1):x<=n:=lN 0xd30124124124814e3050613413a1 [_,_,_] rfl h1 h
theorem oM(h:1+y<=n):n=n-1+1:=cj (lN 0x184284c308049201241248 [_] rfl) (lN 0x30184284c201248049009049205301361 [_,_] rfl h)
def Tm.Ok:Tm->Prop
|.num _=>True|.name x=>j6 x|.un _ a=>a.Ok|.use f a=>j6 f/\a.Ok|.aj _ a b=>a.Ok/\b.Ok|.aX x a b=>j6 x/\a.Ok/\b.Ok
|.bb k x a b=>(0<=k/\k<=9)/\j6 x/\a.Ok/\b.Ok|.def_ f x kd a b=>j6 f/\j6 x/\(kd="number"∨kd="piece")/\a.Ok/\b.Ok|.when a b c=>a.Ok/\b.Ok/\c.Ok
section
variable{P:Prog}{sc:List Int}(B:Base P)
include B
omit B in
theorem Lg{is:List Int}(h:k<is.length):∃i,(is.map V.int)[k]?=some (.int i):=⟨is[k],List.getElem?_map.trans (congrArg (Option.map V.int) (List.getElem?_eq_getElem h))⟩
theorem zI{n:Nat}(σ:H):∃i τ,aq P sc (n+1) 9 [.int x] σ=.ok (.int i) (σ++τ):=by
 rw[cf B.aA rfl];show ∃i τ,bS (a6 (cx P sc n) se.body [some (.int x),none] σ)=Res.ok (V.int i) (σ++τ);have hj:=jq (P:=P) B (a:=x.fdiv 1000) (b:=6) (by decide);generalize qd:(x.fdiv 1000).fmod 6=j at hj;have h1:small 1000003=true:=by decide
 have b7:small 10=true:=by decide
 generalize yQ:[V.int (x.fmod 3),.int (x.fmod 1000),.int (-1-x.fmod 9),.int (1000003*x.fmod 2+x.fmod 5),.int ((10:Int)^20)]=v5;have hlen:v5.length=5:=by rw[←yQ];rfl
 have hres:∃i,(v5++[.int (-x)])[j.toNat]?=some (.int i):=by
  rw[←yQ];exact Lg (is:=[x.fmod 3,x.fmod 1000,-1-x.fmod 9,1000003*x.fmod 2+x.fmod 5,(10:Int)^20,-x]) (p6 hj.1 hj.2)
 obtain⟨i,hi⟩:=hres;refine⟨i,[.ah v5,.ah [.int (-x)],.ah (v5++[.int (-x)])],?_⟩;have e1:(σ++[O.ah v5]++[O.ah [V.int (-x)]])[σ.length]?=some (.ah v5):=by simp
 have e2:(σ++[O.ah v5]++[O.ah [V.int (-x)]])[(σ++[O.ah v5]).length]?=some (.ah [.int (-x)]):=by simp
 have e3:(σ++[O.ah v5]++[O.ah [V.int (-x)]]++[O.ah (v5++[V.int (-x)])])[(σ++[O.ah v5]++[O.ah [V.int (-x)]]).length]?=some (.ah (v5++[.int (-x)])):=by simp
 have g2:ao (cx P sc n) (.ah {.neg (.aa 0)}) [some (.int x),some (.ref σ.length)] (σ++[.ah v5])=.ok (.ref (σ++[O.ah v5]).length) (σ++[O.ah v5]++[O.ah [V.int (-x)]]):=
  dH rfl (by simp[aM])
 have g3:ao (cx P sc n) (.aj .Add (.aa 1) (.ah {.neg (.aa 0)})) [some (.int x),some (.ref σ.length)] (σ++[.ah v5])=.ok (.ref (σ++[O.ah v5]++[O.ah [V.int (-x)]]).length) (σ++[O.ah v5]++[O.ah [V.int (-x)]]++[O.ah (v5++[V.int (-x)])]):=by
  refine bJ (aD rfl) g2 ?_;simp only[nr,nu,jl,nv,nw,nx,ny,nz,nA];rw[aW (BK B e1),aW (BK B e2),if_pos (by rw[hlen];simp[aM])]
  rfl
 have g4:∀σ,ao (cx P sc n) (.aj .Mod (.aj .FloorDiv (.aa 0) (.int 1000)) (.int 6)) [some (.int x),some (.ref σ.length)] σ=.ok (.int j) σ:=λσ=>by
  simp[nL,nM,nN,nO,nP,mn,mq,l0,nC,l4,nD,l5,nE,l6,l7,jZ,l8,l9,ma,mc,nF,nG,md,kG,me,M.bind,M.pure,cX,o5,o6,o7,vT,vU,vV,nr,nu,jl,nv,nw,nx,ny,nz,nA,qd]
 have g1:ao (cx P sc n) (.ah {.aj .Mod (.aa 0) (.int 3),.aj .Mod (.aa 0) (.int 1000),.aj .Sub (.neg (.int 1)) (.aj .Mod (.aa 0) (.int 9)),.aj .Add (.aj .Mult (.int 1000003) (.aj .Mod (.aa 0) (.int 2))) (.aj .Mod (.aa 0) (.int 5)),.aj .Pow (.int 10) (.int 20)}) [some (.int x),none] σ=.ok (.ref σ.length) (σ++[.ah v5]):=by
  rw[←yQ];refine dH ?_ (by simp[aM])
  rfl
 unfold se;rw[a4 g1];show bS (a6 _ _ [some (.int x),some (.ref σ.length)] _)=_;rw[bf (b9 g3 (by simp[nL,nM,nN,nO,nP,mn,mq,l0,nC,l4,nD,l5,nE,l6,l7,jZ,l8,l9,ma,mc,nF,nG,md,kG,me,M.bind,M.pure,cX,o5,o6,o7,vT,vU,vV,nr,nu,jl,nv,nw,nx,ny,nz,nA,qd]) (da e3 hi hj.1 (lI 0x700700700700700700700700700790184c04904920598184c [_] rfl hj.2)))];simp[ni,nj,nk,nq]
end
def SL.drop:Nat->SL->SL
|0,s=>s
|n+1,.cons _ r=>SL.drop n r
|_+1,.nil=>.nil
theorem bY(h:bR C c L σ=.ok false ae):a6 C (.cons (.ite c t .nil) r) L σ=a6 C r L ae:=by rw[dt];rw[nK h];rfl
def SL.dr:Nat->SL->SL
|0,b=>b
|_+1,.nil=>.nil
|k+1,.cons _ r=>r.dr k
def isIf:S->Option E
|.ite c _ .nil=>some c
|_=>none
theorem Im(h:isIf s=some c)(e:bR C c L σ=.ok false ae):a6 C (.cons s r) L σ=a6 C r L ae:=by
 cases s with
|ite c' t e'=>cases e' with
  |nil=>exact bY ((Option.some.inj h)▸e)
  |cons _ _=>exact bL h
|_=>exact bL h
def uk(C:Ctx):Nat->SL->aR->H->Option H
|0,_,_,σ=>some σ
|_+1,.nil,_,_=>none
|k+1,.cons s r,L,σ=>match isIf s with
  |none=>none
  |some c=>match bR C c L σ with
   |.ok false ag=>uk C k r L ag
   |_=>none
theorem jmp(k:Nat)(h:uk C k b L σ=some ag)(h2:a6 C (b.dr k) L ag=r):a6 C b L σ=r:=by
 subst h2
 induction k generalizing b σ with
|zero=>exact Option.some.inj h▸rfl
|succ k ih=>
  cases b with
  |nil=>exact bL h
  |cons s b=>
   have h:(match isIf s with|none=>none|some c=>match bR C c L σ with|.ok false ag=>uk C k b L ag|_=>none)=some ag:=h;cases e0:isIf s with
   |none=>rw[e0] at h;exact bL h
   |some c=>
    rw[e0] at h;have h:(match bR C c L σ with|.ok false ag=>uk C k b L ag|_=>none)=some ag:=h;cases e:bR C c L σ with
    |ok x ae=>rw[e] at h;cases x with
     |false=>exact(Im e0 e).trans (ih h)
     |true=>exact bL h
    |aF c' ae=>rw[e] at h;exact bL h
    |bad=>rw[e] at h;exact bL h
theorem bT(h:bR C c L σ=.ok true ae)(h2:a6 C t L ae=.ok (.ret v) L1 ak):a6 C (.cons (.ite c t .nil) r) L σ=.ok (.ret v) L1 ak:=
 sV (by rw[kH h];exact h2)
theorem xC(x y:Int)(σ:H):dJ .Lt (.int x) (.int y) σ=.ok (decide (x<y)) σ:=rfl
theorem tM(x y:Int)(σ:H):dJ .Eq (.int x) (.int y) σ=.ok (x==y) σ:=rfl
section
variable{P:Prog}{sc:List Int}
theorem z5(h0:P.fns 0=some qr)(t:Tm)(n:Nat)(σ:H):aq P sc (n+1) 0 [t.af] σ=.ok (.ref σ.length) (σ++[.ah (t.parts.map Tm.af)]):=by
 rw[cf h0 rfl];cases t with
|un w a=>cases w<;>rfl'
|aj w a b=>cases w<;>rfl'
|_=>rfl'
theorem zJ(h0:P.fns 10=some vp)(t:Tm)(n:Nat)(σ:H):aq P sc (n+1) 10 [t.af] σ=.ok (.ref σ.length) (σ++[.ah (t.parts.map Tm.af)]):=by
 rw[cf h0 rfl];cases t with
|un w a=>cases w<;>rfl'
|aj w a b=>cases w<;>rfl'
|_=>rfl'
theorem HA(h0:P.fns 6=some si)(i:Int)(n:Nat)(σ:H):aq P sc (n+1) 6 [.int i] σ=.ok (.bool true) σ:=by rw[cf h0 rfl];simp[si,o3,o4,mr,j2,kK,mu,mw,mf,j1,mh,nL,nM,nN,nO,nP,mn,mq,l0,nC,l4,nD,l5,nE,l6,l7,jZ,l8,l9,ma,mc,nF,nG,md,kG,me,Aj,Ak,Qh.N.bind,Qh.N.lift,M.bind,M.pure,cX,o5,o6,o7,G7,G8,G9,Ha,Hb,gP,ni,nj,nk,nq,Qh.N.pure,zL]
theorem z6(hf:∀t∈ts,∀σ,∃τ,f t.af σ=.ok (some (g t)) (σ++τ)):
  ∀(rest done:List Tm)(σ:H),ts=done++rest->σ[l]?=some (.ah (ts.map Tm.af))->∃τ,di (.live l) f (rest.length+1) done.length σ=.ok (rest.map g) (σ++τ):=by
 intro rest
 induction rest with
|nil=>
  intro done σ hd hl;refine⟨[],?_⟩;rw[kE (ae:=σ)]
  ·simp
  ·simp[sF,jU,M.bind,bH,cP,hl,M.pure,hd]
|cons t rest ih=>
  intro done σ hd hl;obtain⟨τ,h1⟩:=hf t (by rw[hd];simp) σ;obtain⟨fQ,h2⟩:=ih (done++[t]) (σ++τ) (by rw[hd];simp) (by rw[List.getElem?_append_left (List.getElem?_eq_some_iff.mp hl).1];exact hl);refine⟨τ++fQ,?_⟩;rw[List.length_append,List.length_singleton] at h2;have:=gL (y:=some (g t)) (s:=.live l) (k:=done.length) (σ:=σ) (ae:=σ) (v:=t.af) (by simp[sF,jU,M.bind,bH,cP,hl,M.pure,hd]) h1 h2;rw[List.length_cons,this];simp
theorem oW{α:Type}(g:α->Int):∀l:List α,intsOf (l.map λa=>V.int (g a))=some (l.map g)
|[]=>rfl
|a::l=>by simp[He,Hf,oW g l]
theorem z7(t:Tm):(t.size:Int)=1+((t.parts.map λp=>(p.size:Int)).sum):=by cases t<;>simp[Pz,PA,PC,PE,PF,PG,PH,PI,PJ,Eh,Ei,Ej,Ek,El,Em,En,Eo,Ep]
theorem pK(x y:Nat):(if(y:Int)>x then(y:Int) else x)=((max x y:Nat):Int):=by
 rcases Nat.lt_or_ge x y with h|h
 ·exact(if_pos (Int.ofNat_lt.mpr h)).trans (congrArg Int.ofNat (Nat.max_eq_right (Nat.le_of_lt h)).symm)
 ·exact(if_neg (Int.not_lt.mpr (Int.ofNat_le.mpr h))).trans (congrArg Int.ofNat (Nat.max_eq_left h).symm)
theorem dL:x+1<=1+max x y:=bP (Nat.le_of_eq (Nat.add_comm x 1)) (Nat.add_le_add_left (eG x y) 1)
theorem dR(h:z+1<=1+y):z+1<=1+max x y:=bP h (Nat.add_le_add_left (eN x y) 1)
theorem uT{Q:Tm->Prop}:∀p∈([]:List Tm),Q p:=λ_ m=>nomatch m
theorem qe{Q:Tm->Prop}{a:Tm}(h:Q a)(g:∀p∈l,Q p):∀p∈a::l,Q p:=λp m=>(List.mem_cons.mp m).elim (λe=>e▸h) (g p)
theorem dS:x+1<=1+x:=Nat.le_of_eq (Nat.add_comm _ _)
theorem zK(t:Tm):(t.depth:Int)=1+pO (t.parts.map λp=>(p.depth:Int)):=by
 cases t with
|aj _ a b=>exact congrArg (1+·) (pK a.depth b.depth).symm
|aX _ a b=>exact congrArg (1+·) (pK a.depth b.depth).symm
|bb _ _ a b=>exact congrArg (1+·) (pK a.depth b.depth).symm
|def_ _ _ _ a b=>exact congrArg (1+·) (pK a.depth b.depth).symm
|when a b c=>
  exact congrArg (1+·) (show((max a.depth (max b.depth c.depth):Nat):Int)=(if(c.depth:Int)>(if(b.depth:Int)>a.depth then(b.depth:Int) else a.depth) then(c.depth:Int) else(if(b.depth:Int)>a.depth then(b.depth:Int) else a.depth)) from(pK a.depth b.depth).symm▸(congrArg Int.ofNat (Nat.max_assoc _ _ _).symm).trans (pK _ _).symm)
|_=>rfl
theorem vw(t:Tm):∀p∈t.parts,p.depth+1<=t.depth:=by
 cases t with
|num|name=>exact uT
|un _ a|use _ a=>exact qe dS uT
|aj|aX|bb|def_=>exact qe dL (qe (dR dS) uT)
|when=>exact qe dL (qe (dR dL) (qe (dR (dR dS)) uT))
theorem sI(t:Tm):t.parts.length<=3:=by cases t<;>simp[Eh,Ei,Ej,Ek,El,Em,En,Eo,Ep]
theorem vP(t:Tm):1<=t.depth:=by cases t<;>simp[PK,PM,rK,PN,PO,PQ,PR,PW,PZ]
theorem vQ(h0:P.fns 0=some qr)(h1:P.fns 1=some qA):∀(n:Nat)(t:Tm)(σ:H),t.depth<=n->∃τ,aq P sc (n+1) 1 [t.af] σ=.ok (.int t.size) (σ++τ)
|0=>λt σ h=>absurd h (by have:=vP t;exact Nat.not_le.mpr (lN 0x301860049049205321 [_] rfl this))
|n+1=>λt σ h=>by
  rw[cf h1 rfl];show ∃τ,bS (a6 (cx P sc (n+1)) qA.body [some t.af,none] σ)=.ok (V.int t.size) (σ++τ);have hl:(σ++[O.ah (t.parts.map Tm.af)])[σ.length]?=some (.ah (t.parts.map Tm.af)):=by simp
  obtain⟨τ,hc⟩:=z6 (g:=λt=>.int t.size) (f:=λit=>M.bind (ao (cx P sc (n+1)) (.call 1 {.aa 1}) (bV (cK [some t.af,none] []) 1 it)) λy=>M.pure (some y)) (l:=σ.length) (ts:=t.parts) (λp hp s=>by
   obtain⟨τ,jQ⟩:=vQ h0 h1 n p s (by have:=vw t p hp;exact lN 0xd30124124124814184d38538184c [_,_,_] rfl h this);refine⟨τ,?_⟩;rw[aW (aJ (by rfl) jQ)]
   rfl) t.parts [] _ rfl hl
  have ou:srcOf (.ref σ.length) (σ++[O.ah (t.parts.map Tm.af)])=.ok (.live σ.length) (σ++[O.ah (t.parts.map Tm.af)]):=by simp[oX,Ai,M.bind,bH,cP,M.pure]
  have hlen:eU (.live σ.length) (σ++[O.ah (t.parts.map Tm.af)])=.ok t.parts.length (σ++[O.ah (t.parts.map Tm.af)]):=by simp[zM,oV,M.bind,bH,cP,M.pure]
  have hle:t.parts.length<=aM:=bP (sI t) (by decide);have ie:=kI (aJ (aN (i:=0) (L:=[some t.af,none]) rfl aU) (z5 h0 t n σ)) ou hlen hle hc;generalize hs2:σ++[O.ah (t.parts.map Tm.af)]++τ=ak at ie;have hsum:mY (.ref ak.length) (ak++[.ah (t.parts.map λt=>.int t.size)])=.ok (.int (t.parts.map λp=>(p.size:Int)).sum) (ak++[.ah (t.parts.map λt=>.int t.size)]):=by
   simp[mY,M.bind,bH,cP,M.pure,oW,cX]
  refine⟨[O.ah (t.parts.map Tm.af)]++τ++[.ah (t.parts.map λt=>.int t.size)],?_⟩;unfold qA;rw[bf (v:=.int t.size) (ae:=ak++[.ah (t.parts.map λt=>.int t.size)]) (bJ rfl (xB ie hsum) ?_)]
  ·simp[ni,nj,nk,nq,←hs2]
  ·simp only[nr,nu,jl,nv,nw,nx,ny,nz,nA,z7 t];rfl
theorem vA(h0:P.fns 0=some qr)(h1:P.fns 2=some qt):∀(n:Nat)(t:Tm)(σ:H),t.depth<=n->∃τ,aq P sc (n+1) 2 [t.af] σ=.ok (.int t.depth) (σ++τ)
|0=>λt σ h=>absurd h (by have:=vP t;exact Nat.not_le.mpr (lN 0x301860049049205321 [_] rfl this))
|n+1=>λt σ h=>by
  rw[cf h1 rfl];show ∃τ,bS (a6 (cx P sc (n+1)) qt.body [some t.af,none] σ)=.ok (V.int t.depth) (σ++τ);have hl:(σ++[O.ah (t.parts.map Tm.af)])[σ.length]?=some (.ah (t.parts.map Tm.af)):=by simp
  obtain⟨τ,hc⟩:=z6 (g:=λt=>.int t.depth) (f:=λit=>M.bind (ao (cx P sc (n+1)) (.call 2 {.aa 1}) (bV (cK [some t.af,none] []) 1 it)) λy=>M.pure (some y)) (l:=σ.length) (ts:=t.parts) (λp hp s=>by
   obtain⟨τ,jQ⟩:=vA h0 h1 n p s (by have:=vw t p hp;exact lN 0xd30124124124814184d38538184c [_,_,_] rfl h this);refine⟨τ,?_⟩;rw[aW (aJ (by rfl) jQ)]
   rfl) t.parts [] _ rfl hl
  have ou:srcOf (.ref σ.length) (σ++[O.ah (t.parts.map Tm.af)])=.ok (.live σ.length) (σ++[O.ah (t.parts.map Tm.af)]):=by simp[oX,Ai,M.bind,bH,cP,M.pure]
  have hlen:eU (.live σ.length) (σ++[O.ah (t.parts.map Tm.af)])=.ok t.parts.length (σ++[O.ah (t.parts.map Tm.af)]):=by simp[zM,oV,M.bind,bH,cP,M.pure]
  have hle:t.parts.length<=aM:=bP (sI t) (by decide);have ie:=kI (aJ (aN (i:=0) (L:=[some t.af,none]) rfl aU) (z5 h0 t n σ)) ou hlen hle hc;generalize hs2:σ++[O.ah (t.parts.map Tm.af)]++τ=ak at ie;have hsum:n6 (.ref ak.length) (ak++[.ah (t.parts.map λt=>.int t.depth)])=.ok (.int (pO (t.parts.map λp=>(p.depth:Int)))) (ak++[.ah (t.parts.map λt=>.int t.depth)]):=by
   simp[n6,M.bind,bH,cP,M.pure,oW,cX]
  refine⟨[O.ah (t.parts.map Tm.af)]++τ++[.ah (t.parts.map λt=>.int t.depth)],?_⟩;unfold qt;rw[bf (v:=.int t.depth) (ae:=ak++[.ah (t.parts.map λt=>.int t.depth)]) (bJ rfl (Co ie hsum) ?_)]
  ·simp[ni,nj,nk,nq,←hs2]
  ·simp only[nr,nu,jl,nv,nw,nx,ny,nz,nA,zK t];rfl
end
theorem G3{x:Str}(h:j6 x):V.cQ (.str x)=true:=by show x.cps.all (· < 0x110000)=true;rw[Array.all_eq_true];intro i hi;have:=h.1 x.cps[i] (by simp);simp;exact lN 0x700740790184c049049205e8784c [_] rfl this.2
section
variable{P:Prog}{sc:List Int}
theorem add_lists{σ:H}{i j:Nat}{a b:List V}(hi:σ[i]?=some (.ah a))(hj:σ[j]?=some (.ah b))(hl:a.length+b.length<=aM):binop .Add (.ref i) (.ref j) σ=.ok (.ref σ.length) (σ++[.ah (a++b)]):=by simp[nr,nu,jl,nv,nw,nx,ny,nz,nA,M.bind,bH,cP,hi,hj,M.pure,hl,cY]
theorem old{σ τ:H}{i:Nat}{o:O}(h:σ[i]?=some o):(σ++τ)[i]?=some o:=by rw[List.getElem?_append_left (List.getElem?_eq_some_iff.mp h).1];exact h
end
end Qh
set_option tactic.hygienic true
namespace Qh
open PySem
section
variable{C:Ctx}{L:aR}{σ ae ak bX oL:H}{a b c:E}{x y z r:V}
theorem wZ(h1:ao C a L σ=.ok x ae)(h2:mK x ae=.ok r ak):ao C (.dict a) L σ=.ok r ak:=by rw[IQ,aW h1,h2]
theorem jo(h1:ao C c L σ=.ok z ae)(h2:ao C a L ae=.ok x ak)(h3:ao C b L ak=.ok y bX)(h4:iu x y z bX=.ok () oL):cG C (.eX a b c) L σ=.ok .next L oL:=by simp only[j2,Qh.N.bind,Qh.N.lift,h1,h2,h3,h4,Qh.N.pure]
theorem HB(h1:ao C a L σ=.ok x ae)(h2:bH x ae=.ok vs ae)(h3:ao C b L ae=.ok y ak)(h4:qM x y ak=.ok () bX):cG C (.append a b) L σ=.ok .next L bX:=by simp only[kK,Qh.N.bind,Qh.N.lift,h1,h2,h3,h4,Qh.N.pure]
theorem iU(h1:ao C a L σ=.ok x ae):cG C (.expr a) L σ=.ok .next L ae:=by simp only[J9,Qh.N.bind,Qh.N.lift,h1,Qh.N.pure]
theorem xD(h1:ao C a L σ=.ok x ae)(h2:ao C b L ae=.ok y ak)(h3:index C x y ak=.ok (.bool t) bX):bR C (.au a b) L σ=.ok t bX:=by rw[sN,aW (by rw[aW h1,aW h2,h3])];rfl
theorem my(h:σ[i]?=some o):cP i σ=.ok o σ:=by simp only[cP,h]
theorem dY(h:σ[i]?=some (.ah vs)):bH (.ref i) σ=.ok vs σ:=by show M.bind (cP i) _ σ=_;rw[aW (my h)];rfl
theorem append_at(h:σ[i]?=some (.ah vs))(hl:vs.length<=aM):qM (.ref i) y σ=.ok () (σ.set i (.ah (vs++[y]))):=by show M.bind (bH (.ref i)) _ σ=_;rw[aW (dY h),if_pos hl];rfl
theorem mz(h:σ[i]?=some (.ah vs))(h0:0<=k/\k<vs.length/\vs.length<=aM):iu (.ref i) (.int k) y σ=.ok () (σ.set i (.ah (vs.set k.toNat y))):=by rw[zr,aW (dY h),if_pos h0];rfl
theorem wo(h:σ[i]?=some (.ay es))(h0:es.length<=aM):iu (.ref i) (.str k) y σ=.ok () (σ.set i (.ay (bc es k y))):=by rw[GP,aW (my h)];show(if es.length<=aM then iD i (.ay (bc es k y)) else M.fail) σ=_;rw[if_pos h0];rfl
theorem wq(h:σ[i]?=some (.ay es))(h0:es.length<=aM):mK (.ref i) σ=.ok (.ref σ.length) (σ++[.ay es]):=by show M.bind (cP i) _ σ=_;rw[aW (my h)];show(if es.length<=aM then cY (.ay es) else M.fail) σ=_;rw[if_pos h0];rfl
theorem in_dict(h:σ[i]?=some (.ay es)):iq (.str k) (.ref i) σ=.ok (cS es k).isSome σ:=by rw[Br,aW (my h)];rfl
def mem(x:Str)(l:List Str):Bool:=l.any (·==x)
theorem JE(h:iq x y σ=.ok t ae):dJ .NotIn x y σ=.ok (!t) ae:=by rw[vH,aW h];rfl
theorem tn:(σ++[o]).set σ.length o'=σ++[o']:=by simp
theorem bC:(σ++[o])[σ.length]?=some o:=by rw[List.getElem?_append_right (aQ _),Nat.sub_self];rfl
theorem MT(h1:bR C a L σ=.ok t1 σ)(h2:bR C b L σ=.ok t2 σ):bR C (.and {a,b}) L σ=.ok (t1&&t2) σ:=by
 refine mV (all_cons h1 (λe=>?_) (λe=>?_))
 ·rw[e,Bool.true_and];exact all_cons h2 (λe=>by rw[e];exact all_nil) (λe=>⟨e,rfl⟩)
 ·rw[e];exact⟨rfl,rfl⟩
theorem wt(h:i<σ.length):(σ++τ).set i o=σ.set i o++τ:=by rw[List.set_append,if_pos h]
theorem xF(h:σ[i]?=some o)(hn:j≠i):(σ.set j o')[i]?=some o:=by rw[List.getElem?_set_ne hn];exact h
theorem gi(h:σ[i]?=some o):(σ.set i o')[i]?=some o':=by simp[(List.getElem?_eq_some_iff.mp h).1]
theorem og(h:σ[i]?=some o):i<σ.length:=(List.getElem?_eq_some_iff.mp h).1
end
section
theorem sW(h1:ao C e L σ=.ok (.int n) ae)(hn:0<=n/\n<=1000000)(h2:eB (λk=>M.pure ((dG n)[k]?.map λv=>[(i,v)])) (a6 C b) (n.toNat+1) 0 L ae=.ok f L1 ak):cG C (.eM i e b) L σ=.ok f L1 ak:=by simp only[j1,Qh.N.bind,Qh.N.lift,h1,sE,M.pure];rw[if_pos hn];exact h2
theorem w3(h:σ[l]?=some (.ah vs))(hl:vs.length<=aM):lenOf C (.ref l) σ=.ok (.int vs.length) σ:=by rw[vI,aW (dY h),if_pos hl];rfl
end
def Tm.pre:Tm->List Str->List (Str×Bool)
|.name x,hs=>[(x,mem x hs)]
|.use f a,hs=>[(f,mem f hs)]
|_,_=>[]
section
variable{P:Prog}{sc:List Int}
theorem fp(Rh:P.fns 18=some lW)(hb:σ[b]?=some (.ay es))(hl:es.length<=aM):
  aq P sc (n+1) 18 [.ref b,.str x,v] σ=.ok (.ref σ.length) (σ++[.ay (bc es x v)]):=by
 rw[cf Rh rfl];unfold lW;rw[a4 (wZ (aD rfl) (wq hb hl))];rw[dt (jo (aD rfl) (aD rfl) (aD rfl) (wo bC hl)),tn];rw[bf (aD rfl)]
 rfl
theorem gM(es:List (Str×V))(x:Str)(v:V):(bc es x v).length<=es.length+1:=by unfold bc;split<;>simp
end
end Qh
set_option tactic.hygienic false
set_option tactic.hygienic true
namespace Qh
open PySem
inductive Kd where|aA|aV
inductive Lv where|z|o
def Kd.s:Kd->Str
|.aA=>"number"|.aV=>"piece"
def Lv.i:Lv->Int
|.z=>0|.o=>1
inductive Mn where|val (k:Kd)|fn (a r:Kd)
def Mn.ks:Mn->V
|.val k=>.aB [.str k.s]|.fn a r=>.aB [.str a.s,.str r.s]
def Mn.mv(l:Lv):Mn->V
|.val k=>.aB [.int l.i,.str k.s]|.fn a r=>.aB [.int l.i,.str a.s,.str r.s]
structure Ent where
 x:Str
 l:Lv
 m:Mn
def Ent.v(e:Ent):V:=.aB [.str e.x,.int e.l.i,e.m.ks]
noncomputable abbrev Sc:=List Ent
def look(Γ:Sc)(x:Str):Option Ent:=Γ.reverse.find? λe=>e.x==x
theorem fS(Γ:Sc)(e:Ent)(x:Str):look (Γ++[e]) x=if e.x==x then some e else look Γ x:=by unfold look;rw[List.reverse_append,List.reverse_singleton,List.singleton_append,List.find?_cons];cases e.x==x<;>rfl
class inductive HK:Sc->Lv->Bool->Tm->Kd->Prop
|num {Γ l f i}:HK Γ l f (.num i) .aA
|name {Γ l f x k}:look Γ x=some ⟨x,l,.val k⟩->HK Γ l f (.name x) k
|when {Γ l f a b c k}:HK Γ l f a .aA->HK Γ l f b k->HK Γ l f c k->HK Γ l f (.when a b c) k
|use {Γ l f g a ka k}:look Γ g=some ⟨g,l,.fn ka k⟩->HK Γ l f a ka->HK Γ l f (.use g a) k
|aX {Γ l f x a b k k'}:HK Γ l f a k->HK (Γ++[⟨x,l,.val k⟩]) l f b k'->HK Γ l f (.aX x a b) k'
|bb {Γ l f n x a b k}:(0<=n/\n<=9)->HK Γ l f a k->HK (Γ++[⟨x,l,.val k⟩]) l f b k->HK Γ l f (.bb n x a b) k
|def_ {Γ l f g x a b ka k k'}:(l=.o->ka=.aA)->HK (Γ++[⟨x,l,.val ka⟩]) l false a k->HK (Γ++[⟨g,l,.fn ka k⟩]) l f b k'->HK Γ l f (.def_ g x ka.s a b) k'
|bE {Γ f a}:HK Γ .o false a .aA->HK Γ .z f (.un .bE a) .aV
|hole {Γ f a}:HK Γ .z false a .aV->HK Γ .o f (.un .hole a) .aA
|lift {Γ f a}:HK Γ .z f a .aA->HK Γ .z f (.un .lift a) .aV
|run {Γ a}:HK Γ .z true a .aV->HK Γ .z true (.un .run a) .aA
|aj {Γ l f w a b}:HK Γ l f a .aA->HK Γ l f b .aA->HK Γ l f (.aj w a b) .aA
section
variable(G:Nat->Sc->Lv->Bool->Tm->Kd->Prop)
def MU:Prop:=∀{d Γ l f x k},look Γ x=some ⟨x,l,.val k⟩->G d Γ l f (.name x) k
def Lh:Prop:=∀{d Γ f x},look Γ x=some ⟨x,.z,.val .aV⟩->G d Γ .o f (.un .hole (.name x)) .aA
def JF:Prop:=∀{d Γ f x},look Γ x=some ⟨x,.o,.val .aA⟩->G d Γ .z f (.un .bE (.name x)) .aV
def MV:Prop:=∀{d Γ l f a b c k},G d Γ l f a .aA->G d Γ l f b k->G d Γ l f c k->G (d+1) Γ l f (.when a b c) k
def OB:Prop:=∀{d Γ l f g a ka k},look Γ g=some ⟨g,l,.fn ka k⟩->G d Γ l f a ka->G (d+1) Γ l f (.use g a) k
def MW:Prop:=∀{d Γ l f x a b k k'},G d Γ l f a k->G d (Γ++[⟨x,l,.val k⟩]) l f b k'->G (d+1) Γ l f (.aX x a b) k'
def Li:Prop:=∀{d Γ l f n x a b k},(0<=n/\n<=9)->G d Γ l f a k->G d (Γ++[⟨x,l,.val k⟩]) l f b k->G (d+1) Γ l f (.bb n x a b) k
def MX:Prop:=∀{d Γ l f g x a b ka k k'},(l=.o->ka=.aA/\k=.aA)->G d (Γ++[⟨x,l,.val ka⟩]) l false a k->G d (Γ++[⟨g,l,.fn ka k⟩]) l f b k'->G (d+1) Γ l f (.def_ g x ka.s a b) k'
def Lj:Prop:=∀{d Γ f a},G d Γ .o false a .aA->G (d+1) Γ .z f (.un .bE a) .aV
def MY:Prop:=∀{d Γ f a},G d Γ .z false a .aV->G (d+1) Γ .o f (.un .hole a) .aA
def MZ:Prop:=∀{d Γ f a},G d Γ .z f a .aA->G (d+1) Γ .z f (.un .lift a) .aV
def OC:Prop:=∀{d Γ a},G d Γ .z true a .aV->G (d+1) Γ .z true (.un .run a) .aA
def OD:Prop:=∀{d Γ l f w a b},G d Γ l f a .aA->G d Γ l f b .aA->G (d+1) Γ l f (.aj w a b) .aA
def M0:Prop:=∀{d Γ f x g a b},G (d-1) Γ .o false a .aA->G (d-1) (Γ++[⟨x,.o,.val .aA⟩]++[⟨g,.z,.val .aV⟩]) .o false b .aA->G (d+1) Γ .o f (.aX x a (.un .hole (.aX g (.un .bE (.name x)) (.un .bE b)))) .aA
def Lk:Prop:=∀{d Γ f x g a y i b c},G (d-1) Γ .o false a .aA->G 0 (Γ++[⟨x,.o,.val .aA⟩]++[⟨g,.z,.val .aV⟩]++[⟨y,.o,.val .aA⟩]) .o false b .aA->G (d-2) (Γ++[⟨x,.o,.val .aA⟩]++[⟨g,.z,.val .aV⟩]++[⟨y,.o,.val .aA⟩]) .o false c .aA->G (d+1) Γ .o f (.aX x a (.un .hole (.aX g (.un .bE (.name x)) (.un .bE (.aX y (.num i) (.aj .sum b c)))))) .aA
end
structure Gr(G:Nat->Sc->Lv->Bool->Tm->Kd->Prop):Prop where
 num:∀{d Γ l f i},G d Γ l f (.num i) .aA
 name:MU G
 jb:Lh G
 jw:JF G
 jx:∀{d Γ f i},G d Γ .z f (.un .bE (.num i)) .aV
 jF:∀{d Γ f i},G d Γ .z f (.un .lift (.num i)) .aV
 when:MV G
 use:OB G
 aX:MW G
 bb:Li G
 def_:MX G
 bE:Lj G
 hole:MY G
 lift:MZ G
 run:OC G
 aj:OD G
 kept:M0 G
 twice:Lk G
section
variable{P:Prog}{sc:List Int}
structure Kinds(P:Prog):Prop where
 eS:P.fns 18=some lW
 Fe:P.fns 43=some zw
 Ff:P.fns 44=some vi
 Fg:P.fns 45=some zG
 Fh:P.fns 46=some vO
 uU:P.fns 47=some zq
 qg:P.fns 48=some zx
 Fi:P.fns 49=some AE
 c0:P.consts 0=some (.str "number")
 c1:P.consts 1=some (.str "piece")
variable(B:Kinds P)
include B
def mW(es:List (Str×V))(Γ:Sc):Prop:=∀x,cS es x=(look Γ x).map λe=>e.m.mv e.l
omit B in
theorem ml(es:List (Str×V))(x y:Str)(v:V):cS (bc es x v) y=if x==y then some v else cS es y:=by
 unfold bc cS
 split
 ·rename_i hx
  induction es with
  |nil=>exact ff hx
  |cons e es ih=>
   rw[List.map_cons,List.find?_cons,List.find?_cons]
   by_cases h1:e.1=x
   ·clear hx;subst h1;refine(if_pos rfl)▸?_
    by_cases h2:e.1=y
    ·simp[h2]
    ·simp only[h2,decide_false,beq_eq_false_iff_ne.mpr h2,Bool.false_eq_true,if_false]
     by_cases h3:es.any (λe'=>decide (e'.1=e.1))=true
     ·have:=ih h3
      simpa[h2] using this
     ·have:es.map (λe'=>if e'.1=e.1 then(e'.1,v) else e')=es:=by
       rw[List.map_congr_left (g:=id)]
       ·simp
       ·intro a ha;have:¬ a.1=e.1:=λq=>h3 (List.any_eq_true.mpr ⟨a,ha,decide_eq_true q⟩);simp[this]
      refine this.symm▸?_;with_reducible rfl
   ·have hx':es.any (λe'=>decide (e'.1=x))=true:=by simpa[h1] using hx
    refine(if_neg h1)▸?_
    by_cases h2:e.1=y
    ·have h3:¬ x=y:=λq=>h1 (h2.trans q.symm);simp[h2,h3]
    ·simp only[h2,decide_false,Bool.false_eq_true];exact ih hx'
 ·rename_i hx
  rw[List.find?_append];have hn:∀e∈es,¬ e.1=x:=λe he q=>hx (List.any_eq_true.mpr ⟨e,he,decide_eq_true q⟩)
  by_cases h:x=y
  ·clear hx;subst h;have:es.find? (λe=>decide (e.1=x))=none:=List.find?_eq_none.mpr λe he=>by simp[hn e he]
   simp[this]
  ·simp[h]
omit B in
theorem mW.add{es:List (Str×V)}{Γ:Sc}(h:mW es Γ)(e:Ent):mW (bc es e.x (e.m.mv e.l)) (Γ++[e]):=λy=>by
 rw[ml,fS]
 split
 ·rfl
 ·exact h y
end
end Qh
set_option tactic.hygienic false
namespace Qh
open PySem
section
variable{P:Prog}{sc:List Int}(B:Kinds P)
include B
theorem e_num{n:Nat}{L:aR}{σ:H}:ao (cx P sc n) (.glob 0) L σ=.ok (.str Kd.aA.s) σ:=by rw[nQ];show cX (P.consts 0) σ=_;rw[B.c0];rfl
theorem qR{n:Nat}{L:aR}{σ:H}:ao (cx P sc n) (.glob 1) L σ=.ok (.str Kd.aV.s) σ:=by rw[nQ];show cX (P.consts 1) σ=_;rw[B.c1];rfl
omit B in
theorem hZ{C:Ctx}{σ:H}{d:Nat}{es:List (Str×V)}{x:Str}{v:V}(h:σ[d]?=some (.ay es))(hv:cS es x=some v):index C (.ref d) (.str x) σ=.ok v σ:=by rw[sD,aW (my h)];show cX (cS es x) σ=_;rw[hv];rfl
omit B in
theorem ne_str{C:Ctx}{L:aR}{σ ae:H}{a b:E}{k:Str}(h1:ao C a L σ=.ok (.str k) ae)(h2:ao C b L ae=.ok (.str k) ae):bR C (.cmp .NotEq a b) L σ=.ok false ae:=by
 refine dZ h1 h2 ?_;rw[nh,aW (a:=true)]
 ·rfl
 ·rw[IU];show Res.ok (k==k) ae=_;rw[beq_self_eq_true]
omit B in
theorem ne_int{C:Ctx}{L:aR}{σ ae ak:H}{a b:E}{k:Int}(h1:ao C a L σ=.ok (.int k) ae)(h2:ao C b L ae=.ok (.int k) ak):bR C (.cmp .NotEq a b) L σ=.ok false ak:=by
 refine dZ h1 h2 ?_;rw[nh,aW (a:=true)]
 ·rfl
 ·rw[AW];show Res.ok (k==k) ak=_;rw[beq_self_eq_true]
theorem zA{n d:Nat}{es:List (Str×V)}{Γ:Sc}{x:Str}{l:Lv}{m:Mn}{σ:H}(hd:σ[d]?=some (.ay es))(hm:mW es Γ)(hl:look Γ x=some ⟨x,l,m⟩):
  aq P sc (n+1) 43 [.str x,.int l.i,.ref d] σ=.ok (m.mv l) σ:=by
 have hg:cS es x=some (m.mv l):=by rw[hm,hl];rfl
 rw[cf B.Fe rfl];have hi:∀C:Ctx,ao C (.au (.aa 2) (.aa 0)) [some (.str x),some (.int l.i),some (.ref d)] σ=.ok (m.mv l) σ:=λC=>b9 (aD rfl) (aD rfl) (hZ hd hg);refine(congrArg bS ((bY (dZ (aD rfl) (aD rfl) ((JE (in_dict hd)).trans (by rw[hg];rfl)))).trans ((bY (ne_int (b9 (hi _) rfl ?_) (aD rfl))).trans (bf (hi _))))).trans rfl;(clear hi hg hl;cases m)<;>rfl
def yR(P:Prog)(sc:List Int)(n:Nat)(Γ:Sc)(l:Lv)(f:Bool)(t:Tm)(k:Kd):Prop:=∀(d:Nat)(es:List (Str×V))(σ:H),σ[d]?=some (.ay es)->mW es Γ->es.length+t.depth<=aM->
 ∃τ,aq P sc n 46 [t.af,.int l.i,.ref d,.bool f] σ=.ok (.str k.s) (σ++τ)
theorem jW{n d:Nat}{Γ:Sc}{l:Lv}{f:Bool}{t:Tm}{k:Kd}(h:yR P sc n Γ l f t k){es:List (Str×V)}{σ:H}(hd:σ[d]?=some (.ay es))(hm:mW es Γ)(hz:es.length+t.depth<=aM):
  ∃τ,aq P sc (n+1) 45 [.str k.s,t.af,.int l.i,.ref d,.bool f] σ=.ok .none (σ++τ):=by refine bZ (h d es σ hd hm hz) λτ e=>?_;refine⟨τ,?_⟩;rw[cf B.Fg rfl];exact(congrArg bS ((bY (ne_str (aJ rfl e) (aD rfl))).trans fq)).trans rfl
def Es:SL:=match vO.body with
|.cons _ (.cons _ r)=>r
|_=>.nil
theorem ph{n d:Nat}{t:Tm}{w:Str}{l:Lv}{f:Bool}{σ:H}(hw:∀C L,ao C (.au (.aa 0) (.int 0)) (some t.af::L) σ=.ok (.str w) σ)(hn:aq P sc n 44 [.str w,.int l.i,.bool f] σ=.ok .none σ){L':aR}{v:V}{ag:H}(h:a6 (cx P sc n) Es [some t.af,some (.int l.i),some (.ref d),some (.bool f),some (.str w),none,none] σ=.ok (.ret v) L' ag):aq P sc (n+1) 46 [t.af,.int l.i,.ref d,.bool f] σ=.ok v ag:=by rw[cf B.Fh rfl];exact(congrArg bS ((a4 (hw _ _)).trans ((dt (iU (aJ rfl hn))).trans h))).trans rfl
theorem wu{n d:Nat}{Γ:Sc}{l l':Lv}{f:Bool}{t:Tm}{k:Kd}{m:Mn}{x:Str}(h:yR P sc (n+1) (Γ++[⟨x,l,m⟩]) l' f t k){es:List (Str×V)}{σ:H}(hd:σ[d]?=some (.ay es))(hm:mW es Γ)(hz:es.length+1+t.depth<=aM):
  aq P sc (n+1) 18 [.ref d,.str x,m.mv l] σ=.ok (.ref σ.length) (σ++[.ay (bc es x (m.mv l))])/\∃τ,aq P sc (n+1) 46 [t.af,.int l'.i,.ref σ.length,.bool f] (σ++[.ay (bc es x (m.mv l))])=.ok (.str k.s) (σ++[.ay (bc es x (m.mv l))]++τ):=by refine⟨fp B.eS hd (lN 0x34c04904920534138184c [_,_,_] rfl hz),h _ _ _ bC (hm.add ⟨x,l,m⟩) ?_⟩;have:=gM es x (m.mv l);exact lN 0xe04d30124124124814e04d0613c50613cc [_,_,_,_] rfl hz this
end
section
variable{P:Prog}{sc:List Int}(B:Kinds P)
include B
omit B in
theorem je(m:Nat)(h:m+3<=n):∃k,n=k+3/\m<=k:=⟨n-3,by exact cj (lN 0x18c28cc308049201241248 [_] rfl) (lN 0x3018c28cc2012480490090492053018cd [_,_] rfl h),by(exact Nat.le_sub_of_add_le ‹_›)⟩
theorem ji{n:Nat}{w:Str}{l:Lv}(h:bS (a6 (cx P sc n) vi.body [some (.str w),some (.int l.i),some (.bool f)] σ)=.ok .none σ):aq P sc (n+1) 44 [.str w,.int l.i,.bool f] σ=.ok .none σ:=by rw[cf B.Ff rfl];exact h
theorem wa{n d:Nat}{t:Tm}{w:Str}{l:Lv}(hw:∀C L,ao C (.au (.aa 0) (.int 0)) (some t.af::L) σ=.ok (.str w) σ)(hn:aq P sc n 44 [.str w,.int l.i,.bool f] σ=.ok .none σ)(hs:w="let"∨w="turns"∨w="def")(h:aq P sc n 47 [t.af,.int l.i,.ref d,.bool f] σ=.ok v ag):aq P sc (n+1) 46 [t.af,.int l.i,.ref d,.bool f] σ=.ok v ag:=by
 refine ph B hw hn (L':=[some t.af,some (.int l.i),some (.ref d),some (.bool f),some (.str w),none,none]) ?_;have hr:a6 (cx P sc n) {.ret (.call 47 {.aa 0,.aa 1,.aa 2,.aa 3})} [some t.af,some (.int l.i),some (.ref d),some (.bool f),some (.str w),none,none] σ=.ok (.ret v) [some t.af,some (.int l.i),some (.ref d),some (.bool f),some (.str w),none,none] ag:=
  bf (aJ rfl h)
 rcases hs with rfl|rfl|rfl<;>
  exact jmp 4 (by rfl') (bT (by rfl') hr)
theorem qC{n d:Nat}{t:Tm}{w:Str}{l:Lv}(hw:∀C L,ao C (.au (.aa 0) (.int 0)) (some t.af::L) σ=.ok (.str w) σ)(hn:aq P sc n 44 [.str w,.int l.i,.bool f] σ=.ok .none σ)(hs:(∃u:U1,w=u.str)∨(∃u:U2,w=u.str))(h:aq P sc n 48 [t.af,.int l.i,.ref d,.bool f] σ=.ok v ag):aq P sc (n+1) 46 [t.af,.int l.i,.ref d,.bool f] σ=.ok v ag:=by
 refine ph B hw hn (L':=[some t.af,some (.int l.i),some (.ref d),some (.bool f),some (.str w),none,none]) ?_;have hr:a6 (cx P sc n) {.ret (.call 48 {.aa 0,.aa 1,.aa 2,.aa 3})} [some t.af,some (.int l.i),some (.ref d),some (.bool f),some (.str w),none,none] σ=.ok (.ret v) [some t.af,some (.int l.i),some (.ref d),some (.bool f),some (.str w),none,none] ag:=
  bf (aJ rfl h)
 have go:a6 (cx P sc n) Es [some t.af,some (.int l.i),some (.ref d),some (.bool f),some (.str w),none,none] σ=a6 (cx P sc n) {.ret (.call 48 {.aa 0,.aa 1,.aa 2,.aa 3})} [some t.af,some (.int l.i),some (.ref d),some (.bool f),some (.str w),none,none] σ:=by
  rcases hs with ⟨u,rfl⟩|⟨u,rfl⟩<;>(clear hr hn hw;cases u)<;>
   exact jmp 4 (by rfl') (bY (by rfl'))
 exact go.trans hr
theorem Io{Γ:Sc}{l:Lv}{f:Bool}(h:HK Γ l f t k):∀n,3*t.depth+3<=n->yR P sc n Γ l f t k:=by
 induction h with
|@num Γ l f i=>
  intro n hn d es σ hd hm hz;refine aO (je _ hn) λm bg _=>?_;clear hn;subst bg;refine⟨[],?_⟩;rw[List.append_nil];exact ph B (λ_ _=>rfl) (ji B (by cases l<;>cases f<;>rfl')) (bT (by rfl') (bf (e_num B)))
|@name Γ l f x k hl=>
  intro n hn d es σ hd hm hz;refine aO (je _ hn) λm bg _=>?_;clear hn;subst bg;refine⟨[],?_⟩;rw[List.append_nil];exact ph B (λ_ _=>rfl) (ji B (by(clear hl;cases l)<;>cases f<;>rfl')) (jmp 1 (by rfl') (bT (by rfl') ((a4 (aJ rfl (zA B hd hm hl))).trans ((bY (ne_int rfl rfl)).trans (bf rfl)))))
|@when Γ l f a b c k ha hb hc bh bU f9=>
  intro n hn d es σ hd hm hz;have jf:(Tm.when a b c).depth=1+max a.depth (max b.depth c.depth):=rfl;refine aO (je _ hn) λm bg hm'=>?_;clear hn;subst bg;obtain⟨bI,e1⟩:=jW B (bh (m+1) (lS mL ‹_›)) hd hm (zz mL ‹_›);refine bZ (bU (m+2) (Rg mM ‹_›) d es (σ++bI) (old hd) hm (zz mM ‹_›)) λcH e2=>?_;obtain⟨fw,e3⟩:=jW B (f9 (m+1) (lS mC ‹_›)) (old (old hd)) hm (zz mC ‹_›);refine⟨bI++(cH++fw),?_⟩;rw[←List.append_assoc,←List.append_assoc]
  exact ph B (λ_ _=>rfl) (ji B (by(clear e3 e2 e1 f9 bU bh hc hb ha;cases l)<;>cases f<;>rfl')) ((bY (by rfl')).trans ((bY (by rfl')).trans (bT (by rfl') ((dt (iU (aJ (aw (e_num B) rfl) e1))).trans
   ((a4 (aJ rfl e2)).trans
   ((dt (iU (aJ rfl e3))).trans (bf (aD rfl))))))))
|@use Γ l f g a ka k hl ha bh=>
  intro n hn d es σ hd hm hz;have jf:(Tm.use g a).depth=1+a.depth:=rfl;refine aO (je _ hn) λm bg hm'=>?_;clear hn;subst bg;obtain⟨bI,e1⟩:=jW B (bh (m+1) (lS (aQ _) ‹_›)) hd hm (zz (aQ _) ‹_›);refine⟨bI,?_⟩
  exact ph B (λ_ _=>rfl) (ji B (by(clear e1 bh ha hl;cases l)<;>cases f<;>rfl')) ((bY (by rfl')).trans ((bY (by rfl')).trans ((bY (by rfl')).trans (bT (by rfl') ((a4 (aJ rfl (zA B hd hm hl))).trans ((bY (ne_int rfl rfl)).trans
   ((dt (iU (aJ (aw rfl rfl) e1))).trans (bf rfl))))))))
|@aX Γ l f x a b k k' ha hb bh bU=>
  intro n hn d es σ hd hm hz;have jf:(Tm.aX x a b).depth=1+max a.depth b.depth:=rfl;have zz:=je _ hn;clear hn;obtain⟨m,rfl,hm'⟩:=zz;obtain⟨bI,e1⟩:=bh (m+1) (lS mL ‹_›) d es σ hd hm (zz mL ‹_›);obtain⟨w1,cH,e2⟩:=wu B (bU (m+1) (lS mR ‹_›)) (old hd) hm (z1 mR ‹_›);refine⟨bI++([.ay (bc es x ((Mn.val k).mv l))]++cH),wa B (λ_ _=>rfl) (ji B (by(clear e2 w1 e1 bU bh hb ha;cases l)<;>cases f<;>rfl')) (.inl rfl) ?_⟩;rw[←List.append_assoc,←List.append_assoc,cf B.uU rfl]
  exact(congrArg bS (bT (by rfl') ((a4 (aJ rfl e1)).trans
   (bf (aJ (aw rfl (aN rfl (aw (aJ (aN rfl (aw rfl (aw (bN rfl (nb rfl)) aU))) w1) rfl))) e2))))).trans rfl
|@bb Γ l f j x a b k hj ha hb bh bU=>
  intro n hn d es σ hd hm hz;have jf:(Tm.bb j x a b).depth=1+max a.depth b.depth:=rfl;refine aO (je _ hn) λm bg hm'=>?_;clear hn;subst bg;obtain⟨bI,e1⟩:=bh (m+1) (lS mL ‹_›) d es σ hd hm (zz mL ‹_›);have hdl:=gM es x ((Mn.val k).mv l);have w1:=fp (sc:=sc) B.eS (n:=m) (x:=x) (v:=(Mn.val k).mv l) (old (τ:=bI) hd) (ip ‹_›);obtain⟨cH,e2⟩:=jW B (bU m (k3 mR ‹_›)) (bC) (show mW (bc es x ((Mn.val k).mv l)) _ from hm.add ⟨x,l,.val k⟩) (lN 0x38134c20124124124024124124804904904900900904920538140f1810cd4614050613cc [_,_,_,_,_,_] rfl hz jf hdl);refine⟨bI++([.ay (bc es x ((Mn.val k).mv l))]++cH),wa B (λ_ _=>rfl) (ji B (by(clear e2 w1 hdl e1 bU bh hb ha;cases l)<;>cases f<;>rfl')) (.inr (.inl rfl)) ?_⟩;rw[←List.append_assoc,←List.append_assoc,cf B.uU rfl]
  exact(congrArg bS ((bY (by rfl')).trans (bT (by rfl') ((a4 (aJ rfl e1)).trans
   ((dt (iU (aJ (aN rfl (aw rfl (aN rfl (aw (aJ (aN rfl (aw rfl (aw (bN rfl (nb rfl)) aU))) w1) rfl)))) e2))).trans (bf (aD rfl))))))).trans rfl
|@def_ Γ l f g x a b ka k k' hk ha hb bh bU=>
  intro n hn d es σ hd hm hz;have jf:(Tm.def_ g x ka.s a b).depth=1+max a.depth b.depth:=rfl;refine aO (je _ hn) λm bg hm'=>?_;clear hn;subst bg;obtain⟨w1,bI,e1⟩:=wu B (bh (m+1) (lS mL ‹_›)) hd hm (z1 mL ‹_›);obtain⟨w2,cH,e2⟩:=wu B (bU (m+1) (lS mR ‹_›)) (old (old hd)) hm (z1 mR ‹_›);refine⟨[.ay (bc es x ((Mn.val ka).mv l))]++(bI++([.ay (bc es g ((Mn.fn ka k).mv l))]++cH)),wa B (λ_ _=>rfl) (ji B (by(clear e2 w2 e1 w1 bU bh hb ha hk;cases l)<;>cases f<;>rfl')) (.inr (.inr rfl)) ?_⟩;rw[←List.append_assoc,←List.append_assoc,←List.append_assoc,cf B.uU rfl];have hp:bR (cx P sc (m+1)) (.and {.cmp .Eq (.aa 1) (.int 1),.cmp .Eq (.au (.aa 0) (.int 3)) (.glob 1)}) [some (Tm.def_ g x ka.s a b).af,some (.int l.i),some (.ref d),some (.bool f),none] σ=.ok false σ:=by
   clear e2 w2 e1 w1 bU bh hb ha;cases l with
   |z=>exact mV (all_cons (by rfl') (by exact ff) (λ_=>⟨rfl,rfl⟩))
   |o=>
    obtain rfl:=hk rfl;exact MT (t1:=true) (t2:=false) (by rfl') (dZ (x:=.str Kd.aA.s) rfl (qR B) (by rfl'))
  exact(congrArg bS ((bY (by rfl')).trans ((bY (by rfl')).trans ((bY hp).trans ((a4 (aJ (aw rfl (aN rfl (aw (aJ (aN rfl (aw rfl (aw (bN rfl (nb rfl)) aU))) w1) rfl))) e1)).trans
   (bf (aJ (aw rfl (aN rfl (aw (aJ (aN rfl (aw rfl (aw (bN rfl (nb rfl)) aU))) w2) rfl))) e2))))))).trans rfl
|@bE Γ f a ha bh=>
  intro n hn d es σ hd hm hz;have jf:(Tm.un .bE a).depth=1+a.depth:=rfl;have zz:=je _ hn;clear hn;obtain⟨m,rfl,hm'⟩:=zz;obtain⟨bI,e1⟩:=jW B (bh m (k3 (aQ _) ‹_›)) hd hm (zz (aQ _) ‹_›);refine⟨bI,qC B (λ_ _=>rfl) (ji B (by cases f<;>rfl')) (.inl ⟨.bE,rfl⟩) ?_⟩;rw[cf B.qg rfl];exact(congrArg bS ((a4 rfl).trans (bT (by rfl') ((dt (iU (aJ (aw (e_num B) rfl) e1))).trans (bf (qR B)))))).trans rfl
|@hole Γ f a ha bh=>
  intro n hn d es σ hd hm hz;have jf:(Tm.un .hole a).depth=1+a.depth:=rfl;have zz:=je _ hn;clear hn;obtain⟨m,rfl,hm'⟩:=zz;obtain⟨bI,e1⟩:=jW B (bh m (k3 (aQ _) ‹_›)) hd hm (zz (aQ _) ‹_›);refine⟨bI,qC B (λ_ _=>rfl) (ji B (by cases f<;>rfl')) (.inl ⟨.hole,rfl⟩) ?_⟩;rw[cf B.qg rfl];exact(congrArg bS ((a4 rfl).trans (jmp 1 (by rfl') (bT (by rfl') ((dt (iU (aJ (aw (qR B) rfl) e1))).trans (bf (e_num B))))))).trans rfl
|@lift Γ f a ha bh=>
  intro n hn d es σ hd hm hz;have jf:(Tm.un .lift a).depth=1+a.depth:=rfl;have zz:=je _ hn;clear hn;obtain⟨m,rfl,hm'⟩:=zz;obtain⟨bI,e1⟩:=jW B (bh m (k3 (aQ _) ‹_›)) hd hm (zz (aQ _) ‹_›);refine⟨bI,qC B (λ_ _=>rfl) (ji B (by(clear e1 bh ha;cases f)<;>rfl')) (.inl ⟨.lift,rfl⟩) ?_⟩;rw[cf B.qg rfl];exact(congrArg bS ((a4 rfl).trans (jmp 2 (by rfl') (bT (by rfl') ((dt (iU (aJ (aw (e_num B) rfl) e1))).trans (bf (qR B))))))).trans rfl
|@run Γ a ha bh=>
  intro n hn d es σ hd hm hz;have jf:(Tm.un .run a).depth=1+a.depth:=rfl;refine aO (je _ hn) λm bg hm'=>?_;clear hn;subst bg;obtain⟨bI,e1⟩:=jW B (bh m (k3 (aQ _) ‹_›)) hd hm (zz (aQ _) ‹_›);refine⟨bI,qC B (λ_ _=>rfl) (ji B (by rfl')) (.inl ⟨.run,rfl⟩) ?_⟩;rw[cf B.qg rfl];exact(congrArg bS ((a4 rfl).trans (jmp 3 (by rfl') (bT (by rfl') ((dt (iU (aJ (aw (qR B) rfl) e1))).trans (bf (e_num B))))))).trans rfl
|@aj Γ l f w a b ha hb bh bU=>
  intro n hn d es σ hd hm hz;have jf:(Tm.aj w a b).depth=1+max a.depth b.depth:=rfl;refine aO (je _ hn) λm bg hm'=>?_;clear hn;subst bg;obtain⟨bI,e1⟩:=jW B (bh m (k3 mL ‹_›)) hd hm (zz mL ‹_›);refine bZ (jW B (bU m (k3 mR ‹_›)) (old (τ:=bI) hd) hm (zz mR ‹_›)) λcH e2=>?_;refine⟨bI++cH,qC B (λ_ _=>rfl) (ji B (by(clear e2 e1 bU bh hb ha;cases l)<;>cases f<;>(clear hm' jf hz;cases w)<;>rfl')) (.inr ⟨w,rfl⟩) ?_⟩;rw[←List.append_assoc,cf B.qg rfl]
  refine(congrArg bS ((a4 (v:=.str w.str) rfl).trans ((bY (ae:=σ) ?_).trans ((bY (ae:=σ) ?_).trans ((bY (ae:=σ) ?_).trans ((bY (ae:=σ) ?_).trans ((dt (iU (aJ (aw (e_num B) (by rfl)) e1))).trans
   ((dt (iU (aJ (aw (e_num B) rfl) e2))).trans (bf (e_num B)))))))))).trans rfl<;>(clear hm' jf hz;cases w)<;>rfl'
end
end Qh
set_option tactic.hygienic true
namespace Qh
open PySem
def gv(l:Nat)(vs:List V)(σ ag:H):Prop:=∃τ,ag=σ.set l (.ah vs)++τ
section
variable{l:Nat}{fs fs':List V}{σ ae ak:H}
theorem Cr{σ:H}{l:Nat}{o:O}(h:σ[l]?=some o):σ.set l o=σ:=by obtain⟨h1,rfl⟩:=List.getElem?_eq_some_iff.mp h;exact List.set_getElem_self h1
theorem gv.trans(h:l<σ.length)(x:gv l fs σ ae)(y:gv l fs' ae ak):gv l fs' σ ak:=by obtain⟨τ,rfl⟩:=x;obtain⟨fQ,rfl⟩:=y;exact⟨τ++fQ,by rw[wt (by(refine(List.length_set).symm▸?_);exact h),List.set_set,List.append_assoc]⟩
theorem gv.back{τ:H}(h:l<σ.length)(x:gv l fs (σ++τ) ae):gv l fs σ ae:=by obtain⟨fQ,rfl⟩:=x;exact⟨τ++fQ,by rw[wt h,List.append_assoc]⟩
theorem gv.other{b:Nat}{o:O}(x:gv l fs σ ae)(hb:σ[b]?=some o)(hn:l≠b):ae[b]?=some o:=by obtain⟨τ,rfl⟩:=x;exact old (xF hb hn)
theorem gv.self(h:l<σ.length)(x:gv l fs σ ae):ae[l]?=some (.ah fs):=by obtain⟨τ,rfl⟩:=x;exact old (by simp[h])
theorem gv.refl{τ:H}(h:σ[l]?=some (.ah fs)):gv l fs σ (σ++τ):=⟨τ,by(refine(Cr h).symm▸?_;with_reducible rfl)⟩
end
def jc(l:Lv)(ks:List Mn)(Γ:Sc)(e:Ent):Bool:=!(Γ.any λe'=>e'.x==e.x)&&(e.l.i==l.i)&&ks.any λm=>gE m.ks e.m.ks
def fC(l:Lv)(ks:List Mn):Sc->Sc
|[]=>[]
|e::Γ=>if jc l ks Γ e then e::fC l ks Γ else fC l ks Γ
theorem AH(e:Ent)(Γ:Sc)(x:Str):look (e::Γ) x=(look Γ x).or (if e.x==x then some e else none):=by unfold look;rw[List.reverse_cons,List.find?_append,List.find?_singleton]
theorem Ip{Γ:Sc}{x:Str}(h:(Γ.any λe=>e.x==x)=false):look Γ x=none:=by unfold look;rw[List.find?_eq_none];intro e he;rw[List.mem_reverse] at he;have:=List.any_eq_false.mp h e he;exact this
theorem M1{a b:Lv}(h:(a.i==b.i)=true):a=b:=by cases a<;>cases b<;>first|rfl|exact ff h
theorem jX(l:Lv)(ks:List Mn):∀(Γ:Sc)(e:Ent),e∈fC l ks Γ->look Γ e.x=some e/\e.l=l/\e∈Γ/\(ks.any λm=>gE m.ks e.m.ks)=true
|[]=>λe h=>by cases h
|e'::Γ=>λe h=>by
  unfold fC at h;have tail:e∈fC l ks Γ->look (e'::Γ) e.x=some e/\e.l=l/\e∈e'::Γ/\(ks.any λm=>gE m.ks e.m.ks)=true:=λh=>by
   refine iY (jX l ks Γ e h) λh1 h2 h3 h4=>?_;exact⟨by rw[AH,h1];rfl,h2,List.mem_cons_of_mem _ h3,h4⟩
  split at h
  ·rename_i hs
   rcases List.mem_cons.mp h with rfl|q
   ·unfold jc at hs;rw[Bool.and_eq_true,Bool.and_eq_true,Bool.not_eq_true'] at hs;refine⟨?_,M1 hs.1.2,List.mem_cons_self,hs.2⟩;rw[AH,Ip hs.1.1,beq_self_eq_true];rfl
   ·exact tail q
  ·exact tail h
theorem tN{k:Kd}{m:Mn}(h:([Mn.val k].any λm'=>gE m'.ks m.ks)=true):m=.val k:=by
 have h:(gE (Mn.val k).ks m.ks||false)=true:=h;rw[Bool.or_false] at h
 revert h
 cases m with
|val k'=>cases k<;>cases k'<;>first|exact λ_=>rfl|(intro h;exact absurd h (by decide+kernel))
|fn a r=>cases k<;>cases a<;>cases r<;>(intro h;exact absurd h (by decide+kernel))
theorem OF{k:Kd}{m:Mn}(h:([Mn.fn .aA k,Mn.fn .aV k].any λm'=>gE m'.ks m.ks)=true):∃a,m=.fn a k:=by
 revert h
 cases m with
|val k'=>cases k<;>cases k'<;>(intro h;exact absurd h (by decide+kernel))
|fn a r=>cases k<;>cases r<;>first|exact λ_=>⟨a,rfl⟩|(cases a<;>(intro h;exact absurd h (by decide+kernel)))
def Ent.Ok(e:Ent):Prop:=V.cQ (.str e.x)=true/\(e.l=.o->e.m=.val .aA∨e.m=.fn .aA .aA)
theorem wx(m:Mn):V.cQ m.ks=true:=by
 cases m with
|val k=>cases k<;>decide+kernel
|fn a r=>cases a<;>cases r<;>decide+kernel
theorem wz(m:Mn):V.deep m.ks=1:=by
 cases m with
|val k=>cases k<;>rfl
|fn a r=>cases a<;>cases r<;>rfl
theorem JG{e:Ent}(h:e.Ok):V.cQ e.v=true:=by show(V.cQ (.str e.x)&&(V.cQ (.int e.l.i)&&(V.cQ e.m.ks&&true)))=true;rw[h.1,wx];rfl
theorem JH(e:Ent):V.deep e.v=2:=by show max 0 (max 0 (max (V.deep e.m.ks) 0))+1=2;rw[wz];rfl
theorem AI:∀(Γ:Sc),(∀e∈Γ,e.Ok)->V.ej (Γ.map Ent.v)=true
|[]=>λ_=>rfl
|e::Γ=>λh=>by
  show(V.cQ e.v&&V.ej (Γ.map Ent.v))=true
  (refine(JG (h e List.mem_cons_self)).symm▸?_;refine(AI Γ λx hx=>h x (List.mem_cons_of_mem _ hx)).symm▸?_);rfl
theorem AJ:∀(Γ:Sc),V.fW (Γ.map Ent.v)<=2
|[]=>eI _
|e::Γ=>by
  show max (V.deep e.v) (V.fW (Γ.map Ent.v))<=2;rw[JH];have:=AJ Γ;exact lN 0x88332220124804900904920588c [_] rfl this
theorem Bh:∀(ks:List Mn),V.ej (ks.map Mn.ks)=true
|[]=>rfl
|m::ks=>by
  show(V.cQ m.ks&&V.ej (ks.map Mn.ks))=true;rw[wx,Bh ks];rfl
theorem Bi:∀(ks:List Mn),V.fW (ks.map Mn.ks)<=1
|[]=>eI _
|m::ks=>by
  show max (V.deep m.ks) (V.fW (ks.map Mn.ks))<=1;rw[wz];have:=Bi ks;exact lN 0x84332120124804900904920584c [_] rfl this
theorem eq_nil{σ:H}{i j:Nat}{Γ:Sc}(hok:∀e∈Γ,e.Ok)(hi:σ[i]?=some (.ah (Γ.map Ent.v)))(hj:σ[j]?=some (.ah [])):ig (.ref i) (.ref j) σ=.ok Γ.isEmpty σ:=by
 rw[IV,aW (dY hi),aW (dY hj),if_pos]
 ·clear hi hok;cases Γ with
  |nil=>rfl
  |cons e Γ=>rfl
 ·unfold fX;have:=AJ Γ;rw[AI Γ hok,decide_eq_true (show V.fW (Γ.map Ent.v)<=50 by(exact bP ‹_› (by decide)))];rfl
theorem JI{σ:H}{i:Nat}{ks:List Mn}{m:Mn}(hi:σ[i]?=some (.ah (ks.map Mn.ks))):iq m.ks (.ref i) σ=.ok (ks.any λm'=>gE m'.ks m.ks) σ:=by
 refine Br▸?_;refine(aW (my hi))▸?_;have hf:fX [m.ks] (ks.map Mn.ks)=true:=by
  have h1:=Bi ks;have h2:V.fW [m.ks]<=50:=by show max (V.deep m.ks) 0<=50;rw[wz];decide
  have h3:V.ej [m.ks]=true:=by show(V.cQ m.ks&&true)=true;rw[wx];rfl
  unfold fX;rw[h3,Bh ks,decide_eq_true h2,decide_eq_true (show V.fW (ks.map Mn.ks)<=50 by(exact bP ‹_› (by decide)))];rfl
 show among m.ks (ks.map Mn.ks) σ=_;have:among m.ks (ks.map Mn.ks)=if fX [m.ks] (ks.map Mn.ks) then M.pure ((ks.map Mn.ks).any λy=>gE y m.ks) else M.fail:=by cases m<;>rfl
 refine this▸?_;refine(if_pos hf)▸?_;refine(List.any_map)▸?_
 rfl
end Qh
set_option tactic.hygienic false
namespace Qh
open PySem
section
variable{P:Prog}{sc:List Int}
theorem G4{f:V->M (Option V)}{l:Nat}{ts:Sc}{q:Ent->Bool}{σ:H}(hl:σ[l]?=some (.ah (ts.map Ent.v)))(hf:∀e∈ts,f e.v σ=.ok (if q e then some e.v else none) σ):
  ∀(rest done:Sc),ts=done++rest->di (.live l) f (rest.length+1) done.length σ=.ok ((rest.filter q).map Ent.v) σ:=by
 intro rest
 induction rest with
|nil=>
  intro done hd;refine kE ?_
  (refine jU▸?_;refine(aW (dY hl))▸?_);simp[M.pure,hd]
|cons e rest ih=>
  intro done hd;have h1:=ih (done++[e]) (by(refine hd▸?_);simp);replace h1:=(List.length_singleton)▸((List.length_append)▸h1);rw[List.length_cons,gL ?_ (hf e (by(refine hd▸?_);simp)) h1]
  ·(refine(List.filter_cons)▸?_);cases q e<;>rfl
  ·(refine jU▸?_;refine(aW (dY hl))▸?_);simp[M.pure,hd]
theorem M3{C:Ctx}{L:aR}{σ ae:H}{a b c:E}{t1 t2 t3:Bool}(h1:bR C a L σ=.ok t1 ae)(h2:bR C b L ae=.ok t2 ae)(h3:bR C c L ae=.ok t3 ae):bR C (.and {a,b,c}) L σ=.ok (t1&&t2&&t3) ae:=by
 refine qN▸?_;refine all_cons h1 (λe=>?_) (λe=>?_)
 ·rw[e,Bool.true_and];refine all_cons h2 (λe=>?_) (λe=>?_)
  ·rw[e,Bool.true_and];exact all_cons h3 (λe=>by(refine e▸?_);exact all_nil) (λe=>⟨e,rfl⟩)
  ·(refine e.symm▸?_);exact⟨rfl,rfl⟩
 ·(refine e.symm▸?_);exact⟨rfl,rfl⟩
theorem Iq{C:Ctx}{L:aR}{σ ae:H}{c a o:E}{l:Nat}{fs:List V}{x:V}{b:Bool}(hl:ae[l]?=some (.ah fs))(hle:fs.length<=aM)(hc:bR C c L σ=.ok b ae)(ho:ao C o L ae=.ok (.ref l) ae)(ha:ao C a L ae=.ok x ae):
  cG C (.ite c {.append o a} .nil) L σ=.ok .next L (ae.set l (.ah (if b then fs++[x] else fs))):=by
 cases b with
|false=>(refine(nK hc)▸?_;refine fq.symm▸?_);rw[if_neg (by decide),Cr hl]
|true=>(refine(kH hc)▸?_;refine(dt (HB ho (dY hl) ha (append_at hl hle)))▸?_;refine fq.symm▸?_);rfl
def OG:SL:=match qu.body with
|.cons _ (.cons (.eM _ _ b) _)=>b
|_=>.nil
theorem z8{q:Ent->Bool}:∀l:Sc,(l.filter q).isEmpty=!(l.any q)
|[]=>rfl
|e::l=>by
  refine(List.filter_cons)▸?_;refine(List.any_cons)▸?_;cases q e with
  |true=>rfl
  |false=>exact z8 l
theorem JJ{α:Type}{xs:List α}{k:Nat}{σ:H}(hk:k<1000001):ke xs (.int ((k:Int)+1)) .none σ=.ok (xs.drop (k+1)) σ:=by
 rw[HR,if_pos ⟨by exact lI 0x61320049049205320 [_] rfl (iM _),by exact lI 0x700700700700700700700700700790184184c049049205047247d078c184c [_] rfl (Int.ofNat_lt.mpr hk)⟩]
 rfl
theorem z9(l:Lv)(ks:List Mn)(e:Ent)(Γ:Sc):fC l ks (e::Γ)=(if jc l ks Γ e then [e] else [])++fC l ks Γ:=by show(if jc l ks Γ e then e::fC l ks Γ else fC l ks Γ)=_;cases jc l ks Γ e<;>rfl
theorem Ir{n ls lk lf:Nat}{l:Lv}{ks:List Mn}{Γ:Sc}(hok:∀e∈Γ,e.Ok)(hn1:lf≠ls)(hn2:lf≠lk)(ca:Γ.length<=100000):
  ∀(j k:Nat)(fs:Sc)(v4 v5:Option V)(σ:H),k+j=Γ.length->fs.length<=k->σ[lf]?=some (.ah (fs.map Ent.v))->σ[ls]?=some (.ah (Γ.map Ent.v))->σ[lk]?=some (.ah (ks.map Mn.ks))->
   ∃ag yS yT,eB (λk=>M.pure ((dG (Γ.length:Int))[k]?.map λv=>[(4,v)])) (a6 (cx P sc n) OG) (j+1) k [some (.ref ls),some (.int l.i),some (.ref lk),some (.ref lf),v4,v5,none] σ=.ok .next [some (.ref ls),some (.int l.i),some (.ref lk),some (.ref lf),yS,yT,none] ag/\
    gv lf ((fs++fC l ks (Γ.drop k)).map Ent.v) σ ag:=by
 intro j
 induction j with
|zero=>
  intro k fs v4 v5 σ hk uV bu hls hlk;refine⟨σ,v4,v5,sU ?_,?_⟩
  ·have:(dG (Γ.length:Int))[k]?=none:=by simp[dG];exact lN 0x34c04904920630180d [_,_] rfl hk
   (refine this▸?_);rfl
  ·rw[List.drop_eq_nil_of_le (by exact lN 0x34c04904920630180d [_,_] rfl hk)];have:=gv.refl (τ:=[]) bu;rw[List.append_nil] at this
   (refine(show fs++fC l ks []=fs from List.append_nil _).symm▸?_);exact this
|succ j ih=>
  intro k fs v4 v5 σ hk uV bu hls hlk;have qh:k<Γ.length:=lN 0x34184c04900904920634106138c [_,_,_] rfl hk;have hlim:(1000000:Nat)<=aM:=aQ _;have hget:Γ[k]?=some Γ[k]:=List.getElem?_eq_getElem qh;have q9:Γ.drop k=Γ[k]::Γ.drop (k+1):=List.drop_eq_getElem_cons qh;generalize Γ[k]=e at hget q9;have g7:∀(C:Ctx)(L:aR)(s:H),s[ls]?=some (.ah (Γ.map Ent.v))->cm L 0=some (.ref ls)->cm L 4=some (.int k)->ao C (.au (.aa 0) (.aa 4)) L s=.ok e.v s:=λC L s h1 h2 h3=>
   b9 (aD h2) (aD h3) (da h1 (by simp[hget]) (lI 0x320049049205320 [_] rfl (iM _)) (lI 0x1c01c01c01c01c01c01c01c01c01e40613012412412481601da1f834534184c [_,_] rfl (Int.ofNat_le.mpr ca) (Int.ofNat_lt.mpr qh)))
  have ie:ao (cx P sc n) (.fT (.aa 6) 6 [0,4] (.slc (.aa 0) (.aj .Add (.aa 4) (.int 1)) .none) (.cmp .Eq (.au (.aa 6) (.int 0)) (.au (.au (.aa 0) (.aa 4)) (.int 0)))) [some (.ref ls),some (.int l.i),some (.ref lk),some (.ref lf),some (.int k),v5,none] σ=
    .ok (.ref (σ++[O.ah ((Γ.drop (k+1)).map Ent.v)]).length) (σ++[O.ah ((Γ.drop (k+1)).map Ent.v)]++[.ah (((Γ.drop (k+1)).filter λe'=>e'.x==e.x).map Ent.v)]):=by
   refine Hx (ae:=σ++[O.ah ((Γ.drop (k+1)).map Ent.v)]) (x:=.ref σ.length) (sr:=.live σ.length) (k:=(Γ.drop (k+1)).length) (Oz (x:=.ref ls) (y:=.int ((k:Int)+1)) (z:=.none) (aD rfl) (bJ (aD rfl) rfl rfl) rfl ?_) ?_ ?_ (by(refine(List.length_drop)▸?_);exact lN 0xe08184d3080490090490492012402412481601da1f83053801c91f41e3 [_,_,_] rfl ca hlim) ?_
   ·rw[HS,aW (dY hls),aW (JJ (by exact lN 0x11c91f41e30613012412412481601da1f834534184c [_,_] rfl ca qh)),if_pos ⟨rfl,by rw[List.length_map];exact lN 0xd3012412412481601da1f83053401c91f41e3 [_,_] rfl ca hlim⟩,←List.map_drop];rfl
   ·(refine oX▸?_;refine(aW (dY bC))▸?_);rfl
   ·rw[oV,aW (dY bC),List.length_map];rfl
   ·refine G4 bC (λe' he'=>?_) (Γ.drop (k+1)) [] rfl;rw[aW (dZ (by rfl') (b9 (g7 _ _ _ (old hls) (by rfl') (by rfl')) rfl rfl) rfl)];cases (e'.x==e.x) with
    |true=>rfl'
    |false=>rfl
  generalize hs1:σ++[O.ah ((Γ.drop (k+1)).map Ent.v)]=ae at ie;have o1:∀{i:Nat}{o:O},σ[i]?=some o->(ae++[O.ah (((Γ.drop (k+1)).filter λe'=>e'.x==e.x).map Ent.v)])[i]?=some o:=λh=>by(refine hs1▸?_);exact old (old h)
  generalize hs2:ae++[O.ah (((Γ.drop (k+1)).filter λe'=>e'.x==e.x).map Ent.v)]=ak at ie o1;have Qa:ak[ae.length]?=some (.ah (((Γ.drop (k+1)).filter λe'=>e'.x==e.x).map Ent.v)):=by(refine hs2▸?_);exact bC
  have OH:∃τ,ak=σ++τ:=⟨[O.ah ((Γ.drop (k+1)).map Ent.v)]++[O.ah (((Γ.drop (k+1)).filter λe'=>e'.x==e.x).map Ent.v)],by rw[←hs2,←hs1,List.append_assoc]⟩;have htest:bR (cx P sc n) (.and {.cmp .Eq (.aa 5) (.ah .nil),.cmp .Eq (.au (.au (.aa 0) (.aa 4)) (.int 1)) (.aa 1),.cmp .In (.au (.au (.aa 0) (.aa 4)) (.int 2)) (.aa 2)}) [some (.ref ls),some (.int l.i),some (.ref lk),some (.ref lf),some (.int k),some (.ref ae.length),none] ak=
    .ok (jc l ks (Γ.drop (k+1)) e) (ak++[.ah []]):=by
   refine M3 (dZ (aD rfl) (dH aU (nb rfl)) ?_) (dZ (b9 (g7 _ _ _ (old (o1 hls)) rfl rfl) rfl rfl) (aD rfl) rfl) (dZ (b9 (g7 _ _ _ (old (o1 hls)) rfl rfl) rfl rfl) (aD rfl) ?_)
   ·rw[qw,eq_nil (λe' he'=>(λe' h=>hok e' (List.mem_of_mem_drop h)) e' (List.mem_filter.mp he').1) (old Qa) bC,z8]
   ·(refine vG▸?_);exact JI (old (o1 hlk))
  refine bZ (OH) λτ jQ=>?_;have hstep:=Iq (L:=[some (.ref ls),some (.int l.i),some (.ref lk),some (.ref lf),some (.int k),some (.ref ae.length),none]) (old (o1 bu)) (by rw[List.length_map];exact lN 0xd3012412412412412481601da1f83853cc14e0613c53401c91f41e3 [_,_,_,_] rfl ca uV qh hlim) htest (aD (i:=3) rfl) (g7 _ _ _ (old (o1 hls)) rfl rfl);have hfs:(if jc l ks (Γ.drop (k+1)) e=true then fs.map Ent.v++[e.v] else fs.map Ent.v)=(if jc l ks (Γ.drop (k+1)) e then fs++[e] else fs).map Ent.v:=by cases jc l ks (Γ.drop (k+1)) e<;>simp
  replace hstep:=hfs▸hstep;generalize hnew:(if jc l ks (Γ.drop (k+1)) e then fs++[e] else fs)=qi at hstep;have hnl:qi.length<=k+1:=by
   refine hnew▸?_
   split
   ·(refine(List.length_append)▸?_;refine(List.length_singleton).symm▸?_);exact lN 0x6134184c04904920534c [_,_] rfl uV
   ·exact lN 0x6134c04904920534c [_,_] rfl uV
  have ht:gv lf (qi.map Ent.v) σ ((ak++[O.ah []]).set lf (.ah (qi.map Ent.v))):=⟨τ++[.ah []],by rw[jQ,List.append_assoc,wt (og bu)]⟩;refine fV (ih (k+1) qi (some (.int k)) (some (.ref ae.length)) _ (cj (lN 0x38134184c04900904920638106134c [_,_,_] rfl hk) (lN 0x4e06134c04904920630106138d [_,_,_] rfl hk)) hnl (ht.self (og bu)) (ht.other hls hn1) (ht.other hlk hn2)) λag yS yT f1 f2=>?_;refine⟨ag,yS,yT,?_,?_⟩
  ·rw[qB (ps:=[(4,.int k)]) (ae:=σ) (L1:=[some (.ref ls),some (.int l.i),some (.ref lk),some (.ref lf),some (.int k),v5,none]) (L2:=[some (.ref ls),some (.int l.i),some (.ref lk),some (.ref lf),some (.int k),some (.ref ae.length),none]) (ak:=(ak++[O.ah []]).set lf (.ah (qi.map Ent.v))) ?_ rfl ?_,f1]
   ·have:(dG (Γ.length:Int))[k]?=some (.int k):=by simp[dG,qh]
    (refine this▸?_);rfl
   ·exact(a4 ie).trans ((dt hstep).trans fq)
  ·have:=ht.trans (og bu) f2;refine q9▸?_;rw[z9,←List.append_assoc,show fs++(if jc l ks (Γ.drop (k+1)) e then [e] else [])=qi by(refine hnew▸?_);cases jc l ks (Γ.drop (k+1)) e<;>simp];exact this
theorem sJ(h30:P.fns 30=some qu){n ls lk:Nat}{l:Lv}{ks:List Mn}{Γ:Sc}{σ:H}(hok:∀e∈Γ,e.Ok)(ca:Γ.length<=100000)(hls:σ[ls]?=some (.ah (Γ.map Ent.v)))(hlk:σ[lk]?=some (.ah (ks.map Mn.ks))):
  ∃τ,aq P sc (n+1) 30 [.ref ls,.int l.i,.ref lk] σ=.ok (.ref σ.length) (σ++τ)/\(σ++τ)[σ.length]?=some (.ah ((fC l ks Γ).map Ent.v)):=by have hlim:(1000000:Nat)<=aM:=aQ _;obtain⟨ag,v4,v5,f1,τ,rfl⟩:=Ir hok (Nat.ne_of_gt (og hls)) (Nat.ne_of_gt (og hlk)) ca Γ.length 0 [] none none (σ++[.ah []]) (cj (lN 825917182536 [_] rfl) (lN 82144399944 [_] rfl)) (eI _) bC (old hls) (old hlk);rw[tn,List.drop_zero,List.nil_append] at f1;refine⟨[.ah ((fC l ks Γ).map Ent.v)]++τ,?_,by rw[←List.append_assoc];exact old bC⟩;rw[cf h30 rfl,←List.append_assoc];exact(congrArg bS ((a4 (dH aU (nb rfl))).trans ((dt (sW (e_len (aD rfl) (w3 (old hls) (by rw[List.length_map];exact lN 0xd3012412412481601da1f83053401c91f41e3 [_,_] rfl ca hlim))) (by rw[List.length_map];exact⟨lI 0x320049049205320 [_] rfl (iM _),lI 0x7247d078cc049049205807687e0c [_] rfl (Int.ofNat_le.mpr ca)⟩) (by rw[List.length_map];exact f1))).trans (bf (aD rfl))))).trans rfl
end
def St(st:Nat)(σ:H):Prop:=∃k c:Int,0<=k/\σ[st]?=some (.ah [.int k,.int c])
theorem St.lt(h:St st σ):st<σ.length:=og h.choose_spec.choose_spec.2
structure bl(st:Nat)(σ ag:H):Prop where
 state:St st ag
 len:σ.length<=ag.length
 same:∀i,i≠st->i<σ.length->ag[i]?=σ[i]?
section
variable{st:Nat}{σ ae ak τ:H}
theorem bl.trans(x:bl st σ ae)(y:bl st ae ak):bl st σ ak:=
 ⟨y.state,bP x.len y.len,λi h1 h2=>(y.same i h1 (Nat.lt_of_lt_of_le h2 x.len)).trans (x.same i h1 h2)⟩
theorem bl.refl(x:St st σ):bl st σ σ:=⟨x,aQ _,λ_ _ _=>rfl⟩
theorem bl.add(x:St st σ):bl st σ (σ++τ):=by refine bo (x) λk c h0 hk=>?_;exact⟨⟨k,c,h0,old hk⟩,by(refine(List.length_append)▸?_);(exact d7 _ _),λi h1 h2=>List.getElem?_append_left h2⟩
theorem bl.more(x:bl st σ ae):bl st σ (ae++τ):=x.trans (bl.add x.state)
theorem bl.get(x:bl st σ ae)(h1:i≠st)(h:σ[i]?=some o):ae[i]?=some o:=(x.same i h1 (og h)).trans h
end
theorem kT{st ls:Nat}{σ:H}{Γ:Sc}(h:St st σ)(hl:σ[ls]?=some (.ah (Γ.map Ent.v))):ls≠st:=by
 refine bo (h) λk c _ h=>?_;rintro rfl;replace h:=hl▸h
 match Γ with
|[]=>cases h
|[_]=>cases h
|_::_::_=>cases h
def aY(C:Ctx)(L:aR)(st:Nat)(s:H)(b:SL)(G:Tm->Prop):Prop:=∃t s' L',a6 C b L s=.ok (.ret t.af) L' s'/\bl st s s'/\G t
section
variable{C:Ctx}{L:aR}{st:Nat}{s s1:H}{r:SL}{G:Tm->Prop}
theorem aY.aL(h:ao C e L s=.ok v s1)(k:bl st s s1)(h2:aY C (bV L i v) st s1 r G):aY C L st s (.cons (.aL i e) r) G:=by refine fJ (h2) λt s' L' e1 k1 g=>?_;exact⟨t,s',L',(a4 h).trans e1,k.trans k1,g⟩
theorem aY.step(h:cG C x L s=.ok .next L1 s1)(k:bl st s s1)(h2:aY C L1 st s1 r G):aY C L st s (.cons x r) G:=by refine fJ (h2) λt s' L' e1 k1 g=>?_;exact⟨t,s',L',(dt h).trans e1,k.trans k1,g⟩
theorem aY.ret(h:ao C e L s=.ok t.af s1)(k:bl st s s1)(g:G t):aY C L st s (.cons (.ret e) r) G:=⟨t,s1,L,bf h,k,g⟩
theorem aY.skip(h:bR C c L s=.ok false s1)(k:bl st s s1)(h2:aY C L st s1 r G):aY C L st s (.cons (.ite c uW .nil) r) G:=by refine fJ (h2) λt s' L' e1 k1 g=>?_;exact⟨t,s',L',(bY h).trans e1,k.trans k1,g⟩
theorem aY.take(h:bR C c L s=.ok true s1)(k:bl st s s1)(h2:aY C L st s1 uW G):aY C L st s (.cons (.ite c uW .nil) r) G:=by refine fJ (h2) λt s' L' e1 k1 g=>?_;exact⟨t,s',L',bT h e1,k.trans k1,g⟩
end
def dz(C:Ctx)(L:aR)(st:Nat)(s:H)(a:E)(Q:Prop):Prop:=∃b s1,bR C a L s=.ok b s1/\bl st s s1/\(b=true->Q)
section
variable{C:Ctx}{L:aR}{st:Nat}{s:H}{r:SL}{G:Tm->Prop}
theorem aY.ite(h:dz C L st s c Q)(h1:∀s1,bl st s s1->Q->aY C L st s1 uW G)(h2:∀s1,bl st s s1->aY C L st s1 r G):aY C L st s (.cons (.ite c uW .nil) r) G:=by
 refine cW (h) λb s1 e k q=>?_;cases b with
|true=>exact .take e k (h1 s1 k (q rfl))
|false=>exact .skip e k (h2 s1 k)
theorem dz.pure(hs:St st s)(h:bR C a L s=.ok b s):dz C L st s a (b=true):=⟨b,s,h,.refl hs,λe=>e⟩
theorem dz.aT(h1:dz C L st s a Q1)(h2:∀s1,bl st s s1->dz C L st s1 b Q2):dz C L st s (.and {a,b}) (Q1/\Q2):=by
 obtain⟨t1,s1,e1,k1,q1⟩:=h1;obtain⟨t2,s2,e2,k2,q2⟩:=h2 s1 k1;cases t1 with
|false=>exact⟨false,s1,mV (all_cons e1 (by exact ff) (λ_=>⟨rfl,rfl⟩)),k1,λq=>by exact ff q⟩
|true=>exact⟨t2,s2,mV (all_cons e1 (λ_=>all_cons e2 (λq=>by(refine q▸?_);exact all_nil) (λq=>⟨q,rfl⟩)) (by exact tf)),k1.trans k2,λq=>⟨q1 rfl,q2 q⟩⟩
theorem dz.Et(h1:dz C L st s a Q1)(h2:∀s1,bl st s s1->dz C L st s1 b Q2)(h3:∀s1,bl st s s1->dz C L st s1 c Q3):dz C L st s (.and {a,b,c}) (Q1/\Q2/\Q3):=by
 refine cW (h1) λt1 s1 e1 k1 q1=>?_;refine cW (h2 s1 k1) λt2 s2 e2 k2 q2=>?_;refine cW (h3 s2 (k1.trans k2)) λt3 s3 e3 k3 q3=>?_;cases t1 with
|false=>exact⟨false,s1,mV (all_cons e1 (by exact ff) (λ_=>⟨rfl,rfl⟩)),k1,λq=>by exact ff q⟩
|true=>
  cases t2 with
  |false=>exact⟨false,s2,mV (all_cons e1 (λ_=>all_cons e2 (by exact ff) (λ_=>⟨rfl,rfl⟩)) (by exact tf)),k1.trans k2,λq=>by exact ff q⟩
  |true=>exact⟨t3,s3,mV (all_cons e1 (λ_=>all_cons e2 (λ_=>all_cons e3 (λq=>by(refine q▸?_);exact all_nil) (λq=>⟨q,rfl⟩)) (by exact tf)) (by exact tf)),(k1.trans k2).trans k3,λq=>⟨q1 rfl,q2 rfl,q3 q⟩⟩
theorem dz.Ri(h1:dz C L st s a Q1)(h2:∀s1,bl st s s1->dz C L st s1 b Q2):dz C L st s (.or {a,b}) True:=by
 obtain⟨t1,s1,e1,k1,q1⟩:=h1;obtain⟨t2,s2,e2,k2,q2⟩:=h2 s1 k1;clear q1;cases t1 with
|true=>exact⟨true,s1,ku (any_cons e1 (by exact tf) (λ_=>⟨rfl,rfl⟩)),k1,λ_=>trivial⟩
|false=>exact⟨t2,s2,ku (any_cons e1 (λ_=>any_cons e2 (λq=>by(refine q▸?_);exact any_nil) (λq=>⟨q,rfl⟩)) (by exact ff)),k1.trans k2,λ_=>trivial⟩
theorem dz.full(hs:St st s)(hok:∀e∈Γ,e.Ok)(hv:cm L i=some (.ref a))(ha:s[a]?=some (.ah (Γ.map Ent.v))):dz C L st s (.cmp .NotEq (.aa i) (.ah .nil)) (Γ≠[]):=by
 refine⟨!Γ.isEmpty,s++[.ah []],dZ (aD hv) (dH aU (nb rfl)) ?_,bl.add hs,λq h=>by(replace q:=h▸q);exact ff q⟩
 (refine nh▸?_;refine(aW (eq_nil hok (old ha) bC))▸?_);rfl
theorem dz.void{Γ:Sc}(hs:St st s)(hok:∀e∈Γ,e.Ok)(hv:cm L i=some (.ref a))(ha:s[a]?=some (.ah (Γ.map Ent.v))):dz C L st s (.cmp .Eq (.aa i) (.ah .nil)) True:=by refine⟨Γ.isEmpty,s++[.ah []],dZ (aD hv) (dH aU (nb rfl)) ?_,bl.add hs,λ_=>trivial⟩;refine qw▸?_;refine(eq_nil hok (old ha) bC)▸?_;with_reducible rfl
theorem Dt(hne:Γ≠[])(ca:Γ.length<=100000)(hv:cm L i=some (.ref a))(ha:s[a]?=some (.ah (Γ.map Ent.v)))(hq:ao C q L s=.ok (.int num) s):
  ∃e∈Γ,ao C (.au (.aa i) (.aj .Mod q (.len (.aa i)))) L s=.ok e.v s:=by
 have hlim:(1000000:Nat)<=aM:=aQ _;have hpos:0<Γ.length:=List.length_pos_iff.mpr hne;have h0:0<=num.fmod (Γ.length:Int):=Int.fmod_nonneg_of_pos _ (lI 0x301860049049205301860 [_] rfl (Int.ofNat_lt.mpr hpos));have h1:num.fmod (Γ.length:Int)<Γ.length:=Int.fmod_lt_of_pos _ (lI 0x301860049049205301860 [_] rfl (Int.ofNat_lt.mpr hpos));refine bZ (Int.eq_ofNat_of_zero_le h0) λj hj=>?_;have hj':j<Γ.length:=yv h1 hj;refine⟨Γ[j],List.getElem_mem hj',b9 (aD hv) (bJ hq (e_len (aD hv) (w3 ha (by rw[List.length_map];(exact bP ‹_› (dD _ _))))) ?_) (da ha ?_ (iM _) (lI 0x1c01c01c01c01c01c01c01c01c01e40613012412412481601da1f834534184c [_,_] rfl (Int.ofNat_le.mpr ca) (Int.ofNat_lt.mpr hj')))⟩
 ·rw[List.length_map];exact tL (Int.ofNat_lt.mpr hpos) hj
 ·simp[hj']
theorem pick(hne:Γ≠[])(ca:Γ.length<=100000)(hv:cm L i=some (.ref a))(ha:s[a]?=some (.ah (Γ.map Ent.v)))(hq:ao C q L s=.ok (.int num) s):
  ∃e∈Γ,ao C (.au (.au (.aa i) (.aj .Mod q (.len (.aa i)))) (.int 0)) L s=.ok (.str e.x) s:=by refine aO (Dt hne ca hv ha hq) λe he h=>?_;exact⟨e,he,b9 h rfl rfl⟩
end
theorem qD(l:Lv)(ks:List Mn):∀Γ:Sc,(fC l ks Γ).length<=Γ.length
|[]=>aQ _
|e::Γ=>by
  have:=qD l ks Γ;rw[z9,List.length_append,List.length_cons]
  split
  ·exact Nat.add_comm _ _▸Nat.succ_le_succ this
  ·exact jN ((Nat.zero_add _).symm▸this)
theorem Rj{l:Lv}(h:(l.i==1)=true):l=.o:=by
 cases l with
|z=>exact absurd h (by decide)
|o=>rfl
theorem yU{l:Lv}(h:l=.o->Kd.aV=.aA):l=.z:=by
 cases l with
|z=>rfl
|o=>exact absurd (h rfl) (by intro h;cases h)
def Lv.flip:Lv->Lv
|.z=>.o|.o=>.z
def okd:Lv->Kd
|.z=>.aA|.o=>.aV
def Rk(l:Lv)(a b:Nat):Nat:=match l with
|.z=>a
|.o=>b
section
variable{P:Prog}{sc:List Int}{G:Nat->Sc->Lv->Bool->Tm->Kd->Prop}(B:Base P)(h30:P.fns 30=some qu)(Fj:P.fns 31=some sx)(W:Gr G)
include B h30 Fj W
theorem It{n st ls:Nat}{Γ:Sc}{l:Lv}{k:Kd}(hs:St st σ)(hls:σ[ls]?=some (.ah (Γ.map Ent.v)))(hok:∀e∈Γ,e.Ok)(ca:Γ.length<=100000)(hlk:l=.o->k=.aA):
  ∃t ag,aq P sc (n+2) 31 [.ct,.ref st,.int l.i,.str k.s,.ref ls,.int num] σ=.ok t.af ag/\(∀d,G d Γ l f t k)/\bl st σ ag:=by
 rw[cf Fj rfl]
 suffices h:aY (cx P sc (n+1)) [some .ct,some (.ref st),some (.int l.i),some (.str k.s),some (.ref ls),some (.int num),none,none,none] st σ sx.body (λt=>(∀d,G d Γ l f t k)) by
  refine fJ (h) λt s' L' e kp h1=>?_;exact⟨t,s',(congrArg bS e).trans rfl,h1,kp⟩
 refine aO (sJ (sc:=sc) h30 (n:=n) (l:=l) (ks:=[.val k]) hok ca (old (τ:=[.ah [(Mn.val k).ks]]) hls) bC) λbI a1 a2=>?_;refine aY.aL (aJ (aN rfl (aN rfl (aw (dH (aw (bN (by rfl) (nb rfl)) aU) (nb rfl)) aU))) a1) ((bl.add hs).more) ?_;generalize ha:(σ++[O.ah [(Mn.val k).ks]]).length=A at a2;generalize Eu:σ++[O.ah [(Mn.val k).ks]]++bI=ae at a2;have k1:bl st σ ae:=by rw[←Eu];exact(bl.add hs).more
 have hA:A≠st:=ha▸Nat.ne_of_gt ((bl.add hs).state.lt)
 obtain⟨cH,b1,b2⟩:=sJ (sc:=sc) h30 (n:=n) (l:=l.flip) (ks:=[.val (okd l)]) (ls:=ls) (lk:=(Rk l ae.length (ae++[O.ah [(Mn.val .aA).ks]]).length)) (σ:=ae++[.ah [(Mn.val .aA).ks]]++[.ah [(Mn.val .aV).ks]]++[.ah [.ref ae.length,.ref (ae++[O.ah [(Mn.val .aA).ks]]).length]]) hok ca (old (old (old (k1.get (kT hs hls) hls)))) (by
  cases l with
  |z=>exact old (old bC)
  |o=>exact old bC)
 refine aY.aL (s1:=ae++[.ah [(Mn.val .aA).ks]]++[.ah [(Mn.val .aV).ks]]++[.ah [.ref ae.length,.ref (ae++[O.ah [(Mn.val .aA).ks]]).length]]++cH) (v:=.ref (ae++[O.ah [(Mn.val .aA).ks]]++[O.ah [(Mn.val .aV).ks]]++[O.ah [.ref ae.length,.ref (ae++[O.ah [(Mn.val .aA).ks]]).length]]).length) ?_ ((((bl.add k1.state).more).more).more) ?_
 ·refine aJ (aN rfl (aw (x:=.int l.flip.i) (bJ rfl (aD rfl) (by cases l<;>rfl)) (aw (b9 (dH (aw (dH (aw (bN (by rfl) (nb rfl)) aU) (nb rfl)) (aw (dH (aw (bN (by rfl) (nb rfl)) aU) (nb rfl)) aU)) (nb rfl)) (aD rfl) ?_) aU))) b1;cases l with
  |z=>exact da bC rfl (by decide) (by decide)
  |o=>exact da bC rfl (by decide) (by decide)
 generalize hb:(ae++[O.ah [(Mn.val .aA).ks]]++[O.ah [(Mn.val .aV).ks]]++[O.ah [V.ref ae.length,V.ref (ae++[O.ah [(Mn.val .aA).ks]]).length]]).length=D at b2;have Qb:∃τ,ae++[O.ah [(Mn.val .aA).ks]]++[O.ah [(Mn.val .aV).ks]]++[O.ah [V.ref ae.length,V.ref (ae++[O.ah [(Mn.val .aA).ks]]).length]]++cH=ae++τ:=⟨_,by rw[List.append_assoc,List.append_assoc,List.append_assoc]⟩;obtain⟨τ,jQ⟩:=Qb;rw[jQ] at b2 ⊢;have f2:(ae++τ)[A]?=_:=old a2;have k2:bl st σ (ae++τ):=k1.more;have hD:D≠st:=hb▸Nat.ne_of_gt ((bl.add (bl.add (bl.add k1.state).state).state).state.lt);generalize ae++τ=ak at b2 f2 k2;have uX:∀e∈fC l.flip [.val (okd l)] Γ,e.Ok:=λe he=>hok e (jX _ _ _ _ he).2.2.1;have Ew:=bP (qD l.flip [.val (okd l)] Γ) ca;show aY (cx P sc (n+1)) [some .ct,some (.ref st),some (.int l.i),some (.str k.s),some (.ref ls),some (.int num),some (.ref A),some (.ref D),none] st ak _ _;refine aY.ite (Q:=fC l [.val k] Γ≠[]) ?_ (λs3 k3 hQ=>?_) (λs3 k3=>?_)
 ·refine cW (dz.Et (C:=cx P sc (n+1)) (L:=[some .ct,some (.ref st),some (.int l.i),some (.str k.s),some (.ref ls),some (.int num),some (.ref A),some (.ref D),none]) (a:=.cmp .Gt (.aj .Mod (.aa 5) (.int 4)) (.int 0)) (b:=.cmp .NotEq (.aa 6) (.ah .nil)) (c:=.or {.cmp .Eq (.aj .Mod (.aj .FloorDiv (.aa 5) (.int 4)) (.int 3)) (.int 0),.cmp .Eq (.aa 7) (.ah .nil)}) (dz.pure k2.state rfl) (λs1 q1=>dz.full q1.state (λe he=>hok e (jX _ _ _ _ he).2.2.1) rfl (q1.get hA f2)) (λs1 q1=>dz.Ri (dz.pure q1.state rfl) λs2 q2=>dz.void q2.state uX rfl ((q1.trans q2).get hD b2))) λb s e kp q=>?_;exact⟨b,s,e,kp,λh=>(q h).2.1⟩
 ·refine aO (pick (C:=cx P sc (n+1)) (L:=[some .ct,some (.ref st),some (.int l.i),some (.str k.s),some (.ref ls),some (.int num),some (.ref A),some (.ref D),none]) (i:=6) (q:=.aj .FloorDiv (.aa 5) (.int 12)) hQ (bP (qD l [.val k] Γ) ca) rfl (k3.get hA f2) rfl) λe he hp=>?_;refine iY (jX _ _ _ _ he) λh1 h2 _ h3=>?_;have h4:=tN h3;refine aY.ret (t:=.name e.x) (bN (aw rfl (aw hp aU)) (nb rfl)) (.refl k3.state) (λ_=>W.name ?_);rw[h1,←h2,←h4]
 ·have b3:=k3.get hD b2;refine gm (zI B (sc:=sc) (n:=n) (x:=num.fdiv 16) s3) λi fw e3=>?_;refine aY.aL (bN (aw rfl (aw (aJ (aw (bJ (aD rfl) rfl rfl) aU) e3) aU)) (nb rfl)) (bl.add k3.state) ?_;show aY (cx P sc (n+1)) [some .ct,some (.ref st),some (.int l.i),some (.str k.s),some (.ref ls),some (.int num),some (.ref A),some (.ref D),some (Tm.num i).af] st (s3++fw) _ _;have b4:=old (τ:=fw) b3;have s4:St st (s3++fw):=(bl.add k3.state).state;generalize s3++fw=s4 at b4 s4;refine aY.ite (Q:=l=.o/\fC l.flip [.val (okd l)] Γ≠[]) ?_ (λs5 k5 hQ=>?_) (λs5 k5=>?_)
  ·refine cW (dz.Et (C:=cx P sc (n+1)) (L:=[some .ct,some (.ref st),some (.int l.i),some (.str k.s),some (.ref ls),some (.int num),some (.ref A),some (.ref D),some (Tm.num i).af]) (a:=.cmp .Eq (.aa 2) (.int 1)) (b:=.cmp .NotEq (.aa 7) (.ah .nil)) (c:=.cmp .Gt (.aj .Mod (.aa 5) (.int 4)) (.int 0)) (dz.pure (b:=l.i==1) s4 rfl) (λs1 q1=>dz.full q1.state uX rfl (q1.get hD b4)) (λs1 q1=>dz.pure q1.state rfl)) λb s e kp q=>?_;exact⟨b,s,e,kp,λh=>⟨Rj (q h).1,(q h).2.1⟩⟩
  ·refine a5 (hQ) λcz hQ=>?_;clear b3 uX f2 b2 b1 a2 a1;subst cz;refine aO (pick (C:=cx P sc (n+1)) (L:=[some .ct,some (.ref st),some (.int Lv.o.i),some (.str k.s),some (.ref ls),some (.int num),some (.ref A),some (.ref D),some (Tm.num i).af]) (i:=7) (q:=.aj .FloorDiv (.aa 5) (.int 12)) hQ Ew rfl (k5.get hD b4) rfl) λe he hp=>?_;refine iY (jX _ _ _ _ he) λh1 h2 _ h3=>?_;have h4:=tN h3;refine aY.ret (t:=.un .hole (.name e.x)) (bN (aw rfl (aw (bN (aw rfl (aw hp aU)) (nb rfl)) aU)) (nb rfl)) (.refl k5.state) ?_;rw[hlk rfl];refine λ_=>W.jb ?_;rw[h1];obtain⟨ex,el,em⟩:=e;have h2:el=.z:=h2;have h4:em=.val .aV:=h4;rw[h2,h4]
  ·clear f2 b1 a2 Eu ha a1;cases k with
   |aA=>
    exact aY.take (by rfl') (.refl k5.state) (aY.ret (aD rfl) (.refl k5.state) (λ_=>W.num))
   |aV=>
    obtain rfl:l=.z:=yU hlk;refine aY.skip (by rfl') (.refl k5.state) ?_;have b5:=k5.get hD b4;refine aY.ite (Q:=fC Lv.z.flip [.val (okd .z)] Γ≠[]) ?_ (λs6 k6 hQ=>?_) (λs6 k6=>?_)
    ·refine cW (dz.aT (C:=cx P sc (n+1)) (L:=[some .ct,some (.ref st),some (.int Lv.z.i),some (.str Kd.aV.s),some (.ref ls),some (.int num),some (.ref A),some (.ref D),some (Tm.num i).af]) (a:=.cmp .NotEq (.aa 7) (.ah .nil)) (b:=.cmp .Gt (.aj .Mod (.aa 5) (.int 4)) (.int 0)) (dz.full k5.state uX rfl b5) (λs1 q1=>dz.pure q1.state rfl)) λb s e kp q=>?_;exact⟨b,s,e,kp,λh=>(q h).1⟩
    ·refine bB λXx aI=>?_;refine aO (pick (C:=cx P sc (n+1)) (L:=[some .ct,some (.ref st),some (.int Lv.z.i),some (.str Kd.aV.s),some (.ref ls),some (.int num),some (.ref A),some (.ref D),some (Tm.num i).af]) (i:=7) (q:=.aj .FloorDiv (.aa 5) (.int 12)) hQ Ew rfl (k6.get hD b5) rfl) λe he hp=>?_;refine iY (jX _ _ _ _ he) λh1 h2 _ h3=>?_;refine aI ?_;have h4:=tN h3;refine aY.ret (bN (aw rfl (aw (bN (aw rfl (aw hp aU)) (nb rfl)) aU)) (nb rfl)) (.refl k6.state) (λ_=>W.jw ?_);rw[h1];obtain⟨ex,el,em⟩:=e;have h2:el=.o:=h2;have h4:em=.val .aA:=h4;rw[h2,h4]
    ·have hj:=jq B (a:=num.fdiv 16) (b:=2) (by decide);generalize qd:(num.fdiv 16).fmod 2=j at hj;have hex:∃t:Tm,[(Tm.un .lift (.num i)).af,(Tm.un .bE (.num i)).af][j.toNat]?=some t.af/\(∀d,G d Γ .z f t .aV):=by
      have:j.toNat=0∨j.toNat=1:=ER (p6 hj.1 hj.2);rcases this with q|q<;>rw[q]
      ·exact⟨.un .lift (.num i),rfl,λ_=>W.jF⟩
      ·exact⟨.un .bE (.num i),rfl,λ_=>W.jx⟩
     refine aO (hex) λt ht1 Rm=>?_;refine aY.ret (b9 (dH (aw (bN rfl (nb rfl)) (aw (bN rfl (nb rfl)) aU)) (nb rfl)) (bJ (bJ (aD rfl) rfl rfl) rfl (by rw[←qd];rfl)) (da bC ht1 (lI 0x320049049205320 [_] rfl hj.1) (lI 0x700700700700700700700700700790184c04904920588184c [_] rfl hj.2))) (bl.add k6.state) Rm
end
inductive Wd where|aX|bb|def_|when|use|kept|bE|lift|hole|run|aj (u:U2)
def Wd.s:Wd->Str
|.aX=>"let"|.bb=>"turns"|.def_=>"def"|.when=>"when"|.use=>"use"|.kept=>"kept"|.bE=>"quote"|.lift=>"lift"|.hole=>"hole"|.run=>"run"|.aj u=>u.str
def fK:List Wd:=[.aX,.bb,.def_,.when,.use,.use]
def gj:Lv->Kd->Bool->List Wd
|_,.aV,_=>[.bE,.bE,.bE,.bE,.bE,.bE,.lift]
|.o,.aA,_=>[.aj .sum,.aj .sum,.aj .product,.aj .less,.hole,.hole,.kept,.kept,.kept,.kept,.kept]
|.z,.aA,true=>[.aj .sum,.aj .product,.aj .less,.run,.run,.run,.run,.run,.run]
|.z,.aA,false=>[.aj .sum,.aj .product,.aj .less]
def Wd.fits(l:Lv)(k:Kd)(f:Bool):Wd->Prop
|.kept=>l=.o/\k=.aA
|.bE=>k=.aV
|.lift=>k=.aV
|.hole=>l=.o/\k=.aA
|.run=>l=.z/\k=.aA/\f=true
|.aj _=>k=.aA
|_=>True
theorem Iu(l:Lv)(k:Kd)(f:Bool):∀w∈fK++gj l k f,w.fits l k f:=by
 intro w hw;rcases List.mem_append.mp hw with h|h
 ·simp only[fK,List.mem_cons,List.not_mem_nil,or_false] at h;rcases h with rfl|rfl|rfl|rfl|rfl|rfl<;>trivial
 ·clear hw;cases k with
  |aV=>
   have h:w∈[Wd.bE,.bE,.bE,.bE,.bE,.bE,.lift]:=by cases l<;>exact h
   simp only[List.mem_cons,List.not_mem_nil,or_false] at h;rcases h with rfl|rfl|rfl|rfl|rfl|rfl|rfl<;>exact rfl
  |aA=>
   cases l with
   |o=>
    have h:w∈[Wd.aj .sum,.aj .sum,.aj .product,.aj .less,.hole,.hole,.kept,.kept,.kept,.kept,.kept]:=h;simp only[List.mem_cons,List.not_mem_nil,or_false] at h;rcases h with rfl|rfl|rfl|rfl|rfl|rfl|rfl|rfl|rfl|rfl|rfl<;>first|exact rfl|exact⟨rfl,rfl⟩
   |z=>
    cases f with
    |true=>
     have h:w∈[Wd.aj .sum,.aj .product,.aj .less,.run,.run,.run,.run,.run,.run]:=h;simp only[List.mem_cons,List.not_mem_nil,or_false] at h;rcases h with rfl|rfl|rfl|rfl|rfl|rfl|rfl|rfl|rfl<;>first|exact rfl|exact⟨rfl,rfl,rfl⟩
    |false=>
     have h:w∈[Wd.aj .sum,.aj .product,.aj .less]:=h;simp only[List.mem_cons,List.not_mem_nil,or_false] at h;rcases h with rfl|rfl|rfl<;>exact rfl
section
variable{P:Prog}{sc:List Int}
def wv(w:Wd):V:=.str w.s
theorem HC(Rn:P.fns 32=some vq):∃a τ,aq P sc (n+1) 32 [.int l.i,.str k.s,.bool f] σ=.ok (.ref a) (σ++τ)/\σ.length<=a/\(σ++τ)[a]?=some (.ah ((fK++gj l k f).map wv)):=by
 refine⟨(σ++[O.ah (fK.map wv)]++[O.ah ((gj l k f).map wv)]).length,[.ah (fK.map wv),.ah ((gj l k f).map wv),.ah ((fK++gj l k f).map wv)],?_,by simp,by simp⟩;have es:σ++[O.ah (fK.map wv),.ah ((gj l k f).map wv),.ah ((fK++gj l k f).map wv)]=σ++[.ah (fK.map wv)]++[.ah ((gj l k f).map wv)]++[.ah ((fK++gj l k f).map wv)]:=by simp
 have hadd:binop .Add (.ref σ.length) (.ref (σ++[O.ah (fK.map wv)]).length) (σ++[.ah (fK.map wv)]++[.ah ((gj l k f).map wv)])=.ok (.ref (σ++[O.ah (fK.map wv)]++[O.ah ((gj l k f).map wv)]).length) (σ++[.ah (fK.map wv)]++[.ah ((gj l k f).map wv)]++[.ah ((fK++gj l k f).map wv)]):=by
  refine(List.map_append)▸?_;exact add_lists (old bC) bC (by(clear es;cases k)<;>cases l<;>cases f<;>exact nb rfl)
 rw[cf Rn rfl,es];refine(congrArg bS (a4 (dH rfl (nb rfl)))).trans ?_;clear es;cases k with
|aV=>
  refine(congrArg bS (bT (by rfl') (bf (bJ (aD rfl) (dH (by cases l<;>rfl) (by cases l<;>exact nb rfl)) hadd)))).trans rfl
|aA=>
  cases l with
  |o=>exact(congrArg bS ((bY (by rfl')).trans (bT (by rfl') (bf (bJ (aD rfl) (dH rfl (nb rfl)) hadd))))).trans rfl
  |z=>
   cases f with
   |true=>exact(congrArg bS ((bY (by rfl')).trans ((bY (by rfl')).trans (bT (by rfl') (bf (bJ (aD rfl) (dH rfl (nb rfl)) hadd)))))).trans rfl
   |false=>exact(congrArg bS ((bY (by rfl')).trans ((bY (by rfl')).trans ((bY (by rfl')).trans (bf (bJ (aD rfl) (dH rfl (nb rfl)) hadd)))))).trans rfl
variable(B:Base P)
include B
theorem HD(hs:sc.length<=63)(hst:σ[st]?=some (.ah [.int k,.int c]))(hk:0<=k):
  aq P sc (n+3) 8 [.ct,.ref st] σ=.ok (.int (mixed sc (k+1))) (σ.set st (.ah [.int (k+1),.int c])):=by rw[cf B.next rfl];exact(congrArg bS ((dt (jo (bJ (b9 (aD rfl) rfl (da hst rfl (by decide) (by decide))) rfl rfl) (aD rfl) rfl (mz hst ⟨by decide,(by decide:(0:Int)<2),nb rfl⟩))).trans (bf (aJ (aN rfl (aw (b9 (aD rfl) rfl (da (gi hst) rfl (by decide) (by decide))) aU)) (vz B (lI 0x61320049049205320 [_] rfl hk) hs _))))).trans rfl
omit B in
theorem bl.turn(hst:σ[st]?=some (.ah [.int k,.int c]))(hk:0<=k'):bl st σ (σ.set st (.ah [.int k',.int c'])):=by refine⟨⟨k',c',hk,gi hst⟩,by simp,λi h1 _=>?_⟩;rw[List.getElem?_set_ne (Ne.symm h1)]
omit B in
theorem Du{C:Ctx}{L:aR}{s:H}{is:List Int}{es:EL}{q:E}{num m:Int}(hes:dc C es L s=.ok (is.map .int) s)(hl:is.length<=100)(hm:m=is.length)(hm0:0<m)(hq:ao C q L (s++[.ah (is.map .int)])=.ok (.int num) (s++[.ah (is.map .int)])):
  ∃i∈is,ao C (.au (.ah es) (.aj .Mod q (.int m))) L s=.ok (.int i) (s++[.ah (is.map .int)]):=by
 have h0:0<=num.fmod m:=Int.fmod_nonneg_of_pos _ hm0;have h1:num.fmod m<m:=Int.fmod_lt_of_pos _ hm0;refine bZ (Int.eq_ofNat_of_zero_le h0) λj hj=>?_;have hj':j<is.length:=yv (hm▸h1) hj;have hlim:(1000000:Nat)<=aM:=aQ _;refine⟨is[j],List.getElem_mem hj',b9 (dH hes (by rw[List.length_map];exact lN 0xd3012412412481641e13053401c91f41e3 [_,_] rfl hl hlim)) (bJ (r:=.int j) hq rfl ?_) (da bC ?_ (by exact lI 0xc80124024124124814d80630d [_,_] rfl h0 hj) (by exact lI 0x1c01c01c01c01c01c01c01c01c01e40613012412412481641e134534184c [_,_] rfl (Int.ofNat_le.mpr hl) (Int.ofNat_lt.mpr hj')))⟩
 ·exact tL hm0 hj
 ·simp[hj']
omit B in
theorem BL{C:Ctx}{L:aR}{s:H}{l:Lv}(hv:cm L i=some (.int l.i))(hq:ao C q L (s++[.ah [.str Kd.aA.s,.str Kd.aV.s]])=.ok (.int num) (s++[.ah [.str Kd.aA.s,.str Kd.aV.s]])):
  ∃k:Kd,ao C (.au (.ah {.str "number",.str "piece"}) (.aj .Mult (.aj .Mod q (.int 2)) (.aj .Sub (.int 1) (.aa i)))) L s=.ok (.str k.s) (s++[.ah [.str Kd.aA.s,.str Kd.aV.s]])/\(l=.o->k=.aA):=by
 have h0:0<=num.fmod 2:=Int.fmod_nonneg_of_pos _ (by decide);have h1:num.fmod 2<2:=Int.fmod_lt_of_pos _ (by decide);have hx:∃k:Kd,[V.str Kd.aA.s,V.str Kd.aV.s][(num.fmod 2*(1-l.i)).toNat]?=some (.str k.s)/\(l=.o->k=.aA)/\0<=num.fmod 2*(1-l.i)/\num.fmod 2*(1-l.i)<2:=by
  rcases m2 num with q|q<;>(refine q.symm▸?_)<;>(clear hv;cases l)
  ·exact⟨.aA,rfl,λ_=>rfl,by decide,by decide⟩
  ·exact⟨.aA,rfl,λ_=>rfl,by decide,by decide⟩
  ·exact⟨.aV,rfl,(λh=>by cases h),by decide,by decide⟩
  ·exact⟨.aA,rfl,λ_=>rfl,by decide,by decide⟩
 refine n3 (hx) λk hk hlk b0 b1=>?_;refine⟨k,b9 (dH rfl (nb rfl)) (bJ (bJ hq rfl rfl) (bJ rfl (aD hv) rfl) ?_) (da bC hk b0 (lI 0x700700700700700700700700700790184c04904920588184c [_] rfl b1)),hlk⟩;rw[jl,if_pos (by(clear b1 b0 hlk hk hx hv;cases l)<;>(rw[Bool.or_eq_true];exact .inr (by decide)))];rfl
omit B in
theorem qE(hv:cm L i=some (.ref ls))(hls:s[ls]?=some (.ah (Γ.map Ent.v)))(he:ao C a L s=.ok e.v s)(ca:Γ.length<=100000):
  ao C (.aj .Add (.aa i) (.ah {a})) L s=.ok (.ref (s++[O.ah [e.v]]).length) (s++[.ah [e.v]]++[.ah ((Γ++[e]).map Ent.v)]):=by have hlim:(1000000:Nat)<=aM:=aQ _;refine bJ (aD hv) (dH (aw he aU) (nb rfl)) ?_;refine(List.map_append)▸?_;exact add_lists (old hls) bC (by rw[List.length_map];show Γ.length+1<=aM;exact lN 0xd0613012412412481601da1f83053401c91f41e3 [_,_] rfl ca hlim)
def Tw(G:Nat->Sc->Lv->Bool->Tm->Kd->Prop)(d:Nat)(Γ:Sc)(t:Tm):Prop:=∃y i b c,t=.aX y (.num i) (.aj .sum b c)/\G 0 (Γ++[⟨y,.o,.val .aA⟩]) .o false b .aA/\G d (Γ++[⟨y,.o,.val .aA⟩]) .o false c .aA
def mG(G:Nat->Sc->Lv->Bool->Tm->Kd->Prop)(P:Prog)(sc:List Int)(d:Nat):Prop:=∀(n:Nat),3*d+8<=n->∀(Γ:Sc)(l:Lv)(k:Kd)(f:Bool)(st ls:Nat)(σ:H),St st σ->σ[ls]?=some (.ah (Γ.map Ent.v))->(∀e∈Γ,e.Ok)->Γ.length+3*d<=1000->(l=.o->k=.aA)->
 ∃t ag,aq P sc n 33 [.ct,.ref st,.int l.i,.str k.s,.ref ls,.int d,.bool f] σ=.ok t.af ag/\G d Γ l f t k/\bl st σ ag
omit B in
theorem nY{Γ:Sc}(h:∀e∈Γ,e.Ok)(he:e.Ok):∀e'∈Γ++[e],e'.Ok:=λe' h'=>by
 rcases List.mem_append.mp h' with q|q
 ·exact h e' q
 ·(refine(List.mem_singleton.mp q)▸?_);exact he
end
section
variable{C:Ctx}{L L1:aR}{σ ae ak bX:H}{a b:E}{x y r:V}
theorem M4(h1:ao C a L σ=.ok x ae)(h2:ao C b L ae=.ok y ak)(h3:tY x y ak=.ok r bX):ao C (.max2 a b) L σ=.ok r bX:=by(refine IM▸?_;refine(aW h1)▸?_;refine(aW h2)▸?_;refine h3▸?_;with_reducible rfl)
theorem wA{i d c:Nat}(hv:cm L i=some (.int d))(hc:1<=c):ao C (.max2 (.int 0) (.aj .Sub (.aa i) (.int c))) L σ=.ok (.int ((d-c:Nat):Int)) σ:=by
 refine M4 rfl (bJ (aD hv) rfl rfl) ?_;refine congrArg (λi=>Res.ok (V.int i) σ) ?_;rcases Nat.lt_or_ge c d with h|h
 ·exact(if_pos (Int.sub_pos_of_lt (Int.ofNat_lt.mpr h))).trans (Int.ofNat_sub (Nat.le_of_lt h)).symm
 ·exact(if_neg (λq=>Nat.not_lt.mpr h (Int.ofNat_lt.mp (Int.lt_of_sub_pos q)))).trans (congrArg Int.ofNat (Nat.sub_eq_zero_of_le h)).symm
theorem Ll(h1:ao C a L σ=.ok (.ref l) ae)(hl:ae[l]?=some (.ah vs))(h2:Qh.N.fM is vs L ae=.ok () L1 ae):cG C (.gY is a) L σ=.ok .next L1 ae:=by simp only[Bq,Qh.N.bind,Qh.N.lift,h1,dY hl,h2,Qh.N.pure]
end
section
variable{P:Prog}{sc:List Int}
structure pW(P:Prog)(G:Nat->Sc->Lv->Bool->Tm->Kd->Prop):Prop extends Base P where
 uY:P.fns 30=some qu
 Fm:P.fns 31=some sx
 f32:P.fns 32=some vq
 Fo:P.fns 33=some sy
 Fp:P.fns 34=some vr
 Ft:P.fns 35=some sb
 gr:Gr G
variable{G:Nat->Sc->Lv->Bool->Tm->Kd->Prop}(B:pW P G)(hs:sc.length<=63)
include B hs
theorem wB(hv:cm L 0=some .ct)(h0:i0=.int a)(h1:i1=.int b)(h2:i2=.int c)(h3:i3=.int d)(hq:∀s,ao (cx P sc (n+3)) q L s=.ok (.int num) s):
  ∃x τ,ao (cx P sc (n+3)) (.call 7 {.aa 0,.au (.ah {i0,i1,i2,i3}) (.aj .Mod q (.int 4))}) L s=.ok (.str x) (s++τ)/\V.cQ (.str x)=true:=by subst h0 h1 h2 h3;refine bB λXx aI=>?_;refine aO (Du (C:=cx P sc (n+3)) (L:=L) (s:=s) (is:=[a,b,c,d]) (m:=4) (q:=q) (num:=num) (es:=.cons (.int a) {.int b,.int c,.int d}) rfl (nb rfl) rfl (by decide) (hq _)) λi _ hi=>?_;refine bo (Il B.toBase (sc:=sc) (n:=n) (w:=i) hs (s++[.ah ([a,b,c,d].map .int)])) λx τ h4 h5=>?_;refine aI ?_;refine⟨x,[.ah ([a,b,c,d].map .int)]++τ,?_,G3 h5⟩;rw[←List.append_assoc];exact aJ (aN hv (aw hi aU)) h4
theorem HE(ih:mG G P sc d)(hn:3*d+8<=n)(hst:St st σ)(hls:σ[ls]?=some (.ah (Γ.map Ent.v)))(hok:∀e∈Γ,e.Ok)(ca:Γ.length+1+3*d<=1000):
  ∃t ag,aq P sc (n+1) 34 [.ct,.ref st,.ref ls,.int d,.int num] σ=.ok t.af ag/\Tw G d Γ t/\bl st σ ag:=by
 obtain⟨m,rfl⟩:∃m,n=m+3:=⟨n-3,by exact cj (lN 0x18c28cc308049201241248 [_] rfl) (lN 0x3018c28cc201248049009049205301a04363 [_,_] rfl hn)⟩;rw[cf B.Fp rfl]
 suffices h:aY (cx P sc (m+3)) [some .ct,some (.ref st),some (.ref ls),some (.int d),some (.int num),none,none,none,none,none] st σ vr.body (λt=>Tw G d Γ t) by
  refine fJ (h) λt s' L' e kp h1=>?_;exact⟨t,s',(congrArg bS e).trans rfl,h1,kp⟩
 obtain⟨x,bI,e1,fx⟩:=wB B hs (n:=m) (L:=[some .ct,some (.ref st),some (.ref ls),some (.int d),some (.int num),none,none,none,none,none]) (s:=σ) (q:=.aa 4) (num:=num) rfl rfl rfl rfl rfl (λ_=>aD rfl);refine aY.aL e1 (bl.add hst) ?_;have k1:bl st σ (σ++bI):=bl.add hst;have uE:=old (τ:=bI) hls;generalize σ++bI=s1 at k1 uE;have Ro:Ent.Ok ⟨x,.o,.val .aA⟩:=⟨fx,λ_=>.inl rfl⟩;refine aY.aL (qE (e:=⟨x,.o,.val .aA⟩) rfl uE (bN (aN rfl (aw rfl (aw (bN (by rfl) (nb rfl)) aU))) (nb rfl)) (by exact lN 0x807687e0c049049205a07bc110d8c184c [_,_] rfl ca)) ((bl.add k1.state).more) ?_;have hm1:=bC (σ:=s1++[O.ah [Ent.v ⟨x,.o,.val .aA⟩]]) (o:=.ah ((Γ++[(⟨x,.o,.val .aA⟩:Ent)]).map Ent.v));have k2:bl st s1 (s1++[O.ah [Ent.v ⟨x,.o,.val .aA⟩]]++[.ah ((Γ++[(⟨x,.o,.val .aA⟩:Ent)]).map Ent.v)]):=(bl.add k1.state).more;generalize (s1++[O.ah [Ent.v ⟨x,.o,.val .aA⟩]]).length=lm at hm1;generalize s1++[O.ah [Ent.v ⟨x,.o,.val .aA⟩]]++[.ah ((Γ++[(⟨x,.o,.val .aA⟩:Ent)]).map Ent.v)]=s2 at hm1 k2;have oN:=nY hok Ro;have ox:(Γ++[(⟨x,.o,.val .aA⟩:Ent)]).length+3*d<=1000:=by(refine(List.length_append)▸?_;refine(List.length_singleton)▸?_);assumption
 have hx:look (Γ++[(⟨x,.o,.val .aA⟩:Ent)]) x=some ⟨x,.o,.val .aA⟩:=by rw[fS,beq_self_eq_true];rfl
 generalize Fu:Γ++[(⟨x,.o,.val .aA⟩:Ent)]=Δ at hm1 oN ox hx;have Fv:=kT k2.state hm1;refine aO (sJ (sc:=sc) B.uY (n:=m+2) (l:=.z) (ks:=[.val .aV]) oN (by exact lN 0x807687e0c049049205a07bc110d8cc [_,_] rfl ox) (old (τ:=[.ah [(Mn.val .aV).ks]]) hm1) bC) λfw b1 b2=>?_;refine aY.aL (aJ (aN rfl (aw rfl (aw (dH (aw (bN (by rfl) (nb rfl)) aU) (nb rfl)) aU))) b1) ((bl.add k2.state).more) ?_;have k3:bl st s2 (s2++[O.ah [(Mn.val .aV).ks]]++fw):=(bl.add k2.state).more;have hA:(s2++[O.ah [(Mn.val .aV).ks]]).length≠st:=Nat.ne_of_gt (bl.add k2.state).state.lt;generalize (s2++[O.ah [(Mn.val .aV).ks]]).length=A at b2 hA;generalize s2++[O.ah [(Mn.val .aV).ks]]++fw=s3 at b2 k3;refine aY.aL (v:=(Tm.name x).af) (s1:=s3) (bN rfl (nb rfl)) (.refl k3.state) ?_;have hone:∃one s4,cG (cx P sc (m+3)) (.ite (.cmp .NotEq (.aa 7) (.ah .nil)) {.aL 8 (.aB {.str "hole",.aB {.str "name",.au (.au (.aa 7) (.aj .Mod (.aj .FloorDiv (.aa 4) (.int 4)) (.len (.aa 7)))) (.int 0)}})} .nil) [some .ct,some (.ref st),some (.ref ls),some (.int d),some (.int num),some (.str x),some (.ref lm),some (.ref A),some (Tm.name x).af,none] s3=
   .ok .next [some .ct,some (.ref st),some (.ref ls),some (.int d),some (.int num),some (.str x),some (.ref lm),some (.ref A),some (Tm.af one),none] s4/\bl st s3 s4/\G 0 Δ .o false one .aA:=by
  refine cW (dz.full (C:=cx P sc (m+3)) (L:=[some .ct,some (.ref st),some (.ref ls),some (.int d),some (.int num),some (.str x),some (.ref lm),some (.ref A),some (Tm.name x).af,none]) (i:=7) k3.state (λe he=>oN e (jX _ _ _ _ he).2.2.1) rfl b2) λb s4 e4 k4 q4=>?_;cases b with
  |false=>exact⟨.name x,s4,(nK e4).trans fq,k4,B.gr.name hx⟩
  |true=>
   refine bB λXx aI=>?_;refine aO (pick (C:=cx P sc (m+3)) (L:=[some .ct,some (.ref st),some (.ref ls),some (.int d),some (.int num),some (.str x),some (.ref lm),some (.ref A),some (Tm.name x).af,none]) (i:=7) (q:=.aj .FloorDiv (.aa 4) (.int 4)) (q4 rfl) (bP (qD _ _ _) (by exact lN 0x807687e0c049049205a07bc110d8cc [_,_] rfl ox)) rfl (k4.get hA b2) rfl) λe he hp=>?_;refine iY (jX _ _ _ _ he) λh1 h2 _ h3=>?_;refine aI ?_;have h4:=tN h3;refine⟨.un .hole (.name e.x),s4,(kH e4).trans ((a4 (bN (aw rfl (aw (bN (aw rfl (aw hp aU)) (nb rfl)) aU)) (nb rfl))).trans fq),k4,B.gr.jb ?_⟩;refine h1▸?_;obtain⟨ex,el,em⟩:=e;have h2:el=.z:=h2;have h4:em=.val .aV:=h4;refine h2▸?_;refine h4▸?_;with_reducible rfl
 refine cW (hone) λone s4 e4 k4 hk1=>?_;refine aY.step e4 k4 ?_;refine cW (ih (m+3) hn Δ .o .aA false st lm s4 k4.state (k4.get Fv (k3.get Fv hm1)) oN ox (λ_=>rfl)) λt s5 e5 hk2 k5=>?_;refine aY.aL (aJ rfl e5) k5 ?_;refine aY.ret (bN (aw rfl (aN rfl (aw (bN (aw rfl (aw (bJ (bJ (aD rfl) rfl rfl) rfl rfl) aU)) (nb rfl)) (aw (bN rfl (nb rfl)) aU)))) (nb rfl)) (.refl k5.state) ⟨x,_,one,t,rfl,?_,?_⟩
 ·(refine Fu▸?_);exact hk1
 ·(refine Fu▸?_);exact hk2
end
def ez(st lw ls:Nat)(d:Nat)(num:Int)(x f gH Rp Rq uP Rr:Option V)(w:Wd)(l:Lv)(k:Kd)(fr:Bool)(one many oO:Option V):aR:=
 [some .ct,some (.ref st),some (.ref lw),some (.ref ls),some (.int d),some (.int num),x,f,gH,Rp,Rq,uP,Rr,some (wv w),some (.int l.i),some (.str k.s),some (.bool fr),one,many,oO]
def rL:SL:=match sb.body with
|.cons _ (.cons _ (.cons _ (.cons _ (.cons _ r))))=>r
|_=>.nil
def Qc:SL:=match rL with
|.cons _ (.cons _ (.cons _ r))=>r
|_=>.nil
section
variable{P:Prog}{sc:List Int}{G:Nat->Sc->Lv->Bool->Tm->Kd->Prop}(B:pW P G)(hs:sc.length<=63)
include B hs
theorem HF(hv:cm L i=some (.ref ls))(hls:s[ls]?=some (.ah (Γ.map Ent.v)))(he:ao C a L s=.ok e.v s)(he':ao C b L s=.ok e'.v s)(ca:Γ.length<=100000):
  ao C (.aj .Add (.aa i) (.ah {a,b})) L s=.ok (.ref (s++[O.ah [e.v,e'.v]]).length) (s++[.ah [e.v,e'.v]]++[.ah ((Γ++[e]++[e']).map Ent.v)]):=by have hlim:(1000000:Nat)<=aM:=aQ _;refine bJ (aD hv) (dH (aw he (aw he' aU)) (nb rfl)) ?_;rw[show(Γ++[e]++[e']).map Ent.v=Γ.map Ent.v++[e.v,e'.v] by simp];exact add_lists (old hls) bC (by rw[List.length_map];show Γ.length+2<=aM;exact lN 0xd0623012412412481601da1f83053401c91f41e3 [_,_] rfl ca hlim)
theorem Iv(ih:∀d'≤d,mG G P sc d')(hn:3*d+9<=n+3)(hst:St st s)(hls:s[ls]?=some (.ah (Γ.map Ent.v)))(hok:∀e∈Γ,e.Ok)(ca:Γ.length+3+3*d<=1000)(fx:V.cQ (.str x)=true)(ff:V.cQ (.str f)=true):
  aY (cx P sc (n+3)) (ez st lw ls d num (some (.str x)) (some (.str f)) (some gH) none none none none .kept .o .aA fr none none none) st s rL (λt=>G (d+1) Γ .o fr t .aA):=by
 have hne:=kT hst hls;refine aY.take (s1:=s) (by rfl') (.refl hst) ?_;refine gm (zI B.toBase (sc:=sc) (n:=n+2) (x:=num.fdiv 18) s) λi oP e0=>?_;refine aY.aL (v:=(Tm.num i).af) (bN (aw rfl (aw (aJ (aw (bJ (r:=.int (num.fdiv 18)) (aD rfl) rfl rfl) aU) e0) aU)) (nb rfl)) (bl.add hst) ?_;have k0:bl st s (s++oP):=bl.add hst;generalize s++oP=s0 at k0;have m4:=k0.get hne hls;have hone:∃one s1,cG (cx P sc (n+3)) (.ite (.cmp .Eq (.aj .Mod (.aj .FloorDiv (.aa 5) (.int 16)) (.int 2)) (.int 0)) {.aL 17 (.call 33 {.aa 0,.aa 1,.int 1,.str "number",.aa 3,.max2 (.int 0) (.aj .Sub (.aa 4) (.int 1)),.bool false})} .nil) (ez st lw ls d num (some (.str x)) (some (.str f)) (some gH) none none none none .kept .o .aA fr (some (Tm.num i).af) none none) s0=
   .ok .next (ez st lw ls d num (some (.str x)) (some (.str f)) (some gH) none none none none .kept .o .aA fr (some (Tm.af one)) none none) s1/\bl st s0 s1/\G (d-1) Γ .o false one .aA:=by
  have ht:bR (cx P sc (n+3)) (.cmp .Eq (.aj .Mod (.aj .FloorDiv (.aa 5) (.int 16)) (.int 2)) (.int 0)) (ez st lw ls d num (some (.str x)) (some (.str f)) (some gH) none none none none .kept .o .aA fr (some (Tm.num i).af) none none) s0=.ok ((num.fdiv 16).fmod 2==0) s0:=rfl;cases hb:((num.fdiv 16).fmod 2==0) with
  |false=>rw[hb] at ht;exact⟨.num i,s0,(nK ht).trans fq,.refl k0.state,B.gr.num⟩
  |true=>
   rw[hb] at ht;refine cW (ih (d-1) (Nat.sub_le _ _) (n+3) (by exact lN 0x63341a040a1323201240241248049009049205063341a44323 [_,_] rfl hn) Γ .o .aA false st ls s0 k0.state m4 hok (by exact lN 0xa07bc110284d8cc201240241248049009049205a07bc110d8c18cc [_,_] rfl ca) (λ_=>rfl)) λt s1 e1 h1 k1=>?_;exact⟨t,s1,(kH ht).trans ((a4 (aJ (aN rfl (aN rfl (aw rfl (aw rfl (aN rfl (aw (wA (d:=d) (c:=1) rfl (aQ _)) (by rfl))))))) e1)).trans fq),k1,h1⟩
 obtain⟨one,s1,e1,k1,hk1⟩:=hone;refine aY.step e1 k1 ?_;refine aY.aL (HF B hs (e:=⟨x,.o,.val .aA⟩) (e':=⟨f,.z,.val .aV⟩) rfl (k1.get hne m4) (bN (aN rfl (aw rfl (aw (bN (by rfl) (nb rfl)) aU))) (nb rfl)) (bN (aN rfl (aw rfl (aw (bN (by rfl) (nb rfl)) aU))) (nb rfl)) (by exact lN 0x807687e0c049049205a07bc110d8c18cc [_,_] rfl ca)) ((bl.add k1.state).more) ?_;have hm2:=bC (σ:=s1++[O.ah [Ent.v ⟨x,.o,.val .aA⟩,Ent.v ⟨f,.z,.val .aV⟩]]) (o:=.ah ((Γ++[(⟨x,.o,.val .aA⟩:Ent)]++[(⟨f,.z,.val .aV⟩:Ent)]).map Ent.v));have k2:bl st s1 (s1++[O.ah [Ent.v ⟨x,.o,.val .aA⟩,Ent.v ⟨f,.z,.val .aV⟩]]++[.ah ((Γ++[(⟨x,.o,.val .aA⟩:Ent)]++[(⟨f,.z,.val .aV⟩:Ent)]).map Ent.v)]):=(bl.add k1.state).more;generalize (s1++[O.ah [Ent.v ⟨x,.o,.val .aA⟩,Ent.v ⟨f,.z,.val .aV⟩]]).length=lm at hm2;generalize s1++[O.ah [Ent.v ⟨x,.o,.val .aA⟩,Ent.v ⟨f,.z,.val .aV⟩]]++[.ah ((Γ++[(⟨x,.o,.val .aA⟩:Ent)]++[(⟨f,.z,.val .aV⟩:Ent)]).map Ent.v)]=s2 at hm2 k2;have oN:∀e∈Γ++[(⟨x,.o,.val .aA⟩:Ent)]++[(⟨f,.z,.val .aV⟩:Ent)],e.Ok:=nY (nY hok ⟨fx,λ_=>.inl rfl⟩) ⟨ff,λh=>by cases h⟩;have ox:(Γ++[(⟨x,.o,.val .aA⟩:Ent)]++[(⟨f,.z,.val .aV⟩:Ent)]).length=Γ.length+2:=by rw[List.length_append,List.length_append];rfl
 have Qd:∃oO s3,cG (cx P sc (n+3)) (.ite (.cmp .Eq (.aj .Mod (.aj .FloorDiv (.aa 5) (.int 5000)) (.int 2)) (.int 0)) {.aL 19 (.call 34 {.aa 0,.aa 1,.aa 12,.max2 (.int 0) (.aj .Sub (.aa 4) (.int 2)),.aj .FloorDiv (.aa 5) (.int 10000)})} {.aL 19 (.call 33 {.aa 0,.aa 1,.int 1,.str "number",.aa 12,.max2 (.int 0) (.aj .Sub (.aa 4) (.int 1)),.bool false})}) (ez st lw ls d num (some (.str x)) (some (.str f)) (some gH) none none none (some (.ref lm)) .kept .o .aA fr (some (Tm.af one)) none none) s2=
   .ok .next (ez st lw ls d num (some (.str x)) (some (.str f)) (some gH) none none none (some (.ref lm)) .kept .o .aA fr (some (Tm.af one)) none (some (Tm.af oO))) s3/\bl st s2 s3/\(G (d-1) (Γ++[⟨x,.o,.val .aA⟩]++[⟨f,.z,.val .aV⟩]) .o false oO .aA∨Tw G (d-2) (Γ++[⟨x,.o,.val .aA⟩]++[⟨f,.z,.val .aV⟩]) oO):=by
  have ht:bR (cx P sc (n+3)) (.cmp .Eq (.aj .Mod (.aj .FloorDiv (.aa 5) (.int 5000)) (.int 2)) (.int 0)) (ez st lw ls d num (some (.str x)) (some (.str f)) (some gH) none none none (some (.ref lm)) .kept .o .aA fr (some (Tm.af one)) none none) s2=.ok ((num.fdiv 5000).fmod 2==0) s2:=rfl;cases hb:((num.fdiv 5000).fmod 2==0) with
  |false=>
   rw[hb] at ht;obtain⟨t,s3,e3,h1,k3⟩:=ih (d-1) (Nat.sub_le _ _) (n+3) (by exact lN 0x63341a040a1323201240241248049009049205063341a44323 [_,_] rfl hn) _ .o .aA false st lm s2 k2.state hm2 oN (by exact lN 0x281ef0440a13633080490090090490492012402402412412481681ef04436306338606238c [_,_,_] rfl ca ox) (λ_=>rfl);exact⟨t,s3,(nK ht).trans ((a4 (aJ (aN rfl (aN rfl (aw rfl (aw rfl (aN rfl (aw (wA (d:=d) (c:=1) rfl (aQ _)) (by rfl))))))) e3)).trans fq),k3,.inl h1⟩
  |true=>
   rw[hb] at ht;obtain⟨t,s3,e3,h1,k3⟩:=HE B hs (n:=n+2) (num:=num.fdiv 10000) (ih (d-2) (Nat.sub_le _ _)) (lN 0x62341a040a2323201240241248049009049205063341a44323 [_,_] rfl hn) k2.state hm2 oN (lN 0x281ef0440a23630613080490090090490492012402402412412481681ef04436306338606238c [_,_,_] rfl ca ox);exact⟨t,s3,(kH ht).trans ((a4 (aJ (aN rfl (aN rfl (aN rfl (aw (wA rfl (by decide)) (aw (bJ (aD rfl) rfl rfl) aU))))) e3)).trans fq),k3,.inr h1⟩
 refine cW (Qd) λoO s3 e3 k3 Rt=>?_;refine aY.step e3 k3 ?_;refine aY.ret (t:=.aX x one (.un .hole (.aX f (.un .bE (.name x)) (.un .bE oO)))) (s1:=s3) (bN (aw rfl (aN rfl (aN rfl (aw (bN (aw rfl (aw (bN (aw rfl (aN rfl (aw (bN (aw rfl (aw (bN (by rfl) (nb rfl)) aU)) (nb rfl)) (aw (bN rfl (nb rfl)) aU)))) (nb rfl)) aU)) (nb rfl)) aU)))) (nb rfl)) (.refl k3.state) ?_;rcases Rt with q|⟨y,i,b,c,rfl,q1,q2⟩
 ·exact B.gr.kept hk1 q
 ·exact B.gr.twice hk1 q1 q2
end
section
variable{P:Prog}{sc:List Int}{G:Nat->Sc->Lv->Bool->Tm->Kd->Prop}(B:pW P G)(hs:sc.length<=63)
include B hs
theorem w4{l:Lv}{x:Str}{ko:Kd}(fx:V.cQ (.str x)=true)(h:l=.o->ko=.aA):Ent.Ok ⟨x,l,.val ko⟩:=⟨fx,λq=>.inl (by(refine(h q)▸?_;with_reducible rfl))⟩
theorem Iw{d n st lw ls:Nat}{Γ:Sc}{fr:Bool}{l:Lv}{k ko:Kd}{num:Int}{x f:Str}{s:H}(ih:mG G P sc d)(hn:3*d+8<=n)(hst:St st s)(hls:s[ls]?=some (.ah (Γ.map Ent.v)))(hok:∀e∈Γ,e.Ok)(ca:Γ.length+3+3*d<=1000)(fx:V.cQ (.str x)=true)(hlk:l=.o->k=.aA)(hlo:l=.o->ko=.aA):
  aY (cx P sc n) (ez st lw ls d num (some (.str x)) (some (.str f)) (some (.str ko.s)) none none none none .aX l k fr none none none) st s rL (λt=>G (d+1) Γ l fr t k):=by refine aY.skip (by rfl') (.refl hst) (aY.take (by rfl') (.refl hst) ?_);refine cW (ih n hn Γ l ko fr st ls s hst hls hok (lN 0xa07bc110d8cc049049205a07bc110d8c18cc [_,_] rfl ca) hlo) λt s1 e1 h1 k1=>?_;refine aY.aL (aJ rfl e1) k1 ?_;have k2:bl st s1 (s1++[O.ah [Ent.v ⟨x,l,.val ko⟩]]++[.ah ((Γ++[(⟨x,l,.val ko⟩:Ent)]).map Ent.v)]):=(bl.add k1.state).more;refine cW (ih n hn _ l k fr st _ _ k2.state (bC) (nY hok (w4 B hs fx hlo)) (by(refine(List.length_append)▸?_;refine(List.length_singleton)▸?_);exact lN 0xa07bc110d8c184c049049205a07bc110d8c18cc [_,_] rfl ca) hlk) λt2 s3 e3 h3 k3=>?_;refine aY.ret (bN (aw rfl (aN rfl (aN rfl (aw (aJ (aN rfl (aN rfl (aN rfl (aN rfl (aw (qE rfl (k1.get (kT hst hls) hls) (bN (aN rfl (aN rfl (aw (bN rfl (nb rfl)) aU))) (nb rfl)) (lN 0x807687e0c049049205a07bc110d8c18cc [_,_] rfl ca)) rfl))))) e3) aU)))) (nb rfl)) (k2.trans k3) (B.gr.aX h1 h3)
theorem G5{d n st lw ls:Nat}{Γ:Sc}{fr:Bool}{l:Lv}{k:Kd}{num:Int}{gH:V}{x f:Str}{s:H}(ih:mG G P sc d)(hn:3*d+8<=n)(hst:St st s)(hls:s[ls]?=some (.ah (Γ.map Ent.v)))(hok:∀e∈Γ,e.Ok)(ca:Γ.length+3+3*d<=1000)(fx:V.cQ (.str x)=true)(hlk:l=.o->k=.aA):
  aY (cx P sc n) (ez st lw ls d num (some (.str x)) (some (.str f)) (some gH) none none none none .bb l k fr none none none) st s rL (λt=>G (d+1) Γ l fr t k):=by
 have hne:=kT hst hls;refine aY.skip (by rfl') (.refl hst) (aY.skip (by rfl') (.refl hst) (aY.take (by rfl') (.refl hst) ?_));refine aO (Du (C:=cx P sc n) (L:=ez st lw ls d num (some (.str x)) (some (.str f)) (some gH) none none none none .bb l k fr none none none) (s:=s) (is:=[0,1,2,3,2,3,1,9]) (m:=8) (q:=.aj .FloorDiv (.aa 5) (.int 18)) (num:=num.fdiv 18) (es:=.cons (.int 0) {.int 1,.int 2,.int 3,.int 2,.int 3,.int 1,.int 9}) rfl (by decide) rfl (by decide) rfl) λj Qf hj=>?_;have hj0:∀i∈([0,1,2,3,2,3,1,9]:List Int),0<=i/\i<=9:=by decide
 refine aY.aL hj (bl.add hst) ?_;have k0:bl st s (s++[.ah ([0,1,2,3,2,3,1,9].map .int)]):=bl.add hst;generalize s++[.ah ([0,1,2,3,2,3,1,9].map .int)]=s0 at k0;have m4:=k0.get hne hls;have OI:∃j':Int,(0<=j'/\j'<=9)/\cG (cx P sc n) (.ite (.cmp .Gt (.aa 4) (.int 1)) {.aL 18 (.aj .Mod (.aa 18) (.int 4))} .nil) (ez st lw ls d num (some (.str x)) (some (.str f)) (some gH) none none none none .bb l k fr none (some (.int j)) none) s0=
   .ok .next (ez st lw ls d num (some (.str x)) (some (.str f)) (some gH) none none none none .bb l k fr none (some (.int j')) none) s0:=by
  have ht:bR (cx P sc n) (.cmp .Gt (.aa 4) (.int 1)) (ez st lw ls d num (some (.str x)) (some (.str f)) (some gH) none none none none .bb l k fr none (some (.int j)) none) s0=.ok (decide ((1:Int)<d)) s0:=rfl;cases hb:decide ((1:Int)<d) with
  |false=>(replace ht:=hb▸ht);exact⟨j,(hj0 j Qf),(nK ht).trans fq⟩
  |true=>(replace ht:=hb▸ht);exact⟨j.fmod 4,(by have:=jq (P:=P) B.toBase (a:=j) (b:=4) (by decide);exact⟨lI 0x320049049205320 [_] rfl this.1,lI 0xa4c04904920590184c [_] rfl this.2⟩),(kH ht).trans ((a4 (v:=.int (j.fmod 4)) rfl).trans fq)⟩
 refine aO (OI) λj' Ru hj'=>?_;refine aY.step hj' (.refl k0.state) ?_;refine cW (ih n hn Γ l k fr st ls s0 k0.state m4 hok (lN 0xa07bc110d8cc049049205a07bc110d8c18cc [_,_] rfl ca) hlk) λt s1 e1 h1 k1=>?_;refine aY.aL (aJ rfl e1) k1 ?_;have k2:bl st s1 (s1++[O.ah [Ent.v ⟨x,l,.val k⟩]]++[.ah ((Γ++[(⟨x,l,.val k⟩:Ent)]).map Ent.v)]):=(bl.add k1.state).more;refine aY.aL (qE rfl (k1.get hne m4) (bN (aN rfl (aN rfl (aw (bN rfl (nb rfl)) aU))) (nb rfl)) (lN 0x807687e0c049049205a07bc110d8c18cc [_,_] rfl ca)) k2 ?_;refine cW (ih n hn _ l k fr st _ _ k2.state (bC) (nY hok (w4 B hs fx hlk)) (by(refine(List.length_append)▸?_;refine(List.length_singleton)▸?_);exact lN 0xa07bc110d8c184c049049205a07bc110d8c18cc [_,_] rfl ca) hlk) λt2 s3 e3 h3 k3=>?_;refine aY.ret (bN (aw rfl (aN rfl (aN rfl (aN rfl (aw (aJ rfl e3) aU))))) (nb rfl)) k3 (B.gr.bb Ru h1 h3)
theorem AK{d n st lw ls:Nat}{Γ:Sc}{fr:Bool}{w:Wd}{l:Lv}{k ko:Kd}{num:Int}{x f:Str}{s:H}(hw:w=.use∨w=.def_)(ih:mG G P sc d)(hn:3*d+8<=n+1)(hst:St st s)(hls:s[ls]?=some (.ah (Γ.map Ent.v)))(hok:∀e∈Γ,e.Ok)(ca:Γ.length+3+3*d<=1000)(fx:V.cQ (.str x)=true)(ff:V.cQ (.str f)=true)(hlk:l=.o->k=.aA)(hlo:l=.o->ko=.aA):
  aY (cx P sc (n+1)) (ez st lw ls d num (some (.str x)) (some (.str f)) (some (.str ko.s)) none none none none w l k fr none none none) st s rL (λt=>G (d+1) Γ l fr t k):=by
 have hne:=kT hst hls
 let Cc:=cx P sc (n+1)
 let Rv:Tm->Prop:=λt=>G (d+1) Γ l fr t k
 suffices h:aY Cc (ez st lw ls d num (some (.str x)) (some (.str f)) (some (.str ko.s)) none none none none w l k fr none none none) st s Qc Rv by
  rcases hw with rfl|rfl<;>exact aY.skip (s1:=s) (by rfl') (.refl hst) (aY.skip (s1:=s) (by rfl') (.refl hst) (aY.skip (s1:=s) (by rfl') (.refl hst) h))
 refine aO (sJ (sc:=sc) B.uY (n:=n) (l:=l) (ks:=[.fn .aA k,.fn .aV k]) hok (by exact lN 0x807687e0c049049205a07bc110d8c18cc [_,_] rfl ca) (old (τ:=[.ah [(Mn.fn .aA k).ks,(Mn.fn .aV k).ks]]) hls) bC) λoP b1 b2=>?_;refine aY.aL (aJ (aN rfl (aN rfl (aw (dH (vs:=[(Mn.fn .aA k).ks,(Mn.fn .aV k).ks]) (aw (bN (by rfl) (nb rfl)) (aw (bN (by rfl) (nb rfl)) aU)) (nb rfl)) aU))) b1) ((bl.add hst).more) ?_;have k0:bl st s (s++[O.ah [(Mn.fn .aA k).ks,(Mn.fn .aV k).ks]]++oP):=(bl.add hst).more;have hA:(s++[O.ah [(Mn.fn .aA k).ks,(Mn.fn .aV k).ks]]).length≠st:=Nat.ne_of_gt (bl.add hst).state.lt;generalize (s++[O.ah [(Mn.fn .aA k).ks,(Mn.fn .aV k).ks]]).length=A at b2 hA;generalize s++[O.ah [(Mn.fn .aA k).ks,(Mn.fn .aV k).ks]]++oP=s0 at b2 k0;have m4:=k0.get hne hls;show aY Cc (ez st lw ls d num (some (.str x)) (some (.str f)) (some (.str ko.s)) (some (.ref A)) none none none w l k fr none none none) st s0 _ _;refine aY.ite (Q:=w=.use/\fC l [.fn .aA k,.fn .aV k] Γ≠[]) ?_ (λs1 k1 hQ=>?_) (λs1 k1=>?_)
 ·refine cW (dz.aT (C:=Cc) (L:=ez st lw ls d num (some (.str x)) (some (.str f)) (some (.str ko.s)) (some (.ref A)) none none none w l k fr none none none) (a:=.cmp .Eq (.aa 13) (.str "use")) (b:=.cmp .NotEq (.aa 9) (.ah .nil)) (dz.pure (b:=(w.s==("use":Str))) k0.state rfl) (λs1 q1=>dz.full q1.state (λe he=>hok e (jX _ _ _ _ he).2.2.1) rfl (q1.get hA b2))) λb s' e kp q=>?_;refine⟨b,s',e,kp,λh=>⟨?_,(q h).2⟩⟩;rcases hw with rfl|rfl
  ·rfl
  ·exact absurd (q h).1 (by decide+kernel)
 ·refine a5 (hQ) λcz hF=>?_;clear hQ hw;subst cz;obtain⟨e,he,hp⟩:=Dt (C:=Cc) (L:=ez st lw ls d num (some (.str x)) (some (.str f)) (some (.str ko.s)) (some (.ref A)) none none none .use l k fr none none none) (i:=9) (q:=.aj .FloorDiv (.aa 5) (.int 18)) hF (bP (qD l [.fn .aA k,.fn .aV k] Γ) (show Γ.length<=100000 by exact lN 0x807687e0c049049205a07bc110d8c18cc [_,_] rfl ca)) rfl (k1.get hA b2) rfl;refine iY (jX _ _ _ _ he) λh1 h2 hmem h3=>?_;obtain⟨ka,hka⟩:=OF h3;obtain⟨ex,el,em⟩:=e;have h2:el=l:=h2;subst h2 (hka);have hao:el=.o->ka=.aA:=λq=>by
   rcases (hok _ hmem).2 q with r|r
   ·cases r
   ·cases r;rfl
  refine aY.aL hp (.refl k1.state) ?_;refine cW (ih (n+1) hn Γ el ka fr st ls s1 k1.state (k1.get hne m4) hok (by exact lN 0xa07bc110d8cc049049205a07bc110d8c18cc [_,_] rfl ca) hao) λt s2 e2 h4 k2=>?_;refine aY.ret (bN (aw rfl (aw rfl (aw (aJ (aN rfl (aN rfl (aN rfl (aw rfl rfl)))) e2) aU))) (nb rfl)) k2 (B.gr.use h1 h4)
 ·have uE:=k1.get hne m4;refine aO (BL (C:=Cc) (L:=ez st lw ls d num (some (.str x)) (some (.str f)) (some (.str ko.s)) (some (.ref A)) none none none w l k fr none none none) (s:=s1) (l:=l) (i:=14) (q:=.aj .FloorDiv (.aa 5) (.int 18)) (num:=num.fdiv 18) rfl rfl) λkw hkw rZ=>?_;refine aY.aL hkw (bl.add k1.state) ?_;have k2:bl st s1 (s1++[.ah [.str Kd.aA.s,.str Kd.aV.s]]):=bl.add k1.state;generalize s1++[.ah [.str Kd.aA.s,.str Kd.aV.s]]=s2 at k2;have rM:=k2.get hne uE;have Rw:=bC (σ:=s2++[O.ah [Ent.v ⟨x,l,.val ko⟩]]) (o:=.ah ((Γ++[(⟨x,l,.val ko⟩:Ent)]).map Ent.v));have k3:bl st s2 (s2++[O.ah [Ent.v ⟨x,l,.val ko⟩]]++[.ah ((Γ++[(⟨x,l,.val ko⟩:Ent)]).map Ent.v)]):=(bl.add k2.state).more;refine cW (ih (n+1) hn _ l kw false st _ _ k3.state Rw (nY hok (w4 B hs fx hlo)) (by(refine(List.length_append)▸?_;refine(List.length_singleton)▸?_);exact lN 0xa07bc110d8c184c049049205a07bc110d8c18cc [_,_] rfl ca) rZ) λt s4 e4 h4 k4=>?_;refine aY.aL (aJ (aN rfl (aN rfl (aN rfl (aN rfl (aw (qE rfl rM (bN (aN rfl (aN rfl (aw (bN rfl (nb rfl)) aU))) (nb rfl)) (lN 0x807687e0c049049205a07bc110d8c18cc [_,_] rfl ca)) rfl))))) e4) (k3.trans k4) ?_;have k5:bl st s4 (s4++[O.ah [Ent.v ⟨f,l,.fn ko kw⟩]]++[.ah ((Γ++[(⟨f,l,.fn ko kw⟩:Ent)]).map Ent.v)]):=(bl.add k4.state).more;refine aY.aL (qE rfl ((k3.trans k4).get hne rM) (bN (aN rfl (aN rfl (aw (bN rfl (nb rfl)) aU))) (nb rfl)) (lN 0x807687e0c049049205a07bc110d8c18cc [_,_] rfl ca)) k5 ?_;refine cW (ih (n+1) hn _ l k fr st _ _ k5.state (bC) (nY hok ⟨ff,λq=>.inr (by(refine(hlo q).symm▸?_;refine(rZ q)▸?_;with_reducible rfl))⟩) (by(refine(List.length_append)▸?_;refine(List.length_singleton)▸?_);exact lN 0xa07bc110d8c184c049049205a07bc110d8c18cc [_,_] rfl ca) hlk) λt2 s6 e6 h6 k6=>?_;refine aY.ret (bN (aw rfl (aN rfl (aN rfl (aN rfl (aN rfl (aw (aJ rfl e6) aU)))))) (nb rfl)) k6 (B.gr.def_ (λq=>⟨hlo q,rZ q⟩) h4 h6)
end
section
variable{P:Prog}{sc:List Int}{G:Nat->Sc->Lv->Bool->Tm->Kd->Prop}(B:pW P G)(hs:sc.length<=63)
include B hs
theorem HH(hw:w=.aX∨w=.bb∨w=.def_∨w=.use∨(w=.kept/\l=.o/\k=.aA))(ih:∀d'≤d,mG G P sc d')(hn:3*d+9<=n)(hst:St st s)(rZ:s[lw]?=some (.ah [wv w,.int l.i,.str k.s,.bool fr]))(hls:s[ls]?=some (.ah (Γ.map Ent.v)))(hok:∀e∈Γ,e.Ok)(ca:Γ.length+3+3*d<=1000)(hlk:l=.o->k=.aA):
  ∃t ag,aq P sc (n+1) 35 [.ct,.ref st,.ref lw,.ref ls,.int d,.int num] s=.ok t.af ag/\G (d+1) Γ l fr t k/\bl st s ag:=by
 obtain⟨m,rfl⟩:∃m,n=m+3:=⟨n-3,by exact cj (lN 0x18c28cc308049201241248 [_] rfl) (lN 0x3018c28cc201248049009049205301a44363 [_,_] rfl hn)⟩;rw[cf B.Ft rfl]
 suffices h:aY (cx P sc (m+3)) [some .ct,some (.ref st),some (.ref lw),some (.ref ls),some (.int d),some (.int num),none,none,none,none,none,none,none,none,none,none,none,none,none,none] st s sb.body (λt=>G (d+1) Γ l fr t k) by
  refine fJ (h) λt s' L' e kp h1=>?_;exact⟨t,s',(congrArg bS e).trans rfl,h1,kp⟩
 refine aY.step (L1:=ez st lw ls d num none none none none none none none w l k fr none none none) (Ll (aD rfl) rZ rfl) (.refl hst) ?_;obtain⟨x,bI,e1,fx⟩:=wB B hs (n:=m) (L:=ez st lw ls d num none none none none none none none w l k fr none none none) (s:=s) (q:=.aa 5) (num:=num) rfl rfl rfl rfl rfl (λ_=>aD rfl);refine aY.aL e1 (bl.add hst) ?_;have k1:bl st s (s++bI):=bl.add hst;generalize s++bI=s1 at k1;obtain⟨f,cH,e2,ff⟩:=wB B hs (n:=m) (L:=ez st lw ls d num (some (.str x)) none none none none none none w l k fr none none none) (s:=s1) (q:=.aj .FloorDiv (.aa 5) (.int 4)) (num:=num.fdiv 4) rfl rfl rfl rfl rfl (λ_=>rfl);refine aY.aL e2 (bl.add k1.state) ?_;have k2:bl st s1 (s1++cH):=bl.add k1.state;generalize s1++cH=s2 at k2;refine aO (BL (C:=cx P sc (m+3)) (L:=ez st lw ls d num (some (.str x)) (some (.str f)) none none none none none w l k fr none none none) (s:=s2) (l:=l) (i:=14) (q:=.aj .FloorDiv (.aa 5) (.int 16)) (num:=num.fdiv 16) rfl rfl) λko hko hlo=>?_;refine aY.aL hko (bl.add k2.state) ?_;have k3:bl st s2 (s2++[.ah [.str Kd.aA.s,.str Kd.aV.s]]):=bl.add k2.state;generalize s2++[.ah [.str Kd.aA.s,.str Kd.aV.s]]=s3 at k3;have rN:=((k1.trans k2).trans k3).get (kT hst hls) hls;refine aY.aL rfl (.refl k3.state) ?_;rcases hw with rfl|rfl|rfl|rfl|⟨rfl,rfl,rfl⟩
 ·exact Iw B hs (ih d (aQ _)) (lN 0x63341a04323049049205063341a44323 [_,_] rfl hn) k3.state rN hok ca fx hlk hlo
 ·exact G5 B hs (ih d (aQ _)) (lN 0x63341a04323049049205063341a44323 [_,_] rfl hn) k3.state rN hok ca fx hlk
 ·exact AK B hs (.inr rfl) (ih d (aQ _)) (lN 0x61062341a04323049049205063341a44323 [_,_] rfl hn) k3.state rN hok ca fx ff hlk hlo
 ·exact AK B hs (.inl rfl) (ih d (aQ _)) (lN 0x61062341a04323049049205063341a44323 [_,_] rfl hn) k3.state rN hok ca fx ff hlk hlo
 ·exact Iv B hs ih (lN 0x63341a44323049049205063341a44323 [_,_] rfl hn) k3.state rN hok ca fx ff
def pX(st ls:Nat)(l:Lv)(k:Kd)(d:Nat)(fr:Bool)(num:Int)(ws:Option V)(w:Option V)(one gH:Option V):aR:=
 [some .ct,some (.ref st),some (.int l.i),some (.str k.s),some (.ref ls),some (.int d),some (.bool fr),some (.int num),ws,w,one,gH]
def Ex:SL:=match sy.body with
|.cons _ (.cons _ (.cons _ (.cons _ (.cons _ (.cons _ r)))))=>r
|_=>.nil
theorem j4(hv:cm L i=some (.int ((d+1:Nat):Int))):ao C (.aj .Sub (.aa i) (.int 1)) L s=.ok (.int (d:Int)) s:=by refine bJ (aD hv) rfl ?_;exact congrArg (λi=>Res.ok (V.int i) s) (Int.add_sub_cancel (d:Int) 1)
theorem HI(hw:w.fits l k fr)(ih:∀d'≤d,mG G P sc d')(hn:3*d+10<=n)(hst:St st s)(hls:s[ls]?=some (.ah (Γ.map Ent.v)))(hok:∀e∈Γ,e.Ok)(ca:Γ.length+3+3*d<=1000)(hlk:l=.o->k=.aA):
  aY (cx P sc n) (pX st ls l k (d+1) fr num ws (some (wv w)) none none) st s Ex (λt=>G (d+1) Γ l fr t k):=by
 have hne:=kT hst hls;have T:=ih d (aQ _);have bd:(w=.aX∨w=.bb∨w=.def_∨w=.use∨(w=.kept/\l=.o/\k=.aA))->bR (cx P sc n) (.cmp .In (.aa 9) (.aB {.str "let",.str "turns",.str "def",.str "use",.str "kept"})) (pX st ls l k (d+1) fr num ws (some (wv w)) none none) s=.ok true s->
   aY (cx P sc n) (pX st ls l k (d+1) fr num ws (some (wv w)) none none) st s Ex (λt=>G (d+1) Γ l fr t k):=λh1 h2=>by
  obtain⟨m,rfl⟩:∃m,n=m+1:=⟨n-1,by exact cj (lN 0x184284c308049201241248 [_] rfl) (lN 0x30184284c201248049009049205301a84363 [_,_] rfl hn)⟩;refine aY.take h2 (.refl hst) ?_;refine cW (HH B hs (n:=m) (lw:=s.length) (num:=num) h1 ih (by exact lN 0x341a44323049049205061341a84323 [_,_] rfl hn) (bl.add (τ:=[.ah [wv w,.int l.i,.str k.s,.bool fr]]) hst).state bC (old hls) hok ca hlk) λt s2 e2 h3 k2=>?_;exact aY.ret (aJ (aN rfl (aN rfl (aw (dH (by rfl) (nb rfl)) (aN rfl (aw (j4 B hs rfl) (by rfl)))))) e2) ((bl.add hst).trans k2) h3
 cases w with
|aX=>exact bd (.inl rfl) (by rfl')
|bb=>exact bd (.inr (.inl rfl)) (by rfl')
|def_=>exact bd (.inr (.inr (.inl rfl))) (by rfl')
|use=>exact bd (.inr (.inr (.inr (.inl rfl)))) (by rfl')
|kept=>exact bd (.inr (.inr (.inr (.inr ⟨rfl,hw.1,hw.2⟩)))) (by rfl')
|bE=>
  obtain rfl:k=.aV:=hw;obtain rfl:=yU hlk;refine aY.skip (s1:=s) (by rfl') (.refl hst) (aY.take (s1:=s) (by rfl') (.refl hst) ?_);refine cW (T n (by exact lN 0x341a04323049049205341a84323 [_,_] rfl hn) Γ .o .aA false st ls s hst hls hok (by exact lN 0xa07bc110d8cc049049205a07bc110d8c18cc [_,_] rfl ca) (λ_=>rfl)) λt s1 e1 h1 k1=>?_;exact aY.ret (t:=.un .bE t) (bN (aw rfl (aw (aJ (aN rfl (aN rfl (aw rfl (aw rfl (aN rfl (aw (j4 B hs rfl) (by rfl))))))) e1) aU)) (nb rfl)) k1 (B.gr.bE h1)
|hole=>
  obtain⟨rfl,rfl⟩:=hw;refine aY.skip (s1:=s) (by rfl') (.refl hst) (aY.skip (s1:=s) (by rfl') (.refl hst) (aY.take (s1:=s) (by rfl') (.refl hst) ?_));refine cW (T n (lN 0x341a04323049049205341a84323 [_,_] rfl hn) Γ .z .aV false st ls s hst hls hok (lN 0xa07bc110d8cc049049205a07bc110d8c18cc [_,_] rfl ca) (λh=>by cases h)) λt s1 e1 h1 k1=>?_;exact aY.ret (bN (aw rfl (aw (aJ (aN rfl (aN rfl (aw rfl (aw rfl (aN rfl (aw (j4 B hs rfl) rfl)))))) e1) aU)) (nb rfl)) k1 (B.gr.hole h1)
|lift=>
  obtain rfl:k=.aV:=hw;obtain rfl:=yU hlk;refine aY.skip (by rfl') (.refl hst) (aY.skip (by rfl') (.refl hst) (aY.skip (by rfl') (.refl hst) (aY.take (by rfl') (.refl hst) ?_)));refine cW (T n (lN 0x341a04323049049205341a84323 [_,_] rfl hn) Γ .z .aA fr st ls s hst hls hok (lN 0xa07bc110d8cc049049205a07bc110d8c18cc [_,_] rfl ca) (λ_=>rfl)) λt s1 e1 h1 k1=>?_;exact aY.ret (bN (aw rfl (aw (aJ (aN rfl (aN rfl (aw rfl (aw rfl (aN rfl (aw (j4 B hs rfl) rfl)))))) e1) aU)) (nb rfl)) k1 (B.gr.lift h1)
|run=>
  obtain⟨rfl,rfl,rfl⟩:=hw;refine aY.skip (by rfl') (.refl hst) (aY.skip (by rfl') (.refl hst) (aY.skip (by rfl') (.refl hst) (aY.skip (by rfl') (.refl hst) (aY.take (by rfl') (.refl hst) ?_))));refine cW (T n (lN 0x341a04323049049205341a84323 [_,_] rfl hn) Γ .z .aV true st ls s hst hls hok (lN 0xa07bc110d8cc049049205a07bc110d8c18cc [_,_] rfl ca) (λh=>by cases h)) λt s1 e1 h1 k1=>?_;exact aY.ret (bN (aw rfl (aw (aJ (aN rfl (aN rfl (aw rfl (aw rfl (aN rfl (aw (j4 B hs rfl) rfl)))))) e1) aU)) (nb rfl)) k1 (B.gr.run h1)
|aj u=>
  obtain rfl:k=.aA:=hw;refine cW (T n (lN 0x341a04323049049205341a84323 [_,_] rfl hn) Γ l .aA fr st ls s hst hls hok (lN 0xa07bc110d8cc049049205a07bc110d8c18cc [_,_] rfl ca) (λ_=>rfl)) λt s1 e1 h1 k1=>?_;refine cW (T n (lN 0x341a04323049049205341a84323 [_,_] rfl hn) Γ l .aA fr st ls s1 k1.state (k1.get hne hls) hok (lN 0xa07bc110d8cc049049205a07bc110d8c18cc [_,_] rfl ca) (λ_=>rfl)) λt2 s2 e2 h3 k2=>?_;refine aY.skip (by(clear bd;cases u)<;>rfl') (.refl hst) (aY.skip (by(clear bd;cases u)<;>rfl') (.refl hst) (aY.skip (by(clear bd;cases u)<;>rfl') (.refl hst) (aY.skip (by(clear bd;cases u)<;>rfl') (.refl hst) (aY.skip (by(clear bd;cases u)<;>rfl') (.refl hst) ?_))));refine aY.aL (aJ (aN rfl (aN rfl (aN rfl (aw rfl (aN rfl (aw (j4 B hs rfl) rfl)))))) e1) k1 ?_;refine aY.take (by(clear bd;cases u)<;>rfl') (.refl k1.state) ?_;exact aY.ret (bN (aN rfl (aN rfl (aw (aJ (aN rfl (aN rfl (aN rfl (aw rfl (aN rfl (aw (j4 B hs rfl) rfl)))))) e2) aU))) (nb rfl)) k2 (B.gr.aj h1 h3)
|when=>
  refine bB λXx aI=>?_;refine cW (T n (lN 0x341a04323049049205341a84323 [_,_] rfl hn) Γ l .aA fr st ls s hst hls hok (lN 0xa07bc110d8cc049049205a07bc110d8c18cc [_,_] rfl ca) (λ_=>rfl)) λt s1 e1 h1 k1=>?_;refine cW (T n (lN 0x341a04323049049205341a84323 [_,_] rfl hn) Γ l k fr st ls s1 k1.state (k1.get hne hls) hok (lN 0xa07bc110d8cc049049205a07bc110d8c18cc [_,_] rfl ca) hlk) λt2 s2 e2 h3 k2=>?_;refine cW (T n (lN 0x341a04323049049205341a84323 [_,_] rfl hn) Γ l k fr st ls s2 k2.state ((k1.trans k2).get hne hls) hok (lN 0xa07bc110d8cc049049205a07bc110d8c18cc [_,_] rfl ca) hlk) λt3 s3 e3 h5 k3=>?_;refine aI ?_;refine aY.skip (by rfl') (.refl hst) (aY.skip (by rfl') (.refl hst) (aY.skip (by rfl') (.refl hst) (aY.skip (by rfl') (.refl hst) (aY.skip (by rfl') (.refl hst) ?_))));refine aY.aL (aJ (aN rfl (aN rfl (aN rfl (aw rfl (aN rfl (aw (j4 B hs rfl) rfl)))))) e1) k1 ?_;refine aY.skip (by rfl') (.refl k1.state) ?_;refine aY.aL (aJ (aN rfl (aN rfl (aN rfl (aN rfl (aN rfl (aw (j4 B hs rfl) rfl)))))) e2) k2 ?_;exact aY.ret (bN (aw rfl (aN rfl (aN rfl (aw (aJ (aN rfl (aN rfl (aN rfl (aN rfl (aN rfl (aw (j4 B hs rfl) rfl)))))) e3) aU)))) (nb rfl)) k3 (B.gr.when h1 h3 h5)
theorem Iy:∀d,mG G P sc d:=by
 intro d
 induction d using Nat.strongRecOn with
|ind d ih=>
  intro n hn Γ l k f st ls σ hst hls hok ca hlk;obtain⟨m,rfl⟩:∃m,n=m+4:=⟨n-4,by exact cj (lN 0x190290c308049201241248 [_] rfl) (lN 0x30190290c201248049009049205301a04363 [_,_] rfl hn)⟩;have hne:=kT hst hls;have hlim:(1000000:Nat)<=aM:=aQ _;rw[cf B.Fo rfl]
  suffices h:aY (cx P sc (m+3)) [some .ct,some (.ref st),some (.int l.i),some (.str k.s),some (.ref ls),some (.int d),some (.bool f),none,none,none,none,none] st σ sy.body (λt=>G d Γ l f t k) by
   refine fJ (h) λt s' L' e kp h1=>?_;exact⟨t,s',(congrArg bS e).trans rfl,h1,kp⟩
  refine bo (hst) λkk c hk0 tO=>?_;refine aY.aL (aJ (by rfl) (HD B.toBase (n:=m) hs tO hk0)) (bl.turn tO (by exact lI 0x61320049049205320 [_] rfl hk0)) ?_;have k1:bl st σ (σ.set st (.ah [.int (kk+1),.int c])):=bl.turn tO (by exact lI 0x61320049049205320 [_] rfl hk0);have jg:=gi (o':=.ah [.int (kk+1),.int c]) tO;generalize mixed sc (kk+1)=num;generalize σ.set st (.ah [.int (kk+1),.int c])=s1 at k1 jg;refine aY.step (L1:=pX st ls l k d f num none none none none) (s1:=s1.set st (.ah [.int (kk+1),.int (c+1)])) (jo (bJ (b9 (aD rfl) rfl (da jg rfl (by decide) (by decide))) rfl rfl) (aD rfl) rfl (mz (k:=1) jg ⟨by decide,(by decide:(1:Int)<2),nb rfl⟩)) (bl.turn jg (by exact lI 0x61320049049205320 [_] rfl hk0)) ?_;have k2:bl st s1 (s1.set st (.ah [.int (kk+1),.int (c+1)])):=bl.turn jg (by exact lI 0x61320049049205320 [_] rfl hk0);have Ey:=gi (o':=.ah [.int (kk+1),.int (c+1)]) jg;generalize s1.set st (.ah [.int (kk+1),.int (c+1)])=s2 at k2 Ey;have rM:=(k1.trans k2).get hne hls;have leaf:aY (cx P sc (m+3)) (pX st ls l k d f num none none none none) st s2 {.ret (.call 31 {.aa 0,.aa 1,.aa 2,.aa 3,.aa 4,.aa 7})} (λt=>G d Γ l f t k):=by
   refine cW (It B.toBase B.uY B.Fm B.gr (sc:=sc) (n:=m+1) (f:=f) (num:=num) k2.state rM hok (by exact lN 0x807687e0c049049205a07bc110d8cc [_,_] rfl ca) hlk) λt s3 e3 h3 k3=>?_;exact aY.ret (aJ (by rfl) e3) k3 (h3 d)
  cases d with
  |zero=>exact aY.take (s1:=s2) (ku (any_cons (t:=true) (ae:=s2) (by rfl') (by exact tf) (λ_=>⟨rfl,rfl⟩))) (.refl k2.state) leaf
  |succ d=>
   have ht:bR (cx P sc (m+3)) (.or {.cmp .Eq (.aa 5) (.int 0),.cmp .Gt (.au (.aa 1) (.int 1)) (.int 60)}) (pX st ls l k (d+1) f num none none none none) s2=.ok (decide (60<c+1)) s2:=
    ku (any_cons (t:=false) (ae:=s2) (dZ (aD rfl) rfl (by
     refine qw▸?_;refine AW▸?_
     rfl)) (λ_=>any_cons (t':=decide (60<c+1)) (dZ (b9 (aD rfl) rfl (da Ey rfl (by decide) (by decide))) rfl rfl) (λq=>by(refine q▸?_);exact any_nil) (λq=>⟨q,rfl⟩)) (by exact ff))
   cases hb:decide (60<c+1) with
   |true=>(replace ht:=hb▸ht);exact aY.take ht (.refl k2.state) leaf
   |false=>
    replace ht:=hb▸ht;refine aY.skip ht (.refl k2.state) ?_;refine cW (HC (sc:=sc) B.f32 (n:=m+2) (l:=l) (k:=k) (f:=f) (σ:=s2)) λa τ w1 w0 w2=>?_;refine aY.aL (aJ (by rfl) w1) (bl.add k2.state) ?_;have k3:bl st s2 (s2++τ):=bl.add k2.state;generalize s2++τ=s3 at w2 k3;have hlen:0<(fK++gj l k f).length/\(fK++gj l k f).length<=100:=by(clear w1 ht leaf;cases l)<;>cases k<;>cases f<;>exact⟨nb rfl,nb rfl⟩
    have hfit:=Iu l k f;generalize fK++gj l k f=W at w2 hlen hfit;have h0:0<=num.fmod (W.length:Int):=Int.fmod_nonneg_of_pos _ (by exact lI 0x301860049049205301860 [_] rfl (Int.ofNat_lt.mpr hlen.1));have h1:num.fmod (W.length:Int)<W.length:=Int.fmod_lt_of_pos _ (by exact lI 0x301860049049205301860 [_] rfl (Int.ofNat_lt.mpr hlen.1));obtain⟨j,hj⟩:=Int.eq_ofNat_of_zero_le h0;have hj':j<W.length:=yv h1 hj;have hwl:∀L,cm L 8=some (.ref a)->ao (cx P sc (m+3)) (.len (.aa 8)) L s3=.ok (.int W.length) s3:=λL h=>by
     have:=e_len (C:=cx P sc (m+3)) (aD (σ:=s3) h) (w3 w2 (by rw[List.length_map];exact lN 0xd30124124124814d007247d078c590784c [_,_] rfl hlim hlen.2));rw[List.length_map] at this;exact this
    refine aY.aL (v:=wv W[j]) (s1:=s3) (b9 (aD rfl) (bJ (r:=.int j) (aD rfl) (hwl _ rfl) ?_) (da w2 (by simp[hj']) (by exact lI 0xc80124024124124814d80630d [_,_] rfl h0 hj) (by exact lI 0x1c01c01c01c01c01c01c01c01c01e40613012412412481641e134534184c [_,_] rfl (Int.ofNat_le.mpr hlen.2) (Int.ofNat_lt.mpr hj')))) (.refl k3.state) ?_
    ·exact tL (Int.ofNat_lt.mpr hlen.1) hj
    refine aY.aL (v:=.int (num.fdiv W.length)) (s1:=s3) (bJ (aD rfl) (hwl _ rfl) ?_) (.refl k3.state) ?_
    ·exact MS hlen.1 (Nat.lt_of_le_of_lt hlen.2 (nb rfl))
    exact HI B hs (hfit _ (List.getElem_mem hj')) (λd' hd'=>ih d' (lN 0x6134184c04904920534c [_,_] rfl hd')) (lN 0x63341a84323049049205064341a04061323 [_,_] rfl hn) k3.state (k3.get hne rM) hok (lN 0xa07bc110d8c18cc049049205a07bc110184d8cc [_,_] rfl ca) hlk
end
theorem HK.free{Γ:Sc}{l:Lv}{f:Bool}{t:Tm}{k:Kd}(h:HK Γ l f t k):∀f',(f=true->f'=true)->HK Γ l f' t k:=by
 induction h with
|num=>exact λ_ _=>.num
|name h=>exact λ_ _=>.name h
|when _ _ _ i1 i2 i3=>exact λf' h=>.when (i1 f' h) (i2 f' h) (i3 f' h)
|use h _ i=>exact λf' q=>.use h (i f' q)
|aX _ _ i1 i2=>exact λf' h=>.aX (i1 f' h) (i2 f' h)
|bb hn _ _ i1 i2=>exact λf' h=>.bb hn (i1 f' h) (i2 f' h)
|def_ hk h1 _ _ i2=>exact λf' h=>.def_ hk h1 (i2 f' h)
|bE h _=>exact λ_ _=>.bE h
|hole h _=>exact λ_ _=>.hole h
|lift _ i=>exact λf' h=>.lift (i f' h)
|run _ i=>intro f' h;obtain rfl:=h rfl;exact .run (i true λ_=>rfl)
|aj _ _ i1 i2=>exact λf' h=>.aj (i1 f' h) (i2 f' h)
theorem lY(Γ:Sc)(e:Ent):look (Γ++[e]) e.x=some e:=by rw[fS,beq_self_eq_true];rfl
theorem g9{a b n k:Nat}(h1:a<=n)(h2:b<=n)(h:n+1<=k):1+max a b<=k:=by exact lN 0x3810cd3212012402412402412480490090490492053cc14f34538184f [_,_,_,_] rfl h1 h2 h
theorem Fw{a b c n k:Nat}(h1:a<=n)(h2:b<=n)(h3:c<=n)(h:n+1<=k):1+max a (max b c)<=k:=g9 h1 (Nat.max_le.mpr ⟨h2,h3⟩) h
theorem lT{a n k:Nat}(h1:a<=n)(h:n+1<=k):1+a<=k:=by exact lN 0xd04c84124124124814e30534184e [_,_,_] rfl h1 h
def Fx(d:Nat)(Γ:Sc)(l:Lv)(f:Bool)(t:Tm)(k:Kd):Prop:=HK Γ l f t k/\t.depth<=6*d+2
theorem Lm{d a b:Nat}(h1:a<=6*(d-1)+2)(h2:b<=6*(d-1)+2):1+max a (1+(1+max (1+1) (1+b)))<=6*(d+1)+2:=
 g9 (n:=6*d+7) (by exact lN 0x6710d98c20124124804904920506210284d98c [_,_] rfl h1) (lT (n:=6*d+5) (g9 (n:=6*d+3) (dD _ _) (by exact lN 0x6310d98132120124124804904920506210284d98c [_,_] rfl h2) (Nat.le_succ _)) (Nat.le_succ _)) (aQ _)
theorem JK{d a b c:Nat}(h1:a<=6*(d-1)+2)(h2:b<=6*0+2)(h3:c<=6*(d-2)+2):1+max a (1+(1+max (1+1) (1+(1+max 1 (1+max b c)))))<=6*(d+1)+2:=
 g9 (n:=6*d+7) (by exact lN 0x6710d98c20124124804904920506210284d98c [_,_] rfl h1) (lT (n:=6*d+6) (g9 (n:=6*d+5) (dD _ _) (lT (n:=6*d+4) (g9 (n:=6*d+3) (dD _ _) (g9 (n:=6*d+2) (bP ‹_› (dD _ _)) (by exact lN 0x6210d98c20124124804904920506210288d98c [_,_] rfl h3) (aQ _)) (aQ _)) (aQ _)) (aQ _)) (aQ _)) (aQ _)
theorem lj:Gr Fx where
 num:=⟨.num,dD _ _⟩
 name h:=⟨.name h,by show 1<=_;(exact dD _ _)⟩
 jb h:=⟨.hole (.name h),dD _ _⟩
 jw h:=⟨.bE (.name h),dD _ _⟩
 jx:=⟨.bE .num,dD _ _⟩
 jF:=⟨.lift .num,dD _ _⟩
 when h1 h2 h3:=⟨.when h1.1 h2.1 h3.1,Fw h1.2 h2.2 h3.2 (by exact lN 0x188406132606106210c981248 [_] rfl)⟩
 use h h1:=⟨.use h h1.1,lT h1.2 (by exact lN 0x188406132606106210c981248 [_] rfl)⟩
 aX h1 h2:=⟨.aX h1.1 h2.1,g9 h1.2 h2.2 (by exact lN 0x188406132606106210c981248 [_] rfl)⟩
 bb h h1 h2:=⟨.bb h h1.1 h2.1,g9 h1.2 h2.2 (by exact lN 0x188406132606106210c981248 [_] rfl)⟩
 def_ h h1 h2:=⟨.def_ (λq=>(h q).1) h1.1 h2.1,g9 h1.2 h2.2 (by exact lN 0x188406132606106210c981248 [_] rfl)⟩
 bE h:=⟨.bE h.1,lT h.2 (by exact lN 0x188406132606106210c981248 [_] rfl)⟩
 hole h:=⟨.hole h.1,lT h.2 (by exact lN 0x188406132606106210c981248 [_] rfl)⟩
 lift h:=⟨.lift h.1,lT h.2 (by exact lN 0x188406132606106210c981248 [_] rfl)⟩
 run h:=⟨.run h.1,lT h.2 (by exact lN 0x188406132606106210c981248 [_] rfl)⟩
 aj h1 h2:=⟨.aj h1.1 h2.1,g9 h1.2 h2.2 (by exact lN 0x188406132606106210c981248 [_] rfl)⟩
 kept {d} _ _ _ _ _ _ i1 i2:=⟨.aX (i1.1.free _ (λh=>by exact ff h)) (.hole (.aX (k:=.aV) (.bE (.name (lY _ _))) (.bE i2.1))),Lm i1.2 i2.2⟩
 twice {d} _ _ _ _ _ _ _ _ _ i1 i2 i3:=⟨.aX (i1.1.free _ (λh=>by exact ff h)) (.hole (.aX (k:=.aV) (.bE (.name (lY _ _))) (.bE (.aX .num (.aj i2.1 i3.1))))),JK i1.2 i2.2 i3.2⟩
theorem Ln{C:Ctx}{b hb:SL}{c:Nat}{L L1:aR}{σ ae:H}{f:Fl}(h:a6 C b L σ=.ok f L1 ae):cG C (.gU b c hb) L σ=.ok f L1 ae:=by simp only[AV,h]
section
variable{P:Prog}{sc:List Int}
structure Rx(P:Prog):Prop extends pW P Fx,Kinds P where
 RU:P.fns 51=some GO
 RV:P.fns 52=some JB
variable(B:Rx P)
include B
omit B in
theorem Bj{C:Ctx}{L:aR}{σ ae ak:H}{a b:E}(h1:ao C a L σ=.ok (.bool true) ae)(h2:ao C b L ae=.ok (.bool true) ak):ao C (.and {a,b}) L σ=.ok (.bool true) ak:=by rw[l5,Ak,aW h1,zL,aW (show M.pure true ae=.ok true ae from rfl),if_pos rfl,Aj,aW h2];rfl
end
structure m5(P:Prog):Prop where
 f0:P.fns 0=some qr
 f1:P.fns 1=some qA
 f2:P.fns 2=some qt
 eS:P.fns 18=some lW
 Fy:P.fns 23=some zY
 uZ:P.fns 24=some zy
 Fz:P.fns 26=some zh
 yV:P.fns 27=some vf
 yW:P.fns 28=some vg
 c2:P.consts 2=some (.int 1000003)
 c3:P.consts 3=some (.int 2000)
 c4:P.consts 4=some (.int 30)
structure Self(σ:H)(s a:Nat)(m:Int):Prop where
 i:∃c,σ[s]?=some (.inst c a)
 n:σ[a]?=some (.cU m)
theorem Self.ok(x:Self σ s a m):ib (.ref s) σ=.ok (a,m) σ:=by
 refine bZ (x.i) λc h=>?_;show M.bind (cP s) _ σ=_;refine(aW (my h))▸?_;show M.bind (cP a) _ σ=_;refine(aW (my x.n))▸?_
 rfl
theorem Self.add(x:Self σ s a m):Self (σ++τ) s a m:=let ⟨c,h⟩:=x.i;⟨⟨c,old h⟩,old x.n⟩
section
variable{C:Ctx}{L:aR}{σ ae ak bX:H}{o:E}{r:V}
theorem cB(h0:ao C o L σ=.ok (.ref s) ae)(h1:Self ae s a m)(h2:dc C es L ae=.ok vs ak)(h3:C.call f (.ref s::vs) ak=.ok r bX):ao C (.cq f o es) L σ=.ok r bX:=by refine vS▸?_;refine(aW h0)▸?_;refine(aW h1.ok)▸?_;refine(aW h2)▸?_;refine h3▸?_;with_reducible rfl
theorem Cs(h0:ao C o L σ=.ok (.ref s) ae)(h1:Self ae s a m):ao C (.attr o "many") L σ=.ok (.int m) ae:=by
 refine IL▸?_;refine(aW h0)▸?_;show M.bind (ib _) _ ae=_
 (refine(aW h1.ok)▸?_);rfl
theorem JL(h0:ao C e L σ=.ok (.int k) ae)(h1:ao C o L ae=.ok (.ref s) ae)(h2:Self ae s a m):cG C (.jd o "many" e) L σ=.ok .next L (ae.set a (.cU k)):=by
 have h3:sM (.ref s) (.int k) ae=.ok () (ae.set a (.cU k)):=by
  show M.bind (ib _) _ ae=_
  (refine(aW h2.ok)▸?_);rfl
 refine J8▸?_;simp only[Qh.N.bind,Qh.N.lift,h0,h1,h3,Qh.N.pure]
theorem Bk(h0:ao C e L σ=.ok (.aB [x,y,z]) ae):cG C (.gY [i,j,k] e) L σ=.ok .next (bV (bV (bV L i x) j y) k z) ae:=by
 refine Bq▸?_;simp only[Qh.N.bind,Qh.N.lift,h0]
 rfl
end
def vn(i:Int):Str:="v"++gh i
def fD(w:U2)(i j:Int):Int:=match w with
|.sum=>(i+j).fmod 1000003|.product=>(i*j).fmod 1000003|.less=>if i<j then 1 else 0
section
variable{P:Prog}{sc:List Int}(B:m5 P)
include B
theorem w5:ao (cx P sc n) (.glob 2) L σ=.ok (.int 1000003) σ:=by (refine nQ▸?_);show cX (P.consts 2) σ=_;(refine(B.c2)▸?_);rfl
theorem wC:ao (cx P sc n) (.glob 3) L σ=.ok (.int 2000) σ:=by (refine nQ▸?_);show cX (P.consts 3) σ=_;(refine(B.c3)▸?_);rfl
theorem Ct:ao (cx P sc n) (.glob 4) L σ=.ok (.int 30) σ:=by (refine nQ▸?_);show cX (P.consts 4) σ=_;(refine(B.c4)▸?_);rfl
theorem M5(h:small i=true)(σ:H):binop .Mult (.int i) (.int j) σ=.ok (.int (i*j)) σ:=by (refine jl▸?_;refine h.symm▸?_);rfl
theorem Iz(hi:small i=true)(σ:H):aq P sc (n+1) 23 [.str w.str,.int i,.int j] σ=.ok (.int (fD w i j)) σ:=by
 rw[cf B.Fy rfl];cases w with
|sum=>exact(congrArg bS (bT (by rfl') (bf (bJ (bJ (aD rfl) (aD rfl) rfl) (w5 B) rfl)))).trans rfl
|product=>exact(congrArg bS (jmp 1 (by rfl') (bT (by rfl') (bf (bJ (bJ (aD rfl) (aD rfl) (M5 B hi σ)) (w5 B) rfl))))).trans rfl
|less=>
  refine(congrArg bS (jmp 2 (by rfl') (bf (kL (kh (aD rfl) (aD rfl) (xC i j σ)) rfl)))).trans ?_;show Res.ok (V.int (if decide (i<j)=true then 1 else 0)) σ=Res.ok (V.int (if i<j then 1 else 0)) σ
  by_cases h:i<j<;>simp[h]
theorem HJ{n:Nat}{t:Tm}(h1:t.size<=2000)(h2:t.depth<=30)(hn:t.depth<=n):∃τ,aq P sc (n+2) 24 [t.af] σ=.ok .none (σ++τ):=by
 refine bZ (vQ (sc:=sc) B.f0 B.f1 n t σ hn) λbI e1=>?_;obtain⟨cH,e2⟩:=vA (sc:=sc) B.f0 B.f2 n t (σ++bI) hn;refine⟨bI++cH,?_⟩;rw[cf B.uZ rfl,←List.append_assoc];have g1:dJ .Gt (.int t.size) (.int 2000) (σ++bI)=.ok false (σ++bI):=by
  show Res.ok (decide ((2000:Int)<t.size)) _=_;rw[decide_eq_false (by exact Int.not_lt.mpr (lI 0x407fcc049049205407fcc [_] rfl (Int.ofNat_le.mpr h1)))]
 have g2:dJ .Gt (.int t.depth) (.int 30) (σ++bI++cH)=.ok false (σ++bI++cH):=by
  show Res.ok (decide ((30:Int)<t.depth)) _=_;rw[decide_eq_false (by exact Int.not_lt.mpr (lI 0xf8c049049205f8c [_] rfl (Int.ofNat_le.mpr h2)))]
 exact(congrArg bS ((bY (ku (any_cons (dZ (aJ rfl e1) (wC B) g1) (λ_=>any_cons (dZ (aJ rfl e2) (Ct B) g2) (λ_=>any_nil) (by exact ff)) (by exact ff)))).trans fq)).trans rfl
def Ez:SL:=match vf.body with
|.cons _ r=>r
|_=>.nil
theorem jr{n s d:Nat}{t:Tm}{w:Str}(hw:∀C x L,ao C (.au (.aa 1) (.int 0)) (x::some t.af::L) σ=.ok (.str w) σ)(h:a6 (cx P sc n) Ez [some (.ref s),some t.af,some (.ref d),some (.str w),none,none,none,none,none,none,none] σ=.ok (.ret v) L' ag):aq P sc (n+1) 27 [.ref s,t.af,.ref d] σ=.ok v ag:=by rw[cf B.yV rfl];exact(congrArg bS ((a4 (hw _ _ _)).trans h)).trans rfl
theorem xG(σ:H):aq P sc (n+1) 27 [.ref s,(Tm.num i).af,.ref d] σ=.ok (.int (i.fmod 1000003)) σ:=
 jr B (λ_ _ _=>rfl) (bT (by rfl') (bf (bJ rfl (w5 B) rfl)))
theorem Cu(hd:σ[d]?=some (.ay es))(hv:cS es x=some v):aq P sc (n+1) 27 [.ref s,(Tm.name x).af,.ref d] σ=.ok v σ:=
 jr B (λ_ _ _=>rfl) (jmp 1 (by rfl') (bT (by rfl') (bf (b9 (aD rfl) rfl (hZ hd hv)))))
theorem Dw(S:Self σ s a m)(e1:aq P sc (n+1) 27 [.ref s,x.af,.ref d] σ=.ok (.int i) ae)(S1:Self ae s a m1)(e2:aq P sc (n+1) 27 [.ref s,y.af,.ref d] ae=.ok (.int j) ak)(hi:small i=true):
  aq P sc (n+2) 27 [.ref s,(Tm.aj u x y).af,.ref d] σ=.ok (.int (fD u i j)) ak:=by refine jr B (λ_ _ _=>rfl) ((bY (by cases u<;>rfl')).trans ((bY (by cases u<;>rfl')).trans (bT (by cases u<;>rfl') ((a4 (cB (aD rfl) S rfl e1)).trans (bf (aJ (aN rfl (aN rfl (aw (cB (aD rfl) S1 rfl e2) aU))) (Iz B hi ak)))))))
theorem Cv(S:Self σ s a m)(e1:aq P sc n 27 [.ref s,x.af,.ref d] σ=.ok (.int i) ae)(S1:Self ae s a m1)(e2:aq P sc n 27 [.ref s,(if i=0 then z else y).af,.ref d] ae=.ok v ak):
  aq P sc (n+1) 27 [.ref s,(Tm.when x y z).af,.ref d] σ=.ok v ak:=by
 have ht:bR (cx P sc n) (.cmp .NotEq (.cq 27 (.aa 0) {.au (.aa 1) (.int 1),.aa 2}) (.int 0)) [some (.ref s),some (Tm.when x y z).af,some (.ref d),some (.str "when"),none,none,none,none,none,none,none] σ=.ok (!(i==0)) ae:=
  dZ (cB (aD rfl) S (by rfl) e1) rfl (by(refine nh▸?_);rfl)
 refine jr B (w:="when") (L':=[some (.ref s),some (Tm.when x y z).af,some (.ref d),some (.str "when"),none,none,none,none,none,none,none]) (λ_ _ _=>rfl) (jmp 3 (by rfl') (bT (ae:=σ) (by rfl') ?_))
 by_cases h:i=0
 ·replace e2:=(if_pos h)▸e2;replace ht:=h▸ht;exact(bY ht).trans (bf (cB (aD rfl) S1 rfl e2))
 ·replace e2:=(if_neg h)▸e2;replace ht:=(beq_eq_false_iff_ne.mpr h)▸ht;exact bT ht (bf (cB (aD rfl) S1 rfl e2))
theorem Dx(S:Self σ s a m)(e1:aq P sc (n+1) 27 [.ref s,p.af,.ref d] σ=.ok u ae)(S1:Self ae s a m1)(hd:ae[d]?=some (.ay es))(hl:es.length<=aM)(e2:aq P sc (n+1) 27 [.ref s,q.af,.ref ae.length] (ae++[.ay (bc es x u)])=.ok v ak):aq P sc (n+2) 27 [.ref s,(Tm.aX x p q).af,.ref d] σ=.ok v ak:=
 jr B (λ_ _ _=>rfl) (jmp 4 (by rfl') (bT (by rfl') ((a4 (cB (aD rfl) S rfl e1)).trans (bf (cB (aD rfl) S1 (aw rfl (aw (aJ (aN rfl (aw rfl rfl)) (fp B.eS hd hl)) aU)) e2)))))
theorem Dy(S:Self σ s a m)(hd:σ[d]?=some (.ay es))(hl:es.length<=aM)(e2:aq P sc (n+1) 27 [.ref s,q.af,.ref σ.length] (σ++[.ay (bc es g (.aB [.str x,p.af,.ref d]))])=.ok v ak):aq P sc (n+2) 27 [.ref s,(Tm.def_ g x kd p q).af,.ref d] σ=.ok v ak:=
 jr B (λ_ _ _=>rfl) (jmp 6 (by rfl') (bT (by rfl') (bf (cB (aD rfl) S (aw rfl (aw (aJ (aN rfl (aw rfl (aw (bN (aw rfl (aw rfl rfl)) (nb rfl)) aU))) (fp B.eS hd hl)) aU)) e2))))
theorem Dz{n s d d' a:Nat}{m m1:Int}{g x:Str}{p body:Tm}(S:Self σ s a m)(e1:aq P sc (n+1) 27 [.ref s,p.af,.ref d] σ=.ok u ae)(S1:Self ae s a m1)(hd:ae[d]?=some (.ay es))(hg:cS es g=some (.aB [.str x,body.af,.ref d']))(hd':ae[d']?=some (.ay es'))(hl:es'.length<=aM)(e2:aq P sc (n+1) 27 [.ref s,body.af,.ref ae.length] (ae++[.ay (bc es' x u)])=.ok v ak):aq P sc (n+2) 27 [.ref s,(Tm.use g p).af,.ref d] σ=.ok v ak:=
 jr B (λ_ _ _=>rfl) (jmp 7 (by rfl') (bT (by rfl') ((a4 (cB (aD rfl) S rfl e1)).trans ((dt (Bk (b9 (aD rfl) rfl (hZ hd hg)))).trans (bf (cB (aD rfl) S1 (aN rfl (aw (aJ (aN rfl (aN rfl rfl)) (fp B.eS hd' hl)) aU)) e2))))))
theorem Lo{n s d a:Nat}{m:Int}{p R:Tm}(S:Self σ s a m)(e1:aq P sc (n+2) 28 [.ref s,p.af,.ref d] σ=.ok R.af ae)(h1:R.size<=2000)(h2:R.depth<=30)(hn:R.depth<=n):
  ∃τ,aq P sc (n+3) 27 [.ref s,(Tm.un .bE p).af,.ref d] σ=.ok R.af (ae++τ):=by refine bZ (HJ (sc:=sc) B (n:=n) (σ:=ae) h1 h2 hn) λτ e2=>?_;exact⟨τ,jr B (λ_ _ _=>rfl) (jmp 8 (by rfl') (bT (by rfl') ((a4 (cB (aD rfl) S rfl e1)).trans ((dt (iU (aJ rfl e2))).trans (bf (aD rfl))))))⟩
theorem DA{n s d a:Nat}{m m1:Int}{p R:Tm}(S:Self σ s a m)(e1:aq P sc n 27 [.ref s,p.af,.ref d] σ=.ok R.af ae)(e2:aq P sc n 27 [.ref s,R.af,.ref ae.length] (ae++[.ay []])=.ok v ak):
  aq P sc (n+1) 27 [.ref s,(Tm.un .run p).af,.ref d] σ=.ok v ak:=
 jr B (λ_ _ _=>rfl) (jmp 10 (by rfl') (bf (cB (aD rfl) S (aw (cB (aD rfl) S rfl e1) (aw rfl aU)) e2)))
end
theorem qK{k:Int}{j:Nat}(h:j<k.toNat):(dG k)[j]?=some (.int j):=by unfold dG;rw[List.getElem?_map,List.getElem?_range h];rfl
theorem vR{k:Int}:(dG k)[k.toNat]?=none:=by unfold dG;rw[List.getElem?_eq_none];simp
theorem tP{C:Ctx}{L:aR}{σ ae ak:H}{a:E}{x r:V}(h1:ao C a L σ=.ok x ae)(h2:js x ae=.ok r ak):ao C (.tuple a) L σ=.ok r ak:=by rw[IP,aW h1,h2]
section
variable{P:Prog}{sc:List Int}(B:m5 P)
include B
def DB:SL:=.cons (.aL 5 (.cq 27 (.aa 0) {.au (.aa 1) (.int 4),.call 18 {.aa 2,.au (.aa 1) (.int 2),.aa 5}})) .nil
theorem IA{n s d a:Nat}{k:Int}{x:Str}{p q:Tm}(I:Nat->V->H->Prop)(hI:∀j v ag,j<k.toNat->I j v ag->(∃m',Self ag s a m')/\∃es,ag[d]?=some (.ay es)/\es.length<=aM/\∃v' cp,aq P sc (n+1) 27 [.ref s,q.af,.ref ag.length] (ag++[.ay (bc es x v)])=.ok v' cp/\I (j+1) v' cp):
  ∀(r j:Nat)(v:V)(y:Option V)(σ:H),j+r=k.toNat->I j v σ->∃v' y' ag,eB (λk'=>M.pure ((dG k)[k']?.map λv=>[(6,v)])) (a6 (cx P sc (n+1)) DB) (r+1) j [some (.ref s),some (Tm.bb k x p q).af,some (.ref d),some (.str "turns"),none,some v,y,none,none,none,none] σ=
   .ok .next [some (.ref s),some (Tm.bb k x p q).af,some (.ref d),some (.str "turns"),none,some v',y',none,none,none,none] ag/\I k.toNat v' ag:=by
 intro r
 induction r with
|zero=>
  intro j v y σ hj h;have:j=k.toNat:=by assumption
  clear hj;subst this;exact⟨v,y,σ,sU (by rw[vR];rfl),h⟩
|succ r ih=>
  intro j v y σ hj h;refine bB λXx aI=>?_;obtain⟨⟨m',S⟩,es,hd,hl,v',cp,e,h'⟩:=hI j v σ (lN 0x34184c04900904920634106138c [_,_,_] rfl hj) h;refine fV (ih (j+1) v' (some (.int j)) cp (cj (lN 0x38134184c04900904920638106134c [_,_,_] rfl hj) (lN 0x4e06134c04904920630106138d [_,_,_] rfl hj)) h') λv2 y2 ak e2 h2=>?_;refine aI ?_;refine⟨v2,y2,ak,?_,h2⟩;refine(qB (ps:=[(6,.int j)]) (ae:=σ) (by rw[qK (by exact lN 0x34184c04900904920634106138c [_,_,_] rfl hj)];rfl) rfl ((a4 (cB (aD rfl) S (aw rfl (aw (aJ (aN rfl (aw (x:=.str x) rfl (by rfl))) (fp B.eS hd hl)) aU)) e)).trans fq)).trans e2
theorem BM{n s d a:Nat}{m:Int}{k:Int}{x:Str}{p q:Tm}{u:V}{σ ae:H}(S:Self σ s a m)(hk:0<=k/\k<=1000000)(e1:aq P sc (n+1) 27 [.ref s,p.af,.ref d] σ=.ok u ae)(I:Nat->V->H->Prop)(h0:I 0 u ae)(hI:∀j v ag,j<k.toNat->I j v ag->(∃m',Self ag s a m')/\∃es,ag[d]?=some (.ay es)/\es.length<=aM/\∃v' cp,aq P sc (n+1) 27 [.ref s,q.af,.ref ag.length] (ag++[.ay (bc es x v)])=.ok v' cp/\I (j+1) v' cp):
  ∃v ak,aq P sc (n+2) 27 [.ref s,(Tm.bb k x p q).af,.ref d] σ=.ok v ak/\I k.toNat v ak:=by refine fV (IA (sc:=sc) B (n:=n) (k:=k) (x:=x) (p:=p) (q:=q) I hI k.toNat 0 u none ae (by exact cj (lN 825917182536 [_] rfl) (lN 82144399944 [_] rfl)) h0) λv y ak e2 h2=>?_;exact⟨v,ak,jr B (λ_ _ _=>rfl) (jmp 5 (by rfl') (bT (by rfl') ((a4 (cB (aD rfl) S rfl e1)).trans ((dt (sW rfl hk e2)).trans (bf (aD rfl)))))),h2⟩
def uF:SL:=match vg.body with
|.cons _ r=>r
|_=>.nil
theorem kM{n s d:Nat}{t:Tm}{w:Str}{σ ag:H}{v:V}{L':aR}(hw:∀C x L,ao C (.au (.aa 1) (.int 0)) (x::some t.af::L) σ=.ok (.str w) σ)(h:a6 (cx P sc n) uF [some (.ref s),some t.af,some (.ref d),some (.str w),none,none,none,none] σ=.ok (.ret v) L' ag):aq P sc (n+1) 28 [.ref s,t.af,.ref d] σ=.ok v ag:=by rw[cf B.yW rfl];exact(congrArg bS ((a4 (hw _ _ _)).trans h)).trans rfl
theorem OJ{n s d:Nat}{i:Int}(σ:H):aq P sc (n+1) 28 [.ref s,(Tm.num i).af,.ref d] σ=.ok (Tm.num i).af σ:=
 kM B (λ_ _ _=>rfl) (bT (by rfl') (bf (aD rfl)))
theorem M6{n s d:Nat}{es:List (Str×V)}{x y:Str}{σ:H}(hd:σ[d]?=some (.ay es))(hv:cS es x=some (.str y)):aq P sc (n+1) 28 [.ref s,(Tm.name x).af,.ref d] σ=.ok (Tm.name y).af σ:=
 kM B (λ_ _ _=>rfl) (jmp 1 (by rfl') (bT (by rfl') (bf (bN (aw rfl (aw (b9 (aD rfl) rfl (hZ hd hv)) aU)) (nb rfl)))))
theorem M7{n s d a:Nat}{m:Int}{p:Tm}{v:V}{σ ae:H}(S:Self σ s a m)(e1:aq P sc n 27 [.ref s,p.af,.ref d] σ=.ok v ae):aq P sc (n+1) 28 [.ref s,(Tm.un .hole p).af,.ref d] σ=.ok v ae:=
 kM B (λ_ _ _=>rfl) (jmp 2 (by rfl') (bT (by rfl') (bf (cB (aD rfl) S rfl e1))))
theorem OK{n s d a:Nat}{m:Int}{es:List (Str×V)}{g y:Str}{p R:Tm}{σ ae:H}(S:Self σ s a m)(hd:σ[d]?=some (.ay es))(hv:cS es g=some (.str y))(e1:aq P sc n 28 [.ref s,p.af,.ref d] σ=.ok R.af ae):aq P sc (n+1) 28 [.ref s,(Tm.use g p).af,.ref d] σ=.ok (Tm.use y R).af ae:=
 kM B (λ_ _ _=>rfl) (jmp 3 (by rfl') (bT (by rfl') (bf (bN (aw rfl (aw (b9 (aD rfl) rfl (hZ hd hv)) (aw (cB (aD rfl) S rfl e1) aU))) (nb rfl)))))
theorem OL{n s d a:Nat}{m m1 m2:Int}{x y:Str}{p q R T:Tm}{es:List (Str×V)}{σ cb ae ak:H}(S:Self σ s a m)(e0:aq P sc (n+1) 26 [.ref s] σ=.ok (.str y) cb)(S0:Self cb s a m1)(e1:aq P sc (n+1) 28 [.ref s,p.af,.ref d] cb=.ok R.af ae)(S1:Self ae s a m2)(hd:ae[d]?=some (.ay es))(hl:es.length<=aM)(e2:aq P sc (n+1) 28 [.ref s,q.af,.ref ae.length] (ae++[.ay (bc es x (.str y))])=.ok T.af ak):aq P sc (n+2) 28 [.ref s,(Tm.aX x p q).af,.ref d] σ=.ok (Tm.aX y R T).af ak:=
 kM B (λ_ _ _=>rfl) (jmp 4 (by rfl') (bT (by rfl') ((a4 (cB (aD rfl) S aU e0)).trans ((a4 (cB (aD rfl) S0 rfl e1)).trans (bf (bN (aN rfl (aN rfl (aN rfl (aw (cB (aD rfl) S1 (aw rfl (aw (aJ (aN rfl (aw rfl rfl)) (fp B.eS hd hl)) aU)) e2) aU)))) (nb rfl)))))))
theorem Lp{n s d a:Nat}{m m1 m2 k:Int}{x y:Str}{p q R T:Tm}{es:List (Str×V)}{σ cb ae ak:H}(S:Self σ s a m)(e0:aq P sc (n+1) 26 [.ref s] σ=.ok (.str y) cb)(S0:Self cb s a m1)(e1:aq P sc (n+1) 28 [.ref s,p.af,.ref d] cb=.ok R.af ae)(S1:Self ae s a m2)(hd:ae[d]?=some (.ay es))(hl:es.length<=aM)(e2:aq P sc (n+1) 28 [.ref s,q.af,.ref ae.length] (ae++[.ay (bc es x (.str y))])=.ok T.af ak):aq P sc (n+2) 28 [.ref s,(Tm.bb k x p q).af,.ref d] σ=.ok (Tm.bb k y R T).af ak:=
 kM B (λ_ _ _=>rfl) (jmp 5 (by rfl') (bT (by rfl') ((a4 (cB (aD rfl) S aU e0)).trans ((a4 (cB (aD rfl) S0 rfl e1)).trans (bf (bN (aN rfl (aw rfl (aN rfl (aN rfl (aw (cB (aD rfl) S1 (aw rfl (aw (aJ (aN rfl (aw rfl rfl)) (fp B.eS hd hl)) aU)) e2) aU))))) (nb rfl)))))))
theorem OM{n s d a:Nat}{m m0 m1 m2:Int}{g x y z kd:Str}{p q R T:Tm}{es es':List (Str×V)}{σ cb ae ak bX:H}(S:Self σ s a m)(e0:aq P sc (n+1) 26 [.ref s] σ=.ok (.str y) cb)(S0:Self cb s a m0)(jR:aq P sc (n+1) 26 [.ref s] cb=.ok (.str z) ae)(S1:Self ae s a m1)(hd:ae[d]?=some (.ay es))(hl:es.length<=aM)(e1:aq P sc (n+1) 28 [.ref s,p.af,.ref ae.length] (ae++[.ay (bc es x (.str z))])=.ok R.af ak)(S2:Self ak s a m2)(hd':ak[d]?=some (.ay es'))(hl':es'.length<=aM)(e2:aq P sc (n+1) 28 [.ref s,q.af,.ref ak.length] (ak++[.ay (bc es' g (.str y))])=.ok T.af bX):
  aq P sc (n+2) 28 [.ref s,(Tm.def_ g x kd p q).af,.ref d] σ=.ok (Tm.def_ y z kd R T).af bX:=
 kM B (λ_ _ _=>rfl) (jmp 6 (by rfl') (bT (by rfl') ((a4 (cB (aD rfl) S aU e0)).trans ((a4 (cB (aD rfl) S0 aU jR)).trans ((a4 (cB (aD rfl) S1 (aw rfl (aw (aJ (aN rfl (aw rfl rfl)) (fp B.eS hd hl)) aU)) e1)).trans (bf (bN (aN rfl (aN rfl (aN rfl (aw rfl (aN rfl (aw (cB (aD rfl) S2 (aw rfl (aw (aJ (aN rfl (aw rfl rfl)) (fp B.eS hd' hl')) aU)) e2) aU)))))) (nb rfl))))))))
theorem ON{n s d a:Nat}{m m1:Int}{u:U2}{x y X Y:Tm}{σ ae ak:H}(S:Self σ s a m)(e1:aq P sc n 28 [.ref s,x.af,.ref d] σ=.ok X.af ae)(S1:Self ae s a m1)(e2:aq P sc n 28 [.ref s,y.af,.ref d] ae=.ok Y.af ak):
  aq P sc (n+1) 28 [.ref s,(Tm.aj u x y).af,.ref d] σ=.ok (Tm.aj u X Y).af (ak++[.ah [X.af,Y.af]]):=by
 have f1:M.bind (ao (cx P sc n) (.cq 28 (.aa 0) {.aa 7,.aa 2}) (bV (cK [some (.ref s),some (Tm.aj u x y).af,some (.ref d),some (.str u.str),none,none,none,none] [2,0]) 7 x.af)) (λy=>M.pure (some y)) σ=.ok (some X.af) ae:=by
  rw[aW (cB (aD rfl) S rfl e1)];rfl
 have f2:M.bind (ao (cx P sc n) (.cq 28 (.aa 0) {.aa 7,.aa 2}) (bV (cK [some (.ref s),some (Tm.aj u x y).af,some (.ref d),some (.str u.str),none,none,none,none] [2,0]) 7 y.af)) (λy=>M.pure (some y)) ae=.ok (some Y.af) ak:=by
  rw[aW (cB (aD rfl) S1 rfl e2)];rfl
 have hc:di (.fix [x.af,y.af]) (λit=>M.bind (ao (cx P sc n) (.cq 28 (.aa 0) {.aa 7,.aa 2}) (bV (cK [some (.ref s),some (Tm.aj u x y).af,some (.ref d),some (.str u.str),none,none,none,none] [2,0]) 7 it)) λy=>M.pure (some y)) 3 0 σ=.ok [X.af,Y.af] ak:=
  gL (n:=2) (y:=some X.af) (r:=[Y.af]) (ae:=σ) rfl f1 (gL (n:=1) (y:=some Y.af) (r:=[]) rfl f2 (kE rfl))
 have ht:js (.ref ak.length) (ak++[.ah [X.af,Y.af]])=.ok (.aB [X.af,Y.af]) (ak++[.ah [X.af,Y.af]]):=by
  show M.bind (bH _) _ _=_;rw[aW (dY bC)];rfl
 have oh:a6 (cx P sc n) {.ret (.aj .Add (.aB {.aa 3}) (.tuple (.comp (.cq 28 (.aa 0) {.aa 7,.aa 2}) 7 [2,0] (.slc (.aa 1) (.int 1) .none))))} [some (.ref s),some (Tm.aj u x y).af,some (.ref d),some (.str u.str),none,none,none,none] σ=.ok (.ret (Tm.aj u X Y).af) [some (.ref s),some (Tm.aj u x y).af,some (.ref d),some (.str u.str),none,none,none,none] (ak++[.ah [X.af,Y.af]]):=
  bf (bJ (bN rfl (nb rfl)) (tP (kI rfl rfl rfl (nb rfl) hc) ht) rfl)
 refine kM B (λ_ _ _=>rfl) (Eq.trans ?_ oh);(clear oh hc f2 f1;cases u)<;>exact jmp 6 (by rfl') (bY (by rfl'))
end
structure LVal(P:Prog):Prop where
 FA:P.fns 36=some vh
 FC:P.fns 37=some Hw
 r4:P.fns 38=some zf
section
variable{P:Prog}{sc:List Int}(B:LVal P)
include B
theorem sz{n b:Nat}{es:List (Str×V)}{x:Str}{v:V}{σ:H}(hb:σ[b]?=some (.ay es))(hl:es.length<=aM):
  aq P sc (n+1) 37 [.ref b,.str x,v] σ=.ok (.ref σ.length) (σ++[.ay (bc es x v)]):=by rw[cf B.FC rfl];refine(congrArg bS ((a4 (wZ (aD rfl) (wq hb hl))).trans ((dt (jo (aD (x:=v) rfl) (aD (x:=.ref σ.length) rfl) (aD (x:=.str x) rfl) (wo bC hl))).trans (bf (aD (x:=.ref σ.length) rfl))))).trans ?_;rw[tn];rfl
def Ry:SL:=match vh.body with
|.cons _ r=>r
|_=>.nil
theorem mH{n d:Nat}{t:Tm}{w:Str}{σ ag:H}{v:V}{L':aR}(hw:∀C L,ao C (.au (.aa 0) (.int 0)) (some t.af::L) σ=.ok (.str w) σ)(h:a6 (cx P sc n) Ry [some t.af,some (.ref d),some (.str w),none,none] σ=.ok (.ret v) L' ag):aq P sc (n+1) 36 [t.af,.ref d] σ=.ok v ag:=by rw[cf B.FA rfl];exact(congrArg bS ((a4 (hw _ _)).trans h)).trans rfl
theorem DC{n d:Nat}{i:Int}(σ:H):aq P sc (n+1) 36 [(Tm.num i).af,.ref d] σ=.ok (.int (i.fmod 1000003)) σ:=
 mH B (w:="num") (λ_ _=>rfl) (bT (ae:=σ) (by rfl') (bf (bJ (y:=.int 1000003) rfl rfl rfl)))
theorem M8{n d:Nat}{es:List (Str×V)}{x:Str}{v:V}{σ:H}(hd:σ[d]?=some (.ay es))(hv:cS es x=some v):aq P sc (n+1) 36 [(Tm.name x).af,.ref d] σ=.ok v σ:=
 mH B (w:="name") (λ_ _=>rfl) (jmp 1 (by rfl') (bT (ae:=σ) (by rfl') (bf (b9 (aD rfl) (y:=.str x) rfl (hZ hd hv)))))
omit B in
theorem wD{i j:Int}(h:small i=true)(σ:H):binop .Mult (.int i) (.int j) σ=.ok (.int (i*j)) σ:=by rw[jl,h];rfl
theorem OO{n d:Nat}{u:U2}{x y:Tm}{i j:Int}{σ ae ak:H}(e1:aq P sc n 36 [x.af,.ref d] σ=.ok (.int i) ae)(e2:aq P sc n 36 [y.af,.ref d] ae=.ok (.int j) ak)(hi:small i=true):
  ∃τ,aq P sc (n+1) 36 [(Tm.aj u x y).af,.ref d] σ=.ok (.int (fD u i j)) (ak++τ):=by
 have two:∀L:aR,cm L 3=some (.int i)->cm L 4=some (.int j)->ao (cx P sc n) (.ah {.aj .Add (.aa 3) (.aa 4),.aj .Mult (.aa 3) (.aa 4)}) L ak=.ok (.ref ak.length) (ak++[.ah [.int (i+j),.int (i*j)]]):=λL h3 h4=>
  dH (aw (bJ (aD h3) (aD h4) (r:=.int (i+j)) (bX:=ak) rfl) (aw (bJ (aD h3) (aD h4) (wD hi ak)) aU)) (nb rfl)
 cases u with
|less=>
  refine⟨[],?_⟩;rw[List.append_nil];have hr:V.int (if decide (i<j)=true then 1 else 0)=V.int (fD .less i j):=by
   show _=V.int (if i<j then 1 else 0)
   by_cases h:i<j<;>simp[h]
  rw[←hr];exact mH B (w:="less") (λ_ _=>rfl) (jmp 5 (by rfl') ((a4 (aJ (by rfl) e1)).trans ((a4 (aJ (by rfl) e2)).trans (bT (ae:=ak) (by rfl') (bf (kL (kh (aD rfl) (aD rfl) (xC i j ak)) rfl))))))
|sum=>
  refine⟨[.ah [.int (i+j),.int (i*j)]],?_⟩;exact mH B (w:="sum") (λ_ _=>rfl) (jmp 5 (by rfl') ((a4 (aJ (by rfl) e1)).trans ((a4 (aJ (by rfl) e2)).trans ((bY (ae:=ak) (by rfl')).trans (bf (bJ (b9 (two _ rfl rfl) (y:=.int 0) (by rfl') (da bC (x:=.int (i+j)) rfl (by decide) (by decide))) (y:=.int 1000003) rfl rfl))))))
|product=>
  refine⟨[.ah [.int (i+j),.int (i*j)]],?_⟩;exact mH B (w:="product") (λ_ _=>rfl) (jmp 5 (by rfl') ((a4 (aJ (by rfl) e1)).trans ((a4 (aJ (by rfl) e2)).trans ((bY (ae:=ak) (by rfl')).trans (bf (bJ (b9 (two _ rfl rfl) (y:=.int 1) (by rfl') (da bC (x:=.int (i*j)) rfl (by decide) (by decide))) (y:=.int 1000003) rfl rfl))))))
theorem tq{n d:Nat}{t:Tm}{w:Str}{σ ag:H}{v:V}(hw:∀C L,ao C (.au (.aa 0) (.int 0)) (some t.af::L) σ=.ok (.str w) σ)(hs:w="let"∨w="turns"∨w="def"∨w="use")(h:aq P sc n 38 [t.af,.ref d] σ=.ok v ag):aq P sc (n+1) 36 [t.af,.ref d] σ=.ok v ag:=by
 refine mH B (L':=[some t.af,some (.ref d),some (.str w),none,none]) hw ?_;have hr:a6 (cx P sc n) {.ret (.call 38 {.aa 0,.aa 1})} [some t.af,some (.ref d),some (.str w),none,none] σ=.ok (.ret v) [some t.af,some (.ref d),some (.str w),none,none] ag:=
  bf (aJ (by rfl) h)
 rcases hs with rfl|rfl|rfl|rfl<;>exact jmp 4 (by rfl') (bT (ae:=σ) (by rfl') hr)
theorem OP{n d:Nat}{x:Str}{p q:Tm}{u v:V}{es:List (Str×V)}{σ ae ak:H}(e1:aq P sc (n+1) 36 [p.af,.ref d] σ=.ok u ae)(hd:ae[d]?=some (.ay es))(hl:es.length<=aM)(e2:aq P sc (n+1) 36 [q.af,.ref ae.length] (ae++[.ay (bc es x u)])=.ok v ak):aq P sc (n+3) 36 [(Tm.aX x p q).af,.ref d] σ=.ok v ak:=by refine tq B (w:="let") (λ_ _=>rfl) (.inl rfl) ?_;rw[cf B.r4 rfl];exact(congrArg bS (bT (ae:=σ) (by rfl') (bf (aJ (aw rfl (aw (aJ (aN rfl (aw (x:=.str x) rfl (aw (aJ (by rfl) e1) aU))) (sz B hd hl)) aU)) e2)))).trans rfl
def Cw:SL:=.cons (.aL 3 (.call 36 {.au (.aa 0) (.int 4),.call 37 {.aa 1,.au (.aa 0) (.int 2),.aa 3}})) .nil
theorem HL{n d:Nat}{k:Int}{x:Str}{p q:Tm}(I:Nat->V->H->Prop)(hI:∀j v ag,j<k.toNat->I j v ag->∃es,ag[d]?=some (.ay es)/\es.length<=aM/\∃v' cp,aq P sc (n+1) 36 [q.af,.ref ag.length] (ag++[.ay (bc es x v)])=.ok v' cp/\I (j+1) v' cp):
  ∀(r j:Nat)(v:V)(y:Option V)(σ:H),j+r=k.toNat->I j v σ->∃v' y' ag,eB (λk'=>M.pure ((dG k)[k']?.map λv=>[(4,v)])) (a6 (cx P sc (n+1)) Cw) (r+1) j [some (Tm.bb k x p q).af,some (.ref d),none,some v,y] σ=
   .ok .next [some (Tm.bb k x p q).af,some (.ref d),none,some v',y'] ag/\I k.toNat v' ag:=by
 intro r
 induction r with
|zero=>
  intro j v y σ hj h;have:j=k.toNat:=by assumption
  clear hj;subst this;exact⟨v,y,σ,sU (by rw[vR];rfl),h⟩
|succ r ih=>
  intro j v y σ hj h;refine bB λXx aI=>?_;obtain⟨es,hd,hl,v',cp,e,h'⟩:=hI j v σ (by exact lN 0x34184c04900904920634106138c [_,_,_] rfl hj) h;refine fV (ih (j+1) v' (some (.int j)) cp (by exact cj (lN 0x38134184c04900904920638106134c [_,_,_] rfl hj) (lN 0x4e06134c04904920630106138d [_,_,_] rfl hj)) h') λv2 y2 ak e2 h2=>?_;refine aI ?_;refine⟨v2,y2,ak,?_,h2⟩;refine(qB (b:=a6 (cx P sc (n+1)) Cw) (L1:=[some (Tm.bb k x p q).af,some (.ref d),none,some v,some (.int j)]) (ps:=[(4,.int j)]) (ae:=σ) (by rw[qK (by exact lN 0x34184c04900904920634106138c [_,_,_] rfl hj)];rfl) rfl ((a4 (aJ (aw rfl (aw (aJ (aN rfl (aw (x:=.str x) rfl (by rfl))) (sz B hd hl)) aU)) e)).trans fq)).trans e2
theorem Lq{n d:Nat}{k:Int}{x:Str}{p q:Tm}{u:V}{σ ae:H}(hk:0<=k/\k<=1000000)(e1:aq P sc (n+1) 36 [p.af,.ref d] σ=.ok u ae)(I:Nat->V->H->Prop)(h0:I 0 u ae)(hI:∀j v ag,j<k.toNat->I j v ag->∃es,ag[d]?=some (.ay es)/\es.length<=aM/\∃v' cp,aq P sc (n+1) 36 [q.af,.ref ag.length] (ag++[.ay (bc es x v)])=.ok v' cp/\I (j+1) v' cp):
  ∃v ak,aq P sc (n+3) 36 [(Tm.bb k x p q).af,.ref d] σ=.ok v ak/\I k.toNat v ak:=by refine fV (HL (sc:=sc) B (n:=n) (k:=k) (x:=x) (p:=p) (q:=q) I hI k.toNat 0 u none ae (by exact cj (lN 825917182536 [_] rfl) (lN 82144399944 [_] rfl)) h0) λv y ak e2 h2=>?_;refine⟨v,ak,tq B (w:="turns") (λ_ _=>rfl) (.inr (.inl rfl)) ?_,h2⟩;rw[cf B.r4 rfl];exact(congrArg bS (jmp 1 (by rfl') (bT (ae:=σ) (by rfl') ((a4 (aJ (by rfl) e1)).trans ((dt (sW (n:=k) rfl hk e2)).trans (bf (aD rfl))))))).trans rfl
theorem OQ{n d:Nat}{g x kd:Str}{p q:Tm}{v:V}{es:List (Str×V)}{σ ak:H}(hd:σ[d]?=some (.ay es))(hl:es.length<=aM)(e2:aq P sc (n+1) 36 [q.af,.ref (σ.length+1)] (σ++[.ah [.str x,p.af,.ref d]]++[.ay (bc es g (.ref σ.length))])=.ok v ak):aq P sc (n+3) 36 [(Tm.def_ g x kd p q).af,.ref d] σ=.ok v ak:=by refine tq B (w:="def") (λ_ _=>rfl) (.inr (.inr (.inl rfl))) ?_;rw[cf B.r4 rfl];have hw:=sz (sc:=sc) B (n:=n) (x:=g) (v:=.ref σ.length) (old (τ:=[.ah [.str x,p.af,.ref d]]) hd) hl;rw[List.length_append,List.length_singleton] at hw;exact(congrArg bS (jmp 2 (by rfl') (bT (ae:=σ) (by rfl') (bf (aJ (aw rfl (aw (aJ (aN rfl (aw (x:=.str g) rfl (aw (dH (aw (x:=.str x) rfl (aw (x:=p.af) rfl (by rfl))) (nb rfl)) aU))) hw) aU)) e2))))).trans rfl
theorem OR{n d d' lc:Nat}{g x:Str}{p body:Tm}{u v:V}{es es':List (Str×V)}{σ ae ak:H}(hd:σ[d]?=some (.ay es))(hg:cS es g=some (.ref lc))(hc:σ[lc]?=some (.ah [.str x,body.af,.ref d']))(e1:aq P sc (n+1) 36 [p.af,.ref d] σ=.ok u ae)(hc1:ae[lc]?=some (.ah [.str x,body.af,.ref d']))(hd':ae[d']?=some (.ay es'))(hl:es'.length<=aM)(e2:aq P sc (n+1) 36 [body.af,.ref ae.length] (ae++[.ay (bc es' x u)])=.ok v ak):aq P sc (n+3) 36 [(Tm.use g p).af,.ref d] σ=.ok v ak:=by refine tq B (w:="use") (λ_ _=>rfl) (.inr (.inr (.inr rfl))) ?_;rw[cf B.r4 rfl];exact(congrArg bS (jmp 3 (by rfl') ((a4 (b9 (aD rfl) (y:=.str g) rfl (hZ hd hg))).trans (bf (aJ (aw (b9 (aD rfl) (y:=.int 1) rfl (da hc (x:=body.af) rfl (by decide) (by decide))) (aw (aJ (aw (b9 (aD rfl) (y:=.int 2) rfl (da hc (x:=.ref d') rfl (by decide) (by decide))) (aw (b9 (aD rfl) (y:=.int 0) rfl (da hc (x:=.str x) rfl (by decide) (by decide))) (aw (aJ (by rfl) e1) aU))) (sz B hd' hl)) aU)) e2))))).trans rfl
end
inductive Dv where|no|num (i:Int)|fn (F:Int->Int)
def upd(ρ:Str->Dv)(x:Str)(v:Dv):Str->Dv:=λy=>if x==y then v else ρ y
def iter(f:Int->Int):Nat->Int->Int
|0,i=>i
|n+1,i=>f (iter f n i)
def Tm.den:Tm->(Str->Dv)->Int
|.num i,_=>i.fmod 1000003
|.name x,ρ=>match ρ x with|.num i=>i|_=>0
|.un _ a,ρ=>a.den ρ
|.use g a,ρ=>match ρ g with|.fn F=>F (a.den ρ)|_=>0
|.aj w a b,ρ=>fD w (a.den ρ) (b.den ρ)
|.aX x a b,ρ=>b.den (upd ρ x (.num (a.den ρ)))
|.bb k x a b,ρ=>iter (λi=>b.den (upd ρ x (.num i))) k.toNat (a.den ρ)
|.def_ g x _ a b,ρ=>b.den (upd ρ g (.fn λi=>a.den (upd ρ x (.num i))))
|.when a b c,ρ=>if a.den ρ=0 then c.den ρ else b.den ρ
theorem EA:(Tm.num i).den ρ=i.fmod 1000003:=rfl
theorem EB:(Tm.name x).den ρ=match ρ x with|.num i=>i|_=>0:=rfl
theorem EC:(Tm.un u1 a).den ρ=a.den ρ:=rfl
theorem ED:(Tm.use g a).den ρ=match ρ g with|.fn F=>F (a.den ρ)|_=>0:=rfl
theorem EE:(Tm.aj w a b).den ρ=fD w (a.den ρ) (b.den ρ):=rfl
theorem EF:(Tm.aX x a b).den ρ=b.den (upd ρ x (.num (a.den ρ))):=rfl
theorem EG:(Tm.bb k x a b).den ρ=iter (λi=>b.den (upd ρ x (.num i))) k.toNat (a.den ρ):=rfl
theorem EH:(Tm.def_ g x u1 a b).den ρ=b.den (upd ρ g (.fn λi=>a.den (upd ρ x (.num i)))):=rfl
theorem EJ:(Tm.when a b c).den ρ=if a.den ρ=0 then c.den ρ else b.den ρ:=rfl
class inductive PT:Sc->Tm->Prop
|num {Γ i}:PT Γ (.num i)
|name {Γ x l k}:look Γ x=some ⟨x,l,.val k⟩->PT Γ (.name x)
|use {Γ g a l ka k}:look Γ g=some ⟨g,l,.fn ka k⟩->PT Γ a->PT Γ (.use g a)
|aj {Γ w a b}:PT Γ a->PT Γ b->PT Γ (.aj w a b)
|when {Γ a b c}:PT Γ a->PT Γ b->PT Γ c->PT Γ (.when a b c)
|aX {Γ x a b l k}:PT Γ a->PT (Γ++[⟨x,l,.val k⟩]) b->PT Γ (.aX x a b)
|bb {Γ n x a b l k}:(0<=n/\n<=9)->PT Γ a->PT (Γ++[⟨x,l,.val k⟩]) b->PT Γ (.bb n x a b)
|def_ {Γ g x kd a b l k l' ka k'}:PT (Γ++[⟨x,l,.val k⟩]) a->PT (Γ++[⟨g,l',.fn ka k'⟩]) b->PT Γ (.def_ g x kd a b)
def dg(i:Int):Prop:=0<=i/\i<1000003
theorem wb(w:U2)(i j:Int):dg (fD w i j):=by
 cases w with
|sum=>exact⟨Int.fmod_nonneg_of_pos _ (by decide),Int.fmod_lt_of_pos _ (by decide)⟩
|product=>exact⟨Int.fmod_nonneg_of_pos _ (by decide),Int.fmod_lt_of_pos _ (by decide)⟩
|less=>show dg (if i<j then 1 else 0);split<;>exact⟨by decide,by decide⟩
theorem AL(h:dg i):small i=true:=by exact wm h.1 (Int.lt_trans h.2 (by decide))
theorem o9(hf:∀i,dg i->dg (f i)):∀(n:Nat)(i:Int),dg i->dg (iter f n i)
|0=>λ_ h=>h
|n+1=>λi h=>hf _ (o9 hf n i h)
def eh(ev:Nat->Tm->Nat->H->Res V)(N:Nat)(t:Tm)(d:Nat)(σ:H)(v:V):Prop:=∀n,N<=n->∃τ,ev n t d σ=.ok v (σ++τ)
theorem eh.more{ev:Nat->Tm->Nat->H->Res V}{N N':Nat}{t:Tm}(h:eh ev N t d σ v)(hN:N<=N'):eh ev N' t d σ v:=λn hn=>h n (bP hN hn)
section
variable(ev:Nat->Tm->Nat->H->Res V)(aZ:H->V->Str->Tm->Nat->Prop)(ok:H->Prop)
def M9:Prop:=∀{σ d es x v},σ[d]?=some (.ay es)->cS es x=some v->eh ev 1 (.name x) d σ v
def OS:Prop:=∀{σ d N u x y i j},ok σ->1<=N->eh ev N x d σ (.int i)->(∀τ,eh ev N y d (σ++τ) (.int j))->small i=true->eh ev (N+2) (.aj u x y) d σ (.int (fD u i j))
def Na:Prop:=∀{σ d N x y z i v},ok σ->1<=N->eh ev N x d σ (.int i)->(∀τ,eh ev N (if i=0 then z else y) d (σ++τ) v)->eh ev (N+2) (.when x y z) d σ v
def Nb:Prop:=∀{σ d N x p q u v es},ok σ->1<=N->σ[d]?=some (.ay es)->es.length<=aM->eh ev N p d σ u->(∀τ,eh ev N q (σ++τ).length (σ++τ++[.ay (bc es x u)]) v)->eh ev (N+2) (.aX x p q) d σ v
def Lr:Prop:=∀{σ d N k x p q es i}{f:Int->Int},ok σ->1<=N->σ[d]?=some (.ay es)->es.length<=aM->(0<=k/\k<=9)->(∀i,dg i->dg (f i))->dg i->eh ev N p d σ (.int i)->(∀τ i,dg i->eh ev N q (σ++τ).length (σ++τ++[.ay (bc es x (.int i))]) (.int (f i)))->eh ev (N+2) (.bb k x p q) d σ (.int (iter f k.toNat i))
def Nc:Prop:=∀{σ d N g x kd p q v es},ok σ->1<=N->σ[d]?=some (.ay es)->es.length<=aM->(∀τ cv,aZ (σ++τ) cv x p d->eh ev N q (σ++τ).length (σ++τ++[.ay (bc es g cv)]) v)->eh ev (N+2) (.def_ g x kd p q) d σ v
def OT:Prop:=∀{σ d N g x p body d' es es' cv u v},ok σ->1<=N->σ[d]?=some (.ay es)->cS es g=some cv->aZ σ cv x body d'->σ[d']?=some (.ay es')->es'.length<=aM->eh ev N p d σ u->(∀τ,eh ev N body (σ++τ).length (σ++τ++[.ay (bc es' x u)]) v)->eh ev (N+2) (.use g p) d σ v
end
structure rO(ev:Nat->Tm->Nat->H->Res V)(aZ:H->V->Str->Tm->Nat->Prop)(ok:H->Prop):Prop where
 add:∀{σ τ},ok σ->ok (σ++τ)
 pZ:∀{σ τ v x b d},aZ σ v x b d->aZ (σ++τ) v x b d
 new:∀σ x b d,∃τ cv,aZ (σ++τ) cv x b d
 num:∀{σ d i},eh ev 1 (.num i) d σ (.int (i.fmod 1000003))
 name:M9 ev
 aj:OS ev ok
 when:Na ev ok
 aX:Nb ev ok
 bb:Lr ev ok
 def_:Nc ev aZ ok
 use:OT ev aZ ok
section
variable{ev:Nat->Tm->Nat->H->Res V}{aZ:H->V->Str->Tm->Nat->Prop}{ok:H->Prop}
def Cy(ev:Nat->Tm->Nat->H->Res V)(aZ:H->V->Str->Tm->Nat->Prop)(R:Nat)(σ:H)(es:List (Str×V))(ρ:Str->Dv)(x:Str):Mn->Prop
|.val _=>∃i,ρ x=.num i/\cS es x=some (.int i)/\dg i
|.fn _ _=>∃F cv p body d' es',ρ x=.fn F/\cS es x=some cv/\aZ σ cv p body d'/\σ[d']?=some (.ay es')/\es'.length<=aM/\(∀i,dg i->dg (F i))/\∀τ i,dg i->eh ev R body (σ++τ).length (σ++τ++[.ay (bc es' p (.int i))]) (.int (F i))
def Env(ev:Nat->Tm->Nat->H->Res V)(aZ:H->V->Str->Tm->Nat->Prop)(R:Nat)(Γ:Sc)(σ:H)(es:List (Str×V))(ρ:Str->Dv):Prop:=∀x e,look Γ x=some e->Cy ev aZ R σ es ρ x e.m
variable(K:rO ev aZ ok)
include K
theorem Env.grow(h:Env ev aZ R Γ σ es ρ)(hR:R<=R'):Env ev aZ R' Γ (σ++τ) es ρ:=λx e he=>by
 have:=h x e he;obtain⟨ex,el,em⟩:=e;clear he;cases em with
|val k=>exact this
|fn a r=>
  refine xh (this) λF cv p body d' es' h1 h2 h3 h4 h5 h6 h7=>?_;refine⟨F,cv,p,body,d',es',h1,h2,K.pZ h3,old h4,h5,h6,λfQ i hi=>?_⟩;rw[List.append_assoc];exact(h7 (τ++fQ) i hi).more hR
omit K in
theorem Env.put(h:Env ev aZ R Γ σ es ρ)(hv:Cy ev aZ R σ (bc es e.x v) (upd ρ e.x dv) e.x e.m):Env ev aZ R (Γ++[e]) σ (bc es e.x v) (upd ρ e.x dv):=λx e' he=>by
 rw[fS] at he;cases hx:(e.x==x) with
|true=>
  replace he:=(if_pos rfl)▸(hx▸he);(apply eJ he)
  (refine(beq_iff_eq.mp hx)▸?_);exact hv
|false=>
  replace he:=hx▸he;have:=h x e' he;have g1:cS (bc es e.x v) x=cS es x:=by rw[ml,hx];rfl
  have g2:upd ρ e.x dv x=ρ x:=by unfold upd;(refine hx▸?_);rfl
  obtain⟨ex,el,em⟩:=e';clear he;cases em with
  |val k=>obtain⟨i,h1,h2,h3⟩:=this;exact⟨i,g2.trans h1,g1.trans h2,h3⟩
  |fn a r=>obtain⟨F,cv,p,body,d',es',h1,h2,h3⟩:=this;exact⟨F,cv,p,body,d',es',g2.trans h1,g1.trans h2,h3⟩
omit K in
theorem Env.num(h:Env ev aZ R Γ σ es ρ)(hi:dg i):Env ev aZ R (Γ++[⟨x,l,.val k⟩]) σ (bc es x (.int i)) (upd ρ x (.num i)):=
 Env.put h ⟨i,by unfold upd;rw[beq_self_eq_true];rfl,by rw[ml,beq_self_eq_true];rfl,hi⟩
end
section
variable{P:Prog}{sc:List Int}
theorem dM(σ τ fQ:H):σ++τ++fQ=σ++(τ++fQ):=List.append_assoc _ _ _
theorem Nd(B:LVal P){n d:Nat}{x y z:Tm}{i:Int}{v:V}{σ ae ak:H}(e1:aq P sc n 36 [x.af,.ref d] σ=.ok (.int i) ae)(e2:aq P sc n 36 [(if i=0 then z else y).af,.ref d] ae=.ok v ak):aq P sc (n+1) 36 [(Tm.when x y z).af,.ref d] σ=.ok v ak:=by
 have hi:∀L,L=[some (Tm.when x y z).af,some (.ref d),some (.str "when"),none,none]->ao (cx P sc n) (.au (.aa 0) (.aj .Add (.int 2) (.toInt (.cmp .Eq (.call 36 {.au (.aa 0) (.int 1),.aa 1}) (.int 0))))) L σ=.ok (if i=0 then z else y).af ae:=λL hL=>by
  subst hL;have hc:=kh (C:=cx P sc n) (L:=[some (Tm.when x y z).af,some (.ref d),some (.str "when"),none,none]) (b:=.int 0) (aJ (aw (a:=.au (.aa 0) (.int 1)) rfl (aN (i:=1) rfl aU)) e1) rfl (tM i 0 ae)
  by_cases h:i=0
  ·refine(if_pos h)▸?_;replace hc:=h▸hc;exact b9 (aD rfl) (bJ rfl (kL hc rfl) rfl) rfl
  ·refine(if_neg h)▸?_;replace hc:=(beq_eq_false_iff_ne.mpr h)▸hc;exact b9 (aD rfl) (bJ rfl (kL hc rfl) rfl) rfl
 exact mH B (λ_ _=>rfl) (jmp 3 (by rfl') (bT (by rfl') (bf (aJ (aw (hi _ rfl) rfl) e2))))
theorem JM(B:LVal P):
  rO (λn t d σ=>aq P sc n 36 [t.af,.ref d] σ) (λσ v x b d=>∃l,v=.ref l/\σ[l]?=some (.ah [.str x,b.af,.ref d])) (λ_=>True) where
 add _:=trivial
 pZ:=λ⟨l,h1,h2⟩=>⟨l,h1,old h2⟩
 new σ x b d:=⟨[.ah [.str x,b.af,.ref d]],.ref σ.length,_,rfl,bC⟩
 num {σ d i} n hn:=by
  obtain⟨k,rfl⟩:∃k,n=k+1:=⟨n-1,by exact cj (lN 0x184284c308049201241248 [_] rfl) (lN 0x30184284c201248049009049205321 [_] rfl hn)⟩;exact⟨[],by rw[List.append_nil];exact DC B σ⟩
 name hd hv n hn:=by
  obtain⟨k,rfl⟩:∃k,n=k+1:=⟨n-1,by exact cj (lN 0x184284c308049201241248 [_] rfl) (lN 0x30184284c201248049009049205321 [_] rfl hn)⟩;exact⟨[],by rw[List.append_nil];exact M8 B hd hv⟩
 aj _ hN h1 h2 hi n hn:=by
  obtain⟨k,rfl⟩:∃k,n=k+1:=⟨n-1,by exact cj (lN 0x184284c308049201241248 [_] rfl) (lN 0x30184284c20124804900904920530188d [_,_] rfl hn)⟩;obtain⟨bI,e1⟩:=h1 k (cg (bz ‹_›));obtain⟨cH,e2⟩:=h2 bI k (cg (bz ‹_›));obtain⟨fw,e3⟩:=OO B e1 e2 hi;exact⟨bI++cH++fw,by rw[dM,dM] at e3;rw[dM];exact e3⟩
 when _ hN h1 h2 n hn:=by
  obtain⟨k,rfl⟩:∃k,n=k+1:=⟨n-1,by exact cj (lN 0x184284c308049201241248 [_] rfl) (lN 0x30184284c20124804900904920530188d [_,_] rfl hn)⟩;obtain⟨bI,e1⟩:=h1 k (cg (bz ‹_›));obtain⟨cH,e2⟩:=h2 bI k (cg (bz ‹_›));exact⟨bI++cH,by rw[←dM];exact Nd B e1 e2⟩
 aX _ hN hd hl h1 h2 n hn:=by
  obtain⟨k,rfl⟩:∃k,n=k+3:=⟨n-3,by exact cj (lN 0x18c28cc308049201241248 [_] rfl) (lN 0xc0630a330804920124024124124814d84530188d [_,_] rfl hN hn)⟩;obtain⟨bI,e1⟩:=h1 (k+1) (Nat.le_of_add_le_add_right ‹_›);obtain⟨cH,e2⟩:=h2 bI (k+1) (Nat.le_of_add_le_add_right ‹_›);exact⟨_,by rw[←dM,←dM];exact OP B e1 (old hd) hl e2⟩
 bb {σ d N m x p q es i f} _ hN hd hl hk hf hi h1 h2 n hn:=by
  obtain⟨k,rfl⟩:∃k,n=k+3:=⟨n-3,by exact cj (lN 0x18c28cc308049201241248 [_] rfl) (lN 0xc0630a330804920124024124124814d84530188d [_,_] rfl hN hn)⟩;obtain⟨bI,e1⟩:=h1 (k+1) (Nat.le_of_add_le_add_right ‹_›)
  obtain⟨v,ak,e2,cH,hv,hs⟩:=Lq B ⟨hk.1,by exact lI 0x7247d078cc049049205a4c [_] rfl hk.2⟩ e1 (λj v s=>∃τ,v=.int (iter f j i)/\s=σ++τ) ⟨bI,rfl,rfl⟩ (λj v s hj hI=>by
   obtain⟨τ,rfl,rfl⟩:=hI;obtain⟨cH,e2⟩:=h2 τ (iter f j i) (o9 hf _ _ hi) (k+1) (Nat.le_of_add_le_add_right ‹_›)
   exact⟨es,old hd,hl,_,_,e2,_,rfl,by rw[dM,dM]⟩)
  rw[hv,hs] at e2;exact⟨cH,e2⟩
 def_ {σ d N g x kd p q v es} _ hN hd hl h n hn:=by
  obtain⟨k,rfl⟩:∃k,n=k+3:=⟨n-3,by exact cj (lN 0x18c28cc308049201241248 [_] rfl) (lN 0xc0630a330804920124024124124814d84530188d [_,_] rfl hN hn)⟩;obtain⟨τ,e⟩:=h [.ah [.str x,p.af,.ref d]] (.ref σ.length) ⟨_,rfl,bC⟩ (k+1) (Nat.le_of_add_le_add_right ‹_›);rw[List.length_append,List.length_singleton] at e;exact⟨_,by rw[←dM,←dM];exact OQ B hd hl e⟩
 use _ hN hd hg hc hd' hl h1 h2 n hn:=by obtain⟨k,rfl⟩:∃k,n=k+3:=⟨n-3,by exact cj (lN 0x18c28cc308049201241248 [_] rfl) (lN 0xc0630a330804920124024124124814d84530188d [_,_] rfl hN hn)⟩;obtain⟨l,rfl,hc⟩:=hc;obtain⟨bI,e1⟩:=h1 (k+1) (Nat.le_of_add_le_add_right ‹_›);obtain⟨cH,e2⟩:=h2 bI (k+1) (Nat.le_of_add_le_add_right ‹_›);exact⟨_,by rw[←dM,←dM];exact OR B hd hg hc e1 (old hc) (old hd') hl e2⟩
theorem AM(B:m5 P){s a:Nat}{m:Int}:
  rO (λn t d σ=>aq P sc n 27 [.ref s,t.af,.ref d] σ) (λ_ v x b d=>v=.aB [.str x,b.af,.ref d]) (λσ=>Self σ s a m) where
 add h:=h.add
 pZ h:=h
 new σ x b d:=⟨[],_,rfl⟩
 num {σ d i} n hn:=by
  obtain⟨k,rfl⟩:∃k,n=k+1:=⟨n-1,by exact cj (lN 0x184284c308049201241248 [_] rfl) (lN 0x30184284c201248049009049205321 [_] rfl hn)⟩;exact⟨[],by rw[List.append_nil];exact xG B σ⟩
 name hd hv n hn:=by
  obtain⟨k,rfl⟩:∃k,n=k+1:=⟨n-1,by exact cj (lN 0x184284c308049201241248 [_] rfl) (lN 0x30184284c201248049009049205321 [_] rfl hn)⟩;exact⟨[],by rw[List.append_nil];exact Cu B hd hv⟩
 aj S hN h1 h2 hi n hn:=by
  obtain⟨k,rfl⟩:∃k,n=k+2:=⟨n-2,by exact cj (lN 0x188288c308049201241248 [_] rfl) (lN 0x30188288c20124804900904920530188d [_,_] rfl hn)⟩;obtain⟨bI,e1⟩:=h1 (k+1) (cg (bz ‹_›));obtain⟨cH,e2⟩:=h2 bI (k+1) (cg (bz ‹_›));exact⟨_,by rw[←dM];exact Dw B S e1 S.add e2 hi⟩
 when S hN h1 h2 n hn:=by
  obtain⟨k,rfl⟩:∃k,n=k+1:=⟨n-1,by exact cj (lN 0x184284c308049201241248 [_] rfl) (lN 0x30184284c20124804900904920530188d [_,_] rfl hn)⟩;obtain⟨bI,e1⟩:=h1 k (cg (bz ‹_›));obtain⟨cH,e2⟩:=h2 bI k (cg (bz ‹_›));exact⟨_,by rw[←dM];exact Cv B S e1 S.add e2⟩
 aX S hN hd hl h1 h2 n hn:=by
  obtain⟨k,rfl⟩:∃k,n=k+2:=⟨n-2,by exact cj (lN 0x188288c308049201241248 [_] rfl) (lN 0x30188288c20124804900904920530188d [_,_] rfl hn)⟩;obtain⟨bI,e1⟩:=h1 (k+1) (cg (bz ‹_›));obtain⟨cH,e2⟩:=h2 bI (k+1) (cg (bz ‹_›));exact⟨_,by rw[←dM,←dM];exact Dx B S e1 S.add (old hd) hl e2⟩
 bb {σ d N m' x p q es i f} S hN hd hl hk hf hi h1 h2 n hn:=by
  obtain⟨k,rfl⟩:∃k,n=k+2:=⟨n-2,by exact cj (lN 0x188288c308049201241248 [_] rfl) (lN 0x30188288c20124804900904920530188d [_,_] rfl hn)⟩;obtain⟨bI,e1⟩:=h1 (k+1) (cg (bz ‹_›))
  obtain⟨v,ak,e2,cH,hv,hs⟩:=BM B S ⟨hk.1,by exact lI 0x7247d078cc049049205a4c [_] rfl hk.2⟩ e1 (λj v s'=>∃τ,v=.int (iter f j i)/\s'=σ++τ) ⟨bI,rfl,rfl⟩ (λj v s' hj hI=>by
   obtain⟨τ,rfl,rfl⟩:=hI;obtain⟨cH,e2⟩:=h2 τ (iter f j i) (o9 hf _ _ hi) (k+1) (cg (bz ‹_›))
   exact⟨⟨_,S.add⟩,es,old hd,hl,_,_,e2,_,rfl,by rw[dM,dM]⟩)
  rw[hv,hs] at e2;exact⟨cH,e2⟩
 def_ {σ d N g x kd p q v es} S hN hd hl h n hn:=by
  obtain⟨k,rfl⟩:∃k,n=k+2:=⟨n-2,by exact cj (lN 0x188288c308049201241248 [_] rfl) (lN 0x30188288c20124804900904920530188d [_,_] rfl hn)⟩;obtain⟨τ,e⟩:=h [] _ rfl (k+1) (cg (bz ‹_›));rw[List.append_nil] at e;exact⟨_,by rw[←dM];exact Dy B S hd hl e⟩
 use S hN hd hg hc hd' hl h1 h2 n hn:=by obtain⟨k,rfl⟩:∃k,n=k+2:=⟨n-2,by exact cj (lN 0x188288c308049201241248 [_] rfl) (lN 0x30188288c20124804900904920530188d [_,_] rfl hn)⟩;subst hc;obtain⟨bI,e1⟩:=h1 (k+1) (cg (bz ‹_›));obtain⟨cH,e2⟩:=h2 bI (k+1) (cg (bz ‹_›));exact⟨_,by rw[←dM,←dM];exact Dz B S e1 S.add (old hd) hg (old hd') hl e2⟩
end
def Tm.cost:Tm->(Str->Int)->Int
|.num _,_=>1
|.name _,_=>1
|.un _ a,φ=>1+(a.cost φ+0)
|.use g a,φ=>1+φ g+a.cost φ
|.aj _ a b,φ=>1+(a.cost φ+(b.cost φ+0))
|.aX _ a b,φ=>1+(a.cost φ+(b.cost φ+0))
|.bb k _ a b,φ=>1+a.cost φ+k*b.cost φ
|.def_ g _ _ a b,φ=>1+b.cost (λy=>if g==y then a.cost φ else φ y)
|.when a b c,φ=>1+(a.cost φ+(b.cost φ+(c.cost φ+0)))
theorem ll:(Tm.num u1).cost φ=1:=rfl
theorem lp:(Tm.name u1).cost φ=1:=rfl
theorem lq:(Tm.un u1 a).cost φ=1+(a.cost φ+0):=rfl
theorem lr:(Tm.use g a).cost φ=1+φ g+a.cost φ:=rfl
theorem lu:(Tm.aj u1 a b).cost φ=1+(a.cost φ+(b.cost φ+0)):=rfl
theorem lx:(Tm.aX u1 a b).cost φ=1+(a.cost φ+(b.cost φ+0)):=rfl
theorem ly:(Tm.bb k u1 a b).cost φ=1+a.cost φ+k*b.cost φ:=rfl
theorem lz:(Tm.def_ g u1 u2 a b).cost φ=1+b.cost (λy=>if g==y then a.cost φ else φ y):=rfl
theorem lA:(Tm.when a b c).cost φ=1+(a.cost φ+(b.cost φ+(c.cost φ+0))):=rfl
theorem JN{I:H->Prop}(hI:∀σ τ,I σ->I (σ++τ)){f:V->M (Option V)}{g:Tm->V}(hf:∀t∈ts,∀σ,I σ->∃τ,f t.af σ=.ok (some (g t)) (σ++τ)):
  ∀(rest done:List Tm)(σ:H),ts=done++rest->I σ->σ[l]?=some (.ah (ts.map Tm.af))->∃τ,di (.live l) f (rest.length+1) done.length σ=.ok (rest.map g) (σ++τ):=by
 intro rest
 induction rest with
|nil=>
  intro done σ hd h0 hl;refine⟨[],?_⟩;rw[List.append_nil];exact kE (by(refine jU▸?_;refine(aW (dY hl))▸?_);simp[M.pure,hd])
|cons t rest ih=>
  intro done σ hd h0 hl;obtain⟨τ,h1⟩:=hf t (by(refine hd▸?_);simp) σ h0;obtain⟨fQ,h2⟩:=ih (done++[t]) (σ++τ) (by(refine hd▸?_);simp) (hI _ _ h0) (old hl);refine⟨τ++fQ,?_⟩;replace h2:=(List.length_singleton)▸((List.length_append)▸h2);have:=gL (k:=done.length) (σ:=σ) (ae:=σ) (v:=t.af) (by(refine jU▸?_;refine(aW (dY hl))▸?_);simp[M.pure,hd]) h1 h2;rw[List.length_cons,this,List.append_assoc];rfl
theorem pj{C:Ctx}{L:aR}{c:Nat}{σ:H}:ao C (.new c) L σ=.ok (.ref (σ.length+1)) (σ++[.cU 0]++[.inst c σ.length]):=by rw[IK];show cY (.inst c σ.length) (σ++[.cU 0])=_;show Res.ok (V.ref (σ++[O.cU 0]).length) _=_;rw[List.length_append];rfl
theorem jT{c:Nat}{σ:H}:Self (σ++[.cU 0]++[.inst c σ.length]) (σ.length+1) σ.length 0:=by refine⟨⟨c,?_⟩,old bC⟩;have:=bC (σ:=σ++[O.cU 0]) (o:=O.inst c σ.length);rw[List.length_append] at this;exact this
theorem sX{C:Ctx}{L:aR}{σ ae ak:H}{a b:E}{k:Int}(h1:ao C a L σ=.ok (.int k) ae)(h2:ao C b L ae=.ok (.int k) ak):ao C (.cmp .Eq a b) L σ=.ok (.bool true) ak:=by refine kh h1 h2 ((tM k k ak).trans ?_);rw[beq_self_eq_true]
class inductive HG:Nat->Sc->Lv->Bool->Tm->Kd->Prop
|num {d Γ l f i}:HG d Γ l f (.num i) .aA
|name {d Γ l f x k}:look Γ x=some ⟨x,l,.val k⟩->HG d Γ l f (.name x) k
|jb {d Γ f x}:look Γ x=some ⟨x,.z,.val .aV⟩->HG d Γ .o f (.un .hole (.name x)) .aA
|jw {d Γ f x}:look Γ x=some ⟨x,.o,.val .aA⟩->HG d Γ .z f (.un .bE (.name x)) .aV
|jx {d Γ f i}:HG d Γ .z f (.un .bE (.num i)) .aV
|jF {d Γ f i}:HG d Γ .z f (.un .lift (.num i)) .aV
|when {d Γ l f a b c k}:HG d Γ l f a .aA->HG d Γ l f b k->HG d Γ l f c k->HG (d+1) Γ l f (.when a b c) k
|use {d Γ l f g a ka k}:look Γ g=some ⟨g,l,.fn ka k⟩->HG d Γ l f a ka->HG (d+1) Γ l f (.use g a) k
|aX {d Γ l f x a b k k'}:HG d Γ l f a k->HG d (Γ++[⟨x,l,.val k⟩]) l f b k'->HG (d+1) Γ l f (.aX x a b) k'
|bb {d Γ l f n x a b k}:(0<=n/\n<=9)->HG d Γ l f a k->HG d (Γ++[⟨x,l,.val k⟩]) l f b k->HG (d+1) Γ l f (.bb n x a b) k
|def_ {d Γ l f g x a b ka k k'}:(l=.o->ka=.aA/\k=.aA)->HG d (Γ++[⟨x,l,.val ka⟩]) l false a k->HG d (Γ++[⟨g,l,.fn ka k⟩]) l f b k'->HG (d+1) Γ l f (.def_ g x ka.s a b) k'
|bE {d Γ f a}:HG d Γ .o false a .aA->HG (d+1) Γ .z f (.un .bE a) .aV
|hole {d Γ f a}:HG d Γ .z false a .aV->HG (d+1) Γ .o f (.un .hole a) .aA
|lift {d Γ f a}:HG d Γ .z f a .aA->HG (d+1) Γ .z f (.un .lift a) .aV
|run {d Γ a}:HG d Γ .z true a .aV->HG (d+1) Γ .z true (.un .run a) .aA
|aj {d Γ l f w a b}:HG d Γ l f a .aA->HG d Γ l f b .aA->HG (d+1) Γ l f (.aj w a b) .aA
|kept {d Γ f x g a b}:HG (d-1) Γ .o false a .aA->HG (d-1) (Γ++[⟨x,.o,.val .aA⟩]++[⟨g,.z,.val .aV⟩]) .o false b .aA->HG (d+1) Γ .o f (.aX x a (.un .hole (.aX g (.un .bE (.name x)) (.un .bE b)))) .aA
|twice {d Γ f x g a y i b c}:HG (d-1) Γ .o false a .aA->HG 0 (Γ++[⟨x,.o,.val .aA⟩]++[⟨g,.z,.val .aV⟩]++[⟨y,.o,.val .aA⟩]) .o false b .aA->HG (d-2) (Γ++[⟨x,.o,.val .aA⟩]++[⟨g,.z,.val .aV⟩]++[⟨y,.o,.val .aA⟩]) .o false c .aA->
   HG (d+1) Γ .o f (.aX x a (.un .hole (.aX g (.un .bE (.name x)) (.un .bE (.aX y (.num i) (.aj .sum b c)))))) .aA
theorem Qg:Gr HG:=⟨.num,.name,.jb,.jw,.jx,.jF,.when,.use,.aX,.bb,.def_,.bE,.hole,.lift,.run,.aj,.kept,.twice⟩
structure Sg where
 k:Int
 fl:Bool
 c:Int
set_option genCtorIdx false in
inductive Bv where|num (i:Int)|pc (p:Tm)
def Bv.n:Bv->Int
|.num i=>i|.pc _=>0
def Bv.p:Bv->Tm
|.num _=>.num 0|.pc p=>p
def Bv.v:Bv->V
|.num i=>.int i|.pc p=>p.af
set_option genCtorIdx false in
inductive Sv where|no|val (b:Bv)|fn (F:Bv->Sg->Bv×Sg)|nm (y:Str)
def Sv.b:Sv->Bv
|.val b=>b|_=>.num 0
def Sv.f:Sv->Bv->Sg->Bv×Sg
|.fn F=>F|_=>λb s=>(b,s)
def Sv.y:Sv->Str
|.nm y=>y|_=>""
def bQ(η:Str->Sv)(x:Str)(v:Sv):Str->Sv:=λy=>if x==y then v else η y
def cM(f:Bv->Sg->Bv×Sg):Nat->Bv×Sg->Bv×Sg
|0,r=>r
|n+1,r=>cM f n (f r.1 r.2)
def Sg.new(s:Sg):Sg:=⟨s.k+1,s.fl,s.c⟩
def Tm.d5(p:Tm):Int:=p.cost λ_=>0
def il(p:Tm)(s:Sg):Bv×Sg:=
 if 2000<p.size∨30<p.depth then(.pc (.num 0),⟨s.k,true,s.c+p.size⟩) else(.pc p,⟨s.k,s.fl,s.c+p.size⟩)
def gW(p:Tm)(s:Sg):Bv×Sg:=
 if 5000<s.c+p.d5 then(.num 0,⟨s.k,s.fl,s.c+p.d5⟩) else(.num (p.den λ_=>.no),⟨s.k,s.fl,s.c+p.d5⟩)
def SB(m:Sg->Bv×Sg)(f:Bv->Sg->Bv×Sg):Sg->Bv×Sg:=λs=>f (m s).1 (m s).2
def SR(b:Bv):Sg->Bv×Sg:=λs=>(b,s)
def sd:Tm->(Str->Sv)->Lv->Sg->Bv×Sg
|.num i,_,l=>match l with
  |.z=>SR (.num (i.fmod 1000003))
  |.o=>SR (.pc (.num i))
|.name x,η,l=>match l with
  |.z=>SR (η x).b
  |.o=>SR (.pc (.name (η x).y))
|.un w a,η,_=>match w with
  |.bE=>λs=>if 5000<s.c then(.pc (.num 0),s) else SB (sd a η .o) (λu=>il u.p) s
  |.hole=>sd a η .z
  |.lift=>SB (sd a η .z) λu=>SR (.pc (.num u.n))
  |.run=>SB (sd a η .z) λu=>gW u.p
|.use g a,η,l=>match l with
  |.z=>SB (sd a η .z) (η g).f
  |.o=>SB (sd a η .o) λu=>SR (.pc (.use (η g).y u.p))
|.aj w a b,η,l=>match l with
  |.z=>SB (sd a η .z) λu=>SB (sd b η .z) λv=>SR (.num (fD w u.n v.n))
  |.o=>SB (sd a η .o) λu=>SB (sd b η .o) λv=>SR (.pc (.aj w u.p v.p))
|.when a b c,η,l=>match l with
  |.z=>SB (sd a η .z) λu=>if u.n=0 then sd c η .z else sd b η .z
  |.o=>SB (sd a η .o) λu=>SB (sd b η .o) λv=>SB (sd c η .o) λw=>SR (.pc (.when u.p v.p w.p))
|.aX x a b,η,l=>match l with
  |.z=>SB (sd a η .z) λu=>sd b (bQ η x (.val u)) .z
  |.o=>λs=>SB (sd a η .o) (λu=>SB (sd b (bQ η x (.nm (vn (s.k+1)))) .o) λv=>SR (.pc (.aX (vn (s.k+1)) u.p v.p))) s.new
|.bb n x a b,η,l=>match l with
  |.z=>λs=>cM (λu=>sd b (bQ η x (.val u)) .z) n.toNat (sd a η .z s)
  |.o=>λs=>SB (sd a η .o) (λu=>SB (sd b (bQ η x (.nm (vn (s.k+1)))) .o) λv=>SR (.pc (.bb n (vn (s.k+1)) u.p v.p))) s.new
|.def_ g x kd a b,η,l=>match l with
  |.z=>sd b (bQ η g (.fn λu=>sd a (bQ η x (.val u)) .z)) .z
  |.o=>λs=>SB (sd a (bQ η x (.nm (vn (s.k+1+1)))) .o) (λu=>SB (sd b (bQ η g (.nm (vn (s.k+1)))) .o) λv=>SR (.pc (.def_ (vn (s.k+1)) (vn (s.k+1+1)) kd u.p v.p))) s.new.new
end Qh
set_option tactic.hygienic true
namespace Qh
open PySem
inductive Pm where|v|f
noncomputable abbrev Dm:=Str->Option Pm
def dj(Δ:Dm)(x:Str)(m:Pm):Dm:=λy=>if x==y then some m else Δ y
class inductive dF(u:Bool):Dm->Tm->Prop
|num {Δ i}:dF u Δ (.num i)
|name {Δ x}:Δ x=some .v->dF u Δ (.name x)
|use {Δ g a}:Δ g=some .f->dF u Δ a->dF u Δ (.use g a)
|aj {Δ w a b}:dF u Δ a->dF u Δ b->dF u Δ (.aj w a b)
|when {Δ a b c}:dF u Δ a->dF u Δ b->dF u Δ c->dF u Δ (.when a b c)
|aX {Δ x a b}:dF u Δ a->dF u (dj Δ x .v) b->dF u Δ (.aX x a b)
|bb {Δ n x a b}:(0<=n/\n<=9)->dF u Δ a->dF u (dj Δ x .v) b->dF u Δ (.bb n x a b)
|def_ {Δ g x kd a b}:dF u (dj Δ x .v) a->dF u (dj Δ g .f) b->dF u Δ (.def_ g x kd a b)
|un {Δ w a}:u=true->dF u Δ a->dF u Δ (.un w a)
noncomputable abbrev PD:=dF false
def Dm.le(Δ cI:Dm):Prop:=∀y m,Δ y=some m->cI y=some m
theorem Dm.le.refl(Δ:Dm):Δ.le Δ:=λ_ _ h=>h
theorem Dm.le.trans{Δ cI m6:Dm}(h:Δ.le cI)(h':cI.le m6):Δ.le m6:=λy m q=>h' y m (h y m q)
theorem Dm.le.upd{Δ cI:Dm}(h:Δ.le cI)(x:Str)(m:Pm):(dj Δ x m).le (dj cI x m):=λy m' q=>by
 unfold dj at q ⊢
 split
 ·rename_i e;rw[if_pos e] at q;exact q
 ·rename_i e;rw[if_neg e] at q;exact h y m' q
theorem Dm.le.new{Δ:Dm}{x:Str}(m:Pm)(h:Δ x=none):Δ.le (dj Δ x m):=λy m' q=>by
 unfold dj
 split
 ·rename_i e;rw[←beq_iff_eq.mp e,h] at q;exact bL q
 ·exact q
theorem dF.mono{q:Bool}{Δ:Dm}{p:Tm}(h:dF q Δ p):∀cI:Dm,Δ.le cI->dF q cI p:=by
 induction h with
|num=>exact λ_ _=>.num
|name h=>exact λ_ q=>.name (q _ _ h)
|use h _ ih=>exact λ_ q=>.use (q _ _ h) (ih _ q)
|aj _ _ h1 h2=>exact λ_ q=>.aj (h1 _ q) (h2 _ q)
|when _ _ _ h1 h2 h3=>exact λ_ q=>.when (h1 _ q) (h2 _ q) (h3 _ q)
|aX _ _ h1 h2=>exact λ_ q=>.aX (h1 _ q) (h2 _ (q.upd _ _))
|bb hn _ _ h1 h2=>exact λ_ q=>.bb hn (h1 _ q) (h2 _ (q.upd _ _))
|def_ _ _ h1 h2=>exact λ_ q=>.def_ (h1 _ (q.upd _ _)) (h2 _ (q.upd _ _))
|un h _ h1=>exact λ_ q=>.un h (h1 _ q)
def iJ(φ:Str->Nat)(x:Str)(n:Nat):Str->Nat:=λy=>if x==y then n else φ y
def Tm.fr:Tm->(Str->Nat)->Nat
|.num _,_=>1
|.name _,_=>1
|.un _ a,φ=>1+a.fr φ
|.use g a,φ=>1+max (a.fr φ) (φ g)
|.aj _ a b,φ=>1+max (a.fr φ) (b.fr φ)
|.aX _ a b,φ=>1+max (a.fr φ) (b.fr φ)
|.bb _ _ a b,φ=>1+max (a.fr φ) (b.fr φ)
|.def_ g _ _ a b,φ=>1+b.fr (iJ φ g (a.fr φ))
|.when a b c,φ=>1+max (a.fr φ) (max (b.fr φ) (c.fr φ))
theorem lB{u1:Int}{φ:Str->Nat}:(Tm.num u1).fr φ=1:=rfl
theorem lC{u1:Str}{φ:Str->Nat}:(Tm.name u1).fr φ=1:=rfl
theorem kx{u1:U1}{a:Tm}{φ:Str->Nat}:(Tm.un u1 a).fr φ=1+a.fr φ:=rfl
theorem lD{g:Str}{a:Tm}{φ:Str->Nat}:(Tm.use g a).fr φ=1+max (a.fr φ) (φ g):=rfl
theorem lE{u1:U2}{a:Tm}{b:Tm}{φ:Str->Nat}:(Tm.aj u1 a b).fr φ=1+max (a.fr φ) (b.fr φ):=rfl
theorem lF{u1:Str}{a:Tm}{b:Tm}{φ:Str->Nat}:(Tm.aX u1 a b).fr φ=1+max (a.fr φ) (b.fr φ):=rfl
theorem lG{u1:Int}{u2:Str}{a:Tm}{b:Tm}{φ:Str->Nat}:(Tm.bb u1 u2 a b).fr φ=1+max (a.fr φ) (b.fr φ):=rfl
theorem lH{g:Str}{u1:Str}{u2:Str}{a:Tm}{b:Tm}{φ:Str->Nat}:(Tm.def_ g u1 u2 a b).fr φ=1+b.fr (iJ φ g (a.fr φ)):=rfl
theorem lJ{a:Tm}{b:Tm}{c:Tm}{φ:Str->Nat}:(Tm.when a b c).fr φ=1+max (a.fr φ) (max (b.fr φ) (c.fr φ)):=rfl
def dep(u Φ:Nat):Nat:=if u=0 then 0 else u+Φ
def Below(Δ:Dm)(k:Int):Prop:=∀y m,Δ y=some m->∃i:Int,y=vn i/\1<=i/\i<=k
theorem Below.up{Δ:Dm}{k k':Int}(h:Below Δ k)(hk:k<=k'):Below Δ k':=λy m q=>let ⟨i,e,h1,h2⟩:=h y m q;⟨i,e,h1,cw h2 hk⟩
def fF(Δ:Dm):Kd->Bv->Prop
|.aA,b=>∃i,b=.num i/\dg i
|.aV,b=>∃p,b=.pc p/\PD Δ p/\p.size<=2000/\p.depth<=30/\∀φ,p.fr φ<=8*p.depth
theorem fF.up{Δ cI:Dm}{k:Kd}{b:Bv}(h:fF Δ k b)(q:Δ.le cI):fF cI k b:=by
 cases k with
|aA=>exact h
|aV=>obtain⟨p,h1,h2,h3⟩:=h;exact⟨p,h1,h2.mono _ q,h3⟩
structure Sg.le(w:Int)(s s':Sg):Prop where
 k:s.k<=s'.k
 w:s'.k<=s.k+w
 c:s.c<=s'.c
 fl:s.fl=true->s'.fl=true
theorem Sg.le.refl(s:Sg):s.le 0 s:=⟨a8 _,by exact lI 103283692104 [_] rfl,a8 _,id⟩
theorem Sg.le.trans{w w' w'':Int}{s s' s'':Sg}(h:s.le w s')(h':s'.le w' s'')(hw:w+w'<=w''):s.le w'' s'':=⟨cw h.k h'.k,by have y1:=h.w;have y2:=h'.w;exact lI 0x4e34c04904904904920538140f1413cd44505044c [_,_,_,_,_,_] rfl hw y1 y2,cw h.c h'.c,λq=>h'.fl (h.fl q)⟩
theorem Sg.le.up{w w':Int}{s s':Sg}(h:s.le w s')(hw:w<=w'):s.le w' s':=⟨h.k,by have:=h.w;exact lI 0x138d30124124124814e3c504f34c [_,_,_,_] rfl hw this,h.c,h.fl⟩
theorem Sg.le.new(s:Sg):s.le 1 s.new:=⟨by show s.k<=s.k+1;exact lI 104357433928 [_] rfl,a8 _,a8 _,id⟩
def OU(V:Int)(Δ:Dm)(ka k:Kd)(F:Bv->Sg->Bv×Sg):Prop:=∀cI:Dm,Δ.le cI->∀u s,fF cI ka u->0<=s.k->Below cI s.k->fF cI k (F u s).1/\s.le V (F u s).2
def rP(V:Int)(Δ:Dm)(v:Sv):Lv->Mn->Prop
|.z,.val k=>∃b,v=.val b/\fF Δ k b
|.z,.fn ka k=>∃F,v=.fn F/\OU V Δ ka k F
|.o,.val _=>∃y,v=.nm y/\Δ y=some .v
|.o,.fn _ _=>∃y,v=.nm y/\Δ y=some .f
theorem rP.up{V V':Int}{Δ cI:Dm}{v:Sv}{l:Lv}{m:Mn}(h:rP V Δ v l m)(q:Δ.le cI)(hV:V<=V'):rP V' cI v l m:=by
 cases l<;>cases m
 ·obtain⟨b,h1,h2⟩:=h;exact⟨b,h1,h2.up q⟩
 ·obtain⟨F,h1,h2⟩:=h;exact⟨F,h1,λm6 q' u s g1 g2 g3=>let ⟨x,y⟩:=h2 m6 (q.trans q') u s g1 g2 g3;⟨x,y.up hV⟩⟩
 ·obtain⟨y,h1,h2⟩:=h;exact⟨y,h1,q _ _ h2⟩
 ·obtain⟨y,h1,h2⟩:=h;exact⟨y,h1,q _ _ h2⟩
def Se(V:Int)(Γ:Sc)(η:Str->Sv)(Δ:Dm):Prop:=∀x e,look Γ x=some e->rP V Δ (η x) e.l e.m
theorem Se.up{V V':Int}{Γ:Sc}{η:Str->Sv}{Δ cI:Dm}(h:Se V Γ η Δ)(q:Δ.le cI)(hV:V<=V'):Se V' Γ η cI:=λx e he=>(h x e he).up q hV
theorem Se.put{V:Int}{Γ:Sc}{η:Str->Sv}{Δ:Dm}(h:Se V Γ η Δ){x:Str}{l:Lv}{m:Mn}{v:Sv}(hv:rP V Δ v l m):Se V (Γ++[⟨x,l,m⟩]) (bQ η x v) Δ:=λy e he=>by
 rw[fS] at he;unfold bQ;cases hx:(x==y) with
|true=>rw[hx,if_pos rfl] at he;(apply eJ he);rw[if_pos rfl];exact hv
|false=>rw[hx] at he;rw[if_neg (by simp)];exact h y e he
def hG(Γ:Sc)(η:Str->Sv)(φ:Str->Nat)(Φ:Nat):Prop:=∀g ka k,look Γ g=some ⟨g,.o,.fn ka k⟩->φ (η g).y<=Φ
def gI(Γ:Sc):Prop:=∀g ka k,look Γ g≠some ⟨g,.o,.fn ka k⟩
def hH(Γ:Sc)(η:Str->Sv)(Δ:Dm)(u D:Nat):Lv->Kd->Bv->Prop
|.z,.aA,b=>∃i,b=.num i/\dg i
|.z,.aV,b=>∃p,b=.pc p/\PD Δ p/\p.size<=2000/\p.depth<=30/\∀φ Φ,hG Γ η φ Φ->p.fr φ<=max (8*p.depth) (dep u Φ)
|.o,_,b=>∃p,b=.pc p/\PD Δ p/\p.depth<=D/\∀φ Φ,hG Γ η φ Φ->p.fr φ<=max (8*p.depth) (dep u Φ)
def bF(V w:Int)(Γ:Sc)(u D:Nat)(l:Lv)(t:Tm)(k:Kd):Prop:=∀η Δ s,Se V Γ η Δ->0<=s.k->Below Δ s.k->hH Γ η Δ u D l k (sd t η l s).1/\s.le w (sd t η l s).2
end Qh
set_option tactic.hygienic false
namespace Qh
open PySem
theorem G6{i j:Int}(hi:0<=i)(hj:0<=j)(h:gh i=gh j):i=j:=by
 refine bZ (Int.eq_ofNat_of_zero_le hi) λn bg=>?_;clear hi;subst bg;refine bZ (Int.eq_ofNat_of_zero_le hj) λm bg=>?_;clear hj;subst bg;have h:Str.ofString n.repr=Str.ofString m.repr:=h;rw[Str.ofString_eq_toList,Str.ofString_eq_toList] at h;have h1:n.repr.toList.map Char.toNat=m.repr.toList.map Char.toNat:=by
  have:=congrArg (λs:Str=>s.cps.toList) h
  simpa using this
 have h2:n.repr.toList=m.repr.toList:=by
  have:=congrArg (List.map Char.ofNat) h1
  simpa[List.map_map,Function.comp_def] using this
 rw[Nat.toList_repr,Nat.toList_repr] at h2;have:=congrArg (λl=>Nat.ofDigitChars 10 l 0) h2;simp only[Nat.ofDigitChars_toDigits (b:=10) (by decide) (by decide)] at this;rw[this]
theorem Nf{i j:Int}(hi:0<=i)(hj:0<=j)(h:vn i=vn j):i=j:=by
 refine G6 hi hj ?_;have h1:(Str.ofString "v").cps.toList++(gh i).cps.toList=(Str.ofString "v").cps.toList++(gh j).cps.toList:=by
  have:=congrArg (λs:Str=>s.cps.toList) h;rw[←Array.toList_append,←Array.toList_append];exact this
 have h2:=List.append_cancel_left h1;cases hx:gh i with|mk a=>cases hy:gh j with|mk b=>
 rw[hx,hy] at h2;have:a=b:=Array.toList_inj.mp h2;rw[this]
end Qh
set_option tactic.hygienic true
namespace Qh
open PySem
theorem tQ(u Φ:Nat):dep u Φ<=u+Φ:=match u with
|0=>eI _
|_+1=>aQ _
theorem tr(h:0<u):dep u Φ=u+Φ:=if_neg (Nat.ne_of_gt h)
theorem Bl(h:u<=u'):dep u Φ<=dep u' Φ:=match u with
|0=>eI _
|u+1=>tr (Nat.lt_of_lt_of_le (Nat.succ_pos u) h)▸Nat.add_le_add_right h Φ
theorem FD{a b c:Nat}(h:b<=c):max a b<=max a c:=Nat.max_le.mpr ⟨eG a c,bP h (eN a c)⟩
theorem uG:1<=max (8*1) x:=bP (by decide) (eG _ _)
theorem qL(h:u=0∨u+1<=u'):1+dep u Φ<=max 8 (dep u' Φ):=by
 rcases h with h|h
 ·subst h;exact bP (nb rfl:1<=8) (eG _ _)
 ·rw[tr (Nat.lt_of_lt_of_le (Nat.succ_pos u) h)];exact bP (bP (Nat.add_le_add_left (tQ u Φ) 1) (Nat.add_assoc 1 u Φ▸Nat.add_comm u 1▸Nat.add_le_add_right h Φ)) (eN _ _)
theorem Below.none(h:Below Δ k)(hk:0<=k)(hj:k<j):Δ (vn j)=none:=by
 cases q:Δ (vn j) with
|none=>rfl
|some m=>
  refine b8 (h _ _ q) λi e h1 h2=>?_;have:=Nf (i:=j) (lI 0x32004904904904920530184d14e84534e [_,_,_] rfl hj h1 h2) (Int.le_of_lt ‹_›) e;exact absurd (this▸h2:j<=k) (Int.not_le.mpr hj)
theorem Below.put(h:Below Δ k)(hj:1<=j/\j<=k)(m:Pm):Below (dj Δ (vn j) m) k:=λy m' q=>by
 unfold dj at q
 split at q
 ·rename_i e;exact⟨j,(beq_iff_eq.mp e).symm,hj⟩
 ·exact h y m' q
theorem jY:dj Δ x m x=some m:=by unfold dj;(refine(if_pos (beq_self_eq_true x))▸?_;with_reducible rfl)
theorem IB:bQ η x v x=v:=by unfold bQ;(refine(if_pos (beq_self_eq_true x))▸?_;with_reducible rfl)
theorem Ng(h:look Γ x=some e):e∈Γ/\e.x=x:=by unfold look at h;exact⟨List.mem_reverse.mp (List.mem_of_find?_eq_some h),beq_iff_eq.mp (List.find?_some (p:=λe:Ent=>e.x==x) h)⟩
section
variable{Γ:Sc}{η:Str->Sv}{Δ:Dm}{φ:Str->Nat}{Φ u u' D D':Nat}{k:Kd}{b:Bv}
theorem Nh(Γ:Sc)(η:Str->Sv)(φ:Str->Nat):∃Φ,hG Γ η φ Φ:=by
 have h:∀l:List Ent,∃Φ,∀e∈l,φ (η e.x).y<=Φ:=by
  intro l
  induction l with
  |nil=>exact⟨0,λ_ h=>nomatch h⟩
  |cons e l ih=>
   obtain⟨Φ,h⟩:=ih;refine⟨max Φ (φ (η e.x).y),λe' he=>?_⟩;rcases List.mem_cons.mp he with rfl|q
   ·exact lN 0x330d308049049201248 [_,_] rfl
   ·have:=h e' q;(exact bP ‹_› (eG _ _))
 obtain⟨Φ,h⟩:=h Γ;exact⟨Φ,λg ka k hg=>h _ (Ng hg).1⟩
theorem hG.val(h:hG Γ η φ Φ)(x:Str)(l:Lv)(k:Kd)(v:Sv):hG (Γ++[⟨x,l,.val k⟩]) (bQ η x v) φ Φ:=λg ka k' hg=>by
 rw[fS] at hg;unfold bQ;cases hx:(x==g) with
|true=>(replace hg:=(if_pos rfl)▸(hx▸hg));cases hg
|false=>(replace hg:=hx▸hg);rw[if_neg (by simp)];exact h g ka k' hg
theorem hG.fz(h:hG Γ η φ Φ)(x:Str)(a r:Kd)(v:Sv):hG (Γ++[⟨x,.z,.fn a r⟩]) (bQ η x v) φ Φ:=λg ka k' hg=>by
 rw[fS] at hg;unfold bQ;cases hx:(x==g) with
|true=>(replace hg:=(if_pos rfl)▸(hx▸hg));cases hg
|false=>(replace hg:=hx▸hg);rw[if_neg (by simp)];exact h g ka k' hg
theorem hH.up{l:Lv}(h:hH Γ η Δ u D l k b)(hu:u<=u')(hD:D<=D'):hH Γ η Δ u' D' l k b:=by
 cases l with
|z=>cases k with
  |aA=>exact h
  |aV=>
   refine n4 (h) λp h1 h2 h3 h4 h5=>?_;exact⟨p,h1,h2,h3,h4,λφ Φ q=>bP (h5 φ Φ q) (FD (Bl hu))⟩
|o=>
  refine n3 (h) λp h1 h2 h3 h5=>?_;exact⟨p,h1,h2,by(exact bP ‹_› ‹_›),λφ Φ q=>bP (h5 φ Φ q) (FD (Bl hu))⟩
theorem hH.ok(h:hH Γ η Δ 0 D .z k b):fF Δ k b:=by
 cases k with
|aA=>exact h
|aV=>
  refine n4 (h) λp h1 h2 h3 h4 h5=>?_;refine⟨p,h1,h2,h3,h4,λφ=>?_⟩;refine bZ (Nh Γ η φ) λΦ q=>?_;have:=h5 φ Φ q;have e:dep 0 Φ=0:=rfl;exact lN 0x436830804900900904920124024124124814338436830680e [_,_,_] rfl this e
theorem fF.gd(h:fF Δ k b):hH Γ η Δ u D .z k b:=by
 cases k with
|aA=>exact h
|aV=>
  refine n4 (h) λp h1 h2 h3 h4 h5=>?_;exact⟨p,h1,h2,h3,h4,λφ Φ q=>by have:=h5 φ;(exact bP ‹_› (eG _ _))⟩
theorem hH.back(h:hH (Γ++[⟨x,l',m⟩]) (bQ η x v) Δ u D l k b)(hf:∀φ Φ,hG Γ η φ Φ->hG (Γ++[⟨x,l',m⟩]) (bQ η x v) φ Φ):hH Γ η Δ u D l k b:=by
 cases l with
|z=>cases k with
  |aA=>exact h
  |aV=>
   refine n4 (h) λp h1 h2 h3 h4 h5=>?_;exact⟨p,h1,h2,h3,h4,λφ Φ q=>h5 φ Φ (hf φ Φ q)⟩
|o=>
  refine n3 (h) λp h1 h2 h3 h5=>?_;exact⟨p,h1,h2,h3,λφ Φ q=>h5 φ Φ (hf φ Φ q)⟩
theorem bF.up{V w w':Int}{l:Lv}(h:bF V w Γ u D l t k)(hu:u<=u')(hD:D<=D')(hw:w<=w'):bF V w' Γ u' D' l t k:=λη Δ s h1 h2 h3=>⟨(h η Δ s h1 h2 h3).1.up hu hD,(h η Δ s h1 h2 h3).2.up hw⟩
end
def lK:Dv->Prop
|.no=>True
|.num i=>dg i
|.fn F=>∀i,dg i->dg (F i)
theorem rQ:dg 0:=⟨by decide,by decide⟩
theorem lK.upd(h:∀x,lK (ρ x))(hv:lK v):∀y,lK (upd ρ x v y):=λy=>by
 unfold Qh.upd;split
 ·exact hv
 ·exact h y
theorem iV:∀(t:Tm)(ρ:Str->Dv),(∀x,lK (ρ x))->dg (t.den ρ)
|.num i=>λ_ _=>⟨Int.fmod_nonneg_of_pos _ (by decide),Int.fmod_lt_of_pos _ (by decide)⟩
|.name x=>λρ h=>by
  have:=h x;show dg (match ρ x with|.num i=>i|_=>0)
  revert this;generalize ρ x=v;intro this
  cases v with
  |num i=>exact this
  |no=>exact rQ
  |fn F=>exact rQ
|.un _ a=>λρ h=>iV a ρ h
|.use g a=>λρ h=>by
  have:=h g;have hr:=iV a ρ h;show dg (match ρ g with|.fn F=>F (a.den ρ)|_=>0)
  revert this;generalize ρ g=v;intro this
  cases v with
  |num i=>exact rQ
  |no=>exact rQ
  |fn F=>exact this _ hr
|.aj w a b=>λρ h=>wb _ _ _
|.aX x a b=>λρ h=>iV b _ (lK.upd h (iV a ρ h))
|.bb k x a b=>λρ h=>o9 (λi hi=>iV b _ (lK.upd h (v:=.num i) hi)) _ _ (iV a ρ h)
|.def_ g x _ a b=>λρ h=>iV b _ (lK.upd h λi hi=>iV a _ (lK.upd h hi))
|.when a b c=>λρ h=>by
  show dg (if _ then _ else _)
  split
  ·exact iV c ρ h
  ·exact iV b ρ h
theorem sZ(h:dF q Δ p):∀φ:Str->Int,(∀x,0<=φ x)->1<=p.cost φ:=by
 induction h with
|num=>exact λφ h=>a8 _
|name _=>exact λφ h=>a8 _
|@un Δ w a _ _ ih=>intro φ h;have y1:=ih φ h;show 1<=1+(a.cost φ+0);lia
|@use Δ g a _ _ ih=>intro φ h;have y1:=ih φ h;have y2:=h g;show 1<=1+φ g+a.cost φ;exact lI 0x134132184124124124814d845320 [_,_] rfl y1 y2
|@aj Δ w a b _ _ h1 h2=>intro φ h;have y1:=h1 φ h;have y2:=h2 φ h;show 1<=1+(a.cost φ+(b.cost φ+0));exact lI 0x104180d32184124124124814c845361 [_,_] rfl y1 y2
|@when Δ a b c _ _ _ h1 h2 h3=>intro φ h;have y1:=h1 φ h;have y2:=h2 φ h;have y3:=h3 φ h;show 1<=1+(a.cost φ+(b.cost φ+(c.cost φ+0)));exact lI 0x4104180e34c86104904904904920532114d8453a1 [_,_,_] rfl y1 y2 y3
|@aX Δ x a b _ _ h1 h2=>intro φ h;have y1:=h1 φ h;have y2:=h2 φ h;show 1<=1+(a.cost φ+(b.cost φ+0));exact lI 0x104180d32184124124124814c845361 [_,_] rfl y1 y2
|@bb Δ n x a b hn _ _ h1 h2=>intro φ h;have y1:=h1 φ h;have y2:=h2 φ h;have y3:=Int.mul_nonneg hn.1 (cw (by decide) y2);show 1<=1+a.cost φ+n*b.cost φ;exact lI 0x134132184124124124814c845360 [_,_] rfl y1 y3
|@def_ Δ g x kd a b _ _ h1 h2=>
  intro φ h;have h1:=h1 φ h;have h2:=h2 (λy=>if g==y then a.cost φ else φ y) (λy=>by show 0<=if(g==y)=true then a.cost φ else φ y;split;(exact Int.le_of_lt ‹_›);exact h y);show 1<=1+b.cost _;exact lI 0x4c861049049205321 [_] rfl h2
section
variable{V w w' bj bq jL:Int}{Γ:Sc}{u u' iK ew D D' gC p0:Nat}{k k' ka:Kd}{l:Lv}{t a b c:Tm}{x g:Str}
theorem Cz:bF V 0 Γ u D .z (.num i) .aA:=λη Δ s h1 h2 h3=>⟨⟨_,rfl,Int.fmod_nonneg_of_pos _ (by decide),Int.fmod_lt_of_pos _ (by decide)⟩,.refl _⟩
theorem w6(hD:1<=D):bF V 0 Γ u D .o (.num i) k:=λη Δ s h1 h2 h3=>⟨⟨_,rfl,.num,hD,λφ Φ q=>uG⟩,.refl _⟩
theorem Ls(h:look Γ x=some ⟨x,.z,.val k⟩):bF V 0 Γ u D .z (.name x) k:=λη Δ s h1 h2 h3=>by
 refine aO (h1 x _ h) λb e hb=>?_;refine⟨?_,.refl _⟩;show hH Γ η Δ u D .z k (η x).b
 (refine e▸?_);exact hb.gd
theorem tv(h:look Γ x=some ⟨x,.o,.val k'⟩)(hD:1<=D):bF V 0 Γ u D .o (.name x) k:=λη Δ s h1 h2 h3=>by
 refine aO (h1 x _ h) λy e hb=>?_;refine⟨⟨_,rfl,.name (by(refine e▸?_);exact hb),hD,λφ Φ q=>uG⟩,.refl _⟩
theorem BN:hH Γ η Δ u D .z .aV (.pc (.num 0)):=⟨_,rfl,.num,by decide,by decide,λφ Φ q=>uG⟩
theorem qS(hw:0<=w)(h:bF V w Γ u D .o a k):bF V w Γ u D' .z (.un .bE a) .aV:=λη Δ s h1 h2 h3=>by
 have e:sd (.un .bE a) η .z s=if 5000<s.c then(.pc (.num 0),s) else il (sd a η .o s).1.p (sd a η .o s).2:=rfl
 refine e▸?_
 split
 ·exact⟨BN,(Sg.le.refl _).up hw⟩
 ·obtain⟨⟨p,e1,g1,g2,g3⟩,hk⟩:=h η Δ s h1 h2 h3;refine e1▸?_;have hc:s.c<=(sd a η .o s).2.c+p.size:=by have:=hk.c;exact lI 0x138d30124124124814d3053a0 [_,_,_] rfl this (iM _)
  unfold il
  split
  ·exact⟨BN,⟨hk.k,hk.w,hc,λ_=>rfl⟩⟩
  ·rename_i hn
   have hn:¬ (2000<p.size∨30<p.depth):=hn;exact⟨⟨p,rfl,g1,Nat.not_lt.mp λq=>hn (.inl q),Nat.not_lt.mp λq=>hn (.inr q),g3⟩,⟨hk.k,hk.w,hc,hk.fl⟩⟩
theorem w7(h:bF V w Γ u D' .z a .aV)(hD:30<=D):bF V w Γ u D .o (.un .hole a) k:=λη Δ s h1 h2 h3=>by
 obtain⟨⟨p,e1,g1,g2,g3,g4⟩,hk⟩:=h η Δ s h1 h2 h3;exact⟨⟨p,e1,g1,by(exact bP ‹_› ‹_›),g4⟩,hk⟩
theorem Ni(h:bF V w Γ u' D' .z a .aA):bF V w Γ u D .z (.un .lift a) .aV:=λη Δ s h1 h2 h3=>
 ⟨⟨_,rfl,.num,nb rfl,nb rfl,λφ Φ q=>uG⟩,(h η Δ s h1 h2 h3).2⟩
theorem OV(h:bF V w Γ u' D' .z a .aV):bF V w Γ u D .z (.un .run a) .aA:=λη Δ s h1 h2 h3=>by
 obtain⟨⟨p,e1,g1,_⟩,hk⟩:=h η Δ s h1 h2 h3;have e:sd (.un .run a) η .z s=gW (sd a η .z s).1.p (sd a η .z s).2:=rfl;refine e▸?_;refine e1▸?_;have hc:s.c<=(sd a η .z s).2.c+p.d5:=by have y1:=hk.c;have y2:=sZ g1 (λ_=>0) λ_=>a8 _;unfold Tm.d5;exact lI 0x138d30124124124814d3053a1 [_,_,_] rfl y1 y2
 unfold gW
 split
 ·exact⟨⟨0,rfl,rQ⟩,⟨hk.k,hk.w,hc,hk.fl⟩⟩
 ·exact⟨⟨_,rfl,iV _ _ λ_=>trivial⟩,⟨hk.k,hk.w,hc,hk.fl⟩⟩
end
end Qh
set_option tactic.hygienic false
namespace Qh
open PySem
section
variable{V w w' bj bq jL:Int}{Γ:Sc}{u u' iK ew D D' gC p0:Nat}{k k' ka:Kd}{l:Lv}{t a b c:Tm}{x g kd:Str}
theorem nU{a b c:Nat}(h1:1+a<=c)(h2:1+b<=c):1+max a b<=c:=by
 rcases Nat.le_total a b with h|h
 ·(refine(Nat.max_eq_right h).symm▸?_);exact h2
 ·(refine(Nat.max_eq_left h).symm▸?_);exact h1
theorem j7{a A M e e':Nat}(h:a<=max (8*A) e)(he:1+e<=max 8 e')(hM:A<=M):1+a<=max (8*(1+M)) e':=by refine bP (Nat.add_le_add_left h 1) (nU (bP ?_ (eG _ _)) (bP he (Nat.max_le.mpr ⟨bP (Nat.mul_le_mul_left 8 (d7 1 M)) (eG _ _),eN _ _⟩)));exact lN 0x101361a0110ca2104920920534c [_,_] rfl hM
theorem Lu(h:(x==y)=false):bQ η x v y=η y:=by unfold bQ;(refine h▸?_);rfl
theorem Nj(ha:bF V bj Γ iK gC .z a .aA)(hb:bF V bq Γ ew p0 .z b .aA)(hw:bj+bq<=w):bF V w Γ u D .z (.aj o a b) .aA:=λη Δ s h1 h2 h3=>by
 have ka:=(ha η Δ s h1 h2 h3).2;have kb:=(hb η Δ (sd a η .z s).2 h1 (cw h2 ka.k) (h3.up ka.k)).2;exact⟨⟨_,rfl,wb _ _ _⟩,ka.trans kb hw⟩
theorem CA(ha:bF V bj Γ u D .o a k)(hb:bF V bq Γ u D .o b k)(hu:u=0∨u+1<=u')(hD:D+1<=D')(hw:bj+bq<=w):bF V w Γ u' D' .o (.aj o a b) k':=λη Δ s h1 h2 h3=>by
 refine bB λXx aI=>?_;obtain⟨⟨p,ep,p1,p2,p3⟩,ka⟩:=ha η Δ s h1 h2 h3;obtain⟨⟨q,eq,q1,q2,q3⟩,kb⟩:=hb η Δ (sd a η .o s).2 h1 (cw h2 ka.k) (h3.up ka.k);refine aI ?_;refine⟨⟨.aj o p q,by show Bv.pc (.aj o (sd a η .o s).1.p (sd b η .o (sd a η .o s).2).1.p)=_;(refine ep▸?_;refine eq▸?_);rfl,.aj p1 q1,g9 p2 q2 hD,λφ Φ f=>?_⟩,ka.trans kb hw⟩;have he:=qL (Φ:=Φ) hu;exact nU (j7 (p3 φ Φ f) he (eG _ _)) (j7 (q3 φ Φ f) he (eN _ _))
theorem Lw(ha:bF V bj Γ iK gC .z a .aA)(hb:bF V bq Γ u D .z b k)(hc:bF V bq Γ u D .z c k)(hw:bj+bq<=w):bF V w Γ u D .z (.when a b c) k:=λη Δ s h1 h2 h3=>by
 have ka:=(ha η Δ s h1 h2 h3).2;have e:sd (.when a b c) η .z s=(if(sd a η .z s).1.n=0 then sd c η .z else sd b η .z) (sd a η .z s).2:=rfl;refine e▸?_
 split
 ·have:=hc η Δ (sd a η .z s).2 h1 (cw h2 ka.k) (h3.up ka.k);exact⟨this.1,ka.trans this.2 hw⟩
 ·have:=hb η Δ (sd a η .z s).2 h1 (cw h2 ka.k) (h3.up ka.k);exact⟨this.1,ka.trans this.2 hw⟩
theorem Ly(ha:bF V bj Γ u D .o a ka)(hb:bF V bq Γ u D .o b k)(hc:bF V jL Γ u D .o c k)(hu:u=0∨u+1<=u')(hD:D+1<=D')(hw:bj+bq+jL<=w):bF V w Γ u' D' .o (.when a b c) k':=λη Δ s h1 h2 h3=>by
 refine bB λXx aI=>?_;obtain⟨⟨p,ep,p1,p2,p3⟩,ka⟩:=ha η Δ s h1 h2 h3;obtain⟨⟨q,eq,q1,q2,q3⟩,kb⟩:=hb η Δ (sd a η .o s).2 h1 (cw h2 ka.k) (h3.up ka.k);have yX:=ka.trans kb (a8 _);obtain⟨⟨r,er,r1,r2,r3⟩,kc⟩:=hc η Δ (sd b η .o (sd a η .o s).2).2 h1 (cw h2 yX.k) (h3.up yX.k);refine aI ?_;refine⟨⟨.when p q r,by show Bv.pc (.when (sd a η .o s).1.p (sd b η .o (sd a η .o s).2).1.p (sd c η .o (sd b η .o (sd a η .o s).2).2).1.p)=_;(refine ep▸?_;refine eq▸?_;refine er▸?_);rfl,.when p1 q1 r1,Fw p2 q2 r2 hD,λφ Φ f=>?_⟩,yX.trans kc hw⟩;have he:=qL (Φ:=Φ) hu;exact nU (j7 (p3 φ Φ f) he (eG _ _)) (nU (j7 (q3 φ Φ f) he (bP (eG _ _) (eN _ _))) (j7 (r3 φ Φ f) he (bP (eN _ _) (eN _ _))))
theorem w8(ha:bF V bj Γ 0 gC .z a ka)(hb:bF V bq (Γ++[⟨x,.z,.val ka⟩]) u D .z b k)(hw:bj+bq<=w):bF V w Γ u D .z (.aX x a b) k:=λη Δ s h1 h2 h3=>by
 refine a5 (ha η Δ s h1 h2 h3) λga ka=>?_;refine a5 (hb (bQ η x (.val (sd a η .z s).1)) Δ (sd a η .z s).2 (h1.put ⟨_,rfl,ga.ok⟩) (cw h2 ka.k) (h3.up ka.k)) λgb kb=>?_;exact⟨gb.back λφ Φ f=>f.val _ _ _ _,ka.trans kb hw⟩
theorem DD{η:Str->Sv}{Δ:Dm}{s:Sg}(h1:Se V Γ η Δ)(h2:0<=s.k)(h3:Below Δ s.k)(ha:bF V bj Γ u D .o a ka)(hb:bF V bq (Γ++[⟨x,.o,.val k⟩]) u D .o b k')(hw:1+bj+bq<=w):
  ∃p q,(sd a η .o s.new).1=.pc p/\(sd b (bQ η x (.nm (vn (s.k+1)))) .o (sd a η .o s.new).2).1=.pc q/\PD Δ p/\PD (dj Δ (vn (s.k+1)) .v) q/\p.depth<=D/\q.depth<=D/\(∀φ Φ,hG Γ η φ Φ->p.fr φ<=max (8*p.depth) (dep u Φ)/\q.fr φ<=max (8*q.depth) (dep u Φ))/\
   s.le w (sd b (bQ η x (.nm (vn (s.k+1)))) .o (sd a η .o s.new).2).2:=by have hn:s.new.k=s.k+1:=rfl;refine bB λXx aI=>?_;obtain⟨⟨p,ep,p1,p2,p3⟩,ka⟩:=ha η Δ s.new h1 (lI 0xc80124124024124814d80606134c [_,_] rfl h2 hn) (h3.up (lI 0x34c04904920606130d [_,_] rfl hn));have kk:=ka.k;obtain⟨⟨q,eq,q1,q2,q3⟩,kb⟩:=hb (bQ η x (.nm (vn (s.k+1)))) (dj Δ (vn (s.k+1)) .v) (sd a η .o s.new).2 ((h1.up (Dm.le.new .v (h3.none h2 (a8 _))) (a8 _)).put ⟨_,rfl,jY⟩) (lI 0x32004904904900904920536018184d38530e [_,_,_] rfl h2 hn kk) ((h3.up (Int.le_of_lt ‹_›)).put ⟨by exact lI 0x61321049049205320 [_] rfl h2,by assumption⟩ _);refine aI ?_;exact⟨p,q,ep,eq,p1,q1,p2,q2,λφ Φ f=>⟨p3 φ Φ f,q3 φ Φ (f.val _ _ _ _)⟩,((Sg.le.new s).trans ka (a8 _)).trans kb hw⟩
theorem CB(ha:bF V bj Γ u D .o a ka)(hb:bF V bq (Γ++[⟨x,.o,.val k⟩]) u D .o b k')(hu:u=0∨u+1<=u')(hD:D+1<=D')(hw:1+bj+bq<=w){iL:Kd}:bF V w Γ u' D' .o (.aX x a b) iL:=λη Δ s h1 h2 h3=>by
 refine CM (DD h1 h2 h3 ha hb hw) λp q ep eq p1 q1 p2 q2 hf hk=>?_;refine⟨⟨.aX (vn (s.k+1)) p q,by show Bv.pc (.aX _ (sd a η .o s.new).1.p (sd b _ .o (sd a η .o s.new).2).1.p)=_;(refine ep▸?_;refine eq▸?_);rfl,.aX p1 q1,g9 p2 q2 hD,λφ Φ f=>?_⟩,hk⟩;have he:=qL (Φ:=Φ) hu;exact nU (j7 (hf φ Φ f).1 he (eG _ _)) (j7 (hf φ Φ f).2 he (eN _ _))
theorem JO{n:Int}(hn:0<=n/\n<=9)(ha:bF V bj Γ u D .o a ka)(hb:bF V bq (Γ++[⟨x,.o,.val k⟩]) u D .o b k')(hu:u=0∨u+1<=u')(hD:D+1<=D')(hw:1+bj+bq<=w){iL:Kd}:bF V w Γ u' D' .o (.bb n x a b) iL:=λη Δ s h1 h2 h3=>by
 refine CM (DD h1 h2 h3 ha hb hw) λp q ep eq p1 q1 p2 q2 hf hk=>?_;refine⟨⟨.bb n (vn (s.k+1)) p q,by show Bv.pc (.bb n _ (sd a η .o s.new).1.p (sd b _ .o (sd a η .o s.new).2).1.p)=_;(refine ep▸?_;refine eq▸?_);rfl,.bb hn p1 q1,g9 p2 q2 hD,λφ Φ f=>?_⟩,hk⟩;have he:=qL (Φ:=Φ) hu;exact nU (j7 (hf φ Φ f).1 he (eG _ _)) (j7 (hf φ Φ f).2 he (eN _ _))
theorem JP(hn:0<=n/\n<=9)(h0:0<=bq)(ha:bF V bj Γ 0 gC .z a k)(hb:bF V bq (Γ++[⟨x,.z,.val k⟩]) 0 p0 .z b k)(hw:bj+9*bq<=w):bF V w Γ u D .z (.bb n x a b) k:=λη Δ s h1 h2 h3=>by
 refine a5 (ha η Δ s h1 h2 h3) λga ka=>?_;have go:∀(m:Nat)(r:Bv×Sg),m<=9->fF Δ k r.1->s.le (bj+(9-m)*bq) r.2->fF Δ k (cM (λv=>sd b (bQ η x (.val v)) .z) m r).1/\s.le (bj+9*bq) (cM (λv=>sd b (bQ η x (.val v)) .z) m r).2:=by
  intro m
  induction m with
  |zero=>exact λr _ g1 g2=>⟨g1,g2.up (by simp)⟩
  |succ m ih=>
   intro r hm g1 g2;refine a5 (hb (bQ η x (.val r.1)) Δ r.2 (h1.put ⟨_,rfl,g1⟩) (cw h2 g2.k) (h3.up g2.k)) λgb kb=>?_;refine ih _ (bz ‹_›) gb.ok (g2.trans kb ?_);have e:(9-(m:Int))*bq=(9-((m+1:Nat):Int))*bq+bq:=by rw[show(9-(m:Int))=(9-((m+1:Nat):Int))+1 by show(9-(m:Int))=(9-((m:Int)+1))+1;exact Int.le_antisymm (lI 0x184206132908ca41248 [_] rfl) (lI 0x232906108184ca41248 [_] rfl),Int.add_mul,Int.one_mul]
   exact lI 0x4f30138134c04904920604e34f [_,_,_,_] rfl e
 have:=go n.toNat (sd a η .z s) (Int.toNat_le.mpr hn.2) ga.ok (ka.up (by have:=Int.mul_nonneg (show 0<=9-(n.toNat:Int) by rw[Int.toNat_of_nonneg hn.1];exact Int.sub_nonneg_of_le hn.2) h0;exact lI 0x4d30c049049205360 [_,_] rfl this));exact⟨this.1.gd,this.2.up hw⟩
theorem Nk(hg:look Γ g=some ⟨g,.z,.fn ka k⟩)(ha:bF V bj Γ 0 gC .z a ka)(hw:bj+V<=w):bF V w Γ u D .z (.use g a) k:=λη Δ s h1 h2 h3=>by
 refine aO (h1 g _ hg) λF e hF=>?_;refine a5 (ha η Δ s h1 h2 h3) λga ka=>?_;have h:=hF Δ (Dm.le.refl Δ) _ (sd a η .z s).2 ga.ok (cw h2 ka.k) (h3.up ka.k);have e':sd (.use g a) η .z s=F (sd a η .z s).1 (sd a η .z s).2:=by show(η g).f _ _=_;(refine e▸?_);rfl
 refine e'▸?_;exact⟨h.1.gd,ka.trans h.2 hw⟩
theorem Nl(hg:look Γ g=some ⟨g,.o,.fn ka k⟩)(ha:bF V w Γ u D .o a k')(hu:u+1<=u')(hD:D+1<=D'):bF V w Γ u' D' .o (.use g a) iL:=λη Δ s h1 h2 h3=>by
 refine bB λXx aI=>?_;refine aO (h1 g _ hg) λy e hy=>?_;obtain⟨⟨p,ep,p1,p2,p3⟩,kk⟩:=ha η Δ s h1 h2 h3;refine aI ?_;refine⟨⟨.use y p,by show Bv.pc (.use (η g).y (sd a η .o s).1.p)=_;(refine ep▸?_;refine e▸?_);rfl,.use hy p1,lT p2 hD,λφ Φ f=>?_⟩,kk⟩;have hf:=f g _ _ hg;replace hf:=e▸hf;have hd:dep u' Φ=u'+Φ:=tr (Nat.lt_of_lt_of_le (Nat.succ_pos u) hu);refine nU (j7 (p3 φ Φ f) (qL (.inr hu)) (aQ _)) (bP ?_ (eN _ _))
 (refine hd▸?_);exact Nat.add_le_add (bP (dD 1 u) hu) (hf)
theorem Nm(ha:bF V bj (Γ++[⟨x,.z,.val ka⟩]) 0 gC .z a k)(hb:bF V' w (Γ++[⟨g,.z,.fn ka k⟩]) u D .z b k')(hV:V<=V')(hw:bj<=V'):bF V w Γ u D .z (.def_ g x kd a b) k':=λη Δ s h1 h2 h3=>by
 obtain⟨gb,kb⟩:=hb (bQ η g (.fn λv=>sd a (bQ η x (.val v)) .z)) Δ s ((h1.up (Dm.le.refl Δ) hV).put ⟨_,rfl,λcI q v s' hv hk hB=>by
  refine a5 (ha (bQ η x (.val v)) cI s' ((h1.up q (a8 _)).put ⟨_,rfl,hv⟩) hk hB) λga ka=>?_
  exact⟨ga.ok,ka.up hw⟩⟩) h2 h3
 exact⟨gb.back λφ Φ f=>f.fz _ _ _ _,kb⟩
theorem Np(ha:bF V bj (Γ++[⟨x,.o,.val ka⟩]) iK D .o a k₁)(hb:bF V bq (Γ++[⟨g,.o,.fn ka k⟩]) ew D .o b k')(hw:2+bj+bq<=w)(hD:D+1<=D')(hu:ew<=7)(h7:(gI Γ/\iK=0)∨(iK=ew/\(ew=0∨2*ew+1<=u'))):bF V w Γ u' D' .o (.def_ g x kd a b) iL:=λη Δ s h1 h2 h3=>by
 have f1:=h3.none h2 (a8 _);have hn:s.new.new.k=s.k+1+1:=rfl;refine bB λXx aI=>?_;obtain⟨⟨p,ep,p1,p2,p3⟩,kp⟩:=ha (bQ η x (.nm (vn (s.k+1+1)))) (dj Δ (vn (s.k+1+1)) .v) s.new.new ((h1.up (Dm.le.new .v (h3.none h2 (lI 0x184184c061301248 [_] rfl))) (a8 _)).put ⟨_,rfl,jY⟩) (lI 0xc80124124024124814d80606106134c [_,_] rfl h2 hn) ((h3.up (lI 0x34c04904920606106130d [_,_] rfl hn)).put ⟨by exact lI 0x61061321049049205320 [_] rfl h2,by(exact a8 _)⟩ _);have kk:=kp.k;obtain⟨⟨q,eq,q1,q2,q3⟩,kq⟩:=hb (bQ η g (.nm (vn (s.k+1)))) (dj Δ (vn (s.k+1)) .f) (sd a (bQ η x (.nm (vn (s.k+1+1)))) .o s.new.new).2 ((h1.up (Dm.le.new .f f1) (a8 _)).put ⟨_,rfl,jY⟩) (lI 0x32004904904900904920536018184184d38530e [_,_,_] rfl h2 hn kk) ((h3.up (lI 0xd30124124124818184184c38534e [_,_,_] rfl hn kk)).put ⟨by exact lI 0x61321049049205320 [_] rfl h2,by(exact Int.le_of_lt ‹_›)⟩ _);refine aI ?_;refine⟨⟨.def_ (vn (s.k+1)) (vn (s.k+1+1)) kd p q,by show Bv.pc (.def_ _ _ kd (sd a _ .o s.new.new).1.p (sd b _ .o (sd a _ .o s.new.new).2).1.p)=_;(refine ep▸?_;refine eq▸?_);rfl,.def_ p1 q1,g9 p2 q2 hD,λφ Φ f=>?_⟩,(((Sg.le.new s).trans (Sg.le.new s.new) (a8 _)).trans kp (a8 _)).trans kq ‹_›⟩;show 1+q.fr (iJ φ (vn (s.k+1)) (p.fr φ))<=max (8*(1+max p.depth q.depth)) _;have hF:∀Φ,hG Γ η φ Φ->hG (Γ++[⟨g,.o,.fn ka k⟩]) (bQ η g (.nm (vn (s.k+1)))) (iJ φ (vn (s.k+1)) (p.fr φ)) (max Φ (p.fr φ)):=λΦ f h ka' k' hh=>by
  rw[fS] at hh;cases hx:(g==h) with
  |true=>
   refine(beq_iff_eq.mp hx)▸?_;refine IB▸?_;show(if(vn (s.k+1)==vn (s.k+1))=true then p.fr φ else _)<=_;rw[if_pos (beq_self_eq_true _)];exact eN _ _
  |false=>
   replace hh:=hx▸hh;have hh:look Γ h=some _:=hh;refine aO (h1 h _ hh) λy e hy=>?_;have hl:=f h _ _ hh;refine(Lu hx)▸?_;refine e▸?_;replace hl:=e▸hl;show(if(vn (s.k+1)==y)=true then _ else φ y)<=_;rw[(beq_eq_false_iff_ne.mpr λz=>by(replace hy:=f1▸((Eq.symm (z))▸hy));exact bL hy)];show φ y<=_;exact bP (hl) (eG _ _)
 have mA:=eG p.depth q.depth;have mB:=eN p.depth q.depth;generalize max p.depth q.depth=M at mA mB;rcases h7 with ⟨hN,h0⟩|⟨h0,h7⟩
 ·have f0:hG Γ η φ 0:=λh ka k hh=>absurd hh (hN h ka k);have g1:=p3 φ 0 (f0.val _ _ _ _);have g2:=q3 _ _ (hF 0 f0);rw[show dep iK 0=0 by(refine h0.symm▸?_);rfl,Nat.max_zero] at g1;have e2:=bP (tQ ew (max 0 (p.fr φ))) (Nat.add_le_add_right hu _);rw[Nat.zero_max] at e2 g2;refine bP (Nat.add_le_add_left (bP g2 (Nat.max_le.mpr ⟨?_,?_⟩)) 1) (bP (?_:1+(8*M+7)<=_) (eG _ _))
  ·exact lN 0x6710da0432804920920534c [_,_] rfl mB
  ·exact lN 0x6710da0c04904904920920534e1443a83c504f9cc [_,_,_,_] rfl mA g1 e2
  ·exact lN 0x404c8680419c4328841248 [_] rfl
 ·have g1:=p3 φ Φ (f.val _ _ _ _);have g2:=q3 _ _ (hF Φ f);replace g1:=h0▸g1;rcases h7 with h7|h7
  ·rw[h7] at g1 g2;refine bP (Nat.add_le_add_left (bP g2 (Nat.max_le.mpr ⟨?_,?_⟩)) 1) (bP (?_:1+(8*M+7)<=_) (eG _ _))
   ·exact lN 0x6710da0432804920920534c [_,_] rfl mB
   ·exact eI _
   ·exact lN 0x404c8680419c4328841248 [_] rfl
  ·have hd':dep u' Φ=u'+Φ:=tr (lN 0x301860049049205301844362 [_,_] rfl h7);refine hd'▸?_;refine bP (Nat.add_le_add_left (bP g2 (Nat.max_le.mpr ⟨show 8*q.depth<=ew+max (8*M) (ew+Φ) from bP (Nat.mul_le_mul_left 8 mB) (bP (eG _ _) (dD _ _)),bP (tQ ew _) (Nat.add_le_add_left (Nat.max_le.mpr ⟨show Φ<=max (8*M) (ew+Φ) from bP (dD _ _) (eN _ _),(bP g1 (Nat.max_le.mpr ⟨show 8*p.depth<=max (8*M) (ew+Φ) from bP (Nat.mul_le_mul_left 8 mA) (eG _ _),bP (tQ ew Φ) (eN _ _)⟩))⟩) ew)⟩)) 1) ?_;rcases Nat.le_total (8*M) (ew+Φ) with hq|hq
   ·(refine(Nat.max_eq_right hq).symm▸?_);exact bP (lN 0x4d38104134c321049049205381844322 [_,_,_] rfl h7:_<=u'+Φ) (eN _ _)
   ·(refine(Nat.max_eq_left hq).symm▸?_);exact bP (lN 0x101361a010443683210490492059cc [_,_] rfl hu:_<=8*(1+M)) (eG _ _)
end
def gD(s:Sg):Prop:=s.fl=false/\s.c<=5000
theorem Sg.le.cQ{w:Int}{s s':Sg}(h:Sg.le w s s')(f:gD s'):gD s:=⟨by
 cases e:s.fl with
|false=>rfl
|true=>exact absurd ((h.fl e).symm.trans f.1) (by decide),cw h.c f.2⟩
def Bv.e(ψ:Str->Dv):Bv->Int
|.num i=>i|.pc p=>p.den ψ
def Ag(Δ:Dm)(ψ cO:Str->Dv):Prop:=∀y m,Δ y=some m->cO y=ψ y
theorem Ag.upd(h:Ag Δ ψ cO)(x:Str)(m:Pm)(v:Dv):Ag (dj Δ x m) (upd ψ x v) (upd cO x v):=λy m' q=>by
 unfold dj at q;unfold Qh.upd;cases hx:(x==y) with
|true=>rfl
|false=>rw[hx] at q;exact h y m' q
theorem Ag.new(h:Δ x=none)(v:Dv):Ag Δ ψ (Qh.upd ψ x v):=λy m q=>by
 unfold Qh.upd;cases hx:(x==y) with
|true=>rw[←beq_iff_eq.mp hx,h] at q;exact bL q
|false=>rfl
theorem dF.den(h:dF q Δ p):∀ψ cO,Ag Δ ψ cO->p.den cO=p.den ψ:=by
 induction h with
|num=>exact λ_ _ _=>rfl
|un _ _ ih=>exact ih
|@name Δ x h=>intro ψ cO g;show(match cO x with|.num i=>i|_=>0)=_;rw[g _ _ h];rfl
|@use Δ x a h _ ih=>intro ψ cO g;show(match cO x with|.fn F=>F (a.den cO)|_=>0)=_;rw[g _ _ h,ih ψ cO g];rfl
|@aj Δ o a b _ _ h1 h2=>intro ψ cO g;show fD o (a.den cO) (b.den cO)=_;rw[h1 ψ cO g,h2 ψ cO g];rfl
|@when Δ a b c _ _ _ h1 h2 h3=>intro ψ cO g;show(if a.den cO=0 then c.den cO else b.den cO)=_;rw[h1 ψ cO g,h2 ψ cO g,h3 ψ cO g];rfl
|@aX Δ x a b _ _ h1 h2=>intro ψ cO g;show b.den (Qh.upd cO x (.num (a.den cO)))=_;rw[h1 ψ cO g];exact h2 _ _ (g.upd _ _ _)
|@bb Δ n x a b _ _ _ h1 h2=>intro ψ cO g;show iter (λi=>b.den (Qh.upd cO x (.num i))) n.toNat (a.den cO)=_;rw[h1 ψ cO g,funext λi=>h2 _ _ (g.upd x .v (.num i))];rfl
|@def_ Δ g' x kd a b _ _ h1 h2=>intro ψ cO g;show b.den (Qh.upd cO g' (.fn λi=>a.den (Qh.upd cO x (.num i))))=_;rw[funext λi=>h1 _ _ (g.upd x .v (.num i))];exact h2 _ _ (g.upd _ _ _)
theorem fF.e(h:fF Δ k b)(g:Ag Δ ψ cO):b.e cO=b.e ψ:=by
 cases k with
|aA=>obtain⟨i,rfl,_⟩:=h;rfl
|aV=>obtain⟨p,rfl,h1,_⟩:=h;exact h1.den _ _ g
def FE(Δ:Dm)(ψ:Str->Dv)(v:Sv)(d:Dv):Lv->Mn->Prop
|.z,.val _=>d=.num (v.b.e ψ)
|.z,.fn ka _=>∃F,d=.fn F/\∀cI cO,Δ.le cI->Ag Δ ψ cO->∀u s,fF cI ka u->0<=s.k->Below cI s.k->gD (v.f u s).2->(v.f u s).1.e cO=F (u.e cO)
|.o,_=>ψ v.y=d
def Rl(Γ:Sc)(η:Str->Sv)(Δ:Dm)(ψ ρ:Str->Dv):Prop:=∀x e,look Γ x=some e->FE Δ ψ (η x) (ρ x) e.l e.m
theorem Rl.up{V:Int}(h:Rl Γ η Δ ψ ρ)(S:Se V Γ η Δ)(q:Δ.le cI)(g:Ag Δ ψ cO):Rl Γ η cI cO ρ:=λx e he=>by
 have a:=h x e he;have b:=S x e he;obtain⟨ex,el,em⟩:=e;clear he S h;cases el with
|z=>cases em with
  |val k=>obtain⟨v,e1,e2⟩:=b;have a:_=Dv.num ((η x).b.e ψ):=a;show _=Dv.num ((η x).b.e cO);rw[a,e1];exact congrArg _ (e2.e g).symm
  |fn ka k=>obtain⟨F,e1,e2⟩:=a;exact⟨F,e1,λm6 Qi q' g'=>e2 m6 Qi (q.trans q') λy m z=>(g' y m (q y m z)).trans (g y m z)⟩
|o=>
  have z:∃m,Δ (η x).y=some m:=by cases em with
   |val k=>obtain⟨y,e1,e2⟩:=b;exact⟨_,by rw[e1];exact e2⟩
   |fn ka k=>obtain⟨y,e1,e2⟩:=b;exact⟨_,by rw[e1];exact e2⟩
  obtain⟨m,z⟩:=z;have a:ψ (η x).y=ρ x:=by cases em<;>exact a
  have:cO (η x).y=ρ x:=(g _ _ z).trans a;cases em<;>exact this
theorem Rl.put(h:Rl Γ η Δ ψ ρ)(hv:FE Δ ψ v d l m):Rl (Γ++[⟨x,l,m⟩]) (bQ η x v) Δ ψ (upd ρ x d):=λy e he=>by
 rw[fS] at he;unfold bQ upd;cases hx:(x==y) with
|true=>rw[hx,if_pos rfl] at he;(apply eJ he);rw[if_pos rfl,if_pos rfl];exact hv
|false=>rw[hx] at he;rw[if_neg (by simp),if_neg (by simp)];exact h y e he
theorem wc:upd ψ x v x=v:=by unfold upd;rw[if_pos (beq_self_eq_true x)]
def Er(V w:Int)(Γ:Sc)(u D:Nat)(l:Lv)(f:Bool)(t:Tm)(k:Kd):Prop:=bF V w Γ u D l t k/\
 ∀η Δ s,Se V Γ η Δ->0<=s.k->Below Δ s.k->(f=true->∀y,Δ y=none)->gD (sd t η l s).2->∀ψ ρ,Rl Γ η Δ ψ ρ->(sd t η l s).1.e ψ=t.den ρ
theorem uH(h:hH Γ η Δ u D .z .aA b):b.e ψ=b.n:=by obtain⟨i,rfl,_⟩:=h;rfl
theorem Qj(h:hH Γ η Δ u D .z .aV b):b.p.den ψ=b.e ψ:=by obtain⟨i,rfl,_⟩:=h;rfl
theorem jM(h:hH Γ η Δ u D .o k b):b.p.den ψ=b.e ψ:=by obtain⟨i,rfl,_⟩:=h;rfl
section
variable{V w w' bj bq jL:Int}{Γ:Sc}{u u' iK ew D D' gC p0:Nat}{k k' ka:Kd}{l:Lv}{f f':Bool}{t a b c:Tm}{x g kd:Str}
theorem Er.up(h:Er V w Γ u D l f t k)(hu:u<=u')(hD:D<=D')(hw:w<=w'):Er V w' Γ u' D' l f t k:=⟨h.1.up hu hD hw,h.2⟩
theorem CC:Er V 0 Γ u D .z f (.num i) .aA:=⟨Cz,λη Δ s h1 h2 h3 hf hk ψ ρ R=>rfl⟩
theorem w9(hD:1<=D):Er V 0 Γ u D .o f (.num i) k:=⟨w6 hD,λη Δ s h1 h2 h3 hf hk ψ ρ R=>rfl⟩
theorem BO(h:look Γ x=some ⟨x,.z,.val k⟩):Er V 0 Γ u D .z f (.name x) k:=⟨Ls h,λη Δ s h1 h2 h3 hf hk ψ ρ R=>by
 show _=match ρ x with|.num i=>i|_=>0
 rw[show ρ x=_ from R x _ h];rfl⟩
theorem tw(h:look Γ x=some ⟨x,.o,.val k'⟩)(hD:1<=D):Er V 0 Γ u D .o f (.name x) k:=⟨tv h hD,λη Δ s h1 h2 h3 hf hk ψ ρ R=>by
 show(match ψ (η x).y with|.num i=>i|_=>0)=_
 rw[show ψ (η x).y=ρ x from R x _ h];rfl⟩
theorem nV(hw:0<=w)(h:Er V w Γ u D .o false a k):Er V w Γ u D' .z f (.un .bE a) .aV:=⟨qS hw h.1,λη Δ s h1 h2 h3 hf hk ψ ρ R=>by
 have e:sd (.un .bE a) η .z s=if 5000<s.c then(.pc (.num 0),s) else il (sd a η .o s).1.p (sd a η .o s).2:=rfl
 obtain⟨ga,la⟩:=h.1 η Δ s h1 h2 h3;rw[e] at hk ⊢
 by_cases q:5000<s.c
 ·rw[if_pos q] at hk;exact absurd hk.2 (Int.not_le.mpr q)
 ·rw[if_neg q] at hk ⊢;unfold il at hk ⊢
  by_cases z:2000<(sd a η .o s).1.p.size∨30<(sd a η .o s).1.p.depth
  ·rw[if_pos z] at hk;exact tf hk.1
  ·rw[if_neg z] at hk ⊢
   exact(jM ga).trans (h.2 η Δ s h1 h2 h3 (by exact ff) ⟨hk.1,cw (Int.le_add_of_nonneg_right (iM _)) hk.2⟩ ψ ρ R)⟩
theorem tR(h:Er V w Γ u D' .z false a .aV)(hD:30<=D):Er V w Γ u D .o f (.un .hole a) k:=⟨w7 h.1 hD,λη Δ s h1 h2 h3 hf hk ψ ρ R=>h.2 η Δ s h1 h2 h3 (by exact ff) hk ψ ρ R⟩
theorem e_lift(h:Er V w Γ u' D' .z f a .aA):Er V w Γ u D .z f (.un .lift a) .aV:=⟨Ni h.1,λη Δ s h1 h2 h3 hf hk ψ ρ R=>by
 have e:=h.2 η Δ s h1 h2 h3 hf hk ψ ρ R;obtain⟨⟨i,e1,r1⟩,_⟩:=h.1 η Δ s h1 h2 h3;refine Eq.trans ?_ e;show((sd a η .z s).1.n).fmod 1000003=_
 rw[e1];exact Int.fmod_eq_of_lt r1.1 r1.2⟩
theorem OW(h:Er V w Γ u' D' .z true a .aV):Er V w Γ u D .z true (.un .run a) .aA:=⟨OV h.1,λη Δ s h1 h2 h3 hf hk ψ ρ R=>by
 obtain⟨ga,la⟩:=h.1 η Δ s h1 h2 h3;have gz:=Qj (ψ:=ψ) ga;obtain⟨p,e1,g1,_⟩:=ga;have e:sd (.un .run a) η .z s=gW (sd a η .z s).1.p (sd a η .z s).2:=rfl;rw[e,e1] at hk ⊢;have hc:=sZ g1 (λ_=>0) λ_=>a8 _;unfold gW at hk ⊢
 by_cases q:5000<(sd a η .z s).2.c+(Bv.pc p).p.d5
 ·rw[if_pos q] at hk;exact absurd hk.2 (Int.not_le.mpr q)
 ·rw[if_neg q] at hk ⊢;refine Eq.trans ?_ (h.2 η Δ s h1 h2 h3 hf ⟨hk.1,cw (Int.le_add_of_nonneg_right (cw (by decide) hc)) hk.2⟩ ψ ρ R);rw[e1]
  exact(g1.den _ _ λy m z=>by rw[hf rfl y] at z;exact bL z).symm⟩
theorem Nq(ha:Er V bj Γ iK gC .z f a .aA)(hb:Er V bq Γ ew p0 .z f b .aA)(hw:bj+bq<=w):Er V w Γ u D .z f (.aj o a b) .aA:=⟨Nj ha.1 hb.1 hw,λη Δ s h1 h2 h3 hf hk ψ ρ R=>by
 obtain⟨ga,la⟩:=ha.1 η Δ s h1 h2 h3;obtain⟨gb,lb⟩:=hb.1 η Δ _ h1 (cw h2 la.k) (h3.up la.k);show fD o (sd a η .z s).1.n (sd b η .z (sd a η .z s).2).1.n=fD o (a.den ρ) (b.den ρ)
 rw[←uH ga,←uH gb,ha.2 η Δ s h1 h2 h3 hf (lb.cQ hk) ψ ρ R,hb.2 η Δ _ h1 (cw h2 la.k) (h3.up la.k) hf hk ψ ρ R]⟩
theorem CD(ha:Er V bj Γ u D .o false a k)(hb:Er V bq Γ u D .o false b k)(hu:u=0∨u+1<=u')(hD:D+1<=D')(hw:bj+bq<=w):Er V w Γ u' D' .o f (.aj o a b) k':=⟨CA ha.1 hb.1 hu hD hw,λη Δ s h1 h2 h3 hf hk ψ ρ R=>by
 obtain⟨ga,la⟩:=ha.1 η Δ s h1 h2 h3;obtain⟨gb,lb⟩:=hb.1 η Δ _ h1 (cw h2 la.k) (h3.up la.k);show fD o ((sd a η .o s).1.p.den ψ) ((sd b η .o (sd a η .o s).2).1.p.den ψ)=fD o (a.den ρ) (b.den ρ)
 rw[jM ga,jM gb,ha.2 η Δ s h1 h2 h3 (by exact ff) (lb.cQ hk) ψ ρ R,hb.2 η Δ _ h1 (cw h2 la.k) (h3.up la.k) (by exact ff) hk ψ ρ R]⟩
theorem Lz(ha:Er V bj Γ iK gC .z f a .aA)(hb:Er V bq Γ u D .z f b k)(hc:Er V bq Γ u D .z f c k)(hw:bj+bq<=w):Er V w Γ u D .z f (.when a b c) k:=⟨Lw ha.1 hb.1 hc.1 hw,λη Δ s h1 h2 h3 hf hk ψ ρ R=>by
 obtain⟨ga,la⟩:=ha.1 η Δ s h1 h2 h3;have e:sd (.when a b c) η .z s=(if(sd a η .z s).1.n=0 then sd c η .z else sd b η .z) (sd a η .z s).2:=rfl;show _=if a.den ρ=0 then c.den ρ else b.den ρ
 rw[e] at hk ⊢
 by_cases q:(sd a η .z s).1.n=0
 ·rw[if_pos q] at hk ⊢;have:=(hc.1 η Δ _ h1 (cw h2 la.k) (h3.up la.k)).2.cQ hk;rw[←ha.2 η Δ s h1 h2 h3 hf this ψ ρ R,uH ga,if_pos q];exact hc.2 η Δ _ h1 (cw h2 la.k) (h3.up la.k) hf hk ψ ρ R
 ·rw[if_neg q] at hk ⊢;have:=(hb.1 η Δ _ h1 (cw h2 la.k) (h3.up la.k)).2.cQ hk;rw[←ha.2 η Δ s h1 h2 h3 hf this ψ ρ R,uH ga,if_neg q]
  exact hb.2 η Δ _ h1 (cw h2 la.k) (h3.up la.k) hf hk ψ ρ R⟩
theorem LA(ha:Er V bj Γ u D .o false a ka)(hb:Er V bq Γ u D .o false b k)(hc:Er V jL Γ u D .o false c k)(hu:u=0∨u+1<=u')(hD:D+1<=D')(hw:bj+bq+jL<=w):Er V w Γ u' D' .o f (.when a b c) k':=⟨Ly ha.1 hb.1 hc.1 hu hD hw,λη Δ s h1 h2 h3 hf hk ψ ρ R=>by
 obtain⟨ga,la⟩:=ha.1 η Δ s h1 h2 h3;obtain⟨gb,lb⟩:=hb.1 η Δ _ h1 (cw h2 la.k) (h3.up la.k);have u0:=la.trans lb (a8 _);obtain⟨gc,lc⟩:=hc.1 η Δ _ h1 (cw h2 u0.k) (h3.up u0.k);show(if(sd a η .o s).1.p.den ψ=0 then(sd c η .o (sd b η .o (sd a η .o s).2).2).1.p.den ψ else(sd b η .o (sd a η .o s).2).1.p.den ψ)=if a.den ρ=0 then c.den ρ else b.den ρ
 rw[jM ga,jM gb,jM gc,ha.2 η Δ s h1 h2 h3 (by exact ff) (lb.cQ (lc.cQ hk)) ψ ρ R,hb.2 η Δ _ h1 (cw h2 la.k) (h3.up la.k) (by exact ff) (lc.cQ hk) ψ ρ R,hc.2 η Δ _ h1 (cw h2 u0.k) (h3.up u0.k) (by exact ff) hk ψ ρ R]⟩
theorem xa(ha:Er V bj Γ 0 gC .z f a ka)(hb:Er V bq (Γ++[⟨x,.z,.val ka⟩]) u D .z f b k)(hw:bj+bq<=w):Er V w Γ u D .z f (.aX x a b) k:=⟨w8 ha.1 hb.1 hw,λη Δ s h1 h2 h3 hf hk ψ ρ R=>by
 obtain⟨ga,la⟩:=ha.1 η Δ s h1 h2 h3;have S:=h1.put (x:=x) (l:=.z) (m:=.val ka) (v:=.val (sd a η .z s).1) ⟨_,rfl,ga.ok⟩;have lb:=(hb.1 _ Δ _ S (cw h2 la.k) (h3.up la.k)).2;have ea:=ha.2 η Δ s h1 h2 h3 hf (lb.cQ hk) ψ ρ R
 exact hb.2 _ Δ _ S (cw h2 la.k) (h3.up la.k) hf hk ψ _ (R.put (show Dv.num (a.den ρ)=.num ((sd a η .z s).1.e ψ) by rw[ea]))⟩
theorem Nr(hg:look Γ g=some ⟨g,.z,.fn ka k⟩)(ha:Er V bj Γ 0 gC .z f a ka)(hw:bj+V<=w):Er V w Γ u D .z f (.use g a) k:=⟨Nk hg ha.1 hw,λη Δ s h1 h2 h3 hf hk ψ ρ R=>by
 obtain⟨ga,la⟩:=ha.1 η Δ s h1 h2 h3;obtain⟨F,e,hF⟩:=R g _ hg;obtain⟨F',e',oQ⟩:=h1 g _ hg;have lb:=(oQ Δ (Dm.le.refl Δ) _ (sd a η .z s).2 ga.ok (cw h2 la.k) (h3.up la.k)).2;have hk':gD ((η g).f (sd a η .z s).1 (sd a η .z s).2).2:=hk;have hk2:=hk';rw[e'] at hk2;show((η g).f (sd a η .z s).1 (sd a η .z s).2).1.e ψ=match ρ g with|.fn F=>F (a.den ρ)|_=>0
 rw[e,hF Δ ψ (Dm.le.refl Δ) (λ_ _ _=>rfl) _ _ ga.ok (cw h2 la.k) (h3.up la.k) hk',ha.2 η Δ s h1 h2 h3 hf (lb.cQ hk2) ψ ρ R]⟩
theorem Nt(hg:look Γ g=some ⟨g,.o,.fn ka k⟩)(ha:Er V w Γ u D .o false a k')(hu:u+1<=u')(hD:D+1<=D'):Er V w Γ u' D' .o f (.use g a) iL:=⟨Nl hg ha.1 hu hD,λη Δ s h1 h2 h3 hf hk ψ ρ R=>by
 obtain⟨ga,la⟩:=ha.1 η Δ s h1 h2 h3;show(match ψ (η g).y with|.fn F=>F ((sd a η .o s).1.p.den ψ)|_=>0)=match ρ g with|.fn F=>F (a.den ρ)|_=>0
 rw[show ψ (η g).y=ρ g from R g _ hg,jM ga,ha.2 η Δ s h1 h2 h3 (by exact ff) hk ψ ρ R]⟩
theorem Nu(ha:Er V bj (Γ++[⟨x,.z,.val ka⟩]) 0 gC .z false a k)(hb:Er V' w (Γ++[⟨g,.z,.fn ka k⟩]) u D .z f b k')(hV:V<=V')(hw:bj<=V'):Er V w Γ u D .z f (.def_ g x kd a b) k':=⟨Nm ha.1 hb.1 hV hw,λη Δ s h1 h2 h3 hf hk ψ ρ R=>by
 refine hb.2 (bQ η g (.fn λv=>sd a (bQ η x (.val v)) .z)) Δ s ((h1.up (Dm.le.refl Δ) hV).put ⟨_,rfl,λcI q v s' hv hk hB=>by
  refine a5 (ha.1 (bQ η x (.val v)) cI s' ((h1.up q (a8 _)).put ⟨_,rfl,hv⟩) hk hB) λga ka=>?_
  exact⟨ga.ok,ka.up hw⟩⟩) h2 h3 hf hk ψ _ (R.put ⟨_,rfl,λcI cO q g v s' hv hk hB hF=>?_⟩)
 exact ha.2 (bQ η x (.val v)) cI s' ((h1.up q (a8 _)).put ⟨_,rfl,hv⟩) hk hB (by exact ff) hF cO _ ((R.up h1 q g).put rfl)⟩
theorem Aa(F:Int->Int):∀(n:Nat)(i:Int),iter F (n+1) i=iter F n (F i)
|0,_=>rfl
|n+1,i=>congrArg F (Aa F n i)
theorem JQ{n:Int}(hn:0<=n/\n<=9)(h0:0<=bq)(ha:Er V bj Γ 0 gC .z f a k)(hb:Er V bq (Γ++[⟨x,.z,.val k⟩]) 0 p0 .z f b k)(hw:bj+9*bq<=w):Er V w Γ u D .z f (.bb n x a b) k:=⟨JP hn h0 ha.1 hb.1 hw,λη Δ s h1 h2 h3 hf hk ψ ρ R=>by
 obtain⟨ga,la⟩:=ha.1 η Δ s h1 h2 h3;have go:∀(m:Nat)(r:Bv×Sg),fF Δ k r.1->0<=r.2.k->Below Δ r.2.k->gD (cM (λv=>sd b (bQ η x (.val v)) .z) m r).2->gD r.2/\(cM (λv=>sd b (bQ η x (.val v)) .z) m r).1.e ψ=iter (λi=>b.den (upd ρ x (.num i))) m (r.1.e ψ):=by
  intro m
  induction m with
  |zero=>exact λr _ _ _ q=>⟨q,rfl⟩
  |succ m ih=>
   intro r g1 g2 g3 q;have S:=h1.put (x:=x) (l:=.z) (m:=.val k) (v:=.val r.1) ⟨_,rfl,g1⟩;obtain⟨gb,lb⟩:=hb.1 _ Δ r.2 S g2 g3;obtain⟨q1,q2⟩:=ih _ gb.ok (cw g2 lb.k) (g3.up lb.k) q;exact⟨lb.cQ q1,by rw[Aa];exact q2.trans (congrArg _ (hb.2 _ Δ r.2 S g2 g3 hf q1 ψ _ (R.put rfl)))⟩
 obtain⟨q1,q2⟩:=go n.toNat (sd a η .z s) ga.ok (cw h2 la.k) (h3.up la.k) hk;show _=iter _ _ _
 rw[←ha.2 η Δ s h1 h2 h3 hf q1 ψ ρ R];exact q2⟩
theorem DE{η:Str->Sv}{Δ:Dm}{s:Sg}{ψ ρ:Str->Dv}(h1:Se V Γ η Δ)(h2:0<=s.k)(h3:Below Δ s.k)(ha:Er V bj Γ u D .o false a ka)(hb:Er V bq (Γ++[⟨x,.o,.val k⟩]) u D .o false b k')(hk:gD (sd b (bQ η x (.nm (vn (s.k+1)))) .o (sd a η .o s.new).2).2)(R:Rl Γ η Δ ψ ρ):
  (sd a η .o s.new).1.p.den ψ=a.den ρ/\∀i,(sd b (bQ η x (.nm (vn (s.k+1)))) .o (sd a η .o s.new).2).1.p.den (upd ψ (vn (s.k+1)) (.num i))=b.den (upd ρ x (.num i)):=by have hn:s.new.k=s.k+1:=rfl;have g2:0<=s.new.k:=(lI 0xc80124124024124814d80606134c [_,_] rfl h2 hn);have g3:Below Δ s.new.k:=(h3.up (lI 0x34c04904920606130d [_,_] rfl hn));obtain⟨ga,la⟩:=ha.1 η Δ s.new h1 g2 g3;have kk:=la.k;have nn:=h3.none h2 (j:=s.k+1) (a8 _);have S:=(h1.up (Dm.le.new .v nn) (a8 _)).put (x:=x) (l:=.o) (m:=.val k) (v:=.nm (vn (s.k+1))) ⟨_,rfl,jY⟩;have g4:0<=(sd a η .o s.new).2.k:=(lI 0x32004904904900904920536018184d38530e [_,_,_] rfl h2 hn kk);have g5:Below (dj Δ (vn (s.k+1)) .v) (sd a η .o s.new).2.k:=((h3.up (Int.le_of_lt ‹_›)).put ⟨by exact lI 0x61321049049205320 [_] rfl h2,by assumption⟩ _);obtain⟨gb,lb⟩:=hb.1 _ _ _ S g4 g5;refine⟨(jM ga).trans (ha.2 η Δ _ h1 g2 g3 (by exact ff) (lb.cQ hk) ψ ρ R),λi=>(jM gb).trans (hb.2 _ _ _ S g4 g5 (by exact ff) hk _ _ ((R.up h1 (Dm.le.new .v nn) (.new nn _)).put ?_))⟩;show upd ψ (vn (s.k+1)) (.num i) (vn (s.k+1))=_;exact wc
theorem tS(ha:Er V bj Γ u D .o false a ka)(hb:Er V bq (Γ++[⟨x,.o,.val k⟩]) u D .o false b k')(hu:u=0∨u+1<=u')(hD:D+1<=D')(hw:1+bj+bq<=w){iL:Kd}:Er V w Γ u' D' .o f (.aX x a b) iL:=⟨CB ha.1 hb.1 hu hD hw,λη Δ s h1 h2 h3 hf hk ψ ρ R=>by
 obtain⟨q1,q2⟩:=DE h1 h2 h3 ha hb hk R;show(sd b _ .o (sd a η .o s.new).2).1.p.den (upd ψ (vn (s.k+1)) (.num ((sd a η .o s.new).1.p.den ψ)))=_
 rw[q1];exact q2 _⟩
theorem JR{n:Int}(hn:0<=n/\n<=9)(ha:Er V bj Γ u D .o false a ka)(hb:Er V bq (Γ++[⟨x,.o,.val k⟩]) u D .o false b k')(hu:u=0∨u+1<=u')(hD:D+1<=D')(hw:1+bj+bq<=w){iL:Kd}:Er V w Γ u' D' .o f (.bb n x a b) iL:=⟨JO hn ha.1 hb.1 hu hD hw,λη Δ s h1 h2 h3 hf hk ψ ρ R=>by
 obtain⟨q1,q2⟩:=DE h1 h2 h3 ha hb hk R;show iter (λi=>(sd b _ .o (sd a η .o s.new).2).1.p.den (upd ψ (vn (s.k+1)) (.num i))) n.toNat ((sd a η .o s.new).1.p.den ψ)=_
 rw[q1,funext q2];rfl⟩
theorem CF(ha:Er V bj (Γ++[⟨x,.o,.val ka⟩]) iK D .o false a k₁)(hb:Er V bq (Γ++[⟨g,.o,.fn ka k⟩]) ew D .o false b k')(hw:2+bj+bq<=w)(hD:D+1<=D')(hu:ew<=7)(h7:(gI Γ/\iK=0)∨(iK=ew/\(ew=0∨2*ew+1<=u'))):Er V w Γ u' D' .o f (.def_ g x kd a b) iL:=⟨Np ha.1 hb.1 hw hD hu h7,λη Δ s h1 h2 h3 hf hk ψ ρ R=>by
 have f1:=h3.none h2 (j:=s.k+1) (a8 _);have f2:=h3.none h2 (j:=s.k+1+1) (lI 0x184184c061301248 [_] rfl);have hn:s.new.new.k=s.k+1+1:=rfl;have S:=(h1.up (Dm.le.new .v f2) (a8 _)).put (x:=x) (l:=.o) (m:=.val ka) (v:=.nm (vn (s.k+1+1))) ⟨_,rfl,jY⟩;have g2:0<=s.new.new.k:=(lI 0xc80124124024124814d80606106134c [_,_] rfl h2 hn);have g3:Below (dj Δ (vn (s.k+1+1)) .v) s.new.new.k:=((h3.up (lI 0x34c04904920606106130d [_,_] rfl hn)).put ⟨by exact lI 0x61061321049049205320 [_] rfl h2,by(exact a8 _)⟩ _);obtain⟨ga,la⟩:=ha.1 _ _ _ S g2 g3;have kk:=la.k;have S':=(h1.up (Dm.le.new .f f1) (a8 _)).put (x:=g) (l:=.o) (m:=.fn ka k) (v:=.nm (vn (s.k+1))) ⟨_,rfl,jY⟩;have g4:0<=(sd a (bQ η x (.nm (vn (s.k+1+1)))) .o s.new.new).2.k:=(lI 0x32004904904900904920536018184184d38530e [_,_,_] rfl h2 hn kk);have g5:Below (dj Δ (vn (s.k+1)) .f) (sd a (bQ η x (.nm (vn (s.k+1+1)))) .o s.new.new).2.k:=((h3.up (lI 0xd30124124124818184184c38534e [_,_,_] rfl hn kk)).put ⟨by exact lI 0x61321049049205320 [_] rfl h2,by(exact Int.le_of_lt ‹_›)⟩ _);obtain⟨gb,lb⟩:=hb.1 _ _ _ S' g4 g5;have hF:=lb.cQ hk;have q1:∀i,(sd a (bQ η x (.nm (vn (s.k+1+1)))) .o s.new.new).1.p.den (upd ψ (vn (s.k+1+1)) (.num i))=a.den (upd ρ x (.num i)):=λi=>(jM ga).trans (ha.2 _ _ _ S g2 g3 (by exact ff) hF _ _ ((R.up h1 (Dm.le.new .v f2) (.new f2 _)).put (show upd ψ (vn (s.k+1+1)) (.num i) (vn (s.k+1+1))=_ from wc)));show(sd b _ .o (sd a (bQ η x (.nm (vn (s.k+1+1)))) .o s.new.new).2).1.p.den (upd ψ (vn (s.k+1)) (.fn λi=>(sd a (bQ η x (.nm (vn (s.k+1+1)))) .o s.new.new).1.p.den (upd ψ (vn (s.k+1+1)) (.num i))))=b.den (upd ρ g (.fn λi=>a.den (upd ρ x (.num i))));rw[funext q1];refine(jM gb).trans (hb.2 _ _ _ S' g4 g5 (by exact ff) hk _ _ ((R.up h1 (Dm.le.new .f f1) (.new f1 _)).put ?_))
 exact wc⟩
end
def ub(l:Lv)(b:Bool)(d:Nat):Nat:=match l,b with
|_,false=>0
|.o,true=>2^d-1
|.z,true=>2^(d-1)-1
def cap:Lv->Bool->Nat
|.z,false=>5|.o,false=>4|.z,true=>2|.o,true=>3
theorem lU(h:d+1<=cap .z b):ub .z b d=0:=by
 cases b with
|false=>rfl
|true=>have h:d+1<=2:=h;match d,h with
  |0,_=>rfl
  |1,_=>rfl
theorem wF(h:a<=b):2^a-1<=2^b-1:=Nat.sub_le_sub_right (Nat.pow_le_pow_right (by decide) h) 1
theorem mD(h:d<=d'):ub l b d<=ub l b d':=by
 cases b with
|false=>cases l<;>exact aQ _
|true=>cases l with
  |z=>exact wF (Nat.sub_le_sub_right h 1)
  |o=>exact wF h
theorem BP(d:Nat):2*(2^d-1)+1=2^(d+1)-1:=by have:=Nat.two_pow_pos d;rw[Nat.pow_succ];generalize 2^d=x at this;exact cj (lN 0xa11223018440a1322208201248049049201240240242248009049009089205301860 [_] rfl this) (lN 0x18440a13220a1122308208049201242248049089201248 [_] rfl)
theorem BQ:ub .o b d=0∨2*ub .o b d+1<=ub .o b (d+1):=by
 cases b with
|false=>exact .inl rfl
|true=>exact .inr (Nat.le_of_eq (BP d))
theorem dbl(h:2*a+1<=b):a+1<=b:=bP (Nat.add_le_add_right (Nat.le_mul_of_pos_left a (by decide)) 1) h
theorem mE:ub .o b d=0∨ub .o b d+1<=ub .o b (d+1):=by
 rcases BQ with h|h
 ·exact .inl h
 ·exact .inr (dbl h)
theorem Nv:ub .o true d+1<=ub .o true (d+1):=dbl (Nat.le_of_eq (BP d))
theorem LB:ub .z b d<=ub .o b (d+1):=by
 cases b with
|false=>exact aQ _
|true=>exact wF (bP (Nat.sub_le d 1) (Nat.le_succ d))
theorem JS:ub .o b d<=ub .z b (d+1):=by cases b<;>exact aQ _
theorem FF(h:d<=3):ub .o true d<=7:=by
 match d,h with
|0,_=>decide
|1,_=>decide
|2,_=>decide
|3,_=>decide
theorem gI.val(h:gI Γ)(x:Str)(l:Lv)(k:Kd):gI (Γ++[⟨x,l,.val k⟩]):=λg ka k' hg=>by
 rw[fS] at hg;cases hx:(x==g) with
|true=>(replace hg:=(if_pos rfl)▸(hx▸hg));cases hg
|false=>(replace hg:=hx▸hg);exact h g ka k' hg
theorem gI.fz(h:gI Γ)(x:Str)(a r:Kd):gI (Γ++[⟨x,.z,.fn a r⟩]):=λg ka k' hg=>by
 rw[fS] at hg;cases hx:(x==g) with
|true=>(replace hg:=(if_pos rfl)▸(hx▸hg));cases hg
|false=>(replace hg:=hx▸hg);exact h g ka k' hg
def W:Nat->Int->Int
|0,_=>0
|d+1,V=>3+V+max (10*W d V) (W d (max V (W d V)))
theorem de:∀d {V:Int},0<=V->0<=W d V
|0,_,_=>a8 _
|d+1,V,h=>by have:=de d h;show 0<=3+V+max (10*W d V) (W d (max V (W d V)));exact lI 0x10ce10da8132380804900928904920124124a24124814c805360 [_,_,_] rfl h this
theorem ey{d:Nat}{V:Int}(h:0<=V):3+V+10*W d V<=W (d+1) V/\3+V+W d (max V (W d V))<=W (d+1) V:=by have e:W (d+1) V=3+V+max (10*W d V) (W d (max V (W d V))):=rfl;exact e▸⟨Int.add_le_add_left (Int.le_max_left _ _) _,Int.add_le_add_left (Int.le_max_right _ _) _⟩
theorem yf{d:Nat}{V:Int}(h:0<=V):W d V<=W (d+1) V:=by have y1:=(ey (d:=d) h).1;have y2:=de d h;exact lI 0x34c0492490490492053a014d04432a04e8c5320 [_,_,_] rfl h y1 y2
theorem nZ{V:Int}(h:0<=V):∀{d d':Nat},d<=d'->W d V<=W d' V
|d,d',q=>by
  induction d' with
  |zero=>(refine(Nat.le_zero.mp q).symm▸?_);exact a8 _
  |succ d' ih=>
   rcases Nat.lt_or_ge d (d'+1) with g|g
   ·exact cw (ih (cg ‹_›)) (yf h)
   ·rw[show d=d'+1 by exact cj (lN 0x6134c04904920506134c [_,_] rfl q) (lN 0x34184c04904920534184c [_,_] rfl g)];exact a8 _
theorem era{d:Nat}{Γ:Sc}{l:Lv}{f:Bool}{t:Tm}(h:HG d Γ l f t k):∀b V,0<=V->(l=.o->f=false)->(b=false->gI Γ)->d<=cap l b->Er V (W d V) Γ (ub l b d) (30+d) l f t k:=by
 induction h with
|@num d Γ l f i=>intro b V hV bu hN hc;(clear hc;cases l);exact CC.up (aQ _) (aQ _) (de _ hV);exact(w9 (by exact lN 82653221448 [_] rfl)).up (aQ _) (aQ _) (de _ hV)
|@name d Γ l f x k hx=>intro b V hV bu hN hc;(clear hc;cases l);exact(BO hx).up (aQ _) (aQ _) (de _ hV);exact(tw hx (by exact lN 82653221448 [_] rfl)).up (aQ _) (aQ _) (de _ hV)
|@jb d Γ f x hx=>intro b V hV bu hN hc;exact(tR (D':=30) (BO hx) (d7 _ _)).up (aQ _) (aQ _) (de _ hV)
|@jw d Γ f x hx=>intro b V hV bu hN hc;exact(nV (D:=1) (k:=.aA) (a8 _) (tw hx (aQ _))).up (aQ _) (aQ _) (de _ hV)
|@jx d Γ f i=>intro b V hV bu hN hc;exact(nV (D:=1) (k:=.aA) (a8 _) (w9 (aQ _))).up (aQ _) (aQ _) (de _ hV)
|@jF d Γ f i=>intro b V hV bu hN hc;exact(e_lift (u':=0) (D':=0) CC).up (aQ _) (aQ _) (de _ hV)
|@when d Γ l f a b' c k ha hb g8 bh bU f9=>
  intro b V hV bu hN hc;have b7:=(ey (d:=d) hV).1;have hw0:=de d hV;have g1:=bh b V hV bu hN (bz ‹_›);have g2:=bU b V hV bu hN (bz ‹_›);have g3:=f9 b V hV bu hN (bz ‹_›);clear hc f9 bU bh g8 hb ha;cases l with
  |z=>exact(Lz g1 g2 g3 (a8 _)).up (mD (d7 _ _)) (Nat.le_succ _) (by exact lI 0x34130c0492090490492053a014d04432a04e8c5320 [_,_,_] rfl hV b7 hw0)
  |o=>cases bu rfl;exact LA g1 g2 g3 mE (aQ _) (by exact lI 0x34130130c0491c90490492053a014d04432a04e8c5320 [_,_,_] rfl hV b7 hw0)
|@use d Γ l f g a ka k hg ha bh=>
  intro b V hV bu hN hc;have b7:=(ey (d:=d) hV).1;have hw0:=de d hV;have g1:=bh b V hV bu hN (bz ‹_›);clear bh ha;cases l with
  |z=>(replace g1:=(lU hc)▸g1);exact Nr hg g1 (by exact lI 0xe04d30124924124814e04432a04d8c5320 [_,_,_] rfl b7 hw0)
  |o=>cases bu rfl;clear hc;cases b with
   |false=>exact absurd hg (hN rfl _ _ _)
   |true=>exact(Nt hg g1 Nv (aQ _)).up (aQ _) (aQ _) (by exact lI 0x34c0492490490492053a014d04432a04e8c5320 [_,_,_] rfl hV b7 hw0)
|@aX d Γ l f x a b' k k' ha hb bh bU=>
  intro b V hV bu hN hc;have b7:=(ey (d:=d) hV).1;have hw0:=de d hV;have g1:=bh b V hV bu hN (bz ‹_›);have g2:=bU b V hV bu (λq=>(hN q).val _ _ _) (bz ‹_›);clear bU bh hb ha;cases l with
  |z=>(replace g1:=(lU hc)▸g1);exact(xa g1 g2 (a8 _)).up (mD (d7 _ _)) (Nat.le_succ _) (by exact lI 0x34130c0492090490492053a014d04432a04e8c5320 [_,_,_] rfl hV b7 hw0)
  |o=>cases bu rfl;exact tS g1 g2 mE (aQ _) (by exact lI 0x3413013210492090490492053a014d04432a04e8c5320 [_,_,_] rfl hV b7 hw0)
|@bb d Γ l f n x a b' k hn ha hb bh bU=>
  intro b V hV bu hN hc;have b7:=(ey (d:=d) hV).1;have hw0:=de d hV;have g1:=bh b V hV bu hN (bz ‹_›);have g2:=bU b V hV bu (λq=>(hN q).val _ _ _) (bz ‹_›);clear bU bh hb ha;cases l with
  |z=>rw[lU hc] at g1 g2;exact JQ hn hw0 g1 g2 (by exact lI 0xd04432930124124124814e80534110ca813a3 [_,_,_] rfl hV b7)
  |o=>cases bu rfl;exact JR hn g1 g2 mE (aQ _) (by exact lI 0x3413013210492090490492053a014d04432a04e8c5320 [_,_,_] rfl hV b7 hw0)
|@def_ d Γ l f g x a b' ka k k' hl ha hb bh bU=>
  intro b V hV bu hN hc;have b7:=(ey (d:=d) hV).1;have hw0:=de d hV;have g1:=bh b V hV (λ_=>rfl) (λq=>(hN q).val _ _ _) (bz ‹_›);clear bh hb ha hl;cases l with
  |z=>
   have yY:0<=max V (W d V):=by exact lI 0xcd320201241241248049009049205360 [_,_] rfl hw0
   have h11:=(ey (d:=d) hV).2;have g2:=bU b _ yY bu (λq=>(hN q).fz _ _ _) (bz ‹_›);replace g1:=(lU hc)▸g1;exact(Nu g1 g2 (by exact lI 0x334c308049201241248 [_,_] rfl) (by exact lI 0x330d308049049201248 [_,_] rfl)).up (mD (d7 _ _)) (Nat.le_succ _) (by exact lI 0xd30124124124814e8053413013a3 [_,_,_] rfl hV h11)
  |o=>cases bu rfl;cases b with
   |false=>
    have hc:d+1<=4:=hc;have g2:=bU true V hV bu (by exact tf) (show d<=3 by(exact cg ‹_›));exact CF g1 g2 (w:=W (d+1) V) (by exact lI 0x3413013220492090490492053a014d04432a04e8c5320 [_,_,_] rfl hV b7 hw0) (aQ _) (FF (cg ‹_›)) (.inl ⟨hN rfl,rfl⟩)
   |true=>
    have hc:d+1<=3:=hc;have g2:=bU true V hV bu (by exact tf) (show d<=3 by(exact bz ‹_›));exact CF g1 g2 (w:=W (d+1) V) (by exact lI 0x3413013220492090490492053a014d04432a04e8c5320 [_,_,_] rfl hV b7 hw0) (aQ _) (FF (bz ‹_›)) (.inr ⟨rfl,BQ⟩)
|@bE d Γ f a ha bh=>
  intro b V hV bu hN hc;have b7:=(ey (d:=d) hV).1;have hw0:=de d hV;have hc':d<=cap .o b:=by cases b with
   |false=>have hc:d+1<=5:=hc;show d<=4;(exact cg ‹_›)
   |true=>have hc:d+1<=2:=hc;show d<=3;exact lN 0x8cc04904920588184c [_] rfl hc
  exact(nV (D':=30) hw0 (bh b V hV (λ_=>rfl) hN hc')).up JS (d7 _ _) (by exact lI 0x34c0492490490492053a014d04432a04e8c5320 [_,_,_] rfl hV b7 hw0)
|@hole d Γ f a ha bh=>
  intro b V hV bu hN hc;have b7:=(ey (d:=d) hV).1;have hw0:=de d hV;have hc':d<=cap .z b:=by cases b with
   |false=>have hc:d+1<=4:=hc;show d<=5;exact lN 0x94c04904920590184c [_] rfl hc
   |true=>have hc:d+1<=3:=hc;show d<=2;(exact cg ‹_›)
  exact(tR (D:=30) (bh b V hV (λ_=>rfl) hN hc') (aQ _)).up LB (d7 _ _) (by exact lI 0x34c0492490490492053a014d04432a04e8c5320 [_,_,_] rfl hV b7 hw0)
|@lift d Γ f a ha bh=>intro b V hV bu hN hc;exact(e_lift (bh b V hV bu hN (bz ‹_›))).up (aQ _) (aQ _) (yf hV)
|@run d Γ a ha bh=>intro b V hV bu hN hc;exact(OW (bh b V hV bu hN (bz ‹_›))).up (aQ _) (aQ _) (yf hV)
|@aj d Γ l f w a b' ha hb bh bU=>
  intro b V hV bu hN hc;have b7:=(ey (d:=d) hV).1;have hw0:=de d hV;have g1:=bh b V hV bu hN (bz ‹_›);have g2:=bU b V hV bu hN (bz ‹_›);clear hc bU bh hb ha;cases l with
  |z=>exact Nq g1 g2 (by exact lI 0x34130c0492090490492053a014d04432a04e8c5320 [_,_,_] rfl hV b7 hw0)
  |o=>cases bu rfl;exact CD g1 g2 mE (aQ _) (lI 0x34130c0492090490492053a014d04432a04e8c5320 [_,_,_] rfl hV b7 hw0)
|@kept d Γ f x g a b' ha hb bh bU=>
  intro b V hV bu hN hc;have b7:=(ey (d:=d) hV).1;have hw0:=de d hV;have hw1:=nZ hV (show d-1<=d by(exact Nat.sub_le _ _));have r5:=nZ hV (show d-2<=d by(exact Nat.sub_le _ _));have iQ:=de (d-1) hV;have jS:=de (d-2) hV;exact tS ((bh b V hV (λ_=>rfl) hN (by exact lN 0x34284c20124024124804900904920534184c [_,_] rfl hc)).up (mD (b:=b) (show d-1<=d by(exact Nat.sub_le _ _))) (show 30+(d-1)<=30+d by exact lN 0x133e04284cf88049201248 [_] rfl) (a8 _)) ((tR (k:=.aA) (D:=30+d) (xa (x:=g) (gC:=0) (ka:=.aV) (nV (D:=1) (k:=.aA) (a8 _) (tw (lY Γ ⟨x,.o,.val .aA⟩) (aQ _))) (nV (D':=30) iQ (bU b V hV (λ_=>rfl) (λq=>((hN q).val _ _ _).val _ _ _) (by exact lN 0x34284c20124024124804900904920534184c [_,_] rfl hc))) (w:=W (d-1) V) (lI 825917182536 [_] rfl)) (d7 _ _)).up (mD (show d-1<=d by(exact Nat.sub_le _ _))) (aQ _) (a8 _)) mE (aQ _) (lI 0xd04c04c84124824a24124124814e80534110fa813a314f305320 [_,_,_,_] rfl hV b7 hw1 iQ)
|@twice d Γ f x g a y i b' c ha hb g8 bh bU f9=>
  intro b V hV bu hN hc;have b7:=(ey (d:=d) hV).1;have hw0:=de d hV;have hw1:=nZ hV (show d-1<=d by(exact Nat.sub_le _ _));have r5:=nZ hV (show d-2<=d by(exact Nat.sub_le _ _));have iQ:=de (d-1) hV;have jS:=de (d-2) hV;have fH:b=false->gI (Γ++[⟨x,.o,.val .aA⟩]++[⟨g,.z,.val .aV⟩]++[⟨y,.o,.val .aA⟩]):=λq=>(((hN q).val _ _ _).val _ _ _).val _ _ _;have fin:∀u4 u5,(ub .o b (d-2)=0∨ub .o b (d-2)+1<=u4)->(u4=0∨u4+1<=u5)->u5<=ub .o b d->Er V (W (d+1) V) Γ (ub .o b (d+1)) (30+(d+1)) .o f (.aX x a (.un .hole (.aX g (.un .bE (.name x)) (.un .bE (.aX y (.num i) (.aj .sum b' c)))))) .aA:=λu4 u5 h4 h5 h6=>by
   exact tS ((bh b V hV (λ_=>rfl) hN (by exact lN 0x34284c20124024124804900904920534184c [_,_] rfl hc)).up (mD (b:=b) (show d-1<=d by(exact Nat.sub_le _ _))) (show 30+(d-1)<=30+d by exact lN 0x133e04284cf88049201248 [_] rfl) (a8 _)) ((tR (k:=.aA) (D:=30+d) (xa (x:=g) (gC:=0) (ka:=.aV) (nV (D:=1) (k:=.aA) (a8 _) (tw (lY Γ ⟨x,.o,.val .aA⟩) (aQ _))) (nV (D':=30) (by show(0:Int)<=1+0+(0+W (d-2) V);exact lI 0x41320060860049049205320 [_] rfl jS) (tS (iL:=.aA) (ka:=.aA) (k:=.aA) (x:=y) (w9 (i:=i) (dD _ _)) (CD (o:=.sum) (k':=.aA) ((bU b V hV (λ_=>rfl) fH (eI _)).up (mD (b:=b) (show 0<=d-2 by(exact eI _))) (show 30+0<=30+(d-2) by(exact d7 _ _)) (a8 _)) (f9 b V hV (λ_=>rfl) fH (lN 0x34288c20124024124804900904920534184c [_,_] rfl hc)) h4 (aQ _) (a8 _)) h5 (aQ _) (a8 _))) (a8 _)) (d7 _ _)).up h6 (aQ _) (a8 _)) mE (aQ _) (by show 1+W (d-1) V+(0+(1+0+(W 0 V+W (d-2) V)))<=W (d+1) V;have:W 0 V=0:=rfl;exact lI 0xf04104138d06086004c8412402412482492412412412481508053c1111a8142315130544e14e80680d [_,_,_,_,_,_] rfl hV b7 hw1 r5 jS this)
  by_cases hd:2<=d
  ·have e:d-2+1+1=d:=cj (lN 0x30184184288c201248049009049205322 [_] rfl hd) (lN 0x184184288c308049201241248 [_] rfl);have:=fin (ub .o b (d-2+1)) (ub .o b (d-2+1+1)) mE mE (by(refine e▸?_);exact aQ _);exact this
  ·have e:d-2=0:=cj (lN 0x80288c20124024124804920588184c [_] rfl (Nat.not_le.mp hd)) (lN 0x288c808049049201248 [_] rfl);have e0:ub .o b (d-2)=0:=by(refine e.symm▸?_);(clear fH hc hN;cases b)<;>rfl
   exact fin 0 0 (.inl e0) (.inl rfl) (eI _)
def Mn.pm:Mn->Pm
|.val _=>.v|.fn _ _=>.f
def dm(Γ:Sc):Dm:=λx=>(look Γ x).map λe=>e.m.pm
theorem mI(Γ:Sc)(e:Ent):dm (Γ++[e])=dj (dm Γ) e.x e.m.pm:=funext λy=>by
 unfold dm dj;rw[fS];cases hx:(e.x==y)<;>rfl
theorem um(h:look Γ x=some e):dm Γ x=some e.m.pm:=by unfold dm;rw[h];rfl
theorem HG.pu(h:HG d Γ l f t k):dF true (dm Γ) t:=by
 induction h with
|num=>exact .num
|name h=>exact .name (um h)
|jb h=>exact .un rfl (.name (um h))
|jw h=>exact .un rfl (.name (um h))
|jx=>exact .un rfl .num
|jF=>exact .un rfl .num
|when _ _ _ i1 i2 i3=>exact .when i1 i2 i3
|use h _ i=>exact .use (um h) i
|aX _ _ i1 i2=>rw[mI] at i2;exact .aX i1 i2
|bb h _ _ i1 i2=>rw[mI] at i2;exact .bb h i1 i2
|def_ h _ _ i1 i2=>rw[mI] at i1 i2;exact .def_ i1 i2
|bE _ i=>exact .un rfl i
|hole _ i=>exact .un rfl i
|lift _ i=>exact .un rfl i
|run _ i=>exact .un rfl i
|aj _ _ i1 i2=>exact .aj i1 i2
|@kept d Γ f x g a b _ _ i1 i2=>rw[mI,mI] at i2;exact .aX i1 (.un rfl (.aX (.un rfl (.name (by unfold dj;rw[beq_self_eq_true];rfl))) (.un rfl i2)))
|@twice d Γ f x g a y i b c _ _ _ i1 i2 i3=>rw[mI,mI,mI] at i2 i3;exact .aX i1 (.un rfl (.aX (.un rfl (.name (by unfold dj;rw[beq_self_eq_true];rfl))) (.un rfl (.aX .num (.aj i2 i3)))))
def Fq:Nat->Nat
|0=>2
|d+1=>2*Fq d+6
theorem jG{d d':Nat}(h:d<=d'):Fq d<=Fq d':=by
 induction d' with
|zero=>rw[Nat.le_zero.mp h];exact aQ _
|succ n ih=>
  rcases Nat.lt_or_ge d (n+1) with g|g
  ·have:=ih (by lia);show _<=2*Fq n+6;lia
  ·rw[show d=n+1 by lia];exact aQ _
def FB(Γ:Sc)(φ:Str->Nat)(Φ:Nat):Prop:=∀g e,look Γ g=some e->e.m.pm=.f->φ g<=Φ
theorem FB.val(h:FB Γ φ Φ)(x:Str)(l:Lv)(k:Kd):FB (Γ++[⟨x,l,.val k⟩]) φ Φ:=λg e he hm=>by
 rw[fS] at he;cases hx:(x==g) with
|true=>rw[hx,if_pos rfl] at he;cases he;cases hm
|false=>rw[hx] at he;exact h g e he hm
theorem FB.fn(h:FB Γ φ Φ)(x:Str)(l:Lv)(m:Mn)(n:Nat):FB (Γ++[⟨x,l,m⟩]) (iJ φ x n) (max Φ n):=λg e he hm=>by
 rw[fS] at he;unfold iJ;cases hx:(x==g) with
|true=>rw[if_pos rfl];exact eN _ _
|false=>rw[hx] at he;rw[if_neg (by simp)];exact bP (h g e he hm) (eG _ _)
theorem HG.fr(h:HG d Γ l f t k):∀φ Φ,FB Γ φ Φ->t.fr φ<=Fq d+Φ:=by
 induction h with
|@num d=>intro φ Φ q;have:=jG (eI d);show 1<=_;have e:Fq 0=2:=rfl;lia
|@name d=>intro φ Φ q;have:=jG (eI d);show 1<=_;have e:Fq 0=2:=rfl;lia
|@jb d=>intro φ Φ q;have:=jG (eI d);show 1+1<=_;have e:Fq 0=2:=rfl;lia
|@jw d=>intro φ Φ q;have:=jG (eI d);show 1+1<=_;have e:Fq 0=2:=rfl;lia
|@jx d=>intro φ Φ q;have:=jG (eI d);show 1+1<=_;have e:Fq 0=2:=rfl;lia
|@jF d=>intro φ Φ q;have:=jG (eI d);show 1+1<=_;have e:Fq 0=2:=rfl;lia
|@when d Γ l f a b c k _ _ _ i1 i2 i3=>intro φ Φ q;have h1:=i1 φ Φ q;have h2:=i2 φ Φ q;have h3:=i3 φ Φ q;show 1+max (a.fr φ) (max (b.fr φ) (c.fr φ))<=2*Fq d+6+Φ;lia
|@use d Γ l f g a ka k h _ i=>intro φ Φ q;have h1:=i φ Φ q;have h2:=q g _ h rfl;show 1+max (a.fr φ) (φ g)<=2*Fq d+6+Φ;lia
|@aX d Γ l f x a b k k' _ _ i1 i2=>intro φ Φ q;have h1:=i1 φ Φ q;have h2:=i2 φ Φ (q.val _ _ _);show 1+max (a.fr φ) (b.fr φ)<=2*Fq d+6+Φ;lia
|@bb d Γ l f n x a b k _ _ _ i1 i2=>intro φ Φ q;have h1:=i1 φ Φ q;have h2:=i2 φ Φ (q.val _ _ _);show 1+max (a.fr φ) (b.fr φ)<=2*Fq d+6+Φ;lia
|@def_ d Γ l f g x a b ka k k' _ _ _ i1 i2=>intro φ Φ q;have h1:=i1 φ Φ (q.val _ _ _);have h2:=i2 (iJ φ g (a.fr φ)) _ (q.fn g _ _ (a.fr φ));show 1+b.fr (iJ φ g (a.fr φ))<=2*Fq d+6+Φ;lia
|@bE d Γ f a _ i=>intro φ Φ q;have h1:=i φ Φ q;show 1+a.fr φ<=2*Fq d+6+Φ;lia
|@hole d Γ f a _ i=>intro φ Φ q;have h1:=i φ Φ q;show 1+a.fr φ<=2*Fq d+6+Φ;lia
|@lift d Γ f a _ i=>intro φ Φ q;have h1:=i φ Φ q;show 1+a.fr φ<=2*Fq d+6+Φ;lia
|@run d Γ a _ i=>intro φ Φ q;have h1:=i φ Φ q;show 1+a.fr φ<=2*Fq d+6+Φ;lia
|@aj d Γ l f w a b _ _ i1 i2=>intro φ Φ q;have h1:=i1 φ Φ q;have h2:=i2 φ Φ q;show 1+max (a.fr φ) (b.fr φ)<=2*Fq d+6+Φ;lia
|@kept d Γ f x g a b _ _ i1 i2=>
  intro φ Φ q;have h1:=i1 φ Φ q;have h2:=i2 φ Φ ((q.val _ _ _).val _ _ _);have:=jG (Nat.sub_le d 1);show 1+max (a.fr φ) (1+(1+max (1+1) (1+b.fr φ)))<=2*Fq d+6+Φ;lia
|@twice d Γ f x g a y i b c _ _ _ i1 i2 i3=>
  intro φ Φ q;have h1:=i1 φ Φ q;have q':=((q.val x .o .aA).val g .z .aV).val y .o .aA;have h2:=i2 φ Φ q';have h3:=i3 φ Φ q';have:=jG (Nat.sub_le d 1);have:=jG (Nat.sub_le d 2);have:=jG (eI d);show 1+max (a.fr φ) (1+(1+max (1+1) (1+(1+max 1 (1+max (b.fr φ) (c.fr φ))))))<=2*Fq d+6+Φ;lia
theorem pA(a:Tm)(φ:Str->Nat):1<=a.fr φ:=by cases a<;>first|exact aQ 1|exact d7 1 _
section
variable{ev:Nat->Tm->Nat->H->Res V}{aZ:H->V->Str->Tm->Nat->Prop}{ok:H->Prop}
def HoldsD(ev:Nat->Tm->Nat->H->Res V)(aZ:H->V->Str->Tm->Nat->Prop)(φ:Str->Nat)(σ:H)(es:List (Str×V))(ρ:Str->Dv)(x:Str):Pm->Prop
|.v=>∃i,ρ x=.num i/\cS es x=some (.int i)/\dg i
|.f=>∃F cv p body d' es',ρ x=.fn F/\cS es x=some cv/\aZ σ cv p body d'/\σ[d']?=some (.ay es')/\es'.length<=aM/\(∀i,dg i->dg (F i))/\∀τ i,dg i->eh ev (2*φ x) body (σ++τ).length (σ++τ++[.ay (bc es' p (.int i))]) (.int (F i))
def gX(ev:Nat->Tm->Nat->H->Res V)(aZ:H->V->Str->Tm->Nat->Prop)(φ:Str->Nat)(Δ:Dm)(σ:H)(es:List (Str×V))(ρ:Str->Dv):Prop:=∀x m,Δ x=some m->HoldsD ev aZ φ σ es ρ x m
variable(K:rO ev aZ ok)
include K
theorem gX.grow(h:gX ev aZ φ Δ σ es ρ):gX ev aZ φ Δ (σ++τ) es ρ:=λx m he=>by
 have:=h x m he;clear he;cases m with
|v=>exact this
|f=>
  refine xh (this) λF cv p body d' es' h1 h2 h3 h4 h5 h6 h7=>?_;refine⟨F,cv,p,body,d',es',h1,h2,K.pZ h3,old h4,h5,h6,λfQ i hi=>?_⟩;rw[List.append_assoc];exact h7 (τ++fQ) i hi
omit K in
theorem gX.put(h:gX ev aZ φ Δ σ es ρ)(Rz:∀x,(y==x)=false->FG x=φ x)(hv:HoldsD ev aZ FG σ (bc es y v) (upd ρ y dv) y m):gX ev aZ FG (dj Δ y m) σ (bc es y v) (upd ρ y dv):=λx m' he=>by
 unfold dj at he;cases hx:(y==x) with
|true=>
  replace he:=(if_pos rfl)▸(hx▸he);(apply eJ he)
  (refine(beq_iff_eq.mp hx)▸?_);exact hv
|false=>
  replace he:=hx▸he;have:=h x m' he;have g1:cS (bc es y v) x=cS es x:=by rw[ml,hx];rfl
  have g2:upd ρ y dv x=ρ x:=by unfold upd;(refine hx▸?_);rfl
  clear he;cases m' with
  |v=>obtain⟨i,h1,h2,h3⟩:=this;exact⟨i,g2.trans h1,g1.trans h2,h3⟩
  |f=>obtain⟨F,cv,p,body,d',es',h1,h2,h3,h4,h5,h6,h7⟩:=this;exact⟨F,cv,p,body,d',es',g2.trans h1,g1.trans h2,h3,h4,h5,h6,by(refine(Rz x hx)▸?_);exact h7⟩
omit K in
theorem gX.num(h:gX ev aZ φ Δ σ es ρ)(hi:dg i):gX ev aZ φ (dj Δ x .v) σ (bc es x (.int i)) (upd ρ x (.num i)):=
 gX.put h (λ_ _=>rfl) ⟨i,by unfold upd;rw[beq_self_eq_true];rfl,by rw[ml,beq_self_eq_true];rfl,hi⟩
theorem tT(h:dF q Δ t)(hU:q=true->∀{σ d N w x v},ok σ->eh ev N x d σ v->eh ev (N+2) (.un w x) d σ v):∀(φ:Str->Nat)(σ:H)(d:Nat)(es:List (Str×V))(ρ:Str->Dv),ok σ->σ[d]?=some (.ay es)->es.length+t.depth<=aM->gX ev aZ φ Δ σ es ρ->dg (t.den ρ)/\eh ev (2*t.fr φ) t d σ (.int (t.den ρ)):=by
 induction h with
|num=>exact λφ σ d es ρ ho hd hl he=>⟨⟨Int.fmod_nonneg_of_pos _ (by decide),Int.fmod_lt_of_pos _ (by decide)⟩,K.num.more (by simp only[lB,lC,kx,lD,lE,lF,lG,lH,lJ];(exact dD _ _))⟩
|@name Δ x hx=>
  intro φ σ d es ρ ho hd hl he;refine b8 (he x _ hx) λi h1 h2 h3=>?_;have e:(Tm.name x).den ρ=i:=by simp only[EA,EB,EC,ED,EE,EF,EG,EH,EJ,h1]
  refine e▸?_;exact⟨h3,(K.name hd h2).more (by simp only[lB,lC,kx,lD,lE,lF,lG,lH,lJ];(exact dD _ _))⟩
|@un Δ w a hq ha ih=>
  intro φ σ d es ρ ho hd hl he;have d0:(Tm.un w a).depth=1+a.depth:=rfl;refine a5 (ih φ σ d es ρ ho hd (zz (aQ _) ‹_›) he) λr1 e1=>?_;exact⟨r1,(hU hq ho e1).more (by simp only[kx];lia)⟩
|@use Δ g a hg ha ih=>
  intro φ σ d es ρ ho hd hl he;refine xh (he g _ hg) λF cv p body d' es' h1 h2 h3 h4 h5 h6 h7=>?_;have e:(Tm.use g a).den ρ=F (a.den ρ):=by simp only[EA,EB,EC,ED,EE,EF,EG,EH,EJ,h1]
  have d0:(Tm.use g a).depth=1+a.depth:=rfl;refine a5 (ih φ σ d es ρ ho hd (zz (aQ _) ‹_›) he) λr1 e1=>?_;refine e▸?_;have:=pA a φ;exact⟨h6 _ r1,(K.use ho (lN 0x10334c8a1201240242248049089089205321 [_,_] rfl this) hd h2 h3 h4 h5 (e1.more (lN 0x40cd32210c888049201242248 [_,_] rfl)) (λτ=>(h7 τ _ r1).more (lN 0x40cc36210c888049089201248 [_,_] rfl))).more (by simp only[lB,lC,kx,lD,lE,lF,lG,lH,lJ];exact lN 0x404334c86206210334c888208049201242248049089201248 [_,_] rfl)⟩
|@aj Δ w a b ha hb bh bU=>
  intro φ σ d es ρ ho hd hl he;have d0:(Tm.aj w a b).depth=1+max a.depth b.depth:=rfl;obtain⟨r1,e1⟩:=bh φ σ d es ρ ho hd (zz mL ‹_›) he;have h2:=λτ=>bU φ (σ++τ) d es ρ (K.add ho) (old hd) (zz mR ‹_›) (he.grow K);have:=pA a φ;exact⟨wb _ _ _,(K.aj ho (lN 0x10334c8a1201240242248049089089205321 [_,_] rfl this) (e1.more (lN 0x40cd32210c888049201242248 [_,_] rfl)) (λτ=>(h2 τ).2.more (lN 0x40cc36210c888049089201248 [_,_] rfl)) (AL r1)).more (by simp only[lB,lC,kx,lD,lE,lF,lG,lH,lJ];exact lN 0x404334c86206210334c888208049201242248049089201248 [_,_] rfl)⟩
|@when Δ a b c ha hb hc bh bU f9=>
  intro φ σ d es ρ ho hd hl he;have d0:(Tm.when a b c).depth=1+max a.depth (max b.depth c.depth):=rfl;refine a5 (bh φ σ d es ρ ho hd (zz mL ‹_›) he) λr1 e1=>?_;have h2:=λτ=>bU φ (σ++τ) d es ρ (K.add ho) (old hd) (zz mM ‹_›) (he.grow K);have h3:=λτ=>f9 φ (σ++τ) d es ρ (K.add ho) (old hd) (zz mC ‹_›) (he.grow K);have hr:=pA a φ;have hd':(Tm.when a b c).den ρ=if a.den ρ=0 then c.den ρ else b.den ρ:=rfl
  refine hd'▸?_
  by_cases hz:a.den ρ=0
  ·refine(if_pos hz)▸?_;exact⟨(h3 []).1,(K.when (N:=2*max (a.fr φ) (max (b.fr φ) (c.fr φ))) ho (by exact lN 0x1030ce34c8a1208201240240242248049089009089201240240242248049089009089205321 [_,_,_] rfl hr) (e1.more (by exact lN 0x40c338d32210c888208049201242248049201242248 [_,_,_] rfl)) (λτ=>by(refine(if_pos hz)▸?_);exact(h3 τ).2.more (by exact lN 0x40c330e36210c888208049089089201240242248049089201248 [_,_,_] rfl))).more (by simp only[lB,lC,kx,lD,lE,lF,lG,lH,lJ];exact lN 0x40430ce34c8620621030ce34c888208208208208208208208049201242248049201242248049089201248049089089201240242248049201242248049201242248049089089201240242248049089201248 [_,_,_] rfl)⟩
  ·refine(if_neg hz)▸?_;exact⟨(h2 []).1,(K.when (N:=2*max (a.fr φ) (max (b.fr φ) (c.fr φ))) ho (by exact lN 0x1030ce34c8a1208201240240242248049089009089201240240242248049089009089205321 [_,_,_] rfl hr) (e1.more (by exact lN 0x40c338d32210c888208049201242248049201242248 [_,_,_] rfl)) (λτ=>by(refine(if_neg hz)▸?_);exact(h2 τ).2.more (by exact lN 0x40c338c36210c888208049089201248049089089201240242248 [_,_,_] rfl))).more (by simp only[lB,lC,kx,lD,lE,lF,lG,lH,lJ];exact lN 0x40430ce34c8620621030ce34c888208208208208208208208049201242248049201242248049089201248049089089201240242248049201242248049201242248049089089201240242248049089201248 [_,_,_] rfl)⟩
|@aX Δ x a b ha hb bh bU=>
  intro φ σ d es ρ ho hd hl he;have d0:(Tm.aX x a b).depth=1+max a.depth b.depth:=rfl;obtain⟨r1,e1⟩:=bh φ σ d es ρ ho hd (zz mL ‹_›) he;have hlen:=gM es x (.int (a.den ρ));have h2:=λτ=>bU φ (σ++τ++[.ay (bc es x (.int (a.den ρ)))]) (σ++τ).length _ _ (K.add (K.add ho)) bC (lN 0x38134c20124124124024124124804904904900900904920538140f1810cd4614050613cc [_,_,_,_,_,_] rfl hl d0 hlen) (gX.num ((he.grow K).grow K) r1);have:=pA a φ;exact⟨(h2 []).1,(K.aX ho (lN 0x10334c8a1201240242248049089089205321 [_,_] rfl this) hd (ip ‹_›) (e1.more (lN 0x40cd32210c888049201242248 [_,_] rfl)) (λτ=>(h2 τ).2.more (lN 0x40cc36210c888049089201248 [_,_] rfl))).more (by simp only[lB,lC,kx,lD,lE,lF,lG,lH,lJ];exact lN 0x404334c86206210334c888208049201242248049089201248 [_,_] rfl)⟩
|@bb Δ n x a b hn ha hb bh bU=>
  intro φ σ d es ρ ho hd hl he;have d0:(Tm.bb n x a b).depth=1+max a.depth b.depth:=rfl;refine a5 (bh φ σ d es ρ ho hd (zz mL ‹_›) he) λr1 e1=>?_;have h2:=λτ i (hi:dg i)=>bU φ (σ++τ++[.ay (bc es x (.int i))]) (σ++τ).length _ _ (K.add (K.add ho)) bC (by have hlen:=gM es x (.int i);exact lN 0x38134c20124124124024124124804904904900900904920538140f1810cd4614050613cc [_,_,_,_,_,_] rfl hl d0 hlen) (gX.num ((he.grow K).grow K) hi);have hf:∀i,dg i->dg (b.den (upd ρ x (.num i))):=λi hi=>(h2 [] i hi).1;have:=pA a φ;exact⟨o9 hf _ _ r1,(K.bb ho (lN 0x10334c8a1201240242248049089089205321 [_,_] rfl this) hd (ip ‹_›) hn hf r1 (e1.more (lN 0x40cd32210c888049201242248 [_,_] rfl)) (λτ i hi=>(h2 τ i hi).2.more (lN 0x40cc36210c888049089201248 [_,_] rfl))).more (by simp only[lB,lC,kx,lD,lE,lF,lG,lH,lJ];exact lN 0x404334c86206210334c888208049201242248049089201248 [_,_] rfl)⟩
|@def_ Δ g x kd a b ha hb bh bU=>
  intro φ σ d es ρ ho hd hl he;have d0:(Tm.def_ g x kd a b).depth=1+max a.depth b.depth:=rfl;have hbody:=λτ i (hi:dg i)=>bh φ (σ++τ++[.ay (bc es x (.int i))]) (σ++τ).length _ _ (K.add (K.add ho)) bC (by have hlen:=gM es x (.int i);exact lN 0x38134c20124124124024024124804904904900904904920538140f1810d13614050613cc [_,_,_,_,_,_] rfl hl d0 hlen) (gX.num ((he.grow K).grow K) hi);have hF:∀i,dg i->dg (a.den (upd ρ x (.num i))):=λi hi=>(hbody [] i hi).1;have h2:=λτ cv (hc:aZ (σ++τ) cv x a d)=>bU (iJ φ g (a.fr φ)) (σ++τ++[.ay (bc es g cv)]) (σ++τ).length (bc es g cv) (upd ρ g (.fn λi=>a.den (upd ρ x (.num i)))) (K.add (K.add ho)) bC (by have hlen:=gM es g cv;exact lN 0x38134c20124124124024124124804904904900900904920538140f1810cd4614050613cc [_,_,_,_,_,_] rfl hl d0 hlen)
   (gX.put ((he.grow K).grow K) (λy hy=>by unfold iJ;(refine hy▸?_);rfl) ⟨_,cv,x,a,d,es,by unfold upd;rw[beq_self_eq_true];rfl,by rw[ml,beq_self_eq_true];rfl,K.pZ hc,old (old hd),by(exact ip ‹_›),hF,λfQ i hi=>by
    have:=(hbody (τ++([.ay (bc es g cv)]++fQ)) i hi).2;rw[←List.append_assoc,←List.append_assoc] at this;have e:iJ φ g (a.fr φ) g=a.fr φ:=by unfold iJ;rw[beq_self_eq_true];rfl
    refine e.symm▸?_
    exact this⟩)
  refine gm (K.new σ x a d) λoP c0 hc0=>?_;have:=pA b (iJ φ g (a.fr φ));exact⟨(h2 oP c0 hc0).1,(K.def_ ho (lN 0x10c8a1049089205321 [_] rfl this) hd (ip ‹_›) (λτ cv hc=>(h2 τ cv hc).2)).more (by simp only[lB,lC,kx,lD,lE,lF,lG,lH,lJ];exact lN 0x404c86206210c881248 [_] rfl)⟩
end
structure lL(P:Prog):Prop where
 yZ:P.fns 10=some vp
 FH:P.fns 40=some vj
 FJ:P.fns 56=some zm
 FK:P.fns 57=some AF
 FL:P.fns 58=some vt
 FO:P.fns 59=some lW
 r6:P.fns 60=some zi
 FP:P.fns 61=some vv
section
variable{P:Prog}{sc:List Int}(B:lL P)
include B
theorem kF{n b:Nat}{es:List (Str×V)}{x:Str}{v:V}{σ:H}(hb:σ[b]?=some (.ay es))(hl:es.length<=aM):
  aq P sc (n+1) 59 [.ref b,.str x,v] σ=.ok (.ref σ.length) (σ++[.ay (bc es x v)]):=by rw[cf B.FO rfl];refine(congrArg bS ((a4 (wZ (aD rfl) (wq hb hl))).trans ((dt (jo (aD rfl) (aD rfl) (aD rfl) (wo bC hl))).trans (bf (aD rfl))))).trans ?_;rw[tn];rfl
def Qk:SL:=match vt.body with
|.cons _ r=>r
|_=>.nil
theorem iy{n d:Nat}{t:Tm}{w:Str}{σ ag:H}{v st:V}{L':aR}(hw:∀C L,ao C (.au (.aa 0) (.int 0)) (some t.af::L) σ=.ok (.str w) σ)(h:a6 (cx P sc n) Qk [some t.af,some (.ref d),some st,some (.str w),none,none,none,none] σ=.ok (.ret v) L' ag):aq P sc (n+1) 58 [t.af,.ref d,st] σ=.ok v ag:=by rw[cf B.FL rfl];exact(congrArg bS ((a4 (hw _ _)).trans h)).trans rfl
theorem DF{n d:Nat}{i:Int}{st:V}(σ:H):aq P sc (n+1) 58 [(Tm.num i).af,.ref d,st] σ=.ok (.int (i.fmod 1000003)) σ:=
 iy B (λ_ _=>rfl) (bT (by rfl') (bf (bJ rfl rfl rfl)))
theorem CG{n d:Nat}{es:List (Str×V)}{x:Str}{v st:V}{σ:H}(hd:σ[d]?=some (.ay es))(hv:cS es x=some v):aq P sc (n+1) 58 [(Tm.name x).af,.ref d,st] σ=.ok v σ:=
 iy B (λ_ _=>rfl) (jmp 1 (by rfl') (bT (by rfl') (bf (b9 (aD rfl) rfl (hZ hd hv)))))
theorem Nw{n d:Nat}{p:Tm}{i:Int}{st:V}{σ ae:H}(e1:aq P sc n 58 [p.af,.ref d,st] σ=.ok (.int i) ae):aq P sc (n+1) 58 [(Tm.un .lift p).af,.ref d,st] σ=.ok (Tm.num i).af ae:=
 iy B (λ_ _=>rfl) (jmp 3 (by rfl') (bT (by rfl') (bf (bN (aw rfl (aw (aJ rfl e1) aU)) (nb rfl)))))
theorem DG{n d:Nat}{u:U2}{x y:Tm}{i j:Int}{st:V}{σ ae ak:H}(e1:aq P sc n 58 [x.af,.ref d,st] σ=.ok (.int i) ae)(e2:aq P sc n 58 [y.af,.ref d,st] ae=.ok (.int j) ak)(hi:small i=true):
  ∃τ,aq P sc (n+1) 58 [(Tm.aj u x y).af,.ref d,st] σ=.ok (.int (fD u i j)) (ak++τ):=by
 have two:∀L:aR,cm L 4=some (.int i)->cm L 5=some (.int j)->ao (cx P sc n) (.ah {.aj .Add (.aa 4) (.aa 5),.aj .Mult (.aa 4) (.aa 5)}) L ak=.ok (.ref ak.length) (ak++[.ah [.int (i+j),.int (i*j)]]):=λL h3 h4=>
  dH (aw (bJ (aD h3) (aD h4) rfl) (aw (bJ (aD h3) (aD h4) (wD hi ak)) aU)) (nb rfl)
 cases u with
|less=>
  refine⟨[],?_⟩;rw[List.append_nil];have hr:V.int (if decide (i<j)=true then 1 else 0)=V.int (fD .less i j):=by
   show _=V.int (if i<j then 1 else 0)
   by_cases h:i<j<;>simp[h]
  rw[←hr];exact iy B (λ_ _=>rfl) (jmp 7 (by rfl') ((a4 (aJ rfl e1)).trans ((a4 (aJ rfl e2)).trans (bT (by rfl') (bf (kL (kh (aD rfl) (aD rfl) (xC i j ak)) rfl))))))
|sum=>
  refine⟨[.ah [.int (i+j),.int (i*j)]],?_⟩;exact iy B (λ_ _=>rfl) (jmp 7 (by rfl') ((a4 (aJ rfl e1)).trans ((a4 (aJ rfl e2)).trans ((bY (by rfl')).trans (bf (bJ (b9 (two _ rfl rfl) (by rfl') (da bC rfl (by decide) (by decide))) rfl rfl))))))
|product=>
  refine⟨[.ah [.int (i+j),.int (i*j)]],?_⟩;exact iy B (λ_ _=>rfl) (jmp 7 (by rfl') ((a4 (aJ rfl e1)).trans ((a4 (aJ rfl e2)).trans ((bY (by rfl')).trans (bf (bJ (b9 (two _ rfl rfl) (by rfl') (da bC rfl (by decide) (by decide))) rfl rfl))))))
theorem CH{n d:Nat}{x y z:Tm}{i:Int}{v st:V}{σ ae ak:H}(e1:aq P sc n 58 [x.af,.ref d,st] σ=.ok (.int i) ae)(e2:aq P sc n 58 [(if i=0 then z else y).af,.ref d,st] ae=.ok v ak):aq P sc (n+1) 58 [(Tm.when x y z).af,.ref d,st] σ=.ok v ak:=by
 have hi:∀L,L=[some (Tm.when x y z).af,some (.ref d),some st,some (.str "when"),none,none,none,none]->ao (cx P sc n) (.au (.aa 0) (.aj .Add (.int 2) (.toInt (.cmp .Eq (.call 58 {.au (.aa 0) (.int 1),.aa 1,.aa 2}) (.int 0))))) L σ=.ok (if i=0 then z else y).af ae:=λL hL=>by
  subst hL;have hc:=kh (C:=cx P sc n) (L:=[some (Tm.when x y z).af,some (.ref d),some st,some (.str "when"),none,none,none,none]) (b:=.int 0) (aJ (aw (a:=.au (.aa 0) (.int 1)) rfl (aN (i:=1) rfl (aN (i:=2) rfl aU))) e1) rfl (tM i 0 ae)
  by_cases h:i=0
  ·rw[if_pos h];rw[h] at hc;exact b9 (aD rfl) (bJ rfl (kL hc rfl) rfl) rfl
  ·rw[if_neg h];rw[beq_eq_false_iff_ne.mpr h] at hc;exact b9 (aD rfl) (bJ rfl (kL hc rfl) rfl) rfl
 exact iy B (λ_ _=>rfl) (jmp 5 (by rfl') (bT (by rfl') (bf (aJ (aw (hi _ rfl) rfl) e2))))
theorem ta{n d:Nat}{t:Tm}{w:Str}{σ ag:H}{v st:V}(hw:∀C L,ao C (.au (.aa 0) (.int 0)) (some t.af::L) σ=.ok (.str w) σ)(hs:w="let"∨w="turns"∨w="def"∨w="use")(h:aq P sc n 60 [t.af,.ref d,st] σ=.ok v ag):aq P sc (n+1) 58 [t.af,.ref d,st] σ=.ok v ag:=by
 refine iy B (L':=[some t.af,some (.ref d),some st,some (.str w),none,none,none,none]) hw ?_;have hr:a6 (cx P sc n) {.ret (.call 60 {.aa 0,.aa 1,.aa 2})} [some t.af,some (.ref d),some st,some (.str w),none,none,none,none] σ=.ok (.ret v) [some t.af,some (.ref d),some st,some (.str w),none,none,none,none] ag:=
  bf (aJ rfl h)
 rcases hs with rfl|rfl|rfl|rfl<;>exact jmp 6 (by rfl') (bT (by rfl') hr)
theorem DH{n d:Nat}{x:Str}{p q:Tm}{u v st:V}{es:List (Str×V)}{σ ae ak:H}(e1:aq P sc (n+1) 58 [p.af,.ref d,st] σ=.ok u ae)(hd:ae[d]?=some (.ay es))(hl:es.length<=aM)(e2:aq P sc (n+1) 58 [q.af,.ref ae.length,st] (ae++[.ay (bc es x u)])=.ok v ak):aq P sc (n+3) 58 [(Tm.aX x p q).af,.ref d,st] σ=.ok v ak:=by refine ta B (λ_ _=>rfl) (.inl rfl) ?_;rw[cf B.r6 rfl];exact(congrArg bS (bT (by rfl') ((a4 (aJ rfl e1)).trans (bf (aJ (aw rfl (aw (aJ (aN rfl (aw rfl rfl)) (kF B hd hl)) rfl)) e2))))).trans rfl
def Nx:SL:=.cons (.aL 5 (.call 58 {.au (.aa 0) (.int 4),.call 59 {.aa 1,.au (.aa 0) (.int 2),.aa 5},.aa 2})) .nil
theorem HM{n d:Nat}{k:Int}{x:Str}{p q:Tm}{st:V}(I:Nat->V->H->Prop)(hI:∀j v ag,j<k.toNat->I j v ag->∃es,ag[d]?=some (.ay es)/\es.length<=aM/\∃v' cp,aq P sc (n+1) 58 [q.af,.ref ag.length,st] (ag++[.ay (bc es x v)])=.ok v' cp/\I (j+1) v' cp):
  ∀(r j:Nat)(v:V)(y:Option V)(σ:H),j+r=k.toNat->I j v σ->∃v' y' ag,eB (λk'=>M.pure ((dG k)[k']?.map λv=>[(6,v)])) (a6 (cx P sc (n+1)) Nx) (r+1) j [some (Tm.bb k x p q).af,some (.ref d),some st,none,none,some v,y] σ=
   .ok .next [some (Tm.bb k x p q).af,some (.ref d),some st,none,none,some v',y'] ag/\I k.toNat v' ag:=by
 intro r
 induction r with
|zero=>
  intro j v y σ hj h;have:j=k.toNat:=by assumption
  clear hj;subst this;exact⟨v,y,σ,sU (by rw[vR];rfl),h⟩
|succ r ih=>
  intro j v y σ hj h;refine bB λXx aI=>?_;obtain⟨es,hd,hl,v',cp,e,h'⟩:=hI j v σ (lN 0x34184c04900904920634106138c [_,_,_] rfl hj) h;refine fV (ih (j+1) v' (some (.int j)) cp (cj (lN 0x38134184c04900904920638106134c [_,_,_] rfl hj) (lN 0x4e06134c04904920630106138d [_,_,_] rfl hj)) h') λv2 y2 ak e2 h2=>?_;refine aI ?_;refine⟨v2,y2,ak,?_,h2⟩;refine(qB (ps:=[(6,.int j)]) (ae:=σ) (by rw[qK (by exact lN 0x34184c04900904920634106138c [_,_,_] rfl hj)];rfl) rfl ((a4 (aJ (aw rfl (aw (aJ (aN rfl (aw (x:=.str x) rfl (by rfl))) (kF B hd hl)) (by rfl))) e)).trans fq)).trans e2
theorem BR{n d:Nat}{k:Int}{x:Str}{p q:Tm}{u st:V}{σ ae:H}(hk:0<=k/\k<=1000000)(e1:aq P sc (n+1) 58 [p.af,.ref d,st] σ=.ok u ae)(I:Nat->V->H->Prop)(h0:I 0 u ae)(hI:∀j v ag,j<k.toNat->I j v ag->∃es,ag[d]?=some (.ay es)/\es.length<=aM/\∃v' cp,aq P sc (n+1) 58 [q.af,.ref ag.length,st] (ag++[.ay (bc es x v)])=.ok v' cp/\I (j+1) v' cp):
  ∃v ak,aq P sc (n+3) 58 [(Tm.bb k x p q).af,.ref d,st] σ=.ok v ak/\I k.toNat v ak:=by refine fV (HM (sc:=sc) B (n:=n) (k:=k) (x:=x) (p:=p) (q:=q) I hI k.toNat 0 u none ae (by exact cj (lN 825917182536 [_] rfl) (lN 82144399944 [_] rfl)) h0) λv y ak e2 h2=>?_;refine⟨v,ak,ta B (λ_ _=>rfl) (.inr (.inl rfl)) ?_,h2⟩;rw[cf B.r6 rfl];exact(congrArg bS (jmp 1 (by rfl') (bT (by rfl') ((a4 (aJ rfl e1)).trans ((dt (sW rfl hk e2)).trans (bf (aD rfl))))))).trans rfl
theorem DI{n d:Nat}{g x kd:Str}{p q:Tm}{v st:V}{es:List (Str×V)}{σ ak:H}(hd:σ[d]?=some (.ay es))(hl:es.length<=aM)(e2:aq P sc (n+1) 58 [q.af,.ref (σ.length+1),st] (σ++[.ah [.str x,p.af,.ref d]]++[.ay (bc es g (.ref σ.length))])=.ok v ak):aq P sc (n+3) 58 [(Tm.def_ g x kd p q).af,.ref d,st] σ=.ok v ak:=by refine ta B (w:="def") (λ_ _=>rfl) (.inr (.inr (.inl rfl))) ?_;rw[cf B.r6 rfl];have hw:=kF (sc:=sc) B (n:=n) (x:=g) (v:=.ref σ.length) (old (τ:=[.ah [.str x,p.af,.ref d]]) hd) hl;rw[List.length_append,List.length_singleton] at hw;exact(congrArg bS (jmp 2 (by rfl') (bT (by rfl') ((a4 (dH (aw rfl (aw rfl rfl)) (nb rfl))).trans (bf (aJ (aw rfl (aw (aJ (aN rfl (aw rfl rfl)) hw) rfl)) e2)))))).trans rfl
theorem DJ{n d d' lc:Nat}{g x:Str}{p body:Tm}{u v st:V}{es es':List (Str×V)}{σ ae ak:H}(hd:σ[d]?=some (.ay es))(hg:cS es g=some (.ref lc))(e1:aq P sc (n+1) 58 [p.af,.ref d,st] σ=.ok u ae)(hc1:ae[lc]?=some (.ah [.str x,body.af,.ref d']))(hd':ae[d']?=some (.ay es'))(hl:es'.length<=aM)(e2:aq P sc (n+1) 58 [body.af,.ref ae.length,st] (ae++[.ay (bc es' x u)])=.ok v ak):aq P sc (n+3) 58 [(Tm.use g p).af,.ref d,st] σ=.ok v ak:=by refine ta B (λ_ _=>rfl) (.inr (.inr (.inr rfl))) ?_;rw[cf B.r6 rfl];exact(congrArg bS (jmp 3 (by rfl') ((a4 (b9 (aD rfl) rfl (hZ hd hg))).trans ((a4 (aJ rfl e1)).trans (bf (aJ (aw (b9 (aD rfl) rfl (da hc1 rfl (by decide) (by decide))) (aw (aJ (aw (b9 (aD rfl) rfl (da hc1 rfl (by decide) (by decide))) (aw (b9 (aD rfl) rfl (da hc1 rfl (by decide) (by decide))) rfl)) (kF B hd' hl)) rfl)) e2)))))).trans rfl
end
theorem text_len{i:Int}(h0:0<=i)(h1:i<10^10):(Str.ofString "v").length+(gh i).length<=aM:=by
 refine bZ (Int.eq_ofNat_of_zero_le h0) λn bg=>?_;subst bg;have hn:n<10^10:=Int.ofNat_lt.mp (Int.lt_of_lt_of_le h1 (by decide));have h2:n.repr.length<=10:=(Nat.length_repr_le_iff (by decide)).mpr hn;have e:(gh (n:Int)).length=n.repr.length:=by
  show(Str.ofString n.repr).length=_;rw[Str.ofString_eq_toList];show(n.repr.toList.map Char.toNat).length=_;rw[List.length_map,String.length_toList]
 have e2:(Str.ofString "v").length=1:=by decide+kernel
 have:aM=1000000:=rfl;exact lN 0xe04d30124124024024124024124124816a3c63cd1a1306007247d078ce [_,_,_,_] rfl h2 e e2 this
def dT(s:Sg):O:=.ah [.int s.k,.bool s.fl,.int s.c]
section
variable{P:Prog}{sc:List Int}(B:lL P)
include B
theorem sK{n st:Nat}{s:Sg}{σ:H}(hst:σ[st]?=some (dT s))(h0:0<=s.k)(h1:s.k+1<10^10):aq P sc (n+1) 57 [.ref st] σ=.ok (.str (vn (s.k+1))) (σ.set st (dT s.new)):=by
 rw[cf B.FK rfl];have hs:qW (.int (s.k+1)) (σ.set st (dT s.new))=.ok (.str (gh (s.k+1))) (σ.set st (dT s.new)):=by
  show(if 0<=s.k+1/\s.k+1<10^10 then _ else _:M V) _=_;rw[if_pos ⟨by exact lI 0x61320049049205320 [_] rfl h0,by exact lI 0x7407f87087507a4184184c049049205007407f87087507a4184184c [_] rfl h1⟩];rfl
 have ha:binop .Add (.str "v") (.str (gh (s.k+1))) (σ.set st (dT s.new))=.ok (.str (vn (s.k+1))) (σ.set st (dT s.new)):=by
  show(if(Str.ofString "v").length+(gh (s.k+1)).length<=aM then _ else _:M V) _=_;rw[if_pos (text_len (by exact lI 0x61320049049205320 [_] rfl h0) h1)];rfl
 exact(congrArg bS ((dt (jo (bJ (b9 (aD rfl) rfl (da hst rfl (by decide) (by decide))) rfl rfl) (aD rfl) rfl (mz hst ⟨by decide,(by decide:(0:Int)<3),nb rfl⟩))).trans (bf (bJ rfl (by rw[AS,aW (b9 (aD rfl) rfl (da (gi hst) rfl (by decide) (by decide)))];exact hs) ha)))).trans rfl
def OX:SL:=match vv.body with
|.cons _ r=>r
|_=>.nil
theorem kJ{n d:Nat}{t:Tm}{w:Str}{σ ag:H}{v st:V}{L':aR}(hw:∀C L,ao C (.au (.aa 0) (.int 0)) (some t.af::L) σ=.ok (.str w) σ)(h:a6 (cx P sc n) OX [some t.af,some (.ref d),some st,some (.str w),none,none,none,none,none,none] σ=.ok (.ret v) L' ag):aq P sc (n+1) 61 [t.af,.ref d,st] σ=.ok v ag:=by rw[cf B.FP rfl];exact(congrArg bS ((a4 (hw _ _)).trans h)).trans rfl
theorem OY{n d:Nat}{i:Int}{st:V}(σ:H):aq P sc (n+1) 61 [(Tm.num i).af,.ref d,st] σ=.ok (Tm.num i).af σ:=
 kJ B (λ_ _=>rfl) (bT (by rfl') (bf (aD rfl)))
theorem Ny{n d:Nat}{es:List (Str×V)}{x y:Str}{st:V}{σ:H}(hd:σ[d]?=some (.ay es))(hv:cS es x=some (.str y)):aq P sc (n+1) 61 [(Tm.name x).af,.ref d,st] σ=.ok (Tm.name y).af σ:=
 kJ B (λ_ _=>rfl) (jmp 1 (by rfl') (bT (by rfl') (bf (bN (aw rfl (aw (b9 (aD rfl) rfl (hZ hd hv)) aU)) (nb rfl)))))
theorem Nz{n d:Nat}{p:Tm}{v st:V}{σ ae:H}(e1:aq P sc n 58 [p.af,.ref d,st] σ=.ok v ae):aq P sc (n+1) 61 [(Tm.un .hole p).af,.ref d,st] σ=.ok v ae:=
 kJ B (λ_ _=>rfl) (jmp 2 (by rfl') (bT (by rfl') (bf (aJ rfl e1))))
theorem OZ{n d:Nat}{es:List (Str×V)}{g y:Str}{p R:Tm}{st:V}{σ ae:H}(hd:σ[d]?=some (.ay es))(hv:cS es g=some (.str y))(e1:aq P sc n 61 [p.af,.ref d,st] σ=.ok R.af ae):aq P sc (n+1) 61 [(Tm.use g p).af,.ref d,st] σ=.ok (Tm.use y R).af ae:=
 kJ B (λ_ _=>rfl) (jmp 3 (by rfl') (bT (by rfl') (bf (bN (aw rfl (aw (b9 (aD rfl) rfl (hZ hd hv)) (aw (aJ rfl e1) aU))) (nb rfl)))))
theorem O0{n d:Nat}{x y:Str}{p q R T:Tm}{st:V}{es:List (Str×V)}{σ cb ae ak:H}(e0:aq P sc (n+1) 57 [st] σ=.ok (.str y) cb)(e1:aq P sc (n+1) 61 [p.af,.ref d,st] cb=.ok R.af ae)(hd:ae[d]?=some (.ay es))(hl:es.length<=aM)(e2:aq P sc (n+1) 61 [q.af,.ref ae.length,st] (ae++[.ay (bc es x (.str y))])=.ok T.af ak):aq P sc (n+2) 61 [(Tm.aX x p q).af,.ref d,st] σ=.ok (Tm.aX y R T).af ak:=
 kJ B (w:="let") (λ_ _=>rfl) (jmp 4 (by rfl') (bT (ae:=σ) (by rfl') ((a4 (aJ (by rfl) e0)).trans ((a4 (v:=.int 1) (ae:=cb) rfl).trans ((a4 (aJ rfl e1)).trans ((a4 (aJ (aw rfl (aw (aJ (aN rfl (aw rfl rfl)) (kF B hd hl)) rfl)) e2)).trans (bf (bJ rfl (bN rfl (nb rfl)) rfl))))))))
theorem LC{k:Int}{n d:Nat}{x y:Str}{p q R T:Tm}{st:V}{es:List (Str×V)}{σ cb ae ak:H}(e0:aq P sc (n+1) 57 [st] σ=.ok (.str y) cb)(e1:aq P sc (n+1) 61 [p.af,.ref d,st] cb=.ok R.af ae)(hd:ae[d]?=some (.ay es))(hl:es.length<=aM)(e2:aq P sc (n+1) 61 [q.af,.ref ae.length,st] (ae++[.ay (bc es x (.str y))])=.ok T.af ak):aq P sc (n+2) 61 [(Tm.bb k x p q).af,.ref d,st] σ=.ok (Tm.bb k y R T).af ak:=
 kJ B (w:="turns") (λ_ _=>rfl) (jmp 4 (by rfl') (bT (ae:=σ) (by rfl') ((a4 (aJ (by rfl) e0)).trans ((a4 (v:=.int 2) (ae:=cb) rfl).trans ((a4 (aJ rfl e1)).trans ((a4 (aJ (aw rfl (aw (aJ (aN rfl (aw rfl rfl)) (kF B hd hl)) rfl)) e2)).trans (bf (bJ rfl (bN rfl (nb rfl)) rfl))))))))
theorem O1{n d:Nat}{g x y z:Str}{p q R T:Tm}{st:V}{es es':List (Str×V)}{σ cb ae ak bX:H}(e0:aq P sc (n+1) 57 [st] σ=.ok (.str y) cb)(jR:aq P sc (n+1) 57 [st] cb=.ok (.str z) ae)(hd:ae[d]?=some (.ay es))(hl:es.length<=aM)(e1:aq P sc (n+1) 61 [p.af,.ref ae.length,st] (ae++[.ay (bc es x (.str z))])=.ok R.af ak)(hd2:ak[d]?=some (.ay es'))(hl2:es'.length<=aM)(e2:aq P sc (n+1) 61 [q.af,.ref ak.length,st] (ak++[.ay (bc es' g (.str y))])=.ok T.af bX):
  aq P sc (n+2) 61 [(Tm.def_ g x "number" p q).af,.ref d,st] σ=.ok (Tm.def_ y z "number" R T).af bX:=
 kJ B (λ_ _=>rfl) (jmp 5 (by rfl') (bT (by rfl') ((a4 (aJ rfl e0)).trans ((a4 (aJ rfl jR)).trans ((a4 (aJ (aw rfl (aw (aJ (aN rfl (aw rfl rfl)) (kF B hd hl)) rfl)) e1)).trans ((a4 (aJ (aw rfl (aw (aJ (aN rfl (aw rfl rfl)) (kF B hd2 hl2)) rfl)) e2)).trans (bf (bN rfl (nb rfl)))))))))
end
section
variable{P:Prog}{sc:List Int}(B:lL P)
include B
theorem O2(e1:aq P sc n 61 [x.af,.ref d,st] σ=.ok X.af ae)(e2:aq P sc n 61 [y.af,.ref d,st] ae=.ok Y.af ak):
  aq P sc (n+1) 61 [(Tm.aj u x y).af,.ref d,st] σ=.ok (Tm.aj u X Y).af (ak++[.ah [X.af,Y.af]]):=by
 have f1:M.bind (ao (cx P sc n) (.call 61 {.aa 9,.aa 1,.aa 2}) (bV (cK [some (Tm.aj u x y).af,some (.ref d),some st,some (.str u.str),none,none,none,none,none,none] [1,2]) 9 x.af)) (λy=>M.pure (some y)) σ=.ok (some X.af) ae:=by
  rw[aW (aJ rfl e1)];rfl
 have f2:M.bind (ao (cx P sc n) (.call 61 {.aa 9,.aa 1,.aa 2}) (bV (cK [some (Tm.aj u x y).af,some (.ref d),some st,some (.str u.str),none,none,none,none,none,none] [1,2]) 9 y.af)) (λy=>M.pure (some y)) ae=.ok (some Y.af) ak:=by
  rw[aW (aJ rfl e2)];rfl
 have hc:di (.fix [x.af,y.af]) (λit=>M.bind (ao (cx P sc n) (.call 61 {.aa 9,.aa 1,.aa 2}) (bV (cK [some (Tm.aj u x y).af,some (.ref d),some st,some (.str u.str),none,none,none,none,none,none] [1,2]) 9 it)) λy=>M.pure (some y)) 3 0 σ=.ok [X.af,Y.af] ak:=
  gL (n:=2) (y:=some X.af) (r:=[Y.af]) (ae:=σ) rfl f1 (gL (n:=1) (y:=some Y.af) (r:=[]) rfl f2 (kE rfl))
 have ht:js (.ref ak.length) (ak++[.ah [X.af,Y.af]])=.ok (.aB [X.af,Y.af]) (ak++[.ah [X.af,Y.af]]):=by
  show M.bind (bH _) _ _=_;rw[aW (dY bC)];rfl
 have oh:a6 (cx P sc n) {.ret (.aj .Add (.aB {.aa 3}) (.tuple (.comp (.call 61 {.aa 9,.aa 1,.aa 2}) 9 [1,2] (.slc (.aa 0) (.int 1) .none))))} [some (Tm.aj u x y).af,some (.ref d),some st,some (.str u.str),none,none,none,none,none,none] σ=.ok (.ret (Tm.aj u X Y).af) [some (Tm.aj u x y).af,some (.ref d),some st,some (.str u.str),none,none,none,none,none,none] (ak++[.ah [X.af,Y.af]]):=
  bf (bJ (bN rfl (nb rfl)) (tP (kI rfl rfl rfl (nb rfl) hc) ht) rfl)
 refine kJ B (λ_ _=>rfl) (Eq.trans ?_ oh);(clear oh hc f2 f1;cases u)<;>exact jmp 5 (by rfl') (bY (by rfl'))
theorem NB(e1:aq P sc n 61 [x.af,.ref d,st] σ=.ok X.af ae)(e2:aq P sc n 61 [y.af,.ref d,st] ae=.ok Y.af ak)(e3:aq P sc n 61 [z.af,.ref d,st] ak=.ok Z.af bX):
  aq P sc (n+1) 61 [(Tm.when x y z).af,.ref d,st] σ=.ok (Tm.when X Y Z).af (bX++[.ah [X.af,Y.af,Z.af]]):=by
 have f1:M.bind (ao (cx P sc n) (.call 61 {.aa 9,.aa 1,.aa 2}) (bV (cK [some (Tm.when x y z).af,some (.ref d),some st,some (.str "when"),none,none,none,none,none,none] [1,2]) 9 x.af)) (λy=>M.pure (some y)) σ=.ok (some X.af) ae:=by
  rw[aW (aJ rfl e1)];rfl
 have f2:M.bind (ao (cx P sc n) (.call 61 {.aa 9,.aa 1,.aa 2}) (bV (cK [some (Tm.when x y z).af,some (.ref d),some st,some (.str "when"),none,none,none,none,none,none] [1,2]) 9 y.af)) (λy=>M.pure (some y)) ae=.ok (some Y.af) ak:=by
  rw[aW (aJ rfl e2)];rfl
 have f3:M.bind (ao (cx P sc n) (.call 61 {.aa 9,.aa 1,.aa 2}) (bV (cK [some (Tm.when x y z).af,some (.ref d),some st,some (.str "when"),none,none,none,none,none,none] [1,2]) 9 z.af)) (λy=>M.pure (some y)) ak=.ok (some Z.af) bX:=by
  rw[aW (aJ rfl e3)];rfl
 have hc:di (.fix [x.af,y.af,z.af]) (λit=>M.bind (ao (cx P sc n) (.call 61 {.aa 9,.aa 1,.aa 2}) (bV (cK [some (Tm.when x y z).af,some (.ref d),some st,some (.str "when"),none,none,none,none,none,none] [1,2]) 9 it)) λy=>M.pure (some y)) 4 0 σ=.ok [X.af,Y.af,Z.af] bX:=
  gL (n:=3) (y:=some X.af) (r:=[Y.af,Z.af]) (ae:=σ) rfl f1 (gL (n:=2) (y:=some Y.af) (r:=[Z.af]) (ae:=ae) rfl f2 (gL (n:=1) (y:=some Z.af) (r:=[]) rfl f3 (kE rfl)))
 have ht:js (.ref bX.length) (bX++[.ah [X.af,Y.af,Z.af]])=.ok (.aB [X.af,Y.af,Z.af]) (bX++[.ah [X.af,Y.af,Z.af]]):=by
  show M.bind (bH _) _ _=_;rw[aW (dY bC)];rfl
 have oh:a6 (cx P sc n) {.ret (.aj .Add (.aB {.aa 3}) (.tuple (.comp (.call 61 {.aa 9,.aa 1,.aa 2}) 9 [1,2] (.slc (.aa 0) (.int 1) .none))))} [some (Tm.when x y z).af,some (.ref d),some st,some (.str "when"),none,none,none,none,none,none] σ=.ok (.ret (Tm.when X Y Z).af) [some (Tm.when x y z).af,some (.ref d),some st,some (.str "when"),none,none,none,none,none,none] (bX++[.ah [X.af,Y.af,Z.af]]):=
  bf (bJ (bN rfl (nb rfl)) (tP (kI rfl rfl rfl (nb rfl) hc) ht) rfl)
 refine kJ B (λ_ _=>rfl) (Eq.trans ?_ oh);exact jmp 5 (by rfl') (bY (by rfl'))
end
class inductive CS:(Str->Prop)->Tm->Prop
|num {F i}:CS F (.num i)
|name {F x}:CS F (.name x)
|un {F w a}:CS F a->CS F (.un w a)
|use {F g a}:F g->CS F a->CS F (.use g a)
|aj {F w a b}:CS F a->CS F b->CS F (.aj w a b)
|when {F a b c}:CS F a->CS F b->CS F c->CS F (.when a b c)
|aX {F x a b}:CS F a->CS F b->CS F (.aX x a b)
|bb {F n x a b}:(0<=n/\n<=9)->CS F a->CS F b->CS F (.bb n x a b)
|def_ {F g x kd a b}:CS F a->CS (λy=>g=y∨F y) b->CS F (.def_ g x kd a b)
theorem CS.mono(h:CS F t):∀F':Str->Prop,(∀x,F x->F' x)->CS F' t:=by
 induction h with
|num=>exact λ_ _=>.num
|name=>exact λ_ _=>.name
|un _ ih=>exact λ_ q=>.un (ih _ q)
|use h _ ih=>exact λ_ q=>.use (q _ h) (ih _ q)
|aj _ _ h1 h2=>exact λ_ q=>.aj (h1 _ q) (h2 _ q)
|when _ _ _ h1 h2 h3=>exact λ_ q=>.when (h1 _ q) (h2 _ q) (h3 _ q)
|aX _ _ h1 h2=>exact λ_ q=>.aX (h1 _ q) (h2 _ q)
|bb hn _ _ h1 h2=>exact λ_ q=>.bb hn (h1 _ q) (h2 _ q)
|def_ _ _ h1 h2=>exact λ_ q=>.def_ (h1 _ q) (h2 _ λx=>Or.imp id (q x))
section
variable{P:Prog}{sc:List Int}(B:lL P)
include B
def EK:SL:=match vj.body with
|.cons _ r=>r
|_=>.nil
theorem pk{n d:Nat}{t:Tm}{w:Str}(hw:∀C L,ao C (.au (.aa 0) (.int 0)) (some t.af::L) σ=.ok (.str w) σ)(h:a6 (cx P sc n) EK [some t.af,some (.ref d),some (.str w),none,none] σ=.ok (.ret v) L' ag):aq P sc (n+1) 40 [t.af,.ref d] σ=.ok v ag:=by rw[cf B.FH rfl];exact(congrArg bS ((a4 (hw _ _)).trans h)).trans rfl
theorem sL{n d:Nat}{t:Tm}{w:Str}(hw:∀C L,ao C (.au (.aa 0) (.int 0)) (some t.af::L) σ=.ok (.str w) σ)(hd:σ[d]?=some (.ay es))(hv:t.cost φ=1+(t.parts.map λp=>p.cost φ).sum)(O3:∀L,L=[some t.af,some (.ref d),some (.str w),none,none]->a6 (cx P sc (n+1)) EK L σ=a6 (cx P sc (n+1)) {.ret (.aj .Add (.int 1) (.sum (.comp (.call 40 {.aa 4,.aa 1}) 4 [1] (.call 10 {.aa 0}))))} L σ)(ih:∀p∈t.parts,∀σ,σ[d]?=some (.ay es)->∃τ,aq P sc (n+1) 40 [p.af,.ref d] σ=.ok (.int (p.cost φ)) (σ++τ)):∃τ,aq P sc (n+2) 40 [t.af,.ref d] σ=.ok (.int (t.cost φ)) (σ++τ):=by
 obtain⟨τ,hc⟩:=JN (I:=λs=>s[d]?=some (.ay es)) (λ_ _ h=>old h) (g:=λp=>.int (p.cost φ)) (f:=λit=>M.bind (ao (cx P sc (n+1)) (.call 40 {.aa 4,.aa 1}) (bV (cK [some t.af,some (.ref d),some (.str w),none,none] [1]) 4 it)) λy=>M.pure (some y)) (l:=σ.length) (ts:=t.parts) (λp hp s hs=>by
  obtain⟨τ,jQ⟩:=ih p hp s hs;refine⟨τ,?_⟩;rw[aW (aJ (by rfl) jQ)]
  rfl) t.parts [] (σ++[.ah (t.parts.map Tm.af)]) rfl (old hd) bC
 have hsum:∀s:H,mY (.ref s.length) (s++[.ah (t.parts.map λp=>V.int (p.cost φ))])=.ok (.int (t.parts.map λp=>p.cost φ).sum) (s++[.ah (t.parts.map λp=>V.int (p.cost φ))]):=λs=>by
  show M.bind (bH _) _ _=_;rw[aW (dY bC),oW];rfl
 refine⟨[.ah (t.parts.map Tm.af)]++τ++[.ah (t.parts.map λp=>V.int (p.cost φ))],?_⟩;rw[←List.append_assoc,←List.append_assoc];exact pk B hw ((O3 _ rfl).trans (bf (bJ rfl (xB (kI (aJ (aN rfl aU) (zJ B.yZ t n σ)) (by(refine oX▸?_;refine(aW (dY bC))▸?_);rfl) (by(refine oV▸?_;refine(aW (dY bC))▸?_);simp[M.pure]) (bP (sI t) (by decide)) hc) (hsum _)) (by(refine hv▸?_);rfl))))
theorem Bm(h:CS F t):∀(n d:Nat)(es:List (Str×V))(φ:Str->Int)(σ:H),t.depth<=n->σ[d]?=some (.ay es)->es.length+t.depth<=aM->(∀g,F g->cS es g=some (.int (φ g)))->∃τ,aq P sc (n+1) 40 [t.af,.ref d] σ=.ok (.int (t.cost φ)) (σ++τ):=by
 induction h with
|num=>exact λn d es φ σ hn hd hl hc=>⟨[],by rw[List.append_nil];exact pk B (λ_ _=>rfl) (bT (by rfl') (bf rfl))⟩
|name=>exact λn d es φ σ hn hd hl hc=>⟨[],by rw[List.append_nil];exact pk B (λ_ _=>rfl) (bT (by rfl') (bf rfl))⟩
|@use F g a hg ha ih=>
  intro n d es φ σ hn hd hl hc;have d0:(Tm.use g a).depth=1+a.depth:=rfl;obtain⟨m,rfl⟩:∃m,n=m+1:=⟨n-1,by(exact oM ‹_›)⟩;obtain⟨τ,e⟩:=ih m d es φ σ (nd (aQ _) ‹_›) hd (zz (aQ _) ‹_›) hc;exact⟨τ,pk B (λ_ _=>rfl) (jmp 3 (by rfl') (bT (by rfl') (bf (bJ (bJ rfl (b9 (aD rfl) rfl (hZ hd (hc g hg))) rfl) (aJ rfl e) rfl))))⟩
|@un F w a ha ih=>
  intro n d es φ σ hn hd hl hc;have d0:(Tm.un w a).depth=1+a.depth:=rfl;obtain⟨m,rfl⟩:∃m,n=m+1:=⟨n-1,by(exact oM ‹_›)⟩;refine sL B (λ_ _=>rfl) hd rfl (λL hL=>?_) (λp hp s hs=>?_)
  ·subst hL;exact(bY (ae:=σ) (by(clear hn d0 hl;cases w)<;>rfl')).trans ((bY (ae:=σ) (by(clear hn d0 hl;cases w)<;>rfl')).trans ((bY (ae:=σ) (by(clear hn d0 hl;cases w)<;>rfl')).trans (bY (ae:=σ) (by(clear hn d0 hl;cases w)<;>rfl'))))
  ·(refine(List.mem_singleton.mp hp)▸?_);exact ih m d es φ s (nd (aQ _) ‹_›) hs (zz (aQ _) ‹_›) hc
|@aj F w a b ha hb bh bU=>
  intro n d es φ σ hn hd hl hc;have d0:(Tm.aj w a b).depth=1+max a.depth b.depth:=rfl;obtain⟨m,rfl⟩:∃m,n=m+1:=⟨n-1,by(exact oM ‹_›)⟩;refine sL B (λ_ _=>rfl) hd rfl (λL hL=>?_) (λp hp s hs=>?_)
  ·subst hL;exact(bY (ae:=σ) (by(clear hn d0 hl;cases w)<;>rfl')).trans ((bY (ae:=σ) (by(clear hn d0 hl;cases w)<;>rfl')).trans ((bY (ae:=σ) (by(clear hn d0 hl;cases w)<;>rfl')).trans (bY (ae:=σ) (by(clear hn d0 hl;cases w)<;>rfl'))))
  ·rcases List.mem_cons.mp hp with rfl|hp
   ·exact bh m d es φ s (nd mL ‹_›) hs (zz mL ‹_›) hc
   ·(refine(List.mem_singleton.mp hp)▸?_);exact bU m d es φ s (nd mR ‹_›) hs (zz mR ‹_›) hc
|@when F a b c ha hb g8 bh bU f9=>
  intro n d es φ σ hn hd hl hc;have d0:(Tm.when a b c).depth=1+max a.depth (max b.depth c.depth):=rfl;obtain⟨m,rfl⟩:∃m,n=m+1:=⟨n-1,by(exact oM ‹_›)⟩;refine sL B (λ_ _=>rfl) hd rfl (λL hL=>?_) (λp hp s hs=>?_)
  ·subst hL;exact jmp 3 (by rfl') (bY (by rfl'))
  ·rcases List.mem_cons.mp hp with rfl|hp
   ·exact bh m d es φ s (nd mL ‹_›) hs (zz mL ‹_›) hc
   ·rcases List.mem_cons.mp hp with rfl|hp
    ·exact bU m d es φ s (nd mM ‹_›) hs (zz mM ‹_›) hc
    ·(refine(List.mem_singleton.mp hp)▸?_);exact f9 m d es φ s (nd mC ‹_›) hs (zz mC ‹_›) hc
|@aX F x a b ha hb bh bU=>
  intro n d es φ σ hn hd hl hc;have d0:(Tm.aX x a b).depth=1+max a.depth b.depth:=rfl;obtain⟨m,rfl⟩:∃m,n=m+1:=⟨n-1,by(exact oM ‹_›)⟩;refine sL B (λ_ _=>rfl) hd rfl (λL hL=>?_) (λp hp s hs=>?_)
  ·subst hL;exact jmp 3 (by rfl') (bY (by rfl'))
  ·rcases List.mem_cons.mp hp with rfl|hp
   ·exact bh m d es φ s (nd mL ‹_›) hs (zz mL ‹_›) hc
   ·(refine(List.mem_singleton.mp hp)▸?_);exact bU m d es φ s (nd mR ‹_›) hs (zz mR ‹_›) hc
|@bb F j x a b hj ha hb bh bU=>
  intro n d es φ σ hn hd hl hc;have d0:(Tm.bb j x a b).depth=1+max a.depth b.depth:=rfl;obtain⟨m,rfl⟩:∃m,n=m+1:=⟨n-1,by(exact oM ‹_›)⟩;obtain⟨bI,e1⟩:=bh m d es φ σ (nd mL ‹_›) hd (zz mL ‹_›) hc;refine bZ (bU m d es φ (σ++bI) (nd mR ‹_›) (old hd) (zz mR ‹_›) hc) λcH e2=>?_;have hsm:small j=true:=wm hj.1 (Int.lt_of_le_of_lt hj.2 (by decide));refine⟨bI++cH,?_⟩;rw[←List.append_assoc];exact pk B (λ_ _=>rfl) (jmp 1 (by rfl') (bT (by rfl') (bf (bJ (bJ rfl (aJ rfl e1) rfl) (bJ (by rfl') (aJ rfl e2) (wD hsm _)) rfl))))
|@def_ F g x kd a b ha hb bh bU=>
  intro n d es φ σ hn hd hl hc;have d0:(Tm.def_ g x kd a b).depth=1+max a.depth b.depth:=rfl;obtain⟨m,rfl⟩:∃m,n=m+1:=⟨n-1,by(exact oM ‹_›)⟩;obtain⟨bI,e1⟩:=bh m d es φ σ (nd mL ‹_›) hd (zz mL ‹_›) hc;have hlen:=gM es g (.int (a.cost φ))
  obtain⟨cH,e2⟩:=bU m (σ++bI).length (bc es g (.int (a.cost φ))) (λy=>if g==y then a.cost φ else φ y) (σ++bI++[.ay (bc es g (.int (a.cost φ)))]) (nd mR ‹_›) bC (lN 0x38134c20124124124024124124804904904900900904920538140f1810cd4614050613cc [_,_,_,_,_,_] rfl hl d0 hlen) (λy hy=>by
   rw[ml];show(if g==y then _ else _)=some (V.int (if g==y then _ else _));cases y0:(g==y) with
   |true=>rfl
   |false=>exact hc y (hy.resolve_left λq=>by(replace y0:=q▸y0);simp at y0))
  refine⟨bI++([.ay (bc es g (.int (a.cost φ)))]++cH),?_⟩;rw[←List.append_assoc,←List.append_assoc];exact pk B (λ_ _=>rfl) (jmp 2 (by rfl') (bT (by rfl') ((a4 (aJ (aN rfl (aw rfl (aw (aJ rfl e1) aU))) (kF B (old hd) (ip ‹_›)))).trans (bf (bJ rfl (aJ rfl e2) rfl)))))
end
end Qh
set_option tactic.hygienic true
namespace Qh
open PySem
theorem dF.cs(h:dF q Δ p):CS (λg=>Δ g=some .f) p:=by
 induction h with
|num=>exact .num
|name _=>exact .name
|use h _ ih=>exact .use h ih
|un _ _ ih=>exact .un ih
|aj _ _ h1 h2=>exact .aj h1 h2
|when _ _ _ h1 h2 h3=>exact .when h1 h2 h3
|aX _ _ h1 h2=>exact .aX h1 (h2.mono _ λx q=>by unfold dj at q;split at q;cases q;exact q)
|bb hn _ _ h1 h2=>exact .bb hn h1 (h2.mono _ λx q=>by unfold dj at q;split at q;cases q;exact q)
|def_ _ _ h1 h2=>exact .def_ (h1.mono _ λx q=>by unfold dj at q;split at q;cases q;exact q) (h2.mono _ λx q=>by
   unfold dj at q;split at q
   ·rename_i e;exact .inl (beq_iff_eq.mp e)
   ·exact .inr q)
def nf(Γ:Sc)(g:Str):Prop:=∃l ka k,look Γ g=some ⟨g,l,.fn ka k⟩
theorem nf.val(h:nf (Γ++[⟨x,l,.val k⟩]) g):nf Γ g:=by
 refine kQ (h) λl' ka k' hg=>?_;rw[fS] at hg;cases hx:(x==g) with
|true=>(replace hg:=(if_pos rfl)▸(hx▸hg));cases hg
|false=>(replace hg:=hx▸hg);exact⟨l',ka,k',hg⟩
theorem nf.fn(h:nf (Γ++[⟨x,l,.fn a r⟩]) g):x=g∨nf Γ g:=by
 refine kQ (h) λl' ka k' hg=>?_;rw[fS] at hg;cases hx:(x==g) with
|true=>exact .inl (beq_iff_eq.mp hx)
|false=>(replace hg:=hx▸hg);exact .inr ⟨l',ka,k',hg⟩
theorem HG.cs(h:HG d Γ l f t k):CS (nf Γ) t:=by
 induction h with
|num=>exact .num
|name _=>exact .name
|jb _=>exact .un .name
|jw _=>exact .un .name
|jx=>exact .un .num
|jF=>exact .un .num
|when _ _ _ h1 h2 h3=>exact .when h1 h2 h3
|use hg _ ih=>exact .use ⟨_,_,_,hg⟩ ih
|aX _ _ h1 h2=>exact .aX h1 (h2.mono _ λ_ q=>q.val)
|bb hn _ _ h1 h2=>exact .bb hn h1 (h2.mono _ λ_ q=>q.val)
|def_ _ _ _ h1 h2=>exact .def_ (h1.mono _ λ_ q=>q.val) (h2.mono _ λ_ q=>q.fn)
|bE _ ih=>exact .un ih
|hole _ ih=>exact .un ih
|lift _ ih=>exact .un ih
|run _ ih=>exact .un ih
|aj _ _ h1 h2=>exact .aj h1 h2
|kept _ _ h1 h2=>exact .aX h1 (.un (.aX (.un .name) (.un (h2.mono _ λ_ q=>q.val.val))))
|twice _ _ _ h1 h2 h3=>exact .aX h1 (.un (.aX (.un .name) (.un (.aX .num (.aj (h2.mono _ λ_ q=>q.val.val.val) (h3.mono _ λ_ q=>q.val.val.val))))))
theorem AN{α:Type}{f:V->M (Option V)}{h g:α->V}{l:Nat}{ts:List α}(hf:∀t∈ts,∀σ,∃τ,f (h t) σ=.ok (some (g t)) (σ++τ)):
  ∀(rest done:List α)(σ:H),ts=done++rest->σ[l]?=some (.ah (ts.map h))->∃τ,di (.live l) f (rest.length+1) done.length σ=.ok (rest.map g) (σ++τ):=by
 intro rest
 induction rest with
|nil=>
  intro done σ hd hl;refine⟨[],?_⟩;rw[List.append_nil];exact kE (by(refine jU▸?_;refine(aW (dY hl))▸?_);simp[M.pure,hd])
|cons t rest ih=>
  intro done σ hd hl;obtain⟨τ,h1⟩:=hf t (by(refine hd▸?_);simp) σ;obtain⟨fQ,h2⟩:=ih (done++[t]) (σ++τ) (by(refine hd▸?_);simp) (old hl);refine⟨τ++fQ,?_⟩;replace h2:=(List.length_singleton)▸((List.length_append)▸h2);have:=gL (k:=done.length) (σ:=σ) (ae:=σ) (v:=h t) (by(refine jU▸?_;refine(aW (dY hl))▸?_);simp[M.pure,hd]) h1 h2;rw[List.length_cons,this,List.append_assoc];rfl
def mv(t:Tm):V:=.aB [.int t.size,.int t.depth]
section
variable{P:Prog}{sc:List Int}(B:lL P)
include B
theorem BS{n:Nat}{elt:E}{L:aR}{v:Nat}{l:Nat}{ts:List Tm}{g:Tm->V}{src:E}(hl:σ[l]?=some (.ah (ts.map mv)))(hle:ts.length<=aM)(hs:ao (cx P sc n) src L σ=.ok (.ref l) σ)(he:∀t:Tm,∀s,ao (cx P sc n) elt (bV (cK L []) v (mv t)) s=.ok (g t) s):∃τ,ao (cx P sc n) (.comp elt v [] src) L σ=.ok (.ref (σ++τ).length) (σ++τ++[.ah (ts.map g)]):=by refine bZ (AN (f:=λit=>M.bind (ao (cx P sc n) elt (bV (cK L []) v it)) λy=>M.pure (some y)) (h:=mv) (g:=g) (l:=l) (ts:=ts) (λt _ s=>⟨[],by rw[aW (he t s),List.append_nil];rfl⟩) ts [] σ rfl hl) λτ hc=>?_;exact⟨τ,kI hs (by(refine oX▸?_;refine(aW (dY hl))▸?_);rfl) (by(refine oV▸?_;refine(aW (dY hl))▸?_);simp[M.pure]) hle hc⟩
theorem AO:∀(n:Nat)(t:Tm)(σ:H),t.depth<=n->∃τ,aq P sc (n+1) 56 [t.af] σ=.ok (mv t) (σ++τ)
|0=>λt σ h=>absurd h (by have:=vP t;exact Nat.not_le.mpr (lN 0x301860049049205321 [_] rfl this))
|n+1=>λt σ h=>by
  rw[cf B.FJ rfl];have hle:t.parts.length<=aM:=bP (sI t) (by decide);have hl:(σ++[O.ah (t.parts.map Tm.af)])[σ.length]?=some (.ah (t.parts.map Tm.af)):=by simp
  obtain⟨τ,hc⟩:=AN (h:=Tm.af) (g:=mv) (f:=λit=>M.bind (ao (cx P sc (n+1)) (.call 56 {.aa 2}) (bV (cK [some t.af,none,none] []) 2 it)) λy=>M.pure (some y)) (l:=σ.length) (ts:=t.parts) (λp hp s=>by
   obtain⟨τ,jQ⟩:=AO n p s (by have:=vw t p hp;exact lN 0xd30124124124814184d38538184c [_,_,_] rfl h this);refine⟨τ,?_⟩;rw[aW (aJ (by rfl) jQ)]
   rfl) t.parts [] _ rfl hl
  have ie:=kI (C:=cx P sc (n+1)) (L:=[some t.af,none,none]) (aJ (aN (i:=0) rfl aU) (zJ B.yZ t n σ)) (sr:=.live σ.length) (k:=t.parts.length) (by(refine oX▸?_;refine(aW (dY bC))▸?_);rfl) (by(refine oV▸?_;refine(aW (dY bC))▸?_);simp[M.pure]) hle hc;generalize hs2:σ++[O.ah (t.parts.map Tm.af)]++τ=ak at ie;have hl2:(ak++[.ah (t.parts.map mv)])[ak.length]?=some (.ah (t.parts.map mv)):=bC;refine bZ (BS (sc:=sc) B (n:=n+1) (elt:=.au (.aa 2) (.int 0)) (L:=[some t.af,some (.ref ak.length),none]) (v:=2) (g:=λt=>.int t.size) (src:=.aa 1) hl2 hle (aD rfl) λt s=>rfl) λfw h3=>?_;have hl3:=old (τ:=fw++[.ah (t.parts.map λt=>V.int t.size)]) hl2;rw[←List.append_assoc] at hl3;refine bZ (BS (sc:=sc) B (n:=n+1) (elt:=.au (.aa 2) (.int 1)) (L:=[some t.af,some (.ref ak.length),none]) (v:=2) (g:=λt=>.int t.depth) (src:=.aa 1) hl3 hle (aD rfl) λt s=>rfl) λy4 h4=>?_;have hsum:∀s:H,mY (.ref s.length) (s++[.ah (t.parts.map λp=>V.int p.size)])=.ok (.int (t.parts.map λp=>(p.size:Int)).sum) (s++[.ah (t.parts.map λp=>V.int p.size)]):=λs=>by
   show M.bind (bH _) _ _=_;rw[aW (dY bC),oW];rfl
  have Ql:∀s:H,n6 (.ref s.length) (s++[.ah (t.parts.map λp=>V.int p.depth)])=.ok (.int (pO (t.parts.map λp=>(p.depth:Int)))) (s++[.ah (t.parts.map λp=>V.int p.depth)]):=λs=>by
   show M.bind (bH _) _ _=_;rw[aW (dY bC),oW];rfl
  refine⟨[O.ah (t.parts.map Tm.af)]++τ++[.ah (t.parts.map mv)]++fw++[.ah (t.parts.map λp=>V.int p.size)]++y4++[.ah (t.parts.map λp=>V.int p.depth)],?_⟩;have e5:σ++([O.ah (t.parts.map Tm.af)]++τ++[.ah (t.parts.map mv)]++fw++[.ah (t.parts.map λp=>V.int p.size)]++y4++[.ah (t.parts.map λp=>V.int p.depth)])=ak++[.ah (t.parts.map mv)]++fw++[.ah (t.parts.map λp=>V.int p.size)]++y4++[.ah (t.parts.map λp=>V.int p.depth)]:=by(refine hs2▸?_);simp only[List.append_assoc]
  refine e5▸?_;have g1:binop .Add (.int 1) (.int (t.parts.map λp=>(p.size:Int)).sum)=λs=>.ok (.int t.size) s:=by funext s;(refine(z7 t)▸?_);rfl
  have g2:binop .Add (.int 1) (.int (pO (t.parts.map λp=>(p.depth:Int))))=λs=>.ok (.int t.depth) s:=by funext s;(refine(zK t)▸?_);rfl
  exact(congrArg bS ((a4 ie).trans (bf (bN (aw (bJ rfl (xB h3 (hsum _)) (by(refine g1▸?_;with_reducible rfl))) (aw (bJ rfl (Co h4 (Ql _)) (by(refine g2▸?_;with_reducible rfl))) aU)) (nb rfl))))).trans rfl
end
end Qh
set_option tactic.hygienic false
namespace Qh
open PySem
theorem mX(a b:Int)(σ:H):dJ .Gt (.int a) (.int b) σ=.ok (decide (b<a)) σ:=rfl
section
variable{P:Prog}{sc:List Int}(B:lL P)
include B
theorem JT(hst:σ[st]?=some (dT s))(hc:5000<s.c):aq P sc (n+1) 58 [(Tm.un .bE a).af,.ref d,.ref st] σ=.ok (Tm.num 0).af σ:=
 iy B (λ_ _=>rfl) (jmp 2 (by rfl') (bT (by rfl') (bT (dZ (b9 (aD rfl) rfl (da hst rfl (by decide) (by decide))) rfl (by rw[mX,decide_eq_true hc])) (bf rfl))))
theorem LD(hst:σ[st]?=some (dT s))(hc:¬ 5000<s.c)(e1:aq P sc (n+1) 61 [a.af,.ref d,.ref st] σ=.ok p.af ae)(jg:ae[st]?=some (dT s1))(hp:p.depth<=n):
  ∃τ,aq P sc (n+2) 58 [(Tm.un .bE a).af,.ref d,.ref st] σ=.ok (il p s1).1.v ((ae++τ).set st (dT (il p s1).2)):=by
 refine bZ (AO (sc:=sc) B n p ae hp) λτ e2=>?_;have h2:=old (τ:=τ) jg;have h3:((ae++τ).set st (dT ⟨s1.k,s1.fl,s1.c+p.size⟩))[st]?=some (dT ⟨s1.k,s1.fl,s1.c+p.size⟩):=gi h2;have t1:∀L:aR,cm L 2=some (.ref st)->bR (cx P sc (n+1)) (.cmp .Gt (.au (.aa 2) (.int 2)) (.int 5000)) L σ=.ok false σ:=λL h=>dZ (b9 (aD h) (y:=.int 2) rfl (da hst (x:=.int s.c) rfl (by decide) (by decide))) (y:=.int 5000) rfl (by rw[mX,decide_eq_false hc]);have t2:∀(L:aR)(s':H),cm L 7=some (mv p)->bR (cx P sc (n+1)) (.or {.cmp .Gt (.au (.aa 7) (.int 0)) (.int 2000),.cmp .Gt (.au (.aa 7) (.int 1)) (.int 30)}) L s'=.ok (decide (2000<p.size∨30<p.depth)) s':=λL s' h=>by
  have i0:ao (cx P sc (n+1)) (.au (.aa 7) (.int 0)) L s'=.ok (.int p.size) s':=b9 (aD h) (y:=.int 0) rfl rfl;have i1:ao (cx P sc (n+1)) (.au (.aa 7) (.int 1)) L s'=.ok (.int p.depth) s':=b9 (aD h) (y:=.int 1) rfl rfl
  by_cases c1:2000<p.size
  ·rw[decide_eq_true (Or.inl c1)];exact ku (any_cons (t:=true) (dZ i0 (y:=.int 2000) rfl (by rw[mX,decide_eq_true (by exact lI 0x3018501ff0490492053018501ff [_] rfl (Int.ofNat_lt.mpr c1))])) (by exact tf) (λ_=>⟨rfl,rfl⟩))
  ·refine ku (any_cons (t:=false) (dZ i0 (y:=.int 2000) rfl (by rw[mX,decide_eq_false (by exact Int.not_lt.mpr (lI 0x407fcc049049205407fcc [_] rfl (Int.ofNat_le.mpr (Nat.not_lt.mp c1))))])) (λ_=>?_) (by exact ff))
   by_cases c2:30<p.depth
   ·rw[decide_eq_true (Or.inr c2)];exact any_cons (t:=true) (dZ i1 (y:=.int 30) rfl (by rw[mX,decide_eq_true (by exact lI 0x30187e04904920530187e [_] rfl (Int.ofNat_lt.mpr c2))])) (by exact tf) (λ_=>⟨rfl,rfl⟩)
   ·rw[decide_eq_false (λq=>q.elim c1 c2)];exact any_cons (t:=false) (dZ i1 (y:=.int 30) rfl (by rw[mX,decide_eq_false (by exact Int.not_lt.mpr (lI 0xf8c049049205f8c [_] rfl (Int.ofNat_le.mpr (Nat.not_lt.mp c2))))])) (λ_=>any_nil) (by exact ff)
 refine⟨τ,?_⟩;unfold il
 by_cases hbig:2000<p.size∨30<p.depth
 ·rw[if_pos hbig];rw[decide_eq_true hbig] at t2;have e5:(ae++τ).set st (dT ⟨s1.k,true,s1.c+p.size⟩)=((ae++τ).set st (dT ⟨s1.k,s1.fl,s1.c+p.size⟩)).set st (dT ⟨s1.k,true,s1.c+p.size⟩):=by rw[List.set_set]
  rw[e5];exact iy B (λ_ _=>rfl) (jmp 2 (by rfl') (bT (by rfl') ((bY (t1 _ rfl)).trans ((a4 (aJ rfl e1)).trans ((a4 (aJ rfl e2)).trans ((dt (jo (bJ (b9 (aD rfl) rfl (da h2 rfl (by decide) (by decide))) rfl rfl) (aD rfl) rfl (mz h2 ⟨by decide,(by decide:(2:Int)<3),nb rfl⟩))).trans (bT (t2 _ _ rfl) ((dt (jo rfl (aD rfl) rfl (mz h3 ⟨by decide,(by decide:(1:Int)<3),nb rfl⟩))).trans (bf rfl)))))))))
 ·rw[if_neg hbig];rw[decide_eq_false hbig] at t2;exact iy B (λ_ _=>rfl) (jmp 2 (by rfl') (bT (by rfl') ((bY (t1 _ rfl)).trans ((a4 (aJ rfl e1)).trans ((a4 (aJ rfl e2)).trans ((dt (jo (bJ (b9 (aD rfl) rfl (da h2 rfl (by decide) (by decide))) rfl rfl) (aD rfl) rfl (mz h2 ⟨by decide,(by decide:(2:Int)<3),nb rfl⟩))).trans ((bY (t2 _ _ rfl)).trans (bf (aD rfl)))))))))
end
theorem yg(h:b<a)(σ:H):dJ .Gt (.int a) (.int b) σ=.ok true σ:=by rw[mX,decide_eq_true h]
theorem EM(h:¬ b<a)(σ:H):dJ .Gt (.int a) (.int b) σ=.ok false σ:=by rw[mX,decide_eq_false h]
section
variable{P:Prog}{sc:List Int}(B:lL P)
include B
theorem O4{n d st:Nat}{a p:Tm}{s1:Sg}(e1:aq P sc n 58 [a.af,.ref d,.ref st] σ=.ok p.af ae)(jg:ae[st]?=some (dT s1))(ec:aq P sc n 40 [p.af,.ref ae.length] (ae++[O.ay []])=.ok (.int p.d5) (ae++[O.ay []]++τ))(e3:¬ 5000<s1.c+p.d5->aq P sc n 58 [p.af,.ref (ae++[O.ay []]++τ).length,.ref st] ((ae++[O.ay []]++τ).set st (dT ⟨s1.k,s1.fl,s1.c+p.d5⟩)++[O.ay []])=.ok v bX):
  aq P sc (n+1) 58 [(Tm.un .run a).af,.ref d,.ref st] σ=if 5000<s1.c+p.d5 then .ok (.int 0) ((ae++[O.ay []]++τ).set st (dT ⟨s1.k,s1.fl,s1.c+p.d5⟩)) else .ok v bX:=by
 have h2:=old (τ:=τ) (old (τ:=[O.ay []]) jg);have h3:((ae++[O.ay []]++τ).set st (dT ⟨s1.k,s1.fl,s1.c+p.d5⟩))[st]?=some (dT ⟨s1.k,s1.fl,s1.c+p.d5⟩):=gi h2;have hlen:((ae++[O.ay []]++τ).set st (dT ⟨s1.k,s1.fl,s1.c+p.d5⟩)).length=(ae++[O.ay []]++τ).length:=List.length_set ..;generalize hS:(ae++[O.ay []]++τ).set st (dT ⟨s1.k,s1.fl,s1.c+p.d5⟩)=S at h3 e3 hlen ⊢
 by_cases hc:5000<s1.c+p.d5
 ·rw[if_pos hc,←hS];rw[←hS] at h3;exact iy B (w:="run") (λ_ _=>rfl) (jmp 4 (by rfl') (bT (ae:=σ) (by rfl') ((a4 (aJ (by rfl) e1)).trans ((dt (jo (bJ (b9 (aD rfl) (y:=.int 2) rfl (da jg (x:=.int s1.c) rfl (by decide) (by decide))) (aJ (aN rfl (aw (x:=.ref ae.length) (ae:=ae++[O.ay []]) rfl aU)) ec) rfl) (aD rfl) rfl (mz (k:=2) h2 ⟨by decide,(by decide:(2:Int)<3),nb rfl⟩))).trans (bT (dZ (b9 (aD rfl) (y:=.int 2) rfl (da h3 (x:=.int (s1.c+p.d5)) rfl (by decide) (by decide))) rfl (yg hc _)) (bf rfl))))))
 ·rw[if_neg hc];have e3:=e3 hc;rw[←hlen] at e3;rw[←hS] at h3 e3;exact iy B (λ_ _=>rfl) (jmp 4 (by rfl') (bT (by rfl') ((a4 (aJ rfl e1)).trans ((dt (jo (bJ (b9 (aD rfl) rfl (da jg rfl (by decide) (by decide))) (aJ (aN rfl (aw rfl aU)) ec) rfl) (aD rfl) rfl (mz h2 ⟨by decide,(by decide:(2:Int)<3),nb rfl⟩))).trans ((bY (dZ (b9 (aD rfl) rfl (da h3 rfl (by decide) (by decide))) rfl (EM hc _))).trans (bf (aJ rfl e3)))))))
theorem JU:
  rO (λn t d σ=>aq P sc n 58 [t.af,.ref d,st] σ) (λσ v x b d=>∃l,v=.ref l/\σ[l]?=some (.ah [.str x,b.af,.ref d])) (λ_=>True) where
 add _:=trivial
 pZ:=λ⟨l,h1,h2⟩=>⟨l,h1,old h2⟩
 new σ x b d:=⟨[.ah [.str x,b.af,.ref d]],.ref σ.length,_,rfl,bC⟩
 num {σ d i} n hn:=by
  obtain⟨k,rfl⟩:∃k,n=k+1:=⟨n-1,by exact cj (lN 0x184284c308049201241248 [_] rfl) (lN 0x30184284c201248049009049205321 [_] rfl hn)⟩;exact⟨[],by rw[List.append_nil];exact DF B σ⟩
 name hd hv n hn:=by
  obtain⟨k,rfl⟩:∃k,n=k+1:=⟨n-1,by exact cj (lN 0x184284c308049201241248 [_] rfl) (lN 0x30184284c201248049009049205321 [_] rfl hn)⟩;exact⟨[],by rw[List.append_nil];exact CG B hd hv⟩
 aj _ hN h1 h2 hi n hn:=by
  obtain⟨k,rfl⟩:∃k,n=k+1:=⟨n-1,by exact cj (lN 0x184284c308049201241248 [_] rfl) (lN 0x30184284c20124804900904920530188d [_,_] rfl hn)⟩;obtain⟨bI,e1⟩:=h1 k (cg (bz ‹_›));obtain⟨cH,e2⟩:=h2 bI k (cg (bz ‹_›));obtain⟨fw,e3⟩:=DG B e1 e2 hi;exact⟨bI++cH++fw,by rw[dM,dM] at e3;rw[dM];exact e3⟩
 when _ hN h1 h2 n hn:=by
  obtain⟨k,rfl⟩:∃k,n=k+1:=⟨n-1,by exact cj (lN 0x184284c308049201241248 [_] rfl) (lN 0x30184284c20124804900904920530188d [_,_] rfl hn)⟩;obtain⟨bI,e1⟩:=h1 k (cg (bz ‹_›));obtain⟨cH,e2⟩:=h2 bI k (cg (bz ‹_›));exact⟨bI++cH,by rw[←dM];exact CH B e1 e2⟩
 aX _ hN hd hl h1 h2 n hn:=by
  obtain⟨k,rfl⟩:∃k,n=k+3:=⟨n-3,by exact cj (lN 0x18c28cc308049201241248 [_] rfl) (lN 0xc0630a330804920124024124124814d84530188d [_,_] rfl hN hn)⟩;obtain⟨bI,e1⟩:=h1 (k+1) (Nat.le_of_add_le_add_right ‹_›);obtain⟨cH,e2⟩:=h2 bI (k+1) (Nat.le_of_add_le_add_right ‹_›);exact⟨_,by rw[←dM,←dM];exact DH B e1 (old hd) hl e2⟩
 bb {σ d N m x p q es i f} _ hN hd hl hk hf hi h1 h2 n hn:=by
  obtain⟨k,rfl⟩:∃k,n=k+3:=⟨n-3,by exact cj (lN 0x18c28cc308049201241248 [_] rfl) (lN 0xc0630a330804920124024124124814d84530188d [_,_] rfl hN hn)⟩;obtain⟨bI,e1⟩:=h1 (k+1) (Nat.le_of_add_le_add_right ‹_›)
  obtain⟨v,ak,e2,cH,hv,hs⟩:=BR B ⟨hk.1,by exact lI 0x7247d078cc049049205a4c [_] rfl hk.2⟩ e1 (λj v s=>∃τ,v=.int (iter f j i)/\s=σ++τ) ⟨bI,rfl,rfl⟩ (λj v s hj hI=>by
   obtain⟨τ,rfl,rfl⟩:=hI;obtain⟨cH,e2⟩:=h2 τ (iter f j i) (o9 hf _ _ hi) (k+1) (Nat.le_of_add_le_add_right ‹_›)
   exact⟨es,old hd,hl,_,_,e2,_,rfl,by rw[dM,dM]⟩)
  rw[hv,hs] at e2;exact⟨cH,e2⟩
 def_ {σ d N g x kd p q v es} _ hN hd hl h n hn:=by
  obtain⟨k,rfl⟩:∃k,n=k+3:=⟨n-3,by exact cj (lN 0x18c28cc308049201241248 [_] rfl) (lN 0xc0630a330804920124024124124814d84530188d [_,_] rfl hN hn)⟩;obtain⟨τ,e⟩:=h [.ah [.str x,p.af,.ref d]] (.ref σ.length) ⟨_,rfl,bC⟩ (k+1) (Nat.le_of_add_le_add_right ‹_›);rw[List.length_append,List.length_singleton] at e;exact⟨_,by rw[←dM,←dM];exact DI B hd hl e⟩
 use _ hN hd hg hc hd' hl h1 h2 n hn:=by obtain⟨k,rfl⟩:∃k,n=k+3:=⟨n-3,by exact cj (lN 0x18c28cc308049201241248 [_] rfl) (lN 0xc0630a330804920124024124124814d84530188d [_,_] rfl hN hn)⟩;obtain⟨l,rfl,hc⟩:=hc;obtain⟨bI,e1⟩:=h1 (k+1) (Nat.le_of_add_le_add_right ‹_›);obtain⟨cH,e2⟩:=h2 bI (k+1) (Nat.le_of_add_le_add_right ‹_›);exact⟨_,by rw[←dM,←dM];exact DJ B hd hg e1 (old hc) (old hd') hl e2⟩
end
structure Kp(st:Nat)(σ ag:H):Prop where
 len:σ.length<=ag.length
 same:∀i,i≠st->i<σ.length->ag[i]?=σ[i]?
section
variable{st:Nat}{σ ag cp τ:H}
theorem Kp.refl(σ:H):Kp st σ σ:=⟨aQ _,λ_ _ _=>rfl⟩
theorem Kp.trans(x:Kp st σ ag)(y:Kp st ag cp):Kp st σ cp:=⟨bP x.len y.len,λi h1 h2=>(y.same i h1 (Nat.lt_of_lt_of_le h2 x.len)).trans (x.same i h1 h2)⟩
theorem Kp.get(x:Kp st σ ag){i:Nat}{o:O}(h:i≠st)(e:σ[i]?=some o):ag[i]?=some o:=(x.same i h (List.getElem?_eq_some_iff.mp e).1).trans e
theorem Kp.add:Kp st σ (σ++τ):=⟨by simp,λi _ h=>List.getElem?_append_left h⟩
theorem Kp.set{o:O}:Kp st σ (σ.set st o):=⟨by simp,λi h _=>List.getElem?_set_ne (Ne.symm h)⟩
end
theorem sB(f:Bv->Sg->Bv×Sg):∀(n:Nat)(r:Bv×Sg),cM f (n+1) r=f (cM f n r).1 (cM f n r).2
|0=>λ_=>rfl
|n+1=>λr=>sB f n (f r.1 r.2)
def fa:Nat->Nat
|0=>0
|d+1=>14+2*fa d
def fb(f:Bool)(d VF:Nat):Nat:=bif f then 2*d+max 500 (fa d+max 70 VF) else fa d+max 70 VF
section
variable(st:Nat)(aE:H->Sg->Prop)(aZ:H->V->Str->Tm->Nat->Prop)(Out:Lv->Nat->Tm->Nat->H->Bv×Sg->Prop)
def LF:Prop:=∀{σ ag v x b d},Kp st σ ag->aZ σ v x b d->aZ ag v x b d
def NC:Prop:=∀{l N N' t d σ r},Out l N t d σ r->N<=N'->Out l N' t d σ r
def ND:Prop:=∀{σ d i s},aE σ s->Out .z 1 (.num i) d σ (.num (i.fmod 1000003),s)
def NF:Prop:=∀{σ d i s},aE σ s->Out .o 1 (.num i) d σ (.pc (.num i),s)
def LG:Prop:=∀{σ d es x b s},aE σ s->σ[d]?=some (.ay es)->cS es x=some (Bv.v b)->Out .z 1 (.name x) d σ (b,s)
def LH:Prop:=∀{σ d es x y s},aE σ s->σ[d]?=some (.ay es)->cS es x=some (.str y)->Out .o 1 (.name x) d σ (.pc (.name y),s)
def NG:Prop:=∀{σ d N a r},1<=N->Out .z N a d σ r->Out .o (N+1) (.un .hole a) d σ r
def NH:Prop:=∀{σ d N a i s1},1<=N->Out .z N a d σ (.num i,s1)->Out .z (N+1) (.un .lift a) d σ (.pc (.num i),s1)
def JV:Prop:=∀{σ d a s},aE σ s->5000<s.c->Out .z 1 (.un .bE a) d σ (.pc (.num 0),s)
def LI:Prop:=∀{σ d N a p s s1},aE σ s->¬ 5000<s.c->Out .o N a d σ (.pc p,s1)->s.c<=s1.c->p.depth+3<=N->Out .z (N+1) (.un .bE a) d σ (il p s1)
def O5:Prop:=∀{σ d N a p s1},Out .z N a d σ (.pc p,s1)->PD (λ_=>none) p->p.depth<=30->p.fr (λ_=>0)<=240->490<=N->Out .z (N+2) (.un .run a) d σ (gW p s1)
def NI:Prop:=∀{σ d N g a x body d' es es' cv u s1 r w},d≠st->σ[d]?=some (.ay es)->cS es g=some cv->aZ σ cv x body d'->d'≠st->σ[d']?=some (.ay es')->es'.length<=aM->1<=N->Out .z N a d σ (u,s1)->
  (∀ae,Kp st σ ae->aE ae s1->Out .z N body ae.length (ae++[.ay (bc es' x (Bv.v u))]) r)->s1.le w r.2->Out .z (N+2) (.use g a) d σ r
def NJ:Prop:=∀{σ d N g a y es p s1},σ[d]?=some (.ay es)->cS es g=some (.str y)->1<=N->Out .o N a d σ (.pc p,s1)->Out .o (N+1) (.use g a) d σ (.pc (.use y p),s1)
def NK:Prop:=∀{σ d N o a b i j s1 s2 w},1<=N->small i=true->Out .z N a d σ (.num i,s1)->(∀ae,Kp st σ ae->aE ae s1->Out .z N b d ae (.num j,s2))->s1.le w s2->Out .z (N+2) (.aj o a b) d σ (.num (fD o i j),s2)
def NL:Prop:=∀{σ d N o a b p q s1 s2 w},1<=N->Out .o N a d σ (.pc p,s1)->(∀ae,Kp st σ ae->aE ae s1->Out .o N b d ae (.pc q,s2))->s1.le w s2->Out .o (N+1) (.aj o a b) d σ (.pc (.aj o p q),s2)
def LJ:Prop:=∀{σ d N a b c i s1 r w},1<=N->Out .z N a d σ (.num i,s1)->(∀ae,Kp st σ ae->aE ae s1->Out .z N (if i=0 then c else b) d ae r)->s1.le w r.2->Out .z (N+2) (.when a b c) d σ r
def LK:Prop:=∀{σ d N a b c p q t s1 s2 s3 w w'},1<=N->Out .o N a d σ (.pc p,s1)->(∀ae,Kp st σ ae->aE ae s1->Out .o N b d ae (.pc q,s2))->s1.le w s2->(∀ae,Kp st σ ae->aE ae s2->Out .o N c d ae (.pc t,s3))->s2.le w' s3->Out .o (N+1) (.when a b c) d σ (.pc (.when p q t),s3)
def NM:Prop:=∀{σ d N x a b u s1 r es w},d≠st->σ[d]?=some (.ay es)->es.length<=aM->1<=N->Out .z N a d σ (u,s1)->(∀ae,Kp st σ ae->aE ae s1->Out .z N b ae.length (ae++[.ay (bc es x (Bv.v u))]) r)->s1.le w r.2->Out .z (N+2) (.aX x a b) d σ r
def NO:Prop:=∀{σ d N x a b p q s s1 s2 es w},aE σ s->0<=s.k->s.k+1<10^10->d≠st->σ[d]?=some (.ay es)->es.length<=aM->1<=N->(∀cb,Kp st σ cb->aE cb s.new->Out .o N a d cb (.pc p,s1))->
  (∀ae,Kp st σ ae->aE ae s1->Out .o N b ae.length (ae++[.ay (bc es x (.str (vn (s.k+1))))]) (.pc q,s2))->s1.le w s2->Out .o (N+2) (.aX x a b) d σ (.pc (.aX (vn (s.k+1)) p q),s2)
def JW:Prop:=∀{σ d N n x a b p q s s1 s2 es w},aE σ s->0<=s.k->s.k+1<10^10->d≠st->σ[d]?=some (.ay es)->es.length<=aM->1<=N->(∀cb,Kp st σ cb->aE cb s.new->Out .o N a d cb (.pc p,s1))->
  (∀ae,Kp st σ ae->aE ae s1->Out .o N b ae.length (ae++[.ay (bc es x (.str (vn (s.k+1))))]) (.pc q,s2))->s1.le w s2->Out .o (N+2) (.bb n x a b) d σ (.pc (.bb n (vn (s.k+1)) p q),s2)
def JX:Prop:=∀{σ d N n x a b r0 es}{f:Bv->Sg->Bv×Sg},0<=n/\n<=9->d≠st->σ[d]?=some (.ay es)->es.length<=aM->1<=N->Out .z N a d σ r0->
  (∀j ae,j<n.toNat->Kp st σ ae->aE ae (cM f j r0).2->Out .z N b ae.length (ae++[.ay (bc es x (Bv.v (cM f j r0).1))]) (cM f (j+1) r0))->(∀j,j<n.toNat->∃w,(cM f j r0).2.le w (cM f (j+1) r0).2)->Out .z (N+2) (.bb n x a b) d σ (cM f n.toNat r0)
def NP:Prop:=∀{σ d N g x kd a b s r es},aE σ s->d≠st->σ[d]?=some (.ay es)->es.length<=aM->1<=N->(∀ae cv,Kp st σ ae->aE ae s->aZ ae cv x a d->Out .z N b ae.length (ae++[.ay (bc es g cv)]) r)->Out .z (N+2) (.def_ g x kd a b) d σ r
def NQ:Prop:=∀{σ d N g x a b p q s s1 s2 es w},aE σ s->0<=s.k->s.k+1+1<10^10->d≠st->σ[d]?=some (.ay es)->es.length<=aM->1<=N->(∀ae,Kp st σ ae->aE ae s.new.new->Out .o N a ae.length (ae++[.ay (bc es x (.str (vn (s.k+1+1))))]) (.pc p,s1))->
  (∀ae,Kp st σ ae->aE ae s1->Out .o N b ae.length (ae++[.ay (bc es g (.str (vn (s.k+1))))]) (.pc q,s2))->s1.le w s2->Out .o (N+2) (.def_ g x "number" a b) d σ (.pc (.def_ (vn (s.k+1)) (vn (s.k+1+1)) "number" p q),s2)
end
structure oi(st:Nat)(aE:H->Sg->Prop)(aZ:H->V->Str->Tm->Nat->Prop)(Out:Lv->Nat->Tm->Nat->H->Bv×Sg->Prop):Prop where
 app:∀{σ τ s},aE σ s->aE (σ++τ) s
 ne:∀{σ s},aE σ s->σ.length≠st
 uq:LF st aZ
 more:NC Out
 yh:ND aE Out
 yi:NF aE Out
 xH:LG aE Out
 xI:LH aE Out
 hole:NG Out
 lift:NH Out
 xb:JV aE Out
 bE:LI aE Out
 run:O5 Out
 yj:NI st aE aZ Out
 yk:NJ Out
 yl:NK st aE Out
 ym:NL st aE Out
 xJ:LJ st aE Out
 xK:LK st aE Out
 yn:NM st aE Out
 yo:NO st aE Out
 xc:JW st aE Out
 xd:JX st aE Out
 yp:NP st aE aZ Out
 yq:NQ st aE Out
def RA:Lv->Nat
|.z=>58|.o=>61
section
variable{P:Prog}{sc:List Int}
def Qm(P:Prog)(sc:List Int)(st:Nat)(l:Lv)(N:Nat)(t:Tm)(d:Nat)(σ:H)(r:Bv×Sg):Prop:=∀n,N<=n->∃ag,aq P sc n (RA l) [t.af,.ref d,.ref st] σ=.ok r.1.v ag/\Kp st σ ag/\ag[st]?=some (dT r.2)
theorem gf(h:1<=n):∃k,n=k+1:=⟨n-1,by exact cj (lN 0x184284c308049201241248 [_] rfl) (lN 0x30184284c201248049009049205321 [_] rfl h)⟩
theorem rR(h:3<=n):∃k,n=k+3:=⟨n-3,by exact cj (lN 0x18c28cc308049201241248 [_] rfl) (lN 0x3018c28cc201248049009049205323 [_] rfl h)⟩
theorem ky(h:2<=n):∃k,n=k+2:=⟨n-2,by exact cj (lN 0x188288c308049201241248 [_] rfl) (lN 0x30188288c201248049009049205322 [_] rfl h)⟩
theorem JY(B:lL P)(st:Nat):oi st (λσ s=>σ[st]?=some (dT s)) (λσ v x b d=>∃lc,lc≠st/\v=.ref lc/\σ[lc]?=some (.ah [.str x,b.af,.ref d])) (Qm P sc st) where
 app h:=old h
 ne h:=λq=>by rw[←q] at h;simp at h
 uq:=λk ⟨lc,h1,h2,h3⟩=>⟨lc,h1,h2,k.get h1 h3⟩
 more h hN n hn:=h n (bP ‹_› ‹_›)
 yh h n hn:=by obtain⟨k,rfl⟩:=gf hn;exact⟨_,DF B _,.refl _,h⟩
 yi h n hn:=by obtain⟨k,rfl⟩:=gf hn;exact⟨_,OY B _,.refl _,h⟩
 xH h hd hv n hn:=by obtain⟨k,rfl⟩:=gf hn;exact⟨_,CG B hd hv,.refl _,h⟩
 xI h hd hv n hn:=by obtain⟨k,rfl⟩:=gf hn;exact⟨_,Ny B hd hv,.refl _,h⟩
 hole hN h n hn:=by
  obtain⟨k,rfl⟩:=gf (n:=n) (cT ‹_›);refine b8 (h k (cg ‹_›)) λag e h1 h2=>?_;exact⟨ag,Nz B e,h1,h2⟩
 lift hN h n hn:=by
  obtain⟨k,rfl⟩:=gf (n:=n) (cT ‹_›);refine b8 (h k (cg ‹_›)) λag e h1 h2=>?_;exact⟨ag,Nw B e,h1,h2⟩
 xb h hc n hn:=by obtain⟨k,rfl⟩:=gf hn;exact⟨_,JT B h hc,.refl _,h⟩
 bE h hc h1 _ hp n hn:=by
  obtain⟨k,rfl⟩:=ky (n:=n) (by exact lN 0xc88124124124814e06334530184e [_,_,_] rfl hp hn);refine b8 (h1 (k+1) (cg ‹_›)) λae e1 k1 s1=>?_;obtain⟨τ,e⟩:=LD B h hc e1 s1 (by exact lN 0xd30124124124814e06330506234184e [_,_,_] rfl hp hn);exact⟨_,e,(k1.trans .add).trans .set,gi (old s1)⟩
 run {σ d N a p s1} h1 hP hd hf hN n hn:=by
  refine bB λXx aI=>?_;obtain⟨k,rfl⟩:=ky (n:=n) (cT ‹_›);refine b8 (h1 (k+1) (cg (bz ‹_›))) λae e1 k1 h2=>?_;obtain⟨τ,ec⟩:=Bm (sc:=sc) B hP.cs k ae.length [] (λ_=>0) (ae++[O.ay []]) (by exact lN 0x34c049049049049205f8c14ea879c506234188e [_,_,_] rfl hd hN hn) bC (by show 0+p.depth<=aM;have:aM=1000000:=rfl;exact lN 0xd04c80124124024124817e306007247d078cd [_,_] rfl hd this) (λg hg=>by exact bL hg);have hv:=(tT (JU (sc:=sc) B (st:=.ref st)) hP (by exact ff) (λ_=>0) ((ae++[O.ay []]++τ).set st (dT ⟨s1.k,s1.fl,s1.c+p.d5⟩)++[O.ay []]) (ae++[O.ay []]++τ).length [] (λ_=>.no) trivial (by rw[←(List.length_set ..)];exact bC) (by show 0+p.depth<=aM;have:aM=1000000:=rfl;exact lN 0xd04c80124124024124817e306007247d078cd [_,_] rfl hd this) (λx m hx=>by exact bL hx)).2;obtain⟨fw,e3⟩:=hv (k+1) (by exact lN 0x61344322049049049089205c078cc14ea879c506234188e [_,_,_] rfl hf hN hn);refine aI ?_;have e:=O4 B (v:=.int (p.den λ_=>.no)) e1 h2 ec (λ_=>e3);have hs:((ae++[O.ay []]++τ).set st (dT ⟨s1.k,s1.fl,s1.c+p.d5⟩))[st]?=some (dT ⟨s1.k,s1.fl,s1.c+p.d5⟩):=gi (old (old h2));have kp:Kp st σ ((ae++[O.ay []]++τ).set st (dT ⟨s1.k,s1.fl,s1.c+p.d5⟩)):=((k1.trans .add).trans .add).trans .set;unfold gW
  by_cases hc:5000<s1.c+p.d5
  ·rw[if_pos hc] at e ⊢;exact⟨_,e,kp,hs⟩
  ·rw[if_neg hc] at e ⊢;exact⟨_,e,(kp.trans .add).trans .add,old (old hs)⟩
 yj bA hd hg hc hd1 hd' hl hN h1 h2 _ n hn:=by
  refine bB λXx aI=>?_;obtain⟨k,rfl⟩:=rR (n:=n) (by exact lN 0xc8c124124124814d84530188d [_,_] rfl hN hn);obtain⟨lc,RB,rfl,hc⟩:=hc;refine b8 (h1 (k+1) (Nat.le_of_add_le_add_right ‹_›)) λae e1 k1 s1=>?_;refine b8 (h2 ae k1 s1 (k+1) (Nat.le_of_add_le_add_right ‹_›)) λak e2 k2 s2=>?_;refine aI ?_;exact⟨ak,DJ B hd hg e1 (k1.get RB hc) (k1.get hd1 hd') hl e2,(k1.trans .add).trans k2,s2⟩
 yk hd hg hN h n hn:=by
  obtain⟨k,rfl⟩:=gf (n:=n) (cT ‹_›);refine b8 (h k (cg ‹_›)) λag e h1 h2=>?_;exact⟨ag,OZ B hd hg e,h1,h2⟩
 yl hN hi h1 h2 _ n hn:=by
  refine bZ (gf (n:=n) (cT ‹_›)) λk bg=>?_;subst bg;refine b8 (h1 k (cg (bz ‹_›))) λae e1 k1 s1=>?_;refine b8 (h2 ae k1 s1 k (cg (bz ‹_›))) λak e2 k2 s2=>?_;obtain⟨τ,e⟩:=DG B e1 e2 hi;exact⟨_,e,(k1.trans k2).trans .add,old s2⟩
 ym hN h1 h2 _ n hn:=by
  obtain⟨k,rfl⟩:=gf (n:=n) (cT ‹_›);refine b8 (h1 k (cg ‹_›)) λae e1 k1 s1=>?_;refine b8 (h2 ae k1 s1 k (cg ‹_›)) λak e2 k2 s2=>?_;exact⟨_,O2 B e1 e2,(k1.trans k2).trans .add,old s2⟩
 xJ hN h1 h2 _ n hn:=by
  refine bZ (gf (n:=n) (cT ‹_›)) λk bg=>?_;subst bg;refine b8 (h1 k (cg (bz ‹_›))) λae e1 k1 s1=>?_;refine b8 (h2 ae k1 s1 k (cg (bz ‹_›))) λak e2 k2 s2=>?_;exact⟨_,CH B e1 e2,k1.trans k2,s2⟩
 xK hN h1 h2 _ h3 _ n hn:=by
  refine bB λXx aI=>?_;obtain⟨k,rfl⟩:=gf (n:=n) (cT ‹_›);refine b8 (h1 k (cg ‹_›)) λae e1 k1 s1=>?_;refine b8 (h2 ae k1 s1 k (cg ‹_›)) λak e2 k2 s2=>?_;refine b8 (h3 ak (k1.trans k2) s2 k (cg ‹_›)) λbX e3 k3 s3=>?_;refine aI ?_;exact⟨_,NB B e1 e2 e3,((k1.trans k2).trans k3).trans .add,old s3⟩
 yn bA hd hl hN h1 h2 _ n hn:=by
  refine bZ (rR (n:=n) (lN 0xc8c124124124814d84530188d [_,_] rfl hN hn)) λk bg=>?_;subst bg;refine b8 (h1 (k+1) (Nat.le_of_add_le_add_right ‹_›)) λae e1 k1 s1=>?_;refine b8 (h2 ae k1 s1 (k+1) (Nat.le_of_add_le_add_right ‹_›)) λak e2 k2 s2=>?_;exact⟨ak,DH B e1 (k1.get bA hd) hl e2,(k1.trans .add).trans k2,s2⟩
 yo h h0 hk bA hd hl hN h1 h2 _ n hn:=by
  obtain⟨k,rfl⟩:=ky (cT ‹_›);refine b8 (h1 _ .set (gi h) (k+1) (cg (bz ‹_›))) λae e1 k1 s1=>?_;have k1:=Kp.set.trans k1;refine b8 (h2 ae k1 s1 (k+1) (cg (bz ‹_›))) λak e2 k2 s2=>?_;exact⟨ak,O0 B (sK B h h0 hk) e1 (k1.get bA hd) hl e2,(k1.trans .add).trans k2,s2⟩
 xc h h0 hk bA hd hl hN h1 h2 _ n hn:=by
  refine bZ (ky (cT ‹_›)) λk bg=>?_;subst bg;refine b8 (h1 _ .set (gi h) (k+1) (cg (bz ‹_›))) λae e1 k1 s1=>?_;have k1:=Kp.set.trans k1;refine b8 (h2 ae k1 s1 (k+1) (cg (bz ‹_›))) λak e2 k2 s2=>?_;exact⟨ak,LC B (sK B h h0 hk) e1 (k1.get bA hd) hl e2,(k1.trans .add).trans k2,s2⟩
 xd {σ d N m x a b r0 es f} hm bA hd hl hN h1 h2 _ n hn:=by
  refine bZ (rR (lN 0xc8c124124124814d84530188d [_,_] rfl hN hn)) λk bg=>?_;subst bg;refine b8 (h1 (k+1) (Nat.le_of_add_le_add_right ‹_›)) λae e1 k1 s1=>?_
  obtain⟨v,ak,e2,hv,k2,s2⟩:=BR B ⟨hm.1,by exact lI 0x7247d078cc049049205a4c [_] rfl hm.2⟩ e1 (λj v ag=>v=(cM f j r0).1.v/\Kp st σ ag/\ag[st]?=some (dT (cM f j r0).2)) ⟨rfl,k1,s1⟩ (λj v ag hj hI=>by
   refine kP (hI) λcz kj sj=>?_;clear hI;subst cz;refine b8 (h2 j ag hj kj sj (k+1) (Nat.le_of_add_le_add_right ‹_›)) λcp e k' s'=>?_
   exact⟨es,kj.get bA hd,hl,_,cp,e,rfl,(kj.trans .add).trans k',s'⟩)
  rw[hv] at e2;exact⟨ak,e2,k2,s2⟩
 yp {σ d N g x kd a b s r es} h bA hd hl hN h1 n hn:=by
  obtain⟨k,rfl⟩:=rR (lN 0xc8c124124124814d84530188d [_,_] rfl hN hn);have hne:σ.length≠st:=λq=>by rw[←q] at h;simp at h
  refine b8 (h1 (σ++[.ah [.str x,a.af,.ref d]]) (.ref σ.length) .add (old h) ⟨_,hne,rfl,bC⟩ (k+1) (Nat.le_of_add_le_add_right ‹_›)) λak e2 k2 s2=>?_;rw[List.length_append,List.length_singleton] at e2;exact⟨ak,DI B hd hl e2,(Kp.add.trans .add).trans k2,s2⟩
 yq {σ d N g x a b p q s s1 s2 es w} h h0 hk bA hd hl hN h1 h2 _ n hn:=by
  refine bZ (ky (cT ‹_›)) λk bg=>?_;subst bg;have hk0:s.k+1<10^10:=by(exact Int.le_of_lt ‹_›)
  have k0:Kp st σ ((σ.set st (dT s.new)).set st (dT s.new.new)):=Kp.set.trans .set;refine b8 (h1 _ k0 (gi (gi h)) (k+1) (cg (bz ‹_›))) λae e1 k1 s1'=>?_;have k1:=(k0.trans .add).trans k1;refine b8 (h2 ae k1 s1' (k+1) (cg (bz ‹_›))) λak e2 k2 s2'=>?_;exact⟨ak,O1 B (sK B h h0 hk0) (sK B (gi h) (by show 0<=s.k+1;exact lI 0x61320049049205320 [_] rfl h0) (hk)) (k0.get bA hd) hl e1 (k1.get bA hd) hl e2,(k1.trans .add).trans k2,s2'⟩
end
def K0:Int:=9000000000
section
variable{st:Nat}{aE:H->Sg->Prop}{aZ:H->V->Str->Tm->Nat->Prop}{Out:Lv->Nat->Tm->Nat->H->Bv×Sg->Prop}
def rq(st:Nat)(aE:H->Sg->Prop)(aZ:H->V->Str->Tm->Nat->Prop)(Out:Lv->Nat->Tm->Nat->H->Bv×Sg->Prop)(VF:Nat)(V:Int)(v:Sv)(o:Option Qh.V)(Δ:Dm)(σ:H):Lv->Mn->Prop
|.z,.val _=>o=some v.b.v
|.o,_=>o=some (.str v.y)
|.z,.fn ka _=>∃cv p body d' es',o=some cv/\aZ σ cv p body d'/\d'≠st/\σ[d']?=some (.ay es')/\es'.length<=aM/\
   ∀cI:Dm,Δ.le cI->∀ag s u,Kp st σ ag->aE ag s->fF cI ka u->0<=s.k->Below cI s.k->s.k+V<=K0->Out .z VF body ag.length (ag++[.ay (bc es' p u.v)]) (v.f u s)
def oy(st:Nat)(aE:H->Sg->Prop)(aZ:H->V->Str->Tm->Nat->Prop)(Out:Lv->Nat->Tm->Nat->H->Bv×Sg->Prop)(VF:Nat)(V:Int)(Γ:Sc)(η:Str->Sv)(Δ:Dm)(σ:H)(es:List (Str×Qh.V)):Prop:=
 ∀x e,look Γ x=some e->rq st aE aZ Out VF V (η x) (cS es x) Δ σ e.l e.m
variable(K:oi st aE aZ Out)
include K
theorem rq.up{VF jj:Nat}{V V':Int}{v:Sv}{o:Option Qh.V}{Δ cI:Dm}{σ ag:H}{l:Lv}{m:Mn}(h:rq st aE aZ Out VF V v o Δ σ l m)(k:Kp st σ ag)(q:Δ.le cI)(hF:VF<=jj)(hV:V<=V'):rq st aE aZ Out jj V' v o cI ag l m:=by
 cases l with
|o=>exact h
|z=>cases m with
  |val _=>exact h
  |fn a r=>
   refine CP (h) λcv p body d' es' h1 h2 h3 h4 h5 h6=>?_;exact⟨cv,p,body,d',es',h1,K.uq k h2,h3,k.get h3 h4,h5,λm6 q' cp s u k' g1 g2 g3 g4 g5=>K.more (h6 m6 (q.trans q') cp s u (k.trans k') g1 g2 g3 g4 (lI 0xe04d30124124124814f3453813cc [_,_,_,_] rfl hV g5)) hF⟩
theorem oy.up{VF jj:Nat}{V V':Int}{Γ:Sc}{η:Str->Sv}{Δ cI:Dm}{σ ag:H}{es:List (Str×Qh.V)}(h:oy st aE aZ Out VF V Γ η Δ σ es)(k:Kp st σ ag)(q:Δ.le cI)(hF:VF<=jj)(hV:V<=V'):oy st aE aZ Out jj V' Γ η cI ag es:=λx e he=>(h x e he).up K k q hF hV
omit K in
theorem oy.put{VF:Nat}{V:Int}{Γ:Sc}{η:Str->Sv}{Δ:Dm}{σ:H}{es:List (Str×Qh.V)}(h:oy st aE aZ Out VF V Γ η Δ σ es){x:Str}{l:Lv}{m:Mn}{v:Sv}{val:Qh.V}(hv:rq st aE aZ Out VF V v (some val) Δ σ l m):oy st aE aZ Out VF V (Γ++[⟨x,l,m⟩]) (bQ η x v) Δ σ (bc es x val):=λy e he=>by
 rw[fS] at he;rw[ml];unfold bQ;cases hx:(x==y) with
|true=>rw[hx,if_pos rfl] at he;(apply eJ he);rw[if_pos rfl,if_pos rfl];exact hv
|false=>rw[hx] at he;rw[if_neg (by simp),if_neg (by simp)];exact h y e he
end
theorem O6{a b:Nat}(h:a<=b):max 500 a<=max 500 b:=Nat.max_le.mpr ⟨eG _ _,bP h (eN _ _)⟩
theorem BT{f:Bool}{d VF jj:Nat}(h:fa d+max 70 jj+2<=fa (d+1)+max 70 VF):fb f d jj+2<=fb f (d+1) VF:=by
 cases f with
|true=>exact bP (Nat.add_le_add (Nat.add_le_add_left (O6 (bP (d7 _ 2) h)) (2*d)) (aQ 2)) (Nat.le_of_eq (Nat.add_right_comm _ _ _))
|false=>exact h
theorem iz{f:Bool}{d VF:Nat}:fb f d VF+2<=fb f (d+1) VF:=BT (by(refine(show fa (d+1)=14+2*fa d from rfl)▸?_);generalize max 70 VF=M;exact lN 0x134110c8ae06204d301248 [_,_] rfl)
theorem DK{f:Bool}{d VF n:Nat}(h:n<=max 70 VF):n<=fb f d VF:=by
 have h:=bP h (dD _ (fa d));cases f with
|true=>exact bP h (bP (eN 500 _) (dD _ _))
|false=>exact h
theorem DL{f:Bool}{d VF:Nat}:VF<=fb f d VF:=DK (eN _ _)
theorem eW{f:Bool}{d VF:Nat}:70<=fb f d VF:=DK (eG _ _)
theorem DM{f:Bool}{d VF:Nat}:fb false d VF<=fb f d VF:=by
 cases f with
|true=>exact bP (eN 500 _) (dD _ _)
|false=>exact aQ _
theorem NR{f:Bool}{d VF:Nat}:fb f d (max VF (fb false d VF))+2<=fb f (d+1) VF:=BT (by
 have h:=Nat.max_le.mpr ⟨show 70<=fb false d VF from eW,Nat.max_le.mpr ⟨show VF<=fb false d VF from DL,aQ _⟩⟩;refine(show fa (d+1)=14+2*fa d from rfl)▸?_;have e:fb false d VF=fa d+max 70 VF:=rfl;rw[e] at h ⊢;generalize max 70 VF=M at h ⊢;generalize max 70 (max VF (fa d+M))=N at h ⊢
 exact lN 0x4e044322b8188134c04904920504e30d [_,_,_] rfl h)
section
variable{st:Nat}{aE:H->Sg->Prop}{aZ:H->V->Str->Tm->Nat->Prop}{Out:Lv->Nat->Tm->Nat->H->Bv×Sg->Prop}
def cE(st:Nat)(aE:H->Sg->Prop)(aZ:H->V->Str->Tm->Nat->Prop)(Out:Lv->Nat->Tm->Nat->H->Bv×Sg->Prop)(A VF:Nat)(V w:Int)(m:Nat)(f:Bool)(Γ:Sc)(l:Lv)(t:Tm):Prop:=
 ∀η Δ s σ d es,(f=true->Δ=λ_=>none)->Se V Γ η Δ->0<=s.k->Below Δ s.k->s.k+w<=K0->aE σ s->d≠st->σ[d]?=some (.ay es)->es.length+m<=aM->oy st aE aZ Out VF V Γ η Δ σ es->Out l A t d σ (sd t η l s)
variable(K:oi st aE aZ Out)
include K
omit K in
theorem fL{r:Bv×Sg}{b:Bv}(h:r.1=b):r=(b,r.2):=Prod.ext h rfl
theorem O7{A VF m:Nat}{V bj bq w:Int}{f:Bool}{Γ:Sc}{o:U2}{a b:Tm}{u D:Nat}(ga:bF V bj Γ u D .z a .aA)(gb:bF V bq Γ u D .z b .aA)(ha:cE st aE aZ Out A VF V bj m f Γ .z a)(hb:cE st aE aZ Out A VF V bq m f Γ .z b)(hA:1<=A)(hw:bj+bq<=w)(h0:0<=bj/\0<=bq):
  cE st aE aZ Out (A+2) VF V w m f Γ .z (.aj o a b):=λη Δ s σ d es hf S hk hB hK hs bA hd hl D=>by
 obtain⟨⟨i,e1,r1⟩,l1⟩:=ga η Δ s S hk hB;have hk1:=cw hk l1.k;have:=l1.w;obtain⟨⟨j,e2,r2⟩,l2⟩:=gb η Δ (sd a η .z s).2 S hk1 (hB.up l1.k);have o1:=ha η Δ s σ d es hf S hk hB (lI 0x38134c0490490490492054013cd14f80538140c [_,_,_,_,_] rfl hw h0.2 hK) hs bA hd hl D;replace o1:=(fL e1)▸o1;have e:sd (.aj o a b) η .z s=(.num (fD o i j),(sd b η .z (sd a η .z s).2).2):=by
  show(Bv.num (fD o (sd a η .z s).1.n (sd b η .z (sd a η .z s).2).1.n),_)=_
  (refine e1▸?_;refine e2▸?_);rfl
 refine e▸?_
 exact K.yl hA (AL r1) o1 (λae k1 s1=>by
  have:=hb η Δ (sd a η .z s).2 ae d es hf S hk1 (hB.up l1.k) (lI 0x38134c04904904904920540134f14e05044504f44c [_,_,_,_,_,_] rfl hw hK this) s1 bA (k1.get bA hd) hl (D.up K k1 (Dm.le.refl _) (aQ _) (a8 _));replace this:=(fL e2)▸this
  exact this) l2
theorem DN{A VF m:Nat}{V w:Int}{f:Bool}{Γ:Sc}{i:Int}(hA:1<=A):cE st aE aZ Out A VF V w m f Γ .z (.num i):=λη Δ s σ d es hf S hk hB hK hs bA hd hl D=>K.more (K.yh hs) hA
theorem xM{A VF m:Nat}{V w:Int}{f:Bool}{Γ:Sc}{i:Int}(hA:1<=A):cE st aE aZ Out A VF V w m f Γ .o (.num i):=λη Δ s σ d es hf S hk hB hK hs bA hd hl D=>K.more (K.yi hs) hA
theorem CI{A VF m:Nat}{V w:Int}{f:Bool}{Γ:Sc}{x:Str}{k:Kd}(hx:look Γ x=some ⟨x,.z,.val k⟩)(hA:1<=A):cE st aE aZ Out A VF V w m f Γ .z (.name x):=λη Δ s σ d es hf S hk hB hK hs bA hd hl D=>K.more (K.xH hs hd (D x _ hx)) hA
theorem tU{A VF m:Nat}{V w:Int}{f:Bool}{Γ:Sc}{x:Str}{k:Kd}(hx:look Γ x=some ⟨x,.o,.val k⟩)(hA:1<=A):cE st aE aZ Out A VF V w m f Γ .o (.name x):=λη Δ s σ d es hf S hk hB hK hs bA hd hl D=>K.more (K.xI hs hd (D x _ hx)) hA
theorem tV{A VF m:Nat}{V w:Int}{f f':Bool}{Γ:Sc}{a:Tm}(y5:f'=true->f=true)(ha:cE st aE aZ Out A VF V w m f' Γ .z a)(hA:1<=A):cE st aE aZ Out (A+1) VF V w m f Γ .o (.un .hole a):=λη Δ s σ d es hf S hk hB hK hs bA hd hl D=>K.hole hA (ha η Δ s σ d es (λq=>hf (y5 q)) S hk hB hK hs bA hd hl D)
theorem CJ{A VF m:Nat}{V w:Int}{f:Bool}{Γ:Sc}{a:Tm}{u D':Nat}(ga:bF V w Γ u D' .z a .aA)(ha:cE st aE aZ Out A VF V w m f Γ .z a)(hA:1<=A):cE st aE aZ Out (A+1) VF V w m f Γ .z (.un .lift a):=λη Δ s σ d es hf S hk hB hK hs bA hd hl D=>by
 obtain⟨⟨i,e1,r1⟩,l1⟩:=ga η Δ s S hk hB;have o1:=ha η Δ s σ d es hf S hk hB hK hs bA hd hl D;replace o1:=(fL e1)▸o1;have e:sd (.un .lift a) η .z s=(.pc (.num i),(sd a η .z s).2):=by show(Bv.pc (.num (sd a η .z s).1.n),_)=_;(refine e1▸?_);rfl
 refine e▸?_;exact K.lift hA o1
theorem nW{A VF m:Nat}{V w:Int}{f f':Bool}{Γ:Sc}{a:Tm}{k:Kd}{u D':Nat}(y5:f'=true->f=true)(ga:bF V w Γ u D' .o a k)(ha:cE st aE aZ Out A VF V w m f' Γ .o a)(hA:D'+3<=A):cE st aE aZ Out (A+1) VF V w m f Γ .z (.un .bE a):=λη Δ s σ d es hf S hk hB hK hs bA hd hl D=>by
 have e:sd (.un .bE a) η .z s=if 5000<s.c then(.pc (.num 0),s) else il (sd a η .o s).1.p (sd a η .o s).2:=rfl
 refine e▸?_
 by_cases hc:5000<s.c
 ·(refine(if_pos hc)▸?_);exact K.more (K.xb hs hc) (dD _ _)
 ·refine(if_neg hc)▸?_;obtain⟨⟨p,e1,p1,p2,_⟩,l1⟩:=ga η Δ s S hk hB;have o1:=ha η Δ s σ d es (λq=>hf (y5 q)) S hk hB hK hs bA hd hl D;replace o1:=(fL e1)▸o1;refine e1▸?_;show Out .z (A+1) (.un .bE a) d σ (il p (sd a η .o s).2);exact K.bE hs hc o1 l1.c (lN 0xd06330124124124814d06338538c [_,_,_] rfl hA p2)
theorem O8{A VF m:Nat}{V w:Int}{Γ:Sc}{a:Tm}{D':Nat}(ga:bF V w Γ 0 D' .z a .aV)(ha:cE st aE aZ Out A VF V w m true Γ .z a)(hA:490<=A):cE st aE aZ Out (A+2) VF V w m true Γ .z (.un .run a):=λη Δ s σ d es hf S hk hB hK hs bA hd hl D=>by
 refine a5 (ga η Δ s S hk hB) λg1 l1=>?_;refine n4 (g1.ok) λp e1 p1 p2 p3 p4=>?_;have o1:=ha η Δ s σ d es hf S hk hB hK hs bA hd hl D;replace o1:=(fL e1)▸o1;have e:sd (.un .run a) η .z s=gW p (sd a η .z s).2:=by show gW (sd a η .z s).1.p _=_;(refine e1▸?_);rfl
 refine e▸?_;have:=p4 λ_=>0;exact K.run o1 (by have:=hf rfl;(refine this▸?_);exact p1) p3 (lN 0x301e330124124824817e34510da0c [_,_] rfl p3 this) hA
theorem NS{A VF m:Nat}{V bj bq w:Int}{f:Bool}{Γ:Sc}{a b c:Tm}{k:Kd}{u D' u' qj:Nat}(ga:bF V bj Γ u D' .z a .aA)(gb:bF V bq Γ u' qj .z b k)(gc:bF V bq Γ u' qj .z c k)(ha:cE st aE aZ Out A VF V bj m f Γ .z a)(hb:cE st aE aZ Out A VF V bq m f Γ .z b)(hc:cE st aE aZ Out A VF V bq m f Γ .z c)(hA:1<=A)(hw:bj+bq<=w)(h0:0<=bj/\0<=bq):
  cE st aE aZ Out (A+2) VF V w m f Γ .z (.when a b c):=λη Δ s σ d es hf S hk hB hK hs bA hd hl D=>by
 obtain⟨⟨i,e1,r1⟩,l1⟩:=ga η Δ s S hk hB;have hk1:=cw hk l1.k;have:=l1.w;have o1:=ha η Δ s σ d es hf S hk hB (lI 0x38134c0490490490492054013cd14f80538140c [_,_,_,_,_] rfl hw h0.2 hK) hs bA hd hl D;replace o1:=(fL e1)▸o1;have e:sd (.when a b c) η .z s=sd (if i=0 then c else b) η .z (sd a η .z s).2:=by
  show(if(sd a η .z s).1.n=0 then sd c η .z else sd b η .z) _=_;refine e1▸?_;show(if i=0 then sd c η .z else sd b η .z) _=_
  split<;>rfl
 refine e▸?_;have l2:∃w,(sd a η .z s).2.le w (sd (if i=0 then c else b) η .z (sd a η .z s).2).2:=by
  split
  ·exact⟨_,(gc η Δ _ S hk1 (hB.up l1.k)).2⟩
  ·exact⟨_,(gb η Δ _ S hk1 (hB.up l1.k)).2⟩
 refine bZ (l2) λw' l2=>?_
 exact K.xJ hA o1 (λae k1 s1=>by
  have D1:=D.up K k1 (Dm.le.refl _) (aQ _) (a8 _)
  split
  ·exact hc η Δ _ ae d es hf S hk1 (hB.up l1.k) (lI 0x38134c04904904904920540134f14e05044504f44c [_,_,_,_,_,_] rfl hw hK this) s1 bA (k1.get bA hd) hl D1
  ·exact hb η Δ _ ae d es hf S hk1 (hB.up l1.k) (lI 0x38134c04904904904920540134f14e05044504f44c [_,_,_,_,_,_] rfl hw hK this) s1 bA (k1.get bA hd) hl D1) l2
theorem DO{A VF m:Nat}{V bj bq w:Int}{f:Bool}{Γ:Sc}{o:U2}{a b:Tm}{k:Kd}{u D':Nat}(ga:bF V bj Γ u D' .o a k)(gb:bF V bq Γ u D' .o b k)(ha:cE st aE aZ Out A VF V bj m f Γ .o a)(hb:cE st aE aZ Out A VF V bq m f Γ .o b)(hA:1<=A)(hw:bj+bq<=w)(h0:0<=bj/\0<=bq):
  cE st aE aZ Out (A+1) VF V w m f Γ .o (.aj o a b):=λη Δ s σ d es hf S hk hB hK hs bA hd hl D=>by
 refine bB λXx aI=>?_;obtain⟨⟨p,e1,_⟩,l1⟩:=ga η Δ s S hk hB;have hk1:=cw hk l1.k;have:=l1.w;obtain⟨⟨q,e2,_⟩,l2⟩:=gb η Δ (sd a η .o s).2 S hk1 (hB.up l1.k);refine aI ?_;have o1:=ha η Δ s σ d es hf S hk hB (lI 0x38134c0490490490492054013cd14f80538140c [_,_,_,_,_] rfl hw h0.2 hK) hs bA hd hl D;replace o1:=(fL e1)▸o1;have e:sd (.aj o a b) η .o s=(.pc (.aj o p q),(sd b η .o (sd a η .o s).2).2):=by
  show(Bv.pc (.aj o (sd a η .o s).1.p (sd b η .o (sd a η .o s).2).1.p),_)=_
  (refine e1▸?_;refine e2▸?_);rfl
 refine e▸?_
 exact K.ym hA o1 (λae k1 s1=>by
  have:=hb η Δ (sd a η .o s).2 ae d es hf S hk1 (hB.up l1.k) (lI 0x38134c04904904904920540134f14e05044504f44c [_,_,_,_,_,_] rfl hw hK this) s1 bA (k1.get bA hd) hl (D.up K k1 (Dm.le.refl _) (aQ _) (a8 _));replace this:=(fL e2)▸this
  exact this) l2
theorem NT{A VF m:Nat}{V bj bq jL w:Int}{f:Bool}{Γ:Sc}{a b c:Tm}{k k':Kd}{u D':Nat}(ga:bF V bj Γ u D' .o a k)(gb:bF V bq Γ u D' .o b k')(gc:bF V jL Γ u D' .o c k')(ha:cE st aE aZ Out A VF V bj m f Γ .o a)(hb:cE st aE aZ Out A VF V bq m f Γ .o b)(hc:cE st aE aZ Out A VF V jL m f Γ .o c)(hA:1<=A)(hw:bj+bq+jL<=w)(h0:0<=bj/\0<=bq/\0<=jL):
  cE st aE aZ Out (A+1) VF V w m f Γ .o (.when a b c):=λη Δ s σ d es hf S hk hB hK hs bA hd hl D=>by
 refine bB λXx aI=>?_;obtain⟨⟨p,e1,_⟩,l1⟩:=ga η Δ s S hk hB;have hk1:=cw hk l1.k;have y1:=l1.w;obtain⟨⟨q,e2,_⟩,l2⟩:=gb η Δ (sd a η .o s).2 S hk1 (hB.up l1.k);have hk2:=cw hk1 l2.k;have y2:=l2.w;have hB2:=(hB.up l1.k).up l2.k;obtain⟨⟨t,e3,_⟩,l3⟩:=gc η Δ (sd b η .o (sd a η .o s).2).2 S hk2 hB2;refine aI ?_;have o1:=ha η Δ s σ d es hf S hk hB (lI 0xe04d30124124124124124815105004f3453e015080538144c [_,_,_,_,_,_] rfl hw h0.2.1 h0.2.2 hK) hs bA hd hl D;replace o1:=(fL e1)▸o1;have e:sd (.when a b c) η .o s=(.pc (.when p q t),(sd c η .o (sd b η .o (sd a η .o s).2).2).2):=by
  show(Bv.pc (.when (sd a η .o s).1.p (sd b η .o (sd a η .o s).2).1.p (sd c η .o (sd b η .o (sd a η .o s).2).2).1.p),_)=_
  (refine e1▸?_;refine e2▸?_;refine e3▸?_);rfl
 refine e▸?_
 exact K.xK hA o1 (λae k1 s1=>by
  have:=hb η Δ (sd a η .o s).2 ae d es hf S hk1 (hB.up l1.k) (lI 0xe04d30124124124124124815105004d3c542014e05148504f48c [_,_,_,_,_,_,_] rfl hw h0.2.2 hK y1) s1 bA (k1.get bA hd) hl (D.up K k1 (Dm.le.refl _) (aQ _) (a8 _));replace this:=(fL e2)▸this
  exact this) l2 (λae k1 s1=>by
  have:=hc η Δ _ ae d es hf S hk2 hB2 (lI 0xe04d30124124124124124815104d0503c53814521413d24c50504cc [_,_,_,_,_,_,_,_] rfl hw hK y1 y2) s1 bA (k1.get bA hd) hl (D.up K k1 (Dm.le.refl _) (aQ _) (a8 _));replace this:=(fL e3)▸this
  exact this) l3
theorem O9{A VF m:Nat}{V w:Int}{f:Bool}{Γ:Sc}{g:Str}{a:Tm}{ka k k':Kd}{u D':Nat}(hg:look Γ g=some ⟨g,.o,.fn ka k⟩)(ga:bF V w Γ u D' .o a k')(ha:cE st aE aZ Out A VF V w m f Γ .o a)(hA:1<=A):cE st aE aZ Out (A+1) VF V w m f Γ .o (.use g a):=λη Δ s σ d es hf S hk hB hK hs bA hd hl D=>by
 obtain⟨⟨p,e1,_⟩,l1⟩:=ga η Δ s S hk hB;have o1:=ha η Δ s σ d es hf S hk hB hK hs bA hd hl D;replace o1:=(fL e1)▸o1;have e:sd (.use g a) η .o s=(.pc (.use (η g).y p),(sd a η .o s).2):=by show(Bv.pc (.use (η g).y (sd a η .o s).1.p),_)=_;(refine e1▸?_);rfl
 refine e▸?_;exact K.yk hd (D g _ hg) hA o1
theorem xN{A VF m:Nat}{V bj bq w:Int}{f:Bool}{Γ:Sc}{x:Str}{a b:Tm}{k k':Kd}{u D' qj:Nat}(ga:bF V bj Γ 0 D' .z a k)(gb:bF V bq (Γ++[⟨x,.z,.val k⟩]) u qj .z b k')(ha:cE st aE aZ Out A VF V bj (m+1) f Γ .z a)(hb:cE st aE aZ Out A VF V bq m f (Γ++[⟨x,.z,.val k⟩]) .z b)(hA:1<=A)(hw:bj+bq<=w)(h0:0<=bj/\0<=bq):
  cE st aE aZ Out (A+2) VF V w (m+1) f Γ .z (.aX x a b):=λη Δ s σ d es hf S hk hB hK hs bA hd hl D=>by
 refine a5 (ga η Δ s S hk hB) λg1 l1=>?_;have hk1:=cw hk l1.k;have:=l1.w;have S':Se V (Γ++[⟨x,.z,.val k⟩]) (bQ η x (.val (sd a η .z s).1)) Δ:=S.put ⟨_,rfl,g1.ok⟩
 exact K.yn bA hd (ip ‹_›) hA (ha η Δ s σ d es hf S hk hB (lI 0x38134c0490490490492054013cd14f80538140c [_,_,_,_,_] rfl hw h0.2 hK) hs bA hd hl D) (λae k1 s1=>by
  exact hb _ Δ _ _ ae.length _ hf S' hk1 (hB.up l1.k) (lI 0x38134c04904904904920540134f14e05044504f44c [_,_,_,_,_,_] rfl hw hK this) (K.app s1) (K.ne s1) bC (by have:=gM es x (sd a η .z s).1.v;exact lN 0xe04d30124124124814e04184d3c50613cc [_,_,_,_] rfl hl this) ((D.up K (k1.trans .add) (Dm.le.refl _) (aQ _) (a8 _)).put rfl)) ((gb _ Δ (sd a η .z s).2 S' hk1 (hB.up l1.k)).2)
theorem ur{A VF m:Nat}{V bj bq w:Int}{Γ:Sc}{x:Str}{a b:Tm}{ka k k':Kd}{u D':Nat}(ga:bF V bj Γ u D' .o a ka)(gb:bF V bq (Γ++[⟨x,.o,.val k⟩]) u D' .o b k')(ha:cE st aE aZ Out A VF V bj (m+1) false Γ .o a)(hb:cE st aE aZ Out A VF V bq m false (Γ++[⟨x,.o,.val k⟩]) .o b)(hA:1<=A)(hw:1+bj+bq<=w)(h0:0<=bj/\0<=bq){f:Bool}:
  cE st aE aZ Out (A+2) VF V w (m+1) f Γ .o (Tm.aX x a b):=λη Δ s σ d es hf S hk hB hK hs bA hd hl D=>by
 have r7:K0=9000000000:=rfl;have hn:s.new.k=s.k+1:=rfl;have fresh:=hB.none hk (a8 _);have le:=Dm.le.new .v fresh;obtain⟨⟨p,e1,_⟩,l1⟩:=ga η Δ s.new S (lI 0xc80124124024124814d80606134c [_,_] rfl hk hn) (hB.up (lI 0x34c04904920606130d [_,_] rfl hn));have lk:=l1.k;have lw:=l1.w;have S':Se V (Γ++[⟨x,.o,.val k⟩]) (bQ η x (.nm (vn (s.k+1)))) (dj Δ (vn (s.k+1)) .v):=(S.up le (a8 _)).put ⟨_,rfl,jY⟩;have oR:Below (dj Δ (vn (s.k+1)) .v) (sd a η .o s.new).2.k:=(hB.up (Int.le_of_lt ‹_›)).put ⟨by exact lI 0x61321049049205320 [_] rfl hk,by assumption⟩ _;obtain⟨⟨q,e2,_⟩,l2⟩:=gb _ _ (sd a η .o s.new).2 S' (lI 0x32004904904900904920536018184d38530e [_,_,_] rfl hk hn lk) oR;have e:sd (Tm.aX x a b) η .o s=(.pc (Tm.aX (vn (s.k+1)) p q),(sd b (bQ η x (.nm (vn (s.k+1)))) .o (sd a η .o s.new).2).2):=by
  show(Bv.pc (.aX (vn (s.k+1)) (sd a η .o s.new).1.p (sd b (bQ η x (.nm (vn (s.k+1)))) .o (sd a η .o s.new).2).1.p),_)=_
  (refine e1▸?_;refine e2▸?_);rfl
 refine e▸?_
 exact K.yo hs hk (lI 0x1d01fe1c21d41e906106130124124124024124124124124814f04e04d8453a015004f306007a07447707607a1015244504d452 [_,_,_,_,_,_,_] rfl hw h0.2 hK r7 lk lw) bA hd (ip ‹_›) hA (λcb k0 s0=>by
  have:=ha η Δ s.new cb d es (by exact ff) S (lI 0xc80124124024124814d80606134c [_,_] rfl hk hn) (hB.up (lI 0x34c04904920606130d [_,_] rfl hn)) (lI 0xe04d30124024124124124124815004f04d8453e014e05044606144c [_,_,_,_,_,_] rfl hw h0.2 hK hn) s0 bA (k0.get bA hd) hl (D.up K k0 (Dm.le.refl _) (aQ _) (a8 _));replace this:=(fL e1)▸this
  exact this) (λae k1 s1=>by
  have:=hb _ _ (sd a η .o s.new).2 (ae++[.ay (bc es x (.str (vn (s.k+1))))]) ae.length (bc es x (.str (vn (s.k+1)))) (by exact ff) S' (lI 0x32004904904900904920536018184d38530e [_,_,_] rfl hk hn lk) oR (lI 0xe04d30124124024124124124815004d04f84538141118185148504f48c [_,_,_,_,_,_,_] rfl hw hK hn lw) (K.app s1) (K.ne s1) bC (by have:=gM es x (.str (vn (s.k+1)));exact lN 0xe04d30124124124814e04184d3c50613cc [_,_,_,_] rfl hl this) ((D.up K (k1.trans .add) le (aQ _) (a8 _)).put rfl);replace this:=(fL e2)▸this
  exact this) l2
theorem LL{A VF m:Nat}{V bj bq w:Int}{Γ:Sc}{x:Str}{a b:Tm}{ka k k':Kd}{u D':Nat}{n:Int}(ga:bF V bj Γ u D' .o a ka)(gb:bF V bq (Γ++[⟨x,.o,.val k⟩]) u D' .o b k')(ha:cE st aE aZ Out A VF V bj (m+1) false Γ .o a)(hb:cE st aE aZ Out A VF V bq m false (Γ++[⟨x,.o,.val k⟩]) .o b)(hA:1<=A)(hw:1+bj+bq<=w)(h0:0<=bj/\0<=bq){f:Bool}:
  cE st aE aZ Out (A+2) VF V w (m+1) f Γ .o (Tm.bb n x a b):=λη Δ s σ d es hf S hk hB hK hs bA hd hl D=>by
 have r7:K0=9000000000:=rfl;have hn:s.new.k=s.k+1:=rfl;have le:=Dm.le.new .v (hB.none hk (a8 _));obtain⟨⟨p,e1,_⟩,l1⟩:=ga η Δ s.new S (lI 0xc80124124024124814d80606134c [_,_] rfl hk hn) (hB.up (lI 0x34c04904920606130d [_,_] rfl hn));have lk:=l1.k;have lw:=l1.w;have S':Se V (Γ++[⟨x,.o,.val k⟩]) (bQ η x (.nm (vn (s.k+1)))) (dj Δ (vn (s.k+1)) .v):=(S.up le (a8 _)).put ⟨_,rfl,jY⟩;have oR:Below (dj Δ (vn (s.k+1)) .v) (sd a η .o s.new).2.k:=(hB.up (Int.le_of_lt ‹_›)).put ⟨by exact lI 0x61321049049205320 [_] rfl hk,by assumption⟩ _;obtain⟨⟨q,e2,_⟩,l2⟩:=gb _ _ (sd a η .o s.new).2 S' (lI 0x32004904904900904920536018184d38530e [_,_,_] rfl hk hn lk) oR;have e:sd (Tm.bb n x a b) η .o s=(.pc (Tm.bb n (vn (s.k+1)) p q),(sd b (bQ η x (.nm (vn (s.k+1)))) .o (sd a η .o s.new).2).2):=by
  show(Bv.pc (.bb n (vn (s.k+1)) (sd a η .o s.new).1.p (sd b (bQ η x (.nm (vn (s.k+1)))) .o (sd a η .o s.new).2).1.p),_)=_
  (refine e1▸?_;refine e2▸?_);rfl
 refine e▸?_
 exact K.xc hs hk (lI 0x1d01fe1c21d41e906106130124124124024124124124124814f04e04d8453a015004f306007a07447707607a1015244504d452 [_,_,_,_,_,_,_] rfl hw h0.2 hK r7 lk lw) bA hd (ip ‹_›) hA (λcb k0 s0=>by
  have:=ha η Δ s.new cb d es (by exact ff) S (lI 0xc80124124024124814d80606134c [_,_] rfl hk hn) (hB.up (lI 0x34c04904920606130d [_,_] rfl hn)) (lI 0xe04d30124024124124124124815004f04d8453e014e05044606144c [_,_,_,_,_,_] rfl hw h0.2 hK hn) s0 bA (k0.get bA hd) hl (D.up K k0 (Dm.le.refl _) (aQ _) (a8 _));replace this:=(fL e1)▸this
  exact this) (λae k1 s1=>by
  have:=hb _ _ (sd a η .o s.new).2 (ae++[.ay (bc es x (.str (vn (s.k+1))))]) ae.length (bc es x (.str (vn (s.k+1)))) (by exact ff) S' (lI 0x32004904904900904920536018184d38530e [_,_,_] rfl hk hn lk) oR (lI 0xe04d30124124024124124124815004d04f84538141118185148504f48c [_,_,_,_,_,_,_] rfl hw hK hn lw) (K.app s1) (K.ne s1) bC (by have:=gM es x (.str (vn (s.k+1)));exact lN 0xe04d30124124124814e04184d3c50613cc [_,_,_,_] rfl hl this) ((D.up K (k1.trans .add) le (aQ _) (a8 _)).put rfl);replace this:=(fL e2)▸this
  exact this) l2
theorem Pa{A VF m:Nat}{V bj w:Int}{f:Bool}{Γ:Sc}{g:Str}{a:Tm}{ka k:Kd}{D':Nat}(hg:look Γ g=some ⟨g,.z,.fn ka k⟩)(ga:bF V bj Γ 0 D' .z a ka)(ha:cE st aE aZ Out A VF V bj m f Γ .z a)(hA:1<=A)(hF:VF<=A)(hw:bj+V<=w)(h0:0<=bj/\0<=V):cE st aE aZ Out (A+2) VF V w m f Γ .z (.use g a):=λη Δ s σ d es hf S hk hB hK hs bA hd hl D=>by
 refine a5 (ga η Δ s S hk hB) λg1 l1=>?_;have hk1:=cw hk l1.k;have:=l1.w;refine CP (D g _ hg) λcv x body d' es' h1 h2 h3 h4 h5 h6=>?_;refine aO (S g _ hg) λF eF RC=>?_;have l2:=(RC Δ (Dm.le.refl _) _ (sd a η .z s).2 g1.ok hk1 (hB.up l1.k)).2;have e:sd (.use g a) η .z s=(η g).f (sd a η .z s).1 (sd a η .z s).2:=rfl;refine e▸?_;refine K.yj (u:=(sd a η .z s).1) (s1:=(sd a η .z s).2) bA hd h1 h2 h3 h4 h5 hA (ha η Δ s σ d es hf S hk hB (by exact lI 0x38134c0490490490492054013cd14f80538140c [_,_,_,_,_] rfl hw h0.2 hK) hs bA hd hl D) (λae k1 s1=>K.more (h6 Δ (Dm.le.refl _) ae _ _ k1 s1 g1.ok hk1 (hB.up l1.k) (by exact lI 0x38134c04904904904920540134f14e05044504f44c [_,_,_,_,_,_] rfl hw hK this)) hF) (w:=V) ?_
 (refine eF▸?_);exact l2
theorem LM{A VF m:Nat}{V bj bq w:Int}{f:Bool}{Γ:Sc}{x:Str}{n:Int}{a b:Tm}{k:Kd}{D' qj:Nat}(hn:0<=n/\n<=9)(ga:bF V bj Γ 0 D' .z a k)(gb:bF V bq (Γ++[⟨x,.z,.val k⟩]) 0 qj .z b k)(ha:cE st aE aZ Out A VF V bj (m+1) f Γ .z a)(hb:cE st aE aZ Out A VF V bq m f (Γ++[⟨x,.z,.val k⟩]) .z b)(hA:1<=A)(hw:bj+9*bq<=w)(h0:0<=bj/\0<=bq):
  cE st aE aZ Out (A+2) VF V w (m+1) f Γ .z (.bb n x a b):=λη Δ s σ d es hf S hk hB hK hs bA hd hl D=>by
 refine a5 (ga η Δ s S hk hB) λg1 l1=>?_;have S':∀r:Bv×Sg,fF Δ k r.1->Se V (Γ++[⟨x,.z,.val k⟩]) (bQ η x (.val r.1)) Δ:=λr hr=>S.put ⟨_,rfl,hr⟩;have go:∀j:Nat,j<=9->fF Δ k (cM (λv=>sd b (bQ η x (.val v)) .z) j (sd a η .z s)).1/\s.le (bj+j*bq) (cM (λv=>sd b (bQ η x (.val v)) .z) j (sd a η .z s)).2:=by
  intro j
  induction j with
  |zero=>exact λ_=>⟨g1.ok,l1.up (by simp)⟩
  |succ j ih=>
   intro hj;refine a5 (ih (bz ‹_›)) λh1 h2=>?_;rw[sB];refine a5 (gb _ Δ _ (S' _ h1) (cw hk h2.k) (hB.up h2.k)) λg2 l2=>?_;refine⟨g2.ok,h2.trans l2 ?_⟩;rw[show((j+1:Nat):Int)=j+1 by rfl,Int.add_mul,Int.one_mul];exact lI 0x104e34c04e04d301248 [_,_,_] rfl
 have ez:∀j:Nat,j<9->bj+j*bq+bq<=w:=λj hj=>by
  have:(j:Int)*bq<=8*bq:=Int.mul_le_mul_of_nonneg_right (lI 0xa0c049049205a4184c [_] rfl (Int.ofNat_lt.mpr hj)) h0.2;exact lI 0xf04e04d30124124124814f0443a930510ea0d [_,_,_,_] rfl hw this
 exact K.xd hn bA hd (ip ‹_›) hA (ha η Δ s σ d es hf S hk hB (lI 0x38134c04904924904920540110fa4d14f80538140c [_,_,_,_,_] rfl hw h0.2 hK) hs bA hd hl D) (λj ae hj k1 s1=>by
  have j9:=Nat.lt_of_lt_of_le hj (Int.toNat_le.mpr hn.2);refine a5 (go j (Nat.le_of_lt j9)) λh1 h2=>?_;have y1:=h2.w;have y2:=ez j j9;rw[sB]
  exact hb _ Δ _ (ae++[.ay (bc es x (cM (λv=>sd b (bQ η x (.val v)) .z) j (sd a η .z s)).1.v)]) ae.length (bc es x (cM (λv=>sd b (bQ η x (.val v)) .z) j (sd a η .z s)).1.v) hf (S' _ h1) (cw hk h2.k) (hB.up h2.k) (lI 0x38134c04904904904920538140f14105244f305401341491 [_,_,_,_,_,_,_] rfl hK y1 y2) (K.app s1) (K.ne s1) bC (by have:=gM es x (cM (λv=>sd b (bQ η x (.val v)) .z) j (sd a η .z s)).1.v;exact lN 0xe04d30124124124814e04184d3c50613cc [_,_,_,_] rfl hl this) ((D.up K (k1.trans .add) (Dm.le.refl _) (aQ _) (a8 _)).put rfl))
  λj hj=>by
   obtain⟨h1,h2⟩:=go j (Nat.le_of_lt (Nat.lt_of_lt_of_le hj (Int.toNat_le.mpr hn.2)));rw[sB];exact⟨_,(gb _ Δ _ (S' _ h1) (cw hk h2.k) (hB.up h2.k)).2⟩
theorem Pb{A A' VF jj m:Nat}{V V' bj w:Int}{f:Bool}{Γ:Sc}{g x kd:Str}{a b:Tm}{ka k k':Kd}{D':Nat}(ga:bF V bj (Γ++[⟨x,.z,.val ka⟩]) 0 D' .z a k)(ha:cE st aE aZ Out A' VF V bj m false (Γ++[⟨x,.z,.val ka⟩]) .z a)(hb:cE st aE aZ Out A jj V' w m f (Γ++[⟨g,.z,.fn ka k⟩]) .z b)(hA:1<=A)(hF:VF<=jj)(RD:A'<=jj)(hV:V<=V')(hw:bj<=V')(h0:0<=bj):
  cE st aE aZ Out (A+2) VF V w (m+1) f Γ .z (.def_ g x kd a b):=λη Δ s σ d es hf S hk hB hK hs bA hd hl D=>by
 have S':Se V' (Γ++[⟨g,.z,.fn ka k⟩]) (bQ η g (.fn λv=>sd a (bQ η x (.val v)) .z)) Δ:=(S.up (Dm.le.refl Δ) hV).put ⟨_,rfl,λcI q v s' hv hk' oR=>by
  refine a5 (ga (bQ η x (.val v)) cI s' ((S.up q (a8 _)).put ⟨_,rfl,hv⟩) hk' oR) λg1 l1=>?_
  exact⟨g1.ok,l1.up hw⟩⟩
 refine K.yp hs bA hd (ip ‹_›) hA λae cv k1 s1 hc=>?_;refine hb _ Δ s (ae++[.ay (bc es g cv)]) ae.length (bc es g cv) hf S' hk hB hK (K.app s1) (K.ne s1) bC (by have:=gM es g cv;exact lN 0xe04d30124124124814e04184d3c50613cc [_,_,_,_] rfl hl this) ((D.up K (k1.trans .add) (Dm.le.refl _) hF hV).put ?_);refine⟨cv,x,a,d,es,rfl,K.uq .add hc,bA,old (k1.get bA hd),by(exact ip ‹_›),λcI q ag s' u k' g1 g2 g3 g4 g5=>?_⟩;exact K.more (ha (bQ η x (.val u)) cI s' (ag++[.ay (bc es x u.v)]) ag.length (bc es x u.v) (λz=>by exact ff z) ((S.up q (a8 _)).put ⟨_,rfl,g2⟩) g3 g4 (lI 0xe04d30124124124814f3453813cc [_,_,_,_] rfl hw g5) (K.app g1) (K.ne g1) bC (by have:=gM es x u.v;exact lN 0xe04d30124124124814e04184d3c50613cc [_,_,_,_] rfl hl this) ((D.up K (((k1.trans .add).trans k').trans .add) q (aQ _) (a8 _)).put rfl)) RD
theorem Pc{A VF m:Nat}{V bj bq w:Int}{Γ:Sc}{g x:Str}{a b:Tm}{ka k k' k₁:Kd}{u u' D':Nat}(ga:bF V bj (Γ++[⟨x,.o,.val ka⟩]) u D' .o a k₁)(gb:bF V bq (Γ++[⟨g,.o,.fn ka k⟩]) u' D' .o b k')(ha:cE st aE aZ Out A VF V bj m false (Γ++[⟨x,.o,.val ka⟩]) .o a)(hb:cE st aE aZ Out A VF V bq m false (Γ++[⟨g,.o,.fn ka k⟩]) .o b)(hA:1<=A)(hw:2+bj+bq<=w)(h0:0<=bj/\0<=bq){f:Bool}:
  cE st aE aZ Out (A+2) VF V w (m+1) f Γ .o (.def_ g x "number" a b):=λη Δ s σ d es hf S hk hB hK hs bA hd hl D=>by
 have r7:K0=9000000000:=rfl;have hn:s.new.new.k=s.k+1+1:=rfl;have f1:=hB.none hk (a8 _);have f2:=hB.none hk (lI 0x184184c061301248 [_] rfl);have S1:Se V (Γ++[⟨x,.o,.val ka⟩]) (bQ η x (.nm (vn (s.k+1+1)))) (dj Δ (vn (s.k+1+1)) .v):=(S.up (Dm.le.new .v f2) (a8 _)).put ⟨_,rfl,jY⟩;have B1:Below (dj Δ (vn (s.k+1+1)) .v) s.new.new.k:=(hB.up (lI 0x34c04904920606106130d [_,_] rfl hn)).put ⟨by exact lI 0x61061321049049205320 [_] rfl hk,by(exact a8 _)⟩ _;refine bB λXx aI=>?_;obtain⟨⟨p,e1,_⟩,l1⟩:=ga _ _ s.new.new S1 (lI 0xc80124124024124814d80606106134c [_,_] rfl hk hn) B1;have lk:=l1.k;have lw:=l1.w;have S2:Se V (Γ++[⟨g,.o,.fn ka k⟩]) (bQ η g (.nm (vn (s.k+1)))) (dj Δ (vn (s.k+1)) .f):=(S.up (Dm.le.new .f f1) (a8 _)).put ⟨_,rfl,jY⟩;have B2:Below (dj Δ (vn (s.k+1)) .f) (sd a (bQ η x (.nm (vn (s.k+1+1)))) .o s.new.new).2.k:=(hB.up (lI 0xd30124124124818184184c38534e [_,_,_] rfl hn lk)).put ⟨by exact lI 0x61321049049205320 [_] rfl hk,by(exact Int.le_of_lt ‹_›)⟩ _;obtain⟨⟨q,e2,_⟩,l2⟩:=gb _ _ (sd a (bQ η x (.nm (vn (s.k+1+1)))) .o s.new.new).2 S2 (lI 0x32004904904900904920536018184184d38530e [_,_,_] rfl hk hn lk) B2;refine aI ?_;have e:sd (.def_ g x "number" a b) η .o s=(.pc (.def_ (vn (s.k+1)) (vn (s.k+1+1)) "number" p q),(sd b (bQ η g (.nm (vn (s.k+1)))) .o (sd a (bQ η x (.nm (vn (s.k+1+1)))) .o s.new.new).2).2):=by
  show(Bv.pc (.def_ (vn (s.k+1)) (vn (s.k+1+1)) "number" (sd a (bQ η x (.nm (vn (s.k+1+1)))) .o s.new.new).1.p (sd b (bQ η g (.nm (vn (s.k+1)))) .o (sd a (bQ η x (.nm (vn (s.k+1+1)))) .o s.new.new).2).1.p),_)=_
  (refine e1▸?_;refine e2▸?_);rfl
 refine e▸?_
 exact K.yq hs hk (lI 0x1d01fe1c21d41e906106106130124124124024124124124124814f04e04d8853a015004f306007a07447707607a1015244504d452 [_,_,_,_,_,_,_] rfl hw h0.2 hK r7 lk lw) bA hd (ip ‹_›) hA (λae k1 s1=>by
  have:=ha _ _ s.new.new (ae++[.ay (bc es x (.str (vn (s.k+1+1))))]) ae.length (bc es x (.str (vn (s.k+1+1)))) (λz=>by exact ff z) S1 (lI 0xc80124124024124814d80606106134c [_,_] rfl hk hn) B1 (lI 0xe04d30124024124124124124815004f04d8853e014e05044606106144c [_,_,_,_,_,_] rfl hw h0.2 hK hn) (K.app s1) (K.ne s1) bC (by have:=gM es x (.str (vn (s.k+1+1)));exact lN 0xe04d30124124124814e04184d3c50613cc [_,_,_,_] rfl hl this) ((D.up K (k1.trans .add) (Dm.le.new .v f2) (aQ _) (a8 _)).put rfl);replace this:=(fL e1)▸this
  exact this) (λae k1 s1=>by
  have:=hb _ _ (sd a (bQ η x (.nm (vn (s.k+1+1)))) .o s.new.new).2 (ae++[.ay (bc es g (.str (vn (s.k+1))))]) ae.length (bc es g (.str (vn (s.k+1)))) (λz=>by exact ff z) S2 (lI 0x32004904904900904920536018184184d38530e [_,_,_] rfl hk hn lk) B2 (lI 0xe04d30124124024124124124815004d04f88538141118184185148504f48c [_,_,_,_,_,_,_] rfl hw hK hn lw) (K.app s1) (K.ne s1) bC (by have:=gM es g (.str (vn (s.k+1)));exact lN 0xe04d30124124124814e04184d3c50613cc [_,_,_,_] rfl hl this) ((D.up K (k1.trans .add) (Dm.le.new .f f1) (aQ _) (a8 _)).put rfl);replace this:=(fL e2)▸this
  exact this) l2
end
section
variable{st:Nat}{aE:H->Sg->Prop}{aZ:H->V->Str->Tm->Nat->Prop}{Out:Lv->Nat->Tm->Nat->H->Bv×Sg->Prop}
variable(K:oi st aE aZ Out)
include K
theorem cE.up{A A' VF m m':Nat}{V w w':Int}{f:Bool}{Γ:Sc}{l:Lv}{t:Tm}(h:cE st aE aZ Out A VF V w m f Γ l t)(hA:A<=A')(hw:w<=w')(hm:m<=m'):cE st aE aZ Out A' VF V w' m' f Γ l t:=
 λη Δ s σ d es hf S hk hB hK hs bA hd hl D=>K.more (h η Δ s σ d es hf S hk hB (lI 0xe04d30124124124814f3453813cc [_,_,_,_] rfl hw hK) hs bA hd (lN 0xe04d30124124124814f3453813cc [_,_,_,_] rfl hm hl) D) hA
theorem stage{d:Nat}{Γ:Sc}{l:Lv}{f:Bool}{t:Tm}{k:Kd}(h:HG d Γ l f t k):∀b V VF,0<=V->(l=.o->f=false)->(b=false->gI Γ)->d<=cap l b->cE st aE aZ Out (fb f d VF) VF V (W d V) (8*d+8) f Γ l t:=by
 induction h with
|@num d Γ l f i=>intro b V VF hV bu hN hc;have:=eW (f:=f) (d:=d) (VF:=VF);(clear hc bu;cases l);exact DN K (cT ‹_›);exact xM K (cT ‹_›)
|@name d Γ l f x k hx=>intro b V VF hV bu hN hc;have:=eW (f:=f) (d:=d) (VF:=VF);(clear hc bu;cases l);exact CI K hx (cT ‹_›);exact tU K hx (cT ‹_›)
|@jb d Γ f x hx=>intro b V VF hV bu hN hc;have:=eW (f:=f) (d:=d) (VF:=VF);exact(tV K (f':=false) (A:=1) (by exact ff) (CI K hx (aQ _)) (aQ _)).up K (cT ‹_›) (a8 _) (aQ _)
|@jw d Γ f x hx=>intro b V VF hV bu hN hc;have:=eW (f:=f) (d:=d) (VF:=VF);exact(nW K (f':=false) (A:=4) (D':=1) (u:=0) (k:=.aA) (by exact ff) ((tv hx (aQ _)).up (aQ _) (aQ _) (de d hV)) (tU K hx (dD _ _)) (aQ _)).up K (cT ‹_›) (a8 _) (aQ _)
|@jx d Γ f i=>intro b V VF hV bu hN hc;have:=eW (f:=f) (d:=d) (VF:=VF);exact(nW K (f':=false) (A:=4) (D':=1) (u:=0) (k:=.aA) (by exact ff) ((w6 (aQ _)).up (aQ _) (aQ _) (de d hV)) (xM K (dD _ _)) (aQ _)).up K (cT ‹_›) (a8 _) (aQ _)
|@jF d Γ f i=>intro b V VF hV bu hN hc;have:=eW (f:=f) (d:=d) (VF:=VF);exact(CJ K (A:=1) (u:=0) (D':=0) (Cz.up (aQ _) (aQ _) (de d hV)) (DN K (aQ _)) (aQ _)).up K (cT ‹_›) (a8 _) (aQ _)
|@aj d Γ l f w a b' ha hb bh bU=>
  intro b V VF hV bu hN hc;have hY:=eW (f:=f) (d:=d) (VF:=VF);have hst:=iz (f:=f) (d:=d) (VF:=VF);have b7:=(ey (d:=d) hV).1;have hw0:=de d hV;have g1:=(era ha b V hV bu hN (bz ‹_›)).1;have g2:=(era hb b V hV bu hN (bz ‹_›)).1;have i1:=bh b V VF hV bu hN (bz ‹_›);have i2:=bU b V VF hV bu hN (bz ‹_›);clear hc bu bU bh hb ha;cases l with
  |z=>exact(O7 K (u:=ub .z b d) (D:=30+d) g1 g2 i1 i2 (cT ‹_›) (a8 _) ⟨hw0,hw0⟩).up K hst (by exact lI 0x34130c0492090490492053a014d04432a04e8c5320 [_,_,_] rfl hV b7 hw0) (d7 _ _)
  |o=>exact(DO K g1 g2 i1 i2 (cT ‹_›) (a8 _) ⟨hw0,hw0⟩).up K (bz ‹_›) (by exact lI 0x34130c0492090490492053a014d04432a04e8c5320 [_,_,_] rfl hV b7 hw0) (d7 _ _)
|@when d Γ l f a b' c k ha hb g8 bh bU f9=>
  intro b V VF hV bu hN hc;have hY:=eW (f:=f) (d:=d) (VF:=VF);have hst:=iz (f:=f) (d:=d) (VF:=VF);have b7:=(ey (d:=d) hV).1;have hw0:=de d hV;have g1:=(era ha b V hV bu hN (bz ‹_›)).1;have g2:=(era hb b V hV bu hN (bz ‹_›)).1;have g3:=(era g8 b V hV bu hN (bz ‹_›)).1;have i1:=bh b V VF hV bu hN (bz ‹_›);have i2:=bU b V VF hV bu hN (bz ‹_›);have i3:=f9 b V VF hV bu hN (bz ‹_›);clear hc bu f9 bU bh g8 hb ha;cases l with
  |z=>exact(NS K g1 g2 g3 i1 i2 i3 (cT ‹_›) (a8 _) ⟨hw0,hw0⟩).up K hst (by exact lI 0x34130c0492090490492053a014d04432a04e8c5320 [_,_,_] rfl hV b7 hw0) (d7 _ _)
  |o=>exact(NT K g1 g2 g3 i1 i2 i3 (cT ‹_›) (a8 _) ⟨hw0,hw0,hw0⟩).up K (bz ‹_›) (by exact lI 0x34130130c0491c90490492053a014d04432a04e8c5320 [_,_,_] rfl hV b7 hw0) (d7 _ _)
|@use d Γ l f g a ka k hg ha bh=>
  intro b V VF hV bu hN hc;have hY:=eW (f:=f) (d:=d) (VF:=VF);have hst:=iz (f:=f) (d:=d) (VF:=VF);have b7:=(ey (d:=d) hV).1;have hw0:=de d hV;have g1:=(era ha b V hV bu hN (bz ‹_›)).1;have i1:=bh b V VF hV bu hN (bz ‹_›);clear bu bh ha;cases l with
  |z=>rw[lU hc] at g1;exact(Pa K hg g1 i1 (cT ‹_›) DL (a8 _) ⟨hw0,hV⟩).up K hst (by exact lI 0xe04d30124924124814e04432a04d8c5320 [_,_,_] rfl b7 hw0) (d7 _ _)
  |o=>exact(O9 K hg g1 i1 (cT ‹_›)).up K (bz ‹_›) (by exact lI 0x34c0492490490492053a014d04432a04e8c5320 [_,_,_] rfl hV b7 hw0) (d7 _ _)
|@aX d Γ l f x a b' k k' ha hb bh bU=>
  intro b V VF hV bu hN hc;have hY:=eW (f:=f) (d:=d) (VF:=VF);have hst:=iz (f:=f) (d:=d) (VF:=VF);have b7:=(ey (d:=d) hV).1;have hw0:=de d hV;have fH:b=false->gI (Γ++[⟨x,l,.val k⟩]):=λq=>(hN q).val _ _ _;have g1:=(era ha b V hV bu hN (bz ‹_›)).1;have g2:=(era hb b V hV bu fH (bz ‹_›)).1;have i1:=(bh b V VF hV bu hN (bz ‹_›)).up K (aQ _) (a8 _) (show 8*d+8<=8*d+8+1 by(exact d7 _ _));have i2:=bU b V VF hV bu fH (bz ‹_›);clear fH bU bh hb ha;cases l with
  |z=>rw[lU hc] at g1;exact(xN K g1 g2 i1 i2 (cT ‹_›) (a8 _) ⟨hw0,hw0⟩).up K hst (by exact lI 0x34130c0492090490492053a014d04432a04e8c5320 [_,_,_] rfl hV b7 hw0) (by exact lN 0x1a0406132806106810ca01248 [_] rfl)
  |o=>cases bu rfl;exact(ur K g1 g2 i1 i2 (cT ‹_›) (a8 _) ⟨hw0,hw0⟩).up K hst (by exact lI 0x3413013210492090490492053a014d04432a04e8c5320 [_,_,_] rfl hV b7 hw0) (by exact lN 0x1a0406132806106810ca01248 [_] rfl)
|@bb d Γ l f n x a b' k hn ha hb bh bU=>
  intro b V VF hV bu hN hc;have hY:=eW (f:=f) (d:=d) (VF:=VF);have hst:=iz (f:=f) (d:=d) (VF:=VF);have b7:=(ey (d:=d) hV).1;have hw0:=de d hV;have fH:b=false->gI (Γ++[⟨x,l,.val k⟩]):=λq=>(hN q).val _ _ _;have g1:=(era ha b V hV bu hN (bz ‹_›)).1;have g2:=(era hb b V hV bu fH (bz ‹_›)).1;have i1:=(bh b V VF hV bu hN (bz ‹_›)).up K (aQ _) (a8 _) (show 8*d+8<=8*d+8+1 by(exact d7 _ _));have i2:=bU b V VF hV bu fH (bz ‹_›);clear fH bU bh hb ha;cases l with
  |z=>rw[lU hc] at g1 g2;exact(LM K hn g1 g2 i1 i2 (cT ‹_›) (a8 _) ⟨hw0,hw0⟩).up K hst (by exact lI 0xd04432930124124124814e80534110ca813a3 [_,_,_] rfl hV b7) (by exact lN 0x1a0406132806106810ca01248 [_] rfl)
  |o=>cases bu rfl;exact(LL K g1 g2 i1 i2 (cT ‹_›) (a8 _) ⟨hw0,hw0⟩).up K hst (by exact lI 0x3413013210492090490492053a014d04432a04e8c5320 [_,_,_] rfl hV b7 hw0) (by exact lN 0x1a0406132806106810ca01248 [_] rfl)
|@lift d Γ f a ha bh=>
  intro b V VF hV bu hN hc;have hY:=eW (f:=f) (d:=d) (VF:=VF);have hst:=iz (f:=f) (d:=d) (VF:=VF);have b7:=(ey (d:=d) hV).1;have hw0:=de d hV;exact(CJ K ((era ha b V hV bu hN (bz ‹_›)).1) (bh b V VF hV bu hN (bz ‹_›)) (cT ‹_›)).up K (bz ‹_›) (by exact lI 0x34c0492490490492053a014d04432a04e8c5320 [_,_,_] rfl hV b7 hw0) (d7 _ _)
|@run d Γ a ha bh=>
  intro b V VF hV bu hN hc;have hst:=iz (f:=true) (d:=d) (VF:=VF);have RP:500<=fb true d VF:=by show 500<=2*d+max 500 (fa d+max 70 VF);exact lN 0x10c10ce18784dd079c4322d079c8208049201241248049201241248 [_,_,_] rfl
  have b7:=(ey (d:=d) hV).1;have hw0:=de d hV;have g1:=(era ha b V hV bu hN (bz ‹_›)).1;rw[lU hc] at g1;exact(O8 K g1 (bh b V VF hV bu hN (bz ‹_›)) (cT ‹_›)).up K hst (by exact lI 0x34c0492490490492053a014d04432a04e8c5320 [_,_,_] rfl hV b7 hw0) (d7 _ _)
|@bE d Γ f a ha bh=>
  intro b V VF hV bu hN hc;have hY:=eW (f:=f) (d:=d) (VF:=VF);have hst:=iz (f:=f) (d:=d) (VF:=VF);have b7:=(ey (d:=d) hV).1;have hw0:=de d hV;have hc':d<=cap .o b:=by cases b with
   |false=>have hc:d+1<=5:=hc;show d<=4;(exact cg ‹_›)
   |true=>have hc:d+1<=2:=hc;show d<=3;exact lN 0x8cc04904920588184c [_] rfl hc
  have h4:d<=4:=by clear hc;cases b with
   |false=>exact hc'
   |true=>have:d<=3:=hc';(exact jN ‹_›)
  have y6:=eW (f:=false) (d:=d) (VF:=VF);have y7:=DM (f:=f) (d:=d) (VF:=VF);exact(nW K (f':=false) (by exact ff) ((era ha b V hV (λ_=>rfl) hN hc').1) (bh b V VF hV (λ_=>rfl) hN hc') (by exact lN 0xd06304cf812412412481643053461e1 [_,_] rfl h4 y6)).up K (by exact lN 0xd06130124124124814d06238538c [_,_,_] rfl hst y7) (by exact lI 0x34c0492490490492053a014d04432a04e8c5320 [_,_,_] rfl hV b7 hw0) (d7 _ _)
|@hole d Γ f a ha bh=>
  intro b V VF hV bu hN hc;have hY:=eW (f:=f) (d:=d) (VF:=VF);have hst:=iz (f:=f) (d:=d) (VF:=VF);have b7:=(ey (d:=d) hV).1;have hw0:=de d hV;have hc':d<=cap .z b:=by cases b with
   |false=>have hc:d+1<=4:=hc;show d<=5;exact lN 0x94c04904920590184c [_] rfl hc
   |true=>have hc:d+1<=3:=hc;show d<=2;(exact cg ‹_›)
  have y6:=eW (f:=false) (d:=d) (VF:=VF);have y7:=DM (f:=f) (d:=d) (VF:=VF);exact(tV K (f':=false) (by exact ff) (bh b V VF hV (λq=>by cases q) hN hc') (cT ‹_›)).up K (by exact lN 0xd06130124124124814d06238538c [_,_,_] rfl hst y7) (by exact lI 0x34c0492490490492053a014d04432a04e8c5320 [_,_,_] rfl hV b7 hw0) (d7 _ _)
|@def_ d Γ l f g x a b' ka k k' hl ha hb bh bU=>
  intro b V VF hV bu hN hc;have hY:=eW (f:=f) (d:=d) (VF:=VF);have hst:=iz (f:=f) (d:=d) (VF:=VF);have b7:=(ey (d:=d) hV).1;have hw0:=de d hV;have y8:b=false->gI (Γ++[⟨x,l,.val ka⟩]):=λq=>(hN q).val _ _ _;have g1:=(era ha b V hV (λ_=>rfl) y8 (bz ‹_›)).1;have i1:=bh b V VF hV (λ_=>rfl) y8 (bz ‹_›);clear y8 bh ha;cases l with
  |z=>
   have yY:0<=max V (W d V):=by exact lI 0xcd320201241241248049009049205360 [_,_] rfl hw0
   have h11:=(ey (d:=d) hV).2;have i2:=bU b (max V (W d V)) (max VF (fb false d VF)) yY (λq=>by cases q) (λq=>(hN q).fz _ _ _) (bz ‹_›);have y6:=eW (f:=f) (d:=d) (VF:=max VF (fb false d VF));have RE:=NR (f:=f) (d:=d) (VF:=VF);rw[lU hc] at g1;exact(Pb K (k':=k') g1 i1 i2 (cT ‹_›) (by exact lN 0x334c308049201241248 [_,_] rfl) (by exact lN 0x330d308049049201248 [_,_] rfl) (by exact lI 0x334c308049201241248 [_,_] rfl) (by exact lI 0x330d308049049201248 [_,_] rfl) hw0).up K RE (by exact lI 0xd30124124124814e8053413013a3 [_,_,_] rfl hV h11) (by exact lN 0x1a0406132806106810ca01248 [_] rfl)
  |o=>
   cases bu rfl;obtain⟨rfl,rfl⟩:=hl rfl;have h3:d<=3:=by cases b with
    |false=>have hc:d+1<=4:=hc;(exact cg ‹_›)
    |true=>have hc:d+1<=3:=hc;(exact bz ‹_›)
   have g2:=(era hb true V hV bu (by exact tf) (show d<=3 from h3)).1;have i2:=bU true V VF hV (λ_=>rfl) (by exact tf) (show d<=3 from h3);exact(Pc K g1 g2 i1 i2 (cT ‹_›) (a8 _) ⟨hw0,hw0⟩).up K hst (by exact lI 0x3413013220492090490492053a014d04432a04e8c5320 [_,_,_] rfl hV b7 hw0) (by exact lN 0x1a0406132806106810ca01248 [_] rfl)
|@kept d Γ f x g a b' ha hb bh bU=>
  intro b V VF hV bu hN hc;cases bu rfl;have hw0:=de d hV;have hw1:=nZ hV (show d-1<=d by(exact Nat.sub_le _ _));have iQ:=de (d-1) hV;have b7:=(ey (d:=d) hV).1;have h4:d+1<=4:=by cases b with
   |false=>exact hc
   |true=>have hc:d+1<=3:=hc;(exact jN ‹_›)
  have hY:=eW (f:=false) (d:=d-1) (VF:=VF);have yM:fb false (d-1) VF+6<=fb false (d+1) VF:=by
   clear hY h4 b7 iQ hw1 hw0 hc bU bh hb ha;cases d with
   |zero=>show 0+max 70 VF+6<=14+max 70 VF;exact lN 0x10cc18786e0660433061e1808208049201241248049049201248 [_] rfl
   |succ e=>have h1:fb false e VF+2<=fb false (e+1) VF:=iz;have e2:fa (e+1+1)=14+2*fa (e+1):=rfl;show fb false e VF+6<=fa (e+1+1)+max 70 VF;have h1:fb false e VF+2<=fa (e+1)+max 70 VF:=h1;exact lN 0x10ce18784d06630820808900908900904920224224224024124808908908900904920224024224024124818110f8ae3450433861e13c188c [_,_,_,_] rfl e2 h1
  have fH:b=false->gI (Γ++[⟨x,.o,.val .aA⟩]++[⟨g,.z,.val .aV⟩]):=λq=>((hN q).val _ _ _).val _ _ _;have g1:=(era ha b V hV (λ_=>rfl) hN (by exact lN 0x34284c20124024124804900904920534184c [_,_] rfl hc)).1;have g2:=(era hb b V hV (λ_=>rfl) fH (by exact lN 0x34284c20124024124804900904920534184c [_,_] rfl hc)).1;have i1:=bh b V VF hV (λ_=>rfl) hN (by exact lN 0x34284c20124024124804900904920534184c [_,_] rfl hc);have i2:=bU b V VF hV (λ_=>rfl) fH (by exact lN 0x34284c20124024124804900904920534184c [_,_] rfl hc);have gn:bF V 0 (Γ++[⟨x,.o,.val .aA⟩]) 0 1 .o (.name x) .aA:=tv (lY Γ ⟨x,.o,.val .aA⟩) (aQ _);have gq:bF V 0 (Γ++[⟨x,.o,.val .aA⟩]) 0 30 .z (.un .bE (.name x)) .aV:=qS (a8 _) gn;have r8:=qS (D':=30) iQ g2;have ih:=tV K (f:=false) (f':=false) (λq=>q) (xN K (x:=g) gq r8 (nW K (f':=false) (λq=>q) gn (tU K (lY Γ ⟨x,.o,.val .aA⟩) (cT ‹_›)) (cT ‹_›)) (nW K (f:=false) (f':=false) (λq=>q) g2 i2 (by exact lN 0xd06304284cf880490090490492012402412481640613053461e1 [_,_] rfl h4 hY)) (dD _ _) (show(0:Int)+W (d-1) V<=W (d-1) V by exact lI 825917182536 [_] rfl) ⟨a8 _,iQ⟩) (dD _ _);exact(ur K (g1.up (aQ _) (show 30+(d-1)<=30+d by exact lN 0x133e04284cf88049201248 [_] rfl) (a8 _)) (w7 (k:=.aA) (D:=30+d) (w8 (x:=g) gq r8 (show(0:Int)+W (d-1) V<=W (d-1) V by exact lI 825917182536 [_] rfl)) (d7 _ _)) (i1.up K (show fb false (d-1) VF<=fb false (d-1) VF+1+2+1 by exact lN 0x184188184c301248 [_] rfl) (a8 _) (show 8*(d-1)+8<=8*(d-1)+8+1+1 by exact lN 0x1841841a040a132806810284ca08208049201248248049209201248 [_] rfl)) ih (dD _ _) (a8 _) ⟨iQ,iQ⟩).up K ‹_› (by exact lI 0xd04c04c84124124824a24124814e8053cc14c80534110fa813a3 [_,_,_,_] rfl hV hw1 iQ b7) (by exact lN 0x1a0406132806106910284ca08049201248 [_] rfl)
|@twice d Γ f x g a y i b' c ha hb g8 bh bU f9=>
  intro b V VF hV bu hN hc;cases bu rfl;have hw0:=de d hV;have hw1:=nZ hV (show d-1<=d by(exact Nat.sub_le _ _));have r5:=nZ hV (show d-2<=d by(exact Nat.sub_le _ _));have iQ:=de (d-1) hV;have jS:=de (d-2) hV;have b7:=(ey (d:=d) hV).1;have h4:d+1<=4:=by cases b with
   |false=>exact hc
   |true=>have hc:d+1<=3:=hc;(exact jN ‹_›)
  have hY:=eW (f:=false) (d:=d-1) (VF:=VF);have yM:fb false (d-1) VF+10<=fb false (d+1) VF:=by
   clear hY h4 b7 jS iQ r5 hw1 hw0 hc f9 bh g8 ha;cases d with
   |zero=>show 0+max 70 VF+10<=14+max 70 VF;exact lN 0x10cc18786e06a0433061e1808208049201241248049049201248 [_] rfl
   |succ e=>have h1:fb false e VF+2<=fb false (e+1) VF:=iz;have e2:fa (e+1+1)=14+2*fa (e+1):=rfl;show fb false e VF+10<=fa (e+1+1)+max 70 VF;have h1:fb false e VF+2<=fa (e+1)+max 70 VF:=h1;exact lN 0x10ce18784d06a30820804900904900904920124124124024124804904904900904920124024124024124818110f8ae3450433861e13c188c [_,_,_,_] rfl e2 h1
  have fm:∀{i j:Nat},i<=j->fb false i VF<=fb false j VF:=λ{i j} h=>by
   induction j with
   |zero=>rw[Nat.le_zero.mp h];exact aQ _
   |succ j ih=>
    rcases Nat.lt_or_ge i (j+1) with q|q
    ·exact bP (ih (cg ‹_›)) (ip (iz (f:=false) (d:=j) (VF:=VF)))
    ·rw[show i=j+1 by exact cj (lN 0x6134c04904920506134c [_,_] rfl h) (lN 0x34184c04904920534184c [_,_] rfl q)];exact aQ _
  have fH:b=false->gI (Γ++[⟨x,.o,.val .aA⟩]++[⟨g,.z,.val .aV⟩]++[⟨y,.o,.val .aA⟩]):=λq=>(((hN q).val _ _ _).val _ _ _).val _ _ _;have g3:=(era g8 b V hV (λ_=>rfl) fH (by exact lN 0x34288c20124024124804900904920534184c [_,_] rfl hc)).1;have FQ:=(((era hb b V hV (λ_=>rfl) fH (eI _)).1).up (aQ _) (show 30+0<=30+(d-2) by(exact d7 _ _)) (a8 _)).up (show ub .o b 0<=ub .o b (d-2) from mD (eI _)) (aQ _) (a8 _);have FR:W 0 V=0:=rfl;have uu:∃u4,ub .o b (d-2)=0∨ub .o b (d-2)+1<=u4:=⟨ub .o b (d-2)+1,.inr (aQ _)⟩;refine bZ (uu) λu4 yO=>?_;have g4:=CA (o:=.sum) (k':=.aA) FQ g3 yO (aQ _) (show W 0 V+W (d-2) V<=W (d-2) V by exact lI 0x34134c04900904920680c [_,_] rfl FR);have FT:bF V 0 (Γ++[⟨x,.o,.val .aA⟩]++[⟨g,.z,.val .aV⟩]) u4 (30+(d-2)+1) .o (.num i) .aA:=w6 (dD _ _);have g5:=CB (iL:=.aA) (x:=y) FT g4 (u':=u4+1) (.inr (aQ _)) (aQ _) (show 1+0+W (d-2) V<=1+W (d-2) V by(exact a8 _));have gn:bF V 0 (Γ++[⟨x,.o,.val .aA⟩]) 0 1 .o (.name x) .aA:=tv (lY Γ ⟨x,.o,.val .aA⟩) (aQ _);have gq:bF V 0 (Γ++[⟨x,.o,.val .aA⟩]) 0 30 .z (.un .bE (.name x)) .aV:=qS (a8 _) gn;have r8:=qS (D':=30) (show(0:Int)<=1+W (d-2) V by exact lI 0x4c860049049205320 [_] rfl jS) g5;have gx:∃u9,bF V (W (d-1) V) Γ u9 (30+d) .o a .aA/\bF V (1+W (d-2) V) (Γ++[⟨x,.o,.val .aA⟩]) u9 (30+d) .o (.un .hole (.aX g (.un .bE (.name x)) (.un .bE (.aX y (.num i) (.aj .sum b' c))))) .aA:=⟨max (ub .o b (d-1)) (u4+1),((era ha b V hV (λ_=>rfl) hN (by exact lN 0x34284c20124024124804900904920534184c [_,_] rfl hc)).1).up (by exact lN 0x306134c308049201241248 [_,_] rfl) (by exact lN 0x133e04284cf88049201248 [_] rfl) (a8 _),(w7 (k:=.aA) (D:=30+d) (w8 (x:=g) gq r8 (show(0:Int)+(1+W (d-2) V)<=1+W (d-2) V by exact lI 0x1321041321801248 [_] rfl)) (d7 _ _)).up (by exact lN 0x306130d061308049049201248 [_,_] rfl) (aQ _) (a8 _)⟩;obtain⟨u9,RF,RG⟩:=gx;exact(ur K RF RG ((bh b V VF hV (λ_=>rfl) hN (by exact lN 0x34284c20124024124804900904920534184c [_,_] rfl hc)).up K (show fb false (d-1) VF<=fb false (d-1) VF+1+2+1+2+1 by exact lN 0x184188184188184c301248 [_] rfl) (a8 _) (show 8*(d-1)+8<=8*d+10+1 by exact lN 0x1841a8432806810284ca08049201248 [_] rfl)) ((tV K (f:=false) (f':=false) (λq=>q) (xN K (x:=g) gq r8 (nW K (f':=false) (λq=>q) gn (tU K (lY Γ ⟨x,.o,.val .aA⟩) (dD _ _)) (by exact lN 0x610623018e10490492053061e1 [_] rfl hY)) (nW K (f:=false) (f':=false) (λq=>q) g5 (ur K (x:=y) (f:=false) FT g4 (xM K (dD _ _)) (DO K (o:=.sum) FQ g3 ((bU b V VF hV (λ_=>rfl) fH (eI _)).up K (fm (show 0<=d-1 by(exact eI _))) (a8 _) (show 8*0+8<=8*(d-2)+8 by(exact dD _ _))) ((f9 b V VF hV (λ_=>rfl) fH (by exact lN 0x34288c20124024124804900904920534184c [_,_] rfl hc)).up K (fm (show d-2<=d-1 by exact lN 0x284c0a2308208049201241248049049201248 [_] rfl)) (a8 _) (aQ _)) (cT ‹_›) (show W 0 V+W (d-2) V<=W (d-2) V by exact lI 0x34134c04900904920680c [_,_] rfl FR) ⟨a8 _,jS⟩) (dD _ _) (show 1+0+W (d-2) V<=1+W (d-2) V by(exact a8 _)) ⟨a8 _,jS⟩) (by exact lN 0x184188d06306106104288cf880490090490492012402412481640613053461e1 [_,_] rfl h4 hY)) (dD _ _) (show(0:Int)+(1+W (d-2) V)<=1+W (d-2) V by exact lI 0x1321041321801248 [_] rfl) ⟨a8 _,by exact lI 0x4c860049049205320 [_] rfl jS⟩) (dD _ _)).up K (aQ _) (a8 _) (show 8*(d-2)+8+1+1<=8*d+10 by exact lN 0x1a8432806106106810288ca08049201248 [_] rfl)) (dD _ _) (a8 _) ⟨iQ,by exact lI 0x4c860049049205320 [_] rfl jS⟩).up K (bz ‹_›) (by exact lI 0x38104d8413210490492092490490492053e015030540d14d805381110a813e3 [_,_,_,_,_] rfl hV hw1 r5 jS b7) (by exact lN 0x1a0406132806106a10ca01248 [_] rfl)
end
section
variable{C:Ctx}{L L1:aR}{σ ae ak bX:H}{a b o:E}{es:EL}{c f:Nat}
theorem iX{α β:Type}{m:M α}{g:α->M β}(h:m σ=.aF c ae):M.bind m g σ=.aF c ae:=by unfold M.bind;rw[h]
theorem ei{s i:Nat}{m:Int}{vs:List V}(h0:ao C o L σ=.ok (.ref s) ae)(h1:Self ae s i m)(h2:dc C es L ae=.ok vs ak)(h3:C.call f (.ref s::vs) ak=.aF c bX):ao C (.cq f o es) L σ=.aF c bX:=by rw[vS,aW h0,aW h1.ok,aW h2,h3]
theorem CK{vs:List V}(h1:dc C es L σ=.ok vs ae)(h2:C.call f vs ae=.aF c ak):ao C (.call f es) L σ=.aF c ak:=by rw[jZ,aW h1,h2]
theorem NU(h1:dc C es L σ=.aF c ae):ao C (.call f es) L σ=.aF c ae:=by rw[jZ];exact iX h1
theorem rt(h1:dc C es L σ=.aF c ae):ao C (.aB es) L σ=.aF c ae:=iX h1
theorem n0(h1:ao C a L σ=.aF c ae):dc C (.cons a es) L σ=.aF c ae:=iX h1
theorem fU{v:V}(h1:ao C a L σ=.ok v ae)(h2:dc C es L ae=.aF c ak):dc C (.cons a es) L σ=.aF c ak:=(aW h1).trans (iX h2)
theorem NV{op:Operator}{v:V}(h1:ao C a L σ=.ok v ae)(h2:ao C b L ae=.aF c ak):ao C (.aj op a b) L σ=.aF c ak:=(aW h1).trans (iX h2)
theorem LN(h1:ao C a L σ=.aF c ae):ao C (.tuple a) L σ=.aF c ae:=iX h1
theorem NW{op:CmpOp}(h1:ao C a L σ=.aF c ae):bR C (.cmp op a b) L σ=.aF c ae:=iX h1
theorem tx{α β:Type}{m:aR->M α}{g:α->Qh.N β}(h:m L σ=.aF c ae):Qh.N.bind (Qh.N.lift m) g L σ=.aF c L ae:=by unfold Qh.N.bind Qh.N.lift;rw[h]
theorem j8{i:Nat}(h1:ao C a L σ=.aF c ae):cG C (.aL i a) L σ=.aF c L ae:=tx h1
theorem gk(h1:ao C a L σ=.aF c ae):cG C (.ret a) L σ=.aF c L ae:=tx h1
theorem LO(h1:ao C a L σ=.aF c ae):cG C (.expr a) L σ=.aF c L ae:=tx h1
theorem LP{t e:SL}(h1:bR C a L σ=.aF c ae):cG C (.ite a t e) L σ=.aF c L ae:=tx h1
theorem dO{s:S}{r:SL}(h:cG C s L σ=.aF c L1 ae):a6 C (.cons s r) L σ=.aF c L1 ae:=by show Qh.N.bind (cG C s) _ L σ=_;unfold Qh.N.bind;rw[h]
theorem eo{t r:SL}(h:bR C a L σ=.ok true ae)(h2:a6 C t L ae=.aF c L1 ak):a6 C (.cons (.ite a t .nil) r) L σ=.aF c L1 ak:=
 dO (by rw[kH h];exact h2)
end
section
variable{P:Prog}{sc:List Int}(B:m5 P)
include B
theorem lZ{n s a:Nat}{m:Int}{σ:H}(S:Self σ s a m)(h0:0<=m)(h1:m+1<10^10):aq P sc (n+1) 26 [.ref s] σ=.ok (.str (vn (m+1))) (σ.set a (.cU (m+1))):=by
 rw[cf B.Fz rfl];have hne:s≠a:=λq=>by obtain⟨c,h⟩:=S.i;(replace h:=(S.n)▸(q▸h));cases h
 have S':Self (σ.set a (.cU (m+1))) s a (m+1):=let ⟨c,h⟩:=S.i;⟨⟨c,xF h (λq=>hne q.symm)⟩,gi S.n⟩
 have hs:qW (.int (m+1)) (σ.set a (.cU (m+1)))=.ok (.str (gh (m+1))) (σ.set a (.cU (m+1))):=by
  show(if 0<=m+1/\m+1<10^10 then _ else _:M V) _=_;rw[if_pos ⟨by exact lI 0x61320049049205320 [_] rfl h0,by assumption⟩];rfl
 have ha:binop .Add (.str "v") (.str (gh (m+1))) (σ.set a (.cU (m+1)))=.ok (.str (vn (m+1))) (σ.set a (.cU (m+1))):=by
  show(if(Str.ofString "v").length+(gh (m+1)).length<=aM then _ else _:M V) _=_;rw[if_pos (text_len (by exact lI 0x61320049049205320 [_] rfl h0) h1)];rfl
 exact(congrArg bS ((dt (JL (bJ (Cs (aD rfl) S) rfl rfl) (aD rfl) S)).trans (bf (bJ rfl (by rw[AS,aW (Cs (aD rfl) S')];exact hs) ha)))).trans rfl
omit B in
theorem LQ{C:Ctx}{L:aR}{o:E}{es:EL}{f s i c:Nat}{m:Int}{σ ae ak:H}(h0:ao C o L σ=.ok (.ref s) ae)(h1:Self ae s i m)(h2:dc C es L ae=.aF c ak):ao C (.cq f o es) L σ=.aF c ak:=by (refine vS▸?_;refine(aW h0)▸?_;refine(aW h1.ok)▸?_);exact iX h2
theorem gO{n s d c:Nat}{t:Tm}{w:Str}{σ ag:H}{L':aR}(hw:∀C x L,ao C (.au (.aa 1) (.int 0)) (x::some t.af::L) σ=.ok (.str w) σ)(h:a6 (cx P sc n) Ez [some (.ref s),some t.af,some (.ref d),some (.str w),none,none,none,none,none,none,none] σ=.aF c L' ag):aq P sc (n+1) 27 [.ref s,t.af,.ref d] σ=.aF c ag:=by rw[cf B.yV rfl];exact(congrArg bS ((a4 (hw _ _ _)).trans h)).trans rfl
theorem iv{n s d c:Nat}{t:Tm}{w:Str}{σ ag:H}{L':aR}(hw:∀C x L,ao C (.au (.aa 1) (.int 0)) (x::some t.af::L) σ=.ok (.str w) σ)(h:a6 (cx P sc n) uF [some (.ref s),some t.af,some (.ref d),some (.str w),none,none,none,none] σ=.aF c L' ag):aq P sc (n+1) 28 [.ref s,t.af,.ref d] σ=.aF c ag:=by rw[cf B.yW rfl];exact(congrArg bS ((a4 (hw _ _ _)).trans h)).trans rfl
theorem NX{n s d a:Nat}{m:Int}{p:Tm}{i:Int}{σ ae:H}(S:Self σ s a m)(e1:aq P sc n 27 [.ref s,p.af,.ref d] σ=.ok (.int i) ae):aq P sc (n+1) 27 [.ref s,(Tm.un .lift p).af,.ref d] σ=.ok (Tm.num i).af ae:=
 jr B (λ_ _ _=>rfl) (jmp 9 (by rfl') (bT (by rfl') (bf (bN (aw rfl (aw (cB (aD rfl) S rfl e1) aU)) (nb rfl)))))
theorem LR{n s d a c:Nat}{m:Int}{p:Tm}{σ ae:H}(S:Self σ s a m)(e1:aq P sc n 27 [.ref s,p.af,.ref d] σ=.aF c ae):aq P sc (n+1) 27 [.ref s,(Tm.un .lift p).af,.ref d] σ=.aF c ae:=
 gO B (λ_ _ _=>rfl) (jmp 9 (by rfl') (eo (by rfl') (dO (gk (rt (fU rfl (n0 (ei (aD rfl) S rfl e1))))))))
theorem LS{n s d a c:Nat}{m:Int}{u:U2}{x y:Tm}{σ ae:H}(S:Self σ s a m)(e1:aq P sc n 27 [.ref s,x.af,.ref d] σ=.aF c ae):aq P sc (n+1) 27 [.ref s,(Tm.aj u x y).af,.ref d] σ=.aF c ae:=
 gO B (λ_ _ _=>rfl) ((bY (by cases u<;>rfl')).trans ((bY (by cases u<;>rfl')).trans (eo (by cases u<;>rfl') (dO (j8 (ei (aD rfl) S rfl e1))))))
theorem LU{n s d a c:Nat}{m m1:Int}{u:U2}{x y:Tm}{v:V}{σ ae ak:H}(S:Self σ s a m)(e1:aq P sc n 27 [.ref s,x.af,.ref d] σ=.ok v ae)(S1:Self ae s a m1)(e2:aq P sc n 27 [.ref s,y.af,.ref d] ae=.aF c ak):aq P sc (n+1) 27 [.ref s,(Tm.aj u x y).af,.ref d] σ=.aF c ak:=
 gO B (λ_ _ _=>rfl) ((bY (by cases u<;>rfl')).trans ((bY (by cases u<;>rfl')).trans (eo (by cases u<;>rfl') (((a4 (cB (aD rfl) S rfl e1)).trans (dO (gk (NU (fU (aD rfl) (fU (aD rfl) (n0 (ei (aD rfl) S1 rfl e2))))))))))))
theorem JZ{n s d a c:Nat}{m:Int}{x y z:Tm}{σ ae:H}(S:Self σ s a m)(e1:aq P sc n 27 [.ref s,x.af,.ref d] σ=.aF c ae):aq P sc (n+1) 27 [.ref s,(Tm.when x y z).af,.ref d] σ=.aF c ae:=
 gO B (λ_ _ _=>rfl) (jmp 3 (by rfl') (eo (by rfl') (dO (LP (NW (ei (aD rfl) S rfl e1))))))
theorem LV{n s d a c:Nat}{m:Int}{x:Str}{p q:Tm}{σ ae:H}(S:Self σ s a m)(e1:aq P sc n 27 [.ref s,p.af,.ref d] σ=.aF c ae):aq P sc (n+1) 27 [.ref s,(Tm.aX x p q).af,.ref d] σ=.aF c ae:=
 gO B (λ_ _ _=>rfl) (jmp 4 (by rfl') (eo (by rfl') (dO (j8 (ei (aD rfl) S rfl e1)))))
theorem LW{n s d a c:Nat}{m m1:Int}{x:Str}{p q:Tm}{v:V}{es:List (Str×V)}{σ ae ak:H}(S:Self σ s a m)(e1:aq P sc (n+1) 27 [.ref s,p.af,.ref d] σ=.ok v ae)(S1:Self ae s a m1)(hd:ae[d]?=some (.ay es))(hl:es.length<=aM)(e2:aq P sc (n+1) 27 [.ref s,q.af,.ref ae.length] (ae++[.ay (bc es x v)])=.aF c ak):aq P sc (n+2) 27 [.ref s,(Tm.aX x p q).af,.ref d] σ=.aF c ak:=
 gO B (λ_ _ _=>rfl) (jmp 4 (by rfl') (eo (by rfl') (((a4 (cB (aD rfl) S rfl e1)).trans (dO (gk (ei (aD rfl) S1 (aw rfl (aw (aJ (aN rfl (aw rfl rfl)) (fp B.eS hd hl)) aU)) e2)))))))
theorem IC{n s d a c:Nat}{m k:Int}{x:Str}{p q:Tm}{σ ae:H}(S:Self σ s a m)(e1:aq P sc n 27 [.ref s,p.af,.ref d] σ=.aF c ae):aq P sc (n+1) 27 [.ref s,(Tm.bb k x p q).af,.ref d] σ=.aF c ae:=
 gO B (λ_ _ _=>rfl) (jmp 5 (by rfl') (eo (by rfl') (dO (j8 (ei (aD rfl) S rfl e1)))))
theorem NY{n s d a c:Nat}{m:Int}{g x kd:Str}{p q:Tm}{es:List (Str×V)}{σ ak:H}(S:Self σ s a m)(hd:σ[d]?=some (.ay es))(hl:es.length<=aM)(e2:aq P sc (n+1) 27 [.ref s,q.af,.ref σ.length] (σ++[.ay (bc es g (.aB [.str x,p.af,.ref d]))])=.aF c ak):aq P sc (n+2) 27 [.ref s,(Tm.def_ g x kd p q).af,.ref d] σ=.aF c ak:=
 gO B (λ_ _ _=>rfl) (jmp 6 (by rfl') (eo (by rfl') (dO (gk (ei (aD rfl) S (aw rfl (aw (aJ (aN rfl (aw rfl (aw (bN (aw rfl (aw rfl rfl)) (nb rfl)) aU))) (fp B.eS hd hl)) aU)) e2)))))
theorem LX{n s d a c:Nat}{m:Int}{g:Str}{p:Tm}{σ ae:H}(S:Self σ s a m)(e1:aq P sc n 27 [.ref s,p.af,.ref d] σ=.aF c ae):aq P sc (n+1) 27 [.ref s,(Tm.use g p).af,.ref d] σ=.aF c ae:=
 gO B (λ_ _ _=>rfl) (jmp 7 (by rfl') (eo (by rfl') (dO (j8 (ei (aD rfl) S rfl e1)))))
theorem LY{n s d a c:Nat}{d':Nat}{m m1:Int}{g x:Str}{p body:Tm}{v:V}{es es':List (Str×V)}{σ ae ak:H}(S:Self σ s a m)(e1:aq P sc (n+1) 27 [.ref s,p.af,.ref d] σ=.ok v ae)(S1:Self ae s a m1)(hd:ae[d]?=some (.ay es))(hg:cS es g=some (.aB [.str x,body.af,.ref d']))(hd':ae[d']?=some (.ay es'))(hl:es'.length<=aM)(e2:aq P sc (n+1) 27 [.ref s,body.af,.ref ae.length] (ae++[.ay (bc es' x v)])=.aF c ak):aq P sc (n+2) 27 [.ref s,(Tm.use g p).af,.ref d] σ=.aF c ak:=
 gO B (λ_ _ _=>rfl) (jmp 7 (by rfl') (eo (by rfl') (((a4 (cB (aD rfl) S rfl e1)).trans ((dt (Bk (b9 (aD rfl) rfl (hZ hd hg)))).trans (dO (gk (ei (aD rfl) S1 (aN rfl (aw (aJ (aN rfl (aN rfl rfl)) (fp B.eS hd' hl)) aU)) e2))))))))
theorem AP{n s d a c:Nat}{m:Int}{p:Tm}{σ ae:H}(S:Self σ s a m)(e1:aq P sc n 28 [.ref s,p.af,.ref d] σ=.aF c ae):aq P sc (n+1) 27 [.ref s,(Tm.un .bE p).af,.ref d] σ=.aF c ae:=
 gO B (λ_ _ _=>rfl) (jmp 8 (by rfl') (eo (by rfl') (dO (j8 (ei (aD rfl) S rfl e1)))))
theorem ID{n s d a c:Nat}{m:Int}{p R:Tm}{σ ae ak:H}(S:Self σ s a m)(e1:aq P sc n 28 [.ref s,p.af,.ref d] σ=.ok R.af ae)(e2:aq P sc n 24 [R.af] ae=.aF c ak):aq P sc (n+1) 27 [.ref s,(Tm.un .bE p).af,.ref d] σ=.aF c ak:=
 gO B (λ_ _ _=>rfl) (jmp 8 (by rfl') (eo (by rfl') (((a4 (cB (aD rfl) S rfl e1)).trans (dO (LO (CK rfl e2)))))))
theorem NZ{n s d a c:Nat}{m:Int}{p:Tm}{σ ae:H}(S:Self σ s a m)(e1:aq P sc n 27 [.ref s,p.af,.ref d] σ=.aF c ae):aq P sc (n+1) 27 [.ref s,(Tm.un .run p).af,.ref d] σ=.aF c ae:=
 gO B (λ_ _ _=>rfl) (jmp 10 (by rfl') (dO (gk (LQ (aD rfl) S (n0 (ei (aD rfl) S rfl e1))))))
theorem LZ{n s d a c:Nat}{m:Int}{p:Tm}{σ ae:H}(S:Self σ s a m)(e1:aq P sc n 27 [.ref s,p.af,.ref d] σ=.aF c ae):aq P sc (n+1) 28 [.ref s,(Tm.un .hole p).af,.ref d] σ=.aF c ae:=
 iv B (λ_ _ _=>rfl) (jmp 2 (by rfl') (eo (by rfl') (dO (gk (ei (aD rfl) S rfl e1)))))
theorem N0{n s d a c:Nat}{m:Int}{es:List (Str×V)}{g y:Str}{p:Tm}{σ ae:H}(S:Self σ s a m)(hd:σ[d]?=some (.ay es))(hv:cS es g=some (.str y))(e1:aq P sc n 28 [.ref s,p.af,.ref d] σ=.aF c ae):aq P sc (n+1) 28 [.ref s,(Tm.use g p).af,.ref d] σ=.aF c ae:=
 iv B (λ_ _ _=>rfl) (jmp 3 (by rfl') (eo (by rfl') (dO (gk (rt (fU rfl (fU (b9 (aD rfl) rfl (hZ hd hv)) (n0 (ei (aD rfl) S rfl e1)))))))))
theorem L0{n s d a c:Nat}{m m1:Int}{x y:Str}{p q:Tm}{σ cb ae:H}(S:Self σ s a m)(e0:aq P sc (n+1) 26 [.ref s] σ=.ok (.str y) cb)(S0:Self cb s a m1)(e1:aq P sc (n+1) 28 [.ref s,p.af,.ref d] cb=.aF c ae):aq P sc (n+2) 28 [.ref s,(Tm.aX x p q).af,.ref d] σ=.aF c ae:=
 iv B (λ_ _ _=>rfl) (jmp 4 (by rfl') (eo (by rfl') (((a4 (cB (aD rfl) S aU e0)).trans (dO (j8 (ei (aD rfl) S0 rfl e1)))))))
theorem L3{n s d a c:Nat}{m m1 m2:Int}{x y:Str}{p q:Tm}{v:V}{es:List (Str×V)}{σ cb ae ak:H}(S:Self σ s a m)(e0:aq P sc (n+1) 26 [.ref s] σ=.ok (.str y) cb)(S0:Self cb s a m1)(e1:aq P sc (n+1) 28 [.ref s,p.af,.ref d] cb=.ok v ae)(S1:Self ae s a m2)(hd:ae[d]?=some (.ay es))(hl:es.length<=aM)(e2:aq P sc (n+1) 28 [.ref s,q.af,.ref ae.length] (ae++[.ay (bc es x (.str y))])=.aF c ak):aq P sc (n+2) 28 [.ref s,(Tm.aX x p q).af,.ref d] σ=.aF c ak:=
 iv B (λ_ _ _=>rfl) (jmp 4 (by rfl') (eo (by rfl') (((a4 (cB (aD rfl) S aU e0)).trans ((a4 (cB (aD rfl) S0 rfl e1)).trans (dO (gk (rt (fU (aD rfl) (fU (aD rfl) (fU (aD rfl) (n0 (ei (aD rfl) S1 (aw rfl (aw (aJ (aN rfl (aw rfl rfl)) (fp B.eS hd hl)) aU)) e2)))))))))))))
theorem IE{n s d a c:Nat}{k:Int}{m m1:Int}{x y:Str}{p q:Tm}{σ cb ae:H}(S:Self σ s a m)(e0:aq P sc (n+1) 26 [.ref s] σ=.ok (.str y) cb)(S0:Self cb s a m1)(e1:aq P sc (n+1) 28 [.ref s,p.af,.ref d] cb=.aF c ae):aq P sc (n+2) 28 [.ref s,(Tm.bb k x p q).af,.ref d] σ=.aF c ae:=
 iv B (λ_ _ _=>rfl) (jmp 5 (by rfl') (eo (by rfl') (((a4 (cB (aD rfl) S aU e0)).trans (dO (j8 (ei (aD rfl) S0 rfl e1)))))))
theorem IF{n s d a c:Nat}{k:Int}{m m1 m2:Int}{x y:Str}{p q:Tm}{v:V}{es:List (Str×V)}{σ cb ae ak:H}(S:Self σ s a m)(e0:aq P sc (n+1) 26 [.ref s] σ=.ok (.str y) cb)(S0:Self cb s a m1)(e1:aq P sc (n+1) 28 [.ref s,p.af,.ref d] cb=.ok v ae)(S1:Self ae s a m2)(hd:ae[d]?=some (.ay es))(hl:es.length<=aM)(e2:aq P sc (n+1) 28 [.ref s,q.af,.ref ae.length] (ae++[.ay (bc es x (.str y))])=.aF c ak):aq P sc (n+2) 28 [.ref s,(Tm.bb k x p q).af,.ref d] σ=.aF c ak:=
 iv B (λ_ _ _=>rfl) (jmp 5 (by rfl') (eo (by rfl') (((a4 (cB (aD rfl) S aU e0)).trans ((a4 (cB (aD rfl) S0 rfl e1)).trans (dO (gk (rt (fU (aD rfl) (fU rfl (fU (aD rfl) (fU (aD rfl) (n0 (ei (aD rfl) S1 (aw rfl (aw (aJ (aN rfl (aw rfl rfl)) (fp B.eS hd hl)) aU)) e2))))))))))))))
end
section
variable{P:Prog}{sc:List Int}(B:m5 P)
include B
theorem J0{n s d a c:Nat}{m m1:Int}{x y z:Tm}{i:Int}{σ ae ak:H}(S:Self σ s a m)(e1:aq P sc n 27 [.ref s,x.af,.ref d] σ=.ok (.int i) ae)(S1:Self ae s a m1)(e2:aq P sc n 27 [.ref s,(if i=0 then z else y).af,.ref d] ae=.aF c ak):
  aq P sc (n+1) 27 [.ref s,(Tm.when x y z).af,.ref d] σ=.aF c ak:=by
 have ht:bR (cx P sc n) (.cmp .NotEq (.cq 27 (.aa 0) {.au (.aa 1) (.int 1),.aa 2}) (.int 0)) [some (.ref s),some (Tm.when x y z).af,some (.ref d),some (.str "when"),none,none,none,none,none,none,none] σ=.ok (!(i==0)) ae:=
  dZ (cB (aD rfl) S (by rfl) e1) rfl (by rw[nh];rfl)
 refine gO B (w:="when") (L':=[some (.ref s),some (Tm.when x y z).af,some (.ref d),some (.str "when"),none,none,none,none,none,none,none]) (λ_ _ _=>rfl) (jmp 3 (by rfl') (eo (ae:=σ) (by rfl') ?_))
 by_cases h:i=0
 ·rw[if_pos h] at e2;rw[h] at ht;exact(bY ht).trans (dO (gk (ei (aD rfl) S1 rfl e2)))
 ·rw[if_neg h] at e2;rw[beq_eq_false_iff_ne.mpr h] at ht;exact eo ht (dO (gk (ei (aD rfl) S1 rfl e2)))
theorem L4{n:Nat}{t:Tm}{σ:H}(h:2000<t.size∨30<t.depth)(hn:t.depth<=n):∃τ,aq P sc (n+2) 24 [t.af] σ=.aF 7 (σ++τ):=by
 refine bZ (vQ (sc:=sc) B.f0 B.f1 n t σ hn) λbI e1=>?_;refine bZ (vA (sc:=sc) B.f0 B.f2 n t (σ++bI) hn) λcH e2=>?_
 by_cases h1:2000<t.size
 ·refine⟨bI,?_⟩;rw[cf B.uZ rfl];exact(congrArg bS (eo (ku (any_cons (t:=true) (dZ (aJ (by rfl) e1) (wC B) (yg (Int.ofNat_lt.mpr h1) _)) (by exact tf) (λ_=>⟨rfl,rfl⟩))) (dO rfl))).trans rfl
 ·refine⟨bI++cH,?_⟩;rw[cf B.uZ rfl,←List.append_assoc];exact(congrArg bS (eo (ku (any_cons (dZ (aJ rfl e1) (wC B) (EM (λq=>h1 (Int.ofNat_lt.mp q)) _)) (λ_=>any_cons (dZ (aJ rfl e2) (Ct B) (yg (Int.ofNat_lt.mpr (h.resolve_left h1)) _)) (by exact tf) (λ_=>⟨rfl,rfl⟩)) (by exact ff))) (dO rfl))).trans rfl
end
theorem qv{s:Src}{f:V->M (Option V)}{n k c:Nat}{σ ae ak:H}{v:V}(h1:dK s k σ=.ok (some v) ae)(h2:f v ae=.aF c ak):di s f (n+1) k σ=.aF c ak:=(aW h1).trans (iX h2)
theorem sC{s:Src}{f:V->M (Option V)}{n k c:Nat}{σ ae ak bX:H}{v:V}{y:Option V}(h1:dK s k σ=.ok (some v) ae)(h2:f v ae=.ok y ak)(h3:di s f n (k+1) ak=.aF c bX):di s f (n+1) k σ=.aF c bX:=(aW h1).trans ((aW h2).trans (iX h3))
theorem N1{C:Ctx}{elt a:E}{v k c:Nat}{bk:List Nat}{L:aR}{σ ae ak:H}{x:V}{sr:Src}(h1:ao C a L σ=.ok x ae)(hs:srcOf x ae=.ok sr ae)(hk:eU sr ae=.ok k ae)(hle:k<=aM)(h2:di sr (λit=>M.bind (ao C elt (bV (cK L bk) v it)) λy=>M.pure (some y)) (k+1) 0 ae=.aF c ak):ao C (.comp elt v bk a) L σ=.aF c ak:=by rw[kG,aW h1,aW hs,aW hk,if_pos hle];exact iX h2
theorem L5{C:Ctx}{i c:Nat}{e:E}{b:SL}{L L1:aR}{σ ae ak:H}{n:Int}(h1:ao C e L σ=.ok (.int n) ae)(hn:0<=n/\n<=1000000)(h2:eB (λk=>M.pure ((dG n)[k]?.map λv=>[(i,v)])) (a6 C b) (n.toNat+1) 0 L ae=.aF c L1 ak):cG C (.eM i e b) L σ=.aF c L1 ak:=by simp only[j1,Qh.N.bind,Qh.N.lift,h1,sE,M.pure];rw[if_pos hn];exact h2
theorem HN{at_:Nat->M (Option (List (Nat×V)))}{b:Qh.N Fl}{n k c:Nat}{L L1 L2:aR}{σ ae ak:H}{ps:List (Nat×V)}(h1:at_ k σ=.ok (some ps) ae)(h2:Qh.N.fM (ps.map (·.1)) (ps.map (·.2)) L ae=.ok () L1 ae)(h3:b L1 ae=.aF c L2 ak):
  eB at_ b (n+1) k L σ=.aF c L2 ak:=by simp only[eB,Qh.N.bind,Qh.N.lift,h1,h2,h3]
section
variable{P:Prog}{sc:List Int}(B:m5 P)
include B
theorem HO{n s d a c:Nat}{k:Int}{x:Str}{p q:Tm}(j0:Nat)(hj0:j0<k.toNat)(I:Nat->V->H->Prop)(Q:H->Prop)(hI:∀j v ag,j<j0->I j v ag->(∃m',Self ag s a m')/\∃es,ag[d]?=some (.ay es)/\es.length<=aM/\∃v' cp,aq P sc (n+1) 27 [.ref s,q.af,.ref ag.length] (ag++[.ay (bc es x v)])=.ok v' cp/\I (j+1) v' cp)(hX:∀v ag,I j0 v ag->(∃m',Self ag s a m')/\∃es,ag[d]?=some (.ay es)/\es.length<=aM/\∃cp,aq P sc (n+1) 27 [.ref s,q.af,.ref ag.length] (ag++[.ay (bc es x v)])=.aF c cp/\Q cp):
  ∀(r j N:Nat)(v:V)(y:Option V)(σ:H),j+r=j0->N+j=k.toNat->I j v σ->∃L' ag,eB (λk'=>M.pure ((dG k)[k']?.map λv=>[(6,v)])) (a6 (cx P sc (n+1)) DB) (N+1) j [some (.ref s),some (Tm.bb k x p q).af,some (.ref d),some (.str "turns"),none,some v,y,none,none,none,none] σ=.aF c L' ag/\Q ag:=by
 intro r
 induction r with
|zero=>
  intro j N v y σ hj hN h;have:j=j0:=by assumption
  subst this;obtain⟨⟨m',S⟩,es,hd,hl,cp,e,hQ⟩:=hX v σ h;exact⟨[some (.ref s),some (Tm.bb k x p q).af,some (.ref d),some (.str "turns"),none,some v,some (.int j),none,none,none,none],cp,HN (by rw[qK ‹_›];rfl) rfl (dO (j8 (ei (aD rfl) S (aw rfl (aw (aJ (aN rfl (aw rfl rfl)) (fp B.eS hd hl)) aU)) e))),hQ⟩
|succ r ih=>
  intro j N v y σ hj hN h;refine bB λXx aI=>?_;obtain⟨⟨m',S⟩,es,hd,hl,v',cp,e,h'⟩:=hI j v σ (lN 0x34184c04900904920634106138c [_,_,_] rfl hj) h;obtain⟨N,rfl⟩:∃N',N=N'+1:=⟨N-1,by exact cj (lN 0x184284c308049201241248 [_] rfl) (lN 0x30184284c20124804900904900900904904920538184d18d0418503c63813cc [_,_,_,_,_] rfl hj0 hj hN)⟩;refine bo (ih (j+1) N v' (some (.int j)) cp (cj (lN 0x38134184c04900904920638106134c [_,_,_] rfl hj) (lN 0x4e06134c04904920630106138d [_,_,_] rfl hj)) (cj (lN 0x38106134c04900904920638134184c [_,_,_] rfl hN) (lN 0x4184e34c04904920630138184d [_,_,_] rfl hN)) h') λL' ak e2 hQ=>?_;refine aI ?_;exact⟨L',ak,(qB (ps:=[(6,.int j)]) (ae:=σ) (by rw[qK (by exact lN 0x34184c04900904920634130184e [_,_,_] rfl hN)];rfl) rfl ((a4 (cB (aD rfl) S (aw rfl (aw (aJ (aN rfl (aw (x:=.str x) rfl (by rfl))) (fp B.eS hd hl)) aU)) e)).trans fq)).trans e2,hQ⟩
theorem IG{n s d a c:Nat}{m:Int}{k:Int}{x:Str}{p q:Tm}{u:V}{σ ae:H}(S:Self σ s a m)(hk:0<=k/\k<=1000000)(e1:aq P sc (n+1) 27 [.ref s,p.af,.ref d] σ=.ok u ae)(j0:Nat)(hj0:j0<k.toNat)(I:Nat->V->H->Prop)(Q:H->Prop)(h0:I 0 u ae)(hI:∀j v ag,j<j0->I j v ag->(∃m',Self ag s a m')/\∃es,ag[d]?=some (.ay es)/\es.length<=aM/\∃v' cp,aq P sc (n+1) 27 [.ref s,q.af,.ref ag.length] (ag++[.ay (bc es x v)])=.ok v' cp/\I (j+1) v' cp)(hX:∀v ag,I j0 v ag->(∃m',Self ag s a m')/\∃es,ag[d]?=some (.ay es)/\es.length<=aM/\∃cp,aq P sc (n+1) 27 [.ref s,q.af,.ref ag.length] (ag++[.ay (bc es x v)])=.aF c cp/\Q cp):
  ∃ak,aq P sc (n+2) 27 [.ref s,(Tm.bb k x p q).af,.ref d] σ=.aF c ak/\Q ak:=by refine bo (HO (sc:=sc) B (n:=n) (k:=k) (x:=x) (p:=p) (q:=q) j0 hj0 I Q hI hX j0 0 k.toNat u none ae (by exact cj (lN 825917182536 [_] rfl) (lN 82144399944 [_] rfl)) (by rfl) h0) λL' ak e2 hQ=>?_;exact⟨ak,gO B (λ_ _ _=>rfl) (jmp 5 (by rfl') (eo (by rfl') ((a4 (cB (aD rfl) S rfl e1)).trans (dO (L5 rfl hk e2))))),hQ⟩
theorem L6{n s d a c:Nat}{m m0 m1:Int}{g x y z kd:Str}{p q:Tm}{es:List (Str×V)}{σ cb ae ak:H}(S:Self σ s a m)(e0:aq P sc (n+1) 26 [.ref s] σ=.ok (.str y) cb)(S0:Self cb s a m0)(jR:aq P sc (n+1) 26 [.ref s] cb=.ok (.str z) ae)(S1:Self ae s a m1)(hd:ae[d]?=some (.ay es))(hl:es.length<=aM)(e1:aq P sc (n+1) 28 [.ref s,p.af,.ref ae.length] (ae++[.ay (bc es x (.str z))])=.aF c ak):
  aq P sc (n+2) 28 [.ref s,(Tm.def_ g x kd p q).af,.ref d] σ=.aF c ak:=
 iv B (λ_ _ _=>rfl) (jmp 6 (by rfl') (eo (by rfl') ((a4 (cB (aD rfl) S aU e0)).trans ((a4 (cB (aD rfl) S0 aU jR)).trans (dO (j8 (ei (aD rfl) S1 (aw rfl (aw (aJ (aN rfl (aw rfl rfl)) (fp B.eS hd hl)) aU)) e1)))))))
theorem L7{n s d a c:Nat}{m m0 m1 m2:Int}{g x y z kd:Str}{p q R:Tm}{es es':List (Str×V)}{σ cb ae ak bX:H}(S:Self σ s a m)(e0:aq P sc (n+1) 26 [.ref s] σ=.ok (.str y) cb)(S0:Self cb s a m0)(jR:aq P sc (n+1) 26 [.ref s] cb=.ok (.str z) ae)(S1:Self ae s a m1)(hd:ae[d]?=some (.ay es))(hl:es.length<=aM)(e1:aq P sc (n+1) 28 [.ref s,p.af,.ref ae.length] (ae++[.ay (bc es x (.str z))])=.ok R.af ak)(S2:Self ak s a m2)(hd':ak[d]?=some (.ay es'))(hl':es'.length<=aM)(e2:aq P sc (n+1) 28 [.ref s,q.af,.ref ak.length] (ak++[.ay (bc es' g (.str y))])=.aF c bX):
  aq P sc (n+2) 28 [.ref s,(Tm.def_ g x kd p q).af,.ref d] σ=.aF c bX:=
 iv B (λ_ _ _=>rfl) (jmp 6 (by rfl') (eo (by rfl') ((a4 (cB (aD rfl) S aU e0)).trans ((a4 (cB (aD rfl) S0 aU jR)).trans ((a4 (cB (aD rfl) S1 (aw rfl (aw (aJ (aN rfl (aw rfl rfl)) (fp B.eS hd hl)) aU)) e1)).trans (dO (gk (rt (fU (aD rfl) (fU (aD rfl) (fU (aD rfl) (fU rfl (fU (aD rfl) (n0 (ei (aD rfl) S2 (aw rfl (aw (aJ (aN rfl (aw rfl rfl)) (fp B.eS hd' hl')) aU)) e2)))))))))))))))
noncomputable abbrev r9:E:=.cq 28 (.aa 0) {.aa 7,.aa 2}
noncomputable abbrev u6:SL:=.cons (.ret (.aj .Add (.aB {.aa 3}) (.tuple (.comp r9 7 [2,0] (.slc (.aa 1) (.int 1) .none))))) .nil
omit B in
theorem oj{n s d a:Nat}{m:Int}{T it v w:V}{σ ae:H}(S:Self σ s a m)(e:aq P sc n 28 [.ref s,it,.ref d] σ=.ok v ae):
  M.bind (ao (cx P sc n) r9 (bV (cK [some (.ref s),some T,some (.ref d),some w,none,none,none,none] [2,0]) 7 it)) (λy=>M.pure (some y)) σ=.ok (some v) ae:=
 (aW (cB (aD rfl) S rfl e)).trans rfl
omit B in
theorem rS{n s d a c:Nat}{m:Int}{T it w:V}{σ ae:H}(S:Self σ s a m)(e:aq P sc n 28 [.ref s,it,.ref d] σ=.aF c ae):
  M.bind (ao (cx P sc n) r9 (bV (cK [some (.ref s),some T,some (.ref d),some w,none,none,none,none] [2,0]) 7 it)) (λy=>M.pure (some y)) σ=.aF c ae:=
 iX (ei (aD rfl) S rfl e)
omit B in
theorem u7{C:Ctx}{s T d:V}{σ:H}:a6 C uF [some s,some T,some d,some (.str "when"),none,none,none,none] σ=a6 C u6 [some s,some T,some d,some (.str "when"),none,none,none,none] σ:=
 jmp 6 (by rfl') (bY (by rfl'))
omit B in
theorem FU{C:Ctx}{u:U2}{s T d:V}{σ:H}:a6 C uF [some s,some T,some d,some (.str u.str),none,none,none,none] σ=a6 C u6 [some s,some T,some d,some (.str u.str),none,none,none,none] σ:=by cases u<;>exact jmp 6 (by rfl') (bY (by rfl'))
omit B in
theorem N2{C:Ctx}{s d:Nat}{w:Str}{vs us:List V}{σ ae:H}(hl:vs.length+1<=aM)(hu:us.length+1<=aM)(h:di (.fix vs) (λit=>M.bind (ao C r9 (bV (cK [some (.ref s),some (.aB (.str w::vs)),some (.ref d),some (.str w),none,none,none,none] [2,0]) 7 it)) λy=>M.pure (some y)) (vs.length+1) 0 σ=.ok us ae):
  a6 C u6 [some (.ref s),some (.aB (.str w::vs)),some (.ref d),some (.str w),none,none,none,none] σ=.ok (.ret (.aB (.str w::us))) [some (.ref s),some (.aB (.str w::vs)),some (.ref d),some (.str w),none,none,none,none] (ae++[.ah us]):=by
 have ht:js (.ref ae.length) (ae++[.ah us])=.ok (.aB us) (ae++[.ah us]):=by
  show M.bind (bH _) _ _=_;rw[aW (dY bC),if_pos (bz ‹_›)];rfl
 have hs:ao C (.slc (.aa 1) (.int 1) .none) [some (.ref s),some (.aB (.str w::vs)),some (.ref d),some (.str w),none,none,none,none] σ=.ok (.aB vs) σ:=by
  show(if(V.str w::vs).length<=aM then _ else _:M V) σ=_;rw[if_pos (by rw[List.length_cons];exact hl)];rfl
 have ha:binop .Add (.aB [.str w]) (.aB us) (ae++[.ah us])=.ok (.aB (.str w::us)) (ae++[.ah us]):=by
  show(if [V.str w].length+us.length<=aM then _ else _:M V) _=_;rw[if_pos (by rw[List.length_singleton];exact lN 0x34132104904920534184c [_,_] rfl hu)];rfl
 exact bf (bJ (bN rfl (nb rfl)) (tP (kI hs rfl rfl (bz ‹_›) h) ht) ha)
omit B in
theorem qT{C:Ctx}{s d c:Nat}{w:Str}{vs:List V}{σ ae:H}(hl:vs.length+1<=aM)(h:di (.fix vs) (λit=>M.bind (ao C r9 (bV (cK [some (.ref s),some (.aB (.str w::vs)),some (.ref d),some (.str w),none,none,none,none] [2,0]) 7 it)) λy=>M.pure (some y)) (vs.length+1) 0 σ=.aF c ae):
  a6 C u6 [some (.ref s),some (.aB (.str w::vs)),some (.ref d),some (.str w),none,none,none,none] σ=.aF c [some (.ref s),some (.aB (.str w::vs)),some (.ref d),some (.str w),none,none,none,none] ae:=by
 have hs:ao C (.slc (.aa 1) (.int 1) .none) [some (.ref s),some (.aB (.str w::vs)),some (.ref d),some (.str w),none,none,none,none] σ=.ok (.aB vs) σ:=by
  show(if(V.str w::vs).length<=aM then _ else _:M V) σ=_;rw[if_pos (by rw[List.length_cons];exact hl)];rfl
 exact dO (gk (NV (bN rfl (nb rfl)) (LN (N1 hs rfl rfl (bz ‹_›) h))))
theorem L8{n s d a c:Nat}{m0 m1:Int}{u:U2}{x y X Y:Tm}{σ ae ak gJ:H}(S0:Self σ s a m0)(e0:aq P sc n 28 [.ref s,x.af,.ref d] σ=.aF c gJ):aq P sc (n+1) 28 [.ref s,(Tm.aj u x y).af,.ref d] σ=.aF c gJ:=
 iv B (λ_ _ _=>rfl) (FU.trans (qT (nb rfl) (qv rfl (rS S0 e0))))
theorem L9{n s d a c:Nat}{m0 m1:Int}{u:U2}{x y X Y:Tm}{σ ae ak gJ:H}(S0:Self σ s a m0)(e0:aq P sc n 28 [.ref s,x.af,.ref d] σ=.ok X.af ae)(S1:Self ae s a m1)(e1:aq P sc n 28 [.ref s,y.af,.ref d] ae=.aF c gJ):aq P sc (n+1) 28 [.ref s,(Tm.aj u x y).af,.ref d] σ=.aF c gJ:=
 iv B (λ_ _ _=>rfl) (FU.trans (qT (nb rfl) (sC rfl (oj S0 e0) (qv rfl (rS S1 e1)))))
theorem N3{n s d a:Nat}{m0 m1 m2:Int}{x y z X Y Z:Tm}{σ ae ak bX gJ:H}(S0:Self σ s a m0)(e0:aq P sc n 28 [.ref s,x.af,.ref d] σ=.ok X.af ae)(S1:Self ae s a m1)(e1:aq P sc n 28 [.ref s,y.af,.ref d] ae=.ok Y.af ak)(S2:Self ak s a m2)(e2:aq P sc n 28 [.ref s,z.af,.ref d] ak=.ok Z.af bX):aq P sc (n+1) 28 [.ref s,(Tm.when x y z).af,.ref d] σ=.ok (Tm.when X Y Z).af (bX++[.ah [X.af,Y.af,Z.af]]):=
 kM B (w:="when") (λ_ _ _=>rfl) (u7.trans (N2 (vs:=[x.af,y.af,z.af]) (us:=[X.af,Y.af,Z.af]) (nb rfl) (nb rfl) (gL (n:=3) (y:=some X.af) (r:=[Y.af,Z.af]) (ae:=σ) rfl (oj S0 e0) (gL (n:=2) (y:=some Y.af) (r:=[Z.af]) (ae:=ae) rfl (oj S1 e1) (gL (n:=1) (y:=some Z.af) (r:=[]) rfl (oj S2 e2) (kE rfl))))))
theorem J1{n s d a c:Nat}{m0 m1 m2:Int}{x y z X Y Z:Tm}{σ ae ak bX gJ:H}(S0:Self σ s a m0)(e0:aq P sc n 28 [.ref s,x.af,.ref d] σ=.aF c gJ):aq P sc (n+1) 28 [.ref s,(Tm.when x y z).af,.ref d] σ=.aF c gJ:=
 iv B (λ_ _ _=>rfl) (u7.trans (qT (nb rfl) (qv rfl (rS S0 e0))))
theorem J2{n s d a c:Nat}{m0 m1 m2:Int}{x y z X Y Z:Tm}{σ ae ak bX gJ:H}(S0:Self σ s a m0)(e0:aq P sc n 28 [.ref s,x.af,.ref d] σ=.ok X.af ae)(S1:Self ae s a m1)(e1:aq P sc n 28 [.ref s,y.af,.ref d] ae=.aF c gJ):aq P sc (n+1) 28 [.ref s,(Tm.when x y z).af,.ref d] σ=.aF c gJ:=
 iv B (λ_ _ _=>rfl) (u7.trans (qT (nb rfl) (sC rfl (oj S0 e0) (qv rfl (rS S1 e1)))))
theorem J3{n s d a c:Nat}{m0 m1 m2:Int}{x y z X Y Z:Tm}{σ ae ak bX gJ:H}(S0:Self σ s a m0)(e0:aq P sc n 28 [.ref s,x.af,.ref d] σ=.ok X.af ae)(S1:Self ae s a m1)(e1:aq P sc n 28 [.ref s,y.af,.ref d] ae=.ok Y.af ak)(S2:Self ak s a m2)(e2:aq P sc n 28 [.ref s,z.af,.ref d] ak=.aF c gJ):aq P sc (n+1) 28 [.ref s,(Tm.when x y z).af,.ref d] σ=.aF c gJ:=
 iv B (λ_ _ _=>rfl) (u7.trans (qT (nb rfl) (sC rfl (oj S0 e0) (sC rfl (oj S1 e1) (qv rfl (rS S2 e2))))))
end
def gg:Lv->Nat
|.z=>27|.o=>28
theorem Self.set(S:Self σ s a m)(k:Int):Self (σ.set a (.cU k)) s a k:=by
 have hne:s≠a:=λq=>by obtain⟨c,h⟩:=S.i;(replace h:=(S.n)▸(q▸h));cases h
 exact let ⟨c,h⟩:=S.i;⟨⟨c,xF h (λq=>hne q.symm)⟩,gi S.n⟩
theorem vB(g:Nat->Bool)(h0:g 0=false):∀n,g n=true->∃j,j<n/\(∀i,i<=j->g i=false)/\g (j+1)=true
|0=>λh=>by(replace h:=h0▸h);exact ff h
|n+1=>λh=>by
  cases hn:g n with
  |true=>obtain⟨j,h1,h2,h3⟩:=vB g h0 n hn;exact⟨j,by(exact jN ‹_›),h2,h3⟩
  |false=>
   by_cases hx:∃j,j<n/\(∀i,i<=j->g i=false)/\g (j+1)=true
   ·obtain⟨j,h1,h2,h3⟩:=hx;exact⟨j,by(exact jN ‹_›),h2,h3⟩
   ·refine⟨n,by(exact aQ _),?_,h⟩;intro i hi;cases hg:g i with
    |false=>rfl
    |true=>
     have hin:i≠n:=λq=>by(replace hg:=hn▸(q▸hg));exact ff hg
     refine b8 (vB g h0 i hg) λj h1 h2 h3=>?_;exact absurd ⟨j,by(exact bP ‹_› ‹_›),h2,h3⟩ hx
section
variable{P:Prog}{sc:List Int}
def eE(P:Prog)(sc:List Int)(sf a:Nat)(l:Lv)(n:Nat)(t:Tm)(d:Nat)(σ:H)(r:Bv×Sg):Prop:=
 (r.2.fl=false/\∃ag,aq P sc n (gg l) [.ref sf,t.af,.ref d] σ=.ok r.1.v ag/\Kp a σ ag/\Self ag sf a r.2.k)∨(r.2.fl=true/\∃ag,aq P sc n (gg l) [.ref sf,t.af,.ref d] σ=.aF 7 ag/\Kp a σ ag)
theorem eE.elim{sf a:Nat}{l:Lv}{n:Nat}{t:Tm}{d:Nat}{σ:H}{r:Bv×Sg}{X:Prop}(h:eE P sc sf a l n t d σ r)(ok:r.2.fl=false->∀ag,aq P sc n (gg l) [.ref sf,t.af,.ref d] σ=.ok r.1.v ag->Kp a σ ag->Self ag sf a r.2.k->X)(ex:r.2.fl=true->∀ag,aq P sc n (gg l) [.ref sf,t.af,.ref d] σ=.aF 7 ag->Kp a σ ag->X):X:=Or.elim h (λ⟨f,ag,e,k,S⟩=>ok f ag e k S) λ⟨f,ag,e,k⟩=>ex f ag e k
def oz(P:Prog)(sc:List Int)(sf a:Nat)(l:Lv)(N:Nat)(t:Tm)(d:Nat)(σ:H)(r:Bv×Sg):Prop:=(∃m,Self σ sf a m)/\(r.2.c<=5000->∀n,N<=n->eE P sc sf a l n t d σ r)
def y9(sf a:Nat)(σ:H)(s:Sg):Prop:=s.fl=false/\s.c<=5000/\Self σ sf a s.k
theorem tW(h:y9 sf a σ s)(e:∀k,aq P sc (k+1) (gg l) [.ref sf,t.af,.ref d] σ=.ok b.v σ):oz P sc sf a l 1 t d σ (b,s):=
 ⟨⟨_,h.2.2⟩,λ_ n hn=>by obtain⟨k,rfl⟩:=gf hn;exact .inl ⟨h.1,σ,e k,.refl _,h.2.2⟩⟩
theorem BU:∀(n:Nat),(∀j,j<n->∃w,(cM f j r0).2.le w (cM f (j+1) r0).2)->∀j,j<=n->∃w,(cM f j r0).2.le w (cM f n r0).2
|0,_,j,hj=>⟨0,Nat.le_zero.mp hj▸.refl _⟩
|n+1,h,j,hj=>by
  by_cases hn:j=n+1
  ·(clear hj;subst hn);exact⟨0,.refl _⟩
  ·refine bZ (BU n (λi hi=>h i (jN ‹_›)) j (Nat.le_of_lt_succ (Nat.lt_of_le_of_ne hj hn))) λw h1=>?_;obtain⟨w',h2⟩:=h n (aQ _);exact⟨w+w',h1.trans h2 (a8 _)⟩
theorem T1{sf a:Nat}{l l':Lv}{N:Nat}{t t':Tm}{d:Nat}{σ:H}{r r':Bv×Sg}(h:oz P sc sf a l N t d σ r)(hr:r'.2=r.2)(ok:∀n m ae,Self σ sf a m->aq P sc n (gg l) [.ref sf,t.af,.ref d] σ=.ok r.1.v ae->aq P sc (n+1) (gg l') [.ref sf,t'.af,.ref d] σ=.ok r'.1.v ae)(x:∀n m ae,Self σ sf a m->aq P sc n (gg l) [.ref sf,t.af,.ref d] σ=.aF 7 ae->aq P sc (n+1) (gg l') [.ref sf,t'.af,.ref d] σ=.aF 7 ae):oz P sc sf a l' (N+1) t' d σ r':=⟨h.1,λhc n hn=>by
 refine bZ (h.1) λm S=>?_;obtain⟨k,rfl⟩:=gf (cT ‹_›);unfold eE;rw[hr] at hc ⊢;refine eE.elim (h.2 hc k (cg ‹_›)) (λf1 ae e1 k1 S1=>?_) λf1 ae e1 k1=>?_
 ·exact .inl ⟨f1,ae,ok k m ae S e1,k1,S1⟩
 ·exact .inr ⟨f1,ae,x k m ae S e1,k1⟩⟩
theorem T2{sf a:Nat}{l l' l2:Lv}{N:Nat}{t t' b:Tm}{d:Nat}{σ cb:H}{u:Bv}{s1:Sg}{r r':Bv×Sg}{w:Int}(D:H->Nat)(E:H->H){m:Int}(S:Self σ sf a m)(k0:Kp a σ cb)(h1:oz P sc sf a l N t d cb (u,s1))(h2:∀ae,Kp a σ ae->y9 sf a ae s1->oz P sc sf a l2 N b (D ae) (E ae) r)(hE:∀ae,Kp a ae (E ae))(hN:1<=N)(hle:s1.le w r.2)(hr:r'.2=r.2)(ok:∀n m1 ae ak,Kp a σ ae->aq P sc (n+1) (gg l) [.ref sf,t.af,.ref d] cb=.ok u.v ae->Self ae sf a m1->aq P sc (n+1) (gg l2) [.ref sf,b.af,.ref (D ae)] (E ae)=.ok r.1.v ak->aq P sc (n+2) (gg l') [.ref sf,t'.af,.ref d] σ=.ok r'.1.v ak)(x1:∀n ae,aq P sc (n+1) (gg l) [.ref sf,t.af,.ref d] cb=.aF 7 ae->aq P sc (n+2) (gg l') [.ref sf,t'.af,.ref d] σ=.aF 7 ae)(x2:∀n m1 ae ak,Kp a σ ae->aq P sc (n+1) (gg l) [.ref sf,t.af,.ref d] cb=.ok u.v ae->Self ae sf a m1->aq P sc (n+1) (gg l2) [.ref sf,b.af,.ref (D ae)] (E ae)=.aF 7 ak->aq P sc (n+2) (gg l') [.ref sf,t'.af,.ref d] σ=.aF 7 ak):oz P sc sf a l' (N+2) t' d σ r':=⟨⟨m,S⟩,λhc n hn=>by
 refine bZ (ky (cT ‹_›)) λk bg=>?_;subst bg;unfold eE;rw[hr] at hc ⊢;refine eE.elim (h1.2 (cw hle.c hc) (k+1) (cg (bz ‹_›))) (λf1 ae e1 k1 S1=>?_) λf1 ae e1 k1=>?_
 ·have k1:=k0.trans k1;refine eE.elim ((h2 ae k1 ⟨f1,cw hle.c hc,S1⟩).2 hc (k+1) (cg (bz ‹_›))) (λf2 ak e2 k2 S2=>?_) λf2 ak e2 k2=>?_
  ·exact .inl ⟨f2,ak,ok k _ ae ak k1 e1 S1 e2,(k1.trans (hE ae)).trans k2,S2⟩
  ·exact .inr ⟨f2,ak,x2 k _ ae ak k1 e1 S1 e2,(k1.trans (hE ae)).trans k2⟩
 ·exact .inr ⟨hle.fl f1,ae,x1 k ae e1,k0.trans k1⟩⟩
theorem AQ(B:m5 P)(sf a:Nat):oi a (y9 sf a) (λ_ v x b d=>v=.aB [.str x,b.af,.ref d]) (oz P sc sf a) where
 app h:=⟨h.1,h.2.1,h.2.2.add⟩
 ne h:=λq=>by have:=h.2.2.n;(replace this:=(Eq.symm (q))▸this);simp at this
 uq:=λ_ h=>h
 more h hN:=⟨h.1,λhc n hn=>h.2 hc n (bP hN hn)⟩
 yh h:=tW h λk=>xG B _
 yi h:=tW h λk=>OJ B _
 xH h hd hv:=tW h λk=>Cu B hd hv
 xI h hd hv:=tW h λk=>M6 B hd hv
 hole hN h:=T1 h rfl (λ_ _ _ S e=>M7 B S e) (λ_ _ _ S e=>LZ B S e)
 lift hN h:=T1 h rfl (λ_ _ _ S e=>NX B S e) (λ_ _ _ S e=>LR B S e)
 xb h hc:=absurd h.2.1 (Int.not_le.mpr hc)
 bE {σ d N t p s s1} h hc h1 hle hp:=⟨h1.1,λhc n hn=>by
  refine bZ (h1.1) λm S=>?_;refine bZ (rR (n:=n) (by exact lN 0xc8c124124124814e06334530184e [_,_,_] rfl hp hn)) λk bg=>?_;subst bg;have hc1:s1.c<=5000:=by
   unfold il at hc
   split at hc
   ·have hc:s1.c+p.size<=5000:=hc;exact lI 0x81ce1e13012412412481481ce1e104d305360 [_,_] rfl hc (iM _)
   ·have hc:s1.c+p.size<=5000:=hc;exact lI 0x81ce1e13012412412481481ce1e104d305360 [_,_] rfl hc (iM _)
  refine eE.elim (h1.2 hc1 (k+2) (cg ‹_›)) (λf1 ae e1 k1 S1=>?_) λf1 ae e1 k1=>?_
  ·unfold il
   by_cases hb:2000<p.size∨30<p.depth
   ·refine(if_pos hb)▸?_;refine bZ (L4 (sc:=sc) B (n:=k) (σ:=ae) hb (by exact lN 0xd30124124124814e06330506334184e [_,_,_] rfl hp hn)) λτ e2=>?_;exact .inr ⟨rfl,_,ID B S e1 e2,k1.trans .add⟩
   ·refine(if_neg hb)▸?_;refine bZ (Lo (sc:=sc) B (n:=k) S e1 (Nat.not_lt.mp λq=>hb (.inl q)) (Nat.not_lt.mp λq=>hb (.inr q)) (by exact lN 0xd30124124124814e06330506334184e [_,_,_] rfl hp hn)) λτ e2=>?_;exact .inl ⟨f1,_,e2,k1.trans .add,S1.add⟩
  ·unfold il
   split
   ·exact .inr ⟨rfl,ae,AP B S e1,k1⟩
   ·exact .inr ⟨f1,ae,AP B S e1,k1⟩⟩
 run {σ d N t p s1} h1 hP hd hf hN:=⟨h1.1,λhc n hn=>by
  refine bZ (h1.1) λm S=>?_;obtain⟨k,rfl⟩:=ky (n:=n) (cT ‹_›);have hp:0<=p.d5:=by have:=sZ hP (λ_=>0) λ_=>a8 _;unfold Tm.d5;(exact Int.le_of_lt ‹_›)
  unfold gW at hc ⊢
  by_cases hb:5000<s1.c+p.d5
  ·replace hc:=(if_pos hb)▸hc;exact absurd (show s1.c+p.d5<=5000 from hc) (Int.not_le.mpr hb)
  ·refine(if_neg hb)▸?_;refine eE.elim (h1.2 (show s1.c<=5000 by exact lI 0x81ce1e130124124124814d80520738784134c [_,_] rfl hp (Int.not_lt.mp hb)) (k+1) (cg (bz ‹_›))) (λf1 ae e1 k1 S1=>?_) λf1 ae e1 k1=>?_
   ·have hv:=(tT (AM (sc:=sc) B (s:=sf) (a:=a) (m:=s1.k)) hP (by exact ff) (λ_=>0) (ae++[O.ay []]) ae.length [] (λ_=>.no) S1.add bC (by show 0+p.depth<=aM;have:aM=1000000:=rfl;exact lN 0xd04c80124124024124817e306007247d078cd [_,_] rfl hd this) (λx m hx=>by exact bL hx)).2;obtain⟨fw,e3⟩:=hv (k+1) (by exact lN 0x61344322049049049089205c078cc14ea879c506234188e [_,_,_] rfl hf hN hn);exact .inl ⟨f1,_,DA (m1:=0) B S e1 e3,(k1.trans .add).trans .add,S1.add.add⟩
   ·exact .inr ⟨f1,ae,NZ B S e1,k1⟩⟩
 yj {σ d N g t x body d' es es' cv u s1 r w} bA hd hg hcl hd1 hd' hl hN h1 h2 hle:=by
  subst hcl;obtain⟨m,S⟩:=h1.1;exact T2 (l2:=.z) (b:=body) (r:=r) (λae=>ae.length) (λae=>ae++[O.ay (bc es' x (Bv.v u))]) S (.refl _) h1 h2 (λ_=>.add) hN hle rfl (λ_ _ _ _ k1 e1 S1 e2=>Dz B S e1 S1 (k1.get bA hd) hg (k1.get hd1 hd') hl e2) (λ_ _ e1=>LX B S e1) (λ_ _ _ _ k1 e1 S1 e2=>LY B S e1 S1 (k1.get bA hd) hg (k1.get hd1 hd') hl e2)
 yk hd hg hN h:=T1 h rfl (λ_ _ _ S e=>OK B S hd hg e) (λ_ _ _ S e=>N0 B S hd hg e)
 yl {σ d N o x y i j s1 s2 w} hN hi h1 h2 hle:=by
  obtain⟨m,S⟩:=h1.1;exact T2 (l2:=.z) (b:=y) (r:=(.num j,s2)) (λ_=>d) (λae=>ae) S (.refl _) h1 h2 (λ_=>.refl _) hN hle rfl (λ_ _ _ _ _ e1 S1 e2=>Dw B S e1 S1 e2 hi) (λ_ _ e1=>LS B S e1) (λ_ _ _ _ _ e1 S1 e2=>LU B S e1 S1 e2)
 ym hN h1 h2 hle:=⟨h1.1,λhc n hn=>by
  refine bZ (h1.1) λm S=>?_;obtain⟨k,rfl⟩:=gf (n:=n) (cT ‹_›);refine eE.elim (h1.2 (cw hle.c hc) k (cg ‹_›)) (λf1 ae e1 k1 S1=>?_) λf1 ae e1 k1=>?_
  ·refine eE.elim ((h2 ae k1 ⟨f1,cw hle.c hc,S1⟩).2 hc k (cg ‹_›)) (λf2 ak e2 k2 S2=>?_) λf2 ak e2 k2=>?_
   ·exact .inl ⟨f2,_,ON B S e1 S1 e2,(k1.trans k2).trans .add,S2.add⟩
   ·exact .inr ⟨f2,ak,L9 (Y:=.num 0) (ak:=[]) B S e1 S1 e2,k1.trans k2⟩
  ·exact .inr ⟨hle.fl f1,ae,L8 (X:=.num 0) (Y:=.num 0) (ae:=[]) (ak:=[]) (m1:=0) B S e1,k1⟩⟩
 xJ {σ d N x y z i s1 r w} hN h1 h2 hle:=by
  obtain⟨m,S⟩:=h1.1;exact T2 (l2:=.z) (b:=if i=0 then z else y) (r:=r) (λ_=>d) (λae=>ae) S (.refl _) h1 h2 (λ_=>.refl _) hN hle rfl (λ_ _ _ _ _ e1 S1 e2=>Cv B S e1 S1 e2) (λ_ _ e1=>JZ B S e1) (λ_ _ _ _ _ e1 S1 e2=>J0 B S e1 S1 e2)
 xK hN h1 h2 hle h3 hle':=⟨h1.1,λhc n hn=>by
  refine bZ (h1.1) λm S=>?_;obtain⟨k,rfl⟩:=gf (n:=n) (cT ‹_›);have hc2:=cw hle'.c hc;have hc1:=cw hle.c hc2;refine eE.elim (h1.2 hc1 k (cg ‹_›)) (λf1 ae e1 k1 S1=>?_) λf1 ae e1 k1=>?_
  ·refine eE.elim ((h2 ae k1 ⟨f1,hc1,S1⟩).2 hc2 k (cg ‹_›)) (λf2 ak e2 k2 S2=>?_) λf2 ak e2 k2=>?_
   ·refine eE.elim ((h3 ak (k1.trans k2) ⟨f2,hc2,S2⟩).2 hc k (cg ‹_›)) (λf3 bX e3 k3 S3=>?_) λf3 bX e3 k3=>?_
    ·exact .inl ⟨f3,_,N3 (gJ:=[]) B S e1 S1 e2 S2 e3,((k1.trans k2).trans k3).trans .add,S3.add⟩
    ·exact .inr ⟨f3,bX,J3 (Z:=.num 0) (bX:=[]) B S e1 S1 e2 S2 e3,(k1.trans k2).trans k3⟩
   ·exact .inr ⟨hle'.fl f2,ak,J2 (Y:=.num 0) (Z:=.num 0) (ak:=[]) (bX:=[]) (m2:=0) B S e1 S1 e2,k1.trans k2⟩
  ·exact .inr ⟨hle'.fl (hle.fl f1),ae,J1 (X:=.num 0) (Y:=.num 0) (Z:=.num 0) (ae:=[]) (ak:=[]) (bX:=[]) (m1:=0) (m2:=0) B S e1,k1⟩⟩
 yn {σ d N x t b u s1 r es w} bA hd hl hN h1 h2 hle:=by
  obtain⟨m,S⟩:=h1.1;exact T2 (l2:=.z) (b:=b) (r:=r) (λae=>ae.length) (λae=>ae++[O.ay (bc es x (Bv.v u))]) S (.refl _) h1 h2 (λ_=>.add) hN hle rfl (λ_ _ _ _ k1 e1 S1 e2=>Dx B S e1 S1 (k1.get bA hd) hl e2) (λ_ _ e1=>LV B S e1) (λ_ _ _ _ k1 e1 S1 e2=>LW B S e1 S1 (k1.get bA hd) hl e2)
 yo {σ d N x t b p q s s1 s2 es w} h h0 hk bA hd hl hN h1 h2 hle:=by
  have S:=h.2.2;have S0:=S.set (s.k+1);exact T2 (l2:=.o) (b:=b) (r:=(.pc q,s2)) (λae=>ae.length) (λae=>ae++[O.ay (bc es x (.str (vn (s.k+1))))]) S .set (h1 _ .set ⟨h.1,h.2.1,S0⟩) h2 (λ_=>.add) hN hle rfl (λ_ _ _ _ k1 e1 S1 e2=>OL B S (lZ B S h0 hk) S0 e1 S1 (k1.get bA hd) hl e2) (λ_ _ e1=>L0 B S (lZ B S h0 hk) S0 e1) (λ_ _ _ _ k1 e1 S1 e2=>L3 B S (lZ B S h0 hk) S0 e1 S1 (k1.get bA hd) hl e2)
 xc {σ d N n x t b p q s s1 s2 es w} h h0 hk bA hd hl hN h1 h2 hle:=by
  have S:=h.2.2;have S0:=S.set (s.k+1);exact T2 (l2:=.o) (b:=b) (r:=(.pc q,s2)) (λae=>ae.length) (λae=>ae++[O.ay (bc es x (.str (vn (s.k+1))))]) S .set (h1 _ .set ⟨h.1,h.2.1,S0⟩) h2 (λ_=>.add) hN hle rfl (λ_ _ _ _ k1 e1 S1 e2=>Lp B S (lZ B S h0 hk) S0 e1 S1 (k1.get bA hd) hl e2) (λ_ _ e1=>IE B S (lZ B S h0 hk) S0 e1) (λ_ _ _ _ k1 e1 S1 e2=>IF B S (lZ B S h0 hk) S0 e1 S1 (k1.get bA hd) hl e2)
 xd {σ d N m x t b r0 es f} hm bA hd hl hN h1 h2 hle:=⟨h1.1,λhc n hn=>by
  refine bZ (h1.1) λm0 S=>?_;obtain⟨k,rfl⟩:=ky (n:=n) (cT ‹_›);have mono:=BU m.toNat hle;have za:∀j,j<=m.toNat->(cM f j r0).2.c<=5000:=λj hj=>by obtain⟨w,q⟩:=mono j hj;exact cw q.c hc
  have EN:∀j,j<=m.toNat->(cM f j r0).2.fl=true->(cM f m.toNat r0).2.fl=true:=λj hj=>by obtain⟨w,q⟩:=mono j hj;exact q.fl
  refine eE.elim (h1.2 (za 0 (eI _)) (k+1) (cg (bz ‹_›))) (λf1 ae e1 k1 S1=>?_) λf1 ae e1 k1=>?_
  ·have step:∀j ag,j<m.toNat->(cM f j r0).2.fl=false->Kp a σ ag->Self ag sf a (cM f j r0).2.k->eE P sc sf a .z (k+1) b ag.length (ag++[.ay (bc es x (cM f j r0).1.v)]) (cM f (j+1) r0):=
    λj ag hj hf kj Sj=>(h2 j ag hj kj ⟨hf,za j (bz ‹_›),Sj⟩).2 (za (j+1) ‹_›) (k+1) (cg (bz ‹_›))
   have good:∀j v ag,j<m.toNat->(cM f j r0).2.fl=false->(cM f (j+1) r0).2.fl=false->(v=(cM f j r0).1.v/\Kp a σ ag/\Self ag sf a (cM f j r0).2.k)->(∃m',Self ag sf a m')/\∃es,ag[d]?=some (.ay es)/\es.length<=aM/\∃v' cp,aq P sc (k+1) 27 [.ref sf,b.af,.ref ag.length] (ag++[.ay (bc es x v)])=.ok v' cp/\(v'=(cM f (j+1) r0).1.v/\Kp a σ cp/\Self cp sf a (cM f (j+1) r0).2.k):=by
    intro j v ag hj hf hf' ⟨hv,kj,Sj⟩;subst hv;refine⟨⟨_,Sj⟩,es,kj.get bA hd,hl,?_⟩;refine eE.elim (step j ag hj hf kj Sj) (λf2 ak e2 k2 S2=>?_) λf2 _ _ _=>?_
    ·exact⟨_,ak,e2,rfl,(kj.trans .add).trans k2,S2⟩
    ·(replace f2:=hf'▸f2);exact ff f2
   cases hF:(cM f m.toNat r0).2.fl with
   |false=>
    have hall:∀j,j<=m.toNat->(cM f j r0).2.fl=false:=λj hj=>by
     cases hx:(cM f j r0).2.fl with
     |false=>rfl
     |true=>(replace hF:=(EN j hj hx)▸hF);exact tf hF
    refine fy (BM B (sc:=sc) (n:=k) (d:=d) (x:=x) (q:=b) (k:=m) S ⟨hm.1,by exact lI 0x7247d078cc049049205a4c [_] rfl hm.2⟩ e1 (λj v ag=>v=(cM f j r0).1.v/\Kp a σ ag/\Self ag sf a (cM f j r0).2.k) ⟨rfl,k1,S1⟩ (λj v ag hj hI=>good j v ag hj (hall j (bz ‹_›)) (hall (j+1) ‹_›) hI)) λv ak e2 hv k2 S2=>?_;replace e2:=hv▸e2;exact .inl ⟨hF,ak,e2,k2,S2⟩
   |true=>
    refine b8 (vB (λj=>(cM f j r0).2.fl) f1 m.toNat hF) λj0 hj0 yr yt=>?_
    obtain⟨ak,e2,k2⟩:=IG B (sc:=sc) (n:=k) (d:=d) (x:=x) (q:=b) (k:=m) (c:=7) S ⟨hm.1,by exact lI 0x7247d078cc049049205a4c [_] rfl hm.2⟩ e1 j0 hj0 (λj v ag=>v=(cM f j r0).1.v/\Kp a σ ag/\Self ag sf a (cM f j r0).2.k) (Kp a σ) ⟨rfl,k1,S1⟩ (λj v ag hj hI=>good j v ag (by exact lN 0xd06130124124124814d06138538184c [_,_,_] rfl hj0 hj) (yr j (bz ‹_›)) (yr (j+1) ‹_›) hI) (λv ag ⟨hv,kj,Sj⟩=>by
     subst hv;refine⟨⟨_,Sj⟩,es,kj.get bA hd,hl,?_⟩;refine eE.elim (step j0 ag hj0 (yr j0 (aQ _)) kj Sj) (λf2 _ _ _ _=>?_) λf2 ak e2 k2=>?_
     ·have yt:(cM f (j0+1) r0).2.fl=true:=yt;(replace f2:=yt▸f2);exact tf f2
     ·exact⟨ak,e2,(kj.trans .add).trans k2⟩)
    exact .inr ⟨hF,ak,e2,k2⟩
  ·exact .inr ⟨EN 0 (eI _) f1,ae,IC B S e1,k1⟩⟩
 yp {σ d N g x kd t b s r es} h bA hd hl hN h1:=⟨⟨_,h.2.2⟩,λhc n hn=>by
  refine bZ (ky (cT ‹_›)) λk bg=>?_;subst bg;have S:=h.2.2;refine eE.elim ((h1 σ (.aB [.str x,t.af,.ref d]) (.refl _) h rfl).2 hc (k+1) (cg (bz ‹_›))) (λf2 ak e2 k2 S2=>?_) λf2 ak e2 k2=>?_
  ·exact .inl ⟨f2,ak,Dy B S hd hl e2,Kp.add.trans k2,S2⟩
  ·exact .inr ⟨f2,ak,NY B S hd hl e2,Kp.add.trans k2⟩⟩
 yq {σ d N g x t b p q s s1 s2 es w} h h0 hk bA hd hl hN h1 h2 hle:=⟨⟨_,h.2.2⟩,λhc n hn=>by
  refine bZ (ky (cT ‹_›)) λk bg=>?_;subst bg;have S:=h.2.2;have e0:=lZ (sc:=sc) B (n:=k) S h0 (Int.le_of_lt ‹_›);have S0:=S.set (s.k+1);have jR:=lZ (sc:=sc) B (n:=k) S0 (by exact lI 0x61320049049205320 [_] rfl h0) hk;have vb:=S0.set (s.k+1+1);have k0:Kp a σ ((σ.set a (.cU (s.k+1))).set a (.cU (s.k+1+1))):=Kp.set.trans .set;refine eE.elim ((h1 _ k0 ⟨h.1,h.2.1,vb⟩).2 (cw hle.c hc) (k+1) (cg (bz ‹_›))) (λf1 ae e1 k1 S1=>?_) λf1 ae e1 k1=>?_
  ·have k1:=(k0.trans .add).trans k1;refine eE.elim ((h2 ae k1 ⟨f1,cw hle.c hc,S1⟩).2 hc (k+1) (cg (bz ‹_›))) (λf2 ak e2 k2 S2=>?_) λf2 ak e2 k2=>?_
   ·exact .inl ⟨f2,ak,OM B S e0 S0 jR vb (k0.get bA hd) hl e1 S1 (k1.get bA hd) hl e2,(k1.trans .add).trans k2,S2⟩
   ·exact .inr ⟨f2,ak,L7 B S e0 S0 jR vb (k0.get bA hd) hl e1 S1 (k1.get bA hd) hl e2,(k1.trans .add).trans k2⟩
  ·exact .inr ⟨hle.fl f1,ae,L6 B S e0 S0 jR vb (k0.get bA hd) hl e1,(k0.trans .add).trans k1⟩⟩
end
theorem HG.to(g:Gr G)(h:HG d Γ l f t k):G d Γ l f t k:=by
 induction h with
|num=>exact g.num
|name h=>exact g.name h
|jb h=>exact g.jb h
|jw h=>exact g.jw h
|jx=>exact g.jx
|jF=>exact g.jF
|when _ _ _ i1 i2 i3=>exact g.when i1 i2 i3
|use h _ i=>exact g.use h i
|aX _ _ i1 i2=>exact g.aX i1 i2
|bb h _ _ i1 i2=>exact g.bb h i1 i2
|def_ h _ _ i1 i2=>exact g.def_ h i1 i2
|bE _ i=>exact g.bE i
|hole _ i=>exact g.hole i
|lift _ i=>exact g.lift i
|run _ i=>exact g.run i
|aj _ _ i1 i2=>exact g.aj i1 i2
|kept _ _ i1 i2=>exact g.kept i1 i2
|twice _ _ _ i1 i2 i3=>exact g.twice i1 i2 i3
def Ks(σ ag:H):Prop:=∀(i:Nat)(o:O),σ[i]?=some o->ag[i]?=some o
theorem Ks.add:Ks σ (σ++τ):=λ_ _ h=>old h
theorem Ks.trans(h:Ks σ ag)(h':Ks ag cp):Ks σ cp:=λi o q=>h' i o (h i o q)
theorem Kp.ks(h:Kp a σ ag)(τ:H)(e:∃ρ,σ=τ++ρ)(ha:τ.length<=a):Ks τ ag:=λi o q=>by
 obtain⟨ρ,rfl⟩:=e;have:i<τ.length:=(List.getElem?_eq_some_iff.mp q).1;exact h.get (Nat.ne_of_lt (Nat.lt_of_lt_of_le this ha)) (old q)
structure qk(P:Prog):Prop extends pW P HG,m5 P,Kinds P,lL P,LVal P where
 f6:P.fns 6=some si
 FV:P.fns 29=some zH
 zb:P.fns 53=some Cm
 FW:P.fns 63=some zZ
 vc:P.fns 68=some Ck
 FX:P.fns 71=some qJ
def zc:Kd->Nat
|.aA=>68|.aV=>53
def oS:Sg:=⟨0,false,0⟩
def fin(t:Tm):Bv×Sg:=sd t (λ_=>.no) .z oS
theorem Pd(h:d<=5):0+W d 0<=K0:=by
 have:∀d:Fin 6,0+W d.val 0<=K0:=by decide+kernel
 exact this ⟨d,by(exact Nat.succ_le_succ ‹_›)⟩
theorem N4(h:d<=5):fb true d 0<=514:=by
 have:∀d:Fin 6,fb true d.val 0<=514:=by decide+kernel
 exact this ⟨d,by(exact Nat.succ_le_succ ‹_›)⟩
section
variable{st:Nat}{aE:H->Sg->Prop}{aZ:H->V->Str->Tm->Nat->Prop}{Out:Lv->Nat->Tm->Nat->H->Bv×Sg->Prop}
theorem xe(K:oi st aE aZ Out)(h:HG d [] .z true t k)(hd:d<=5)(hs:aE σ oS)(hne:dd≠st)(zd:σ[dd]?=some (.ay [])):Out .z 514 t dd σ (fin t):=
 K.more (stage K h false 0 0 (a8 _) (λq=>by cases q) (λ_ g ka k q=>by exact bL q) hd (λ_=>.no) (λ_=>none) oS σ dd [] (λ_=>rfl) (λx e q=>by exact bL q) (a8 _) (λy m q=>by exact bL q) (Pd hd) hs hne zd (by show 0+(8*d+8)<=aM;have:aM=1000000:=rfl;exact lN 0xd041a04328801241240248248165306007247d078cd [_,_] rfl hd this) (λx e q=>by exact bL q)) (N4 hd)
end
theorem top(h:HG d [] .z true t k)(hd:d<=5):fF (λ_=>none) k (fin t).1/\(gD (fin t).2->(fin t).1.e (λ_=>.no)=t.den λ_=>.no):=by
 have e:=era h false 0 (a8 _) (λq=>by cases q) (λ_ g ka k q=>by exact bL q) hd;have a1:Se 0 [] (λ_=>Sv.no) (λ_=>none):=λx e q=>by exact bL q
 have a2:Below (λ_=>none) oS.k:=λy m q=>by exact bL q
 exact⟨(e.1 _ _ oS a1 (a8 _) a2).1.ok,λhf=>e.2 _ _ oS a1 (a8 _) a2 (λ_ _=>rfl) hf _ _ λx e q=>by exact bL q⟩
structure Pg(t:Tm)(k:Kd):Prop where
 hk:HK [] .z true t k
 dp:t.depth<=40
 cs:CS (nf []) t
 st:∀{st:Nat}{aE:H->Sg->Prop}{aZ:H->V->Str->Tm->Nat->Prop}{Out:Lv->Nat->Tm->Nat->H->Bv×Sg->Prop},oi st aE aZ Out->∀{σ:H}{dd:Nat},aE σ oS->dd≠st->σ[dd]?=some (.ay [])->Out .z 520 t dd σ (fin t)
theorem Pg.of(h:HG d [] .z true t k)(hd:d<=5):Pg t k:=⟨(h.to lj).1,by have:=(h.to lj).2;lia,h.cs,λK σ dd h1 h2 h3=>K.more (xe K h hd h1 h2 h3) (by decide)⟩
theorem Pg.run(h:HG d [] .z true t .aV)(hd:d<=5):Pg (.un .run t) .aA:=⟨.run (h.to lj).1,by have:=(h.to lj).2;simp only[rK];lia,.un h.cs,λK σ dd h1 h2 h3=>by
 obtain⟨p,e1,e2,e3,e4,e5⟩:=(top h hd).1;have:=xe K h hd h1 h2 h3;rw[show fin t=(.pc p,(fin t).2) from Prod.ext e1 rfl] at this;have:=K.run this e2 e4 (bP (e5 _) (by lia)) (by decide);have e:fin (.un .run t)=gW p (fin t).2:=by show gW (fin t).1.p (fin t).2=_;rw[e1];rfl
 rw[e]
 exact K.more this (by decide)⟩
section
variable{P:Prog}{sc:List Int}
variable(B:qk P)
include B
theorem DP(h:HK [] .z true t k)(hn:3*t.depth+3<=n)(hd:t.depth<=1000):∃τ,aq P sc (n+1) 49 [t.af] σ=.ok (.str k.s) (σ++τ):=by have hlim:(1000000:Nat)<=aM:=aQ _;obtain⟨τ,e⟩:=Io B.toKinds h n hn σ.length [] (σ++[.ay []]) bC (λ_=>rfl) (by show 0+t.depth<=aM;exact lN 0xd04c8012412412481681ef3053401c91f41e3 [_,_] rfl hd hlim);refine⟨[.ay []]++τ,?_⟩;rw[cf B.Fi rfl,←List.append_assoc];exact(congrArg bS (bf (aJ rfl e))).trans rfl
theorem yu:ao (cx P sc n) (.glob 0) L σ=.ok (.str Kd.aA.s) σ:=by (refine nQ▸?_);show cX (P.consts 0) σ=_;(refine(B.c0)▸?_);rfl
theorem EO:ao (cx P sc n) (.glob 1) L σ=.ok (.str Kd.aV.s) σ:=by (refine nQ▸?_);show cX (P.consts 1) σ=_;(refine(B.c1)▸?_);rfl
theorem AR(h:Pg t k)(hc:(fin t).2.c<=5000)(hn:520<=n)(σ:H):
  ((fin t).2.fl=false/\∃ag,aq P sc (n+1) (zc k) [t.af] σ=.ok (fin t).1.v ag/\Ks σ ag)∨((fin t).2.fl=true/\∃ag,aq P sc (n+1) (zc k) [t.af] σ=.aF 7 ag/\Ks σ ag):=by
 have hk:=h.hk;have d0:=h.dp;obtain⟨m,rfl⟩:∃m,n=m+1:=⟨n-1,by exact cj (lN 0x184284c308049201241248 [_] rfl) (by lia)⟩;obtain⟨τ,e0⟩:=DP (sc:=sc) B (n:=m) (σ:=σ) hk (by lia) (by lia);have hl:(σ++τ++[O.cU 0]++[O.inst 5 (σ++τ).length]).length=(σ++τ).length+2:=by simp only[List.length_append,List.length_singleton]
 have kk:∀ag,Kp (σ++τ).length (σ++τ++[.cU 0]++[.inst 5 (σ++τ).length]++[.ay []]) ag->Ks σ ag:=λag q=>Ks.add.trans (q.ks (σ++τ) ⟨[.cU 0]++([.inst 5 (σ++τ).length]++[.ay []]),by simp only[List.append_assoc]⟩ (aQ _));refine eE.elim ((h.st (AQ (sc:=sc) B.tom5 ((σ++τ).length+1) (σ++τ).length) (σ:=σ++τ++[.cU 0]++[.inst 5 (σ++τ).length]++[.ay []]) (dd:=(σ++τ++[O.cU 0]++[O.inst 5 (σ++τ).length]).length) ⟨rfl,by decide,(jT.add)⟩ (hl▸Nat.ne_of_gt (Nat.le_succ _)) bC).2 hc (m+1) ‹_›) (λf1 ae e1 k1 S1=>?_) λf1 ae e1 k1=>?_
 ·refine .inl ⟨f1,ae,?_,kk ae k1⟩;clear hk h;cases k with
  |aA=>show aq _ _ _ 68 _ _=_;rw[cf B.vc rfl];exact(congrArg bS ((bY (ne_str (aJ rfl e0) (yu B))).trans (bf (cB pj jT rfl e1)))).trans rfl
  |aV=>show aq _ _ _ 53 _ _=_;rw[cf B.zb rfl];exact(congrArg bS ((bY (ne_str (aJ rfl e0) (EO B))).trans (bf (cB pj jT rfl e1)))).trans rfl
 ·refine .inr ⟨f1,ae,?_,kk ae k1⟩;clear hk h;cases k with
  |aA=>show aq _ _ _ 68 _ _=_;rw[cf B.vc rfl];exact(congrArg bS ((bY (ne_str (aJ rfl e0) (yu B))).trans (dO (gk (ei pj jT rfl e1))))).trans rfl
  |aV=>show aq _ _ _ 53 _ _=_;rw[cf B.zb rfl];exact(congrArg bS ((bY (ne_str (aJ rfl e0) (EO B))).trans (dO (gk (ei pj jT rfl e1))))).trans rfl
omit B in
theorem J4(h:a6 C b L σ=.aF c L1 ae):cG C (.gU b c hb) L σ=a6 C hb L1 ae:=by simp only[AV,h,if_true]
end
theorem qU:ao C (.ay [] .nil) L σ=.ok (.ref σ.length) (σ++[.ay []]):=rfl
theorem IH(h:CS F p):∀φ:Str->Int,(∀x,0<=φ x)->0<=p.cost φ:=by
 induction h with
|num=>exact λ_ _=>by simp only[ll,lp,lq,lr,lu,lx,ly,lz,lA];decide
|name=>exact λ_ _=>by simp only[ll,lp,lq,lr,lu,lx,ly,lz,lA];decide
|un _ i=>intro φ h;have:=i φ h;simp only[ll,lp,lq,lr,lu,lx,ly,lz,lA];exact lI 0x4180c860049049205320 [_] rfl this
|@use F g a _ _ i=>intro φ h;have y1:=i φ h;have y2:=h g;simp only[ll,lp,lq,lr,lu,lx,ly,lz,lA];exact lI 0x134132180124124124814d805320 [_,_] rfl y1 y2
|aj _ _ i j=>intro φ h;have y1:=i φ h;have y2:=j φ h;simp only[ll,lp,lq,lr,lu,lx,ly,lz,lA];exact lI 0x104180d32180124124124814c805360 [_,_] rfl y1 y2
|when _ _ _ i j k=>intro φ h;have y1:=i φ h;have y2:=j φ h;have y3:=k φ h;simp only[ll,lp,lq,lr,lu,lx,ly,lz,lA];exact lI 0x4104180e34c86004904904904920532014d8053a0 [_,_,_] rfl y1 y2 y3
|aX _ _ i j=>intro φ h;have y1:=i φ h;have y2:=j φ h;simp only[ll,lp,lq,lr,lu,lx,ly,lz,lA];exact lI 0x104180d32180124124124814c805360 [_,_] rfl y1 y2
|bb hn _ _ i j=>intro φ h;have y1:=i φ h;have y2:=Int.mul_nonneg hn.1 (j φ h);simp only[ll,lp,lq,lr,lu,lx,ly,lz,lA];exact lI 0x134132180124124124814c805360 [_,_] rfl y1 y2
|@def_ F g x kd a b _ _ i j=>intro φ h;have h1:=i φ h;have h2:=j (λy=>if g==y then a.cost φ else φ y) (λy=>by show 0<=if(g==y)=true then a.cost φ else φ y;split;exact h1;exact h y);simp only[ll,lp,lq,lr,lu,lx,ly,lz,lA];exact lI 0x4c860049049205320 [_] rfl h2
section
variable{P:Prog}{sc:List Int}(B:qk P)
include B
theorem II(h:Pg t k)(hn:520<=n)(σ:H):
  ∃l ag v fl g,aq P sc (n+1) 63 [t.af] σ=.ok (.ref l) ag/\ag[l]?=some (.ah [v,.bool fl,.bool g])/\(g=false->(fin t).2.c<=5000/\v=(fin t).1.v/\fl=(fin t).2.fl):=by
 have d0:=h.dp;have hlim:(1000000:Nat)<=aM:=aQ _;obtain⟨m,rfl⟩:∃m,n=m+1:=⟨n-1,by exact cj (lN 0x184284c308049201241248 [_] rfl) (by lia)⟩;obtain⟨τ,ec⟩:=Bm B.tolL h.cs m σ.length [] (λ_=>0) (σ++[O.ay []]) (by lia) bC (by show 0+t.depth<=aM;lia) (λg hg=>by obtain⟨l,ka,k,q⟩:=hg;exact bL q);have hp:=IH h.cs (λ_=>0) λ_=>a8 _;generalize (t.cost λ_=>0)=ql at ec hp;generalize σ++[O.ay []]++τ=ae at ec;have hq:ql.fdiv 1000=ql/1000:=Int.fdiv_eq_ediv_of_nonneg _ (by decide);generalize g8:ql.fdiv 1000*5001=cc;have hE:∀L:aR,cm L 0=some t.af->ao (cx P sc (m+1)) (.ah {.int 0,.bool false,.aj .Mult (.aj .FloorDiv (.call 40 {.aa 0,.ay [] .nil}) (.int 1000)) (.int 5001)}) L σ=.ok (.ref ae.length) (ae++[.ah [.int 0,.bool false,.int cc]]):=λL hL=>
  dH (aw rfl (aw rfl (aw (bJ (bJ (aJ (aN hL (aw qU aU)) ec) rfl rfl) rfl (by
   refine jl▸?_;show(if small (ql.fdiv 1000)||small 5001 then _ else _:M V) ae=_
   rw[show small 5001=true by decide,Bool.or_true,if_pos rfl,g8];rfl)) aU))) (nb rfl)
 have hidx:∀(ag:H)(L:aR)(c:Int)(i v:V),cm L 1=some (.ref ae.length)->∀a b c',ag[ae.length]?=some (.ah [a,b,c'])->ao (cx P sc (m+1)) (.au (.aa 1) (.int 2)) L ag=.ok c' ag/\ao (cx P sc (m+1)) (.au (.aa 1) (.int 1)) L ag=.ok b ag:=λag L c i v hL a b c' hl=>⟨b9 (aD hL) rfl (da hl rfl (by decide) (by decide)),b9 (aD hL) rfl (da hl rfl (by decide) (by decide))⟩;rw[cf B.FW rfl]
 by_cases hz:cc=0
 ·clear g8;subst hz;refine b8 ((h.st (JY (sc:=sc) B.tolL ae.length) (σ:=ae++[.ah [.int 0,.bool false,.int 0]]++[.ay []]) (dd:=(ae++[O.ah [.int 0,.bool false,.int 0]]).length) (old bC) (by(refine(List.length_append)▸?_;refine(List.length_singleton)▸?_);exact Nat.succ_ne_self _) bC) (m+1) ‹_›) λak e2 k2 s2=>?_;have i2:=hidx ak [some t.af,some (.ref ae.length),some (fin t).1.v] 0 .none .none rfl _ _ _ s2;have i1:=hidx (ae++[.ah [.int 0,.bool false,.int 0]]) [some t.af,some (.ref ae.length),some .none] 0 .none .none rfl _ _ _ bC;refine⟨ak.length,ak++[.ah [(fin t).1.v,.bool (fin t).2.fl,.bool (decide (5000<(fin t).2.c))]],(fin t).1.v,(fin t).2.fl,decide (5000<(fin t).2.c),?_,bC,λq=>⟨by have:=of_decide_eq_false q;exact lI 0x20738784c04904920520738784c [_] rfl (Int.not_lt.mp this),rfl,rfl⟩⟩;exact(congrArg bS ((a4 (hE _ rfl)).trans ((a4 rfl).trans ((dt ((kH (dZ i1.1 rfl rfl)).trans ((a4 (aJ (aN rfl (aw qU rfl)) e2)).trans fq))).trans (bf (dH (aN rfl (aw i2.2 (aw (kh i2.1 rfl rfl) aU))) (nb rfl))))))).trans rfl
 ·have y1:0<=ql.fdiv 1000:=hq▸Int.ediv_nonneg hp (by decide);have y2:0<ql.fdiv 1000:=Int.lt_iff_le_and_ne.mpr ⟨y1,λq=>hz (g8▸q▸rfl)⟩;have hbig:5000<cc:=by lia
  have i1:=hidx (ae++[.ah [.int 0,.bool false,.int cc]]) [some t.af,some (.ref ae.length),some .none] 0 .none .none rfl _ _ _ bC;refine⟨(ae++[O.ah [.int 0,.bool false,.int cc]]).length,ae++[.ah [.int 0,.bool false,.int cc]]++[.ah [.none,.bool false,.bool true]],.none,false,true,?_,bC,λq=>by exact tf q⟩;exact(congrArg bS ((a4 (hE _ rfl)).trans ((a4 rfl).trans ((bY (dZ i1.1 rfl ((tM cc 0 _).trans (by(refine(beq_eq_false_iff_ne.mpr hz)▸?_;with_reducible rfl))))).trans (bf (dH (aN rfl (aw i1.2 (aw (kh i1.1 rfl (by show Res.ok (decide ((5000:Int)<cc)) _=_;(refine(decide_eq_true hbig)▸?_;with_reducible rfl))) aU))) (nb rfl))))))).trans rfl
end
theorem Pg.lift(h:HG d [] .z true t .aA)(hd:d<=5):Pg (.un .lift t) .aV:=⟨.lift (h.to lj).1,by have:=(h.to lj).2;simp only[rK];lia,.un h.cs,λK σ dd h1 h2 h3=>by
 obtain⟨i,e1,_⟩:=(top h hd).1;have:=xe K h hd h1 h2 h3;rw[show fin t=(.num i,(fin t).2) from Prod.ext e1 rfl] at this;have:=K.lift (by decide) this;have e:fin (.un .lift t)=(.pc (.num i),(fin t).2):=by show(Bv.pc (.num (fin t).1.n),(fin t).2)=_;rw[e1];rfl
 rw[e]
 exact K.more this (by decide)⟩
section
variable{P:Prog}{sc:List Int}(B:qk P)
include B
theorem Qo(e1:aq P sc n 36 [x.af,.ref d] σ=.ok v ae):aq P sc (n+1) 36 [(Tm.un w x).af,.ref d] σ=.ok v ae:=by cases w<;>exact mH B.toLVal (λ_ _=>rfl) (jmp 2 (by rfl') (bT (by rfl') (bf (aJ rfl e1))))
theorem CL(h:dF q (λ_=>none) t)(hd:t.depth<=1000)(hn:2*t.fr (λ_=>0)<=n)(σ:H):dg (t.den λ_=>.no)/\∃τ,aq P sc n 36 [t.af,.ref σ.length] (σ++[.ay []])=.ok (.int (t.den λ_=>.no)) (σ++[.ay []]++τ):=by
 have hlim:aM=1000000:=rfl
 obtain⟨r,e⟩:=tT (JM (sc:=sc) B.toLVal) h (λ_ {σ d N w x v} ho e n hn=>by
  obtain⟨k,rfl⟩:=gf (n:=n) (by lia);obtain⟨τ,e⟩:=e k (by lia)
  exact⟨τ,Qo B e⟩) (λ_=>0) (σ++[.ay []]) σ.length [] (λ_=>.no) trivial bC (by show 0+t.depth<=aM;lia) (λx m hx=>by exact bL hx)
 exact⟨r,e n hn⟩
theorem N5(h:HG d [] .z true t k)(hd:d<=5)(hn:500<=n)(σ:H):∃τ,aq P sc n 36 [t.af,.ref σ.length] (σ++[.ay []])=.ok (.int (t.den λ_=>.no)) (σ++[.ay []]++τ):=
 (CL B (show dF true (λ_=>none) t from h.pu) (by have:=(h.to lj).2;lia) (by have:=h.fr (λ_=>0) 0 (λg e q=>by exact bL q);have h2:Fq d<=250:=jG hd;lia) σ).2
theorem J5(h:PD (λ_=>none) t)(hd:t.depth<=1000)(hn:2*t.fr (λ_=>0)<=n)(σ:H):∃τ,aq P sc (n+1) 29 [t.af] σ=.ok (.int (t.den λ_=>.no)) (σ++τ):=by have hlim:aM=1000000:=rfl;have S:Self (σ++[.cU 0]++[.inst 5 σ.length]++[.ay []]) (σ.length+1) σ.length 0:=jT.add;obtain⟨_,e⟩:=tT (AM B.tom5) h (by exact ff) (λ_=>0) _ _ [] (λ_=>.no) S bC (by show 0+t.depth<=aM;lia) (λx m hx=>by exact bL hx);obtain⟨τ,e⟩:=e n hn;refine⟨[.cU 0]++([.inst 5 σ.length]++([.ay []]++τ)),?_⟩;rw[cf B.FV rfl,←List.append_assoc,←List.append_assoc,←List.append_assoc];exact(congrArg bS (bf (cB pj jT rfl e))).trans rfl
end
theorem BV(h:dg i):i.fmod 1000003=i:=Int.fmod_eq_of_lt h.1 h.2
def ng(k:Kd)(t:Tm):Tm:=match k with
|.aA=>t
|.aV=>.un .run t
theorem N6(h:HG d [] .z true t k)(hd:d<=5):Pg (ng k t) .aA:=by
 cases k with
|aA=>exact .of h hd
|aV=>exact .run h hd
theorem Ma(h:HG d [] .z true t k)(hd:d<=5)(hf:gD (fin (ng k t)).2):gD (fin t).2/\(fin (ng k t)).1=.num (t.den λ_=>.no)/\dg (t.den λ_=>.no):=by
 obtain⟨g,e⟩:=top h hd;clear h;cases k with
|aA=>
  obtain⟨i,e1,r⟩:=g;have e:=e hf;rw[e1] at e;have e:i=t.den λ_=>.no:=e;exact⟨hf,by rw[←e];exact e1,e▸r⟩
|aV=>
  obtain⟨p,e1,e2,e3,e4,e5⟩:=g;have er:fin (.un .run t)=gW p (fin t).2:=by show gW (fin t).1.p (fin t).2=_;rw[e1];rfl
  have hf:gD (fin (.un .run t)).2:=hf;show _/\(fin (.un .run t)).1=_/\_;rw[er] at hf ⊢;unfold gW at hf ⊢;have hc:=sZ e2 (λ_=>0) λ_=>a8 _;have hc:1<=p.d5:=hc
  by_cases q:5000<(fin t).2.c+p.d5
  ·rw[if_pos q] at hf;exact absurd hf.2 (Int.not_le.mpr q)
  ·rw[if_neg q] at hf ⊢;have hF:gD (fin t).2:=⟨hf.1,by lia⟩;have e:=e hF;rw[e1] at e;have e:p.den (λ_=>.no)=t.den λ_=>.no:=e;rw[←e];exact⟨hF,rfl,iV _ _ λ_=>trivial⟩
section
variable{P:Prog}{sc:List Int}(B:qk P)
include B
theorem Mb(h:HG d [] .z true t .aA)(hd:d<=5)(hF:gD (fin t).2)(hi:(fin t).1=.num i)(hr:dg i)(hn:530<=n)(σ:H):∃ag,aq P sc (n+1) 68 [(Tm.un .run (.un .lift t)).af] σ=.ok (.int i) ag:=by
 obtain⟨m,rfl⟩:∃m,n=m+2:=⟨n-2,by lia⟩;have hk:=(h.to lj).1;have d0:=(h.to lj).2;obtain⟨τ,e0⟩:=DP (sc:=sc) B (n:=m+1) (σ:=σ) (HK.run (HK.lift hk)) (by simp only[rK];lia) (by simp only[rK];lia);have hl:(σ++τ++[O.cU 0]++[O.inst 5 (σ++τ).length]).length=(σ++τ).length+2:=by simp only[List.length_append,List.length_singleton]
 have el:fin (.un .lift t)=(.pc (.num i),(fin t).2):=by show(Bv.pc (.num (fin t).1.n),(fin t).2)=_;rw[hi];rfl
 refine eE.elim (((Pg.lift h hd).st (AQ (sc:=sc) B.tom5 ((σ++τ).length+1) (σ++τ).length) (σ:=σ++τ++[.cU 0]++[.inst 5 (σ++τ).length]++[.ay []]) (dd:=(σ++τ++[O.cU 0]++[O.inst 5 (σ++τ).length]).length) ⟨rfl,by decide,(jT.add)⟩ (hl▸Nat.ne_of_gt (Nat.le_succ _)) bC).2 (by rw[el];exact hF.2) (m+1) (by lia)) (λf1 ae e1 k1 S1=>?_) λf1 ae e1 k1=>?_
 ·rw[el] at e1;have e2:=xG (sc:=sc) B.tom5 (n:=m) (s:=(σ++τ).length+1) (d:=ae.length) (i:=i) (ae++[.ay []]);rw[BV hr] at e2;refine⟨ae++[.ay []],?_⟩;rw[cf B.vc rfl];exact(congrArg bS ((bY (ne_str (aJ rfl e0) (yu B))).trans (bf (cB pj jT rfl (DA (m1:=0) B.tom5 jT.add e1 e2))))).trans rfl
 ·rw[el] at f1;exact absurd (f1.symm.trans hF.1) (by decide)
theorem wG(h:Pg t k)(hF:gD (fin t).2)(hn:520<=n)(σ:H):∃ag,aq P sc (n+1) (zc k) [t.af] σ=.ok (fin t).1.v ag:=by
 rcases AR B h hF.2 hn σ with ⟨_,ae,e1,_⟩|⟨f1,_⟩
 ·exact⟨ae,e1⟩
 ·exact absurd (f1.symm.trans hF.1) (by decide)
end
section
variable{P:Prog}{sc:List Int}(B:qk P)
include B
omit B in
theorem Pe{C:Ctx}{k:Kd}{t:Tm}{L:aR}{σ:H}(h1:cm L 1=some (.str k.s))(h2:cm L 2=some t.af):
  ao C (.au (.ah {.aa 2,.aB {.str "run",.aa 2}}) (.toInt (.cmp .Eq (.aa 1) (.str "piece")))) L σ=.ok (ng k t).af (σ++[.ah [t.af,(Tm.un .run t).af]]):=by
 have hl:=dH (C:=C) (L:=L) (σ:=σ) (vs:=[t.af,(Tm.un .run t).af]) (es:=.cons (.aa 2) {.aB {.str "run",.aa 2}}) (aN h2 (aw (bN (aw rfl (aN h2 aU)) (nb rfl)) aU)) (nb rfl);cases k with
|aA=>exact b9 hl (kL (kh (aD h1) rfl rfl) rfl) (da bC rfl (by decide) (by decide))
|aV=>exact b9 hl (kL (kh (aD h1) rfl rfl) rfl) (da bC rfl (by decide) (by decide))
theorem N7(hs:sc.length<=63):∃ag,aq P sc 690 71 [.ct] []=.ok (.bool true) ag:=by
 rw[show(690:Nat)=689+1 from rfl,cf B.FX rfl]
 suffices hw:∃L' ag,a6 (cx P sc 689) qJ.body [some .ct,none,none,none,none,none,none] []=.ok (.ret (.bool true)) L' ag by
  refine gm (hw) λL' ag e=>?_;exact⟨ag,(congrArg bS e).trans rfl⟩
 have hm:∀(L:aR)(σ:H),cm L 0=some .ct->ao (cx P sc 689) (.call 4 {.aa 0,.int 1}) L σ=.ok (.int (mixed sc 1)) σ:=λL σ h=>
  aJ (aN h (by rfl)) (vz B.toBase (n:=687) (by decide) hs σ)
 generalize mixed sc 1=N at hm;have hkd:∃k:Kd,[V.str Kd.aA.s,V.str Kd.aV.s][(N.fmod 2).toNat]?=some (.str k.s):=by
  rcases ES N with q|q<;>rw[q]
  ·exact⟨.aA,rfl⟩
  ·exact⟨.aV,rfl⟩
 refine bB λXx aI=>?_;obtain⟨k,hk⟩:=hkd;have ze:=jq (P:=P) B.toBase (a:=N.fdiv 2) (b:=8) (by decide);have zd:∃d:Nat,5-((N.fdiv 2).fmod 8).fdiv 3=(d:Int)/\d<=5:=by
  generalize (N.fdiv 2).fmod 8=j at ze;have h3:j.fdiv 3=j/3:=Int.fdiv_eq_ediv_of_nonneg _ (by decide);rw[h3];have a1:=Int.ediv_nonneg ze.1 (by decide:(0:Int)<=3);have a2:j/3<3:=Int.ediv_lt_of_lt_mul (by decide) (Int.lt_trans ze.2 (by decide));exact⟨(5-j/3).toNat,(Int.toNat_of_nonneg (by exact lI 0x8c9600490492058c184c [_] rfl a2)).symm,Int.toNat_le.mpr (by show 5-j/3<=5;exact lI 0x942325049049205320 [_] rfl a1)⟩
 refine aO (zd) λd hd kC=>?_;refine cW (Iy B.topW hs d 689 (by exact lN 0xc47a81a043230490c920594c [_] rfl kC) [] .z k true 1 2 [.ah [.str Kd.aA.s,.str Kd.aV.s],.ah [.int 1,.int 0],.ah []] ⟨1,0,by decide,rfl⟩ rfl (λ_ h=>absurd h List.not_mem_nil) (by simp;exact lN 0xa07bc43230490c920594c [_] rfl kC) (λh=>by cases h)) λt s1 e1 h k1=>?_;have hT:=N6 h kC;refine N9 (II (sc:=sc) B hT (n:=688) (by decide) (s1++[.ah [t.af,(Tm.un .run t).af]])) λl3 s3 v fl g e3 h3 hg=>?_;refine aI ?_;have g1:a6 (cx P sc 689) qJ.body [some .ct,none,none,none,none,none,none] []=_:=(a4 (v:=.str k.s) (ae:=[.ah [.str Kd.aA.s,.str Kd.aV.s]]) (b9 (dH (vs:=[.str Kd.aA.s,.str Kd.aV.s]) (ae:=[]) rfl (nb rfl)) (bJ (r:=.int (N.fmod 2)) (hm _ _ rfl) rfl rfl) (da (vs:=[.str Kd.aA.s,.str Kd.aV.s]) rfl hk (jq (P:=P) B.toBase (a:=N) (b:=2) (by decide)).1 (by lia)))).trans
  ((a4 (v:=t.af) (ae:=s1) (aJ (aN rfl (aw (dH (vs:=[.int 1,.int 0]) (ae:=[.ah [.str Kd.aA.s,.str Kd.aV.s]]) rfl (nb rfl)) (aw rfl (aN rfl (aw (dH aU (nb rfl)) (aw (x:=.int d) (bJ (x:=.int 5) rfl (bJ (r:=.int (((N.fdiv 2).fmod 8).fdiv 3)) (bJ (r:=.int ((N.fdiv 2).fmod 8)) (bJ (r:=.int (N.fdiv 2)) (hm _ _ rfl) rfl rfl) rfl rfl) rfl rfl) (by rw[←hd];rfl)) rfl)))))) e1)).trans
  ((a4 (Pe rfl rfl)).trans (a4 (aJ rfl e3))))
 have ix:∀(L:aR)(s:H)(i:Int)(x:V),cm L 4=some (.ref l3)->s[l3]?=some (.ah [v,.bool fl,.bool g])->[v,.bool fl,.bool g][i.toNat]?=some x->0<=i->i<100->index (cx P sc 689) (.ref l3) (.int i) s=.ok x s:=λL s i x hL hl hx h0 h1=>da hl hx h0 (lI 0x700700700700700700700700700790184c04904920590784184c [_] rfl h1);cases g with
|true=>exact⟨_,_,g1.trans (bT (xD (aD rfl) rfl (ix [none,none,none,none,some (.ref l3)] s3 2 (.bool true) rfl h3 rfl (by decide) (by decide))) (bf rfl))⟩
|false=>
  refine bB λXx aI=>?_;refine kP (hg rfl) λhc bg a9=>?_;clear hg;subst bg;subst a9;have g2:=g1.trans (bY (xD (aD rfl) rfl (ix [none,none,none,none,some (.ref l3)] s3 2 (.bool false) rfl h3 rfl (by decide) (by decide))));rcases AR (sc:=sc) B hT hc (n:=688) (by decide) s3 with ⟨f5,s5,e5,k5⟩|⟨f5,s5,e5,k5⟩
  ·have hF:gD (fin (ng k t)).2:=⟨f5,hc⟩;obtain⟨oQ,hv,hr⟩:=Ma h kC hF;rw[hv] at e5;have e5:aq P sc 689 68 [(ng k t).af] s3=.ok (.int (t.den λ_=>.no)) s5:=e5;obtain⟨FY,e6⟩:=N5 (sc:=sc) B h kC (n:=689) (by decide) s5;have qm:(s5++[O.ay []]++FY)[l3]?=some (.ah [(fin (ng k t)).1.v,.bool (fin (ng k t)).2.fl,.bool false]):=old (old (k5 _ _ h3));rw[f5] at qm;have i6:=da (C:=cx P sc 689) qm (k:=1) rfl (by decide) (by decide);generalize s5++[O.ay []]++FY=s6 at e6 qm i6
   have g3:=(g2.trans (dt (Ln ((a4 (aJ rfl e5)).trans fq)))).trans ((a4 (aJ (aN rfl (aw qU aU)) e6)).trans
    (bY (ku (any_cons (OA (MR rfl (HA B.f6 _ 688 s6))) (λ_=>any_cons (ne_int (aD rfl) (aD rfl)) (λ_=>any_cons (xD (aD rfl) rfl i6) (λ_=>any_nil) (by exact ff)) (by exact ff)) (by exact ff)))))
   refine aI ?_;cases k with
   |aA=>
    obtain⟨s7,e7⟩:=Mb (sc:=sc) B h kC oQ hv hr (n:=688) (by decide) s6;have el:fin (.un .lift t)=(.pc (.num (t.den λ_=>.no)),(fin t).2):=by show(Bv.pc (.num (fin t).1.n),(fin t).2)=_;rw[show(fin t).1=_ from hv];rfl
    obtain⟨s8,e8⟩:=wG (sc:=sc) B (Pg.lift h kC) (by rw[el];exact oQ) (n:=688) (by decide) s7;rw[el] at e8;have e9:=DC (sc:=sc) B.toLVal (n:=688) (d:=s8.length) (i:=t.den λ_=>.no) (s8++[.ay []]);rw[BV hr] at e9;exact⟨_,_,g3.trans (bT (by rfl') (bf (Bj (sX (aJ (aw (bN (aw rfl (aw (bN (aw rfl (aN rfl aU)) (nb rfl)) aU)) (nb rfl)) aU) e7) (aD rfl)) (sX (aJ (aw (aJ (aw (bN (aw rfl (aN rfl aU)) (nb rfl)) aU) e8) (aw qU aU)) e9) (aD rfl)))))⟩
   |aV=>
    obtain⟨gt,ee⟩:=top h kC;obtain⟨p,p1,p2,p3,p4,p5⟩:=gt;have ee:=ee oQ;rw[p1] at ee;have ee:p.den (λ_=>.no)=t.den λ_=>.no:=ee;have hp:=p5 λ_=>0;obtain⟨s7,e7⟩:=wG (sc:=sc) B (Pg.of h kC) oQ (n:=688) (by decide) s6;rw[p1] at e7;obtain⟨RH,e8⟩:=(CL (sc:=sc) B p2 (by lia) (n:=689) (by lia) s7).2;rw[ee] at e8;obtain⟨s9,e9⟩:=wG (sc:=sc) B (Pg.of h kC) oQ (n:=688) (by decide) (s7++[.ay []]++RH);rw[p1] at e9;obtain⟨RQ,gF⟩:=J5 (sc:=sc) B p2 (by lia) (n:=688) (by lia) s9;rw[ee] at gF;exact⟨_,_,g3.trans ((bY (by rfl')).trans (bf (Bj (sX (aJ (aw (aJ (aN rfl aU) e7) (aw qU aU)) e8) (aD rfl)) (sX (aJ (aw (aJ (aN rfl aU) e9) aU) gF) (aD rfl)))))⟩
  ·refine aI ?_;have qm:=k5 _ _ h3;rw[f5] at qm;exact⟨_,_,g2.trans (sV ((J4 (dO (j8 (CK rfl e5)))).trans (bf (b9 (aD rfl) rfl (da qm rfl (by decide) (by decide))))))⟩
end
end Qh
set_option backward.match.sparseCases true
set_option bootstrap.genMatcherCode true
set_option genInjectivity true
set_option genSizeOf true
set_option tactic.hygienic true
end
set_option tactic.hygienic true
namespace Qh
theorem IJ:qk (Cn.pJ Ef) where
 cell:=rfl
 mixed:=rfl
 drawn:=rfl
 name:=rfl
 next:=rfl
 aA:=rfl
 uY:=rfl
 Fm:=rfl
 f32:=rfl
 Fo:=rfl
 Fp:=rfl
 Ft:=rfl
 gr:=Qg
 f0:=rfl
 f1:=rfl
 f2:=rfl
 eS:=rfl
 Fy:=rfl
 uZ:=rfl
 Fz:=rfl
 yV:=rfl
 yW:=rfl
 c2:=rfl
 c3:=rfl
 c4:=rfl
 Fe:=rfl
 Ff:=rfl
 Fg:=rfl
 Fh:=rfl
 uU:=rfl
 qg:=rfl
 Fi:=rfl
 c0:=rfl
 c1:=rfl
 yZ:=rfl
 FH:=rfl
 FJ:=rfl
 FK:=rfl
 FL:=rfl
 FO:=rfl
 r6:=rfl
 FP:=rfl
 f6:=rfl
 zb:=rfl
 FW:=rfl
 vc:=rfl
 FA:=rfl
 FC:=rfl
 r4:=rfl
 FV:=rfl
 FX:=rfl
end Qh
open PySem PySem.W PyProof.Rows
set_option maxRecDepth 100000
set_option maxHeartbeats 0
theorem PySem.Challenge.cw_uf040035_08_holds : PySem.Challenge.rw_uf040035_08.Holds := by
 refine Qh.Md (by rfl) (by rfl) (by rfl) ?_;intro w cN bw mg mb G Y fa o pm cd doc dV kV ho hd hcd hD RI hg args vals as hpre hlay hrd hwl hlo;refine Ground.open G ?_;intro T B D TE TW
 try (refine guard_noD D (by decide+kernel) ?_;clear D)
 wrow_args hpre hlay hrd hwl hlo
 rename_i script hs RW RX hr1 hl2 RY RZ sA xs R0 hL ra w1 r0 hI hr hc1 hc2
 have hlen:script.length<=63:=by lia
 have rJ:=Qh.N7 (sc:=script) Qh.IJ hlen;obtain⟨ag,rJ⟩:=rJ;refine Qh.MP (I:=Qh.Cn) (kd:=Qh.Ef) (L:=71) T TW TE (T.seer (by decide+kernel)) (by decide+kernel) (by decide+kernel) (by decide+kernel) (by decide+kernel) (by decide+kernel) (by decide+kernel) hL hI hlen (dL:=⟨"law",Qh.qJ,Qh.zo⟩) rfl (by decide+kernel) RI rJ λh' tk hk=>?_;refine GoodW.toG ⟨.inl ⟨_,_,_,rfl,λcls=>?_,.bool true,?_,λ_=>⟨List.nodup_nil,λa ha=>nomatch ha⟩⟩,hk,rfl,hg⟩
 ·rfl
 ·rfl'
