import PyProof.Rows.All
import Wide.All
import Open.Line
import KE.KDictOf
import PyProof.Rows.CatchBare
import PyProof.Rows.TopCatch
import PySem.Challenge.RW_uf040035_10
set_option Elab.async false
section
open PySem PySem.W PyProof.Rows
set_option maxRecDepth 100000
set_option maxHeartbeats 0
 def Qh.Qr:OpenRow:={PySem.Challenge.rw_uf040035_10.row with name:=Str.ofString "_law_whole",args:=[.int],pre:=.lit (.bool true)}
theorem Qh.o2:Qh.Qr.Holds:=by
 w_on
 o_head Hook.none
 (case hw=>w_witness2)
 w_strict o_enter
theorem Qh.Na:LeftO PySem.Challenge.rw_uf040035_10.row.prog Qh.o2.view_1 [] (λs=>xlAt Qh.o2.view_1 [] s&&recOk [] s) (Hook.obs Hook.none) (Hook.val Hook.none) 5522:=Qh.o2._proof_4
theorem Qh.Nb{d:DefRec}{kwd:List (PySem.Str×PySem.Expr)}(hdef:defOf Qh.o2.view_1 PySem.Challenge.rw_uf040035_10.row.name=some (d,kwd))(hp:PySem.Challenge.rw_uf040035_10.row.prog.theDef PySem.Challenge.rw_uf040035_10.row.name=some (d.params,d.body,d.scope))(hk:kwWritten? d.params.kwonlyargs d.params.kw_defaults=some kwd)(hc:WalkO Qh.o2.view_1 [] (XL Qh.o2.view_1 []) (Hook.says Hook.none) PySem.Challenge.rw_uf040035_10.row.toRowW d kwd λf vs=>PySem.call f vs):PySem.Challenge.rw_uf040035_10.Holds:=by
 w_on
 refine holds_law (by decide+kernel) λsaid=>?_;refine holds_open (XP:=XL Qh.o2.view_1 []) (YP:=Hook.says Hook.none) Qh.Na (Hook.of Hook.none) (Hook.keeps Hook.none) (λs e=>xl_of s (Bool.and_eq_true_iff.mp e).1) XL.keeps hdef hp hk (λs e=>recFacts_of (Bool.and_eq_true_iff.mp e).2) (by rfl) said (by decide+kernel) ⟨rfl,rfl,rfl,rfl,rfl,by decide+kernel⟩ ?hw hc
 (case hw=>w_witness2)
end
set_option autoImplicit true
set_option linter.unusedVariables false
set_option linter.unusedSimpArgs false
set_option linter.unusedSectionVars false
set_option bootstrap.genMatcherCode false
set_option genInjectivity false
set_option genSizeOf false
set_option tactic.hygienic false
noncomputable section
set_option compiler.extract_closed false in
local macro_rules (kind:=Lean.Parser.Command.declaration)
|s=>λ_ t=>bif ((s.getArg 0).getArg 4).matchesNull 0&&((s.getArg 1).getArg 0).isToken "def" then .ok (s.setArg 0 ((s.getArg 0).setArg 4 (.node .none `null #[.atom .none "noncomputable"]))) t else .error .unsupportedSyntax t
namespace Qh
abbrev bD:=PySem.Value->PySem.Shared->Prop
abbrev aq:=PySem.Expr
theorem aR(n:Nat):n<=n:=Nat.le_refl n
theorem bq(n:Int):n<=n:=Int.le_refl n
theorem bR{a b c:Nat}(h:a<=b)(k:b<=c):a<=c:=Nat.le_trans h k
theorem dQ{a b c:Int}(h:a<=b)(k:b<=c):a<=c:=Int.le_trans h k
theorem ct{a b:Nat}(h:a.succ<=b.succ):a<=b:=Nat.le_of_succ_le_succ h
theorem bE{a b:Nat}(h:a.succ<=b):a<=b:=Nat.le_of_succ_le h
theorem jR{a b:Nat}(h:a<=b):a<=b.succ:=Nat.le_succ_of_le h
theorem cJ{a b c:Nat}(h:a+b<=c):b<=c:=Nat.le_of_add_left_le h
theorem gO{a b c:Nat}(h:a+b<=c):a<=c:=Nat.le_of_add_right_le h
theorem cK{a b:Nat}(h:a<=b)(k:b<=a):a=b:=Nat.le_antisymm h k
theorem dI(a b:Nat):a<=b+a:=Nat.le_add_left a b
theorem d7(a b:Nat):a<=a+b:=Nat.le_add_right a b
theorem gP(a:Nat):0<=a:=Nat.zero_le a
theorem eK(a b:Nat):a<=max a b:=Nat.le_max_left a b
theorem ft(a b:Nat):b<=max a b:=Nat.le_max_right a b
theorem jr(n:Nat):LE.le (α:=Int) 0 n:=Int.natCast_nonneg n
theorem cE:¬ false=true:=Bool.false_ne_true
theorem bB{P:Prop}(h:∀X:Prop,(P->X)->X):P:=h P id
theorem aZ{P0 P1:Prop}{X:Prop}(h:P0/\P1)(k:P0->P1->X):X:=k h.1 h.2
theorem k8{P0 P1 P2:Prop}{X:Prop}(h:P0/\P1/\P2)(k:P0->P1->P2->X):X:=k h.1 h.2.1 h.2.2
theorem jd{P0 P1 P2 P3:Prop}{X:Prop}(h:P0/\P1/\P2/\P3)(k:P0->P1->P2->P3->X):X:=k h.1 h.2.1 h.2.2.1 h.2.2.2
theorem b6{dg:Type}{P0:dg->Prop}{X:Prop}(h:∃x0,P0 x0)(k:∀x0,P0 x0->X):X:=h.elim λx0 h=>k x0 h
theorem aM{dg:Type}{P0 P1:dg->Prop}{X:Prop}(h:∃x0,P0 x0/\P1 x0)(k:∀x0,P0 x0->P1 x0->X):X:=h.elim λx0 h=>k x0 h.1 h.2
theorem ca{dg:Type}{P0 P1 P2:dg->Prop}{X:Prop}(h:∃x0,P0 x0/\P1 x0/\P2 x0)(k:∀x0,P0 x0->P1 x0->P2 x0->X):X:=h.elim λx0 h=>k x0 h.1 h.2.1 h.2.2
theorem oD{dg:Type}{P0 P1 P2 P3:dg->Prop}{X:Prop}(h:∃x0,P0 x0/\P1 x0/\P2 x0/\P3 x0)(k:∀x0,P0 x0->P1 x0->P2 x0->P3 x0->X):X:=h.elim λx0 h=>k x0 h.1 h.2.1 h.2.2.1 h.2.2.2
theorem nc{dg:Type}{P0 P1 P2 P3 P4:dg->Prop}{X:Prop}(h:∃x0,P0 x0/\P1 x0/\P2 x0/\P3 x0/\P4 x0)(k:∀x0,P0 x0->P1 x0->P2 x0->P3 x0->P4 x0->X):X:=h.elim λx0 h=>k x0 h.1 h.2.1 h.2.2.1 h.2.2.2.1 h.2.2.2.2
theorem eY{dg dT:Type}{P0:dg->dT->Prop}{X:Prop}(h:∃x0 x1,P0 x0 x1)(k:∀x0 x1,P0 x0 x1->X):X:=h.elim λx0 h=>h.elim λx1 h=>k x0 x1 h
theorem bo{dg dT:Type}{P0 P1:dg->dT->Prop}{X:Prop}(h:∃x0 x1,P0 x0 x1/\P1 x0 x1)(k:∀x0 x1,P0 x0 x1->P1 x0 x1->X):X:=h.elim λx0 h=>h.elim λx1 h=>k x0 x1 h.1 h.2
theorem cU{dg dT:Type}{P0 P1 P2:dg->dT->Prop}{X:Prop}(h:∃x0 x1,P0 x0 x1/\P1 x0 x1/\P2 x0 x1)(k:∀x0 x1,P0 x0 x1->P1 x0 x1->P2 x0 x1->X):X:=h.elim λx0 h=>h.elim λx1 h=>k x0 x1 h.1 h.2.1 h.2.2
theorem fF{dg dT:Type}{P0 P1 P2 P3:dg->dT->Prop}{X:Prop}(h:∃x0 x1,P0 x0 x1/\P1 x0 x1/\P2 x0 x1/\P3 x0 x1)(k:∀x0 x1,P0 x0 x1->P1 x0 x1->P2 x0 x1->P3 x0 x1->X):X:=h.elim λx0 h=>h.elim λx1 h=>k x0 x1 h.1 h.2.1 h.2.2.1 h.2.2.2
theorem nf{dg dT:Type}{P0 P1 P2 P3 P4:dg->dT->Prop}{X:Prop}(h:∃x0 x1,P0 x0 x1/\P1 x0 x1/\P2 x0 x1/\P3 x0 x1/\P4 x0 x1)(k:∀x0 x1,P0 x0 x1->P1 x0 x1->P2 x0 x1->P3 x0 x1->P4 x0 x1->X):X:=h.elim λx0 h=>h.elim λx1 h=>k x0 x1 h.1 h.2.1 h.2.2.1 h.2.2.2.1 h.2.2.2.2
theorem uE{dg dT:Type}{P0 P1 P2 P3 P4 P5:dg->dT->Prop}{X:Prop}(h:∃x0 x1,P0 x0 x1/\P1 x0 x1/\P2 x0 x1/\P3 x0 x1/\P4 x0 x1/\P5 x0 x1)(k:∀x0 x1,P0 x0 x1->P1 x0 x1->P2 x0 x1->P3 x0 x1->P4 x0 x1->P5 x0 x1->X):X:=h.elim λx0 h=>h.elim λx1 h=>k x0 x1 h.1 h.2.1 h.2.2.1 h.2.2.2.1 h.2.2.2.2.1 h.2.2.2.2.2
theorem DL{dg dT:Type}{P0 P1 P2 P3 P4 P5 P6 P7:dg->dT->Prop}{X:Prop}(h:∃x0 x1,P0 x0 x1/\P1 x0 x1/\P2 x0 x1/\P3 x0 x1/\P4 x0 x1/\P5 x0 x1/\P6 x0 x1/\P7 x0 x1)(k:∀x0 x1,P0 x0 x1->P1 x0 x1->P2 x0 x1->P3 x0 x1->P4 x0 x1->P5 x0 x1->P6 x0 x1->P7 x0 x1->X):X:=h.elim λx0 h=>h.elim λx1 h=>k x0 x1 h.1 h.2.1 h.2.2.1 h.2.2.2.1 h.2.2.2.2.1 h.2.2.2.2.2.1 h.2.2.2.2.2.2.1 h.2.2.2.2.2.2.2
theorem kt{dg dT fL:Type}{P0:dg->dT->fL->Prop}{X:Prop}(h:∃x0 x1 x2,P0 x0 x1 x2)(k:∀x0 x1 x2,P0 x0 x1 x2->X):X:=h.elim λx0 h=>h.elim λx1 h=>h.elim λx2 h=>k x0 x1 x2 h
theorem gg{dg dT fL:Type}{P0 P1:dg->dT->fL->Prop}{X:Prop}(h:∃x0 x1 x2,P0 x0 x1 x2/\P1 x0 x1 x2)(k:∀x0 x1 x2,P0 x0 x1 x2->P1 x0 x1 x2->X):X:=h.elim λx0 h=>h.elim λx1 h=>h.elim λx2 h=>k x0 x1 x2 h.1 h.2
theorem fG{dg dT fL:Type}{P0 P1 P2:dg->dT->fL->Prop}{X:Prop}(h:∃x0 x1 x2,P0 x0 x1 x2/\P1 x0 x1 x2/\P2 x0 x1 x2)(k:∀x0 x1 x2,P0 x0 x1 x2->P1 x0 x1 x2->P2 x0 x1 x2->X):X:=h.elim λx0 h=>h.elim λx1 h=>h.elim λx2 h=>k x0 x1 x2 h.1 h.2.1 h.2.2
theorem xZ{dg dT fL:Type}{P0 P1 P2 P3 P4:dg->dT->fL->Prop}{X:Prop}(h:∃x0 x1 x2,P0 x0 x1 x2/\P1 x0 x1 x2/\P2 x0 x1 x2/\P3 x0 x1 x2/\P4 x0 x1 x2)(k:∀x0 x1 x2,P0 x0 x1 x2->P1 x0 x1 x2->P2 x0 x1 x2->P3 x0 x1 x2->P4 x0 x1 x2->X):X:=h.elim λx0 h=>h.elim λx1 h=>h.elim λx2 h=>k x0 x1 x2 h.1 h.2.1 h.2.2.1 h.2.2.2.1 h.2.2.2.2
theorem OZ{dg dT fL jS jT:Type}{P0:dg->dT->fL->jS->jT->Prop}{X:Prop}(h:∃x0 x1 x2 x3 x4,P0 x0 x1 x2 x3 x4)(k:∀x0 x1 x2 x3 x4,P0 x0 x1 x2 x3 x4->X):X:=h.elim λx0 h=>h.elim λx1 h=>h.elim λx2 h=>h.elim λx3 h=>h.elim λx4 h=>k x0 x1 x2 x3 x4 h
theorem O0{dg dT fL jS jT:Type}{P0 P1 P2:dg->dT->fL->jS->jT->Prop}{X:Prop}(h:∃x0 x1 x2 x3 x4,P0 x0 x1 x2 x3 x4/\P1 x0 x1 x2 x3 x4/\P2 x0 x1 x2 x3 x4)(k:∀x0 x1 x2 x3 x4,P0 x0 x1 x2 x3 x4->P1 x0 x1 x2 x3 x4->P2 x0 x1 x2 x3 x4->X):X:=h.elim λx0 h=>h.elim λx1 h=>h.elim λx2 h=>h.elim λx3 h=>h.elim λx4 h=>k x0 x1 x2 x3 x4 h.1 h.2.1 h.2.2
theorem O1{dg dT fL jS jT:Type}{P0 P1 P2 P3:dg->dT->fL->jS->jT->Prop}{X:Prop}(h:∃x0 x1 x2 x3 x4,P0 x0 x1 x2 x3 x4/\P1 x0 x1 x2 x3 x4/\P2 x0 x1 x2 x3 x4/\P3 x0 x1 x2 x3 x4)(k:∀x0 x1 x2 x3 x4,P0 x0 x1 x2 x3 x4->P1 x0 x1 x2 x3 x4->P2 x0 x1 x2 x3 x4->P3 x0 x1 x2 x3 x4->X):X:=h.elim λx0 h=>h.elim λx1 h=>h.elim λx2 h=>h.elim λx3 h=>h.elim λx4 h=>k x0 x1 x2 x3 x4 h.1 h.2.1 h.2.2.1 h.2.2.2
theorem DM{dg dT fL jS jT:Type}{P0 P1 P2 P3 P4:dg->dT->fL->jS->jT->Prop}{X:Prop}(h:∃x0 x1 x2 x3 x4,P0 x0 x1 x2 x3 x4/\P1 x0 x1 x2 x3 x4/\P2 x0 x1 x2 x3 x4/\P3 x0 x1 x2 x3 x4/\P4 x0 x1 x2 x3 x4)(k:∀x0 x1 x2 x3 x4,P0 x0 x1 x2 x3 x4->P1 x0 x1 x2 x3 x4->P2 x0 x1 x2 x3 x4->P3 x0 x1 x2 x3 x4->P4 x0 x1 x2 x3 x4->X):X:=h.elim λx0 h=>h.elim λx1 h=>h.elim λx2 h=>h.elim λx3 h=>h.elim λx4 h=>k x0 x1 x2 x3 x4 h.1 h.2.1 h.2.2.1 h.2.2.2.1 h.2.2.2.2
theorem DN{dg dT fL jS jT:Type}{P0 P1 P2 P3 P4 P5:dg->dT->fL->jS->jT->Prop}{X:Prop}(h:∃x0 x1 x2 x3 x4,P0 x0 x1 x2 x3 x4/\P1 x0 x1 x2 x3 x4/\P2 x0 x1 x2 x3 x4/\P3 x0 x1 x2 x3 x4/\P4 x0 x1 x2 x3 x4/\P5 x0 x1 x2 x3 x4)(k:∀x0 x1 x2 x3 x4,P0 x0 x1 x2 x3 x4->P1 x0 x1 x2 x3 x4->P2 x0 x1 x2 x3 x4->P3 x0 x1 x2 x3 x4->P4 x0 x1 x2 x3 x4->P5 x0 x1 x2 x3 x4->X):X:=h.elim λx0 h=>h.elim λx1 h=>h.elim λx2 h=>h.elim λx3 h=>h.elim λx4 h=>k x0 x1 x2 x3 x4 h.1 h.2.1 h.2.2.1 h.2.2.2.1 h.2.2.2.2.1 h.2.2.2.2.2
theorem x6{dg dT fL jS jT Q6:Type}{P0 P1 P2 P3 P4 P5 P6:dg->dT->fL->jS->jT->Q6->Prop}{X:Prop}(h:∃x0 x1 x2 x3 x4 x5,P0 x0 x1 x2 x3 x4 x5/\P1 x0 x1 x2 x3 x4 x5/\P2 x0 x1 x2 x3 x4 x5/\P3 x0 x1 x2 x3 x4 x5/\P4 x0 x1 x2 x3 x4 x5/\P5 x0 x1 x2 x3 x4 x5/\P6 x0 x1 x2 x3 x4 x5)(k:∀x0 x1 x2 x3 x4 x5,P0 x0 x1 x2 x3 x4 x5->P1 x0 x1 x2 x3 x4 x5->P2 x0 x1 x2 x3 x4 x5->P3 x0 x1 x2 x3 x4 x5->P4 x0 x1 x2 x3 x4 x5->P5 x0 x1 x2 x3 x4 x5->P6 x0 x1 x2 x3 x4 x5->X):X:=h.elim λx0 h=>h.elim λx1 h=>h.elim λx2 h=>h.elim λx3 h=>h.elim λx4 h=>h.elim λx5 h=>k x0 x1 x2 x3 x4 x5 h.1 h.2.1 h.2.2.1 h.2.2.2.1 h.2.2.2.2.1 h.2.2.2.2.2.1 h.2.2.2.2.2.2
end Qh
namespace Qh
set_option genCtorIdx false in
inductive Lx where
|v' (i:Nat)|c' (n:Nat)|a' (x y:Lx)|m' (k:Nat) (y:Lx)|n' (y:Lx) (k:Nat)|s' (x y:Lx)|x' (x y:Lx)
def pe:List Int->List Int->Int
|k::p,x::r=>k*x+pe p r
|_,_=>0
def pad:List Int->List Int->List Int
|k::p,l::q=>(k+l)::pad p q
|[],q=>q
|p,[]=>p
def fW(k:Int):List Int->List Int
|[]=>[]
|l::p=>(k*l)::fW k p
def pv:Nat->List Int
|0=>[1]
|n+1=>0::pv n
def pat:List Int->Nat->Int
|[],_=>0
|x::_,0=>x
|_::r,n+1=>pat r n
def nat:List Nat->Nat->Nat
|[],_=>0
|x::_,0=>x
|_::r,n+1=>nat r n
def Lx.d(f:Bool)(ρ:List Int):Lx->Int
|.v' i=>pat ρ i
|.c' n=>Int.ofNat n
|.a' x y=>x.d f ρ+y.d f ρ
|.m' k y=>Int.ofNat k*y.d f ρ
|.n' y k=>y.d f ρ*Int.ofNat k
|.s' x y=>cond f (Int.ofNat (x.d f ρ-y.d f ρ).toNat) (x.d f ρ-y.d f ρ)
|.x' x y=>max (x.d f ρ) (y.d f ρ)
def Lx.e(ρ:List Nat):Lx->Nat
|.v' i=>nat ρ i
|.c' n=>n
|.a' x y=>x.e ρ+y.e ρ
|.m' k y=>k*y.e ρ
|.n' y k=>y.e ρ*k
|.s' x y=>x.e ρ-y.e ρ
|.x' x y=>max (x.e ρ) (y.e ρ)
def lk(f:Bool):Lx->List (List Int)->Nat->(List Int->List (List Int)->Nat->Bool)->Bool
|.v' i=>λst j k=>k (0::pv i) st j
|.c' n=>λst j k=>k [Int.ofNat n] st j
|.a' x y=>λst j k=>lk f x st j λp st j=>lk f y st j λq st j=>k (pad p q) st j
|.m' n y=>λst j k=>lk f y st j λp st j=>k (fW (Int.ofNat n) p) st j
|.n' y n=>λst j k=>lk f y st j λp st j=>k (fW (Int.ofNat n) p) st j
|.s' x y=>λst j k=>lk f x st j λp st j=>lk f y st j λq st j=>
   cond f (k (pad p (fW (-1) q)) (pad p (fW (-1) q)::st) (2*j+1)&&k [] (pad q (fW (-1) p)::st) (2*j+2)) (k (pad p (fW (-1) q)) st j)
|.x' x y=>λst j k=>lk f x st j λp st j=>lk f y st j λq st j=>
   k p (pad p (fW (-1) q)::st) (2*j+1)&&k q (pad q (fW (-1) p)::st) (2*j+2)
def hk(f:Bool):List (Bool×Lx×Lx)->List (List Int)->Nat->(List (List Int)->Nat->Bool)->Bool
|[]=>λst j k=>k st j
|(b,l,r)::t=>λst j k=>lk f l st j λp st j=>lk f r st j λq st j=>
   hk f t (cond b (pad p (fW (-1) q)::pad q (fW (-1) p)::st) (pad q (fW (-1) p)::st)) j k
def comb:List Nat->List (List Int)->List Int
|c::r,p::st=>pad (fW (Int.ofNat c) p) (comb r st)
|_,_=>[]
def low(f:Bool):List Int->Bool
|[]=>true
|k::p=>cond f (decide (k<=0)) (decide (k=0))&&low f p
def ER(f:Bool):List Int->Bool
|k::p=>decide (k<0)&&low f p
|[]=>false
def ES:List (List Nat)->Nat->List Nat
|[],_=>[]
|x::_,0=>x
|_::r,n+1=>ES r n
def ck(f:Bool)(P:List (Bool×Lx×Lx)×Lx×Lx×List (List Nat)):Bool:=
 hk f P.1 [] 0 λst j=>lk f P.2.1 st j λp st j=>lk f P.2.2.1 st j λq st j=>
  ER f (comb (ES P.2.2.2 j) (pad (pad p (fW (-1) q)) [-1]::st))
def Hy(R:Bool->Lx->Lx->Prop):List (Bool×Lx×Lx)->Prop->Prop
|[],G=>G
|(b,l,r)::t,G=>R b l r->Hy R t G
theorem rD:∀p q r:List Int,pe (pad p q) r=pe p r+pe q r
|[]=>λq r=>(Int.zero_add _).symm
|k::p=>λq r=>by
  cases q with
  |nil=>exact(Int.add_zero _).symm
  |cons l q=>cases r with
   |nil=>rfl
   |cons x r=>exact(congrArg (·+_) (Int.add_mul k l x)).trans ((congrArg (_+·) (rD p q r)).trans ((Int.add_assoc _ _ _).trans ((congrArg (_+·) (Int.add_left_comm _ _ _)).trans (Int.add_assoc _ _ _).symm)))
theorem rM(k:Int):∀p r:List Int,pe (fW k p) r=k*pe p r
|[]=>λr=>(Int.mul_zero _).symm
|l::p=>λr=>by
  cases r with
  |nil=>exact(Int.mul_zero _).symm
  |cons x r=>exact(congrArg (_+·) (rM k p r)).trans ((congrArg (·+_) (Int.mul_assoc k l x)).trans (Int.mul_add _ _ _).symm)
theorem t7{p q r:List Int}{a b:Int}(h1:pe p r=a)(h2:pe q r=b):pe (pad p (fW (-1) q)) r=a-b:=by
 rw[rD,rM,h1,h2,Int.neg_one_mul];rfl
theorem ET:∀(i:Nat)(r:List Int),pe (pv i) r=pat r i
|0=>λr=>by cases r with|nil=>rfl|cons x r=>exact(Int.add_zero _).trans (Int.one_mul x)
|n+1=>λr=>by cases r with|nil=>rfl|cons x r=>exact(congrArg (·+_) (Int.zero_mul x)).trans ((Int.zero_add _).trans (ET n r))
section
variable{f:Bool}{ρ:List Int}{C:Prop}
def Al(ρ:List Int):List (List Int)->Prop
|[]=>True
|p::st=>0<=pe p (1::ρ)/\Al ρ st
theorem Al.sub{st:List (List Int)}{p q:List Int}{a b:Int}(h1:pe p (1::ρ)=a)(h2:pe q (1::ρ)=b)(h:b<=a)(al:Al ρ st):Al ρ (pad p (fW (-1) q)::st):=⟨t7 h1 h2▸Int.sub_nonneg_of_le h,al⟩
theorem ip:∀(e:Lx){st:List (List Int)}{j:Nat}{k:List Int->List (List Int)->Nat->Bool},lk f e st j k=true->Al ρ st->
  (∀p st j,k p st j=true->pe p (1::ρ)=e.d f ρ->Al ρ st->C)->C
|.v' i=>λh a K=>K _ _ _ h (ET (i+1) _) a
|.c' n=>λh a K=>K _ _ _ h ((Int.add_zero _).trans (Int.mul_one _)) a
|.a' x y=>λh a K=>ip x h a λp st j h e1 a=>ip y h a λq st j h e2 a=>K _ _ _ h ((rD p q _).trans ((congrArg (·+_) e1).trans (congrArg (_+·) e2))) a
|.m' n y=>λh a K=>ip y h a λp st j h e1 a=>K _ _ _ h ((rM _ p _).trans (congrArg (_ * ·) e1)) a
|.n' y n=>λh a K=>ip y h a λp st j h e1 a=>K _ _ _ h ((rM _ p _).trans ((congrArg (_ * ·) e1).trans (Int.mul_comm _ _))) a
|.s' x y=>λh a K=>ip x h a λp st j h e1 a=>ip y h a λq st j h e2 a=>by
  cases f with
  |false=>exact K _ _ _ h (t7 e1 e2) a
  |true=>exact(Int.le_total (y.d true ρ) (x.d true ρ)).elim (λhc=>K _ _ _ (Bool.and_eq_true_iff.mp h).1 ((t7 e1 e2).trans (Int.toNat_of_nonneg (Int.sub_nonneg_of_le hc)).symm) (.sub e1 e2 hc a)) (λhc=>K _ _ _ (Bool.and_eq_true_iff.mp h).2 (congrArg Int.ofNat (Int.toNat_of_nonpos (Int.sub_nonpos_of_le hc)).symm) (.sub e2 e1 hc a))
|.x' x y=>λh a K=>ip x h a λp st j h e1 a=>ip y h a λq st j h e2 a=>
  (Int.le_total (y.d f ρ) (x.d f ρ)).elim (λhc=>K _ _ _ (Bool.and_eq_true_iff.mp h).1 (e1.trans (Int.max_eq_left hc).symm) (.sub e1 e2 hc a)) (λhc=>K _ _ _ (Bool.and_eq_true_iff.mp h).2 (e2.trans (Int.max_eq_right hc).symm) (.sub e2 e1 hc a))
theorem B7:∀(c:List Nat)(st:List (List Int)),Al ρ st->0<=pe (comb c st) (1::ρ)
|[]=>λ_ _=>bq _
|c::r=>λst a=>by
  cases st with
  |nil=>exact bq _
  |cons p st=>exact rD _ _ _▸rM _ p _▸Int.add_nonneg (Int.mul_nonneg (jr c) a.1) (B7 r st a.2)
def Nn(f:Bool):List Int->Prop
|[]=>True
|x::r=>(f=true->0<=x)/\Nn f r
theorem CT:∀(p r:List Int),Nn f r->low f p=true->pe p r<=0
|[]=>λ_ _ _=>bq _
|k::p=>λr hr h=>by
  cases r with
  |nil=>exact bq _
  |cons x r=>
   refine Int.add_nonpos ?_ (CT p r hr.2 (Bool.and_eq_true_iff.mp h).2);cases f with
   |true=>exact Int.mul_nonpos_of_nonpos_of_nonneg (of_decide_eq_true (Bool.and_eq_true_iff.mp h).1) (hr.1 rfl)
   |false=>exact Int.le_of_eq (of_decide_eq_true (Bool.and_eq_true_iff.mp h).1▸Int.zero_mul x)
theorem Ld(hr:Nn f ρ):∀{p:List Int},ER f p=true->pe p (1::ρ)<0
|[]=>λh=>Bool.noConfusion h
|k::p=>λh=>Int.add_neg_of_neg_of_nonpos ((Int.mul_one k).symm▸of_decide_eq_true (Bool.and_eq_true_iff.mp h).1) (CT p ρ hr (Bool.and_eq_true_iff.mp h).2)
theorem x7{R:Bool->Lx->Lx->Prop}{G:Prop}(hR:∀b l r,R b l r->cond b (l.d f ρ=r.d f ρ) (l.d f ρ<=r.d f ρ)):∀(hs:List (Bool×Lx×Lx)){st:List (List Int)}{j:Nat}{k:List (List Int)->Nat->Bool},hk f hs st j k=true->Al ρ st->
  (∀st j,k st j=true->Al ρ st->G)->Hy R hs G
|[]=>λh a K=>K _ _ h a
|(true,l,r)::t=>λh a K q=>ip l h a λp st j h e1 a=>ip r h a λq' st j h e2 a=>x7 hR t h (.sub e1 e2 (Int.le_of_eq (hR _ _ _ q:l.d f ρ=r.d f ρ).symm) (.sub e2 e1 (Int.le_of_eq (hR _ _ _ q:l.d f ρ=r.d f ρ)) a)) K
|(false,l,r)::t=>λh a K q=>ip l h a λp st j h e1 a=>ip r h a λq' st j h e2 a=>x7 hR t h (.sub e2 e1 (hR _ _ _ q:l.d f ρ<=r.d f ρ) a) K
theorem DO{R:Bool->Lx->Lx->Prop}(hr:Nn f ρ)(hR:∀b l r,R b l r->cond b (l.d f ρ=r.d f ρ) (l.d f ρ<=r.d f ρ))(P:List (Bool×Lx×Lx)×Lx×Lx×List (List Nat))(h:ck f P=true):
  Hy R P.1 (P.2.1.d f ρ<=P.2.2.1.d f ρ):=
 x7 hR P.1 h trivial λst j h a=>ip P.2.1 h a λp st j h e1 a=>ip P.2.2.1 h a λq st j h e2 a=>Int.not_lt.mp λhl=>
  Int.not_le.mpr (Ld hr h) (B7 _ (_::_) ⟨(rD (pad p (fW (-1) q)) [-1] (1::ρ)).symm▸t7 e1 e2▸Int.sub_nonneg_of_le (Int.add_one_le_of_lt (Int.sub_pos_of_lt hl)),a⟩)
end
theorem B8:∀(ρ:List Nat)(i:Nat),pat (ρ.map Int.ofNat) i=Int.ofNat (nat ρ i)
|[]=>λ_=>rfl
|x::r=>λi=>by cases i with|zero=>rfl|succ n=>exact B8 r n
theorem e_d(ρ:List Nat):∀e:Lx,e.d true (ρ.map Int.ofNat)=Int.ofNat (e.e ρ)
|.v' i=>B8 ρ i
|.c' n=>rfl
|.a' x y=>(congrArg (·+_) (e_d ρ x)).trans (congrArg (_+·) (e_d ρ y))
|.m' k y=>congrArg (_ * ·) (e_d ρ y)
|.n' y k=>congrArg (· * _) (e_d ρ y)
|.s' x y=>(congrArg (λa=>Int.ofNat (a-y.d true (ρ.map Int.ofNat)).toNat) (e_d ρ x)).trans ((congrArg (λa=>Int.ofNat (Int.ofNat (x.e ρ)-a).toNat) (e_d ρ y)).trans (congrArg Int.ofNat (Int.toNat_sub (x.e ρ) (y.e ρ))))
|.x' x y=>(congrArg (max · _) (e_d ρ x)).trans ((congrArg (max _ ·) (e_d ρ y)).trans ((Nat.le_total (y.e ρ) (x.e ρ)).elim (λh=>(Int.max_eq_left (Int.ofNat_le.mpr h)).trans (congrArg Int.ofNat (Nat.max_eq_left h).symm)) λh=>(Int.max_eq_right (Int.ofNat_le.mpr h)).trans (congrArg Int.ofNat (Nat.max_eq_right h).symm)))
theorem CU:∀ρ:List Nat,Nn true (ρ.map Int.ofNat)
|[]=>trivial
|x::r=>⟨λ_=>jr x,CU r⟩
theorem EU:∀ρ:List Int,Nn false ρ
|[]=>trivial
|x::r=>⟨λh=>Bool.noConfusion h,EU r⟩
def eg:Nat->Nat->List Lx->List (Bool×Lx×Lx)->List (List Nat)->List (Bool×Lx×Lx)×Lx×Lx×List (List Nat)
|0=>λ_ st hs cs=>(hs,.c' 0,.c' 0,cs)
|k+1=>λn st hs cs=>
  bif n % 64==0 then match st with|r::l::_=>(hs,l,r,cs)|_=>(hs,.c' 0,.c' 0,cs)
  else bif Nat.ble 32 (n % 64) then eg k (n/64) (.c' (n % 64-32)::st) hs cs
  else bif Nat.ble 12 (n % 64) then eg k (n/64) (.v' (n % 64-12)::st) hs cs
  else bif n % 64==8 then eg k (n/64) st hs ([]::cs)
  else bif n % 64==9 then match cs with|c::cs=>eg k (n/64/64) st hs ((n/64 % 64::c)::cs)|_=>(hs,.c' 0,.c' 0,cs)
  else match st with
   |.c' y::x::t=>bif n % 64==7 then eg k (n/64/64) (.c' (y*64+n/64 % 64)::x::t) hs cs
    else bif n % 64==1 then eg k (n/64) (.a' x (.c' y)::t) hs cs else bif n % 64==2 then eg k (n/64) (.s' x (.c' y)::t) hs cs else bif n % 64==3 then eg k (n/64) (.x' x (.c' y)::t) hs cs
    else bif n % 64==4 then eg k (n/64) (.n' x y::t) hs cs else bif n % 64==5 then eg k (n/64) t ((false,x,.c' y)::hs) cs else eg k (n/64) t ((true,x,.c' y)::hs) cs
   |y::x::t=>bif n % 64==1 then eg k (n/64) (.a' x y::t) hs cs else bif n % 64==2 then eg k (n/64) (.s' x y::t) hs cs else bif n % 64==3 then eg k (n/64) (.x' x y::t) hs cs
    else bif n % 64==4 then(match x with|.c' q=>eg k (n/64) (.m' q y::t) hs cs|_=>(hs,.c' 0,.c' 0,cs)) else bif n % 64==5 then eg k (n/64) t ((false,x,y)::hs) cs else eg k (n/64) t ((true,x,y)::hs) cs
   |.c' y::[]=>eg k (n/64/64) [.c' (y*64+n/64 % 64)] hs cs
   |_=>(hs,.c' 0,.c' 0,cs)
theorem lI(n:Nat)(ρ:List Int)(h:ck false (eg 300 n [] [] [])=true):Hy (λb l r=>cond b (l.d false ρ=r.d false ρ) (l.d false ρ<=r.d false ρ)) (eg 300 n [] [] []).1 ((eg 300 n [] [] []).2.1.d false ρ<=(eg 300 n [] [] []).2.2.1.d false ρ):=
 DO (EU ρ) (λ_ _ _ h=>h) _ h
theorem lN(n:Nat)(ρ:List Nat)(h:ck true (eg 300 n [] [] [])=true):Hy (λb l r=>cond b (l.e ρ=r.e ρ) (l.e ρ<=r.e ρ)) (eg 300 n [] [] []).1 ((eg 300 n [] [] []).2.1.e ρ<=(eg 300 n [] [] []).2.2.1.e ρ):=
 (propext Int.ofNat_le:(Int.ofNat _<=Int.ofNat _)=_)▸e_d ρ (eg 300 n [] [] []).2.1▸e_d ρ (eg 300 n [] [] []).2.2.1▸DO (R:=λb l r=>cond b (l.e ρ=r.e ρ) (l.e ρ<=r.e ρ)) (CU ρ) (λb l r q=>(e_d ρ l).symm▸(e_d ρ r).symm▸by cases b with|true=>exact congrArg Int.ofNat q|false=>exact Int.ofNat_le.mpr q) _ h
theorem nb{a b:Nat}(h:Nat.ble a b=true):a<=b:=Nat.le_of_ble_eq_true h
theorem qz{j:Int}{n:Nat}(a:0<=j)(b:j<n):j.toNat<n:=(Int.toNat_lt a).mpr b
theorem za{x:Int}{j n:Nat}(h:x<n)(e:x=j):j<n:=Int.ofNat_lt.mp (e▸h)
theorem F0{j:Nat}(h:j<2):j=0∨j=1:=match j,h with
|0,_=>.inl rfl
|1,_=>.inr rfl
theorem F1(x:Int):(x.fmod 2).toNat=0∨(x.fmod 2).toNat=1:=F0 (qz (Int.fmod_nonneg_of_pos _ (by decide)) (Int.fmod_lt_of_pos _ (by decide)))
theorem m2(x:Int):x.fmod 2=0∨x.fmod 2=1:=(F1 x).imp (λh=>Int.le_antisymm (Int.toNat_eq_zero.mp h) (Int.fmod_nonneg_of_pos _ (by decide))) (λh=>Int.toNat_of_nonneg (Int.fmod_nonneg_of_pos x (b:=2) (by decide))▸congrArg Int.ofNat h)
end Qh
namespace Qh
open PySem
set_option backward.match.sparseCases false
inductive V where
|none|bool (b:Bool)|int (i:Int)|str (s:Str)|ax (vs:List V)|ref (i:Nat)|cy
inductive O where
|ah (vs:List V)|aD (es:List (Str×V))|inst (c d:Nat)|dq (n:Int)
noncomputable abbrev H:=List O
inductive Res(α:Type) where
|ok (a:α) (σ:H)|aF (c:Nat) (σ:H)|bad
def M(α:Type):=H->Res α
def M.pure{α:Type}(a:α):M α:=λσ=>.ok a σ
def M.bind{α β:Type}(m:M α)(f:α->M β):M β:=λσ=>match m σ with
|.ok a af=>f a af
|.aF c af=>.aF c af
|.bad=>.bad
def M.fail{α:Type}:M α:=λ_=>.bad
def da{α:Type}:Option α->M α
|some a=>M.pure a
|none=>M.fail
def cW(i:Nat):M O:=λσ=>match σ[i]? with|some o=>.ok o σ|none=>.bad
def iM(i:Nat)(o:O):M Unit:=λσ=>.ok () (σ.set i o)
def dc(o:O):M V:=λσ=>.ok (.ref σ.length) (σ++[o])
def aO:Nat:=1000000
noncomputable abbrev aQ:=List (Option V)
def cq:aQ->Nat->Option V
|[],_=>none
|x::_,0=>x
|_::r,n+1=>cq r n
def b7:aQ->Nat->V->aQ
|[],_,_=>[]
|_::r,0,v=>some v::r
|x::r,n+1,v=>x::b7 r n v
set_option genCtorIdx false
mutual
inductive E where
|none|bool (b:Bool)|int (i:Int)|str (s:Str)
|aa (i:Nat)|glob (g:Nat)
|ax (es:EL)|ah (es:EL)|aD (ks:List Str) (es:EL)
|aj (op:Operator) (a b:E)|neg (a:E)
|cmp (op:CmpOp) (a b:E)|lh (op op':CmpOp) (a b c:E)
|not (a:E)|and (es:EL)|or (es:EL)
|au (a i:E)|slc (a lo hi:E)
|call (f:Nat) (es:EL)|cB (f:Nat) (o:E) (es:EL)|new (c:Nat)|attr (o:E) (x:Str)
|len (a:E)|toInt (a:E)|toStr (a:E)|sum (a:E)|g7 (a:E)|max2 (a b:E)|cS (t:String) (a:E)
|list (a:E)|tuple (a:E)|dict (a:E)|join (a b:E)|get (a k d:E)
|comp (elt:E) (v:Nat) (br:List Nat) (src:E)|f9 (elt:E) (v:Nat) (br:List Nat) (src test:E)|fH (elt:E) (v:Nat) (br:List Nat) (n:E)
inductive EL where
|nil|cons (e:E) (r:EL)
end
mutual
inductive S where
|aK (i:Nat) (e:E)|hY (is:List Nat) (e:E)
|fh (o i e:E)|ji (o:E) (x:Str) (e:E)
|append (o e:E)|update (o e:E)|expr (e:E)
|ite (c:E) (t e:SL)|qo (c:E) (b:SL)
|kA (i:Nat) (e:E) (b:SL)|eP (i:Nat) (e:E) (b:SL)|g8 (i j:Nat) (a b:E) (bd:SL)
|ret (e:E)|qp|raise (c:Nat) (msg:Str)|g9 (b:SL) (c:Nat) (h:SL)
inductive SL where
|nil|cons (s:S) (r:SL)
end
set_option genCtorIdx true
structure Fn where
 arity:Nat
 slots:Nat
 body:SL
def dU:V->M Bool
|.bool b=>M.pure b
|_=>M.fail
def dz:V->M Int
|.int b=>M.pure b
|_=>M.fail
def DP:V->M Str
|.str b=>M.pure b
|_=>M.fail
mutual
noncomputable def gQ:V->V->Bool
|.none,.none=>true
|.int a,.int b=>a==b
|.str a,.str b=>a==b
|.ax a,.ax b=>kB a b
|_,_=>false
noncomputable def kB:List V->List V->Bool
|[],[]=>true
|a::r,b::t=>gQ a b&&kB r t
|_,_=>false
end
mutual
noncomputable def V.deep:V->Nat
|.ax vs=>V.gh vs+1
|_=>0
noncomputable def V.gh:List V->Nat
|[]=>0
|v::r=>max v.deep (V.gh r)
end
mutual
noncomputable def V.dO:V->Bool
|.none=>true
|.int _=>true
|.str s=>s.cps.all (· < 0x110000)
|.ax vs=>V.ek vs
|_=>false
noncomputable def V.ek:List V->Bool
|[]=>true
|v::r=>v.dO&&V.ek r
end
def bI:V->M (List V)
|.ref i=>M.bind (cW i) λo=>match o with|.ah vs=>M.pure vs|_=>M.fail
|_=>M.fail
def B9:V->M (List (Str×V))
|.ref i=>M.bind (cW i) λo=>match o with|.aD vs=>M.pure vs|_=>M.fail
|_=>M.fail
def gi(x y:List V):Bool:=V.ek x&&V.ek y&&decide (V.gh x<=50)&&decide (V.gh y<=50)
def iw:V->V->M Bool
|.str x,.str y=>M.pure (x==y)
|.int x,.int y=>M.pure (x==y)
|.ax x,.ax y=>if gi x y then M.pure (kB x y) else M.fail
|.ref i,.ref j=>M.bind (bI (.ref i)) λx=>M.bind (bI (.ref j)) λy=>if gi x y then M.pure (kB x y) else M.fail
|_,_=>M.fail
def strsOf:List V->Option (List Str)
|[]=>some []
|.str i::r=>(strsOf r).map (i::·)
|_=>none
def de(es:List (Str×V))(k:Str):Option V:=(es.find? λe=>e.1=k).map (·.2)
def bp(es:List (Str×V))(k:Str)(v:V):List (Str×V):=
 if es.any (λe=>e.1=k) then es.map (λe=>if e.1=k then(e.1,v) else e) else es++[(k,v)]
def among(x:V)(vs:List V):M Bool:=match x,strsOf vs with
|.str k,some ys=>M.pure (ys.any (·==k))
|_,_=>if gi [x] vs then M.pure (vs.any λy=>gQ y x) else M.fail
def iA(x c:V):M Bool:=match c with
|.ax vs=>among x vs
|.str s=>match x with
  |.str y=>if y.cps.size=1 then M.pure (decide (y.cps.getD 0 0∈s.cps.toList)) else M.fail
  |_=>M.fail
|.ref i=>M.bind (cW i) λo=>match o with
  |.ah vs=>among x vs
  |.aD es=>match x with
   |.str k=>M.pure (de es k).isSome
   |_=>M.fail
  |_=>M.fail
|_=>M.fail
def dH(op:CmpOp)(a b:V):M Bool:=match op with
|.Eq=>iw a b
|.NotEq=>M.bind (iw a b) λx=>M.pure !x
|.Lt=>M.bind (dz a) λx=>M.bind (dz b) λy=>M.pure (decide (x<y))
|.Gt=>M.bind (dz a) λx=>M.bind (dz b) λy=>M.pure (decide (y<x))
|.LtE=>M.bind (dz a) λx=>M.bind (dz b) λy=>M.pure (decide (x<=y))
|.In=>iA a b
|.NotIn=>M.bind (iA a b) λx=>M.pure !x
|_=>M.fail
def small(i:Int):Bool:=decide (-(2^64)<i)&&decide (i<2^64)
def arith(f:Int->Int->M V)(a b:V):M V:=match a,b with
|.int x,.int y=>f x y
|_,_=>M.fail
def yx(a b:V):M V:=match a,b with
|.int x,.int y=>M.pure (.int (x+y))
|.str x,.str y=>if x.length+y.length<=aO then M.pure (.str (x++y)) else M.fail
|.ax x,.ax y=>if x.length+y.length<=aO then M.pure (.ax (x++y)) else M.fail
|.ref i,.ref j=>M.bind (bI (.ref i)) λx=>M.bind (bI (.ref j)) λy=>if x.length+y.length<=aO then dc (.ah (x++y)) else M.fail
|_,_=>M.fail
def binop(op:Operator)(a b:V):M V:=match op with
|.Add=>yx a b
|.Sub=>arith (λx y=>M.pure (.int (x-y))) a b
|.Mult=>arith (λx y=>if small x||small y then M.pure (.int (x*y)) else M.fail) a b
|.Mod=>arith (λx y=>if y=0 then M.fail else M.pure (.int (x.fmod y))) a b
|.FloorDiv=>arith (λx y=>if y=0∨¬ y.natAbs<1073741824 then M.fail else M.pure (.int (x.fdiv y))) a b
|.Pow=>arith (λx y=>if small x/\0<=y/\y<=1000 then M.pure (.int (x^y.toNat)) else M.fail) a b
|_=>M.fail
def fu{α:Type}(xs:List α)(k:Int):M α:=if 0<=k/\k<0x4000000000000000 then da xs[k.toNat]? else M.fail
structure Ctx where
 script:List Int
 consts:Nat->Option V
 call:Nat->List V->M V
 eW:Nat->Nat
 oE:Nat->Nat->Bool
def index(C:Ctx)(a i:V):M V:=match a,i with
|.ax vs,.int k=>fu vs k
|.str s,.int k=>M.bind (fu s.cps.toList k) λc=>M.pure (.str ⟨#[c]⟩)
|.cy,.int k=>M.bind (fu C.script k) λn=>M.pure (.int n)
|.ref j,.int k=>M.bind (bI (.ref j)) λvs=>fu vs k
|.ref j,.str k=>M.bind (cW j) λo=>match o with|.aD es=>da (de es k)|_=>M.fail
|_,_=>M.fail
def ku{α:Type}(xs:List α)(lo hi:V):M (List α):=match lo,hi with
|.none,.int h=>if 0<=h/\h<0x4000000000000000 then M.pure (xs.take h.toNat) else M.fail
|.int l,.none=>if 0<=l/\l<0x4000000000000000 then M.pure (xs.drop l.toNat) else M.fail
|.int l,.int h=>if 0<=l/\l<0x4000000000000000/\0<=h/\h<0x4000000000000000 then M.pure ((xs.take h.toNat).drop l.toNat) else M.fail
|_,_=>M.fail
def CV:V->V->Bool
|.int _,.int _=>false
|_,_=>true
def slice(a lo hi:V):M V:=match a with
|.ax vs=>M.bind (ku vs lo hi) λr=>if vs.length<=aO then M.pure (.ax r) else M.fail
|.ref i=>M.bind (bI (.ref i)) λvs=>M.bind (ku vs lo hi) λr=>if CV lo hi/\vs.length<=aO then dc (.ah r) else M.fail
|_=>M.fail
def lenOf(C:Ctx):V->M V
|.ax vs=>if vs.length<=aO then M.pure (.int vs.length) else M.fail
|.str s=>if s.length<=aO then M.pure (.int s.length) else M.fail
|.cy=>M.pure (.int C.script.length)
|.ref i=>M.bind (bI (.ref i)) λvs=>if vs.length<=aO then M.pure (.int vs.length) else M.fail
|_=>M.fail
def intsOf:List V->Option (List Int)
|[]=>some []
|.int i::r=>(intsOf r).map (i::·)
|_=>none
def qq:List Int->Int
|[]=>0
|x::r=>r.foldl (λb v=>if v>b then v else b) x
def fO:List String:=["int","bool","str","tuple","list"]
def cS(t:String)(v:V):M Bool:=match v with
|.int _=>if t∈fO then M.pure (t=="int") else M.fail
|.bool _=>if t="int"∨t="bool" then M.pure true else M.fail
|.str _=>if t∈fO then M.pure (t=="str") else M.fail
|.ax _=>if t∈fO then M.pure (t=="tuple") else M.fail
|.ref i=>M.bind (bI (.ref i)) λ_=>if t="list" then M.pure true else M.fail
|_=>M.fail
def gv(n:Int):Str:=Str.ofString (toString n)
def t8(x:V):M V:=M.bind (dU x) λb=>M.pure (.int (if b then 1 else 0))
def rE(x:V):M V:=M.bind (dz x) λi=>if 0<=i/\i<10^10 then M.pure (.str (gv i)) else M.fail
def nx(x:V):M V:=M.bind (bI x) λvs=>M.bind (da (intsOf vs)) λns=>M.pure (.int ns.sum)
def oF(x:V):M V:=M.bind (bI x) λvs=>M.bind (da (intsOf vs)) λns=>M.pure (.int (qq ns))
def uF(x y:V):M V:=M.bind (dz x) λi=>M.bind (dz y) λj=>M.pure (.int (if j>i then j else i))
def p8(x:V):M V:=match x with
|.ax vs=>if vs.length<=aO then dc (.ah vs) else M.fail
|_=>M.fail
def jF(x:V):M V:=M.bind (bI x) λvs=>if vs.length<=aO then M.pure (.ax vs) else M.fail
def ng(x:V):M V:=match x with
|.ref i=>M.bind (cW i) λo=>match o with
  |.aD es=>if es.length<=aO then dc (.aD es) else M.fail
  |_=>M.fail
|_=>M.fail
def joinM(x y:V):M V:=M.bind (DP x) λsep=>M.bind (bI y) λvs=>M.bind (da (strsOf vs)) λss=>if sep.length=0/\(ss.map Str.length).sum<=aO then M.pure (.str (Str.join sep ss)) else M.fail
def getM(x y z:V):M V:=match x,y with
|.ref i,.str s=>M.bind (cW i) λo=>match o with
  |.aD es=>M.pure ((de es s).getD z)
  |_=>M.fail
|_,_=>M.fail
def iq(v:V):M (Nat×Int):=match v with
|.ref i=>M.bind (cW i) λob=>match ob with
  |.inst _ d=>M.bind (cW d) λod=>match od with
   |.dq n=>M.pure (d,n)
   |_=>M.fail
  |_=>M.fail
|_=>M.fail
def DQ(v:V):M V:=M.bind (iq v) λp=>M.pure (.int p.2)
set_option genCtorIdx false in
inductive Src where
|live (i:Nat)|fix (vs:List V)
def srcOf:V->M Src
|.ref i=>M.bind (bI (.ref i)) λ_=>M.pure (.live i)
|.ax vs=>M.pure (.fix vs)
|_=>M.fail
def dN:Src->Nat->M (Option V)
|.fix vs,k=>M.pure vs[k]?
|.live i,k=>M.bind (bI (.ref i)) λvs=>M.pure vs[k]?
def eX:Src->M Nat
|.fix vs=>M.pure vs.length
|.live i=>M.bind (bI (.ref i)) λvs=>M.pure vs.length
def dM(n:Int):List V:=(List.range n.toNat).map λ(k:Nat)=>V.int k
def dk(s:Src)(f:V->M (Option V)):Nat->Nat->M (List V)
|0,_=>M.fail
|n+1,k=>M.bind (dN s k) λx=>match x with
  |none=>M.pure []
  |some v=>M.bind (f v) λy=>M.bind (dk s f n (k+1)) λr=>M.pure (y.toList++r)
def cQ(L:aQ)(br:List Nat):aQ:=L.zipIdx.map λp=>if br.contains p.2 then p.1 else none
mutual
noncomputable def ak(C:Ctx):E->aQ->M V
|.none,_=>M.pure .none
|.bool b,_=>M.pure (.bool b)
|.int i,_=>M.pure (.int i)
|.str s,_=>M.pure (.str s)
|.aa i,L=>da (cq L i)
|.glob g,_=>da (C.consts g)
|.ax es,L=>M.bind (cZ C es L) λvs=>if vs.length<=aO then M.pure (.ax vs) else M.fail
|.ah es,L=>M.bind (cZ C es L) λvs=>if vs.length<=aO then dc (.ah vs) else M.fail
|.aD ks es,L=>M.bind (cZ C es L) λvs=>if ks.length=vs.length/\ks.Nodup/\ks.length<=15 then dc (.aD (ks.zip vs)) else M.fail
|.aj op a b,L=>M.bind (ak C a L) λx=>M.bind (ak C b L) λy=>binop op x y
|.neg a,L=>M.bind (ak C a L) λx=>M.bind (dz x) λi=>M.pure (.int (-i))
|.cmp op a b,L=>M.bind (ak C a L) λx=>M.bind (ak C b L) λy=>M.bind (dH op x y) λr=>M.pure (.bool r)
|.lh op op' a b c,L=>M.bind (ak C a L) λx=>M.bind (ak C b L) λy=>M.bind (dH op x y) λr=>if r then M.bind (ak C c L) λz=>M.bind (dH op' y z) λr'=>M.pure (.bool r') else M.pure (.bool false)
|.not a,L=>M.bind (ak C a L) λx=>M.bind (dU x) λb=>M.pure (.bool !b)
|.and es,L=>nh C es L
|.or es,L=>r4 C es L
|.au a i,L=>M.bind (ak C a L) λx=>M.bind (ak C i L) λy=>index C x y
|.slc a lo hi,L=>M.bind (ak C a L) λx=>M.bind (ak C lo L) λl=>M.bind (ak C hi L) λh=>slice x l h
|.call f es,L=>M.bind (cZ C es L) λvs=>C.call f vs
|.cB f o es,L=>M.bind (ak C o L) λx=>M.bind (iq x) λ_=>M.bind (cZ C es L) λvs=>C.call f (x::vs)
|.new c,_=>M.bind (dc (.dq 0)) λd=>match d with
  |.ref j=>dc (.inst c j)
  |_=>M.fail
|.attr o _,L=>M.bind (ak C o L) λv=>DQ v
|.len a,L=>M.bind (ak C a L) λx=>lenOf C x
|.toInt a,L=>M.bind (ak C a L) λx=>t8 x
|.toStr a,L=>M.bind (ak C a L) λx=>rE x
|.sum a,L=>M.bind (ak C a L) λx=>nx x
|.g7 a,L=>M.bind (ak C a L) λx=>oF x
|.max2 a b,L=>M.bind (ak C a L) λx=>M.bind (ak C b L) λy=>uF x y
|.cS t a,L=>M.bind (ak C a L) λx=>M.bind (cS t x) λb=>M.pure (.bool b)
|.list a,L=>M.bind (ak C a L) λx=>p8 x
|.tuple a,L=>M.bind (ak C a L) λx=>jF x
|.dict a,L=>M.bind (ak C a L) λx=>ng x
|.join a b,L=>M.bind (ak C a L) λx=>M.bind (ak C b L) λy=>joinM x y
|.get a k d,L=>M.bind (ak C a L) λx=>M.bind (B9 x) λ_=>M.bind (ak C k L) λy=>M.bind (ak C d L) λz=>getM x y z
|.comp elt v br src,L=>M.bind (ak C src L) λx=>M.bind (srcOf x) λsr=>M.bind (eX sr) λn=>
   if n<=aO then M.bind (dk sr (λit=>M.bind (ak C elt (b7 (cQ L br) v it)) λy=>M.pure (some y)) (n+1) 0) λvs=>dc (.ah vs) else M.fail
|.f9 elt v br src test,L=>M.bind (ak C src L) λx=>M.bind (srcOf x) λsr=>M.bind (eX sr) λn=>
   if n<=aO then M.bind (dk sr (λit=>M.bind (bP C test (b7 (cQ L br) v it)) λb=>if b then M.bind (ak C elt (b7 (cQ L br) v it)) λy=>M.pure (some y) else M.pure none) (n+1) 0) λvs=>dc (.ah vs) else M.fail
|.fH elt v br e,L=>M.bind (ak C e L) λx=>M.bind (dz x) λn=>if 0<=n/\n<=1000000 then
   M.bind (dk (.fix (dM n)) (λit=>M.bind (ak C elt (b7 (cQ L br) v it)) λy=>M.pure (some y)) (n.toNat+1) 0) λvs=>dc (.ah vs) else M.fail
noncomputable def cZ(C:Ctx):EL->aQ->M (List V)
|.nil,_=>M.pure []
|.cons e r,L=>M.bind (ak C e L) λv=>M.bind (cZ C r L) λvs=>M.pure (v::vs)
noncomputable def nh(C:Ctx):EL->aQ->M V
|.nil,_=>M.fail
|.cons e .nil,L=>M.bind (ak C e L) λv=>M.bind (dU v) λb=>M.pure (.bool b)
|.cons e r,L=>M.bind (ak C e L) λv=>M.bind (dU v) λb=>if b then nh C r L else M.pure (.bool false)
noncomputable def r4(C:Ctx):EL->aQ->M V
|.nil,_=>M.fail
|.cons e .nil,L=>M.bind (ak C e L) λv=>M.bind (dU v) λb=>M.pure (.bool b)
|.cons e r,L=>M.bind (ak C e L) λv=>M.bind (dU v) λb=>if b then M.pure (.bool true) else r4 C r L
noncomputable def bP(C:Ctx):E->aQ->M Bool
|.not a,L=>M.bind (bP C a L) λb=>M.pure !b
|.and es,L=>jI C es L
|.or es,L=>jJ C es L
|.cmp op a b,L=>M.bind (ak C a L) λx=>M.bind (ak C b L) λy=>dH op x y
|.lh op op' a b c,L=>M.bind (ak C a L) λx=>M.bind (ak C b L) λy=>M.bind (dH op x y) λr=>if r then M.bind (ak C c L) λz=>dH op' y z else M.pure false
|.bool b,_=>M.pure b
|.aa i,L=>M.bind (da (cq L i)) dU
|.call f es,L=>M.bind (M.bind (cZ C es L) λvs=>C.call f vs) dU
|.cS t a,L=>M.bind (ak C a L) λx=>cS t x
|.au a i,L=>M.bind (M.bind (ak C a L) λx=>M.bind (ak C i L) λy=>index C x y) dU
|.none,_=>M.fail
|.int _,_=>M.fail
|.str _,_=>M.fail
|.glob _,_=>M.fail
|.ax _,_=>M.fail
|.ah _,_=>M.fail
|.aD _ _,_=>M.fail
|.aj _ _ _,_=>M.fail
|.neg _,_=>M.fail
|.slc _ _ _,_=>M.fail
|.cB _ _ _,_=>M.fail
|.new _,_=>M.fail
|.attr _ _,_=>M.fail
|.len _,_=>M.fail
|.toInt _,_=>M.fail
|.toStr _,_=>M.fail
|.sum _,_=>M.fail
|.g7 _,_=>M.fail
|.max2 _ _,_=>M.fail
|.list _,_=>M.fail
|.tuple _,_=>M.fail
|.dict _,_=>M.fail
|.join _ _,_=>M.fail
|.get _ _ _,_=>M.fail
|.comp _ _ _ _,_=>M.fail
|.f9 _ _ _ _ _,_=>M.fail
|.fH _ _ _ _,_=>M.fail
noncomputable def jI(C:Ctx):EL->aQ->M Bool
|.nil,_=>M.pure true
|.cons e r,L=>M.bind (bP C e L) λb=>if b then jI C r L else M.pure false
noncomputable def jJ(C:Ctx):EL->aQ->M Bool
|.nil,_=>M.pure false
|.cons e r,L=>M.bind (bP C e L) λb=>if b then M.pure true else jJ C r L
end
set_option genCtorIdx false in
inductive Fl where
|next|brk|cont|ret (v:V)
inductive RN(α:Type) where
|ok (a:α) (L:aQ) (σ:H)|aF (c:Nat) (L:aQ) (σ:H)|bad
def N(α:Type):=aQ->H->RN α
def N.pure{α:Type}(a:α):N α:=λL σ=>.ok a L σ
def N.bind{α β:Type}(m:N α)(f:α->N β):N β:=λL σ=>match m L σ with
|.ok a L' af=>f a L' af
|.aF c L' af=>.aF c L' af
|.bad=>.bad
def N.lift{α:Type}(m:aQ->M α):N α:=λL σ=>match m L σ with
|.ok a af=>.ok a L af
|.aF c af=>.aF c L af
|.bad=>.bad
def N.put(i:Nat)(v:V):N Unit:=λL σ=>.ok () (b7 L i v) σ
def N.fail{α:Type}:N α:=λ_ _=>.bad
def N.fK:List Nat->List V->N Unit
|[],[]=>N.pure ()
|i::is,v::vs=>N.bind (N.put i v) λ_=>N.fK is vs
|_,_=>N.fail
def t9(t:N Bool)(b:N Fl):Nat->N Fl
|0=>N.fail
|n+1=>N.bind t λc=>if c then N.bind b λf=>match f with
   |.next=>t9 t b n
   |.cont=>t9 t b n
   |.brk=>N.pure .next
   |.ret v=>N.pure (.ret v)
  else N.pure .next
def dP(at_:Nat->M (Option (List (Nat×V))))(b:N Fl):Nat->Nat->N Fl
|0,_=>N.fail
|n+1,k=>N.bind (N.lift λ_=>at_ k) λx=>match x with
  |none=>N.pure .next
  |some ps=>N.bind (N.fK (ps.map (·.1)) (ps.map (·.2))) λ_=>N.bind b λf=>match f with
   |.next=>dP at_ b n (k+1)
   |.cont=>dP at_ b n (k+1)
   |.brk=>N.pure .next
   |.ret v=>N.pure (.ret v)
def iB(o i e:V):M Unit:=match o,i with
|.ref j,.int k=>M.bind (bI (.ref j)) λvs=>if 0<=k/\k<vs.length/\vs.length<=aO then iM j (.ah (vs.set k.toNat e)) else M.fail
|.ref j,.str k=>M.bind (cW j) λob=>match ob with|.aD es=>if es.length<=aO then iM j (.aD (bp es k e)) else M.fail|_=>M.fail
|_,_=>M.fail
def tC(o e:V):M Unit:=M.bind (iq o) λp=>M.bind (dz e) λm=>iM p.1 (.dq m)
def rn(o e:V):M Unit:=match o with
|.ref j=>M.bind (bI (.ref j)) λvs=>if vs.length<=aO then iM j (.ah (vs++[e])) else M.fail
|_=>M.fail
def DR:List (Str×V)->List (Str×V)->List (Str×V)
|es,[]=>es
|es,(k,v)::r=>DR (bp es k v) r
def Le(o e:V):M Unit:=match o,e with
|.ref i,.ref j=>M.bind (cW i) λa=>M.bind (cW j) λb=>match a,b with
  |.aD x,.aD y=>if x.length+y.length<=aO/\i≠j then iM i (.aD (DR x y)) else M.fail
  |_,_=>M.fail
|_,_=>M.fail
def gZ(us ws:List V)(i j k:Nat):Option (List (Nat×V)):=us[k]?.bind λu=>ws[k]?.map λw=>[(i,u),(j,w)]
def rN:V->M (List V)
|.ax vs=>M.pure vs
|_=>M.fail
mutual
noncomputable def cF(C:Ctx):S->N Fl
|.aK i e=>N.bind (N.lift (ak C e)) λv=>N.bind (N.put i v) λ_=>N.pure .next
|.hY is e=>N.bind (N.lift (ak C e)) λv=>match v with
  |.ax vs=>N.bind (N.fK is vs) λ_=>N.pure .next
  |.ref _=>N.bind (N.lift λ_=>bI v) λvs=>N.bind (N.fK is vs) λ_=>N.pure .next
  |_=>N.fail
|.fh o i e=>N.bind (N.lift (ak C e)) λv=>N.bind (N.lift (ak C o)) λx=>N.bind (N.lift (ak C i)) λy=>N.bind (N.lift λ_=>iB x y v) λ_=>N.pure .next
|.ji o _ e=>N.bind (N.lift (ak C e)) λv=>N.bind (N.lift (ak C o)) λov=>N.bind (N.lift λ_=>tC ov v) λ_=>N.pure .next
|.append o e=>N.bind (N.lift (ak C o)) λx=>N.bind (N.lift λ_=>bI x) λ_=>N.bind (N.lift (ak C e)) λv=>N.bind (N.lift λ_=>rn x v) λ_=>N.pure .next
|.update o e=>N.bind (N.lift (ak C o)) λx=>N.bind (N.lift λ_=>B9 x) λ_=>N.bind (N.lift (ak C e)) λv=>N.bind (N.lift λ_=>Le x v) λ_=>N.pure .next
|.expr e=>N.bind (N.lift (ak C e)) λ_=>N.pure .next
|.ite c t e=>N.bind (N.lift (bP C c)) λb=>if b then aW C t else aW C e
|.qo c b=>t9 (N.lift (bP C c)) (aW C b) 100000
|.kA i e b=>N.bind (N.lift (ak C e)) λx=>N.bind (N.lift λ_=>srcOf x) λsr=>N.bind (N.lift λ_=>eX sr) λn=>
   dP (λk=>M.bind (dN sr k) λy=>M.pure (y.map λv=>[(i,v)])) (aW C b) (n+1) 0
|.eP i e b=>N.bind (N.lift (ak C e)) λx=>N.bind (N.lift λ_=>dz x) λn=>if 0<=n/\n<=1000000 then
   dP (λk=>M.pure ((dM n)[k]?.map λv=>[(i,v)])) (aW C b) (n.toNat+1) 0 else N.fail
|.g8 i j a b bd=>N.bind (N.lift (ak C a)) λx=>N.bind (N.lift (ak C b)) λy=>N.bind (N.lift λ_=>rN x) λus=>N.bind (N.lift λ_=>rN y) λws=>
   dP (λk=>M.pure (gZ us ws i j k)) (aW C bd) (us.length+1) 0
|.ret e=>N.bind (N.lift (ak C e)) λv=>N.pure (.ret v)
|.qp=>N.pure (.ret .none)
|.raise c _=>λL σ=>.aF c L σ
|.g9 b c h=>λL σ=>match aW C b L σ with
  |.ok f L' af=>.ok f L' af
  |.aF c' L' af=>if c'=c then aW C h L' af else .bad
  |.bad=>.bad
noncomputable def aW(C:Ctx):SL->N Fl
|.nil=>N.pure .next
|.cons s r=>N.bind (cF C s) λf=>match f with
  |.next=>aW C r
  |f=>N.pure f
end
structure Prog where
 fns:Nat->Option Fn
 consts:Nat->Option V
 eW:Nat->Nat
 oE:Nat->Nat->Bool
def bW:RN Fl->Res V
|.ok (.ret v) _ σ=>.ok v σ
|.ok .next _ σ=>.ok .none σ
|.ok _ _ _=>.bad
|.aF c _ σ=>.aF c σ
|.bad=>.bad
def runM(m:N Fl)(L:aQ):M V:=λσ=>bW (m L σ)
def av(P:Prog)(script:List Int):Nat->Nat->List V->M V
|0,_,_=>M.fail
|n+1,f,vs=>match P.fns f with
  |none=>M.fail
  |some fn=>if vs.length=fn.arity then runM (aW ⟨script,P.consts,av P script n,P.eW,P.oE⟩ fn.body) (vs.map some++List.replicate (fn.slots-fn.arity) none) else M.fail
structure Df where
 name:Str
 fn:Fn
 slots:List Str
structure Info where
 defs:List (Option Df)
 consts:List (Option (Str×V))
 meths:List Nat
def Info.df(I:Info)(f:Nat):Option Df:=I.defs[f]?.join
def Info.cn(I:Info)(f:Nat):Option (Str×V):=I.consts[f]?.join
def Info.fns(I:Info)(f:Nat):Option Fn:=(I.df f).map (·.fn)
def Info.prog(I:Info):Prog:=⟨I.fns,λg=>(I.cn g).map (·.2),λ_=>0,λ_ _=>false⟩
set_option backward.match.sparseCases true
section
variable{α:Type}{a b:α}{σ af:H}{L L':aQ}{c c':Nat}{X:Prop}
theorem ff(h:false=true):X:=Bool.noConfusion h
theorem tf(h:true=false):X:=Bool.noConfusion h
theorem bS(h:none=some a):X:=by cases h
theorem d8(h:some a=none):X:=by cases h
theorem dt(h:some a=some b)(k:a=b->X):X:=k (Option.some.inj h)
theorem cT(h:Res.bad=.ok a σ):X:=by cases h
theorem Q7(h:Res.aF c af=.ok a σ):X:=by cases h
theorem qA(h:Res.ok a af=.aF c σ):X:=by cases h
theorem kF(h:(Res.bad:Res α)=.aF c σ):X:=by cases h
theorem fv(h:Res.ok a σ=.ok b af)(k:a=b->σ=af->X):X:=by cases h;exact k rfl rfl
theorem zb(h:(Res.aF c σ:Res α)=.aF c' af)(k:c=c'->σ=af->X):X:=by cases h;exact k rfl rfl
theorem nG(h:RN.bad=.ok a L σ):X:=by cases h
theorem F2(h:RN.aF c L' af=.ok a L σ):X:=by cases h
theorem iS(h:RN.ok a L' af=.aF c L σ):X:=by cases h
theorem sB(h:(RN.bad:RN α)=.aF c L σ):X:=by cases h
theorem Q8(h:RN.ok a L σ=.ok b L' af)(k:a=b->L=L'->σ=af->X):X:=by cases h;exact k rfl rfl rfl
theorem vp(h:(RN.aF c L σ:RN α)=.aF c' L' af)(k:c=c'->L=L'->σ=af->X):X:=by cases h;exact k rfl rfl rfl
theorem iT{i j:Nat}(h:V.ref i=.ref j)(k:i=j->X):X:=k (by cases h;rfl)
theorem eQ{mo:α->H->Prop}(h:Res.ok a σ=.ok b af)(m:mo a σ):mo b af:=fv h λe e'=>e▸e'▸m
theorem iU{mo:α->aQ->H->Prop}(h:RN.ok a L σ=.ok b L' af)(m:mo a L σ):mo b L' af:=Q8 h λe e1 e2=>e▸e1▸e2▸m
theorem Q9{mo:Nat->H->Prop}(h:(Res.aF c σ:Res α)=.aF c' af)(m:mo c σ):mo c' af:=zb h λe e'=>e▸e'▸m
theorem F3{mo:Nat->aQ->H->Prop}(h:(RN.aF c L σ:RN α)=.aF c' L' af)(m:mo c L σ):mo c' L' af:=vp h λe e1 e2=>e▸e1▸e2▸m
theorem eR{mo:α->Prop}(h:some a=some b)(m:mo a):mo b:=Option.some.inj h▸m
end
end Qh
namespace Qh
set_option backward.match.sparseCases false
open PySem
section
theorem oc:ak C .none u1=(M.pure .none):=rfl
theorem og:ak C (.bool b) u1=(M.pure (.bool b)):=rfl
theorem oh:ak C (.int i) u1=(M.pure (.int i)):=rfl
theorem oi:ak C (.str s) u1=(M.pure (.str s)):=rfl
theorem oj:ak C (.aa i) L=(da (cq L i)):=rfl
theorem om:ak C (.glob g) u1=(da (C.consts g)):=rfl
theorem mV:ak C (.ax es) L=(M.bind (cZ C es L) λvs=>if vs.length<=aO then M.pure (.ax vs) else M.fail):=rfl
theorem mW:ak C (.ah es) L=(M.bind (cZ C es L) λvs=>if vs.length<=aO then dc (.ah vs) else M.fail):=rfl
theorem my:ak C (.aj op a b) L=(M.bind (ak C a L) λx=>M.bind (ak C b L) λy=>binop op x y):=rfl
theorem n3:ak C (.neg a) L=(M.bind (ak C a L) λx=>M.bind (dz x) λi=>M.pure (.int (-i))):=rfl
theorem mz:ak C (.cmp op a b) L=(M.bind (ak C a L) λx=>M.bind (ak C b L) λy=>M.bind (dH op x y) λr=>M.pure (.bool r)):=rfl
theorem n4:ak C (.not a) L=(M.bind (ak C a L) λx=>M.bind (dU x) λb=>M.pure (.bool !b)):=rfl
theorem mD:ak C (.and es) L=(nh C es L):=rfl
theorem n5:ak C (.or es) L=(r4 C es L):=rfl
theorem mE:ak C (.au a i) L=(M.bind (ak C a L) λx=>M.bind (ak C i L) λy=>index C x y):=rfl
theorem mF:ak C (.slc a lo hi) L=(M.bind (ak C a L) λx=>M.bind (ak C lo L) λl=>M.bind (ak C hi L) λh=>slice x l h):=rfl
theorem j5:ak C (.call f es) L=(M.bind (cZ C es L) λvs=>C.call f vs):=rfl
theorem wL:ak C (.cB f o es) L=(M.bind (ak C o L) λx=>M.bind (iq x) λ_=>M.bind (cZ C es L) λvs=>C.call f (x::vs)):=rfl
theorem JO:ak C (.new c) u1=(M.bind (dc (.dq 0)) λd=>match d with
  |.ref j=>dc (.inst c j)
  |_=>M.fail):=rfl
theorem JP:ak C (.attr o u1) L=(M.bind (ak C o L) λv=>DQ v):=rfl
theorem j6:ak C (.len a) L=(M.bind (ak C a L) λx=>lenOf C x):=rfl
theorem mG:ak C (.toInt a) L=(M.bind (ak C a L) λx=>t8 x):=rfl
theorem Bx:ak C (.toStr a) L=(M.bind (ak C a L) λx=>rE x):=rfl
theorem mH:ak C (.sum a) L=(M.bind (ak C a L) λx=>nx x):=rfl
theorem mI:ak C (.g7 a) L=(M.bind (ak C a L) λx=>oF x):=rfl
theorem JQ:ak C (.max2 a b) L=(M.bind (ak C a L) λx=>M.bind (ak C b L) λy=>uF x y):=rfl
theorem n6:ak C (.cS t a) L=(M.bind (ak C a L) λx=>M.bind (cS t x) λb=>M.pure (.bool b)):=rfl
theorem n7:ak C (.list a) L=(M.bind (ak C a L) λx=>p8 x):=rfl
theorem JR:ak C (.tuple a) L=(M.bind (ak C a L) λx=>jF x):=rfl
theorem JS:ak C (.dict a) L=(M.bind (ak C a L) λx=>ng x):=rfl
theorem mJ:ak C (.join a b) L=(M.bind (ak C a L) λx=>M.bind (ak C b L) λy=>joinM x y):=rfl
theorem kM:ak C (.comp elt v br src) L=(M.bind (ak C src L) λx=>M.bind (srcOf x) λsr=>M.bind (eX sr) λn=>
   if n<=aO then M.bind (dk sr (λit=>M.bind (ak C elt (b7 (cQ L br) v it)) λy=>M.pure (some y)) (n+1) 0) λvs=>dc (.ah vs) else M.fail):=rfl
theorem JT:ak C (.f9 elt v br src test) L=(M.bind (ak C src L) λx=>M.bind (srcOf x) λsr=>M.bind (eX sr) λn=>
   if n<=aO then M.bind (dk sr (λit=>M.bind (bP C test (b7 (cQ L br) v it)) λb=>if b then M.bind (ak C elt (b7 (cQ L br) v it)) λy=>M.pure (some y) else M.pure none) (n+1) 0) λvs=>dc (.ah vs) else M.fail):=rfl
theorem mK:ak C (.fH elt v br e) L=(M.bind (ak C e L) λx=>M.bind (dz x) λn=>if 0<=n/\n<=1000000 then
   M.bind (dk (.fix (dM n)) (λit=>M.bind (ak C elt (b7 (cQ L br) v it)) λy=>M.pure (some y)) (n.toNat+1) 0) λvs=>dc (.ah vs) else M.fail):=rfl
theorem JU:cZ C .nil u1=(M.pure []):=rfl
theorem By:cZ C (.cons e r) L=(M.bind (ak C e L) λv=>M.bind (cZ C r L) λvs=>M.pure (v::vs)):=rfl
theorem tP:bP C (.not a) L=(M.bind (bP C a L) λb=>M.pure !b):=rfl
theorem rq:bP C (.and es) L=(jI C es L):=rfl
theorem tQ:bP C (.or es) L=(jJ C es L):=rfl
theorem tR:bP C (.cmp op a b) L=(M.bind (ak C a L) λx=>M.bind (ak C b L) λy=>dH op x y):=rfl
theorem w8:bP C (.bool b) u1=(M.pure b):=rfl
theorem w9:bP C (.aa i) L=(M.bind (da (cq L i)) dU):=rfl
theorem tS:bP C (.call f es) L=(M.bind (M.bind (cZ C es L) λvs=>C.call f vs) dU):=rfl
theorem xa:bP C (.cS t a) L=(M.bind (ak C a L) λx=>cS t x):=rfl
theorem tD:bP C (.au a i) L=(M.bind (M.bind (ak C a L) λx=>M.bind (ak C i L) λy=>index C x y) dU):=rfl
theorem I0:jI C (.cons e r) L=(M.bind (bP C e L) λb=>if b then jI C r L else M.pure false):=rfl
theorem I1:jJ C (.cons e r) L=(M.bind (bP C e L) λb=>if b then M.pure true else jJ C r L):=rfl
theorem mX:cF C (.aK i e)=(N.bind (N.lift (ak C e)) λv=>N.bind (N.put i v) λ_=>N.pure .next):=rfl
theorem Ca:cF C (.hY is e)=(N.bind (N.lift (ak C e)) λv=>match v with
  |.ax vs=>N.bind (N.fK is vs) λ_=>N.pure .next
  |.ref _=>N.bind (N.lift λ_=>bI v) λvs=>N.bind (N.fK is vs) λ_=>N.pure .next
  |_=>N.fail):=rfl
theorem ke:cF C (.fh o i e)=(N.bind (N.lift (ak C e)) λv=>N.bind (N.lift (ak C o)) λx=>N.bind (N.lift (ak C i)) λy=>N.bind (N.lift λ_=>iB x y v) λ_=>N.pure .next):=rfl
theorem Lg:cF C (.ji o u1 e)=(N.bind (N.lift (ak C e)) λv=>N.bind (N.lift (ak C o)) λov=>N.bind (N.lift λ_=>tC ov v) λ_=>N.pure .next):=rfl
theorem kR:cF C (.append o e)=(N.bind (N.lift (ak C o)) λx=>N.bind (N.lift λ_=>bI x) λ_=>N.bind (N.lift (ak C e)) λv=>N.bind (N.lift λ_=>rn x v) λ_=>N.pure .next):=rfl
theorem Lh:cF C (.expr e)=(N.bind (N.lift (ak C e)) λ_=>N.pure .next):=rfl
theorem mY:cF C (.ite c t e)=(N.bind (N.lift (bP C c)) λb=>if b then aW C t else aW C e):=rfl
theorem mZ:cF C (.qo c b)=(t9 (N.lift (bP C c)) (aW C b) 100000):=rfl
theorem mO:cF C (.kA i e b)=(N.bind (N.lift (ak C e)) λx=>N.bind (N.lift λ_=>srcOf x) λsr=>N.bind (N.lift λ_=>eX sr) λn=>
   dP (λk=>M.bind (dN sr k) λy=>M.pure (y.map λv=>[(i,v)])) (aW C b) (n+1) 0):=rfl
theorem j7:cF C (.eP i e b)=(N.bind (N.lift (ak C e)) λx=>N.bind (N.lift λ_=>dz x) λn=>if 0<=n/\n<=1000000 then
   dP (λk=>M.pure ((dM n)[k]?.map λv=>[(i,v)])) (aW C b) (n.toNat+1) 0 else N.fail):=rfl
theorem JV:cF C (.g8 i j a b bd)=(N.bind (N.lift (ak C a)) λx=>N.bind (N.lift (ak C b)) λy=>N.bind (N.lift λ_=>rN x) λus=>N.bind (N.lift λ_=>rN y) λws=>
   dP (λk=>M.pure (gZ us ws i j k)) (aW C bd) (us.length+1) 0):=rfl
theorem mP:cF C (.ret e)=(N.bind (N.lift (ak C e)) λv=>N.pure (.ret v)):=rfl
theorem Bz:cF C (.g9 b c h)=(λL σ=>match aW C b L σ with
  |.ok f L' af=>.ok f L' af
  |.aF c' L' af=>if c'=c then aW C h L' af else .bad
  |.bad=>.bad):=rfl
theorem pF:aW C .nil=(N.pure .next):=rfl
theorem pG:aW C (.cons s r)=(N.bind (cF C s) λf=>match f with
  |.next=>aW C r
  |f=>N.pure f):=rfl
theorem wt:index C (.ax vs) (.int k)=(fu vs k):=rfl
theorem wu:index C (.str s) (.int k)=(M.bind (fu s.cps.toList k) λc=>M.pure (.str ⟨#[c]⟩)):=rfl
theorem wx:index C .cy (.int k)=(M.bind (fu C.script k) λn=>M.pure (.int n)):=rfl
theorem wz:index C (.ref j) (.int k)=(M.bind (bI (.ref j)) λvs=>fu vs k):=rfl
theorem tm:index C (.ref j) (.str k)=(M.bind (cW j) λo=>match o with|.aD es=>da (de es k)|_=>M.fail):=rfl
theorem pA:dH .Eq a b=(iw a b):=rfl
theorem mq:dH .NotEq a b=(M.bind (iw a b) λx=>M.pure !x):=rfl
theorem AU:dH .Lt a b=(M.bind (dz a) λx=>M.bind (dz b) λy=>M.pure (decide (x<y))):=rfl
theorem AV:dH .Gt a b=(M.bind (dz a) λx=>M.bind (dz b) λy=>M.pure (decide (y<x))):=rfl
theorem AW:dH .LtE a b=(M.bind (dz a) λx=>M.bind (dz b) λy=>M.pure (decide (x<=y))):=rfl
theorem wA:dH .In a b=(iA a b):=rfl
theorem wB:dH .NotIn a b=(M.bind (iA a b) λx=>M.pure !x):=rfl
theorem JW:iw (.str x) (.str y)=(M.pure (x==y)):=rfl
theorem BA:iw (.int x) (.int y)=(M.pure (x==y)):=rfl
theorem JX:iw (.ref i) (.ref j)=(M.bind (bI (.ref i)) λx=>M.bind (bI (.ref j)) λy=>if gi x y then M.pure (kB x y) else M.fail):=rfl
theorem Cb:iA x (.ref i)=(M.bind (cW i) λo=>match o with
  |.ah vs=>among x vs
  |.aD es=>match x with
   |.str k=>M.pure (de es k).isSome
   |_=>M.fail
  |_=>M.fail):=rfl
theorem AX:lenOf C (.ax vs)=(if vs.length<=aO then M.pure (.int vs.length) else M.fail):=rfl
theorem AY:lenOf C (.str s)=(if s.length<=aO then M.pure (.int s.length) else M.fail):=rfl
theorem AZ:lenOf C .cy=(M.pure (.int C.script.length)):=rfl
theorem wC:lenOf C (.ref i)=(M.bind (bI (.ref i)) λvs=>if vs.length<=aO then M.pure (.int vs.length) else M.fail):=rfl
theorem Ar:cS t (.int u1)=(if t∈fO then M.pure (t=="int") else M.fail):=rfl
theorem Ii:cS t (.bool u1)=(if t="int"∨t="bool" then M.pure true else M.fail):=rfl
theorem As:cS t (.str u1)=(if t∈fO then M.pure (t=="str") else M.fail):=rfl
theorem Au:cS t (.ax u1)=(if t∈fO then M.pure (t=="tuple") else M.fail):=rfl
theorem Ij:cS t (.ref i)=(M.bind (bI (.ref i)) λ_=>if t="list" then M.pure true else M.fail):=rfl
theorem I2:ku xs (.int l) .none=(if 0<=l/\l<0x4000000000000000 then M.pure (xs.drop l.toNat) else M.fail):=rfl
theorem I3:slice (.ref i) lo hi=(M.bind (bI (.ref i)) λvs=>M.bind (ku vs lo hi) λr=>if CV lo hi/\vs.length<=aO then dc (.ah r) else M.fail):=rfl
theorem z8:iB (.ref j) (.int k) e=(M.bind (bI (.ref j)) λvs=>if 0<=k/\k<vs.length/\vs.length<=aO then iM j (.ah (vs.set k.toNat e)) else M.fail):=rfl
theorem HT:iB (.ref j) (.str k) e=(M.bind (cW j) λob=>match ob with|.aD es=>if es.length<=aO then iM j (.aD (bp es k e)) else M.fail|_=>M.fail):=rfl
theorem Ik:strsOf []=(some []):=rfl
theorem Il:strsOf (.str i::r)=((strsOf r).map (i::·)):=rfl
theorem Im:intsOf []=(some []):=rfl
theorem Io:intsOf (.int i::r)=((intsOf r).map (i::·)):=rfl
theorem tn:dz (.int b)=(M.pure b):=rfl
theorem Av:dU (.bool b)=(M.pure b):=rfl
theorem pB:srcOf (.ref i)=(M.bind (bI (.ref i)) λ_=>M.pure (.live i)):=rfl
theorem A0:srcOf (.ax vs)=(M.pure (.fix vs)):=rfl
theorem tq:dN (.fix vs) k=(M.pure vs[k]?):=rfl
theorem jY:dN (.live i) k=(M.bind (bI (.ref i)) λvs=>M.pure vs[k]?):=rfl
theorem Aw:eX (.fix vs)=(M.pure vs.length):=rfl
theorem pw:eX (.live i)=(M.bind (bI (.ref i)) λvs=>M.pure vs.length):=rfl
theorem pH:cq [] u1=(none):=rfl
theorem pJ:cq (x::u1) 0=(x):=rfl
theorem pK:cq (u1::r) (n+1)=(cq r n):=rfl
theorem wM:b7 [] u1 u2=([]):=rfl
theorem wN:b7 (u1::r) 0 v=(some v::r):=rfl
theorem wO:b7 (x::r) (n+1) v=(x::b7 r n v):=rfl
theorem nN:bW (.ok (.ret v) u1 σ)=(.ok v σ):=rfl
theorem nO:bW (.ok .next u1 σ)=(.ok .none σ):=rfl
theorem nP:bW (.aF c u1 σ)=(.aF c σ):=rfl
theorem nQ:bW .bad=(.bad):=rfl
theorem nR:binop .Add (.int x) (.int y)=M.pure (.int (x+y)):=rfl
theorem nS:binop .Sub (.int x) (.int y)=M.pure (.int (x-y)):=rfl
theorem jy:binop .Mult (.int x) (.int y)=(if small x||small y then M.pure (.int (x*y)) else M.fail):=rfl
theorem nT:binop .Mod (.int x) (.int y)=(if y=0 then M.fail else M.pure (.int (x.fmod y))):=rfl
theorem nU:binop .FloorDiv (.int x) (.int y)=(if y=0∨¬ y.natAbs<1073741824 then M.fail else M.pure (.int (x.fdiv y))):=rfl
theorem nV:binop .Pow (.int x) (.int y)=(if small x/\0<=y/\y<=1000 then M.pure (.int (x^y.toNat)) else M.fail):=rfl
theorem nW:binop .Add (.str x) (.str y)=(if x.length+y.length<=aO then M.pure (.str (x++y)) else M.fail):=rfl
theorem nX:binop .Add (.ax x) (.ax y)=(if x.length+y.length<=aO then M.pure (.ax (x++y)) else M.fail):=rfl
theorem nY:binop .Add (.ref i) (.ref j)=(M.bind (bI (.ref i)) λx=>M.bind (bI (.ref j)) λy=>if x.length+y.length<=aO then dc (.ah (x++y)) else M.fail):=rfl
theorem A1:nh C (.cons e .nil) L=M.bind (ak C e L) λv=>M.bind (dU v) λb=>M.pure (.bool b):=rfl
theorem A2:nh C (.cons e (.cons e2 r)) L=M.bind (ak C e L) λv=>M.bind (dU v) λb=>if b then nh C (.cons e2 r) L else M.pure (.bool false):=rfl
end
set_option backward.match.sparseCases true
end Qh
set_option tactic.hygienic true
namespace Qh
open PySem PyProof.Rows
structure Gd where
 prog:Program
 w:World
 hb:Heap
 sA:Addr
 script:List Int
 cA:Nat->Addr
 P:Prog
 fN:Nat->Str
 fA:Nat->Addr
 eS:Nat->Bool
 gN:Nat->Str
 res:List Addr
def Gd.re(G:Gd)(R:List Addr):Gd:={G with res:=R}
mutual
inductive Rel(G:Gd)(ρ:List Addr)(h:Heap):Value->V->Prop
|none:Rel G ρ h .none .none
|bool (b:Bool):Rel G ρ h (.bool b) (.bool b)
|int (i:Int) (t:Tok):Rel G ρ h (.int i t) (.int i)
|str (x:Str) (t:Tok):Rel G ρ h (.str x t) (.str x)
|ax {a:Addr}{xs:List Value}{vs:List V}:IsTup h a xs.toArray->bH G ρ h xs vs->a∉G.res->Rel G ρ h (.ref a) (.ax vs)
|ref {a:Addr}{i:Nat}:ρ[i]?=some a->Rel G ρ h (.ref a) (.ref i)
|cy:Rel G ρ h (.ref G.sA) .cy
inductive bH(G:Gd)(ρ:List Addr)(h:Heap):List Value->List V->Prop
|nil:bH G ρ h [] []
|cons {x:Value}{v:V}{xs:List Value}{vs:List V}:Rel G ρ h x v->bH G ρ h xs vs->bH G ρ h (x::xs) (v::vs)
end
section
variable{G:Gd}{ρ:List Addr}{h:Heap}{x:Value}{X:Prop}
theorem O2(r:Rel G ρ h x .none)(k:x=.none->X):X:=by cases r;exact k rfl
theorem O3(r:Rel G ρ h x (.bool b))(k:x=.bool b->X):X:=by cases r;exact k rfl
theorem rO(r:Rel G ρ h x (.int i))(k:∀t,x=.int i t->X):X:=by cases r;exact k _ rfl
theorem p9(r:Rel G ρ h x (.str y))(k:∀t,x=.str y t->X):X:=by cases r;exact k _ rfl
theorem DS(r:Rel G ρ h x (.ax vs))(k:∀a (xs:List Value),IsTup h a xs.toArray->bH G ρ h xs vs->a∉G.res->x=.ref a->X):X:=by cases r with|ax h1 h2 h3=>exact k _ _ h1 h2 h3 rfl
theorem O4(r:Rel G ρ h x .cy)(k:x=.ref G.sA->X):X:=by cases r;exact k rfl
theorem Nc(r:bH G ρ h xs [])(k:xs=[]->X):X:=by cases r;exact k rfl
section
variable{mo:Value->Prop}
theorem oQ(r:Rel G ρ h x (.bool b))(k:mo (.bool b)):mo x:=O3 r λe=>e▸k
theorem eI(r:Rel G ρ h x (.int i))(k:∀t,mo (.int i t)):mo x:=rO r λt e=>e▸k t
theorem kC(r:Rel G ρ h x (.str y))(k:∀t,mo (.str y t)):mo x:=p9 r λt e=>e▸k t
theorem EV(r:Rel G ρ h x .cy)(k:mo (.ref G.sA)):mo x:=O4 r λe=>e▸k
end
theorem O5{mo:List Value->Prop}(r:bH G ρ h xs [])(k:mo []):mo xs:=Nc r λe=>e▸k
end
def CW(C a dx:Addr)(o:Obj):Prop:=o.cls=.ref C/\(∀c,o.data≠.cls c)/\o.dict=some dx/\dx≠a
def jb(v:Value)(y:Str):Option Value:=if y="many" then some v else none
def iN(G:Gd)(ρ:List Addr)(h:Heap)(a:Addr):O->Prop
|.ah vs=>∃xs:List Value,h.PlainList a xs.toArray/\bH G ρ h xs vs
|.aD es=>∃kvs:List (Str×Value),h.DictOf (strKind G.prog G.w) a kvs/\kvs.map (·.1)=es.map (·.1)/\bH G ρ h (kvs.map (·.2)) (es.map (·.2))
|.inst c d=>∃dx o,ρ[d]?=some dx/\h.get? a=some o/\CW (G.cA 0) a dx o
|.dq n=>∃t,h.Ns1 a (jb (.int n t))
structure aG(G:Gd)(ρ:List Addr)(σ:H)(h:Heap):Prop where
 base:∀b o,G.hb.get? b=some o->h.get? b=some o
 len:ρ.length=σ.length
 nodup:ρ.Nodup
 new:∀a∈ρ,G.hb.get? a=none
 rep:∀(i:Nat)(a:Addr)(o:O),ρ[i]?=some a->σ[i]?=some o->iN G ρ h a o
 iO:∀a∈G.res,∃xs,IsTup h a xs
 jO:∀a∈G.res,G.hb.get? a=none
structure Step(ρ:List Addr)(h:Heap)(aw:List Addr)(h':Heap):Prop where
 pre:∃t,aw=ρ++t
 fresh:∀a∈aw,a∈ρ∨h.get? a=none
 keep:∀a o,h.get? a=some o->a∉ρ->h'.get? a=some o
theorem Step.refl(ρ:List Addr)(h:Heap):Step ρ h ρ h:=⟨⟨[],by simp⟩,λ_ ha=>.inl ha,λ_ _ e _=>e⟩
theorem Step.trans(x:Step ρ h aJ aA)(y:Step aJ aA dD aX):Step ρ h dD aX:=by
 refine b6 (x.pre) λt bh=>?_;subst bh;obtain⟨t',rfl⟩:=y.pre;refine⟨⟨t++t',by simp⟩,λa ha=>?_,λa o e hn=>?_⟩
 ·rcases y.fresh a ha with q|q
  ·exact x.fresh a q
  ·by_cases hr:a∈ρ
   ·exact .inl hr
   ·refine .inr ?_;cases e:h.get? a with
    |none=>rfl
    |some o=>(replace q:=(x.keep a o e hr)▸q);exact d8 q
 ·refine y.keep a o (x.keep a o e hn) λq=>?_;rcases x.fresh a q with q|q
  ·exact hn q
  ·(replace q:=e▸q);exact d8 q
theorem Step.get{ρ aw:List Addr}{h h':Heap}(x:Step ρ h aw h'){i:Nat}(e:ρ[i]?=some a):aw[i]?=some a:=by
 refine b6 (x.pre) λt bh=>?_;clear x;subst bh;rw[List.getElem?_append_left]
 ·exact e
 ·exact(List.getElem?_eq_some_iff.mp e).1
section
variable{G:Gd}{ρ aw:List Addr}{σ af:H}{h h':Heap}
theorem bH.length(r:bH G ρ h xs vs):xs.length=vs.length:=by
 induction xs generalizing vs with
|nil=>cases r;rfl
|cons x xs ih=>cases r with|cons _ r=>simp[ih r]
theorem bH.get{xs:List Value}{vs:List V}(r:bH G ρ h xs vs){k:Nat}(e:vs[k]?=some v):∃x,xs[k]?=some x/\Rel G ρ h x v:=by
 induction xs generalizing vs k with
|nil=>cases r;simp at e
|cons x xs ih=>
  cases r with
  |cons hx r=>
   cases k with
   |zero=>simp at e;(clear ih;subst e);exact⟨x,rfl,hx⟩
   |succ k=>simp at e;simpa using ih r e
theorem bH.append(r:bH G ρ h xs vs)(q:bH G ρ h ys ws):bH G ρ h (xs++ys) (vs++ws):=by
 induction xs generalizing vs with
|nil=>cases r;exact q
|cons x xs ih=>cases r with|cons hx r=>exact .cons hx (ih r)
theorem bH.take(r:bH G ρ h xs vs)(k:Nat):bH G ρ h (xs.take k) (vs.take k):=by
 induction xs generalizing vs k with
|nil=>cases r;simp;exact .nil
|cons x xs ih=>
  cases r with
  |cons hx r=>cases k with
   |zero=>exact .nil
   |succ k=>exact .cons hx (ih r k)
theorem bH.drop(r:bH G ρ h xs vs)(k:Nat):bH G ρ h (xs.drop k) (vs.drop k):=by
 induction xs generalizing vs k with
|nil=>cases r;simp;exact .nil
|cons x xs ih=>
  cases r with
  |cons hx r=>cases k with
   |zero=>exact .cons hx r
   |succ k=>exact ih r k
theorem bH.set(r:bH G ρ h xs vs)(k:Nat)(hx:Rel G ρ h x v):bH G ρ h (xs.set k x) (vs.set k v):=by
 induction xs generalizing vs k with
|nil=>cases r;exact .nil
|cons y xs ih=>
  cases r with
  |cons hy r=>cases k with
   |zero=>exact .cons hx r
   |succ k=>exact .cons hy (ih r k)
theorem Rel.mono(hk:∀a xs,IsTup h a xs->IsTup h' a xs)(hp:∀(i:Nat)(a:Addr),ρ[i]?=some a->aw[i]?=some a)(r:Rel G ρ h x v):Rel G aw h' x v:=
 Rel.rec .none .bool .int .str (λe _ n r=>.ax (hk _ _ e) r n) (λe=>.ref (hp _ _ e)) .cy .nil (λ_ _=>.cons) r
theorem bH.mono(hk:∀a xs,IsTup h a xs->IsTup h' a xs)(hp:∀(i:Nat)(a:Addr),ρ[i]?=some a->aw[i]?=some a)(r:bH G ρ h xs vs):bH G aw h' xs vs:=
 bH.rec .none .bool .int .str (λe _ n r=>.ax (hk _ _ e) r n) (λe=>.ref (hp _ _ e)) .cy .nil (λ_ _=>.cons) r
theorem aG.at(S:aG G ρ σ h){i:Nat}(e:ρ[i]?=some a):∃o,σ[i]?=some o/\iN G ρ h a o:=by
 have hi:i<σ.length:=by(refine(S.len)▸?_);exact(List.getElem?_eq_some_iff.mp e).1
 exact⟨σ[i],List.getElem?_eq_getElem hi,S.rep i a _ e (List.getElem?_eq_getElem hi)⟩
theorem iN.cls(r:iN G ρ h a o):∃ob,h.get? a=some ob/\(ob.cls=.type "list"∨ob.cls=.type "dict"∨(∃C,ob.cls=.ref C)∨∃es ep,ob.data=.dict es ep):=by
 cases o with
|ah vs=>obtain⟨xs,⟨n,e⟩,_⟩:=r;exact⟨_,e,.inl rfl⟩
|aD es=>obtain⟨kvs,⟨ob,_,_,e,c,_⟩,_⟩:=r;exact⟨ob,e,.inr (.inl c.1)⟩
|inst c d=>obtain⟨dx,o,_,e,q,_⟩:=r;exact⟨_,e,.inr (.inr (.inl ⟨_,q⟩))⟩
|dq n=>obtain⟨t,ob,es,ep,e,d,_⟩:=r;exact⟨ob,e,.inr (.inr (.inr ⟨es,ep,d⟩))⟩
theorem aG.mem(S:aG G ρ σ h){a:Addr}(ha:a∈ρ):∃ob,h.get? a=some ob/\(ob.cls=.type "list"∨ob.cls=.type "dict"∨(∃C,ob.cls=.ref C)∨∃es ep,ob.data=.dict es ep):=by
 obtain⟨i,hi,rfl⟩:=List.getElem_of_mem ha;refine aM (S.at (List.getElem?_eq_getElem hi)) λo _ r=>?_;exact r.cls
theorem aG.gw(S:aG G ρ σ h)(e:h.get? a=some ob)(c:ob.cls=.type T)(h1:T≠"list")(h2:T≠"dict")(h3:∀es ep,ob.data≠.dict es ep):a∉ρ:=λha=>by
 refine aM (S.mem ha) λvq e' c'=>?_;(replace e':=e▸e');(refine dt e' λaL=>?_;(clear e';subst aL));replace c':=c▸c';rcases c' with q|q|⟨C,q⟩|⟨es,ep,q⟩
 ·injection q with q;exact h1 q
 ·injection q with q;exact h2 q
 ·cases q
 ·exact h3 _ _ q
theorem aG.ax(S:aG G ρ σ h)(e:IsTup h a xs):a∉ρ:=by
 obtain⟨o,e,c,n,hd⟩:=e;exact S.gw e c (by decide) (by decide) λes ep q=>by(replace q:=hd▸q);cases q
theorem Step.ax(x:Step ρ h aw h')(S:aG G ρ σ h):∀a xs,IsTup h a xs->IsTup h' a xs:=λa xs e=>by
 have hn:=S.ax e;refine aM (e) λo e c=>?_;exact⟨o,x.keep a o e hn,c⟩
theorem Rel.step{v:Value}{u:V}(r:Rel G ρ h v u)(x:Step ρ h aw h')(S:aG G ρ σ h):Rel G aw h' v u:=r.mono (x.ax S) λ_ _ e=>x.get e
theorem bH.step{v:List Value}{u:List V}(r:bH G ρ h v u)(x:Step ρ h aw h')(S:aG G ρ σ h):bH G aw h' v u:=r.mono (x.ax S) λ_ _ e=>x.get e
theorem aG.fresh(S:aG G ρ σ h)(ha:h.objs.size<=a):a∉ρ:=λq=>by
 refine aM (S.mem q) λob e _=>?_;exact Nat.lt_irrefl _ (Nat.lt_of_lt_of_le (Heap.lt_size e) ha)
theorem aG.lt(S:aG G ρ σ h)(q:a∈ρ):a<h.objs.size:=by
 refine aM (S.mem q) λob e _=>?_;exact Heap.lt_size e
theorem aG.Nd(S:aG G ρ σ h)(ha:h.objs.size<=a):a∉G.res:=λq=>by
 refine bo (S.iO a q) λ_ o e _=>?_;exact Nat.lt_irrefl _ (Nat.lt_of_lt_of_le (Heap.lt_size e) ha)
theorem iN.keeps(r:iN G ρ h a o)(hg:∀ob,h.get? a=some ob->h'.get? a=some ob)(hk:∀a xs,IsTup h a xs->IsTup h' a xs)(hp:∀(i:Nat)(a:Addr),ρ[i]?=some a->aw[i]?=some a):iN G aw h' a o:=by
 cases o with
|ah vs=>obtain⟨xs,⟨n,e⟩,q⟩:=r;exact⟨xs,⟨n,hg _ e⟩,q.mono hk hp⟩
|aD es=>obtain⟨kvs,⟨ob,x,y,e,c⟩,q,q'⟩:=r;exact⟨kvs,⟨ob,x,y,hg _ e,c⟩,q,q'.mono hk hp⟩
|inst c d=>obtain⟨dx,o,q,e,z⟩:=r;exact⟨dx,o,hp _ _ q,hg _ e,z⟩
|dq n=>obtain⟨t,e⟩:=r;exact⟨t,e.at hg⟩
theorem aG.grow(S:aG G ρ σ h)(hk:∀b o,h.get? b=some o->h'.get? b=some o):aG G ρ σ h':=
 ⟨λb o e=>hk _ _ (S.base b o e),S.len,S.nodup,S.new,λi a o e1 e2=>(S.rep i a o e1 e2).keeps (λ_ e=>hk _ _ e) (λa xs ⟨o,e,c⟩=>⟨o,hk _ _ e,c⟩) λ_ _ e=>e,λa ha=>let ⟨xs,o,e,c⟩:=S.iO a ha;⟨xs,o,hk _ _ e,c⟩,S.jO⟩
theorem Step.grow(S:aG G ρ σ h)(hk:∀b o,h.get? b=some o->h'.get? b=some o):Step ρ h ρ h':=⟨⟨[],by simp⟩,λ_ ha=>.inl ha,λ_ _ e _=>hk _ _ e⟩
theorem aG.alloc(S:aG G ρ σ h)(hk:∀b o,h.get? b=some o->h'.get? b=some o)(ha:h.get? a=none)(hr:iN G (ρ++[a]) h' a o):
  aG G (ρ++[a]) (σ++[o]) h'/\Step ρ h (ρ++[a]) h'/\(ρ++[a])[σ.length]?=some a:=by
 refine⟨⟨λb o e=>hk _ _ (S.base b o e),by simp[S.len],List.nodup_append.mpr ⟨S.nodup,by simp,λx hx y hy=>?_⟩,λb hb=>?_,λi b ob e1 e2=>?_,λa ha=>let ⟨xs,o,e,c⟩:=S.iO a ha;⟨xs,o,hk _ _ e,c⟩,S.jO⟩,⟨⟨[a],rfl⟩,λb hb=>?_,λ_ _ e _=>hk _ _ e⟩,?_⟩
 ·simp at hy;(clear hr;subst hy);intro q;subst q;exact(λq=>by obtain⟨ob,e,_⟩:=S.mem q;(replace e:=ha▸e);exact bS e) hx
 ·rcases List.mem_append.mp hb with q|q
  ·exact S.new b q
  ·simp at q;(clear hr;(clear hb;subst q));cases e:G.hb.get? b with
   |none=>rfl
   |some o=>(replace ha:=(S.base _ _ e)▸ha);exact d8 ha
 ·rcases Nat.lt_or_ge i ρ.length with hi|hi
  ·rw[List.getElem?_append_left hi] at e1;rw[List.getElem?_append_left (by(refine(S.len)▸?_);exact hi)] at e2;refine(S.rep i b ob e1 e2).keeps (λ_ e=>hk _ _ e) (λa xs ⟨o,e,c⟩=>⟨o,hk _ _ e,c⟩) λj c e=>?_;rw[List.getElem?_append_left (List.getElem?_eq_some_iff.mp e).1];exact e
  ·have hi':i=ρ.length:=by
    have:=(List.getElem?_eq_some_iff.mp e1).1;simp at this;exact cK (lN 0x34c04904920506134184c [_,_] rfl this) (lN 0x34c04904920534c [_,_] rfl hi)
   clear hi;subst hi';simp at e1;(clear ha;subst e1);(replace e2:=(S.len)▸e2);simp at e2;subst e2;exact hr
 ·rcases List.mem_append.mp hb with q|q
  ·exact .inl q
  ·simp at q;(clear hb hr;subst q);exact .inr ha
 ·(refine(S.len)▸?_);simp
theorem aG.turn(S:aG G ρ σ h)(hi:ρ[i]?=some a)(hk:∀b o,b≠a->h.get? b=some o->h'.get? b=some o)(hr:iN G ρ h' a o):
  aG G ρ (σ.set i o) h'/\Step ρ h ρ h':=by
 have ha:a∈ρ:=List.mem_of_getElem? hi;have hnb:∀b ob,G.hb.get? b=some ob->b≠a:=λb ob e q=>by
  (clear hr hk hi;subst q);(replace e:=(S.new _ ha)▸e);exact bS e
 have htup:∀b xs,IsTup h b xs->IsTup h' b xs:=λb xs t=>by
  have hn:=S.ax t;refine aM (t) λob e c=>?_;exact⟨ob,hk b ob (λq=>hn (q▸ha)) e,c⟩
 refine⟨⟨λb ob e=>hk b ob (hnb b ob e) (S.base b ob e),by simp[S.len],S.nodup,S.new,λj b ob e1 e2=>?_,λb hb=>let ⟨xs,t⟩:=S.iO b hb;⟨xs,htup _ _ t⟩,S.jO⟩,⟨⟨[],by simp⟩,λ_ q=>.inl q,λb ob e hn=>hk b ob (λq=>hn (q▸ha)) e⟩⟩
 by_cases hij:i=j
 ·subst hij;(replace e1:=hi▸e1);(refine dt e1 λaL=>?_;(clear e1;subst aL));have:i<σ.length:=by(refine(S.len)▸?_);exact(List.getElem?_eq_some_iff.mp hi).1
  rw[List.getElem?_set_self this] at e2;(refine dt e2 λaL=>?_;subst aL);exact hr
 ·rw[List.getElem?_set_ne hij] at e2;have hba:b≠a:=λq=>by
   clear hnb ha hr hk;subst q;exact hij ((List.getElem?_inj ((List.getElem?_eq_some_iff.mp hi).1) S.nodup).mp (hi.trans e1.symm))
  exact(S.rep j b ob e1 e2).keeps (λx e=>hk b x hba e) htup λ_ _ e=>e
end
end Qh
set_option tactic.hygienic false
set_option tactic.hygienic true
namespace Qh
open PySem PyProof.Rows
section
variable{G:Gd}{A:Around}{E:bD}{s:Shared}{ρ aw:List Addr}{σ af:H}
def aT{α β:Type}(G:Gd)(R:List Addr->Heap->β->α->Prop)(r:Res α)(ρ:List Addr)(s:Shared)(Q:β->Shared->Prop):Prop:=
 match r with
|.ok a af=>∀b h' tk aw,Step ρ s.heap aw h'->aG G aw af h'->R aw h' b a->Q b {s with heap:=h',toks:=tk}
|_=>False
noncomputable abbrev PV(G:Gd)(r:Res V)(ρ:List Addr)(s:Shared)(Q:bD):Prop:=aT G (Rel G) r ρ s Q
noncomputable abbrev PL(G:Gd)(r:Res (List V))(ρ:List Addr)(s:Shared)(Q:List Value->Shared->Prop):Prop:=aT G (bH G) r ρ s Q
noncomputable abbrev o3{α:Type}(_:List Addr)(_:Heap)(b a:α):Prop:=b=a
noncomputable abbrev eZ(_:List Addr)(_:Heap)(b:Value)(a:Bool):Prop:=b=.bool a
noncomputable abbrev PB(G:Gd)(r:Res Bool)(ρ:List Addr)(s:Shared)(Q:Bool->Shared->Prop):Prop:=aT G o3 r ρ s Q
noncomputable abbrev o4(G:Gd)(r:Res Bool)(ρ:List Addr)(s:Shared)(Q:bD):Prop:=aT G eZ r ρ s Q
noncomputable abbrev PU(G:Gd)(r:Res Unit)(ρ:List Addr)(s:Shared)(Q:Unit->Shared->Prop):Prop:=aT G (λ_ _ _ _=>True) r ρ s Q
section
variable{α β γ δ:Type}{R:List Addr->Heap->β->α->Prop}{R':List Addr->Heap->δ->γ->Prop}{Q:β->Shared->Prop}
theorem aT.zc{α β:Type}{G:Gd}{R:List Addr->Heap->β->α->Prop}{r:Res α}{ρ:List Addr}{s:Shared}{Q:β->Shared->Prop}{X:Prop}(h:aT G R r ρ s Q)(k:∀a af,r=.ok a af->aT G R (.ok a af) ρ s Q->X):X:=by
 cases r with
|ok a af=>exact k a af rfl h
|aF c af=>exact h.elim
|bad=>exact h.elim
theorem aT.bind{m:M γ}{f:γ->M α}(h:aT G R (M.bind m f σ) ρ s Q):∃a ay,m σ=.ok a ay/\aT G R (f a ay) ρ s Q:=by
 unfold M.bind at h
 split at h
 ·rename_i a af e;exact⟨a,af,e,h⟩
 ·exact h.elim
 ·exact h.elim
theorem aT.step{r:Res α}{aA:Heap}{tk:Nat}{aJ:List Addr}(h:aT G R r ρ s Q)(x:Step ρ s.heap aJ aA):aT G R r aJ {s with heap:=aA,toks:=tk} Q:=by
 cases r with
|ok a af=>exact λb h' eL aw y S r=>h b h' eL aw (x.trans y) S r
|aF c af=>exact h
|bad=>exact h
theorem aT.here{a:α}{b:β}{tk:Nat}(h:aT G R (.ok a σ) ρ s Q)(S:aG G ρ σ s.heap)(r:R ρ s.heap b a):Q b {s with toks:=tk}:=
 h b s.heap tk ρ (Step.refl _ _) S r
theorem aT.cD{a:α}{b:β}(h:aT G R (.ok a σ) ρ s Q)(S:aG G ρ σ s.heap)(r:R ρ s.heap b a):Q b s:=h.here S r
theorem aT.grown{a:α}{b:β}{h':Heap}{tk:Nat}(h:aT G R (.ok a σ) ρ s Q)(S:aG G ρ σ s.heap)(hk:∀c o,s.heap.get? c=some o->h'.get? c=some o)(r:R ρ h' b a):Q b {s with heap:=h',toks:=tk}:=
 h b h' tk ρ (Step.grow S hk) (S.grow hk) r
theorem aT.da{o:Option α}(h:aT G R (Qh.da o σ) ρ s Q):∃a,o=some a/\aT G R (.ok a σ) ρ s Q:=by
 cases o with
|none=>exact h.elim
|some a=>exact⟨a,rfl,h⟩
theorem aT.ite{c:Prop}[Decidable c]{m:M α}(h:aT G R ((if c then m else M.fail) σ) ρ s Q):c/\aT G R (m σ) ρ s Q:=by
 by_cases hc:c
 ·rw[if_pos hc] at h;exact⟨hc,h⟩
 ·rw[if_neg hc] at h;exact h.elim
theorem aT.EW{c:Prop}[Decidable c]{m:M α}(h:aT G R ((if c then M.fail else m) σ) ρ s Q):¬ c/\aT G R (m σ) ρ s Q:=by
 by_cases hc:c
 ·rw[if_pos hc] at h;exact h.elim
 ·rw[if_neg hc] at h;exact⟨hc,h⟩
theorem aT.mono{r:Res α}{Q':β->Shared->Prop}(h:aT G R r ρ s Q)(hq:∀b s',Q b s'->Q' b s'):aT G R r ρ s Q':=by
 cases r with
|ok a af=>exact λb h' eL aw y S r=>hq _ _ (h b h' eL aw y S r)
|aF c af=>exact h
|bad=>exact h
end
theorem oo{i:Nat}{o:O}{ay:H}(e:cW i σ=.ok o ay):ay=σ/\σ[i]?=some o:=by
 unfold cW at e
 split at e
 ·rename_i o' h;(apply eQ e);exact⟨rfl,h⟩
 ·exact cT e
theorem eu{α β:Type}{m:M α}{f:α->M β}{b:β}{bN:H}(e:M.bind m f σ=.ok b bN):∃a ay,m σ=.ok a ay/\f a ay=.ok b bN:=by
 unfold M.bind at e
 split at e
 ·rename_i a af h;exact⟨a,af,h,e⟩
 ·exact Q7 e
 ·exact cT e
theorem eE{v:V}{vs:List V}{ay:H}(e:bI v σ=.ok vs ay):∃i,v=.ref i/\ay=σ/\σ[i]?=some (.ah vs):=by
 cases v with
|ref i=>
  refine bo (eu e) λo af e1 e2=>?_;refine aZ (oo e1) λcu e1=>?_;clear e eE;subst cu;cases o with
  |ah ws=>(apply eQ e2);exact⟨i,rfl,rfl,e1⟩
  |aD es=>exact cT e2
  |inst c d=>exact cT e2
  |dq n=>exact cT e2
|_=>exact cT e
theorem jz{v:V}{i:Int}{ay:H}(e:dz v σ=.ok i ay):v=.int i/\ay=σ:=by
 cases v<;>first|((first|exact cT e|(apply eQ e)|cases e);exact⟨rfl,rfl⟩)|exact cT e
theorem qV{v:V}{i:Bool}{ay:H}(e:dU v σ=.ok i ay):v=.bool i/\ay=σ:=by
 cases v<;>first|((first|exact cT e|(apply eQ e)|cases e);exact⟨rfl,rfl⟩)|exact cT e
theorem BB{v:V}{i:Str}{ay:H}(e:DP v σ=.ok i ay):v=.str i/\ay=σ:=by
 cases v<;>first|((first|exact cT e|(apply eQ e)|cases e);exact⟨rfl,rfl⟩)|exact cT e
theorem aG.list(S:aG G ρ σ s.heap){i:Nat}{vs:List V}(e:σ[i]?=some (.ah vs)){x:Value}(r:Rel G ρ s.heap x (.ref i)):
  ∃a xs,x=.ref a/\ρ[i]?=some a/\s.heap.IsList a xs.toArray/\bH G ρ s.heap xs vs:=by
 cases r with
|ref hi=>
  obtain⟨xs,h1,h2⟩:=S.rep _ _ _ hi e;exact⟨_,xs,rfl,hi,h1.isList,h2⟩
theorem aG.x8(S:aG G ρ σ s.heap){i:Nat}{vs:List V}(e:σ[i]?=some (.ah vs)){x:Value}(r:Rel G ρ s.heap x (.ref i)):
  ∃a xs,x=.ref a/\ρ[i]?=some a/\s.heap.PlainList a xs.toArray/\bH G ρ s.heap xs vs:=by
 cases r with
|ref hi=>
  obtain⟨xs,h1,h2⟩:=S.rep _ _ _ hi e;exact⟨_,xs,rfl,hi,h1,h2⟩
theorem aG.dict(S:aG G ρ σ s.heap){i:Nat}{es:List (Str×V)}(e:σ[i]?=some (.aD es)){x:Value}(r:Rel G ρ s.heap x (.ref i)):
  ∃a kvs,x=.ref a/\ρ[i]?=some a/\s.heap.DictOf (strKind G.prog G.w) a kvs/\kvs.map (·.1)=es.map (·.1)/\bH G ρ s.heap (kvs.map (·.2)) (es.map (·.2)):=by
 cases r with
|ref hi=>
  refine aM (S.rep _ _ _ hi e) λkvs h1 h2=>?_;exact⟨_,kvs,rfl,hi,h1,h2⟩
theorem aT.newList{vs:List V}{xs:List Value}{h':Heap}{a:Addr}{tk:Nat}{Q:bD}(h:PV G (dc (.ah vs) σ) ρ s Q)(S:aG G ρ σ s.heap)(hk:∀c o,s.heap.get? c=some o->h'.get? c=some o)(ha:s.heap.objs.size<=a)(hl:h'.PlainList a xs.toArray)(r:bH G ρ s.heap xs vs):Q (.ref a) {s with heap:=h',toks:=tk}:=by
 refine k8 (S.alloc hk (Heap.get?_none_of_le ha) (o:=.ah vs) ⟨xs,hl,r.mono (λb ys ⟨o,e,c⟩=>⟨o,hk _ _ e,c⟩) λi b e=>by rw[List.getElem?_append_left (List.getElem?_eq_some_iff.mp e).1];exact e⟩) λS' st hi=>?_;exact h (.ref a) h' tk _ st S' (.ref hi)
end
end Qh
set_option tactic.hygienic false
namespace Qh
open PySem PyProof.Rows
section
variable{G:Gd}{A:Around}{E:bD}{s:Shared}{ρ aw:List Addr}{σ af:H}
theorem iX(h:n<=aO):n<=sizeLine:=by
 have:aO<=sizeLine:=by decide
 exact lN 0xd30124124124814e30534e [_,_,_] rfl h this
theorem HU(h:small i=true):i.natAbs<2^64:=by
 unfold small at h;simp only[Bool.and_eq_true,decide_eq_true_eq] at h
 lia
theorem Ax(h:small i=true):Builtin.Int.intBits i<=64:=by
 unfold small at h;simp only[Bool.and_eq_true,decide_eq_true_eq] at h;exact intBits_le_64 h.1 h.2
theorem gV{h:Heap}:∀c ob,h.get? c=some ob->(h.push o).get? c=some ob:=λ_ _ e=>Heap.get?_push_of_some _ e
theorem aT.xq{vs:List V}{xs:List Value}(h:PV G (.ok (.ax vs) σ) ρ s Q)(S:aG G ρ σ s.heap)(r:bH G ρ s.heap xs vs):
  Q (.ref s.heap.objs.size) {s with heap:=s.heap.push {cls:=.type "tuple",data:=.seq xs.toArray},toks:=tk}:=
 h.grown S gV (.ax ⟨_,Heap.get?_push_size _ rfl,rfl,_,rfl⟩ (r.mono (λb ys ⟨o,e,c⟩=>⟨o,gV _ _ e,c⟩) λ_ _ e=>e) (S.Nd (aR _)))
theorem aT.xr{vs:List V}{xs:List Value}(h:PV G (dc (.ah vs) σ) ρ s Q)(S:aG G ρ σ s.heap)(r:bH G ρ s.heap xs vs):
  Q (.ref s.heap.objs.size) {s with heap:=s.heap.push {cls:=.type "list",data:=.seq xs.toArray},toks:=tk}:=
 h.newList S gV (aR _) ⟨0,Heap.get?_push_size _ rfl⟩ r
theorem Ag(S:aG G ρ σ s.heap)(rx:Rel G ρ s.heap x (.ref i))(ry:Rel G ρ s.heap y (.ref j))(h:PV G (binop .Add (.ref i) (.ref j) σ) ρ s Q):wpAny (model G.prog G.w) A (binaryOp .Add x y) Q E s:=by
 refine bo (aT.bind h) λvs ay e1 h1=>?_;clear h;refine ca (eE e1) λi' q bc e1=>?_;clear Ag;subst bc;refine iT q λaL=>?_;subst aL;refine bo (aT.bind h1) λws ay e2 h2=>?_;clear h1;refine ca (eE e2) λj' q bc e2=>?_;subst bc;refine iT q λaL=>?_;subst aL;refine bB λXx aI=>?_;obtain⟨hsz,h⟩:=aT.ite h2;refine fF (S.list e1 rx) λa xs bc _ hl r1=>?_;clear rx;subst bc;refine fF (S.list e2 ry) λb ys bc _ hb r2=>?_;clear ry;subst bc;obtain⟨⟨cls,dd,data,sl⟩,ho,hc,n,hd⟩:=id hl;obtain⟨⟨Qs,dd2,data2,sl2⟩,md,hc2,n2,hd2⟩:=id hb;refine aI ?_;simp only at hc hd hc2 hd2;subst hc hd hc2 hd2;have e:xs.toArray++ys.toArray=(xs++ys).toArray:=by simp
 have hle:xs.toArray.size+ys.toArray.size<=sizeLine:=by
  (refine(List.size_toArray).symm▸?_;refine(List.size_toArray).symm▸?_;refine(r1.length).symm▸?_;refine(r2.length).symm▸?_);exact iX hsz
 refine concat_meets ⟨_,ho,rfl⟩ ⟨_,md,rfl⟩ noFill_list_add seq_list_add PySem.F.slot_list_add PySem.F.entry_list_add (PySem.F.args_list_add_2 _ _) (list_addW a b xs.toArray ys.toArray n n2 dd dd2 sl sl2 hle) ⟨ho,md,?_⟩;refine e.symm▸?_;exact h.xr S (r1.append r2)
theorem Ip(S:aG G ρ σ s.heap)(rx:Rel G ρ s.heap x (.ax vs))(ry:Rel G ρ s.heap y (.ax ws))(h:PV G (binop .Add (.ax vs) (.ax ws) σ) ρ s Q):wpAny (model G.prog G.w) A (binaryOp .Add x y) Q E s:=by
 refine aZ (aT.ite h) λhsz h=>?_;cases rx with
|@ax a xs _ hl r1 na=>
 cases ry with
|@ax b ys _ hb r2 nb=>
 refine bB λXx aI=>?_;obtain⟨⟨cls,dd,data,sl⟩,ho,hc,n,hd⟩:=id hl;obtain⟨⟨Qs,dd2,data2,sl2⟩,md,hc2,n2,hd2⟩:=id hb;refine aI ?_;simp only at hc hd hc2 hd2;subst hc hd hc2 hd2;have e:xs.toArray++ys.toArray=(xs++ys).toArray:=by simp
 have hle:xs.toArray.size+ys.toArray.size<=sizeLine:=by
  (refine(List.size_toArray).symm▸?_;refine(List.size_toArray).symm▸?_;refine(r1.length).symm▸?_;refine(r2.length).symm▸?_);exact iX hsz
 by_cases hv:xs=[]
 ·clear hle e hl;subst hv;cases r1;exact concat_meets ⟨_,ho,rfl⟩ ⟨_,md,rfl⟩ noFill_tuple_add seq_tuple_add PySem.F.slot_tuple_add PySem.F.entry_tuple_add (PySem.F.args_tuple_add_2 _ _)
   (tuple_addW0 a b _ ys.toArray n n2 dd dd2 sl sl2 rfl) ⟨ho,md,h.here S (.ax hb r2 nb)⟩
 ·by_cases hw:ys=[]
  ·clear hle e hb;subst hw;cases r2;refine concat_meets ⟨_,ho,rfl⟩ ⟨_,md,rfl⟩ noFill_tuple_add seq_tuple_add PySem.F.slot_tuple_add PySem.F.entry_tuple_add (PySem.F.args_tuple_add_2 _ _)
    (tuple_addW1 a b xs.toArray _ n n2 dd dd2 sl sl2 (by simpa using hv) rfl) ⟨ho,md,h.here S (.ax hl ?_ na)⟩
   simpa using r1
  ·refine concat_meets ⟨_,ho,rfl⟩ ⟨_,md,rfl⟩ noFill_tuple_add seq_tuple_add PySem.F.slot_tuple_add PySem.F.entry_tuple_add (PySem.F.args_tuple_add_2 _ _)
    (tuple_addW2 a b xs.toArray ys.toArray n n2 dd dd2 sl sl2 (by simpa using hv) (by simpa using hw) hle) ⟨ho,md,?_⟩
   refine e.symm▸?_;exact h.xq S (r1.append r2)
theorem q9(h:PV G (arith f u v σ) ρ s Q):∃i j,u=.int i/\v=.int j/\PV G (f i j σ) ρ s Q:=by
 cases u with
|int i=>cases v with
  |int j=>exact⟨i,j,rfl,rfl,h⟩
  |_=>exact h.elim
|_=>exact h.elim
theorem Li(S:aG G ρ σ s.heap)(rx:Rel G ρ s.heap x u)(ry:Rel G ρ s.heap y v)(h:PV G (yx u v σ) ρ s Q):wpAny (model G.prog G.w) A (binaryOp .Add x y) Q E s:=by
 cases u with
|int i=>cases v with
  |int j=>
   have h:PV G (M.pure (.int (i+j)) σ) ρ s Q:=h;(apply eI rx;intro _);(apply eI ry;intro _);exact P.add_int (h.here S (.int _ _))
  |_=>exact h.elim
|str i=>cases v with
  |str j=>
   have h:PV G ((if i.length+j.length<=aO then M.pure (.str (i++j)) else M.fail) σ) ρ s Q:=h;(apply kC rx;intro _);(apply kC ry;intro _);refine aZ (aT.ite h) λhc h=>?_;exact PyProof.Rows.add_str (λt' tk=>h.here S (.str _ _)) (iX hc)
  |_=>exact h.elim
|ax i=>cases v with
  |ax j=>exact Ip S rx ry h
  |_=>exact h.elim
|ref i=>cases v with
  |ref j=>exact Ag S rx ry h
  |_=>exact h.elim
|_=>exact h.elim
theorem JY(S:aG G ρ σ s.heap)(rx:Rel G ρ s.heap x u)(ry:Rel G ρ s.heap y v)(h:PV G (binop op u v σ) ρ s Q):wpAny (model G.prog G.w) A (binaryOp op x y) Q E s:=by
 cases op with
|Add=>exact Li S rx ry h
|Sub=>
  have zz:=q9 h;clear h;obtain⟨i,j,rfl,rfl,h⟩:=zz;(apply eI rx;intro _);(apply eI ry;intro _);exact P.sub_int (h.here S (.int _ _))
|Mult=>
  have zz:=q9 h;clear h;obtain⟨i,j,rfl,rfl,h⟩:=zz;(apply eI rx;intro _);(apply eI ry;intro _);refine aZ (aT.ite h) λhc h=>?_;rcases Bool.or_eq_true_iff.mp hc with q|q
  ·exact P.mul_int (h.here S (.int _ _)) (.of_left (Ax q))
  ·exact P.mul_int (h.here S (.int _ _)) (.of_right (Ax q))
|Mod=>
  have zz:=q9 h;clear h;obtain⟨i,j,rfl,rfl,h⟩:=zz;(apply eI rx;intro _);(apply eI ry;intro _);refine aZ (aT.EW h) λhc h=>?_;exact mod_int' hc (h.here S (.int _ _))
|FloorDiv=>
  have zz:=q9 h;clear h;obtain⟨i,j,rfl,rfl,h⟩:=zz;(apply eI rx;intro _);(apply eI ry;intro _);refine aZ (aT.EW h) λhc h=>?_;simp only[not_or,Decidable.not_not] at hc;exact PyProof.Rows.floordiv_int hc.1 (h.here S (.int _ _)) (.inl (PyProof.noPylong_small hc.2))
|Pow=>
  have zz:=q9 h;clear h;obtain⟨i,j,rfl,rfl,h⟩:=zz;(apply eI rx;intro _);(apply eI ry;intro _);refine aZ (aT.ite h) λhc h=>?_;exact pow_int_small hc.2.1 (lI 0x7247d078cc049049205a07bcc [_] rfl hc.2.2) (HU hc.1) (h.here S (.int _ _))
|_=>exact h.elim
theorem Nf(S:aG G ρ σ s.heap)(rx:Rel G ρ s.heap x (.int i))(h:PV G (.ok (.int (-i)) σ) ρ s Q):wpAny (model G.prog G.w) A (unaryOp .USub x) Q E s:=by
 (apply eI rx;intro _);exact P.neg_int (h.here S (.int _ _))
end
end Qh
set_option tactic.hygienic true
namespace Qh
open PySem PyProof.Rows
mutual
noncomputable def toD:V->PyData
|.int i=>.int i
|.str x=>.str x
|.ax vs=>.tuple (fj vs)
|_=>.none
noncomputable def fj:List V->List PyData
|[]=>[]
|v::r=>toD v::fj r
end
theorem jx(h:V.ek (v::r)=true):v.dO=true/\V.ek r=true:=Bool.and_eq_true_iff.mp h
theorem V.both{P:V->Prop}{Q:List V->Prop}(an:P .none)(ab:∀b,P (.bool b))(ai:∀i,P (.int i))(as:∀s,P (.str s))(at':∀vs,Q vs->P (.ax vs))(ar:∀i,P (.ref i))(ac:P .cy)(nl:Q [])(cs:∀v r,P v->Q r->Q (v::r)):(∀v,P v)/\(∀vs,Q vs):=
 ⟨V.rec an ab ai as at' ar ac nl cs,V.rec_1 an ab ai as at' ar ac nl cs⟩
section
variable{G:Gd}{A:Around}{E:bD}{s:Shared}{ρ aw:List Addr}{σ af:H}{h:Heap}
theorem Rel.reads(r:Rel G ρ h x v):v.dO=true->∃as,Reads h x (toD v) as:=
 Rel.rec (motive_1:=λx v _=>v.dO=true->∃as,Reads h x (toD v) as) (motive_2:=λxs vs _=>V.ek vs=true->∃as,ReadsAll h xs (fj vs) as) (λ_=>⟨_,.none⟩) (λb hf=>ff hf) (λi t _=>⟨_,.int i t⟩) (λy t _=>⟨_,.str y t⟩)
  (λ⟨o,e,c,n,d⟩ _ _ ih hf=>(ih hf).elim λas q=>⟨as,.tuple e c d q⟩) (λ_ hf=>ff hf) (λhf=>ff hf) (λ_=>⟨_,.nil⟩) (λ_ _ i1 i2 hf=>(i1 (jx hf).1).elim λ_ q=>(i2 (jx hf).2).elim λ_ q'=>⟨_,.cons q q'⟩) r
theorem bH.reads(r:bH G ρ h xs vs):V.ek vs=true->∃as,ReadsAll h xs (fj vs) as:=
 bH.rec (motive_1:=λx v _=>v.dO=true->∃as,Reads h x (toD v) as) (motive_2:=λxs vs _=>V.ek vs=true->∃as,ReadsAll h xs (fj vs) as) (λ_=>⟨_,.none⟩) (λb hf=>ff hf) (λi t _=>⟨_,.int i t⟩) (λy t _=>⟨_,.str y t⟩)
  (λ⟨o,e,c,n,d⟩ _ _ ih hf=>(ih hf).elim λas q=>⟨as,.tuple e c d q⟩) (λ_ hf=>ff hf) (λhf=>ff hf) (λ_=>⟨_,.nil⟩) (λ_ _ i1 i2 hf=>(i1 (jx hf).1).elim λ_ q=>(i2 (jx hf).2).elim λ_ q'=>⟨_,.cons q q'⟩) r
theorem BC:(∀v:V,v.dO=true->(toD v).canLay0=true)/\(∀vs:List V,V.ek vs=true->PyData.canLayAll0 (fj vs)=true):=
 V.both (λ_=>rfl) (λ_ h=>ff h) (λ_ _=>rfl) (λ_ h=>h) (λ_ ih h=>ih h) (λ_ h=>ff h) (λh=>ff h) (λ_=>rfl) (λ_ _ i1 i2 h=>Bool.and_eq_true_iff.mpr ⟨i1 (jx h).1,i2 (jx h).2⟩)
theorem tE:∀v:V,v.dO=true->(toD v).canLay0=true:=BC.1
theorem pC:∀vs:List V,V.ek vs=true->PyData.canLayAll0 (fj vs)=true:=BC.2
theorem wQ:∀vs:List V,PyData.depthAll (fj vs)=V.gh vs:=
 (V.both (P:=λv=>(toD v).depth=v.deep) (Q:=λvs=>PyData.depthAll (fj vs)=V.gh vs) rfl (λ_=>rfl) (λ_=>rfl) (λ_=>rfl) (λ_ ih=>congrArg (·+1) ih) (λ_=>rfl) rfl rfl (λ_ _ i1 i2=>(congrArg (max · _) i1).trans (congrArg (max _ ·) i2))).2
theorem BD:(∀a b:V,a.dO=true->b.dO=true->PyData.eqv (toD a) (toD b)=gQ a b)/\(∀a b:List V,V.ek a=true->V.ek b=true->PyData.eqvAll (fj a) (fj b)=kB a b):=
 V.both (λb _ h=>by cases b<;>first|rfl|exact ff h) (λ_ _ h=>ff h) (λ_ b _ h=>by cases b<;>first|rfl|exact ff h) (λ_ b _ h=>by cases b<;>first|rfl|exact ff h)
  (λ_ ih b h h'=>by cases b<;>first|rfl|exact ih _ h h'|exact ff h') (λ_ _ h=>ff h) (λ_ h=>ff h) (λb _ _=>by cases b<;>rfl)
  (λ_ _ i1 i2 b h h'=>by cases b with|nil=>rfl|cons b t=>exact(congrArg (·&&_) (i1 b (jx h).1 (jx h').1)).trans (congrArg (_&&·) (i2 t (jx h).2 (jx h').2)))
theorem Ng:∀a b:V,a.dO=true->b.dO=true->PyData.eqv (toD a) (toD b)=gQ a b:=BD.1
theorem Cd:∀a b:List V,V.ek a=true->V.ek b=true->PyData.eqvAll (fj a) (fj b)=kB a b:=BD.2
theorem v8(h:gi x y=true):V.ek x=true/\V.ek y=true/\V.gh x<=50/\V.gh y<=50:=by
 unfold gi at h;simp only[Bool.and_eq_true,decide_eq_true_eq] at h;exact⟨h.1.1.1,h.1.1.2,h.1.2,h.2⟩
theorem sX(h1:V.ek vs=true)(h2:V.gh vs<=50):SeqAt.shaped (.tuple (fj vs))=true:=by
 unfold SeqAt.shaped;simp only[PyData.canLay0,PyData.depth,pC vs h1,wQ,Bool.true_and,decide_eq_true_eq];exact lN 0x784184c049049205c8780c [_] rfl h2
theorem sV(h1:V.ek vs=true)(h2:V.gh vs<=50):SeqAt.shaped (.list (fj vs))=true:=by
 unfold SeqAt.shaped;simp only[PyData.canLay0,PyData.depth,pC vs h1,wQ,Bool.true_and,decide_eq_true_eq];exact lN 0x784184c049049205c8780c [_] rfl h2
theorem CZ(hu:A.units+64<cLine)(S:aG G ρ σ s.heap)(rx:Rel G ρ s.heap x u)(ry:Rel G ρ s.heap y v){r:Bool}{ay:H}(e:iw u v σ=.ok r ay)(h:o4 G (.ok (r ^^ neg) ay) ρ s Q):wpAny (model G.prog G.w) A (compareOp (if neg then .NotEq else .Eq) x y) Q E s:=by
 cases u with
|str _=>cases v with
  |str _=>
   refine fv e λaL cR=>?_;subst aL;subst cR;(refine p9 rx λ_ aL=>?_;subst aL);(refine p9 ry λ_ aL=>?_;subst aL);cases neg
   ·exact PyProof.Rows.eq_str (h.cD S (by simp[eZ]))
   ·exact PyProof.Rows.ne_str (h.cD S (by simp[eZ,bne]))
  |_=>exact cT e
|int _=>cases v with
  |int _=>
   refine fv e λaL cR=>?_;subst aL;subst cR;(refine rO rx λ_ aL=>?_;subst aL);(refine rO ry λ_ aL=>?_;subst aL);cases neg
   ·exact P.eq_int (h.cD S (by simp[eZ]))
   ·exact P.ne_int (h.cD S (by simp[eZ,bne]))
  |_=>exact cT e
|ax a=>cases v with
  |ax b=>
   replace e:(if gi a b then M.pure (kB a b) else M.fail) σ=.ok r ay:=e
   by_cases hc:gi a b=true
   ·(replace e:=(if_pos hc)▸e);(refine fv e λaL cR=>?_;subst aL;subst cR);refine jd (v8 hc) λf1 f2 d1 d2=>?_;obtain⟨as,q1⟩:=rx.reads (by simpa[V.dO] using f1);obtain⟨bs,q2⟩:=ry.reads (by simpa[V.dO] using f2);have hv:PyData.eqv (toD (.ax a)) (toD (.ax b))=kB a b:=by simp[toD,PyData.eqv,Cd a b f1 f2]
    cases neg
    ·exact eq_dataH q1 q2 (by simpa[toD] using sX f1 d1) (by simpa[toD] using sX f2 d2) hu (h.cD S (by simp[eZ,hv]))
    ·exact ne_dataH q1 q2 (by simpa[toD] using sX f1 d1) (by simpa[toD] using sX f2 d2) hu (h.cD S (by simp[eZ,hv]))
   ·(replace e:=(if_neg hc)▸e);exact cT e
  |_=>exact cT e
|ref _=>cases v with
  |ref _=>
   refine bo (eu e) λvs af gR e3=>?_;clear e;refine ca (eE gR) λi' q bc e1=>?_;subst bc;refine iT q λaL=>?_;subst aL;refine bo (eu e3) λws af F4 e=>?_;clear e3 gR;refine ca (eE F4) λj' q bc e2=>?_;subst bc;refine iT q λaL=>?_;subst aL;clear F4
   by_cases hc:gi vs ws=true
   ·(replace e:=(if_pos hc)▸e);(refine fv e λaL cR=>?_;subst aL;subst cR);refine bB λXx aI=>?_;refine jd (v8 hc) λf1 f2 d1 d2=>?_;obtain⟨a,xs,rfl,_,⟨o,ho,hcl,n,hd⟩,r1⟩:=S.list e1 rx;obtain⟨b,ys,rfl,_,⟨o',ho',EX,n',hd'⟩,r2⟩:=S.list e2 ry;obtain⟨as,q1⟩:=r1.reads f1;obtain⟨bs,q2⟩:=r2.reads f2;refine aI ?_;have hv:PyData.eqv (.list (fj vs)) (.list (fj ws))=kB vs ws:=by simp[PyData.eqv,Cd vs ws f1 f2]
    cases neg
    ·exact eq_dataH (.list ho hcl hd (by simpa using q1)) (.list ho' EX hd' (by simpa using q2)) (sV f1 d1) (sV f2 d2) hu (h.cD S (by simp[eZ,hv]))
    ·exact ne_dataH (.list ho hcl hd (by simpa using q1)) (.list ho' EX hd' (by simpa using q2)) (sV f1 d1) (sV f2 d2) hu (h.cD S (by simp[eZ,hv]))
   ·(replace e:=(if_neg hc)▸e);exact cT e
  |_=>exact cT e
|_=>exact cT e
theorem bH.strs(r:bH G ρ h xs vs)(e:strsOf vs=some ys):StrsAre xs ys:=by
 induction xs generalizing vs ys with
|nil=>cases r;(apply eR e);exact .nil
|cons x xs ih=>
  cases r with
  |cons hx r=>
   cases hx<;>simp only[strsOf] at e<;>try exact bS e
   rename_i y t
   refine aM (Option.map_eq_some_iff.mp e) λzs e1 bc=>?_;clear e;subst bc;exact .cons _ _ (ih r e1)
theorem Lj(hx:x.dO=true)(hv:V.ek vs=true):((fj vs).any λy=>PyData.eqv y (toD x))=vs.any λy=>gQ y x:=by
 induction vs with
|nil=>rfl
|cons v r ih=>
  have hv':=jx hv;simp[fj,Ng v x hv'.1 hx,ih hv'.2]
theorem H5(e:among u vs σ=.ok b ay):
  (∃k ys,u=.str k/\strsOf vs=some ys/\b=ys.any (·==k)/\ay=σ)∨(gi [u] vs=true/\b=(vs.any λy=>gQ y u)/\ay=σ):=by
 have fin:∀{m:M Bool},m=(if gi [u] vs then M.pure (vs.any λy=>gQ y u) else M.fail)->m σ=.ok b ay->gi [u] vs=true/\b=(vs.any λy=>gQ y u)/\ay=σ:=by
  intro m hm e;subst hm
  by_cases hc:gi [u] vs=true
  ·(replace e:=(if_pos hc)▸e);(apply eQ e);exact⟨hc,rfl,rfl⟩
  ·(replace e:=(if_neg hc)▸e);exact cT e
 cases hy:strsOf vs with
|none=>exact .inr (fin (by unfold among;(refine hy.symm▸?_);(clear fin e;cases u)<;>rfl) e)
|some ys=>
  cases u with
  |str k=>
   have:among (.str k) vs=M.pure (ys.any (·==k)):=by unfold among;(refine hy.symm▸?_;with_reducible rfl)
   (replace e:=this▸e);(apply eQ e);exact .inl ⟨k,ys,rfl,rfl,rfl,rfl⟩
  |none=>exact .inr (fin (by unfold among;(refine hy.symm▸?_;with_reducible rfl)) e)
  |bool x=>exact .inr (fin (by unfold among;(refine hy.symm▸?_;with_reducible rfl)) e)
  |int x=>exact .inr (fin (by unfold among;(refine hy.symm▸?_;with_reducible rfl)) e)
  |ax x=>exact .inr (fin (by unfold among;(refine hy.symm▸?_;with_reducible rfl)) e)
  |ref x=>exact .inr (fin (by unfold among;(refine hy.symm▸?_;with_reducible rfl)) e)
  |cy=>exact .inr (fin (by unfold among;(refine hy.symm▸?_;with_reducible rfl)) e)
theorem BE{neg isTup:Bool}{a:Addr}{x:Value}(hu:A.units+64<cLine)(S:aG G ρ σ s.heap)(rx:Rel G ρ s.heap x u)(hs:if isTup then IsTup s.heap a xs.toArray else s.heap.IsList a xs.toArray)(r:bH G ρ s.heap xs vs){Q:bD}{b:Bool}{ay:H}(e:among u vs σ=.ok b ay)(h:o4 G (.ok (b ^^ neg) ay) ρ s Q):wpAny (model G.prog G.w) A (compareOp (if neg then .NotIn else .In) x (.ref a)) Q E s:=by
 rcases H5 e with ⟨k,ys,rfl,hy,rfl,rfl⟩|⟨hc,rfl,rfl⟩
 ·(apply kC rx;intro _);have q:=r.strs hy;cases isTup<;>cases neg
  ·exact in_list_strs hs q (h.cD S (by simp[eZ]))
  ·exact notin_list_strs hs q (h.cD S (by simp[eZ]))
  ·exact in_tuple_strs hs (by simpa using q) (h.cD S (by simp[eZ]))
  ·exact notin_tuple_strs hs (by simpa using q) (h.cD S (by simp[eZ]))
 ··obtain⟨f1,f2,d1,d2⟩:=v8 hc;have qB:u.dO=true:=by simpa[V.ek] using f1
   refine b6 (rx.reads qB) λas q1=>?_;refine b6 (r.reads f2) λbs q2=>?_;have hv:=Lj qB f2;have hroom:A.units+1+min (PyData.depthAll (fj vs)) (toD u).depth<cLine:=by
    have:min (PyData.depthAll (fj vs)) (toD u).depth<=50:=by rw[wQ];lia
    exact lN 0xe06104d06130124124124814e0610401e1305c8780d [_,_,_] rfl hu this
   cases isTup<;>cases neg
   ·obtain⟨o,ho,hcl,n,hd⟩:=hs;exact SeqAt.in_list_reads (.list ho hcl hd (by simpa using q2)) q1 (pC _ f2) (tE _ qB) hroom (h.cD S (by simp[eZ,hv]))
   ·obtain⟨o,ho,hcl,n,hd⟩:=hs;exact SeqAt.notIn_list_reads (.list ho hcl hd (by simpa using q2)) q1 (pC _ f2) (tE _ qB) hroom (h.cD S (by simp[eZ,hv]))
   ·obtain⟨o,ho,hcl,n,hd⟩:=hs;exact SeqAt.in_tuple_reads (.tuple ho hcl hd (by simpa using q2)) q1 (pC _ f2) (tE _ qB) hroom (h.cD S (by simp[eZ,hv]))
   ·obtain⟨o,ho,hcl,n,hd⟩:=hs;exact SeqAt.notIn_tuple_reads (.tuple ho hcl hd (by simpa using q2)) q1 (pC _ f2) (tE _ qB) hroom (h.cD S (by simp[eZ,hv]))
end
end Qh
set_option tactic.hygienic false
namespace Qh
open PySem PyProof.Rows
def n8:List Str:=["len","int","str","sum","max","isinstance","list","tuple","dict","range","zip","bool"]
structure Nh(G:Gd)(N:Addr)(mN:Str->Option Value):Prop where
 cls:ClsAt G.hb (G.cA 0) N mN
 q1:mN "__setattr__"=none
 q2:mN "__getattribute__"=none
 q3:mN "__getattr__"=none
 q4:mN "many"=none
 meths:∀f fn,G.P.fns f=some fn->G.eS f=false->mN (G.fN f)=some (.ref (G.fA f))/\(∃o,G.hb.get? (G.fA f)=some o/\o.cls=.type "function")/\typeLookup (.type "object") (G.fN f)=pure none/\G.fN f≠"many"
 F5:∃fI oI fd self p1 p2 p3 p4 k,mN "__init__"=some (.ref fI)/\G.hb.get? fI=some oI/\oI.cls=.type "function"/\oI.data=.func fd/\G.hb.CodeRec fd.code fd.qualname/\
  fd.body=.stmts [.Assign [.Attribute (.Name self p1) "many" p2] (.Constant (.int 0) k p3) p4]/\(∀v,bindArgs fd ⟨[v],[]⟩=pure [(self,v)])/\fd.closure=[]/\fd.scope.names.lookup self=some .local/\
  fd.scope.isCoroutine=false/\fd.scope.isGenerator=false/\fd.scope.kind=.function/\(self==("__debug__":Str))=false
structure cG(G:Gd):Prop where
 nolimit:G.hb.NoLimit
 DT:∃mg mb,G.hb.Ns mainGlobals mg/\G.hb.Ns builtinsNs mb/\(∀f fn,G.P.fns f=some fn->G.eS f=true->mg (G.fN f)=some (.ref (G.fA f)))/\
  (∀g u,G.P.consts g=some u->∃v,mg (G.gN g)=some v/\∀R ρ h,(∀b o,G.hb.get? b=some o->h.get? b=some o)->(∀a∈R,G.hb.get? a=none)->Rel (G.re R) ρ h v u)/\(∀b∈n8,mg b=none/\mb b=bootBuiltins b)
 EY:∃o,G.hb.get? sysModules=some o
 script:∃xs:List Value,G.hb.IsList G.sA xs.toArray/\IntsAre xs G.script
 short:G.script.length<=aO
 tell:∃mg N mN,G.hb.Ns mainGlobals mg/\mg "Teller"=some (.ref (G.cA 0))/\Nh G N mN
section
variable{G:Gd}{A:Around}{E:bD}{s:Shared}{ρ aw:List Addr}{σ af:H}{h:Heap}
theorem Ce:∀{xs:List Value}{ns:List Int},IntsAre xs ns->∀{k:Nat}{n:Int},ns[k]?=some n->∃t,xs[k]?=some (.int n t)
|_,_,.nil,k,n,e=>by simp at e
|_,_,.cons m t r,k,n,e=>by
  cases k with
  |zero=>simp at e;subst e;exact⟨t,rfl⟩
  |succ k=>simp at e;simpa using Ce r e
theorem aG.C0(S:aG G ρ σ h)(K:cG G){a:Addr}(ha:a∈ρ):(a==sysModules)=false:=by
 refine beq_eq_false_iff_ne.mpr λq=>?_;subst q;obtain⟨o,e⟩:=K.EY;rw[S.new _ ha] at e;exact bS e
theorem BF{kvs:List (Str×Value)}{es:List (Str×V)}(h1:kvs.map (·.1)=es.map (·.1))(h2:bH G ρ h (kvs.map (·.2)) (es.map (·.2)))(k:Str):
  match de es k with|some u=>∃v,valueAt kvs k=some v/\Rel G ρ h v u|none=>valueAt kvs k=none:=by
 induction kvs generalizing es with
|nil=>
  clear h2;cases es with
  |nil=>rfl
  |cons e es=>cases h1
|cons kv kvs ih=>
  cases es with
  |nil=>cases h1
  |cons e es=>
   simp only[List.map_cons,List.cons.injEq] at h1 h2;cases h2 with
   |cons hr h2=>
    have:=ih h1.2 h2;unfold de valueAt at this ⊢;simp only[List.find?_cons]
    by_cases hk:e.1=k
    ·rw[h1.1];simp only[hk,decide_true,Option.map_some];exact⟨_,rfl,hr⟩
    ·rw[h1.1];simp only[hk,decide_false];exact this
theorem Ah{kvs:List (Str×Value)}{es:List (Str×V)}(h1:kvs.map (·.1)=es.map (·.1))(h2:bH G ρ h (kvs.map (·.2)) (es.map (·.2)))(k:Str):(valueAt kvs k).isSome=(de es k).isSome:=by
 have:=BF h1 h2 k;cases e:de es k with
|none=>rw[e] at this;simp only at this;rw[this];rfl
|some u=>rw[e] at this;obtain⟨v,q,_⟩:=this;rw[q];rfl
theorem xt{neg:Bool}{x y:Value}{u v:V}(K:cG G)(hu:A.units+64<cLine)(S:aG G ρ σ s.heap)(rx:Rel G ρ s.heap x u)(ry:Rel G ρ s.heap y v){Q:bD}{b:Bool}{ay:H}(e:iA u v σ=.ok b ay)(h:o4 G (.ok (b ^^ neg) ay) ρ s Q):wpAny (model G.prog G.w) A (compareOp (if neg then .NotIn else .In) x y) Q E s:=by
 cases v with
|ax vs=>
  cases ry with
  |ax ht r=>exact BE (isTup:=true) hu S rx ht r e h
|str z=>
  cases u with
  |str w=>
   have e:(if w.cps.size=1 then M.pure (decide (w.cps.getD 0 0∈z.cps.toList)) else M.fail:M Bool) σ=_:=e
   by_cases hc:w.cps.size=1
   ·rw[if_pos hc] at e;(refine fv e λaL cR=>?_;(clear e;subst aL);subst cR);(refine p9 rx λ_ aL=>?_;subst aL);(refine p9 ry λ_ aL=>?_;subst aL);have hw:w=⟨#[w.cps.getD 0 0]⟩:=by
     obtain⟨⟨l⟩⟩:=w
     match l,hc with
     |[c],_=>rfl
    have fo:=StrLaws.found_one z (w.cps.getD 0 0);rw[←hw] at fo;cases neg
    ·exact P.in_str (h.cD S (by rw[fo];simp[eZ]))
    ·refine P.notIn_str (h.cD S ?_);rw[fo];simp[eZ]
   ·rw[if_neg hc] at e;exact cT e
  |_=>exact cT e
|ref i=>
  refine bo (eu e) λo af e1 e2=>?_;refine aZ (oo e1) λcu e1=>?_;clear e xt;subst cu;cases o with
  |ah vs=>
   refine fF (S.list e1 ry) λa xs bc _ hl r=>?_;clear ry;subst bc;exact BE (isTup:=false) hu S rx hl r e2 h
  |aD es=>
   cases u with
   |str k=>
    refine fv e2 λaL cR=>?_;(clear e2;subst aL);subst cR;refine nf (S.dict e1 ry) λa kvs bc hi hd h1 h2=>?_;clear ry;subst bc;refine p9 rx λ_ aL=>?_;(clear rx;subst aL);have hsys:=S.C0 K (List.mem_of_getElem? hi);cases neg
    ·exact wpAny_in_of (strKind_is _ _ _ _) hsys hd.mapOf (h.here S (by rw[Ah h1 h2];simp[eZ]))
    ·exact wpAny_notIn_of (strKind_is _ _ _ _) hsys hd.mapOf (h.here S (by rw[Ah h1 h2];simp[eZ]))
   |_=>exact cT e2
  |inst c d=>exact cT e2
  |dq n=>exact cT e2
|_=>exact cT e
theorem wR{op:CmpOp}{x y:Value}{u v:V}(K:cG G)(hu:A.units+64<cLine)(S:aG G ρ σ s.heap)(rx:Rel G ρ s.heap x u)(ry:Rel G ρ s.heap y v){Q:bD}(h:o4 G (dH op u v σ) ρ s Q):wpAny (model G.prog G.w) A (compareOp op x y) Q E s:=by
 have hints:∀{f:Int->Int->Bool},o4 G ((M.bind (dz u) λx=>M.bind (dz v) λy=>M.pure (f x y)) σ) ρ s Q->∃i j t t',x=.int i t/\y=.int j t'/\Q (.bool (f i j)) s:=by
  intro f h;refine bo (aT.bind h) λi ay e1 h1=>?_;refine aZ (jz e1) λcu bh=>?_;clear e1;(clear h;subst cu);clear h wR;subst bh;refine bo (aT.bind h1) λj ay e2 h2=>?_;refine aZ (jz e2) λcu bh=>?_;clear e2;subst cu;subst bh;cases rx with
  |int i t=>cases ry with
   |int j t'=>exact⟨i,j,t,t',rfl,rfl,h2.cD S rfl⟩
 cases op with
|Eq=>
  exact aT.zc (r:=iw u v σ) h λr ay e h=>CZ (neg:=false) hu S rx ry e (by rw[Bool.xor_false];exact h)
|NotEq=>
  obtain⟨r,ay,e,h⟩:=aT.bind h;exact CZ hu S rx ry e (by rw[Bool.xor_true];exact h)
|In=>
  exact aT.zc (r:=iA u v σ) h λr ay e h=>xt (neg:=false) K hu S rx ry e (by rw[Bool.xor_false];exact h)
|NotIn=>
  obtain⟨r,ay,e,h⟩:=aT.bind h;exact xt K hu S rx ry e (by rw[Bool.xor_true];exact h)
|Lt=>obtain⟨i,j,t,t',rfl,rfl,q⟩:=hints h;exact P.lt_int q
|Gt=>obtain⟨i,j,t,t',rfl,rfl,q⟩:=hints h;exact P.gt_int q
|LtE=>obtain⟨i,j,t,t',rfl,rfl,q⟩:=hints h;exact P.le_int q
|GtE=>exact h.elim
|Is=>exact h.elim
|IsNot=>exact h.elim
theorem qN{slice:aq}(hs:∀l u p,slice≠.Slice l u none p)(o i:Value):subscripted slice false o i=operate [o,i] (getItem o i):=by
 cases slice with
|Slice l u st p=>cases st with
  |none=>exact absurd rfl (hs _ _ _)
  |some x=>rfl
|_=>rfl
theorem ua{α:Type}{xs:List α}{k:Int}{a:α}{ay:H}(e:fu xs k σ=.ok a ay):0<=k/\k<2^63/\xs[k.toNat]?=some a/\ay=σ:=by
 unfold fu at e
 by_cases hk:0<=k/\k<0x4000000000000000
 ·rw[if_pos hk] at e;cases hx:xs[k.toNat]? with
  |none=>rw[hx] at e;exact cT e
  |some b=>rw[hx] at e;(apply eQ e);exact⟨hk.1,by exact lI 0x7007007007007007007007007007a0184c04904920500700700700700700700700700700790184c [_] rfl hk.2,rfl,rfl⟩
 ·rw[if_neg hk] at e;exact cT e
theorem z9{k:Int}{n:Nat}(h0:0<=k)(hk:k.toNat<n):seqIndex? k n=some k.toNat:=by
 unfold seqIndex?;have:¬ k<0:=Int.not_lt.mpr (lI 0x320049049205320 [_] rfl h0);simp only[this,if_false];rw[if_pos (by simp;lia)]
theorem wU{C:Ctx}{value slice:aq}{x y:Value}{u v:V}(K:cG G)(hC:C.script=G.script)(S:aG G ρ σ s.heap)(rx:Rel G ρ s.heap x u)(ry:Rel G ρ s.heap y v)(hs:∀l u p,slice≠.Slice l u none p){Q:bD}(h:PV G (index C u v σ) ρ s Q):wpAny (model G.prog G.w) A (subscriptTail value slice x y) Q E s:=by
 cases u with
|ax vs=>
  cases v with
  |int k=>
   refine aT.zc h λa ay e h'=>?_
   ·have zz:=ua e;clear e;obtain⟨h0,h1,hx,rfl⟩:=zz;(apply eI ry;intro _);cases rx with
    |@ax t xs _ ht r=>
     refine aM (r.get hx) λz hz rz=>?_;have hlt:k.toNat<xs.length:=(List.getElem?_eq_some_iff.mp hz).1;exact tail_any ht.typeIs slot_tuple_getitem.lookup (getItem_tuple ht (by lia) h1 (z9 h0 (by simpa using hlt)) (by simpa using hz) (h'.cD S rz)) (qN hs _ _)
  |_=>exact h.elim
|str z=>
  cases v with
  |int k=>
   refine bo (aT.bind h) λc ay e h2=>?_;have zz:=ua e;clear e;obtain⟨h0,h1,hx,rfl⟩:=zz;(apply kC rx;intro _);(apply eI ry;intro _);have hlt:k.toNat<z.length:=by
    have:=(List.getElem?_eq_some_iff.mp hx).1
    simpa[Str.length] using this
   have hc:(seqIndex? k z.length).bind (z.cps[·]?)=some c:=by
    rw[z9 h0 hlt]
    simpa using hx
   exact tail_any (typeIs_str _ _ _) F.slot_str_getitem.lookup (P.getItem_str (by simp;lia) hc (h2.here S (.str _ _))) (qN hs _ _)
  |_=>exact h.elim
|cy=>
  cases v with
  |int k=>
   refine bo (aT.bind h) λn ay e h2=>?_;have zz:=ua e;clear e;obtain⟨h0,h1,hx,rfl⟩:=zz;(apply eI ry;intro _);(apply EV rx);obtain⟨xs,⟨o,ho,hc,m,hd⟩,hi⟩:=K.script;have hl:s.heap.IsList G.sA xs.toArray:=⟨o,S.base _ _ ho,hc,m,hd⟩;rw[hC] at hx;obtain⟨t,ht⟩:=Ce hi hx;exact tail_any hl.typeIs slot_list_getitem.lookup (wpAny_getItem_list hl h0 h1 (by simpa using ht) (h2.cD S (.int _ _))) (qN hs _ _)
  |_=>exact h.elim
|ref i=>
  cases v with
  |int k=>
   refine bo (aT.bind h) λvs ay e h2=>?_;refine ca (eE e) λj q bc e1=>?_;clear e;(clear h wU;subst bc);refine iT q λaL=>?_;subst aL;cases e2:fu vs k ay with
   |ok a bN=>
    refine jd (ua e2) λh0 h1 hx eM=>?_;subst eM;rw[e2] at h2;refine rO ry λ_ aL=>?_;(clear ry;subst aL);refine fF (S.list e1 rx) λa' xs bc _ hl r=>?_;clear rx;subst bc;refine aM (r.get hx) λz hz rz=>?_;exact tail_any hl.typeIs slot_list_getitem.lookup (wpAny_getItem_list hl h0 h1 (by simpa using hz) (h2.cD S rz)) (qN hs _ _)
   |aF c bN=>rw[e2] at h2;exact h2.elim
   |bad=>rw[e2] at h2;exact h2.elim
  |str k=>
   refine bo (aT.bind h) λo ay e h2=>?_;refine aZ (oo e) λcu e1=>?_;clear e;(clear h wU;subst cu);cases o with
   |aD es=>
    refine aM (aT.da h2) λw hw h3=>?_;refine nf (S.dict e1 rx) λa kvs bc hi hd h1 h2'=>?_;clear rx;subst bc;have:=BF h1 h2' k;rw[hw] at this;obtain⟨z,hz,rz⟩:=this;(apply kC ry;intro _);exact tail_any hd.typeIs slot_dict_getitem.lookup (wpAny_getItem_of (strKind_is _ _ _ _) hd.mapOf hz (h3.here S rz)) (qN hs _ _)
   |ah vs=>exact h2.elim
   |inst c d=>exact h2.elim
   |dq n=>exact h2.elim
  |_=>exact h.elim
|_=>(clear ry;cases v)<;>exact h.elim
end
end Qh
namespace Qh
open PySem PyProof.Rows
section
variable{G:Gd}{A:Around}{E:bD}{s:Shared}{ρ aw:List Addr}{σ af:H}{h:Heap}{prog:Program}{w:World}
def fB(a:Option Nat):Option Int:=a.map λn=>(n:Int)
theorem z6(hp:IsPart v a)(h:Q a s):wpAny (model prog w) A (Builtin.Slice.slicePartIndex v) Q E s:=by
 cases hp with
|none=>exact slicePart_none h
|int i t=>exact slicePart_int h
theorem Iq(a b:Option Nat)(n:Nat):Builtin.Slice.sliceAdjust (fB a) (fB b) 1 (n:Int)=(((min (a.getD 0) n:Nat):Int),((min (b.getD n) n:Nat):Int)):=by
 unfold Builtin.Slice.sliceAdjust;have h1:¬ ((1:Int)<0):=by exact Int.not_lt.mpr (lI 562041416 [] rfl)
 simp only[h1,if_false];cases a with
|none=>
  cases b with
  |none=>simp[fB]
  |some b=>
   have h2:¬ ((b:Int)<0):=by exact Int.not_lt.mpr (lI 0x320049049205320 [_] rfl (jr _))
   simp[fB,h2];lia
|some a=>
  have h3:¬ ((a:Int)<0):=by exact Int.not_lt.mpr (lI 0x320049049205320 [_] rfl (jr _))
  cases b with
  |none=>simp[fB,h3];lia
  |some b=>
   have h2:¬ ((b:Int)<0):=by exact Int.not_lt.mpr (lI 0x320049049205320 [_] rfl (jr _))
   simp[fB,h2,h3];lia
theorem Ir(a b:Nat):Builtin.Slice.slicePlaces (a:Int) (b:Int) 1=b-a:=by
 unfold Builtin.Slice.slicePlaces;have h1:(1:Int)>0:=by exact lI 2269378515528 [] rfl
 simp only[h1,if_true,Int.ediv_one]
 split<;>lia
theorem Hu{sl:Addr}{vl vu:Value}{a b:Option Nat}{n:Nat}(hs:s.heap.IsSliceOf sl vl vu .none)(pl:IsPart vl (fB a))(pu:IsPart vu (fB b))(h:Q (((min (a.getD 0) n:Nat):Int),1,min (b.getD n) n-min (a.getD 0) n) s):wpAny (model prog w) A (Builtin.Slice.sliceApplied (.ref sl) (pure (n:Int))) Q E s:=by
 refine ca (id hs) λos hos hcs hds=>?_;unfold Builtin.Slice.sliceApplied Builtin.Slice.sliceFields;refine wpAny_bind (wpAny_bind (wpAny_field hos hds (x:=vl) rfl (wpAny_bind (wpAny_field hos hds (x:=vu) rfl (wpAny_bind (wpAny_field hos hds (x:=.none) rfl (wpAny_pure ?_)))))));refine wpAny_bind (slicePart_none ?_);show wpAny _ _ (if((1:Int)==0)=true then _ else _) _ _ s;rw[if_neg (by decide)];refine wpAny_bind (z6 pl (wpAny_bind (z6 pu (wpAny_bind (wpAny_pure ?_)))));show wpAny _ _ (match Builtin.Slice.sliceAdjust (fB a) (fB b) 1 (n:Int) with|(lo,hi)=>pure (lo,(1:Int),Builtin.Slice.slicePlaces lo hi 1)) _ _ s;refine(Iq a b n).symm▸?_;show wpAny _ _ (pure (((min (a.getD 0) n:Nat):Int),(1:Int),Builtin.Slice.slicePlaces ((min (a.getD 0) n:Nat):Int) ((min (b.getD n) n:Nat):Int) 1)) _ _ s;rw[Ir];exact wpAny_pure h
theorem JZ(xs:List Value)(a n:Nat):((List.range n).filterMap λ(k:Nat)=>xs.toArray[((a:Int)+(k:Int)*1).toNat]?)=(xs.drop a).take n:=by
 have e:(λ(k:Nat)=>xs.toArray[((a:Int)+(k:Int)*1).toNat]?)=λk=>xs[a+k]?:=by
  funext k
  have:((a:Int)+(k:Int)*1).toNat=a+k:=by lia
  (refine this.symm▸?_);simp
 refine e.symm▸?_;have:=pick_run xs.toArray a n;replace this:=(List.filterMap_map)▸this;have e2:((λx=>xs.toArray[x]?) ∘ λx=>a+x)=λk=>xs[a+k]?:=by funext k;simp
 replace this:=e2▸this
 simpa using this
theorem Cf{α:Type}(xs:List α)(a b:Option Nat):(xs.drop (min (a.getD 0) xs.length)).take (min (b.getD xs.length) xs.length-min (a.getD 0) xs.length)=(xs.take (b.getD xs.length)).drop (a.getD 0):=by
 refine(List.drop_take).symm▸?_
 by_cases ha:a.getD 0<=xs.length
 ·refine(Nat.min_eq_left ha).symm▸?_
  by_cases hb:b.getD xs.length<=xs.length
  ·refine(Nat.min_eq_left hb).symm▸?_;with_reducible rfl
  ·rw[Nat.min_eq_right (by exact lN 0x34c04904920534184c [_,_] rfl (Nat.not_le.mp hb)),List.take_of_length_le (by simp),List.take_of_length_le (by simp;exact lN 0x4e08e34c20124024124804904904920534184c [_,_,_] rfl (Nat.not_le.mp hb))]
 ·have h1:xs.drop (a.getD 0)=[]:=List.drop_of_length_le (by exact lN 0x34c04904920534184c [_,_] rfl (Nat.not_le.mp ha));have h2:min (a.getD 0) xs.length=xs.length:=by lia
  (refine h1.symm▸?_;refine h2.symm▸?_);simp
theorem Ni(b a n:Nat):min b n-a=min b n-min a n:=
 (Nat.le_total a n).elim (λh=>(Nat.min_eq_left h).symm▸rfl) (λh=>(Nat.min_eq_right h).symm▸(Nat.sub_eq_zero_of_le (bR (Nat.min_le_right b n) h)).trans (Nat.sub_eq_zero_of_le (Nat.min_le_right b n)).symm)
theorem Hk{t sl:Addr}{xs:List Value}{vl vu:Value}(ht:IsTup s.heap t xs.toArray)(hs:s.heap.IsSliceOf sl vl vu .none)(pl:IsPart vl (fB a))(pu:IsPart vu (fB b))(h1:(xs.take (b.getD xs.length)).drop (a.getD 0)=xs->Q (.ref t) s)(h2:Q (.ref s.heap.objs.size) {s with heap:=s.heap.push {cls:=.type "tuple",data:=.seq ((xs.take (b.getD xs.length)).drop (a.getD 0)).toArray}})(hsz:xs.length<=sizeLine):wpAny (model prog w) A (getItem (.ref t) (.ref sl)) Q E s:=by
 have hok:sizeOk (.seq ((xs.take (b.getD xs.length)).drop (a.getD 0)).toArray):=by
  show((xs.take (b.getD xs.length)).drop (a.getD 0)).toArray.size<=sizeLine;refine(List.size_toArray).symm▸?_;refine(List.length_drop).symm▸?_;refine(List.length_take).symm▸?_;exact bR (Nat.sub_le _ _) (bR (Nat.min_le_right _ _) hsz)
 refine ca (id hs) λos hos hcs hds=>?_;unfold getItem
 try with_reducible refine wpAny_holding ?_
 first|refine wpAny_bind (wpAny_pure ?_)|skip
 refine wpAny_bind (wpAny_sequenceKey ht.typeIs (by decide) ?_)
 refine wpAny_bind (wpAny_callSpecial?_slot (name:=Str.ofString "__getitem__") ht.typeIs slot_tuple_getitem
  (wpAny_call_entry slot_tuple_getitem ht.typeIs entry_tuple_getitem ?_ (args_tuple_getitem _ _)))
 show wpAny _ _ (Builtin.Tuple.tupleItemsOf (.ref t) >>= _) _ _ s;refine wpAny_bind (tupleItemsOf_ ht ?_);refine wpAny_bind (wpAny_typeOf (⟨os,hos,hcs⟩) ?_);rw[if_pos (by decide)];have hsize:xs.toArray.size=xs.length:=by rfl
 refine hsize.symm▸?_;refine wpAny_bind (Hu hs pl pu ?_);have e:((List.range (min (b.getD xs.length) xs.length-min (a.getD 0) xs.length)).filterMap λ(k:Nat)=>xs.toArray[(((min (a.getD 0) xs.length:Nat):Int)+(k:Int)*1).toNat]?)=(xs.take (b.getD xs.length)).drop (a.getD 0):=by
  rw[JZ,Cf]
 have hlen:((xs.take (b.getD xs.length)).drop (a.getD 0)).length=min (b.getD xs.length) xs.length-min (a.getD 0) xs.length:=by
  (refine(List.length_drop).symm▸?_;refine(List.length_take).symm▸?_);exact Ni _ _ _
 show wpAny _ _ (if(((min (a.getD 0) xs.length:Nat):Int)==0&&(1:Int)==1&&(min (b.getD xs.length) xs.length-min (a.getD 0) xs.length)==xs.length)=true then _ else _) _ _ s
 by_cases hc:(((min (a.getD 0) xs.length:Nat):Int)==0&&(1:Int)==1&&(min (b.getD xs.length) xs.length-min (a.getD 0) xs.length)==xs.length)=true
 ·refine(if_pos hc).symm▸?_;simp only[Bool.and_eq_true,beq_iff_eq] at hc;have hall:(xs.take (b.getD xs.length)).drop (a.getD 0)=xs:=by
   have h3:=hc.2;have h4:min (a.getD 0) xs.length=0:=Int.ofNat.inj hc.1.1;rw[←Cf,h4,List.drop_zero,List.take_of_length_le (by exact lN 0xa034c20820124024124804904904920124124124804900904920630238d [_,_,_] rfl h3)]
  refine wpAny_bind (m:=Builtin.Tuple.tupleIsExact _) ?_;unfold Builtin.Tuple.tupleIsExact;refine wpAny_bind (wpAny_typeOf ht.typeIs (wpAny_pure ?_));rw[if_pos (by decide)];exact wpAny_bind (wpAny_rule (wpAny_pure ⟨_,rfl,wpAny_pure (h1 hall)⟩))
 ·refine(if_neg hc).symm▸?_;refine e.symm▸?_
  first
   |exact wpAny_bind (m:=Builtin.Tuple.tupleExact _) (wpAny_newObj_type (wpAny_pure ⟨_,rfl,wpAny_pure h2⟩) hok)
   |exact wpAny_bind (wpAny_bind (m:=Builtin.Tuple.tupleExact _) (wpAny_newObj_type (wpAny_pure ⟨_,rfl,wpAny_pure h2⟩) hok))
end
end Qh
set_option tactic.hygienic true
namespace Qh
open PySem PyProof.Rows
section
variable{G:Gd}{A:Around}{E:bD}{s:Shared}{ρ aw:List Addr}{σ af:H}{h:Heap}
theorem BG{α:Type}{xs:List α}{lo hi:V}{r:List α}(e:ku xs lo hi σ=.ok r ay):
  ∃a b:Option Nat,ay=σ/\r=(xs.take (b.getD xs.length)).drop (a.getD 0)/\(∀x,Rel G ρ h x lo->IsPart x (fB a))/\(∀x,Rel G ρ h x hi->IsPart x (fB b))/\(a=none->b≠none)/\(a≠none->b≠none->∃i j,lo=.int i/\hi=.int j):=by
 have pI:∀{i:Int},0<=i->∀x,Rel G ρ h x (.int i)->IsPart x (fB (some i.toNat)):=λ{i} hi x r=>rO r λt q=>q▸(Int.toNat_of_nonneg hi▸.int i t:IsPart (.int i t) (some (i.toNat:Int)));have pN:∀x,Rel G ρ h x .none->IsPart x (fB none):=λx r=>O2 r λq=>q▸.none;cases lo with
|none=>cases hi with
  |int hh=>
   by_cases hc:0<=hh/\hh<0x4000000000000000
   ·replace e:=((if_pos hc:(if 0<=hh/\hh<0x4000000000000000 then M.pure (xs.take hh.toNat) else M.fail)=_)▸e:M.pure (xs.take hh.toNat) σ=.ok r ay);(apply eQ e);exact⟨none,some hh.toNat,rfl,rfl,pN,pI hc.1,λ_ q=>d8 q,λq=>absurd rfl q⟩
   ·replace e:=((if_neg hc:(if 0<=hh/\hh<0x4000000000000000 then M.pure (xs.take hh.toNat) else M.fail)=_)▸e:M.fail σ=.ok r ay);exact cT e
  |_=>exact cT e
|int l=>cases hi with
  |none=>
   by_cases hc:0<=l/\l<0x4000000000000000
   ·replace e:=((if_pos hc:(if 0<=l/\l<0x4000000000000000 then M.pure (xs.drop l.toNat) else M.fail)=_)▸e:M.pure (xs.drop l.toNat) σ=.ok r ay);(apply eQ e);refine⟨some l.toNat,none,rfl,by simp,pI hc.1,pN,by simp,by simp⟩
   ·replace e:=((if_neg hc:(if 0<=l/\l<0x4000000000000000 then M.pure (xs.drop l.toNat) else M.fail)=_)▸e:M.fail σ=.ok r ay);exact cT e
  |int hh=>
   by_cases hc:0<=l/\l<0x4000000000000000/\0<=hh/\hh<0x4000000000000000
   ·replace e:=((if_pos hc:(if 0<=l/\l<0x4000000000000000/\0<=hh/\hh<0x4000000000000000 then M.pure ((xs.take hh.toNat).drop l.toNat) else M.fail)=_)▸e:M.pure ((xs.take hh.toNat).drop l.toNat) σ=.ok r ay);(apply eQ e);exact⟨some l.toNat,some hh.toNat,rfl,rfl,pI hc.1,pI hc.2.2.1,by simp,λ_ _=>⟨_,_,rfl,rfl⟩⟩
   ·replace e:=((if_neg hc:(if 0<=l/\l<0x4000000000000000/\0<=hh/\hh<0x4000000000000000 then M.pure ((xs.take hh.toNat).drop l.toNat) else M.fail)=_)▸e:M.fail σ=.ok r ay);exact cT e
  |_=>exact cT e
|_=>exact cT e
theorem HP(xs:List Value)(a b:Option Nat)(hab:a=none∨b=none)(hne:a=none->b≠none):slicePick xs.toArray (fB a) (fB b) none=((xs.take (b.getD xs.length)).drop (a.getD 0)).toArray:=by
 cases a with
|none=>
  clear hab;cases b with
  |none=>exact absurd rfl (hne rfl)
  |some b=>have:=slicePick_upto' xs.toArray b;simpa[fB] using this
|some a=>
  clear hne;cases b with
  |none=>have:=slicePick_from' xs.toArray a;simpa[fB] using this
  |some b=>rcases hab with q|q<;>exact d8 q
theorem wV{value:aq}{lower upper:Option aq}{p:Pos}{x vl vu:Value}{sl:Addr}(S:aG G ρ σ s.heap)(rx:Rel G ρ s.heap x u)(rl:Rel G ρ s.heap vl l)(ru:Rel G ρ s.heap vu hh)(hs:s.heap.IsSliceOf sl vl vu .none){Q:bD}(h:PV G (slice u l hh σ) ρ s Q):wpAny (model G.prog G.w) A (subscriptTail value (.Slice lower upper none p) x (.ref sl)) Q E s:=by
 cases u with
|ax vs=>
  obtain⟨r,ay,e,h2⟩:=aT.bind h;refine uE (BG (G:=G) (ρ:=ρ) (h:=s.heap) e) λa b bc eM p1 p2 _ _=>?_;clear e;(clear h wV;subst bc);subst eM;obtain⟨hle,h3⟩:=aT.ite h2;cases rx with
  |@ax t xs _ ht r nt=>
   have hlen:=r.length;refine tail_any ht.typeIs slot_tuple_getitem.lookup (Hk ht hs (p1 _ rl) (p2 _ ru) (λe=>?_) ?_ (by(refine hlen.symm▸?_);exact iX hle)) rfl
   ·refine h3.cD S (.ax ht ?_ nt);have:=(r.take (b.getD vs.length)).drop (a.getD 0);rw[←hlen] at this ⊢;(replace this:=e▸this);exact this
   ·have:=(r.take (b.getD vs.length)).drop (a.getD 0);rw[←hlen] at this h3;exact h3.xq S this
|ref i=>
  refine bo (aT.bind h) λvs ay e h2=>?_;refine ca (eE e) λi' q bc e1=>?_;clear e;(clear wV;(clear h;subst bc));refine iT q λaL=>?_;subst aL;refine bB λXx aI=>?_;refine bo (aT.bind h2) λr bN e2 h3=>?_;refine uE (BG (G:=G) (ρ:=ρ) (h:=s.heap) e2) λa b bc eM p1 p2 h0 hb=>?_;clear e2;subst bc;subst eM;obtain⟨⟨hnb,hle⟩,h4⟩:=aT.ite h3;refine fF (S.list e1 rx) λad xs bc _ hl r=>?_;clear rx;subst bc;refine aI ?_;have hlen:=r.length;have hab:a=none∨b=none:=by
   clear h4 h3 h0 p1;cases a with
   |none=>exact .inl rfl
   |some a=>clear p2;cases b with
    |none=>exact .inr rfl
    |some b=>
     refine bo (hb (by simp) (by simp)) λi j bc eM=>?_;clear h2 rl;subst bc;clear ru;subst eM;exact ff hnb
  refine tail_any hl.typeIs slot_list_getitem.lookup (wpAny_getItem_list_slice hl hs (p1 _ rl) (p2 _ ru) .none (by simp) ?_ (by(refine(List.size_toArray).symm▸?_;refine hlen.symm▸?_);exact iX hle)) rfl;refine(HP xs a b hab h0).symm▸?_;have:=(r.take (b.getD vs.length)).drop (a.getD 0);rw[←hlen] at this h4;exact h4.xr S this
|_=>exact h.elim
theorem fits63(h:n<=aO):(n:Int)<2^63:=by
 have:aO=1000000:=rfl;exact lI 0x1c01c01c01c01c01c01c01c01c01e806130124024124124814d306007247d078cd [_,_] rfl (Int.ofNat_le.mpr h) (congrArg Int.ofNat this)
theorem Nj(K:cG G)(hC:C.script=G.script)(S:aG G ρ σ s.heap)(rx:Rel G ρ s.heap x u)(h:PV G (lenOf C u σ) ρ s Q):
  wpAny (model G.prog G.w) A (call (.builtin "len") [x]) Q E s:=by
 cases u with
|ax vs=>
  obtain⟨hle,h2⟩:=aT.ite h;cases rx with
  |@ax t xs _ ht r=>
   have hlen:=r.length;have hsz:xs.toArray.size=vs.length:=by assumption
   refine len_tuple ht (by(refine hsz.symm▸?_);exact fits63 hle) ?_;refine hsz.symm▸?_;exact h2.here S (.int _ _)
|str z=>
  refine aZ (aT.ite h) λhle h2=>?_;(apply kC rx;intro _);have:=fits63 hle;exact P.len_str (Int.not_le.mpr (lI 0x7007007007007007007007007007a0184c049049205007007007007007007007007007007a0184c [_] rfl this)) (h2.here S (.int _ _))
|cy=>
  (apply EV rx);obtain⟨xs,⟨o,ho,hc,m,hd⟩,hi⟩:=K.script;have hl:s.heap.IsList G.sA xs.toArray:=⟨o,S.base _ _ ho,hc,m,hd⟩;have hsz:xs.toArray.size=C.script.length:=by(refine hC.symm▸?_);simp[hi.length]
  refine PyProof.Rows.len_list hl (by(refine hsz.symm▸?_;refine hC.symm▸?_);exact fits63 K.short) ?_;refine hsz.symm▸?_;exact aT.here h S (.int _ _)
|ref i=>
  refine bB λXx aI=>?_;obtain⟨vs,ay,e,h2⟩:=aT.bind h;have zz:=eE e;clear e;obtain⟨i',q,rfl,e1⟩:=zz;refine aI ?_;refine iT q λaL=>?_;(clear q;subst aL);obtain⟨hle,h3⟩:=aT.ite h2;refine fF (S.list e1 rx) λad xs bc _ hl r=>?_;clear rx;(clear aI;subst bc);have hsz:xs.toArray.size=vs.length:=by simp[(r.length)]
  refine PyProof.Rows.len_list hl (by(refine hsz.symm▸?_);exact fits63 hle) ?_;refine hsz.symm▸?_;exact h3.here S (.int _ _)
|_=>exact h.elim
theorem J0(S:aG G ρ σ s.heap)(rx:Rel G ρ s.heap x u)(h:PV G (t8 u σ) ρ s Q):wpAny (model G.prog G.w) A (call (.type "int") [x]) Q E s:=by
 refine bB λXx aI=>?_;refine bo (aT.bind h) λb ay e h2=>?_;refine aZ (qV e) λcu bh=>?_;clear e;(clear h;subst cu);subst bh;refine aI ?_;(apply oQ rx);exact call_int_bool (h2.here S (.int _ _))
theorem J1(S:aG G ρ σ s.heap)(rx:Rel G ρ s.heap x u)(h:PV G (rE u σ) ρ s Q):wpAny (model G.prog G.w) A (call (.type "str") [x]) Q E s:=by
 refine bB λXx aI=>?_;refine bo (aT.bind h) λi ay e h2=>?_;refine aZ (jz e) λcu bh=>?_;clear e;(clear h;subst cu);subst bh;obtain⟨hc,h3⟩:=aT.ite h2;refine aI ?_;(apply eI rx;intro _);refine P.str_of_int ?_ (h3.here S (.str _ _))
 by_cases h0:i.natAbs=0
 ·(refine h0.symm▸?_);decide
 ·refine(Nat.log2_lt h0).mpr (Nat.lt_of_lt_of_le (m:=2^34) (by lia) (Nat.pow_le_pow_right (by decide) (by decide)))
theorem bH.ints(r:bH G ρ h xs vs)(e:intsOf vs=some ns):∃ps:List (Int×Tok),xs=ps.map (λp=>Value.int p.1 p.2)/\ps.map (·.1)=ns:=by
 induction xs generalizing vs ns with
|nil=>cases r;(apply eR e);exact⟨[],rfl,rfl⟩
|cons x xs ih=>
  cases r with
  |cons hx r=>
   cases hx<;>simp only[intsOf] at e<;>try exact bS e
   rename_i y t
   refine aM (Option.map_eq_some_iff.mp e) λzs e1 bc=>?_;clear e;subst bc;refine aM (ih r e1) λps bh q=>?_;clear e1;(clear r ih;subst bh);exact⟨(y,t)::ps,rfl,by simp[q]⟩
theorem It(ps:List (Int×Tok)):∀k,k<=ps.length->preSum (numAt ps.toArray) k=((ps.map (·.1)).take k).sum:=by
 intro k
 induction k with
|zero=>intro _;rfl
|succ k ih=>
  intro hk;rw[preSum,ih (lN 0x34c04904920534184c [_,_] rfl hk)];have:(ps.map (·.1)).take (k+1)=(ps.map (·.1)).take k++[ps[k].1]:=by
   (refine(List.take_add_one).symm▸?_);simp[List.getElem?_eq_getElem (show k<ps.length by exact lN 0x34184c04904920534184c [_,_] rfl hk)]
  rw[this,List.sum_append];simp[numAt,List.getElem?_eq_getElem (show k<ps.length by exact lN 0x34184c04904920534184c [_,_] rfl hk)]
theorem Nk(hh:A.handled=none)(S:aG G ρ σ s.heap)(rx:Rel G ρ s.heap x u)(h:PV G (nx u σ) ρ s Q):wpAny (model G.prog G.w) A (call (.builtin "sum") [x]) Q E s:=by
 refine bB λXx aI=>?_;refine bo (aT.bind h) λvs ay e h2=>?_;refine ca (eE e) λi bh bc e1=>?_;clear e;(clear h;subst bh);subst bc;refine bo (aT.bind h2) λns bN e2 h3=>?_;obtain⟨ns',he,h4⟩:∃ns',intsOf vs=some ns'/\PV G (.ok (.int ns'.sum) ay) ρ s Q:=by
  cases hi:intsOf vs with
  |none=>(replace e2:=hi▸e2);exact cT e2
  |some k=>(replace e2:=hi▸e2);(refine fv e2 λaL cR=>?_;subst aL;subst cR);exact⟨_,rfl,h3⟩
 refine fF (S.list e1 rx) λad xs bc _ hl r=>?_;clear rx;subst bc;refine aM (r.ints he) λps bh bc=>?_;clear r;subst bh;clear he;subst bc;refine aI ?_;refine sum_intListG (xs:=ps.toArray) hh (by simpa[intItems] using hl) λh' tk t' hk=>?_;have:=It ps ps.length (aR _);rw[show ps.toArray.size=ps.length by rfl,this];refine h4.grown S hk ?_;rw[(List.take_of_length_le (by simp))];exact .int _ _
theorem Lk(hh:A.handled=none)(S:aG G ρ σ s.heap)(rx:Rel G ρ s.heap x u)(ry:Rel G ρ s.heap y v)(h:PV G (uF u v σ) ρ s Q):
  wpAny (model G.prog G.w) A (call (.builtin "max") [x,y]) Q E s:=by
 refine bB λXx aI=>?_;refine bo (aT.bind h) λi ay e h2=>?_;refine aZ (jz e) λcu bh=>?_;clear e;(clear h;subst cu);subst bh;refine bo (aT.bind h2) λj bN e2 h3=>?_;refine aZ (jz e2) λcu bh=>?_;clear e2;subst cu;subst bh;refine aI ?_;(apply eI rx;intro _);(apply eI ry;intro _);refine max_two_ints hh λh' tk hk=>?_
 split
 ·rename_i hc;exact aT.grown (by simpa[hc,M.pure] using h3) S hk (Rel.int _ _)
 ·rename_i hc;exact aT.grown (by simpa[hc,M.pure] using h3) S hk (Rel.int _ _)
theorem A3(S:aG G ρ σ s.heap)(rx:Rel G ρ s.heap x u)(h:o4 G (cS t u σ) ρ s Q):wpAny (model G.prog G.w) A (call (.builtin "isinstance") [x,.type t]) Q E s:=by
 have yy:t∈fO->t="int"∨t="bool"∨t="str"∨t="tuple"∨t="list":=λq=>by simpa[fO] using q
 cases u with
|int i=>
  refine aZ (aT.ite h) λhc h2=>?_;(apply eI rx;intro _);rcases yy hc with rfl|rfl|rfl|rfl|rfl
  ·exact IsiPair.int_int (h2.cD S rfl)
  ·exact IsiPair.int_bool (h2.here S rfl)
  ·exact IsiPair.int_str (h2.here S rfl)
  ·exact IsiPair.int_tuple (h2.here S rfl)
  ·exact IsiPair.int_list (h2.here S rfl)
|bool b=>
  refine aZ (aT.ite h) λhc h2=>?_;(apply oQ rx);rcases hc with rfl|rfl
  ·exact IsiPair.bool_int (h2.cD S rfl)
  ·exact IsiPair.bool_bool (h2.cD S rfl)
|str b=>
  refine aZ (aT.ite h) λhc h2=>?_;(apply kC rx;intro _);rcases yy hc with rfl|rfl|rfl|rfl|rfl
  ·exact IsiPair.str_int (h2.here S rfl)
  ·exact IsiPair.str_bool (h2.here S rfl)
  ·exact IsiPair.str_str (h2.cD S rfl)
  ·exact IsiPair.str_tuple (h2.here S rfl)
  ·exact IsiPair.str_list (h2.here S rfl)
|ax vs=>
  refine aZ (aT.ite h) λhc h2=>?_;cases rx with
  |ax ht r=>
   refine ca (ht) λo ho hcl _=>?_;rcases yy hc with rfl|rfl|rfl|rfl|rfl
   ·exact IsiPair.tuple_int ho hcl (h2.here S rfl)
   ·exact IsiPair.tuple_bool ho hcl (h2.here S rfl)
   ·exact IsiPair.tuple_str ho hcl (h2.here S rfl)
   ·exact IsiPair.tuple_tuple ho hcl (h2.cD S rfl)
   ·exact IsiPair.tuple_list ho hcl (h2.here S rfl)
|ref i=>
  refine bo (aT.bind h) λvs ay e h2=>?_;refine ca (eE e) λi' q bc e1=>?_;clear e;(clear h A3;subst bc);refine iT q λaL=>?_;subst aL;refine bB λXx aI=>?_;obtain⟨hc,h3⟩:=aT.ite h2;subst hc;have zz:=S.list e1 rx;clear rx;obtain⟨ad,xs,rfl,_,⟨o,ho,hcl,_⟩,r⟩:=zz;refine aI ?_;exact IsiPair.list_list ho hcl (h3.cD S rfl)
|_=>exact h.elim
theorem Ll(S:aG G ρ σ s.heap)(rx:Rel G ρ s.heap x u)(h:PV G (p8 u σ) ρ s Q):wpAny (model G.prog G.w) A (call (.type "list") [x]) Q E s:=by
 cases u with
|ax vs=>
  refine aZ (aT.ite h) λhle h2=>?_;cases rx with
  |@ax t xs _ ht r=>
   obtain⟨o,ho,hcl,n,hd⟩:=ht;refine call_list_seq t (.inr rfl) ho hcl hd (λh' c' hk hg=>?_) (by(refine(List.size_toArray).symm▸?_;refine(r.length).symm▸?_);exact iX hle);exact h2.newList S hk (aR _) ⟨_,hg⟩ r
|_=>exact h.elim
theorem J2(S:aG G ρ σ s.heap)(rx:Rel G ρ s.heap x u)(h:PV G (jF u σ) ρ s Q):wpAny (model G.prog G.w) A (call (.type "tuple") [x]) Q E s:=by
 refine bB λXx aI=>?_;refine bo (aT.bind h) λvs ay e h2=>?_;refine ca (eE e) λi bh bc e1=>?_;clear e;(clear h;subst bh);subst bc;obtain⟨hle,h3⟩:=aT.ite h2;refine fF (S.list e1 rx) λad xs bc _ hl r=>?_;clear rx;subst bc;refine aI ?_;refine call_tuple_list hl (λh' hk=>?_) (by(refine(List.size_toArray).symm▸?_;refine(r.length).symm▸?_);exact iX hle);refine h3.grown S (λc o e=>gV _ _ (hk c o e)) (.ax ⟨_,Heap.get?_push_size _ rfl,rfl,_,rfl⟩ (r.mono (λb ys ⟨o,e,c⟩=>⟨o,gV _ _ (hk _ _ e),c⟩) λ_ _ e=>e) (λq=>by obtain⟨_,o,e,_⟩:=S.iO _ q;exact absurd (Heap.lt_size (hk _ _ e)) (Nat.lt_irrefl _)))
theorem aT.newDict(h:PV G (dc (.aD es) σ) ρ s Q)(S:aG G ρ σ s.heap)(hk:∀c o,s.heap.get? c=some o->h'.get? c=some o)(ha:s.heap.objs.size<=a)(hl:h'.DictOf (strKind G.prog G.w) a kvs)(h1:kvs.map (·.1)=es.map (·.1))(r:bH G ρ s.heap (kvs.map (·.2)) (es.map (·.2))):Q (.ref a) {s with heap:=h',toks:=tk}:=by
 refine k8 (S.alloc hk (Heap.get?_none_of_le ha) (o:=.aD es) ⟨kvs,hl,h1,r.mono (λb ys ⟨o,e,c⟩=>⟨o,hk _ _ e,c⟩) λi b e=>by rw[List.getElem?_append_left (List.getElem?_eq_some_iff.mp e).1];exact e⟩) λS' st hi=>?_;exact h (.ref a) h' tk _ st S' (.ref hi)
theorem Lm(K:cG G)(S:aG G ρ σ s.heap)(rx:Rel G ρ s.heap x u)(h:PV G (ng u σ) ρ s Q):wpAny (model G.prog G.w) A (call (.type "dict") [x]) Q E s:=by
 cases u with
|ref i=>
  refine bo (aT.bind h) λo ay e h2=>?_;have zz:=oo e;clear e;obtain⟨rfl,e1⟩:=zz;cases o with
  |aD es=>
   refine aZ (aT.ite h2) λhle h3=>?_;refine nf (S.dict e1 rx) λa kvs bc hi hd h1 hr=>?_;clear rx;subst bc;have hlen:kvs.length=es.length:=by have:=congrArg List.length h1;simpa using this
   refine kt_call_dict (S.C0 K (List.mem_of_getElem? hi)) hd (by(refine hlen.symm▸?_);exact iX hle) λh' hd' hs'=>?_;exact h3.newDict S (λc o e=>hs'.extBut c o (Nat.ne_of_lt (Heap.lt_size e)) (gV _ _ e)) (aR _) hd' h1 hr
  |ah vs=>exact h2.elim
  |inst c d=>exact h2.elim
  |dq n=>exact h2.elim
|_=>exact h.elim
theorem Ln(S:aG G ρ σ s.heap)(rx:Rel G ρ s.heap x u)(ry:Rel G ρ s.heap y v)(h:PV G (joinM u v σ) ρ s Q):
  wpAny (model G.prog G.w) A (call (.builtin "str.join") [x,y]) Q E s:=by
 refine bB λXx aI=>?_;refine bo (aT.bind h) λsep ay e h2=>?_;refine aZ (BB e) λcu bh=>?_;clear e;(clear h;subst cu);subst bh;refine bo (aT.bind h2) λvs bN e2 h3=>?_;refine ca (eE e2) λi bh bc e1=>?_;clear e2;subst bh;subst bc;refine bo (aT.bind h3) λss en e3 h4=>?_;refine aI ?_;obtain⟨hs,rfl⟩:strsOf vs=some ss/\en=bN:=by
  cases hi:strsOf vs with
  |none=>(replace e3:=hi▸e3);exact cT e3
  |some k=>(replace e3:=hi▸e3);(apply eQ e3);exact⟨rfl,rfl⟩
 obtain⟨hc,h5⟩:=aT.ite h4;refine fF (S.list e1 ry) λad xs bc _ hl r=>?_;clear ry;subst bc;(apply kC rx;intro _);refine join_list hl (by simpa using r.strs hs) ?_ λt' k=>?_
 ·refine(hc.1).symm▸?_;have:aO=1000000:=rfl;have h6:(ss.map (·.length)).sum<=aO:=hc.2;exact lN 0x1c01c01c01e104480d3012412402412481801c91f41e338538c [_,_,_] rfl this h6
 ·have:Txt.join sep ss=Str.join sep ss:=StrLaws.glued_eq_join sep ss;refine this.symm▸?_;exact h5.here S (.str _ _)
end
end Qh
set_option tactic.hygienic false
namespace Qh
open PySem PyProof.Rows
section
variable{G:Gd}{A:Around}{E:bD}{s:Shared}{ρ aw:List Addr}{σ af:H}{h:Heap}{prog:Program}{w:World}
theorem HV{id:String}{b:Builtin}{args:List Value}(hk:builtinKind id=none)(hp:plainId id=true)(hb:entryFor table id=some b)(ha:argsOk id ⟨args,kw⟩)(hc:wpAny (model prog w) A.in1 (b ⟨args,kw⟩) (λfin s'=>match fin with
   |.done f=>(match (Except.ok f:Result) with|.ok (.ret v)=>Q v s'|.ok _=>False|.error e=>E e s')
   |.again c'=>c'.quiet=true/\codeAny (model prog w) A c' (λr s'=>match r with|.ok (.ret v)=>Q v s'|.ok _=>False|.error e=>E e s') s') E s):
  wpAny (model prog w) A (call (.builtin id) args kw) Q E s:=by
 refine wpAny_call (codeAny_call_builtin hp hb ?_);simp only[checkBuiltinCall,hk];cases Qt:Manifest.signature? id with
|none=>exact wpAny_pure hc
|some sig=>
  simp only[argsOk,Qt] at ha;show wpAny _ A.in1 (Bind.checkArgs id sig ⟨args,kw⟩) _ _ s
  (refine((ha)).symm▸?_);exact wpAny_pure hc
def better(b v:Int):Int:=if v>b then v else b
theorem I4{R:Result->Shared->Prop}{I l S:Addr}{ps:List (Int×Tok)}(hh:A.handled=none)(F6:l≠I)(o5:S≠I)(vr:S≠l):
  ∀(k j:Nat)(s:Shared)(b:Int)(t:Tok)(c:Nat),ps.length-j=k->j<=ps.length->s.heap.IsListIter I l j->s.heap.IsList l (intItems ps.toArray)->
  s.heap.get? S=some {cls:=.type "list",dict:=none,data:=.seq #[.int b t,.int b t] c,slots:=#[]}->
  (∀t' h' tk,(∀a o,a≠I->a≠S->s.heap.get? a=some o->h'.get? a=some o)->R (.ok (.ret (.int (((ps.drop j).map (·.1)).foldl better b) t'))) {s with heap:=h',toks:=tk})->
  codeAny (model prog w) A (.builtin "max.loop" ⟨[.ref I,.none,.ref S],[(Str.ofString "default",d)]⟩) R s:=by
 have hname:(toString "max"++toString ".loop":String)="max.loop":=by decide
 intro k
 induction k with
|zero=>
  intro j s b t c hk hj hit hl hS hR;have hin:ps.length<=j:=lN 0x34c20124024124804900900904920680234c [_,_] rfl hk;refine codeAny_builtin PySem.F.entry_max_loop ?_;refine(Around.under_plainId PySem.F.plain_max_loop _).symm▸?_;show wpAny _ A.in1 (seqItems? (.ref S) >>= _) _ _ s;refine wpAny_bind (wpAny_seqItems hS rfl ?_);show wpAny _ A.in1 (tryCatch (pyNext (.ref I)) _ >>= _) _ _ s;refine wpAny_bind (wpAny_tryCatch (wpAny_pyNext_list_end (hh) hit hl (by simp[intItems];exact lN 0x34c04904920534c [_,_] rfl hin) λh' hk'=>?_));have hS':=hk' S _ o5 hS;show wpAny _ A.in1 (updateSeq S (λ_=>#[]) >>= _) _ _ _;refine wpAny_bind ?_;refine wpAny_updateSeq hS' rfl (wpAny_bind (wpAny_letGo (wpAny_pure ?_)));have:=hR t (h'.update S (Obj.mapSeq λ_=>#[])) s.toks λa o h1 h2 e=>(Heap.get?_update_other _ _ (Ne.symm h2)).trans (hk' a o h1 e);replace this:=(List.drop_of_length_le hin)▸this;exact this
|succ k ih=>
  intro j s b t c hk hj hit hl hS hR;have hlt:j<ps.length:=lN 0x34184c20124124800904920606138230d [_,_,_] rfl hk;obtain⟨v,gH,hv⟩:∃v gH,ps[j]=(v,gH):=⟨_,_,rfl⟩;have hx:(intItems ps.toArray)[j]?=some (.int v gH):=by simp[intItems,hlt,hv]
  refine codeAny_builtin PySem.F.entry_max_loop ?_;refine(Around.under_plainId PySem.F.plain_max_loop _).symm▸?_;show wpAny _ A.in1 (seqItems? (.ref S) >>= _) _ _ s;refine wpAny_bind (wpAny_seqItems hS rfl ?_);show wpAny _ A.in1 (tryCatch (pyNext (.ref I)) _ >>= _) _ _ s;refine wpAny_bind (wpAny_tryCatch (wpAny_pyNext_list_item hit hl hx λh' uZ hk'=>?_));have hS':=(hk'.2 S o5).trans hS;show wpAny _ A.in1 (tryCatch (holding [Value.int v gH,Value.int v gH] (richCompare .Gt (.int v gH) (.int b t) >>= _)) _ >>= _) _ _ _;refine wpAny_bind (wpAny_tryCatch (wpAny_holding (wpAny_bind ?_)));have rP:(ps.drop j).map (·.1)=v::(ps.drop (j+1)).map (·.1):=by
   (refine(List.drop_eq_getElem_cons hlt).symm▸?_;refine hv.symm▸?_);rfl
  refine CmpOf.ints_gt (λi=>if i=0 then v else b) (P:=λi y=>(i=0/\y=.int v gH)∨(i=1/\y=.int b t)) (λi y hy=>?_) 0 1 _ _ _ _ _ (.inl ⟨rfl,rfl⟩) (.inr ⟨rfl,rfl⟩) ?_
  ·rcases hy with ⟨rfl,rfl⟩|⟨rfl,rfl⟩
   ·exact⟨_,rfl⟩
   ·exact⟨_,rfl⟩
  refine wpAny_bind (wpAny_holding (wpAny_truthy_bool ?_));refine wpAny_bind (wpAny_letGo (wpAny_pure ?_))
  by_cases hb:v>b
  ·have hd:decide ((if(0:Nat)=0 then v else b)>(if(1:Nat)=0 then v else b))=true:=by simp[hb]
   refine wpAny_ite_true (by simpa using hd) ?_;refine wpAny_bind ?_;refine wpAny_updateSeq hS' rfl (wpAny_bind (wpAny_letGo ?_));refine hname.symm▸?_;refine wpAny_pure ⟨plainId_quiet PySem.F.plain_max_loop _,ih (j+1) _ v gH _ (cK (lN 0x38206134c20820124024024124804920024124024024124804920606138234c [_,_,_] rfl hk) (lN 0x8184e34c20820124024124804904904920124124124804900904920606130238d [_,_,_] rfl hk)) hlt (uZ.extBut (Heap.SameBut.update ..).extBut (Ne.symm o5)) ((hl.extBut hk'.extBut F6).extBut (Heap.SameBut.update ..).extBut (Ne.symm vr)) (Heap.get?_update_self _ hS' rfl) λt' h'' tk r5=>?_⟩;have:=hR t' h'' tk λa o h1 h2 e=>r5 a o h1 h2 ((Heap.get?_update_other _ _ (Ne.symm h2)).trans ((hk'.2 a h1).trans e));rw[rP,List.foldl_cons,show better b v=v by simp[better,hb]] at this;exact this
  ·have hd:decide ((if(0:Nat)=0 then v else b)>(if(1:Nat)=0 then v else b))=false:=by simp;exact lI 0x34c04904920534c [_,_] rfl (Int.not_lt.mp hb)
   refine wpAny_ite_false (by simpa using hd) ?_;refine wpAny_bind (wpAny_letGo ?_);refine hname.symm▸?_;refine wpAny_pure ⟨plainId_quiet PySem.F.plain_max_loop _,ih (j+1) _ b t c (cK (lN 0x38206134c20820124024024124804920024124024024124804920606138234c [_,_,_] rfl hk) (lN 0x8184e34c20820124024124804904904920124124124804900904920606130238d [_,_,_] rfl hk)) hlt uZ (hl.extBut hk'.extBut F6) hS' λt' h'' tk r5=>?_⟩;have:=hR t' h'' tk λa o h1 h2 e=>r5 a o h1 h2 ((hk'.2 a h1).trans e);rw[rP,List.foldl_cons,show better b v=b by simp[better,hb]] at this;exact this
theorem Hv(a d:Value):argsOk "max" ⟨[a],[(Str.ofString "default",d)]⟩:=by unfold argsOk;kernel_rfl
theorem Hw{l:Addr}{ps:List (Int×Tok)}{d:Value}(hh:A.handled=none)(hl:s.heap.IsList l (intItems ps.toArray))(h:∀v h' tk,(∀a o,s.heap.get? a=some o->h'.get? a=some o)->(match ps.map (·.1) with|[]=>v=d|x::r=>∃t,v=.int (r.foldl better x) t)->Q v {s with heap:=h',toks:=tk}):
  wpAny (model prog w) A (call (.builtin "max") [.ref l] [(Str.ofString "default",d)]) Q E s:=by
 have hname:(toString "max"++toString ".loop":String)="max.loop":=by decide
 have hlt:l<s.heap.objs.size:=let ⟨_,e,_⟩:=hl;Heap.lt_size e
 refine HV PySem.F.kind_max PySem.F.plain_max PySem.F.entry_max (Hv _ _) ?_;show wpAny _ A.in1 (Builtin.Builtins.bindParams "max" ["key","default"] 0 ⟨[],[(Str.ofString "default",d)]⟩ >>= _) _ _ s;refine wpAny_bind (wpAny_of_eq (show Builtin.Builtins.bindParams "max" ["key","default"] 0 ⟨[],[(Str.ofString "default",d)]⟩=pure [none,some d] from by rfl') ?_);refine wpAny_bind (wpAny_pure ?_);refine wpAny_bind (wpAny_pyIter_list hl ?_);refine wpAny_bind (wpAny_newObj_type ?_);refine hname.symm▸?_;generalize zd:s.heap.push {cls:=.type "list_iterator",data:=.fields #[.ref l,.int 0 0]}=H1;have hD:H1.objs.size=s.heap.objs.size+1:=by rw[←zd,Heap.size_push]
 have old:∀a o,s.heap.get? a=some o->(H1.push {cls:=.type "list",data:=.seq ([]:List Value).toArray}).get? a=some o:=λa o e=>gV _ _ (zd▸gV _ _ e);have hit:(H1.push {cls:=.type "list",data:=.seq ([]:List Value).toArray}).IsListIter s.heap.objs.size l 0:=⟨_,gV _ _ (zd▸Heap.get?_push_size _ rfl),rfl,rfl⟩;have hl':(H1.push {cls:=.type "list",data:=.seq ([]:List Value).toArray}).IsList l (intItems ps.toArray):=let ⟨o,e,r⟩:=hl;⟨o,old _ _ e,r⟩
 have hS:(H1.push {cls:=.type "list",data:=.seq ([]:List Value).toArray}).get? H1.objs.size=some {cls:=.type "list",data:=.seq ([]:List Value).toArray}:=Heap.get?_push_size _ rfl;refine wpAny_pure ⟨plainId_quiet PySem.F.plain_max_loop _,?_⟩;refine codeAny_builtin PySem.F.entry_max_loop ?_;refine(Around.under_plainId PySem.F.plain_max_loop _).symm▸?_;show wpAny _ A.in1 (seqItems? (.ref H1.objs.size) >>= _) _ _ _;refine wpAny_bind (wpAny_seqItems hS rfl ?_);show wpAny _ A.in1 (tryCatch (pyNext (.ref s.heap.objs.size)) _ >>= _) _ _ _;have o5:H1.objs.size≠s.heap.objs.size:=by(refine hD.symm▸?_);exact Nat.succ_ne_self _
 have F7:l≠s.heap.objs.size:=Nat.ne_of_lt hlt;have vr:H1.objs.size≠l:=by(refine hD.symm▸?_);exact Nat.ne_of_gt (Nat.lt_succ_of_lt hlt)
 clear hl;cases ps with
|nil=>
  refine wpAny_bind (wpAny_tryCatch (wpAny_pyNext_list_end (hh) hit hl' (by rfl') λh' hk'=>?_));show wpAny _ A.in1 (rule _ >>= _) _ _ _;refine wpAny_bind (wpAny_rule (wpAny_pure ?_));exact h d h' s.toks (λa o e=>hk' a o (Nat.ne_of_lt (Heap.lt_size e)) (old a o e)) rfl
|cons p ps=>
  obtain⟨v,gH⟩:=p;refine wpAny_bind (wpAny_tryCatch (wpAny_pyNext_list_item hit hl' (x:=.int v gH) (by simp[intItems]) λh' uZ hk'=>?_));have hS':=(hk'.2 _ o5).trans hS;show wpAny _ A.in1 (updateSeq H1.objs.size (λ_=>#[Value.int v gH,Value.int v gH]) >>= _) _ _ _;refine wpAny_bind ?_;refine wpAny_updateSeq hS' rfl ?_;refine hname.symm▸?_;refine wpAny_pure ⟨plainId_quiet PySem.F.plain_max_loop _,I4 hh F7 o5 vr _ 1 _ v gH _ rfl (by simp) (uZ.extBut (Heap.SameBut.update ..).extBut (Ne.symm o5)) ((hl'.extBut hk'.extBut F7).extBut (Heap.SameBut.update ..).extBut (Ne.symm vr)) (Heap.get?_update_self _ hS' rfl) λt' h'' tk r5=>?_⟩;refine h _ h'' tk (λa o e=>?_) ⟨t',rfl⟩;have h1:a≠s.heap.objs.size:=Nat.ne_of_lt (Heap.lt_size e);have h2:a≠H1.objs.size:=by(refine hD.symm▸?_);exact Nat.ne_of_lt (Nat.lt_succ_of_lt (Heap.lt_size e))
  exact r5 a o h1 h2 ((Heap.get?_update_other _ _ (Ne.symm h2)).trans ((hk'.2 a h1).trans (old a o e)))
theorem Lo{x d:Value}{u:V}(hh:A.handled=none)(S:aG G ρ σ s.heap)(rx:Rel G ρ s.heap x u)(rd:Rel G ρ s.heap d (.int 0))(h:PV G (oF u σ) ρ s Q):
  wpAny (model G.prog G.w) A (call (.builtin "max") [x] [(Str.ofString "default",d)]) Q E s:=by
 refine bo (aT.bind h) λvs ay e h2=>?_;refine ca (eE e) λi bh bc e1=>?_;clear e;(clear h;subst bh);subst bc;refine bo (aT.bind h2) λns bN e2 h3=>?_;obtain⟨ns',he,h4⟩:∃ns',intsOf vs=some ns'/\PV G (.ok (.int (qq ns')) ay) ρ s Q:=by
  cases hi:intsOf vs with
  |none=>(replace e2:=hi▸e2);exact cT e2
  |some k=>(replace e2:=hi▸e2);(refine fv e2 λaL cR=>?_;subst aL;subst cR);exact⟨_,rfl,h3⟩
 refine fF (S.list e1 rx) λad xs bc _ hl r=>?_;clear rx;subst bc;refine aM (r.ints he) λps bh bc=>?_;clear r;subst bh;clear he;subst bc;refine Hw hh (by simpa[intItems] using hl) λv h' tk hk hv=>?_;refine h4.grown S hk ?_;cases hp:ps.map (·.1) with
|nil=>(replace hv:=hp▸hv);subst hv;(apply eI rd;intro _);exact .int _ _
|cons a b=>(replace hv:=hp▸hv);obtain⟨t,rfl⟩:=hv;exact .int _ _
end
end Qh
namespace Qh
open PySem PyProof.Rows
structure bj(G:Gd)(N:List Str)(env:Env)(ρ:List Addr)(h:Heap)(L:aQ):Prop where
 kind:env.scope.kind=.function
 glob:env.globals=mainGlobals
 blt:env.builtins=builtinsNs
 ns:∃m,h.Ns env.locals m/\∀i u x,cq L i=some u->N[i]?=some x->env.kindOf x=some .local->∃v,m x=some v/\Rel G ρ h v u
 cl:∀x,env.kindOf x=some .cell->∃c ov,env.cells.lookup x=some c/\h.IsCell c ov/\∀i u,cq L i=some u->N[i]?=some x->∃v,ov=some v/\Rel G ρ h v u
 has:∀i u,cq L i=some u->∃x,N[i]?=some x/\(env.kindOf x=some .local∨env.kindOf x=some .cell)
 apart:∀x y c,env.kindOf x=some .cell->env.kindOf y=some .cell->env.cells.lookup x=some c->env.cells.lookup y=some c->x=y
 nodup:N.Nodup
 jP:env.locals∉ρ
 jQ:∀x c,env.kindOf x=some .cell->env.cells.lookup x=some c->c∉ρ
 newL:G.hb.get? env.locals=none
 iP:∀x c,env.kindOf x=some .cell->env.cells.lookup x=some c->G.hb.get? c=none
section
variable{G:Gd}{A:Around}{E:bD}{s:Shared}{ρ aw:List Addr}{σ af:H}{h h':Heap}{N:List Str}{env:Env}{L:aQ}
theorem bj.step(X:bj G N env ρ h L)(S:aG G ρ σ h)(st:Step ρ h aw h'):bj G N env aw h' L:=by
 refine aM (X.ns) λm hn hm=>?_;have hnot:∀a o,h.get? a=some o->a∉ρ->a∉aw:=λa o e hn q=>by
  rcases st.fresh a q with q|q
  ·exact hn q
  ·(replace q:=e▸q);exact d8 q
 refine⟨X.kind,X.glob,X.blt,⟨m,hn.at λo e=>st.keep _ _ e X.jP,λi u x e1 e2 e3=>?_⟩,λx hx=>?_,X.has,X.apart,X.nodup,?_,λx c hx hc=>?_,X.newL,X.iP⟩
 ·refine aM (hm i u x e1 e2 e3) λv q r=>?_;exact⟨v,q,r.step st S⟩
 ·obtain⟨c,ov,hc,⟨o,ho,hd⟩,hv⟩:=X.cl x hx;refine⟨c,ov,hc,⟨o,st.keep _ _ ho (X.jQ x c hx hc),hd⟩,λi u e1 e2=>?_⟩;refine aM (hv i u e1 e2) λv q r=>?_;exact⟨v,q,r.step st S⟩
 ·refine gg (hn) λo _ _ ho _=>?_;exact hnot _ _ ho X.jP
 ·obtain⟨c',ov,hc',⟨o,ho,hd⟩,hv⟩:=X.cl x hx;(replace hc':=hc▸hc');(refine dt hc' λaL=>?_;subst aL);exact hnot _ _ ho (X.jQ x c hx hc)
theorem Lp(X:bj G N env ρ s.heap L)(hx:N[i]?=some x)(hu:cq L i=some u)(h:∀v,Rel G ρ s.heap v u->Q v s):
  wpAny (model G.prog G.w) A (loadName env x) Q E s:=by
 refine aM (X.has i u hu) λx' hx' hk=>?_;(replace hx':=hx▸hx');(refine dt hx' λaL=>?_;subst aL);rcases hk with hk|hk
 ·refine aM (X.ns) λm hn hm=>?_;refine aM (hm i u x hu hx hk) λv q r=>?_;exact wpAny_loadName_local X.kind hk hn q (h v r)
 ·refine bB λXx aI=>?_;refine cU (X.cl x hk) λc ov hc hcell hv=>?_;refine aM (hv i u hu hx) λv bh r=>?_;clear hv;subst bh;refine aI ?_;exact wpAny_loadName_cell X.kind hk hc hcell (h v r)
theorem aG.globals(S:aG G ρ σ h)(K:cG G):∃mg mb,h.Ns mainGlobals mg/\h.Ns builtinsNs mb/\(∀f fn,G.P.fns f=some fn->G.eS f=true->mg (G.fN f)=some (.ref (G.fA f)))/\
  (∀g u,G.P.consts g=some u->∃v,mg (G.gN g)=some v/\Rel G ρ h v u)/\(∀b∈n8,mg b=none/\mb b=bootBuiltins b):=by
 refine nf (K.DT) λmg mb h1 h2 h3 h4 h5=>?_;refine⟨mg,mb,h1.keeps S.base,h2.keeps S.base,h3,λg u e=>?_,h5⟩;refine aM (h4 g u e) λv q r=>?_;exact⟨v,q,r G.res ρ h S.base S.jO⟩
theorem xb(K:cG G)(S:aG G ρ σ s.heap)(X:bj G N env ρ s.heap L)(hk:env.kindOf x=some .globalImplicit)(hf:G.P.fns f=some fn)(hg:G.eS f=true)(hx:G.fN f=x)(h:Q (.ref (G.fA f)) s):wpAny (model G.prog G.w) A (loadName env x) Q E s:=by
 refine nf (S.globals K) λmg mb h1 h2 h3 h4 h5=>?_;refine(loadName_read X.kind hk).symm▸?_;refine Calls.loadGlobal_global (by rw[X.glob];exact h1) (by rw[←hx];exact h3 f fn hf hg) h
theorem load_const(K:cG G)(S:aG G ρ σ s.heap)(X:bj G N env ρ s.heap L)(hk:env.kindOf x=some .globalImplicit)(hg:G.P.consts g=some u)(hx:G.gN g=x)(h:∀v,Rel G ρ s.heap v u->Q v s):wpAny (model G.prog G.w) A (loadName env x) Q E s:=by
 refine nf (S.globals K) λmg mb h1 h2 h3 h4 h5=>?_;refine(loadName_read X.kind hk).symm▸?_;refine aM (h4 g u hg) λv q r=>?_;exact Calls.loadGlobal_global (by rw[X.glob];exact h1) (by rw[←hx];exact q) (h v r)
theorem mQ(K:cG G)(S:aG G ρ σ s.heap)(X:bj G N env ρ s.heap L)(hk:env.kindOf x=some .globalImplicit)(hx:x∈n8)(hv:bootBuiltins x=some v)(h:Q v s):wpAny (model G.prog G.w) A (loadName env x) Q E s:=by
 refine nf (S.globals K) λmg mb h1 h2 h3 h4 h5=>?_;rw[loadName_read X.kind hk];exact Calls.loadGlobal_builtin (by rw[X.glob];exact h1) (h5 x hx).1 (by rw[X.blt];exact h2) (by rw[(h5 x hx).2,hv]) h
structure dy(env:Env)(ρ:List Addr)(h:Heap)(aw:List Addr)(h':Heap):Prop where
 pre:∃t,aw=ρ++t
 fresh:∀a∈aw,a∈ρ∨h.get? a=none
 keep:∀a o,h.get? a=some o->a∉ρ->a≠env.locals->(∀x,env.kindOf x=some .cell->env.cells.lookup x≠some a)->h'.get? a=some o
 kx:∀a,a∉ρ->h.get? a≠none->h'.get? a≠none
theorem Step.toS(st:Step ρ h aw h'):dy env ρ h aw h':=⟨st.pre,st.fresh,λa o e hn _ _=>st.keep a o e hn,λa hn e q=>by
 cases e':h.get? a with
|none=>exact e e'
|some o=>(replace q:=(st.keep a o e' hn)▸q);exact d8 q⟩
theorem dy.refl(env:Env)(ρ:List Addr)(h:Heap):dy env ρ h ρ h:=(Step.refl ρ h).toS
theorem dy.trans(x:dy env ρ h aJ aA)(y:dy env aJ aA dD aX):dy env ρ h dD aX:=by
 refine b6 (x.pre) λt bh=>?_;subst bh;obtain⟨t',rfl⟩:=y.pre;have DU:∀a,h.get? a≠none->a∉ρ->a∉ρ++t:=λa e hn q=>by
  rcases x.fresh a q with q|q
  ·exact hn q
  ·exact e q
 refine⟨⟨t++t',by simp⟩,λa ha=>?_,λa o e hn h1 h2=>?_,λa hn e=>?_⟩
 ·rcases y.fresh a ha with q|q
  ·exact x.fresh a q
  ·by_cases hr:a∈ρ
   ·exact .inl hr
   ·refine .inr ?_;cases e:h.get? a with
    |none=>rfl
    |some o=>exact absurd q (x.kx a hr (by(refine e.symm▸?_);simp))
 ·exact y.keep a o (x.keep a o e hn h1 h2) (DU a (by(refine e.symm▸?_);simp) hn) h1 h2
 ·exact y.kx a (DU a e hn) (x.kx a hn e)
end
end Qh
namespace Qh
open PySem PyProof.Rows
section
variable{G:Gd}{A:Around}{E:bD}{s:Shared}{ρ aw:List Addr}{σ af:H}{h h':Heap}{N:List Str}{env:Env}{L:aQ}
def Own(h:Heap)(I:Addr):Prop:=∃o T,h.get? I=some o/\o.cls=.type T/\T≠"list"/\T≠"dict"/\T≠"tuple"/\∃fs,o.data=.fields fs
theorem Own.gw(S:aG G ρ σ h)(x:Own h I):I∉ρ:=by
 refine bB λXx aI=>?_;obtain⟨o,T,e,c,h1,h2,_,fs,hd⟩:=x;refine aI ?_;exact S.gw e c h1 h2 λes ep q=>by(replace q:=hd▸q);cases q
theorem Own.jc(x:Own h I):∀a xs,IsTup h a xs->a≠I:=by
 rintro a xs ⟨o',e',c',_⟩ rfl;refine uE (x) λo T e c _ _ h3 _=>?_;(replace e':=e▸e');(refine dt e' λaL=>?_;(clear e';subst aL));(replace c':=c▸c');cases c';exact h3 rfl
theorem nZ(x:Own h I)(hk:∀b o,b≠I->h.get? b=some o->h'.get? b=some o):∀a xs,IsTup h a xs->IsTup h' a xs:=λa xs t=>by
 refine aM (t) λo e c=>?_;exact⟨o,hk a o (x.jc a xs t) e,c⟩
theorem aG.other(S:aG G ρ σ h)(x:Own h I)(hb:G.hb.get? I=none)(hk:∀b o,b≠I->h.get? b=some o->h'.get? b=some o):aG G ρ σ h':=by
 have hn:=x.gw S;refine⟨λb o e=>hk b o (λq=>?_) (S.base b o e),S.len,S.nodup,S.new,λi a o e1 e2=>(S.rep i a o e1 e2).keeps (λob e=>hk a ob (λq=>hn (q▸List.mem_of_getElem? e1)) e) (nZ x hk) λ_ _ e=>e,λa ha=>let ⟨xs,t⟩:=S.iO a ha;⟨xs,nZ x hk _ _ t⟩,S.jO⟩;(clear hn hk x;subst q);(replace e:=hb▸e);exact bS e
theorem aG.il(S:aG G ρ σ h)(hn:I∉ρ)(hb:G.hb.get? I=none)(ht:∀a xs,IsTup h a xs->a≠I)(hk:∀b o,b≠I->h.get? b=some o->h'.get? b=some o):aG G ρ σ h':=by
 refine⟨λb o e=>hk b o (λq=>?_) (S.base b o e),S.len,S.nodup,S.new,λi a o e1 e2=>(S.rep i a o e1 e2).keeps (λob e=>hk a ob (λq=>hn (q▸List.mem_of_getElem? e1)) e) (λa xs t=>?_) λ_ _ e=>e,λa ha=>let ⟨xs,t⟩:=S.iO a ha;⟨xs,let ⟨o,e,c⟩:=t;⟨o,hk a o (ht a xs t) e,c⟩⟩,S.jO⟩
 ·(clear hk ht hn;subst q);(replace e:=hb▸e);exact bS e
 ·have hne:=ht a xs t;refine aM (t) λo e c=>?_;exact⟨o,hk a o hne e,c⟩
theorem aG.adopt(S:aG G ρ σ h)(hn:a∉ρ)(hb:G.hb.get? a=none)(hr:iN G (ρ++[a]) h a o):aG G (ρ++[a]) (σ++[o]) h/\(ρ++[a])[σ.length]?=some a:=by
 refine⟨⟨S.base,by simp[S.len],List.nodup_append.mpr ⟨S.nodup,by simp,λx hx y hy=>?_⟩,λb hb'=>?_,λi b ob e1 e2=>?_,S.iO,S.jO⟩,?_⟩
 ·simp at hy;(clear hr hb;subst hy);intro q;subst q;exact hn hx
 ·rcases List.mem_append.mp hb' with q|q
  ·exact S.new b q
  ·simp at q;(clear hb' hr hn;subst q);exact hb
 ·rcases Nat.lt_or_ge i ρ.length with hi|hi
  ·rw[List.getElem?_append_left hi] at e1;rw[List.getElem?_append_left (by(refine(S.len)▸?_);exact hi)] at e2;refine(S.rep i b ob e1 e2).keeps (λ_ e=>e) (λa xs t=>t) λj c e=>?_;rw[List.getElem?_append_left (List.getElem?_eq_some_iff.mp e).1];exact e
  ·have hi':i=ρ.length:=by
    have:=(List.getElem?_eq_some_iff.mp e1).1;simp at this;exact cK (lN 0x34c04904920506134184c [_,_] rfl this) (lN 0x34c04904920534c [_,_] rfl hi)
   clear hi;subst hi';simp at e1;(clear hb hn;subst e1);(replace e2:=(S.len)▸e2);simp at e2;subst e2;exact hr
 ·(refine(S.len)▸?_);simp
theorem Step.adopt(st:Step cL gm ρ h)(h0:gm.get? a=none):Step cL gm (ρ++[a]) h:=by
 refine b6 (st.pre) λt bh=>?_;clear adopt;subst bh;refine⟨⟨t++[a],by simp⟩,λb hb=>?_,st.keep⟩;rcases List.mem_append.mp hb with q|q
 ·exact st.fresh b q
 ·simp at q;(clear hb;subst q);exact .inr h0
theorem Step.other(st:Step cL gm ρ h)(h0:gm.get? I=none)(hk:∀b o,b≠I->h.get? b=some o->h'.get? b=some o):Step cL gm ρ h':=
 ⟨st.pre,st.fresh,λa o e hn=>hk a o (λq=>by(clear hn hk;subst q);(replace e:=h0▸e);exact bS e) (st.keep a o e hn)⟩
theorem bj.other(X:bj G N env ρ h L)(S:aG G ρ σ h)(x:Own h I)(hk:∀b o,b≠I->h.get? b=some o->h'.get? b=some o):bj G N env ρ h' L:=by
 refine aM (X.ns) λm hn hm=>?_;have tu:=nZ x hk;have hL:env.locals≠I:=by
  intro q;refine fG (hn) λo es ep ho hd _=>?_;obtain⟨o',T,e,_,_,_,_,fs,hf⟩:=x;(replace ho:=q▸ho);(replace e:=ho▸e);(refine dt e λaL=>?_;(clear e;subst aL));(replace hf:=hd▸hf);cases hf
 have hC:∀c ov,h.IsCell c ov->c≠I:=by
  rintro c ov ⟨o,ho,hd⟩ rfl;obtain⟨o',T,e,_,_,_,_,fs,hf⟩:=x;(replace e:=ho▸e);(refine dt e λaL=>?_;(clear e;subst aL));(replace hf:=hd▸hf);cases hf
 refine⟨X.kind,X.glob,X.blt,⟨m,hn.at λo e=>hk _ _ hL e,λi u y e1 e2 e3=>?_⟩,λy hy=>?_,X.has,X.apart,X.nodup,X.jP,X.jQ,X.newL,X.iP⟩
 ·refine aM (hm i u y e1 e2 e3) λv q r=>?_;exact⟨v,q,r.mono tu λ_ _ e=>e⟩
 ·refine cU (X.cl y hy) λc ov hc hcell hv=>?_;refine aM (hcell) λo ho hd=>?_;refine⟨c,ov,hc,⟨o,hk _ _ (hC c ov hcell) ho,hd⟩,λi u e1 e2=>?_⟩;refine aM (hv i u e1 e2) λv q r=>?_;exact⟨v,q,r.mono tu λ_ _ e=>e⟩
inductive d6(G:Gd)(ρ:List Addr)(h:Heap)(I:Addr):Src->Nat->Prop
|live {i:Nat}{a:Addr}{k:Nat}:ρ[i]?=some a->h.IsListIter I a k->d6 G ρ h I (.live i) k
|ax {t:Addr}{xs:List Value}{vs:List V}{k:Nat}:IsTup h t xs.toArray->bH G ρ h xs vs->IsTupIter h I t k->d6 G ρ h I (.fix vs) k
|range {n:Nat}{k:Nat}:k<=n->IsRangeIter h I (k:Int) ((n:Int)-(k:Int)) 1->d6 G ρ h I (.fix (dM n)) k
theorem d6.own(x:d6 G ρ h I sr k):Own h I:=by
 cases x with
|live _ q=>obtain⟨o,e,c,d⟩:=q;exact⟨o,_,e,c,by decide,by decide,by decide,_,d⟩
|ax _ _ q=>obtain⟨o,e,c,d⟩:=q;exact⟨o,_,e,c,by decide,by decide,by decide,_,d⟩
|range _ q=>exact⟨_,_,q,rfl,by decide,by decide,by decide,_,rfl⟩
theorem d6.mono(x:d6 G ρ h I sr k)(hI:∀o,h.get? I=some o->h'.get? I=some o)(hk:∀a xs,IsTup h a xs->IsTup h' a xs)(hp:∀(i:Nat)(a:Addr),ρ[i]?=some a->aw[i]?=some a):d6 G aw h' I sr k:=by
 cases x with
|live e q=>obtain⟨o,e',c⟩:=q;exact .live (hp _ _ e) ⟨o,hI _ e',c⟩
|ax t r q=>obtain⟨o,e',c⟩:=q;exact .ax (hk _ _ t) (r.mono hk hp) ⟨o,hI _ e',c⟩
|range l q=>exact .range l (hI _ q)
theorem d6.step(x:d6 G ρ h I sr k)(S:aG G ρ σ h)(st:Step ρ h aw h'):d6 G aw h' I sr k:=
 x.mono (λo e=>st.keep _ _ e (x.own.gw S)) (st.ax S) λ_ _ e=>st.get e
theorem Iu(n k:Nat):(dM (n:Int))[k]?=if k<n then some (.int k) else none:=by
 unfold dM
 by_cases hk:k<n
 ·simp[hk]
 ·simp[hk]
theorem rt(hh:A.handled=none)(S:aG G ρ σ s.heap)(it:d6 G ρ s.heap I sr k)(e:dN sr k σ=.ok r ay)(h:∀x h' tk,(∀b o,b≠I->s.heap.get? b=some o->h'.get? b=some o)->(match r with|none=>x=none|some u=>∃v,x=some v/\Rel G ρ h' v u/\d6 G ρ h' I sr (k+1))->Q x {s with heap:=h',toks:=tk}):
  ay=σ/\wpAny (model G.prog G.w) A (pyNext (.ref I)) Q E s:=by
 have ow:=it.own;cases it with
|@live i a k hi q=>
  refine bo (eu e) λvs af e1 e2=>?_;refine ca (eE e1) λj q' bc e1=>?_;(clear rt;(clear e;subst bc));refine iT q' λaL=>?_;subst aL;refine fv e2 λaL cR=>?_;subst aL;subst cR;refine aM (S.rep _ _ _ hi e1) λxs hpl rl=>?_;have hl:=hpl.isList;refine⟨rfl,?_⟩;cases hv:vs[k]? with
  |none=>
   have hx:xs.toArray[k]?=none:=by
    have h1:=List.getElem?_eq_none_iff.mp hv;have h2:=rl.length;simp;exact lN 0xd30124024124124814d38638c [_,_,_] rfl h1 h2
   refine wpAny_pyNext_list_end hh q hl hx λh' hk=>h none h' s.toks (λb o hb e=>hk b o hb e) ?_;refine hv.symm▸?_;with_reducible rfl
  |some u=>
   refine aM (rl.get hv) λx hx rx=>?_;refine wpAny_pyNext_list_item q hl (by simpa using hx) λh' q' hs=>h (some x) h' s.toks (λb o hb e=>(hs.2 b hb).trans e) ?_;refine hv.symm▸?_;exact⟨x,rfl,rx.mono (nZ ow λb o hb e=>(hs.2 b hb).trans e) λ_ _ e=>e,.live hi q'⟩
|@ax t xs vs k ht rl q=>
  refine fv e λaL cR=>?_;(clear e;subst aL);subst cR;refine⟨rfl,?_⟩;cases hv:vs[k]? with
  |none=>
   have hx:xs.toArray[k]?=none:=by
    have h1:=List.getElem?_eq_none_iff.mp hv;have h2:=rl.length;simp;exact lN 0xd30124024124124814d38638c [_,_,_] rfl h1 h2
   refine next_tuple_end hh q ht hx λh' hk=>h none h' s.toks (λb o hb e=>hk b o hb e) ?_;refine hv.symm▸?_;with_reducible rfl
  |some u=>
   refine aM (rl.get hv) λx hx rx=>?_;refine next_tuple_item q ht (by simpa using hx) λh' q' hs=>h (some x) h' s.toks (λb o hb e=>(hs.2 b hb).trans e) ?_;have tu:=nZ ow λb o hb e=>(hs.2 b hb).trans e;refine hv.symm▸?_;exact⟨x,rfl,rx.mono tu λ_ _ e=>e,.ax (tu _ _ ht) (rl.mono tu λ_ _ e=>e) q'⟩
|@range n k hkn q=>
  refine fv e λaL cR=>?_;(clear e;subst aL);subst cR;refine⟨rfl,?_⟩;rw[Iu] at h
  by_cases hk:k<n
  ·replace h:=(if_pos hk)▸h;refine wpAny_pyNext_range_item q (lI 0x8d30186004904920530184d [_,_] rfl (Int.ofNat_lt.mpr hk)) λh' q' hs=>h (some (.int k s.toks)) h' (s.toks+1) (λb o hb e=>(hs.2 b hb).trans e) ⟨_,rfl,.int _ _,.range hk ?_⟩;have e1:(k:Int)+1=((k+1:Nat):Int):=by lia
   have e2:(n:Int)-(k:Int)-1=(n:Int)-((k+1:Nat):Int):=Int.le_antisymm (lI 0x8e30284234c04904920638184d [_,_,_] rfl e1) (lI 0xa108e30234c04900904920634184e [_,_,_] rfl e1);(replace q':=e2▸(e1▸q'));exact q'
  ·replace h:=(if_neg hk)▸h;exact wpAny_pyNext_range_end hh q (lI 0x80234c04904920534c [_,_] rfl (Int.ofNat_le.mpr (Nat.not_lt.mp hk))) λh' hs=>h none h' s.toks (λb o hb e=>hs b o hb e) rfl
theorem Lq(it:d6 G ρ s.heap I sr k)(h:Q (.ref I) s):wpAny (model G.prog G.w) A (pyIter (.ref I)) Q E s:=by
 cases it with
|live _ q=>exact wpAny_pyIter_listiter q h
|ax ht _ q=>exact wpAny_pyIter_tupleiter q h
|range _ q=>exact wpAny_pyIter_rangeiter q h
theorem kg(S:aG G ρ σ s.heap)(rx:Rel G ρ s.heap x u)(e:srcOf u σ=.ok sr ay)(h:∀I h',s.heap.objs.size<=I->(∀b o,s.heap.get? b=some o->h'.get? b=some o)->d6 G ρ h' I sr 0->Q (.ref I) {s with heap:=h'}):ay=σ/\wpAny (model G.prog G.w) A (pyIter x) Q E s:=by
 cases u with
|ref i=>
  refine bo (eu e) λvs af e1 e2=>?_;refine ca (eE e1) λj q' bc e1=>?_;clear e kg;subst bc;refine iT q' λaL=>?_;subst aL;refine fv e2 λaL cR=>?_;subst aL;subst cR;refine fF (S.list e1 rx) λa xs bc hi hl r=>?_;clear rx;subst bc;refine⟨rfl,wpAny_pyIter_list hl (h _ _ (aR _) gV (.live hi ⟨_,Heap.get?_push_size _ rfl,rfl,rfl⟩))⟩
|ax vs=>
  refine fv e λaL cR=>?_;(clear e;subst aL);subst cR;cases rx with
  |ax ht r=>
   refine⟨rfl,iter_tuple ht (h _ _ (aR _) gV (.ax (ht.keeps gV) (r.mono (λb ys t=>t.keeps gV) λ_ _ e=>e) ⟨_,Heap.get?_push_size _ rfl,rfl,rfl⟩))⟩
|_=>exact cT e
end
end Qh
namespace Qh
open PySem PyProof.Rows
def Gd.ctx(G:Gd)(n:Nat):Ctx:=⟨G.script,G.P.consts,av G.P G.script n,G.P.eW,G.P.oE⟩
structure Ao(A:Around)(n:Nat):Prop where
 hh:A.handled=none
 room:A.depth+n+4<=recursionLimit
 units:A.units+3*n+200<=cLine
theorem Ao.F8(x:Ao A n):A.units+64<cLine:=by have:=x.units;exact lN 0x34184100784c0490492053412078c110e8cc [_,_,_] rfl this
section
variable(G:Gd)(n:Nat)(A:Around)(N:List Str)(env:Env)
def bg(x:E)(e:aq):Prop:=∀(s:Shared)(ρ:List Addr)(σ:H)(L:aQ)(Q:bD)(E:bD),bj G N env ρ s.heap L->aG G ρ σ s.heap->
 PV G (ak (G.ctx n) x L σ) ρ s Q->wpAny (model G.prog G.w) A (eval e env) Q E s
def hZ(x:E)(e:aq):Prop:=∀(s:Shared)(ρ:List Addr)(σ:H)(L:aQ)(Q:Bool->Shared->Prop)(E:bD),bj G N env ρ s.heap L->aG G ρ σ s.heap->
 PB G (bP (G.ctx n) x L σ) ρ s Q->wpAny (model G.prog G.w) A (isTrue e env (eval e env)) Q E s
def gp(es:EL)(l:List aq):Prop:=∀(pos:Pos)(s:Shared)(ρ:List Addr)(σ:H)(L:aQ)(Q:List Value->Shared->Prop)(E:bD),bj G N env ρ s.heap L->aG G ρ σ s.heap->
 PL G (cZ (G.ctx n) es L σ) ρ s Q->wpAny (model G.prog G.w) A (spliced (backTo pos (starEach l env))) Q E s
def qb(op:BoolOp)(es:EL)(l:List aq):Prop:=∀(pos:Pos)(s:Shared)(ρ:List Addr)(σ:H)(L:aQ)(Q:bD)(E:bD),bj G N env ρ s.heap L->aG G ρ σ s.heap->
 PV G ((match op with|.And=>nh (G.ctx n) es L|.Or=>r4 (G.ctx n) es L) σ) ρ s Q->wpAny (model G.prog G.w) A (boolOp pos op (evalEach l env)) Q E s
def qc(op:BoolOp)(es:EL)(l:List aq):Prop:=∀(s:Shared)(ρ:List Addr)(σ:H)(L:aQ)(Q:Bool->Shared->Prop)(E:bD),bj G N env ρ s.heap L->aG G ρ σ s.heap->
 PB G ((match op with|.And=>jI (G.ctx n) es L|.Or=>jJ (G.ctx n) es L) σ) ρ s Q->wpAny (model G.prog G.w) A (allTrue op l env) Q E s
def ki:Prop:=∀(A:Around),Ao A n->∀(f:Nat),G.P.eW (f+1)≠2->∀(vs:List V)(vals:List Value)(s:Shared)(ρ:List Addr)(σ:H)(Q:bD)(E:bD),aG G ρ σ s.heap->bH G ρ s.heap vals vs->
 PV G (av G.P G.script n f vs σ) ρ s Q->wpAny (model G.prog G.w) A (call (.ref (G.fA f)) vals) Q E s
end
def iK(G:Gd):Prop:=∀f fn,G.P.fns f=some fn->∃o fd,G.hb.get? (G.fA f)=some o/\o.data=.func fd
section
variable{G:Gd}{n:Nat}{A:Around}{N:List Str}{env:Env}
theorem bg.then{x:E}{e:aq}(hE:bg G n A N env x e){s:Shared}{ρ:List Addr}{σ:H}{L:aQ}{α β:Type}{R:List Addr->Heap->β->α->Prop}{f:V->M α}{Q:β->Shared->Prop}{Q':bD}{E:bD}(X:bj G N env ρ s.heap L)(S:aG G ρ σ s.heap)(h:aT G R (M.bind (ak (G.ctx n) x L) f σ) ρ s Q)(k:∀v aA tk aJ ay u,bj G N env aJ aA L->aG G aJ ay aA->Step ρ s.heap aJ aA->Rel G aJ aA v u->aT G R (f u ay) aJ {s with heap:=aA,toks:=tk} Q->Q' v {s with heap:=aA,toks:=tk}):
  wpAny (model G.prog G.w) A (eval e env) Q' E s:=by
 refine bo (aT.bind h) λu ay e1 h1=>?_;refine hE s ρ σ L Q' E X S ?_;refine e1.symm▸?_;exact λv aA tk aJ st aH r=>k v aA tk aJ ay u (X.step S st) aH st r (h1.step st)
theorem hZ.then{x:E}{e:aq}(hE:hZ G n A N env x e){s:Shared}{ρ:List Addr}{σ:H}{L:aQ}{α β:Type}{R:List Addr->Heap->β->α->Prop}{f:Bool->M α}{Q:β->Shared->Prop}{Q':Bool->Shared->Prop}{E:bD}(X:bj G N env ρ s.heap L)(S:aG G ρ σ s.heap)(h:aT G R (M.bind (bP (G.ctx n) x L) f σ) ρ s Q)(k:∀b aA tk aJ ay,bj G N env aJ aA L->aG G aJ ay aA->Step ρ s.heap aJ aA->aT G R (f b ay) aJ {s with heap:=aA,toks:=tk} Q->Q' b {s with heap:=aA,toks:=tk}):
  wpAny (model G.prog G.w) A (isTrue e env (eval e env)) Q' E s:=by
 refine bo (aT.bind h) λu ay e1 h1=>?_;refine hE s ρ σ L Q' E X S ?_;refine e1.symm▸?_;rintro v aA tk aJ st aH rfl;exact k v aA tk aJ ay (X.step S st) aH st (h1.step st)
theorem gp.then{x:EL}{l:List aq}(hE:gp G n A N env x l){pos:Pos}{s:Shared}{ρ:List Addr}{σ:H}{L:aQ}{α β:Type}{R:List Addr->Heap->β->α->Prop}{f:List V->M α}{Q:β->Shared->Prop}{Q':List Value->Shared->Prop}{E:bD}(X:bj G N env ρ s.heap L)(S:aG G ρ σ s.heap)(h:aT G R (M.bind (cZ (G.ctx n) x L) f σ) ρ s Q)(k:∀v aA tk aJ ay u,bj G N env aJ aA L->aG G aJ ay aA->Step ρ s.heap aJ aA->bH G aJ aA v u->aT G R (f u ay) aJ {s with heap:=aA,toks:=tk} Q->Q' v {s with heap:=aA,toks:=tk}):
  wpAny (model G.prog G.w) A (spliced (backTo pos (starEach l env))) Q' E s:=by
 refine bo (aT.bind h) λu ay e1 h1=>?_;refine hE pos s ρ σ L Q' E X S ?_;refine e1.symm▸?_;exact λv aA tk aJ st aH r=>k v aA tk aJ ay u (X.step S st) aH st r (h1.step st)
theorem Lr:bg G n A N env .none (.Constant .none k p):=λs ρ σ L Q E X S h=>wpAny_pure (h.cD S .none)
theorem Ls:bg G n A N env (.bool b) (.Constant (.bool b) k p):=λs ρ σ L Q E X S h=>wpAny_pure (h.cD S (.bool b))
theorem C1:bg G n A N env (.int i) (.Constant (.int i) k p):=λs ρ σ L Q E X S h=>wpAny_mkInt (h.here S (.int _ _))
theorem Nl:bg G n A N env (.str x) (.Constant (.str x) k p):=λs ρ σ L Q E X S h=>wpAny_mkText (h.here S (.str _ _))
theorem xu(hx:N[i]?=some x)(hd:(x==("__debug__":Str))=false):bg G n A N env (.aa i) (.Name x p):=λs ρ σ L Q E X S h=>by
 refine aM (aT.da h) λu hu h1=>?_;exact wpAny_Name (Lp X hx hu λv r=>h1.cD S r) hd
theorem Lu(K:cG G)(hx:G.gN g=x)(hk:env.kindOf x=some .globalImplicit)(hd:(x==("__debug__":Str))=false):bg G n A N env (.glob g) (.Name x p):=λs ρ σ L Q E X S h=>by
 refine aM (aT.da h) λu hu h1=>?_;exact wpAny_Name (load_const K S X hk hu hx λv r=>h1.cD S r) hd
theorem Nm{es:EL}{l:List aq}{k:Nat}{p:Pos}(hE:gp G n A N env es l):bg G n A N env (.ax es) (.Tuple l k p):=λs ρ σ L Q E X S h=>
 Tuple_ (hE.then X S h λv aA tk aJ ay u bx aH st r h1=>by
  obtain⟨hle,h2⟩:=aT.ite h1
  exact wpAny_newTuple (h2.xq aH r) (by(refine(r.length).symm▸?_);exact iX hle))
theorem C2{es:EL}{l:List aq}{p:Pos}(hE:gp G n A N env es l):bg G n A N env (.ah es) (.List l p):=λs ρ σ L Q E X S h=>
 List_ (hE.then X S h λv aA tk aJ ay u bx aH st r h1=>by
  obtain⟨hle,h2⟩:=aT.ite h1
  exact wpAny_newList (h2.xr aH r) (by(refine(r.length).symm▸?_);exact iX hle))
theorem C3:gp G n A N env .nil []:=λpos s ρ σ L Q E X S h=>args_nil (h.cD S .nil)
theorem Lw{x:E}{e:aq}(hE:bg G n A N env x e)(H':gp G n A N env es l)(hs:starEach (e::l) env=(false,eval e env)::starEach l env):gp G n A N env (.cons x es) (e::l):=λpos s ρ σ L Q E X S h=>
 args_cons (hE.then X S h λv aA tk aJ ay u bx aH st r h1=>H'.then bx aH h1 λvs aX cz dD bN us dm bM cH rs h2=>h2.cD bM (.cons (r.step cH aH) rs)) hs
theorem Np(hE:bg G n A N env a l)(H':bg G n A N env b r):bg G n A N env (.aj op a b) (.BinOp l op r p):=λs ρ σ L Q E X S h=>
 wpAny_BinOp (hE.then X S h λv aA tk aJ ay u bx aH st r h1=>H'.then bx aH h1 λv' aX cz dD bN u' dm bM cH r' h2=>JY bM (r.step cH aH) r' h2)
theorem Nq{a:E}{l:aq}{p:Pos}(hE:bg G n A N env a l):bg G n A N env (.neg a) (.UnaryOp .USub l p):=λs ρ σ L Q E X S h=>
 wpAny_UnaryOp (hE.then X S h λv aA tk aJ ay u bx aH st r h1=>by
  refine bo (aT.bind h1) λi bN e h2=>?_;refine aZ (jz e) λcu bh=>?_;clear e;(clear h1;subst cu);subst bh
  exact Nf aH r h2)
theorem aT.DV(h:PV G (M.bind m (λr=>M.pure (.bool r)) σ) ρ s Q):o4 G (m σ) ρ s Q:=by
 refine bo (aT.bind h) λb ay e h1=>?_;refine e.symm▸?_;rintro v h' tk aw st S rfl;exact h1 _ h' tk aw st S (.bool _)
theorem Nr(K:cG G)(Y:Ao A n)(hE:bg G n A N env a l)(H':bg G n A N env b r)(hm:behindInMarks op r=false):bg G n A N env (.cmp op a b) (.Compare l [op] [r] p):=λs ρ σ L Q E X S h=>
 wpAny_Compare1 (hE.then X S h λv aA tk aJ ay u bx aH st r h1=>H'.then bx aH h1 λv' aX cz dD bN u' dm bM cH r' h2=>wR K Y.F8 bM (r.step cH aH) r' h2.DV) hm
theorem J3{op:CmpOp}{x y:Value}{u v:V}{s:Shared}{ρ:List Addr}{σ:H}{E:bD}(K:cG G)(Y:Ao A n)(S:aG G ρ σ s.heap)(rx:Rel G ρ s.heap x u)(ry:Rel G ρ s.heap y v)(h:PB G (dH op u v σ) ρ s Q):wpAny (model G.prog G.w) A (compareOp op x y) (λc hG=>wpAny (model G.prog G.w) A (truthy c) Q E hG) E s:=by
 refine wR K Y.F8 S rx ry ?_;cases e:dH op u v σ with
|ok b ay=>(replace h:=e▸h);rintro c h' tk aw st S' rfl;exact wpAny_truthy_bool (h b h' tk aw st S' rfl)
|aF c ay=>(replace h:=e▸h);exact h
|bad=>(replace h:=e▸h);exact h
theorem Ly(K:cG G)(Y:Ao A n)(hE:bg G n A N env a l)(H':bg G n A N env b r)(hm:behindInMarks op r=false):hZ G n A N env (.cmp op a b) (.Compare l [op] [r] p):=λs ρ σ L Q E X S h=>
 wpAny_isTrue_Compare1 (hE.then X S h λv aA tk aJ ay u bx aH st r h1=>H'.then bx aH h1 λv' aX cz dD bN u' dm bM cH r' h2=>J3 K Y bM (r.step cH aH) r' h2) hm
theorem Lz(hE:hZ G n A N env a l):hZ G n A N env (.not a) (.UnaryOp .Not l p):=λs ρ σ L Q E X S h=>
 wpAny_isTrue_Not (hE.then X S h λb aA tk aJ ay bx aH st h1=>h1.cD aH rfl)
theorem Nt{a:E}{l:aq}{p:Pos}(hE:bg G n A N env a l):bg G n A N env (.not a) (.UnaryOp .Not l p):=λs ρ σ L Q E X S h=>
 wpAny_UnaryOp (hE.then X S h λv aA tk aJ ay u bx aH st r h1=>by
  refine bo (aT.bind h1) λb bN e h2=>?_;refine aZ (qV e) λcu bh=>?_;clear e;(clear h1;subst cu);subst bh;(apply oQ r)
  exact not_of (wpAny_truthy_bool (h2.cD aH (.bool _))))
theorem tT(hE:bg G n A N env x e)(hev:∀L σ,bP (G.ctx n) x L σ=M.bind (ak (G.ctx n) x L) dU σ)(hi:isTrue e env (eval e env)=(do let v ←eval e env;standAt e.pos;holding [v] (truthy v))):hZ G n A N env x e:=λs ρ σ L Q E X S h=>by
 refine hi.symm▸?_;rw[hev] at h;refine wpAny_bind (hE.then X S h λv aA tk aJ ay u bx aH st r h1=>?_);cases u with
|bool b=>(apply oQ r);exact wpAny_bind (wpAny_standAt (wpAny_holding (wpAny_truthy_bool (h1.cD aH rfl))))
|_=>exact h1.elim
theorem xw(K:cG G)(hE:bg G n A N env a l)(H':bg G n A N env i r)(hs:∀l u p,r≠.Slice l u none p):bg G n A N env (.au a i) (.Subscript l r p):=λs ρ σ L Q E X S h=>
 Subscript_ (hE.then X S h λv aA tk aJ ay u bx aH st r h1=>H'.then bx aH h1 λv' aX cz dD bN u' dm bM cH r' h2=>wU K rfl bM (r.step cH aH) r' hs h2)
def uc(G:Gd)(n:Nat)(A:Around)(N:List Str)(env:Env)(x:E)(e:Option aq):Prop:=match e with
|none=>x=.none
|some e=>bg G n A N env x e
theorem uc.then{x:E}{e:Option aq}(hE:uc G n A N env x e){s:Shared}{ρ:List Addr}{σ:H}{L:aQ}{α β:Type}{R:List Addr->Heap->β->α->Prop}{f:V->M α}{Q:β->Shared->Prop}{Q':bD}{E:bD}(X:bj G N env ρ s.heap L)(S:aG G ρ σ s.heap)(h:aT G R (M.bind (ak (G.ctx n) x L) f σ) ρ s Q)(k:∀v aA tk aJ ay u,bj G N env aJ aA L->aG G aJ ay aA->Step ρ s.heap aJ aA->Rel G aJ aA v u->aT G R (f u ay) aJ {s with heap:=aA,toks:=tk} Q->Q' v {s with heap:=aA,toks:=tk}):
  wpAny (model G.prog G.w) A (evalPart e env) Q' E s:=by
 cases e with
|none=>
  subst (hE);rw[evalPart_none];refine bo (aT.bind h) λu ay e1 h1=>?_;refine fv e1 λaL cR=>?_;subst aL;subst cR;exact wpAny_pure (k .none s.heap s.toks ρ _ _ X S (Step.refl _ _) .none h1)
|some e=>rw[evalPart_some];exact bg.then hE X S h k
theorem Nu{a lo hi:E}{l:aq}{lower upper:Option aq}{p p':Pos}(hE:bg G n A N env a l)(H1:uc G n A N env lo lower)(H2:uc G n A N env hi upper):bg G n A N env (.slc a lo hi) (.Subscript l (.Slice lower upper none p') p):=λs ρ σ L Q E X S h=>
 Subscript_ (hE.then X S h λv aA tk aJ ay u bx aH st r h1=>wpAny_Slice (H1.then bx aH h1 λvl aX cz dD bN ul dm bM cH rl h2=>H2.then dm bM h2 λvu cI gj gk en uu fk dn d5 ru h3=>by
  rw[evalPart_none];refine wpAny_pure ?_;have g:∀c o,cI.get? c=some o->(cI.push {cls:=.type "slice",data:=.fields #[vl,vu,.none]}).get? c=some o:=gV;have gA:=Step.grow dn g
  exact wV (dn.grow g) (((r.step cH aH).step d5 bM).step gA dn) ((rl.step d5 bM).step gA dn) (ru.step gA dn) (Heap.IsSliceOf.new ..) (aT.step h3 gA)))
end
end Qh
namespace Qh
open PySem PyProof.Rows
section
variable{G:Gd}{n:Nat}{A:Around}{N:List Str}{env:Env}
theorem sZ(e:av P sc n f vs σ=.ok r ay):∃fn m,P.fns f=some fn/\n=m+1:=by
 cases n with
|zero=>exact cT e
|succ m=>
  simp only[av] at e;cases hf:P.fns f with
  |none=>(replace e:=hf▸e);exact cT e
  |some fn=>exact⟨fn,m,rfl,rfl⟩
theorem PV.some(h:PV G r ρ s Q):∃v ay,r=.ok v ay:=by
 cases r with
|ok v ay=>exact⟨v,ay,rfl⟩
|aF c ay=>exact h.elim
|bad=>exact h.elim
theorem Cg(K:cG G)(F:iK G)(Y:Ao A n)(C:ki G n)(nt:G.P.eW (f+1)≠2)(hE:gp G n A N env es (e::args))(hx:G.fN f=x)(hg:G.eS f=true)(hk:env.kindOf x=some .globalImplicit)(hd:(x==("__debug__":Str))=false)(hs:starEach (e::args) env=(false,eval e env)::starEach args env):bg G n A N env (.call f es) (.Call (.Name x p') (e::args) [] p):=λs ρ σ L Q E X S h=>by
 refine bB λXx aI=>?_;refine bo (aT.bind h) λvs ay e1 h1=>?_;refine eY (PV.some h1) λr bN e2=>?_;refine bo (sZ e2) λfn m hf _=>?_;refine bo (F f fn hf) λo fd ho hdat=>?_;refine aI ?_;refine wpAny_Call_NameR (wpAny_Name (xb K S X hk hf hg hx ?_) hd);refine callWith_def hdat (hE.then X S h λv aA tk aJ ay u bx aH st r h1=>⟨aH.base _ _ ho,C A Y f nt u v _ aJ ay Q E aH r h1⟩) hs
theorem oq(K:cG G)(hE:bg G n A N env a e)(hev:∀L σ,ak (G.ctx n) lj L σ=M.bind (ak (G.ctx n) a L) op σ)(hk:env.kindOf x=some .globalImplicit)(hx:x∈n8)(hv:bootBuiltins x=some v)(hd:(x==("__debug__":Str))=false)(hs:starEach [e] env=[(false,eval e env)])(hb:(∃id,v=.builtin id)∨∃T,v=.type T)(hop:∀(s:Shared)(ρ:List Addr)(σ:H)(y:Value)(u:V)(Q:bD)(E:bD),aG G ρ σ s.heap->Rel G ρ s.heap y u->PV G (op u σ) ρ s Q->wpAny (model G.prog G.w) A (call v [y]) Q E s):
  bg G n A N env lj (.Call (.Name x p') [e] [] p):=λs ρ σ L Q E X S h=>by
 rw[hev] at h;refine wpAny_Call_NameR (wpAny_Name (mQ K S X hk hx hv ?_) hd);have args:wpAny (model G.prog G.w) A (spliced (backTo p (starEach [e] env))) (λvs bA=>wpAny (model G.prog G.w) A (call v vs) Q E bA) E s:=
  args_cons (hE.then X S h λy aA tk aJ ay u bx aH st r h1=>args_nil (hop _ aJ ay y u Q E aH r h1)) hs
 rcases hb with ⟨id,rfl⟩|⟨T,rfl⟩
 ·exact callWith_builtin1 args hs rfl
 ·exact callWith_type1 args hs rfl
theorem boot_len:bootBuiltins "len"=some (.builtin "len"):=by decide+kernel
theorem boot_int:bootBuiltins "int"=some (.type "int"):=by decide+kernel
theorem boot_bool:bootBuiltins "bool"=some (.type "bool"):=by decide+kernel
theorem boot_str:bootBuiltins "str"=some (.type "str"):=by decide+kernel
theorem boot_sum:bootBuiltins "sum"=some (.builtin "sum"):=by decide+kernel
theorem boot_max:bootBuiltins "max"=some (.builtin "max"):=by decide+kernel
theorem boot_isinstance:bootBuiltins "isinstance"=some (.builtin "isinstance"):=by decide+kernel
theorem boot_list:bootBuiltins "list"=some (.type "list"):=by decide+kernel
theorem boot_tuple:bootBuiltins "tuple"=some (.type "tuple"):=by decide+kernel
theorem boot_dict:bootBuiltins "dict"=some (.type "dict"):=by decide+kernel
theorem boot_range:bootBuiltins "range"=some (.type "range"):=by decide+kernel
theorem boot_zip:bootBuiltins "zip"=some (.type "zip"):=by decide+kernel
theorem Nv(K:cG G)(hE:bg G n A N env a e)(hk:env.kindOf "len"=some .globalImplicit)(hs:starEach [e] env=[(false,eval e env)]):bg G n A N env (.len a) (.Call (.Name "len" p') [e] [] p):=
 oq K hE (λ_ _=>rfl) hk (by decide+kernel) boot_len (by decide+kernel) hs (.inl ⟨_,rfl⟩) λs ρ σ y u Q E S r h=>Nj K rfl S r h
theorem J4(K:cG G)(hE:bg G n A N env a e)(hk:env.kindOf "int"=some .globalImplicit)(hs:starEach [e] env=[(false,eval e env)]):bg G n A N env (.toInt a) (.Call (.Name "int" p') [e] [] p):=
 oq K hE (λ_ _=>rfl) hk (by decide+kernel) boot_int (by decide+kernel) hs (.inr ⟨_,rfl⟩) λs ρ σ y u Q E S r h=>J0 S r h
theorem J5(K:cG G)(hE:bg G n A N env a e)(hk:env.kindOf "str"=some .globalImplicit)(hs:starEach [e] env=[(false,eval e env)]):bg G n A N env (.toStr a) (.Call (.Name "str" p') [e] [] p):=
 oq K hE (λ_ _=>rfl) hk (by decide+kernel) boot_str (by decide+kernel) hs (.inr ⟨_,rfl⟩) λs ρ σ y u Q E S r h=>J1 S r h
theorem Nw(K:cG G)(Y:Ao A n)(hE:bg G n A N env a e)(hk:env.kindOf "sum"=some .globalImplicit)(hs:starEach [e] env=[(false,eval e env)]):bg G n A N env (.sum a) (.Call (.Name "sum" p') [e] [] p):=
 oq K hE (λ_ _=>rfl) hk (by decide+kernel) boot_sum (by decide+kernel) hs (.inl ⟨_,rfl⟩) λs ρ σ y u Q E S r h=>Nk Y.hh S r h
theorem LA(K:cG G)(hE:bg G n A N env a e)(hk:env.kindOf "list"=some .globalImplicit)(hs:starEach [e] env=[(false,eval e env)]):bg G n A N env (.list a) (.Call (.Name "list" p') [e] [] p):=
 oq K hE (λ_ _=>rfl) hk (by decide+kernel) boot_list (by decide+kernel) hs (.inr ⟨_,rfl⟩) λs ρ σ y u Q E S r h=>Ll S r h
theorem J6(K:cG G)(hE:bg G n A N env a e)(hk:env.kindOf "tuple"=some .globalImplicit)(hs:starEach [e] env=[(false,eval e env)]):bg G n A N env (.tuple a) (.Call (.Name "tuple" p') [e] [] p):=
 oq K hE (λ_ _=>rfl) hk (by decide+kernel) boot_tuple (by decide+kernel) hs (.inr ⟨_,rfl⟩) λs ρ σ y u Q E S r h=>J2 S r h
theorem LB(K:cG G)(hE:bg G n A N env a e)(hk:env.kindOf "dict"=some .globalImplicit)(hs:starEach [e] env=[(false,eval e env)]):bg G n A N env (.dict a) (.Call (.Name "dict" p') [e] [] p):=
 oq K hE (λ_ _=>rfl) hk (by decide+kernel) boot_dict (by decide+kernel) hs (.inr ⟨_,rfl⟩) λs ρ σ y u Q E S r h=>Lm K S r h
theorem LC(K:cG G)(Y:Ao A n)(hE:bg G n A N env a e)(sC:bg G n A N env b e')(hk:env.kindOf "max"=some .globalImplicit)(hs:starEach [e,e'] env=(false,eval e env)::starEach [e'] env)(hs':starEach [e'] env=[(false,eval e' env)]):bg G n A N env (.max2 a b) (.Call (.Name "max" p') [e,e'] [] p):=λs ρ σ L Q E X S h=>by
 refine wpAny_Call_NameR (wpAny_Name (mQ K S X hk (by decide+kernel) boot_max ?_) (by decide+kernel));refine callWith_builtin1 (args_cons (hE.then X S h λy aA tk aJ ay u bx aH st r h1=>args_cons (sC.then bx aH h1 λy' aX cz dD bN u' dm bM cH r' h2=>args_nil (Lk Y.hh bM (r.step cH aH) r' h2)) hs') hs) hs (by(refine hs'.symm▸?_);rfl)
theorem A4(K:cG G)(hE:bg G n A N env a e)(hk:env.kindOf "isinstance"=some .globalImplicit)(ht:env.kindOf (Str.ofString t)=some .globalImplicit)(hm:Str.ofString t∈n8)(hb:bootBuiltins (Str.ofString t)=some (.type t))(hd:(Str.ofString t==("__debug__":Str))=false)(hs:starEach [e,.Name (Str.ofString t) p''] env=(false,eval e env)::starEach [.Name (Str.ofString t) p''] env):bg G n A N env (.cS t a) (.Call (.Name "isinstance" p') [e,.Name (Str.ofString t) p''] [] p):=λs ρ σ L Q E X S h=>by
 refine wpAny_Call_NameR (wpAny_Name (mQ K S X hk (by decide+kernel) boot_isinstance ?_) (by decide+kernel));refine callWith_builtin1 (args_cons (hE.then X S h λy aA tk aJ ay u bx aH st r h1=>args_cons (wpAny_Name (mQ K aH bx ht hm hb (args_nil ?_)) hd) rfl) hs) hs rfl;exact A3 aH r h1.DV
theorem LD(K:cG G)(Y:Ao A n)(hE:bg G n A N env a e)(hk:env.kindOf "max"=some .globalImplicit)(hs:starEach [e] env=[(false,eval e env)]):
  bg G n A N env (.g7 a) (.Call (.Name "max" p') [e] [⟨some "default",.Constant (.int 0) k p'',kp⟩] p):=λs ρ σ L Q E X S h=>by
 show wpAny _ A (do callWith p (←eval (.Name "max" p') env) [] (backTo p (starEach [e] env)) (backToKw p (keywordEach [⟨some "default",.Constant (.int 0) k p'',kp⟩] env))) Q E s;refine wpAny_bind (wpAny_Name (mQ K S X hk (by decide+kernel) boot_max ?_) (by decide+kernel));refine callWith_kw (args_cons (hE.then X S h λy aA tk aJ ay u bx aH st r h1=>args_nil ?_) hs) (by(refine hs.symm▸?_);rfl) (by(refine hs.symm▸?_);rfl) rfl rfl;show wpAny _ A (evalAll [do let v ←eval (.Constant (.int 0) k p'') env;standAt p;pure v]) _ _ _;refine wpAny_evalAll_cons (wpAny_bind (wpAny_mkInt (wpAny_bind (wpAny_standAt (wpAny_pure (wpAny_evalAll_nil ?_))))));exact Lo Y.hh aH r (.int _ _) (h1.step (Step.refl aJ aA))
def jZ:aq->Bool
|.Name ..=>true
|.Constant ..=>true
|_=>false
theorem wj(h:jZ o=true):attributeBase o name env whole=whole:=by
 cases o<;>first|rfl|exact ff h
theorem LF(hE:bg G n A N env a e)(sC:bg G n A N env b e')(hb:jZ e=true)(hline:(ap.endLine==p.line)=true)(hs:starEach [e'] env=[(false,eval e' env)]):bg G n A N env (.join a b) (.Call (.Attribute e "join" ap) [e'] [] p):=λs ρ σ L Q E X S h=>by
 refine Call_method1 (wj hb) hs hline (hE.then X S h λy aA tk aJ ay u bx aH st r h1=>?_);have hu:∃z,u=.str z:=by
  refine bB λXx aI=>?_;refine bo (aT.bind h1) λw af e1 h2=>?_;refine bo (aT.bind h2) λsep cO e2 _=>?_;refine aZ (BB e2) λcu _=>?_;clear e2;(clear h2 h1 r;subst cu);refine aI ?_;exact⟨_,rfl⟩
 obtain⟨z,rfl⟩:=hu;(apply kC r;intro _);refine⟨"str",_,PySem.F.plainAttrs_str,PySem.F.slot_str_join,PySem.F.type_str_join,typeIs_str _ _ _,(λa q=>nomatch q),?_⟩;have:=callWith_method1 (first:=[Value.str z ‹_›]) (id:="str.join") (pos:=p) (env:=env) (e:=e') (rest:=[]) (M:=model G.prog G.w) (A:=A) (Q:=Q) (E:=E) (s:={s with heap:=aA,toks:=tk})
  (args_cons (sC.then bx aH h1 λy' aX cz dD bN u' dm bM cH r' h2=>args_nil (Ln (u:=.str z) bM (.str _ _) r' h2)) hs) hs rfl
 replace this:=hs▸this;exact this
theorem LG:bg G n A N env (.aD [] .nil) (.Dict [] [] p):=λs ρ σ L Q E X S h=>by
 have h1:PV G ((if(([]:List Str).length=([]:List V).length/\([]:List Str).Nodup/\([]:List Str).length<=15) then dc (.aD ([].zip [])) else M.fail) σ) ρ s Q:=h;refine aZ (aT.ite h1) λ_ h2=>?_;exact wpAny_Dict_empty (aT.newDict h2 S (λc o e=>gV _ _ e) (aR _) (Heap.DictOf.new s.heap) rfl .nil)
end
end Qh
namespace Qh
open PySem PyProof.Rows
section
variable{G:Gd}{n:Nat}{A:Around}{N:List Str}{env:Env}
theorem Iv(hE:bg G n A N env x e):qb G n A N env op (.cons x .nil) [e]:=λpos s ρ σ L Q E X S h=>by
 have h':PV G (M.bind (ak (G.ctx n) x L) (λv=>M.bind (dU v) λb=>M.pure (.bool b)) σ) ρ s Q:=by cases op<;>exact h
 show wpAny _ A (eval e env) Q E s;exact hE.then X S h' λv aA tk aJ ay u bx aH st r h1=>by
  obtain⟨b,bN,e,h2⟩:=aT.bind h1;have zz:=qV e;clear e;obtain⟨rfl,rfl⟩:=zz;exact h2.cD aH r
theorem Iw(hE:bg G n A N env x e)(hA:qb G n A N env op (.cons y es) (e'::l)):qb G n A N env op (.cons x (.cons y es)) (e::e'::l):=λpos s ρ σ L Q E X S h=>by
 show wpAny _ A (do
  let v ←eval e env
  standAt pos
  let t ←holding [v] (truthy v)
  match op,t with
  |.And,false|.Or,true=>pure v
  |_,_=>boolOp pos op (evalEach (e'::l) env)) Q E s
 cases op with
|And=>
  refine wpAny_bind (hE.then X S h λv aA tk aJ ay u bx aH st r h1=>?_);obtain⟨b,bN,e,h2⟩:=aT.bind h1;have zz:=qV e;clear e;obtain⟨rfl,rfl⟩:=zz;(apply oQ r);refine wpAny_bind (wpAny_standAt (wpAny_bind (wpAny_holding (wpAny_truthy_bool ?_))));clear h1 r;cases b with
  |false=>exact wpAny_pure (aT.cD h2 aH (.bool _))
  |true=>exact hA pos _ aJ _ L Q E bx aH h2
|Or=>
  refine wpAny_bind (hE.then X S h λv aA tk aJ ay u bx aH st r h1=>?_);obtain⟨b,bN,e,h2⟩:=aT.bind h1;have zz:=qV e;clear e;obtain⟨rfl,rfl⟩:=zz;(apply oQ r);refine wpAny_bind (wpAny_standAt (wpAny_bind (wpAny_holding (wpAny_truthy_bool ?_))));clear h1 r;cases b with
  |true=>exact wpAny_pure (aT.cD h2 aH (.bool _))
  |false=>exact hA pos _ aJ _ L Q E bx aH h2
theorem Nx(hA:qb G n A N env .And es l):bg G n A N env (.and es) (.BoolOp .And l p):=λs ρ σ L Q E X S h=>hA p s ρ σ L Q E X S h
theorem O6(hA:qb G n A N env .Or es l):bg G n A N env (.or es) (.BoolOp .Or l p):=λs ρ σ L Q E X S h=>hA p s ρ σ L Q E X S h
theorem I5:qc G n A N env op .nil []:=λs ρ σ L Q E X S h=>by
 cases op
 ·exact wpAny_pure (aT.cD h S rfl)
 ·exact wpAny_pure (aT.cD h S rfl)
theorem Iy(hE:hZ G n A N env x e)(hA:qc G n A N env op es l):qc G n A N env op (.cons x es) (e::l):=λs ρ σ L Q E X S h=>by
 show wpAny _ A (do
  match op,←isTrue e env (eval e env) with
  |.And,false=>pure false
  |.Or,true=>pure true
  |_,_=>allTrue op l env) Q E s
 cases op with
|And=>
  refine wpAny_bind (hE.then X S h λb aA tk aJ ay bx aH st h1=>?_);cases b with
  |false=>exact wpAny_pure (aT.cD h1 aH rfl)
  |true=>exact hA _ aJ _ L Q E bx aH h1
|Or=>
  refine wpAny_bind (hE.then X S h λb aA tk aJ ay bx aH st h1=>?_);cases b with
  |true=>exact wpAny_pure (aT.cD h1 aH rfl)
  |false=>exact hA _ aJ _ L Q E bx aH h1
theorem LH(hA:qc G n A N env .And es l):hZ G n A N env (.and es) (.BoolOp .And l p):=λs ρ σ L Q E X S h=>hA s ρ σ L Q E X S h
theorem Ny(hA:qc G n A N env .Or es l):hZ G n A N env (.or es) (.BoolOp .Or l p):=λs ρ σ L Q E X S h=>hA s ρ σ L Q E X S h
theorem kJ(h:cq (b7 L v w) i=some u):(i=v/\u=w)∨(i≠v/\cq L i=some u):=by
 induction L generalizing v i with
|nil=>simp[b7,cq] at h
|cons x r ih=>
  cases v with
  |zero=>
   cases i with
   |zero=>simp[b7,cq] at h;exact .inl ⟨rfl,h.symm⟩
   |succ i=>simp[b7,cq] at h;exact .inr ⟨by simp,by simpa[cq] using h⟩
  |succ v=>
   cases i with
   |zero=>simp[b7,cq] at h;exact .inr ⟨by simp,by simpa[cq] using h⟩
   |succ i=>
    simp[b7,cq] at h;rcases ih h with ⟨h1,h2⟩|⟨h1,h2⟩
    ·exact .inl ⟨by exact cK (lN 0x6134184c04900904920634c [_,_] rfl h1) (lN 0x6134184c04904920630d [_,_] rfl h1),h2⟩
    ·exact .inr ⟨by lia,by simpa[cq] using h2⟩
theorem Ch(L:aQ)(i:Nat):cq L i=(L[i]?).join:=by
 induction L generalizing i with
|nil=>simp[cq]
|cons x r ih=>cases i<;>simp[cq,ih]
theorem Aa(h:cq (cQ L br) i=some u):i∈br/\cq L i=some u:=by
 rw[Ch] at h ⊢;unfold cQ at h;simp only[List.getElem?_map,List.getElem?_zipIdx] at h;cases hx:L[i]? with
|none=>(replace h:=hx▸h);simp at h
|some o=>
  replace h:=hx▸h;simp at h;exact⟨h.1,by simpa using h.2⟩
theorem qO(hc:∀y∈scope.names,y.2=.free->(env.cells.lookup y.1).isSome=true):
  ∃cl,closureFor scope env=pure cl/\∀y,(y,NameKind.free)∈scope.names->cl.lookup y=env.cells.lookup y:=by
 have key:∀(names:List (Str×NameKind))(cs:List (Str×Addr)),(∀y∈names,y.2=.free->(env.cells.lookup y.1).isSome=true)->(∀y c,cs.lookup y=some c->env.cells.lookup y=some c)->
   ∃cl,(forIn names cs λ(x:Str×NameKind)(cs:List (Str×Addr))=>(if(x.2==.free)=true then do let a ←cellOf env x.1;pure (ForInStep.yield ((x.1,a)::cs)) else pure (ForInStep.yield cs):Sem _))=pure cl/\
    (∀y,(y,NameKind.free)∈names∨(cs.lookup y).isSome=true->cl.lookup y=env.cells.lookup y):=by
  intro names
  induction names with
  |nil=>
   intro cs _ h2;refine⟨cs,by rw[List.forIn_nil],λy hy=>?_⟩;rcases hy with q|q
   ·cases q
   ·obtain⟨c,hc⟩:=Option.isSome_iff_exists.mp q;refine hc.symm▸?_;refine(h2 y c hc).symm▸?_;with_reducible rfl
  |cons x r ih=>
   intro cs h1 h2;obtain⟨nm,kd⟩:=x;rw[List.forIn_cons]
   by_cases hk:kd=.free
   ·subst hk;refine bB λXx aI=>?_;obtain⟨c,hc⟩:=Option.isSome_iff_exists.mp (h1 (nm,.free) (.head _) rfl);have e:cellOf env nm=pure c:=by unfold cellOf;(refine hc.symm▸?_;with_reducible rfl)
    have h2':∀y c',((nm,c)::cs).lookup y=some c'->env.cells.lookup y=some c':=λy c' q=>by
     rw[List.lookup_cons] at q;cases hy:y==nm with
     |true=>(replace q:=hy▸q);(apply eR q);(refine(beq_iff_eq.mp hy).symm▸?_);exact hc
     |false=>(replace q:=hy▸q);exact h2 y c' q
    refine aM (ih ((nm,c)::cs) (λy hy=>h1 y (.tail _ hy)) h2') λcl e1 e2=>?_;refine aI ?_;refine⟨cl,?_,λy hy=>?_⟩
    ·simp only[beq_self_eq_true,if_true,e];exact e1
    ·refine e2 y ?_;rcases hy with q|q
     ·rcases List.mem_cons.mp q with q|q
      ·right;cases q;rw[List.lookup_cons];simp
      ·exact .inl q
     ·right
      rw[List.lookup_cons];cases hy:y==nm with
      |true=>rfl
      |false=>exact q
   ·have hk':(kd==NameKind.free)=false:=by simpa using hk
    refine aM (ih cs (λy hy=>h1 y (.tail _ hy)) h2) λcl e1 e2=>?_;refine⟨cl,?_,λy hy=>?_⟩
    ·simp only[hk',Bool.false_eq_true,if_false];exact e1
    ·refine e2 y ?_;rcases hy with q|q
     ·rcases List.mem_cons.mp q with q|q
      ·cases q;exact absurd rfl hk
      ·exact .inl q
     ·exact .inr q
 refine aM (key scope.names [] hc (λy c q=>by exact bS q)) λcl e1 e2=>?_;refine⟨cl,?_,λy hy=>e2 y (.inl hy)⟩;have e0:closureFor scope env=(forIn scope.names ([]:List (Str×Addr)) λ(x:Str×NameKind)(cs:List (Str×Addr))=>(if(x.2==NameKind.free)=true then do let a ←cellOf env x.1;pure (ForInStep.yield ((x.1,a)::cs)) else pure (ForInStep.yield cs):Sem (ForInStep (List (Str×Addr))))) >>= λr=>pure r:=rfl;refine e0.symm▸?_;refine e1.symm▸?_
 rfl
end
end Qh
namespace Qh
open PySem PyProof.Rows
theorem Ab{env:Env}:∀{names:List (Str×NameKind)}{y:Str},(∀z∈names,z.2≠.cell)->
  (names.map λ(n,k)=>if(k==NameKind.free&&env.scope.kind==.function&&env.kindOf n==some .cell) then(n,NameKind.cell) else(n,k)).lookup y=some .cell->(y,NameKind.free)∈names/\env.kindOf y=some .cell
|[],y,_,h=>by simp at h
|(m,k)::r,y,hc,h=>by
  have ih:=@Ab env r y (λz hz=>hc z (.tail _ hz));simp only[List.map_cons] at h
  by_cases rQ:(k==NameKind.free&&env.scope.kind==.function&&env.kindOf m==some .cell)=true
  ·rw[if_pos rQ,List.lookup_cons] at h;cases hy:y==m with
   |true=>
    have e:=beq_iff_eq.mp hy;clear ih hy h hc;subst e;simp only[Bool.and_eq_true,beq_iff_eq] at rQ;exact⟨by(refine(rQ.1.1)▸?_);exact .head _,rQ.2⟩
   |false=>
    replace h:=hy▸h;exact⟨.tail _ (ih h).1,(ih h).2⟩
  ·rw[if_neg rQ,List.lookup_cons] at h;cases hy:y==m with
   |true=>
    (replace h:=hy▸h);(refine dt h λaL=>?_;subst aL);exact absurd rfl (hc (m,.cell) (.head _))
   |false=>
    replace h:=hy▸h;exact⟨.tail _ (ih h).1,(ih h).2⟩
section
variable{G:Gd}{n:Nat}{A:Around}{N:List Str}{env:Env}{ρ:List Addr}{h:Heap}{L:aQ}
structure g0(N:List Str)(env:Env)(scope:Scope)(x:Str)(v:Nat)(br:List Nat):Prop where
 kind:scope.kind=.function
 C4:∀y∈scope.names,y.2≠.cell
 locs:∀y∈scope.names,y.2=.local->scope.names.lookup y.1=some .local
 aa:scope.names.lookup x=some .local
 slot:N[v]?=some x
 free:∀y∈scope.names,y.2=.free->env.kindOf y.1=some .cell
 br:∀i∈br,∀y,N[i]?=some y->(relabel scope env).names.lookup y=some .cell
theorem bj.inner{scope:Scope}{x:Str}{v:Nat}{br:List Nat}{cl:List (Str×Addr)}(X:bj G N env ρ h L)(Z:g0 N env scope x v br)(hcl:∀y,(y,NameKind.free)∈scope.names->cl.lookup y=env.cells.lookup y)(hns:h.Ns C m)(hm:m x=some w)(hr:Rel G ρ h w it)(hC:C∉ρ)(Ra:G.hb.get? C=none):bj G N (compEnvC scope cl C env) ρ h (b7 (cQ L br) v it):=by
 have cellsOf:∀y,(compEnvC scope cl C env).kindOf y=some .cell->env.kindOf y=some .cell/\cl.lookup y=env.cells.lookup y:=λy hy=>by
  refine aZ (Ab Z.C4 hy) λh1 h2=>?_;exact⟨h2,hcl y h1⟩
 have F9:(compEnvC scope cl C env).kindOf x=some .local:=lookup_relabel_local Z.aa;have key:∀i u y,cq (b7 (cQ L br) v it) i=some u->N[i]?=some y->(i=v/\u=it/\y=x)∨(i∈br/\cq L i=some u/\(compEnvC scope cl C env).kindOf y=some .cell):=λi u y h1 h2=>by
  rcases kJ h1 with ⟨rfl,rfl⟩|⟨h3,h4⟩
  ·(replace h2:=(Z.slot)▸h2);(apply eR h2);exact .inl ⟨rfl,rfl,rfl⟩
  ·refine aZ (Aa h4) λh5 h6=>?_;exact .inr ⟨h5,h6,Z.br i h5 y h2⟩
 refine⟨Z.kind,X.glob,X.blt,⟨m,hns,λi u y h1 h2 h3=>?_⟩,λy hy=>?_,λi u h1=>?_,λy z c h1 h2 h3 h4=>?_,X.nodup,hC,λy c h1 h2=>?_,Ra,λy c h1 h2=>?_⟩
 ·rcases key i u y h1 h2 with ⟨_,rfl,rfl⟩|⟨_,_,h4⟩
  ·exact⟨w,hm,hr⟩
  ·(replace h4:=h3▸h4);cases h4
 ·refine aZ (cellsOf y hy) λh1 h2=>?_;refine cU (X.cl y h1) λc ov hc hcell hv=>?_;refine⟨c,ov,h2.trans hc,hcell,λi u h3 h4=>?_⟩;rcases key i u y h3 h4 with ⟨_,_,rfl⟩|⟨_,h5,_⟩
  ·(replace hy:=F9▸hy);cases hy
  ·exact hv i u h5 h4
 ·rcases kJ h1 with ⟨rfl,rfl⟩|⟨_,h4⟩
  ·exact⟨x,Z.slot,.inl F9⟩
  ·refine bB λXx aI=>?_;refine aZ (Aa h4) λh5 h6=>?_;refine aM (X.has i u h6) λy hy _=>?_;refine aI ?_;exact⟨y,hy,.inr (Z.br i h5 y hy)⟩
 ·refine aZ (cellsOf y h1) λa1 a2=>?_;refine aZ (cellsOf z h2) λb1 b2=>?_;exact X.apart y z c a1 b1 (a2▸h3) (b2▸h4)
 ·obtain⟨a1,a2⟩:=cellsOf y h1;exact X.jQ y c a1 (a2▸h2)
 ·obtain⟨a1,a2⟩:=cellsOf y h1;exact X.iP y c a1 (a2▸h2)
end
end Qh
namespace Qh
open PySem PySem.W PyProof.Rows
def hid(h:Heap)(l:List Addr):Heap:=l.foldl Heap.hide h
theorem kT(l:List Addr){h:Heap}{b:Addr}{o:Obj}(e:(hid h l).get? b=some o):h.get? b=some o:=by
 induction l generalizing h with
|nil=>exact e
|cons a r ih=>exact Heap.of_hide (ih e)
theorem rv(l:List Addr){h:Heap}{b:Addr}{o:Obj}(e:h.get? b=some o)(n:b∉l):(hid h l).get? b=some o:=by
 induction l generalizing h with
|nil=>exact e
|cons a r ih=>exact ih ((Heap.hide_ne h (List.ne_of_not_mem_cons n)).trans e) (List.not_mem_of_not_mem_cons n)
theorem pL(l:List Addr){h:Heap}{b:Addr}(m:b∈l):(hid h l).get? b=none:=by
 induction l generalizing h with
|nil=>exact nomatch m
|cons a r ih=>
  rcases List.mem_cons.mp m with q|q
  ·clear ih m;subst q;cases e:(hid h (b::r)).get? b with
   |none=>rfl
   |some o=>exact bS ((Heap.hide_self h b).symm.trans (kT r e))
  ·exact ih q
theorem Iz{base h:Heap}{as:List Addr}{l:List Env}(H:h.FunFrames base l)(m:∀env∈l,∀a,env.frame=some a->a∈as):h.FunFrames (hid h as) l:=by
 induction l with
|nil=>exact trivial
|cons env r ih=>
  refine k8 H λh1 h2 h3=>?_;exact⟨h1,h2.elim λL h2=>h2.elim λo h2=>⟨L,o,h2.1,pL _ (m env (.head _) L h2.1),h2.2.2⟩,ih h3 λe he=>m e (.tail _ he)⟩
def hp0:Heap:={}
def places(l:List Env):List Addr:=l.filterMap (·.frame)
structure iI(l:List Env)(h base:Heap):Prop where
 sub:∀b o,base.get? b=some o->h.get? b=some o
 sup:∀b o,h.get? b=some o->b∉places l->base.get? b=some o
structure gI(base:Heap)(l:List Env)(e:Addr)(C:Addr)(fl:Value)(h:Heap):Prop where
 stays:base.StaysIn h
 new:base.get? e=none
 frames:h.FunFrames base l
 Nz:∃a0,h.TracedAtW base e (.ref C) a0 fl
inductive nH(C:Addr)(l:List Env)(h h':Heap)(e:Addr):Prop
|made {args:List Value}:Heap.MadeExcOf h h' e (.ref C) args->nH C l h h' e
|on {base:Heap}{fl:Value}:iI l h base->gI base l e C fl h'->h.UpToSlots h'->nH C l h h' e
structure Fs(A:Around)(fe:Env)(outer:List Env)(Lf:Addr)(env:Env)(ρ:List Addr)(h:Heap):Prop where
 fr:A.frames=some (fe::outer)
 fl:fe.frame=some Lf
 o6:env.frame=some Lf
 alive:h.FunFrames hp0 (fe::outer)
 own:∀b∈places (fe::outer),b∉ρ
def Sep(outer:List Env)(env:Env):Prop:=∀b∈places outer,b≠env.locals/\∀x,env.kindOf x=some .cell->env.cells.lookup x≠some b
section
variable{G:Gd}{A:Around}{fe env:Env}{outer:List Env}{Lf:Addr}{ρ aw:List Addr}{h h':Heap}{N:List Str}{L:aQ}{σ af:H}
theorem sW{l:List Env}(hl:h.FunFrames hp0 l)(k:∀b∈places l,∀o,h.get? b=some o->(∀vs,o.data≠.fields vs)->∃o',h'.get? b=some o'/\∀vs,o'.data≠.fields vs):h'.FunFrames hp0 l:=by
 induction l with
|nil=>trivial
|cons e r ih=>
  refine bB λXx aI=>?_;obtain⟨h1,⟨b,o,h2,h3,h4,h5⟩,h6⟩:=hl;refine aM (k b (List.mem_filterMap.mpr ⟨e,.head _,h2⟩) o h4 h5) λo' h7 h8=>?_;refine aI ?_
  exact⟨h1,⟨b,o',h2,h3,h7,h8⟩,ih h6 λb hb=>k b (by
   refine aM (List.mem_filterMap.mp hb) λx hx hf=>?_
   exact List.mem_filterMap.mpr ⟨x,.tail _ hx,hf⟩)⟩
theorem mS{l:List Env}(hl:h.FunFrames hp0 l){b:Addr}(hb:b∈places l):∃o,h.get? b=some o/\∀vs,o.data≠.fields vs:=(Heap.FunFrames.mem hl hb).2
theorem Fs.step(F:Fs A fe outer Lf env ρ h)(st:Step ρ h aw h'):Fs A fe outer Lf env aw h':=by
 refine⟨F.fr,F.fl,F.o6,sW F.alive λb hb o e hn=>⟨o,st.keep b o e (F.own b hb),hn⟩,λb hb q=>?_⟩;rcases st.fresh b q with q|q
 ·exact F.own b hb q
 ·refine aM (mS F.alive hb) λo e _=>?_;(replace q:=e▸q);exact d8 q
theorem tU{a:Addr}{m:Str->Option Value}(hn:h.Ns a m):∃o,h.get? a=some o/\∀vs,o.data≠.fields vs:=by
 refine fG (hn) λo es ep ho hd _=>?_;exact⟨o,ho,λvs q=>by(replace q:=hd▸q);cases q⟩
theorem Fs.gB(sep:Sep outer env)(F:Fs A env outer env.locals env ρ h)(st:dy env ρ h aw h')(X:bj G N env aw h' L):Fs A env outer env.locals env aw h':=by
 refine⟨F.fr,F.fl,F.o6,?_,λb hb q=>?_⟩
 ·refine sW F.alive λb hb o e hn=>?_
  by_cases q:b=env.locals
  ·refine aM (X.ns) λm hm _=>?_
   (refine q.symm▸?_);exact tU hm
  ·have hb':b∈places outer:=by
    refine aM (List.mem_filterMap.mp hb) λx hx hf=>?_;rcases List.mem_cons.mp hx with rfl|hx
    ·(replace hf:=(F.fl)▸hf);exact absurd (Option.some.inj hf).symm q
    ·exact List.mem_filterMap.mpr ⟨x,hx,hf⟩
   exact⟨o,st.keep b o e (F.own b hb) q (sep b hb').2,hn⟩
 ·rcases st.fresh b q with q|q
  ·exact F.own b hb q
  ·refine aM (mS F.alive hb) λo e _=>?_;(replace q:=e▸q);exact d8 q
theorem LI{l:List Env}(hl:h.FunFrames hp0 l):iI l h (hid h (places l))/\h.FunFrames (hid h (places l)) l:=
 ⟨⟨λb o e=>kT _ e,λb o e hn=>rv _ e hn⟩,Iz hl λenv he a ha=>List.mem_filterMap.mpr ⟨env,he,ha⟩⟩
theorem Ay{l:List Env}{base:Heap}(B:iI l h base){e:Addr}(hn:h.get? e=none):base.get? e=none:=by
 cases q:base.get? e with
|none=>rfl
|some o=>(replace hn:=(B.sub e o q)▸hn);exact d8 hn
end
section
variable{M:Model}{A:Around}{E:bD}{s:Shared}{C Lf e:Addr}{fe env:Env}{outer:List Env}{ρ:List Addr}{h:Heap}
theorem flight{base:Heap}{l:List Env}{fl:Value}{fr:Option Addr}{Q:Unit->Shared->Prop}(hd:gI base l e C fl s.heap)(k:∀h',gI base l e C (fr.elim Value.none λf=>rawInt f) h'->s.heap.UpToSlots h'->Q () {s with heap:=h'}):wpAny M A (setFlight (.ref e) fr) Q E s:=by
 obtain⟨f1,f2,f3,a0,oe,vs,T,oT,ts,he,hcls,hdt,h1,o7,o8,hT,js,h3⟩:=hd;have EZ:3<ts.size:=(Array.getElem?_eq_some_iff.mp h3).1;have other:∀b,b≠T->(s.heap.update T (Obj.mapFields (·.setIfInBounds 3 (fr.elim Value.none λf=>rawInt f)))).get? b=s.heap.get? b:=λb hb=>Heap.get?_update_other _ _ (Ne.symm hb);have rb:∀b o,s.heap.get? b=some o->(∀vs,o.data≠.fields vs)->b≠T:=λb o hb hnf q=>by
  (replace hb:=hT▸(q▸hb));injection hb with hb;(clear hT;subst hb);exact hnf ts js
 unfold setFlight;refine wpAny_bind (wpAny_field he hdt h1 ?_);rw[if_pos (show(Value.ref T != Value.none)=true from by rfl)];refine wpAny_setField hT js EZ (k _ ⟨λb o me=>(other b λq=>by(replace me:=o7▸(q▸me));exact bS me).trans (f1 b o me),f2,f3.of_keeps λb o hb hnf=>⟨o,(other b (rb b o hb hnf)).trans hb,rfl⟩,a0,?_⟩ λb o hb hnf=>⟨o.slots,(other b (rb b o hb hnf)).trans hb⟩);exact⟨oe,vs,T,_,_,(other e (Ne.symm o8)).trans he,hcls,hdt,h1,o7,o8,Heap.get?_update_self _ hT (Obj.isFreed_of_fields (Obj.data_mapFields js _)),Obj.data_mapFields js _,by simp[EZ]⟩
theorem IA{v:Value}(hf:env.frame=fe.frame):noteFrame v env=noteFrame v fe:=by
 unfold noteFrame PySem.frameOf;refine hf.symm▸?_;with_reducible rfl
theorem I6{base:Heap}{fl:Value}{Q:Unit->Shared->Prop}(F:Fs A fe outer Lf env ρ h)(hd:gI base (fe::outer) e C fl s.heap)(k:∀h',gI base (fe::outer) e C (rawInt Lf) h'->s.heap.UpToSlots h'->Q () {s with heap:=h'}):wpAny M A (noteFrame (.ref e) fe) Q E s:=by
 have hd':=hd;obtain⟨f1,f2,f3,a0,oe,vs,T,oT,ts,he,⟨hc,h0⟩,hdt,h1,o7,o8,hT,js,h3⟩:=hd';unfold noteFrame;simp only[F.fl];refine wpAny_bind (wpAny_field he hdt h1 ?_);rw[if_pos (show(Value.ref T != Value.none)=true from by rfl)];refine wpAny_bind (wpAny_field hT js h3 ?_)
 by_cases hq:(fl==rawInt Lf)=true
 ·refine(if_pos hq).symm▸?_;obtain rfl:fl=rawInt Lf:=eq_of_beq hq;exact wpAny_pure (k s.heap hd (Heap.UpToSlots.refl _))
 ·refine(if_neg hq).symm▸?_;refine wpAny_bind (wpAny_setField hT js ((Array.getElem?_eq_some_iff.mp h3).1) ?_);have other:∀b,b≠T->(s.heap.update T (Obj.mapFields (·.setIfInBounds 3 Value.none))).get? b=s.heap.get? b:=λb hb=>Heap.get?_update_other _ _ (Ne.symm hb);have rb:∀b o,s.heap.get? b=some o->(∀vs,o.data≠.fields vs)->b≠T:=λb o hb hnf q=>by
   (replace hb:=hT▸(q▸hb));injection hb with hb;(clear hT;subst hb);exact hnf ts js
  refine wpAny_entryW F.fr (f3.of_keeps λb o hb hnf=>⟨o,(other b (rb b o hb hnf)).trans hb,rfl⟩) F.fl ((other e (Ne.symm o8)).trans he)
   (λb o me=>(other b λq=>by(replace me:=o7▸(q▸me));exact bS me).trans (f1 b o me)) f2 hdt (Array.getElem?_eq_some_iff.mp h1).1 h0 λh' hN=>?_
  refine jd (hN) λx1 x2 x3 x4=>?_;replace x3:=hc▸x3;exact k h' ⟨x1,f2,x2,a0,x3⟩ λb o hb hnf=>x4 b o ((other b (rb b o hb hnf)).trans hb) hnf
theorem tF{Q:Unit->Shared->Prop}(F:Fs A fe outer Lf env ρ h)(x:nH C (fe::outer) h s.heap e)(k:∀h' base,iI (fe::outer) h base->gI base (fe::outer) e C (rawInt Lf) h'->h.UpToSlots h'->Q () {s with heap:=h'}):wpAny M A (noteFrame (.ref e) env) Q E s:=by
 refine(IA (fe:=fe) (F.o6.trans F.fl.symm)).symm▸?_;cases x with
|made hx=>
  obtain⟨B,ff⟩:=LI F.alive;refine ca (hx.there) λt he SF ht=>?_;unfold noteFrame;simp only[F.fl];refine wpAny_bind (wpAny_field he rfl (i:=1) (x:=.none) rfl ?_);rw[if_neg (by decide)];refine wpAny_entryW F.fr (ff.of_keeps λb o hb _=>⟨o,hx.keeps b o hb,rfl⟩) F.fl he (λb o q=>hx.keeps b o (B.sub b o q)) (Ay B hx.new) rfl (nb rfl) rfl λh' hN=>?_;refine jd (hN) λk1 k2 k3 k4=>?_;exact k h' _ B ⟨k1,Ay B hx.new,k2,_,k3⟩ ((Heap.UpToSlots.of_keeps hx.keeps).trans k4)
|on B hd u=>exact I6 F hd λh' x1 x2=>k h' _ B x1 (u.trans x2)
theorem I7{Q:Unit->Shared->Prop}(F:Fs A fe outer Lf fe ρ h)(x:nH C (fe::outer) h s.heap e)(k:∀h' base,iI (fe::outer) h base->gI base (fe::outer) e C .none h'->h.UpToSlots h'->Q () {s with heap:=h'}):wpAny M A (leaving fe (.ref e)) Q E s:=by
 unfold leaving;exact wpAny_bind (tF F x λh' base B hd u=>flight hd λh'' hd' u'=>k h'' base B hd' (u.trans u'))
theorem J7{base:Heap}{fl:Value}(B:iI (fe::outer) h base)(hd:gI base (fe::outer) e C fl s.heap)(u:h.UpToSlots s.heap)(k:∀h',nH C (fe::outer) h h' e->E (.ref e) {s with heap:=h'}):cameBackBy M A env E (.ref e) s:=by
 have hd':=hd;obtain⟨_,_,_,a0,oe,vs,T,oT,ts,he,hcls,hdt,h1,_⟩:=hd';unfold cameBackBy;refine wpAny_bind (wpAny_field he hdt h1 ?_);rw[if_neg (show ¬ (Value.ref T==Value.none)=true from by simp)];exact flight hd λh' x1 x2=>k h' (.on B x1 (u.trans x2))
theorem J8{α:Type}{what:String}{Q:α->Shared->Prop}{base:Heap}{fl:Value}(B:iI (fe::outer) h base)(hd:gI base (fe::outer) e C fl s.heap)(u:h.UpToSlots s.heap)(k:∀h',nH C (fe::outer) h h' e->E (.ref e) {s with heap:=h'}):wpAny M A (PySem.passOn what (.ref e) env:Sem α) Q E s:=by
 have hd':=hd;obtain⟨_,_,_,a0,oe,vs,T,oT,ts,he,hcls,hdt,h1,_⟩:=hd';unfold PySem.passOn;refine wpAny_bind (wpAny_field he hdt h1 ?_);rw[if_neg (show ¬ (Value.ref T==Value.none)=true from by simp)];exact wpAny_bind (flight hd λh' x1 x2=>wpAny_throw (k h' (.on B x1 (u.trans x2))))
end
end Qh
namespace Qh
open PySem PySem.W PyProof.Rows
def Gd.tg(G:Gd):Nat:=G.P.eW 0
def Gd.xf(G:Gd)(f:Nat):Prop:=G.P.eW (f+1)=1∨G.P.eW (f+1)=4
def PX(G:Gd)(fe:Env)(outer:List Env)(Lf:Addr)(ρ:List Addr)(s:Shared)(af:H)(E:bD):Prop:=
 ∀e aA h' tk aw,Step ρ s.heap aw aA->aG G aw af aA->nH (G.cA 1) (fe::outer) aA h' e->E (.ref e) {s with heap:=h',toks:=tk}
theorem PX.step{G:Gd}{fe:Env}{outer:List Env}{Lf:Addr}{ρ aJ:List Addr}{s:Shared}{af:H}{E:bD}{aA:Heap}{tk:Nat}(p:PX G fe outer Lf ρ s af E)(st:Step ρ s.heap aJ aA):PX G fe outer Lf aJ {s with heap:=aA,toks:=tk} af E:=
 λe aX h' eL aw st' S x=>p e aX h' eL aw (st.trans st') S x
section
variable(G:Gd)(n:Nat)(A:Around)(N:List Str)(env:Env)
def ey(x:E)(e:aq):Prop:=∀(s:Shared)(ρ:List Addr)(σ:H)(L:aQ)(af:H)(fe:Env)(outer:List Env)(Lf:Addr)(Q:bD)(E:bD),bj G N env ρ s.heap L->aG G ρ σ s.heap->Fs A fe outer Lf env ρ s.heap->
 ak (G.ctx n) x L σ=.aF G.tg af->PX G fe outer Lf ρ s af E->wpAny (model G.prog G.w) A (eval e env) Q E s
def u0(x:E)(e:aq):Prop:=∀(s:Shared)(ρ:List Addr)(σ:H)(L:aQ)(af:H)(fe:Env)(outer:List Env)(Lf:Addr)(Q:Bool->Shared->Prop)(E:bD),bj G N env ρ s.heap L->aG G ρ σ s.heap->Fs A fe outer Lf env ρ s.heap->
 bP (G.ctx n) x L σ=.aF G.tg af->PX G fe outer Lf ρ s af E->wpAny (model G.prog G.w) A (isTrue e env (eval e env)) Q E s
def k9(es:EL)(l:List aq):Prop:=∀(pos:Pos)(s:Shared)(ρ:List Addr)(σ:H)(L:aQ)(af:H)(fe:Env)(outer:List Env)(Lf:Addr)(Q:List Value->Shared->Prop)(E:bD),bj G N env ρ s.heap L->aG G ρ σ s.heap->Fs A fe outer Lf env ρ s.heap->
 cZ (G.ctx n) es L σ=.aF G.tg af->PX G fe outer Lf ρ s af E->wpAny (model G.prog G.w) A (spliced (backTo pos (starEach l env))) Q E s
def oG:Prop:=∀(A:Around),Ao A n->∀(fe:Env)(outer:List Env)(Lf:Addr)(env:Env)(f:Nat),G.xf f->∀(vs:List V)(vals:List Value)(s:Shared)(ρ:List Addr)(σ:H)(af:H)(Q:bD)(E:bD),aG G ρ σ s.heap->bH G ρ s.heap vals vs->
 Fs A fe outer Lf env ρ s.heap->av G.P G.script n f vs σ=.aF G.tg af->PX G fe outer Lf ρ s af E->wpAny (model G.prog G.w) A (call (.ref (G.fA f)) vals) Q E s
end
theorem jA{α β:Type}{m:M α}{f:α->M β}{σ af:H}{c:Nat}(h:M.bind m f σ=.aF c af):m σ=.aF c af∨∃a ay,m σ=.ok a ay/\f a ay=.aF c af:=by
 unfold M.bind at h;cases e:m σ with
|ok a ay=>(replace h:=e▸h);exact .inr ⟨a,ay,rfl,h⟩
|aF c1 ay=>(replace h:=e▸h);(apply Q9 h);exact .inl rfl
|bad=>(replace h:=e▸h);exact kF h
def bF{α:Type}(t:Nat)(m:M α):Prop:=∀σ af,m σ≠.aF t af
section
variable{t:Nat}
theorem bF.bind{α β:Type}{m:M α}{f:α->M β}(h:bF t m)(h2:∀a,bF t (f a)):bF t (M.bind m f):=λσ af e=>by
 rcases jA e with q|⟨a,ay,_,q⟩
 ·exact h _ _ q
 ·exact h2 a _ _ q
theorem bF.pure{α:Type}{a:α}:bF t (M.pure a):=λ_ _ e=>by exact qA e
theorem bF.fail{α:Type}:bF t (M.fail:M α):=λ_ _ e=>by exact kF e
theorem bF.ite{α:Type}{c:Prop}[Decidable c]{m m':M α}(h:bF t m)(h2:bF t m'):bF t (if c then m else m'):=by split<;>assumption
theorem bF.dc{o:O}:bF t (dc o):=λ_ _ e=>by exact qA e
theorem bF.cW{i:Nat}:bF t (cW i):=λσ _ e=>by unfold Qh.cW at e;split at e<;>(first|exact qA e|exact kF e|cases e)
theorem bF.da{α:Type}{o:Option α}:bF t (Qh.da o):=by cases o<;>first|exact .pure|exact .fail
theorem bF.bI{v:V}:bF t (bI v):=by
 cases v<;>first|exact .fail|exact .bind .cW λo=>(by cases o<;>first|exact .pure|exact .fail)
theorem bF.dz{v:V}:bF t (dz v):=by cases v<;>first|exact .pure|exact .fail
end
section
variable{G:Gd}{n:Nat}{A:Around}{N:List Str}{env:Env}
theorem NB{x:E}{e:aq}(h:∀L,bF G.tg (ak (G.ctx n) x L)):ey G n A N env x e:=λs ρ σ L af fe outer Lf Q E X S F ev p=>absurd ev (h L _ _)
theorem LJ{x:EL}{l:List aq}(h:∀L,bF G.tg (cZ (G.ctx n) x L)):k9 G n A N env x l:=λpos s ρ σ L af fe outer Lf Q E X S F ev p=>absurd ev (h L _ _)
theorem NC{x:E}{e:aq}(h:∀L,bF G.tg (bP (G.ctx n) x L)):u0 G n A N env x e:=λs ρ σ L af fe outer Lf Q E X S F ev p=>absurd ev (h L _ _)
theorem ni{x:E}{e:aq}(hE:bg G n A N env x e)(hX:ey G n A N env x e){s:Shared}{ρ:List Addr}{σ:H}{L:aQ}{af:H}{fe:Env}{outer:List Env}{Lf:Addr}{β:Type}{f:V->M β}{Q':bD}{E:bD}(X:bj G N env ρ s.heap L)(S:aG G ρ σ s.heap)(F:Fs A fe outer Lf env ρ s.heap)(ev:M.bind (ak (G.ctx n) x L) f σ=.aF G.tg af)(p:PX G fe outer Lf ρ s af E)(k:∀v aA tk aJ ay u,bj G N env aJ aA L->aG G aJ ay aA->Step ρ s.heap aJ aA->Fs A fe outer Lf env aJ aA->Rel G aJ aA v u->f u ay=.aF G.tg af->PX G fe outer Lf aJ {s with heap:=aA,toks:=tk} af E->Q' v {s with heap:=aA,toks:=tk}):
  wpAny (model G.prog G.w) A (eval e env) Q' E s:=by
 rcases jA ev with q|⟨u,ay,e1,e2⟩
 ·exact hX s ρ σ L af fe outer Lf Q' E X S F q p
 ·refine hE s ρ σ L Q' E X S ?_;refine e1.symm▸?_;exact λv aA tk aJ st aH r=>k v aA tk aJ ay u (X.step S st) aH st (F.step st) r e2 (p.step st)
theorem rF{x:EL}{l:List aq}(hE:gp G n A N env x l)(hX:k9 G n A N env x l){pos:Pos}{s:Shared}{ρ:List Addr}{σ:H}{L:aQ}{af:H}{fe:Env}{outer:List Env}{Lf:Addr}{β:Type}{f:List V->M β}{Q':List Value->Shared->Prop}{E:bD}(X:bj G N env ρ s.heap L)(S:aG G ρ σ s.heap)(F:Fs A fe outer Lf env ρ s.heap)(ev:M.bind (cZ (G.ctx n) x L) f σ=.aF G.tg af)(p:PX G fe outer Lf ρ s af E)(k:∀v aA tk aJ ay u,bj G N env aJ aA L->aG G aJ ay aA->Step ρ s.heap aJ aA->Fs A fe outer Lf env aJ aA->bH G aJ aA v u->f u ay=.aF G.tg af->PX G fe outer Lf aJ {s with heap:=aA,toks:=tk} af E->Q' v {s with heap:=aA,toks:=tk}):
  wpAny (model G.prog G.w) A (spliced (backTo pos (starEach l env))) Q' E s:=by
 rcases jA ev with q|⟨u,ay,e1,e2⟩
 ·exact hX pos s ρ σ L af fe outer Lf Q' E X S F q p
 ·refine hE pos s ρ σ L Q' E X S ?_;refine e1.symm▸?_;exact λv aA tk aJ st aH r=>k v aA tk aJ ay u (X.step S st) aH st (F.step st) r e2 (p.step st)
theorem no{α:Type}{m:M α}{σ af:H}{t:Nat}{P:Prop}(h:bF t m)(e:m σ=.aF t af):P:=absurd e (h _ _)
theorem LK{es:EL}{l:List aq}{k:Nat}{p:Pos}(hE:gp G n A N env es l)(hX:k9 G n A N env es l):ey G n A N env (.ax es) (.Tuple l k p):=λs ρ σ L af fe outer Lf Q E X S F ev px=>
 Tuple_ (rF hE hX X S F ev px λv aA tk aJ ay u bx aH st fp r e2 gJ=>no (.ite .pure .fail) e2)
theorem LL{es:EL}{l:List aq}{p:Pos}(hE:gp G n A N env es l)(hX:k9 G n A N env es l):ey G n A N env (.ah es) (.List l p):=λs ρ σ L af fe outer Lf Q E X S F ev px=>
 List_ (rF hE hX X S F ev px λv aA tk aJ ay u bx aH st fp r e2 gJ=>no (.ite .dc .fail) e2)
theorem J9{x:E}{e:aq}{es:EL}{l:List aq}(hE:bg G n A N env x e)(hX:ey G n A N env x e)(H':gp G n A N env es l)(HX:k9 G n A N env es l)(hs:starEach (e::l) env=(false,eval e env)::starEach l env):k9 G n A N env (.cons x es) (e::l):=λpos s ρ σ L af fe outer Lf Q E X S F ev px=>
 args_cons (ni hE hX X S F ev px λv aA tk aJ ay u bx aH st fp r e2 gJ=>rF H' HX bx aH fp e2 gJ λvs aX cz dD bN us dm bM cH kD rs e3 u6=>no .pure e3) hs
theorem bF.binop{t:Nat}{op:Operator}{a b:V}:bF t (binop op a b):=by
 have ar:∀{f:Int->Int->M V},(∀x y,bF t (f x y))->bF t (arith f a b):=λhf=>by
  cases a<;>first|exact .fail|(cases b<;>first|exact .fail|exact hf _ _)
 cases op with
|Add=>
  show bF t (yx a b);(clear ar;cases a)<;>first|exact .fail|(cases b<;>first|exact .fail|exact .pure|exact .ite .pure .fail|exact .bind .bI λ_=>.bind .bI λ_=>.ite .dc .fail)
|Sub=>exact ar λ_ _=>.pure
|Mult=>exact ar λ_ _=>.ite .pure .fail
|Mod=>exact ar λ_ _=>.ite .fail .pure
|FloorDiv=>exact ar λ_ _=>.ite .fail .pure
|Pow=>exact ar λ_ _=>.ite .pure .fail
|_=>exact .fail
theorem LM{op:Operator}{a b:E}{l r:aq}{p:Pos}(hE:bg G n A N env a l)(hX:ey G n A N env a l)(H':bg G n A N env b r)(HX:ey G n A N env b r):ey G n A N env (.aj op a b) (.BinOp l op r p):=λs ρ σ L af fe outer Lf Q E X S F ev px=>
 wpAny_BinOp (ni hE hX X S F ev px λv aA tk aJ ay u bx aH st fp r e2 gJ=>ni H' HX bx aH fp e2 gJ λv' aX cz dD bN u' dm bM cH kD r' e3 u6=>no .binop e3)
end
end Qh
namespace Qh
open PySem PySem.W PyProof.Rows
section
variable{G:Gd}{n:Nat}{A:Around}{N:List Str}{env:Env}
def TurnOk(G:Gd)(A:Around)(N:List Str)(cenv:Env)(L:aQ)(ifs:List aq)(elt:aq)(m:M (Option V)):Prop:=
 ∀(s:Shared)(ρ:List Addr)(σ ay:H)(y:Option V)(Qe:bD)(Qn:Shared->Prop)(E:bD),bj G N cenv ρ s.heap L->aG G ρ σ s.heap->m σ=.ok y ay->
  (∀h' tk aw,Step ρ s.heap aw h'->aG G aw ay h'->match y with|some u=>∀w,Rel G aw h' w u->Qe w {s with heap:=h',toks:=tk}|none=>Qn {s with heap:=h',toks:=tk})->
  wpAny (model G.prog G.w) A (forIn ifs true λc r=>if r=true then do let ok ←isTrue c cenv (eval c cenv);pure (ForInStep.yield ok) else pure (ForInStep.yield r))
   (λok hG=>if ok=true then wpAny (model G.prog G.w) A (eval elt cenv) Qe E hG else Qn hG) E s
theorem qP(hE:bg G n A N env elt e):TurnOk G A N env L [] e (M.bind (ak (G.ctx n) elt L) λy=>M.pure (some y)):=λs ρ σ ay y Qe Qn E X S e1 h=>by
 refine wpAny_tests_nil ?_;simp only[if_true];refine bB λXx aI=>?_;refine bo (eu e1) λu bN e2 e3=>?_;refine fv e3 λaL cR=>?_;(clear e1;subst aL);subst cR;refine aI ?_;refine hE s ρ σ L Qe E X S ?_;refine e2.symm▸?_;exact λw h' tk aw st S' r=>h h' tk aw st S' w r
theorem A5(hE:bg G n A N env elt e)(hT:hZ G n A N env t te):
  TurnOk G A N env L [te] e (M.bind (bP (G.ctx n) t L) λb=>if b then M.bind (ak (G.ctx n) elt L) λy=>M.pure (some y) else M.pure none):=λs ρ σ ay y Qe Qn E X S e1 h=>by
 refine bo (eu e1) λb bN e2 e3=>?_;refine wpAny_tests_one (hT s ρ σ L _ E X S ?_);refine e2.symm▸?_;rintro b' h' tk aw st S' rfl;clear e2;cases b' with
|false=>
  refine bB λXx aI=>?_;refine fv e3 λaL cR=>?_;(clear e1;subst aL);subst cR;refine aI ?_;simp only[Bool.false_eq_true,if_false];exact h h' tk aw st S'
|true=>
  simp only[if_true] at e3 ⊢;refine bo (eu e3) λu en e4 e5=>?_;refine fv e5 λaL cR=>?_;(clear e5 e3;subst aL);subst cR;refine hE _ aw bN L Qe E (X.step S st) S' ?_;refine e4.symm▸?_;exact λw h'' eL r6 st' ze r=>h h'' eL r6 (st.trans st') ze w r
def x9(G:Gd)(A:Around)(N:List Str)(cenv:Env)(L:aQ)(ifs:List aq)(elt:aq)(m:M (Option V)):Prop:=
 ∀(s:Shared)(ρ:List Addr)(σ af:H)(fe:Env)(outer:List Env)(Lf:Addr)(Qe:bD)(Qn:Shared->Prop)(E:bD),bj G N cenv ρ s.heap L->aG G ρ σ s.heap->Fs A fe outer Lf cenv ρ s.heap->m σ=.aF G.tg af->PX G fe outer Lf ρ s af E->
  wpAny (model G.prog G.w) A (forIn ifs true λc r=>if r=true then do let ok ←isTrue c cenv (eval c cenv);pure (ForInStep.yield ok) else pure (ForInStep.yield r))
   (λok hG=>if ok=true then wpAny (model G.prog G.w) A (eval elt cenv) Qe E hG else Qn hG) E s
theorem H6(hX:ey G n A N env elt e):x9 G A N env L [] e (M.bind (ak (G.ctx n) elt L) λy=>M.pure (some y)):=λs ρ σ af fe outer Lf Qe Qn E X S F e1 p=>by
 refine wpAny_tests_nil ?_;simp only[if_true];rcases jA e1 with q|⟨_,_,_,q⟩
 ·exact hX s ρ σ L af fe outer Lf Qe E X S F q p
 ·exact no .pure q
theorem DW(hk:env.scope.kind=.function):(env.scope.kind==.class||(env.scope.kind==.module&&env.locals != env.globals))=false:=by(refine hk.symm▸?_);rfl
theorem H7(q:h.PlainList D xs):∀a ys,IsTup h a ys->a≠D:=by
 rintro a ys ⟨o,e,c,_⟩ rfl;refine b6 (q) λk e'=>?_;(replace e':=e▸e');(refine dt e' λaL=>?_;(clear e;subst aL))
 injection c with c
 exact absurd c (by decide)
theorem mr(q:h.Ns C m):∀a ys,IsTup h a ys->a≠C:=by
 rintro a ys ⟨o,e,c,n,d⟩ rfl;refine fG (q) λo' es ep e' d' _=>?_;(replace e':=e▸e');(refine dt e' λaL=>?_;(clear e';subst aL));(replace d':=d▸d');cases d'
theorem Ga(h:k+(m+1)<=B):k+1+m<=B:=lN 0x38134184c04904920538106134c [_,_,_] rfl h
theorem Rb(h1:n<=k)(h2:k+(m+1)<=B)(h3:B<=aO+1):n<=sizeLine:=by
 have:aO=1000000:=rfl;have:sizeLine=2^24:=rfl
 lia
theorem Rc(h:xs.length<=k):(xs++[w]).length<=k+1:=by(refine(List.length_append).symm▸?_);exact Nat.succ_le_succ h
theorem Az(e:dN sr k σ=.ok r ay):ay=σ:=by
 cases sr with
|fix vs=>(apply eQ e);rfl
|live i=>
  refine bo (eu e) λvs af e4 e5=>?_;refine ca (eE e4) λ_ _ bc _=>?_;clear e4;(clear e;subst bc);(apply eQ e5);rfl
def uG(t:Nat)(f:V->M (Option V))(T':H->List V->Prop)(End:H->List V->Prop)(iV:H->Prop)(σ:H)(us:List V):Option V->Prop
|none=>End σ us
|some v=>(∃y bN,f v σ=.ok y bN/\T' bN (us++y.toList))∨∃af,f v σ=.aF t af/\iV af
def vt(sr:Src)(f:V->M (Option V))(all:List V)(cw:H)(m k:Nat)(σ:H)(us:List V):Prop:=∃rest,dk sr f m k σ=.ok rest cw/\us++rest=all
theorem vt.next(c:vt sr f all cw m k σ us):∃m' r,m=m'+1/\dN sr k σ=.ok r σ/\uG t f (vt sr f all cw m' (k+1)) (λσ us=>us=all/\σ=cw) (λ_=>False) σ us r:=by
 refine aM (c) λrest ec E0=>?_;clear c;cases m with
|zero=>exact cT ec
|succ m=>
  refine bo (eu ec) λr ay e1 e2=>?_;obtain rfl:=Az e1;refine⟨m,r,rfl,e1,?_⟩;clear e1;cases r with
  |none=>(refine fv e2 λaL cR=>?_;(clear e2 ec;subst aL);subst cR);exact⟨by rw[←E0,List.append_nil],rfl⟩
  |some v=>
   refine bB λXx aI=>?_;refine bo (eu e2) λy bN e3 e4=>?_;refine bo (eu e4) λrest' en e5 e6=>?_;refine aI ?_;refine fv e6 λaL cR=>?_;(clear e6 e4 e2;subst aL);subst cR;exact .inl ⟨y,bN,e3,rest',e5,by rw[←E0,List.append_assoc]⟩
def u7(t:Nat)(sr:Src)(f:V->M (Option V))(cw:H)(m k:Nat)(σ:H)(_:List V):Prop:=dk sr f m k σ=.aF t cw
theorem u7.next(c:u7 t sr f cw m k σ us):∃m' r,m=m'+1/\dN sr k σ=.ok r σ/\uG t f (u7 t sr f cw m' (k+1)) (λ_ _=>False) (λσ=>σ=cw) σ us r:=by
 cases m with
|zero=>exact kF c
|succ m=>
  rcases jA c with q|⟨r,ay,e1,e2⟩
  ·exact no (by clear q c;cases sr with
    |fix vs=>exact .pure
    |live i=>exact .bind .bI λ_=>.pure) q
  ·obtain rfl:=Az e1;refine⟨m,r,rfl,e1,?_⟩;clear e1;cases r with
   |none=>exact no .pure e2
   |some v=>
    rcases jA e2 with q|⟨y,bN,e3,e4⟩
    ·exact .inr ⟨cw,q,rfl⟩
    ·rcases jA e4 with q|⟨_,_,_,q⟩
     ·exact .inl ⟨y,bN,e3,q⟩
     ·exact no .pure q
def r7(G:Gd)(I D C:Addr)(sr:Src)(T:Nat->Nat->H->List V->Prop)(cb:Shared)(cL:List Addr)(B:Nat)(m:Nat)(s:Shared):Prop:=
 ∃h' tk aw af k xs us mC,s={cb with heap:=h',toks:=tk}/\Step cL cb.heap aw h'/\aG G aw af h'/\d6 G aw h' I sr k/\h'.PlainList D xs.toArray/\bH G aw h' xs us/\D∉aw/\C∉aw/\h'.Ns C mC/\
   T m k af us/\xs.length<=k/\k+m<=B
theorem r7.elim{I D C:Addr}{sr:Src}{T:Nat->Nat->H->List V->Prop}{CN:Nat->Nat->H->List V->Option V->Prop}{cb s:Shared}{cL:List Addr}{B m:Nat}{X:Nat->Shared->Prop}(h:r7 G I D C sr T cb cL B m s)(hT:∀m k σ us,T m k σ us->∃m' r,m=m'+1/\dN sr k σ=.ok r σ/\CN m' k σ us r)(j:∀h' tk aw af k xs us mC m r,Step cL cb.heap aw h'->aG G aw af h'->d6 G aw h' I sr k->h'.PlainList D xs.toArray->bH G aw h' xs us->D∉aw->C∉aw->h'.Ns C mC->dN sr k af=.ok r af->CN m k af us r->xs.length<=k->k+(m+1)<=B->X (m+1) {cb with heap:=h',toks:=tk}):X m s:=by
 refine bB λXx aI=>?_;obtain⟨h',tk,aw,af,k,xs,us,mC,rfl,st,S,it,hl,rl,mf,ia,hns,ec,hk,hkm⟩:=h;obtain⟨m,r,rfl,e1,e2⟩:=hT _ _ _ _ ec;refine aI ?_;exact j _ _ _ _ _ _ _ _ _ _ st S it hl rl mf ia hns e1 e2 hk hkm
theorem I8{elt' iter:aq}{x:Str}{px pos:Pos}{ifs:List aq}{scope:Scope}{v:Nat}{br:List Nat}{cl:List (Str×Addr)}{I D C:Addr}{sr:Src}{f:V->M (Option V)}{R:Result->Shared->Prop}{cb:Shared}{cL:List Addr}{O7:H}{L:aQ}{B:Nat}{T:Nat->Nat->H->List V->Prop}{End:H->List V->Prop}{iV:H->Prop}{fe:Env}{outer:List Env}{Lf:Addr}(hh:A.handled=none)(lj:bj G N env cL cb.heap L)(E1:aG G cL O7 cb.heap)(Z:g0 N env scope x v br)(hcl:∀y,(y,NameKind.free)∈scope.names->cl.lookup y=env.cells.lookup y)(hI:cb.heap.get? I=none)(hD:cb.heap.get? D=none)(hC:cb.heap.get? C=none)(vv:I≠D)(hIC:I≠C)(hDC:D≠C)(hB:B<=aO+1)(hT:∀m k σ us,T m k σ us->∃m' r,m=m'+1/\dN sr k σ=.ok r σ/\uG G.tg f (T m' (k+1)) End iV σ us r)(hturn:∀it,TurnOk G A N (compEnvC scope cl C env) (b7 (cQ L br) v it) ifs elt' (f it))(hbad:∀af,iV af->Fs A fe outer Lf env cL cb.heap/\(∀it,x9 G A N (compEnvC scope cl C env) (b7 (cQ L br) v it) ifs elt' (f it))/\∀e aA h' tk aw base mC,Step cL cb.heap aw aA->aG G aw af aA->aA.Ns C mC->C∉aw->iI (fe::outer) aA base->gI base (fe::outer) e (G.cA 1) (rawInt Lf) h'->aA.UpToSlots h'->R (.error (.ref e)) {cb with heap:=h',toks:=tk})(hR:∀h' tk aw xs mC cw all,End cw all->Step cL cb.heap aw h'->aG G aw cw h'->h'.PlainList D xs.toArray->bH G aw h' xs all->D∉aw->C∉aw->h'.Ns C mC->R (.ok .next) {cb with heap:=h',toks:=tk}):
  ∀(m:Nat)(s:Shared),r7 G I D C sr T cb cL B m s->
   codeAny (model G.prog G.w) A (.compLoop (.ListComp elt' [⟨.Name x px,iter,ifs,0⟩] scope pos) 0 (.ref I) (.ref D) (compEnvC scope cl C env)) R s:=by
 have eh:∀a,cb.heap.get? a=none->G.hb.get? a=none:=λa ha=>by
  cases e:G.hb.get? a with
  |none=>rfl
  |some o=>(replace ha:=(E1.base _ _ e)▸ha);exact d8 ha
 intro m s hinv
 let J:Nat->Shared->Prop:=λm s=>r7 G I D C sr T cb cL B m s
 let ce:=compEnvC scope cl C env
 refine(show codeAny (model G.prog G.w) A (.compLoop (.ListComp elt' [⟨.Name x px,iter,ifs,0⟩] scope pos) 0 (.ref I) (.ref D) ce) R s from codeAny_compLoop_tests J ?_ m hinv);clear hinv m s;intro m s hJ;apply r7.elim hJ hT;clear hJ m s hT;intro h' tk aw af k xs us mC m r st S it hl rl mf ia hns e1 e2 hk hkm
 ·refine And.right (rt hh S it e1 λxv aA fC gC hv=>?_);refine bB λXx aI=>?_;have ow:=it.own;have aH:aG G aw af aA:=S.il (ow.gw S) (eh I hI) ow.jc gC;have nj:Step cL cb.heap aw aA:=st.other hI gC;have DX:aA.PlainList D xs.toArray:=let ⟨q,e⟩:=hl;⟨q,gC D _ (Ne.symm vv) e⟩
  have uH:bH G aw aA xs us:=rl.mono (nZ ow gC) λ_ _ e=>e;have xx:aA.Ns C mC:=hns.at λo e=>gC C o (Ne.symm hIC) e;clear e1;cases r with
  |none=>
   obtain rfl:xv=none:=hv;exact aI (hR aA fC aw xs mC af us e2 nj aH DX uH mf ia xx)
  |some ya=>
   refine ca (hv) λw bh zf it₁=>?_;clear hv;subst bh;refine aI ?_;clear aI Xx;refine wpAny_assign_Name (wpAny_storeName_local (lookup_relabel_local Z.aa) xx (λaX rR gD=>?_) (DW Z.kind));refine bB λXx aI=>?_;have eo:∀b o,b≠C->aA.get? b=some o->aX.get? b=some o:=λb o hb e=>(gD.2 b hb).trans e;have nI:=mr xx;have qd:∀a ys,IsTup aA a ys->IsTup aX a ys:=λa ys t=>by
    have:=nI a ys t;obtain⟨o,e,c⟩:=t;exact⟨o,eo a o this e,c⟩
   have bM:aG G aw af aX:=aH.il ia (eh C hC) nI eo;have cH:Step cL cb.heap aw aX:=nj.other hC eo;have dm:=(lj.step E1 cH).inner Z hcl rR (by simp) (zf.mono qd λ_ _ e=>e) ia (eh C hC);have DY:aX.PlainList D xs.toArray:=let ⟨q,e⟩:=DX;⟨q,eo D _ hDC e⟩
   rcases e2 with ⟨y,bN,e3,e5⟩|⟨bN,e3,eb⟩
   rotate_left
   ·refine k8 (hbad bN eb) λyz hX zg=>?_;have rS:=yz.step cH;have kD:Fs A fe outer Lf (compEnvC scope cl C env) aw aX:=⟨rS.fr,rS.fl,rS.o6,rS.alive,rS.own⟩;refine aI (hX ya _ aw af bN fe outer Lf _ _ _ dm bM kD e3 λe cI dJ iL gk d5 dn x=>?_);refine tF (kD.step d5) x λee base Qu hd u=>?_;refine zg e cI ee iL gk base _ (cH.trans d5) dn (rR.at λo e=>d5.keep C o e ia) (λq=>?_) Qu hd u;rcases d5.fresh C q with q|q
    ·exact ia q
    ·refine bB λXx aI=>?_;refine gg (rR) λo _ _ e _=>?_;refine aI ?_;exact absurd (e.symm.trans q) (by simp)
   refine aI (hturn ya _ aw af bN y _ _ _ dm bM e3 λcI gj gk d5 dn=>?_);clear aI Xx;have inD:∀{a:Addr}{o:Obj},aX.get? a=some o->a∉aw->a∉gk:=λ{a o} e hn q=>by
    rcases d5.fresh a q with q|q
    ·exact hn q
    ·exact absurd (e.symm.trans q) (by simp)
   have oR:Step cL cb.heap gk cI:=cH.trans d5;have DZ:=(it₁.mono (λo e=>eo I o hIC e) qd λ_ _ e=>e).step bM d5;have yb:cI.PlainList D xs.toArray:=let ⟨q,e⟩:=DY;⟨q,d5.keep D _ e mf⟩
   have xy:D∉gk:=let ⟨q,e⟩:=DY;inD e mf
   have C5:C∉gk:=by obtain⟨o,_,_,e,_⟩:=rR;exact inD e ia
   have C6:cI.Ns C _:=rR.at λo e=>d5.keep C o e ia;have D0:=(uH.mono qd λ_ _ e=>e).step d5 bM;clear e3;cases y with
   |none=>
    refine⟨m,Nat.lt_succ_self _,cI,gj,gk,bN,k+1,xs,us,_,rfl,oR,dn,DZ,yb,D0,xy,C5,C6,by simpa using e5,jR hk,Ga hkm⟩
   |some u=>
    intro wy Rd;refine wpAny_list_append_plain yb (λdJ O8 je=>?_) (by(refine(List.size_toArray).symm▸?_);exact Rb hk hkm hB);have rT:∀b o,b≠D->cI.get? b=some o->dJ.get? b=some o:=λb o hb e=>(je.2 b hb).trans e;have Gb:=H7 yb;have D2:∀a ys,IsTup cI a ys->IsTup dJ a ys:=λa ys t=>by
     have:=Gb a ys t;obtain⟨o,e,c⟩:=t;exact⟨o,rT a o this e,c⟩
    refine⟨m,Nat.lt_succ_self _,dJ,gj,gk,bN,k+1,xs++[wy],us++[u],_,rfl,oR.other hD rT,dn.il xy (eh D hD) Gb rT,DZ.mono (λo e=>rT I o vv e) D2 (λ_ _ e=>e),?_,(D0.append (.cons Rd .nil)).mono D2 (λ_ _ e=>e),xy,C5,
     C6.at (λo e=>rT C o (Ne.symm hDC) e),e5,Rc hk,Ga hkm⟩
    have e:xs.toArray.push wy=(xs++[wy]).toArray:=by simp
    (refine e▸?_);exact O8
end
end Qh
namespace Qh
open PySem PySem.W PyProof.Rows
section
variable{G:Gd}{n:Nat}{A:Around}{N:List Str}{env:Env}
theorem BH{elt' iter:aq}{x:Str}{px pos:Pos}{ifs:List aq}{scope:Scope}{v:Nat}{br:List Nat}{cl:List (Str×Addr)}{I:Addr}{sr:Src}{f:V->M (Option V)}{use:Option (Value->Sem Unit)}{Q:bD}{E:bD}{bA:Shared}{aJ:List Addr}{ay:H}{L:aQ}{B cz:Nat}{aX:Heap}{T:Nat->Nat->H->List V->Prop}{End:H->List V->Prop}{iV:H->Prop}{fe:Env}{outer:List Env}{Lf:Addr}(hh:A.handled=none)(bx:bj G N env aJ bA.heap L)(aH:aG G aJ ay bA.heap)(Z:g0 N env scope x v br)(hcl:∀y,(y,NameKind.free)∈scope.names->cl.lookup y=env.cells.lookup y)(hI:bA.heap.objs.size<=I)(hk:∀b o,bA.heap.get? b=some o->aX.get? b=some o)(it:d6 G aJ aX I sr 0)(hB:B<=aO+1)(hT:∀m k σ us,T m k σ us->∃m' r,m=m'+1/\dN sr k σ=.ok r σ/\uG G.tg f (T m' (k+1)) End iV σ us r)(ec:T B 0 ay [])(hturn:∀C it,TurnOk G A N (compEnvC scope cl C env) (b7 (cQ L br) v it) ifs elt' (f it))(hbad:∀C af,bA.heap.get? C=none->iV af->Fs A fe outer Lf env aJ bA.heap/\(∀it,x9 G A N (compEnvC scope cl C env) (b7 (cQ L br) v it) ifs elt' (f it))/\∀D e aA h' tk aw base mC,Step aJ bA.heap aw aA->aG G aw af aA->aA.Ns C mC->C∉aw->iI (fe::outer) aA base->gI base (fe::outer) e (G.cA 1) (rawInt Lf) h'->aA.UpToSlots h'->compPost (model G.prog G.w) A E use Q (.ref D) C (.error (.ref e)) {bA with heap:=h',toks:=tk})(hend:∀D C h' tk aw xs mC cw all,End cw all->bA.heap.get? D=none->bA.heap.get? C=none->D≠C->Step aJ bA.heap aw h'->aG G aw cw h'->h'.PlainList D xs.toArray->bH G aw h' xs all->D∉aw->C∉aw->h'.Ns C mC->
   compPost (model G.prog G.w) A E use Q (.ref D) C (.ok .next) {bA with heap:=h',toks:=tk}):
  wpAny (model G.prog G.w) A (newList []) (λacc hG=>wpAny (model G.prog G.w) A (newFunctionEnv scope env.globals cl [] env.qual none .none (some env)) (λcenv oS=>
   codeAny (model G.prog G.w) A (.compStart (.ListComp elt' [⟨.Name x px,iter,ifs,0⟩] scope pos) 0 (.ref I) acc {cenv with scope:=relabel scope env}) (compPost (model G.prog G.w) A E use Q acc cenv.locals) oS) E hG) E {bA with heap:=aX,toks:=cz}:=by
 have zh:I<aX.objs.size:=let ⟨_,_,e,_⟩:=it.own;Heap.lt_size e
 have hsz:bA.heap.objs.size<=aX.objs.size:=Nat.le_of_lt (Nat.lt_of_le_of_lt hI zh);have pM:∀a,bA.heap.objs.size<=a->bA.heap.get? a=none:=λa ha=>Heap.get?_none_of_le ha;refine wpAny_newObj_type (wpAny_newFunctionEnv Z.C4 (by intro y hy;simp at hy) (λdJ xA ud=>?_) Z.kind);dsimp only at xA ud ⊢;generalize zi:aX.push {cls:=.type "list",dict:=none,data:=.seq ([]:List Value).toArray}=H3 at xA ud ⊢;have hC:H3.objs.size=aX.objs.size+1:=by rw[←zi,Heap.size_push]
 have old:∀b o,aX.get? b=some o->dJ.get? b=some o:=λb o e=>
  ud.extBut b o (by(refine hC.symm▸?_);exact Nat.ne_of_lt (Nat.lt_succ_of_lt (Heap.lt_size e))) (Heap.get?_push_of_some _ (zi▸Heap.get?_push_of_some _ e))
 have hDC:aX.objs.size≠H3.objs.size:=by(refine hC.symm▸?_);exact Nat.ne_of_lt (Nat.lt_succ_self _)
 have vv:I≠aX.objs.size:=Nat.ne_of_lt zh;have hIC:I≠H3.objs.size:=by(refine hC.symm▸?_);exact Nat.ne_of_lt (Nat.lt_succ_of_lt zh)
 have hkeep:∀b o,bA.heap.get? b=some o->dJ.get? b=some o:=λb o e=>old b o (hk b o e);have D3:d6 G aJ dJ I sr 0:=it.mono (λo e=>old _ _ e) (λa xs ⟨o,e,c⟩=>⟨o,old _ _ e,c⟩) λ_ _ e=>e;have vb:bA.heap.objs.size<=H3.objs.size:=by(refine hC.symm▸?_);exact jR hsz
 have loop:codeAny (model G.prog G.w) A (.compLoop (.ListComp elt' [⟨.Name x px,iter,ifs,0⟩] scope pos) 0 (.ref I) (.ref aX.objs.size) (compEnvC scope cl H3.objs.size env))
   (compPost (model G.prog G.w) A E use Q (.ref aX.objs.size) H3.objs.size) {bA with heap:=dJ,toks:=cz+([]:List (Str×Value)).length}:=
  I8 hh bx aH Z hcl (pM _ hI) (pM _ hsz) (pM _ vb) vv hIC hDC hB hT (hturn _)
   (λaf b=>let ⟨a1,a2,a3⟩:=hbad _ af (pM _ vb) b;⟨a1,a2,λe aA h' tk aw base mC=>a3 _ e aA h' tk aw base mC⟩)
   (λh' tk aw xs mC cw all he st S hl rl h1 h2 hn=>hend _ _ h' tk aw xs mC cw all he (pM _ hsz) (pM _ vb) hDC st S hl rl h1 h2 hn) B _
   ⟨dJ,_,aJ,ay,0,[],[],_,rfl,(Step.grow aH hkeep),(aH.grow hkeep),D3,(⟨0,ud.extBut _ _ hDC (Heap.get?_push_of_some _ (zi▸Heap.get?_push_size _ rfl))⟩),.nil,(aH.fresh hsz),(aH.fresh vb),xA,ec,by simp,by exact lN 825917182536 [_] rfl⟩
 exact codeAny_compStart_list loop (Lq D3 loop)
theorem A6{elt' iter:aq}{x:Str}{px pos:Pos}{ifs:List aq}{scope:Scope}{v:Nat}{br:List Nat}{cl:List (Str×Addr)}{I:Addr}{sr:Src}{f:V->M (Option V)}{use:Option (Value->Sem Unit)}{Q:bD}{E:bD}{bA:Shared}{aJ:List Addr}{ay cw:H}{L:aQ}{all:List V}{B cz:Nat}{aX:Heap}(hh:A.handled=none)(bx:bj G N env aJ bA.heap L)(aH:aG G aJ ay bA.heap)(Z:g0 N env scope x v br)(hcl:∀y,(y,NameKind.free)∈scope.names->cl.lookup y=env.cells.lookup y)(hI:bA.heap.objs.size<=I)(hk:∀b o,bA.heap.get? b=some o->aX.get? b=some o)(it:d6 G aJ aX I sr 0)(hB:B<=aO+1)(ec:dk sr f B 0 ay=.ok all cw)(hturn:∀C it,TurnOk G A N (compEnvC scope cl C env) (b7 (cQ L br) v it) ifs elt' (f it))(hend:∀D C h' tk aw xs mC,bA.heap.get? D=none->bA.heap.get? C=none->D≠C->Step aJ bA.heap aw h'->aG G aw cw h'->h'.PlainList D xs.toArray->bH G aw h' xs all->D∉aw->C∉aw->h'.Ns C mC->
   compPost (model G.prog G.w) A E use Q (.ref D) C (.ok .next) {bA with heap:=h',toks:=tk}):
  wpAny (model G.prog G.w) A (newList []) (λacc hG=>wpAny (model G.prog G.w) A (newFunctionEnv scope env.globals cl [] env.qual none .none (some env)) (λcenv oS=>
   codeAny (model G.prog G.w) A (.compStart (.ListComp elt' [⟨.Name x px,iter,ifs,0⟩] scope pos) 0 (.ref I) acc {cenv with scope:=relabel scope env}) (compPost (model G.prog G.w) A E use Q acc cenv.locals) oS) E hG) E {bA with heap:=aX,toks:=cz}:=
 BH (fe:=env) (outer:=[]) (Lf:=0) hh bx aH Z hcl hI hk it hB (T:=vt sr f all cw) (λ_ _ _ _ c=>c.next) ⟨all,ec,rfl⟩ hturn (λ_ _ _ b=>b.elim) λD C h' tk aw xs mC Sx all' he=>by
  refine bB λXx aI=>?_;obtain⟨rfl,rfl⟩:=he;refine aI ?_;exact hend D C h' tk aw xs mC
theorem AA{elt' iter:aq}{x:Str}{px pos:Pos}{ifs:List aq}{scope:Scope}{v:Nat}{br:List Nat}{cl:List (Str×Addr)}{I:Addr}{sr:Src}{f:V->M (Option V)}{Q:bD}{E:bD}{bA:Shared}{aJ:List Addr}{ay:H}{L:aQ}{B cz:Nat}{aX:Heap}(hh:A.handled=none)(bx:bj G N env aJ bA.heap L)(aH:aG G aJ ay bA.heap)(Z:g0 N env scope x v br)(hcl:∀y,(y,NameKind.free)∈scope.names->cl.lookup y=env.cells.lookup y)(hI:bA.heap.objs.size<=I)(hk:∀b o,bA.heap.get? b=some o->aX.get? b=some o)(it:d6 G aJ aX I sr 0)(hB:B<=aO+1)(hturn:∀C it,TurnOk G A N (compEnvC scope cl C env) (b7 (cQ L br) v it) ifs elt' (f it))(h:PV G (M.bind (dk sr f B 0) (λvs=>dc (.ah vs)) ay) aJ bA Q):
  wpAny (model G.prog G.w) A (newList []) (λacc hG=>wpAny (model G.prog G.w) A (newFunctionEnv scope env.globals cl [] env.qual none .none (some env)) (λcenv oS=>
   codeAny (model G.prog G.w) A (.compStart (.ListComp elt' [⟨.Name x px,iter,ifs,0⟩] scope pos) 0 (.ref I) acc {cenv with scope:=relabel scope env}) (compPost (model G.prog G.w) A E none Q acc cenv.locals) oS) E hG) E {bA with heap:=aX,toks:=cz}:=by
 refine bo (aT.bind h) λall cw ec h1=>?_;have eh:∀a,bA.heap.get? a=none->G.hb.get? a=none:=λa ha=>by
  cases e:G.hb.get? a with
  |none=>rfl
  |some o=>(replace ha:=(aH.base _ _ e)▸ha);exact d8 ha
 refine A6 hh bx aH Z hcl hI hk it hB ec hturn λD C h' tk aw xs mC hD hC hDC st S hl rl mf ia hns=>⟨mC,hns,λh'' hs=>?_⟩;have gS:∀b o,b≠C->h'.get? b=some o->h''.get? b=some o:=λb o hb e=>(hs.2 b hb).trans e;have nI:=mr hns;have tu:∀a ys,IsTup h' a ys->IsTup h'' a ys:=λa ys t=>by
  have:=nI a ys t;obtain⟨o,e,c⟩:=t;exact⟨o,gS a o this e,c⟩
 have S':aG G aw cw h'':=S.il ia (eh C hC) nI gS;have st':Step aJ bA.heap aw h'':=st.other hC gS;have hl':h''.PlainList D xs.toArray:=let ⟨q,e⟩:=hl;⟨q,gS D _ hDC e⟩
 refine aZ (S'.adopt mf (eh D hD) (o:=.ah all) ⟨xs,hl',(rl.mono tu λ_ _ e=>e).mono (λ_ _ t=>t) λi b e=>by rw[List.getElem?_append_left (List.getElem?_eq_some_iff.mp e).1];exact e⟩) λze hi=>?_;exact h1 (.ref D) h'' tk _ (st'.adopt hD) ze (.ref hi)
def jG:aq->Bool
|.Set ..=>false
|_=>true
theorem kI(h:jG iter=true):∀x,foldedSetIterable iter env x=pure x:=λx=>by
 cases iter<;>first|rfl|exact ff h
theorem BI{lj src:E}{elt' iter:aq}{x:Str}{px pos:Pos}{ifs:List aq}{scope:Scope}{v:Nat}{br:List Nat}{f:aQ->V->M (Option V)}(Y:Ao A n)(hE:bg G n A N env src iter)(Z:g0 N env scope x v br)(hns:jG iter=true)(hev:∀L σ,ak (G.ctx n) lj L σ=M.bind (ak (G.ctx n) src L) (λx=>M.bind (srcOf x) λsr=>M.bind (eX sr) λk=>if k<=aO then M.bind (dk sr (λit=>f (b7 (cQ L br) v it) it) (k+1) 0) λvs=>dc (.ah vs) else M.fail) σ)(hturn:∀cl C L it,(∀y,(y,NameKind.free)∈scope.names->cl.lookup y=env.cells.lookup y)->TurnOk G A N (compEnvC scope cl C env) L ifs elt' (f L it)):
  bg G n A N env lj (.ListComp elt' [⟨.Name x px,iter,ifs,0⟩] scope pos):=λs ρ σ L Q E X S h=>by
 rw[hev] at h;have kU:∀y∈scope.names,y.2=.free->(env.cells.lookup y.1).isSome=true:=λy hy hf=>by
  refine bo (X.cl y.1 (Z.free y hy hf)) λc _ hc _=>?_
  (refine hc.symm▸?_);rfl
 refine aM (qO kU) λcl hclos hcl=>?_;rw[eval_ListComp];refine wpAny_comprehension_free rfl (kI hns) hclos Z.kind Z.locs (hE.then X S h λxv aA tk aJ ay u bx aH st r h1=>?_);refine bo (aT.bind h1) λsr bN e2 h2=>?_;refine(kg aH r e2 λI aX hI hk it=>?_).2;refine bB λXx aI=>?_;refine aZ (kg (s:={s with heap:=aA,toks:=tk}) (A:=A) (E:=λ_ _=>True) (Q:=λ_ _=>True) aH r e2 (λ_ _ _ _ _=>trivial)) λcu _=>?_;clear e2 h1;subst cu;refine bo (aT.bind h2) λk en e3 h3=>?_;have Rf:en=bN:=by
  cases sr with
  |fix vs=>(apply eQ e3);rfl
  |live i=>
   refine bo (eu e3) λvs af e4 e5=>?_;refine ca (eE e4) λ_ _ bc _=>?_;clear e4;subst bc;(apply eQ e5);rfl
 subst Rf;obtain⟨hle,h4⟩:=aT.ite h3;refine aI ?_;exact AA Y.hh bx aH Z hcl hI hk it (lN 0x6134184c04904920534c [_,_] rfl hle) (λC it=>hturn cl C _ it hcl) h4
end
end Qh
namespace Qh
set_option backward.match.sparseCases false
open PySem PySem.W PyProof.Rows
section
variable{t:Nat}
theorem bF.dU{v:V}:bF t (dU v):=by cases v<;>first|exact .pure|exact .fail
theorem bF.iw{a b:V}:bF t (iw a b):=by
 cases a<;>first|exact .fail|(cases b<;>first|exact .fail|exact .pure|exact .ite .pure .fail|exact .bind .bI λ_=>.bind .bI λ_=>.ite .pure .fail)
theorem bF.among{x:V}{vs:List V}:bF t (among x vs):=by
 unfold Qh.among;split<;>first|exact .pure|exact .ite .pure .fail
theorem bF.iA{x c:V}:bF t (iA x c):=by
 cases c with
|ax vs=>exact .among
|str s=>show bF t (match x with|.str y=>_|_=>M.fail);cases x<;>first|exact .fail|exact .ite .pure .fail
|ref i=>
  refine .bind .cW λo=>?_;cases o with
  |ah vs=>exact .among
  |aD es=>show bF t (match x with|.str k=>_|_=>M.fail);cases x<;>first|exact .fail|exact .pure
  |_=>exact .fail
|_=>exact .fail
theorem bF.dH{op:CmpOp}{a b:V}:bF t (dH op a b):=by
 cases op with
|Eq=>exact .iw
|NotEq=>exact .bind .iw λ_=>.pure
|Lt=>exact .bind .dz λ_=>.bind .dz λ_=>.pure
|Gt=>exact .bind .dz λ_=>.bind .dz λ_=>.pure
|LtE=>exact .bind .dz λ_=>.bind .dz λ_=>.pure
|In=>exact .iA
|NotIn=>exact .bind .iA λ_=>.pure
|_=>exact .fail
theorem bF.iq{v:V}:bF t (iq v):=by
 cases v<;>first|exact .fail|exact .bind .cW λo=>(by cases o<;>first|exact .fail|exact .bind .cW λo=>(by cases o<;>first|exact .fail|exact .pure))
theorem bF.jF{v:V}:bF t (jF v):=.bind .bI λ_=>.ite .pure .fail
end
section
variable{G:Gd}{n:Nat}{A:Around}{N:List Str}{env:Env}
theorem Ka{op:CmpOp}{a b:E}{l r:aq}{p:Pos}(hE:bg G n A N env a l)(hX:ey G n A N env a l)(H':bg G n A N env b r)(HX:ey G n A N env b r)(hm:behindInMarks op r=false):u0 G n A N env (.cmp op a b) (.Compare l [op] [r] p):=λs ρ σ L af fe outer Lf Q E X S F ev px=>
 wpAny_isTrue_Compare1 (ni hE hX X S F ev px λv aA tk aJ ay u bx aH st fp r e2 gJ=>ni H' HX bx aH fp e2 gJ λv' aX cz dD bN u' dm bM cH kD r' e3 u6=>no .dH e3) hm
theorem I9{a:E}{e:aq}{p' p:Pos}(K:cG G)(hE:bg G n A N env a e)(hX:ey G n A N env a e)(hk:env.kindOf "tuple"=some .globalImplicit)(hs:starEach [e] env=[(false,eval e env)]):ey G n A N env (.tuple a) (.Call (.Name "tuple" p') [e] [] p):=λs ρ σ L af fe outer Lf Q E X S F ev px=>by
 refine wpAny_Call_NameR (wpAny_Name (mQ K S X hk (by decide+kernel) boot_tuple ?_) (by decide+kernel));refine callWith_type1 ?_ hs rfl;exact args_cons (ni hE hX X S F ev px λv aA tk aJ ay u bx aH st fp r e2 gJ=>no .jF e2) hs
theorem Kb{f:Nat}{x:Str}{es:EL}{e:aq}{args:List aq}{p' p:Pos}{fn:Fn}(K:cG G)(FI:iK G)(Y:Ao A n)(C:oG G n)(xf:G.xf f)(hE:gp G n A N env es (e::args))(hX:k9 G n A N env es (e::args))(hf:G.P.fns f=some fn)(hx:G.fN f=x)(hg:G.eS f=true)(hk:env.kindOf x=some .globalImplicit)(hd:(x==("__debug__":Str))=false)(hs:starEach (e::args) env=(false,eval e env)::starEach args env):ey G n A N env (.call f es) (.Call (.Name x p') (e::args) [] p):=λs ρ σ L af fe outer Lf Q E X S F ev px=>by
 refine bo (FI f fn hf) λo fd ho hdat=>?_;refine wpAny_Call_NameR (wpAny_Name (xb K S X hk hf hg hx ?_) hd);exact callWith_def hdat (rF hE hX X S F ev px λv aA tk aJ ay u bx aH st fp r e2 gJ=>⟨aH.base _ _ ho,C A Y fe outer Lf env f xf u v _ aJ ay af Q E aH r fp e2 gJ⟩) hs
end
set_option backward.match.sparseCases true
end Qh
namespace Qh
open PySem PySem.W PyProof.Rows
section
variable{G:Gd}{n:Nat}{A:Around}{N:List Str}{env:Env}
theorem iI.hide(B:iI l h base):iI l (hid h [C]) (hid base [C]):=by
 refine⟨λb o e=>?_,λb o e hn=>?_⟩
 ·by_cases q:b=C
  ·(replace e:=(pL _ (.head _))▸(q▸e));exact bS e
  ·exact rv _ (B.sub b o (kT _ e)) (by simpa using q)
 ·by_cases q:b=C
  ·(replace e:=(pL _ (.head _))▸(q▸e));exact bS e
  ·exact rv _ (B.sup b o (kT _ e) hn) (by simpa using q)
theorem gI.hide(hd:gI base l e Cx fl h)(hn:h.Ns C m)(hC:C∉places l)(hs:Heap.SameBut C h h'):gI (hid base [C]) l e Cx fl h':=by
 obtain⟨f1,f2,f3,a0,oe,vs,T,oT,ts,he,hcls,hdt,h1,o7,o8,hT,js,h3⟩:=hd;refine aM (tU hn) λoC eC Rg=>?_;have ne:∀{b o vs},h.get? b=some o->o.data=.fields vs->b≠C:=λ{b o vs} e d q=>by
  (replace e:=eC▸(q▸e));(refine dt e λaL=>?_;subst aL);exact Rg _ d
 have keep:∀b o,b≠C->h.get? b=some o->h'.get? b=some o:=λb o hb e=>(hs.2 b hb).trans e;have off:∀b,base.get? b=none->(hid base [C]).get? b=none:=λb hb=>by
  cases q:(hid base [C]).get? b with
  |none=>rfl
  |some o=>(replace hb:=(kT _ q)▸hb);exact d8 hb
 refine⟨λb o q=>keep b o (λz=>?_) (f1 b o (kT _ q)),off e f2,?_,a0,oe,vs,T,oT,ts,keep e oe (ne he hdt) he,hcls,hdt,h1,off T o7,o8,keep T oT (ne hT js) hT,js,h3⟩
 ·(replace q:=(pL _ (.head _))▸(z▸q));exact bS q
 ·clear hs he hcls hdt h1 o7 o8 hT js h3
  induction l with
  |nil=>trivial
  |cons env rest ih=>
   obtain⟨g1,⟨L,o,g2,g3,g4,g5⟩,g6⟩:=f3
   exact⟨g1,⟨L,o,g2,off L g3,keep L o (λq=>hC (q▸List.mem_filterMap.mpr ⟨env,.head _,g2⟩)) g4,g5⟩,ih (λq=>hC (by
    refine aM (List.mem_filterMap.mp q) λx hx hf=>?_
    exact List.mem_filterMap.mpr ⟨x,.tail _ hx,hf⟩)) g6⟩
theorem bF.srcOf:bF t (srcOf v):=by cases v<;>first|exact .fail|exact .pure|exact .bind .bI λ_=>.pure
theorem bF.eX:bF t (eX v):=by cases v<;>first|exact .pure|exact .bind .bI λ_=>.pure
theorem Ja(e3:eX sr σ=.ok k en):en=σ:=by
 cases sr with
|fix vs=>(apply eQ e3);rfl
|live i=>
  refine bo (eu e3) λvs af e4 e5=>?_;refine ca (eE e4) λ_ _ bc _=>?_;clear e4;(clear e3;subst bc);(apply eQ e5);rfl
theorem Kc(Y:Ao A n)(hE:bg G n A N env src iter)(Rh:ey G n A N env src iter)(Z:g0 N env scope x v br)(hns:jG iter=true)(hturn:∀cl C,bg G n A N (compEnvC scope cl C env) elt elt')(hX:∀cl C,ey G n A N (compEnvC scope cl C env) elt elt'):
  ey G n A N env (.comp elt v br src) (.ListComp elt' [⟨.Name x px,iter,[],0⟩] scope pos):=λs ρ σ L af fe outer Lf Q E X S F ev Ri=>by
 have kU:∀y∈scope.names,y.2=.free->(env.cells.lookup y.1).isSome=true:=λy hy hf=>by
  refine bo (X.cl y.1 (Z.free y hy hf)) λc _ hc _=>?_
  (refine hc.symm▸?_);rfl
 refine aM (qO kU) λcl hclos hcl=>?_;rw[eval_ListComp];refine wpAny_comprehension_free (use:=none) rfl (kI hns) hclos Z.kind Z.locs (ni hE Rh X S F ev Ri λxv aA tk aJ ay u bx aH st fp r e0 gJ=>?_);rcases jA e0 with z|⟨sr,bN,e2,e3⟩
 ·exact no .srcOf z
 refine(kg (s:={s with heap:=aA,toks:=tk}) aH r e2 λI aX hI hk it=>?_).2;refine aZ (kg (s:={s with heap:=aA,toks:=tk}) (A:=A) (E:=λ_ _=>True) (Q:=λ_ _=>True) aH r e2 (λ_ _ _ _ _=>trivial)) λcu _=>?_;clear e2 e0;subst cu;rcases jA e3 with z|⟨k,en,e4,e5⟩
 ·exact no .eX z
 obtain rfl:=Ja e4;have hle:k<=aO:=by
  by_cases hc:k<=aO
  ·exact hc
  ·(replace e5:=(if_neg hc)▸e5);exact no .fail e5
 replace e5:=(if_pos hle)▸e5;have e6:dk sr (λit=>M.bind (ak (G.ctx n) elt (b7 (cQ L br) v it)) λy=>M.pure (some y)) (k+1) 0 en=.aF G.tg af:=by
  rcases jA e5 with z|⟨_,_,_,z⟩
  ·exact z
  ·exact no .dc z
 refine BH (fe:=fe) (outer:=outer) (Lf:=Lf) Y.hh bx aH Z hcl hI hk it (T:=u7 G.tg sr (λit=>M.bind (ak (G.ctx n) elt (b7 (cQ L br) v it)) λy=>M.pure (some y)) af) (by exact lN 0x6134184c04904920534c [_,_] rfl hle) (λ_ _ _ _ c=>c.next) e6 (λC it=>qP (hturn cl C)) (λC cO hC hb=>?_) λ_ _ _ _ _ _ _ _ _ he=>he.elim;obtain rfl:cO=af:=hb;refine⟨fp,λit=>H6 (hX cl C),λD e cI dJ iL qe base mC gA gK yc ia B hd u=>?_⟩;refine⟨mC,u.ns yc,λee jK cenv _=>?_⟩;have Sy:=fp.step gA;have Rj:C∉places (fe::outer):=λq=>by
  refine aM (mS fp.alive q) λo e _=>?_;exact absurd (e.symm.trans hC) (by simp)
 have eh:G.hb.get? C=none:=by
  cases q:G.hb.get? C with
  |none=>rfl
  |some o=>exact absurd ((aH.base _ _ q).symm.trans hC) (by simp)
 have gS:∀b o,b≠C->cI.get? b=some o->(hid cI [C]).get? b=some o:=λb o hb e=>rv _ e (by simpa using hb);refine J8 B.hide (hd.hide (u.ns yc) Rj jK) (λb o e hnf=>?_) λQv x=>?_
 ·have hb:b≠C:=λq=>by(replace e:=(pL _ (.head _))▸(q▸e));exact bS e
  obtain⟨sl,e'⟩:=u b o (kT _ e) hnf;exact⟨sl,(jK.2 b hb).trans e'⟩
 ·exact gJ e (hid cI [C]) Qv iL qe (gA.other hC gS) (gK.il ia eh (mr yc) gS) x
end
end Qh
namespace Qh
open PySem PyProof.Rows
section
variable{G:Gd}{n:Nat}{A:Around}{N:List Str}{env:Env}
theorem HW(k:Int):dM k=dM (k.toNat:Int):=by unfold dM;rw[Int.toNat_natCast]
theorem s8{a:E}{e:aq}{rp rpos:Pos}(K:cG G)(hE:bg G n A N env a e)(hk:env.kindOf "range"=some .globalImplicit)(hs:starEach [e] env=[(false,eval e env)]){s:Shared}{ρ:List Addr}{σ:H}{L:aQ}{α β:Type}{R:List Addr->Heap->β->α->Prop}{g:Int->M α}{Q:β->Shared->Prop}{K':bD}{E:bD}(X:bj G N env ρ s.heap L)(S:aG G ρ σ s.heap)(h:aT G R (M.bind (ak (G.ctx n) a L) (λx=>M.bind (dz x) λk=>if 0<=k/\k<=1000000 then g k else M.fail) σ) ρ s Q)(kk:∀I aA aX tk cz aJ ay k,bj G N env aJ aA L->aG G aJ ay aA->Step ρ s.heap aJ aA->0<=k/\k<=1000000->aT G R (g k ay) aJ {s with heap:=aA,toks:=tk} Q->aA.objs.size<=I->(∀b o,aA.get? b=some o->aX.get? b=some o)->
   d6 G aJ aX I (.fix (dM k)) 0->K' (.ref I) {s with heap:=aX,toks:=cz}):
  wpAny (model G.prog G.w) A (eval (.Call (.Name "range" rp) [e] [] rpos) env) (λxv bA=>wpAny (model G.prog G.w) A (pyIter xv) K' E bA) E s:=by
 refine wpAny_Call_NameR (wpAny_Name (mQ K S X hk (by decide+kernel) boot_range ?_) (by decide+kernel));refine callWith_type1 (args_cons (hE.then X S h λy aA tk aJ ay u bx aH st r h1=>args_nil ?_) hs) hs rfl;refine bo (aT.bind h1) λk bN e1 h2=>?_;refine aZ (jz e1) λcu bh=>?_;clear e1;(clear h1;subst cu);subst bh;obtain⟨hle,h3⟩:=aT.ite h2;(apply eI r;intro _);refine call_range_1 ?_;have h0:=hle.1
 ·refine wpAny_pyIter_range (IsRange.new ..) (small_one (by decide) (by decide) (by lia) (lI 0x700700700700700700700700700790184c049049205007247d078cc [_] rfl hle.2)) ?_;have hsz:Builtin.Range.rangeSize 0 k 1=(k.toNat:Int):=by rw[rangeSize_one];split<;>lia
  refine kk _ aA _ tk _ aJ bN k bx aH st hle h3 (by simp[Heap.size_push]) (λb o e=>Heap.get?_push_of_some _ (Heap.get?_push_of_some _ e)) ?_;rw[HW];refine .range (gP _) ?_;have:(k.toNat:Int)-((0:Nat):Int)=Builtin.Range.rangeSize 0 k 1:=by(refine hsz.symm▸?_);rfl
  refine this.symm▸?_;exact Heap.get?_push_size _ rfl
theorem Ke{elt src:E}{elt' e:aq}{x:Str}{px pos rp rpos:Pos}{scope:Scope}{v:Nat}{br:List Nat}(K:cG G)(Y:Ao A n)(hE:bg G n A N env src e)(Z:g0 N env scope x v br)(hk:env.kindOf "range"=some .globalImplicit)(hs:starEach [e] env=[(false,eval e env)])(hturn:∀cl C,(∀y,(y,NameKind.free)∈scope.names->cl.lookup y=env.cells.lookup y)->bg G n A N (compEnvC scope cl C env) elt elt'):
  bg G n A N env (.fH elt v br src) (.ListComp elt' [⟨.Name x px,.Call (.Name "range" rp) [e] [] rpos,[],0⟩] scope pos):=λs ρ σ L Q E X S h=>by
 have kU:∀y∈scope.names,y.2=.free->(env.cells.lookup y.1).isSome=true:=λy hy hf=>by
  refine bo (X.cl y.1 (Z.free y hy hf)) λc _ hc _=>?_
  (refine hc.symm▸?_);rfl
 refine aM (qO kU) λcl hclos hcl=>?_;rw[eval_ListComp];refine wpAny_comprehension_free rfl (kI rfl) hclos Z.kind Z.locs (s8 K hE hk hs X S h λI aA aX tk cz aJ ay k bx aH st hle h1 hI hkp it=>?_);exact AA (bA:={s with heap:=aA,toks:=tk}) Y.hh bx aH Z hcl hI hkp it (by have:aO=1000000:=rfl;lia) (λC it=>qP (hturn cl C hcl)) h1
end
end Qh
set_option tactic.hygienic true
namespace Qh
open PySem PyProof.Rows
inductive fT(G:Gd)(ρ:List Addr)(h:Heap):Flow->Fl->Prop
|next:fT G ρ h .next .next
|brk:fT G ρ h .brk .brk
|cont:fT G ρ h .cont .cont
|ret {v:Value}{u:V}:Rel G ρ h v u->fT G ρ h (.ret v) (.ret u)
def PS(G:Gd)(N:List Str)(env:Env)(r:RN Fl)(ρ:List Addr)(s:Shared)(Q:Flow->Shared->Prop):Prop:=
 match r with
|.ok f L' af=>∀fl h' tk aw,dy env ρ s.heap aw h'->aG G aw af h'->bj G N env aw h' L'->fT G aw h' fl f->Q fl {s with heap:=h',toks:=tk}
|_=>False
section
variable(G:Gd)(n:Nat)(A:Around)(N:List Str)(env:Env)
def dh(x:S)(st:Stmt):Prop:=∀(s:Shared)(ρ:List Addr)(σ:H)(L:aQ)(Q:Flow->Shared->Prop)(E:bD),bj G N env ρ s.heap L->aG G ρ σ s.heap->
 PS G N env (cF (G.ctx n) x L σ) ρ s Q->wpAny (model G.prog G.w) A (exec st env) Q E s
def gL(x:SL)(nJ:List Stmt):Prop:=∀(s:Shared)(ρ:List Addr)(σ:H)(L:aQ)(Q:Flow->Shared->Prop)(E:bD),bj G N env ρ s.heap L->aG G ρ σ s.heap->
 PS G N env (aW (G.ctx n) x L σ) ρ s Q->wpAny (model G.prog G.w) A (execs nJ env) Q E s
end
section
variable{G:Gd}{n:Nat}{A:Around}{N:List Str}{env:Env}{s:Shared}{ρ aw:List Addr}{σ af:H}{h h':Heap}{L:aQ}{E:bD}{Q:Flow->Shared->Prop}
theorem gL.at{x:SL}{nJ:List Stmt}{f:Fl}{L':aQ}(hb:gL G n A N env x nJ)(X:bj G N env ρ s.heap L)(S:aG G ρ σ s.heap)(e:aW (G.ctx n) x L σ=.ok f L' af)(k:∀fl h' tk aw,dy env ρ s.heap aw h'->aG G aw af h'->bj G N env aw h' L'->fT G aw h' fl f->Q fl {s with heap:=h',toks:=tk}):wpAny (model G.prog G.w) A (execs nJ env) Q E s:=hb s ρ σ L Q E X S (e▸k)
theorem PS.bind{α:Type}{m:Qh.N α}{f:α->Qh.N Fl}(h:PS G N env (Qh.N.bind m f L σ) ρ s Q):∃a et ay,m L σ=.ok a et ay/\PS G N env (f a et ay) ρ s Q:=by
 unfold Qh.N.bind at h
 split at h
 ·rename_i a L' af e;exact⟨a,L',af,e,h⟩
 ·exact h.elim
 ·exact h.elim
theorem Ci{α:Type}{m:aQ->M α}{a:α}{et:aQ}{ay:H}(e:Qh.N.lift m L σ=.ok a et ay):et=L/\m L σ=.ok a ay:=by
 unfold Qh.N.lift at e
 split at e
 ·rename_i a' af e';(apply iU e);exact⟨rfl,e'⟩
 ·exact F2 e
 ·exact nG e
theorem PS.lift{α:Type}{m:aQ->M α}{f:α->Qh.N Fl}(h:PS G N env (Qh.N.bind (Qh.N.lift m) f L σ) ρ s Q):∃a ay,m L σ=.ok a ay/\PS G N env (f a L ay) ρ s Q:=by
 refine gg (PS.bind h) λa et ay e h1=>?_;refine aZ (Ci e) λcu e1=>?_;clear e;(clear h lift;subst cu);exact⟨a,ay,e1,h1⟩
theorem PS.step{r:RN Fl}{aA:Heap}{tk:Nat}{aJ:List Addr}(h:PS G N env r ρ s Q)(x:dy env ρ s.heap aJ aA):PS G N env r aJ {s with heap:=aA,toks:=tk} Q:=by
 cases r with
|ok a L af=>exact λb h' eL aw y S X r=>h b h' eL aw (x.trans y) S X r
|aF c L af=>exact h
|bad=>exact h
theorem PS.here{f:Fl}{fl:Flow}{tk:Nat}(h:PS G N env (.ok f L σ) ρ s Q)(S:aG G ρ σ s.heap)(X:bj G N env ρ s.heap L)(r:fT G ρ s.heap fl f):Q fl {s with toks:=tk}:=
 h fl s.heap tk ρ (dy.refl _ _ _) S X r
theorem PS.cD{f:Fl}{fl:Flow}(h:PS G N env (.ok f L σ) ρ s Q)(S:aG G ρ σ s.heap)(X:bj G N env ρ s.heap L)(r:fT G ρ s.heap fl f):Q fl s:=h.here S X r
theorem bg.gE{x:Qh.E}{e:aq}(hE:bg G n A N env x e){f:V->Qh.N Fl}{Q':bD}(X:bj G N env ρ s.heap L)(S:aG G ρ σ s.heap)(h:PS G N env (Qh.N.bind (Qh.N.lift (ak (G.ctx n) x)) f L σ) ρ s Q)(k:∀v aA tk aJ ay u,bj G N env aJ aA L->aG G aJ ay aA->Step ρ s.heap aJ aA->Rel G aJ aA v u->PS G N env (f u L ay) aJ {s with heap:=aA,toks:=tk} Q->Q' v {s with heap:=aA,toks:=tk}):
  wpAny (model G.prog G.w) A (eval e env) Q' E s:=by
 refine bo (PS.lift h) λu ay e1 h1=>?_;refine hE s ρ σ L Q' E X S ?_;refine e1.symm▸?_;exact λv aA tk aJ st aH r=>k v aA tk aJ ay u (X.step S st) aH st r (h1.step st.toS)
theorem hZ.gE{x:Qh.E}{e:aq}(hE:hZ G n A N env x e){f:Bool->Qh.N Fl}{Q':Bool->Shared->Prop}(X:bj G N env ρ s.heap L)(S:aG G ρ σ s.heap)(h:PS G N env (Qh.N.bind (Qh.N.lift (bP (G.ctx n) x)) f L σ) ρ s Q)(k:∀b aA tk aJ ay,bj G N env aJ aA L->aG G aJ ay aA->Step ρ s.heap aJ aA->PS G N env (f b L ay) aJ {s with heap:=aA,toks:=tk} Q->Q' b {s with heap:=aA,toks:=tk}):
  wpAny (model G.prog G.w) A (isTrue e env (eval e env)) Q' E s:=by
 refine bo (PS.lift h) λu ay e1 h1=>?_;refine hE s ρ σ L Q' E X S ?_;refine e1.symm▸?_;rintro v aA tk aJ st aH rfl;exact k v aA tk aJ ay (X.step S st) aH st (h1.step st.toS)
theorem bj.Cj(X:bj G N env ρ h L){c:Addr}{ov:Option Value}(hc:h.IsCell c ov):env.locals≠c:=by
 rintro rfl;refine bB λXx aI=>?_;obtain⟨m,⟨o,es,ep,ho,hd,_⟩,_⟩:=X.ns;obtain⟨o',ho',hd'⟩:=hc;refine aI ?_;(replace ho':=ho▸ho');(refine dt ho' λaL=>?_;(clear ho';subst aL));(replace hd':=hd▸hd');cases hd'
theorem v9{c:Addr}{ov:Option Value}(hc:h.IsCell c ov):∀a ys,IsTup h a ys->a≠c:=by
 rintro a ys ⟨o,e,cc,n,d⟩ rfl;obtain⟨o',ho',hd'⟩:=hc;(replace ho':=e▸ho');(refine dt ho' λaL=>?_;(clear ho';subst aL));(replace hd':=d▸hd');cases hd'
theorem rg{i:Nat}{x:Str}{v:Value}{u:V}{K:Unit->Shared->Prop}(X:bj G N env ρ s.heap L)(S:aG G ρ σ s.heap)(hx:N[i]?=some x)(hk:env.kindOf x=some .local∨env.kindOf x=some .cell)(r:Rel G ρ s.heap v u)(h:∀h' tk,dy env ρ s.heap ρ h'->aG G ρ σ h'->bj G N env ρ h' (b7 L i u)->Rel G ρ h' v u->(∀b o,b≠env.locals->(∀y,env.kindOf y=some .cell->env.cells.lookup y≠some b)->s.heap.get? b=some o->h'.get? b=some o)->K () {s with heap:=h',toks:=tk}):
  wpAny (model G.prog G.w) A (storeName env x v) K E s:=by
 have uniq:∀j,N[j]?=some x->j=i:=λj hj=>by
  have h1:=(List.getElem?_eq_some_iff.mp hj).1;exact(List.getElem?_inj h1 X.nodup).mp (hj.trans hx.symm)
 refine aM (X.ns) λm hns hm=>?_;rcases hk with hk|hk
 ·refine wpAny_storeName_local hk hns (λh' hn' hs'=>?_) (DW X.kind);have kp:∀b o,b≠env.locals->s.heap.get? b=some o->h'.get? b=some o:=λb o hb e=>(hs'.2 b hb).trans e;have nt:=mr hns;have tu:∀a ys,IsTup s.heap a ys->IsTup h' a ys:=λa ys t=>by
   have:=nt a ys t;obtain⟨o,e,c⟩:=t;exact⟨o,kp a o this e,c⟩
  refine h h' _ ⟨⟨[],by simp⟩,λ_ q=>.inl q,λa o e _ h1 _=>kp a o h1 e,λa _ e q=>?_⟩ (S.il X.jP X.newL nt kp) ⟨X.kind,X.glob,X.blt,⟨_,hn',λj w y e1 e2 e3=>?_⟩,λy hy=>?_,λj w e1=>?_,X.apart,X.nodup,X.jP,X.jQ,X.newL,X.iP⟩ (r.mono tu λ_ _ e=>e) (λb o h1 _ e=>kp b o h1 e)
  ·by_cases ha:a=env.locals
   ·clear e;subst ha;refine gg (hn') λo _ _ ho _=>?_;(replace q:=ho▸q);exact d8 q
   ·exact e ((hs'.2 a ha).symm.trans q)
  ·rcases kJ e1 with ⟨rfl,rfl⟩|⟨h1,h2⟩
   ·(replace e2:=hx▸e2);(apply eR e2);exact⟨v,by simp,r.mono tu λ_ _ e=>e⟩
   ·refine aM (hm j w y h2 e2 e3) λz hz rz=>?_;have hne:y≠x:=λq=>h1 (uniq j (q▸e2));exact⟨z,by simp[hne,hz],rz.mono tu λ_ _ e=>e⟩
  ·refine cU (X.cl y hy) λc ov hc hcell hv=>?_;have hne:=X.Cj hcell;refine⟨c,ov,hc,let ⟨o,ho,hd⟩:=hcell;⟨o,kp c o (Ne.symm hne) ho,hd⟩,λj w e1 e2=>?_⟩;rcases kJ e1 with ⟨rfl,rfl⟩|⟨h1,h2⟩
   ·(replace e2:=hx▸e2);(refine dt e2 λaL=>?_;(clear e2 hv;subst aL));(replace hy:=hk▸hy);cases hy
   ·refine aM (hv j w h2 e2) λz hz rz=>?_;exact⟨z,hz,rz.mono tu λ_ _ e=>e⟩
  ·rcases kJ e1 with ⟨rfl,rfl⟩|⟨h1,h2⟩
   ·exact⟨x,hx,.inl hk⟩
   ·exact X.has j w h2
 ·refine cU (X.cl x hk) λc ov hc hcell hv=>?_;refine wpAny_storeName_cell X.kind hk hc hcell λh' hc' hs'=>?_;have kp:∀b o,b≠c->s.heap.get? b=some o->h'.get? b=some o:=λb o hb e=>(hs'.2 b hb).trans e;have nt:=v9 hcell;have tu:∀a ys,IsTup s.heap a ys->IsTup h' a ys:=λa ys t=>by
   have:=nt a ys t;obtain⟨o,e,c⟩:=t;exact⟨o,kp a o this e,c⟩
  have Ge:=X.Cj hcell;refine h h' _ ⟨⟨[],by simp⟩,λ_ q=>.inl q,λa o e _ _ h2=>kp a o (λq=>h2 x hk (q▸hc)) e,λa _ e q=>?_⟩ (S.il (X.jQ x c hk hc) (X.iP x c hk hc) nt kp) ⟨X.kind,X.glob,X.blt,⟨m,hns.sameBut hs' Ge,λj w y e1 e2 e3=>?_⟩,λy hy=>?_,λj w e1=>?_,X.apart,X.nodup,X.jP,X.jQ,X.newL,X.iP⟩ (r.mono tu λ_ _ e=>e) (λb o _ h2 e=>kp b o (λq=>h2 x hk (q▸hc)) e)
  ·by_cases ha:a=c
   ·clear e Ge nt kp hs' hcell hc;subst ha;refine aM (hc') λo ho _=>?_;(replace q:=ho▸q);exact d8 q
   ·exact e ((hs'.2 a ha).symm.trans q)
  ·rcases kJ e1 with ⟨rfl,rfl⟩|⟨h1,h2⟩
   ·(replace e2:=hx▸e2);(refine dt e2 λaL=>?_;(clear uniq hx hv hc;subst aL));(replace e3:=hk▸e3);cases e3
   ·refine aM (hm j w y h2 e2 e3) λz hz rz=>?_;exact⟨z,hz,rz.mono tu λ_ _ e=>e⟩
  ·by_cases zj:y=x
   ·clear hy hv hk hx;subst zj;refine⟨c,some v,hc,hc',λj w e1 e2=>?_⟩;have:=uniq j e2;clear e2 uniq h;subst this;rcases kJ e1 with ⟨_,rfl⟩|⟨h1,_⟩
    ·exact⟨v,rfl,r.mono tu λ_ _ e=>e⟩
    ·exact absurd rfl h1
   ·refine cU (X.cl y hy) λc₂ O9 D4 Kf Pa=>?_;have hne:c₂≠c:=λq=>zj (X.apart y x c hy hk (q▸D4) hc);refine⟨c₂,O9,D4,let ⟨o,ho,hd⟩:=Kf;⟨o,kp c₂ o hne ho,hd⟩,λj w e1 e2=>?_⟩;rcases kJ e1 with ⟨rfl,rfl⟩|⟨h1,h2⟩
    ·(replace e2:=hx▸e2);(refine dt e2 λaL=>?_;(clear uniq hx hv hc hk;subst aL));exact absurd rfl zj
    ·refine aM (Pa j w h2 e2) λz hz rz=>?_;exact⟨z,hz,rz.mono tu λ_ _ e=>e⟩
  ·rcases kJ e1 with ⟨rfl,rfl⟩|⟨h1,h2⟩
   ·exact⟨x,hx,.inr hk⟩
   ·exact X.has j w h2
theorem dy.get(x:dy env ρ h aw h'){i:Nat}{a:Addr}(e:ρ[i]?=some a):aw[i]?=some a:=by
 refine b6 (x.pre) λt bh=>?_;clear x get;subst bh;rw[List.getElem?_append_left]
 ·exact e
 ·exact(List.getElem?_eq_some_iff.mp e).1
theorem dy.ax(x:dy env ρ h aw h')(S:aG G ρ σ h)(X:bj G N env ρ h L):∀a xs,IsTup h a xs->IsTup h' a xs:=λa xs e=>by
 have hn:=S.ax e;refine bB λXx aI=>?_;refine aM (X.ns) λm hns _=>?_;have h1:=mr hns a xs e;have h2:∀y,env.kindOf y=some .cell->env.cells.lookup y≠some a:=λy hy q=>by
  refine cU (X.cl y hy) λc ov hc hcell _=>?_;(replace q:=hc▸q);cases q;exact v9 hcell a xs e rfl
 refine aM (e) λo e c=>?_;refine aI ?_;exact⟨o,x.keep a o e hn h1 h2,c⟩
theorem Rel.gB{v:Value}{u:V}(r:Rel G ρ h v u)(x:dy env ρ h aw h')(S:aG G ρ σ h)(X:bj G N env ρ h L):Rel G aw h' v u:=r.mono (x.ax S X) λ_ _ e=>x.get e
theorem bH.gB{v:List Value}{u:List V}(r:bH G ρ h v u)(x:dy env ρ h aw h')(S:aG G ρ σ h)(X:bj G N env ρ h L):bH G aw h' v u:=r.mono (x.ax S X) λ_ _ e=>x.get e
theorem d6.gB{I:Addr}{sr:Src}{k:Nat}(x:d6 G ρ h I sr k)(S:aG G ρ σ h)(X:bj G N env ρ h L)(st:dy env ρ h aw h'):d6 G aw h' I sr k:=by
 have ow:=x.own;refine aM (X.ns) λm hns _=>?_;have h1:I≠env.locals:=by
  rintro rfl;refine fG (hns) λo es ep ho hd _=>?_;obtain⟨o',T,e,_,_,_,_,fs,hf⟩:=ow;(replace e:=ho▸e);(refine dt e λaL=>?_;(clear e;subst aL));(replace hf:=hd▸hf);cases hf
 have h2:∀y,env.kindOf y=some .cell->env.cells.lookup y≠some I:=λy hy q=>by
  obtain⟨c,ov,hc,⟨o,ho,hd⟩,_⟩:=X.cl y hy;(replace q:=hc▸q);(refine dt q λaL=>?_;(clear x;subst aL));obtain⟨o',T,e,_,_,_,_,fs,hf⟩:=ow;(replace e:=ho▸e);(refine dt e λaL=>?_;(clear e;subst aL));(replace hf:=hd▸hf);cases hf
 exact x.mono (λo e=>st.keep _ _ e (ow.gw S) h1 h2) (st.ax S X) λ_ _ e=>st.get e
theorem uf{i:Nat}{x:Qh.E}{e:aq}{y:Str}{p p':Pos}(hE:bg G n A N env x e)(hx:N[i]?=some y)(hk:env.kindOf y=some .local∨env.kindOf y=some .cell)(hs:swapsWith e (some (.Name y p')) p.line env=pure false):
  dh G n A N env (.aK i x) (.Assign [.Name y p'] e p):=λs ρ σ L Q E X S h=>
 wpAny_Assign_Name (hE.gE X S h λv aA tk aJ ay u bx aH st r h1=>rg bx aH hx hk r λaX cz cH bM dm qr _=>h1 .next aX cz aJ cH bM dm .next) hs
theorem C7{x:Qh.E}{e:aq}{p:Pos}(hE:bg G n A N env x e):dh G n A N env (.ret x) (.Return (some e) p):=λs ρ σ L Q E X S h=>
 wpAny_Return_some (hE.gE X S h λv aA tk aJ ay u bx aH st r h1=>h1.cD aH bx (.ret r))
theorem ND{c:Qh.E}{t e:SL}{c':aq}{t' e':List Stmt}{p:Pos}(hT:hZ G n A N env c c')(h1:gL G n A N env t t')(h2:gL G n A N env e e'):dh G n A N env (.ite c t e) (.If c' t' e' p):=λs ρ σ L Q E X S h=>
 wpAny_If (hT.gE X S h λb aA tk aJ ay bx aH st hb=>by
  cases b with
  |true=>exact h1 _ aJ ay L Q E bx aH hb
  |false=>exact h2 _ aJ ay L Q E bx aH hb)
theorem xc:gL G n A N env .nil []:=λs ρ σ L Q E X S h=>wpAny_execs_nil (PS.cD h S X .next)
theorem BJ{x:Qh.S}{r:SL}{st:Stmt}{rest:List Stmt}(h1:dh G n A N env x st)(h2:gL G n A N env r rest):gL G n A N env (.cons x r) (st::rest):=λs ρ σ L Q E X S h=>by
 refine gg (PS.bind h) λf et ay e1 h3=>?_;refine wpAny_execs_cons (h1 s ρ σ L _ E X S ?_);refine e1.symm▸?_;intro fl h' tk aw st' S' X' rf;cases rf with
|next=>exact h2 _ aw ay et Q E X' S' (h3.step st')
|brk=>exact h3 _ h' tk aw st' S' X' .brk
|cont=>exact h3 _ h' tk aw st' S' X' .cont
|ret r=>exact h3 _ h' tk aw st' S' X' (.ret r)
theorem LN{x:Qh.E}{e:aq}{p:Pos}(hE:bg G n A N env x e)(hi:interactive env=false)(hs:swapsWith e none p.line env=pure false):dh G n A N env (.expr x) (.Expr e p):=λs ρ σ L Q E X S h=>
 wpAny_Expr_any (hE.gE X S h λv aA tk aJ ay u bx aH st r h1=>h1.cD aH bx .next) hi hs
end
end Qh
set_option tactic.hygienic false
namespace Qh
open PySem PySem.W PyProof.Rows
def nK(G:Gd)(N:List Str)(env:Env)(outer:List Env)(ρ:List Addr)(s:Shared)(L':aQ)(af:H)(E:bD):Prop:=
 ∀e aA h' tk aw,dy env ρ s.heap aw aA->aG G aw af aA->bj G N env aw aA L'->nH (G.cA 1) (env::outer) aA h' e->E (.ref e) {s with heap:=h',toks:=tk}
section
variable(G:Gd)(n:Nat)(A:Around)(N:List Str)(env:Env)
def gM(x:S)(st:Stmt):Prop:=∀(s:Shared)(ρ:List Addr)(σ:H)(L L':aQ)(af:H)(outer:List Env)(Q:Flow->Shared->Prop)(E:bD),bj G N env ρ s.heap L->aG G ρ σ s.heap->Fs A env outer env.locals env ρ s.heap->Sep outer env->
 cF (G.ctx n) x L σ=.aF G.tg L' af->nK G N env outer ρ s L' af E->wpAny (model G.prog G.w) A (exec st env) Q E s
def nk(x:SL)(nJ:List Stmt):Prop:=∀(s:Shared)(ρ:List Addr)(σ:H)(L L':aQ)(af:H)(outer:List Env)(Q:Flow->Shared->Prop)(E:bD),bj G N env ρ s.heap L->aG G ρ σ s.heap->Fs A env outer env.locals env ρ s.heap->Sep outer env->
 aW (G.ctx n) x L σ=.aF G.tg L' af->nK G N env outer ρ s L' af E->wpAny (model G.prog G.w) A (execs nJ env) Q E s
end
section
variable{G:Gd}{n:Nat}{A:Around}{N:List Str}{env:Env}{s:Shared}{ρ aw:List Addr}{σ af:H}{h h':Heap}{L L':aQ}{outer:List Env}{E:bD}{Q:Flow->Shared->Prop}
theorem nK.step{aA:Heap}{tk:Nat}{aJ:List Addr}(p:nK G N env outer ρ s L' af E)(st:dy env ρ s.heap aJ aA):nK G N env outer aJ {s with heap:=aA,toks:=tk} L' af E:=
 λe aX h' eL aw st' S X x=>p e aX h' eL aw (st.trans st') S X x
theorem nK.px(p:nK G N env outer ρ s L af E)(X:bj G N env ρ s.heap L)(S:aG G ρ σ s.heap):PX G env outer env.locals ρ s af E:=
 λe aA h' tk aw st S' x=>p e aA h' tk aw st.toS S' (X.step S st) x
theorem tr{α β:Type}{m:Qh.N α}{f:α->Qh.N β}{c:Nat}(e:Qh.N.bind m f L σ=.aF c L' af):m L σ=.aF c L' af∨∃a et ay,m L σ=.ok a et ay/\f a et ay=.aF c L' af:=by
 unfold Qh.N.bind at e;cases q:m L σ with
|ok a et ay=>(replace e:=q▸e);exact .inr ⟨a,et,ay,rfl,e⟩
|aF c' et ay=>(replace e:=q▸e);(apply F3 e);exact .inl rfl
|bad=>(replace e:=q▸e);exact sB e
theorem Kg{α:Type}{m:aQ->M α}{c:Nat}(e:Qh.N.lift m L σ=.aF c L' af):L'=L/\m L σ=.aF c af:=by
 unfold Qh.N.lift at e;cases q:m L σ with
|ok a ay=>(replace e:=q▸e);exact iS e
|aF c' ay=>(replace e:=q▸e);(apply F3 e);exact⟨rfl,rfl⟩
|bad=>(replace e:=q▸e);exact sB e
theorem pD{α β:Type}{m:aQ->M α}{f:α->Qh.N β}{c:Nat}(e:Qh.N.bind (Qh.N.lift m) f L σ=.aF c L' af):(L'=L/\m L σ=.aF c af)∨∃a ay,m L σ=.ok a ay/\f a L ay=.aF c L' af:=by
 rcases tr e with q|⟨a,et,ay,q,q'⟩
 ·exact .inl (Kg q)
 ·refine aZ (Ci q) λcu q=>?_;clear e pD;subst cu;exact .inr ⟨a,ay,q,q'⟩
theorem yd{x:Qh.E}{e:aq}{Q':bD}(hX:ey G n A N env x e)(X:bj G N env ρ s.heap L)(S:aG G ρ σ s.heap)(F:Fs A env outer env.locals env ρ s.heap)(p:nK G N env outer ρ s L' af E){f:V->Qh.N Fl}(ev:Qh.N.bind (Qh.N.lift (ak (G.ctx n) x)) f L σ=.aF G.tg L' af)(hf:∀a ay,f a L ay≠.aF G.tg L' af):wpAny (model G.prog G.w) A (eval e env) Q' E s:=by
 rcases pD ev with ⟨rfl,q⟩|⟨a,ay,_,q⟩
 ·exact hX s ρ σ L' af env outer env.locals Q' E X S F q (p.px X S)
 ·exact absurd q (hf a ay)
theorem LO{i:Nat}{x:Qh.E}{e:aq}{y:Str}{p p':Pos}(hX:ey G n A N env x e)(hs:swapsWith e (some (.Name y p')) p.line env=pure false):
  gM G n A N env (.aK i x) (.Assign [.Name y p'] e p):=λs ρ σ L L' af outer Q E X S F sep ev px=>wpAny_Assign_Name (yd hX X S F px ev λ_ _ q=>by exact iS q) hs
theorem LP{x:Qh.E}{e:aq}{p:Pos}(hX:ey G n A N env x e):gM G n A N env (.ret x) (.Return (some e) p):=λs ρ σ L L' af outer Q E X S F sep ev px=>
 wpAny_Return_some (yd hX X S F px ev λ_ _ q=>by exact iS q)
theorem Kh{x:Qh.E}{e:aq}{p:Pos}(hX:ey G n A N env x e)(hi:interactive env=false)(hs:swapsWith e none p.line env=pure false):gM G n A N env (.expr x) (.Expr e p):=λs ρ σ L L' af outer Q E X S F sep ev px=>
 wpAny_Expr_any (yd hX X S F px ev λ_ _ q=>by exact iS q) hi hs
theorem LQ{c:Qh.E}{t e:SL}{c':aq}{t' e':List Stmt}{p:Pos}(hT:hZ G n A N env c c')(hX:u0 G n A N env c c')(h1:nk G n A N env t t')(h2:nk G n A N env e e'):gM G n A N env (.ite c t e) (.If c' t' e' p):=λs ρ σ L L' af outer Q E X S F sep ev px=>by
 refine wpAny_If ?_;rcases pD ev with ⟨rfl,q⟩|⟨b,ay,e1,q⟩
 ·exact hX s ρ σ L' af env outer env.locals _ E X S F q (px.px X S)
 ·refine hT s ρ σ L _ E X S ?_;refine e1.symm▸?_;rintro v aA tk aJ st aH rfl;clear e1;cases v with
  |true=>exact h1 _ aJ ay L L' af outer Q E (X.step S st) aH (F.step st) sep q (px.step st.toS)
  |false=>exact h2 _ aJ ay L L' af outer Q E (X.step S st) aH (F.step st) sep q (px.step st.toS)
theorem Jb{x:Qh.S}{r:SL}{st:Stmt}{rest:List Stmt}(h1:dh G n A N env x st)(hX:gM G n A N env x st)(h2:nk G n A N env r rest):nk G n A N env (.cons x r) (st::rest):=λs ρ σ L L' af outer Q E X S F sep ev px=>by
 refine wpAny_execs_cons ?_;rcases tr ev with q|⟨f,et,ay,e1,q⟩
 ·exact hX s ρ σ L L' af outer _ E X S F sep q px
 ·refine h1 s ρ σ L _ E X S ?_;refine e1.symm▸?_;intro fl h' tk aw st' S' X' rf;cases rf with
  |next=>exact h2 _ aw ay et L' af outer Q E X' S' (F.gB sep st' X') sep q (px.step st')
  |brk=>exact iS q
  |cont=>exact iS q
  |ret r=>exact iS q
end
end Qh
set_option tactic.hygienic true
namespace Qh
open PySem PySem.W PyProof.Rows
section
variable{G:Gd}{n:Nat}{A:Around}{N:List Str}{env:Env}{s:Shared}{ρ aw:List Addr}{σ af:H}{h h':Heap}{L:aQ}{E:bD}{Q:Flow->Shared->Prop}
theorem wW{α β:Type}{m:Qh.N α}{f:α->Qh.N β}{b:β}{ny:aQ}{bN:H}(e:Qh.N.bind m f L σ=.ok b ny bN):∃a et ay,m L σ=.ok a et ay/\f a et ay=.ok b ny bN:=by
 unfold Qh.N.bind at e
 split at e
 ·rename_i a L' af e';exact⟨a,L',af,e',e⟩
 ·exact F2 e
 ·exact nG e
theorem PS.ok{r:RN Fl}(h:PS G N env r ρ s Q):∃f L' af,r=.ok f L' af:=by
 cases r with
|ok f L' af=>exact⟨f,L',af,rfl⟩
|aF c L' af=>exact h.elim
|bad=>exact h.elim
theorem dy.other{cL:List Addr}{gm:Heap}(st:dy env cL gm ρ h){I:Addr}(h0:gm.get? I=none)(hk:∀b o,b≠I->h.get? b=some o->h'.get? b=some o):dy env cL gm ρ h':=
 ⟨st.pre,st.fresh,λa o e hn h1 h2=>hk a o (λq=>by(clear h2 h1 hn hk;subst q);(replace e:=h0▸e);exact bS e) (st.keep a o e hn h1 h2),λa hn e q=>by
  cases e':h.get? a with
  |none=>exact st.kx a hn e e'
  |some o=>
   have hne:a≠I:=λq=>by(clear hn;subst q);exact e h0
   (replace q:=(hk a o hne e')▸q);exact d8 q⟩
def Rk(T':aQ->H->Prop)(End:Fl->aQ->H->Prop)(L:aQ)(σ:H):Fl->Prop
|.next=>T' L σ
|.cont=>T' L σ
|.brk=>End .next L σ
|.ret v=>End (.ret v) L σ
def uI(t:Nat)(C:Ctx)(i:Nat)(b:SL)(T':aQ->H->Prop)(End:Fl->aQ->H->Prop)(iV:aQ->H->Prop)(L:aQ)(σ:H):Option V->Prop
|none=>End .next L σ
|some v=>(∃f L' af,aW C b (b7 L i v) σ=.ok f L' af/\Rk T' End L' af f)∨∃L' af,aW C b (b7 L i v) σ=.aF t L' af/\iV L' af
noncomputable abbrev ll(C:Ctx)(i:Nat)(b:SL)(sr:Src):Nat->Nat->Qh.N Fl:=dP (λk=>M.bind (dN sr k) λy=>M.pure (y.map λv=>[(i,v)])) (aW C b)
theorem A7{C:Ctx}{i:Nat}{b:SL}{sr:Src}{m k:Nat}{r:Option V}(e:dN sr k σ=.ok r σ):ll C i b sr (m+1) k L σ=match r with
  |none=>.ok .next L σ
  |some v=>Qh.N.bind (aW C b) (λf=>match f with|.next=>ll C i b sr m (k+1)|.cont=>ll C i b sr m (k+1)|.brk=>Qh.N.pure .next|.ret v=>Qh.N.pure (.ret v)) (b7 L i v) σ:=by
 have e':M.bind (dN sr k) (λy=>M.pure (y.map λv=>[(i,v)])) σ=.ok (r.map λv=>[(i,v)]) σ:=by unfold M.bind;(refine e.symm▸?_);rfl
 unfold ll;simp only[dP,Qh.N.bind,Qh.N.lift,e'];cases r<;>rfl
theorem BK{sr:Src}{k m:Nat}{C:Ctx}{i:Nat}{b:SL}(h:∀c L' af,ll C i b sr (m+1) k L σ≠.aF c L' af∨True)(hb:ll C i b sr (m+1) k L σ≠.bad):∃r,dN sr k σ=.ok r σ:=by
 clear h;cases sr with
|fix vs=>exact⟨vs[k]?,rfl⟩
|live j=>
  cases q:bI (.ref j) σ with
  |ok vs ay=>
   refine ca (eE q) λ_ _ bc _=>?_;subst bc;exact⟨vs[k]?,by show M.bind (bI _) _ ay=_;unfold M.bind;(refine q.symm▸?_);rfl⟩
  |aF c ay=>exact no .bI q
  |bad=>
   refine absurd ?_ hb;have:M.bind (dN (.live j) k) (λy=>M.pure (y.map λv=>[(i,v)])) σ=.bad:=by
    show M.bind (M.bind (bI (.ref j)) _) _ σ=_;unfold M.bind;(refine q.symm▸?_;with_reducible rfl)
   unfold ll;simp only[dP,Qh.N.bind,Qh.N.lift,this]
def qC(C:Ctx)(i:Nat)(b:SL)(sr:Src)(fE:Fl)(LE:aQ)(cw:H)(m k:Nat)(L:aQ)(σ:H):Prop:=ll C i b sr m k L σ=.ok fE LE cw
theorem qC.next{t:Nat}{C:Ctx}{i:Nat}{b:SL}{sr:Src}{m k:Nat}{fE:Fl}{LE:aQ}{cw:H}(ef:qC C i b sr fE LE cw m k L σ):
  ∃m' r,m=m'+1/\dN sr k σ=.ok r σ/\uI t C i b (qC C i b sr fE LE cw m' (k+1)) (λf L σ=>f=fE/\L=LE/\σ=cw) (λ_ _=>False) L σ r:=by
 unfold qC at ef;cases m with
|zero=>exact nG ef
|succ m=>
  obtain⟨r,e⟩:=BK (λ_ _ _=>.inr trivial) (by rw[ef];intro q;cases q);refine⟨m,r,rfl,e,?_⟩;replace ef:=(A7 e)▸ef;cases r with
  |none=>(apply iU ef);exact⟨rfl,rfl,rfl⟩
  |some v=>
   refine gg (wW ef) λf lp iu gR fX=>?_;refine .inl ⟨f,lp,iu,gR,?_⟩;clear gR;cases f with
   |next=>exact fX
   |cont=>exact fX
   |brk=>(apply iU fX);exact⟨rfl,rfl,rfl⟩
   |ret v=>(apply iU fX);exact⟨rfl,rfl,rfl⟩
def r8(t:Nat)(C:Ctx)(i:Nat)(b:SL)(sr:Src)(LE:aQ)(cw:H)(m k:Nat)(L:aQ)(σ:H):Prop:=ll C i b sr m k L σ=.aF t LE cw
theorem r8.next{t:Nat}{C:Ctx}{i:Nat}{b:SL}{sr:Src}{m k:Nat}{LE:aQ}{cw:H}(ef:r8 t C i b sr LE cw m k L σ):
  ∃m' r,m=m'+1/\dN sr k σ=.ok r σ/\uI t C i b (r8 t C i b sr LE cw m' (k+1)) (λ_ _ _=>False) (λL σ=>L=LE/\σ=cw) L σ r:=by
 unfold r8 at ef;cases m with
|zero=>exact sB ef
|succ m=>
  obtain⟨r,e⟩:=BK (λ_ _ _=>.inr trivial) (by rw[ef];intro q;cases q);refine⟨m,r,rfl,e,?_⟩;replace ef:=(A7 e)▸ef;cases r with
  |none=>exact iS ef
  |some v=>
   rcases tr ef with q|⟨f,lp,iu,gR,fX⟩
   ·exact .inr ⟨LE,cw,q,rfl,rfl⟩
   ·refine .inl ⟨f,lp,iu,gR,?_⟩;clear gR;cases f with
    |next=>exact fX
    |cont=>exact fX
    |brk=>exact iS fX
    |ret v=>exact iS fX
def r9(G:Gd)(N:List Str)(env:Env)(I:Addr)(sr:Src)(T:Nat->Nat->aQ->H->Prop)(cb:Shared)(cL:List Addr)(m:Nat)(s:Shared):Prop:=
 ∃h' tk aw af k L',s={cb with heap:=h',toks:=tk}/\dy env cL cb.heap aw h'/\aG G aw af h'/\bj G N env aw h' L'/\d6 G aw h' I sr k/\T m k L' af
theorem r9.elim{I:Addr}{sr:Src}{cb s:Shared}{cL:List Addr}{T:Nat->Nat->aQ->H->Prop}{FN:Nat->Nat->aQ->H->Option V->Prop}{m:Nat}{X:Nat->Shared->Prop}(h:r9 G N env I sr T cb cL m s)(hT:∀m k L σ,T m k L σ->∃m' r,m=m'+1/\dN sr k σ=.ok r σ/\FN m' k L σ r)(j:∀h' tk aw af k L' m r,dy env cL cb.heap aw h'->aG G aw af h'->bj G N env aw h' L'->d6 G aw h' I sr k->dN sr k af=.ok r af->FN m k L' af r->X (m+1) {cb with heap:=h',toks:=tk}):X m s:=by
 refine bB λXx aI=>?_;obtain⟨h',tk,aw,af,k,L',rfl,st,S,X,it,ef⟩:=h;obtain⟨m,r,rfl,e1,e2⟩:=hT _ _ _ _ ef;refine aI ?_;exact j _ _ _ _ _ _ _ _ st S X it e1 e2
theorem wX{i:Nat}{y:Str}{py:Pos}{b:SL}{body:List Stmt}{I:Addr}{sr:Src}{cb:Shared}{cL:List Addr}{R:Result->Shared->Prop}{T:Nat->Nat->aQ->H->Prop}{End:Fl->aQ->H->Prop}{iV:aQ->H->Prop}{outer:List Env}(hh:A.handled=none)(hb:gL G n A N env b body)(eh:G.hb.get? I=none)(hI:cb.heap.get? I=none)(hx:N[i]?=some y)(hk:env.kindOf y=some .local∨env.kindOf y=some .cell)(hT:∀m k L σ,T m k L σ->∃m' r,m=m'+1/\dN sr k σ=.ok r σ/\uI G.tg (G.ctx n) i b (T m' (k+1)) End iV L σ r)(hbad:∀L' af,iV L' af->Fs A env outer env.locals env cL cb.heap/\Sep outer env/\nk G n A N env b body/\∀e aA h' tk aw base,dy env cL cb.heap aw aA->aG G aw af aA->bj G N env aw aA L'->iI (env::outer) aA base->gI base (env::outer) e (G.cA 1) (rawInt env.locals) h'->aA.UpToSlots h'->R (.error (.ref e)) {cb with heap:=h',toks:=tk})(hR:∀fl h' tk aw fE LE cw,End fE LE cw->dy env cL cb.heap aw h'->aG G aw cw h'->bj G N env aw h' LE->fT G aw h' fl fE->R (.ok fl) {cb with heap:=h',toks:=tk}):
  ∀(m:Nat)(s:Shared),r9 G N env I sr T cb cL m s->codeAny (model G.prog G.w) A (.forLoop (.Name y py) (.ref I) body [] env) R s:=by
 intro m s hinv
 let J:Nat->Shared->Prop:=λm s=>r9 G N env I sr T cb cL m s
 refine codeAny_forLoop J ?_ m hinv;clear hinv m s;intro m s hJ;apply r9.elim (FN:=λm' k L σ r=>uI G.tg (G.ctx n) i b (T m' (k+1)) End iV L σ r) hJ hT;clear hJ m s hT;intro h' tk aw af k L' m r' st S X it e4 hr;refine And.right (rt (s:={cb with heap:=h',toks:=tk}) (A:=A) hh S it e4 λxv aA fC gC hv=>?_);refine bB λXx aI=>?_;have ow:=it.own;have aH:aG G aw af aA:=S.il (ow.gw S) eh ow.jc gC;have nj:dy env cL cb.heap aw aA:=st.other hI gC;have bx:bj G N env aw aA L':=X.other S ow gC;clear e4;cases r' with
|none=>
  obtain rfl:xv=none:=hv;exact aI (wpAny_execs_nil (hR .next aA fC aw _ _ _ hr nj aH bx .next))
|some ya=>
  refine ca (hv) λw bh zf it₁=>?_;clear hv;subst bh;refine aI (wpAny_assign_Name (rg bx aH hx hk zf λaX cz cH bM dm _ _=>?_));clear aI Xx;refine bB λXx aI=>?_;have yA:=nj.trans cH;rcases hr with ⟨f,lp,iu,gR,hg⟩|⟨lp,iu,gR,hg⟩
  ·have it₂:=it₁.gB aH bx cH;refine aI (hb.at (s:={cb with heap:=aX,toks:=cz}) dm bM gR λfl cI gj gk d5 dn fk rf=>?_);clear aI Xx gR;have oR:=yA.trans d5;cases rf with
   |next=>exact⟨m,Nat.lt_succ_self _,cI,gj,gk,_,k+1,_,rfl,oR,dn,fk,it₂.gB bM dm d5,hg⟩
   |cont=>exact⟨m,Nat.lt_succ_self _,cI,gj,gk,_,k+1,_,rfl,oR,dn,fk,it₂.gB bM dm d5,hg⟩
   |brk=>exact hR .next cI gj gk _ _ _ hg oR dn fk .next
   |ret r=>exact hR _ cI gj gk _ _ _ hg oR dn fk (.ret r)
  ·refine jd (hbad lp iu hg) λyz sep hX zg=>?_;have kD:=yz.gB sep yA dm;refine aI (hX {cb with heap:=aX,toks:=cz} aw af _ lp iu outer _ _ dm bM kD sep gR λe cI dJ iL gk d5 dn fk x=>?_);exact tF (s:={cb with heap:=dJ,toks:=iL}) (kD.gB sep d5 fk) x λee base B hd u=>zg e cI ee iL gk base (yA.trans d5) dn fk B hd u
theorem aG.outside(S:aG G ρ σ h){a:Addr}(ha:h.objs.size<=a):G.hb.get? a=none:=by
 cases e:G.hb.get? a with
|none=>rfl
|some o=>exact absurd (Heap.lt_size (S.base _ _ e)) (Nat.not_lt.mpr ha)
theorem wa{sr:Src}{k:Nat}{en:H}(e3:eX sr σ=.ok k en):en=σ:=by
 cases sr with
|fix vs=>(apply eQ e3);rfl
|live i=>
  refine bo (eu e3) λvs af e4 e5=>?_;refine ca (eE e4) λ_ _ bc _=>?_;clear e4;(clear e3 wa;subst bc);(apply eQ e5);rfl
theorem LR{i:Nat}{src:Qh.E}{b:SL}{iter:aq}{body:List Stmt}{y:Str}{py p:Pos}(Y:Ao A n)(hE:bg G n A N env src iter)(hb:gL G n A N env b body)(hns:jG iter=true)(hx:N[i]?=some y)(hk:env.kindOf y=some .local∨env.kindOf y=some .cell):
  dh G n A N env (.kA i src b) (.For (.Name y py) iter body [] p):=λs ρ σ L Q E X S h=>by
 refine wpAny_For (hE.gE X S h λxv aA tk aJ ay u bx aH st r h1=>?_) (kI hns);refine bo (PS.lift h1) λsr bN e2 h2=>?_;refine(kg (s:={s with heap:=aA,toks:=tk}) aH r e2 λI aX hI hkp it=>?_).2;refine bB λXx aI=>?_;refine aZ (kg (s:={s with heap:=aA,toks:=tk}) (A:=A) (E:=λ_ _=>True) (Q:=λ_ _=>True) aH r e2 (λ_ _ _ _ _=>trivial)) λcu _=>?_;clear e2 h1;subst cu;refine bo (PS.lift h2) λk en e3 h3=>?_;obtain rfl:=wa e3;refine kt (PS.ok h3) λfE LE cw ef=>?_;refine aI ?_;replace h3:=ef▸h3;have g:=Step.grow aH hkp;refine wX (outer:=[]) (cb:={s with heap:=aA,toks:=tk}) (cL:=aJ) (T:=qC (G.ctx n) i b sr fE LE cw) Y.hh hb (aH.outside hI) (Heap.get?_none_of_le hI) hx hk (λ_ _ _ _ c=>c.next) (λ_ _ q=>q.elim) (λfl h' eL aw f' L' af q st' S' X' rf=>by obtain⟨rfl,rfl,rfl⟩:=q;exact h3 fl h' eL aw st' S' X' rf) (k+1) _ ⟨aX,tk,aJ,_,0,L,rfl,g.toS,aH.grow hkp,bx.step aH g,it,ef⟩
def qg(k:Int):M (Int×H):=λσ=>.ok (k,σ) σ
theorem LS{i:Nat}{src:Qh.E}{b:SL}{e:aq}{body:List Stmt}{y:Str}{py p rp rpos:Pos}(K:cG G)(Y:Ao A n)(hE:bg G n A N env src e)(hb:gL G n A N env b body)(hx:N[i]?=some y)(hk:env.kindOf y=some .local∨env.kindOf y=some .cell)(sD:env.kindOf "range"=some .globalImplicit)(hs:starEach [e] env=[(false,eval e env)]):
  dh G n A N env (.eP i src b) (.For (.Name y py) (.Call (.Name "range" rp) [e] [] rpos) body [] p):=λs ρ σ L Q E X S h=>by
 refine bB λXx aI=>?_;refine bo (PS.lift h) λu ay e1 h1=>?_;refine bo (PS.lift h1) λk bN e2 h2=>?_;refine aZ (jz e2) λcu bh=>?_;clear e2;(clear h1;subst cu);subst bh;refine aI ?_;have hle:0<=k/\k<=1000000:=by
  by_cases hc:0<=k/\k<=1000000
  ·exact hc
  ·(replace h2:=(if_neg hc)▸h2);exact h2.elim
 replace h2:=(if_pos hle)▸h2;refine kt (PS.ok h2) λfE LE cw ef=>?_;replace h2:=ef▸h2;refine wpAny_For (s8 (g:=qg) (R:=o3) (Q:=λb _=>b=(k,bN)) K hE sD hs X S ?_ λI aA aX tk cz aJ en k' bx aH st _ h3 hI hkp it=>?_) (kI rfl)
 ·unfold M.bind;refine e1.symm▸?_;show aT G o3 ((if 0<=k/\k<=1000000 then qg k else M.fail) bN) ρ s _;refine(if_pos hle).symm▸?_;rintro b h' tk aw _ _ rfl
  rfl
 ·have e3:=h3.cD aH (b:=(k',en)) rfl;cases e3;have g:=Step.grow aH hkp;exact wX (outer:=[]) (cb:={s with heap:=aA,toks:=tk}) (cL:=aJ) (T:=qC (G.ctx n) i b (.fix (dM k)) fE LE cw) Y.hh hb (aH.outside hI) (Heap.get?_none_of_le hI) hx hk (λ_ _ _ _ c=>c.next) (λ_ _ q=>q.elim) (λfl h' eL aw f' L' af q st' S' X' rf=>by obtain⟨rfl,rfl,rfl⟩:=q;exact h2 fl h' eL aw (st.toS.trans st') S' X' rf) (k.toNat+1) _ ⟨aX,cz,aJ,_,0,L,rfl,g.toS,aH.grow hkp,bx.step aH g,it,ef⟩
end
end Qh
set_option tactic.hygienic false
namespace Qh
open PySem PySem.W PyProof.Rows
section
variable{G:Gd}{n:Nat}{A:Around}{N:List Str}{env:Env}
theorem Ki{i:Nat}{src:Qh.E}{b:SL}{e:aq}{body:List Stmt}{y:Str}{py p rp rpos:Pos}(K:cG G)(Y:Ao A n)(hE:bg G n A N env src e)(hc:∀L,bF G.tg (ak (G.ctx n) src L))(hb:gL G n A N env b body)(hX:nk G n A N env b body)(hx:N[i]?=some y)(hk:env.kindOf y=some .local∨env.kindOf y=some .cell)(sD:env.kindOf "range"=some .globalImplicit)(hs:starEach [e] env=[(false,eval e env)]):
  gM G n A N env (.eP i src b) (.For (.Name y py) (.Call (.Name "range" rp) [e] [] rpos) body [] p):=λs ρ σ L L' af outer Q E X S F sep ev px=>by
 rcases pD ev with ⟨_,q⟩|⟨u,ay,e1,h1⟩
 ·exact no (hc L) q
 rcases pD h1 with ⟨_,q⟩|⟨k,bN,e2,h2⟩
 ·exact no .dz q
 refine aZ (jz e2) λcu bh=>?_;clear e2;(clear h1;subst cu);subst bh;have hle:0<=k/\k<=1000000:=by
  by_cases hc:0<=k/\k<=1000000
  ·exact hc
  ·(replace h2:=(if_neg hc)▸h2);exact sB h2
 replace h2:=(if_pos hle)▸h2;refine wpAny_For (s8 (g:=qg) (R:=o3) (Q:=λb _=>b=(k,bN)) K hE sD hs X S ?_ λI aA aX tk cz aJ en k' bx aH st _ h3 hI hkp it=>?_) (kI rfl)
 ·unfold M.bind;refine e1.symm▸?_;show aT G o3 ((if 0<=k/\k<=1000000 then qg k else M.fail) bN) ρ s _;refine(if_pos hle).symm▸?_;rintro b h' tk aw _ _ rfl
  rfl
 ·have e3:=h3.cD aH (b:=(k',en)) rfl;cases e3;have g:=Step.grow aH hkp;exact wX (outer:=outer) (cb:={s with heap:=aA,toks:=tk}) (cL:=aJ) (T:=r8 G.tg (G.ctx n) i b (.fix (dM k)) L' af) Y.hh hb (aH.outside hI) (Heap.get?_none_of_le hI) hx hk (λ_ _ _ _ c=>c.next)
   (λRl cO q=>by
    obtain⟨rfl,rfl⟩:=q
    exact⟨F.step st,sep,hX,λe cI dJ iL qe base gA gK hH B hd u=>J7 B hd u λee x=>px e cI ee iL qe (st.toS.trans gA) gK hH x⟩)
   (λ_ _ _ _ _ _ _ q=>q.elim) (k.toNat+1) _ ⟨aX,cz,aJ,_,0,L,rfl,g.toS,aH.grow hkp,bx.step aH g,it,h2⟩
end
end Qh
namespace Qh
open PySem PyProof.Rows
theorem zY(its:Array Value)(n i:Nat)(x:Value):Obj.mapSeq (·.setIfInBounds i x) {cls:=.type "list",data:=.seq its n}={cls:=.type "list",data:=.seq (its.setIfInBounds i x) n}:=by
 simp[Obj.mapSeq]
theorem HQ{prog:Program}{w:World}{A:Around}{E:bD}{s:Shared}{l:Addr}{items:Array Value}{k:Int}{t:Tok}(hl:s.heap.PlainList l items)(h0:0<=k)(hfit:k<2^63)(hn:k<items.size)(hQ:∀h',h'.PlainList l (items.setIfInBounds k.toNat v)->Heap.SameBut l s.heap h'->Q () {s with heap:=h'}):
  wpAny (model prog w) A (setItem (.ref l) (.int k t) v) Q E s:=by
 refine b6 (id hl) λne ho=>?_;have hl':=hl.isList;unfold setItem
 try with_reducible refine wpAny_holding ?_
 first|refine wpAny_bind (wpAny_pure ?_)|skip
 refine wpAny_bind (wpAny_sequenceKey hl'.typeIs (by decide) ?_)
 refine wpAny_bind (wpAny_callSpecial?_slot hl'.typeIs slot_list_setitem
  (wpAny_call_entry slot_list_setitem hl'.typeIs entry_list_setitem ?_ (args_list_setitem _ _ _)))
 show wpAny _ _ (Builtin.List.listSubscript? (.int k t) >>= _) _ _ s;refine wpAny_bind (wpAny_listSubscript_int (fitsIndex_of h0 hfit) ?_);clear hfit;obtain⟨j,rfl⟩:=Int.eq_ofNat_of_zero_le h0;have hj:j<items.size:=by lia
 show wpAny _ _ ((seqItemAt l j >>= λr=>pure (r.map (j,·))) >>= _) _ _ s;refine wpAny_bind (wpAny_bind (wpAny_seqItemAt ho rfl (wpAny_pure ?_)));rw[(Array.getElem?_eq_getElem hj)];show wpAny _ _ (setSeqItemAt l j v >>= _) _ _ s;have E2:(s.heap.update l (Obj.mapSeq (·.setIfInBounds j v))).PlainList l (items.setIfInBounds j v):=
  ⟨ne,by rw[Heap.get?_update_self _ ho (by rw[zY];rfl),zY]⟩
 refine wpAny_bind (wpAny_setSeqItemAt ho rfl ?_)
 first
  |exact wpAny_bind (wpAny_pure (wpAny_pure ⟨.none,rfl,wpAny_pure (hQ _ E2 (Heap.SameBut.update ..))⟩))
  |exact wpAny_pure ⟨.none,rfl,wpAny_pure (hQ _ E2 (Heap.SameBut.update ..))⟩
section
variable{G:Gd}{n:Nat}{A:Around}{N:List Str}{env:Env}{s:Shared}{ρ aw:List Addr}{σ af:H}{h h':Heap}{L:aQ}{E:bD}
theorem wY(S:aG G ρ σ h)(ha:a∈ρ)(hk:∀b o,b≠a->h.get? b=some o->h'.get? b=some o):∀b xs,IsTup h b xs->IsTup h' b xs:=λb xs t=>by
 refine aM (t) λob e c=>?_;exact⟨ob,hk b ob (λq=>(S.ax t) (q▸ha)) e,c⟩
theorem IB(h1:kvs.map (·.1)=es.map (·.1))(h2:bH G ρ h (kvs.map (·.2)) (es.map (·.2)))(r:Rel G ρ h v u)(k:Str):
  (stored kvs k v).map (·.1)=(bp es k u).map (·.1)/\bH G ρ h ((stored kvs k v).map (·.2)) ((bp es k u).map (·.2)):=by
 have hany:kvs.any (λkv=>kv.1=k)=es.any (λe=>e.1=k):=by
  have e1:kvs.any (λkv=>decide (kv.1=k))=(kvs.map (·.1)).any λy=>decide (y=k):=by(refine(List.any_map).symm▸?_);rfl
  have e2:es.any (λkv=>decide (kv.1=k))=(es.map (·.1)).any λy=>decide (y=k):=by(refine(List.any_map).symm▸?_);rfl
  refine e1.symm▸?_;refine e2.symm▸?_;refine h1.symm▸?_;with_reducible rfl
 unfold stored bp;refine hany.symm▸?_
 by_cases hc:es.any (λe=>e.1=k)=true
 ·refine(if_pos hc).symm▸?_;refine(if_pos hc).symm▸?_;clear hc hany
  induction kvs generalizing es with
  |nil=>
   clear h2;cases es with
   |nil=>exact⟨rfl,.nil⟩
   |cons e es=>cases h1
  |cons kv kvs ih=>
   cases es with
   |nil=>cases h1
   |cons e es=>
    simp only[List.map_cons,List.cons.injEq] at h1 h2;cases h2 with
    |cons hr h2=>
     refine aZ (ih h1.2 h2) λi1 i2=>?_;have q:kv.1=e.1:=h1.1;simp only[List.map_cons]
     by_cases hk:e.1=k
     ·simp only[q,hk,if_true];exact⟨by(refine i1.symm▸?_;with_reducible rfl),.cons r i2⟩
     ·simp only[q,hk,if_false];refine⟨?_,.cons hr i2⟩;refine i1.symm▸?_;with_reducible rfl
 ·refine(if_neg hc).symm▸?_;refine(if_neg hc).symm▸?_;simp only[List.map_append,List.map_cons,List.map_nil];exact⟨by(refine h1.symm▸?_;with_reducible rfl),h2.append (.cons r .nil)⟩
theorem IC{o i e:Value}{uo ui ue:V}(S:aG G ρ σ s.heap)(ro:Rel G ρ s.heap o uo)(ri:Rel G ρ s.heap i ui)(re:Rel G ρ s.heap e ue)(h:PU G (iB uo ui ue σ) ρ s Q):wpAny (model G.prog G.w) A (setItem o i e) Q E s:=by
 cases uo with
|ref j=>
  cases ui with
  |int k=>
   refine bo (aT.bind h) λvs ay e1 h1=>?_;have zz:=eE e1;clear e1;obtain⟨j',q,rfl,e2⟩:=zz;refine iT q λaL=>?_;subst aL;refine aZ (aT.ite h1) λhc h2=>?_;have zz:=S.x8 e2 ro;clear ro;obtain⟨a,xs,rfl,hi,hl,rl⟩:=zz;(apply eI ri;intro _);have hlen:=rl.length;have hj:=(List.getElem?_eq_some_iff.mp e2).1;refine HQ hl hc.1 ?_ (by(refine(List.size_toArray).symm▸?_;refine hlen.symm▸?_);exact hc.2.1) λh' hl' hs'=>?_
   ·have h1:=hc.2.1;have h2:=hc.2.2;have:aO=1000000:=rfl;exact lI 0x7007007007007007007007007007a0184c04900904904904920534184c14e346007247d078ce [_,_,_] rfl h1 (Int.ofNat_le.mpr h2) (congrArg Int.ofNat this)
   ·have hkp:∀b o,b≠a->s.heap.get? b=some o->h'.get? b=some o:=λb o hb e=>(hs'.2 b hb).trans e;refine aZ (S.turn hi hkp (o:=.ah (vs.set k.toNat ue)) ⟨xs.set k.toNat e,by simpa using hl',(rl.set k.toNat re).mono (wY S (List.mem_of_getElem? hi) hkp) λ_ _ e=>e⟩) λS' st=>?_;exact h2 () h' s.toks ρ st S' trivial
  |str k=>
   obtain⟨ob,ay,e1,h1⟩:=aT.bind h;have zz:=oo e1;clear e1;obtain⟨rfl,e2⟩:=zz;cases ob with
   |aD es=>
    refine aZ (aT.ite h1) λhc h2=>?_;refine nf (S.dict e2 ro) λa kvs bc hi hd hk1 hk2=>?_;clear ro;subst bc;(apply kC ri;intro _);have hlen:kvs.length=es.length:=by have:=congrArg List.length hk1;simpa using this
    refine wpAny_setItem_pairs (strKind_is _ _ _ _) hd (λh' hd' hs'=>?_) (by(refine hlen.symm▸?_);exact iX hc);have hkp:∀b o,b≠a->s.heap.get? b=some o->h'.get? b=some o:=λb o hb e=>(hs'.2 b hb).trans e;refine aZ (IB hk1 hk2 re k) λi1 i2=>?_;refine aZ (S.turn hi hkp (o:=.aD (bp es k ue)) ⟨_,hd',i1,i2.mono (wY S (List.mem_of_getElem? hi) hkp) λ_ _ e=>e⟩) λS' st=>?_;exact h2 () h' (s.toks+1) ρ st S' trivial
   |ah vs=>exact h1.elim
   |inst c d=>exact h1.elim
   |dq n=>exact h1.elim
  |_=>exact h.elim
|_=>exact h.elim
theorem A8(S:aG G ρ σ s.heap)(ro:Rel G ρ s.heap o uo)(re:Rel G ρ s.heap e ue)(h:PU G (rn uo ue σ) ρ s λ_ s'=>Q .none s'):wpAny (model G.prog G.w) A (call (.builtin "list.append") [o,e]) Q E s:=by
 cases uo with
|ref j=>
  refine bB λXx aI=>?_;refine bo (aT.bind h) λvs ay e1 h1=>?_;refine ca (eE e1) λj' q bc e2=>?_;clear e1;(clear h A8;subst bc);refine iT q λaL=>?_;subst aL;obtain⟨hc,h2⟩:=aT.ite h1;refine fF (S.x8 e2 ro) λa xs bc hi hl rl=>?_;clear ro;subst bc;refine aI ?_;refine wpAny_list_append_plain hl (λh' hl' hs'=>?_) (by(refine(List.size_toArray).symm▸?_;refine(rl.length).symm▸?_);exact iX hc);have hkp:∀b o,b≠a->s.heap.get? b=some o->h'.get? b=some o:=λb o hb e=>(hs'.2 b hb).trans e;refine aZ (S.turn hi hkp (o:=.ah (vs++[ue])) ⟨xs++[e],by simpa using hl',(rl.append (.cons re .nil)).mono (wY S (List.mem_of_getElem? hi) hkp) λ_ _ e=>e⟩) λS' st=>?_;exact h2 () h' s.toks ρ st S' trivial
|_=>exact h.elim
end
end Qh
namespace Qh
open PySem PyProof.Rows
section
variable{G:Gd}{n:Nat}{A:Around}{N:List Str}{env:Env}
theorem PS.unit{m:M Unit}{f:Unit->Qh.N Fl}{L:aQ}{σ:H}{ρ:List Addr}{s:Shared}{Q:Flow->Shared->Prop}{K:Unit->Shared->Prop}(h:PS G N env (Qh.N.bind (Qh.N.lift λ_=>m) f L σ) ρ s Q)(X:bj G N env ρ s.heap L)(S:aG G ρ σ s.heap)(k:∀h' tk aw af,aG G aw af h'->bj G N env aw h' L->PS G N env (f () L af) aw {s with heap:=h',toks:=tk} Q->K () {s with heap:=h',toks:=tk}):PU G (m σ) ρ s K:=by
 refine bo (PS.lift h) λu ay e1 h1=>?_;refine e1.symm▸?_;intro _ h' tk aw st S' _;exact k h' tk aw ay S' (X.step S st) (h1.step st.toS)
theorem LU{o i e:Qh.E}{o' i' e':aq}{p p':Pos}(h1:bg G n A N env e e')(h2:bg G n A N env o o')(h3:bg G n A N env i i')(hs:swapsWith e' (some (.Subscript o' i' p')) p.line env=pure false):
  dh G n A N env (.fh o i e) (.Assign [.Subscript o' i' p'] e' p):=λs ρ σ L Q E X S h=>
 wpAny_Assign_Subscript (h1.gE X S h λv aA tk aJ ay u bx aH st r h'=>h2.gE bx aH h' λQw aX cz dD bN fU dm bM cH qr h''=>h3.gE dm bM h'' λSz cI gj gk en yB fk dn d5 Qx h'''=>
  IC dn (qr.step d5 bM) Qx ((r.step cH aH).step d5 bM) (PS.unit h''' fk dn λdJ iL qe iu gK hH hq=>hq.cD gK hH .next)) hs
theorem Jc{o e:Qh.E}{o' e':aq}{ap p p2:Pos}(h1:bg G n A N env o o')(h2:bg G n A N env e e')(hb:jZ o'=true)(hline:(ap.endLine==p.line)=true)(hi:interactive env=false)(hs:starEach [e'] env=[(false,eval e' env)]):dh G n A N env (.append o e) (.Expr (.Call (.Attribute o' "append" ap) [e'] [] p) p2):=λs ρ σ L Q E X S h=>by
 refine wpAny_Expr_any (Call_method1 (wj hb) hs hline (h1.gE X S h λy aA tk aJ ay u bx aH st r h'=>?_)) hi rfl;refine bB λXx aI=>?_;refine bo (PS.lift h') λvs bN e1 h''=>?_;refine ca (eE e1) λj bh bc e2=>?_;clear e1;(clear h';subst bh);subst bc;refine fF (aH.x8 (s:={s with heap:=aA,toks:=tk}) e2 r) λa xs bc hj hl rl=>?_;subst bc;refine aI ?_;refine⟨"list",_,PySem.F.plainAttrs_list,PySem.slot_list_append,PySem.type_list_append,hl.isList.typeIs,(λb q=>by cases q;obtain⟨q,ho⟩:=hl;exact⟨_,ho,rfl⟩),?_⟩;have:=callWith_method1 (first:=[Value.ref a]) (id:="list.append") (pos:=p) (env:=env) (e:=e') (rest:=[]) (M:=model G.prog G.w) (A:=A) (Q:=λ_=>Q .next) (E:=E) (s:={s with heap:=aA,toks:=tk})
  (args_cons (h2.gE bx aH h'' λy' aX cz dD en u' dm bM cH r' hq=>args_nil (A8 bM (r.step cH aH) r' (PS.unit hq dm bM λdJ iL qe iu gK hH hr=>hr.cD gK hH .next))) hs) hs rfl
 replace this:=hs▸this;exact this
theorem bj.LV(X:bj G N env ρ h L)(hL:env.locals≠C)(hc:∀y c,env.kindOf y=some .cell->env.cells.lookup y=some c->c≠C)(tu:∀a xs,IsTup h a xs->IsTup h' a xs)(hk:∀b o,b≠C->h.get? b=some o->h'.get? b=some o):bj G N env ρ h' L:=by
 refine aM (X.ns) λm hn hm=>?_;refine⟨X.kind,X.glob,X.blt,⟨m,hn.at λo e=>hk _ _ hL e,λi u y e1 e2 e3=>?_⟩,λy hy=>?_,X.has,X.apart,X.nodup,X.jP,X.jQ,X.newL,X.iP⟩
 ·refine aM (hm i u y e1 e2 e3) λv q r=>?_;exact⟨v,q,r.mono tu λ_ _ e=>e⟩
 ·refine bB λXx aI=>?_;obtain⟨c,ov,hcl,⟨o,ho,hd⟩,hv⟩:=X.cl y hy;refine aI ?_;refine⟨c,ov,hcl,⟨o,hk _ _ (hc y c hy hcl) ho,hd⟩,λi u e1 e2=>?_⟩;refine aM (hv i u e1 e2) λv q r=>?_;exact⟨v,q,r.mono tu λ_ _ e=>e⟩
theorem AB{elt' iter:aq}{x y:Str}{px pos py:Pos}{ifs:List aq}{scope:Scope}{v i:Nat}{br:List Nat}{cl:List (Str×Addr)}{I:Addr}{sr:Src}{f:V->M (Option V)}{Q:Flow->Shared->Prop}{E:bD}{bA:Shared}{aJ:List Addr}{ay:H}{L:aQ}{B cz:Nat}{aX:Heap}(hh:A.handled=none)(bx:bj G N env aJ bA.heap L)(aH:aG G aJ ay bA.heap)(Z:g0 N env scope x v br)(hcl:∀y,(y,NameKind.free)∈scope.names->cl.lookup y=env.cells.lookup y)(hI:bA.heap.objs.size<=I)(hk:∀b o,bA.heap.get? b=some o->aX.get? b=some o)(it:d6 G aJ aX I sr 0)(hB:B<=aO+1)(hturn:∀C it,TurnOk G A N (compEnvC scope cl C env) (b7 (cQ L br) v it) ifs elt' (f it))(hy:N[i]?=some y)(sE:env.kindOf y=some .local∨env.kindOf y=some .cell){vL:V}{af:H}(ev:M.bind (dk sr f B 0) (λvs=>dc (.ah vs)) ay=.ok vL af)(h:PS G N env (Qh.N.bind (Qh.N.put i vL) (λ_=>Qh.N.pure .next) L af) aJ bA Q):
  wpAny (model G.prog G.w) A (newList []) (λacc hG=>wpAny (model G.prog G.w) A (newFunctionEnv scope env.globals cl [] env.qual none .none (some env)) (λcenv oS=>
   codeAny (model G.prog G.w) A (.compStart (.ListComp elt' [⟨.Name x px,iter,ifs,0⟩] scope pos) 0 (.ref I) acc {cenv with scope:=relabel scope env}) (compPost (model G.prog G.w) A E (some (assign (.Name y py) env)) (λ_=>Q .next) acc cenv.locals) oS) E hG) E {bA with heap:=aX,toks:=cz}:=by
 refine bB λXx aI=>?_;refine bo (eu ev) λall cw ec e2=>?_;refine fv e2 λaL cR=>?_;subst aL;subst cR;refine aI ?_;have eh:∀a,bA.heap.get? a=none->G.hb.get? a=none:=λa ha=>by
  cases e:G.hb.get? a with
  |none=>rfl
  |some o=>(replace ha:=(aH.base _ _ e)▸ha);exact d8 ha
 refine A6 hh bx aH Z hcl hI hk it hB ec hturn λD C h' tk aw xs mC hD hC hDC st S hl rl mf ia hns=>?_;have E3:∀a o,bA.heap.get? a=some o->a≠C:=λa o e q=>by subst q;(replace e:=hC▸e);exact bS e
 have zk:env.locals≠C:=by obtain⟨m,⟨o,_,_,ho,_⟩,_⟩:=bx.ns;exact E3 _ _ ho
 have hcC:∀y c,env.kindOf y=some .cell->env.cells.lookup y=some c->c≠C:=λy c h1 h2=>by
  refine bB λXx aI=>?_;obtain⟨c',ov,hc',⟨o,ho,_⟩,_⟩:=bx.cl y h1;refine aI ?_;(replace hc':=h2▸hc');(refine dt hc' λaL=>?_;subst aL);exact E3 _ _ ho
 refine aZ (S.adopt mf (eh D hD) (o:=.ah all) ⟨xs,hl,rl.mono (λ_ _ t=>t) λi b e=>by rw[List.getElem?_append_left (List.getElem?_eq_some_iff.mp e).1];exact e⟩) λS' hi=>?_;have st':=st.adopt hD;have Qy:C∉aw++[D]:=λq=>by
  rcases List.mem_append.mp q with q|q
  ·exact ia q
  ·simp at q;exact hDC q.symm
 show wpAny _ A (assign (.Name y py) env (.ref D)) _ E _;refine wpAny_assign_Name (rg (bx.step aH st') S' hy sE (.ref hi) λcI gj d5 dn fk _ kp=>⟨mC,hns.at λo e=>kp C o (Ne.symm zk) (λz hz q=>hcC z C hz q rfl) e,λdJ je=>?_⟩);have gS:∀b o,b≠C->cI.get? b=some o->dJ.get? b=some o:=λb o hb e=>(je.2 b hb).trans e;have nI:=mr (hns.at λo e=>kp C o (Ne.symm zk) (λz hz q=>hcC z C hz q rfl) e);have tu:∀a ys,IsTup cI a ys->IsTup dJ a ys:=λa ys t=>by
  have:=nI a ys t;obtain⟨o,e,c⟩:=t;exact⟨o,gS a o this e,c⟩
 exact h .next dJ gj _ ((st'.toS.trans d5).other hC gS) (dn.il Qy (eh C hC) nI gS) (fk.LV zk hcC tu gS) .next
theorem zZ{y:Str}{py pos p p':Pos}{elt':aq}{x:Str}{px:Pos}{iter:aq}{ifs:List aq}{scope:Scope}{Q:Flow->Shared->Prop}{E:bD}(hsw:swapsWith (.ListComp elt' [⟨.Name x px,iter,ifs,0⟩] scope pos) (some (.Name y py)) p.line env=pure true)(h:wpAny (model G.prog G.w) A (comprehension (.ListComp elt' [⟨.Name x px,iter,ifs,0⟩] scope pos) scope env (firstIterPos [⟨.Name x px,iter,ifs,0⟩] pos) (newList []) (firstAsync [⟨.Name x px,iter,ifs,0⟩]) (firstIter [⟨.Name x px,iter,ifs,0⟩] env) (some (assign (.Name y py) env))) (λ_=>Q .next) E s):
  wpAny (model G.prog G.w) A (exec (.Assign [.Name y py] (.ListComp elt' [⟨.Name x px,iter,ifs,0⟩] scope pos) p) env) Q E s:=by
 refine(exec_Assign_Name_used y py _ p hsw).symm▸?_;refine wpAny_bind (wpAny_standAt (wpAny_bind ?_));show wpAny _ A (do let _ ←comprehension _ _ _ _ _ _ _ _;pure ()) _ E s;exact wpAny_bind (wpAny_mono h (λ_ _ q=>wpAny_pure (wpAny_pure q)) λ_ _ e=>e)
theorem Ai{lj src:E}{elt' iter:aq}{x y:Str}{px pos py p:Pos}{ifs:List aq}{scope:Scope}{v i:Nat}{br:List Nat}{f:aQ->V->M (Option V)}(Y:Ao A n)(hE:bg G n A N env src iter)(Z:g0 N env scope x v br)(hns:jG iter=true)(hev:∀L σ,ak (G.ctx n) lj L σ=M.bind (ak (G.ctx n) src L) (λx=>M.bind (srcOf x) λsr=>M.bind (eX sr) λk=>if k<=aO then M.bind (dk sr (λit=>f (b7 (cQ L br) v it) it) (k+1) 0) λvs=>dc (.ah vs) else M.fail) σ)(hturn:∀cl C L it,(∀y,(y,NameKind.free)∈scope.names->cl.lookup y=env.cells.lookup y)->TurnOk G A N (compEnvC scope cl C env) L ifs elt' (f L it))(hy:N[i]?=some y)(sE:env.kindOf y=some .local∨env.kindOf y=some .cell)(hsw:swapsWith (.ListComp elt' [⟨.Name x px,iter,ifs,0⟩] scope pos) (some (.Name y py)) p.line env=pure true):
  dh G n A N env (.aK i lj) (.Assign [.Name y py] (.ListComp elt' [⟨.Name x px,iter,ifs,0⟩] scope pos) p):=λs ρ σ L Q E X S h=>by
 refine bo (PS.lift h) λvL af ev h0=>?_;rw[hev] at ev;refine bB λXx aI=>?_;refine bo (eu ev) λu ay e1 e2=>?_;have kU:∀y∈scope.names,y.2=.free->(env.cells.lookup y.1).isSome=true:=λy hy hf=>by
  refine bo (X.cl y.1 (Z.free y hy hf)) λc _ hc _=>?_
  (refine hc.symm▸?_);rfl
 obtain⟨cl,hclos,hcl⟩:=qO kU;refine aI ?_;refine zZ (p':=py) hsw (wpAny_comprehension_free rfl (kI hns) hclos Z.kind Z.locs (hE s ρ σ L _ E X S ?_));refine e1.symm▸?_;intro xv aA tk aJ st aH r;refine bo (eu e2) λsr bN e3 e4=>?_;refine(kg (s:={s with heap:=aA,toks:=tk}) aH r e3 λI aX hI hk it=>?_).2;refine bB λXx aI=>?_;obtain⟨rfl,_⟩:=kg (s:={s with heap:=aA,toks:=tk}) (A:=A) (E:=λ_ _=>True) (Q:=λ_ _=>True) aH r e3 (λ_ _ _ _ _=>trivial);refine bo (eu e4) λk en e5 e6=>?_;obtain rfl:=wa e5;refine aI ?_;have hle:k<=aO:=by
  by_cases hc:k<=aO
  ·exact hc
  ·(replace e6:=(if_neg hc)▸e6);exact cT e6
 replace e6:=(if_pos hle)▸e6;exact AB Y.hh (X.step S st) aH Z hcl hI hk it (lN 0x6134184c04904920534c [_,_] rfl hle) (λC it=>hturn cl C _ it hcl) hy sE e6 (h0.step st.toS)
theorem H8{elt src:E}{elt' e:aq}{x y:Str}{px pos py p rp rpos:Pos}(K:cG G)(Y:Ao A n)(hE:bg G n A N env src e)(Z:g0 N env scope x v br)(sD:env.kindOf "range"=some .globalImplicit)(hs:starEach [e] env=[(false,eval e env)])(hturn:∀cl C,(∀y,(y,NameKind.free)∈scope.names->cl.lookup y=env.cells.lookup y)->bg G n A N (compEnvC scope cl C env) elt elt')(hy:N[i]?=some y)(sE:env.kindOf y=some .local∨env.kindOf y=some .cell)(hsw:swapsWith (.ListComp elt' [⟨.Name x px,.Call (.Name "range" rp) [e] [] rpos,[],0⟩] scope pos) (some (.Name y py)) p.line env=pure true):
  dh G n A N env (.aK i (.fH elt v br src)) (.Assign [.Name y py] (.ListComp elt' [⟨.Name x px,.Call (.Name "range" rp) [e] [] rpos,[],0⟩] scope pos) p):=λs ρ σ L Q E X S h=>by
 refine bB λXx aI=>?_;refine bo (PS.lift h) λvL af ev h0=>?_;refine bo (eu ev) λu ay e1 e2=>?_;refine bo (eu e2) λk bN e3 e4=>?_;refine aZ (jz e3) λcu bh=>?_;clear e3;(clear e2;subst cu);subst bh;refine aI ?_;have hle:0<=k/\k<=1000000:=by
  by_cases hc:0<=k/\k<=1000000
  ·exact hc
  ·(replace e4:=(if_neg hc)▸e4);exact cT e4
 replace e4:=(if_pos hle)▸e4;have kU:∀y∈scope.names,y.2=.free->(env.cells.lookup y.1).isSome=true:=λy hy hf=>by
  refine bo (X.cl y.1 (Z.free y hy hf)) λc _ hc _=>?_
  (refine hc.symm▸?_);rfl
 refine aM (qO kU) λcl hclos hcl=>?_;refine zZ (p':=py) hsw (wpAny_comprehension_free rfl (kI rfl) hclos Z.kind Z.locs (s8 (g:=qg) (R:=o3) (Q:=λb _=>b=(k,bN)) K hE sD hs X S ?_ λI aA aX tk cz aJ en k' bx aH st _ h3 hI hkp it=>?_))
 ·unfold M.bind;refine e1.symm▸?_;show aT G o3 ((if 0<=k/\k<=1000000 then qg k else M.fail) bN) ρ s _;refine(if_pos hle).symm▸?_;rintro b h' tk aw _ _ rfl
  rfl
 ·have e5:=h3.cD aH rfl;cases e5;exact AB (bA:={s with heap:=aA,toks:=tk}) Y.hh bx aH Z hcl hI hkp it (by have:aO=1000000:=rfl;lia) (λC it=>qP (hturn cl C hcl)) hy sE e4 (h0.step st.toS)
end
end Qh
namespace Qh
open PySem PyProof.Rows
section
variable{G:Gd}{n:Nat}{A:Around}{N:List Str}{env:Env}{s:Shared}{ρ aw:List Addr}{σ af:H}{h h':Heap}{L:aQ}{E:bD}{Q:Flow->Shared->Prop}
theorem Kj{c:Nat}{m:Str}{st:Stmt}:dh G n A N env (.raise c m) st:=λs ρ σ L Q E X S h=>h.elim
theorem Ck{I:Addr}{sr:Src}{us:List V}(hh:A.handled=none)(eh:G.hb.get? I=none)(hs:∀j,dN sr j σ=.ok us[j]? σ):
  ∀(m k:Nat)(s:Shared)(Q:List Value->Shared->Prop),k+m=us.length->aG G ρ σ s.heap->d6 G ρ s.heap I sr k->
   (∀vs h' tk,(∀b o,b≠I->s.heap.get? b=some o->h'.get? b=some o)->bH G ρ h' vs (us.drop k)->d6 G ρ h' I sr us.length->Q vs {s with heap:=h',toks:=tk})->
   wpAny (model G.prog G.w) A (draw (.ref I) m) Q E s
|0,k,s,Q,hk,S,it,hQ=>by
  have hk':k=us.length:=cK (lN 0x34c04900904920634180c [_,_] rfl hk) (lN 0x34c04904920630180d [_,_] rfl hk);clear hk;subst hk';refine wpAny_pure (hQ [] s.heap s.toks (λ_ _ _ e=>e) ?_ it)
  (refine(List.drop_eq_nil_of_le (aR _)).symm▸?_);exact .nil
|m+1,k,s,Q,hk,S,it,hQ=>by
  have hlt:k<us.length:=lN 0x34184c04900904920634106138c [_,_,_] rfl hk;show wpAny _ _ (pyNext (.ref I) >>= _) Q E s;have Gf:=hs k;rw[List.getElem?_eq_getElem hlt] at Gf;refine wpAny_bind ((rt hh S it Gf λx aA fC gC hv=>?_).2);refine ca (hv) λv bh r it₁=>?_;clear hv;subst bh;have ow:=it.own;refine wpAny_bind (wpAny_holding (Ck hh eh hs m (k+1) {s with heap:=aA,toks:=fC} _ (cK (lN 0x38134184c04900904920638106134c [_,_,_] rfl hk) (lN 0x4e06134c04904920630106138d [_,_,_] rfl hk)) (S.il (ow.gw S) eh ow.jc gC) it₁ λvs aX cz eo rl it₂=>wpAny_pure ?_));have qh:=it₁.own;refine hQ (v::vs) aX cz (λb o hb e=>eo b o hb (gC b o hb e)) ?_ it₂;refine(List.drop_eq_getElem_cons hlt).symm▸?_;exact .cons (r.mono (λa ys t=>by have:=qh.jc a ys t;obtain⟨o,e,c⟩:=t;exact⟨o,eo a o this e,c⟩) λ_ _ e=>e) rl
theorem HO{x:Value}{u:V}{sr:Src}{us:List V}{T id:String}(hh:A.handled=none)(S:aG G ρ σ s.heap)(X:bj G N env ρ s.heap L)(rx:Rel G ρ s.heap x u)(oU:srcOf u σ=.ok sr σ)(ib:∀j,dN sr j σ=.ok us[j]? σ)(hty:s.TypeIs x T)(hsl:Slot T "__iter__" id){Q:List Value->Shared->Prop}(hQ:∀vs h' tk,Step ρ s.heap ρ h'->aG G ρ σ h'->bj G N env ρ h' L->bH G ρ h' vs us->Q vs {s with heap:=h',toks:=tk}):wpAny (model G.prog G.w) A (unpackItems x us.length none) Q E s:=by
 unfold unpackItems;refine wpAny_bind ?_;unfold notIterableAtAll;refine wpAny_bind (wpAny_specialOf hty hsl.lookup ?_);refine wpAny_pure ?_;simp only[Bool.false_eq_true,if_false];refine wpAny_bind (wpAny_holding ((kg S rx oU λI aA hI gC it=>?_).2));have aH:=S.grow gC;have eh:=S.outside hI;refine wpAny_bind (wpAny_holding (Ck hh eh ib us.length 0 {s with heap:=aA} _ (cK (lN 825917182536 [_] rfl) (lN 82144399944 [_] rfl)) aH it λvs aX cz eo rl it₂=>?_));replace rl:=(List.drop_zero)▸rl;rw[if_neg (by(refine(rl.length).symm▸?_);exact Nat.not_lt.mpr (lN 204477000 [_] rfl))];have ow:=it.own;have bM:aG G ρ σ aX:=aH.il (ow.gw aH) eh ow.jc eo;have he:=ib us.length;rw[List.getElem?_eq_none (aR _)] at he;refine wpAny_bind (wpAny_holding ((rt hh bM it₂ he λx cI gj uJ hv=>?_).2));subst (hv);simp only[Option.isSome_none,Bool.false_eq_true,if_false];have rU:=it₂.own;have dn:aG G ρ σ cI:=bM.il (rU.gw bM) eh rU.jc uJ;have Rm:s.heap.get? I=none:=Heap.get?_none_of_le hI;refine wpAny_pure (hQ vs cI gj ⟨⟨[],by simp⟩,λa ha=>.inl ha,λa o e _=>?_⟩ dn (((X.step S (Step.grow S gC)).other aH ow eo).other bM rU uJ) (rl.mono (λa ys t=>by have:=rU.jc a ys t;obtain⟨o,e,c⟩:=t;exact⟨o,uJ a o this e,c⟩) λ_ _ e=>e));have hne:a≠I:=λq=>by(clear rU ow it₂ eh it hI;subst q);(replace e:=Rm▸e);exact bS e
 exact uJ a o hne (eo a o hne (gC a o e))
inductive iQ(N:List Str)(env:Env):List Nat->List aq->Prop
|nil:iQ N env [] []
|cons {i:Nat}{y:Str}{p:Pos}{is:List Nat}{l:List aq}:N[i]?=some y->(env.kindOf y=some .local∨env.kindOf y=some .cell)->iQ N env is l->iQ N env (i::is) (.Name y p::l)
theorem iQ.len(T:iQ N env is l):(assignEach l env).length=is.length:=by
 induction T with
|nil=>rfl
|cons _ _ _ ih=>exact congrArg (·+1) ih
theorem iQ.star(T:iQ N env is l):(assignEach l env).findIdx? (·.1)=none:=by
 rw[List.findIdx?_eq_none_iff]
 induction T with
|nil=>intro x hx;cases hx
|cons _ _ _ ih=>
  intro x hx;rcases List.mem_cons.mp hx with rfl|q
  ·rfl
  ·exact ih x q
theorem Cm(T:iQ N env is l):∀(us:List V)(vs:List Value)(s:Shared)(L L':aQ)(K:Unit->Shared->Prop),Qh.N.fK is us L σ=.ok () L' σ->bj G N env ρ s.heap L->aG G ρ σ s.heap->bH G ρ s.heap vs us->
  (∀h' tk,dy env ρ s.heap ρ h'->aG G ρ σ h'->bj G N env ρ h' L'->K () {s with heap:=h',toks:=tk})->wpAny (model G.prog G.w) A (assignInOrder ((assignEach l env).map (·.2)) vs) K E s:=by
 induction T with
|nil=>
  intro us vs s L L' K e X S rl hK;cases us with
  |nil=>cases e;(apply O5 rl);exact wpAny_pure (hK s.heap s.toks (dy.refl _ _ _) S X)
  |cons u us=>exact nG e
|@cons i y p is l hy hk T ih=>
  intro us vs s L L' K e X S rl hK;cases us with
  |nil=>exact nG e
  |cons u us=>
   cases rl with
   |@cons v _ vs _ r rl=>
    show wpAny _ _ (do holding vs (assign (.Name y p) env v);assignInOrder ((assignEach l env).map (·.2)) vs) K E s;refine wpAny_bind (wpAny_holding (wpAny_assign_Name (rg X S hy hk r λaA fC nj aH bx SA _=>?_)));refine ih us vs {s with heap:=aA,toks:=fC} _ _ _ (e) bx aH (rl.gB nj S X) λaX cz cH bM dm=>hK aX cz (nj.trans cH) bM dm
theorem A9:∀{L ny:aQ}{bN:H},Qh.N.fK is us L σ=.ok () ny bN->bN=σ/\us.length=is.length:=by
 induction is generalizing us with
|nil=>
  intro L ny bN e;cases us with
  |nil=>cases e;exact⟨rfl,rfl⟩
  |cons u us=>exact nG e
|cons i is ih=>
  intro L ny bN e;cases us with
  |nil=>exact nG e
  |cons u us=>
   obtain⟨h1,h2⟩:=ih (e);exact⟨h1,congrArg (·+1) h2⟩
theorem C8(Y:Ao A n)(hE:bg G n A N env x ve)(T:iQ N env is l)(hs:swapsWithSole [.Tuple l k tp] ve p.line env=pure false)(hw:swappedStores [.Tuple l k tp] ve env=pure none):dh G n A N env (.hY is x) (.Assign [.Tuple l k tp] ve p):=λs ρ σ L Q E X S h=>by
 refine Assign_Tuple (hE.gE X S h λv aA tk aJ ay u bx aH st r h1=>?_) hs hw;have fin:∀(us:List V)(sr:Src)(T id:String),PS G N env (Qh.N.bind (Qh.N.fK is us) (λ_=>Qh.N.pure .next) L ay) aJ {s with heap:=aA,toks:=tk} Q->srcOf u ay=.ok sr ay->(∀j,dN sr j ay=.ok us[j]? ay)->({s with heap:=aA,toks:=tk}:Shared).TypeIs v T->Slot T "__iter__" id->
   wpAny (model G.prog G.w) A (assign (.Tuple l k tp) env v) (λ_=>Q .next) E {s with heap:=aA,toks:=tk}:=by
  intro us sr T' id h2 oU ib hty hsl;refine gg (PS.bind h2) λ_ Qz en e4 h3=>?_;refine aZ (A9 e4) λcu hlen=>?_;clear h2 h1;subst cu;rw[arm_assign_Tuple];refine wpAny_bind (wpAny_standAt ?_);unfold unpack;refine(T.len).symm▸?_;refine(T.star).symm▸?_;refine hlen▸?_;refine wpAny_bind (wpAny_holding (HO Y.hh aH bx r oU ib hty hsl λvs aX cz cH bM dm rl=>?_));refine Cm T us vs {s with heap:=aX,toks:=cz} L Qz _ e4 dm bM rl λcI gj d5 dn fk=>?_;exact h3 .next cI gj _ (cH.toS.trans d5) dn fk .next
 cases u with
|ref i=>
  have Gg:PS G N env (Qh.N.bind (Qh.N.lift λ_=>bI (.ref i)) (λvs=>Qh.N.bind (Qh.N.fK is vs) λ_=>Qh.N.pure .next) L ay) aJ {s with heap:=aA,toks:=tk} Q:=h1;refine bo (PS.lift Gg) λus bN e2 h2=>?_;refine ca (eE e2) λj q' bc e3=>?_;clear Gg h1;subst bc;refine iT q' λaL=>?_;subst aL;refine fF (aG.list (s:={s with heap:=aA,toks:=tk}) aH e3 r) λad xs bc hi hl _=>?_;clear r;subst bc;refine fin us (.live i) "list" _ h2 ?_ (λj=>?_) hl.typeIs slot_list_iter
  ·show M.bind (bI (.ref i)) _ _=_;unfold M.bind;(refine e2.symm▸?_);rfl
  ·show M.bind (bI (.ref i)) _ _=_;unfold M.bind;(refine e2.symm▸?_);rfl
|ax vs=>
  cases r with
  |ax ht rl=>exact fin vs (.fix vs) "tuple" _ h1 rfl (λ_=>rfl) ht.typeIs F.slot_tuple_iter
|_=>exact h1.elim
end
end Qh
namespace Qh
open PySem PyProof.Rows
section
variable{prog:Program}{w:World}{A:Around}{E:bD}{s:Shared}
theorem AD{it t:Addr}{i:Nat}{items:Array Value}{Q:bD}(hh:A.handled=none)(hit:IsTupIter s.heap it t i)(ht:IsTup s.heap t items)(hQ:∀x h',items[i]?=some x->IsTupIter h' it t (i+1)->Heap.SameBut it s.heap h'->Q x {s with heap:=h'})(hE:∀h' e,items[i]?=none->Heap.ExtBut it s.heap h'->(∃o,h'.get? e=some o/\o.cls=.type "StopIteration")->E (.ref e) {s with heap:=h'}):
  wpAny (model prog w) A (Builtin.SmallTypes.nextOf (.ref it)) Q E s:=by
 refine bB λXx aI=>?_;refine ca (id hit) λo ho hc hd=>?_;obtain⟨ol,Rn,_,nl,hdl⟩:=ht;refine aI ?_;unfold Builtin.SmallTypes.nextOf
 refine wpAny_bind (wpAny_callSpecial?_slot (name:=Str.ofString "__next__") hit.typeIs slot_tupleiter_next
  (wpAny_call_entry slot_tupleiter_next hit.typeIs entry_tupleiter_next ?_ (args_tupleiter_next _)))
 show wpAny _ _ (field (.ref it) 0 >>= _) _ _ s;refine wpAny_bind (wpAny_field ho hd (x:=.ref t) rfl ?_);show wpAny _ _ (if(Value.ref t==Value.none)=true then _ else _) _ _ s;rw[if_neg (show ¬ ((Value.ref t==Value.none)=true) from cE)];show wpAny _ _ (field (.ref it) 1 >>= _) _ _ s;refine wpAny_bind (wpAny_field ho hd (x:=.int i 0) rfl ?_);show wpAny _ _ (seqItems? (.ref t) >>= _) _ _ s;refine wpAny_bind (wpAny_seqItems Rn hdl ?_);cases hx:items[i]? with
|some x=>
  simp only[Int.toNat_natCast,hx];refine wpAny_bind (wpAny_setField ho hd (by simp) (wpAny_pure ⟨x,rfl,wpAny_pure (hQ x _ hx ?_ (Heap.SameBut.update ..))⟩))
  exact⟨_,Heap.get?_update_self _ ho (Obj.isFreed_of_fields (Obj.data_mapFields hd _)),(Obj.cls_mapFields ..).trans hc,by
   rw[Obj.data_mapFields hd];rfl⟩
|none=>
  simp only[Int.toNat_natCast,hx];refine wpAny_bind (wpAny_rule (wpAny_bind (wpAny_setField ho hd (by simp) ?_)));show wpAny _ _ (newExc (.type "StopIteration") [] >>= _) _ _ _;refine wpAny_bind ?_;simp only[newExc,newTuple];refine wpAny_bind (wpAny_newObj_type ?_ (by size_fits));refine wpAny_bind (m:=firstArgMember _ _) (wpAny_of_eq (a:=Value.none) (by first|rfl|(simp only[firstArgMember];rfl)) ?_);refine wpAny_newObj_type ?_ (by size_fits);simp only[raiseNew];refine wpAny_bind (wpAny_handled ?_)
  first|rw[show A.in1.handled=none from hh]|rw[hh]
  refine wpAny_bind (wpAny_pure (wpAny_throw ?_));exact hE _ _ hx (((Heap.SameBut.update ..).extBut.push _).push _) ⟨_,Heap.get?_push_size _ rfl,rfl⟩
structure kE(h:Heap)(z TI TO i1 i2 t1 t2:Addr)(k:Nat):Prop where
 z:IsZip h z TI TO .none
 TI:IsPair h TI (.ref i1) (.ref i2)
 TO:∃a b,IsPair h TO a b
 i1:IsTupIter h i1 t1 k
 i2:IsTupIter h i2 t2 k
def qt(z TO i1 i2:Addr)(h h':Heap):Prop:=∀c o,c≠z->c≠TO->c≠i1->c≠i2->h.get? c=some o->h'.get? c=some o
variable{z TI TO i1 i2 t1 t2:Addr}{k:Nat}{xs ys:Array Value}
theorem wZ{Q:bD}(hh:A.handled=none)(D:ZipApart z TI TO i1 i2 t1 t2)(Z:kE s.heap z TI TO i1 i2 t1 t2 k)(ht1:IsTup s.heap t1 xs)(jU:IsTup s.heap t2 ys)(hQ:∀x y h',xs[k]?=some x->ys[k]?=some y->IsZip h' z TI TO (rawInt s.heap.objs.size)->IsPair h' TO x y->IsTupIter h' i1 t1 (k+1)->IsTupIter h' i2 t2 (k+1)->IsPair h' s.heap.objs.size x y->qt z TO i1 i2 s.heap h'->Q (.ref s.heap.objs.size) {s with heap:=h'})(hE:∀h' e,(xs[k]?=none∨ys[k]?=none)->qt z TO i1 i2 s.heap h'->(∃o,h'.get? e=some o/\o.cls=.type "StopIteration")->E (.ref e) {s with heap:=h'}):
  wpAny (model prog w) A (Builtin.«zip.__next__» ⟨[.ref z],[]⟩) (λfin s'=>∃v,fin=.done (.ret v)/\Q v s') E s:=by
 obtain⟨hz,hTI,⟨a,b,hTO⟩,h1,h2⟩:=Z;show wpAny _ _ (field (.ref z) 2 >>= _) _ _ _;refine wpAny_bind (wpAny_field hz rfl (x:=.bool false) rfl ?_);show wpAny _ _ (field (.ref z) 3 >>= _) _ _ _;refine wpAny_bind (wpAny_field hz rfl (x:=.ref TI) rfl ?_);refine wpAny_bind (wpAny_seqItems hTI rfl ?_);show wpAny _ _ (Builtin.SmallTypes.ownedTupleIsFree (.ref z) >>= _) _ _ _;refine wpAny_bind ?_;unfold Builtin.SmallTypes.ownedTupleIsFree;refine wpAny_bind (wpAny_field hz rfl (x:=.none) rfl (wpAny_pure ?_));simp only[if_true];refine wpAny_bind (wpAny_rule ?_);refine wpAny_bind (wpAny_field hz rfl (x:=.ref TO) rfl ?_);refine wpAny_bind (wpAny_setField_rec hz (by simp) λaA oH la=>?_);replace oH:IsZip aA z TI TO .ellipsis:=oH;refine wpAny_bind ?_;simp only[List.zipIdx_cons,List.zipIdx_nil,List.forIn_cons,List.forIn_nil];refine wpAny_bind (wpAny_bind (wpAny_onRaise ?_));show wpAny _ _ (Builtin.SmallTypes.nextOf (.ref i1) >>= _) _ _ _;refine wpAny_bind (AD hh (h1.extBut la.extBut D.i1z) (ht1.extBut la.extBut D.l1z) (λx aX hx Pb gD=>wpAny_pure ?_) λaX e hx gD he=>?_)
 ·have C9:IsPair aX TO a b:=gD.extBut _ _ D.TOi1 (la.extBut _ _ D.TOz hTO);refine wpAny_bind (wpAny_seqItems C9 rfl ?_);refine wpAny_bind (wpAny_updateSeq_pair C9 λcI xB jL=>?_);replace xB:IsPair cI TO x b:=xB;refine wpAny_bind (wpAny_letGo (wpAny_pure ?_));refine wpAny_bind (wpAny_bind (wpAny_onRaise ?_));show wpAny _ _ (Builtin.SmallTypes.nextOf (.ref i2) >>= _) _ _ _
  refine wpAny_bind (AD hh (((h2.extBut la.extBut D.i2z).extBut gD.extBut D.i12.symm).extBut jL.extBut D.TOi2.symm)
   (((jU.extBut la.extBut D.l2z).extBut gD.extBut D.l2i1).extBut jL.extBut D.l2TO) (λy dJ hy Pc je=>wpAny_pure ?_) λdJ e hy je he=>?_)
  ·have Dc:IsPair dJ TO x b:=je.extBut _ _ D.TOi2 xB;refine wpAny_bind (wpAny_seqItems Dc rfl ?_);refine wpAny_bind (wpAny_updateSeq_pair Dc λee ug jK=>?_);replace ug:IsPair ee TO x y:=ug;refine wpAny_bind (wpAny_letGo (wpAny_pure (wpAny_pure ?_)));refine wpAny_bind (wpAny_seqItems ug rfl ?_);refine wpAny_bind (wpAny_newTuple ?_);have hsz:ee.objs.size=s.heap.objs.size:=by rw[jK.1,je.1,jL.1,gD.1,la.1]
   have D5:IsZip ee z TI TO .ellipsis:=jK.extBut _ _ D.TOz.symm (je.extBut _ _ D.i2z.symm (jL.extBut _ _ D.TOz.symm (gD.extBut _ _ D.i1z.symm oH)));have Pd:qt z TO i1 i2 s.heap ee:=λc o c1 c2 c3 c4 e=>
    jK.extBut _ _ c2 (je.extBut _ _ c4 (jL.extBut _ _ c2 (gD.extBut _ _ c3 (la.extBut _ _ c1 e))))
   have Pe:IsTupIter ee i1 t1 (k+1):=((Pb.extBut jL.extBut D.TOi1.symm).extBut je.extBut D.i12).extBut jK.extBut D.TOi1.symm;have Pf:IsTupIter ee i2 t2 (k+1):=Pc.extBut jK.extBut D.TOi2.symm;have E4:z<ee.objs.size:=Heap.lt_size D5;show wpAny _ _ (Builtin.SmallTypes.ownedTupleHandOut (.ref z) (.ref ee.objs.size) >>= _) _ _ _;refine wpAny_bind ?_;unfold Builtin.SmallTypes.ownedTupleHandOut;have Pg:IsZip (ee.push {cls:=.type "tuple",data:=.seq #[x,y]}) z TI TO .ellipsis:=Heap.get?_push_of_some _ D5;refine wpAny_bind (wpAny_setField_rec Pg (by simp) λQA ye D6=>?_);replace ye:IsZip QA z TI TO (rawInt ee.objs.size):=ye;refine wpAny_setField_rec ye (by simp) λvc uK D7=>?_;replace uK:IsZip vc z TI TO (rawInt ee.objs.size):=uK;have up:∀c o,c≠z->ee.get? c=some o->vc.get? c=some o:=λc o c1 e=>D7.extBut _ _ c1 (D6.extBut _ _ c1 (Heap.get?_push_of_some _ e));have D8:IsPair vc ee.objs.size x y:=D7.extBut _ _ (Nat.ne_of_gt E4) (D6.extBut _ _ (Nat.ne_of_gt E4) (Heap.get?_push_size _ rfl));rw[hsz] at uK D8;refine wpAny_pure ⟨_,rfl,?_⟩;show Q (.ref ee.objs.size) _;rw[hsz];exact hQ x y vc hx hy uK (up _ _ D.TOz ug) (let ⟨o,e,r⟩:=Pe;⟨o,up _ o D.i1z e,r⟩) (let ⟨o,e,r⟩:=Pf;⟨o,up _ o D.i2z e,r⟩) D8 λc o c1 c2 c3 c4 e=>up c o c1 (Pd c o c1 c2 c3 c4 e)
  ·obtain⟨oe,mh,hce⟩:=he;have D9:IsZip dJ z TI TO .ellipsis:=je _ _ D.i2z.symm (jL.extBut _ _ D.TOz.symm (gD.extBut _ _ D.i1z.symm oH));have zl:e≠z:=λx=>by(clear oH hz hQ D wZ;subst x);rw[D9] at mh;(refine dt mh λaL=>?_;subst aL);simp at hce
   refine wpAny_setField_rec D9 (by simp) λee _ jK=>hE ee e (.inr hy) (λc o c1 c2 c3 c4 x=>jK.extBut _ _ c1 (je _ _ c4 (jL.extBut _ _ c2 (gD.extBut _ _ c3 (la.extBut _ _ c1 x))))) ⟨oe,jK.extBut _ _ zl mh,hce⟩
 ·obtain⟨oe,mh,hce⟩:=he;have Ea:IsZip aX z TI TO .ellipsis:=gD _ _ D.i1z.symm oH;have zl:e≠z:=λx=>by(clear oH hz hQ D wZ;subst x);rw[Ea] at mh;(refine dt mh λaL=>?_;subst aL);simp at hce
  refine wpAny_setField_rec Ea (by simp) λcI _ jL=>hE cI e (.inl hx) (λc o c1 _ c3 _ x=>jL.extBut _ _ c1 (gD _ _ c3 (la.extBut _ _ c1 x))) ⟨oe,jL.extBut _ _ zl mh,hce⟩
theorem ID{Q:Option Value->Shared->Prop}(hh:A.handled=none)(D:ZipApart z TI TO i1 i2 t1 t2)(Z:kE s.heap z TI TO i1 i2 t1 t2 k)(ht1:IsTup s.heap t1 xs)(jU:IsTup s.heap t2 ys)(hQ:∀x y h',xs[k]?=some x->ys[k]?=some y->IsZip h' z TI TO (rawInt s.heap.objs.size)->IsPair h' TO x y->IsTupIter h' i1 t1 (k+1)->IsTupIter h' i2 t2 (k+1)->IsPair h' s.heap.objs.size x y->qt z TO i1 i2 s.heap h'->Q (some (.ref s.heap.objs.size)) {s with heap:=h'})(hE:∀h',(xs[k]?=none∨ys[k]?=none)->qt z TO i1 i2 s.heap h'->Q none {s with heap:=h'}):wpAny (model prog w) A (pyNext (.ref z)) Q E s:=by
 have hT:s.TypeIs (.ref z) "zip":=⟨_,Z.z,rfl⟩;unfold pyNext
 refine wpAny_bind (wpAny_attempt (wpAny_callSpecial?_slot (name:=Str.ofString "__next__") hT F.slot_zip_next
  (wpAny_call_entry F.slot_zip_next hT F.entry_zip_next (wZ hh D Z ht1 jU (λx y h' a1 a2 a3 a4 a5 a6 a7 a8=>wpAny_pure (hQ x y h' a1 a2 a3 a4 a5 a6 a7 a8)) λh' e hend hk he=>?_) (F.args_zip_next_1 _))))
 refine aM (he) λo ho hc=>?_;refine wpAny_bind (wpAny_isInstance (T:="StopIteration") (b:=true) ⟨o,ho,hc⟩ isSubtype_stop ?_);exact wpAny_pure (hE _ hend hk)
end
noncomputable abbrev vw(h:Heap)(l1:Addr):Heap:=h.push {cls:=.type "tuple_iterator",data:=.fields #[.ref l1,.int 0 0]}
noncomputable abbrev vx(h:Heap)(l1 l2:Addr):Heap:=(vw h l1).push {cls:=.type "tuple_iterator",data:=.fields #[.ref l2,.int 0 0]}
noncomputable abbrev vy(h:Heap)(l1 l2:Addr):Heap:=(vx h l1 l2).push {cls:=.type "tuple",data:=.seq #[.ref h.objs.size,.ref (vw h l1).objs.size]}
noncomputable abbrev vz(h:Heap)(l1 l2:Addr):Heap:=(vy h l1 l2).push {cls:=.type "tuple",data:=.seq #[.none,.none]}
noncomputable abbrev sF(h:Heap)(l1 l2:Addr):Heap:=(vz h l1 l2).push {cls:=.type "zip",data:=.fields #[.none,.bool false,.bool false,.ref (vx h l1 l2).objs.size,.ref (vy h l1 l2).objs.size]}
theorem Jd(l1 l2:Addr)(xs ys:Array Value):
  Meets (Builtin.«zip.__new__» ⟨[.type "zip",.ref l1,.ref l2],[]⟩) (λ_ R s=>IsTup s.heap l1 xs/\IsTup s.heap l2 ys/\
   R (.ok (.ret (.ref (vz s.heap l1 l2).objs.size))) {s with heap:=sF s.heap l1 l2}):=
 .of_wp λprog w A R s h=>by
  obtain⟨hp,g,d,tk,os⟩:=s;obtain⟨hl1,hl2,h⟩:=h;have hsub:=sub_zip;have Ro:IsTup (Shared.heap ⟨hp.push {cls:=.type "tuple_iterator",data:=.fields #[.ref l1,.int 0 0]},g,d,tk,os⟩) l2 ys:=IsTup.push hl2 _
  wp_walk using iter_tuple (hl1),iter_tuple Ro
  exact⟨_,rfl,h⟩
section
variable{prog:Program}{w:World}{A:Around}{E:bD}{s:Shared}
theorem Kk{l1 l2:Addr}{xs ys:Array Value}{Q:bD}(hl1:IsTup s.heap l1 xs)(hl2:IsTup s.heap l2 ys)(h:∀h',kE h' (s.heap.objs.size+4) (s.heap.objs.size+2) (s.heap.objs.size+3) s.heap.objs.size (s.heap.objs.size+1) l1 l2 0->(∀c o,s.heap.get? c=some o->h'.get? c=some o)->Q (.ref (s.heap.objs.size+4)) {s with heap:=h'}):
  wpAny (model prog w) A (call (.type "zip") [.ref l1,.ref l2]) Q E s:=by
 refine callType_new F.called_zip (by decide) (F.typeCall_zip_2 _ _) (F.newCall_zip_2 _ _) (λobj=>F.args_object_init_3 obj _ _) F.entry_zip_new
  (Jd l1 l2 xs ys) ⟨hl1,hl2,?_⟩
 have z1:(vw s.heap l1).objs.size=s.heap.objs.size+1:=Heap.size_push ..;have z2:(vx s.heap l1 l2).objs.size=s.heap.objs.size+2:=by rw[Heap.size_push,z1]
 have z3:(vy s.heap l1 l2).objs.size=s.heap.objs.size+3:=by rw[Heap.size_push,z2]
 have z4:(vz s.heap l1 l2).objs.size=s.heap.objs.size+4:=by rw[Heap.size_push,z3]
 have g5:(sF s.heap l1 l2).get? (vz s.heap l1 l2).objs.size=some _:=Heap.get?_push_size _ rfl;have g4:(sF s.heap l1 l2).get? (vy s.heap l1 l2).objs.size=some _:=Heap.get?_push_of_some _ (Heap.get?_push_size _ rfl);have g3:(sF s.heap l1 l2).get? (vx s.heap l1 l2).objs.size=some _:=Heap.get?_push_of_some _ (Heap.get?_push_of_some _ (Heap.get?_push_size _ rfl));have g2:(sF s.heap l1 l2).get? (vw s.heap l1).objs.size=some _:=Heap.get?_push_of_some _ (Heap.get?_push_of_some _ (Heap.get?_push_of_some _ (Heap.get?_push_size _ rfl)));show _/\_;rw[z2,z3,z4] at g5;rw[z1,z2] at g3;rw[z3] at g4;rw[z1] at g2;rw[z4]
 exact⟨⟨_,g5,rfl⟩,h _ ⟨g5,g3,⟨_,_,g4⟩,⟨_,(Heap.get?_push_of_some _ (Heap.get?_push_of_some _ (Heap.get?_push_of_some _ (Heap.get?_push_of_some _ (Heap.get?_push_size _ rfl))))),rfl,rfl⟩,⟨_,g2,rfl,rfl⟩⟩ λc o x=>
  Heap.get?_push_of_some _ (Heap.get?_push_of_some _ (Heap.get?_push_of_some _ (Heap.get?_push_of_some _ (Heap.get?_push_of_some _ x))))⟩
end
end Qh
namespace Qh
open PySem PyProof.Rows
section
variable{G:Gd}{n:Nat}{A:Around}{N:List Str}{env:Env}{s:Shared}{ρ aw:List Addr}{σ af:H}{h h':Heap}{L:aQ}{E:bD}{Q:Flow->Shared->Prop}
mutual
theorem Rel.fc(hk:∀a xs,a∉G.res->IsTup h a xs->IsTup h' a xs/\a∉R):∀{v:V},Rel G ρ h x v->Rel (G.re R) ρ h' x v
|_,.none=>.none
|_,.bool b=>.bool b
|_,.int i t=>.int i t
|_,.str y t=>.str y t
|_,.ax e r n=>.ax (hk _ _ n e).1 (bH.fc hk r) (hk _ _ n e).2
|_,.ref e=>.ref e
|_,.cy=>.cy
theorem bH.fc(hk:∀a xs,a∉G.res->IsTup h a xs->IsTup h' a xs/\a∉R):∀{vs:List V},bH G ρ h xs vs->bH (G.re R) ρ h' xs vs
|_,.nil=>.nil
|_,.cons a r=>.cons (Rel.fc hk a) (bH.fc hk r)
end
theorem iN.fc(hk:∀a xs,a∉G.res->IsTup h a xs->IsTup h' a xs/\a∉R)(hg:∀ob,h.get? a=some ob->h'.get? a=some ob)(r:iN G ρ h a o):iN (G.re R) ρ h' a o:=by
 cases o with
|ah vs=>obtain⟨xs,⟨n,e⟩,q⟩:=r;exact⟨xs,⟨n,hg _ e⟩,q.fc hk⟩
|aD es=>obtain⟨kvs,⟨ob,x,y,e,c⟩,q,q'⟩:=r;exact⟨kvs,⟨ob,x,y,hg _ e,c⟩,q,q'.fc hk⟩
|inst c d=>obtain⟨dx,o,q,e,z⟩:=r;exact⟨dx,o,q,hg _ e,z⟩
|dq n=>obtain⟨t,e⟩:=r;exact⟨t,e.at hg⟩
theorem aG.fc{R:List Addr}{W:Addr->Prop}(S:aG G ρ σ h)(hW:∀a∈ρ,¬ W a)(hb:∀a,W a->G.hb.get? a=none)(hk:∀a o,¬ W a->h.get? a=some o->h'.get? a=some o)(ht:∀a xs,a∉G.res->IsTup h a xs->¬ W a/\a∉R)(hr:∀a∈R,(∃xs,IsTup h' a xs)/\G.hb.get? a=none):aG (G.re R) ρ σ h':=
 ⟨λb o e=>hk b o (λq=>by have e:G.hb.get? b=some o:=e;(replace e:=(hb b q)▸e);exact bS e) (S.base b o e),S.len,S.nodup,S.new,λi a o e1 e2=>(S.rep i a o e1 e2).fc (λa xs n t=>⟨let ⟨o,e,c⟩:=t;⟨o,hk a o (ht a xs n t).1 e,c⟩,(ht a xs n t).2⟩) (λob e=>hk _ _ (hW _ (List.mem_of_getElem? e1)) e),λa ha=>(hr a ha).1,λa ha=>(hr a ha).2⟩
theorem bj.fc{R:List Addr}{W:Addr->Prop}(X:bj G N env ρ h L)(hk:∀a o,¬ W a->h.get? a=some o->h'.get? a=some o)(ht:∀a xs,a∉G.res->IsTup h a xs->¬ W a/\a∉R)(hL:¬ W env.locals)(hC:∀x c,env.kindOf x=some .cell->env.cells.lookup x=some c->¬ W c):bj (G.re R) N env ρ h' L:=by
 have tu:∀a xs,a∉G.res->IsTup h a xs->IsTup h' a xs/\a∉R:=λa xs n t=>⟨let ⟨o,e,c⟩:=t;⟨o,hk a o (ht a xs n t).1 e,c⟩,(ht a xs n t).2⟩;refine aM (X.ns) λm hn hm=>?_;refine⟨X.kind,X.glob,X.blt,⟨m,hn.at λo e=>hk _ _ hL e,λi u y e1 e2 e3=>?_⟩,λy hy=>?_,X.has,X.apart,X.nodup,X.jP,X.jQ,X.newL,X.iP⟩
 ·refine aM (hm i u y e1 e2 e3) λv q r=>?_;exact⟨v,q,r.fc tu⟩
 ·refine bB λXx aI=>?_;obtain⟨c,ov,hc,⟨o,ho,hd⟩,hv⟩:=X.cl y hy;refine aI ?_;refine⟨c,ov,hc,⟨o,hk _ _ (hC y c hy hc) ho,hd⟩,λi u e1 e2=>?_⟩;refine aM (hv i u e1 e2) λv q r=>?_;exact⟨v,q,r.fc tu⟩
theorem aG.less(S:aG (G.re R) ρ σ h)(hR:∀a∈G.res,a∈R):aG G ρ σ h:=
 aG.fc (G:=G.re R) (R:=G.res) (W:=λ_=>False) S (λ_ _ q=>q) (λ_ q=>q.elim) (λ_ _ _ e=>e) (λa xs n t=>⟨id,λq=>n (hR a q)⟩) λa ha=>⟨S.iO a (hR a ha),S.jO a (hR a ha)⟩
theorem bj.less(X:bj (G.re R) N env ρ h L)(hR:∀a∈G.res,a∈R):bj G N env ρ h L:=
 bj.fc (G:=G.re R) (R:=G.res) (W:=λ_=>False) X (λ_ _ _ e=>e) (λa xs n t=>⟨id,λq=>n (hR a q)⟩) id λ_ _ _ _=>id
theorem fT.less(r:fT (G.re R) ρ h fl f)(hR:∀a∈G.res,a∈R):fT G ρ h fl f:=by
 cases r with
|next=>exact .next
|brk=>exact .brk
|cont=>exact .cont
|ret r=>exact .ret (Rel.fc (G:=G.re R) (R:=G.res) (λa xs n t=>⟨t,λq=>n (hR a q)⟩) r)
theorem bj.uh(X:bj G N env ρ h L)(t:IsTup h a xs):a≠env.locals/\∀y,env.kindOf y=some .cell->env.cells.lookup y≠some a:=by
 refine aM (X.ns) λm hns _=>?_;refine⟨mr hns a xs t,λy hy q=>?_⟩;obtain⟨c,ov,hc,hcell,_⟩:=X.cl y hy;(replace q:=hc▸q);cases q;exact v9 hcell a xs t rfl
theorem bj.m8(X:bj G N env ρ h L)(ow:Own h I):I≠env.locals/\∀y,env.kindOf y=some .cell->env.cells.lookup y≠some I:=by
 obtain⟨m,hns,_⟩:=X.ns;constructor
 ·rintro rfl;refine fG (hns) λo es ep ho hd _=>?_;obtain⟨o',T,e,_,_,_,_,fs,hf⟩:=ow;(replace e:=ho▸e);(refine dt e λaL=>?_;subst aL);(replace hf:=hd▸hf);cases hf
 ·intro y hy q;obtain⟨c,ov,hc,⟨o,ho,hd⟩,_⟩:=X.cl y hy;(replace q:=hc▸q);(refine dt q λaL=>?_;subst aL);obtain⟨o',T,e,_,_,_,_,fs,hf⟩:=ow;(replace e:=ho▸e);(refine dt e λaL=>?_;subst aL);(replace hf:=hd▸hf);cases hf
variable{z TI TO i1 i2 t1 t2:Addr}{k:Nat}
theorem pO(x:IsZip h z TI TO f0):Own h z:=⟨_,"zip",x,rfl,by decide,by decide,by decide,_,rfl⟩
theorem kl(x:IsTupIter h I l k):Own h I:=by
 obtain⟨o,e,c,d⟩:=x;exact⟨o,_,e,c,by decide,by decide,by decide,_,d⟩
theorem mT(x:IsPair h T a b):IsTup h T #[a,b]:=⟨_,x,rfl,_,rfl⟩
theorem s9(x:IsTupIter h I l k)(q:∀o,h.get? I=some o->h'.get? I=some o):IsTupIter h' I l k:=let ⟨o,e,r⟩:=x;⟨o,q o e,r⟩
theorem kE.step(x:kE h z TI TO i1 i2 t1 t2 k)(S:aG G ρ σ h)(X:bj G N env ρ h L)(st:dy env ρ h aw h'):kE h' z TI TO i1 i2 t1 t2 k:=by
 have own:∀{I:Addr}{o:Obj},Own h I->h.get? I=some o->h'.get? I=some o:=λow e=>st.keep _ _ e (ow.gw S) (X.m8 ow).1 (X.m8 ow).2;have ax:∀{T:Addr}{a b:Value},IsPair h T a b->IsPair h' T a b:=λp=>st.keep _ _ p (S.ax (mT p)) (X.uh (mT p)).1 (X.uh (mT p)).2;refine eY (x.TO) λa b hTO=>?_;exact⟨own (pO x.z) x.z,ax x.TI,⟨a,b,ax hTO⟩,s9 x.i1 λo e=>own (kl x.i1) e,s9 x.i2 λo e=>own (kl x.i2) e⟩
def nL(z TO i1 i2 c:Addr):Prop:=c=z∨c=TO∨c=i1∨c=i2
structure vA(G:Gd)(N:List Str)(env:Env)(cL:List Addr)(gm:Heap)(ρ:List Addr)(σ:H)(h:Heap)(L:aQ):Prop where
 st:dy env cL gm ρ h
 S:aG G ρ σ h
 X:bj G N env ρ h L
theorem BL{Rs cL:List Addr}{gm:Heap}(O:vA (G.re (TO::G.res)) N env cL gm ρ σ h L)(Z:kE h z TI TO i1 i2 t1 t2 k)(eh:∀a,nL z TO i1 i2 a->G.hb.get? a=none)(h0:∀a,nL z TO i1 i2 a->gm.get? a=none)(hres:∀a∈G.res,gm.get? a≠none)(vB:∀c∈Rs,c∈TO::G.res)(hk:qt z TO i1 i2 h h')(hT:TO∈Rs->∃v w,IsPair h' TO v w):vA (G.re Rs) N env cL gm ρ σ h' L/\∀v u,Rel (G.re (TO::G.res)) ρ h v u->Rel (G.re Rs) ρ h' v u:=by
 obtain⟨st,S,X⟩:=O;refine eY (Z.TO) λa b hTO=>?_;have qD:∀c o,¬ nL z TO i1 i2 c->h.get? c=some o->h'.get? c=some o:=λc o hc e=>hk c o (λq=>hc (.inl q)) (λq=>hc (.inr (.inl q))) (λq=>hc (.inr (.inr (.inl q)))) (λq=>hc (.inr (.inr (.inr q)))) e;have tW:∀c vs,c∉TO::G.res->IsTup h c vs->¬ nL z TO i1 i2 c/\c∉Rs:=λc vs hn t=>by
  refine⟨λq=>?_,λq=>hn (vB c q)⟩;rcases q with q|q|q|q
  ·exact(pO Z.z).jc c vs t q
  ·exact hn (by(refine q.symm▸?_);exact List.mem_cons_self)
  ·exact(kl Z.i1).jc c vs t q
  ·exact(kl Z.i2).jc c vs t q
 have Rp:∀c∈ρ,¬ nL z TO i1 i2 c:=λc hc q=>by
  rcases q with rfl|rfl|rfl|rfl
  ·exact(pO Z.z).gw S hc
  ·exact S.ax (mT hTO) hc
  ·exact(kl Z.i1).gw S hc
  ·exact(kl Z.i2).gw S hc
 refine⟨⟨?_,aG.fc (G:=G.re (TO::G.res)) (R:=Rs) S Rp eh qD tW λc hc=>?_,bj.fc (G:=G.re (TO::G.res)) (R:=Rs) X qD tW (λq=>?_) (λw c hw hc q=>?_)⟩,λv u r=>Rel.fc (G:=G.re (TO::G.res)) (R:=Rs) (λc vs n t=>⟨let ⟨o,e,d⟩:=t;⟨o,qD c o (tW c vs n t).1 e,d⟩,(tW c vs n t).2⟩) r⟩
 ·have ne:∀c,gm.get? c≠none->¬ nL z TO i1 i2 c:=λc hc q=>hc (h0 c q);refine⟨st.pre,st.fresh,λc o e hn g1 g2=>qD c o (ne c (by(refine e.symm▸?_);simp)) (st.keep c o e hn g1 g2),λc hn e q=>?_⟩;cases e':h.get? c with
  |none=>exact st.kx c hn e e'
  |some o=>(replace q:=(qD c o (ne c e) e')▸q);exact d8 q
 ·refine⟨?_,S.jO c (vB c hc)⟩
  by_cases zm:c=TO
  ·obtain⟨v,w,p⟩:=hT (zm▸hc);(refine zm.symm▸?_);exact⟨_,mT p⟩
  ·have q:c∈G.res:=(List.mem_cons.mp (vB c hc)).resolve_left zm;refine bo (S.iO c (vB c hc)) λvs o e c'=>?_;exact⟨vs,o,qD c o (λq'=>hres c q (h0 c q')) e,c'⟩
 ·rcases q with q|q|q|q
  ·exact(X.m8 (pO Z.z)).1 q.symm
  ·exact(X.uh (mT hTO)).1 q.symm
  ·exact(X.m8 (kl Z.i1)).1 q.symm
  ·exact(X.m8 (kl Z.i2)).1 q.symm
 ·rcases q with rfl|rfl|rfl|rfl
  ·exact(X.m8 (pO Z.z)).2 w hw hc
  ·exact(X.uh (mT hTO)).2 w hw hc
  ·exact(X.m8 (kl Z.i1)).2 w hw hc
  ·exact(X.m8 (kl Z.i2)).2 w hw hc
structure E5(G:Gd)(ρ:List Addr)(h:Heap)(t1 t2:Addr)(us ws:List V):Prop where
 one:Rel G ρ h (.ref t1) (.ax us)
 two:Rel G ρ h (.ref t2) (.ax ws)
def sa(G:Gd)(n:Nat)(N:List Str)(env:Env)(z TI TO i1 i2 t1 t2:Addr)(x y:Nat)(us ws:List V)(b:SL)(cb:Shared)(cL:List Addr)(fE:Fl)(LE:aQ)(cw:H)(m:Nat)(s:Shared):Prop:=
 ∃h' tk aw af k L',s={cb with heap:=h',toks:=tk}/\vA (G.re (TO::G.res)) N env cL cb.heap aw af h' L'/\kE h' z TI TO i1 i2 t1 t2 k/\E5 (G.re (TO::G.res)) aw h' t1 t2 us ws/\
   dP (λk=>M.pure (gZ us ws x y k)) (aW (G.ctx n) b) m k L' af=.ok fE LE cw
theorem H9(h1:us[k]?=some u)(h2:ws[k]?=some w):gZ us ws i j k=some [(i,u),(j,w)]:=by unfold gZ;(refine h1.symm▸?_;refine h2.symm▸?_);rfl
theorem Ia(h:us[k]?=none∨ws[k]?=none):gZ us ws i j k=none:=by
 unfold gZ;rcases h with h|h
 ·(refine h.symm▸?_);rfl
 ·(refine h.symm▸?_);cases us[k]?<;>rfl
theorem Cn(r:Rel G ρ h (.ref t) (.ax us)):∃xs:List Value,IsTup h t xs.toArray/\bH G ρ h xs us:=by
 cases r with
|ax t r _=>exact⟨_,t,r⟩
theorem bH.none(r:bH G ρ h xs us)(e:xs.toArray[k]?=none):us[k]?=none:=by
 rw[List.getElem?_toArray,List.getElem?_eq_none_iff,r.length] at e;exact List.getElem?_eq_none_iff.mpr e
theorem bH.some(r:bH G ρ h xs us)(e:xs.toArray[k]?=some v):∃u,us[k]?=some u/\Rel G ρ h v u:=by
 rw[List.getElem?_toArray] at e;have hk:k<us.length:=by(refine(r.length)▸?_);exact(List.getElem?_eq_some_iff.mp e).1
 refine aM (r.get (List.getElem?_eq_getElem hk)) λv' e' q=>?_;(replace e':=e▸e');(refine dt e' λaL=>?_;subst aL);exact⟨_,List.getElem?_eq_getElem hk,q⟩
theorem sa.elim{b:SL}{x y m:Nat}{us ws:List V}{cb s:Shared}{cL:List Addr}{fE:Fl}{LE:aQ}{cw:H}{X:Nat->Shared->Prop}(h:sa G n N env z TI TO i1 i2 t1 t2 x y us ws b cb cL fE LE cw m s)(k:∀h' tk aw af k L' m,vA (G.re (TO::G.res)) N env cL cb.heap aw af h' L'->kE h' z TI TO i1 i2 t1 t2 k->E5 (G.re (TO::G.res)) aw h' t1 t2 us ws->
   dP (λk=>M.pure (gZ us ws x y k)) (aW (G.ctx n) b) (m+1) k L' af=.ok fE LE cw->X (m+1) {cb with heap:=h',toks:=tk}):X m s:=by
 obtain⟨h',tk,aw,af,i,L',rfl,O,Zk,Sr,ef⟩:=h;cases m with
|zero=>exact nG ef
|succ m=>exact k h' tk aw af i L' m O Zk Sr ef
theorem Kl{x y:Nat}{y1 y2:Str}{p1 p2 pt:Pos}{kk:Nat}{b:SL}{body:List Stmt}{us ws:List V}{cb:Shared}{cL:List Addr}{fE:Fl}{LE:aQ}{cw:H}{R:Result->Shared->Prop}(hh:A.handled=none)(hb:gL (G.re (TO::G.res)) n A N env b body)(D:ZipApart z TI TO i1 i2 t1 t2)(h0:∀a,nL z TO i1 i2 a->cb.heap.get? a=none)(eh:∀a,nL z TO i1 i2 a->G.hb.get? a=none)(hres:∀a∈G.res,cb.heap.get? a≠none)(Tg:iQ N env [x,y] [.Name y1 p1,.Name y2 p2])(hR:∀fl h' tk aw,dy env cL cb.heap aw h'->aG G aw cw h'->bj G N env aw h' LE->fT G aw h' fl fE->R (.ok fl) {cb with heap:=h',toks:=tk}):
  ∀(m:Nat)(s:Shared),sa G n N env z TI TO i1 i2 t1 t2 x y us ws b cb cL fE LE cw m s->codeAny (model G.prog G.w) A (.forLoop (.Tuple [.Name y1 p1,.Name y2 p2] kk pt) (.ref z) body [] env) R s:=by
 intro m s hinv
 let I:Nat->Shared->Prop:=λm s=>sa G n N env z TI TO i1 i2 t1 t2 x y us ws b cb cL fE LE cw m s
 let fo:Nat->Nat->Qh.N Fl:=dP (λk=>M.pure (gZ us ws x y k)) (aW (G.ctx n) b)
 have sub:∀a∈G.res,a∈TO::G.res:=λa ha=>List.mem_cons_of_mem _ ha;refine codeAny_forLoop_any I ?_ m hinv;clear hinv m s;intro m s hI;apply sa.elim hI;clear hI m s;intro h' tk aw af k L' m O Zk Sr ef;refine bB λXx aI=>?_;refine aM (Cn Sr.one) λxs ht1 vC=>?_;refine aM (Cn Sr.two) λys jU vD=>?_;refine aI ?_;clear aI Xx;refine ID (s:={cb with heap:=h',toks:=tk}) hh D Zk ht1 jU (λv1 v2 aA hv1 hv2 E6 gH j1 j2 pT hk=>?_) λaA hend hk=>?_
 ·refine bB λXx aI=>?_;refine aM (vC.some hv1) λu hu r1=>?_;refine aM (vD.some hv2) λw hw r2=>?_;have e2:Qh.N.bind (Qh.N.fK [x,y] [u,w]) (λ_=>Qh.N.bind (aW (G.ctx n) b) λf=>match f with|.next=>fo m (k+1)|.cont=>fo m (k+1)|.brk=>Qh.N.pure .next|.ret v=>Qh.N.pure (.ret v)) L' af=.ok fE LE cw:=by
   have e:dP (λk=>M.pure (gZ us ws x y k)) (aW (G.ctx n) b) (m+1) k L' af=.ok fE LE cw:=ef;simp only[dP,H9 hu hw] at e;exact e
  refine aZ (BL (Rs:=TO::G.res) O Zk eh h0 hres (λ_ q=>q) hk (λ_=>⟨_,_,gH⟩)) λlq uj=>?_;refine gg (wW e2) λ_ ny bN e8 e9=>?_;refine aZ (A9 e8) λcu _=>?_;clear e2 ef O;subst cu;refine gg (wW e9) λf lp iu gR fX=>?_;refine aI ?_;clear aI Xx e9;refine wpAny_letOwnedTupleGo_zip E6 λaX QB gD=>?_;have qh:=pO E6;have eo:∀c o,c≠z->aA.get? c=some o->aX.get? c=some o:=λc o hc e=>(gD.2 c hc).trans e;have bM:aG (G.re (TO::G.res)) aw _ aX:=lq.S.il (qh.gw lq.S) (eh z (.inl rfl)) qh.jc eo;have dm:=lq.X.other lq.S qh eo;have qd:=nZ qh eo;have Ph:kE aX z TI TO i1 i2 t1 t2 (k+1):=⟨QB,eo _ _ D.TIz (hk _ _ D.TIz D.TITO D.TIi1 D.TIi2 Zk.TI),⟨_,_,eo _ _ D.TOz gH⟩,s9 j1 λo e=>eo _ o D.i1z e,s9 j2 λo e=>eo _ o D.i2z e⟩;refine wpAny_assign_Tuple hh ⟨_,(eo _ _ (Nat.ne_of_gt (Heap.lt_size Zk.z)) pT),rfl,_,rfl⟩ rfl rfl λcI Pj=>?_;have yf:∀c o,aX.get? c=some o->cI.get? c=some o:=λc o e=>(show Heap.ExtBut aX.objs.size aX cI from Pj) c o (Nat.ne_of_lt (Heap.lt_size e)) e;have dn:=bM.grow yf;have sb:=Step.grow bM yf;have fk:=dm.step bM sb;have xC:∀{t:Addr}{us:List V},Rel (G.re (TO::G.res)) aw h' (.ref t) (.ax us)->Rel (G.re (TO::G.res)) aw cI (.ref t) (.ax us):=λr=>((uj _ _ r).mono qd λ_ _ e=>e).step sb bM;refine Cm (G:=G.re (TO::G.res)) Tg [u,w] [v1,v2] {cb with heap:=cI,toks:=tk} L' ny _ e8 fk dn (bH.step (bH.mono qd (λ_ _ e=>e) (.cons (uj _ _ r1) (.cons (uj _ _ r2) .nil))) sb bM) λdJ iL gA gK hH=>?_;refine hb.at (s:={cb with heap:=dJ,toks:=iL}) hH gK gR λfl ee uL yg uM yC yD rf=>?_;have yE:=(((lq.st.other (h0 z (.inl rfl)) eo).trans sb.toS).trans gA).trans uM;have next:∀(e:fo m (k+1) lp iu=.ok fE LE cw),∃m',m'<m+1/\I m' {cb with heap:=ee,toks:=uL}:=λe=>
   ⟨m,Nat.lt_succ_self _,ee,uL,yg,_,k+1,_,rfl,⟨yE,yC,yD⟩,((Ph.step bM dm sb.toS).step dn fk gA).step gK hH uM,⟨((xC Sr.one).gB gA dn fk).gB uM gK hH,((xC Sr.two).gB gA dn fk).gB uM gK hH⟩,e⟩
  clear xC uj yf eo gD gR;cases rf with
  |next=>exact next fX
  |cont=>exact next fX
  |brk=>exact hR .next ee uL yg yE (iU (mo:=λ_ _ σ=>aG G _ σ _) fX (yC.less sub)) (iU (mo:=λ_ L _=>bj G N env _ _ L) fX (yD.less sub)) (iU (mo:=λf _ _=>fT G _ _ _ f) fX .next)
  |ret r=>exact hR _ ee uL yg yE (iU (mo:=λ_ _ σ=>aG G _ σ _) fX (yC.less sub)) (iU (mo:=λ_ L _=>bj G N env _ _ L) fX (yD.less sub)) (iU (mo:=λf _ _=>fT G _ _ _ f) fX (fT.less (.ret r) sub))
 ·refine bB λXx aI=>?_;refine aZ (BL (Rs:=G.res) O Zk eh h0 hres sub hk λq=>absurd (h0 TO (.inr (.inl rfl))) (hres TO q)) λlq _=>?_;have e:dP (λk=>M.pure (gZ us ws x y k)) (aW (G.ctx n) b) (m+1) k L' af=.ok fE LE cw:=ef;simp only[dP,Ia (hend.imp vC.none vD.none)] at e;exact aI (wpAny_execs_nil (hR .next aA tk aw lq.st (iU (mo:=λ_ _ σ=>aG G _ σ _) e lq.S) (iU (mo:=λ_ L _=>bj G N env _ _ L) e lq.X) (iU (mo:=λf _ _=>fT G _ _ _ f) e .next)))
theorem BM(e:rN v σ=.ok us af):v=.ax us/\af=σ:=by
 cases v with
|ax vs=>(apply eQ e);exact⟨rfl,rfl⟩
|_=>exact cT e
theorem LW{x y:Nat}{a b:Qh.E}{bd:SL}{ea eb:aq}{body:List Stmt}{y1 y2:Str}(K:cG G)(Y:Ao A n)(hE:bg G n A N env a ea)(sC:bg G n A N env b eb)(hb:∀R,gL (G.re R) n A N env bd body)(Tg:iQ N env [x,y] [.Name y1 p1,.Name y2 p2])(Rq:env.kindOf "zip"=some .globalImplicit)(hs:starEach [ea,eb] env=(false,eval ea env)::starEach [eb] env)(hs':starEach [eb] env=[(false,eval eb env)]):
  dh G n A N env (.g8 x y a b bd) (.For (.Tuple [.Name y1 p1,.Name y2 p2] kk pt) (.Call (.Name "zip" zp) [ea,eb] [] SD) body [] p):=λs ρ σ L Q E X S h=>by
 refine wpAny_For ?_ (kI rfl);refine wpAny_Call_NameR (wpAny_Name (mQ K S X Rq (by decide+kernel) boot_zip ?_) (by decide+kernel));refine callWith_type1 (args_cons (hE.gE X S h λv aA tk aJ ay u bx aH st r h1=>args_cons (sC.gE (s:={s with heap:=aA,toks:=tk}) bx aH h1 λv' aX cz dD bN u' dm bM cH r' h2=>args_nil ?_) hs') hs) hs (by(refine hs'.symm▸?_);rfl);refine bB λXx aI=>?_;refine bo (PS.lift h2) λus en e1 h3=>?_;refine aZ (BM e1) λcu bh=>?_;clear e1;(clear h2 h1;subst cu);subst bh;refine bo (PS.lift h3) λws iu e2 h4=>?_;have zz:=BM e2;clear e2;obtain⟨rfl,rfl⟩:=zz;refine kt (PS.ok h4) λfE LE cw ef=>?_;replace h4:=ef▸h4;refine DS (r.step cH aH) λt1 xs ht1 vC n1 bc=>?_;refine DS r' λt2 ys jU vD n2 eM=>?_;(clear r h3;subst bc);(clear r';subst eM);refine aI ?_;clear aI Xx;refine Kk (s:={s with heap:=aX,toks:=cz}) ht1 jU λcI hz hk=>?_;replace hk:∀c o,aX.get? c=some o->cI.get? c=some o:=hk;refine wpAny_pyIter_zip hz.z ?_;have rV:∀j,aX.get? (aX.objs.size+j)=none:=λj=>Heap.get?_none_of_le (d7 _ _);have se:∀j,G.hb.get? (aX.objs.size+j)=none:=λj=>bM.outside (d7 _ _);have QC:∀c vs,IsTup aX c vs->c≠aX.objs.size+3:=λc vs t q=>by obtain⟨o,e,_⟩:=t;(replace e:=(rV 3)▸(q▸e));exact bS e
 have ht:∀c vs,c∉G.res->IsTup aX c vs->¬ False/\c∉(aX.objs.size+3)::G.res:=λc vs n t=>⟨id,λq=>(List.mem_cons.mp q).elim (QC c vs t) n⟩;refine eY (hz.TO) λ_ _ hTO=>?_;have dn:aG (G.re ((aX.objs.size+3)::G.res)) dD _ cI:=aG.fc (W:=λ_=>False) bM (λ_ _ q=>q) (λ_ q=>q.elim) (λc o _ e=>hk c o e) ht λc hc=>by
  rcases List.mem_cons.mp hc with rfl|q
  ·exact⟨⟨_,mT hTO⟩,se 3⟩
  ·refine bo (bM.iO c q) λvs o e d=>?_;exact⟨⟨vs,o,hk _ _ e,d⟩,bM.jO c q⟩
 have up:∀v u,Rel G dD aX v u->Rel (G.re ((aX.objs.size+3)::G.res)) dD cI v u:=λv u r=>r.fc λc vs n t=>⟨let ⟨o,e,d⟩:=t;⟨o,hk c o e,d⟩,(ht c vs n t).2⟩;refine Kl (cb:={s with heap:=aX,toks:=cz}) (cL:=dD) Y.hh (hb _) (zipApart_new ht1.lt jU.lt) (λc hc=>?_) (λc hc=>?_) (λc hc q=>by obtain⟨vs,o,e,_⟩:=bM.iO c hc;(replace q:=e▸q);exact d8 q) Tg (λfl h' eL aw st' S' X' rf=>h4 fl h' eL aw st' S' X' rf) _ _
  ⟨cI,cz,dD,_,0,L,rfl,⟨(Step.grow bM hk).toS,dn,(bj.fc (W:=λ_=>False) dm (λc o _ e=>hk c o e) ht id λ_ _ _ _=>id)⟩,hz,⟨up _ _ (.ax ht1 vC n1),up _ _ (.ax jU vD n2)⟩,ef⟩
 ·rcases hc with rfl|rfl|rfl|rfl
  ·exact rV 4
  ·exact rV 3
  ·exact rV 0
  ·exact rV 1
 ·rcases hc with rfl|rfl|rfl|rfl
  ·exact se 4
  ·exact se 3
  ·exact se 0
  ·exact se 1
end
end Qh
namespace Qh
open PySem PyProof.Rows PyProof.V
section
variable{G:Gd}{n:Nat}{A:Around}{N:List Str}{env:Env}{E:bD}{s:Shared}{ρ aw:List Addr}{σ af:H}
theorem rh(e:iq u σ=.ok p ay):∃i c,u=.ref i/\ay=σ/\σ[i]?=some (.inst c p.1)/\σ[p.1]?=some (.dq p.2):=by
 cases u with
|ref i=>
  refine bo (eu e) λo af e1 e2=>?_;refine aZ (oo e1) λcu e1=>?_;clear e rh;subst cu;cases o with
  |inst c d=>
   refine bo (eu e2) λo' cO e3 e4=>?_;refine aZ (oo e3) λcu e3=>?_;subst cu;cases o' with
   |dq k=>(apply eQ e4);exact⟨i,c,rfl,rfl,e1,e3⟩
   |_=>exact cT e4
  |_=>exact cT e2
|_=>exact cT e
theorem aG.self(S:aG G ρ σ s.heap)(e1:σ[i]?=some (.inst c d))(e2:σ[d]?=some (.dq k))(r:Rel G ρ s.heap v (.ref i)):
  ∃x dx t,v=.ref x/\ρ[i]?=some x/\ρ[d]?=some dx/\(∃o,s.heap.get? x=some o/\CW (G.cA 0) x dx o)/\s.heap.Inst x (G.cA 0) (jb (.int k t)):=by
 cases r with
|@ref x _ hi=>
  refine bB λXx aI=>?_;refine uE (S.rep _ _ _ hi e1) λdx o hd hx q1 q2 q3 q4=>?_;refine b6 (S.rep _ _ _ hd e2) λt hn=>?_;refine aI ?_;exact⟨x,dx,t,rfl,hi,hd,⟨o,hx,q1,q2,q3,q4⟩,o,hx,q1,q2,.inr ⟨dx,q3,q4,hn⟩⟩
theorem Ba(hbase:attributeBase o name env (eval o env)=eval o env)(hfew:((backTo pos (starEach args env)).all (λx=>!x.1)&&(backToKw pos (keywordEach [] env)).all (λx=>x.1.isSome)
   &&decide (args.length+([]:List Keyword).length+(if([]:List Keyword).isEmpty then 0 else 1)<30))=true)(hline:(apos.endLine==pos.line)=true)(h:wpAny (model G.prog G.w) A (eval o env) (λov bA=>∃f,(∀(pl:Sem Bool)(Q':Value×List Value->Shared->Prop),Q' (.ref f,[ov]) bA->wpAny (model G.prog G.w) A (getMethod ov name pl) Q' E bA)/\wpAny (model G.prog G.w) A (callWith pos (.ref f) [ov] (backTo pos (starEach args env)) []) Q E bA) E s):
  wpAny (model G.prog G.w) A (eval (.Call (.Attribute o name apos) args [] pos) env) Q E s:=by
 rw[arm_eval_Call,hbase];refine wpAny_bind (wpAny_mono h (λov bA aA=>?_) λ_ _ e=>e);refine aM (aA) λf hg hc=>?_;refine wpAny_bind (wpAny_standAt ?_);have Pk:methodCallForm (args.length+([]:List Keyword).length) (backTo pos (starEach args env)) (backToKw pos (keywordEach [] env))=true:=hfew;have hpos:methodCallPos true o env apos pos=pure pos:=by unfold methodCallPos;simp[hline]
 unfold methodCall;refine Pk.symm▸?_;refine wpAny_bind (wpAny_holding (hg _ _ ?_));exact wpAny_bind (wpAny_of_eq hpos hc)
theorem LX(K:cG G)(F:iK G)(Y:Ao A n)(C:ki G n)(nt:G.P.eW (f+1)≠2)(hO:bg G n A N env a o)(hE:gp G n A N env es args)(hx:G.fN f=x)(hg:G.eS f=false)(hb:attributeBase o x env (eval o env)=eval o env)(hline:(ap.endLine==p.line)=true)(hs:(args=[]/\es=.nil)∨∃fV eG,args=[fV,eG]/\starEach [fV,eG] env=(false,eval fV env)::starEach [eG] env/\starEach [eG] env=[(false,eval eG env)]):bg G n A N env (.cB f a es) (.Call (.Attribute o x ap) args [] p):=λs ρ σ L Q E X S h=>by
 subst hx
 have hfew:((backTo p (starEach args env)).all (λx=>!x.1)&&(backToKw p (keywordEach [] env)).all (λx=>x.1.isSome)
   &&decide (args.length+([]:List Keyword).length+(if([]:List Keyword).isEmpty then 0 else 1)<30))=true:=by
  rcases hs with ⟨rfl,_⟩|⟨fV,eG,rfl,q,q'⟩
  ·rfl
  ·(refine q.symm▸?_;refine q'.symm▸?_);rfl
 refine Ba hb hfew hline (hO.then X S h λv aA tk aJ ay u bx aH st r h1=>?_);refine bB λXx aI=>?_;refine bo (aT.bind h1) λpr bN e1 h2=>?_;refine fF (rh e1) λi c bc eM e2 e3=>?_;clear e1;(clear h1;subst bc);subst eM;refine bo (aT.bind h2) λus en e4 h3=>?_;refine eY (PV.some h3) λw iu e5=>?_;refine bo (sZ e5) λfn m hf _=>?_;refine fG (K.tell) λmg NA mN _ _ TO=>?_;obtain⟨t1,⟨ob,t2,t3⟩,t4,t5⟩:=TO.meths f fn hf hg;refine xZ (aG.self (s:={s with heap:=aA,toks:=tk}) aH e2 e3 r) λy dx t eM hi hd hy I=>?_;subst eM;obtain⟨nm,q,bs,sn,sub,col,dd,k0,k1,k2,k3,k5,hC⟩:=TO.cls.obj;refine bo (F f fn hf) λo' fd ho hdat=>?_;refine aI ?_;refine⟨G.fA f,λpl Q' hq=>?_,?_⟩
 ·exact method_of (aH.base _ _ hC) (TO.cls.ns.keeps aH.base) TO.q2 TO.q3 t1 (aH.base _ _ t2) t3 t4 I (by unfold jb;(refine(if_neg t5).symm▸?_;with_reducible rfl)) hq
 ·have fin:wpAny (model G.prog G.w) A (spliced (backTo p (starEach args env))) (λvs bA=>(∀b o,G.hb.get? b=some o->bA.heap.get? b=some o)/\wpAny (model G.prog G.w) A (call (.ref (G.fA f)) ([.ref y]++vs)) Q E bA) E {s with heap:=aA,toks:=tk}:=
   hE.then bx aH h2 λvs aX cz dD yh us' dm bM cH rs h4=>⟨bM.base,C A Y f nt _ _ _ dD yh Q E bM (.cons (r.step cH aH) rs) h4⟩
  rcases hs with ⟨rfl,rfl⟩|⟨fV,eG,rfl,q,q'⟩
  ·refine callWith_meth0 hdat (aH.base _ _ ho) ?_;exact C A Y f nt _ _ _ aJ bN Q E aH (.cons r .nil) h2
  ·exact callWith_meth hdat ho fin q
theorem xd:typeLookup (.type "object") "many"=pure none:=by rw[typeLookup_type,builtinLookup_eq_fast];kernel_rfl
theorem LY(K:cG G)(hO:bg G n A N env a (.Name y py)):bg G n A N env (.attr a "many") (.Attribute (.Name y py) "many" p):=λs ρ σ L Q E X S h=>by
 refine Attribute_Name_ (hO.then X S h λv aA tk aJ ay u bx aH st r h1=>?_);refine bB λXx aI=>?_;refine bo (aT.bind h1) λpr bN e1 h2=>?_;refine fF (rh e1) λi c bc eM e2 e3=>?_;clear e1;(clear h1;subst bc);subst eM;refine fG (K.tell) λmg NA mN _ _ TO=>?_;refine xZ (aG.self (s:={s with heap:=aA,toks:=tk}) aH e2 e3 r) λx dx t eM hi hd _ I=>?_;clear r;subst eM;obtain⟨nm,q,bs,sn,sub,col,dd,k0,k1,k2,k3,k5,hC⟩:=TO.cls.obj;refine aI ?_;exact load_attr (aH.base _ _ hC) (TO.cls.ns.keeps aH.base) TO.q2 TO.q4 xd I (by unfold jb;rw[if_pos rfl]) rfl (aT.here h2 aH (.int _ _))
theorem Within.many(v:Value):PySem.Within (jb v) ["many"]:=λy h=>by
 unfold jb at h
 by_cases e:y="many"
 ·simp[e]
 ·(replace h:=(if_neg e)▸h);exact absurd rfl h
theorem IE(K:cG G)(S:aG G ρ σ s.heap)(ro:Rel G ρ s.heap o uo)(re:Rel G ρ s.heap e ue)(h:PU G (tC uo ue σ) ρ s Q):wpAny (model G.prog G.w) A (setAttr o "many" e) Q E s:=by
 refine bB λXx aI=>?_;refine bo (aT.bind h) λpr bN e1 h2=>?_;refine fF (rh e1) λi c bc eM e2 e3=>?_;clear e1;(clear h;subst bc);subst eM;refine bo (aT.bind h2) λm en e4 h3=>?_;have zz:=jz e4;clear e4;obtain⟨rfl,rfl⟩:=zz;refine fG (K.tell) λmg NA mN _ _ TO=>?_;have zz:=S.self e2 e3 ro;clear ro;obtain⟨x,dx,t,rfl,hi,hd,⟨ob,hx,q1,q2,q3,q4⟩,I⟩:=zz;obtain⟨nm,q,bs,sn,sub,col,dd,k0,k1,k2,k3,k5,hC⟩:=TO.cls.obj;refine aI ?_;cases re with
|int _ t'=>
  have hxC:x≠G.cA 0:=λz=>by
   have:=S.new x (List.mem_of_getElem? hi);(replace this:=hC▸(z▸this));exact d8 this
  refine store_attr PySem.F.store_object (S.base _ _ hC) (TO.cls.ns.keeps S.base) TO.q1 TO.q4 xd hxC I (λh' eL I' hk hsame=>?_) (Within.many _) (by decide);refine bB λXx aI=>?_;refine nc (hsame ob hx) λvq hx' c1 c2 c3 c4=>?_;have hob:vq=ob:=by
   have Gh:=c4 dx q3;(clear c4 q2 q1 hx;cases ob);cases vq;simp only at c1 c2 c3 Gh q3;subst c1 c2 c3 Gh q3;rfl
  clear c4 c3 c2 c1 q2 q1;subst hob;have hkp:∀b o,b≠dx->s.heap.get? b=some o->h'.get? b=some o:=λb o hb e=>by
   by_cases z:b=x
   ·(clear hb hsame hk I' hxC q4 I hi;subst z);(replace e:=hx▸e);(apply eR e);exact hx'
   ·exact hk b o z (λQD d' iR ed=>by(replace iR:=hx▸iR);(refine dt iR λaL=>?_;(clear iR;subst aL));(replace ed:=q3▸ed);(refine dt ed λaL=>?_;(clear hd ed;subst aL));exact hb) e
  have hns:h'.Ns1 dx (jb (.int m t')):=by
   refine oD (I') λRr z1 _ _ z2=>?_;(replace z1:=hx'▸z1);(refine dt z1 λaL=>?_;(clear z1;subst aL));rcases z2 with ⟨z2,_⟩|⟨d',z2,_,z3⟩
   ·(replace z2:=q3▸z2);exact d8 z2
   ·(replace z2:=q3▸z2);(refine dt z2 λaL=>?_;(clear hkp q3 q4;subst aL));have:(λy=>if y=("many":Str) then some (Value.int m t') else jb (.int pr.2 t) y)=jb (.int m t'):=by
     funext y;unfold jb;split<;>rfl
    (replace z3:=this▸z3);exact z3
  refine aZ (S.turn hd hkp (o:=.dq m) ⟨t',hns⟩) λS' st=>?_;refine aI ?_;exact h3 () h' eL ρ st S' trivial
theorem LZ(K:cG G)(h1:bg G n A N env e e')(h2:bg G n A N env o o')(hs:swapsWith e' (some (.Attribute o' "many" p')) p.line env=pure false):
  dh G n A N env (.ji o "many" e) (.Assign [.Attribute o' "many" p'] e' p):=λs ρ σ L Q E X S h=>
 plainObj_wpAny_Assign_Attribute (h1.gE X S h λv aA tk aJ ay u bx aH st r h'=>h2.gE bx aH h' λQw aX cz dD bN fU dm bM cH qr h''=>
  IE K bM qr (r.step cH aH) (PS.unit h'' dm bM λdJ iL qe iu gK hH hq=>hq.cD gK hH .next)) hs
theorem Je:attributeBase (.Call (.Name "Teller" p') [] [] p) name env whole=whole:=by
 show(do return ←whole)=whole
 rfl
theorem NF(K:cG G)(Y:Ao A n)(hk:env.kindOf "Teller"=some .globalImplicit):bg G n A N env (.new c) (.Call (.Name "Teller" p') [] [] p):=λs ρ σ L Q E X S h=>by
 refine bB λXx aI=>?_;refine fG (K.tell) λmg NA mN h1 h2 TO=>?_;obtain⟨nm,q,bs,sn,sub,col,dd,k0,k1,k2,k3,k5,hC⟩:=TO.cls.obj;obtain⟨fI,oI,fd,self,p1,p2,p3,p4,k,i1,i2,i3,i4,i5,i6,i7,i8,i9,Rt,Ru,i12,Rv⟩:=TO.F5;refine aI ?_;refine wpAny_Call_NameR (wpAny_Name ?_ (by decide+kernel));refine(loadName_read X.kind hk).symm▸?_;refine Calls.loadGlobal_global (by(refine(X.glob).symm▸?_);exact h1.keeps S.base) h2 ?_;refine callWith_cls0 TO.cls S.base ?_;obtain⟨hh,g,d,t,os⟩:=s;refine wpAny_call_obj_init PySem.F.objNew (S.base _ _ hC) (TO.cls.ns.keeps S.base) i1 (S.base _ _ i2) i3 λh' x dx Mk=>?_;have kk:∀b o,G.hb.get? b=some o->h'.get? b=some o:=λb o e=>Mk.keeps _ _ (S.base _ _ e);refine wpAny_call (codeAny_call_cells ?_ (kk _ _ i2) i4 (K.nolimit.keeps kk) (i5.keeps kk) i6 (i7 _) i8 (λy hy=>?_) (λbA I=>?_) Rt Ru i12)
 ·have:=Y.room;have:=Y.units;show A.depth+1<recursionLimit
  lia
 ·simp at hy;subst hy;exact .inl i9
 ·refine eY (I.toInCall.same) λaA fC bc=>?_;subst bc;have kp:=I.toInCall.keep;have hself:(callEnvC fd h'.objs.size fI).kindOf self=some .local:=i9;refine wpAny_execs_cons (plainObj_wpAny_Assign_Attribute (wpAny_Constant_int ?_));have hv:bindL (callEnvC fd h'.objs.size fI).kindOf [(self,Value.ref x)] (λ_=>none) self=some (.ref x):=by
   simp only[bindL,hself,if_true]
  refine wpAny_Name (wpAny_loadName_local i12 hself I.toInCall.ns hv ?_) Rv;have yF:aA.Inst x (G.cA 0) λ_=>none:=Mk.inst.keeps kp;have hxC:x≠G.cA 0:=λz=>by
   have:=Mk.newX;(replace this:=(S.base _ _ hC)▸(z▸this));exact d8 this
  refine store_attr PySem.F.store_object (kp _ _ (kk _ _ hC)) (TO.cls.ns.keeps λb o e=>kp _ _ (kk _ _ e)) TO.q1 TO.q4 xd hxC yF (λaX cz E7 eo hsame=>?_) Within.nil (by decide);refine wpAny_execs_nil ⟨rfl,?_⟩;refine bB λXx aI=>?_;refine oD (id yF) λob hx c1 c2 _=>?_;have hdx:ob.dict=some dx:=by
   refine aM (id Mk.inst) λvq hx' _=>?_;have:=kp _ _ hx';(replace this:=hx▸this);(refine dt this λaL=>?_;(clear c2 c1 hx;subst aL));exact Mk.dict _ hx'
  refine nc (hsame ob hx) λPl uN d1 d2 d3 d4=>?_;have sG:=d4 dx hdx;have hns:aX.Ns1 dx (jb (.int 0 fC))/\dx≠x:=by
   refine oD (E7) λRr z1 _ _ z2=>?_;(replace z1:=uN▸z1);(refine dt z1 λaL=>?_;(clear d1 uN;subst aL));rcases z2 with ⟨z2,_⟩|⟨d',z2,z4,z3⟩
   ·(replace z2:=sG▸z2);exact d8 z2
   ·(replace z2:=sG▸z2);(refine dt z2 λaL=>?_;(clear sG hdx Mk;subst aL));exact⟨z3,z4⟩
  have Co:∀b o,hh.get? b=some o->aX.get? b=some o:=λb o e=>by
   refine eo b o (λz=>?_) (λQD d' iR ed z=>?_) (kp _ _ (Mk.keeps _ _ e))
   ·(replace e:=(Mk.newX)▸(z▸e));exact bS e
   ·(replace iR:=hx▸iR);(refine dt iR λaL=>?_;(clear c2 c1 hx;subst aL));(replace ed:=hdx▸ed);(refine dt ed λaL=>?_;(clear hns sG hdx;subst aL));(replace e:=(Mk.newD)▸(z▸e));exact bS e
  refine k8 (aG.alloc S Co Mk.newD (o:=.dq 0) ⟨fC,hns.1⟩) λbM cH Eb=>?_;have hxn:x∉ρ++[dx]:=λz=>by
   rcases List.mem_append.mp z with z|z
   ·refine aM (S.mem z) λ_ e _=>?_;have:=Mk.newX;rw[show hh.get? x=_ from e] at this;exact d8 this
   ·simp at z;exact hns.2 z.symm
  have hbn:G.hb.get? x=none:=by
   cases e:G.hb.get? x with
   |none=>rfl
   |some o=>have:=S.base _ _ e;rw[show hh.get? x=none from Mk.newX] at this;exact bS this
  refine aZ (bM.adopt hxn hbn (o:=.inst c σ.length) ⟨dx,Pl,by rw[List.getElem?_append_left (List.getElem?_eq_some_iff.mp Eb).1];exact Eb,uN,d1.trans c1,λc=>by(refine d2.symm▸?_);exact c2 c,sG,hns.2⟩) λdn Ec=>?_;refine aI ?_;refine h (.ref x) aX cz _ ⟨⟨[dx,x],by simp⟩,λb hb=>?_,λb o e _=>Co b o e⟩ dn (.ref Ec);rcases List.mem_append.mp hb with z|z
  ·exact cH.fresh b z
  ·simp at z;(clear hb Ec dn hbn hxn hns uN hx aI hsame eo E7 hxC yF hv I;subst z);exact .inr Mk.newX
end
end Qh
namespace Qh
open PySem PySem.W PyProof.Rows
section
variable{G:Gd}{n:Nat}{A:Around}{N:List Str}{env:Env}
theorem Km{f:Nat}{x:Str}{a:Qh.E}{es:EL}{o fV eG:aq}{ap p:Pos}{fn:Fn}(K:cG G)(FI:iK G)(Y:Ao A n)(C:oG G n)(xf:G.xf f)(hO:bg G n A N env a o)(Rw:ey G n A N env a o)(hE:gp G n A N env es [fV,eG])(hX:k9 G n A N env es [fV,eG])(hf:G.P.fns f=some fn)(hx:G.fN f=x)(hg:G.eS f=false)(hb:attributeBase o x env (eval o env)=eval o env)(hline:(ap.endLine==p.line)=true)(q:starEach [fV,eG] env=(false,eval fV env)::starEach [eG] env)(q':starEach [eG] env=[(false,eval eG env)]):ey G n A N env (.cB f a es) (.Call (.Attribute o x ap) [fV,eG] [] p):=λs ρ σ L af fe outer Lf Q E X S F ev px=>by
 subst hx
 have hfew:((backTo p (starEach [fV,eG] env)).all (λx=>!x.1)&&(backToKw p (keywordEach [] env)).all (λx=>x.1.isSome)
   &&decide ([fV,eG].length+([]:List Keyword).length+(if([]:List Keyword).isEmpty then 0 else 1)<30))=true:=by(refine q.symm▸?_;refine q'.symm▸?_);rfl
 refine Ba hb hfew hline (ni hO Rw X S F ev px λv aA tk aJ ay u bx aH st fp r e0 gJ=>?_);rcases jA e0 with z|⟨pr,bN,e1,e2⟩
 ·exact no .iq z
 refine bB λXx aI=>?_;refine fF (rh e1) λi c bc eM g2 g3=>?_;clear e1;(clear e0;subst bc);subst eM;refine fG (K.tell) λmg NA mN _ _ TO=>?_;obtain⟨t1,⟨ob,t2,t3⟩,t4,t5⟩:=TO.meths f fn hf hg;refine xZ (aG.self (s:={s with heap:=aA,toks:=tk}) aH g2 g3 r) λy dx t eM hi hd hy I=>?_;subst eM;obtain⟨nm,q0,bs,sn,sub,col,dd,k0,k1,k2,k3,k5,hC⟩:=TO.cls.obj;refine bo (FI f fn hf) λo' fd ho hdat=>?_;refine aI ?_;refine⟨G.fA f,λpl Q' hq=>?_,?_⟩
 ·exact method_of (aH.base _ _ hC) (TO.cls.ns.keeps aH.base) TO.q2 TO.q3 t1 (aH.base _ _ t2) t3 t4 I (by unfold jb;(refine(if_neg t5).symm▸?_;with_reducible rfl)) hq
 ·exact callWith_meth hdat ho (rF hE hX bx aH fp e2 gJ λvs aX cz dD yh us dm bM cH kD rs e3 u6=>⟨bM.base,C A Y fe outer Lf env f xf _ _ _ dD yh af Q E bM (.cons (r.step cH aH) rs) kD e3 u6⟩) q
end
end Qh
set_option tactic.hygienic true
namespace Qh
open PySem PyProof.Rows
structure fD where
 fN:Nat->Str
 eS:Nat->Bool
 gN:Nat->Str
 io:Nat->Nat
def Gd.aC(G:Gd):fD:=⟨G.fN,G.eS,G.gN,G.P.eW⟩
def fD.nt(T:fD)(f:Nat):Bool:=!decide (T.io (f+1)=2)
noncomputable abbrev Kn:=List (Str×NameKind)
def eT(K:Kn)(x:Str):Bool:=decide (K.lookup x=some .globalImplicit)
def eH(K:Kn)(x:Str):Bool:=decide (K.lookup x=some .local)||decide (K.lookup x=some .cell)
def jM(x:Str):Bool:=!(x==("__debug__":Str))
def cY:aq->Bool
|.Starred ..=>false
|_=>true
def tG:aq->Bool
|.Slice ..=>false
|_=>true
def jH:aq->Bool
|.ListComp ..=>false
|.SetComp ..=>false
|.DictComp ..=>false
|_=>true
def isNone:E->Bool
|.none=>true
|_=>false
def rG:EL->Bool
|.nil=>true
|.cons _ _=>false
def pP:E->Bool
|.comp ..=>true
|.f9 ..=>true
|.fH ..=>true
|_=>false
def f5(K:Kn)(names:Kn):Kn:=names.map λ(n,k)=>if(k==NameKind.free&&K.lookup n==some .cell) then(n,.cell) else(n,k)
def ot(N:List Str)(K:Kn)(scope:Scope)(x:Str)(v:Nat)(br:List Nat):Bool:=
 decide (scope.kind=.function)&&scope.names.all (λy=>decide (y.2≠.cell))&&scope.names.all (λy=>decide (y.2≠.local)||decide (scope.names.lookup y.1=some .local))&&decide (scope.names.lookup x=some .local)&&decide (N[v]?=some x)
  &&scope.names.all (λy=>decide (y.2≠.free)||decide (K.lookup y.1=some .cell))&&br.all (λi=>match N[i]? with|some y=>decide ((f5 K scope.names).lookup y=some .cell)|none=>true)
def blt(K:Kn)(x y:Str):Bool:=decide (x=y)&&eT K x
def lr:List Type->Nat->Type
|[],_=>Unit
|t::_,0=>t
|_::r,n+1=>lr r n
structure Wf(L:List Type)(I:(n:Nat)->lr L n->Prop) where
 n:Nat
 x:lr L n
 is:I n x
def sel{L:List Type}{I:(n:Nat)->lr L n->Prop}(w:Wf L I)(n:Nat):Option (lr L n):=if h:w.n=n then some (h▸w.x) else none
theorem eN{L:List Type}{I:(n:Nat)->lr L n->Prop}{w:Wf L I}{n:Nat}{x:lr L n}(h:sel w n=some x):I n x:=by
 obtain⟨m,y,i⟩:=w
 by_cases q:m=n
 ·subst q;have h:sel ⟨m,y,i⟩ m=some y:=dif_pos rfl
  rename_i h0;rw[h] at h0;exact Option.some.inj h0▸i
 ·exact bS ((dif_neg q).symm.trans h)
structure Cp where
 elt:aq
 x:Str
 iter:aq
 ifs:List aq
 scope:Scope
structure Mt where
 o:aq
 m:Str
 ap:Pos
 p:Pos
 args:List aq
def EP:List Type:=[Const,Str,List aq,List aq,List (Option aq)×List aq,Operator×aq×aq,UnaryOp×aq,CmpOp×aq×aq,BoolOp×List aq,
 aq×Option aq×Option aq,aq×aq,Str×List aq×List Keyword,Mt,aq×Str,Int×Cp]
def EI(e:aq):(n:Nat)->lr EP n->Prop
|0=>λ(c:Const)=>∃k p,e=.Constant c k p
|1=>λ(x:Str)=>∃p,e=.Name x p
|2=>λ(l:List aq)=>∃k p,e=.Tuple l k p
|3=>λ(l:List aq)=>∃p,e=.List l p
|4=>λ(x:List (Option aq)×List aq)=>∃p,e=.Dict x.1 x.2 p
|5=>λ(x:Operator×aq×aq)=>∃p,e=.BinOp x.2.1 x.1 x.2.2 p
|6=>λ(x:UnaryOp×aq)=>∃p,e=.UnaryOp x.1 x.2 p
|7=>λ(x:CmpOp×aq×aq)=>∃p,e=.Compare x.2.1 [x.1] [x.2.2] p
|8=>λ(x:BoolOp×List aq)=>∃p,e=.BoolOp x.1 x.2 p
|9=>λ(x:aq×Option aq×Option aq)=>∃p' p,e=.Subscript x.1 (.Slice x.2.1 x.2.2 none p') p
|10=>λ(x:aq×aq)=>∃p,e=.Subscript x.1 x.2 p/\tG x.2=true
|11=>λ(x:Str×List aq×List Keyword)=>∃p' p,e=.Call (.Name x.1 p') x.2.1 x.2.2 p
|12=>λ(x:Mt)=>e=.Call (.Attribute x.o x.m x.ap) x.args [] x.p
|13=>λ(x:aq×Str)=>∃p,e=.Attribute x.1 x.2 p
|14=>λ(x:Int×Cp)=>∃px p,e=.ListComp x.2.elt [⟨.Name x.2.x px,x.2.iter,x.2.ifs,x.1⟩] x.2.scope p
|_=>λ_=>True
def view(e:aq):Wf EP (EI e):=match e with
|.Constant c _ _=>⟨0,c,_,_,rfl⟩
|.Name x _=>⟨1,x,_,rfl⟩
|.Tuple l _ _=>⟨2,l,_,_,rfl⟩
|.List l _=>⟨3,l,_,rfl⟩
|.Dict ks vs _=>⟨4,(ks,vs),_,rfl⟩
|.BinOp l op r _=>⟨5,(op,l,r),_,rfl⟩
|.UnaryOp op l _=>⟨6,(op,l),_,rfl⟩
|.Compare l [op] [r] _=>⟨7,(op,l,r),_,rfl⟩
|.BoolOp op l _=>⟨8,(op,l),_,rfl⟩
|.Subscript l (.Slice lo hi none _) _=>⟨9,(l,lo,hi),_,_,rfl⟩
|.Subscript l r _=>if h:tG r=true then⟨10,(l,r),_,rfl,h⟩ else⟨15,(),trivial⟩
|.Call (.Name x _) args kws _=>⟨11,(x,args,kws),_,_,rfl⟩
|.Call (.Attribute o m ap) args [] p=>⟨12,(⟨o,m,ap,p,args⟩:Mt),rfl⟩
|.Attribute o x _=>⟨13,(o,x),_,rfl⟩
|.ListComp elt [⟨.Name x _,iter,ifs,z⟩] scope _=>⟨14,(z,(⟨elt,x,iter,ifs,scope⟩:Cp)),_,_,rfl⟩
|_=>⟨15,(),trivial⟩
def one:List aq->Option aq
|[e]=>some e
|_=>none
def two:List aq->Option (aq×aq)
|[e,e']=>some (e,e')
|_=>none
theorem pX{l:List aq}{e:aq}(h:one l=some e):l=[e]:=by
 match l with
|[x]=>(apply eR h);rfl
|[]=>exact bS h
|_::_::_=>exact bS h
theorem xD{l:List aq}{p:aq×aq}(h:two l=some p):l=[p.1,p.2]:=by
 match l with
|[x,y]=>(apply eR h);rfl
|[]=>exact bS h
|[_]=>exact bS h
|_::_::_::_=>exact bS h
theorem bind_some{α β:Type}{o:Option α}{f:α->Option β}{b:β}(h:o.bind f=some b):∃a,o=some a/\f a=some b:=by
 cases o with
|none=>exact bS h
|some a=>exact⟨a,rfl,h⟩
theorem map_some{α β:Type}{o:Option α}{f:α->β}{b:β}(h:o.map f=some b):∃a,o=some a/\f a=b:=by
 cases o with
|none=>exact bS h
|some a=>(apply eR h);exact⟨a,rfl,rfl⟩
def when{α:Type}(c:Bool)(o:Option α):Option α:=bif c then o else none
theorem tv{α:Type}{c:Bool}{o:Option α}{a:α}(h:when c o=some a):c=true/\o=some a:=by
 cases c with
|false=>exact bS h
|true=>exact⟨rfl,h⟩
def uk(l:List aq):Bool:=match l with
|e::_=>cY e
|[]=>false
def ky(e:aq):Option (Const):=sel (view e) 0
theorem tH{e:aq}{x:Const}(h:ky e=some x):∃k p,e=.Constant x k p:=eN h
def nameOf(e:aq):Option (Str):=sel (view e) 1
theorem mu{e:aq}{x:Str}(h:nameOf e=some x):∃p,e=.Name x p:=eN h
def oV(e:aq):Option (List aq):=sel (view e) 2
theorem L0{e:aq}{x:List aq}(h:oV e=some x):∃k p,e=.Tuple x k p:=eN h
def yG(e:aq):Option (List aq):=sel (view e) 3
theorem L3{e:aq}{x:List aq}(h:yG e=some x):∃p,e=.List x p:=eN h
def yH(e:aq):Option (Operator×aq×aq):=sel (view e) 5
theorem L4{e:aq}{x:Operator×aq×aq}(h:yH e=some x):∃p,e=.BinOp x.2.1 x.1 x.2.2 p:=eN h
def sH(e:aq):Option (UnaryOp×aq):=sel (view e) 6
theorem NG{e:aq}{x:UnaryOp×aq}(h:sH e=some x):∃p,e=.UnaryOp x.1 x.2 p:=eN h
def vd(e:aq):Option (CmpOp×aq×aq):=sel (view e) 7
theorem L5{e:aq}{x:CmpOp×aq×aq}(h:vd e=some x):∃p,e=.Compare x.2.1 [x.1] [x.2.2] p:=eN h
def vBool(e:aq):Option (BoolOp×List aq):=sel (view e) 8
theorem Ko{e:aq}{x:BoolOp×List aq}(h:vBool e=some x):∃p,e=.BoolOp x.1 x.2 p:=eN h
def lu(e:aq):Option (aq×aq):=sel (view e) 10
theorem Cq{e:aq}{x:aq×aq}(h:lu e=some x):∃p,e=.Subscript x.1 x.2 p/\tG x.2=true:=eN h
def yI(e:aq):Option (aq×Option aq×Option aq):=sel (view e) 9
theorem L6{e:aq}{x:aq×Option aq×Option aq}(h:yI e=some x):∃p' p,e=.Subscript x.1 (.Slice x.2.1 x.2.2 none p') p:=eN h
def xF(e:aq):Option (Str×List aq×List Keyword):=sel (view e) 11
theorem Bb{e:aq}{x:Str×List aq×List Keyword}(h:xF e=some x):∃p' p,e=.Call (.Name x.1 p') x.2.1 x.2.2 p:=eN h
def uO(e:aq):Option (Mt):=sel (view e) 12
theorem BN{e:aq}{x:Mt}(h:uO e=some x):e=.Call (.Attribute x.o x.m x.ap) x.args [] x.p:=eN h
def oJ(e:aq):Option (aq×Str):=sel (view e) 13
theorem w3{e:aq}{x:aq×Str}(h:oJ e=some x):∃p,e=.Attribute x.1 x.2 p:=eN h
def yi(e:aq):Option (List (Option aq)×List aq):=sel (view e) 4
theorem Kq{e:aq}{x:List (Option aq)×List aq}(h:yi e=some x):∃p,e=.Dict x.1 x.2 p:=eN h
def E8(e:aq):Option (Int×Cp):=sel (view e) 14
theorem L7{e:aq}{x:Int×Cp}(h:E8 e=some x):∃px p,e=.ListComp x.2.elt [⟨.Name x.2.x px,x.2.iter,x.2.ifs,x.1⟩] x.2.scope p:=eN h
def nq(e:aq):Option (Str×List aq):=(xF e).bind λy=>when y.2.2.isEmpty (some (y.1,y.2.1))
theorem tI{e:aq}{x:Str×List aq}(h:nq e=some x):∃p' p,e=.Call (.Name x.1 p') x.2 [] p:=by
 refine bB λXx aI=>?_;obtain⟨⟨f,a,k⟩,h1,h2⟩:=bind_some h;refine aZ (tv h2) λh3 h4=>?_;replace h1:=Bb h1;obtain⟨p',p,rfl⟩:=h1;refine aI ?_;(apply eR h4)
 (refine(List.isEmpty_iff.mp h3).symm▸?_);exact⟨_,_,rfl⟩
def qi(e:aq):Option Cp:=(E8 e).bind λy=>when (decide (y.1=0)) (some y.2)
theorem BO{e:aq}{x:Cp}(h:qi e=some x):∃px p,e=.ListComp x.elt [⟨.Name x.x px,x.iter,x.ifs,0⟩] x.scope p:=by
 refine bB λXx aI=>?_;obtain⟨⟨z,c⟩,h1,h2⟩:=bind_some h;refine aZ (tv h2) λh3 h4=>?_;replace h1:=L7 h1;obtain⟨px,p,rfl⟩:=h1;refine aI ?_;(apply eR h4)
 (refine(of_decide_eq_true h3).symm▸?_);exact⟨_,_,rfl⟩
def gF(e:aq):Option (Str×aq):=(nq e).bind λy=>(one y.2).map λa=>(y.1,a)
def call2(e:aq):Option (Str×aq×aq):=(nq e).bind λy=>(two y.2).map λa=>(y.1,a)
theorem BP{e a:aq}{x:Str}(h:gF e=some (x,a)):∃p' p,e=.Call (.Name x p') [a] [] p:=by
 obtain⟨⟨f,l⟩,h1,h2⟩:=bind_some h;obtain⟨b,h3,h4⟩:=map_some h2;replace h1:=tI h1;obtain⟨p',p,rfl⟩:=h1;cases h4
 (refine(pX h3).symm▸?_);exact⟨_,_,rfl⟩
theorem BQ{e a b:aq}{x:Str}(h:call2 e=some (x,a,b)):∃p' p,e=.Call (.Name x p') [a,b] [] p:=by
 obtain⟨⟨f,l⟩,h1,h2⟩:=bind_some h;obtain⟨c,h3,h4⟩:=map_some h2;replace h1:=tI h1;obtain⟨p',p,rfl⟩:=h1;cases h4
 (refine(xD h3).symm▸?_);exact⟨_,_,rfl⟩
def Gi:List Keyword->Bool
|[k]=>decide (k.arg=some "default")&&decide (ky k.value=some (.int 0))
|_=>false
theorem NH{l:List Keyword}(h:Gi l=true):∃k p kp,l=[⟨some "default",.Constant (.int 0) k p,kp⟩]:=by
 match l with
|[⟨a,v,kp⟩]=>
  have h:(decide (a=some "default")&&decide (ky v=some (.int 0)))=true:=h;rw[Bool.and_eq_true] at h;obtain rfl:a=_:=of_decide_eq_true h.1;refine eY (tH (of_decide_eq_true h.2)) λk p bc=>?_;(clear h;(clear h;subst bc));exact⟨_,_,_,rfl⟩
|[]=>exact ff h
|_::_::_=>exact ff h
def yj(e:aq):Option aq:=(xF e).bind λy=>when (decide (y.1="max")&&Gi y.2.2) (one y.2.1)
theorem Kr{e a:aq}(h:yj e=some a):∃p' p k p'' kp,e=.Call (.Name "max" p') [a] [⟨some "default",.Constant (.int 0) k p'',kp⟩] p:=by
 obtain⟨⟨f,l,k⟩,h1,h2⟩:=bind_some h;refine aZ (tv h2) λh3 h4=>?_;rw[Bool.and_eq_true] at h3;replace h1:=Bb h1;obtain⟨p',p,rfl⟩:=h1;refine kt (NH h3.2) λq1 q2 q3 e1=>?_;have e3:f="max":=of_decide_eq_true h3.1;have e4:l=[a]:=pX h4;subst (e1) e3 e4;exact⟨_,_,_,_,_,rfl⟩
def uP(e:aq):Option (Str×aq×aq):=(uO e).bind λy=>when (jZ y.o&&(y.ap.endLine==y.p.line)) ((one y.args).map λa=>(y.m,y.o,a))
theorem Kt{e o a:aq}{m:Str}(h:uP e=some (m,o,a)):∃ap p,e=.Call (.Attribute o m ap) [a] [] p/\jZ o=true/\(ap.endLine==p.line)=true:=by
 obtain⟨⟨o',m',ap,p,args⟩,h1,h2⟩:=bind_some h;refine aZ (tv h2) λh3 h4=>?_;obtain⟨b,h5,h6⟩:=map_some h4;rw[Bool.and_eq_true] at h3;have e1:=BN h1;cases h6;have e4:args=[a]:=pX h5;clear h5 h4 h2 h h1;subst e4;exact⟨_,_,e1,h3.1,h3.2⟩
theorem cP{α:Type}{o:Option α}{f:α->Bool}(h:o.any f=true):∃x,o=some x/\f x=true:=by
 cases o with
|none=>exact ff h
|some x=>exact⟨x,rfl,h⟩
def um(o:Option aq)(d:Bool)(f:aq->Bool):Bool:=match o with|none=>d|some e=>f e
def isNew(e:aq):Bool:=(nq e).any λx=>decide (x.1=("Teller":Str))&&x.2.isEmpty
def twoArgs(es:EL)(l:List aq):Bool:=(rG es&&l.isEmpty)||(two l).any λq=>cY q.1&&cY q.2
mutual
noncomputable def bz(T:fD)(N:List Str):E->Kn->aq->Bool
|.none,_,e=>(ky e).any λc=>decide (c=.none)
|.bool b,_,e=>(ky e).any λc=>decide (c=.bool b)
|.int b,_,e=>(ky e).any λc=>decide (c=.int b)
|.str b,_,e=>(ky e).any λc=>decide (c=.str b)
|.aa i,_,e=>(nameOf e).any λx=>decide (N[i]?=some x)&&jM x
|.glob g,K,e=>(nameOf e).any λx=>decide (T.gN g=x)&&eT K x&&jM x
|.ax es,K,e=>(oV e).any λl=>jf T N es K l
|.ah es,K,e=>(yG e).any λl=>jf T N es K l
|.aD ks es,_,e=>(yi e).any λx=>x.1.isEmpty&&x.2.isEmpty&&ks.isEmpty&&rG es
|.aj op a b,K,e=>(yH e).any λx=>decide (x.1=op)&&bz T N a K x.2.1&&bz T N b K x.2.2
|.neg a,K,e=>(sH e).any λx=>decide (x.1=.USub)&&bz T N a K x.2
|.cmp op a b,K,e=>(vd e).any λx=>decide (x.1=op)&&bz T N a K x.2.1&&bz T N b K x.2.2&&!(behindInMarks op x.2.2)
|.lh _ _ _ _ _,_,_=>false
|.not a,K,e=>(sH e).any λx=>decide (x.1=.Not)&&bz T N a K x.2
|.and es,K,e=>(vBool e).any λx=>decide (x.1=.And)&&pZ T N es K x.2
|.or es,K,e=>(vBool e).any λx=>decide (x.1=.Or)&&pZ T N es K x.2
|.au a i,K,e=>(lu e).any λx=>bz T N a K x.1&&bz T N i K x.2
|.slc a lo hi,K,e=>(yI e).any λx=>bz T N a K x.1&&um x.2.1 (isNone lo) (λy=>bz T N lo K y)&&um x.2.2 (isNone hi) (λy=>bz T N hi K y)
|.call f es,K,e=>(nq e).any λx=>jf T N es K x.2&&decide (T.fN f=x.1)&&(T.eS f&&T.nt f)&&eT K x.1&&jM x.1&&uk x.2
|.cB f o es,K,e=>(uO e).any λy=>decide (T.fN f=y.m)&&(!T.eS f&&T.nt f)&&(jZ y.o||isNew y.o)&&(y.ap.endLine==y.p.line)&&twoArgs es y.args&&bz T N o K y.o&&jf T N es K y.args
|.new _,K,e=>isNew e&&eT K "Teller"
|.attr o x,K,e=>(oJ e).any λy=>decide (x=("many":Str))&&decide (y.2=("many":Str))&&(nameOf y.1).isSome&&bz T N o K y.1
|.len a,K,e=>(gF e).any λx=>blt K x.1 "len"&&cY x.2&&bz T N a K x.2
|.toInt a,K,e=>(gF e).any λx=>blt K x.1 "int"&&cY x.2&&bz T N a K x.2
|.toStr a,K,e=>(gF e).any λx=>blt K x.1 "str"&&cY x.2&&bz T N a K x.2
|.sum a,K,e=>(gF e).any λx=>blt K x.1 "sum"&&cY x.2&&bz T N a K x.2
|.list a,K,e=>(gF e).any λx=>blt K x.1 "list"&&cY x.2&&bz T N a K x.2
|.tuple a,K,e=>(gF e).any λx=>blt K x.1 "tuple"&&cY x.2&&bz T N a K x.2
|.dict a,K,e=>(gF e).any λx=>blt K x.1 "dict"&&cY x.2&&bz T N a K x.2
|.max2 a b,K,e=>(call2 e).any λx=>blt K x.1 "max"&&cY x.2.1&&cY x.2.2&&bz T N a K x.2.1&&bz T N b K x.2.2
|.g7 a,K,e=>(yj e).any λx=>blt K "max" "max"&&cY x&&bz T N a K x
|.cS t a,K,e=>(call2 e).any λx=>blt K x.1 "isinstance"&&(nameOf x.2.2).any (λy=>blt K y (Str.ofString t))&&decide (t∈fO)&&cY x.2.1&&bz T N a K x.2.1
|.join a b,K,e=>(uP e).any λx=>decide (x.1=("join":Str))&&cY x.2.2&&bz T N a K x.2.1&&bz T N b K x.2.2
|.get _ _ _,_,_=>false
|.comp elt v br src,K,e=>(qi e).any λx=>x.ifs.isEmpty&&bz T N src K x.iter&&jG x.iter&&ot N K x.scope x.x v br&&bz T N elt (f5 K x.scope.names) x.elt
|.f9 elt v br src t,K,e=>(qi e).any λx=>(one x.ifs).any (λte=>lx T N t (f5 K x.scope.names) te)&&bz T N src K x.iter&&jG x.iter&&ot N K x.scope x.x v br&&bz T N elt (f5 K x.scope.names) x.elt
|.fH elt v br src,K,e=>(qi e).any λx=>x.ifs.isEmpty&&(gF x.iter).any (λy=>blt K y.1 "range"&&cY y.2&&bz T N src K y.2)&&ot N K x.scope x.x v br&&bz T N elt (f5 K x.scope.names) x.elt
noncomputable def jf(T:fD)(N:List Str):EL->Kn->List aq->Bool
|.nil,_,l=>l.isEmpty
|.cons x r,K,l=>match l with|e::t=>cY e&&bz T N x K e&&jf T N r K t|[]=>false
noncomputable def pZ(T:fD)(N:List Str):EL->Kn->List aq->Bool
|.nil,_,l=>false
|.cons x r,K,l=>match r with
  |.nil=>(one l).any λe=>bz T N x K e
  |.cons y z=>match l with|e::t=>bz T N x K e&&pZ T N r K t|[]=>false
noncomputable def lx(T:fD)(N:List Str):E->Kn->aq->Bool
|.not a,K,e=>(sH e).any λx=>decide (x.1=.Not)&&lx T N a K x.2
|.and es,K,e=>(vBool e).any λx=>decide (x.1=.And)&&rH T N es K x.2
|.or es,K,e=>(vBool e).any λx=>decide (x.1=.Or)&&rH T N es K x.2
|.cmp op a b,K,e=>(vd e).any λx=>decide (x.1=op)&&bz T N a K x.2.1&&bz T N b K x.2.2&&!(behindInMarks op x.2.2)
|.aa i,_,e=>(nameOf e).any λx=>decide (N[i]?=some x)&&jM x
|.call f es,K,e=>(nq e).any λx=>jf T N es K x.2&&decide (T.fN f=x.1)&&(T.eS f&&T.nt f)&&eT K x.1&&jM x.1&&uk x.2
|.cS t a,K,e=>(call2 e).any λx=>blt K x.1 "isinstance"&&(nameOf x.2.2).any (λy=>blt K y (Str.ofString t))&&decide (t∈fO)&&cY x.2.1&&bz T N a K x.2.1
|.au a i,K,e=>(lu e).any λx=>bz T N a K x.1&&bz T N i K x.2
|.none,_,_=>false
|.bool _,_,_=>false
|.int _,_,_=>false
|.str _,_,_=>false
|.glob _,_,_=>false
|.ax _,_,_=>false
|.ah _,_,_=>false
|.aD _ _,_,_=>false
|.aj _ _ _,_,_=>false
|.neg _,_,_=>false
|.lh _ _ _ _ _,_,_=>false
|.slc _ _ _,_,_=>false
|.cB _ _ _,_,_=>false
|.new _,_,_=>false
|.attr _ _,_,_=>false
|.len _,_,_=>false
|.toInt _,_,_=>false
|.toStr _,_,_=>false
|.sum _,_,_=>false
|.g7 _,_,_=>false
|.max2 _ _,_,_=>false
|.list _,_,_=>false
|.tuple _,_,_=>false
|.dict _,_,_=>false
|.join _ _,_,_=>false
|.get _ _ _,_,_=>false
|.comp _ _ _ _,_,_=>false
|.f9 _ _ _ _ _,_,_=>false
|.fH _ _ _ _,_,_=>false
noncomputable def rH(T:fD)(N:List Str):EL->Kn->List aq->Bool
|.nil,_,l=>l.isEmpty
|.cons x r,K,l=>match l with|e::t=>lx T N x K e&&rH T N r K t|[]=>false
end
def SP:List Type:=[aq×aq,aq,aq×List Stmt×List Stmt,aq×List Stmt,aq×aq×List Stmt,Option aq,aq,List Stmt×ExceptHandler]
def SI(st:Stmt):(n:Nat)->lr SP n->Prop
|0=>λ(x:aq×aq)=>∃p,st=.Assign [x.1] x.2 p
|1=>λ(x:aq)=>∃p,st=.Expr x p
|2=>λ(x:aq×List Stmt×List Stmt)=>∃p,st=.If x.1 x.2.1 x.2.2 p
|3=>λ(x:aq×List Stmt)=>∃p,st=.While x.1 x.2 [] p
|4=>λ(x:aq×aq×List Stmt)=>∃p,st=.For x.1 x.2.1 x.2.2 [] p
|5=>λ(x:Option aq)=>∃p,st=.Return x p
|6=>λ(x:aq)=>∃p,st=.Raise (some x) none p
|7=>λ(x:List Stmt×ExceptHandler)=>∃p,st=.Try x.1 [x.2] [] [] p
|_=>λ_=>True
def oK(st:Stmt):Wf SP (SI st):=match st with
|.Assign [t] e _=>⟨0,(t,e),_,rfl⟩
|.Expr e _=>⟨1,e,_,rfl⟩
|.If c t e _=>⟨2,(c,t,e),_,rfl⟩
|.While c b [] _=>⟨3,(c,b),_,rfl⟩
|.For t iter b [] _=>⟨4,(t,iter,b),_,rfl⟩
|.Return e _=>⟨5,e,_,rfl⟩
|.Raise (some e) none _=>⟨6,e,_,rfl⟩
|.Try b [h] [] [] _=>⟨7,(b,h),_,rfl⟩
|_=>⟨8,(),trivial⟩
def nz(st:Stmt):Option (aq×aq):=sel (oK st) 0
def vf(st:Stmt):Option aq:=sel (oK st) 1
def yJ(st:Stmt):Option (aq×List Stmt×List Stmt):=sel (oK st) 2
def sI(st:Stmt):Option (aq×aq×List Stmt):=sel (oK st) 4
def vg(st:Stmt):Option (Option aq):=sel (oK st) 5
theorem Cr{st:Stmt}{x:aq×aq}(h:nz st=some x):∃p,st=.Assign [x.1] x.2 p:=eN h
theorem L8{st:Stmt}{x:aq}(h:vf st=some x):∃p,st=.Expr x p:=eN h
theorem L9{st:Stmt}{x:aq×List Stmt×List Stmt}(h:yJ st=some x):∃p,st=.If x.1 x.2.1 x.2.2 p:=eN h
theorem NI{st:Stmt}{x:aq×aq×List Stmt}(h:sI st=some x):∃p,st=.For x.1 x.2.1 x.2.2 [] p:=eN h
theorem Ma{st:Stmt}{x:Option aq}(h:vg st=some x):∃p,st=.Return x p:=eN h
def E9(st:Stmt):Option (List Stmt×ExceptHandler):=sel (oK st) 7
theorem Mb{st:Stmt}{x:List Stmt×ExceptHandler}(h:E9 st=some x):∃p,st=.Try x.1 [x.2] [] [] p:=eN h
def xG(st:Stmt):Option aq:=sel (oK st) 6
theorem Jf{st:Stmt}{x:aq}(h:xG st=some x):∃p,st=.Raise (some x) none p:=eN h
def NJ:Const->Bool
|.str _=>true
|_=>false
def Dd(e:aq):Bool:=(ky e).any NJ
def tgt(N:List Str)(K:Kn)(i:Nat)(t:aq):Bool:=(nameOf t).any λy=>decide (N[i]?=some y)&&eH K y
def tgts(N:List Str)(K:Kn):List Nat->List aq->Bool
|[],l=>l.isEmpty
|i::is,l=>match l with|t::l=>tgt N K i t&&tgts N K is l|[]=>false
mutual
noncomputable def nA(T:fD)(N:List Str)(K:Kn):S->Stmt->Bool
|.aK i x,st=>(nz st).any λy=>tgt N K i y.1&&bz T N x K y.2&&(jH y.2||pP x)
|.fh o i x,st=>(nz st).any λy=>(lu y.1).any (λz=>bz T N o K z.1&&bz T N i K z.2)&&bz T N x K y.2&&jH y.2
|.append o x,st=>(vf st).any λy=>(uP y).any λz=>decide (z.1=("append":Str))&&cY z.2.2&&bz T N o K z.2.1&&bz T N x K z.2.2
|.expr x,st=>(vf st).any λy=>bz T N x K y&&jH y
|.ite c t e,st=>(yJ st).any λy=>lx T N c K y.1&&fQ T N K t y.2.1&&fQ T N K e y.2.2
|.qo _ _,_=>false
|.kA i x b,st=>(sI st).any λy=>tgt N K i y.1&&bz T N x K y.2.1&&jG y.2.1&&fQ T N K b y.2.2
|.eP i x b,st=>(sI st).any λy=>tgt N K i y.1&&(gF y.2.1).any (λz=>blt K z.1 "range"&&cY z.2&&bz T N x K z.2)&&fQ T N K b y.2.2
|.ret x,st=>(vg st).any λy=>y.any λe=>bz T N x K e
|.qp,_=>false
|.hY is x,st=>(nz st).any λy=>(oV y.1).any (λl=>tgts N K is l)&&bz T N x K y.2&&((nameOf y.2).isSome||(lu y.2).isSome)
|.ji o x e,st=>(nz st).any λy=>(oJ y.1).any (λz=>decide (x=("many":Str))&&decide (z.2=("many":Str))&&bz T N o K z.1)&&bz T N e K y.2&&jH y.2
|.update _ _,_=>false
|.g8 i j a b bd,st=>(sI st).any λy=>(oV y.1).any (λl=>(two l).any λq=>tgt N K i q.1&&tgt N K j q.2)&&(call2 y.2.1).any (λz=>blt K z.1 "zip"&&cY z.2.1&&cY z.2.2&&bz T N a K z.2.1&&bz T N b K z.2.2)&&fQ T N K bd y.2.2
|.raise c _,st=>!decide (c=T.io 0)||(xG st).any λy=>(gF y).any λz=>blt K z.1 "TooGreat"&&Dd z.2
|.g9 _ _ _,_=>false
noncomputable def fQ(T:fD)(N:List Str)(K:Kn):SL->List Stmt->Bool
|.nil,l=>l.isEmpty
|.cons x r,l=>match l with|st::t=>nA T N K x st&&fQ T N K r t|[]=>false
end
end Qh
set_option tactic.hygienic false
namespace Qh
open PySem PyProof.Rows
section
variable{G:Gd}{n:Nat}{A:Around}{N:List Str}
structure dA(env:Env)(K:Kn):Prop where
 kind:env.scope.kind=.function
 names:env.scope.names=K
theorem dA.at{env:Env}{K:Kn}(Z:dA env K)(x:Str):env.kindOf x=K.lookup x:=by unfold Env.kindOf;(refine(Z.names).symm▸?_;with_reducible rfl)
theorem dA.eT{env:Env}{K:Kn}(Z:dA env K)(h:eT K x=true):env.kindOf x=some .globalImplicit:=by rw[Z.at];exact of_decide_eq_true h
theorem dA.eH{env:Env}{K:Kn}(Z:dA env K)(h:eH K x=true):env.kindOf x=some .local∨env.kindOf x=some .cell:=by
 rw[Z.at];unfold Qh.eH at h;simp only[Bool.or_eq_true,decide_eq_true_eq] at h;exact h
theorem wD(h:jM x=true):(x==("__debug__":Str))=false:=by
 unfold jM at h;simpa using h
theorem d9(h:cY e=true):starEach (e::l) env=(false,eval e env)::starEach l env:=by
 cases e<;>first|rfl|exact ff h
theorem xH(h:G.aC.nt f=true):G.P.eW (f+1)≠2:=λq=>by
 have h:(!decide (G.P.eW (f+1)=2))=true:=h;(replace h:=q▸h);exact ff h
theorem not_iff(h:(!b)=true):b=false:=by cases b with|false=>rfl|true=>exact ff h
theorem HY(h:tG r=true):∀l u p,r≠.Slice l u none p:=by
 rintro l u p rfl;exact ff h
theorem pQ{env:Env}{K:Kn}(Z:dA env K)(h:blt K x y=true):x=y/\env.kindOf x=some .globalImplicit:=by
 unfold blt at h;simp only[Bool.and_eq_true,decide_eq_true_eq] at h;exact⟨h.1,Z.eT h.2⟩
theorem AE{env:Env}{K:Kn}{scope:Scope}(Z:dA env K):(relabel scope env).names=f5 K scope.names:=by
 unfold relabel f5;apply List.map_congr_left;rintro ⟨n,k⟩ _;have h1:(env.scope.kind==ScopeKind.function)=true:=by(refine(Z.kind).symm▸?_);rfl
 simp only[h1,Bool.and_true,Z.at]
theorem AF{env:Env}{K:Kn}(Z:dA env K){scope:Scope}(h:ot N K scope x v br=true):g0 N env scope x v br:=by
 unfold ot at h;simp only[Bool.and_eq_true,decide_eq_true_eq,List.all_eq_true,Bool.or_eq_true] at h;refine bB λXx aI=>?_;obtain⟨⟨⟨⟨⟨⟨h1,h2⟩,h3⟩,h4⟩,h5⟩,h6⟩,h7⟩:=h;refine aI ?_;refine⟨h1,h2,λy hy hl=>?_,h4,h5,λy hy hf=>?_,λi hi y hy=>?_⟩
 ·rcases h3 y hy with q|q
  ·exact absurd hl q
  ·exact q
 ·rcases h6 y hy with q|q
  ·exact absurd hf q
  ·rw[Z.at];exact q
 ·have:=h7 i hi;replace this:=hy▸this;simp only[decide_eq_true_eq] at this
  (refine(AE Z).symm▸?_);exact this
theorem dA.inner{env:Env}{K:Kn}(Z:dA env K){scope:Scope}(W:g0 N env scope x v br)(cl:List (Str×Addr))(C:Addr):dA (compEnvC scope cl C env) (f5 K scope.names):=
 ⟨W.kind,AE Z⟩
theorem p0(h:t∈fO):(Str.ofString t∈n8)/\bootBuiltins (Str.ofString t)=some (.type t)/\(Str.ofString t==("__debug__":Str))=false:=by
 have:t="int"∨t="bool"∨t="str"∨t="tuple"∨t="list":=by simpa[fO] using h
 rcases this with rfl|rfl|rfl|rfl|rfl
 ·exact⟨by decide+kernel,boot_int,by decide+kernel⟩
 ·exact⟨by decide+kernel,boot_bool,by decide+kernel⟩
 ·exact⟨by decide+kernel,boot_str,by decide+kernel⟩
 ·exact⟨by decide+kernel,boot_tuple,by decide+kernel⟩
 ·exact⟨by decide+kernel,boot_list,by decide+kernel⟩
theorem Ku:bP (G.ctx n) (.cS t a) L σ=M.bind (ak (G.ctx n) (.cS t a) L) dU σ:=by
 show M.bind (ak (G.ctx n) a L) (λx=>cS t x) σ=M.bind (M.bind (ak (G.ctx n) a L) λx=>M.bind (cS t x) λb=>M.pure (.bool b)) dU σ;unfold M.bind;cases ak (G.ctx n) a L σ with
|ok v af=>simp only[];cases cS t v af<;>rfl
|aF c af=>rfl
|bad=>rfl
theorem BR(hz:isNew e=true):∃p' p,e=.Call (.Name "Teller" p') [] [] p:=by
 obtain⟨⟨x,l⟩,hx,h⟩:=cP hz;clear hz;replace hx:=tI hx;obtain⟨p',p,rfl⟩:=hx;rw[Bool.and_eq_true] at h;have h1:x=_:=of_decide_eq_true h.1;have h2:l=_:=List.isEmpty_iff.mp h.2;subst h1 h2;exact⟨p',p,rfl⟩
theorem BS(h:(jZ o||isNew o)=true):attributeBase o name env whole=whole:=by
 rcases Bool.or_eq_true_iff.mp h with h|h
 ·exact wj h
 ·refine eY (BR h) λp' p bc=>?_;clear h;(clear h;subst bc);exact Je
theorem AG(h:twoArgs es args=true):(args=[]/\es=.nil)∨∃fV eG,args=[fV,eG]/\starEach [fV,eG] env=(false,eval fV env)::starEach [eG] env/\starEach [eG] env=[(false,eval eG env)]:=by
 rcases Bool.or_eq_true_iff.mp h with h|h
 ·rw[Bool.and_eq_true] at h;refine .inl ⟨List.isEmpty_iff.mp h.2,?_⟩;cases es with
  |nil=>rfl
  |cons e r=>cases h.1
 ·refine bB λXx aI=>?_;obtain⟨⟨a,b⟩,hx,h⟩:=cP h;refine aI ?_;rw[Bool.and_eq_true] at h;exact .inr ⟨a,b,xD hx,d9 h.1,d9 h.2⟩
section
variable{P:aq->Prop}{e:aq}{K:Kn}
theorem aS(h:(a&&b)=true):a=true/\b=true:=Bool.and_eq_true_iff.mp h
theorem rW(h:(ky e).any (λc'=>decide (c'=c))=true)(k:∀k p,P (.Constant c k p)):P e:=by
 replace h:=cP h;obtain⟨x,hx,h⟩:=h;refine eY (tH hx) λq p bc=>?_;have hq:x=c:=of_decide_eq_true h;rw[bc,hq];exact k q p
theorem yK{N:List Str}{i:Nat}(h:(nameOf e).any (λx=>decide (N[i]?=some x)&&jM x)=true)(k:∀x p,N[i]?=some x->(x==("__debug__":Str))=false->P (.Name x p)):P e:=by
 replace h:=cP h;obtain⟨x,hx,h⟩:=h;replace hx:=mu hx;obtain⟨p,rfl⟩:=hx;exact k x p (of_decide_eq_true (aS h).1) (wD (aS h).2)
theorem Pn(h:(nameOf e).any (λx=>decide (y=x)&&eT K x&&jM x)=true)(k:∀x p,y=x->eT K x=true->(x==("__debug__":Str))=false->P (.Name x p)):P e:=by
 replace h:=cP h;obtain⟨x,hx,h⟩:=h;replace hx:=mu hx;obtain⟨p,rfl⟩:=hx;exact k x p (of_decide_eq_true (aS (aS h).1).1) (aS (aS h).1).2 (wD (aS h).2)
theorem vh(h:(oV e).any f=true)(k:∀l q p,f l=true->P (.Tuple l q p)):P e:=by
 replace h:=cP h;obtain⟨x,hx,h⟩:=h;replace hx:=L0 hx;obtain⟨q,p,rfl⟩:=hx;exact k x q p h
theorem yL(h:(yG e).any f=true)(k:∀l p,f l=true->P (.List l p)):P e:=by
 replace h:=cP h;obtain⟨x,hx,h⟩:=h;replace hx:=L3 hx;obtain⟨p,rfl⟩:=hx;exact k x p h
theorem Fa{op:Operator}{f g:aq->Bool}(h:(yH e).any (λx=>decide (x.1=op)&&f x.2.1&&g x.2.2)=true)(k:∀l r p,f l=true->g r=true->P (.BinOp l op r p)):P e:=by
 replace h:=cP h;obtain⟨⟨o,l,r⟩,hx,h⟩:=h;replace hx:=L4 hx;obtain⟨p,rfl⟩:=hx;have e1:o=op:=of_decide_eq_true (aS (aS h).1).1;subst e1;exact k l r p (aS (aS h).1).2 (aS h).2
theorem zo{op:UnaryOp}{f:aq->Bool}(h:(sH e).any (λx=>decide (x.1=op)&&f x.2)=true)(k:∀l p,f l=true->P (.UnaryOp op l p)):P e:=by
 replace h:=cP h;obtain⟨⟨o,l⟩,hx,h⟩:=h;replace hx:=NG hx;obtain⟨p,rfl⟩:=hx;have e1:o=op:=of_decide_eq_true (aS h).1;subst e1;exact k l p (aS h).2
theorem yM{op:CmpOp}{f g:aq->Bool}(h:(vd e).any (λx=>decide (x.1=op)&&f x.2.1&&g x.2.2&&!(behindInMarks op x.2.2))=true)(k:∀l r p,f l=true->g r=true->behindInMarks op r=false->P (.Compare l [op] [r] p)):P e:=by
 replace h:=cP h;obtain⟨⟨o,l,r⟩,hx,h⟩:=h;replace hx:=L5 hx;obtain⟨p,rfl⟩:=hx;have h1:=aS (aS h).1;have e1:o=op:=of_decide_eq_true (aS h1.1).1;subst e1;exact k l r p (aS h1.1).2 h1.2 (Bool.not_inj (aS h).2)
theorem uQ{op:BoolOp}{f:List aq->Bool}(h:(vBool e).any (λx=>decide (x.1=op)&&f x.2)=true)(k:∀l p,f l=true->P (.BoolOp op l p)):P e:=by
 replace h:=cP h;obtain⟨⟨o,l⟩,hx,h⟩:=h;replace hx:=Ko hx;obtain⟨p,rfl⟩:=hx;have e1:o=op:=of_decide_eq_true (aS h).1;subst e1;exact k l p (aS h).2
theorem vi{f g:aq->Bool}(h:(lu e).any (λx=>f x.1&&g x.2)=true)(k:∀l r p,f l=true->g r=true->(∀a b q,r≠.Slice a b none q)->P (.Subscript l r p)):P e:=by
 obtain⟨⟨l,r⟩,hx,h'⟩:=cP h;refine aM (Cq hx) λp e1 hs=>?_;refine e1.symm▸?_;exact k l r p (aS h').1 (aS h').2 (HY hs)
theorem QE{f:aq->Bool}{g g':Option aq->Bool}(h:(yI e).any (λx=>f x.1&&g x.2.1&&g' x.2.2)=true)(k:∀l lo hi p' p,f l=true->g lo=true->g' hi=true->P (.Subscript l (.Slice lo hi none p') p)):P e:=by
 replace h:=cP h;obtain⟨⟨l,lo,hi⟩,hx,h⟩:=h;replace hx:=L6 hx;obtain⟨p',p,rfl⟩:=hx;exact k l lo hi p' p (aS (aS h).1).1 (aS (aS h).1).2 (aS h).2
theorem uR{f:List aq->Bool}{y:Str}(h:(nq e).any (λx=>f x.2&&decide (y=x.1)&&b&&eT K x.1&&jM x.1&&uk x.2)=true)(k:∀x a l p' p,f (a::l)=true->y=x->b=true->eT K x=true->(x==("__debug__":Str))=false->cY a=true->P (.Call (.Name x p') (a::l) [] p)):P e:=by
 replace h:=cP h;obtain⟨⟨x,args⟩,hx,h⟩:=h;replace hx:=tI hx;obtain⟨p',p,rfl⟩:=hx;refine aZ (aS h) λh1 h6=>?_;refine aZ (aS h1) λh2 h5=>?_;refine aZ (aS h2) λh3 h4=>?_;refine aZ (aS h3) λh7 h8=>?_;refine aZ (aS h7) λh9 cf=>?_;clear h7 h3 h2 h1 h;cases args with
|nil=>exact ff h6
|cons a l=>exact k x a l p' p h9 (of_decide_eq_true cf) h8 h4 (wD h5) h6
theorem k1{env:Env}(Z:dA env K){y:Str}{f:aq->Bool}(h:(gF e).any (λx=>blt K x.1 y&&cY x.2&&f x.2)=true)(k:∀a p' p,env.kindOf y=some .globalImplicit->cY a=true->f a=true->P (.Call (.Name y p') [a] [] p)):P e:=by
 replace h:=cP h;obtain⟨⟨x,a⟩,hx,h⟩:=h;replace hx:=BP hx;obtain⟨p',p,rfl⟩:=hx;refine aZ (pQ Z (aS (aS h).1).1) λe1 hk=>?_;have e1:x=y:=e1;subst e1;exact k a p' p hk (aS (aS h).1).2 (aS h).2
theorem Fb{env:Env}(Z:dA env K){t:String}{f:aq->Bool}(h:(call2 e).any (λx=>blt K x.1 "isinstance"&&(nameOf x.2.2).any (λy=>blt K y (Str.ofString t))&&decide (t∈fO)&&cY x.2.1&&f x.2.1)=true)(k:∀a q p' p,env.kindOf "isinstance"=some .globalImplicit->env.kindOf (Str.ofString t)=some .globalImplicit->t∈fO->cY a=true->f a=true->P (.Call (.Name "isinstance" p') [a,.Name (Str.ofString t) q] [] p)):P e:=by
 replace h:=cP h;obtain⟨⟨x,a,b⟩,hx,h⟩:=h;replace hx:=BQ hx;obtain⟨p',p,rfl⟩:=hx;obtain⟨h1,h5⟩:=aS h;obtain⟨h2,h4⟩:=aS h1;obtain⟨h0,h3⟩:=aS h2;obtain⟨h7,h8⟩:=aS h0;obtain⟨e1,hk⟩:=pQ Z h7;subst (e1);refine aM (cP h8) λy hn h8=>?_;obtain⟨q,e2⟩:=mu hn;subst (e2);refine aZ (pQ Z h8) λe3 hk'=>?_;clear h8;subst e3;exact k a q p' p hk hk' (of_decide_eq_true h3) h4 h5
theorem rI{N:List Str}{v:Nat}{br:List Nat}{env:Env}(Z:dA env K){fi:List aq->Scope->Bool}{f:aq->Bool}{g:Scope->aq->Bool}(h:(qi e).any (λx=>fi x.ifs x.scope&&f x.iter&&jG x.iter&&ot N K x.scope x.x v br&&g x.scope x.elt)=true)(k:∀elt x px iter ifs scope p,fi ifs scope=true->f iter=true->jG iter=true->g0 N env scope x v br->g scope elt=true->P (.ListComp elt [⟨.Name x px,iter,ifs,0⟩] scope p)):P e:=by
 replace h:=cP h;refine bB λXx aI=>?_;obtain⟨⟨elt,x,iter,ifs,scope⟩,hx,h⟩:=h;replace hx:=BO hx;obtain⟨px,p,rfl⟩:=hx;obtain⟨h1,h5⟩:=aS h;obtain⟨h2,h4⟩:=aS h1;obtain⟨h0,h3⟩:=aS h2;refine aZ (aS h0) λh7 h8=>?_;refine aI ?_;exact k elt x px iter ifs scope p h7 h8 h3 (AF Z h4) h5
theorem De{N:List Str}{v:Nat}{br:List Nat}{env:Env}(Z:dA env K){f:aq->Bool}{g:Scope->aq->Bool}(h:(qi e).any (λx=>x.ifs.isEmpty&&(gF x.iter).any (λy=>blt K y.1 "range"&&cY y.2&&f y.2)&&ot N K x.scope x.x v br&&g x.scope x.elt)=true)(k:∀elt x px a scope p' p'' p,f a=true->env.kindOf "range"=some .globalImplicit->cY a=true->g0 N env scope x v br->g scope elt=true->P (.ListComp elt [⟨.Name x px,.Call (.Name "range" p') [a] [] p'',[],0⟩] scope p)):P e:=by
 replace h:=cP h;obtain⟨⟨elt,x,iter,ifs,scope⟩,hx,h⟩:=h;replace hx:=BO hx;obtain⟨px,p,rfl⟩:=hx;obtain⟨h1,h5⟩:=aS h;obtain⟨h2,h4⟩:=aS h1;obtain⟨h0,h3⟩:=aS h2;have e0:ifs=[]:=List.isEmpty_iff.mp h0;clear h0 h2 h1 h;subst e0;exact k1 (P:=λit=>P (.ListComp elt [⟨.Name x px,it,[],0⟩] scope p)) Z h3 λa p' p'' hk hn hf=>k elt x px a scope p' p'' p hf hk hn (AF Z h4) h5
end
theorem Bc(h:isNone x=true):x=.none:=by cases x<;>first|rfl|exact ff h
section
variable{P:aq->Prop}{e:aq}{K:Kn}
theorem Ed{env:Env}(Z:dA env K){y:Str}{f g:aq->Bool}(h:(call2 e).any (λx=>blt K x.1 y&&cY x.2.1&&cY x.2.2&&f x.2.1&&g x.2.2)=true)(k:∀a b p' p,env.kindOf y=some .globalImplicit->cY a=true->cY b=true->f a=true->g b=true->P (.Call (.Name y p') [a,b] [] p)):P e:=by
 replace h:=cP h;refine bB λXx aI=>?_;obtain⟨⟨x,a,b⟩,hx,h⟩:=h;replace hx:=BQ hx;obtain⟨p',p,rfl⟩:=hx;obtain⟨h1,h5⟩:=aS h;obtain⟨h2,h4⟩:=aS h1;obtain⟨h0,h3⟩:=aS h2;obtain⟨h7,h8⟩:=aS h0;obtain⟨e1,hk⟩:=pQ Z h7;have e1:x=y:=e1;clear h7 h0 h2 h1 h;subst e1;refine aI ?_;exact k a b p' p hk h8 h3 h4 h5
theorem Ee{env:Env}(Z:dA env K){f:aq->Bool}(h:(yj e).any (λx=>blt K "max" "max"&&cY x&&f x)=true)(k:∀a q p'' kp p' p,env.kindOf "max"=some .globalImplicit->cY a=true->f a=true->P (.Call (.Name "max" p') [a] [⟨some "default",.Constant (.int 0) q p'',kp⟩] p)):P e:=by
 replace h:=cP h;obtain⟨a,hx,h⟩:=h;refine OZ (Kr hx) λp' p q p'' kp Rx=>?_;clear hx;(clear Ee;subst Rx);exact k a q p'' kp p' p (pQ Z (aS (aS h).1).1).2 (aS (aS h).1).2 (aS h).2
theorem xI{m:Str}{f g:aq->Bool}(h:(uP e).any (λx=>decide (x.1=m)&&cY x.2.2&&f x.2.1&&g x.2.2)=true)(k:∀o a ap p,jZ o=true->(ap.endLine==p.line)=true->cY a=true->f o=true->g a=true->P (.Call (.Attribute o m ap) [a] [] p)):P e:=by
 refine bB λXx aI=>?_;obtain⟨⟨x,o,a⟩,hx,h'⟩:=cP h;refine cU (Kt hx) λap p bc hb hl=>?_;clear hx;(clear h xI;subst bc);refine aZ (aS h') λh1 h5=>?_;refine aZ (aS h1) λh2 h4=>?_;refine aZ (aS h2) λh0 h3=>?_;have e2:x=m:=of_decide_eq_true h0;subst e2;refine aI ?_;exact k o a ap p hb hl h3 h4 h5
theorem Ef{es:EL}{m:Str}{b:Bool}{f:aq->Bool}{g:List aq->Bool}(h:(uO e).any (λy=>decide (m=y.m)&&b&&(jZ y.o||isNew y.o)&&(y.ap.endLine==y.p.line)&&twoArgs es y.args&&f y.o&&g y.args)=true)(k:∀o x l ap p,m=x->b=true->(jZ o||isNew o)=true->(ap.endLine==p.line)=true->twoArgs es l=true->f o=true->g l=true->P (.Call (.Attribute o x ap) l [] p)):P e:=by
 replace h:=cP h;refine bB λXx aI=>?_;obtain⟨⟨o,x,ap,p,l⟩,hx,h⟩:=h;refine aZ (aS h) λh1 h6=>?_;refine aZ (aS h1) λh2 h5=>?_;refine aZ (aS h2) λh3 h4=>?_;refine aZ (aS h3) λh7 h8=>?_;refine aZ (aS h7) λh9 cf=>?_;refine aZ (aS h9) λh11 h12=>?_;refine aI ?_;refine(BN hx).symm▸?_;exact k o x l ap p (of_decide_eq_true h11) h12 cf h8 h4 h5 h6
theorem Po{x:Str}{f:aq->Bool}(h:(oJ e).any (λy=>decide (x=("many":Str))&&decide (y.2=("many":Str))&&(nameOf y.1).isSome&&f y.1)=true)(k:∀y q p,x="many"->f (.Name y q)=true->P (.Attribute (.Name y q) "many" p)):P e:=by
 replace h:=cP h;obtain⟨⟨o,z⟩,hx,h⟩:=h;replace hx:=w3 hx;obtain⟨p,rfl⟩:=hx;refine aZ (aS h) λh1 h4=>?_;refine aZ (aS h1) λh2 h3=>?_;refine aZ (aS h2) λh5 h6=>?_;obtain⟨y,hy⟩:=Option.isSome_iff_exists.mp h3;obtain⟨q,e1⟩:=mu hy;have e2:z=_:=of_decide_eq_true h6;subst (e1) e2;exact k y q p (of_decide_eq_true h5) h4
end
variable(bb:cG G)(F:iK G)(Y:Ao A n)(bO:ki G n)
include bb F Y bO
mutual
theorem bY:∀(x:E){K:Kn}{e:aq}{env:Env},dA env K->bz G.aC N x K e=true->bg G n A N env x e
|.none,K,e,env,Z,hz=>rW hz λ_ _=>Lr
|.bool b,K,e,env,Z,hz=>rW hz λ_ _=>Ls
|.int b,K,e,env,Z,hz=>rW hz λ_ _=>C1
|.str b,K,e,env,Z,hz=>rW hz λ_ _=>Nl
|.aa i,K,e,env,Z,hz=>yK hz λ_ _ h1 h2=>xu h1 h2
|.glob g,K,e,env,Z,hz=>Pn hz λ_ _ h1 h2 h3=>Lu bb h1 (Z.eT h2) h3
|.ax es,K,e,env,Z,hz=>vh hz λ_ _ _ h=>Nm (iY es Z h)
|.ah es,K,e,env,Z,hz=>yL hz λ_ _ h=>C2 (iY es Z h)
|.aj op a b,K,e,env,Z,hz=>Fa hz λ_ _ _ h1 h2=>Np (bY a Z h1) (bY b Z h2)
|.neg a,K,e,env,Z,hz=>zo hz λ_ _ h=>Nq (bY a Z h)
|.cmp op a b,K,e,env,Z,hz=>yM hz λ_ _ _ h1 h2 h3=>Nr bb Y (bY a Z h1) (bY b Z h2) h3
|.not a,K,e,env,Z,hz=>zo hz λ_ _ h=>Nt (bY a Z h)
|.and es,K,e,env,Z,hz=>uQ hz λ_ _ h=>Nx (wF es Z h)
|.or es,K,e,env,Z,hz=>uQ hz λ_ _ h=>O6 (wF es Z h)
|.au a i,K,e,env,Z,hz=>vi hz λ_ _ _ h1 h2 h3=>xw bb (bY a Z h1) (bY i Z h2) h3
|.slc a lo hi,K,e,env,Z,hz=>QE (P:=bg G n A N env (.slc a lo hi)) (f:=bz G.aC N a K) (g:=λo=>um o (isNone lo) λy=>bz G.aC N lo K y) (g':=λo=>um o (isNone hi) λy=>bz G.aC N hi K y) hz λ_ lower upper _ _ h1 h2 h3=>
   Nu (bY a Z h1) (match lower,h2 with|none,h2=>Bc h2|some _,h2=>bY lo Z h2) (match upper,h3 with|none,h3=>Bc h3|some _,h3=>bY hi Z h3)
|.call f es,K,e,env,Z,hz=>uR hz λ_ _ _ _ _ h1 h2 h3 h4 h5 h6=>Cg bb F Y bO (xH (aS h3).2) (iY es Z h1) h2 (aS h3).1 (Z.eT h4) h5 (d9 h6)
|.len a,K,e,env,Z,hz=>k1 Z hz λ_ _ _ h1 h2 h3=>Nv bb (bY a Z h3) h1 (d9 h2)
|.toInt a,K,e,env,Z,hz=>k1 Z hz λ_ _ _ h1 h2 h3=>J4 bb (bY a Z h3) h1 (d9 h2)
|.toStr a,K,e,env,Z,hz=>k1 Z hz λ_ _ _ h1 h2 h3=>J5 bb (bY a Z h3) h1 (d9 h2)
|.sum a,K,e,env,Z,hz=>k1 Z hz λ_ _ _ h1 h2 h3=>Nw bb Y (bY a Z h3) h1 (d9 h2)
|.list a,K,e,env,Z,hz=>k1 Z hz λ_ _ _ h1 h2 h3=>LA bb (bY a Z h3) h1 (d9 h2)
|.tuple a,K,e,env,Z,hz=>k1 Z hz λ_ _ _ h1 h2 h3=>J6 bb (bY a Z h3) h1 (d9 h2)
|.dict a,K,e,env,Z,hz=>k1 Z hz λ_ _ _ h1 h2 h3=>LB bb (bY a Z h3) h1 (d9 h2)
|.max2 a b,K,e,env,Z,hz=>Ed Z hz λ_ _ _ _ h1 h2 h3 h4 h5=>LC bb Y (bY a Z h4) (bY b Z h5) h1 (d9 h2) (d9 h3)
|.g7 a,K,e,env,Z,hz=>Ee Z hz λ_ _ _ _ _ _ h1 h2 h3=>LD bb Y (bY a Z h3) h1 (d9 h2)
|.cS t a,K,e,env,Z,hz=>Fb Z hz λ_ _ _ _ h1 h2 h3 h4 h5=>A4 bb (bY a Z h5) h1 h2 (p0 h3).1 (p0 h3).2.1 (p0 h3).2.2 (d9 h4)
|.join a b,K,e,env,Z,hz=>xI hz λ_ _ _ _ hb hl h1 h2 h3=>LF (bY a Z h2) (bY b Z h3) hb hl (d9 h1)
|.comp elt v br src,K,e,env,Z,hz=>rI Z (fi:=λl _=>l.isEmpty) (f:=bz G.aC N src K) (g:=λs y=>bz G.aC N elt (f5 K s.names) y) hz λ_ _ _ _ ifs _ _ h0 h1 h2 W h4=>by
   have e0:ifs=[]:=List.isEmpty_iff.mp h0;clear h0;subst e0;exact BI Y (bY src Z h1) W h2 (λ_ _=>rfl) λcl C L it _=>qP (bY elt (Z.inner W cl C) h4)
|.f9 elt v br src t,K,e,env,Z,hz=>rI Z (fi:=λl s=>(one l).any λte=>lx G.aC N t (f5 K s.names) te) (f:=bz G.aC N src K) (g:=λs y=>bz G.aC N elt (f5 K s.names) y) hz λ_ _ _ _ ifs _ _ h0 h1 h2 W h4=>by
   refine aM (cP h0) λte ho h5=>?_;have e0:ifs=[te]:=pX ho;clear ho h0;subst e0;exact BI Y (bY src Z h1) W h2 (λ_ _=>rfl) λcl C L it _=>A5 (bY elt (Z.inner W cl C) h4) (pR t (Z.inner W cl C) h5)
|.fH elt v br src,K,e,env,Z,hz=>De Z (f:=bz G.aC N src K) (g:=λs y=>bz G.aC N elt (f5 K s.names) y) hz λ_ _ _ _ _ _ _ _ h1 h2 h3 W h4=>Ke bb Y (bY src Z h1) W h2 (d9 h3) λcl C _=>bY elt (Z.inner W cl C) h4
|.aD ks es,K,e,env,Z,hz=>by
  have hy:(yi e).any (λx=>x.1.isEmpty&&x.2.isEmpty&&ks.isEmpty&&rG es)=true:=hz;obtain⟨⟨k',v'⟩,hx,h⟩:=cP hy;replace hx:=Kq hx;obtain⟨p,rfl⟩:=hx
  ·simp only[Bool.and_eq_true,List.isEmpty_iff] at h;obtain⟨⟨⟨h1,h2⟩,rfl⟩,h4⟩:=h;obtain rfl:k'=[]:=h1;obtain rfl:v'=[]:=h2;clear hy hz;cases es with
   |nil=>exact LG
   |cons a b=>exact ff h4
|.get _ _ _,K,e,env,Z,h=>absurd (show false=true from h) cE
|.lh _ _ _ _ _,K,e,env,Z,h=>absurd (show false=true from h) cE
|.cB f o es,K,e,env,Z,hz=>Ef hz λ_ _ _ _ _ h0 h1 h2 h3 h4 h5 h6=>LX bb F Y bO (xH (aS h1).2) (bY o Z h5) (iY es Z h6) h0 (not_iff (aS h1).1) (BS h2) h3 (AG h4)
|.new c,K,e,env,Z,hz=>by
  have hy:(isNew e&&eT K "Teller")=true:=hz;rw[Bool.and_eq_true] at hy;refine eY (BR hy.1) λp' p bc=>?_;clear hz;subst bc;exact NF bb Y (Z.eT hy.2)
|.attr o x,K,e,env,Z,hz=>Po hz λ_ _ _ h1 h2=>by(clear hz;subst h1);exact LY bb (bY o Z h2)
theorem iY:∀(x:EL){K:Kn}{l:List aq}{env:Env},dA env K->jf G.aC N x K l=true->gp G n A N env x l
|.nil,K,l,env,Z,hz=>by
  have hy:l.isEmpty=true:=hz;rw[List.isEmpty_iff] at hy;(clear hz;subst hy);exact C3
|.cons x r,K,l,env,Z,hz=>by
  cases l with
  |nil=>exact absurd (show false=true from hz) cE
  |cons e t=>
   have h:(cY e&&bz G.aC N x K e&&jf G.aC N r K t)=true:=hz;simp only[Bool.and_eq_true] at h;exact Lw (bY x Z h.1.2) (iY r Z h.2) (d9 h.1.1)
theorem wF:∀(x:EL){K:Kn}{l:List aq}{env:Env},dA env K->pZ G.aC N x K l=true->qb G n A N env op x l
|.nil,K,l,env,Z,h=>absurd (show false=true from h) cE
|.cons x .nil,K,l,env,Z,hz=>by
  have hy:(one l).any (λe=>bz G.aC N x K e)=true:=hz;refine aM (cP hy) λe ho h=>?_;refine(pX ho).symm▸?_;exact Iv (bY x Z h)
|.cons x (.cons y z),K,l,env,Z,hz=>by
  cases l with
  |nil=>exact absurd (show false=true from hz) cE
  |cons e t=>
   have h':(bz G.aC N x K e&&pZ G.aC N (.cons y z) K t)=true:=hz;rw[Bool.and_eq_true] at h';clear hz;cases t with
   |nil=>
    have h3:pZ G.aC N (.cons y z) K []=true:=h'.2;clear h';cases z with
    |nil=>exact absurd (show false=true from h3) cE
    |cons u w=>exact absurd (show false=true from h3) cE
   |cons e' t=>exact Iw (bY x Z h'.1) (wF (.cons y z) Z h'.2)
theorem pR:∀(x:E){K:Kn}{e:aq}{env:Env},dA env K->lx G.aC N x K e=true->hZ G n A N env x e
|.not a,K,e,env,Z,hz=>zo hz λ_ _ h=>Lz (pR a Z h)
|.and es,K,e,env,Z,hz=>uQ hz λ_ _ h=>LH (wG es Z h)
|.or es,K,e,env,Z,hz=>uQ hz λ_ _ h=>Ny (wG es Z h)
|.cmp op a b,K,e,env,Z,hz=>yM hz λ_ _ _ h1 h2 h3=>Ly bb Y (bY a Z h1) (bY b Z h2) h3
|.aa i,K,e,env,Z,hz=>yK hz λ_ _ h1 h2=>tT (xu h1 h2) (λ_ _=>rfl) rfl
|.call f es,K,e,env,Z,hz=>uR hz λ_ _ _ _ _ h1 h2 h3 h4 h5 h6=>tT (Cg bb F Y bO (xH (aS h3).2) (iY es Z h1) h2 (aS h3).1 (Z.eT h4) h5 (d9 h6)) (λ_ _=>rfl) rfl
|.cS t a,K,e,env,Z,hz=>Fb Z hz λ_ _ _ _ h1 h2 h3 h4 h5=>tT (A4 bb (bY a Z h5) h1 h2 (p0 h3).1 (p0 h3).2.1 (p0 h3).2.2 (d9 h4)) (λ_ _=>Ku) rfl
|.au a i,K,e,env,Z,hz=>vi hz λ_ _ _ h1 h2 h3=>tT (xw bb (bY a Z h1) (bY i Z h2) h3) (λ_ _=>rfl) rfl
|.none,K,e,env,Z,h=>absurd (show false=true from h) cE
|.bool _,K,e,env,Z,h=>absurd (show false=true from h) cE
|.int _,K,e,env,Z,h=>absurd (show false=true from h) cE
|.str _,K,e,env,Z,h=>absurd (show false=true from h) cE
|.glob _,K,e,env,Z,h=>absurd (show false=true from h) cE
|.ax _,K,e,env,Z,h=>absurd (show false=true from h) cE
|.ah _,K,e,env,Z,h=>absurd (show false=true from h) cE
|.aD _ _,K,e,env,Z,h=>absurd (show false=true from h) cE
|.aj _ _ _,K,e,env,Z,h=>absurd (show false=true from h) cE
|.neg _,K,e,env,Z,h=>absurd (show false=true from h) cE
|.lh _ _ _ _ _,K,e,env,Z,h=>absurd (show false=true from h) cE
|.slc _ _ _,K,e,env,Z,h=>absurd (show false=true from h) cE
|.cB _ _ _,K,e,env,Z,h=>absurd (show false=true from h) cE
|.new _,K,e,env,Z,h=>absurd (show false=true from h) cE
|.attr _ _,K,e,env,Z,h=>absurd (show false=true from h) cE
|.len _,K,e,env,Z,h=>absurd (show false=true from h) cE
|.toInt _,K,e,env,Z,h=>absurd (show false=true from h) cE
|.toStr _,K,e,env,Z,h=>absurd (show false=true from h) cE
|.sum _,K,e,env,Z,h=>absurd (show false=true from h) cE
|.g7 _,K,e,env,Z,h=>absurd (show false=true from h) cE
|.max2 _ _,K,e,env,Z,h=>absurd (show false=true from h) cE
|.list _,K,e,env,Z,h=>absurd (show false=true from h) cE
|.tuple _,K,e,env,Z,h=>absurd (show false=true from h) cE
|.dict _,K,e,env,Z,h=>absurd (show false=true from h) cE
|.join _ _,K,e,env,Z,h=>absurd (show false=true from h) cE
|.get _ _ _,K,e,env,Z,h=>absurd (show false=true from h) cE
|.comp _ _ _ _,K,e,env,Z,h=>absurd (show false=true from h) cE
|.f9 _ _ _ _ _,K,e,env,Z,h=>absurd (show false=true from h) cE
|.fH _ _ _ _,K,e,env,Z,h=>absurd (show false=true from h) cE
theorem wG:∀(x:EL){K:Kn}{l:List aq}{env:Env},dA env K->rH G.aC N x K l=true->qc G n A N env op x l
|.nil,K,l,env,Z,hz=>by
  have hy:l.isEmpty=true:=hz;rw[List.isEmpty_iff] at hy;(clear hz;subst hy);exact I5
|.cons x r,K,l,env,Z,hz=>by
  cases l with
  |nil=>exact absurd (show false=true from hz) cE
  |cons e t=>
   have h:(lx G.aC N x K e&&rH G.aC N r K t)=true:=hz;simp only[Bool.and_eq_true] at h;exact Iy (pR x Z h.1) (wG r Z h.2)
end
end
end Qh
namespace Qh
open PySem PyProof.Rows
section
variable{G:Gd}{n:Nat}{A:Around}{N:List Str}
theorem pn(h:jH e=true)(t:Option aq)(l:Nat)(env:Env):swapsWith e t l env=pure false:=by
 cases e<;>first|rfl|exact ff h
theorem vX{env:Env}{K:Kn}(Z:dA env K):interactive env=false:=by unfold interactive;(refine(Z.kind).symm▸?_);rfl
theorem wk:∃b:Bool,swapsWith (.ListComp elt gens scope p) (some (.Name y py)) l env=pure b:=⟨_,rfl⟩
variable(bb:cG G)(F:iK G)(Y:Ao A n)(bO:ki G n)
include bb F Y bO
theorem Jg{i:Nat}{x:E}{K:Kn}{y:Str}(Z:dA env K)(hz:bz G.aC N x K e=true)(hy:N[i]?=some y)(hl:eH K y=true)(hc:jH e=true∨pP x=true):dh G n A N env (.aK i x) (.Assign [.Name y py] e p):=by
 have hE:=bY bb F Y bO x Z hz
 by_cases hn:jH e=true
 ·exact uf hE hy (Z.eH hl) (pn hn ..)
 ·have hx:pP x=true:=hc.resolve_left hn;clear hc;cases x with
  |comp elt v br src=>
   refine rI (P:=λe=>bg G n A N env (.comp elt v br src) e->dh G n A N env (.aK i (.comp elt v br src)) (.Assign [.Name y py] e p)) Z (fi:=λl _=>l.isEmpty) (f:=bz G.aC N src K) (g:=λs y=>bz G.aC N elt (f5 K s.names) y) hz (λ_ _ _ _ ifs _ _ h0 h1 h2 W h4 hE=>?_) hE;have e0:ifs=[]:=List.isEmpty_iff.mp h0;clear h0;subst e0;obtain⟨b,hb⟩:=wk;cases b with
   |false=>exact uf hE hy (Z.eH hl) hb
   |true=>exact Ai Y (bY bb F Y bO src Z h1) W h2 (λ_ _=>rfl) (λcl C L it _=>qP (bY bb F Y bO elt (Z.inner W cl C) h4)) hy (Z.eH hl) hb
  |f9 elt v br src t=>
   refine rI (P:=λe=>bg G n A N env (.f9 elt v br src t) e->dh G n A N env (.aK i (.f9 elt v br src t)) (.Assign [.Name y py] e p)) Z (fi:=λl s=>(one l).any λte=>lx G.aC N t (f5 K s.names) te) (f:=bz G.aC N src K) (g:=λs y=>bz G.aC N elt (f5 K s.names) y) hz (λ_ _ _ _ ifs _ _ h0 h1 h2 W h4 hE=>?_) hE;refine aM (cP h0) λte ho h5=>?_;have e0:ifs=[te]:=pX ho;clear ho h0;subst e0;obtain⟨b,hb⟩:=wk;cases b with
   |false=>exact uf hE hy (Z.eH hl) hb
   |true=>exact Ai Y (bY bb F Y bO src Z h1) W h2 (λ_ _=>rfl) (λcl C L it _=>A5 (bY bb F Y bO elt (Z.inner W cl C) h4) (pR bb F Y bO t (Z.inner W cl C) h5)) hy (Z.eH hl) hb
  |fH elt v br src=>
   refine De (P:=λe=>bg G n A N env (.fH elt v br src) e->dh G n A N env (.aK i (.fH elt v br src)) (.Assign [.Name y py] e p)) Z (f:=bz G.aC N src K) (g:=λs y=>bz G.aC N elt (f5 K s.names) y) hz (λ_ _ _ _ _ _ _ _ h1 h2 h3 W h4 hE=>?_) hE;obtain⟨b,hb⟩:=wk;cases b with
   |false=>exact uf hE hy (Z.eH hl) hb
   |true=>exact H8 bb Y (bY bb F Y bO src Z h1) W h2 (d9 h3) (λcl C _=>bY bb F Y bO elt (Z.inner W cl C) h4) hy (Z.eH hl) hb
  |_=>exact ff hx
omit bb F Y bO in
theorem Bd{N:List Str}{K:Kn}(h:tgt N K i t=true):∃y p,t=.Name y p/\N[i]?=some y/\eH K y=true:=by
 refine aM (cP h) λy hn h'=>?_;replace hn:=mu hn;obtain⟨p,rfl⟩:=hn;rw[Bool.and_eq_true] at h';exact⟨y,p,rfl,of_decide_eq_true h'.1,h'.2⟩
omit bb F Y bO in
theorem Cs{N:List Str}{K:Kn}(Z:dA env K):∀{is:List Nat}{l:List aq},tgts N K is l=true->iQ N env is l
|[],l,h=>by
  have h:l.isEmpty=true:=h
  (refine(List.isEmpty_iff.mp h).symm▸?_);exact .nil
|i::is,[],h=>absurd (show false=true from h) cE
|i::is,t::l,h=>by
  have h:(tgt N K i t&&tgts N K is l)=true:=h;rw[Bool.and_eq_true] at h;refine cU (Bd h.1) λy p e hy hl=>?_;refine e.symm▸?_;exact .cons hy (Z.eH hl) (Cs Z h.2)
end
theorem cG.re(K:cG G)(R:List Addr):cG (G.re R):=⟨K.nolimit,K.DT,K.EY,K.script,K.short,let ⟨mg,N,mN,h1,h2,T⟩:=K.tell;⟨mg,N,mN,h1,h2,⟨T.cls,T.q1,T.q2,T.q3,T.q4,T.meths,T.F5⟩⟩⟩
section
variable{P:Stmt->Prop}{st:Stmt}
theorem nB{P:aq->Prop}{N:List Str}{K:Kn}(h:tgt N K i t=true)(k:∀y p,N[i]?=some y->eH K y=true->P (.Name y p)):P t:=by
 refine cU (Bd h) λy p bc h1 h2=>?_;clear h;subst bc;exact k y p h1 h2
theorem qu{f:aq->aq->Bool}(h:(nz st).any (λy=>f y.1 y.2)=true)(k:∀t e p,f t e=true->P (.Assign [t] e p)):P st:=by
 replace h:=cP h;obtain⟨⟨t,e⟩,hv,h⟩:=h;replace hv:=Cr hv;obtain⟨p,rfl⟩:=hv;exact k t e p h
theorem yN(h:(vf st).any f=true)(k:∀e p,f e=true->P (.Expr e p)):P st:=by
 replace h:=cP h;obtain⟨e,hv,h⟩:=h;replace hv:=L8 hv;obtain⟨p,rfl⟩:=hv;exact k e p h
theorem Fc{f:aq->Bool}{g g':List Stmt->Bool}(h:(yJ st).any (λy=>f y.1&&g y.2.1&&g' y.2.2)=true)(k:∀c t e p,f c=true->g t=true->g' e=true->P (.If c t e p)):P st:=by
 replace h:=cP h;obtain⟨⟨c,t,e⟩,hv,h⟩:=h;replace hv:=L9 hv;obtain⟨p,rfl⟩:=hv;exact k c t e p (aS (aS h).1).1 (aS (aS h).1).2 (aS h).2
theorem vE{f:aq->aq->Bool}{g:List Stmt->Bool}(h:(sI st).any (λy=>f y.1 y.2.1&&g y.2.2)=true)(k:∀t it b p,f t it=true->g b=true->P (.For t it b [] p)):P st:=by
 replace h:=cP h;obtain⟨⟨t,it,b⟩,hv,h⟩:=h;replace hv:=NI hv;obtain⟨p,rfl⟩:=hv;exact k t it b p (aS h).1 (aS h).2
theorem yO(h:(vg st).any (λy=>y.any f)=true)(k:∀e p,f e=true->P (.Return (some e) p)):P st:=by
 refine aM (cP h) λy hv h'=>?_;refine b6 (Ma hv) λp e0=>?_;refine aM (cP h') λe e1 h2=>?_;refine e0.symm▸?_;refine e1.symm▸?_;exact k e p h2
theorem QF{P:List aq->Prop}{f g:aq->Bool}(h:(two l).any (λq=>f q.1&&g q.2)=true)(k:∀a b,f a=true->g b=true->P [a,b]):P l:=by
 replace h:=cP h;obtain⟨⟨a,b⟩,hv,h⟩:=h;refine(xD hv).symm▸?_;exact k a b (aS h).1 (aS h).2
end
theorem NK{G:Gd}{n:Nat}{A:Around}{N:List Str}{env:Env}{is:List Nat}(Y:Ao A n)(hE:bg G n A N env x e)(T:iQ N env is l)(h:(nameOf e).isSome=true∨(lu e).isSome=true):dh G n A N env (.hY is x) (.Assign [.Tuple l k p'] e p):=by
 rcases h with h|h
 ·obtain⟨y,hy⟩:=Option.isSome_iff_exists.mp h;replace hy:=mu hy;obtain⟨py,rfl⟩:=hy;exact C8 Y hE T rfl rfl
 ·obtain⟨⟨y1,y2⟩,hy⟩:=Option.isSome_iff_exists.mp h;refine aM (Cq hy) λpy e2 _=>?_;clear hy;subst (e2);exact C8 Y hE T rfl rfl
theorem NL{P:aq->Prop}{e:aq}{x:Str}{f:aq->Bool}(h:(oJ e).any (λy=>decide (x=("many":Str))&&decide (y.2=("many":Str))&&f y.1)=true)(k:∀o p,x="many"->f o=true->P (.Attribute o "many" p)):P e:=by
 replace h:=cP h;obtain⟨⟨o,z⟩,hx,h⟩:=h;replace hx:=w3 hx;obtain⟨p,rfl⟩:=hx;refine aZ (aS h) λh1 h4=>?_;refine aZ (aS h1) λh5 h6=>?_;have e2:z=_:=of_decide_eq_true h6;clear h6 h1 h;subst e2;exact k o p (of_decide_eq_true h5) h4
section
variable{G:Gd}{n:Nat}{A:Around}{N:List Str}
variable(bb:cG G)(F:iK G)(Y:Ao A n)(bO:∀R,ki (G.re R) n)
include bb F Y bO
mutual
theorem tV{K:Kn}{env:Env}(Z:dA env K):∀(x:S){st:Stmt},nA G.aC N K x st=true->∀R,dh (G.re R) n A N env x st
|.aK i x,st,hz,R=>qu (P:=dh (G.re R) n A N env (.aK i x)) (f:=λt e=>tgt N K i t&&bz G.aC N x K e&&(jH e||pP x)) hz λt e p h=>
   nB (P:=λt=>dh (G.re R) n A N env (.aK i x) (.Assign [t] e p)) (aS (aS h).1).1 λ_ _ hy hl=>Jg (G:=G.re R) (bb.re R) F Y (bO R) Z (aS (aS h).1).2 hy hl (Bool.or_eq_true_iff.mp (aS h).2)
|.fh o i x,st,hz,R=>qu (P:=dh (G.re R) n A N env (.fh o i x)) (f:=λt e=>(lu t).any (λz:aq×aq=>bz G.aC N o K z.1&&bz G.aC N i K z.2)&&bz G.aC N x K e&&jH e) hz λt e p h=>
   vi (P:=λt=>dh (G.re R) n A N env (.fh o i x) (.Assign [t] e p)) (f:=bz G.aC N o K) (g:=bz G.aC N i K) (aS (aS h).1).1 λ_ _ _ h1 h2 _=>LU (bY (bb.re R) F Y (bO R) x Z (aS (aS h).1).2) (bY (bb.re R) F Y (bO R) o Z h1) (bY (bb.re R) F Y (bO R) i Z h2) (pn (aS h).2 ..)
|.append o x,st,hz,R=>yN hz λe p h=>
   xI (P:=λe=>dh (G.re R) n A N env (.append o x) (.Expr e p)) (m:="append") (f:=bz G.aC N o K) h λ_ _ _ _ hb hl h1 h2 h3=>Jc (bY (bb.re R) F Y (bO R) o Z h2) (bY (bb.re R) F Y (bO R) x Z h3) hb hl (vX Z) (d9 h1)
|.expr x,st,hz,R=>yN hz λe p h=>LN (bY (bb.re R) F Y (bO R) x Z (aS h).1) (vX Z) (pn (aS h).2 ..)
|.ite c t e,st,hz,R=>Fc hz λ_ _ _ _ h1 h2 h3=>ND (pR (bb.re R) F Y (bO R) c Z h1) (kN Z t h2 R) (kN Z e h3 R)
|.qo _ _,st,h,_=>absurd (show false=true from h) cE
|.kA i x b,st,hz,R=>vE (P:=dh (G.re R) n A N env (.kA i x b)) (f:=λt it=>tgt N K i t&&bz G.aC N x K it&&jG it) (g:=fQ G.aC N K b) hz λt it bd p h hb=>
   nB (P:=λt=>dh (G.re R) n A N env (.kA i x b) (.For t it bd [] p)) (aS (aS h).1).1 λ_ _ hy hl=>LR Y (bY (G:=G.re R) (bb.re R) F Y (bO R) x Z (aS (aS h).1).2) (kN Z b hb R) (aS h).2 hy (Z.eH hl)
|.eP i x b,st,hz,R=>vE (P:=dh (G.re R) n A N env (.eP i x b)) (f:=λt it=>tgt N K i t&&(gF it).any (λz:Str×aq=>blt K z.1 "range"&&cY z.2&&bz G.aC N x K z.2)) (g:=fQ G.aC N K b) hz λt it bd p h hb=>
   nB (P:=λt=>dh (G.re R) n A N env (.eP i x b) (.For t it bd [] p)) (aS h).1 λy py hy hl=>k1 (P:=λit=>dh (G.re R) n A N env (.eP i x b) (.For (.Name y py) it bd [] p)) Z (y:="range") (aS h).2 λ_ _ _ hk hn hx=>LS (bb.re R) Y (bY (bb.re R) F Y (bO R) x Z hx) (kN Z b hb R) hy (Z.eH hl) hk (d9 hn)
|.ret x,st,hz,R=>yO hz λ_ _ h=>C7 (bY (bb.re R) F Y (bO R) x Z h)
|.qp,st,h,_=>absurd (show false=true from h) cE
|.hY is x,st,hz,R=>qu (P:=dh (G.re R) n A N env (.hY is x)) (f:=λt e=>(oV t).any (λl=>tgts N K is l)&&bz G.aC N x K e&&((nameOf e).isSome||(lu e).isSome)) hz λt e p h=>
   vh (P:=λt=>dh (G.re R) n A N env (.hY is x) (.Assign [t] e p)) (f:=λl=>tgts N K is l) (aS (aS h).1).1 λl _ _ hl=>NK Y (bY (G:=G.re R) (bb.re R) F Y (bO R) x Z (aS (aS h).1).2) (Cs Z hl) (Bool.or_eq_true_iff.mp (aS h).2)
|.ji o x iR,st,hz,R=>qu (P:=dh (G.re R) n A N env (.ji o x iR)) (f:=λt e=>(oJ t).any (λz:aq×Str=>decide (x=("many":Str))&&decide (z.2=("many":Str))&&bz G.aC N o K z.1)&&bz G.aC N iR K e&&jH e) hz λt e p h=>
   NL (P:=λt=>dh (G.re R) n A N env (.ji o x iR) (.Assign [t] e p)) (f:=bz G.aC N o K) (aS (aS h).1).1 λ_ _ h1 h2=>by(clear hz;subst h1);exact LZ (bb.re R) (bY (G:=G.re R) (bb.re R) F Y (bO R) iR Z (aS (aS h).1).2) (bY (G:=G.re R) (bb.re R) F Y (bO R) o Z h2) (pn (aS h).2 ..)
|.update _ _,st,h,_=>absurd (show false=true from h) cE
|.g8 i j a b bd,st,hz,R=>vE (P:=dh (G.re R) n A N env (.g8 i j a b bd)) (f:=λt it=>(oV t).any (λl=>(two l).any λq:aq×aq=>tgt N K i q.1&&tgt N K j q.2)&&(call2 it).any (λz:Str×aq×aq=>blt K z.1 "zip"&&cY z.2.1&&cY z.2.2&&bz G.aC N a K z.2.1&&bz G.aC N b K z.2.2)) (g:=fQ G.aC N K bd) hz λt it bd' p h hb=>
   vh (P:=λt=>dh (G.re R) n A N env (.g8 i j a b bd) (.For t it bd' [] p)) (f:=λl=>(two l).any λq:aq×aq=>tgt N K i q.1&&tgt N K j q.2) (aS h).1 λl q pt hl=>QF (P:=λl=>dh (G.re R) n A N env (.g8 i j a b bd) (.For (.Tuple l q pt) it bd' [] p)) hl λt1 t2 g1 g2=>
   nB (P:=λt1=>dh (G.re R) n A N env (.g8 i j a b bd) (.For (.Tuple [t1,t2] q pt) it bd' [] p)) g1 λy1 p1 hy1 hl1=>nB (P:=λt2=>dh (G.re R) n A N env (.g8 i j a b bd) (.For (.Tuple [.Name y1 p1,t2] q pt) it bd' [] p)) g2 λy2 p2 Ry hl2=>
   Ed (P:=λit=>dh (G.re R) n A N env (.g8 i j a b bd) (.For (.Tuple [.Name y1 p1,.Name y2 p2] q pt) it bd' [] p)) Z (y:="zip") (f:=bz G.aC N a K) (aS h).2 λ_ _ _ _ hk n1 n2 e1 e2=>
   LW (bb.re R) Y (bY (bb.re R) F Y (bO R) a Z e1) (bY (bb.re R) F Y (bO R) b Z e2) (λR'=>kN Z bd hb R') (.cons hy1 (Z.eH hl1) (.cons Ry (Z.eH hl2) .nil)) hk (d9 n1) (d9 n2)
|.raise _ _,st,hz,_=>Kj
|.g9 _ _ _,st,h,_=>absurd (show false=true from h) cE
theorem kN{K:Kn}(Z:dA env K):∀(x:SL){l:List Stmt},fQ G.aC N K x l=true->∀R,gL (G.re R) n A N env x l
|.nil,l,hz,R=>by
  have hq:l.isEmpty=true:=hz;rw[List.isEmpty_iff] at hq;(clear hz;subst hq);exact xc
|.cons x r,l,hz,R=>by
  cases l with
  |nil=>exact absurd (show false=true from hz) cE
  |cons st t=>
   obtain⟨h1,h2⟩:=aS (show(nA G.aC N K x st&&fQ G.aC N K r t)=true from hz);exact BJ (tV Z x h1 R) (kN Z r h2 R)
end
end
end Qh
namespace Qh
open PySem PySem.W PyProof.Rows
section
variable{t:Nat}
theorem bF.fu{α:Type}{xs:List α}{k:Int}:bF t (fu xs k):=.ite .da .fail
theorem bF.index{C:Ctx}{a i:V}:bF t (index C a i):=by
 cases a<;>first|exact .fail|(cases i<;>first|exact .fail|exact .fu|exact .bind .fu λ_=>.pure|exact .bind .bI λ_=>.fu|exact .bind .cW λo=>(by cases o<;>first|exact .fail|exact .da))
theorem bF.ku{α:Type}{xs:List α}{lo hi:V}:bF t (ku xs lo hi):=by
 cases lo<;>first|exact .fail|(cases hi<;>first|exact .fail|exact .ite .pure .fail)
theorem bF.slice{a lo hi:V}:bF t (slice a lo hi):=by
 cases a<;>first|exact .fail|exact .bind .ku λ_=>.ite .pure .fail|exact .bind .bI λ_=>.bind .ku λ_=>.ite .dc .fail
theorem bF.lenOf{C:Ctx}{a:V}:bF t (lenOf C a):=by
 cases a<;>first|exact .fail|exact .pure|exact .ite .pure .fail|exact .bind .bI λ_=>.ite .pure .fail
theorem bF.p8{a:V}:bF t (p8 a):=by cases a<;>first|exact .fail|exact .ite .dc .fail
theorem bF.ng{a:V}:bF t (ng a):=by
 cases a<;>first|exact .fail|exact .bind .cW λo=>(by cases o<;>first|exact .fail|exact .ite .dc .fail)
theorem bF.iM{i:Nat}{o:O}:bF t (iM i o):=λ_ _ e=>by exact qA e
theorem bF.iB{o i e:V}:bF t (iB o i e):=by
 cases o<;>first|exact .fail|(cases i<;>first|exact .fail|exact .bind .bI λ_=>.ite .iM .fail|exact .bind .cW λo=>(by cases o<;>first|exact .fail|exact .ite .iM .fail))
theorem bF.dN{s:Src}{k:Nat}:bF t (dN s k):=by cases s<;>first|exact .pure|exact .bind .bI λ_=>.pure
theorem bF.dk{s:Src}{f:V->M (Option V)}(h:∀v,bF t (f v)):∀n k,bF t (dk s f n k)
|0,_=>.fail
|n+1,k=>.bind .dN λx=>match x with
  |none=>.pure
  |some v=>.bind (h v) λ_=>.bind (bF.dk h n (k+1)) λ_=>.pure
end
section
variable(q:Nat->Bool)(t:Nat)
mutual
noncomputable def dw:E->Bool
|.none=>true
|.bool _=>true
|.int _=>true
|.str _=>true
|.aa _=>true
|.glob _=>true
|.new _=>true
|.ax es=>iF es
|.ah es=>iF es
|.aD _ es=>iF es
|.aj _ a b=>dw a&&dw b
|.cmp _ a b=>dw a&&dw b
|.au a b=>dw a&&dw b
|.slc a b c=>dw a&&dw b&&dw c
|.not a=>dw a
|.and es=>iF es
|.or es=>iF es
|.call f es=>q f&&iF es
|.cB f o es=>q f&&dw o&&iF es
|.attr o _=>dw o
|.len a=>dw a
|.toInt a=>dw a
|.toStr a=>dw a
|.sum a=>dw a
|.g7 a=>dw a
|.list a=>dw a
|.dict a=>dw a
|.comp a _ _ b=>dw a&&dw b
|_=>false
noncomputable def iF:EL->Bool
|.nil=>true
|.cons e r=>dw e&&iF r
end
mutual
noncomputable def uq:S->Bool
|.aK _ e=>dw q e
|.hY _ e=>dw q e
|.fh a b c=>dw q a&&dw q b&&dw q c
|.ji a _ c=>dw q a&&dw q c
|.expr e=>dw q e
|.ite c a b=>dw q c&&m3 a&&m3 b
|.ret e=>dw q e
|.qp=>true
|.raise c _=>!decide (c=t)
|_=>false
noncomputable def m3:SL->Bool
|.nil=>true
|.cons s r=>uq s&&m3 r
end
end
theorem qf{P:Prop}(h:false=true):P:=absurd h cE
theorem qa{a b:Bool}(h:(a&&b)=true):a=true/\b=true:=Bool.and_eq_true_iff.mp h
section
variable{q:Nat->Bool}{t:Nat}{C:Ctx}(hC:∀f vs,q f=true->bF t (C.call f vs))
include hC
mutual
theorem dj:∀(x:E),dw q x=true->∀L,bF t (ak C x L)
|.none,_,_=>.pure
|.bool _,_,_=>.pure
|.int _,_,_=>.pure
|.str _,_,_=>.pure
|.aa _,_,_=>.da
|.glob _,_,_=>.da
|.new _,_,_=>.bind .dc λd=>(by cases d<;>first|exact .fail|exact .dc)
|.ax es,h,L=>.bind (n9 es h L) λ_=>.ite .pure .fail
|.ah es,h,L=>.bind (n9 es h L) λ_=>.ite .dc .fail
|.aD _ es,h,L=>.bind (n9 es h L) λ_=>.ite .dc .fail
|.aj _ a b,h,L=>.bind (dj a (qa h).1 L) λ_=>.bind (dj b (qa h).2 L) λ_=>.binop
|.cmp _ a b,h,L=>.bind (dj a (qa h).1 L) λ_=>.bind (dj b (qa h).2 L) λ_=>.bind .dH λ_=>.pure
|.au a b,h,L=>.bind (dj a (qa h).1 L) λ_=>.bind (dj b (qa h).2 L) λ_=>.index
|.slc a b c,h,L=>.bind (dj a (qa (qa h).1).1 L) λ_=>.bind (dj b (qa (qa h).1).2 L) λ_=>.bind (dj c (qa h).2 L) λ_=>.slice
|.not a,h,L=>.bind (dj a h L) λ_=>.bind .dU λ_=>.pure
|.and es,h,L=>Be es h L
|.or es,h,L=>BT es h L
|.call f es,h,L=>.bind (n9 es (qa h).2 L) λvs=>hC f vs (qa h).1
|.cB f o es,h,L=>.bind (dj o (qa (qa h).1).2 L) λx=>.bind .iq λ_=>.bind (n9 es (qa h).2 L) λvs=>hC f _ (qa (qa h).1).1
|.attr o _,h,L=>.bind (dj o h L) λ_=>.bind .iq λ_=>.pure
|.len a,h,L=>.bind (dj a h L) λ_=>.lenOf
|.toInt a,h,L=>.bind (dj a h L) λ_=>.bind .dU λ_=>.pure
|.toStr a,h,L=>.bind (dj a h L) λ_=>.bind .dz λ_=>.ite .pure .fail
|.sum a,h,L=>.bind (dj a h L) λ_=>.bind .bI λ_=>.bind .da λ_=>.pure
|.g7 a,h,L=>.bind (dj a h L) λ_=>.bind .bI λ_=>.bind .da λ_=>.pure
|.list a,h,L=>.bind (dj a h L) λ_=>.p8
|.dict a,h,L=>.bind (dj a h L) λ_=>.ng
|.comp a v br b,h,L=>.bind (dj b (qa h).2 L) λ_=>.bind .srcOf λ_=>.bind .eX λ_=>.ite (.bind (.dk (λit=>.bind (dj a (qa h).1 _) λ_=>.pure) _ _) λ_=>.dc) .fail
|.neg _,h,_=>qf h
|.lh _ _ _ _ _,h,_=>qf h
|.max2 _ _,h,_=>qf h
|.cS _ _,h,_=>qf h
|.tuple _,h,_=>qf h
|.join _ _,h,_=>qf h
|.get _ _ _,h,_=>qf h
|.f9 _ _ _ _ _,h,_=>qf h
|.fH _ _ _ _,h,_=>qf h
theorem n9:∀(x:EL),iF q x=true->∀L,bF t (cZ C x L)
|.nil,_,_=>.pure
|.cons e r,h,L=>.bind (dj e (qa h).1 L) λ_=>.bind (n9 r (qa h).2 L) λ_=>.pure
theorem Be:∀(x:EL),iF q x=true->∀L,bF t (nh C x L)
|.nil,_,_=>.fail
|.cons e .nil,h,L=>.bind (dj e (qa h).1 L) λ_=>.bind .dU λ_=>.pure
|.cons e (.cons y r),h,L=>.bind (dj e (qa h).1 L) λ_=>.bind .dU λ_=>.ite (Be (.cons y r) (qa h).2 L) .pure
theorem BT:∀(x:EL),iF q x=true->∀L,bF t (r4 C x L)
|.nil,_,_=>.fail
|.cons e .nil,h,L=>.bind (dj e (qa h).1 L) λ_=>.bind .dU λ_=>.pure
|.cons e (.cons y r),h,L=>.bind (dj e (qa h).1 L) λ_=>.bind .dU λ_=>.ite .pure (BT (.cons y r) (qa h).2 L)
theorem rA:∀(x:E),dw q x=true->∀L,bF t (bP C x L)
|.not a,h,L=>.bind (rA a h L) λ_=>.pure
|.and es,h,L=>Bf es h L
|.or es,h,L=>Bg es h L
|.cmp _ a b,h,L=>.bind (dj a (qa h).1 L) λ_=>.bind (dj b (qa h).2 L) λ_=>.dH
|.bool _,_,_=>.pure
|.aa _,_,_=>.bind .da λ_=>.dU
|.call f es,h,L=>.bind (.bind (n9 es (qa h).2 L) λvs=>hC f vs (qa h).1) λ_=>.dU
|.au a b,h,L=>.bind (.bind (dj a (qa h).1 L) λ_=>.bind (dj b (qa h).2 L) λ_=>.index) λ_=>.dU
|.cS _ _,h,_=>qf h
|.lh _ _ _ _ _,h,_=>qf h
|.none,_,_=>.fail
|.int _,_,_=>.fail
|.str _,_,_=>.fail
|.glob _,_,_=>.fail
|.ax _,_,_=>.fail
|.ah _,_,_=>.fail
|.aD _ _,_,_=>.fail
|.aj _ _ _,_,_=>.fail
|.neg _,_,_=>.fail
|.slc _ _ _,_,_=>.fail
|.cB _ _ _,_,_=>.fail
|.new _,_,_=>.fail
|.attr _ _,_,_=>.fail
|.len _,_,_=>.fail
|.toInt _,_,_=>.fail
|.toStr _,_,_=>.fail
|.sum _,_,_=>.fail
|.g7 _,_,_=>.fail
|.max2 _ _,_,_=>.fail
|.list _,_,_=>.fail
|.tuple _,_,_=>.fail
|.dict _,_,_=>.fail
|.join _ _,_,_=>.fail
|.get _ _ _,_,_=>.fail
|.comp _ _ _ _,_,_=>.fail
|.f9 _ _ _ _ _,_,_=>.fail
|.fH _ _ _ _,_,_=>.fail
theorem Bf:∀(x:EL),iF q x=true->∀L,bF t (jI C x L)
|.nil,_,_=>.pure
|.cons e r,h,L=>.bind (rA e (qa h).1 L) λ_=>.ite (Bf r (qa h).2 L) .pure
theorem Bg:∀(x:EL),iF q x=true->∀L,bF t (jJ C x L)
|.nil,_,_=>.pure
|.cons e r,h,L=>.bind (rA e (qa h).1 L) λ_=>.ite .pure (Bg r (qa h).2 L)
end
def eO{α:Type}(t:Nat)(m:Qh.N α):Prop:=∀L σ L' af,m L σ≠.aF t L' af
omit hC in
theorem eO.lift{α β:Type}{m:aQ->M α}{f:α->Qh.N β}(h:∀L,bF t (m L))(h2:∀a,eO t (f a)):eO t (Qh.N.bind (Qh.N.lift m) f):=λL σ L' af e=>by
 rcases pD e with ⟨_,z⟩|⟨a,ay,_,z⟩
 ·exact h L _ _ z
 ·exact h2 a _ _ _ _ z
omit hC in
theorem eO.bind{α β:Type}{m:Qh.N α}{f:α->Qh.N β}(h:eO t m)(h2:∀a,eO t (f a)):eO t (Qh.N.bind m f):=λL σ L' af e=>by
 rcases tr e with z|⟨a,et,ay,_,z⟩
 ·exact h _ _ _ _ z
 ·exact h2 a _ _ _ _ z
omit hC in
theorem eO.pure{α:Type}{a:α}:eO t (Qh.N.pure a):=λ_ _ _ _ e=>by exact iS e
omit hC in
theorem eO.fail{α:Type}:eO t (Qh.N.fail:Qh.N α):=λ_ _ _ _ e=>by exact sB e
omit hC in
theorem eO.put{i:Nat}{v:V}:eO t (Qh.N.put i v):=λ_ _ _ _ e=>by exact iS e
omit hC in
theorem eO.fK:∀{is:List Nat}{vs:List V},eO t (Qh.N.fK is vs)
|[],[]=>.pure
|i::is,v::vs=>.bind .put λ_=>eO.fK
|[],_::_=>.fail
|_::_,[]=>.fail
mutual
theorem xe:∀(x:S),uq q t x=true->eO t (cF C x)
|.aK _ e,h=>.lift (dj hC e h) λ_=>.bind .put λ_=>.pure
|.hY is e,h=>.lift (dj hC e h) λv=>(by cases v<;>first|exact .fail|exact .bind .fK λ_=>.pure|exact .lift (λ_=>.bI) λ_=>.bind .fK λ_=>.pure)
|.fh a b c,h=>.lift (dj hC c (qa h).2) λ_=>.lift (dj hC a (qa (qa h).1).1) λ_=>.lift (dj hC b (qa (qa h).1).2) λ_=>.lift (λ_=>.iB) λ_=>.pure
|.ji a _ c,h=>.lift (dj hC c (qa h).2) λ_=>.lift (dj hC a (qa h).1) λ_=>.lift (λ_=>.bind .iq λ_=>.bind .dz λ_=>.iM) λ_=>.pure
|.expr e,h=>.lift (dj hC e h) λ_=>.pure
|.ite c a b,h=>.lift (rA hC c (qa (qa h).1).1) λv=>(by cases v<;>first|exact tJ b (qa h).2|exact tJ a (qa (qa h).1).2)
|.ret e,h=>.lift (dj hC e h) λ_=>.pure
|.qp,h=>.pure
|.raise c _,h=>λL σ L' af e=>by
  have h:(!decide (c=t))=true:=h;refine vp e λaL cR eqs=>?_;(clear xe hC;subst aL);subst cR;subst eqs;simp at h
|.append _ _,h=>qf h
|.update _ _,h=>qf h
|.qo _ _,h=>qf h
|.kA _ _ _,h=>qf h
|.eP _ _ _,h=>qf h
|.g8 _ _ _ _ _,h=>qf h
|.g9 _ _ _,h=>qf h
theorem tJ:∀(x:SL),m3 q t x=true->eO t (aW C x)
|.nil,_=>.pure
|.cons s r,h=>.bind (xe s (qa h).1) λf=>(by cases f<;>first|exact tJ r (qa h).2|exact .pure)
end
end
theorem Bh{P:Prog}{sc:List Int}{q:Nat->Bool}{t:Nat}(h:∀f fn,P.fns f=some fn->q f=true->m3 q t fn.body=true):∀n f vs,q f=true->bF t (av P sc n f vs)
|0,f,vs,_=>.fail
|n+1,f,vs,hq=>by
  cases hf:P.fns f with
  |none=>simp only[av,hf];exact .fail
  |some fn=>
   simp only[av,hf];refine .ite (λσ af e=>?_) .fail;have e:bW (aW _ fn.body _ σ)=.aF t af:=e;have c:=tJ (C:=⟨sc,P.consts,av P sc n,P.eW,P.oE⟩) (Bh h n) fn.body (h f fn hf hq) (vs.map some++List.replicate (fn.slots-fn.arity) none) σ;generalize aW ⟨sc,P.consts,av P sc n,P.eW,P.oE⟩ fn.body (vs.map some++List.replicate (fn.slots-fn.arity) none) σ=r at e c;cases r with
   |ok f L σ=>(clear c;cases f)<;>(first|exact qA e|exact kF e|cases e)
   |aF c' L' cO=>(refine zb e λaL cR=>?_;(clear h;subst aL);subst cR);exact c _ _ rfl
   |bad=>exact kF e
end Qh
namespace Qh
open PySem PySem.W PyProof.Rows
def BU:List Value:=[.type "ValueError",.type "Exception",.type "BaseException",.type "object"]
structure kG(G:Gd):Prop where
 aF:∃mg,G.hb.Ns mainGlobals mg/\OwnClsQ "TooGreat" (G.cA 1) BU "ValueError.__new__" mg G.hb
 has:∀f,G.xf f->∃fn,G.P.fns f=some fn
 calm:∀n f vs,G.P.eW (f+1)=4->bF G.tg (av G.P G.script n f vs)
theorem kG.re(W:kG G)(R:List Addr):kG (G.re R):=⟨W.aF,W.has,W.calm⟩
section
variable{G:Gd}{n:Nat}{A:Around}{N:List Str}{env:Env}{s:Shared}{ρ aw:List Addr}{σ af:H}{h h':Heap}{L L':aQ}{outer:List Env}{E:bD}
theorem Dg{mg:Str->Option Value}{p:Pos}{M:Model}(hg:s.heap.Ns mainGlobals mg)(hm:mg "TooGreat"=some (.ref (G.cA 1)))(kind:env.scope.kind=.function)(glob:env.globals=mainGlobals)(hk:env.kindOf "TooGreat"=some .globalImplicit)(k:Q (.ref (G.cA 1)) s):wpAny M A (eval (.Name "TooGreat" p) env) Q E s:=by
 refine wpAny_Name ?_ (by decide+kernel);refine(loadName_read kind hk).symm▸?_;exact Calls.loadGlobal_global (by(refine glob.symm▸?_);exact hg) hm k
theorem Jh{c:Nat}{m a:Str}(W:kG G)(Y:Ao A n)(hk:env.kindOf "TooGreat"=some .globalImplicit):
  gM G n A N env (.raise c m) (.Raise (some (.Call (.Name "TooGreat" np) [.Constant (.str a) k ap] [] cpos)) none pos):=λs ρ σ L L' af outer Q E X S F sep ev px=>by
 refine vp ev λaL cR eqs=>?_;(clear ev;subst aL);subst cR;subst eqs;refine bB λXx aI=>?_;refine aM (W.aF) λmg hg O=>?_;obtain⟨tl,NN,nm,q,bs,hdct,sn,sub,ab,col,dd,k0,k1,k2,k3,k5,mN,hC,hN,hni,T⟩:=O.own.obj;refine aI ?_;refine wpAny_Raise_call_subT (C:=G.cA 1) (nm:=nm) (q:=q) (N:=NN) (bs:=bs) (bm:=tl) (hdct:=hdct) (sn:=sn) (sub:=sub) (ab:=ab) (col:=col) (dd:=dd) (k0:=k0) (k1:=k1) (k2:=k2) (k3:=k3) (k5:=k5)
  PySem.F.excBase_ValueError (mN:=mN) (T.hasType PySem.F.excBase_ValueError.hasBase) Y.hh rfl hni (Dg (hg.keeps S.base) O.own.bound X.kind X.glob hk ⟨rfl,?_⟩)
 exact Calls.evalArgs_plain (spliced_more (wpAny_Constant_str (spliced_none ⟨rfl,nb rfl,S.base _ _ hC,hN.keeps S.base,T.keeps S.base,λh' e hm=>px e s.heap h' _ ρ (dy.refl _ _ _) S X (.made hm)⟩)))
structure oL(W:List Addr)(h h':Heap):Prop where
 keep:∀b o,h.get? b=some o->b∉W->h'.get? b=some o
 up:h.UpToSlots h'
theorem oL.ax(k:oL W h h'):∀a xs,IsTup h a xs->IsTup h' a xs:=λa xs ⟨o,e,c,m,d⟩=>by
 refine b6 (k.up a o e λvs q=>by(replace q:=d▸q);cases q) λsl e'=>?_;exact⟨_,e',c,m,d⟩
theorem oL.cell(k:oL W h h')(x:h.IsCell c v):h'.IsCell c v:=by
 refine bB λXx aI=>?_;refine aM (x) λo e d=>?_;refine b6 (k.up c o e λvs q=>by(replace q:=d▸q);cases q) λsl e'=>?_;refine aI ?_;exact⟨_,e',d⟩
theorem aG.oM(S:aG G ρ σ h)(k:oL W h h')(own:∀b∈W,b∉ρ)(new:∀b∈W,G.hb.get? b=none):aG G ρ σ h':=
 ⟨λb o e=>k.keep b o (S.base b o e) (λq=>by(replace e:=(new b q)▸e);exact bS e),S.len,S.nodup,S.new,λi a o e1 e2=>(S.rep i a o e1 e2).keeps (λob e=>k.keep a ob e λq=>own a q (List.mem_of_getElem? e1)) k.ax λ_ _ e=>e,λa ha=>let ⟨xs,q⟩:=S.iO a ha;⟨xs,k.ax _ _ q⟩,S.jO⟩
theorem bj.move(X:bj G N env ρ h L)(hn:∀m,h.Ns env.locals m->h'.Ns env.locals m)(hc:∀c v,h.IsCell c v->c∉ρ->h'.IsCell c v)(hr:∀v u,Rel G ρ h v u->Rel G aw h' v u)(ho:∀a,a∉ρ->h.get? a≠none->a∉aw):bj G N env aw h' L:=by
 refine aM (X.ns) λm n1 n2=>?_;refine⟨X.kind,X.glob,X.blt,⟨m,hn m n1,λi u x e1 e2 e3=>?_⟩,λx hx=>?_,X.has,X.apart,X.nodup,ho _ X.jP ?_,λx c hx hc'=>ho _ (X.jQ x c hx hc') ?_,X.newL,X.iP⟩
 ·refine aM (n2 i u x e1 e2 e3) λv q r=>?_;exact⟨v,q,hr v u r⟩
 ·refine cU (X.cl x hx) λc ov h1 h2 h3=>?_;refine⟨c,ov,h1,hc c ov h2 (X.jQ x c hx h1),λi u e1 e2=>?_⟩;refine aM (h3 i u e1 e2) λv q r=>?_;exact⟨v,q,hr v u r⟩
 ·refine gg (n1) λo _ _ e _=>?_
  (refine e.symm▸?_);simp
 ·obtain⟨c',ov,h1,⟨o,e,_⟩,_⟩:=X.cl x hx;(replace h1:=hc'▸h1);(refine dt h1 λaL=>?_;(clear hc' h1;subst aL))
  (refine e.symm▸?_);simp
theorem bj.oM(X:bj G N env ρ h L)(k:oL W h h'):bj G N env ρ h' L:=
 X.move (λ_ q=>k.up.ns q) (λ_ _ q _=>k.cell q) (λ_ _ r=>r.mono k.ax λ_ _ e=>e) λ_ q _=>q
structure jN(env:Env)(W:List Addr)(ρ:List Addr)(h:Heap)(aw:List Addr)(h':Heap):Prop where
 pre:∃t,aw=ρ++t
 fresh:∀a∈aw,a∈ρ∨h.get? a=none
 keep:∀a o,h.get? a=some o->a∉ρ->a∉W->a≠env.locals->(∀x,env.kindOf x=some .cell->env.cells.lookup x≠some a)->h'.get? a=some o
 slot:∀a o,a∈W->h.get? a=some o->(∀vs,o.data≠.fields vs)->∃sl,h'.get? a=some {o with slots:=sl}
 kx:∀a,a∉ρ->h.get? a≠none->h'.get? a≠none
theorem dy.qE(F:Fs A env outer env.locals env ρ h)(sep:Sep outer env)(st:dy env ρ h aw h'):jN env (places outer) ρ h aw h':=
 ⟨st.pre,st.fresh,λa o e h1 _=>st.keep a o e h1,λa o hw e _=>⟨o.slots,st.keep a o e (F.own a (by
  refine aM (List.mem_filterMap.mp hw) λx hx hf=>?_
  exact List.mem_filterMap.mpr ⟨x,.tail _ hx,hf⟩)) (sep a hw).1 (sep a hw).2⟩,st.kx⟩
theorem jN.trans(x:jN env W ρ h aJ aA)(y:jN env W aJ aA dD aX):jN env W ρ h dD aX:=by
 have off:∀a,a∉ρ->h.get? a≠none->a∉aJ:=λa hn e q=>by
  rcases x.fresh a q with q|q
  ·exact hn q
  ·exact e q
 refine b6 (x.pre) λt bh=>?_;subst bh;obtain⟨t',rfl⟩:=y.pre;refine⟨⟨t++t',by simp⟩,λa ha=>?_,λa o e h1 h2 h3 h4=>y.keep a o (x.keep a o e h1 h2 h3 h4) (off a h1 (by(refine e.symm▸?_);simp)) h2 h3 h4,λa o hw e hd=>?_,λa hn e=>y.kx a (off a hn e) (x.kx a hn e)⟩
 ·by_cases hr:a∈ρ
  ·exact .inl hr
  ·rcases y.fresh a ha with q|q
   ·exact(x.fresh a q)
   ·refine .inr ?_;cases e:h.get? a with
    |none=>rfl
    |some o=>exact absurd q (x.kx a hr (by(refine e.symm▸?_);simp))
 ·refine b6 (x.slot a o hw e hd) λsl e1=>?_;refine b6 (y.slot a _ hw e1 hd) λGj e2=>?_;exact⟨Gj,e2⟩
theorem Fs.yk(sep:Sep outer env)(F:Fs A env outer env.locals env ρ h)(st:jN env (places outer) ρ h aw h')(X:bj G N env aw h' L):Fs A env outer env.locals env aw h':=by
 refine⟨F.fr,F.fl,F.o6,?_,λb hb q=>?_⟩
 ·refine sW F.alive λb hb o e hn=>?_
  by_cases q:b=env.locals
  ·refine aM (X.ns) λm hm _=>?_
   (refine q.symm▸?_);exact tU hm
  ·have hb':b∈places outer:=by
    refine aM (List.mem_filterMap.mp hb) λx hx hf=>?_;rcases List.mem_cons.mp hx with rfl|hx
    ·(replace hf:=(F.fl)▸hf);exact absurd (Option.some.inj hf).symm q
    ·exact List.mem_filterMap.mpr ⟨x,hx,hf⟩
   refine b6 (st.slot b o hb' e hn) λsl e'=>?_;exact⟨_,e',hn⟩
 ·rcases st.fresh b q with q|q
  ·exact F.own b hb q
  ·refine aM (mS F.alive hb) λo e _=>?_;(replace q:=e▸q);exact d8 q
def PY(G:Gd)(N:List Str)(env:Env)(outer:List Env)(r:RN Fl)(ρ:List Addr)(s:Shared)(Q:Flow->Shared->Prop):Prop:=
 match r with
|.ok f L' af=>∀fl h' tk aw,jN env (places outer) ρ s.heap aw h'->aG G aw af h'->bj G N env aw h' L'->fT G aw h' fl f->Q fl {s with heap:=h',toks:=tk}
|_=>False
end
section
variable(G:Gd)(n:Nat)(A:Around)(N:List Str)(env:Env)
structure Hand(outer:List Env)(ρ:List Addr)(σ:H)(h:Heap)(L:aQ):Prop where
 X:bj G N env ρ h L
 S:aG G ρ σ h
 F:Fs A env outer env.locals env ρ h
 sep:Sep outer env
 new:∀b∈places outer,G.hb.get? b=none
def ly(x:S)(st:Stmt):Prop:=∀(s:Shared)(ρ:List Addr)(σ:H)(L:aQ)(outer:List Env)(Q:Flow->Shared->Prop)(E:bD),Hand G A N env outer ρ σ s.heap L->
 PY G N env outer (cF (G.ctx n) x L σ) ρ s Q->wpAny (model G.prog G.w) A (exec st env) Q E s
def uS(x:SL)(nJ:List Stmt):Prop:=∀(s:Shared)(ρ:List Addr)(σ:H)(L:aQ)(outer:List Env)(Q:Flow->Shared->Prop)(E:bD),Hand G A N env outer ρ σ s.heap L->
 PY G N env outer (aW (G.ctx n) x L σ) ρ s Q->wpAny (model G.prog G.w) A (execs nJ env) Q E s
end
section
variable{G:Gd}{n:Nat}{A:Around}{N:List Str}{env:Env}
theorem Hand.pS(H:Hand G A N env outer ρ σ s.heap L)(p:PY G N env outer r ρ s Q):PS G N env r ρ s Q:=by
 cases r with
|ok f L' af=>exact λfl h' tk aw st=>p fl h' tk aw (st.qE H.F H.sep)
|aF _ _ _=>exact p
|bad=>exact p
theorem Dh{x:Qh.S}{st:Stmt}(h:dh G n A N env x st):ly G n A N env x st:=λs ρ σ L outer Q E H p=>h s ρ σ L Q E H.X H.S (H.pS p)
theorem Mc:uS G n A N env .nil []:=λs ρ σ L outer Q E H p=>xc s ρ σ L Q E H.X H.S (H.pS p)
theorem Kv{x:Qh.S}{r:SL}{st:Stmt}(h1:ly G n A N env x st)(h2:uS G n A N env r rest):uS G n A N env (.cons x r) (st::rest):=λs ρ σ L outer Q E H p=>by
 refine wpAny_execs_cons (h1 s ρ σ L outer _ E H ?_);have p:PY G N env outer (Qh.N.bind (cF (G.ctx n) x) (λf=>match f with|.next=>aW (G.ctx n) r|f=>Qh.N.pure f) L σ) ρ s Q:=p;unfold Qh.N.bind at p;generalize cF (G.ctx n) x L σ=w at p ⊢;cases w with
|aF _ _ _=>exact p
|bad=>exact p
|ok f et ay=>
  have p':PY G N env outer ((match f with|.next=>aW (G.ctx n) r|f=>Qh.N.pure f) et ay) ρ s Q:=p;intro fl h' tk aw st S' X' rf;cases rf with
  |next=>
   refine h2 _ aw ay et outer Q E ⟨X',S',H.F.yk H.sep st X',H.sep,H.new⟩ ?_;have p':PY G N env outer (aW (G.ctx n) r et ay) ρ s Q:=p';generalize aW (G.ctx n) r et ay=w at p' ⊢;cases w with
   |ok f L' af=>exact λfl h'' eL r6 st'=>p' fl h'' eL r6 (st.trans st')
   |aF _ _ _=>exact p'
   |bad=>exact p'
  |ret r=>exact p' _ h' tk aw st S' X' (.ret r)
  |brk=>exact p' _ h' tk aw st S' X' .brk
  |cont=>exact p' _ h' tk aw st S' X' .cont
theorem Md{b hb:SL}{body suite:List Stmt}(W:kG G)(h1:gL G n A N env b body)(hX:nk G n A N env b body)(h2:∀e,gL G n (A.mark (some e)) N env hb (QG::suite))(hk:env.kindOf "TooGreat"=some .globalImplicit):
  ly G n A N env (.g9 b G.tg hb) (.Try body [.ExceptHandler (some (.Name "TooGreat" np)) none (QG::suite) hp] [] [] p):=λs ρ σ L outer Q E H pY=>by
 have pY:PY G N env outer (match aW (G.ctx n) b L σ with|.ok f L' af=>.ok f L' af|.aF c' L' af=>if c'=G.tg then aW (G.ctx n) hb L' af else .bad|.bad=>.bad) ρ s Q:=pY;refine wpAny_Try_except ?_;cases ev:aW (G.ctx n) b L σ with
|ok f L' af=>
  replace pY:=ev▸pY;refine h1 s ρ σ L _ _ H.X H.S ?_;refine ev.symm▸?_;intro fl h' tk aw st S' X' rf;have st':=st.qE H.F H.sep;cases rf with
  |next=>exact wpAny_execs_nil (pY _ _ _ _ st' S' X' .next)
  |ret r=>exact pY _ _ _ _ st' S' X' (.ret r)
  |brk=>exact pY _ _ _ _ st' S' X' .brk
  |cont=>exact pY _ _ _ _ st' S' X' .cont
|bad=>(replace pY:=ev▸pY);exact pY.elim
|aF c' L' af=>
  replace pY:=ev▸pY;have pY:PY G N env outer (if c'=G.tg then aW (G.ctx n) hb L' af else .bad) ρ s Q:=pY;have hc:c'=G.tg:=by
   by_cases q:c'=G.tg
   ·exact q
   ·(replace pY:=(if_neg q)▸pY);exact pY.elim
  subst hc;replace pY:=(if_pos rfl)▸pY;refine hX s ρ σ L L' af outer _ _ H.X H.S H.F H.sep ev λe aA h' tk aw st S' X' zq=>?_;have F':=H.F.gB H.sep st X';refine aM (W.aF) λmg hg O=>?_;refine tF F' zq λaX base B hd u=>?_;refine flight hd λcI yl yB=>?_;have oM:∀{dJ:Heap}{fl:Value},gI base (env::outer) e (G.cA 1) fl dJ->aA.UpToSlots dJ->oL (places (env::outer)) aA dJ:=λhd u=>⟨λb o q hn=>hd.stays b o (B.sup b o q hn),u⟩;have new:∀b∈places (env::outer),G.hb.get? b=none:=λb hb=>by
   refine aM (List.mem_filterMap.mp hb) λx hx hf=>?_;rcases List.mem_cons.mp hx with rfl|hx
   ·(replace hf:=(F'.fl)▸hf);(apply eR hf);exact X'.newL
   ·exact H.new b (List.mem_filterMap.mpr ⟨x,hx,hf⟩)
  have dn:=S'.oM (oM yl (u.trans yB)) F'.own new;have mh:∃oe,cI.get? e=some oe/\oe.cls=.ref (G.cA 1):=by
   obtain⟨_,_,_,_,oe,vs,T,oT,ts,he,⟨hcl,_⟩,_⟩:=yl;exact⟨oe,he,hcl⟩
  refine handleBy_own (by decide+kernel) (Dg (hg.keeps dn.base) O.own.bound X'.kind X'.glob hk ⟨rfl,O.keeps dn.base,mh,?_⟩);refine flight yl λdJ Pp QH=>?_;have sl:=oM Pp ((u.trans yB).trans QH);have gA:jN env (places outer) aw aA aw dJ:=by
   refine⟨⟨[],by simp⟩,λ_ q=>.inl q,λa o q _ hw hl _=>sl.keep a o q λhb=>?_,λa o _ q hd=>sl.up a o q hd,λa _ q z=>?_⟩
   ·refine aM (List.mem_filterMap.mp hb) λx hx hf=>?_;rcases List.mem_cons.mp hx with rfl|hx
    ·(replace hf:=(F'.fl)▸hf);(refine dt hf λaL=>?_;(clear hw q;subst aL));exact hl rfl
    ·exact hw (List.mem_filterMap.mpr ⟨x,hx,hf⟩)
   ·cases q':aA.get? a with
    |none=>exact q q'
    |some o=>
     by_cases hb:a∈places (env::outer)
     ·refine aM (mS F'.alive hb) λo' e' hn=>?_;refine b6 (sl.up a o' e' hn) λGj e2=>?_;(replace z:=e2▸z);exact d8 z
     ·(replace z:=(sl.keep a o q' hb)▸z);exact d8 z
  have gK:=S'.oM sl F'.own new;have hH:=X'.oM sl;have Gk:=(st.qE H.F H.sep).trans gA;refine h2 (.ref e) {s with heap:=dJ,toks:=tk} aw af L' Q _ hH gK ?_;generalize aW (G.ctx n) hb L' af=w at pY ⊢;cases w with
  |ok f Rl cO=>exact λfl h'' eL r6 st'=>pY fl h'' eL r6 (Gk.trans (st'.qE (H.F.yk H.sep Gk hH) H.sep))
  |aF _ _ _=>exact pY
  |bad=>exact pY
end
end Qh
namespace Qh
open PySem PySem.W PyProof.Rows
def fD.q(T:fD)(f:Nat):Bool:=decide (T.io (f+1)=4)
def fD.x(T:fD)(f:Nat):Bool:=decide (T.io (f+1)=1)||decide (T.io (f+1)=4)
section
variable(T:fD)
mutual
noncomputable def xE:E->Bool
|.ax es=>qF es
|.ah es=>qF es
|.aj _ a b=>xE a&&xE b
|.tuple a=>xE a
|.call f es=>T.x f&&qF es
|.cB f o es=>dw T.q (.cB f o es)||(T.x f&&xE o&&qF es&&!rG es)
|.comp a _ _ b=>xE a&&xE b
|x=>dw T.q x
noncomputable def qF:EL->Bool
|.nil=>true
|.cons e r=>xE e&&qF r
end
def xT:E->Bool
|.cmp _ a b=>xE T a&&xE T b
|x=>dw T.q x
mutual
noncomputable def xS:S->Bool
|.aK i x=>xE T x&&!pP x
|.expr x=>xE T x
|.ret x=>xE T x
|.ite c t e=>xT T c&&mi t&&mi e
|.eP _ e b=>dw T.q e&&mi b
|.raise _ _=>true
|x=>uq T.q (T.io 0) x
noncomputable def mi:SL->Bool
|.nil=>true
|.cons x r=>xS x&&mi r
end
end
theorem eO.Gl{G:Gd}{n:Nat}{A:Around}{N:List Str}{env:Env}{x:S}{st:Stmt}(h:eO G.tg (cF (G.ctx n) x)):gM G n A N env x st:=λs ρ σ L L' af outer Q E X S F sep ev px=>absurd ev (h _ _ _ _)
theorem Kw(h:(!rG es)=true):es≠.nil:=λq=>by subst q;exact ff h
section
variable{G:Gd}{n:Nat}{A:Around}{N:List Str}
variable(bb:cG G)(F:iK G)(Y:Ao A n)(bO:∀R,ki (G.re R) n)(W:kG G)(CX:oG G n)
include bb F Y bO W CX
omit bb F Y bO CX in
theorem ta:∀f vs,G.aC.q f=true->bF G.tg ((G.ctx n).call f vs):=λf vs h=>W.calm n f vs (of_decide_eq_true h)
omit bb F Y bO W CX in
theorem uT(h:G.aC.x f=true):G.xf f:=by
 rcases Bool.or_eq_true_iff.mp h with h|h
 ·exact .inl (of_decide_eq_true h)
 ·exact .inr (of_decide_eq_true h)
omit bb F Y bO CX in
theorem qX(h:dw G.aC.q x=true):ey G n A N env x e:=NB (dj (ta W) x h)
mutual
theorem iZ:∀(x:E){K:Kn}{e:aq}{env:Env},dA env K->bz G.aC N x K e=true->xE G.aC x=true->ey G n A N env x e
|.ax es,K,e,env,Z,hz,hx=>vh hz λ_ _ _ h=>LK (iY bb F Y (bO G.res) es Z h) (qW es Z h hx)
|.ah es,K,e,env,Z,hz,hx=>yL hz λ_ _ h=>LL (iY bb F Y (bO G.res) es Z h) (qW es Z h hx)
|.aj op a b,K,e,env,Z,hz,hx=>Fa hz λ_ _ _ h1 h2=>LM (bY bb F Y (bO G.res) a Z h1) (iZ a Z h1 (qa hx).1) (bY bb F Y (bO G.res) b Z h2) (iZ b Z h2 (qa hx).2)
|.tuple a,K,e,env,Z,hz,hx=>k1 Z hz λ_ _ _ h1 h2 h3=>I9 bb (bY bb F Y (bO G.res) a Z h3) (iZ a Z h3 hx) h1 (d9 h2)
|.call f es,K,e,env,Z,hz,hx=>uR hz λ_ _ _ _ _ h1 h2 h3 h4 h5 h6=>
   let ⟨fn,hf⟩:=W.has f (uT (qa hx).1);Kb bb F Y CX (uT (qa hx).1) (iY bb F Y (bO G.res) es Z h1) (qW es Z h1 (qa hx).2) hf h2 (aS h3).1 (Z.eT h4) h5 (d9 h6)
|.cB f o es,K,e,env,Z,hz,hx=>by
  rcases Bool.or_eq_true_iff.mp hx with hq|hx
  ·exact qX W hq
  ·refine Ef hz λ_ _ _ _ _ h0 h1 h2 h3 h4 h5 h6=>?_;refine aZ (qa hx) λRz RA=>?_;obtain⟨RB,RC⟩:=qa Rz;refine aZ (qa RB) λGm RD=>?_;obtain⟨fn,hf⟩:=W.has f (uT Gm);rcases AG h4 with ⟨_,q⟩|⟨fV,eG,rfl,q,q'⟩
   ·exact absurd q (Kw RA)
   ·exact Km bb F Y CX (uT Gm) (bY bb F Y (bO G.res) o Z h5) (iZ o Z h5 RD) (iY bb F Y (bO G.res) es Z h6) (qW es Z h6 RC) hf h0 (not_iff (aS h1).1) (BS h2) h3 q q'
|.comp elt v br src,K,e,env,Z,hz,hx=>rI Z (fi:=λl _=>l.isEmpty) (f:=bz G.aC N src K) (g:=λs y=>bz G.aC N elt (f5 K s.names) y) hz λ_ _ _ _ ifs _ _ h0 h1 h2 W' h4=>by
   have e0:ifs=[]:=List.isEmpty_iff.mp h0;clear h0;subst e0;exact Kc Y (bY bb F Y (bO G.res) src Z h1) (iZ src Z h1 (qa hx).2) W' h2 (λcl C=>bY bb F Y (bO G.res) elt (Z.inner W' cl C) h4) λcl C=>iZ elt (Z.inner W' cl C) h4 (qa hx).1
|.none,K,e,env,Z,hz,hx=>qX W hx
|.bool _,K,e,env,Z,hz,hx=>qX W hx
|.int _,K,e,env,Z,hz,hx=>qX W hx
|.str _,K,e,env,Z,hz,hx=>qX W hx
|.aa _,K,e,env,Z,hz,hx=>qX W hx
|.glob _,K,e,env,Z,hz,hx=>qX W hx
|.aD _ _,K,e,env,Z,hz,hx=>qX W hx
|.neg _,K,e,env,Z,hz,hx=>qX W hx
|.cmp _ _ _,K,e,env,Z,hz,hx=>qX W hx
|.lh _ _ _ _ _,K,e,env,Z,hz,hx=>qX W hx
|.not _,K,e,env,Z,hz,hx=>qX W hx
|.and _,K,e,env,Z,hz,hx=>qX W hx
|.or _,K,e,env,Z,hz,hx=>qX W hx
|.au _ _,K,e,env,Z,hz,hx=>qX W hx
|.slc _ _ _,K,e,env,Z,hz,hx=>qX W hx
|.new _,K,e,env,Z,hz,hx=>qX W hx
|.attr _ _,K,e,env,Z,hz,hx=>qX W hx
|.len _,K,e,env,Z,hz,hx=>qX W hx
|.toInt _,K,e,env,Z,hz,hx=>qX W hx
|.toStr _,K,e,env,Z,hz,hx=>qX W hx
|.sum _,K,e,env,Z,hz,hx=>qX W hx
|.g7 _,K,e,env,Z,hz,hx=>qX W hx
|.max2 _ _,K,e,env,Z,hz,hx=>qX W hx
|.cS _ _,K,e,env,Z,hz,hx=>qX W hx
|.list _,K,e,env,Z,hz,hx=>qX W hx
|.dict _,K,e,env,Z,hz,hx=>qX W hx
|.join _ _,K,e,env,Z,hz,hx=>qX W hx
|.get _ _ _,K,e,env,Z,hz,hx=>qX W hx
|.f9 _ _ _ _ _,K,e,env,Z,hz,hx=>qX W hx
|.fH _ _ _ _,K,e,env,Z,hz,hx=>qX W hx
theorem qW:∀(es:EL){K:Kn}{l:List aq}{env:Env},dA env K->jf G.aC N es K l=true->qF G.aC es=true->k9 G n A N env es l
|.nil,K,l,env,Z,hz,hx=>LJ λ_=>.pure
|.cons x r,K,l,env,Z,hz,hx=>by
  cases l with
  |nil=>exact qf hz
  |cons e t=>
   refine aZ (aS (show(cY e&&bz G.aC N x K e&&jf G.aC N r K t)=true from hz)) λh1 h2=>?_;refine aZ (aS h1) λh3 h4=>?_;exact J9 (bY bb F Y (bO G.res) x Z h4) (iZ x Z h4 (qa hx).1) (iY bb F Y (bO G.res) r Z h2) (qW r Z h2 (qa hx).2) (d9 h3)
end
theorem Kx(x:E){K:Kn}{e:aq}(Z:dA env K)(hz:lx G.aC N x K e=true)(hx:xT G.aC x=true):u0 G n A N env x e:=by
 cases x with
|cmp op a b=>exact yM hz λ_ _ _ h1 h2 h3=>Ka (bY bb F Y (bO G.res) a Z h1) (iZ bb F Y bO W CX a Z h1 (qa hx).1) (bY bb F Y (bO G.res) b Z h2) (iZ bb F Y bO W CX b Z h2 (qa hx).2) h3
|_=>exact NC (rA (ta W) _ hx)
omit bb F Y bO CX in
theorem kH{x:S}{st:Stmt}(h:uq G.aC.q (G.aC.io 0) x=true):gM G n A N env x st:=eO.Gl (xe (ta W) x h)
omit bb F bO CX in
theorem HZ{c:Nat}{m:Str}{K:Kn}{st:Stmt}{env:Env}(Z:dA env K)(hz:nA G.aC N K (.raise c m) st=true):gM G n A N env (.raise c m) st:=by
 have hz:(!decide (c=G.tg)||(xG st).any λy=>(gF y).any λz=>blt K z.1 "TooGreat"&&Dd z.2)=true:=hz;rcases Bool.or_eq_true_iff.mp hz with h|h
 ·exact eO.Gl λL σ L' af e=>by(refine vp e λaL cR eqs=>?_;(clear hz;subst aL);subst cR;subst eqs);simp at h
 ·refine aM (cP h) λy hv h3=>?_;replace hv:=Jf hv;obtain⟨p,rfl⟩:=hv;obtain⟨⟨x,a⟩,hc,h⟩:=cP h3;refine eY (BP hc) λp' p'' e=>?_;clear hc;subst (e);refine aZ (pQ Z (aS h).1) λe1 hk=>?_;clear h;subst (e1);refine aM (cP (aS h).2) λk hk' h2=>?_;refine eY (tH hk') λq pp e2=>?_;clear hk';subst (e2);clear hz h3 h;clear hz;cases k with
  |str s=>exact Jh W Y hk
  |_=>exact ff h2
mutual
theorem Ky{K:Kn}(Z:dA env K):∀(x:S){st:Stmt},nA G.aC N K x st=true->xS G.aC x=true->gM G n A N env x st
|.aK i x,st,hz,hx=>qu (P:=gM G n A N env (.aK i x)) (f:=λt e=>tgt N K i t&&bz G.aC N x K e&&(jH e||pP x)) hz λt e p h=>
   nB (P:=λt=>gM G n A N env (.aK i x) (.Assign [t] e p)) (aS (aS h).1).1 λ_ _ hy hl=>LO (iZ bb F Y bO W CX x Z (aS (aS h).1).2 (qa hx).1) (pn ((Bool.or_eq_true_iff.mp (aS h).2).resolve_right λq=>by have:=not_iff (qa hx).2;rw[q] at this;exact tf this) ..)
|.expr x,st,hz,hx=>yN hz λe p h=>Kh (iZ bb F Y bO W CX x Z (aS h).1 hx) (vX Z) (pn (aS h).2 ..)
|.ret x,st,hz,hx=>yO hz λ_ _ h=>LP (iZ bb F Y bO W CX x Z h hx)
|.ite c t e,st,hz,hx=>Fc hz λ_ _ _ _ h1 h2 h3=>LQ (pR bb F Y (bO G.res) c Z h1) (Kx bb F Y bO W CX c Z h1 (qa (qa hx).1).1) (pE Z t h2 (qa (qa hx).1).2) (pE Z e h3 (qa hx).2)
|.eP i x b,st,hz,hx=>vE (P:=gM G n A N env (.eP i x b)) (f:=λt it=>tgt N K i t&&(gF it).any (λz:Str×aq=>blt K z.1 "range"&&cY z.2&&bz G.aC N x K z.2)) (g:=fQ G.aC N K b) hz λt it bd p h hb=>
   nB (P:=λt=>gM G n A N env (.eP i x b) (.For t it bd [] p)) (aS h).1 λy py hy hl=>k1 (P:=λit=>gM G n A N env (.eP i x b) (.For (.Name y py) it bd [] p)) Z (y:="range") (aS h).2 λ_ _ _ hk hn RE=>Ki bb Y (bY bb F Y (bO G.res) x Z RE) (dj (ta W) x (qa hx).1) (kN bb F Y bO Z b hb G.res) (pE Z b hb (qa hx).2) hy (Z.eH hl) hk (d9 hn)
|.raise c m,st,hz,hx=>HZ Y W Z hz
|.hY _ _,st,hz,hx=>kH W hx
|.fh _ _ _,st,hz,hx=>kH W hx
|.ji _ _ _,st,hz,hx=>kH W hx
|.append _ _,st,hz,hx=>kH W hx
|.update _ _,st,hz,hx=>kH W hx
|.qo _ _,st,hz,hx=>kH W hx
|.kA _ _ _,st,hz,hx=>kH W hx
|.g8 _ _ _ _ _,st,hz,hx=>kH W hx
|.qp,st,hz,hx=>kH W hx
|.g9 _ _ _,st,hz,hx=>kH W hx
theorem pE{K:Kn}(Z:dA env K):∀(x:SL){l:List Stmt},fQ G.aC N K x l=true->mi G.aC x=true->nk G n A N env x l
|.nil,l,hz,hx=>λs ρ σ L L' af outer Q E X S F sep ev px=>by exact iS ev
|.cons x r,l,hz,hx=>by
  cases l with
  |nil=>exact qf hz
  |cons st t=>
   refine aZ (aS (show(nA G.aC N K x st&&fQ G.aC N K r t)=true from hz)) λh1 h2=>?_;exact Jb (tV bb F Y bO Z x h1 G.res) (Ky Z x h1 (qa hx).1) (pE Z r h2 (qa hx).2)
end
end
end Qh
namespace Qh
open PySem PySem.W PyProof.Rows
structure Lay(G:Gd)(A:Around)(l:List Env)(ρ:List Addr)(h:Heap):Prop where
 fr:A.frames=some l
 alive:h.FunFrames hp0 l
 own:∀b∈places l,b∉ρ
structure ym(W:List Addr)(ρ:List Addr)(h:Heap)(aw:List Addr)(h':Heap):Prop where
 pre:∃t,aw=ρ++t
 fresh:∀a∈aw,a∈ρ∨h.get? a=none
 keep:∀a o,h.get? a=some o->a∉ρ->a∉W->h'.get? a=some o
 slot:∀a o,a∈W->h.get? a=some o->(∀vs,o.data≠.fields vs)->∃sl,h'.get? a=some {o with slots:=sl}
def zr(G:Gd)(l:List Env)(r:Res V)(ρ:List Addr)(s:Shared)(Q:bD):Prop:=match r with
|.ok u af=>∀v h' tk aw,ym (places l) ρ s.heap aw h'->aG G aw af h'->Rel G aw h' v u->Q v {s with heap:=h',toks:=tk}
|_=>False
def rX(G:Gd)(n:Nat):Prop:=∀(A:Around),Ao A n->∀(l:List Env)(f:Nat),G.P.eW (f+1)=2->∀(vs:List V)(vals:List Value)(s:Shared)(ρ:List Addr)(σ:H)(Q:bD)(E:bD),aG G ρ σ s.heap->bH G ρ s.heap vals vs->Lay G A l ρ s.heap->(∀b∈places l,G.hb.get? b=none)->
 zr G l (av G.P G.script n f vs σ) ρ s Q->wpAny (model G.prog G.w) A (call (.ref (G.fA f)) vals) Q E s
def Eg:ExceptHandler->Option (aq×List Stmt)
|.ExceptHandler (some t) none b _=>some (t,b)
|_=>none
theorem Kz(e:Eg h=some x):∃p,h=.ExceptHandler (some x.1) none x.2 p:=by
 obtain⟨t,nm,b,p⟩:=h;cases t with
|none=>exact bS e
|some t=>cases nm with
  |none=>(apply eR e);exact⟨p,rfl⟩
  |some _=>exact bS e
def Eh:E->Bool
|.ah .nil=>true
|.au (.aa _) (.int _)=>true
|_=>false
def Ei:SL->Option E
|.cons (.ret x) .nil=>some x
|_=>none
theorem KA(h:Ei b=some x):b=.cons (.ret x) .nil:=by
 cases b with
|nil=>exact bS h
|cons s r=>cases s<;>first|(cases r<;>first|((first|exact bS h|(apply eR h)|cases h);rfl)|exact bS h)|cases h
def Di:E->Option (Nat×EL)
|.call f es=>some (f,es)
|_=>none
theorem Ji(h:Di x=some y):x=.call y.1 y.2:=by
 cases x<;>first|((first|exact bS h|(apply eR h)|cases h);rfl)|exact bS h
section
variable(T:fD)(N:List Str)(K:Kn)
def Fd:List Stmt->Option Stmt
|[e]=>some e
|_=>none
theorem Me(h:Fd l=some e):l=[e]:=by
 match l with
|[_]=>(apply eR h);rfl
|[]=>exact bS h
|_::_::_=>exact bS h
def Dj(b:SL)(c:Nat)(h:SL)(st:Stmt):Bool:=decide (c=T.io 0)&&eT K "TooGreat"&&(E9 st).any λy=>fQ T N K b y.1&&mi T b&&(Eg y.2).any λz=>(nameOf z.1).any (λw=>decide (w=("TooGreat":Str)))&&(Ei h).any λx=>Eh x&&(Fd z.2).any λst'=>(vg st').any λr=>r.any λe=>bz T N x K e
def Mf(i f:Nat)(es:EL)(st:Stmt):Bool:=decide (T.io (f+1)=2)&&(nz st).any λy=>tgt N K i y.1&&(nq y.2).any λx=>jf T N es K x.2&&decide (T.fN f=x.1)&&T.eS f&&eT K x.1&&jM x.1&&uk x.2
def yn:S->Stmt->Bool
|.g9 b c h,st=>Dj T N K b c h st
|.aK i x,st=>(Di x).any (λy=>Mf T N K i y.1 y.2 st)||nA T N K (.aK i x) st
|x,st=>nA T N K x st
def sg:SL->List Stmt->Bool
|.nil,l=>l.isEmpty
|.cons x r,l=>match l with|st::t=>yn T N K x st&&sg r t|[]=>false
def sh(k:Nat)(b:SL)(l:List Stmt):Bool:=bif decide (k=2) then sg T N K b l else fQ T N K b l&&(!decide (k=1)||mi T b)
end
theorem Mg{h h':Heap}{a:Addr}(k:∀o,h.get? a=some o->(∀vs,o.data≠.fields vs)->∃sl,h'.get? a=some {o with slots:=sl})(hn:h.Ns a m):h'.Ns a m:=by
 refine fG (hn) λo es ep ho hd r=>?_;refine b6 (k o ho λvs q=>by(replace q:=hd▸q);cases q) λsl hs=>?_;exact⟨_,es,ep,hs,hd,r⟩
section
variable{G:Gd}{n:Nat}{A:Around}{N:List Str}{env:Env}
theorem Hand.lay(H:Hand G A N env outer ρ σ h L):Lay G A (env::outer) ρ h/\∀b∈places (env::outer),G.hb.get? b=none:=
 ⟨⟨H.F.fr,H.F.alive,H.F.own⟩,λb hb=>by
  refine aM (List.mem_filterMap.mp hb) λx hx hf=>?_;rcases List.mem_cons.mp hx with rfl|hx
  ·(replace hf:=(H.F.fl)▸hf);(apply eR hf);exact H.X.newL
  ·exact H.new b (List.mem_filterMap.mpr ⟨x,hx,hf⟩)⟩
theorem Hand.step(H:Hand G A N env outer ρ σ h L)(st:Step ρ h aw h')(S:aG G aw af h'):Hand G A N env outer aw af h' L:=⟨H.X.step H.S st,S,H.F.step st,H.sep,H.new⟩
theorem Hand.Pq{outer:List Env}{ρ aw:List Addr}{σ af:H}(H:Hand G A N env outer ρ σ h L)(st:ym (places (env::outer)) ρ h aw h')(S:aG G aw af h'):Hand G A N env outer aw af h' L/\jN env (places outer) ρ h aw h':=by
 have ax:∀a xs,IsTup h a xs->IsTup h' a xs:=λa xs ⟨o,e,c,m,d⟩=>by
  by_cases hw:a∈places (env::outer)
  ·refine b6 (st.slot a o hw e λvs q=>by(replace q:=d▸q);cases q) λsl e'=>?_;exact⟨_,e',c,m,d⟩
  ·refine⟨o,st.keep a o e (λq=>?_) hw,c,m,d⟩;exact H.S.ax ⟨o,e,c,m,d⟩ q
 have get:∀(i:Nat)(a:Addr),ρ[i]?=some a->aw[i]?=some a:=λi a e=>by
  refine b6 (st.pre) λt bh=>?_;clear S st;subst bh;rw[List.getElem?_append_left (List.getElem?_eq_some_iff.mp e).1];exact e
 have cl:∀c v,h.IsCell c v->c∉ρ->h'.IsCell c v:=λc v ⟨o,e,d⟩ hn=>by
  by_cases hw:c∈places (env::outer)
  ·refine b6 (st.slot c o hw e λvs q=>by(replace q:=d▸q);cases q) λsl e'=>?_;exact⟨_,e',d⟩
  ·exact⟨o,st.keep c o e hn hw,d⟩
 have X':bj G N env aw h' L:=H.X.move (λm q=>Mg (λo e d=>st.slot _ o (List.mem_filterMap.mpr ⟨env,.head _,H.F.fl⟩) e d) q) cl (λv u r=>r.mono ax get) λa hn e q=>by
  rcases st.fresh a q with q|q
  ·exact hn q
  ·exact e q
 have sub:∀a,a∈places outer->a∈places (env::outer):=λa ha=>by
  refine aM (List.mem_filterMap.mp ha) λx hx hf=>?_;exact List.mem_filterMap.mpr ⟨x,.tail _ hx,hf⟩
 have off:∀a,a∉places outer->a≠env.locals->a∉places (env::outer):=λa h1 h2 q=>by
  refine aM (List.mem_filterMap.mp q) λx hx hf=>?_;rcases List.mem_cons.mp hx with rfl|hx
  ·(replace hf:=(H.F.fl)▸hf);exact h2 (Option.some.inj hf).symm
  ·exact h1 (List.mem_filterMap.mpr ⟨x,hx,hf⟩)
 have sY:jN env (places outer) ρ h aw h':=⟨st.pre,st.fresh,λa o e h1 h2 h3 _=>st.keep a o e h1 (off a h2 h3),λa o hw e d=>st.slot a o (sub a hw) e d,λa hn e z=>by
  by_cases hw:a∈places (env::outer)
  ·refine aM (mS H.F.alive hw) λo e' d=>?_;refine b6 (st.slot a o hw e' d) λsl e2=>?_;(replace z:=e2▸z);exact d8 z
  ·cases q:h.get? a with
   |none=>exact e q
   |some o=>(replace z:=(st.keep a o q hn hw)▸z);exact d8 z⟩
 exact⟨⟨X',S,H.F.yk H.sep sY X',H.sep,H.new⟩,sY⟩
theorem Mh(K:cG G)(FI:iK G)(Y:Ao A n)(C:rX G n)(kd:G.P.eW (f+1)=2)(hE:gp G n A N env es (e::args))(hx:G.fN f=x)(hg:G.eS f=true)(hk:env.kindOf x=some .globalImplicit)(hd:(x==("__debug__":Str))=false)(hs:starEach (e::args) env=(false,eval e env)::starEach args env)(hy:N[i]?=some y)(hl:env.kindOf y=some .local∨env.kindOf y=some .cell):
  ly G n A N env (.aK i (.call f es)) (.Assign [.Name y p''] (.Call (.Name x p') (e::args) [] gJ) p):=λs ρ σ L outer Q E H pY=>by
 have pY:PY G N env outer (Qh.N.bind (Qh.N.lift λL=>M.bind (cZ (G.ctx n) es L) λvs=>av G.P G.script n f vs) (λv=>Qh.N.bind (Qh.N.put i v) λ_=>Qh.N.pure Fl.next) L σ) ρ s Q:=pY;refine wpAny_Assign_Name ?_ rfl;unfold Qh.N.bind Qh.N.lift at pY;simp only[] at pY;cases e0:M.bind (cZ (G.ctx n) es L) (λvs=>av G.P G.script n f vs) σ with
|bad=>(replace pY:=e0▸pY);exact pY.elim
|aF _ _=>(replace pY:=e0▸pY);exact pY.elim
|ok u bN=>
  replace pY:=e0▸pY;have pY:PY G N env outer (.ok .next (b7 L i u) bN) ρ s Q:=pY;refine bB λXx aI=>?_;refine bo (eu e0) λvs ay e1 e2=>?_;refine bo (sZ e2) λfn m hf _=>?_;refine bo (FI f fn hf) λo fd ho hdat=>?_;refine aI ?_;refine wpAny_Call_NameR (wpAny_Name (xb K H.S H.X hk hf hg hx ?_) hd);refine callWith_def hdat (hE gJ s ρ σ L _ _ H.X H.S ?_) hs;refine e1.symm▸?_;intro vals aA tk aJ st aH r;have yP:=H.step st aH;refine⟨aH.base _ _ ho,C A Y (env::outer) f kd vs vals {s with heap:=aA,toks:=tk} aJ ay _ E aH r yP.lay.1 yP.lay.2 ?_⟩;refine e2.symm▸?_;intro v aX cz dD cH bM qr;refine aZ (yP.Pq cH bM) λFe sY=>?_;refine rg Fe.X bM hy hl qr λcI gj d5 dn fk _ _=>?_;exact pY .next cI gj dD (((st.toS.qE H.F H.sep).trans sY).trans (d5.qE Fe.F H.sep)) dn fk .next
end
section
variable{G:Gd}{n:Nat}{A:Around}{N:List Str}
variable(bb:cG G)(F:iK G)(Y:Ao A n)(bO:∀R,ki (G.re R) n)(W:kG G)(CX:oG G n)(CY:rX G n)
include bb F Y bO W CX CY
omit F Y bO W CX CY in
theorem Mi{x:E}{K:Kn}(h:Eh x=true)(hz:bz G.aC N x K e=true):bg G n A N env x e:=by
 cases x with
|ah es=>cases es with
  |nil=>
   refine yL hz λl _ h=>?_;have h:l.isEmpty=true:=h;refine(List.isEmpty_iff.mp h).symm▸?_;exact C2 C3
  |cons _ _=>exact ff h
|au a b=>cases a with
  |aa i=>cases b with
   |int j=>
    refine vi hz λl r p h1 h2 h3=>?_;refine yK (P:=λl=>bg G n A N env (.au (.aa i) (.int j)) (.Subscript l r p)) h1 λy py g1 g2=>?_;exact rW (P:=λr=>(∀a b q,r≠.Slice a b none q)->bg G n A N env (.au (.aa i) (.int j)) (.Subscript (.Name y py) r p)) h2 (λ_ _ g3=>xw bb (xu g1 g2) C1 g3) h3
   |_=>exact ff h
  |_=>exact ff h
|_=>exact ff h
omit CY in
theorem NM{b hb:SL}{c:Nat}{K:Kn}{st:Stmt}(Z:dA env K)(hz:Dj G.aC N K b c hb st=true):ly G n A N env (.g9 b c hb) st:=by
 refine bB λXx aI=>?_;refine aZ (aS hz) λh0 h1=>?_;refine aZ (aS h0) λh2 h3=>?_;have e0:c=G.tg:=of_decide_eq_true h2;clear h2 h0 hz;subst e0;obtain⟨⟨body,hd⟩,hv,h4⟩:=cP h1;replace hv:=Mb hv;obtain⟨p,rfl⟩:=hv;obtain⟨h5,h6⟩:=aS h4;refine aZ (aS h5) λh7 h8=>?_;obtain⟨⟨t,suite⟩,hv2,h9⟩:=cP h6;refine b6 (Kz hv2) λhp e1=>?_;clear hv2;subst (e1);obtain⟨cf,h11⟩:=aS h9;refine aM (cP cf) λw hw h12=>?_;refine b6 (mu hw) λnp e2=>?_;clear hw;subst (e2);have e3:=of_decide_eq_true h12;subst e3;refine aM (cP h11) λx hx RF=>?_;have e4:=KA hx;subst e4;obtain⟨RG,RH⟩:=aS RF;refine aM (cP RH) λst' hs RI=>?_;have e5:=Me hs;subst (e5);refine aI ?_;refine yO (P:=λst'=>ly G n A N env (.g9 b G.tg (.cons (.ret x) .nil)) (.Try body [.ExceptHandler (some (.Name "TooGreat" np)) none [st'] hp] [] [] p)) (f:=bz G.aC N x K) RI λe p' hc=>?_;exact Md W (kN bb F Y bO Z b h7 G.res) (pE bb F Y bO W CX Z b h7 h8) (λe'=>BJ (C7 (Mi bb RG hc)) xc) (Z.eT h3)
theorem KB{K:Kn}{env:Env}(Z:dA env K)(x:S){st:Stmt}(hz:yn G.aC N K x st=true):ly G n A N env x st:=by
 cases x with
|g9 b c h=>exact NM bb F Y bO W CX Z hz
|aK i x=>
  rcases Bool.or_eq_true_iff.mp hz with h|h
  ·obtain⟨⟨f,es⟩,hx,h1⟩:=cP h;have e0:x=_:=Ji hx;clear hx h hz;subst e0;obtain⟨h2,h3⟩:=aS h1;exact qu h3 λt e p h4=>
    nB (P:=λt=>ly G n A N env (.aK i (.call f es)) (.Assign [t] e p)) (aS h4).1 λy py hy hl=>uR (P:=λe=>ly G n A N env (.aK i (.call f es)) (.Assign [.Name y py] e p)) (f:=jf G.aC N es K) (aS h4).2 λ_ _ _ _ _ g1 g2 g3 g4 g5 g6=>
    Mh bb F Y CY (of_decide_eq_true h2) (iY bb F Y (bO G.res) es Z g1) g2 g3 (Z.eT g4) g5 (d9 g6) hy (Z.eH hl)
  ·exact Dh (tV bb F Y bO Z _ h G.res)
|_=>exact Dh (tV bb F Y bO Z _ hz G.res)
theorem Bi{K:Kn}(Z:dA env K):∀(x:SL){l:List Stmt},sg G.aC N K x l=true->uS G n A N env x l
|.nil,l,hz=>by
  have hq:l.isEmpty=true:=hz;rw[List.isEmpty_iff] at hq;(clear hz;subst hq);exact Mc
|.cons x r,l,hz=>by
  cases l with
  |nil=>exact qf hz
  |cons st t=>
   obtain⟨h1,h2⟩:=aS (show(yn G.aC N K x st&&sg G.aC N K r t)=true from hz);exact Kv (KB bb F Y bO W CX CY Z x h1) (Bi Z r h2)
end
end Qh
namespace Qh
open PySem PySem.W PyProof.Rows
structure qv(G:Gd)(f:Nat)(fn:Fn)(fd:FuncData)(N:List Str)(body:List Stmt):Prop where
 obj:∃o,G.hb.get? (G.fA f)=some o/\o.data=.func fd
 vF:fd.body=.stmts body
 glob:fd.globals=mainGlobals
 blt:fd.builtins=builtinsNs
 bf:fd.closure=[]
 code:G.hb.CodeRec fd.code fd.qualname
 co:fd.scope.isCoroutine=false
 gen:fd.scope.isGenerator=false
 kind:fd.scope.kind=.function
 bind:∀vals:List Value,vals.length=fn.arity->bindArgs fd ⟨vals,[]⟩=pure ((N.take fn.arity).zip vals)
 nodup:N.Nodup
 len:N.length=fn.slots
 arity:fn.arity<=fn.slots
 params:(N.take fn.arity).all (eH fd.scope.names)=true
 vG:sh G.aC N fd.scope.names (G.P.eW (f+1)) fn.body body=true
theorem tb:∀(names:Kn)(n:Nat)(acc:List (Str×Addr))(x:Str),names.lookup x=some .cell∨(acc.lookup x).isSome=true->((cellsFrom n names acc).lookup x).isSome=true
|[],n,acc,x,h=>by
  rcases h with h|h
  ·exact bS h
  ·exact h
|(m,k)::r,n,acc,x,h=>by
  unfold cellsFrom
  by_cases hk:(k==NameKind.cell)=true
  ·refine(if_pos hk).symm▸?_;refine tb r _ _ x ?_;rw[List.lookup_cons];cases hx:x==m with
   |true=>exact .inr rfl
   |false=>
    rcases h with h|h
    ·rw[List.lookup_cons,hx] at h;exact .inl h
    ·exact .inr h
  ·refine(if_neg hk).symm▸?_;refine tb r _ _ x ?_;rcases h with h|h
   ·rw[List.lookup_cons] at h;cases hx:x==m with
    |true=>
     replace h:=hx▸h;simp only[Option.some.injEq] at h;subst h;exact absurd rfl hk
    |false=>(replace h:=hx▸h);exact .inl h
   ·exact .inr h
theorem KC(kf:Str->Option NameKind):∀(ps:List Str)(vals:List Value)(m:Str->Option Value)(i:Nat)(x:Str)(v:Value),ps.Nodup->ps[i]?=some x->vals[i]?=some v->kf x=some .local->bindL kf (ps.zip vals) m x=some v:=by
 have keep:∀(ps:List Str)(vals:List Value)(m:Str->Option Value)(x:Str),x∉ps->bindL kf (ps.zip vals) m x=m x:=by
  intro ps
  induction ps with
  |nil=>intro vals m x _;rfl
  |cons p ps ih=>
   intro vals m x hx;cases vals with
   |nil=>rfl
   |cons v vals=>
    simp only[List.zip_cons_cons,bindL]
    (refine(ih vals _ x (λq=>hx (.tail _ q))).symm▸?_)
    have hne:x≠p:=λq=>hx (q▸.head _)
    split<;>simp[hne]
 intro ps
 induction ps with
|nil=>intro vals m i x v _ h;simp at h
|cons p ps ih=>
  intro vals m i x v hn h1 h2 h3;cases vals with
  |nil=>simp at h2
  |cons w vals=>
   simp only[List.zip_cons_cons,bindL];have hn':=List.nodup_cons.mp hn;cases i with
   |zero=>
    simp at h1 h2;subst h1 h2;refine(keep ps vals _ p hn'.1).symm▸?_;refine(if_pos h3).symm▸?_;simp
   |succ i=>exact ih vals _ i x v hn'.2 (by simpa using h1) (by simpa using h2) h3
theorem KD(kf:Str->Option NameKind):∀(ps:List Str)(vals:List Value)(m:Str->Option Value)(i:Nat)(x:Str)(v:Value),ps.Nodup->ps[i]?=some x->vals[i]?=some v->kf x≠some .local->bindC kf (ps.zip vals) m x=some v:=by
 have keep:∀(ps:List Str)(vals:List Value)(m:Str->Option Value)(x:Str),x∉ps->bindC kf (ps.zip vals) m x=m x:=by
  intro ps
  induction ps with
  |nil=>intro vals m x _;rfl
  |cons p ps ih=>
   intro vals m x hx;cases vals with
   |nil=>rfl
   |cons v vals=>
    simp only[List.zip_cons_cons,bindC]
    (refine(ih vals _ x (λq=>hx (.tail _ q))).symm▸?_)
    have hne:x≠p:=λq=>hx (q▸.head _)
    split<;>simp[hne]
 intro ps
 induction ps with
|nil=>intro vals m i x v _ h;simp at h
|cons p ps ih=>
  intro vals m i x v hn h1 h2 h3;cases vals with
  |nil=>simp at h2
  |cons w vals=>
   simp only[List.zip_cons_cons,bindC];have hn':=List.nodup_cons.mp hn;cases i with
   |zero=>
    simp at h1 h2;subst h1 h2;refine(keep ps vals _ p hn'.1).symm▸?_;refine(if_neg h3).symm▸?_;simp
   |succ i=>exact ih vals _ i x v hn'.2 (by simpa using h1) (by simpa using h2) h3
theorem AH{vs:List V}{k i:Nat}(h:cq (vs.map some++List.replicate k none) i=some u):vs[i]?=some u:=by
 rw[Ch] at h
 by_cases hi:i<vs.length
 ·rw[List.getElem?_append_left (by simpa using hi)] at h
  simpa[List.getElem?_map,hi] using h
 ·rw[List.getElem?_append_right (by simpa using hi)] at h;rw[List.getElem?_replicate] at h
  split at h<;>simp at h
def start(vs:List V)(fn:Fn):aQ:=vs.map some++List.replicate (fn.slots-fn.arity) none
structure lz(G:Gd)(A:Around)(n:Nat)(N:List Str)(names:Kn)(fn:Fn)(vs:List V)(s:Shared)(ρ:List Addr)(σ:H)(env:Env)(aA:Heap):Prop where
 Z:dA env names
 X:bj G N env ρ aA (start vs fn)
 S:aG G ρ σ aA
 Y:Ao (A.deeper env) n
 fr:env.frame=some env.locals
 keep:∀b o,s.heap.get? b=some o->aA.get? b=some o
 newL:s.heap.get? env.locals=none
 iP:∀x c,env.cells.lookup x=some c->s.heap.get? c=none
section
variable{G:Gd}{n:Nat}{A:Around}{f:Nat}{fn:Fn}{fd:FuncData}{N:List Str}{body:List Stmt}{vs:List V}{vals:List Value}{s:Shared}{ρ aw:List Addr}{σ:H}{env:Env}{aA h':Heap}{names:Kn}{Q:bD}{E:bD}
theorem call_in(bb:cG G)(X:qv G f fn fd N body)(hlen:vs.length=fn.arity)(Y:Ao A (n+1))(S:aG G ρ σ s.heap)(rl:bH G ρ s.heap vals vs)(k:∀env aA fC,lz G A n N fd.scope.names fn vs s ρ σ env aA->wpAny (model G.prog G.w) (A.deeper env) (execs body env) (λf s'=>Q (match f with|.ret v=>v|_=>.none) s')
   (λe s'=>wpAny (model G.prog G.w) (A.deeper env) (leaving env e) (λ_ s''=>E e s'') (λe' s''=>E e' s'') s') {s with heap:=aA,toks:=fC}):wpAny (model G.prog G.w) A (call (.ref (G.fA f)) vals) Q E s:=by
 refine aM (X.obj) λo ho hdat=>?_;have hvl:vals.length=fn.arity:=by(refine(rl.length).symm▸?_;refine hlen.symm▸?_;with_reducible rfl)
 have SG:(N.take fn.arity).length=fn.arity:=by(refine(List.length_take).symm▸?_;refine(X.len).symm▸?_);have:=X.arity;lia
 have hpar:∀x∈N.take fn.arity,fd.scope.names.lookup x=some .local∨fd.scope.names.lookup x=some .cell:=λx hx=>by
  have:=List.all_eq_true.mp X.params x hx;unfold eH at this
  simpa using this
 have hnd:(N.take fn.arity).Nodup:=(List.take_sublist _ _).nodup X.nodup;refine wpAny_call (codeAny_call_cells (by have:=Y.room;exact lN 0x34184c04904920534190106138c [_,_,_] rfl this) (S.base _ _ ho) hdat (bb.nolimit.keeps S.base) (X.code.keeps S.base) X.vF (X.bind vals hvl) X.bf (λx hx=>?_) (λbA I=>?_) X.co X.gen X.kind)
 ·have hx':x.1∈N.take fn.arity:=(List.of_mem_zip (show(x.1,x.2)∈_ from hx)).1;rcases hpar x.1 hx' with q|q
  ·exact .inl q
  ·exact .inr ⟨q,tb _ _ _ _ (.inl q)⟩
 ·refine eY (I.toInCall.same) λaA fC bc=>?_;subst bc;have kp:=I.toInCall.keep;have uH:bH G ρ aA vals vs:=rl.step (Step.grow S kp) S;have yQ:s.heap.objs.size<=(callEnvC fd s.heap.objs.size (G.fA f)).locals:=aR _;have yR:∀x c,(callEnvC fd s.heap.objs.size (G.fA f)).cells.lookup x=some c->s.heap.objs.size<=c:=λx c hc=>Nat.le_of_lt (I.above x c (mem_of_lookup hc));have arg:∀i u x,cq (start vs fn) i=some u->N[i]?=some x->(N.take fn.arity)[i]?=some x/\∃v,vals[i]?=some v/\Rel G ρ aA v u:=λi u x h1 h2=>by
   have h3:=AH h1;have hi:i<fn.arity:=by(refine hlen▸?_);exact(List.getElem?_eq_some_iff.mp h3).1
   refine⟨by rw[List.getElem?_take,if_pos hi];exact h2,?_⟩;exact uH.get h3
  refine k _ aA fC ⟨⟨X.kind,rfl⟩,?_,(S.grow kp),⟨Y.hh,by have:=Y.room;show A.depth+1+n+4<=_;exact lN 0x38190134184c04904920538190106134c [_,_,_] rfl this,by have:=Y.units;show A.units+3+3*n+200<=_;exact lN 0x3812078c110d8c18cc0490492053812078c110184d8cc [_,_,_] rfl this⟩,rfl,kp,Heap.get?_none_of_le yQ,λx c hc=>Heap.get?_none_of_le (yR x c hc)⟩;refine⟨X.kind,X.glob,X.blt,⟨_,I.toInCall.ns,λi u x h1 h2 h3=>?_⟩,λx hx=>?_,λi u h1=>?_,λx y c h1 h2 h3 h4=>name_of_addr I.apart (mem_of_lookup h3) (mem_of_lookup h4),X.nodup,S.fresh yQ,λx c _ hc=>S.fresh (yR x c hc),S.outside yQ,λx c _ hc=>S.outside (yR x c hc)⟩
  ·obtain⟨h4,v,h5,h6⟩:=arg i u x h1 h2;exact⟨v,KC _ _ _ _ i x v hnd h4 h5 h3,h6⟩
  ·obtain⟨c,hc⟩:=Option.isSome_iff_exists.mp (tb fd.scope.names (s.heap.objs.size+1) [] x (.inl hx));refine⟨c,_,hc,I.cell x c hc,λi u h1 h2=>?_⟩;obtain⟨h4,v,h5,h6⟩:=arg i u x h1 h2;exact⟨v,KD _ _ _ _ i x v hnd h4 h5 (by(refine hx.symm▸?_);simp),h6⟩
  ·have h3:=AH h1;have hi:i<fn.arity:=by(refine hlen▸?_);exact(List.getElem?_eq_some_iff.mp h3).1
   have hN:i<N.length:=by(refine(X.len).symm▸?_);have:=X.arity;exact lN 0xd06130124124124814e06130534e [_,_,_] rfl hi this
   refine⟨N[i],List.getElem?_eq_getElem hN,hpar _ ?_⟩;rw[List.mem_take_iff_getElem];exact⟨i,by lia,rfl⟩
theorem lz.fresh(T:lz G A n N names fn vs s ρ σ env aA)(h:aA.get? a=none):s.heap.get? a=none:=by
 cases e:s.heap.get? a with
|none=>rfl
|some ob=>(replace h:=(T.keep _ _ e)▸h);exact d8 h
theorem lz.back(T:lz G A n N names fn vs s ρ σ env aA)(st:dy env ρ aA aw h'):Step ρ s.heap aw h':=by
 refine⟨st.pre,λa ha=>(st.fresh a ha).imp id T.fresh,λa ob e hn=>st.keep a ob (T.keep _ _ e) hn (λq=>?_) λx _ q=>?_⟩
 ·(replace e:=(T.newL)▸(q▸e));exact bS e
 ·(replace e:=(T.iP x a q)▸e);exact bS e
theorem lz.Ej(T:lz G A n N names fn vs s ρ σ env aA)(st:jN env (places l) ρ aA aw h'):ym (places l) ρ s.heap aw h':=by
 refine⟨st.pre,λa ha=>(st.fresh a ha).imp id T.fresh,λa ob e hn hw=>st.keep a ob (T.keep _ _ e) hn hw (λq=>?_) λx _ q=>?_,λa o hw e d=>st.slot a o hw (T.keep _ _ e) d⟩
 ·(replace e:=(T.newL)▸(q▸e));exact bS e
 ·(replace e:=(T.iP x a q)▸e);exact bS e
theorem lz.fs(T:lz G A n N names fn vs s ρ σ env aA)(Y:Lay G A l ρ s.heap):Fs (A.deeper env) env l env.locals env ρ aA/\Sep l env:=by
 refine aM (T.X.ns) λm hm _=>?_;refine aM (tU hm) λo e d=>?_;refine⟨⟨Around.frames_deeper Y.fr,T.fr,T.fr,⟨by(refine(T.Z.kind).symm▸?_);decide,⟨env.locals,o,T.fr,rfl,e,d⟩,(sW Y.alive λb _ o e hn=>⟨o,T.keep b o e,hn⟩)⟩,λb hb=>?_⟩,λb hb=>⟨λq=>?_,λx _ q=>?_⟩⟩
 ·refine aM (List.mem_filterMap.mp hb) λx hx hf=>?_;rcases List.mem_cons.mp hx with rfl|hx
  ·(replace hf:=(T.fr)▸hf);(apply eR hf);exact T.X.jP
  ·exact Y.own b (List.mem_filterMap.mpr ⟨x,hx,hf⟩)
 ·refine aM (mS Y.alive hb) λo e _=>?_;(replace e:=(T.newL)▸(q▸e));exact bS e
 ·refine aM (mS Y.alive hb) λo e _=>?_;(replace e:=(T.iP x b q)▸e);exact bS e
end
theorem w4(hf:P.fns f=some fn)(σ:H):av P sc (n+1) f vs σ=if vs.length=fn.arity then bW (aW ⟨sc,P.consts,av P sc n,P.eW,P.oE⟩ fn.body (start vs fn) σ) else .bad:=by
 simp only[av,hf]
 split<;>rfl
section
variable{G:Gd}{n:Nat}(bb:cG G)(F:iK G)(hF:∀f fn,G.P.fns f=some fn->∃fd N body,qv G f fn fd N body)(bO:∀R,ki (G.re R) n)
include bb F hF bO
omit bb F hF bO in
theorem Ct{T:fD}{N:List Str}{K:Kn}(hk:k≠2)(h:sh T N K k b l=true):fQ T N K b l=true/\(k=1->mi T b=true):=by
 unfold sh at h;replace h:=(decide_eq_false hk)▸h;refine aZ (aS (show(fQ T N K b l&&(!decide (k=1)||mi T b))=true from h)) λh1 h2=>?_;refine⟨h1,λq=>?_⟩;rcases Bool.or_eq_true_iff.mp h2 with h|h
 ·(replace h:=(decide_eq_true q)▸h);exact ff h
 ·exact h
theorem Jj:ki G (n+1):=by
 intro A Y f nt vs vals s ρ σ Q E S rl h;refine eY (PV.some h) λr ay e=>?_;refine bo (sZ e) λfn m hf hm=>?_;rw[w4 hf] at h
 by_cases hlen:vs.length=fn.arity
 ·replace h:=(if_pos hlen)▸h;refine kt (hF f fn hf) λfd N body X=>?_;refine call_in bb X hlen Y S rl λenv aA fC T=>?_;refine kN bb F T.Y bO T.Z fn.body (Ct nt X.vG).1 G.res {s with heap:=aA,toks:=fC} ρ σ _ _ _ T.X T.S ?_;have h':PV G (bW (aW (G.ctx n) fn.body (start vs fn) σ)) ρ s Q:=h;show PS G N env (aW (G.ctx n) fn.body (start vs fn) σ) ρ _ _;generalize aW (G.ctx n) fn.body (start vs fn) σ=w at h' ⊢;cases w with
  |ok fl L' af=>
   intro o6 aX cz dD cH bM dm rf;cases rf with
   |next=>exact h' .none aX cz dD (T.back cH) bM .none
   |ret r=>exact h' _ aX cz dD (T.back cH) bM r
   |brk=>exact h'.elim
   |cont=>exact h'.elim
  |aF c L' af=>exact h'.elim
  |bad=>exact h'.elim
 ·(replace h:=(if_neg hlen)▸h);exact h.elim
variable(W:kG G)(CX:oG G n)
include W CX
theorem IF:oG G (n+1):=by
 intro A Y fe outer Lf Sw f xf vs vals s ρ σ af Q E S rl Fr ev px;rcases xf with xf|xf
 ·refine b6 (W.has f (.inl xf)) λfn hf=>?_;rw[w4 hf] at ev
  by_cases hlen:vs.length=fn.arity
  ·replace ev:=(if_pos hlen)▸ev;refine kt (hF f fn hf) λfd N body X=>?_;refine call_in bb X hlen Y S rl λenv aA fC T=>?_;refine aZ (T.fs ⟨Fr.fr,Fr.alive,Fr.own⟩) λfp sep=>?_;refine aZ (Ct (by(refine xf.symm▸?_);decide) X.vG) λhc1 hc2=>?_;have ev':bW (aW (G.ctx n) fn.body (start vs fn) σ)=.aF G.tg af:=ev;obtain⟨L',QI⟩:∃L',aW (G.ctx n) fn.body (start vs fn) σ=.aF G.tg L' af:=by
    generalize aW (G.ctx n) fn.body (start vs fn) σ=w at ev';cases w with
    |ok fl L' af=>cases fl<;>(first|exact qA ev'|exact kF ev'|cases ev')
    |aF c L' af=>(refine zb ev' λaL cR=>?_;(clear ev';subst aL);(clear ev px;subst cR));exact⟨L',rfl⟩
    |bad=>exact kF ev'
   refine pE bb F T.Y bO W CX T.Z fn.body hc1 (hc2 xf) {s with heap:=aA,toks:=fC} ρ σ _ L' af (fe::outer) _ _ T.X T.S fp sep QI λe aX h' tk aw st S' X' zq=>?_;refine I7 (fp.gB sep st X') zq λcI base B hd u=>?_;refine aM (X'.ns) λm hm _=>?_;have gS:∀b o,b≠env.locals->aX.get? b=some o->(hid aX [env.locals]).get? b=some o:=λb o hb e=>rv _ e (by simpa using hb);have RJ:base.get? env.locals=none:=(Heap.FunFrames.mem hd.frames (List.mem_filterMap.mpr ⟨env,.head _,T.fr⟩)).1;refine px e (hid aX [env.locals]) cI tk aw ((T.back st).other T.newL gS) (S'.il X'.jP X'.newL (mr hm) gS) (.on ⟨λb o q=>?_,λb o q hn=>?_⟩ ⟨hd.stays,hd.new,hd.frames.2.2,hd.Nz⟩ λb o q hn=>u b o (kT _ q) hn)
   ·exact gS b o (λz=>by(replace q:=RJ▸(z▸q));exact bS q) (B.sub b o q)
   ·refine B.sup b o (kT _ q) λz=>?_;refine aM (List.mem_filterMap.mp z) λx hx hf=>?_;rcases List.mem_cons.mp hx with rfl|hx
    ·(replace hf:=(T.fr)▸hf);(refine dt hf λaL=>?_;(clear hf z;subst aL));(replace q:=(pL _ (.head _))▸q);exact bS q
    ·exact hn (List.mem_filterMap.mpr ⟨x,hx,hf⟩)
  ·(replace ev:=(if_neg hlen)▸ev);exact kF ev
 ·exact absurd ev (W.calm _ _ _ xf _ _)
variable(CY:rX G n)
include CY
theorem IG:rX G (n+1):=by
 intro A Y l f kd vs vals s ρ σ Q E S rl La new h;have hf':∃fn,G.P.fns f=some fn:=by
  cases hf:G.P.fns f with
  |none=>simp only[av,hf] at h;exact h.elim
  |some fn=>exact⟨fn,rfl⟩
 refine b6 (hf') λfn hf=>?_;rw[w4 hf] at h
 by_cases hlen:vs.length=fn.arity
 ·replace h:=(if_pos hlen)▸h;refine kt (hF f fn hf) λfd N body X=>?_;refine call_in bb X hlen Y S rl λenv aA fC T=>?_;refine aZ (T.fs La) λfp sep=>?_;have hc:sg G.aC N fd.scope.names fn.body body=true:=by
   have:=X.vG;unfold sh at this;replace this:=(decide_eq_true kd)▸this;exact this
  refine Bi bb F T.Y bO W CX CY T.Z fn.body hc {s with heap:=aA,toks:=fC} ρ σ _ l _ _ ⟨T.X,T.S,fp,sep,new⟩ ?_;have h':zr G l (bW (aW (G.ctx n) fn.body (start vs fn) σ)) ρ s Q:=h;generalize aW (G.ctx n) fn.body (start vs fn) σ=w at h' ⊢;cases w with
  |ok fl L' af=>
   intro o6 aX cz dD cH bM dm rf;cases rf with
   |next=>exact h' .none aX cz dD (T.Ej cH) bM .none
   |ret r=>exact h' _ aX cz dD (T.Ej cH) bM r
   |brk=>exact h'.elim
   |cont=>exact h'.elim
  |aF c L' af=>exact h'.elim
  |bad=>exact h'.elim
 ·(replace h:=(if_neg hlen)▸h);exact h.elim
end
theorem BV(bb:cG G)(F:iK G)(hF:∀f fn,G.P.fns f=some fn->∃fd N body,qv G f fn fd N body)(W:kG G):∀n,(∀R,ki (G.re R) n)/\oG G n/\rX G n
|0=>by
  refine⟨?_,?_,?_⟩
  ·intro R A Y f nt vs vals s ρ σ Q E S rl h;exact h.elim
  ·intro A Y fe outer Lf env f xf vs vals s ρ σ af Q E S rl Fr ev px;exact kF ev
  ·intro A Y l f kd vs vals s ρ σ Q E S rl La new h;exact h.elim
|n+1=>by
  refine k8 (BV bb F hF W n) λc1 c2 c3=>?_;exact⟨λR=>Jj (bb.re R) F (λf fn h=>let ⟨fd,N,body,X⟩:=hF f fn h;⟨fd,N,body,⟨X.obj,X.vF,X.glob,X.blt,X.bf,X.code,X.co,X.gen,X.kind,X.bind,X.nodup,X.len,X.arity,X.params,X.vG⟩⟩) c1,IF bb F hF c1 W c2,IG bb F hF c1 W c2 c3⟩
theorem AI(h1:fd.params.posonlyargs=[])(h2:fd.params.kwonlyargs=[])(h3:fd.params.vararg=none)(h4:fd.params.kwarg=none)(h5:fd.params.args.map (·.arg)=ps)(h6:fd.defaults=.none)(hn:ps.Nodup)(vals:List Value)(hl:vals.length=ps.length):bindArgs fd ⟨vals,[]⟩=pure (ps.zip vals):=by
 have none_of:∀(ps:List Str)(vals:List Value),vals.length=ps.length->∀x∈ps,((ps.zip vals).lookup x).isSome=true:=by
  intro ps
  induction ps with
  |nil=>intro vals _ x hx;cases hx
  |cons p ps ih=>
   intro vals hl x hx;cases vals with
   |nil=>simp at hl
   |cons v vals=>
    rw[List.zip_cons_cons,List.lookup_cons];cases zt:x==p with
    |true=>rfl
    |false=>
     refine ih vals (by simpa using hl) x ?_;rcases List.mem_cons.mp hx with q|q
     ·(clear hl hx;subst q);simp at zt
     ·exact q
 have skip:∀(qs:List Str)(p:Str)(v:Value)(l:List (Str×Value)),p∉qs->(qs.filterMap λn=>(((p,v)::l).lookup n).map (n,·))=qs.filterMap λn=>(l.lookup n).map (n,·):=by
  intro qs p v l
  induction qs with
  |nil=>intro _;rfl
  |cons x qs ih=>
   intro hp;have zt:(x==p)=false:=by simpa using λ(q:x=p)=>hp (q▸.head _)
   rw[List.filterMap_cons,List.filterMap_cons,List.lookup_cons,zt,ih λq=>hp (.tail _ q)]
 have hlk:∀(ps:List Str)(vals:List Value),ps.Nodup->vals.length=ps.length->(ps.filterMap λn=>((ps.zip vals).lookup n).map (n,·))=ps.zip vals:=by
  intro ps
  induction ps with
  |nil=>intro vals _ _;rfl
  |cons p ps ih=>
   intro vals hn hl;cases vals with
   |nil=>simp at hl
   |cons v vals=>
    have hn':=List.nodup_cons.mp hn;refine(List.zip_cons_cons).symm▸?_;refine(List.filterMap_cons).symm▸?_;have e1:((p,v)::ps.zip vals).lookup p=some v:=by rw[List.lookup_cons];simp
    refine e1.symm▸?_;simp only[Option.map_some];rw[skip ps p v _ hn'.1,ih vals hn'.2 (by simpa using hl)]
 have Ff:∀k,((ps.take k).filter λn=>((ps.zip vals).lookup n).isNone)=[]:=λk=>by
  rw[List.filter_eq_nil_iff];intro x hx;have:=none_of ps vals hl x (List.mem_of_mem_take hx);cases h:(ps.zip vals).lookup x with
  |none=>(replace this:=h▸this);exact ff this
  |some v=>simp
 subst h5;have hlk:=hlk _ vals hn hl;obtain⟨nm,qn,⟨po,as,va,ko,kd,kw,df⟩,bd,sc,gl,cl,SH⟩:=fd;dsimp only at h1 h2 h3 h4 h6 hl Ff hlk ⊢;subst h1 h2 h3 h4 h6;refine Eq.trans (if_neg (c:=(decide (vals.length>(as.map (·.arg)).length)&&true)=true) λq=>?_) ?_
 ·rw[hl,Bool.and_true] at q;exact absurd (of_decide_eq_true q) (Nat.lt_irrefl _)
 have hd:∀k,List.drop k ((none.getD #[]).toList:List Value)=[]:=λk=>List.drop_nil;rw[hd];refine Eq.trans (if_neg λq=>cE ((congrArg (λl:List Str=>!l.isEmpty) (Ff _)).symm.trans q)) ?_;have hz:∀l:List Str,List.zip l ([]:List Value)=[]:=λl=>List.zip_nil_right;rw[hz];exact Eq.trans (congrArg (λl:List Str=>(pure (l.filterMap λn=>(((as.map Arg.arg).zip vals).lookup n).map (n,·)):Sem (List (Str×Value)))) (List.append_nil (as.map Arg.arg))) (congrArg (λl=>(pure l:Sem (List (Str×Value)))) hlk)
end Qh
namespace Qh
open PySem PyProof.Rows
def Info.aC(I:Info)(kd:List Nat):fD:=⟨λf=>(((I.df f).map (·.name)).getD ""),λf=>!(I.meths.contains f),λg=>(((I.cn g).map (·.1)).getD ""),λk=>kd.getD k 0⟩
def Info.qj(I:Info)(kd:List Nat):Prog:=⟨I.fns,λg=>(I.cn g).map (·.2),λk=>kd.getD k 0,λ_ _=>false⟩
def ur:List Str->Bool
|[]=>true
|x::r=>!(r.contains x)&&ur r
def nr(T:fD)(k:Nat)(d:Df)(name:Str)(params:Arguments)(body:List Stmt)(scope:Scope):Bool:=
 decide (name=d.name)&&params.posonlyargs.isEmpty&&params.kwonlyargs.isEmpty&&params.vararg.isNone&&params.kwarg.isNone&&decide (params.args.map (·.arg)=d.slots.take d.fn.arity)
  &&!scope.isCoroutine&&!scope.isGenerator&&decide (scope.kind=.function)&&ur d.slots&&decide (d.slots.length=d.fn.slots)&&decide (d.fn.arity<=d.fn.slots)&&(d.slots.take d.fn.arity).all (eH scope.names)
  &&sh T d.slots scope.names k d.fn.body body
def Ek(self:Str)(st:Stmt):Bool:=(nz st).any λy=>(oJ y.1).any (λz=>decide (z.2=("many":Str))&&(nameOf z.1).any λq=>decide (q=self))&&(ky y.2).any λc=>decide (c=.int 0)
def xJ(m:MethRec):Bool:=decide (m.name=("__init__":Str))&&m.params.posonlyargs.isEmpty&&m.params.kwonlyargs.isEmpty&&m.params.vararg.isNone&&m.params.kwarg.isNone&&decide (m.params.args.map (·.arg)=[("self":Str)])
 &&!m.scope.isCoroutine&&!m.scope.isGenerator&&decide (m.scope.kind=.function)&&decide (m.scope.names.lookup ("self":Str)=some .local)&&(match m.body with|[st]=>Ek "self" st|_=>false)
def qY:List Str:=["value","piece","new_name"]
def El(c:ClsRec):Bool:=decide (c.name=("Teller":Str))&&c.quiet.contains "many"&&c.meths.any xJ
def Em(I:Info)(kd:List Nat)(p:Program)(c:ClsRec)(f:Nat)(d:Df):Prop:=
 (f∈I.meths->∃m∈c.meths,m.name∈qY/\nr (I.aC kd) (kd.getD (f+1) 0) d m.name m.params m.body m.scope=true)/\(f∉I.meths->∃r∈recsOf p,nr (I.aC kd) (kd.getD (f+1) 0) d r.name r.params r.body r.scope=true)
def Cu(I:Info)(kd:List Nat)(p:Program)(c:ClsRec)(f:Nat):Bool:=match I.df f with
|none=>true
|some d=>if I.meths.contains f then c.meths.any λm=>qY.contains m.name&&nr (I.aC kd) (kd.getD (f+1) 0) d m.name m.params m.body m.scope else(recsOf p).any λr=>nr (I.aC kd) (kd.getD (f+1) 0) d r.name r.params r.body r.scope
def Cv(I:Info)(kd:List Nat)(p:Program)(loose:List Str):Bool:=(plainsOf p loose).any λc=>El c&&(List.range I.defs.length).all (Cu I kd p c)
def En(I:Info)(kd:List Nat)(f:Nat):Bool:=match I.df f with
|none=>!((I.aC kd).x f)
|some d=>!((I.aC kd).q f)||m3 (I.aC kd).q ((I.aC kd).io 0) d.fn.body
def Fg(I:Info)(kd:List Nat):Bool:=(List.range kd.length).all (En I kd)
theorem Cw(h:Fg I kd=true)(f:Nat)(hf:(I.aC kd).x f=true):∃d,I.df f=some d/\((I.aC kd).q f=true->m3 (I.aC kd).q ((I.aC kd).io 0) d.fn.body=true):=by
 have hm:f∈List.range kd.length:=by
  rw[List.mem_range]
  by_cases q:f+1<kd.length
  ·exact lN 0x34184c04904920534184184c [_,_] rfl q
  ·have e:(I.aC kd).io (f+1)=0:=by
    show kd.getD (f+1) 0=0;rw[List.getD_eq_getElem?_getD,List.getElem?_eq_none (by exact lN 0x6134c04904920506134c [_,_] rfl (Nat.not_lt.mp q))];rfl
   unfold fD.x at hf;(replace hf:=e▸hf);exact ff hf
 have h1:=List.all_eq_true.mp h f hm;unfold En at h1;cases e:I.df f with
|none=>(replace h1:=e▸h1);simp only[hf] at h1;exact ff h1
|some d=>
  replace h1:=e▸h1;refine⟨d,rfl,λq=>?_⟩;simp only[q] at h1;exact h1
theorem IH(h:Cv I kd p loose=true):∃c∈plainsOf p loose,El c=true/\∀f d,I.df f=some d->Em I kd p c f d:=by
 refine aM (List.any_eq_true.mp h) λc hc h=>?_;obtain⟨h1,h2⟩:=aS h;refine⟨c,hc,h1,λf d hd=>?_⟩;have hf:f∈List.range I.defs.length:=by
  rw[List.mem_range];unfold Info.df at hd;cases e:I.defs[f]? with
  |none=>(replace hd:=e▸hd);exact bS hd
  |some o=>exact(List.getElem?_eq_some_iff.mp e).1
 have h3:=List.all_eq_true.mp h2 f hf;unfold Cu at h3;replace h3:=hd▸h3;simp only at h3;refine⟨λhm=>?_,λhm=>?_⟩
 ·replace h3:=(if_pos (List.contains_iff_mem.mpr hm))▸h3;refine aM (List.any_eq_true.mp h3) λm hm h4=>?_;obtain⟨h5,h6⟩:=aS h4;exact⟨m,hm,List.contains_iff_mem.mp h5,h6⟩
 ·(replace h3:=(if_neg (λq=>hm (List.contains_iff_mem.mp q)))▸h3);refine aM (List.any_eq_true.mp h3) λm hm h4=>?_;exact⟨m,hm,h4⟩
theorem KF:typeLookup (.type "object") "value"=pure none:=by rw[typeLookup_type,builtinLookup_eq_fast];kernel_rfl
theorem KG:typeLookup (.type "object") "piece"=pure none:=by rw[typeLookup_type,builtinLookup_eq_fast];kernel_rfl
theorem NO:typeLookup (.type "object") "new_name"=pure none:=by rw[typeLookup_type,builtinLookup_eq_fast];kernel_rfl
theorem KH(h:x∈qY):typeLookup (.type "object") x=pure none/\x≠"many":=by
 have:x="value"∨x="piece"∨x="new_name":=by simpa[qY] using h
 rcases this with rfl|rfl|rfl
 ·exact⟨KF,by decide+kernel⟩
 ·exact⟨KG,by decide+kernel⟩
 ·exact⟨NO,by decide+kernel⟩
theorem wH:∀{l:List Str},ur l=true->l.Nodup
|[],_=>List.nodup_nil
|x::r,h=>by
  simp only[ur,Bool.and_eq_true,Bool.not_eq_true',List.contains_eq_mem,decide_eq_false_iff_not] at h;exact List.nodup_cons.mpr ⟨h.1,wH h.2⟩
def uU:List PySem.W.WData->List V->Bool
|[],vs=>vs.isEmpty
|d::ds,vs=>match d with
  |.str a=>(match vs with|v::vs=>(match v with|.str b=>decide (a=b)&&uU ds vs|_=>false)|[]=>false)
  |_=>false
def Fh(d:PySem.W.WData)(vs:List V):Bool:=match d with
|.tuple ds=>uU ds vs
|_=>false
def xK(o:Option PyData)(j:Int):Bool:=match o with
|some d=>(match d with|.int i=>decide (i=j)|_=>false)
|none=>false
def xM(o:Option PyData)(j:Str):Bool:=match o with
|some d=>(match d with|.str i=>decide (i=j)|_=>false)
|none=>false
theorem Jk(h:xK o j=true):o=some (.int j):=by
 cases o with
|none=>exact absurd (show false=true from h) cE
|some d=>cases d with
  |int i=>(refine(of_decide_eq_true (show decide (i=j)=true from h)).symm▸?_;with_reducible rfl)
  |_=>exact absurd (show false=true from h) cE
theorem Jl(h:xM o j=true):o=some (.str j):=by
 cases o with
|none=>exact absurd (show false=true from h) cE
|some d=>cases d with
  |str i=>(refine(of_decide_eq_true (show decide (i=j)=true from h)).symm▸?_;with_reducible rfl)
  |_=>exact absurd (show false=true from h) cE
def constOk(p:Program)(x:Str×V):Bool:=match x.2 with
|.int j=>xK (valOf p x.1) j
|.str j=>xM (valOf p x.1) j
|.ax vs=>(PySem.W.wlitsOf p).any λc=>decide (c.1=x.1)&&Fh c.2 vs
|_=>false
theorem BW:∀{ds:List PySem.W.WData}{vs:List V}{xs:List Value}{as:List Addr},uU ds vs=true->PySem.W.ReadsAllW R cl h' xs ds as->bH G ρ h xs vs
|[],vs,xs,as,h,r=>by
  cases r;have h:vs.isEmpty=true:=h
  (refine(List.isEmpty_iff.mp h).symm▸?_);exact .nil
|d::ds,vs,xs,as,h,r=>by
  cases r with
  |cons rx rr=>
   cases d with
   |str a=>cases vs with
    |nil=>exact absurd (show false=true from h) cE
    |cons v vs=>cases v with
     |str b=>
      have h:(decide (a=b)&&uU ds vs)=true:=h;rw[Bool.and_eq_true] at h;obtain rfl:=of_decide_eq_true h.1;cases rx;exact .cons (.str _ _) (BW h.2 rr)
     |_=>exact absurd (show false=true from h) cE
   |_=>exact absurd (show false=true from h) cE
def KI(p:Program):Option (Str×V)->Bool
|none=>true
|some x=>constOk p x
theorem NP{I:Info}{f:Nat}(h:I.cn f=some d):some d∈I.consts:=by
 unfold Info.cn at h;cases e:I.consts[f]? with
|none=>(replace h:=e▸h);exact bS h
|some o=>(replace h:=e▸h);simp at h;subst h;exact List.mem_of_getElem? e
def Eo(p:Program)(loose:List Str)(b:Str):Bool:=!startupNames.contains b&&!loose.contains b&&!((recsOf p).map (·.name)).contains b&&!((litsOf p).map (·.1)).contains b&&!((clssOf p loose).map (·.name)).contains b&&!(b=="__name__")
def iy(prog:Program)(w:World)(h:Heap)(sA:Addr)(script:List Int)(I:Info)(kd:List Nat)(mg:Str->Option Value)(C CE:Addr)(mN:Str->Option Value):Gd:=
 {prog,w,hb:=h,sA,script,cA:=λk=>bif k==1 then CE else C,P:=I.qj kd,fN:=(I.aC kd).fN,fA:=λf=>(match (bif I.meths.contains f then mN else mg) ((I.aC kd).fN f) with|some (.ref a)=>a|_=>0),eS:=(I.aC kd).eS,gN:=(I.aC kd).gN,res:=[]}
section
variable{prog view:Program}{loose:List Str}{mean:ExcName->Option Value}{mg mb:Str->Option Value}{w:World}{bA:Shared}{sA:Addr}{script:List Int}{I:Info}{kd:List Nat}
theorem Ep(ho:o.data=Data.func fd)(hg:G.hb.get? (G.fA f)=some o)(hc:nr G.aC (G.P.eW (f+1)) d name fd.params body fd.scope=true)(h1:fd.body=.stmts body)(h2:fd.globals=mainGlobals)(h3:fd.builtins=builtinsNs)(h4:fd.closure=[])(h5:G.hb.CodeRec fd.code fd.qualname)(h6:fd.defaults=.none):
  ∃fd body,qv G f d.fn fd d.slots body:=by
 refine bB λXx aI=>?_;unfold nr at hc;simp only[Bool.and_eq_true,decide_eq_true_eq,List.isEmpty_iff,Option.isNone_iff_eq_none,Bool.not_eq_true'] at hc;obtain⟨⟨⟨⟨⟨⟨⟨⟨⟨⟨⟨⟨⟨c1,c2⟩,c3⟩,c4⟩,c5⟩,c6⟩,c7⟩,c8⟩,c9⟩,vH⟩,o9⟩,c12⟩,RK⟩,RL⟩:=hc;exact aI ⟨fd,body,⟨o,hg,ho⟩,h1,h2,h3,h4,h5,c7,c8,c9,λvals hv=>AI c2 c3 c4 c5 c6 h6 ((List.take_sublist _ _).nodup (wH vH)) vals (by rw[List.length_take,o9,Nat.min_eq_left c12];exact hv),wH vH,o9,c12,RK,RL⟩
theorem Cy(hc:nr T k d name ps body sc=true):name=d.name:=by
 unfold nr at hc
 repeat (replace hc:=(Bool.and_eq_true_iff.mp hc).1)
 exact of_decide_eq_true hc
theorem Pr{c:ClsRec}{C CE N:Addr}{mN:Str->Option Value}(T:Top view loose mean mg mb bA.heap)(PL:PlainAt bA.heap c C N mN)(hd:∀f d,I.df f=some d->Em I kd view c f d)(hf:I.df f=some d):
  ((I.aC kd).eS f=true->mg ((I.aC kd).fN f)=some (.ref ((iy prog w bA.heap sA script I kd mg C CE mN).fA f)))/\((I.aC kd).eS f=false->mN ((I.aC kd).fN f)=some (.ref ((iy prog w bA.heap sA script I kd mg C CE mN).fA f))/\(∃o,bA.heap.get? ((iy prog w bA.heap sA script I kd mg C CE mN).fA f)=some o/\o.cls=.type "function")/\(I.aC kd).fN f∈qY)/\
   ∃fd body,qv (iy prog w bA.heap sA script I kd mg C CE mN) f d.fn fd d.slots body:=by
 refine aZ (hd f d hf) λhm hg=>?_;have Gn:(I.aC kd).fN f=d.name:=by
  show((I.df f).map (·.name)).getD ("":Str)=_
  (refine hf.symm▸?_);rfl
 by_cases q:f∈I.meths
 ·refine bB λXx aI=>?_;refine ca (hm q) λr hr RM hc=>?_;refine DM (PL.meths r hr) λa o pm code doc h1 h2 h3 h4 h5=>?_;have hi:(I.aC kd).eS f=false:=by show(!(I.meths.contains f))=false;(refine(List.contains_iff_mem.mpr q).symm▸?_);rfl
  refine aI ?_;have hN:(I.aC kd).fN f=r.name:=by(refine Gn.symm▸?_;exact(Cy hc).symm)
  have hA:(iy prog w bA.heap sA script I kd mg C CE mN).fA f=a:=by
   show(match (bif I.meths.contains f then mN else mg) ((I.aC kd).fN f) with|some (.ref a)=>a|_=>0)=a;refine(List.contains_iff_mem.mpr q).symm▸?_;refine hN.symm▸?_;show(match mN r.name with|some (.ref a)=>a|_=>0)=a;refine h1.symm▸?_;with_reducible rfl
  refine⟨λz=>(by(replace z:=hi▸z);exact ff z),λ_=>⟨by(refine hA.symm▸?_;refine hN.symm▸?_);exact h1,⟨o,by(refine hA.symm▸?_);exact h2,h3⟩,by(refine hN.symm▸?_);exact RM⟩,Ep h4 (by(refine hA.symm▸?_);exact h2) hc rfl rfl rfl rfl h5 rfl⟩
 ·refine bB λXx aI=>?_;refine aM (hg q) λr hr hc=>?_;refine O1 (T.fn r hr) λa o pm code doc h1 h2 h3 h4=>?_;have hq:I.meths.contains f=false:=by
   cases e:I.meths.contains f with
   |false=>rfl
   |true=>exact absurd (List.contains_iff_mem.mp e) q
  have hi:(I.aC kd).eS f=true:=by show(!(I.meths.contains f))=true;(refine hq.symm▸?_);rfl
  refine aI ?_;have hN:(I.aC kd).fN f=r.name:=by(refine Gn.symm▸?_;exact(Cy hc).symm)
  have hA:(iy prog w bA.heap sA script I kd mg C CE mN).fA f=a:=by
   show(match (bif I.meths.contains f then mN else mg) ((I.aC kd).fN f) with|some (.ref a)=>a|_=>0)=a;refine hq.symm▸?_;refine hN.symm▸?_;show(match mg r.name with|some (.ref a)=>a|_=>0)=a;refine h1.symm▸?_;with_reducible rfl
  refine⟨λ_=>by(refine hA.symm▸?_;refine hN.symm▸?_);exact h1,λz=>(by(replace z:=hi▸z);exact tf z),Ep h3 (by(refine hA.symm▸?_);exact h2) hc rfl rfl rfl rfl h4 rfl⟩
theorem Mj{c:ClsRec}{C N:Addr}(PL:PlainAt bA.heap c C N mN)(h:c.meths.any xJ=true):
  ∃fI oI fd self p1 p2 p3 p4 k,mN "__init__"=some (.ref fI)/\bA.heap.get? fI=some oI/\oI.cls=.type "function"/\oI.data=.func fd/\bA.heap.CodeRec fd.code fd.qualname/\
  fd.body=.stmts [.Assign [.Attribute (.Name self p1) "many" p2] (.Constant (.int 0) k p3) p4]/\(∀v,bindArgs fd ⟨[v],[]⟩=pure [(self,v)])/\fd.closure=[]/\fd.scope.names.lookup self=some .local/\
  fd.scope.isCoroutine=false/\fd.scope.isGenerator=false/\fd.scope.kind=.function/\(self==("__debug__":Str))=false:=by
 refine aM (List.any_eq_true.mp h) λm hm hc=>?_;refine DM (PL.meths m hm) λa o pm code doc h1 h2 h3 h4 h5=>?_;unfold xJ at hc;simp only[Bool.and_eq_true,decide_eq_true_eq,List.isEmpty_iff,Option.isNone_iff_eq_none,Bool.not_eq_true'] at hc;refine bB λXx aI=>?_;obtain⟨⟨⟨⟨⟨⟨⟨⟨⟨⟨c1,c2⟩,c3⟩,c4⟩,c5⟩,c6⟩,c7⟩,c8⟩,c9⟩,vH⟩,o9⟩:=hc;have hb:∃st,m.body=[st]/\Ek "self" st=true:=by
  generalize m.body=l at o9
  match l,o9 with
  |[st],o9=>exact⟨st,rfl,o9⟩
 refine aM (hb) λst hb hi=>?_;obtain⟨⟨t,e⟩,hv,hq⟩:=cP hi;replace hv:=Cr hv;obtain⟨p4,rfl⟩:=hv;obtain⟨hq1,hq2⟩:=aS hq;obtain⟨⟨o',x'⟩,hv',h6⟩:=cP hq1;obtain⟨p2,e1⟩:=w3 hv';subst (e1);obtain⟨h7,h8⟩:=aS h6;have h7:x'=_:=of_decide_eq_true h7;clear hv' hq1 hi hq h6;subst h7;refine aM (cP h8) λy hy h9=>?_;obtain⟨p1,e2⟩:=mu hy;subst (e2);have h9:=of_decide_eq_true h9;subst h9;refine aM (cP hq2) λk0 hk cf=>?_;refine eY (tH hk) λk p3 e3=>?_;clear hk;subst (e3);have cf:=of_decide_eq_true cf;subst cf;refine aI ?_;refine⟨a,o,_,"self",p1,p2,p3,p4,k,by(refine c1▸?_);exact h1,h2,h3,h4,h5,?_,λv=>?_,rfl,vH,c7,c8,c9,by decide+kernel⟩
 ·show FuncBody.stmts m.body=_;refine hb.symm▸?_;with_reducible rfl
 ·exact AI (fd:=methDef m.name (c.name++"."++m.name) m.params m.body m.scope pm code doc) (ps:=["self"]) c2 c3 c4 c5 c6 rfl (by decide+kernel) [v] rfl
theorem NQ(T:Top view loose mean mg mb bA.heap)(TW:PySem.W.TopW view mg bA.heap)(TE:TopE view loose mg bA.heap)(hs:bA.heap.NoSeer)(hcd:Cv I kd view loose=true)(Go:Fg I kd=true)(RO:specOf view "TooGreat"=some ("ValueError.__new__",BU))(hkd:kd.getD (L+1) 0=2)(hc:I.consts.all (KI view)=true)(hb:n8.all (Eo view loose)=true){xs:List Value}(hl:bA.heap.IsList sA xs.toArray)(hi:IntsAre xs script)(NR:script.length<=63){fa:Addr}{dL:Df}(hL:I.df L=some dL)(RP:(I.aC kd).eS L=true)(zu:mg dL.name=some (.ref fa)){af:H}(si:av (I.qj kd) script 690 L [.cy] []=.ok (.bool true) af){Q:bD}{E:bD}(hQ:∀h' tk,(∀b o,bA.heap.get? b=some o->h'.get? b=some o)->Q (.bool true) {bA with heap:=h',toks:=tk}):
  wpAny (model prog w) callerA (call (.ref fa) [.ref sA]) Q E bA:=by
 refine aM (T.ownAt RO) λCE OE _=>?_;have hfn:∀f fn,(I.qj kd).fns f=some fn->∃d,I.df f=some d/\d.fn=fn:=λf fn h=>by
  have h':(I.df f).map (·.fn)=some fn:=h;cases e:I.df f with
  |none=>(replace h':=e▸h');exact bS h'
  |some d=>(replace h':=e▸h');exact⟨d,rfl,by simpa using h'⟩
 refine ca (IH hcd) λc RQ ic hd=>?_;refine gg (TE c RQ) λC NA mN hC RR=>?_;have PL:=RR.ofCmp;refine aZ (aS ic) λQJ RS=>?_;refine aZ (aS QJ) λhcn RT=>?_;replace hC:=((of_decide_eq_true hcn))▸hC;have ok:∀{f:Nat}{d:Df},I.df f=some d->_:=λ{f d} h=>Pr (CE:=CE) (prog:=prog) (w:=w) (sA:=sA) (script:=script) T PL hd h;have bb:cG (iy prog w bA.heap sA script I kd mg C CE mN):=by
  refine⟨T.nolimit,⟨mg,mb,T.g,T.b,λf fn h hg=>?_,λg u h=>?_,λb hb'=>?_⟩,?_,⟨xs,hl,hi⟩,bR NR (by decide),mg,NA,mN,T.g,hC,⟨PL.cls,PL.quiet _ (List.mem_append_left _ (.head _)),PL.quiet _ (List.mem_append_left _ (.tail _ (.head _))),PL.quiet _ (List.mem_append_left _ (.tail _ (.tail _ (.head _)))),PL.quiet _ (List.contains_iff_mem.mp RT),λf fn h hg=>?_,Mj PL RS⟩⟩
  ·obtain⟨d,hd',_⟩:=hfn f fn h;exact(ok hd').1 ‹_›
  ·have h':(I.cn g).map (·.2)=some u:=h;cases e:I.cn g with
   |none=>(replace h':=e▸h');exact bS h'
   |some x=>
    replace h':=e▸h';have hu:x.2=u:=by simpa using h'
    (clear h';(clear h;subst hu));have hg:(iy prog w bA.heap sA script I kd mg C CE mN).gN g=x.1:=by
     show((I.cn g).map (·.1)).getD ("":Str)=_
     (refine e.symm▸?_);rfl
    refine hg.symm▸?_;have hx:constOk view x=true:=List.all_eq_true.mp hc (some x) (NP e);obtain⟨x1,x2⟩:=x;clear hg e;cases x2 with
    |int j=>
     have hx:xK (valOf view x1) j=true:=hx;obtain⟨v,hv,hr⟩:=T.const _ _ (Jk hx);refine⟨v,hv,λR ρ h _ _=>?_⟩;have:=hr h;cases this;exact .int _ _
    |str j=>
     have hx:xM (valOf view x1) j=true:=hx;obtain⟨v,hv,hr⟩:=T.const _ _ (Jl hx);refine⟨v,hv,λR ρ h _ _=>?_⟩;have:=hr h;cases this;exact .str _ _
    |ax vs=>
     have hx:((PySem.W.wlitsOf view).any λc=>decide (c.1=x1)&&Fh c.2 vs)=true:=hx;refine aM (List.any_eq_true.mp hx) λc hc' hq=>?_;rw[Bool.and_eq_true] at hq;refine aM (TW.lits c hc') λv hv hr=>?_;refine⟨v,by(refine(of_decide_eq_true hq.1)▸?_);exact hv,λR ρ h hk hR=>?_⟩;obtain⟨c1,c2⟩:=c;clear hv hc';cases c2 with
     |tuple ds=>
      cases hr with
      |@tuple a o us m _ as e1 e2 e3 e4=>
       refine .ax ⟨o,hk _ _ e1,e2,m,?_⟩ (BW (hq.2) e4) λq=>?_
       ·refine e3.symm▸?_;with_reducible rfl
       ·have zv:(iy prog w bA.heap sA script I kd mg C CE mN).hb.get? a=some o:=e1;(replace zv:=(hR a q)▸zv);exact bS zv
     |_=>exact absurd (show false=true from hq.2) cE
    |_=>exact absurd (show false=true from hx) cE
  ·have hx:=List.all_eq_true.mp hb b hb';unfold Eo at hx;simp only[Bool.and_eq_true,Bool.not_eq_true',List.contains_eq_mem,decide_eq_false_iff_not,beq_eq_false_iff_ne,ne_eq] at hx;exact⟨T.free b hx.1.1.1.1.1 hx.1.1.1.1.2 hx.1.1.1.2 hx.1.1.2 hx.1.2,T.builtins b hx.2⟩
  ·obtain⟨mm,⟨o,_,_,ho,_⟩,_⟩:=hs.mods;exact⟨o,ho⟩
  ·obtain⟨d,hd',_⟩:=hfn f fn h;refine k8 ((ok hd').2.1 hg) λq1 q2 q3=>?_;exact⟨q1,q2,KH q3⟩
 have hF:∀f fn,(iy prog w bA.heap sA script I kd mg C CE mN).P.fns f=some fn->∃fd N body,qv (iy prog w bA.heap sA script I kd mg C CE mN) f fn fd N body:=λf fn h=>by
  refine bB λXx aI=>?_;refine aM (hfn f fn h) λd hd' bc=>?_;clear h;subst bc;obtain⟨_,_,fd,body,q⟩:=ok hd';refine aI ?_;exact⟨fd,_,body,q⟩
 have F:iK (iy prog w bA.heap sA script I kd mg C CE mN):=λf fn h=>by
  refine kt (hF f fn h) λfd N body q=>?_;refine aM (q.obj) λo h1 h2=>?_;exact⟨o,fd,h1,h2⟩
 have W:kG (iy prog w bA.heap sA script I kd mg C CE mN):=by
  have q1:∀f fn,(I.qj kd).fns f=some fn->(I.aC kd).q f=true->m3 (I.aC kd).q ((I.aC kd).io 0) fn.body=true:=λf fn h hq=>by
   refine aM (Cw Go f (Bool.or_eq_true_iff.mpr (.inr hq))) λd hd hd'=>?_;refine aM (hfn f fn h) λd' e1 e2=>?_;(replace e1:=hd▸e1);(refine dt e1 λaL=>?_;(clear e1;subst aL))
   (refine e2▸?_);exact hd' hq
  refine⟨⟨mg,T.g,OE⟩,λf hx=>?_,λn f vs hq=>Bh q1 n f vs (decide_eq_true hq)⟩
  obtain⟨d,hd,_⟩:=Cw Go f (by
   rcases hx with hx|hx
   ·exact Bool.or_eq_true_iff.mpr (.inl (decide_eq_true hx))
   ·exact Bool.or_eq_true_iff.mpr (.inr (decide_eq_true hx)))
  exact⟨d.fn,by show(I.df f).map (·.fn)=_;(refine hd.symm▸?_);rfl⟩
 have hcall:=(BV bb F hF W 690).2.2;have RU:(iy prog w bA.heap sA script I kd mg C CE mN).fA L=fa:=by
  have h1:=(ok hL).1 RP;have hN:(I.aC kd).fN L=dL.name:=by
   show((I.df L).map (·.name)).getD ("":Str)=_
   (refine hL.symm▸?_);rfl
  replace h1:=zu▸(hN▸h1);cases h1;rfl
 have:=hcall callerA ⟨rfl,by decide+kernel,by decide+kernel⟩ [] L hkd [.cy] [.ref sA] bA [] [] Q E (⟨λ_ _ e=>e,rfl,List.nodup_nil,λ_ h=>(nomatch h),λi a o h=>by simp at h,λ_ h=>(nomatch h),λ_ h=>(nomatch h)⟩) (.cons .cy .nil) ⟨rfl,trivial,λ_ h=>(nomatch h)⟩ (λ_ h=>(nomatch h)) ?_
 ·(replace this:=RU▸this);exact this
 ·show zr _ _ (av (I.qj kd) script 690 L [.cy] []) [] bA Q;refine si.symm▸?_;intro b h' tk aw st S' r;(apply oQ r);exact hQ h' tk S'.base
end
end Qh
set_option backward.match.sparseCases false
set_option compiler.extract_closed false in
local macro_rules (kind:=«term{_}»)
|s=>λ_ t=>let d:=λn=>.node .none `Lean.Parser.Term.dotIdent #[.atom .none ".",Lean.mkIdent n];let a:=s.getArg 1;.ok (.node .none `Lean.Parser.Term.app #[d `cons,.node .none `null #[a.getArg 0,bif a.matchesNull 1 then d `nil else s.setArg 1 (.node .none `null (a.getArgs.extract 2))]]) t
namespace Qh
open PySem
def qQ:Fn:=⟨1,1,{.ite (.or {.cmp .Eq (.au (.aa 0) (.int 0)) (.str "num"),.cmp .Eq (.au (.aa 0) (.int 0)) (.str "name")}) {.ret (.ah .nil)} .nil,.ite (.or {.cmp .Eq (.au (.aa 0) (.int 0)) (.str "let"),.cmp .Eq (.au (.aa 0) (.int 0)) (.str "use")}) {.ret (.list (.slc (.aa 0) (.int 2) .none))} .nil,.ite (.cmp .Eq (.au (.aa 0) (.int 0)) (.str "turns")) {.ret (.ah {.au (.aa 0) (.int 3),.au (.aa 0) (.int 4)})} .nil,.ite (.cmp .Eq (.au (.aa 0) (.int 0)) (.str "def")) {.ret (.ah {.au (.aa 0) (.int 4),.au (.aa 0) (.int 5)})} .nil,.ret (.list (.slc (.aa 0) (.int 1) .none))}⟩
def Hx:List Str:=["term"]
def qZ:Fn:=⟨1,2,{.ret (.aj .Add (.int 1) (.sum (.comp (.call 1 {.aa 1}) 1 [] (.call 0 {.aa 0}))))}⟩
def HJ:List Str:=["term","part"]
def qR:Fn:=⟨1,2,{.ret (.aj .Add (.int 1) (.g7 (.comp (.call 2 {.aa 1}) 1 [] (.call 0 {.aa 0}))))}⟩
def Hz:List Str:=["term","part"]
def sS:Fn:=⟨2,2,{.ite (.cmp .Lt (.aa 1) (.len (.aa 0))) {.ret (.au (.aa 0) (.aa 1))} .nil,.ret (.int 0)}⟩
def G8:List Str:=["_law_script","_law_k"]
def wb:Fn:=⟨2,3,{.aK 2 (.aj .Mod (.aj .Mult (.aj .Add (.call 3 {.aa 0,.aa 1}) (.aj .Mult (.int 7919) (.aa 1))) (.int 48271)) (.int 2147483647)),.ret (.aj .Mod (.aj .Add (.aj .Add (.aj .Mult (.aa 2) (.aa 2)) (.aj .Mult (.int 7) (.aa 2))) (.aa 1)) (.int 2147483629))}⟩
def Hl:List Str:=["_law_script","_law_k","_law_number_here"]
def Aj:Fn:=⟨2,4,{.aK 2 (.ah .nil),.kA 3 (.aa 1) {.append (.aa 2) (.aj .Mod (.aa 0) (.aa 3)),.aK 0 (.aj .FloorDiv (.aa 0) (.aa 3))},.ret (.aa 2)}⟩
def Hm:List Str:=["_law_number_here","_law_sizes","_law_some","_law_size"]
def pq:Fn:=⟨1,1,{.ret (.and {.cS "int" (.aa 0),.not (.cS "bool" (.aa 0))})}⟩
def Hn:List Str:=["_law_found"]
def tc:Fn:=⟨2,8,{.aK 2 (.str "abcdefghijklmnopqrstuvwxyz"),.aK 3 (.call 4 {.aa 0,.int 0}),.ite (.and {.cmp .Eq (.aj .Mod (.aa 3) (.int 8)) (.int 7),.cmp .Eq (.aj .Mod (.aj .FloorDiv (.aa 3) (.int 8)) (.int 2)) (.int 0)}) {.aK 5 (.ah {.str "num",.str "name",.str "let",.str "quote",.str "hole",.str "run",.str "use",.str "lift"}),.ret (.au (.aa 5) (.aj .Mod (.aj .Add (.aj .FloorDiv (.aa 3) (.int 16)) (.aa 1)) (.int 8)))} .nil,.aK 4 (.aj .Add (.int 1) (.aj .Mod (.aa 3) (.int 8))),.aK 5 (.fH (.au (.aa 2) (.aj .Mod (.aj .Add (.aj .FloorDiv (.aa 3) (.int 64)) (.aj .Mult (.int 5) (.aa 7))) (.int 26))) 7 [2,3] (.aa 4)),.aK 6 (.aj .Mod (.aj .FloorDiv (.aa 3) (.int 8)) (.aa 4)),.fh (.aa 5) (.aa 6) (.au (.aa 2) (.aj .Mod (.aj .Add (.aj .Add (.aj .FloorDiv (.aa 3) (.int 64)) (.aj .Mult (.int 5) (.aa 6))) (.aa 1)) (.int 26))),.ret (.join (.str "") (.aa 5))}⟩
def HA:List Str:=["_law_script","_law_which","_law_letters","_law_number_here","_law_size","_law_some","_law_at","_law_k"]
def AJ:Fn:=⟨2,2,{.fh (.aa 1) (.int 0) (.aj .Add (.au (.aa 1) (.int 0)) (.int 1)),.ret (.call 4 {.aa 0,.au (.aa 1) (.int 0)})}⟩
def HB:List Str:=["_law_script","_law_state"]
def sU:Fn:=⟨1,2,{.aK 1 (.ah {.aj .Mod (.aa 0) (.int 3),.aj .Mod (.aa 0) (.int 1000),.aj .Sub (.neg (.int 1)) (.aj .Mod (.aa 0) (.int 9)),.aj .Add (.aj .Mult (.int 1000003) (.aj .Mod (.aa 0) (.int 2))) (.aj .Mod (.aa 0) (.int 5)),.aj .Pow (.int 10) (.int 20)}),.ret (.au (.aj .Add (.aa 1) (.ah {.neg (.aa 0)})) (.aj .Mod (.aj .FloorDiv (.aa 0) (.int 1000)) (.int 6)))}⟩
def He:List Str:=["_law_number_here","_law_some"]
def wc:Fn:=⟨1,2,{.ite (.cmp .In (.au (.aa 0) (.int 0)) (.ax {.str "num",.str "name"})) {.ret (.ah .nil)} .nil,.ite (.cmp .Eq (.au (.aa 0) (.int 0)) (.str "let")) {.ret (.ah {.au (.aa 0) (.int 2),.au (.aa 0) (.int 3)})} .nil,.ite (.cmp .Eq (.au (.aa 0) (.int 0)) (.str "turns")) {.ret (.ah {.au (.aa 0) (.int 3),.au (.aa 0) (.int 4)})} .nil,.ite (.cmp .Eq (.au (.aa 0) (.int 0)) (.str "def")) {.ret (.ah {.au (.aa 0) (.int 4),.au (.aa 0) (.int 5)})} .nil,.ite (.cmp .Eq (.au (.aa 0) (.int 0)) (.str "use")) {.ret (.ah {.au (.aa 0) (.int 2)})} .nil,.ret (.comp (.aa 1) 1 [] (.slc (.aa 0) (.int 1) .none))}⟩
def nM:Fn:=⟨3,4,{.aK 3 (.dict (.aa 0)),.fh (.aa 3) (.aa 1) (.aa 2),.ret (.aa 3)}⟩
def Ho:List Str:=["names","name","meaning","found"]
def Ac:Fn:=⟨3,3,{.ite (.cmp .NotIn (.aa 0) (.aa 2)) {.raise 1 "a name that means nothing"} .nil,.ite (.cmp .NotEq (.au (.au (.aa 2) (.aa 0)) (.int 0)) (.aa 1)) {.raise 2 "a name of another level"} .nil,.ret (.au (.aa 2) (.aa 0))}⟩
def Hf:List Str:=["name","level","names"]
def v3:Fn:=⟨3,3,{.ite (.or {.and {.cmp .Eq (.aa 0) (.str "hole"),.cmp .Eq (.aa 1) (.int 0)},.and {.cmp .In (.aa 0) (.ax {.str "quote",.str "lift",.str "run"}),.cmp .Eq (.aa 1) (.int 1)}}) {.raise 2 "what stands at a wrong level"} .nil,.ite (.and {.cmp .Eq (.aa 0) (.str "run"),.not (.aa 2)}) {.raise 2 "a run where it may not be"} .nil}⟩
def Hg:List Str:=["word","level","is_free"]
def Ak:Fn:=⟨5,5,{.ite (.cmp .NotEq (.call 46 {.aa 1,.aa 2,.aa 3,.aa 4}) (.aa 0)) {.raise 3 "a term of another kind"} .nil}⟩
def Hp:List Str:=["kind","term","level","names","is_free"]
def wI:Fn:=⟨4,7,{.aK 4 (.au (.aa 0) (.int 0)),.expr (.call 44 {.aa 4,.aa 1,.aa 3}),.ite (.cmp .Eq (.aa 4) (.str "num")) {.ret (.glob 0)} .nil,.ite (.cmp .Eq (.aa 4) (.str "name")) {.aK 5 (.call 43 {.au (.aa 0) (.int 1),.aa 1,.aa 2}),.ite (.cmp .NotEq (.len (.aa 5)) (.int 2)) {.raise 3 "a function that isn't used"} .nil,.ret (.au (.aa 5) (.int 1))} .nil,.ite (.cmp .Eq (.aa 4) (.str "when")) {.expr (.call 45 {.glob 0,.au (.aa 0) (.int 1),.aa 1,.aa 2,.aa 3}),.aK 6 (.call 46 {.au (.aa 0) (.int 2),.aa 1,.aa 2,.aa 3}),.expr (.call 45 {.aa 6,.au (.aa 0) (.int 3),.aa 1,.aa 2,.aa 3}),.ret (.aa 6)} .nil,.ite (.cmp .Eq (.aa 4) (.str "use")) {.aK 5 (.call 43 {.au (.aa 0) (.int 1),.aa 1,.aa 2}),.ite (.cmp .NotEq (.len (.aa 5)) (.int 3)) {.raise 3 "no function"} .nil,.expr (.call 45 {.au (.aa 5) (.int 1),.au (.aa 0) (.int 2),.aa 1,.aa 2,.aa 3}),.ret (.au (.aa 5) (.int 2))} .nil,.ite (.cmp .In (.aa 4) (.ax {.str "let",.str "turns",.str "def"})) {.ret (.call 47 {.aa 0,.aa 1,.aa 2,.aa 3})} .nil,.ret (.call 48 {.aa 0,.aa 1,.aa 2,.aa 3})}⟩
def HL:List Str:=["term","level","names","is_free","word","meaning","kind"]
def z7:Fn:=⟨4,5,{.ite (.cmp .Eq (.au (.aa 0) (.int 0)) (.str "let")) {.aK 4 (.call 46 {.au (.aa 0) (.int 2),.aa 1,.aa 2,.aa 3}),.ret (.call 46 {.au (.aa 0) (.int 3),.aa 1,.call 18 {.aa 2,.au (.aa 0) (.int 1),.ax {.aa 1,.aa 4}},.aa 3})} .nil,.ite (.cmp .Eq (.au (.aa 0) (.int 0)) (.str "turns")) {.aK 4 (.call 46 {.au (.aa 0) (.int 3),.aa 1,.aa 2,.aa 3}),.expr (.call 45 {.aa 4,.au (.aa 0) (.int 4),.aa 1,.call 18 {.aa 2,.au (.aa 0) (.int 2),.ax {.aa 1,.aa 4}},.aa 3}),.ret (.aa 4)} .nil,.ite (.and {.cmp .Eq (.aa 1) (.int 1),.cmp .Eq (.au (.aa 0) (.int 3)) (.glob 1)}) {.raise 3 "a function of pieces within a quote"} .nil,.aK 4 (.call 46 {.au (.aa 0) (.int 4),.aa 1,.call 18 {.aa 2,.au (.aa 0) (.int 2),.ax {.aa 1,.au (.aa 0) (.int 3)}},.bool false}),.ret (.call 46 {.au (.aa 0) (.int 5),.aa 1,.call 18 {.aa 2,.au (.aa 0) (.int 1),.ax {.aa 1,.au (.aa 0) (.int 3),.aa 4}},.aa 3})}⟩
def G9:List Str:=["term","level","names","is_free","kind"]
def Ad:Fn:=⟨4,5,{.aK 4 (.au (.aa 0) (.int 0)),.ite (.cmp .Eq (.aa 4) (.str "quote")) {.expr (.call 45 {.glob 0,.au (.aa 0) (.int 1),.int 1,.aa 2,.bool false}),.ret (.glob 1)} .nil,.ite (.cmp .Eq (.aa 4) (.str "hole")) {.expr (.call 45 {.glob 1,.au (.aa 0) (.int 1),.int 0,.aa 2,.bool false}),.ret (.glob 0)} .nil,.ite (.cmp .Eq (.aa 4) (.str "lift")) {.expr (.call 45 {.glob 0,.au (.aa 0) (.int 1),.aa 1,.aa 2,.aa 3}),.ret (.glob 1)} .nil,.ite (.cmp .Eq (.aa 4) (.str "run")) {.expr (.call 45 {.glob 1,.au (.aa 0) (.int 1),.aa 1,.aa 2,.aa 3}),.ret (.glob 0)} .nil,.expr (.call 45 {.glob 0,.au (.aa 0) (.int 1),.aa 1,.aa 2,.aa 3}),.expr (.call 45 {.glob 0,.au (.aa 0) (.int 2),.aa 1,.aa 2,.aa 3}),.ret (.glob 0)}⟩
def Hh:List Str:=["term","level","names","is_free","word"]
def Bj:Fn:=⟨1,1,{.ret (.call 46 {.aa 0,.int 0,.aD [] .nil,.bool true})}⟩
def HM:List Str:=["term"]
def qS:Fn:=⟨3,7,{.aK 3 (.ah .nil),.eP 4 (.len (.aa 0)) {.aK 5 (.f9 (.aa 6) 6 [0,4] (.slc (.aa 0) (.aj .Add (.aa 4) (.int 1)) .none) (.cmp .Eq (.au (.aa 6) (.int 0)) (.au (.au (.aa 0) (.aa 4)) (.int 0)))),.ite (.and {.cmp .Eq (.aa 5) (.ah .nil),.cmp .Eq (.au (.au (.aa 0) (.aa 4)) (.int 1)) (.aa 1),.cmp .In (.au (.au (.aa 0) (.aa 4)) (.int 2)) (.aa 2)}) {.append (.aa 3) (.au (.aa 0) (.aa 4))} .nil},.ret (.aa 3)}⟩
def HC:List Str:=["_law_scope","_law_level","_law_kinds","_law_found","_law_k","_law_hidden","_law_one"]
def td:Fn:=⟨6,9,{.aK 6 (.call 30 {.aa 4,.aa 2,.ah {.ax {.aa 3}}}),.aK 7 (.call 30 {.aa 4,.aj .Sub (.int 1) (.aa 2),.au (.ah {.ah {.ax {.str "number"}},.ah {.ax {.str "piece"}}}) (.aa 2)}),.ite (.and {.cmp .Gt (.aj .Mod (.aa 5) (.int 4)) (.int 0),.cmp .NotEq (.aa 6) (.ah .nil),.or {.cmp .Eq (.aj .Mod (.aj .FloorDiv (.aa 5) (.int 4)) (.int 3)) (.int 0),.cmp .Eq (.aa 7) (.ah .nil)}}) {.ret (.ax {.str "name",.au (.au (.aa 6) (.aj .Mod (.aj .FloorDiv (.aa 5) (.int 12)) (.len (.aa 6)))) (.int 0)})} .nil,.aK 8 (.ax {.str "num",.call 9 {.aj .FloorDiv (.aa 5) (.int 16)}}),.ite (.and {.cmp .Eq (.aa 2) (.int 1),.cmp .NotEq (.aa 7) (.ah .nil),.cmp .Gt (.aj .Mod (.aa 5) (.int 4)) (.int 0)}) {.ret (.ax {.str "hole",.ax {.str "name",.au (.au (.aa 7) (.aj .Mod (.aj .FloorDiv (.aa 5) (.int 12)) (.len (.aa 7)))) (.int 0)}})} .nil,.ite (.cmp .Eq (.aa 3) (.str "number")) {.ret (.aa 8)} .nil,.ite (.and {.cmp .NotEq (.aa 7) (.ah .nil),.cmp .Gt (.aj .Mod (.aa 5) (.int 4)) (.int 0)}) {.ret (.ax {.str "quote",.ax {.str "name",.au (.au (.aa 7) (.aj .Mod (.aj .FloorDiv (.aa 5) (.int 12)) (.len (.aa 7)))) (.int 0)}})} .nil,.ret (.au (.ah {.ax {.str "lift",.aa 8},.ax {.str "quote",.aa 8}}) (.aj .Mod (.aj .FloorDiv (.aa 5) (.int 16)) (.int 2)))}⟩
def HD:List Str:=["_law_script","_law_state","_law_level","_law_kind","_law_scope","_law_number_here","_law_found","_law_other","_law_leaf_here"]
def wd:Fn:=⟨3,4,{.aK 3 (.ah {.str "let",.str "turns",.str "def",.str "when",.str "use",.str "use"}),.ite (.cmp .Eq (.aa 1) (.str "piece")) {.ret (.aj .Add (.aa 3) (.ah {.str "quote",.str "quote",.str "quote",.str "quote",.str "quote",.str "quote",.str "lift"}))} .nil,.ite (.cmp .Eq (.aa 0) (.int 1)) {.ret (.aj .Add (.aa 3) (.ah {.str "sum",.str "sum",.str "product",.str "less",.str "hole",.str "hole",.str "kept",.str "kept",.str "kept",.str "kept",.str "kept"}))} .nil,.ite (.aa 2) {.ret (.aj .Add (.aa 3) (.ah {.str "sum",.str "product",.str "less",.str "run",.str "run",.str "run",.str "run",.str "run",.str "run"}))} .nil,.ret (.aj .Add (.aa 3) (.ah {.str "sum",.str "product",.str "less"}))}⟩
def Hq:List Str:=["_law_level","_law_kind","_law_free","_law_some"]
def th:Fn:=⟨7,12,{.aK 7 (.call 8 {.aa 0,.aa 1}),.fh (.aa 1) (.int 1) (.aj .Add (.au (.aa 1) (.int 1)) (.int 1)),.ite (.or {.cmp .Eq (.aa 5) (.int 0),.cmp .Gt (.au (.aa 1) (.int 1)) (.int 60)}) {.ret (.call 31 {.aa 0,.aa 1,.aa 2,.aa 3,.aa 4,.aa 7})} .nil,.aK 8 (.call 32 {.aa 2,.aa 3,.aa 6}),.aK 9 (.au (.aa 8) (.aj .Mod (.aa 7) (.len (.aa 8)))),.aK 7 (.aj .FloorDiv (.aa 7) (.len (.aa 8))),.ite (.cmp .In (.aa 9) (.ax {.str "let",.str "turns",.str "def",.str "use",.str "kept"})) {.ret (.call 35 {.aa 0,.aa 1,.ah {.aa 9,.aa 2,.aa 3,.aa 6},.aa 4,.aj .Sub (.aa 5) (.int 1),.aa 7})} .nil,.ite (.cmp .Eq (.aa 9) (.str "quote")) {.ret (.ax {.str "quote",.call 33 {.aa 0,.aa 1,.int 1,.str "number",.aa 4,.aj .Sub (.aa 5) (.int 1),.bool false}})} .nil,.ite (.cmp .Eq (.aa 9) (.str "hole")) {.ret (.ax {.str "hole",.call 33 {.aa 0,.aa 1,.int 0,.str "piece",.aa 4,.aj .Sub (.aa 5) (.int 1),.bool false}})} .nil,.ite (.cmp .Eq (.aa 9) (.str "lift")) {.ret (.ax {.str "lift",.call 33 {.aa 0,.aa 1,.int 0,.str "number",.aa 4,.aj .Sub (.aa 5) (.int 1),.aa 6}})} .nil,.ite (.cmp .Eq (.aa 9) (.str "run")) {.ret (.ax {.str "run",.call 33 {.aa 0,.aa 1,.int 0,.str "piece",.aa 4,.aj .Sub (.aa 5) (.int 1),.aa 6}})} .nil,.aK 10 (.call 33 {.aa 0,.aa 1,.aa 2,.str "number",.aa 4,.aj .Sub (.aa 5) (.int 1),.aa 6}),.ite (.cmp .NotEq (.aa 9) (.str "when")) {.ret (.ax {.aa 9,.aa 10,.call 33 {.aa 0,.aa 1,.aa 2,.str "number",.aa 4,.aj .Sub (.aa 5) (.int 1),.aa 6}})} .nil,.aK 11 (.call 33 {.aa 0,.aa 1,.aa 2,.aa 3,.aa 4,.aj .Sub (.aa 5) (.int 1),.aa 6}),.ret (.ax {.str "when",.aa 10,.aa 11,.call 33 {.aa 0,.aa 1,.aa 2,.aa 3,.aa 4,.aj .Sub (.aa 5) (.int 1),.aa 6}})}⟩
def HE:List Str:=["_law_script","_law_state","_law_level","_law_kind","_law_scope","_law_depth","_law_free","_law_number_here","_law_words_here","_law_word","_law_one","_law_other"]
def we:Fn:=⟨5,10,{.aK 5 (.call 7 {.aa 0,.au (.ah {.int 0,.int 0,.int 1,.int 2}) (.aj .Mod (.aa 4) (.int 4))}),.aK 6 (.aj .Add (.aa 2) (.ah {.ax {.aa 5,.int 1,.ax {.str "number"}}})),.aK 7 (.call 30 {.aa 6,.int 0,.ah {.ax {.str "piece"}}}),.aK 8 (.ax {.str "name",.aa 5}),.ite (.cmp .NotEq (.aa 7) (.ah .nil)) {.aK 8 (.ax {.str "hole",.ax {.str "name",.au (.au (.aa 7) (.aj .Mod (.aj .FloorDiv (.aa 4) (.int 4)) (.len (.aa 7)))) (.int 0)}})} .nil,.aK 9 (.call 33 {.aa 0,.aa 1,.int 1,.str "number",.aa 6,.aa 3,.bool false}),.ret (.ax {.str "let",.aa 5,.ax {.str "num",.aj .Mod (.aj .FloorDiv (.aa 4) (.int 16)) (.int 50)},.ax {.str "sum",.aa 8,.aa 9}})}⟩
def sT:Fn:=⟨6,20,{.hY [13,14,15,16] (.aa 2),.aK 6 (.call 7 {.aa 0,.au (.ah {.int 0,.int 0,.int 1,.int 2}) (.aj .Mod (.aa 5) (.int 4))}),.aK 7 (.call 7 {.aa 0,.au (.ah {.int 1,.int 2,.int 1,.int 0}) (.aj .Mod (.aj .FloorDiv (.aa 5) (.int 4)) (.int 4))}),.aK 8 (.au (.ah {.str "number",.str "piece"}) (.aj .Mult (.aj .Mod (.aj .FloorDiv (.aa 5) (.int 16)) (.int 2)) (.aj .Sub (.int 1) (.aa 14)))),.aK 5 (.aj .FloorDiv (.aa 5) (.int 2)),.ite (.cmp .Eq (.aa 13) (.str "kept")) {.aK 17 (.ax {.str "num",.call 9 {.aj .FloorDiv (.aa 5) (.int 18)}}),.ite (.cmp .Eq (.aj .Mod (.aj .FloorDiv (.aa 5) (.int 16)) (.int 2)) (.int 0)) {.aK 17 (.call 33 {.aa 0,.aa 1,.int 1,.str "number",.aa 3,.max2 (.int 0) (.aj .Sub (.aa 4) (.int 1)),.bool false})} .nil,.aK 12 (.aj .Add (.aa 3) (.ah {.ax {.aa 6,.int 1,.ax {.str "number"}},.ax {.aa 7,.int 0,.ax {.str "piece"}}})),.ite (.cmp .Eq (.aj .Mod (.aj .FloorDiv (.aa 5) (.int 5000)) (.int 2)) (.int 0)) {.aK 19 (.call 34 {.aa 0,.aa 1,.aa 12,.max2 (.int 0) (.aj .Sub (.aa 4) (.int 2)),.aj .FloorDiv (.aa 5) (.int 10000)})} {.aK 19 (.call 33 {.aa 0,.aa 1,.int 1,.str "number",.aa 12,.max2 (.int 0) (.aj .Sub (.aa 4) (.int 1)),.bool false})},.ret (.ax {.str "let",.aa 6,.aa 17,.ax {.str "hole",.ax {.str "let",.aa 7,.ax {.str "quote",.ax {.str "name",.aa 6}},.ax {.str "quote",.aa 19}}}})} .nil,.ite (.cmp .Eq (.aa 13) (.str "let")) {.aK 17 (.call 33 {.aa 0,.aa 1,.aa 14,.aa 8,.aa 3,.aa 4,.aa 16}),.ret (.ax {.str "let",.aa 6,.aa 17,.call 33 {.aa 0,.aa 1,.aa 14,.aa 15,.aj .Add (.aa 3) (.ah {.ax {.aa 6,.aa 14,.ax {.aa 8}}}),.aa 4,.aa 16}})} .nil,.ite (.cmp .Eq (.aa 13) (.str "turns")) {.aK 18 (.au (.ah {.int 0,.int 1,.int 2,.int 3,.int 2,.int 3,.int 1,.int 9}) (.aj .Mod (.aj .FloorDiv (.aa 5) (.int 18)) (.int 8))),.ite (.cmp .Gt (.aa 4) (.int 1)) {.aK 18 (.aj .Mod (.aa 18) (.int 4))} .nil,.aK 17 (.call 33 {.aa 0,.aa 1,.aa 14,.aa 15,.aa 3,.aa 4,.aa 16}),.aK 12 (.aj .Add (.aa 3) (.ah {.ax {.aa 6,.aa 14,.ax {.aa 15}}})),.ret (.ax {.str "turns",.aa 18,.aa 6,.aa 17,.call 33 {.aa 0,.aa 1,.aa 14,.aa 15,.aa 12,.aa 4,.aa 16}})} .nil,.aK 9 (.call 30 {.aa 3,.aa 14,.ah {.ax {.str "number",.aa 15},.ax {.str "piece",.aa 15}}}),.ite (.and {.cmp .Eq (.aa 13) (.str "use"),.cmp .NotEq (.aa 9) (.ah .nil)}) {.aK 17 (.au (.aa 9) (.aj .Mod (.aj .FloorDiv (.aa 5) (.int 18)) (.len (.aa 9)))),.ret (.ax {.str "use",.au (.aa 17) (.int 0),.call 33 {.aa 0,.aa 1,.aa 14,.au (.au (.aa 17) (.int 2)) (.int 0),.aa 3,.aa 4,.aa 16}})} .nil,.aK 10 (.au (.ah {.str "number",.str "piece"}) (.aj .Mult (.aj .Mod (.aj .FloorDiv (.aa 5) (.int 18)) (.int 2)) (.aj .Sub (.int 1) (.aa 14)))),.aK 11 (.call 33 {.aa 0,.aa 1,.aa 14,.aa 10,.aj .Add (.aa 3) (.ah {.ax {.aa 6,.aa 14,.ax {.aa 8}}}),.aa 4,.bool false}),.aK 12 (.aj .Add (.aa 3) (.ah {.ax {.aa 7,.aa 14,.ax {.aa 8,.aa 10}}})),.ret (.ax {.str "def",.aa 7,.aa 6,.aa 8,.aa 11,.call 33 {.aa 0,.aa 1,.aa 14,.aa 15,.aa 12,.aa 4,.aa 16}})}⟩
def HR:Fn:=⟨1,1,{.g9 {.ret (.call 49 {.aa 0})} 0 {.ret .none}}⟩
def KJ:Fn:=⟨1,4,{.aK 1 (.au (.ah {.str "number",.str "piece"}) (.aj .Mod (.call 4 {.aa 0,.int 1}) (.int 2))),.aK 2 (.call 33 {.aa 0,.ah {.int 1,.int 0},.int 0,.aa 1,.ah .nil,.aj .Sub (.int 5) (.aj .FloorDiv (.aj .Mod (.aj .FloorDiv (.call 4 {.aa 0,.int 1}) (.int 2)) (.int 8)) (.int 3)),.bool true}),.ite (.cmp .NotEq (.call 51 {.aa 2}) (.aa 1)) {.ret (.bool false)} .nil,.ite (.cmp .Eq (.aa 1) (.str "piece")) {.ret (.and {.cmp .Eq (.call 51 {.ax {.str "run",.aa 2}}) (.str "number"),.cmp .Eq (.call 51 {.aa 2}) (.aa 1)})} .nil,.aK 3 (.ax {.str "quote",.ax {.str "hole",.ax {.str "lift",.ax {.str "num",.int 1}}}}),.ret (.and {.cmp .Eq (.call 51 {.ax {.str "lift",.aa 2}}) (.str "piece"),.cmp .Eq (.call 51 {.aa 3}) (.str "piece")})}⟩
def AK:Fn:=⟨3,3,{.ite (.cmp .Eq (.aa 0) (.str "sum")) {.ret (.aj .Mod (.aj .Add (.aa 1) (.aa 2)) (.glob 2))} .nil,.ite (.cmp .Eq (.aa 0) (.str "product")) {.ret (.aj .Mod (.aj .Mult (.aa 1) (.aa 2)) (.glob 2))} .nil,.ret (.toInt (.cmp .Lt (.aa 1) (.aa 2)))}⟩
def HF:List Str:=["word","one","other"]
def Ae:Fn:=⟨1,1,{.ite (.or {.cmp .Gt (.call 1 {.aa 0}) (.glob 3),.cmp .Gt (.call 2 {.aa 0}) (.glob 4)}) {.raise 7 "a piece too great"} .nil}⟩
def Hi:List Str:=["piece"]
def zW:Fn:=⟨1,1,{.ji (.aa 0) "many" (.aj .Add (.attr (.aa 0) "many") (.int 1)),.ret (.aj .Add (.str "v") (.toStr (.attr (.aa 0) "many")))}⟩
def G2:List Str:=["self"]
def vY:Fn:=⟨3,11,{.aK 3 (.au (.aa 1) (.int 0)),.ite (.cmp .Eq (.aa 3) (.str "num")) {.ret (.aj .Mod (.au (.aa 1) (.int 1)) (.glob 2))} .nil,.ite (.cmp .Eq (.aa 3) (.str "name")) {.ret (.au (.aa 2) (.au (.aa 1) (.int 1)))} .nil,.ite (.cmp .In (.aa 3) (.ax {.str "sum",.str "product",.str "less"})) {.aK 4 (.cB 27 (.aa 0) {.au (.aa 1) (.int 1),.aa 2}),.ret (.call 23 {.aa 3,.aa 4,.cB 27 (.aa 0) {.au (.aa 1) (.int 2),.aa 2}})} .nil,.ite (.cmp .Eq (.aa 3) (.str "when")) {.ite (.cmp .NotEq (.cB 27 (.aa 0) {.au (.aa 1) (.int 1),.aa 2}) (.int 0)) {.ret (.cB 27 (.aa 0) {.au (.aa 1) (.int 2),.aa 2})} .nil,.ret (.cB 27 (.aa 0) {.au (.aa 1) (.int 3),.aa 2})} .nil,.ite (.cmp .Eq (.aa 3) (.str "let")) {.aK 5 (.cB 27 (.aa 0) {.au (.aa 1) (.int 2),.aa 2}),.ret (.cB 27 (.aa 0) {.au (.aa 1) (.int 3),.call 18 {.aa 2,.au (.aa 1) (.int 1),.aa 5}})} .nil,.ite (.cmp .Eq (.aa 3) (.str "turns")) {.aK 5 (.cB 27 (.aa 0) {.au (.aa 1) (.int 3),.aa 2}),.eP 6 (.au (.aa 1) (.int 1)) {.aK 5 (.cB 27 (.aa 0) {.au (.aa 1) (.int 4),.call 18 {.aa 2,.au (.aa 1) (.int 2),.aa 5}})},.ret (.aa 5)} .nil,.ite (.cmp .Eq (.aa 3) (.str "def")) {.ret (.cB 27 (.aa 0) {.au (.aa 1) (.int 5),.call 18 {.aa 2,.au (.aa 1) (.int 1),.ax {.au (.aa 1) (.int 2),.au (.aa 1) (.int 4),.aa 2}}})} .nil,.ite (.cmp .Eq (.aa 3) (.str "use")) {.aK 5 (.cB 27 (.aa 0) {.au (.aa 1) (.int 2),.aa 2}),.hY [8,9,10] (.au (.aa 2) (.au (.aa 1) (.int 1))),.ret (.cB 27 (.aa 0) {.aa 9,.call 18 {.aa 10,.aa 8,.aa 5}})} .nil,.ite (.cmp .Eq (.aa 3) (.str "quote")) {.aK 7 (.cB 28 (.aa 0) {.au (.aa 1) (.int 1),.aa 2}),.expr (.call 24 {.aa 7}),.ret (.aa 7)} .nil,.ite (.cmp .Eq (.aa 3) (.str "lift")) {.ret (.ax {.str "num",.cB 27 (.aa 0) {.au (.aa 1) (.int 1),.aa 2}})} .nil,.ret (.cB 27 (.aa 0) {.cB 27 (.aa 0) {.au (.aa 1) (.int 1),.aa 2},.aD [] .nil})}⟩
def G5:List Str:=["self","term","names","word","one","here","turn","piece","parameter","body","around"]
def vZ:Fn:=⟨3,8,{.aK 3 (.au (.aa 1) (.int 0)),.ite (.cmp .Eq (.aa 3) (.str "num")) {.ret (.aa 1)} .nil,.ite (.cmp .Eq (.aa 3) (.str "name")) {.ret (.ax {.str "name",.au (.aa 2) (.au (.aa 1) (.int 1))})} .nil,.ite (.cmp .Eq (.aa 3) (.str "hole")) {.ret (.cB 27 (.aa 0) {.au (.aa 1) (.int 1),.aa 2})} .nil,.ite (.cmp .Eq (.aa 3) (.str "use")) {.ret (.ax {.str "use",.au (.aa 2) (.au (.aa 1) (.int 1)),.cB 28 (.aa 0) {.au (.aa 1) (.int 2),.aa 2}})} .nil,.ite (.cmp .Eq (.aa 3) (.str "let")) {.aK 4 (.cB 26 (.aa 0) .nil),.aK 5 (.cB 28 (.aa 0) {.au (.aa 1) (.int 2),.aa 2}),.ret (.ax {.aa 3,.aa 4,.aa 5,.cB 28 (.aa 0) {.au (.aa 1) (.int 3),.call 18 {.aa 2,.au (.aa 1) (.int 1),.aa 4}}})} .nil,.ite (.cmp .Eq (.aa 3) (.str "turns")) {.aK 4 (.cB 26 (.aa 0) .nil),.aK 5 (.cB 28 (.aa 0) {.au (.aa 1) (.int 3),.aa 2}),.ret (.ax {.aa 3,.au (.aa 1) (.int 1),.aa 4,.aa 5,.cB 28 (.aa 0) {.au (.aa 1) (.int 4),.call 18 {.aa 2,.au (.aa 1) (.int 2),.aa 4}}})} .nil,.ite (.cmp .Eq (.aa 3) (.str "def")) {.aK 4 (.cB 26 (.aa 0) .nil),.aK 6 (.cB 26 (.aa 0) .nil),.aK 5 (.cB 28 (.aa 0) {.au (.aa 1) (.int 4),.call 18 {.aa 2,.au (.aa 1) (.int 2),.aa 6}}),.ret (.ax {.aa 3,.aa 4,.aa 6,.au (.aa 1) (.int 3),.aa 5,.cB 28 (.aa 0) {.au (.aa 1) (.int 5),.call 18 {.aa 2,.au (.aa 1) (.int 1),.aa 4}}})} .nil,.ret (.aj .Add (.ax {.aa 3}) (.tuple (.comp (.cB 28 (.aa 0) {.aa 7,.aa 2}) 7 [2,0] (.slc (.aa 1) (.int 1) .none))))}⟩
def G6:List Str:=["self","term","names","word","new","one","parameter","part"]
def Dk:Fn:=⟨1,1,{.ite (.cmp .NotEq (.call 49 {.aa 0}) (.glob 0)) {.raise 3 "a piece"} .nil,.ret (.cB 27 (.new 5) {.aa 0,.aD [] .nil})}⟩
def H0:List Str:=["term"]
def Dl:Fn:=⟨1,1,{.ite (.cmp .NotEq (.call 49 {.aa 0}) (.glob 1)) {.raise 3 "a number"} .nil,.ret (.cB 27 (.new 5) {.aa 0,.aD [] .nil})}⟩
def H4:List Str:=["term"]
def HS:Fn:=⟨2,5,{.aK 2 (.au (.aa 0) (.int 0)),.ite (.cmp .Eq (.aa 2) (.str "num")) {.ret (.aj .Mod (.au (.aa 0) (.int 1)) (.int 1000003))} .nil,.ite (.cmp .Eq (.aa 2) (.str "name")) {.ret (.au (.aa 1) (.au (.aa 0) (.int 1)))} .nil,.ite (.cmp .In (.aa 2) (.ax {.str "quote",.str "hole",.str "lift",.str "run"})) {.ret (.call 36 {.au (.aa 0) (.int 1),.aa 1})} .nil,.ite (.cmp .Eq (.aa 2) (.str "when")) {.ret (.call 36 {.au (.aa 0) (.aj .Add (.int 2) (.toInt (.cmp .Eq (.call 36 {.au (.aa 0) (.int 1),.aa 1}) (.int 0)))),.aa 1})} .nil,.ite (.cmp .In (.aa 2) (.ax {.str "let",.str "turns",.str "def",.str "use"})) {.ret (.call 38 {.aa 0,.aa 1})} .nil,.aK 3 (.call 36 {.au (.aa 0) (.int 1),.aa 1}),.aK 4 (.call 36 {.au (.aa 0) (.int 2),.aa 1}),.ite (.cmp .Eq (.aa 2) (.str "less")) {.ret (.toInt (.cmp .Lt (.aa 3) (.aa 4)))} .nil,.ret (.aj .Mod (.au (.ah {.aj .Add (.aa 3) (.aa 4),.aj .Mult (.aa 3) (.aa 4)}) (.toInt (.cmp .Eq (.aa 2) (.str "product")))) (.int 1000003))}⟩
def II:Fn:=⟨3,4,{.aK 3 (.dict (.aa 0)),.fh (.aa 3) (.aa 1) (.aa 2),.ret (.aa 3)}⟩
def Ha:Fn:=⟨2,5,{.ite (.cmp .Eq (.au (.aa 0) (.int 0)) (.str "let")) {.ret (.call 36 {.au (.aa 0) (.int 3),.call 37 {.aa 1,.au (.aa 0) (.int 1),.call 36 {.au (.aa 0) (.int 2),.aa 1}}})} .nil,.ite (.cmp .Eq (.au (.aa 0) (.int 0)) (.str "turns")) {.aK 3 (.call 36 {.au (.aa 0) (.int 3),.aa 1}),.eP 4 (.au (.aa 0) (.int 1)) {.aK 3 (.call 36 {.au (.aa 0) (.int 4),.call 37 {.aa 1,.au (.aa 0) (.int 2),.aa 3}})},.ret (.aa 3)} .nil,.ite (.cmp .Eq (.au (.aa 0) (.int 0)) (.str "def")) {.ret (.call 36 {.au (.aa 0) (.int 5),.call 37 {.aa 1,.au (.aa 0) (.int 1),.ah {.au (.aa 0) (.int 2),.au (.aa 0) (.int 4),.aa 1}}})} .nil,.aK 2 (.au (.aa 1) (.au (.aa 0) (.int 1))),.ret (.call 36 {.au (.aa 2) (.int 1),.call 37 {.au (.aa 2) (.int 2),.au (.aa 2) (.int 0),.call 36 {.au (.aa 0) (.int 2),.aa 1}}})}⟩
def Hb:List Str:=["_law_term_here","_law_part"]
def Hc:List Str:=["_law_script","_law_state","_law_scope","_law_depth","_law_number_here","_law_x","_law_more_here","_law_found","_law_one","_law_other"]
def Hd:List Str:=["_law_script","_law_state","_law_what","_law_scope","_law_depth","_law_number_here","_law_x","_law_f","_law_other","_law_found","_law_whole_here","_law_body","_law_more_here","_law_word","_law_level","_law_kind","_law_free","_law_one","_law_many","_law_inner"]
def z0:Fn:=⟨1,3,{.aK 1 (.comp (.call 56 {.aa 2}) 2 [] (.call 10 {.aa 0})),.ret (.ax {.aj .Add (.int 1) (.sum (.comp (.au (.aa 2) (.int 0)) 2 [] (.aa 1))),.aj .Add (.int 1) (.g7 (.comp (.au (.aa 2) (.int 1)) 2 [] (.aa 1)))})}⟩
def G7:List Str:=["_law_term_here","_law_parts_here","_law_part"]
def Bk:Fn:=⟨1,1,{.fh (.aa 0) (.int 0) (.aj .Add (.au (.aa 0) (.int 0)) (.int 1)),.ret (.aj .Add (.str "v") (.toStr (.au (.aa 0) (.int 0))))}⟩
def HN:List Str:=["_law_state"]
def wg:Fn:=⟨3,8,{.aK 3 (.au (.aa 0) (.int 0)),.ite (.cmp .Eq (.aa 3) (.str "num")) {.ret (.aj .Mod (.au (.aa 0) (.int 1)) (.int 1000003))} .nil,.ite (.cmp .Eq (.aa 3) (.str "name")) {.ret (.au (.aa 1) (.au (.aa 0) (.int 1)))} .nil,.ite (.cmp .Eq (.aa 3) (.str "quote")) {.ite (.cmp .Gt (.au (.aa 2) (.int 2)) (.int 5000)) {.ret (.ax {.str "num",.int 0})} .nil,.aK 6 (.call 61 {.au (.aa 0) (.int 1),.aa 1,.aa 2}),.aK 7 (.call 56 {.aa 6}),.fh (.aa 2) (.int 2) (.aj .Add (.au (.aa 2) (.int 2)) (.au (.aa 7) (.int 0))),.ite (.or {.cmp .Gt (.au (.aa 7) (.int 0)) (.int 2000),.cmp .Gt (.au (.aa 7) (.int 1)) (.int 30)}) {.fh (.aa 2) (.int 1) (.bool true),.ret (.ax {.str "num",.int 0})} .nil,.ret (.aa 6)} .nil,.ite (.cmp .Eq (.aa 3) (.str "lift")) {.ret (.ax {.str "num",.call 58 {.au (.aa 0) (.int 1),.aa 1,.aa 2}})} .nil,.ite (.cmp .Eq (.aa 3) (.str "run")) {.aK 6 (.call 58 {.au (.aa 0) (.int 1),.aa 1,.aa 2}),.fh (.aa 2) (.int 2) (.aj .Add (.au (.aa 2) (.int 2)) (.call 40 {.aa 6,.aD [] .nil})),.ite (.cmp .Gt (.au (.aa 2) (.int 2)) (.int 5000)) {.ret (.int 0)} .nil,.ret (.call 58 {.aa 6,.aD [] .nil,.aa 2})} .nil,.ite (.cmp .Eq (.aa 3) (.str "when")) {.ret (.call 58 {.au (.aa 0) (.aj .Add (.int 2) (.toInt (.cmp .Eq (.call 58 {.au (.aa 0) (.int 1),.aa 1,.aa 2}) (.int 0)))),.aa 1,.aa 2})} .nil,.ite (.cmp .In (.aa 3) (.ax {.str "let",.str "turns",.str "def",.str "use"})) {.ret (.call 60 {.aa 0,.aa 1,.aa 2})} .nil,.aK 4 (.call 58 {.au (.aa 0) (.int 1),.aa 1,.aa 2}),.aK 5 (.call 58 {.au (.aa 0) (.int 2),.aa 1,.aa 2}),.ite (.cmp .Eq (.aa 3) (.str "less")) {.ret (.toInt (.cmp .Lt (.aa 4) (.aa 5)))} .nil,.ret (.aj .Mod (.au (.ah {.aj .Add (.aa 4) (.aa 5),.aj .Mult (.aa 4) (.aa 5)}) (.toInt (.cmp .Eq (.aa 3) (.str "product")))) (.int 1000003))}⟩
def Hr:List Str:=["_law_term_here","_law_names","_law_state","_law_word","_law_one","_law_other","_law_piece_here","_law_found"]
def HH:List Str:=["_law_names","_law_name_here","_law_value","_law_more_here"]
def zX:Fn:=⟨3,7,{.ite (.cmp .Eq (.au (.aa 0) (.int 0)) (.str "let")) {.aK 4 (.call 58 {.au (.aa 0) (.int 2),.aa 1,.aa 2}),.ret (.call 58 {.au (.aa 0) (.int 3),.call 59 {.aa 1,.au (.aa 0) (.int 1),.aa 4},.aa 2})} .nil,.ite (.cmp .Eq (.au (.aa 0) (.int 0)) (.str "turns")) {.aK 5 (.call 58 {.au (.aa 0) (.int 3),.aa 1,.aa 2}),.eP 6 (.au (.aa 0) (.int 1)) {.aK 5 (.call 58 {.au (.aa 0) (.int 4),.call 59 {.aa 1,.au (.aa 0) (.int 2),.aa 5},.aa 2})},.ret (.aa 5)} .nil,.ite (.cmp .Eq (.au (.aa 0) (.int 0)) (.str "def")) {.aK 3 (.ah {.au (.aa 0) (.int 2),.au (.aa 0) (.int 4),.aa 1}),.ret (.call 58 {.au (.aa 0) (.int 5),.call 59 {.aa 1,.au (.aa 0) (.int 1),.aa 3},.aa 2})} .nil,.aK 3 (.au (.aa 1) (.au (.aa 0) (.int 1))),.aK 4 (.call 58 {.au (.aa 0) (.int 2),.aa 1,.aa 2}),.ret (.call 58 {.au (.aa 3) (.int 1),.call 59 {.au (.aa 3) (.int 2),.au (.aa 3) (.int 0),.aa 4},.aa 2})}⟩
def G3:List Str:=["_law_term_here","_law_names","_law_state","_law_one","_law_given","_law_found","_law_turn"]
def wh:Fn:=⟨3,10,{.aK 3 (.au (.aa 0) (.int 0)),.ite (.cmp .Eq (.aa 3) (.str "num")) {.ret (.aa 0)} .nil,.ite (.cmp .Eq (.aa 3) (.str "name")) {.ret (.ax {.str "name",.au (.aa 1) (.au (.aa 0) (.int 1))})} .nil,.ite (.cmp .Eq (.aa 3) (.str "hole")) {.ret (.call 58 {.au (.aa 0) (.int 1),.aa 1,.aa 2})} .nil,.ite (.cmp .Eq (.aa 3) (.str "use")) {.ret (.ax {.str "use",.au (.aa 1) (.au (.aa 0) (.int 1)),.call 61 {.au (.aa 0) (.int 2),.aa 1,.aa 2}})} .nil,.ite (.or {.cmp .Eq (.aa 3) (.str "let"),.cmp .Eq (.aa 3) (.str "turns")}) {.aK 4 (.call 57 {.aa 2}),.aK 5 (.aj .Sub (.len (.aa 0)) (.int 3)),.aK 6 (.call 61 {.au (.aa 0) (.aj .Add (.aa 5) (.int 1)),.aa 1,.aa 2}),.aK 7 (.call 61 {.au (.aa 0) (.aj .Add (.aa 5) (.int 2)),.call 59 {.aa 1,.au (.aa 0) (.aa 5),.aa 4},.aa 2}),.ret (.aj .Add (.slc (.aa 0) .none (.aa 5)) (.ax {.aa 4,.aa 6,.aa 7}))} .nil,.ite (.cmp .Eq (.aa 3) (.str "def")) {.aK 8 (.call 57 {.aa 2}),.aK 4 (.call 57 {.aa 2}),.aK 6 (.call 61 {.au (.aa 0) (.int 4),.call 59 {.aa 1,.au (.aa 0) (.int 2),.aa 4},.aa 2}),.aK 7 (.call 61 {.au (.aa 0) (.int 5),.call 59 {.aa 1,.au (.aa 0) (.int 1),.aa 8},.aa 2}),.ret (.ax {.str "def",.aa 8,.aa 4,.str "number",.aa 6,.aa 7})} .nil,.ret (.aj .Add (.ax {.aa 3}) (.tuple (.comp (.call 61 {.aa 9,.aa 1,.aa 2}) 9 [1,2] (.slc (.aa 0) (.int 1) .none))))}⟩
def Hs:List Str:=["_law_term_here","_law_names","_law_state","_law_word","_law_x","_law_at","_law_one","_law_other","_law_f","_law_part"]
def v7:Fn:=⟨2,5,{.aK 2 (.au (.aa 0) (.int 0)),.ite (.or {.cmp .Eq (.aa 2) (.str "num"),.cmp .Eq (.aa 2) (.str "name")}) {.ret (.int 1)} .nil,.ite (.cmp .Eq (.aa 2) (.str "turns")) {.ret (.aj .Add (.aj .Add (.int 1) (.call 40 {.au (.aa 0) (.int 3),.aa 1})) (.aj .Mult (.au (.aa 0) (.int 1)) (.call 40 {.au (.aa 0) (.int 4),.aa 1})))} .nil,.ite (.cmp .Eq (.aa 2) (.str "def")) {.aK 3 (.call 59 {.aa 1,.au (.aa 0) (.int 1),.call 40 {.au (.aa 0) (.int 4),.aa 1}}),.ret (.aj .Add (.int 1) (.call 40 {.au (.aa 0) (.int 5),.aa 3}))} .nil,.ite (.cmp .Eq (.aa 2) (.str "use")) {.ret (.aj .Add (.aj .Add (.int 1) (.au (.aa 1) (.au (.aa 0) (.int 1)))) (.call 40 {.au (.aa 0) (.int 2),.aa 1}))} .nil,.ret (.aj .Add (.int 1) (.sum (.comp (.call 40 {.aa 4,.aa 1}) 4 [1] (.call 10 {.aa 0}))))}⟩
def Hj:List Str:=["_law_term_here","_law_functions","_law_word","_law_more_here","_law_part"]
def AL:Fn:=⟨1,3,{.aK 1 (.ah {.int 0,.bool false,.aj .Mult (.aj .FloorDiv (.call 40 {.aa 0,.aD [] .nil}) (.int 1000)) (.int 5001)}),.aK 2 .none,.ite (.cmp .Eq (.au (.aa 1) (.int 2)) (.int 0)) {.aK 2 (.call 58 {.aa 0,.aD [] .nil,.aa 1})} .nil,.ret (.ah {.aa 2,.au (.aa 1) (.int 1),.cmp .Gt (.au (.aa 1) (.int 2)) (.int 5000)})}⟩
def HI:List Str:=["_law_program","_law_state","_law_found"]
def Am:Fn:=⟨2,2,{.g9 {.ite (.cmp .Eq (.aa 0) (.str "number")) {.ret (.ah {.call 68 {.aa 1}})} .nil,.ret (.ah {.call 53 {.aa 1}})} 7 {.ret (.ah .nil)}}⟩
def Ht:List Str:=["_law_kind","_law_term_here"]
def sR:Fn:=⟨2,4,{.ite (.cS "int" (.aa 1)) {.ret (.and {.call 6 {.aa 0},.cmp .Eq (.aa 0) (.aa 1)})} .nil,.ite (.or {.not (.cS "tuple" (.aa 0)),.cmp .NotEq (.len (.aa 0)) (.len (.aa 1))}) {.ret (.bool false)} .nil,.g8 2 3 (.aa 0) (.aa 1) {.ite (.and {.cS "str" (.aa 3),.or {.not (.cS "str" (.aa 2)),.cmp .NotEq (.aa 2) (.aa 3)}}) {.ret (.bool false)} .nil,.ite (.and {.not (.cS "str" (.aa 3)),.not (.call 79 {.aa 2,.aa 3})}) {.ret (.bool false)} .nil},.ret (.bool true)}⟩
def G4:List Str:=["_law_found","_law_due","_law_one","_law_other"]
def rj:Fn:=⟨1,7,{.aK 1 (.au (.ah {.str "number",.str "piece"}) (.aj .Mod (.call 4 {.aa 0,.int 1}) (.int 2))),.aK 2 (.call 33 {.aa 0,.ah {.int 1,.int 0},.int 0,.aa 1,.ah .nil,.aj .Sub (.int 5) (.aj .FloorDiv (.aj .Mod (.aj .FloorDiv (.call 4 {.aa 0,.int 1}) (.int 2)) (.int 8)) (.int 3)),.bool true}),.aK 3 (.call 63 {.aa 2}),.ite (.au (.aa 3) (.int 2)) {.ret (.bool true)} .nil,.aK 4 (.au (.aa 3) (.int 0)),.aK 5 (.call 78 {.aa 1,.aa 2}),.ite (.au (.aa 3) (.int 1)) {.ret (.cmp .Eq (.aa 5) (.ah .nil))} .nil,.ite (.or {.cmp .NotEq (.len (.aa 5)) (.int 1),.not (.call 79 {.au (.aa 5) (.int 0),.aa 4})}) {.ret (.bool false)} .nil,.expr (.call 53 {.ax {.str "quote",.ax {.str "let",.str "x",.ax {.str "num",.int 1},.ax {.str "name",.str "x"}}}}),.aK 6 (.call 78 {.aa 1,.aa 2}),.ret (.and {.cmp .Eq (.len (.aa 6)) (.int 1),.call 79 {.au (.aa 6) (.int 0),.aa 4}})}⟩
def z5:List Str:=["_law_script","_law_kind","_law_term_here","_law_gone_here","_law_due","_law_found","_law_again"]
def Dn:Info:=⟨[some ⟨"parts_of",qQ,Hx⟩,some ⟨"size_of",qZ,HJ⟩,some ⟨"depth_of",qR,Hz⟩,some ⟨"_law_cell_at",sS,G8⟩,some ⟨"_law_mixed",wb,Hl⟩,some ⟨"_law_drawn",Aj,Hm⟩,some ⟨"_law_whole",pq,Hn⟩,some ⟨"_law_name",tc,HA⟩,some ⟨"_law_next",AJ,HB⟩,some ⟨"_law_number",sU,He⟩,some ⟨"_law_parts",wc,Hb⟩,none,none,none,none,none,none,none,some ⟨"with_name",nM,Ho⟩,none,none,none,none,some ⟨"reckoned",AK,HF⟩,some ⟨"need_small",Ae,Hi⟩,none,some ⟨"new_name",zW,G2⟩,some ⟨"value",vY,G5⟩,some ⟨"piece",vZ,G6⟩,none,some ⟨"_law_seen",qS,HC⟩,some ⟨"_law_leaf",td,HD⟩,some ⟨"_law_words",wd,Hq⟩,some ⟨"_law_term",th,HE⟩,some ⟨"_law_twice",we,Hc⟩,some ⟨"_law_bound",sT,Hd⟩,none,none,none,none,some ⟨"_law_cost",v7,Hj⟩,none,none,some ⟨"meaning_of",Ac,Hf⟩,some ⟨"need_level",v3,Hg⟩,some ⟨"need_kind",Ak,Hp⟩,some ⟨"kind_at",wI,HL⟩,some ⟨"binder_kind",z7,G9⟩,some ⟨"plain_kind",Ad,Hh⟩,some ⟨"kind_of",Bj,HM⟩,none,none,none,some ⟨"made",Dl,H4⟩,none,none,some ⟨"_law_measured",z0,G7⟩,some ⟨"_law_new",Bk,HN⟩,some ⟨"_law_stage",wg,Hr⟩,some ⟨"_law_more",nM,HH⟩,some ⟨"_law_stage_bound",zX,G3⟩,some ⟨"_law_piece",wh,Hs⟩,none,some ⟨"_law_gone",AL,HI⟩,none,none,none,none,some ⟨"told",Dk,H0⟩,none,none,none,none,none,none,none,none,none,some ⟨"_law_tried",Am,Ht⟩,some ⟨"_law_whole_piece",sR,G4⟩,some ⟨"law",rj,z5⟩],[some ("NUMBER",.str "number"),some ("PIECE",.str "piece"),some ("REST",.int 1000003),some ("MOST_TERMS",.int 2000),some ("MOST_DEEP",.int 30),none],[26,27,28]⟩
def Fi:List Nat:=[7,4,4,4,0,0,0,0,0,0,0,0,0,0,0,0,0,0,0,4,0,0,0,0,4,1,0,4,1,1,0,0,0,0,0,0,0,0,0,0,0,0,0,0,4,4,4,4,4,4,4,0,0,0,1,0,0,0,0,0,0,0,0,0,0,0,0,0,0,1,0,0,0,0,0,0,0,0,0,2,0,2]
noncomputable abbrev cx(P:Prog)(sc:List Int)(n:Nat):Ctx:=⟨sc,P.consts,av P sc n,P.eW,P.oE⟩
theorem cp{P:Prog}{sc:List Int}{n f:Nat}{fn:Fn}{vs:List V}(hf:P.fns f=some fn)(hl:vs.length=fn.arity)(σ:H):
  av P sc (n+1) f vs σ=bW (aW (cx P sc n) fn.body (vs.map some++List.replicate (fn.slots-fn.arity) none) σ):=by
 simp only[av,hf];rw[if_pos hl]
 rfl
theorem q5{at_:Nat->M (Option (List (Nat×V)))}{b:Qh.N Fl}{n k:Nat}{L L1 L2:aQ}{σ ae ao:H}{ps:List (Nat×V)}(h1:at_ k σ=.ok (some ps) ae)(h2:Qh.N.fK (ps.map (·.1)) (ps.map (·.2)) L ae=.ok () L1 ae)(h3:b L1 ae=.ok .next L2 ao):
  dP at_ b (n+1) k L σ=dP at_ b n (k+1) L2 ao:=by
 simp only[dP,Qh.N.bind,Qh.N.lift,h1,h2,h3]
theorem tK{at_:Nat->M (Option (List (Nat×V)))}{b:Qh.N Fl}{n k:Nat}{L:aQ}{σ ae:H}(h1:at_ k σ=.ok none ae):dP at_ b (n+1) k L σ=.ok .next L ae:=by
 simp only[dP,Qh.N.bind,Qh.N.lift,h1,Qh.N.pure]
theorem gW{s:Src}{f:V->M (Option V)}{n k:Nat}{σ ae ao b9:H}{v:V}{y:Option V}{r:List V}(h1:dN s k σ=.ok (some v) ae)(h2:f v ae=.ok y ao)(h3:dk s f n (k+1) ao=.ok r b9):dk s f (n+1) k σ=.ok (y.toList++r) b9:=by
 simp only[dk,M.bind,h1,h2,h3,M.pure]
theorem kK{s:Src}{f:V->M (Option V)}{n k:Nat}{σ ae:H}(h1:dN s k σ=.ok none ae):dk s f (n+1) k σ=.ok [] ae:=by
 simp only[dk,M.bind,h1,M.pure]
theorem dC{C:Ctx}{s:S}{r:SL}{L L1:aQ}{σ ae:H}(h:cF C s L σ=.ok .next L1 ae):aW C (.cons s r) L σ=aW C r L1 ae:=by
 simp only[pF,pG,Qh.N.bind,h]
theorem tL{C:Ctx}{s:S}{r:SL}{L L1:aQ}{σ ae:H}{v:V}(h:cF C s L σ=.ok (.ret v) L1 ae):aW C (.cons s r) L σ=.ok (.ret v) L1 ae:=by
 simp only[pF,pG,Qh.N.bind,h,Qh.N.pure]
theorem Ml{C:Ctx}{i:Nat}{e:E}{L:aQ}{σ ae:H}{v:V}(h:ak C e L σ=.ok v ae):cF C (.aK i e) L σ=.ok .next (b7 L i v) ae:=by
 simp only[mX,ke,kR,mY,mZ,mO,j7,mP,Qh.N.bind,Qh.N.lift,h,Qh.N.put,Qh.N.pure]
theorem KL{C:Ctx}{e:E}{L:aQ}{σ ae:H}{v:V}(h:ak C e L σ=.ok v ae):cF C (.ret e) L σ=.ok (.ret v) L ae:=by
 simp only[mX,ke,kR,mY,mZ,mO,j7,mP,Qh.N.bind,Qh.N.lift,h,Qh.N.pure]
theorem bk{C:Ctx}{i:Nat}{e:E}{r:SL}{L:aQ}{σ ae:H}{v:V}(h:ak C e L σ=.ok v ae):aW C (.cons (.aK i e) r) L σ=aW C r (b7 L i v) ae:=dC (Ml h)
theorem bw{C:Ctx}{e:E}{r:SL}{L:aQ}{σ ae:H}{v:V}(h:ak C e L σ=.ok v ae):aW C (.cons (.ret e) r) L σ=.ok (.ret v) L ae:=tL (KL h)
theorem kO{C:Ctx}{c:E}{t e:SL}{L:aQ}{σ ae:H}(h:bP C c L σ=.ok true ae):cF C (.ite c t e) L σ=aW C t L ae:=by
 simp only[mX,ke,kR,mY,mZ,mO,j7,mP,Qh.N.bind,Qh.N.lift,h,if_true]
theorem oa{C:Ctx}{c:E}{t e:SL}{L:aQ}{σ ae:H}(h:bP C c L σ=.ok false ae):cF C (.ite c t e) L σ=aW C e L ae:=by
 simp only[mX,ke,kR,mY,mZ,mO,j7,mP,Qh.N.bind,Qh.N.lift,h,Bool.false_eq_true,if_false]
theorem fy{C:Ctx}{L:aQ}{σ:H}:aW C .nil L σ=.ok .next L σ:=rfl
theorem aU{α β:Type}{m:M α}{f:α->M β}{a:α}{σ ae:H}(h:m σ=.ok a ae):M.bind m f σ=f a ae:=by simp only[M.bind,h]
theorem Jm{C:Ctx}{elt a:E}{v:Nat}{br:List Nat}{L:aQ}{σ ae ao:H}{n:Int}{us:List V}(h1:ak C a L σ=.ok (.int n) ae)(hn:0<=n/\n<=1000000)(h2:dk (.fix (dM n)) (λit=>M.bind (ak C elt (b7 (cQ L br) v it)) λy=>M.pure (some y)) (n.toNat+1) 0 ae=.ok us ao):ak C (.fH elt v br a) L σ=.ok (.ref ao.length) (ao++[.ah us]):=by
 rw[mK,aU h1];show M.bind (M.pure n) _ ae=_;rw[aU (show M.pure n ae=.ok n ae from rfl),if_pos hn,aU h2]
 rfl
theorem kP{C:Ctx}{elt a:E}{v k:Nat}{br:List Nat}{L:aQ}{σ ae ao:H}{x:V}{sr:Src}{us:List V}(h1:ak C a L σ=.ok x ae)(hs:srcOf x ae=.ok sr ae)(hk:eX sr ae=.ok k ae)(hle:k<=aO)(h2:dk sr (λit=>M.bind (ak C elt (b7 (cQ L br) v it)) λy=>M.pure (some y)) (k+1) 0 ae=.ok us ao):ak C (.comp elt v br a) L σ=.ok (.ref ao.length) (ao++[.ah us]):=by
 rw[kM,aU h1,aU hs,aU hk,if_pos hle,aU h2]
 rfl
theorem IJ{C:Ctx}{elt a t:E}{v k:Nat}{br:List Nat}{L:aQ}{σ ae ao:H}{x:V}{sr:Src}{us:List V}(h1:ak C a L σ=.ok x ae)(hs:srcOf x ae=.ok sr ae)(hk:eX sr ae=.ok k ae)(hle:k<=aO)(h2:dk sr (λit=>M.bind (bP C t (b7 (cQ L br) v it)) λb=>if b then M.bind (ak C elt (b7 (cQ L br) v it)) λy=>M.pure (some y) else M.pure none) (k+1) 0 ae=.ok us ao):ak C (.f9 elt v br a t) L σ=.ok (.ref ao.length) (ao++[.ah us]):=by
 rw[JT,aU h1,aU hs,aU hk,if_pos hle,aU h2]
 rfl
section
variable{C:Ctx}{L:aQ}{σ ae ao b9:H}{a b c:E}{x y z r:V}
theorem aE{i:Nat}(h:cq L i=some x):ak C (.aa i) L σ=.ok x σ:=by simp only[oc,og,oh,oi,oj,mV,mW,my,n3,mz,n4,mD,n5,mE,mF,j5,j6,mG,mH,mI,n6,n7,mJ,kM,mK,h];rfl
theorem bT{op:Operator}(h1:ak C a L σ=.ok x ae)(h2:ak C b L ae=.ok y ao)(h3:binop op x y ao=.ok r b9):ak C (.aj op a b) L σ=.ok r b9:=by
 rw[my,aU h1,aU h2,h3]
theorem cC(h1:ak C a L σ=.ok x ae)(h2:ak C b L ae=.ok y ao)(h3:index C x y ao=.ok r b9):ak C (.au a b) L σ=.ok r b9:=by
 rw[mE,aU h1,aU h2,h3]
theorem Ps(h1:ak C a L σ=.ok x ae)(h2:ak C b L ae=.ok y ao)(h3:ak C c L ao=.ok z b9){pa:H}(h4:slice x y z b9=.ok r pa):ak C (.slc a b c) L σ=.ok r pa:=by
 rw[mF,aU h1,aU h2,aU h3,h4]
theorem ba:cZ C .nil L σ=.ok [] σ:=rfl
theorem az{es:EL}{vs:List V}(h1:ak C a L σ=.ok x ae)(h2:cZ C es L ae=.ok vs ao):cZ C (.cons a es) L σ=.ok (x::vs) ao:=by
 rw[By,aU h1,aU h2];rfl
theorem aP{i:Nat}{es:EL}{vs:List V}(h:cq L i=some x)(k:cZ C es L σ=.ok vs ao):cZ C (.cons (.aa i) es) L σ=.ok (x::vs) ao:=az (aE h) k
theorem dG{es:EL}{vs:List V}(h1:cZ C es L σ=.ok vs ae)(h2:vs.length<=aO):ak C (.ah es) L σ=.ok (.ref ae.length) (ae++[.ah vs]):=by
 rw[mW,aU h1,if_pos h2];rfl
theorem bU{es:EL}{vs:List V}(h1:cZ C es L σ=.ok vs ae)(h2:vs.length<=aO):ak C (.ax es) L σ=.ok (.ax vs) ae:=by
 rw[mV,aU h1,if_pos h2];rfl
theorem aN{f:Nat}{es:EL}{vs:List V}(h1:cZ C es L σ=.ok vs ae)(h2:C.call f vs ae=.ok r ao):ak C (.call f es) L σ=.ok r ao:=by
 rw[j5,aU h1,h2]
theorem yo(h1:ak C a L σ=.ok x ae)(h2:nx x ae=.ok r ao):ak C (.sum a) L σ=.ok r ao:=by rw[mH,aU h1,h2]
theorem Dp(h1:ak C a L σ=.ok x ae)(h2:oF x ae=.ok r ao):ak C (.g7 a) L σ=.ok r ao:=by rw[mI,aU h1,h2]
theorem e_len(h1:ak C a L σ=.ok x ae)(h2:lenOf C x ae=.ok r ao):ak C (.len a) L σ=.ok r ao:=by rw[j6,aU h1,h2]
theorem tX(h1:ak C a L σ=.ok x ae)(h2:t8 x ae=.ok r ao):ak C (.toInt a) L σ=.ok r ao:=by rw[mG,aU h1,h2]
theorem nu{op:CmpOp}{t:Bool}(h1:ak C a L σ=.ok x ae)(h2:ak C b L ae=.ok y ao)(h3:dH op x y ao=.ok t b9):ak C (.cmp op a b) L σ=.ok (.bool t) b9:=by
 rw[mz,aU h1,aU h2,aU h3];rfl
theorem dY{op:CmpOp}{t:Bool}(h1:ak C a L σ=.ok x ae)(h2:ak C b L ae=.ok y ao)(h3:dH op x y ao=.ok t b9):bP C (.cmp op a b) L σ=.ok t b9:=by
 rw[tR,aU h1,aU h2,h3]
theorem qk{t:Bool}(h1:bP C a L σ=.ok t ae):bP C (.not a) L σ=.ok (!t) ae:=by
 rw[tP,aU h1];rfl
theorem Dq{f:Nat}{es:EL}{vs:List V}{t:Bool}(h1:cZ C es L σ=.ok vs ae)(h2:C.call f vs ae=.ok (.bool t) ao):bP C (.call f es) L σ=.ok t ao:=by
 rw[tS,aU (by rw[aU h1,h2])];rfl
theorem jj{es:EL}{t:Bool}(h:jJ C es L σ=.ok t ae):bP C (.or es) L σ=.ok t ae:=by rw[tQ,h]
theorem jg{es:EL}{t:Bool}(h:jI C es L σ=.ok t ae):bP C (.and es) L σ=.ok t ae:=by rw[rq,h]
theorem any_nil:jJ C .nil L σ=.ok false σ:=rfl
theorem all_nil:jI C .nil L σ=.ok true σ:=rfl
theorem any_cons{es:EL}{t t':Bool}(h1:bP C a L σ=.ok t ae)(h2:t=false->jJ C es L ae=.ok t' ao)(h3:t=true->t'=true/\ao=ae):jJ C (.cons a es) L σ=.ok t' ao:=by
 rw[I1,aU h1];clear h1;cases t with
|false=>exact h2 rfl
|true=>obtain⟨rfl,rfl⟩:=h3 rfl;rfl
theorem all_cons{es:EL}{t t':Bool}(h1:bP C a L σ=.ok t ae)(h2:t=true->jI C es L ae=.ok t' ao)(h3:t=false->t'=false/\ao=ae):jI C (.cons a es) L σ=.ok t' ao:=by
 rw[I0,aU h1];clear h1;cases t with
|true=>exact h2 rfl
|false=>obtain⟨rfl,rfl⟩:=h3 rfl;rfl
theorem dF{l:Nat}{k:Int}{vs:List V}(h:σ[l]?=some (.ah vs))(hv:vs[k.toNat]?=some x)(h0:0<=k)(h1:k<0x4000000000000000):index C (.ref l) (.int k) σ=.ok x σ:=by
 simp only[wt,wu,wx,wz,tm];rw[aU (a:=vs) (ae:=σ) (by simp[bI,M.bind,cW,h,M.pure])];simp only[fu,h0,h1,and_self,if_true,hv];rfl
end
structure Base(P:Prog):Prop where
 cell:P.fns 3=some sS
 mixed:P.fns 4=some wb
 drawn:P.fns 5=some Aj
 name:P.fns 7=some tc
 next:P.fns 8=some AJ
 aB:P.fns 9=some sU
def cellAt(sc:List Int)(k:Int):Int:=if k<sc.length then sc.getD k.toNat 0 else 0
def p5(sc:List Int)(k:Int):Int:=((cellAt sc k+7919*k)*48271).fmod 2147483647
def mixed(sc:List Int)(k:Int):Int:=(p5 sc k*p5 sc k+7*p5 sc k+k).fmod 2147483629
section
variable{P:Prog}{sc:List Int}(B:Base P)
include B
theorem Jn{n:Nat}{k:Int}(hk:0<=k)(hs:sc.length<=63)(σ:H):av P sc (n+1) 3 [.cy,.int k] σ=.ok (.int (cellAt sc k)) σ:=by
 rw[cp B.cell rfl]
 by_cases h:k<sc.length
 ·have h2:k<0x4000000000000000:=lI 0x1c01c01c01c01c01c01c01c01c01e406130124124124817f1e034534184c [_,_] rfl (Int.ofNat_le.mpr hs) h;have h3:sc[k.toNat]?=some (sc.getD k.toNat 0):=by
   have:k.toNat<sc.length:=qz hk h;simp[List.getD,List.getElem?_eq_getElem this]
  simp[sS,pF,pG,mX,ke,kR,mY,mZ,mO,j7,mP,tP,rq,tQ,tR,w8,w9,tS,xa,tD,oc,og,oh,oi,oj,mV,mW,my,n3,mz,n4,mD,n5,mE,mF,j5,j6,mG,mH,mI,n6,n7,mJ,kM,mK,Qh.N.bind,Qh.N.lift,M.bind,M.pure,da,pH,pJ,pK,AX,AY,AZ,wC,pA,mq,AU,AV,AW,wA,wB,tn,wt,wu,wx,wz,tm,fu,nN,nO,nP,nQ,cellAt,h,h2,h3,hk,Qh.N.pure]
 ·simp[sS,pF,pG,mX,ke,kR,mY,mZ,mO,j7,mP,tP,rq,tQ,tR,w8,w9,tS,xa,tD,oc,og,oh,oi,oj,mV,mW,my,n3,mz,n4,mD,n5,mE,mF,j5,j6,mG,mH,mI,n6,n7,mJ,kM,mK,Qh.N.bind,Qh.N.lift,M.bind,M.pure,da,pH,pJ,pK,AX,AY,AZ,wC,pA,mq,AU,AV,AW,wA,wB,tn,wt,wu,wx,wz,tm,fu,nN,nO,nP,nQ,cellAt,h,hk,Qh.N.pure]
omit B in
theorem xg{x:Int}(a:0<=x)(b:x<0x10000000000000000):small x=true:=Bool.and_eq_true_iff.mpr ⟨decide_eq_true (Int.lt_of_lt_of_le (by decide) a),decide_eq_true b⟩
omit B in
theorem uv{x y r:Int}(h:0<y)(e:x.fmod y=r){σ:H}:binop .Mod (.int x) (.int y) σ=.ok (.int r) σ:=e▸congrFun (if_neg (Int.ne_of_gt h)) σ
omit B in
theorem NS{x:Int}{n:Nat}(h:0<n)(h':n<1073741824){σ:H}:binop .FloorDiv (.int x) (.int n) σ=.ok (.int (x.fdiv n)) σ:=congrFun (if_neg (λq=>q.elim (λe=>Nat.ne_of_gt h (Int.ofNat.inj e)) (λe=>e h'))) σ
theorem jB{a b:Int}(hb:0<b):0<=a.fmod b/\a.fmod b<b:=⟨Int.fmod_nonneg_of_pos a hb,Int.fmod_lt_of_pos a hb⟩
theorem wm{n:Nat}{k:Int}(hk:0<=k)(hs:sc.length<=63)(σ:H):av P sc (n+2) 4 [.cy,.int k] σ=.ok (.int (mixed sc k)) σ:=by
 rw[cp B.mixed rfl];have h1:=jB (P:=P) B (a:=(cellAt sc k+7919*k)*48271) (b:=2147483647) (by decide);have h2:small (p5 sc k)=true:=by
  exact xg h1.1 (Int.lt_trans h1.2 (by decide))
 have h3:small 7919=true:=by decide
 have h4:small 48271=true:=by decide
 have h5:small 7=true:=by decide
 simp only[p5] at h2;simp[wb,pF,pG,mX,ke,kR,mY,mZ,mO,j7,mP,tP,rq,tQ,tR,w8,w9,tS,xa,tD,oc,og,oh,oi,oj,mV,mW,my,n3,mz,n4,mD,n5,mE,mF,j5,j6,mG,mH,mI,n6,n7,mJ,kM,mK,JU,By,Qh.N.bind,Qh.N.lift,M.bind,M.pure,da,pH,pJ,pK,wM,wN,wO,nN,nO,nP,nQ,Qh.N.pure,Qh.N.put,Jn B hk hs,nR,nS,jy,nT,nU,nV,nW,nX,nY,h2,h3,h4,h5,mixed,p5]
theorem Cz{σ:H}{l:Nat}{vs:List V}(h:σ[l]?=some (.ah vs)):bI (.ref l) σ=.ok vs σ:=by
 simp[bI,M.bind,cW,h,M.pure]
end
def km(x:Str):Prop:=(∀c∈x.cps.toList,97<=c/\c<=122)/\x.cps.size<=8
def pU:Str:="abcdefghijklmnopqrstuvwxyz"
theorem IK(h0:0<=j)(h1:j<26)(σ:H):∃c,fu pU.cps.toList j σ=.ok c σ/\97<=c/\c<=122:=by
 have hl:pU.cps.toList=(List.range 26).map (·+97):=by decide+kernel
 have h2:j<0x4000000000000000:=lI 0x700700700700700700700700700790184c049049205e8184c [_] rfl h1;have:j.toNat<26:=qz h0 h1;refine⟨j.toNat+97,?_,by(exact dI _ _),Nat.le_of_lt_succ (Nat.add_lt_add_right this 97)⟩;simp[fu,h0,h2,hl,da,this,M.pure]
theorem Jo{f:V->M (Option V)}{R:V->Prop}(hf:∀v∈vs,∃u,f v σ=.ok (some u) σ/\R u):
  ∀(rest done:List V),vs=done++rest->∃us,dk (.fix vs) f (rest.length+1) done.length σ=.ok us σ/\us.length=rest.length/\∀u∈us,R u:=by
 intro rest
 induction rest with
|nil=>
  intro done hd;exact⟨[],kK (by simp[tq,jY,M.pure,hd]),rfl,λ_ h=>nomatch h⟩
|cons v rest ih=>
  intro done hd;refine ca (ih (done++[v]) (by(refine hd.symm▸?_);simp)) λus h1 h2 h3=>?_;refine aM (hf v (by(refine hd.symm▸?_);simp)) λu h4 h5=>?_;refine⟨u::us,?_,by simp[h2],λw hw=>?_⟩
  ·replace h1:=(List.length_singleton)▸((List.length_append)▸h1);exact gW (by simp[tq,jY,M.pure,hd]) h4 h1
  ·rcases List.mem_cons.mp hw with q|q
   ·(clear hw h4;subst q);exact h5
   ·exact h3 w q
theorem Bl:∀(us:List V),(∀u∈us,∃c,u=.str ⟨#[c]⟩/\97<=c/\c<=122)->∃ss,strsOf us=some ss/\(ss.map Str.length).sum=us.length/\(∀c∈(Str.join "" ss).cps.toList,97<=c/\c<=122)/\(Str.join "" ss).cps.size=us.length
|[]=>λ_=>⟨[],rfl,rfl,λc h=>by simp[Str.join,Str.empty] at h,rfl⟩
|u::us=>λh=>by
  refine oD (Bl us λw hw=>h w (.tail _ hw)) λss h1 h2 h3 h4=>?_;refine ca (h u (.head _)) λc bh hc1 hc2=>?_;clear h;subst bh;refine⟨⟨#[c]⟩::ss,by simp[Ik,Il,h1],by simp[h2,Str.length];exact cK (lN 427436429021768 [_] rfl) (lN 336520908116552 [_] rfl),?_,?_⟩
  ·clear h4 h2 h1;cases ss with
   |nil=>intro d hd;simp[Str.join] at hd;subst hd;exact⟨hc1,hc2⟩
   |cons s ss=>
    intro d hd;have e:(Str.join (Str.ofString "") (⟨#[c]⟩::s::ss)).cps.toList=c::(Str.join (Str.ofString "") (s::ss)).cps.toList:=by
     show((#[c]++(Str.ofString "").cps)++(Str.join (Str.ofString "") (s::ss)).cps).toList=_;have:(Str.ofString "").cps=#[]:=by decide+kernel
     (refine this.symm▸?_);simp
    replace hd:=e▸hd;rcases List.mem_cons.mp hd with q|q
    ·subst q;exact⟨hc1,hc2⟩
    ·exact h3 d q
  ·clear h3 h2 h1;cases ss with
   |nil=>
    have:us.length=0:=by(refine h4▸?_);rfl
    simp[Str.join,this]
   |cons s ss=>
    have e:(Str.join (Str.ofString "") (⟨#[c]⟩::s::ss)).cps.size=1+(Str.join (Str.ofString "") (s::ss)).cps.size:=by
     show((#[c]++(Str.ofString "").cps)++(Str.join (Str.ofString "") (s::ss)).cps).size=_;have:(Str.ofString "").cps=#[]:=by decide+kernel
     (refine this.symm▸?_);simp
    (refine e.symm▸?_;refine h4.symm▸?_);simp[Nat.add_comm]
def oz:List String:=["num","name","let","quote","hole","run","use","lift"]
theorem KM:∀w∈oz,km (Str.ofString w):=by
 have h:∀w∈oz,((Str.ofString w).cps.toList.all (λc=>97<=c&&c<=122))=true/\(Str.ofString w).cps.size<=8:=by decide+kernel
 intro w hw;refine aZ (h w hw) λh1 h2=>?_;refine⟨λc hc=>?_,h2⟩;have:=List.all_eq_true.mp h1 c hc
 simpa using this
theorem Dr(σ:H)(o:O):(σ++[o])[σ.length]?=some o:=by rw[List.getElem?_append_right (aR _),Nat.sub_self];rfl
theorem AM(σ:H)(vs:List V):bI (.ref σ.length) (σ++[.ah vs])=.ok vs (σ++[.ah vs]):=by
 show M.bind (cW _) _ _=_;rw[aU (show cW σ.length (σ++[.ah vs])=.ok (.ah vs) (σ++[.ah vs]) by simp only[cW,Dr])];rfl
theorem Ib(h:cF C s L σ=aW C b L ae)(h2:aW C b L ae=.ok (.ret v) L1 ao):aW C (.cons s r) L σ=.ok (.ret v) L1 ao:=tL (h.trans h2)
theorem Jp(h1:ak C c L σ=.ok z ae)(h2:ak C a L ae=.ok x ao)(h3:ak C b L ao=.ok y b9)(h4:iB x y z b9=.ok () pa):cF C (.fh a b c) L σ=.ok .next L pa:=by
 simp only[ke,Qh.N.bind,Qh.N.lift,h1,h2,h3,h4,Qh.N.pure]
theorem Mm(h1:ak C a L σ=.ok x ae)(h2:ak C b L ae=.ok y ao)(h3:joinM x y ao=.ok r b9):ak C (.join a b) L σ=.ok r b9:=by(refine mJ.symm▸?_;refine(aU h1).symm▸?_;refine(aU h2).symm▸?_;refine h3.symm▸?_;with_reducible rfl)
section
variable{P:Prog}{sc:List Int}(B:Base P)
include B
theorem Jq(hs:sc.length<=63)(σ:H):∃x τ,av P sc (n+3) 7 [.cy,.int w] σ=.ok (.str x) (σ++τ)/\km x:=by
 suffices hw:∃x τ L',aW (cx P sc (n+2)) tc.body [some .cy,some (.int w),none,none,none,none,none,none] σ=.ok (.ret (.str x)) L' (σ++τ)/\km x by
  refine gg (hw) λx τ L' e hx=>?_;refine⟨x,τ,?_,hx⟩;rw[cp B.name rfl];exact(congrArg bW e).trans rfl
 have hm:∀(L:aQ)(σ:H),cq L 0=some .cy->ak (cx P sc (n+2)) (.call 4 {.aa 0,.int 0}) L σ=.ok (.int (mixed sc 0)) σ:=λL σ h=>
  aN (aP h rfl) (wm B (bq 0) hs σ)
 generalize mixed sc 0=N at hm;have g1:aW (cx P sc (n+2)) tc.body [some .cy,some (.int w),none,none,none,none,none,none] σ=_:=(bk rfl).trans (bk (hm _ _ rfl));have ht:bP (cx P sc (n+2)) (.and {.cmp .Eq (.aj .Mod (.aa 3) (.int 8)) (.int 7),.cmp .Eq (.aj .Mod (.aj .FloorDiv (.aa 3) (.int 8)) (.int 2)) (.int 0)}) [some .cy,some (.int w),some (.str pU),some (.int N),none,none,none,none] σ=.ok (N.fmod 8==7&&(N.fdiv 8).fmod 2==0) σ:=by
  refine jg (all_cons rfl (λq=>all_cons rfl (λq'=>?_) (λq'=>?_)) (λq=>?_))
  ·(refine q.symm▸?_;refine q'.symm▸?_);exact all_nil
  ·(refine q.symm▸?_;refine q'.symm▸?_);exact⟨rfl,rfl⟩
  ·(refine q.symm▸?_);exact⟨rfl,rfl⟩
 cases hc:(N.fmod 8==7&&(N.fdiv 8).fmod 2==0) with
|true=>
  replace ht:=hc▸ht;have hj:=jB B (a:=N.fdiv 16+w) (b:=8) (by decide);generalize qG:(N.fdiv 16+w).fmod 8=j at hj;have hw:∃x,(oz.map λx=>V.str (Str.ofString x))[j.toNat]?=some (.str (Str.ofString x))/\x∈oz:=by
   have:j.toNat<oz.length:=qz hj.1 hj.2;refine⟨oz[j.toNat],?_,List.getElem_mem this⟩;simp[this]
  refine aM (hw) λx hx RV=>?_;refine⟨Str.ofString x,[.ah (oz.map λx=>.str (Str.ofString x))],_,g1.trans (Ib (kO ht) ((bk rfl).trans (bw (cC (aE rfl) (bT rfl rfl (by(refine qG▸?_);rfl)) (dF (Dr _ _) hx hj.1 (lI 0x700700700700700700700700700790184c049049205a0184c [_] rfl hj.2)))))),KM x RV⟩
|false=>
  replace ht:=hc▸ht;have hsz:=jB B (a:=N) (b:=8) (by decide);generalize hS:1+N.fmod 8=S;have sJ:1<=S/\S<=8:=⟨lI 0xc84124024124124814d806301361 [_,_] rfl hsz.1 hS,lI 0x28301241240241248168061346301361 [_,_] rfl hsz.2 hS⟩;have ib:=jB (P:=P) B (a:=N.fdiv 8) (b:=S) (lI 0x301860049049205321 [_] rfl sJ.1);generalize hA:(N.fdiv 8).fmod S=A at ib;have Fj:∀(C:Ctx)(j:Int)(σ:H),0<=j->j<26->∃u,index C (.str pU) (.int j) σ=.ok u σ/\∃c,u=.str ⟨#[c]⟩/\97<=c/\c<=122:=λC j σ h0 h1=>by
   refine aM (IK h0 h1 σ) λc h2 h3=>?_;exact⟨.str ⟨#[c]⟩,(aU h2).trans rfl,c,rfl,h3⟩
  have iv:∃us,ak (cx P sc (n+2)) (.fH (.au (.aa 2) (.aj .Mod (.aj .Add (.aj .FloorDiv (.aa 3) (.int 64)) (.aj .Mult (.int 5) (.aa 7))) (.int 26))) 7 [2,3] (.aa 4))
    [some .cy,some (.int w),some (.str pU),some (.int N),some (.int S),none,none,none] σ=.ok (.ref σ.length) (σ++[.ah us])/\us.length=S.toNat/\∀u∈us,∃c,u=.str ⟨#[c]⟩/\97<=c/\c<=122:=by
   have hf:∀v∈dM S,∃u,(λit=>M.bind (ak (cx P sc (n+2)) (.au (.aa 2) (.aj .Mod (.aj .Add (.aj .FloorDiv (.aa 3) (.int 64)) (.aj .Mult (.int 5) (.aa 7))) (.int 26))) (b7 (cQ [some .cy,some (.int w),some (.str pU),some (.int N),some (.int S),none,none,none] [2,3]) 7 it)) λy=>M.pure (some y)) v σ=.ok (some u) σ/\∃c,u=.str ⟨#[c]⟩/\97<=c/\c<=122:=by
    intro v hv;simp only[dM,List.mem_map,List.mem_range] at hv;obtain⟨k,hk,rfl⟩:=hv;have hj:=jB B (a:=N.fdiv 64+5*(k:Int)) (b:=26) (by decide);refine aM (Fj (cx P sc (n+2)) _ σ hj.1 hj.2) λu hu vI=>?_;exact⟨u,(aU (cC (aE rfl) (bT rfl rfl rfl) hu)).trans rfl,vI⟩
   refine ca (Jo hf (dM S) [] rfl) λus h1 h2 h3=>?_;have hlen:(dM S).length=S.toNat:=by simp[dM]
   refine⟨us,?_,by(refine h2.symm▸?_;refine hlen.symm▸?_;with_reducible rfl),h3⟩;replace h1:=hlen▸h1;exact Jm rfl ⟨by exact lI 0xc80124124124814d80530184d [_,_] rfl ib.1 ib.2,by exact lI 0x7247d078cc049049205a0c [_] rfl sJ.2⟩ h1
  refine bB λXx aI=>?_;refine ca (iv) λus hu1 vI RW=>?_;have hdiv:binop .Mod (.int (N.fdiv 8)) (.int S) (σ++[.ah us])=.ok (.int A) (σ++[.ah us]):=uv sJ.1 hA;have hj:=jB B (a:=N.fdiv 64+5*A+w) (b:=26) (by decide);refine aM (Fj (cx P sc (n+2)) _ (σ++[.ah us]) hj.1 hj.2) λu hu zw=>?_;have zx:us.length<=8:=vI▸Int.toNat_le.mpr sJ.2
  obtain⟨ss,hs1,hs2,RX,RY⟩:=Bl (us.set A.toNat u) (λv hv=>by
   rcases List.mem_or_eq_of_mem_set hv with q|q
   ·exact RW v q
   ·(clear hv hu;subst q);exact zw)
  refine aI ?_;have hl:(us.set A.toNat u).length=us.length:=by simp
  have QK:iB (.ref σ.length) (.int A) u (σ++[.ah us])=.ok () (σ++[.ah (us.set A.toNat u)]):=by
   rw[z8,aU (AM _ _),if_pos ⟨ib.1,vI.symm▸(Int.toNat_of_nonneg (Int.le_of_lt sJ.1)).symm▸ib.2,bR zx (nb rfl)⟩];show Res.ok () _=_;simp
  have RZ:joinM (.str (Str.ofString "")) (.ref σ.length) (σ++[.ah (us.set A.toNat u)])=.ok (.str (Str.join (Str.ofString "") ss)) (σ++[.ah (us.set A.toNat u)]):=by
   show M.bind (bI _) _ _=_;refine(aU (AM _ _)).symm▸?_;refine hs1.symm▸?_;show(if(Str.ofString "").length=0/\(ss.map Str.length).sum<=aO then _ else _:M V) _=_;rw[if_pos ⟨by decide+kernel,by(refine hs2.symm▸?_;refine hl.symm▸?_);exact bR zx (nb rfl)⟩];rfl
  refine⟨Str.join "" ss,[.ah (us.set A.toNat u)],_,((g1.trans ((dC ((oa ht).trans fy)).trans (bk (by(refine hS▸?_);rfl)))).trans ((bk hu1).trans (bk (bT rfl (aE rfl) hdiv)))).trans ((dC (Jp (cC (aE rfl) (bT rfl rfl rfl) hu) (aE rfl) (aE rfl) QK)).trans (bw (Mm rfl (aE rfl) RZ))),RX,by(refine RY.symm▸?_;refine hl.symm▸?_);exact zx⟩
end
inductive U1 where|bJ|hole|lift|run
inductive U2 where|sum|product|less
inductive Tm where
|num (i:Int)|name (x:Str)|un (w:U1) (a:Tm)|use (f:Str) (a:Tm)|aj (w:U2) (a b:Tm)
|a9 (x:Str) (a b:Tm)|bu (k:Int) (x:Str) (a b:Tm)|def_ (f x kd:Str) (a b:Tm)|when (a b c:Tm)
def U1.str:U1->Str
|.bJ=>"quote"|.hole=>"hole"|.lift=>"lift"|.run=>"run"
def U2.str:U2->Str
|.sum=>"sum"|.product=>"product"|.less=>"less"
def Tm.ag:Tm->V
|.num i=>.ax [.str "num",.int i]
|.name x=>.ax [.str "name",.str x]
|.un w a=>.ax [.str w.str,a.ag]
|.use f a=>.ax [.str "use",.str f,a.ag]
|.aj w a b=>.ax [.str w.str,a.ag,b.ag]
|.a9 x a b=>.ax [.str "let",.str x,a.ag,b.ag]
|.bu k x a b=>.ax [.str "turns",.int k,.str x,a.ag,b.ag]
|.def_ f x kd a b=>.ax [.str "def",.str f,.str x,.str kd,a.ag,b.ag]
|.when a b c=>.ax [.str "when",a.ag,b.ag,c.ag]
def Tm.parts:Tm->List Tm
|.num _=>[]|.name _=>[]|.un _ a=>[a]|.use _ a=>[a]|.aj _ a b=>[a,b]|.a9 _ a b=>[a,b]|.bu _ _ a b=>[a,b]|.def_ _ _ _ a b=>[a,b]|.when a b c=>[a,b,c]
theorem Fm:(Tm.num u1).parts=[]:=rfl
theorem Fo:(Tm.name u1).parts=[]:=rfl
theorem Fp:(Tm.un u1 a).parts=[a]:=rfl
theorem Fq:(Tm.use u1 a).parts=[a]:=rfl
theorem Ft:(Tm.aj u1 a b).parts=[a,b]:=rfl
theorem Fu:(Tm.a9 u1 a b).parts=[a,b]:=rfl
theorem Fv:(Tm.bu u1 u2 a b).parts=[a,b]:=rfl
theorem Fw:(Tm.def_ u1 u2 u3 a b).parts=[a,b]:=rfl
theorem Fx:(Tm.when a b c).parts=[a,b,c]:=rfl
def Tm.size:Tm->Nat
|.num _=>1|.name _=>1|.un _ a=>1+a.size|.use _ a=>1+a.size|.aj _ a b=>1+(a.size+b.size)|.a9 _ a b=>1+(a.size+b.size)|.bu _ _ a b=>1+(a.size+b.size)|.def_ _ _ _ a b=>1+(a.size+b.size)
|.when a b c=>1+(a.size+(b.size+c.size))
theorem QL:(Tm.num u1).size=1:=rfl
theorem QM:(Tm.name u1).size=1:=rfl
theorem QN:(Tm.un u1 a).size=1+a.size:=rfl
theorem QO:(Tm.use u1 a).size=1+a.size:=rfl
theorem QP:(Tm.aj u1 a b).size=1+(a.size+b.size):=rfl
theorem QQ:(Tm.a9 u1 a b).size=1+(a.size+b.size):=rfl
theorem QR:(Tm.bu u1 u2 a b).size=1+(a.size+b.size):=rfl
theorem QS:(Tm.def_ u1 u2 u3 a b).size=1+(a.size+b.size):=rfl
theorem QT:(Tm.when a b c).size=1+(a.size+(b.size+c.size)):=rfl
def Tm.depth:Tm->Nat
|.num _=>1|.name _=>1|.un _ a=>1+a.depth|.use _ a=>1+a.depth|.aj _ a b=>1+max a.depth b.depth|.a9 _ a b=>1+max a.depth b.depth|.bu _ _ a b=>1+max a.depth b.depth
|.def_ _ _ _ a b=>1+max a.depth b.depth|.when a b c=>1+max a.depth (max b.depth c.depth)
theorem lA:(Tm.num u1).depth=1:=rfl
theorem lB:(Tm.name u1).depth=1:=rfl
theorem lC:(Tm.un u1 a).depth=1+a.depth:=rfl
theorem lD:(Tm.use u1 a).depth=1+a.depth:=rfl
theorem lE:(Tm.aj u1 a b).depth=1+max a.depth b.depth:=rfl
theorem lF:(Tm.a9 u1 a b).depth=1+max a.depth b.depth:=rfl
theorem lG:(Tm.bu u1 u2 a b).depth=1+max a.depth b.depth:=rfl
theorem lH:(Tm.def_ u1 u2 u3 a b).depth=1+max a.depth b.depth:=rfl
theorem lJ:(Tm.when a b c).depth=1+max a.depth (max b.depth c.depth):=rfl
theorem mL{a b:Nat}:a<=max a b:=eK _ _
theorem mR{a b:Nat}:b<=max a b:=ft _ _
theorem mM{a b c:Nat}:b<=max a (max b c):=bR mL mR
theorem mC{a b c:Nat}:c<=max a (max b c):=bR mR mR
theorem k3(h1:x<=y)(h:3*(1+y)<=m):3*x+3<=m:=lN 0xd06310c8c124124324814e30534404e863 [_,_,_] rfl h1 h
theorem mj(h1:x<=y)(h:3*(1+y)<=m):3*x+3<=m+1:=jR (k3 h1 h)
theorem R0(h1:x<=y)(h:3*(1+y)<=m):3*x+3<=m+2:=jR (mj h1 h)
theorem z1(h1:x<=y)(h:e+(1+y)<=m):e+1+x<=m:=lN 0xe04d06130124124124814f34538104f84c [_,_,_,_] rfl h1 h
theorem zz(h1:x<=y)(h:e+(1+y)<=m):e+x<=m:=bR (Nat.add_le_add_right (Nat.le_succ e) x) (z1 h1 h)
theorem nd(h1:x<=y)(h:1+y<=n+1):x<=n:=lN 0xd30124124124814e3050613413a1 [_,_,_] rfl h1 h
theorem jt(h1:x<=y)(h:1+y+2<=n+1):x+2<=n:=lN 0xd06230124124124814e3050613418813a1 [_,_,_] rfl h1 h
theorem pb(h:1+y<=n):n=n-1+1:=cK (lN 0x184284c308049201241248 [_] rfl) (lN 0x30184284c201248049009049205301361 [_,_] rfl h)
def Tm.Ok:Tm->Prop
|.num _=>True|.name x=>km x|.un _ a=>a.Ok|.use f a=>km f/\a.Ok|.aj _ a b=>a.Ok/\b.Ok|.a9 x a b=>km x/\a.Ok/\b.Ok
|.bu k x a b=>(0<=k/\k<=9)/\km x/\a.Ok/\b.Ok|.def_ f x kd a b=>km f/\km x/\(kd="number"∨kd="piece")/\a.Ok/\b.Ok|.when a b c=>a.Ok/\b.Ok/\c.Ok
section
variable{P:Prog}{sc:List Int}(B:Base P)
include B
omit B in
theorem Mo{is:List Int}(h:k<is.length):∃i,(is.map V.int)[k]?=some (.int i):=⟨is[k],List.getElem?_map.trans (congrArg (Option.map V.int) (List.getElem?_eq_getElem h))⟩
theorem An{n:Nat}(σ:H):∃i τ,av P sc (n+1) 9 [.int x] σ=.ok (.int i) (σ++τ):=by
 rw[cp B.aB rfl];show ∃i τ,bW (aW (cx P sc n) sU.body [some (.int x),none] σ)=Res.ok (V.int i) (σ++τ);have hj:=jB (P:=P) B (a:=x.fdiv 1000) (b:=6) (by decide);generalize qG:(x.fdiv 1000).fmod 6=j at hj;have h1:small 1000003=true:=by decide
 have cf:small 10=true:=by decide
 generalize zy:[V.int (x.fmod 3),.int (x.fmod 1000),.int (-1-x.fmod 9),.int (1000003*x.fmod 2+x.fmod 5),.int ((10:Int)^20)]=v5;have hlen:v5.length=5:=by rw[←zy];rfl
 have hres:∃i,(v5++[.int (-x)])[j.toNat]?=some (.int i):=by
  rw[←zy];exact Mo (is:=[x.fmod 3,x.fmod 1000,-1-x.fmod 9,1000003*x.fmod 2+x.fmod 5,(10:Int)^20,-x]) (qz hj.1 hj.2)
 obtain⟨i,hi⟩:=hres;refine⟨i,[.ah v5,.ah [.int (-x)],.ah (v5++[.int (-x)])],?_⟩;have e1:(σ++[O.ah v5]++[O.ah [V.int (-x)]])[σ.length]?=some (.ah v5):=by simp
 have e2:(σ++[O.ah v5]++[O.ah [V.int (-x)]])[(σ++[O.ah v5]).length]?=some (.ah [.int (-x)]):=by simp
 have e3:(σ++[O.ah v5]++[O.ah [V.int (-x)]]++[O.ah (v5++[V.int (-x)])])[(σ++[O.ah v5]++[O.ah [V.int (-x)]]).length]?=some (.ah (v5++[.int (-x)])):=by simp
 have g2:ak (cx P sc n) (.ah {.neg (.aa 0)}) [some (.int x),some (.ref σ.length)] (σ++[.ah v5])=.ok (.ref (σ++[O.ah v5]).length) (σ++[O.ah v5]++[O.ah [V.int (-x)]]):=
  dG rfl (by simp[aO])
 have g3:ak (cx P sc n) (.aj .Add (.aa 1) (.ah {.neg (.aa 0)})) [some (.int x),some (.ref σ.length)] (σ++[.ah v5])=.ok (.ref (σ++[O.ah v5]++[O.ah [V.int (-x)]]).length) (σ++[O.ah v5]++[O.ah [V.int (-x)]]++[O.ah (v5++[V.int (-x)])]):=by
  refine bT (aE rfl) g2 ?_;simp only[nR,nS,jy,nT,nU,nV,nW,nX,nY];rw[aU (Cz B e1),aU (Cz B e2),if_pos (by rw[hlen];simp[aO])]
  rfl
 have g4:∀σ,ak (cx P sc n) (.aj .Mod (.aj .FloorDiv (.aa 0) (.int 1000)) (.int 6)) [some (.int x),some (.ref σ.length)] σ=.ok (.int j) σ:=λσ=>by
  simp[oc,og,oh,oi,oj,mV,mW,my,n3,mz,n4,mD,n5,mE,mF,j5,j6,mG,mH,mI,n6,n7,mJ,kM,mK,M.bind,M.pure,da,pH,pJ,pK,wM,wN,wO,nR,nS,jy,nT,nU,nV,nW,nX,nY,qG]
 have g1:ak (cx P sc n) (.ah {.aj .Mod (.aa 0) (.int 3),.aj .Mod (.aa 0) (.int 1000),.aj .Sub (.neg (.int 1)) (.aj .Mod (.aa 0) (.int 9)),.aj .Add (.aj .Mult (.int 1000003) (.aj .Mod (.aa 0) (.int 2))) (.aj .Mod (.aa 0) (.int 5)),.aj .Pow (.int 10) (.int 20)}) [some (.int x),none] σ=.ok (.ref σ.length) (σ++[.ah v5]):=by
  rw[←zy];refine dG ?_ (by simp[aO])
  rfl
 unfold sU;rw[bk g1];show bW (aW _ _ [some (.int x),some (.ref σ.length)] _)=_;rw[bw (cC g3 (by simp[oc,og,oh,oi,oj,mV,mW,my,n3,mz,n4,mD,n5,mE,mF,j5,j6,mG,mH,mI,n6,n7,mJ,kM,mK,M.bind,M.pure,da,pH,pJ,pK,wM,wN,wO,nR,nS,jy,nT,nU,nV,nW,nX,nY,qG]) (dF e3 hi hj.1 (lI 0x700700700700700700700700700790184c04904920598184c [_] rfl hj.2)))];simp[nN,nO,nP,nQ]
end
def SL.drop:Nat->SL->SL
|0,s=>s
|n+1,.cons _ r=>SL.drop n r
|_+1,.nil=>.nil
theorem bX(h:bP C c L σ=.ok false ae):aW C (.cons (.ite c t .nil) r) L σ=aW C r L ae:=by
 rw[dC];rw[oa h];rfl
def SL.dr:Nat->SL->SL
|0,b=>b
|_+1,.nil=>.nil
|k+1,.cons _ r=>r.dr k
def isIf:S->Option E
|.ite c _ .nil=>some c
|_=>none
theorem Jr(h:isIf s=some c)(e:bP C c L σ=.ok false ae):aW C (.cons s r) L σ=aW C r L ae:=by
 cases s with
|ite c' t e'=>cases e' with
  |nil=>exact bX ((Option.some.inj h)▸e)
  |cons _ _=>exact bS h
|_=>exact bS h
def uV(C:Ctx):Nat->SL->aQ->H->Option H
|0,_,_,σ=>some σ
|_+1,.nil,_,_=>none
|k+1,.cons s r,L,σ=>match isIf s with
  |none=>none
  |some c=>match bP C c L σ with
   |.ok false af=>uV C k r L af
   |_=>none
theorem jmp(k:Nat)(h:uV C k b L σ=some af)(h2:aW C (b.dr k) L af=r):aW C b L σ=r:=by
 subst h2
 induction k generalizing b σ with
|zero=>exact Option.some.inj h▸rfl
|succ k ih=>
  cases b with
  |nil=>exact bS h
  |cons s b=>
   have h:(match isIf s with|none=>none|some c=>match bP C c L σ with|.ok false af=>uV C k b L af|_=>none)=some af:=h;cases e0:isIf s with
   |none=>rw[e0] at h;exact bS h
   |some c=>
    rw[e0] at h;have h:(match bP C c L σ with|.ok false af=>uV C k b L af|_=>none)=some af:=h;cases e:bP C c L σ with
    |ok x ae=>rw[e] at h;cases x with
     |false=>exact(Jr e0 e).trans (ih h)
     |true=>exact bS h
    |aF c' ae=>rw[e] at h;exact bS h
    |bad=>rw[e] at h;exact bS h
theorem b8(h:bP C c L σ=.ok true ae)(h2:aW C t L ae=.ok (.ret v) L1 ao):aW C (.cons (.ite c t .nil) r) L σ=.ok (.ret v) L1 ao:=
 tL (by rw[kO h];exact h2)
theorem Er(x y:Int)(σ:H):dH .Lt (.int x) (.int y) σ=.ok (decide (x<y)) σ:=rfl
theorem xN(x y:Int)(σ:H):dH .Eq (.int x) (.int y) σ=.ok (x==y) σ:=rfl
section
variable{P:Prog}{sc:List Int}
theorem AN(h0:P.fns 0=some qQ)(t:Tm)(n:Nat)(σ:H):av P sc (n+1) 0 [t.ag] σ=.ok (.ref σ.length) (σ++[.ah (t.parts.map Tm.ag)]):=by
 rw[cp h0 rfl];cases t with
|un w a=>cases w<;>rfl'
|aj w a b=>cases w<;>rfl'
|_=>rfl'
theorem Ap(h0:P.fns 10=some wc)(t:Tm)(n:Nat)(σ:H):av P sc (n+1) 10 [t.ag] σ=.ok (.ref σ.length) (σ++[.ah (t.parts.map Tm.ag)]):=by
 rw[cp h0 rfl];cases t with
|un w a=>cases w<;>rfl'
|aj w a b=>cases w<;>rfl'
|_=>rfl'
theorem IL(h0:P.fns 6=some pq)(i:Int)(n:Nat)(σ:H):av P sc (n+1) 6 [.int i] σ=.ok (.bool true) σ:=by
 rw[cp h0 rfl];simp[pq,pF,pG,mX,ke,kR,mY,mZ,mO,j7,mP,oc,og,oh,oi,oj,mV,mW,my,n3,mz,n4,mD,n5,mE,mF,j5,j6,mG,mH,mI,n6,n7,mJ,kM,mK,A1,A2,Qh.N.bind,Qh.N.lift,M.bind,M.pure,da,pH,pJ,pK,Ar,Ii,As,Au,Ij,fO,nN,nO,nP,nQ,Qh.N.pure,Av]
theorem AO(hf:∀t∈ts,∀σ,∃τ,f t.ag σ=.ok (some (g t)) (σ++τ)):
  ∀(rest done:List Tm)(σ:H),ts=done++rest->σ[l]?=some (.ah (ts.map Tm.ag))->∃τ,dk (.live l) f (rest.length+1) done.length σ=.ok (rest.map g) (σ++τ):=by
 intro rest
 induction rest with
|nil=>
  intro done σ hd hl;refine⟨[],?_⟩;rw[kK (ae:=σ)]
  ·simp
  ·simp[tq,jY,M.bind,bI,cW,hl,M.pure,hd]
|cons t rest ih=>
  intro done σ hd hl;obtain⟨τ,h1⟩:=hf t (by rw[hd];simp) σ;obtain⟨fY,h2⟩:=ih (done++[t]) (σ++τ) (by rw[hd];simp) (by rw[List.getElem?_append_left (List.getElem?_eq_some_iff.mp hl).1];exact hl);refine⟨τ++fY,?_⟩;rw[List.length_append,List.length_singleton] at h2;have:=gW (y:=some (g t)) (s:=.live l) (k:=done.length) (σ:=σ) (ae:=σ) (v:=t.ag) (by simp[tq,jY,M.bind,bI,cW,hl,M.pure,hd]) h1 h2;rw[List.length_cons,this];simp
theorem pz{α:Type}(g:α->Int):∀l:List α,intsOf (l.map λa=>V.int (g a))=some (l.map g)
|[]=>rfl
|a::l=>by simp[Im,Io,pz g l]
theorem AP(t:Tm):(t.size:Int)=1+((t.parts.map λp=>(p.size:Int)).sum):=by
 cases t<;>simp[QL,QM,QN,QO,QP,QQ,QR,QS,QT,Fm,Fo,Fp,Fq,Ft,Fu,Fv,Fw,Fx]
theorem ql(x y:Nat):(if(y:Int)>x then(y:Int) else x)=((max x y:Nat):Int):=by
 rcases Nat.lt_or_ge x y with h|h
 ·exact(if_pos (Int.ofNat_lt.mpr h)).trans (congrArg Int.ofNat (Nat.max_eq_right (Nat.le_of_lt h)).symm)
 ·exact(if_neg (Int.not_lt.mpr (Int.ofNat_le.mpr h))).trans (congrArg Int.ofNat (Nat.max_eq_left h).symm)
theorem dL:x+1<=1+max x y:=bR (Nat.le_of_eq (Nat.add_comm x 1)) (Nat.add_le_add_left (eK x y) 1)
theorem dR(h:z+1<=1+y):z+1<=1+max x y:=bR h (Nat.add_le_add_left (ft x y) 1)
theorem vJ{Q:Tm->Prop}:∀p∈([]:List Tm),Q p:=λ_ m=>nomatch m
theorem qH{Q:Tm->Prop}{a:Tm}(h:Q a)(g:∀p∈l,Q p):∀p∈a::l,Q p:=λp m=>(List.mem_cons.mp m).elim (λe=>e▸h) (g p)
theorem dS:x+1<=1+x:=Nat.le_of_eq (Nat.add_comm _ _)
theorem Aq(t:Tm):(t.depth:Int)=1+qq (t.parts.map λp=>(p.depth:Int)):=by
 cases t with
|aj _ a b=>exact congrArg (1+·) (ql a.depth b.depth).symm
|a9 _ a b=>exact congrArg (1+·) (ql a.depth b.depth).symm
|bu _ _ a b=>exact congrArg (1+·) (ql a.depth b.depth).symm
|def_ _ _ _ a b=>exact congrArg (1+·) (ql a.depth b.depth).symm
|when a b c=>
  exact congrArg (1+·) (show((max a.depth (max b.depth c.depth):Nat):Int)=(if(c.depth:Int)>(if(b.depth:Int)>a.depth then(b.depth:Int) else a.depth) then(c.depth:Int) else(if(b.depth:Int)>a.depth then(b.depth:Int) else a.depth)) from(ql a.depth b.depth).symm▸(congrArg Int.ofNat (Nat.max_assoc _ _ _).symm).trans (ql _ _).symm)
|_=>rfl
theorem wi(t:Tm):∀p∈t.parts,p.depth+1<=t.depth:=by
 cases t with
|num|name=>exact vJ
|un _ a|use _ a=>exact qH dS vJ
|aj|a9|bu|def_=>exact qH dL (qH (dR dS) vJ)
|when=>exact qH dL (qH (dR dL) (qH (dR (dR dS)) vJ))
theorem tw(t:Tm):t.parts.length<=3:=by cases t<;>simp[Fm,Fo,Fp,Fq,Ft,Fu,Fv,Fw,Fx]
theorem wJ(t:Tm):1<=t.depth:=by cases t<;>simp[lA,lB,lC,lD,lE,lF,lG,lH,lJ]
theorem wK(h0:P.fns 0=some qQ)(h1:P.fns 1=some qZ):∀(n:Nat)(t:Tm)(σ:H),t.depth<=n->∃τ,av P sc (n+1) 1 [t.ag] σ=.ok (.int t.size) (σ++τ)
|0=>λt σ h=>absurd h (by have:=wJ t;exact Nat.not_le.mpr (lN 0x301860049049205321 [_] rfl this))
|n+1=>λt σ h=>by
  rw[cp h1 rfl];show ∃τ,bW (aW (cx P sc (n+1)) qZ.body [some t.ag,none] σ)=.ok (V.int t.size) (σ++τ);have hl:(σ++[O.ah (t.parts.map Tm.ag)])[σ.length]?=some (.ah (t.parts.map Tm.ag)):=by simp
  obtain⟨τ,hc⟩:=AO (g:=λt=>.int t.size) (f:=λit=>M.bind (ak (cx P sc (n+1)) (.call 1 {.aa 1}) (b7 (cQ [some t.ag,none] []) 1 it)) λy=>M.pure (some y)) (l:=σ.length) (ts:=t.parts) (λp hp s=>by
   obtain⟨τ,jV⟩:=wK h0 h1 n p s (by have:=wi t p hp;exact lN 0xd30124124124814184d38538184c [_,_,_] rfl h this);refine⟨τ,?_⟩;rw[aU (aN (by rfl) jV)]
   rfl) t.parts [] _ rfl hl
  have oU:srcOf (.ref σ.length) (σ++[O.ah (t.parts.map Tm.ag)])=.ok (.live σ.length) (σ++[O.ah (t.parts.map Tm.ag)]):=by simp[pB,A0,M.bind,bI,cW,M.pure]
  have hlen:eX (.live σ.length) (σ++[O.ah (t.parts.map Tm.ag)])=.ok t.parts.length (σ++[O.ah (t.parts.map Tm.ag)]):=by simp[Aw,pw,M.bind,bI,cW,M.pure]
  have hle:t.parts.length<=aO:=bR (tw t) (by decide);have iv:=kP (aN (aP (i:=0) (L:=[some t.ag,none]) rfl ba) (AN h0 t n σ)) oU hlen hle hc;generalize hs2:σ++[O.ah (t.parts.map Tm.ag)]++τ=ao at iv;have hsum:nx (.ref ao.length) (ao++[.ah (t.parts.map λt=>.int t.size)])=.ok (.int (t.parts.map λp=>(p.size:Int)).sum) (ao++[.ah (t.parts.map λt=>.int t.size)]):=by
   simp[nx,M.bind,bI,cW,M.pure,pz,da]
  refine⟨[O.ah (t.parts.map Tm.ag)]++τ++[.ah (t.parts.map λt=>.int t.size)],?_⟩;unfold qZ;rw[bw (v:=.int t.size) (ae:=ao++[.ah (t.parts.map λt=>.int t.size)]) (bT rfl (yo iv hsum) ?_)]
  ·simp[nN,nO,nP,nQ,←hs2]
  ·simp only[nR,nS,jy,nT,nU,nV,nW,nX,nY,AP t];rfl
theorem wo(h0:P.fns 0=some qQ)(h1:P.fns 2=some qR):∀(n:Nat)(t:Tm)(σ:H),t.depth<=n->∃τ,av P sc (n+1) 2 [t.ag] σ=.ok (.int t.depth) (σ++τ)
|0=>λt σ h=>absurd h (by have:=wJ t;exact Nat.not_le.mpr (lN 0x301860049049205321 [_] rfl this))
|n+1=>λt σ h=>by
  rw[cp h1 rfl];show ∃τ,bW (aW (cx P sc (n+1)) qR.body [some t.ag,none] σ)=.ok (V.int t.depth) (σ++τ);have hl:(σ++[O.ah (t.parts.map Tm.ag)])[σ.length]?=some (.ah (t.parts.map Tm.ag)):=by simp
  obtain⟨τ,hc⟩:=AO (g:=λt=>.int t.depth) (f:=λit=>M.bind (ak (cx P sc (n+1)) (.call 2 {.aa 1}) (b7 (cQ [some t.ag,none] []) 1 it)) λy=>M.pure (some y)) (l:=σ.length) (ts:=t.parts) (λp hp s=>by
   obtain⟨τ,jV⟩:=wo h0 h1 n p s (by have:=wi t p hp;exact lN 0xd30124124124814184d38538184c [_,_,_] rfl h this);refine⟨τ,?_⟩;rw[aU (aN (by rfl) jV)]
   rfl) t.parts [] _ rfl hl
  have oU:srcOf (.ref σ.length) (σ++[O.ah (t.parts.map Tm.ag)])=.ok (.live σ.length) (σ++[O.ah (t.parts.map Tm.ag)]):=by simp[pB,A0,M.bind,bI,cW,M.pure]
  have hlen:eX (.live σ.length) (σ++[O.ah (t.parts.map Tm.ag)])=.ok t.parts.length (σ++[O.ah (t.parts.map Tm.ag)]):=by simp[Aw,pw,M.bind,bI,cW,M.pure]
  have hle:t.parts.length<=aO:=bR (tw t) (by decide);have iv:=kP (aN (aP (i:=0) (L:=[some t.ag,none]) rfl ba) (AN h0 t n σ)) oU hlen hle hc;generalize hs2:σ++[O.ah (t.parts.map Tm.ag)]++τ=ao at iv;have hsum:oF (.ref ao.length) (ao++[.ah (t.parts.map λt=>.int t.depth)])=.ok (.int (qq (t.parts.map λp=>(p.depth:Int)))) (ao++[.ah (t.parts.map λt=>.int t.depth)]):=by
   simp[oF,M.bind,bI,cW,M.pure,pz,da]
  refine⟨[O.ah (t.parts.map Tm.ag)]++τ++[.ah (t.parts.map λt=>.int t.depth)],?_⟩;unfold qR;rw[bw (v:=.int t.depth) (ae:=ao++[.ah (t.parts.map λt=>.int t.depth)]) (bT rfl (Dp iv hsum) ?_)]
  ·simp[nN,nO,nP,nQ,←hs2]
  ·simp only[nR,nS,jy,nT,nU,nV,nW,nX,nY,Aq t];rfl
end
theorem Ic{x:Str}(h:km x):V.dO (.str x)=true:=by
 show x.cps.all (· < 0x110000)=true;rw[Array.all_eq_true];intro i hi;have:=h.1 x.cps[i] (by simp);simp;exact lN 0x700740790184c049049205e8784c [_] rfl this.2
section
variable{P:Prog}{sc:List Int}
theorem add_lists{σ:H}{i j:Nat}{a b:List V}(hi:σ[i]?=some (.ah a))(hj:σ[j]?=some (.ah b))(hl:a.length+b.length<=aO):binop .Add (.ref i) (.ref j) σ=.ok (.ref σ.length) (σ++[.ah (a++b)]):=by
 simp[nR,nS,jy,nT,nU,nV,nW,nX,nY,M.bind,bI,cW,hi,hj,M.pure,hl,dc]
theorem old{σ τ:H}{i:Nat}{o:O}(h:σ[i]?=some o):(σ++τ)[i]?=some o:=by
 rw[List.getElem?_append_left (List.getElem?_eq_some_iff.mp h).1];exact h
end
end Qh
set_option tactic.hygienic true
namespace Qh
open PySem
section
variable{C:Ctx}{L:aQ}{σ ae ao b9 pa:H}{a b c:E}{x y z r:V}
theorem Ds(h1:ak C a L σ=.ok x ae)(h2:ng x ae=.ok r ao):ak C (.dict a) L σ=.ok r ao:=by rw[JS,aU h1,h2]
theorem j8(h1:ak C c L σ=.ok z ae)(h2:ak C a L ae=.ok x ao)(h3:ak C b L ao=.ok y b9)(h4:iB x y z b9=.ok () pa):cF C (.fh a b c) L σ=.ok .next L pa:=by
 simp only[ke,Qh.N.bind,Qh.N.lift,h1,h2,h3,h4,Qh.N.pure]
theorem IM(h1:ak C a L σ=.ok x ae)(h2:bI x ae=.ok vs ae)(h3:ak C b L ae=.ok y ao)(h4:rn x y ao=.ok () b9):cF C (.append a b) L σ=.ok .next L b9:=by
 simp only[kR,Qh.N.bind,Qh.N.lift,h1,h2,h3,h4,Qh.N.pure]
theorem iC(h1:ak C a L σ=.ok x ae):cF C (.expr a) L σ=.ok .next L ae:=by
 simp only[Lh,Qh.N.bind,Qh.N.lift,h1,Qh.N.pure]
theorem uW(h1:ak C a L σ=.ok x ae)(h2:ak C b L ae=.ok y ao)(h3:index C x y ao=.ok (.bool t) b9):bP C (.au a b) L σ=.ok t b9:=by
 rw[tD,aU (by rw[aU h1,aU h2,h3])];rfl
theorem m4(h:σ[i]?=some o):cW i σ=.ok o σ:=by simp only[cW,h]
theorem dX(h:σ[i]?=some (.ah vs)):bI (.ref i) σ=.ok vs σ:=by
 show M.bind (cW i) _ σ=_;rw[aU (m4 h)];rfl
theorem append_at(h:σ[i]?=some (.ah vs))(hl:vs.length<=aO):rn (.ref i) y σ=.ok () (σ.set i (.ah (vs++[y]))):=by
 show M.bind (bI (.ref i)) _ σ=_;rw[aU (dX h),if_pos hl];rfl
theorem m5(h:σ[i]?=some (.ah vs))(h0:0<=k/\k<vs.length/\vs.length<=aO):iB (.ref i) (.int k) y σ=.ok () (σ.set i (.ah (vs.set k.toNat y))):=by
 rw[z8,aU (dX h),if_pos h0];rfl
theorem CA(h:σ[i]?=some (.aD es))(h0:es.length<=aO):iB (.ref i) (.str k) y σ=.ok () (σ.set i (.aD (bp es k y))):=by
 rw[HT,aU (m4 h)];show(if es.length<=aO then iM i (.aD (bp es k y)) else M.fail) σ=_;rw[if_pos h0];rfl
theorem CB(h:σ[i]?=some (.aD es))(h0:es.length<=aO):ng (.ref i) σ=.ok (.ref σ.length) (σ++[.aD es]):=by
 show M.bind (cW i) _ σ=_;rw[aU (m4 h)];show(if es.length<=aO then dc (.aD es) else M.fail) σ=_;rw[if_pos h0];rfl
theorem in_dict(h:σ[i]?=some (.aD es)):iA (.str k) (.ref i) σ=.ok (de es k).isSome σ:=by
 rw[Cb,aU (m4 h)];rfl
def mem(x:Str)(l:List Str):Bool:=l.any (·==x)
theorem KN(h:iA x y σ=.ok t ae):dH .NotIn x y σ=.ok (!t) ae:=by rw[wB,aU h];rfl
theorem xh:(σ++[o]).set σ.length o'=σ++[o']:=by
 simp
theorem bL:(σ++[o])[σ.length]?=some o:=by rw[List.getElem?_append_right (aR _),Nat.sub_self];rfl
theorem NT(h1:bP C a L σ=.ok t1 σ)(h2:bP C b L σ=.ok t2 σ):bP C (.and {a,b}) L σ=.ok (t1&&t2) σ:=by
 refine jg (all_cons h1 (λe=>?_) (λe=>?_))
 ·rw[e,Bool.true_and];exact all_cons h2 (λe=>by rw[e];exact all_nil) (λe=>⟨e,rfl⟩)
 ·rw[e];exact⟨rfl,rfl⟩
theorem xi(h:i<σ.length):(σ++τ).set i o=σ.set i o++τ:=by rw[List.set_append,if_pos h]
theorem yp(h:σ[i]?=some o)(hn:j≠i):(σ.set j o')[i]?=some o:=by rw[List.getElem?_set_ne hn];exact h
theorem gy(h:σ[i]?=some o):(σ.set i o')[i]?=some o':=by simp[(List.getElem?_eq_some_iff.mp h).1]
theorem oN(h:σ[i]?=some o):i<σ.length:=(List.getElem?_eq_some_iff.mp h).1
end
section
theorem w5(h1:ak C e L σ=.ok (.int n) ae)(hn:0<=n/\n<=1000000)(h2:dP (λk=>M.pure ((dM n)[k]?.map λv=>[(i,v)])) (aW C b) (n.toNat+1) 0 L ae=.ok f L1 ao):cF C (.eP i e b) L σ=.ok f L1 ao:=by
 simp only[j7,Qh.N.bind,Qh.N.lift,h1,tn,M.pure];rw[if_pos hn];exact h2
theorem uw(h:σ[l]?=some (.ah vs))(hl:vs.length<=aO):lenOf C (.ref l) σ=.ok (.int vs.length) σ:=by
 rw[wC,aU (dX h),if_pos hl];rfl
end
def Tm.pre:Tm->List Str->List (Str×Bool)
|.name x,hs=>[(x,mem x hs)]
|.use f a,hs=>[(f,mem f hs)]
|_,_=>[]
section
variable{P:Prog}{sc:List Int}
theorem fw(R1:P.fns 18=some nM)(hb:σ[b]?=some (.aD es))(hl:es.length<=aO):
  av P sc (n+1) 18 [.ref b,.str x,v] σ=.ok (.ref σ.length) (σ++[.aD (bp es x v)]):=by
 rw[cp R1 rfl];unfold nM;rw[bk (Ds (aE rfl) (CB hb hl))];rw[dC (j8 (aE rfl) (aE rfl) (aE rfl) (CA bL hl)),xh];rw[bw (aE rfl)]
 rfl
theorem gX(es:List (Str×V))(x:Str)(v:V):(bp es x v).length<=es.length+1:=by unfold bp;split<;>simp
end
end Qh
set_option tactic.hygienic false
set_option tactic.hygienic true
namespace Qh
open PySem
inductive Kd where|aB|aY
inductive Lv where|z|o
def Kd.s:Kd->Str
|.aB=>"number"|.aY=>"piece"
def Lv.i:Lv->Int
|.z=>0|.o=>1
inductive Mn where|val (k:Kd)|fn (a r:Kd)
def Mn.ks:Mn->V
|.val k=>.ax [.str k.s]|.fn a r=>.ax [.str a.s,.str r.s]
def Mn.mv(l:Lv):Mn->V
|.val k=>.ax [.int l.i,.str k.s]|.fn a r=>.ax [.int l.i,.str a.s,.str r.s]
structure Ent where
 x:Str
 l:Lv
 m:Mn
def Ent.v(e:Ent):V:=.ax [.str e.x,.int e.l.i,e.m.ks]
noncomputable abbrev Sc:=List Ent
def look(Γ:Sc)(x:Str):Option Ent:=Γ.reverse.find? λe=>e.x==x
theorem iD(Γ:Sc)(e:Ent)(x:Str):look (Γ++[e]) x=if e.x==x then some e else look Γ x:=by
 unfold look;rw[List.reverse_append,List.reverse_singleton,List.singleton_append,List.find?_cons];cases e.x==x<;>rfl
class inductive HK:Sc->Lv->Bool->Tm->Kd->Prop
|num {Γ l f i}:HK Γ l f (.num i) .aB
|name {Γ l f x k}:look Γ x=some ⟨x,l,.val k⟩->HK Γ l f (.name x) k
|when {Γ l f a b c k}:HK Γ l f a .aB->HK Γ l f b k->HK Γ l f c k->HK Γ l f (.when a b c) k
|use {Γ l f g a ka k}:look Γ g=some ⟨g,l,.fn ka k⟩->HK Γ l f a ka->HK Γ l f (.use g a) k
|a9 {Γ l f x a b k k'}:HK Γ l f a k->HK (Γ++[⟨x,l,.val k⟩]) l f b k'->HK Γ l f (.a9 x a b) k'
|bu {Γ l f n x a b k}:(0<=n/\n<=9)->HK Γ l f a k->HK (Γ++[⟨x,l,.val k⟩]) l f b k->HK Γ l f (.bu n x a b) k
|def_ {Γ l f g x a b ka k k'}:(l=.o->ka=.aB)->HK (Γ++[⟨x,l,.val ka⟩]) l false a k->HK (Γ++[⟨g,l,.fn ka k⟩]) l f b k'->HK Γ l f (.def_ g x ka.s a b) k'
|bJ {Γ f a}:HK Γ .o false a .aB->HK Γ .z f (.un .bJ a) .aY
|hole {Γ f a}:HK Γ .z false a .aY->HK Γ .o f (.un .hole a) .aB
|lift {Γ f a}:HK Γ .z f a .aB->HK Γ .z f (.un .lift a) .aY
|run {Γ a}:HK Γ .z true a .aY->HK Γ .z true (.un .run a) .aB
|aj {Γ l f w a b}:HK Γ l f a .aB->HK Γ l f b .aB->HK Γ l f (.aj w a b) .aB
section
variable(G:Nat->Sc->Lv->Bool->Tm->Kd->Prop)
def NU:Prop:=∀{d Γ l f x k},look Γ x=some ⟨x,l,.val k⟩->G d Γ l f (.name x) k
def Mp:Prop:=∀{d Γ f x},look Γ x=some ⟨x,.z,.val .aY⟩->G d Γ .o f (.un .hole (.name x)) .aB
def KO:Prop:=∀{d Γ f x},look Γ x=some ⟨x,.o,.val .aB⟩->G d Γ .z f (.un .bJ (.name x)) .aY
def NV:Prop:=∀{d Γ l f a b c k},G d Γ l f a .aB->G d Γ l f b k->G d Γ l f c k->G (d+1) Γ l f (.when a b c) k
def Pt:Prop:=∀{d Γ l f g a ka k},look Γ g=some ⟨g,l,.fn ka k⟩->G d Γ l f a ka->G (d+1) Γ l f (.use g a) k
def NW:Prop:=∀{d Γ l f x a b k k'},G d Γ l f a k->G d (Γ++[⟨x,l,.val k⟩]) l f b k'->G (d+1) Γ l f (.a9 x a b) k'
def Mq:Prop:=∀{d Γ l f n x a b k},(0<=n/\n<=9)->G d Γ l f a k->G d (Γ++[⟨x,l,.val k⟩]) l f b k->G (d+1) Γ l f (.bu n x a b) k
def NX:Prop:=∀{d Γ l f g x a b ka k k'},(l=.o->ka=.aB/\k=.aB)->G d (Γ++[⟨x,l,.val ka⟩]) l false a k->G d (Γ++[⟨g,l,.fn ka k⟩]) l f b k'->G (d+1) Γ l f (.def_ g x ka.s a b) k'
def Mr:Prop:=∀{d Γ f a},G d Γ .o false a .aB->G (d+1) Γ .z f (.un .bJ a) .aY
def NY:Prop:=∀{d Γ f a},G d Γ .z false a .aY->G (d+1) Γ .o f (.un .hole a) .aB
def NZ:Prop:=∀{d Γ f a},G d Γ .z f a .aB->G (d+1) Γ .z f (.un .lift a) .aY
def Pu:Prop:=∀{d Γ a},G d Γ .z true a .aY->G (d+1) Γ .z true (.un .run a) .aB
def Pw:Prop:=∀{d Γ l f w a b},G d Γ l f a .aB->G d Γ l f b .aB->G (d+1) Γ l f (.aj w a b) .aB
def N0:Prop:=∀{d Γ f x g a b},G (d-1) Γ .o false a .aB->G (d-1) (Γ++[⟨x,.o,.val .aB⟩]++[⟨g,.z,.val .aY⟩]) .o false b .aB->G (d+1) Γ .o f (.a9 x a (.un .hole (.a9 g (.un .bJ (.name x)) (.un .bJ b)))) .aB
def Ms:Prop:=∀{d Γ f x g a y i b c},G (d-1) Γ .o false a .aB->G 0 (Γ++[⟨x,.o,.val .aB⟩]++[⟨g,.z,.val .aY⟩]++[⟨y,.o,.val .aB⟩]) .o false b .aB->G (d-2) (Γ++[⟨x,.o,.val .aB⟩]++[⟨g,.z,.val .aY⟩]++[⟨y,.o,.val .aB⟩]) .o false c .aB->G (d+1) Γ .o f (.a9 x a (.un .hole (.a9 g (.un .bJ (.name x)) (.un .bJ (.a9 y (.num i) (.aj .sum b c)))))) .aB
end
structure Gr(G:Nat->Sc->Lv->Bool->Tm->Kd->Prop):Prop where
 num:∀{d Γ l f i},G d Γ l f (.num i) .aB
 name:NU G
 kz:Mp G
 kW:KO G
 kX:∀{d Γ f i},G d Γ .z f (.un .bJ (.num i)) .aY
 lb:∀{d Γ f i},G d Γ .z f (.un .lift (.num i)) .aY
 when:NV G
 use:Pt G
 a9:NW G
 bu:Mq G
 def_:NX G
 bJ:Mr G
 hole:NY G
 lift:NZ G
 run:Pu G
 aj:Pw G
 kept:N0 G
 twice:Ms G
section
variable{P:Prog}{sc:List Int}
structure Kinds(P:Prog):Prop where
 eU:P.fns 18=some nM
 Gp:P.fns 43=some Ac
 Gq:P.fns 44=some v3
 Gs:P.fns 45=some Ak
 Gu:P.fns 46=some wI
 vK:P.fns 47=some z7
 qI:P.fns 48=some Ad
 Gv:P.fns 49=some Bj
 c0:P.consts 0=some (.str "number")
 c1:P.consts 1=some (.str "piece")
variable(B:Kinds P)
include B
def nv(es:List (Str×V))(Γ:Sc):Prop:=∀x,de es x=(look Γ x).map λe=>e.m.mv e.l
omit B in
theorem mU(es:List (Str×V))(x y:Str)(v:V):de (bp es x v) y=if x==y then some v else de es y:=by
 unfold bp de
 split
 ·rename_i hx
  induction es with
  |nil=>exact ff hx
  |cons e es ih=>
   rw[List.map_cons,List.find?_cons,List.find?_cons]
   by_cases h1:e.1=x
   ·clear hx;subst h1;refine(if_pos rfl).symm▸?_
    by_cases h2:e.1=y
    ·simp[h2]
    ·simp only[h2,decide_false,beq_eq_false_iff_ne.mpr h2,Bool.false_eq_true,if_false]
     by_cases h3:es.any (λe'=>decide (e'.1=e.1))=true
     ·have:=ih h3
      simpa[h2] using this
     ·have:es.map (λe'=>if e'.1=e.1 then(e'.1,v) else e')=es:=by
       rw[List.map_congr_left (g:=id)]
       ·simp
       ·intro a ha;have:¬ a.1=e.1:=λq=>h3 (List.any_eq_true.mpr ⟨a,ha,decide_eq_true q⟩);simp[this]
      refine this.symm▸?_;with_reducible rfl
   ·have hx':es.any (λe'=>decide (e'.1=x))=true:=by simpa[h1] using hx
    refine(if_neg h1).symm▸?_
    by_cases h2:e.1=y
    ·have h3:¬ x=y:=λq=>h1 (h2.trans q.symm);simp[h2,h3]
    ·simp only[h2,decide_false,Bool.false_eq_true];exact ih hx'
 ·rename_i hx
  rw[List.find?_append];have hn:∀e∈es,¬ e.1=x:=λe he q=>hx (List.any_eq_true.mpr ⟨e,he,decide_eq_true q⟩)
  by_cases h:x=y
  ·clear hx;subst h;have:es.find? (λe=>decide (e.1=x))=none:=List.find?_eq_none.mpr λe he=>by simp[hn e he]
   simp[this]
  ·simp[h]
omit B in
theorem nv.add{es:List (Str×V)}{Γ:Sc}(h:nv es Γ)(e:Ent):nv (bp es e.x (e.m.mv e.l)) (Γ++[e]):=λy=>by
 rw[mU,iD]
 split
 ·rfl
 ·exact h y
end
end Qh
set_option tactic.hygienic false
namespace Qh
open PySem
section
variable{P:Prog}{sc:List Int}(B:Kinds P)
include B
theorem e_num{n:Nat}{L:aQ}{σ:H}:ak (cx P sc n) (.glob 0) L σ=.ok (.str Kd.aB.s) σ:=by
 rw[om];show da (P.consts 0) σ=_;rw[B.c0];rfl
theorem rB{n:Nat}{L:aQ}{σ:H}:ak (cx P sc n) (.glob 1) L σ=.ok (.str Kd.aY.s) σ:=by
 rw[om];show da (P.consts 1) σ=_;rw[B.c1];rfl
omit B in
theorem ja{C:Ctx}{σ:H}{d:Nat}{es:List (Str×V)}{x:Str}{v:V}(h:σ[d]?=some (.aD es))(hv:de es x=some v):index C (.ref d) (.str x) σ=.ok v σ:=by
 rw[tm,aU (m4 h)];show da (de es x) σ=_;rw[hv];rfl
omit B in
theorem ne_str{C:Ctx}{L:aQ}{σ ae:H}{a b:E}{k:Str}(h1:ak C a L σ=.ok (.str k) ae)(h2:ak C b L ae=.ok (.str k) ae):bP C (.cmp .NotEq a b) L σ=.ok false ae:=by
 refine dY h1 h2 ?_;rw[mq,aU (a:=true)]
 ·rfl
 ·rw[JW];show Res.ok (k==k) ae=_;rw[beq_self_eq_true]
omit B in
theorem ne_int{C:Ctx}{L:aQ}{σ ae ao:H}{a b:E}{k:Int}(h1:ak C a L σ=.ok (.int k) ae)(h2:ak C b L ae=.ok (.int k) ao):bP C (.cmp .NotEq a b) L σ=.ok false ao:=by
 refine dY h1 h2 ?_;rw[mq,aU (a:=true)]
 ·rfl
 ·rw[BA];show Res.ok (k==k) ao=_;rw[beq_self_eq_true]
theorem Af{n d:Nat}{es:List (Str×V)}{Γ:Sc}{x:Str}{l:Lv}{m:Mn}{σ:H}(hd:σ[d]?=some (.aD es))(hm:nv es Γ)(hl:look Γ x=some ⟨x,l,m⟩):
  av P sc (n+1) 43 [.str x,.int l.i,.ref d] σ=.ok (m.mv l) σ:=by
 have hg:de es x=some (m.mv l):=by rw[hm,hl];rfl
 rw[cp B.Gp rfl];have hi:∀C:Ctx,ak C (.au (.aa 2) (.aa 0)) [some (.str x),some (.int l.i),some (.ref d)] σ=.ok (m.mv l) σ:=λC=>cC (aE rfl) (aE rfl) (ja hd hg);refine(congrArg bW ((bX (dY (aE rfl) (aE rfl) ((KN (in_dict hd)).trans (by rw[hg];rfl)))).trans ((bX (ne_int (cC (hi _) rfl ?_) (aE rfl))).trans (bw (hi _))))).trans rfl;(clear hi hg hl;cases m)<;>rfl
def zA(P:Prog)(sc:List Int)(n:Nat)(Γ:Sc)(l:Lv)(f:Bool)(t:Tm)(k:Kd):Prop:=∀(d:Nat)(es:List (Str×V))(σ:H),σ[d]?=some (.aD es)->nv es Γ->es.length+t.depth<=aO->
 ∃τ,av P sc n 46 [t.ag,.int l.i,.ref d,.bool f] σ=.ok (.str k.s) (σ++τ)
theorem j3{n d:Nat}{Γ:Sc}{l:Lv}{f:Bool}{t:Tm}{k:Kd}(h:zA P sc n Γ l f t k){es:List (Str×V)}{σ:H}(hd:σ[d]?=some (.aD es))(hm:nv es Γ)(hz:es.length+t.depth<=aO):
  ∃τ,av P sc (n+1) 45 [.str k.s,t.ag,.int l.i,.ref d,.bool f] σ=.ok .none (σ++τ):=by
 refine b6 (h d es σ hd hm hz) λτ e=>?_;refine⟨τ,?_⟩;rw[cp B.Gs rfl];exact(congrArg bW ((bX (ne_str (aN rfl e) (aE rfl))).trans fy)).trans rfl
def Fy:SL:=match wI.body with
|.cons _ (.cons _ r)=>r
|_=>.nil
theorem pV{n d:Nat}{t:Tm}{w:Str}{l:Lv}{f:Bool}{σ:H}(hw:∀C L,ak C (.au (.aa 0) (.int 0)) (some t.ag::L) σ=.ok (.str w) σ)(hn:av P sc n 44 [.str w,.int l.i,.bool f] σ=.ok .none σ){L':aQ}{v:V}{af:H}(h:aW (cx P sc n) Fy [some t.ag,some (.int l.i),some (.ref d),some (.bool f),some (.str w),none,none] σ=.ok (.ret v) L' af):av P sc (n+1) 46 [t.ag,.int l.i,.ref d,.bool f] σ=.ok v af:=by
 rw[cp B.Gu rfl];exact(congrArg bW ((bk (hw _ _)).trans ((dC (iC (aN rfl hn))).trans h))).trans rfl
theorem xj{n d:Nat}{Γ:Sc}{l l':Lv}{f:Bool}{t:Tm}{k:Kd}{m:Mn}{x:Str}(h:zA P sc (n+1) (Γ++[⟨x,l,m⟩]) l' f t k){es:List (Str×V)}{σ:H}(hd:σ[d]?=some (.aD es))(hm:nv es Γ)(hz:es.length+1+t.depth<=aO):
  av P sc (n+1) 18 [.ref d,.str x,m.mv l] σ=.ok (.ref σ.length) (σ++[.aD (bp es x (m.mv l))])/\∃τ,av P sc (n+1) 46 [t.ag,.int l'.i,.ref σ.length,.bool f] (σ++[.aD (bp es x (m.mv l))])=.ok (.str k.s) (σ++[.aD (bp es x (m.mv l))]++τ):=by
 refine⟨fw B.eU hd (lN 0x34c04904920534138184c [_,_,_] rfl hz),h _ _ _ bL (hm.add ⟨x,l,m⟩) ?_⟩;have:=gX es x (m.mv l);exact lN 0xe04d30124124124814e04d0613c50613cc [_,_,_,_] rfl hz this
end
section
variable{P:Prog}{sc:List Int}(B:Kinds P)
include B
omit B in
theorem jk(m:Nat)(h:m+3<=n):∃k,n=k+3/\m<=k:=⟨n-3,by exact cK (lN 0x18c28cc308049201241248 [_] rfl) (lN 0x3018c28cc2012480490090492053018cd [_,_] rfl h),by(exact Nat.le_sub_of_add_le ‹_›)⟩
theorem ju{n:Nat}{w:Str}{l:Lv}(h:bW (aW (cx P sc n) v3.body [some (.str w),some (.int l.i),some (.bool f)] σ)=.ok .none σ):av P sc (n+1) 44 [.str w,.int l.i,.bool f] σ=.ok .none σ:=by
 rw[cp B.Gq rfl];exact h
theorem w6{n d:Nat}{t:Tm}{w:Str}{l:Lv}(hw:∀C L,ak C (.au (.aa 0) (.int 0)) (some t.ag::L) σ=.ok (.str w) σ)(hn:av P sc n 44 [.str w,.int l.i,.bool f] σ=.ok .none σ)(hs:w="let"∨w="turns"∨w="def")(h:av P sc n 47 [t.ag,.int l.i,.ref d,.bool f] σ=.ok v af):av P sc (n+1) 46 [t.ag,.int l.i,.ref d,.bool f] σ=.ok v af:=by
 refine pV B hw hn (L':=[some t.ag,some (.int l.i),some (.ref d),some (.bool f),some (.str w),none,none]) ?_;have hr:aW (cx P sc n) {.ret (.call 47 {.aa 0,.aa 1,.aa 2,.aa 3})} [some t.ag,some (.int l.i),some (.ref d),some (.bool f),some (.str w),none,none] σ=.ok (.ret v) [some t.ag,some (.int l.i),some (.ref d),some (.bool f),some (.str w),none,none] af:=
  bw (aN rfl h)
 rcases hs with rfl|rfl|rfl<;>
  exact jmp 4 (by rfl') (b8 (by rfl') hr)
theorem q6{n d:Nat}{t:Tm}{w:Str}{l:Lv}(hw:∀C L,ak C (.au (.aa 0) (.int 0)) (some t.ag::L) σ=.ok (.str w) σ)(hn:av P sc n 44 [.str w,.int l.i,.bool f] σ=.ok .none σ)(hs:(∃u:U1,w=u.str)∨(∃u:U2,w=u.str))(h:av P sc n 48 [t.ag,.int l.i,.ref d,.bool f] σ=.ok v af):av P sc (n+1) 46 [t.ag,.int l.i,.ref d,.bool f] σ=.ok v af:=by
 refine pV B hw hn (L':=[some t.ag,some (.int l.i),some (.ref d),some (.bool f),some (.str w),none,none]) ?_;have hr:aW (cx P sc n) {.ret (.call 48 {.aa 0,.aa 1,.aa 2,.aa 3})} [some t.ag,some (.int l.i),some (.ref d),some (.bool f),some (.str w),none,none] σ=.ok (.ret v) [some t.ag,some (.int l.i),some (.ref d),some (.bool f),some (.str w),none,none] af:=
  bw (aN rfl h)
 have go:aW (cx P sc n) Fy [some t.ag,some (.int l.i),some (.ref d),some (.bool f),some (.str w),none,none] σ=aW (cx P sc n) {.ret (.call 48 {.aa 0,.aa 1,.aa 2,.aa 3})} [some t.ag,some (.int l.i),some (.ref d),some (.bool f),some (.str w),none,none] σ:=by
  rcases hs with ⟨u,rfl⟩|⟨u,rfl⟩<;>(clear hr hn hw;cases u)<;>
   exact jmp 4 (by rfl') (bX (by rfl'))
 exact go.trans hr
theorem Js{Γ:Sc}{l:Lv}{f:Bool}(h:HK Γ l f t k):∀n,3*t.depth+3<=n->zA P sc n Γ l f t k:=by
 induction h with
|@num Γ l f i=>
  intro n hn d es σ hd hm hz;refine aM (jk _ hn) λm bh _=>?_;clear hn;subst bh;refine⟨[],?_⟩;rw[List.append_nil];exact pV B (λ_ _=>rfl) (ju B (by cases l<;>cases f<;>rfl')) (b8 (by rfl') (bw (e_num B)))
|@name Γ l f x k hl=>
  intro n hn d es σ hd hm hz;refine aM (jk _ hn) λm bh _=>?_;clear hn;subst bh;refine⟨[],?_⟩;rw[List.append_nil];exact pV B (λ_ _=>rfl) (ju B (by(clear hl;cases l)<;>cases f<;>rfl')) (jmp 1 (by rfl') (b8 (by rfl') ((bk (aN rfl (Af B hd hm hl))).trans ((bX (ne_int rfl rfl)).trans (bw rfl)))))
|@when Γ l f a b c k ha hb hc bl bV gs=>
  intro n hn d es σ hd hm hz;have jl:(Tm.when a b c).depth=1+max a.depth (max b.depth c.depth):=rfl;refine aM (jk _ hn) λm bh hm'=>?_;clear hn;subst bh;obtain⟨bZ,e1⟩:=j3 B (bl (m+1) (mj mL ‹_›)) hd hm (zz mL ‹_›);refine b6 (bV (m+2) (R0 mM ‹_›) d es (σ++bZ) (old hd) hm (zz mM ‹_›)) λdp e2=>?_;obtain⟨fZ,e3⟩:=j3 B (gs (m+1) (mj mC ‹_›)) (old (old hd)) hm (zz mC ‹_›);refine⟨bZ++(dp++fZ),?_⟩;rw[←List.append_assoc,←List.append_assoc]
  exact pV B (λ_ _=>rfl) (ju B (by(clear e3 e2 e1 gs bV bl hc hb ha;cases l)<;>cases f<;>rfl')) ((bX (by rfl')).trans ((bX (by rfl')).trans (b8 (by rfl') ((dC (iC (aN (az (e_num B) rfl) e1))).trans
   ((bk (aN rfl e2)).trans
   ((dC (iC (aN rfl e3))).trans (bw (aE rfl))))))))
|@use Γ l f g a ka k hl ha bl=>
  intro n hn d es σ hd hm hz;have jl:(Tm.use g a).depth=1+a.depth:=rfl;refine aM (jk _ hn) λm bh hm'=>?_;clear hn;subst bh;obtain⟨bZ,e1⟩:=j3 B (bl (m+1) (mj (aR _) ‹_›)) hd hm (zz (aR _) ‹_›);refine⟨bZ,?_⟩
  exact pV B (λ_ _=>rfl) (ju B (by(clear e1 bl ha hl;cases l)<;>cases f<;>rfl')) ((bX (by rfl')).trans ((bX (by rfl')).trans ((bX (by rfl')).trans (b8 (by rfl') ((bk (aN rfl (Af B hd hm hl))).trans ((bX (ne_int rfl rfl)).trans
   ((dC (iC (aN (az rfl rfl) e1))).trans (bw rfl))))))))
|@a9 Γ l f x a b k k' ha hb bl bV=>
  intro n hn d es σ hd hm hz;have jl:(Tm.a9 x a b).depth=1+max a.depth b.depth:=rfl;have zz:=jk _ hn;clear hn;obtain⟨m,rfl,hm'⟩:=zz;obtain⟨bZ,e1⟩:=bl (m+1) (mj mL ‹_›) d es σ hd hm (zz mL ‹_›);obtain⟨w1,dp,e2⟩:=xj B (bV (m+1) (mj mR ‹_›)) (old hd) hm (z1 mR ‹_›);refine⟨bZ++([.aD (bp es x ((Mn.val k).mv l))]++dp),w6 B (λ_ _=>rfl) (ju B (by(clear e2 w1 e1 bV bl hb ha;cases l)<;>cases f<;>rfl')) (.inl rfl) ?_⟩;rw[←List.append_assoc,←List.append_assoc,cp B.vK rfl]
  exact(congrArg bW (b8 (by rfl') ((bk (aN rfl e1)).trans
   (bw (aN (az rfl (aP rfl (az (aN (aP rfl (az rfl (az (bU rfl (nb rfl)) ba))) w1) rfl))) e2))))).trans rfl
|@bu Γ l f j x a b k hj ha hb bl bV=>
  intro n hn d es σ hd hm hz;have jl:(Tm.bu j x a b).depth=1+max a.depth b.depth:=rfl;refine aM (jk _ hn) λm bh hm'=>?_;clear hn;subst bh;obtain⟨bZ,e1⟩:=bl (m+1) (mj mL ‹_›) d es σ hd hm (zz mL ‹_›);have hdl:=gX es x ((Mn.val k).mv l);have w1:=fw (sc:=sc) B.eU (n:=m) (x:=x) (v:=(Mn.val k).mv l) (old (τ:=bZ) hd) (gO ‹_›);obtain⟨dp,e2⟩:=j3 B (bV m (k3 mR ‹_›)) (bL) (show nv (bp es x ((Mn.val k).mv l)) _ from hm.add ⟨x,l,.val k⟩) (lN 0x38134c20124124124024124124804904904900900904920538140f1810cd4614050613cc [_,_,_,_,_,_] rfl hz jl hdl);refine⟨bZ++([.aD (bp es x ((Mn.val k).mv l))]++dp),w6 B (λ_ _=>rfl) (ju B (by(clear e2 w1 hdl e1 bV bl hb ha;cases l)<;>cases f<;>rfl')) (.inr (.inl rfl)) ?_⟩;rw[←List.append_assoc,←List.append_assoc,cp B.vK rfl]
  exact(congrArg bW ((bX (by rfl')).trans (b8 (by rfl') ((bk (aN rfl e1)).trans
   ((dC (iC (aN (aP rfl (az rfl (aP rfl (az (aN (aP rfl (az rfl (az (bU rfl (nb rfl)) ba))) w1) rfl)))) e2))).trans (bw (aE rfl))))))).trans rfl
|@def_ Γ l f g x a b ka k k' hk ha hb bl bV=>
  intro n hn d es σ hd hm hz;have jl:(Tm.def_ g x ka.s a b).depth=1+max a.depth b.depth:=rfl;refine aM (jk _ hn) λm bh hm'=>?_;clear hn;subst bh;obtain⟨w1,bZ,e1⟩:=xj B (bl (m+1) (mj mL ‹_›)) hd hm (z1 mL ‹_›);obtain⟨w2,dp,e2⟩:=xj B (bV (m+1) (mj mR ‹_›)) (old (old hd)) hm (z1 mR ‹_›);refine⟨[.aD (bp es x ((Mn.val ka).mv l))]++(bZ++([.aD (bp es g ((Mn.fn ka k).mv l))]++dp)),w6 B (λ_ _=>rfl) (ju B (by(clear e2 w2 e1 w1 bV bl hb ha hk;cases l)<;>cases f<;>rfl')) (.inr (.inr rfl)) ?_⟩;rw[←List.append_assoc,←List.append_assoc,←List.append_assoc,cp B.vK rfl];have hp:bP (cx P sc (m+1)) (.and {.cmp .Eq (.aa 1) (.int 1),.cmp .Eq (.au (.aa 0) (.int 3)) (.glob 1)}) [some (Tm.def_ g x ka.s a b).ag,some (.int l.i),some (.ref d),some (.bool f),none] σ=.ok false σ:=by
   clear e2 w2 e1 w1 bV bl hb ha;cases l with
   |z=>exact jg (all_cons (by rfl') (λq=>by exact ff q) (λ_=>⟨rfl,rfl⟩))
   |o=>
    obtain rfl:=hk rfl;exact NT (t1:=true) (t2:=false) (by rfl') (dY (x:=.str Kd.aB.s) rfl (rB B) (by rfl'))
  exact(congrArg bW ((bX (by rfl')).trans ((bX (by rfl')).trans ((bX hp).trans ((bk (aN (az rfl (aP rfl (az (aN (aP rfl (az rfl (az (bU rfl (nb rfl)) ba))) w1) rfl))) e1)).trans
   (bw (aN (az rfl (aP rfl (az (aN (aP rfl (az rfl (az (bU rfl (nb rfl)) ba))) w2) rfl))) e2))))))).trans rfl
|@bJ Γ f a ha bl=>
  intro n hn d es σ hd hm hz;have jl:(Tm.un .bJ a).depth=1+a.depth:=rfl;have zz:=jk _ hn;clear hn;obtain⟨m,rfl,hm'⟩:=zz;obtain⟨bZ,e1⟩:=j3 B (bl m (k3 (aR _) ‹_›)) hd hm (zz (aR _) ‹_›);refine⟨bZ,q6 B (λ_ _=>rfl) (ju B (by cases f<;>rfl')) (.inl ⟨.bJ,rfl⟩) ?_⟩;rw[cp B.qI rfl];exact(congrArg bW ((bk rfl).trans (b8 (by rfl') ((dC (iC (aN (az (e_num B) rfl) e1))).trans (bw (rB B)))))).trans rfl
|@hole Γ f a ha bl=>
  intro n hn d es σ hd hm hz;have jl:(Tm.un .hole a).depth=1+a.depth:=rfl;have zz:=jk _ hn;clear hn;obtain⟨m,rfl,hm'⟩:=zz;obtain⟨bZ,e1⟩:=j3 B (bl m (k3 (aR _) ‹_›)) hd hm (zz (aR _) ‹_›);refine⟨bZ,q6 B (λ_ _=>rfl) (ju B (by cases f<;>rfl')) (.inl ⟨.hole,rfl⟩) ?_⟩;rw[cp B.qI rfl];exact(congrArg bW ((bk rfl).trans (jmp 1 (by rfl') (b8 (by rfl') ((dC (iC (aN (az (rB B) rfl) e1))).trans (bw (e_num B))))))).trans rfl
|@lift Γ f a ha bl=>
  intro n hn d es σ hd hm hz;have jl:(Tm.un .lift a).depth=1+a.depth:=rfl;have zz:=jk _ hn;clear hn;obtain⟨m,rfl,hm'⟩:=zz;obtain⟨bZ,e1⟩:=j3 B (bl m (k3 (aR _) ‹_›)) hd hm (zz (aR _) ‹_›);refine⟨bZ,q6 B (λ_ _=>rfl) (ju B (by(clear e1 bl ha;cases f)<;>rfl')) (.inl ⟨.lift,rfl⟩) ?_⟩;rw[cp B.qI rfl];exact(congrArg bW ((bk rfl).trans (jmp 2 (by rfl') (b8 (by rfl') ((dC (iC (aN (az (e_num B) rfl) e1))).trans (bw (rB B))))))).trans rfl
|@run Γ a ha bl=>
  intro n hn d es σ hd hm hz;have jl:(Tm.un .run a).depth=1+a.depth:=rfl;refine aM (jk _ hn) λm bh hm'=>?_;clear hn;subst bh;obtain⟨bZ,e1⟩:=j3 B (bl m (k3 (aR _) ‹_›)) hd hm (zz (aR _) ‹_›);refine⟨bZ,q6 B (λ_ _=>rfl) (ju B (by rfl')) (.inl ⟨.run,rfl⟩) ?_⟩;rw[cp B.qI rfl];exact(congrArg bW ((bk rfl).trans (jmp 3 (by rfl') (b8 (by rfl') ((dC (iC (aN (az (rB B) rfl) e1))).trans (bw (e_num B))))))).trans rfl
|@aj Γ l f w a b ha hb bl bV=>
  intro n hn d es σ hd hm hz;have jl:(Tm.aj w a b).depth=1+max a.depth b.depth:=rfl;refine aM (jk _ hn) λm bh hm'=>?_;clear hn;subst bh;obtain⟨bZ,e1⟩:=j3 B (bl m (k3 mL ‹_›)) hd hm (zz mL ‹_›);refine b6 (j3 B (bV m (k3 mR ‹_›)) (old (τ:=bZ) hd) hm (zz mR ‹_›)) λdp e2=>?_;refine⟨bZ++dp,q6 B (λ_ _=>rfl) (ju B (by(clear e2 e1 bV bl hb ha;cases l)<;>cases f<;>(clear hm' jl hz;cases w)<;>rfl')) (.inr ⟨w,rfl⟩) ?_⟩;rw[←List.append_assoc,cp B.qI rfl]
  refine(congrArg bW ((bk (v:=.str w.str) rfl).trans ((bX (ae:=σ) ?_).trans ((bX (ae:=σ) ?_).trans ((bX (ae:=σ) ?_).trans ((bX (ae:=σ) ?_).trans ((dC (iC (aN (az (e_num B) (by rfl)) e1))).trans
   ((dC (iC (aN (az (e_num B) rfl) e2))).trans (bw (e_num B)))))))))).trans rfl<;>(clear hm' jl hz;cases w)<;>rfl'
end
end Qh
set_option tactic.hygienic true
namespace Qh
open PySem
def gG(l:Nat)(vs:List V)(σ af:H):Prop:=∃τ,af=σ.set l (.ah vs)++τ
section
variable{l:Nat}{fs fs':List V}{σ ae ao:H}
theorem Dt{σ:H}{l:Nat}{o:O}(h:σ[l]?=some o):σ.set l o=σ:=by
 obtain⟨h1,rfl⟩:=List.getElem?_eq_some_iff.mp h;exact List.set_getElem_self h1
theorem gG.trans(h:l<σ.length)(x:gG l fs σ ae)(y:gG l fs' ae ao):gG l fs' σ ao:=by
 obtain⟨τ,rfl⟩:=x;obtain⟨fY,rfl⟩:=y;exact⟨τ++fY,by rw[xi (by(refine(List.length_set).symm▸?_);exact h),List.set_set,List.append_assoc]⟩
theorem gG.back{τ:H}(h:l<σ.length)(x:gG l fs (σ++τ) ae):gG l fs σ ae:=by
 obtain⟨fY,rfl⟩:=x;exact⟨τ++fY,by rw[xi h,List.append_assoc]⟩
theorem gG.other{b:Nat}{o:O}(x:gG l fs σ ae)(hb:σ[b]?=some o)(hn:l≠b):ae[b]?=some o:=by
 obtain⟨τ,rfl⟩:=x;exact old (yp hb hn)
theorem gG.self(h:l<σ.length)(x:gG l fs σ ae):ae[l]?=some (.ah fs):=by
 obtain⟨τ,rfl⟩:=x;exact old (by simp[h])
theorem gG.refl{τ:H}(h:σ[l]?=some (.ah fs)):gG l fs σ (σ++τ):=⟨τ,by(refine(Dt h).symm▸?_;with_reducible rfl)⟩
end
def jh(l:Lv)(ks:List Mn)(Γ:Sc)(e:Ent):Bool:=!(Γ.any λe'=>e'.x==e.x)&&(e.l.i==l.i)&&ks.any λm=>gQ m.ks e.m.ks
def fJ(l:Lv)(ks:List Mn):Sc->Sc
|[]=>[]
|e::Γ=>if jh l ks Γ e then e::fJ l ks Γ else fJ l ks Γ
theorem Bm(e:Ent)(Γ:Sc)(x:Str):look (e::Γ) x=(look Γ x).or (if e.x==x then some e else none):=by
 unfold look;rw[List.reverse_cons,List.find?_append,List.find?_singleton]
theorem Jt{Γ:Sc}{x:Str}(h:(Γ.any λe=>e.x==x)=false):look Γ x=none:=by
 unfold look;rw[List.find?_eq_none];intro e he;rw[List.mem_reverse] at he;have:=List.any_eq_false.mp h e he;exact this
theorem N1{a b:Lv}(h:(a.i==b.i)=true):a=b:=by cases a<;>cases b<;>first|rfl|exact ff h
theorem j4(l:Lv)(ks:List Mn):∀(Γ:Sc)(e:Ent),e∈fJ l ks Γ->look Γ e.x=some e/\e.l=l/\e∈Γ/\(ks.any λm=>gQ m.ks e.m.ks)=true
|[]=>λe h=>by cases h
|e'::Γ=>λe h=>by
  unfold fJ at h;have tail:e∈fJ l ks Γ->look (e'::Γ) e.x=some e/\e.l=l/\e∈e'::Γ/\(ks.any λm=>gQ m.ks e.m.ks)=true:=λh=>by
   refine jd (j4 l ks Γ e h) λh1 h2 h3 h4=>?_;exact⟨by rw[Bm,h1];rfl,h2,List.mem_cons_of_mem _ h3,h4⟩
  split at h
  ·rename_i hs
   rcases List.mem_cons.mp h with rfl|q
   ·unfold jh at hs;rw[Bool.and_eq_true,Bool.and_eq_true,Bool.not_eq_true'] at hs;refine⟨?_,N1 hs.1.2,List.mem_cons_self,hs.2⟩;rw[Bm,Jt hs.1.1,beq_self_eq_true];rfl
   ·exact tail q
  ·exact tail h
theorem ux{k:Kd}{m:Mn}(h:([Mn.val k].any λm'=>gQ m'.ks m.ks)=true):m=.val k:=by
 have h:(gQ (Mn.val k).ks m.ks||false)=true:=h;rw[Bool.or_false] at h
 revert h
 cases m with
|val k'=>cases k<;>cases k'<;>first|exact λ_=>rfl|(intro h;exact absurd h (by decide+kernel))
|fn a r=>cases k<;>cases a<;>cases r<;>(intro h;exact absurd h (by decide+kernel))
theorem Px{k:Kd}{m:Mn}(h:([Mn.fn .aB k,Mn.fn .aY k].any λm'=>gQ m'.ks m.ks)=true):∃a,m=.fn a k:=by
 revert h
 cases m with
|val k'=>cases k<;>cases k'<;>(intro h;exact absurd h (by decide+kernel))
|fn a r=>cases k<;>cases r<;>first|exact λ_=>⟨a,rfl⟩|(cases a<;>(intro h;exact absurd h (by decide+kernel)))
def Ent.Ok(e:Ent):Prop:=V.dO (.str e.x)=true/\(e.l=.o->e.m=.val .aB∨e.m=.fn .aB .aB)
theorem xk(m:Mn):V.dO m.ks=true:=by
 cases m with
|val k=>cases k<;>decide+kernel
|fn a r=>cases a<;>cases r<;>decide+kernel
theorem xl(m:Mn):V.deep m.ks=1:=by
 cases m with
|val k=>cases k<;>rfl
|fn a r=>cases a<;>cases r<;>rfl
theorem KP{e:Ent}(h:e.Ok):V.dO e.v=true:=by
 show(V.dO (.str e.x)&&(V.dO (.int e.l.i)&&(V.dO e.m.ks&&true)))=true;rw[h.1,xk];rfl
theorem KQ(e:Ent):V.deep e.v=2:=by
 show max 0 (max 0 (max (V.deep e.m.ks) 0))+1=2;rw[xl];rfl
theorem Bn:∀(Γ:Sc),(∀e∈Γ,e.Ok)->V.ek (Γ.map Ent.v)=true
|[]=>λ_=>rfl
|e::Γ=>λh=>by
  show(V.dO e.v&&V.ek (Γ.map Ent.v))=true
  (refine(KP (h e List.mem_cons_self)).symm▸?_;refine(Bn Γ λx hx=>h x (List.mem_cons_of_mem _ hx)).symm▸?_);rfl
theorem Bo:∀(Γ:Sc),V.gh (Γ.map Ent.v)<=2
|[]=>gP _
|e::Γ=>by
  show max (V.deep e.v) (V.gh (Γ.map Ent.v))<=2;rw[KQ];have:=Bo Γ;exact lN 0x88332220124804900904920588c [_] rfl this
theorem BX:∀(ks:List Mn),V.ek (ks.map Mn.ks)=true
|[]=>rfl
|m::ks=>by
  show(V.dO m.ks&&V.ek (ks.map Mn.ks))=true;rw[xk,BX ks];rfl
theorem BY:∀(ks:List Mn),V.gh (ks.map Mn.ks)<=1
|[]=>gP _
|m::ks=>by
  show max (V.deep m.ks) (V.gh (ks.map Mn.ks))<=1;rw[xl];have:=BY ks;exact lN 0x84332120124804900904920584c [_] rfl this
theorem eq_nil{σ:H}{i j:Nat}{Γ:Sc}(hok:∀e∈Γ,e.Ok)(hi:σ[i]?=some (.ah (Γ.map Ent.v)))(hj:σ[j]?=some (.ah [])):iw (.ref i) (.ref j) σ=.ok Γ.isEmpty σ:=by
 rw[JX,aU (dX hi),aU (dX hj),if_pos]
 ·clear hi hok;cases Γ with
  |nil=>rfl
  |cons e Γ=>rfl
 ·unfold gi;have:=Bo Γ;rw[Bn Γ hok,decide_eq_true (show V.gh (Γ.map Ent.v)<=50 by(exact bR ‹_› (by decide)))];rfl
theorem KR{σ:H}{i:Nat}{ks:List Mn}{m:Mn}(hi:σ[i]?=some (.ah (ks.map Mn.ks))):iA m.ks (.ref i) σ=.ok (ks.any λm'=>gQ m'.ks m.ks) σ:=by
 refine Cb.symm▸?_;refine(aU (m4 hi)).symm▸?_;have hf:gi [m.ks] (ks.map Mn.ks)=true:=by
  have h1:=BY ks;have h2:V.gh [m.ks]<=50:=by show max (V.deep m.ks) 0<=50;rw[xl];decide
  have h3:V.ek [m.ks]=true:=by show(V.dO m.ks&&true)=true;rw[xk];rfl
  unfold gi;rw[h3,BX ks,decide_eq_true h2,decide_eq_true (show V.gh (ks.map Mn.ks)<=50 by(exact bR ‹_› (by decide)))];rfl
 show among m.ks (ks.map Mn.ks) σ=_;have:among m.ks (ks.map Mn.ks)=if gi [m.ks] (ks.map Mn.ks) then M.pure ((ks.map Mn.ks).any λy=>gQ y m.ks) else M.fail:=by cases m<;>rfl
 refine this.symm▸?_;refine(if_pos hf).symm▸?_;refine(List.any_map).symm▸?_
 rfl
end Qh
set_option tactic.hygienic false
namespace Qh
open PySem
section
variable{P:Prog}{sc:List Int}
theorem Ie{f:V->M (Option V)}{l:Nat}{ts:Sc}{q:Ent->Bool}{σ:H}(hl:σ[l]?=some (.ah (ts.map Ent.v)))(hf:∀e∈ts,f e.v σ=.ok (if q e then some e.v else none) σ):
  ∀(rest done:Sc),ts=done++rest->dk (.live l) f (rest.length+1) done.length σ=.ok ((rest.filter q).map Ent.v) σ:=by
 intro rest
 induction rest with
|nil=>
  intro done hd;refine kK ?_
  (refine jY.symm▸?_;refine(aU (dX hl)).symm▸?_);simp[M.pure,hd]
|cons e rest ih=>
  intro done hd;have h1:=ih (done++[e]) (by(refine hd.symm▸?_);simp);replace h1:=(List.length_singleton)▸((List.length_append)▸h1);rw[List.length_cons,gW ?_ (hf e (by(refine hd.symm▸?_);simp)) h1]
  ·(refine(List.filter_cons).symm▸?_);cases q e<;>rfl
  ·(refine jY.symm▸?_;refine(aU (dX hl)).symm▸?_);simp[M.pure,hd]
theorem N2{C:Ctx}{L:aQ}{σ ae:H}{a b c:E}{t1 t2 t3:Bool}(h1:bP C a L σ=.ok t1 ae)(h2:bP C b L ae=.ok t2 ae)(h3:bP C c L ae=.ok t3 ae):bP C (.and {a,b,c}) L σ=.ok (t1&&t2&&t3) ae:=by
 refine rq.symm▸?_;refine all_cons h1 (λe=>?_) (λe=>?_)
 ·rw[e,Bool.true_and];refine all_cons h2 (λe=>?_) (λe=>?_)
  ·rw[e,Bool.true_and];exact all_cons h3 (λe=>by(refine e.symm▸?_);exact all_nil) (λe=>⟨e,rfl⟩)
  ·(refine e.symm▸?_);exact⟨rfl,rfl⟩
 ·(refine e.symm▸?_);exact⟨rfl,rfl⟩
theorem Ju{C:Ctx}{L:aQ}{σ ae:H}{c a o:E}{l:Nat}{fs:List V}{x:V}{b:Bool}(hl:ae[l]?=some (.ah fs))(hle:fs.length<=aO)(hc:bP C c L σ=.ok b ae)(ho:ak C o L ae=.ok (.ref l) ae)(ha:ak C a L ae=.ok x ae):
  cF C (.ite c {.append o a} .nil) L σ=.ok .next L (ae.set l (.ah (if b then fs++[x] else fs))):=by
 cases b with
|false=>(refine(oa hc).symm▸?_;refine fy.symm▸?_);rw[if_neg (by decide),Dt hl]
|true=>(refine(kO hc).symm▸?_;refine(dC (IM ho (dX hl) ha (append_at hl hle))).symm▸?_;refine fy.symm▸?_);rfl
def Py:SL:=match qS.body with
|.cons _ (.cons (.eP _ _ b) _)=>b
|_=>.nil
theorem AQ{q:Ent->Bool}:∀l:Sc,(l.filter q).isEmpty=!(l.any q)
|[]=>rfl
|e::l=>by
  refine(List.filter_cons).symm▸?_;refine(List.any_cons).symm▸?_;cases q e with
  |true=>rfl
  |false=>exact AQ l
theorem KS{α:Type}{xs:List α}{k:Nat}{σ:H}(hk:k<1000001):ku xs (.int ((k:Int)+1)) .none σ=.ok (xs.drop (k+1)) σ:=by
 rw[I2,if_pos ⟨by exact lI 0x61320049049205320 [_] rfl (jr _),by exact lI 0x700700700700700700700700700790184184c049049205047247d078c184c [_] rfl (Int.ofNat_lt.mpr hk)⟩]
 rfl
theorem AR(l:Lv)(ks:List Mn)(e:Ent)(Γ:Sc):fJ l ks (e::Γ)=(if jh l ks Γ e then [e] else [])++fJ l ks Γ:=by
 show(if jh l ks Γ e then e::fJ l ks Γ else fJ l ks Γ)=_;cases jh l ks Γ e<;>rfl
theorem Jv{n ls lk lf:Nat}{l:Lv}{ks:List Mn}{Γ:Sc}(hok:∀e∈Γ,e.Ok)(hn1:lf≠ls)(hn2:lf≠lk)(cg:Γ.length<=100000):
  ∀(j k:Nat)(fs:Sc)(v4 v5:Option V)(σ:H),k+j=Γ.length->fs.length<=k->σ[lf]?=some (.ah (fs.map Ent.v))->σ[ls]?=some (.ah (Γ.map Ent.v))->σ[lk]?=some (.ah (ks.map Mn.ks))->
   ∃af zB zC,dP (λk=>M.pure ((dM (Γ.length:Int))[k]?.map λv=>[(4,v)])) (aW (cx P sc n) Py) (j+1) k [some (.ref ls),some (.int l.i),some (.ref lk),some (.ref lf),v4,v5,none] σ=.ok .next [some (.ref ls),some (.int l.i),some (.ref lk),some (.ref lf),zB,zC,none] af/\
    gG lf ((fs++fJ l ks (Γ.drop k)).map Ent.v) σ af:=by
 intro j
 induction j with
|zero=>
  intro k fs v4 v5 σ hk vM cX hls hlk;refine⟨σ,v4,v5,tK ?_,?_⟩
  ·have:(dM (Γ.length:Int))[k]?=none:=by simp[dM];exact lN 0x34c04904920630180d [_,_] rfl hk
   (refine this.symm▸?_);rfl
  ·rw[List.drop_eq_nil_of_le (by exact lN 0x34c04904920630180d [_,_] rfl hk)];have:=gG.refl (τ:=[]) cX;rw[List.append_nil] at this
   (refine(show fs++fJ l ks []=fs from List.append_nil _).symm▸?_);exact this
|succ j ih=>
  intro k fs v4 v5 σ hk vM cX hls hlk;have qJ:k<Γ.length:=lN 0x34184c04900904920634106138c [_,_,_] rfl hk;have hlim:(1000000:Nat)<=aO:=aR _;have hget:Γ[k]?=some Γ[k]:=List.getElem?_eq_getElem qJ;have rP:Γ.drop k=Γ[k]::Γ.drop (k+1):=List.drop_eq_getElem_cons qJ;generalize Γ[k]=e at hget rP;have ib:∀(C:Ctx)(L:aQ)(s:H),s[ls]?=some (.ah (Γ.map Ent.v))->cq L 0=some (.ref ls)->cq L 4=some (.int k)->ak C (.au (.aa 0) (.aa 4)) L s=.ok e.v s:=λC L s h1 h2 h3=>
   cC (aE h2) (aE h3) (dF h1 (by simp[hget]) (lI 0x320049049205320 [_] rfl (jr _)) (lI 0x1c01c01c01c01c01c01c01c01c01e40613012412412481601da1f834534184c [_,_] rfl (Int.ofNat_le.mpr cg) (Int.ofNat_lt.mpr qJ)))
  have iv:ak (cx P sc n) (.f9 (.aa 6) 6 [0,4] (.slc (.aa 0) (.aj .Add (.aa 4) (.int 1)) .none) (.cmp .Eq (.au (.aa 6) (.int 0)) (.au (.au (.aa 0) (.aa 4)) (.int 0)))) [some (.ref ls),some (.int l.i),some (.ref lk),some (.ref lf),some (.int k),v5,none] σ=
    .ok (.ref (σ++[O.ah ((Γ.drop (k+1)).map Ent.v)]).length) (σ++[O.ah ((Γ.drop (k+1)).map Ent.v)]++[.ah (((Γ.drop (k+1)).filter λe'=>e'.x==e.x).map Ent.v)]):=by
   refine IJ (ae:=σ++[O.ah ((Γ.drop (k+1)).map Ent.v)]) (x:=.ref σ.length) (sr:=.live σ.length) (k:=(Γ.drop (k+1)).length) (Ps (x:=.ref ls) (y:=.int ((k:Int)+1)) (z:=.none) (aE rfl) (bT (aE rfl) rfl rfl) rfl ?_) ?_ ?_ (by(refine(List.length_drop).symm▸?_);exact lN 0xe08184d3080490090490492012402412481601da1f83053801c91f41e3 [_,_,_] rfl cg hlim) ?_
   ·rw[I3,aU (dX hls),aU (KS (by exact lN 0x11c91f41e30613012412412481601da1f834534184c [_,_] rfl cg qJ)),if_pos ⟨rfl,by rw[List.length_map];exact lN 0xd3012412412481601da1f83053401c91f41e3 [_,_] rfl cg hlim⟩,←List.map_drop];rfl
   ·(refine pB.symm▸?_;refine(aU (dX bL)).symm▸?_);rfl
   ·rw[pw,aU (dX bL),List.length_map];rfl
   ·refine Ie bL (λe' he'=>?_) (Γ.drop (k+1)) [] rfl;rw[aU (dY (by rfl') (cC (ib _ _ _ (old hls) (by rfl') (by rfl')) rfl rfl) rfl)];cases (e'.x==e.x) with
    |true=>rfl'
    |false=>rfl
  generalize hs1:σ++[O.ah ((Γ.drop (k+1)).map Ent.v)]=ae at iv;have o1:∀{i:Nat}{o:O},σ[i]?=some o->(ae++[O.ah (((Γ.drop (k+1)).filter λe'=>e'.x==e.x).map Ent.v)])[i]?=some o:=λh=>by(refine hs1▸?_);exact old (old h)
  generalize hs2:ae++[O.ah (((Γ.drop (k+1)).filter λe'=>e'.x==e.x).map Ent.v)]=ao at iv o1;have QU:ao[ae.length]?=some (.ah (((Γ.drop (k+1)).filter λe'=>e'.x==e.x).map Ent.v)):=by(refine hs2▸?_);exact bL
  have Pz:∃τ,ao=σ++τ:=⟨[O.ah ((Γ.drop (k+1)).map Ent.v)]++[O.ah (((Γ.drop (k+1)).filter λe'=>e'.x==e.x).map Ent.v)],by rw[←hs2,←hs1,List.append_assoc]⟩;have htest:bP (cx P sc n) (.and {.cmp .Eq (.aa 5) (.ah .nil),.cmp .Eq (.au (.au (.aa 0) (.aa 4)) (.int 1)) (.aa 1),.cmp .In (.au (.au (.aa 0) (.aa 4)) (.int 2)) (.aa 2)}) [some (.ref ls),some (.int l.i),some (.ref lk),some (.ref lf),some (.int k),some (.ref ae.length),none] ao=
    .ok (jh l ks (Γ.drop (k+1)) e) (ao++[.ah []]):=by
   refine N2 (dY (aE rfl) (dG ba (nb rfl)) ?_) (dY (cC (ib _ _ _ (old (o1 hls)) rfl rfl) rfl rfl) (aE rfl) rfl) (dY (cC (ib _ _ _ (old (o1 hls)) rfl rfl) rfl rfl) (aE rfl) ?_)
   ·rw[pA,eq_nil (λe' he'=>(λe' h=>hok e' (List.mem_of_mem_drop h)) e' (List.mem_filter.mp he').1) (old QU) bL,AQ]
   ·(refine wA.symm▸?_);exact KR (old (o1 hlk))
  refine b6 (Pz) λτ jV=>?_;have hstep:=Ju (L:=[some (.ref ls),some (.int l.i),some (.ref lk),some (.ref lf),some (.int k),some (.ref ae.length),none]) (old (o1 cX)) (by rw[List.length_map];exact lN 0xd3012412412412412481601da1f83853cc14e0613c53401c91f41e3 [_,_,_,_] rfl cg vM qJ hlim) htest (aE (i:=3) rfl) (ib _ _ _ (old (o1 hls)) rfl rfl);have hfs:(if jh l ks (Γ.drop (k+1)) e=true then fs.map Ent.v++[e.v] else fs.map Ent.v)=(if jh l ks (Γ.drop (k+1)) e then fs++[e] else fs).map Ent.v:=by cases jh l ks (Γ.drop (k+1)) e<;>simp
  replace hstep:=hfs▸hstep;generalize hnew:(if jh l ks (Γ.drop (k+1)) e then fs++[e] else fs)=qK at hstep;have hnl:qK.length<=k+1:=by
   refine hnew▸?_
   split
   ·(refine(List.length_append).symm▸?_;refine(List.length_singleton).symm▸?_);exact lN 0x6134184c04904920534c [_,_] rfl vM
   ·exact lN 0x6134c04904920534c [_,_] rfl vM
  have ht:gG lf (qK.map Ent.v) σ ((ao++[O.ah []]).set lf (.ah (qK.map Ent.v))):=⟨τ++[.ah []],by rw[jV,List.append_assoc,xi (oN cX)]⟩;refine gg (ih (k+1) qK (some (.int k)) (some (.ref ae.length)) _ (cK (lN 0x38134184c04900904920638106134c [_,_,_] rfl hk) (lN 0x4e06134c04904920630106138d [_,_,_] rfl hk)) hnl (ht.self (oN cX)) (ht.other hls hn1) (ht.other hlk hn2)) λaf zB zC f1 f2=>?_;refine⟨af,zB,zC,?_,?_⟩
  ·rw[q5 (ps:=[(4,.int k)]) (ae:=σ) (L1:=[some (.ref ls),some (.int l.i),some (.ref lk),some (.ref lf),some (.int k),v5,none]) (L2:=[some (.ref ls),some (.int l.i),some (.ref lk),some (.ref lf),some (.int k),some (.ref ae.length),none]) (ao:=(ao++[O.ah []]).set lf (.ah (qK.map Ent.v))) ?_ rfl ?_,f1]
   ·have:(dM (Γ.length:Int))[k]?=some (.int k):=by simp[dM,qJ]
    (refine this.symm▸?_);rfl
   ·exact(bk iv).trans ((dC hstep).trans fy)
  ·have:=ht.trans (oN cX) f2;refine rP.symm▸?_;rw[AR,←List.append_assoc,show fs++(if jh l ks (Γ.drop (k+1)) e then [e] else [])=qK by(refine hnew▸?_);cases jh l ks (Γ.drop (k+1)) e<;>simp];exact this
theorem tx(h30:P.fns 30=some qS){n ls lk:Nat}{l:Lv}{ks:List Mn}{Γ:Sc}{σ:H}(hok:∀e∈Γ,e.Ok)(cg:Γ.length<=100000)(hls:σ[ls]?=some (.ah (Γ.map Ent.v)))(hlk:σ[lk]?=some (.ah (ks.map Mn.ks))):
  ∃τ,av P sc (n+1) 30 [.ref ls,.int l.i,.ref lk] σ=.ok (.ref σ.length) (σ++τ)/\(σ++τ)[σ.length]?=some (.ah ((fJ l ks Γ).map Ent.v)):=by
 have hlim:(1000000:Nat)<=aO:=aR _;obtain⟨af,v4,v5,f1,τ,rfl⟩:=Jv hok (Nat.ne_of_gt (oN hls)) (Nat.ne_of_gt (oN hlk)) cg Γ.length 0 [] none none (σ++[.ah []]) (cK (lN 825917182536 [_] rfl) (lN 82144399944 [_] rfl)) (gP _) bL (old hls) (old hlk);rw[xh,List.drop_zero,List.nil_append] at f1;refine⟨[.ah ((fJ l ks Γ).map Ent.v)]++τ,?_,by rw[←List.append_assoc];exact old bL⟩;rw[cp h30 rfl,←List.append_assoc];exact(congrArg bW ((bk (dG ba (nb rfl))).trans ((dC (w5 (e_len (aE rfl) (uw (old hls) (by rw[List.length_map];exact lN 0xd3012412412481601da1f83053401c91f41e3 [_,_] rfl cg hlim))) (by rw[List.length_map];exact⟨lI 0x320049049205320 [_] rfl (jr _),lI 0x7247d078cc049049205807687e0c [_] rfl (Int.ofNat_le.mpr cg)⟩) (by rw[List.length_map];exact f1))).trans (bw (aE rfl))))).trans rfl
end
def St(st:Nat)(σ:H):Prop:=∃k c:Int,0<=k/\σ[st]?=some (.ah [.int k,.int c])
theorem St.lt(h:St st σ):st<σ.length:=oN h.choose_spec.choose_spec.2
structure bt(st:Nat)(σ af:H):Prop where
 state:St st af
 len:σ.length<=af.length
 same:∀i,i≠st->i<σ.length->af[i]?=σ[i]?
section
variable{st:Nat}{σ ae ao τ:H}
theorem bt.trans(x:bt st σ ae)(y:bt st ae ao):bt st σ ao:=
 ⟨y.state,bR x.len y.len,λi h1 h2=>(y.same i h1 (Nat.lt_of_lt_of_le h2 x.len)).trans (x.same i h1 h2)⟩
theorem bt.refl(x:St st σ):bt st σ σ:=⟨x,aR _,λ_ _ _=>rfl⟩
theorem bt.add(x:St st σ):bt st σ (σ++τ):=by
 refine bo (x) λk c h0 hk=>?_;exact⟨⟨k,c,h0,old hk⟩,by(refine(List.length_append).symm▸?_);(exact d7 _ _),λi h1 h2=>List.getElem?_append_left h2⟩
theorem bt.more(x:bt st σ ae):bt st σ (ae++τ):=x.trans (bt.add x.state)
theorem bt.get(x:bt st σ ae)(h1:i≠st)(h:σ[i]?=some o):ae[i]?=some o:=(x.same i h1 (oN h)).trans h
end
theorem lg{st ls:Nat}{σ:H}{Γ:Sc}(h:St st σ)(hl:σ[ls]?=some (.ah (Γ.map Ent.v))):ls≠st:=by
 refine bo (h) λk c _ h=>?_;rintro rfl;replace h:=hl▸h
 match Γ with
|[]=>cases h
|[_]=>cases h
|_::_::_=>cases h
def aV(C:Ctx)(L:aQ)(st:Nat)(s:H)(b:SL)(G:Tm->Prop):Prop:=∃t s' L',aW C b L s=.ok (.ret t.ag) L' s'/\bt st s s'/\G t
section
variable{C:Ctx}{L:aQ}{st:Nat}{s s1:H}{r:SL}{G:Tm->Prop}
theorem aV.aK(h:ak C e L s=.ok v s1)(k:bt st s s1)(h2:aV C (b7 L i v) st s1 r G):aV C L st s (.cons (.aK i e) r) G:=by
 refine fG (h2) λt s' L' e1 k1 g=>?_;exact⟨t,s',L',(bk h).trans e1,k.trans k1,g⟩
theorem aV.step(h:cF C x L s=.ok .next L1 s1)(k:bt st s s1)(h2:aV C L1 st s1 r G):aV C L st s (.cons x r) G:=by
 refine fG (h2) λt s' L' e1 k1 g=>?_;exact⟨t,s',L',(dC h).trans e1,k.trans k1,g⟩
theorem aV.ret(h:ak C e L s=.ok t.ag s1)(k:bt st s s1)(g:G t):aV C L st s (.cons (.ret e) r) G:=⟨t,s1,L,bw h,k,g⟩
theorem aV.skip(h:bP C c L s=.ok false s1)(k:bt st s s1)(h2:aV C L st s1 r G):aV C L st s (.cons (.ite c vN .nil) r) G:=by
 refine fG (h2) λt s' L' e1 k1 g=>?_;exact⟨t,s',L',(bX h).trans e1,k.trans k1,g⟩
theorem aV.take(h:bP C c L s=.ok true s1)(k:bt st s s1)(h2:aV C L st s1 vN G):aV C L st s (.cons (.ite c vN .nil) r) G:=by
 refine fG (h2) λt s' L' e1 k1 g=>?_;exact⟨t,s',L',b8 h e1,k.trans k1,g⟩
end
def dE(C:Ctx)(L:aQ)(st:Nat)(s:H)(a:E)(Q:Prop):Prop:=∃b s1,bP C a L s=.ok b s1/\bt st s s1/\(b=true->Q)
section
variable{C:Ctx}{L:aQ}{st:Nat}{s:H}{r:SL}{G:Tm->Prop}
theorem aV.ite(h:dE C L st s c Q)(h1:∀s1,bt st s s1->Q->aV C L st s1 vN G)(h2:∀s1,bt st s s1->aV C L st s1 r G):aV C L st s (.cons (.ite c vN .nil) r) G:=by
 refine cU (h) λb s1 e k q=>?_;cases b with
|true=>exact .take e k (h1 s1 k (q rfl))
|false=>exact .skip e k (h2 s1 k)
theorem dE.pure(hs:St st s)(h:bP C a L s=.ok b s):dE C L st s a (b=true):=⟨b,s,h,.refl hs,λe=>e⟩
theorem dE.aS(h1:dE C L st s a Q1)(h2:∀s1,bt st s s1->dE C L st s1 b Q2):dE C L st s (.and {a,b}) (Q1/\Q2):=by
 obtain⟨t1,s1,e1,k1,q1⟩:=h1;obtain⟨t2,s2,e2,k2,q2⟩:=h2 s1 k1;cases t1 with
|false=>exact⟨false,s1,jg (all_cons e1 (λq=>by exact ff q) (λ_=>⟨rfl,rfl⟩)),k1,λq=>by exact ff q⟩
|true=>exact⟨t2,s2,jg (all_cons e1 (λ_=>all_cons e2 (λq=>by(refine q.symm▸?_);exact all_nil) (λq=>⟨q,rfl⟩)) (λq=>by exact tf q)),k1.trans k2,λq=>⟨q1 rfl,q2 q⟩⟩
theorem dE.Fz(h1:dE C L st s a Q1)(h2:∀s1,bt st s s1->dE C L st s1 b Q2)(h3:∀s1,bt st s s1->dE C L st s1 c Q3):dE C L st s (.and {a,b,c}) (Q1/\Q2/\Q3):=by
 refine cU (h1) λt1 s1 e1 k1 q1=>?_;refine cU (h2 s1 k1) λt2 s2 e2 k2 q2=>?_;refine cU (h3 s2 (k1.trans k2)) λt3 s3 e3 k3 q3=>?_;cases t1 with
|false=>exact⟨false,s1,jg (all_cons e1 (λq=>by exact ff q) (λ_=>⟨rfl,rfl⟩)),k1,λq=>by exact ff q⟩
|true=>
  cases t2 with
  |false=>exact⟨false,s2,jg (all_cons e1 (λ_=>all_cons e2 (λq=>by exact ff q) (λ_=>⟨rfl,rfl⟩)) (λq=>by exact tf q)),k1.trans k2,λq=>by exact ff q⟩
  |true=>exact⟨t3,s3,jg (all_cons e1 (λ_=>all_cons e2 (λ_=>all_cons e3 (λq=>by(refine q.symm▸?_);exact all_nil) (λq=>⟨q,rfl⟩)) (λq=>by exact tf q)) (λq=>by exact tf q)),(k1.trans k2).trans k3,λq=>⟨q1 rfl,q2 rfl,q3 q⟩⟩
theorem dE.R2(h1:dE C L st s a Q1)(h2:∀s1,bt st s s1->dE C L st s1 b Q2):dE C L st s (.or {a,b}) True:=by
 obtain⟨t1,s1,e1,k1,q1⟩:=h1;obtain⟨t2,s2,e2,k2,q2⟩:=h2 s1 k1;clear q1;cases t1 with
|true=>exact⟨true,s1,jj (any_cons e1 (λq=>by exact tf q) (λ_=>⟨rfl,rfl⟩)),k1,λ_=>trivial⟩
|false=>exact⟨t2,s2,jj (any_cons e1 (λ_=>any_cons e2 (λq=>by(refine q.symm▸?_);exact any_nil) (λq=>⟨q,rfl⟩)) (λq=>by exact ff q)),k1.trans k2,λ_=>trivial⟩
theorem dE.full(hs:St st s)(hok:∀e∈Γ,e.Ok)(hv:cq L i=some (.ref a))(ha:s[a]?=some (.ah (Γ.map Ent.v))):dE C L st s (.cmp .NotEq (.aa i) (.ah .nil)) (Γ≠[]):=by
 refine⟨!Γ.isEmpty,s++[.ah []],dY (aE hv) (dG ba (nb rfl)) ?_,bt.add hs,λq h=>by(replace q:=h▸q);exact ff q⟩
 (refine mq.symm▸?_;refine(aU (eq_nil hok (old ha) bL)).symm▸?_);rfl
theorem dE.void{Γ:Sc}(hs:St st s)(hok:∀e∈Γ,e.Ok)(hv:cq L i=some (.ref a))(ha:s[a]?=some (.ah (Γ.map Ent.v))):dE C L st s (.cmp .Eq (.aa i) (.ah .nil)) True:=by
 refine⟨Γ.isEmpty,s++[.ah []],dY (aE hv) (dG ba (nb rfl)) ?_,bt.add hs,λ_=>trivial⟩;refine pA.symm▸?_;refine(eq_nil hok (old ha) bL).symm▸?_;with_reducible rfl
theorem Es(hne:Γ≠[])(cg:Γ.length<=100000)(hv:cq L i=some (.ref a))(ha:s[a]?=some (.ah (Γ.map Ent.v)))(hq:ak C q L s=.ok (.int num) s):
  ∃e∈Γ,ak C (.au (.aa i) (.aj .Mod q (.len (.aa i)))) L s=.ok e.v s:=by
 have hlim:(1000000:Nat)<=aO:=aR _;have hpos:0<Γ.length:=List.length_pos_iff.mpr hne;have h0:0<=num.fmod (Γ.length:Int):=Int.fmod_nonneg_of_pos _ (lI 0x301860049049205301860 [_] rfl (Int.ofNat_lt.mpr hpos));have h1:num.fmod (Γ.length:Int)<Γ.length:=Int.fmod_lt_of_pos _ (lI 0x301860049049205301860 [_] rfl (Int.ofNat_lt.mpr hpos));refine b6 (Int.eq_ofNat_of_zero_le h0) λj hj=>?_;have hj':j<Γ.length:=za h1 hj;refine⟨Γ[j],List.getElem_mem hj',cC (aE hv) (bT hq (e_len (aE hv) (uw ha (by rw[List.length_map];(exact bR ‹_› (dI _ _))))) ?_) (dF ha ?_ (jr _) (lI 0x1c01c01c01c01c01c01c01c01c01e40613012412412481601da1f834534184c [_,_] rfl (Int.ofNat_le.mpr cg) (Int.ofNat_lt.mpr hj')))⟩
 ·rw[List.length_map];exact uv (Int.ofNat_lt.mpr hpos) hj
 ·simp[hj']
theorem pick(hne:Γ≠[])(cg:Γ.length<=100000)(hv:cq L i=some (.ref a))(ha:s[a]?=some (.ah (Γ.map Ent.v)))(hq:ak C q L s=.ok (.int num) s):
  ∃e∈Γ,ak C (.au (.au (.aa i) (.aj .Mod q (.len (.aa i)))) (.int 0)) L s=.ok (.str e.x) s:=by
 refine aM (Es hne cg hv ha hq) λe he h=>?_;exact⟨e,he,cC h rfl rfl⟩
end
theorem q7(l:Lv)(ks:List Mn):∀Γ:Sc,(fJ l ks Γ).length<=Γ.length
|[]=>aR _
|e::Γ=>by
  have:=q7 l ks Γ;rw[AR,List.length_append,List.length_cons]
  split
  ·exact Nat.add_comm _ _▸Nat.succ_le_succ this
  ·exact jR ((Nat.zero_add _).symm▸this)
theorem R3{l:Lv}(h:(l.i==1)=true):l=.o:=by
 cases l with
|z=>exact absurd h (by decide)
|o=>rfl
theorem zD{l:Lv}(h:l=.o->Kd.aY=.aB):l=.z:=by
 cases l with
|z=>rfl
|o=>exact absurd (h rfl) (by intro h;cases h)
def Lv.flip:Lv->Lv
|.z=>.o|.o=>.z
def okd:Lv->Kd
|.z=>.aB|.o=>.aY
def R4(l:Lv)(a b:Nat):Nat:=match l with
|.z=>a
|.o=>b
section
variable{P:Prog}{sc:List Int}{G:Nat->Sc->Lv->Bool->Tm->Kd->Prop}(B:Base P)(h30:P.fns 30=some qS)(Gw:P.fns 31=some td)(W:Gr G)
include B h30 Gw W
theorem Jw{n st ls:Nat}{Γ:Sc}{l:Lv}{k:Kd}(hs:St st σ)(hls:σ[ls]?=some (.ah (Γ.map Ent.v)))(hok:∀e∈Γ,e.Ok)(cg:Γ.length<=100000)(hlk:l=.o->k=.aB):
  ∃t af,av P sc (n+2) 31 [.cy,.ref st,.int l.i,.str k.s,.ref ls,.int num] σ=.ok t.ag af/\(∀d,G d Γ l f t k)/\bt st σ af:=by
 rw[cp Gw rfl]
 suffices h:aV (cx P sc (n+1)) [some .cy,some (.ref st),some (.int l.i),some (.str k.s),some (.ref ls),some (.int num),none,none,none] st σ td.body (λt=>(∀d,G d Γ l f t k)) by
  refine fG (h) λt s' L' e kp h1=>?_;exact⟨t,s',(congrArg bW e).trans rfl,h1,kp⟩
 refine aM (tx (sc:=sc) h30 (n:=n) (l:=l) (ks:=[.val k]) hok cg (old (τ:=[.ah [(Mn.val k).ks]]) hls) bL) λbZ a1 a2=>?_;refine aV.aK (aN (aP rfl (aP rfl (az (dG (az (bU (by rfl) (nb rfl)) ba) (nb rfl)) ba))) a1) ((bt.add hs).more) ?_;generalize ha:(σ++[O.ah [(Mn.val k).ks]]).length=A at a2;generalize FA:σ++[O.ah [(Mn.val k).ks]]++bZ=ae at a2;have k1:bt st σ ae:=by rw[←FA];exact(bt.add hs).more
 have hA:A≠st:=ha▸Nat.ne_of_gt ((bt.add hs).state.lt)
 obtain⟨dp,b1,b2⟩:=tx (sc:=sc) h30 (n:=n) (l:=l.flip) (ks:=[.val (okd l)]) (ls:=ls) (lk:=(R4 l ae.length (ae++[O.ah [(Mn.val .aB).ks]]).length)) (σ:=ae++[.ah [(Mn.val .aB).ks]]++[.ah [(Mn.val .aY).ks]]++[.ah [.ref ae.length,.ref (ae++[O.ah [(Mn.val .aB).ks]]).length]]) hok cg (old (old (old (k1.get (lg hs hls) hls)))) (by
  cases l with
  |z=>exact old (old bL)
  |o=>exact old bL)
 refine aV.aK (s1:=ae++[.ah [(Mn.val .aB).ks]]++[.ah [(Mn.val .aY).ks]]++[.ah [.ref ae.length,.ref (ae++[O.ah [(Mn.val .aB).ks]]).length]]++dp) (v:=.ref (ae++[O.ah [(Mn.val .aB).ks]]++[O.ah [(Mn.val .aY).ks]]++[O.ah [.ref ae.length,.ref (ae++[O.ah [(Mn.val .aB).ks]]).length]]).length) ?_ ((((bt.add k1.state).more).more).more) ?_
 ·refine aN (aP rfl (az (x:=.int l.flip.i) (bT rfl (aE rfl) (by cases l<;>rfl)) (az (cC (dG (az (dG (az (bU (by rfl) (nb rfl)) ba) (nb rfl)) (az (dG (az (bU (by rfl) (nb rfl)) ba) (nb rfl)) ba)) (nb rfl)) (aE rfl) ?_) ba))) b1;cases l with
  |z=>exact dF bL rfl (by decide) (by decide)
  |o=>exact dF bL rfl (by decide) (by decide)
 generalize hb:(ae++[O.ah [(Mn.val .aB).ks]]++[O.ah [(Mn.val .aY).ks]]++[O.ah [V.ref ae.length,V.ref (ae++[O.ah [(Mn.val .aB).ks]]).length]]).length=D at b2;have QV:∃τ,ae++[O.ah [(Mn.val .aB).ks]]++[O.ah [(Mn.val .aY).ks]]++[O.ah [V.ref ae.length,V.ref (ae++[O.ah [(Mn.val .aB).ks]]).length]]++dp=ae++τ:=⟨_,by rw[List.append_assoc,List.append_assoc,List.append_assoc]⟩;obtain⟨τ,jV⟩:=QV;rw[jV] at b2 ⊢;have f2:(ae++τ)[A]?=_:=old a2;have k2:bt st σ (ae++τ):=k1.more;have hD:D≠st:=hb▸Nat.ne_of_gt ((bt.add (bt.add (bt.add k1.state).state).state).state.lt);generalize ae++τ=ao at b2 f2 k2;have vO:∀e∈fJ l.flip [.val (okd l)] Γ,e.Ok:=λe he=>hok e (j4 _ _ _ _ he).2.2.1;have FC:=bR (q7 l.flip [.val (okd l)] Γ) cg;show aV (cx P sc (n+1)) [some .cy,some (.ref st),some (.int l.i),some (.str k.s),some (.ref ls),some (.int num),some (.ref A),some (.ref D),none] st ao _ _;refine aV.ite (Q:=fJ l [.val k] Γ≠[]) ?_ (λs3 k3 hQ=>?_) (λs3 k3=>?_)
 ·refine cU (dE.Fz (C:=cx P sc (n+1)) (L:=[some .cy,some (.ref st),some (.int l.i),some (.str k.s),some (.ref ls),some (.int num),some (.ref A),some (.ref D),none]) (a:=.cmp .Gt (.aj .Mod (.aa 5) (.int 4)) (.int 0)) (b:=.cmp .NotEq (.aa 6) (.ah .nil)) (c:=.or {.cmp .Eq (.aj .Mod (.aj .FloorDiv (.aa 5) (.int 4)) (.int 3)) (.int 0),.cmp .Eq (.aa 7) (.ah .nil)}) (dE.pure k2.state rfl) (λs1 q1=>dE.full q1.state (λe he=>hok e (j4 _ _ _ _ he).2.2.1) rfl (q1.get hA f2)) (λs1 q1=>dE.R2 (dE.pure q1.state rfl) λs2 q2=>dE.void q2.state vO rfl ((q1.trans q2).get hD b2))) λb s e kp q=>?_;exact⟨b,s,e,kp,λh=>(q h).2.1⟩
 ·refine aM (pick (C:=cx P sc (n+1)) (L:=[some .cy,some (.ref st),some (.int l.i),some (.str k.s),some (.ref ls),some (.int num),some (.ref A),some (.ref D),none]) (i:=6) (q:=.aj .FloorDiv (.aa 5) (.int 12)) hQ (bR (q7 l [.val k] Γ) cg) rfl (k3.get hA f2) rfl) λe he hp=>?_;refine jd (j4 _ _ _ _ he) λh1 h2 _ h3=>?_;have h4:=ux h3;refine aV.ret (t:=.name e.x) (bU (az rfl (az hp ba)) (nb rfl)) (.refl k3.state) (λ_=>W.name ?_);rw[h1,←h2,←h4]
 ·have b3:=k3.get hD b2;refine eY (An B (sc:=sc) (n:=n) (x:=num.fdiv 16) s3) λi fZ e3=>?_;refine aV.aK (bU (az rfl (az (aN (az (bT (aE rfl) rfl rfl) ba) e3) ba)) (nb rfl)) (bt.add k3.state) ?_;show aV (cx P sc (n+1)) [some .cy,some (.ref st),some (.int l.i),some (.str k.s),some (.ref ls),some (.int num),some (.ref A),some (.ref D),some (Tm.num i).ag] st (s3++fZ) _ _;have b4:=old (τ:=fZ) b3;have s4:St st (s3++fZ):=(bt.add k3.state).state;generalize s3++fZ=s4 at b4 s4;refine aV.ite (Q:=l=.o/\fJ l.flip [.val (okd l)] Γ≠[]) ?_ (λs5 k5 hQ=>?_) (λs5 k5=>?_)
  ·refine cU (dE.Fz (C:=cx P sc (n+1)) (L:=[some .cy,some (.ref st),some (.int l.i),some (.str k.s),some (.ref ls),some (.int num),some (.ref A),some (.ref D),some (Tm.num i).ag]) (a:=.cmp .Eq (.aa 2) (.int 1)) (b:=.cmp .NotEq (.aa 7) (.ah .nil)) (c:=.cmp .Gt (.aj .Mod (.aa 5) (.int 4)) (.int 0)) (dE.pure (b:=l.i==1) s4 rfl) (λs1 q1=>dE.full q1.state vO rfl (q1.get hD b4)) (λs1 q1=>dE.pure q1.state rfl)) λb s e kp q=>?_;exact⟨b,s,e,kp,λh=>⟨R3 (q h).1,(q h).2.1⟩⟩
  ·refine aZ (hQ) λcu hQ=>?_;clear b3 vO f2 b2 b1 a2 a1;subst cu;refine aM (pick (C:=cx P sc (n+1)) (L:=[some .cy,some (.ref st),some (.int Lv.o.i),some (.str k.s),some (.ref ls),some (.int num),some (.ref A),some (.ref D),some (Tm.num i).ag]) (i:=7) (q:=.aj .FloorDiv (.aa 5) (.int 12)) hQ FC rfl (k5.get hD b4) rfl) λe he hp=>?_;refine jd (j4 _ _ _ _ he) λh1 h2 _ h3=>?_;have h4:=ux h3;refine aV.ret (t:=.un .hole (.name e.x)) (bU (az rfl (az (bU (az rfl (az hp ba)) (nb rfl)) ba)) (nb rfl)) (.refl k5.state) ?_;rw[hlk rfl];refine λ_=>W.kz ?_;rw[h1];obtain⟨ex,el,em⟩:=e;have h2:el=.z:=h2;have h4:em=.val .aY:=h4;rw[h2,h4]
  ·clear f2 b1 a2 FA ha a1;cases k with
   |aB=>
    exact aV.take (by rfl') (.refl k5.state) (aV.ret (aE rfl) (.refl k5.state) (λ_=>W.num))
   |aY=>
    obtain rfl:l=.z:=zD hlk;refine aV.skip (by rfl') (.refl k5.state) ?_;have b5:=k5.get hD b4;refine aV.ite (Q:=fJ Lv.z.flip [.val (okd .z)] Γ≠[]) ?_ (λs6 k6 hQ=>?_) (λs6 k6=>?_)
    ·refine cU (dE.aS (C:=cx P sc (n+1)) (L:=[some .cy,some (.ref st),some (.int Lv.z.i),some (.str Kd.aY.s),some (.ref ls),some (.int num),some (.ref A),some (.ref D),some (Tm.num i).ag]) (a:=.cmp .NotEq (.aa 7) (.ah .nil)) (b:=.cmp .Gt (.aj .Mod (.aa 5) (.int 4)) (.int 0)) (dE.full k5.state vO rfl b5) (λs1 q1=>dE.pure q1.state rfl)) λb s e kp q=>?_;exact⟨b,s,e,kp,λh=>(q h).1⟩
    ·refine bB λXx aI=>?_;refine aM (pick (C:=cx P sc (n+1)) (L:=[some .cy,some (.ref st),some (.int Lv.z.i),some (.str Kd.aY.s),some (.ref ls),some (.int num),some (.ref A),some (.ref D),some (Tm.num i).ag]) (i:=7) (q:=.aj .FloorDiv (.aa 5) (.int 12)) hQ FC rfl (k6.get hD b5) rfl) λe he hp=>?_;refine jd (j4 _ _ _ _ he) λh1 h2 _ h3=>?_;refine aI ?_;have h4:=ux h3;refine aV.ret (bU (az rfl (az (bU (az rfl (az hp ba)) (nb rfl)) ba)) (nb rfl)) (.refl k6.state) (λ_=>W.kW ?_);rw[h1];obtain⟨ex,el,em⟩:=e;have h2:el=.o:=h2;have h4:em=.val .aB:=h4;rw[h2,h4]
    ·have hj:=jB B (a:=num.fdiv 16) (b:=2) (by decide);generalize qG:(num.fdiv 16).fmod 2=j at hj;have hex:∃t:Tm,[(Tm.un .lift (.num i)).ag,(Tm.un .bJ (.num i)).ag][j.toNat]?=some t.ag/\(∀d,G d Γ .z f t .aY):=by
      have:j.toNat=0∨j.toNat=1:=F0 (qz hj.1 hj.2);rcases this with q|q<;>rw[q]
      ·exact⟨.un .lift (.num i),rfl,λ_=>W.lb⟩
      ·exact⟨.un .bJ (.num i),rfl,λ_=>W.kX⟩
     refine aM (hex) λt ht1 jU=>?_;refine aV.ret (cC (dG (az (bU rfl (nb rfl)) (az (bU rfl (nb rfl)) ba)) (nb rfl)) (bT (bT (aE rfl) rfl rfl) rfl (by rw[←qG];rfl)) (dF bL ht1 (lI 0x320049049205320 [_] rfl hj.1) (lI 0x700700700700700700700700700790184c04904920588184c [_] rfl hj.2))) (bt.add k6.state) jU
end
inductive Wd where|a9|bu|def_|when|use|kept|bJ|lift|hole|run|aj (u:U2)
def Wd.s:Wd->Str
|.a9=>"let"|.bu=>"turns"|.def_=>"def"|.when=>"when"|.use=>"use"|.kept=>"kept"|.bJ=>"quote"|.lift=>"lift"|.hole=>"hole"|.run=>"run"|.aj u=>u.str
def fR:List Wd:=[.a9,.bu,.def_,.when,.use,.use]
def gz:Lv->Kd->Bool->List Wd
|_,.aY,_=>[.bJ,.bJ,.bJ,.bJ,.bJ,.bJ,.lift]
|.o,.aB,_=>[.aj .sum,.aj .sum,.aj .product,.aj .less,.hole,.hole,.kept,.kept,.kept,.kept,.kept]
|.z,.aB,true=>[.aj .sum,.aj .product,.aj .less,.run,.run,.run,.run,.run,.run]
|.z,.aB,false=>[.aj .sum,.aj .product,.aj .less]
def Wd.fits(l:Lv)(k:Kd)(f:Bool):Wd->Prop
|.kept=>l=.o/\k=.aB
|.bJ=>k=.aY
|.lift=>k=.aY
|.hole=>l=.o/\k=.aB
|.run=>l=.z/\k=.aB/\f=true
|.aj _=>k=.aB
|_=>True
theorem Jx(l:Lv)(k:Kd)(f:Bool):∀w∈fR++gz l k f,w.fits l k f:=by
 intro w hw;rcases List.mem_append.mp hw with h|h
 ·simp only[fR,List.mem_cons,List.not_mem_nil,or_false] at h;rcases h with rfl|rfl|rfl|rfl|rfl|rfl<;>trivial
 ·clear hw;cases k with
  |aY=>
   have h:w∈[Wd.bJ,.bJ,.bJ,.bJ,.bJ,.bJ,.lift]:=by cases l<;>exact h
   simp only[List.mem_cons,List.not_mem_nil,or_false] at h;rcases h with rfl|rfl|rfl|rfl|rfl|rfl|rfl<;>exact rfl
  |aB=>
   cases l with
   |o=>
    have h:w∈[Wd.aj .sum,.aj .sum,.aj .product,.aj .less,.hole,.hole,.kept,.kept,.kept,.kept,.kept]:=h;simp only[List.mem_cons,List.not_mem_nil,or_false] at h;rcases h with rfl|rfl|rfl|rfl|rfl|rfl|rfl|rfl|rfl|rfl|rfl<;>first|exact rfl|exact⟨rfl,rfl⟩
   |z=>
    cases f with
    |true=>
     have h:w∈[Wd.aj .sum,.aj .product,.aj .less,.run,.run,.run,.run,.run,.run]:=h;simp only[List.mem_cons,List.not_mem_nil,or_false] at h;rcases h with rfl|rfl|rfl|rfl|rfl|rfl|rfl|rfl|rfl<;>first|exact rfl|exact⟨rfl,rfl,rfl⟩
    |false=>
     have h:w∈[Wd.aj .sum,.aj .product,.aj .less]:=h;simp only[List.mem_cons,List.not_mem_nil,or_false] at h;rcases h with rfl|rfl|rfl<;>exact rfl
section
variable{P:Prog}{sc:List Int}
def wv(w:Wd):V:=.str w.s
theorem IP(R5:P.fns 32=some wd):∃a τ,av P sc (n+1) 32 [.int l.i,.str k.s,.bool f] σ=.ok (.ref a) (σ++τ)/\σ.length<=a/\(σ++τ)[a]?=some (.ah ((fR++gz l k f).map wv)):=by
 refine⟨(σ++[O.ah (fR.map wv)]++[O.ah ((gz l k f).map wv)]).length,[.ah (fR.map wv),.ah ((gz l k f).map wv),.ah ((fR++gz l k f).map wv)],?_,by simp,by simp⟩;have es:σ++[O.ah (fR.map wv),.ah ((gz l k f).map wv),.ah ((fR++gz l k f).map wv)]=σ++[.ah (fR.map wv)]++[.ah ((gz l k f).map wv)]++[.ah ((fR++gz l k f).map wv)]:=by simp
 have hadd:binop .Add (.ref σ.length) (.ref (σ++[O.ah (fR.map wv)]).length) (σ++[.ah (fR.map wv)]++[.ah ((gz l k f).map wv)])=.ok (.ref (σ++[O.ah (fR.map wv)]++[O.ah ((gz l k f).map wv)]).length) (σ++[.ah (fR.map wv)]++[.ah ((gz l k f).map wv)]++[.ah ((fR++gz l k f).map wv)]):=by
  refine(List.map_append).symm▸?_;exact add_lists (old bL) bL (by(clear es;cases k)<;>cases l<;>cases f<;>exact nb rfl)
 rw[cp R5 rfl,es];refine(congrArg bW (bk (dG rfl (nb rfl)))).trans ?_;clear es;cases k with
|aY=>
  refine(congrArg bW (b8 (by rfl') (bw (bT (aE rfl) (dG (by cases l<;>rfl) (by cases l<;>exact nb rfl)) hadd)))).trans rfl
|aB=>
  cases l with
  |o=>exact(congrArg bW ((bX (by rfl')).trans (b8 (by rfl') (bw (bT (aE rfl) (dG rfl (nb rfl)) hadd))))).trans rfl
  |z=>
   cases f with
   |true=>exact(congrArg bW ((bX (by rfl')).trans ((bX (by rfl')).trans (b8 (by rfl') (bw (bT (aE rfl) (dG rfl (nb rfl)) hadd)))))).trans rfl
   |false=>exact(congrArg bW ((bX (by rfl')).trans ((bX (by rfl')).trans ((bX (by rfl')).trans (bw (bT (aE rfl) (dG rfl (nb rfl)) hadd)))))).trans rfl
variable(B:Base P)
include B
theorem IQ(hs:sc.length<=63)(hst:σ[st]?=some (.ah [.int k,.int c]))(hk:0<=k):
  av P sc (n+3) 8 [.cy,.ref st] σ=.ok (.int (mixed sc (k+1))) (σ.set st (.ah [.int (k+1),.int c])):=by
 rw[cp B.next rfl];exact(congrArg bW ((dC (j8 (bT (cC (aE rfl) rfl (dF hst rfl (by decide) (by decide))) rfl rfl) (aE rfl) rfl (m5 hst ⟨by decide,(by decide:(0:Int)<2),nb rfl⟩))).trans (bw (aN (aP rfl (az (cC (aE rfl) rfl (dF (gy hst) rfl (by decide) (by decide))) ba)) (wm B (lI 0x61320049049205320 [_] rfl hk) hs _))))).trans rfl
omit B in
theorem bt.turn(hst:σ[st]?=some (.ah [.int k,.int c]))(hk:0<=k'):bt st σ (σ.set st (.ah [.int k',.int c'])):=by
 refine⟨⟨k',c',hk,gy hst⟩,by simp,λi h1 _=>?_⟩;rw[List.getElem?_set_ne (Ne.symm h1)]
omit B in
theorem Et{C:Ctx}{L:aQ}{s:H}{is:List Int}{es:EL}{q:E}{num m:Int}(hes:cZ C es L s=.ok (is.map .int) s)(hl:is.length<=100)(hm:m=is.length)(hm0:0<m)(hq:ak C q L (s++[.ah (is.map .int)])=.ok (.int num) (s++[.ah (is.map .int)])):
  ∃i∈is,ak C (.au (.ah es) (.aj .Mod q (.int m))) L s=.ok (.int i) (s++[.ah (is.map .int)]):=by
 have h0:0<=num.fmod m:=Int.fmod_nonneg_of_pos _ hm0;have h1:num.fmod m<m:=Int.fmod_lt_of_pos _ hm0;refine b6 (Int.eq_ofNat_of_zero_le h0) λj hj=>?_;have hj':j<is.length:=za (hm▸h1) hj;have hlim:(1000000:Nat)<=aO:=aR _;refine⟨is[j],List.getElem_mem hj',cC (dG hes (by rw[List.length_map];exact lN 0xd3012412412481641e13053401c91f41e3 [_,_] rfl hl hlim)) (bT (r:=.int j) hq rfl ?_) (dF bL ?_ (by exact lI 0xc80124024124124814d80630d [_,_] rfl h0 hj) (by exact lI 0x1c01c01c01c01c01c01c01c01c01e40613012412412481641e134534184c [_,_] rfl (Int.ofNat_le.mpr hl) (Int.ofNat_lt.mpr hj')))⟩
 ·exact uv hm0 hj
 ·simp[hj']
omit B in
theorem CC{C:Ctx}{L:aQ}{s:H}{l:Lv}(hv:cq L i=some (.int l.i))(hq:ak C q L (s++[.ah [.str Kd.aB.s,.str Kd.aY.s]])=.ok (.int num) (s++[.ah [.str Kd.aB.s,.str Kd.aY.s]])):
  ∃k:Kd,ak C (.au (.ah {.str "number",.str "piece"}) (.aj .Mult (.aj .Mod q (.int 2)) (.aj .Sub (.int 1) (.aa i)))) L s=.ok (.str k.s) (s++[.ah [.str Kd.aB.s,.str Kd.aY.s]])/\(l=.o->k=.aB):=by
 have h0:0<=num.fmod 2:=Int.fmod_nonneg_of_pos _ (by decide);have h1:num.fmod 2<2:=Int.fmod_lt_of_pos _ (by decide);have hx:∃k:Kd,[V.str Kd.aB.s,V.str Kd.aY.s][(num.fmod 2*(1-l.i)).toNat]?=some (.str k.s)/\(l=.o->k=.aB)/\0<=num.fmod 2*(1-l.i)/\num.fmod 2*(1-l.i)<2:=by
  rcases m2 num with q|q<;>(refine q.symm▸?_)<;>(clear hv;cases l)
  ·exact⟨.aB,rfl,λ_=>rfl,by decide,by decide⟩
  ·exact⟨.aB,rfl,λ_=>rfl,by decide,by decide⟩
  ·exact⟨.aY,rfl,(λh=>by cases h),by decide,by decide⟩
  ·exact⟨.aB,rfl,λ_=>rfl,by decide,by decide⟩
 refine oD (hx) λk hk hlk b0 b1=>?_;refine⟨k,cC (dG rfl (nb rfl)) (bT (bT hq rfl rfl) (bT rfl (aE hv) rfl) ?_) (dF bL hk b0 (lI 0x700700700700700700700700700790184c04904920588184c [_] rfl b1)),hlk⟩;rw[jy,if_pos (by(clear b1 b0 hlk hk hx hv;cases l)<;>(rw[Bool.or_eq_true];exact .inr (by decide)))];rfl
omit B in
theorem q8(hv:cq L i=some (.ref ls))(hls:s[ls]?=some (.ah (Γ.map Ent.v)))(he:ak C a L s=.ok e.v s)(cg:Γ.length<=100000):
  ak C (.aj .Add (.aa i) (.ah {a})) L s=.ok (.ref (s++[O.ah [e.v]]).length) (s++[.ah [e.v]]++[.ah ((Γ++[e]).map Ent.v)]):=by
 have hlim:(1000000:Nat)<=aO:=aR _;refine bT (aE hv) (dG (az he ba) (nb rfl)) ?_;refine(List.map_append).symm▸?_;exact add_lists (old hls) bL (by rw[List.length_map];show Γ.length+1<=aO;exact lN 0xd0613012412412481601da1f83053401c91f41e3 [_,_] rfl cg hlim)
def Tw(G:Nat->Sc->Lv->Bool->Tm->Kd->Prop)(d:Nat)(Γ:Sc)(t:Tm):Prop:=∃y i b c,t=.a9 y (.num i) (.aj .sum b c)/\G 0 (Γ++[⟨y,.o,.val .aB⟩]) .o false b .aB/\G d (Γ++[⟨y,.o,.val .aB⟩]) .o false c .aB
def m9(G:Nat->Sc->Lv->Bool->Tm->Kd->Prop)(P:Prog)(sc:List Int)(d:Nat):Prop:=∀(n:Nat),3*d+8<=n->∀(Γ:Sc)(l:Lv)(k:Kd)(f:Bool)(st ls:Nat)(σ:H),St st σ->σ[ls]?=some (.ah (Γ.map Ent.v))->(∀e∈Γ,e.Ok)->Γ.length+3*d<=1000->(l=.o->k=.aB)->
 ∃t af,av P sc n 33 [.cy,.ref st,.int l.i,.str k.s,.ref ls,.int d,.bool f] σ=.ok t.ag af/\G d Γ l f t k/\bt st σ af
omit B in
theorem oA{Γ:Sc}(h:∀e∈Γ,e.Ok)(he:e.Ok):∀e'∈Γ++[e],e'.Ok:=λe' h'=>by
 rcases List.mem_append.mp h' with q|q
 ·exact h e' q
 ·(refine(List.mem_singleton.mp q).symm▸?_);exact he
end
section
variable{C:Ctx}{L L1:aQ}{σ ae ao b9:H}{a b:E}{x y r:V}
theorem N3(h1:ak C a L σ=.ok x ae)(h2:ak C b L ae=.ok y ao)(h3:uF x y ao=.ok r b9):ak C (.max2 a b) L σ=.ok r b9:=by(refine JQ.symm▸?_;refine(aU h1).symm▸?_;refine(aU h2).symm▸?_;refine h3.symm▸?_;with_reducible rfl)
theorem xm{i d c:Nat}(hv:cq L i=some (.int d))(hc:1<=c):ak C (.max2 (.int 0) (.aj .Sub (.aa i) (.int c))) L σ=.ok (.int ((d-c:Nat):Int)) σ:=by
 refine N3 rfl (bT (aE hv) rfl rfl) ?_;refine congrArg (λi=>Res.ok (V.int i) σ) ?_;rcases Nat.lt_or_ge c d with h|h
 ·exact(if_pos (Int.sub_pos_of_lt (Int.ofNat_lt.mpr h))).trans (Int.ofNat_sub (Nat.le_of_lt h)).symm
 ·exact(if_neg (λq=>Nat.not_lt.mpr h (Int.ofNat_lt.mp (Int.lt_of_sub_pos q)))).trans (congrArg Int.ofNat (Nat.sub_eq_zero_of_le h)).symm
theorem Mu(h1:ak C a L σ=.ok (.ref l) ae)(hl:ae[l]?=some (.ah vs))(h2:Qh.N.fK is vs L ae=.ok () L1 ae):cF C (.hY is a) L σ=.ok .next L1 ae:=by
 simp only[Ca,Qh.N.bind,Qh.N.lift,h1,dX hl,h2,Qh.N.pure]
end
section
variable{P:Prog}{sc:List Int}
structure qw(P:Prog)(G:Nat->Sc->Lv->Bool->Tm->Kd->Prop):Prop extends Base P where
 vP:P.fns 30=some qS
 Gx:P.fns 31=some td
 f32:P.fns 32=some wd
 Gy:P.fns 33=some th
 Gz:P.fns 34=some we
 GA:P.fns 35=some sT
 gr:Gr G
variable{G:Nat->Sc->Lv->Bool->Tm->Kd->Prop}(B:qw P G)(hs:sc.length<=63)
include B hs
theorem xn(hv:cq L 0=some .cy)(h0:i0=.int a)(h1:i1=.int b)(h2:i2=.int c)(h3:i3=.int d)(hq:∀s,ak (cx P sc (n+3)) q L s=.ok (.int num) s):
  ∃x τ,ak (cx P sc (n+3)) (.call 7 {.aa 0,.au (.ah {i0,i1,i2,i3}) (.aj .Mod q (.int 4))}) L s=.ok (.str x) (s++τ)/\V.dO (.str x)=true:=by
 subst h0 h1 h2 h3;refine bB λXx aI=>?_;refine aM (Et (C:=cx P sc (n+3)) (L:=L) (s:=s) (is:=[a,b,c,d]) (m:=4) (q:=q) (num:=num) (es:=.cons (.int a) {.int b,.int c,.int d}) rfl (nb rfl) rfl (by decide) (hq _)) λi _ hi=>?_;refine bo (Jq B.toBase (sc:=sc) (n:=n) (w:=i) hs (s++[.ah ([a,b,c,d].map .int)])) λx τ h4 h5=>?_;refine aI ?_;refine⟨x,[.ah ([a,b,c,d].map .int)]++τ,?_,Ic h5⟩;rw[←List.append_assoc];exact aN (aP hv (az hi ba)) h4
theorem IS(ih:m9 G P sc d)(hn:3*d+8<=n)(hst:St st σ)(hls:σ[ls]?=some (.ah (Γ.map Ent.v)))(hok:∀e∈Γ,e.Ok)(cg:Γ.length+1+3*d<=1000):
  ∃t af,av P sc (n+1) 34 [.cy,.ref st,.ref ls,.int d,.int num] σ=.ok t.ag af/\Tw G d Γ t/\bt st σ af:=by
 obtain⟨m,rfl⟩:∃m,n=m+3:=⟨n-3,by exact cK (lN 0x18c28cc308049201241248 [_] rfl) (lN 0x3018c28cc201248049009049205301a04363 [_,_] rfl hn)⟩;rw[cp B.Gz rfl]
 suffices h:aV (cx P sc (m+3)) [some .cy,some (.ref st),some (.ref ls),some (.int d),some (.int num),none,none,none,none,none] st σ we.body (λt=>Tw G d Γ t) by
  refine fG (h) λt s' L' e kp h1=>?_;exact⟨t,s',(congrArg bW e).trans rfl,h1,kp⟩
 obtain⟨x,bZ,e1,fx⟩:=xn B hs (n:=m) (L:=[some .cy,some (.ref st),some (.ref ls),some (.int d),some (.int num),none,none,none,none,none]) (s:=σ) (q:=.aa 4) (num:=num) rfl rfl rfl rfl rfl (λ_=>aE rfl);refine aV.aK e1 (bt.add hst) ?_;have k1:bt st σ (σ++bZ):=bt.add hst;have vj:=old (τ:=bZ) hls;generalize σ++bZ=s1 at k1 vj;have R6:Ent.Ok ⟨x,.o,.val .aB⟩:=⟨fx,λ_=>.inl rfl⟩;refine aV.aK (q8 (e:=⟨x,.o,.val .aB⟩) rfl vj (bU (aP rfl (az rfl (az (bU (by rfl) (nb rfl)) ba))) (nb rfl)) (by exact lN 0x807687e0c049049205a07bc110d8c184c [_,_] rfl cg)) ((bt.add k1.state).more) ?_;have hm1:=bL (σ:=s1++[O.ah [Ent.v ⟨x,.o,.val .aB⟩]]) (o:=.ah ((Γ++[(⟨x,.o,.val .aB⟩:Ent)]).map Ent.v));have k2:bt st s1 (s1++[O.ah [Ent.v ⟨x,.o,.val .aB⟩]]++[.ah ((Γ++[(⟨x,.o,.val .aB⟩:Ent)]).map Ent.v)]):=(bt.add k1.state).more;generalize (s1++[O.ah [Ent.v ⟨x,.o,.val .aB⟩]]).length=lm at hm1;generalize s1++[O.ah [Ent.v ⟨x,.o,.val .aB⟩]]++[.ah ((Γ++[(⟨x,.o,.val .aB⟩:Ent)]).map Ent.v)]=s2 at hm1 k2;have pd:=oA hok R6;have oW:(Γ++[(⟨x,.o,.val .aB⟩:Ent)]).length+3*d<=1000:=by(refine(List.length_append).symm▸?_;refine(List.length_singleton).symm▸?_);assumption
 have hx:look (Γ++[(⟨x,.o,.val .aB⟩:Ent)]) x=some ⟨x,.o,.val .aB⟩:=by rw[iD,beq_self_eq_true];rfl
 generalize GB:Γ++[(⟨x,.o,.val .aB⟩:Ent)]=Δ at hm1 pd oW hx;have GC:=lg k2.state hm1;refine aM (tx (sc:=sc) B.vP (n:=m+2) (l:=.z) (ks:=[.val .aY]) pd (by exact lN 0x807687e0c049049205a07bc110d8cc [_,_] rfl oW) (old (τ:=[.ah [(Mn.val .aY).ks]]) hm1) bL) λfZ b1 b2=>?_;refine aV.aK (aN (aP rfl (az rfl (az (dG (az (bU (by rfl) (nb rfl)) ba) (nb rfl)) ba))) b1) ((bt.add k2.state).more) ?_;have k3:bt st s2 (s2++[O.ah [(Mn.val .aY).ks]]++fZ):=(bt.add k2.state).more;have hA:(s2++[O.ah [(Mn.val .aY).ks]]).length≠st:=Nat.ne_of_gt (bt.add k2.state).state.lt;generalize (s2++[O.ah [(Mn.val .aY).ks]]).length=A at b2 hA;generalize s2++[O.ah [(Mn.val .aY).ks]]++fZ=s3 at b2 k3;refine aV.aK (v:=(Tm.name x).ag) (s1:=s3) (bU rfl (nb rfl)) (.refl k3.state) ?_;have hone:∃one s4,cF (cx P sc (m+3)) (.ite (.cmp .NotEq (.aa 7) (.ah .nil)) {.aK 8 (.ax {.str "hole",.ax {.str "name",.au (.au (.aa 7) (.aj .Mod (.aj .FloorDiv (.aa 4) (.int 4)) (.len (.aa 7)))) (.int 0)}})} .nil) [some .cy,some (.ref st),some (.ref ls),some (.int d),some (.int num),some (.str x),some (.ref lm),some (.ref A),some (Tm.name x).ag,none] s3=
   .ok .next [some .cy,some (.ref st),some (.ref ls),some (.int d),some (.int num),some (.str x),some (.ref lm),some (.ref A),some (Tm.ag one),none] s4/\bt st s3 s4/\G 0 Δ .o false one .aB:=by
  refine cU (dE.full (C:=cx P sc (m+3)) (L:=[some .cy,some (.ref st),some (.ref ls),some (.int d),some (.int num),some (.str x),some (.ref lm),some (.ref A),some (Tm.name x).ag,none]) (i:=7) k3.state (λe he=>pd e (j4 _ _ _ _ he).2.2.1) rfl b2) λb s4 e4 k4 q4=>?_;cases b with
  |false=>exact⟨.name x,s4,(oa e4).trans fy,k4,B.gr.name hx⟩
  |true=>
   refine bB λXx aI=>?_;refine aM (pick (C:=cx P sc (m+3)) (L:=[some .cy,some (.ref st),some (.ref ls),some (.int d),some (.int num),some (.str x),some (.ref lm),some (.ref A),some (Tm.name x).ag,none]) (i:=7) (q:=.aj .FloorDiv (.aa 4) (.int 4)) (q4 rfl) (bR (q7 _ _ _) (by exact lN 0x807687e0c049049205a07bc110d8cc [_,_] rfl oW)) rfl (k4.get hA b2) rfl) λe he hp=>?_;refine jd (j4 _ _ _ _ he) λh1 h2 _ h3=>?_;refine aI ?_;have h4:=ux h3;refine⟨.un .hole (.name e.x),s4,(kO e4).trans ((bk (bU (az rfl (az (bU (az rfl (az hp ba)) (nb rfl)) ba)) (nb rfl))).trans fy),k4,B.gr.kz ?_⟩;refine h1.symm▸?_;obtain⟨ex,el,em⟩:=e;have h2:el=.z:=h2;have h4:em=.val .aY:=h4;refine h2.symm▸?_;refine h4.symm▸?_;with_reducible rfl
 refine cU (hone) λone s4 e4 k4 hk1=>?_;refine aV.step e4 k4 ?_;refine cU (ih (m+3) hn Δ .o .aB false st lm s4 k4.state (k4.get GC (k3.get GC hm1)) pd oW (λ_=>rfl)) λt s5 e5 hk2 k5=>?_;refine aV.aK (aN rfl e5) k5 ?_;refine aV.ret (bU (az rfl (aP rfl (az (bU (az rfl (az (bT (bT (aE rfl) rfl rfl) rfl rfl) ba)) (nb rfl)) (az (bU rfl (nb rfl)) ba)))) (nb rfl)) (.refl k5.state) ⟨x,_,one,t,rfl,?_,?_⟩
 ·(refine GB.symm▸?_);exact hk1
 ·(refine GB.symm▸?_);exact hk2
end
def eA(st lw ls:Nat)(d:Nat)(num:Int)(x f gT R7 R8 vF R9:Option V)(w:Wd)(l:Lv)(k:Kd)(fr:Bool)(one many pf:Option V):aQ:=
 [some .cy,some (.ref st),some (.ref lw),some (.ref ls),some (.int d),some (.int num),x,f,gT,R7,R8,vF,R9,some (wv w),some (.int l.i),some (.str k.s),some (.bool fr),one,many,pf]
def sk:SL:=match sT.body with
|.cons _ (.cons _ (.cons _ (.cons _ (.cons _ r))))=>r
|_=>.nil
def QW:SL:=match sk with
|.cons _ (.cons _ (.cons _ r))=>r
|_=>.nil
section
variable{P:Prog}{sc:List Int}{G:Nat->Sc->Lv->Bool->Tm->Kd->Prop}(B:qw P G)(hs:sc.length<=63)
include B hs
theorem IT(hv:cq L i=some (.ref ls))(hls:s[ls]?=some (.ah (Γ.map Ent.v)))(he:ak C a L s=.ok e.v s)(he':ak C b L s=.ok e'.v s)(cg:Γ.length<=100000):
  ak C (.aj .Add (.aa i) (.ah {a,b})) L s=.ok (.ref (s++[O.ah [e.v,e'.v]]).length) (s++[.ah [e.v,e'.v]]++[.ah ((Γ++[e]++[e']).map Ent.v)]):=by
 have hlim:(1000000:Nat)<=aO:=aR _;refine bT (aE hv) (dG (az he (az he' ba)) (nb rfl)) ?_;rw[show(Γ++[e]++[e']).map Ent.v=Γ.map Ent.v++[e.v,e'.v] by simp];exact add_lists (old hls) bL (by rw[List.length_map];show Γ.length+2<=aO;exact lN 0xd0623012412412481601da1f83053401c91f41e3 [_,_] rfl cg hlim)
theorem Jy(ih:∀d'≤d,m9 G P sc d')(hn:3*d+9<=n+3)(hst:St st s)(hls:s[ls]?=some (.ah (Γ.map Ent.v)))(hok:∀e∈Γ,e.Ok)(cg:Γ.length+3+3*d<=1000)(fx:V.dO (.str x)=true)(ff:V.dO (.str f)=true):
  aV (cx P sc (n+3)) (eA st lw ls d num (some (.str x)) (some (.str f)) (some gT) none none none none .kept .o .aB fr none none none) st s sk (λt=>G (d+1) Γ .o fr t .aB):=by
 have hne:=lg hst hls;refine aV.take (s1:=s) (by rfl') (.refl hst) ?_;refine eY (An B.toBase (sc:=sc) (n:=n+2) (x:=num.fdiv 18) s) λi pg e0=>?_;refine aV.aK (v:=(Tm.num i).ag) (bU (az rfl (az (aN (az (bT (r:=.int (num.fdiv 18)) (aE rfl) rfl rfl) ba) e0) ba)) (nb rfl)) (bt.add hst) ?_;have k0:bt st s (s++pg):=bt.add hst;generalize s++pg=s0 at k0;have nC:=k0.get hne hls;have hone:∃one s1,cF (cx P sc (n+3)) (.ite (.cmp .Eq (.aj .Mod (.aj .FloorDiv (.aa 5) (.int 16)) (.int 2)) (.int 0)) {.aK 17 (.call 33 {.aa 0,.aa 1,.int 1,.str "number",.aa 3,.max2 (.int 0) (.aj .Sub (.aa 4) (.int 1)),.bool false})} .nil) (eA st lw ls d num (some (.str x)) (some (.str f)) (some gT) none none none none .kept .o .aB fr (some (Tm.num i).ag) none none) s0=
   .ok .next (eA st lw ls d num (some (.str x)) (some (.str f)) (some gT) none none none none .kept .o .aB fr (some (Tm.ag one)) none none) s1/\bt st s0 s1/\G (d-1) Γ .o false one .aB:=by
  have ht:bP (cx P sc (n+3)) (.cmp .Eq (.aj .Mod (.aj .FloorDiv (.aa 5) (.int 16)) (.int 2)) (.int 0)) (eA st lw ls d num (some (.str x)) (some (.str f)) (some gT) none none none none .kept .o .aB fr (some (Tm.num i).ag) none none) s0=.ok ((num.fdiv 16).fmod 2==0) s0:=rfl;cases hb:((num.fdiv 16).fmod 2==0) with
  |false=>rw[hb] at ht;exact⟨.num i,s0,(oa ht).trans fy,.refl k0.state,B.gr.num⟩
  |true=>
   rw[hb] at ht;refine cU (ih (d-1) (Nat.sub_le _ _) (n+3) (by exact lN 0x63341a040a1323201240241248049009049205063341a44323 [_,_] rfl hn) Γ .o .aB false st ls s0 k0.state nC hok (by exact lN 0xa07bc110284d8cc201240241248049009049205a07bc110d8c18cc [_,_] rfl cg) (λ_=>rfl)) λt s1 e1 h1 k1=>?_;exact⟨t,s1,(kO ht).trans ((bk (aN (aP rfl (aP rfl (az rfl (az rfl (aP rfl (az (xm (d:=d) (c:=1) rfl (aR _)) (by rfl))))))) e1)).trans fy),k1,h1⟩
 obtain⟨one,s1,e1,k1,hk1⟩:=hone;refine aV.step e1 k1 ?_;refine aV.aK (IT B hs (e:=⟨x,.o,.val .aB⟩) (e':=⟨f,.z,.val .aY⟩) rfl (k1.get hne nC) (bU (aP rfl (az rfl (az (bU (by rfl) (nb rfl)) ba))) (nb rfl)) (bU (aP rfl (az rfl (az (bU (by rfl) (nb rfl)) ba))) (nb rfl)) (by exact lN 0x807687e0c049049205a07bc110d8c18cc [_,_] rfl cg)) ((bt.add k1.state).more) ?_;have hm2:=bL (σ:=s1++[O.ah [Ent.v ⟨x,.o,.val .aB⟩,Ent.v ⟨f,.z,.val .aY⟩]]) (o:=.ah ((Γ++[(⟨x,.o,.val .aB⟩:Ent)]++[(⟨f,.z,.val .aY⟩:Ent)]).map Ent.v));have k2:bt st s1 (s1++[O.ah [Ent.v ⟨x,.o,.val .aB⟩,Ent.v ⟨f,.z,.val .aY⟩]]++[.ah ((Γ++[(⟨x,.o,.val .aB⟩:Ent)]++[(⟨f,.z,.val .aY⟩:Ent)]).map Ent.v)]):=(bt.add k1.state).more;generalize (s1++[O.ah [Ent.v ⟨x,.o,.val .aB⟩,Ent.v ⟨f,.z,.val .aY⟩]]).length=lm at hm2;generalize s1++[O.ah [Ent.v ⟨x,.o,.val .aB⟩,Ent.v ⟨f,.z,.val .aY⟩]]++[.ah ((Γ++[(⟨x,.o,.val .aB⟩:Ent)]++[(⟨f,.z,.val .aY⟩:Ent)]).map Ent.v)]=s2 at hm2 k2;have pd:∀e∈Γ++[(⟨x,.o,.val .aB⟩:Ent)]++[(⟨f,.z,.val .aY⟩:Ent)],e.Ok:=oA (oA hok ⟨fx,λ_=>.inl rfl⟩) ⟨ff,λh=>by cases h⟩;have oW:(Γ++[(⟨x,.o,.val .aB⟩:Ent)]++[(⟨f,.z,.val .aY⟩:Ent)]).length=Γ.length+2:=by rw[List.length_append,List.length_append];rfl
 have QX:∃pf s3,cF (cx P sc (n+3)) (.ite (.cmp .Eq (.aj .Mod (.aj .FloorDiv (.aa 5) (.int 5000)) (.int 2)) (.int 0)) {.aK 19 (.call 34 {.aa 0,.aa 1,.aa 12,.max2 (.int 0) (.aj .Sub (.aa 4) (.int 2)),.aj .FloorDiv (.aa 5) (.int 10000)})} {.aK 19 (.call 33 {.aa 0,.aa 1,.int 1,.str "number",.aa 12,.max2 (.int 0) (.aj .Sub (.aa 4) (.int 1)),.bool false})}) (eA st lw ls d num (some (.str x)) (some (.str f)) (some gT) none none none (some (.ref lm)) .kept .o .aB fr (some (Tm.ag one)) none none) s2=
   .ok .next (eA st lw ls d num (some (.str x)) (some (.str f)) (some gT) none none none (some (.ref lm)) .kept .o .aB fr (some (Tm.ag one)) none (some (Tm.ag pf))) s3/\bt st s2 s3/\(G (d-1) (Γ++[⟨x,.o,.val .aB⟩]++[⟨f,.z,.val .aY⟩]) .o false pf .aB∨Tw G (d-2) (Γ++[⟨x,.o,.val .aB⟩]++[⟨f,.z,.val .aY⟩]) pf):=by
  have ht:bP (cx P sc (n+3)) (.cmp .Eq (.aj .Mod (.aj .FloorDiv (.aa 5) (.int 5000)) (.int 2)) (.int 0)) (eA st lw ls d num (some (.str x)) (some (.str f)) (some gT) none none none (some (.ref lm)) .kept .o .aB fr (some (Tm.ag one)) none none) s2=.ok ((num.fdiv 5000).fmod 2==0) s2:=rfl;cases hb:((num.fdiv 5000).fmod 2==0) with
  |false=>
   rw[hb] at ht;obtain⟨t,s3,e3,h1,k3⟩:=ih (d-1) (Nat.sub_le _ _) (n+3) (by exact lN 0x63341a040a1323201240241248049009049205063341a44323 [_,_] rfl hn) _ .o .aB false st lm s2 k2.state hm2 pd (by exact lN 0x281ef0440a13633080490090090490492012402402412412481681ef04436306338606238c [_,_,_] rfl cg oW) (λ_=>rfl);exact⟨t,s3,(oa ht).trans ((bk (aN (aP rfl (aP rfl (az rfl (az rfl (aP rfl (az (xm (d:=d) (c:=1) rfl (aR _)) (by rfl))))))) e3)).trans fy),k3,.inl h1⟩
  |true=>
   rw[hb] at ht;obtain⟨t,s3,e3,h1,k3⟩:=IS B hs (n:=n+2) (num:=num.fdiv 10000) (ih (d-2) (Nat.sub_le _ _)) (lN 0x62341a040a2323201240241248049009049205063341a44323 [_,_] rfl hn) k2.state hm2 pd (lN 0x281ef0440a23630613080490090090490492012402402412412481681ef04436306338606238c [_,_,_] rfl cg oW);exact⟨t,s3,(kO ht).trans ((bk (aN (aP rfl (aP rfl (aP rfl (az (xm rfl (by decide)) (az (bT (aE rfl) rfl rfl) ba))))) e3)).trans fy),k3,.inr h1⟩
 refine cU (QX) λpf s3 e3 k3 Sa=>?_;refine aV.step e3 k3 ?_;refine aV.ret (t:=.a9 x one (.un .hole (.a9 f (.un .bJ (.name x)) (.un .bJ pf)))) (s1:=s3) (bU (az rfl (aP rfl (aP rfl (az (bU (az rfl (az (bU (az rfl (aP rfl (az (bU (az rfl (az (bU (by rfl) (nb rfl)) ba)) (nb rfl)) (az (bU rfl (nb rfl)) ba)))) (nb rfl)) ba)) (nb rfl)) ba)))) (nb rfl)) (.refl k3.state) ?_;rcases Sa with q|⟨y,i,b,c,rfl,q1,q2⟩
 ·exact B.gr.kept hk1 q
 ·exact B.gr.twice hk1 q1 q2
end
section
variable{P:Prog}{sc:List Int}{G:Nat->Sc->Lv->Bool->Tm->Kd->Prop}(B:qw P G)(hs:sc.length<=63)
include B hs
theorem xO{l:Lv}{x:Str}{ko:Kd}(fx:V.dO (.str x)=true)(h:l=.o->ko=.aB):Ent.Ok ⟨x,l,.val ko⟩:=⟨fx,λq=>.inl (by(refine(h q).symm▸?_;with_reducible rfl))⟩
theorem Jz{d n st lw ls:Nat}{Γ:Sc}{fr:Bool}{l:Lv}{k ko:Kd}{num:Int}{x f:Str}{s:H}(ih:m9 G P sc d)(hn:3*d+8<=n)(hst:St st s)(hls:s[ls]?=some (.ah (Γ.map Ent.v)))(hok:∀e∈Γ,e.Ok)(cg:Γ.length+3+3*d<=1000)(fx:V.dO (.str x)=true)(hlk:l=.o->k=.aB)(hlo:l=.o->ko=.aB):
  aV (cx P sc n) (eA st lw ls d num (some (.str x)) (some (.str f)) (some (.str ko.s)) none none none none .a9 l k fr none none none) st s sk (λt=>G (d+1) Γ l fr t k):=by
 refine aV.skip (by rfl') (.refl hst) (aV.take (by rfl') (.refl hst) ?_);refine cU (ih n hn Γ l ko fr st ls s hst hls hok (lN 0xa07bc110d8cc049049205a07bc110d8c18cc [_,_] rfl cg) hlo) λt s1 e1 h1 k1=>?_;refine aV.aK (aN rfl e1) k1 ?_;have k2:bt st s1 (s1++[O.ah [Ent.v ⟨x,l,.val ko⟩]]++[.ah ((Γ++[(⟨x,l,.val ko⟩:Ent)]).map Ent.v)]):=(bt.add k1.state).more;refine cU (ih n hn _ l k fr st _ _ k2.state (bL) (oA hok (xO B hs fx hlo)) (by(refine(List.length_append).symm▸?_;refine(List.length_singleton).symm▸?_);exact lN 0xa07bc110d8c184c049049205a07bc110d8c18cc [_,_] rfl cg) hlk) λt2 s3 e3 h3 k3=>?_;refine aV.ret (bU (az rfl (aP rfl (aP rfl (az (aN (aP rfl (aP rfl (aP rfl (aP rfl (az (q8 rfl (k1.get (lg hst hls) hls) (bU (aP rfl (aP rfl (az (bU rfl (nb rfl)) ba))) (nb rfl)) (lN 0x807687e0c049049205a07bc110d8c18cc [_,_] rfl cg)) rfl))))) e3) ba)))) (nb rfl)) (k2.trans k3) (B.gr.a9 h1 h3)
theorem Ig{d n st lw ls:Nat}{Γ:Sc}{fr:Bool}{l:Lv}{k:Kd}{num:Int}{gT:V}{x f:Str}{s:H}(ih:m9 G P sc d)(hn:3*d+8<=n)(hst:St st s)(hls:s[ls]?=some (.ah (Γ.map Ent.v)))(hok:∀e∈Γ,e.Ok)(cg:Γ.length+3+3*d<=1000)(fx:V.dO (.str x)=true)(hlk:l=.o->k=.aB):
  aV (cx P sc n) (eA st lw ls d num (some (.str x)) (some (.str f)) (some gT) none none none none .bu l k fr none none none) st s sk (λt=>G (d+1) Γ l fr t k):=by
 have hne:=lg hst hls;refine aV.skip (by rfl') (.refl hst) (aV.skip (by rfl') (.refl hst) (aV.take (by rfl') (.refl hst) ?_));refine aM (Et (C:=cx P sc n) (L:=eA st lw ls d num (some (.str x)) (some (.str f)) (some gT) none none none none .bu l k fr none none none) (s:=s) (is:=[0,1,2,3,2,3,1,9]) (m:=8) (q:=.aj .FloorDiv (.aa 5) (.int 18)) (num:=num.fdiv 18) (es:=.cons (.int 0) {.int 1,.int 2,.int 3,.int 2,.int 3,.int 1,.int 9}) rfl (by decide) rfl (by decide) rfl) λj QY hj=>?_;have hj0:∀i∈([0,1,2,3,2,3,1,9]:List Int),0<=i/\i<=9:=by decide
 refine aV.aK hj (bt.add hst) ?_;have k0:bt st s (s++[.ah ([0,1,2,3,2,3,1,9].map .int)]):=bt.add hst;generalize s++[.ah ([0,1,2,3,2,3,1,9].map .int)]=s0 at k0;have nC:=k0.get hne hls;have PA:∃j':Int,(0<=j'/\j'<=9)/\cF (cx P sc n) (.ite (.cmp .Gt (.aa 4) (.int 1)) {.aK 18 (.aj .Mod (.aa 18) (.int 4))} .nil) (eA st lw ls d num (some (.str x)) (some (.str f)) (some gT) none none none none .bu l k fr none (some (.int j)) none) s0=
   .ok .next (eA st lw ls d num (some (.str x)) (some (.str f)) (some gT) none none none none .bu l k fr none (some (.int j')) none) s0:=by
  have ht:bP (cx P sc n) (.cmp .Gt (.aa 4) (.int 1)) (eA st lw ls d num (some (.str x)) (some (.str f)) (some gT) none none none none .bu l k fr none (some (.int j)) none) s0=.ok (decide ((1:Int)<d)) s0:=rfl;cases hb:decide ((1:Int)<d) with
  |false=>(replace ht:=hb▸ht);exact⟨j,(hj0 j QY),(oa ht).trans fy⟩
  |true=>(replace ht:=hb▸ht);exact⟨j.fmod 4,(by have:=jB (P:=P) B.toBase (a:=j) (b:=4) (by decide);exact⟨lI 0x320049049205320 [_] rfl this.1,lI 0xa4c04904920590184c [_] rfl this.2⟩),(kO ht).trans ((bk (v:=.int (j.fmod 4)) rfl).trans fy)⟩
 refine aM (PA) λj' Sb hj'=>?_;refine aV.step hj' (.refl k0.state) ?_;refine cU (ih n hn Γ l k fr st ls s0 k0.state nC hok (lN 0xa07bc110d8cc049049205a07bc110d8c18cc [_,_] rfl cg) hlk) λt s1 e1 h1 k1=>?_;refine aV.aK (aN rfl e1) k1 ?_;have k2:bt st s1 (s1++[O.ah [Ent.v ⟨x,l,.val k⟩]]++[.ah ((Γ++[(⟨x,l,.val k⟩:Ent)]).map Ent.v)]):=(bt.add k1.state).more;refine aV.aK (q8 rfl (k1.get hne nC) (bU (aP rfl (aP rfl (az (bU rfl (nb rfl)) ba))) (nb rfl)) (lN 0x807687e0c049049205a07bc110d8c18cc [_,_] rfl cg)) k2 ?_;refine cU (ih n hn _ l k fr st _ _ k2.state (bL) (oA hok (xO B hs fx hlk)) (by(refine(List.length_append).symm▸?_;refine(List.length_singleton).symm▸?_);exact lN 0xa07bc110d8c184c049049205a07bc110d8c18cc [_,_] rfl cg) hlk) λt2 s3 e3 h3 k3=>?_;refine aV.ret (bU (az rfl (aP rfl (aP rfl (aP rfl (az (aN rfl e3) ba))))) (nb rfl)) k3 (B.gr.bu Sb h1 h3)
theorem Bp{d n st lw ls:Nat}{Γ:Sc}{fr:Bool}{w:Wd}{l:Lv}{k ko:Kd}{num:Int}{x f:Str}{s:H}(hw:w=.use∨w=.def_)(ih:m9 G P sc d)(hn:3*d+8<=n+1)(hst:St st s)(hls:s[ls]?=some (.ah (Γ.map Ent.v)))(hok:∀e∈Γ,e.Ok)(cg:Γ.length+3+3*d<=1000)(fx:V.dO (.str x)=true)(ff:V.dO (.str f)=true)(hlk:l=.o->k=.aB)(hlo:l=.o->ko=.aB):
  aV (cx P sc (n+1)) (eA st lw ls d num (some (.str x)) (some (.str f)) (some (.str ko.s)) none none none none w l k fr none none none) st s sk (λt=>G (d+1) Γ l fr t k):=by
 have hne:=lg hst hls
 let Cc:=cx P sc (n+1)
 let Sd:Tm->Prop:=λt=>G (d+1) Γ l fr t k
 suffices h:aV Cc (eA st lw ls d num (some (.str x)) (some (.str f)) (some (.str ko.s)) none none none none w l k fr none none none) st s QW Sd by
  rcases hw with rfl|rfl<;>exact aV.skip (s1:=s) (by rfl') (.refl hst) (aV.skip (s1:=s) (by rfl') (.refl hst) (aV.skip (s1:=s) (by rfl') (.refl hst) h))
 refine aM (tx (sc:=sc) B.vP (n:=n) (l:=l) (ks:=[.fn .aB k,.fn .aY k]) hok (by exact lN 0x807687e0c049049205a07bc110d8c18cc [_,_] rfl cg) (old (τ:=[.ah [(Mn.fn .aB k).ks,(Mn.fn .aY k).ks]]) hls) bL) λpg b1 b2=>?_;refine aV.aK (aN (aP rfl (aP rfl (az (dG (vs:=[(Mn.fn .aB k).ks,(Mn.fn .aY k).ks]) (az (bU (by rfl) (nb rfl)) (az (bU (by rfl) (nb rfl)) ba)) (nb rfl)) ba))) b1) ((bt.add hst).more) ?_;have k0:bt st s (s++[O.ah [(Mn.fn .aB k).ks,(Mn.fn .aY k).ks]]++pg):=(bt.add hst).more;have hA:(s++[O.ah [(Mn.fn .aB k).ks,(Mn.fn .aY k).ks]]).length≠st:=Nat.ne_of_gt (bt.add hst).state.lt;generalize (s++[O.ah [(Mn.fn .aB k).ks,(Mn.fn .aY k).ks]]).length=A at b2 hA;generalize s++[O.ah [(Mn.fn .aB k).ks,(Mn.fn .aY k).ks]]++pg=s0 at b2 k0;have nC:=k0.get hne hls;show aV Cc (eA st lw ls d num (some (.str x)) (some (.str f)) (some (.str ko.s)) (some (.ref A)) none none none w l k fr none none none) st s0 _ _;refine aV.ite (Q:=w=.use/\fJ l [.fn .aB k,.fn .aY k] Γ≠[]) ?_ (λs1 k1 hQ=>?_) (λs1 k1=>?_)
 ·refine cU (dE.aS (C:=Cc) (L:=eA st lw ls d num (some (.str x)) (some (.str f)) (some (.str ko.s)) (some (.ref A)) none none none w l k fr none none none) (a:=.cmp .Eq (.aa 13) (.str "use")) (b:=.cmp .NotEq (.aa 9) (.ah .nil)) (dE.pure (b:=(w.s==("use":Str))) k0.state rfl) (λs1 q1=>dE.full q1.state (λe he=>hok e (j4 _ _ _ _ he).2.2.1) rfl (q1.get hA b2))) λb s' e kp q=>?_;refine⟨b,s',e,kp,λh=>⟨?_,(q h).2⟩⟩;rcases hw with rfl|rfl
  ·rfl
  ·exact absurd (q h).1 (by decide+kernel)
 ·refine aZ (hQ) λcu hF=>?_;clear hQ hw;subst cu;obtain⟨e,he,hp⟩:=Es (C:=Cc) (L:=eA st lw ls d num (some (.str x)) (some (.str f)) (some (.str ko.s)) (some (.ref A)) none none none .use l k fr none none none) (i:=9) (q:=.aj .FloorDiv (.aa 5) (.int 18)) hF (bR (q7 l [.fn .aB k,.fn .aY k] Γ) (show Γ.length<=100000 by exact lN 0x807687e0c049049205a07bc110d8c18cc [_,_] rfl cg)) rfl (k1.get hA b2) rfl;refine jd (j4 _ _ _ _ he) λh1 h2 hmem h3=>?_;obtain⟨ka,hka⟩:=Px h3;obtain⟨ex,el,em⟩:=e;have h2:el=l:=h2;subst h2 (hka);have hao:el=.o->ka=.aB:=λq=>by
   rcases (hok _ hmem).2 q with r|r
   ·cases r
   ·cases r;rfl
  refine aV.aK hp (.refl k1.state) ?_;refine cU (ih (n+1) hn Γ el ka fr st ls s1 k1.state (k1.get hne nC) hok (by exact lN 0xa07bc110d8cc049049205a07bc110d8c18cc [_,_] rfl cg) hao) λt s2 e2 h4 k2=>?_;refine aV.ret (bU (az rfl (az rfl (az (aN (aP rfl (aP rfl (aP rfl (az rfl rfl)))) e2) ba))) (nb rfl)) k2 (B.gr.use h1 h4)
 ·have vj:=k1.get hne nC;refine aM (CC (C:=Cc) (L:=eA st lw ls d num (some (.str x)) (some (.str f)) (some (.str ko.s)) (some (.ref A)) none none none w l k fr none none none) (s:=s1) (l:=l) (i:=14) (q:=.aj .FloorDiv (.aa 5) (.int 18)) (num:=num.fdiv 18) rfl rfl) λkw hkw sK=>?_;refine aV.aK hkw (bt.add k1.state) ?_;have k2:bt st s1 (s1++[.ah [.str Kd.aB.s,.str Kd.aY.s]]):=bt.add k1.state;generalize s1++[.ah [.str Kd.aB.s,.str Kd.aY.s]]=s2 at k2;have sm:=k2.get hne vj;have Sf:=bL (σ:=s2++[O.ah [Ent.v ⟨x,l,.val ko⟩]]) (o:=.ah ((Γ++[(⟨x,l,.val ko⟩:Ent)]).map Ent.v));have k3:bt st s2 (s2++[O.ah [Ent.v ⟨x,l,.val ko⟩]]++[.ah ((Γ++[(⟨x,l,.val ko⟩:Ent)]).map Ent.v)]):=(bt.add k2.state).more;refine cU (ih (n+1) hn _ l kw false st _ _ k3.state Sf (oA hok (xO B hs fx hlo)) (by(refine(List.length_append).symm▸?_;refine(List.length_singleton).symm▸?_);exact lN 0xa07bc110d8c184c049049205a07bc110d8c18cc [_,_] rfl cg) sK) λt s4 e4 h4 k4=>?_;refine aV.aK (aN (aP rfl (aP rfl (aP rfl (aP rfl (az (q8 rfl sm (bU (aP rfl (aP rfl (az (bU rfl (nb rfl)) ba))) (nb rfl)) (lN 0x807687e0c049049205a07bc110d8c18cc [_,_] rfl cg)) rfl))))) e4) (k3.trans k4) ?_;have k5:bt st s4 (s4++[O.ah [Ent.v ⟨f,l,.fn ko kw⟩]]++[.ah ((Γ++[(⟨f,l,.fn ko kw⟩:Ent)]).map Ent.v)]):=(bt.add k4.state).more;refine aV.aK (q8 rfl ((k3.trans k4).get hne sm) (bU (aP rfl (aP rfl (az (bU rfl (nb rfl)) ba))) (nb rfl)) (lN 0x807687e0c049049205a07bc110d8c18cc [_,_] rfl cg)) k5 ?_;refine cU (ih (n+1) hn _ l k fr st _ _ k5.state (bL) (oA hok ⟨ff,λq=>.inr (by(refine(hlo q).symm▸?_;refine(sK q).symm▸?_;with_reducible rfl))⟩) (by(refine(List.length_append).symm▸?_;refine(List.length_singleton).symm▸?_);exact lN 0xa07bc110d8c184c049049205a07bc110d8c18cc [_,_] rfl cg) hlk) λt2 s6 e6 h6 k6=>?_;refine aV.ret (bU (az rfl (aP rfl (aP rfl (aP rfl (aP rfl (az (aN rfl e6) ba)))))) (nb rfl)) k6 (B.gr.def_ (λq=>⟨hlo q,sK q⟩) h4 h6)
end
section
variable{P:Prog}{sc:List Int}{G:Nat->Sc->Lv->Bool->Tm->Kd->Prop}(B:qw P G)(hs:sc.length<=63)
include B hs
theorem IU(hw:w=.a9∨w=.bu∨w=.def_∨w=.use∨(w=.kept/\l=.o/\k=.aB))(ih:∀d'≤d,m9 G P sc d')(hn:3*d+9<=n)(hst:St st s)(sK:s[lw]?=some (.ah [wv w,.int l.i,.str k.s,.bool fr]))(hls:s[ls]?=some (.ah (Γ.map Ent.v)))(hok:∀e∈Γ,e.Ok)(cg:Γ.length+3+3*d<=1000)(hlk:l=.o->k=.aB):
  ∃t af,av P sc (n+1) 35 [.cy,.ref st,.ref lw,.ref ls,.int d,.int num] s=.ok t.ag af/\G (d+1) Γ l fr t k/\bt st s af:=by
 obtain⟨m,rfl⟩:∃m,n=m+3:=⟨n-3,by exact cK (lN 0x18c28cc308049201241248 [_] rfl) (lN 0x3018c28cc201248049009049205301a44363 [_,_] rfl hn)⟩;rw[cp B.GA rfl]
 suffices h:aV (cx P sc (m+3)) [some .cy,some (.ref st),some (.ref lw),some (.ref ls),some (.int d),some (.int num),none,none,none,none,none,none,none,none,none,none,none,none,none,none] st s sT.body (λt=>G (d+1) Γ l fr t k) by
  refine fG (h) λt s' L' e kp h1=>?_;exact⟨t,s',(congrArg bW e).trans rfl,h1,kp⟩
 refine aV.step (L1:=eA st lw ls d num none none none none none none none w l k fr none none none) (Mu (aE rfl) sK rfl) (.refl hst) ?_;obtain⟨x,bZ,e1,fx⟩:=xn B hs (n:=m) (L:=eA st lw ls d num none none none none none none none w l k fr none none none) (s:=s) (q:=.aa 5) (num:=num) rfl rfl rfl rfl rfl (λ_=>aE rfl);refine aV.aK e1 (bt.add hst) ?_;have k1:bt st s (s++bZ):=bt.add hst;generalize s++bZ=s1 at k1;obtain⟨f,dp,e2,ff⟩:=xn B hs (n:=m) (L:=eA st lw ls d num (some (.str x)) none none none none none none w l k fr none none none) (s:=s1) (q:=.aj .FloorDiv (.aa 5) (.int 4)) (num:=num.fdiv 4) rfl rfl rfl rfl rfl (λ_=>rfl);refine aV.aK e2 (bt.add k1.state) ?_;have k2:bt st s1 (s1++dp):=bt.add k1.state;generalize s1++dp=s2 at k2;refine aM (CC (C:=cx P sc (m+3)) (L:=eA st lw ls d num (some (.str x)) (some (.str f)) none none none none none w l k fr none none none) (s:=s2) (l:=l) (i:=14) (q:=.aj .FloorDiv (.aa 5) (.int 16)) (num:=num.fdiv 16) rfl rfl) λko hko hlo=>?_;refine aV.aK hko (bt.add k2.state) ?_;have k3:bt st s2 (s2++[.ah [.str Kd.aB.s,.str Kd.aY.s]]):=bt.add k2.state;generalize s2++[.ah [.str Kd.aB.s,.str Kd.aY.s]]=s3 at k3;have so:=((k1.trans k2).trans k3).get (lg hst hls) hls;refine aV.aK rfl (.refl k3.state) ?_;rcases hw with rfl|rfl|rfl|rfl|⟨rfl,rfl,rfl⟩
 ·exact Jz B hs (ih d (aR _)) (lN 0x63341a04323049049205063341a44323 [_,_] rfl hn) k3.state so hok cg fx hlk hlo
 ·exact Ig B hs (ih d (aR _)) (lN 0x63341a04323049049205063341a44323 [_,_] rfl hn) k3.state so hok cg fx hlk
 ·exact Bp B hs (.inr rfl) (ih d (aR _)) (lN 0x61062341a04323049049205063341a44323 [_,_] rfl hn) k3.state so hok cg fx ff hlk hlo
 ·exact Bp B hs (.inl rfl) (ih d (aR _)) (lN 0x61062341a04323049049205063341a44323 [_,_] rfl hn) k3.state so hok cg fx ff hlk hlo
 ·exact Jy B hs ih (lN 0x63341a44323049049205063341a44323 [_,_] rfl hn) k3.state so hok cg fx ff
def qx(st ls:Nat)(l:Lv)(k:Kd)(d:Nat)(fr:Bool)(num:Int)(ws:Option V)(w:Option V)(one gT:Option V):aQ:=
 [some .cy,some (.ref st),some (.int l.i),some (.str k.s),some (.ref ls),some (.int d),some (.bool fr),some (.int num),ws,w,one,gT]
def FD:SL:=match th.body with
|.cons _ (.cons _ (.cons _ (.cons _ (.cons _ (.cons _ r)))))=>r
|_=>.nil
theorem kh(hv:cq L i=some (.int ((d+1:Nat):Int))):ak C (.aj .Sub (.aa i) (.int 1)) L s=.ok (.int (d:Int)) s:=by
 refine bT (aE hv) rfl ?_;exact congrArg (λi=>Res.ok (V.int i) s) (Int.add_sub_cancel (d:Int) 1)
theorem IV(hw:w.fits l k fr)(ih:∀d'≤d,m9 G P sc d')(hn:3*d+10<=n)(hst:St st s)(hls:s[ls]?=some (.ah (Γ.map Ent.v)))(hok:∀e∈Γ,e.Ok)(cg:Γ.length+3+3*d<=1000)(hlk:l=.o->k=.aB):
  aV (cx P sc n) (qx st ls l k (d+1) fr num ws (some (wv w)) none none) st s FD (λt=>G (d+1) Γ l fr t k):=by
 have hne:=lg hst hls;have T:=ih d (aR _);have bd:(w=.a9∨w=.bu∨w=.def_∨w=.use∨(w=.kept/\l=.o/\k=.aB))->bP (cx P sc n) (.cmp .In (.aa 9) (.ax {.str "let",.str "turns",.str "def",.str "use",.str "kept"})) (qx st ls l k (d+1) fr num ws (some (wv w)) none none) s=.ok true s->
   aV (cx P sc n) (qx st ls l k (d+1) fr num ws (some (wv w)) none none) st s FD (λt=>G (d+1) Γ l fr t k):=λh1 h2=>by
  obtain⟨m,rfl⟩:∃m,n=m+1:=⟨n-1,by exact cK (lN 0x184284c308049201241248 [_] rfl) (lN 0x30184284c201248049009049205301a84363 [_,_] rfl hn)⟩;refine aV.take h2 (.refl hst) ?_;refine cU (IU B hs (n:=m) (lw:=s.length) (num:=num) h1 ih (by exact lN 0x341a44323049049205061341a84323 [_,_] rfl hn) (bt.add (τ:=[.ah [wv w,.int l.i,.str k.s,.bool fr]]) hst).state bL (old hls) hok cg hlk) λt s2 e2 h3 k2=>?_;exact aV.ret (aN (aP rfl (aP rfl (az (dG (by rfl) (nb rfl)) (aP rfl (az (kh B hs rfl) (by rfl)))))) e2) ((bt.add hst).trans k2) h3
 cases w with
|a9=>exact bd (.inl rfl) (by rfl')
|bu=>exact bd (.inr (.inl rfl)) (by rfl')
|def_=>exact bd (.inr (.inr (.inl rfl))) (by rfl')
|use=>exact bd (.inr (.inr (.inr (.inl rfl)))) (by rfl')
|kept=>exact bd (.inr (.inr (.inr (.inr ⟨rfl,hw.1,hw.2⟩)))) (by rfl')
|bJ=>
  obtain rfl:k=.aY:=hw;obtain rfl:=zD hlk;refine aV.skip (s1:=s) (by rfl') (.refl hst) (aV.take (s1:=s) (by rfl') (.refl hst) ?_);refine cU (T n (by exact lN 0x341a04323049049205341a84323 [_,_] rfl hn) Γ .o .aB false st ls s hst hls hok (by exact lN 0xa07bc110d8cc049049205a07bc110d8c18cc [_,_] rfl cg) (λ_=>rfl)) λt s1 e1 h1 k1=>?_;exact aV.ret (t:=.un .bJ t) (bU (az rfl (az (aN (aP rfl (aP rfl (az rfl (az rfl (aP rfl (az (kh B hs rfl) (by rfl))))))) e1) ba)) (nb rfl)) k1 (B.gr.bJ h1)
|hole=>
  obtain⟨rfl,rfl⟩:=hw;refine aV.skip (s1:=s) (by rfl') (.refl hst) (aV.skip (s1:=s) (by rfl') (.refl hst) (aV.take (s1:=s) (by rfl') (.refl hst) ?_));refine cU (T n (lN 0x341a04323049049205341a84323 [_,_] rfl hn) Γ .z .aY false st ls s hst hls hok (lN 0xa07bc110d8cc049049205a07bc110d8c18cc [_,_] rfl cg) (λh=>by cases h)) λt s1 e1 h1 k1=>?_;exact aV.ret (bU (az rfl (az (aN (aP rfl (aP rfl (az rfl (az rfl (aP rfl (az (kh B hs rfl) rfl)))))) e1) ba)) (nb rfl)) k1 (B.gr.hole h1)
|lift=>
  obtain rfl:k=.aY:=hw;obtain rfl:=zD hlk;refine aV.skip (by rfl') (.refl hst) (aV.skip (by rfl') (.refl hst) (aV.skip (by rfl') (.refl hst) (aV.take (by rfl') (.refl hst) ?_)));refine cU (T n (lN 0x341a04323049049205341a84323 [_,_] rfl hn) Γ .z .aB fr st ls s hst hls hok (lN 0xa07bc110d8cc049049205a07bc110d8c18cc [_,_] rfl cg) (λ_=>rfl)) λt s1 e1 h1 k1=>?_;exact aV.ret (bU (az rfl (az (aN (aP rfl (aP rfl (az rfl (az rfl (aP rfl (az (kh B hs rfl) rfl)))))) e1) ba)) (nb rfl)) k1 (B.gr.lift h1)
|run=>
  obtain⟨rfl,rfl,rfl⟩:=hw;refine aV.skip (by rfl') (.refl hst) (aV.skip (by rfl') (.refl hst) (aV.skip (by rfl') (.refl hst) (aV.skip (by rfl') (.refl hst) (aV.take (by rfl') (.refl hst) ?_))));refine cU (T n (lN 0x341a04323049049205341a84323 [_,_] rfl hn) Γ .z .aY true st ls s hst hls hok (lN 0xa07bc110d8cc049049205a07bc110d8c18cc [_,_] rfl cg) (λh=>by cases h)) λt s1 e1 h1 k1=>?_;exact aV.ret (bU (az rfl (az (aN (aP rfl (aP rfl (az rfl (az rfl (aP rfl (az (kh B hs rfl) rfl)))))) e1) ba)) (nb rfl)) k1 (B.gr.run h1)
|aj u=>
  obtain rfl:k=.aB:=hw;refine cU (T n (lN 0x341a04323049049205341a84323 [_,_] rfl hn) Γ l .aB fr st ls s hst hls hok (lN 0xa07bc110d8cc049049205a07bc110d8c18cc [_,_] rfl cg) (λ_=>rfl)) λt s1 e1 h1 k1=>?_;refine cU (T n (lN 0x341a04323049049205341a84323 [_,_] rfl hn) Γ l .aB fr st ls s1 k1.state (k1.get hne hls) hok (lN 0xa07bc110d8cc049049205a07bc110d8c18cc [_,_] rfl cg) (λ_=>rfl)) λt2 s2 e2 h3 k2=>?_;refine aV.skip (by(clear bd;cases u)<;>rfl') (.refl hst) (aV.skip (by(clear bd;cases u)<;>rfl') (.refl hst) (aV.skip (by(clear bd;cases u)<;>rfl') (.refl hst) (aV.skip (by(clear bd;cases u)<;>rfl') (.refl hst) (aV.skip (by(clear bd;cases u)<;>rfl') (.refl hst) ?_))));refine aV.aK (aN (aP rfl (aP rfl (aP rfl (az rfl (aP rfl (az (kh B hs rfl) rfl)))))) e1) k1 ?_;refine aV.take (by(clear bd;cases u)<;>rfl') (.refl k1.state) ?_;exact aV.ret (bU (aP rfl (aP rfl (az (aN (aP rfl (aP rfl (aP rfl (az rfl (aP rfl (az (kh B hs rfl) rfl)))))) e2) ba))) (nb rfl)) k2 (B.gr.aj h1 h3)
|when=>
  refine bB λXx aI=>?_;refine cU (T n (lN 0x341a04323049049205341a84323 [_,_] rfl hn) Γ l .aB fr st ls s hst hls hok (lN 0xa07bc110d8cc049049205a07bc110d8c18cc [_,_] rfl cg) (λ_=>rfl)) λt s1 e1 h1 k1=>?_;refine cU (T n (lN 0x341a04323049049205341a84323 [_,_] rfl hn) Γ l k fr st ls s1 k1.state (k1.get hne hls) hok (lN 0xa07bc110d8cc049049205a07bc110d8c18cc [_,_] rfl cg) hlk) λt2 s2 e2 h3 k2=>?_;refine cU (T n (lN 0x341a04323049049205341a84323 [_,_] rfl hn) Γ l k fr st ls s2 k2.state ((k1.trans k2).get hne hls) hok (lN 0xa07bc110d8cc049049205a07bc110d8c18cc [_,_] rfl cg) hlk) λt3 s3 e3 h5 k3=>?_;refine aI ?_;refine aV.skip (by rfl') (.refl hst) (aV.skip (by rfl') (.refl hst) (aV.skip (by rfl') (.refl hst) (aV.skip (by rfl') (.refl hst) (aV.skip (by rfl') (.refl hst) ?_))));refine aV.aK (aN (aP rfl (aP rfl (aP rfl (az rfl (aP rfl (az (kh B hs rfl) rfl)))))) e1) k1 ?_;refine aV.skip (by rfl') (.refl k1.state) ?_;refine aV.aK (aN (aP rfl (aP rfl (aP rfl (aP rfl (aP rfl (az (kh B hs rfl) rfl)))))) e2) k2 ?_;exact aV.ret (bU (az rfl (aP rfl (aP rfl (az (aN (aP rfl (aP rfl (aP rfl (aP rfl (aP rfl (az (kh B hs rfl) rfl)))))) e3) ba)))) (nb rfl)) k3 (B.gr.when h1 h3 h5)
theorem JA:∀d,m9 G P sc d:=by
 intro d
 induction d using Nat.strongRecOn with
|ind d ih=>
  intro n hn Γ l k f st ls σ hst hls hok cg hlk;obtain⟨m,rfl⟩:∃m,n=m+4:=⟨n-4,by exact cK (lN 0x190290c308049201241248 [_] rfl) (lN 0x30190290c201248049009049205301a04363 [_,_] rfl hn)⟩;have hne:=lg hst hls;have hlim:(1000000:Nat)<=aO:=aR _;rw[cp B.Gy rfl]
  suffices h:aV (cx P sc (m+3)) [some .cy,some (.ref st),some (.int l.i),some (.str k.s),some (.ref ls),some (.int d),some (.bool f),none,none,none,none,none] st σ th.body (λt=>G d Γ l f t k) by
   refine fG (h) λt s' L' e kp h1=>?_;exact⟨t,s',(congrArg bW e).trans rfl,h1,kp⟩
  refine bo (hst) λkk c hk0 uy=>?_;refine aV.aK (aN (by rfl) (IQ B.toBase (n:=m) hs uy hk0)) (bt.turn uy (by exact lI 0x61320049049205320 [_] rfl hk0)) ?_;have k1:bt st σ (σ.set st (.ah [.int (kk+1),.int c])):=bt.turn uy (by exact lI 0x61320049049205320 [_] rfl hk0);have jm:=gy (o':=.ah [.int (kk+1),.int c]) uy;generalize mixed sc (kk+1)=num;generalize σ.set st (.ah [.int (kk+1),.int c])=s1 at k1 jm;refine aV.step (L1:=qx st ls l k d f num none none none none) (s1:=s1.set st (.ah [.int (kk+1),.int (c+1)])) (j8 (bT (cC (aE rfl) rfl (dF jm rfl (by decide) (by decide))) rfl rfl) (aE rfl) rfl (m5 (k:=1) jm ⟨by decide,(by decide:(1:Int)<2),nb rfl⟩)) (bt.turn jm (by exact lI 0x61320049049205320 [_] rfl hk0)) ?_;have k2:bt st s1 (s1.set st (.ah [.int (kk+1),.int (c+1)])):=bt.turn jm (by exact lI 0x61320049049205320 [_] rfl hk0);have FE:=gy (o':=.ah [.int (kk+1),.int (c+1)]) jm;generalize s1.set st (.ah [.int (kk+1),.int (c+1)])=s2 at k2 FE;have sm:=(k1.trans k2).get hne hls;have leaf:aV (cx P sc (m+3)) (qx st ls l k d f num none none none none) st s2 {.ret (.call 31 {.aa 0,.aa 1,.aa 2,.aa 3,.aa 4,.aa 7})} (λt=>G d Γ l f t k):=by
   refine cU (Jw B.toBase B.vP B.Gx B.gr (sc:=sc) (n:=m+1) (f:=f) (num:=num) k2.state sm hok (by exact lN 0x807687e0c049049205a07bc110d8cc [_,_] rfl cg) hlk) λt s3 e3 h3 k3=>?_;exact aV.ret (aN (by rfl) e3) k3 (h3 d)
  cases d with
  |zero=>exact aV.take (s1:=s2) (jj (any_cons (t:=true) (ae:=s2) (by rfl') (λq=>by exact tf q) (λ_=>⟨rfl,rfl⟩))) (.refl k2.state) leaf
  |succ d=>
   have ht:bP (cx P sc (m+3)) (.or {.cmp .Eq (.aa 5) (.int 0),.cmp .Gt (.au (.aa 1) (.int 1)) (.int 60)}) (qx st ls l k (d+1) f num none none none none) s2=.ok (decide (60<c+1)) s2:=
    jj (any_cons (t:=false) (ae:=s2) (dY (aE rfl) rfl (by
     refine pA.symm▸?_;refine BA.symm▸?_
     rfl)) (λ_=>any_cons (t':=decide (60<c+1)) (dY (cC (aE rfl) rfl (dF FE rfl (by decide) (by decide))) rfl rfl) (λq=>by(refine q.symm▸?_);exact any_nil) (λq=>⟨q,rfl⟩)) (λq=>by exact ff q))
   cases hb:decide (60<c+1) with
   |true=>(replace ht:=hb▸ht);exact aV.take ht (.refl k2.state) leaf
   |false=>
    replace ht:=hb▸ht;refine aV.skip ht (.refl k2.state) ?_;refine cU (IP (sc:=sc) B.f32 (n:=m+2) (l:=l) (k:=k) (f:=f) (σ:=s2)) λa τ w1 w0 w2=>?_;refine aV.aK (aN (by rfl) w1) (bt.add k2.state) ?_;have k3:bt st s2 (s2++τ):=bt.add k2.state;generalize s2++τ=s3 at w2 k3;have hlen:0<(fR++gz l k f).length/\(fR++gz l k f).length<=100:=by(clear w1 ht leaf;cases l)<;>cases k<;>cases f<;>exact⟨nb rfl,nb rfl⟩
    have hfit:=Jx l k f;generalize fR++gz l k f=W at w2 hlen hfit;have h0:0<=num.fmod (W.length:Int):=Int.fmod_nonneg_of_pos _ (by exact lI 0x301860049049205301860 [_] rfl (Int.ofNat_lt.mpr hlen.1));have h1:num.fmod (W.length:Int)<W.length:=Int.fmod_lt_of_pos _ (by exact lI 0x301860049049205301860 [_] rfl (Int.ofNat_lt.mpr hlen.1));obtain⟨j,hj⟩:=Int.eq_ofNat_of_zero_le h0;have hj':j<W.length:=za h1 hj;have hwl:∀L,cq L 8=some (.ref a)->ak (cx P sc (m+3)) (.len (.aa 8)) L s3=.ok (.int W.length) s3:=λL h=>by
     have:=e_len (C:=cx P sc (m+3)) (aE (σ:=s3) h) (uw w2 (by rw[List.length_map];exact lN 0xd30124124124814d007247d078c590784c [_,_] rfl hlim hlen.2));rw[List.length_map] at this;exact this
    refine aV.aK (v:=wv W[j]) (s1:=s3) (cC (aE rfl) (bT (r:=.int j) (aE rfl) (hwl _ rfl) ?_) (dF w2 (by simp[hj']) (by exact lI 0xc80124024124124814d80630d [_,_] rfl h0 hj) (by exact lI 0x1c01c01c01c01c01c01c01c01c01e40613012412412481641e134534184c [_,_] rfl (Int.ofNat_le.mpr hlen.2) (Int.ofNat_lt.mpr hj')))) (.refl k3.state) ?_
    ·exact uv (Int.ofNat_lt.mpr hlen.1) hj
    refine aV.aK (v:=.int (num.fdiv W.length)) (s1:=s3) (bT (aE rfl) (hwl _ rfl) ?_) (.refl k3.state) ?_
    ·exact NS hlen.1 (Nat.lt_of_le_of_lt hlen.2 (nb rfl))
    exact IV B hs (hfit _ (List.getElem_mem hj')) (λd' hd'=>ih d' (lN 0x6134184c04904920534c [_,_] rfl hd')) (lN 0x63341a84323049049205064341a04061323 [_,_] rfl hn) k3.state (k3.get hne sm) hok (lN 0xa07bc110d8c18cc049049205a07bc110184d8cc [_,_] rfl cg) hlk
end
theorem HK.free{Γ:Sc}{l:Lv}{f:Bool}{t:Tm}{k:Kd}(h:HK Γ l f t k):∀f',(f=true->f'=true)->HK Γ l f' t k:=by
 induction h with
|num=>exact λ_ _=>.num
|name h=>exact λ_ _=>.name h
|when _ _ _ i1 i2 i3=>exact λf' h=>.when (i1 f' h) (i2 f' h) (i3 f' h)
|use h _ i=>exact λf' q=>.use h (i f' q)
|a9 _ _ i1 i2=>exact λf' h=>.a9 (i1 f' h) (i2 f' h)
|bu hn _ _ i1 i2=>exact λf' h=>.bu hn (i1 f' h) (i2 f' h)
|def_ hk h1 _ _ i2=>exact λf' h=>.def_ hk h1 (i2 f' h)
|bJ h _=>exact λ_ _=>.bJ h
|hole h _=>exact λ_ _=>.hole h
|lift _ i=>exact λf' h=>.lift (i f' h)
|run _ i=>intro f' h;obtain rfl:=h rfl;exact .run (i true λ_=>rfl)
|aj _ _ i1 i2=>exact λf' h=>.aj (i1 f' h) (i2 f' h)
theorem mw(Γ:Sc)(e:Ent):look (Γ++[e]) e.x=some e:=by rw[iD,beq_self_eq_true];rfl
theorem ie{a b n k:Nat}(h1:a<=n)(h2:b<=n)(h:n+1<=k):1+max a b<=k:=by exact lN 0x3810cd3212012402412402412480490090490492053cc14f34538184f [_,_,_,_] rfl h1 h2 h
theorem GD{a b c n k:Nat}(h1:a<=n)(h2:b<=n)(h3:c<=n)(h:n+1<=k):1+max a (max b c)<=k:=ie h1 (Nat.max_le.mpr ⟨h2,h3⟩) h
theorem ml{a n k:Nat}(h1:a<=n)(h:n+1<=k):1+a<=k:=by exact lN 0xd04c84124124124814e30534184e [_,_,_] rfl h1 h
def GF(d:Nat)(Γ:Sc)(l:Lv)(f:Bool)(t:Tm)(k:Kd):Prop:=HK Γ l f t k/\t.depth<=6*d+2
theorem Mv{d a b:Nat}(h1:a<=6*(d-1)+2)(h2:b<=6*(d-1)+2):1+max a (1+(1+max (1+1) (1+b)))<=6*(d+1)+2:=
 ie (n:=6*d+7) (by exact lN 0x6710d98c20124124804904920506210284d98c [_,_] rfl h1) (ml (n:=6*d+5) (ie (n:=6*d+3) (dI _ _) (by exact lN 0x6310d98132120124124804904920506210284d98c [_,_] rfl h2) (Nat.le_succ _)) (Nat.le_succ _)) (aR _)
theorem KT{d a b c:Nat}(h1:a<=6*(d-1)+2)(h2:b<=6*0+2)(h3:c<=6*(d-2)+2):1+max a (1+(1+max (1+1) (1+(1+max 1 (1+max b c)))))<=6*(d+1)+2:=
 ie (n:=6*d+7) (by exact lN 0x6710d98c20124124804904920506210284d98c [_,_] rfl h1) (ml (n:=6*d+6) (ie (n:=6*d+5) (dI _ _) (ml (n:=6*d+4) (ie (n:=6*d+3) (dI _ _) (ie (n:=6*d+2) (bR ‹_› (dI _ _)) (by exact lN 0x6210d98c20124124804904920506210288d98c [_,_] rfl h3) (aR _)) (aR _)) (aR _)) (aR _)) (aR _)) (aR _)
theorem FF:Gr GF where
 num:=⟨.num,dI _ _⟩
 name h:=⟨.name h,by show 1<=_;(exact dI _ _)⟩
 kz h:=⟨.hole (.name h),dI _ _⟩
 kW h:=⟨.bJ (.name h),dI _ _⟩
 kX:=⟨.bJ .num,dI _ _⟩
 lb:=⟨.lift .num,dI _ _⟩
 when h1 h2 h3:=⟨.when h1.1 h2.1 h3.1,GD h1.2 h2.2 h3.2 (by exact lN 0x188406132606106210c981248 [_] rfl)⟩
 use h h1:=⟨.use h h1.1,ml h1.2 (by exact lN 0x188406132606106210c981248 [_] rfl)⟩
 a9 h1 h2:=⟨.a9 h1.1 h2.1,ie h1.2 h2.2 (by exact lN 0x188406132606106210c981248 [_] rfl)⟩
 bu h h1 h2:=⟨.bu h h1.1 h2.1,ie h1.2 h2.2 (by exact lN 0x188406132606106210c981248 [_] rfl)⟩
 def_ h h1 h2:=⟨.def_ (λq=>(h q).1) h1.1 h2.1,ie h1.2 h2.2 (by exact lN 0x188406132606106210c981248 [_] rfl)⟩
 bJ h:=⟨.bJ h.1,ml h.2 (by exact lN 0x188406132606106210c981248 [_] rfl)⟩
 hole h:=⟨.hole h.1,ml h.2 (by exact lN 0x188406132606106210c981248 [_] rfl)⟩
 lift h:=⟨.lift h.1,ml h.2 (by exact lN 0x188406132606106210c981248 [_] rfl)⟩
 run h:=⟨.run h.1,ml h.2 (by exact lN 0x188406132606106210c981248 [_] rfl)⟩
 aj h1 h2:=⟨.aj h1.1 h2.1,ie h1.2 h2.2 (by exact lN 0x188406132606106210c981248 [_] rfl)⟩
 kept {d} _ _ _ _ _ _ i1 i2:=⟨.a9 (i1.1.free _ (λh=>by exact ff h)) (.hole (.a9 (k:=.aY) (.bJ (.name (mw _ _))) (.bJ i2.1))),Mv i1.2 i2.2⟩
 twice {d} _ _ _ _ _ _ _ _ _ i1 i2 i3:=⟨.a9 (i1.1.free _ (λh=>by exact ff h)) (.hole (.a9 (k:=.aY) (.bJ (.name (mw _ _))) (.bJ (.a9 .num (.aj i2.1 i3.1))))),KT i1.2 i2.2 i3.2⟩
theorem CD{C:Ctx}{b hb:SL}{c:Nat}{L L1:aQ}{σ ae:H}{f:Fl}(h:aW C b L σ=.ok f L1 ae):cF C (.g9 b c hb) L σ=.ok f L1 ae:=by
 simp only[Bz,h]
section
variable{P:Prog}{sc:List Int}
structure Sh(P:Prog):Prop extends qw P GF,Kinds P where
 SJ:P.fns 51=some HR
 SK:P.fns 52=some KJ
variable(B:Sh P)
include B
omit B in
theorem BZ{C:Ctx}{L:aQ}{σ ae ao:H}{a b:E}(h1:ak C a L σ=.ok (.bool true) ae)(h2:ak C b L ae=.ok (.bool true) ao):ak C (.and {a,b}) L σ=.ok (.bool true) ao:=by
 rw[mD,A2,aU h1,Av,aU (show M.pure true ae=.ok true ae from rfl),if_pos rfl,A1,aU h2];rfl
end
structure nD(P:Prog):Prop where
 f0:P.fns 0=some qQ
 f1:P.fns 1=some qZ
 f2:P.fns 2=some qR
 eU:P.fns 18=some nM
 GG:P.fns 23=some AK
 vQ:P.fns 24=some Ae
 GH:P.fns 26=some zW
 zE:P.fns 27=some vY
 zF:P.fns 28=some vZ
 c2:P.consts 2=some (.int 1000003)
 c3:P.consts 3=some (.int 2000)
 c4:P.consts 4=some (.int 30)
structure Self(σ:H)(s a:Nat)(m:Int):Prop where
 i:∃c,σ[s]?=some (.inst c a)
 n:σ[a]?=some (.dq m)
theorem Self.ok(x:Self σ s a m):iq (.ref s) σ=.ok (a,m) σ:=by
 refine b6 (x.i) λc h=>?_;show M.bind (cW s) _ σ=_;refine(aU (m4 h)).symm▸?_;show M.bind (cW a) _ σ=_;refine(aU (m4 x.n)).symm▸?_
 rfl
theorem Self.add(x:Self σ s a m):Self (σ++τ) s a m:=let ⟨c,h⟩:=x.i;⟨⟨c,old h⟩,old x.n⟩
section
variable{C:Ctx}{L:aQ}{σ ae ao b9:H}{o:E}{r:V}
theorem cN(h0:ak C o L σ=.ok (.ref s) ae)(h1:Self ae s a m)(h2:cZ C es L ae=.ok vs ao)(h3:C.call f (.ref s::vs) ao=.ok r b9):ak C (.cB f o es) L σ=.ok r b9:=by
 refine wL.symm▸?_;refine(aU h0).symm▸?_;refine(aU h1.ok).symm▸?_;refine(aU h2).symm▸?_;refine h3.symm▸?_;with_reducible rfl
theorem Du(h0:ak C o L σ=.ok (.ref s) ae)(h1:Self ae s a m):ak C (.attr o "many") L σ=.ok (.int m) ae:=by
 refine JP.symm▸?_;refine(aU h0).symm▸?_;show M.bind (iq _) _ ae=_
 (refine(aU h1.ok).symm▸?_);rfl
theorem KU(h0:ak C e L σ=.ok (.int k) ae)(h1:ak C o L ae=.ok (.ref s) ae)(h2:Self ae s a m):cF C (.ji o "many" e) L σ=.ok .next L (ae.set a (.dq k)):=by
 have h3:tC (.ref s) (.int k) ae=.ok () (ae.set a (.dq k)):=by
  show M.bind (iq _) _ ae=_
  (refine(aU h2.ok).symm▸?_);rfl
 refine Lg.symm▸?_;simp only[Qh.N.bind,Qh.N.lift,h0,h1,h3,Qh.N.pure]
theorem B0(h0:ak C e L σ=.ok (.ax [x,y,z]) ae):cF C (.hY [i,j,k] e) L σ=.ok .next (b7 (b7 (b7 L i x) j y) k z) ae:=by
 refine Ca.symm▸?_;simp only[Qh.N.bind,Qh.N.lift,h0]
 rfl
end
def vn(i:Int):Str:="v"++gv i
def jn(w:U2)(i j:Int):Int:=match w with
|.sum=>(i+j).fmod 1000003|.product=>(i*j).fmod 1000003|.less=>if i<j then 1 else 0
section
variable{P:Prog}{sc:List Int}(B:nD P)
include B
theorem xP:ak (cx P sc n) (.glob 2) L σ=.ok (.int 1000003) σ:=by
 (refine om.symm▸?_);show da (P.consts 2) σ=_;(refine(B.c2).symm▸?_);rfl
theorem xo:ak (cx P sc n) (.glob 3) L σ=.ok (.int 2000) σ:=by
 (refine om.symm▸?_);show da (P.consts 3) σ=_;(refine(B.c3).symm▸?_);rfl
theorem Dw:ak (cx P sc n) (.glob 4) L σ=.ok (.int 30) σ:=by
 (refine om.symm▸?_);show da (P.consts 4) σ=_;(refine(B.c4).symm▸?_);rfl
theorem N4(h:small i=true)(σ:H):binop .Mult (.int i) (.int j) σ=.ok (.int (i*j)) σ:=by
 (refine jy.symm▸?_;refine h.symm▸?_);rfl
theorem JB(hi:small i=true)(σ:H):av P sc (n+1) 23 [.str w.str,.int i,.int j] σ=.ok (.int (jn w i j)) σ:=by
 rw[cp B.GG rfl];cases w with
|sum=>exact(congrArg bW (b8 (by rfl') (bw (bT (bT (aE rfl) (aE rfl) rfl) (xP B) rfl)))).trans rfl
|product=>exact(congrArg bW (jmp 1 (by rfl') (b8 (by rfl') (bw (bT (bT (aE rfl) (aE rfl) (N4 B hi σ)) (xP B) rfl))))).trans rfl
|less=>
  refine(congrArg bW (jmp 2 (by rfl') (bw (tX (nu (aE rfl) (aE rfl) (Er i j σ)) rfl)))).trans ?_;show Res.ok (V.int (if decide (i<j)=true then 1 else 0)) σ=Res.ok (V.int (if i<j then 1 else 0)) σ
  by_cases h:i<j<;>simp[h]
theorem IW{n:Nat}{t:Tm}(h1:t.size<=2000)(h2:t.depth<=30)(hn:t.depth<=n):∃τ,av P sc (n+2) 24 [t.ag] σ=.ok .none (σ++τ):=by
 refine b6 (wK (sc:=sc) B.f0 B.f1 n t σ hn) λbZ e1=>?_;obtain⟨dp,e2⟩:=wo (sc:=sc) B.f0 B.f2 n t (σ++bZ) hn;refine⟨bZ++dp,?_⟩;rw[cp B.vQ rfl,←List.append_assoc];have g1:dH .Gt (.int t.size) (.int 2000) (σ++bZ)=.ok false (σ++bZ):=by
  show Res.ok (decide ((2000:Int)<t.size)) _=_;rw[decide_eq_false (by exact Int.not_lt.mpr (lI 0x407fcc049049205407fcc [_] rfl (Int.ofNat_le.mpr h1)))]
 have g2:dH .Gt (.int t.depth) (.int 30) (σ++bZ++dp)=.ok false (σ++bZ++dp):=by
  show Res.ok (decide ((30:Int)<t.depth)) _=_;rw[decide_eq_false (by exact Int.not_lt.mpr (lI 0xf8c049049205f8c [_] rfl (Int.ofNat_le.mpr h2)))]
 exact(congrArg bW ((bX (jj (any_cons (dY (aN rfl e1) (xo B) g1) (λ_=>any_cons (dY (aN rfl e2) (Dw B) g2) (λ_=>any_nil) (λq=>by exact ff q)) (λq=>by exact ff q)))).trans fy)).trans rfl
def FG:SL:=match vY.body with
|.cons _ r=>r
|_=>.nil
theorem jC{n s d:Nat}{t:Tm}{w:Str}(hw:∀C x L,ak C (.au (.aa 1) (.int 0)) (x::some t.ag::L) σ=.ok (.str w) σ)(h:aW (cx P sc n) FG [some (.ref s),some t.ag,some (.ref d),some (.str w),none,none,none,none,none,none,none] σ=.ok (.ret v) L' af):av P sc (n+1) 27 [.ref s,t.ag,.ref d] σ=.ok v af:=by
 rw[cp B.zE rfl];exact(congrArg bW ((bk (hw _ _ _)).trans h)).trans rfl
theorem Eu(σ:H):av P sc (n+1) 27 [.ref s,(Tm.num i).ag,.ref d] σ=.ok (.int (i.fmod 1000003)) σ:=
 jC B (λ_ _ _=>rfl) (b8 (by rfl') (bw (bT rfl (xP B) rfl)))
theorem Dx(hd:σ[d]?=some (.aD es))(hv:de es x=some v):av P sc (n+1) 27 [.ref s,(Tm.name x).ag,.ref d] σ=.ok v σ:=
 jC B (λ_ _ _=>rfl) (jmp 1 (by rfl') (b8 (by rfl') (bw (cC (aE rfl) rfl (ja hd hv)))))
theorem Ew(S:Self σ s a m)(e1:av P sc (n+1) 27 [.ref s,x.ag,.ref d] σ=.ok (.int i) ae)(S1:Self ae s a m1)(e2:av P sc (n+1) 27 [.ref s,y.ag,.ref d] ae=.ok (.int j) ao)(hi:small i=true):
  av P sc (n+2) 27 [.ref s,(Tm.aj u x y).ag,.ref d] σ=.ok (.int (jn u i j)) ao:=by
 refine jC B (λ_ _ _=>rfl) ((bX (by cases u<;>rfl')).trans ((bX (by cases u<;>rfl')).trans (b8 (by cases u<;>rfl') ((bk (cN (aE rfl) S rfl e1)).trans (bw (aN (aP rfl (aP rfl (az (cN (aE rfl) S1 rfl e2) ba))) (JB B hi ao)))))))
theorem Dy(S:Self σ s a m)(e1:av P sc n 27 [.ref s,x.ag,.ref d] σ=.ok (.int i) ae)(S1:Self ae s a m1)(e2:av P sc n 27 [.ref s,(if i=0 then z else y).ag,.ref d] ae=.ok v ao):
  av P sc (n+1) 27 [.ref s,(Tm.when x y z).ag,.ref d] σ=.ok v ao:=by
 have ht:bP (cx P sc n) (.cmp .NotEq (.cB 27 (.aa 0) {.au (.aa 1) (.int 1),.aa 2}) (.int 0)) [some (.ref s),some (Tm.when x y z).ag,some (.ref d),some (.str "when"),none,none,none,none,none,none,none] σ=.ok (!(i==0)) ae:=
  dY (cN (aE rfl) S (by rfl) e1) rfl (by(refine mq.symm▸?_);rfl)
 refine jC B (w:="when") (L':=[some (.ref s),some (Tm.when x y z).ag,some (.ref d),some (.str "when"),none,none,none,none,none,none,none]) (λ_ _ _=>rfl) (jmp 3 (by rfl') (b8 (ae:=σ) (by rfl') ?_))
 by_cases h:i=0
 ·replace e2:=(if_pos h)▸e2;replace ht:=h▸ht;exact(bX ht).trans (bw (cN (aE rfl) S1 rfl e2))
 ·replace e2:=(if_neg h)▸e2;replace ht:=(beq_eq_false_iff_ne.mpr h)▸ht;exact b8 ht (bw (cN (aE rfl) S1 rfl e2))
theorem Ex(S:Self σ s a m)(e1:av P sc (n+1) 27 [.ref s,p.ag,.ref d] σ=.ok u ae)(S1:Self ae s a m1)(hd:ae[d]?=some (.aD es))(hl:es.length<=aO)(e2:av P sc (n+1) 27 [.ref s,q.ag,.ref ae.length] (ae++[.aD (bp es x u)])=.ok v ao):av P sc (n+2) 27 [.ref s,(Tm.a9 x p q).ag,.ref d] σ=.ok v ao:=
 jC B (λ_ _ _=>rfl) (jmp 4 (by rfl') (b8 (by rfl') ((bk (cN (aE rfl) S rfl e1)).trans (bw (cN (aE rfl) S1 (az rfl (az (aN (aP rfl (az rfl rfl)) (fw B.eU hd hl)) ba)) e2)))))
theorem Ey(S:Self σ s a m)(hd:σ[d]?=some (.aD es))(hl:es.length<=aO)(e2:av P sc (n+1) 27 [.ref s,q.ag,.ref σ.length] (σ++[.aD (bp es g (.ax [.str x,p.ag,.ref d]))])=.ok v ao):av P sc (n+2) 27 [.ref s,(Tm.def_ g x kd p q).ag,.ref d] σ=.ok v ao:=
 jC B (λ_ _ _=>rfl) (jmp 6 (by rfl') (b8 (by rfl') (bw (cN (aE rfl) S (az rfl (az (aN (aP rfl (az rfl (az (bU (az rfl (az rfl rfl)) (nb rfl)) ba))) (fw B.eU hd hl)) ba)) e2))))
theorem Ez{n s d d' a:Nat}{m m1:Int}{g x:Str}{p body:Tm}(S:Self σ s a m)(e1:av P sc (n+1) 27 [.ref s,p.ag,.ref d] σ=.ok u ae)(S1:Self ae s a m1)(hd:ae[d]?=some (.aD es))(hg:de es g=some (.ax [.str x,body.ag,.ref d']))(hd':ae[d']?=some (.aD es'))(hl:es'.length<=aO)(e2:av P sc (n+1) 27 [.ref s,body.ag,.ref ae.length] (ae++[.aD (bp es' x u)])=.ok v ao):av P sc (n+2) 27 [.ref s,(Tm.use g p).ag,.ref d] σ=.ok v ao:=
 jC B (λ_ _ _=>rfl) (jmp 7 (by rfl') (b8 (by rfl') ((bk (cN (aE rfl) S rfl e1)).trans ((dC (B0 (cC (aE rfl) rfl (ja hd hg)))).trans (bw (cN (aE rfl) S1 (aP rfl (az (aN (aP rfl (aP rfl rfl)) (fw B.eU hd' hl)) ba)) e2))))))
theorem Mw{n s d a:Nat}{m:Int}{p R:Tm}(S:Self σ s a m)(e1:av P sc (n+2) 28 [.ref s,p.ag,.ref d] σ=.ok R.ag ae)(h1:R.size<=2000)(h2:R.depth<=30)(hn:R.depth<=n):
  ∃τ,av P sc (n+3) 27 [.ref s,(Tm.un .bJ p).ag,.ref d] σ=.ok R.ag (ae++τ):=by
 refine b6 (IW (sc:=sc) B (n:=n) (σ:=ae) h1 h2 hn) λτ e2=>?_;exact⟨τ,jC B (λ_ _ _=>rfl) (jmp 8 (by rfl') (b8 (by rfl') ((bk (cN (aE rfl) S rfl e1)).trans ((dC (iC (aN rfl e2))).trans (bw (aE rfl))))))⟩
theorem PC{n s d a:Nat}{m m1:Int}{p R:Tm}(S:Self σ s a m)(e1:av P sc n 27 [.ref s,p.ag,.ref d] σ=.ok R.ag ae)(e2:av P sc n 27 [.ref s,R.ag,.ref ae.length] (ae++[.aD []])=.ok v ao):
  av P sc (n+1) 27 [.ref s,(Tm.un .run p).ag,.ref d] σ=.ok v ao:=
 jC B (λ_ _ _=>rfl) (jmp 10 (by rfl') (bw (cN (aE rfl) S (az (cN (aE rfl) S rfl e1) (az rfl ba)) e2)))
end
theorem tM{k:Int}{j:Nat}(h:j<k.toNat):(dM k)[j]?=some (.int j):=by
 unfold dM;rw[List.getElem?_map,List.getElem?_range h];rfl
theorem Bq{k:Int}:(dM k)[k.toNat]?=none:=by
 unfold dM;rw[List.getElem?_eq_none];simp
theorem uz{C:Ctx}{L:aQ}{σ ae ao:H}{a:E}{x r:V}(h1:ak C a L σ=.ok x ae)(h2:jF x ae=.ok r ao):ak C (.tuple a) L σ=.ok r ao:=by rw[JR,aU h1,h2]
section
variable{P:Prog}{sc:List Int}(B:nD P)
include B
def EA:SL:=.cons (.aK 5 (.cB 27 (.aa 0) {.au (.aa 1) (.int 4),.call 18 {.aa 2,.au (.aa 1) (.int 2),.aa 5}})) .nil
theorem JC{n s d a:Nat}{k:Int}{x:Str}{p q:Tm}(I:Nat->V->H->Prop)(hI:∀j v af,j<k.toNat->I j v af->(∃m',Self af s a m')/\∃es,af[d]?=some (.aD es)/\es.length<=aO/\∃v' cO,av P sc (n+1) 27 [.ref s,q.ag,.ref af.length] (af++[.aD (bp es x v)])=.ok v' cO/\I (j+1) v' cO):
  ∀(r j:Nat)(v:V)(y:Option V)(σ:H),j+r=k.toNat->I j v σ->∃v' y' af,dP (λk'=>M.pure ((dM k)[k']?.map λv=>[(6,v)])) (aW (cx P sc (n+1)) EA) (r+1) j [some (.ref s),some (Tm.bu k x p q).ag,some (.ref d),some (.str "turns"),none,some v,y,none,none,none,none] σ=
   .ok .next [some (.ref s),some (Tm.bu k x p q).ag,some (.ref d),some (.str "turns"),none,some v',y',none,none,none,none] af/\I k.toNat v' af:=by
 intro r
 induction r with
|zero=>
  intro j v y σ hj h;have:j=k.toNat:=by assumption
  clear hj;subst this;exact⟨v,y,σ,tK (by rw[Bq];rfl),h⟩
|succ r ih=>
  intro j v y σ hj h;refine bB λXx aI=>?_;obtain⟨⟨m',S⟩,es,hd,hl,v',cO,e,h'⟩:=hI j v σ (lN 0x34184c04900904920634106138c [_,_,_] rfl hj) h;refine gg (ih (j+1) v' (some (.int j)) cO (cK (lN 0x38134184c04900904920638106134c [_,_,_] rfl hj) (lN 0x4e06134c04904920630106138d [_,_,_] rfl hj)) h') λv2 y2 ao e2 h2=>?_;refine aI ?_;refine⟨v2,y2,ao,?_,h2⟩;refine(q5 (ps:=[(6,.int j)]) (ae:=σ) (by rw[tM (by exact lN 0x34184c04900904920634106138c [_,_,_] rfl hj)];rfl) rfl ((bk (cN (aE rfl) S (az rfl (az (aN (aP rfl (az (x:=.str x) rfl (by rfl))) (fw B.eU hd hl)) ba)) e)).trans fy)).trans e2
theorem CF{n s d a:Nat}{m:Int}{k:Int}{x:Str}{p q:Tm}{u:V}{σ ae:H}(S:Self σ s a m)(hk:0<=k/\k<=1000000)(e1:av P sc (n+1) 27 [.ref s,p.ag,.ref d] σ=.ok u ae)(I:Nat->V->H->Prop)(h0:I 0 u ae)(hI:∀j v af,j<k.toNat->I j v af->(∃m',Self af s a m')/\∃es,af[d]?=some (.aD es)/\es.length<=aO/\∃v' cO,av P sc (n+1) 27 [.ref s,q.ag,.ref af.length] (af++[.aD (bp es x v)])=.ok v' cO/\I (j+1) v' cO):
  ∃v ao,av P sc (n+2) 27 [.ref s,(Tm.bu k x p q).ag,.ref d] σ=.ok v ao/\I k.toNat v ao:=by
 refine gg (JC (sc:=sc) B (n:=n) (k:=k) (x:=x) (p:=p) (q:=q) I hI k.toNat 0 u none ae (by exact cK (lN 825917182536 [_] rfl) (lN 82144399944 [_] rfl)) h0) λv y ao e2 h2=>?_;exact⟨v,ao,jC B (λ_ _ _=>rfl) (jmp 5 (by rfl') (b8 (by rfl') ((bk (cN (aE rfl) S rfl e1)).trans ((dC (w5 rfl hk e2)).trans (bw (aE rfl)))))),h2⟩
def vk:SL:=match vZ.body with
|.cons _ r=>r
|_=>.nil
theorem kS{n s d:Nat}{t:Tm}{w:Str}{σ af:H}{v:V}{L':aQ}(hw:∀C x L,ak C (.au (.aa 1) (.int 0)) (x::some t.ag::L) σ=.ok (.str w) σ)(h:aW (cx P sc n) vk [some (.ref s),some t.ag,some (.ref d),some (.str w),none,none,none,none] σ=.ok (.ret v) L' af):av P sc (n+1) 28 [.ref s,t.ag,.ref d] σ=.ok v af:=by
 rw[cp B.zF rfl];exact(congrArg bW ((bk (hw _ _ _)).trans h)).trans rfl
theorem PE{n s d:Nat}{i:Int}(σ:H):av P sc (n+1) 28 [.ref s,(Tm.num i).ag,.ref d] σ=.ok (Tm.num i).ag σ:=
 kS B (λ_ _ _=>rfl) (b8 (by rfl') (bw (aE rfl)))
theorem N5{n s d:Nat}{es:List (Str×V)}{x y:Str}{σ:H}(hd:σ[d]?=some (.aD es))(hv:de es x=some (.str y)):av P sc (n+1) 28 [.ref s,(Tm.name x).ag,.ref d] σ=.ok (Tm.name y).ag σ:=
 kS B (λ_ _ _=>rfl) (jmp 1 (by rfl') (b8 (by rfl') (bw (bU (az rfl (az (cC (aE rfl) rfl (ja hd hv)) ba)) (nb rfl)))))
theorem N6{n s d a:Nat}{m:Int}{p:Tm}{v:V}{σ ae:H}(S:Self σ s a m)(e1:av P sc n 27 [.ref s,p.ag,.ref d] σ=.ok v ae):av P sc (n+1) 28 [.ref s,(Tm.un .hole p).ag,.ref d] σ=.ok v ae:=
 kS B (λ_ _ _=>rfl) (jmp 2 (by rfl') (b8 (by rfl') (bw (cN (aE rfl) S rfl e1))))
theorem PF{n s d a:Nat}{m:Int}{es:List (Str×V)}{g y:Str}{p R:Tm}{σ ae:H}(S:Self σ s a m)(hd:σ[d]?=some (.aD es))(hv:de es g=some (.str y))(e1:av P sc n 28 [.ref s,p.ag,.ref d] σ=.ok R.ag ae):av P sc (n+1) 28 [.ref s,(Tm.use g p).ag,.ref d] σ=.ok (Tm.use y R).ag ae:=
 kS B (λ_ _ _=>rfl) (jmp 3 (by rfl') (b8 (by rfl') (bw (bU (az rfl (az (cC (aE rfl) rfl (ja hd hv)) (az (cN (aE rfl) S rfl e1) ba))) (nb rfl)))))
theorem PG{n s d a:Nat}{m m1 m2:Int}{x y:Str}{p q R T:Tm}{es:List (Str×V)}{σ cj ae ao:H}(S:Self σ s a m)(e0:av P sc (n+1) 26 [.ref s] σ=.ok (.str y) cj)(S0:Self cj s a m1)(e1:av P sc (n+1) 28 [.ref s,p.ag,.ref d] cj=.ok R.ag ae)(S1:Self ae s a m2)(hd:ae[d]?=some (.aD es))(hl:es.length<=aO)(e2:av P sc (n+1) 28 [.ref s,q.ag,.ref ae.length] (ae++[.aD (bp es x (.str y))])=.ok T.ag ao):av P sc (n+2) 28 [.ref s,(Tm.a9 x p q).ag,.ref d] σ=.ok (Tm.a9 y R T).ag ao:=
 kS B (λ_ _ _=>rfl) (jmp 4 (by rfl') (b8 (by rfl') ((bk (cN (aE rfl) S ba e0)).trans ((bk (cN (aE rfl) S0 rfl e1)).trans (bw (bU (aP rfl (aP rfl (aP rfl (az (cN (aE rfl) S1 (az rfl (az (aN (aP rfl (az rfl rfl)) (fw B.eU hd hl)) ba)) e2) ba)))) (nb rfl)))))))
theorem Mx{n s d a:Nat}{m m1 m2 k:Int}{x y:Str}{p q R T:Tm}{es:List (Str×V)}{σ cj ae ao:H}(S:Self σ s a m)(e0:av P sc (n+1) 26 [.ref s] σ=.ok (.str y) cj)(S0:Self cj s a m1)(e1:av P sc (n+1) 28 [.ref s,p.ag,.ref d] cj=.ok R.ag ae)(S1:Self ae s a m2)(hd:ae[d]?=some (.aD es))(hl:es.length<=aO)(e2:av P sc (n+1) 28 [.ref s,q.ag,.ref ae.length] (ae++[.aD (bp es x (.str y))])=.ok T.ag ao):av P sc (n+2) 28 [.ref s,(Tm.bu k x p q).ag,.ref d] σ=.ok (Tm.bu k y R T).ag ao:=
 kS B (λ_ _ _=>rfl) (jmp 5 (by rfl') (b8 (by rfl') ((bk (cN (aE rfl) S ba e0)).trans ((bk (cN (aE rfl) S0 rfl e1)).trans (bw (bU (aP rfl (az rfl (aP rfl (aP rfl (az (cN (aE rfl) S1 (az rfl (az (aN (aP rfl (az rfl rfl)) (fw B.eU hd hl)) ba)) e2) ba))))) (nb rfl)))))))
theorem PH{n s d a:Nat}{m m0 m1 m2:Int}{g x y z kd:Str}{p q R T:Tm}{es es':List (Str×V)}{σ cj ae ao b9:H}(S:Self σ s a m)(e0:av P sc (n+1) 26 [.ref s] σ=.ok (.str y) cj)(S0:Self cj s a m0)(jW:av P sc (n+1) 26 [.ref s] cj=.ok (.str z) ae)(S1:Self ae s a m1)(hd:ae[d]?=some (.aD es))(hl:es.length<=aO)(e1:av P sc (n+1) 28 [.ref s,p.ag,.ref ae.length] (ae++[.aD (bp es x (.str z))])=.ok R.ag ao)(S2:Self ao s a m2)(hd':ao[d]?=some (.aD es'))(hl':es'.length<=aO)(e2:av P sc (n+1) 28 [.ref s,q.ag,.ref ao.length] (ao++[.aD (bp es' g (.str y))])=.ok T.ag b9):
  av P sc (n+2) 28 [.ref s,(Tm.def_ g x kd p q).ag,.ref d] σ=.ok (Tm.def_ y z kd R T).ag b9:=
 kS B (λ_ _ _=>rfl) (jmp 6 (by rfl') (b8 (by rfl') ((bk (cN (aE rfl) S ba e0)).trans ((bk (cN (aE rfl) S0 ba jW)).trans ((bk (cN (aE rfl) S1 (az rfl (az (aN (aP rfl (az rfl rfl)) (fw B.eU hd hl)) ba)) e1)).trans (bw (bU (aP rfl (aP rfl (aP rfl (az rfl (aP rfl (az (cN (aE rfl) S2 (az rfl (az (aN (aP rfl (az rfl rfl)) (fw B.eU hd' hl')) ba)) e2) ba)))))) (nb rfl))))))))
theorem PI{n s d a:Nat}{m m1:Int}{u:U2}{x y X Y:Tm}{σ ae ao:H}(S:Self σ s a m)(e1:av P sc n 28 [.ref s,x.ag,.ref d] σ=.ok X.ag ae)(S1:Self ae s a m1)(e2:av P sc n 28 [.ref s,y.ag,.ref d] ae=.ok Y.ag ao):
  av P sc (n+1) 28 [.ref s,(Tm.aj u x y).ag,.ref d] σ=.ok (Tm.aj u X Y).ag (ao++[.ah [X.ag,Y.ag]]):=by
 have f1:M.bind (ak (cx P sc n) (.cB 28 (.aa 0) {.aa 7,.aa 2}) (b7 (cQ [some (.ref s),some (Tm.aj u x y).ag,some (.ref d),some (.str u.str),none,none,none,none] [2,0]) 7 x.ag)) (λy=>M.pure (some y)) σ=.ok (some X.ag) ae:=by
  rw[aU (cN (aE rfl) S rfl e1)];rfl
 have f2:M.bind (ak (cx P sc n) (.cB 28 (.aa 0) {.aa 7,.aa 2}) (b7 (cQ [some (.ref s),some (Tm.aj u x y).ag,some (.ref d),some (.str u.str),none,none,none,none] [2,0]) 7 y.ag)) (λy=>M.pure (some y)) ae=.ok (some Y.ag) ao:=by
  rw[aU (cN (aE rfl) S1 rfl e2)];rfl
 have hc:dk (.fix [x.ag,y.ag]) (λit=>M.bind (ak (cx P sc n) (.cB 28 (.aa 0) {.aa 7,.aa 2}) (b7 (cQ [some (.ref s),some (Tm.aj u x y).ag,some (.ref d),some (.str u.str),none,none,none,none] [2,0]) 7 it)) λy=>M.pure (some y)) 3 0 σ=.ok [X.ag,Y.ag] ao:=
  gW (n:=2) (y:=some X.ag) (r:=[Y.ag]) (ae:=σ) rfl f1 (gW (n:=1) (y:=some Y.ag) (r:=[]) rfl f2 (kK rfl))
 have ht:jF (.ref ao.length) (ao++[.ah [X.ag,Y.ag]])=.ok (.ax [X.ag,Y.ag]) (ao++[.ah [X.ag,Y.ag]]):=by
  show M.bind (bI _) _ _=_;rw[aU (dX bL)];rfl
 have oO:aW (cx P sc n) {.ret (.aj .Add (.ax {.aa 3}) (.tuple (.comp (.cB 28 (.aa 0) {.aa 7,.aa 2}) 7 [2,0] (.slc (.aa 1) (.int 1) .none))))} [some (.ref s),some (Tm.aj u x y).ag,some (.ref d),some (.str u.str),none,none,none,none] σ=.ok (.ret (Tm.aj u X Y).ag) [some (.ref s),some (Tm.aj u x y).ag,some (.ref d),some (.str u.str),none,none,none,none] (ao++[.ah [X.ag,Y.ag]]):=
  bw (bT (bU rfl (nb rfl)) (uz (kP rfl rfl rfl (nb rfl) hc) ht) rfl)
 refine kS B (λ_ _ _=>rfl) (Eq.trans ?_ oO);(clear oO hc f2 f1;cases u)<;>exact jmp 6 (by rfl') (bX (by rfl'))
end
structure LVal(P:Prog):Prop where
 SM:P.fns 36=some HS
 SN:P.fns 37=some II
 SO:P.fns 38=some Ha
section
variable{P:Prog}{sc:List Int}(B:LVal P)
include B
omit B in
theorem CG{i j:Int}(h:small i=true)(σ:H):binop .Mult (.int i) (.int j) σ=.ok (.int (i*j)) σ:=by
 rw[jy,h];rfl
end
inductive Dv where|no|num (i:Int)|fn (F:Int->Int)
def upd(ρ:Str->Dv)(x:Str)(v:Dv):Str->Dv:=λy=>if x==y then v else ρ y
def iter(f:Int->Int):Nat->Int->Int
|0,i=>i
|n+1,i=>f (iter f n i)
def Tm.den:Tm->(Str->Dv)->Int
|.num i,_=>i.fmod 1000003
|.name x,ρ=>match ρ x with|.num i=>i|_=>0
|.un _ a,ρ=>a.den ρ
|.use g a,ρ=>match ρ g with|.fn F=>F (a.den ρ)|_=>0
|.aj w a b,ρ=>jn w (a.den ρ) (b.den ρ)
|.a9 x a b,ρ=>b.den (upd ρ x (.num (a.den ρ)))
|.bu k x a b,ρ=>iter (λi=>b.den (upd ρ x (.num i))) k.toNat (a.den ρ)
|.def_ g x _ a b,ρ=>b.den (upd ρ g (.fn λi=>a.den (upd ρ x (.num i))))
|.when a b c,ρ=>if a.den ρ=0 then c.den ρ else b.den ρ
theorem FH:(Tm.num i).den ρ=i.fmod 1000003:=rfl
theorem FJ:(Tm.name x).den ρ=match ρ x with|.num i=>i|_=>0:=rfl
theorem FK:(Tm.un u1 a).den ρ=a.den ρ:=rfl
theorem FL:(Tm.use g a).den ρ=match ρ g with|.fn F=>F (a.den ρ)|_=>0:=rfl
theorem FO:(Tm.aj w a b).den ρ=jn w (a.den ρ) (b.den ρ):=rfl
theorem FP:(Tm.a9 x a b).den ρ=b.den (upd ρ x (.num (a.den ρ))):=rfl
theorem FQ:(Tm.bu k x a b).den ρ=iter (λi=>b.den (upd ρ x (.num i))) k.toNat (a.den ρ):=rfl
theorem FR:(Tm.def_ g x u1 a b).den ρ=b.den (upd ρ g (.fn λi=>a.den (upd ρ x (.num i)))):=rfl
theorem FT:(Tm.when a b c).den ρ=if a.den ρ=0 then c.den ρ else b.den ρ:=rfl
class inductive PT:Sc->Tm->Prop
|num {Γ i}:PT Γ (.num i)
|name {Γ x l k}:look Γ x=some ⟨x,l,.val k⟩->PT Γ (.name x)
|use {Γ g a l ka k}:look Γ g=some ⟨g,l,.fn ka k⟩->PT Γ a->PT Γ (.use g a)
|aj {Γ w a b}:PT Γ a->PT Γ b->PT Γ (.aj w a b)
|when {Γ a b c}:PT Γ a->PT Γ b->PT Γ c->PT Γ (.when a b c)
|a9 {Γ x a b l k}:PT Γ a->PT (Γ++[⟨x,l,.val k⟩]) b->PT Γ (.a9 x a b)
|bu {Γ n x a b l k}:(0<=n/\n<=9)->PT Γ a->PT (Γ++[⟨x,l,.val k⟩]) b->PT Γ (.bu n x a b)
|def_ {Γ g x kd a b l k l' ka k'}:PT (Γ++[⟨x,l,.val k⟩]) a->PT (Γ++[⟨g,l',.fn ka k'⟩]) b->PT Γ (.def_ g x kd a b)
def dB(i:Int):Prop:=0<=i/\i<1000003
theorem w7(w:U2)(i j:Int):dB (jn w i j):=by
 cases w with
|sum=>exact⟨Int.fmod_nonneg_of_pos _ (by decide),Int.fmod_lt_of_pos _ (by decide)⟩
|product=>exact⟨Int.fmod_nonneg_of_pos _ (by decide),Int.fmod_lt_of_pos _ (by decide)⟩
|less=>show dB (if i<j then 1 else 0);split<;>exact⟨by decide,by decide⟩
theorem Br(h:dB i):small i=true:=by
 exact xg h.1 (Int.lt_trans h.2 (by decide))
theorem rk(hf:∀i,dB i->dB (f i)):∀(n:Nat)(i:Int),dB i->dB (iter f n i)
|0=>λ_ h=>h
|n+1=>λi h=>hf _ (rk hf n i h)
def eB(ev:Nat->Tm->Nat->H->Res V)(N:Nat)(t:Tm)(d:Nat)(σ:H)(v:V):Prop:=∀n,N<=n->∃τ,ev n t d σ=.ok v (σ++τ)
theorem eB.more{ev:Nat->Tm->Nat->H->Res V}{N N':Nat}{t:Tm}(h:eB ev N t d σ v)(hN:N<=N'):eB ev N' t d σ v:=λn hn=>h n (bR hN hn)
section
variable(ev:Nat->Tm->Nat->H->Res V)(bf:H->V->Str->Tm->Nat->Prop)(ok:H->Prop)
def N7:Prop:=∀{σ d es x v},σ[d]?=some (.aD es)->de es x=some v->eB ev 1 (.name x) d σ v
def PJ:Prop:=∀{σ d N u x y i j},ok σ->1<=N->eB ev N x d σ (.int i)->(∀τ,eB ev N y d (σ++τ) (.int j))->small i=true->eB ev (N+2) (.aj u x y) d σ (.int (jn u i j))
def N8:Prop:=∀{σ d N x y z i v},ok σ->1<=N->eB ev N x d σ (.int i)->(∀τ,eB ev N (if i=0 then z else y) d (σ++τ) v)->eB ev (N+2) (.when x y z) d σ v
def N9:Prop:=∀{σ d N x p q u v es},ok σ->1<=N->σ[d]?=some (.aD es)->es.length<=aO->eB ev N p d σ u->(∀τ,eB ev N q (σ++τ).length (σ++τ++[.aD (bp es x u)]) v)->eB ev (N+2) (.a9 x p q) d σ v
def My:Prop:=∀{σ d N k x p q es i}{f:Int->Int},ok σ->1<=N->σ[d]?=some (.aD es)->es.length<=aO->(0<=k/\k<=9)->(∀i,dB i->dB (f i))->dB i->eB ev N p d σ (.int i)->(∀τ i,dB i->eB ev N q (σ++τ).length (σ++τ++[.aD (bp es x (.int i))]) (.int (f i)))->eB ev (N+2) (.bu k x p q) d σ (.int (iter f k.toNat i))
def Oa:Prop:=∀{σ d N g x kd p q v es},ok σ->1<=N->σ[d]?=some (.aD es)->es.length<=aO->(∀τ cv,bf (σ++τ) cv x p d->eB ev N q (σ++τ).length (σ++τ++[.aD (bp es g cv)]) v)->eB ev (N+2) (.def_ g x kd p q) d σ v
def PK:Prop:=∀{σ d N g x p body d' es es' cv u v},ok σ->1<=N->σ[d]?=some (.aD es)->de es g=some cv->bf σ cv x body d'->σ[d']?=some (.aD es')->es'.length<=aO->eB ev N p d σ u->(∀τ,eB ev N body (σ++τ).length (σ++τ++[.aD (bp es' x u)]) v)->eB ev (N+2) (.use g p) d σ v
end
structure vm(ev:Nat->Tm->Nat->H->Res V)(bf:H->V->Str->Tm->Nat->Prop)(ok:H->Prop):Prop where
 add:∀{σ τ},ok σ->ok (σ++τ)
 sq:∀{σ τ v x b d},bf σ v x b d->bf (σ++τ) v x b d
 new:∀σ x b d,∃τ cv,bf (σ++τ) cv x b d
 num:∀{σ d i},eB ev 1 (.num i) d σ (.int (i.fmod 1000003))
 name:N7 ev
 aj:PJ ev ok
 when:N8 ev ok
 a9:N9 ev ok
 bu:My ev ok
 def_:Oa ev bf ok
 use:PK ev bf ok
section
variable{ev:Nat->Tm->Nat->H->Res V}{bf:H->V->Str->Tm->Nat->Prop}{ok:H->Prop}
def Dz(ev:Nat->Tm->Nat->H->Res V)(bf:H->V->Str->Tm->Nat->Prop)(R:Nat)(σ:H)(es:List (Str×V))(ρ:Str->Dv)(x:Str):Mn->Prop
|.val _=>∃i,ρ x=.num i/\de es x=some (.int i)/\dB i
|.fn _ _=>∃F cv p body d' es',ρ x=.fn F/\de es x=some cv/\bf σ cv p body d'/\σ[d']?=some (.aD es')/\es'.length<=aO/\(∀i,dB i->dB (F i))/\∀τ i,dB i->eB ev R body (σ++τ).length (σ++τ++[.aD (bp es' p (.int i))]) (.int (F i))
def Env(ev:Nat->Tm->Nat->H->Res V)(bf:H->V->Str->Tm->Nat->Prop)(R:Nat)(Γ:Sc)(σ:H)(es:List (Str×V))(ρ:Str->Dv):Prop:=∀x e,look Γ x=some e->Dz ev bf R σ es ρ x e.m
variable(K:vm ev bf ok)
include K
theorem Env.grow(h:Env ev bf R Γ σ es ρ)(hR:R<=R'):Env ev bf R' Γ (σ++τ) es ρ:=λx e he=>by
 have:=h x e he;obtain⟨ex,el,em⟩:=e;clear he;cases em with
|val k=>exact this
|fn a r=>
  refine x6 (this) λF cv p body d' es' h1 h2 h3 h4 h5 h6 h7=>?_;refine⟨F,cv,p,body,d',es',h1,h2,K.sq h3,old h4,h5,h6,λfY i hi=>?_⟩;rw[List.append_assoc];exact(h7 (τ++fY) i hi).more hR
omit K in
theorem Env.put(h:Env ev bf R Γ σ es ρ)(hv:Dz ev bf R σ (bp es e.x v) (upd ρ e.x dv) e.x e.m):Env ev bf R (Γ++[e]) σ (bp es e.x v) (upd ρ e.x dv):=λx e' he=>by
 rw[iD] at he;cases hx:(e.x==x) with
|true=>
  replace he:=(if_pos rfl)▸(hx▸he);(apply eR he)
  (refine(beq_iff_eq.mp hx)▸?_);exact hv
|false=>
  replace he:=hx▸he;have:=h x e' he;have g1:de (bp es e.x v) x=de es x:=by rw[mU,hx];rfl
  have g2:upd ρ e.x dv x=ρ x:=by unfold upd;(refine hx.symm▸?_);rfl
  obtain⟨ex,el,em⟩:=e';clear he;cases em with
  |val k=>obtain⟨i,h1,h2,h3⟩:=this;exact⟨i,g2.trans h1,g1.trans h2,h3⟩
  |fn a r=>obtain⟨F,cv,p,body,d',es',h1,h2,h3⟩:=this;exact⟨F,cv,p,body,d',es',g2.trans h1,g1.trans h2,h3⟩
omit K in
theorem Env.num(h:Env ev bf R Γ σ es ρ)(hi:dB i):Env ev bf R (Γ++[⟨x,l,.val k⟩]) σ (bp es x (.int i)) (upd ρ x (.num i)):=
 Env.put h ⟨i,by unfold upd;rw[beq_self_eq_true];rfl,by rw[mU,beq_self_eq_true];rfl,hi⟩
end
section
variable{P:Prog}{sc:List Int}
theorem fq(σ τ fY:H):σ++τ++fY=σ++(τ++fY):=List.append_assoc _ _ _
theorem JD(B:nD P){s a:Nat}{m:Int}:
  vm (λn t d σ=>av P sc n 27 [.ref s,t.ag,.ref d] σ) (λ_ v x b d=>v=.ax [.str x,b.ag,.ref d]) (λσ=>Self σ s a m) where
 add h:=h.add
 sq h:=h
 new σ x b d:=⟨[],_,rfl⟩
 num {σ d i} n hn:=by
  obtain⟨k,rfl⟩:∃k,n=k+1:=⟨n-1,by exact cK (lN 0x184284c308049201241248 [_] rfl) (lN 0x30184284c201248049009049205321 [_] rfl hn)⟩;exact⟨[],by rw[List.append_nil];exact Eu B σ⟩
 name hd hv n hn:=by
  obtain⟨k,rfl⟩:∃k,n=k+1:=⟨n-1,by exact cK (lN 0x184284c308049201241248 [_] rfl) (lN 0x30184284c201248049009049205321 [_] rfl hn)⟩;exact⟨[],by rw[List.append_nil];exact Dx B hd hv⟩
 aj S hN h1 h2 hi n hn:=by
  obtain⟨k,rfl⟩:∃k,n=k+2:=⟨n-2,by exact cK (lN 0x188288c308049201241248 [_] rfl) (lN 0x30188288c20124804900904920530188d [_,_] rfl hn)⟩;obtain⟨bZ,e1⟩:=h1 (k+1) (ct (bE ‹_›));obtain⟨dp,e2⟩:=h2 bZ (k+1) (ct (bE ‹_›));exact⟨_,by rw[←fq];exact Ew B S e1 S.add e2 hi⟩
 when S hN h1 h2 n hn:=by
  obtain⟨k,rfl⟩:∃k,n=k+1:=⟨n-1,by exact cK (lN 0x184284c308049201241248 [_] rfl) (lN 0x30184284c20124804900904920530188d [_,_] rfl hn)⟩;obtain⟨bZ,e1⟩:=h1 k (ct (bE ‹_›));obtain⟨dp,e2⟩:=h2 bZ k (ct (bE ‹_›));exact⟨_,by rw[←fq];exact Dy B S e1 S.add e2⟩
 a9 S hN hd hl h1 h2 n hn:=by
  obtain⟨k,rfl⟩:∃k,n=k+2:=⟨n-2,by exact cK (lN 0x188288c308049201241248 [_] rfl) (lN 0x30188288c20124804900904920530188d [_,_] rfl hn)⟩;obtain⟨bZ,e1⟩:=h1 (k+1) (ct (bE ‹_›));obtain⟨dp,e2⟩:=h2 bZ (k+1) (ct (bE ‹_›));exact⟨_,by rw[←fq,←fq];exact Ex B S e1 S.add (old hd) hl e2⟩
 bu {σ d N m' x p q es i f} S hN hd hl hk hf hi h1 h2 n hn:=by
  obtain⟨k,rfl⟩:∃k,n=k+2:=⟨n-2,by exact cK (lN 0x188288c308049201241248 [_] rfl) (lN 0x30188288c20124804900904920530188d [_,_] rfl hn)⟩;obtain⟨bZ,e1⟩:=h1 (k+1) (ct (bE ‹_›))
  obtain⟨v,ao,e2,dp,hv,hs⟩:=CF B S ⟨hk.1,by exact lI 0x7247d078cc049049205a4c [_] rfl hk.2⟩ e1 (λj v s'=>∃τ,v=.int (iter f j i)/\s'=σ++τ) ⟨bZ,rfl,rfl⟩ (λj v s' hj hI=>by
   obtain⟨τ,rfl,rfl⟩:=hI;obtain⟨dp,e2⟩:=h2 τ (iter f j i) (rk hf _ _ hi) (k+1) (ct (bE ‹_›))
   exact⟨⟨_,S.add⟩,es,old hd,hl,_,_,e2,_,rfl,by rw[fq,fq]⟩)
  rw[hv,hs] at e2;exact⟨dp,e2⟩
 def_ {σ d N g x kd p q v es} S hN hd hl h n hn:=by
  obtain⟨k,rfl⟩:∃k,n=k+2:=⟨n-2,by exact cK (lN 0x188288c308049201241248 [_] rfl) (lN 0x30188288c20124804900904920530188d [_,_] rfl hn)⟩;obtain⟨τ,e⟩:=h [] _ rfl (k+1) (ct (bE ‹_›));rw[List.append_nil] at e;exact⟨_,by rw[←fq];exact Ey B S hd hl e⟩
 use S hN hd hg hc hd' hl h1 h2 n hn:=by
  obtain⟨k,rfl⟩:∃k,n=k+2:=⟨n-2,by exact cK (lN 0x188288c308049201241248 [_] rfl) (lN 0x30188288c20124804900904920530188d [_,_] rfl hn)⟩;subst hc;obtain⟨bZ,e1⟩:=h1 (k+1) (ct (bE ‹_›));obtain⟨dp,e2⟩:=h2 bZ (k+1) (ct (bE ‹_›));exact⟨_,by rw[←fq,←fq];exact Ez B S e1 S.add (old hd) hg (old hd') hl e2⟩
end
def Tm.cost:Tm->(Str->Int)->Int
|.num _,_=>1
|.name _,_=>1
|.un _ a,φ=>1+(a.cost φ+0)
|.use g a,φ=>1+φ g+a.cost φ
|.aj _ a b,φ=>1+(a.cost φ+(b.cost φ+0))
|.a9 _ a b,φ=>1+(a.cost φ+(b.cost φ+0))
|.bu k _ a b,φ=>1+a.cost φ+k*b.cost φ
|.def_ g _ _ a b,φ=>1+b.cost (λy=>if g==y then a.cost φ else φ y)
|.when a b c,φ=>1+(a.cost φ+(b.cost φ+(c.cost φ+0)))
theorem lK:(Tm.num u1).cost φ=1:=rfl
theorem lL:(Tm.name u1).cost φ=1:=rfl
theorem lM:(Tm.un u1 a).cost φ=1+(a.cost φ+0):=rfl
theorem lO:(Tm.use g a).cost φ=1+φ g+a.cost φ:=rfl
theorem lP:(Tm.aj u1 a b).cost φ=1+(a.cost φ+(b.cost φ+0)):=rfl
theorem lQ:(Tm.a9 u1 a b).cost φ=1+(a.cost φ+(b.cost φ+0)):=rfl
theorem lR:(Tm.bu k u1 a b).cost φ=1+a.cost φ+k*b.cost φ:=rfl
theorem lS:(Tm.def_ g u1 u2 a b).cost φ=1+b.cost (λy=>if g==y then a.cost φ else φ y):=rfl
theorem lT:(Tm.when a b c).cost φ=1+(a.cost φ+(b.cost φ+(c.cost φ+0))):=rfl
theorem KV{I:H->Prop}(hI:∀σ τ,I σ->I (σ++τ)){f:V->M (Option V)}{g:Tm->V}(hf:∀t∈ts,∀σ,I σ->∃τ,f t.ag σ=.ok (some (g t)) (σ++τ)):
  ∀(rest done:List Tm)(σ:H),ts=done++rest->I σ->σ[l]?=some (.ah (ts.map Tm.ag))->∃τ,dk (.live l) f (rest.length+1) done.length σ=.ok (rest.map g) (σ++τ):=by
 intro rest
 induction rest with
|nil=>
  intro done σ hd h0 hl;refine⟨[],?_⟩;rw[List.append_nil];exact kK (by(refine jY.symm▸?_;refine(aU (dX hl)).symm▸?_);simp[M.pure,hd])
|cons t rest ih=>
  intro done σ hd h0 hl;obtain⟨τ,h1⟩:=hf t (by(refine hd.symm▸?_);simp) σ h0;obtain⟨fY,h2⟩:=ih (done++[t]) (σ++τ) (by(refine hd.symm▸?_);simp) (hI _ _ h0) (old hl);refine⟨τ++fY,?_⟩;replace h2:=(List.length_singleton)▸((List.length_append)▸h2);have:=gW (k:=done.length) (σ:=σ) (ae:=σ) (v:=t.ag) (by(refine jY.symm▸?_;refine(aU (dX hl)).symm▸?_);simp[M.pure,hd]) h1 h2;rw[List.length_cons,this,List.append_assoc];rfl
theorem tY{C:Ctx}{L:aQ}{c:Nat}{σ:H}:ak C (.new c) L σ=.ok (.ref (σ.length+1)) (σ++[.dq 0]++[.inst c σ.length]):=by
 rw[JO];show dc (.inst c σ.length) (σ++[.dq 0])=_;show Res.ok (V.ref (σ++[O.dq 0]).length) _=_;rw[List.length_append];rfl
theorem qT{c:Nat}{σ:H}:Self (σ++[.dq 0]++[.inst c σ.length]) (σ.length+1) σ.length 0:=by
 refine⟨⟨c,?_⟩,old bL⟩;have:=bL (σ:=σ++[O.dq 0]) (o:=O.inst c σ.length);rw[List.length_append] at this;exact this
class inductive HG:Nat->Sc->Lv->Bool->Tm->Kd->Prop
|num {d Γ l f i}:HG d Γ l f (.num i) .aB
|name {d Γ l f x k}:look Γ x=some ⟨x,l,.val k⟩->HG d Γ l f (.name x) k
|kz {d Γ f x}:look Γ x=some ⟨x,.z,.val .aY⟩->HG d Γ .o f (.un .hole (.name x)) .aB
|kW {d Γ f x}:look Γ x=some ⟨x,.o,.val .aB⟩->HG d Γ .z f (.un .bJ (.name x)) .aY
|kX {d Γ f i}:HG d Γ .z f (.un .bJ (.num i)) .aY
|lb {d Γ f i}:HG d Γ .z f (.un .lift (.num i)) .aY
|when {d Γ l f a b c k}:HG d Γ l f a .aB->HG d Γ l f b k->HG d Γ l f c k->HG (d+1) Γ l f (.when a b c) k
|use {d Γ l f g a ka k}:look Γ g=some ⟨g,l,.fn ka k⟩->HG d Γ l f a ka->HG (d+1) Γ l f (.use g a) k
|a9 {d Γ l f x a b k k'}:HG d Γ l f a k->HG d (Γ++[⟨x,l,.val k⟩]) l f b k'->HG (d+1) Γ l f (.a9 x a b) k'
|bu {d Γ l f n x a b k}:(0<=n/\n<=9)->HG d Γ l f a k->HG d (Γ++[⟨x,l,.val k⟩]) l f b k->HG (d+1) Γ l f (.bu n x a b) k
|def_ {d Γ l f g x a b ka k k'}:(l=.o->ka=.aB/\k=.aB)->HG d (Γ++[⟨x,l,.val ka⟩]) l false a k->HG d (Γ++[⟨g,l,.fn ka k⟩]) l f b k'->HG (d+1) Γ l f (.def_ g x ka.s a b) k'
|bJ {d Γ f a}:HG d Γ .o false a .aB->HG (d+1) Γ .z f (.un .bJ a) .aY
|hole {d Γ f a}:HG d Γ .z false a .aY->HG (d+1) Γ .o f (.un .hole a) .aB
|lift {d Γ f a}:HG d Γ .z f a .aB->HG (d+1) Γ .z f (.un .lift a) .aY
|run {d Γ a}:HG d Γ .z true a .aY->HG (d+1) Γ .z true (.un .run a) .aB
|aj {d Γ l f w a b}:HG d Γ l f a .aB->HG d Γ l f b .aB->HG (d+1) Γ l f (.aj w a b) .aB
|kept {d Γ f x g a b}:HG (d-1) Γ .o false a .aB->HG (d-1) (Γ++[⟨x,.o,.val .aB⟩]++[⟨g,.z,.val .aY⟩]) .o false b .aB->HG (d+1) Γ .o f (.a9 x a (.un .hole (.a9 g (.un .bJ (.name x)) (.un .bJ b)))) .aB
|twice {d Γ f x g a y i b c}:HG (d-1) Γ .o false a .aB->HG 0 (Γ++[⟨x,.o,.val .aB⟩]++[⟨g,.z,.val .aY⟩]++[⟨y,.o,.val .aB⟩]) .o false b .aB->HG (d-2) (Γ++[⟨x,.o,.val .aB⟩]++[⟨g,.z,.val .aY⟩]++[⟨y,.o,.val .aB⟩]) .o false c .aB->
   HG (d+1) Γ .o f (.a9 x a (.un .hole (.a9 g (.un .bJ (.name x)) (.un .bJ (.a9 y (.num i) (.aj .sum b c)))))) .aB
theorem QZ:Gr HG:=⟨.num,.name,.kz,.kW,.kX,.lb,.when,.use,.a9,.bu,.def_,.bJ,.hole,.lift,.run,.aj,.kept,.twice⟩
structure Sg where
 k:Int
 fl:Bool
 c:Int
set_option genCtorIdx false in
inductive Bv where|num (i:Int)|pc (p:Tm)
def Bv.n:Bv->Int
|.num i=>i|.pc _=>0
def Bv.p:Bv->Tm
|.num _=>.num 0|.pc p=>p
def Bv.v:Bv->V
|.num i=>.int i|.pc p=>p.ag
set_option genCtorIdx false in
inductive Sv where|no|val (b:Bv)|fn (F:Bv->Sg->Bv×Sg)|nm (y:Str)
def Sv.b:Sv->Bv
|.val b=>b|_=>.num 0
def Sv.f:Sv->Bv->Sg->Bv×Sg
|.fn F=>F|_=>λb s=>(b,s)
def Sv.y:Sv->Str
|.nm y=>y|_=>""
def cm(η:Str->Sv)(x:Str)(v:Sv):Str->Sv:=λy=>if x==y then v else η y
def cV(f:Bv->Sg->Bv×Sg):Nat->Bv×Sg->Bv×Sg
|0,r=>r
|n+1,r=>cV f n (f r.1 r.2)
def Sg.new(s:Sg):Sg:=⟨s.k+1,s.fl,s.c⟩
def Tm.ew(p:Tm):Int:=p.cost λ_=>0
def jo(p:Tm)(s:Sg):Bv×Sg:=
 if 2000<p.size∨30<p.depth then(.pc (.num 0),⟨s.k,true,s.c+p.size⟩) else(.pc p,⟨s.k,s.fl,s.c+p.size⟩)
def nE(p:Tm)(s:Sg):Bv×Sg:=
 if 5000<s.c+p.ew then(.num 0,⟨s.k,s.fl,s.c+p.ew⟩) else(.num (p.den λ_=>.no),⟨s.k,s.fl,s.c+p.ew⟩)
def SB(m:Sg->Bv×Sg)(f:Bv->Sg->Bv×Sg):Sg->Bv×Sg:=λs=>f (m s).1 (m s).2
def SR(b:Bv):Sg->Bv×Sg:=λs=>(b,s)
def sd:Tm->(Str->Sv)->Lv->Sg->Bv×Sg
|.num i,_,l=>match l with
  |.z=>SR (.num (i.fmod 1000003))
  |.o=>SR (.pc (.num i))
|.name x,η,l=>match l with
  |.z=>SR (η x).b
  |.o=>SR (.pc (.name (η x).y))
|.un w a,η,_=>match w with
  |.bJ=>λs=>if 5000<s.c then(.pc (.num 0),s) else SB (sd a η .o) (λu=>jo u.p) s
  |.hole=>sd a η .z
  |.lift=>SB (sd a η .z) λu=>SR (.pc (.num u.n))
  |.run=>SB (sd a η .z) λu=>nE u.p
|.use g a,η,l=>match l with
  |.z=>SB (sd a η .z) (η g).f
  |.o=>SB (sd a η .o) λu=>SR (.pc (.use (η g).y u.p))
|.aj w a b,η,l=>match l with
  |.z=>SB (sd a η .z) λu=>SB (sd b η .z) λv=>SR (.num (jn w u.n v.n))
  |.o=>SB (sd a η .o) λu=>SB (sd b η .o) λv=>SR (.pc (.aj w u.p v.p))
|.when a b c,η,l=>match l with
  |.z=>SB (sd a η .z) λu=>if u.n=0 then sd c η .z else sd b η .z
  |.o=>SB (sd a η .o) λu=>SB (sd b η .o) λv=>SB (sd c η .o) λw=>SR (.pc (.when u.p v.p w.p))
|.a9 x a b,η,l=>match l with
  |.z=>SB (sd a η .z) λu=>sd b (cm η x (.val u)) .z
  |.o=>λs=>SB (sd a η .o) (λu=>SB (sd b (cm η x (.nm (vn (s.k+1)))) .o) λv=>SR (.pc (.a9 (vn (s.k+1)) u.p v.p))) s.new
|.bu n x a b,η,l=>match l with
  |.z=>λs=>cV (λu=>sd b (cm η x (.val u)) .z) n.toNat (sd a η .z s)
  |.o=>λs=>SB (sd a η .o) (λu=>SB (sd b (cm η x (.nm (vn (s.k+1)))) .o) λv=>SR (.pc (.bu n (vn (s.k+1)) u.p v.p))) s.new
|.def_ g x kd a b,η,l=>match l with
  |.z=>sd b (cm η g (.fn λu=>sd a (cm η x (.val u)) .z)) .z
  |.o=>λs=>SB (sd a (cm η x (.nm (vn (s.k+1+1)))) .o) (λu=>SB (sd b (cm η g (.nm (vn (s.k+1)))) .o) λv=>SR (.pc (.def_ (vn (s.k+1)) (vn (s.k+1+1)) kd u.p v.p))) s.new.new
end Qh
set_option tactic.hygienic true
namespace Qh
open PySem
inductive Pm where|v|f
noncomputable abbrev Dm:=Str->Option Pm
def dW(Δ:Dm)(x:Str)(m:Pm):Dm:=λy=>if x==y then some m else Δ y
class inductive PD:Dm->Tm->Prop
|num {Δ i}:PD Δ (.num i)
|name {Δ x}:Δ x=some .v->PD Δ (.name x)
|use {Δ g a}:Δ g=some .f->PD Δ a->PD Δ (.use g a)
|aj {Δ w a b}:PD Δ a->PD Δ b->PD Δ (.aj w a b)
|when {Δ a b c}:PD Δ a->PD Δ b->PD Δ c->PD Δ (.when a b c)
|a9 {Δ x a b}:PD Δ a->PD (dW Δ x .v) b->PD Δ (.a9 x a b)
|bu {Δ n x a b}:(0<=n/\n<=9)->PD Δ a->PD (dW Δ x .v) b->PD Δ (.bu n x a b)
|def_ {Δ g x kd a b}:PD (dW Δ x .v) a->PD (dW Δ g .f) b->PD Δ (.def_ g x kd a b)
def Dm.le(Δ du:Dm):Prop:=∀y m,Δ y=some m->du y=some m
theorem Dm.le.refl(Δ:Dm):Δ.le Δ:=λ_ _ h=>h
theorem Dm.le.trans{Δ du qy:Dm}(h:Δ.le du)(h':du.le qy):Δ.le qy:=λy m q=>h' y m (h y m q)
theorem Dm.le.upd{Δ du:Dm}(h:Δ.le du)(x:Str)(m:Pm):(dW Δ x m).le (dW du x m):=λy m' q=>by
 unfold dW at q ⊢
 split
 ·rename_i e;rw[if_pos e] at q;exact q
 ·rename_i e;rw[if_neg e] at q;exact h y m' q
theorem Dm.le.new{Δ:Dm}{x:Str}(m:Pm)(h:Δ x=none):Δ.le (dW Δ x m):=λy m' q=>by
 unfold dW
 split
 ·rename_i e;rw[←beq_iff_eq.mp e,h] at q;exact bS q
 ·exact q
theorem PD.mono{Δ:Dm}{p:Tm}(h:PD Δ p):∀du:Dm,Δ.le du->PD du p:=by
 induction h with
|num=>exact λ_ _=>.num
|name h=>exact λ_ q=>.name (q _ _ h)
|use h _ ih=>exact λ_ q=>.use (q _ _ h) (ih _ q)
|aj _ _ h1 h2=>exact λ_ q=>.aj (h1 _ q) (h2 _ q)
|when _ _ _ h1 h2 h3=>exact λ_ q=>.when (h1 _ q) (h2 _ q) (h3 _ q)
|a9 _ _ h1 h2=>exact λ_ q=>.a9 (h1 _ q) (h2 _ (q.upd _ _))
|bu hn _ _ h1 h2=>exact λ_ q=>.bu hn (h1 _ q) (h2 _ (q.upd _ _))
|def_ _ _ h1 h2=>exact λ_ q=>.def_ (h1 _ (q.upd _ _)) (h2 _ (q.upd _ _))
def lU(φ:Str->Nat)(x:Str)(n:Nat):Str->Nat:=λy=>if x==y then n else φ y
def Tm.fr:Tm->(Str->Nat)->Nat
|.num _,_=>1
|.name _,_=>1
|.un _ a,φ=>1+a.fr φ
|.use g a,φ=>1+max (a.fr φ) (φ g)
|.aj _ a b,φ=>1+max (a.fr φ) (b.fr φ)
|.a9 _ a b,φ=>1+max (a.fr φ) (b.fr φ)
|.bu _ _ a b,φ=>1+max (a.fr φ) (b.fr φ)
|.def_ g _ _ a b,φ=>1+b.fr (lU φ g (a.fr φ))
|.when a b c,φ=>1+max (a.fr φ) (max (b.fr φ) (c.fr φ))
theorem lV{u1:Int}{φ:Str->Nat}:(Tm.num u1).fr φ=1:=rfl
theorem lW{u1:Str}{φ:Str->Nat}:(Tm.name u1).fr φ=1:=rfl
theorem lX{u1:U1}{a:Tm}{φ:Str->Nat}:(Tm.un u1 a).fr φ=1+a.fr φ:=rfl
theorem lY{g:Str}{a:Tm}{φ:Str->Nat}:(Tm.use g a).fr φ=1+max (a.fr φ) (φ g):=rfl
theorem lZ{u1:U2}{a:Tm}{b:Tm}{φ:Str->Nat}:(Tm.aj u1 a b).fr φ=1+max (a.fr φ) (b.fr φ):=rfl
theorem l0{u1:Str}{a:Tm}{b:Tm}{φ:Str->Nat}:(Tm.a9 u1 a b).fr φ=1+max (a.fr φ) (b.fr φ):=rfl
theorem l4{u1:Int}{u2:Str}{a:Tm}{b:Tm}{φ:Str->Nat}:(Tm.bu u1 u2 a b).fr φ=1+max (a.fr φ) (b.fr φ):=rfl
theorem l7{g:Str}{u1:Str}{u2:Str}{a:Tm}{b:Tm}{φ:Str->Nat}:(Tm.def_ g u1 u2 a b).fr φ=1+b.fr (lU φ g (a.fr φ)):=rfl
theorem l8{a:Tm}{b:Tm}{c:Tm}{φ:Str->Nat}:(Tm.when a b c).fr φ=1+max (a.fr φ) (max (b.fr φ) (c.fr φ)):=rfl
def dep(u Φ:Nat):Nat:=if u=0 then 0 else u+Φ
def Below(Δ:Dm)(k:Int):Prop:=∀y m,Δ y=some m->∃i:Int,y=vn i/\1<=i/\i<=k
theorem Below.up{Δ:Dm}{k k':Int}(h:Below Δ k)(hk:k<=k'):Below Δ k':=λy m q=>let ⟨i,e,h1,h2⟩:=h y m q;⟨i,e,h1,dQ h2 hk⟩
def iz(Δ:Dm):Kd->Bv->Prop
|.aB,b=>∃i,b=.num i/\dB i
|.aY,b=>∃p,b=.pc p/\PD Δ p/\p.size<=2000/\p.depth<=30/\∀φ,p.fr φ<=8*p.depth
theorem iz.up{Δ du:Dm}{k:Kd}{b:Bv}(h:iz Δ k b)(q:Δ.le du):iz du k b:=by
 cases k with
|aB=>exact h
|aY=>obtain⟨p,h1,h2,h3⟩:=h;exact⟨p,h1,h2.mono _ q,h3⟩
structure Sg.le(w:Int)(s s':Sg):Prop where
 k:s.k<=s'.k
 w:s'.k<=s.k+w
 c:s.c<=s'.c
 fl:s.fl=true->s'.fl=true
theorem Sg.le.refl(s:Sg):s.le 0 s:=⟨bq _,by exact lI 103283692104 [_] rfl,bq _,id⟩
theorem Sg.le.trans{w w' w'':Int}{s s' s'':Sg}(h:s.le w s')(h':s'.le w' s'')(hw:w+w'<=w''):s.le w'' s'':=⟨dQ h.k h'.k,by have y1:=h.w;have y2:=h'.w;exact lI 0x4e34c04904904904920538140f1413cd44505044c [_,_,_,_,_,_] rfl hw y1 y2,dQ h.c h'.c,λq=>h'.fl (h.fl q)⟩
theorem Sg.le.up{w w':Int}{s s':Sg}(h:s.le w s')(hw:w<=w'):s.le w' s':=⟨h.k,by have:=h.w;exact lI 0x138d30124124124814e3c504f34c [_,_,_,_] rfl hw this,h.c,h.fl⟩
theorem Sg.le.new(s:Sg):s.le 1 s.new:=⟨by show s.k<=s.k+1;exact lI 104357433928 [_] rfl,bq _,bq _,id⟩
def PM(V:Int)(Δ:Dm)(ka k:Kd)(F:Bv->Sg->Bv×Sg):Prop:=∀du:Dm,Δ.le du->∀u s,iz du ka u->0<=s.k->Below du s.k->iz du k (F u s).1/\s.le V (F u s).2
def su(V:Int)(Δ:Dm)(v:Sv):Lv->Mn->Prop
|.z,.val k=>∃b,v=.val b/\iz Δ k b
|.z,.fn ka k=>∃F,v=.fn F/\PM V Δ ka k F
|.o,.val _=>∃y,v=.nm y/\Δ y=some .v
|.o,.fn _ _=>∃y,v=.nm y/\Δ y=some .f
theorem su.up{V V':Int}{Δ du:Dm}{v:Sv}{l:Lv}{m:Mn}(h:su V Δ v l m)(q:Δ.le du)(hV:V<=V'):su V' du v l m:=by
 cases l<;>cases m
 ·obtain⟨b,h1,h2⟩:=h;exact⟨b,h1,h2.up q⟩
 ·obtain⟨F,h1,h2⟩:=h;exact⟨F,h1,λqy q' u s g1 g2 g3=>let ⟨x,y⟩:=h2 qy (q.trans q') u s g1 g2 g3;⟨x,y.up hV⟩⟩
 ·obtain⟨y,h1,h2⟩:=h;exact⟨y,h1,q _ _ h2⟩
 ·obtain⟨y,h1,h2⟩:=h;exact⟨y,h1,q _ _ h2⟩
def Se(V:Int)(Γ:Sc)(η:Str->Sv)(Δ:Dm):Prop:=∀x e,look Γ x=some e->su V Δ (η x) e.l e.m
theorem Se.up{V V':Int}{Γ:Sc}{η:Str->Sv}{Δ du:Dm}(h:Se V Γ η Δ)(q:Δ.le du)(hV:V<=V'):Se V' Γ η du:=λx e he=>(h x e he).up q hV
theorem Se.put{V:Int}{Γ:Sc}{η:Str->Sv}{Δ:Dm}(h:Se V Γ η Δ){x:Str}{l:Lv}{m:Mn}{v:Sv}(hv:su V Δ v l m):Se V (Γ++[⟨x,l,m⟩]) (cm η x v) Δ:=λy e he=>by
 rw[iD] at he;unfold cm;cases hx:(x==y) with
|true=>rw[hx,if_pos rfl] at he;(apply eR he);rw[if_pos rfl];exact hv
|false=>rw[hx] at he;rw[if_neg (by simp)];exact h y e he
def ig(Γ:Sc)(η:Str->Sv)(φ:Str->Nat)(Φ:Nat):Prop:=∀g ka k,look Γ g=some ⟨g,.o,.fn ka k⟩->φ (η g).y<=Φ
def ij(Γ:Sc):Prop:=∀g ka k,look Γ g≠some ⟨g,.o,.fn ka k⟩
def jv(Γ:Sc)(η:Str->Sv)(Δ:Dm)(u D:Nat):Lv->Kd->Bv->Prop
|.z,.aB,b=>∃i,b=.num i/\dB i
|.z,.aY,b=>∃p,b=.pc p/\PD Δ p/\p.size<=2000/\p.depth<=30/\∀φ Φ,ig Γ η φ Φ->p.fr φ<=max (8*p.depth) (dep u Φ)
|.o,_,b=>∃p,b=.pc p/\PD Δ p/\p.depth<=D/\∀φ Φ,ig Γ η φ Φ->p.fr φ<=max (8*p.depth) (dep u Φ)
def bG(V w:Int)(Γ:Sc)(u D:Nat)(l:Lv)(t:Tm)(k:Kd):Prop:=∀η Δ s,Se V Γ η Δ->0<=s.k->Below Δ s.k->jv Γ η Δ u D l k (sd t η l s).1/\s.le w (sd t η l s).2
end Qh
set_option tactic.hygienic false
namespace Qh
open PySem
theorem Ih{i j:Int}(hi:0<=i)(hj:0<=j)(h:gv i=gv j):i=j:=by
 refine b6 (Int.eq_ofNat_of_zero_le hi) λn bh=>?_;clear hi;subst bh;refine b6 (Int.eq_ofNat_of_zero_le hj) λm bh=>?_;clear hj;subst bh;have h:Str.ofString n.repr=Str.ofString m.repr:=h;rw[Str.ofString_eq_toList,Str.ofString_eq_toList] at h;have h1:n.repr.toList.map Char.toNat=m.repr.toList.map Char.toNat:=by
  have:=congrArg (λs:Str=>s.cps.toList) h
  simpa using this
 have h2:n.repr.toList=m.repr.toList:=by
  have:=congrArg (List.map Char.ofNat) h1
  simpa[List.map_map,Function.comp_def] using this
 rw[Nat.toList_repr,Nat.toList_repr] at h2;have:=congrArg (λl=>Nat.ofDigitChars 10 l 0) h2;simp only[Nat.ofDigitChars_toDigits (b:=10) (by decide) (by decide)] at this;rw[this]
theorem Ob{i j:Int}(hi:0<=i)(hj:0<=j)(h:vn i=vn j):i=j:=by
 refine Ih hi hj ?_;have h1:(Str.ofString "v").cps.toList++(gv i).cps.toList=(Str.ofString "v").cps.toList++(gv j).cps.toList:=by
  have:=congrArg (λs:Str=>s.cps.toList) h;rw[←Array.toList_append,←Array.toList_append];exact this
 have h2:=List.append_cancel_left h1;cases hx:gv i with|mk a=>cases hy:gv j with|mk b=>
 rw[hx,hy] at h2;have:a=b:=Array.toList_inj.mp h2;rw[this]
end Qh
set_option tactic.hygienic true
namespace Qh
open PySem
theorem uA(u Φ:Nat):dep u Φ<=u+Φ:=match u with
|0=>gP _
|_+1=>aR _
theorem tZ(h:0<u):dep u Φ=u+Φ:=if_neg (Nat.ne_of_gt h)
theorem B3(h:u<=u'):dep u Φ<=dep u' Φ:=match u with
|0=>gP _
|u+1=>tZ (Nat.lt_of_lt_of_le (Nat.succ_pos u) h)▸Nat.add_le_add_right h Φ
theorem GI{a b c:Nat}(h:b<=c):max a b<=max a c:=Nat.max_le.mpr ⟨eK a c,bR h (ft a c)⟩
theorem vo:1<=max (8*1) x:=bR (by decide) (eK _ _)
theorem rm(h:u=0∨u+1<=u'):1+dep u Φ<=max 8 (dep u' Φ):=by
 rcases h with h|h
 ·subst h;exact bR (nb rfl:1<=8) (eK _ _)
 ·rw[tZ (Nat.lt_of_lt_of_le (Nat.succ_pos u) h)];exact bR (bR (Nat.add_le_add_left (uA u Φ) 1) (Nat.add_assoc 1 u Φ▸Nat.add_comm u 1▸Nat.add_le_add_right h Φ)) (ft _ _)
theorem Below.none(h:Below Δ k)(hk:0<=k)(hj:k<j):Δ (vn j)=none:=by
 cases q:Δ (vn j) with
|none=>rfl
|some m=>
  refine ca (h _ _ q) λi e h1 h2=>?_;have:=Ob (i:=j) (lI 0x32004904904904920530184d14e84534e [_,_,_] rfl hj h1 h2) (Int.le_of_lt ‹_›) e;exact absurd (this▸h2:j<=k) (Int.not_le.mpr hj)
theorem Below.put(h:Below Δ k)(hj:1<=j/\j<=k)(m:Pm):Below (dW Δ (vn j) m) k:=λy m' q=>by
 unfold dW at q
 split at q
 ·rename_i e;exact⟨j,(beq_iff_eq.mp e).symm,hj⟩
 ·exact h y m' q
theorem n0:dW Δ x m x=some m:=by unfold dW;(refine(if_pos (beq_self_eq_true x)).symm▸?_;with_reducible rfl)
theorem JE:cm η x v x=v:=by unfold cm;(refine(if_pos (beq_self_eq_true x)).symm▸?_;with_reducible rfl)
theorem Oc(h:look Γ x=some e):e∈Γ/\e.x=x:=by
 unfold look at h;exact⟨List.mem_reverse.mp (List.mem_of_find?_eq_some h),beq_iff_eq.mp (List.find?_some (p:=λe:Ent=>e.x==x) h)⟩
section
variable{Γ:Sc}{η:Str->Sv}{Δ:Dm}{φ:Str->Nat}{Φ u u' D D':Nat}{k:Kd}{b:Bv}
theorem Od(Γ:Sc)(η:Str->Sv)(φ:Str->Nat):∃Φ,ig Γ η φ Φ:=by
 have h:∀l:List Ent,∃Φ,∀e∈l,φ (η e.x).y<=Φ:=by
  intro l
  induction l with
  |nil=>exact⟨0,λ_ h=>nomatch h⟩
  |cons e l ih=>
   obtain⟨Φ,h⟩:=ih;refine⟨max Φ (φ (η e.x).y),λe' he=>?_⟩;rcases List.mem_cons.mp he with rfl|q
   ·exact lN 0x330d308049049201248 [_,_] rfl
   ·have:=h e' q;(exact bR ‹_› (eK _ _))
 obtain⟨Φ,h⟩:=h Γ;exact⟨Φ,λg ka k hg=>h _ (Oc hg).1⟩
theorem ig.val(h:ig Γ η φ Φ)(x:Str)(l:Lv)(k:Kd)(v:Sv):ig (Γ++[⟨x,l,.val k⟩]) (cm η x v) φ Φ:=λg ka k' hg=>by
 rw[iD] at hg;unfold cm;cases hx:(x==g) with
|true=>(replace hg:=(if_pos rfl)▸(hx▸hg));cases hg
|false=>(replace hg:=hx▸hg);rw[if_neg (by simp)];exact h g ka k' hg
theorem ig.fz(h:ig Γ η φ Φ)(x:Str)(a r:Kd)(v:Sv):ig (Γ++[⟨x,.z,.fn a r⟩]) (cm η x v) φ Φ:=λg ka k' hg=>by
 rw[iD] at hg;unfold cm;cases hx:(x==g) with
|true=>(replace hg:=(if_pos rfl)▸(hx▸hg));cases hg
|false=>(replace hg:=hx▸hg);rw[if_neg (by simp)];exact h g ka k' hg
theorem jv.up{l:Lv}(h:jv Γ η Δ u D l k b)(hu:u<=u')(hD:D<=D'):jv Γ η Δ u' D' l k b:=by
 cases l with
|z=>cases k with
  |aB=>exact h
  |aY=>
   refine nc (h) λp h1 h2 h3 h4 h5=>?_;exact⟨p,h1,h2,h3,h4,λφ Φ q=>bR (h5 φ Φ q) (GI (B3 hu))⟩
|o=>
  refine oD (h) λp h1 h2 h3 h5=>?_;exact⟨p,h1,h2,by(exact bR ‹_› ‹_›),λφ Φ q=>bR (h5 φ Φ q) (GI (B3 hu))⟩
theorem jv.ok(h:jv Γ η Δ 0 D .z k b):iz Δ k b:=by
 cases k with
|aB=>exact h
|aY=>
  refine nc (h) λp h1 h2 h3 h4 h5=>?_;refine⟨p,h1,h2,h3,h4,λφ=>?_⟩;refine b6 (Od Γ η φ) λΦ q=>?_;have:=h5 φ Φ q;have e:dep 0 Φ=0:=rfl;exact lN 0x436830804900900904920124024124124814338436830680e [_,_,_] rfl this e
theorem iz.gd(h:iz Δ k b):jv Γ η Δ u D .z k b:=by
 cases k with
|aB=>exact h
|aY=>
  refine nc (h) λp h1 h2 h3 h4 h5=>?_;exact⟨p,h1,h2,h3,h4,λφ Φ q=>by have:=h5 φ;(exact bR ‹_› (eK _ _))⟩
theorem jv.back(h:jv (Γ++[⟨x,l',m⟩]) (cm η x v) Δ u D l k b)(hf:∀φ Φ,ig Γ η φ Φ->ig (Γ++[⟨x,l',m⟩]) (cm η x v) φ Φ):jv Γ η Δ u D l k b:=by
 cases l with
|z=>cases k with
  |aB=>exact h
  |aY=>
   refine nc (h) λp h1 h2 h3 h4 h5=>?_;exact⟨p,h1,h2,h3,h4,λφ Φ q=>h5 φ Φ (hf φ Φ q)⟩
|o=>
  refine oD (h) λp h1 h2 h3 h5=>?_;exact⟨p,h1,h2,h3,λφ Φ q=>h5 φ Φ (hf φ Φ q)⟩
theorem bG.up{V w w':Int}{l:Lv}(h:bG V w Γ u D l t k)(hu:u<=u')(hD:D<=D')(hw:w<=w'):bG V w' Γ u' D' l t k:=λη Δ s h1 h2 h3=>⟨(h η Δ s h1 h2 h3).1.up hu hD,(h η Δ s h1 h2 h3).2.up hw⟩
end
def l9:Dv->Prop
|.no=>True
|.num i=>dB i
|.fn F=>∀i,dB i->dB (F i)
theorem sv:dB 0:=⟨by decide,by decide⟩
theorem l9.upd(h:∀x,l9 (ρ x))(hv:l9 v):∀y,l9 (upd ρ x v y):=λy=>by
 unfold Qh.upd;split
 ·exact hv
 ·exact h y
theorem jD:∀(t:Tm)(ρ:Str->Dv),(∀x,l9 (ρ x))->dB (t.den ρ)
|.num i=>λ_ _=>⟨Int.fmod_nonneg_of_pos _ (by decide),Int.fmod_lt_of_pos _ (by decide)⟩
|.name x=>λρ h=>by
  have:=h x;show dB (match ρ x with|.num i=>i|_=>0)
  revert this;generalize ρ x=v;intro this
  cases v with
  |num i=>exact this
  |no=>exact sv
  |fn F=>exact sv
|.un _ a=>λρ h=>jD a ρ h
|.use g a=>λρ h=>by
  have:=h g;have hr:=jD a ρ h;show dB (match ρ g with|.fn F=>F (a.den ρ)|_=>0)
  revert this;generalize ρ g=v;intro this
  cases v with
  |num i=>exact sv
  |no=>exact sv
  |fn F=>exact this _ hr
|.aj w a b=>λρ h=>w7 _ _ _
|.a9 x a b=>λρ h=>jD b _ (l9.upd h (jD a ρ h))
|.bu k x a b=>λρ h=>rk (λi hi=>jD b _ (l9.upd h (v:=.num i) hi)) _ _ (jD a ρ h)
|.def_ g x _ a b=>λρ h=>jD b _ (l9.upd h λi hi=>jD a _ (l9.upd h hi))
|.when a b c=>λρ h=>by
  show dB (if _ then _ else _)
  split
  ·exact jD c ρ h
  ·exact jD b ρ h
theorem B4(h:PD Δ p):∀φ:Str->Int,(∀x,0<=φ x)->1<=p.cost φ:=by
 induction h with
|num=>exact λφ h=>bq _
|name _=>exact λφ h=>bq _
|@use Δ g a _ _ ih=>intro φ h;have y1:=ih φ h;have y2:=h g;show 1<=1+φ g+a.cost φ;exact lI 0x134132184124124124814d845320 [_,_] rfl y1 y2
|@aj Δ w a b _ _ h1 h2=>intro φ h;have y1:=h1 φ h;have y2:=h2 φ h;show 1<=1+(a.cost φ+(b.cost φ+0));exact lI 0x104180d32184124124124814c845361 [_,_] rfl y1 y2
|@when Δ a b c _ _ _ h1 h2 h3=>intro φ h;have y1:=h1 φ h;have y2:=h2 φ h;have y3:=h3 φ h;show 1<=1+(a.cost φ+(b.cost φ+(c.cost φ+0)));exact lI 0x4104180e34c86104904904904920532114d8453a1 [_,_,_] rfl y1 y2 y3
|@a9 Δ x a b _ _ h1 h2=>intro φ h;have y1:=h1 φ h;have y2:=h2 φ h;show 1<=1+(a.cost φ+(b.cost φ+0));exact lI 0x104180d32184124124124814c845361 [_,_] rfl y1 y2
|@bu Δ n x a b hn _ _ h1 h2=>intro φ h;have y1:=h1 φ h;have y2:=h2 φ h;have y3:=Int.mul_nonneg hn.1 (dQ (by decide) y2);show 1<=1+a.cost φ+n*b.cost φ;exact lI 0x134132184124124124814c845360 [_,_] rfl y1 y3
|@def_ Δ g x kd a b _ _ h1 h2=>
  intro φ h;have h1:=h1 φ h;have h2:=h2 (λy=>if g==y then a.cost φ else φ y) (λy=>by show 0<=if(g==y)=true then a.cost φ else φ y;split;(exact Int.le_of_lt ‹_›);exact h y);show 1<=1+b.cost _;exact lI 0x4c861049049205321 [_] rfl h2
section
variable{V w w' bK bQ nF:Int}{Γ:Sc}{u u' oX fU D D' ma yS:Nat}{k k' ka:Kd}{l:Lv}{t a b c:Tm}{x g:Str}
theorem xQ:bG V 0 Γ u D .z (.num i) .aB:=λη Δ s h1 h2 h3=>⟨⟨_,rfl,Int.fmod_nonneg_of_pos _ (by decide),Int.fmod_lt_of_pos _ (by decide)⟩,.refl _⟩
theorem rJ(hD:1<=D):bG V 0 Γ u D .o (.num i) k:=λη Δ s h1 h2 h3=>⟨⟨_,rfl,.num,hD,λφ Φ q=>vo⟩,.refl _⟩
theorem CH(h:look Γ x=some ⟨x,.z,.val k⟩):bG V 0 Γ u D .z (.name x) k:=λη Δ s h1 h2 h3=>by
 refine aM (h1 x _ h) λb e hb=>?_;refine⟨?_,.refl _⟩;show jv Γ η Δ u D .z k (η x).b
 (refine e.symm▸?_);exact hb.gd
theorem ou(h:look Γ x=some ⟨x,.o,.val k'⟩)(hD:1<=D):bG V 0 Γ u D .o (.name x) k:=λη Δ s h1 h2 h3=>by
 refine aM (h1 x _ h) λy e hb=>?_;refine⟨⟨_,rfl,.name (by(refine e.symm▸?_);exact hb),hD,λφ Φ q=>vo⟩,.refl _⟩
theorem CI:jv Γ η Δ u D .z .aY (.pc (.num 0)):=⟨_,rfl,.num,by decide,by decide,λφ Φ q=>vo⟩
theorem jE(hw:0<=w)(h:bG V w Γ u D .o a k):bG V w Γ u D' .z (.un .bJ a) .aY:=λη Δ s h1 h2 h3=>by
 have e:sd (.un .bJ a) η .z s=if 5000<s.c then(.pc (.num 0),s) else jo (sd a η .o s).1.p (sd a η .o s).2:=rfl
 refine e.symm▸?_
 split
 ·exact⟨CI,(Sg.le.refl _).up hw⟩
 ·obtain⟨⟨p,e1,g1,g2,g3⟩,hk⟩:=h η Δ s h1 h2 h3;refine e1.symm▸?_;have hc:s.c<=(sd a η .o s).2.c+p.size:=by have:=hk.c;exact lI 0x138d30124124124814d3053a0 [_,_,_] rfl this (jr _)
  unfold jo
  split
  ·exact⟨CI,⟨hk.k,hk.w,hc,λ_=>rfl⟩⟩
  ·rename_i hn
   have hn:¬ (2000<p.size∨30<p.depth):=hn;exact⟨⟨p,rfl,g1,Nat.not_lt.mp λq=>hn (.inl q),Nat.not_lt.mp λq=>hn (.inr q),g3⟩,⟨hk.k,hk.w,hc,hk.fl⟩⟩
theorem p6(h:bG V w Γ u D' .z a .aY)(hD:30<=D):bG V w Γ u D .o (.un .hole a) k:=λη Δ s h1 h2 h3=>by
 obtain⟨⟨p,e1,g1,g2,g3,g4⟩,hk⟩:=h η Δ s h1 h2 h3;exact⟨⟨p,e1,g1,by(exact bR ‹_› ‹_›),g4⟩,hk⟩
theorem DA(h:bG V w Γ u' D' .z a .aB):bG V w Γ u D .z (.un .lift a) .aY:=λη Δ s h1 h2 h3=>
 ⟨⟨_,rfl,.num,nb rfl,nb rfl,λφ Φ q=>vo⟩,(h η Δ s h1 h2 h3).2⟩
theorem PN(h:bG V w Γ u' D' .z a .aY):bG V w Γ u D .z (.un .run a) .aB:=λη Δ s h1 h2 h3=>by
 obtain⟨⟨p,e1,g1,_⟩,hk⟩:=h η Δ s h1 h2 h3;have e:sd (.un .run a) η .z s=nE (sd a η .z s).1.p (sd a η .z s).2:=rfl;refine e.symm▸?_;refine e1.symm▸?_;have hc:s.c<=(sd a η .z s).2.c+p.ew:=by have y1:=hk.c;have y2:=B4 g1 (λ_=>0) λ_=>bq _;unfold Tm.ew;exact lI 0x138d30124124124814d3053a1 [_,_,_] rfl y1 y2
 unfold nE
 split
 ·exact⟨⟨0,rfl,sv⟩,⟨hk.k,hk.w,hc,hk.fl⟩⟩
 ·exact⟨⟨_,rfl,jD _ _ λ_=>trivial⟩,⟨hk.k,hk.w,hc,hk.fl⟩⟩
end
end Qh
set_option tactic.hygienic false
namespace Qh
open PySem
section
variable{V w w' bK bQ nF:Int}{Γ:Sc}{u u' oX fU D D' ma yS:Nat}{k k' ka:Kd}{l:Lv}{t a b c:Tm}{x g kd:Str}
theorem ox{a b c:Nat}(h1:1+a<=c)(h2:1+b<=c):1+max a b<=c:=by
 rcases Nat.le_total a b with h|h
 ·(refine(Nat.max_eq_right h).symm▸?_);exact h2
 ·(refine(Nat.max_eq_left h).symm▸?_);exact h1
theorem kn{a A M e e':Nat}(h:a<=max (8*A) e)(he:1+e<=max 8 e')(hM:A<=M):1+a<=max (8*(1+M)) e':=by
 refine bR (Nat.add_le_add_left h 1) (ox (bR ?_ (eK _ _)) (bR he (Nat.max_le.mpr ⟨bR (Nat.mul_le_mul_left 8 (d7 1 M)) (eK _ _),ft _ _⟩)));exact lN 0x101361a0110ca2104920920534c [_,_] rfl hM
theorem Mz(h:(x==y)=false):cm η x v y=η y:=by unfold cm;(refine h.symm▸?_);rfl
theorem Oe(ha:bG V bK Γ oX ma .z a .aB)(hb:bG V bQ Γ fU yS .z b .aB)(hw:bK+bQ<=w):bG V w Γ u D .z (.aj o a b) .aB:=λη Δ s h1 h2 h3=>by
 have ka:=(ha η Δ s h1 h2 h3).2;have kb:=(hb η Δ (sd a η .z s).2 h1 (dQ h2 ka.k) (h3.up ka.k)).2;exact⟨⟨_,rfl,w7 _ _ _⟩,ka.trans kb hw⟩
theorem xR(ha:bG V bK Γ u D .o a k)(hb:bG V bQ Γ u D .o b k)(hu:u=0∨u+1<=u')(hD:D+1<=D')(hw:bK+bQ<=w):bG V w Γ u' D' .o (.aj o a b) k':=λη Δ s h1 h2 h3=>by
 refine bB λXx aI=>?_;obtain⟨⟨p,ep,p1,p2,p3⟩,ka⟩:=ha η Δ s h1 h2 h3;obtain⟨⟨q,eq,q1,q2,q3⟩,kb⟩:=hb η Δ (sd a η .o s).2 h1 (dQ h2 ka.k) (h3.up ka.k);refine aI ?_;refine⟨⟨.aj o p q,by show Bv.pc (.aj o (sd a η .o s).1.p (sd b η .o (sd a η .o s).2).1.p)=_;(refine ep.symm▸?_;refine eq.symm▸?_);rfl,.aj p1 q1,ie p2 q2 hD,λφ Φ f=>?_⟩,ka.trans kb hw⟩;have he:=rm (Φ:=Φ) hu;exact ox (kn (p3 φ Φ f) he (eK _ _)) (kn (q3 φ Φ f) he (ft _ _))
theorem MA(ha:bG V bK Γ oX ma .z a .aB)(hb:bG V bQ Γ u D .z b k)(hc:bG V bQ Γ u D .z c k)(hw:bK+bQ<=w):bG V w Γ u D .z (.when a b c) k:=λη Δ s h1 h2 h3=>by
 have ka:=(ha η Δ s h1 h2 h3).2;have e:sd (.when a b c) η .z s=(if(sd a η .z s).1.n=0 then sd c η .z else sd b η .z) (sd a η .z s).2:=rfl;refine e.symm▸?_
 split
 ·have:=hc η Δ (sd a η .z s).2 h1 (dQ h2 ka.k) (h3.up ka.k);exact⟨this.1,ka.trans this.2 hw⟩
 ·have:=hb η Δ (sd a η .z s).2 h1 (dQ h2 ka.k) (h3.up ka.k);exact⟨this.1,ka.trans this.2 hw⟩
theorem MB(ha:bG V bK Γ u D .o a ka)(hb:bG V bQ Γ u D .o b k)(hc:bG V nF Γ u D .o c k)(hu:u=0∨u+1<=u')(hD:D+1<=D')(hw:bK+bQ+nF<=w):bG V w Γ u' D' .o (.when a b c) k':=λη Δ s h1 h2 h3=>by
 refine bB λXx aI=>?_;obtain⟨⟨p,ep,p1,p2,p3⟩,ka⟩:=ha η Δ s h1 h2 h3;obtain⟨⟨q,eq,q1,q2,q3⟩,kb⟩:=hb η Δ (sd a η .o s).2 h1 (dQ h2 ka.k) (h3.up ka.k);have zG:=ka.trans kb (bq _);obtain⟨⟨r,er,r1,r2,r3⟩,kc⟩:=hc η Δ (sd b η .o (sd a η .o s).2).2 h1 (dQ h2 zG.k) (h3.up zG.k);refine aI ?_;refine⟨⟨.when p q r,by show Bv.pc (.when (sd a η .o s).1.p (sd b η .o (sd a η .o s).2).1.p (sd c η .o (sd b η .o (sd a η .o s).2).2).1.p)=_;(refine ep.symm▸?_;refine eq.symm▸?_;refine er.symm▸?_);rfl,.when p1 q1 r1,GD p2 q2 r2 hD,λφ Φ f=>?_⟩,zG.trans kc hw⟩;have he:=rm (Φ:=Φ) hu;exact ox (kn (p3 φ Φ f) he (eK _ _)) (ox (kn (q3 φ Φ f) he (bR (eK _ _) (ft _ _))) (kn (r3 φ Φ f) he (bR (ft _ _) (ft _ _))))
theorem rK(ha:bG V bK Γ 0 ma .z a ka)(hb:bG V bQ (Γ++[⟨x,.z,.val ka⟩]) u D .z b k)(hw:bK+bQ<=w):bG V w Γ u D .z (.a9 x a b) k:=λη Δ s h1 h2 h3=>by
 refine aZ (ha η Δ s h1 h2 h3) λga ka=>?_;refine aZ (hb (cm η x (.val (sd a η .z s).1)) Δ (sd a η .z s).2 (h1.put ⟨_,rfl,ga.ok⟩) (dQ h2 ka.k) (h3.up ka.k)) λgb kb=>?_;exact⟨gb.back λφ Φ f=>f.val _ _ _ _,ka.trans kb hw⟩
theorem EB{η:Str->Sv}{Δ:Dm}{s:Sg}(h1:Se V Γ η Δ)(h2:0<=s.k)(h3:Below Δ s.k)(ha:bG V bK Γ u D .o a ka)(hb:bG V bQ (Γ++[⟨x,.o,.val k⟩]) u D .o b k')(hw:1+bK+bQ<=w):
  ∃p q,(sd a η .o s.new).1=.pc p/\(sd b (cm η x (.nm (vn (s.k+1)))) .o (sd a η .o s.new).2).1=.pc q/\PD Δ p/\PD (dW Δ (vn (s.k+1)) .v) q/\p.depth<=D/\q.depth<=D/\(∀φ Φ,ig Γ η φ Φ->p.fr φ<=max (8*p.depth) (dep u Φ)/\q.fr φ<=max (8*q.depth) (dep u Φ))/\
   s.le w (sd b (cm η x (.nm (vn (s.k+1)))) .o (sd a η .o s.new).2).2:=by
 have hn:s.new.k=s.k+1:=rfl;refine bB λXx aI=>?_;obtain⟨⟨p,ep,p1,p2,p3⟩,ka⟩:=ha η Δ s.new h1 (lI 0xc80124124024124814d80606134c [_,_] rfl h2 hn) (h3.up (lI 0x34c04904920606130d [_,_] rfl hn));have kk:=ka.k;obtain⟨⟨q,eq,q1,q2,q3⟩,kb⟩:=hb (cm η x (.nm (vn (s.k+1)))) (dW Δ (vn (s.k+1)) .v) (sd a η .o s.new).2 ((h1.up (Dm.le.new .v (h3.none h2 (bq _))) (bq _)).put ⟨_,rfl,n0⟩) (lI 0x32004904904900904920536018184d38530e [_,_,_] rfl h2 hn kk) ((h3.up (Int.le_of_lt ‹_›)).put ⟨by exact lI 0x61321049049205320 [_] rfl h2,by assumption⟩ _);refine aI ?_;exact⟨p,q,ep,eq,p1,q1,p2,q2,λφ Φ f=>⟨p3 φ Φ f,q3 φ Φ (f.val _ _ _ _)⟩,((Sg.le.new s).trans ka (bq _)).trans kb hw⟩
theorem rL(ha:bG V bK Γ u D .o a ka)(hb:bG V bQ (Γ++[⟨x,.o,.val k⟩]) u D .o b k')(hu:u=0∨u+1<=u')(hD:D+1<=D')(hw:1+bK+bQ<=w){oY:Kd}:bG V w Γ u' D' .o (.a9 x a b) oY:=λη Δ s h1 h2 h3=>by
 refine DL (EB h1 h2 h3 ha hb hw) λp q ep eq p1 q1 p2 q2 hf hk=>?_;refine⟨⟨.a9 (vn (s.k+1)) p q,by show Bv.pc (.a9 _ (sd a η .o s.new).1.p (sd b _ .o (sd a η .o s.new).2).1.p)=_;(refine ep.symm▸?_;refine eq.symm▸?_);rfl,.a9 p1 q1,ie p2 q2 hD,λφ Φ f=>?_⟩,hk⟩;have he:=rm (Φ:=Φ) hu;exact ox (kn (hf φ Φ f).1 he (eK _ _)) (kn (hf φ Φ f).2 he (ft _ _))
theorem KW{n:Int}(hn:0<=n/\n<=9)(ha:bG V bK Γ u D .o a ka)(hb:bG V bQ (Γ++[⟨x,.o,.val k⟩]) u D .o b k')(hu:u=0∨u+1<=u')(hD:D+1<=D')(hw:1+bK+bQ<=w){oY:Kd}:bG V w Γ u' D' .o (.bu n x a b) oY:=λη Δ s h1 h2 h3=>by
 refine DL (EB h1 h2 h3 ha hb hw) λp q ep eq p1 q1 p2 q2 hf hk=>?_;refine⟨⟨.bu n (vn (s.k+1)) p q,by show Bv.pc (.bu n _ (sd a η .o s.new).1.p (sd b _ .o (sd a η .o s.new).2).1.p)=_;(refine ep.symm▸?_;refine eq.symm▸?_);rfl,.bu hn p1 q1,ie p2 q2 hD,λφ Φ f=>?_⟩,hk⟩;have he:=rm (Φ:=Φ) hu;exact ox (kn (hf φ Φ f).1 he (eK _ _)) (kn (hf φ Φ f).2 he (ft _ _))
theorem KX(hn:0<=n/\n<=9)(h0:0<=bQ)(ha:bG V bK Γ 0 ma .z a k)(hb:bG V bQ (Γ++[⟨x,.z,.val k⟩]) 0 yS .z b k)(hw:bK+9*bQ<=w):bG V w Γ u D .z (.bu n x a b) k:=λη Δ s h1 h2 h3=>by
 refine aZ (ha η Δ s h1 h2 h3) λga ka=>?_;have go:∀(m:Nat)(r:Bv×Sg),m<=9->iz Δ k r.1->s.le (bK+(9-m)*bQ) r.2->iz Δ k (cV (λv=>sd b (cm η x (.val v)) .z) m r).1/\s.le (bK+9*bQ) (cV (λv=>sd b (cm η x (.val v)) .z) m r).2:=by
  intro m
  induction m with
  |zero=>exact λr _ g1 g2=>⟨g1,g2.up (by simp)⟩
  |succ m ih=>
   intro r hm g1 g2;refine aZ (hb (cm η x (.val r.1)) Δ r.2 (h1.put ⟨_,rfl,g1⟩) (dQ h2 g2.k) (h3.up g2.k)) λgb kb=>?_;refine ih _ (bE ‹_›) gb.ok (g2.trans kb ?_);have e:(9-(m:Int))*bQ=(9-((m+1:Nat):Int))*bQ+bQ:=by rw[show(9-(m:Int))=(9-((m+1:Nat):Int))+1 by show(9-(m:Int))=(9-((m:Int)+1))+1;exact Int.le_antisymm (lI 0x184206132908ca41248 [_] rfl) (lI 0x232906108184ca41248 [_] rfl),Int.add_mul,Int.one_mul]
   exact lI 0x4f30138134c04904920604e34f [_,_,_,_] rfl e
 have:=go n.toNat (sd a η .z s) (Int.toNat_le.mpr hn.2) ga.ok (ka.up (by have:=Int.mul_nonneg (show 0<=9-(n.toNat:Int) by rw[Int.toNat_of_nonneg hn.1];exact Int.sub_nonneg_of_le hn.2) h0;exact lI 0x4d30c049049205360 [_,_] rfl this));exact⟨this.1.gd,this.2.up hw⟩
theorem Of(hg:look Γ g=some ⟨g,.z,.fn ka k⟩)(ha:bG V bK Γ 0 ma .z a ka)(hw:bK+V<=w):bG V w Γ u D .z (.use g a) k:=λη Δ s h1 h2 h3=>by
 refine aM (h1 g _ hg) λF e hF=>?_;refine aZ (ha η Δ s h1 h2 h3) λga ka=>?_;have h:=hF Δ (Dm.le.refl Δ) _ (sd a η .z s).2 ga.ok (dQ h2 ka.k) (h3.up ka.k);have e':sd (.use g a) η .z s=F (sd a η .z s).1 (sd a η .z s).2:=by show(η g).f _ _=_;(refine e.symm▸?_);rfl
 refine e'.symm▸?_;exact⟨h.1.gd,ka.trans h.2 hw⟩
theorem Og(hg:look Γ g=some ⟨g,.o,.fn ka k⟩)(ha:bG V w Γ u D .o a k')(hu:u+1<=u')(hD:D+1<=D'):bG V w Γ u' D' .o (.use g a) oY:=λη Δ s h1 h2 h3=>by
 refine bB λXx aI=>?_;refine aM (h1 g _ hg) λy e hy=>?_;obtain⟨⟨p,ep,p1,p2,p3⟩,kk⟩:=ha η Δ s h1 h2 h3;refine aI ?_;refine⟨⟨.use y p,by show Bv.pc (.use (η g).y (sd a η .o s).1.p)=_;(refine ep.symm▸?_;refine e.symm▸?_);rfl,.use hy p1,ml p2 hD,λφ Φ f=>?_⟩,kk⟩;have hf:=f g _ _ hg;replace hf:=e▸hf;have hd:dep u' Φ=u'+Φ:=tZ (Nat.lt_of_lt_of_le (Nat.succ_pos u) hu);refine ox (kn (p3 φ Φ f) (rm (.inr hu)) (aR _)) (bR ?_ (ft _ _))
 (refine hd.symm▸?_);exact Nat.add_le_add (bR (dI 1 u) hu) (hf)
theorem Oh(ha:bG V bK (Γ++[⟨x,.z,.val ka⟩]) 0 ma .z a k)(hb:bG V' w (Γ++[⟨g,.z,.fn ka k⟩]) u D .z b k')(hV:V<=V')(hw:bK<=V'):bG V w Γ u D .z (.def_ g x kd a b) k':=λη Δ s h1 h2 h3=>by
 obtain⟨gb,kb⟩:=hb (cm η g (.fn λv=>sd a (cm η x (.val v)) .z)) Δ s ((h1.up (Dm.le.refl Δ) hV).put ⟨_,rfl,λdu q v s' hv hk hB=>by
  refine aZ (ha (cm η x (.val v)) du s' ((h1.up q (bq _)).put ⟨_,rfl,hv⟩) hk hB) λga ka=>?_
  exact⟨ga.ok,ka.up hw⟩⟩) h2 h3
 exact⟨gb.back λφ Φ f=>f.fz _ _ _ _,kb⟩
theorem DB(ha:bG V bK (Γ++[⟨x,.o,.val ka⟩]) oX D .o a k₁)(hb:bG V bQ (Γ++[⟨g,.o,.fn ka k⟩]) fU D .o b k')(hw:2+bK+bQ<=w)(hD:D+1<=D')(hu:fU<=7)(h7:(ij Γ/\oX=0)∨(oX=fU/\(fU=0∨2*fU+1<=u'))):bG V w Γ u' D' .o (.def_ g x kd a b) oY:=λη Δ s h1 h2 h3=>by
 have f1:=h3.none h2 (bq _);have hn:s.new.new.k=s.k+1+1:=rfl;refine bB λXx aI=>?_;obtain⟨⟨p,ep,p1,p2,p3⟩,kp⟩:=ha (cm η x (.nm (vn (s.k+1+1)))) (dW Δ (vn (s.k+1+1)) .v) s.new.new ((h1.up (Dm.le.new .v (h3.none h2 (lI 0x184184c061301248 [_] rfl))) (bq _)).put ⟨_,rfl,n0⟩) (lI 0xc80124124024124814d80606106134c [_,_] rfl h2 hn) ((h3.up (lI 0x34c04904920606106130d [_,_] rfl hn)).put ⟨by exact lI 0x61061321049049205320 [_] rfl h2,by(exact bq _)⟩ _);have kk:=kp.k;obtain⟨⟨q,eq,q1,q2,q3⟩,kq⟩:=hb (cm η g (.nm (vn (s.k+1)))) (dW Δ (vn (s.k+1)) .f) (sd a (cm η x (.nm (vn (s.k+1+1)))) .o s.new.new).2 ((h1.up (Dm.le.new .f f1) (bq _)).put ⟨_,rfl,n0⟩) (lI 0x32004904904900904920536018184184d38530e [_,_,_] rfl h2 hn kk) ((h3.up (lI 0xd30124124124818184184c38534e [_,_,_] rfl hn kk)).put ⟨by exact lI 0x61321049049205320 [_] rfl h2,by(exact Int.le_of_lt ‹_›)⟩ _);refine aI ?_;refine⟨⟨.def_ (vn (s.k+1)) (vn (s.k+1+1)) kd p q,by show Bv.pc (.def_ _ _ kd (sd a _ .o s.new.new).1.p (sd b _ .o (sd a _ .o s.new.new).2).1.p)=_;(refine ep.symm▸?_;refine eq.symm▸?_);rfl,.def_ p1 q1,ie p2 q2 hD,λφ Φ f=>?_⟩,(((Sg.le.new s).trans (Sg.le.new s.new) (bq _)).trans kp (bq _)).trans kq ‹_›⟩;show 1+q.fr (lU φ (vn (s.k+1)) (p.fr φ))<=max (8*(1+max p.depth q.depth)) _;have hF:∀Φ,ig Γ η φ Φ->ig (Γ++[⟨g,.o,.fn ka k⟩]) (cm η g (.nm (vn (s.k+1)))) (lU φ (vn (s.k+1)) (p.fr φ)) (max Φ (p.fr φ)):=λΦ f h ka' k' hh=>by
  rw[iD] at hh;cases hx:(g==h) with
  |true=>
   refine(beq_iff_eq.mp hx)▸?_;refine JE.symm▸?_;show(if(vn (s.k+1)==vn (s.k+1))=true then p.fr φ else _)<=_;rw[if_pos (beq_self_eq_true _)];exact ft _ _
  |false=>
   replace hh:=hx▸hh;have hh:look Γ h=some _:=hh;refine aM (h1 h _ hh) λy e hy=>?_;have hl:=f h _ _ hh;refine(Mz hx).symm▸?_;refine e.symm▸?_;replace hl:=e▸hl;show(if(vn (s.k+1)==y)=true then _ else φ y)<=_;rw[(beq_eq_false_iff_ne.mpr λz=>by(replace hy:=f1▸((Eq.symm (z))▸hy));exact bS hy)];show φ y<=_;exact bR (hl) (eK _ _)
 have mA:=eK p.depth q.depth;have mB:=ft p.depth q.depth;generalize max p.depth q.depth=M at mA mB;rcases h7 with ⟨hN,h0⟩|⟨h0,h7⟩
 ·have f0:ig Γ η φ 0:=λh ka k hh=>absurd hh (hN h ka k);have g1:=p3 φ 0 (f0.val _ _ _ _);have g2:=q3 _ _ (hF 0 f0);rw[show dep oX 0=0 by(refine h0.symm▸?_);rfl,Nat.max_zero] at g1;have e2:=bR (uA fU (max 0 (p.fr φ))) (Nat.add_le_add_right hu _);rw[Nat.zero_max] at e2 g2;refine bR (Nat.add_le_add_left (bR g2 (Nat.max_le.mpr ⟨?_,?_⟩)) 1) (bR (?_:1+(8*M+7)<=_) (eK _ _))
  ·exact lN 0x6710da0432804920920534c [_,_] rfl mB
  ·exact lN 0x6710da0c04904904920920534e1443a83c504f9cc [_,_,_,_] rfl mA g1 e2
  ·exact lN 0x404c8680419c4328841248 [_] rfl
 ·have g1:=p3 φ Φ (f.val _ _ _ _);have g2:=q3 _ _ (hF Φ f);replace g1:=h0▸g1;rcases h7 with h7|h7
  ·rw[h7] at g1 g2;refine bR (Nat.add_le_add_left (bR g2 (Nat.max_le.mpr ⟨?_,?_⟩)) 1) (bR (?_:1+(8*M+7)<=_) (eK _ _))
   ·exact lN 0x6710da0432804920920534c [_,_] rfl mB
   ·exact gP _
   ·exact lN 0x404c8680419c4328841248 [_] rfl
  ·have hd':dep u' Φ=u'+Φ:=tZ (lN 0x301860049049205301844362 [_,_] rfl h7);refine hd'.symm▸?_;refine bR (Nat.add_le_add_left (bR g2 (Nat.max_le.mpr ⟨show 8*q.depth<=fU+max (8*M) (fU+Φ) from bR (Nat.mul_le_mul_left 8 mB) (bR (eK _ _) (dI _ _)),bR (uA fU _) (Nat.add_le_add_left (Nat.max_le.mpr ⟨show Φ<=max (8*M) (fU+Φ) from bR (dI _ _) (ft _ _),(bR g1 (Nat.max_le.mpr ⟨show 8*p.depth<=max (8*M) (fU+Φ) from bR (Nat.mul_le_mul_left 8 mA) (eK _ _),bR (uA fU Φ) (ft _ _)⟩))⟩) fU)⟩)) 1) ?_;rcases Nat.le_total (8*M) (fU+Φ) with hq|hq
   ·(refine(Nat.max_eq_right hq).symm▸?_);exact bR (lN 0x4d38104134c321049049205381844322 [_,_,_] rfl h7:_<=u'+Φ) (ft _ _)
   ·(refine(Nat.max_eq_left hq).symm▸?_);exact bR (lN 0x101361a010443683210490492059cc [_,_] rfl hu:_<=8*(1+M)) (eK _ _)
end
def ub(l:Lv)(b:Bool)(d:Nat):Nat:=match l,b with
|_,false=>0
|.o,true=>2^d-1
|.z,true=>2^(d-1)-1
def cap:Lv->Bool->Nat
|.z,false=>5|.o,false=>4|.z,true=>2|.o,true=>3
theorem mn(h:d+1<=cap .z b):ub .z b d=0:=by
 cases b with
|false=>rfl
|true=>have h:d+1<=2:=h;match d,h with
  |0,_=>rfl
  |1,_=>rfl
theorem xp(h:a<=b):2^a-1<=2^b-1:=Nat.sub_le_sub_right (Nat.pow_le_pow_right (by decide) h) 1
theorem m6(h:d<=d'):ub l b d<=ub l b d':=by
 cases b with
|false=>cases l<;>exact aR _
|true=>cases l with
  |z=>exact xp (Nat.sub_le_sub_right h 1)
  |o=>exact xp h
theorem CJ(d:Nat):2*(2^d-1)+1=2^(d+1)-1:=by
 have:=Nat.two_pow_pos d;rw[Nat.pow_succ];generalize 2^d=x at this;exact cK (lN 0xa11223018440a1322208201248049049201240240242248009049009089205301860 [_] rfl this) (lN 0x18440a13220a1122308208049201242248049089201248 [_] rfl)
theorem CK:ub .o b d=0∨2*ub .o b d+1<=ub .o b (d+1):=by
 cases b with
|false=>exact .inl rfl
|true=>exact .inr (Nat.le_of_eq (CJ d))
theorem dbl(h:2*a+1<=b):a+1<=b:=bR (Nat.add_le_add_right (Nat.le_mul_of_pos_left a (by decide)) 1) h
theorem m7:ub .o b d=0∨ub .o b d+1<=ub .o b (d+1):=by
 rcases CK with h|h
 ·exact .inl h
 ·exact .inr (dbl h)
theorem Oi:ub .o true d+1<=ub .o true (d+1):=dbl (Nat.le_of_eq (CJ d))
theorem MC:ub .z b d<=ub .o b (d+1):=by
 cases b with
|false=>exact aR _
|true=>exact xp (bR (Nat.sub_le d 1) (Nat.le_succ d))
theorem KY:ub .o b d<=ub .z b (d+1):=by cases b<;>exact aR _
theorem GJ(h:d<=3):ub .o true d<=7:=by
 match d,h with
|0,_=>decide
|1,_=>decide
|2,_=>decide
|3,_=>decide
theorem ij.val(h:ij Γ)(x:Str)(l:Lv)(k:Kd):ij (Γ++[⟨x,l,.val k⟩]):=λg ka k' hg=>by
 rw[iD] at hg;cases hx:(x==g) with
|true=>(replace hg:=(if_pos rfl)▸(hx▸hg));cases hg
|false=>(replace hg:=hx▸hg);exact h g ka k' hg
theorem ij.fz(h:ij Γ)(x:Str)(a r:Kd):ij (Γ++[⟨x,.z,.fn a r⟩]):=λg ka k' hg=>by
 rw[iD] at hg;cases hx:(x==g) with
|true=>(replace hg:=(if_pos rfl)▸(hx▸hg));cases hg
|false=>(replace hg:=hx▸hg);exact h g ka k' hg
def W:Nat->Int->Int
|0,_=>0
|d+1,V=>3+V+max (10*W d V) (W d (max V (W d V)))
theorem di:∀d {V:Int},0<=V->0<=W d V
|0,_,_=>bq _
|d+1,V,h=>by have:=di d h;show 0<=3+V+max (10*W d V) (W d (max V (W d V)));exact lI 0x10ce10da8132380804900928904920124124a24124814c805360 [_,_,_] rfl h this
theorem ez{d:Nat}{V:Int}(h:0<=V):3+V+10*W d V<=W (d+1) V/\3+V+W d (max V (W d V))<=W (d+1) V:=by
 have e:W (d+1) V=3+V+max (10*W d V) (W d (max V (W d V))):=rfl;exact e▸⟨Int.add_le_add_left (Int.le_max_left _ _) _,Int.add_le_add_left (Int.le_max_right _ _) _⟩
theorem yT{d:Nat}{V:Int}(h:0<=V):W d V<=W (d+1) V:=by have y1:=(ez (d:=d) h).1;have y2:=di d h;exact lI 0x34c0492490490492053a014d04432a04e8c5320 [_,_,_] rfl h y1 y2
theorem oB{V:Int}(h:0<=V):∀{d d':Nat},d<=d'->W d V<=W d' V
|d,d',q=>by
  induction d' with
  |zero=>(refine(Nat.le_zero.mp q).symm▸?_);exact bq _
  |succ d' ih=>
   rcases Nat.lt_or_ge d (d'+1) with g|g
   ·exact dQ (ih (ct ‹_›)) (yT h)
   ·rw[show d=d'+1 by exact cK (lN 0x6134c04904920506134c [_,_] rfl q) (lN 0x34184c04904920534184c [_,_] rfl g)];exact bq _
theorem good{d:Nat}{Γ:Sc}{l:Lv}{f:Bool}{t:Tm}(h:HG d Γ l f t k):∀b V,0<=V->(b=false->ij Γ)->d<=cap l b->bG V (W d V) Γ (ub l b d) (30+d) l t k:=by
 induction h with
|@num d Γ l f i=>intro b V hV hN hc;(clear hc;cases l);exact xQ.up (aR _) (aR _) (di _ hV);exact(rJ (by exact lN 82653221448 [_] rfl)).up (aR _) (aR _) (di _ hV)
|@name d Γ l f x k hx=>intro b V hV hN hc;(clear hc;cases l);exact(CH hx).up (aR _) (aR _) (di _ hV);exact(ou hx (by exact lN 82653221448 [_] rfl)).up (aR _) (aR _) (di _ hV)
|@kz d Γ f x hx=>intro b V hV hN hc;exact(p6 (D':=30) (CH hx) (d7 _ _)).up (aR _) (aR _) (di _ hV)
|@kW d Γ f x hx=>intro b V hV hN hc;exact(jE (D:=1) (k:=.aB) (bq _) (ou hx (aR _))).up (aR _) (aR _) (di _ hV)
|@kX d Γ f i=>intro b V hV hN hc;exact(jE (D:=1) (k:=.aB) (bq _) (rJ (aR _))).up (aR _) (aR _) (di _ hV)
|@lb d Γ f i=>intro b V hV hN hc;exact(DA (u':=0) (D':=0) xQ).up (aR _) (aR _) (di _ hV)
|@when d Γ l f a b' c k ha hb ic bl bV gs=>
  intro b V hV hN hc;have cf:=(ez (d:=d) hV).1;have hw0:=di d hV;have g1:=bl b V hV hN (bE ‹_›);have g2:=bV b V hV hN (bE ‹_›);have g3:=gs b V hV hN (bE ‹_›);clear hc gs bV bl ic hb ha;cases l with
  |z=>exact(MA g1 g2 g3 (bq _)).up (m6 (d7 _ _)) (Nat.le_succ _) (by exact lI 0x34130c0492090490492053a014d04432a04e8c5320 [_,_,_] rfl hV cf hw0)
  |o=>exact MB g1 g2 g3 m7 (aR _) (by exact lI 0x34130130c0491c90490492053a014d04432a04e8c5320 [_,_,_] rfl hV cf hw0)
|@use d Γ l f g a ka k hg ha bl=>
  intro b V hV hN hc;have cf:=(ez (d:=d) hV).1;have hw0:=di d hV;have g1:=bl b V hV hN (bE ‹_›);clear bl ha;cases l with
  |z=>(replace g1:=(mn hc)▸g1);exact Of hg g1 (by exact lI 0xe04d30124924124814e04432a04d8c5320 [_,_,_] rfl cf hw0)
  |o=>clear hc;cases b with
   |false=>exact absurd hg (hN rfl _ _ _)
   |true=>exact(Og hg g1 Oi (aR _)).up (aR _) (aR _) (by exact lI 0x34c0492490490492053a014d04432a04e8c5320 [_,_,_] rfl hV cf hw0)
|@a9 d Γ l f x a b' k k' ha hb bl bV=>
  intro b V hV hN hc;have cf:=(ez (d:=d) hV).1;have hw0:=di d hV;have g1:=bl b V hV hN (bE ‹_›);have g2:=bV b V hV (λq=>(hN q).val _ _ _) (bE ‹_›);clear bV bl hb ha;cases l with
  |z=>(replace g1:=(mn hc)▸g1);exact(rK g1 g2 (bq _)).up (m6 (d7 _ _)) (Nat.le_succ _) (by exact lI 0x34130c0492090490492053a014d04432a04e8c5320 [_,_,_] rfl hV cf hw0)
  |o=>exact rL g1 g2 m7 (aR _) (by exact lI 0x3413013210492090490492053a014d04432a04e8c5320 [_,_,_] rfl hV cf hw0)
|@bu d Γ l f n x a b' k hn ha hb bl bV=>
  intro b V hV hN hc;have cf:=(ez (d:=d) hV).1;have hw0:=di d hV;have g1:=bl b V hV hN (bE ‹_›);have g2:=bV b V hV (λq=>(hN q).val _ _ _) (bE ‹_›);clear bV bl hb ha;cases l with
  |z=>rw[mn hc] at g1 g2;exact KX hn hw0 g1 g2 (by exact lI 0xd04432930124124124814e80534110ca813a3 [_,_,_] rfl hV cf)
  |o=>exact KW hn g1 g2 m7 (aR _) (by exact lI 0x3413013210492090490492053a014d04432a04e8c5320 [_,_,_] rfl hV cf hw0)
|@def_ d Γ l f g x a b' ka k k' hl ha hb bl bV=>
  intro b V hV hN hc;have cf:=(ez (d:=d) hV).1;have hw0:=di d hV;have g1:=bl b V hV (λq=>(hN q).val _ _ _) (bE ‹_›);clear bl hb ha hl;cases l with
  |z=>
   have zH:0<=max V (W d V):=by exact lI 0xcd320201241241248049009049205360 [_,_] rfl hw0
   have h11:=(ez (d:=d) hV).2;have g2:=bV b _ zH (λq=>(hN q).fz _ _ _) (bE ‹_›);replace g1:=(mn hc)▸g1;exact(Oh g1 g2 (by exact lI 0x334c308049201241248 [_,_] rfl) (by exact lI 0x330d308049049201248 [_,_] rfl)).up (m6 (d7 _ _)) (Nat.le_succ _) (by exact lI 0xd30124124124814e8053413013a3 [_,_,_] rfl hV h11)
  |o=>cases b with
   |false=>
    have hc:d+1<=4:=hc;have g2:=bV true V hV (λq=>by exact tf q) (show d<=3 by(exact ct ‹_›));exact DB g1 g2 (w:=W (d+1) V) (by exact lI 0x3413013220492090490492053a014d04432a04e8c5320 [_,_,_] rfl hV cf hw0) (aR _) (GJ (ct ‹_›)) (.inl ⟨hN rfl,rfl⟩)
   |true=>
    have hc:d+1<=3:=hc;have g2:=bV true V hV (λq=>by exact tf q) (show d<=3 by(exact bE ‹_›));exact DB g1 g2 (w:=W (d+1) V) (by exact lI 0x3413013220492090490492053a014d04432a04e8c5320 [_,_,_] rfl hV cf hw0) (aR _) (GJ (bE ‹_›)) (.inr ⟨rfl,CK⟩)
|@bJ d Γ f a ha bl=>
  intro b V hV hN hc;have cf:=(ez (d:=d) hV).1;have hw0:=di d hV;have hc':d<=cap .o b:=by cases b with
   |false=>have hc:d+1<=5:=hc;show d<=4;(exact ct ‹_›)
   |true=>have hc:d+1<=2:=hc;show d<=3;exact lN 0x8cc04904920588184c [_] rfl hc
  exact(jE (D':=30) hw0 (bl b V hV hN hc')).up KY (d7 _ _) (by exact lI 0x34c0492490490492053a014d04432a04e8c5320 [_,_,_] rfl hV cf hw0)
|@hole d Γ f a ha bl=>
  intro b V hV hN hc;have cf:=(ez (d:=d) hV).1;have hw0:=di d hV;have hc':d<=cap .z b:=by cases b with
   |false=>have hc:d+1<=4:=hc;show d<=5;exact lN 0x94c04904920590184c [_] rfl hc
   |true=>have hc:d+1<=3:=hc;show d<=2;(exact ct ‹_›)
  exact(p6 (D:=30) (bl b V hV hN hc') (aR _)).up MC (d7 _ _) (by exact lI 0x34c0492490490492053a014d04432a04e8c5320 [_,_,_] rfl hV cf hw0)
|@lift d Γ f a ha bl=>intro b V hV hN hc;exact(DA (bl b V hV hN (bE ‹_›))).up (aR _) (aR _) (yT hV)
|@run d Γ a ha bl=>intro b V hV hN hc;exact(PN (bl b V hV hN (bE ‹_›))).up (aR _) (aR _) (yT hV)
|@aj d Γ l f w a b' ha hb bl bV=>
  intro b V hV hN hc;have cf:=(ez (d:=d) hV).1;have hw0:=di d hV;have g1:=bl b V hV hN (bE ‹_›);have g2:=bV b V hV hN (bE ‹_›);clear hc bV bl hb ha;cases l with
  |z=>exact Oe g1 g2 (by exact lI 0x34130c0492090490492053a014d04432a04e8c5320 [_,_,_] rfl hV cf hw0)
  |o=>exact xR g1 g2 m7 (aR _) (lI 0x34130c0492090490492053a014d04432a04e8c5320 [_,_,_] rfl hV cf hw0)
|@kept d Γ f x g a b' ha hb bl bV=>
  intro b V hV hN hc;have cf:=(ez (d:=d) hV).1;have hw0:=di d hV;have hw1:=oB hV (show d-1<=d by(exact Nat.sub_le _ _));have sL:=oB hV (show d-2<=d by(exact Nat.sub_le _ _));have iW:=di (d-1) hV;have jX:=di (d-2) hV;exact rL ((bl b V hV hN (by exact lN 0x34284c20124024124804900904920534184c [_,_] rfl hc)).up (m6 (b:=b) (show d-1<=d by(exact Nat.sub_le _ _))) (show 30+(d-1)<=30+d by exact lN 0x133e04284cf88049201248 [_] rfl) (bq _)) ((p6 (k:=.aB) (D:=30+d) (rK (x:=g) (ma:=0) (ka:=.aY) (jE (D:=1) (k:=.aB) (bq _) (ou (mw Γ ⟨x,.o,.val .aB⟩) (aR _))) (jE (D':=30) iW (bV b V hV (λq=>((hN q).val _ _ _).val _ _ _) (by exact lN 0x34284c20124024124804900904920534184c [_,_] rfl hc))) (w:=W (d-1) V) (lI 825917182536 [_] rfl)) (d7 _ _)).up (m6 (show d-1<=d by(exact Nat.sub_le _ _))) (aR _) (bq _)) m7 (aR _) (lI 0xd04c04c84124824a24124124814e80534110fa813a314f305320 [_,_,_,_] rfl hV cf hw1 iW)
|@twice d Γ f x g a y i b' c ha hb ic bl bV gs=>
  intro b V hV hN hc;have cf:=(ez (d:=d) hV).1;have hw0:=di d hV;have hw1:=oB hV (show d-1<=d by(exact Nat.sub_le _ _));have sL:=oB hV (show d-2<=d by(exact Nat.sub_le _ _));have iW:=di (d-1) hV;have jX:=di (d-2) hV;have fM:b=false->ij (Γ++[⟨x,.o,.val .aB⟩]++[⟨g,.z,.val .aY⟩]++[⟨y,.o,.val .aB⟩]):=λq=>(((hN q).val _ _ _).val _ _ _).val _ _ _;have fin:∀u4 u5,(ub .o b (d-2)=0∨ub .o b (d-2)+1<=u4)->(u4=0∨u4+1<=u5)->u5<=ub .o b d->bG V (W (d+1) V) Γ (ub .o b (d+1)) (30+(d+1)) .o (.a9 x a (.un .hole (.a9 g (.un .bJ (.name x)) (.un .bJ (.a9 y (.num i) (.aj .sum b' c)))))) .aB:=λu4 u5 h4 h5 h6=>by
   exact rL ((bl b V hV hN (by exact lN 0x34284c20124024124804900904920534184c [_,_] rfl hc)).up (m6 (b:=b) (show d-1<=d by(exact Nat.sub_le _ _))) (show 30+(d-1)<=30+d by exact lN 0x133e04284cf88049201248 [_] rfl) (bq _)) ((p6 (k:=.aB) (D:=30+d) (rK (x:=g) (ma:=0) (ka:=.aY) (jE (D:=1) (k:=.aB) (bq _) (ou (mw Γ ⟨x,.o,.val .aB⟩) (aR _))) (jE (D':=30) (by show(0:Int)<=1+0+(0+W (d-2) V);exact lI 0x41320060860049049205320 [_] rfl jX) (rL (oY:=.aB) (ka:=.aB) (k:=.aB) (x:=y) (rJ (i:=i) (dI _ _)) (xR (o:=.sum) (k':=.aB) ((bV b V hV fM (gP _)).up (m6 (b:=b) (show 0<=d-2 by(exact gP _))) (show 30+0<=30+(d-2) by(exact d7 _ _)) (bq _)) (gs b V hV fM (lN 0x34288c20124024124804900904920534184c [_,_] rfl hc)) h4 (aR _) (bq _)) h5 (aR _) (bq _))) (bq _)) (d7 _ _)).up h6 (aR _) (bq _)) m7 (aR _) (by show 1+W (d-1) V+(0+(1+0+(W 0 V+W (d-2) V)))<=W (d+1) V;have:W 0 V=0:=rfl;exact lI 0xf04104138d06086004c8412402412482492412412412481508053c1111a8142315130544e14e80680d [_,_,_,_,_,_] rfl hV cf hw1 sL jX this)
  by_cases hd:2<=d
  ·have e:d-2+1+1=d:=cK (lN 0x30184184288c201248049009049205322 [_] rfl hd) (lN 0x184184288c308049201241248 [_] rfl);have:=fin (ub .o b (d-2+1)) (ub .o b (d-2+1+1)) m7 m7 (by(refine e.symm▸?_);exact aR _);exact this
  ·have e:d-2=0:=cK (lN 0x80288c20124024124804920588184c [_] rfl (Nat.not_le.mp hd)) (lN 0x288c808049049201248 [_] rfl);have e0:ub .o b (d-2)=0:=by(refine e.symm▸?_);(clear fM hc hN;cases b)<;>rfl
   exact fin 0 0 (.inl e0) (.inl rfl) (gP _)
theorem p7(a:Tm)(φ:Str->Nat):1<=a.fr φ:=by cases a<;>first|exact aR 1|exact d7 1 _
section
variable{ev:Nat->Tm->Nat->H->Res V}{bf:H->V->Str->Tm->Nat->Prop}{ok:H->Prop}
def HoldsD(ev:Nat->Tm->Nat->H->Res V)(bf:H->V->Str->Tm->Nat->Prop)(φ:Str->Nat)(σ:H)(es:List (Str×V))(ρ:Str->Dv)(x:Str):Pm->Prop
|.v=>∃i,ρ x=.num i/\de es x=some (.int i)/\dB i
|.f=>∃F cv p body d' es',ρ x=.fn F/\de es x=some cv/\bf σ cv p body d'/\σ[d']?=some (.aD es')/\es'.length<=aO/\(∀i,dB i->dB (F i))/\∀τ i,dB i->eB ev (2*φ x) body (σ++τ).length (σ++τ++[.aD (bp es' p (.int i))]) (.int (F i))
def hU(ev:Nat->Tm->Nat->H->Res V)(bf:H->V->Str->Tm->Nat->Prop)(φ:Str->Nat)(Δ:Dm)(σ:H)(es:List (Str×V))(ρ:Str->Dv):Prop:=∀x m,Δ x=some m->HoldsD ev bf φ σ es ρ x m
variable(K:vm ev bf ok)
include K
theorem hU.grow(h:hU ev bf φ Δ σ es ρ):hU ev bf φ Δ (σ++τ) es ρ:=λx m he=>by
 have:=h x m he;clear he;cases m with
|v=>exact this
|f=>
  refine x6 (this) λF cv p body d' es' h1 h2 h3 h4 h5 h6 h7=>?_;refine⟨F,cv,p,body,d',es',h1,h2,K.sq h3,old h4,h5,h6,λfY i hi=>?_⟩;rw[List.append_assoc];exact h7 (τ++fY) i hi
omit K in
theorem hU.put(h:hU ev bf φ Δ σ es ρ)(Si:∀x,(y==x)=false->GK x=φ x)(hv:HoldsD ev bf GK σ (bp es y v) (upd ρ y dv) y m):hU ev bf GK (dW Δ y m) σ (bp es y v) (upd ρ y dv):=λx m' he=>by
 unfold dW at he;cases hx:(y==x) with
|true=>
  replace he:=(if_pos rfl)▸(hx▸he);(apply eR he)
  (refine(beq_iff_eq.mp hx)▸?_);exact hv
|false=>
  replace he:=hx▸he;have:=h x m' he;have g1:de (bp es y v) x=de es x:=by rw[mU,hx];rfl
  have g2:upd ρ y dv x=ρ x:=by unfold upd;(refine hx.symm▸?_);rfl
  clear he;cases m' with
  |v=>obtain⟨i,h1,h2,h3⟩:=this;exact⟨i,g2.trans h1,g1.trans h2,h3⟩
  |f=>obtain⟨F,cv,p,body,d',es',h1,h2,h3,h4,h5,h6,h7⟩:=this;exact⟨F,cv,p,body,d',es',g2.trans h1,g1.trans h2,h3,h4,h5,h6,by(refine(Si x hx).symm▸?_);exact h7⟩
omit K in
theorem hU.num(h:hU ev bf φ Δ σ es ρ)(hi:dB i):hU ev bf φ (dW Δ x .v) σ (bp es x (.int i)) (upd ρ x (.num i)):=
 hU.put h (λ_ _=>rfl) ⟨i,by unfold upd;rw[beq_self_eq_true];rfl,by rw[mU,beq_self_eq_true];rfl,hi⟩
theorem DC(h:PD Δ t):∀(φ:Str->Nat)(σ:H)(d:Nat)(es:List (Str×V))(ρ:Str->Dv),ok σ->σ[d]?=some (.aD es)->es.length+t.depth<=aO->hU ev bf φ Δ σ es ρ->dB (t.den ρ)/\eB ev (2*t.fr φ) t d σ (.int (t.den ρ)):=by
 induction h with
|num=>exact λφ σ d es ρ ho hd hl he=>⟨⟨Int.fmod_nonneg_of_pos _ (by decide),Int.fmod_lt_of_pos _ (by decide)⟩,K.num.more (by simp only[lV,lW,lX,lY,lZ,l0,l4,l7,l8];(exact dI _ _))⟩
|@name Δ x hx=>
  intro φ σ d es ρ ho hd hl he;refine ca (he x _ hx) λi h1 h2 h3=>?_;have e:(Tm.name x).den ρ=i:=by simp only[FH,FJ,FK,FL,FO,FP,FQ,FR,FT,h1]
  refine e.symm▸?_;exact⟨h3,(K.name hd h2).more (by simp only[lV,lW,lX,lY,lZ,l0,l4,l7,l8];(exact dI _ _))⟩
|@use Δ g a hg ha ih=>
  intro φ σ d es ρ ho hd hl he;refine x6 (he g _ hg) λF cv p body d' es' h1 h2 h3 h4 h5 h6 h7=>?_;have e:(Tm.use g a).den ρ=F (a.den ρ):=by simp only[FH,FJ,FK,FL,FO,FP,FQ,FR,FT,h1]
  have dZ:(Tm.use g a).depth=1+a.depth:=rfl;refine aZ (ih φ σ d es ρ ho hd (zz (aR _) ‹_›) he) λr1 e1=>?_;refine e.symm▸?_;have:=p7 a φ;exact⟨h6 _ r1,(K.use ho (lN 0x10334c8a1201240242248049089089205321 [_,_] rfl this) hd h2 h3 h4 h5 (e1.more (lN 0x40cd32210c888049201242248 [_,_] rfl)) (λτ=>(h7 τ _ r1).more (lN 0x40cc36210c888049089201248 [_,_] rfl))).more (by simp only[lV,lW,lX,lY,lZ,l0,l4,l7,l8];exact lN 0x404334c86206210334c888208049201242248049089201248 [_,_] rfl)⟩
|@aj Δ w a b ha hb bl bV=>
  intro φ σ d es ρ ho hd hl he;have dZ:(Tm.aj w a b).depth=1+max a.depth b.depth:=rfl;obtain⟨r1,e1⟩:=bl φ σ d es ρ ho hd (zz mL ‹_›) he;have h2:=λτ=>bV φ (σ++τ) d es ρ (K.add ho) (old hd) (zz mR ‹_›) (he.grow K);have:=p7 a φ;exact⟨w7 _ _ _,(K.aj ho (lN 0x10334c8a1201240242248049089089205321 [_,_] rfl this) (e1.more (lN 0x40cd32210c888049201242248 [_,_] rfl)) (λτ=>(h2 τ).2.more (lN 0x40cc36210c888049089201248 [_,_] rfl)) (Br r1)).more (by simp only[lV,lW,lX,lY,lZ,l0,l4,l7,l8];exact lN 0x404334c86206210334c888208049201242248049089201248 [_,_] rfl)⟩
|@when Δ a b c ha hb hc bl bV gs=>
  intro φ σ d es ρ ho hd hl he;have dZ:(Tm.when a b c).depth=1+max a.depth (max b.depth c.depth):=rfl;refine aZ (bl φ σ d es ρ ho hd (zz mL ‹_›) he) λr1 e1=>?_;have h2:=λτ=>bV φ (σ++τ) d es ρ (K.add ho) (old hd) (zz mM ‹_›) (he.grow K);have h3:=λτ=>gs φ (σ++τ) d es ρ (K.add ho) (old hd) (zz mC ‹_›) (he.grow K);have hr:=p7 a φ;have hd':(Tm.when a b c).den ρ=if a.den ρ=0 then c.den ρ else b.den ρ:=rfl
  refine hd'.symm▸?_
  by_cases hz:a.den ρ=0
  ·refine(if_pos hz).symm▸?_;exact⟨(h3 []).1,(K.when (N:=2*max (a.fr φ) (max (b.fr φ) (c.fr φ))) ho (by exact lN 0x1030ce34c8a1208201240240242248049089009089201240240242248049089009089205321 [_,_,_] rfl hr) (e1.more (by exact lN 0x40c338d32210c888208049201242248049201242248 [_,_,_] rfl)) (λτ=>by(refine(if_pos hz).symm▸?_);exact(h3 τ).2.more (by exact lN 0x40c330e36210c888208049089089201240242248049089201248 [_,_,_] rfl))).more (by simp only[lV,lW,lX,lY,lZ,l0,l4,l7,l8];exact lN 0x40430ce34c8620621030ce34c888208208208208208208208049201242248049201242248049089201248049089089201240242248049201242248049201242248049089089201240242248049089201248 [_,_,_] rfl)⟩
  ·refine(if_neg hz).symm▸?_;exact⟨(h2 []).1,(K.when (N:=2*max (a.fr φ) (max (b.fr φ) (c.fr φ))) ho (by exact lN 0x1030ce34c8a1208201240240242248049089009089201240240242248049089009089205321 [_,_,_] rfl hr) (e1.more (by exact lN 0x40c338d32210c888208049201242248049201242248 [_,_,_] rfl)) (λτ=>by(refine(if_neg hz).symm▸?_);exact(h2 τ).2.more (by exact lN 0x40c338c36210c888208049089201248049089089201240242248 [_,_,_] rfl))).more (by simp only[lV,lW,lX,lY,lZ,l0,l4,l7,l8];exact lN 0x40430ce34c8620621030ce34c888208208208208208208208049201242248049201242248049089201248049089089201240242248049201242248049201242248049089089201240242248049089201248 [_,_,_] rfl)⟩
|@a9 Δ x a b ha hb bl bV=>
  intro φ σ d es ρ ho hd hl he;have dZ:(Tm.a9 x a b).depth=1+max a.depth b.depth:=rfl;obtain⟨r1,e1⟩:=bl φ σ d es ρ ho hd (zz mL ‹_›) he;have hlen:=gX es x (.int (a.den ρ));have h2:=λτ=>bV φ (σ++τ++[.aD (bp es x (.int (a.den ρ)))]) (σ++τ).length _ _ (K.add (K.add ho)) bL (lN 0x38134c20124124124024124124804904904900900904920538140f1810cd4614050613cc [_,_,_,_,_,_] rfl hl dZ hlen) (hU.num ((he.grow K).grow K) r1);have:=p7 a φ;exact⟨(h2 []).1,(K.a9 ho (lN 0x10334c8a1201240242248049089089205321 [_,_] rfl this) hd (gO ‹_›) (e1.more (lN 0x40cd32210c888049201242248 [_,_] rfl)) (λτ=>(h2 τ).2.more (lN 0x40cc36210c888049089201248 [_,_] rfl))).more (by simp only[lV,lW,lX,lY,lZ,l0,l4,l7,l8];exact lN 0x404334c86206210334c888208049201242248049089201248 [_,_] rfl)⟩
|@bu Δ n x a b hn ha hb bl bV=>
  intro φ σ d es ρ ho hd hl he;have dZ:(Tm.bu n x a b).depth=1+max a.depth b.depth:=rfl;refine aZ (bl φ σ d es ρ ho hd (zz mL ‹_›) he) λr1 e1=>?_;have h2:=λτ i (hi:dB i)=>bV φ (σ++τ++[.aD (bp es x (.int i))]) (σ++τ).length _ _ (K.add (K.add ho)) bL (by have hlen:=gX es x (.int i);exact lN 0x38134c20124124124024124124804904904900900904920538140f1810cd4614050613cc [_,_,_,_,_,_] rfl hl dZ hlen) (hU.num ((he.grow K).grow K) hi);have hf:∀i,dB i->dB (b.den (upd ρ x (.num i))):=λi hi=>(h2 [] i hi).1;have:=p7 a φ;exact⟨rk hf _ _ r1,(K.bu ho (lN 0x10334c8a1201240242248049089089205321 [_,_] rfl this) hd (gO ‹_›) hn hf r1 (e1.more (lN 0x40cd32210c888049201242248 [_,_] rfl)) (λτ i hi=>(h2 τ i hi).2.more (lN 0x40cc36210c888049089201248 [_,_] rfl))).more (by simp only[lV,lW,lX,lY,lZ,l0,l4,l7,l8];exact lN 0x404334c86206210334c888208049201242248049089201248 [_,_] rfl)⟩
|@def_ Δ g x kd a b ha hb bl bV=>
  intro φ σ d es ρ ho hd hl he;have dZ:(Tm.def_ g x kd a b).depth=1+max a.depth b.depth:=rfl;have hbody:=λτ i (hi:dB i)=>bl φ (σ++τ++[.aD (bp es x (.int i))]) (σ++τ).length _ _ (K.add (K.add ho)) bL (by have hlen:=gX es x (.int i);exact lN 0x38134c20124124124024024124804904904900904904920538140f1810d13614050613cc [_,_,_,_,_,_] rfl hl dZ hlen) (hU.num ((he.grow K).grow K) hi);have hF:∀i,dB i->dB (a.den (upd ρ x (.num i))):=λi hi=>(hbody [] i hi).1;have h2:=λτ cv (hc:bf (σ++τ) cv x a d)=>bV (lU φ g (a.fr φ)) (σ++τ++[.aD (bp es g cv)]) (σ++τ).length (bp es g cv) (upd ρ g (.fn λi=>a.den (upd ρ x (.num i)))) (K.add (K.add ho)) bL (by have hlen:=gX es g cv;exact lN 0x38134c20124124124024124124804904904900900904920538140f1810cd4614050613cc [_,_,_,_,_,_] rfl hl dZ hlen)
   (hU.put ((he.grow K).grow K) (λy hy=>by unfold lU;(refine hy.symm▸?_);rfl) ⟨_,cv,x,a,d,es,by unfold upd;rw[beq_self_eq_true];rfl,by rw[mU,beq_self_eq_true];rfl,K.sq hc,old (old hd),by(exact gO ‹_›),hF,λfY i hi=>by
    have:=(hbody (τ++([.aD (bp es g cv)]++fY)) i hi).2;rw[←List.append_assoc,←List.append_assoc] at this;have e:lU φ g (a.fr φ) g=a.fr φ:=by unfold lU;rw[beq_self_eq_true];rfl
    refine e.symm▸?_
    exact this⟩)
  refine eY (K.new σ x a d) λpg c0 hc0=>?_;have:=p7 b (lU φ g (a.fr φ));exact⟨(h2 pg c0 hc0).1,(K.def_ ho (lN 0x10c8a1049089205321 [_] rfl this) hd (gO ‹_›) (λτ cv hc=>(h2 τ cv hc).2)).more (by simp only[lV,lW,lX,lY,lZ,l0,l4,l7,l8];exact lN 0x404c86206210c881248 [_] rfl)⟩
end
structure mc(P:Prog):Prop where
 zI:P.fns 10=some wc
 GL:P.fns 40=some v7
 GN:P.fns 56=some z0
 GO:P.fns 57=some Bk
 GP:P.fns 58=some wg
 GQ:P.fns 59=some nM
 sM:P.fns 60=some zX
 GR:P.fns 61=some wh
section
variable{P:Prog}{sc:List Int}(B:mc P)
include B
theorem kL{n b:Nat}{es:List (Str×V)}{x:Str}{v:V}{σ:H}(hb:σ[b]?=some (.aD es))(hl:es.length<=aO):
  av P sc (n+1) 59 [.ref b,.str x,v] σ=.ok (.ref σ.length) (σ++[.aD (bp es x v)]):=by
 rw[cp B.GQ rfl];refine(congrArg bW ((bk (Ds (aE rfl) (CB hb hl))).trans ((dC (j8 (aE rfl) (aE rfl) (aE rfl) (CA bL hl))).trans (bw (aE rfl))))).trans ?_;rw[xh];rfl
def Q0:SL:=match wg.body with
|.cons _ r=>r
|_=>.nil
theorem iG{n d:Nat}{t:Tm}{w:Str}{σ af:H}{v st:V}{L':aQ}(hw:∀C L,ak C (.au (.aa 0) (.int 0)) (some t.ag::L) σ=.ok (.str w) σ)(h:aW (cx P sc n) Q0 [some t.ag,some (.ref d),some st,some (.str w),none,none,none,none] σ=.ok (.ret v) L' af):av P sc (n+1) 58 [t.ag,.ref d,st] σ=.ok v af:=by
 rw[cp B.GP rfl];exact(congrArg bW ((bk (hw _ _)).trans h)).trans rfl
theorem EC{n d:Nat}{i:Int}{st:V}(σ:H):av P sc (n+1) 58 [(Tm.num i).ag,.ref d,st] σ=.ok (.int (i.fmod 1000003)) σ:=
 iG B (λ_ _=>rfl) (b8 (by rfl') (bw (bT rfl rfl rfl)))
theorem DD{n d:Nat}{es:List (Str×V)}{x:Str}{v st:V}{σ:H}(hd:σ[d]?=some (.aD es))(hv:de es x=some v):av P sc (n+1) 58 [(Tm.name x).ag,.ref d,st] σ=.ok v σ:=
 iG B (λ_ _=>rfl) (jmp 1 (by rfl') (b8 (by rfl') (bw (cC (aE rfl) rfl (ja hd hv)))))
theorem Oj{n d:Nat}{p:Tm}{i:Int}{st:V}{σ ae:H}(e1:av P sc n 58 [p.ag,.ref d,st] σ=.ok (.int i) ae):av P sc (n+1) 58 [(Tm.un .lift p).ag,.ref d,st] σ=.ok (Tm.num i).ag ae:=
 iG B (λ_ _=>rfl) (jmp 3 (by rfl') (b8 (by rfl') (bw (bU (az rfl (az (aN rfl e1) ba)) (nb rfl)))))
theorem ED{n d:Nat}{u:U2}{x y:Tm}{i j:Int}{st:V}{σ ae ao:H}(e1:av P sc n 58 [x.ag,.ref d,st] σ=.ok (.int i) ae)(e2:av P sc n 58 [y.ag,.ref d,st] ae=.ok (.int j) ao)(hi:small i=true):
  ∃τ,av P sc (n+1) 58 [(Tm.aj u x y).ag,.ref d,st] σ=.ok (.int (jn u i j)) (ao++τ):=by
 have two:∀L:aQ,cq L 4=some (.int i)->cq L 5=some (.int j)->ak (cx P sc n) (.ah {.aj .Add (.aa 4) (.aa 5),.aj .Mult (.aa 4) (.aa 5)}) L ao=.ok (.ref ao.length) (ao++[.ah [.int (i+j),.int (i*j)]]):=λL h3 h4=>
  dG (az (bT (aE h3) (aE h4) rfl) (az (bT (aE h3) (aE h4) (CG hi ao)) ba)) (nb rfl)
 cases u with
|less=>
  refine⟨[],?_⟩;rw[List.append_nil];have hr:V.int (if decide (i<j)=true then 1 else 0)=V.int (jn .less i j):=by
   show _=V.int (if i<j then 1 else 0)
   by_cases h:i<j<;>simp[h]
  rw[←hr];exact iG B (λ_ _=>rfl) (jmp 7 (by rfl') ((bk (aN rfl e1)).trans ((bk (aN rfl e2)).trans (b8 (by rfl') (bw (tX (nu (aE rfl) (aE rfl) (Er i j ao)) rfl))))))
|sum=>
  refine⟨[.ah [.int (i+j),.int (i*j)]],?_⟩;exact iG B (λ_ _=>rfl) (jmp 7 (by rfl') ((bk (aN rfl e1)).trans ((bk (aN rfl e2)).trans ((bX (by rfl')).trans (bw (bT (cC (two _ rfl rfl) (by rfl') (dF bL rfl (by decide) (by decide))) rfl rfl))))))
|product=>
  refine⟨[.ah [.int (i+j),.int (i*j)]],?_⟩;exact iG B (λ_ _=>rfl) (jmp 7 (by rfl') ((bk (aN rfl e1)).trans ((bk (aN rfl e2)).trans ((bX (by rfl')).trans (bw (bT (cC (two _ rfl rfl) (by rfl') (dF bL rfl (by decide) (by decide))) rfl rfl))))))
theorem DE{n d:Nat}{x y z:Tm}{i:Int}{v st:V}{σ ae ao:H}(e1:av P sc n 58 [x.ag,.ref d,st] σ=.ok (.int i) ae)(e2:av P sc n 58 [(if i=0 then z else y).ag,.ref d,st] ae=.ok v ao):av P sc (n+1) 58 [(Tm.when x y z).ag,.ref d,st] σ=.ok v ao:=by
 have hi:∀L,L=[some (Tm.when x y z).ag,some (.ref d),some st,some (.str "when"),none,none,none,none]->ak (cx P sc n) (.au (.aa 0) (.aj .Add (.int 2) (.toInt (.cmp .Eq (.call 58 {.au (.aa 0) (.int 1),.aa 1,.aa 2}) (.int 0))))) L σ=.ok (if i=0 then z else y).ag ae:=λL hL=>by
  subst hL;have hc:=nu (C:=cx P sc n) (L:=[some (Tm.when x y z).ag,some (.ref d),some st,some (.str "when"),none,none,none,none]) (b:=.int 0) (aN (az (a:=.au (.aa 0) (.int 1)) rfl (aP (i:=1) rfl (aP (i:=2) rfl ba))) e1) rfl (xN i 0 ae)
  by_cases h:i=0
  ·rw[if_pos h];rw[h] at hc;exact cC (aE rfl) (bT rfl (tX hc rfl) rfl) rfl
  ·rw[if_neg h];rw[beq_eq_false_iff_ne.mpr h] at hc;exact cC (aE rfl) (bT rfl (tX hc rfl) rfl) rfl
 exact iG B (λ_ _=>rfl) (jmp 5 (by rfl') (b8 (by rfl') (bw (aN (az (hi _ rfl) rfl) e2))))
theorem tN{n d:Nat}{t:Tm}{w:Str}{σ af:H}{v st:V}(hw:∀C L,ak C (.au (.aa 0) (.int 0)) (some t.ag::L) σ=.ok (.str w) σ)(hs:w="let"∨w="turns"∨w="def"∨w="use")(h:av P sc n 60 [t.ag,.ref d,st] σ=.ok v af):av P sc (n+1) 58 [t.ag,.ref d,st] σ=.ok v af:=by
 refine iG B (L':=[some t.ag,some (.ref d),some st,some (.str w),none,none,none,none]) hw ?_;have hr:aW (cx P sc n) {.ret (.call 60 {.aa 0,.aa 1,.aa 2})} [some t.ag,some (.ref d),some st,some (.str w),none,none,none,none] σ=.ok (.ret v) [some t.ag,some (.ref d),some st,some (.str w),none,none,none,none] af:=
  bw (aN rfl h)
 rcases hs with rfl|rfl|rfl|rfl<;>exact jmp 6 (by rfl') (b8 (by rfl') hr)
theorem EE{n d:Nat}{x:Str}{p q:Tm}{u v st:V}{es:List (Str×V)}{σ ae ao:H}(e1:av P sc (n+1) 58 [p.ag,.ref d,st] σ=.ok u ae)(hd:ae[d]?=some (.aD es))(hl:es.length<=aO)(e2:av P sc (n+1) 58 [q.ag,.ref ae.length,st] (ae++[.aD (bp es x u)])=.ok v ao):av P sc (n+3) 58 [(Tm.a9 x p q).ag,.ref d,st] σ=.ok v ao:=by
 refine tN B (λ_ _=>rfl) (.inl rfl) ?_;rw[cp B.sM rfl];exact(congrArg bW (b8 (by rfl') ((bk (aN rfl e1)).trans (bw (aN (az rfl (az (aN (aP rfl (az rfl rfl)) (kL B hd hl)) rfl)) e2))))).trans rfl
def Ol:SL:=.cons (.aK 5 (.call 58 {.au (.aa 0) (.int 4),.call 59 {.aa 1,.au (.aa 0) (.int 2),.aa 5},.aa 2})) .nil
theorem IX{n d:Nat}{k:Int}{x:Str}{p q:Tm}{st:V}(I:Nat->V->H->Prop)(hI:∀j v af,j<k.toNat->I j v af->∃es,af[d]?=some (.aD es)/\es.length<=aO/\∃v' cO,av P sc (n+1) 58 [q.ag,.ref af.length,st] (af++[.aD (bp es x v)])=.ok v' cO/\I (j+1) v' cO):
  ∀(r j:Nat)(v:V)(y:Option V)(σ:H),j+r=k.toNat->I j v σ->∃v' y' af,dP (λk'=>M.pure ((dM k)[k']?.map λv=>[(6,v)])) (aW (cx P sc (n+1)) Ol) (r+1) j [some (Tm.bu k x p q).ag,some (.ref d),some st,none,none,some v,y] σ=
   .ok .next [some (Tm.bu k x p q).ag,some (.ref d),some st,none,none,some v',y'] af/\I k.toNat v' af:=by
 intro r
 induction r with
|zero=>
  intro j v y σ hj h;have:j=k.toNat:=by assumption
  clear hj;subst this;exact⟨v,y,σ,tK (by rw[Bq];rfl),h⟩
|succ r ih=>
  intro j v y σ hj h;refine bB λXx aI=>?_;obtain⟨es,hd,hl,v',cO,e,h'⟩:=hI j v σ (lN 0x34184c04900904920634106138c [_,_,_] rfl hj) h;refine gg (ih (j+1) v' (some (.int j)) cO (cK (lN 0x38134184c04900904920638106134c [_,_,_] rfl hj) (lN 0x4e06134c04904920630106138d [_,_,_] rfl hj)) h') λv2 y2 ao e2 h2=>?_;refine aI ?_;refine⟨v2,y2,ao,?_,h2⟩;refine(q5 (ps:=[(6,.int j)]) (ae:=σ) (by rw[tM (by exact lN 0x34184c04900904920634106138c [_,_,_] rfl hj)];rfl) rfl ((bk (aN (az rfl (az (aN (aP rfl (az (x:=.str x) rfl (by rfl))) (kL B hd hl)) (by rfl))) e)).trans fy)).trans e2
theorem CL{n d:Nat}{k:Int}{x:Str}{p q:Tm}{u st:V}{σ ae:H}(hk:0<=k/\k<=1000000)(e1:av P sc (n+1) 58 [p.ag,.ref d,st] σ=.ok u ae)(I:Nat->V->H->Prop)(h0:I 0 u ae)(hI:∀j v af,j<k.toNat->I j v af->∃es,af[d]?=some (.aD es)/\es.length<=aO/\∃v' cO,av P sc (n+1) 58 [q.ag,.ref af.length,st] (af++[.aD (bp es x v)])=.ok v' cO/\I (j+1) v' cO):
  ∃v ao,av P sc (n+3) 58 [(Tm.bu k x p q).ag,.ref d,st] σ=.ok v ao/\I k.toNat v ao:=by
 refine gg (IX (sc:=sc) B (n:=n) (k:=k) (x:=x) (p:=p) (q:=q) I hI k.toNat 0 u none ae (by exact cK (lN 825917182536 [_] rfl) (lN 82144399944 [_] rfl)) h0) λv y ao e2 h2=>?_;refine⟨v,ao,tN B (λ_ _=>rfl) (.inr (.inl rfl)) ?_,h2⟩;rw[cp B.sM rfl];exact(congrArg bW (jmp 1 (by rfl') (b8 (by rfl') ((bk (aN rfl e1)).trans ((dC (w5 rfl hk e2)).trans (bw (aE rfl))))))).trans rfl
theorem EF{n d:Nat}{g x kd:Str}{p q:Tm}{v st:V}{es:List (Str×V)}{σ ao:H}(hd:σ[d]?=some (.aD es))(hl:es.length<=aO)(e2:av P sc (n+1) 58 [q.ag,.ref (σ.length+1),st] (σ++[.ah [.str x,p.ag,.ref d]]++[.aD (bp es g (.ref σ.length))])=.ok v ao):av P sc (n+3) 58 [(Tm.def_ g x kd p q).ag,.ref d,st] σ=.ok v ao:=by
 refine tN B (w:="def") (λ_ _=>rfl) (.inr (.inr (.inl rfl))) ?_;rw[cp B.sM rfl];have hw:=kL (sc:=sc) B (n:=n) (x:=g) (v:=.ref σ.length) (old (τ:=[.ah [.str x,p.ag,.ref d]]) hd) hl;rw[List.length_append,List.length_singleton] at hw;exact(congrArg bW (jmp 2 (by rfl') (b8 (by rfl') ((bk (dG (az rfl (az rfl rfl)) (nb rfl))).trans (bw (aN (az rfl (az (aN (aP rfl (az rfl rfl)) hw) rfl)) e2)))))).trans rfl
theorem EG{n d d' lc:Nat}{g x:Str}{p body:Tm}{u v st:V}{es es':List (Str×V)}{σ ae ao:H}(hd:σ[d]?=some (.aD es))(hg:de es g=some (.ref lc))(e1:av P sc (n+1) 58 [p.ag,.ref d,st] σ=.ok u ae)(hc1:ae[lc]?=some (.ah [.str x,body.ag,.ref d']))(hd':ae[d']?=some (.aD es'))(hl:es'.length<=aO)(e2:av P sc (n+1) 58 [body.ag,.ref ae.length,st] (ae++[.aD (bp es' x u)])=.ok v ao):av P sc (n+3) 58 [(Tm.use g p).ag,.ref d,st] σ=.ok v ao:=by
 refine tN B (λ_ _=>rfl) (.inr (.inr (.inr rfl))) ?_;rw[cp B.sM rfl];exact(congrArg bW (jmp 3 (by rfl') ((bk (cC (aE rfl) rfl (ja hd hg))).trans ((bk (aN rfl e1)).trans (bw (aN (az (cC (aE rfl) rfl (dF hc1 rfl (by decide) (by decide))) (az (aN (az (cC (aE rfl) rfl (dF hc1 rfl (by decide) (by decide))) (az (cC (aE rfl) rfl (dF hc1 rfl (by decide) (by decide))) rfl)) (kL B hd' hl)) rfl)) e2)))))).trans rfl
end
theorem text_len{i:Int}(h0:0<=i)(h1:i<10^10):(Str.ofString "v").length+(gv i).length<=aO:=by
 refine b6 (Int.eq_ofNat_of_zero_le h0) λn bh=>?_;subst bh;have hn:n<10^10:=Int.ofNat_lt.mp (Int.lt_of_lt_of_le h1 (by decide));have h2:n.repr.length<=10:=(Nat.length_repr_le_iff (by decide)).mpr hn;have e:(gv (n:Int)).length=n.repr.length:=by
  show(Str.ofString n.repr).length=_;rw[Str.ofString_eq_toList];show(n.repr.toList.map Char.toNat).length=_;rw[List.length_map,String.length_toList]
 have e2:(Str.ofString "v").length=1:=by decide+kernel
 have:aO=1000000:=rfl;exact lN 0xe04d30124124024024124024124124816a3c63cd1a1306007247d078ce [_,_,_,_] rfl h2 e e2 this
def d0(s:Sg):O:=.ah [.int s.k,.bool s.fl,.int s.c]
section
variable{P:Prog}{sc:List Int}(B:mc P)
include B
theorem tA{n st:Nat}{s:Sg}{σ:H}(hst:σ[st]?=some (d0 s))(h0:0<=s.k)(h1:s.k+1<10^10):av P sc (n+1) 57 [.ref st] σ=.ok (.str (vn (s.k+1))) (σ.set st (d0 s.new)):=by
 rw[cp B.GO rfl];have hs:rE (.int (s.k+1)) (σ.set st (d0 s.new))=.ok (.str (gv (s.k+1))) (σ.set st (d0 s.new)):=by
  show(if 0<=s.k+1/\s.k+1<10^10 then _ else _:M V) _=_;rw[if_pos ⟨by exact lI 0x61320049049205320 [_] rfl h0,by exact lI 0x7407f87087507a4184184c049049205007407f87087507a4184184c [_] rfl h1⟩];rfl
 have ha:binop .Add (.str "v") (.str (gv (s.k+1))) (σ.set st (d0 s.new))=.ok (.str (vn (s.k+1))) (σ.set st (d0 s.new)):=by
  show(if(Str.ofString "v").length+(gv (s.k+1)).length<=aO then _ else _:M V) _=_;rw[if_pos (text_len (by exact lI 0x61320049049205320 [_] rfl h0) h1)];rfl
 exact(congrArg bW ((dC (j8 (bT (cC (aE rfl) rfl (dF hst rfl (by decide) (by decide))) rfl rfl) (aE rfl) rfl (m5 hst ⟨by decide,(by decide:(0:Int)<3),nb rfl⟩))).trans (bw (bT rfl (by rw[Bx,aU (cC (aE rfl) rfl (dF (gy hst) rfl (by decide) (by decide)))];exact hs) ha)))).trans rfl
def PO:SL:=match wh.body with
|.cons _ r=>r
|_=>.nil
theorem kQ{n d:Nat}{t:Tm}{w:Str}{σ af:H}{v st:V}{L':aQ}(hw:∀C L,ak C (.au (.aa 0) (.int 0)) (some t.ag::L) σ=.ok (.str w) σ)(h:aW (cx P sc n) PO [some t.ag,some (.ref d),some st,some (.str w),none,none,none,none,none,none] σ=.ok (.ret v) L' af):av P sc (n+1) 61 [t.ag,.ref d,st] σ=.ok v af:=by
 rw[cp B.GR rfl];exact(congrArg bW ((bk (hw _ _)).trans h)).trans rfl
theorem PQ{n d:Nat}{i:Int}{st:V}(σ:H):av P sc (n+1) 61 [(Tm.num i).ag,.ref d,st] σ=.ok (Tm.num i).ag σ:=
 kQ B (λ_ _=>rfl) (b8 (by rfl') (bw (aE rfl)))
theorem Om{n d:Nat}{es:List (Str×V)}{x y:Str}{st:V}{σ:H}(hd:σ[d]?=some (.aD es))(hv:de es x=some (.str y)):av P sc (n+1) 61 [(Tm.name x).ag,.ref d,st] σ=.ok (Tm.name y).ag σ:=
 kQ B (λ_ _=>rfl) (jmp 1 (by rfl') (b8 (by rfl') (bw (bU (az rfl (az (cC (aE rfl) rfl (ja hd hv)) ba)) (nb rfl)))))
theorem Oo{n d:Nat}{p:Tm}{v st:V}{σ ae:H}(e1:av P sc n 58 [p.ag,.ref d,st] σ=.ok v ae):av P sc (n+1) 61 [(Tm.un .hole p).ag,.ref d,st] σ=.ok v ae:=
 kQ B (λ_ _=>rfl) (jmp 2 (by rfl') (b8 (by rfl') (bw (aN rfl e1))))
theorem PR{n d:Nat}{es:List (Str×V)}{g y:Str}{p R:Tm}{st:V}{σ ae:H}(hd:σ[d]?=some (.aD es))(hv:de es g=some (.str y))(e1:av P sc n 61 [p.ag,.ref d,st] σ=.ok R.ag ae):av P sc (n+1) 61 [(Tm.use g p).ag,.ref d,st] σ=.ok (Tm.use y R).ag ae:=
 kQ B (λ_ _=>rfl) (jmp 3 (by rfl') (b8 (by rfl') (bw (bU (az rfl (az (cC (aE rfl) rfl (ja hd hv)) (az (aN rfl e1) ba))) (nb rfl)))))
theorem PW{n d:Nat}{x y:Str}{p q R T:Tm}{st:V}{es:List (Str×V)}{σ cj ae ao:H}(e0:av P sc (n+1) 57 [st] σ=.ok (.str y) cj)(e1:av P sc (n+1) 61 [p.ag,.ref d,st] cj=.ok R.ag ae)(hd:ae[d]?=some (.aD es))(hl:es.length<=aO)(e2:av P sc (n+1) 61 [q.ag,.ref ae.length,st] (ae++[.aD (bp es x (.str y))])=.ok T.ag ao):av P sc (n+2) 61 [(Tm.a9 x p q).ag,.ref d,st] σ=.ok (Tm.a9 y R T).ag ao:=
 kQ B (w:="let") (λ_ _=>rfl) (jmp 4 (by rfl') (b8 (ae:=σ) (by rfl') ((bk (aN (by rfl) e0)).trans ((bk (v:=.int 1) (ae:=cj) rfl).trans ((bk (aN rfl e1)).trans ((bk (aN (az rfl (az (aN (aP rfl (az rfl rfl)) (kL B hd hl)) rfl)) e2)).trans (bw (bT rfl (bU rfl (nb rfl)) rfl))))))))
theorem MD{k:Int}{n d:Nat}{x y:Str}{p q R T:Tm}{st:V}{es:List (Str×V)}{σ cj ae ao:H}(e0:av P sc (n+1) 57 [st] σ=.ok (.str y) cj)(e1:av P sc (n+1) 61 [p.ag,.ref d,st] cj=.ok R.ag ae)(hd:ae[d]?=some (.aD es))(hl:es.length<=aO)(e2:av P sc (n+1) 61 [q.ag,.ref ae.length,st] (ae++[.aD (bp es x (.str y))])=.ok T.ag ao):av P sc (n+2) 61 [(Tm.bu k x p q).ag,.ref d,st] σ=.ok (Tm.bu k y R T).ag ao:=
 kQ B (w:="turns") (λ_ _=>rfl) (jmp 4 (by rfl') (b8 (ae:=σ) (by rfl') ((bk (aN (by rfl) e0)).trans ((bk (v:=.int 2) (ae:=cj) rfl).trans ((bk (aN rfl e1)).trans ((bk (aN (az rfl (az (aN (aP rfl (az rfl rfl)) (kL B hd hl)) rfl)) e2)).trans (bw (bT rfl (bU rfl (nb rfl)) rfl))))))))
theorem PZ{n d:Nat}{g x y z:Str}{p q R T:Tm}{st:V}{es es':List (Str×V)}{σ cj ae ao b9:H}(e0:av P sc (n+1) 57 [st] σ=.ok (.str y) cj)(jW:av P sc (n+1) 57 [st] cj=.ok (.str z) ae)(hd:ae[d]?=some (.aD es))(hl:es.length<=aO)(e1:av P sc (n+1) 61 [p.ag,.ref ae.length,st] (ae++[.aD (bp es x (.str z))])=.ok R.ag ao)(hd2:ao[d]?=some (.aD es'))(hl2:es'.length<=aO)(e2:av P sc (n+1) 61 [q.ag,.ref ao.length,st] (ao++[.aD (bp es' g (.str y))])=.ok T.ag b9):
  av P sc (n+2) 61 [(Tm.def_ g x "number" p q).ag,.ref d,st] σ=.ok (Tm.def_ y z "number" R T).ag b9:=
 kQ B (λ_ _=>rfl) (jmp 5 (by rfl') (b8 (by rfl') ((bk (aN rfl e0)).trans ((bk (aN rfl jW)).trans ((bk (aN (az rfl (az (aN (aP rfl (az rfl rfl)) (kL B hd hl)) rfl)) e1)).trans ((bk (aN (az rfl (az (aN (aP rfl (az rfl rfl)) (kL B hd2 hl2)) rfl)) e2)).trans (bw (bU rfl (nb rfl)))))))))
end
section
variable{P:Prog}{sc:List Int}(B:mc P)
include B
theorem Qa(e1:av P sc n 61 [x.ag,.ref d,st] σ=.ok X.ag ae)(e2:av P sc n 61 [y.ag,.ref d,st] ae=.ok Y.ag ao):
  av P sc (n+1) 61 [(Tm.aj u x y).ag,.ref d,st] σ=.ok (Tm.aj u X Y).ag (ao++[.ah [X.ag,Y.ag]]):=by
 have f1:M.bind (ak (cx P sc n) (.call 61 {.aa 9,.aa 1,.aa 2}) (b7 (cQ [some (Tm.aj u x y).ag,some (.ref d),some st,some (.str u.str),none,none,none,none,none,none] [1,2]) 9 x.ag)) (λy=>M.pure (some y)) σ=.ok (some X.ag) ae:=by
  rw[aU (aN rfl e1)];rfl
 have f2:M.bind (ak (cx P sc n) (.call 61 {.aa 9,.aa 1,.aa 2}) (b7 (cQ [some (Tm.aj u x y).ag,some (.ref d),some st,some (.str u.str),none,none,none,none,none,none] [1,2]) 9 y.ag)) (λy=>M.pure (some y)) ae=.ok (some Y.ag) ao:=by
  rw[aU (aN rfl e2)];rfl
 have hc:dk (.fix [x.ag,y.ag]) (λit=>M.bind (ak (cx P sc n) (.call 61 {.aa 9,.aa 1,.aa 2}) (b7 (cQ [some (Tm.aj u x y).ag,some (.ref d),some st,some (.str u.str),none,none,none,none,none,none] [1,2]) 9 it)) λy=>M.pure (some y)) 3 0 σ=.ok [X.ag,Y.ag] ao:=
  gW (n:=2) (y:=some X.ag) (r:=[Y.ag]) (ae:=σ) rfl f1 (gW (n:=1) (y:=some Y.ag) (r:=[]) rfl f2 (kK rfl))
 have ht:jF (.ref ao.length) (ao++[.ah [X.ag,Y.ag]])=.ok (.ax [X.ag,Y.ag]) (ao++[.ah [X.ag,Y.ag]]):=by
  show M.bind (bI _) _ _=_;rw[aU (dX bL)];rfl
 have oO:aW (cx P sc n) {.ret (.aj .Add (.ax {.aa 3}) (.tuple (.comp (.call 61 {.aa 9,.aa 1,.aa 2}) 9 [1,2] (.slc (.aa 0) (.int 1) .none))))} [some (Tm.aj u x y).ag,some (.ref d),some st,some (.str u.str),none,none,none,none,none,none] σ=.ok (.ret (Tm.aj u X Y).ag) [some (Tm.aj u x y).ag,some (.ref d),some st,some (.str u.str),none,none,none,none,none,none] (ao++[.ah [X.ag,Y.ag]]):=
  bw (bT (bU rfl (nb rfl)) (uz (kP rfl rfl rfl (nb rfl) hc) ht) rfl)
 refine kQ B (λ_ _=>rfl) (Eq.trans ?_ oO);(clear oO hc f2 f1;cases u)<;>exact jmp 5 (by rfl') (bX (by rfl'))
theorem Oq(e1:av P sc n 61 [x.ag,.ref d,st] σ=.ok X.ag ae)(e2:av P sc n 61 [y.ag,.ref d,st] ae=.ok Y.ag ao)(e3:av P sc n 61 [z.ag,.ref d,st] ao=.ok Z.ag b9):
  av P sc (n+1) 61 [(Tm.when x y z).ag,.ref d,st] σ=.ok (Tm.when X Y Z).ag (b9++[.ah [X.ag,Y.ag,Z.ag]]):=by
 have f1:M.bind (ak (cx P sc n) (.call 61 {.aa 9,.aa 1,.aa 2}) (b7 (cQ [some (Tm.when x y z).ag,some (.ref d),some st,some (.str "when"),none,none,none,none,none,none] [1,2]) 9 x.ag)) (λy=>M.pure (some y)) σ=.ok (some X.ag) ae:=by
  rw[aU (aN rfl e1)];rfl
 have f2:M.bind (ak (cx P sc n) (.call 61 {.aa 9,.aa 1,.aa 2}) (b7 (cQ [some (Tm.when x y z).ag,some (.ref d),some st,some (.str "when"),none,none,none,none,none,none] [1,2]) 9 y.ag)) (λy=>M.pure (some y)) ae=.ok (some Y.ag) ao:=by
  rw[aU (aN rfl e2)];rfl
 have f3:M.bind (ak (cx P sc n) (.call 61 {.aa 9,.aa 1,.aa 2}) (b7 (cQ [some (Tm.when x y z).ag,some (.ref d),some st,some (.str "when"),none,none,none,none,none,none] [1,2]) 9 z.ag)) (λy=>M.pure (some y)) ao=.ok (some Z.ag) b9:=by
  rw[aU (aN rfl e3)];rfl
 have hc:dk (.fix [x.ag,y.ag,z.ag]) (λit=>M.bind (ak (cx P sc n) (.call 61 {.aa 9,.aa 1,.aa 2}) (b7 (cQ [some (Tm.when x y z).ag,some (.ref d),some st,some (.str "when"),none,none,none,none,none,none] [1,2]) 9 it)) λy=>M.pure (some y)) 4 0 σ=.ok [X.ag,Y.ag,Z.ag] b9:=
  gW (n:=3) (y:=some X.ag) (r:=[Y.ag,Z.ag]) (ae:=σ) rfl f1 (gW (n:=2) (y:=some Y.ag) (r:=[Z.ag]) (ae:=ae) rfl f2 (gW (n:=1) (y:=some Z.ag) (r:=[]) rfl f3 (kK rfl)))
 have ht:jF (.ref b9.length) (b9++[.ah [X.ag,Y.ag,Z.ag]])=.ok (.ax [X.ag,Y.ag,Z.ag]) (b9++[.ah [X.ag,Y.ag,Z.ag]]):=by
  show M.bind (bI _) _ _=_;rw[aU (dX bL)];rfl
 have oO:aW (cx P sc n) {.ret (.aj .Add (.ax {.aa 3}) (.tuple (.comp (.call 61 {.aa 9,.aa 1,.aa 2}) 9 [1,2] (.slc (.aa 0) (.int 1) .none))))} [some (Tm.when x y z).ag,some (.ref d),some st,some (.str "when"),none,none,none,none,none,none] σ=.ok (.ret (Tm.when X Y Z).ag) [some (Tm.when x y z).ag,some (.ref d),some st,some (.str "when"),none,none,none,none,none,none] (b9++[.ah [X.ag,Y.ag,Z.ag]]):=
  bw (bT (bU rfl (nb rfl)) (uz (kP rfl rfl rfl (nb rfl) hc) ht) rfl)
 refine kQ B (λ_ _=>rfl) (Eq.trans ?_ oO);exact jmp 5 (by rfl') (bX (by rfl'))
end
class inductive CS:(Str->Prop)->Tm->Prop
|num {F i}:CS F (.num i)
|name {F x}:CS F (.name x)
|un {F w a}:CS F a->CS F (.un w a)
|use {F g a}:F g->CS F a->CS F (.use g a)
|aj {F w a b}:CS F a->CS F b->CS F (.aj w a b)
|when {F a b c}:CS F a->CS F b->CS F c->CS F (.when a b c)
|a9 {F x a b}:CS F a->CS F b->CS F (.a9 x a b)
|bu {F n x a b}:(0<=n/\n<=9)->CS F a->CS F b->CS F (.bu n x a b)
|def_ {F g x kd a b}:CS F a->CS (λy=>g=y∨F y) b->CS F (.def_ g x kd a b)
theorem CS.mono(h:CS F t):∀F':Str->Prop,(∀x,F x->F' x)->CS F' t:=by
 induction h with
|num=>exact λ_ _=>.num
|name=>exact λ_ _=>.name
|un _ ih=>exact λ_ q=>.un (ih _ q)
|use h _ ih=>exact λ_ q=>.use (q _ h) (ih _ q)
|aj _ _ h1 h2=>exact λ_ q=>.aj (h1 _ q) (h2 _ q)
|when _ _ _ h1 h2 h3=>exact λ_ q=>.when (h1 _ q) (h2 _ q) (h3 _ q)
|a9 _ _ h1 h2=>exact λ_ q=>.a9 (h1 _ q) (h2 _ q)
|bu hn _ _ h1 h2=>exact λ_ q=>.bu hn (h1 _ q) (h2 _ q)
|def_ _ _ h1 h2=>exact λ_ q=>.def_ (h1 _ q) (h2 _ λx=>Or.imp id (q x))
section
variable{P:Prog}{sc:List Int}(B:mc P)
include B
def FU:SL:=match v7.body with
|.cons _ r=>r
|_=>.nil
theorem pW{n d:Nat}{t:Tm}{w:Str}(hw:∀C L,ak C (.au (.aa 0) (.int 0)) (some t.ag::L) σ=.ok (.str w) σ)(h:aW (cx P sc n) FU [some t.ag,some (.ref d),some (.str w),none,none] σ=.ok (.ret v) L' af):av P sc (n+1) 40 [t.ag,.ref d] σ=.ok v af:=by
 rw[cp B.GL rfl];exact(congrArg bW ((bk (hw _ _)).trans h)).trans rfl
theorem tB{n d:Nat}{t:Tm}{w:Str}(hw:∀C L,ak C (.au (.aa 0) (.int 0)) (some t.ag::L) σ=.ok (.str w) σ)(hd:σ[d]?=some (.aD es))(hv:t.cost φ=1+(t.parts.map λp=>p.cost φ).sum)(Qb:∀L,L=[some t.ag,some (.ref d),some (.str w),none,none]->aW (cx P sc (n+1)) FU L σ=aW (cx P sc (n+1)) {.ret (.aj .Add (.int 1) (.sum (.comp (.call 40 {.aa 4,.aa 1}) 4 [1] (.call 10 {.aa 0}))))} L σ)(ih:∀p∈t.parts,∀σ,σ[d]?=some (.aD es)->∃τ,av P sc (n+1) 40 [p.ag,.ref d] σ=.ok (.int (p.cost φ)) (σ++τ)):∃τ,av P sc (n+2) 40 [t.ag,.ref d] σ=.ok (.int (t.cost φ)) (σ++τ):=by
 obtain⟨τ,hc⟩:=KV (I:=λs=>s[d]?=some (.aD es)) (λ_ _ h=>old h) (g:=λp=>.int (p.cost φ)) (f:=λit=>M.bind (ak (cx P sc (n+1)) (.call 40 {.aa 4,.aa 1}) (b7 (cQ [some t.ag,some (.ref d),some (.str w),none,none] [1]) 4 it)) λy=>M.pure (some y)) (l:=σ.length) (ts:=t.parts) (λp hp s hs=>by
  obtain⟨τ,jV⟩:=ih p hp s hs;refine⟨τ,?_⟩;rw[aU (aN (by rfl) jV)]
  rfl) t.parts [] (σ++[.ah (t.parts.map Tm.ag)]) rfl (old hd) bL
 have hsum:∀s:H,nx (.ref s.length) (s++[.ah (t.parts.map λp=>V.int (p.cost φ))])=.ok (.int (t.parts.map λp=>p.cost φ).sum) (s++[.ah (t.parts.map λp=>V.int (p.cost φ))]):=λs=>by
  show M.bind (bI _) _ _=_;rw[aU (dX bL),pz];rfl
 refine⟨[.ah (t.parts.map Tm.ag)]++τ++[.ah (t.parts.map λp=>V.int (p.cost φ))],?_⟩;rw[←List.append_assoc,←List.append_assoc];exact pW B hw ((Qb _ rfl).trans (bw (bT rfl (yo (kP (aN (aP rfl ba) (Ap B.zI t n σ)) (by(refine pB.symm▸?_;refine(aU (dX bL)).symm▸?_);rfl) (by(refine pw.symm▸?_;refine(aU (dX bL)).symm▸?_);simp[M.pure]) (bR (tw t) (by decide)) hc) (hsum _)) (by(refine hv.symm▸?_);rfl))))
theorem B5(h:CS F t):∀(n d:Nat)(es:List (Str×V))(φ:Str->Int)(σ:H),t.depth<=n->σ[d]?=some (.aD es)->es.length+t.depth<=aO->(∀g,F g->de es g=some (.int (φ g)))->∃τ,av P sc (n+1) 40 [t.ag,.ref d] σ=.ok (.int (t.cost φ)) (σ++τ):=by
 induction h with
|num=>exact λn d es φ σ hn hd hl hc=>⟨[],by rw[List.append_nil];exact pW B (λ_ _=>rfl) (b8 (by rfl') (bw rfl))⟩
|name=>exact λn d es φ σ hn hd hl hc=>⟨[],by rw[List.append_nil];exact pW B (λ_ _=>rfl) (b8 (by rfl') (bw rfl))⟩
|@use F g a hg ha ih=>
  intro n d es φ σ hn hd hl hc;have dZ:(Tm.use g a).depth=1+a.depth:=rfl;obtain⟨m,rfl⟩:∃m,n=m+1:=⟨n-1,by(exact pb ‹_›)⟩;obtain⟨τ,e⟩:=ih m d es φ σ (nd (aR _) ‹_›) hd (zz (aR _) ‹_›) hc;exact⟨τ,pW B (λ_ _=>rfl) (jmp 3 (by rfl') (b8 (by rfl') (bw (bT (bT rfl (cC (aE rfl) rfl (ja hd (hc g hg))) rfl) (aN rfl e) rfl))))⟩
|@un F w a ha ih=>
  intro n d es φ σ hn hd hl hc;have dZ:(Tm.un w a).depth=1+a.depth:=rfl;obtain⟨m,rfl⟩:∃m,n=m+1:=⟨n-1,by(exact pb ‹_›)⟩;refine tB B (λ_ _=>rfl) hd rfl (λL hL=>?_) (λp hp s hs=>?_)
  ·subst hL;exact(bX (ae:=σ) (by(clear hn dZ hl;cases w)<;>rfl')).trans ((bX (ae:=σ) (by(clear hn dZ hl;cases w)<;>rfl')).trans ((bX (ae:=σ) (by(clear hn dZ hl;cases w)<;>rfl')).trans (bX (ae:=σ) (by(clear hn dZ hl;cases w)<;>rfl'))))
  ·(refine(List.mem_singleton.mp hp).symm▸?_);exact ih m d es φ s (nd (aR _) ‹_›) hs (zz (aR _) ‹_›) hc
|@aj F w a b ha hb bl bV=>
  intro n d es φ σ hn hd hl hc;have dZ:(Tm.aj w a b).depth=1+max a.depth b.depth:=rfl;obtain⟨m,rfl⟩:∃m,n=m+1:=⟨n-1,by(exact pb ‹_›)⟩;refine tB B (λ_ _=>rfl) hd rfl (λL hL=>?_) (λp hp s hs=>?_)
  ·subst hL;exact(bX (ae:=σ) (by(clear hn dZ hl;cases w)<;>rfl')).trans ((bX (ae:=σ) (by(clear hn dZ hl;cases w)<;>rfl')).trans ((bX (ae:=σ) (by(clear hn dZ hl;cases w)<;>rfl')).trans (bX (ae:=σ) (by(clear hn dZ hl;cases w)<;>rfl'))))
  ·rcases List.mem_cons.mp hp with rfl|hp
   ·exact bl m d es φ s (nd mL ‹_›) hs (zz mL ‹_›) hc
   ·(refine(List.mem_singleton.mp hp).symm▸?_);exact bV m d es φ s (nd mR ‹_›) hs (zz mR ‹_›) hc
|@when F a b c ha hb ic bl bV gs=>
  intro n d es φ σ hn hd hl hc;have dZ:(Tm.when a b c).depth=1+max a.depth (max b.depth c.depth):=rfl;obtain⟨m,rfl⟩:∃m,n=m+1:=⟨n-1,by(exact pb ‹_›)⟩;refine tB B (λ_ _=>rfl) hd rfl (λL hL=>?_) (λp hp s hs=>?_)
  ·subst hL;exact jmp 3 (by rfl') (bX (by rfl'))
  ·rcases List.mem_cons.mp hp with rfl|hp
   ·exact bl m d es φ s (nd mL ‹_›) hs (zz mL ‹_›) hc
   ·rcases List.mem_cons.mp hp with rfl|hp
    ·exact bV m d es φ s (nd mM ‹_›) hs (zz mM ‹_›) hc
    ·(refine(List.mem_singleton.mp hp).symm▸?_);exact gs m d es φ s (nd mC ‹_›) hs (zz mC ‹_›) hc
|@a9 F x a b ha hb bl bV=>
  intro n d es φ σ hn hd hl hc;have dZ:(Tm.a9 x a b).depth=1+max a.depth b.depth:=rfl;obtain⟨m,rfl⟩:∃m,n=m+1:=⟨n-1,by(exact pb ‹_›)⟩;refine tB B (λ_ _=>rfl) hd rfl (λL hL=>?_) (λp hp s hs=>?_)
  ·subst hL;exact jmp 3 (by rfl') (bX (by rfl'))
  ·rcases List.mem_cons.mp hp with rfl|hp
   ·exact bl m d es φ s (nd mL ‹_›) hs (zz mL ‹_›) hc
   ·(refine(List.mem_singleton.mp hp).symm▸?_);exact bV m d es φ s (nd mR ‹_›) hs (zz mR ‹_›) hc
|@bu F j x a b hj ha hb bl bV=>
  intro n d es φ σ hn hd hl hc;have dZ:(Tm.bu j x a b).depth=1+max a.depth b.depth:=rfl;obtain⟨m,rfl⟩:∃m,n=m+1:=⟨n-1,by(exact pb ‹_›)⟩;obtain⟨bZ,e1⟩:=bl m d es φ σ (nd mL ‹_›) hd (zz mL ‹_›) hc;refine b6 (bV m d es φ (σ++bZ) (nd mR ‹_›) (old hd) (zz mR ‹_›) hc) λdp e2=>?_;have hsm:small j=true:=xg hj.1 (Int.lt_of_le_of_lt hj.2 (by decide));refine⟨bZ++dp,?_⟩;rw[←List.append_assoc];exact pW B (λ_ _=>rfl) (jmp 1 (by rfl') (b8 (by rfl') (bw (bT (bT rfl (aN rfl e1) rfl) (bT (by rfl') (aN rfl e2) (CG hsm _)) rfl))))
|@def_ F g x kd a b ha hb bl bV=>
  intro n d es φ σ hn hd hl hc;have dZ:(Tm.def_ g x kd a b).depth=1+max a.depth b.depth:=rfl;obtain⟨m,rfl⟩:∃m,n=m+1:=⟨n-1,by(exact pb ‹_›)⟩;obtain⟨bZ,e1⟩:=bl m d es φ σ (nd mL ‹_›) hd (zz mL ‹_›) hc;have hlen:=gX es g (.int (a.cost φ))
  obtain⟨dp,e2⟩:=bV m (σ++bZ).length (bp es g (.int (a.cost φ))) (λy=>if g==y then a.cost φ else φ y) (σ++bZ++[.aD (bp es g (.int (a.cost φ)))]) (nd mR ‹_›) bL (lN 0x38134c20124124124024124124804904904900900904920538140f1810cd4614050613cc [_,_,_,_,_,_] rfl hl dZ hlen) (λy hy=>by
   rw[mU];show(if g==y then _ else _)=some (V.int (if g==y then _ else _));cases zJ:(g==y) with
   |true=>rfl
   |false=>exact hc y (hy.resolve_left λq=>by(replace zJ:=q▸zJ);simp at zJ))
  refine⟨bZ++([.aD (bp es g (.int (a.cost φ)))]++dp),?_⟩;rw[←List.append_assoc,←List.append_assoc];exact pW B (λ_ _=>rfl) (jmp 2 (by rfl') (b8 (by rfl') ((bk (aN (aP rfl (az rfl (az (aN rfl e1) ba))) (kL B (old hd) (gO ‹_›)))).trans (bw (bT rfl (aN rfl e2) rfl)))))
end
end Qh
set_option tactic.hygienic true
namespace Qh
open PySem
theorem PD.cs(h:PD Δ p):CS (λg=>Δ g=some .f) p:=by
 induction h with
|num=>exact .num
|name _=>exact .name
|use h _ ih=>exact .use h ih
|aj _ _ h1 h2=>exact .aj h1 h2
|when _ _ _ h1 h2 h3=>exact .when h1 h2 h3
|a9 _ _ h1 h2=>exact .a9 h1 (h2.mono _ λx q=>by unfold dW at q;split at q;cases q;exact q)
|bu hn _ _ h1 h2=>exact .bu hn h1 (h2.mono _ λx q=>by unfold dW at q;split at q;cases q;exact q)
|def_ _ _ h1 h2=>exact .def_ (h1.mono _ λx q=>by unfold dW at q;split at q;cases q;exact q) (h2.mono _ λx q=>by
   unfold dW at q;split at q
   ·rename_i e;exact .inl (beq_iff_eq.mp e)
   ·exact .inr q)
def ph(Γ:Sc)(g:Str):Prop:=∃l ka k,look Γ g=some ⟨g,l,.fn ka k⟩
theorem ph.val(h:ph (Γ++[⟨x,l,.val k⟩]) g):ph Γ g:=by
 refine kt (h) λl' ka k' hg=>?_;rw[iD] at hg;cases hx:(x==g) with
|true=>(replace hg:=(if_pos rfl)▸(hx▸hg));cases hg
|false=>(replace hg:=hx▸hg);exact⟨l',ka,k',hg⟩
theorem ph.fn(h:ph (Γ++[⟨x,l,.fn a r⟩]) g):x=g∨ph Γ g:=by
 refine kt (h) λl' ka k' hg=>?_;rw[iD] at hg;cases hx:(x==g) with
|true=>exact .inl (beq_iff_eq.mp hx)
|false=>(replace hg:=hx▸hg);exact .inr ⟨l',ka,k',hg⟩
theorem HG.cs(h:HG d Γ l f t k):CS (ph Γ) t:=by
 induction h with
|num=>exact .num
|name _=>exact .name
|kz _=>exact .un .name
|kW _=>exact .un .name
|kX=>exact .un .num
|lb=>exact .un .num
|when _ _ _ h1 h2 h3=>exact .when h1 h2 h3
|use hg _ ih=>exact .use ⟨_,_,_,hg⟩ ih
|a9 _ _ h1 h2=>exact .a9 h1 (h2.mono _ λ_ q=>q.val)
|bu hn _ _ h1 h2=>exact .bu hn h1 (h2.mono _ λ_ q=>q.val)
|def_ _ _ _ h1 h2=>exact .def_ (h1.mono _ λ_ q=>q.val) (h2.mono _ λ_ q=>q.fn)
|bJ _ ih=>exact .un ih
|hole _ ih=>exact .un ih
|lift _ ih=>exact .un ih
|run _ ih=>exact .un ih
|aj _ _ h1 h2=>exact .aj h1 h2
|kept _ _ h1 h2=>exact .a9 h1 (.un (.a9 (.un .name) (.un (h2.mono _ λ_ q=>q.val.val))))
|twice _ _ _ h1 h2 h3=>exact .a9 h1 (.un (.a9 (.un .name) (.un (.a9 .num (.aj (h2.mono _ λ_ q=>q.val.val.val) (h3.mono _ λ_ q=>q.val.val.val))))))
theorem Bs{α:Type}{f:V->M (Option V)}{h g:α->V}{l:Nat}{ts:List α}(hf:∀t∈ts,∀σ,∃τ,f (h t) σ=.ok (some (g t)) (σ++τ)):
  ∀(rest done:List α)(σ:H),ts=done++rest->σ[l]?=some (.ah (ts.map h))->∃τ,dk (.live l) f (rest.length+1) done.length σ=.ok (rest.map g) (σ++τ):=by
 intro rest
 induction rest with
|nil=>
  intro done σ hd hl;refine⟨[],?_⟩;rw[List.append_nil];exact kK (by(refine jY.symm▸?_;refine(aU (dX hl)).symm▸?_);simp[M.pure,hd])
|cons t rest ih=>
  intro done σ hd hl;obtain⟨τ,h1⟩:=hf t (by(refine hd.symm▸?_);simp) σ;obtain⟨fY,h2⟩:=ih (done++[t]) (σ++τ) (by(refine hd.symm▸?_);simp) (old hl);refine⟨τ++fY,?_⟩;replace h2:=(List.length_singleton)▸((List.length_append)▸h2);have:=gW (k:=done.length) (σ:=σ) (ae:=σ) (v:=h t) (by(refine jY.symm▸?_;refine(aU (dX hl)).symm▸?_);simp[M.pure,hd]) h1 h2;rw[List.length_cons,this,List.append_assoc];rfl
def mv(t:Tm):V:=.ax [.int t.size,.int t.depth]
section
variable{P:Prog}{sc:List Int}(B:mc P)
include B
theorem CM{n:Nat}{elt:E}{L:aQ}{v:Nat}{l:Nat}{ts:List Tm}{g:Tm->V}{src:E}(hl:σ[l]?=some (.ah (ts.map mv)))(hle:ts.length<=aO)(hs:ak (cx P sc n) src L σ=.ok (.ref l) σ)(he:∀t:Tm,∀s,ak (cx P sc n) elt (b7 (cQ L []) v (mv t)) s=.ok (g t) s):∃τ,ak (cx P sc n) (.comp elt v [] src) L σ=.ok (.ref (σ++τ).length) (σ++τ++[.ah (ts.map g)]):=by
 refine b6 (Bs (f:=λit=>M.bind (ak (cx P sc n) elt (b7 (cQ L []) v it)) λy=>M.pure (some y)) (h:=mv) (g:=g) (l:=l) (ts:=ts) (λt _ s=>⟨[],by rw[aU (he t s),List.append_nil];rfl⟩) ts [] σ rfl hl) λτ hc=>?_;exact⟨τ,kP hs (by(refine pB.symm▸?_;refine(aU (dX hl)).symm▸?_);rfl) (by(refine pw.symm▸?_;refine(aU (dX hl)).symm▸?_);simp[M.pure]) hle hc⟩
theorem Bt:∀(n:Nat)(t:Tm)(σ:H),t.depth<=n->∃τ,av P sc (n+1) 56 [t.ag] σ=.ok (mv t) (σ++τ)
|0=>λt σ h=>absurd h (by have:=wJ t;exact Nat.not_le.mpr (lN 0x301860049049205321 [_] rfl this))
|n+1=>λt σ h=>by
  rw[cp B.GN rfl];have hle:t.parts.length<=aO:=bR (tw t) (by decide);have hl:(σ++[O.ah (t.parts.map Tm.ag)])[σ.length]?=some (.ah (t.parts.map Tm.ag)):=by simp
  obtain⟨τ,hc⟩:=Bs (h:=Tm.ag) (g:=mv) (f:=λit=>M.bind (ak (cx P sc (n+1)) (.call 56 {.aa 2}) (b7 (cQ [some t.ag,none,none] []) 2 it)) λy=>M.pure (some y)) (l:=σ.length) (ts:=t.parts) (λp hp s=>by
   obtain⟨τ,jV⟩:=Bt n p s (by have:=wi t p hp;exact lN 0xd30124124124814184d38538184c [_,_,_] rfl h this);refine⟨τ,?_⟩;rw[aU (aN (by rfl) jV)]
   rfl) t.parts [] _ rfl hl
  have iv:=kP (C:=cx P sc (n+1)) (L:=[some t.ag,none,none]) (aN (aP (i:=0) rfl ba) (Ap B.zI t n σ)) (sr:=.live σ.length) (k:=t.parts.length) (by(refine pB.symm▸?_;refine(aU (dX bL)).symm▸?_);rfl) (by(refine pw.symm▸?_;refine(aU (dX bL)).symm▸?_);simp[M.pure]) hle hc;generalize hs2:σ++[O.ah (t.parts.map Tm.ag)]++τ=ao at iv;have hl2:(ao++[.ah (t.parts.map mv)])[ao.length]?=some (.ah (t.parts.map mv)):=bL;refine b6 (CM (sc:=sc) B (n:=n+1) (elt:=.au (.aa 2) (.int 0)) (L:=[some t.ag,some (.ref ao.length),none]) (v:=2) (g:=λt=>.int t.size) (src:=.aa 1) hl2 hle (aE rfl) λt s=>rfl) λfZ h3=>?_;have hl3:=old (τ:=fZ++[.ah (t.parts.map λt=>V.int t.size)]) hl2;rw[←List.append_assoc] at hl3;refine b6 (CM (sc:=sc) B (n:=n+1) (elt:=.au (.aa 2) (.int 1)) (L:=[some t.ag,some (.ref ao.length),none]) (v:=2) (g:=λt=>.int t.depth) (src:=.aa 1) hl3 hle (aE rfl) λt s=>rfl) λzK h4=>?_;have hsum:∀s:H,nx (.ref s.length) (s++[.ah (t.parts.map λp=>V.int p.size)])=.ok (.int (t.parts.map λp=>(p.size:Int)).sum) (s++[.ah (t.parts.map λp=>V.int p.size)]):=λs=>by
   show M.bind (bI _) _ _=_;rw[aU (dX bL),pz];rfl
  have Q4:∀s:H,oF (.ref s.length) (s++[.ah (t.parts.map λp=>V.int p.depth)])=.ok (.int (qq (t.parts.map λp=>(p.depth:Int)))) (s++[.ah (t.parts.map λp=>V.int p.depth)]):=λs=>by
   show M.bind (bI _) _ _=_;rw[aU (dX bL),pz];rfl
  refine⟨[O.ah (t.parts.map Tm.ag)]++τ++[.ah (t.parts.map mv)]++fZ++[.ah (t.parts.map λp=>V.int p.size)]++zK++[.ah (t.parts.map λp=>V.int p.depth)],?_⟩;have e5:σ++([O.ah (t.parts.map Tm.ag)]++τ++[.ah (t.parts.map mv)]++fZ++[.ah (t.parts.map λp=>V.int p.size)]++zK++[.ah (t.parts.map λp=>V.int p.depth)])=ao++[.ah (t.parts.map mv)]++fZ++[.ah (t.parts.map λp=>V.int p.size)]++zK++[.ah (t.parts.map λp=>V.int p.depth)]:=by(refine hs2▸?_);simp only[List.append_assoc]
  refine e5.symm▸?_;have g1:binop .Add (.int 1) (.int (t.parts.map λp=>(p.size:Int)).sum)=λs=>.ok (.int t.size) s:=by funext s;(refine(AP t).symm▸?_);rfl
  have g2:binop .Add (.int 1) (.int (qq (t.parts.map λp=>(p.depth:Int))))=λs=>.ok (.int t.depth) s:=by funext s;(refine(Aq t).symm▸?_);rfl
  exact(congrArg bW ((bk iv).trans (bw (bU (az (bT rfl (yo h3 (hsum _)) (by(refine g1.symm▸?_;with_reducible rfl))) (az (bT rfl (Dp h4 (Q4 _)) (by(refine g2.symm▸?_;with_reducible rfl))) ba)) (nb rfl))))).trans rfl
end
end Qh
set_option tactic.hygienic false
namespace Qh
open PySem
theorem nw(a b:Int)(σ:H):dH .Gt (.int a) (.int b) σ=.ok (decide (b<a)) σ:=rfl
section
variable{P:Prog}{sc:List Int}(B:mc P)
include B
theorem KZ(hst:σ[st]?=some (d0 s))(hc:5000<s.c):av P sc (n+1) 58 [(Tm.un .bJ a).ag,.ref d,.ref st] σ=.ok (Tm.num 0).ag σ:=
 iG B (λ_ _=>rfl) (jmp 2 (by rfl') (b8 (by rfl') (b8 (dY (cC (aE rfl) rfl (dF hst rfl (by decide) (by decide))) rfl (by rw[nw,decide_eq_true hc])) (bw rfl))))
theorem ME(hst:σ[st]?=some (d0 s))(hc:¬ 5000<s.c)(e1:av P sc (n+1) 61 [a.ag,.ref d,.ref st] σ=.ok p.ag ae)(jm:ae[st]?=some (d0 s1))(hp:p.depth<=n):
  ∃τ,av P sc (n+2) 58 [(Tm.un .bJ a).ag,.ref d,.ref st] σ=.ok (jo p s1).1.v ((ae++τ).set st (d0 (jo p s1).2)):=by
 refine b6 (Bt (sc:=sc) B n p ae hp) λτ e2=>?_;have h2:=old (τ:=τ) jm;have h3:((ae++τ).set st (d0 ⟨s1.k,s1.fl,s1.c+p.size⟩))[st]?=some (d0 ⟨s1.k,s1.fl,s1.c+p.size⟩):=gy h2;have t1:∀L:aQ,cq L 2=some (.ref st)->bP (cx P sc (n+1)) (.cmp .Gt (.au (.aa 2) (.int 2)) (.int 5000)) L σ=.ok false σ:=λL h=>dY (cC (aE h) (y:=.int 2) rfl (dF hst (x:=.int s.c) rfl (by decide) (by decide))) (y:=.int 5000) rfl (by rw[nw,decide_eq_false hc]);have t2:∀(L:aQ)(s':H),cq L 7=some (mv p)->bP (cx P sc (n+1)) (.or {.cmp .Gt (.au (.aa 7) (.int 0)) (.int 2000),.cmp .Gt (.au (.aa 7) (.int 1)) (.int 30)}) L s'=.ok (decide (2000<p.size∨30<p.depth)) s':=λL s' h=>by
  have i0:ak (cx P sc (n+1)) (.au (.aa 7) (.int 0)) L s'=.ok (.int p.size) s':=cC (aE h) (y:=.int 0) rfl rfl;have i1:ak (cx P sc (n+1)) (.au (.aa 7) (.int 1)) L s'=.ok (.int p.depth) s':=cC (aE h) (y:=.int 1) rfl rfl
  by_cases c1:2000<p.size
  ·rw[decide_eq_true (Or.inl c1)];exact jj (any_cons (t:=true) (dY i0 (y:=.int 2000) rfl (by rw[nw,decide_eq_true (by exact lI 0x3018501ff0490492053018501ff [_] rfl (Int.ofNat_lt.mpr c1))])) (λq=>by exact tf q) (λ_=>⟨rfl,rfl⟩))
  ·refine jj (any_cons (t:=false) (dY i0 (y:=.int 2000) rfl (by rw[nw,decide_eq_false (by exact Int.not_lt.mpr (lI 0x407fcc049049205407fcc [_] rfl (Int.ofNat_le.mpr (Nat.not_lt.mp c1))))])) (λ_=>?_) (λq=>by exact ff q))
   by_cases c2:30<p.depth
   ·rw[decide_eq_true (Or.inr c2)];exact any_cons (t:=true) (dY i1 (y:=.int 30) rfl (by rw[nw,decide_eq_true (by exact lI 0x30187e04904920530187e [_] rfl (Int.ofNat_lt.mpr c2))])) (λq=>by exact tf q) (λ_=>⟨rfl,rfl⟩)
   ·rw[decide_eq_false (λq=>q.elim c1 c2)];exact any_cons (t:=false) (dY i1 (y:=.int 30) rfl (by rw[nw,decide_eq_false (by exact Int.not_lt.mpr (lI 0xf8c049049205f8c [_] rfl (Int.ofNat_le.mpr (Nat.not_lt.mp c2))))])) (λ_=>any_nil) (λq=>by exact ff q)
 refine⟨τ,?_⟩;unfold jo
 by_cases hbig:2000<p.size∨30<p.depth
 ·rw[if_pos hbig];rw[decide_eq_true hbig] at t2;have e5:(ae++τ).set st (d0 ⟨s1.k,true,s1.c+p.size⟩)=((ae++τ).set st (d0 ⟨s1.k,s1.fl,s1.c+p.size⟩)).set st (d0 ⟨s1.k,true,s1.c+p.size⟩):=by rw[List.set_set]
  rw[e5];exact iG B (λ_ _=>rfl) (jmp 2 (by rfl') (b8 (by rfl') ((bX (t1 _ rfl)).trans ((bk (aN rfl e1)).trans ((bk (aN rfl e2)).trans ((dC (j8 (bT (cC (aE rfl) rfl (dF h2 rfl (by decide) (by decide))) rfl rfl) (aE rfl) rfl (m5 h2 ⟨by decide,(by decide:(2:Int)<3),nb rfl⟩))).trans (b8 (t2 _ _ rfl) ((dC (j8 rfl (aE rfl) rfl (m5 h3 ⟨by decide,(by decide:(1:Int)<3),nb rfl⟩))).trans (bw rfl)))))))))
 ·rw[if_neg hbig];rw[decide_eq_false hbig] at t2;exact iG B (λ_ _=>rfl) (jmp 2 (by rfl') (b8 (by rfl') ((bX (t1 _ rfl)).trans ((bk (aN rfl e1)).trans ((bk (aN rfl e2)).trans ((dC (j8 (bT (cC (aE rfl) rfl (dF h2 rfl (by decide) (by decide))) rfl rfl) (aE rfl) rfl (m5 h2 ⟨by decide,(by decide:(2:Int)<3),nb rfl⟩))).trans ((bX (t2 _ _ rfl)).trans (bw (aE rfl)))))))))
end
theorem yU(h:b<a)(σ:H):dH .Gt (.int a) (.int b) σ=.ok true σ:=by rw[nw,decide_eq_true h]
theorem FV(h:¬ b<a)(σ:H):dH .Gt (.int a) (.int b) σ=.ok false σ:=by rw[nw,decide_eq_false h]
section
variable{P:Prog}{sc:List Int}(B:mc P)
include B
theorem Qc{n d st:Nat}{a p:Tm}{s1:Sg}(e1:av P sc n 58 [a.ag,.ref d,.ref st] σ=.ok p.ag ae)(jm:ae[st]?=some (d0 s1))(ec:av P sc n 40 [p.ag,.ref ae.length] (ae++[O.aD []])=.ok (.int p.ew) (ae++[O.aD []]++τ))(e3:¬ 5000<s1.c+p.ew->av P sc n 58 [p.ag,.ref (ae++[O.aD []]++τ).length,.ref st] ((ae++[O.aD []]++τ).set st (d0 ⟨s1.k,s1.fl,s1.c+p.ew⟩)++[O.aD []])=.ok v b9):
  av P sc (n+1) 58 [(Tm.un .run a).ag,.ref d,.ref st] σ=if 5000<s1.c+p.ew then .ok (.int 0) ((ae++[O.aD []]++τ).set st (d0 ⟨s1.k,s1.fl,s1.c+p.ew⟩)) else .ok v b9:=by
 have h2:=old (τ:=τ) (old (τ:=[O.aD []]) jm);have h3:((ae++[O.aD []]++τ).set st (d0 ⟨s1.k,s1.fl,s1.c+p.ew⟩))[st]?=some (d0 ⟨s1.k,s1.fl,s1.c+p.ew⟩):=gy h2;have hlen:((ae++[O.aD []]++τ).set st (d0 ⟨s1.k,s1.fl,s1.c+p.ew⟩)).length=(ae++[O.aD []]++τ).length:=List.length_set ..;generalize hS:(ae++[O.aD []]++τ).set st (d0 ⟨s1.k,s1.fl,s1.c+p.ew⟩)=S at h3 e3 hlen ⊢
 by_cases hc:5000<s1.c+p.ew
 ·rw[if_pos hc,←hS];rw[←hS] at h3;exact iG B (w:="run") (λ_ _=>rfl) (jmp 4 (by rfl') (b8 (ae:=σ) (by rfl') ((bk (aN (by rfl) e1)).trans ((dC (j8 (bT (cC (aE rfl) (y:=.int 2) rfl (dF jm (x:=.int s1.c) rfl (by decide) (by decide))) (aN (aP rfl (az (x:=.ref ae.length) (ae:=ae++[O.aD []]) rfl ba)) ec) rfl) (aE rfl) rfl (m5 (k:=2) h2 ⟨by decide,(by decide:(2:Int)<3),nb rfl⟩))).trans (b8 (dY (cC (aE rfl) (y:=.int 2) rfl (dF h3 (x:=.int (s1.c+p.ew)) rfl (by decide) (by decide))) rfl (yU hc _)) (bw rfl))))))
 ·rw[if_neg hc];have e3:=e3 hc;rw[←hlen] at e3;rw[←hS] at h3 e3;exact iG B (λ_ _=>rfl) (jmp 4 (by rfl') (b8 (by rfl') ((bk (aN rfl e1)).trans ((dC (j8 (bT (cC (aE rfl) rfl (dF jm rfl (by decide) (by decide))) (aN (aP rfl (az rfl ba)) ec) rfl) (aE rfl) rfl (m5 h2 ⟨by decide,(by decide:(2:Int)<3),nb rfl⟩))).trans ((bX (dY (cC (aE rfl) rfl (dF h3 rfl (by decide) (by decide))) rfl (FV hc _))).trans (bw (aN rfl e3)))))))
theorem K1:
  vm (λn t d σ=>av P sc n 58 [t.ag,.ref d,st] σ) (λσ v x b d=>∃l,v=.ref l/\σ[l]?=some (.ah [.str x,b.ag,.ref d])) (λ_=>True) where
 add _:=trivial
 sq:=λ⟨l,h1,h2⟩=>⟨l,h1,old h2⟩
 new σ x b d:=⟨[.ah [.str x,b.ag,.ref d]],.ref σ.length,_,rfl,bL⟩
 num {σ d i} n hn:=by
  obtain⟨k,rfl⟩:∃k,n=k+1:=⟨n-1,by exact cK (lN 0x184284c308049201241248 [_] rfl) (lN 0x30184284c201248049009049205321 [_] rfl hn)⟩;exact⟨[],by rw[List.append_nil];exact EC B σ⟩
 name hd hv n hn:=by
  obtain⟨k,rfl⟩:∃k,n=k+1:=⟨n-1,by exact cK (lN 0x184284c308049201241248 [_] rfl) (lN 0x30184284c201248049009049205321 [_] rfl hn)⟩;exact⟨[],by rw[List.append_nil];exact DD B hd hv⟩
 aj _ hN h1 h2 hi n hn:=by
  obtain⟨k,rfl⟩:∃k,n=k+1:=⟨n-1,by exact cK (lN 0x184284c308049201241248 [_] rfl) (lN 0x30184284c20124804900904920530188d [_,_] rfl hn)⟩;obtain⟨bZ,e1⟩:=h1 k (ct (bE ‹_›));obtain⟨dp,e2⟩:=h2 bZ k (ct (bE ‹_›));obtain⟨fZ,e3⟩:=ED B e1 e2 hi;exact⟨bZ++dp++fZ,by rw[fq,fq] at e3;rw[fq];exact e3⟩
 when _ hN h1 h2 n hn:=by
  obtain⟨k,rfl⟩:∃k,n=k+1:=⟨n-1,by exact cK (lN 0x184284c308049201241248 [_] rfl) (lN 0x30184284c20124804900904920530188d [_,_] rfl hn)⟩;obtain⟨bZ,e1⟩:=h1 k (ct (bE ‹_›));obtain⟨dp,e2⟩:=h2 bZ k (ct (bE ‹_›));exact⟨bZ++dp,by rw[←fq];exact DE B e1 e2⟩
 a9 _ hN hd hl h1 h2 n hn:=by
  obtain⟨k,rfl⟩:∃k,n=k+3:=⟨n-3,by exact cK (lN 0x18c28cc308049201241248 [_] rfl) (lN 0xc0630a330804920124024124124814d84530188d [_,_] rfl hN hn)⟩;obtain⟨bZ,e1⟩:=h1 (k+1) (Nat.le_of_add_le_add_right ‹_›);obtain⟨dp,e2⟩:=h2 bZ (k+1) (Nat.le_of_add_le_add_right ‹_›);exact⟨_,by rw[←fq,←fq];exact EE B e1 (old hd) hl e2⟩
 bu {σ d N m x p q es i f} _ hN hd hl hk hf hi h1 h2 n hn:=by
  obtain⟨k,rfl⟩:∃k,n=k+3:=⟨n-3,by exact cK (lN 0x18c28cc308049201241248 [_] rfl) (lN 0xc0630a330804920124024124124814d84530188d [_,_] rfl hN hn)⟩;obtain⟨bZ,e1⟩:=h1 (k+1) (Nat.le_of_add_le_add_right ‹_›)
  obtain⟨v,ao,e2,dp,hv,hs⟩:=CL B ⟨hk.1,by exact lI 0x7247d078cc049049205a4c [_] rfl hk.2⟩ e1 (λj v s=>∃τ,v=.int (iter f j i)/\s=σ++τ) ⟨bZ,rfl,rfl⟩ (λj v s hj hI=>by
   obtain⟨τ,rfl,rfl⟩:=hI;obtain⟨dp,e2⟩:=h2 τ (iter f j i) (rk hf _ _ hi) (k+1) (Nat.le_of_add_le_add_right ‹_›)
   exact⟨es,old hd,hl,_,_,e2,_,rfl,by rw[fq,fq]⟩)
  rw[hv,hs] at e2;exact⟨dp,e2⟩
 def_ {σ d N g x kd p q v es} _ hN hd hl h n hn:=by
  obtain⟨k,rfl⟩:∃k,n=k+3:=⟨n-3,by exact cK (lN 0x18c28cc308049201241248 [_] rfl) (lN 0xc0630a330804920124024124124814d84530188d [_,_] rfl hN hn)⟩;obtain⟨τ,e⟩:=h [.ah [.str x,p.ag,.ref d]] (.ref σ.length) ⟨_,rfl,bL⟩ (k+1) (Nat.le_of_add_le_add_right ‹_›);rw[List.length_append,List.length_singleton] at e;exact⟨_,by rw[←fq,←fq];exact EF B hd hl e⟩
 use _ hN hd hg hc hd' hl h1 h2 n hn:=by
  obtain⟨k,rfl⟩:∃k,n=k+3:=⟨n-3,by exact cK (lN 0x18c28cc308049201241248 [_] rfl) (lN 0xc0630a330804920124024124124814d84530188d [_,_] rfl hN hn)⟩;obtain⟨l,rfl,hc⟩:=hc;obtain⟨bZ,e1⟩:=h1 (k+1) (Nat.le_of_add_le_add_right ‹_›);obtain⟨dp,e2⟩:=h2 bZ (k+1) (Nat.le_of_add_le_add_right ‹_›);exact⟨_,by rw[←fq,←fq];exact EG B hd hg e1 (old hc) (old hd') hl e2⟩
end
structure Kp(st:Nat)(σ af:H):Prop where
 len:σ.length<=af.length
 same:∀i,i≠st->i<σ.length->af[i]?=σ[i]?
section
variable{st:Nat}{σ af cO τ:H}
theorem Kp.refl(σ:H):Kp st σ σ:=⟨aR _,λ_ _ _=>rfl⟩
theorem Kp.trans(x:Kp st σ af)(y:Kp st af cO):Kp st σ cO:=⟨bR x.len y.len,λi h1 h2=>(y.same i h1 (Nat.lt_of_lt_of_le h2 x.len)).trans (x.same i h1 h2)⟩
theorem Kp.get(x:Kp st σ af){i:Nat}{o:O}(h:i≠st)(e:σ[i]?=some o):af[i]?=some o:=(x.same i h (List.getElem?_eq_some_iff.mp e).1).trans e
theorem Kp.add:Kp st σ (σ++τ):=⟨by simp,λi _ h=>List.getElem?_append_left h⟩
theorem Kp.set{o:O}:Kp st σ (σ.set st o):=⟨by simp,λi h _=>List.getElem?_set_ne (Ne.symm h)⟩
end
theorem ti(f:Bv->Sg->Bv×Sg):∀(n:Nat)(r:Bv×Sg),cV f (n+1) r=f (cV f n r).1 (cV f n r).2
|0=>λ_=>rfl
|n+1=>λr=>ti f n (f r.1 r.2)
def fa:Nat->Nat
|0=>0
|d+1=>14+2*fa d
def fb(f:Bool)(d VF:Nat):Nat:=bif f then 2*d+max 500 (fa d+max 70 VF) else fa d+max 70 VF
section
variable(st:Nat)(aC:H->Sg->Prop)(bf:H->V->Str->Tm->Nat->Prop)(Out:Lv->Nat->Tm->Nat->H->Bv×Sg->Prop)
def MF:Prop:=∀{σ af v x b d},Kp st σ af->bf σ v x b d->bf af v x b d
def Ot:Prop:=∀{l N N' t d σ r},Out l N t d σ r->N<=N'->Out l N' t d σ r
def Ou:Prop:=∀{σ d i s},aC σ s->Out .z 1 (.num i) d σ (.num (i.fmod 1000003),s)
def Ov:Prop:=∀{σ d i s},aC σ s->Out .o 1 (.num i) d σ (.pc (.num i),s)
def MG:Prop:=∀{σ d es x b s},aC σ s->σ[d]?=some (.aD es)->de es x=some (Bv.v b)->Out .z 1 (.name x) d σ (b,s)
def MH:Prop:=∀{σ d es x y s},aC σ s->σ[d]?=some (.aD es)->de es x=some (.str y)->Out .o 1 (.name x) d σ (.pc (.name y),s)
def Ow:Prop:=∀{σ d N a r},1<=N->Out .z N a d σ r->Out .o (N+1) (.un .hole a) d σ r
def Ox:Prop:=∀{σ d N a i s1},1<=N->Out .z N a d σ (.num i,s1)->Out .z (N+1) (.un .lift a) d σ (.pc (.num i),s1)
def K2:Prop:=∀{σ d a s},aC σ s->5000<s.c->Out .z 1 (.un .bJ a) d σ (.pc (.num 0),s)
def MI:Prop:=∀{σ d N a p s s1},aC σ s->¬ 5000<s.c->Out .o N a d σ (.pc p,s1)->s.c<=s1.c->p.depth+3<=N->Out .z (N+1) (.un .bJ a) d σ (jo p s1)
def Qd:Prop:=∀{σ d N a p s1},Out .z N a d σ (.pc p,s1)->PD (λ_=>none) p->p.depth<=30->p.fr (λ_=>0)<=240->490<=N->Out .z (N+2) (.un .run a) d σ (nE p s1)
def Oy:Prop:=∀{σ d N g a x body d' es es' cv u s1 r w},d≠st->σ[d]?=some (.aD es)->de es g=some cv->bf σ cv x body d'->d'≠st->σ[d']?=some (.aD es')->es'.length<=aO->1<=N->Out .z N a d σ (u,s1)->
  (∀ae,Kp st σ ae->aC ae s1->Out .z N body ae.length (ae++[.aD (bp es' x (Bv.v u))]) r)->s1.le w r.2->Out .z (N+2) (.use g a) d σ r
def Oz:Prop:=∀{σ d N g a y es p s1},σ[d]?=some (.aD es)->de es g=some (.str y)->1<=N->Out .o N a d σ (.pc p,s1)->Out .o (N+1) (.use g a) d σ (.pc (.use y p),s1)
def OA:Prop:=∀{σ d N o a b i j s1 s2 w},1<=N->small i=true->Out .z N a d σ (.num i,s1)->(∀ae,Kp st σ ae->aC ae s1->Out .z N b d ae (.num j,s2))->s1.le w s2->Out .z (N+2) (.aj o a b) d σ (.num (jn o i j),s2)
def OB:Prop:=∀{σ d N o a b p q s1 s2 w},1<=N->Out .o N a d σ (.pc p,s1)->(∀ae,Kp st σ ae->aC ae s1->Out .o N b d ae (.pc q,s2))->s1.le w s2->Out .o (N+1) (.aj o a b) d σ (.pc (.aj o p q),s2)
def MJ:Prop:=∀{σ d N a b c i s1 r w},1<=N->Out .z N a d σ (.num i,s1)->(∀ae,Kp st σ ae->aC ae s1->Out .z N (if i=0 then c else b) d ae r)->s1.le w r.2->Out .z (N+2) (.when a b c) d σ r
def MK:Prop:=∀{σ d N a b c p q t s1 s2 s3 w w'},1<=N->Out .o N a d σ (.pc p,s1)->(∀ae,Kp st σ ae->aC ae s1->Out .o N b d ae (.pc q,s2))->s1.le w s2->(∀ae,Kp st σ ae->aC ae s2->Out .o N c d ae (.pc t,s3))->s2.le w' s3->Out .o (N+1) (.when a b c) d σ (.pc (.when p q t),s3)
def OC:Prop:=∀{σ d N x a b u s1 r es w},d≠st->σ[d]?=some (.aD es)->es.length<=aO->1<=N->Out .z N a d σ (u,s1)->(∀ae,Kp st σ ae->aC ae s1->Out .z N b ae.length (ae++[.aD (bp es x (Bv.v u))]) r)->s1.le w r.2->Out .z (N+2) (.a9 x a b) d σ r
def OD:Prop:=∀{σ d N x a b p q s s1 s2 es w},aC σ s->0<=s.k->s.k+1<10^10->d≠st->σ[d]?=some (.aD es)->es.length<=aO->1<=N->(∀cj,Kp st σ cj->aC cj s.new->Out .o N a d cj (.pc p,s1))->
  (∀ae,Kp st σ ae->aC ae s1->Out .o N b ae.length (ae++[.aD (bp es x (.str (vn (s.k+1))))]) (.pc q,s2))->s1.le w s2->Out .o (N+2) (.a9 x a b) d σ (.pc (.a9 (vn (s.k+1)) p q),s2)
def K3:Prop:=∀{σ d N n x a b p q s s1 s2 es w},aC σ s->0<=s.k->s.k+1<10^10->d≠st->σ[d]?=some (.aD es)->es.length<=aO->1<=N->(∀cj,Kp st σ cj->aC cj s.new->Out .o N a d cj (.pc p,s1))->
  (∀ae,Kp st σ ae->aC ae s1->Out .o N b ae.length (ae++[.aD (bp es x (.str (vn (s.k+1))))]) (.pc q,s2))->s1.le w s2->Out .o (N+2) (.bu n x a b) d σ (.pc (.bu n (vn (s.k+1)) p q),s2)
def K4:Prop:=∀{σ d N n x a b r0 es}{f:Bv->Sg->Bv×Sg},0<=n/\n<=9->d≠st->σ[d]?=some (.aD es)->es.length<=aO->1<=N->Out .z N a d σ r0->
  (∀j ae,j<n.toNat->Kp st σ ae->aC ae (cV f j r0).2->Out .z N b ae.length (ae++[.aD (bp es x (Bv.v (cV f j r0).1))]) (cV f (j+1) r0))->(∀j,j<n.toNat->∃w,(cV f j r0).2.le w (cV f (j+1) r0).2)->Out .z (N+2) (.bu n x a b) d σ (cV f n.toNat r0)
def OF:Prop:=∀{σ d N g x kd a b s r es},aC σ s->d≠st->σ[d]?=some (.aD es)->es.length<=aO->1<=N->(∀ae cv,Kp st σ ae->aC ae s->bf ae cv x a d->Out .z N b ae.length (ae++[.aD (bp es g cv)]) r)->Out .z (N+2) (.def_ g x kd a b) d σ r
def OG:Prop:=∀{σ d N g x a b p q s s1 s2 es w},aC σ s->0<=s.k->s.k+1+1<10^10->d≠st->σ[d]?=some (.aD es)->es.length<=aO->1<=N->(∀ae,Kp st σ ae->aC ae s.new.new->Out .o N a ae.length (ae++[.aD (bp es x (.str (vn (s.k+1+1))))]) (.pc p,s1))->
  (∀ae,Kp st σ ae->aC ae s1->Out .o N b ae.length (ae++[.aD (bp es g (.str (vn (s.k+1))))]) (.pc q,s2))->s1.le w s2->Out .o (N+2) (.def_ g x "number" a b) d σ (.pc (.def_ (vn (s.k+1)) (vn (s.k+1+1)) "number" p q),s2)
end
structure qm(st:Nat)(aC:H->Sg->Prop)(bf:H->V->Str->Tm->Nat->Prop)(Out:Lv->Nat->Tm->Nat->H->Bv×Sg->Prop):Prop where
 app:∀{σ τ s},aC σ s->aC (σ++τ) s
 ne:∀{σ s},aC σ s->σ.length≠st
 uX:MF st bf
 more:Ot Out
 yV:Ou aC Out
 yW:Ov aC Out
 yq:MG aC Out
 yr:MH aC Out
 hole:Ow Out
 lift:Ox Out
 xU:K2 aC Out
 bJ:MI aC Out
 run:Qd Out
 yX:Oy st aC bf Out
 yY:Oz Out
 yZ:OA st aC Out
 y0:OB st aC Out
 yt:MJ st aC Out
 yu:MK st aC Out
 y4:OC st aC Out
 y5:OD st aC Out
 xV:K3 st aC Out
 xW:K4 st aC Out
 y6:OF st aC bf Out
 y7:OG st aC Out
def Sk:Lv->Nat
|.z=>58|.o=>61
section
variable{P:Prog}{sc:List Int}
def Q5(P:Prog)(sc:List Int)(st:Nat)(l:Lv)(N:Nat)(t:Tm)(d:Nat)(σ:H)(r:Bv×Sg):Prop:=∀n,N<=n->∃af,av P sc n (Sk l) [t.ag,.ref d,.ref st] σ=.ok r.1.v af/\Kp st σ af/\af[st]?=some (d0 r.2)
theorem eD(h:1<=n):∃k,n=k+1:=⟨n-1,by exact cK (lN 0x184284c308049201241248 [_] rfl) (lN 0x30184284c201248049009049205321 [_] rfl h)⟩
theorem sx(h:3<=n):∃k,n=k+3:=⟨n-3,by exact cK (lN 0x18c28cc308049201241248 [_] rfl) (lN 0x3018c28cc201248049009049205323 [_] rfl h)⟩
theorem jq(h:2<=n):∃k,n=k+2:=⟨n-2,by exact cK (lN 0x188288c308049201241248 [_] rfl) (lN 0x30188288c201248049009049205322 [_] rfl h)⟩
theorem K5(B:mc P)(st:Nat):qm st (λσ s=>σ[st]?=some (d0 s)) (λσ v x b d=>∃lc,lc≠st/\v=.ref lc/\σ[lc]?=some (.ah [.str x,b.ag,.ref d])) (Q5 P sc st) where
 app h:=old h
 ne h:=λq=>by rw[←q] at h;simp at h
 uX:=λk ⟨lc,h1,h2,h3⟩=>⟨lc,h1,h2,k.get h1 h3⟩
 more h hN n hn:=h n (bR ‹_› ‹_›)
 yV h n hn:=by obtain⟨k,rfl⟩:=eD hn;exact⟨_,EC B _,.refl _,h⟩
 yW h n hn:=by obtain⟨k,rfl⟩:=eD hn;exact⟨_,PQ B _,.refl _,h⟩
 yq h hd hv n hn:=by obtain⟨k,rfl⟩:=eD hn;exact⟨_,DD B hd hv,.refl _,h⟩
 yr h hd hv n hn:=by obtain⟨k,rfl⟩:=eD hn;exact⟨_,Om B hd hv,.refl _,h⟩
 hole hN h n hn:=by
  obtain⟨k,rfl⟩:=eD (n:=n) (cJ ‹_›);refine ca (h k (ct ‹_›)) λaf e h1 h2=>?_;exact⟨af,Oo B e,h1,h2⟩
 lift hN h n hn:=by
  obtain⟨k,rfl⟩:=eD (n:=n) (cJ ‹_›);refine ca (h k (ct ‹_›)) λaf e h1 h2=>?_;exact⟨af,Oj B e,h1,h2⟩
 xU h hc n hn:=by obtain⟨k,rfl⟩:=eD hn;exact⟨_,KZ B h hc,.refl _,h⟩
 bJ h hc h1 _ hp n hn:=by
  obtain⟨k,rfl⟩:=jq (n:=n) (by exact lN 0xc88124124124814e06334530184e [_,_,_] rfl hp hn);refine ca (h1 (k+1) (ct ‹_›)) λae e1 k1 s1=>?_;obtain⟨τ,e⟩:=ME B h hc e1 s1 (by exact lN 0xd30124124124814e06330506234184e [_,_,_] rfl hp hn);exact⟨_,e,(k1.trans .add).trans .set,gy (old s1)⟩
 run {σ d N a p s1} h1 hP hd hf hN n hn:=by
  refine bB λXx aI=>?_;obtain⟨k,rfl⟩:=jq (n:=n) (cJ ‹_›);refine ca (h1 (k+1) (ct (bE ‹_›))) λae e1 k1 h2=>?_;obtain⟨τ,ec⟩:=B5 (sc:=sc) B hP.cs k ae.length [] (λ_=>0) (ae++[O.aD []]) (by exact lN 0x34c049049049049205f8c14ea879c506234188e [_,_,_] rfl hd hN hn) bL (by show 0+p.depth<=aO;have:aO=1000000:=rfl;exact lN 0xd04c80124124024124817e306007247d078cd [_,_] rfl hd this) (λg hg=>by exact bS hg);have hv:=(DC (K1 (sc:=sc) B (st:=.ref st)) hP (λ_=>0) ((ae++[O.aD []]++τ).set st (d0 ⟨s1.k,s1.fl,s1.c+p.ew⟩)++[O.aD []]) (ae++[O.aD []]++τ).length [] (λ_=>.no) trivial (by rw[←(List.length_set ..)];exact bL) (by show 0+p.depth<=aO;have:aO=1000000:=rfl;exact lN 0xd04c80124124024124817e306007247d078cd [_,_] rfl hd this) (λx m hx=>by exact bS hx)).2;obtain⟨fZ,e3⟩:=hv (k+1) (by exact lN 0x61344322049049049089205c078cc14ea879c506234188e [_,_,_] rfl hf hN hn);refine aI ?_;have e:=Qc B (v:=.int (p.den λ_=>.no)) e1 h2 ec (λ_=>e3);have hs:((ae++[O.aD []]++τ).set st (d0 ⟨s1.k,s1.fl,s1.c+p.ew⟩))[st]?=some (d0 ⟨s1.k,s1.fl,s1.c+p.ew⟩):=gy (old (old h2));have kp:Kp st σ ((ae++[O.aD []]++τ).set st (d0 ⟨s1.k,s1.fl,s1.c+p.ew⟩)):=((k1.trans .add).trans .add).trans .set;unfold nE
  by_cases hc:5000<s1.c+p.ew
  ·rw[if_pos hc] at e ⊢;exact⟨_,e,kp,hs⟩
  ·rw[if_neg hc] at e ⊢;exact⟨_,e,(kp.trans .add).trans .add,old (old hs)⟩
 yX bC hd hg hc hd1 hd' hl hN h1 h2 _ n hn:=by
  refine bB λXx aI=>?_;obtain⟨k,rfl⟩:=sx (n:=n) (by exact lN 0xc8c124124124814d84530188d [_,_] rfl hN hn);obtain⟨lc,Sl,rfl,hc⟩:=hc;refine ca (h1 (k+1) (Nat.le_of_add_le_add_right ‹_›)) λae e1 k1 s1=>?_;refine ca (h2 ae k1 s1 (k+1) (Nat.le_of_add_le_add_right ‹_›)) λao e2 k2 s2=>?_;refine aI ?_;exact⟨ao,EG B hd hg e1 (k1.get Sl hc) (k1.get hd1 hd') hl e2,(k1.trans .add).trans k2,s2⟩
 yY hd hg hN h n hn:=by
  obtain⟨k,rfl⟩:=eD (n:=n) (cJ ‹_›);refine ca (h k (ct ‹_›)) λaf e h1 h2=>?_;exact⟨af,PR B hd hg e,h1,h2⟩
 yZ hN hi h1 h2 _ n hn:=by
  refine b6 (eD (n:=n) (cJ ‹_›)) λk bh=>?_;subst bh;refine ca (h1 k (ct (bE ‹_›))) λae e1 k1 s1=>?_;refine ca (h2 ae k1 s1 k (ct (bE ‹_›))) λao e2 k2 s2=>?_;obtain⟨τ,e⟩:=ED B e1 e2 hi;exact⟨_,e,(k1.trans k2).trans .add,old s2⟩
 y0 hN h1 h2 _ n hn:=by
  obtain⟨k,rfl⟩:=eD (n:=n) (cJ ‹_›);refine ca (h1 k (ct ‹_›)) λae e1 k1 s1=>?_;refine ca (h2 ae k1 s1 k (ct ‹_›)) λao e2 k2 s2=>?_;exact⟨_,Qa B e1 e2,(k1.trans k2).trans .add,old s2⟩
 yt hN h1 h2 _ n hn:=by
  refine b6 (eD (n:=n) (cJ ‹_›)) λk bh=>?_;subst bh;refine ca (h1 k (ct (bE ‹_›))) λae e1 k1 s1=>?_;refine ca (h2 ae k1 s1 k (ct (bE ‹_›))) λao e2 k2 s2=>?_;exact⟨_,DE B e1 e2,k1.trans k2,s2⟩
 yu hN h1 h2 _ h3 _ n hn:=by
  refine bB λXx aI=>?_;obtain⟨k,rfl⟩:=eD (n:=n) (cJ ‹_›);refine ca (h1 k (ct ‹_›)) λae e1 k1 s1=>?_;refine ca (h2 ae k1 s1 k (ct ‹_›)) λao e2 k2 s2=>?_;refine ca (h3 ao (k1.trans k2) s2 k (ct ‹_›)) λb9 e3 k3 s3=>?_;refine aI ?_;exact⟨_,Oq B e1 e2 e3,((k1.trans k2).trans k3).trans .add,old s3⟩
 y4 bC hd hl hN h1 h2 _ n hn:=by
  refine b6 (sx (n:=n) (lN 0xc8c124124124814d84530188d [_,_] rfl hN hn)) λk bh=>?_;subst bh;refine ca (h1 (k+1) (Nat.le_of_add_le_add_right ‹_›)) λae e1 k1 s1=>?_;refine ca (h2 ae k1 s1 (k+1) (Nat.le_of_add_le_add_right ‹_›)) λao e2 k2 s2=>?_;exact⟨ao,EE B e1 (k1.get bC hd) hl e2,(k1.trans .add).trans k2,s2⟩
 y5 h h0 hk bC hd hl hN h1 h2 _ n hn:=by
  obtain⟨k,rfl⟩:=jq (cJ ‹_›);refine ca (h1 _ .set (gy h) (k+1) (ct (bE ‹_›))) λae e1 k1 s1=>?_;have k1:=Kp.set.trans k1;refine ca (h2 ae k1 s1 (k+1) (ct (bE ‹_›))) λao e2 k2 s2=>?_;exact⟨ao,PW B (tA B h h0 hk) e1 (k1.get bC hd) hl e2,(k1.trans .add).trans k2,s2⟩
 xV h h0 hk bC hd hl hN h1 h2 _ n hn:=by
  refine b6 (jq (cJ ‹_›)) λk bh=>?_;subst bh;refine ca (h1 _ .set (gy h) (k+1) (ct (bE ‹_›))) λae e1 k1 s1=>?_;have k1:=Kp.set.trans k1;refine ca (h2 ae k1 s1 (k+1) (ct (bE ‹_›))) λao e2 k2 s2=>?_;exact⟨ao,MD B (tA B h h0 hk) e1 (k1.get bC hd) hl e2,(k1.trans .add).trans k2,s2⟩
 xW {σ d N m x a b r0 es f} hm bC hd hl hN h1 h2 _ n hn:=by
  refine b6 (sx (lN 0xc8c124124124814d84530188d [_,_] rfl hN hn)) λk bh=>?_;subst bh;refine ca (h1 (k+1) (Nat.le_of_add_le_add_right ‹_›)) λae e1 k1 s1=>?_
  obtain⟨v,ao,e2,hv,k2,s2⟩:=CL B ⟨hm.1,by exact lI 0x7247d078cc049049205a4c [_] rfl hm.2⟩ e1 (λj v af=>v=(cV f j r0).1.v/\Kp st σ af/\af[st]?=some (d0 (cV f j r0).2)) ⟨rfl,k1,s1⟩ (λj v af hj hI=>by
   refine k8 (hI) λcu kj sj=>?_;clear hI;subst cu;refine ca (h2 j af hj kj sj (k+1) (Nat.le_of_add_le_add_right ‹_›)) λcO e k' s'=>?_
   exact⟨es,kj.get bC hd,hl,_,cO,e,rfl,(kj.trans .add).trans k',s'⟩)
  rw[hv] at e2;exact⟨ao,e2,k2,s2⟩
 y6 {σ d N g x kd a b s r es} h bC hd hl hN h1 n hn:=by
  obtain⟨k,rfl⟩:=sx (lN 0xc8c124124124814d84530188d [_,_] rfl hN hn);have hne:σ.length≠st:=λq=>by rw[←q] at h;simp at h
  refine ca (h1 (σ++[.ah [.str x,a.ag,.ref d]]) (.ref σ.length) .add (old h) ⟨_,hne,rfl,bL⟩ (k+1) (Nat.le_of_add_le_add_right ‹_›)) λao e2 k2 s2=>?_;rw[List.length_append,List.length_singleton] at e2;exact⟨ao,EF B hd hl e2,(Kp.add.trans .add).trans k2,s2⟩
 y7 {σ d N g x a b p q s s1 s2 es w} h h0 hk bC hd hl hN h1 h2 _ n hn:=by
  refine b6 (jq (cJ ‹_›)) λk bh=>?_;subst bh;have hk0:s.k+1<10^10:=by(exact Int.le_of_lt ‹_›)
  have k0:Kp st σ ((σ.set st (d0 s.new)).set st (d0 s.new.new)):=Kp.set.trans .set;refine ca (h1 _ k0 (gy (gy h)) (k+1) (ct (bE ‹_›))) λae e1 k1 s1'=>?_;have k1:=(k0.trans .add).trans k1;refine ca (h2 ae k1 s1' (k+1) (ct (bE ‹_›))) λao e2 k2 s2'=>?_;exact⟨ao,PZ B (tA B h h0 hk0) (tA B (gy h) (by show 0<=s.k+1;exact lI 0x61320049049205320 [_] rfl h0) (hk)) (k0.get bC hd) hl e1 (k1.get bC hd) hl e2,(k1.trans .add).trans k2,s2'⟩
end
def K0:Int:=9000000000
section
variable{st:Nat}{aC:H->Sg->Prop}{bf:H->V->Str->Tm->Nat->Prop}{Out:Lv->Nat->Tm->Nat->H->Bv×Sg->Prop}
def rY(st:Nat)(aC:H->Sg->Prop)(bf:H->V->Str->Tm->Nat->Prop)(Out:Lv->Nat->Tm->Nat->H->Bv×Sg->Prop)(VF:Nat)(V:Int)(v:Sv)(o:Option Qh.V)(Δ:Dm)(σ:H):Lv->Mn->Prop
|.z,.val _=>o=some v.b.v
|.o,_=>o=some (.str v.y)
|.z,.fn ka _=>∃cv p body d' es',o=some cv/\bf σ cv p body d'/\d'≠st/\σ[d']?=some (.aD es')/\es'.length<=aO/\
   ∀du:Dm,Δ.le du->∀af s u,Kp st σ af->aC af s->iz du ka u->0<=s.k->Below du s.k->s.k+V<=K0->Out .z VF body af.length (af++[.aD (bp es' p u.v)]) (v.f u s)
def oZ(st:Nat)(aC:H->Sg->Prop)(bf:H->V->Str->Tm->Nat->Prop)(Out:Lv->Nat->Tm->Nat->H->Bv×Sg->Prop)(VF:Nat)(V:Int)(Γ:Sc)(η:Str->Sv)(Δ:Dm)(σ:H)(es:List (Str×Qh.V)):Prop:=
 ∀x e,look Γ x=some e->rY st aC bf Out VF V (η x) (de es x) Δ σ e.l e.m
variable(K:qm st aC bf Out)
include K
theorem rY.up{VF jw:Nat}{V V':Int}{v:Sv}{o:Option Qh.V}{Δ du:Dm}{σ af:H}{l:Lv}{m:Mn}(h:rY st aC bf Out VF V v o Δ σ l m)(k:Kp st σ af)(q:Δ.le du)(hF:VF<=jw)(hV:V<=V'):rY st aC bf Out jw V' v o du af l m:=by
 cases l with
|o=>exact h
|z=>cases m with
  |val _=>exact h
  |fn a r=>
   refine DN (h) λcv p body d' es' h1 h2 h3 h4 h5 h6=>?_;exact⟨cv,p,body,d',es',h1,K.uX k h2,h3,k.get h3 h4,h5,λqy q' cO s u k' g1 g2 g3 g4 g5=>K.more (h6 qy (q.trans q') cO s u (k.trans k') g1 g2 g3 g4 (lI 0xe04d30124124124814f3453813cc [_,_,_,_] rfl hV g5)) hF⟩
theorem oZ.up{VF jw:Nat}{V V':Int}{Γ:Sc}{η:Str->Sv}{Δ du:Dm}{σ af:H}{es:List (Str×Qh.V)}(h:oZ st aC bf Out VF V Γ η Δ σ es)(k:Kp st σ af)(q:Δ.le du)(hF:VF<=jw)(hV:V<=V'):oZ st aC bf Out jw V' Γ η du af es:=λx e he=>(h x e he).up K k q hF hV
omit K in
theorem oZ.put{VF:Nat}{V:Int}{Γ:Sc}{η:Str->Sv}{Δ:Dm}{σ:H}{es:List (Str×Qh.V)}(h:oZ st aC bf Out VF V Γ η Δ σ es){x:Str}{l:Lv}{m:Mn}{v:Sv}{val:Qh.V}(hv:rY st aC bf Out VF V v (some val) Δ σ l m):oZ st aC bf Out VF V (Γ++[⟨x,l,m⟩]) (cm η x v) Δ σ (bp es x val):=λy e he=>by
 rw[iD] at he;rw[mU];unfold cm;cases hx:(x==y) with
|true=>rw[hx,if_pos rfl] at he;(apply eR he);rw[if_pos rfl,if_pos rfl];exact hv
|false=>rw[hx] at he;rw[if_neg (by simp),if_neg (by simp)];exact h y e he
end
theorem Qf{a b:Nat}(h:a<=b):max 500 a<=max 500 b:=Nat.max_le.mpr ⟨eK _ _,bR h (ft _ _)⟩
theorem CO{f:Bool}{d VF jw:Nat}(h:fa d+max 70 jw+2<=fa (d+1)+max 70 VF):fb f d jw+2<=fb f (d+1) VF:=by
 cases f with
|true=>exact bR (Nat.add_le_add (Nat.add_le_add_left (Qf (bR (d7 _ 2) h)) (2*d)) (aR 2)) (Nat.le_of_eq (Nat.add_right_comm _ _ _))
|false=>exact h
theorem iH{f:Bool}{d VF:Nat}:fb f d VF+2<=fb f (d+1) VF:=CO (by(refine(show fa (d+1)=14+2*fa d from rfl).symm▸?_);generalize max 70 VF=M;exact lN 0x134110c8ae06204d301248 [_,_] rfl)
theorem EH{f:Bool}{d VF n:Nat}(h:n<=max 70 VF):n<=fb f d VF:=by
 have h:=bR h (dI _ (fa d));cases f with
|true=>exact bR h (bR (ft 500 _) (dI _ _))
|false=>exact h
theorem EJ{f:Bool}{d VF:Nat}:VF<=fb f d VF:=EH (ft _ _)
theorem fg{f:Bool}{d VF:Nat}:70<=fb f d VF:=EH (eK _ _)
theorem EK{f:Bool}{d VF:Nat}:fb false d VF<=fb f d VF:=by
 cases f with
|true=>exact bR (ft 500 _) (dI _ _)
|false=>exact aR _
theorem OH{f:Bool}{d VF:Nat}:fb f d (max VF (fb false d VF))+2<=fb f (d+1) VF:=CO (by
 have h:=Nat.max_le.mpr ⟨show 70<=fb false d VF from fg,Nat.max_le.mpr ⟨show VF<=fb false d VF from EJ,aR _⟩⟩;refine(show fa (d+1)=14+2*fa d from rfl).symm▸?_;have e:fb false d VF=fa d+max 70 VF:=rfl;rw[e] at h ⊢;generalize max 70 VF=M at h ⊢;generalize max 70 (max VF (fa d+M))=N at h ⊢
 exact lN 0x4e044322b8188134c04904920504e30d [_,_,_] rfl h)
section
variable{st:Nat}{aC:H->Sg->Prop}{bf:H->V->Str->Tm->Nat->Prop}{Out:Lv->Nat->Tm->Nat->H->Bv×Sg->Prop}
def cM(st:Nat)(aC:H->Sg->Prop)(bf:H->V->Str->Tm->Nat->Prop)(Out:Lv->Nat->Tm->Nat->H->Bv×Sg->Prop)(A VF:Nat)(V w:Int)(m:Nat)(f:Bool)(Γ:Sc)(l:Lv)(t:Tm):Prop:=
 ∀η Δ s σ d es,(f=true->Δ=λ_=>none)->Se V Γ η Δ->0<=s.k->Below Δ s.k->s.k+w<=K0->aC σ s->d≠st->σ[d]?=some (.aD es)->es.length+m<=aO->oZ st aC bf Out VF V Γ η Δ σ es->Out l A t d σ (sd t η l s)
variable(K:qm st aC bf Out)
include K
omit K in
theorem fS{r:Bv×Sg}{b:Bv}(h:r.1=b):r=(b,r.2):=Prod.ext h rfl
theorem Qg{A VF m:Nat}{V bK bQ w:Int}{f:Bool}{Γ:Sc}{o:U2}{a b:Tm}{u D:Nat}(ga:bG V bK Γ u D .z a .aB)(gb:bG V bQ Γ u D .z b .aB)(ha:cM st aC bf Out A VF V bK m f Γ .z a)(hb:cM st aC bf Out A VF V bQ m f Γ .z b)(hA:1<=A)(hw:bK+bQ<=w)(h0:0<=bK/\0<=bQ):
  cM st aC bf Out (A+2) VF V w m f Γ .z (.aj o a b):=λη Δ s σ d es hf S hk hB hK hs bC hd hl D=>by
 obtain⟨⟨i,e1,r1⟩,l1⟩:=ga η Δ s S hk hB;have hk1:=dQ hk l1.k;have:=l1.w;obtain⟨⟨j,e2,r2⟩,l2⟩:=gb η Δ (sd a η .z s).2 S hk1 (hB.up l1.k);have o1:=ha η Δ s σ d es hf S hk hB (lI 0x38134c0490490490492054013cd14f80538140c [_,_,_,_,_] rfl hw h0.2 hK) hs bC hd hl D;replace o1:=(fS e1)▸o1;have e:sd (.aj o a b) η .z s=(.num (jn o i j),(sd b η .z (sd a η .z s).2).2):=by
  show(Bv.num (jn o (sd a η .z s).1.n (sd b η .z (sd a η .z s).2).1.n),_)=_
  (refine e1.symm▸?_;refine e2.symm▸?_);rfl
 refine e.symm▸?_
 exact K.yZ hA (Br r1) o1 (λae k1 s1=>by
  have:=hb η Δ (sd a η .z s).2 ae d es hf S hk1 (hB.up l1.k) (lI 0x38134c04904904904920540134f14e05044504f44c [_,_,_,_,_,_] rfl hw hK this) s1 bC (k1.get bC hd) hl (D.up K k1 (Dm.le.refl _) (aR _) (bq _));replace this:=(fS e2)▸this
  exact this) l2
theorem EM{A VF m:Nat}{V w:Int}{f:Bool}{Γ:Sc}{i:Int}(hA:1<=A):cM st aC bf Out A VF V w m f Γ .z (.num i):=λη Δ s σ d es hf S hk hB hK hs bC hd hl D=>K.more (K.yV hs) hA
theorem yv{A VF m:Nat}{V w:Int}{f:Bool}{Γ:Sc}{i:Int}(hA:1<=A):cM st aC bf Out A VF V w m f Γ .o (.num i):=λη Δ s σ d es hf S hk hB hK hs bC hd hl D=>K.more (K.yW hs) hA
theorem DF{A VF m:Nat}{V w:Int}{f:Bool}{Γ:Sc}{x:Str}{k:Kd}(hx:look Γ x=some ⟨x,.z,.val k⟩)(hA:1<=A):cM st aC bf Out A VF V w m f Γ .z (.name x):=λη Δ s σ d es hf S hk hB hK hs bC hd hl D=>K.more (K.yq hs hd (D x _ hx)) hA
theorem uB{A VF m:Nat}{V w:Int}{f:Bool}{Γ:Sc}{x:Str}{k:Kd}(hx:look Γ x=some ⟨x,.o,.val k⟩)(hA:1<=A):cM st aC bf Out A VF V w m f Γ .o (.name x):=λη Δ s σ d es hf S hk hB hK hs bC hd hl D=>K.more (K.yr hs hd (D x _ hx)) hA
theorem uC{A VF m:Nat}{V w:Int}{f f':Bool}{Γ:Sc}{a:Tm}(zL:f'=true->f=true)(ha:cM st aC bf Out A VF V w m f' Γ .z a)(hA:1<=A):cM st aC bf Out (A+1) VF V w m f Γ .o (.un .hole a):=λη Δ s σ d es hf S hk hB hK hs bC hd hl D=>K.hole hA (ha η Δ s σ d es (λq=>hf (zL q)) S hk hB hK hs bC hd hl D)
theorem DG{A VF m:Nat}{V w:Int}{f:Bool}{Γ:Sc}{a:Tm}{u D':Nat}(ga:bG V w Γ u D' .z a .aB)(ha:cM st aC bf Out A VF V w m f Γ .z a)(hA:1<=A):cM st aC bf Out (A+1) VF V w m f Γ .z (.un .lift a):=λη Δ s σ d es hf S hk hB hK hs bC hd hl D=>by
 obtain⟨⟨i,e1,r1⟩,l1⟩:=ga η Δ s S hk hB;have o1:=ha η Δ s σ d es hf S hk hB hK hs bC hd hl D;replace o1:=(fS e1)▸o1;have e:sd (.un .lift a) η .z s=(.pc (.num i),(sd a η .z s).2):=by show(Bv.pc (.num (sd a η .z s).1.n),_)=_;(refine e1.symm▸?_);rfl
 refine e.symm▸?_;exact K.lift hA o1
theorem oy{A VF m:Nat}{V w:Int}{f f':Bool}{Γ:Sc}{a:Tm}{k:Kd}{u D':Nat}(zL:f'=true->f=true)(ga:bG V w Γ u D' .o a k)(ha:cM st aC bf Out A VF V w m f' Γ .o a)(hA:D'+3<=A):cM st aC bf Out (A+1) VF V w m f Γ .z (.un .bJ a):=λη Δ s σ d es hf S hk hB hK hs bC hd hl D=>by
 have e:sd (.un .bJ a) η .z s=if 5000<s.c then(.pc (.num 0),s) else jo (sd a η .o s).1.p (sd a η .o s).2:=rfl
 refine e.symm▸?_
 by_cases hc:5000<s.c
 ·(refine(if_pos hc).symm▸?_);exact K.more (K.xU hs hc) (dI _ _)
 ·refine(if_neg hc).symm▸?_;obtain⟨⟨p,e1,p1,p2,_⟩,l1⟩:=ga η Δ s S hk hB;have o1:=ha η Δ s σ d es (λq=>hf (zL q)) S hk hB hK hs bC hd hl D;replace o1:=(fS e1)▸o1;refine e1.symm▸?_;show Out .z (A+1) (.un .bJ a) d σ (jo p (sd a η .o s).2);exact K.bJ hs hc o1 l1.c (lN 0xd06330124124124814d06338538c [_,_,_] rfl hA p2)
theorem Qi{A VF m:Nat}{V w:Int}{Γ:Sc}{a:Tm}{D':Nat}(ga:bG V w Γ 0 D' .z a .aY)(ha:cM st aC bf Out A VF V w m true Γ .z a)(hA:490<=A):cM st aC bf Out (A+2) VF V w m true Γ .z (.un .run a):=λη Δ s σ d es hf S hk hB hK hs bC hd hl D=>by
 refine aZ (ga η Δ s S hk hB) λg1 l1=>?_;refine nc (g1.ok) λp e1 p1 p2 p3 p4=>?_;have o1:=ha η Δ s σ d es hf S hk hB hK hs bC hd hl D;replace o1:=(fS e1)▸o1;have e:sd (.un .run a) η .z s=nE p (sd a η .z s).2:=by show nE (sd a η .z s).1.p _=_;(refine e1.symm▸?_);rfl
 refine e.symm▸?_;have:=p4 λ_=>0;exact K.run o1 (by have:=hf rfl;(refine this▸?_);exact p1) p3 (lN 0x301e330124124824817e34510da0c [_,_] rfl p3 this) hA
theorem OI{A VF m:Nat}{V bK bQ w:Int}{f:Bool}{Γ:Sc}{a b c:Tm}{k:Kd}{u D' u' qL:Nat}(ga:bG V bK Γ u D' .z a .aB)(gb:bG V bQ Γ u' qL .z b k)(gc:bG V bQ Γ u' qL .z c k)(ha:cM st aC bf Out A VF V bK m f Γ .z a)(hb:cM st aC bf Out A VF V bQ m f Γ .z b)(hc:cM st aC bf Out A VF V bQ m f Γ .z c)(hA:1<=A)(hw:bK+bQ<=w)(h0:0<=bK/\0<=bQ):
  cM st aC bf Out (A+2) VF V w m f Γ .z (.when a b c):=λη Δ s σ d es hf S hk hB hK hs bC hd hl D=>by
 obtain⟨⟨i,e1,r1⟩,l1⟩:=ga η Δ s S hk hB;have hk1:=dQ hk l1.k;have:=l1.w;have o1:=ha η Δ s σ d es hf S hk hB (lI 0x38134c0490490490492054013cd14f80538140c [_,_,_,_,_] rfl hw h0.2 hK) hs bC hd hl D;replace o1:=(fS e1)▸o1;have e:sd (.when a b c) η .z s=sd (if i=0 then c else b) η .z (sd a η .z s).2:=by
  show(if(sd a η .z s).1.n=0 then sd c η .z else sd b η .z) _=_;refine e1.symm▸?_;show(if i=0 then sd c η .z else sd b η .z) _=_
  split<;>rfl
 refine e.symm▸?_;have l2:∃w,(sd a η .z s).2.le w (sd (if i=0 then c else b) η .z (sd a η .z s).2).2:=by
  split
  ·exact⟨_,(gc η Δ _ S hk1 (hB.up l1.k)).2⟩
  ·exact⟨_,(gb η Δ _ S hk1 (hB.up l1.k)).2⟩
 refine b6 (l2) λw' l2=>?_
 exact K.yt hA o1 (λae k1 s1=>by
  have D1:=D.up K k1 (Dm.le.refl _) (aR _) (bq _)
  split
  ·exact hc η Δ _ ae d es hf S hk1 (hB.up l1.k) (lI 0x38134c04904904904920540134f14e05044504f44c [_,_,_,_,_,_] rfl hw hK this) s1 bC (k1.get bC hd) hl D1
  ·exact hb η Δ _ ae d es hf S hk1 (hB.up l1.k) (lI 0x38134c04904904904920540134f14e05044504f44c [_,_,_,_,_,_] rfl hw hK this) s1 bC (k1.get bC hd) hl D1) l2
theorem EN{A VF m:Nat}{V bK bQ w:Int}{f:Bool}{Γ:Sc}{o:U2}{a b:Tm}{k:Kd}{u D':Nat}(ga:bG V bK Γ u D' .o a k)(gb:bG V bQ Γ u D' .o b k)(ha:cM st aC bf Out A VF V bK m f Γ .o a)(hb:cM st aC bf Out A VF V bQ m f Γ .o b)(hA:1<=A)(hw:bK+bQ<=w)(h0:0<=bK/\0<=bQ):
  cM st aC bf Out (A+1) VF V w m f Γ .o (.aj o a b):=λη Δ s σ d es hf S hk hB hK hs bC hd hl D=>by
 refine bB λXx aI=>?_;obtain⟨⟨p,e1,_⟩,l1⟩:=ga η Δ s S hk hB;have hk1:=dQ hk l1.k;have:=l1.w;obtain⟨⟨q,e2,_⟩,l2⟩:=gb η Δ (sd a η .o s).2 S hk1 (hB.up l1.k);refine aI ?_;have o1:=ha η Δ s σ d es hf S hk hB (lI 0x38134c0490490490492054013cd14f80538140c [_,_,_,_,_] rfl hw h0.2 hK) hs bC hd hl D;replace o1:=(fS e1)▸o1;have e:sd (.aj o a b) η .o s=(.pc (.aj o p q),(sd b η .o (sd a η .o s).2).2):=by
  show(Bv.pc (.aj o (sd a η .o s).1.p (sd b η .o (sd a η .o s).2).1.p),_)=_
  (refine e1.symm▸?_;refine e2.symm▸?_);rfl
 refine e.symm▸?_
 exact K.y0 hA o1 (λae k1 s1=>by
  have:=hb η Δ (sd a η .o s).2 ae d es hf S hk1 (hB.up l1.k) (lI 0x38134c04904904904920540134f14e05044504f44c [_,_,_,_,_,_] rfl hw hK this) s1 bC (k1.get bC hd) hl (D.up K k1 (Dm.le.refl _) (aR _) (bq _));replace this:=(fS e2)▸this
  exact this) l2
theorem OJ{A VF m:Nat}{V bK bQ nF w:Int}{f:Bool}{Γ:Sc}{a b c:Tm}{k k':Kd}{u D':Nat}(ga:bG V bK Γ u D' .o a k)(gb:bG V bQ Γ u D' .o b k')(gc:bG V nF Γ u D' .o c k')(ha:cM st aC bf Out A VF V bK m f Γ .o a)(hb:cM st aC bf Out A VF V bQ m f Γ .o b)(hc:cM st aC bf Out A VF V nF m f Γ .o c)(hA:1<=A)(hw:bK+bQ+nF<=w)(h0:0<=bK/\0<=bQ/\0<=nF):
  cM st aC bf Out (A+1) VF V w m f Γ .o (.when a b c):=λη Δ s σ d es hf S hk hB hK hs bC hd hl D=>by
 refine bB λXx aI=>?_;obtain⟨⟨p,e1,_⟩,l1⟩:=ga η Δ s S hk hB;have hk1:=dQ hk l1.k;have y1:=l1.w;obtain⟨⟨q,e2,_⟩,l2⟩:=gb η Δ (sd a η .o s).2 S hk1 (hB.up l1.k);have hk2:=dQ hk1 l2.k;have y2:=l2.w;have hB2:=(hB.up l1.k).up l2.k;obtain⟨⟨t,e3,_⟩,l3⟩:=gc η Δ (sd b η .o (sd a η .o s).2).2 S hk2 hB2;refine aI ?_;have o1:=ha η Δ s σ d es hf S hk hB (lI 0xe04d30124124124124124815105004f3453e015080538144c [_,_,_,_,_,_] rfl hw h0.2.1 h0.2.2 hK) hs bC hd hl D;replace o1:=(fS e1)▸o1;have e:sd (.when a b c) η .o s=(.pc (.when p q t),(sd c η .o (sd b η .o (sd a η .o s).2).2).2):=by
  show(Bv.pc (.when (sd a η .o s).1.p (sd b η .o (sd a η .o s).2).1.p (sd c η .o (sd b η .o (sd a η .o s).2).2).1.p),_)=_
  (refine e1.symm▸?_;refine e2.symm▸?_;refine e3.symm▸?_);rfl
 refine e.symm▸?_
 exact K.yu hA o1 (λae k1 s1=>by
  have:=hb η Δ (sd a η .o s).2 ae d es hf S hk1 (hB.up l1.k) (lI 0xe04d30124124124124124815105004d3c542014e05148504f48c [_,_,_,_,_,_,_] rfl hw h0.2.2 hK y1) s1 bC (k1.get bC hd) hl (D.up K k1 (Dm.le.refl _) (aR _) (bq _));replace this:=(fS e2)▸this
  exact this) l2 (λae k1 s1=>by
  have:=hc η Δ _ ae d es hf S hk2 hB2 (lI 0xe04d30124124124124124815104d0503c53814521413d24c50504cc [_,_,_,_,_,_,_,_] rfl hw hK y1 y2) s1 bC (k1.get bC hd) hl (D.up K k1 (Dm.le.refl _) (aR _) (bq _));replace this:=(fS e3)▸this
  exact this) l3
theorem Qj{A VF m:Nat}{V w:Int}{f:Bool}{Γ:Sc}{g:Str}{a:Tm}{ka k k':Kd}{u D':Nat}(hg:look Γ g=some ⟨g,.o,.fn ka k⟩)(ga:bG V w Γ u D' .o a k')(ha:cM st aC bf Out A VF V w m f Γ .o a)(hA:1<=A):cM st aC bf Out (A+1) VF V w m f Γ .o (.use g a):=λη Δ s σ d es hf S hk hB hK hs bC hd hl D=>by
 obtain⟨⟨p,e1,_⟩,l1⟩:=ga η Δ s S hk hB;have o1:=ha η Δ s σ d es hf S hk hB hK hs bC hd hl D;replace o1:=(fS e1)▸o1;have e:sd (.use g a) η .o s=(.pc (.use (η g).y p),(sd a η .o s).2):=by show(Bv.pc (.use (η g).y (sd a η .o s).1.p),_)=_;(refine e1.symm▸?_);rfl
 refine e.symm▸?_;exact K.yY hd (D g _ hg) hA o1
theorem yw{A VF m:Nat}{V bK bQ w:Int}{f:Bool}{Γ:Sc}{x:Str}{a b:Tm}{k k':Kd}{u D' qL:Nat}(ga:bG V bK Γ 0 D' .z a k)(gb:bG V bQ (Γ++[⟨x,.z,.val k⟩]) u qL .z b k')(ha:cM st aC bf Out A VF V bK (m+1) f Γ .z a)(hb:cM st aC bf Out A VF V bQ m f (Γ++[⟨x,.z,.val k⟩]) .z b)(hA:1<=A)(hw:bK+bQ<=w)(h0:0<=bK/\0<=bQ):
  cM st aC bf Out (A+2) VF V w (m+1) f Γ .z (.a9 x a b):=λη Δ s σ d es hf S hk hB hK hs bC hd hl D=>by
 refine aZ (ga η Δ s S hk hB) λg1 l1=>?_;have hk1:=dQ hk l1.k;have:=l1.w;have S':Se V (Γ++[⟨x,.z,.val k⟩]) (cm η x (.val (sd a η .z s).1)) Δ:=S.put ⟨_,rfl,g1.ok⟩
 exact K.y4 bC hd (gO ‹_›) hA (ha η Δ s σ d es hf S hk hB (lI 0x38134c0490490490492054013cd14f80538140c [_,_,_,_,_] rfl hw h0.2 hK) hs bC hd hl D) (λae k1 s1=>by
  exact hb _ Δ _ _ ae.length _ hf S' hk1 (hB.up l1.k) (lI 0x38134c04904904904920540134f14e05044504f44c [_,_,_,_,_,_] rfl hw hK this) (K.app s1) (K.ne s1) bL (by have:=gX es x (sd a η .z s).1.v;exact lN 0xe04d30124124124814e04184d3c50613cc [_,_,_,_] rfl hl this) ((D.up K (k1.trans .add) (Dm.le.refl _) (aR _) (bq _)).put rfl)) ((gb _ Δ (sd a η .z s).2 S' hk1 (hB.up l1.k)).2)
theorem uY{A VF m:Nat}{V bK bQ w:Int}{Γ:Sc}{x:Str}{a b:Tm}{ka k k':Kd}{u D':Nat}(ga:bG V bK Γ u D' .o a ka)(gb:bG V bQ (Γ++[⟨x,.o,.val k⟩]) u D' .o b k')(ha:cM st aC bf Out A VF V bK (m+1) false Γ .o a)(hb:cM st aC bf Out A VF V bQ m false (Γ++[⟨x,.o,.val k⟩]) .o b)(hA:1<=A)(hw:1+bK+bQ<=w)(h0:0<=bK/\0<=bQ){f:Bool}:
  cM st aC bf Out (A+2) VF V w (m+1) f Γ .o (Tm.a9 x a b):=λη Δ s σ d es hf S hk hB hK hs bC hd hl D=>by
 have sN:K0=9000000000:=rfl;have hn:s.new.k=s.k+1:=rfl;have fresh:=hB.none hk (bq _);have le:=Dm.le.new .v fresh;obtain⟨⟨p,e1,_⟩,l1⟩:=ga η Δ s.new S (lI 0xc80124124024124814d80606134c [_,_] rfl hk hn) (hB.up (lI 0x34c04904920606130d [_,_] rfl hn));have lk:=l1.k;have lw:=l1.w;have S':Se V (Γ++[⟨x,.o,.val k⟩]) (cm η x (.nm (vn (s.k+1)))) (dW Δ (vn (s.k+1)) .v):=(S.up le (bq _)).put ⟨_,rfl,n0⟩;have pj:Below (dW Δ (vn (s.k+1)) .v) (sd a η .o s.new).2.k:=(hB.up (Int.le_of_lt ‹_›)).put ⟨by exact lI 0x61321049049205320 [_] rfl hk,by assumption⟩ _;obtain⟨⟨q,e2,_⟩,l2⟩:=gb _ _ (sd a η .o s.new).2 S' (lI 0x32004904904900904920536018184d38530e [_,_,_] rfl hk hn lk) pj;have e:sd (Tm.a9 x a b) η .o s=(.pc (Tm.a9 (vn (s.k+1)) p q),(sd b (cm η x (.nm (vn (s.k+1)))) .o (sd a η .o s.new).2).2):=by
  show(Bv.pc (.a9 (vn (s.k+1)) (sd a η .o s.new).1.p (sd b (cm η x (.nm (vn (s.k+1)))) .o (sd a η .o s.new).2).1.p),_)=_
  (refine e1.symm▸?_;refine e2.symm▸?_);rfl
 refine e.symm▸?_
 exact K.y5 hs hk (lI 0x1d01fe1c21d41e906106130124124124024124124124124814f04e04d8453a015004f306007a07447707607a1015244504d452 [_,_,_,_,_,_,_] rfl hw h0.2 hK sN lk lw) bC hd (gO ‹_›) hA (λcj k0 s0=>by
  have:=ha η Δ s.new cj d es (λq=>by exact ff q) S (lI 0xc80124124024124814d80606134c [_,_] rfl hk hn) (hB.up (lI 0x34c04904920606130d [_,_] rfl hn)) (lI 0xe04d30124024124124124124815004f04d8453e014e05044606144c [_,_,_,_,_,_] rfl hw h0.2 hK hn) s0 bC (k0.get bC hd) hl (D.up K k0 (Dm.le.refl _) (aR _) (bq _));replace this:=(fS e1)▸this
  exact this) (λae k1 s1=>by
  have:=hb _ _ (sd a η .o s.new).2 (ae++[.aD (bp es x (.str (vn (s.k+1))))]) ae.length (bp es x (.str (vn (s.k+1)))) (λq=>by exact ff q) S' (lI 0x32004904904900904920536018184d38530e [_,_,_] rfl hk hn lk) pj (lI 0xe04d30124124024124124124815004d04f84538141118185148504f48c [_,_,_,_,_,_,_] rfl hw hK hn lw) (K.app s1) (K.ne s1) bL (by have:=gX es x (.str (vn (s.k+1)));exact lN 0xe04d30124124124814e04184d3c50613cc [_,_,_,_] rfl hl this) ((D.up K (k1.trans .add) le (aR _) (bq _)).put rfl);replace this:=(fS e2)▸this
  exact this) l2
theorem ML{A VF m:Nat}{V bK bQ w:Int}{Γ:Sc}{x:Str}{a b:Tm}{ka k k':Kd}{u D':Nat}{n:Int}(ga:bG V bK Γ u D' .o a ka)(gb:bG V bQ (Γ++[⟨x,.o,.val k⟩]) u D' .o b k')(ha:cM st aC bf Out A VF V bK (m+1) false Γ .o a)(hb:cM st aC bf Out A VF V bQ m false (Γ++[⟨x,.o,.val k⟩]) .o b)(hA:1<=A)(hw:1+bK+bQ<=w)(h0:0<=bK/\0<=bQ){f:Bool}:
  cM st aC bf Out (A+2) VF V w (m+1) f Γ .o (Tm.bu n x a b):=λη Δ s σ d es hf S hk hB hK hs bC hd hl D=>by
 have sN:K0=9000000000:=rfl;have hn:s.new.k=s.k+1:=rfl;have le:=Dm.le.new .v (hB.none hk (bq _));obtain⟨⟨p,e1,_⟩,l1⟩:=ga η Δ s.new S (lI 0xc80124124024124814d80606134c [_,_] rfl hk hn) (hB.up (lI 0x34c04904920606130d [_,_] rfl hn));have lk:=l1.k;have lw:=l1.w;have S':Se V (Γ++[⟨x,.o,.val k⟩]) (cm η x (.nm (vn (s.k+1)))) (dW Δ (vn (s.k+1)) .v):=(S.up le (bq _)).put ⟨_,rfl,n0⟩;have pj:Below (dW Δ (vn (s.k+1)) .v) (sd a η .o s.new).2.k:=(hB.up (Int.le_of_lt ‹_›)).put ⟨by exact lI 0x61321049049205320 [_] rfl hk,by assumption⟩ _;obtain⟨⟨q,e2,_⟩,l2⟩:=gb _ _ (sd a η .o s.new).2 S' (lI 0x32004904904900904920536018184d38530e [_,_,_] rfl hk hn lk) pj;have e:sd (Tm.bu n x a b) η .o s=(.pc (Tm.bu n (vn (s.k+1)) p q),(sd b (cm η x (.nm (vn (s.k+1)))) .o (sd a η .o s.new).2).2):=by
  show(Bv.pc (.bu n (vn (s.k+1)) (sd a η .o s.new).1.p (sd b (cm η x (.nm (vn (s.k+1)))) .o (sd a η .o s.new).2).1.p),_)=_
  (refine e1.symm▸?_;refine e2.symm▸?_);rfl
 refine e.symm▸?_
 exact K.xV hs hk (lI 0x1d01fe1c21d41e906106130124124124024124124124124814f04e04d8453a015004f306007a07447707607a1015244504d452 [_,_,_,_,_,_,_] rfl hw h0.2 hK sN lk lw) bC hd (gO ‹_›) hA (λcj k0 s0=>by
  have:=ha η Δ s.new cj d es (λq=>by exact ff q) S (lI 0xc80124124024124814d80606134c [_,_] rfl hk hn) (hB.up (lI 0x34c04904920606130d [_,_] rfl hn)) (lI 0xe04d30124024124124124124815004f04d8453e014e05044606144c [_,_,_,_,_,_] rfl hw h0.2 hK hn) s0 bC (k0.get bC hd) hl (D.up K k0 (Dm.le.refl _) (aR _) (bq _));replace this:=(fS e1)▸this
  exact this) (λae k1 s1=>by
  have:=hb _ _ (sd a η .o s.new).2 (ae++[.aD (bp es x (.str (vn (s.k+1))))]) ae.length (bp es x (.str (vn (s.k+1)))) (λq=>by exact ff q) S' (lI 0x32004904904900904920536018184d38530e [_,_,_] rfl hk hn lk) pj (lI 0xe04d30124124024124124124815004d04f84538141118185148504f48c [_,_,_,_,_,_,_] rfl hw hK hn lw) (K.app s1) (K.ne s1) bL (by have:=gX es x (.str (vn (s.k+1)));exact lN 0xe04d30124124124814e04184d3c50613cc [_,_,_,_] rfl hl this) ((D.up K (k1.trans .add) le (aR _) (bq _)).put rfl);replace this:=(fS e2)▸this
  exact this) l2
theorem Qk{A VF m:Nat}{V bK w:Int}{f:Bool}{Γ:Sc}{g:Str}{a:Tm}{ka k:Kd}{D':Nat}(hg:look Γ g=some ⟨g,.z,.fn ka k⟩)(ga:bG V bK Γ 0 D' .z a ka)(ha:cM st aC bf Out A VF V bK m f Γ .z a)(hA:1<=A)(hF:VF<=A)(hw:bK+V<=w)(h0:0<=bK/\0<=V):cM st aC bf Out (A+2) VF V w m f Γ .z (.use g a):=λη Δ s σ d es hf S hk hB hK hs bC hd hl D=>by
 refine aZ (ga η Δ s S hk hB) λg1 l1=>?_;have hk1:=dQ hk l1.k;have:=l1.w;refine DN (D g _ hg) λcv x body d' es' h1 h2 h3 h4 h5 h6=>?_;refine aM (S g _ hg) λF eF Sm=>?_;have l2:=(Sm Δ (Dm.le.refl _) _ (sd a η .z s).2 g1.ok hk1 (hB.up l1.k)).2;have e:sd (.use g a) η .z s=(η g).f (sd a η .z s).1 (sd a η .z s).2:=rfl;refine e.symm▸?_;refine K.yX (u:=(sd a η .z s).1) (s1:=(sd a η .z s).2) bC hd h1 h2 h3 h4 h5 hA (ha η Δ s σ d es hf S hk hB (by exact lI 0x38134c0490490490492054013cd14f80538140c [_,_,_,_,_] rfl hw h0.2 hK) hs bC hd hl D) (λae k1 s1=>K.more (h6 Δ (Dm.le.refl _) ae _ _ k1 s1 g1.ok hk1 (hB.up l1.k) (by exact lI 0x38134c04904904904920540134f14e05044504f44c [_,_,_,_,_,_] rfl hw hK this)) hF) (w:=V) ?_
 (refine eF.symm▸?_);exact l2
theorem MM{A VF m:Nat}{V bK bQ w:Int}{f:Bool}{Γ:Sc}{x:Str}{n:Int}{a b:Tm}{k:Kd}{D' qL:Nat}(hn:0<=n/\n<=9)(ga:bG V bK Γ 0 D' .z a k)(gb:bG V bQ (Γ++[⟨x,.z,.val k⟩]) 0 qL .z b k)(ha:cM st aC bf Out A VF V bK (m+1) f Γ .z a)(hb:cM st aC bf Out A VF V bQ m f (Γ++[⟨x,.z,.val k⟩]) .z b)(hA:1<=A)(hw:bK+9*bQ<=w)(h0:0<=bK/\0<=bQ):
  cM st aC bf Out (A+2) VF V w (m+1) f Γ .z (.bu n x a b):=λη Δ s σ d es hf S hk hB hK hs bC hd hl D=>by
 refine aZ (ga η Δ s S hk hB) λg1 l1=>?_;have S':∀r:Bv×Sg,iz Δ k r.1->Se V (Γ++[⟨x,.z,.val k⟩]) (cm η x (.val r.1)) Δ:=λr hr=>S.put ⟨_,rfl,hr⟩;have go:∀j:Nat,j<=9->iz Δ k (cV (λv=>sd b (cm η x (.val v)) .z) j (sd a η .z s)).1/\s.le (bK+j*bQ) (cV (λv=>sd b (cm η x (.val v)) .z) j (sd a η .z s)).2:=by
  intro j
  induction j with
  |zero=>exact λ_=>⟨g1.ok,l1.up (by simp)⟩
  |succ j ih=>
   intro hj;refine aZ (ih (bE ‹_›)) λh1 h2=>?_;rw[ti];refine aZ (gb _ Δ _ (S' _ h1) (dQ hk h2.k) (hB.up h2.k)) λg2 l2=>?_;refine⟨g2.ok,h2.trans l2 ?_⟩;rw[show((j+1:Nat):Int)=j+1 by rfl,Int.add_mul,Int.one_mul];exact lI 0x104e34c04e04d301248 [_,_,_] rfl
 have eA:∀j:Nat,j<9->bK+j*bQ+bQ<=w:=λj hj=>by
  have:(j:Int)*bQ<=8*bQ:=Int.mul_le_mul_of_nonneg_right (lI 0xa0c049049205a4184c [_] rfl (Int.ofNat_lt.mpr hj)) h0.2;exact lI 0xf04e04d30124124124814f0443a930510ea0d [_,_,_,_] rfl hw this
 exact K.xW hn bC hd (gO ‹_›) hA (ha η Δ s σ d es hf S hk hB (lI 0x38134c04904924904920540110fa4d14f80538140c [_,_,_,_,_] rfl hw h0.2 hK) hs bC hd hl D) (λj ae hj k1 s1=>by
  have j9:=Nat.lt_of_lt_of_le hj (Int.toNat_le.mpr hn.2);refine aZ (go j (Nat.le_of_lt j9)) λh1 h2=>?_;have y1:=h2.w;have y2:=eA j j9;rw[ti]
  exact hb _ Δ _ (ae++[.aD (bp es x (cV (λv=>sd b (cm η x (.val v)) .z) j (sd a η .z s)).1.v)]) ae.length (bp es x (cV (λv=>sd b (cm η x (.val v)) .z) j (sd a η .z s)).1.v) hf (S' _ h1) (dQ hk h2.k) (hB.up h2.k) (lI 0x38134c04904904904920538140f14105244f305401341491 [_,_,_,_,_,_,_] rfl hK y1 y2) (K.app s1) (K.ne s1) bL (by have:=gX es x (cV (λv=>sd b (cm η x (.val v)) .z) j (sd a η .z s)).1.v;exact lN 0xe04d30124124124814e04184d3c50613cc [_,_,_,_] rfl hl this) ((D.up K (k1.trans .add) (Dm.le.refl _) (aR _) (bq _)).put rfl))
  λj hj=>by
   obtain⟨h1,h2⟩:=go j (Nat.le_of_lt (Nat.lt_of_lt_of_le hj (Int.toNat_le.mpr hn.2)));rw[ti];exact⟨_,(gb _ Δ _ (S' _ h1) (dQ hk h2.k) (hB.up h2.k)).2⟩
theorem Ql{A A' VF jw m:Nat}{V V' bK w:Int}{f:Bool}{Γ:Sc}{g x kd:Str}{a b:Tm}{ka k k':Kd}{D':Nat}(ga:bG V bK (Γ++[⟨x,.z,.val ka⟩]) 0 D' .z a k)(ha:cM st aC bf Out A' VF V bK m false (Γ++[⟨x,.z,.val ka⟩]) .z a)(hb:cM st aC bf Out A jw V' w m f (Γ++[⟨g,.z,.fn ka k⟩]) .z b)(hA:1<=A)(hF:VF<=jw)(Sn:A'<=jw)(hV:V<=V')(hw:bK<=V')(h0:0<=bK):
  cM st aC bf Out (A+2) VF V w (m+1) f Γ .z (.def_ g x kd a b):=λη Δ s σ d es hf S hk hB hK hs bC hd hl D=>by
 have S':Se V' (Γ++[⟨g,.z,.fn ka k⟩]) (cm η g (.fn λv=>sd a (cm η x (.val v)) .z)) Δ:=(S.up (Dm.le.refl Δ) hV).put ⟨_,rfl,λdu q v s' hv hk' pj=>by
  refine aZ (ga (cm η x (.val v)) du s' ((S.up q (bq _)).put ⟨_,rfl,hv⟩) hk' pj) λg1 l1=>?_
  exact⟨g1.ok,l1.up hw⟩⟩
 refine K.y6 hs bC hd (gO ‹_›) hA λae cv k1 s1 hc=>?_;refine hb _ Δ s (ae++[.aD (bp es g cv)]) ae.length (bp es g cv) hf S' hk hB hK (K.app s1) (K.ne s1) bL (by have:=gX es g cv;exact lN 0xe04d30124124124814e04184d3c50613cc [_,_,_,_] rfl hl this) ((D.up K (k1.trans .add) (Dm.le.refl _) hF hV).put ?_);refine⟨cv,x,a,d,es,rfl,K.uX .add hc,bC,old (k1.get bC hd),by(exact gO ‹_›),λdu q af s' u k' g1 g2 g3 g4 g5=>?_⟩;exact K.more (ha (cm η x (.val u)) du s' (af++[.aD (bp es x u.v)]) af.length (bp es x u.v) (λz=>by exact ff z) ((S.up q (bq _)).put ⟨_,rfl,g2⟩) g3 g4 (lI 0xe04d30124124124814f3453813cc [_,_,_,_] rfl hw g5) (K.app g1) (K.ne g1) bL (by have:=gX es x u.v;exact lN 0xe04d30124124124814e04184d3c50613cc [_,_,_,_] rfl hl this) ((D.up K (((k1.trans .add).trans k').trans .add) q (aR _) (bq _)).put rfl)) Sn
theorem Qm{A VF m:Nat}{V bK bQ w:Int}{Γ:Sc}{g x:Str}{a b:Tm}{ka k k' k₁:Kd}{u u' D':Nat}(ga:bG V bK (Γ++[⟨x,.o,.val ka⟩]) u D' .o a k₁)(gb:bG V bQ (Γ++[⟨g,.o,.fn ka k⟩]) u' D' .o b k')(ha:cM st aC bf Out A VF V bK m false (Γ++[⟨x,.o,.val ka⟩]) .o a)(hb:cM st aC bf Out A VF V bQ m false (Γ++[⟨g,.o,.fn ka k⟩]) .o b)(hA:1<=A)(hw:2+bK+bQ<=w)(h0:0<=bK/\0<=bQ){f:Bool}:
  cM st aC bf Out (A+2) VF V w (m+1) f Γ .o (.def_ g x "number" a b):=λη Δ s σ d es hf S hk hB hK hs bC hd hl D=>by
 have sN:K0=9000000000:=rfl;have hn:s.new.new.k=s.k+1+1:=rfl;have f1:=hB.none hk (bq _);have f2:=hB.none hk (lI 0x184184c061301248 [_] rfl);have S1:Se V (Γ++[⟨x,.o,.val ka⟩]) (cm η x (.nm (vn (s.k+1+1)))) (dW Δ (vn (s.k+1+1)) .v):=(S.up (Dm.le.new .v f2) (bq _)).put ⟨_,rfl,n0⟩;have B1:Below (dW Δ (vn (s.k+1+1)) .v) s.new.new.k:=(hB.up (lI 0x34c04904920606106130d [_,_] rfl hn)).put ⟨by exact lI 0x61061321049049205320 [_] rfl hk,by(exact bq _)⟩ _;refine bB λXx aI=>?_;obtain⟨⟨p,e1,_⟩,l1⟩:=ga _ _ s.new.new S1 (lI 0xc80124124024124814d80606106134c [_,_] rfl hk hn) B1;have lk:=l1.k;have lw:=l1.w;have S2:Se V (Γ++[⟨g,.o,.fn ka k⟩]) (cm η g (.nm (vn (s.k+1)))) (dW Δ (vn (s.k+1)) .f):=(S.up (Dm.le.new .f f1) (bq _)).put ⟨_,rfl,n0⟩;have B2:Below (dW Δ (vn (s.k+1)) .f) (sd a (cm η x (.nm (vn (s.k+1+1)))) .o s.new.new).2.k:=(hB.up (lI 0xd30124124124818184184c38534e [_,_,_] rfl hn lk)).put ⟨by exact lI 0x61321049049205320 [_] rfl hk,by(exact Int.le_of_lt ‹_›)⟩ _;obtain⟨⟨q,e2,_⟩,l2⟩:=gb _ _ (sd a (cm η x (.nm (vn (s.k+1+1)))) .o s.new.new).2 S2 (lI 0x32004904904900904920536018184184d38530e [_,_,_] rfl hk hn lk) B2;refine aI ?_;have e:sd (.def_ g x "number" a b) η .o s=(.pc (.def_ (vn (s.k+1)) (vn (s.k+1+1)) "number" p q),(sd b (cm η g (.nm (vn (s.k+1)))) .o (sd a (cm η x (.nm (vn (s.k+1+1)))) .o s.new.new).2).2):=by
  show(Bv.pc (.def_ (vn (s.k+1)) (vn (s.k+1+1)) "number" (sd a (cm η x (.nm (vn (s.k+1+1)))) .o s.new.new).1.p (sd b (cm η g (.nm (vn (s.k+1)))) .o (sd a (cm η x (.nm (vn (s.k+1+1)))) .o s.new.new).2).1.p),_)=_
  (refine e1.symm▸?_;refine e2.symm▸?_);rfl
 refine e.symm▸?_
 exact K.y7 hs hk (lI 0x1d01fe1c21d41e906106106130124124124024124124124124814f04e04d8853a015004f306007a07447707607a1015244504d452 [_,_,_,_,_,_,_] rfl hw h0.2 hK sN lk lw) bC hd (gO ‹_›) hA (λae k1 s1=>by
  have:=ha _ _ s.new.new (ae++[.aD (bp es x (.str (vn (s.k+1+1))))]) ae.length (bp es x (.str (vn (s.k+1+1)))) (λz=>by exact ff z) S1 (lI 0xc80124124024124814d80606106134c [_,_] rfl hk hn) B1 (lI 0xe04d30124024124124124124815004f04d8853e014e05044606106144c [_,_,_,_,_,_] rfl hw h0.2 hK hn) (K.app s1) (K.ne s1) bL (by have:=gX es x (.str (vn (s.k+1+1)));exact lN 0xe04d30124124124814e04184d3c50613cc [_,_,_,_] rfl hl this) ((D.up K (k1.trans .add) (Dm.le.new .v f2) (aR _) (bq _)).put rfl);replace this:=(fS e1)▸this
  exact this) (λae k1 s1=>by
  have:=hb _ _ (sd a (cm η x (.nm (vn (s.k+1+1)))) .o s.new.new).2 (ae++[.aD (bp es g (.str (vn (s.k+1))))]) ae.length (bp es g (.str (vn (s.k+1)))) (λz=>by exact ff z) S2 (lI 0x32004904904900904920536018184184d38530e [_,_,_] rfl hk hn lk) B2 (lI 0xe04d30124124024124124124815004d04f88538141118184185148504f48c [_,_,_,_,_,_,_] rfl hw hK hn lw) (K.app s1) (K.ne s1) bL (by have:=gX es g (.str (vn (s.k+1)));exact lN 0xe04d30124124124814e04184d3c50613cc [_,_,_,_] rfl hl this) ((D.up K (k1.trans .add) (Dm.le.new .f f1) (aR _) (bq _)).put rfl);replace this:=(fS e2)▸this
  exact this) l2
end
section
variable{st:Nat}{aC:H->Sg->Prop}{bf:H->V->Str->Tm->Nat->Prop}{Out:Lv->Nat->Tm->Nat->H->Bv×Sg->Prop}
variable(K:qm st aC bf Out)
include K
theorem cM.up{A A' VF m m':Nat}{V w w':Int}{f:Bool}{Γ:Sc}{l:Lv}{t:Tm}(h:cM st aC bf Out A VF V w m f Γ l t)(hA:A<=A')(hw:w<=w')(hm:m<=m'):cM st aC bf Out A' VF V w' m' f Γ l t:=
 λη Δ s σ d es hf S hk hB hK hs bC hd hl D=>K.more (h η Δ s σ d es hf S hk hB (lI 0xe04d30124124124814f3453813cc [_,_,_,_] rfl hw hK) hs bC hd (lN 0xe04d30124124124814f3453813cc [_,_,_,_] rfl hm hl) D) hA
theorem stage{d:Nat}{Γ:Sc}{l:Lv}{f:Bool}{t:Tm}{k:Kd}(h:HG d Γ l f t k):∀b V VF,0<=V->(l=.o->f=false)->(b=false->ij Γ)->d<=cap l b->cM st aC bf Out (fb f d VF) VF V (W d V) (8*d+8) f Γ l t:=by
 induction h with
|@num d Γ l f i=>intro b V VF hV cX hN hc;have:=fg (f:=f) (d:=d) (VF:=VF);(clear hc cX;cases l);exact EM K (cJ ‹_›);exact yv K (cJ ‹_›)
|@name d Γ l f x k hx=>intro b V VF hV cX hN hc;have:=fg (f:=f) (d:=d) (VF:=VF);(clear hc cX;cases l);exact DF K hx (cJ ‹_›);exact uB K hx (cJ ‹_›)
|@kz d Γ f x hx=>intro b V VF hV cX hN hc;have:=fg (f:=f) (d:=d) (VF:=VF);exact(uC K (f':=false) (A:=1) (λq=>by exact ff q) (DF K hx (aR _)) (aR _)).up K (cJ ‹_›) (bq _) (aR _)
|@kW d Γ f x hx=>intro b V VF hV cX hN hc;have:=fg (f:=f) (d:=d) (VF:=VF);exact(oy K (f':=false) (A:=4) (D':=1) (u:=0) (k:=.aB) (λq=>by exact ff q) ((ou hx (aR _)).up (aR _) (aR _) (di d hV)) (uB K hx (dI _ _)) (aR _)).up K (cJ ‹_›) (bq _) (aR _)
|@kX d Γ f i=>intro b V VF hV cX hN hc;have:=fg (f:=f) (d:=d) (VF:=VF);exact(oy K (f':=false) (A:=4) (D':=1) (u:=0) (k:=.aB) (λq=>by exact ff q) ((rJ (aR _)).up (aR _) (aR _) (di d hV)) (yv K (dI _ _)) (aR _)).up K (cJ ‹_›) (bq _) (aR _)
|@lb d Γ f i=>intro b V VF hV cX hN hc;have:=fg (f:=f) (d:=d) (VF:=VF);exact(DG K (A:=1) (u:=0) (D':=0) (xQ.up (aR _) (aR _) (di d hV)) (EM K (aR _)) (aR _)).up K (cJ ‹_›) (bq _) (aR _)
|@aj d Γ l f w a b' ha hb bl bV=>
  intro b V VF hV cX hN hc;have ik:=fg (f:=f) (d:=d) (VF:=VF);have hst:=iH (f:=f) (d:=d) (VF:=VF);have cf:=(ez (d:=d) hV).1;have hw0:=di d hV;have g1:=good ha b V hV hN (bE ‹_›);have g2:=good hb b V hV hN (bE ‹_›);have i1:=bl b V VF hV cX hN (bE ‹_›);have i2:=bV b V VF hV cX hN (bE ‹_›);clear hc cX bV bl hb ha;cases l with
  |z=>exact(Qg K (u:=ub .z b d) (D:=30+d) g1 g2 i1 i2 (cJ ‹_›) (bq _) ⟨hw0,hw0⟩).up K hst (by exact lI 0x34130c0492090490492053a014d04432a04e8c5320 [_,_,_] rfl hV cf hw0) (d7 _ _)
  |o=>exact(EN K g1 g2 i1 i2 (cJ ‹_›) (bq _) ⟨hw0,hw0⟩).up K (bE ‹_›) (by exact lI 0x34130c0492090490492053a014d04432a04e8c5320 [_,_,_] rfl hV cf hw0) (d7 _ _)
|@when d Γ l f a b' c k ha hb ic bl bV gs=>
  intro b V VF hV cX hN hc;have ik:=fg (f:=f) (d:=d) (VF:=VF);have hst:=iH (f:=f) (d:=d) (VF:=VF);have cf:=(ez (d:=d) hV).1;have hw0:=di d hV;have g1:=good ha b V hV hN (bE ‹_›);have g2:=good hb b V hV hN (bE ‹_›);have g3:=good ic b V hV hN (bE ‹_›);have i1:=bl b V VF hV cX hN (bE ‹_›);have i2:=bV b V VF hV cX hN (bE ‹_›);have i3:=gs b V VF hV cX hN (bE ‹_›);clear hc cX gs bV bl ic hb ha;cases l with
  |z=>exact(OI K g1 g2 g3 i1 i2 i3 (cJ ‹_›) (bq _) ⟨hw0,hw0⟩).up K hst (by exact lI 0x34130c0492090490492053a014d04432a04e8c5320 [_,_,_] rfl hV cf hw0) (d7 _ _)
  |o=>exact(OJ K g1 g2 g3 i1 i2 i3 (cJ ‹_›) (bq _) ⟨hw0,hw0,hw0⟩).up K (bE ‹_›) (by exact lI 0x34130130c0491c90490492053a014d04432a04e8c5320 [_,_,_] rfl hV cf hw0) (d7 _ _)
|@use d Γ l f g a ka k hg ha bl=>
  intro b V VF hV cX hN hc;have ik:=fg (f:=f) (d:=d) (VF:=VF);have hst:=iH (f:=f) (d:=d) (VF:=VF);have cf:=(ez (d:=d) hV).1;have hw0:=di d hV;have g1:=good ha b V hV hN (bE ‹_›);have i1:=bl b V VF hV cX hN (bE ‹_›);clear cX bl ha;cases l with
  |z=>rw[mn hc] at g1;exact(Qk K hg g1 i1 (cJ ‹_›) EJ (bq _) ⟨hw0,hV⟩).up K hst (by exact lI 0xe04d30124924124814e04432a04d8c5320 [_,_,_] rfl cf hw0) (d7 _ _)
  |o=>exact(Qj K hg g1 i1 (cJ ‹_›)).up K (bE ‹_›) (by exact lI 0x34c0492490490492053a014d04432a04e8c5320 [_,_,_] rfl hV cf hw0) (d7 _ _)
|@a9 d Γ l f x a b' k k' ha hb bl bV=>
  intro b V VF hV cX hN hc;have ik:=fg (f:=f) (d:=d) (VF:=VF);have hst:=iH (f:=f) (d:=d) (VF:=VF);have cf:=(ez (d:=d) hV).1;have hw0:=di d hV;have fM:b=false->ij (Γ++[⟨x,l,.val k⟩]):=λq=>(hN q).val _ _ _;have g1:=good ha b V hV hN (bE ‹_›);have g2:=good hb b V hV fM (bE ‹_›);have i1:=(bl b V VF hV cX hN (bE ‹_›)).up K (aR _) (bq _) (show 8*d+8<=8*d+8+1 by(exact d7 _ _));have i2:=bV b V VF hV cX fM (bE ‹_›);clear fM bV bl hb ha;cases l with
  |z=>rw[mn hc] at g1;exact(yw K g1 g2 i1 i2 (cJ ‹_›) (bq _) ⟨hw0,hw0⟩).up K hst (by exact lI 0x34130c0492090490492053a014d04432a04e8c5320 [_,_,_] rfl hV cf hw0) (by exact lN 0x1a0406132806106810ca01248 [_] rfl)
  |o=>cases cX rfl;exact(uY K g1 g2 i1 i2 (cJ ‹_›) (bq _) ⟨hw0,hw0⟩).up K hst (by exact lI 0x3413013210492090490492053a014d04432a04e8c5320 [_,_,_] rfl hV cf hw0) (by exact lN 0x1a0406132806106810ca01248 [_] rfl)
|@bu d Γ l f n x a b' k hn ha hb bl bV=>
  intro b V VF hV cX hN hc;have ik:=fg (f:=f) (d:=d) (VF:=VF);have hst:=iH (f:=f) (d:=d) (VF:=VF);have cf:=(ez (d:=d) hV).1;have hw0:=di d hV;have fM:b=false->ij (Γ++[⟨x,l,.val k⟩]):=λq=>(hN q).val _ _ _;have g1:=good ha b V hV hN (bE ‹_›);have g2:=good hb b V hV fM (bE ‹_›);have i1:=(bl b V VF hV cX hN (bE ‹_›)).up K (aR _) (bq _) (show 8*d+8<=8*d+8+1 by(exact d7 _ _));have i2:=bV b V VF hV cX fM (bE ‹_›);clear fM bV bl hb ha;cases l with
  |z=>rw[mn hc] at g1 g2;exact(MM K hn g1 g2 i1 i2 (cJ ‹_›) (bq _) ⟨hw0,hw0⟩).up K hst (by exact lI 0xd04432930124124124814e80534110ca813a3 [_,_,_] rfl hV cf) (by exact lN 0x1a0406132806106810ca01248 [_] rfl)
  |o=>cases cX rfl;exact(ML K g1 g2 i1 i2 (cJ ‹_›) (bq _) ⟨hw0,hw0⟩).up K hst (by exact lI 0x3413013210492090490492053a014d04432a04e8c5320 [_,_,_] rfl hV cf hw0) (by exact lN 0x1a0406132806106810ca01248 [_] rfl)
|@lift d Γ f a ha bl=>
  intro b V VF hV cX hN hc;have ik:=fg (f:=f) (d:=d) (VF:=VF);have hst:=iH (f:=f) (d:=d) (VF:=VF);have cf:=(ez (d:=d) hV).1;have hw0:=di d hV;exact(DG K (good ha b V hV hN (bE ‹_›)) (bl b V VF hV cX hN (bE ‹_›)) (cJ ‹_›)).up K (bE ‹_›) (by exact lI 0x34c0492490490492053a014d04432a04e8c5320 [_,_,_] rfl hV cf hw0) (d7 _ _)
|@run d Γ a ha bl=>
  intro b V VF hV cX hN hc;have hst:=iH (f:=true) (d:=d) (VF:=VF);have SE:500<=fb true d VF:=by show 500<=2*d+max 500 (fa d+max 70 VF);exact lN 0x10c10ce18784dd079c4322d079c8208049201241248049201241248 [_,_,_] rfl
  have cf:=(ez (d:=d) hV).1;have hw0:=di d hV;have g1:=good ha b V hV hN (bE ‹_›);rw[mn hc] at g1;exact(Qi K g1 (bl b V VF hV cX hN (bE ‹_›)) (cJ ‹_›)).up K hst (by exact lI 0x34c0492490490492053a014d04432a04e8c5320 [_,_,_] rfl hV cf hw0) (d7 _ _)
|@bJ d Γ f a ha bl=>
  intro b V VF hV cX hN hc;have ik:=fg (f:=f) (d:=d) (VF:=VF);have hst:=iH (f:=f) (d:=d) (VF:=VF);have cf:=(ez (d:=d) hV).1;have hw0:=di d hV;have hc':d<=cap .o b:=by cases b with
   |false=>have hc:d+1<=5:=hc;show d<=4;(exact ct ‹_›)
   |true=>have hc:d+1<=2:=hc;show d<=3;exact lN 0x8cc04904920588184c [_] rfl hc
  have h4:d<=4:=by clear hc;cases b with
   |false=>exact hc'
   |true=>have:d<=3:=hc';(exact jR ‹_›)
  have zM:=fg (f:=false) (d:=d) (VF:=VF);have zN:=EK (f:=f) (d:=d) (VF:=VF);exact(oy K (f':=false) (λq=>by exact ff q) (good ha b V hV hN hc') (bl b V VF hV (λ_=>rfl) hN hc') (by exact lN 0xd06304cf812412412481643053461e1 [_,_] rfl h4 zM)).up K (by exact lN 0xd06130124124124814d06238538c [_,_,_] rfl hst zN) (by exact lI 0x34c0492490490492053a014d04432a04e8c5320 [_,_,_] rfl hV cf hw0) (d7 _ _)
|@hole d Γ f a ha bl=>
  intro b V VF hV cX hN hc;have ik:=fg (f:=f) (d:=d) (VF:=VF);have hst:=iH (f:=f) (d:=d) (VF:=VF);have cf:=(ez (d:=d) hV).1;have hw0:=di d hV;have hc':d<=cap .z b:=by cases b with
   |false=>have hc:d+1<=4:=hc;show d<=5;exact lN 0x94c04904920590184c [_] rfl hc
   |true=>have hc:d+1<=3:=hc;show d<=2;(exact ct ‹_›)
  have zM:=fg (f:=false) (d:=d) (VF:=VF);have zN:=EK (f:=f) (d:=d) (VF:=VF);exact(uC K (f':=false) (λq=>by exact ff q) (bl b V VF hV (λq=>by cases q) hN hc') (cJ ‹_›)).up K (by exact lN 0xd06130124124124814d06238538c [_,_,_] rfl hst zN) (by exact lI 0x34c0492490490492053a014d04432a04e8c5320 [_,_,_] rfl hV cf hw0) (d7 _ _)
|@def_ d Γ l f g x a b' ka k k' hl ha hb bl bV=>
  intro b V VF hV cX hN hc;have ik:=fg (f:=f) (d:=d) (VF:=VF);have hst:=iH (f:=f) (d:=d) (VF:=VF);have cf:=(ez (d:=d) hV).1;have hw0:=di d hV;have zO:b=false->ij (Γ++[⟨x,l,.val ka⟩]):=λq=>(hN q).val _ _ _;have g1:=good ha b V hV zO (bE ‹_›);have i1:=bl b V VF hV (λ_=>rfl) zO (bE ‹_›);clear zO bl ha;cases l with
  |z=>
   have zH:0<=max V (W d V):=by exact lI 0xcd320201241241248049009049205360 [_,_] rfl hw0
   have h11:=(ez (d:=d) hV).2;have i2:=bV b (max V (W d V)) (max VF (fb false d VF)) zH (λq=>by cases q) (λq=>(hN q).fz _ _ _) (bE ‹_›);have zM:=fg (f:=f) (d:=d) (VF:=max VF (fb false d VF));have So:=OH (f:=f) (d:=d) (VF:=VF);rw[mn hc] at g1;exact(Ql K (k':=k') g1 i1 i2 (cJ ‹_›) (by exact lN 0x334c308049201241248 [_,_] rfl) (by exact lN 0x330d308049049201248 [_,_] rfl) (by exact lI 0x334c308049201241248 [_,_] rfl) (by exact lI 0x330d308049049201248 [_,_] rfl) hw0).up K So (by exact lI 0xd30124124124814e8053413013a3 [_,_,_] rfl hV h11) (by exact lN 0x1a0406132806106810ca01248 [_] rfl)
  |o=>
   cases cX rfl;obtain⟨rfl,rfl⟩:=hl rfl;have h3:d<=3:=by cases b with
    |false=>have hc:d+1<=4:=hc;(exact ct ‹_›)
    |true=>have hc:d+1<=3:=hc;(exact bE ‹_›)
   have g2:=good hb true V hV (λq=>by exact tf q) (show d<=3 from h3);have i2:=bV true V VF hV (λ_=>rfl) (λq=>by exact tf q) (show d<=3 from h3);exact(Qm K g1 g2 i1 i2 (cJ ‹_›) (bq _) ⟨hw0,hw0⟩).up K hst (by exact lI 0x3413013220492090490492053a014d04432a04e8c5320 [_,_,_] rfl hV cf hw0) (by exact lN 0x1a0406132806106810ca01248 [_] rfl)
|@kept d Γ f x g a b' ha hb bl bV=>
  intro b V VF hV cX hN hc;cases cX rfl;have hw0:=di d hV;have hw1:=oB hV (show d-1<=d by(exact Nat.sub_le _ _));have iW:=di (d-1) hV;have cf:=(ez (d:=d) hV).1;have h4:d+1<=4:=by cases b with
   |false=>exact hc
   |true=>have hc:d+1<=3:=hc;(exact jR ‹_›)
  have ik:=fg (f:=false) (d:=d-1) (VF:=VF);have zu:fb false (d-1) VF+6<=fb false (d+1) VF:=by
   clear ik h4 cf iW hw1 hw0 hc bV bl hb ha;cases d with
   |zero=>show 0+max 70 VF+6<=14+max 70 VF;exact lN 0x10cc18786e0660433061e1808208049201241248049049201248 [_] rfl
   |succ e=>have h1:fb false e VF+2<=fb false (e+1) VF:=iH;have e2:fa (e+1+1)=14+2*fa (e+1):=rfl;show fb false e VF+6<=fa (e+1+1)+max 70 VF;have h1:fb false e VF+2<=fa (e+1)+max 70 VF:=h1;exact lN 0x10ce18784d06630820808900908900904920224224224024124808908908900904920224024224024124818110f8ae3450433861e13c188c [_,_,_,_] rfl e2 h1
  have fM:b=false->ij (Γ++[⟨x,.o,.val .aB⟩]++[⟨g,.z,.val .aY⟩]):=λq=>((hN q).val _ _ _).val _ _ _;have g1:=good ha b V hV hN (by exact lN 0x34284c20124024124804900904920534184c [_,_] rfl hc);have g2:=good hb b V hV fM (by exact lN 0x34284c20124024124804900904920534184c [_,_] rfl hc);have i1:=bl b V VF hV (λ_=>rfl) hN (by exact lN 0x34284c20124024124804900904920534184c [_,_] rfl hc);have i2:=bV b V VF hV (λ_=>rfl) fM (by exact lN 0x34284c20124024124804900904920534184c [_,_] rfl hc);have gn:bG V 0 (Γ++[⟨x,.o,.val .aB⟩]) 0 1 .o (.name x) .aB:=ou (mw Γ ⟨x,.o,.val .aB⟩) (aR _);have gq:bG V 0 (Γ++[⟨x,.o,.val .aB⟩]) 0 30 .z (.un .bJ (.name x)) .aY:=jE (bq _) gn;have sO:=jE (D':=30) iW g2;have ih:=uC K (f:=false) (f':=false) (λq=>q) (yw K (x:=g) gq sO (oy K (f':=false) (λq=>q) gn (uB K (mw Γ ⟨x,.o,.val .aB⟩) (cJ ‹_›)) (cJ ‹_›)) (oy K (f:=false) (f':=false) (λq=>q) g2 i2 (by exact lN 0xd06304284cf880490090490492012402412481640613053461e1 [_,_] rfl h4 ik)) (dI _ _) (show(0:Int)+W (d-1) V<=W (d-1) V by exact lI 825917182536 [_] rfl) ⟨bq _,iW⟩) (dI _ _);exact(uY K (g1.up (aR _) (show 30+(d-1)<=30+d by exact lN 0x133e04284cf88049201248 [_] rfl) (bq _)) (p6 (k:=.aB) (D:=30+d) (rK (x:=g) gq sO (show(0:Int)+W (d-1) V<=W (d-1) V by exact lI 825917182536 [_] rfl)) (d7 _ _)) (i1.up K (show fb false (d-1) VF<=fb false (d-1) VF+1+2+1 by exact lN 0x184188184c301248 [_] rfl) (bq _) (show 8*(d-1)+8<=8*(d-1)+8+1+1 by exact lN 0x1841841a040a132806810284ca08208049201248248049209201248 [_] rfl)) ih (dI _ _) (bq _) ⟨iW,iW⟩).up K ‹_› (by exact lI 0xd04c04c84124124824a24124814e8053cc14c80534110fa813a3 [_,_,_,_] rfl hV hw1 iW cf) (by exact lN 0x1a0406132806106910284ca08049201248 [_] rfl)
|@twice d Γ f x g a y i b' c ha hb ic bl bV gs=>
  intro b V VF hV cX hN hc;cases cX rfl;have hw0:=di d hV;have hw1:=oB hV (show d-1<=d by(exact Nat.sub_le _ _));have sL:=oB hV (show d-2<=d by(exact Nat.sub_le _ _));have iW:=di (d-1) hV;have jX:=di (d-2) hV;have cf:=(ez (d:=d) hV).1;have h4:d+1<=4:=by cases b with
   |false=>exact hc
   |true=>have hc:d+1<=3:=hc;(exact jR ‹_›)
  have ik:=fg (f:=false) (d:=d-1) (VF:=VF);have zu:fb false (d-1) VF+10<=fb false (d+1) VF:=by
   clear ik h4 cf jX iW sL hw1 hw0 hc gs bl ic ha;cases d with
   |zero=>show 0+max 70 VF+10<=14+max 70 VF;exact lN 0x10cc18786e06a0433061e1808208049201241248049049201248 [_] rfl
   |succ e=>have h1:fb false e VF+2<=fb false (e+1) VF:=iH;have e2:fa (e+1+1)=14+2*fa (e+1):=rfl;show fb false e VF+10<=fa (e+1+1)+max 70 VF;have h1:fb false e VF+2<=fa (e+1)+max 70 VF:=h1;exact lN 0x10ce18784d06a30820804900904900904920124124124024124804904904900904920124024124024124818110f8ae3450433861e13c188c [_,_,_,_] rfl e2 h1
  have fm:∀{i j:Nat},i<=j->fb false i VF<=fb false j VF:=λ{i j} h=>by
   induction j with
   |zero=>rw[Nat.le_zero.mp h];exact aR _
   |succ j ih=>
    rcases Nat.lt_or_ge i (j+1) with q|q
    ·exact bR (ih (ct ‹_›)) (gO (iH (f:=false) (d:=j) (VF:=VF)))
    ·rw[show i=j+1 by exact cK (lN 0x6134c04904920506134c [_,_] rfl h) (lN 0x34184c04904920534184c [_,_] rfl q)];exact aR _
  have fM:b=false->ij (Γ++[⟨x,.o,.val .aB⟩]++[⟨g,.z,.val .aY⟩]++[⟨y,.o,.val .aB⟩]):=λq=>(((hN q).val _ _ _).val _ _ _).val _ _ _;have g3:=good ic b V hV fM (by exact lN 0x34288c20124024124804900904920534184c [_,_] rfl hc);have GS:=((good hb b V hV fM (gP _)).up (aR _) (show 30+0<=30+(d-2) by(exact d7 _ _)) (bq _)).up (show ub .o b 0<=ub .o b (d-2) from m6 (gP _)) (aR _) (bq _);have GU:W 0 V=0:=rfl;have uu:∃u4,ub .o b (d-2)=0∨ub .o b (d-2)+1<=u4:=⟨ub .o b (d-2)+1,.inr (aR _)⟩;refine b6 (uu) λu4 zw=>?_;have g4:=xR (o:=.sum) (k':=.aB) GS g3 zw (aR _) (show W 0 V+W (d-2) V<=W (d-2) V by exact lI 0x34134c04900904920680c [_,_] rfl GU);have GV:bG V 0 (Γ++[⟨x,.o,.val .aB⟩]++[⟨g,.z,.val .aY⟩]) u4 (30+(d-2)+1) .o (.num i) .aB:=rJ (dI _ _);have g5:=rL (oY:=.aB) (x:=y) GV g4 (u':=u4+1) (.inr (aR _)) (aR _) (show 1+0+W (d-2) V<=1+W (d-2) V by(exact bq _));have gn:bG V 0 (Γ++[⟨x,.o,.val .aB⟩]) 0 1 .o (.name x) .aB:=ou (mw Γ ⟨x,.o,.val .aB⟩) (aR _);have gq:bG V 0 (Γ++[⟨x,.o,.val .aB⟩]) 0 30 .z (.un .bJ (.name x)) .aY:=jE (bq _) gn;have sO:=jE (D':=30) (show(0:Int)<=1+W (d-2) V by exact lI 0x4c860049049205320 [_] rfl jX) g5;have gx:∃u9,bG V (W (d-1) V) Γ u9 (30+d) .o a .aB/\bG V (1+W (d-2) V) (Γ++[⟨x,.o,.val .aB⟩]) u9 (30+d) .o (.un .hole (.a9 g (.un .bJ (.name x)) (.un .bJ (.a9 y (.num i) (.aj .sum b' c))))) .aB:=⟨max (ub .o b (d-1)) (u4+1),(good ha b V hV hN (by exact lN 0x34284c20124024124804900904920534184c [_,_] rfl hc)).up (by exact lN 0x306134c308049201241248 [_,_] rfl) (by exact lN 0x133e04284cf88049201248 [_] rfl) (bq _),(p6 (k:=.aB) (D:=30+d) (rK (x:=g) gq sO (show(0:Int)+(1+W (d-2) V)<=1+W (d-2) V by exact lI 0x1321041321801248 [_] rfl)) (d7 _ _)).up (by exact lN 0x306130d061308049049201248 [_,_] rfl) (aR _) (bq _)⟩;obtain⟨u9,Sp,Sq⟩:=gx;exact(uY K Sp Sq ((bl b V VF hV (λ_=>rfl) hN (by exact lN 0x34284c20124024124804900904920534184c [_,_] rfl hc)).up K (show fb false (d-1) VF<=fb false (d-1) VF+1+2+1+2+1 by exact lN 0x184188184188184c301248 [_] rfl) (bq _) (show 8*(d-1)+8<=8*d+10+1 by exact lN 0x1841a8432806810284ca08049201248 [_] rfl)) ((uC K (f:=false) (f':=false) (λq=>q) (yw K (x:=g) gq sO (oy K (f':=false) (λq=>q) gn (uB K (mw Γ ⟨x,.o,.val .aB⟩) (dI _ _)) (by exact lN 0x610623018e10490492053061e1 [_] rfl ik)) (oy K (f:=false) (f':=false) (λq=>q) g5 (uY K (x:=y) (f:=false) GV g4 (yv K (dI _ _)) (EN K (o:=.sum) GS g3 ((bV b V VF hV (λ_=>rfl) fM (gP _)).up K (fm (show 0<=d-1 by(exact gP _))) (bq _) (show 8*0+8<=8*(d-2)+8 by(exact dI _ _))) ((gs b V VF hV (λ_=>rfl) fM (by exact lN 0x34288c20124024124804900904920534184c [_,_] rfl hc)).up K (fm (show d-2<=d-1 by exact lN 0x284c0a2308208049201241248049049201248 [_] rfl)) (bq _) (aR _)) (cJ ‹_›) (show W 0 V+W (d-2) V<=W (d-2) V by exact lI 0x34134c04900904920680c [_,_] rfl GU) ⟨bq _,jX⟩) (dI _ _) (show 1+0+W (d-2) V<=1+W (d-2) V by(exact bq _)) ⟨bq _,jX⟩) (by exact lN 0x184188d06306106104288cf880490090490492012402412481640613053461e1 [_,_] rfl h4 ik)) (dI _ _) (show(0:Int)+(1+W (d-2) V)<=1+W (d-2) V by exact lI 0x1321041321801248 [_] rfl) ⟨bq _,by exact lI 0x4c860049049205320 [_] rfl jX⟩) (dI _ _)).up K (aR _) (bq _) (show 8*(d-2)+8+1+1<=8*d+10 by exact lN 0x1a8432806106106810288ca08049201248 [_] rfl)) (dI _ _) (bq _) ⟨iW,by exact lI 0x4c860049049205320 [_] rfl jX⟩).up K (bE ‹_›) (by exact lI 0x38104d8413210490492092490490492053e015030540d14d805381110a813e3 [_,_,_,_,_] rfl hV hw1 sL jX cf) (by exact lN 0x1a0406132806106a10ca01248 [_] rfl)
end
section
variable{C:Ctx}{L L1:aQ}{σ ae ao b9:H}{a b o:E}{es:EL}{c f:Nat}
theorem iJ{α β:Type}{m:M α}{g:α->M β}(h:m σ=.aF c ae):M.bind m g σ=.aF c ae:=by unfold M.bind;rw[h]
theorem ej{s i:Nat}{m:Int}{vs:List V}(h0:ak C o L σ=.ok (.ref s) ae)(h1:Self ae s i m)(h2:cZ C es L ae=.ok vs ao)(h3:C.call f (.ref s::vs) ao=.aF c b9):ak C (.cB f o es) L σ=.aF c b9:=by
 rw[wL,aU h0,aU h1.ok,aU h2,h3]
theorem xX{vs:List V}(h1:cZ C es L σ=.ok vs ae)(h2:C.call f vs ae=.aF c ao):ak C (.call f es) L σ=.aF c ao:=by
 rw[j5,aU h1,h2]
theorem OK(h1:cZ C es L σ=.aF c ae):ak C (.call f es) L σ=.aF c ae:=by
 rw[j5];exact iJ h1
theorem rZ(h1:cZ C es L σ=.aF c ae):ak C (.ax es) L σ=.aF c ae:=iJ h1
theorem EO(h1:cZ C es L σ=.aF c ae):ak C (.ah es) L σ=.aF c ae:=iJ h1
theorem kY(h1:ak C a L σ=.aF c ae):cZ C (.cons a es) L σ=.aF c ae:=iJ h1
theorem gf{v:V}(h1:ak C a L σ=.ok v ae)(h2:cZ C es L ae=.aF c ao):cZ C (.cons a es) L σ=.aF c ao:=(aU h1).trans (iJ h2)
theorem OL{op:Operator}{v:V}(h1:ak C a L σ=.ok v ae)(h2:ak C b L ae=.aF c ao):ak C (.aj op a b) L σ=.aF c ao:=(aU h1).trans (iJ h2)
theorem MN(h1:ak C a L σ=.aF c ae):ak C (.tuple a) L σ=.aF c ae:=iJ h1
theorem OM{op:CmpOp}(h1:ak C a L σ=.aF c ae):bP C (.cmp op a b) L σ=.aF c ae:=iJ h1
theorem t6{α β:Type}{m:aQ->M α}{g:α->Qh.N β}(h:m L σ=.aF c ae):Qh.N.bind (Qh.N.lift m) g L σ=.aF c L ae:=by unfold Qh.N.bind Qh.N.lift;rw[h]
theorem kZ{i:Nat}(h1:ak C a L σ=.aF c ae):cF C (.aK i a) L σ=.aF c L ae:=t6 h1
theorem fP(h1:ak C a L σ=.aF c ae):cF C (.ret a) L σ=.aF c L ae:=t6 h1
theorem MO(h1:ak C a L σ=.aF c ae):cF C (.expr a) L σ=.aF c L ae:=t6 h1
theorem MP{t e:SL}(h1:bP C a L σ=.aF c ae):cF C (.ite a t e) L σ=.aF c L ae:=t6 h1
theorem dK{s:S}{r:SL}(h:cF C s L σ=.aF c L1 ae):aW C (.cons s r) L σ=.aF c L1 ae:=by
 show Qh.N.bind (cF C s) _ L σ=_;unfold Qh.N.bind;rw[h]
theorem ei{t r:SL}(h:bP C a L σ=.ok true ae)(h2:aW C t L ae=.aF c L1 ao):aW C (.cons (.ite a t .nil) r) L σ=.aF c L1 ao:=
 dK (by rw[kO h];exact h2)
end
section
variable{P:Prog}{sc:List Int}(B:nD P)
include B
theorem mx{n s a:Nat}{m:Int}{σ:H}(S:Self σ s a m)(h0:0<=m)(h1:m+1<10^10):av P sc (n+1) 26 [.ref s] σ=.ok (.str (vn (m+1))) (σ.set a (.dq (m+1))):=by
 rw[cp B.GH rfl];have hne:s≠a:=λq=>by obtain⟨c,h⟩:=S.i;(replace h:=(S.n)▸(q▸h));cases h
 have S':Self (σ.set a (.dq (m+1))) s a (m+1):=let ⟨c,h⟩:=S.i;⟨⟨c,yp h (λq=>hne q.symm)⟩,gy S.n⟩
 have hs:rE (.int (m+1)) (σ.set a (.dq (m+1)))=.ok (.str (gv (m+1))) (σ.set a (.dq (m+1))):=by
  show(if 0<=m+1/\m+1<10^10 then _ else _:M V) _=_;rw[if_pos ⟨by exact lI 0x61320049049205320 [_] rfl h0,by assumption⟩];rfl
 have ha:binop .Add (.str "v") (.str (gv (m+1))) (σ.set a (.dq (m+1)))=.ok (.str (vn (m+1))) (σ.set a (.dq (m+1))):=by
  show(if(Str.ofString "v").length+(gv (m+1)).length<=aO then _ else _:M V) _=_;rw[if_pos (text_len (by exact lI 0x61320049049205320 [_] rfl h0) h1)];rfl
 exact(congrArg bW ((dC (KU (bT (Du (aE rfl) S) rfl rfl) (aE rfl) S)).trans (bw (bT rfl (by rw[Bx,aU (Du (aE rfl) S')];exact hs) ha)))).trans rfl
omit B in
theorem MQ{C:Ctx}{L:aQ}{o:E}{es:EL}{f s i c:Nat}{m:Int}{σ ae ao:H}(h0:ak C o L σ=.ok (.ref s) ae)(h1:Self ae s i m)(h2:cZ C es L ae=.aF c ao):ak C (.cB f o es) L σ=.aF c ao:=by
 (refine wL.symm▸?_;refine(aU h0).symm▸?_;refine(aU h1.ok).symm▸?_);exact iJ h2
theorem gY{n s d c:Nat}{t:Tm}{w:Str}{σ af:H}{L':aQ}(hw:∀C x L,ak C (.au (.aa 1) (.int 0)) (x::some t.ag::L) σ=.ok (.str w) σ)(h:aW (cx P sc n) FG [some (.ref s),some t.ag,some (.ref d),some (.str w),none,none,none,none,none,none,none] σ=.aF c L' af):av P sc (n+1) 27 [.ref s,t.ag,.ref d] σ=.aF c af:=by
 rw[cp B.zE rfl];exact(congrArg bW ((bk (hw _ _ _)).trans h)).trans rfl
theorem iE{n s d c:Nat}{t:Tm}{w:Str}{σ af:H}{L':aQ}(hw:∀C x L,ak C (.au (.aa 1) (.int 0)) (x::some t.ag::L) σ=.ok (.str w) σ)(h:aW (cx P sc n) vk [some (.ref s),some t.ag,some (.ref d),some (.str w),none,none,none,none] σ=.aF c L' af):av P sc (n+1) 28 [.ref s,t.ag,.ref d] σ=.aF c af:=by
 rw[cp B.zF rfl];exact(congrArg bW ((bk (hw _ _ _)).trans h)).trans rfl
theorem ON{n s d a:Nat}{m:Int}{p:Tm}{i:Int}{σ ae:H}(S:Self σ s a m)(e1:av P sc n 27 [.ref s,p.ag,.ref d] σ=.ok (.int i) ae):av P sc (n+1) 27 [.ref s,(Tm.un .lift p).ag,.ref d] σ=.ok (Tm.num i).ag ae:=
 jC B (λ_ _ _=>rfl) (jmp 9 (by rfl') (b8 (by rfl') (bw (bU (az rfl (az (cN (aE rfl) S rfl e1) ba)) (nb rfl)))))
theorem MR{n s d a c:Nat}{m:Int}{p:Tm}{σ ae:H}(S:Self σ s a m)(e1:av P sc n 27 [.ref s,p.ag,.ref d] σ=.aF c ae):av P sc (n+1) 27 [.ref s,(Tm.un .lift p).ag,.ref d] σ=.aF c ae:=
 gY B (λ_ _ _=>rfl) (jmp 9 (by rfl') (ei (by rfl') (dK (fP (rZ (gf rfl (kY (ej (aE rfl) S rfl e1))))))))
theorem MS{n s d a c:Nat}{m:Int}{u:U2}{x y:Tm}{σ ae:H}(S:Self σ s a m)(e1:av P sc n 27 [.ref s,x.ag,.ref d] σ=.aF c ae):av P sc (n+1) 27 [.ref s,(Tm.aj u x y).ag,.ref d] σ=.aF c ae:=
 gY B (λ_ _ _=>rfl) ((bX (by cases u<;>rfl')).trans ((bX (by cases u<;>rfl')).trans (ei (by cases u<;>rfl') (dK (kZ (ej (aE rfl) S rfl e1))))))
theorem MT{n s d a c:Nat}{m m1:Int}{u:U2}{x y:Tm}{v:V}{σ ae ao:H}(S:Self σ s a m)(e1:av P sc n 27 [.ref s,x.ag,.ref d] σ=.ok v ae)(S1:Self ae s a m1)(e2:av P sc n 27 [.ref s,y.ag,.ref d] ae=.aF c ao):av P sc (n+1) 27 [.ref s,(Tm.aj u x y).ag,.ref d] σ=.aF c ao:=
 gY B (λ_ _ _=>rfl) ((bX (by cases u<;>rfl')).trans ((bX (by cases u<;>rfl')).trans (ei (by cases u<;>rfl') (((bk (cN (aE rfl) S rfl e1)).trans (dK (fP (OK (gf (aE rfl) (gf (aE rfl) (kY (ej (aE rfl) S1 rfl e2))))))))))))
theorem K6{n s d a c:Nat}{m:Int}{x y z:Tm}{σ ae:H}(S:Self σ s a m)(e1:av P sc n 27 [.ref s,x.ag,.ref d] σ=.aF c ae):av P sc (n+1) 27 [.ref s,(Tm.when x y z).ag,.ref d] σ=.aF c ae:=
 gY B (λ_ _ _=>rfl) (jmp 3 (by rfl') (ei (by rfl') (dK (MP (OM (ej (aE rfl) S rfl e1))))))
theorem MU{n s d a c:Nat}{m:Int}{x:Str}{p q:Tm}{σ ae:H}(S:Self σ s a m)(e1:av P sc n 27 [.ref s,p.ag,.ref d] σ=.aF c ae):av P sc (n+1) 27 [.ref s,(Tm.a9 x p q).ag,.ref d] σ=.aF c ae:=
 gY B (λ_ _ _=>rfl) (jmp 4 (by rfl') (ei (by rfl') (dK (kZ (ej (aE rfl) S rfl e1)))))
theorem MV{n s d a c:Nat}{m m1:Int}{x:Str}{p q:Tm}{v:V}{es:List (Str×V)}{σ ae ao:H}(S:Self σ s a m)(e1:av P sc (n+1) 27 [.ref s,p.ag,.ref d] σ=.ok v ae)(S1:Self ae s a m1)(hd:ae[d]?=some (.aD es))(hl:es.length<=aO)(e2:av P sc (n+1) 27 [.ref s,q.ag,.ref ae.length] (ae++[.aD (bp es x v)])=.aF c ao):av P sc (n+2) 27 [.ref s,(Tm.a9 x p q).ag,.ref d] σ=.aF c ao:=
 gY B (λ_ _ _=>rfl) (jmp 4 (by rfl') (ei (by rfl') (((bk (cN (aE rfl) S rfl e1)).trans (dK (fP (ej (aE rfl) S1 (az rfl (az (aN (aP rfl (az rfl rfl)) (fw B.eU hd hl)) ba)) e2)))))))
theorem JF{n s d a c:Nat}{m k:Int}{x:Str}{p q:Tm}{σ ae:H}(S:Self σ s a m)(e1:av P sc n 27 [.ref s,p.ag,.ref d] σ=.aF c ae):av P sc (n+1) 27 [.ref s,(Tm.bu k x p q).ag,.ref d] σ=.aF c ae:=
 gY B (λ_ _ _=>rfl) (jmp 5 (by rfl') (ei (by rfl') (dK (kZ (ej (aE rfl) S rfl e1)))))
theorem OO{n s d a c:Nat}{m:Int}{g x kd:Str}{p q:Tm}{es:List (Str×V)}{σ ao:H}(S:Self σ s a m)(hd:σ[d]?=some (.aD es))(hl:es.length<=aO)(e2:av P sc (n+1) 27 [.ref s,q.ag,.ref σ.length] (σ++[.aD (bp es g (.ax [.str x,p.ag,.ref d]))])=.aF c ao):av P sc (n+2) 27 [.ref s,(Tm.def_ g x kd p q).ag,.ref d] σ=.aF c ao:=
 gY B (λ_ _ _=>rfl) (jmp 6 (by rfl') (ei (by rfl') (dK (fP (ej (aE rfl) S (az rfl (az (aN (aP rfl (az rfl (az (bU (az rfl (az rfl rfl)) (nb rfl)) ba))) (fw B.eU hd hl)) ba)) e2)))))
theorem MW{n s d a c:Nat}{m:Int}{g:Str}{p:Tm}{σ ae:H}(S:Self σ s a m)(e1:av P sc n 27 [.ref s,p.ag,.ref d] σ=.aF c ae):av P sc (n+1) 27 [.ref s,(Tm.use g p).ag,.ref d] σ=.aF c ae:=
 gY B (λ_ _ _=>rfl) (jmp 7 (by rfl') (ei (by rfl') (dK (kZ (ej (aE rfl) S rfl e1)))))
theorem MX{n s d a c:Nat}{d':Nat}{m m1:Int}{g x:Str}{p body:Tm}{v:V}{es es':List (Str×V)}{σ ae ao:H}(S:Self σ s a m)(e1:av P sc (n+1) 27 [.ref s,p.ag,.ref d] σ=.ok v ae)(S1:Self ae s a m1)(hd:ae[d]?=some (.aD es))(hg:de es g=some (.ax [.str x,body.ag,.ref d']))(hd':ae[d']?=some (.aD es'))(hl:es'.length<=aO)(e2:av P sc (n+1) 27 [.ref s,body.ag,.ref ae.length] (ae++[.aD (bp es' x v)])=.aF c ao):av P sc (n+2) 27 [.ref s,(Tm.use g p).ag,.ref d] σ=.aF c ao:=
 gY B (λ_ _ _=>rfl) (jmp 7 (by rfl') (ei (by rfl') (((bk (cN (aE rfl) S rfl e1)).trans ((dC (B0 (cC (aE rfl) rfl (ja hd hg)))).trans (dK (fP (ej (aE rfl) S1 (aP rfl (az (aN (aP rfl (aP rfl rfl)) (fw B.eU hd' hl)) ba)) e2))))))))
theorem Bu{n s d a c:Nat}{m:Int}{p:Tm}{σ ae:H}(S:Self σ s a m)(e1:av P sc n 28 [.ref s,p.ag,.ref d] σ=.aF c ae):av P sc (n+1) 27 [.ref s,(Tm.un .bJ p).ag,.ref d] σ=.aF c ae:=
 gY B (λ_ _ _=>rfl) (jmp 8 (by rfl') (ei (by rfl') (dK (kZ (ej (aE rfl) S rfl e1)))))
theorem JG{n s d a c:Nat}{m:Int}{p R:Tm}{σ ae ao:H}(S:Self σ s a m)(e1:av P sc n 28 [.ref s,p.ag,.ref d] σ=.ok R.ag ae)(e2:av P sc n 24 [R.ag] ae=.aF c ao):av P sc (n+1) 27 [.ref s,(Tm.un .bJ p).ag,.ref d] σ=.aF c ao:=
 gY B (λ_ _ _=>rfl) (jmp 8 (by rfl') (ei (by rfl') (((bk (cN (aE rfl) S rfl e1)).trans (dK (MO (xX rfl e2)))))))
theorem OP{n s d a c:Nat}{m:Int}{p:Tm}{σ ae:H}(S:Self σ s a m)(e1:av P sc n 27 [.ref s,p.ag,.ref d] σ=.aF c ae):av P sc (n+1) 27 [.ref s,(Tm.un .run p).ag,.ref d] σ=.aF c ae:=
 gY B (λ_ _ _=>rfl) (jmp 10 (by rfl') (dK (fP (MQ (aE rfl) S (kY (ej (aE rfl) S rfl e1))))))
theorem MY{n s d a c:Nat}{m:Int}{p:Tm}{σ ae:H}(S:Self σ s a m)(e1:av P sc n 27 [.ref s,p.ag,.ref d] σ=.aF c ae):av P sc (n+1) 28 [.ref s,(Tm.un .hole p).ag,.ref d] σ=.aF c ae:=
 iE B (λ_ _ _=>rfl) (jmp 2 (by rfl') (ei (by rfl') (dK (fP (ej (aE rfl) S rfl e1)))))
theorem OQ{n s d a c:Nat}{m:Int}{es:List (Str×V)}{g y:Str}{p:Tm}{σ ae:H}(S:Self σ s a m)(hd:σ[d]?=some (.aD es))(hv:de es g=some (.str y))(e1:av P sc n 28 [.ref s,p.ag,.ref d] σ=.aF c ae):av P sc (n+1) 28 [.ref s,(Tm.use g p).ag,.ref d] σ=.aF c ae:=
 iE B (λ_ _ _=>rfl) (jmp 3 (by rfl') (ei (by rfl') (dK (fP (rZ (gf rfl (gf (cC (aE rfl) rfl (ja hd hv)) (kY (ej (aE rfl) S rfl e1)))))))))
theorem MZ{n s d a c:Nat}{m m1:Int}{x y:Str}{p q:Tm}{σ cj ae:H}(S:Self σ s a m)(e0:av P sc (n+1) 26 [.ref s] σ=.ok (.str y) cj)(S0:Self cj s a m1)(e1:av P sc (n+1) 28 [.ref s,p.ag,.ref d] cj=.aF c ae):av P sc (n+2) 28 [.ref s,(Tm.a9 x p q).ag,.ref d] σ=.aF c ae:=
 iE B (λ_ _ _=>rfl) (jmp 4 (by rfl') (ei (by rfl') (((bk (cN (aE rfl) S ba e0)).trans (dK (kZ (ej (aE rfl) S0 rfl e1)))))))
theorem M0{n s d a c:Nat}{m m1 m2:Int}{x y:Str}{p q:Tm}{v:V}{es:List (Str×V)}{σ cj ae ao:H}(S:Self σ s a m)(e0:av P sc (n+1) 26 [.ref s] σ=.ok (.str y) cj)(S0:Self cj s a m1)(e1:av P sc (n+1) 28 [.ref s,p.ag,.ref d] cj=.ok v ae)(S1:Self ae s a m2)(hd:ae[d]?=some (.aD es))(hl:es.length<=aO)(e2:av P sc (n+1) 28 [.ref s,q.ag,.ref ae.length] (ae++[.aD (bp es x (.str y))])=.aF c ao):av P sc (n+2) 28 [.ref s,(Tm.a9 x p q).ag,.ref d] σ=.aF c ao:=
 iE B (λ_ _ _=>rfl) (jmp 4 (by rfl') (ei (by rfl') (((bk (cN (aE rfl) S ba e0)).trans ((bk (cN (aE rfl) S0 rfl e1)).trans (dK (fP (rZ (gf (aE rfl) (gf (aE rfl) (gf (aE rfl) (kY (ej (aE rfl) S1 (az rfl (az (aN (aP rfl (az rfl rfl)) (fw B.eU hd hl)) ba)) e2)))))))))))))
theorem JH{n s d a c:Nat}{k:Int}{m m1:Int}{x y:Str}{p q:Tm}{σ cj ae:H}(S:Self σ s a m)(e0:av P sc (n+1) 26 [.ref s] σ=.ok (.str y) cj)(S0:Self cj s a m1)(e1:av P sc (n+1) 28 [.ref s,p.ag,.ref d] cj=.aF c ae):av P sc (n+2) 28 [.ref s,(Tm.bu k x p q).ag,.ref d] σ=.aF c ae:=
 iE B (λ_ _ _=>rfl) (jmp 5 (by rfl') (ei (by rfl') (((bk (cN (aE rfl) S ba e0)).trans (dK (kZ (ej (aE rfl) S0 rfl e1)))))))
theorem JI{n s d a c:Nat}{k:Int}{m m1 m2:Int}{x y:Str}{p q:Tm}{v:V}{es:List (Str×V)}{σ cj ae ao:H}(S:Self σ s a m)(e0:av P sc (n+1) 26 [.ref s] σ=.ok (.str y) cj)(S0:Self cj s a m1)(e1:av P sc (n+1) 28 [.ref s,p.ag,.ref d] cj=.ok v ae)(S1:Self ae s a m2)(hd:ae[d]?=some (.aD es))(hl:es.length<=aO)(e2:av P sc (n+1) 28 [.ref s,q.ag,.ref ae.length] (ae++[.aD (bp es x (.str y))])=.aF c ao):av P sc (n+2) 28 [.ref s,(Tm.bu k x p q).ag,.ref d] σ=.aF c ao:=
 iE B (λ_ _ _=>rfl) (jmp 5 (by rfl') (ei (by rfl') (((bk (cN (aE rfl) S ba e0)).trans ((bk (cN (aE rfl) S0 rfl e1)).trans (dK (fP (rZ (gf (aE rfl) (gf rfl (gf (aE rfl) (gf (aE rfl) (kY (ej (aE rfl) S1 (az rfl (az (aN (aP rfl (az rfl rfl)) (fw B.eU hd hl)) ba)) e2))))))))))))))
end
section
variable{P:Prog}{sc:List Int}(B:nD P)
include B
theorem K7{n s d a c:Nat}{m m1:Int}{x y z:Tm}{i:Int}{σ ae ao:H}(S:Self σ s a m)(e1:av P sc n 27 [.ref s,x.ag,.ref d] σ=.ok (.int i) ae)(S1:Self ae s a m1)(e2:av P sc n 27 [.ref s,(if i=0 then z else y).ag,.ref d] ae=.aF c ao):
  av P sc (n+1) 27 [.ref s,(Tm.when x y z).ag,.ref d] σ=.aF c ao:=by
 have ht:bP (cx P sc n) (.cmp .NotEq (.cB 27 (.aa 0) {.au (.aa 1) (.int 1),.aa 2}) (.int 0)) [some (.ref s),some (Tm.when x y z).ag,some (.ref d),some (.str "when"),none,none,none,none,none,none,none] σ=.ok (!(i==0)) ae:=
  dY (cN (aE rfl) S (by rfl) e1) rfl (by rw[mq];rfl)
 refine gY B (w:="when") (L':=[some (.ref s),some (Tm.when x y z).ag,some (.ref d),some (.str "when"),none,none,none,none,none,none,none]) (λ_ _ _=>rfl) (jmp 3 (by rfl') (ei (ae:=σ) (by rfl') ?_))
 by_cases h:i=0
 ·rw[if_pos h] at e2;rw[h] at ht;exact(bX ht).trans (dK (fP (ej (aE rfl) S1 rfl e2)))
 ·rw[if_neg h] at e2;rw[beq_eq_false_iff_ne.mpr h] at ht;exact ei ht (dK (fP (ej (aE rfl) S1 rfl e2)))
theorem M1{n:Nat}{t:Tm}{σ:H}(h:2000<t.size∨30<t.depth)(hn:t.depth<=n):∃τ,av P sc (n+2) 24 [t.ag] σ=.aF 7 (σ++τ):=by
 refine b6 (wK (sc:=sc) B.f0 B.f1 n t σ hn) λbZ e1=>?_;refine b6 (wo (sc:=sc) B.f0 B.f2 n t (σ++bZ) hn) λdp e2=>?_
 by_cases h1:2000<t.size
 ·refine⟨bZ,?_⟩;rw[cp B.vQ rfl];exact(congrArg bW (ei (jj (any_cons (t:=true) (dY (aN (by rfl) e1) (xo B) (yU (Int.ofNat_lt.mpr h1) _)) (λq=>by exact tf q) (λ_=>⟨rfl,rfl⟩))) (dK rfl))).trans rfl
 ·refine⟨bZ++dp,?_⟩;rw[cp B.vQ rfl,←List.append_assoc];exact(congrArg bW (ei (jj (any_cons (dY (aN rfl e1) (xo B) (FV (λq=>h1 (Int.ofNat_lt.mp q)) _)) (λ_=>any_cons (dY (aN rfl e2) (Dw B) (yU (Int.ofNat_lt.mpr (h.resolve_left h1)) _)) (λq=>by exact tf q) (λ_=>⟨rfl,rfl⟩)) (λq=>by exact ff q))) (dK rfl))).trans rfl
end
theorem qU{s:Src}{f:V->M (Option V)}{n k c:Nat}{σ ae ao:H}{v:V}(h1:dN s k σ=.ok (some v) ae)(h2:f v ae=.aF c ao):dk s f (n+1) k σ=.aF c ao:=(aU h1).trans (iJ h2)
theorem tj{s:Src}{f:V->M (Option V)}{n k c:Nat}{σ ae ao b9:H}{v:V}{y:Option V}(h1:dN s k σ=.ok (some v) ae)(h2:f v ae=.ok y ao)(h3:dk s f n (k+1) ao=.aF c b9):dk s f (n+1) k σ=.aF c b9:=(aU h1).trans ((aU h2).trans (iJ h3))
theorem OR{C:Ctx}{elt a:E}{v k c:Nat}{br:List Nat}{L:aQ}{σ ae ao:H}{x:V}{sr:Src}(h1:ak C a L σ=.ok x ae)(hs:srcOf x ae=.ok sr ae)(hk:eX sr ae=.ok k ae)(hle:k<=aO)(h2:dk sr (λit=>M.bind (ak C elt (b7 (cQ L br) v it)) λy=>M.pure (some y)) (k+1) 0 ae=.aF c ao):ak C (.comp elt v br a) L σ=.aF c ao:=by
 rw[kM,aU h1,aU hs,aU hk,if_pos hle];exact iJ h2
theorem M3{C:Ctx}{i c:Nat}{e:E}{b:SL}{L L1:aQ}{σ ae ao:H}{n:Int}(h1:ak C e L σ=.ok (.int n) ae)(hn:0<=n/\n<=1000000)(h2:dP (λk=>M.pure ((dM n)[k]?.map λv=>[(i,v)])) (aW C b) (n.toNat+1) 0 L ae=.aF c L1 ao):cF C (.eP i e b) L σ=.aF c L1 ao:=by
 simp only[j7,Qh.N.bind,Qh.N.lift,h1,tn,M.pure];rw[if_pos hn];exact h2
theorem IY{at_:Nat->M (Option (List (Nat×V)))}{b:Qh.N Fl}{n k c:Nat}{L L1 L2:aQ}{σ ae ao:H}{ps:List (Nat×V)}(h1:at_ k σ=.ok (some ps) ae)(h2:Qh.N.fK (ps.map (·.1)) (ps.map (·.2)) L ae=.ok () L1 ae)(h3:b L1 ae=.aF c L2 ao):
  dP at_ b (n+1) k L σ=.aF c L2 ao:=by
 simp only[dP,Qh.N.bind,Qh.N.lift,h1,h2,h3]
section
variable{P:Prog}{sc:List Int}(B:nD P)
include B
theorem IZ{n s d a c:Nat}{k:Int}{x:Str}{p q:Tm}(j0:Nat)(hj0:j0<k.toNat)(I:Nat->V->H->Prop)(Q:H->Prop)(hI:∀j v af,j<j0->I j v af->(∃m',Self af s a m')/\∃es,af[d]?=some (.aD es)/\es.length<=aO/\∃v' cO,av P sc (n+1) 27 [.ref s,q.ag,.ref af.length] (af++[.aD (bp es x v)])=.ok v' cO/\I (j+1) v' cO)(hX:∀v af,I j0 v af->(∃m',Self af s a m')/\∃es,af[d]?=some (.aD es)/\es.length<=aO/\∃cO,av P sc (n+1) 27 [.ref s,q.ag,.ref af.length] (af++[.aD (bp es x v)])=.aF c cO/\Q cO):
  ∀(r j N:Nat)(v:V)(y:Option V)(σ:H),j+r=j0->N+j=k.toNat->I j v σ->∃L' af,dP (λk'=>M.pure ((dM k)[k']?.map λv=>[(6,v)])) (aW (cx P sc (n+1)) EA) (N+1) j [some (.ref s),some (Tm.bu k x p q).ag,some (.ref d),some (.str "turns"),none,some v,y,none,none,none,none] σ=.aF c L' af/\Q af:=by
 intro r
 induction r with
|zero=>
  intro j N v y σ hj hN h;have:j=j0:=by assumption
  subst this;obtain⟨⟨m',S⟩,es,hd,hl,cO,e,hQ⟩:=hX v σ h;exact⟨[some (.ref s),some (Tm.bu k x p q).ag,some (.ref d),some (.str "turns"),none,some v,some (.int j),none,none,none,none],cO,IY (by rw[tM ‹_›];rfl) rfl (dK (kZ (ej (aE rfl) S (az rfl (az (aN (aP rfl (az rfl rfl)) (fw B.eU hd hl)) ba)) e))),hQ⟩
|succ r ih=>
  intro j N v y σ hj hN h;refine bB λXx aI=>?_;obtain⟨⟨m',S⟩,es,hd,hl,v',cO,e,h'⟩:=hI j v σ (lN 0x34184c04900904920634106138c [_,_,_] rfl hj) h;obtain⟨N,rfl⟩:∃N',N=N'+1:=⟨N-1,by exact cK (lN 0x184284c308049201241248 [_] rfl) (lN 0x30184284c20124804900904900900904904920538184d18d0418503c63813cc [_,_,_,_,_] rfl hj0 hj hN)⟩;refine bo (ih (j+1) N v' (some (.int j)) cO (cK (lN 0x38134184c04900904920638106134c [_,_,_] rfl hj) (lN 0x4e06134c04904920630106138d [_,_,_] rfl hj)) (cK (lN 0x38106134c04900904920638134184c [_,_,_] rfl hN) (lN 0x4184e34c04904920630138184d [_,_,_] rfl hN)) h') λL' ao e2 hQ=>?_;refine aI ?_;exact⟨L',ao,(q5 (ps:=[(6,.int j)]) (ae:=σ) (by rw[tM (by exact lN 0x34184c04900904920634130184e [_,_,_] rfl hN)];rfl) rfl ((bk (cN (aE rfl) S (az rfl (az (aN (aP rfl (az (x:=.str x) rfl (by rfl))) (fw B.eU hd hl)) ba)) e)).trans fy)).trans e2,hQ⟩
theorem JJ{n s d a c:Nat}{m:Int}{k:Int}{x:Str}{p q:Tm}{u:V}{σ ae:H}(S:Self σ s a m)(hk:0<=k/\k<=1000000)(e1:av P sc (n+1) 27 [.ref s,p.ag,.ref d] σ=.ok u ae)(j0:Nat)(hj0:j0<k.toNat)(I:Nat->V->H->Prop)(Q:H->Prop)(h0:I 0 u ae)(hI:∀j v af,j<j0->I j v af->(∃m',Self af s a m')/\∃es,af[d]?=some (.aD es)/\es.length<=aO/\∃v' cO,av P sc (n+1) 27 [.ref s,q.ag,.ref af.length] (af++[.aD (bp es x v)])=.ok v' cO/\I (j+1) v' cO)(hX:∀v af,I j0 v af->(∃m',Self af s a m')/\∃es,af[d]?=some (.aD es)/\es.length<=aO/\∃cO,av P sc (n+1) 27 [.ref s,q.ag,.ref af.length] (af++[.aD (bp es x v)])=.aF c cO/\Q cO):
  ∃ao,av P sc (n+2) 27 [.ref s,(Tm.bu k x p q).ag,.ref d] σ=.aF c ao/\Q ao:=by
 refine bo (IZ (sc:=sc) B (n:=n) (k:=k) (x:=x) (p:=p) (q:=q) j0 hj0 I Q hI hX j0 0 k.toNat u none ae (by exact cK (lN 825917182536 [_] rfl) (lN 82144399944 [_] rfl)) (by rfl) h0) λL' ao e2 hQ=>?_;exact⟨ao,gY B (λ_ _ _=>rfl) (jmp 5 (by rfl') (ei (by rfl') ((bk (cN (aE rfl) S rfl e1)).trans (dK (M3 rfl hk e2))))),hQ⟩
theorem M4{n s d a c:Nat}{m m0 m1:Int}{g x y z kd:Str}{p q:Tm}{es:List (Str×V)}{σ cj ae ao:H}(S:Self σ s a m)(e0:av P sc (n+1) 26 [.ref s] σ=.ok (.str y) cj)(S0:Self cj s a m0)(jW:av P sc (n+1) 26 [.ref s] cj=.ok (.str z) ae)(S1:Self ae s a m1)(hd:ae[d]?=some (.aD es))(hl:es.length<=aO)(e1:av P sc (n+1) 28 [.ref s,p.ag,.ref ae.length] (ae++[.aD (bp es x (.str z))])=.aF c ao):
  av P sc (n+2) 28 [.ref s,(Tm.def_ g x kd p q).ag,.ref d] σ=.aF c ao:=
 iE B (λ_ _ _=>rfl) (jmp 6 (by rfl') (ei (by rfl') ((bk (cN (aE rfl) S ba e0)).trans ((bk (cN (aE rfl) S0 ba jW)).trans (dK (kZ (ej (aE rfl) S1 (az rfl (az (aN (aP rfl (az rfl rfl)) (fw B.eU hd hl)) ba)) e1)))))))
theorem M5{n s d a c:Nat}{m m0 m1 m2:Int}{g x y z kd:Str}{p q R:Tm}{es es':List (Str×V)}{σ cj ae ao b9:H}(S:Self σ s a m)(e0:av P sc (n+1) 26 [.ref s] σ=.ok (.str y) cj)(S0:Self cj s a m0)(jW:av P sc (n+1) 26 [.ref s] cj=.ok (.str z) ae)(S1:Self ae s a m1)(hd:ae[d]?=some (.aD es))(hl:es.length<=aO)(e1:av P sc (n+1) 28 [.ref s,p.ag,.ref ae.length] (ae++[.aD (bp es x (.str z))])=.ok R.ag ao)(S2:Self ao s a m2)(hd':ao[d]?=some (.aD es'))(hl':es'.length<=aO)(e2:av P sc (n+1) 28 [.ref s,q.ag,.ref ao.length] (ao++[.aD (bp es' g (.str y))])=.aF c b9):
  av P sc (n+2) 28 [.ref s,(Tm.def_ g x kd p q).ag,.ref d] σ=.aF c b9:=
 iE B (λ_ _ _=>rfl) (jmp 6 (by rfl') (ei (by rfl') ((bk (cN (aE rfl) S ba e0)).trans ((bk (cN (aE rfl) S0 ba jW)).trans ((bk (cN (aE rfl) S1 (az rfl (az (aN (aP rfl (az rfl rfl)) (fw B.eU hd hl)) ba)) e1)).trans (dK (fP (rZ (gf (aE rfl) (gf (aE rfl) (gf (aE rfl) (gf rfl (gf (aE rfl) (kY (ej (aE rfl) S2 (az rfl (az (aN (aP rfl (az rfl rfl)) (fw B.eU hd' hl')) ba)) e2)))))))))))))))
noncomputable abbrev sP:E:=.cB 28 (.aa 0) {.aa 7,.aa 2}
noncomputable abbrev vR:SL:=.cons (.ret (.aj .Add (.ax {.aa 3}) (.tuple (.comp sP 7 [2,0] (.slc (.aa 1) (.int 1) .none))))) .nil
omit B in
theorem oP{n s d a:Nat}{m:Int}{T it v w:V}{σ ae:H}(S:Self σ s a m)(e:av P sc n 28 [.ref s,it,.ref d] σ=.ok v ae):
  M.bind (ak (cx P sc n) sP (b7 (cQ [some (.ref s),some T,some (.ref d),some w,none,none,none,none] [2,0]) 7 it)) (λy=>M.pure (some y)) σ=.ok (some v) ae:=
 (aU (cN (aE rfl) S rfl e)).trans rfl
omit B in
theorem sy{n s d a c:Nat}{m:Int}{T it w:V}{σ ae:H}(S:Self σ s a m)(e:av P sc n 28 [.ref s,it,.ref d] σ=.aF c ae):
  M.bind (ak (cx P sc n) sP (b7 (cQ [some (.ref s),some T,some (.ref d),some w,none,none,none,none] [2,0]) 7 it)) (λy=>M.pure (some y)) σ=.aF c ae:=
 iJ (ej (aE rfl) S rfl e)
omit B in
theorem vS{C:Ctx}{s T d:V}{σ:H}:aW C vk [some s,some T,some d,some (.str "when"),none,none,none,none] σ=aW C vR [some s,some T,some d,some (.str "when"),none,none,none,none] σ:=
 jmp 6 (by rfl') (bX (by rfl'))
omit B in
theorem GW{C:Ctx}{u:U2}{s T d:V}{σ:H}:aW C vk [some s,some T,some d,some (.str u.str),none,none,none,none] σ=aW C vR [some s,some T,some d,some (.str u.str),none,none,none,none] σ:=by
 cases u<;>exact jmp 6 (by rfl') (bX (by rfl'))
omit B in
theorem OS{C:Ctx}{s d:Nat}{w:Str}{vs us:List V}{σ ae:H}(hl:vs.length+1<=aO)(hu:us.length+1<=aO)(h:dk (.fix vs) (λit=>M.bind (ak C sP (b7 (cQ [some (.ref s),some (.ax (.str w::vs)),some (.ref d),some (.str w),none,none,none,none] [2,0]) 7 it)) λy=>M.pure (some y)) (vs.length+1) 0 σ=.ok us ae):
  aW C vR [some (.ref s),some (.ax (.str w::vs)),some (.ref d),some (.str w),none,none,none,none] σ=.ok (.ret (.ax (.str w::us))) [some (.ref s),some (.ax (.str w::vs)),some (.ref d),some (.str w),none,none,none,none] (ae++[.ah us]):=by
 have ht:jF (.ref ae.length) (ae++[.ah us])=.ok (.ax us) (ae++[.ah us]):=by
  show M.bind (bI _) _ _=_;rw[aU (dX bL),if_pos (bE ‹_›)];rfl
 have hs:ak C (.slc (.aa 1) (.int 1) .none) [some (.ref s),some (.ax (.str w::vs)),some (.ref d),some (.str w),none,none,none,none] σ=.ok (.ax vs) σ:=by
  show(if(V.str w::vs).length<=aO then _ else _:M V) σ=_;rw[if_pos (by rw[List.length_cons];exact hl)];rfl
 have ha:binop .Add (.ax [.str w]) (.ax us) (ae++[.ah us])=.ok (.ax (.str w::us)) (ae++[.ah us]):=by
  show(if [V.str w].length+us.length<=aO then _ else _:M V) _=_;rw[if_pos (by rw[List.length_singleton];exact lN 0x34132104904920534184c [_,_] rfl hu)];rfl
 exact bw (bT (bU rfl (nb rfl)) (uz (kP hs rfl rfl (bE ‹_›) h) ht) ha)
omit B in
theorem rC{C:Ctx}{s d c:Nat}{w:Str}{vs:List V}{σ ae:H}(hl:vs.length+1<=aO)(h:dk (.fix vs) (λit=>M.bind (ak C sP (b7 (cQ [some (.ref s),some (.ax (.str w::vs)),some (.ref d),some (.str w),none,none,none,none] [2,0]) 7 it)) λy=>M.pure (some y)) (vs.length+1) 0 σ=.aF c ae):
  aW C vR [some (.ref s),some (.ax (.str w::vs)),some (.ref d),some (.str w),none,none,none,none] σ=.aF c [some (.ref s),some (.ax (.str w::vs)),some (.ref d),some (.str w),none,none,none,none] ae:=by
 have hs:ak C (.slc (.aa 1) (.int 1) .none) [some (.ref s),some (.ax (.str w::vs)),some (.ref d),some (.str w),none,none,none,none] σ=.ok (.ax vs) σ:=by
  show(if(V.str w::vs).length<=aO then _ else _:M V) σ=_;rw[if_pos (by rw[List.length_cons];exact hl)];rfl
 exact dK (fP (OL (bU rfl (nb rfl)) (MN (OR hs rfl rfl (bE ‹_›) h))))
theorem M6{n s d a c:Nat}{m0 m1:Int}{u:U2}{x y X Y:Tm}{σ ae ao gU:H}(S0:Self σ s a m0)(e0:av P sc n 28 [.ref s,x.ag,.ref d] σ=.aF c gU):av P sc (n+1) 28 [.ref s,(Tm.aj u x y).ag,.ref d] σ=.aF c gU:=
 iE B (λ_ _ _=>rfl) (GW.trans (rC (nb rfl) (qU rfl (sy S0 e0))))
theorem M7{n s d a c:Nat}{m0 m1:Int}{u:U2}{x y X Y:Tm}{σ ae ao gU:H}(S0:Self σ s a m0)(e0:av P sc n 28 [.ref s,x.ag,.ref d] σ=.ok X.ag ae)(S1:Self ae s a m1)(e1:av P sc n 28 [.ref s,y.ag,.ref d] ae=.aF c gU):av P sc (n+1) 28 [.ref s,(Tm.aj u x y).ag,.ref d] σ=.aF c gU:=
 iE B (λ_ _ _=>rfl) (GW.trans (rC (nb rfl) (tj rfl (oP S0 e0) (qU rfl (sy S1 e1)))))
theorem OT{n s d a:Nat}{m0 m1 m2:Int}{x y z X Y Z:Tm}{σ ae ao b9 gU:H}(S0:Self σ s a m0)(e0:av P sc n 28 [.ref s,x.ag,.ref d] σ=.ok X.ag ae)(S1:Self ae s a m1)(e1:av P sc n 28 [.ref s,y.ag,.ref d] ae=.ok Y.ag ao)(S2:Self ao s a m2)(e2:av P sc n 28 [.ref s,z.ag,.ref d] ao=.ok Z.ag b9):av P sc (n+1) 28 [.ref s,(Tm.when x y z).ag,.ref d] σ=.ok (Tm.when X Y Z).ag (b9++[.ah [X.ag,Y.ag,Z.ag]]):=
 kS B (w:="when") (λ_ _ _=>rfl) (vS.trans (OS (vs:=[x.ag,y.ag,z.ag]) (us:=[X.ag,Y.ag,Z.ag]) (nb rfl) (nb rfl) (gW (n:=3) (y:=some X.ag) (r:=[Y.ag,Z.ag]) (ae:=σ) rfl (oP S0 e0) (gW (n:=2) (y:=some Y.ag) (r:=[Z.ag]) (ae:=ae) rfl (oP S1 e1) (gW (n:=1) (y:=some Z.ag) (r:=[]) rfl (oP S2 e2) (kK rfl))))))
theorem K8{n s d a c:Nat}{m0 m1 m2:Int}{x y z X Y Z:Tm}{σ ae ao b9 gU:H}(S0:Self σ s a m0)(e0:av P sc n 28 [.ref s,x.ag,.ref d] σ=.aF c gU):av P sc (n+1) 28 [.ref s,(Tm.when x y z).ag,.ref d] σ=.aF c gU:=
 iE B (λ_ _ _=>rfl) (vS.trans (rC (nb rfl) (qU rfl (sy S0 e0))))
theorem K9{n s d a c:Nat}{m0 m1 m2:Int}{x y z X Y Z:Tm}{σ ae ao b9 gU:H}(S0:Self σ s a m0)(e0:av P sc n 28 [.ref s,x.ag,.ref d] σ=.ok X.ag ae)(S1:Self ae s a m1)(e1:av P sc n 28 [.ref s,y.ag,.ref d] ae=.aF c gU):av P sc (n+1) 28 [.ref s,(Tm.when x y z).ag,.ref d] σ=.aF c gU:=
 iE B (λ_ _ _=>rfl) (vS.trans (rC (nb rfl) (tj rfl (oP S0 e0) (qU rfl (sy S1 e1)))))
theorem Lb{n s d a c:Nat}{m0 m1 m2:Int}{x y z X Y Z:Tm}{σ ae ao b9 gU:H}(S0:Self σ s a m0)(e0:av P sc n 28 [.ref s,x.ag,.ref d] σ=.ok X.ag ae)(S1:Self ae s a m1)(e1:av P sc n 28 [.ref s,y.ag,.ref d] ae=.ok Y.ag ao)(S2:Self ao s a m2)(e2:av P sc n 28 [.ref s,z.ag,.ref d] ao=.aF c gU):av P sc (n+1) 28 [.ref s,(Tm.when x y z).ag,.ref d] σ=.aF c gU:=
 iE B (λ_ _ _=>rfl) (vS.trans (rC (nb rfl) (tj rfl (oP S0 e0) (tj rfl (oP S1 e1) (qU rfl (sy S2 e2))))))
end
def gu:Lv->Nat
|.z=>27|.o=>28
theorem Self.set(S:Self σ s a m)(k:Int):Self (σ.set a (.dq k)) s a k:=by
 have hne:s≠a:=λq=>by obtain⟨c,h⟩:=S.i;(replace h:=(S.n)▸(q▸h));cases h
 exact let ⟨c,h⟩:=S.i;⟨⟨c,yp h (λq=>hne q.symm)⟩,gy S.n⟩
theorem wq(g:Nat->Bool)(h0:g 0=false):∀n,g n=true->∃j,j<n/\(∀i,i<=j->g i=false)/\g (j+1)=true
|0=>λh=>by(replace h:=h0▸h);exact ff h
|n+1=>λh=>by
  cases hn:g n with
  |true=>obtain⟨j,h1,h2,h3⟩:=wq g h0 n hn;exact⟨j,by(exact jR ‹_›),h2,h3⟩
  |false=>
   by_cases hx:∃j,j<n/\(∀i,i<=j->g i=false)/\g (j+1)=true
   ·obtain⟨j,h1,h2,h3⟩:=hx;exact⟨j,by(exact jR ‹_›),h2,h3⟩
   ·refine⟨n,by(exact aR _),?_,h⟩;intro i hi;cases hg:g i with
    |false=>rfl
    |true=>
     have hin:i≠n:=λq=>by(replace hg:=hn▸(q▸hg));exact ff hg
     refine ca (wq g h0 i hg) λj h1 h2 h3=>?_;exact absurd ⟨j,by(exact bR ‹_› ‹_›),h2,h3⟩ hx
section
variable{P:Prog}{sc:List Int}
def eJ(P:Prog)(sc:List Int)(sf a:Nat)(l:Lv)(n:Nat)(t:Tm)(d:Nat)(σ:H)(r:Bv×Sg):Prop:=
 (r.2.fl=false/\∃af,av P sc n (gu l) [.ref sf,t.ag,.ref d] σ=.ok r.1.v af/\Kp a σ af/\Self af sf a r.2.k)∨(r.2.fl=true/\∃af,av P sc n (gu l) [.ref sf,t.ag,.ref d] σ=.aF 7 af/\Kp a σ af)
theorem eJ.elim{sf a:Nat}{l:Lv}{n:Nat}{t:Tm}{d:Nat}{σ:H}{r:Bv×Sg}{X:Prop}(h:eJ P sc sf a l n t d σ r)(ok:r.2.fl=false->∀af,av P sc n (gu l) [.ref sf,t.ag,.ref d] σ=.ok r.1.v af->Kp a σ af->Self af sf a r.2.k->X)(ex:r.2.fl=true->∀af,av P sc n (gu l) [.ref sf,t.ag,.ref d] σ=.aF 7 af->Kp a σ af->X):X:=Or.elim h (λ⟨f,af,e,k,S⟩=>ok f af e k S) λ⟨f,af,e,k⟩=>ex f af e k
def o0(P:Prog)(sc:List Int)(sf a:Nat)(l:Lv)(N:Nat)(t:Tm)(d:Nat)(σ:H)(r:Bv×Sg):Prop:=(∃m,Self σ sf a m)/\(r.2.c<=5000->∀n,N<=n->eJ P sc sf a l n t d σ r)
def zP(sf a:Nat)(σ:H)(s:Sg):Prop:=s.fl=false/\s.c<=5000/\Self σ sf a s.k
theorem uD(h:zP sf a σ s)(e:∀k,av P sc (k+1) (gu l) [.ref sf,t.ag,.ref d] σ=.ok b.v σ):o0 P sc sf a l 1 t d σ (b,s):=
 ⟨⟨_,h.2.2⟩,λ_ n hn=>by obtain⟨k,rfl⟩:=eD hn;exact .inl ⟨h.1,σ,e k,.refl _,h.2.2⟩⟩
theorem CP:∀(n:Nat),(∀j,j<n->∃w,(cV f j r0).2.le w (cV f (j+1) r0).2)->∀j,j<=n->∃w,(cV f j r0).2.le w (cV f n r0).2
|0,_,j,hj=>⟨0,Nat.le_zero.mp hj▸.refl _⟩
|n+1,h,j,hj=>by
  by_cases hn:j=n+1
  ·(clear hj;subst hn);exact⟨0,.refl _⟩
  ·refine b6 (CP n (λi hi=>h i (jR ‹_›)) j (Nat.le_of_lt_succ (Nat.lt_of_le_of_ne hj hn))) λw h1=>?_;obtain⟨w',h2⟩:=h n (aR _);exact⟨w+w',h1.trans h2 (bq _)⟩
theorem T1{sf a:Nat}{l l':Lv}{N:Nat}{t t':Tm}{d:Nat}{σ:H}{r r':Bv×Sg}(h:o0 P sc sf a l N t d σ r)(hr:r'.2=r.2)(ok:∀n m ae,Self σ sf a m->av P sc n (gu l) [.ref sf,t.ag,.ref d] σ=.ok r.1.v ae->av P sc (n+1) (gu l') [.ref sf,t'.ag,.ref d] σ=.ok r'.1.v ae)(x:∀n m ae,Self σ sf a m->av P sc n (gu l) [.ref sf,t.ag,.ref d] σ=.aF 7 ae->av P sc (n+1) (gu l') [.ref sf,t'.ag,.ref d] σ=.aF 7 ae):o0 P sc sf a l' (N+1) t' d σ r':=⟨h.1,λhc n hn=>by
 refine b6 (h.1) λm S=>?_;obtain⟨k,rfl⟩:=eD (cJ ‹_›);unfold eJ;rw[hr] at hc ⊢;refine eJ.elim (h.2 hc k (ct ‹_›)) (λf1 ae e1 k1 S1=>?_) λf1 ae e1 k1=>?_
 ·exact .inl ⟨f1,ae,ok k m ae S e1,k1,S1⟩
 ·exact .inr ⟨f1,ae,x k m ae S e1,k1⟩⟩
theorem T2{sf a:Nat}{l l' l2:Lv}{N:Nat}{t t' b:Tm}{d:Nat}{σ cj:H}{u:Bv}{s1:Sg}{r r':Bv×Sg}{w:Int}(D:H->Nat)(E:H->H){m:Int}(S:Self σ sf a m)(k0:Kp a σ cj)(h1:o0 P sc sf a l N t d cj (u,s1))(h2:∀ae,Kp a σ ae->zP sf a ae s1->o0 P sc sf a l2 N b (D ae) (E ae) r)(hE:∀ae,Kp a ae (E ae))(hN:1<=N)(hle:s1.le w r.2)(hr:r'.2=r.2)(ok:∀n m1 ae ao,Kp a σ ae->av P sc (n+1) (gu l) [.ref sf,t.ag,.ref d] cj=.ok u.v ae->Self ae sf a m1->av P sc (n+1) (gu l2) [.ref sf,b.ag,.ref (D ae)] (E ae)=.ok r.1.v ao->av P sc (n+2) (gu l') [.ref sf,t'.ag,.ref d] σ=.ok r'.1.v ao)(x1:∀n ae,av P sc (n+1) (gu l) [.ref sf,t.ag,.ref d] cj=.aF 7 ae->av P sc (n+2) (gu l') [.ref sf,t'.ag,.ref d] σ=.aF 7 ae)(x2:∀n m1 ae ao,Kp a σ ae->av P sc (n+1) (gu l) [.ref sf,t.ag,.ref d] cj=.ok u.v ae->Self ae sf a m1->av P sc (n+1) (gu l2) [.ref sf,b.ag,.ref (D ae)] (E ae)=.aF 7 ao->av P sc (n+2) (gu l') [.ref sf,t'.ag,.ref d] σ=.aF 7 ao):o0 P sc sf a l' (N+2) t' d σ r':=⟨⟨m,S⟩,λhc n hn=>by
 refine b6 (jq (cJ ‹_›)) λk bh=>?_;subst bh;unfold eJ;rw[hr] at hc ⊢;refine eJ.elim (h1.2 (dQ hle.c hc) (k+1) (ct (bE ‹_›))) (λf1 ae e1 k1 S1=>?_) λf1 ae e1 k1=>?_
 ·have k1:=k0.trans k1;refine eJ.elim ((h2 ae k1 ⟨f1,dQ hle.c hc,S1⟩).2 hc (k+1) (ct (bE ‹_›))) (λf2 ao e2 k2 S2=>?_) λf2 ao e2 k2=>?_
  ·exact .inl ⟨f2,ao,ok k _ ae ao k1 e1 S1 e2,(k1.trans (hE ae)).trans k2,S2⟩
  ·exact .inr ⟨f2,ao,x2 k _ ae ao k1 e1 S1 e2,(k1.trans (hE ae)).trans k2⟩
 ·exact .inr ⟨hle.fl f1,ae,x1 k ae e1,k0.trans k1⟩⟩
theorem JK(B:nD P)(sf a:Nat):qm a (zP sf a) (λ_ v x b d=>v=.ax [.str x,b.ag,.ref d]) (o0 P sc sf a) where
 app h:=⟨h.1,h.2.1,h.2.2.add⟩
 ne h:=λq=>by have:=h.2.2.n;(replace this:=(Eq.symm (q))▸this);simp at this
 uX:=λ_ h=>h
 more h hN:=⟨h.1,λhc n hn=>h.2 hc n (bR hN hn)⟩
 yV h:=uD h λk=>Eu B _
 yW h:=uD h λk=>PE B _
 yq h hd hv:=uD h λk=>Dx B hd hv
 yr h hd hv:=uD h λk=>N5 B hd hv
 hole hN h:=T1 h rfl (λ_ _ _ S e=>N6 B S e) (λ_ _ _ S e=>MY B S e)
 lift hN h:=T1 h rfl (λ_ _ _ S e=>ON B S e) (λ_ _ _ S e=>MR B S e)
 xU h hc:=absurd h.2.1 (Int.not_le.mpr hc)
 bJ {σ d N t p s s1} h hc h1 hle hp:=⟨h1.1,λhc n hn=>by
  refine b6 (h1.1) λm S=>?_;refine b6 (sx (n:=n) (by exact lN 0xc8c124124124814e06334530184e [_,_,_] rfl hp hn)) λk bh=>?_;subst bh;have hc1:s1.c<=5000:=by
   unfold jo at hc
   split at hc
   ·have hc:s1.c+p.size<=5000:=hc;exact lI 0x81ce1e13012412412481481ce1e104d305360 [_,_] rfl hc (jr _)
   ·have hc:s1.c+p.size<=5000:=hc;exact lI 0x81ce1e13012412412481481ce1e104d305360 [_,_] rfl hc (jr _)
  refine eJ.elim (h1.2 hc1 (k+2) (ct ‹_›)) (λf1 ae e1 k1 S1=>?_) λf1 ae e1 k1=>?_
  ·unfold jo
   by_cases hb:2000<p.size∨30<p.depth
   ·refine(if_pos hb).symm▸?_;refine b6 (M1 (sc:=sc) B (n:=k) (σ:=ae) hb (by exact lN 0xd30124124124814e06330506334184e [_,_,_] rfl hp hn)) λτ e2=>?_;exact .inr ⟨rfl,_,JG B S e1 e2,k1.trans .add⟩
   ·refine(if_neg hb).symm▸?_;refine b6 (Mw (sc:=sc) B (n:=k) S e1 (Nat.not_lt.mp λq=>hb (.inl q)) (Nat.not_lt.mp λq=>hb (.inr q)) (by exact lN 0xd30124124124814e06330506334184e [_,_,_] rfl hp hn)) λτ e2=>?_;exact .inl ⟨f1,_,e2,k1.trans .add,S1.add⟩
  ·unfold jo
   split
   ·exact .inr ⟨rfl,ae,Bu B S e1,k1⟩
   ·exact .inr ⟨f1,ae,Bu B S e1,k1⟩⟩
 run {σ d N t p s1} h1 hP hd hf hN:=⟨h1.1,λhc n hn=>by
  refine b6 (h1.1) λm S=>?_;obtain⟨k,rfl⟩:=jq (n:=n) (cJ ‹_›);have hp:0<=p.ew:=by have:=B4 hP (λ_=>0) λ_=>bq _;unfold Tm.ew;(exact Int.le_of_lt ‹_›)
  unfold nE at hc ⊢
  by_cases hb:5000<s1.c+p.ew
  ·replace hc:=(if_pos hb)▸hc;exact absurd (show s1.c+p.ew<=5000 from hc) (Int.not_le.mpr hb)
  ·refine(if_neg hb).symm▸?_;refine eJ.elim (h1.2 (show s1.c<=5000 by exact lI 0x81ce1e130124124124814d80520738784134c [_,_] rfl hp (Int.not_lt.mp hb)) (k+1) (ct (bE ‹_›))) (λf1 ae e1 k1 S1=>?_) λf1 ae e1 k1=>?_
   ·have hv:=(DC (JD (sc:=sc) B (s:=sf) (a:=a) (m:=s1.k)) hP (λ_=>0) (ae++[O.aD []]) ae.length [] (λ_=>.no) S1.add bL (by show 0+p.depth<=aO;have:aO=1000000:=rfl;exact lN 0xd04c80124124024124817e306007247d078cd [_,_] rfl hd this) (λx m hx=>by exact bS hx)).2;obtain⟨fZ,e3⟩:=hv (k+1) (by exact lN 0x61344322049049049089205c078cc14ea879c506234188e [_,_,_] rfl hf hN hn);exact .inl ⟨f1,_,PC (m1:=0) B S e1 e3,(k1.trans .add).trans .add,S1.add.add⟩
   ·exact .inr ⟨f1,ae,OP B S e1,k1⟩⟩
 yX {σ d N g t x body d' es es' cv u s1 r w} bC hd hg hcl hd1 hd' hl hN h1 h2 hle:=by
  subst hcl;obtain⟨m,S⟩:=h1.1;exact T2 (l2:=.z) (b:=body) (r:=r) (λae=>ae.length) (λae=>ae++[O.aD (bp es' x (Bv.v u))]) S (.refl _) h1 h2 (λ_=>.add) hN hle rfl (λ_ _ _ _ k1 e1 S1 e2=>Ez B S e1 S1 (k1.get bC hd) hg (k1.get hd1 hd') hl e2) (λ_ _ e1=>MW B S e1) (λ_ _ _ _ k1 e1 S1 e2=>MX B S e1 S1 (k1.get bC hd) hg (k1.get hd1 hd') hl e2)
 yY hd hg hN h:=T1 h rfl (λ_ _ _ S e=>PF B S hd hg e) (λ_ _ _ S e=>OQ B S hd hg e)
 yZ {σ d N o x y i j s1 s2 w} hN hi h1 h2 hle:=by
  obtain⟨m,S⟩:=h1.1;exact T2 (l2:=.z) (b:=y) (r:=(.num j,s2)) (λ_=>d) (λae=>ae) S (.refl _) h1 h2 (λ_=>.refl _) hN hle rfl (λ_ _ _ _ _ e1 S1 e2=>Ew B S e1 S1 e2 hi) (λ_ _ e1=>MS B S e1) (λ_ _ _ _ _ e1 S1 e2=>MT B S e1 S1 e2)
 y0 hN h1 h2 hle:=⟨h1.1,λhc n hn=>by
  refine b6 (h1.1) λm S=>?_;obtain⟨k,rfl⟩:=eD (n:=n) (cJ ‹_›);refine eJ.elim (h1.2 (dQ hle.c hc) k (ct ‹_›)) (λf1 ae e1 k1 S1=>?_) λf1 ae e1 k1=>?_
  ·refine eJ.elim ((h2 ae k1 ⟨f1,dQ hle.c hc,S1⟩).2 hc k (ct ‹_›)) (λf2 ao e2 k2 S2=>?_) λf2 ao e2 k2=>?_
   ·exact .inl ⟨f2,_,PI B S e1 S1 e2,(k1.trans k2).trans .add,S2.add⟩
   ·exact .inr ⟨f2,ao,M7 (Y:=.num 0) (ao:=[]) B S e1 S1 e2,k1.trans k2⟩
  ·exact .inr ⟨hle.fl f1,ae,M6 (X:=.num 0) (Y:=.num 0) (ae:=[]) (ao:=[]) (m1:=0) B S e1,k1⟩⟩
 yt {σ d N x y z i s1 r w} hN h1 h2 hle:=by
  obtain⟨m,S⟩:=h1.1;exact T2 (l2:=.z) (b:=if i=0 then z else y) (r:=r) (λ_=>d) (λae=>ae) S (.refl _) h1 h2 (λ_=>.refl _) hN hle rfl (λ_ _ _ _ _ e1 S1 e2=>Dy B S e1 S1 e2) (λ_ _ e1=>K6 B S e1) (λ_ _ _ _ _ e1 S1 e2=>K7 B S e1 S1 e2)
 yu hN h1 h2 hle h3 hle':=⟨h1.1,λhc n hn=>by
  refine b6 (h1.1) λm S=>?_;obtain⟨k,rfl⟩:=eD (n:=n) (cJ ‹_›);have hc2:=dQ hle'.c hc;have hc1:=dQ hle.c hc2;refine eJ.elim (h1.2 hc1 k (ct ‹_›)) (λf1 ae e1 k1 S1=>?_) λf1 ae e1 k1=>?_
  ·refine eJ.elim ((h2 ae k1 ⟨f1,hc1,S1⟩).2 hc2 k (ct ‹_›)) (λf2 ao e2 k2 S2=>?_) λf2 ao e2 k2=>?_
   ·refine eJ.elim ((h3 ao (k1.trans k2) ⟨f2,hc2,S2⟩).2 hc k (ct ‹_›)) (λf3 b9 e3 k3 S3=>?_) λf3 b9 e3 k3=>?_
    ·exact .inl ⟨f3,_,OT (gU:=[]) B S e1 S1 e2 S2 e3,((k1.trans k2).trans k3).trans .add,S3.add⟩
    ·exact .inr ⟨f3,b9,Lb (Z:=.num 0) (b9:=[]) B S e1 S1 e2 S2 e3,(k1.trans k2).trans k3⟩
   ·exact .inr ⟨hle'.fl f2,ao,K9 (Y:=.num 0) (Z:=.num 0) (ao:=[]) (b9:=[]) (m2:=0) B S e1 S1 e2,k1.trans k2⟩
  ·exact .inr ⟨hle'.fl (hle.fl f1),ae,K8 (X:=.num 0) (Y:=.num 0) (Z:=.num 0) (ae:=[]) (ao:=[]) (b9:=[]) (m1:=0) (m2:=0) B S e1,k1⟩⟩
 y4 {σ d N x t b u s1 r es w} bC hd hl hN h1 h2 hle:=by
  obtain⟨m,S⟩:=h1.1;exact T2 (l2:=.z) (b:=b) (r:=r) (λae=>ae.length) (λae=>ae++[O.aD (bp es x (Bv.v u))]) S (.refl _) h1 h2 (λ_=>.add) hN hle rfl (λ_ _ _ _ k1 e1 S1 e2=>Ex B S e1 S1 (k1.get bC hd) hl e2) (λ_ _ e1=>MU B S e1) (λ_ _ _ _ k1 e1 S1 e2=>MV B S e1 S1 (k1.get bC hd) hl e2)
 y5 {σ d N x t b p q s s1 s2 es w} h h0 hk bC hd hl hN h1 h2 hle:=by
  have S:=h.2.2;have S0:=S.set (s.k+1);exact T2 (l2:=.o) (b:=b) (r:=(.pc q,s2)) (λae=>ae.length) (λae=>ae++[O.aD (bp es x (.str (vn (s.k+1))))]) S .set (h1 _ .set ⟨h.1,h.2.1,S0⟩) h2 (λ_=>.add) hN hle rfl (λ_ _ _ _ k1 e1 S1 e2=>PG B S (mx B S h0 hk) S0 e1 S1 (k1.get bC hd) hl e2) (λ_ _ e1=>MZ B S (mx B S h0 hk) S0 e1) (λ_ _ _ _ k1 e1 S1 e2=>M0 B S (mx B S h0 hk) S0 e1 S1 (k1.get bC hd) hl e2)
 xV {σ d N n x t b p q s s1 s2 es w} h h0 hk bC hd hl hN h1 h2 hle:=by
  have S:=h.2.2;have S0:=S.set (s.k+1);exact T2 (l2:=.o) (b:=b) (r:=(.pc q,s2)) (λae=>ae.length) (λae=>ae++[O.aD (bp es x (.str (vn (s.k+1))))]) S .set (h1 _ .set ⟨h.1,h.2.1,S0⟩) h2 (λ_=>.add) hN hle rfl (λ_ _ _ _ k1 e1 S1 e2=>Mx B S (mx B S h0 hk) S0 e1 S1 (k1.get bC hd) hl e2) (λ_ _ e1=>JH B S (mx B S h0 hk) S0 e1) (λ_ _ _ _ k1 e1 S1 e2=>JI B S (mx B S h0 hk) S0 e1 S1 (k1.get bC hd) hl e2)
 xW {σ d N m x t b r0 es f} hm bC hd hl hN h1 h2 hle:=⟨h1.1,λhc n hn=>by
  refine b6 (h1.1) λm0 S=>?_;obtain⟨k,rfl⟩:=jq (n:=n) (cJ ‹_›);have mono:=CP m.toNat hle;have zQ:∀j,j<=m.toNat->(cV f j r0).2.c<=5000:=λj hj=>by obtain⟨w,q⟩:=mono j hj;exact dQ q.c hc
  have FW:∀j,j<=m.toNat->(cV f j r0).2.fl=true->(cV f m.toNat r0).2.fl=true:=λj hj=>by obtain⟨w,q⟩:=mono j hj;exact q.fl
  refine eJ.elim (h1.2 (zQ 0 (gP _)) (k+1) (ct (bE ‹_›))) (λf1 ae e1 k1 S1=>?_) λf1 ae e1 k1=>?_
  ·have step:∀j af,j<m.toNat->(cV f j r0).2.fl=false->Kp a σ af->Self af sf a (cV f j r0).2.k->eJ P sc sf a .z (k+1) b af.length (af++[.aD (bp es x (cV f j r0).1.v)]) (cV f (j+1) r0):=
    λj af hj hf kj Sj=>(h2 j af hj kj ⟨hf,zQ j (bE ‹_›),Sj⟩).2 (zQ (j+1) ‹_›) (k+1) (ct (bE ‹_›))
   have good:∀j v af,j<m.toNat->(cV f j r0).2.fl=false->(cV f (j+1) r0).2.fl=false->(v=(cV f j r0).1.v/\Kp a σ af/\Self af sf a (cV f j r0).2.k)->(∃m',Self af sf a m')/\∃es,af[d]?=some (.aD es)/\es.length<=aO/\∃v' cO,av P sc (k+1) 27 [.ref sf,b.ag,.ref af.length] (af++[.aD (bp es x v)])=.ok v' cO/\(v'=(cV f (j+1) r0).1.v/\Kp a σ cO/\Self cO sf a (cV f (j+1) r0).2.k):=by
    intro j v af hj hf hf' ⟨hv,kj,Sj⟩;subst hv;refine⟨⟨_,Sj⟩,es,kj.get bC hd,hl,?_⟩;refine eJ.elim (step j af hj hf kj Sj) (λf2 ao e2 k2 S2=>?_) λf2 _ _ _=>?_
    ·exact⟨_,ao,e2,rfl,(kj.trans .add).trans k2,S2⟩
    ·(replace f2:=hf'▸f2);exact ff f2
   cases hF:(cV f m.toNat r0).2.fl with
   |false=>
    have hall:∀j,j<=m.toNat->(cV f j r0).2.fl=false:=λj hj=>by
     cases hx:(cV f j r0).2.fl with
     |false=>rfl
     |true=>(replace hF:=(FW j hj hx)▸hF);exact tf hF
    refine fF (CF B (sc:=sc) (n:=k) (d:=d) (x:=x) (q:=b) (k:=m) S ⟨hm.1,by exact lI 0x7247d078cc049049205a4c [_] rfl hm.2⟩ e1 (λj v af=>v=(cV f j r0).1.v/\Kp a σ af/\Self af sf a (cV f j r0).2.k) ⟨rfl,k1,S1⟩ (λj v af hj hI=>good j v af hj (hall j (bE ‹_›)) (hall (j+1) ‹_›) hI)) λv ao e2 hv k2 S2=>?_;replace e2:=hv▸e2;exact .inl ⟨hF,ao,e2,k2,S2⟩
   |true=>
    refine ca (wq (λj=>(cV f j r0).2.fl) f1 m.toNat hF) λj0 hj0 y8 y9=>?_
    obtain⟨ao,e2,k2⟩:=JJ B (sc:=sc) (n:=k) (d:=d) (x:=x) (q:=b) (k:=m) (c:=7) S ⟨hm.1,by exact lI 0x7247d078cc049049205a4c [_] rfl hm.2⟩ e1 j0 hj0 (λj v af=>v=(cV f j r0).1.v/\Kp a σ af/\Self af sf a (cV f j r0).2.k) (Kp a σ) ⟨rfl,k1,S1⟩ (λj v af hj hI=>good j v af (by exact lN 0xd06130124124124814d06138538184c [_,_,_] rfl hj0 hj) (y8 j (bE ‹_›)) (y8 (j+1) ‹_›) hI) (λv af ⟨hv,kj,Sj⟩=>by
     subst hv;refine⟨⟨_,Sj⟩,es,kj.get bC hd,hl,?_⟩;refine eJ.elim (step j0 af hj0 (y8 j0 (aR _)) kj Sj) (λf2 _ _ _ _=>?_) λf2 ao e2 k2=>?_
     ·have y9:(cV f (j0+1) r0).2.fl=true:=y9;(replace f2:=y9▸f2);exact tf f2
     ·exact⟨ao,e2,(kj.trans .add).trans k2⟩)
    exact .inr ⟨hF,ao,e2,k2⟩
  ·exact .inr ⟨FW 0 (gP _) f1,ae,JF B S e1,k1⟩⟩
 y6 {σ d N g x kd t b s r es} h bC hd hl hN h1:=⟨⟨_,h.2.2⟩,λhc n hn=>by
  refine b6 (jq (cJ ‹_›)) λk bh=>?_;subst bh;have S:=h.2.2;refine eJ.elim ((h1 σ (.ax [.str x,t.ag,.ref d]) (.refl _) h rfl).2 hc (k+1) (ct (bE ‹_›))) (λf2 ao e2 k2 S2=>?_) λf2 ao e2 k2=>?_
  ·exact .inl ⟨f2,ao,Ey B S hd hl e2,Kp.add.trans k2,S2⟩
  ·exact .inr ⟨f2,ao,OO B S hd hl e2,Kp.add.trans k2⟩⟩
 y7 {σ d N g x t b p q s s1 s2 es w} h h0 hk bC hd hl hN h1 h2 hle:=⟨⟨_,h.2.2⟩,λhc n hn=>by
  refine b6 (jq (cJ ‹_›)) λk bh=>?_;subst bh;have S:=h.2.2;have e0:=mx (sc:=sc) B (n:=k) S h0 (Int.le_of_lt ‹_›);have S0:=S.set (s.k+1);have jW:=mx (sc:=sc) B (n:=k) S0 (by exact lI 0x61320049049205320 [_] rfl h0) hk;have vT:=S0.set (s.k+1+1);have k0:Kp a σ ((σ.set a (.dq (s.k+1))).set a (.dq (s.k+1+1))):=Kp.set.trans .set;refine eJ.elim ((h1 _ k0 ⟨h.1,h.2.1,vT⟩).2 (dQ hle.c hc) (k+1) (ct (bE ‹_›))) (λf1 ae e1 k1 S1=>?_) λf1 ae e1 k1=>?_
  ·have k1:=(k0.trans .add).trans k1;refine eJ.elim ((h2 ae k1 ⟨f1,dQ hle.c hc,S1⟩).2 hc (k+1) (ct (bE ‹_›))) (λf2 ao e2 k2 S2=>?_) λf2 ao e2 k2=>?_
   ·exact .inl ⟨f2,ao,PH B S e0 S0 jW vT (k0.get bC hd) hl e1 S1 (k1.get bC hd) hl e2,(k1.trans .add).trans k2,S2⟩
   ·exact .inr ⟨f2,ao,M5 B S e0 S0 jW vT (k0.get bC hd) hl e1 S1 (k1.get bC hd) hl e2,(k1.trans .add).trans k2⟩
  ·exact .inr ⟨hle.fl f1,ae,M4 B S e0 S0 jW vT (k0.get bC hd) hl e1,(k0.trans .add).trans k1⟩⟩
end
def GX:SL:=.cons (.ite (.and {.cS "str" (.aa 3),.or {.not (.cS "str" (.aa 2)),.cmp .NotEq (.aa 2) (.aa 3)}}) {.ret (.bool false)} .nil) {.ite (.and {.not (.cS "str" (.aa 3)),.not (.call 79 {.aa 2,.aa 3})}) {.ret (.bool false)} .nil}
theorem sz(h:ak C a L σ=.ok x ae)(h2:cS t x ae=.ok b ae):bP C (.cS t a) L σ=.ok b ae:=(aU h).trans h2
theorem OU(ht:t∈fO)(s:Str)(σ:H):cS t (.str s) σ=.ok (t=="str") σ:=by rw[As,if_pos ht];rfl
theorem DH(ht:t∈fO)(s:Int)(σ:H):cS t (.int s) σ=.ok (t=="int") σ:=by rw[Ar,if_pos ht];rfl
theorem xY(ht:t∈fO)(s:List V)(σ:H):cS t (.ax s) σ=.ok (t=="tuple") σ:=by rw[Au,if_pos ht];rfl
theorem Lc(h1:ak C a L σ=.ok (.ax us) σ)(h2:ak C b L σ=.ok (.ax ws) σ)(h3:dP (λk=>M.pure (gZ us ws i j k)) (aW C bd) (us.length+1) 0 L σ=.ok f L1 ae):cF C (.g8 i j a b bd) L σ=.ok f L1 ae:=by
 simp only[JV,Qh.N.bind,Qh.N.lift,h1,h2];exact h3
section
variable{P:Prog}{sc:List Int}
def Wv(P:Prog)(sc:List Int)(n:Nat)(v:V):Prop:=(∃s,v=.str s)∨((∀σ,cS "str" v σ=.ok false σ)/\∀σ,av P sc n 79 [v,v] σ=.ok (.bool true) σ)
theorem M8(h:Wv P sc n v)(x y:Option V)(σ:H):aW (cx P sc n) GX [x,y,some v,some v] σ=.ok .next [x,y,some v,some v] σ:=by
 rcases h with ⟨s,rfl⟩|⟨h1,h2⟩
 ·have hi:∀i,(i=2∨i=3)->bP (cx P sc n) (.cS "str" (.aa i)) [x,y,some (.str s),some (.str s)] σ=.ok true σ:=λi hi=>sz (aE (by rcases hi with rfl|rfl<;>rfl)) (OU (by decide) s σ);refine(bX (jg (all_cons (hi 3 (.inr rfl)) (λ_=>all_cons (jj (any_cons (qk (hi 2 (.inl rfl))) (λ_=>any_cons (ne_str (aE rfl) (aE rfl)) (λ_=>any_nil) (λq=>by exact ff q)) (λq=>by exact ff q))) (λq=>by exact ff q) (λ_=>⟨rfl,rfl⟩)) (λq=>by exact tf q)))).trans ?_;exact(bX (jg (all_cons (qk (hi 3 (.inr rfl))) (λq=>by exact ff q) (λ_=>⟨rfl,rfl⟩)))).trans fy
 ·have hi:bP (cx P sc n) (.cS "str" (.aa 3)) [x,y,some v,some v] σ=.ok false σ:=sz (aE rfl) (h1 σ);refine(bX (jg (all_cons hi (λq=>by exact ff q) (λ_=>⟨rfl,rfl⟩)))).trans ?_;exact(bX (jg (all_cons (qk hi) (λ_=>all_cons (qk (Dq rfl (h2 σ))) (λq=>by exact ff q) (λ_=>⟨rfl,rfl⟩)) (λq=>by exact tf q)))).trans fy
theorem CQ(h:∀v∈vs,Wv P sc n v)(x y:Option V)(σ:H):∀(r k:Nat)(a b:Option V),k+r=vs.length->∃a' b',dP (λk=>M.pure (gZ vs vs 2 3 k)) (aW (cx P sc n) GX) (r+1) k [x,y,a,b] σ=.ok .next [x,y,a',b'] σ
|0=>λk a b hk=>⟨a,b,tK (by unfold gZ;rw[List.getElem?_eq_none (by exact lN 0x34c04904920630180d [_,_] rfl hk)];rfl)⟩
|r+1=>λk a b hk=>by
  have hlt:k<vs.length:=lN 0x34184c04900904920634106138c [_,_,_] rfl hk;refine eY (CQ h x y σ r (k+1) (some vs[k]) (some vs[k]) (cK (lN 0x38134184c04900904920638106134c [_,_,_] rfl hk) (lN 0x4e06134c04904920630106138d [_,_,_] rfl hk))) λa' b' e=>?_;refine⟨a',b',?_⟩;exact(q5 (by unfold gZ;rw[List.getElem?_eq_getElem hlt];rfl) rfl (M8 (h _ (List.getElem_mem hlt)) x y σ)).trans e
variable(h6:P.fns 6=some pq)(eV:P.fns 79=some sR)
include h6 eV
theorem DI(i:Int)(n:Nat)(σ:H):av P sc (n+2) 79 [.int i,.int i] σ=.ok (.bool true) σ:=by
 rw[cp eV rfl];exact(congrArg bW (b8 (sz (aE rfl) (DH (by decide) i σ)) (bw (BZ (aN rfl (IL h6 i n σ)) (nu (aE rfl) (aE rfl) ((xN i i σ).trans (by rw[beq_self_eq_true]))))))).trans rfl
omit h6 in
theorem OV(hl:vs.length<=aO)(h:∀v∈vs,Wv P sc n v)(σ:H):av P sc (n+1) 79 [.ax vs,.ax vs] σ=.ok (.bool true) σ:=by
 rw[cp eV rfl];refine eY (CQ h (some (.ax vs)) (some (.ax vs)) σ vs.length 0 none none (cK (lN 825917182536 [_] rfl) (lN 82144399944 [_] rfl))) λa' b' e=>?_;have GY:∀i L,cq L i=some (.ax vs)->ak (cx P sc n) (.len (.aa i)) L σ=.ok (.int vs.length) σ:=λi L hL=>by
  rw[j6,aU (aE hL)];show(if vs.length<=aO then _ else _:M V) σ=_;rw[if_pos hl];rfl
 have hne:dH .NotEq (.int vs.length) (.int vs.length) σ=.ok false σ:=by
  rw[mq];show Res.ok (!((vs.length:Int)==vs.length)) σ=_;rw[beq_self_eq_true];rfl
 exact(congrArg bW ((bX (sz (aE rfl) (xY (by decide) vs σ))).trans ((bX (jj (any_cons (qk (sz (aE rfl) (xY (by decide) vs σ))) (λ_=>any_cons (dY (GY 0 _ rfl) (GY 1 _ rfl) hne) (λ_=>any_nil) (λq=>by exact ff q)) (λq=>by exact ff q)))).trans ((dC (Lc (aE rfl) (aE rfl) e)).trans (bw rfl))))).trans rfl
theorem Wv.i(i:Int)(hn:2<=n):Wv P sc n (.int i):=by
 refine b6 (jq hn) λk bh=>?_;clear hn;subst bh;exact .inr ⟨λσ=>DH (by decide) i σ,λσ=>DI h6 eV i k σ⟩
omit h6 eV in
theorem Wv.s(x:Str):Wv P sc n (.str x):=.inl ⟨x,rfl⟩
omit h6 eV in
theorem Tm.M9(t:Tm)(σ:H):cS "str" t.ag σ=.ok false σ:=by cases t<;>exact xY (by decide) _ σ
omit h6 in
theorem Wv.t{n:Nat}{t:Tm}(e:t.ag=.ax vs)(hl:vs.length<=aO)(h:∀v∈vs,Wv P sc n v):Wv P sc (n+1) t.ag:=
 .inr ⟨t.M9,λσ=>by rw[e];exact OV eV hl h σ⟩
def FX(q:V->Prop):List V->Prop
|[]=>True
|v::r=>q v/\FX q r
omit h6 eV in
theorem kr:∀{vs:List V},FX q vs->∀v∈vs,q v
|[]=>λ_ v hv=>absurd hv List.not_mem_nil
|a::r=>λh v hv=>by
  rcases List.mem_cons.mp hv with rfl|hv
  ·exact h.1
  ·exact kr h.2 v hv
theorem Qo:∀(t:Tm)(n:Nat),t.depth+2<=n->Wv P sc n t.ag:=by
 intro t
 induction t with
|num i=>intro n hn;obtain⟨k,rfl⟩:=eD (gO ‹_›);simp only[lA,lB,lC,lD,lE,lF,lG,lH,lJ] at hn;exact Wv.t eV rfl (nb rfl) (kr ⟨.s _,Wv.i h6 eV _ (ct ‹_›),trivial⟩)
|name x=>intro n hn;obtain⟨k,rfl⟩:=eD (gO ‹_›);exact Wv.t eV rfl (nb rfl) (kr ⟨.s _,.s _,trivial⟩)
|un w a ih=>intro n hn;obtain⟨k,rfl⟩:=eD (cJ ‹_›);simp only[lA,lB,lC,lD,lE,lF,lG,lH,lJ] at hn;exact Wv.t eV rfl (nb rfl) (kr ⟨.s _,ih k (nd (aR _) ‹_›),trivial⟩)
|use g a ih=>intro n hn;obtain⟨k,rfl⟩:=eD (cJ ‹_›);simp only[lA,lB,lC,lD,lE,lF,lG,lH,lJ] at hn;exact Wv.t eV rfl (nb rfl) (kr ⟨.s _,.s _,ih k (nd (aR _) ‹_›),trivial⟩)
|aj w a b i1 i2=>intro n hn;obtain⟨k,rfl⟩:=eD (cJ ‹_›);simp only[lA,lB,lC,lD,lE,lF,lG,lH,lJ] at hn;exact Wv.t eV rfl (nb rfl) (kr ⟨.s _,i1 k (jt mL ‹_›),i2 k (jt mR ‹_›),trivial⟩)
|a9 x a b i1 i2=>intro n hn;obtain⟨k,rfl⟩:=eD (cJ ‹_›);simp only[lA,lB,lC,lD,lE,lF,lG,lH,lJ] at hn;exact Wv.t eV rfl (nb rfl) (kr ⟨.s _,.s _,i1 k (jt mL ‹_›),i2 k (jt mR ‹_›),trivial⟩)
|bu m x a b i1 i2=>intro n hn;obtain⟨k,rfl⟩:=eD (cJ ‹_›);simp only[lA,lB,lC,lD,lE,lF,lG,lH,lJ] at hn;exact Wv.t eV rfl (nb rfl) (kr ⟨.s _,Wv.i h6 eV _ (jt mL ‹_›),.s _,i1 k (jt mL ‹_›),i2 k (jt mR ‹_›),trivial⟩)
|def_ g x kd a b i1 i2=>intro n hn;obtain⟨k,rfl⟩:=eD (cJ ‹_›);simp only[lA,lB,lC,lD,lE,lF,lG,lH,lJ] at hn;exact Wv.t eV rfl (nb rfl) (kr ⟨.s _,.s _,.s _,.s _,i1 k (jt mL ‹_›),i2 k (jt mR ‹_›),trivial⟩)
|when a b c i1 i2 i3=>intro n hn;obtain⟨k,rfl⟩:=eD (cJ ‹_›);simp only[lA,lB,lC,lD,lE,lF,lG,lH,lJ] at hn;exact Wv.t eV rfl (nb rfl) (kr ⟨.s _,i1 k (jt mL ‹_›),i2 k (jt mM ‹_›),i3 k (jt mC ‹_›),trivial⟩)
end
theorem HG.to(g:Gr G)(h:HG d Γ l f t k):G d Γ l f t k:=by
 induction h with
|num=>exact g.num
|name h=>exact g.name h
|kz h=>exact g.kz h
|kW h=>exact g.kW h
|kX=>exact g.kX
|lb=>exact g.lb
|when _ _ _ i1 i2 i3=>exact g.when i1 i2 i3
|use h _ i=>exact g.use h i
|a9 _ _ i1 i2=>exact g.a9 i1 i2
|bu h _ _ i1 i2=>exact g.bu h i1 i2
|def_ h _ _ i1 i2=>exact g.def_ h i1 i2
|bJ _ i=>exact g.bJ i
|hole _ i=>exact g.hole i
|lift _ i=>exact g.lift i
|run _ i=>exact g.run i
|aj _ _ i1 i2=>exact g.aj i1 i2
|kept _ _ i1 i2=>exact g.kept i1 i2
|twice _ _ _ i1 i2 i3=>exact g.twice i1 i2 i3
def Ks(σ af:H):Prop:=∀(i:Nat)(o:O),σ[i]?=some o->af[i]?=some o
theorem Ks.add:Ks σ (σ++τ):=λ_ _ h=>old h
theorem Ks.trans(h:Ks σ af)(h':Ks af cO):Ks σ cO:=λi o q=>h' i o (h i o q)
theorem Kp.ks(h:Kp a σ af)(τ:H)(e:∃ρ,σ=τ++ρ)(ha:τ.length<=a):Ks τ af:=λi o q=>by
 obtain⟨ρ,rfl⟩:=e;have:i<τ.length:=(List.getElem?_eq_some_iff.mp q).1;exact h.get (Nat.ne_of_lt (Nat.lt_of_lt_of_le this ha)) (old q)
structure vU(P:Prog):Prop extends qw P HG,nD P,Kinds P,mc P where
 f6:P.fns 6=some pq
 zR:P.fns 53=some Dl
 GZ:P.fns 63=some AL
 zS:P.fns 68=some Dk
 sQ:P.fns 78=some Am
 zT:P.fns 79=some sR
 G0:P.fns 80=some rj
def G1:Kd->Nat
|.aB=>68|.aY=>53
def vV:Sg:=⟨0,false,0⟩
def fin(t:Tm):Bv×Sg:=sd t (λ_=>.no) .z vV
theorem Qp(h:d<=5):0+W d 0<=K0:=by
 have:∀d:Fin 6,0+W d.val 0<=K0:=by decide+kernel
 exact this ⟨d,by(exact Nat.succ_le_succ ‹_›)⟩
theorem OW(h:d<=5):fb true d 0<=514:=by
 have:∀d:Fin 6,fb true d.val 0<=514:=by decide+kernel
 exact this ⟨d,by(exact Nat.succ_le_succ ‹_›)⟩
section
variable{st:Nat}{aC:H->Sg->Prop}{bf:H->V->Str->Tm->Nat->Prop}{Out:Lv->Nat->Tm->Nat->H->Bv×Sg->Prop}
theorem DJ(K:qm st aC bf Out)(h:HG d [] .z true t k)(hd:d<=5)(hs:aC σ vV)(hne:dd≠st)(zU:σ[dd]?=some (.aD [])):Out .z 514 t dd σ (fin t):=
 K.more (stage K h false 0 0 (bq _) (λq=>by cases q) (λ_ g ka k q=>by exact bS q) hd (λ_=>.no) (λ_=>none) vV σ dd [] (λ_=>rfl) (λx e q=>by exact bS q) (bq _) (λy m q=>by exact bS q) (Qp hd) hs hne zU (by show 0+(8*d+8)<=aO;have:aO=1000000:=rfl;exact lN 0xd041a04328801241240248248165306007247d078cd [_,_] rfl hd this) (λx e q=>by exact bS q)) (OW hd)
end
section
variable{P:Prog}{sc:List Int}
theorem DK(h6:P.fns 6=some pq)(eV:P.fns 79=some sR)(h:HG d [] .z true t k)(hd:d<=5)(hn:32<=n)(σ:H):av P sc n 79 [(fin t).1.v,(fin t).1.v] σ=.ok (.bool true) σ:=by
 have g:=(good h false 0 (bq _) (λ_ g ka k q=>by exact bS q) hd (λ_=>.no) (λ_=>none) vV (λx e q=>by exact bS q) (bq _) (λy m q=>by exact bS q)).1;clear h;cases k with
|aB=>
  obtain⟨i,e,_⟩:=g;have e:(fin t).1=.num i:=e;refine e.symm▸?_;refine b6 (jq (cJ ‹_›)) λk bh=>?_;clear hn;subst bh;exact DI h6 eV i k σ
|aY=>
  refine nc (g) λp e _ _ hp _=>?_;have e:(fin t).1=.pc p:=e;refine e.symm▸?_;rcases Qo h6 eV p n (lN 0xd06230124124124814d807805f8c [_,_] rfl hn hp) with ⟨s,q⟩|⟨_,q⟩
  ·exact absurd q (by(clear q e hp;cases p)<;>exact V.noConfusion)
  ·exact q σ
variable(B:vU P)
include B
theorem Qq(h:HK [] .z true t k)(hn:3*t.depth+3<=n)(hd:t.depth<=1000):∃τ,av P sc (n+1) 49 [t.ag] σ=.ok (.str k.s) (σ++τ):=by
 have hlim:(1000000:Nat)<=aO:=aR _;obtain⟨τ,e⟩:=Js B.toKinds h n hn σ.length [] (σ++[.aD []]) bL (λ_=>rfl) (by show 0+t.depth<=aO;exact lN 0xd04c8012412412481681ef3053401c91f41e3 [_,_] rfl hd hlim);refine⟨[.aD []]++τ,?_⟩;rw[cp B.Gv rfl,←List.append_assoc];exact(congrArg bW (bw (aN rfl e))).trans rfl
theorem FY:ak (cx P sc n) (.glob 0) L σ=.ok (.str Kd.aB.s) σ:=by
 (refine om.symm▸?_);show da (P.consts 0) σ=_;(refine(B.c0).symm▸?_);rfl
theorem FZ:ak (cx P sc n) (.glob 1) L σ=.ok (.str Kd.aY.s) σ:=by
 (refine om.symm▸?_);show da (P.consts 1) σ=_;(refine(B.c1).symm▸?_);rfl
theorem Bw(h:HG d [] .z true t k)(hd:d<=5)(hc:(fin t).2.c<=5000)(hn:514<=n)(σ:H):
  ((fin t).2.fl=false/\∃af,av P sc (n+1) (G1 k) [t.ag] σ=.ok (fin t).1.v af/\Ks σ af)∨((fin t).2.fl=true/\∃af,av P sc (n+1) (G1 k) [t.ag] σ=.aF 7 af/\Ks σ af):=by
 have hk:=h.to FF;have dZ:=hk.2;obtain⟨m,rfl⟩:∃m,n=m+1:=⟨n-1,by exact cK (lN 0x184284c308049201241248 [_] rfl) (lN 0x30184284c2012480490090492053021e8 [_] rfl hn)⟩;obtain⟨τ,e0⟩:=Qq (sc:=sc) B (n:=m) (σ:=σ) hk.1 (by exact lN 0x3418c43230490490c948920594e1418843a63050613421e8 [_,_,_] rfl hd dZ hn) (by exact lN 0x281ef30124124624816534506210d98c [_,_] rfl hd dZ);have hl:(σ++τ++[O.dq 0]++[O.inst 5 (σ++τ).length]).length=(σ++τ).length+2:=by simp only[List.length_append,List.length_singleton]
 have kk:∀af,Kp (σ++τ).length (σ++τ++[.dq 0]++[.inst 5 (σ++τ).length]++[.aD []]) af->Ks σ af:=λaf q=>Ks.add.trans (q.ks (σ++τ) ⟨[.dq 0]++([.inst 5 (σ++τ).length]++[.aD []]),by simp only[List.append_assoc]⟩ (aR _));refine eJ.elim ((DJ (JK (sc:=sc) B.tonD ((σ++τ).length+1) (σ++τ).length) h hd (σ:=σ++τ++[.dq 0]++[.inst 5 (σ++τ).length]++[.aD []]) (dd:=(σ++τ++[O.dq 0]++[O.inst 5 (σ++τ).length]).length) ⟨rfl,by decide,(qT.add)⟩ (hl▸Nat.ne_of_gt (Nat.le_succ _)) bL).2 hc (m+1) ‹_›) (λf1 ae e1 k1 S1=>?_) λf1 ae e1 k1=>?_
 ·refine .inl ⟨f1,ae,?_,kk ae k1⟩;clear hk h;cases k with
  |aB=>show av _ _ _ 68 _ _=_;rw[cp B.zS rfl];exact(congrArg bW ((bX (ne_str (aN rfl e0) (FY B))).trans (bw (cN tY qT rfl e1)))).trans rfl
  |aY=>show av _ _ _ 53 _ _=_;rw[cp B.zR rfl];exact(congrArg bW ((bX (ne_str (aN rfl e0) (FZ B))).trans (bw (cN tY qT rfl e1)))).trans rfl
 ·refine .inr ⟨f1,ae,?_,kk ae k1⟩;clear hk h;cases k with
  |aB=>show av _ _ _ 68 _ _=_;rw[cp B.zS rfl];exact(congrArg bW ((bX (ne_str (aN rfl e0) (FY B))).trans (dK (fP (ej tY qT rfl e1))))).trans rfl
  |aY=>show av _ _ _ 53 _ _=_;rw[cp B.zR rfl];exact(congrArg bW ((bX (ne_str (aN rfl e0) (FZ B))).trans (dK (fP (ej tY qT rfl e1))))).trans rfl
omit B in
theorem B6(h:aW C b L σ=.aF c L1 ae):cF C (.g9 b c hb) L σ=aW C hb L1 ae:=by
 simp only[Bz,h,if_true]
omit B in
theorem tO(h:cF C s L σ=.ok (.ret v) L1 ae):aW C {s} L σ=.ok (.ret v) L1 ae:=tL h
theorem AS(h:HG d [] .z true t k)(hd:d<=5)(hc:(fin t).2.c<=5000)(hn:514<=n)(σ:H):
  ∃l af,av P sc (n+2) 78 [.str k.s,t.ag] σ=.ok (.ref l) af/\Ks σ af/\af[l]?=some (.ah (if(fin t).2.fl=true then [] else [(fin t).1.v])):=by
 rcases Bw (sc:=sc) B h hd hc hn σ with ⟨f1,ae,e1,k1⟩|⟨f1,ae,e1,k1⟩
 ·refine⟨ae.length,ae++[.ah [(fin t).1.v]],?_,k1.trans .add,?_⟩
  ·clear h;cases k with
   |aB=>show av _ _ _ 78 _ _=_;rw[cp B.sQ rfl];exact(congrArg bW (tO (CD (b8 (ae:=σ) (by rfl') (bw (dG (az (aN (by rfl) e1) ba) (nb rfl))))))).trans rfl
   |aY=>show av _ _ _ 78 _ _=_;rw[cp B.sQ rfl];exact(congrArg bW (tO (CD (jmp 1 (by rfl') (bw (dG (az (aN rfl e1) ba) (nb rfl))))))).trans rfl
  ·rw[if_neg (by(refine f1.symm▸?_);exact Bool.noConfusion)];exact bL
 ·refine⟨ae.length,ae++[.ah []],?_,k1.trans .add,?_⟩
  ·clear h;cases k with
   |aB=>show av _ _ _ 78 _ _=_;rw[cp B.sQ rfl];exact(congrArg bW (tO ((B6 (ei (by rfl') (dK (fP (EO (kY (xX rfl e1))))))).trans (bw (dG ba (nb rfl)))))).trans rfl
   |aY=>show av _ _ _ 78 _ _=_;rw[cp B.sQ rfl];exact(congrArg bW (tO ((B6 (jmp 1 (by rfl') (dK (fP (EO (kY (xX rfl e1))))))).trans (bw (dG ba (nb rfl)))))).trans rfl
  ·(refine(if_pos f1).symm▸?_);exact bL
end
theorem CR:ak C (.aD [] .nil) L σ=.ok (.ref σ.length) (σ++[.aD []]):=rfl
theorem JL(h:CS F p):∀φ:Str->Int,(∀x,0<=φ x)->0<=p.cost φ:=by
 induction h with
|num=>exact λ_ _=>by simp only[lK,lL,lM,lO,lP,lQ,lR,lS,lT];decide
|name=>exact λ_ _=>by simp only[lK,lL,lM,lO,lP,lQ,lR,lS,lT];decide
|un _ i=>intro φ h;have:=i φ h;simp only[lK,lL,lM,lO,lP,lQ,lR,lS,lT];exact lI 0x4180c860049049205320 [_] rfl this
|@use F g a _ _ i=>intro φ h;have y1:=i φ h;have y2:=h g;simp only[lK,lL,lM,lO,lP,lQ,lR,lS,lT];exact lI 0x134132180124124124814d805320 [_,_] rfl y1 y2
|aj _ _ i j=>intro φ h;have y1:=i φ h;have y2:=j φ h;simp only[lK,lL,lM,lO,lP,lQ,lR,lS,lT];exact lI 0x104180d32180124124124814c805360 [_,_] rfl y1 y2
|when _ _ _ i j k=>intro φ h;have y1:=i φ h;have y2:=j φ h;have y3:=k φ h;simp only[lK,lL,lM,lO,lP,lQ,lR,lS,lT];exact lI 0x4104180e34c86004904904904920532014d8053a0 [_,_,_] rfl y1 y2 y3
|a9 _ _ i j=>intro φ h;have y1:=i φ h;have y2:=j φ h;simp only[lK,lL,lM,lO,lP,lQ,lR,lS,lT];exact lI 0x104180d32180124124124814c805360 [_,_] rfl y1 y2
|bu hn _ _ i j=>intro φ h;have y1:=i φ h;have y2:=Int.mul_nonneg hn.1 (j φ h);simp only[lK,lL,lM,lO,lP,lQ,lR,lS,lT];exact lI 0x134132180124124124814c805360 [_,_] rfl y1 y2
|@def_ F g x kd a b _ _ i j=>intro φ h;have h1:=i φ h;have h2:=j (λy=>if g==y then a.cost φ else φ y) (λy=>by show 0<=if(g==y)=true then a.cost φ else φ y;split;exact h1;exact h y);simp only[lK,lL,lM,lO,lP,lQ,lR,lS,lT];exact lI 0x4c860049049205320 [_] rfl h2
section
variable{P:Prog}{sc:List Int}(B:vU P)
include B
theorem JM(h:HG d [] .z true t k)(hd:d<=5)(hn:514<=n)(σ:H):
  ∃l af v fl g,av P sc (n+1) 63 [t.ag] σ=.ok (.ref l) af/\af[l]?=some (.ah [v,.bool fl,.bool g])/\(g=false->(fin t).2.c<=5000/\v=(fin t).1.v/\fl=(fin t).2.fl):=by
 have dZ:=(h.to FF).2;have hlim:(1000000:Nat)<=aO:=aR _;obtain⟨m,rfl⟩:∃m,n=m+1:=⟨n-1,by exact cK (lN 0x184284c308049201241248 [_] rfl) (lN 0x30184284c2012480490090492053021e8 [_] rfl hn)⟩;obtain⟨τ,ec⟩:=B5 B.tomc h.cs m σ.length [] (λ_=>0) (σ++[O.aD []]) (lN 0x34c04904904918920594e1418843a63050613421e8 [_,_,_] rfl hd dZ hn) bL (by show 0+t.depth<=aO;exact lN 0x34132004904904918920594e1418843a63053401c91f41e3 [_,_,_] rfl hd dZ hlim) (λg hg=>by obtain⟨l,ka,k,q⟩:=hg;exact bS q);have hp:=JL h.cs (λ_=>0) λ_=>bq _;generalize (t.cost λ_=>0)=qM at ec hp;generalize σ++[O.aD []]++τ=ae at ec;have hq:qM.fdiv 1000=qM/1000:=Int.fdiv_eq_ediv_of_nonneg _ (by decide);generalize ic:qM.fdiv 1000*5001=cc;have hE:∀L:aQ,cq L 0=some t.ag->ak (cx P sc (m+1)) (.ah {.int 0,.bool false,.aj .Mult (.aj .FloorDiv (.call 40 {.aa 0,.aD [] .nil}) (.int 1000)) (.int 5001)}) L σ=.ok (.ref ae.length) (ae++[.ah [.int 0,.bool false,.int cc]]):=λL hL=>
  dG (az rfl (az rfl (az (bT (bT (aN (aP hL (az CR ba)) ec) rfl rfl) rfl (by
   refine jy.symm▸?_;show(if small (qM.fdiv 1000)||small 5001 then _ else _:M V) ae=_
   rw[show small 5001=true by decide,Bool.or_true,if_pos rfl,ic];rfl)) ba))) (nb rfl)
 have hidx:∀(af:H)(L:aQ)(c:Int)(i v:V),cq L 1=some (.ref ae.length)->∀a b c',af[ae.length]?=some (.ah [a,b,c'])->ak (cx P sc (m+1)) (.au (.aa 1) (.int 2)) L af=.ok c' af/\ak (cx P sc (m+1)) (.au (.aa 1) (.int 1)) L af=.ok b af:=λaf L c i v hL a b c' hl=>⟨cC (aE hL) rfl (dF hl rfl (by decide) (by decide)),cC (aE hL) rfl (dF hl rfl (by decide) (by decide))⟩;rw[cp B.GZ rfl]
 by_cases hz:cc=0
 ·clear ic;subst hz;refine ca ((DJ (K5 (sc:=sc) B.tomc ae.length) h hd (σ:=ae++[.ah [.int 0,.bool false,.int 0]]++[.aD []]) (dd:=(ae++[O.ah [.int 0,.bool false,.int 0]]).length) (old bL) (by(refine(List.length_append).symm▸?_;refine(List.length_singleton).symm▸?_);exact Nat.succ_ne_self _) bL) (m+1) ‹_›) λao e2 k2 s2=>?_;have i2:=hidx ao [some t.ag,some (.ref ae.length),some (fin t).1.v] 0 .none .none rfl _ _ _ s2;have i1:=hidx (ae++[.ah [.int 0,.bool false,.int 0]]) [some t.ag,some (.ref ae.length),some .none] 0 .none .none rfl _ _ _ bL;refine⟨ao.length,ao++[.ah [(fin t).1.v,.bool (fin t).2.fl,.bool (decide (5000<(fin t).2.c))]],(fin t).1.v,(fin t).2.fl,decide (5000<(fin t).2.c),?_,bL,λq=>⟨by have:=of_decide_eq_false q;exact lI 0x20738784c04904920520738784c [_] rfl (Int.not_lt.mp this),rfl,rfl⟩⟩;exact(congrArg bW ((bk (hE _ rfl)).trans ((bk rfl).trans ((dC ((kO (dY i1.1 rfl rfl)).trans ((bk (aN (aP rfl (az CR rfl)) e2)).trans fy))).trans (bw (dG (aP rfl (az i2.2 (az (nu i2.1 rfl rfl) ba))) (nb rfl))))))).trans rfl
 ·have y1:0<=qM.fdiv 1000:=hq▸Int.ediv_nonneg hp (by decide);have y2:0<qM.fdiv 1000:=Int.lt_iff_le_and_ne.mpr ⟨y1,λq=>hz (ic▸q▸rfl)⟩;have hbig:5000<cc:=by lia
  have i1:=hidx (ae++[.ah [.int 0,.bool false,.int cc]]) [some t.ag,some (.ref ae.length),some .none] 0 .none .none rfl _ _ _ bL;refine⟨(ae++[O.ah [.int 0,.bool false,.int cc]]).length,ae++[.ah [.int 0,.bool false,.int cc]]++[.ah [.none,.bool false,.bool true]],.none,false,true,?_,bL,λq=>by exact tf q⟩;exact(congrArg bW ((bk (hE _ rfl)).trans ((bk rfl).trans ((bX (dY i1.1 rfl ((xN cc 0 _).trans (by(refine(beq_eq_false_iff_ne.mpr hz).symm▸?_;with_reducible rfl))))).trans (bw (dG (aP rfl (az i1.2 (az (nu i1.1 rfl (by show Res.ok (decide ((5000:Int)<cc)) _=_;(refine(decide_eq_true hbig).symm▸?_;with_reducible rfl))) ba))) (nb rfl))))))).trans rfl
end
def Ss:Tm:=.un .bJ (.a9 "x" (.num 1) (.name "x"))
theorem OX:HG 2 [] .z true Ss .aY:=.bJ (.a9 .num (.name rfl))
section
variable{P:Prog}{sc:List Int}(B:vU P)
include B
theorem OY(hs:sc.length<=63):∃af,av P sc 690 80 [.cy] []=.ok (.bool true) af:=by
 rw[show(690:Nat)=689+1 from rfl,cp B.G0 rfl]
 suffices hw:∃L' af,aW (cx P sc 689) rj.body [some .cy,none,none,none,none,none,none] []=.ok (.ret (.bool true)) L' af by
  refine eY (hw) λL' af e=>?_;exact⟨af,(congrArg bW e).trans rfl⟩
 have hm:∀(L:aQ)(σ:H),cq L 0=some .cy->ak (cx P sc 689) (.call 4 {.aa 0,.int 1}) L σ=.ok (.int (mixed sc 1)) σ:=λL σ h=>
  aN (aP h (by rfl)) (wm B.toBase (n:=687) (by decide) hs σ)
 generalize mixed sc 1=N at hm;have hkd:∃k:Kd,[V.str Kd.aB.s,V.str Kd.aY.s][(N.fmod 2).toNat]?=some (.str k.s):=by
  rcases F1 N with q|q<;>rw[q]
  ·exact⟨.aB,rfl⟩
  ·exact⟨.aY,rfl⟩
 refine bB λXx aI=>?_;obtain⟨k,hk⟩:=hkd;have zV:=jB (P:=P) B.toBase (a:=N.fdiv 2) (b:=8) (by decide);have zU:∃d:Nat,5-((N.fdiv 2).fmod 8).fdiv 3=(d:Int)/\d<=5:=by
  generalize (N.fdiv 2).fmod 8=j at zV;have h3:j.fdiv 3=j/3:=Int.fdiv_eq_ediv_of_nonneg _ (by decide);rw[h3];have a1:=Int.ediv_nonneg zV.1 (by decide:(0:Int)<=3);have a2:j/3<3:=Int.ediv_lt_of_lt_mul (by decide) (Int.lt_trans zV.2 (by decide));exact⟨(5-j/3).toNat,(Int.toNat_of_nonneg (by exact lI 0x8c9600490492058c184c [_] rfl a2)).symm,Int.toNat_le.mpr (by show 5-j/3<=5;exact lI 0x942325049049205320 [_] rfl a1)⟩
 refine aM (zU) λd hd pk=>?_;refine cU (JA B.toqw hs d 689 (by exact lN 0xc47a81a043230490c920594c [_] rfl pk) [] .z k true 1 2 [.ah [.str Kd.aB.s,.str Kd.aY.s],.ah [.int 1,.int 0],.ah []] ⟨1,0,by decide,rfl⟩ rfl (λ_ h=>absurd h List.not_mem_nil) (by simp;exact lN 0xa07bc43230490c920594c [_] rfl pk) (λh=>by cases h)) λt s1 e1 h k1=>?_;refine O0 (JM (sc:=sc) B h pk (n:=688) (by decide) s1) λl3 s3 v fl g e3 h3 hg=>?_;refine aI ?_;have ix:∀(L:aQ)(s:H)(i:Int)(x:V),cq L 3=some (.ref l3)->s[l3]?=some (.ah [v,.bool fl,.bool g])->[v,.bool fl,.bool g][i.toNat]?=some x->0<=i->i<100->index (cx P sc 689) (.ref l3) (.int i) s=.ok x s:=λL s i x hL hl hx h0 h1=>dF hl hx h0 (by exact lI 0x700700700700700700700700700790184c04904920590784184c [_] rfl h1);have g1:aW (cx P sc 689) rj.body [some .cy,none,none,none,none,none,none] []=_:=(bk (v:=.str k.s) (ae:=[.ah [.str Kd.aB.s,.str Kd.aY.s]]) (cC (dG (vs:=[.str Kd.aB.s,.str Kd.aY.s]) (ae:=[]) rfl (nb rfl)) (bT (r:=.int (N.fmod 2)) (hm _ _ rfl) rfl rfl) (dF (vs:=[.str Kd.aB.s,.str Kd.aY.s]) rfl hk (jB (P:=P) B.toBase (a:=N) (b:=2) (by decide)).1 (by lia)))).trans
  ((bk (v:=t.ag) (ae:=s1) (aN (aP rfl (az (dG (vs:=[.int 1,.int 0]) (ae:=[.ah [.str Kd.aB.s,.str Kd.aY.s]]) rfl (nb rfl)) (az rfl (aP rfl (az (dG ba (nb rfl)) (az (x:=.int d) (bT (x:=.int 5) rfl (bT (r:=.int (((N.fdiv 2).fmod 8).fdiv 3)) (bT (r:=.int ((N.fdiv 2).fmod 8)) (bT (r:=.int (N.fdiv 2)) (hm _ _ rfl) rfl rfl) rfl rfl) rfl rfl) (by rw[←hd];rfl)) (by rfl))))))) e1)).trans
  (bk (v:=.ref l3) (ae:=s3) (aN (by rfl) e3)))
 cases g with
|true=>exact⟨_,_,g1.trans (b8 (uW (aE rfl) rfl (ix [none,none,none,some (.ref l3)] s3 2 (.bool true) rfl h3 rfl (by decide) (by decide))) (bw rfl))⟩
|false=>
  refine bB λXx aI=>?_;refine k8 (hg rfl) λhc bh bc=>?_;clear hg;subst bh;subst bc;refine cU (AS (sc:=sc) B h pk hc (n:=687) (by decide) s3) λl5 s5 e5 k5 h5=>?_;refine aI ?_;have g2:=(g1.trans (bX (uW (aE rfl) rfl (ix [none,none,none,some (.ref l3)] s3 2 (.bool false) rfl h3 rfl (by decide) (by decide))))).trans ((bk (cC (aE rfl) rfl (ix [none,none,none,some (.ref l3)] s3 0 _ rfl h3 rfl (by decide) (by decide)))).trans (bk (aN rfl e5)));have vW:=k5 _ _ h3;cases hf:(fin t).2.fl with
  |true=>
   rw[hf] at vW;rw[hf,if_pos rfl] at h5;have hq:dH .Eq (.ref l5) (.ref s5.length) (s5++[.ah []])=.ok true (s5++[.ah []]):=by
    rw[pA];show M.bind (bI (.ref l5)) _ _=_;rw[aU (dX (old h5))];show M.bind (bI (.ref s5.length)) _ _=_;rw[aU (dX bL)]
    rfl
   exact⟨_,_,g2.trans (b8 (uW (aE rfl) rfl (dF vW rfl (by decide) (by decide))) (bw (nu (aE rfl) (dG ba (nb rfl)) hq)))⟩
  |false=>
   rw[hf] at vW;rw[hf,if_neg (Bool.noConfusion)] at h5;obtain⟨f7,s7,e7,k7⟩|⟨f7,_⟩:=Bw (sc:=sc) B OX (by decide) (by decide) (n:=688) (by decide) s5
   ·refine cU (AS (sc:=sc) B h pk hc (n:=687) (by decide) s7) λl6 s6 e6 k6 h6=>?_;rw[hf,if_neg (Bool.noConfusion)] at h6;have hlen:∀(i l:Nat)(L:aQ)(s:H),cq L i=some (.ref l)->s[l]?=some (.ah [(fin t).1.v])->ak (cx P sc 689) (.len (.aa i)) L s=.ok (.int 1) s:=λi l L s hL hl=>by
     rw[j6,aU (aE hL)];exact uw hl (nb rfl)
    have hwp:∀(i l:Nat)(L:aQ)(s:H),cq L i=some (.ref l)->cq L 4=some (fin t).1.v->s[l]?=some (.ah [(fin t).1.v])->cZ (cx P sc 689) {.au (.aa i) (.int 0),.aa 4} L s=.ok [(fin t).1.v,(fin t).1.v] s:=λi l L s hL h4 hl=>
     az (cC (aE hL) rfl (dF hl rfl (by decide) (by decide))) (aP h4 ba)
    have g3:=(g2.trans (bX (uW (aE rfl) rfl (dF vW rfl (by decide) (by decide))))).trans
     ((bX (jj (any_cons (dY (hlen 5 l5 _ _ rfl h5) rfl rfl) (λ_=>any_cons (qk (Dq (hwp 5 l5 _ _ rfl rfl h5) (DK B.f6 B.zT h pk (by decide) s5))) (λ_=>any_nil) (λq=>by exact ff q)) (λq=>by exact ff q)))).trans
     ((dC (iC (aN rfl e7))).trans
     (bk (aN rfl e6))))
    exact⟨_,_,g3.trans (bw (BZ (nu (hlen 6 l6 _ _ rfl h6) rfl rfl) (aN (hwp 6 l6 _ _ rfl rfl h6) (DK B.f6 B.zT h pk (by decide) s6))))⟩
   ·exact absurd f7 (by decide)
end
end Qh
set_option backward.match.sparseCases true
set_option bootstrap.genMatcherCode true
set_option genInjectivity true
set_option genSizeOf true
set_option tactic.hygienic true
end
set_option tactic.hygienic true
namespace Qh
theorem JN:vU (Dn.qj Fi) where
 cell:=rfl
 mixed:=rfl
 drawn:=rfl
 name:=rfl
 next:=rfl
 aB:=rfl
 vP:=rfl
 Gx:=rfl
 f32:=rfl
 Gy:=rfl
 Gz:=rfl
 GA:=rfl
 gr:=QZ
 f0:=rfl
 f1:=rfl
 f2:=rfl
 eU:=rfl
 GG:=rfl
 vQ:=rfl
 GH:=rfl
 zE:=rfl
 zF:=rfl
 c2:=rfl
 c3:=rfl
 c4:=rfl
 Gp:=rfl
 Gq:=rfl
 Gs:=rfl
 Gu:=rfl
 vK:=rfl
 qI:=rfl
 Gv:=rfl
 c0:=rfl
 c1:=rfl
 zI:=rfl
 GL:=rfl
 GN:=rfl
 GO:=rfl
 GP:=rfl
 GQ:=rfl
 sM:=rfl
 GR:=rfl
 f6:=rfl
 zR:=rfl
 GZ:=rfl
 zS:=rfl
 sQ:=rfl
 zT:=rfl
 G0:=rfl
end Qh
open PySem PySem.W PyProof.Rows
set_option maxRecDepth 100000
set_option maxHeartbeats 0
theorem PySem.Challenge.cw_uf040035_10_holds : PySem.Challenge.rw_uf040035_10.Holds := by
 refine Qh.Nb (by rfl) (by rfl) (by rfl) ?_;intro w cb bA mg mb G Y fa o pm cd doc dV kV ho hd hcd hD Su hg args vals as hpre hlay hrd hwl hlo;refine Ground.open G ?_;intro T B D TE TW
 try (refine guard_noD D (by decide+kernel) ?_;clear D)
 wrow_args hpre hlay hrd hwl hlo
 rename_i script hs SQ SS hr1 hl2 SU SV sA xs SW hL ra w1 r0 hI hr hc1 hc2
 have hlen:script.length<=63:=by lia
 have si:=Qh.OY (sc:=script) Qh.JN hlen;obtain⟨af,si⟩:=si;refine Qh.NQ (I:=Qh.Dn) (kd:=Qh.Fi) (L:=80) T TW TE (T.seer (by decide+kernel)) (by decide+kernel) (by decide+kernel) (by decide+kernel) (by decide+kernel) (by decide+kernel) (by decide+kernel) hL hI hlen (dL:=⟨"law",Qh.rj,Qh.z5⟩) rfl (by decide+kernel) Su si λh' tk hk=>?_;refine GoodW.toG ⟨.inl ⟨_,_,_,rfl,λcls=>?_,.bool true,?_,λ_=>⟨List.nodup_nil,λa ha=>nomatch ha⟩⟩,hk,rfl,hg⟩
 ·rfl
 ·rfl'
